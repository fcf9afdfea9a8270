import Derived.RecoverIn
import Derived.Tactics
import Derived.WideLaws
import Derived.Test.YtcpcjocnnclcmaaGreatDoorN7
set_option linter.all false
namespace AM
open Go Go.Proofs
noncomputable section
def QH:Bz Tryz.prog 99:=by
 refine⟨⟨_,_,Tryz.func99,by kernel_rfl,rfl⟩,fun args w=> ?_⟩;refine callsDIn_of_wpSIn Tryz.func99 rfl ?_ fun c₀ cs hu=> ?_
 ·trivial
 show Code.wpSIn _ _ _ _ _ ⟨args++Array.replicate (17-args.size) undef,[]⟩ _ _;have hs:17<=(args++Array.replicate (17-args.size) undef).size:=by simp;omega
 generalize args++Array.replicate (17-args.size) undef=tm at hs ⊢;apply wpSIn_seq;apply wpSIn_region;simp[wpOpsSIn,go_sem,recoverD,hu,Exit.thenS];refine⟨fun _ _=>trivial,fun _ _=>trivial,?_⟩;apply wpSIn_seq;apply wpSIn_region;have h1:1<tm.size:=by omega
 have h4:4<tm.size:=by omega
 have h5:5<tm.size:=by omega
 have h6:6<tm.size:=by omega
 have hn:(binOp .neq 20 .nilIface .nilIface).run Tryz.prog w= .ok (.bool false) w:=run_neq_nil_nil w 20 (by kernel_rfl);simp[wpOpsSIn,go_sem,recoverD,hu,Exit.thenS,h1,h4,h5,h6,hn];refine⟨fun _ _=>trivial,fun _ _=>trivial,?_⟩;refine wpSIn_cond (t:=false) (by simp[Act.eval,h6]) ?_;simp only[lu,if_false];refine wpSIn_of_wpIn rfl (wpIn_skip ?_);have hr:Tryz.f99.results=#[]:=rfl;cases c₀
 simp_all [bodyPostS,results]
end
end AM
