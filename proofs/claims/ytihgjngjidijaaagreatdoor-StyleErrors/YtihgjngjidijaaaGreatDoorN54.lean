import Derived.RecoverIn
import Derived.Tactics
import Derived.WideLaws
import Derived.Test.YtihgjngjidijaaaGreatDoorN7
set_option linter.all false
namespace AM
open Go Go.Proofs
noncomputable section
def bq5:CX Tryz.prog 147:=by
 refine⟨⟨_,_,Tryz.func147,af,rfl⟩,λargs w=> ?_⟩;refine callsDIn_of_wpSIn Tryz.func147 rfl ?_ λc₀ cs hu=> ?_
 ·trivial
 show Code.wpSIn _ _ _ _ _ ⟨args++Array.replicate (17-args.size) undef,[]⟩ _ _;have hs:17<=(args++Array.replicate (17-args.size) undef).size:=by simp;omega
 generalize args++Array.replicate (17-args.size) undef=tm at hs ⊢;apply wpSIn_seq;apply wpSIn_region;simp[wpOpsSIn,go_sem,recoverD,hu,Exit.thenS];refine⟨λ_ _=>trivial,λ_ _=>trivial,?_⟩;apply wpSIn_seq;apply wpSIn_region;have h1:1<tm.size:=by omega
 have h4:4<tm.size:=by omega
 have h5:5<tm.size:=by omega
 have h6:6<tm.size:=by omega
 have hn:(binOp .neq 20 .nilIface .nilIface).run Tryz.prog w= .ok (.bool false) w:=run_neq_nil_nil w 20 af;simp[wpOpsSIn,go_sem,Exit.thenS,h1,h4,h5,hn];refine⟨λ_ _=>trivial,λ_ _=>trivial,?_⟩;refine wpSIn_cond (t:=false) (by simp[Act.eval,h6]) ?_;simp only[nr,bV];refine wpSIn_of_wpIn rfl (wpIn_skip ?_);have hr:Tryz.f147.results=#[]:=rfl;cases c₀
 simp_all [bodyPostS,results]
end
end AM
