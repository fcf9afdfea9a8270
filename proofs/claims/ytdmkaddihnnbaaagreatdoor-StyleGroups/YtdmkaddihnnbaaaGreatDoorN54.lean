import Derived.RecoverIn
import Derived.Tactics
import Derived.WideLaws
import Derived.Test.YtdmkaddihnnbaaaGreatDoorN7
set_option linter.all false
namespace AM
open Go Go.Proofs
noncomputable section
def bq5:CX Tryz.prog 149:=by
 refine⟨⟨_,_,Tryz.func149,lR,rfl⟩,λargs w=> ?_⟩;refine callsDIn_of_wpSIn Tryz.func149 rfl ?_ λj cs G=> ?_;trivial;show Code.wpSIn _ _ _ _ _ ⟨args++Array.replicate (17-args.size) undef,[]⟩ _ _;have E:17<=(args++Array.replicate (17-args.size) undef).size:=by simp;omega
 generalize args++Array.replicate (17-args.size) undef=u at E ⊢;apply wpSIn_seq;apply wpSIn_region;simp[wpOpsSIn,go_sem,recoverD,G,Exit.thenS];refine⟨λ_ _=>trivial,λ_ _=>trivial,?_⟩;apply wpSIn_seq;apply wpSIn_region;have h1:1<u.size:=by omega
 have A:4<u.size:=by omega
 have B:5<u.size:=by omega
 have C:6<u.size:=by omega
 have D:(binOp .neq 20 .nilIface .nilIface).run Tryz.prog w= .ok (.bool false) w:=run_neq_nil_nil w 20 lR;simp[wpOpsSIn,go_sem,Exit.thenS,h1,A,B,D];refine⟨λ_ _=>trivial,λ_ _=>trivial,?_⟩;refine wpSIn_cond (t:=false) (by simp[Act.eval,C]) ?_;simp only[nr,bV];refine wpSIn_of_wpIn rfl (wpIn_skip ?_);have H:Tryz.f149.results=#[]:=rfl;cases j
 simp_all [bodyPostS,results]
end
end AM
