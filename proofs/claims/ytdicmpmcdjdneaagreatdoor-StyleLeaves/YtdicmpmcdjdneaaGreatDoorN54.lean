import Derived.RecoverIn
import Derived.Tactics
import Derived.WideLaws
import Derived.Test.YtdicmpmcdjdneaaGreatDoorN7
set_option linter.all false
namespace AM
open Go Go.Proofs
noncomputable section
def bq5:CX Tryz.prog 156:=by
 refine⟨⟨_,_,Tryz.func156,lR,rfl⟩,λargs w=> ?_⟩;refine callsDIn_of_wpSIn Tryz.func156 rfl ?_ λj cs H=> ?_;trivial;show Code.wpSIn _ _ _ _ _ ⟨args++Array.replicate (17-args.size) undef,[]⟩ _ _;have G:17<=(args++Array.replicate (17-args.size) undef).size:=by simp;omega
 generalize args++Array.replicate (17-args.size) undef=A at G ⊢;apply wpSIn_seq;apply wpSIn_region;simp[wpOpsSIn,go_sem,recoverD,H,Exit.thenS];refine⟨λ_ _=>trivial,λ_ _=>trivial,?_⟩;apply wpSIn_seq;apply wpSIn_region;have h1:1<A.size:=by omega
 have B:4<A.size:=by omega
 have C:5<A.size:=by omega
 have D:6<A.size:=by omega
 have E:(binOp .neq 20 .nilIface .nilIface).run Tryz.prog w= .ok (.bool false) w:=run_neq_nil_nil w 20 lR;simp[wpOpsSIn,go_sem,Exit.thenS,h1,B,C,E];refine⟨λ_ _=>trivial,λ_ _=>trivial,?_⟩;refine wpSIn_cond (t:=false) (by simp[Act.eval,D]) ?_;simp only[nr,bV];refine wpSIn_of_wpIn rfl (wpIn_skip ?_);have I:Tryz.f156.results=#[]:=rfl;cases j
 simp_all [bodyPostS,results]
end
end AM
