import Derived.JoinedOf
import Derived.KernelRfl
import Derived.Test.YtcpcjocnnclcmaaGreatDoorProg
import GoSem.ClaimLoops
import Derived.Test.YtcpcjocnnclcmaaGreatDoorN0
set_option linter.all false
namespace AM
open Go Go.Proofs
noncomputable def ck (p:Nat ->Bool) (s n:Nat):Bool:=Nat.rec (motive:=fun _=>Bool) true (fun i ih=>p (s+i)&&ih) n
def nM {p:Nat ->Bool} {s:Nat}:∀{n:Nat},ck p s n=true ->∀i,s<=i ->i<s+n ->p i=true
 |0,_,i,h,h'=>absurd h' ω
 |n+1,e,i,h,h'=>by
  have e':(p (s+n)&&ck p s n)=true:=e;rw[av] at e';rcases uA i (s+n) with q|q
  ·exact nM e'.2 i h q
  ·rw[show i=s+n by omega];exact e'.1
def cr0:ck (rowFine Tryz.prog) 0 140=true:=by kernel_rfl
def cr1:ck (rowFine Tryz.prog) 140 140=true:=by kernel_rfl
def cr2:ck (rowFine Tryz.prog) 280 140=true:=by kernel_rfl
def cr3:ck (rowFine Tryz.prog) 420 140=true:=by kernel_rfl
def cr4:ck (rowFine Tryz.prog) 560 140=true:=by kernel_rfl
def cr5:ck (rowFine Tryz.prog) 700 126=true:=by kernel_rfl
def cr6:Tryz.prog.types.size=826:=by kernel_rfl
def fa1:laidOutB Tryz.prog=true:=by
 unfold laidOutB;rw[av,av];refine⟨⟨?_,by kernel_rfl⟩,by kernel_rfl⟩;rw[fK];intro t ht;rw[pi,cr6] at ht;rcases uA t 140 with q|q
 ·exact nM cr0 t ω ω
 rcases uA t 280 with q|q
 ·exact nM cr1 t ω ω
 rcases uA t 420 with q|q
 ·exact nM cr2 t ω ω
 rcases uA t 560 with q|q
 ·exact nM cr3 t ω ω
 rcases uA t 700 with q|q
 ·exact nM cr4 t ω ω
 exact nM cr5 t ω ω
def fa2:mapsRowed Tryz.prog=true:=by kernel_rfl
def fa3:Tryz.prog.stops=[]:=by kernel_rfl
def fa4:Tryz.prog.stopKnobs=[]:=by kernel_rfl
def fa5:Tryz.prog.stopsHeard=true:=by kernel_rfl
def fa6:Tryz.prog.mayEnter=true:=by kernel_rfl
def fa7:Tryz.prog.plainKeys=false:=by kernel_rfl
end AM
