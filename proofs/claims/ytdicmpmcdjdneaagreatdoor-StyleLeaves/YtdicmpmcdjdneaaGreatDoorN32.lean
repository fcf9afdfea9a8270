import Derived.JoinedOf
import Derived.Test.YtdicmpmcdjdneaaGreatDoorProg
import GoSem.ClaimLoops
import Derived.Test.YtdicmpmcdjdneaaGreatDoorN0
set_option linter.all false
namespace AM
open Go Go.Proofs
noncomputable def ck (p:Nat ->Bool) (s n:Nat):Bool:=Nat.rec (motive:=λ_=>Bool) true (λi ih=>p (s+i)&&ih) n
def P5 {p:Nat ->Bool} {s:Nat}:∀{n:Nat},ck p s n=true ->∀i,s<=i ->i<s+n ->p i=true
 |0,_,i,h,h'=>bh h' ω
 |n+1,e,i,h,h'=>by
  have j:(p (s+n)&&ck p s n)=true:=e;rw[aB] at j;rcases iO i (s+n) with q|q;exact P5 j.2 i h q;rw[show i=s+n by omega];exact j.1
def cr0:ck (rowFine Tryz.prog) 0 140=true:=lR
def cr1:ck (rowFine Tryz.prog) 140 140=true:=lR
def cr2:ck (rowFine Tryz.prog) 280 140=true:=lR
def cr3:ck (rowFine Tryz.prog) 420 140=true:=lR
def cr4:ck (rowFine Tryz.prog) 560 140=true:=lR
def cr5:ck (rowFine Tryz.prog) 700 140=true:=lR
def cr6:Tryz.prog.types.size=840:=lR
def UO:laidOutB Tryz.prog=true:=by
 unfold laidOutB;rw[aB,aB];refine⟨⟨?_,lR⟩,lR⟩;rw[fX];intro t j;rw[mA,cr6] at j;rcases iO t 140 with q|q;exact P5 cr0 t ω ω;rcases iO t 280 with q|q;exact P5 cr1 t ω ω;rcases iO t 420 with q|q;exact P5 cr2 t ω ω;rcases iO t 560 with q|q;exact P5 cr3 t ω ω;rcases iO t 700 with q|q;exact P5 cr4 t ω ω;exact P5 cr5 t ω ω
def fa2:mapsRowed Tryz.prog=true:=lR
def fa3:Tryz.prog.stops=[]:=lR
def fa4:Tryz.prog.stopKnobs=[]:=lR
def fa5:Tryz.prog.stopsHeard=true:=lR
def fa6:Tryz.prog.mayEnter=true:=lR
def fa7:Tryz.prog.plainKeys=false:=lR
end AM
