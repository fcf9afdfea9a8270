import Derived.JoinedOf
import Derived.Test.YtihgjngjidijaaaGreatDoorProg
import GoSem.ClaimLoops
import Derived.Test.YtihgjngjidijaaaGreatDoorN0
set_option linter.all false
namespace AM
open Go Go.Proofs
noncomputable def ck (p:Nat ->Bool) (s n:Nat):Bool:=Nat.rec (motive:=λ_=>Bool) true (λi ih=>p (s+i)&&ih) n
def xo {p:Nat ->Bool} {s:Nat}:∀{n:Nat},ck p s n=true ->∀i,s<=i ->i<s+n ->p i=true
 |0,_,i,h,h'=>bh h' ω
 |n+1,e,i,h,h'=>by
  have e':(p (s+n)&&ck p s n)=true:=e;rw[aB] at e';rcases iO i (s+n) with q|q
  ·exact xo e'.2 i h q
  ·rw[show i=s+n by omega];exact e'.1
def cr0:ck (rowFine Tryz.prog) 0 140=true:=af
def cr1:ck (rowFine Tryz.prog) 140 140=true:=af
def cr2:ck (rowFine Tryz.prog) 280 140=true:=af
def cr3:ck (rowFine Tryz.prog) 420 140=true:=af
def cr4:ck (rowFine Tryz.prog) 560 140=true:=af
def cr5:ck (rowFine Tryz.prog) 700 135=true:=af
def cr6:Tryz.prog.types.size=835:=af
def UO:laidOutB Tryz.prog=true:=by
 unfold laidOutB;rw[aB,aB];refine⟨⟨?_,af⟩,af⟩;rw[fX];intro t ht;rw[mA,cr6] at ht;rcases iO t 140 with q|q
 ·exact xo cr0 t ω ω
 rcases iO t 280 with q|q
 ·exact xo cr1 t ω ω
 rcases iO t 420 with q|q
 ·exact xo cr2 t ω ω
 rcases iO t 560 with q|q
 ·exact xo cr3 t ω ω
 rcases iO t 700 with q|q
 ·exact xo cr4 t ω ω
 exact xo cr5 t ω ω
def fa2:mapsRowed Tryz.prog=true:=af
def fa3:Tryz.prog.stops=[]:=af
def fa4:Tryz.prog.stopKnobs=[]:=af
def fa5:Tryz.prog.stopsHeard=true:=af
def fa6:Tryz.prog.mayEnter=true:=af
def fa7:Tryz.prog.plainKeys=false:=af
end AM
