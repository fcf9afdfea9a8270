import Derived.Test.YtdicmpmcdjdneaaGreatDoorN18
set_option linter.all false
namespace AM
open Dg Go
noncomputable section
def sJ (r:List (Bool×Nat)) (i:Nat):List (Bool×Nat):=r.take i++r.drop (i+1)
def S8 a:wV (dO a)=true:=rfl
variable {P:Program} {X:aR} {GL:T (List AV)} {ae:T au}
structure JB (n k lo oo:Nat) (ro:Nat ->Nat) (M:Nat ->List Tr) (h:AH):Prop where
 c:cG (h.oB.get oo)=some ((List.range k).map λa=>AV.sl (ro a) 0 n (some n) 2)
 row:∀a,a<k ->cG (h.oB.get (ro a))=some ((M a).flatMap cT)/\ (M a).length=n/\ (∀t∈M a,cA 3 t=true)/\ lo<=ro a/\ ro a<h.next/\ ro a≠oo
 inj:∀a b,a<k ->b<k ->ro a=ro b ->a=b
 up:∀a,a<k ->∀(b:Nat) t,(M a)[b]? =some t ->t=gq∨a<b
 lo:lo<=oo/\ oo<h.next
def JB.mono {n k lo oo ro M h h'} (m:JB n k lo oo ro M h) (G:h.next<=h'.next) (e:∀j,lo<=j ->j<h.next ->h'.oB.get j=h.oB.get j):JB n k lo oo ro M h' where
 c:=by rw[e oo m.lo.1 m.lo.2];exact m.c
 row:=λa E=>by
  obtain⟨h1,h2,B,A,C,D⟩:=m.row a E;exact⟨by rw[e _ A C];exact h1,h2,B,A,by omega,D⟩
 inj:=m.inj
 up:=m.up
 lo:=⟨m.lo.1,by have:=m.lo.2;omega⟩
def JB.at {n k lo oo ro M h} (m:JB n k lo oo ro M h) {a b} (j:a<k) (hb:b<n):∃t,(M a)[b]? =some t/\ cA 3 t=true/\ (t=gq∨a<b):=by
 obtain⟨h1,h2,A,_⟩:=m.row a j;have e:(M a)[b]? =some (M a)[b]:=ef ω;exact⟨_,e,A _ (dI e),m.up a j b _ e⟩
end
end AM
