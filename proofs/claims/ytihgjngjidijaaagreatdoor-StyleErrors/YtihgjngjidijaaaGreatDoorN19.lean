import Derived.Test.YtihgjngjidijaaaGreatDoorN18
set_option linter.all false
namespace AM
open Dg Go
noncomputable section
def sJ (r:List (Bool×Nat)) (i:Nat):List (Bool×Nat):=r.take i++r.drop (i+1)
def S8 (a:Bool×Nat):cF (ba a)=true:=rfl
variable {P:Program} {X:aR} {GL:T (List AV)} {ae:T au}
structure u9 (n k lo oo:Nat) (ro:Nat ->Nat) (M:Nat ->List Tr) (h:AH):Prop where
 c:cG (h.oB.get oo)=some ((List.range k).map λa=>AV.sl (ro a) 0 n (some n) 2)
 row:∀a,a<k ->cG (h.oB.get (ro a))=some ((M a).flatMap cT)/\ (M a).length=n/\ (∀t∈M a,cA 3 t=true)/\ lo<=ro a/\ ro a<h.next/\ ro a≠oo
 inj:∀a b,a<k ->b<k ->ro a=ro b ->a=b
 up:∀a,a<k ->∀(b:Nat) t,(M a)[b]? =some t ->t=gq∨a<b
 lo:lo<=oo/\ oo<h.next
def u9.mono {n k lo oo:Nat} {ro:Nat ->Nat} {M:Nat ->List Tr} {h h':AH} (m:u9 n k lo oo ro M h) (hn:h.next<=h'.next) (e:∀j,lo<=j ->j<h.next ->h'.oB.get j=h.oB.get j):u9 n k lo oo ro M h' where
 c:=by rw[e oo m.lo.1 m.lo.2];exact m.c
 row:=λa ha=>by
  obtain⟨h1,h2,h3,h4,h5,h6⟩:=m.row a ha;exact⟨by rw[e _ h4 h5];exact h1,h2,h3,h4,by omega,h6⟩
 inj:=m.inj
 up:=m.up
 lo:=⟨m.lo.1,by have:=m.lo.2;omega⟩
def u9.upd {n k lo oo:Nat} {ro:Nat ->Nat} {M:Nat ->List Tr} {h h':AH} (m:u9 n k lo oo ro M h) {a b:Nat} {x:Tr} (ha:a<k) (hn:h.next<=h'.next) (e:∀j,j<h.next ->j≠ro a ->h'.oB.get j=h.oB.get j)
 (hc:cG (h'.oB.get (ro a))=some (((M a).set b x).flatMap cT)) (fx:cA 3 x=true) (hx:x=gq∨a<b):u9 n k lo oo ro (λi=>if i=a then (M a).set b x else M i) h' where
 c:=by
  have:=m.row a ha;rw[e oo m.lo.2 (λh=>this.2.2.2.2.2 h.symm)];exact m.c
 row:=λi hi=>by
  obtain⟨h1,h2,h3,h4,h5,h6⟩:=m.row i hi;by_cases ei:i=a
  ·subst ei;simp only[dZ];refine⟨hc,by rw[aR7];exact h2,λt ht=> ?_,h4,by omega,h6⟩;rcases FF ht with h|h
   ·exact h3 t h
   ·rw[h];exact fx
  ·simp only[ei,bV];exact⟨by rw[e _ h5 (λh=>ei (m.inj i a hi ha h))];exact h1,h2,h3,h4,by omega,h6⟩
 inj:=m.inj
 up:=λi hi j t ht=>by
  by_cases ei:i=a
  ·subst ei;simp only[dZ] at ht;rw[xF] at ht;split at ht
   ·rename_i ej;split at ht
    ·cases ht;subst ej;exact hx
    ·cases ht
   ·exact m.up i hi j t ht
  ·simp only[ei,bV] at ht;exact m.up i hi j t ht
 lo:=⟨m.lo.1,by have:=m.lo.2;omega⟩
def u9.at {n k lo oo:Nat} {ro:Nat ->Nat} {M:Nat ->List Tr} {h:AH} (m:u9 n k lo oo ro M h) {a b:Nat} (ha:a<k) (hb:b<n):∃t,(M a)[b]? =some t/\ cA 3 t=true/\ (t=gq∨a<b):=by
 obtain⟨h1,h2,h3,_⟩:=m.row a ha;have e:(M a)[b]? =some (M a)[b]:=cE ω;exact⟨_,e,h3 _ (dI e),m.up a ha b _ e⟩
end
end AM
