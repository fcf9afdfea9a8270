import Derived.Test.YtdicmpmcdjdneaaGreatDoorN6
import Derived.Test.YtdicmpmcdjdneaaGreatDoorN9
set_option linter.all false
namespace AM
open Dg Go
noncomputable section
def wN (GL:T (List AV)) (f:Nat) (a:List Tr) (d:AV):Bool:=
 DR (Hi GL aG λ_ _=>none) (Hp (Hi GL aG λ_ _=>none) 100000) f (a.map eT) h0 λx h=>match deep 12 h x with|some y=>cZ 64 y d|none=>false
def RU (GL:T (List AV)) (v:Nat) (a b:Tr):Bool:=wN GL 279 [m7 v (.n (yU false (2-v)) a),m7 v (.n b (yU false (2-v)))] (eT (m7 v (.n b a)))
def ckA (GL:T (List AV)) (a b:Tr):Bool:=wN GL 104 [.n a b] (ι 0)&&(wN GL 409 [.n a b] (ι 0)&&RU GL 0 a b)
def nu (GL:T (List AV)) (i:Nat):Bool:=match (iy 2)[i]? with|some a=>(iy 2).all λb=>ckA GL a b|none=>true
def ckJ (GL:T (List AV)) (v:Nat) (a:Tr):Bool:=wN GL 280 [je v,m7 (v+1) a] (eT (m7 v (.n (yU false (2-v)) a)))&&(wN GL 281 [m7 (v+1) a,je v] (eT (m7 v (.n a (yU false (2-v)))))&&(Nat.beq v 0||(iy (2-v)).all λb=>RU GL v a b))
def ckW (GL:T (List AV)) (v:Nat):Bool:=wN GL 277 [je v] (eT (Ey (je v)))&&(iy (2-v)).all λa=>ckJ GL v a
end
end AM
namespace AM
def dA0 GL:nu GL 0=true:=lR
def dA1 GL:nu GL 1=true:=lR
def dA2 GL:nu GL 2=true:=lR
def dA3 GL:nu GL 3=true:=lR
def dA4 GL:nu GL 4=true:=lR
def dA5 GL:nu GL 5=true:=lR
def dA6 GL:nu GL 6=true:=lR
def dA7 GL:nu GL 7=true:=lR
end AM
