import Derived.Test.YtdicmpmcdjdneaaGreatDoorN6
import Derived.Test.YtdicmpmcdjdneaaGreatDoorN7
set_option linter.all false
namespace AM
abbrev eg {α:Type} (t:α) {c:α} (_:c=t:=by conv=>rhs;reduce;dsimp only[Int.ofNat_eq_natCast,Int.cast_ofNat_Int];simp only[Int.reduceNegSucc]):α:=c
attribute [go_sem] eg
end AM
namespace AM
noncomputable section
abbrev bS2:au:=ev (pg 307)
abbrev RD:aw:=ev (sE 49 2)
abbrev RE:aw:=ev (sE 49 5)
abbrev RF:aw:=ev (sE 49 11)
abbrev RG:aw:=ev (sE 49 79)
abbrev RH:aw:=ev (sE 49 303)
abbrev RI:aw:=ev (sE 49 431)
abbrev RK:aw:=ev (sE 49 95)
abbrev RM:aw:=ev (sE 49 319)
abbrev RO:aw:=ev (sE 49 703)
abbrev PE:aw:=ev (sE 49 2431)
abbrev PF:aw:=(λx=>ev (pt 9 x (sE 49 383))) PE
abbrev PI:aw:=ev (sE 49 4863)
abbrev HY:aw:=(λx=>ev (pt 9 x (sE 49 767))) PI
abbrev Ii:aw:=ev (sE 49 1535)
abbrev Es:au:=(λx y z u v w a b c d e f=>ev (bE (pg 49) λo=>pt 2 x (pt 5 y (pt 11 z (pt 79 u (pt 303 v (pt 431 w (pt 95 a (pt 319 b (pt 703 c (pt 383 d (pt 767 e (pt 1535 f o))))))))))))) RD RE RF RG RH RI RK RM RO PF HY Ii
abbrev DJ:aw:=ev (sE 91 2143)
abbrev DK:aw:=ev (sE 91 1631)
abbrev aH4:aw:=ev (sE 91 319)
abbrev aH5:aw:=ev (sE 91 1215)
abbrev PJ:aw:=ev (sE 91 383)
abbrev PK:aw:=ev (sE 91 767)
abbrev PL:aw:=ev (sE 91 1535)
abbrev PM:aw:=ev (sE 91 3071)
abbrev PO:aw:=(λx y z u v w=>ev (pt 4 x (pt 18 y (pt 5 z (pt 11 u (pt 23 v (pt 47 w (sE 91 127)))))))) aH4 aH5 PJ PK PL PM
abbrev Er:au:=(λx y z=>ev (bE (pg 91) λo=>pt 2143 x (pt 1631 y (pt 127 z o)))) DJ DK PO
abbrev JK:au:=eg (pg 3)
abbrev bR8:au:=eg (pg 199)
abbrev Sv:au:=eg (pg 8)
abbrev fn9:au:=eg (pg 9)
abbrev aH6:au:=eg (pg 10)
abbrev Q4:au:=eg (pg 36)
abbrev R5:au:=eg (pg 37)
abbrev aH7:au:=eg (pg 70)
abbrev RP:au:=eg (pg 71)
abbrev aH8:au:=eg (pg 72)
abbrev aH9:au:=eg (pg 114)
abbrev So:au:=eg (pg 7)
abbrev Sw:au:=eg (pg 34)
abbrev aL0:au:=eg (pg 35)
abbrev aI0:au:=eg (pg 333)
abbrev RQ:au:=eg (pg 428)
abbrev aI5:au:=eg (pg 655)
abbrev PP:au:=eg (pg 656)
abbrev RR:au:=eg (pg 657)
abbrev aI6:au:=eg (pg 658)
abbrev aI7:au:=eg (pg 659)
abbrev aI8:au:=eg (pg 660)
abbrev aI9:au:=eg (pg 661)
abbrev aJ0:au:=eg (pg 662)
abbrev RT:au:=eg (pg 663)
abbrev aJ1:au:=eg (pg 664)
end
end AM
namespace AM
open Go
noncomputable section
def pX:aR:=⟨Pq,HB,[697,333,590,706,565,551,548,384,457,283,285,262,243,81,123,351,216],[156],Ps⟩
def Bq (c:Nat) (l:List Nat):Nat ->Int:=List.rec (motive:=λ_=>Nat ->Int) (λ_=> .negSucc 0) (λa _ j n=>bif Nat.beq a c then .ofNat n else j (Nat.succ n)) l
noncomputable def aZ (f:Nat) (a:List AV) (h:AH):Option (AV×AH):=
 bif Nat.beq f 316 then (match a with|[.s l,.i .u8 (.ofNat c)]=>bif Nat.ble c 255 then fI (Bq c l 0) λn=>some (ι n,h) else none|_=>none)
 else bif Nat.beq f 498 then (match a with|[x]=>some (x,h)|_=>none)
 else bif Nat.beq f 224 then (match a with|[.s l,.i .i64 (.ofNat n)]=>bif Nat.ble n 2000&&Nat.ble (len l) 1000 then (match rN l n with|some r=>some (.s r,h)|none=>none) else none|_=>none)
 else none
noncomputable def wY (n:Nat) (F:Func):Bool:= !(F.name== "runtime.NumGoroutine")&&match F.body with
 |some c=>gf pX (yw n F).ntmps false c (yw n F).body&&(Nat.ble (yw n F).ntmps F.ntmps&&Ap pX (yw n F).res F.results.toList)
 |none=>false
noncomputable def JO (l:List Func):Nat ->Bool:=List.rec (motive:=λ_=>Nat ->Bool) (λ_=>true) (λF _ ih n=>(tQ n||wY n F)&&ih (Nat.succ n)) l
noncomputable def Sx (k:Nat):List Func:=(AW (Nat.mul 100 k) Go.Proofs.Tryz.prog.funcs.toList).take 100
noncomputable def tR (k:Nat):Bool:=JO (Sx k) (Nat.mul 100 k)
end
end AM
namespace AM
def vd:bz8 aG:=λ_ _ h=>h
end AM
