import Derived.Test.YtihgjngjidijaaaGreatDoorN6
import Derived.Test.YtihgjngjidijaaaGreatDoorN7
set_option linter.all false
namespace AM
abbrev eg {α:Type} (t:α) {c:α} (_:c=t:=by conv=>rhs;reduce;dsimp only[Int.ofNat_eq_natCast,Int.cast_ofNat_Int];simp only[Int.reduceNegSucc]):α:=c
attribute [go_sem] eg
end AM
namespace AM
noncomputable section
abbrev RD:au:=ev (pg 90)
abbrev RE:au:=ev (pg 175)
abbrev RG:au:=ev (pg 283)
abbrev RH:au:=ev (pg 284)
abbrev RI:au:=eg (pg 408)
abbrev RJ:au:=ev (pg 176)
abbrev RK:au:=ev (pg 285)
abbrev RM:au:=ev (pg 409)
abbrev I5:au:=ev (pg 286)
abbrev I6:au:=ev (pg 287)
abbrev I7:au:=ev (pg 410)
abbrev I8:au:=eg (pg 491)
abbrev I9:au:=ev (pg 411)
abbrev RN:au:=ev (pg 177)
abbrev RO:au:=ev (pg 178)
abbrev RP:au:=eg (pg 179)
abbrev RQ:au:=ev (pg 288)
abbrev Ja:au:=ev (pg 289)
abbrev RR:au:=ev (pg 290)
abbrev RT:au:=eg (pg 412)
abbrev RU:au:=ev (pg 291)
abbrev RV:au:=ev (pg 413)
abbrev Jb:au:=ev (pg 414)
abbrev RW:au:=ev (pg 180)
abbrev RX:au:=ev (pg 181)
abbrev RY:au:=ev (pg 292)
abbrev Jc:au:=ev (pg 293)
abbrev RZ:au:=ev (pg 294)
abbrev R0:au:=ev (pg 295)
abbrev Jd:au:=ev (pg 185)
abbrev Je:au:=ev (pg 297)
abbrev Jf:au:=eg (pg 298)
abbrev Jg:au:=ev (pg 186)
abbrev Ji:au:=ev (pg 299)
abbrev Jj:au:=ev (pg 301)
abbrev Jk:au:=ev (pg 300)
abbrev Jl:au:=ev (pg 302)
abbrev Jm:au:=ev (pg 303)
abbrev Jn:au:=ev (pg 304)
abbrev Jo:au:=ev (pg 187)
abbrev Jp:au:=ev (pg 305)
abbrev Jq:au:=ev (pg 306)
abbrev Jr:au:=ev (pg 188)
abbrev Js:au:=ev (pg 96)
abbrev Jt:au:=ev (pg 415)
structure gn (t:T au):Prop where
 f90:t.get 90=some RD
 f175:t.get 175=some RE
 f283:t.get 283=some RG
 f284:t.get 284=some RH
 f408:t.get 408=some RI
 f176:t.get 176=some RJ
 f285:t.get 285=some RK
 f409:t.get 409=some RM
 f286:t.get 286=some I5
 f287:t.get 287=some I6
 f410:t.get 410=some I7
 f491:t.get 491=some I8
 f411:t.get 411=some I9
 f177:t.get 177=some RN
 f178:t.get 178=some RO
 f179:t.get 179=some RP
 f288:t.get 288=some RQ
 f289:t.get 289=some Ja
 f290:t.get 290=some RR
 f412:t.get 412=some RT
 f291:t.get 291=some RU
 f413:t.get 413=some RV
 f414:t.get 414=some Jb
 f180:t.get 180=some RW
 f181:t.get 181=some RX
 f292:t.get 292=some RY
 f293:t.get 293=some Jc
 f294:t.get 294=some RZ
 f295:t.get 295=some R0
 f185:t.get 185=some Jd
 f297:t.get 297=some Je
 f298:t.get 298=some Jf
 f186:t.get 186=some Jg
 f299:t.get 299=some Ji
 f301:t.get 301=some Jj
 f300:t.get 300=some Jk
 f302:t.get 302=some Jl
 f303:t.get 303=some Jm
 f304:t.get 304=some Jn
 f187:t.get 187=some Jo
 f305:t.get 305=some Jp
 f306:t.get 306=some Jq
 f188:t.get 188=some Jr
 f96:t.get 96=some Js
 f415:t.get 415=some Jt
abbrev wT:au:=ev (pg 167)
abbrev R1:au:=ev (pg 278)
abbrev R3:au:=ev (pg 279)
abbrev R4:au:=ev (pg 280)
abbrev wU:au:=ev (pg 277)
abbrev aK3:au:=ev (pg 405)
abbrev aK4:au:=ev (pg 282)
abbrev aK5:au:=ev (pg 488)
abbrev aK6:au:=ev (pg 489)
abbrev aK7:au:=ev (pg 406)
abbrev aK8:au:=eg (pg 407)
abbrev aK9:au:=ev (pg 490)
structure jf (t:T au):Prop where
 f167:t.get 167=some wT
 f278:t.get 278=some R1
 f279:t.get 279=some R3
 f280:t.get 280=some R4
 f277:t.get 277=some wU
 f405:t.get 405=some aK3
 f282:t.get 282=some aK4
 f488:t.get 488=some aK5
 f489:t.get 489=some aK6
 f406:t.get 406=some aK7
 f407:t.get 407=some aK8
 f490:t.get 490=some aK9
abbrev Ju:aw:=ev (sE 43 2)
abbrev Jv:aw:=ev (sE 43 5)
abbrev Jw:aw:=ev (sE 43 11)
abbrev Jx:aw:=ev (sE 43 79)
abbrev Jy:aw:=ev (sE 43 303)
abbrev Jz:aw:=ev (sE 43 431)
abbrev JA:aw:=ev (sE 43 95)
abbrev JB:aw:=ev (sE 43 319)
abbrev JC:aw:=ev (sE 43 703)
abbrev Ef:aw:=ev (sE 43 2431)
abbrev Eg:aw:=(λx=>ev (pt 9 x (sE 43 383))) Ef
abbrev Eh:aw:=ev (sE 43 4863)
abbrev yU:aw:=(λx=>ev (pt 9 x (sE 43 767))) Eh
abbrev yV:aw:=ev (sE 43 1535)
abbrev JD:au:=(λx y z u v w a b c d e f=>ev (bE (pg 43) λo=>pt 2 x (pt 5 y (pt 11 z (pt 79 u (pt 303 v (pt 431 w (pt 95 a (pt 319 b (pt 703 c (pt 383 d (pt 767 e (pt 1535 f o))))))))))))) Ju Jv Jw Jx Jy Jz JA JB JC Eg yU yV
abbrev aL0:au:=ev (pg 35)
abbrev JE:au:=ev (pg 80)
abbrev R5:au:=ev (pg 37)
abbrev wV:aw:=ev (sE 82 2143)
abbrev wX:aw:=ev (sE 82 1631)
abbrev R6:aw:=ev (sE 82 319)
abbrev R7:aw:=ev (sE 82 1215)
abbrev Ei:aw:=ev (sE 82 383)
abbrev Ej:aw:=ev (sE 82 767)
abbrev Ek:aw:=ev (sE 82 1535)
abbrev El:aw:=ev (sE 82 3071)
abbrev Em:aw:=(λx y z u v w=>ev (pt 4 x (pt 18 y (pt 5 z (pt 11 u (pt 23 v (pt 47 w (sE 82 127)))))))) R6 R7 Ei Ej Ek El
abbrev JF:au:=(λx y z=>ev (bE (pg 82) λo=>pt 2143 x (pt 1631 y (pt 127 z o)))) wV wX Em
abbrev En:au:=ev (pg 83)
abbrev R8:au:=ev (pg 38)
abbrev Eo:au:=ev (pg 164)
abbrev pu:au:=eg (pg 165)
abbrev R9:au:=ev (pg 166)
abbrev Sa:au:=ev (pg 271)
abbrev aL1:au:=ev (pg 145)
abbrev aL2:au:=ev (pg 146)
structure hZ (t:T au):Prop where
 f43:t.get 43=some JD
 f35:t.get 35=some aL0
 f80:t.get 80=some JE
 f37:t.get 37=some R5
 f82:t.get 82=some JF
 f83:t.get 83=some En
 f38:t.get 38=some R8
 f164:t.get 164=some Eo
 f165:t.get 165=some pu
 f166:t.get 166=some R9
 f271:t.get 271=some Sa
 f145:t.get 145=some aL1
 f146:t.get 146=some aL2
abbrev Sb:au:=eg (pg 168)
abbrev JG:au:=eg (pg 84)
abbrev Sc:au:=eg (pg 281)
abbrev Sd:au:=eg (pg 44)
abbrev Se:au:=eg (pg 169)
abbrev Sf:au:=eg (pg 85)
abbrev Ep:au:=eg (pg 170)
abbrev Sg:au:=eg (pg 172)
abbrev JH:au:=eg (pg 86)
abbrev JI:au:=eg (pg 87)
abbrev Sh:au:=eg (pg 173)
abbrev JJ:au:=eg (pg 171)
abbrev Si:au:=eg (pg 45)
abbrev Sj:au:=eg (pg 12)
abbrev Sk:au:=eg (pg 5)
abbrev JK:au:=eg (pg 3)
abbrev Sl:au:=eg (pg 14)
abbrev Sm:au:=eg (pg 6)
abbrev So:au:=eg (pg 7)
abbrev Sq:au:=eg (pg 47)
abbrev Er:au:=eg (pg 91)
abbrev Sr:au:=eg (pg 48)
abbrev Ss:au:=eg (pg 15)
abbrev Es:au:=eg (pg 49)
abbrev Su:au:=eg (pg 53)
abbrev sF:au:=eg (pg 92)
abbrev JM:au:=eg (pg 93)
abbrev JN:au:=eg (pg 182)
abbrev Sv:au:=eg (pg 8)
abbrev Sw:au:=eg (pg 34)
structure fu (t:T au):Prop where
 f168:t.get 168=some Sb
 f84:t.get 84=some JG
 f281:t.get 281=some Sc
 f44:t.get 44=some Sd
 f169:t.get 169=some Se
 f85:t.get 85=some Sf
 f170:t.get 170=some Ep
 f172:t.get 172=some Sg
 f86:t.get 86=some JH
 f87:t.get 87=some JI
 f173:t.get 173=some Sh
 f171:t.get 171=some JJ
 f45:t.get 45=some Si
 f12:t.get 12=some Sj
 f5:t.get 5=some Sk
 f3:t.get 3=some JK
 f14:t.get 14=some Sl
 f6:t.get 6=some Sm
 f7:t.get 7=some So
 f47:t.get 47=some Sq
 f91:t.get 91=some Er
 f48:t.get 48=some Sr
 f15:t.get 15=some Ss
 f49:t.get 49=some Es
 f53:t.get 53=some Su
 f92:t.get 92=some sF
 f93:t.get 93=some JM
 f182:t.get 182=some JN
 f8:t.get 8=some Sv
 f34:t.get 34=some Sw
end
end AM
namespace AM
open Go
noncomputable section
def pX:aR:=⟨Pq,HB,[692,301,583,701,558,544,541,362,447,238,240,217,209,88,114,328,182],[147],Ps⟩
noncomputable def tQ (n:Nat):Bool:=Nat.ble n 1||(Nat.beq n 261||(Nat.beq n 396||(Nat.beq n 493||(Nat.beq n 494||(Nat.ble 634 n&&(Nat.ble n 649||Nat.ble 660 n))))))
noncomputable def aG:T au:=tH 10 λn=>bif tQ n then none else match nP Go.Proofs.Tryz.prog.funcs.toList n with|some F=>some (yw n F)|none=>none
def Bq (c:Nat) (l:List Nat):Nat ->Int:=List.rec (motive:=λ_=>Nat ->Int) (λ_=> .negSucc 0) (λa _ ih n=>bif Nat.beq a c then .ofNat n else ih (Nat.succ n)) l
noncomputable def aZ (f:Nat) (a:List AV) (h:AH):Option (AV×AH):=
 bif Nat.beq f 396 then (match a with|[.s l,.i .u8 (.ofNat c)]=>bif Nat.ble c 255 then fI (Bq c l 0) λn=>some (ι n,h) else none|_=>none)
 else bif Nat.beq f 493 then (match a with|[x]=>some (x,h)|_=>none)
 else bif Nat.beq f 206 then (match a with|[.s l,.i .i64 (.ofNat n)]=>bif Nat.ble n 1000&&Nat.ble (len l) 1000 then (match rN l n with|some r=>some (.s r,h)|none=>none) else none|_=>none)
 else none
noncomputable def wY (n:Nat) (F:Func):Bool:= !(F.name== "runtime.NumGoroutine")&&match F.body with
 |some c=>gf pX (yw n F).ntmps false c (yw n F).body&&(Nat.ble (yw n F).ntmps F.ntmps&&Ap pX (yw n F).res F.results.toList)
 |none=>false
noncomputable def JO (l:List Func):Nat ->Bool:=List.rec (motive:=λ_=>Nat ->Bool) (λ_=>true) (λF _ ih n=>(tQ n||wY n F)&&ih (Nat.succ n)) l
noncomputable def Sx (k:Nat):List Func:=(AW (Nat.mul 100 k) Go.Proofs.Tryz.prog.funcs.toList).take 100
noncomputable def tR (k:Nat):Bool:=JO (Sx k) (Nat.mul 100 k)
end
end AM
namespace AM
def aL3:li aG:=by constructor<;>kernel_rfl
def aL4:jr aG:=by constructor<;>kernel_rfl
def aL5:gn aG:=by constructor<;>kernel_rfl
def Sy:eV aG:=by constructor<;>kernel_rfl
def aL6:jf aG:=by constructor<;>kernel_rfl
def aL7:eL aG:=by constructor<;>kernel_rfl
def aL8:hZ aG:=by constructor<;>kernel_rfl
def aL9:fu aG:=by constructor<;>kernel_rfl
end AM
