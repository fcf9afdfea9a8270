import Derived.Test.YtcpcjocnnclcmaaGreatDoorN6
import Derived.Test.YtcpcjocnnclcmaaGreatDoorN7
set_option linter.all false
namespace AM
abbrev eg {α:Type} (t:α) {c:α} (_:c=t:=by conv=>rhs;reduce;dsimp only[Int.ofNat_eq_natCast,Int.cast_ofNat_Int];simp only[Int.reduceNegSucc]):α:=c
attribute [go_sem] eg
end AM
namespace AM
noncomputable section
abbrev ab3:aR:=ev (pg 98)
abbrev Uw:aR:=ev (pg 168)
abbrev Ux:aR:=ev (pg 277)
abbrev Uy:aR:=ev (pg 278)
abbrev Uz:aR:=eg (pg 416)
abbrev UA:aR:=ev (pg 169)
abbrev UB:aR:=ev (pg 279)
abbrev UC:aR:=ev (pg 417)
abbrev Pf:aR:=ev (pg 280)
abbrev Pg:aR:=ev (pg 281)
abbrev Ph:aR:=ev (pg 418)
abbrev Pi:aR:=eg (pg 499)
abbrev Pj:aR:=ev (pg 419)
abbrev UD:aR:=ev (pg 170)
abbrev UE:aR:=ev (pg 171)
abbrev UF:aR:=eg (pg 172)
abbrev UG:aR:=ev (pg 282)
abbrev Pk:aR:=ev (pg 283)
abbrev UH:aR:=ev (pg 284)
abbrev UI:aR:=eg (pg 420)
abbrev UJ:aR:=ev (pg 285)
abbrev UK:aR:=ev (pg 421)
abbrev Pl:aR:=ev (pg 422)
abbrev UL:aR:=ev (pg 173)
abbrev UM:aR:=ev (pg 174)
abbrev UN:aR:=ev (pg 286)
abbrev Pm:aR:=ev (pg 287)
abbrev UO:aR:=ev (pg 288)
abbrev UP:aR:=ev (pg 289)
abbrev Pn:aR:=ev (pg 197)
abbrev Po:aR:=ev (pg 302)
abbrev Pp:aR:=eg (pg 303)
abbrev Pq:aR:=ev (pg 198)
abbrev Ps:aR:=ev (pg 304)
abbrev Pt:aR:=ev (pg 306)
abbrev Pu:aR:=ev (pg 305)
abbrev Pv:aR:=ev (pg 307)
abbrev Pw:aR:=ev (pg 308)
abbrev Px:aR:=ev (pg 309)
abbrev Py:aR:=ev (pg 199)
abbrev Pz:aR:=ev (pg 310)
abbrev PA:aR:=ev (pg 311)
abbrev PB:aR:=ev (pg 200)
abbrev PC:aR:=ev (pg 118)
abbrev PD:aR:=ev (pg 431)
structure jJ (t:T aR):Prop where
 f98:t.get 98=some ab3
 f168:t.get 168=some Uw
 f277:t.get 277=some Ux
 f278:t.get 278=some Uy
 f416:t.get 416=some Uz
 f169:t.get 169=some UA
 f279:t.get 279=some UB
 f417:t.get 417=some UC
 f280:t.get 280=some Pf
 f281:t.get 281=some Pg
 f418:t.get 418=some Ph
 f499:t.get 499=some Pi
 f419:t.get 419=some Pj
 f170:t.get 170=some UD
 f171:t.get 171=some UE
 f172:t.get 172=some UF
 f282:t.get 282=some UG
 f283:t.get 283=some Pk
 f284:t.get 284=some UH
 f420:t.get 420=some UI
 f285:t.get 285=some UJ
 f421:t.get 421=some UK
 f422:t.get 422=some Pl
 f173:t.get 173=some UL
 f174:t.get 174=some UM
 f286:t.get 286=some UN
 f287:t.get 287=some Pm
 f288:t.get 288=some UO
 f289:t.get 289=some UP
 f197:t.get 197=some Pn
 f302:t.get 302=some Po
 f303:t.get 303=some Pp
 f198:t.get 198=some Pq
 f304:t.get 304=some Ps
 f306:t.get 306=some Pt
 f305:t.get 305=some Pu
 f307:t.get 307=some Pv
 f308:t.get 308=some Pw
 f309:t.get 309=some Px
 f199:t.get 199=some Py
 f310:t.get 310=some Pz
 f311:t.get 311=some PA
 f200:t.get 200=some PB
 f118:t.get 118=some PC
 f431:t.get 431=some PD
abbrev Ub:aR:=ev (pg 110)
abbrev Uc:aR:=ev (pg 181)
abbrev Ud:aR:=ev (pg 182)
abbrev Ue:aR:=ev (pg 183)
abbrev Uf:aR:=ev (pg 184)
abbrev Ug:aR:=eg (pg 185)
abbrev Uh:aR:=ev (pg 186)
abbrev Ui:aR:=ev (pg 187)
abbrev Cs:aR:=ev (pg 44)
abbrev aa6:aR:=ev (pg 94)
abbrev aa7:aR:=ev (pg 95)
abbrev aa8:aR:=ev (pg 96)
abbrev G0:aR:=ev (pg 93)
abbrev O0:aR:=ev (pg 295)
abbrev Uj:aR:=ev (pg 296)
abbrev Ed:aR:=ev (pg 297)
abbrev Uk:aR:=ev (pg 298)
abbrev Ul:aR:=ev (pg 299)
abbrev Um:aR:=ev (pg 300)
abbrev O1:aR:=ev (pg 430)
abbrev O2:aR:=ev (pg 427)
abbrev O3:aR:=ev (pg 428)
abbrev O4:aR:=ev (pg 429)
abbrev O5:aR:=ev (pg 500)
abbrev O6:aR:=ev (pg 501)
abbrev O7:aR:=ev (pg 502)
abbrev O8:aR:=eg (pg 503)
abbrev O9:aR:=ev (pg 573)
structure gf (t:T aR):Prop where
 f110:t.get 110=some Ub
 f181:t.get 181=some Uc
 f182:t.get 182=some Ud
 f183:t.get 183=some Ue
 f184:t.get 184=some Uf
 f185:t.get 185=some Ug
 f186:t.get 186=some Uh
 f187:t.get 187=some Ui
 f44:t.get 44=some Cs
 f94:t.get 94=some aa6
 f95:t.get 95=some aa7
 f96:t.get 96=some aa8
 f93:t.get 93=some G0
 f295:t.get 295=some O0
 f296:t.get 296=some Uj
 f297:t.get 297=some Ed
 f298:t.get 298=some Uk
 f299:t.get 299=some Ul
 f300:t.get 300=some Um
 f430:t.get 430=some O1
 f427:t.get 427=some O2
 f428:t.get 428=some O3
 f429:t.get 429=some O4
 f500:t.get 500=some O5
 f501:t.get 501=some O6
 f502:t.get 502=some O7
 f503:t.get 503=some O8
 f573:t.get 573=some O9
abbrev fn3:aR:=ev (pg 3)
abbrev WV:ap:=ev (sE 5 2)
abbrev WW:ap:=ev (sE 5 5)
abbrev WX:ap:=ev (sE 5 11)
abbrev WY:ap:=ev (sE 5 79)
abbrev WZ:ap:=ev (sE 5 303)
abbrev W3:ap:=ev (sE 5 431)
abbrev W4:ap:=ev (sE 5 95)
abbrev W5:ap:=ev (sE 5 319)
abbrev OV:ap:=ev (sE 5 703)
abbrev IX:ap:=ev (sE 5 2431)
abbrev IY:ap:=(fun x=>ev (pt 9 x (sE 5 383))) IX
abbrev IZ:ap:=ev (sE 5 4863)
abbrev Ar:ap:=(fun x=>ev (pt 9 x (sE 5 767))) IZ
abbrev As:ap:=ev (sE 5 1535)
abbrev fn5:aR:=(fun x y z u v w a b c d e f=>ev (bE (pg 5) fun o=>pt 2 x (pt 5 y (pt 11 z (pt 79 u (pt 303 v (pt 431 w (pt 95 a (pt 319 b (pt 703 c (pt 383 d (pt 767 e (pt 1535 f o))))))))))))) WV WW WX WY WZ W3 W4 W5 OV IY Ar As
abbrev ax9:aR:=ev (pg 13)
abbrev W6:aR:=ev (pg 14)
abbrev aa2:aR:=ev (pg 15)
abbrev yz:ap:=ev (sE 17 2143)
abbrev sH:ap:=ev (sE 17 1631)
abbrev OW:ap:=ev (sE 17 319)
abbrev OX:ap:=ev (sE 17 1215)
abbrev Ck:ap:=ev (sE 17 383)
abbrev Cm:ap:=ev (sE 17 767)
abbrev Cn:ap:=ev (sE 17 1535)
abbrev Co:ap:=ev (sE 17 3071)
abbrev Cq:ap:=(fun x y z u v w=>ev (pt 4 x (pt 18 y (pt 5 z (pt 11 u (pt 23 v (pt 47 w (sE 17 127)))))))) OW OX Ck Cm Cn Co
abbrev W7:aR:=(fun x y z=>ev (bE (pg 17) fun o=>pt 2143 x (pt 1631 y (pt 127 z o)))) yz sH Cq
abbrev Sh:aR:=ev (pg 18)
abbrev aa3:aR:=ev (pg 24)
abbrev Si:aR:=ev (pg 41)
abbrev uY:aR:=eg (pg 42)
abbrev aa4:aR:=ev (pg 43)
abbrev aa5:aR:=ev (pg 85)
abbrev ay0:aR:=ev (pg 87)
abbrev ay1:aR:=ev (pg 88)
structure jM (t:T aR):Prop where
 f3:t.get 3=some fn3
 f5:t.get 5=some fn5
 f13:t.get 13=some ax9
 f14:t.get 14=some W6
 f15:t.get 15=some aa2
 f17:t.get 17=some W7
 f18:t.get 18=some Sh
 f24:t.get 24=some aa3
 f41:t.get 41=some Si
 f42:t.get 42=some uY
 f43:t.get 43=some aa4
 f85:t.get 85=some aa5
 f87:t.get 87=some ay0
 f88:t.get 88=some ay1
end
end AM
namespace AM
open Go
noncomputable section
def pX:dy:=⟨ZI,pmt,[699,325,584,629,559,545,542,361,445,262,264,233,224,60,65,208,127],[99],pvw⟩
noncomputable def ux (n:Nat):Bool:=Nat.ble n 1||(Nat.beq n 332||(Nat.beq n 437||(Nat.beq n 505||(Nat.beq n 506||(Nat.ble 640 n&&(Nat.ble n 655||Nat.ble 666 n))))))
noncomputable def bX:T aR:=BT 10 fun n=>bif ux n then none else match sg Go.Proofs.Tryz.prog.funcs.toList n with|some F=>some (Ys n F)|none=>none
def QF (c:Nat) (l:List Nat):Nat ->Int:=List.rec (motive:=fun _=>Nat ->Int) (fun _=> .negSucc 0) (fun a _ ih n=>bif Nat.beq a c then .ofNat n else ih (Nat.succ n)) l
noncomputable def cY (f:Nat) (a:List AV) (h:AH):Option (AV×AH):=
 bif Nat.beq f 437 then (match a with|[.s l,.i .u8 (.ofNat c)]=>bif Nat.ble c 255 then fI (QF c l 0) fun n=>some (ι n,h) else none|_=>none)
 else bif Nat.beq f 505 then (match a with|[x]=>some (x,h)|_=>none)
 else bif Nat.beq f 224 then (match a with|[.s l,.i .i64 (.ofNat n)]=>bif Nat.ble n 1000&&Nat.ble (len l) 1000 then (match y8 l n with|some r=>some (.s r,h)|none=>none) else none|_=>none)
 else none
noncomputable def XB (n:Nat) (F:Func):Bool:= !(F.name== "runtime.NumGoroutine")&&match F.body with
 |some c=>db pX (Ys n F).ntmps false c (Ys n F).body&&(Nat.ble (Ys n F).ntmps F.ntmps&&Dj pX (Ys n F).res F.results.toList)
 |none=>false
noncomputable def XC (l:List Func):Nat ->Bool:=List.rec (motive:=fun _=>Nat ->Bool) (fun _=>true) (fun F _ ih n=>(ux n||XB n F)&&ih (Nat.succ n)) l
noncomputable def fch (k:Nat):List Func:=(Zy (Nat.mul 100 k) Go.Proofs.Tryz.prog.funcs.toList).take 100
noncomputable def CK (k:Nat):Bool:=XC (fch k) (Nat.mul 100 k)
end
end AM
namespace AM
def ae9:uj bX:=by constructor<;>kernel_rfl
def af0:qd bX:=by constructor<;>kernel_rfl
def af1:jJ bX:=by constructor<;>kernel_rfl
def Vh:gD bX:=by constructor<;>kernel_rfl
def af2:vZ bX:=by constructor<;>kernel_rfl
def af3:gf bX:=by constructor<;>kernel_rfl
def af4:dr bX:=by constructor<;>kernel_rfl
def af5:jM bX:=by constructor<;>kernel_rfl
end AM
