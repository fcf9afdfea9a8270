import Derived.ChangeArms
import Derived.ChangeShapes
import Derived.ChangeStays
import Derived.RowKit
import Derived.Test.YtdicmpmcdjdneaaGreatDoorN26
set_option linter.all false
set_option maxHeartbeats 8000000
namespace AM
open Dg Go
noncomputable section
def sP (V:AV):List AV:=[.s [102,105,114,115,116],ι 0,V,tp (aE (yU true 3)).1,ι ((aE (yU true 3)).2:Int),.b false,ι 0,.sn,.b false,ι 0,ι 0,ι 0,ι 0]
variable {h:AH}
def bb5 {v4 v5 v8 n c} (U:c<=3) {F} (L:h.oB.get 4=some (.cells v4 [.s [65],.s [66],.s [67]])) (N:h.oB.get 5=some (.cells v5 [.b true,ι 0])) (O:h.oB.get 8=some (.cells v8 (sP (.sl 5 0 1 (some 1) 2)))):
 E2 h { pG n c with fam:=F } [.sl 4 0 c (some 3) 1,tp (aE F).1,ι ((aE F).2:Int),eR dq 7 true (List.replicate 11 (yU true 3)).zipIdx,eX ([[83],[80],[81]].take (n+1)) (([[83],[80],[81]].drop (n+1)).map AV.s),.sl 8 0 1 none 13,ι 0,.sn,.sn]:=by
 refine⟨rfl,?_,[4,5,8],by simp,?_⟩;simp only[Ei,qR,JQ,tN,uZ];rfl;have J:qT h [4,5,8]=⟨h.next,h.ver,((T.e.put 4 (.cells v4 [.s [65],.s [66],.s [67]])).put 5 (.cells v5 [.b true,ι 0])).put 8 (.cells v8 (sP (.sl 5 0 1 (some 1) 2)))⟩:=by
  unfold qT AK;simp only[zH,bH3,L,N,O]
 rw[J];generalize j:(⟨h.next,h.ver,((T.e.put 4 (.cells v4 [.s [65],.s [66],.s [67]])).put 5 (.cells v5 [.b true,ι 0])).put 8 (.cells v8 (sP (.sl 5 0 1 (some 1) 2)))⟩:AH)=H;have B:deep 8 H (.sl 4 0 c (some 3) 1)=some (eX (fz c) ((([[65],[66],[67]]:List (List Nat)).drop c).map AV.s)):=by
  rw[gA (n:=7) (l:=[.s [65],.s [66],.s [67]]) (l':=[.s [65],.s [66],.s [67]]) (by rw[←j];rfl) rfl];unfold eX;rw[BD U];unfold fz;rw[←kE,vJ];rfl
 have D:deep 7 H (.sl 5 0 1 (some 1) 2)=some (eR dO 2 true [(true,0)]):=by
  rw[gA (n:=6) (l:=[.b true,ι 0]) (l':=[.b true,ι 0]) (by rw[←j];rfl) rfl];rfl
 have I:deep 8 H (.sl 8 0 1 none 13)=some (eR aM 13 true [oO [102,105,114,115,116] 0 true [(true,0)]]):=by
  rw[gA (n:=7) (l:=sP (.sl 5 0 1 (some 1) 2)) (l':=sP (eR dO 2 true [(true,0)])) (by rw[←j];rfl) (by
   simp only[sP,aL,bZ,dH,yW,oK,Kn,nW (n:=6),D])]
  rfl
 simp only[aL,bZ,dH,Kn,nW (n:=7),Bt (n:=7),eu (n:=7) jD,B,I];rfl
variable {P:Program} {X:aR} {GL:T (List AV)} {ae:T au}
def TU {ev x a o n k} (h1:ev x= .sl o 0 n (some n) 1) (h2:ff (ev a)=some k) (B:k<=n):step ev h (.slc 1 x none (some a) none)= .v (.sl o 0 k (some n) 1) h:=by
 show(match ev x with
  | .sl o j n cap esz=>bif !(Nat.beq esz 1) then da.bad else match cap with
   |some c=>match d7 n c (nO ev none) (nO ev (some a)) (nO ev none) with
    |some (l,r,m)=>fN (j+l*esz) λj=>fN (r-l) λn=>fN (m-l) λc=>da.v (.sl o j n (some c) esz) h
    |none=>da.bad
   |none=>match d7 n n (nO ev none) (nO ev (some a)) none with
    |some (l,r,_)=>fN (j+l*esz) λj=>fN (r-l) λn=>da.v (.sl o j n none esz) h
    |none=>da.bad
  | .ds c j n esz=>bif !(Nat.beq esz 1) then da.bad else match d7 n n (nO ev none) (nO ev (some a)) none with
   |some (l,r,_)=>fN (j+l*esz) λj=>fN (r-l) λn=>da.v (.ds c j n esz) h
   |none=>da.bad
  | .sn=>match d7 0 0 (nO ev none) (nO ev (some a)) (nO ev none) with|some _=>da.v .sn h|none=>da.bad
  |_=>da.bad)=_
 rw[h1];have e:d7 n n (nO ev none) (nO ev (some a)) (nO ev none)=some (0,k,n):=by
  rw[uO,uP,h2];show(bif Nat.ble n n&&Nat.ble k n&&Nat.ble 0 k then some (0,k,n) else none)=_;have D:Nat.ble n n=true:=by rw[wX];simp
  have I:Nat.ble k n=true:=by rw[wX];simpa using B
  have J:Nat.ble 0 k=true:=by rw[wX];simp
  rw[D,I,J];rfl
 simp only[dT,e];rfl
def BI (n:Nat):Gr:=⟨2,[],yU true 3,List.replicate 11 (yU true 3),[[83],[80],[81]].take (n+1),[[83],[80],[81]].drop (n+1),[],[],[],0⟩
structure xi (P:Program) (X:aR) (GL:T (List AV)) (ae:T au):Prop where
 kn:∀k:Nat,k<8 ->bg P X GL ae 88 [.i .u8 (k:Int)] (aI (iZ (k%6)))
 bare:∀n:Nat,n<3 ->bg P X GL ae 38 [.ds [.s [83],.s [80],.s [81]] 0 (n+1) 1] (aI (BI n))
variable (S:aT P X GL ae) (R:bz8 ae) (A:dY P X GL) (G:bz8 ae) (F:bz8 ae)
def bb6 (H:xi P X GL ae) {x} (ok:x.OK) (N:x.known=true) {D} (hD: .ag (bx (fU x))=D) {C:aK Prop} (E:Sem P X GL ae C):du C 49 [vm x] h0 λx h=>∃n,deep n h x=some D:=by
 have k6:x.base%8<6:=by simpa[fA.known] using N
 have hb:=ok.base;have r8:aY .rem (.i .u8 (x.base:Int)) (.i .u8 8)=some (.i .u8 ((x.base%8:Nat):Int)):=yD (c:=8) ω;have V:=λh=>dR S (H.kn (x.base%8) ω) (n:=1) (by rfl) h;have kn:=TG k6;rw[show x.base%8%6=x.base%8 by omega] at V;have tl:=λτ h=>TT (τ:=τ) (h:=h) S E R A G F ok hD;have g1:If x=kw (iZ (x.base%8)) x.fam.head? :=by unfold If PH;rw[N];rfl
 have e6:x.most=6:=by unfold fA.most;rw[N];rfl
 rw[g1] at tl;have B:(iZ (x.base%8)).nc=2:=by
  rcases(show x.base%8=0∨x.base%8=1∨x.base%8=2∨x.base%8=3∨x.base%8=4∨x.base%8=5 by omega) with e|e|e|e|e|e<;>rw[e]<;>rfl
 have rm:=λh=>dR S (J1 (n:=2) S R A (TQ (nl:=x.fnl) ok.fam) (A4 pH) (eu (n:=8) zg) ω) (n:=9) (by
  rw[aL,aL,bZ,eu (n:=8) zg];rfl) h
 generalize iZ (x.base%8)=g at*;have ln:(fz g.nc).length=2:=by rw[B];rfl
 generalize U:(aw.seq PF (.seq HY (.seq Ii .ret)))=T5 at tl;have f5:Es=⟨99,[(2,(some (9,true)))],(.seq RD (.seq RE (.seq RF (.seq (.ops [⟨(some 5),.mv (.c (ι 6)),none⟩]) (.seq (.seq RG (.cond (.t 18) (.seq RH RI) .skip)) (.seq RK (.seq (.seq RM (.cond (.t 57) RO .skip)) T5)))))))⟩:=by rw[←U]
 rw[E.cB (F.g 49 Es),f5];have Z:nice 64 (.ag (gI x))=true:=by
  rw[qe];simp only[gI,Bg,iq,j9,A4 pH,A4 E0,A4 E1,A7]
 simp only[gI] at Z;simp only[aI,bx] at V;refine Z3 @vm.eq_1 @gI.eq_1 r8 ?_;refine E.cN (V _) (Z2 ln @iL ?_);refine E.cN (rm _) ?_;simp only[eT,eD];generalize I:x.fam.head?.getD 0=b;have L:∀(O:Gr) (τ:T AV) (h:AH),kw g x.fam.head? =O ->cG (h.oB.get 0)=some (gI x) ->cG (h.oB.get 1)=some ZG ->cG (h.oB.get 2)=some (bx O) ->4<=h.next ->τ.get 1=some (.p 0 0) ->τ.get 2=some (.p 1 0) ->τ.get 3=some (.b true) ->τ.get 4=some (.p 2 0) ->τ.get 5=some (ι 6) ->
  df C T5 [] (KF (λx h=>∃n,deep n h x=some D) [(2,some (9,true))]) τ h:=λO τ h e c0 c1 c2 nx t1 t2 t3 t4 t5=>by
  refine tl τ h ?_;rw[e];exact { c0:=c0,c1:=c1,c2:=⟨_,c2,.of _ _⟩,nx:=nx,t1:=t1,t2:=t2,t3:=by rw[t3,N],t4:=t4,t5:=by rw[t5,e6];rfl }
 rcases J:x.fam with _|⟨b',bs⟩
 ·have Y:((0:Int)<(([]:List Nat).length:Int))=False:=dQ (by simp);rw[J] at L;refine Z0 ?_;apply L g _ _ rfl;any_goals simp only[T.get_put,Nat.reduceEqDiff,reduceIte,d9,gI,ZG,J,bx]
  exact bB 4
 have Y:((0:Int)<((b'::bs).length:Int))=True:=fq (by simp);rw[J] at L I;obtain rfl:b'=b:=I;by_cases hz:(aE (jR b' 2)).2=0
 ·have j:(((aE (jR b' 2)).2:Int)=0)=True:=cJ;refine Z2 Y j ?_;apply L g _ _ (by show kw g (some b')=g;unfold kw;dsimp only;rw[B,aF hz]);any_goals simp only[T.get_put,Nat.reduceEqDiff,reduceIte,d9,gI,ZG,J,bx]
  exact bB 4
 ·have j:(((aE (jR b' 2)).2:Int)=0)=False:=cE;refine Z2 Y j ?_;apply L { g with fam:=jR b' 2 } _ _ (by show kw g (some b')=_;unfold kw;dsimp only;rw[B,aD hz])
  any_goals simp only[T.get_put,Nat.reduceEqDiff,reduceIte,d9,gI,ZG,J,bx]
  exact bB 4
def bb7 (H:xi P X GL ae) {x} (ok:x.OK) (L:x.known=false) {D} (hD: .ag (bx (fU x))=D) {C:aK Prop} (E:Sem P X GL ae C):du C 49 [vm x] h0 λx h=>∃n,deep n h x=some D:=by
 have k6:6<=x.base%8:=by
  have:¬x.base%8<6:=by simpa[fA.known] using L
  omega
 have hb:=ok.base;have hn:=ok.n;have r8:aY .rem (.i .u8 (x.base:Int)) (.i .u8 8)=some (.i .u8 ((x.base%8:Nat):Int)):=yD (c:=8) ω;have q4:aY .quo (.i .u8 (x.n:Int)) (.i .u8 4)=some (.i .u8 ((x.n/4:Nat):Int)):=D8 (c:=4) ⟨by omega,hn⟩;have r4:aY .rem (.i .u8 (x.n:Int)) (.i .u8 4)=some (.i .u8 ((x.n%4:Nat):Int)):=yD (c:=4) ω;have w4:dN .i64 ((x.n/4:Nat):Int)=((x.n/4:Nat):Int):=lj ω;have b0:dN .i64 ((x.n%4:Nat):Int)=((x.n%4:Nat):Int):=lj ω;have r3:aY .rem (ι ((x.n/4:Nat):Int)) (ι 3)=some (ι ((x.n/4%3:Nat):Int)):=iA (c:=3) ω;have a1:aY .add (ι 1) (ι ((x.n/4%3:Nat):Int))=some (ι ((x.n/4%3+1:Nat):Int)):=by rw[Nat.add_comm];exact oH (a:=1) ω
 have kc:=λh=>dR S (H.kn (x.base%8) ω) (n:=1) (by rfl) h;have n3:x.n/4%3<3:=by omega
 have c4:x.n%4<4:=by omega
 have tl:=λτ h=>TT (τ:=τ) (h:=h) S E R A G F ok hD;have g1:If x=kw (pG (x.n/4%3) (x.n%4)) x.fam.head? :=by unfold If PH;rw[L];rfl
 have e6:x.most=10:=by unfold fA.most;rw[L];rfl
 rw[g1] at tl;have rm:=λh=>dR S (J1 (n:=x.n%4) S R A (TQ (nl:=x.fnl) ok.fam) (A4 pH) (eu (n:=8) zg) ω) (n:=9) (by
  rw[aL,aL,bZ,eu (n:=8) zg];rfl) h
 have N:=H.bare _ n3;generalize iZ (x.base%8%6)=gz at*;generalize x.n/4%3=n at*;generalize x.n%4=c at*;generalize V:(aw.seq PF (.seq HY (.seq Ii .ret)))=T5 at tl;have f5:Es=⟨99,[(2,(some (9,true)))],(.seq RD (.seq RE (.seq RF (.seq (.ops [⟨(some 5),.mv (.c (ι 6)),none⟩]) (.seq (.seq RG (.cond (.t 18) (.seq RH RI) .skip)) (.seq RK (.seq (.seq RM (.cond (.t 57) RO .skip)) T5)))))))⟩:=by rw[←V]
 rw[E.cB (F.g 49 Es),f5];have Z:nice 64 (.ag (gI x))=true:=by
  rw[qe];simp only[gI,Bg,iq,j9,A4 pH,A4 E0,A4 E1,A7]
 simp only[gI] at Z;simp only[aI,bx] at kc;refine Z3 @vm.eq_1 @gI.eq_1 r8 ?_;refine E.cN (kc _) ?_;have O:∀(τ:T AV) h,az C τ (.t 19)= .sl 3 0 3 (some 3) 1 ->az C τ (.t 25)=ι ((n+1:Nat):Int) ->step (az C τ) h (.slc 1 (.t 19) none (some (.t 25)) none)= .v (.sl 3 0 (n+1) (some 3) 1) h:=λτ h h1 h2=>TU h1 (by rw[h2];exact tC) ω;have U:∀(τ:T AV) h,az C τ (.t 28)= .sl 4 0 3 (some 3) 1 ->az C τ (.t 32)=ι (c:Int) ->step (az C τ) h (.slc 1 (.t 28) none (some (.t 32)) none)= .v (.sl 4 0 c (some 3) 1) h:=λτ h h1 h2=>TU h1 (by rw[h2];exact tC) ω;have tc:=λi h=>J3 (GL:=GL) S F (i:=i) h;have rc:=λbb h=>Bp (GL:=GL) S R bb h;simp only[dO] at tc;simp only[eT,eD] at rc;refine Z5 q4 w4 r3 a1 O ?_;refine E.cN (J2 S N (o:=3) (vo:=1) (c:=[.s [83],.s [80],.s [81]]) rfl (n:=9) (by rw[aL,bZ,gA (l':=[.s [83],.s [80],.s [81]]) rfl rfl])) (Z6 @aI.eq_1 @bx.eq_1 @BI.eq_1 r4 b0 U ?_);refine E.cN (tc _ _) (Z1 @qv ?_);refine E.run ?_;refine E.bS (F.f 89) (Z0 ?_);refine E.cN (rc _ _) (Z1 @iB ?_);refine E.cN (rm _) ?_;simp only[eT,eD];generalize B:x.fam.head?.getD 0=b;have J:∀(F:Tr) (v4 v5 v8:Nat) (τ:T AV) (h:AH),kw (pG n c) x.fam.head? ={ pG n c with fam:=F } ->cG (h.oB.get 0)=some (gI x) ->cG (h.oB.get 1)=some ZG ->h.oB.get 4=some (.cells v4 [.s [65],.s [66],.s [67]]) ->h.oB.get 5=some (.cells v5 [.b true,ι 0]) ->h.oB.get 8=some (.cells v8 (sP (.sl 5 0 1 (some 1) 2))) ->
  cG (h.oB.get 2)=some [.sl 4 0 c (some 3) 1,tp (aE F).1,ι ((aE F).2:Int),eR dq 7 true (List.replicate 11 (yU true 3)).zipIdx,eX ([[83],[80],[81]].take (n+1)) (([[83],[80],[81]].drop (n+1)).map AV.s),.sl 8 0 1 none 13,ι 0,.sn,.sn] ->4<=h.next ->τ.get 1=some (.p 0 0) ->τ.get 2=some (.p 1 0) ->τ.get 3=some (.b false) ->τ.get 4=some (.p 2 0) ->τ.get 5=some (ι 10) ->
  df C T5 [] (KF (λx h=>∃n,deep n h x=some D) [(2,some (9,true))]) τ h:=λF v4 v5 v8 τ h e c0 c1 g4 g5 g8 c2 nx t1 t2 t3 t4 t5=>by
  refine tl τ h ?_;rw[e];exact { c0:=c0,c1:=c1,c2:=⟨_,c2,bb5 ω g4 g5 g8⟩,nx:=nx,t1:=t1,t2:=t2,t3:=by rw[t3,L],t4:=t4,t5:=by rw[t5,e6];rfl }
 rcases I:x.fam with _|⟨b',bs⟩
 ·have Y:((0:Int)<(([]:List Nat).length:Int))=False:=dQ (by simp);rw[I] at J;refine Z0 ?_;apply J (yU true 3) _ _ _ _ _ rfl;any_goals simp only[T.get_put,Nat.reduceEqDiff,reduceIte,d9,gI,ZG,I,sP]
  all_goals first|rfl|omega
 have Y:((0:Int)<((b'::bs).length:Int))=True:=fq (by simp);rw[I] at J B;obtain rfl:b'=b:=B;by_cases hz:(aE (jR b' c)).2=0
 ·have j:(((aE (jR b' c)).2:Int)=0)=True:=cJ;refine Z2 Y j ?_;apply J (yU true 3) _ _ _ _ _ (by show kw (pG n c) (some b')=_;unfold kw;dsimp only;rw[show(pG n c).nc=c from rfl,aF hz];rfl);any_goals simp only[T.get_put,Nat.reduceEqDiff,reduceIte,d9,gI,ZG,I,sP]
  all_goals first|rfl|omega
 ·have j:(((aE (jR b' c)).2:Int)=0)=False:=cE;refine Z2 Y j ?_;apply J (jR b' c) _ _ _ _ _ (by show kw (pG n c) (some b')=_;unfold kw;dsimp only;rw[show(pG n c).nc=c from rfl,aD hz]);any_goals simp only[T.get_put,Nat.reduceEqDiff,reduceIte,d9,gI,ZG,I,sP]
  all_goals first|rfl|omega
variable (S:aT P X GL ae)
def bb8 (R:bz8 ae) (A:dY P X GL) (G:bz8 ae) (F:bz8 ae) (H:xi P X GL ae) {x} (ok:x.OK):bg P X GL ae 49 [vm x] (aI (fU x)):=by
 refine bg.intro λC E=> ?_;cases j:x.known with
 |true=>exact bb6 S R A G F H ok j rfl E
 |false=>exact bb7 S R A G F H ok j rfl E
def bb9 {ev B x b} (h1:ev x= .sn) (h2:ff (ev b)=some 0):step ev h (.slc B x none (some b) none)= .v .sn h:=by
 show(match ev x with
  | .sl o j n cap esz=>bif !(Nat.beq esz B) then da.bad else match cap with
   |some c=>match d7 n c (nO ev none) (nO ev (some b)) (nO ev none) with
    |some (l,r,m)=>fN (j+l*esz) λj=>fN (r-l) λn=>fN (m-l) λc=>da.v (.sl o j n (some c) esz) h
    |none=>da.bad
   |none=>match d7 n n (nO ev none) (nO ev (some b)) none with
    |some (l,r,_)=>fN (j+l*esz) λj=>fN (r-l) λn=>da.v (.sl o j n none esz) h
    |none=>da.bad
  | .ds c j n esz=>bif !(Nat.beq esz B) then da.bad else match d7 n n (nO ev none) (nO ev (some b)) none with
   |some (l,r,_)=>fN (j+l*esz) λj=>fN (r-l) λn=>da.v (.ds c j n esz) h
   |none=>da.bad
  | .sn=>match d7 0 0 (nO ev none) (nO ev (some b)) (nO ev none) with|some _=>da.v .sn h|none=>da.bad
  |_=>da.bad)=_
 rw[h1];have e:d7 0 0 (nO ev none) (nO ev (some b)) (nO ev none)=some (0,0,0):=by rw[uO,uP,h2];rfl
 simp only[e]
def vp (k:Nat) (l:List AV) (m:Nat) (V:AV):AV:=match V with| .sn=> .sn|_=> .ds l 0 m k
def TV {α enc k nl} {L:List α} {m} (j:m<=L.length) {ev x b} (h1:ev x=eR enc k nl L) (h2:ff (ev b)=some m):
 step ev h (.slc k x none (some b) none)= .v (vp k (L.flatMap enc) m (eR enc k nl L)) h:=by
 rcases L with _|⟨a,L⟩;obtain rfl:m=0:=by simpa using j
 cases nl;rw[IZ] at h1 ⊢;exact JV (k:=0) h1 h2 (bB _);exact bb9 h1 h2;rw[yT] at h1 ⊢;exact JV h1 h2 j
variable {C:aK Prop} (E:Sem P X GL ae C)
def bc0 (F:bz8 ae) {g} (G:oy g) (pn:1<=g.pR.length) {nl B} (hb:∀b∈B,b<256) {m} (O:m<=B.length) (D:m<=36) h k
 (I:∀R v h',(R.length<=12/\ iG g R=true) ->uY h' R v ->h.next<=h'.next ->(∀j,j<h.next ->h'.oB.get j=h.oB.get j) ->(∀o n,v= .sl o 0 (n+1) none 4 ->h.next<=o) ->k v h'):du C 16 [aI g,vp 1 (B.flatMap cB) m (eR cB 1 nl B)] h k:=by
 have key:du C 16 [aI g,.ds (B.flatMap cB) 0 m 1] h k:=by
  refine aX6 S E F G pn (λi hi=> ?_) D (by rw[nN];exact fE pH B) h k I;have e:∀l:List Nat,l.flatMap cB=l.map λb:Nat=>AV.i .u8 (b:Int):=λl=>by
   induction l with
   |nil=>rfl
   |cons a l N=>rw[lE,N];rfl
  have J:B[i]? =some B[i]:=ef ω;exact⟨B[i],hb _ (dI J),by rw[e,oh,J];rfl⟩
 rcases B with _|⟨a,L⟩;cases nl;exact key;exact aX7 E F G pn h k I;exact key
def bc1 {n x}:deep (n+5) h (vm x)=some (vm x):=nX (n:=n+4) (by
 simp only[gI,aL,bZ,dH,eu zg,eu TO,eu TP])
end
end AM
namespace AM
open Go
noncomputable section
variable {P:Program} {X:aR} {GL:T (List AV)} {ae:T au}
def bc2 (S:aT P X GL ae) {f args d} (L:bg P X GL ae f args d) {c w vs} (rs:RS (dJ X) c h0 w) (gl:∀g l,GL.get g=some l ->c.gl g=some l) (O:bX c args vs)
 {K:Value ->World ->Prop} (J:∀v' j x h1 c1 n,deep n h1 x=some d ->cH (dJ X) c h0 w c1 h1 j ->VR c1 x v' ->K v' j):Calls P f vs.toArray w λe j=>∃v,e= .returned v/\ K v j:=by
 obtain⟨n,N⟩:=L;obtain⟨fn,b,e1,e2,e3,e4⟩:=Db S.sound (Qh S.sound n).1 N rs gl O;refine callsIn_wide.1 (vN (show CallsIn Fence.wide 0 P f vs.toArray w _ from e4) λe j I=> ?_);cases e with
 |returned v=>
  obtain⟨x,h1,c1,⟨m,hd⟩,B,D⟩:=I;exact⟨v,rfl,J _ _ _ _ _ _ hd B D⟩
 |_=>exact I.elim
def bc3 {n h x b} (hd:deep n h x=some (.b b)):x= .b b:=by
 cases n<;>cases x<;>simp only[deep] at hd<;>first|(cases hd;rfl)|(cases hd;done)|skip
 all_goals (repeat' split at hd)<;>cases hd
section
variable {P:Program} {W:World} {c:CE} {H:Type} {enc:TypeId×Value ->H} {sp:Nat ->Bool} {hd:Bool}
def pI {t} (j:P.underlying t=some (.int .u8)) {n cs x} (h:DataW.trod enc P W 0 sp hd n t cs=some x):∃b:Nat,b<256/\ bX c (cB b) cs:=by
 obtain⟨i,rfl,-,B⟩:=DataW.trod_int j h;have D:0<=i/\ i<=255:=by
  simp[Lit.wf,IntKind.min,IntKind.max,IntKind.signed,IntKind.bits] at B;omega
 refine⟨i.toNat,by omega,?_⟩;have e:((i.toNat:Nat):Int)=i:=by omega
 unfold cB;rw[e];exact .cons _ _ _ _ (.i _ _) .nil
def TX {a b x y} (h:bX c a x) (k:bX c b y):bX c (a++b) (x++y):=h.append k
def bc4 {a n cs} (h:W.cells? 0 a n=some cs):cs.length=n/\∀(j) v,cs[j]? =some v ->W.cell? (a.add j)=some v:=by
 unfold World.cells? at h;rw[aF (oi _)] at h;have D:cs.length=n:=by simpa using mapM_some_length h
 refine⟨D,λj v B=> ?_⟩;have I:=(eC.1 B).1;have:=mapM_some_get h j j (by rw[List.getElem?_range ω]);rw[this,B]
def bc5 {a:Addr} {i j}:(a.add i).add j=⟨a.block,a.off+(i+j),none⟩∨(i=0/\ j=0):=by
 unfold Addr.add;by_cases hi:i=0<;>by_cases B:j=0;exact .inr ⟨hi,B⟩;left;simp[hi,B];left;simp[hi,B];left;simp[hi,B];omega
def Kx {a v} (h:W.cell? a=some v):∃row t j,W.heap[a.block]? =some (.cells row t j)/\ a.spot=none/\ row[a.off]? =some v:=by
 unfold World.cell? at h;split at h;rename_i row t j e;split at h;cases h;rename_i B;exact⟨row,t,j,e,by simpa using B,h⟩;cases h
def Ky {α en} {OK:α ->Prop} {t e k} (Z:∀b row,fL W b=some row ->c.im b=some row) {b0 O} (h0:fL W b0=some O)
 (ht:P.underlying t=some (.slice e)) (hk:P.cellsOf e=k) (k0:0<k)
 (el:∀n cs x,DataW.trod enc P W 0 sp hd n e cs=some x ->∃a:α,OK a/\ bX c (en a) cs)
 {n cs x} (h:DataW.trod enc P W 0 sp hd n t cs=some x):∃(nl:Bool) (L:List α),(∀a∈L,OK a)/\ bX c [eR en k nl L] cs:=by
 rcases DataW.trod_slice ht h with ⟨rfl,-⟩|⟨a,len,cap,eI,c6,m,-,rfl,-,-,b5,-,c7,N,-,-⟩;exact⟨true,[],(λa ha=>by cases ha),bX.cons _ _ _ _ .sn .nil⟩;rw[hk] at N;have key:∀q,q<=len ->∃(L:List α) (vs:List Value),L.length=q/\ (∀a∈L,OK a)/\ bX c (L.flatMap en) vs/\ vs.length=q*k/\
  (0<q ->∃row t D,W.heap[a.block]? =some (.cells row t D)/\ a.spot=none/\∀(i:Nat) v,vs[i]? =some v ->row[a.off+i]? =some v):=by
  intro q;induction q with
  |zero=>intro _;exact⟨[],[],rfl,λa ha=>(by cases ha),.nil,by simp,λh=>by omega⟩
  |succ q ih=>
   intro hq;obtain⟨L,vs,V,l2,l3,l4,l5⟩:=ih ω;have hg:=N q ω;have hx:eI[q]? =some eI[q]:=ef ω;rw[hx] at hg;obtain⟨cs,hc,b7⟩:=Option.bind_eq_some_iff.1 hg;obtain⟨a',b8,hv⟩:=el _ _ _ b7;obtain⟨cl,cg⟩:=bc4 hc;refine⟨L++[a'],vs++cs,by rw[dy,V];rfl,?_,?_,by rw[dy,l4,cl,vE],λ_=> ?_⟩;intro b hb;rcases fO.1 hb with hb|hb;exact l2 b hb;rw[yC.1 hb];exact b8;rw[Bd,pO];exact l3.append hv;have B:∀(j:Nat) v,cs[j]? =some v ->∃row t D,W.heap[a.block]? =some (.cells row t D)/\ a.spot=none/\ row[a.off+(q*k+j)]? =some v∨(W.heap[a.block]? =some (.cells row t D)/\ row[a.off+(q*k+j)]? =some v):=by
    intro j v hj;have J:=cg j v hj;by_cases hz:q*k=0/\ j=0;have e:(a.add (q*k)).add j=a:=by rw[hz.1,hz.2];rfl
    rw[e] at J;obtain⟨row,t,D,r1,r2,r3⟩:=Kx J;exact⟨row,t,D,.inl ⟨r1,r2,by rw[hz.1,hz.2];exact r3⟩⟩;rcases bc5 (a:=a) (i:=q*k) (j:=j) with e|e;rw[e] at J;obtain⟨row,t,D,r1,-,r3⟩:=Kx J;exact⟨row,t,D,.inr ⟨r1,r3⟩⟩;exact bh e hz
   rcases vF q with rfl|b6;have b3:cs[0]? =some cs[0]:=ef ω;have Y:=cg 0 _ b3;have e:(a.add (0*k)).add 0=a:=by rw[ue];rfl
   rw[e] at Y;obtain⟨row,t,D,r1,r2,-⟩:=Kx Y;refine⟨row,t,D,r1,r2,λi v hi=> ?_⟩;have lv:vs=[]:=by rw[←FQ,l4,ue]
   rw[lv,gx] at hi;obtain⟨b1,t',b2,r⟩:=B i v hi;rcases r with ⟨I,-,U⟩|⟨I,U⟩;rw[r1] at I;cases I;simpa using U;rw[r1] at I;cases I;simpa using U;obtain⟨row,t,D,r1,r2,r3⟩:=l5 b6;refine⟨row,t,D,r1,r2,λi v hi=> ?_⟩;by_cases aV:i<vs.length;rw[pL aV] at hi;exact r3 i v hi;rw[rK ω] at hi;obtain⟨b1,t',b2,r⟩:=B _ v hi;have ei:q*k+(i-vs.length)=i:=by omega
   rw[ei] at r;rcases r with ⟨I,-,U⟩|⟨I,U⟩;rw[r1] at I;cases I;exact U;rw[r1] at I;cases I;exact U
 obtain⟨L,vs,V,l2,l3,l4,l5⟩:=key len (bB _);refine⟨false,L,l2,?_⟩;rcases vF len with rfl|b4;have lL:L=[]:=FQ.1 V;subst lL;rw[IZ];exact .cons _ _ _ _ (.ds [] 0 0 k b0 0 cap a O [] (Z _ _ h0) (λi v hi=>by simp at hi) .nil (oi _) (λh=>bh rfl h)) .nil;obtain⟨row,t',D,r1,r2,r3⟩:=l5 b4;have xt:L≠[]:=λe=>by rw[e] at V;simp at V;omega
 rw[sM xt,V];refine .cons _ _ _ _ (.ds (L.flatMap en) 0 len k a.block a.off cap a row vs (Z _ _ (qS r1)) r3 l3 b5 (λ_=> ?_)) .nil;obtain⟨ab,ao,a_⟩:=a;obtain rfl:a_=none:=r2;rfl
def BJ {t fs} (J:P.underlying t=some (.struct fs)) {n cs x} (h:DataW.trod enc P W 0 sp hd n t cs=some x):
 cs.length=P.cellsOf t/\∀(i:Nat) f,fs.toList[i]? =some f ->∃m y,DataW.trod enc P W 0 sp hd m f.type ((cs.drop f.offset).take (P.cellsOf f.type))=some y:=by
 rcases n with _|n;simp[DataW.trod] at h;unfold DataW.trod at h;rw[J] at h;split at h<;>simp_all;obtain⟨N,D,B,hd⟩:=h;refine λi f j=>⟨n,?_⟩;have I:=mapM_some_length B;have hi:=(jX.1 j).1;have:=mapM_some_get B i f (by simpa using j);have L:D[i]? =some (D[i]'(by rw[I];simpa using hi)):=ef _;rw[L] at this;exact⟨_,_,this⟩
end
end
end AM
namespace AM
open Dg Go
noncomputable section
def dn (s:List Nat):List Nat:=s.filter λb=>b !=32&&b !=10
def Jd (a b:List Nat):dn (a++b)=dn a++dn b:=List.filter_append ..
inductive Fo where
 |nil
 |lf (t:Tn) (r:Fo)
 |nd (t:Tn) (k r:Fo)
namespace Fo
def fl:Fo ->List Tn
 |nil=>[]
 |lf t r=>t::fl r
 |nd t k r=>t::(fl k++fl r)
def ok (g:Gr):List (Bool×Nat) ->Fo ->Prop
 |[],nil=>True
 |s::ss,lf t r=>(t.prod= -1/\ t.tok=(s.2:Int)/\ s.1=true/\ bF6 s.2 t.text/\ PG t.rem)/\ ok g ss r
 |s::ss,nd t k r=>(∃(q:Nat) (x:Pr),t.prod=(q:Int)/\ g.pR[q]? =some x/\ s=(false,x.left)/\ ok g x.right k/\ t.tok= -1/\ t.text=[]/\ t.rem=[])/\ ok g ss r
 |_,_=>False
def lv:Fo ->Nat
 |nil=>0
 |lf _ r=>1+lv r
 |nd _ k r=>lv k+lv r
def app:Fo ->Fo ->Fo
 |nil,b=>b
 |lf t r,b=>lf t (app r b)
 |nd t k r,b=>nd t k (app r b)
def den:Fo ->List Nat
 |nil=>[]
 |lf t r=>t.rem.flatMap dn++dn t.text++den r
 |nd _ k r=>den k++den r
def ww:Fo ->Nat
 |nil=>0
 |lf t r=>21+4*t.rem.length+ww r
 |nd _ k r=>17+ww k+ww r
def wt:Fo ->Nat
 |nil=>0
 |lf t r=>16+4*t.rem.length+wt r
 |nd _ k r=>16+wt k+wt r
def fl_app:∀a b,fl (app a b)=fl a++fl b
 |nil,b=>rfl
 |lf t r,b=>by simp only[app,fl,fl_app r b,gw]
 |nd t k r,b=>by simp only[app,fl,fl_app r b,gw,hZ]
def lv_app:∀a b,lv (app a b)=lv a+lv b
 |nil,b=>by simp only[app,lv];omega
 |lf t r,b=>by simp only[app,lv,lv_app r b];omega
 |nd t k r,b=>by simp only[app,lv,lv_app r b];omega
def ok_app {g}:∀{a b ss tt},ok g ss a ->ok g tt b ->ok g (ss++tt) (app a b)
 |nil,b,[],tt,_,h=>h
 |lf t r,b,s::ss,tt,h,h'=>⟨h.1,ok_app h.2 h'⟩
 |nd t k r,b,s::ss,tt,h,h'=>⟨h.1,ok_app h.2 h'⟩
 |nil,b,_::_,tt,h,_=>h.elim
 |lf _ _,b,[],tt,h,_=>h.elim
 |nd _ _ _,b,[],tt,h,_=>h.elim
def nlv (N:List Tn):Nat:=(N.filter λt=>decide (t.prod<0)).length
def nlv_app a b:nlv (a++b)=nlv a+nlv b:=by simp[nlv]
def lv_eq {g}:∀{f ss},ok g ss f ->nlv (fl f)=lv f
 |nil,[],_=>rfl
 |lf t r,s::ss,h=>by
  have:=lv_eq h.2;have e:decide (t.prod<0)=true:=zG (by have:=h.1.1;omega);simp only[nlv,fl,Fx,e,dZ,gJ,lv] at this ⊢;omega
 |nd t k r,s::ss,h=>by
  obtain⟨⟨q,x,h1,-,-,j,-⟩,h2⟩:=h;have e1:=lv_eq j;have e2:=lv_eq h2;have e:decide (t.prod<0)=false:=ot ω;simp only[nlv,fl,Fx,e,List.filter_append,dy,lv] at e1 e2 ⊢;simp;omega
 |nil,_::_,h=>h.elim
 |lf _ _,[],h=>h.elim
 |nd _ _ _,[],h=>h.elim
end Fo
structure Dn where
 k:Nat
 s:List Nat
 n:Nat
 a:Nat
 b:Nat
def yV (d:Dn):List AV:=[.i .i64 (d.k:Int),.s d.s,.i .i64 (d.n:Int),.i .i64 (d.a:Int),.i .i64 (d.b:Int)]
def bS6 d:(yV d).length=5:=rfl
inductive Dt where
 |tx (s:List Nat)
 |ln (s:List Nat)
 |hd
 |sq (a b:Dt)
 |ne (n:Nat) (a:Dt)
 |al (a:Dt)
 |gp (a:Dt)
namespace Dt
def sz:Dt ->Nat
 |tx _|ln _|hd=>1
 |sq a b=>sz a+sz b+1
 |ne _ a|al a|gp a=>sz a+1
def po (i:Nat):Dt ->List Dn
 |tx s=>[⟨0,s,0,0,0⟩]
 |ln s=>[⟨1,s,0,0,0⟩]
 |hd=>[⟨2,[],0,0,0⟩]
 |sq a b=>po i a++po (i+sz a) b++[⟨3,[],0,i+sz a-1,i+sz a+sz b-1⟩]
 |ne n a=>po i a++[⟨4,[],n,i+sz a-1,0⟩]
 |al a=>po i a++[⟨5,[],0,i+sz a-1,0⟩]
 |gp a=>po i a++[⟨6,[],0,i+sz a-1,0⟩]
def den:Dt ->List Nat
 |tx s=>dn s
 |ln _|hd=>[]
 |sq a b=>den a++den b
 |ne _ a|al a|gp a=>den a
def wd:Dt ->Nat
 |tx s|ln s=>s.length
 |hd=>0
 |sq a b=>wd a+wd b
 |ne n a=>n+wd a
 |al a|gp a=>wd a
def fit (A:List Nat ->Prop):Dt ->Prop
 |tx s=>A s
 |ln s=>A s/\ dn s=[]
 |hd=>True
 |sq a b=>fit A a/\ fit A b
 |ne n a=>n<=1000/\ fit A a
 |al a|gp a=>fit A a
def sz_pos T:1<=sz T:=by cases T<;>simp only[sz]<;>omega
def po_len:∀T i,(po i T).length=sz T
 |tx _,i|ln _,i|hd,i=>rfl
 |sq a b,i=>by simp only[po,sz,dy,po_len a,po_len b];rfl
 |ne _ a,i|al a,i|gp a,i=>by simp only[po,sz,dy,po_len a];rfl
end Dt
def yz (i:Nat):Option Dt ->List Dn
 |none=>[]
 |some T=>T.po i
def uT:Option Dt ->Nat
 |none=>0
 |some T=>T.sz
def A9 (i:Nat):Option Dt ->Int
 |none=> -1
 |some T=>((i+T.sz-1:Nat):Int)
def jn:Option Dt ->Option Dt ->Option Dt
 |none,b=>b
 |some a,none=>some a
 |some a,some b=>some (.sq a b)
def DH (T:Option Dt):List Nat:=(T.map Dt.den).getD []
def jf (T:Option Dt):Nat:=(T.map Dt.wd).getD 0
def DP (A:List Nat ->Prop):Option Dt ->Prop
 |none=>True
 |some T=>T.fit A
def JC a b:DH (jn a b)=DH a++DH b:=by cases a<;>cases b<;>simp[jn,DH,Dt.den]
def DO a b:jf (jn a b)=jf a+jf b:=by cases a<;>cases b<;>simp[jn,jf,Dt.wd]
def JD {A a b} (j:DP A a) (hb:DP A b):DP A (jn a b):=by
 rcases a with _|a;exact hb;cases b with
  |none=>exact j
  |some b=>exact⟨j,hb⟩
def HH a b:uT (jn a b)<=uT a+uT b+1:=by cases a<;>cases b<;>simp[jn,uT,Dt.sz]<;>omega
end
end AM
