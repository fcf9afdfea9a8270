import Derived.ChangeArms
import Derived.ChangeShapes
import Derived.ChangeStays
import Derived.RowKit
import Derived.Test.YtihgjngjidijaaaGreatDoorN26
set_option linter.all false
set_option maxHeartbeats 8000000
namespace AM
open Dg Go
noncomputable section
def sP (V:AV):List AV:=[.s [102,105,114,115,116],ι 0,V,cu (aE (eu true 3)).1,ι ((aE (eu true 3)).2:Int),.b false,ι 0,.sn,.b false,ι 0,ι 0,ι 0,ι 0]
def bb5 {h:AH} {v4 v5 v8 n c:Nat} (hc:c<=3) {F:Tr} (g4:h.oB.get 4=some (.cells v4 [.s [65],.s [66],.s [67]])) (g5:h.oB.get 5=some (.cells v5 [.b true,ι 0])) (g8:h.oB.get 8=some (.cells v8 (sP (.sl 5 0 1 (some 1) 2)))):
 E2 h { pG n c with fam:=F } [.sl 4 0 c (some 3) 1,cu (aE F).1,ι ((aE F).2:Int),eR dq 7 true (List.replicate 11 (eu true 3)).zipIdx,eX ([[83],[80],[81]].take (n+1)) (([[83],[80],[81]].drop (n+1)).map AV.s),.sl 8 0 1 none 13,ι 0,.sn,.sn]:=by
 refine⟨rfl,?_,[4,5,8],by simp,?_⟩
 ·simp only[lT,qR,JQ,tN,uZ];rfl
 ·have ep:qT h [4,5,8]=⟨h.next,h.ver,((T.e.put 4 (.cells v4 [.s [65],.s [66],.s [67]])).put 5 (.cells v5 [.b true,ι 0])).put 8 (.cells v8 (sP (.sl 5 0 1 (some 1) 2)))⟩:=by
   unfold qT AK;simp only[zH,Ls,g4,g5,g8]
  rw[ep];generalize hH:(⟨h.next,h.ver,((T.e.put 4 (.cells v4 [.s [65],.s [66],.s [67]])).put 5 (.cells v5 [.b true,ι 0])).put 8 (.cells v8 (sP (.sl 5 0 1 (some 1) 2)))⟩:AH)=H;have d4:deep 8 H (.sl 4 0 c (some 3) 1)=some (eX (fz c) ((([[65],[66],[67]]:List (List Nat)).drop c).map AV.s)):=by
   rw[gA (n:=7) (l:=[.s [65],.s [66],.s [67]]) (l':=[.s [65],.s [66],.s [67]]) (by rw[←hH];rfl) rfl];unfold eX;rw[BD hc];unfold fz;rw[←kE,vJ];rfl
  have d5:deep 7 H (.sl 5 0 1 (some 1) 2)=some (eR ba 2 true [(true,0)]):=by
   rw[gA (n:=6) (l:=[.b true,ι 0]) (l':=[.b true,ι 0]) (by rw[←hH];rfl) rfl];rfl
  have d8:deep 8 H (.sl 8 0 1 none 13)=some (eR aM 13 true [oO [102,105,114,115,116] 0 true [(true,0)]]):=by
   rw[gA (n:=7) (l:=sP (.sl 5 0 1 (some 1) 2)) (l':=sP (eR ba 2 true [(true,0)])) (by rw[←hH];rfl) (by
    simp only[sP,aL,bZ,dH,yW,oK,Kn,nW (n:=6),d5])]
   rfl
  simp only[aL,bZ,dH,Kn,nW (n:=7),Bt (n:=7),dA (n:=7) jD,d4,d8];rfl
variable {P:Program} {X:aR} {GL:T (List AV)} {ae:T au}
def TU {ev:MA ->AV} {h:AH} {x a:MA} {o n k:Nat} (h1:ev x= .sl o 0 n (some n) 1) (h2:fP (ev a)=some k) (hk:k<=n):step ev h (.slc 1 x none (some a) none)= .v (.sl o 0 k (some n) 1) h:=by
 show(match ev x with
  | .sl o off n cap esz=>bif !(Nat.beq esz 1) then ay.bad else match cap with
   |some c=>match d7 n c (nO ev none) (nO ev (some a)) (nO ev none) with
    |some (l,r,m)=>fN (off+l*esz) λoff=>fN (r-l) λn=>fN (m-l) λc=>ay.v (.sl o off n (some c) esz) h
    |none=>ay.bad
   |none=>match d7 n n (nO ev none) (nO ev (some a)) none with
    |some (l,r,_)=>fN (off+l*esz) λoff=>fN (r-l) λn=>ay.v (.sl o off n none esz) h
    |none=>ay.bad
  | .ds c off n esz=>bif !(Nat.beq esz 1) then ay.bad else match d7 n n (nO ev none) (nO ev (some a)) none with
   |some (l,r,_)=>fN (off+l*esz) λoff=>fN (r-l) λn=>ay.v (.ds c off n esz) h
   |none=>ay.bad
  | .sn=>match d7 0 0 (nO ev none) (nO ev (some a)) (nO ev none) with|some _=>ay.v .sn h|none=>ay.bad
  |_=>ay.bad)=_
 rw[h1];have e:d7 n n (nO ev none) (nO ev (some a)) (nO ev none)=some (0,k,n):=by
  rw[uO,uP,h2];show(bif Nat.ble n n&&Nat.ble k n&&Nat.ble 0 k then some (0,k,n) else none)=_;have q1:Nat.ble n n=true:=by rw[dm];simp
  have q2:Nat.ble k n=true:=by rw[dm];simpa using hk
  have q3:Nat.ble 0 k=true:=by rw[dm];simp
  rw[q1,q2,q3];rfl
 simp only[dT,e];rfl
def BI (n:Nat):Gr:=⟨2,[],eu true 3,List.replicate 11 (eu true 3),[[83],[80],[81]].take (n+1),[[83],[80],[81]].drop (n+1),[],[],[],0⟩
structure xi (P:Program) (X:aR) (GL:T (List AV)) (ae:T au):Prop where
 kn:∀k:Nat,k<8 ->bg P X GL ae 79 [.i .u8 (k:Int)] (aI (iZ (k%6)))
 bare:∀n:Nat,n<3 ->bg P X GL ae 35 [.ds [.s [83],.s [80],.s [81]] 0 (n+1) 1] (aI (BI n))
def bb6 (S:aT P X GL ae) (R:eL ae) (A:dY P X GL) (G:jf ae) (F:hZ ae) (H:xi P X GL ae) {x:fA} (ok:x.OK) (hk:x.known=true) {D:AV} (hD: .ag (ar (fU x))=D) {C:aK Prop} (E:Sem P X GL ae C):du C 43 [vm x] h0 λx h=>∃n,deep n h x=some D:=by
 have k6:x.base%8<6:=by simpa[fA.known] using hk
 have hb:=ok.base;have r8:aY .rem (.i .u8 (x.base:Int)) (.i .u8 8)=some (.i .u8 ((x.base%8:Nat):Int)):=tP (c:=8) ω;have l6:(((x.base%8:Nat):Int)<6)=True:=cJ;have kc:=λh=>dR S (H.kn (x.base%8) ω) (n:=1) (by rfl) h;have kn:=TG k6;rw[show x.base%8%6=x.base%8 by omega] at kc;have tl:=λτ h=>TT (τ:=τ) (h:=h) S E R A G F ok hD;have g1:sN x=kw (iZ (x.base%8)) x.fam.head? :=by unfold sN xg;rw[hk];rfl
 have e6:x.most=6:=by unfold fA.most;rw[hk];rfl
 rw[g1] at tl;have nc2:(iZ (x.base%8)).nc=2:=by
  rcases(show x.base%8=0∨x.base%8=1∨x.base%8=2∨x.base%8=3∨x.base%8=4∨x.base%8=5 by omega) with e|e|e|e|e|e<;>rw[e]<;>rfl
 have rm:=λh=>dR S (J1 (n:=2) S R A (TQ (nl:=x.fnl) ok.fam) (dg pH) (dA (n:=8) zg) ω) (n:=9) (by
  rw[aL,aL,bZ,dA (n:=8) zg];rfl) h
 generalize iZ (x.base%8)=g at*;have ln:(fz g.nc).length=2:=by rw[nc2];rfl
 generalize htl:(aw.seq Eg (.seq yU (.seq yV .ret)))=T5 at tl;have f5:JD=⟨99,[(2,(some (9,true)))],(.seq Ju (.seq Jv (.seq Jw (.seq (.ops [⟨(some 5),.mv (.c (ι 6)),none⟩]) (.seq (.seq Jx (.cond (.t 18) (.seq Jy Jz) .skip)) (.seq JA (.seq (.seq JB (.cond (.t 57) JC .skip)) T5)))))))⟩:=by rw[←htl]
 rw[E.cB F.f43,f5];have nkr:nice 64 (.ag (gI x))=true:=by
  rw[qe];simp only[gI,iu,iq,j9,dg pH,dg E0,dg E1,g9]
 simp only[gI] at nkr;simp only[aI,ar] at kc;refine Z6 @vm.eq_1 @gI.eq_1 @h0.eq_1 r8 l6 nkr ?_;refine E.cN (kc _) (Z4 r8 l6 ln @iL ?_);refine E.cN (rm _) ?_;simp only[eT,eD];generalize hb0:x.fam.head?.getD 0=b;have mi:∀(g':Gr) (τ:T AV) (h:AH),kw g x.fam.head? =g' ->cG (h.oB.get 0)=some (gI x) ->cG (h.oB.get 1)=some ZG ->cG (h.oB.get 2)=some (ar g') ->4<=h.next ->τ.get 1=some (.p 0 0) ->τ.get 2=some (.p 1 0) ->τ.get 3=some (.b true) ->τ.get 4=some (.p 2 0) ->τ.get 5=some (ι 6) ->
  df C T5 [] (KF (λx h=>∃n,deep n h x=some D) [(2,some (9,true))]) τ h:=λg' τ h e c0 c1 c2 nx t1 t2 t3 t4 t5=>by
  refine tl τ h ?_;rw[e];exact { c0:=c0,c1:=c1,c2:=⟨_,c2,.of _ _⟩,nx:=nx,t1:=t1,t2:=t2,t3:=by rw[t3,hk],t4:=t4,t5:=by rw[t5,e6];rfl }
 rcases hf:x.fam with _|⟨b',bs⟩
 ·have lz:((0:Int)<(([]:List Nat).length:Int))=False:=dQ (by simp);rw[hf] at mi;refine Z2 @dw lz ?_;apply mi g _ _ rfl;any_goals simp only[T.get_put,Nat.reduceEqDiff,reduceIte,d9,gI,ZG,hf,ar]
  exact bB 4
 ·have lz:((0:Int)<((b'::bs).length:Int))=True:=fq (by simp);rw[hf] at mi hb0;obtain rfl:b'=b:=hb0;by_cases hz:(aE (jR b' 2 0 0)).2=0
  ·have hz':(((aE (jR b' 2 0 0)).2:Int)=0)=True:=cJ;refine Z3 @dw lz hz' ?_;apply mi g _ _ (by show kw g (some b')=g;unfold kw;dsimp only;rw[nc2,aF hz]);any_goals simp only[T.get_put,Nat.reduceEqDiff,reduceIte,d9,gI,ZG,hf,ar]
   exact bB 4
  ·have hz':(((aE (jR b' 2 0 0)).2:Int)=0)=False:=av;refine Z3 @dw lz hz' ?_;apply mi { g with fam:=jR b' 2 0 0 } _ _ (by show kw g (some b')=_;unfold kw;dsimp only;rw[nc2,aD hz])
   any_goals simp only[T.get_put,Nat.reduceEqDiff,reduceIte,d9,gI,ZG,hf,ar]
   exact bB 4
def bb7 (S:aT P X GL ae) (R:eL ae) (A:dY P X GL) (G:jf ae) (F:hZ ae) (H:xi P X GL ae) {x:fA} (ok:x.OK) (hk:x.known=false) {D:AV} (hD: .ag (ar (fU x))=D) {C:aK Prop} (E:Sem P X GL ae C):du C 43 [vm x] h0 λx h=>∃n,deep n h x=some D:=by
 have k6:6<=x.base%8:=by
  have:¬x.base%8<6:=by simpa[fA.known] using hk
  omega
 have hb:=ok.base;have hn:=ok.n;have r8:aY .rem (.i .u8 (x.base:Int)) (.i .u8 8)=some (.i .u8 ((x.base%8:Nat):Int)):=tP (c:=8) ω;have q4:aY .quo (.i .u8 (x.n:Int)) (.i .u8 4)=some (.i .u8 ((x.n/4:Nat):Int)):=D8 (c:=4) ⟨by omega,hn⟩;have r4:aY .rem (.i .u8 (x.n:Int)) (.i .u8 4)=some (.i .u8 ((x.n%4:Nat):Int)):=tP (c:=4) ω;have w4:dN .i64 ((x.n/4:Nat):Int)=((x.n/4:Nat):Int):=lj ω;have w4':dN .i64 ((x.n%4:Nat):Int)=((x.n%4:Nat):Int):=lj ω;have r3:aY .rem (ι ((x.n/4:Nat):Int)) (ι 3)=some (ι ((x.n/4%3:Nat):Int)):=iA (c:=3) ω;have a1:aY .add (ι 1) (ι ((x.n/4%3:Nat):Int))=some (ι ((x.n/4%3+1:Nat):Int)):=by rw[Nat.add_comm];exact oH (a:=1) ω
 have l6:(((x.base%8:Nat):Int)<6)=False:=av;have kc:=λh=>dR S (H.kn (x.base%8) ω) (n:=1) (by rfl) h;have n3:x.n/4%3<3:=by omega
 have c4:x.n%4<4:=by omega
 have tl:=λτ h=>TT (τ:=τ) (h:=h) S E R A G F ok hD;have g1:sN x=kw (pG (x.n/4%3) (x.n%4)) x.fam.head? :=by unfold sN xg;rw[hk];rfl
 have e6:x.most=10:=by unfold fA.most;rw[hk];rfl
 rw[g1] at tl;have rm:=λh=>dR S (J1 (n:=x.n%4) S R A (TQ (nl:=x.fnl) ok.fam) (dg pH) (dA (n:=8) zg) ω) (n:=9) (by
  rw[aL,aL,bZ,dA (n:=8) zg];rfl) h
 have hba:=H.bare _ n3;generalize iZ (x.base%8%6)=gz at*;generalize x.n/4%3=n at*;generalize x.n%4=c at*;generalize htl:(aw.seq Eg (.seq yU (.seq yV .ret)))=T5 at tl;have f5:JD=⟨99,[(2,(some (9,true)))],(.seq Ju (.seq Jv (.seq Jw (.seq (.ops [⟨(some 5),.mv (.c (ι 6)),none⟩]) (.seq (.seq Jx (.cond (.t 18) (.seq Jy Jz) .skip)) (.seq JA (.seq (.seq JB (.cond (.t 57) JC .skip)) T5)))))))⟩:=by rw[←htl]
 rw[E.cB F.f43,f5];have nkr:nice 64 (.ag (gI x))=true:=by
  rw[qe];simp only[gI,iu,iq,j9,dg pH,dg E0,dg E1,g9]
 simp only[gI] at nkr;simp only[aI,ar] at kc;refine Z6 @vm.eq_1 @gI.eq_1 @h0.eq_1 r8 l6 nkr ?_;refine E.cN (kc _) ?_;have hs1:∀(τ:T AV) h,az C τ (.t 19)= .sl 3 0 3 (some 3) 1 ->az C τ (.t 25)=ι ((n+1:Nat):Int) ->step (az C τ) h (.slc 1 (.t 19) none (some (.t 25)) none)= .v (.sl 3 0 (n+1) (some 3) 1) h:=λτ h h1 h2=>TU h1 (by rw[h2];exact tC) ω;have hs2:∀(τ:T AV) h,az C τ (.t 28)= .sl 4 0 3 (some 3) 1 ->az C τ (.t 32)=ι (c:Int) ->step (az C τ) h (.slc 1 (.t 28) none (some (.t 32)) none)= .v (.sl 4 0 c (some 3) 1) h:=λτ h h1 h2=>TU h1 (by rw[h2];exact tC) ω;have tc:=λi h=>J3 (GL:=GL) S F (i:=i) h;have rc:=λbb h=>Bp (GL:=GL) S R bb h;simp only[ba] at tc;simp only[eT,eD] at rc;refine qX r8 l6 q4 r4 w4 w4' r3 a1 hs1 hs2 ?_;refine E.cN (J2 S hba (o:=3) (vo:=1) (c:=[.s [83],.s [80],.s [81]]) rfl (n:=9) (by rw[aL,bZ,gA (l':=[.s [83],.s [80],.s [81]]) rfl rfl])) (qt @aI.eq_1 @ar.eq_1 @BI.eq_1 r8 l6 q4 r4 w4 w4' r3 a1 hs1 hs2 ?_);refine E.cN (tc _ _) (Z1 @qv ?_);refine E.run ?_;refine E.bS F.f80 (Z1 @JE.eq_1 ?_);refine E.cN (rc _ _) (Z2 @ec @iB ?_);refine E.cN (rm _) ?_;simp only[eT,eD];generalize hb0:x.fam.head?.getD 0=b;have mi:∀(F:Tr) (v4 v5 v8:Nat) (τ:T AV) (h:AH),kw (pG n c) x.fam.head? ={ pG n c with fam:=F } ->cG (h.oB.get 0)=some (gI x) ->cG (h.oB.get 1)=some ZG ->h.oB.get 4=some (.cells v4 [.s [65],.s [66],.s [67]]) ->h.oB.get 5=some (.cells v5 [.b true,ι 0]) ->h.oB.get 8=some (.cells v8 (sP (.sl 5 0 1 (some 1) 2))) ->
  cG (h.oB.get 2)=some [.sl 4 0 c (some 3) 1,cu (aE F).1,ι ((aE F).2:Int),eR dq 7 true (List.replicate 11 (eu true 3)).zipIdx,eX ([[83],[80],[81]].take (n+1)) (([[83],[80],[81]].drop (n+1)).map AV.s),.sl 8 0 1 none 13,ι 0,.sn,.sn] ->4<=h.next ->τ.get 1=some (.p 0 0) ->τ.get 2=some (.p 1 0) ->τ.get 3=some (.b false) ->τ.get 4=some (.p 2 0) ->τ.get 5=some (ι 10) ->
  df C T5 [] (KF (λx h=>∃n,deep n h x=some D) [(2,some (9,true))]) τ h:=λF v4 v5 v8 τ h e c0 c1 g4 g5 g8 c2 nx t1 t2 t3 t4 t5=>by
  refine tl τ h ?_;rw[e];exact { c0:=c0,c1:=c1,c2:=⟨_,c2,bb5 ω g4 g5 g8⟩,nx:=nx,t1:=t1,t2:=t2,t3:=by rw[t3,hk],t4:=t4,t5:=by rw[t5,e6];rfl }
 rcases hf:x.fam with _|⟨b',bs⟩
 ·have lz:((0:Int)<(([]:List Nat).length:Int))=False:=dQ (by simp);rw[hf] at mi;refine Z3 @ec @dw lz ?_;apply mi (eu true 3) _ _ _ _ _ rfl;any_goals simp only[T.get_put,Nat.reduceEqDiff,reduceIte,d9,gI,ZG,hf,sP]
  all_goals first|rfl|omega
 ·have lz:((0:Int)<((b'::bs).length:Int))=True:=fq (by simp);rw[hf] at mi hb0;obtain rfl:b'=b:=hb0;by_cases hz:(aE (jR b' c 0 0)).2=0
  ·have hz':(((aE (jR b' c 0 0)).2:Int)=0)=True:=cJ;refine Z4 @ec @dw lz hz' ?_;apply mi (eu true 3) _ _ _ _ _ (by show kw (pG n c) (some b')=_;unfold kw;dsimp only;rw[show(pG n c).nc=c from rfl,aF hz];rfl);any_goals simp only[T.get_put,Nat.reduceEqDiff,reduceIte,d9,gI,ZG,hf,sP]
   all_goals first|rfl|omega
  ·have hz':(((aE (jR b' c 0 0)).2:Int)=0)=False:=av;refine Z4 @ec @dw lz hz' ?_;apply mi (jR b' c 0 0) _ _ _ _ _ (by show kw (pG n c) (some b')=_;unfold kw;dsimp only;rw[show(pG n c).nc=c from rfl,aD hz]);any_goals simp only[T.get_put,Nat.reduceEqDiff,reduceIte,d9,gI,ZG,hf,sP]
   all_goals first|rfl|omega
variable (S:aT P X GL ae)
def bb8 (R:eL ae) (A:dY P X GL) (G:jf ae) (F:hZ ae) (H:xi P X GL ae) {x:fA} (ok:x.OK):bg P X GL ae 43 [vm x] (aI (fU x)):=by
 refine bg.intro λC E=> ?_;cases hk:x.known with
 |true=>exact bb6 S R A G F H ok hk rfl E
 |false=>exact bb7 S R A G F H ok hk rfl E
def bb9 {ev:MA ->AV} {h:AH} {es x b} (h1:ev x= .sn) (h2:fP (ev b)=some 0):step ev h (.slc es x none (some b) none)= .v .sn h:=by
 show(match ev x with
  | .sl o off n cap esz=>bif !(Nat.beq esz es) then ay.bad else match cap with
   |some c=>match d7 n c (nO ev none) (nO ev (some b)) (nO ev none) with
    |some (l,r,m)=>fN (off+l*esz) λoff=>fN (r-l) λn=>fN (m-l) λc=>ay.v (.sl o off n (some c) esz) h
    |none=>ay.bad
   |none=>match d7 n n (nO ev none) (nO ev (some b)) none with
    |some (l,r,_)=>fN (off+l*esz) λoff=>fN (r-l) λn=>ay.v (.sl o off n none esz) h
    |none=>ay.bad
  | .ds c off n esz=>bif !(Nat.beq esz es) then ay.bad else match d7 n n (nO ev none) (nO ev (some b)) none with
   |some (l,r,_)=>fN (off+l*esz) λoff=>fN (r-l) λn=>ay.v (.ds c off n esz) h
   |none=>ay.bad
  | .sn=>match d7 0 0 (nO ev none) (nO ev (some b)) (nO ev none) with|some _=>ay.v .sn h|none=>ay.bad
  |_=>ay.bad)=_
 rw[h1];have e:d7 0 0 (nO ev none) (nO ev (some b)) (nO ev none)=some (0,0,0):=by rw[uO,uP,h2];rfl
 simp only[e]
def vp (k:Nat) (l:List AV) (m:Nat) (V:AV):AV:=match V with| .sn=> .sn|_=> .ds l 0 m k
def TV {α:Type} {enc:α ->List AV} {k:Nat} {nl:Bool} {L:List α} {m:Nat} (hm:m<=L.length) {ev:MA ->AV} {h:AH} {x b:MA} (h1:ev x=eR enc k nl L) (h2:fP (ev b)=some m):
 step ev h (.slc k x none (some b) none)= .v (vp k (L.flatMap enc) m (eR enc k nl L)) h:=by
 cases L with
 |nil=>
  obtain rfl:m=0:=by simpa using hm
  cases nl
  ·rw[IZ] at h1 ⊢;exact JV (k:=0) h1 h2 (bB _)
  ·exact bb9 h1 h2
 |cons a L=>rw[yT] at h1 ⊢;exact JV h1 h2 hm
def TW {α:Type} {enc:α ->List AV} {n k m:Nat} (hn:∀a,nice.niceL n (enc a)=true) {nl} {L:List α}:nice (n+1) (vp k (L.flatMap enc) m (eR enc k nl L))=true:=by
 have key:nice (n+1) (.ds (L.flatMap enc) 0 m k)=true:=by rw[nN];exact fE hn L
 cases L with
 |nil=>
  cases nl
  ·exact key
  ·exact Dk
 |cons a L=>exact key
variable {C:aK Prop} (E:Sem P X GL ae C)
def bc0 (F:li ae) {g:Gr} (G:ce g) (pn:1<=g.pR.length) {nl:Bool} {ms:List Nat} (hb:∀b∈ms,b<256) {m:Nat} (hm:m<=ms.length) (m36:m<=36) (h:AH) (k:AV ->AH ->Prop)
 (hk:∀R v h',(R.length<=12/\ iG g R=true) ->rq h' R v ->h.next<=h'.next ->(∀j,j<h.next ->h'.oB.get j=h.oB.get j) ->(∀o n,v= .sl o 0 (n+1) none 4 ->h.next<=o) ->k v h'):du C 13 [aI g,vp 1 (ms.flatMap cB) m (eR cB 1 nl ms)] h k:=by
 have key:du C 13 [aI g,.ds (ms.flatMap cB) 0 m 1] h k:=by
  refine aX6 S E F G pn (λi hi=> ?_) m36 (by rw[nN];exact fE pH ms) h k hk;have e:∀l:List Nat,l.flatMap cB=l.map λb:Nat=>AV.i .u8 (b:Int):=λl=>by
   induction l with
   |nil=>rfl
   |cons a l ih=>rw[lE,ih];rfl
  have hl:ms[i]? =some ms[i]:=cE ω;exact⟨ms[i],hb _ (dI hl),by rw[e,oh,hl];rfl⟩
 cases ms with
 |nil=>
  cases nl
  ·exact key
  ·exact aX7 E F G pn h k hk
 |cons a L=>exact key
def bc1 {n:Nat} {h:AH} {x:fA}:deep (n+5) h (vm x)=some (vm x):=nX (n:=n+4) (by
 simp only[gI,aL,bZ,dH,dA zg,dA TO,dA TP])
end
end AM
namespace AM
open Go
noncomputable section
variable {P:Program} {X:aR} {GL:T (List AV)} {ae:T au}
def bc2 (S:aT P X GL ae) {f:Nat} {args:List AV} {d:AV} (hp:bg P X GL ae f args d) {c:CE} {w:World} {vs:List Value} (rs:RS (dJ X) c h0 w) (gl:∀g l,GL.get g=some l ->c.gl g=some l) (hv:bX c args vs)
 {K:Value ->World ->Prop} (hK:∀v' w' x h1 c1 n,deep n h1 x=some d ->cH (dJ X) c h0 w c1 h1 w' ->VR c1 x v' ->K v' w'):Calls P f vs.toArray w λe w'=>∃v,e= .returned v/\ K v w':=by
 obtain⟨n,hr⟩:=hp;obtain⟨fn,b,e1,e2,e3,e4⟩:=Db S.sound (Nc S.sound n).1 hr rs gl hv;refine callsIn_wide.1 (vN (show CallsIn Fence.wide 0 P f vs.toArray w _ from e4) λe w' he=> ?_);cases e with
 |returned v=>
  obtain⟨x,h1,c1,⟨m,hd⟩,hev,hvr⟩:=he;exact⟨v,rfl,hK _ _ _ _ _ _ hd hev hvr⟩
 |_=>exact he.elim
def bc3 {n:Nat} {h:AH} {x:AV} {b:Bool} (hd:deep n h x=some (.b b)):x= .b b:=by
 cases n<;>cases x<;>simp only[deep] at hd<;>first|(cases hd;rfl)|(cases hd;done)|skip
 all_goals (repeat' split at hd)<;>cases hd
section
variable {P:Program} {W:World} {c:CE} {H:Type} {enc:TypeId×Value ->H} {sp:Nat ->Bool} {hd:Bool}
def pI {t:TypeId} (ht:P.underlying t=some (.int .u8)) {n:Nat} {cs:List Value} {x:DataW H×List MemPlace} (h:DataW.trod enc P W 0 sp hd n t cs=some x):∃b:Nat,b<256/\ bX c (cB b) cs:=by
 obtain⟨i,rfl,-,hw⟩:=DataW.trod_int ht h;have hw':0<=i/\ i<=255:=by
  simp[Lit.wf,IntKind.min,IntKind.max,IntKind.signed,IntKind.bits] at hw;omega
 refine⟨i.toNat,by omega,?_⟩;have e:((i.toNat:Nat):Int)=i:=by omega
 unfold cB;rw[e];exact .cons _ _ _ _ (.i _ _) .nil
def TX {a b:List AV} {x y:List Value} (h:bX c a x) (k:bX c b y):bX c (a++b) (x++y):=h.append k
def bc4 {a:Addr} {n:Nat} {cs:List Value} (h:W.cells? 0 a n=some cs):cs.length=n/\∀(j:Nat) v,cs[j]? =some v ->W.cell? (a.add j)=some v:=by
 unfold World.cells? at h;rw[aF (oi _)] at h;have hl:cs.length=n:=by simpa using mapM_some_length h
 refine⟨hl,λj v hj=> ?_⟩;have bF:=(eC.1 hj).1;have:=mapM_some_get h j j (by rw[List.getElem?_range ω]);rw[this,hj]
def bc5 {a:Addr} {i j:Nat}:(a.add i).add j=⟨a.block,a.off+(i+j),none⟩∨(i=0/\ j=0):=by
 unfold Addr.add;by_cases hi:i=0<;>by_cases hj:j=0
 ·exact .inr ⟨hi,hj⟩
 ·left;simp[hi,hj]
 ·left;simp[hi,hj]
 ·left;simp[hi,hj];omega
def Kx {a:Addr} {v:Value} (h:W.cell? a=some v):∃row t fr,W.heap[a.block]? =some (.cells row t fr)/\ a.spot=none/\ row[a.off]? =some v:=by
 unfold World.cell? at h;split at h
 ·rename_i row t fr e;split at h
  ·cases h
  ·rename_i hs;exact⟨row,t,fr,e,by simpa using hs,h⟩
 ·cases h
def Ky {α:Type} {en:α ->List AV} {OK:α ->Prop} {t e:TypeId} {k:Nat} (him:∀b row,fL W b=some row ->c.im b=some row) {b0:Nat} {row0:Array Value} (h0:fL W b0=some row0)
 (ht:P.underlying t=some (.slice e)) (hk:P.cellsOf e=k) (k0:0<k)
 (el:∀(n:Nat) (cs:List Value) (x:DataW H×List MemPlace),DataW.trod enc P W 0 sp hd n e cs=some x ->∃a:α,OK a/\ bX c (en a) cs)
 {n:Nat} {cs:List Value} {x:DataW H×List MemPlace} (h:DataW.trod enc P W 0 sp hd n t cs=some x):∃(nl:Bool) (L:List α),(∀a∈L,OK a)/\ bX c [eR en k nl L] cs:=by
 rcases DataW.trod_slice ht h with ⟨rfl,-⟩|⟨a,len,cap,eI,rest,m,-,rfl,-,-,hlc,-,hel,hget,-,-⟩
 ·exact⟨true,[],(λa ha=>by cases ha),bX.cons _ _ _ _ .sn .nil⟩
 rw[hk] at hget;have key:∀q,q<=len ->∃(L:List α) (vs:List Value),L.length=q/\ (∀a∈L,OK a)/\ bX c (L.flatMap en) vs/\ vs.length=q*k/\
  (0<q ->∃row t fr,W.heap[a.block]? =some (.cells row t fr)/\ a.spot=none/\∀(i:Nat) v,vs[i]? =some v ->row[a.off+i]? =some v):=by
  intro q;induction q with
  |zero=>intro _;exact⟨[],[],rfl,λa ha=>(by cases ha),.nil,by simp,λh=>by omega⟩
  |succ q ih=>
   intro hq;obtain⟨L,vs,l1,l2,l3,l4,l5⟩:=ih ω;have hg:=hget q ω;have hx:eI[q]? =some eI[q]:=cE ω;rw[hx] at hg;obtain⟨cs,hc,htr⟩:=Option.bind_eq_some_iff.1 hg;obtain⟨a',ok',hv⟩:=el _ _ _ htr;obtain⟨cl,cg⟩:=bc4 hc;refine⟨L++[a'],vs++cs,by rw[dy,l1];rfl,?_,?_,by rw[dy,l4,cl,vE],λ_=> ?_⟩
   ·intro b hb;rcases fO.1 hb with hb|hb
    ·exact l2 b hb
    ·rw[fk.1 hb];exact ok'
   ·rw[jl,pO];exact l3.append hv
   ·have hfirst:∀(j:Nat) v,cs[j]? =some v ->∃row t fr,W.heap[a.block]? =some (.cells row t fr)/\ a.spot=none/\ row[a.off+(q*k+j)]? =some v∨(W.heap[a.block]? =some (.cells row t fr)/\ row[a.off+(q*k+j)]? =some v):=by
     intro j v hj;have hc1:=cg j v hj;by_cases hz:q*k=0/\ j=0
     ·have e:(a.add (q*k)).add j=a:=by rw[hz.1,hz.2];rfl
      rw[e] at hc1;obtain⟨row,t,fr,r1,r2,r3⟩:=Kx hc1;exact⟨row,t,fr,.inl ⟨r1,r2,by rw[hz.1,hz.2];exact r3⟩⟩
     ·rcases bc5 (a:=a) (i:=q*k) (j:=j) with e|e
      ·rw[e] at hc1;obtain⟨row,t,fr,r1,-,r3⟩:=Kx hc1;exact⟨row,t,fr,.inr ⟨r1,r3⟩⟩
      ·exact bh e hz
    rcases vF q with rfl|hq0
    ·have hc0:cs[0]? =some cs[0]:=cE ω;have h00:=cg 0 _ hc0;have e:(a.add (0*k)).add 0=a:=by rw[ue];rfl
     rw[e] at h00;obtain⟨row,t,fr,r1,r2,-⟩:=Kx h00;refine⟨row,t,fr,r1,r2,λi v hi=> ?_⟩;have lv:vs=[]:=by rw[←FQ,l4,ue]
     rw[lv,gx] at hi;obtain⟨row',t',fr',r⟩:=hfirst i v hi;rcases r with ⟨s1,-,s3⟩|⟨s1,s3⟩
     ·rw[r1] at s1;cases s1;simpa using s3
     ·rw[r1] at s1;cases s1;simpa using s3
    ·obtain⟨row,t,fr,r1,r2,r3⟩:=l5 hq0;refine⟨row,t,fr,r1,r2,λi v hi=> ?_⟩;by_cases aV:i<vs.length
     ·rw[pL aV] at hi;exact r3 i v hi
     ·rw[rK ω] at hi;obtain⟨row',t',fr',r⟩:=hfirst _ v hi;have ei:q*k+(i-vs.length)=i:=by omega
      rw[ei] at r;rcases r with ⟨s1,-,s3⟩|⟨s1,s3⟩
      ·rw[r1] at s1;cases s1;exact s3
      ·rw[r1] at s1;cases s1;exact s3
 obtain⟨L,vs,l1,l2,l3,l4,l5⟩:=key len (bB _);refine⟨false,L,l2,?_⟩;rcases vF len with rfl|hl0
 ·have lL:L=[]:=FQ.1 l1;subst lL;rw[IZ];exact .cons _ _ _ _ (.ds [] 0 0 k b0 0 cap a row0 [] (him _ _ h0) (λi v hi=>by simp at hi) .nil (oi _) (λh=>bh rfl h)) .nil
 ·obtain⟨row,t',fr,r1,r2,r3⟩:=l5 hl0;have dc:L≠[]:=λe=>by rw[e] at l1;simp at l1;omega
  rw[sM dc,l1];refine .cons _ _ _ _ (.ds (L.flatMap en) 0 len k a.block a.off cap a row vs (him _ _ (qS r1)) r3 l3 hlc (λ_=> ?_)) .nil;obtain⟨ab,ao,a_⟩:=a;obtain rfl:a_=none:=r2;rfl
def BJ {t:TypeId} {fs:Array Field} (ht:P.underlying t=some (.struct fs)) {n:Nat} {cs:List Value} {x:DataW H×List MemPlace} (h:DataW.trod enc P W 0 sp hd n t cs=some x):
 cs.length=P.cellsOf t/\∀(i:Nat) f,fs.toList[i]? =some f ->∃m y,DataW.trod enc P W 0 sp hd m f.type ((cs.drop f.offset).take (P.cellsOf f.type))=some y:=by
 cases n with
 |zero=>simp[DataW.trod] at h
 |succ n=>
  unfold DataW.trod at h;rw[ht] at h;split at h<;>simp_all;obtain⟨hl,xs,hp,hd⟩:=h;refine λi f hf=>⟨n,?_⟩;have eQ:=mapM_some_length hp;have hi:=(jX.1 hf).1;have:=mapM_some_get hp i f (by simpa using hf);have hx:xs[i]? =some (xs[i]'(by rw[eQ];simpa using hi)):=cE _;rw[hx] at this;exact⟨_,_,this⟩
end
end
end AM
