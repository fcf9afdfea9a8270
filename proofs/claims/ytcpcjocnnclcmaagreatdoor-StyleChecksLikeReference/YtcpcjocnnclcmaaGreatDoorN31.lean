import Derived.ChangeArms
import Derived.ChangeShapes
import Derived.ChangeStays
import Derived.RowKit
import Derived.Test.YtcpcjocnnclcmaaGreatDoorN30
set_option linter.all false
namespace AM
open Dg Go
noncomputable section
def zp (V:AV):List AV:=[.s [102,105,114,115,116],.i .i64 0,V,fG (ax (dQ true 3)).1,.i .i64 ((ax (dQ true 3)).2:Int),.b false,.i .i64 0,.sn,.b false,.i .i64 0,.i .i64 0,.i .i64 0,.i .i64 0]
def Qp {h:AH} {v4 v5 v8 n c:Nat} (hc:c<=3) {F:Tr} (g4:h.objs.get 4=some (.cells v4 [.s [65],.s [66],.s [67]])) (g5:h.objs.get 5=some (.cells v5 [.b true,.i .i64 0])) (g8:h.objs.get 8=some (.cells v8 (zp (.sl 5 0 1 (some 1) 2)))):
 GAt h { Lh n c with fam:=F } [.sl 4 0 c (some 3) 1,fG (ax F).1,.i .i64 ((ax F).2:Int),eR iI 7 true (List.replicate 11 (dQ true 3)).zipIdx,eX ([[83],[80],[81]].take (n+1)) (([[83],[80],[81]].drop (n+1)).map AV.s),.sl 8 0 1 none 13,.i .i64 0,.sn,.sn]:=by
 refine⟨rfl,?_,[4,5,8],by simp,?_⟩
 ·simp only[gM,kw,uX,fz,iH];rfl
 ·have ep:pZ h [4,5,8]=⟨h.next,h.ver,((T.e.put 4 (.cells v4 [.s [65],.s [66],.s [67]])).put 5 (.cells v5 [.b true,.i .i64 0])).put 8 (.cells v8 (zp (.sl 5 0 1 (some 1) 2)))⟩:=by
   unfold pZ Ec;simp only[List.foldl_cons,E8,g4,g5,g8]
  rw[ep];generalize hH:(⟨h.next,h.ver,((T.e.put 4 (.cells v4 [.s [65],.s [66],.s [67]])).put 5 (.cells v5 [.b true,.i .i64 0])).put 8 (.cells v8 (zp (.sl 5 0 1 (some 1) 2)))⟩:AH)=H;have d4:aH 8 H (.sl 4 0 c (some 3) 1)=some (eX (bW c) ((([[65],[66],[67]]:List (List Nat)).drop c).map AV.s)):=by
   rw[dw (n:=7) (l:=[.s [65],.s [66],.s [67]]) (l':=[.s [65],.s [66],.s [67]]) (by rw[←hH];rfl) rfl];unfold eX;rw[mI hc];unfold bW;rw[←iT,pm];rfl
  have d5:aH 7 H (.sl 5 0 1 (some 1) 2)=some (eR bS 2 true [(true,0)]):=by
   rw[dw (n:=6) (l:=[.b true,.i .i64 0]) (l':=[.b true,.i .i64 0]) (by rw[←hH];rfl) rfl];rfl
  have d8:aH 8 H (.sl 8 0 1 none 13)=some (eR cC 13 true [mV [102,105,114,115,116] 0 true [(true,0)]]):=by
   rw[dw (n:=7) (l:=zp (.sl 5 0 1 (some 1) 2)) (l':=zp (eR bS 2 true [(true,0)])) (by rw[←hH];rfl) (by
    simp only[zp,af,ay,dc,uW,oP,CG,gw (n:=6),d5])]
   rfl
  simp only[af,ay,dc,CG,gw (n:=7),qB (n:=7),aM (n:=7) dz,d4,d8];rfl
section
variable {P:Program} {X:dy} {GL:T (List AV)} {fns:T aR}
def Vf {ev:MA ->AV} {h:AH} {x a:MA} {o n k:Nat} (h1:ev x= .sl o 0 n (some n) 1) (h2:dI (ev a)=some k) (hk:k<=n):step ev h (.slc 1 x none (some a) none)= .v (.sl o 0 k (some n) 1) h:=by
 show(match ev x with
  | .sl o off n cap esz=>bif !(Nat.beq esz 1) then bj.bad else match cap with
   |some c=>match bI n c (nO ev none) (nO ev (some a)) (nO ev none) with
    |some (l,r,m)=>fN (off+l*esz) fun off=>fN (r-l) fun n=>fN (m-l) fun c=>bj.v (.sl o off n (some c) esz) h
    |none=>bj.bad
   |none=>match bI n n (nO ev none) (nO ev (some a)) none with
    |some (l,r,_)=>fN (off+l*esz) fun off=>fN (r-l) fun n=>bj.v (.sl o off n none esz) h
    |none=>bj.bad
  | .ds c off n esz=>bif !(Nat.beq esz 1) then bj.bad else match bI n n (nO ev none) (nO ev (some a)) none with
   |some (l,r,_)=>fN (off+l*esz) fun off=>fN (r-l) fun n=>bj.v (.ds c off n esz) h
   |none=>bj.bad
  | .sn=>match bI 0 0 (nO ev none) (nO ev (some a)) (nO ev none) with|some _=>bj.v .sn h|none=>bj.bad
  |_=>bj.bad)=_
 rw[h1];have e:bI n n (nO ev none) (nO ev (some a)) (nO ev none)=some (0,k,n):=by
  rw[oG,oH,h2];show(bif Nat.ble n n&&Nat.ble k n&&Nat.ble 0 k then some (0,k,n) else none)=_;have q1:Nat.ble n n=true:=by rw[aQ];simp
  have q2:Nat.ble k n=true:=by rw[aQ];simpa using hk
  have q3:Nat.ble 0 k=true:=by rw[aQ];simp
  rw[q1,q2,q3];rfl
 simp only[bR,e];rfl
def ES (n:Nat):Gr:=⟨2,[],dQ true 3,List.replicate 11 (dQ true 3),[[83],[80],[81]].take (n+1),[[83],[80],[81]].drop (n+1),[],[],[]⟩
structure JD (P:Program) (X:dy) (GL:T (List AV)) (fns:T aR):Prop where
 kn:∀k:Nat,k<8 ->aZ P X GL fns 12 [.i .u8 (k:Int)] (b9 (zo (k%6)))
 bare:∀n:Nat,n<3 ->aZ P X GL fns 13 [.ds [.s [83],.s [80],.s [81]] 0 (n+1) 1] (b9 (ES n))
set_option maxHeartbeats 4000000 in
def Hx (S:aw P X GL fns) (R:dr fns) (A:bh P X GL) (G:gf fns) (F:jM fns) (H:JD P X GL fns) {x:gx} (ok:x.OK) (hk:x.known=true) {D:AV} (hD: .ag (aL (rI x))=D) {C:cQ Prop} (E:gW P X GL fns C):bZ C 5 [sP x] h0 fun x h=>∃n,aH n h x=some D:=by
 have k6:x.base%8<6:=by simpa[gx.known] using hk
 have hb:=ok.base;have r8:aV .rem (.i .u8 (x.base:Int)) (.i .u8 8)=some (.i .u8 ((x.base%8:Nat):Int)):=oO (c:=8) ω;have l6:(((x.base%8:Nat):Int)<6)=True:=eq_true ω;have kc:=fun h=>aE S (H.kn (x.base%8) ω) (n:=1) (by rfl) h
 have kn:=Vd k6;rw[show x.base%8%6=x.base%8 by omega] at kc;have tl:=fun τ h=>AU (τ:=τ) (h:=h) S E R A G F ok hD
 have g1:Ve x=oX (zo (x.base%8)) x.fam.head? :=by unfold Ve g0X;rw[hk];rfl
 have e6:x.most=6:=by unfold gx.most;rw[hk];rfl
 rw[g1] at tl;have nc2:(zo (x.base%8)).nc=2:=by
  rcases(show x.base%8=0∨x.base%8=1∨x.base%8=2∨x.base%8=3∨x.base%8=4∨x.base%8=5 by omega) with e|e|e|e|e|e<;>rw[e]<;>rfl
 have rm:=fun h=>aE S (sG (n:=2) S R A (Qn (nl:=x.fnl) ok.fam) (aT j7) (aM (n:=8) qO) ω) (n:=9) (by
  rw[af,af,ay,aM (n:=8) qO];rfl) h
 generalize zo (x.base%8)=g at*;have ln:(bW g.nc).length=2:=by rw[nc2];rfl
 generalize htl:(ap.seq IY (.seq Ar (.seq As .ret)))=T5 at tl;have f5:fn5=⟨99,[(2,(some (9,true)))],(.seq WV (.seq WW (.seq WX (.seq (.ops [⟨(some 5),.mv (.c (ι 6)),none⟩]) (.seq (.seq WY (.cond (.t 18) (.seq WZ W3) .skip)) (.seq W4 (.seq (.seq W5 (.cond (.t 57) OV .skip)) T5)))))))⟩:=by rw[←htl]
 rw[aA E.ok (E.get F.f5),f5];have nkr:aJ 64 (.ag (jK x))=true:=by
  rw[fH];simp only[jK,bP,cA,gN,aT j7,aT ut,aT uu,fW]
 simp only[jK] at nkr;simp only[b9,aL] at kc;refine Z6 @sP.eq_1 @jK.eq_1 @h0.eq_1 r8 l6 nkr ?_;refine E.con (kc _) ?_;refine Z4 r8 l6 ln @dv ?_;refine E.con (rm _) ?_;simp only[eT,eD];generalize hb0:x.fam.head?.getD 0=b;have mi:∀(g':Gr) (τ:T AV) (h:AH),oX g x.fam.head? =g' ->cG (h.objs.get 0)=some (jK x) ->cG (h.objs.get 1)=some ZG ->cG (h.objs.get 2)=some (aL g') ->4<=h.next ->τ.get 1=some (.p 0 0) ->τ.get 2=some (.p 1 0) ->τ.get 3=some (.b true) ->τ.get 4=some (.p 2 0) ->τ.get 5=some (ι 6) ->
  dk C T5 [] (KF (fun x h=>∃n,aH n h x=some D) [(2,some (9,true))]) τ h:=fun g' τ h e c0 c1 c2 nx t1 t2 t3 t4 t5=>by
  refine tl τ h ?_;rw[e];exact { c0:=c0,c1:=c1,c2:=⟨_,c2,.of _ _⟩,nx:=nx,t1:=t1,t2:=t2,t3:=by rw[t3,hk],t4:=t4,t5:=by rw[t5,e6];rfl }
 rcases hf:x.fam with _|⟨b',bs⟩
 ·have lz:((0:Int)<(([]:List Nat).length:Int))=False:=eq_false (by simp);rw[hf] at mi;refine Z2 @bV lz ?_;apply mi g _ _ rfl;any_goals simp only[T.get_put,Nat.reduceEqDiff,reduceIte,dB,jK,ZG,hf,aL]
  exact bK 4
 ·have lz:((0:Int)<((b'::bs).length:Int))=True:=eq_true (by simp);rw[hf] at mi hb0;obtain rfl:b'=b:=hb0;by_cases hz:(ax (nB b' 2 0 0)).2=0
  ·have hz':(((ax (nB b' 2 0 0)).2:Int)=0)=True:=eq_true ω;refine Z3 @bV lz hz' ?_;apply mi g _ _ (by show oX g (some b')=g;unfold oX;dsimp only;rw[nc2,if_pos hz]);any_goals simp only[T.get_put,Nat.reduceEqDiff,reduceIte,dB,jK,ZG,hf,aL]
   exact bK 4
  ·have hz':(((ax (nB b' 2 0 0)).2:Int)=0)=False:=eq_false ω;refine Z3 @bV lz hz' ?_;apply mi { g with fam:=nB b' 2 0 0 } _ _ (by show oX g (some b')=_;unfold oX;dsimp only;rw[nc2,if_neg hz])
   any_goals simp only[T.get_put,Nat.reduceEqDiff,reduceIte,dB,jK,ZG,hf,aL]
   exact bK 4
set_option maxHeartbeats 8000000 in
def K3 (S:aw P X GL fns) (R:dr fns) (A:bh P X GL) (G:gf fns) (F:jM fns) (H:JD P X GL fns) {x:gx} (ok:x.OK) (hk:x.known=false) {D:AV} (hD: .ag (aL (rI x))=D) {C:cQ Prop} (E:gW P X GL fns C):bZ C 5 [sP x] h0 fun x h=>∃n,aH n h x=some D:=by
 have k6:6<=x.base%8:=by
  have:¬x.base%8<6:=by simpa[gx.known] using hk
  omega
 have hb:=ok.base;have hn:=ok.n;have r8:aV .rem (.i .u8 (x.base:Int)) (.i .u8 8)=some (.i .u8 ((x.base%8:Nat):Int)):=oO (c:=8) ω;have q4:aV .quo (.i .u8 (x.n:Int)) (.i .u8 4)=some (.i .u8 ((x.n/4:Nat):Int)):=Cd (c:=4) ⟨by omega,hn⟩;have r4:aV .rem (.i .u8 (x.n:Int)) (.i .u8 4)=some (.i .u8 ((x.n%4:Nat):Int)):=oO (c:=4) ω;have w4:bT .i64 ((x.n/4:Nat):Int)=((x.n/4:Nat):Int):=fJ ω;have w4':bT .i64 ((x.n%4:Nat):Int)=((x.n%4:Nat):Int):=fJ ω;have r3:aV .rem (ι ((x.n/4:Nat):Int)) (ι 3)=some (ι ((x.n/4%3:Nat):Int)):=dm (c:=3) ω;have a1:aV .add (ι 1) (ι ((x.n/4%3:Nat):Int))=some (ι ((x.n/4%3+1:Nat):Int)):=by rw[Nat.add_comm];exact hY (a:=1) ω
 have l6:(((x.base%8:Nat):Int)<6)=False:=eq_false ω;have kc:=fun h=>aE S (H.kn (x.base%8) ω) (n:=1) (by rfl) h
 have n3:x.n/4%3<3:=by omega
 have c4:x.n%4<4:=by omega
 have tl:=fun τ h=>AU (τ:=τ) (h:=h) S E R A G F ok hD
 have g1:Ve x=oX (Lh (x.n/4%3) (x.n%4)) x.fam.head? :=by unfold Ve g0X;rw[hk];rfl
 have e6:x.most=10:=by unfold gx.most;rw[hk];rfl
 rw[g1] at tl;have rm:=fun h=>aE S (sG (n:=x.n%4) S R A (Qn (nl:=x.fnl) ok.fam) (aT j7) (aM (n:=8) qO) ω) (n:=9) (by
  rw[af,af,ay,aM (n:=8) qO];rfl) h
 have hba:=H.bare _ n3;generalize zo (x.base%8%6)=gz at*;generalize x.n/4%3=n at*;generalize x.n%4=c at*;generalize htl:(ap.seq IY (.seq Ar (.seq As .ret)))=T5 at tl;have f5:fn5=⟨99,[(2,(some (9,true)))],(.seq WV (.seq WW (.seq WX (.seq (.ops [⟨(some 5),.mv (.c (ι 6)),none⟩]) (.seq (.seq WY (.cond (.t 18) (.seq WZ W3) .skip)) (.seq W4 (.seq (.seq W5 (.cond (.t 57) OV .skip)) T5)))))))⟩:=by rw[←htl]
 rw[aA E.ok (E.get F.f5),f5];have nkr:aJ 64 (.ag (jK x))=true:=by
  rw[fH];simp only[jK,bP,cA,gN,aT j7,aT ut,aT uu,fW]
 simp only[jK] at nkr;simp only[b9,aL] at kc;refine Z6 @sP.eq_1 @jK.eq_1 @h0.eq_1 r8 l6 nkr ?_;refine E.con (kc _) ?_;have hs1:∀(τ:T AV) h,bp C τ (.t 19)= .sl 3 0 3 (some 3) 1 ->bp C τ (.t 25)= .i .i64 ((n+1:Nat):Int) ->step (bp C τ) h (.slc 1 (.t 19) none (some (.t 25)) none)= .v (.sl 3 0 (n+1) (some 3) 1) h:=fun τ h h1 h2=>Vf h1 (by rw[h2];exact gA) ω
 have hs2:∀(τ:T AV) h,bp C τ (.t 28)= .sl 4 0 3 (some 3) 1 ->bp C τ (.t 32)= .i .i64 (c:Int) ->step (bp C τ) h (.slc 1 (.t 28) none (some (.t 32)) none)= .v (.sl 4 0 c (some 3) 1) h:=fun τ h h1 h2=>Vf h1 (by rw[h2];exact gA) ω
 have tc:=fun i h=>Pc (GL:=GL) S F (i:=i) h
 have rc:=fun bb h=>jl (GL:=GL) S R bb h
 simp only[bS] at tc;simp only[eT,eD] at rc;refine RV r8 l6 q4 r4 w4 w4' r3 a1 hs1 hs2 ?_;refine E.con (yA S hba (o:=3) (vo:=1) (c:=[.s [83],.s [80],.s [81]]) rfl (n:=9) (by rw[af,ay,dw (l':=[.s [83],.s [80],.s [81]]) rfl rfl])) ?_;refine QV @b9.eq_1 @aL.eq_1 @ES.eq_1 r8 l6 q4 r4 w4 w4' r3 a1 hs1 hs2 ?_;refine E.con (tc _ _) ?_;refine Z1 @jW ?_;refine E.run ?_;rw[aA E.ok (E.get F.f14)];refine Z1 @W6.eq_1 ?_;refine E.con (rc _ _) ?_;refine Z2 @aD @nz ?_;refine E.con (rm _) ?_;simp only[eT,eD];generalize hb0:x.fam.head?.getD 0=b;have mi:∀(F:Tr) (v4 v5 v8:Nat) (τ:T AV) (h:AH),oX (Lh n c) x.fam.head? ={ Lh n c with fam:=F } ->cG (h.objs.get 0)=some (jK x) ->cG (h.objs.get 1)=some ZG ->h.objs.get 4=some (.cells v4 [.s [65],.s [66],.s [67]]) ->h.objs.get 5=some (.cells v5 [.b true,.i .i64 0]) ->h.objs.get 8=some (.cells v8 (zp (.sl 5 0 1 (some 1) 2))) ->
  cG (h.objs.get 2)=some [.sl 4 0 c (some 3) 1,fG (ax F).1,.i .i64 ((ax F).2:Int),eR iI 7 true (List.replicate 11 (dQ true 3)).zipIdx,eX ([[83],[80],[81]].take (n+1)) (([[83],[80],[81]].drop (n+1)).map AV.s),.sl 8 0 1 none 13,.i .i64 0,.sn,.sn] ->4<=h.next ->τ.get 1=some (.p 0 0) ->τ.get 2=some (.p 1 0) ->τ.get 3=some (.b false) ->τ.get 4=some (.p 2 0) ->τ.get 5=some (ι 10) ->
  dk C T5 [] (KF (fun x h=>∃n,aH n h x=some D) [(2,some (9,true))]) τ h:=fun F v4 v5 v8 τ h e c0 c1 g4 g5 g8 c2 nx t1 t2 t3 t4 t5=>by
  refine tl τ h ?_;rw[e];exact { c0:=c0,c1:=c1,c2:=⟨_,c2,Qp ω g4 g5 g8⟩,nx:=nx,t1:=t1,t2:=t2,t3:=by rw[t3,hk],t4:=t4,t5:=by rw[t5,e6];rfl }
 rcases hf:x.fam with _|⟨b',bs⟩
 ·have lz:((0:Int)<(([]:List Nat).length:Int))=False:=eq_false (by simp);rw[hf] at mi;refine Z3 @aD @bV lz ?_;apply mi (dQ true 3) _ _ _ _ _ rfl;any_goals simp only[T.get_put,Nat.reduceEqDiff,reduceIte,dB,jK,ZG,hf,zp]
  all_goals first|rfl|omega
 ·have lz:((0:Int)<((b'::bs).length:Int))=True:=eq_true (by simp);rw[hf] at mi hb0;obtain rfl:b'=b:=hb0;by_cases hz:(ax (nB b' c 0 0)).2=0
  ·have hz':(((ax (nB b' c 0 0)).2:Int)=0)=True:=eq_true ω;refine Z4 @aD @bV lz hz' ?_;apply mi (dQ true 3) _ _ _ _ _ (by show oX (Lh n c) (some b')=_;unfold oX;dsimp only;rw[show(Lh n c).nc=c from rfl,if_pos hz];rfl);any_goals simp only[T.get_put,Nat.reduceEqDiff,reduceIte,dB,jK,ZG,hf,zp]
   all_goals first|rfl|omega
  ·have hz':(((ax (nB b' c 0 0)).2:Int)=0)=False:=eq_false ω;refine Z4 @aD @bV lz hz' ?_;apply mi (nB b' c 0 0) _ _ _ _ _ (by show oX (Lh n c) (some b')=_;unfold oX;dsimp only;rw[show(Lh n c).nc=c from rfl,if_neg hz]);any_goals simp only[T.get_put,Nat.reduceEqDiff,reduceIte,dB,jK,ZG,hf,zp]
   all_goals first|rfl|omega
def K4 (S:aw P X GL fns) (R:dr fns) (A:bh P X GL) (G:gf fns) (F:jM fns) (H:JD P X GL fns) {x:gx} (ok:x.OK):aZ P X GL fns 5 [sP x] (b9 (rI x)):=by
 refine aZ.intro fun C E=> ?_
 cases hk:x.known with
 |true=>exact Hx S R A G F H ok hk rfl E
 |false=>exact K3 S R A G F H ok hk rfl E
end
def K5 {α:Type} {enc:α ->List AV} {k:Nat} (hk:∀a,(enc a).length=k):∀(L:List α) (m:Nat),m<=L.length ->sub (L.flatMap enc) 0 (m*k)=some ((L.take m).flatMap enc):=by
 intro L m hm;have e:L.flatMap enc=(L.take m).flatMap enc++(L.drop m).flatMap enc:=by rw[←ik,pm]
 have hl:((L.take m).flatMap enc).length=m*k:=by rw[dG hk,fO,jp hm]
 rw[e,jd,if_pos (by rw[cX,hl];omega),List.drop_zero,Lj ω,ow ω]
def ac8 {h:AH} {R:List Ru} {V:AV} (hR:R.length<=12) (ru:wd h R V) {ls:List Ru} {m:Nat} (hm:m<=ls.length) (m20:m<=20) {x:AV} (hx:x= .ds (ls.flatMap dW) 0 m 4∨(x= .sn/\ m=0)):
 ∃V' h',pS h 4 V x= .v V' h'/\ wd h' (R++ls.take m) V'/\ h.next<=h'.next/\ (∀j,j<h.next ->(∀o n,V= .sl o 0 (n+1) none 4 ->j≠o) ->h'.objs.get j=h.objs.get j):=by
 have el:eI x=some m/\ cR h 4 x=some ((ls.take m).flatMap dW):=by
  rcases hx with rfl|⟨rfl,rfl⟩
  ·exact⟨rfl,tZ (K5 qL ls m hm)⟩
  ·exact⟨rfl,rfl⟩
 have ea:pS h 4 V x=eH h V m ((ls.take m).flatMap dW) 4:=by unfold pS;rw[el.1,el.2]
 have a_:cE ((ls.take m).flatMap dW)=true:=iJ EI _;rw[ea];rcases m with _|m
 ·refine⟨V,h,?_,by rw[pz,ip];exact ru,bK _,fun _ _ _=>rfl⟩;rcases ru with ⟨-,rfl⟩|⟨o,n,-,rfl,-⟩<;>rfl
 ·generalize hN:(ls.take (m+1))=N at*;have lN:N.length=m+1:=by rw[←hN,fO];omega
  rcases ru with ⟨rfl,rfl⟩|⟨o,n,hRn,rfl,lo,co⟩
  ·have e:eH h .sn (m+1) (N.flatMap dW) 4=bif Nat.ble (m+1) 1048576&&cE (N.flatMap dW) then h.new (.cells h.ver (N.flatMap dW)) fun o h=>fN (m+1) fun n=> .v (.sl o 0 n none 4) h else .bad:=rfl
   rw[e,a_,aQ,decide_eq_true ω];refine⟨.sl h.next 0 (m+1) none 4,⟨h.next+1,h.ver,h.objs.put h.next (.cells h.ver (N.flatMap dW))⟩,by simp only[fW,cond_true,AH.new_eq,bR],.inr ⟨h.next,m,by rw[lB,lN],rfl,qZ _,by rw[lB];show cG ((h.objs.put _ _).get _)=_;rw[T.get_put,if_pos rfl];rfl⟩,jP _,fun j hj _=> ?_⟩;show(h.objs.put _ _).get j=_;rw[T.get_put,if_neg ω]
  ·have hl:(R.flatMap dW).length=(n+1)*4:=by rw[dG qL,hRn]
   have e:eH h (.sl o 0 (n+1) none 4) (m+1) (N.flatMap dW) 4=(match h.cells o with
    |none=>bj.bad
    |some l=>fN (n+1+(m+1)) fun need=>bif !(Nat.beq 4 4&&(Nat.ble need 1048576&&cE (N.flatMap dW))) then .bad else
     match sub l 0 ((n+1)*4) with
     |some old=>match gK old (N.flatMap dW) with
      |some l=>h.put o .gone fun h=>h.new (.cells h.ver l) fun o h=> .v (.sl o 0 need none 4) h
      |none=> .bad
     |none=> .bad):=rfl
   have co':h.cells o=some (R.flatMap dW):=co;have q1:Nat.beq 4 4=true:=rfl;rw[e,co'];simp only[bR,a_,aQ,q1,gI hl,dX];rw[decide_eq_true ω];refine⟨.sl h.next 0 (n+1+(m+1)) none 4,⟨h.next+1,h.ver+1,(h.objs.put o .gone).put h.next (.cells (h.ver+1) (R.flatMap dW++N.flatMap dW))⟩,?_,.inr ⟨h.next,n+1+m,by rw[cX,hRn,lN];omega,rfl,qZ _,?_⟩,jP _,fun j hj hn=> ?_⟩
   ·simp only[fW,gU,cond_false,AH.put_eq,AH.new_eq]
   ·show cG (((h.objs.put _ _).put _ _).get _)=_;rw[T.get_put,if_pos rfl,ik];rfl
   ·show((h.objs.put _ _).put _ _).get j=_;have:=hn o n rfl;rw[T.get_put,if_neg ω,T.get_put,if_neg this]
def SY {h:AH} {R:List Ru} {V:AV} (ru:wd h R V):aH 9 h V=some (eR dW 4 true R):=by
 rcases ru with ⟨rfl,rfl⟩|⟨o,n,hR,rfl,-,co⟩
 ·rfl
 ·rw[dw (n:=8) co (jw ul R),um (by intro e;rw[e] at hR;cases hR),hR]
def Xv {ev:MA ->AV} {h:AH} {es x b} (h1:ev x= .sn) (h2:dI (ev b)=some 0):step ev h (.slc es x none (some b) none)= .v .sn h:=by
 show(match ev x with
  | .sl o off n cap esz=>bif !(Nat.beq esz es) then bj.bad else match cap with
   |some c=>match bI n c (nO ev none) (nO ev (some b)) (nO ev none) with
    |some (l,r,m)=>fN (off+l*esz) fun off=>fN (r-l) fun n=>fN (m-l) fun c=>bj.v (.sl o off n (some c) esz) h
    |none=>bj.bad
   |none=>match bI n n (nO ev none) (nO ev (some b)) none with
    |some (l,r,_)=>fN (off+l*esz) fun off=>fN (r-l) fun n=>bj.v (.sl o off n none esz) h
    |none=>bj.bad
  | .ds c off n esz=>bif !(Nat.beq esz es) then bj.bad else match bI n n (nO ev none) (nO ev (some b)) none with
   |some (l,r,_)=>fN (off+l*esz) fun off=>fN (r-l) fun n=>bj.v (.ds c off n esz) h
   |none=>bj.bad
  | .sn=>match bI 0 0 (nO ev none) (nO ev (some b)) (nO ev none) with|some _=>bj.v .sn h|none=>bj.bad
  |_=>bj.bad)=_
 rw[h1];have e:bI 0 0 (nO ev none) (nO ev (some b)) (nO ev none)=some (0,0,0):=by rw[oG,oH,h2];rfl
 simp only[e]
def yO (k:Nat) (l:List AV) (m:Nat) (V:AV):AV:=match V with| .sn=> .sn|_=> .ds l 0 m k
def Jo {α:Type} {enc:α ->List AV} {k:Nat} {nl:Bool} {L:List α} {m:Nat} (hm:m<=L.length) {ev:MA ->AV} {h:AH} {x b:MA} (h1:ev x=eR enc k nl L) (h2:dI (ev b)=some m):
 step ev h (.slc k x none (some b) none)= .v (yO k (L.flatMap enc) m (eR enc k nl L)) h:=by
 cases L with
 |nil=>
  obtain rfl:m=0:=by simpa using hm
  cases nl
  ·rw[GT] at h1 ⊢;exact Cj (k:=0) h1 h2 (bK _)
  ·exact Xv h1 h2
 |cons a L=>rw[tT] at h1 ⊢;exact Cj h1 h2 hm
def EU {α:Type} {enc:α ->List AV} {n k m:Nat} (hn:∀a,aJ.niceL n (enc a)=true) {nl} {L:List α}:aJ (n+1) (yO k (L.flatMap enc) m (eR enc k nl L))=true:=by
 have key:aJ (n+1) (.ds (L.flatMap enc) 0 m k)=true:=by rw[ja];exact bu hn L
 cases L with
 |nil=>
  cases nl
  ·exact key
  ·exact wx
 |cons a L=>exact key
section
variable {P:Program} {X:dy} {GL:T (List AV)} {fns:T aR}
def K6 {C:cQ Prop} (S:aw P X GL fns) (E:gW P X GL fns C) (F:uj fns) {g:Gr} (G:cM g) (pn:1<=g.prods.length) {nl:Bool} {ms:List Nat} (hb:∀b∈ms,b<256) {m:Nat} (hm:m<=ms.length) (m36:m<=36) (h:AH) (k:AV ->AH ->Prop)
 (hk:∀R v h',R.length<=12 ->wd h' R v ->h.next<=h'.next ->(∀j,j<h.next ->h'.objs.get j=h.objs.get j) ->(∀o n,v= .sl o 0 (n+1) none 4 ->h.next<=o) ->k v h'):bZ C 6 [b9 g,yO 1 (ms.flatMap cB) m (eR cB 1 nl ms)] h k:=by
 have key:bZ C 6 [b9 g,.ds (ms.flatMap cB) 0 m 1] h k:=by
  refine KS S E F G pn (fun i hi=> ?_) m36 (by rw[ja];exact bu j7 ms) h k hk;have e:∀l:List Nat,l.flatMap cB=l.map fun b:Nat=>AV.i .u8 (b:Int):=fun l=>by
   induction l with
   |nil=>rfl
   |cons a l ih=>rw[nD,ih];rfl
  have hl:ms[i]? =some ms[i]:=ba ω;exact⟨ms[i],hb _ (bJ hl),by rw[e,lX,hl];rfl⟩
 cases ms with
 |nil=>
  cases nl
  ·exact key
  ·exact KT E F G pn h k hk
 |cons a L=>exact key
def K7 {n:Nat} {h:AH} {x:gx}:aH (n+5) h (sP x)=some (sP x):=eO (n:=n+4) (by
 simp only[jK,af,ay,dc,aM qO,aM EQ,aM ER])
set_option maxHeartbeats 8000000 in
def Qq (S:aw P X GL fns) (R:dr fns) (A:bh P X GL) (HD:gD fns) (HA:qd fns) (HC:jJ fns) (HS:uj fns) (HF:vZ fns) (G:gf fns) (F:jM fns) (hg:GL=SE) (H:JD P X GL fns) (sane:aZ P X GL fns 4 [] (.b true))
 {x:gx} (ok:x.OK) {ls:List Ru} {lnl:Bool} {ms:List Nat} {mnl:Bool} (hb:∀b∈ms,b<256):aZ P X GL fns 3 [sP x,eR dW 4 lnl ls,eR cB 1 mnl ms] (.b true):=by
 refine aZ.intro fun C E=> ?_
 have sc:=fun h=>aE S sane (n:=1) (by rfl) h
 have mc:=fun h=>aE S (K4 S R A G F H ok) (n:=9) (by rw[af,ay,K7 (n:=4)]) h
 obtain⟨gok,gac,gp⟩:=SV ok;have ru:=fun h k hk=>K6 (C:=C) (nl:=mnl) (m:=min ms.length 36) S E HS gok gp hb (Bm _ _) (Nat.min_le_right _ _) h k hk
 have k7:=fun (L:List Ru) (hL:L.length<=1000)=>EH (nl:=true) (L:=L) S A HD HA HC HS hg gok gac gp hL
 have k8:=fun (L:List Ru) (hL:L.length<=1000)=>KR (nl:=true) (L:=L) S R A G HF HS gok gac hL
 generalize rI x=g at*;have mn36:(if (36:Int)<(ms.length:Int) then (36:Int) else (ms.length:Int))=((min ms.length 36:Nat):Int):=by split<;>omega
 have mn20:(if (20:Int)<(ls.length:Int) then (20:Int) else (ls.length:Int))=((min ls.length 20:Nat):Int):=by split<;>omega
 have hs1:∀(τ:T AV) h,bp C τ (.t 13)=eR cB 1 mnl ms ->bp C τ (.t 16)= .i .i64 ((min ms.length 36:Nat):Int) ->step (bp C τ) h (.slc 1 (.t 13) none (some (.t 16)) none)= .v (yO 1 (ms.flatMap cB) (min ms.length 36) (eR cB 1 mnl ms)) h:=fun τ h h1 h2=>Jo (Bm _ _) h1 (by rw[h2];exact gA)
 have hs2:∀(τ:T AV) h,bp C τ (.t 19)=eR dW 4 lnl ls ->bp C τ (.t 22)= .i .i64 ((min ls.length 20:Nat):Int) ->step (bp C τ) h (.slc 4 (.t 19) none (some (.t 22)) none)= .v (yO 4 (ls.flatMap dW) (min ls.length 20) (eR dW 4 lnl ls)) h:=fun τ h h1 h2=>Jo (Bm _ _) h1 (by rw[h2];exact gA)
 have hx:yO 4 (ls.flatMap dW) (min ls.length 20) (eR dW 4 lnl ls)= .ds (ls.flatMap dW) 0 (min ls.length 20) 4∨(yO 4 (ls.flatMap dW) (min ls.length 20) (eR dW 4 lnl ls)= .sn/\ min ls.length 20=0):=by
  cases ls with
  |nil=>
   cases lnl
   ·exact .inl rfl
   ·exact .inr ⟨rfl,rfl⟩
  |cons a L=>exact .inl rfl
 have apl:=fun {h R V} (hR:List.length R<=12) (hru:wd h R V)=>ac8 hR hru (Bm ls.length 20) (Nat.min_le_right ls.length 20) hx
 have nLs:aJ 64 (eR dW 4 lnl ls)=true:=aT kF;have nMs:aJ 64 (eR cB 1 mnl ms)=true:=aT j7;have nLc:aJ 64 (yO 4 (ls.flatMap dW) (min ls.length 20) (eR dW 4 lnl ls))=true:=EU kF;have nMc:aJ 64 (yO 1 (ms.flatMap cB) (min ms.length 36) (eR cB 1 mnl ms))=true:=EU j7;generalize yO 4 (ls.flatMap dW) (min ls.length 20) (eR dW 4 lnl ls)=Lc at*;generalize yO 1 (ms.flatMap cB) (min ms.length 36) (eR cB 1 mnl ms)=Mc at*;generalize hLs:eR dW 4 lnl ls=Ls at*;generalize hMs:eR cB 1 mnl ms=Ms at*;have lL:∀h,sB h Ls= .v (ι (ls.length:Int)) h:=fun h=>by rw[←hLs];exact bV
 have lM:∀h,sB h Ms= .v (ι (ms.length:Int)) h:=fun h=>by rw[←hMs];exact bV
 have nkr:aJ 64 (.ag (jK x))=true:=by
  rw[fH];simp only[jK,bP,cA,gN,aT j7,aT ut,aT uu,fW]
 rw[aA E.ok (E.get F.f3)];simp only[jK] at nkr;simp only[sP,jK] at mc;simp only[b9,aL] at mc;refine Z5 @fn3.eq_1 @sP.eq_1 @jK.eq_1 @h0.eq_1 nkr ?_;refine E.con (sc _) ?_;refine Z0 ?_;refine E.con (mc _) ?_;simp only[b9,aL] at ru;refine WE @pU lL lM nLs nMs nLc nMc mn36 mn20 hs1 hs2 ?_;refine E.run (ru _ _ fun Rr V h' hR hru hn old low=> ?_);obtain⟨V',h'',ea,hru',hn',old'⟩:=apl hR hru;have hn2:2<=h'.next:=hn;have c1:cG (h''.objs.get 1)=some (aL g):=by
  rw[old' 1 ω (fun o n e=>by have:=low o n e;have h2:2<=o:=this;omega),old 1 (by show 1<2;omega)];rfl
 have hLn:(Rr++ls.take (min ls.length 20)).length<=1000:=by rw[cX,fO];omega
 generalize Rr++ls.take (min ls.length 20)=Lf at*;have dd:∀h,h=h'' ->aK 9 h [b9 g,V']=some [b9 g,eR dW 4 true Lf]:=fun h e=>by
  rw[e,af,af,ay,SY hru',i7 (n:=6)]
 have q7:dq P X GL 7 [b9 g,V'] h'' (sM g Lf) h'':=fP (n:=9) (m:=1) S (k7 Lf hLn) (dd _ rfl) rfl;have q8:dq P X GL 8 [b9 g,V'] h'' (sM g Lf) h'':=fP (n:=9) (m:=1) S (k8 Lf hLn) (dd _ rfl) rfl;have c3:cG (h'.objs.get 1)=some (aL g):=by
  rw[old 1 (by show 1<2;omega)];rfl
 have nV:aJ 64 V'=true:=by rcases hru' with ⟨-,rfl⟩|⟨o,n,-,rfl,-⟩<;>rfl
 have nkg:aJ 64 (.ag (aL g))=true:=by rw[fH,gY]
 simp only[aL] at c1 c3 nkg;simp only[b9,aL] at q7 q8;obtain⟨n2,v2,ob2⟩:=h'';obtain⟨n3,v3,ob3⟩:=h';dsimp only at c1 c3;refine TP @pU @kU ea c1 c3 lL lM nLs nMs nLc nMc mn36 mn20 hs1 hs2 ?_;refine E.con q7 ?_;refine Z7 c1 nLs nMs nLc nMc nV nkg ?_;refine E.con q8 ?_;unfold sM;cases jm g Lf with
 |true=>refine Z7 c1 nLs nMs nLc nMc nV nkg ?_;exact⟨1,rfl⟩
 |false=>refine Z7 c1 nLs nMs nLc nMc nV nkg ?_;exact⟨1,rfl⟩
end
end
end AM
namespace AM
open Go
noncomputable section
section
variable {P:Program} {X:dy} {GL:T (List AV)} {fns:T aR}
def Hy (S:aw P X GL fns) {f:Nat} {args:List AV} {d:AV} (hp:aZ P X GL fns f args d) {c:CE} {w:World} {vs:List Value} (rs:RS (iY X) c h0 w) (gl:∀g l,GL.get g=some l ->c.gl g=some l) (hv:ed c args vs)
 {K:Value ->World ->Prop} (hK:∀v' w' x h1 c1 n,aH n h1 x=some d ->gC (iY X) c h0 w c1 h1 w' ->VR c1 x v' ->K v' w'):Calls P f vs.toArray w fun e w'=>∃v,e= .returned v/\ K v w':=by
 obtain⟨n,hr⟩:=hp;obtain⟨fn,b,e1,e2,e3,e4⟩:=kq S.sound (uH S.sound n).1 hr rs gl hv;refine callsIn_wide.1 (CallsIn.mono (show CallsIn Fence.wide 0 P f vs.toArray w _ from e4) fun e w' he=> ?_);cases e with
 |returned v=>
  obtain⟨x,h1,c1,⟨m,hd⟩,hev,hvr⟩:=he;exact⟨v,rfl,hK _ _ _ _ _ _ hd hev hvr⟩
 |_=>exact he.elim
def Hz {n:Nat} {h:AH} {x:AV} {b:Bool} (hd:aH n h x=some (.b b)):x= .b b:=by
 cases n<;>cases x<;>simp only[aH] at hd<;>first|(cases hd;rfl)|(cases hd;done)|skip
 all_goals (repeat' split at hd)<;>cases hd
end
section
variable {P:Program} {W:World} {c:CE} {H:Type} {enc:TypeId×Value ->H} {sp:Nat ->Bool} {hd:Bool}
def CH {t:TypeId} {k:IntKind} (ht:P.underlying t=some (.int k)) {n:Nat} {cs:List Value} {x:DataW H×List MemPlace} (h:DataW.trod enc P W 0 sp hd n t cs=some x):∃i,ed c [.i k i] cs:=by
 obtain⟨i,rfl,-,-⟩:=DataW.trod_int ht h;exact⟨i,.cons _ _ _ _ (.i _ _) .nil⟩
def qh {t:TypeId} (ht:P.underlying t=some (.int .u8)) {n:Nat} {cs:List Value} {x:DataW H×List MemPlace} (h:DataW.trod enc P W 0 sp hd n t cs=some x):∃b:Nat,b<256/\ ed c (cB b) cs:=by
 obtain⟨i,rfl,-,hw⟩:=DataW.trod_int ht h;have hw':0<=i/\ i<=255:=by
  simp[Lit.wf,IntKind.min,IntKind.max,IntKind.signed,IntKind.bits] at hw;omega
 refine⟨i.toNat,by omega,?_⟩;have e:((i.toNat:Nat):Int)=i:=by omega
 unfold cB;rw[e];exact .cons _ _ _ _ (.i _ _) .nil
def HB {a:Addr} {n:Nat} {cs:List Value} (h:W.cells? 0 a n=some cs):cs.length=n/\∀(j:Nat) v,cs[j]? =some v ->W.cell? (a.add j)=some v:=by
 unfold World.cells? at h;rw[if_pos (Bk _)] at h;have hl:cs.length=n:=by simpa using mapM_some_length h
 refine⟨hl,fun j v hj=> ?_⟩;have hj':=(cW.1 hj).1;have:=mapM_some_get h j j (by rw[List.getElem?_range ω]);rw[this,hj]
def SZ {a:Addr} {i j:Nat}:(a.add i).add j=⟨a.block,a.off+(i+j),none⟩∨(i=0/\ j=0):=by
 unfold Addr.add;by_cases hi:i=0<;>by_cases hj:j=0
 ·exact .inr ⟨hi,hj⟩
 ·left;simp[hi,hj]
 ·left;simp[hi,hj]
 ·left;simp[hi,hj];omega
def yP {a:Addr} {v:Value} (h:W.cell? a=some v):∃row t fr,W.heap[a.block]? =some (.cells row t fr)/\ a.spot=none/\ row[a.off]? =some v:=by
 unfold World.cell? at h;split at h
 ·rename_i row t fr e;split at h
  ·cases h
  ·rename_i hs;exact⟨row,t,fr,e,by simpa using hs,h⟩
 ·cases h
def uv {α:Type} {en:α ->List AV} {OK:α ->Prop} {t e:TypeId} {k:Nat} (him:∀b row,eC W b=some row ->c.im b=some row) {b0:Nat} {row0:Array Value} (h0:eC W b0=some row0)
 (ht:P.underlying t=some (.slice e)) (hk:P.cellsOf e=k) (k0:0<k)
 (el:∀(n:Nat) (cs:List Value) (x:DataW H×List MemPlace),DataW.trod enc P W 0 sp hd n e cs=some x ->∃a:α,OK a/\ ed c (en a) cs)
 {n:Nat} {cs:List Value} {x:DataW H×List MemPlace} (h:DataW.trod enc P W 0 sp hd n t cs=some x):∃(nl:Bool) (L:List α),(∀a∈L,OK a)/\ ed c [eR en k nl L] cs:=by
 rcases DataW.trod_slice ht h with ⟨rfl,-⟩|⟨a,len,cap,cR,rest,m,-,rfl,-,-,hlc,-,hel,hget,-,-⟩
 ·exact⟨true,[],(fun a ha=>by cases ha),ed.cons _ _ _ _ .sn .nil⟩
 rw[hk] at hget;have key:∀q,q<=len ->∃(L:List α) (vs:List Value),L.length=q/\ (∀a∈L,OK a)/\ ed c (L.flatMap en) vs/\ vs.length=q*k/\
  (0<q ->∃row t fr,W.heap[a.block]? =some (.cells row t fr)/\ a.spot=none/\∀(i:Nat) v,vs[i]? =some v ->row[a.off+i]? =some v):=by
  intro q;induction q with
  |zero=>intro _;exact⟨[],[],rfl,fun a ha=>(by cases ha),.nil,by simp,fun h=>by omega⟩
  |succ q ih=>
   intro hq;obtain⟨L,vs,l1,l2,l3,l4,l5⟩:=ih ω;have hg:=hget q ω;have hx:cR[q]? =some cR[q]:=ba ω;rw[hx] at hg;obtain⟨cs,hc,htr⟩:=Option.bind_eq_some_iff.1 hg;obtain⟨a',ok',hv⟩:=el _ _ _ htr;obtain⟨cl,cg⟩:=HB hc;refine⟨L++[a'],vs++cs,by rw[cX,l1];rfl,?_,?_,by rw[cX,l4,cl,zr],fun _=> ?_⟩
   ·intro b hb;rcases eV.1 hb with hb|hb
    ·exact l2 b hb
    ·rw[dY.1 hb];exact ok'
   ·rw[ik,w7];exact l3.append hv
   ·have hfirst:∀(j:Nat) v,cs[j]? =some v ->∃row t fr,W.heap[a.block]? =some (.cells row t fr)/\ a.spot=none/\ row[a.off+(q*k+j)]? =some v∨(W.heap[a.block]? =some (.cells row t fr)/\ row[a.off+(q*k+j)]? =some v):=by
     intro j v hj;have hc1:=cg j v hj;by_cases hz:q*k=0/\ j=0
     ·have e:(a.add (q*k)).add j=a:=by rw[hz.1,hz.2];rfl
      rw[e] at hc1;obtain⟨row,t,fr,r1,r2,r3⟩:=yP hc1;exact⟨row,t,fr,.inl ⟨r1,r2,by rw[hz.1,hz.2];exact r3⟩⟩
     ·rcases SZ (a:=a) (i:=q*k) (j:=j) with e|e
      ·rw[e] at hc1;obtain⟨row,t,fr,r1,-,r3⟩:=yP hc1;exact⟨row,t,fr,.inr ⟨r1,r3⟩⟩
      ·exact absurd e hz
    rcases Ln q with rfl|hq0
    ·have hc0:cs[0]? =some cs[0]:=ba ω;have h00:=cg 0 _ hc0;have e:(a.add (0*k)).add 0=a:=by rw[wZ];rfl
     rw[e] at h00;obtain⟨row,t,fr,r1,r2,-⟩:=yP h00;refine⟨row,t,fr,r1,r2,fun i v hi=> ?_⟩;have lv:vs=[]:=by rw[←Fm,l4,wZ]
     rw[lv,lB] at hi;obtain⟨row',t',fr',r⟩:=hfirst i v hi;rcases r with ⟨s1,-,s3⟩|⟨s1,s3⟩
     ·rw[r1] at s1;cases s1;simpa using s3
     ·rw[r1] at s1;cases s1;simpa using s3
    ·obtain⟨row,t,fr,r1,r2,r3⟩:=l5 hq0;refine⟨row,t,fr,r1,r2,fun i v hi=> ?_⟩;by_cases hlt:i<vs.length
     ·rw[oZ hlt] at hi;exact r3 i v hi
     ·rw[vE ω] at hi;obtain⟨row',t',fr',r⟩:=hfirst _ v hi;have ei:q*k+(i-vs.length)=i:=by omega
      rw[ei] at r;rcases r with ⟨s1,-,s3⟩|⟨s1,s3⟩
      ·rw[r1] at s1;cases s1;exact s3
      ·rw[r1] at s1;cases s1;exact s3
 obtain⟨L,vs,l1,l2,l3,l4,l5⟩:=key len (bK _);refine⟨false,L,l2,?_⟩;rcases Ln len with rfl|hl0
 ·have lL:L=[]:=Fm.1 l1;subst lL;rw[GT];exact .cons _ _ _ _ (.ds [] 0 0 k b0 0 cap a row0 [] (him _ _ h0) (fun i v hi=>by simp at hi) .nil (Bk _) (fun h=>absurd rfl h)) .nil
 ·obtain⟨row,t',fr,r1,r2,r3⟩:=l5 hl0;have hne:L≠[]:=fun e=>by rw[e] at l1;simp at l1;omega
  rw[um hne,l1];refine .cons _ _ _ _ (.ds (L.flatMap en) 0 len k a.block a.off cap a row vs (him _ _ (iw r1)) r3 l3 hlc (fun _=> ?_)) .nil;obtain⟨ab,ao,a_⟩:=a;obtain rfl:a_=none:=r2;rfl
def uw {t:TypeId} {fs:Array Field} (ht:P.underlying t=some (.struct fs)) {n:Nat} {cs:List Value} {x:DataW H×List MemPlace} (h:DataW.trod enc P W 0 sp hd n t cs=some x):
 cs.length=P.cellsOf t/\∀(i:Nat) f,fs.toList[i]? =some f ->∃m y,DataW.trod enc P W 0 sp hd m f.type ((cs.drop f.offset).take (P.cellsOf f.type))=some y:=by
 cases n with
 |zero=>simp[DataW.trod] at h
 |succ n=>
  unfold DataW.trod at h;rw[ht] at h;split at h<;>simp_all;obtain⟨hl,xs,hp,hd⟩:=h;refine fun i f hf=>⟨n,?_⟩
  have hlen:=mapM_some_length hp;have hi:=(jo.1 hf).1;have:=mapM_some_get hp i f (by simpa using hf);have hx:xs[i]? =some (xs[i]'(by rw[hlen];simpa using hi)):=ba _;rw[hx] at this;exact⟨_,_,this⟩
end
end
end AM
