import Derived.Test.YtcpcjocnnclcmaaGreatDoorN21
import Derived.Test.YtcpcjocnnclcmaaGreatDoorN28
set_option linter.all false
namespace AM
open Dg Go
noncomputable section
def SP {h:AH} {esz o k n L} (hc2:cG (h.objs.get k)=some L) (hL:L.length=(n+1)*esz) (hs:cE L=true) (hc:cG (h.objs.get o)=some []) (hn:n+1<=1048576):
 pS h esz (.sl o 0 0 (some 0) esz) (.sl k 0 (n+1) none esz)= .v (.sl h.next 0 (n+1) none esz) ⟨h.next+1,h.ver,h.objs.put h.next (.cells h.ver L)⟩:=by
 have e1:cR h esz (.sl k 0 (n+1) none esz)=some L:=nT (show h.cells k=some L from hc2) (gI hL);show(match eI (.sl k 0 (n+1) none esz),cR h esz (.sl k 0 (n+1) none esz) with|some n',some l=>eH h (.sl o 0 0 (some 0) esz) n' l esz|_,_=> .bad)=_;rw[e1];show eH h (.sl o 0 0 (some 0) esz) (n+1) L esz=_;have e:eH h (.sl o 0 0 (some 0) esz) (n+1) L esz=(match h.cells o with
  |none=>bj.bad
  |some l=>fN (0+(n+1)) fun need=>bif !(Nat.beq esz esz&&(Nat.ble need 1048576&&cE L)) then .bad else
   bif Nat.ble need 0 then
    match bD L l (0+0*esz) with
    |some l'=>h.put o (.cells (Nat.succ h.ver) l') fun h=> .v (.sl o 0 need (some 0) esz) h
    |none=> .bad
   else match sub l 0 (0*esz) with
    |some old=>match gK old L with
     |some l=>h.new (.cells h.ver l) fun o h=> .v (.sl o 0 need none esz) h
     |none=> .bad
    |none=> .bad):=rfl
 have hc':h.cells o=some []:=hc;have z:sub ([]:List AV) 0 0=some []:=rfl;rw[e,hc'];simp only[bR,az,aQ,fL,hn,hs,decide_true,fW,gU,cond_false,wZ,z,dX,lB,AH.new_eq];have q:decide (n+1<=0)=false:=by simp
 simp only[q,cond_false]
def EI (r:Ru):cE (dW r)=true:=rfl
def wd (h:AH) (R:List Ru) (v:AV):Prop:=(R=[]/\ v= .sn)∨∃o n,R.length=n+1/\ v= .sl o 0 (n+1) none 4/\ o<h.next/\ cG (h.objs.get o)=some (R.flatMap dW)
section
variable {P:Program} {X:dy} {GL:T (List AV)} {fns:T aR}
abbrev FR6:List Fr:=[.s (.cond (.t 83) Jd .skip),.b 1,.s Va,.s (.loop AF),.b 0,.s (.seq AK .ret)]
def um {α:Type} {enc:α ->List AV} {k:Nat} {nl:Bool}:∀{L:List α},L≠[] ->eR enc k nl L= .ds (L.flatMap enc) 0 L.length k
 |[],h=>absurd rfl h
 |a::L,_=>tT
set_option maxHeartbeats 8000000 in
def P0 {C:cQ Prop} (S:aw P X GL fns) (E:gW P X GL fns C) (F:uj fns) {g:Gr} (G:cM g) {L:List AV} {kk:Nat} (x:Ru) {m q i:Nat} {τ:T AV} {h:AH} (K:K Prop)
 (c0:cG (h.objs.get m)=some (aL g)) {ob:T aU} (old:∀j,j<m ->h.objs.get j=ob.get j) (cx:cG (h.objs.get q)=some (dW x)) (lq:q<h.next) (lm:m<q) (hi:i<100)
 (t1:τ.get 1=some (.ds L 0 kk 1)) (t2:τ.get 2=some (.p m 0)) (t5:τ.get 5=some .sn) (t6:τ.get 6=some (ι (i:Int))) (t7:τ.get 7=some (.p q 0))
 (ih:∀R v τ' h',R.length<=1 ->h.next<=h'.next ->(∀j,j<m ->h'.objs.get j=ob.get j) ->cG (h'.objs.get m)=some (aL g) ->wd h' R v ->(∀o n,v= .sl o 0 (n+1) none 4 ->m<o) ->τ'.get 1=some (.ds L 0 kk 1) ->τ'.get 2=some (.p m 0) ->τ'.get 5=some v ->τ'.get 6=some (ι ((i+3:Nat):Int)) ->
  dk C (.loop AF) [.b 0,.s (.seq AK .ret)] K τ' h'):dk C EG FR6 K τ h:=by
 obtain⟨n1,v1,ob1⟩:=h;dsimp only at c0 cx lq ih old;have c0':=c0;have cx':=cx;have vc:=fun (R:List Ru) (nl:Bool) (hR:R.length<=1000)=>oU (nl:=nl) S F G hR
 have nkg:aJ 64 (.ag (aL g))=true:=by rw[fH,gY]
 simp only[aL] at c0 nkg;simp only[dW] at cx;unfold EG;have A1:∀h',pS h' 4 (.sl n1 0 0 (some 0) 4) .sn= .v (.sl n1 0 0 (some 0) 4) h':=fun h'=>rfl
 refine QV @FR6.eq_1 c0 cx t1 t2 t5 t6 t7 nkg @zd A1 @Eb @Ua ?_;have hd:∀(v:Nat) (t:T aU),t.get (n1+2)=some (.cells v (dW x)) ->dq P X GL 19 [b9 g,.sl (n1+2) 0 1 none 4] ⟨n1+2+1,v1+1+1,t⟩ (.b (jm g [x])) ⟨n1+2+1,v1+1+1,t⟩:=fun v t ht=>
  fP (m:=1) (n:=9) S (vc [x] false (by simp)) (by
   have e:aH 9 ⟨n1+2+1,v1+1+1,t⟩ (.sl (n1+2) 0 1 none 4)=some (eR dW 4 false [x]):=by
    show(match t.get (n1+2) with|some (.cells _ l)=>(match aK 8 _ l with|some l=>some (AV.ds l 0 1 4)|none=>none)|_=>none)=_;rw[ht];dsimp only;rw[ul];rfl
   rw[af,af,ay,i7,e]) rfl
 simp only[b9,aL] at hd;refine E.con (hd (v1+1+1) _ (by exact U0)) ?_;have a3:aV .add (ι (i:Int)) (ι 3)=some (ι ((i+3:Nat):Int)):=hY (b:=3) ω;cases hv:jm g [x] with
 |false=>
  refine Z9 c0 cx t1 t2 t5 t6 t7 nkg a3 ?_;refine ih [] .sn _ _ (by simp) (show n1<=n1+2+1 by omega) (fun j hj=>by exact W0 (old j hj)) ?_ (.inl ⟨rfl,rfl⟩) (fun o n e=>by cases e) ?_ ?_ ?_ ?_
  ·exact W0 c0'
  all_goals exact U3 t1 t2 t5
 |true=>
  unfold Jd;refine RV c0 cx t1 t2 t5 t6 t7 nkg a3 @zd ?_;refine ih [x] (.sl (n1+2+1+1) 0 (0+1) none 4) _ _ (by simp) (show n1<=n1+2+1+1+1 by omega) (fun j hj=>by exact W0 (old j hj)) ?_ (.inr ⟨n1+2+1+1,0,rfl,rfl,by show n1+2+1+1<n1+2+1+1+1;omega,?_⟩) (fun o n e=>by cases e;omega) ?_ ?_ ?_ ?_
  ·exact W0 c0'
  ·exact U0
  all_goals exact U3 t1 t2 t5
set_option maxHeartbeats 8000000 in
def P1 {C:cQ Prop} (S:aw P X GL fns) (E:gW P X GL fns C) (F:uj fns) {g:Gr} (G:cM g) {L:List AV} {kk:Nat} (x:Ru) {R:List Ru} {o n:Nat} (hR:R.length=n+1) (hn:n<=100) {m q i:Nat} {τ:T AV} {h:AH} (K:K Prop)
 (c0:cG (h.objs.get m)=some (aL g)) {ob:T aU} (old:∀j,j<m ->h.objs.get j=ob.get j) (cx:cG (h.objs.get q)=some (dW x)) (co:cG (h.objs.get o)=some (R.flatMap dW)) (lo:o<h.next) (mo:m<o) (oq:o≠q) (lq:q<h.next) (lm:m<q) (hi:i<100)
 (t1:τ.get 1=some (.ds L 0 kk 1)) (t2:τ.get 2=some (.p m 0)) (t5:τ.get 5=some (.sl o 0 (n+1) none 4)) (t6:τ.get 6=some (ι (i:Int))) (t7:τ.get 7=some (.p q 0))
 (ih:∀R' v τ' h',R'.length<=n+2 ->h.next<=h'.next ->(∀j,j<m ->h'.objs.get j=ob.get j) ->cG (h'.objs.get m)=some (aL g) ->wd h' R' v ->(∀o n,v= .sl o 0 (n+1) none 4 ->m<o) ->τ'.get 1=some (.ds L 0 kk 1) ->τ'.get 2=some (.p m 0) ->τ'.get 5=some v ->τ'.get 6=some (ι ((i+3:Nat):Int)) ->
  dk C (.loop AF) [.b 0,.s (.seq AK .ret)] K τ' h'):dk C EG FR6 K τ h:=by
 obtain⟨n1,v1,ob1⟩:=h;dsimp only at c0 cx co lo lq ih old;have c0':=c0;have cx':=cx;have vc:=fun (R:List Ru) (nl:Bool) (hR:R.length<=1000)=>oU (nl:=nl) S F G hR
 have nkg:aJ 64 (.ag (aL g))=true:=by rw[fH,gY]
 simp only[aL] at c0 nkg;simp only[dW] at cx;unfold EG;have hl:(R.flatMap dW).length=(n+1)*4:=by rw[dG qL,hR]
 have A1:∀nx ver t,cG (T.get t o)=some (R.flatMap dW) ->cG (T.get t n1)=some [] ->pS ⟨nx,ver,t⟩ 4 (.sl n1 0 0 (some 0) 4) (.sl o 0 (n+1) none 4)= .v (.sl nx 0 (n+1) none 4) ⟨nx+1,ver,t.put nx (.cells ver (R.flatMap dW))⟩:=
  fun nx ver t h1 h2=>SP h1 hl (iJ EI R) h2 ω
 refine QV @FR6.eq_1 c0 cx co t1 t2 t5 t6 t7 nkg @zd A1 hl ?_;have fl:(R++[x]).flatMap dW=R.flatMap dW++dW x:=by rw[ik,w7]
 have hd:∀(v v':Nat) (t:T aU),t.get (n1+2+1)=some (.cells v (R.flatMap dW++dW x)) ->dq P X GL 19 [b9 g,.sl (n1+2+1) 0 (n+1+1) none 4] ⟨n1+2+1+1,v',t⟩ (.b (jm g (R++[x]))) ⟨n1+2+1+1,v',t⟩:=fun v v' t ht=>
  fP (m:=1) (n:=9) S (vc (R++[x]) false (by simp;omega)) (by
   have e:aH 9 ⟨n1+2+1+1,v',t⟩ (.sl (n1+2+1) 0 (n+1+1) none 4)=some (eR dW 4 false (R++[x])):=by
    show(match t.get (n1+2+1) with|some (.cells _ l)=>(match aK 8 _ l with|some l=>some (AV.ds l 0 (n+1+1) 4)|none=>none)|_=>none)=_;rw[ht,um (by simp)];dsimp only;rw[←fl,jw ul,cX,hR];rfl
   rw[af,af,ay,i7,e]) rfl
 simp only[b9,aL] at hd;refine E.con (hd (v1+1+1+1) _ _ (by exact U0)) ?_;have a3:aV .add (ι (i:Int)) (ι 3)=some (ι ((i+3:Nat):Int)):=hY (b:=3) ω;cases hv:jm g (R++[x]) with
 |false=>
  refine RV c0 cx co t1 t2 t5 t6 t7 nkg a3 ?_;refine ih R (.sl o 0 (n+1) none 4) _ _ ω (show n1<=n1+2+1+1 by omega) (fun j hj=>by exact W0 (old j hj)) ?_ (.inr ⟨o,n,hR,rfl,show o<n1+2+1+1 by omega,?_⟩) (fun o' n' e=>by cases e;exact mo) ?_ ?_ ?_ ?_
  ·exact W0 c0'
  ·exact W0 co
  all_goals exact U3 t1 t2 t5
 |true=>
  unfold Jd;refine F5 c0 cx co t1 t2 t5 t6 t7 nkg a3 @zd hl ?_;refine ih (R++[x]) (.sl (n1+2+1+1+1) 0 (n+1+1) none 4) _ _ (by simp;omega) (show n1<=n1+2+1+1+1+1 by omega) (fun j hj=>by exact W0 (old j hj)) ?_ (.inr ⟨n1+2+1+1+1,n+1,by simp[hR],rfl,by show n1+2+1+1+1<n1+2+1+1+1+1;omega,?_⟩) (fun o n e=>by cases e;omega) ?_ ?_ ?_ ?_
  ·exact W0 c0'
  ·simp(disch:=omega) only[cF,T.get_put,if_true,dB];rw[fl];rfl
  all_goals exact U3 t1 t2 t5
set_option maxHeartbeats 8000000 in
def KS {C:cQ Prop} (S:aw P X GL fns) (E:gW P X GL fns C) (F:uj fns) {g:Gr} (G:cM g) (pn:1<=g.prods.length) {L:List AV} {kk:Nat} (hb:∀i,i<kk ->∃b:Nat,b<256/\ L[i]? =some (.i .u8 (b:Int))) (hk6:kk<=36) (nkL:aJ 64 (.ds L 0 kk 1)=true) (h:AH) (k:AV ->AH ->Prop)
 (hk:∀R v h',R.length<=12 ->wd h' R v ->h.next<=h'.next ->(∀j,j<h.next ->h'.objs.get j=h.objs.get j) ->(∀o n,v= .sl o 0 (n+1) none 4 ->h.next<=o) ->k v h'):bZ C 6 [b9 g,.ds L 0 kk 1] h k:=by
 obtain⟨m,ver,ob⟩:=h;have nkg:aJ 64 (.ag (aL g))=true:=by rw[fH,gY]
 simp only[aL] at nkg;have pl:=G.pl;rw[aA E.ok (E.get F.f6)];refine Y5 @fn6.eq_1 @b9.eq_1 @aL.eq_1 nkg nkL ?_;have ia:∀h j,j<kk ->OI h 1 j (.ds L 0 kk 1)= .v (.dp L (j*1)) h:=fun h j hj=>by rw[yu,if_pos ⟨rfl,hj⟩,fL]
 have nkp:∀j,aJ 64 (.dp L j)=true:=fun j=>by rw[di];rw[ja] at nkL;exact nkL
 have lL:∀h,sB h (.ds L 0 kk 1)= .v (ι (kk:Int)) h:=fun h=>rfl
 have r4:∀a:Nat,aV .rem (ι (a:Int)) (ι 4)=some (ι ((a%4:Nat):Int)):=fun a=>dm (c:=4) ω
 have r8:∀a:Nat,aV .rem (ι (a:Int)) (ι 8)=some (ι ((a%8:Nat):Int)):=fun a=>dm (c:=8) ω
 have r3:∀a:Nat,aV .rem (ι (a:Int)) (ι 3)=some (ι ((a%3:Nat):Int)):=fun a=>dm (c:=3) ω
 have r16:∀a:Nat,aV .rem (ι (a:Int)) (ι 16)=some (ι ((a%16:Nat):Int)):=fun a=>dm (c:=16) ω
 have q8:∀a:Nat,a<256 ->aV .quo (.i .u8 (a:Int)) (.i .u8 8)=some (.i .u8 ((a/8:Nat):Int)):=fun a ha=>Cd (c:=8) ⟨by omega,ha⟩
 have a2:∀a:Nat,a<100 ->aV .add (ι (a:Int)) (ι 2)=some (ι ((a+2:Nat):Int)):=fun a ha=>hY (b:=2) ω
 have a3:∀a:Nat,a<100 ->aV .add (ι (a:Int)) (ι 3)=some (ι ((a+3:Nat):Int)):=fun a ha=>hY (b:=3) ω
 have b1:∀a:Nat,a<100 ->aV .add (ι 1) (ι (a:Int))=some (ι ((1+a:Nat):Int)):=fun a ha=>hY (a:=1) ω
 have rp:∀a:Nat,aV .rem (ι (a:Int)) (ι (g.prods.length:Int))=some (ι ((a%g.prods.length:Nat):Int)):=fun a=>dm (c:=g.prods.length) ω
 have np:((g.prods.length:Int)<1)=False:=by simp;omega
 have wq:∀a:Nat,a<256 ->bT .i64 (a:Int)=(a:Int):=fun a ha=>fJ ω
 have vc:=fun (R:List Ru) (nl:Bool) (hR:R.length<=1000)=>oU (nl:=nl) S F G hR
 refine qH E.ok (fun x:Nat×List Ru=>kk+3-x.1) (fun x τ h=>x.1<=kk+3/\ x.2.length<=12/\ m+1<=h.next/\ (∀j,j<m ->h.objs.get j=ob.get j)/\ cG (h.objs.get m)=some (aL g)/\ τ.get 1=some (.ds L 0 kk 1)/\ τ.get 2=some (.p m 0)/\ τ.get 6=some (ι (x.1:Int))/\
  ∃v,τ.get 5=some v/\ wd h x.2 v/\ (∀o n,v= .sl o 0 (n+1) none 4 ->m<o)) ?_ (0,[]) _ _ ⟨by omega,by simp,bK _,(fun j hj=>by exact U0),?_,?_,?_,?_,.sn,?_,.inl ⟨rfl,rfl⟩,fun o n e=>by cases e⟩
 ·rintro⟨i,R⟩ τ ⟨n1,v1,ob1⟩ ⟨hi,hR,hn,od,c0,t1,t2,t6,v,t5,ru,low⟩ ih;dsimp only at hi hR hn od c0 t6 ru;have c0':=c0;simp only[aL] at c0;by_cases h2:i+2<kk
  ·obtain⟨y0,y1,y2⟩:=hb i ω;obtain⟨zq0',z1,z2⟩:=hb (i+1) ω;obtain⟨w0,w1,w2⟩:=hb (i+2) ω;have s0:sub L i 1=some [.i .u8 (y0:Int)]:=j5 y2;have s1:sub L (i+1) 1=some [.i .u8 (zq0':Int)]:=j5 z2;have s2:sub L (i+2) 1=some [.i .u8 (w0:Int)]:=j5 w2;have hlt:((i+2:Nat):Int)<(kk:Int):=by omega
   rcases ru with ⟨rfl,rfl⟩|⟨o,n,hRn,rfl,ho,co⟩
   ·have ih':∀R v τ' h',R.length<=1 ->n1+1<=h'.next ->(∀j,j<m ->h'.objs.get j=ob.get j) ->cG (h'.objs.get m)=some (aL g) ->wd h' R v ->(∀o n,v= .sl o 0 (n+1) none 4 ->m<o) ->τ'.get 1=some (.ds L 0 kk 1) ->τ'.get 2=some (.p m 0) ->τ'.get 5=some v ->τ'.get 6=some (ι ((i+3:Nat):Int)) ->
     dk C (.loop AF) [.b 0,.s (.seq AK .ret)] (KF k [(4,none)]) τ' h':=fun R v τ' h' e1 e2 eo e3 e4 e5 e6 e7 e8 e9=>ih (i+3,R) τ' h' (by show kk+3-(i+3)<kk+3-i;omega) ⟨by show i+3<=kk+3;omega,by show R.length<=12;omega,by omega,eo,e3,e6,e7,e9,v,e8,e4,e5⟩
    have TL:=fun (x:Ru) {τ h}=>P0 (L:=L) (kk:=kk) (m:=m) (q:=n1) (i:=i) (τ:=τ) (h:=h) S E F G x (KF k [(4,none)])
    have kc:w0%8=6∨w0%8=7∨w0%8=4∨w0%8=5∨(w0%8≠6/\ w0%8≠7/\ w0%8≠4/\ w0%8≠5):=by omega
    rcases kc with k7|k7|k7|k7|⟨k7,k8,k4,k5⟩
    ·refine Z26 c0 t1 t2 t5 t6 ia nkp nkL lL s0 s1 s2 r4 r8 r3 r16 q8 a2 @ar b1 hlt @pU np rp wq k7 ?_;refine TL ⟨((y0%g.prods.length:Nat):Int),0,7,0⟩ ?_ ?_ ?_ (show n1<n1+1 by omega) ω ω ?_ ?_ ?_ ?_ ?_ ih'
     ·exact W0 c0'
     ·intro j hj;exact W0 (od j hj)
     ·exact U0
     all_goals exact U4 t1 t2 t5 t6
    ·refine Z26 c0 t1 t2 t5 t6 ia nkp nkL lL s0 s1 s2 r4 r8 r3 r16 q8 a2 @ar b1 hlt @pU np rp wq k7 ?_;refine TL ⟨((y0%g.prods.length:Nat):Int),0,8,0⟩ ?_ ?_ ?_ (show n1<n1+1 by omega) ω ω ?_ ?_ ?_ ?_ ?_ ih'
     ·exact W0 c0'
     ·intro j hj;exact W0 (od j hj)
     ·exact U0
     all_goals exact U4 t1 t2 t5 t6
    ·refine Z26 c0 t1 t2 t5 t6 ia nkp nkL lL s0 s1 s2 r4 r8 r3 r16 q8 a2 @ar b1 hlt @pU np rp wq k7 ?_;refine TL ⟨((y0%g.prods.length:Nat):Int),((zq0'%4:Nat):Int),5,((1+w0/8%3:Nat):Int)⟩ ?_ ?_ ?_ (show n1<n1+1 by omega) ω ω ?_ ?_ ?_ ?_ ?_ ih'
     ·exact W0 c0'
     ·intro j hj;exact W0 (od j hj)
     ·exact U0
     all_goals exact U4 t1 t2 t5 t6
    ·refine Z26 c0 t1 t2 t5 t6 ia nkp nkL lL s0 s1 s2 r4 r8 r3 r16 q8 a2 @ar b1 hlt @pU np rp wq k7 ?_;refine TL ⟨((y0%g.prods.length:Nat):Int),((zq0'%4:Nat):Int),6,((1+w0/8%16:Nat):Int)⟩ ?_ ?_ ?_ (show n1<n1+1 by omega) ω ω ?_ ?_ ?_ ?_ ?_ ih'
     ·exact W0 c0'
     ·intro j hj;exact W0 (od j hj)
     ·exact U0
     all_goals exact U4 t1 t2 t5 t6
    ·have n5:(((1+w0%8:Nat):Int)=5)=False:=by simp;omega
     have n6:(((1+w0%8:Nat):Int)=6)=False:=by simp;omega
     have n7:(((1+w0%8:Nat):Int)=7)=False:=by simp;omega
     have n8:(((1+w0%8:Nat):Int)=8)=False:=by simp;omega
     refine Z29 c0 t1 t2 t5 t6 ia nkp nkL lL s0 s1 s2 r4 r8 r3 r16 q8 a2 @ar b1 hlt @pU np rp wq n5 n6 n7 n8 ?_;refine TL ⟨((y0%g.prods.length:Nat):Int),((zq0'%4:Nat):Int),((1+w0%8:Nat):Int),0⟩ ?_ ?_ ?_ (show n1<n1+1 by omega) ω ω ?_ ?_ ?_ ?_ ?_ ih'
     ·exact W0 c0'
     ·intro j hj;exact W0 (od j hj)
     ·exact U0
     all_goals exact U4 t1 t2 t5 t6
   ·replace ho:o<n1:=ho;replace co:cG (ob1.get o)=some (R.flatMap dW):=co;by_cases l12:((n+1:Nat):Int)<12
    ·have ih':∀R' v τ' h',R'.length<=n+2 ->n1+1<=h'.next ->(∀j,j<m ->h'.objs.get j=ob.get j) ->cG (h'.objs.get m)=some (aL g) ->wd h' R' v ->(∀o n,v= .sl o 0 (n+1) none 4 ->m<o) ->τ'.get 1=some (.ds L 0 kk 1) ->τ'.get 2=some (.p m 0) ->τ'.get 5=some v ->τ'.get 6=some (ι ((i+3:Nat):Int)) ->
      dk C (.loop AF) [.b 0,.s (.seq AK .ret)] (KF k [(4,none)]) τ' h':=fun R' v τ' h' e1 e2 eo e3 e4 e5 e6 e7 e8 e9=>ih (i+3,R') τ' h' (by show kk+3-(i+3)<kk+3-i;omega) ⟨by show i+3<=kk+3;omega,by show R'.length<=12;omega,by omega,eo,e3,e6,e7,e9,v,e8,e4,e5⟩
     have TL:=fun (x:Ru) {τ h}=>P1 (L:=L) (kk:=kk) (m:=m) (q:=n1) (i:=i) (τ:=τ) (h:=h) (o:=o) S E F G x hRn ω (KF k [(4,none)])
     have kc:w0%8=6∨w0%8=7∨w0%8=4∨w0%8=5∨(w0%8≠6/\ w0%8≠7/\ w0%8≠4/\ w0%8≠5):=by omega
     rcases kc with k7|k7|k7|k7|⟨k7,k8,k4,k5⟩
     ·refine Z28 c0 co t1 t2 t5 t6 ia nkp nkL lL s0 s1 s2 r4 r8 r3 r16 q8 a2 @ar b1 hlt l12 @pU np rp wq k7 ?_;refine TL ⟨((y0%g.prods.length:Nat):Int),0,7,0⟩ ?_ ?_ ?_ ?_ (show o<n1+1 by omega) (low o n rfl) ω (show n1<n1+1 by omega) ω ω ?_ ?_ ?_ ?_ ?_ ih'
      ·exact W0 c0'
      ·intro j hj;exact W0 (od j hj)
      ·exact U0
      ·exact W0 co
      all_goals exact U4 t1 t2 t5 t6
     ·refine Z28 c0 co t1 t2 t5 t6 ia nkp nkL lL s0 s1 s2 r4 r8 r3 r16 q8 a2 @ar b1 hlt l12 @pU np rp wq k7 ?_;refine TL ⟨((y0%g.prods.length:Nat):Int),0,8,0⟩ ?_ ?_ ?_ ?_ (show o<n1+1 by omega) (low o n rfl) ω (show n1<n1+1 by omega) ω ω ?_ ?_ ?_ ?_ ?_ ih'
      ·exact W0 c0'
      ·intro j hj;exact W0 (od j hj)
      ·exact U0
      ·exact W0 co
      all_goals exact U4 t1 t2 t5 t6
     ·refine Z28 c0 co t1 t2 t5 t6 ia nkp nkL lL s0 s1 s2 r4 r8 r3 r16 q8 a2 @ar b1 hlt l12 @pU np rp wq k7 ?_;refine TL ⟨((y0%g.prods.length:Nat):Int),((zq0'%4:Nat):Int),5,((1+w0/8%3:Nat):Int)⟩ ?_ ?_ ?_ ?_ (show o<n1+1 by omega) (low o n rfl) ω (show n1<n1+1 by omega) ω ω ?_ ?_ ?_ ?_ ?_ ih'
      ·exact W0 c0'
      ·intro j hj;exact W0 (od j hj)
      ·exact U0
      ·exact W0 co
      all_goals exact U4 t1 t2 t5 t6
     ·refine Z28 c0 co t1 t2 t5 t6 ia nkp nkL lL s0 s1 s2 r4 r8 r3 r16 q8 a2 @ar b1 hlt l12 @pU np rp wq k7 ?_;refine TL ⟨((y0%g.prods.length:Nat):Int),((zq0'%4:Nat):Int),6,((1+w0/8%16:Nat):Int)⟩ ?_ ?_ ?_ ?_ (show o<n1+1 by omega) (low o n rfl) ω (show n1<n1+1 by omega) ω ω ?_ ?_ ?_ ?_ ?_ ih'
      ·exact W0 c0'
      ·intro j hj;exact W0 (od j hj)
      ·exact U0
      ·exact W0 co
      all_goals exact U4 t1 t2 t5 t6
     ·have n5:(((1+w0%8:Nat):Int)=5)=False:=by simp;omega
      have n6:(((1+w0%8:Nat):Int)=6)=False:=by simp;omega
      have n7:(((1+w0%8:Nat):Int)=7)=False:=by simp;omega
      have n8:(((1+w0%8:Nat):Int)=8)=False:=by simp;omega
      simp(disch:=first|omega|(exact U2 c0 co)) only[c0,co,t1,t2,t5,t6,ia,nkp,nkL,lL,s0,s1,s2,r4,r8,r3,r16,q8,a2,ar,b1,hlt,l12,pU,np,rp,wq,n5,n6,n7,n8,↓ky E.ok,Nat.reduceEqDiff,Nat.reduceAdd,Nat.reduceMul,Nat.reduceLT,Nat.reduceShiftRight,Nat.reduceAnd,Nat.reduceBneDiff,↓reduceIte,Int.reduceLT,Int.reduceLE,Int.reduceEq,go_sem];refine TL ⟨((y0%g.prods.length:Nat):Int),((zq0'%4:Nat):Int),((1+w0%8:Nat):Int),0⟩ ?_ ?_ ?_ ?_ (show o<n1+1 by omega) (low o n rfl) ω (show n1<n1+1 by omega) ω ω ?_ ?_ ?_ ?_ ?_ ih'
      ·exact W0 c0'
      ·intro j hj;exact W0 (od j hj)
      ·exact U0
      ·exact W0 co
      all_goals exact U4 t1 t2 t5 t6
    ·refine QV c0 co t1 t2 t5 t6 ia nkp nkL lL a2 hlt l12 ?_;exact hk R _ _ hR (.inr ⟨o,n,hRn,rfl,ho,co⟩) (by show m<=n1;omega) od fun o' n' e=>by cases e;exact Fg (low _ _ rfl)
  ·have hlt:¬(((i+2:Nat):Int)<(kk:Int)):=by omega
   rcases ru with ⟨rfl,rfl⟩|⟨o,n,hRn,rfl,ho,co⟩
   ·refine WE c0 t1 t2 t5 t6 ia nkp nkL lL a2 hlt ?_;exact hk [] _ _ (by simp) (.inl ⟨rfl,rfl⟩) (by show m<=n1;omega) od fun o' n' e=>by cases e
   ·replace ho:o<n1:=ho;replace co:cG (ob1.get o)=some (R.flatMap dW):=co;refine F5 c0 co t1 t2 t5 t6 ia nkp nkL lL a2 hlt ?_;exact hk R _ _ hR (.inr ⟨o,n,hRn,rfl,ho,co⟩) (by show m<=n1;omega) od fun o' n' e=>by cases e;exact Fg (low _ _ rfl)
 ·exact U1 @aL.eq_1
 all_goals exact U0
def KT {C:cQ Prop} (E:gW P X GL fns C) (F:uj fns) {g:Gr} (G:cM g) (pn:1<=g.prods.length) (h:AH) (k:AV ->AH ->Prop)
 (hk:∀R v h',R.length<=12 ->wd h' R v ->h.next<=h'.next ->(∀j,j<h.next ->h'.objs.get j=h.objs.get j) ->(∀o n,v= .sl o 0 (n+1) none 4 ->h.next<=o) ->k v h'):bZ C 6 [b9 g,.sn] h k:=by
 obtain⟨m,ver,ob⟩:=h;have nkg:aJ 64 (.ag (aL g))=true:=by rw[fH,gY]
 simp only[aL] at nkg;rw[aA E.ok (E.get F.f6)];have a2:∀a:Nat,a<100 ->aV .add (ι (a:Int)) (ι 2)=some (ι ((a+2:Nat):Int)):=fun a ha=>hY (b:=2) ω
 refine Y4 @fn6.eq_1 @b9.eq_1 @aL.eq_1 nkg ?_;rw[eZ E.ok];have z2:aV .add (ι 0) (ι 2)=some (ι 2):=rfl;refine Z1 z2 ?_;exact hk [] _ _ (by simp) (.inl ⟨rfl,rfl⟩) (by show m<=m+1;omega) (fun j hj=>by have hj':j<m:=hj;exact U0) fun o' n' e=>by cases e
end
def qX (g:Gr) (left ii mk:Nat) (bs:List Nat):Pr:=
 qc { mV [112,97+g.prods.length] (left%g.nts.length) true (du g.nts.length bs) with cond:=gT ii g.nc } mk
def jN (g:Gr) (left ii mk:Nat) (bs:List Nat) (kn:Bool):Gr:=
 if toks (du g.nts.length bs)=0/\ (kn=true∨jI (left%g.nts.length) (du g.nts.length bs)=false) then g else { g with prods:=g.prods++[qX g left ii mk bs] }
section
variable {P:Program} {X:dy} {GL:T (List AV)} {fns:T aR}
def Ht {n:Nat} {bs:List Nat} {i:Nat} (hi:i<min bs.length 4):((bs.take (i+1)).map (Ei n))=(bs.take i).map (Ei n)++[Ei n (bs[i]'ω)]:=by
 rw[List.take_succ_eq_append_getElem ω,iT];rfl
def EJ {h:AH} {g:Gr}:aH 9 h (.ag (aL g))=some (.ag (aL g)):=i7 (n:=6) g
def CG {n:Nat} {h:AH}:aH n h .sn=some .sn:=by cases n<;>rfl
def P2 {h:AH} {name:List Nat} {left:Nat} {right:List (Bool×Nat)} {rn:Bool} {cond:Tr} {V:AV} (hx:aH 8 h V=some (eR bS 2 rn right)):
 aH 9 h (.ag [.s name,.i .i64 (left:Int),V,fG (ax cond).1,.i .i64 ((ax cond).2:Int),.b false,.i .i64 0,.sn,.b false,.i .i64 0,.i .i64 0,.i .i64 0,.i .i64 0])=some (.ag (cC { mV name left rn right with cond:=cond })):=by
 have e:aK 8 h [.s name,.i .i64 (left:Int),V,fG (ax cond).1,.i .i64 ((ax cond).2:Int),.b false,.i .i64 0,.sn,.b false,.i .i64 0,.i .i64 0,.i .i64 0,.i .i64 0]=some (cC { mV name left rn right with cond:=cond }):=by
  simp only[cC,mV,af,ay,dc,uW,oP,CG,gw (n:=7),jW,hx];rfl
 have e1:∀l,aH 9 h (.ag l)=(match aK 8 h l with|some l=>some (AV.ag l)|none=>none):=fun _=>rfl
 rw[e1,e]
def P3 {h:AH} {g:Gr} {V:AV} {L:List Pr} (hx:aH 8 h V=some (eR cC 13 true L)):
 aH 9 h (.ag [eX (bW g.nc) (g.cx.map AV.s),fG (ax g.fam).1,.i .i64 ((ax g.fam).2:Int),eR iI 7 true g.tc.zipIdx,eX g.nts (g.nx.map AV.s),V,.i .i64 0,eR qU 4 true g.lvs,eR jx 9 true g.fis])=some (.ag (aL { g with prods:=L })):=by
 have e:aK 8 h [eX (bW g.nc) (g.cx.map AV.s),fG (ax g.fam).1,.i .i64 ((ax g.fam).2:Int),eR iI 7 true g.tc.zipIdx,eX g.nts (g.nx.map AV.s),V,.i .i64 0,eR qU 4 true g.lvs,eR jx 9 true g.fis]=some (aL { g with prods:=L }):=by
  simp only[aL,af,ay,dc,gw (n:=7),qB (n:=7),aM (n:=7) dz,aM (n:=7) dR,aM (n:=7) da,hx]
 have e1:∀l,aH 9 h (.ag l)=(match aK 8 h l with|some l=>some (AV.ag l)|none=>none):=fun _=>rfl
 rw[e1,e]
def P4 {x:Option aU} {c:List AV} (h:cG x=some c):∃v,x=some (.cells v c):=by
 rcases x with _|(_|_|_|_|_)<;>simp only[cG] at h;all_goals first|(cases h;done)|(injection h with h;subst h;exact⟨_,rfl⟩)
def P5 (p:Pr):cE (cC p)=true:=by
 simp only[cC,gM,kw,iH,fz];rfl
def mI {n:Nat} (h:n<=3):(bW n).length=n:=by unfold bW;rw[fO];simp;omega
set_option maxHeartbeats 4000000 in
def P6 {C:cQ Prop} (S:aw P X GL fns) (E:gW P X GL fns C) (R:dr fns) (A:bh P X GL) (G:gf fns) (F:jM fns) {g:Gr} (ok:cM g) (pn:1<=g.prods.length) {left ii mk:Nat} {W V:AV} {bs:List Nat} (hi:ii<256) (hm:mk<256) {τ:T AV} {n1 v1:Nat} {ob:T aU} {D:AV}
 (hD: .ag (aL { g with prods:=g.prods++[qX g left ii mk bs] })=D) (c0:cG (ob.get 0)=some (aL g)) (c1:cG (ob.get 1)=some (xC left W ii mk)) (c2:cG (ob.get 2)=some [.sn,.sn,.i .i64 0,.sn,.sn,.sn,.i .i64 0,.sn,.sn])
 (c3:cG (ob.get 3)=some (cP [112,97+g.prods.length] (left%g.nts.length) V)) (hV:Up ⟨n1,v1,ob⟩ (du g.nts.length bs) V) (nx':5<=n1) (t3:τ.get 3=some (.p 0 0)) (t4:τ.get 4=some (.p 1 0)) (t6:τ.get 6=some (.p 2 0)) (t8:τ.get 8=some (.p 3 0)):
 dk C (.seq Ck (.seq Cm (.seq Cn (.seq Co .ret)))) [] (KF (fun x h=>∃n,aH n h x=some D) [(6,some (9,true))]) τ ⟨n1,v1,ob⟩:=by
 have c0':=c0;simp only[aL] at c0;simp only[cP] at c3;simp only[xC] at c1;have hr4:(du g.nts.length bs).length<=4:=by unfold du;rw[j9,fO];omega
 have ncl:=mI ok.nc;have sp:=fun h=>aE S (uc (GL:=GL) S R A F (b:=ii) hi ok.nc) (n:=1) (by rfl) h
 simp only[eT,eD] at sp;refine RV c0 c1 c2 c3 t3 t4 t6 t8 @dv ncl ?_;refine E.con (sp _) ?_;refine WE c0 c1 c2 c3 t3 t4 t6 t8 @dv ncl @aD ?_;have MC:∀o3,cG (some o3)=some [AV.s [112,97+g.prods.length],.i .i64 ((left%g.nts.length:Nat):Int),V,fG (ax (gT ii g.nc)).1,.i .i64 ((ax (gT ii g.nc)).2:Int),.b false,.i .i64 0,.sn,.b false,.i .i64 0,.i .i64 0,.i .i64 0,.i .i64 0] ->∃ob':T aU,cG (ob'.get 0)=some (aL g)/\ cG (ob'.get 2)=some [.sn,.sn,.i .i64 0,.sn,.sn,.sn,.i .i64 0,.sn,.sn]/\ ob'.get 3=some o3/\
  dq P X GL 42 [.ag [AV.s [112,97+g.prods.length],.i .i64 ((left%g.nts.length:Nat):Int),V,fG (ax (gT ii g.nc)).1,.i .i64 ((ax (gT ii g.nc)).2:Int),.b false,.i .i64 0,.sn,.b false,.i .i64 0,.i .i64 0,.i .i64 0,.i .i64 0],.i .u8 (mk:Int)] ⟨n1,v1+1,ob.put 3 o3⟩ (.ag (cC (qX g left ii mk bs))) ⟨n1,v1+1,ob'⟩:=by
  intro o3 h3;have mp:=Eh (GL:=GL) S G F (p:={ mV [112,97+g.prods.length] (left%g.nts.length) true (du g.nts.length bs) with cond:=gT ii g.nc }) (m:=mk) hm ⟨rfl,rfl,rfl,rfl,rfl,rfl,rfl,rfl,rfl,hr4⟩;rcases hV with ⟨hR,rfl⟩|⟨o,n,hR,rfl,o5,lo,co⟩
  ·have ea:[AV.ag [AV.s [112,97+g.prods.length],.i .i64 ((left%g.nts.length:Nat):Int),.sn,fG (ax (gT ii g.nc)).1,.i .i64 ((ax (gT ii g.nc)).2:Int),.b false,.i .i64 0,.sn,.b false,.i .i64 0,.i .i64 0,.i .i64 0,.i .i64 0],.i .u8 (mk:Int)]=[.ag (cC { mV [112,97+g.prods.length] (left%g.nts.length) true (du g.nts.length bs) with cond:=gT ii g.nc }),.i .u8 (mk:Int)]:=by
    simp only[cC,mV,hR,jW,po]
   rw[ea];refine⟨ob.put 3 o3,(W0 c0'),(W0 c2),U0,aE S mp (n:=9) ?_ _⟩
   ·rw[af,pf];rfl
  ·obtain⟨vo,ho⟩:=P4 co;dsimp only at ho lo;have o3':(o=3)=False:=eq_false ω;refine⟨(ob.put 3 o3).put o .gone,(W0 c0'),(W0 c2),U0,yA (vo:=vo) (c:=(du g.nts.length bs).flatMap bS) (n:=9) S mp (U2 o3' ho) ?_⟩
   ·have hr0:du g.nts.length bs≠[]:=fun e=>by rw[e] at hR;cases hR
    rw[af,P2 (rn:=true) (right:=du g.nts.length bs) (by
     rw[um hr0,hR];exact dw (by exact U0) (jw nY _))]
    rfl
 obtain⟨ob',d0,d2,d3,mc⟩:=MC (.cells (v1+1) _) rfl;simp only[cC] at mc;refine E.con mc ?_;have d0':=d0;simp only[aL] at d0;have d3':cG (ob'.get 3)=some [AV.s [112,97+g.prods.length],.i .i64 ((left%g.nts.length:Nat):Int),V,fG (ax (gT ii g.nc)).1,.i .i64 ((ax (gT ii g.nc)).2:Int),.b false,.i .i64 0,.sn,.b false,.i .i64 0,.i .i64 0,.i .i64 0,.i .i64 0]:=by rw[d3];rfl
 have hl:(g.prods.flatMap cC).length=g.prods.length*13:=dG eG g.prods;have hpl:=ok.pl;have AP:∀nx ver t,cG (T.get t n1)=some [] ->pS ⟨nx,ver,t⟩ 13 (.sl n1 0 0 (some 0) 13) (eR cC 13 true g.prods)= .v (.sl nx 0 g.prods.length none 13) ⟨nx+1,ver,t.put nx (.cells ver (g.prods.flatMap cC))⟩:=by
  intro nx ver t ht;have hne:g.prods≠[]:=fun e=>by rw[e] at pn;simp at pn
  rw[um hne];obtain⟨n,hn⟩:∃n,g.prods.length=n+1:=⟨g.prods.length-1,by omega⟩;rw[hn];exact qD (gI (by rw[hl,hn])) (iJ P5 g.prods) ht ω
 have nk1:aJ 63 (eR bS 2 (qX g left ii mk bs).rn (qX g left ii mk bs).right)=true:=aT de;have nk2:aJ 63 (eR oM 3 (qX g left ii mk bs).ln (qX g left ii mk bs).lay)=true:=aT D9;refine TQ d0 d2 d3' t3 t4 t6 t8 @dv ncl @aD @nz AP hl nk1 nk2 @fW ?_;refine⟨9,?_⟩;rw[←hD];refine P3 (L:=g.prods++[qX g left ii mk bs]) ?_;have hne:g.prods++[qX g left ii mk bs]≠[]:=by simp
 rw[um hne,cX];refine dw (l:=(g.prods++[qX g left ii mk bs]).flatMap cC) ?_ (jw nZ _);have lt1:(n1+2+1=0)=False:=eq_false ω;have lt2:(n1+2+1=2)=False:=eq_false ω;simp only[T.get_put,lt1,lt2,if_false,if_true,dB];rw[ik,w7];rfl
set_option maxHeartbeats 4000000 in
def KU {C:cQ Prop} (S:aw P X GL fns) (E:gW P X GL fns C) (R:dr fns) (A:bh P X GL) (G:gf fns) (F:jM fns) {g:Gr} (ok:cM g) (pn:1<=g.prods.length) {left ii mk:Nat} {W:AV} {bs:List Nat} (hi:ii<256) (hm:mk<256) {kn:Bool} {τ:T AV} {h:AH} {D:AV} (hD: .ag (aL (jN g left ii mk bs kn))=D)
 (L:LI g W left ii mk [112,97+g.prods.length] (left%g.nts.length) (du g.nts.length bs) τ h) (t2:τ.get 2=some (.b kn)):dk C Cq [] (KF (fun x h=>∃n,aH n h x=some D) [(6,some (9,true))]) τ h:=by
 obtain⟨n1,v1,ob⟩:=h;obtain⟨c0,c1,c2,⟨V,c3,hV⟩,nx,t3,t4,t6,t7,t8,t9,t10⟩:=L;dsimp only at c0 c1 c2 c3;have c0':=c0;simp only[aL] at c0;simp only[cP] at c3;simp only[xC] at c1;have nx':5<=n1:=nx;have hr4:(du g.nts.length bs).length<=4:=by unfold du;rw[j9,fO];omega
 have tl:toks (du g.nts.length bs)<=4:=fq (List.length_filter_le _ _) hr4;by_cases hc:toks (du g.nts.length bs)=0/\ (kn=true∨jI (left%g.nts.length) (du g.nts.length bs)=false)
 ·have hg:jN g left ii mk bs kn=g:=if_pos hc;rw[hg] at hD;rw[hc.1] at t9;rcases hc.2 with hk|hl
  ·subst hk;refine F5 c0 c1 c2 c3 t2 t3 t4 t6 t7 t8 t9 t10 ?_;exact⟨9,by rw[←hD];exact EJ⟩
  ·rw[hl] at t10;cases kn;all_goals
    refine F5 c0 c1 c2 c3 t2 t3 t4 t6 t7 t8 t9 t10 ?_;exact⟨9,by rw[←hD];exact EJ⟩
 ·have hg:jN g left ii mk bs kn={ g with prods:=g.prods++[qX g left ii mk bs] }:=if_neg hc
  rw[hg] at hD;have ta:=fun τ'=>P6 (V:=V) S E R A G F ok pn (W:=W) (bs:=bs) (left:=left) (τ:=τ') hi hm hD c0' (by simp only[xC];exact c1) c2 (by simp only[cP];exact c3) hV nx'
  show dk C (.seq (.seq OW (.cond (.t 87) (.seq OX .ret) .skip)) (.seq Ck (.seq Cm (.seq Cn (.seq Co .ret))))) [] _ τ _;generalize (ap.seq Ck (.seq Cm (.seq Cn (.seq Co .ret))))=tl at ta ⊢;by_cases h0:toks (du g.nts.length bs)=0
  ·have hk:kn=false:=by cases kn with|false=>rfl|true=>exact absurd ⟨h0,.inl rfl⟩ hc
   have hl:jI (left%g.nts.length) (du g.nts.length bs)=true:=by
    cases hl:jI (left%g.nts.length) (du g.nts.length bs) with|true=>rfl|false=>exact absurd ⟨h0,.inr hl⟩ hc
   rw[h0] at t9;rw[hl] at t10;subst hk;refine F5 c0 c1 c2 c3 t2 t3 t4 t6 t7 t8 t9 t10 ?_;exact ta _ (by exact U1 t3) (by exact U1 t4) (by exact U1 t6) (by exact U1 t8)
  ·have hz:((toks (du g.nts.length bs):Int)=0)=False:=eq_false ω;refine QV c0 c1 c2 c3 t2 t3 t4 t6 t7 t8 t9 t10 hz ?_;exact ta _ (by exact U1 t3) (by exact U1 t4) (by exact U1 t6) (by exact U1 t8)
set_option maxHeartbeats 4000000 in
def KV (S:aw P X GL fns) (R:dr fns) (A:bh P X GL) (G:gf fns) (F:jM fns) {g:Gr} (ok:cM g) (pn:1<=g.prods.length) {left ii mk:Nat} {W:AV} {bs:List Nat} (hX:Su W bs) (hn:aJ 64 W=true) (hl:left<256) (hi:ii<256) (hm:mk<256) {kn:Bool}:aZ P X GL fns 17 [b9 g,.ag (xC left W ii mk),.b kn] (.ag (aL (jN g left ii mk bs kn))):=by
 generalize hD:AV.ag (aL (jN g left ii mk bs kn))=D;have hnl:=ok.ntl;have hpl:=ok.pl;have a97:aV .add (ι 97) (ι (g.prods.length:Int))=some (ι ((97+g.prods.length:Nat):Int)):=hY (a:=97) ω;have w97:bT .u8 ((97+g.prods.length:Nat):Int)=((97+g.prods.length:Nat):Int):=T9 ω;have wl:bT .i64 ((left:Nat):Int)=(left:Int):=fJ ω;have rl:aV .rem (ι (left:Int)) (ι (g.nts.length:Int))=some (ι ((left%g.nts.length:Nat):Int)):=dm ω;have B1:∀(h':AH) (o:Nat) (c:Option Nat),cG (h'.objs.get o)=some [.i .u8 ((97+g.prods.length:Nat):Int)] ->bsR h' (.sl o 0 1 c 1)= .v (.s [97+g.prods.length]) h':=fun h' o c hc=>Xc ω hc
 have a112:aV .add (.s [112]) (.s [97+g.prods.length])=some (.s [112,97+g.prods.length]):=rfl;refine aZ.intro fun C E=> ?_
 rw[aA E.ok (E.get F.f17)];have rp:=fun h=>aE S (Ky (name:=[112,97+g.prods.length]) (left:=left%g.nts.length) (rn:=true) (right:=[]) S R F) (n:=1) (by rfl) h
 simp only[jW,cC,mV] at rp;refine Yq @W7.eq_1 @b9.eq_1 @aL.eq_1 @xC.eq_1 @dv @bV a97 w97 wl rl @h0.eq_1 @Pe B1 a112 ?_;refine E.con (rp _) ?_;refine TP @W7.eq_1 @b9.eq_1 @aL.eq_1 @xC.eq_1 @dv @bV a97 w97 wl rl @h0.eq_1 @Pe B1 a112 @aD ?_;have tk0:toks []=0:=rfl;have lt0:∀a,jI a []=true:=fun _=>rfl
 refine aX E.ok (min bs.length 4) (fun i τ h=>LI g W left ii mk [112,97+g.prods.length] (left%g.nts.length) ((bs.take i).map (Ei g.nts.length)) τ h/\ τ.get 2=some (.b kn)/\ τ.get 11=some (ι (i:Int))) ?_ ?_ _ _ ⟨{ c0:= ?_,c1:= ?_,c2:= ?_,c3:=⟨.sn,?_,.inl ⟨rfl,rfl⟩⟩,nx:=by show 5<=5;omega,t3:= ?_,t4:= ?_,t6:= ?_,t7:= ?_,t8:= ?_,t9:= ?_,t10:= ?_ },?_,?_⟩
 ·rintro i τ h hi' ⟨L,t2,t11⟩ ih;have hb:i<bs.length:=by omega
  have et:=Ht (n:=g.nts.length) (bs:=bs) hi';rcases i with _|i
  ·exact Sw S E F ok hX hn _ L t2 t11 hb fun τ' h' L' s2 s11=>ih τ' h' ⟨by rw[et];exact L',s2,s11⟩
  ·exact Sx S E F ok hX hn (n:=i) (by rw[j9,fO];omega) _ L t2 t11 ω hb fun τ' h' L' s2 s11=>ih τ' h' ⟨by rw[et];exact L',s2,s11⟩
 ·rintro τ h ⟨L,t2,t11⟩;have e4:(bs.take (min bs.length 4)).map (Ei g.nts.length)=du g.nts.length bs:=by
   unfold du;congr 1;rcases Fh bs.length 4 with h|h
   ·rw[jp h,m8,ow h]
   ·rw[rM h]
  rw[e4] at L;have ta:=fun τ' h' L' t2'=>KU (W:=W) (bs:=bs) (left:=left) (kn:=kn) (τ:=τ') (h:=h') S E R A G F ok pn hi hm hD L' t2'
  obtain⟨n1,v1,ob⟩:=h;obtain⟨c0,c1,c2,⟨V,c3,hV⟩,nx,t3,t4,t6,t7,t8,t9,t10⟩:=L;dsimp only at c0 c1 c2 c3;have c1':=c1;simp only[xC] at c1;generalize Cq=c21 at ta ⊢;have fin:∀τ':T AV,τ'.get 2=τ.get 2 ->τ'.get 3=τ.get 3 ->τ'.get 4=τ.get 4 ->τ'.get 6=τ.get 6 ->τ'.get 7=τ.get 7 ->τ'.get 8=τ.get 8 ->τ'.get 9=τ.get 9 ->τ'.get 10=τ.get 10 ->dk C c21 [] (KF (fun x h=>∃n,aH n h x=some D) [(6,some (9,true))]) τ' ⟨n1,v1,ob⟩:=fun τ' s2 s3 s4 s6 s7 s8 s9 s10=>
   ta τ' _ { c0:=c0,c1:=c1',c2:=c2,c3:=⟨V,c3,hV⟩,nx:=nx,t3:=by rw[s3,t3],t4:=by rw[s4,t4],t6:=by rw[s6,t6],t7:=by rw[s7,t7],t8:=by rw[s8,t8],t9:=by rw[s9,t9],t10:=by rw[s10,t10] } (by rw[s2,t2])
  rcases hX with ⟨hlt,⟨rfl,rfl⟩|⟨Lw,rfl,hL⟩⟩
  ·simp only[jL,Fj,po] at t11;refine QV c0 c1 c2 c3 t2 t3 t4 t6 t7 t8 t9 t10 t11 ?_;apply fin<;>exact U0
  ·by_cases h4:bs.length<=4
   ·rw[jp h4] at t11;have hz:((bs.length:Int)<(bs.length:Int))=False:=eq_false ω;refine Yq c0 c1 c2 c3 t2 t3 t4 t6 t7 t8 t9 t10 t11 hz ?_;apply fin<;>exact U0
   ·rw[rM ω] at t11;have hz:(((4:Nat):Int)<(bs.length:Int))=True:=eq_true ω;have hz2:((4:Int)<(bs.length:Int))=True:=eq_true ω;have hz3:4<bs.length:=by omega
    have t11':τ.get 11=some (ι 4):=t11;refine TQ c0 c1 c2 c3 t2 t3 t4 t6 t7 t8 t9 t10 t11' hz hz2 hz3 ?_;apply fin<;>exact U0
 ·exact U1 @aL.eq_1
 ·exact U1 @xC.eq_1
 ·exact U0
 ·exact U1 @cP.eq_1
 all_goals first|(simp only[T.get_put,Nat.reduceEqDiff,reduceIte,po];done)|rfl
end
def Lg (k a b c ii:Nat):List AV:=[.i .u8 (k:Int),.i .u8 (a:Int),.i .u8 (b:Int),.i .u8 (c:Int),.i .u8 (ii:Int)]
def KW (g:Gr) (a b c ii:Nat):Lv:=
 ⟨if b%g.prods.length≠a%g.prods.length/\ yD g.lvs (b%g.prods.length)=false then [a%g.prods.length,b%g.prods.length] else [a%g.prods.length],c%4,gT ii g.nc⟩
def E4 (g:Gr) (k a b c ii:Nat):Fi:=
 if k%8<4 then ⟨k%8-1,a%g.prods.length,c%16,b%g.prods.length,0,0,[],true,gT ii g.nc⟩
 else if k%8<6 then ⟨k%8-1,0,0,0,a%g.nts.length,0,[b%9],true,gT ii g.nc⟩
 else ⟨5,0,0,0,0,0,[5],true,gT ii g.nc⟩
def kJ (g:Gr) (k a b c ii:Nat):Gr:=
 if k%8<2 then (if yD g.lvs (a%g.prods.length)=true then g else { g with lvs:=g.lvs++[KW g a b c ii] })
 else if k%8=7 then { g with tc:=g.tc.set (a%9) (gT ii g.nc) }
 else if k%8<4/\ mF g (E4 g k a b c ii)=false then g else { g with fis:=g.fis++[E4 g k a b c ii] }
def EL {c a b r:List AV}:∀{j:Nat},bD c a j=some r ->bD c (a++b) j=some (r++b):=by
 intro j h;obtain⟨hl,hr⟩:=jr h;rw[lP,if_pos (by rw[cX];omega),hr,Lj ω,Ts ω];simp only[jO]
def AN {α:Type} {enc:α ->List AV} {k:Nat} (hk:∀a,(enc a).length=k) {c:List AV} {j:Nat} {x y:α} (h:bD c (enc x) j=some (enc y)):∀{L:List α} {i:Nat},L[i]? =some x ->bD c (L.flatMap enc) (i*k+j)=some ((L.set i y).flatMap enc)
 |[],i,hi=>by cases hi
 |a::L,0,hi=>by
  injection hi with hi;subst hi
  rw[nD,wZ,fL,EL h];rfl
 |a::L,i+1,hi=>by
  have e:(i+1)*k+j=(enc a).length+(i*k+j):=by rw[hk,zr];omega
  rw[nD,e,sK,AN hk h (L:=L) (i:=i) hi];rfl
def SQ {α:Type} {L:List α} {i:Nat} {x:α}:(L.set i x).zipIdx=L.zipIdx.set i (x,i):=by
 apply y6;intro j;rw[HT,pu,pu,lC,HT];by_cases h:i=j
 ·subst h;by_cases h2:i<L.length<;>simp[h2]
 ·simp[h]
def SR {tc:List Tr} {i:Nat} {d:Tr} (hi:i<tc.length):bD [fG (ax d).1,.i .i64 ((ax d).2:Int)] (tc.zipIdx.flatMap iI) (i*7+5)=some ((tc.set i d).zipIdx.flatMap iI):=by
 rw[SQ];refine AN (x:=(tc[i],i)) ic rfl ?_;rw[HT,ba hi];simp
def P7 {α:Type} {enc:α ->List AV} {k:Nat} (hk:∀a,(enc a).length=k) (hs:∀a,cE (enc a)=true) {L:List α} (hne:L≠[]) (hl:L.length<=1000) {nl:Bool} (o nx ver:Nat) (t:T aU) (ht:cG (t.get o)=some []):
 pS ⟨nx,ver,t⟩ k (.sl o 0 0 (some 0) k) (eR enc k nl L)= .v (.sl nx 0 L.length none k) ⟨nx+1,ver,t.put nx (.cells ver (L.flatMap enc))⟩:=by
 rw[um hne];obtain⟨n,hn⟩:∃n,L.length=n+1:=⟨L.length-1,by have:=E7.2 hne;omega⟩;rw[hn];exact qD (gI (by rw[dG hk,hn])) (iJ hs L) ht ω
def P8 (x:Tr×Nat):cE (iI x)=true:=by
 simp only[iI,gM,kw,iH,fz];rfl
def P9 (x:Lv):cE (qU x)=true:=by
 simp only[qU,gM,kw,iH,fz];rfl
def Qa (x:Fi):cE (jx x)=true:=by
 simp only[jx,gM,kw,iH,fz];rfl
def AO {n:Nat} {h:AH}:∀{a b a' b':List AV},aK n h a=some a' ->aK n h b=some b' ->aK n h (a++b)=some (a'++b')
 |[],b,a',b',h1,h2=>by injection h1 with h1;subst h1;exact h2
 |x::a,b,a',b',h1,h2=>by
  rw[af] at h1;rw[nF,af];cases hx:aH n h x with
  |none=>rw[hx] at h1;cases h1
  |some y=>
   cases ha:aK n h a with
   |none=>rw[hx,ha] at h1;cases h1
   |some r=>rw[hx,ha] at h1;injection h1 with h1;subst h1;rw[AO ha h2];rfl
def dS {α:Type} {enc:α ->List AV} {k n:Nat} {h:AH} {o:Nat} {L:List α} {x:α} {xs:List AV} {c:Option Nat} (hd:∀a,aK n h (enc a)=some (enc a)) (hx:aK n h xs=some (enc x)) (hc:cG (h.objs.get o)=some (L.flatMap enc++xs)):
 aH (n+1) h (.sl o 0 (L.length+1) c k)=some (eR enc k true (L++[x])):=by
 rw[um (by simp),cX,ik,w7];exact dw hc (AO (jw hd L) hx)
def qN {n:Nat} {h:AH} {V:AV} {ps:List Nat} {a_:Nat} {st:Tr} (hx:aH (n+1) h V=some (eR cI 1 true ps)):aK (n+1) h [V,.i .i64 (a_:Int),fG (ax st).1,.i .i64 ((ax st).2:Int)]=some (qU ⟨ps,a_,st⟩):=by
 simp only[qU,af,ay,dc,gw,hx]
def iK {n:Nat} {h:AH} {V:AV} {f:Fi} (hx:aH (n+1) h V=some (eR cI 1 f.tn f.toks)):aK (n+1) h [.i .i64 (f.kind:Int),.i .i64 (f.par:Int),.i .i64 (f.at_:Int),.i .i64 (f.child:Int),.i .i64 (f.left:Int),.i .i64 (f.tok:Int),V,fG (ax f.cond).1,.i .i64 ((ax f.cond).2:Int)]=some (jx f):=by
 simp only[jx,af,ay,dc,gw,hx]
def eQ {h:AH} {nc:Nat} {cx:List (List Nat)} {fam:Tr} {tc:List Tr} {nts nx:List (List Nat)} {ps:List Pr} {lvs:List Lv} {fis:List Fi} {VT VL VF:AV} (hT:aH 8 h VT=some (eR iI 7 true tc.zipIdx)) (hL:aH 8 h VL=some (eR qU 4 true lvs)) (hF:aH 8 h VF=some (eR jx 9 true fis)):
 aH 9 h (.ag [eX (bW nc) (cx.map AV.s),fG (ax fam).1,.i .i64 ((ax fam).2:Int),VT,eX nts (nx.map AV.s),eR cC 13 true ps,.i .i64 0,VL,VF])=some (.ag (aL ⟨nc,cx,fam,tc,nts,nx,ps,lvs,fis⟩)):=by
 have e:aK 8 h [eX (bW nc) (cx.map AV.s),fG (ax fam).1,.i .i64 ((ax fam).2:Int),VT,eX nts (nx.map AV.s),eR cC 13 true ps,.i .i64 0,VL,VF]=some (aL ⟨nc,cx,fam,tc,nts,nx,ps,lvs,fis⟩):=by
  simp only[aL,af,ay,dc,gw (n:=7),qB (n:=7),hT,hL,hF,aM (n:=7) nZ]
 have e1:∀l,aH 9 h (.ag l)=(match aK 8 h l with|some l=>some (AV.ag l)|none=>none):=fun _=>rfl
 rw[e1,e]
section
variable {P:Program} {X:dy} {GL:T (List AV)} {fns:T aR}
def Jf (S:aw P X GL fns) (F:jM fns) {g:Gr} {p:Nat} (ok:cM g) (h:AH):dq P X GL 43 [b9 g,.i .i64 (p:Int)] h (.b (yD g.lvs p)) h:=ez S (fun n h=>by simp only[af,ay,dc]) (Pd S F ok) h
set_option maxHeartbeats 4000000 in
def ac2 {C:cQ Prop} (S:aw P X GL fns) (E:gW P X GL fns C) (R:dr fns) (A:bh P X GL) (G:gf fns) (F:jM fns) {g:Gr} (ok:cM g) (pn:1<=g.prods.length) {k a b c ii:Nat} (hk:k<256) (ha:a<256) (hb:b<256) (hc:c<256) (hi:ii<256) {D:AV} (hD: .ag (aL (kJ g k a b c ii))=D) (k7:k%8=7):bZ C 18 [b9 g,.ag (Lg k a b c ii)] h0 fun x h=>∃n,aH n h x=some D:=by
 have hpl:=ok.pl;have ncl:=mI ok.nc;have r8:aV .rem (.i .u8 (k:Int)) (.i .u8 8)=some (.i .u8 ((k%8:Nat):Int)):=oO (c:=8) ω;have wa:bT .i64 (a:Int)=(a:Int):=fJ ω;have ra:aV .rem (ι (a:Int)) (ι (g.prods.length:Int))=some (ι ((a%g.prods.length:Nat):Int)):=dm ω;have r9:aV .rem (ι (a:Int)) (ι 9)=some (ι ((a%9:Nat):Int)):=dm (c:=9) ω;have sp:=fun h=>aE S (uc (GL:=GL) S R A F (b:=ii) hi ok.nc) (n:=1) (by rfl) h
 simp only[eT,eD] at sp;rw[aA E.ok (E.get F.f18)];refine WE @Sh.eq_1 @b9.eq_1 @aL.eq_1 @Lg.eq_1 @dv @bV ncl wa ra r8 @h0.eq_1 ?_;refine E.con (sp _) ?_;have hz:g.tc.zipIdx.length=11:=by rw[lC,ok.tcl]
 have AP:=P7 (nl:=true) (L:=g.tc.zipIdx) ic P8 (fun e=>by rw[e] at hz;cases hz) ω;rw[hz] at AP;have ov:=SR (tc:=g.tc) (i:=a%9) (d:=gT ii g.nc) (by rw[ok.tcl];omega);refine F5 @dv @bV ncl wa ra r9 r8 k7 @aD @nz AP ov ?_;refine⟨9,?_⟩;have hg:kJ g k a b c ii={ g with tc:=g.tc.set (a%9) (gT ii g.nc) }:=by unfold kJ;rw[if_neg ω,if_pos k7]
 rw[←hD,hg];have hz2:(g.tc.set (a%9) (gT ii g.nc)).zipIdx.length=11:=by rw[lC,Fa,ok.tcl]
 refine eQ ?_ (aM (n:=7) dR) (aM (n:=7) da);rw[um (L:=(g.tc.set (a%9) (gT ii g.nc)).zipIdx) (fun e=>by rw[e] at hz2;cases hz2),hz2];exact dw rfl (jw dz _)
set_option maxHeartbeats 8000000 in
def Xp {C:cQ Prop} (S:aw P X GL fns) (E:gW P X GL fns C) (R:dr fns) (A:bh P X GL) (G:gf fns) (F:jM fns) {g:Gr} (ok:cM g) (pn:1<=g.prods.length) {k a b c ii:Nat} (hk:k<256) (ha:a<256) (hb:b<256) (hc:c<256) (hi:ii<256) {D:AV} (hD: .ag (aL (kJ g k a b c ii))=D) (k7:k%8<2):bZ C 18 [b9 g,.ag (Lg k a b c ii)] h0 fun x h=>∃n,aH n h x=some D:=by
 have hpl:=ok.pl;have hll:=ok.ll;have ncl:=mI ok.nc;have r8:aV .rem (.i .u8 (k:Int)) (.i .u8 8)=some (.i .u8 ((k%8:Nat):Int)):=oO (c:=8) ω;have r4:aV .rem (.i .u8 (c:Int)) (.i .u8 4)=some (.i .u8 ((c%4:Nat):Int)):=oO (c:=4) ω;have wa:bT .i64 (a:Int)=(a:Int):=fJ ω;have wb:bT .i64 (b:Int)=(b:Int):=fJ ω;have wc:bT .i64 ((c%4:Nat):Int)=((c%4:Nat):Int):=fJ ω;have ra:aV .rem (ι (a:Int)) (ι (g.prods.length:Int))=some (ι ((a%g.prods.length:Nat):Int)):=dm ω;have rb:aV .rem (ι (b:Int)) (ι (g.prods.length:Int))=some (ι ((b%g.prods.length:Nat):Int)):=dm ω;have sp:=fun h=>aE S (uc (GL:=GL) S R A F (b:=ii) hi ok.nc) (n:=1) (by rfl) h
 have la:=fun h=>Jf (GL:=GL) S F (p:=a%g.prods.length) ok h
 have lb:=fun h=>Jf (GL:=GL) S F (p:=b%g.prods.length) ok h
 simp only[eT,eD] at sp;simp only[b9,aL] at la lb;rw[aA E.ok (E.get F.f18)];refine WE @Sh.eq_1 @b9.eq_1 @aL.eq_1 @Lg.eq_1 @dv @bV ncl wa ra r8 @h0.eq_1 ?_;refine E.con (sp _) ?_;rw[kJ,if_pos k7] at hD;have AP:=fun (h:g.lvs≠[])=>P7 (nl:=true) (L:=g.lvs) tY P9 h ω
 have hl:(g.lvs.flatMap qU).length=g.lvs.length*4:=dG tY g.lvs;rcases(show k%8=0∨k%8=1 by omega) with k0|k0;all_goals
  refine Z8 @dv @bV ncl wa ra r8 k0 @aD ?_;refine E.con (la _) ?_;cases hla:yD g.lvs (a%g.prods.length) with
  |true=>
   rw[hla,if_pos rfl] at hD;refine Z8 @dv @bV ncl wa ra r8 k0 @aD ?_;exact⟨9,by rw[←hD];exact EJ⟩
  |false=>
   rw[hla,if_neg (by decide)] at hD;by_cases hpq:b%g.prods.length=a%g.prods.length
   ·have hq':(((b%g.prods.length:Nat):Int)=((a%g.prods.length:Nat):Int))=True:=eq_true ω;refine QV @dv @bV ncl wa wb wc ra rb r4 r8 k0 hq' @aD ?_;have el:KW g a b c ii=⟨[a%g.prods.length],c%4,gT ii g.nc⟩:=by unfold KW;rw[if_neg (fun h=>h.1 hpq)]
    by_cases hlv:g.lvs=[]
    ·have AP0:∀h o,pS h 4 (.sl o 0 0 (some 0) 4) (eR qU 4 true g.lvs)= .v (.sl o 0 0 (some 0) 4) h:=fun h o=>by rw[hlv];rfl
     refine TP @dv @bV ncl wa wb wc ra rb r4 r8 k0 hq' @aD @nz AP0 ?_;refine⟨9,?_⟩;rw[←hD,el,show g.lvs++[(⟨[a%g.prods.length],c%4,gT ii g.nc⟩:Lv)]=[]++[(⟨[a%g.prods.length],c%4,gT ii g.nc⟩:Lv)] by rw[hlv]];exact eQ (aM (n:=7) dz) (dS (n:=7) (L:=[]) dR (qN (n:=6) (ps:=[a%g.prods.length]) (dw rfl rfl)) rfl) (aM (n:=7) da)
    ·refine TQ @dv @bV ncl wa wb wc ra rb r4 r8 k0 hq' @aD @nz (AP hlv) hl ?_;refine⟨9,?_⟩;rw[←hD,el];exact eQ (aM (n:=7) dz) (dS (n:=7) (L:=g.lvs) dR (qN (n:=6) (ps:=[a%g.prods.length]) (dw rfl rfl)) rfl) (aM (n:=7) da)
   ·have hq':(((b%g.prods.length:Nat):Int)=((a%g.prods.length:Nat):Int))=False:=eq_false ω;refine QV @dv @bV ncl wa wb wc ra rb r4 r8 k0 hq' @aD ?_;refine E.con (lb _) ?_;cases hlb:yD g.lvs (b%g.prods.length) with
    |true=>
     have el:KW g a b c ii=⟨[a%g.prods.length],c%4,gT ii g.nc⟩:=by unfold KW;rw[if_neg (fun h=>by rw[hlb] at h;cases h.2)]
     by_cases hlv:g.lvs=[]
     ·have AP0:∀h o,pS h 4 (.sl o 0 0 (some 0) 4) (eR qU 4 true g.lvs)= .v (.sl o 0 0 (some 0) 4) h:=fun h o=>by rw[hlv];rfl
      refine TP @dv @bV ncl wa wb wc ra rb r4 r8 k0 hq' @aD @nz AP0 ?_;refine⟨9,?_⟩;rw[←hD,el,show g.lvs++[(⟨[a%g.prods.length],c%4,gT ii g.nc⟩:Lv)]=[]++[(⟨[a%g.prods.length],c%4,gT ii g.nc⟩:Lv)] by rw[hlv]];exact eQ (aM (n:=7) dz) (dS (n:=7) (L:=[]) dR (qN (n:=6) (ps:=[a%g.prods.length]) (dw rfl rfl)) rfl) (aM (n:=7) da)
     ·refine TQ @dv @bV ncl wa wb wc ra rb r4 r8 k0 hq' @aD @nz (AP hlv) hl ?_;refine⟨9,?_⟩;rw[←hD,el];exact eQ (aM (n:=7) dz) (dS (n:=7) (L:=g.lvs) dR (qN (n:=6) (ps:=[a%g.prods.length]) (dw rfl rfl)) rfl) (aM (n:=7) da)
    |false=>
     have el:KW g a b c ii=⟨[a%g.prods.length,b%g.prods.length],c%4,gT ii g.nc⟩:=by unfold KW;rw[if_pos ⟨hpq,hlb⟩]
     by_cases hlv:g.lvs=[]
     ·have AP0:∀h o,pS h 4 (.sl o 0 0 (some 0) 4) (eR qU 4 true g.lvs)= .v (.sl o 0 0 (some 0) 4) h:=fun h o=>by rw[hlv];rfl
      refine TP @dv @bV ncl wa wb wc ra rb r4 r8 k0 hq' @aD @nz AP0 ?_;refine⟨9,?_⟩;rw[←hD,el,show g.lvs++[(⟨[a%g.prods.length,b%g.prods.length],c%4,gT ii g.nc⟩:Lv)]=[]++[(⟨[a%g.prods.length,b%g.prods.length],c%4,gT ii g.nc⟩:Lv)] by rw[hlv]];exact eQ (aM (n:=7) dz) (dS (n:=7) (L:=[]) dR (qN (n:=6) (ps:=[a%g.prods.length,b%g.prods.length]) (dw rfl rfl)) rfl) (aM (n:=7) da)
     ·refine TQ @dv @bV ncl wa wb wc ra rb r4 r8 k0 hq' @aD @nz (AP hlv) hl ?_;refine⟨9,?_⟩;rw[←hD,el];exact eQ (aM (n:=7) dz) (dS (n:=7) (L:=g.lvs) dR (qN (n:=6) (ps:=[a%g.prods.length,b%g.prods.length]) (dw rfl rfl)) rfl) (aM (n:=7) da)
end
end
end AM
