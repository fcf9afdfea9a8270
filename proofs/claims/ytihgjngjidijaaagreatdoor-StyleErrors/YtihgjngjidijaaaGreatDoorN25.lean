import Derived.Test.YtihgjngjidijaaaGreatDoorN17
import Derived.Test.YtihgjngjidijaaaGreatDoorN24
set_option linter.all false
set_option maxHeartbeats 8000000
namespace AM
open Dg Go
noncomputable section
def To {h:AH} {esz o k n L} (hc2:cG (h.oB.get k)=some L) (hL:L.length=(n+1)*esz) (hs:cF L=true) (hc:cG (h.oB.get o)=some []) (hn:n+1<=1048576):
 gU h esz (.sl o 0 0 (some 0) esz) (.sl k 0 (n+1) none esz)= .v (.sl h.next 0 (n+1) none esz) ⟨h.next+1,h.ver,h.oB.put h.next (.cells h.ver L)⟩:=by
 have e1:eI h esz (.sl k 0 (n+1) none esz)=some L:=wH (show h.cells k=some L from hc2) (mM hL);show(match ij (.sl k 0 (n+1) none esz),eI h esz (.sl k 0 (n+1) none esz) with|some n',some l=>gD h (.sl o 0 0 (some 0) esz) n' l esz|_,_=> .bad)=_;rw[e1];show gD h (.sl o 0 0 (some 0) esz) (n+1) L esz=_;have e:gD h (.sl o 0 0 (some 0) esz) (n+1) L esz=(match h.cells o with
  |none=>ay.bad
  |some l=>fN (0+(n+1)) λneed=>bif !(Nat.beq esz esz&&(Nat.ble need 1048576&&cF L)) then .bad else
   bif Nat.ble need 0 then
    match dW L l (0+0*esz) with
    |some l'=>h.put o (.cells (Nat.succ h.ver) l') λh=> .v (.sl o 0 need (some 0) esz) h
    |none=> .bad
   else match sub l 0 (0*esz) with
    |some old=>match fy old L with
     |some l=>h.new (.cells h.ver l) λo h=> .v (.sl o 0 need none esz) h
     |none=> .bad
    |none=> .bad):=rfl
 have hc':h.cells o=some []:=hc;have z:sub ([]:List AV) 0 0=some []:=rfl;rw[e,hc'];simp only[dT,bu,dm,gB,hn,hs,mC,g9,jk,eU,ue,z,jz,gx,AH.new_eq];have q:decide (n+1<=0)=false:=by simp
 simp only[q,eU]
def Tp (r:Ru):cF (cM r)=true:=rfl
def rq (h:AH) (R:List Ru) (v:AV):Prop:=(R=[]/\ v= .sn)∨∃o n,R.length=n+1/\ v= .sl o 0 (n+1) none 4/\ o<h.next/\ cG (h.oB.get o)=some (R.flatMap cM)
variable {P:Program} {X:aR} {GL:T (List AV)} {ae:T au}
abbrev EV:List Fr:=[.s (.cond (.t 83) DH .skip),.b 1,.s Pv,.s (.loop yx),.b 0,.s (.seq yz .ret)]
def sM {α:Type} {enc:α ->List AV} {k:Nat} {nl:Bool}:∀{L:List α},L≠[] ->eR enc k nl L= .ds (L.flatMap enc) 0 L.length k
 |[],h=>bh rfl h
 |a::L,_=>yT
variable (S:aT P X GL ae) {C:aK Prop} (E:Sem P X GL ae C)
def aX4 (F:li ae) {g:Gr} (G:ce g) {L:List AV} {kk:Nat} (x:Ru) {m q i:Nat} {τ:T AV} {h:AH} (K:K Prop)
 (c0:cG (h.oB.get m)=some (ar g)) {ob:T bC} (old:∀j,j<m ->h.oB.get j=ob.get j) (cx:cG (h.oB.get q)=some (cM x)) (lq:q<h.next) (lm:m<q) (hi:i<100)
 (t1:τ.get 1=some (.ds L 0 kk 1)) (t2:τ.get 2=some (.p m 0)) (t5:τ.get 5=some .sn) (t6:τ.get 6=some (ι (i:Int))) (t7:τ.get 7=some (.p q 0))
 (ih:∀R v τ' h',(R.length<=1/\ iG g R=true) ->h.next<=h'.next ->(∀j,j<m ->h'.oB.get j=ob.get j) ->cG (h'.oB.get m)=some (ar g) ->rq h' R v ->(∀o n,v= .sl o 0 (n+1) none 4 ->m<o) ->τ'.get 1=some (.ds L 0 kk 1) ->τ'.get 2=some (.p m 0) ->τ'.get 5=some v ->τ'.get 6=some (ι ((i+3:Nat):Int)) ->
  df C (.loop yx) [.b 0,.s (.seq yz .ret)] K τ' h'):df C AY EV K τ h:=by
 obtain⟨n1,v1,aQ⟩:=h;dsimp only at c0 cx lq ih old;have de:=c0;have cx':=cx;have vc:=λ(R:List Ru) (nl:Bool) (hR:R.length<=1000)=>Km (nl:=nl) S F G hR;have bq:=iW (g:=g);simp only[ar] at c0 bq;simp only[cM] at cx;unfold AY;have A1:∀h',gU h' 4 (.sl n1 0 0 (some 0) 4) .sn= .v (.sl n1 0 0 (some 0) 4) h':=λh'=>rfl;refine qt @EV.eq_1 c0 cx t1 t2 t5 t6 t7 bq @iP A1 @JT @JU ?_;have hd:∀(v:Nat) (t:T bC),t.get (n1+2)=some (.cells v (cM x)) ->bP P X GL 46 [aI g,.sl (n1+2) 0 1 none 4] ⟨n1+2+1,v1+1+1,t⟩ (.b (iG g [x])) ⟨n1+2+1,v1+1+1,t⟩:=λv t ht=>
  oE (m:=1) (n:=9) S (vc [x] false (by simp)) (by
   have e:deep 9 ⟨n1+2+1,v1+1+1,t⟩ (.sl (n1+2) 0 1 none 4)=some (eR cM 4 false [x]):=by
    show(match t.get (n1+2) with|some (.cells _ l)=>(match bJ 8 _ l with|some l=>some (AV.ds l 0 1 4)|none=>none)|_=>none)=_;rw[ht];dsimp only;rw[BB];rfl
   rw[aL,aL,bZ,kq,e]) rfl
 simp only[aI,ar] at hd;refine E.cN (hd (v1+1+1) _ (by exact U0)) ?_;have a3:aY .add (ι (i:Int)) (ι 3)=some (ι ((i+3:Nat):Int)):=oH (b:=3) ω;cases hv:iG g [x] with
 |false=>
  refine Z9 c0 cx t1 t2 t5 t6 t7 bq a3 ?_;refine ih [] .sn _ _ ⟨by simp,rfl⟩ (show n1<=n1+2+1 by omega) (λj hj=>by exact W0 (old j hj)) ?_ (.inl ⟨rfl,rfl⟩) (λo n e=>by cases e) ?_ ?_ ?_ ?_
  ·exact W0 de
  all_goals exact U3 t1 t2 t5
 |true=>
  unfold DH;refine qX c0 cx t1 t2 t5 t6 t7 bq a3 @iP ?_;refine ih [x] (.sl (n1+2+1+1) 0 (0+1) none 4) _ _ ⟨by simp,hv⟩ (show n1<=n1+2+1+1+1 by omega) (λj hj=>by exact W0 (old j hj)) ?_ (.inr ⟨n1+2+1+1,0,rfl,rfl,by show n1+2+1+1<n1+2+1+1+1;omega,?_⟩) (λo n e=>by cases e;omega) ?_ ?_ ?_ ?_
  ·exact W0 de
  ·exact U0
  all_goals exact U3 t1 t2 t5
def aX5 (F:li ae) {g:Gr} (G:ce g) {L:List AV} {kk:Nat} (x:Ru) {R:List Ru} {o n:Nat} (hR:R.length=n+1) (hRv:iG g R=true) (hn:n<=100) {m q i:Nat} {τ:T AV} {h:AH} (K:K Prop)
 (c0:cG (h.oB.get m)=some (ar g)) {ob:T bC} (old:∀j,j<m ->h.oB.get j=ob.get j) (cx:cG (h.oB.get q)=some (cM x)) (co:cG (h.oB.get o)=some (R.flatMap cM)) (lo:o<h.next) (mo:m<o) (oq:o≠q) (lq:q<h.next) (lm:m<q) (hi:i<100)
 (t1:τ.get 1=some (.ds L 0 kk 1)) (t2:τ.get 2=some (.p m 0)) (t5:τ.get 5=some (.sl o 0 (n+1) none 4)) (t6:τ.get 6=some (ι (i:Int))) (t7:τ.get 7=some (.p q 0))
 (ih:∀R' v τ' h',(R'.length<=n+2/\ iG g R'=true) ->h.next<=h'.next ->(∀j,j<m ->h'.oB.get j=ob.get j) ->cG (h'.oB.get m)=some (ar g) ->rq h' R' v ->(∀o n,v= .sl o 0 (n+1) none 4 ->m<o) ->τ'.get 1=some (.ds L 0 kk 1) ->τ'.get 2=some (.p m 0) ->τ'.get 5=some v ->τ'.get 6=some (ι ((i+3:Nat):Int)) ->
  df C (.loop yx) [.b 0,.s (.seq yz .ret)] K τ' h'):df C AY EV K τ h:=by
 obtain⟨n1,v1,aQ⟩:=h;dsimp only at c0 cx co lo lq ih old;have de:=c0;have cx':=cx;have vc:=λ(R:List Ru) (nl:Bool) (hR:R.length<=1000)=>Km (nl:=nl) S F G hR;have bq:=iW (g:=g);simp only[ar] at c0 bq;simp only[cM] at cx;unfold AY;have hl:(R.flatMap cM).length=(n+1)*4:=by rw[kh zc,hR]
 have A1:∀nx ver t,cG (T.get t o)=some (R.flatMap cM) ->cG (T.get t n1)=some [] ->gU ⟨nx,ver,t⟩ 4 (.sl n1 0 0 (some 0) 4) (.sl o 0 (n+1) none 4)= .v (.sl nx 0 (n+1) none 4) ⟨nx+1,ver,t.put nx (.cells ver (R.flatMap cM))⟩:=
  λnx ver t h1 h2=>To h1 hl (w7 Tp R) h2 ω
 refine qt @EV.eq_1 c0 cx co t1 t2 t5 t6 t7 bq @iP A1 hl ?_;have fl:(R++[x]).flatMap cM=R.flatMap cM++cM x:=by rw[jl,pO]
 have hd:∀(v v':Nat) (t:T bC),t.get (n1+2+1)=some (.cells v (R.flatMap cM++cM x)) ->bP P X GL 46 [aI g,.sl (n1+2+1) 0 (n+1+1) none 4] ⟨n1+2+1+1,v',t⟩ (.b (iG g (R++[x]))) ⟨n1+2+1+1,v',t⟩:=λv v' t ht=>
  oE (m:=1) (n:=9) S (vc (R++[x]) false (by simp;omega)) (by
   have e:deep 9 ⟨n1+2+1+1,v',t⟩ (.sl (n1+2+1) 0 (n+1+1) none 4)=some (eR cM 4 false (R++[x])):=by
    show(match t.get (n1+2+1) with|some (.cells _ l)=>(match bJ 8 _ l with|some l=>some (AV.ds l 0 (n+1+1) 4)|none=>none)|_=>none)=_;rw[ht,sM (by simp)];dsimp only;rw[←fl,qZ BB,dy,hR];rfl
   rw[aL,aL,bZ,kq,e]) rfl
 simp only[aI,ar] at hd;refine E.cN (hd (v1+1+1+1) _ _ (by exact U0)) ?_;have a3:aY .add (ι (i:Int)) (ι 3)=some (ι ((i+3:Nat):Int)):=oH (b:=3) ω;cases hv:iG g (R++[x]) with
 |false=>
  refine qX c0 cx co t1 t2 t5 t6 t7 bq a3 ?_;refine ih R (.sl o 0 (n+1) none 4) _ _ ⟨by omega,hRv⟩ (show n1<=n1+2+1+1 by omega) (λj hj=>by exact W0 (old j hj)) ?_ (.inr ⟨o,n,hR,rfl,show o<n1+2+1+1 by omega,?_⟩) (λo' n' e=>by cases e;exact mo) ?_ ?_ ?_ ?_
  ·exact W0 de
  ·exact W0 co
  all_goals exact U3 t1 t2 t5
 |true=>
  unfold DH;refine lX c0 cx co t1 t2 t5 t6 t7 bq a3 @iP hl ?_;refine ih (R++[x]) (.sl (n1+2+1+1+1) 0 (n+1+1) none 4) _ _ ⟨by simp;omega,hv⟩ (show n1<=n1+2+1+1+1+1 by omega) (λj hj=>by exact W0 (old j hj)) ?_ (.inr ⟨n1+2+1+1+1,n+1,by simp[hR],rfl,by show n1+2+1+1+1<n1+2+1+1+1+1;omega,?_⟩) (λo n e=>by cases e;omega) ?_ ?_ ?_ ?_
  ·exact W0 de
  ·simp(disch:=omega) only[dh,T.get_put,dZ,d9];rw[fl];rfl
  all_goals exact U3 t1 t2 t5
def aX6 (F:li ae) {g:Gr} (G:ce g) (pn:1<=g.pR.length) {L:List AV} {kk:Nat} (hb:∀i,i<kk ->∃b:Nat,b<256/\ L[i]? =some (.i .u8 (b:Int))) (hk6:kk<=36) (nkL:nice 64 (.ds L 0 kk 1)=true) (h:AH) (k:AV ->AH ->Prop)
 (hk:∀R v h',(R.length<=12/\ iG g R=true) ->rq h' R v ->h.next<=h'.next ->(∀j,j<h.next ->h'.oB.get j=h.oB.get j) ->(∀o n,v= .sl o 0 (n+1) none 4 ->h.next<=o) ->k v h'):du C 13 [aI g,.ds L 0 kk 1] h k:=by
 obtain⟨m,ver,ob⟩:=h;have bq:=iW (g:=g);simp only[ar] at bq;have pl:=G.pl;refine E.bS F.f13 (Y5 @HO.eq_1 @aI.eq_1 @ar.eq_1 bq nkL ?_);have ia:∀h j,j<kk ->nU h 1 j (.ds L 0 kk 1)= .v (.dp L (j*1)) h:=λh j hj=>by rw[yR,aF ⟨rfl,hj⟩,gB]
 have nkp:∀j,nice 64 (.dp L j)=true:=λj=>by rw[fK];rw[nN] at nkL;exact nkL
 have lL:∀h,kg h (.ds L 0 kk 1)= .v (ι (kk:Int)) h:=λh=>rfl;have r4:∀a:Nat,aY .rem (ι (a:Int)) (ι 4)=some (ι ((a%4:Nat):Int)):=λa=>iA (c:=4) ω;have r8:∀a:Nat,aY .rem (ι (a:Int)) (ι 8)=some (ι ((a%8:Nat):Int)):=λa=>iA (c:=8) ω;have r3:∀a:Nat,aY .rem (ι (a:Int)) (ι 3)=some (ι ((a%3:Nat):Int)):=λa=>iA (c:=3) ω;have r16:∀a:Nat,aY .rem (ι (a:Int)) (ι 16)=some (ι ((a%16:Nat):Int)):=λa=>iA (c:=16) ω;have q8:∀a:Nat,a<256 ->aY .quo (.i .u8 (a:Int)) (.i .u8 8)=some (.i .u8 ((a/8:Nat):Int)):=λa ha=>D8 (c:=8) ⟨by omega,ha⟩;have a2:∀a:Nat,a<100 ->aY .add (ι (a:Int)) (ι 2)=some (ι ((a+2:Nat):Int)):=λa ha=>oH (b:=2) ω;have a3:∀a:Nat,a<100 ->aY .add (ι (a:Int)) (ι 3)=some (ι ((a+3:Nat):Int)):=λa ha=>oH (b:=3) ω;have b1:∀a:Nat,a<100 ->aY .add (ι 1) (ι (a:Int))=some (ι ((1+a:Nat):Int)):=λa ha=>oH (a:=1) ω;have rp:∀a:Nat,aY .rem (ι (a:Int)) (ι (g.pR.length:Int))=some (ι ((a%g.pR.length:Nat):Int)):=λa=>iA (c:=g.pR.length) ω;have np:((g.pR.length:Int)<1)=False:=by simp;omega
 have wq:∀a:Nat,a<256 ->dN .i64 (a:Int)=(a:Int):=λa ha=>lj ω;have vc:=λ(R:List Ru) (nl:Bool) (hR:R.length<=1000)=>Km (nl:=nl) S F G hR;refine za E.ok (λx:Nat×List Ru=>kk+3-x.1) (λx τ h=>x.1<=kk+3/\ (x.2.length<=12/\ iG g x.2=true)/\ m+1<=h.next/\ (∀j,j<m ->h.oB.get j=ob.get j)/\ cG (h.oB.get m)=some (ar g)/\ τ.get 1=some (.ds L 0 kk 1)/\ τ.get 2=some (.p m 0)/\ τ.get 6=some (ι (x.1:Int))/\
  ∃v,τ.get 5=some v/\ rq h x.2 v/\ (∀o n,v= .sl o 0 (n+1) none 4 ->m<o)) ?_ (0,[]) _ _ ⟨by omega,⟨by simp,rfl⟩,bB _,(λj hj=>by exact U0),?_,?_,?_,?_,.sn,?_,.inl ⟨rfl,rfl⟩,λo n e=>by cases e⟩
 ·rintro⟨i,R⟩ τ ⟨n1,v1,aQ⟩ ⟨hi,hR,hn,od,c0,t1,t2,t6,v,t5,ru,low⟩ ih;dsimp only at hi hR hn od c0 t6 ru;have de:=c0;simp only[ar] at c0;by_cases h2:i+2<kk
  ·obtain⟨y0,y1,y2⟩:=hb i ω;obtain⟨zq0',z1,z2⟩:=hb (i+1) ω;obtain⟨w0,w1,w2⟩:=hb (i+2) ω;have s0:sub L i 1=some [.i .u8 (y0:Int)]:=qY y2;have s1:sub L (i+1) 1=some [.i .u8 (zq0':Int)]:=qY z2;have s2:sub L (i+2) 1=some [.i .u8 (w0:Int)]:=qY w2;have aV:((i+2:Nat):Int)<(kk:Int):=by omega
   rcases ru with ⟨rfl,rfl⟩|⟨o,n,hRn,rfl,ho,co⟩
   ·have ih':∀R v τ' h',(R.length<=1/\ iG g R=true) ->n1+1<=h'.next ->(∀j,j<m ->h'.oB.get j=ob.get j) ->cG (h'.oB.get m)=some (ar g) ->rq h' R v ->(∀o n,v= .sl o 0 (n+1) none 4 ->m<o) ->τ'.get 1=some (.ds L 0 kk 1) ->τ'.get 2=some (.p m 0) ->τ'.get 5=some v ->τ'.get 6=some (ι ((i+3:Nat):Int)) ->
     df C (.loop yx) [.b 0,.s (.seq yz .ret)] (KF k [(4,none)]) τ' h':=λR v τ' h' e1 e2 eo e3 e4 e5 e6 e7 e8 e9=>ih (i+3,R) τ' h' (by show kk+3-(i+3)<kk+3-i;omega) ⟨by show i+3<=kk+3;omega,⟨by show R.length<=12;have:=e1.1;omega,e1.2⟩,by omega,eo,e3,e6,e7,e9,v,e8,e4,e5⟩
    have TL:=λ(x:Ru) {τ h}=>aX4 (L:=L) (kk:=kk) (m:=m) (q:=n1) (i:=i) (τ:=τ) (h:=h) S E F G x (KF k [(4,none)]);have kc:w0%8=6∨w0%8=7∨w0%8=4∨w0%8=5∨(w0%8≠6/\ w0%8≠7/\ w0%8≠4/\ w0%8≠5):=by omega
    rcases kc with k7|k7|k7|k7|⟨k7,k8,k4,k5⟩
    ·refine Eb c0 t1 t2 t5 t6 ia nkp nkL lL s0 s1 s2 r4 r8 r3 r16 q8 a2 @bK b1 aV @jP np rp wq k7 ?_;refine TL ⟨((y0%g.pR.length:Nat):Int),0,7,0⟩ ?_ ?_ ?_ (show n1<n1+1 by omega) ω ω ?_ ?_ ?_ ?_ ?_ ih'
     ·exact W0 de
     ·intro j hj;exact W0 (od j hj)
     ·exact U0
     all_goals exact U4 t1 t2 t5 t6
    ·refine Eb c0 t1 t2 t5 t6 ia nkp nkL lL s0 s1 s2 r4 r8 r3 r16 q8 a2 @bK b1 aV @jP np rp wq k7 ?_;refine TL ⟨((y0%g.pR.length:Nat):Int),0,8,0⟩ ?_ ?_ ?_ (show n1<n1+1 by omega) ω ω ?_ ?_ ?_ ?_ ?_ ih'
     ·exact W0 de
     ·intro j hj;exact W0 (od j hj)
     ·exact U0
     all_goals exact U4 t1 t2 t5 t6
    ·refine Eb c0 t1 t2 t5 t6 ia nkp nkL lL s0 s1 s2 r4 r8 r3 r16 q8 a2 @bK b1 aV @jP np rp wq k7 ?_;refine TL ⟨((y0%g.pR.length:Nat):Int),((zq0'%4:Nat):Int),5,((1+w0/8%3:Nat):Int)⟩ ?_ ?_ ?_ (show n1<n1+1 by omega) ω ω ?_ ?_ ?_ ?_ ?_ ih'
     ·exact W0 de
     ·intro j hj;exact W0 (od j hj)
     ·exact U0
     all_goals exact U4 t1 t2 t5 t6
    ·refine Eb c0 t1 t2 t5 t6 ia nkp nkL lL s0 s1 s2 r4 r8 r3 r16 q8 a2 @bK b1 aV @jP np rp wq k7 ?_;refine TL ⟨((y0%g.pR.length:Nat):Int),((zq0'%4:Nat):Int),6,((1+w0/8%16:Nat):Int)⟩ ?_ ?_ ?_ (show n1<n1+1 by omega) ω ω ?_ ?_ ?_ ?_ ?_ ih'
     ·exact W0 de
     ·intro j hj;exact W0 (od j hj)
     ·exact U0
     all_goals exact U4 t1 t2 t5 t6
    ·have n5:(((1+w0%8:Nat):Int)=5)=False:=by simp;omega
     have n6:(((1+w0%8:Nat):Int)=6)=False:=by simp;omega
     have n7:(((1+w0%8:Nat):Int)=7)=False:=by simp;omega
     have n8:(((1+w0%8:Nat):Int)=8)=False:=by simp;omega
     refine Z29 c0 t1 t2 t5 t6 ia nkp nkL lL s0 s1 s2 r4 r8 r3 r16 q8 a2 @bK b1 aV @jP np rp wq n5 n6 n7 n8 ?_;refine TL ⟨((y0%g.pR.length:Nat):Int),((zq0'%4:Nat):Int),((1+w0%8:Nat):Int),0⟩ ?_ ?_ ?_ (show n1<n1+1 by omega) ω ω ?_ ?_ ?_ ?_ ?_ ih'
     ·exact W0 de
     ·intro j hj;exact W0 (od j hj)
     ·exact U0
     all_goals exact U4 t1 t2 t5 t6
   ·replace ho:o<n1:=ho;replace co:cG (aQ.get o)=some (R.flatMap cM):=co;by_cases l12:((n+1:Nat):Int)<12
    ·have ih':∀R' v τ' h',(R'.length<=n+2/\ iG g R'=true) ->n1+1<=h'.next ->(∀j,j<m ->h'.oB.get j=ob.get j) ->cG (h'.oB.get m)=some (ar g) ->rq h' R' v ->(∀o n,v= .sl o 0 (n+1) none 4 ->m<o) ->τ'.get 1=some (.ds L 0 kk 1) ->τ'.get 2=some (.p m 0) ->τ'.get 5=some v ->τ'.get 6=some (ι ((i+3:Nat):Int)) ->
      df C (.loop yx) [.b 0,.s (.seq yz .ret)] (KF k [(4,none)]) τ' h':=λR' v τ' h' e1 e2 eo e3 e4 e5 e6 e7 e8 e9=>ih (i+3,R') τ' h' (by show kk+3-(i+3)<kk+3-i;omega) ⟨by show i+3<=kk+3;omega,⟨by show R'.length<=12;have:=e1.1;omega,e1.2⟩,by omega,eo,e3,e6,e7,e9,v,e8,e4,e5⟩
     have TL:=λ(x:Ru) {τ h}=>aX5 (L:=L) (kk:=kk) (m:=m) (q:=n1) (i:=i) (τ:=τ) (h:=h) (o:=o) S E F G x hRn hR.2 ω (KF k [(4,none)]);have kc:w0%8=6∨w0%8=7∨w0%8=4∨w0%8=5∨(w0%8≠6/\ w0%8≠7/\ w0%8≠4/\ w0%8≠5):=by omega
     rcases kc with k7|k7|k7|k7|⟨k7,k8,k4,k5⟩
     ·refine Ec c0 co t1 t2 t5 t6 ia nkp nkL lL s0 s1 s2 r4 r8 r3 r16 q8 a2 @bK b1 aV l12 @jP np rp wq k7 ?_;refine TL ⟨((y0%g.pR.length:Nat):Int),0,7,0⟩ ?_ ?_ ?_ ?_ (show o<n1+1 by omega) (low o n rfl) ω (show n1<n1+1 by omega) ω ω ?_ ?_ ?_ ?_ ?_ ih'
      ·exact W0 de
      ·intro j hj;exact W0 (od j hj)
      ·exact U0
      ·exact W0 co
      all_goals exact U4 t1 t2 t5 t6
     ·refine Ec c0 co t1 t2 t5 t6 ia nkp nkL lL s0 s1 s2 r4 r8 r3 r16 q8 a2 @bK b1 aV l12 @jP np rp wq k7 ?_;refine TL ⟨((y0%g.pR.length:Nat):Int),0,8,0⟩ ?_ ?_ ?_ ?_ (show o<n1+1 by omega) (low o n rfl) ω (show n1<n1+1 by omega) ω ω ?_ ?_ ?_ ?_ ?_ ih'
      ·exact W0 de
      ·intro j hj;exact W0 (od j hj)
      ·exact U0
      ·exact W0 co
      all_goals exact U4 t1 t2 t5 t6
     ·refine Ec c0 co t1 t2 t5 t6 ia nkp nkL lL s0 s1 s2 r4 r8 r3 r16 q8 a2 @bK b1 aV l12 @jP np rp wq k7 ?_;refine TL ⟨((y0%g.pR.length:Nat):Int),((zq0'%4:Nat):Int),5,((1+w0/8%3:Nat):Int)⟩ ?_ ?_ ?_ ?_ (show o<n1+1 by omega) (low o n rfl) ω (show n1<n1+1 by omega) ω ω ?_ ?_ ?_ ?_ ?_ ih'
      ·exact W0 de
      ·intro j hj;exact W0 (od j hj)
      ·exact U0
      ·exact W0 co
      all_goals exact U4 t1 t2 t5 t6
     ·refine Ec c0 co t1 t2 t5 t6 ia nkp nkL lL s0 s1 s2 r4 r8 r3 r16 q8 a2 @bK b1 aV l12 @jP np rp wq k7 ?_;refine TL ⟨((y0%g.pR.length:Nat):Int),((zq0'%4:Nat):Int),6,((1+w0/8%16:Nat):Int)⟩ ?_ ?_ ?_ ?_ (show o<n1+1 by omega) (low o n rfl) ω (show n1<n1+1 by omega) ω ω ?_ ?_ ?_ ?_ ?_ ih'
      ·exact W0 de
      ·intro j hj;exact W0 (od j hj)
      ·exact U0
      ·exact W0 co
      all_goals exact U4 t1 t2 t5 t6
     ·have n5:(((1+w0%8:Nat):Int)=5)=False:=by simp;omega
      have n6:(((1+w0%8:Nat):Int)=6)=False:=by simp;omega
      have n7:(((1+w0%8:Nat):Int)=7)=False:=by simp;omega
      have n8:(((1+w0%8:Nat):Int)=8)=False:=by simp;omega
      simp(disch:=first|omega|(exact U2 c0 co)) only[c0,t1,t2,t5,t6,ia,lL,s0,s1,s2,r4,r8,a2,bK,b1,aV,l12,jP,np,rp,wq,n5,n6,n7,n8,↓sA E.ok,Nat.reduceAdd,Nat.reduceShiftRight,Nat.reduceAnd,Nat.reduceBneDiff,↓reduceIte,go_sem];refine TL ⟨((y0%g.pR.length:Nat):Int),((zq0'%4:Nat):Int),((1+w0%8:Nat):Int),0⟩ ?_ ?_ ?_ ?_ (show o<n1+1 by omega) (low o n rfl) ω (show n1<n1+1 by omega) ω ω ?_ ?_ ?_ ?_ ?_ ih'
      ·exact W0 de
      ·intro j hj;exact W0 (od j hj)
      ·exact U0
      ·exact W0 co
      all_goals exact U4 t1 t2 t5 t6
    ·refine qt c0 co t1 t2 t5 t6 ia nkp nkL lL a2 aV l12 ?_;exact hk R _ _ hR (.inr ⟨o,n,hRn,rfl,ho,co⟩) (by show m<=n1;omega) od λo' n' e=>by cases e;exact FL (low _ _ rfl)
  ·have aV:¬(((i+2:Nat):Int)<(kk:Int)):=by omega
   rcases ru with ⟨rfl,rfl⟩|⟨o,n,hRn,rfl,ho,co⟩
   ·refine sC c0 t1 t2 t5 t6 ia nkp nkL lL a2 aV ?_;exact hk [] _ _ ⟨by simp,rfl⟩ (.inl ⟨rfl,rfl⟩) (by show m<=n1;omega) od λo' n' e=>by cases e
   ·replace ho:o<n1:=ho;replace co:cG (aQ.get o)=some (R.flatMap cM):=co;refine lX c0 co t1 t2 t5 t6 ia nkp nkL lL a2 aV ?_;exact hk R _ _ hR (.inr ⟨o,n,hRn,rfl,ho,co⟩) (by show m<=n1;omega) od λo' n' e=>by cases e;exact FL (low _ _ rfl)
 ·exact U1 @ar.eq_1
 all_goals exact U0
def aX7 (F:li ae) {g:Gr} (G:ce g) (pn:1<=g.pR.length) (h:AH) (k:AV ->AH ->Prop)
 (hk:∀R v h',(R.length<=12/\ iG g R=true) ->rq h' R v ->h.next<=h'.next ->(∀j,j<h.next ->h'.oB.get j=h.oB.get j) ->(∀o n,v= .sl o 0 (n+1) none 4 ->h.next<=o) ->k v h'):du C 13 [aI g,.sn] h k:=by
 obtain⟨m,ver,ob⟩:=h;have bq:=iW (g:=g);simp only[ar] at bq;rw[E.cB F.f13];have a2:∀a:Nat,a<100 ->aY .add (ι (a:Int)) (ι 2)=some (ι ((a+2:Nat):Int)):=λa ha=>oH (b:=2) ω;refine Y4 @HO.eq_1 @aI.eq_1 @ar.eq_1 bq ?_;rw[qj E.ok];have z2:aY .add (ι 0) (ι 2)=some (ι 2):=rfl;refine Z1 z2 ?_;exact hk [] _ _ ⟨by simp,rfl⟩ (.inl ⟨rfl,rfl⟩) (by show m<=m+1;omega) (λj hj=>by have bF:j<m:=hj;exact U0) λo' n' e=>by cases e
def mW (g:Gr) (left ii mk:Nat) (bs:List Nat):Pr:=
 rf { oO [112,97+g.pR.length] (left%g.nT.length) true (gP g.nT.length bs) with cond:=da ii g.nc } mk
def kN (g:Gr) (left ii mk:Nat) (bs:List Nat) (kn:Bool):Gr:=
 if tO (gP g.nT.length bs)=0/\ (kn=true∨oP (left%g.nT.length) (gP g.nT.length bs)=false) then g else { g with pR:=g.pR++[mW g left ii mk bs] }
def aX8 {n:Nat} {bs:List Nat} {i:Nat} (hi:i<min bs.length 4):((bs.take (i+1)).map (l9 n))=(bs.take i).map (l9 n)++[l9 n (bs[i]'ω)]:=by
 rw[List.take_succ_eq_append_getElem ω,kE];rfl
def BC {h:AH} {g:Gr}:deep 9 h (.ag (ar g))=some (.ag (ar g)):=kq (n:=6) g
def Kn {n:Nat} {h:AH}:deep n h .sn=some .sn:=by cases n<;>rfl
def aX9 {h:AH} {name:List Nat} {left:Nat} {right:List (Bool×Nat)} {rn:Bool} {cond:Tr} {V:AV} (hx:deep 8 h V=some (eR ba 2 rn right)):
 deep 9 h (.ag [.s name,ι (left:Int),V,cu (aE cond).1,ι ((aE cond).2:Int),.b false,ι 0,.sn,.b false,ι 0,ι 0,ι 0,ι 0])=some (.ag (aM { oO name left rn right with cond:=cond })):=by
 have e:bJ 8 h [.s name,ι (left:Int),V,cu (aE cond).1,ι ((aE cond).2:Int),.b false,ι 0,.sn,.b false,ι 0,ι 0,ι 0,ι 0]=some (aM { oO name left rn right with cond:=cond }):=by
  simp only[aM,oO,aL,bZ,dH,yW,oK,Kn,nW (n:=7),qv,hx];rfl
 have e1:∀l,deep 9 h (.ag l)=(match bJ 8 h l with|some l=>some (AV.ag l)|none=>none):=λ_=>rfl;rw[e1,e]
def aY0 {h:AH} {g:Gr} {V:AV} {L:List Pr} (hx:deep 8 h V=some (eR aM 13 true L)):
 deep 9 h (.ag [eX (fz g.nc) (g.cx.map AV.s),cu (aE g.fam).1,ι ((aE g.fam).2:Int),eR dq 7 true g.tc.zipIdx,eX g.nT (g.nx.map AV.s),V,ι (g.st:Int),eR iK 4 true g.lV,eR eF 9 true g.fI])=some (.ag (ar { g with pR:=L })):=by
 have e:bJ 8 h [eX (fz g.nc) (g.cx.map AV.s),cu (aE g.fam).1,ι ((aE g.fam).2:Int),eR dq 7 true g.tc.zipIdx,eX g.nT (g.nx.map AV.s),V,ι (g.st:Int),eR iK 4 true g.lV,eR eF 9 true g.fI]=some (ar { g with pR:=L }):=by
  simp only[ar,aL,bZ,dH,nW (n:=7),Bt (n:=7),dA (n:=7) jD,dA (n:=7) ko,dA (n:=7) ju,hx]
 have e1:∀l,deep 9 h (.ag l)=(match bJ 8 h l with|some l=>some (AV.ag l)|none=>none):=λ_=>rfl;rw[e1,e]
def EW {x:Option bC} {c:List AV} (h:cG x=some c):∃v,x=some (.cells v c):=by
 rcases x with _|(_|_|_|_|_)<;>simp only[cG] at h;all_goals first|(cases h;done)|(injection h with h;subst h;exact⟨_,rfl⟩)
def aY1 (p:Pr):cF (aM p)=true:=by
 simp only[aM,lT,qR,uZ,tN];rfl
def BD {n:Nat} (h:n<=3):(fz n).length=n:=by unfold fz;rw[jm];simp;omega
def aY2 (R:eL ae) (A:dY P X GL) (G:jf ae) (F:hZ ae) {g:Gr} (ok:ce g) (pn:1<=g.pR.length) {left ii mk:Nat} {W V:AV} {bs:List Nat} (hi:ii<256) (hm:mk<256) {τ:T AV} {n1 v1:Nat} {ob:T bC} {D:AV}
 (hD: .ag (ar { g with pR:=g.pR++[mW g left ii mk bs] })=D) (c0:cG (ob.get 0)=some (ar g)) (c1:cG (ob.get 1)=some (xC left W ii mk)) (c2:cG (ob.get 2)=some [.sn,.sn,ι 0,.sn,.sn,.sn,ι 0,.sn,.sn])
 (c3:cG (ob.get 3)=some (cP [112,97+g.pR.length] (left%g.nT.length) V)) (hV:S0 ⟨n1,v1,ob⟩ (gP g.nT.length bs) V) (bQ:5<=n1) (t3:τ.get 3=some (.p 0 0)) (t4:τ.get 4=some (.p 1 0)) (t6:τ.get 6=some (.p 2 0)) (t8:τ.get 8=some (.p 3 0)):
 df C (.seq Ei (.seq Ej (.seq Ek (.seq El .ret)))) [] (KF (λx h=>∃n,deep n h x=some D) [(6,some (9,true))]) τ ⟨n1,v1,ob⟩:=by
 have de:=c0;simp only[ar] at c0;simp only[cP] at c3;simp only[xC] at c1;have hr4:(gP g.nT.length bs).length<=4:=by unfold gP;rw[kU,jm];omega
 have ncl:=BD ok.nc;have sp:=λh=>dR S (Ez (GL:=GL) S R A F (b:=ii) hi ok.nc) (n:=1) (by rfl) h;simp only[eT,eD] at sp;refine qX c0 c1 c2 c3 t3 t4 t6 t8 @iL ncl ?_;refine E.cN (sp _) (sC c0 c1 c2 c3 t3 t4 t6 t8 @iL ncl @ec ?_);have MC:∀o3,cG (some o3)=some [AV.s [112,97+g.pR.length],ι ((left%g.nT.length:Nat):Int),V,cu (aE (da ii g.nc)).1,ι ((aE (da ii g.nc)).2:Int),.b false,ι 0,.sn,.b false,ι 0,ι 0,ι 0,ι 0] ->∃ob':T bC,cG (ob'.get 0)=some (ar g)/\ cG (ob'.get 2)=some [.sn,.sn,ι 0,.sn,.sn,.sn,ι 0,.sn,.sn]/\ ob'.get 3=some o3/\
  bP P X GL 165 [.ag [AV.s [112,97+g.pR.length],ι ((left%g.nT.length:Nat):Int),V,cu (aE (da ii g.nc)).1,ι ((aE (da ii g.nc)).2:Int),.b false,ι 0,.sn,.b false,ι 0,ι 0,ι 0,ι 0],.i .u8 (mk:Int)] ⟨n1,v1+1,ob.put 3 o3⟩ (.ag (aM (mW g left ii mk bs))) ⟨n1,v1+1,ob'⟩:=by
  intro o3 h3;have mp:=aQ3 (GL:=GL) S G F (p:={ oO [112,97+g.pR.length] (left%g.nT.length) true (gP g.nT.length bs) with cond:=da ii g.nc }) (m:=mk) hm ⟨rfl,rfl,rfl,rfl,rfl,rfl,rfl,rfl,rfl,hr4⟩;rcases hV with ⟨hR,rfl⟩|⟨o,n,hR,rfl,o5,lo,co⟩
  ·have ea:[AV.ag [AV.s [112,97+g.pR.length],ι ((left%g.nT.length:Nat):Int),.sn,cu (aE (da ii g.nc)).1,ι ((aE (da ii g.nc)).2:Int),.b false,ι 0,.sn,.b false,ι 0,ι 0,ι 0,ι 0],.i .u8 (mk:Int)]=[.ag (aM { oO [112,97+g.pR.length] (left%g.nT.length) true (gP g.nT.length bs) with cond:=da ii g.nc }),.i .u8 (mk:Int)]:=by
    simp only[aM,oO,hR,qv,qJ]
   rw[ea];refine⟨ob.put 3 o3,(W0 de),(W0 c2),U0,dR S mp (n:=9) ?_ _⟩
   ·rw[aL,qy];rfl
  ·obtain⟨vo,ho⟩:=EW co;dsimp only at ho lo;have o3':(o=3)=False:=av;refine⟨(ob.put 3 o3).put o .gone,(W0 de),(W0 c2),U0,J2 (vo:=vo) (c:=(gP g.nT.length bs).flatMap ba) (n:=9) S mp (U2 o3' ho) ?_⟩
   ·have hr0:gP g.nT.length bs≠[]:=λe=>by rw[e] at hR;cases hR
    rw[aL,aX9 (rn:=true) (right:=gP g.nT.length bs) (by
     rw[sM hr0,hR];exact gA (by exact U0) (qZ yX _))]
    rfl
 obtain⟨ob',d0,d2,d3,mc⟩:=MC (.cells (v1+1) _) rfl;simp only[aM] at mc;refine E.cN mc ?_;have d0':=d0;simp only[ar] at d0;have d3':cG (ob'.get 3)=some [AV.s [112,97+g.pR.length],ι ((left%g.nT.length:Nat):Int),V,cu (aE (da ii g.nc)).1,ι ((aE (da ii g.nc)).2:Int),.b false,ι 0,.sn,.b false,ι 0,ι 0,ι 0,ι 0]:=by rw[d3];rfl
 have hl:(g.pR.flatMap aM).length=g.pR.length*13:=kh kr g.pR;have hpl:=ok.pl;have AP:∀nx ver t,cG (T.get t n1)=some [] ->gU ⟨nx,ver,t⟩ 13 (.sl n1 0 0 (some 0) 13) (eR aM 13 true g.pR)= .v (.sl nx 0 g.pR.length none 13) ⟨nx+1,ver,t.put nx (.cells ver (g.pR.flatMap aM))⟩:=by
  intro nx ver t ht;have dc:g.pR≠[]:=λe=>by rw[e] at pn;simp at pn
  rw[sM dc];obtain⟨n,hn⟩:∃n,g.pR.length=n+1:=⟨g.pR.length-1,by omega⟩;rw[hn];exact Bv (mM (by rw[hl,hn])) (w7 aY1 g.pR) ht ω
 have db:nice 63 (eR ba 2 (mW g left ii mk bs).rn (mW g left ii mk bs).right)=true:=dg jE;have dk:nice 63 (eR gH 3 (mW g left ii mk bs).ln (mW g left ii mk bs).lay)=true:=dg SF;refine sD d0 d2 d3' t3 t4 t6 t8 @iL ncl @ec @iB AP hl db dk @g9 ?_;refine⟨9,?_⟩;rw[←hD];refine aY0 (L:=g.pR++[mW g left ii mk bs]) ?_;have dc:g.pR++[mW g left ii mk bs]≠[]:=by simp
 rw[sM dc,dy];refine gA (l:=(g.pR++[mW g left ii mk bs]).flatMap aM) ?_ (qZ y7 _);have lt1:(n1+2+1=0)=False:=av;have lt2:(n1+2+1=2)=False:=av;simp only[T.get_put,lt1,lt2,bV,dZ,d9];rw[jl,pO];rfl
def aY3 (R:eL ae) (A:dY P X GL) (G:jf ae) (F:hZ ae) {g:Gr} (ok:ce g) (pn:1<=g.pR.length) {left ii mk:Nat} {W:AV} {bs:List Nat} (hi:ii<256) (hm:mk<256) {kn:Bool} {τ:T AV} {h:AH} {D:AV} (hD: .ag (ar (kN g left ii mk bs kn))=D)
 (L:LI g W left ii mk [112,97+g.pR.length] (left%g.nT.length) (gP g.nT.length bs) τ h) (t2:τ.get 2=some (.b kn)):df C Em [] (KF (λx h=>∃n,deep n h x=some D) [(6,some (9,true))]) τ h:=by
 obtain⟨n1,v1,ob⟩:=h;obtain⟨c0,c1,c2,⟨V,c3,hV⟩,nx,t3,t4,t6,t7,t8,t9,t10⟩:=L;dsimp only at c0 c1 c2 c3;have de:=c0;simp only[ar] at c0;simp only[cP] at c3;simp only[xC] at c1;have bQ:5<=n1:=nx;have hr4:(gP g.nT.length bs).length<=4:=by unfold gP;rw[kU,jm];omega
 have tl:tO (gP g.nT.length bs)<=4:=fJ (List.length_filter_le _ _) hr4;by_cases hc:tO (gP g.nT.length bs)=0/\ (kn=true∨oP (left%g.nT.length) (gP g.nT.length bs)=false)
 ·have hg:kN g left ii mk bs kn=g:=aF hc;rw[hg] at hD;rw[hc.1] at t9;rcases hc.2 with hk|hl
  ·subst hk;refine lX c0 c1 c2 c3 t2 t3 t4 t6 t7 t8 t9 t10 ?_;exact⟨9,by rw[←hD];exact BC⟩
  ·rw[hl] at t10;cases kn;all_goals
    refine lX c0 c1 c2 c3 t2 t3 t4 t6 t7 t8 t9 t10 ?_;exact⟨9,by rw[←hD];exact BC⟩
 ·have hg:kN g left ii mk bs kn={ g with pR:=g.pR++[mW g left ii mk bs] }:=aD hc
  rw[hg] at hD;have ta:=λτ'=>aY2 (V:=V) S E R A G F ok pn (W:=W) (bs:=bs) (left:=left) (τ:=τ') hi hm hD de (by simp only[xC];exact c1) c2 (by simp only[cP];exact c3) hV bQ;show df C (.seq (.seq R6 (.cond (.t 87) (.seq R7 .ret) .skip)) (.seq Ei (.seq Ej (.seq Ek (.seq El .ret))))) [] _ τ _;generalize (aw.seq Ei (.seq Ej (.seq Ek (.seq El .ret))))=tl at ta ⊢;by_cases h0:tO (gP g.nT.length bs)=0
  ·have hk:kn=false:=by cases kn with|false=>rfl|true=>exact bh ⟨h0,.inl rfl⟩ hc
   have hl:oP (left%g.nT.length) (gP g.nT.length bs)=true:=by
    cases hl:oP (left%g.nT.length) (gP g.nT.length bs) with|true=>rfl|false=>exact bh ⟨h0,.inr hl⟩ hc
   rw[h0] at t9;rw[hl] at t10;subst hk;refine lX c0 c1 c2 c3 t2 t3 t4 t6 t7 t8 t9 t10 ?_;exact ta _ (by exact U1 t3) (by exact U1 t4) (by exact U1 t6) (by exact U1 t8)
  ·have hz:((tO (gP g.nT.length bs):Int)=0)=False:=av;refine qt c0 c1 c2 c3 t2 t3 t4 t6 t7 t8 t9 t10 hz ?_;exact ta _ (by exact U1 t3) (by exact U1 t4) (by exact U1 t6) (by exact U1 t8)
def aY4 (R:eL ae) (A:dY P X GL) (G:jf ae) (F:hZ ae) {g:Gr} (ok:ce g) (pn:1<=g.pR.length) {left ii mk:Nat} {W:AV} {bs:List Nat} (hX:EA W bs) (hn:nice 64 W=true) (hl:left<256) (hi:ii<256) (hm:mk<256) {kn:Bool}:bg P X GL ae 82 [aI g,.ag (xC left W ii mk),.b kn] (.ag (ar (kN g left ii mk bs kn))):=by
 generalize hD:AV.ag (ar (kN g left ii mk bs kn))=D;have hnl:=ok.ntl;have hpl:=ok.pl;have a97:aY .add (ι 97) (ι (g.pR.length:Int))=some (ι ((97+g.pR.length:Nat):Int)):=oH (a:=97) ω;have w97:dN .u8 ((97+g.pR.length:Nat):Int)=((97+g.pR.length:Nat):Int):=Rh ω;have wl:dN .i64 ((left:Nat):Int)=(left:Int):=lj ω;have rl:aY .rem (ι (left:Int)) (ι (g.nT.length:Int))=some (ι ((left%g.nT.length:Nat):Int)):=iA ω;have B1:∀(h':AH) (o:Nat) (c:Option Nat),cG (h'.oB.get o)=some [.i .u8 ((97+g.pR.length:Nat):Int)] ->J4 h' (.sl o 0 1 c 1)= .v (.s [97+g.pR.length]) h':=λh' o c hc=>aR2 ω hc;have a112:aY .add (.s [112]) (.s [97+g.pR.length])=some (.s [112,97+g.pR.length]):=rfl;refine bg.intro λC E=> ?_;rw[E.cB F.f82];have rp:=λh=>dR S (aQ9 (name:=[112,97+g.pR.length]) (left:=left%g.nT.length) (rn:=true) (right:=[]) S R F) (n:=1) (by rfl) h;simp only[qv,aM,oO] at rp;refine wR @JF.eq_1 @aI.eq_1 @ar.eq_1 @xC.eq_1 @iL @dw a97 w97 wl rl @h0.eq_1 @SZ B1 a112 ?_;refine E.cN (rp _) (uX @JF.eq_1 @aI.eq_1 @ar.eq_1 @xC.eq_1 @iL @dw a97 w97 wl rl @h0.eq_1 @SZ B1 a112 @ec ?_);have tk0:tO []=0:=rfl;have lt0:∀a,oP a []=true:=λ_=>rfl;refine fj E.ok (min bs.length 4) (λi τ h=>LI g W left ii mk [112,97+g.pR.length] (left%g.nT.length) ((bs.take i).map (l9 g.nT.length)) τ h/\ τ.get 2=some (.b kn)/\ τ.get 11=some (ι (i:Int))) ?_ ?_ _ _ ⟨{ c0:= ?_,c1:= ?_,c2:= ?_,c3:=⟨.sn,?_,.inl ⟨rfl,rfl⟩⟩,nx:=by show 5<=5;omega,t3:= ?_,t4:= ?_,t6:= ?_,t7:= ?_,t8:= ?_,t9:= ?_,t10:= ?_ },?_,?_⟩
 ·rintro i τ h hi' ⟨L,t2,bH⟩ ih;have hb:i<bs.length:=by omega
  have et:=aX8 (n:=g.nT.length) (bs:=bs) hi';rcases i with _|i
  ·exact aR3 S E F ok hX hn _ L t2 bH hb λτ' h' L' s2 s11=>ih τ' h' ⟨by rw[et];exact L',s2,s11⟩
  ·exact aR4 S E F ok hX hn (n:=i) (by rw[kU,jm];omega) _ L t2 bH ω hb λτ' h' L' s2 s11=>ih τ' h' ⟨by rw[et];exact L',s2,s11⟩
 ·rintro τ h ⟨L,t2,bH⟩;have e4:(bs.take (min bs.length 4)).map (l9 g.nT.length)=gP g.nT.length bs:=by
   unfold gP;congr 1;rcases zF bs.length 4 with h|h
   ·rw[kF h,rL,vM h]
   ·rw[sY h]
  rw[e4] at L;have ta:=λτ' h' L' t2'=>aY3 (W:=W) (bs:=bs) (left:=left) (kn:=kn) (τ:=τ') (h:=h') S E R A G F ok pn hi hm hD L' t2';obtain⟨n1,v1,ob⟩:=h;obtain⟨c0,c1,c2,⟨V,c3,hV⟩,nx,t3,t4,t6,t7,t8,t9,t10⟩:=L;dsimp only at c0 c1 c2 c3;have c1':=c1;simp only[xC] at c1;generalize Em=c21 at ta ⊢;have fin:∀τ':T AV,τ'.get 2=τ.get 2 ->τ'.get 3=τ.get 3 ->τ'.get 4=τ.get 4 ->τ'.get 6=τ.get 6 ->τ'.get 7=τ.get 7 ->τ'.get 8=τ.get 8 ->τ'.get 9=τ.get 9 ->τ'.get 10=τ.get 10 ->df C c21 [] (KF (λx h=>∃n,deep n h x=some D) [(6,some (9,true))]) τ' ⟨n1,v1,ob⟩:=λτ' s2 s3 s4 s6 s7 s8 s9 s10=>
   ta τ' _ { c0:=c0,c1:=c1',c2:=c2,c3:=⟨V,c3,hV⟩,nx:=nx,t3:=by rw[s3,t3],t4:=by rw[s4,t4],t6:=by rw[s6,t6],t7:=by rw[s7,t7],t8:=by rw[s8,t8],t9:=by rw[s9,t9],t10:=by rw[s10,t10] } (by rw[s2,t2])
  rcases hX with ⟨aV,⟨rfl,rfl⟩|⟨Lw,rfl,hL⟩⟩
  ·simp only[ji,FN,qJ] at bH;refine qt c0 c1 c2 c3 t2 t3 t4 t6 t7 t8 t9 t10 bH ?_;apply fin<;>exact U0
  ·by_cases h4:bs.length<=4
   ·rw[kF h4] at bH;have hz:((bs.length:Int)<(bs.length:Int))=False:=av;refine wR c0 c1 c2 c3 t2 t3 t4 t6 t7 t8 t9 t10 bH hz ?_;apply fin<;>exact U0
   ·rw[sY ω] at bH;have hz:(((4:Nat):Int)<(bs.length:Int))=True:=cJ;have hz2:((4:Int)<(bs.length:Int))=True:=cJ;have hz3:4<bs.length:=by omega
    have t11':τ.get 11=some (ι 4):=bH;refine sD c0 c1 c2 c3 t2 t3 t4 t6 t7 t8 t9 t10 t11' hz hz2 hz3 ?_;apply fin<;>exact U0
 ·exact U1 @ar.eq_1
 ·exact U1 @xC.eq_1
 ·exact U0
 ·exact U1 @cP.eq_1
 all_goals first|(simp only[T.get_put,Nat.reduceEqDiff,reduceIte,qJ];done)|rfl
def qz (k a b c ii:Nat):List AV:=[.i .u8 (k:Int),.i .u8 (a:Int),.i .u8 (b:Int),.i .u8 (c:Int),.i .u8 (ii:Int)]
def pE (g:Gr) (a b c ii:Nat):Lv:=
 ⟨if b%g.pR.length≠a%g.pR.length/\ rh g.lV (b%g.pR.length)=false then [a%g.pR.length,b%g.pR.length] else [a%g.pR.length],c%4,da ii g.nc⟩
def mY (g:Gr) (k a b c ii:Nat):Fi:=
 if k%8<4 then ⟨k%8-1,a%g.pR.length,c%16,b%g.pR.length,0,0,[],true,da ii g.nc⟩
 else if k%8<6 then ⟨k%8-1,0,0,0,a%g.nT.length,0,[b%9],true,da ii g.nc⟩
 else ⟨5,0,0,0,0,0,[5],true,da ii g.nc⟩
def lB (g:Gr) (k a b c ii:Nat):Gr:=
 if k%8<2 then (if rh g.lV (a%g.pR.length)=true then g else { g with lV:=g.lV++[pE g a b c ii] })
 else if k%8=7 then { g with tc:=g.tc.set (a%9) (da ii g.nc) }
 else if k%8<4/\ pz g (mY g k a b c ii)=false then g else { g with fI:=g.fI++[mY g k a b c ii] }
def aY5 {c a b r:List AV}:∀{j:Nat},dW c a j=some r ->dW c (a++b) j=some (r++b):=by
 intro j h;obtain⟨hl,hr⟩:=xQ h;rw[xP,aF (by rw[dy];omega),hr,Ln ω,Lm ω];simp only[nz]
def Tq {α:Type} {enc:α ->List AV} {k:Nat} (hk:∀a,(enc a).length=k) {c:List AV} {j:Nat} {x y:α} (h:dW c (enc x) j=some (enc y)):∀{L:List α} {i:Nat},L[i]? =some x ->dW c (L.flatMap enc) (i*k+j)=some ((L.set i y).flatMap enc)
 |[],i,hi=>by cases hi
 |a::L,0,hi=>by
  injection hi with hi;subst hi
  rw[lE,ue,gB,aY5 h];rfl
 |a::L,i+1,hi=>by
  have e:(i+1)*k+j=(enc a).length+(i*k+j):=by rw[hk,vE];omega
  rw[lE,e,Ka,Tq hk h (L:=L) (i:=i) hi];rfl
def aY6 {α:Type} {L:List α} {i:Nat} {x:α}:(L.set i x).zipIdx=L.zipIdx.set i (x,i):=by
 apply xz;intro j;rw[Cd,xF,xF,ny,Cd];by_cases h:i=j
 ·subst h;by_cases h2:i<L.length<;>simp[h2]
 ·simp[h]
def aY7 {tc:List Tr} {i:Nat} {d:Tr} (hi:i<tc.length):dW [cu (aE d).1,ι ((aE d).2:Int)] (tc.zipIdx.flatMap dq) (i*7+5)=some ((tc.set i d).zipIdx.flatMap dq):=by
 rw[aY6];refine Tq (x:=(tc[i],i)) qx rfl ?_;rw[Cd,cE hi];simp
def Ko {α:Type} {enc:α ->List AV} {k:Nat} (hk:∀a,(enc a).length=k) (hs:∀a,cF (enc a)=true) {L:List α} (dc:L≠[]) (hl:L.length<=1000) {nl:Bool} (o nx ver:Nat) (t:T bC) (ht:cG (t.get o)=some []):
 gU ⟨nx,ver,t⟩ k (.sl o 0 0 (some 0) k) (eR enc k nl L)= .v (.sl nx 0 L.length none k) ⟨nx+1,ver,t.put nx (.cells ver (L.flatMap enc))⟩:=by
 rw[sM dc];obtain⟨n,hn⟩:∃n,L.length=n+1:=⟨L.length-1,by have:=xG.2 dc;omega⟩;rw[hn];exact Bv (mM (by rw[kh hk,hn])) (w7 hs L) ht ω
def aY8 (x:Tr×Nat):cF (dq x)=true:=by
 simp only[dq,lT,qR,uZ,tN];rfl
def aY9 (x:Lv):cF (iK x)=true:=by
 simp only[iK,lT,qR,uZ,tN];rfl
def aZ0 (x:Fi):cF (eF x)=true:=by
 simp only[eF,lT,qR,uZ,tN];rfl
def Kp {n:Nat} {h:AH}:∀{a b a' b':List AV},bJ n h a=some a' ->bJ n h b=some b' ->bJ n h (a++b)=some (a'++b')
 |[],b,a',b',h1,h2=>by injection h1 with h1;subst h1;exact h2
 |x::a,b,a',b',h1,h2=>by
  rw[aL] at h1;rw[gw,aL];cases hx:deep n h x with
  |none=>rw[hx] at h1;cases h1
  |some y=>
   cases ha:bJ n h a with
   |none=>rw[hx,ha] at h1;cases h1
   |some r=>rw[hx,ha] at h1;injection h1 with h1;subst h1;rw[Kp ha h2];rfl
def mZ {α:Type} {enc:α ->List AV} {k n:Nat} {h:AH} {o:Nat} {L:List α} {x:α} {xs:List AV} {c:Option Nat} (hd:∀a,bJ n h (enc a)=some (enc a)) (hx:bJ n h xs=some (enc x)) (hc:cG (h.oB.get o)=some (L.flatMap enc++xs)):
 deep (n+1) h (.sl o 0 (L.length+1) c k)=some (eR enc k true (L++[x])):=by
 rw[sM (by simp),dy,jl,pO];exact gA hc (Kp (qZ hd L) hx)
def ze {n:Nat} {h:AH} {V:AV} {ps:List Nat} {a_:Nat} {st:Tr} (hx:deep (n+1) h V=some (eR cI 1 true ps)):bJ (n+1) h [V,ι (a_:Int),cu (aE st).1,ι ((aE st).2:Int)]=some (iK ⟨ps,a_,st⟩):=by
 simp only[iK,aL,bZ,dH,nW,hx]
def pF {n:Nat} {h:AH} {V:AV} {f:Fi} (hx:deep (n+1) h V=some (eR cI 1 f.tn f.tO)):bJ (n+1) h [ι (f.kind:Int),ι (f.par:Int),ι (f.at_:Int),ι (f.child:Int),ι (f.left:Int),ι (f.tok:Int),V,cu (aE f.cond).1,ι ((aE f.cond).2:Int)]=some (eF f):=by
 simp only[eF,aL,bZ,dH,nW,hx]
def md {h:AH} {nc:Nat} {cx:List (List Nat)} {fam:Tr} {tc:List Tr} {nT nx:List (List Nat)} {ps:List Pr} {lV:List Lv} {fI:List Fi} {st:Nat} {VT VL VF:AV} (hT:deep 8 h VT=some (eR dq 7 true tc.zipIdx)) (hL:deep 8 h VL=some (eR iK 4 true lV)) (hF:deep 8 h VF=some (eR eF 9 true fI)):
 deep 9 h (.ag [eX (fz nc) (cx.map AV.s),cu (aE fam).1,ι ((aE fam).2:Int),VT,eX nT (nx.map AV.s),eR aM 13 true ps,ι (st:Int),VL,VF])=some (.ag (ar ⟨nc,cx,fam,tc,nT,nx,ps,lV,fI,st⟩)):=by
 have e:bJ 8 h [eX (fz nc) (cx.map AV.s),cu (aE fam).1,ι ((aE fam).2:Int),VT,eX nT (nx.map AV.s),eR aM 13 true ps,ι (st:Int),VL,VF]=some (ar ⟨nc,cx,fam,tc,nT,nx,ps,lV,fI,st⟩):=by
  simp only[ar,aL,bZ,dH,nW (n:=7),Bt (n:=7),hT,hL,hF,dA (n:=7) y7]
 have e1:∀l,deep 9 h (.ag l)=(match bJ 8 h l with|some l=>some (AV.ag l)|none=>none):=λ_=>rfl;rw[e1,e]
def Ts (F:hZ ae) {g:Gr} {p:Nat} (ok:ce g) (h:AH):bP P X GL 166 [aI g,ι (p:Int)] h (.b (rh g.lV p)) h:=ku S (λn h=>by simp only[aL,bZ,dH]) (aR1 S F ok) h
def aZ1 (R:eL ae) (A:dY P X GL) (G:jf ae) (F:hZ ae) {g:Gr} (ok:ce g) (pn:1<=g.pR.length) {k a b c ii:Nat} (hk:k<256) (ha:a<256) (hb:b<256) (hc:c<256) (hi:ii<256) {D:AV} (hD: .ag (ar (lB g k a b c ii))=D) (k7:k%8=7):du C 83 [aI g,.ag (qz k a b c ii)] h0 λx h=>∃n,deep n h x=some D:=by
 have hpl:=ok.pl;have ncl:=BD ok.nc;have r8:aY .rem (.i .u8 (k:Int)) (.i .u8 8)=some (.i .u8 ((k%8:Nat):Int)):=tP (c:=8) ω;have wa:dN .i64 (a:Int)=(a:Int):=lj ω;have ra:aY .rem (ι (a:Int)) (ι (g.pR.length:Int))=some (ι ((a%g.pR.length:Nat):Int)):=iA ω;have r9:aY .rem (ι (a:Int)) (ι 9)=some (ι ((a%9:Nat):Int)):=iA (c:=9) ω;have sp:=λh=>dR S (Ez (GL:=GL) S R A F (b:=ii) hi ok.nc) (n:=1) (by rfl) h;simp only[eT,eD] at sp;refine E.bS F.f83 (sC @En.eq_1 @aI.eq_1 @ar.eq_1 @qz.eq_1 @iL @dw ncl wa ra r8 @h0.eq_1 ?_);refine E.cN (sp _) ?_;have hz:g.tc.zipIdx.length=11:=by rw[ny,ok.tcl]
 have AP:=Ko (nl:=true) (L:=g.tc.zipIdx) qx aY8 (λe=>by rw[e] at hz;cases hz) ω;rw[hz] at AP;have ov:=aY7 (tc:=g.tc) (i:=a%9) (d:=da ii g.nc) (by rw[ok.tcl];omega);refine lX @iL @dw ncl wa ra r9 r8 k7 @ec @iB AP ov ?_;refine⟨9,?_⟩;have hg:lB g k a b c ii={ g with tc:=g.tc.set (a%9) (da ii g.nc) }:=by unfold lB;rw[aD ω,aF k7]
 rw[←hD,hg];have hz2:(g.tc.set (a%9) (da ii g.nc)).zipIdx.length=11:=by rw[ny,vK,ok.tcl]
 refine md ?_ (dA (n:=7) ko) (dA (n:=7) ju);rw[sM (L:=(g.tc.set (a%9) (da ii g.nc)).zipIdx) (λe=>by rw[e] at hz2;cases hz2),hz2];exact gA rfl (qZ jD _)
def aZ2 (R:eL ae) (A:dY P X GL) (G:jf ae) (F:hZ ae) {g:Gr} (ok:ce g) (pn:1<=g.pR.length) {k a b c ii:Nat} (hk:k<256) (ha:a<256) (hb:b<256) (hc:c<256) (hi:ii<256) {D:AV} (hD: .ag (ar (lB g k a b c ii))=D) (k7:k%8<2):du C 83 [aI g,.ag (qz k a b c ii)] h0 λx h=>∃n,deep n h x=some D:=by
 have hpl:=ok.pl;have hll:=ok.ll;have ncl:=BD ok.nc;have r8:aY .rem (.i .u8 (k:Int)) (.i .u8 8)=some (.i .u8 ((k%8:Nat):Int)):=tP (c:=8) ω;have r4:aY .rem (.i .u8 (c:Int)) (.i .u8 4)=some (.i .u8 ((c%4:Nat):Int)):=tP (c:=4) ω;have wa:dN .i64 (a:Int)=(a:Int):=lj ω;have wb:dN .i64 (b:Int)=(b:Int):=lj ω;have wc:dN .i64 ((c%4:Nat):Int)=((c%4:Nat):Int):=lj ω;have ra:aY .rem (ι (a:Int)) (ι (g.pR.length:Int))=some (ι ((a%g.pR.length:Nat):Int)):=iA ω;have rb:aY .rem (ι (b:Int)) (ι (g.pR.length:Int))=some (ι ((b%g.pR.length:Nat):Int)):=iA ω;have sp:=λh=>dR S (Ez (GL:=GL) S R A F (b:=ii) hi ok.nc) (n:=1) (by rfl) h;have la:=λh=>Ts (GL:=GL) S F (p:=a%g.pR.length) ok h;have lb:=λh=>Ts (GL:=GL) S F (p:=b%g.pR.length) ok h;simp only[eT,eD] at sp;simp only[aI,ar] at la lb;refine E.bS F.f83 (sC @En.eq_1 @aI.eq_1 @ar.eq_1 @qz.eq_1 @iL @dw ncl wa ra r8 @h0.eq_1 ?_);refine E.cN (sp _) ?_;rw[lB,aF k7] at hD;have AP:=λ(h:g.lV≠[])=>Ko (nl:=true) (L:=g.lV) Ev aY9 h ω;have hl:(g.lV.flatMap iK).length=g.lV.length*4:=kh Ev g.lV;rcases(show k%8=0∨k%8=1 by omega) with k0|k0;all_goals
  refine Z8 @iL @dw ncl wa ra r8 k0 @ec ?_;refine E.cN (la _) ?_;cases hla:rh g.lV (a%g.pR.length) with
  |true=>
   rw[hla,aF rfl] at hD;refine Z8 @iL @dw ncl wa ra r8 k0 @ec ?_;exact⟨9,by rw[←hD];exact BC⟩
  |false=>
   rw[hla,aD (by decide)] at hD;by_cases hpq:b%g.pR.length=a%g.pR.length
   ·have hq':(((b%g.pR.length:Nat):Int)=((a%g.pR.length:Nat):Int))=True:=cJ;refine qt @iL @dw ncl wa wb wc ra rb r4 r8 k0 hq' @ec ?_;have el:pE g a b c ii=⟨[a%g.pR.length],c%4,da ii g.nc⟩:=by unfold pE;rw[aD (λh=>h.1 hpq)]
    by_cases hlv:g.lV=[]
    ·have AP0:∀h o,gU h 4 (.sl o 0 0 (some 0) 4) (eR iK 4 true g.lV)= .v (.sl o 0 0 (some 0) 4) h:=λh o=>by rw[hlv];rfl
     refine uX @iL @dw ncl wa wb wc ra rb r4 r8 k0 hq' @ec @iB AP0 ?_;refine⟨9,?_⟩;rw[←hD,el,show g.lV++[(⟨[a%g.pR.length],c%4,da ii g.nc⟩:Lv)]=[]++[(⟨[a%g.pR.length],c%4,da ii g.nc⟩:Lv)] by rw[hlv]];exact md (dA (n:=7) jD) (mZ (n:=7) (L:=[]) ko (ze (n:=6) (ps:=[a%g.pR.length]) (gA rfl rfl)) rfl) (dA (n:=7) ju)
    ·refine sD @iL @dw ncl wa wb wc ra rb r4 r8 k0 hq' @ec @iB (AP hlv) hl ?_;refine⟨9,?_⟩;rw[←hD,el];exact md (dA (n:=7) jD) (mZ (n:=7) (L:=g.lV) ko (ze (n:=6) (ps:=[a%g.pR.length]) (gA rfl rfl)) rfl) (dA (n:=7) ju)
   ·have hq':(((b%g.pR.length:Nat):Int)=((a%g.pR.length:Nat):Int))=False:=av;refine qt @iL @dw ncl wa wb wc ra rb r4 r8 k0 hq' @ec ?_;refine E.cN (lb _) ?_;cases hlb:rh g.lV (b%g.pR.length) with
    |true=>
     have el:pE g a b c ii=⟨[a%g.pR.length],c%4,da ii g.nc⟩:=by unfold pE;rw[aD (λh=>by rw[hlb] at h;cases h.2)]
     by_cases hlv:g.lV=[]
     ·have AP0:∀h o,gU h 4 (.sl o 0 0 (some 0) 4) (eR iK 4 true g.lV)= .v (.sl o 0 0 (some 0) 4) h:=λh o=>by rw[hlv];rfl
      refine uX @iL @dw ncl wa wb wc ra rb r4 r8 k0 hq' @ec @iB AP0 ?_;refine⟨9,?_⟩;rw[←hD,el,show g.lV++[(⟨[a%g.pR.length],c%4,da ii g.nc⟩:Lv)]=[]++[(⟨[a%g.pR.length],c%4,da ii g.nc⟩:Lv)] by rw[hlv]];exact md (dA (n:=7) jD) (mZ (n:=7) (L:=[]) ko (ze (n:=6) (ps:=[a%g.pR.length]) (gA rfl rfl)) rfl) (dA (n:=7) ju)
     ·refine sD @iL @dw ncl wa wb wc ra rb r4 r8 k0 hq' @ec @iB (AP hlv) hl ?_;refine⟨9,?_⟩;rw[←hD,el];exact md (dA (n:=7) jD) (mZ (n:=7) (L:=g.lV) ko (ze (n:=6) (ps:=[a%g.pR.length]) (gA rfl rfl)) rfl) (dA (n:=7) ju)
    |false=>
     have el:pE g a b c ii=⟨[a%g.pR.length,b%g.pR.length],c%4,da ii g.nc⟩:=by unfold pE;rw[aF ⟨hpq,hlb⟩]
     by_cases hlv:g.lV=[]
     ·have AP0:∀h o,gU h 4 (.sl o 0 0 (some 0) 4) (eR iK 4 true g.lV)= .v (.sl o 0 0 (some 0) 4) h:=λh o=>by rw[hlv];rfl
      refine uX @iL @dw ncl wa wb wc ra rb r4 r8 k0 hq' @ec @iB AP0 ?_;refine⟨9,?_⟩;rw[←hD,el,show g.lV++[(⟨[a%g.pR.length,b%g.pR.length],c%4,da ii g.nc⟩:Lv)]=[]++[(⟨[a%g.pR.length,b%g.pR.length],c%4,da ii g.nc⟩:Lv)] by rw[hlv]];exact md (dA (n:=7) jD) (mZ (n:=7) (L:=[]) ko (ze (n:=6) (ps:=[a%g.pR.length,b%g.pR.length]) (gA rfl rfl)) rfl) (dA (n:=7) ju)
     ·refine sD @iL @dw ncl wa wb wc ra rb r4 r8 k0 hq' @ec @iB (AP hlv) hl ?_;refine⟨9,?_⟩;rw[←hD,el];exact md (dA (n:=7) jD) (mZ (n:=7) (L:=g.lV) ko (ze (n:=6) (ps:=[a%g.pR.length,b%g.pR.length]) (gA rfl rfl)) rfl) (dA (n:=7) ju)
end
end AM
