import Derived.Test.YtdicmpmcdjdneaaGreatDoorN17
import Derived.Test.YtdicmpmcdjdneaaGreatDoorN24
set_option linter.all false
set_option maxHeartbeats 8000000
namespace AM
open Dg Go
noncomputable section
def To {h esz o k n L} (D:cG (h.oB.get k)=some L) (H:L.length=(n+1)*esz) (N:wV L=true) (I:cG (h.oB.get o)=some []) (J:n+1<=1048576):
 gU h esz (.sl o 0 0 (some 0) esz) (.sl k 0 (n+1) none esz)= .v (.sl h.next 0 (n+1) none esz) ⟨h.next+1,h.ver,h.oB.put h.next (.cells h.ver L)⟩:=by
 have e1:eI h esz (.sl k 0 (n+1) none esz)=some L:=wH (show h.cells k=some L from D) (mM H);show(match ij (.sl k 0 (n+1) none esz),eI h esz (.sl k 0 (n+1) none esz) with|some n',some l=>gD h (.sl o 0 0 (some 0) esz) n' l esz|_,_=> .bad)=_;rw[e1];show gD h (.sl o 0 0 (some 0) esz) (n+1) L esz=_;have e:gD h (.sl o 0 0 (some 0) esz) (n+1) L esz=(match h.cells o with
  |none=>da.bad
  |some l=>fN (0+(n+1)) λj=>bif !(Nat.beq esz esz&&(Nat.ble j 1048576&&wV L)) then .bad else
   bif Nat.ble j 0 then
    match eL L l (0+0*esz) with
    |some l'=>h.put o (.cells (Nat.succ h.ver) l') λh=> .v (.sl o 0 j (some 0) esz) h
    |none=> .bad
   else match sub l 0 (0*esz) with
    |some old=>match fy old L with
     |some l=>h.new (.cells h.ver l) λo h=> .v (.sl o 0 j none esz) h
     |none=> .bad
    |none=> .bad):=rfl
 have B:h.cells o=some []:=I;have z:sub ([]:List AV) 0 0=some []:=rfl;rw[e,B];simp only[dT,bu,wX,gB,J,N,mC,A7,jk,eU,ue,z,jz,gx,AH.new_eq];have q:decide (n+1<=0)=false:=by simp
 simp only[q,eU]
def Tp r:wV (uC r)=true:=rfl
def uY (h:AH) (R:List Ru) (v:AV):Prop:=(R=[]/\ v= .sn)∨∃o n,R.length=n+1/\ v= .sl o 0 (n+1) none 4/\ o<h.next/\ cG (h.oB.get o)=some (R.flatMap uC)
variable {P:Program} {X:aR} {GL:T (List AV)} {ae:T au}
abbrev EV:List Fr:=[.s (.cond (.t 83) JE .skip),.b 1,.s Ss,.s (.loop EH),.b 0,.s (.seq Fj .ret)]
def sM {α enc k nl}:∀{L:List α},L≠[] ->eR enc k nl L= .ds (L.flatMap enc) 0 L.length k
 |[],h=>bh rfl h
 |a::L,_=>yT
variable (S:aT P X GL ae) {C:aK Prop} (E:Sem P X GL ae C)
variable (R:bz8 ae) (A:dY P X GL) (F:bz8 ae)
def aX4 {g} (G:oy g) {L kk} x {m q i:Nat} {τ h} K
 (c0:cG (h.oB.get m)=some (bx g)) {ob:T bC} (old:∀j,j<m ->h.oB.get j=ob.get j) (cx:cG (h.oB.get q)=some (uC x)) (lq:q<h.next) (Y:m<q) (hi:i<100)
 (t1:τ.get 1=some (.ds L 0 kk 1)) (t2:τ.get 2=some (.p m 0)) (t5:τ.get 5=some .sn) (t6:τ.get 6=some (ι (i))) (t7:τ.get 7=some (.p q 0))
 (D:∀R v τ' h',(R.length<=1/\ iG g R=true) ->h.next<=h'.next ->(∀j,j<m ->h'.oB.get j=ob.get j) ->cG (h'.oB.get m)=some (bx g) ->uY h' R v ->(∀o n,v= .sl o 0 (n+1) none 4 ->m<o) ->τ'.get 1=some (.ds L 0 kk 1) ->τ'.get 2=some (.p m 0) ->τ'.get 5=some v ->τ'.get 6=some (ι ((i+3:Nat):Int)) ->
  df C (.loop EH) [.b 0,.s (.seq Fj .ret)] K τ' h'):df C Iq EV K τ h:=by
 obtain⟨n1,v1,W⟩:=h;dsimp only at c0 cx lq D old;have I:=c0;have J:=cx;have V:=λ(R:List Ru) (nl:Bool) (N:R.length<=1000)=>Km (nl:=nl) S F G N;have H:=iW (g:=g);simp only[bx] at c0 H;simp only[uC] at cx;unfold Iq;have A1:∀h',gU h' 4 (.sl n1 0 0 (some 0) 4) .sn= .v (.sl n1 0 0 (some 0) 4) h':=λh'=>rfl;refine sC @EV.eq_1 c0 cx t2 t5 t7 H @iP A1 @JT @JU ?_;have hd:∀(v:Nat) (t:T bC),t.get (n1+2)=some (.cells v (uC x)) ->bP P X GL 52 [aI g,.sl (n1+2) 0 1 none 4] ⟨n1+2+1,v1+1+1,t⟩ (.b (iG g [x])) ⟨n1+2+1,v1+1+1,t⟩:=λv t O=>
  oE (m:=1) (n:=9) S (V [x] false (by simp)) (by
   have e:deep 9 ⟨n1+2+1,v1+1+1,t⟩ (.sl (n1+2) 0 1 none 4)=some (eR uC 4 false [x]):=by
    show(match t.get (n1+2) with|some (.cells _ l)=>(match bJ 8 _ l with|some l=>some (AV.ds l 0 1 4)|none=>none)|_=>none)=_;rw[O];dsimp only;rw[BB];rfl
   rw[aL,aL,bZ,kq,e]) rfl
 simp only[aI,bx] at hd;refine E.cN (hd (v1+1+1) _ (by exact U0)) ?_;have a3:aY .add (ι (i:Int)) (ι 3)=some (ι ((i+3:Nat):Int)):=oH (b:=3) ω;cases U:iG g [x] with
 |false=>
  refine Z2 t6 a3 ?_;refine D [] .sn _ _ ⟨by simp,rfl⟩ (show n1<=n1+2+1 by omega) (λj B=>by exact W0 (old j B)) ?_ (.inl ⟨rfl,rfl⟩) (λo n e=>by cases e) ?_ ?_ ?_ ?_;exact W0 I;all_goals exact U3 t1 t2 t5
 |true=>
  unfold JE;refine Z6 cx t5 t6 t7 a3 @iP ?_;refine D [x] (.sl (n1+2+1+1) 0 (0+1) none 4) _ _ ⟨by simp,U⟩ (show n1<=n1+2+1+1+1 by omega) (λj B=>by exact W0 (old j B)) ?_ (.inr ⟨n1+2+1+1,0,rfl,rfl,by show n1+2+1+1<n1+2+1+1+1;omega,?_⟩) (λo n e=>by cases e;omega) ?_ ?_ ?_ ?_;exact W0 I;exact U0;all_goals exact U3 t1 t2 t5
def aX5 {g} (G:oy g) {L kk} x {R o n} (B:R.length=n+1) (H:iG g R=true) (hn:n<=100) {m q i:Nat} {τ h} K
 (c0:cG (h.oB.get m)=some (bx g)) {ob:T bC} (old:∀j,j<m ->h.oB.get j=ob.get j) (cx:cG (h.oB.get q)=some (uC x)) (D:cG (h.oB.get o)=some (R.flatMap uC)) (lo:o<h.next) (Z:m<o) (oq:o≠q) (lq:q<h.next) (lm:m<q) (hi:i<100)
 (t1:τ.get 1=some (.ds L 0 kk 1)) (t2:τ.get 2=some (.p m 0)) (t5:τ.get 5=some (.sl o 0 (n+1) none 4)) (t6:τ.get 6=some (ι (i))) (t7:τ.get 7=some (.p q 0))
 (N:∀R' v τ' h',(R'.length<=n+2/\ iG g R'=true) ->h.next<=h'.next ->(∀j,j<m ->h'.oB.get j=ob.get j) ->cG (h'.oB.get m)=some (bx g) ->uY h' R' v ->(∀o n,v= .sl o 0 (n+1) none 4 ->m<o) ->τ'.get 1=some (.ds L 0 kk 1) ->τ'.get 2=some (.p m 0) ->τ'.get 5=some v ->τ'.get 6=some (ι ((i+3:Nat):Int)) ->
  df C (.loop EH) [.b 0,.s (.seq Fj .ret)] K τ' h'):df C Iq EV K τ h:=by
 obtain⟨n1,v1,aQ⟩:=h;dsimp only at c0 cx D lo lq N old;have U:=c0;have V:=cx;have vc:=λ(R:List Ru) (nl:Bool) (B:R.length<=1000)=>Km (nl:=nl) S F G B;have O:=iW (g:=g);simp only[bx] at c0 O;simp only[uC] at cx;unfold Iq;have J:(R.flatMap uC).length=(n+1)*4:=by rw[kh Qm,B]
 have A1:∀nx ver t,cG (T.get t o)=some (R.flatMap uC) ->cG (T.get t n1)=some [] ->gU ⟨nx,ver,t⟩ 4 (.sl n1 0 0 (some 0) 4) (.sl o 0 (n+1) none 4)= .v (.sl nx 0 (n+1) none 4) ⟨nx+1,ver,t.put nx (.cells ver (R.flatMap uC))⟩:=
  λnx ver t h1 h2=>To h1 J (w7 Tp R) h2 ω
 refine sC @EV.eq_1 c0 cx D t2 t5 t7 O @iP A1 J ?_;have fl:(R++[x]).flatMap uC=R.flatMap uC++uC x:=by rw[Bd,pO]
 have hd:∀(v v':Nat) (t:T bC),t.get (n1+2+1)=some (.cells v (R.flatMap uC++uC x)) ->bP P X GL 52 [aI g,.sl (n1+2+1) 0 (n+1+1) none 4] ⟨n1+2+1+1,v',t⟩ (.b (iG g (R++[x]))) ⟨n1+2+1+1,v',t⟩:=λv v' t W=>
  oE (m:=1) (n:=9) S (vc (R++[x]) false (by simp;omega)) (by
   have e:deep 9 ⟨n1+2+1+1,v',t⟩ (.sl (n1+2+1) 0 (n+1+1) none 4)=some (eR uC 4 false (R++[x])):=by
    show(match t.get (n1+2+1) with|some (.cells _ l)=>(match bJ 8 _ l with|some l=>some (AV.ds l 0 (n+1+1) 4)|none=>none)|_=>none)=_;rw[W,sM (by simp)];dsimp only;rw[←fl,qZ BB,dy,B];rfl
   rw[aL,aL,bZ,kq,e]) rfl
 simp only[aI,bx] at hd;refine E.cN (hd (v1+1+1+1) _ _ (by exact U0)) ?_;have a3:aY .add (ι (i:Int)) (ι 3)=some (ι ((i+3:Nat):Int)):=oH (b:=3) ω;cases Y:iG g (R++[x]) with
 |false=>
  refine Z2 t6 a3 ?_;refine N R (.sl o 0 (n+1) none 4) _ _ ⟨by omega,H⟩ (show n1<=n1+2+1+1 by omega) (λj I=>by exact W0 (old j I)) ?_ (.inr ⟨o,n,B,rfl,show o<n1+2+1+1 by omega,?_⟩) (λo' n' e=>by cases e;exact Z) ?_ ?_ ?_ ?_;exact W0 U;exact W0 D;all_goals exact U3 t1 t2 t5
 |true=>
  unfold JE;refine Z8 cx D t5 t6 t7 a3 @iP J ?_;refine N (R++[x]) (.sl (n1+2+1+1+1) 0 (n+1+1) none 4) _ _ ⟨by simp;omega,Y⟩ (show n1<=n1+2+1+1+1+1 by omega) (λj I=>by exact W0 (old j I)) ?_ (.inr ⟨n1+2+1+1+1,n+1,by simp[B],rfl,by show n1+2+1+1+1<n1+2+1+1+1+1;omega,?_⟩) (λo n e=>by cases e;omega) ?_ ?_ ?_ ?_;exact W0 U;simp(disch:=omega) only[dh,T.get_put,dZ,d9];rw[fl];rfl;all_goals exact U3 t1 t2 t5
def aX6 {g} (G:oy g) (pn:1<=g.pR.length) {L kk} (hb:∀i,i<kk ->∃b:Nat,b<256/\ L[i]? =some (.i .u8 (b))) (b2:kk<=36) (b3:nice 64 (.ds L 0 kk 1)=true) h k
 (hk:∀R v h',(R.length<=12/\ iG g R=true) ->uY h' R v ->h.next<=h'.next ->(∀j,j<h.next ->h'.oB.get j=h.oB.get j) ->(∀o n,v= .sl o 0 (n+1) none 4 ->h.next<=o) ->k v h'):du C 16 [aI g,.ds L 0 kk 1] h k:=by
 obtain⟨m,ver,ob⟩:=h;have bq:=iW (g:=g);simp only[bx] at bq;have pl:=G.pl;refine E.bS (F.g 16 bP1) (Y2 @aI.eq_1 @bx.eq_1 ?_);have ia:∀h j,j<kk ->nU h 1 j (.ds L 0 kk 1)= .v (.dp L (j*1)) h:=λh j I=>by rw[yR,aF ⟨rfl,I⟩,gB]
 have V:∀h,kg h (.ds L 0 kk 1)= .v (ι (kk:Int)) h:=λh=>rfl;have r4:∀a:Nat,aY .rem (ι (a:Int)) (ι 4)=some (ι ((a%4:Nat):Int)):=λa=>iA (c:=4) ω;have r8:∀a:Nat,aY .rem (ι (a:Int)) (ι 8)=some (ι ((a%8:Nat):Int)):=λa=>iA (c:=8) ω;have r3:∀a:Nat,aY .rem (ι (a:Int)) (ι 3)=some (ι ((a%3:Nat):Int)):=λa=>iA (c:=3) ω;have r16:∀a:Nat,aY .rem (ι (a:Int)) (ι 16)=some (ι ((a%16:Nat):Int)):=λa=>iA (c:=16) ω;have q8:∀a:Nat,a<256 ->aY .quo (.i .u8 (a:Int)) (.i .u8 8)=some (.i .u8 ((a/8:Nat):Int)):=λa ha=>D8 (c:=8) ⟨by omega,ha⟩;have a2:∀a:Nat,a<100 ->aY .add (ι (a:Int)) (ι 2)=some (ι ((a+2:Nat):Int)):=λa ha=>oH (b:=2) ω;have Y:∀a:Nat,a<100 ->aY .add (ι 1) (ι (a:Int))=some (ι ((1+a:Nat):Int)):=λa ha=>oH (a:=1) ω;have rp:∀a:Nat,aY .rem (ι (a:Int)) (ι (g.pR.length:Int))=some (ι ((a%g.pR.length:Nat):Int)):=λa=>iA (c:=g.pR.length) ω;have np:((g.pR.length:Int)<1)=False:=by simp;omega
 have wq:∀a:Nat,a<256 ->dN .i64 (a:Int)=(a:Int):=λa ha=>lj ω;have vc:=λ(R:List Ru) (nl:Bool) (hR:R.length<=1000)=>Km (nl:=nl) S F G hR;refine Qo E.ok (λx:Nat×List Ru=>kk+3-x.1) (λx τ h=>x.1<=kk+3/\ (x.2.length<=12/\ iG g x.2=true)/\ m+1<=h.next/\ (∀j,j<m ->h.oB.get j=ob.get j)/\ cG (h.oB.get m)=some (bx g)/\ τ.get 1=some (.ds L 0 kk 1)/\ τ.get 2=some (.p m 0)/\ τ.get 6=some (ι (x.1:Int))/\
  ∃v,τ.get 5=some v/\ uY h x.2 v/\ (∀o n,v= .sl o 0 (n+1) none 4 ->m<o)) ?_ (0,[]) _ _ ⟨by omega,⟨by simp,rfl⟩,bB _,(λj I=>by exact U0),?_,?_,?_,?_,.sn,?_,.inl ⟨rfl,rfl⟩,λo n e=>by cases e⟩
 rintro⟨i,R⟩ τ ⟨n1,v1,aQ⟩ ⟨hi,hR,hn,od,c0,t1,t2,t6,v,t5,ru,low⟩ ih;dsimp only at hi hR hn od c0 t6 ru;have Z:=c0;simp only[bx] at c0;by_cases h2:i+2<kk;obtain⟨W,y1,y2⟩:=hb i ω;obtain⟨H,z1,z2⟩:=hb (i+1) ω;obtain⟨B,w1,w2⟩:=hb (i+2) ω;have s0:sub L i 1=some [.i .u8 (W:Int)]:=qY y2;have s1:sub L (i+1) 1=some [.i .u8 (H:Int)]:=qY z2;have s2:sub L (i+2) 1=some [.i .u8 (B:Int)]:=qY w2;have N:((i+2:Nat):Int)<(kk:Int):=by omega
 rcases ru with ⟨rfl,rfl⟩|⟨o,n,b0,rfl,ho,O⟩;have D:∀R v τ' h',(R.length<=1/\ iG g R=true) ->n1+1<=h'.next ->(∀j,j<m ->h'.oB.get j=ob.get j) ->cG (h'.oB.get m)=some (bx g) ->uY h' R v ->(∀o n,v= .sl o 0 (n+1) none 4 ->m<o) ->τ'.get 1=some (.ds L 0 kk 1) ->τ'.get 2=some (.p m 0) ->τ'.get 5=some v ->τ'.get 6=some (ι ((i+3:Nat):Int)) ->
  df C (.loop EH) [.b 0,.s (.seq Fj .ret)] (KF k [(4,none)]) τ' h':=λR v τ' h' e1 e2 eo e3 e4 e5 e6 e7 e8 e9=>ih (i+3,R) τ' h' (by show kk+3-(i+3)<kk+3-i;omega) ⟨by show i+3<=kk+3;omega,⟨by show R.length<=12;have:=e1.1;omega,e1.2⟩,by omega,eo,e3,e6,e7,e9,v,e8,e4,e5⟩
 have TL:=λ(x:Ru) {τ h}=>aX4 (L:=L) (kk:=kk) (m:=m) (q:=n1) (i:=i) (τ:=τ) (h:=h) S E F G x (KF k [(4,none)]);have kc:B%8=6∨B%8=7∨B%8=4∨B%8=5∨(B%8≠6/\ B%8≠7/\ B%8≠4/\ B%8≠5):=by omega
 rcases kc with J|J|J|J|⟨J,k8,k4,k5⟩
 ·refine IP c0 t1 t2 t5 t6 ia V s0 s1 s2 r4 r8 r3 r16 q8 a2 Y N @jP rp wq J ?_;refine TL ⟨((W%g.pR.length:Nat):Int),0,7,0⟩ ?_ ?_ ?_ (show n1<n1+1 by omega) ω ω ?_ ?_ ?_ ?_ ?_ D;exact W0 Z;intro j I;exact W0 (od j I);exact U0;all_goals exact U4 t1 t2 t5 t6
 ·refine IP c0 t1 t2 t5 t6 ia V s0 s1 s2 r4 r8 r3 r16 q8 a2 Y N @jP rp wq J ?_;refine TL ⟨((W%g.pR.length:Nat):Int),0,8,0⟩ ?_ ?_ ?_ (show n1<n1+1 by omega) ω ω ?_ ?_ ?_ ?_ ?_ D;exact W0 Z;intro j I;exact W0 (od j I);exact U0;all_goals exact U4 t1 t2 t5 t6
 ·refine IP c0 t1 t2 t5 t6 ia V s0 s1 s2 r4 r8 r3 r16 q8 a2 Y N @jP rp wq J ?_;refine TL ⟨((W%g.pR.length:Nat):Int),((H%4:Nat):Int),5,((1+B/8%3:Nat):Int)⟩ ?_ ?_ ?_ (show n1<n1+1 by omega) ω ω ?_ ?_ ?_ ?_ ?_ D;exact W0 Z;intro j I;exact W0 (od j I);exact U0;all_goals exact U4 t1 t2 t5 t6
 ·refine IP c0 t1 t2 t5 t6 ia V s0 s1 s2 r4 r8 r3 r16 q8 a2 Y N @jP rp wq J ?_;refine TL ⟨((W%g.pR.length:Nat):Int),((H%4:Nat):Int),6,((1+B/8%16:Nat):Int)⟩ ?_ ?_ ?_ (show n1<n1+1 by omega) ω ω ?_ ?_ ?_ ?_ ?_ D;exact W0 Z;intro j I;exact W0 (od j I);exact U0;all_goals exact U4 t1 t2 t5 t6
 ·have n5:(((1+B%8:Nat):Int)=5)=False:=by simp;omega
  have n6:(((1+B%8:Nat):Int)=6)=False:=by simp;omega
  have n7:(((1+B%8:Nat):Int)=7)=False:=by simp;omega
  have n8:(((1+B%8:Nat):Int)=8)=False:=by simp;omega
  refine IN c0 t1 t2 t5 t6 ia V s0 s1 s2 r4 r8 a2 Y N @jP rp wq n5 ?_;refine TL ⟨((W%g.pR.length:Nat):Int),((H%4:Nat):Int),((1+B%8:Nat):Int),0⟩ ?_ ?_ ?_ (show n1<n1+1 by omega) ω ω ?_ ?_ ?_ ?_ ?_ D;exact W0 Z;intro j I;exact W0 (od j I);exact U0;all_goals exact U4 t1 t2 t5 t6
 replace ho:o<n1:=ho;replace O:cG (aQ.get o)=some (R.flatMap uC):=O;by_cases U:((n+1:Nat):Int)<12;have D:∀R' v τ' h',(R'.length<=n+2/\ iG g R'=true) ->n1+1<=h'.next ->(∀j,j<m ->h'.oB.get j=ob.get j) ->cG (h'.oB.get m)=some (bx g) ->uY h' R' v ->(∀o n,v= .sl o 0 (n+1) none 4 ->m<o) ->τ'.get 1=some (.ds L 0 kk 1) ->τ'.get 2=some (.p m 0) ->τ'.get 5=some v ->τ'.get 6=some (ι ((i+3:Nat):Int)) ->
  df C (.loop EH) [.b 0,.s (.seq Fj .ret)] (KF k [(4,none)]) τ' h':=λR' v τ' h' e1 e2 eo e3 e4 e5 e6 e7 e8 e9=>ih (i+3,R') τ' h' (by show kk+3-(i+3)<kk+3-i;omega) ⟨by show i+3<=kk+3;omega,⟨by show R'.length<=12;have:=e1.1;omega,e1.2⟩,by omega,eo,e3,e6,e7,e9,v,e8,e4,e5⟩
 have TL:=λ(x:Ru) {τ h}=>aX5 (L:=L) (kk:=kk) (m:=m) (q:=n1) (i:=i) (τ:=τ) (h:=h) (o:=o) S E F G x b0 hR.2 ω (KF k [(4,none)]);have kc:B%8=6∨B%8=7∨B%8=4∨B%8=5∨(B%8≠6/\ B%8≠7/\ B%8≠4/\ B%8≠5):=by omega
 rcases kc with J|J|J|J|⟨J,k8,k4,k5⟩
 ·refine Rn c0 t1 t2 t5 t6 ia V s0 s1 s2 r4 r8 r3 r16 q8 a2 Y N U @jP rp wq J ?_;refine TL ⟨((W%g.pR.length:Nat):Int),0,7,0⟩ ?_ ?_ ?_ ?_ (show o<n1+1 by omega) (low o n rfl) ω (show n1<n1+1 by omega) ω ω ?_ ?_ ?_ ?_ ?_ D;exact W0 Z;intro j I;exact W0 (od j I);exact U0;exact W0 O;all_goals exact U4 t1 t2 t5 t6
 ·refine Rn c0 t1 t2 t5 t6 ia V s0 s1 s2 r4 r8 r3 r16 q8 a2 Y N U @jP rp wq J ?_;refine TL ⟨((W%g.pR.length:Nat):Int),0,8,0⟩ ?_ ?_ ?_ ?_ (show o<n1+1 by omega) (low o n rfl) ω (show n1<n1+1 by omega) ω ω ?_ ?_ ?_ ?_ ?_ D;exact W0 Z;intro j I;exact W0 (od j I);exact U0;exact W0 O;all_goals exact U4 t1 t2 t5 t6
 ·refine Rn c0 t1 t2 t5 t6 ia V s0 s1 s2 r4 r8 r3 r16 q8 a2 Y N U @jP rp wq J ?_;refine TL ⟨((W%g.pR.length:Nat):Int),((H%4:Nat):Int),5,((1+B/8%3:Nat):Int)⟩ ?_ ?_ ?_ ?_ (show o<n1+1 by omega) (low o n rfl) ω (show n1<n1+1 by omega) ω ω ?_ ?_ ?_ ?_ ?_ D;exact W0 Z;intro j I;exact W0 (od j I);exact U0;exact W0 O;all_goals exact U4 t1 t2 t5 t6
 ·refine Rn c0 t1 t2 t5 t6 ia V s0 s1 s2 r4 r8 r3 r16 q8 a2 Y N U @jP rp wq J ?_;refine TL ⟨((W%g.pR.length:Nat):Int),((H%4:Nat):Int),6,((1+B/8%16:Nat):Int)⟩ ?_ ?_ ?_ ?_ (show o<n1+1 by omega) (low o n rfl) ω (show n1<n1+1 by omega) ω ω ?_ ?_ ?_ ?_ ?_ D;exact W0 Z;intro j I;exact W0 (od j I);exact U0;exact W0 O;all_goals exact U4 t1 t2 t5 t6
 ·have n5:(((1+B%8:Nat):Int)=5)=False:=by simp;omega
  have n6:(((1+B%8:Nat):Int)=6)=False:=by simp;omega
  have n7:(((1+B%8:Nat):Int)=7)=False:=by simp;omega
  have n8:(((1+B%8:Nat):Int)=8)=False:=by simp;omega
  simp(disch:=first|omega|(exact U2 c0 O)) only[c0,t1,t2,t5,t6,ia,V,s0,s1,s2,r4,r8,a2,bK,Y,N,U,jP,np,rp,wq,n5,n6,n7,n8,↓sA E.ok,Nat.reduceAdd,Nat.reduceShiftRight,Nat.reduceAnd,Nat.reduceBneDiff,↓reduceIte,go_sem];refine TL ⟨((W%g.pR.length:Nat):Int),((H%4:Nat):Int),((1+B%8:Nat):Int),0⟩ ?_ ?_ ?_ ?_ (show o<n1+1 by omega) (low o n rfl) ω (show n1<n1+1 by omega) ω ω ?_ ?_ ?_ ?_ ?_ D;exact W0 Z;intro j I;exact W0 (od j I);exact U0;exact W0 O;all_goals exact U4 t1 t2 t5 t6
 refine Z7 t1 t5 t6 V a2 N U ?_;exact hk R _ _ hR (.inr ⟨o,n,b0,rfl,ho,O⟩) (by show m<=n1;omega) od λo' n' e=>by cases e;exact Im (low _ _ rfl)
 have N:¬(((i+2:Nat):Int)<(kk:Int)):=by omega
 rcases ru with ⟨rfl,rfl⟩|⟨o,n,b0,rfl,ho,O⟩;refine Z6 t1 t5 t6 V a2 N ?_;exact hk [] _ _ ⟨by simp,rfl⟩ (.inl ⟨rfl,rfl⟩) (by show m<=n1;omega) od λo' n' e=>by cases e
 replace ho:o<n1:=ho;replace O:cG (aQ.get o)=some (R.flatMap uC):=O;refine Z6 t1 t5 t6 V a2 N ?_;exact hk R _ _ hR (.inr ⟨o,n,b0,rfl,ho,O⟩) (by show m<=n1;omega) od λo' n' e=>by cases e;exact Im (low _ _ rfl)
 exact U1 @bx.eq_1;all_goals exact U0
def aX7 {g} (G:oy g) (pn:1<=g.pR.length) h k
 (H:∀R v h',(R.length<=12/\ iG g R=true) ->uY h' R v ->h.next<=h'.next ->(∀j,j<h.next ->h'.oB.get j=h.oB.get j) ->(∀o n,v= .sl o 0 (n+1) none 4 ->h.next<=o) ->k v h'):du C 16 [aI g,.sn] h k:=by
 obtain⟨m,ver,ob⟩:=h;have B:=iW (g:=g);simp only[bx] at B;refine E.bS (F.g 16 bP1) (Y2 @aI.eq_1 @bx.eq_1 ?_);rw[qj E.ok];have I:aY .add (ι 0) (ι 2)=some (ι 2):=rfl;refine Z1 I ?_;exact H [] _ _ ⟨by simp,rfl⟩ (.inl ⟨rfl,rfl⟩) (by show m<=m+1;omega) (λj D=>by have J:j<m:=D;exact U0) λL n' e=>by cases e
def mW (g:Gr) (left ii mk:Nat) (bs:List Nat):Pr:=
 vO { oO [112,97+g.pR.length] (left%g.nT.length) true (gP g.nT.length bs) with cond:=xj ii g.nc } mk
def kN (g:Gr) (left ii mk:Nat) (bs:List Nat) (kn:Bool):Gr:=
 if tO (gP g.nT.length bs)=0/\ (kn=true∨oP (left%g.nT.length) (gP g.nT.length bs)=false) then g else { g with pR:=g.pR++[mW g left ii mk bs] }
def aX8 {n} {bs:List Nat} {i} (hi:i<min bs.length 4):((bs.take (i+1)).map (l9 n))=(bs.take i).map (l9 n)++[l9 n (bs[i]'ω)]:=by
 rw[List.take_succ_eq_append_getElem ω,kE];rfl
def BC {h g}:deep 9 h (.ag (bx g))=some (.ag (bx g)):=kq (n:=6) g
def Kn {n h}:deep n h .sn=some .sn:=by cases n<;>rfl
def aX9 {h name} {left:Nat} {right rn cond V} (j:deep 8 h V=some (eR dO 2 rn right)):
 deep 9 h (.ag [.s name,ι (left),V,tp (aE cond).1,ι ((aE cond).2:Int),.b false,ι 0,.sn,.b false,ι 0,ι 0,ι 0,ι 0])=some (.ag (aM { oO name left rn right with cond:=cond })):=by
 refine nX (n:=8) ?_;simp only[aM,oO,aL,bZ,dH,yW,oK,Kn,nW (n:=7),qv,j];rfl
def aY0 {h} {g:Gr} {V L} (j:deep 8 h V=some (eR aM 13 true L)):
 deep 9 h (.ag [eX (fz g.nc) (g.cx.map AV.s),tp (aE g.fam).1,ι ((aE g.fam).2:Int),eR dq 7 true g.tc.zipIdx,eX g.nT (g.nx.map AV.s),V,ι (g.st:Int),eR iK 4 true g.lV,eR eF 9 true g.fI])=some (.ag (bx { g with pR:=L })):=by
 refine nX (n:=8) ?_;simp only[bx,aL,bZ,dH,nW (n:=7),Bt (n:=7),eu (n:=7) jD,eu (n:=7) ko,eu (n:=7) ju,j]
def EW {x c} (h:cG x=some c):∃v,x=some (.cells v c):=by
 rcases x with _|(_|_|_|_|_)<;>simp only[cG] at h;all_goals first|(cases h;done)|(injection h with h;subst h;exact⟨_,rfl⟩)
def aY1 p:wV (aM p)=true:=by
 simp only[aM,Ei,qR,uZ,tN];rfl
def BD {n} (h:n<=3):(fz n).length=n:=by unfold fz;rw[jm];simp;omega
variable (G:bz8 ae)
def aY2 (F:bz8 ae) {g} (ok:oy g) (pn:1<=g.pR.length) {left ii mk W V bs} (hi:ii<256) (hm:mk<256) {τ n1 v1 ob D}
 (hD: .ag (bx { g with pR:=g.pR++[mW g left ii mk bs] })=D) (c0:cG (ob.get 0)=some (bx g)) (c1:cG (ob.get 1)=some (xC left W ii mk)) (c2:cG (ob.get 2)=some [.sn,.sn,ι 0,.sn,.sn,.sn,ι 0,.sn,.sn])
 (c3:cG (ob.get 3)=some (cP [112,97+g.pR.length] (left%g.nT.length) V)) (hV:S0 ⟨n1,v1,ob⟩ (gP g.nT.length bs) V) (bQ:5<=n1) (t3:τ.get 3=some (.p 0 0)) (t4:τ.get 4=some (.p 1 0)) (t6:τ.get 6=some (.p 2 0)) (t8:τ.get 8=some (.p 3 0)):
 df C (.seq PJ (.seq PK (.seq PL (.seq PM .ret)))) [] (KF (λx h=>∃n,deep n h x=some D) [(6,some (9,true))]) τ ⟨n1,v1,ob⟩:=by
 have de:=c0;simp only[bx] at c0;simp only[cP] at c3;simp only[xC] at c1;have N:(gP g.nT.length bs).length<=4:=by unfold gP;rw[kU,jm];omega
 have Y:=BD ok.nc;have sp:=λh=>dR S (Ez (GL:=GL) S R A F (b:=ii) hi ok.nc) (n:=1) (by rfl) h;simp only[eT,eD] at sp;refine Z6 c0 c1 t3 t4 @iL Y ?_;refine E.cN (sp _) (Z4 c1 c3 t4 t8 ?_);have MC:∀j,cG (some j)=some [AV.s [112,97+g.pR.length],ι ((left%g.nT.length:Nat):Int),V,tp (aE (xj ii g.nc)).1,ι ((aE (xj ii g.nc)).2:Int),.b false,ι 0,.sn,.b false,ι 0,ι 0,ι 0,ι 0] ->∃ob':T bC,cG (ob'.get 0)=some (bx g)/\ cG (ob'.get 2)=some [.sn,.sn,ι 0,.sn,.sn,.sn,ι 0,.sn,.sn]/\ ob'.get 3=some j/\
  bP P X GL 174 [.ag [AV.s [112,97+g.pR.length],ι ((left%g.nT.length:Nat):Int),V,tp (aE (xj ii g.nc)).1,ι ((aE (xj ii g.nc)).2:Int),.b false,ι 0,.sn,.b false,ι 0,ι 0,ι 0,ι 0],.i .u8 (mk:Int)] ⟨n1,v1+1,ob.put 3 j⟩ (.ag (aM (mW g left ii mk bs))) ⟨n1,v1+1,ob'⟩:=by
  intro j h3;have mp:=aQ3 (GL:=GL) S G F (p:={ oO [112,97+g.pR.length] (left%g.nT.length) true (gP g.nT.length bs) with cond:=xj ii g.nc }) (m:=mk) hm ⟨rfl,rfl,rfl,rfl,rfl,rfl,rfl,rfl,rfl,N⟩;rcases hV with ⟨B,rfl⟩|⟨o,n,B,rfl,o5,lo,co⟩;have ea:[AV.ag [AV.s [112,97+g.pR.length],ι ((left%g.nT.length:Nat):Int),.sn,tp (aE (xj ii g.nc)).1,ι ((aE (xj ii g.nc)).2:Int),.b false,ι 0,.sn,.b false,ι 0,ι 0,ι 0,ι 0],.i .u8 (mk:Int)]=[.ag (aM { oO [112,97+g.pR.length] (left%g.nT.length) true (gP g.nT.length bs) with cond:=xj ii g.nc }),.i .u8 (mk:Int)]:=by
   simp only[aM,oO,B,qv,qJ]
  rw[ea];refine⟨ob.put 3 j,(W0 de),(W0 c2),U0,dR S mp (n:=9) ?_ _⟩;rw[aL,qy];rfl;obtain⟨vo,ho⟩:=EW co;dsimp only at ho lo;refine⟨(ob.put 3 j).put o .gone,(W0 de),(W0 c2),U0,J2 (vo:=vo) (c:=(gP g.nT.length bs).flatMap dO) (n:=9) S mp (U1 ho) ?_⟩;have J:gP g.nT.length bs≠[]:=λe=>by rw[e] at B;cases B
  rw[aL,aX9 (rn:=true) (right:=gP g.nT.length bs) (by
   rw[sM J,B];exact gA (by exact U0) (qZ yX _))]
  rfl
 obtain⟨ob',H,d2,d3,mc⟩:=MC (.cells (v1+1) _) rfl;simp only[aM] at mc;refine E.cN mc ?_;have b0:=H;simp only[bx] at H;have I:cG (ob'.get 3)=some [AV.s [112,97+g.pR.length],ι ((left%g.nT.length:Nat):Int),V,tp (aE (xj ii g.nc)).1,ι ((aE (xj ii g.nc)).2:Int),.b false,ι 0,.sn,.b false,ι 0,ι 0,ι 0,ι 0]:=by rw[d3];rfl
 have hl:(g.pR.flatMap aM).length=g.pR.length*13:=kh kr g.pR;have b1:=ok.pl;have AP:∀nx ver t,cG (T.get t n1)=some [] ->gU ⟨nx,ver,t⟩ 13 (.sl n1 0 0 (some 0) 13) (eR aM 13 true g.pR)= .v (.sl nx 0 g.pR.length none 13) ⟨nx+1,ver,t.put nx (.cells ver (g.pR.flatMap aM))⟩:=by
  intro nx ver t ht;have Z:g.pR≠[]:=λe=>by rw[e] at pn;simp at pn
  rw[sM Z];obtain⟨n,hn⟩:∃n,g.pR.length=n+1:=⟨g.pR.length-1,by omega⟩;rw[hn];exact Bv (mM (by rw[hl,hn])) (w7 aY1 g.pR) ht ω
 refine qX H d2 I t3 t6 t8 @iB AP hl @A7 ?_;refine⟨9,?_⟩;rw[←hD];refine aY0 (L:=g.pR++[mW g left ii mk bs]) ?_;have Z:g.pR++[mW g left ii mk bs]≠[]:=by simp
 rw[sM Z,dy];refine gA (l:=(g.pR++[mW g left ii mk bs]).flatMap aM) ?_ (qZ y7 _);have O:(n1+2+1=0)=False:=cE;have U:(n1+2+1=2)=False:=cE;simp only[T.get_put,O,U,bV,dZ,d9];rw[Bd,pO];rfl
def aY3 (F:bz8 ae) {g} (ok:oy g) (pn:1<=g.pR.length) {left ii mk W bs} (hi:ii<256) (hm:mk<256) {kn τ h D} (B: .ag (bx (kN g left ii mk bs kn))=D)
 (L:LI g W left ii mk [112,97+g.pR.length] (left%g.nT.length) (gP g.nT.length bs) τ h) (t2:τ.get 2=some (.b kn)):df C PO [] (KF (λx h=>∃n,deep n h x=some D) [(6,some (9,true))]) τ h:=by
 obtain⟨n1,v1,ob⟩:=h;obtain⟨c0,c1,c2,⟨V,c3,Z⟩,nx,t3,t4,t6,t7,t8,t9,t10⟩:=L;dsimp only at c0 c1 c2 c3;have Y:=c0;simp only[bx] at c0;simp only[cP] at c3;simp only[xC] at c1;have U:5<=n1:=nx;have N:(gP g.nT.length bs).length<=4:=by unfold gP;rw[kU,jm];omega
 have tl:tO (gP g.nT.length bs)<=4:=fJ (List.length_filter_le _ _) N;by_cases j:tO (gP g.nT.length bs)=0/\ (kn=true∨oP (left%g.nT.length) (gP g.nT.length bs)=false);have I:kN g left ii mk bs kn=g:=aF j;rw[I] at B;rw[j.1] at t9;rcases j.2 with J|H;subst J;refine Z7 c0 c2 t2 t3 t6 t9 t10 ?_;exact⟨9,by rw[←B];exact BC⟩
 ·rw[H] at t10;cases kn;all_goals
   refine Z7 c0 c2 t2 t3 t6 t9 t10 ?_;exact⟨9,by rw[←B];exact BC⟩
 have I:kN g left ii mk bs kn={ g with pR:=g.pR++[mW g left ii mk bs] }:=aD j
 rw[I] at B;have O:=λτ'=>aY2 (V:=V) S E R A G F ok pn (W:=W) (bs:=bs) (left:=left) (τ:=τ') hi hm B Y (by simp only[xC];exact c1) c2 (by simp only[cP];exact c3) Z U;show df C (.seq (.seq aH4 (.cond (.t 87) (.seq aH5 .ret) .skip)) (.seq PJ (.seq PK (.seq PL (.seq PM .ret))))) [] _ τ _;generalize (aw.seq PJ (.seq PK (.seq PL (.seq PM .ret))))=tl at O ⊢;by_cases h0:tO (gP g.nT.length bs)=0;have J:kn=false:=by cases kn with|false=>rfl|true=>exact bh ⟨h0,.inl rfl⟩ j
 have H:oP (left%g.nT.length) (gP g.nT.length bs)=true:=by
  cases H:oP (left%g.nT.length) (gP g.nT.length bs) with|true=>rfl|false=>exact bh ⟨h0,.inr H⟩ j
 rw[h0] at t9;rw[H] at t10;subst J;refine Z7 c0 c2 t2 t3 t6 t9 t10 ?_;exact O _ (by exact U1 t3) (by exact U1 t4) (by exact U1 t6) (by exact U1 t8);have hz:((tO (gP g.nT.length bs):Int)=0)=False:=cE;refine Z2 t9 hz ?_;exact O _ (by exact U1 t3) (by exact U1 t4) (by exact U1 t6) (by exact U1 t8)
def aY4 (F:bz8 ae) {g} (ok:oy g) (pn:1<=g.pR.length) {left ii mk W bs} (U:EA W bs) (hn:nice 64 W=true) (hl:left<256) (hi:ii<256) (hm:mk<256) {kn}:bg P X GL ae 91 [aI g,.ag (xC left W ii mk),.b kn] (.ag (bx (kN g left ii mk bs kn))):=by
 generalize hD:AV.ag (bx (kN g left ii mk bs kn))=D;have b0:=ok.ntl;have b1:=ok.pl;have J:aY .add (ι 97) (ι (g.pR.length:Int))=some (ι ((97+g.pR.length:Nat):Int)):=oH (a:=97) ω;have Z:dN .u8 ((97+g.pR.length:Nat):Int)=((97+g.pR.length:Nat):Int):=Rh ω;have wl:dN .i64 ((left:Nat):Int)=(left:Int):=lj ω;have rl:aY .rem (ι (left:Int)) (ι (g.nT.length:Int))=some (ι ((left%g.nT.length:Nat):Int)):=iA ω;have B1:∀(h':AH) (o:Nat) (c:Option Nat),cG (h'.oB.get o)=some [.i .u8 ((97+g.pR.length:Nat):Int)] ->J4 h' (.sl o 0 1 c 1)= .v (.s [97+g.pR.length]) h':=λh' o c hc=>aR2 ω hc;have B:aY .add (.s [112]) (.s [97+g.pR.length])=some (.s [112,97+g.pR.length]):=rfl;refine bg.intro λC E=> ?_;rw[E.cB (F.g 91 Er)];have rp:=λh=>dR S (aQ9 (name:=[112,97+g.pR.length]) (left:=left%g.nT.length) (rn:=true) (right:=[]) S R F) (n:=1) (by rfl) h;simp only[qv,aM,oO] at rp;refine sC @aI.eq_1 @bx.eq_1 @xC.eq_1 @iL J Z wl rl @SZ B1 B ?_;refine E.cN (rp _) (Z0 ?_);have b3:tO []=0:=rfl;refine fj E.ok (min bs.length 4) (λi τ h=>LI g W left ii mk [112,97+g.pR.length] (left%g.nT.length) ((bs.take i).map (l9 g.nT.length)) τ h/\ τ.get 2=some (.b kn)/\ τ.get 11=some (ι (i:Int))) ?_ ?_ _ _ ⟨{ c0:= ?_,c1:= ?_,c2:= ?_,c3:=⟨.sn,?_,.inl ⟨rfl,rfl⟩⟩,nx:=by show 5<=5;omega,t3:= ?_,t4:= ?_,t6:= ?_,t7:= ?_,t8:= ?_,t9:= ?_,t10:= ?_ },?_,?_⟩;rintro i τ h hi' ⟨L,t2,j⟩ ih;have hb:i<bs.length:=by omega
 have et:=aX8 (n:=g.nT.length) (bs:=bs) hi';rcases i with _|i;exact aR3 S E F ok U hn _ L t2 j hb λτ' h' L' H s11=>ih τ' h' ⟨by rw[et];exact L',H,s11⟩;exact aR4 S E F ok U hn (n:=i) (by rw[kU,jm];omega) _ L t2 j ω hb λτ' h' L' H s11=>ih τ' h' ⟨by rw[et];exact L',H,s11⟩;rintro τ h ⟨L,t2,j⟩;have e4:(bs.take (min bs.length 4)).map (l9 g.nT.length)=gP g.nT.length bs:=by
  unfold gP;congr 1;rcases zF bs.length 4 with h|h;rw[kF h,mR,vM h];rw[sY h]
 rw[e4] at L;have ta:=λτ' h' L' t2'=>aY3 (W:=W) (bs:=bs) (left:=left) (kn:=kn) (τ:=τ') (h:=h') S E R A G F ok pn hi hm hD L' t2';obtain⟨n1,v1,ob⟩:=h;obtain⟨c0,c1,c2,⟨V,c3,hV⟩,nx,t3,t4,t6,t7,t8,t9,t10⟩:=L;dsimp only at c0 c1 c2 c3;have N:=c1;simp only[xC] at c1;generalize PO=O at ta ⊢;have fin:∀τ':T AV,τ'.get 2=τ.get 2 ->τ'.get 3=τ.get 3 ->τ'.get 4=τ.get 4 ->τ'.get 6=τ.get 6 ->τ'.get 7=τ.get 7 ->τ'.get 8=τ.get 8 ->τ'.get 9=τ.get 9 ->τ'.get 10=τ.get 10 ->df C O [] (KF (λx h=>∃n,deep n h x=some D) [(6,some (9,true))]) τ' ⟨n1,v1,ob⟩:=λτ' H s3 s4 s6 s7 s8 s9 Y=>
  ta τ' _ { c0:=c0,c1:=N,c2:=c2,c3:=⟨V,c3,hV⟩,nx:=nx,t3:=by rw[s3,t3],t4:=by rw[s4,t4],t6:=by rw[s6,t6],t7:=by rw[s7,t7],t8:=by rw[s8,t8],t9:=by rw[s9,t9],t10:=by rw[Y,t10] } (by rw[H,t2])
 rcases U with ⟨aV,⟨rfl,rfl⟩|⟨Lw,rfl,hL⟩⟩;simp only[ji,av5,qJ] at j;refine Z3 c1 t4 j ?_;apply fin<;>exact U0;by_cases h4:bs.length<=4;rw[kF h4] at j;refine Z3 c1 t4 j ?_;apply fin<;>exact U0;rw[sY ω] at j;have b2:4<bs.length:=by omega
 have I:τ.get 11=some (ι 4):=j;refine Z3 c1 t4 I ?_;apply fin<;>exact U0;exact U1 @bx.eq_1;exact U1 @xC.eq_1;exact U0;exact U1 @cP.eq_1;all_goals first|(simp only[T.get_put,Nat.reduceEqDiff,reduceIte,qJ];done)|rfl
def qz (k a b c ii:Nat):List AV:=[.i .u8 (k:Int),.i .u8 (a:Int),.i .u8 (b:Int),.i .u8 (c:Int),.i .u8 (ii:Int)]
def pE (g:Gr) (a b c ii:Nat):Lv:=
 ⟨if b%g.pR.length≠a%g.pR.length/\ rh g.lV (b%g.pR.length)=false then [a%g.pR.length,b%g.pR.length] else [a%g.pR.length],c%4,xj ii g.nc⟩
def mY (g:Gr) (k a b c ii:Nat):Fi:=
 if k%8<4 then ⟨k%8-1,a%g.pR.length,c%16,b%g.pR.length,0,0,[],true,xj ii g.nc⟩
 else if k%8<6 then ⟨k%8-1,0,0,0,a%g.nT.length,0,[b%9],true,xj ii g.nc⟩
 else ⟨5,0,0,0,0,0,[5],true,xj ii g.nc⟩
def lB (g:Gr) (k a b c ii:Nat):Gr:=
 if k%8<2 then (if rh g.lV (a%g.pR.length)=true then g else { g with lV:=g.lV++[pE g a b c ii] })
 else if k%8=7 then { g with tc:=g.tc.set (a%9) (xj ii g.nc) }
 else if k%8<4/\ pz g (mY g k a b c ii)=false then g else { g with fI:=g.fI++[mY g k a b c ii] }
def aY5 {c a b r:List AV}:∀{j},eL c a j=some r ->eL c (a++b) j=some (r++b):=by
 intro j h;obtain⟨D,B⟩:=xQ h;rw[xP,aF (by rw[dy];omega),B,Ln ω,Lm ω];simp only[hZ]
def Tq {α:Type} {enc k} (B:∀a,(enc a).length=k) {c:List AV} {j x y} (h:eL c (enc x) j=some (enc y)):∀{L:List α} {i},L[i]? =some x ->eL c (L.flatMap enc) (i*k+j)=some ((L.set i y).flatMap enc)
 |[],i,hi=>by cases hi
 |a::L,0,hi=>by
  injection hi with hi;subst hi
  rw[lE,ue,gB,aY5 h];rfl
 |a::L,i+1,hi=>by
  have e:(i+1)*k+j=(enc a).length+(i*k+j):=by rw[B,vE];omega
  rw[lE,e,Ka,Tq B h (L:=L) (i:=i) hi];rfl
def aY6 {α:Type} {L:List α} {i x}:(L.set i x).zipIdx=L.zipIdx.set i (x,i):=by
 apply xz;intro j;rw[Cd,xF,xF,ny,Cd];by_cases h:i=j;subst h;by_cases h2:i<L.length<;>simp[h2];simp[h]
def aY7 {tc:List Tr} {i d} (hi:i<tc.length):eL [tp (aE d).1,ι ((aE d).2:Int)] (tc.zipIdx.flatMap dq) (i*7+5)=some ((tc.set i d).zipIdx.flatMap dq):=by
 rw[aY6];refine Tq (x:=(tc[i],i)) qx rfl ?_;rw[Cd,ef hi];simp
def Ko {α enc k} (D:∀a,(enc a).length=k) (H:∀a,wV (enc a)=true) {L:List α} (B:L≠[]) (J:L.length<=1000) {nl} o nx ver t (I:cG (t.get o)=some []):
 gU ⟨nx,ver,t⟩ k (.sl o 0 0 (some 0) k) (eR enc k nl L)= .v (.sl nx 0 L.length none k) ⟨nx+1,ver,t.put nx (.cells ver (L.flatMap enc))⟩:=by
 rw[sM B];obtain⟨n,j⟩:∃n,L.length=n+1:=⟨L.length-1,by have:=xG.2 B;omega⟩;rw[j];exact Bv (mM (by rw[kh D,j])) (w7 H L) I ω
def aY8 x:wV (dq x)=true:=by
 simp only[dq,Ei,qR,uZ,tN];rfl
def aY9 x:wV (iK x)=true:=by
 simp only[iK,Ei,qR,uZ,tN];rfl
def aZ0 x:wV (eF x)=true:=by
 simp only[eF,Ei,qR,uZ,tN];rfl
def Kp {n h}:∀{a b a' b'},bJ n h a=some a' ->bJ n h b=some b' ->bJ n h (a++b)=some (a'++b')
 |[],b,a',b',h1,h2=>by injection h1 with h1;subst h1;exact h2
 |x::a,b,a',b',h1,h2=>by
  rw[aL] at h1;rw[gw,aL];rcases B:deep n h x with _|y;rw[B] at h1;cases h1;rcases j:bJ n h a with _|r;rw[B,j] at h1;cases h1;rw[B,j] at h1;injection h1 with h1;subst h1;rw[Kp j h2];rfl
def mZ {α enc k n h o L} {x:α} {j c} (hd:∀a,bJ n h (enc a)=some (enc a)) (D:bJ n h j=some (enc x)) (B:cG (h.oB.get o)=some (L.flatMap enc++j)):
 deep (n+1) h (.sl o 0 (L.length+1) c k)=some (eR enc k true (L++[x])):=by
 rw[sM (by simp),dy,Bd,pO];exact gA B (Kp (qZ hd L) D)
def ze {n h V ps} {j:Nat} {st} (B:deep (n+1) h V=some (eR cI 1 true ps)):bJ (n+1) h [V,ι (j),tp (aE st).1,ι ((aE st).2:Int)]=some (iK ⟨ps,j,st⟩):=by
 simp only[iK,aL,bZ,dH,nW,B]
def pF {n h V f} (j:deep (n+1) h V=some (eR cI 1 f.tn f.tO)):bJ (n+1) h [ι (f.kind:Int),ι (f.par:Int),ι (f.at_:Int),ι (f.child:Int),ι (f.left:Int),ι (f.tok:Int),V,tp (aE f.cond).1,ι ((aE f.cond).2:Int)]=some (eF f):=by
 simp only[eF,aL,bZ,dH,nW,j]
def md {h nc cx fam tc nT nx ps lV fI} {st:Nat} {VT VL VF} (D:deep 8 h VT=some (eR dq 7 true tc.zipIdx)) (B:deep 8 h VL=some (eR iK 4 true lV)) (j:deep 8 h VF=some (eR eF 9 true fI)):
 deep 9 h (.ag [eX (fz nc) (cx.map AV.s),tp (aE fam).1,ι ((aE fam).2:Int),VT,eX nT (nx.map AV.s),eR aM 13 true ps,ι (st),VL,VF])=some (.ag (bx ⟨nc,cx,fam,tc,nT,nx,ps,lV,fI,st⟩)):=by
 refine nX (n:=8) ?_;simp only[bx,aL,bZ,dH,nW (n:=7),Bt (n:=7),D,B,j,eu (n:=7) y7]
def Ts {g} {p:Nat} (ok:oy g) h:bP P X GL 175 [aI g,ι (p)] h (.b (rh g.lV p)) h:=ku S (λn h=>by simp only[aL,bZ,dH]) (aR1 S F ok) h
def aZ1 (G:bz8 ae) (F:bz8 ae) {g} (ok:oy g) (pn:1<=g.pR.length) {k a b c ii} (Z:k<256) (W:a<256) (hb:b<256) (Y:c<256) (hi:ii<256) {D} (N: .ag (bx (lB g k a b c ii))=D) (I:k%8=7):du C 92 [aI g,.ag (qz k a b c ii)] h0 λx h=>∃n,deep n h x=some D:=by
 have U:=ok.pl;have H:=BD ok.nc;have r8:aY .rem (.i .u8 (k:Int)) (.i .u8 8)=some (.i .u8 ((k%8:Nat):Int)):=yD (c:=8) ω;have V:dN .i64 (a:Int)=(a:Int):=lj ω;have ra:aY .rem (ι (a:Int)) (ι (g.pR.length:Int))=some (ι ((a%g.pR.length:Nat):Int)):=iA ω;have r9:aY .rem (ι (a:Int)) (ι 9)=some (ι ((a%9:Nat):Int)):=iA (c:=9) ω;have J:=λh=>dR S (Ez (GL:=GL) S R A F (b:=ii) hi ok.nc) (n:=1) (by rfl) h;simp only[eT,eD] at J;refine E.bS (F.f 92) (Z5 @aI.eq_1 @bx.eq_1 @qz.eq_1 @iL H ?_);refine E.cN (J _) ?_;have B:g.tc.zipIdx.length=11:=by rw[ny,ok.tcl]
 have AP:=Ko (nl:=true) (L:=g.tc.zipIdx) qx aY8 (λe=>by rw[e] at B;cases B) ω;rw[B] at AP;have ov:=aY7 (tc:=g.tc) (i:=a%9) (d:=xj ii g.nc) (by rw[ok.tcl];omega);refine Z8 V ra r9 r8 I @iB AP ov ?_;refine⟨9,?_⟩;have O:lB g k a b c ii={ g with tc:=g.tc.set (a%9) (xj ii g.nc) }:=by unfold lB;rw[aD ω,aF I]
 rw[←N,O];have j:(g.tc.set (a%9) (xj ii g.nc)).zipIdx.length=11:=by rw[ny,vK,ok.tcl]
 refine md ?_ (eu (n:=7) ko) (eu (n:=7) ju);rw[sM (L:=(g.tc.set (a%9) (xj ii g.nc)).zipIdx) (λe=>by rw[e] at j;cases j),j];exact gA rfl (qZ jD _)
def aZ2 (G:bz8 ae) (F:bz8 ae) {g} (ok:oy g) (pn:1<=g.pR.length) {k a b c ii} (hk:k<256) (ha:a<256) (hb:b<256) (hc:c<256) (hi:ii<256) {D} (B: .ag (bx (lB g k a b c ii))=D) (k7:k%8<2):du C 92 [aI g,.ag (qz k a b c ii)] h0 λx h=>∃n,deep n h x=some D:=by
 have b1:=ok.pl;have b0:=ok.ll;have V:=BD ok.nc;have r8:aY .rem (.i .u8 (k:Int)) (.i .u8 8)=some (.i .u8 ((k%8:Nat):Int)):=yD (c:=8) ω;have r4:aY .rem (.i .u8 (c:Int)) (.i .u8 4)=some (.i .u8 ((c%4:Nat):Int)):=yD (c:=4) ω;have Z:dN .i64 (a:Int)=(a:Int):=lj ω;have wb:dN .i64 (b:Int)=(b:Int):=lj ω;have wc:dN .i64 ((c%4:Nat):Int)=((c%4:Nat):Int):=lj ω;have ra:aY .rem (ι (a:Int)) (ι (g.pR.length:Int))=some (ι ((a%g.pR.length:Nat):Int)):=iA ω;have rb:aY .rem (ι (b:Int)) (ι (g.pR.length:Int))=some (ι ((b%g.pR.length:Nat):Int)):=iA ω;have Y:=λh=>dR S (Ez (GL:=GL) S R A F (b:=ii) hi ok.nc) (n:=1) (by rfl) h;have W:=λh=>Ts (GL:=GL) S F (p:=a%g.pR.length) ok h;have lb:=λh=>Ts (GL:=GL) S F (p:=b%g.pR.length) ok h;simp only[eT,eD] at Y;simp only[aI,bx] at W lb;refine E.bS (F.f 92) (Z5 @aI.eq_1 @bx.eq_1 @qz.eq_1 @iL V ?_);refine E.cN (Y _) ?_;rw[lB,aF k7] at B;have AP:=λ(h:g.lV≠[])=>Ko (nl:=true) (L:=g.lV) Ev aY9 h ω;have U:(g.lV.flatMap iK).length=g.lV.length*4:=kh Ev g.lV;rcases(show k%8=0∨k%8=1 by omega) with k0|k0;all_goals
  refine Z4 Z ra r8 k0 ?_;refine E.cN (W _) ?_;cases J:rh g.lV (a%g.pR.length) with
  |true=>
   rw[J,aF rfl] at B;refine Z4 Z ra r8 k0 ?_;exact⟨9,by rw[←B];exact BC⟩
  |false=>
   rw[J,aD (by decide)] at B;by_cases O:b%g.pR.length=a%g.pR.length;have I:(((b%g.pR.length:Nat):Int)=((a%g.pR.length:Nat):Int))=True:=cJ;refine Z5 wb wc rb r4 I ?_;have H:pE g a b c ii=⟨[a%g.pR.length],c%4,xj ii g.nc⟩:=by unfold pE;rw[aD (λh=>h.1 O)]
   by_cases j:g.lV=[];have AP0:∀h o,gU h 4 (.sl o 0 0 (some 0) 4) (eR iK 4 true g.lV)= .v (.sl o 0 0 (some 0) 4) h:=λh o=>by rw[j];rfl
   refine Z2 @iB AP0 ?_;refine⟨9,?_⟩;rw[←B,H,show g.lV++[(⟨[a%g.pR.length],c%4,xj ii g.nc⟩:Lv)]=[]++[(⟨[a%g.pR.length],c%4,xj ii g.nc⟩:Lv)] by rw[j]];exact md (eu (n:=7) jD) (mZ (n:=7) (L:=[]) ko (ze (n:=6) (ps:=[a%g.pR.length]) (gA rfl rfl)) rfl) (eu (n:=7) ju);refine Z3 @iB (AP j) U ?_;refine⟨9,?_⟩;rw[←B,H];exact md (eu (n:=7) jD) (mZ (n:=7) (L:=g.lV) ko (ze (n:=6) (ps:=[a%g.pR.length]) (gA rfl rfl)) rfl) (eu (n:=7) ju);have I:(((b%g.pR.length:Nat):Int)=((a%g.pR.length:Nat):Int))=False:=cE;refine Z5 wb wc rb r4 I ?_;refine E.cN (lb _) ?_;cases N:rh g.lV (b%g.pR.length) with
   |true=>
    have H:pE g a b c ii=⟨[a%g.pR.length],c%4,xj ii g.nc⟩:=by unfold pE;rw[aD (λh=>by rw[N] at h;cases h.2)]
    by_cases j:g.lV=[];have AP0:∀h o,gU h 4 (.sl o 0 0 (some 0) 4) (eR iK 4 true g.lV)= .v (.sl o 0 0 (some 0) 4) h:=λh o=>by rw[j];rfl
    refine Z2 @iB AP0 ?_;refine⟨9,?_⟩;rw[←B,H,show g.lV++[(⟨[a%g.pR.length],c%4,xj ii g.nc⟩:Lv)]=[]++[(⟨[a%g.pR.length],c%4,xj ii g.nc⟩:Lv)] by rw[j]];exact md (eu (n:=7) jD) (mZ (n:=7) (L:=[]) ko (ze (n:=6) (ps:=[a%g.pR.length]) (gA rfl rfl)) rfl) (eu (n:=7) ju);refine Z3 @iB (AP j) U ?_;refine⟨9,?_⟩;rw[←B,H];exact md (eu (n:=7) jD) (mZ (n:=7) (L:=g.lV) ko (ze (n:=6) (ps:=[a%g.pR.length]) (gA rfl rfl)) rfl) (eu (n:=7) ju)
   |false=>
    have H:pE g a b c ii=⟨[a%g.pR.length,b%g.pR.length],c%4,xj ii g.nc⟩:=by unfold pE;rw[aF ⟨O,N⟩]
    by_cases j:g.lV=[];have AP0:∀h o,gU h 4 (.sl o 0 0 (some 0) 4) (eR iK 4 true g.lV)= .v (.sl o 0 0 (some 0) 4) h:=λh o=>by rw[j];rfl
    refine Z2 @iB AP0 ?_;refine⟨9,?_⟩;rw[←B,H,show g.lV++[(⟨[a%g.pR.length,b%g.pR.length],c%4,xj ii g.nc⟩:Lv)]=[]++[(⟨[a%g.pR.length,b%g.pR.length],c%4,xj ii g.nc⟩:Lv)] by rw[j]];exact md (eu (n:=7) jD) (mZ (n:=7) (L:=[]) ko (ze (n:=6) (ps:=[a%g.pR.length,b%g.pR.length]) (gA rfl rfl)) rfl) (eu (n:=7) ju);refine Z3 @iB (AP j) U ?_;refine⟨9,?_⟩;rw[←B,H];exact md (eu (n:=7) jD) (mZ (n:=7) (L:=g.lV) ko (ze (n:=6) (ps:=[a%g.pR.length,b%g.pR.length]) (gA rfl rfl)) rfl) (eu (n:=7) ju)
end
end AM
