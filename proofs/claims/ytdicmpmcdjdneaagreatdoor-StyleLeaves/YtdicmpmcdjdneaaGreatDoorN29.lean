import Derived.Test.YtdicmpmcdjdneaaGreatDoorN27
import Derived.Test.YtdicmpmcdjdneaaGreatDoorN28
set_option linter.all false
set_option maxHeartbeats 8000000
namespace AM
open Dg Go
noncomputable section
def KE (g:Gr) (c:Nat) (B:AV) (kk:Nat) (L:List Nat) (o:Nat) (a:Nat) (N:List Tn) (ov:AV) (h:AH) (k:AV ->AH ->Prop) (Q:List Tn ->Prop):Prop:=
 ∀a' N1 ov' h',a<=a' ->a'<=kk ->Q N1 ->h.next<=h'.next ->jU o h'.next h' ov' (N++N1) ->(∀j n,ov'= .sl j 0 n none 4 ->h.next<=j) ->cG (h'.oB.get o)=some (gW g c B kk L a' ov') ->(∀j,j<h.next ->j≠o ->(∀n,ov≠.sl j 0 n none 4) ->h'.oB.get j=h.oB.get j) ->k (.tu []) h'
variable {P:Program} {X:aR} {GL:T (List AV)} {ae:T au}
def jU.nice {o b:Nat} {h:AH} {ov:AV} {N:List Tn} (H:jU o b h ov N):nice 64 ov=true:=by rcases H with ⟨-,rfl⟩|⟨oo,cs,tt,rfl,-⟩<;>rfl
variable (S:aT P X GL ae) {C:aK Prop} (E:Sem P X GL ae C)
variable {c kk o:Nat} {B ov:AV} {h:AH}
variable (F:bz8 ae) (M:tZ P X GL ae)
def KG {g} (G:oy g) (hc:c<8) {L a nd} (hB:oV B kk) (ha:a<=kk) {N} (ho:cG (h.oB.get o)=some (gW g c B kk L a ov)) (lo:o<h.next)
 {m0} (H:jU o m0 h ov N) (hN:N.length<=1000000) (l0:o<m0) (l1:m0<=nd) (W:nd<h.next) {x s} (cn:cG (h.oB.get nd)=some [ι (-1),ι x,.s s,.sn]) {τ} (t0:τ.get 0=some (.p o 0)) (t5:τ.get 5=some (.p nd 0)) {Y hb} (b4:hb.next=m0)
 (old:∀j,j<m0 ->j≠o ->h.oB.get j=hb.oB.get j) {a0} (b3:a0<=a) {Q} (hQ:∀R,PG R ->Q [⟨-1,x,s,R⟩]) {k} (hk:KE g c B kk L o a0 N ov hb k Q):
 df C E8 [.s Y] (KF k []) τ h:=by
 obtain⟨n0,v0,ob0⟩:=h;dsimp only at ho lo W cn old;unfold E8;refine Y1 t0 ?_;refine E.run (Uf S E F M G hc hB ha ho lo _ λrv R a1 h1 ha1 ha2 dS ho1 dD hRm hR=> ?_);have H1:=H.mono (o:=o) (bB _) λj A D=>dD j (by show j<n0;omega) D;obtain⟨n1,v1,aQ⟩:=h1;dsimp only at dS ho1 dD;have J:cG (aQ.get nd)=some [ι (-1),ι x,.s s,.sn]:=by rw[dD nd W ω];exact cn
 have b5:=H.nice;have b2:=ho1;simp only[gW,Ej,bx,gw,gx] at ho1;have O:cellsOf rv=[rv]:=by rcases hR with ⟨-,rfl⟩|⟨-,q,-,-,rfl,-⟩<;>rfl
 have I:ew rv=true:=by rcases hR with ⟨-,rfl⟩|⟨-,q,-,-,rfl,-⟩<;>rfl
 rcases H1 with ⟨rfl,rfl⟩|⟨oo,cs,tt,rfl,e2,e3,e4,e5,e6,e7,e8,e9⟩;refine Y7 t0 t5 J ho1 O I @iP ?_;obtain⟨tt,d1,d2⟩:=Fa (x:= -1) (y:=x) (s:=s) (tt:=⟨0,0,.e⟩) (cs:=[]) (N:=[]) hR rfl λj v l A=>by cases A
 refine hk a1 [⟨-1,x,s,R⟩] (.sl (n1+1) 0 1 none 4) _ ω ha2 (hQ R hRm) (by show hb.next<=n1+1+1;omega) (.inr ⟨n1+1,[ι (-1),ι x,.s s,rv],tt,rfl,by simp,by omega,by show n1+1<n1+1+1;omega,U0,?_,rfl,d1,λj v l A=> ?_⟩) (λj n e=>by cases e;show hb.next<=n1+1;omega) U0 λj A D _=> ?_;simp only[Ei,qR,I];rfl;rcases d2 j v l A with A|⟨n,e,A⟩;cases A;rcases hR with ⟨-,rfl⟩|⟨-,q,h2,U,rfl,-⟩;cases e;cases e;have b0:n0<=j:=h2;have V:j<n1:=U;have Z:(j=nd)=False:=cE;have w2:(j=n1)=False:=cE;have w3:(j=n1+1)=False:=cE;have w4:(j=o)=False:=cE;refine⟨by show j<n1+1+1;omega,by omega,by omega,?_⟩;exact wW (ec Z (ec w2 (ec w3 w4))) A;have Z:(j=nd)=False:=cE;have w2:(j=n1)=False:=cE;have w3:(j=n1+1)=False:=cE;have w4:(j=o)=False:=cE;exact wW (ec Z (ec w2 (ec w3 w4))) ((dD j ω D).trans (old j ω D));have y1:(oo=nd)=False:=cE;refine nS t0 t5 J ho1 O I @iP e5 e7 y1 ?_;obtain⟨b1,d1,d2⟩:=Fa (x:= -1) (y:=x) (s:=s) hR e8 λj v l A=>(e9 j v l A).2.2.2;have fr:∀j,j<n1 ->j≠nd ->j≠oo ->j≠o ->∀ob,aQ.get j=ob ->((((((aQ.put nd (.cells (v1+1) [ι (-1),ι x,.s s,rv])).put n1 (.cells (v1+1) [ι (-1),ι x,.s s,rv])).put oo .gone).put (n1+1) (.cells (v1+1+1+1) (cs++[ι (-1),ι x,.s s,rv]))).put o
  (.cells (v1+1+1+1+1) (gW g c B kk L a1 (.sl (n1+1) 0 (N.length+1) none 4))))).get j=ob:=λj h1 h2 U h4 ob e=>by
  have Z:(j=nd)=False:=dQ h2;have w2:(j=n1)=False:=cE;have w3:(j=n1+1)=False:=cE;have w4:(j=o)=False:=dQ h4;have w5:(j=oo)=False:=dQ U;exact wW (ec Z (ec w2 (ec w3 (ec w4 w5)))) e
 refine hk a1 [⟨-1,x,s,R⟩] (.sl (n1+1) 0 (N.length+1) none 4) _ ω ha2 (hQ R hRm) (by show hb.next<=n1+1+1;omega) (.inr ⟨n1+1,cs++[ι (-1),ι x,.s s,rv],b1,by rw[dy];rfl,by simp,by omega,by show n1+1<n1+1+1;omega,U0,?_,by rw[dy,dy,e7];simp;omega,d1,λj v l A=> ?_⟩) (λj n e=>by cases e;show hb.next<=n1+1;omega) U0 λj A D xt=> ?_;rw[KD,e6];simp only[Ei,qR,I];rfl;rcases d2 j v l A with A|⟨n,e,A⟩;obtain⟨f1,f2,f3,f4⟩:=e9 j v l A;exact⟨by show j<n1+1+1;omega,f2,by omega,fr j ω ω f3 ω _ f4⟩;rcases hR with ⟨-,rfl⟩|⟨-,q,h2,U,rfl,-⟩;cases e;cases e;have b0:n0<=j:=h2;have V:j<n1:=U;exact⟨by show j<n1+1+1;omega,by omega,by omega,fr j V ω ω ω _ A⟩;exact fr j ω ω (λe=>xt N.length (by rw[e])) D _ ((dD j ω D).trans (old j ω D))
def bf3 {r} (h:r<6):sub [AV.s [120],AV.s [121],AV.s [97,98],AV.s [105,102],AV.s [122],AV.s [101,108,115,101]] r 1=some [AV.s (sS r)]:=by
 rcases(show r=0∨r=1∨r=2∨r=3∨r=4∨r=5 by omega) with rfl|rfl|rfl|rfl|rfl|rfl<;>rfl
def bf5 {i} (h:1<=i/\ i<9):jQ i≠[]:=by
 rcases(show i=1∨i=2∨i=3∨i=4∨i=5∨i=6∨i=7∨i=8 by omega) with rfl|rfl|rfl|rfl|rfl|rfl|rfl|rfl<;>simp[jQ,kj]
def bf6 {g} (G:oy g) (hc:c<8) {L a i} (Z:oV B kk) (ha:a<=kk) (hi:i<9) {N} (W:cG (h.oB.get o)=some (gW g c B kk L a ov)) (lo:o<h.next)
 (H:jU o h.next h ov N) (hN:N.length<=1000000) {Q} (hQ:∀s R,bF6 i s ->PG R ->Q [⟨-1,(i),s,R⟩]) {k} (hk:KE g c B kk L o a N ov h k Q):du C 95 [.p o 0,.ag [.b true,ι (i)]] h k:=by
 have b0:=F.g 95 aL2;have hH:=H;obtain⟨n0,v0,ob0⟩:=h;dsimp only at W lo;have b3:g.tc.zipIdx.length=11:=by rw[ny,G.tcl]
 obtain⟨tc,b2,hz⟩:=re (g:=g) G.tcl (i:=i) ω;have e7:sub (g.tc.zipIdx.flatMap dq) (i*7) 7=some (dq (tc,i)):=cW qx hz (j:=0) (n:=7) ω;have b1:nice 64 (.ag (dq (tc,i)))=true:=by rw[qe,oM]
 simp only[dq] at e7 b1;have bT:=W;simp only[gW,Ej,bx,gw,gx] at W;have z1:(o=n0)=False:=cE;have z2:(o=n0+1)=False:=cE;have z3:(o=n0+1+1)=False:=cE;rw[yN E.ok (E.get b0)];by_cases h0:i=0;subst h0;have hl:jQ 0=[]:=rfl;have hs:wZ 0=[120]:=rfl;refine Y4 W e7 hl hs ?_;refine E.run (KA (n:=6) (a:=a) (g:=g) (L:=L) (ov:=ov) (c:=c) E F Z ha ω (wW (ec z1 (ec z2 z3)) bT) _ λr a1 h1 hr U V dS O Y=> ?_);obtain⟨n1,v1,aQ⟩:=h1;obtain rfl:n1=n0+1+1+1:=dS;dsimp only at O Y;obtain⟨b,hb⟩:=M.id r hr;have wc:∀h,bP P X GL 180 [.ag [.s (kj 0),ι (l7 0:Int),.s [],eR iF 5 true (jg 0),.s [120],tp (aE tc).1,ι ((aE tc).2:Int)],.s (sS r)] h (.b b) h:=λh=>Ue (t:=tc) S F (.inl rfl) hb h;have es:=bf3 hr;have c1:cG (aQ.get (n0+1))=some [.s (kj 0),ι (l7 0:Int),.s [],eR iF 5 true (jg 0),.s [120],tp (aE tc).1,ι ((aE tc).2:Int)]:=by
  rw[Y _ ω];exact U0
 have c2:cG (aQ.get (n0+1+1))=some [ι (-1),ι ((0:Nat):Int),.s [120],.sn]:=by
  rw[Y _ ω];exact U0
 have I:∀j,j<n0 ->j≠o ->aQ.get j=ob0.get j:=λj D A=>by
  rw[Y j A];have J:(j=n0)=False:=cE;have w2:(j=n0+1)=False:=cE;exact U0
 have y1:(o=n0+1+1+1)=False:=cE;have b4:=H.nice;refine Y2 c1 es ?_;refine E.cN (wc _) ?_;cases b;refine Y1 c2 ?_;refine KG (a:=a1) (N:=N) (m0:=n0) (nd:=n0+1+1) (x:=((0:Nat):Int)) (s:=[120]) S E F M G hc Z V ?_ (by show o<n0+1+1+1+1;omega) (jU.mono H (bB _) λj D A=> ?_) hN lo ω (by show n0+1+1<n0+1+1+1+1;omega) ?_ ?_ ?_ (hb:=⟨n0,v0,ob0⟩) rfl (λj D A=> ?_) U (λR hR=>hQ _ R (.inr (.inl rfl)) hR) hk;exact wW y1 O;have J:(j=n0+1+1+1)=False:=dQ (by have:j<n0:=D;omega);exact wW J (I j D A);(iterate 3 exact U1 c2);have J:(j=n0+1+1+1)=False:=cE;exact wW J (I j D A);refine Y1 c2 ?_;refine KG (a:=a1) (N:=N) (m0:=n0) (nd:=n0+1+1) (x:=((0:Nat):Int)) (s:=sS r) S E F M G hc Z V ?_ (by show o<n0+1+1+1+1;omega) (jU.mono H (bB _) λj D A=> ?_) hN lo ω (by show n0+1+1<n0+1+1+1+1;omega) ?_ ?_ ?_ (hb:=⟨n0,v0,ob0⟩) rfl (λj D A=> ?_) U (λR hR=>hQ _ R (.inr (.inr ⟨r,hr,rfl⟩)) hR) hk;exact wW (ec y1 z3) O;have J:(j=n0+1+1+1)=False:=dQ (by have:j<n0:=D;omega);have w2:(j=n0+1+1)=False:=dQ (by have:j<n0:=D;omega);exact wW (ec J w2) (I j D A);(iterate 3 exact U0);have J:(j=n0+1+1+1)=False:=cE;have w2:(j=n0+1+1)=False:=cE;exact wW (ec J w2) (I j D A);have hl:(jQ i=[])=False:=dQ (bf5 ω);refine Y3 W e7 hl ?_;have I:∀j,j<n0 ->(((((ob0.put n0 (.cells v0 [.b true,ι (i:Int)])).put (n0+1) (.cells v0 [.s [],ι 0,.s [],.sn,.s [],.sn,ι 0])).put (n0+1)
  (.cells (v0+1+1) [.s (kj i),ι (l7 i:Int),.s (jQ i),eR iF 5 true (jg i),.s (wZ i),tp (aE tc).1,ι ((aE tc).2:Int)])).put (n0+1+1) (.cells (v0+1+1) [ι 0,ι 0,.s [],.sn])).put
  (n0+1+1) (.cells (v0+1+1+1) [ι (-1),ι (i:Int),.s (jQ i),.sn])).get j=ob0.get j:=λj D=>by
  exact U0
 refine KG (a:=a) (N:=N) (m0:=n0) (nd:=n0+1+1) (x:=(i:Int)) (s:=jQ i) S E F M G hc Z ha ?_ (by show o<n0+1+1+1;omega) (jU.mono H (bB _) λj D A=> ?_) hN lo ω (by show n0+1+1<n0+1+1+1;omega) ?_ ?_ ?_ (hb:=⟨n0,v0,ob0⟩) rfl (λj D A=> ?_) (bB _) (λR hR=>hQ _ R (.inl rfl) hR) hk;rw[show _=ob0.get o from I o lo];exact bT;exact I j D;(iterate 3 exact U0);exact I j D
def Ek:Nat ->Nat
 |0=>1
 |h+1=>1+8*Ek h
def Uh:∀h,1<=Ek h
 |0=>bB _
 |h+1=>xJ _ _
def Fb:∀{a b},a<=b ->Ek a<=Ek b
 |0,b,_=>Uh b
 |a+1,b+1,h=>by have:=Fb (show a<=b by omega);show 1+8*Ek a<=1+8*Ek b;omega
def qC (L:List Nat) (s:Bool×Nat):Nat:=if s.1 then 1 else Ek (vL L s.2)
def Lz (L:List Nat) (s:Bool×Nat):Nat:=if s.1 then 0 else vL L s.2+1
def mj (kk a n:Nat):Prop:=kk<=a∨40<n
def qD (l:Nat):Nat:=41+(41-l)*4680
def QQ (L:List Nat) (s:Bool×Nat) (kk a n:Nat) (n1:Nat):Prop:=1<=n1/\ (mj kk a n ->n1<=qC L s)/\ (¬mj kk a n ->n+n1<=qD n)
def Fc (g:Gr) (L:List Nat) (s:Bool×Nat):Prop:=(s.1=true/\ s.2<9)∨(s.1=false/\ s.2<g.nT.length/\ vL L s.2<1000)
def bT0 (g:Gr) (s:Bool×Nat) (N:List Tn):Prop:=∃f,Fo.ok g [s] f/\ f.fl=N
def Ui (C:aK Prop) (g:Gr) (c:Nat) (B:AV) (kk:Nat) (L:List Nat) (o m:Nat):Prop:=∀(s:Bool×Nat) (a:Nat) (N:List Tn) (ov:AV) (h:AH) (k:AV ->AH ->Prop),(kk-a)*10+Lz L s<m ->a<=kk ->Fc g L s ->(mj kk a N.length ->N.length+qC L s<=191921) ->jU o h.next h ov N ->
 cG (h.oB.get o)=some (gW g c B kk L a ov) ->o<h.next ->KE g c B kk L o a N ov h k (λN1=>QQ L s kk a N.length N1.length/\ bT0 g s N1) ->du C 95 [.p o 0,.ag (dO s)] h k
def Uj {g} (G:oy g) {L m} (IH:Ui C g c B kk L o m) (hB:oV B kk) {pi:Nat} {p} (hp:g.pR[pi]? =some p) {hx a1 m0} (b0:∀s∈p.right,Fc g L s/\ Lz L s<=hx) (hm:(kk-a1)*10+hx<m) (c6:a1<=kk)
 (J:Nat ->Nat ->Nat ->Prop) (Jlim:∀i a n s,p.right[i]? =some s ->J i a n ->mj kk a n ->n+qC L s<=191921) (Jstep:∀i a n s D n1,p.right[i]? =some s ->J i a n ->a<=D ->QQ L s kk a n n1 ->J (i+1) D (n+n1))
 {N0} {ob0:T bC} (l0:o<m0) {oz:Nat ->Prop} {k τ} (t0:τ.get 0=some (.p o 0)) (t8:τ.get 8=some (ι (pi))) (Z:m0<=h.next) (old:∀j,j<m0 ->j≠o ->¬oz j ->h.oB.get j=ob0.get j) {N1} (R:J 0 a1 (N0++N1).length) (V:jU o h.next h ov (N0++N1)) (I:∀j n,ov= .sl j 0 n none 4 ->m0<=j) (H:cG (h.oB.get o)=some (gW g c B kk L a1 ov))
 (fin:∀D N2 A h',(∃f,Fo.ok g p.right f/\ N2=N1++f.fl) ->J p.right.length D (N0++N2).length ->a1<=D ->D<=kk ->m0<=h'.next ->jU o h'.next h' A (N0++N2) ->(∀j n,A= .sl j 0 n none 4 ->m0<=j) ->cG (h'.oB.get o)=some (gW g c B kk L D A) ->(∀j,j<m0 ->j≠o ->¬oz j ->h'.oB.get j=ob0.get j) ->k (.tu []) h'):
 df C E9 [] (KF k []) τ h:=by
 have pl:=G.pl;have rl:=(G.p p (dI hp)).len;have d3:=(eC.1 hp).1;have e2:sub (g.pR.flatMap aM) (pi*13+2) 1=some [eR dO 2 p.rn p.right]:=cW kr hp (j:=2) (n:=1) ω;unfold E9;refine Y0 ?_;refine fj E.ok p.right.length (λi τ h=>τ.get 0=some (.p o 0)/\ τ.get 8=some (ι (pi:Int))/\ τ.get 9=some (ι (i:Int))/\ m0<=h.next/\ (∀j,j<m0 ->j≠o ->¬oz j ->h.oB.get j=ob0.get j)/\∃D N2 A,(∃f,Fo.ok g (p.right.take i) f/\ N2=N1++f.fl)/\ J i D (N0++N2).length/\ a1<=D/\ D<=kk/\ jU o h.next h A (N0++N2)/\ (∀j n,A= .sl j 0 n none 4 ->m0<=j)/\ cG (h.oB.get o)=some (gW g c B kk L D A)) ?_ ?_ _ _ ⟨?_,?_,?_,Z,old,a1,N1,ov,⟨.nil,trivial,(lG _).symm⟩,R,bB _,c6,V,I,H⟩;rintro i τ ⟨n1,v1,ob⟩ hi ⟨t0,t8,t9,Z,old,D,N2,A,⟨f,hf,O⟩,R,W,N,V,I,H⟩ ih;have U:p.right[i]? =some p.right[i]:=ef hi;generalize p.right[i]=s at U;have q2:sub (p.right.flatMap dO) (i*2) 2=some (dO s):=cW gO U (j:=0) (n:=2) ω;obtain⟨d1,d4⟩:=b0 s (dI U);have bT:=H;dsimp only at H;simp only[gW,Ej,bx,gw,gx] at H;refine Y6 H t0 t8 t9 e2 q2 ?_;have c7:m0<=n1:=Z;refine E.run (IH s D (N0++N2) A ⟨n1,v1,ob⟩ _ ω N d1 (Jlim i D _ s U R) V bT (by show o<n1;omega) λa2 N3 ov2 h2 b1 b2 ⟨b3,f3,hf3,hN3⟩ b4 b5 b6 b7 b8=> ?_);obtain⟨n2,v2,aJ⟩:=h2;have d2:n1<=n2:=b4;refine Y1 t9 ?_;refine ih _ _ ⟨?_,?_,?_,by show m0<=n2;omega,λj hj Y d0=> ?_,a2,N2++N3,ov2,⟨.app f f3,by rw[nY U];exact Fo.ok_app hf hf3,by rw[O,Fo.fl_app,←hN3,hZ]⟩,?_,by omega,b2,?_,λj n e=>fJ c7 (b6 j n e),b7⟩;exact U1 t0;exact U1 t8;exact U0;exact(b8 j (by show j<n1;omega) Y (λn e=>by have:=I j n e;omega)).trans (old j hj Y d0);have:=Jstep i D _ s a2 _ U R b1 b3;rw[←hZ,dy];exact this;rw[←hZ];exact b5;rintro τ ⟨n1,v1,ob⟩ ⟨t0,t8,t9,Z,old,D,N2,A,⟨f,hf,O⟩,R,W,N,V,I,H⟩;have bT:=H;dsimp only at H;simp only[gW,Ej,bx,gw,gx] at H;refine Y5 H t0 t8 t9 e2 ?_;exact fin D N2 A _ ⟨f,by rw[mR] at hf;exact hf,O⟩ R W N Z V I bT old;exact U1 t0;exact U1 t8;exact U0
variable {b:Nat}
def Uk {a} (h:a<=b):qD b<=qD a:=by unfold qD;omega
def Ul a:41<=qD a:=by unfold qD;omega
def jU.len {N} (H:jU o b h ov N):(N.length=0/\ ov= .sn)∨∃oo,ov= .sl oo 0 N.length none 4:=by
 rcases H with ⟨rfl,rfl⟩|⟨oo,cs,tt,rfl,-⟩;exact .inl ⟨rfl,rfl⟩;exact .inr ⟨oo,rfl⟩
def bf7 {g} (G:oy g) (n3:g.nT.length<=3) {L} (H:BK g c L) {s} (hs:s.1=false) (b3:s.2<g.nT.length) (b2:vL L s.2<1000) {p} {pi:Nat} (hp:g.pR[pi]? =some p) (hf:fW g c L p<1000) {a a2 m n} (hm:(kk-a)*10+Lz L s<m+1)
 (Y:mj kk a n ->n+qC L s<=191921) (hc:(mj kk a n/\ a2=a/\ fW g c L p=vL L s.2)∨(a<kk/\ n<=40/\ a2=a+1)):
 ∃hx,∃J:Nat ->Nat ->Nat ->Prop,(∀s∈p.right,Fc g L s/\ Lz L s<=hx)/\ (kk-a2)*10+hx<m/\ J 0 a2 (n+1)/\ (∀i a n s,p.right[i]? =some s ->J i a n ->mj kk a n ->n+qC L s<=191921)/\
  (∀i a n s I n1,p.right[i]? =some s ->J i a n ->a<=I ->QQ L s kk a n n1 ->J (i+1) I (n+n1))/\∀I n1,J p.right.length I (n+n1) ->QQ L s kk a n n1:=by
 have ok:=G.p p (dI hp);have rl:=ok.len;obtain⟨-,b0,N⟩:=(sR hf).1 (bB _);have U:∀s∈p.right,Fc g L s:=λA j=>by
  rcases ok.sym A j with h|⟨h1,h2⟩;exact .inl h;exact .inr ⟨h1,h2,by have:=N A j h1;omega⟩
 have b1:Lz L s=vL L s.2+1:=by unfold Lz;rw[hs];rfl
 have R:qC L s=Ek (vL L s.2):=by unfold qC;rw[hs];rfl
 rcases hc with ⟨hb,rfl,he⟩|⟨h1,h2,rfl⟩;generalize hh:vL L s.2=x at*;obtain⟨y,rfl⟩:∃y,x=y+1:=⟨x-1,by omega⟩;have zs:∀A∈p.right,qC L A<=Ek y:=λA j=>by
  unfold qC;split;exact Uh y;rename_i e;exact Fb (by have:=N A j (by simpa using e);omega)
 have e8:Ek (y+1)=1+8*Ek y:=rfl;rw[R,e8] at Y;have Y:=Y hb;generalize Ek y=w at*;refine⟨y+1,λi I n'=>(mj kk I n'/\ n+1<=n')/\ n'<=n+1+i*w,λA j=>⟨U A j,?_⟩,by omega,⟨⟨?_,bB _⟩,by omega⟩,λi I n' A hi D O=> ?_,λi I n' A W n1 hi D ha V=> ?_,λI n1 D=>⟨by have:=D.1.2;omega,λ_=> ?_,λh=>bh hb h⟩⟩;unfold Lz;split;omega;rename_i e;have:=N A j (by simpa using e);omega;unfold mj at hb ⊢;omega;have h1:=zs A (dI hi);have h2:=(eC.1 hi).1;have Z:i*w<=7*w:=ni w ω;have:=D.2;omega;have h1:=zs A (dI hi);have h2:=V.2.1 D.1.1;have Z:=D.2;have h4:=D.1.1;have h5:=D.1.2;refine⟨⟨?_,by omega⟩,?_⟩;unfold mj at h4 ⊢;omega;rw[vE];omega;have Z:p.right.length*w<=8*w:=ni w rl;have:=D.2;rw[R,e8];omega;have nb:¬mj kk a n:=by unfold mj;omega
 have fin:∀A∈p.right,A.1=false ->vL L A.2<=3:=λA j e=>by
  rcases ok.sym A j with ⟨h,-⟩|⟨-,h⟩;rw[e] at h;cases h;have:=H.fin A.2 h (by have:=N A j e;omega);omega
 have zs:∀A∈p.right,qC L A<=585:=λA j=>by
  unfold qC;split;omega;rename_i e;exact Fb (b:=3) (fin A j (by simpa using e))
 have uu:qD n=qD (n+1)+4680:=by unfold qD;omega
 have u0:qD n<=191921:=Uk (a:=0) (oi _);have ug:=Ul (n+1);refine⟨4,λi I n'=>n+1<=n'/\ n'<=qD (n+1)+i*585,λA j=>⟨U A j,?_⟩,by omega,⟨bB _,by omega⟩,λi I n' A hi D O=> ?_,λi I n' A W n1 hi D ha V=> ?_,λI n1 D=>⟨by have:=D.1;omega,λh=>bh h nb,λ_=> ?_⟩⟩;unfold Lz;split;omega;rename_i e;have:=fin A j (by simpa using e);omega;have h1:=zs A (dI hi);have h2:=(eC.1 hi).1;have:=D.2;omega;have h1:=zs A (dI hi);refine⟨by have:=D.1;omega,?_⟩;by_cases O:mj kk I n';have:=V.2.1 O;have:=D.2;omega;have:=V.2.2 O;have:=Uk D.1;omega;have:=D.2;omega
def bf8 {g} (G:oy g) (V:c<8) {L} (H:BK g c L) {a m N} (R:oV B kk) (I:a<=kk) (Z:m<g.nT.length) (W:vL L m<1000) (U:N<=1000000)
 (D:(N=0/\ ov= .sn)∨∃oo,ov= .sl oo 0 N none 4) (O:cG (h.oB.get o)=some (gW g c B kk L a ov)) (lo:o<h.next) (k)
 (J:∀(A:Nat) (p) (a2) (h'),g.pR[A]? =some p ->fW g c L p<1000 ->(false,m)=(false,p.left) ->a<=a2 ->a2<=kk ->((mj kk a N/\ a2=a/\ fW g c L p=vL L m)∨(a<kk/\ N<=40/\ a2=a+1)) ->h.next<=h'.next ->cG (h'.oB.get o)=some (gW g c B kk L a2 ov) ->(∀j,j<h.next ->j≠o ->h'.oB.get j=h.oB.get j) ->k (ι (A)) h'):
 du C 181 [.p o 0,ι (m)] h k:=
 be8 S E F G V H R I Z W U D O lo k
  (λhb A h' ⟨p,hp,hl,he⟩ hn old=>J A p a h' hp ω (by rw[hl]) (bB _) I (.inl ⟨hb,rfl,he⟩) hn (by rw[old o lo];exact O) λj Y _=>old j Y)
  λh1 h2 A h' ⟨p,hp,hl,he⟩ hn bT old=>J A p (a+1) h' hp he (by rw[hl]) (nD _) h1 (.inr ⟨h1,h2,rfl⟩) hn bT old
def bf9 {g} (G:oy g) (n3:g.nT.length<=3) (hc:c<8) {L} (HL:BK g c L) (hB:oV B kk):∀m,Ui C g c B kk L o m:=by
 intro m;induction m with
 |zero=>intro s a N ov h k hm;omega
 |succ m IH=>
  rintro⟨b,i0⟩ a N ov h k hm ha hs hl hO ho lo hk;have hN:N.length<=191921:=by
   by_cases hb:mj kk a N.length;have:=hl hb;omega;unfold mj at hb;omega
  rcases hs with ⟨hb,hi⟩|⟨hb,hi,hf⟩;obtain rfl:b=true:=hb;refine bf6 S E F M G hc hB ha hi ho lo hO ω (λs R h1 h2=>⟨⟨bB _,λ_=>bB _,λh=> ?_⟩,.lf _ .nil,⟨⟨rfl,rfl,rfl,h1,h2⟩,trivial⟩,rfl⟩) hk;have:=Ul N.length;unfold mj at h;show N.length+1<=qD N.length;unfold qD;omega;obtain rfl:b=false:=hb;have b1:=F.g 95 aL2;have ol:=hO.len;have b7:=hO.nice;obtain⟨n0,v0,ob0⟩:=h;dsimp only at ho lo;have z1:(o=n0)=False:=cE;rw[yN E.ok (E.get b1)];refine Y1 @dO.eq_1 ?_;refine E.run (bf8 (m:=i0) (N:=N.length) (ov:=ov) (a:=a) (L:=L) (kk:=kk) (B:=B) (o:=o) S E F G hc HL hB ha hi hf ω ol (by exact wW z1 ho) (by show o<n0+1;omega) _ λI p a2 h1 Z b2 b0 b6 W V dS H dD=> ?_);obtain⟨hx,J,O,Y,J0,Jlim,Jstep,Jfin⟩:=bf7 (s:=(false,i0)) G n3 HL rfl hi hf Z b2 hm hl V;have H1:=hO.mono (h':=h1) (b':=n0) (bB _) λj D A=>by
   have m9:j<n0:=D;rw[dD j (by show j<n0+1;omega) A];exact U0
  obtain⟨n1,v1,aQ⟩:=h1;have b4:n0+1<=n1:=dS;dsimp only at H dD;have b5:=H;simp only[gW,Ej,bx,gw,gx] at H;rcases H1 with ⟨rfl,rfl⟩|⟨oo,cs,tt,rfl,e2,e3,e4,e5,e6,e7,e8,e9⟩;refine Y2 H @iP ?_;obtain⟨tt,d1,d2⟩:=Fa (x:=(I:Int)) (y:= -1) (s:=[]) (b:=0) (h:=⟨n1,v1,aQ⟩) (rv:= .sn) (R:=[]) (tt:=⟨0,0,.e⟩) (cs:=[]) (N:=[]) (.inl ⟨rfl,rfl⟩) rfl λj v l D=>by cases D
  refine Uj (m:=m) (a1:=a2) (m0:=n0) (N0:=[]) (N1:=[⟨I,-1,[],[]⟩]) (ov:= .sl (n1+1) 0 1 none 4) (ob0:=ob0) (oz:=λj=>∃n,AV.sn=AV.sl j 0 n none 4) E G IH hB Z O Y W J Jlim Jstep lo ?_ ?_ (by show n0<=n1+1+1;omega) (λj D A _=> ?_) J0 (.inr ⟨n1+1,[ι (I:Int),ι (-1),.s [],.sn],tt,rfl,by simp,by omega,by show n1+1<n1+1+1;omega,?_,rfl,rfl,d1,λj v l D=> ?_⟩) (λj n e=>by cases e;omega) ?_ (λa' N2 ov' h' ⟨f,e0,U⟩ e1 e2 e3 e4 e5 e6 e7 e8=>hk a' N2 ov' h' ω e3 ⟨Jfin a' _ (by rw[←dy];exact e1),.nd ⟨I,-1,[],[]⟩ f .nil,⟨⟨I,p,rfl,Z,b0,e0,rfl,rfl,rfl⟩,trivial⟩,(congrArg (_:: ·) (lG f.fl)).trans U.symm⟩ e4 e5 e6 e7 λj D A hz=>e8 j D A λ⟨n,e⟩=>hz n e);exact U0;exact U0;have w1:(j=n1)=False:=cE;have w2:(j=n1+1)=False:=cE;have w3:(j=o)=False:=dQ A;have w4:(j=n0)=False:=cE;refine wW (ec w1 (ec w2 w3)) ((dD j (by show j<n0+1;omega) A).trans ?_);exact U0;exact U0;rcases d2 j v l D with D|⟨n,e,D⟩;cases D;cases e;exact U0;have x1:(oo=n1)=False:=cE;dsimp only at e5;refine Y5 H @iP e5 e7 x1 ?_;obtain⟨b3,d1,d2⟩:=Fa (x:=(I:Int)) (y:= -1) (s:=[]) (b:=0) (h:=⟨n1,v1,aQ⟩) (rv:= .sn) (R:=[]) (.inl ⟨rfl,rfl⟩) e8 λj v l D=>(e9 j v l D).2.2.2;refine Uj (m:=m) (a1:=a2) (m0:=n0) (N0:=N) (N1:=[⟨I,-1,[],[]⟩]) (ov:= .sl (n1+1) 0 (N.length+1) none 4) (ob0:=ob0) (oz:=λj=>∃n,AV.sl oo 0 N.length none 4=AV.sl j 0 n none 4) E G IH hB Z O Y W J Jlim Jstep lo ?_ ?_ (by show n0<=n1+1+1;omega) (λj D A hz=> ?_) (by rw[dy];exact J0) (.inr ⟨n1+1,cs++[ι (I:Int),ι (-1),.s [],.sn],b3,by rw[dy];rfl,by simp,by omega,by show n1+1<n1+1+1;omega,?_,by rw[KD,e6];rfl,by rw[dy,dy,e7];simp;omega,d1,λj v l D=> ?_⟩) (λj n e=>by cases e;omega) ?_ (λa' N2 ov' h' ⟨f,e0,U⟩ e1 e2 e3 e4 e5 e6 e7 e8=>hk a' N2 ov' h' ω e3 ⟨Jfin a' _ (by rw[←dy];exact e1),.nd ⟨I,-1,[],[]⟩ f .nil,⟨⟨I,p,rfl,Z,b0,e0,rfl,rfl,rfl⟩,trivial⟩,(congrArg (_:: ·) (lG f.fl)).trans U.symm⟩ e4 e5 e6 e7 λj D A hz=>e8 j D A λ⟨n,e⟩=>hz n e);exact U0;exact U0;have w1:(j=n1)=False:=cE;have w2:(j=n1+1)=False:=cE;have w3:(j=o)=False:=dQ A;have w4:(j=n0)=False:=cE;have w5:(j=oo)=False:=dQ λe=>hz ⟨N.length,by rw[e]⟩;refine wW (ec w1 (ec w2 (ec w3 w5))) ((dD j (by show j<n0+1;omega) A).trans ?_);exact U0;exact U0;rcases d2 j v l D with D|⟨n,e,D⟩;obtain⟨f1,f2,f3,f4⟩:=e9 j v l D;have w1:(j=n1)=False:=cE;have w2:(j=n1+1)=False:=cE;have w3:(j=o)=False:=cE;have w4:(j=oo)=False:=dQ f3;exact⟨by show j<n1+1+1;omega,f2,by omega,wW (ec w1 (ec w2 (ec w3 w4))) f4⟩;cases e;exact U0
def WT (g:Gr) (N:List Tn) (R:List (List Nat)):Prop:=(∃m,bT0 g (false,m) N)/\ PG R
structure mq (b:Nat) (h:AH) (ov rv:AV) (N:List Tn) (R:List (List Nat)):Prop where
 o:(N=[]/\ ov= .sn)∨∃oo,ov= .sl oo 0 N.length none 4
 r:(R=[]/\ rv= .sn)∨∃q,rv= .sl q 0 R.length none 1
 d:∃tt:AH,(∀j v l,tt.oB.get j=some (.cells v l) ->b<=j/\ j<h.next/\ h.oB.get j=some (.cells v l))/\ deep 9 tt ov=some (eR fG 4 true N)/\ deep 9 tt rv=some (eR jT 1 true R)
def mq.mono {h' rv N R} (T:mq b h ov rv N R) (I:h.next<=h'.next) (old:∀j,b<=j ->j<h.next ->h'.oB.get j=h.oB.get j):mq b h' ov rv N R:=by
 obtain⟨h1,h2,tt,A,D,G⟩:=T;refine⟨h1,h2,tt,λj v l H=> ?_,D,G⟩;obtain⟨a,b,c⟩:=A j v l H;exact⟨a,by omega,by rw[old j a b];exact c⟩
def jU.mono' {b' h' N} (H:jU o b h ov N) (hb:b<=b') (old:∀j,j<b ->o<j ->h'.oB.get j=h.oB.get j):jU o b' h' ov N:=by
 rcases H with H|⟨oo,cs,tt,e1,e2,e3,e4,e5,e6,e7,e8,e9⟩;exact .inl H;refine .inr ⟨oo,cs,tt,e1,e2,e3,by omega,by rw[old oo e4 e3];exact e5,e6,e7,e8,λj v l A=> ?_⟩;obtain⟨a,b,c,d⟩:=e9 j v l A;exact⟨by omega,b,c,by rw[old j a b];exact d⟩
def mq.low {b' rv N R} (A:mq b h ov rv N R) (hb:b'<=b):mq b' h ov rv N R:=by
 obtain⟨h1,h2,tt,D,G,H⟩:=A;exact⟨h1,h2,tt,λj v l I=>by obtain⟨a,b,c⟩:=D j v l I;exact⟨by omega,b,c⟩,G,H⟩
def bg0 {rv N R} (H:jU o b h ov N) (hb:b<=h.next) (ob:o<b) (J:E7 b h rv R):mq o h ov rv N R:=by
 have key:∃tt:AH,(∀j v l,tt.oB.get j=some (.cells v l) ->o<=j/\ j<h.next/\ h.oB.get j=some (.cells v l))/\ deep 9 tt ov=some (eR fG 4 true N):=by
  rcases H with ⟨rfl,rfl⟩|⟨oo,cs,tt,rfl,e2,e3,e4,e5,e6,e7,e8,e9⟩;exact⟨⟨0,0,.e⟩,λj v l A=>(by cases A),rfl⟩;obtain⟨v0,G⟩:=EW e5;refine⟨⟨tt.next,tt.ver,tt.oB.put oo (.cells v0 cs)⟩,λj v l A=> ?_,?_⟩;have D:(tt.oB.put oo (.cells v0 cs)).get j=some (.cells v l):=A;rw[T.get_put] at D;split at D;rename_i e;subst e;exact⟨by omega,by omega,by rw[G];exact D⟩;obtain⟨f1,f2,f3,f4⟩:=e9 j v l D;exact⟨by omega,by omega,f4⟩;rw[gA (n:=8) (l:=cs) (l':=N.flatMap fG) (by show cG ((tt.oB.put oo _).get oo)=_;rw[T.get_put,aF rfl];rfl) ((BG (h1:=tt) (λj v l A=>⟨v,?_⟩) 8).2 _ _ e8),BL e2];show(tt.oB.put oo _).get j=_;rw[T.get_put,aD (e9 j v l A).2.2.1];exact A
 refine⟨?_,?_,?_⟩;rcases H with H|⟨oo,cs,tt,rfl,-⟩;exact .inl H;exact .inr ⟨oo,rfl⟩;rcases J with H|⟨-,q,-,-,rfl,-⟩;exact .inl H;exact .inr ⟨q,rfl⟩;obtain⟨tt,I,L⟩:=key;rcases J with ⟨rfl,rfl⟩|⟨e1,q,e2,e3,rfl,e4⟩;exact⟨tt,I,L,rfl⟩;obtain⟨v0,e5⟩:=EW e4;refine⟨⟨tt.next,tt.ver,tt.oB.put q (.cells v0 (R.map AV.s))⟩,λj v l A=> ?_,(BG (h1:=tt) (λj v l A=>⟨v,?_⟩) 9).1 _ _ L,?_⟩;have D:(tt.oB.put q (.cells v0 (R.map AV.s))).get j=some (.cells v l):=A;rw[T.get_put] at D;split at D;rename_i e;subst e;exact⟨by omega,e3,by rw[e5];exact D⟩;exact I j v l D;show(tt.oB.put q _).get j=_;rw[T.get_put];split;rename_i e;subst e;rw[←e5];exact(I _ _ _ A).2.2;exact A;rw[gA (n:=8) (l:=R.map AV.s) (l':=R.flatMap jT) (by show cG ((tt.oB.put q _).get q)=_;rw[T.get_put,aF rfl];rfl) (by rw[KC];exact ad5 R),BL e1]
def bg1 L {m} (h:vL L m<=3):0+qC L (false,m)<=191921:=by
 have:Ek (vL L m)<=Ek 3:=Fb h;have e:Ek 3=585:=rfl;show 0+Ek (vL L m)<=_;omega
def bg2 {g} (G:oy g) (n3:g.nT.length<=3) (hc:c<8) {m} (W:oV B kk) (hm:m<g.nT.length) h k
 (d0:∀h',h.next<=h'.next ->(∀j,j<h.next ->h'.oB.get j=h.oB.get j) ->k (.tu [.ag [.sn,.sn],.b false]) h')
 (d1:∀N R ov rv h',WT g N R ->mq h.next h' ov rv N R ->h.next<=h'.next ->(∀j,j<h.next ->h'.oB.get j=h.oB.get j) ->k (.tu [.ag [ov,rv],.b true]) h'):
 du C 51 [aI g,.i .u64 (c),ι (m),B] h k:=by
 have HL:=be3 (c:=c) G;have hp:=be5 S F G hc;generalize vu g c=L at HL hp;have A:=λh=>dR S hp (n:=9) (by rw[aL,aL,bZ,kq (n:=6),dH]) h;simp only[aI,bx] at A;have bq:=iW (g:=g);simp only[bx] at bq;have bn:=W.nk;have eQ:=HL.len;have d2:m<L.length:=by omega
 have O:sub (L.flatMap cI) m 1=some [ι (vL L m:Int)]:=by
  have U:L[m]? =some L[m]:=ef d2;have:=cW qw U (j:=0) (n:=1) ω;unfold vL;rw[kX,U];simpa[cI] using this
 have c7:cellsOf B=[B]/\ cellsO B=some [B]/\ ew B=true:=by rcases W.b with ⟨-,rfl⟩|⟨D,rfl,-⟩<;>exact⟨rfl,rfl,rfl⟩
 obtain⟨d5,H,d6⟩:=c7;obtain⟨n0,v0,ob0⟩:=h;refine E.bS (F.f 51) (Y2 @aI.eq_1 @bx.eq_1 ?_);refine E.cN (A _) ?_;rcases iO (vL L m) 1000 with q|q;have q':(1000<=((vL L m:Nat):Int))=False:=cE;refine Y5 bq bn O q' H ?_;have l3:=HL.fin m hm q;refine E.run (bf9 S E F M G n3 hc HL (kk:=kk) (o:=n0+2) W _ (false,m) 0 [] .sn _ _ (qI _) (oi _) (.inr ⟨rfl,hm,q⟩) (λ_=>bg1 L ω) (.inl ⟨rfl,rfl⟩) ?_ (by show n0+2<n0+1+1+1;omega) λa1 N1 ov1 h1 a2 a3 a4' a5 a6 a7 a8 a9=> ?_);exact U0;obtain⟨n1,v1,aQ⟩:=h1;have d3:n0+1+1+1<=n1:=a5;have ro:(ov1= .sn/\ N1=[])∨∃oo,ov1= .sl oo 0 N1.length none 4:=by
  rcases a6 with ⟨h,h'⟩|⟨oo,cs,tt,h,-⟩;exact .inl ⟨h',h⟩;exact .inr ⟨oo,h⟩
 have I:cellsOf ov1=[ov1]/\ cellsO ov1=some [ov1]/\ ew ov1=true:=by rcases ro with ⟨rfl,-⟩|⟨oo,rfl⟩<;>exact⟨rfl,rfl,rfl⟩
 obtain⟨I,c6,J⟩:=I;have b0:=a8;dsimp only at a8 a9;simp only[gW,Ej,bx,gw,gx] at a8;have c8:cG (aQ.get (n0+1))=some [.sn,.sn]:=by
  rw[a9 (n0+1) (by show n0+1<n0+1+1+1;omega) ω (λn e=>by cases e)];exact U0
 have x1:(n0+1=n1)=False:=cE;have x3:(n0+2=n1)=False:=cE;refine Y3 a8 c6 J ?_;refine E.run (Uf (a:=a1) (ov:=ov1) S E F M G hc W a3 (wW x3 b0) (by show n0+2<n1+1;omega) _ λrv R a4 h2 b1 b2 b3 b4 b5 b6' b6=> ?_);have rr:cellsOf rv=[rv]/\ cellsO rv=some [rv]/\ ew rv=true:=by rcases b6 with ⟨-,rfl⟩|⟨-,q,-,-,rfl,-⟩<;>exact⟨rfl,rfl,rfl⟩
 obtain⟨cr1,cr2,cr3⟩:=rr;obtain⟨n2,v2,aJ⟩:=h2;have d4:n1+1<=n2:=b3;dsimp only at b5;have b8:cG (aJ.get (n0+1))=some [.sn,.sn]:=by
  rw[b5 (n0+1) ω ω];exact wW x1 c8
 have b7:cG (aJ.get n1)=some [ov1,.sn]:=by
  rw[b5 n1 ω ω];exact U0
 refine Y5 b8 b7 J cr1 cr3 ?_;have fr:∀j,j<n0 ->((aJ.put n1 (.cells (v2+1) [ov1,rv])).put (n0+1) (.cells (v2+1+1) [ov1,rv])).get j=ob0.get j:=λj Y=>by
  have y1:(j=n1)=False:=cE;have V:(j=n0+1)=False:=cE;refine wW (ec y1 V) ((b5 j ω ω).trans ?_);refine wW y1 ((a9 j (by show j<n0+1+1+1;omega) ω (λn e=>by cases e)).trans ?_);exact U0
 refine d1 ([]++N1) R ov1 rv _ ⟨⟨m,a4'.2⟩,b6'⟩ (mq.low (bg0 (o:=n0+2) (b:=n1) (a6.mono' (bB _) λj Y f0=> ?_) (by show n1<=n2;omega) ω ?_) (by show n0<=n0+2;omega)) (by show n0<=n2;omega) fr;have m9:j<n1:=Y;have y1:(j=n1)=False:=cE;have V:(j=n0+1)=False:=cE;refine wW (ec y1 V) ((b5 j ω ω).trans ?_);exact U0;rcases b6 with h|⟨e1,Z,e2,e3,e4,e5⟩;exact .inl h;have d8:n1+1<=Z:=e2;refine .inr ⟨e1,Z,by omega,e3,e4,?_⟩;have y1:(Z=n1)=False:=cE;have V:(Z=n0+1)=False:=cE;exact wW (ec y1 V) e5;have q':(1000<=((vL L m:Nat):Int))=True:=cJ;refine Y5 bq bn O q' H ?_;refine d0 _ (by show n0<=n0+1+1+1;omega) λj Y=> ?_;have m9:j<n0:=Y;exact U0
def bg3 {kn g l}:(sO kn g l).nT=g.nT/\ (sO kn g l).st=g.st:=by
 unfold sO kN;split<;>exact⟨rfl,rfl⟩
def bg4 {g r}:(rt g r).nT=g.nT/\ (rt g r).st=g.st:=by
 unfold rt lB;split;split<;>exact⟨rfl,rfl⟩;split;exact⟨rfl,rfl⟩;split<;>exact⟨rfl,rfl⟩
def KH {α:Type} {f} (j:∀g a,(f g a).nT=g.nT/\ (f g a).st=g.st):∀(l:List α) (g:Gr),(l.foldl f g).nT=g.nT/\ (l.foldl f g).st=g.st
 |[],g=>⟨rfl,rfl⟩
 |a::l,g=>by rw[zH];obtain⟨h1,h2⟩:=KH j l (f g a);rw[h1,h2];exact j g a
def Um x:(fU x).nT.length<=3/\ (∀s∈(fU x).nT,s.length=1)/\ (fU x).st=0:=by
 have e:(fU x).nT=(PH x).nT/\ (fU x).st=(PH x).st:=by
  unfold fU oU;obtain⟨h1,h2⟩:=KH (f:=rt) (λ_ _=>bg4) (x.rU.take (min 6 6)) (lC x x.most);rw[h1,h2];unfold lC;obtain⟨h1,h2⟩:=KH (f:=sO x.known) (λ_ _=>bg3) (x.lI.take (min x.most x.most)) (If x);rw[h1,h2];unfold If kw;split;split<;>exact⟨rfl,rfl⟩;exact⟨rfl,rfl⟩
 rw[e.1,e.2];unfold PH;split;have:∀k,(iZ k).nT.length<=3/\ (∀s∈(iZ k).nT,s.length=1)/\ (iZ k).st=0:=λk=>by
  unfold iZ;split<;>(unfold xf;decide)
 exact this _;unfold pG;refine⟨?_,λs j=> ?_,rfl⟩;show(List.take _ [[83],[80],[81]]).length<=3;rw[jm];simp;omega;have:=List.mem_of_mem_take j;simp at this;rcases this with rfl|rfl|rfl<;>rfl
structure zh where
 x:fA
 cfg:Nat
 lnl:Bool
 l:List Nat
 snl:Bool
 s:List Nat
structure zh.OK (i:zh):Prop where
 x:i.x.OK
 cfg:i.cfg<256
 l:∀b∈i.l,b<256
def rx (i:zh):List AV:=gI i.x++[.i .u8 (i.cfg:Int),eR cB 1 i.lnl i.l,eR cB 1 i.snl i.s]
def Un:∀l:List Nat,l.flatMap cB=l.map λb:Nat=>AV.i .u8 (b)
 |[]=>rfl
 |a::l=>by rw[lE,Un l];rfl
def bg5 {nl j} (hb:∀b∈j,b<256):oV (vp 1 (j.flatMap cB) (min j.length 40) (eR cB 1 nl j)) (min j.length 40):=by
 have key:oV (.ds (j.flatMap cB) 0 (min j.length 40) 1) (min j.length 40):=by
  refine⟨.inr ⟨_,rfl,λi hi=> ?_⟩,by rw[nN];exact fE pH j,zI _ _⟩;have A:j[i]? =some j[i]:=ef ω;exact⟨j[i],hb _ (dI A),by rw[Un,oh,A];rfl⟩
 rcases j with _|⟨a,L⟩;cases nl;exact key;exact⟨.inl ⟨rfl,rfl⟩,rfl,oi _⟩;exact key
def bg6 (S:aT P X GL ae) (R:bz8 ae) (A:dY P X GL) (Q:bz8 ae) (FM:bz8 ae) (KB:xi P X GL ae) (E:Sem P X GL ae C) (F:bz8 ae) (M:tZ P X GL ae) {i} (ok:i.OK) h k
 (L:∀h',h.next<=h'.next ->(∀j,j<h.next ->h'.oB.get j=h.oB.get j) ->k (.tu [.ag (bx (fU i.x)),.i .u64 (Ef (fU i.x) i.cfg:Int),.ag [.sn,.sn],.b false]) h')
 (O:∀N R ov rv h',WT (fU i.x) N R ->mq h.next h' ov rv N R ->h.next<=h'.next ->(∀j,j<h.next ->h'.oB.get j=h.oB.get j) ->k (.tu [.ag (bx (fU i.x)),.i .u64 (Ef (fU i.x) i.cfg:Int),.ag [ov,rv],.b true]) h'):
 du C 15 [.ag (rx i)] h k:=by
 have mc:=λh=>dR S (bb8 S R A Q FM KB ok.x) (n:=9) (by rw[aL,bZ,bc1 (n:=4)]) h;obtain⟨H,b4,gp⟩:=Kw ok.x;obtain⟨n3,-,b0⟩:=Um i.x;have cc:=λh=>dR S (bd8 S F H ok.cfg) (n:=9) (by rw[aL,aL,bZ,kq (n:=6),dH]) h;obtain⟨c8,-⟩:=bS7 H i.cfg;have tr:=λh k h0 h1=>bg2 (C:=C) (m:=0) S E F M H n3 c8 (bg5 (nl:=i.lnl) ok.l) (by have:=H.ntl;omega) h k h0 h1;generalize Ef (fU i.x) i.cfg=c at*;generalize fU i.x=g at*;obtain⟨⟨base,nn,fnl,fam,lnl,lI,rnl,rU⟩,cfg,ll,l,sl,s⟩:=i;dsimp only at*;have mn:(if (40:Int)<(l.length:Int) then (40:Int) else (l.length:Int))=((min l.length 40:Nat):Int):=by split<;>omega
 have b1:∀(τ:T AV) h,az C τ (.t 23)=eR cB 1 ll l ->az C τ (.t 27)=ι ((min l.length 40:Nat):Int) ->step (az C τ) h (.slc 1 (.t 23) none (some (.t 27)) none)= .v (vp 1 (l.flatMap cB) (min l.length 40) (eR cB 1 ll l)) h:=λτ h h1 h2=>TV (Ro _ _) h1 (by rw[h2];exact tC);have bq:=iW (g:=g);have D:(g.st:Int)=0:=by rw[b0];rfl
 obtain⟨n0,v0,ob0⟩:=h;rw[E.cB (F.f 15)];simp only[vm,gI] at mc;simp only[aI,bx,D] at mc cc tr;simp only[bx,D] at bq L O;refine Z2 @rx.eq_1 @gI.eq_1 ?_;refine E.cN (mc _) (Z0 ?_);refine E.cN (cc _) (Z3 @jP mn b1 ?_);refine E.run (tr _ _ (λh1 dS G=> ?_) λN R' ov rv h1 wt TA dS G=> ?_);obtain⟨n1,v1,I⟩:=h1;have U:n0+1+1+1+1+1<=n1:=dS;dsimp only at G;have c3:cG (I.get (n0+1+1+1))=some (bx g):=by rw[G (n0+1+1+1) (by show n0+1+1+1<n0+1+1+1+1+1;omega)];simp only[bx,D];exact U0
 have c1:cG (I.get (n0+1))=some ZG:=by rw[G (n0+1) (by show n0+1<n0+1+1+1+1+1;omega)];exact U0
 have c2:cG (I.get (n0+1+1))=some [.sn,.sn]:=by rw[G (n0+1+1) (by show n0+1+1<n0+1+1+1+1+1;omega)];exact U0
 simp only[bx,D] at c3;simp only[ZG] at c1;refine Z3 c1 c2 c3 ?_;refine L _ (by show n0<=n1;omega) λj J=> ?_;have m9:j<n0:=J;have y1:(j=n0+1)=False:=cE;have V:(j=n0+1+1)=False:=cE;have W:(j=n0+4)=False:=cE;refine wW (ec y1 (ec V W)) ((G j (by show j<n0+1+1+1+1+1;omega)).trans ?_);exact U0;obtain⟨n1,v1,I⟩:=h1;have U:n0+1+1+1+1+1<=n1:=dS;dsimp only at G;have c3:cG (I.get (n0+1+1+1))=some (bx g):=by rw[G (n0+1+1+1) (by show n0+1+1+1<n0+1+1+1+1+1;omega)];simp only[bx,D];exact U0
 have c1:cG (I.get (n0+1))=some ZG:=by rw[G (n0+1) (by show n0+1<n0+1+1+1+1+1;omega)];exact U0
 have c2:cG (I.get (n0+1+1))=some [.sn,.sn]:=by rw[G (n0+1+1) (by show n0+1+1<n0+1+1+1+1+1;omega)];exact U0
 simp only[bx,D] at c3;simp only[ZG] at c1;obtain⟨ro,rr⟩:=ec TA.o TA.r;have co:cellsOf ov=[ov]/\ cellsO ov=some [ov]/\ ew ov=true/\ nice 63 ov=true:=by rcases ro with ⟨-,rfl⟩|⟨oo,rfl⟩<;>exact⟨rfl,rfl,rfl,rfl⟩
 have cr:cellsOf rv=[rv]/\ cellsO rv=some [rv]/\ ew rv=true/\ nice 63 rv=true:=by rcases rr with ⟨-,rfl⟩|⟨oo,rfl⟩<;>exact⟨rfl,rfl,rfl,rfl⟩
 obtain⟨b2,b3,Y,Z⟩:=co;obtain⟨cr1,cr2,cr3,cr4⟩:=cr;refine Z7 c1 c2 c3 Y Z cr3 cr4 ?_;refine O N R' ov rv _ wt (mq.low (TA.mono (bB _) λj J b5=> ?_) (by show n0<=n0+1+1+1+1+1;omega)) (by show n0<=n1;omega) λj J=> ?_;have m9:n0+1+1+1+1+1<=j:=J;have y1:(j=n0+1)=False:=cE;have V:(j=n0+1+1)=False:=cE;have W:(j=n0+4)=False:=cE;exact U0;have m9:j<n0:=J;have y1:(j=n0+1)=False:=cE;have V:(j=n0+1+1)=False:=cE;have W:(j=n0+4)=False:=cE;refine wW (ec y1 (ec V W)) ((G j (by show j<n0+1+1+1+1+1;omega)).trans ?_);exact U0
structure sT where
 i:zh
 rnl:Bool
 r:List Nat
 w:Nat
structure sT.OK (x:sT):Prop where
 i:x.i.OK
 r:∀b∈x.r,b<256
def m8 (x:sT):List AV:=rx x.i++[eR cB 1 x.rnl x.r,.i .u8 (x.w:Int)]
def bg7 {h' RL v} (G:uY h RL v) (H:h.next<=h'.next) (low:∀o n,v= .sl o 0 (n+1) none 4 ->b<=o) (old:∀j,b<=j ->j<h.next ->h'.oB.get j=h.oB.get j):uY h' RL v:=by
 rcases G with h1|⟨o,n,h1,rfl,A,D⟩;exact .inl h1;exact .inr ⟨o,n,h1,rfl,by omega,by rw[old o (low o n rfl) A];exact D⟩
def bg8 (S:aT P X GL ae) (R:bz8 ae) (A:dY P X GL) (Q:bz8 ae) (FM:bz8 ae) (FS:bz8 ae) (KB:xi P X GL ae) (E:Sem P X GL ae C) (F:bz8 ae) (M:tZ P X GL ae) {i} (ok:i.OK) h k
 (O:∀ov rv h',(cellsOf ov=[ov]/\ cellsO ov=some [ov]/\ ew ov=true) ->(cellsOf rv=[rv]/\ cellsO rv=some [rv]/\ ew rv=true) ->k (.tu [.ag (bx (fU i.i.x)),.i .u64 (Ef (fU i.i.x) i.i.cfg:Int),.ag [ov,rv],.sn,.b false]) h')
 (Z:∀N R ov rv RL v h',N.length<=40 ->WT (fU i.i.x) N R ->mq h.next h' ov rv N R ->RL.length<=12 ->iG (fU i.i.x) RL=true ->uY h' RL v ->(∀o n,v= .sl o 0 (n+1) none 4 ->h.next<=o) ->h.next<=h'.next ->(∀j,j<h.next ->h'.oB.get j=h.oB.get j) ->k (.tu [.ag (bx (fU i.i.x)),.i .u64 (Ef (fU i.i.x) i.i.cfg:Int),.ag [ov,rv],v,.b true]) h'):
 du C 5 [.ag (m8 i)] h k:=by
 obtain⟨b3,b6,gp⟩:=Kw ok.i.x;have gr:=λh k h0 h1=>bg6 (C:=C) S R A Q FM KB E F M ok.i h k h0 h1;have ru:=λh k hk=>bc0 (C:=C) (nl:=i.rnl) (m:=min i.r.length 36) S E FS b3 gp ok.r (Ro _ _) (zI _ _) h k hk;generalize Ef (fU i.i.x) i.i.cfg=c at*;generalize fU i.i.x=g at*;obtain⟨⟨⟨base,nn,fnl,fam,lnl,lI,rnl,rU⟩,cfg,ll,l,sl,s⟩,rl,r,w⟩:=i;dsimp only at*;have mn:(if (36:Int)<(r.length:Int) then (36:Int) else (r.length:Int))=((min r.length 36:Nat):Int):=by split<;>omega
 have b4:∀(τ:T AV) h,az C τ (.t 35)=eR cB 1 rl r ->az C τ (.t 39)=ι ((min r.length 36:Nat):Int) ->step (az C τ) h (.slc 1 (.t 35) none (some (.t 39)) none)= .v (vp 1 (r.flatMap cB) (min r.length 36) (eR cB 1 rl r)) h:=λτ h h1 h2=>TV (Ro _ _) h1 (by rw[h2];exact tC);have bq:=iW (g:=g);obtain⟨n0,v0,ob0⟩:=h;rw[E.cB (F.f 5)];simp only[rx,gI,gw,gx,bx] at gr;simp only[aI,bx] at ru;simp only[bx] at bq O Z;refine Z3 @m8.eq_1 @rx.eq_1 @gI.eq_1 ?_;refine E.run (gr _ _ (λh1 dS G=> ?_) λN R' ov rv h1 wt TA dS G=> ?_);obtain⟨n1,v1,J⟩:=h1;have b0:n0+1+1+1<=n1:=dS;dsimp only at G;have c1:cG (J.get (n0+1))=some ZG:=by rw[G (n0+1) (by show n0+1<n0+1+1+1;omega)];exact U0
 have c2:cG (J.get (n0+1+1))=some [.sn,.sn]:=by rw[G (n0+1+1) (by show n0+1+1<n0+1+1+1;omega)];exact U0
 simp only[ZG] at c1;refine Z2 c1 c2 ?_;exact O .sn .sn _ ⟨rfl,rfl,rfl⟩ ⟨rfl,rfl,rfl⟩;obtain⟨n1,v1,J⟩:=h1;have b0:n0+1+1+1<=n1:=dS;dsimp only at G;have c1:cG (J.get (n0+1))=some ZG:=by rw[G (n0+1) (by show n0+1<n0+1+1+1;omega)];exact U0
 have c2:cG (J.get (n0+1+1))=some [.sn,.sn]:=by rw[G (n0+1+1) (by show n0+1+1<n0+1+1+1;omega)];exact U0
 have c0:cG (J.get n0)=some (m8 ⟨⟨⟨base,nn,fnl,fam,lnl,lI,rnl,rU⟩,cfg,ll,l,sl,s⟩,rl,r,w⟩):=by rw[G n0 (by show n0<n0+1+1+1;omega)];simp only[m8,rx,gI,gw,gx];exact U0
 simp only[ZG] at c1;simp only[m8,rx,gI,gw,gx] at c0;obtain⟨ro,rr⟩:=ec TA.o TA.r;have co:cellsOf ov=[ov]/\ cellsO ov=some [ov]/\ ew ov=true/\ nice 63 ov=true/\∀h,kg h ov= .v (ι (N.length:Int)) h:=by rcases ro with ⟨rfl,rfl⟩|⟨oo,rfl⟩<;>exact⟨rfl,rfl,rfl,rfl,λ_=>rfl⟩
 have cr:cellsOf rv=[rv]/\ cellsO rv=some [rv]/\ ew rv=true/\ nice 63 rv=true:=by rcases rr with ⟨-,rfl⟩|⟨oo,rfl⟩<;>exact⟨rfl,rfl,rfl,rfl⟩
 obtain⟨b1,b2,D,W,Y⟩:=co;obtain⟨cr1,cr2,cr3,cr4⟩:=cr;rcases iO 40 N.length with q|q;have q':((40:Int)<(N.length:Int))=True:=cJ;refine Z8 c1 c2 D W Y cr3 cr4 q' ?_;exact O ov rv _ ⟨b1,b2,D⟩ ⟨cr1,cr2,cr3⟩;have q':((40:Int)<(N.length:Int))=False:=cE;refine Z8 c0 D Y cr3 q' @jP mn b4 ?_;refine E.run (ru _ _ λRL v h2 hRL hRu hn2 eG low=> ?_);obtain⟨n2,v2,H⟩:=h2;have b5:n1+2<=n2:=hn2;have U:∀j,j<n1+2 ->H.get j=_:=λj V=>eG j (by show j<n1+2;omega);have d1:cG (H.get (n0+1))=some ZG:=by
  rw[U (n0+1) ω];have y1:(n0+1=n1)=False:=cE;have I:(n0+1=n1+1)=False:=cE;exact wW (ec y1 I) c1
 have d2:cG (H.get (n0+1+1))=some [.sn,.sn]:=by
  rw[U (n0+1+1) ω];have y1:(n0+1+1=n1)=False:=cE;have I:(n0+1+1=n1+1)=False:=cE;exact wW (ec y1 I) c2
 have d3:cG (H.get n1)=some (bx g):=by rw[U n1 ω];exact U1 @bx.eq_1
 have d4:cG (H.get (n1+1))=some [ov,rv]:=by rw[U (n1+1) ω];exact U0
 simp only[ZG] at d1;simp only[bx] at d3;refine Z9 bq d1 d2 d3 d4 D W cr3 cr4 ?_;have fr:∀j,n0+1+1+1<=j ->j<n1 ->((H.put (n0+1) (.cells (v2+1) (bx g))).put (n0+1+1) (.cells (v2+1+1) [ov,rv])).get j=J.get j:=λj V L=>by
  have y1:(j=n0+1)=False:=cE;have I:(j=n0+1+1)=False:=cE;have y3:(j=n1)=False:=cE;have y4:(j=n1+1)=False:=cE;refine wW (ec y1 I) ((U j ω).trans ?_);exact U0
 refine Z N R' ov rv RL v _ q wt (mq.low (TA.mono (h':=⟨n2,v2+1+1,(H.put (n0+1) (.cells (v2+1) (bx g))).put (n0+1+1) (.cells (v2+1+1) [ov,rv])⟩) (by show n1<=n2;omega) λj V L=>fr j V L) (by show n0<=n0+1+1+1;omega)) hRL.1 hRL.2 (bg7 (h':=⟨n2,v2+1+1,(H.put (n0+1) (.cells (v2+1) (bx g))).put (n0+1+1) (.cells (v2+1+1) [ov,rv])⟩) (b:=n1+2) hRu (bB _) (λo n e=>low o n e) λj V L=> ?_) (λo n e=>by have h:=low o n e;have h2:n1+2<=o:=h;show n0<=o;omega) (by show n0<=n2;omega) λj V=> ?_;have y1:(j=n0+1)=False:=cE;have I:(j=n0+1+1)=False:=cE;exact U0;have m9:j<n0:=V;have y1:(j=n0+1)=False:=cE;have I:(j=n0+1+1)=False:=cE;have y3:(j=n1)=False:=cE;have y4:(j=n1+1)=False:=cE;refine wW (ec y1 I) ((U j ω).trans ?_);refine wW (ec y3 y4) ((G j (by show j<n0+1+1+1;omega)).trans ?_);exact U0
end
end AM
