import Derived.Test.YtdmkaddihnnbaaaGreatDoorN27
import Derived.Test.YtdmkaddihnnbaaaGreatDoorN28
set_option linter.all false
set_option maxHeartbeats 8000000
namespace AM
open Dg Go
noncomputable section
def KE (g:Gr) (c:Nat) (B:AV) (kk:Nat) (L:List Nat) (o:Nat) (a:Nat) (N:List Tn) (ov:AV) (h:AH) (k:AV ->AH ->Prop) (Q:List Tn ->Prop):Prop:=
 ∀a' N1 ov' h',a<=a' ->a'<=kk ->Q N1 ->h.next<=h'.next ->jU o h'.next h' ov' (N++N1) ->(∀j n,ov'= .sl j 0 n none 4 ->h.next<=j) ->cG (h'.oB.get o)=some (gW g c B kk L a' ov') ->(∀j,j<h.next ->j≠o ->(∀n,ov≠.sl j 0 n none 4) ->h'.oB.get j=h.oB.get j) ->k (.tu []) h'
variable {P:Program} {X:aR} {GL:T (List AV)} {ae:T au}
def jU.nice {o b:Nat} {h:AH} {ov:AV} {N:List Tn} (H:jU o b h ov N):nice 64 ov=true:=by rcases H with ⟨-,rfl⟩|⟨oo,cs,tt,rfl,-⟩<;>rfl
variable (S:aT P X GL ae) {C:aK Prop} (E:Sem P X GL ae C)
variable {c kk o:Nat} {B ov:AV} {h:AH}
variable (F:fu ae) (M:tZ P X GL ae)
def KG {g} (G:oy g) (hc:c<8) {L a nd} (hB:oV B kk) (ha:a<=kk) {N} (ho:cG (h.oB.get o)=some (gW g c B kk L a ov)) (lo:o<h.next)
 {m0} (H:jU o m0 h ov N) (hN:N.length<=1000000) (l0:o<m0) (l1:m0<=nd) (V:nd<h.next) {x s} (cn:cG (h.oB.get nd)=some [ι (-1),ι x,.s s,.sn]) {τ} (t0:τ.get 0=some (.p o 0)) (t5:τ.get 5=some (.p nd 0)) {Y hb} (b4:hb.next=m0)
 (old:∀j,j<m0 ->j≠o ->h.oB.get j=hb.oB.get j) {a0} (b3:a0<=a) {Q} (hQ:∀R,PG R ->Q [⟨-1,x,s,R⟩]) {k} (hk:KE g c B kk L o a0 N ov hb k Q):
 df C E8 [.s Y] (KF k []) τ h:=by
 obtain⟨n0,v0,ob0⟩:=h;dsimp only at ho lo V cn old;unfold E8;refine Y1 t0 ?_;refine E.run (Uf S E F M G hc hB ha ho lo _ λrv R a1 h1 ha1 ha2 dS ho1 dD hRm hR=> ?_);have H1:=H.mono (o:=o) (bB _) λj u A=>dD j (by show j<n0;omega) A;obtain⟨n1,v1,aQ⟩:=h1;dsimp only at dS ho1 dD;have I:cG (aQ.get nd)=some [ι (-1),ι x,.s s,.sn]:=by rw[dD nd V ω];exact cn
 have b5:=H.nice;have b2:=ho1;simp only[gW,Ej,ar,gw,gx] at ho1;have J:cellsOf rv=[rv]:=by rcases hR with ⟨-,rfl⟩|⟨-,q,-,-,rfl,-⟩<;>rfl
 have D:ew rv=true:=by rcases hR with ⟨-,rfl⟩|⟨-,q,-,-,rfl,-⟩<;>rfl
 rcases H1 with ⟨rfl,rfl⟩|⟨oo,cs,tt,rfl,e2,e3,e4,e5,e6,e7,e8,e9⟩;refine Y7 t0 t5 I ho1 J D @iP ?_;obtain⟨tt,d1,d2⟩:=Fa (x:= -1) (y:=x) (s:=s) (tt:=⟨0,0,.e⟩) (cs:=[]) (N:=[]) hR rfl λj v l u=>by cases u
 refine hk a1 [⟨-1,x,s,R⟩] (.sl (n1+1) 0 1 none 4) _ ω ha2 (hQ R hRm) (by show hb.next<=n1+1+1;omega) (.inr ⟨n1+1,[ι (-1),ι x,.s s,rv],tt,rfl,by simp,by omega,by show n1+1<n1+1+1;omega,U0,?_,rfl,d1,λj v l u=> ?_⟩) (λj n e=>by cases e;show hb.next<=n1+1;omega) U0 λj u A _=> ?_;simp only[Ei,qR,D];rfl;rcases d2 j v l u with u|⟨n,e,u⟩;cases u;rcases hR with ⟨-,rfl⟩|⟨-,q,h2,O,rfl,-⟩;cases e;cases e;have b0:n0<=j:=h2;have U:j<n1:=O;have W:(j=nd)=False:=av;have Z:(j=n1)=False:=av;have w3:(j=n1+1)=False:=av;have w4:(j=o)=False:=av;refine⟨by show j<n1+1+1;omega,by omega,by omega,?_⟩;exact wW (ec W (ec Z (ec w3 w4))) u;have W:(j=nd)=False:=av;have Z:(j=n1)=False:=av;have w3:(j=n1+1)=False:=av;have w4:(j=o)=False:=av;exact wW (ec W (ec Z (ec w3 w4))) ((dD j ω A).trans (old j ω A));have y1:(oo=nd)=False:=av;refine nS t0 t5 I ho1 J D @iP e5 e7 y1 ?_;obtain⟨b1,d1,d2⟩:=Fa (x:= -1) (y:=x) (s:=s) hR e8 λj v l u=>(e9 j v l u).2.2.2;have fr:∀j,j<n1 ->j≠nd ->j≠oo ->j≠o ->∀ob,aQ.get j=ob ->((((((aQ.put nd (.cells (v1+1) [ι (-1),ι x,.s s,rv])).put n1 (.cells (v1+1) [ι (-1),ι x,.s s,rv])).put oo .gone).put (n1+1) (.cells (v1+1+1+1) (cs++[ι (-1),ι x,.s s,rv]))).put o
  (.cells (v1+1+1+1+1) (gW g c B kk L a1 (.sl (n1+1) 0 (N.length+1) none 4))))).get j=ob:=λj h1 h2 O h4 ob e=>by
  have W:(j=nd)=False:=dQ h2;have Z:(j=n1)=False:=av;have w3:(j=n1+1)=False:=av;have w4:(j=o)=False:=dQ h4;have w5:(j=oo)=False:=dQ O;exact wW (ec W (ec Z (ec w3 (ec w4 w5)))) e
 refine hk a1 [⟨-1,x,s,R⟩] (.sl (n1+1) 0 (N.length+1) none 4) _ ω ha2 (hQ R hRm) (by show hb.next<=n1+1+1;omega) (.inr ⟨n1+1,cs++[ι (-1),ι x,.s s,rv],b1,by rw[dy];rfl,by simp,by omega,by show n1+1<n1+1+1;omega,U0,?_,by rw[dy,dy,e7];simp;omega,d1,λj v l u=> ?_⟩) (λj n e=>by cases e;show hb.next<=n1+1;omega) U0 λj u A xt=> ?_;rw[KD,e6];simp only[Ei,qR,D];rfl;rcases d2 j v l u with u|⟨n,e,u⟩;obtain⟨f1,f2,f3,f4⟩:=e9 j v l u;exact⟨by show j<n1+1+1;omega,f2,by omega,fr j ω ω f3 ω _ f4⟩;rcases hR with ⟨-,rfl⟩|⟨-,q,h2,O,rfl,-⟩;cases e;cases e;have b0:n0<=j:=h2;have U:j<n1:=O;exact⟨by show j<n1+1+1;omega,by omega,by omega,fr j U ω ω ω _ u⟩;exact fr j ω ω (λe=>xt N.length (by rw[e])) A _ ((dD j ω A).trans (old j ω A))
def bf3 {r} (h:r<6):sub [AV.s [120],AV.s [121],AV.s [97,98],AV.s [105,102],AV.s [122],AV.s [101,108,115,101]] r 1=some [AV.s (sS r)]:=by
 rcases(show r=0∨r=1∨r=2∨r=3∨r=4∨r=5 by omega) with rfl|rfl|rfl|rfl|rfl|rfl<;>rfl
def bf5 {i} (h:1<=i/\ i<9):jQ i≠[]:=by
 rcases(show i=1∨i=2∨i=3∨i=4∨i=5∨i=6∨i=7∨i=8 by omega) with rfl|rfl|rfl|rfl|rfl|rfl|rfl|rfl<;>simp[jQ,kj]
def bf6 {g} (G:oy g) (hc:c<8) {L a i} (Y:oV B kk) (ha:a<=kk) (hi:i<9) {N} (V:cG (h.oB.get o)=some (gW g c B kk L a ov)) (lo:o<h.next)
 (H:jU o h.next h ov N) (hN:N.length<=1000000) {Q} (hQ:∀s R,bF6 i s ->PG R ->Q [⟨-1,(i),s,R⟩]) {k} (hk:KE g c B kk L o a N ov h k Q):du C 90 [.p o 0,.ag [.b true,ι (i)]] h k:=by
 have f86:ae.get 90=some PL:=by rw[←Ug];exact F.f90
 have hH:=H;obtain⟨n0,v0,ob0⟩:=h;dsimp only at V lo;have b2:g.tc.zipIdx.length=11:=by rw[ny,G.tcl]
 obtain⟨tc,b1,hz⟩:=re (g:=g) G.tcl (i:=i) ω;have e7:sub (g.tc.zipIdx.flatMap dq) (i*7) 7=some (dq (tc,i)):=cW qx hz (j:=0) (n:=7) ω;have b0:nice 64 (.ag (dq (tc,i)))=true:=by rw[qe,oM]
 simp only[dq] at e7 b0;have bT:=V;simp only[gW,Ej,ar,gw,gx] at V;have z1:(o=n0)=False:=av;have z2:(o=n0+1)=False:=av;have z3:(o=n0+1+1)=False:=av;rw[yN E.ok (E.get f86)];by_cases h0:i=0;subst h0;have hl:jQ 0=[]:=rfl;have hs:wZ 0=[120]:=rfl;refine Y4 V e7 hl hs ?_;refine E.run (KA (n:=6) (a:=a) (g:=g) (L:=L) (ov:=ov) (c:=c) E F Y ha ω (wW (ec z1 (ec z2 z3)) bT) _ λr a1 h1 hr O U dS J W=> ?_);obtain⟨n1,v1,aQ⟩:=h1;obtain rfl:n1=n0+1+1+1:=dS;dsimp only at J W;obtain⟨b,hb⟩:=M.id r hr;have wc:∀h,bP P X GL 173 [.ag [.s (kj 0),ι (l7 0:Int),.s [],eR iF 5 true (jg 0),.s [120],tp (aE tc).1,ι ((aE tc).2:Int)],.s (sS r)] h (.b b) h:=λh=>Ue (t:=tc) S F (.inl rfl) hb h;have es:=bf3 hr;have c1:cG (aQ.get (n0+1))=some [.s (kj 0),ι (l7 0:Int),.s [],eR iF 5 true (jg 0),.s [120],tp (aE tc).1,ι ((aE tc).2:Int)]:=by
  rw[W _ ω];exact U0
 have c2:cG (aQ.get (n0+1+1))=some [ι (-1),ι ((0:Nat):Int),.s [120],.sn]:=by
  rw[W _ ω];exact U0
 have D:∀j,j<n0 ->j≠o ->aQ.get j=ob0.get j:=λj A u=>by
  rw[W j u];have I:(j=n0)=False:=av;have Z:(j=n0+1)=False:=av;exact U0
 have y1:(o=n0+1+1+1)=False:=av;have b3:=H.nice;refine Y2 c1 es ?_;refine E.cN (wc _) ?_;cases b;refine Y1 c2 ?_;refine KG (a:=a1) (N:=N) (m0:=n0) (nd:=n0+1+1) (x:=((0:Nat):Int)) (s:=[120]) S E F M G hc Y U ?_ (by show o<n0+1+1+1+1;omega) (jU.mono H (bB _) λj A u=> ?_) hN lo ω (by show n0+1+1<n0+1+1+1+1;omega) ?_ ?_ ?_ (hb:=⟨n0,v0,ob0⟩) rfl (λj A u=> ?_) O (λR hR=>hQ _ R (.inr (.inl rfl)) hR) hk;exact wW y1 J;have I:(j=n0+1+1+1)=False:=dQ (by have:j<n0:=A;omega);exact wW I (D j A u);(iterate 3 exact U1 c2);have I:(j=n0+1+1+1)=False:=av;exact wW I (D j A u);refine Y1 c2 ?_;refine KG (a:=a1) (N:=N) (m0:=n0) (nd:=n0+1+1) (x:=((0:Nat):Int)) (s:=sS r) S E F M G hc Y U ?_ (by show o<n0+1+1+1+1;omega) (jU.mono H (bB _) λj A u=> ?_) hN lo ω (by show n0+1+1<n0+1+1+1+1;omega) ?_ ?_ ?_ (hb:=⟨n0,v0,ob0⟩) rfl (λj A u=> ?_) O (λR hR=>hQ _ R (.inr (.inr ⟨r,hr,rfl⟩)) hR) hk;exact wW (ec y1 z3) J;have I:(j=n0+1+1+1)=False:=dQ (by have:j<n0:=A;omega);have Z:(j=n0+1+1)=False:=dQ (by have:j<n0:=A;omega);exact wW (ec I Z) (D j A u);(iterate 3 exact U0);have I:(j=n0+1+1+1)=False:=av;have Z:(j=n0+1+1)=False:=av;exact wW (ec I Z) (D j A u);have hl:(jQ i=[])=False:=dQ (bf5 ω);refine Y3 V e7 hl ?_;have D:∀j,j<n0 ->(((((ob0.put n0 (.cells v0 [.b true,ι (i:Int)])).put (n0+1) (.cells v0 [.s [],ι 0,.s [],.sn,.s [],.sn,ι 0])).put (n0+1)
  (.cells (v0+1+1) [.s (kj i),ι (l7 i:Int),.s (jQ i),eR iF 5 true (jg i),.s (wZ i),tp (aE tc).1,ι ((aE tc).2:Int)])).put (n0+1+1) (.cells (v0+1+1) [ι 0,ι 0,.s [],.sn])).put
  (n0+1+1) (.cells (v0+1+1+1) [ι (-1),ι (i:Int),.s (jQ i),.sn])).get j=ob0.get j:=λj A=>by
  exact U0
 refine KG (a:=a) (N:=N) (m0:=n0) (nd:=n0+1+1) (x:=(i:Int)) (s:=jQ i) S E F M G hc Y ha ?_ (by show o<n0+1+1+1;omega) (jU.mono H (bB _) λj A u=> ?_) hN lo ω (by show n0+1+1<n0+1+1+1;omega) ?_ ?_ ?_ (hb:=⟨n0,v0,ob0⟩) rfl (λj A u=> ?_) (bB _) (λR hR=>hQ _ R (.inl rfl) hR) hk;rw[show _=ob0.get o from D o lo];exact bT;exact D j A;(iterate 3 exact U0);exact D j A
def Ek:Nat ->Nat
 |0=>1
 |h+1=>1+8*Ek h
def Uh:∀h,1<=Ek h
 |0=>bB _
 |h+1=>xJ _ _
def Fb:∀{a b},a<=b ->Ek a<=Ek b
 |0,b,_=>Uh b
 |a+1,b+1,h=>by have:=Fb (show a<=b by omega);show 1+8*Ek a<=1+8*Ek b;omega
def qC (L:List Nat) (s:Bool×Nat):Nat:=if s.1 then 1 else Ek (vL L s.2)
def Lz (L:List Nat) (s:Bool×Nat):Nat:=if s.1 then 0 else vL L s.2+1
def mj (kk a n:Nat):Prop:=kk<=a∨40<n
def qD (l:Nat):Nat:=41+(41-l)*4680
def QQ (L:List Nat) (s:Bool×Nat) (kk a n:Nat) (n1:Nat):Prop:=1<=n1/\ (mj kk a n ->n1<=qC L s)/\ (¬mj kk a n ->n+n1<=qD n)
def Fc (g:Gr) (L:List Nat) (s:Bool×Nat):Prop:=(s.1=true/\ s.2<9)∨(s.1=false/\ s.2<g.nT.length/\ vL L s.2<1000)
def bT0 (g:Gr) (s:Bool×Nat) (N:List Tn):Prop:=∃f,Fo.ok g [s] f/\ f.fl=N
def Ui (C:aK Prop) (g:Gr) (c:Nat) (B:AV) (kk:Nat) (L:List Nat) (o m:Nat):Prop:=∀(s:Bool×Nat) (a:Nat) (N:List Tn) (ov:AV) (h:AH) (k:AV ->AH ->Prop),(kk-a)*10+Lz L s<m ->a<=kk ->Fc g L s ->(mj kk a N.length ->N.length+qC L s<=191921) ->jU o h.next h ov N ->
 cG (h.oB.get o)=some (gW g c B kk L a ov) ->o<h.next ->KE g c B kk L o a N ov h k (λN1=>QQ L s kk a N.length N1.length/\ bT0 g s N1) ->du C 90 [.p o 0,.ag (ba s)] h k
def Uj {g} (G:oy g) {L m} (IH:Ui C g c B kk L o m) (hB:oV B kk) {pi:Nat} {p} (hp:g.pR[pi]? =some p) {hx a1 m0} (Z:∀s∈p.right,Fc g L s/\ Lz L s<=hx) (hm:(kk-a1)*10+hx<m) (b0:a1<=kk)
 (J:Nat ->Nat ->Nat ->Prop) (Jlim:∀i a n s,p.right[i]? =some s ->J i a n ->mj kk a n ->n+qC L s<=191921) (Jstep:∀i a n s A n1,p.right[i]? =some s ->J i a n ->a<=A ->QQ L s kk a n n1 ->J (i+1) A (n+n1))
 {N0} {ob0:T bC} (l0:o<m0) {oz:Nat ->Prop} {k τ} (t0:τ.get 0=some (.p o 0)) (t8:τ.get 8=some (ι (pi))) (Y:m0<=h.next) (old:∀j,j<m0 ->j≠o ->¬oz j ->h.oB.get j=ob0.get j) {N1} (O:J 0 a1 (N0++N1).length) (U:jU o h.next h ov (N0++N1)) (H:∀j n,ov= .sl j 0 n none 4 ->m0<=j) (D:cG (h.oB.get o)=some (gW g c B kk L a1 ov))
 (fin:∀A N2 u h',(∃f,Fo.ok g p.right f/\ N2=N1++f.fl) ->J p.right.length A (N0++N2).length ->a1<=A ->A<=kk ->m0<=h'.next ->jU o h'.next h' u (N0++N2) ->(∀j n,u= .sl j 0 n none 4 ->m0<=j) ->cG (h'.oB.get o)=some (gW g c B kk L A u) ->(∀j,j<m0 ->j≠o ->¬oz j ->h'.oB.get j=ob0.get j) ->k (.tu []) h'):
 df C E9 [] (KF k []) τ h:=by
 have pl:=G.pl;have rl:=(G.p p (dI hp)).len;have d2:=(eC.1 hp).1;have e2:sub (g.pR.flatMap aM) (pi*13+2) 1=some [eR ba 2 p.rn p.right]:=cW kr hp (j:=2) (n:=1) ω;unfold E9;refine Y0 ?_;refine fj E.ok p.right.length (λi τ h=>τ.get 0=some (.p o 0)/\ τ.get 8=some (ι (pi:Int))/\ τ.get 9=some (ι (i:Int))/\ m0<=h.next/\ (∀j,j<m0 ->j≠o ->¬oz j ->h.oB.get j=ob0.get j)/\∃A N2 u,(∃f,Fo.ok g (p.right.take i) f/\ N2=N1++f.fl)/\ J i A (N0++N2).length/\ a1<=A/\ A<=kk/\ jU o h.next h u (N0++N2)/\ (∀j n,u= .sl j 0 n none 4 ->m0<=j)/\ cG (h.oB.get o)=some (gW g c B kk L A u)) ?_ ?_ _ _ ⟨?_,?_,?_,Y,old,a1,N1,ov,⟨.nil,trivial,(lG _).symm⟩,O,bB _,b0,U,H,D⟩;rintro i τ ⟨n1,v1,ob⟩ hi ⟨t0,t8,t9,Y,old,A,N2,u,⟨f,hf,N⟩,O,V,I,U,H,D⟩ ih;have R:p.right[i]? =some p.right[i]:=oc hi;generalize p.right[i]=s at R;have q2:sub (p.right.flatMap ba) (i*2) 2=some (ba s):=cW gO R (j:=0) (n:=2) ω;obtain⟨d0,d3⟩:=Z s (dI R);have bT:=D;dsimp only at D;simp only[gW,Ej,ar,gw,gx] at D;refine Y6 D t0 t8 t9 e2 q2 ?_;have c6:m0<=n1:=Y;refine E.run (IH s A (N0++N2) u ⟨n1,v1,ob⟩ _ ω I d0 (Jlim i A _ s R O) U bT (by show o<n1;omega) λa2 N3 ov2 h2 b1 b2 ⟨b3,f3,hf3,hN3⟩ b4 b5 b6 b7 b8=> ?_);obtain⟨n2,v2,aJ⟩:=h2;have d1:n1<=n2:=b4;refine Y1 t9 ?_;refine ih _ _ ⟨?_,?_,?_,by show m0<=n2;omega,λj hj W c7=> ?_,a2,N2++N3,ov2,⟨.app f f3,by rw[nY R];exact Fo.ok_app hf hf3,by rw[N,Fo.fl_app,←hN3,nz]⟩,?_,by omega,b2,?_,λj n e=>fJ c6 (b6 j n e),b7⟩;exact U1 t0;exact U1 t8;exact U0;exact(b8 j (by show j<n1;omega) W (λn e=>by have:=H j n e;omega)).trans (old j hj W c7);have:=Jstep i A _ s a2 _ R O b1 b3;rw[←nz,dy];exact this;rw[←nz];exact b5;rintro τ ⟨n1,v1,ob⟩ ⟨t0,t8,t9,Y,old,A,N2,u,⟨f,hf,N⟩,O,V,I,U,H,D⟩;have bT:=D;dsimp only at D;simp only[gW,Ej,ar,gw,gx] at D;refine Y5 D t0 t8 t9 e2 ?_;exact fin A N2 u _ ⟨f,by rw[rL] at hf;exact hf,N⟩ O V I Y U H bT old;exact U1 t0;exact U1 t8;exact U0
variable {b:Nat}
def Uk {a} (h:a<=b):qD b<=qD a:=by unfold qD;omega
def Ul a:41<=qD a:=by unfold qD;omega
def jU.len {N} (H:jU o b h ov N):(N.length=0/\ ov= .sn)∨∃oo,ov= .sl oo 0 N.length none 4:=by
 rcases H with ⟨rfl,rfl⟩|⟨oo,cs,tt,rfl,-⟩;exact .inl ⟨rfl,rfl⟩;exact .inr ⟨oo,rfl⟩
def bf7 {g} (G:oy g) (n3:g.nT.length<=3) {L} (H:BK g c L) {s} (Z:s.1=false) (b3:s.2<g.nT.length) (b2:vL L s.2<1000) {p} {pi:Nat} (hp:g.pR[pi]? =some p) (hf:fW g c L p<1000) {a a2 m n} (hm:(kk-a)*10+Lz L s<m+1)
 (W:mj kk a n ->n+qC L s<=191921) (hc:(mj kk a n/\ a2=a/\ fW g c L p=vL L s.2)∨(a<kk/\ n<=40/\ a2=a+1)):
 ∃hx,∃J:Nat ->Nat ->Nat ->Prop,(∀s∈p.right,Fc g L s/\ Lz L s<=hx)/\ (kk-a2)*10+hx<m/\ J 0 a2 (n+1)/\ (∀i a n s,p.right[i]? =some s ->J i a n ->mj kk a n ->n+qC L s<=191921)/\
  (∀i a n s D n1,p.right[i]? =some s ->J i a n ->a<=D ->QQ L s kk a n n1 ->J (i+1) D (n+n1))/\∀D n1,J p.right.length D (n+n1) ->QQ L s kk a n n1:=by
 have ok:=G.p p (dI hp);have rl:=ok.len;obtain⟨-,b0,I⟩:=(sR hf).1 (bB _);have R:∀s∈p.right,Fc g L s:=λu j=>by
  rcases ok.sym u j with h|⟨h1,h2⟩;exact .inl h;exact .inr ⟨h1,h2,by have:=I u j h1;omega⟩
 have b1:Lz L s=vL L s.2+1:=by unfold Lz;rw[Z];rfl
 have O:qC L s=Ek (vL L s.2):=by unfold qC;rw[Z];rfl
 rcases hc with ⟨hb,rfl,he⟩|⟨h1,h2,rfl⟩;generalize hh:vL L s.2=x at*;obtain⟨y,rfl⟩:∃y,x=y+1:=⟨x-1,by omega⟩;have zs:∀u∈p.right,qC L u<=Ek y:=λu j=>by
  unfold qC;split;exact Uh y;rename_i e;exact Fb (by have:=I u j (by simpa using e);omega)
 have e8:Ek (y+1)=1+8*Ek y:=rfl;rw[O,e8] at W;have W:=W hb;generalize Ek y=w at*;refine⟨y+1,λi D n'=>(mj kk D n'/\ n+1<=n')/\ n'<=n+1+i*w,λu j=>⟨R u j,?_⟩,by omega,⟨⟨?_,bB _⟩,by omega⟩,λi D n' u hi A N=> ?_,λi D n' u V n1 hi A ha U=> ?_,λD n1 A=>⟨by have:=A.1.2;omega,λ_=> ?_,λh=>bh hb h⟩⟩;unfold Lz;split;omega;rename_i e;have:=I u j (by simpa using e);omega;unfold mj at hb ⊢;omega;have h1:=zs u (dI hi);have h2:=(eC.1 hi).1;have Y:i*w<=7*w:=ni w ω;have:=A.2;omega;have h1:=zs u (dI hi);have h2:=U.2.1 A.1.1;have Y:=A.2;have h4:=A.1.1;have h5:=A.1.2;refine⟨⟨?_,by omega⟩,?_⟩;unfold mj at h4 ⊢;omega;rw[vE];omega;have Y:p.right.length*w<=8*w:=ni w rl;have:=A.2;rw[O,e8];omega;have nb:¬mj kk a n:=by unfold mj;omega
 have fin:∀u∈p.right,u.1=false ->vL L u.2<=3:=λu j e=>by
  rcases ok.sym u j with ⟨h,-⟩|⟨-,h⟩;rw[e] at h;cases h;have:=H.fin u.2 h (by have:=I u j e;omega);omega
 have zs:∀u∈p.right,qC L u<=585:=λu j=>by
  unfold qC;split;omega;rename_i e;exact Fb (b:=3) (fin u j (by simpa using e))
 have uu:qD n=qD (n+1)+4680:=by unfold qD;omega
 have u0:qD n<=191921:=Uk (a:=0) (oi _);have ug:=Ul (n+1);refine⟨4,λi D n'=>n+1<=n'/\ n'<=qD (n+1)+i*585,λu j=>⟨R u j,?_⟩,by omega,⟨bB _,by omega⟩,λi D n' u hi A N=> ?_,λi D n' u V n1 hi A ha U=> ?_,λD n1 A=>⟨by have:=A.1;omega,λh=>bh h nb,λ_=> ?_⟩⟩;unfold Lz;split;omega;rename_i e;have:=fin u j (by simpa using e);omega;have h1:=zs u (dI hi);have h2:=(eC.1 hi).1;have:=A.2;omega;have h1:=zs u (dI hi);refine⟨by have:=A.1;omega,?_⟩;by_cases N:mj kk D n';have:=U.2.1 N;have:=A.2;omega;have:=U.2.2 N;have:=Uk A.1;omega;have:=A.2;omega
def bf8 {g} (G:oy g) (U:c<8) {L} (H:BK g c L) {a m N} (O:oV B kk) (D:a<=kk) (Y:m<g.nT.length) (V:vL L m<1000) (R:N<=1000000)
 (A:(N=0/\ ov= .sn)∨∃oo,ov= .sl oo 0 N none 4) (J:cG (h.oB.get o)=some (gW g c B kk L a ov)) (lo:o<h.next) (k)
 (I:∀(u:Nat) (p) (a2) (h'),g.pR[u]? =some p ->fW g c L p<1000 ->(false,m)=(false,p.left) ->a<=a2 ->a2<=kk ->((mj kk a N/\ a2=a/\ fW g c L p=vL L m)∨(a<kk/\ N<=40/\ a2=a+1)) ->h.next<=h'.next ->cG (h'.oB.get o)=some (gW g c B kk L a2 ov) ->(∀j,j<h.next ->j≠o ->h'.oB.get j=h.oB.get j) ->k (ι (u)) h'):
 du C 174 [.p o 0,ι (m)] h k:=
 be8 S E F G U H O D Y V R A J lo k
  (λhb u h' ⟨p,hp,hl,he⟩ hn old=>I u p a h' hp ω (by rw[hl]) (bB _) D (.inl ⟨hb,rfl,he⟩) hn (by rw[old o lo];exact J) λj W _=>old j W)
  λh1 h2 u h' ⟨p,hp,hl,he⟩ hn bT old=>I u p (a+1) h' hp he (by rw[hl]) (nD _) h1 (.inr ⟨h1,h2,rfl⟩) hn bT old
def bf9 {g} (G:oy g) (n3:g.nT.length<=3) (hc:c<8) {L} (HL:BK g c L) (hB:oV B kk):∀m,Ui C g c B kk L o m:=by
 intro m;induction m with
 |zero=>intro s a N ov h k hm;omega
 |succ m IH=>
  rintro⟨b,i0⟩ a N ov h k hm ha hs hl hO ho lo hk;have hN:N.length<=191921:=by
   by_cases hb:mj kk a N.length;have:=hl hb;omega;unfold mj at hb;omega
  rcases hs with ⟨hb,hi⟩|⟨hb,hi,hf⟩;obtain rfl:b=true:=hb;refine bf6 S E F M G hc hB ha hi ho lo hO ω (λs R h1 h2=>⟨⟨bB _,λ_=>bB _,λh=> ?_⟩,.lf _ .nil,⟨⟨rfl,rfl,rfl,h1,h2⟩,trivial⟩,rfl⟩) hk;have:=Ul N.length;unfold mj at h;show N.length+1<=qD N.length;unfold qD;omega;obtain rfl:b=false:=hb;have f86:ae.get 90=some PL:=by rw[←Ug];exact F.f90
  have ol:=hO.len;have b5:=hO.nice;obtain⟨n0,v0,ob0⟩:=h;dsimp only at ho lo;have z1:(o=n0)=False:=av;rw[yN E.ok (E.get f86)];refine Y1 @ba.eq_1 ?_;refine E.run (bf8 (m:=i0) (N:=N.length) (ov:=ov) (a:=a) (L:=L) (kk:=kk) (B:=B) (o:=o) S E F G hc HL hB ha hi hf ω ol (by exact wW z1 ho) (by show o<n0+1;omega) _ λH p a2 h1 Y b0 Z b4 V U dS D dD=> ?_);obtain⟨hx,J,I,W,J0,Jlim,Jstep,Jfin⟩:=bf7 (s:=(false,i0)) G n3 HL rfl hi hf Y b0 hm hl U;have H1:=hO.mono (h':=h1) (b':=n0) (bB _) λj A u=>by
   have m9:j<n0:=A;rw[dD j (by show j<n0+1;omega) u];exact U0
  obtain⟨n1,v1,aQ⟩:=h1;have b2:n0+1<=n1:=dS;dsimp only at D dD;have b3:=D;simp only[gW,Ej,ar,gw,gx] at D;rcases H1 with ⟨rfl,rfl⟩|⟨oo,cs,tt,rfl,e2,e3,e4,e5,e6,e7,e8,e9⟩;refine Y2 D @iP ?_;obtain⟨tt,d1,d2⟩:=Fa (x:=(H:Int)) (y:= -1) (s:=[]) (b:=0) (h:=⟨n1,v1,aQ⟩) (rv:= .sn) (R:=[]) (tt:=⟨0,0,.e⟩) (cs:=[]) (N:=[]) (.inl ⟨rfl,rfl⟩) rfl λj v l A=>by cases A
  refine Uj (m:=m) (a1:=a2) (m0:=n0) (N0:=[]) (N1:=[⟨H,-1,[],[]⟩]) (ov:= .sl (n1+1) 0 1 none 4) (ob0:=ob0) (oz:=λj=>∃n,AV.sn=AV.sl j 0 n none 4) E G IH hB Y I W V J Jlim Jstep lo ?_ ?_ (by show n0<=n1+1+1;omega) (λj A u _=> ?_) J0 (.inr ⟨n1+1,[ι (H:Int),ι (-1),.s [],.sn],tt,rfl,by simp,by omega,by show n1+1<n1+1+1;omega,?_,rfl,rfl,d1,λj v l A=> ?_⟩) (λj n e=>by cases e;omega) ?_ (λa' N2 ov' h' ⟨f,e0,O⟩ e1 e2 e3 e4 e5 e6 e7 e8=>hk a' N2 ov' h' ω e3 ⟨Jfin a' _ (by rw[←dy];exact e1),.nd ⟨H,-1,[],[]⟩ f .nil,⟨⟨H,p,rfl,Y,Z,e0,rfl,rfl,rfl⟩,trivial⟩,(congrArg (_:: ·) (lG f.fl)).trans O.symm⟩ e4 e5 e6 e7 λj A u hz=>e8 j A u λ⟨n,e⟩=>hz n e);exact U0;exact U0;have w1:(j=n1)=False:=av;have w2:(j=n1+1)=False:=av;have w3:(j=o)=False:=dQ u;have w4:(j=n0)=False:=av;refine wW (ec w1 (ec w2 w3)) ((dD j (by show j<n0+1;omega) u).trans ?_);exact U0;exact U0;rcases d2 j v l A with A|⟨n,e,A⟩;cases A;cases e;exact U0;have x1:(oo=n1)=False:=av;dsimp only at e5;refine Y5 D @iP e5 e7 x1 ?_;obtain⟨b1,d1,d2⟩:=Fa (x:=(H:Int)) (y:= -1) (s:=[]) (b:=0) (h:=⟨n1,v1,aQ⟩) (rv:= .sn) (R:=[]) (.inl ⟨rfl,rfl⟩) e8 λj v l A=>(e9 j v l A).2.2.2;refine Uj (m:=m) (a1:=a2) (m0:=n0) (N0:=N) (N1:=[⟨H,-1,[],[]⟩]) (ov:= .sl (n1+1) 0 (N.length+1) none 4) (ob0:=ob0) (oz:=λj=>∃n,AV.sl oo 0 N.length none 4=AV.sl j 0 n none 4) E G IH hB Y I W V J Jlim Jstep lo ?_ ?_ (by show n0<=n1+1+1;omega) (λj A u hz=> ?_) (by rw[dy];exact J0) (.inr ⟨n1+1,cs++[ι (H:Int),ι (-1),.s [],.sn],b1,by rw[dy];rfl,by simp,by omega,by show n1+1<n1+1+1;omega,?_,by rw[KD,e6];rfl,by rw[dy,dy,e7];simp;omega,d1,λj v l A=> ?_⟩) (λj n e=>by cases e;omega) ?_ (λa' N2 ov' h' ⟨f,e0,O⟩ e1 e2 e3 e4 e5 e6 e7 e8=>hk a' N2 ov' h' ω e3 ⟨Jfin a' _ (by rw[←dy];exact e1),.nd ⟨H,-1,[],[]⟩ f .nil,⟨⟨H,p,rfl,Y,Z,e0,rfl,rfl,rfl⟩,trivial⟩,(congrArg (_:: ·) (lG f.fl)).trans O.symm⟩ e4 e5 e6 e7 λj A u hz=>e8 j A u λ⟨n,e⟩=>hz n e);exact U0;exact U0;have w1:(j=n1)=False:=av;have w2:(j=n1+1)=False:=av;have w3:(j=o)=False:=dQ u;have w4:(j=n0)=False:=av;have w5:(j=oo)=False:=dQ λe=>hz ⟨N.length,by rw[e]⟩;refine wW (ec w1 (ec w2 (ec w3 w5))) ((dD j (by show j<n0+1;omega) u).trans ?_);exact U0;exact U0;rcases d2 j v l A with A|⟨n,e,A⟩;obtain⟨f1,f2,f3,f4⟩:=e9 j v l A;have w1:(j=n1)=False:=av;have w2:(j=n1+1)=False:=av;have w3:(j=o)=False:=av;have w4:(j=oo)=False:=dQ f3;exact⟨by show j<n1+1+1;omega,f2,by omega,wW (ec w1 (ec w2 (ec w3 w4))) f4⟩;cases e;exact U0
def WT (g:Gr) (N:List Tn) (R:List (List Nat)):Prop:=(∃m,bT0 g (false,m) N)/\ PG R
structure mq (b:Nat) (h:AH) (ov rv:AV) (N:List Tn) (R:List (List Nat)):Prop where
 o:(N=[]/\ ov= .sn)∨∃oo,ov= .sl oo 0 N.length none 4
 r:(R=[]/\ rv= .sn)∨∃q,rv= .sl q 0 R.length none 1
 d:∃tt:AH,(∀j v l,tt.oB.get j=some (.cells v l) ->b<=j/\ j<h.next/\ h.oB.get j=some (.cells v l))/\ deep 9 tt ov=some (eR fG 4 true N)/\ deep 9 tt rv=some (eR jT 1 true R)
def mq.mono {h' rv N R} (T:mq b h ov rv N R) (H:h.next<=h'.next) (old:∀j,b<=j ->j<h.next ->h'.oB.get j=h.oB.get j):mq b h' ov rv N R:=by
 obtain⟨h1,h2,tt,u,A,D⟩:=T;refine⟨h1,h2,tt,λj v l G=> ?_,A,D⟩;obtain⟨a,b,c⟩:=u j v l G;exact⟨a,by omega,by rw[old j a b];exact c⟩
def jU.mono' {b' h' N} (H:jU o b h ov N) (hb:b<=b') (old:∀j,j<b ->o<j ->h'.oB.get j=h.oB.get j):jU o b' h' ov N:=by
 rcases H with H|⟨oo,cs,tt,e1,e2,e3,e4,e5,e6,e7,e8,e9⟩;exact .inl H;refine .inr ⟨oo,cs,tt,e1,e2,e3,by omega,by rw[old oo e4 e3];exact e5,e6,e7,e8,λj v l u=> ?_⟩;obtain⟨a,b,c,d⟩:=e9 j v l u;exact⟨by omega,b,c,by rw[old j a b];exact d⟩
def mq.low {b' rv N R} (A:mq b h ov rv N R) (hb:b'<=b):mq b' h ov rv N R:=by
 obtain⟨h1,h2,tt,u,D,G⟩:=A;exact⟨h1,h2,tt,λj v l H=>by obtain⟨a,b,c⟩:=u j v l H;exact⟨by omega,b,c⟩,D,G⟩
def bg0 {rv N R} (H:jU o b h ov N) (hb:b<=h.next) (ob:o<b) (I:E7 b h rv R):mq o h ov rv N R:=by
 have key:∃tt:AH,(∀j v l,tt.oB.get j=some (.cells v l) ->o<=j/\ j<h.next/\ h.oB.get j=some (.cells v l))/\ deep 9 tt ov=some (eR fG 4 true N):=by
  rcases H with ⟨rfl,rfl⟩|⟨oo,cs,tt,rfl,e2,e3,e4,e5,e6,e7,e8,e9⟩;exact⟨⟨0,0,.e⟩,λj v l u=>(by cases u),rfl⟩;obtain⟨v0,D⟩:=EW e5;refine⟨⟨tt.next,tt.ver,tt.oB.put oo (.cells v0 cs)⟩,λj v l u=> ?_,?_⟩;have A:(tt.oB.put oo (.cells v0 cs)).get j=some (.cells v l):=u;rw[T.get_put] at A;split at A;rename_i e;subst e;exact⟨by omega,by omega,by rw[D];exact A⟩;obtain⟨f1,f2,f3,f4⟩:=e9 j v l A;exact⟨by omega,by omega,f4⟩;rw[gA (n:=8) (l:=cs) (l':=N.flatMap fG) (by show cG ((tt.oB.put oo _).get oo)=_;rw[T.get_put,aF rfl];rfl) ((BG (h1:=tt) (λj v l u=>⟨v,?_⟩) 8).2 _ _ e8),BL e2];show(tt.oB.put oo _).get j=_;rw[T.get_put,aD (e9 j v l u).2.2.1];exact u
 refine⟨?_,?_,?_⟩;rcases H with H|⟨oo,cs,tt,rfl,-⟩;exact .inl H;exact .inr ⟨oo,rfl⟩;rcases I with H|⟨-,q,-,-,rfl,-⟩;exact .inl H;exact .inr ⟨q,rfl⟩;obtain⟨tt,G,J⟩:=key;rcases I with ⟨rfl,rfl⟩|⟨e1,q,e2,e3,rfl,e4⟩;exact⟨tt,G,J,rfl⟩;obtain⟨v0,e5⟩:=EW e4;refine⟨⟨tt.next,tt.ver,tt.oB.put q (.cells v0 (R.map AV.s))⟩,λj v l u=> ?_,(BG (h1:=tt) (λj v l u=>⟨v,?_⟩) 9).1 _ _ J,?_⟩;have A:(tt.oB.put q (.cells v0 (R.map AV.s))).get j=some (.cells v l):=u;rw[T.get_put] at A;split at A;rename_i e;subst e;exact⟨by omega,e3,by rw[e5];exact A⟩;exact G j v l A;show(tt.oB.put q _).get j=_;rw[T.get_put];split;rename_i e;subst e;rw[←e5];exact(G _ _ _ u).2.2;exact u;rw[gA (n:=8) (l:=R.map AV.s) (l':=R.flatMap jT) (by show cG ((tt.oB.put q _).get q)=_;rw[T.get_put,aF rfl];rfl) (by rw[KC];exact ad5 R),BL e1]
def bg1 L {m} (h:vL L m<=3):0+qC L (false,m)<=191921:=by
 have:Ek (vL L m)<=Ek 3:=Fb h;have e:Ek 3=585:=rfl;show 0+Ek (vL L m)<=_;omega
def bg2 {g} (G:oy g) (n3:g.nT.length<=3) (hc:c<8) {m} (V:oV B kk) (hm:m<g.nT.length) h k
 (c7:∀h',h.next<=h'.next ->(∀j,j<h.next ->h'.oB.get j=h.oB.get j) ->k (.tu [.ag [.sn,.sn],.b false]) h')
 (d0:∀N R ov rv h',WT g N R ->mq h.next h' ov rv N R ->h.next<=h'.next ->(∀j,j<h.next ->h'.oB.get j=h.oB.get j) ->k (.tu [.ag [ov,rv],.b true]) h'):
 du C 49 [aI g,.i .u64 (c),ι (m),B] h k:=by
 have HL:=be3 (c:=c) G;have hp:=be5 S F G hc;generalize vu g c=L at HL hp;have u:=λh=>dR S hp (n:=9) (by rw[aL,aL,bZ,kq (n:=6),dH]) h;simp only[aI,ar] at u;have bq:=iW (g:=g);simp only[ar] at bq;have bn:=V.nk;have eQ:=HL.len;have d1:m<L.length:=by omega
 have J:sub (L.flatMap cI) m 1=some [ι (vL L m:Int)]:=by
  have O:L[m]? =some L[m]:=oc d1;have:=cW qw O (j:=0) (n:=1) ω;unfold vL;rw[kX,O];simpa[cI] using this
 have c6:cellsOf B=[B]/\ cellsO B=some [B]/\ ew B=true:=by rcases V.b with ⟨-,rfl⟩|⟨D,rfl,-⟩<;>exact⟨rfl,rfl,rfl⟩
 obtain⟨d4,A,d5⟩:=c6;obtain⟨n0,v0,ob0⟩:=h;refine E.bS F.f49 (Y2 @aI.eq_1 @ar.eq_1 ?_);refine E.cN (u _) ?_;rcases iO (vL L m) 1000 with q|q;have q':(1000<=((vL L m:Nat):Int))=False:=av;refine Y5 bq bn J q' A ?_;have l3:=HL.fin m hm q;refine E.run (bf9 S E F M G n3 hc HL (kk:=kk) (o:=n0+2) V _ (false,m) 0 [] .sn _ _ (qI _) (oi _) (.inr ⟨rfl,hm,q⟩) (λ_=>bg1 L ω) (.inl ⟨rfl,rfl⟩) ?_ (by show n0+2<n0+1+1+1;omega) λa1 N1 ov1 h1 a2 a3 a4' a5 a6 a7 a8 a9=> ?_);exact U0;obtain⟨n1,v1,aQ⟩:=h1;have d2:n0+1+1+1<=n1:=a5;have ro:(ov1= .sn/\ N1=[])∨∃oo,ov1= .sl oo 0 N1.length none 4:=by
  rcases a6 with ⟨h,h'⟩|⟨oo,cs,tt,h,-⟩;exact .inl ⟨h',h⟩;exact .inr ⟨oo,h⟩
 have H:cellsOf ov1=[ov1]/\ cellsO ov1=some [ov1]/\ ew ov1=true:=by rcases ro with ⟨rfl,-⟩|⟨oo,rfl⟩<;>exact⟨rfl,rfl,rfl⟩
 obtain⟨H,b8,I⟩:=H;have Z:=a8;dsimp only at a8 a9;simp only[gW,Ej,ar,gw,gx] at a8;have c8:cG (aQ.get (n0+1))=some [.sn,.sn]:=by
  rw[a9 (n0+1) (by show n0+1<n0+1+1+1;omega) ω (λn e=>by cases e)];exact U0
 have x1:(n0+1=n1)=False:=av;have x3:(n0+2=n1)=False:=av;refine Y3 a8 b8 I ?_;refine E.run (Uf (a:=a1) (ov:=ov1) S E F M G hc V a3 (wW x3 Z) (by show n0+2<n1+1;omega) _ λrv R a4 h2 b1 b2 b3 b4 b5 b6' b6=> ?_);have rr:cellsOf rv=[rv]/\ cellsO rv=some [rv]/\ ew rv=true:=by rcases b6 with ⟨-,rfl⟩|⟨-,q,-,-,rfl,-⟩<;>exact⟨rfl,rfl,rfl⟩
 obtain⟨cr1,cr2,cr3⟩:=rr;obtain⟨n2,v2,aJ⟩:=h2;have d3:n1+1<=n2:=b3;dsimp only at b5;have b7:cG (aJ.get (n0+1))=some [.sn,.sn]:=by
  rw[b5 (n0+1) ω ω];exact wW x1 c8
 have b0:cG (aJ.get n1)=some [ov1,.sn]:=by
  rw[b5 n1 ω ω];exact U0
 refine Y5 b7 b0 I cr1 cr3 ?_;have fr:∀j,j<n0 ->((aJ.put n1 (.cells (v2+1) [ov1,rv])).put (n0+1) (.cells (v2+1+1) [ov1,rv])).get j=ob0.get j:=λj W=>by
  have y1:(j=n1)=False:=av;have U:(j=n0+1)=False:=av;refine wW (ec y1 U) ((b5 j ω ω).trans ?_);refine wW y1 ((a9 j (by show j<n0+1+1+1;omega) ω (λn e=>by cases e)).trans ?_);exact U0
 refine d0 ([]++N1) R ov1 rv _ ⟨⟨m,a4'.2⟩,b6'⟩ (mq.low (bg0 (o:=n0+2) (b:=n1) (a6.mono' (bB _) λj W d8=> ?_) (by show n1<=n2;omega) ω ?_) (by show n0<=n0+2;omega)) (by show n0<=n2;omega) fr;have m9:j<n1:=W;have y1:(j=n1)=False:=av;have U:(j=n0+1)=False:=av;refine wW (ec y1 U) ((b5 j ω ω).trans ?_);exact U0;rcases b6 with h|⟨e1,Y,e2,e3,e4,e5⟩;exact .inl h;have d6:n1+1<=Y:=e2;refine .inr ⟨e1,Y,by omega,e3,e4,?_⟩;have y1:(Y=n1)=False:=av;have U:(Y=n0+1)=False:=av;exact wW (ec y1 U) e5;have q':(1000<=((vL L m:Nat):Int))=True:=cJ;refine Y5 bq bn J q' A ?_;refine c7 _ (by show n0<=n0+1+1+1;omega) λj W=> ?_;have m9:j<n0:=W;exact U0
def bg3 {kn g l}:(sO kn g l).nT=g.nT/\ (sO kn g l).st=g.st:=by
 unfold sO kN;split<;>exact⟨rfl,rfl⟩
def bg4 {g r}:(rt g r).nT=g.nT/\ (rt g r).st=g.st:=by
 unfold rt lB;split;split<;>exact⟨rfl,rfl⟩;split;exact⟨rfl,rfl⟩;split<;>exact⟨rfl,rfl⟩
def KH {α:Type} {f} (j:∀g a,(f g a).nT=g.nT/\ (f g a).st=g.st):∀(l:List α) (g:Gr),(l.foldl f g).nT=g.nT/\ (l.foldl f g).st=g.st
 |[],g=>⟨rfl,rfl⟩
 |a::l,g=>by rw[zH];obtain⟨h1,h2⟩:=KH j l (f g a);rw[h1,h2];exact j g a
def Um x:(fU x).nT.length<=3/\ (∀s∈(fU x).nT,s.length=1)/\ (fU x).st=0:=by
 have e:(fU x).nT=(PH x).nT/\ (fU x).st=(PH x).st:=by
  unfold fU oU;obtain⟨h1,h2⟩:=KH (f:=rt) (λ_ _=>bg4) (x.rU.take (min 6 6)) (lC x x.most);rw[h1,h2];unfold lC;obtain⟨h1,h2⟩:=KH (f:=sO x.known) (λ_ _=>bg3) (x.lI.take (min x.most x.most)) (If x);rw[h1,h2];unfold If kw;split;split<;>exact⟨rfl,rfl⟩;exact⟨rfl,rfl⟩
 rw[e.1,e.2];unfold PH;split;have:∀k,(iZ k).nT.length<=3/\ (∀s∈(iZ k).nT,s.length=1)/\ (iZ k).st=0:=λk=>by
  unfold iZ;split<;>(unfold xf;decide)
 exact this _;unfold pG;refine⟨?_,λs j=> ?_,rfl⟩;show(List.take _ [[83],[80],[81]]).length<=3;rw[jm];simp;omega;have:=List.mem_of_mem_take j;simp at this;rcases this with rfl|rfl|rfl<;>rfl
structure zh where
 x:fA
 cfg:Nat
 lnl:Bool
 l:List Nat
 snl:Bool
 s:List Nat
structure zh.OK (i:zh):Prop where
 x:i.x.OK
 cfg:i.cfg<256
 l:∀b∈i.l,b<256
def rx (i:zh):List AV:=gI i.x++[.i .u8 (i.cfg:Int),eR cB 1 i.lnl i.l,eR cB 1 i.snl i.s]
def Un:∀l:List Nat,l.flatMap cB=l.map λb:Nat=>AV.i .u8 (b)
 |[]=>rfl
 |a::l=>by rw[lE,Un l];rfl
def bg5 {nl j} (hb:∀b∈j,b<256):oV (vp 1 (j.flatMap cB) (min j.length 40) (eR cB 1 nl j)) (min j.length 40):=by
 have key:oV (.ds (j.flatMap cB) 0 (min j.length 40) 1) (min j.length 40):=by
  refine⟨.inr ⟨_,rfl,λi hi=> ?_⟩,by rw[nN];exact fE pH j,zI _ _⟩;have u:j[i]? =some j[i]:=oc ω;exact⟨j[i],hb _ (dI u),by rw[Un,oh,u];rfl⟩
 rcases j with _|⟨a,L⟩;cases nl;exact key;exact⟨.inl ⟨rfl,rfl⟩,rfl,oi _⟩;exact key
def bg6 (S:aT P X GL ae) (R:eL ae) (A:dY P X GL) (Q:jf ae) (FM:hZ ae) (KB:xi P X GL ae) (E:Sem P X GL ae C) (F:fu ae) (M:tZ P X GL ae) {i} (ok:i.OK) h k
 (J:∀h',h.next<=h'.next ->(∀j,j<h.next ->h'.oB.get j=h.oB.get j) ->k (.tu [.ag (ar (fU i.x)),.i .u64 (Ef (fU i.x) i.cfg:Int),.ag [.sn,.sn],.b false]) h')
 (L:∀N R ov rv h',WT (fU i.x) N R ->mq h.next h' ov rv N R ->h.next<=h'.next ->(∀j,j<h.next ->h'.oB.get j=h.oB.get j) ->k (.tu [.ag (ar (fU i.x)),.i .u64 (Ef (fU i.x) i.cfg:Int),.ag [ov,rv],.b true]) h'):
 du C 13 [.ag (rx i)] h k:=by
 have mc:=λh=>dR S (bb8 S R A Q FM KB ok.x) (n:=9) (by rw[aL,bZ,bc1 (n:=4)]) h;obtain⟨G,b4,gp⟩:=Kw ok.x;obtain⟨n3,-,b0⟩:=Um i.x;have cc:=λh=>dR S (bd8 S F G ok.cfg) (n:=9) (by rw[aL,aL,bZ,kq (n:=6),dH]) h;obtain⟨c8,-⟩:=bS7 G i.cfg;have tr:=λh k h0 h1=>bg2 (C:=C) (m:=0) S E F M G n3 c8 (bg5 (nl:=i.lnl) ok.l) (by have:=G.ntl;omega) h k h0 h1;generalize Ef (fU i.x) i.cfg=c at*;generalize fU i.x=g at*;obtain⟨⟨base,nn,fnl,fam,lnl,lI,rnl,rU⟩,cfg,ll,l,sl,s⟩:=i;dsimp only at*;have mn:(if (40:Int)<(l.length:Int) then (40:Int) else (l.length:Int))=((min l.length 40:Nat):Int):=by split<;>omega
 have b1:∀(τ:T AV) h,az C τ (.t 23)=eR cB 1 ll l ->az C τ (.t 27)=ι ((min l.length 40:Nat):Int) ->step (az C τ) h (.slc 1 (.t 23) none (some (.t 27)) none)= .v (vp 1 (l.flatMap cB) (min l.length 40) (eR cB 1 ll l)) h:=λτ h h1 h2=>TV (Ro _ _) h1 (by rw[h2];exact tC);have bq:=iW (g:=g);have u:(g.st:Int)=0:=by rw[b0];rfl
 obtain⟨n0,v0,ob0⟩:=h;rw[E.cB F.f13];simp only[vm,gI] at mc;simp only[aI,ar,u] at mc cc tr;simp only[ar,u] at bq J L;refine Z2 @rx.eq_1 @gI.eq_1 ?_;refine E.cN (mc _) (Z0 ?_);refine E.cN (cc _) (Z3 @jP mn b1 ?_);refine E.run (tr _ _ (λh1 Z D=> ?_) λN R' ov rv h1 wt TA Z D=> ?_);obtain⟨n1,v1,H⟩:=h1;have O:n0+1+1+1+1+1<=n1:=Z;dsimp only at D;have c3:cG (H.get (n0+1+1+1))=some (ar g):=by rw[D (n0+1+1+1) (by show n0+1+1+1<n0+1+1+1+1+1;omega)];simp only[ar,u];exact U0
 have c1:cG (H.get (n0+1))=some ZG:=by rw[D (n0+1) (by show n0+1<n0+1+1+1+1+1;omega)];exact U0
 have c2:cG (H.get (n0+1+1))=some [.sn,.sn]:=by rw[D (n0+1+1) (by show n0+1+1<n0+1+1+1+1+1;omega)];exact U0
 simp only[ar,u] at c3;simp only[ZG] at c1;refine Z3 c1 c2 c3 ?_;refine J _ (by show n0<=n1;omega) λj I=> ?_;have m9:j<n0:=I;have y1:(j=n0+1)=False:=av;have U:(j=n0+1+1)=False:=av;have V:(j=n0+4)=False:=av;refine wW (ec y1 (ec U V)) ((D j (by show j<n0+1+1+1+1+1;omega)).trans ?_);exact U0;obtain⟨n1,v1,H⟩:=h1;have O:n0+1+1+1+1+1<=n1:=Z;dsimp only at D;have c3:cG (H.get (n0+1+1+1))=some (ar g):=by rw[D (n0+1+1+1) (by show n0+1+1+1<n0+1+1+1+1+1;omega)];simp only[ar,u];exact U0
 have c1:cG (H.get (n0+1))=some ZG:=by rw[D (n0+1) (by show n0+1<n0+1+1+1+1+1;omega)];exact U0
 have c2:cG (H.get (n0+1+1))=some [.sn,.sn]:=by rw[D (n0+1+1) (by show n0+1+1<n0+1+1+1+1+1;omega)];exact U0
 simp only[ar,u] at c3;simp only[ZG] at c1;obtain⟨ro,rr⟩:=ec TA.o TA.r;have co:cellsOf ov=[ov]/\ cellsO ov=some [ov]/\ ew ov=true/\ nice 63 ov=true:=by rcases ro with ⟨-,rfl⟩|⟨oo,rfl⟩<;>exact⟨rfl,rfl,rfl,rfl⟩
 have cr:cellsOf rv=[rv]/\ cellsO rv=some [rv]/\ ew rv=true/\ nice 63 rv=true:=by rcases rr with ⟨-,rfl⟩|⟨oo,rfl⟩<;>exact⟨rfl,rfl,rfl,rfl⟩
 obtain⟨b2,b3,W,Y⟩:=co;obtain⟨cr1,cr2,cr3,cr4⟩:=cr;refine Z7 c1 c2 c3 W Y cr3 cr4 ?_;refine L N R' ov rv _ wt (mq.low (TA.mono (bB _) λj I b5=> ?_) (by show n0<=n0+1+1+1+1+1;omega)) (by show n0<=n1;omega) λj I=> ?_;have m9:n0+1+1+1+1+1<=j:=I;have y1:(j=n0+1)=False:=av;have U:(j=n0+1+1)=False:=av;have V:(j=n0+4)=False:=av;exact U0;have m9:j<n0:=I;have y1:(j=n0+1)=False:=av;have U:(j=n0+1+1)=False:=av;have V:(j=n0+4)=False:=av;refine wW (ec y1 (ec U V)) ((D j (by show j<n0+1+1+1+1+1;omega)).trans ?_);exact U0
structure sT where
 i:zh
 rnl:Bool
 r:List Nat
 w:Nat
structure sT.OK (x:sT):Prop where
 i:x.i.OK
 r:∀b∈x.r,b<256
def m8 (x:sT):List AV:=rx x.i++[eR cB 1 x.rnl x.r,.i .u8 (x.w:Int)]
def bg7 {h' RL v} (D:rq h RL v) (G:h.next<=h'.next) (low:∀o n,v= .sl o 0 (n+1) none 4 ->b<=o) (old:∀j,b<=j ->j<h.next ->h'.oB.get j=h.oB.get j):rq h' RL v:=by
 rcases D with h1|⟨o,n,h1,rfl,u,A⟩;exact .inl h1;exact .inr ⟨o,n,h1,rfl,by omega,by rw[old o (low o n rfl) u];exact A⟩
def bg8 (S:aT P X GL ae) (R:eL ae) (A:dY P X GL) (Q:jf ae) (FM:hZ ae) (FS:li ae) (KB:xi P X GL ae) (E:Sem P X GL ae C) (F:fu ae) (M:tZ P X GL ae) {i} (ok:i.OK) h k
 (L:∀ov rv h',(cellsOf ov=[ov]/\ cellsO ov=some [ov]/\ ew ov=true) ->(cellsOf rv=[rv]/\ cellsO rv=some [rv]/\ ew rv=true) ->k (.tu [.ag (ar (fU i.i.x)),.i .u64 (Ef (fU i.i.x) i.i.cfg:Int),.ag [ov,rv],.sn,.b false]) h')
 (Y:∀N R ov rv RL v h',N.length<=40 ->WT (fU i.i.x) N R ->mq h.next h' ov rv N R ->RL.length<=12 ->iG (fU i.i.x) RL=true ->rq h' RL v ->(∀o n,v= .sl o 0 (n+1) none 4 ->h.next<=o) ->h.next<=h'.next ->(∀j,j<h.next ->h'.oB.get j=h.oB.get j) ->k (.tu [.ag (ar (fU i.i.x)),.i .u64 (Ef (fU i.i.x) i.i.cfg:Int),.ag [ov,rv],v,.b true]) h'):
 du C 5 [.ag (m8 i)] h k:=by
 obtain⟨b2,b5,gp⟩:=Kw ok.i.x;have gr:=λh k h0 h1=>bg6 (C:=C) S R A Q FM KB E F M ok.i h k h0 h1;have ru:=λh k hk=>bc0 (C:=C) (nl:=i.rnl) (m:=min i.r.length 36) S E FS b2 gp ok.r (Ro _ _) (zI _ _) h k hk;generalize Ef (fU i.i.x) i.i.cfg=c at*;generalize fU i.i.x=g at*;obtain⟨⟨⟨base,nn,fnl,fam,lnl,lI,rnl,rU⟩,cfg,ll,l,sl,s⟩,rl,r,w⟩:=i;dsimp only at*;have mn:(if (36:Int)<(r.length:Int) then (36:Int) else (r.length:Int))=((min r.length 36:Nat):Int):=by split<;>omega
 have b3:∀(τ:T AV) h,az C τ (.t 35)=eR cB 1 rl r ->az C τ (.t 39)=ι ((min r.length 36:Nat):Int) ->step (az C τ) h (.slc 1 (.t 35) none (some (.t 39)) none)= .v (vp 1 (r.flatMap cB) (min r.length 36) (eR cB 1 rl r)) h:=λτ h h1 h2=>TV (Ro _ _) h1 (by rw[h2];exact tC);have bq:=iW (g:=g);obtain⟨n0,v0,ob0⟩:=h;rw[E.cB F.f5];simp only[rx,gI,gw,gx,ar] at gr;simp only[aI,ar] at ru;simp only[ar] at bq L Y;refine Z3 @m8.eq_1 @rx.eq_1 @gI.eq_1 ?_;refine E.run (gr _ _ (λh1 dS D=> ?_) λN R' ov rv h1 wt TA dS D=> ?_);obtain⟨n1,v1,I⟩:=h1;have Z:n0+1+1+1<=n1:=dS;dsimp only at D;have c1:cG (I.get (n0+1))=some ZG:=by rw[D (n0+1) (by show n0+1<n0+1+1+1;omega)];exact U0
 have c2:cG (I.get (n0+1+1))=some [.sn,.sn]:=by rw[D (n0+1+1) (by show n0+1+1<n0+1+1+1;omega)];exact U0
 simp only[ZG] at c1;refine Z2 c1 c2 ?_;exact L .sn .sn _ ⟨rfl,rfl,rfl⟩ ⟨rfl,rfl,rfl⟩;obtain⟨n1,v1,I⟩:=h1;have Z:n0+1+1+1<=n1:=dS;dsimp only at D;have c1:cG (I.get (n0+1))=some ZG:=by rw[D (n0+1) (by show n0+1<n0+1+1+1;omega)];exact U0
 have c2:cG (I.get (n0+1+1))=some [.sn,.sn]:=by rw[D (n0+1+1) (by show n0+1+1<n0+1+1+1;omega)];exact U0
 have c0:cG (I.get n0)=some (m8 ⟨⟨⟨base,nn,fnl,fam,lnl,lI,rnl,rU⟩,cfg,ll,l,sl,s⟩,rl,r,w⟩):=by rw[D n0 (by show n0<n0+1+1+1;omega)];simp only[m8,rx,gI,gw,gx];exact U0
 simp only[ZG] at c1;simp only[m8,rx,gI,gw,gx] at c0;obtain⟨ro,rr⟩:=ec TA.o TA.r;have co:cellsOf ov=[ov]/\ cellsO ov=some [ov]/\ ew ov=true/\ nice 63 ov=true/\∀h,kg h ov= .v (ι (N.length:Int)) h:=by rcases ro with ⟨rfl,rfl⟩|⟨oo,rfl⟩<;>exact⟨rfl,rfl,rfl,rfl,λ_=>rfl⟩
 have cr:cellsOf rv=[rv]/\ cellsO rv=some [rv]/\ ew rv=true/\ nice 63 rv=true:=by rcases rr with ⟨-,rfl⟩|⟨oo,rfl⟩<;>exact⟨rfl,rfl,rfl,rfl⟩
 obtain⟨b0,b1,u,V,W⟩:=co;obtain⟨cr1,cr2,cr3,cr4⟩:=cr;rcases iO 40 N.length with q|q;have q':((40:Int)<(N.length:Int))=True:=cJ;refine Z8 c1 c2 u V W cr3 cr4 q' ?_;exact L ov rv _ ⟨b0,b1,u⟩ ⟨cr1,cr2,cr3⟩;have q':((40:Int)<(N.length:Int))=False:=av;refine Z8 c0 u W cr3 q' @jP mn b3 ?_;refine E.run (ru _ _ λRL v h2 hRL hRu hn2 eG low=> ?_);obtain⟨n2,v2,G⟩:=h2;have b4:n1+2<=n2:=hn2;have O:∀j,j<n1+2 ->G.get j=_:=λj U=>eG j (by show j<n1+2;omega);have d1:cG (G.get (n0+1))=some ZG:=by
  rw[O (n0+1) ω];have y1:(n0+1=n1)=False:=av;have H:(n0+1=n1+1)=False:=av;exact wW (ec y1 H) c1
 have d2:cG (G.get (n0+1+1))=some [.sn,.sn]:=by
  rw[O (n0+1+1) ω];have y1:(n0+1+1=n1)=False:=av;have H:(n0+1+1=n1+1)=False:=av;exact wW (ec y1 H) c2
 have d3:cG (G.get n1)=some (ar g):=by rw[O n1 ω];exact U1 @ar.eq_1
 have d4:cG (G.get (n1+1))=some [ov,rv]:=by rw[O (n1+1) ω];exact U0
 simp only[ZG] at d1;simp only[ar] at d3;refine Z9 bq d1 d2 d3 d4 u V cr3 cr4 ?_;have fr:∀j,n0+1+1+1<=j ->j<n1 ->((G.put (n0+1) (.cells (v2+1) (ar g))).put (n0+1+1) (.cells (v2+1+1) [ov,rv])).get j=I.get j:=λj U J=>by
  have y1:(j=n0+1)=False:=av;have H:(j=n0+1+1)=False:=av;have y3:(j=n1)=False:=av;have y4:(j=n1+1)=False:=av;refine wW (ec y1 H) ((O j ω).trans ?_);exact U0
 refine Y N R' ov rv RL v _ q wt (mq.low (TA.mono (h':=⟨n2,v2+1+1,(G.put (n0+1) (.cells (v2+1) (ar g))).put (n0+1+1) (.cells (v2+1+1) [ov,rv])⟩) (by show n1<=n2;omega) λj U J=>fr j U J) (by show n0<=n0+1+1+1;omega)) hRL.1 hRL.2 (bg7 (h':=⟨n2,v2+1+1,(G.put (n0+1) (.cells (v2+1) (ar g))).put (n0+1+1) (.cells (v2+1+1) [ov,rv])⟩) (b:=n1+2) hRu (bB _) (λo n e=>low o n e) λj U J=> ?_) (λo n e=>by have h:=low o n e;have h2:n1+2<=o:=h;show n0<=o;omega) (by show n0<=n2;omega) λj U=> ?_;have y1:(j=n0+1)=False:=av;have H:(j=n0+1+1)=False:=av;exact U0;have m9:j<n0:=U;have y1:(j=n0+1)=False:=av;have H:(j=n0+1+1)=False:=av;have y3:(j=n1)=False:=av;have y4:(j=n1+1)=False:=av;refine wW (ec y1 H) ((O j ω).trans ?_);refine wW (ec y3 y4) ((D j (by show j<n0+1+1+1;omega)).trans ?_);exact U0
end
end AM
