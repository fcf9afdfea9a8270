import Derived.Test.YtihgjngjidijaaaGreatDoorN27
import Derived.Test.YtihgjngjidijaaaGreatDoorN28
set_option linter.all false
set_option maxHeartbeats 8000000
namespace AM
open Dg Go
noncomputable section
def KE (g:Gr) (c:Nat) (B:AV) (kk:Nat) (L:List Nat) (o:Nat) (a:Nat) (N:List Tn) (ov:AV) (h:AH) (k:AV ->AH ->Prop) (Q:Nat ->Prop):Prop:=
 ∀a' N1 ov' h',a<=a' ->a'<=kk ->Q N1.length ->h.next<=h'.next ->jU o h'.next h' ov' (N++N1) ->(∀j n,ov'= .sl j 0 n none 4 ->h.next<=j) ->cG (h'.oB.get o)=some (gW g c B kk L a' ov') ->(∀j,j<h.next ->j≠o ->(∀n,ov≠.sl j 0 n none 4) ->h'.oB.get j=h.oB.get j) ->k (.tu []) h'
variable {P:Program} {X:aR} {GL:T (List AV)} {ae:T au}
def jU.nice {o b:Nat} {h:AH} {ov:AV} {N:List Tn} (H:jU o b h ov N):nice 64 ov=true:=by rcases H with ⟨-,rfl⟩|⟨oo,cs,tt,rfl,-⟩<;>rfl
variable (S:aT P X GL ae) {C:aK Prop} (E:Sem P X GL ae C)
def KG (F:fu ae) (M:tZ P X GL ae) {g:Gr} (G:ce g) {c:Nat} (hc:c<8) {L:List Nat} {B:AV} {kk a o nd:Nat} (hB:oV B kk) (ha:a<=kk) {ov:AV} {N:List Tn} {h:AH} (ho:cG (h.oB.get o)=some (gW g c B kk L a ov)) (lo:o<h.next)
 {m0:Nat} (H:jU o m0 h ov N) (hN:N.length<=1000000) (l0:o<m0) (l1:m0<=nd) (hnd:nd<h.next) {x:Int} {s:List Nat} (cn:cG (h.oB.get nd)=some [ι (-1),ι x,.s s,.sn]) {τ:T AV} (t0:τ.get 0=some (.p o 0)) (t5:τ.get 5=some (.p nd 0)) {Y:aw} {hb:AH} (hbn:hb.next=m0)
 (old:∀j,j<m0 ->j≠o ->h.oB.get j=hb.oB.get j) {a0:Nat} (ha0:a0<=a) {Q:Nat ->Prop} (hQ:Q 1) {k:AV ->AH ->Prop} (hk:KE g c B kk L o a0 N ov hb k Q):
 df C E8 [.s Y] (KF k []) τ h:=by
 obtain⟨n0,v0,ob0⟩:=h;dsimp only at ho lo hnd cn old;unfold E8;refine Y2 t0 t5 ?_;refine E.run (Uf S E F M G hc hB ha ho lo _ λrv R a1 h1 ha1 ha2 dS ho1 dD hR=> ?_);have H1:=H.mono (o:=o) (bB _) λj hj hjo=>dD j (by show j<n0;omega) hjo;obtain⟨n1,v1,aQ⟩:=h1;dsimp only at dS ho1 dD;have cn1:cG (aQ.get nd)=some [ι (-1),ι x,.s s,.sn]:=by rw[dD nd hnd ω];exact cn
 have nov:=H.nice;have ho1':=ho1;simp only[gW,m6,ar,gw,gx] at ho1;have z1:(nd=o)=False:=av;have z2:(o=nd)=False:=av;have z3:(o=n1)=False:=av;have z4:(nd=n1)=False:=av;have z5:(o=n1+1)=False:=av;have nrv:nice 64 rv=true:=by rcases hR with ⟨-,rfl⟩|⟨-,q,-,-,rfl,-⟩<;>rfl
 have crv:cellsOf rv=[rv]:=by rcases hR with ⟨-,rfl⟩|⟨-,q,-,-,rfl,-⟩<;>rfl
 have crw:cellsO rv=some [rv]:=by rcases hR with ⟨-,rfl⟩|⟨-,q,-,-,rfl,-⟩<;>rfl
 have srv:ew rv=true:=by rcases hR with ⟨-,rfl⟩|⟨-,q,-,-,rfl,-⟩<;>rfl
 rcases H1 with ⟨rfl,rfl⟩|⟨oo,cs,tt,rfl,e2,e3,e4,e5,e6,e7,e8,e9⟩
 ·refine sB t0 t5 cn1 ho1 nov nrv z1 z2 z3 z4 z5 crv crw srv @iP ?_;obtain⟨tt,d1,d2⟩:=Fa (x:= -1) (y:=x) (s:=s) (tt:=⟨0,0,.e⟩) (cs:=[]) (N:=[]) hR rfl λj v l hj=>by cases hj
  refine hk a1 [⟨-1,x,s,R⟩] (.sl (n1+1) 0 1 none 4) _ ω ha2 hQ (by show hb.next<=n1+1+1;omega) (.inr ⟨n1+1,[ι (-1),ι x,.s s,rv],tt,rfl,by simp,by omega,by show n1+1<n1+1+1;omega,U0,?_,rfl,d1,λj v l hj=> ?_⟩) (λj n e=>by cases e;show hb.next<=n1+1;omega) U0 λj hj hjo _=> ?_
  ·simp only[lT,qR,srv];rfl
  ·rcases d2 j v l hj with hj|⟨n,e,hj⟩
   ·cases hj
   ·rcases hR with ⟨-,rfl⟩|⟨-,q,h2,h3,rfl,-⟩
    ·cases e
    ·cases e;have h2':n0<=j:=h2;have h3':j<n1:=h3;have w1:(j=nd)=False:=av;have w2:(j=n1)=False:=av;have w3:(j=n1+1)=False:=av;have w4:(j=o)=False:=av;refine⟨by show j<n1+1+1;omega,by omega,by omega,?_⟩;exact wW (ap w1 (ap w2 (ap w3 w4))) hj
  ·have w1:(j=nd)=False:=av;have w2:(j=n1)=False:=av;have w3:(j=n1+1)=False:=av;have w4:(j=o)=False:=av;exact wW (ap w1 (ap w2 (ap w3 w4))) ((dD j ω hjo).trans (old j ω hjo))
 ·have y1:(oo=nd)=False:=av;have y2:(oo=n1)=False:=av;have l8:(N.length+1<=1048576)=True:=cJ;have y3:(o=oo)=False:=av;refine Bm t0 t5 cn1 ho1 nov nrv z1 z2 z3 z4 z5 crv crw srv @iP e5 e7 y1 y2 l8 y3 ?_;obtain⟨tt',d1,d2⟩:=Fa (x:= -1) (y:=x) (s:=s) hR e8 λj v l hj=>(e9 j v l hj).2.2.2;have fr:∀j,j<n1 ->j≠nd ->j≠oo ->j≠o ->∀ob,aQ.get j=ob ->((((((aQ.put nd (.cells (v1+1) [ι (-1),ι x,.s s,rv])).put n1 (.cells (v1+1) [ι (-1),ι x,.s s,rv])).put oo .gone).put (n1+1) (.cells (v1+1+1+1) (cs++[ι (-1),ι x,.s s,rv]))).put o
   (.cells (v1+1+1+1+1) (gW g c B kk L a1 (.sl (n1+1) 0 (N.length+1) none 4))))).get j=ob:=λj h1 h2 h3 h4 ob e=>by
   have w1:(j=nd)=False:=dQ h2;have w2:(j=n1)=False:=av;have w3:(j=n1+1)=False:=av;have w4:(j=o)=False:=dQ h4;have w5:(j=oo)=False:=dQ h3;exact wW (ap w1 (ap w2 (ap w3 (ap w4 w5)))) e
  refine hk a1 [⟨-1,x,s,R⟩] (.sl (n1+1) 0 (N.length+1) none 4) _ ω ha2 hQ (by show hb.next<=n1+1+1;omega) (.inr ⟨n1+1,cs++[ι (-1),ι x,.s s,rv],tt',by rw[dy];rfl,by simp,by omega,by show n1+1<n1+1+1;omega,U0,?_,by rw[dy,dy,e7];simp;omega,d1,λj v l hj=> ?_⟩) (λj n e=>by cases e;show hb.next<=n1+1;omega) U0 λj hj hjo dc=> ?_
  ·rw[KD,e6];simp only[lT,qR,srv];rfl
  ·rcases d2 j v l hj with hj|⟨n,e,hj⟩
   ·obtain⟨f1,f2,f3,f4⟩:=e9 j v l hj;exact⟨by show j<n1+1+1;omega,f2,by omega,fr j ω ω f3 ω _ f4⟩
   ·rcases hR with ⟨-,rfl⟩|⟨-,q,h2,h3,rfl,-⟩
    ·cases e
    ·cases e;have h2':n0<=j:=h2;have h3':j<n1:=h3;exact⟨by show j<n1+1+1;omega,by omega,by omega,fr j h3' ω ω ω _ hj⟩
  ·exact fr j ω ω (λe=>dc N.length (by rw[e])) hjo _ ((dD j ω hjo).trans (old j ω hjo))
def bf3 {r:Nat} (h:r<6):sub [AV.s [120],AV.s [121],AV.s [97,98],AV.s [105,102],AV.s [122],AV.s [101,108,115,101]] r 1=some [AV.s (sS r)]:=by
 rcases(show r=0∨r=1∨r=2∨r=3∨r=4∨r=5 by omega) with rfl|rfl|rfl|rfl|rfl|rfl<;>rfl
def bf5 {i:Nat} (h:1<=i/\ i<9):jQ i≠[]:=by
 rcases(show i=1∨i=2∨i=3∨i=4∨i=5∨i=6∨i=7∨i=8 by omega) with rfl|rfl|rfl|rfl|rfl|rfl|rfl|rfl<;>simp[jQ,kj]
def bf6 (F:fu ae) (M:tZ P X GL ae) {g:Gr} (G:ce g) {c:Nat} (hc:c<8) {L:List Nat} {B:AV} {kk a o i:Nat} (hB:oV B kk) (ha:a<=kk) (hi:i<9) {ov:AV} {N:List Tn} {h:AH} (ho:cG (h.oB.get o)=some (gW g c B kk L a ov)) (lo:o<h.next)
 (H:jU o h.next h ov N) (hN:N.length<=1000000) {Q:Nat ->Prop} (hQ:Q 1) {k:AV ->AH ->Prop} (hk:KE g c B kk L o a N ov h k Q):du C 86 [.p o 0,.ag [.b true,ι (i:Int)]] h k:=by
 have f86:ae.get 86=some xj:=by rw[←Ug];exact F.f86
 have hH:=H;obtain⟨n0,v0,ob0⟩:=h;dsimp only at ho lo;have nk5:nice 64 (eR dq 7 true g.tc.zipIdx)=true:=dg oM;have nk6:∀k,nice 64 (.dp (g.tc.zipIdx.flatMap dq) k)=true:=λk=>by rw[fK,fE oM]
 have hzl:g.tc.zipIdx.length=11:=by rw[ny,G.tcl]
 obtain⟨tc,htc,hz⟩:=re (g:=g) G.tcl (i:=i) ω;have e7:sub (g.tc.zipIdx.flatMap dq) (i*7) 7=some (dq (tc,i)):=cW qx hz (j:=0) (n:=7) ω;have nkt:nice 64 (.ag (dq (tc,i)))=true:=by rw[qe,oM]
 simp only[dq] at e7 nkt;have bT:=ho;simp only[gW,m6,ar,gw,gx] at ho;have z1:(o=n0)=False:=av;have z2:(o=n0+1)=False:=av;have z3:(o=n0+1+1)=False:=av;rw[yN E.ok (E.get f86)];by_cases h0:i=0
 ·subst h0;have hl:jQ 0=[]:=rfl;have hs:wZ 0=[120]:=rfl;refine iU @xj.eq_1 ho nk5 nk6 nkt @bG hzl e7 z1 z2 hl hs ?_;refine E.run (KA (n:=6) (a:=a) (g:=g) (L:=L) (ov:=ov) (c:=c) E F hB ha ω (wW (ap z1 (ap z2 z3)) bT) _ λr a1 h1 hr ha1 ha2 dS ho1 dD=> ?_);obtain⟨n1,v1,aQ⟩:=h1;obtain rfl:n1=n0+1+1+1:=dS;dsimp only at ho1 dD;obtain⟨b,hb⟩:=M.id r hr;have wc:∀h,bP P X GL 171 [.ag [.s (kj 0),ι (l7 0:Int),.s [],eR iF 5 true (jg 0),.s [120],cu (aE tc).1,ι ((aE tc).2:Int)],.s (sS r)] h (.b b) h:=λh=>Ue (t:=tc) S F (.inl rfl) hb h;have es:=bf3 hr;have c1:cG (aQ.get (n0+1))=some [.s (kj 0),ι (l7 0:Int),.s [],eR iF 5 true (jg 0),.s [120],cu (aE tc).1,ι ((aE tc).2:Int)]:=by
   rw[dD _ ω];exact U0
  have c2:cG (aQ.get (n0+1+1))=some [ι (-1),ι ((0:Nat):Int),.s [120],.sn]:=by
   rw[dD _ ω];exact U0
  have fr:∀j,j<n0 ->j≠o ->aQ.get j=ob0.get j:=λj hj hjo=>by
   rw[dD j hjo];have w1:(j=n0)=False:=av;have w2:(j=n0+1)=False:=av;have w3:(j=n0+1+1)=False:=av;exact U3 w1 w2 w3
  have y1:(o=n0+1+1+1)=False:=av;have ovn:=H.nice;refine Y3 c1 c2 es ?_;refine E.cN (wc _) ?_;cases b with
  |false=>
   refine Y2 c1 c2 ?_;refine KG (a:=a1) (N:=N) (m0:=n0) (nd:=n0+1+1) (x:=((0:Nat):Int)) (s:=[120]) S E F M G hc hB ha2 ?_ (by show o<n0+1+1+1+1;omega) (jU.mono H (bB _) λj hj hjo=> ?_) hN lo ω (by show n0+1+1<n0+1+1+1+1;omega) ?_ ?_ ?_ (hb:=⟨n0,v0,ob0⟩) rfl (λj hj hjo=> ?_) ha1 hQ hk
   ·exact wW y1 ho1
   ·have w1:(j=n0+1+1+1)=False:=dQ (by have:j<n0:=hj;omega);exact wW w1 (fr j hj hjo)
   ·exact U1 c2
   ·exact U0
   ·exact U0
   ·have w1:(j=n0+1+1+1)=False:=av;exact wW w1 (fr j hj hjo)
  |true=>
   refine Y2 c1 c2 ?_;refine KG (a:=a1) (N:=N) (m0:=n0) (nd:=n0+1+1) (x:=((0:Nat):Int)) (s:=sS r) S E F M G hc hB ha2 ?_ (by show o<n0+1+1+1+1;omega) (jU.mono H (bB _) λj hj hjo=> ?_) hN lo ω (by show n0+1+1<n0+1+1+1+1;omega) ?_ ?_ ?_ (hb:=⟨n0,v0,ob0⟩) rfl (λj hj hjo=> ?_) ha1 hQ hk
   ·exact wW (ap y1 z3) ho1
   ·have w1:(j=n0+1+1+1)=False:=dQ (by have:j<n0:=hj;omega);have w2:(j=n0+1+1)=False:=dQ (by have:j<n0:=hj;omega);exact wW (ap w1 w2) (fr j hj hjo)
   ·exact U0
   ·exact U0
   ·exact U0
   ·have w1:(j=n0+1+1+1)=False:=av;have w2:(j=n0+1+1)=False:=av;exact wW (ap w1 w2) (fr j hj hjo)
 ·have hl:(jQ i=[])=False:=dQ (bf5 ω);refine jC @xj.eq_1 ho nk5 nk6 nkt @bG hzl e7 z1 z2 hl ?_;have fr:∀j,j<n0 ->(((((ob0.put n0 (.cells v0 [.b true,ι (i:Int)])).put (n0+1) (.cells v0 [.s [],ι 0,.s [],.sn,.s [],.sn,ι 0])).put (n0+1)
   (.cells (v0+1+1) [.s (kj i),ι (l7 i:Int),.s (jQ i),eR iF 5 true (jg i),.s (wZ i),cu (aE tc).1,ι ((aE tc).2:Int)])).put (n0+1+1) (.cells (v0+1+1) [ι 0,ι 0,.s [],.sn])).put
   (n0+1+1) (.cells (v0+1+1+1) [ι (-1),ι (i:Int),.s (jQ i),.sn])).get j=ob0.get j:=λj hj=>by
   have w1:(j=n0)=False:=av;have w2:(j=n0+1)=False:=av;have w3:(j=n0+1+1)=False:=av;exact U3 w1 w2 w3
  refine KG (a:=a) (N:=N) (m0:=n0) (nd:=n0+1+1) (x:=(i:Int)) (s:=jQ i) S E F M G hc hB ha ?_ (by show o<n0+1+1+1;omega) (jU.mono H (bB _) λj hj hjo=> ?_) hN lo ω (by show n0+1+1<n0+1+1+1;omega) ?_ ?_ ?_ (hb:=⟨n0,v0,ob0⟩) rfl (λj hj hjo=> ?_) (bB _) hQ hk
  ·rw[show _=ob0.get o from fr o lo];exact bT
  ·exact fr j hj
  ·exact U0
  ·exact U0
  ·exact U0
  ·exact fr j hj
def m7:Nat ->Nat
 |0=>1
 |h+1=>1+8*m7 h
def Uh:∀h,1<=m7 h
 |0=>bB _
 |h+1=>xJ _ _
def Fb:∀{a b:Nat},a<=b ->m7 a<=m7 b
 |0,b,_=>Uh b
 |a+1,b+1,h=>by have:=Fb (show a<=b by omega);show 1+8*m7 a<=1+8*m7 b;omega
def qC (L:List Nat) (s:Bool×Nat):Nat:=if s.1 then 1 else m7 (vL L s.2)
def vv (L:List Nat) (s:Bool×Nat):Nat:=if s.1 then 0 else vL L s.2+1
def mj (kk a n:Nat):Prop:=kk<=a∨40<n
def qD (l:Nat):Nat:=41+(41-l)*4680
def QQ (L:List Nat) (s:Bool×Nat) (kk a n:Nat) (n1:Nat):Prop:=1<=n1/\ (mj kk a n ->n1<=qC L s)/\ (¬mj kk a n ->n+n1<=qD n)
def Fc (g:Gr) (L:List Nat) (s:Bool×Nat):Prop:=(s.1=true/\ s.2<9)∨(s.1=false/\ s.2<g.nT.length/\ vL L s.2<1000)
def Ui (C:aK Prop) (g:Gr) (c:Nat) (B:AV) (kk:Nat) (L:List Nat) (o m:Nat):Prop:=∀(s:Bool×Nat) (a:Nat) (N:List Tn) (ov:AV) (h:AH) (k:AV ->AH ->Prop),(kk-a)*10+vv L s<m ->a<=kk ->Fc g L s ->(mj kk a N.length ->N.length+qC L s<=191921) ->jU o h.next h ov N ->
 cG (h.oB.get o)=some (gW g c B kk L a ov) ->o<h.next ->KE g c B kk L o a N ov h k (QQ L s kk a N.length) ->du C 86 [.p o 0,.ag (ba s)] h k
def Uj {g:Gr} (G:ce g) {c:Nat} {L:List Nat} {B:AV} {kk o m:Nat} (IH:Ui C g c B kk L o m) (hB:oV B kk) {pi:Nat} {p:Pr} (hp:g.pR[pi]? =some p) {hx a1 m0:Nat} (hsym:∀s∈p.right,Fc g L s/\ vv L s<=hx) (hm:(kk-a1)*10+hx<m) (ha1:a1<=kk)
 (J:Nat ->Nat ->Nat ->Prop) (Jlim:∀i a n s,p.right[i]? =some s ->J i a n ->mj kk a n ->n+qC L s<=191921) (Jstep:∀i a n s a' n1,p.right[i]? =some s ->J i a n ->a<=a' ->QQ L s kk a n n1 ->J (i+1) a' (n+n1))
 {N0:List Tn} {ob0:T bC} (l0:o<m0) {oz:Nat ->Prop} {k:AV ->AH ->Prop} {τ:T AV} {h:AH} (t0:τ.get 0=some (.p o 0)) (t8:τ.get 8=some (ι (pi:Int))) (hn:m0<=h.next) (old:∀j,j<m0 ->j≠o ->¬oz j ->h.oB.get j=ob0.get j) {N1:List Tn} {ov:AV} (hJ:J 0 a1 (N0++N1).length) (hO:jU o h.next h ov (N0++N1)) (hov:∀j n,ov= .sl j 0 n none 4 ->m0<=j) (ho:cG (h.oB.get o)=some (gW g c B kk L a1 ov))
 (fin:∀a' N2 ov' h',J p.right.length a' (N0++N2).length ->a1<=a' ->a'<=kk ->m0<=h'.next ->jU o h'.next h' ov' (N0++N2) ->(∀j n,ov'= .sl j 0 n none 4 ->m0<=j) ->cG (h'.oB.get o)=some (gW g c B kk L a' ov') ->(∀j,j<m0 ->j≠o ->¬oz j ->h'.oB.get j=ob0.get j) ->k (.tu []) h'):
 df C E9 [] (KF k []) τ h:=by
 have pl:=G.pl;have rl:=(G.p p (dI hp)).len;have hpl:=(eC.1 hp).1;have nk4:nice 64 (eR aM 13 true g.pR)=true:=dg iV;have nk3:∀k,nice 64 (.dp (g.pR.flatMap aM) k)=true:=λk=>by rw[fK,fE iV]
 have db:nice 64 (eR ba 2 p.rn p.right)=true:=dg jE;have dk:∀k,nice 64 (.dp (p.right.flatMap ba) k)=true:=λk=>by rw[fK,fE jE]
 have e2:sub (g.pR.flatMap aM) (pi*13+2) 1=some [eR ba 2 p.rn p.right]:=cW kr hp (j:=2) (n:=1) ω;unfold E9;refine Y2 t0 t8 ?_;refine fj E.ok p.right.length (λi τ h=>τ.get 0=some (.p o 0)/\ τ.get 8=some (ι (pi:Int))/\ τ.get 9=some (ι (i:Int))/\ m0<=h.next/\ (∀j,j<m0 ->j≠o ->¬oz j ->h.oB.get j=ob0.get j)/\∃a' N2 ov',J i a' (N0++N2).length/\ a1<=a'/\ a'<=kk/\ jU o h.next h ov' (N0++N2)/\ (∀j n,ov'= .sl j 0 n none 4 ->m0<=j)/\ cG (h.oB.get o)=some (gW g c B kk L a' ov')) ?_ ?_ _ _ ⟨?_,?_,?_,hn,old,a1,N1,ov,hJ,bB _,ha1,hO,hov,ho⟩
 ·rintro i τ ⟨n1,v1,ob⟩ hi ⟨t0,t8,t9,hn,old,a',N2,ov',hJ,ha',ha2,hO,hov,ho⟩ ih;have hs:p.right[i]? =some p.right[i]:=cE hi;generalize p.right[i]=s at hs;have q2:sub (p.right.flatMap ba) (i*2) 2=some (ba s):=cW gO hs (j:=0) (n:=2) ω;obtain⟨hs1,hs2⟩:=hsym s (dI hs);have bT:=ho;dsimp only at ho;simp only[gW,m6,ar,gw,gx] at ho;have hil:((i:Int)<(p.right.length:Int))=True:=cJ;refine pm ho t0 t8 t9 db dk nk3 nk4 @bG @dw e2 q2 hil ?_;have hjl:m0<=n1:=hn;refine E.run (IH s a' (N0++N2) ov' ⟨n1,v1,ob⟩ _ ω ha2 hs1 (Jlim i a' _ s hs hJ) hO bT (by show o<n1;omega) λa2 N3 ov2 h2 b1 b2 b3 b4 b5 b6 b7 b8=> ?_);obtain⟨n2,v2,aJ⟩:=h2;have b4':n1<=n2:=b4;refine Y4 t0 t8 t9 @bK ?_;refine ih _ _ ⟨?_,?_,?_,by show m0<=n2;omega,λj hj hjo hjz=> ?_,a2,N2++N3,ov2,?_,by omega,b2,?_,λj n e=>fJ hjl (b6 j n e),b7⟩
  ·exact U1 t0
  ·exact U1 t8
  ·exact U0
  ·exact(b8 j (by show j<n1;omega) hjo (λn e=>by have:=hov j n e;omega)).trans (old j hj hjo hjz)
  ·have:=Jstep i a' _ s a2 _ hs hJ b1 b3;rw[←nz,dy];exact this
  ·rw[←nz];exact b5
 ·rintro τ ⟨n1,v1,ob⟩ ⟨t0,t8,t9,hn,old,a',N2,ov',hJ,ha',ha2,hO,hov,ho⟩;have bT:=ho;dsimp only at ho;simp only[gW,m6,ar,gw,gx] at ho;refine jC ho t0 t8 t9 db dk nk3 nk4 @bG @dw e2 ?_;exact fin a' N2 ov' _ hJ ha' ha2 hn hO hov bT old
 ·exact U1 t0
 ·exact U1 t8
 ·exact U0
def Uk {a b:Nat} (h:a<=b):qD b<=qD a:=by unfold qD;omega
def Ul (a:Nat):41<=qD a:=by unfold qD;omega
def jU.len {o b:Nat} {h:AH} {ov:AV} {N:List Tn} (H:jU o b h ov N):(N.length=0/\ ov= .sn)∨∃oo,ov= .sl oo 0 N.length none 4:=by
 rcases H with ⟨rfl,rfl⟩|⟨oo,cs,tt,rfl,-⟩
 ·exact .inl ⟨rfl,rfl⟩
 ·exact .inr ⟨oo,rfl⟩
def bf7 {g:Gr} (G:ce g) (n3:g.nT.length<=3) {c:Nat} {L:List Nat} (H:BK g c L) {s:Bool×Nat} (hs:s.1=false) (hsn:s.2<g.nT.length) (hsf:vL L s.2<1000) {p:Pr} {pi:Nat} (hp:g.pR[pi]? =some p) (hf:fW g c L p<1000) {kk a a2 m n:Nat} (hm:(kk-a)*10+vv L s<m+1)
 (hl:mj kk a n ->n+qC L s<=191921) (hc:(mj kk a n/\ a2=a/\ fW g c L p=vL L s.2)∨(a<kk/\ n<=40/\ a2=a+1)):
 ∃hx,∃J:Nat ->Nat ->Nat ->Prop,(∀s∈p.right,Fc g L s/\ vv L s<=hx)/\ (kk-a2)*10+hx<m/\ J 0 a2 (n+1)/\ (∀i a n s,p.right[i]? =some s ->J i a n ->mj kk a n ->n+qC L s<=191921)/\
  (∀i a n s a' n1,p.right[i]? =some s ->J i a n ->a<=a' ->QQ L s kk a n n1 ->J (i+1) a' (n+n1))/\∀a' n1,J p.right.length a' (n+n1) ->QQ L s kk a n n1:=by
 have ok:=G.p p (dI hp);have rl:=ok.len;obtain⟨-,hg1,hkid⟩:=(sR hf).1 (bB _);have hsy:∀s∈p.right,Fc g L s:=λs' hs'=>by
  rcases ok.sym s' hs' with h|⟨h1,h2⟩
  ·exact .inl h
  ·exact .inr ⟨h1,h2,by have:=hkid s' hs' h1;omega⟩
 have hs1:vv L s=vL L s.2+1:=by unfold vv;rw[hs];rfl
 have hs2:qC L s=m7 (vL L s.2):=by unfold qC;rw[hs];rfl
 rcases hc with ⟨hb,rfl,he⟩|⟨h1,h2,rfl⟩
 ·generalize hh:vL L s.2=x at*;obtain⟨y,rfl⟩:∃y,x=y+1:=⟨x-1,by omega⟩;have zs:∀s'∈p.right,qC L s'<=m7 y:=λs' hs'=>by
   unfold qC;split
   ·exact Uh y
   ·rename_i e;exact Fb (by have:=hkid s' hs' (by simpa using e);omega)
  have e8:m7 (y+1)=1+8*m7 y:=rfl;rw[hs2,e8] at hl;have hl:=hl hb;generalize m7 y=w at*;refine⟨y+1,λi a' n'=>(mj kk a' n'/\ n+1<=n')/\ n'<=n+1+i*w,λs' hs'=>⟨hsy s' hs',?_⟩,by omega,⟨⟨?_,bB _⟩,by omega⟩,λi a' n' s' hi hj hb'=> ?_,λi a' n' s' a'' n1 hi hj ha hq=> ?_,λa' n1 hj=>⟨by have:=hj.1.2;omega,λ_=> ?_,λh=>bh hb h⟩⟩
  ·unfold vv;split
   ·omega
   ·rename_i e;have:=hkid s' hs' (by simpa using e);omega
  ·unfold mj at hb ⊢;omega
  ·have h1:=zs s' (dI hi);have h2:=(eC.1 hi).1;have h3:i*w<=7*w:=ni w ω;have:=hj.2;omega
  ·have h1:=zs s' (dI hi);have h2:=hq.2.1 hj.1.1;have h3:=hj.2;have h4:=hj.1.1;have h5:=hj.1.2;refine⟨⟨?_,by omega⟩,?_⟩
   ·unfold mj at h4 ⊢;omega
   ·rw[vE];omega
  ·have h3:p.right.length*w<=8*w:=ni w rl;have:=hj.2;rw[hs2,e8];omega
 ·have nb:¬mj kk a n:=by unfold mj;omega
  have fin:∀s'∈p.right,s'.1=false ->vL L s'.2<=3:=λs' hs' e=>by
   rcases ok.sym s' hs' with ⟨h,-⟩|⟨-,h⟩
   ·rw[e] at h;cases h
   ·have:=H.fin s'.2 h (by have:=hkid s' hs' e;omega);omega
  have zs:∀s'∈p.right,qC L s'<=585:=λs' hs'=>by
   unfold qC;split
   ·omega
   ·rename_i e;exact Fb (b:=3) (fin s' hs' (by simpa using e))
  have uu:qD n=qD (n+1)+4680:=by unfold qD;omega
  have u0:qD n<=191921:=Uk (a:=0) (oi _);have ug:=Ul (n+1);refine⟨4,λi a' n'=>n+1<=n'/\ n'<=qD (n+1)+i*585,λs' hs'=>⟨hsy s' hs',?_⟩,by omega,⟨bB _,by omega⟩,λi a' n' s' hi hj hb'=> ?_,λi a' n' s' a'' n1 hi hj ha hq=> ?_,λa' n1 hj=>⟨by have:=hj.1;omega,λh=>bh h nb,λ_=> ?_⟩⟩
  ·unfold vv;split
   ·omega
   ·rename_i e;have:=fin s' hs' (by simpa using e);omega
  ·have h1:=zs s' (dI hi);have h2:=(eC.1 hi).1;have:=hj.2;omega
  ·have h1:=zs s' (dI hi);refine⟨by have:=hj.1;omega,?_⟩;by_cases hb':mj kk a' n'
   ·have:=hq.2.1 hb';have:=hj.2;omega
   ·have:=hq.2.2 hb';have:=Uk hj.1;omega
  ·have:=hj.2;omega
def bf8 (F:fu ae) {g:Gr} (G:ce g) {c:Nat} (hc:c<8) {L:List Nat} (H:BK g c L) {B:AV} {kk a m N o:Nat} (hB:oV B kk) (ha:a<=kk) (hm:m<g.nT.length) (hf:vL L m<1000) {ov:AV} (hN:N<=1000000)
 (hov:(N=0/\ ov= .sn)∨∃oo,ov= .sl oo 0 N none 4) {h:AH} (ho:cG (h.oB.get o)=some (gW g c B kk L a ov)) (lo:o<h.next) (k:AV ->AH ->Prop)
 (hk:∀(pi:Nat) (p:Pr) (a2:Nat) (h':AH),g.pR[pi]? =some p ->fW g c L p<1000 ->a<=a2 ->a2<=kk ->((mj kk a N/\ a2=a/\ fW g c L p=vL L m)∨(a<kk/\ N<=40/\ a2=a+1)) ->h.next<=h'.next ->cG (h'.oB.get o)=some (gW g c B kk L a2 ov) ->(∀j,j<h.next ->j≠o ->h'.oB.get j=h.oB.get j) ->k (ι (pi:Int)) h'):
 du C 172 [.p o 0,ι (m:Int)] h k:=
 be8 S E F G hc H hB ha hm hf hN hov ho lo k
  (λhb pi h' ⟨p,hp,_,he⟩ hn old=>hk pi p a h' hp ω (bB _) ha (.inl ⟨hb,rfl,he⟩) hn (by rw[old o lo];exact ho) λj hj _=>old j hj)
  λh1 h2 pi h' ⟨p,hp,_,he⟩ hn bT old=>hk pi p (a+1) h' hp he (nD _) h1 (.inr ⟨h1,h2,rfl⟩) hn bT old
def bf9 (F:fu ae) (M:tZ P X GL ae) {g:Gr} (G:ce g) (n3:g.nT.length<=3) {c:Nat} (hc:c<8) {L:List Nat} (HL:BK g c L) {B:AV} {kk o:Nat} (hB:oV B kk):∀m,Ui C g c B kk L o m:=by
 intro m;induction m with
 |zero=>intro s a N ov h k hm;omega
 |succ m IH=>
  rintro⟨b,i0⟩ a N ov h k hm ha hs hl hO ho lo hk;have hN:N.length<=191921:=by
   by_cases hb:mj kk a N.length
   ·have:=hl hb;omega
   ·unfold mj at hb;omega
  rcases hs with ⟨hb,hi⟩|⟨hb,hi,hf⟩
  ·obtain rfl:b=true:=hb;refine bf6 S E F M G hc hB ha hi ho lo hO ω ⟨bB _,λ_=>bB _,λh=> ?_⟩ hk;have:=Ul N.length;unfold mj at h;unfold qD;omega
  ·obtain rfl:b=false:=hb;have f86:ae.get 86=some xj:=by rw[←Ug];exact F.f86
   have ol:=hO.len;have ovn:=hO.nice;obtain⟨n0,v0,ob0⟩:=h;dsimp only at ho lo;have z1:(o=n0)=False:=av;rw[yN E.ok (E.get f86)];refine Y2 @xj.eq_1 @ba.eq_1 ?_;refine E.run (bf8 (m:=i0) (N:=N.length) (ov:=ov) (a:=a) (L:=L) (kk:=kk) (B:=B) (o:=o) S E F G hc HL hB ha hi hf ω ol (by exact wW z1 ho) (by show o<n0+1;omega) _ λpi p a2 h1 hp hpf ha1 ha2 hcase dS ho1 dD=> ?_);obtain⟨hx,J,hsym,hm2,J0,Jlim,Jstep,Jfin⟩:=bf7 (s:=(false,i0)) G n3 HL rfl hi hf hp hpf hm hl hcase;have H1:=hO.mono (h':=h1) (b':=n0) (bB _) λj hj hjo=>by
    have bF:j<n0:=hj;rw[dD j (by show j<n0+1;omega) hjo];have w:(j=n0)=False:=av;exact U1 w
   obtain⟨n1,v1,aQ⟩:=h1;have hn1':n0+1<=n1:=dS;dsimp only at ho1 dD;have ho1':=ho1;simp only[gW,m6,ar,gw,gx] at ho1;have y1:(o=n1)=False:=av;have y2:(o=n1+1)=False:=av;rcases H1 with ⟨rfl,rfl⟩|⟨oo,cs,tt,rfl,e2,e3,e4,e5,e6,e7,e8,e9⟩
   ·refine Y4 ho1 y1 y2 @iP ?_;obtain⟨tt,d1,d2⟩:=Fa (x:=(pi:Int)) (y:= -1) (s:=[]) (b:=0) (h:=⟨n1,v1,aQ⟩) (rv:= .sn) (R:=[]) (tt:=⟨0,0,.e⟩) (cs:=[]) (N:=[]) (.inl ⟨rfl,rfl⟩) rfl λj v l hj=>by cases hj
    refine Uj (m:=m) (a1:=a2) (m0:=n0) (N0:=[]) (N1:=[⟨pi,-1,[],[]⟩]) (ov:= .sl (n1+1) 0 1 none 4) (ob0:=ob0) (oz:=λj=>∃n,AV.sn=AV.sl j 0 n none 4) E G IH hB hp hsym hm2 ha2 J Jlim Jstep lo ?_ ?_ (by show n0<=n1+1+1;omega) (λj hj hjo _=> ?_) J0 (.inr ⟨n1+1,[ι (pi:Int),ι (-1),.s [],.sn],tt,rfl,by simp,by omega,by show n1+1<n1+1+1;omega,?_,rfl,rfl,d1,λj v l hj=> ?_⟩) (λj n e=>by cases e;omega) ?_ (λa' N2 ov' h' e1 e2 e3 e4 e5 e6 e7 e8=>hk a' N2 ov' h' ω e3 (Jfin a' _ (by rw[←dy];exact e1)) e4 e5 e6 e7 λj hj hjo hz=>e8 j hj hjo λ⟨n,e⟩=>hz n e)
    ·exact U0
    ·exact U0
    ·have w1:(j=n1)=False:=av;have w2:(j=n1+1)=False:=av;have w3:(j=o)=False:=dQ hjo;have w4:(j=n0)=False:=av;refine wW (ap w1 (ap w2 w3)) ((dD j (by show j<n0+1;omega) hjo).trans ?_);exact U1 w4
    ·exact U0
    ·rcases d2 j v l hj with hj|⟨n,e,hj⟩
     ·cases hj
     ·cases e
    ·exact U0
   ·have x1:(oo=n1)=False:=av;have l8:(N.length+1<=1048576)=True:=cJ;have x3:(o=oo)=False:=av;dsimp only at e5;refine Y9 ho1 y1 y2 @iP e5 e7 x1 l8 x3 ?_;obtain⟨tt',d1,d2⟩:=Fa (x:=(pi:Int)) (y:= -1) (s:=[]) (b:=0) (h:=⟨n1,v1,aQ⟩) (rv:= .sn) (R:=[]) (.inl ⟨rfl,rfl⟩) e8 λj v l hj=>(e9 j v l hj).2.2.2;refine Uj (m:=m) (a1:=a2) (m0:=n0) (N0:=N) (N1:=[⟨pi,-1,[],[]⟩]) (ov:= .sl (n1+1) 0 (N.length+1) none 4) (ob0:=ob0) (oz:=λj=>∃n,AV.sl oo 0 N.length none 4=AV.sl j 0 n none 4) E G IH hB hp hsym hm2 ha2 J Jlim Jstep lo ?_ ?_ (by show n0<=n1+1+1;omega) (λj hj hjo hz=> ?_) (by rw[dy];exact J0) (.inr ⟨n1+1,cs++[ι (pi:Int),ι (-1),.s [],.sn],tt',by rw[dy];rfl,by simp,by omega,by show n1+1<n1+1+1;omega,?_,by rw[KD,e6];rfl,by rw[dy,dy,e7];simp;omega,d1,λj v l hj=> ?_⟩) (λj n e=>by cases e;omega) ?_ (λa' N2 ov' h' e1 e2 e3 e4 e5 e6 e7 e8=>hk a' N2 ov' h' ω e3 (Jfin a' _ (by rw[←dy];exact e1)) e4 e5 e6 e7 λj hj hjo hz=>e8 j hj hjo λ⟨n,e⟩=>hz n e)
    ·exact U0
    ·exact U0
    ·have w1:(j=n1)=False:=av;have w2:(j=n1+1)=False:=av;have w3:(j=o)=False:=dQ hjo;have w4:(j=n0)=False:=av;have w5:(j=oo)=False:=dQ λe=>hz ⟨N.length,by rw[e]⟩;refine wW (ap w1 (ap w2 (ap w3 w5))) ((dD j (by show j<n0+1;omega) hjo).trans ?_);exact U1 w4
    ·exact U0
    ·rcases d2 j v l hj with hj|⟨n,e,hj⟩
     ·obtain⟨f1,f2,f3,f4⟩:=e9 j v l hj;have w1:(j=n1)=False:=av;have w2:(j=n1+1)=False:=av;have w3:(j=o)=False:=av;have w4:(j=oo)=False:=dQ f3;exact⟨by show j<n1+1+1;omega,f2,by omega,wW (ap w1 (ap w2 (ap w3 w4))) f4⟩
     ·cases e
    ·exact U0
structure mq (b:Nat) (h:AH) (ov rv:AV) (N:List Tn) (R:List (List Nat)):Prop where
 o:(N=[]/\ ov= .sn)∨∃oo,ov= .sl oo 0 N.length none 4
 r:(R=[]/\ rv= .sn)∨∃q,rv= .sl q 0 R.length none 1
 d:∃tt:AH,(∀j v l,tt.oB.get j=some (.cells v l) ->b<=j/\ j<h.next/\ h.oB.get j=some (.cells v l))/\ deep 9 tt ov=some (eR fG 4 true N)/\ deep 9 tt rv=some (eR jT 1 true R)
def mq.mono {b:Nat} {h h':AH} {ov rv:AV} {N:List Tn} {R:List (List Nat)} (T:mq b h ov rv N R) (hn:h.next<=h'.next) (old:∀j,b<=j ->j<h.next ->h'.oB.get j=h.oB.get j):mq b h' ov rv N R:=by
 obtain⟨h1,h2,tt,h3,h4,h5⟩:=T;refine⟨h1,h2,tt,λj v l hj=> ?_,h4,h5⟩;obtain⟨a,b,c⟩:=h3 j v l hj;exact⟨a,by omega,by rw[old j a b];exact c⟩
def jU.mono' {o b b':Nat} {h h':AH} {ov:AV} {N:List Tn} (H:jU o b h ov N) (hb:b<=b') (old:∀j,j<b ->o<j ->h'.oB.get j=h.oB.get j):jU o b' h' ov N:=by
 rcases H with H|⟨oo,cs,tt,e1,e2,e3,e4,e5,e6,e7,e8,e9⟩
 ·exact .inl H
 ·refine .inr ⟨oo,cs,tt,e1,e2,e3,by omega,by rw[old oo e4 e3];exact e5,e6,e7,e8,λj v l hj=> ?_⟩;obtain⟨a,b,c,d⟩:=e9 j v l hj;exact⟨by omega,b,c,by rw[old j a b];exact d⟩
def mq.low {b b':Nat} {h:AH} {ov rv:AV} {N:List Tn} {R:List (List Nat)} (A:mq b h ov rv N R) (hb:b'<=b):mq b' h ov rv N R:=by
 obtain⟨h1,h2,tt,h3,h4,h5⟩:=A;exact⟨h1,h2,tt,λj v l hj=>by obtain⟨a,b,c⟩:=h3 j v l hj;exact⟨by omega,b,c⟩,h4,h5⟩
def bg0 {o b:Nat} {h:AH} {ov rv:AV} {N:List Tn} {R:List (List Nat)} (H:jU o b h ov N) (hb:b<=h.next) (ob:o<b) (hR:E7 b h rv R):mq o h ov rv N R:=by
 have key:∃tt:AH,(∀j v l,tt.oB.get j=some (.cells v l) ->o<=j/\ j<h.next/\ h.oB.get j=some (.cells v l))/\ deep 9 tt ov=some (eR fG 4 true N):=by
  rcases H with ⟨rfl,rfl⟩|⟨oo,cs,tt,rfl,e2,e3,e4,e5,e6,e7,e8,e9⟩
  ·exact⟨⟨0,0,.e⟩,λj v l hj=>(by cases hj),rfl⟩
  ·obtain⟨v0,e10⟩:=EW e5;refine⟨⟨tt.next,tt.ver,tt.oB.put oo (.cells v0 cs)⟩,λj v l hj=> ?_,?_⟩
   ·have bF:(tt.oB.put oo (.cells v0 cs)).get j=some (.cells v l):=hj;rw[T.get_put] at bF;split at bF
    ·rename_i e;subst e;exact⟨by omega,by omega,by rw[e10];exact bF⟩
    ·obtain⟨f1,f2,f3,f4⟩:=e9 j v l bF;exact⟨by omega,by omega,f4⟩
   ·rw[gA (n:=8) (l:=cs) (l':=N.flatMap fG) (by show cG ((tt.oB.put oo _).get oo)=_;rw[T.get_put,aF rfl];rfl) ((BG (h1:=tt) (λj v l hj=>⟨v,?_⟩) 8).2 _ _ e8),BL e2];show(tt.oB.put oo _).get j=_;rw[T.get_put,aD (e9 j v l hj).2.2.1];exact hj
 refine⟨?_,?_,?_⟩
 ·rcases H with H|⟨oo,cs,tt,rfl,-⟩
  ·exact .inl H
  ·exact .inr ⟨oo,rfl⟩
 ·rcases hR with H|⟨-,q,-,-,rfl,-⟩
  ·exact .inl H
  ·exact .inr ⟨q,rfl⟩
 ·obtain⟨tt,k1,k2⟩:=key;rcases hR with ⟨rfl,rfl⟩|⟨e1,q,e2,e3,rfl,e4⟩
  ·exact⟨tt,k1,k2,rfl⟩
  ·obtain⟨v0,e5⟩:=EW e4;refine⟨⟨tt.next,tt.ver,tt.oB.put q (.cells v0 (R.map AV.s))⟩,λj v l hj=> ?_,(BG (h1:=tt) (λj v l hj=>⟨v,?_⟩) 9).1 _ _ k2,?_⟩
   ·have bF:(tt.oB.put q (.cells v0 (R.map AV.s))).get j=some (.cells v l):=hj;rw[T.get_put] at bF;split at bF
    ·rename_i e;subst e;exact⟨by omega,e3,by rw[e5];exact bF⟩
    ·exact k1 j v l bF
   ·show(tt.oB.put q _).get j=_;rw[T.get_put];split
    ·rename_i e;subst e;rw[←e5];exact(k1 _ _ _ hj).2.2
    ·exact hj
   ·rw[gA (n:=8) (l:=R.map AV.s) (l':=R.flatMap jT) (by show cG ((tt.oB.put q _).get q)=_;rw[T.get_put,aF rfl];rfl) (by rw[KC];exact Bs R),BL e1]
def bg1 (L:List Nat) {m:Nat} (h:vL L m<=3):0+qC L (false,m)<=191921:=by
 have:m7 (vL L m)<=m7 3:=Fb h;have e:m7 3=585:=rfl;show 0+m7 (vL L m)<=_;omega
def bg2 (F:fu ae) (M:tZ P X GL ae) {g:Gr} (G:ce g) (n3:g.nT.length<=3) {c:Nat} (hc:c<8) {B:AV} {kk m:Nat} (hB:oV B kk) (hm:m<g.nT.length) (h:AH) (k:AV ->AH ->Prop)
 (hk0:∀h',h.next<=h'.next ->(∀j,j<h.next ->h'.oB.get j=h.oB.get j) ->k (.tu [.ag [.sn,.sn],.b false]) h')
 (hk1:∀N R ov rv h',mq h.next h' ov rv N R ->h.next<=h'.next ->(∀j,j<h.next ->h'.oB.get j=h.oB.get j) ->k (.tu [.ag [ov,rv],.b true]) h'):
 du C 45 [aI g,.i .u64 (c:Int),ι (m:Int),B] h k:=by
 have HL:=be3 (c:=c) G;have hp:=be5 S F G hc;generalize vu g c=L at HL hp;have hcon:=λh=>dR S hp (n:=9) (by rw[aL,aL,bZ,kq (n:=6),dH]) h;simp only[aI,ar] at hcon;have bq:=iW (g:=g);simp only[ar] at bq;have bn:=hB.nk;have eQ:=HL.len;have hml:m<L.length:=by omega
 have elm:sub (L.flatMap cI) m 1=some [ι (vL L m:Int)]:=by
  have hli:L[m]? =some L[m]:=cE hml;have:=cW qw hli (j:=0) (n:=1) ω;unfold vL;rw[kX,hli];simpa[cI] using this
 have nkL:nice 64 (eR cI 1 true L)=true:=dg tS;have crB:cellsOf B=[B]/\ cellsO B=some [B]/\ ew B=true:=by rcases hB.b with ⟨-,rfl⟩|⟨D,rfl,-⟩<;>exact⟨rfl,rfl,rfl⟩
 obtain⟨cb1,cb2,cb3⟩:=crB;obtain⟨n0,v0,ob0⟩:=h;refine E.bS F.f45 (Y5 @Si.eq_1 @aI.eq_1 @ar.eq_1 bq bn ?_);refine E.cN (hcon _) ?_;rcases iO (vL L m) 1000 with q|q
 ·have q':(1000<=((vL L m:Nat):Int))=False:=av;refine Y9 bq bn nkL elm q' @bG cb1 cb2 cb3 ?_;have l3:=HL.fin m hm q;refine E.run (bf9 S E F M G n3 hc HL (kk:=kk) (o:=n0+2) hB _ (false,m) 0 [] .sn _ _ (qI _) (oi _) (.inr ⟨rfl,hm,q⟩) (λ_=>bg1 L ω) (.inl ⟨rfl,rfl⟩) ?_ (by show n0+2<n0+1+1+1;omega) λa1 N1 ov1 h1 a2 a3 a4 a5 a6 a7 a8 a9=> ?_)
  ·exact U0
  obtain⟨n1,v1,aQ⟩:=h1;have a5':n0+1+1+1<=n1:=a5;have ro:(ov1= .sn/\ N1=[])∨∃oo,ov1= .sl oo 0 N1.length none 4:=by
   rcases a6 with ⟨h,h'⟩|⟨oo,cs,tt,h,-⟩
   ·exact .inl ⟨h',h⟩
   ·exact .inr ⟨oo,h⟩
  have co1:cellsOf ov1=[ov1]/\ cellsO ov1=some [ov1]/\ ew ov1=true:=by rcases ro with ⟨rfl,-⟩|⟨oo,rfl⟩<;>exact⟨rfl,rfl,rfl⟩
  obtain⟨co1,co2,co3⟩:=co1;have a8':=a8;dsimp only at a8 a9;simp only[gW,m6,ar,gw,gx] at a8;have c8:cG (aQ.get (n0+1))=some [.sn,.sn]:=by
   rw[a9 (n0+1) (by show n0+1<n0+1+1+1;omega) ω (λn e=>by cases e)];exact U0
  have x1:(n0+1=n1)=False:=av;have x2:(n0+1=n1+1)=False:=av;have x3:(n0+2=n1)=False:=av;refine Y6 a8 co1 co2 co3 x1 x3 ?_;refine E.run (Uf (a:=a1) (ov:=ov1) S E F M G hc hB a3 (wW x3 a8') (by show n0+2<n1+1;omega) _ λrv R a4 h2 b1 b2 b3 b4 b5 b6=> ?_);have rr:cellsOf rv=[rv]/\ cellsO rv=some [rv]/\ ew rv=true:=by rcases b6 with ⟨-,rfl⟩|⟨-,q,-,-,rfl,-⟩<;>exact⟨rfl,rfl,rfl⟩
  obtain⟨cr1,cr2,cr3⟩:=rr;obtain⟨n2,v2,aJ⟩:=h2;have b3':n1+1<=n2:=b3;dsimp only at b5;have c8b:cG (aJ.get (n0+1))=some [.sn,.sn]:=by
   rw[b5 (n0+1) ω ω];exact wW x1 c8
  have c11:cG (aJ.get n1)=some [ov1,.sn]:=by
   rw[b5 n1 ω ω];exact U0
  have x4:(n0+1=n1)=False:=av;have x5:(n1=n0+1)=False:=av;refine nS c8b c11 co1 co2 co3 cr1 cr2 cr3 x4 x5 ?_;have fr:∀j,j<n0 ->((aJ.put n1 (.cells (v2+1) [ov1,rv])).put (n0+1) (.cells (v2+1+1) [ov1,rv])).get j=ob0.get j:=λj hj=>by
   have y1:(j=n1)=False:=av;have y2:(j=n0+1)=False:=av;have y3:(j=n0)=False:=av;have y4:(j=n0+2)=False:=av;refine wW (ap y1 y2) ((b5 j ω ω).trans ?_);refine wW y1 ((a9 j (by show j<n0+1+1+1;omega) ω (λn e=>by cases e)).trans ?_);exact U4 y1 y2 y3 y4
  refine hk1 ([]++N1) R ov1 rv _ (mq.low (bg0 (o:=n0+2) (b:=n1) (a6.mono' (bB _) λj hj hjo=> ?_) (by show n1<=n2;omega) ω ?_) (by show n0<=n0+2;omega)) (by show n0<=n2;omega) fr
  ·have bF:j<n1:=hj;have y1:(j=n1)=False:=av;have y2:(j=n0+1)=False:=av;refine wW (ap y1 y2) ((b5 j ω ω).trans ?_);exact U1 y1
  ·rcases b6 with h|⟨e1,q1,e2,e3,e4,e5⟩
   ·exact .inl h
   ·have e2':n1+1<=q1:=e2;refine .inr ⟨e1,q1,by omega,e3,e4,?_⟩;have y1:(q1=n1)=False:=av;have y2:(q1=n0+1)=False:=av;exact wW (ap y1 y2) e5
 ·have q':(1000<=((vL L m:Nat):Int))=True:=cJ;refine Y9 bq bn nkL elm q' @bG cb1 cb2 cb3 ?_;refine hk0 _ (by show n0<=n0+1+1+1;omega) λj hj=> ?_;have bF:j<n0:=hj;have y1:(j=n0)=False:=av;have y2:(j=n0+1)=False:=av;have y3:(j=n0+2)=False:=av;exact U3 y1 y2 y3
def bg3 {kn:Bool} {g:Gr} {l:qA}:(sO kn g l).nT=g.nT/\ (sO kn g l).st=g.st:=by
 unfold sO kN;split<;>exact⟨rfl,rfl⟩
def bg4 {g:Gr} {r:qB}:(rt g r).nT=g.nT/\ (rt g r).st=g.st:=by
 unfold rt lB;split
 ·split<;>exact⟨rfl,rfl⟩
 ·split
  ·exact⟨rfl,rfl⟩
  ·split<;>exact⟨rfl,rfl⟩
def KH {α:Type} {f:Gr ->α ->Gr} (hf:∀g a,(f g a).nT=g.nT/\ (f g a).st=g.st):∀(l:List α) (g:Gr),(l.foldl f g).nT=g.nT/\ (l.foldl f g).st=g.st
 |[],g=>⟨rfl,rfl⟩
 |a::l,g=>by rw[zH];obtain⟨h1,h2⟩:=KH hf l (f g a);rw[h1,h2];exact hf g a
def Um (x:fA):(fU x).nT.length<=3/\ (∀s∈(fU x).nT,s.length=1)/\ (fU x).st=0:=by
 have e:(fU x).nT=(xg x).nT/\ (fU x).st=(xg x).st:=by
  unfold fU oU;obtain⟨h1,h2⟩:=KH (f:=rt) (λ_ _=>bg4) (x.rU.take (min 6 6)) (lC x x.most);rw[h1,h2];unfold lC;obtain⟨h1,h2⟩:=KH (f:=sO x.known) (λ_ _=>bg3) (x.lI.take (min x.most x.most)) (sN x);rw[h1,h2];unfold sN kw;split
  ·split<;>exact⟨rfl,rfl⟩
  ·exact⟨rfl,rfl⟩
 rw[e.1,e.2];unfold xg;split
 ·have:∀k,(iZ k).nT.length<=3/\ (∀s∈(iZ k).nT,s.length=1)/\ (iZ k).st=0:=λk=>by
   unfold iZ;split<;>(unfold xf;decide)
  exact this _
 ·unfold pG;refine⟨?_,λs hs=> ?_,rfl⟩
  ·show(List.take _ [[83],[80],[81]]).length<=3;rw[jm];simp;omega
  ·have:=List.mem_of_mem_take hs;simp at this;rcases this with rfl|rfl|rfl<;>rfl
structure zh where
 x:fA
 cfg:Nat
 lnl:Bool
 l:List Nat
 snl:Bool
 s:List Nat
structure zh.OK (i:zh):Prop where
 x:i.x.OK
 cfg:i.cfg<256
 l:∀b∈i.l,b<256
def rx (i:zh):List AV:=gI i.x++[.i .u8 (i.cfg:Int),eR cB 1 i.lnl i.l,eR cB 1 i.snl i.s]
def Un:∀l:List Nat,l.flatMap cB=l.map λb:Nat=>AV.i .u8 (b:Int)
 |[]=>rfl
 |a::l=>by rw[lE,Un l];rfl
def bg5 {nl:Bool} {ms:List Nat} (hb:∀b∈ms,b<256):oV (vp 1 (ms.flatMap cB) (min ms.length 40) (eR cB 1 nl ms)) (min ms.length 40):=by
 have key:oV (.ds (ms.flatMap cB) 0 (min ms.length 40) 1) (min ms.length 40):=by
  refine⟨.inr ⟨_,rfl,λi hi=> ?_⟩,by rw[nN];exact fE pH ms,zI _ _⟩;have hl:ms[i]? =some ms[i]:=cE ω;exact⟨ms[i],hb _ (dI hl),by rw[Un,oh,hl];rfl⟩
 cases ms with
 |nil=>
  cases nl
  ·exact key
  ·exact⟨.inl ⟨rfl,rfl⟩,rfl,oi _⟩
 |cons a L=>exact key
def bg6 {C:aK Prop} (S:aT P X GL ae) (R:eL ae) (A:dY P X GL) (Q:jf ae) (FM:hZ ae) (KB:xi P X GL ae) (E:Sem P X GL ae C) (F:fu ae) (M:tZ P X GL ae) {i:zh} (ok:i.OK) (h:AH) (k:AV ->AH ->Prop)
 (hk0:∀h',h.next<=h'.next ->(∀j,j<h.next ->h'.oB.get j=h.oB.get j) ->k (.tu [.ag (ar (fU i.x)),.i .u64 (lD (fU i.x) i.cfg:Int),.ag [.sn,.sn],.b false]) h')
 (hk1:∀N R ov rv h',mq h.next h' ov rv N R ->h.next<=h'.next ->(∀j,j<h.next ->h'.oB.get j=h.oB.get j) ->k (.tu [.ag (ar (fU i.x)),.i .u64 (lD (fU i.x) i.cfg:Int),.ag [ov,rv],.b true]) h'):
 du C 12 [.ag (rx i)] h k:=by
 have mc:=λh=>dR S (bb8 S R A Q FM KB ok.x) (n:=9) (by rw[aL,bZ,bc1 (n:=4)]) h;obtain⟨gok,gac,gp⟩:=Kw ok.x;obtain⟨n3,-,gst⟩:=Um i.x;have cc:=λh=>dR S (bd8 S F gok ok.cfg) (n:=9) (by rw[aL,aL,bZ,kq (n:=6),dH]) h;obtain⟨c8,-⟩:=T0 gok i.cfg;have tr:=λh k h0 h1=>bg2 (C:=C) (m:=0) S E F M gok n3 c8 (bg5 (nl:=i.lnl) ok.l) (by have:=gok.ntl;omega) h k h0 h1;generalize lD (fU i.x) i.cfg=c at*;generalize fU i.x=g at*;obtain⟨⟨base,nn,fnl,fam,lnl,lI,rnl,rU⟩,cfg,ll,l,sl,s⟩:=i;dsimp only at*;have mn:(if (40:Int)<(l.length:Int) then (40:Int) else (l.length:Int))=((min l.length 40:Nat):Int):=by split<;>omega
 have hs1:∀(τ:T AV) h,az C τ (.t 23)=eR cB 1 ll l ->az C τ (.t 27)=ι ((min l.length 40:Nat):Int) ->step (az C τ) h (.slc 1 (.t 23) none (some (.t 27)) none)= .v (vp 1 (l.flatMap cB) (min l.length 40) (eR cB 1 ll l)) h:=λτ h h1 h2=>TV (Cn _ _) h1 (by rw[h2];exact tC);have nL:nice 64 (eR cB 1 ll l)=true:=dg pH;have nC:nice 64 (vp 1 (l.flatMap cB) (min l.length 40) (eR cB 1 ll l))=true:=TW pH;have bq:=iW (g:=g);have st0:(g.st:Int)=0:=by rw[gst];rfl
 obtain⟨n0,v0,ob0⟩:=h;rw[E.cB F.f12];simp only[vm,gI] at mc;simp only[aI,ar,st0] at mc cc tr;simp only[ar,st0] at bq hk0 hk1;refine Z3 @Sj.eq_1 @rx.eq_1 @gI.eq_1 ?_;refine E.cN (mc _) (Z1 bq ?_);refine E.cN (cc _) (Z7 bq nL nC @jP mn hs1 @dw ?_);refine E.run (tr _ _ (λh1 dS dD=> ?_) λN R' ov rv h1 TA dS dD=> ?_)
 ·obtain⟨n1,v1,aQ⟩:=h1;have hn1':n0+1+1+1+1+1<=n1:=dS;dsimp only at dD;have c3:cG (aQ.get (n0+1+1+1))=some (ar g):=by rw[dD (n0+1+1+1) (by show n0+1+1+1<n0+1+1+1+1+1;omega)];simp only[ar,st0];exact U0
  have c1:cG (aQ.get (n0+1))=some ZG:=by rw[dD (n0+1) (by show n0+1<n0+1+1+1+1+1;omega)];exact U0
  have c2:cG (aQ.get (n0+1+1))=some [.sn,.sn]:=by rw[dD (n0+1+1) (by show n0+1+1<n0+1+1+1+1+1;omega)];exact U0
  simp only[ar,st0] at c3;simp only[ZG] at c1;refine Z4 bq c1 c2 c3 ?_;refine hk0 _ (by show n0<=n1;omega) λj hj=> ?_;have bF:j<n0:=hj;have y0:(j=n0)=False:=av;have y1:(j=n0+1)=False:=av;have y2:(j=n0+1+1)=False:=av;have y3:(j=n0+1+1+1)=False:=av;have y4:(j=n0+4)=False:=av;refine wW (ap y1 (ap y2 y4)) ((dD j (by show j<n0+1+1+1+1+1;omega)).trans ?_);exact U4 y0 y1 y2 y3
 ·obtain⟨n1,v1,aQ⟩:=h1;have hn1':n0+1+1+1+1+1<=n1:=dS;dsimp only at dD;have c3:cG (aQ.get (n0+1+1+1))=some (ar g):=by rw[dD (n0+1+1+1) (by show n0+1+1+1<n0+1+1+1+1+1;omega)];simp only[ar,st0];exact U0
  have c1:cG (aQ.get (n0+1))=some ZG:=by rw[dD (n0+1) (by show n0+1<n0+1+1+1+1+1;omega)];exact U0
  have c2:cG (aQ.get (n0+1+1))=some [.sn,.sn]:=by rw[dD (n0+1+1) (by show n0+1+1<n0+1+1+1+1+1;omega)];exact U0
  simp only[ar,st0] at c3;simp only[ZG] at c1;obtain⟨ro,rr⟩:=ap TA.o TA.r;have co:cellsOf ov=[ov]/\ cellsO ov=some [ov]/\ ew ov=true/\ nice 63 ov=true:=by rcases ro with ⟨-,rfl⟩|⟨oo,rfl⟩<;>exact⟨rfl,rfl,rfl,rfl⟩
  have cr:cellsOf rv=[rv]/\ cellsO rv=some [rv]/\ ew rv=true/\ nice 63 rv=true:=by rcases rr with ⟨-,rfl⟩|⟨oo,rfl⟩<;>exact⟨rfl,rfl,rfl,rfl⟩
  obtain⟨co1,co2,co3,co4⟩:=co;obtain⟨cr1,cr2,cr3,cr4⟩:=cr;refine lX bq c1 c2 c3 co1 co2 co3 co4 cr1 cr2 cr3 cr4 ?_;refine hk1 N R' ov rv _ (mq.low (TA.mono (bB _) λj hj hj2=> ?_) (by show n0<=n0+1+1+1+1+1;omega)) (by show n0<=n1;omega) λj hj=> ?_
  ·have bF:n0+1+1+1+1+1<=j:=hj;have y1:(j=n0+1)=False:=av;have y2:(j=n0+1+1)=False:=av;have y4:(j=n0+4)=False:=av;exact U3 y1 y2 y4
  ·have bF:j<n0:=hj;have y0:(j=n0)=False:=av;have y1:(j=n0+1)=False:=av;have y2:(j=n0+1+1)=False:=av;have y3:(j=n0+1+1+1)=False:=av;have y4:(j=n0+4)=False:=av;refine wW (ap y1 (ap y2 y4)) ((dD j (by show j<n0+1+1+1+1+1;omega)).trans ?_);exact U4 y0 y1 y2 y3
structure sT where
 i:zh
 rnl:Bool
 r:List Nat
 w:Nat
structure sT.OK (x:sT):Prop where
 i:x.i.OK
 r:∀b∈x.r,b<256
def m8 (x:sT):List AV:=rx x.i++[eR cB 1 x.rnl x.r,.i .u8 (x.w:Int)]
def bg7 {b:Nat} {h h':AH} {RL:List Ru} {v:AV} (hv:rq h RL v) (hn:h.next<=h'.next) (low:∀o n,v= .sl o 0 (n+1) none 4 ->b<=o) (old:∀j,b<=j ->j<h.next ->h'.oB.get j=h.oB.get j):rq h' RL v:=by
 rcases hv with h1|⟨o,n,h1,rfl,h3,h4⟩
 ·exact .inl h1
 ·exact .inr ⟨o,n,h1,rfl,by omega,by rw[old o (low o n rfl) h3];exact h4⟩
def bg8 {C:aK Prop} (S:aT P X GL ae) (R:eL ae) (A:dY P X GL) (Q:jf ae) (FM:hZ ae) (FS:li ae) (KB:xi P X GL ae) (E:Sem P X GL ae C) (F:fu ae) (M:tZ P X GL ae) {i:sT} (ok:i.OK) (h:AH) (k:AV ->AH ->Prop)
 (hk0:∀ov rv h',(cellsOf ov=[ov]/\ cellsO ov=some [ov]/\ ew ov=true) ->(cellsOf rv=[rv]/\ cellsO rv=some [rv]/\ ew rv=true) ->k (.tu [.ag (ar (fU i.i.x)),.i .u64 (lD (fU i.i.x) i.i.cfg:Int),.ag [ov,rv],.sn,.b false]) h')
 (hk1:∀N R ov rv RL v h',N.length<=40 ->mq h.next h' ov rv N R ->RL.length<=12 ->iG (fU i.i.x) RL=true ->rq h' RL v ->(∀o n,v= .sl o 0 (n+1) none 4 ->h.next<=o) ->h.next<=h'.next ->(∀j,j<h.next ->h'.oB.get j=h.oB.get j) ->k (.tu [.ag (ar (fU i.i.x)),.i .u64 (lD (fU i.i.x) i.i.cfg:Int),.ag [ov,rv],v,.b true]) h'):
 du C 5 [.ag (m8 i)] h k:=by
 obtain⟨gok,gac,gp⟩:=Kw ok.i.x;have gr:=λh k h0 h1=>bg6 (C:=C) S R A Q FM KB E F M ok.i h k h0 h1;have ru:=λh k hk=>bc0 (C:=C) (nl:=i.rnl) (m:=min i.r.length 36) S E FS gok gp ok.r (Cn _ _) (zI _ _) h k hk;generalize lD (fU i.i.x) i.i.cfg=c at*;generalize fU i.i.x=g at*;obtain⟨⟨⟨base,nn,fnl,fam,lnl,lI,rnl,rU⟩,cfg,ll,l,sl,s⟩,rl,r,w⟩:=i;dsimp only at*;have mn:(if (36:Int)<(r.length:Int) then (36:Int) else (r.length:Int))=((min r.length 36:Nat):Int):=by split<;>omega
 have hs1:∀(τ:T AV) h,az C τ (.t 35)=eR cB 1 rl r ->az C τ (.t 39)=ι ((min r.length 36:Nat):Int) ->step (az C τ) h (.slc 1 (.t 35) none (some (.t 39)) none)= .v (vp 1 (r.flatMap cB) (min r.length 36) (eR cB 1 rl r)) h:=λτ h h1 h2=>TV (Cn _ _) h1 (by rw[h2];exact tC);have nL:nice 64 (eR cB 1 rl r)=true:=dg pH;have nC:nice 64 (vp 1 (r.flatMap cB) (min r.length 36) (eR cB 1 rl r))=true:=TW pH;have bq:=iW (g:=g);obtain⟨n0,v0,ob0⟩:=h;rw[E.cB F.f5];simp only[rx,gI,gw,gx,ar] at gr;simp only[aI,ar] at ru;simp only[ar] at bq hk0 hk1;refine Z4 @Sk.eq_1 @m8.eq_1 @rx.eq_1 @gI.eq_1 ?_;refine E.run (gr _ _ (λh1 dS dD=> ?_) λN R' ov rv h1 TA dS dD=> ?_)
 ·obtain⟨n1,v1,aQ⟩:=h1;have hn1':n0+1+1+1<=n1:=dS;dsimp only at dD;have c1:cG (aQ.get (n0+1))=some ZG:=by rw[dD (n0+1) (by show n0+1<n0+1+1+1;omega)];exact U0
  have c2:cG (aQ.get (n0+1+1))=some [.sn,.sn]:=by rw[dD (n0+1+1) (by show n0+1+1<n0+1+1+1;omega)];exact U0
  simp only[ZG] at c1;refine Z3 bq c1 c2 ?_;exact hk0 .sn .sn _ ⟨rfl,rfl,rfl⟩ ⟨rfl,rfl,rfl⟩
 ·obtain⟨n1,v1,aQ⟩:=h1;have hn1':n0+1+1+1<=n1:=dS;dsimp only at dD;have c1:cG (aQ.get (n0+1))=some ZG:=by rw[dD (n0+1) (by show n0+1<n0+1+1+1;omega)];exact U0
  have c2:cG (aQ.get (n0+1+1))=some [.sn,.sn]:=by rw[dD (n0+1+1) (by show n0+1+1<n0+1+1+1;omega)];exact U0
  have c0:cG (aQ.get n0)=some (m8 ⟨⟨⟨base,nn,fnl,fam,lnl,lI,rnl,rU⟩,cfg,ll,l,sl,s⟩,rl,r,w⟩):=by rw[dD n0 (by show n0<n0+1+1+1;omega)];simp only[m8,rx,gI,gw,gx];exact U0
  simp only[ZG] at c1;simp only[m8,rx,gI,gw,gx] at c0;obtain⟨ro,rr⟩:=ap TA.o TA.r;have co:cellsOf ov=[ov]/\ cellsO ov=some [ov]/\ ew ov=true/\ nice 63 ov=true/\∀h,kg h ov= .v (ι (N.length:Int)) h:=by rcases ro with ⟨rfl,rfl⟩|⟨oo,rfl⟩<;>exact⟨rfl,rfl,rfl,rfl,λ_=>rfl⟩
  have cr:cellsOf rv=[rv]/\ cellsO rv=some [rv]/\ ew rv=true/\ nice 63 rv=true:=by rcases rr with ⟨-,rfl⟩|⟨oo,rfl⟩<;>exact⟨rfl,rfl,rfl,rfl⟩
  obtain⟨co1,co2,co3,co4,co5⟩:=co;obtain⟨cr1,cr2,cr3,cr4⟩:=cr;rcases iO 40 N.length with q|q
  ·have q':((40:Int)<(N.length:Int))=True:=cJ;refine qt bq c1 c2 co1 co2 co3 co4 co5 cr1 cr2 cr3 cr4 q' ?_;exact hk0 ov rv _ ⟨co1,co2,co3⟩ ⟨cr1,cr2,cr3⟩
  ·have q':((40:Int)<(N.length:Int))=False:=av;refine Bn bq c0 c1 c2 co1 co2 co3 co4 co5 cr1 cr2 cr3 cr4 q' nL nC @jP mn hs1 @dw ?_;refine E.run (ru _ _ λRL v h2 hRL hRu hn2 eG low=> ?_);obtain⟨n2,v2,aJ⟩:=h2;have hn2':n1+2<=n2:=hn2;have cQ:∀j,j<n1+2 ->aJ.get j=_:=λj hj=>eG j (by show j<n1+2;omega);have d1:cG (aJ.get (n0+1))=some ZG:=by
    rw[cQ (n0+1) ω];have y1:(n0+1=n1)=False:=av;have y2:(n0+1=n1+1)=False:=av;exact wW (ap y1 y2) c1
   have d2:cG (aJ.get (n0+1+1))=some [.sn,.sn]:=by
    rw[cQ (n0+1+1) ω];have y1:(n0+1+1=n1)=False:=av;have y2:(n0+1+1=n1+1)=False:=av;exact wW (ap y1 y2) c2
   have d3:cG (aJ.get n1)=some (ar g):=by rw[cQ n1 ω];exact U1 @ar.eq_1
   have d4:cG (aJ.get (n1+1))=some [ov,rv]:=by rw[cQ (n1+1) ω];exact U0
   simp only[ZG] at d1;simp only[ar] at d3;have nv:nice 64 v=true:=by rcases hRu with ⟨-,rfl⟩|⟨o,n,-,rfl,-⟩<;>rfl
   refine yO bq d1 d2 d3 d4 co1 co2 co3 co4 co5 cr1 cr2 cr3 cr4 nL nC nv ?_;have fr:∀j,n0+1+1+1<=j ->j<n1 ->((aJ.put (n0+1) (.cells (v2+1) (ar g))).put (n0+1+1) (.cells (v2+1+1) [ov,rv])).get j=aQ.get j:=λj hj hj2=>by
    have y1:(j=n0+1)=False:=av;have y2:(j=n0+1+1)=False:=av;have y3:(j=n1)=False:=av;have y4:(j=n1+1)=False:=av;refine wW (ap y1 y2) ((cQ j ω).trans ?_);exact U2 y3 y4
   refine hk1 N R' ov rv RL v _ q (mq.low (TA.mono (h':=⟨n2,v2+1+1,(aJ.put (n0+1) (.cells (v2+1) (ar g))).put (n0+1+1) (.cells (v2+1+1) [ov,rv])⟩) (by show n1<=n2;omega) λj hj hj2=>fr j hj hj2) (by show n0<=n0+1+1+1;omega)) hRL.1 hRL.2 (bg7 (h':=⟨n2,v2+1+1,(aJ.put (n0+1) (.cells (v2+1) (ar g))).put (n0+1+1) (.cells (v2+1+1) [ov,rv])⟩) (b:=n1+2) hRu (bB _) (λo n e=>low o n e) λj hj hj2=> ?_) (λo n e=>by have h:=low o n e;have h2:n1+2<=o:=h;show n0<=o;omega) (by show n0<=n2;omega) λj hj=> ?_
   ·have y1:(j=n0+1)=False:=av;have y2:(j=n0+1+1)=False:=av;exact U2 y1 y2
   ·have bF:j<n0:=hj;have y0:(j=n0)=False:=av;have y1:(j=n0+1)=False:=av;have y2:(j=n0+1+1)=False:=av;have y3:(j=n1)=False:=av;have y4:(j=n1+1)=False:=av;refine wW (ap y1 y2) ((cQ j ω).trans ?_);refine wW (ap y3 y4) ((dD j (by show j<n0+1+1+1;omega)).trans ?_);exact U3 y0 y1 y2
end
end AM
