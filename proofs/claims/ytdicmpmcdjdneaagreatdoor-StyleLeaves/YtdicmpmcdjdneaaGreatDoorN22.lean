import Derived.Test.YtdicmpmcdjdneaaGreatDoorN21
set_option linter.all false
set_option maxHeartbeats 4000000
namespace AM
open Dg Go
noncomputable section
variable {P:Program} {X:aR} {GL:T (List AV)} {ae:T au}
variable (S:aT P X GL ae) {C:aK Prop} (E:Sem P X GL ae C)
def aV2 (A:dY P X GL) (D:bz8 ae) (F:bz8 ae) {n nn x s nx b4 b0 g St N} (so:pB n St) (hs:mG (g s)=mS St) (h4:cG (g b4)=some [.m s]) (hN:mG (g nx)=mN N) (no:EM n g x N) (d5:cG (g b0)=some [.m nx]) (lt:s<x/\ b4<x/\ nx<x/\ b0<x) (nl:n<=1000)
 {R q h} (v:vg n nn x g R q h) {a} (ha:nn<=a) {d} (fd:cA 3 d=true) (k)
 (hk:∀R' I h',vg n nn x g R' I h' ->h.next<=h'.next ->2*(8*n-iX n R')+I.length<=2*(8*n-iX n R)+q.length ->k (.tu []) h'):
 du C 163 [ι (a),eT d,.p b0 0,.p (x+1) 0,.p b4 0,.p (x+3) 0] h k:=by
 obtain⟨m,ver,ob⟩:=h;obtain⟨f7,f8,f9,g0⟩:=lt;have b2:∀j,j<x ->ob.get j=g j:=v.old;have h8:x+4<=m:=v.nx;have d0:cG (ob.get b0)=some [.m nx]:=by rw[b2 _ g0];exact d5
 have g1:mG (ob.get nx)=mN N:=by rw[b2 _ f9];exact hN
 have lk:∀G B ob' (τ:T AV),mG (T.get ob' nx)=mN N ->az C τ (.t 12)= .m nx ->az C τ (.t 13)=ι (a:Int) ->
  step (az C τ) ⟨G,B,ob'⟩ (.look (.lf .i) (.t 12) (.t 13) .sn false)= .v (oF nV .sn (look a N)) ⟨G,B,ob'⟩:=
  λG B ob' τ U q2 q3=>sd (k:=a) (z:= .sn) (en:=nV) lW (h:=⟨G,B,ob'⟩) (fT.2 U) q2 q3
 obtain⟨L,w,hw,lw,hL⟩:∃(L:List Nat) (w:AV),oF nV .sn (look a N)=w/\ (∀h,kg h w= .v (ι (L.length:Int)) h)/\ ((∃o,w= .sl o 0 L.length none 1/\ cG (g o)=some (L.flatMap cI)/\ (∀b∈L,a<b/\ b<n)/\ o<x/\ L.length<=100000)∨L=[]):=by
  rcases hl:look a N with _|e;exact⟨[],.sn,rfl,λh=>rfl,.inr rfl⟩;obtain⟨o,L⟩:=e;obtain⟨U,q2,q3,q4,q5⟩:=no.f a o L hl;exact⟨L,nV (o,L),rfl,λh=>rfl,.inl ⟨o,rfl,U,q3,q5,q4⟩⟩
 refine E.bS (F.g 163 aS6) (Z7 @eT.eq_1 @eD.eq_1 lk hw lw d0 g1 ?_);refine fj E.ok L.length (λi τ h=>∃R' I,vg n nn x g R' I h/\ m+1<=h.next/\ h.oB.get m=(ob.put m (.cells ver [tp (aE d).1,ι ((aE d).2:Int)])).get m/\ (∀o a l c,cG (h.oB.get (x+3))=some [.sl o a l c 1] ->o≠m)/\ 2*(8*n-iX n R')+I.length<=2*(8*n-iX n R)+q.length/\ τ.get 0=some (ι (a:Int))/\ τ.get 3=some (.p (x+1) 0)/\ τ.get 4=some (.p b4 0)/\ τ.get 5=some (.p (x+3) 0)/\ τ.get 7=some (.p m 0)/\ τ.get 14=some w/\ τ.get 15=some (ι (L.length:Int))/\ τ.get 16=some (ι (i:Int))) ?_ ?_ _ _ ⟨R,q,v.mono (by show m<=m+1;omega) (λj hj=> ?_),bB _,rfl,?_,bB _,?_,?_,?_,?_,?_,?_,?_,?_⟩
 ·rintro i τ ⟨n1,v1,aQ⟩ hi ⟨R',I,va,dS,om,qm,b6,t0,t3,t4,t5,t7,Z,J,O⟩ ih;have b7:m+1<=n1:=dS;rcases hL with ⟨o,rfl,cL,bL,oL,lL⟩|d6;rotate_left;subst d6;simp at hi;have b3:L[i]? =some L[i]:=ef hi;generalize hb:L[i]=b at b3;obtain⟨h6,b5⟩:=bL b (dI b3);have H:∀j,j<x ->aQ.get j=g j:=va.old;have d2:cG (aQ.get o)=some (L.flatMap cI):=by rw[H o oL];exact cL
  have e1:sub (L.flatMap cI) i 1=some [ι (b:Int)]:=by
   have:=cW (enc:=cI) (k:=1) (λa=>rfl) b3 (j:=0) (n:=1) ω;rw[vH,vG] at this;exact this
  have d4:cG (aQ.get (x+1))=some [.m x]:=va.c1;refine Y7 t3 Z J O d2 e1 d4 ?_;refine E.run (EI (l:=R') S E D F va.r _ ?_ (by show x<n1;omega));rintro⟨n2,v2,aJ⟩ hn2 eG;have g7:n1<=n2:=hn2;have cQ:∀j,j<n1 ->aJ.get j=aQ.get j:=eG;have b1:=va.mono hn2 eG;have fR:=va.ok.at_f b;generalize hr:fF R' b=r at fR;have fs:=so.at_f (a,b);generalize f0:pC St (a,b)=st at fs;simp only[eT,eD];have V:mG (aJ.get s)=mS St:=by rw[cQ s ω,H s f7];exact hs
  have c4:cG (aJ.get b4)=some [.m s]:=by rw[cQ b4 ω,H b4 f8];exact h4
  have c7:cG (aJ.get m)=some [tp (aE d).1,ι ((aE d).2:Int)]:=by rw[cQ m ω];rw[show aQ.get m=_ from om];exact U0
  have Bb:∀G B ob' (τ:T AV),mG (T.get ob' s)=mS St ->az C τ (.t 25)= .m s ->az C τ (.t 28)=eK (a,b) ->
   step (az C τ) ⟨G,B,ob'⟩ (.look (.ag [(0,1,false,.lf .i),(1,1,false,.lf .i)]) (.t 25) (.t 28) (.ag [.sn,ι 0]) false)= .v (.ag [tp (aE st).1,ι ((aE st).2:Int)]) ⟨G,B,ob'⟩:=
   λG B ob' τ U q2 q3=>by
    refine(sd (k:=(a,b)) (z:= .ag [.sn,ι 0]) (en:=eT) Kl (h:=⟨G,B,ob'⟩) (fT.2 U) q2 q3).trans ?_;rw[aU9,f0]
  simp only[eK] at Bb;have fm:cA 3 (cY (λx y=>x&&y) d st)=true:=jd fd fs;have fo:cA 3 (cY (λx y=>x||y) r (cY (λx y=>x&&y) d st))=true:=jd fR fm;have ca:=λh=>D7 S D (A.dia fd) (A.dia fs) h;have co:=λh=>IG S D (A.dia fR) (A.dia fm) h;have cs:=λh=>RC S D (A.dia fR) (A.dia fo) h;have cm:=λt h=>Bx S F t h;have sF:=ED (k:=3) fR fm;generalize g8:cY (λx y=>x&&y) d st=mt at*;generalize h5:cY (λx y=>x||y) r mt=Y at*;simp only[eT,eD] at ca co cs cm;refine Z7 t0 t4 t7 c4 c7 Bb V ?_;refine E.cN (ca _) (Z7 t0 t4 t7 c4 c7 Bb V ?_);refine E.cN (cm _ _) (Z7 t0 t4 t7 c4 c7 Bb V ?_);refine E.cN (co _) (Z7 t0 t4 t7 c4 c7 Bb V ?_);refine E.cN (cm _ _) (Z7 t0 t4 t7 c4 c7 Bb V ?_);refine E.cN (cs _) ?_;by_cases he:r=Y
  ·have hd:decide (r=Y)=true:=zG he;rw[hd];refine Y1 O ?_;refine ih _ _ ⟨R',I,b1.mono (by show n2<=n2+1+1;omega) (λj hj=> ?_),by show m+1<=n2+1+1;omega,?_,?_,b6,?_,?_,?_,?_,?_,?_,?_,?_⟩;have m9:j<n2:=hj;exact U0;simp(disch:=omega) only[dh,T.get_put,bV];rw[cQ m ω,show aQ.get m=_ from om];exact U0;simp(disch:=omega) only[dh,T.get_put,bV];rw[cQ (x+3) ω];exact qm;all_goals exact U7 t0 t3 t4 t5 t7 Z J
  have hd:decide (r=Y)=false:=ot he;rw[hd];have d1:cG (aJ.get (x+1))=some [.m x]:=b1.c1;have dx:mG (aJ.get x)=mT R':=b1.r;obtain⟨vq,d3,qa⟩:=b1.c3;obtain⟨oq,aq,cq,Lq,rfl,U,q2,q3,q4,q5,q6⟩:=qa.e;have g2:oq<n2:=q6;dsimp only at d3 U;have mu:∀G B ob' (τ:T AV),mG (T.get ob' x)=mT R' ->az C τ (.t 42)= .m x ->az C τ (.t 43)=ι (b:Int) ->az C τ (.t 44)= .ag [tp (aE Y).1,ι ((aE Y).2:Int)] ->
   step (az C τ) ⟨G,B,ob'⟩ (.mupd (.lf .i) (.t 42) (.t 43) (.t 44))= .v .un ⟨G,B+1,ob'.put x (.map (B+1) (di (λn:Nat=>AV.i .i64 (n:Int)) eT 0 (ups b Y R')) (ups b Y R').length)⟩:=
   λG B ob' τ U q2 q3 q4=>mL (k:=b) (v:=Y) (en:=eT) lW (h:=⟨G,B,ob'⟩) (fT.2 U) q2 q3 q4
  have lq:I.length<=iX n R':=va.ql;have h7:=EL va.ok;have g6:=sF.2 (λh=>he h.symm);have su:=Th (l:=R') (x:=Y) b5;rw[hr] at su;have nb:Not (b<=nn):=by omega
  have b8:=va.ok.ups b5 fo (λh=>bh (qM h) nb);have fin:∀(τ':T AV) (W v3:Nat) (cC:T bC),n2<=W ->(∀j,j<n2 ->j≠x ->j≠x+3 ->j≠oq ->cC.get j=aJ.get j) ->mG (cC.get x)=mT (ups b Y R') ->cG (cC.get (x+3))=some [.sl (W-1) 0 (I.length+1) none 1] ->cG (cC.get (W-1))=some (I.flatMap cI++[ι (b:Int)]) ->n2+1<=W ->
   τ'.get 0=some (ι (a:Int)) ->τ'.get 3=some (.p (x+1) 0) ->τ'.get 4=some (.p b4 0) ->τ'.get 5=some (.p (x+3) 0) ->τ'.get 7=some (.p m 0) ->τ'.get 14=some (.sl o 0 L.length none 1) ->τ'.get 15=some (ι (L.length:Int)) ->τ'.get 16=some (ι ((i+1:Nat):Int)) ->df C Ut.loop [Fr.b 0] (KF k []) τ' ⟨W,v3,cC⟩:=by
   intro τ' W v3 cC a1 a2 a3 a4 a5 a6 s0 s3 s4 s5 s7 g3 g4 g5;have d8:oq≠m:=qm oq aq I.length cq (by show cG (aQ.get (x+3))=_;rw[←cQ (x+3) ω];exact d3);refine ih _ _ ⟨ups b Y R',I++[b],⟨a3,b8,?_,⟨_,a4,⟨⟨W-1,0,none,I.flatMap cI++[ι (b:Int)],?_,a5,?_,.inl rfl,by omega,by omega,by show W-1<W;omega⟩⟩⟩,?_,?_,by show x+4<=W;omega,?_⟩,by show m+1<=W;omega,?_,?_,?_,s0,s3,s4,s5,s7,g3,g4,g5⟩;show cG (cC.get (x+1))=_;rw[a2 (x+1) ω ω ω ω];exact d1;rw[dy];rfl;rw[Bd];refine mM ?_;rw[dy,kh (k:=1) (λa=>rfl),dy];simp;intro z hz;rcases fO.1 hz with h|h;exact va.lq z h;rw[yC.1 h];exact⟨by omega,b5⟩;rw[dy];simp only[gJ,ji];omega;intro j hj;show cC.get j=_;rw[a2 j ω ω ω ω,cQ j ω];exact H j hj;show cC.get m=_;rw[a2 m ω ω ω (λh=>d8 h.symm),cQ m ω];exact om;intro o' a' l' c' hc;rw[show cG (cC.get (x+3))=_ from a4] at hc;cases hc;omega;rw[dy];simp only[gJ,ji];have:=EL b8;omega
  rcases q3 with rfl|⟨rfl,rfl,rfl,rfl⟩
  ·have c6:∀G B ob' o2,cG (T.get ob' oq)=some Lq ->cG (T.get ob' o2)=some [ι (b:Int)] ->gU ⟨G,B,ob'⟩ 1 (.sl oq aq I.length none 1) (.sl o2 0 1 (some 1) 1)= .v (.sl G 0 (I.length+1) none 1) ⟨G+1,B+1,(ob'.put oq .gone).put G (.cells (B+1) (I.flatMap cI++[ι (b:Int)]))⟩:=
    λG B ob' o2 e1 e2=>aV0 (h:=⟨G,B,ob'⟩) e1 q2 e2 rfl rfl ω
   simp(disch:=first|omega|(exact U2 dx U)) only[tM,c6,t3,t5,O,d1,d3,mu,bK,↓sA E.ok,↓reduceIte,go_sem];refine fin _ _ _ _ ω (λj h1 h2 h3 h4=>by exact U0) ?_ ?_ ?_ ω ?_ ?_ ?_ ?_ ?_ ?_ ?_ ?_;exact U0;exact U0;rw[Nat.add_sub_cancel];exact U0;all_goals exact U7 t0 t3 t4 t5 t7 Z J
  ·refine Z9 @iB U t3 t5 O d1 d3 dx mu ?_;refine fin _ _ _ _ ω (λj h1 h2 h3 h4=>by exact U0) ?_ ?_ ?_ ω ?_ ?_ ?_ ?_ ?_ ?_ ?_ ?_;exact U0;exact U0;rw[Nat.add_sub_cancel];exact U0;all_goals exact U7 t0 t3 t4 t5 t7 Z J
 rintro τ ⟨n1,v1,aQ⟩ ⟨R',I,va,dS,om,qm,b6,t0,t3,t4,t5,t7,Z,J,O⟩;have b7:m+1<=n1:=dS;refine Y3 J O @xb ?_;exact hk R' I _ va (by show m<=n1;omega) b6;have m9:j<m:=hj;exact U0;intro o a l c hc;obtain⟨vq,d3,qa⟩:=v.c3;obtain⟨oq,aq,cq,Lq,rfl,U,q2,q3,q4,q5,q6⟩:=qa.e;have g2:oq<m:=q6;simp(disch:=omega) only[dh,T.get_put,bV] at hc;rw[show cG (ob.get (x+3))=_ from d3] at hc;cases hc;omega;all_goals exact U0
def aV3 (E:Sem P X GL ae C) {p:Pr} {i b6:Nat} (hi:i<p.right.length) (hr:p.right.length<=1000) {h:AH} {τ:T AV} (t6:τ.get 6=some (.p b6 0)) (t7:τ.get 7=some (ι (i:Int))) (H:cG (h.oB.get b6)=some (aM p)) (l6:b6<h.next) {Y:aw} {S:List Fr} {K:K Prop}
 (hk:∀o c τ' h',o<h'.next ->h.next<=o ->h.next<=h'.next ->(∀j,j<h.next ->h'.oB.get j=h.oB.get j) ->cG (h'.oB.get o)=some ((sJ p.right i).flatMap dO) ->τ'.get 9=some (.sl o 0 (sJ p.right i).length c 2) ->(∀j,j<46 ->j≠9 ->τ'.get j=τ.get j) ->df C Y S K τ' h'):
 df C Qn (.s Y::S) K τ h:=by
 unfold Qn;obtain⟨m,ver,ob⟩:=h;have er:eR dO 2 p.rn p.right= .ds (p.right.flatMap dO) 0 p.right.length 2:=by
  rcases hp:p.right with _|⟨a,r⟩;rw[hp] at hi;simp at hi;rfl
 dsimp only at H;simp only[aM,er] at H;generalize p.right=r at*;have b0:b6<m:=l6;have U:(sJ r i).length=r.length-1:=by unfold sJ;rw[dy,jm,sU];omega
 have nk:∀a b,nice 64 (.ds (r.flatMap dO) a b 2)=true:=λa b=>by rw[nN,fE jE]
 have p1:sub (r.flatMap dO) 0 (i*2)=some ((r.take i).flatMap dO):=by
  have:=JY gO (L:=r) (i:=0) (n:=i) ω;simpa using this
 have G:sub (r.flatMap dO) ((i+1)*2) ((r.length-(i+1))*2)=some ((r.drop (i+1)).flatMap dO):=by
  have:=JY gO (L:=r) (i:=i+1) (n:=r.length-(i+1)) ω
  rwa [vM (by rw[sU];omega)] at this
 have z1:sub (r.flatMap dO) 0 0=some []:=by
  have:=JY gO (L:=r) (i:=0) (n:=0) ω;simpa using this
 have s1:wV ((r.take i).flatMap dO)=true:=w7 S8 _;have s2:wV ((r.drop (i+1)).flatMap dO)=true:=w7 S8 _;have R:∀(τ:T AV) h,az C τ (.t 48)= .ds (r.flatMap dO) 0 r.length 2 ->az C τ (.t 49)=ι (i:Int) ->step (az C τ) h (.slc 2 (.t 48) none (some (.t 49)) none)= .v (.ds (r.flatMap dO) 0 i 2) h:=
  λτ h h1 h2=>JV h1 (by rw[h2];exact tC) ω
 have B:∀(τ:T AV) h,az C τ (.t 53)= .ds (r.flatMap dO) 0 r.length 2 ->az C τ (.t 55)=ι ((i+1:Nat):Int) ->step (az C τ) h (.slc 2 (.t 53) (some (.t 55)) none none)= .v (.ds (r.flatMap dO) (0+(i+1)*2) (r.length-(i+1)) 2) h:=
  λτ h h1 h2=>SU h1 (by rw[h2];exact tC) ω
 have O:sJ r i=r.take i++r.drop (i+1):=rfl;have V:r.length-(i+1)=(r.drop (i+1)).length:=by rw[sU]
 have fin:∀o c (τ':T AV) (h':AH),o<h'.next ->m<=o ->(∀j,j<m ->h'.oB.get j=ob.get j) ->cG (h'.oB.get o)=some ((sJ r i).flatMap dO) ->∀n,n=(sJ r i).length ->τ'.get 9=some (.sl o 0 n c 2) ->(∀j,j<46 ->j≠9 ->τ'.get j=τ.get j) ->df C Y S K τ' h':=by
  grind
 have gt:∀j,j<46 ->j≠9 ->j≠46/\ j≠47/\ j≠48/\ j≠49/\ j≠50/\ j≠51/\ j≠52/\ j≠53/\ j≠54/\ j≠55/\ j≠56/\ j≠57:=λj h1 h2=>by omega
 by_cases i0:i=0;have A1:∀h',gU h' 2 (.sl m 0 0 (some 0) 2) (.ds (r.flatMap dO) 0 i 2)= .v (.sl m 0 0 (some 0) 2) h':=λh'=>by rw[i0];exact JX z1
 have tk:r.take i=[]:=by rw[i0];rfl
 by_cases D:r.length-(i+1)=0;have A2:∀h',gU h' 2 (.sl m 0 0 (some 0) 2) (.ds (r.flatMap dO) ((i+1)*2) (r.length-(i+1)) 2)= .v (.sl m 0 0 (some 0) 2) h':=λh'=>by
  rw[D];refine JX ?_;rw[D,pM (show(r.drop (i+1)).length=0 by rw[←V];exact D)] at G;exact G
 refine Z9 t6 t7 H @tM R B A1 A2 nk ?_;refine fin m (some 0) _ _ (by show m<m+1;omega) (bB _) (λj W=>U0) ?_ 0 ?_ U0 (λj h1 h2=>U0);exact U3 O tk (pM (show(r.drop (i+1)).length=0 by rw[←V];exact D));rw[U];omega;obtain⟨n',A⟩:∃n',r.length-(i+1)=n'+1:=⟨r.length-(i+1)-1,by omega⟩;rw[A] at G;have A2:∀v t,cG (T.get t m)=some [] ->gU ⟨m+1,v,t⟩ 2 (.sl m 0 0 (some 0) 2) (.ds (r.flatMap dO) ((i+1)*2) (r.length-(i+1)) 2)= .v (.sl (m+1) 0 (n'+1) none 2) ⟨m+1+1,v,t.put (m+1) (.cells v ((r.drop (i+1)).flatMap dO))⟩:=λv t I=>by rw[A];exact Bv G s2 I ω
 refine Z9 t6 t7 H @tM R B A1 A2 nk ?_;refine fin (m+1) none _ _ (by show m+1<m+1+1;omega) ω (λj W=>U0) ?_ (n'+1) ?_ U0 (λj h1 h2=>U0)
 simp_all [T.get_put,dZ,d9,O,tk,gx]
 rw[U];omega;obtain⟨Z,hi'⟩:∃Z,i=Z+1:=⟨i-1,by omega⟩;have A1:∀v t,cG (T.get t m)=some [] ->gU ⟨m+1,v,t⟩ 2 (.sl m 0 0 (some 0) 2) (.ds (r.flatMap dO) 0 i 2)= .v (.sl (m+1) 0 i none 2) ⟨m+1+1,v,t.put (m+1) (.cells v ((r.take i).flatMap dO))⟩:=λv t I=>by
  have J:=p1;have N:=s1;rw[hi'] at J N ⊢;exact Bv J N I ω
 by_cases D:r.length-(i+1)=0;have A2:∀h',gU h' 2 (.sl (m+1) 0 i none 2) (.ds (r.flatMap dO) ((i+1)*2) (r.length-(i+1)) 2)= .v (.sl (m+1) 0 i none 2) h':=λh'=>by
  rw[D];refine JX ?_;rw[D,pM (show(r.drop (i+1)).length=0 by rw[←V];exact D)] at G;exact G
 refine Z9 t6 t7 H @tM R B A1 A2 nk ?_;refine fin (m+1) none _ _ (by show m+1<m+1+1;omega) ω (λj W=>U0) ?_ i ?_ U0 (λj h1 h2=>U0);simp only[T.get_put,dZ,d9,O,pM (show(r.drop (i+1)).length=0 by rw[←V];exact D),lG];rw[U];omega;obtain⟨n',A⟩:∃n',r.length-(i+1)=n'+1:=⟨r.length-(i+1)-1,by omega⟩;rw[A] at G;have A2:∀v t,cG (T.get t (m+1))=some ((r.take i).flatMap dO) ->gU ⟨m+1+1,v,t⟩ 2 (.sl (m+1) 0 i none 2) (.ds (r.flatMap dO) ((i+1)*2) (r.length-(i+1)) 2)= .v (.sl (m+1+1) 0 (i+(n'+1)) none 2) ⟨m+1+1+1,v+1,(t.put (m+1) .gone).put (m+1+1) (.cells (v+1) ((r.take i).flatMap dO++(r.drop (i+1)).flatMap dO))⟩:=λv t I=>by
  rw[A];exact aP3 G s2 I (by rw[kh gO,jm,kF ω]) ω
 refine Z9 t6 t7 H @tM R B A1 A2 nk ?_;refine fin (m+1+1) none _ _ (by show m+1+1<m+1+1+1;omega) ω (λj W=>U0) ?_ (i+(n'+1)) ?_ U0 (λj h1 h2=>U0);simp only[T.get_put,dZ,d9,O,Bd];rw[U];omega
def Ti {κ ν} [DecidableEq κ] {k v}:∀{l:List (κ×ν)},(ups k v l).map (·.1)=if k∈l.map (·.1) then l.map (·.1) else l.map (·.1)++[k]
 |[]=>by simp[ups]
 |(a,b)::l=>by
  by_cases e:k=a;subst e;simp[ups];have j:=Ti (k:=k) (v:=v) (l:=l);have:ups k v ((a,b)::l)=(a,b)::ups k v l:=by simp[ups,e]
  rw[this,jY,j];by_cases h:k∈l.map (·.1);rw[aF h,aF (by simp only[jY,ey];exact .inr h)];rfl;rw[aD h,aD (by simp only[jY,ey];exact λc=>c.elim e h)];rfl
def aV4 {κ ν} [DecidableEq κ] {k v} {l:List (κ×ν)} (h:(l.map (·.1)).Nodup):((ups k v l).map (·.1)).Nodup:=by
 rw[Ti];split;exact h;rename_i A;refine zE.2 ⟨h,by simp,λa j b hb e=> ?_⟩;rw[yC.1 hb] at e;exact A (e▸j)
theorem pB.ups {n:Nat} {l:List ((Nat×Nat)×Tr)} (m:pB n l) {p:Nat×Nat} {x:Tr} (j:cA 3 x=true) (h1:p.1<p.2) (h2:p.2<n):pB n (ups p x l) where
 f:=λq t h=>by
  rw[Fh] at h;split at h;rename_i e;cases h;subst e;exact⟨j,h1,h2⟩;exact m.f q t h
 nd:=aV4 m.nd
def aV5 (A:dY P X GL) (D:bz8 ae) (F:bz8 ae) {g} (G:oy g) {Z} (Y:iQ g Z) {oa op o s l h τ} (an:By h oa op g) (hm:mG (h.oB.get o)=mT l) (ok:nZ g.nT.length Z l)
 (ms:mG (h.oB.get s)=mS []) (c4:cG (h.oB.get (s+1))=some [.m s]) (low:oa<s/\ op<s/\ o<s/\ s+2<=h.next) (t0:τ.get 0=some (.p oa 0)) (t3:τ.get 3=some (.m o)) (t4:τ.get 4=some (.p (s+1) 0)) {W Fs K}
 (hk:∀St τ' h',pB g.nT.length St ->mG (h'.oB.get s)=mS St ->h.next<=h'.next ->(∀j,j<h.next ->j≠s ->h'.oB.get j=h.oB.get j) ->τ'.get 0=some (.p oa 0) ->τ'.get 3=some (.m o) ->τ'.get 4=some (.p (s+1) 0) ->df C W Fs K τ' h'):
 df C (.seq Su (.block 0 (.loop Sy))) (.s W::Fs) K τ h:=by
 obtain⟨m,ver,ob⟩:=h;obtain⟨o3,o4,o5,k0⟩:=low;have l0:s+2<=m:=k0;have pl:=G.pl;have ntl:=G.ntl;obtain⟨f8,i6⟩:=an;dsimp only at f8 i6 hm ms c4;have i5:=f8;simp only[bx,gw,gx] at f8;refine Y2 f8 t0 ?_;refine fj E.ok g.pR.length (λi τ h=>∃St,pB g.nT.length St/\ mG (h.oB.get s)=mS St/\ m<=h.next/\ (∀j,j<m ->j≠s ->h.oB.get j=ob.get j)/\ τ.get 0=some (.p oa 0)/\ τ.get 3=some (.m o)/\ τ.get 4=some (.p (s+1) 0)/\ τ.get 29=some (eR aM 13 true g.pR)/\ τ.get 30=some (ι (g.pR.length:Int))/\ τ.get 31=some (ι (i:Int))) ?_ ?_ _ _ ⟨[],⟨λp t h=>by simp[look] at h,by simp⟩,ms,bB _,λj _ _=>rfl,?_,?_,?_,?_,?_,?_⟩
 ·rintro i τ ⟨n1,v1,aQ⟩ hi ⟨St,so,g2,dS,dD,s0,s3,s4,i3,g3,g4⟩ ih;have n0:m<=n1:=dS;have b8:∀j,j<m ->j≠s ->aQ.get j=ob.get j:=dD;dsimp only at g2;have g0:g.pR[i]? =some g.pR[i]:=ef hi;generalize hp:g.pR[i]=p at g0;have i1:=dI g0;have pk:=G.p p i1;have rl:=pk.len;have o6:=pk.left;have i8:sub (g.pR.flatMap aM) (i*13) 13=some (aM p):=cW kr g0 (j:=0) (n:=13) ω;simp only[aM] at i8;have fp:=S7 G i1;refine Y4 i3 g3 g4 i8 ?_;refine fj E.ok p.right.length (λj τ h=>∃St,pB g.nT.length St/\ mG (h.oB.get s)=mS St/\ n1+1<=h.next/\ (∀j,j<n1 ->j≠s ->h.oB.get j=aQ.get j)/\ cG (h.oB.get n1)=some (aM p)/\ τ.get 0=some (.p oa 0)/\ τ.get 3=some (.m o)/\ τ.get 4=some (.p (s+1) 0)/\ τ.get 29=some (eR aM 13 true g.pR)/\ τ.get 30=some (ι (g.pR.length:Int))/\ τ.get 31=some (ι (i:Int))/\ τ.get 5=some (ι (i:Int))/\ τ.get 6=some (.p n1 0)/\ τ.get 37=some (eR dO 2 p.rn p.right)/\ τ.get 38=some (ι (p.right.length:Int))/\ τ.get 39=some (ι (j:Int))) ?_ ?_ _ _ ⟨St,so,?_,?_,?_,?_,?_,?_,?_,?_,?_,?_,?_,?_,?_,?_,?_⟩
  ·rintro j τ ⟨R,v2,aJ⟩ hj ⟨St2,b2,b7,h8,eG,c6,u0,u3,u4,g5,g6,g7,u5,u6,d2,b3,d3⟩ i2;have j1:n1+1<=R:=h8;have cQ:∀j,j<n1 ->j≠s ->aJ.get j=aQ.get j:=eG;dsimp only at b7 c6;have b5:p.right[j]? =some p.right[j]:=ef hj;generalize hy:p.right[j]=y at b5;have e2:sub (p.right.flatMap dO) (j*2) 2=some [.b y.1,ι (y.2:Int)]:=cW gO b5 (j:=0) (n:=2) ω;have h5:=c6;simp only[aM] at c6;cases h1:y.1 with
   |true=>
    rw[h1] at e2;refine Y4 d2 b3 d3 e2 ?_;refine i2 _ _ ⟨St2,b2,?_,by show n1+1<=R+1;omega,λI h1 h2=> ?_,?_,?_,?_,?_,?_,?_,?_,?_,?_,?_,?_,?_⟩;exact W0 b7;exact W0 (cQ I h1 h2);exact W0 h5;all_goals exact Bo u0 u3 u4 g5 g6 g7 u5 u6 d2 b3
   |false=>
    rw[h1] at e2;refine Y4 d2 b3 d3 e2 ?_;refine aV3 E (p:=p) (b6:=n1) (i:=j) hj ω ?_ ?_ ?_ ?_ ?_;exact U1 u6;exact U0;exact W0 h5;show n1<R+1;omega;rintro oo co τ2 ⟨n3,v3,cC⟩ j3 k8 k6 k1 h6 w9 wo;have n7:R+1<=n3:=k6;have o1:oo<n3:=j3;have o2:R+1<=oo:=k8;have iN:∀j,j<R+1 ->cC.get j=_:=k1;have O:∀j,j<R ->cC.get j=aJ.get j:=λj hj=>by rw[iN j ω];exact U0
    have w0:τ2.get 0=some (.p oa 0):=by rw[wo 0 ω ω];exact U1 u0
    have w3:τ2.get 3=some (.m o):=by rw[wo 3 ω ω];exact U1 u3
    have w4:τ2.get 4=some (.p (s+1) 0):=by rw[wo 4 ω ω];exact U1 u4
    have w5:τ2.get 5=some (ι (i:Int)):=by rw[wo 5 ω ω];exact U1 u5
    have w6:τ2.get 6=some (.p n1 0):=by rw[wo 6 ω ω];exact U1 u6
    have w8:τ2.get 8=some (.p R 0):=by rw[wo 8 ω ω];exact U0
    have l4:τ2.get 29=some (eR aM 13 true g.pR):=by rw[wo 29 ω ω];exact U1 g5
    have l5:τ2.get 30=some (ι (g.pR.length:Int)):=by rw[wo 30 ω ω];exact U1 g6
    have l6:τ2.get 31=some (ι (i:Int)):=by rw[wo 31 ω ω];exact U1 g7
    have l8:τ2.get 37=some (eR dO 2 p.rn p.right):=by rw[wo 37 ω ω];exact U1 d2
    have m1:τ2.get 38=some (ι (p.right.length:Int)):=by rw[wo 38 ω ω];exact U1 b3
    have m4:τ2.get 39=some (ι (j:Int)):=by rw[wo 39 ω ω];exact U1 d3
    clear wo;have r8:cG (cC.get R)=some [.b y.1,ι (y.2:Int)]:=by rw[iN R ω];exact U1 h1
    have rm:∀j,j<m ->j≠s ->cC.get j=ob.get j:=λj h1 h2=>by rw[O j ω,cQ j ω h2,b8 j h1 h2]
    have ra:cG (cC.get oa)=some (bx g++[.sl op 0 g.pR.length none 2]):=by rw[rm oa ω ω];exact i5
    have rp:cG (cC.get op)=some ((g.pR.map (jh g)).flatMap cT):=by rw[rm op ω ω];exact i6
    have ro:mG (cC.get o)=mT l:=by rw[rm o ω ω];exact hm
    have r4:cG (cC.get (s+1))=some [.m s]:=by rw[rm (s+1) ω ω];exact c4
    have rs:mG (cC.get s)=mS St2:=by rw[O s ω];exact b7
    have r6:cG (cC.get n1)=some (aM p):=by rw[O n1 ω];exact h5
    dsimp only at h6;generalize j4:sJ p.right j=V at*;have o7:V.length<=16:=by rw[←j4];unfold sJ;rw[dy,jm,sU];omega
    simp only[bx,gw,gx] at ra;have i9:sub ((g.pR.map (jh g)).flatMap cT) (i*2) 2=some (cT (jh g p)):=cW J9 (L:=g.pR.map (jh g)) (i:=i) (a:=jh g p) (by rw[oh,g0];rfl) (j:=0) (n:=2) ω;simp only[cT] at i9;refine Y7 ra rp i9 w0 w3 w5 w9 ?_;refine E.run (Tf (n:=g.nT.length) (Z:=Z) (l:=l) (d:=jh g p) (r:=V) S E A D F ok ro (by show o<n3;omega) fp (.inr ⟨oo,co,rfl,h6,j3⟩) ω _ ?_);rintro⟨n4,v4,ob4⟩ hn4 old4;have n8:n3<=n4:=hn4;have H:∀j,j<n3 ->ob4.get j=cC.get j:=old4;have fw:=EJ ok V _ fp;simp only[eT,eD];refine Y1 w9 ?_;have l1:cG (ob4.get R)=some [.b y.1,ι (y.2:Int)]:=by rw[H R ω];exact r8
    have rr4:cG (ob4.get (s+1))=some [.m s]:=by rw[H (s+1) ω];exact r4
    have l3:mG (ob4.get s)=mS St2:=by rw[H s ω];exact rs
    have k2:cG (ob4.get n1)=some (aM p):=by rw[H n1 ω];exact r6
    have l2:cG (ob4.get oo)=some (V.flatMap dO):=by rw[H oo ω];exact h6
    have cc:=λh=>IW S D false h;have e0:eT (yU false 3)= .ag [.sn,ι 0]:=rfl;rw[e0] at cc;generalize k4:pA l (jh g p) V=d1 at*;refine fj E.ok V.length (λjj τ h=>∃w,cA 3 w=true/\ (w=gq∨(w=d1/\∀z∈V.take jj,z.1=false))/\ cG (h.oB.get n4)=some (cT w)/\ n4+1<=h.next/\ (∀j,j<n4 ->h.oB.get j=ob4.get j)/\ τ.get 0=some (.p oa 0)/\ τ.get 3=some (.m o)/\ τ.get 4=some (.p (s+1) 0)/\ τ.get 29=some (eR aM 13 true g.pR)/\ τ.get 30=some (ι (g.pR.length:Int))/\ τ.get 31=some (ι (i:Int))/\ τ.get 5=some (ι (i:Int))/\ τ.get 6=some (.p n1 0)/\ τ.get 8=some (.p R 0)/\ τ.get 10=some (.p n4 0)/\ τ.get 37=some (eR dO 2 p.rn p.right)/\ τ.get 38=some (ι (p.right.length:Int))/\ τ.get 39=some (ι (j:Int))/\ τ.get 68=some (.sl oo 0 V.length co 2)/\ τ.get 69=some (ι (V.length:Int))/\ τ.get 70=some (ι (jj:Int))) ?_ ?_ _ _ ⟨d1,fw,.inr ⟨rfl,λz hz=>by simp at hz⟩,?_,?_,?_,?_,?_,?_,?_,?_,?_,?_,?_,?_,?_,?_,?_,?_,?_,?_,?_⟩
    ·rintro jj τ ⟨n5,v5,N⟩ k5 ⟨w,fw,hw,cw,h9,c7,x0,x3,x4,d4,d5,d6,x5,x6,x8,U,d8,f0,b0,f7,b1,b4⟩ j8;have j2:n4+1<=n5:=h9;have B:∀j,j<n4 ->N.get j=ob4.get j:=c7;dsimp only at cw;have i0:V[jj]? =some V[jj]:=ef k5;generalize hu:V[jj]=u at i0;have e2:sub (V.flatMap dO) (jj*2) 2=some [.b u.1,ι (u.2:Int)]:=cW gO i0 (j:=0) (n:=2) ω;have h4:cG (N.get oo)=some (V.flatMap dO):=by rw[B oo ω];exact l2
     have tk:=nY i0;cases h2:u.1 with
     |true=>
      rw[h2] at e2;refine Y5 f7 b1 b4 h4 e2 ?_;refine E.cN (cc _) (Y4 U b4 cw @cT.eq_1 ?_);refine j8 _ _ ⟨gq,EC,.inl rfl,?_,by show n4+1<=n5+1;omega,λI m9=> ?_,?_,?_,?_,?_,?_,?_,?_,?_,?_,?_,?_,?_,?_,?_,?_,?_⟩;exact U0;exact W0 (B I m9);all_goals simp only[T.get_put,Nat.reduceEqDiff,reduceIte,x0,x3,x4,d4,d5,d6,x5,x6,x8,U,d8,f0,b0,f7,b1]
     |false=>
      rw[h2] at e2;refine Y5 f7 b1 b4 h4 e2 ?_;refine j8 _ _ ⟨w,fw,hw.imp id (λh=>⟨h.1,λz hz=> ?_⟩),?_,by show n4+1<=n5+1;omega,λI m9=> ?_,?_,?_,?_,?_,?_,?_,?_,?_,?_,?_,?_,?_,?_,?_,?_,?_⟩;rw[tk] at hz;rcases fO.1 hz with h'|h';exact h.2 z h';rw[yC.1 h'];exact h2;exact W0 cw;exact W0 (B I m9);all_goals simp only[T.get_put,Nat.reduceEqDiff,reduceIte,x0,x3,x4,d4,d5,d6,x5,x6,x8,U,d8,f0,b0,f7,b1]
    rintro τ ⟨n5,v5,N⟩ ⟨w,fw,hw,cw,h9,c7,x0,x3,x4,d4,d5,d6,x5,x6,x8,U,d8,f0,b0,f7,b1,b4⟩;have j2:n4+1<=n5:=h9;have B:∀j,j<n4 ->N.get j=ob4.get j:=c7;dsimp only at cw;rw[mR] at hw;have f9:=cw;simp only[cT] at f9;have h3:∀j,j<n1 ->j≠s ->N.get j=aQ.get j:=λj h1 h2=>by rw[B j ω,H j ω,O j ω,cQ j h1 h2]
    have q6:cG (N.get n1)=some (aM p):=by rw[B n1 ω];exact k2
    have qs:mG (N.get s)=mS St2:=by rw[B s ω];exact l3
    by_cases hb:w=gq
    ·have rz:(((aE w).2:Nat):Int)=0:=by rw[hb];rfl
     refine Y6 U b0 b1 b4 f9 rz ?_;refine i2 _ _ ⟨St2,b2,qs,by show n1+1<=n5;omega,h3,q6,?_,?_,?_,?_,?_,?_,?_,?_,?_,?_,?_⟩;all_goals simp only[T.get_put,Nat.reduceEqDiff,reduceIte,x0,x3,x4,d4,d5,d6,x5,x6,d8,f0,b0]
    ·have rz:(((aE w).2:Nat):Int)=0↔False:=⟨λh=>hb ((Kj fw).1 ω),False.elim⟩;have q8:cG (N.get R)=some [.b y.1,ι (y.2:Int)]:=by rw[B R ω];exact l1
     have q4:cG (N.get (s+1))=some [.m s]:=by rw[B (s+1) ω];exact rr4
     simp only[aM] at q6;refine jC x4 x6 x8 U b1 b4 f9 rz q6 q8 q4 ?_;have aV:p.left<y.2/\ y.2<g.nT.length:=by
      have m5:y.2<g.nT.length:=by
       rcases pk.sym y (dI b5) with ⟨h2,_⟩|⟨_,h2⟩;rw[h1] at h2;cases h2;exact h2
      refine⟨?_,m5⟩;obtain⟨k9,k7⟩:=hw.resolve_left hb;have g8:∀(I:Nat) s',I≠j ->p.right[I]? =some s' ->s'∈V:=by
       intro I s' xt g1;rw[←j4];unfold sJ;rw[fO];by_cases aV:I<j;left;refine dI (i:=I) ?_;rw[jZ,aF aV];exact g1;right;refine dI (i:=I-(j+1)) ?_;rw[mB,show j+1+(I-(j+1))=I by omega];exact g1
      have ht:∀s∈p.right,s.1=false:=by
       intro s' g1;obtain⟨I,j0,m9⟩:=sX.1 g1;have h7:p.right[I]? =some s':=by rw[←m9];exact ef j0
       by_cases xt:I=j;subst xt;rw[b5] at h7;cases h7;exact h1;exact k7 _ (g8 I s' xt h7)
      rcases Y.st p i1 ht j y.2 (by rw[b5,←h1]) with h|⟨I,z,xt,m9,hz⟩;exact h;refine bh (k9.trans ?_) hb;rw[←k4];exact Te ok _ _ fp (.inr ⟨_,g8 I _ xt m9,rfl,ok.at_z hz⟩)
     refine E.run (aV1 (p:=(p.left,y.2)) (l:=St2) S E D F ?_ _ ?_ (by show s<n5+1;omega));exact W0 qs;rintro⟨n6,v6,ob6⟩ hn6 old6;have o0:n5+1<=n6:=hn6;have d0:∀j,j<n5+1 ->ob6.get j=_:=old6;have J:∀j,j<n5 ->ob6.get j=N.get j:=λj hj=>by rw[d0 j ω];exact U0
     have fs:=b2.at_f (p.left,y.2);have fo:cA 3 (cY (λx y=>x||y) (pC St2 (p.left,y.2)) w)=true:=jd fs fw;have co:=λh=>IG S D (A.dia fs) (A.dia fw) h;have cm:=λt h=>Bx S F t h;generalize hx:cY (λx y=>x||y) (pC St2 (p.left,y.2)) w=x at*;simp only[eT,eD] at co cm;have i4:cG (ob6.get n5)=some [ι (p.left:Int),ι (y.2:Int)]:=by rw[d0 n5 ω];exact U0
     have z4:cG (ob6.get (s+1))=some [.m s]:=by rw[J (s+1) ω,B (s+1) ω];exact rr4
     have zs:mG (ob6.get s)=mS St2:=by rw[J s ω];exact qs
     have k3:cG (ob6.get n4)=some [tp (aE w).1,ι ((aE w).2:Int)]:=by rw[J n4 ω];exact f9
     simp only[eT,eD];refine Y5 x4 U i4 z4 k3 ?_;refine E.cN (co _) (Y5 x4 U i4 z4 k3 ?_);refine E.cN (cm _ _) ?_;have mu:∀bQ aA ob' (τ:T AV),mG (T.get ob' s)=mS St2 ->az C τ (.t 86)= .m s ->az C τ (.t 87)=eK (p.left,y.2) ->az C τ (.t 95)= .ag [tp (aE x).1,ι ((aE x).2:Int)] ->
      step (az C τ) ⟨bQ,aA,ob'⟩ (.mupd (.ag [(0,1,false,.lf .i),(1,1,false,.lf .i)]) (.t 86) (.t 87) (.t 95))= .v .un ⟨bQ,aA+1,ob'.put s (.map (aA+1) (di eK eT 0 (ups (p.left,y.2) x St2)) (ups (p.left,y.2) x St2).length)⟩:=
      λbQ aA ob' τ q1 q2 q3 q4=>mL (k:=(p.left,y.2)) (v:=x) (en:=eT) Kl (h:=⟨bQ,aA,ob'⟩) (fT.2 q1) q2 q3 q4
     simp only[eK] at mu;refine Z5 x4 b0 i4 z4 mu ?_;refine i2 _ _ ⟨ups (p.left,y.2) x St2,b2.ups fo aV.1 aV.2,?_,by show n1+1<=n6;omega,λI h1 h2=> ?_,?_,?_,?_,?_,?_,?_,?_,?_,?_,?_,?_,?_⟩;exact U0;simp(disch:=omega) only[dh,T.get_put,bV];rw[J I ω];exact h3 I h1 h2;simp(disch:=omega) only[dh,T.get_put,bV];rw[J n1 ω];rw[B n1 ω];exact k2;all_goals simp only[T.get_put,Nat.reduceEqDiff,reduceIte,x0,x3,x4,d4,d5,d6,x5,x6,d8,f0,b0]
    exact U0;exact bB _;intro I m9;exact U0;all_goals simp only[T.get_put,Nat.reduceEqDiff,reduceIte,w0,w3,w4,w5,w6,w8,l4,l5,l6,l8,m1,m4,yJ]
  ·rintro τ ⟨R,v2,aJ⟩ ⟨St2,b2,b7,h8,eG,c6,u0,u3,u4,g5,g6,g7,u5,u6,d2,b3,d3⟩;have j1:n1+1<=R:=h8;have cQ:∀j,j<n1 ->j≠s ->aJ.get j=aQ.get j:=eG;refine Y3 g7 b3 d3 ?_;refine ih _ _ ⟨St2,b2,b7,by show m<=R;omega,λj h1 h2=> ?_,?_,?_,?_,?_,?_,?_⟩;show aJ.get j=_;rw[cQ j ω h2];exact b8 j h1 h2;all_goals exact U5 u0 u3 u4 g5 g6
  exact W0 g2;exact bB _;intro j h1 h2;exact U0;exact U1 @aM.eq_1;all_goals exact U6 s0 s3 s4 i3 g3 g4
 rintro τ ⟨n1,v1,aQ⟩ ⟨St,so,g2,dS,dD,s0,s3,s4,i3,g3,g4⟩;refine Y2 g3 g4 ?_;refine hk St _ _ so g2 dS dD ?_ ?_ ?_<;>exact U3 s0 s3 s4;all_goals exact U3 t0 t3 t4
end
end AM
