import Derived.Test.YtihgjngjidijaaaGreatDoorN21
set_option linter.all false
set_option maxHeartbeats 4000000
namespace AM
open Dg Go
noncomputable section
variable {P:Program} {X:aR} {GL:T (List AV)} {ae:T au}
variable (S:aT P X GL ae) {C:aK Prop} (E:Sem P X GL ae C)
def aV2 (A:dY P X GL) (D:eV ae) (F:jr ae) {n nn x s nx b4 b14:Nat} {g:Nat ->Option bC} {St N} (so:pB n St) (hs:mG (g s)=mS St) (h4:cG (g b4)=some [.m s]) (hN:mG (g nx)=mN N) (no:EM n g x N) (h14:cG (g b14)=some [.m nx]) (lt:s<x/\ b4<x/\ nx<x/\ b14<x) (nl:n<=1000)
 {R q} {h:AH} (v:vg n nn x g R q h) {a:Nat} (ha:nn<=a) {d:Tr} (fd:cA 3 d=true) (k:AV ->AH ->Prop)
 (hk:∀R' q' h',vg n nn x g R' q' h' ->h.next<=h'.next ->2*(8*n-iX n R')+q'.length<=2*(8*n-iX n R)+q.length ->k (.tu []) h'):
 du C 154 [ι (a:Int),eT d,.p b14 0,.p (x+1) 0,.p b4 0,.p (x+3) 0] h k:=by
 obtain⟨m,ver,ob⟩:=h;obtain⟨lt1,lt2,lt3,lt4⟩:=lt;have vold:∀j,j<x ->ob.get j=g j:=v.old;have vnx:x+4<=m:=v.nx;have c14:cG (ob.get b14)=some [.m nx]:=by rw[vold _ lt4];exact h14
 have mN':mG (ob.get nx)=mN N:=by rw[vold _ lt3];exact hN
 have lk:∀bQ aA ob' (τ:T AV),mG (T.get ob' nx)=mN N ->az C τ (.t 12)= .m nx ->az C τ (.t 13)=ι (a:Int) ->
  step (az C τ) ⟨bQ,aA,ob'⟩ (.look (.lf .i) (.t 12) (.t 13) .sn false)= .v (oF nV .sn (look a N)) ⟨bQ,aA,ob'⟩:=
  λbQ aA ob' τ q1 q2 q3=>sd (k:=a) (z:= .sn) (en:=nV) lW (h:=⟨bQ,aA,ob'⟩) (fT.2 q1) q2 q3
 have low:∀j,j<x ->(ob.put m (.cells ver [cu (aE d).1,ι ((aE d).2:Int)])).get j=g j:=λj hj=>by exact W0 (vold j hj)
 obtain⟨L,w,hw,lw,hL⟩:∃(L:List Nat) (w:AV),oF nV .sn (look a N)=w/\ (∀h,kg h w= .v (ι (L.length:Int)) h)/\ ((∃o,w= .sl o 0 L.length none 1/\ cG (g o)=some (L.flatMap cI)/\ (∀b∈L,a<b/\ b<n)/\ o<x/\ L.length<=100000)∨L=[]):=by
  cases hl:look a N with
  |none=>exact⟨[],.sn,rfl,λh=>rfl,.inr rfl⟩
  |some e=>
   obtain⟨o,L⟩:=e;obtain⟨q1,q2,q3,q4,q5⟩:=no.f a o L hl;exact⟨L,nV (o,L),rfl,λh=>rfl,.inl ⟨o,rfl,q1,q3,q5,q4⟩⟩
 have sw:ew w=true:=by
  rw[←hw];cases look a N<;>rfl
 refine E.bS F.f154 (Z9 @PM.eq_1 @eT.eq_1 @eD.eq_1 lk hw sw lw c14 mN' ?_);refine fj E.ok L.length (λi τ h=>∃R' q',vg n nn x g R' q' h/\ m+1<=h.next/\ h.oB.get m=(ob.put m (.cells ver [cu (aE d).1,ι ((aE d).2:Int)])).get m/\ (∀o a l c,cG (h.oB.get (x+3))=some [.sl o a l c 1] ->o≠m)/\ 2*(8*n-iX n R')+q'.length<=2*(8*n-iX n R)+q.length/\ τ.get 0=some (ι (a:Int))/\ τ.get 3=some (.p (x+1) 0)/\ τ.get 4=some (.p b4 0)/\ τ.get 5=some (.p (x+3) 0)/\ τ.get 7=some (.p m 0)/\ τ.get 14=some w/\ τ.get 15=some (ι (L.length:Int))/\ τ.get 16=some (ι (i:Int))) ?_ ?_ _ _ ⟨R,q,v.mono (by show m<=m+1;omega) (λj hj=> ?_),bB _,rfl,?_,bB _,?_,?_,?_,?_,?_,?_,?_,?_⟩
 ·rintro i τ ⟨n1,v1,aQ⟩ hi ⟨R',q',va,dS,om,qm,mes,t0,t3,t4,t5,t7,t14,t15,t16⟩ ih;have hn1':m+1<=n1:=dS;rcases hL with ⟨o,rfl,cL,bL,oL,lL⟩|hL0;rotate_left
  ·subst hL0;simp at hi
  have hLi:L[i]? =some L[i]:=cE hi;generalize hb:L[i]=b at hLi;obtain⟨lb1,lb2⟩:=bL b (dI hLi);have vold1:∀j,j<x ->aQ.get j=g j:=va.old;have cLo:cG (aQ.get o)=some (L.flatMap cI):=by rw[vold1 o oL];exact cL
  have e1:sub (L.flatMap cI) i 1=some [ι (b:Int)]:=by
   have:=cW (enc:=cI) (k:=1) (λa=>rfl) hLi (j:=0) (n:=1) ω;rw[vH,vG] at this;exact this
  have cx1:cG (aQ.get (x+1))=some [.m x]:=va.c1;refine jC t0 t3 t4 t5 t7 t14 t15 t16 cLo e1 cx1 ?_;refine E.run (EI (l:=R') S E D F va.r _ ?_ (by show x<n1;omega));rintro⟨n2,v2,aJ⟩ hn2 eG;have hn2':n1<=n2:=hn2;have cQ:∀j,j<n1 ->aJ.get j=aQ.get j:=eG;have va2:=va.mono hn2 eG;have fR:=va.ok.at_f b;generalize hr:fF R' b=r at fR;have fs:=so.at_f (a,b);generalize hst:pC St (a,b)=st at fs;simp only[eT,eD];have mS2:mG (aJ.get s)=mS St:=by rw[cQ s ω,vold1 s lt1];exact hs
  have c4:cG (aJ.get b4)=some [.m s]:=by rw[cQ b4 ω,vold1 b4 lt2];exact h4
  have c7:cG (aJ.get m)=some [cu (aE d).1,ι ((aE d).2:Int)]:=by rw[cQ m ω];rw[show aQ.get m=_ from om];exact U0
  have hU:∀bQ aA ob' (τ:T AV),mG (T.get ob' s)=mS St ->az C τ (.t 25)= .m s ->az C τ (.t 28)=eK (a,b) ->
   step (az C τ) ⟨bQ,aA,ob'⟩ (.look (.ag [(0,1,false,.lf .i),(1,1,false,.lf .i)]) (.t 25) (.t 28) (.ag [.sn,ι 0]) false)= .v (.ag [cu (aE st).1,ι ((aE st).2:Int)]) ⟨bQ,aA,ob'⟩:=
   λbQ aA ob' τ q1 q2 q3=>by
    refine(sd (k:=(a,b)) (z:= .ag [.sn,ι 0]) (en:=eT) Kl (h:=⟨bQ,aA,ob'⟩) (fT.2 q1) q2 q3).trans ?_;rw[aU9,hst]
  simp only[eK] at hU;have fm:cA 3 (cY (λx y=>x&&y) d st)=true:=jd fd fs;have fo:cA 3 (cY (λx y=>x||y) r (cY (λx y=>x&&y) d st))=true:=jd fR fm;have ca:=λh=>D7 S D (A _ fd) (A _ fs) h;have co:=λh=>IG S D (A _ fR) (A _ fm) h;have cs:=λh=>RC S D (A _ fR) (A _ fo) h;have cm:=λt h=>Bx S F t h;have oy:=ED (k:=3) fR fm;generalize hmt:cY (λx y=>x&&y) d st=mt at*;generalize hnw:cY (λx y=>x||y) r mt=nw at*;simp only[eT,eD] at ca co cs cm;refine lX t0 t3 t4 t5 t7 t14 t15 t16 c4 c7 hU mS2 ?_;refine E.cN (ca _) (lX t0 t3 t4 t5 t7 t14 t15 t16 c4 c7 hU mS2 ?_);refine E.cN (cm _ _) (lX t0 t3 t4 t5 t7 t14 t15 t16 c4 c7 hU mS2 ?_);refine E.cN (co _) (lX t0 t3 t4 t5 t7 t14 t15 t16 c4 c7 hU mS2 ?_);refine E.cN (cm _ _) (lX t0 t3 t4 t5 t7 t14 t15 t16 c4 c7 hU mS2 ?_);refine E.cN (cs _) ?_;by_cases he:r=nw
  ·have hd:decide (r=nw)=true:=zG he;rw[hd];refine Y9 t0 t3 t4 t5 t7 t14 t15 t16 @bK ?_;refine ih _ _ ⟨R',q',va2.mono (by show n2<=n2+1+1;omega) (λj hj=> ?_),by show m+1<=n2+1+1;omega,?_,?_,mes,?_,?_,?_,?_,?_,?_,?_,?_⟩
   ·have bF:j<n2:=hj;exact U0
   ·simp(disch:=omega) only[dh,T.get_put,bV];rw[cQ m ω,show aQ.get m=_ from om];exact U0
   ·simp(disch:=omega) only[dh,T.get_put,bV];rw[cQ (x+3) ω];exact qm
   all_goals exact U7 t0 t3 t4 t5 t7 t14 t15
  ·have hd:decide (r=nw)=false:=ot he;rw[hd];have d1:cG (aJ.get (x+1))=some [.m x]:=va2.c1;have dx:mG (aJ.get x)=mT R':=va2.r;obtain⟨vq,d3,qa⟩:=va2.c3;obtain⟨oq,aq,cq,Lq,rfl,q1,q2,q3,q4,q5,q6⟩:=qa.e;have q6':oq<n2:=q6;dsimp only at d3 q1;have mu:∀bQ aA ob' (τ:T AV),mG (T.get ob' x)=mT R' ->az C τ (.t 42)= .m x ->az C τ (.t 43)=ι (b:Int) ->az C τ (.t 44)= .ag [cu (aE nw).1,ι ((aE nw).2:Int)] ->
    step (az C τ) ⟨bQ,aA,ob'⟩ (.mupd (.lf .i) (.t 42) (.t 43) (.t 44))= .v .un ⟨bQ,aA+1,ob'.put x (.map (aA+1) (di (λn:Nat=>AV.i .i64 (n:Int)) eT 0 (ups b nw R')) (ups b nw R').length)⟩:=
    λbQ aA ob' τ q1 q2 q3 q4=>mL (k:=b) (v:=nw) (en:=eT) lW (h:=⟨bQ,aA,ob'⟩) (fT.2 q1) q2 q3 q4
   have lq:q'.length<=iX n R':=va.ql;have sle:=EL va.ok;have cnt':=oy.2 (λh=>he h.symm);have su:=Th (l:=R') (x:=nw) lb2;rw[hr] at su;have nb:Not (b<=nn):=by omega
   have okN:=va.ok.ups lb2 fo (λh=>bh (qM h) nb);have fin:∀(τ':T AV) (n3 v3:Nat) (cC:T bC),n2<=n3 ->(∀j,j<n2 ->j≠x ->j≠x+3 ->j≠oq ->cC.get j=aJ.get j) ->mG (cC.get x)=mT (ups b nw R') ->cG (cC.get (x+3))=some [.sl (n3-1) 0 (q'.length+1) none 1] ->cG (cC.get (n3-1))=some (q'.flatMap cI++[ι (b:Int)]) ->n2+1<=n3 ->
    τ'.get 0=some (ι (a:Int)) ->τ'.get 3=some (.p (x+1) 0) ->τ'.get 4=some (.p b4 0) ->τ'.get 5=some (.p (x+3) 0) ->τ'.get 7=some (.p m 0) ->τ'.get 14=some (.sl o 0 L.length none 1) ->τ'.get 15=some (ι (L.length:Int)) ->τ'.get 16=some (ι ((i+1:Nat):Int)) ->df C PL.loop [Fr.b 0] (KF k []) τ' ⟨n3,v3,cC⟩:=by
    intro τ' n3 v3 cC a1 a2 a3 a4 a5 a6 s0 s3 s4 s5 s7 s14 s15 s16;have hox:oq≠m:=qm oq aq q'.length cq (by show cG (aQ.get (x+3))=_;rw[←cQ (x+3) ω];exact d3);refine ih _ _ ⟨ups b nw R',q'++[b],⟨a3,okN,?_,⟨_,a4,⟨⟨n3-1,0,none,q'.flatMap cI++[ι (b:Int)],?_,a5,?_,.inl rfl,by omega,by omega,by show n3-1<n3;omega⟩⟩⟩,?_,?_,by show x+4<=n3;omega,?_⟩,by show m+1<=n3;omega,?_,?_,?_,s0,s3,s4,s5,s7,s14,s15,s16⟩
    ·show cG (cC.get (x+1))=_;rw[a2 (x+1) ω ω ω ω];exact d1
    ·rw[dy];rfl
    ·rw[jl];refine mM ?_;rw[dy,kh (k:=1) (λa=>rfl),dy];simp
    ·intro z hz;rcases fO.1 hz with h|h
     ·exact va.lq z h
     ·rw[fk.1 h];exact⟨by omega,lb2⟩
    ·rw[dy];simp only[gJ,ji];omega
    ·intro j hj;show cC.get j=_;rw[a2 j ω ω ω ω,cQ j ω];exact vold1 j hj
    ·show cC.get m=_;rw[a2 m ω ω ω (λh=>hox h.symm),cQ m ω];exact om
    ·intro o' a' l' c' hc;rw[show cG (cC.get (x+3))=_ from a4] at hc;cases hc;omega
    ·rw[dy];simp only[gJ,ji];have:=EL okN;omega
   rcases q3 with rfl|⟨rfl,rfl,rfl,rfl⟩
   ·have apq:∀bQ aA ob' o2,cG (T.get ob' oq)=some Lq ->cG (T.get ob' o2)=some [ι (b:Int)] ->gU ⟨bQ,aA,ob'⟩ 1 (.sl oq aq q'.length none 1) (.sl o2 0 1 (some 1) 1)= .v (.sl bQ 0 (q'.length+1) none 1) ⟨bQ+1,aA+1,(ob'.put oq .gone).put bQ (.cells (aA+1) (q'.flatMap cI++[ι (b:Int)]))⟩:=
     λbQ aA ob' o2 e1 e2=>aV0 (h:=⟨bQ,aA,ob'⟩) e1 q2 e2 rfl rfl ω
    simp(disch:=first|omega|(exact U2 dx q1)) only[tM,apq,t3,t5,t16,d1,d3,mu,bK,↓sA E.ok,↓reduceIte,go_sem];refine fin _ _ _ _ ω (λj h1 h2 h3 h4=>by exact U0) ?_ ?_ ?_ ω ?_ ?_ ?_ ?_ ?_ ?_ ?_ ?_
    ·exact U0
    ·exact U0
    ·rw[Nat.add_sub_cancel];exact U0
    all_goals exact U7 t0 t3 t4 t5 t7 t14 t15
   ·refine uX @iB q1 t0 t3 t4 t5 t7 t14 t15 t16 d1 d3 dx mu @bK ?_;refine fin _ _ _ _ ω (λj h1 h2 h3 h4=>by exact U0) ?_ ?_ ?_ ω ?_ ?_ ?_ ?_ ?_ ?_ ?_ ?_
    ·exact U0
    ·exact U0
    ·rw[Nat.add_sub_cancel];exact U0
    all_goals exact U7 t0 t3 t4 t5 t7 t14 t15
 ·rintro τ ⟨n1,v1,aQ⟩ ⟨R',q',va,dS,om,qm,mes,t0,t3,t4,t5,t7,t14,t15,t16⟩;have hn1':m+1<=n1:=dS;refine Y9 t0 t3 t4 t5 t7 t14 t15 t16 @xb ?_;exact hk R' q' _ va (by show m<=n1;omega) mes
 ·have bF:j<m:=hj;exact U0
 ·intro o a l c hc;obtain⟨vq,d3,qa⟩:=v.c3;obtain⟨oq,aq,cq,Lq,rfl,q1,q2,q3,q4,q5,q6⟩:=qa.e;have q6':oq<m:=q6;simp(disch:=omega) only[dh,T.get_put,bV] at hc;rw[show cG (ob.get (x+3))=_ from d3] at hc;cases hc;omega
 all_goals exact U0
def aV3 {C:aK Prop} (E:Sem P X GL ae C) {p:Pr} {i b6:Nat} (hi:i<p.right.length) (hr:p.right.length<=1000) {h:AH} {τ:T AV} (t6:τ.get 6=some (.p b6 0)) (t7:τ.get 7=some (ι (i:Int))) (c6:cG (h.oB.get b6)=some (aM p)) (l6:b6<h.next) {Y:aw} {S:List Fr} {K:K Prop}
 (hk:∀o c τ' h',o<h'.next ->h.next<=o ->h.next<=h'.next ->(∀j,j<h.next ->h'.oB.get j=h.oB.get j) ->cG (h'.oB.get o)=some ((sJ p.right i).flatMap ba) ->τ'.get 9=some (.sl o 0 (sJ p.right i).length c 2) ->(∀j,j<46 ->j≠9 ->τ'.get j=τ.get j) ->df C Y S K τ' h'):
 df C HP (.s Y::S) K τ h:=by
 unfold HP;obtain⟨m,ver,ob⟩:=h;have er:eR ba 2 p.rn p.right= .ds (p.right.flatMap ba) 0 p.right.length 2:=by
  cases hp:p.right with
  |nil=>rw[hp] at hi;simp at hi
  |cons a r=>rfl
 dsimp only at c6;simp only[aM,er] at c6;generalize p.right=r at*;have l6':b6<m:=l6;have ol:(sJ r i).length=r.length-1:=by unfold sJ;rw[dy,jm,sW];omega
 have nk:∀a b,nice 64 (.ds (r.flatMap ba) a b 2)=true:=λa b=>by rw[nN,fE jE]
 have p1:sub (r.flatMap ba) 0 (i*2)=some ((r.take i).flatMap ba):=by
  have:=JY gO (L:=r) (i:=0) (n:=i) ω;simpa using this
 have p2:sub (r.flatMap ba) ((i+1)*2) ((r.length-(i+1))*2)=some ((r.drop (i+1)).flatMap ba):=by
  have:=JY gO (L:=r) (i:=i+1) (n:=r.length-(i+1)) ω
  rwa [vM (by rw[sW];omega)] at this
 have z1:sub (r.flatMap ba) 0 0=some []:=by
  have:=JY gO (L:=r) (i:=0) (n:=0) ω;simpa using this
 have s1:cF ((r.take i).flatMap ba)=true:=w7 S8 _;have s2:cF ((r.drop (i+1)).flatMap ba)=true:=w7 S8 _;have hs:∀(τ:T AV) h,az C τ (.t 48)= .ds (r.flatMap ba) 0 r.length 2 ->az C τ (.t 49)=ι (i:Int) ->step (az C τ) h (.slc 2 (.t 48) none (some (.t 49)) none)= .v (.ds (r.flatMap ba) 0 i 2) h:=
  λτ h h1 h2=>JV h1 (by rw[h2];exact tC) ω
 have hs2:∀(τ:T AV) h,az C τ (.t 53)= .ds (r.flatMap ba) 0 r.length 2 ->az C τ (.t 55)=ι ((i+1:Nat):Int) ->step (az C τ) h (.slc 2 (.t 53) (some (.t 55)) none none)= .v (.ds (r.flatMap ba) (0+(i+1)*2) (r.length-(i+1)) 2) h:=
  λτ h h1 h2=>SU h1 (by rw[h2];exact tC) ω
 have ha:sJ r i=r.take i++r.drop (i+1):=rfl;have tz:r.length-(i+1)=(r.drop (i+1)).length:=by rw[sW]
 have fin:∀o c (τ':T AV) (h':AH),o<h'.next ->m<=o ->(∀j,j<m ->h'.oB.get j=ob.get j) ->cG (h'.oB.get o)=some ((sJ r i).flatMap ba) ->∀n,n=(sJ r i).length ->τ'.get 9=some (.sl o 0 n c 2) ->(∀j,j<46 ->j≠9 ->τ'.get j=τ.get j) ->df C Y S K τ' h':=by
  intro o c τ' h' h1 h2 h3 h4 n hn h5 h6;exact hk o c τ' h' h1 h2 (by show m<=h'.next;omega) h3 h4 (by rw[h5,hn]) h6
 have gt:∀j,j<46 ->j≠9 ->j≠46/\ j≠47/\ j≠48/\ j≠49/\ j≠50/\ j≠51/\ j≠52/\ j≠53/\ j≠54/\ j≠55/\ j≠56/\ j≠57:=λj h1 h2=>by omega
 by_cases i0:i=0
 ·have A1:∀h',gU h' 2 (.sl m 0 0 (some 0) 2) (.ds (r.flatMap ba) 0 i 2)= .v (.sl m 0 0 (some 0) 2) h':=λh'=>by rw[i0];exact JX z1
  have tk:r.take i=[]:=by rw[i0];rfl
  by_cases i1:r.length-(i+1)=0
  ·have A2:∀h',gU h' 2 (.sl m 0 0 (some 0) 2) (.ds (r.flatMap ba) ((i+1)*2) (r.length-(i+1)) 2)= .v (.sl m 0 0 (some 0) 2) h':=λh'=>by
    rw[i1];refine JX ?_;rw[i1,pM (show(r.drop (i+1)).length=0 by rw[←tz];exact i1)] at p2;exact p2
   refine qX t6 t7 c6 @tM hs hs2 A1 A2 nk @bK ?_;refine fin m (some 0) _ _ (by show m<m+1;omega) (bB _) (λj hj=>U0) ?_ 0 ?_ U0 (λj h1 h2=>U0)
   ·exact U3 ha tk (pM (show(r.drop (i+1)).length=0 by rw[←tz];exact i1))
   ·rw[ol];omega
  ·obtain⟨n',hn'⟩:∃n',r.length-(i+1)=n'+1:=⟨r.length-(i+1)-1,by omega⟩;rw[hn'] at p2;have A2:∀v t,cG (T.get t m)=some [] ->gU ⟨m+1,v,t⟩ 2 (.sl m 0 0 (some 0) 2) (.ds (r.flatMap ba) ((i+1)*2) (r.length-(i+1)) 2)= .v (.sl (m+1) 0 (n'+1) none 2) ⟨m+1+1,v,t.put (m+1) (.cells v ((r.drop (i+1)).flatMap ba))⟩:=λv t hc=>by rw[hn'];exact Bv p2 s2 hc ω
   refine qX t6 t7 c6 @tM hs hs2 A1 A2 nk @bK ?_;refine fin (m+1) none _ _ (by show m+1<m+1+1;omega) ω (λj hj=>U0) ?_ (n'+1) ?_ U0 (λj h1 h2=>U0)
   ·simp only[T.get_put,dZ,d9,ha,tk,gx]
   ·rw[ol];omega
 ·obtain⟨i',hi'⟩:∃i',i=i'+1:=⟨i-1,by omega⟩;have A1:∀v t,cG (T.get t m)=some [] ->gU ⟨m+1,v,t⟩ 2 (.sl m 0 0 (some 0) 2) (.ds (r.flatMap ba) 0 i 2)= .v (.sl (m+1) 0 i none 2) ⟨m+1+1,v,t.put (m+1) (.cells v ((r.take i).flatMap ba))⟩:=λv t hc=>by
   have p1':=p1;have s1':=s1;rw[hi'] at p1' s1' ⊢;exact Bv p1' s1' hc ω
  by_cases i1:r.length-(i+1)=0
  ·have A2:∀h',gU h' 2 (.sl (m+1) 0 i none 2) (.ds (r.flatMap ba) ((i+1)*2) (r.length-(i+1)) 2)= .v (.sl (m+1) 0 i none 2) h':=λh'=>by
    rw[i1];refine JX ?_;rw[i1,pM (show(r.drop (i+1)).length=0 by rw[←tz];exact i1)] at p2;exact p2
   refine qX t6 t7 c6 @tM hs hs2 A1 A2 nk @bK ?_;refine fin (m+1) none _ _ (by show m+1<m+1+1;omega) ω (λj hj=>U0) ?_ i ?_ U0 (λj h1 h2=>U0)
   ·simp only[T.get_put,dZ,d9,ha,pM (show(r.drop (i+1)).length=0 by rw[←tz];exact i1),lG]
   ·rw[ol];omega
  ·obtain⟨n',hn'⟩:∃n',r.length-(i+1)=n'+1:=⟨r.length-(i+1)-1,by omega⟩;rw[hn'] at p2;have A2:∀v t,cG (T.get t (m+1))=some ((r.take i).flatMap ba) ->gU ⟨m+1+1,v,t⟩ 2 (.sl (m+1) 0 i none 2) (.ds (r.flatMap ba) ((i+1)*2) (r.length-(i+1)) 2)= .v (.sl (m+1+1) 0 (i+(n'+1)) none 2) ⟨m+1+1+1,v+1,(t.put (m+1) .gone).put (m+1+1) (.cells (v+1) ((r.take i).flatMap ba++(r.drop (i+1)).flatMap ba))⟩:=λv t hc=>by
    rw[hn'];exact aP3 p2 s2 hc (by rw[kh gO,jm,kF ω]) ω
   refine qX t6 t7 c6 @tM hs hs2 A1 A2 nk @bK ?_;refine fin (m+1+1) none _ _ (by show m+1+1<m+1+1+1;omega) ω (λj hj=>U0) ?_ (i+(n'+1)) ?_ U0 (λj h1 h2=>U0)
   ·simp only[T.get_put,dZ,d9,ha,jl]
   ·rw[ol];omega
def Ti {κ ν:Type} [DecidableEq κ] {k:κ} {v:ν}:∀{l:List (κ×ν)},(ups k v l).map (·.1)=if k∈l.map (·.1) then l.map (·.1) else l.map (·.1)++[k]
 |[]=>by simp[ups]
 |(a,b)::l=>by
  by_cases e:k=a
  ·subst e;simp[ups]
  ·have ih:=Ti (k:=k) (v:=v) (l:=l);have:ups k v ((a,b)::l)=(a,b)::ups k v l:=by simp[ups,e]
   rw[this,jY,ih];by_cases h:k∈l.map (·.1)
   ·rw[aF h,aF (by simp only[jY,ed];exact .inr h)];rfl
   ·rw[aD h,aD (by simp only[jY,ed];exact λc=>c.elim e h)];rfl
def aV4 {κ ν:Type} [DecidableEq κ] {k:κ} {v:ν} {l:List (κ×ν)} (h:(l.map (·.1)).Nodup):((ups k v l).map (·.1)).Nodup:=by
 rw[Ti];split
 ·exact h
 ·rename_i hk;refine zE.2 ⟨h,by simp,λa ha b hb e=> ?_⟩;rw[fk.1 hb] at e;exact hk (e▸ha)
def pB.ups {n:Nat} {l:List ((Nat×Nat)×Tr)} (m:pB n l) {p:Nat×Nat} {x:Tr} (fx:cA 3 x=true) (h1:p.1<p.2) (h2:p.2<n):pB n (ups p x l) where
 f:=λq t h=>by
  rw[qi] at h;split at h
  ·rename_i e;cases h;subst e;exact⟨fx,h1,h2⟩
  ·exact m.f q t h
 nd:=aV4 m.nd
def aV5 (A:dY P X GL) (D:eV ae) (F:jr ae) {g:Gr} (G:ce g) {Z:Nat ->Bool} (Y:iQ g Z) {oa op o s:Nat} {l:List (Nat×Tr)} {h:AH} {τ:T AV} (an:By h oa op g) (hm:mG (h.oB.get o)=mT l) (ok:nZ g.nT.length Z l)
 (ms:mG (h.oB.get s)=mS []) (c4:cG (h.oB.get (s+1))=some [.m s]) (low:oa<s/\ op<s/\ o<s/\ s+2<=h.next) (t0:τ.get 0=some (.p oa 0)) (t3:τ.get 3=some (.m o)) (t4:τ.get 4=some (.p (s+1) 0)) {W:aw} {Fs:List Fr} {K:K Prop}
 (hk:∀St τ' h',pB g.nT.length St ->mG (h'.oB.get s)=mS St ->h.next<=h'.next ->(∀j,j<h.next ->j≠s ->h'.oB.get j=h.oB.get j) ->τ'.get 0=some (.p oa 0) ->τ'.get 3=some (.m o) ->τ'.get 4=some (.p (s+1) 0) ->df C W Fs K τ' h'):
 df C (.seq Pz (.block 0 (.loop PA))) (.s W::Fs) K τ h:=by
 obtain⟨m,ver,ob⟩:=h;obtain⟨low1,low2,low3,low4⟩:=low;have low4':s+2<=m:=low4;have pl:=G.pl;have ntl:=G.ntl;obtain⟨an1,an2⟩:=an;dsimp only at an1 an2 hm ms c4;have an1':=an1;simp only[ar,gw,gx] at an1;refine Y4 an1 t0 t3 t4 ?_;refine fj E.ok g.pR.length (λi τ h=>∃St,pB g.nT.length St/\ mG (h.oB.get s)=mS St/\ m<=h.next/\ (∀j,j<m ->j≠s ->h.oB.get j=ob.get j)/\ τ.get 0=some (.p oa 0)/\ τ.get 3=some (.m o)/\ τ.get 4=some (.p (s+1) 0)/\ τ.get 29=some (eR aM 13 true g.pR)/\ τ.get 30=some (ι (g.pR.length:Int))/\ τ.get 31=some (ι (i:Int))) ?_ ?_ _ _ ⟨[],⟨λp t h=>by simp[look] at h,by simp⟩,ms,bB _,λj _ _=>rfl,?_,?_,?_,?_,?_,?_⟩
 ·rintro i τ ⟨n1,v1,aQ⟩ hi ⟨St,so,ms1,dS,dD,s0,s3,s4,s29,s30,s31⟩ ih;have hn1':m<=n1:=dS;have old1':∀j,j<m ->j≠s ->aQ.get j=ob.get j:=dD;dsimp only at ms1;have hpi:g.pR[i]? =some g.pR[i]:=cE hi;generalize hp:g.pR[i]=p at hpi;have hpm:=dI hpi;have pk:=G.p p hpm;have rl:=pk.len;have okl:=pk.left;have e13:sub (g.pR.flatMap aM) (i*13) 13=some (aM p):=cW kr hpi (j:=0) (n:=13) ω;simp only[aM] at e13;have fp:=S7 G hpm;refine Y8 s0 s3 s4 s29 s30 s31 @bG e13 ?_;refine fj E.ok p.right.length (λj τ h=>∃St,pB g.nT.length St/\ mG (h.oB.get s)=mS St/\ n1+1<=h.next/\ (∀j,j<n1 ->j≠s ->h.oB.get j=aQ.get j)/\ cG (h.oB.get n1)=some (aM p)/\ τ.get 0=some (.p oa 0)/\ τ.get 3=some (.m o)/\ τ.get 4=some (.p (s+1) 0)/\ τ.get 29=some (eR aM 13 true g.pR)/\ τ.get 30=some (ι (g.pR.length:Int))/\ τ.get 31=some (ι (i:Int))/\ τ.get 5=some (ι (i:Int))/\ τ.get 6=some (.p n1 0)/\ τ.get 37=some (eR ba 2 p.rn p.right)/\ τ.get 38=some (ι (p.right.length:Int))/\ τ.get 39=some (ι (j:Int))) ?_ ?_ _ _ ⟨St,so,?_,?_,?_,?_,?_,?_,?_,?_,?_,?_,?_,?_,?_,?_,?_⟩
  ·rintro j τ ⟨n2,v2,aJ⟩ hj ⟨St2,so2,ms2,hn2,eG,c6,u0,u3,u4,u29,u30,u31,u5,u6,u37,u38,u39⟩ ih2;have hn2':n1+1<=n2:=hn2;have cQ:∀j,j<n1 ->j≠s ->aJ.get j=aQ.get j:=eG;dsimp only at ms2 c6;have hrj:p.right[j]? =some p.right[j]:=cE hj;generalize hy:p.right[j]=y at hrj;have e2:sub (p.right.flatMap ba) (j*2) 2=some [.b y.1,ι (y.2:Int)]:=cW gO hrj (j:=0) (n:=2) ω;have c6':=c6;simp only[aM] at c6;cases h1:y.1 with
   |true=>
    rw[h1] at e2;refine sB u0 u3 u4 u29 u30 u31 u5 u6 u37 u38 u39 @bG e2 c6 @bK ?_;refine ih2 _ _ ⟨St2,so2,?_,by show n1+1<=n2+1;omega,λj' h1 h2=> ?_,?_,?_,?_,?_,?_,?_,?_,?_,?_,?_,?_,?_⟩
    ·exact W0 ms2
    ·exact W0 (cQ j' h1 h2)
    ·exact W0 c6'
    all_goals exact Bo u0 u3 u4 u29 u30 u31 u5 u6 u37 u38
   |false=>
    rw[h1] at e2;refine sB u0 u3 u4 u29 u30 u31 u5 u6 u37 u38 u39 @bG e2 c6 @bK ?_;refine aV3 E (p:=p) (b6:=n1) (i:=j) hj ω ?_ ?_ ?_ ?_ ?_
    ·exact U1 u6
    ·exact U0
    ·exact W0 c6'
    ·show n1<n2+1;omega
    rintro oo co τ2 ⟨n3,v3,cC⟩ ho1 ho2 hn3 old3 hco w9 wo;have hn3':n2+1<=n3:=hn3;have ho1':oo<n3:=ho1;have ho2':n2+1<=oo:=ho2;have iN:∀j,j<n2+1 ->cC.get j=_:=old3;have low3':∀j,j<n2 ->cC.get j=aJ.get j:=λj hj=>by rw[iN j ω];exact U0
    have w0:τ2.get 0=some (.p oa 0):=by rw[wo 0 ω ω];exact U1 u0
    have w3:τ2.get 3=some (.m o):=by rw[wo 3 ω ω];exact U1 u3
    have w4:τ2.get 4=some (.p (s+1) 0):=by rw[wo 4 ω ω];exact U1 u4
    have w5:τ2.get 5=some (ι (i:Int)):=by rw[wo 5 ω ω];exact U1 u5
    have w6:τ2.get 6=some (.p n1 0):=by rw[wo 6 ω ω];exact U1 u6
    have w8:τ2.get 8=some (.p n2 0):=by rw[wo 8 ω ω];exact U0
    have w29:τ2.get 29=some (eR aM 13 true g.pR):=by rw[wo 29 ω ω];exact U1 u29
    have w30:τ2.get 30=some (ι (g.pR.length:Int)):=by rw[wo 30 ω ω];exact U1 u30
    have w31:τ2.get 31=some (ι (i:Int)):=by rw[wo 31 ω ω];exact U1 u31
    have w37:τ2.get 37=some (eR ba 2 p.rn p.right):=by rw[wo 37 ω ω];exact U1 u37
    have w38:τ2.get 38=some (ι (p.right.length:Int)):=by rw[wo 38 ω ω];exact U1 u38
    have w39:τ2.get 39=some (ι (j:Int)):=by rw[wo 39 ω ω];exact U1 u39
    clear wo;have r8:cG (cC.get n2)=some [.b y.1,ι (y.2:Int)]:=by rw[iN n2 ω];exact U1 h1
    have rm:∀j,j<m ->j≠s ->cC.get j=ob.get j:=λj h1 h2=>by rw[low3' j ω,cQ j ω h2,old1' j h1 h2]
    have ra:cG (cC.get oa)=some (ar g++[.sl op 0 g.pR.length none 2]):=by rw[rm oa ω ω];exact an1'
    have rp:cG (cC.get op)=some ((g.pR.map (jh g)).flatMap cT):=by rw[rm op ω ω];exact an2
    have ro:mG (cC.get o)=mT l:=by rw[rm o ω ω];exact hm
    have r4:cG (cC.get (s+1))=some [.m s]:=by rw[rm (s+1) ω ω];exact c4
    have rs:mG (cC.get s)=mS St2:=by rw[low3' s ω];exact ms2
    have r6:cG (cC.get n1)=some (aM p):=by rw[low3' n1 ω];exact c6'
    dsimp only at hco;generalize hol:sJ p.right j=ol at*;have oll:ol.length<=16:=by rw[←hol];unfold sJ;rw[dy,jm,sW];omega
    simp only[ar,gw,gx] at ra;have epi:sub ((g.pR.map (jh g)).flatMap cT) (i*2) 2=some (cT (jh g p)):=cW J9 (L:=g.pR.map (jh g)) (i:=i) (a:=jh g p) (by rw[oh,hpi];rfl) (j:=0) (n:=2) ω;simp only[cT] at epi;refine pq ra rp epi w0 w3 w4 w5 w6 w8 w9 w29 w30 w31 w37 w38 w39 ?_;refine E.run (Tf (n:=g.nT.length) (Z:=Z) (l:=l) (d:=jh g p) (r:=ol) S E A D F ok ro (by show o<n3;omega) fp (.inr ⟨oo,co,rfl,hco,ho1⟩) ω _ ?_);rintro⟨n4,v4,ob4⟩ hn4 old4;have hn4':n3<=n4:=hn4;have old4':∀j,j<n3 ->ob4.get j=cC.get j:=old4;have fw:=EJ ok ol _ fp;simp only[eT,eD];refine pm w0 w3 w4 w5 w6 w8 w9 w29 w30 w31 w37 w38 w39 ?_;have rr8:cG (ob4.get n2)=some [.b y.1,ι (y.2:Int)]:=by rw[old4' n2 ω];exact r8
    have rr4:cG (ob4.get (s+1))=some [.m s]:=by rw[old4' (s+1) ω];exact r4
    have rrs:mG (ob4.get s)=mS St2:=by rw[old4' s ω];exact rs
    have rr6:cG (ob4.get n1)=some (aM p):=by rw[old4' n1 ω];exact r6
    have rrc:cG (ob4.get oo)=some (ol.flatMap ba):=by rw[old4' oo ω];exact hco
    have cc:=λh=>IW S D false h;have e0:eT (eu false 3)= .ag [.sn,ι 0]:=rfl;rw[e0] at cc;generalize hd1:pA l (jh g p) ol=d1 at*;refine fj E.ok ol.length (λjj τ h=>∃w,cA 3 w=true/\ (w=gq∨(w=d1/\∀z∈ol.take jj,z.1=false))/\ cG (h.oB.get n4)=some (cT w)/\ n4+1<=h.next/\ (∀j,j<n4 ->h.oB.get j=ob4.get j)/\ τ.get 0=some (.p oa 0)/\ τ.get 3=some (.m o)/\ τ.get 4=some (.p (s+1) 0)/\ τ.get 29=some (eR aM 13 true g.pR)/\ τ.get 30=some (ι (g.pR.length:Int))/\ τ.get 31=some (ι (i:Int))/\ τ.get 5=some (ι (i:Int))/\ τ.get 6=some (.p n1 0)/\ τ.get 8=some (.p n2 0)/\ τ.get 10=some (.p n4 0)/\ τ.get 37=some (eR ba 2 p.rn p.right)/\ τ.get 38=some (ι (p.right.length:Int))/\ τ.get 39=some (ι (j:Int))/\ τ.get 68=some (.sl oo 0 ol.length co 2)/\ τ.get 69=some (ι (ol.length:Int))/\ τ.get 70=some (ι (jj:Int))) ?_ ?_ _ _ ⟨d1,fw,.inr ⟨rfl,λz hz=>by simp at hz⟩,?_,?_,?_,?_,?_,?_,?_,?_,?_,?_,?_,?_,?_,?_,?_,?_,?_,?_,?_⟩
    ·rintro jj τ ⟨n5,v5,ob5⟩ hjj ⟨w,fw,hw,cw,hn5,old5,x0,x3,x4,x29,x30,x31,x5,x6,x8,x10,x37,x38,x39,x68,x69,x70⟩ ih3;have hn5':n4+1<=n5:=hn5;have old5':∀j,j<n4 ->ob5.get j=ob4.get j:=old5;dsimp only at cw;have hoj:ol[jj]? =some ol[jj]:=cE hjj;generalize hu:ol[jj]=u at hoj;have e2:sub (ol.flatMap ba) (jj*2) 2=some [.b u.1,ι (u.2:Int)]:=cW gO hoj (j:=0) (n:=2) ω;have rrc5:cG (ob5.get oo)=some (ol.flatMap ba):=by rw[old5' oo ω];exact rrc
     have tk:=nY hoj;cases h2:u.1 with
     |true=>
      rw[h2] at e2;refine qq x0 x3 x4 x29 x30 x31 x5 x6 x8 x10 x37 x38 x39 x68 x69 x70 rrc5 e2 @bK ?_;refine E.cN (cc _) (Bm x0 x3 x4 x29 x30 x31 x5 x6 x8 x10 x37 x38 x39 x68 x69 x70 rrc5 e2 cw @cT.eq_1 @bK ?_);refine ih3 _ _ ⟨gq,EC,.inl rfl,?_,by show n4+1<=n5+1;omega,λj' bF=> ?_,?_,?_,?_,?_,?_,?_,?_,?_,?_,?_,?_,?_,?_,?_,?_,?_⟩
      ·exact U0
      ·exact W0 (old5' j' bF)
      all_goals simp only[T.get_put,Nat.reduceEqDiff,reduceIte,x0,x3,x4,x29,x30,x31,x5,x6,x8,x10,x37,x38,x39,x68,x69]
     |false=>
      rw[h2] at e2;refine qq x0 x3 x4 x29 x30 x31 x5 x6 x8 x10 x37 x38 x39 x68 x69 x70 rrc5 e2 @bK ?_;refine ih3 _ _ ⟨w,fw,hw.imp id (λh=>⟨h.1,λz hz=> ?_⟩),?_,by show n4+1<=n5+1;omega,λj' bF=> ?_,?_,?_,?_,?_,?_,?_,?_,?_,?_,?_,?_,?_,?_,?_,?_,?_⟩
      ·rw[tk] at hz;rcases fO.1 hz with h'|h'
       ·exact h.2 z h'
       ·rw[fk.1 h'];exact h2
      ·exact W0 cw
      ·exact W0 (old5' j' bF)
      all_goals simp only[T.get_put,Nat.reduceEqDiff,reduceIte,x0,x3,x4,x29,x30,x31,x5,x6,x8,x10,x37,x38,x39,x68,x69]
    ·rintro τ ⟨n5,v5,ob5⟩ ⟨w,fw,hw,cw,hn5,old5,x0,x3,x4,x29,x30,x31,x5,x6,x8,x10,x37,x38,x39,x68,x69,x70⟩;have hn5':n4+1<=n5:=hn5;have old5':∀j,j<n4 ->ob5.get j=ob4.get j:=old5;dsimp only at cw;rw[rL] at hw;have cw':=cw;simp only[cT] at cw';have low5:∀j,j<n1 ->j≠s ->ob5.get j=aQ.get j:=λj h1 h2=>by rw[old5' j ω,old4' j ω,low3' j ω,cQ j h1 h2]
     have q6:cG (ob5.get n1)=some (aM p):=by rw[old5' n1 ω];exact rr6
     have qs:mG (ob5.get s)=mS St2:=by rw[old5' s ω];exact rrs
     by_cases hb:w=gq
     ·have rz:(((aE w).2:Nat):Int)=0:=by rw[hb];rfl
      refine qq x0 x3 x4 x29 x30 x31 x5 x6 x8 x10 x37 x38 x39 x68 x69 x70 cw' rz @bK ?_;refine ih2 _ _ ⟨St2,so2,qs,by show n1+1<=n5;omega,low5,q6,?_,?_,?_,?_,?_,?_,?_,?_,?_,?_,?_⟩;all_goals simp only[T.get_put,Nat.reduceEqDiff,reduceIte,x0,x3,x4,x29,x30,x31,x5,x6,x37,x38,x39]
     ·have rz:(((aE w).2:Nat):Int)=0↔False:=⟨λh=>hb ((Kj fw).1 ω),False.elim⟩;have q8:cG (ob5.get n2)=some [.b y.1,ι (y.2:Int)]:=by rw[old5' n2 ω];exact rr8
      have q4:cG (ob5.get (s+1))=some [.m s]:=by rw[old5' (s+1) ω];exact rr4
      simp only[aM] at q6;refine Y22 x0 x3 x4 x29 x30 x31 x5 x6 x8 x10 x37 x38 x39 x68 x69 x70 cw' rz q6 q8 q4 @bK ?_;have aV:p.left<y.2/\ y.2<g.nT.length:=by
       have yin:y.2<g.nT.length:=by
        rcases pk.sym y (dI hrj) with ⟨h2,_⟩|⟨_,h2⟩
        ·rw[h1] at h2;cases h2
        ·exact h2
       refine⟨?_,yin⟩;obtain⟨hwd,hnt⟩:=hw.resolve_left hb;have hmem:∀(j':Nat) s',j'≠j ->p.right[j']? =some s' ->s'∈ol:=by
        intro j' s' dc hs';rw[←hol];unfold sJ;rw[fO];by_cases aV:j'<j
        ·left;refine dI (i:=j') ?_;rw[jZ,aF aV];exact hs'
        ·right;refine dI (i:=j'-(j+1)) ?_;rw[mB,show j+1+(j'-(j+1))=j' by omega];exact hs'
       have ht:∀s∈p.right,s.1=false:=by
        intro s' hs';obtain⟨j',hlt',bF⟩:=sX.1 hs';have hj2:p.right[j']? =some s':=by rw[←bF];exact cE hlt'
        by_cases dc:j'=j
        ·subst dc;rw[hrj] at hj2;cases hj2;exact h1
        ·exact hnt _ (hmem j' s' dc hj2)
       rcases Y.st p hpm ht j y.2 (by rw[hrj,←h1]) with h|⟨j',z,dc,bF,hz⟩
       ·exact h
       ·refine bh (hwd.trans ?_) hb;rw[←hd1];exact Te ok _ _ fp (.inr ⟨_,hmem j' _ dc bF,rfl,ok.at_z hz⟩)
      refine E.run (aV1 (p:=(p.left,y.2)) (l:=St2) S E D F ?_ _ ?_ (by show s<n5+1;omega))
      ·exact W0 qs
      rintro⟨n6,v6,ob6⟩ hn6 old6;have hn6':n5+1<=n6:=hn6;have old6':∀j,j<n5+1 ->ob6.get j=_:=old6;have old6b:∀j,j<n5 ->ob6.get j=ob5.get j:=λj hj=>by rw[old6' j ω];exact U0
      have fs:=so2.at_f (p.left,y.2);have fo:cA 3 (cY (λx y=>x||y) (pC St2 (p.left,y.2)) w)=true:=jd fs fw;have co:=λh=>IG S D (A _ fs) (A _ fw) h;have cm:=λt h=>Bx S F t h;generalize hx:cY (λx y=>x||y) (pC St2 (p.left,y.2)) w=x at*;simp only[eT,eD] at co cm;have z13:cG (ob6.get n5)=some [ι (p.left:Int),ι (y.2:Int)]:=by rw[old6' n5 ω];exact U0
      have z4:cG (ob6.get (s+1))=some [.m s]:=by rw[old6b (s+1) ω,old5' (s+1) ω];exact rr4
      have zs:mG (ob6.get s)=mS St2:=by rw[old6b s ω];exact qs
      have z10:cG (ob6.get n4)=some [cu (aE w).1,ι ((aE w).2:Int)]:=by rw[old6b n4 ω];exact cw'
      simp only[eT,eD];refine qr x0 x3 x4 x29 x30 x31 x5 x6 x8 x10 x37 x38 x39 x68 x69 x70 z13 z4 z10 @bK ?_;refine E.cN (co _) (qr x0 x3 x4 x29 x30 x31 x5 x6 x8 x10 x37 x38 x39 x68 x69 x70 z13 z4 z10 @bK ?_);refine E.cN (cm _ _) ?_;have mu:∀bQ aA ob' (τ:T AV),mG (T.get ob' s)=mS St2 ->az C τ (.t 86)= .m s ->az C τ (.t 87)=eK (p.left,y.2) ->az C τ (.t 95)= .ag [cu (aE x).1,ι ((aE x).2:Int)] ->
       step (az C τ) ⟨bQ,aA,ob'⟩ (.mupd (.ag [(0,1,false,.lf .i),(1,1,false,.lf .i)]) (.t 86) (.t 87) (.t 95))= .v .un ⟨bQ,aA+1,ob'.put s (.map (aA+1) (di eK eT 0 (ups (p.left,y.2) x St2)) (ups (p.left,y.2) x St2).length)⟩:=
       λbQ aA ob' τ q1 q2 q3 q4=>mL (k:=(p.left,y.2)) (v:=x) (en:=eT) Kl (h:=⟨bQ,aA,ob'⟩) (fT.2 q1) q2 q3 q4
      simp only[eK] at mu;refine IP x0 x3 x4 x29 x30 x31 x5 x6 x8 x10 x37 x38 x39 x68 x69 x70 z13 z4 z10 zs mu @bK ?_;refine ih2 _ _ ⟨ups (p.left,y.2) x St2,so2.ups fo aV.1 aV.2,?_,by show n1+1<=n6;omega,λj' h1 h2=> ?_,?_,?_,?_,?_,?_,?_,?_,?_,?_,?_,?_,?_⟩
      ·exact U0
      ·simp(disch:=omega) only[dh,T.get_put,bV];rw[old6b j' ω];exact low5 j' h1 h2
      ·simp(disch:=omega) only[dh,T.get_put,bV];rw[old6b n1 ω];rw[old5' n1 ω];exact rr6
      all_goals simp only[T.get_put,Nat.reduceEqDiff,reduceIte,x0,x3,x4,x29,x30,x31,x5,x6,x37,x38,x39]
    ·exact U0
    ·exact bB _
    ·intro j' bF;exact U0
    all_goals simp only[T.get_put,Nat.reduceEqDiff,reduceIte,w0,w3,w4,w5,w6,w8,w29,w30,w31,w37,w38,w39,yJ]
  ·rintro τ ⟨n2,v2,aJ⟩ ⟨St2,so2,ms2,hn2,eG,c6,u0,u3,u4,u29,u30,u31,u5,u6,u37,u38,u39⟩;have hn2':n1+1<=n2:=hn2;have cQ:∀j,j<n1 ->j≠s ->aJ.get j=aQ.get j:=eG;refine iU u0 u3 u4 u29 u30 u31 u5 u6 u37 u38 u39 @bK ?_;refine ih _ _ ⟨St2,so2,ms2,by show m<=n2;omega,λj h1 h2=> ?_,?_,?_,?_,?_,?_,?_⟩
   ·show aJ.get j=_;rw[cQ j ω h2];exact old1' j h1 h2
   all_goals exact U5 u0 u3 u4 u29 u30
  ·exact W0 ms1
  ·exact bB _
  ·intro j h1 h2;exact U0
  ·exact U1 @aM.eq_1
  all_goals exact U6 s0 s3 s4 s29 s30 s31
 ·rintro τ ⟨n1,v1,aQ⟩ ⟨St,so,ms1,dS,dD,s0,s3,s4,s29,s30,s31⟩;refine Y7 s0 s3 s4 s29 s30 s31 @bK ?_;refine hk St _ _ so ms1 dS dD ?_ ?_ ?_<;>exact U3 s0 s3 s4
 all_goals exact U3 t0 t3 t4
end
end AM
