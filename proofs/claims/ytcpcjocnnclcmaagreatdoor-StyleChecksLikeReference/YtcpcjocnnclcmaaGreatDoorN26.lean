import Derived.Test.YtcpcjocnnclcmaaGreatDoorN25
set_option linter.all false
namespace AM
open Dg Go
noncomputable section
section
variable {P:Program} {X:dy} {GL:T (List AV)} {fns:T aR}
set_option maxHeartbeats 2000000 in
def KO {C:cQ Prop} (S:aw P X GL fns) (E:gW P X GL fns C) (A:bh P X GL) (D:gD fns) (F:qd fns) {n nn x s nx b4 b14:Nat} {g:Nat ->Option aU} {St N} (so:vm n St) (hs:mG (g s)=mS St) (h4:cG (g b4)=some [.m s]) (hN:mG (g nx)=mN N) (no:SK n g x N) (h14:cG (g b14)=some [.m nx]) (lt:s<x/\ b4<x/\ nx<x/\ b14<x) (nl:n<=1000)
 {R q} {h:AH} (v:UZ n nn x g R q h) {a:Nat} (ha:nn<=a) {d:Tr} (fd:ew 3 d=true) (k:AV ->AH ->Prop)
 (hk:∀R' q' h',UZ n nn x g R' q' h' ->h.next<=h'.next ->2*(8*n-li n R')+q'.length<=2*(8*n-li n R)+q.length ->k (.tu []) h'):
 bZ C 107 [.i .i64 (a:Int),eT d,.p b14 0,.p (x+1) 0,.p b4 0,.p (x+3) 0] h k:=by
 obtain⟨m,ver,ob⟩:=h;obtain⟨lt1,lt2,lt3,lt4⟩:=lt;have vold:∀j,j<x ->ob.get j=g j:=v.old;have vnx:x+4<=m:=v.nx;have c14:cG (ob.get b14)=some [.m nx]:=by rw[vold _ lt4];exact h14
 have mN':mG (ob.get nx)=mN N:=by rw[vold _ lt3];exact hN
 have lk:∀nx' ver' ob' (τ:T AV),mG (T.get ob' nx)=mN N ->bp C τ (.t 12)= .m nx ->bp C τ (.t 13)= .i .i64 (a:Int) ->
  step (bp C τ) ⟨nx',ver',ob'⟩ (.look (.lf .i) (.t 12) (.t 13) .sn false)= .v (Iw nV .sn (look a N)) ⟨nx',ver',ob'⟩:=
  fun nx' ver' ob' τ q1 q2 q3=>j4 (k:=a) (z:= .sn) (en:=nV) pR (h:=⟨nx',ver',ob'⟩) (bA.2 q1) q2 q3
 have low:∀j,j<x ->(ob.put m (.cells ver [fG (ax d).1,.i .i64 ((ax d).2:Int)])).get j=g j:=fun j hj=>by exact W0 (vold j hj)
 obtain⟨L,w,hw,lw,hL⟩:∃(L:List Nat) (w:AV),Iw nV .sn (look a N)=w/\ (∀h,sB h w= .v (ι (L.length:Int)) h)/\ ((∃o,w= .sl o 0 L.length none 1/\ cG (g o)=some (L.flatMap cI)/\ (∀b∈L,a<b/\ b<n)/\ o<x/\ L.length<=100000)∨L=[]):=by
  cases hl:look a N with
  |none=>exact⟨[],.sn,rfl,fun h=>rfl,.inr rfl⟩
  |some e=>
   obtain⟨o,L⟩:=e;obtain⟨q1,q2,q3,q4,q5⟩:=no.f a o L hl;exact⟨L,nV (o,L),rfl,fun h=>rfl,.inl ⟨o,rfl,q1,q3,q5,q4⟩⟩
 have sw:bU w=true:=by
  rw[←hw];cases look a N<;>rfl
 rw[aA E.ok (E.get F.f107)];refine Z9 @UV.eq_1 @eT.eq_1 @eD.eq_1 lk hw sw lw c14 mN' ?_;refine aX E.ok L.length (fun i τ h=>∃R' q',UZ n nn x g R' q' h/\ m+1<=h.next/\ h.objs.get m=(ob.put m (.cells ver [fG (ax d).1,.i .i64 ((ax d).2:Int)])).get m/\ (∀o a l c,cG (h.objs.get (x+3))=some [.sl o a l c 1] ->o≠m)/\ 2*(8*n-li n R')+q'.length<=2*(8*n-li n R)+q.length/\ τ.get 0=some (ι (a:Int))/\ τ.get 3=some (.p (x+1) 0)/\ τ.get 4=some (.p b4 0)/\ τ.get 5=some (.p (x+3) 0)/\ τ.get 7=some (.p m 0)/\ τ.get 14=some w/\ τ.get 15=some (ι (L.length:Int))/\ τ.get 16=some (ι (i:Int))) ?_ ?_ _ _ ⟨R,q,v.mono (by show m<=m+1;omega) (fun j hj=> ?_),bK _,rfl,?_,bK _,?_,?_,?_,?_,?_,?_,?_,?_⟩
 ·rintro i τ ⟨n1,v1,ob1⟩ hi ⟨R',q',va,hn1,om,qm,mes,t0,t3,t4,t5,t7,t14,t15,t16⟩ ih;have hn1':m+1<=n1:=hn1;rcases hL with ⟨o,rfl,cL,bL,oL,lL⟩|hL0;rotate_left
  ·subst hL0;simp at hi
  have hLi:L[i]? =some L[i]:=ba hi;generalize hb:L[i]=b at hLi;obtain⟨lb1,lb2⟩:=bL b (bJ hLi);have vold1:∀j,j<x ->ob1.get j=g j:=va.old;have cLo:cG (ob1.get o)=some (L.flatMap cI):=by rw[vold1 o oL];exact cL
  have e1:sub (L.flatMap cI) i 1=some [.i .i64 (b:Int)]:=by
   have:=aB (enc:=cI) (k:=1) (fun a=>rfl) hLi (j:=0) (n:=1) ω;rw[HR,zu] at this;exact this
  have cx1:cG (ob1.get (x+1))=some [.m x]:=va.c1;refine y5 t0 t3 t4 t5 t7 t14 t15 t16 cLo e1 cx1 ?_;refine E.run (wP (l:=R') S E D F va.r _ ?_ (by show x<n1;omega));rintro⟨n2,v2,ob2⟩ hn2 old2;have hn2':n1<=n2:=hn2;have old2':∀j,j<n1 ->ob2.get j=ob1.get j:=old2;have va2:=va.mono hn2 old2;have fR:=va.ok.at_f b;generalize hr:oT R' b=r at fR;have fs:=so.at_f (a,b);generalize hst:KN St (a,b)=st at fs;simp only[eT,eD];have mS2:mG (ob2.get s)=mS St:=by rw[old2' s ω,vold1 s lt1];exact hs
  have c4:cG (ob2.get b4)=some [.m s]:=by rw[old2' b4 ω,vold1 b4 lt2];exact h4
  have c7:cG (ob2.get m)=some [fG (ax d).1,.i .i64 ((ax d).2:Int)]:=by rw[old2' m ω];rw[show ob1.get m=_ from om];exact U0
  have sQ:∀nx' ver' ob' (τ:T AV),mG (T.get ob' s)=mS St ->bp C τ (.t 25)= .m s ->bp C τ (.t 28)=eK (a,b) ->
   step (bp C τ) ⟨nx',ver',ob'⟩ (.look (.ag [(0,1,false,.lf .i),(1,1,false,.lf .i)]) (.t 25) (.t 28) (.ag [.sn,.i .i64 0]) false)= .v (.ag [fG (ax st).1,.i .i64 ((ax st).2:Int)]) ⟨nx',ver',ob'⟩:=
   fun nx' ver' ob' τ q1 q2 q3=>by
    refine(j4 (k:=(a,b)) (z:= .ag [.sn,.i .i64 0]) (en:=eT) Xh (h:=⟨nx',ver',ob'⟩) (bA.2 q1) q2 q3).trans ?_;rw[Xi,hst]
  simp only[eK] at sQ;have fm:ew 3 (eF (fun x y=>x&&y) d st)=true:=cH fd fs;have fo:ew 3 (eF (fun x y=>x||y) r (eF (fun x y=>x&&y) d st))=true:=cH fR fm;have ca:=fun h=>wJ S D (A _ fd) (A _ fs) h
  have co:=fun h=>GN S D (A _ fR) (A _ fm) h
  have cs:=fun h=>Am S D (A _ fR) (A _ fo) h
  have cm:=fun t h=>qe S F t h
  have H7:=uf (k:=3) fR fm;generalize hmt:eF (fun x y=>x&&y) d st=mt at*;generalize hnw:eF (fun x y=>x||y) r mt=nw at*;simp only[eT,eD] at ca co cs cm;refine F5 t0 t3 t4 t5 t7 t14 t15 t16 c4 c7 sQ mS2 ?_;refine E.con (ca _) ?_;refine F5 t0 t3 t4 t5 t7 t14 t15 t16 c4 c7 sQ mS2 ?_;refine E.con (cm _ _) ?_;refine F5 t0 t3 t4 t5 t7 t14 t15 t16 c4 c7 sQ mS2 ?_;refine E.con (co _) ?_;refine F5 t0 t3 t4 t5 t7 t14 t15 t16 c4 c7 sQ mS2 ?_;refine E.con (cm _ _) ?_;refine F5 t0 t3 t4 t5 t7 t14 t15 t16 c4 c7 sQ mS2 ?_;refine E.con (cs _) ?_;by_cases he:r=nw
  ·have hd:decide (r=nw)=true:=decide_eq_true he;rw[hd];refine Y9 t0 t3 t4 t5 t7 t14 t15 t16 @ar ?_;refine ih _ _ ⟨R',q',va2.mono (by show n2<=n2+1+1;omega) (fun j hj=> ?_),by show m+1<=n2+1+1;omega,?_,?_,mes,?_,?_,?_,?_,?_,?_,?_,?_⟩
   ·have hj':j<n2:=hj;exact U0
   ·simp(disch:=omega) only[cF,T.get_put,if_false];rw[old2' m ω,show ob1.get m=_ from om];exact U0
   ·simp(disch:=omega) only[cF,T.get_put,if_false];rw[old2' (x+3) ω];exact qm
   all_goals exact U7 t0 t3 t4 t5 t7 t14 t15
  ·have hd:decide (r=nw)=false:=decide_eq_false he;rw[hd];have d1:cG (ob2.get (x+1))=some [.m x]:=va2.c1;have dx:mG (ob2.get x)=mT R':=va2.r;obtain⟨vq,d3,qa⟩:=va2.c3;obtain⟨oq,aq,cq,Lq,rfl,q1,q2,q3,q4,q5,q6⟩:=qa.e;have q6':oq<n2:=q6;dsimp only at d3 q1;have mu:∀nx' ver' ob' (τ:T AV),mG (T.get ob' x)=mT R' ->bp C τ (.t 42)= .m x ->bp C τ (.t 43)= .i .i64 (b:Int) ->bp C τ (.t 44)= .ag [fG (ax nw).1,.i .i64 ((ax nw).2:Int)] ->
    step (bp C τ) ⟨nx',ver',ob'⟩ (.mupd (.lf .i) (.t 42) (.t 43) (.t 44))= .v .un ⟨nx',ver'+1,ob'.put x (.map (ver'+1) (cV (fun n:Nat=>AV.i .i64 (n:Int)) eT 0 (ups b nw R')) (ups b nw R').length)⟩:=
    fun nx' ver' ob' τ q1 q2 q3 q4=>gH (k:=b) (v:=nw) (en:=eT) pR (h:=⟨nx',ver',ob'⟩) (bA.2 q1) q2 q3 q4
   have lq:q'.length<=li n R':=va.ql;have sle:=wR va.ok;have cnt':=H7.2 (fun h=>he h.symm);have su:=EA (l:=R') (x:=nw) lb2;rw[hr] at su;have nb:Not (b<=nn):=by omega
   have okN:=va.ok.ups lb2 fo (fun h=>absurd (of_decide_eq_true h) nb);have fin:∀(τ':T AV) (n3 v3:Nat) (ob3:T aU),n2<=n3 ->(∀j,j<n2 ->j≠x ->j≠x+3 ->j≠oq ->ob3.get j=ob2.get j) ->mG (ob3.get x)=mT (ups b nw R') ->cG (ob3.get (x+3))=some [.sl (n3-1) 0 (q'.length+1) none 1] ->cG (ob3.get (n3-1))=some (q'.flatMap cI++[.i .i64 (b:Int)]) ->n2+1<=n3 ->
    τ'.get 0=some (ι (a:Int)) ->τ'.get 3=some (.p (x+1) 0) ->τ'.get 4=some (.p b4 0) ->τ'.get 5=some (.p (x+3) 0) ->τ'.get 7=some (.p m 0) ->τ'.get 14=some (.sl o 0 L.length none 1) ->τ'.get 15=some (ι (L.length:Int)) ->τ'.get 16=some (ι ((i+1:Nat):Int)) ->dk C I6.loop [Fr.b 0] (KF k []) τ' ⟨n3,v3,ob3⟩:=by
    intro τ' n3 v3 ob3 a1 a2 a3 a4 a5 a6 s0 s3 s4 s5 s7 s14 s15 s16;have hox:oq≠m:=qm oq aq q'.length cq (by show cG (ob1.get (x+3))=_;rw[←old2' (x+3) ω];exact d3);refine ih _ _ ⟨ups b nw R',q'++[b],⟨a3,okN,?_,⟨_,a4,⟨⟨n3-1,0,none,q'.flatMap cI++[.i .i64 (b:Int)],?_,a5,?_,.inl rfl,by omega,by omega,by show n3-1<n3;omega⟩⟩⟩,?_,?_,by show x+4<=n3;omega,?_⟩,by show m+1<=n3;omega,?_,?_,?_,s0,s3,s4,s5,s7,s14,s15,s16⟩
    ·show cG (ob3.get (x+1))=_;rw[a2 (x+1) ω ω ω ω];exact d1
    ·rw[cX];rfl
    ·rw[ik];refine gI ?_;rw[cX,dG (k:=1) (fun a=>rfl),cX];simp
    ·intro z hz;rcases eV.1 hz with h|h
     ·exact va.lq z h
     ·rw[dY.1 h];exact⟨by omega,lb2⟩
    ·rw[cX];simp only[fM,jL];omega
    ·intro j hj;show ob3.get j=_;rw[a2 j ω ω ω ω,old2' j ω];exact vold1 j hj
    ·show ob3.get m=_;rw[a2 m ω ω ω (fun h=>hox h.symm),old2' m ω];exact om
    ·intro o' a' l' c' hc;rw[show cG (ob3.get (x+3))=_ from a4] at hc;cases hc;omega
    ·rw[cX];simp only[fM,jL];have:=wR okN;omega
   rcases q3 with rfl|⟨rfl,rfl,rfl,rfl⟩
   ·have apq:∀nx' ver' ob' o2,cG (T.get ob' oq)=some Lq ->cG (T.get ob' o2)=some [.i .i64 (b:Int)] ->pS ⟨nx',ver',ob'⟩ 1 (.sl oq aq q'.length none 1) (.sl o2 0 1 (some 1) 1)= .v (.sl nx' 0 (q'.length+1) none 1) ⟨nx'+1,ver'+1,(ob'.put oq .gone).put nx' (.cells (ver'+1) (q'.flatMap cI++[.i .i64 (b:Int)]))⟩:=
     fun nx' ver' ob' o2 e1 e2=>ab8 (h:=⟨nx',ver',ob'⟩) e1 q2 e2 rfl rfl ω
    simp(disch:=first|omega|(exact U2 dx q1)) only[kU,apq,t0,t3,t4,t5,t7,t14,t15,t16,d1,d3,dx,mu,ar,↓ky E.ok,Nat.reduceEqDiff,Nat.reduceAdd,Nat.reduceMul,Nat.reduceLT,Nat.reduceShiftRight,Nat.reduceAnd,Nat.reduceBneDiff,↓reduceIte,Int.reduceLT,Int.reduceLE,Int.reduceEq,go_sem];refine fin _ _ _ _ ω (fun j h1 h2 h3 h4=>by exact U0) ?_ ?_ ?_ ω ?_ ?_ ?_ ?_ ?_ ?_ ?_ ?_
    ·exact U0
    ·exact U0
    ·rw[Nat.add_sub_cancel];exact U0
    all_goals exact U7 t0 t3 t4 t5 t7 t14 t15
   ·refine TP @nz q1 t0 t3 t4 t5 t7 t14 t15 t16 d1 d3 dx mu @ar ?_;refine fin _ _ _ _ ω (fun j h1 h2 h3 h4=>by exact U0) ?_ ?_ ?_ ω ?_ ?_ ?_ ?_ ?_ ?_ ?_ ?_
    ·exact U0
    ·exact U0
    ·rw[Nat.add_sub_cancel];exact U0
    all_goals exact U7 t0 t3 t4 t5 t7 t14 t15
 ·rintro τ ⟨n1,v1,ob1⟩ ⟨R',q',va,hn1,om,qm,mes,t0,t3,t4,t5,t7,t14,t15,t16⟩;have hn1':m+1<=n1:=hn1;refine Y9 t0 t3 t4 t5 t7 t14 t15 t16 @Hi ?_;exact hk R' q' _ va (by show m<=n1;omega) mes
 ·have hj':j<m:=hj;exact U0
 ·intro o a l c hc;obtain⟨vq,d3,qa⟩:=v.c3;obtain⟨oq,aq,cq,Lq,rfl,q1,q2,q3,q4,q5,q6⟩:=qa.e;have q6':oq<m:=q6;simp(disch:=omega) only[cF,T.get_put,if_false] at hc;rw[show cG (ob.get (x+3))=_ from d3] at hc;cases hc;omega
 all_goals exact U0
set_option maxHeartbeats 1000000 in
def Hj {C:cQ Prop} (E:gW P X GL fns C) {p:Pr} {i b6:Nat} (hi:i<p.right.length) (hr:p.right.length<=1000) {h:AH} {τ:T AV} (t6:τ.get 6=some (.p b6 0)) (t7:τ.get 7=some (ι (i:Int))) (c6:cG (h.objs.get b6)=some (cC p)) (l6:b6<h.next) {Y:ap} {S:List Fr} {K:K Prop}
 (hk:∀o c τ' h',o<h'.next ->h.next<=o ->h.next<=h'.next ->(∀j,j<h.next ->h'.objs.get j=h.objs.get j) ->cG (h'.objs.get o)=some ((dC p.right i).flatMap bS) ->τ'.get 9=some (.sl o 0 (dC p.right i).length c 2) ->(∀j,j<46 ->j≠9 ->τ'.get j=τ.get j) ->dk C Y S K τ' h'):
 dk C PE (.s Y::S) K τ h:=by
 unfold PE;obtain⟨m,ver,ob⟩:=h;have er:eR bS 2 p.rn p.right= .ds (p.right.flatMap bS) 0 p.right.length 2:=by
  cases hp:p.right with
  |nil=>rw[hp] at hi;simp at hi
  |cons a r=>rfl
 dsimp only at c6;simp only[cC,er] at c6;generalize p.right=r at*;have l6':b6<m:=l6;have ol:(dC r i).length=r.length-1:=by unfold dC;rw[cX,fO,qY];omega
 have nk:∀a b,aJ 64 (.ds (r.flatMap bS) a b 2)=true:=fun a b=>by rw[ja,bu de]
 have p1:sub (r.flatMap bS) 0 (i*2)=some ((r.take i).flatMap bS):=by
  have:=lU bz (L:=r) (i:=0) (n:=i) ω;simpa using this
 have p2:sub (r.flatMap bS) ((i+1)*2) ((r.length-(i+1))*2)=some ((r.drop (i+1)).flatMap bS):=by
  have:=lU bz (L:=r) (i:=i+1) (n:=r.length-(i+1)) ω
  rwa [ow (by rw[qY];omega)] at this
 have z1:sub (r.flatMap bS) 0 0=some []:=by
  have:=lU bz (L:=r) (i:=0) (n:=0) ω;simpa using this
 have s1:cE ((r.take i).flatMap bS)=true:=iJ uh _;have s2:cE ((r.drop (i+1)).flatMap bS)=true:=iJ uh _;have hs:∀(τ:T AV) h,bp C τ (.t 48)= .ds (r.flatMap bS) 0 r.length 2 ->bp C τ (.t 49)= .i .i64 (i:Int) ->step (bp C τ) h (.slc 2 (.t 48) none (some (.t 49)) none)= .v (.ds (r.flatMap bS) 0 i 2) h:=
  fun τ h h1 h2=>Cj h1 (by rw[h2];exact gA) ω
 have hs2:∀(τ:T AV) h,bp C τ (.t 53)= .ds (r.flatMap bS) 0 r.length 2 ->bp C τ (.t 55)= .i .i64 ((i+1:Nat):Int) ->step (bp C τ) h (.slc 2 (.t 53) (some (.t 55)) none none)= .v (.ds (r.flatMap bS) (0+(i+1)*2) (r.length-(i+1)) 2) h:=
  fun τ h h1 h2=>OU h1 (by rw[h2];exact gA) ω
 have ha:dC r i=r.take i++r.drop (i+1):=rfl;have tz:r.length-(i+1)=(r.drop (i+1)).length:=by rw[qY]
 have fin:∀o c (τ':T AV) (h':AH),o<h'.next ->m<=o ->(∀j,j<m ->h'.objs.get j=ob.get j) ->cG (h'.objs.get o)=some ((dC r i).flatMap bS) ->∀n,n=(dC r i).length ->τ'.get 9=some (.sl o 0 n c 2) ->(∀j,j<46 ->j≠9 ->τ'.get j=τ.get j) ->dk C Y S K τ' h':=by
  intro o c τ' h' h1 h2 h3 h4 n hn h5 h6;exact hk o c τ' h' h1 h2 (by show m<=h'.next;omega) h3 h4 (by rw[h5,hn]) h6
 have gt:∀j,j<46 ->j≠9 ->j≠46/\ j≠47/\ j≠48/\ j≠49/\ j≠50/\ j≠51/\ j≠52/\ j≠53/\ j≠54/\ j≠55/\ j≠56/\ j≠57:=fun j h1 h2=>by omega
 by_cases i0:i=0
 ·have A1:∀h',pS h' 2 (.sl m 0 0 (some 0) 2) (.ds (r.flatMap bS) 0 i 2)= .v (.sl m 0 0 (some 0) 2) h':=fun h'=>by rw[i0];exact qC z1
  have tk:r.take i=[]:=by rw[i0];rfl
  by_cases i1:r.length-(i+1)=0
  ·have A2:∀h',pS h' 2 (.sl m 0 0 (some 0) 2) (.ds (r.flatMap bS) ((i+1)*2) (r.length-(i+1)) 2)= .v (.sl m 0 0 (some 0) 2) h':=fun h'=>by
    rw[i1];refine qC ?_;rw[i1,lA (show(r.drop (i+1)).length=0 by rw[←tz];exact i1)] at p2;exact p2
   refine RV t6 t7 c6 @kU hs hs2 A1 A2 nk @ar ?_;refine fin m (some 0) _ _ (by show m<m+1;omega) (bK _) (fun j hj=>U0) ?_ 0 ?_ U0 (fun j h1 h2=>U0)
   ·exact U3 ha tk (lA (show(r.drop (i+1)).length=0 by rw[←tz];exact i1))
   ·rw[ol];omega
  ·obtain⟨n',hn'⟩:∃n',r.length-(i+1)=n'+1:=⟨r.length-(i+1)-1,by omega⟩;rw[hn'] at p2;have A2:∀v t,cG (T.get t m)=some [] ->pS ⟨m+1,v,t⟩ 2 (.sl m 0 0 (some 0) 2) (.ds (r.flatMap bS) ((i+1)*2) (r.length-(i+1)) 2)= .v (.sl (m+1) 0 (n'+1) none 2) ⟨m+1+1,v,t.put (m+1) (.cells v ((r.drop (i+1)).flatMap bS))⟩:=fun v t hc=>by rw[hn'];exact qD p2 s2 hc ω
   refine RV t6 t7 c6 @kU hs hs2 A1 A2 nk @ar ?_;refine fin (m+1) none _ _ (by show m+1<m+1+1;omega) ω (fun j hj=>U0) ?_ (n'+1) ?_ U0 (fun j h1 h2=>U0)
   ·simp only[T.get_put,if_true,dB,ha,tk,lB]
   ·rw[ol];omega
 ·obtain⟨i',hi'⟩:∃i',i=i'+1:=⟨i-1,by omega⟩;have A1:∀v t,cG (T.get t m)=some [] ->pS ⟨m+1,v,t⟩ 2 (.sl m 0 0 (some 0) 2) (.ds (r.flatMap bS) 0 i 2)= .v (.sl (m+1) 0 i none 2) ⟨m+1+1,v,t.put (m+1) (.cells v ((r.take i).flatMap bS))⟩:=fun v t hc=>by
   have p1':=p1;have s1':=s1;rw[hi'] at p1' s1' ⊢;exact qD p1' s1' hc ω
  by_cases i1:r.length-(i+1)=0
  ·have A2:∀h',pS h' 2 (.sl (m+1) 0 i none 2) (.ds (r.flatMap bS) ((i+1)*2) (r.length-(i+1)) 2)= .v (.sl (m+1) 0 i none 2) h':=fun h'=>by
    rw[i1];refine qC ?_;rw[i1,lA (show(r.drop (i+1)).length=0 by rw[←tz];exact i1)] at p2;exact p2
   refine RV t6 t7 c6 @kU hs hs2 A1 A2 nk @ar ?_;refine fin (m+1) none _ _ (by show m+1<m+1+1;omega) ω (fun j hj=>U0) ?_ i ?_ U0 (fun j h1 h2=>U0)
   ·simp only[T.get_put,if_true,dB,ha,lA (show(r.drop (i+1)).length=0 by rw[←tz];exact i1),ip]
   ·rw[ol];omega
  ·obtain⟨n',hn'⟩:∃n',r.length-(i+1)=n'+1:=⟨r.length-(i+1)-1,by omega⟩;rw[hn'] at p2;have A2:∀v t,cG (T.get t (m+1))=some ((r.take i).flatMap bS) ->pS ⟨m+1+1,v,t⟩ 2 (.sl (m+1) 0 i none 2) (.ds (r.flatMap bS) ((i+1)*2) (r.length-(i+1)) 2)= .v (.sl (m+1+1) 0 (i+(n'+1)) none 2) ⟨m+1+1+1,v+1,(t.put (m+1) .gone).put (m+1+1) (.cells (v+1) ((r.take i).flatMap bS++(r.drop (i+1)).flatMap bS))⟩:=fun v t hc=>by
    rw[hn'];exact IW p2 s2 hc (by rw[dG bz,fO,jp ω]) ω
   refine RV t6 t7 c6 @kU hs hs2 A1 A2 nk @ar ?_;refine fin (m+1+1) none _ _ (by show m+1+1<m+1+1+1;omega) ω (fun j hj=>U0) ?_ (i+(n'+1)) ?_ U0 (fun j h1 h2=>U0)
   ·simp only[T.get_put,if_true,dB,ha,ik]
   ·rw[ol];omega
end
def EE {κ ν:Type} [DecidableEq κ] {k:κ} {v:ν}:∀{l:List (κ×ν)},(ups k v l).map (·.1)=if k∈l.map (·.1) then l.map (·.1) else l.map (·.1)++[k]
 |[]=>by simp[ups]
 |(a,b)::l=>by
  by_cases e:k=a
  ·subst e;simp[ups]
  ·have ih:=EE (k:=k) (v:=v) (l:=l);have:ups k v ((a,b)::l)=(a,b)::ups k v l:=by simp[ups,e]
   rw[this,iR,ih];by_cases h:k∈l.map (·.1)
   ·rw[if_pos h,if_pos (by simp only[iR,bY];exact .inr h)];rfl
   ·rw[if_neg h,if_neg (by simp only[iR,bY];exact fun c=>c.elim e h)];rfl
def Xj {κ ν:Type} [DecidableEq κ] {k:κ} {v:ν} {l:List (κ×ν)} (h:(l.map (·.1)).Nodup):((ups k v l).map (·.1)).Nodup:=by
 rw[EE];split
 ·exact h
 ·rename_i hk;refine uy.2 ⟨h,by simp,fun a ha b hb e=> ?_⟩;rw[dY.1 hb] at e;exact hk (e▸ha)
def vm.ups {n:Nat} {l:List ((Nat×Nat)×Tr)} (m:vm n l) {p:Nat×Nat} {x:Tr} (fx:ew 3 x=true) (h1:p.1<p.2) (h2:p.2<n):vm n (ups p x l) where
 f:=fun q t h=>by
  rw[gX] at h;split at h
  ·rename_i e;cases h;subst e;exact⟨fx,h1,h2⟩
  ·exact m.f q t h
 nd:=Xj m.nd
section
variable {P:Program} {X:dy} {GL:T (List AV)} {fns:T aR}
set_option maxHeartbeats 4000000 in
def KP {C:cQ Prop} (S:aw P X GL fns) (E:gW P X GL fns C) (A:bh P X GL) (D:gD fns) (F:qd fns) {g:Gr} (G:cM g) {Z:Nat ->Bool} (Y:yG g Z) {oa op o s:Nat} {l:List (Nat×Tr)} {h:AH} {τ:T AV} (an:PR h oa op g) (hm:mG (h.objs.get o)=mT l) (ok:sL g.nts.length Z l)
 (ms:mG (h.objs.get s)=mS []) (c4:cG (h.objs.get (s+1))=some [.m s]) (low:oa<s/\ op<s/\ o<s/\ s+2<=h.next) (t0:τ.get 0=some (.p oa 0)) (t3:τ.get 3=some (.m o)) (t4:τ.get 4=some (.p (s+1) 0)) {W:ap} {Fs:List Fr} {K:K Prop}
 (hk:∀St τ' h',vm g.nts.length St ->mG (h'.objs.get s)=mS St ->h.next<=h'.next ->(∀j,j<h.next ->j≠s ->h'.objs.get j=h.objs.get j) ->τ'.get 0=some (.p oa 0) ->τ'.get 3=some (.m o) ->τ'.get 4=some (.p (s+1) 0) ->dk C W Fs K τ' h'):
 dk C (.seq UR (.block 0 (.loop PF))) (.s W::Fs) K τ h:=by
 obtain⟨m,ver,ob⟩:=h;obtain⟨low1,low2,low3,low4⟩:=low;have low4':s+2<=m:=low4;have pl:=G.pl;have ntl:=G.ntl;obtain⟨an1,an2⟩:=an;dsimp only at an1 an2 hm ms c4;have an1':=an1;simp only[aL,nF,lB] at an1;refine Y4 an1 t0 t3 t4 ?_;refine aX E.ok g.prods.length (fun i τ h=>∃St,vm g.nts.length St/\ mG (h.objs.get s)=mS St/\ m<=h.next/\ (∀j,j<m ->j≠s ->h.objs.get j=ob.get j)/\ τ.get 0=some (.p oa 0)/\ τ.get 3=some (.m o)/\ τ.get 4=some (.p (s+1) 0)/\ τ.get 29=some (eR cC 13 true g.prods)/\ τ.get 30=some (ι (g.prods.length:Int))/\ τ.get 31=some (ι (i:Int))) ?_ ?_ _ _ ⟨[],⟨fun p t h=>by simp[look] at h,by simp⟩,ms,bK _,fun j _ _=>rfl,?_,?_,?_,?_,?_,?_⟩
 ·rintro i τ ⟨n1,v1,ob1⟩ hi ⟨St,so,ms1,hn1,old1,s0,s3,s4,s29,s30,s31⟩ ih;have hn1':m<=n1:=hn1;have old1':∀j,j<m ->j≠s ->ob1.get j=ob.get j:=old1;dsimp only at ms1;have hpi:g.prods[i]? =some g.prods[i]:=ba hi;generalize hp:g.prods[i]=p at hpi;have hpm:=bJ hpi;have pk:=G.p p hpm;have rl:=pk.len;have okl:=pk.left;have e13:sub (g.prods.flatMap cC) (i*13) 13=some (cC p):=aB eG hpi (j:=0) (n:=13) ω;simp only[cC] at e13;have fp:=ue G hpm;refine Y8 s0 s3 s4 s29 s30 s31 @aF e13 ?_;refine aX E.ok p.right.length (fun j τ h=>∃St,vm g.nts.length St/\ mG (h.objs.get s)=mS St/\ n1+1<=h.next/\ (∀j,j<n1 ->j≠s ->h.objs.get j=ob1.get j)/\ cG (h.objs.get n1)=some (cC p)/\ τ.get 0=some (.p oa 0)/\ τ.get 3=some (.m o)/\ τ.get 4=some (.p (s+1) 0)/\ τ.get 29=some (eR cC 13 true g.prods)/\ τ.get 30=some (ι (g.prods.length:Int))/\ τ.get 31=some (ι (i:Int))/\ τ.get 5=some (ι (i:Int))/\ τ.get 6=some (.p n1 0)/\ τ.get 37=some (eR bS 2 p.rn p.right)/\ τ.get 38=some (ι (p.right.length:Int))/\ τ.get 39=some (ι (j:Int))) ?_ ?_ _ _ ⟨St,so,?_,?_,?_,?_,?_,?_,?_,?_,?_,?_,?_,?_,?_,?_,?_⟩
  ·rintro j τ ⟨n2,v2,ob2⟩ hj ⟨St2,so2,ms2,hn2,old2,c6,u0,u3,u4,u29,u30,u31,u5,u6,u37,u38,u39⟩ ih2;have hn2':n1+1<=n2:=hn2;have old2':∀j,j<n1 ->j≠s ->ob2.get j=ob1.get j:=old2;dsimp only at ms2 c6;have hrj:p.right[j]? =some p.right[j]:=ba hj;generalize hy:p.right[j]=y at hrj;have e2:sub (p.right.flatMap bS) (j*2) 2=some [.b y.1,.i .i64 (y.2:Int)]:=aB bz hrj (j:=0) (n:=2) ω;have c6':=c6;simp only[cC] at c6;cases h1:y.1 with
   |true=>
    rw[h1] at e2;refine WC u0 u3 u4 u29 u30 u31 u5 u6 u37 u38 u39 @aF e2 c6 @ar ?_;refine ih2 _ _ ⟨St2,so2,?_,by show n1+1<=n2+1;omega,fun j' h1 h2=> ?_,?_,?_,?_,?_,?_,?_,?_,?_,?_,?_,?_,?_⟩
    ·exact W0 ms2
    ·exact W0 (old2' j' h1 h2)
    ·exact W0 c6'
    all_goals exact Zx u0 u3 u4 u29 u30 u31 u5 u6 u37 u38
   |false=>
    rw[h1] at e2;refine WC u0 u3 u4 u29 u30 u31 u5 u6 u37 u38 u39 @aF e2 c6 @ar ?_;refine Hj E (p:=p) (b6:=n1) (i:=j) hj ω ?_ ?_ ?_ ?_ ?_
    ·exact U1 u6
    ·exact U0
    ·exact W0 c6'
    ·show n1<n2+1;omega
    rintro oo co τ2 ⟨n3,v3,ob3⟩ ho1 ho2 hn3 old3 hco w9 wo;have hn3':n2+1<=n3:=hn3;have ho1':oo<n3:=ho1;have ho2':n2+1<=oo:=ho2;have old3':∀j,j<n2+1 ->ob3.get j=_:=old3;have low3':∀j,j<n2 ->ob3.get j=ob2.get j:=fun j hj=>by rw[old3' j ω];exact U0
    have w0:τ2.get 0=some (.p oa 0):=by rw[wo 0 ω ω];exact U1 u0
    have w3:τ2.get 3=some (.m o):=by rw[wo 3 ω ω];exact U1 u3
    have w4:τ2.get 4=some (.p (s+1) 0):=by rw[wo 4 ω ω];exact U1 u4
    have w5:τ2.get 5=some (ι (i:Int)):=by rw[wo 5 ω ω];exact U1 u5
    have w6:τ2.get 6=some (.p n1 0):=by rw[wo 6 ω ω];exact U1 u6
    have w8:τ2.get 8=some (.p n2 0):=by rw[wo 8 ω ω];exact U0
    have w29:τ2.get 29=some (eR cC 13 true g.prods):=by rw[wo 29 ω ω];exact U1 u29
    have w30:τ2.get 30=some (ι (g.prods.length:Int)):=by rw[wo 30 ω ω];exact U1 u30
    have w31:τ2.get 31=some (ι (i:Int)):=by rw[wo 31 ω ω];exact U1 u31
    have w37:τ2.get 37=some (eR bS 2 p.rn p.right):=by rw[wo 37 ω ω];exact U1 u37
    have w38:τ2.get 38=some (ι (p.right.length:Int)):=by rw[wo 38 ω ω];exact U1 u38
    have w39:τ2.get 39=some (ι (j:Int)):=by rw[wo 39 ω ω];exact U1 u39
    clear wo;have r8:cG (ob3.get n2)=some [.b y.1,.i .i64 (y.2:Int)]:=by rw[old3' n2 ω];exact U1 h1
    have rm:∀j,j<m ->j≠s ->ob3.get j=ob.get j:=fun j h1 h2=>by rw[low3' j ω,old2' j ω h2,old1' j h1 h2]
    have ra:cG (ob3.get oa)=some (aL g++[.sl op 0 g.prods.length none 2]):=by rw[rm oa ω ω];exact an1'
    have rp:cG (ob3.get op)=some ((g.prods.map (fZ g)).flatMap cT):=by rw[rm op ω ω];exact an2
    have ro:mG (ob3.get o)=mT l:=by rw[rm o ω ω];exact hm
    have r4:cG (ob3.get (s+1))=some [.m s]:=by rw[rm (s+1) ω ω];exact c4
    have rs:mG (ob3.get s)=mS St2:=by rw[low3' s ω];exact ms2
    have r6:cG (ob3.get n1)=some (cC p):=by rw[low3' n1 ω];exact c6'
    dsimp only at hco;generalize hol:dC p.right j=ol at*;have oll:ol.length<=16:=by rw[←hol];unfold dC;rw[cX,fO,qY];omega
    simp only[aL,nF,lB] at ra;have epi:sub ((g.prods.map (fZ g)).flatMap cT) (i*2) 2=some (cT (fZ g p)):=aB kZ (L:=g.prods.map (fZ g)) (i:=i) (a:=fZ g p) (by rw[lX,hpi];rfl) (j:=0) (n:=2) ω;simp only[cT] at epi;refine QT ra rp epi w0 w3 w4 w5 w6 w8 w9 w29 w30 w31 w37 w38 w39 ?_;refine E.run (I8 (n:=g.nts.length) (Z:=Z) (l:=l) (d:=fZ g p) (r:=ol) S E A D F ok ro (by show o<n3;omega) fp (.inr ⟨oo,co,rfl,hco,ho1⟩) ω _ ?_);rintro⟨n4,v4,ob4⟩ hn4 old4;have hn4':n3<=n4:=hn4;have old4':∀j,j<n3 ->ob4.get j=ob3.get j:=old4;have fw:=wQ ok ol _ fp;simp only[eT,eD];refine IA w0 w3 w4 w5 w6 w8 w9 w29 w30 w31 w37 w38 w39 ?_;have rr8:cG (ob4.get n2)=some [.b y.1,.i .i64 (y.2:Int)]:=by rw[old4' n2 ω];exact r8
    have rr4:cG (ob4.get (s+1))=some [.m s]:=by rw[old4' (s+1) ω];exact r4
    have rrs:mG (ob4.get s)=mS St2:=by rw[old4' s ω];exact rs
    have rr6:cG (ob4.get n1)=some (cC p):=by rw[old4' n1 ω];exact r6
    have rrc:cG (ob4.get oo)=some (ol.flatMap bS):=by rw[old4' oo ω];exact hco
    have cc:=fun h=>sA S D false h
    have e0:eT (dQ false 3)= .ag [.sn,.i .i64 0]:=rfl;rw[e0] at cc;generalize hd1:vl l (fZ g p) ol=d1 at*;refine aX E.ok ol.length (fun jj τ h=>∃w,ew 3 w=true/\ (w=cN∨(w=d1/\∀z∈ol.take jj,z.1=false))/\ cG (h.objs.get n4)=some (cT w)/\ n4+1<=h.next/\ (∀j,j<n4 ->h.objs.get j=ob4.get j)/\ τ.get 0=some (.p oa 0)/\ τ.get 3=some (.m o)/\ τ.get 4=some (.p (s+1) 0)/\ τ.get 29=some (eR cC 13 true g.prods)/\ τ.get 30=some (ι (g.prods.length:Int))/\ τ.get 31=some (ι (i:Int))/\ τ.get 5=some (ι (i:Int))/\ τ.get 6=some (.p n1 0)/\ τ.get 8=some (.p n2 0)/\ τ.get 10=some (.p n4 0)/\ τ.get 37=some (eR bS 2 p.rn p.right)/\ τ.get 38=some (ι (p.right.length:Int))/\ τ.get 39=some (ι (j:Int))/\ τ.get 68=some (.sl oo 0 ol.length co 2)/\ τ.get 69=some (ι (ol.length:Int))/\ τ.get 70=some (ι (jj:Int))) ?_ ?_ _ _ ⟨d1,fw,.inr ⟨rfl,fun z hz=>by simp at hz⟩,?_,?_,?_,?_,?_,?_,?_,?_,?_,?_,?_,?_,?_,?_,?_,?_,?_,?_,?_⟩
    ·rintro jj τ ⟨n5,v5,ob5⟩ hjj ⟨w,fw,hw,cw,hn5,old5,x0,x3,x4,x29,x30,x31,x5,x6,x8,x10,x37,x38,x39,x68,x69,x70⟩ ih3;have hn5':n4+1<=n5:=hn5;have old5':∀j,j<n4 ->ob5.get j=ob4.get j:=old5;dsimp only at cw;have hoj:ol[jj]? =some ol[jj]:=ba hjj;generalize hu:ol[jj]=u at hoj;have e2:sub (ol.flatMap bS) (jj*2) 2=some [.b u.1,.i .i64 (u.2:Int)]:=aB bz hoj (j:=0) (n:=2) ω;have rrc5:cG (ob5.get oo)=some (ol.flatMap bS):=by rw[old5' oo ω];exact rrc
     have tk:=eP hoj;cases h2:u.1 with
     |true=>
      rw[h2] at e2;refine F4 x0 x3 x4 x29 x30 x31 x5 x6 x8 x10 x37 x38 x39 x68 x69 x70 rrc5 e2 @ar ?_;refine E.con (cc _) ?_;refine Y21 x0 x3 x4 x29 x30 x31 x5 x6 x8 x10 x37 x38 x39 x68 x69 x70 rrc5 e2 cw @cT.eq_1 @ar ?_;refine ih3 _ _ ⟨cN,lK,.inl rfl,?_,by show n4+1<=n5+1;omega,fun j' hj'=> ?_,?_,?_,?_,?_,?_,?_,?_,?_,?_,?_,?_,?_,?_,?_,?_,?_⟩
      ·exact U0
      ·exact W0 (old5' j' hj')
      all_goals simp only[T.get_put,Nat.reduceEqDiff,reduceIte,x0,x3,x4,x29,x30,x31,x5,x6,x8,x10,x37,x38,x39,x68,x69]
     |false=>
      rw[h2] at e2;refine F4 x0 x3 x4 x29 x30 x31 x5 x6 x8 x10 x37 x38 x39 x68 x69 x70 rrc5 e2 @ar ?_;refine ih3 _ _ ⟨w,fw,hw.imp id (fun h=>⟨h.1,fun z hz=> ?_⟩),?_,by show n4+1<=n5+1;omega,fun j' hj'=> ?_,?_,?_,?_,?_,?_,?_,?_,?_,?_,?_,?_,?_,?_,?_,?_,?_⟩
      ·rw[tk] at hz;rcases eV.1 hz with h'|h'
       ·exact h.2 z h'
       ·rw[dY.1 h'];exact h2
      ·exact W0 cw
      ·exact W0 (old5' j' hj')
      all_goals simp only[T.get_put,Nat.reduceEqDiff,reduceIte,x0,x3,x4,x29,x30,x31,x5,x6,x8,x10,x37,x38,x39,x68,x69]
    ·rintro τ ⟨n5,v5,ob5⟩ ⟨w,fw,hw,cw,hn5,old5,x0,x3,x4,x29,x30,x31,x5,x6,x8,x10,x37,x38,x39,x68,x69,x70⟩;have hn5':n4+1<=n5:=hn5;have old5':∀j,j<n4 ->ob5.get j=ob4.get j:=old5;dsimp only at cw;rw[m8] at hw;have cw':=cw;simp only[cT] at cw';have low5:∀j,j<n1 ->j≠s ->ob5.get j=ob1.get j:=fun j h1 h2=>by rw[old5' j ω,old4' j ω,low3' j ω,old2' j h1 h2]
     have q6:cG (ob5.get n1)=some (cC p):=by rw[old5' n1 ω];exact rr6
     have qs:mG (ob5.get s)=mS St2:=by rw[old5' s ω];exact rrs
     by_cases hb:w=cN
     ·have rz:(((ax w).2:Nat):Int)=0:=by rw[hb];rfl
      refine F4 x0 x3 x4 x29 x30 x31 x5 x6 x8 x10 x37 x38 x39 x68 x69 x70 cw' rz @ar ?_;refine ih2 _ _ ⟨St2,so2,qs,by show n1+1<=n5;omega,low5,q6,?_,?_,?_,?_,?_,?_,?_,?_,?_,?_,?_⟩;all_goals simp only[T.get_put,Nat.reduceEqDiff,reduceIte,x0,x3,x4,x29,x30,x31,x5,x6,x8,x10,x37,x38,x39,x68,x69]
     ·have rz:(((ax w).2:Nat):Int)=0↔False:=⟨fun h=>hb ((yL fw).1 ω),False.elim⟩;have q8:cG (ob5.get n2)=some [.b y.1,.i .i64 (y.2:Int)]:=by rw[old5' n2 ω];exact rr8
      have q4:cG (ob5.get (s+1))=some [.m s]:=by rw[old5' (s+1) ω];exact rr4
      simp only[cC] at q6;refine Y22 x0 x3 x4 x29 x30 x31 x5 x6 x8 x10 x37 x38 x39 x68 x69 x70 cw' rz q6 q8 q4 @ar ?_;have hlt:p.left<y.2/\ y.2<g.nts.length:=by
       have yin:y.2<g.nts.length:=by
        rcases pk.sym y (bJ hrj) with ⟨h2,_⟩|⟨_,h2⟩
        ·rw[h1] at h2;cases h2
        ·exact h2
       refine⟨?_,yin⟩;obtain⟨hwd,hnt⟩:=hw.resolve_left hb;have hmem:∀(j':Nat) s',j'≠j ->p.right[j']? =some s' ->s'∈ol:=by
        intro j' s' hne hs';rw[←hol];unfold dC;rw[eV];by_cases hlt:j'<j
        ·left;refine bJ (i:=j') ?_;rw[iL,if_pos hlt];exact hs'
        ·right;refine bJ (i:=j'-(j+1)) ?_;rw[lj,show j+1+(j'-(j+1))=j' by omega];exact hs'
       have ht:∀s∈p.right,s.1=false:=by
        intro s' hs';obtain⟨j',hlt',hj'⟩:=rL.1 hs';have hj2:p.right[j']? =some s':=by rw[←hj'];exact ba hlt'
        by_cases hne:j'=j
        ·subst hne;rw[hrj] at hj2;cases hj2;exact h1
        ·exact hnt _ (hmem j' s' hne hj2)
       rcases Y.st p hpm ht j y.2 (by rw[hrj,←h1]) with h|⟨j',z,hne,hj',hz⟩
       ·exact h
       ·refine absurd (hwd.trans ?_) hb;rw[←hd1];exact I7 ok _ _ fp (.inr ⟨_,hmem j' _ hne hj',rfl,ok.at_z hz⟩)
      refine E.run (SL (p:=(p.left,y.2)) (l:=St2) S E D F ?_ _ ?_ (by show s<n5+1;omega))
      ·exact W0 qs
      rintro⟨n6,v6,ob6⟩ hn6 old6;have hn6':n5+1<=n6:=hn6;have old6':∀j,j<n5+1 ->ob6.get j=_:=old6;have old6b:∀j,j<n5 ->ob6.get j=ob5.get j:=fun j hj=>by rw[old6' j ω];exact U0
      have fs:=so2.at_f (p.left,y.2);have fo:ew 3 (eF (fun x y=>x||y) (KN St2 (p.left,y.2)) w)=true:=cH fs fw;have co:=fun h=>GN S D (A _ fs) (A _ fw) h
      have cm:=fun t h=>qe S F t h
      generalize hx:eF (fun x y=>x||y) (KN St2 (p.left,y.2)) w=x at*;simp only[eT,eD] at co cm;have z13:cG (ob6.get n5)=some [.i .i64 (p.left:Int),.i .i64 (y.2:Int)]:=by rw[old6' n5 ω];exact U0
      have z4:cG (ob6.get (s+1))=some [.m s]:=by rw[old6b (s+1) ω,old5' (s+1) ω];exact rr4
      have zs:mG (ob6.get s)=mS St2:=by rw[old6b s ω];exact qs
      have z10:cG (ob6.get n4)=some [fG (ax w).1,.i .i64 ((ax w).2:Int)]:=by rw[old6b n4 ω];exact cw'
      simp only[eT,eD];refine QU x0 x3 x4 x29 x30 x31 x5 x6 x8 x10 x37 x38 x39 x68 x69 x70 z13 z4 z10 @ar ?_;refine E.con (co _) ?_;refine QU x0 x3 x4 x29 x30 x31 x5 x6 x8 x10 x37 x38 x39 x68 x69 x70 z13 z4 z10 @ar ?_;refine E.con (cm _ _) ?_;have mu:∀nx' ver' ob' (τ:T AV),mG (T.get ob' s)=mS St2 ->bp C τ (.t 86)= .m s ->bp C τ (.t 87)=eK (p.left,y.2) ->bp C τ (.t 95)= .ag [fG (ax x).1,.i .i64 ((ax x).2:Int)] ->
       step (bp C τ) ⟨nx',ver',ob'⟩ (.mupd (.ag [(0,1,false,.lf .i),(1,1,false,.lf .i)]) (.t 86) (.t 87) (.t 95))= .v .un ⟨nx',ver'+1,ob'.put s (.map (ver'+1) (cV eK eT 0 (ups (p.left,y.2) x St2)) (ups (p.left,y.2) x St2).length)⟩:=
       fun nx' ver' ob' τ q1 q2 q3 q4=>gH (k:=(p.left,y.2)) (v:=x) (en:=eT) Xh (h:=⟨nx',ver',ob'⟩) (bA.2 q1) q2 q3 q4
      simp only[eK] at mu;refine Z22 x0 x3 x4 x29 x30 x31 x5 x6 x8 x10 x37 x38 x39 x68 x69 x70 z13 z4 z10 zs mu @ar ?_;refine ih2 _ _ ⟨ups (p.left,y.2) x St2,so2.ups fo hlt.1 hlt.2,?_,by show n1+1<=n6;omega,fun j' h1 h2=> ?_,?_,?_,?_,?_,?_,?_,?_,?_,?_,?_,?_,?_⟩
      ·exact U0
      ·simp(disch:=omega) only[cF,T.get_put,if_false];rw[old6b j' ω];exact low5 j' h1 h2
      ·simp(disch:=omega) only[cF,T.get_put,if_false];rw[old6b n1 ω];rw[old5' n1 ω];exact rr6
      all_goals simp only[T.get_put,Nat.reduceEqDiff,reduceIte,x0,x3,x4,x29,x30,x31,x5,x6,x8,x10,x37,x38,x39,x68,x69]
    ·exact U0
    ·exact bK _
    ·intro j' hj';exact U0
    all_goals simp only[T.get_put,Nat.reduceEqDiff,reduceIte,w0,w3,w4,w5,w6,w8,w9,w29,w30,w31,w37,w38,w39,Wn]
  ·rintro τ ⟨n2,v2,ob2⟩ ⟨St2,so2,ms2,hn2,old2,c6,u0,u3,u4,u29,u30,u31,u5,u6,u37,u38,u39⟩;have hn2':n1+1<=n2:=hn2;have old2':∀j,j<n1 ->j≠s ->ob2.get j=ob1.get j:=old2;refine BR u0 u3 u4 u29 u30 u31 u5 u6 u37 u38 u39 @ar ?_;refine ih _ _ ⟨St2,so2,ms2,by show m<=n2;omega,fun j h1 h2=> ?_,?_,?_,?_,?_,?_,?_⟩
   ·show ob2.get j=_;rw[old2' j ω h2];exact old1' j h1 h2
   all_goals exact U5 u0 u3 u4 u29 u30
  ·exact W0 ms1
  ·exact bK _
  ·intro j h1 h2;exact U0
  ·exact U1 @cC.eq_1
  all_goals exact U6 s0 s3 s4 s29 s30 s31
 ·rintro τ ⟨n1,v1,ob1⟩ ⟨St,so,ms1,hn1,old1,s0,s3,s4,s29,s30,s31⟩;refine Y7 s0 s3 s4 s29 s30 s31 @ar ?_;refine hk St _ _ so ms1 hn1 old1 ?_ ?_ ?_<;>exact U3 s0 s3 s4
 all_goals exact U3 t0 t3 t4
end
end
end AM
