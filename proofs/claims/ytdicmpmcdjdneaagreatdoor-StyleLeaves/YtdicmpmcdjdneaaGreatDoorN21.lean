import Derived.Test.YtdicmpmcdjdneaaGreatDoorN20
set_option linter.all false
set_option maxHeartbeats 2000000
namespace AM
open Dg Go
noncomputable section
def mT (l:List (Nat×Tr)):Option (List (AV×AV×Nat)×Nat):=some (di (λn:Nat=>AV.i .i64 (n:Int)) eT 0 l,l.length)
def fF (l:List (Nat×Tr)) (i:Nat):Tr:=(look i l).getD gq
structure nZ (n:Nat) (Z:Nat ->Bool) (l:List (Nat×Tr)):Prop where
 f:∀(i:Nat) t,look i l=some t ->cA 3 t=true/\ i<n
 z:∀(i:Nat) t,look i l=some t ->Z i=true ->t=gq
def nZ.at_f {n Z l} (m:nZ n Z l) i:cA 3 (fF l i)=true:=by
 unfold fF;rcases h:look i l with _|t;exact EC;exact(m.f i t h).1
variable {i:Nat}
def nZ.at_z {n Z l} (m:nZ n Z l) (j:Z i=true):fF l i=gq:=by
 unfold fF;rcases h:look i l with _|t;rfl;exact m.z i t h j
def aU4:(iy 3).all (λt=>decide ((aE t).2=0 ->t=gq))=true:=lR
def Kj {t} (h:cA 3 t=true):(aE t).2=0↔t=gq:=by
 constructor;have:=fX.1 aU4 t (Ie h);exact decide_eq_true_eq.mp this;rintro rfl;rfl
variable {P:Program} {X:aR} {GL:T (List AV)} {ae:T au}
variable (S:aT P X GL ae)
variable (F:bz8 ae)
def Bx t h:bP P X GL 157 [eT t,ι 0] h (eT t) h:=by
 refine dR S (n:=9) ?_ (by simp only[aL,jB,bZ,dH]) h;refine bg.intro λC E=> ?_;refine E.bS (F.f 157) (Y2 @eT.eq_1 @eD.eq_1 ?_);exact⟨9,qU _ _⟩
variable {C:aK Prop} (E:Sem P X GL ae C)
variable {h:AH} {o:Nat}
def EI (D:bz8 ae) (F:bz8 ae) {l} (J:mG (h.oB.get o)=mT l) k
 (G:∀h',h.next<=h'.next ->(∀j,j<h.next ->h'.oB.get j=h.oB.get j) ->k (eT (fF l i)) h') (N:o<h.next):du C 164 [.m o,ι (i)] h k:=by
 obtain⟨m,ver,ob⟩:=h;have W:o<m:=N;dsimp only at J;have L:∀B ob' (τ:T AV),mG (T.get ob' o)=mT l ->az C τ (.t 8)= .m o ->az C τ (.t 9)=ι (i:Int) ->
  step (az C τ) ⟨m+1,B,ob'⟩ (.look (.lf .i) (.t 8) (.t 9) (.ag [.sn,ι 0]) true)= .v (Bb eT (.ag [.sn,ι 0]) (look i l)) ⟨m+1,B,ob'⟩:=
  λB ob' τ R U V=>uQ (k:=i) (z:= .ag [.sn,ι 0]) (en:=eT) lW (h:=⟨m+1,B,ob'⟩) (fT.2 R) U V
 have cc:=λh=>IW S D false h;have e0:eT (yU false 3)= .ag [.sn,ι 0]:=rfl;rw[e0] at cc;rw[E.cB (F.f 164)];rcases H:look i l with _|t;have A:fF l i=gq:=by unfold fF;rw[H];rfl
 rw[A] at G;simp(disch:=first|omega|(exact U1 J)) only[L,H,Bb,↓sA E.ok,Nat.reduceAdd,↓reduceIte,go_sem];refine E.cN (cc _) (Y0 ?_);refine G _ (by show m<=m+1+1;omega) λj I=> ?_;have O:j<m:=I;exact U0;have A:fF l i=t:=by unfold fF;rw[H];rfl
 rw[A] at G;refine Z6 L H @Bb.eq_1 J @eT.eq_1 @eD.eq_1 ?_;refine G _ (by show m<=m+1+1;omega) λj I=> ?_;have O:j<m:=I;exact U0
def oR (l:List (Nat×Tr)) (d:Tr) (s:Bool×Nat):Tr:=if s.1 then d else cY (λx y=>x&&y) d (fF l s.2)
def pA (l:List (Nat×Tr)) (d:Tr) (r:List (Bool×Nat)):Tr:=r.foldl (oR l) d
def EJ {n Z l} (m:nZ n Z l):∀r d,cA 3 d=true ->cA 3 (pA l d r)=true
 |[],_,h=>h
 |s::r,d,h=>by
  refine EJ m r _ ?_;unfold oR;split;exact h;exact jd h (m.at_f _)
def aU5 {l d} {r:List (Bool×Nat)} {s} (h:r[i]? =some s):pA l d (r.take (i+1))=oR l (pA l d (r.take i)) s:=by
 unfold pA;rw[nY h,xH];rfl
def Te {n Z l} (m:nZ n Z l):∀r d,cA 3 d=true ->(d=gq∨∃s∈r,s.1=false/\ fF l s.2=gq) ->pA l d r=gq:=by
 intro r;induction r with
 |nil=>
  intro d _ h;rcases h with h|⟨s,h,_⟩;exact h;simp at h
 |cons s r A=>
  intro d hd h;show pA l (oR l d s) r=gq;have fs:cA 3 (oR l d s)=true:=by
   unfold oR;split;exact hd;exact jd hd (m.at_f _)
  refine A _ fs ?_;rcases h with rfl|⟨t,j,h1,h2⟩;left;unfold oR;split;rfl;exact EE (m.at_f _);rcases ey.1 j with rfl|j;left;unfold oR;rw[h1,h2];exact Kd hd;exact .inr ⟨t,j,h1,h2⟩
def Tf (A:dY P X GL) (D:bz8 ae) (F:bz8 ae) {n Z l} (ml:nZ n Z l) (hm:mG (h.oB.get o)=mT l) (ho:o<h.next) {d} (fd:cA 3 d=true) {r rv} (hr:aR6 h rv r) (b5:r.length<=1000) k
 (hk:∀h',h.next<=h'.next ->(∀j,j<h.next ->h'.oB.get j=h.oB.get j) ->k (eT (pA l d r)) h'):du C 160 [eT d,rv,.m o] h k:=by
 obtain⟨m,ver,ob⟩:=h;have bT:o<m:=ho;dsimp only at hm;have sr:ew rv=true/\ cellsO rv=some [rv]/\∀h,kg h rv= .v (ι (r.length:Int)) h:=by
  rcases hr with ⟨nl,rfl⟩|⟨o,c',rfl,_,_⟩;exact⟨uZ,Ry,λh=>dw⟩;exact⟨rfl,rfl,λh=>rfl⟩
 have lr:=sr.2.2;refine E.bS (F.f 160) (Y3 @eT.eq_1 @eD.eq_1 lr ?_);refine fj E.ok r.length (λi τ h=>m+2<=h.next/\ (∀j,j<m ->h.oB.get j=ob.get j)/\ cG (h.oB.get m)=some (cT (pA l d (r.take i)))/\ cG (h.oB.get (m+1))=some [.sn,ι 0]/\ τ.get 2=some (.m o)/\ τ.get 3=some (.p m 0)/\ τ.get 6=some (.p (m+1) 0)/\ τ.get 9=some rv/\ τ.get 10=some (ι (r.length:Int))/\ τ.get 11=some (ι (i:Int))) ?_ ?_ _ _ ⟨?_,?_,?_,?_,?_,?_,?_,?_,?_,?_⟩
 ·rintro i τ ⟨n1,v1,I⟩ hi ⟨dS,old,c0,c1,t2,t3,t6,t9,t10,J⟩ ih;have V:m+2<=n1:=dS;have gu:∀j,j<m ->I.get j=ob.get j:=old;have H:r[i]? =some r[i]:=ef hi;generalize hs:r[i]=s at H;have fw:=EJ ml (r.take i) d fd;have wt:=aU5 (l:=l) (d:=d) H;generalize hw:pA l d (r.take i)=w at*;have de:=c0;simp only[cT] at c0;have b1:mG (I.get o)=mT l:=by rw[gu o bT];exact hm
  have q:∃pv,(∀h,h.oB=I ->nU h 2 i rv= .v pv h)/\ ((∃c a,pv= .dp c a/\ sub c a 2=some [.b s.1,ι (s.2:Int)])∨(∃o2 a,pv= .p o2 a/\ o2<m/\∃L,cG (I.get o2)=some L/\ sub L a 2=some [.b s.1,ι (s.2:Int)])):=by
   rcases hr with ⟨nl,rfl⟩|⟨o2,c',rfl,b2,Y⟩;exact⟨.dp (r.flatMap dO) (i*2),λh _=>bG hi,.inl ⟨_,_,rfl,cW gO H (j:=0) (n:=2) ω⟩⟩;refine⟨.p o2 (0+i*2),λh _=> ?_,.inr ⟨o2,0+i*2,rfl,Y,r.flatMap dO,?_,?_⟩⟩
   grind[Rx]
   rw[gu o2 Y];exact b2;rw[gB];exact cW gO H (j:=0) (n:=2) ω
  obtain⟨pv,b0,O⟩:=q;have G:∀v',nU ⟨n1,v',I⟩ 2 i rv= .v pv ⟨n1,v',I⟩:=λv'=>b0 _ rfl;have fin:∀(B:T bC) (R:Nat) (τ':T AV),m+2<=R ->(∀j,j<m ->B.get j=I.get j) ->cG (B.get m)=some (cT (oR l w s)) ->cG (B.get (m+1))=some [.sn,ι 0] ->τ'.get 2=some (.m o) ->τ'.get 3=some (.p m 0) ->τ'.get 6=some (.p (m+1) 0) ->τ'.get 9=some rv ->τ'.get 10=some (ι (r.length:Int)) ->τ'.get 11=some (ι ((i+1:Nat):Int)) ->(m+2<=R/\ (∀j,j<m ->B.get j=ob.get j)/\ cG (B.get m)=some (cT (pA l d (r.take (i+1))))/\ cG (B.get (m+1))=some [.sn,ι 0]/\ τ'.get 2=some (.m o)/\ τ'.get 3=some (.p m 0)/\ τ'.get 6=some (.p (m+1) 0)/\ τ'.get 9=some rv/\ τ'.get 10=some (ι (r.length:Int))/\ τ'.get 11=some (ι ((i+1:Nat):Int))):=
   λB R τ' a1 a2 a3 a4 a5 a6 a7 a8 a9 a10=>⟨a1,λj N=>(a2 j N).trans (gu j N),by rw[wt];exact a3,a4,a5,a6,a7,a8,a9,a10⟩
  cases h1:s.1 with
  |true=>
   have st:oR l w s=w:=by unfold oR;rw[h1];rfl
   rcases O with ⟨c,a,rfl,e2⟩|⟨o2,a,rfl,W,L,U,e2⟩<;>
    (
     rw[h1] at e2;refine Y5 t9 t10 J G e2 ?_;try refine Y3 J U e2 ?_
     refine ih _ _ (fin _ _ _ (by show m+2<=n1+1;omega) ?_ ?_ ?_ ?_ ?_ ?_ ?_ ?_ ?_);intro j N;exact U0;rw[st];exact W0 de;exact W0 c1;all_goals exact U5 t2 t3 t6 t9 t10)
  |false=>
   have st:oR l w s=cY (λx y=>x&&y) w (fF l s.2):=by unfold oR;rw[h1];rfl
   by_cases hb:w=gq
   ·have b3:oR l w s=w:=by rw[st,hb];exact EE (ml.at_f _)
    have rz:(((aE w).2:Nat):Int)=0:=by rw[hb];rfl
    rcases O with ⟨c,a,rfl,e2⟩|⟨o2,a,rfl,W,L,U,e2⟩<;>
     (
      rw[h1] at e2;refine Y8 c0 t3 t9 t10 J G e2 rz ?_;try refine Y6 c0 t3 J U e2 rz ?_
      refine ih _ _ (fin _ _ _ (by show m+2<=n1+1;omega) ?_ ?_ ?_ ?_ ?_ ?_ ?_ ?_ ?_);intro j N;exact U0;rw[b3];exact W0 de;exact W0 c1;all_goals exact U5 t2 t3 t6 t9 t10)
   ·have rz:(((aE w).2:Nat):Int)=0↔False:=⟨λh=>hb ((Kj fw).1 ω),False.elim⟩;have fa:=ml.at_f s.2;have ca:=λh=>D7 S D (A.dia fw) (A.dia fa) h;simp only[eT,eD] at ca;have cm:=λt h=>Bx S F t h;simp only[eT,eD] at cm;rcases O with ⟨c,a,rfl,e2⟩|⟨o2,a,rfl,W,L,U,e2⟩<;>
     (
      rw[h1] at e2;refine Y9 c0 t2 t3 t9 t10 J G e2 rz ?_;try refine Y6 c0 t2 t3 U e2 rz ?_
      refine E.run (EI (l:=l) S E D F ?_ _ ?_ (by show o<n1+1;omega));exact W0 b1;rintro⟨R,v2,B⟩ hn2 eG;have b4:n1+1<=R:=hn2;have cQ:∀j,j<n1+1 ->B.get j=_:=eG;have g0:cG (B.get m)=some (cT w):=by rw[cQ m ω];exact W0 de
      have g1:cG (B.get (m+1))=some [.sn,ι 0]:=by rw[cQ (m+1) ω];exact W0 c1
      simp only[cT] at g0;simp only[eT,eD];refine Y2 g0 t3 ?_;refine E.cN (ca _) (Y2 g0 t3 ?_);refine E.cN (cm _ _) (Y3 g0 t3 J ?_);refine ih _ _ (fin _ _ _ (by show m+2<=R;omega) ?_ ?_ ?_ ?_ ?_ ?_ ?_ ?_ ?_);intro j N;simp(disch:=omega) only[dh,T.get_put,bV];rw[cQ j ω];exact U0;rw[st];exact U1 @cT.eq_1;exact W0 g1;all_goals exact U5 t2 t3 t6 t9 t10)
 rintro τ ⟨n1,v1,I⟩ ⟨dS,old,c0,c1,t2,t3,t6,t9,t10,J⟩;have V:m+2<=n1:=dS;rw[mR] at c0;simp only[cT] at c0;refine Y6 c0 c1 t3 t6 t10 J ?_;refine hk _ (by show m<=n1;omega) λj N=> ?_;have m9:j<m:=N;exact W0 (old j m9)
 grind
 intro j N;exact U0;simp(disch:=omega) only[dh,T.get_put,bV,dZ,d9,Cf];rfl;exact U0;all_goals exact U0
def xb:rO (some [])=some (.tu []):=rfl
def iX (n:Nat) (l:List (Nat×Tr)):Nat:=((List.range n).map λi=>Ec (fF l i)).sum
def Kk {l j x}:fF (ups i x l) j=if j=i then x else fF l j:=by
 grind[Fh,fF]
def Tg {f g:Nat ->Nat} {i}:∀{n},i<n ->(∀j,j≠i ->g j=f j) ->((List.range n).map g).sum+f i=((List.range n).map f).sum+g i
 |0,h,_=>by omega
 |n+1,h,e=>by
  rw[zD,kE,kE,FG,FG];simp only[jY,uf,Lt,List.sum_nil,vG];by_cases hi:i=n;subst hi;have:(List.range i).map g=(List.range i).map f:=X2 λj A=>e j (by have:=mA.1 A;omega);rw[this];omega;have:=Tg (n:=n) (i:=i) ω e;rw[e n (λh=>hi h.symm)];omega
def Th {n l x} (hi:i<n):iX n (ups i x l)+Ec (fF l i)=iX n l+Ec x:=by
 have:=Tg (f:=λj=>Ec (fF l j)) (g:=λj=>Ec (fF (ups i x l) j)) hi (λj A=>by rw[Kk,aD A]);simp only[Kk,dZ] at this;unfold iX;simp only[Kk];exact this
def EL {n Z l} (m:nZ n Z l):iX n l<=8*n:=by
 unfold iX;have:∀k,((List.range k).map λi=>Ec (fF l i)).sum<=8*k:=by
  intro k;induction k with
  |zero=>simp
  |succ k j=>
   rw[zD,kE,FG];have:=Kc (m.at_f k);simp only[jY,uf,Lt,List.sum_nil];omega
 exact this n
theorem nZ.ups {n Z l} (m:nZ n Z l) {i:Nat} {x:Tr} (hi:i<n) (B:cA 3 x=true) (D:Z i=true ->x=gq):nZ n Z (ups i x l) where
 f:=λj t h=>by
  rw[Fh] at h;split at h
  grind
  exact m.f j t h
 z:=λj t h A=>by
  rw[Fh] at h;split at h
  grind
  exact m.z j t h A
structure A0 (n:Nat) (Z:Nat ->Bool) (bm o bc:Nat) (l:List (Nat×Tr)) (c:Bool) (h:AH):Prop where
 m:mG (h.oB.get o)=mT l
 ok:nZ n Z l
 cb:cG (h.oB.get bm)=some [.m o]
 cc:cG (h.oB.get bc)=some [.b c]
 lt:o<h.next/\ bm<h.next/\ bc<h.next
 ne:bm≠o/\ bc≠o/\ bm≠bc
def aU6 (A:dY P X GL) (D:bz8 ae) (F:bz8 ae) {n Z G B l c} (fx:A0 n Z G o B l c h) (hi:i<n) {d} (U:cA 3 d=true) (hz:Z i=true ->d=gq) k
 (hk:∀l' c' h',A0 n Z G o B l' c' h' ->h.next<=h'.next ->(∀j,j<h.next ->j≠o ->j≠B ->h'.oB.get j=h.oB.get j) ->iX n l<=iX n l' ->(c'=true ->c=true∨iX n l<iX n l') ->k (.tu []) h'):
 du C 407 [ι (i),eT d,.p G 0,.p B 0] h k:=by
 obtain⟨m,ver,ob⟩:=h;obtain⟨V,ok,cb,cc,⟨b1,b2,b3⟩,H,I,J⟩:=fx;have b5:o<m:=b1;have b6:G<m:=b2;have b7:B<m:=b3;dsimp only at V cb cc;have cm:=λt h=>Bx S F t h;simp only[eT,eD] at cm;rw[E.cB (F.f 407)];by_cases hb:d=gq;have rz:(((aE d).2:Nat):Int)=0:=by rw[hb];rfl
 refine Y4 @eT.eq_1 @eD.eq_1 rz @xb ?_;refine hk l c _ ⟨(W0 V),ok,(W0 cb),(W0 cc),⟨by show o<m+1;omega,by show G<m+1;omega,by show B<m+1;omega⟩,H,I,J⟩ (by show m<=m+1;omega) (λj L _ _=> ?_) (bB _) (λh=> .inl h);have W:j<m:=L;exact U0;have rz:(((aE d).2:Nat):Int)=0↔False:=⟨λh=>hb ((Kj U).1 ω),False.elim⟩;have R:=ok.at_f i;have fo:cA 3 (cY (λx y=>x||y) (fF l i) d)=true:=jd R U;have co:=λh=>IG S D (A.dia R) (A.dia U) h;have cs:=λh=>RC S D (A.dia R) (A.dia fo) h;simp only[eT,eD] at co cs;refine Y4 @eT.eq_1 @eD.eq_1 rz cb ?_;refine E.run (EI (l:=l) S E D F ?_ _ ?_ (by show o<m+1;omega));exact W0 V;rintro⟨n2,v2,aJ⟩ hn2 eG;have b4:m+1<=n2:=hn2;have O:∀j,j<m+1 ->aJ.get j=_:=eG;have Y:cG (aJ.get m)=some [tp (aE d).1,ι ((aE d).2:Int)]:=by rw[O m ω];exact U0
 have gb:cG (aJ.get G)=some [.m o]:=by rw[O G ω];exact W0 cb
 have gc:cG (aJ.get B)=some [.b c]:=by rw[O B ω];exact W0 cc
 have gm:mG (aJ.get o)=mT l:=by rw[O o ω];exact W0 V
 have gl:∀j,j<m ->aJ.get j=ob.get j:=λj L=>by rw[O j ω];exact U0
 simp only[eT,eD];refine Y1 Y ?_;refine E.cN (co _) (Y1 Y ?_);refine E.cN (cm _ _) (Y1 Y ?_);refine E.cN (cs _) ?_;have sF:=ED (k:=3) R U;have su:=Th (l:=l) (x:=cY (λx y=>x||y) (fF l i) d) hi;by_cases he:fF l i=cY (λx y=>x||y) (fF l i) d;have hd:decide (fF l i=cY (λx y=>x||y) (fF l i) d)=true:=zG he;rw[hd];refine Y1 @xb ?_;refine hk l c _ ⟨(W0 gm),ok,(W0 gb),(W0 gc),⟨by show o<n2+1+1;omega,by show G<n2+1+1;omega,by show B<n2+1+1;omega⟩,H,I,J⟩ (by show m<=n2+1+1;omega) (λj L _ _=> ?_) (bB _) (λh=> .inl h);have W:j<m:=L;exact W0 (gl j W);have hd:decide (fF l i=cY (λx y=>x||y) (fF l i) d)=false:=ot he;rw[hd];have mu:∀N ob' (τ:T AV),mG (T.get ob' o)=mT l ->az C τ (.t 24)= .m o ->az C τ (.t 25)=ι (i:Int) ->az C τ (.t 26)= .ag [tp (aE (cY (λx y=>x||y) (fF l i) d)).1,ι ((aE (cY (λx y=>x||y) (fF l i) d)).2:Int)] ->
  step (az C τ) ⟨n2+1+1,N,ob'⟩ (.mupd (.lf .i) (.t 24) (.t 25) (.t 26))= .v .un ⟨n2+1+1,N+1,ob'.put o (.map (N+1) (di (λn:Nat=>AV.i .i64 (n:Int)) eT 0 (ups i (cY (λx y=>x||y) (fF l i) d) l)) (ups i (cY (λx y=>x||y) (fF l i) d) l).length)⟩:=
  λN ob' τ q1 q2 q3 q4=>mL (k:=i) (v:=cY (λx y=>x||y) (fF l i) d) (en:=eT) lW (h:=⟨n2+1+1,N,ob'⟩) (fT.2 q1) q2 q3 q4
 refine Z5 gb gc mu gm @xb ?_;refine hk (ups i (cY (λx y=>x||y) (fF l i) d) l) true _ ⟨?_,ok.ups hi fo (λb0=>bh (hz b0) hb),?_,?_,⟨by show o<n2+1+1;omega,by show G<n2+1+1;omega,by show B<n2+1+1;omega⟩,H,I,J⟩ (by show m<=n2+1+1;omega) (λj L h1 h2=> ?_) ω (λ_=> .inr (by have:=sF.2 (λh=>he h.symm);omega));exact U0;exact W0 gb;exact U0;have W:j<m:=L;exact W0 (gl j W)
structure By (h:AH) (oa op:Nat) (g:Gr):Prop where
 a:cG (h.oB.get oa)=some (bx g++[.sl op 0 g.pR.length none 2])
 p:cG (h.oB.get op)=some ((g.pR.map (jh g)).flatMap cT)
def aU7 (A:dY P X GL) (D:bz8 ae) (F:bz8 ae) {g} (G:oy g) {Z} (Y:iQ g Z) {oa op b2 b3 b5 J I l c} (fx:A0 g.nT.length Z J o I l c h) (an:By h oa op g)
 (q2:cG (h.oB.get b2)=some [.p oa 0]) (q3:cG (h.oB.get b3)=some [.b true]) (q5:cG (h.oB.get b5)=some [.m o]) (low:oa<o/\ op<o/\ b2<o/\ b3<o/\ o<b5/\ b5<J/\ J<I) (k)
 (hk:∀l' c' h',A0 g.nT.length Z J o I l' c' h' ->h.next<=h'.next ->(∀j,j<h.next ->j≠o ->j≠I ->h'.oB.get j=h.oB.get j) ->iX g.nT.length l<=iX g.nT.length l' ->(c'=true ->c=true∨iX g.nT.length l<iX g.nT.length l') ->k (.tu []) h'):
 du C 273 [.f 407 [] [.p J 0,.p I 0],.p b2 0,.p b3 0,.p b5 0] h k:=by
 obtain⟨m,ver,ob⟩:=h;obtain⟨i2,i3,i4,i5,i6,i8,i9⟩:=low;have j0:I<m:=fx.lt.2.2;have pl:=G.pl;have ntl:=G.ntl;obtain⟨b0,d8⟩:=an;dsimp only at b0 d8 q2 q3 q5;have d6:=b0;simp only[bx,gw,gx] at b0;refine E.bS (F.f 273) (Y2 q2 b0 ?_);refine fj E.ok g.pR.length (λi τ h=>∃l' c',A0 g.nT.length Z J o I l' c' h/\ m<=h.next/\ (∀j,j<m ->j≠o ->j≠I ->h.oB.get j=ob.get j)/\ iX g.nT.length l<=iX g.nT.length l'/\ (c'=true ->c=true∨iX g.nT.length l<iX g.nT.length l')/\ τ.get 0=some (.f 407 [] [.p J 0,.p I 0])/\ τ.get 1=some (.p b2 0)/\ τ.get 2=some (.p b3 0)/\ τ.get 3=some (.p b5 0)/\ τ.get 13=some (eR aM 13 true g.pR)/\ τ.get 14=some (ι (g.pR.length:Int))/\ τ.get 15=some (ι (i:Int))) ?_ ?_ _ _ ⟨l,c,fx,bB _,λj _ _ _=>rfl,bB _,λh=> .inl h,?_,?_,?_,?_,?_,?_,?_⟩
 ·rintro i τ ⟨n1,v1,aQ⟩ hi ⟨l',c',B,dS,dD,d3,d4,t0,t1,t2,t3,d5,c6,c7⟩ ih;have h9:m<=n1:=dS;have H:∀j,j<m ->j≠o ->j≠I ->aQ.get j=ob.get j:=dD;have b1:g.pR[i]? =some g.pR[i]:=ef hi;generalize hp:g.pR[i]=p at b1;have d1:=dI b1;have ok:=G.p p d1;have rl:=ok.len;have f0:sub (g.pR.flatMap aM) (i*13) 13=some (aM p):=cW kr b1 (j:=0) (n:=13) ω;simp only[aM] at f0;have fp:=S7 G d1;refine Y4 d5 c6 c7 f0 ?_;refine fj E.ok p.right.length (λj τ h=>(∀s∈p.right.take j,s.1=false)/\ n1+1<=h.next/\ (∀j,j<n1 ->h.oB.get j=aQ.get j)/\ cG (h.oB.get n1)=some (aM p)/\ τ.get 0=some (.f 407 [] [.p J 0,.p I 0])/\ τ.get 1=some (.p b2 0)/\ τ.get 2=some (.p b3 0)/\ τ.get 3=some (.p b5 0)/\ τ.get 5=some (ι (i:Int))/\ τ.get 6=some (.p n1 0)/\ τ.get 13=some (eR aM 13 true g.pR)/\ τ.get 14=some (ι (g.pR.length:Int))/\ τ.get 15=some (ι (i:Int))/\ τ.get 21=some (eR dO 2 p.rn p.right)/\ τ.get 22=some (ι (p.right.length:Int))/\ τ.get 23=some (ι (j:Int))) ?_ ?_ _ _ ⟨?_,?_,?_,?_,?_,?_,?_,?_,?_,?_,?_,?_,?_,?_,?_,?_⟩
  ·rintro j τ ⟨R,v2,W⟩ hj ⟨nt,d0,eG,O,s0,s1,s2,s3,s5,s6,b4,b6,U,b7,V,b8⟩ h5;have g0:n1+1<=R:=d0;have N:∀j,j<n1 ->W.get j=aQ.get j:=eG;have d2:p.right[j]? =some p.right[j]:=ef hj;generalize hs:p.right[j]=s at d2;have e2:sub (p.right.flatMap dO) (j*2) 2=some [.b s.1,ι (s.2:Int)]:=cW gO d2 (j:=0) (n:=2) ω;have r3:cG (W.get b3)=some [.b true]:=by rw[N b3 ω,H b3 ω ω ω];exact q3
   cases h1:s.1 with
   |true=>
    rw[h1] at e2;refine Y7 r3 s2 U b7 V b8 e2 ?_;refine ih _ _ ⟨l',c',⟨?_,B.ok,?_,?_,⟨?_,?_,?_⟩,B.ne⟩,by show m<=R+1;omega,λj hj h1 h2=> ?_,d3,d4,?_,?_,?_,?_,?_,?_,?_⟩;simp(disch:=omega) only[dh,T.get_put,bV];rw[N o (by have:=B.lt.1;have h2:o<n1:=this;omega)];exact B.m;simp(disch:=omega) only[dh,T.get_put,bV];rw[N J ω];exact B.cb;simp(disch:=omega) only[dh,T.get_put,bV];rw[N I ω];exact B.cc;show o<R+1;omega;show J<R+1;omega;show I<R+1;omega;simp(disch:=omega) only[dh,T.get_put,bV];rw[N j ω];exact H j hj h1 h2;all_goals exact U6 s0 s1 s2 s3 b4 b6
   |false=>
    rw[h1] at e2;refine Y7 r3 s2 U b7 V b8 e2 ?_;refine h5 _ _ ⟨?_,by show n1+1<=R+1;omega,λj hj=> ?_,?_,?_,?_,?_,?_,?_,?_,?_,?_,?_,?_,?_,?_⟩;intro s' g1;rw[nY d2] at g1;rcases fO.1 g1 with h|h;exact nt s' h
    grind
    exact W0 (N j hj);exact W0 O;all_goals exact U11 s0 s1 s2 s3 s5 s6 b4 b6 U b7 V
  ·rintro τ ⟨R,v2,W⟩ ⟨nt,d0,eG,O,s0,s1,s2,s3,s5,s6,b4,b6,U,b7,V,b8⟩;have g0:n1+1<=R:=d0;have N:∀j,j<n1 ->W.get j=aQ.get j:=eG;rw[mR] at nt;have h6:o<n1:=B.lt.1;have r2:cG (W.get b2)=some [.p oa 0]:=by rw[N b2 ω,H b2 ω ω ω];exact q2
   have r5:cG (W.get b5)=some [.m o]:=by rw[N b5 ω,H b5 ω ω ω];exact q5
   have ra:cG (W.get oa)=some (bx g++[.sl op 0 g.pR.length none 2]):=by rw[N oa ω,H oa ω ω ω];exact d6
   have rp:cG (W.get op)=some ((g.pR.map (jh g)).flatMap cT):=by rw[N op ω,H op ω ω ω];exact d8
   simp only[bx,gw,gx] at ra;have f7:sub ((g.pR.map (jh g)).flatMap cT) (i*2) 2=some (cT (jh g p)):=cW J9 (L:=g.pR.map (jh g)) (i:=i) (a:=jh g p) (by rw[oh,b1];rfl) (j:=0) (n:=2) ω;simp only[cT] at f7;dsimp only at O;have f8:=O;simp only[aM] at O;have f9:mG (W.get o)=mT l':=by rw[N o h6];exact B.m
   refine pm r2 r5 ra rp f7 O s0 s1 s3 s5 s6 V b8 ?_;refine E.run (Tf (n:=g.nT.length) (Z:=Z) (l:=l') (d:=jh g p) (r:=p.right) S E A D F B.ok f9 (by show o<R;omega) fp (.inl ⟨p.rn,rfl⟩) ω _ ?_);rintro⟨n3,v3,cC⟩ hn3 old3;have i0:R<=n3:=hn3;have iN:∀j,j<R ->cC.get j=W.get j:=old3;have fw:=EJ B.ok p.right _ fp;have hz:Z p.left=true ->pA l' (jh g p) p.right=gq:=λh4=>by
    obtain⟨s,g2,h3⟩:=Y.z p d1 h4;have g3:=nt s g2;rcases h3 with h|h;rw[g3] at h;cases h;exact Te B.ok _ _ fp (.inr ⟨s,g2,g3,B.ok.at_z h⟩)
   generalize hw:pA l' (jh g p) p.right=w at*;simp only[eT,eD];have g5:cG (cC.get n1)=some (aM p):=by rw[iN n1 ω];exact f8
   have j3:cG (cC.get oa)=_:=(congrArg cG (iN oa ω)).trans ra;simp only[aM] at g5;refine Y3 g5 s0 s6 ?_;have g6:A0 g.nT.length Z J o I l' c' ⟨n3,v3,cC⟩:=
    ⟨by show mG (cC.get o)=_;rw[iN o ω];exact f9,B.ok,by show cG (cC.get J)=_;rw[iN J ω,N J ω];exact B.cb,by show cG (cC.get I)=_;rw[iN I ω,N I ω];exact B.cc,⟨by show o<n3;omega,by show J<n3;omega,by show I<n3;omega⟩,B.ne⟩
   refine E.run (aU6 (d:=w) S E A D F g6 ok.left fw hz _ ?_);rintro l2 c2 ⟨n4,v4,h7⟩ g7 g8 g4 j1 j2;have i1:n3<=n4:=g8;have h8:∀j,j<n3 ->j≠o ->j≠I ->h7.get j=cC.get j:=g4;refine Y1 U ?_;refine ih _ _ ⟨l2,c2,g7,by show m<=n4;omega,λj hj h1 h2=> ?_,by omega,λh=> ?_,?_,?_,?_,?_,?_,?_,?_⟩
   grind
   grind
   all_goals exact U6 s0 s1 s2 s3 b4 b6
  simp;exact bB _;intro j hj;exact U0;exact U1 @aM.eq_1;all_goals exact U7 t0 t1 t2 t3 d5 c6 c7
 rintro τ ⟨n1,v1,aQ⟩ ⟨l',c',B,dS,dD,d3,d4,t0,t1,t2,t3,d5,c6,c7⟩;refine Y3 c6 c7 @xb ?_;exact hk l' c' _ B dS dD d3 d4;all_goals exact U0
def aU8 (A:dY P X GL) (D:bz8 ae) (F:bz8 ae) {g} (G:oy g) {Z} (Y:iQ g Z) {oa op} (an:By h oa op g) (la:oa<h.next/\ op<h.next) k
 (hk:∀o l h',mG (h'.oB.get o)=mT l ->nZ g.nT.length Z l ->h.next<=h'.next ->h.next<=o ->o<h'.next ->(∀j,j<h.next ->h'.oB.get j=h.oB.get j) ->k (.m o) h'):
 du C 159 [.p oa 0,.b true] h k:=by
 obtain⟨m,ver,ob⟩:=h;obtain⟨L,N⟩:=an;have b0:oa<m:=la.1;have b1:op<m:=la.2;dsimp only at L N;have ntl:=G.ntl;refine E.bS (F.f 159) (Y0 ?_);refine E.run ?_;refine E.bS (F.f 272) (Y0 ?_);refine Qo E.ok (λx:List (Nat×Tr)×Bool=>2*(8*g.nT.length-iX g.nT.length x.1)+(if x.2 then 1 else 0)) (λx τ h=>∃H,A0 g.nT.length Z (m+4) (m+2) H x.1 x.2 h/\ m+5<=H/\ (∀j,j<m+4 ->j≠m+2 ->h.oB.get j=((((ob.put m (.cells ver [.p oa 0])).put (m+1) (.cells ver [.b true])).put (m+3) (.cells (ver+1) [.m (m+2)]))).get j)/\ τ.get 1=some (.f 273 [] [.p m 0,.p (m+1) 0,.p (m+3) 0])/\ τ.get 2=some (.p (m+4) 0)/\ τ.get 4=some (.p H 0)) ?_ ([],true) _ _ ⟨m+5,⟨?_,⟨λi t h=>by simp[look] at h,λi t h=>by simp[look] at h⟩,?_,?_,⟨?_,?_,?_⟩,⟨by omega,by omega,by omega⟩⟩,by omega,λj h1 h2=> ?_,?_,?_,?_⟩
 ·rintro⟨l,c⟩ τ ⟨n1,v1,aQ⟩ ⟨H,fx,hbc,old,t1,t2,t4⟩ ih;dsimp only at fx;have l1:m+2<n1:=fx.lt.1;have l2:m+4<n1:=fx.lt.2.1;have l3:H<n1:=fx.lt.2.2;have I:∀j,j<m+4 ->j≠m+2 ->aQ.get j=_:=old;have cc:=fx.cc;dsimp only at cc;have g0:cG (aQ.get m)=some [.p oa 0]:=by rw[I m ω ω];exact U0
  have g1:cG (aQ.get (m+1))=some [.b true]:=by rw[I (m+1) ω ω];exact U0
  have V:cG (aQ.get (m+3))=some [.m (m+2)]:=by rw[I (m+3) ω ω];exact U0
  have ga:cG (aQ.get oa)=some (bx g++[.sl op 0 g.pR.length none 2]):=by rw[I oa ω ω];exact W0 L
  have gp:cG (aQ.get op)=some ((g.pR.map (jh g)).flatMap cT):=by rw[I op ω ω];exact W0 N
  cases c with
  |false=>
   refine Y3 t4 cc @xb ?_;refine Y1 V ?_;refine hk (m+2) l _ fx.m fx.ok (by show m<=n1;omega) (by show m<=m+2;omega) l1 (λj hj=> ?_);have m9:j<m:=hj;show aQ.get j=_;rw[I j ω ω];exact U0
  |true=>
   refine Y4 t1 t2 t4 cc ?_;have R:A0 g.nT.length Z (m+4) (m+2) H l false ⟨n1,v1+1,aQ.put H (.cells (v1+1) [.b false])⟩:=
    ⟨by have:=fx.m;exact W0 this,fx.ok,by have:=fx.cb;exact W0 this,by exact U0,⟨l1,l2,l3⟩,fx.ne⟩
   refine E.run (aU7 (oa:=oa) (op:=op) (b2:=m) (b3:=m+1) (b5:=m+3) S E A D F G Y R ⟨?_,?_⟩ ?_ ?_ ?_ ⟨by omega,by omega,by omega,by omega,by omega,by omega,by omega⟩ _ ?_);exact W0 ga;exact W0 gp;exact W0 g0;exact W0 g1;exact W0 V;rintro l' c' ⟨J,v2,aJ⟩ B U eG b4 b6;have W:n1<=J:=U;have cQ:∀j,j<n1 ->j≠m+2 ->j≠H ->aJ.get j=_:=eG;have O:=B.cc;dsimp only at O;refine Y2 t4 O ?_;have s1:=EL fx.ok;have s2:=EL B.ok;refine ih (l',c') _ _ ?_ ⟨J,⟨?_,B.ok,?_,?_,⟨by show m+2<J+1;omega,by show m+4<J+1;omega,by show J<J+1;omega⟩,⟨by omega,by omega,by omega⟩⟩,by omega,λj h1 h2=> ?_,?_,?_,?_⟩
   grind
   have:=B.m;exact W0 this;have:=B.cb;exact W0 this;exact U0;simp(disch:=omega) only[dh,T.get_put,bV];rw[cQ j ω h2 ω];simp(disch:=omega) only[dh,T.get_put,bV];rw[I j h1 h2];exact U0;all_goals exact U2 t1 t2
 (iterate 3 exact U0);show m+2<m+6;omega;show m+4<m+6;omega;show m+5<m+6;omega;exact U0;all_goals exact U0
def eK (p:Nat×Nat):AV:= .ag [ι (p.1:Int),ι (p.2:Int)]
def tK:ET:= .ag [(0,1,false,.lf .i),(1,1,false,.lf .i)]
def Kl:rZ eK tK where
 eq:=λa b=>by
  obtain⟨a1,a2⟩:=a;obtain⟨j,b2⟩:=b;have h:eH 6 tK (eK (a1,a2)) (eK (j,b2))=(match (some (eO (a1:Int) (j:Int)):Option Bool) with
   |some true=>(match (some (eO (a2:Int) (b2:Int)):Option Bool) with
    |some true=>some true
    |r=>r)
   |r=>r):=rfl
  rw[h,A3,A3];have c1:((a1:Int)=(j:Int))↔a1=j:=by omega
  have c2:((a2:Int)=(b2:Int))↔a2=b2:=by omega
  simp only[c1,c2];by_cases h1:a1=j<;>by_cases h2:a2=b2<;>simp[h1,h2]
 q:=λa=>by
  obtain⟨a1,a2⟩:=a;have h:En tK (eK (a1,a2))=(match (match (some (eO (a1:Int) (a1:Int)):Option Bool) with
   |some true=>(match (some (eO (a2:Int) (a2:Int)):Option Bool) with
    |some true=>some true
    |r=>r)
   |r=>r) with|some true=>true|_=>false):=rfl
  rw[h,A3,A3];simp
 self:=λa=>by
  obtain⟨a1,a2⟩:=a;have h:o9 (eK (a1,a2)) (eK (a1,a2))=((gZ .i64 .i64&&eO (a1:Int) a1)&&((gZ .i64 .i64&&eO (a2:Int) a2)&&true)):=rfl;rw[h,A3,A3];simp[gZ]
def mS (l:List ((Nat×Nat)×Tr)):Option (List (AV×AV×Nat)×Nat):=some (di eK eT 0 l,l.length)
structure pB (n:Nat) (l:List ((Nat×Nat)×Tr)):Prop where
 f:∀p t,look p l=some t ->cA 3 t=true/\ p.1<p.2/\ p.2<n
 nd:(l.map (·.1)).Nodup
def pC (l:List ((Nat×Nat)×Tr)) (p:Nat×Nat):Tr:=(look p l).getD gq
def pB.at_f {n l} (m:pB n l) p:cA 3 (pC l p)=true:=by
 unfold pC;rcases h:look p l with _|t;exact EC;exact(m.f p t h).1
def aU9 {l p}:oF eT (.ag [.sn,ι 0]) (look p l)= .ag [tp (aE (pC l p)).1,ι ((aE (pC l p)).2:Int)]:=by
 unfold pC;cases look p l<;>rfl
def nV (x:Nat×List Nat):AV:= .sl x.1 0 x.2.length none 1
def mN (l:List (Nat×(Nat×List Nat))):Option (List (AV×AV×Nat)×Nat):=some (di (λn:Nat=>AV.i .i64 (n:Int)) nV 0 l,l.length)
structure EM (n:Nat) (g:Nat ->Option bC) (x:Nat) (N:List (Nat×(Nat×List Nat))):Prop where
 f:∀(a o:Nat) (L:List Nat),look a N=some (o,L) ->cG (g o)=some (L.flatMap cI)/\ L≠[]/\ (∀b∈L,a<b/\ b<n)/\ L.length<=100000/\ o<x
structure PS (h:AH) (x:Nat) (v:AV) (q:List Nat):Prop where
 e:∃o a c L,v= .sl o a q.length c 1/\ cG (h.oB.get o)=some L/\ sub L a q.length=some (q.flatMap cI)/\ (c=none∨(c=some 0/\ q=[]/\ a=0/\ L=[]))/\ x+2<=o/\ o≠x+3/\ o<h.next
def aV0 {a n o2 L old new} (D:cG (h.oB.get o)=some L) (G:sub L a n=some old) (h2:cG (h.oB.get o2)=some new) (H:new.length=1) (B:wV new=true) (hb:n+1<=1048576):gU h 1 (.sl o a n none 1) (.sl o2 0 1 (some 1) 1)= .v (.sl h.next 0 (n+1) none 1) ⟨h.next+1,h.ver+1,(h.oB.put o .gone).put h.next (.cells (h.ver+1) (old++new))⟩:=by
 have e1:eI h 1 (.sl o2 0 1 (some 1) 1)=some new:=wH h2 (mM ω);show(match ij (.sl o2 0 1 (some 1) 1),eI h 1 (.sl o2 0 1 (some 1) 1) with|some n',some l=>gD h (.sl o a n none 1) n' l 1|_,_=> .bad)=_;rw[e1];show gD h (.sl o a n none 1) 1 new 1=_;have e:gD h (.sl o a n none 1) 1 new 1=(match h.cells o with
  |none=>da.bad
  |some l=>fN (n+1) λj=>bif !(Nat.beq 1 1&&(Nat.ble j 1048576&&wV new)) then .bad else
   match sub l a (n*1) with
   |some old=>match fy old new with
    |some l=>h.put o .gone λh=>h.new (.cells h.ver l) λo h=> .v (.sl o 0 j none 1) h
    |none=> .bad
   |none=> .bad):=rfl
 have A:h.cells o=some L:=D;rw[e,A];simp only[dT,bu,wX,hb,B,mC,A7,jk,eU,vH,G,jz,AH.put_eq,AH.new_eq]
structure vg (n nn x:Nat) (g:Nat ->Option bC) (R:List (Nat×Tr)) (q:List Nat) (h:AH):Prop where
 r:mG (h.oB.get x)=mT R
 ok:nZ n (λi=>decide (i<=nn)) R
 c1:cG (h.oB.get (x+1))=some [.m x]
 c3:∃v,cG (h.oB.get (x+3))=some [v]/\ PS h x v q
 lq:∀m∈q,nn<m/\ m<n
 ql:q.length<=iX n R
 nx:x+4<=h.next
 old:∀j,j<x ->h.oB.get j=g j
def PS.mono {h' x v q} (a:PS h x v q) (I:h.next<=h'.next) (e:∀j,j<h.next ->h'.oB.get j=h.oB.get j):PS h' x v q:=by
 obtain⟨o,b,c,L,h1,h2,A,B,D,G,H⟩:=a.e;exact⟨⟨o,b,c,L,h1,by rw[e o H];exact h2,A,B,D,G,by omega⟩⟩
def vg.mono {n nn x g R q h'} (a:vg n nn x g R q h) (L:h.next<=h'.next) (e:∀j,j<h.next ->h'.oB.get j=h.oB.get j):vg n nn x g R q h':=by
 obtain⟨h1,h2,A,⟨v,B,D⟩,G,H,N,I⟩:=a;exact⟨by rw[e _ ω];exact h1,h2,by rw[e _ ω];exact A,⟨v,by rw[e _ ω];exact B,D.mono L e⟩,G,H,by omega,λj J=>by rw[e _ ω];exact I j J⟩
def aV1 (D:bz8 ae) (F:bz8 ae) {p l} (L:mG (h.oB.get o)=mS l) k
 (H:∀h',h.next<=h'.next ->(∀j,j<h.next ->h'.oB.get j=h.oB.get j) ->k (eT (pC l p)) h') (O:o<h.next):du C 162 [.m o,eK p] h k:=by
 obtain⟨m,ver,ob⟩:=h;have Y:o<m:=O;dsimp only at L;have N:∀G B ob' (τ:T AV),mG (T.get ob' o)=mS l ->az C τ (.t 8)= .m o ->az C τ (.t 9)=eK p ->
  step (az C τ) ⟨G,B,ob'⟩ (.look (.ag [(0,1,false,.lf .i),(1,1,false,.lf .i)]) (.t 8) (.t 9) (.ag [.sn,ι 0]) true)= .v (Bb eT (.ag [.sn,ι 0]) (look p l)) ⟨G,B,ob'⟩:=
  λG B ob' τ U V W=>uQ (k:=p) (z:= .ag [.sn,ι 0]) (en:=eT) Kl (h:=⟨G,B,ob'⟩) (fT.2 U) V W
 simp only[eK] at N ⊢;have cc:=λh=>IW S D false h;have e0:eT (yU false 3)= .ag [.sn,ι 0]:=rfl;rw[e0] at cc;rw[E.cB (F.f 162)];rcases I:look p l with _|t;have A:pC l p=gq:=by unfold pC;rw[I];rfl
 rw[A] at H;simp(disch:=first|omega|(exact U1 L)) only[N,I,Bb,↓sA E.ok,Nat.reduceAdd,↓reduceIte,go_sem];refine E.cN (cc _) (Y0 ?_);refine H _ (by show m<=m+1+1+1;omega) λj J=> ?_;have R:j<m:=J;exact U0;have A:pC l p=t:=by unfold pC;rw[I];rfl
 rw[A] at H;refine Z6 N I @Bb.eq_1 L @eT.eq_1 @eD.eq_1 ?_;refine H _ (by show m<=m+1+1+1;omega) λj J=> ?_;have R:j<m:=J;exact U0
end
end AM
