import Derived.Test.YtdmkaddihnnbaaaGreatDoorN20
set_option linter.all false
set_option maxHeartbeats 2000000
namespace AM
open Dg Go
noncomputable section
def mT (l:List (Nat×Tr)):Option (List (AV×AV×Nat)×Nat):=some (di (λn:Nat=>AV.i .i64 (n:Int)) eT 0 l,l.length)
def fF (l:List (Nat×Tr)) (i:Nat):Tr:=(look i l).getD gq
structure nZ (n:Nat) (Z:Nat ->Bool) (l:List (Nat×Tr)):Prop where
 f:∀(i:Nat) t,look i l=some t ->cA 3 t=true/\ i<n
 z:∀(i:Nat) t,look i l=some t ->Z i=true ->t=gq
def nZ.at_f {n Z l} (m:nZ n Z l) i:cA 3 (fF l i)=true:=by
 unfold fF;rcases h:look i l with _|t;exact EC;exact(m.f i t h).1
variable {i:Nat}
def nZ.at_z {n Z l} (m:nZ n Z l) (j:Z i=true):fF l i=gq:=by
 unfold fF;rcases h:look i l with _|t;rfl;exact m.z i t h j
def aU4:(iy 3).all (λt=>decide ((aE t).2=0 ->t=gq))=true:=lR
def Kj {t} (h:cA 3 t=true):(aE t).2=0↔t=gq:=by
 constructor;have:=fX.1 aU4 t (Ie h);exact decide_eq_true_eq.mp this;rintro rfl;rfl
variable {P:Program} {X:aR} {GL:T (List AV)} {ae:T au}
variable (S:aT P X GL ae)
variable (F:DT ae)
def Bx t h:bP P X GL 150 [eT t,ι 0] h (eT t) h:=by
 refine dR S (n:=9) ?_ (by simp only[aL,jB,bZ,dH]) h;refine bg.intro λC E=> ?_;refine E.bS F.f150 (Y2 @eT.eq_1 @eD.eq_1 ?_);exact⟨9,qU _ _⟩
variable {C:aK Prop} (E:Sem P X GL ae C)
variable {h:AH} {o:Nat}
def EI (D:eV ae) (F:DT ae) {l} (I:mG (h.oB.get o)=mT l) k
 (B:∀h',h.next<=h'.next ->(∀j,j<h.next ->h'.oB.get j=h.oB.get j) ->k (eT (fF l i)) h') (L:o<h.next):du C 157 [.m o,ι (i)] h k:=by
 obtain⟨m,ver,ob⟩:=h;have V:o<m:=L;dsimp only at I;have J:∀A ob' (τ:T AV),mG (T.get ob' o)=mT l ->az C τ (.t 8)= .m o ->az C τ (.t 9)=ι (i:Int) ->
  step (az C τ) ⟨m+1,A,ob'⟩ (.look (.lf .i) (.t 8) (.t 9) (.ag [.sn,ι 0]) true)= .v (Bb eT (.ag [.sn,ι 0]) (look i l)) ⟨m+1,A,ob'⟩:=
  λA ob' τ O R U=>uQ (k:=i) (z:= .ag [.sn,ι 0]) (en:=eT) lW (h:=⟨m+1,A,ob'⟩) (fT.2 O) R U
 have cc:=λh=>IW S D false h;have e0:eT (yU false 3)= .ag [.sn,ι 0]:=rfl;rw[e0] at cc;rw[E.cB F.f157];rcases G:look i l with _|t;have u:fF l i=gq:=by unfold fF;rw[G];rfl
 rw[u] at B;simp(disch:=first|omega|(exact U1 I)) only[J,G,Bb,↓sA E.ok,Nat.reduceAdd,↓reduceIte,go_sem];refine E.cN (cc _) (Y0 ?_);refine B _ (by show m<=m+1+1;omega) λj H=> ?_;have N:j<m:=H;exact U0;have u:fF l i=t:=by unfold fF;rw[G];rfl
 rw[u] at B;refine Z6 J G @Bb.eq_1 I @eT.eq_1 @eD.eq_1 ?_;refine B _ (by show m<=m+1+1;omega) λj H=> ?_;have N:j<m:=H;exact U0
def oR (l:List (Nat×Tr)) (d:Tr) (s:Bool×Nat):Tr:=if s.1 then d else cY (λx y=>x&&y) d (fF l s.2)
def pA (l:List (Nat×Tr)) (d:Tr) (r:List (Bool×Nat)):Tr:=r.foldl (oR l) d
def EJ {n Z l} (m:nZ n Z l):∀r d,cA 3 d=true ->cA 3 (pA l d r)=true
 |[],_,h=>h
 |s::r,d,h=>by
  refine EJ m r _ ?_;unfold oR;split;exact h;exact jd h (m.at_f _)
def aU5 {l d} {r:List (Bool×Nat)} {s} (h:r[i]? =some s):pA l d (r.take (i+1))=oR l (pA l d (r.take i)) s:=by
 unfold pA;rw[nY h,xH];rfl
def Te {n Z l} (m:nZ n Z l):∀r d,cA 3 d=true ->(d=gq∨∃s∈r,s.1=false/\ fF l s.2=gq) ->pA l d r=gq:=by
 intro r;induction r with
 |nil=>
  intro d _ h;rcases h with h|⟨s,h,_⟩;exact h;simp at h
 |cons s r u=>
  intro d hd h;show pA l (oR l d s) r=gq;have fs:cA 3 (oR l d s)=true:=by
   unfold oR;split;exact hd;exact jd hd (m.at_f _)
  refine u _ fs ?_;rcases h with rfl|⟨t,j,h1,h2⟩;left;unfold oR;split;rfl;exact EE (m.at_f _);rcases ed.1 j with rfl|j;left;unfold oR;rw[h1,h2];exact Kd hd;exact .inr ⟨t,j,h1,h2⟩
def Tf (A:dY P X GL) (D:eV ae) (F:DT ae) {n Z l} (ml:nZ n Z l) (hm:mG (h.oB.get o)=mT l) (ho:o<h.next) {d} (fd:cA 3 d=true) {r rv} (hr:aR6 h rv r) (b5:r.length<=1000) k
 (hk:∀h',h.next<=h'.next ->(∀j,j<h.next ->h'.oB.get j=h.oB.get j) ->k (eT (pA l d r)) h'):du C 153 [eT d,rv,.m o] h k:=by
 obtain⟨m,ver,ob⟩:=h;have bT:o<m:=ho;dsimp only at hm;have sr:ew rv=true/\ cellsO rv=some [rv]/\∀h,kg h rv= .v (ι (r.length:Int)) h:=by
  rcases hr with ⟨nl,rfl⟩|⟨o,c',rfl,_,_⟩;exact⟨uZ,Ry,λh=>dw⟩;exact⟨rfl,rfl,λh=>rfl⟩
 have lr:=sr.2.2;refine E.bS F.f153 (Y3 @eT.eq_1 @eD.eq_1 lr ?_);refine fj E.ok r.length (λi τ h=>m+2<=h.next/\ (∀j,j<m ->h.oB.get j=ob.get j)/\ cG (h.oB.get m)=some (cT (pA l d (r.take i)))/\ cG (h.oB.get (m+1))=some [.sn,ι 0]/\ τ.get 2=some (.m o)/\ τ.get 3=some (.p m 0)/\ τ.get 6=some (.p (m+1) 0)/\ τ.get 9=some rv/\ τ.get 10=some (ι (r.length:Int))/\ τ.get 11=some (ι (i:Int))) ?_ ?_ _ _ ⟨?_,?_,?_,?_,?_,?_,?_,?_,?_,?_⟩
 ·rintro i τ ⟨n1,v1,H⟩ hi ⟨dS,old,c0,c1,t2,t3,t6,t9,t10,I⟩ ih;have U:m+2<=n1:=dS;have gu:∀j,j<m ->H.get j=ob.get j:=old;have G:r[i]? =some r[i]:=oc hi;generalize hs:r[i]=s at G;have fw:=EJ ml (r.take i) d fd;have wt:=aU5 (l:=l) (d:=d) G;generalize hw:pA l d (r.take i)=w at*;have de:=c0;simp only[cT] at c0;have b1:mG (H.get o)=mT l:=by rw[gu o bT];exact hm
  have q:∃Y,(∀h,h.oB=H ->nU h 2 i rv= .v Y h)/\ ((∃c a,Y= .dp c a/\ sub c a 2=some [.b s.1,ι (s.2:Int)])∨(∃o2 a,Y= .p o2 a/\ o2<m/\∃L,cG (H.get o2)=some L/\ sub L a 2=some [.b s.1,ι (s.2:Int)])):=by
   rcases hr with ⟨nl,rfl⟩|⟨o2,c',rfl,b2,W⟩;exact⟨.dp (r.flatMap ba) (i*2),λh _=>bG hi,.inl ⟨_,_,rfl,cW gO G (j:=0) (n:=2) ω⟩⟩;refine⟨.p o2 (0+i*2),λh _=> ?_,.inr ⟨o2,0+i*2,rfl,W,r.flatMap ba,?_,?_⟩⟩
   grind[Rx]
   rw[gu o2 W];exact b2;rw[gB];exact cW gO G (j:=0) (n:=2) ω
  obtain⟨Y,b0,N⟩:=q;have B:∀v',nU ⟨n1,v',H⟩ 2 i rv= .v Y ⟨n1,v',H⟩:=λv'=>b0 _ rfl;have fin:∀(u:T bC) (O:Nat) (τ':T AV),m+2<=O ->(∀j,j<m ->u.get j=H.get j) ->cG (u.get m)=some (cT (oR l w s)) ->cG (u.get (m+1))=some [.sn,ι 0] ->τ'.get 2=some (.m o) ->τ'.get 3=some (.p m 0) ->τ'.get 6=some (.p (m+1) 0) ->τ'.get 9=some rv ->τ'.get 10=some (ι (r.length:Int)) ->τ'.get 11=some (ι ((i+1:Nat):Int)) ->(m+2<=O/\ (∀j,j<m ->u.get j=ob.get j)/\ cG (u.get m)=some (cT (pA l d (r.take (i+1))))/\ cG (u.get (m+1))=some [.sn,ι 0]/\ τ'.get 2=some (.m o)/\ τ'.get 3=some (.p m 0)/\ τ'.get 6=some (.p (m+1) 0)/\ τ'.get 9=some rv/\ τ'.get 10=some (ι (r.length:Int))/\ τ'.get 11=some (ι ((i+1:Nat):Int))):=
   λu O τ' a1 a2 a3 a4 a5 a6 a7 a8 a9 a10=>⟨a1,λj J=>(a2 j J).trans (gu j J),by rw[wt];exact a3,a4,a5,a6,a7,a8,a9,a10⟩
  cases h1:s.1 with
  |true=>
   have st:oR l w s=w:=by unfold oR;rw[h1];rfl
   rcases N with ⟨c,a,rfl,e2⟩|⟨o2,a,rfl,V,L,R,e2⟩<;>
    (
     rw[h1] at e2;refine Y5 t9 t10 I B e2 ?_;try refine Y3 I R e2 ?_
     refine ih _ _ (fin _ _ _ (by show m+2<=n1+1;omega) ?_ ?_ ?_ ?_ ?_ ?_ ?_ ?_ ?_);intro j J;exact U0;rw[st];exact W0 de;exact W0 c1;all_goals exact U5 t2 t3 t6 t9 t10)
  |false=>
   have st:oR l w s=cY (λx y=>x&&y) w (fF l s.2):=by unfold oR;rw[h1];rfl
   by_cases hb:w=gq
   ·have b3:oR l w s=w:=by rw[st,hb];exact EE (ml.at_f _)
    have rz:(((aE w).2:Nat):Int)=0:=by rw[hb];rfl
    rcases N with ⟨c,a,rfl,e2⟩|⟨o2,a,rfl,V,L,R,e2⟩<;>
     (
      rw[h1] at e2;refine Y8 c0 t3 t9 t10 I B e2 rz ?_;try refine Y6 c0 t3 I R e2 rz ?_
      refine ih _ _ (fin _ _ _ (by show m+2<=n1+1;omega) ?_ ?_ ?_ ?_ ?_ ?_ ?_ ?_ ?_);intro j J;exact U0;rw[b3];exact W0 de;exact W0 c1;all_goals exact U5 t2 t3 t6 t9 t10)
   ·have rz:(((aE w).2:Nat):Int)=0↔False:=⟨λh=>hb ((Kj fw).1 ω),False.elim⟩;have fa:=ml.at_f s.2;have ca:=λh=>D7 S D (A w fw) (A _ fa) h;simp only[eT,eD] at ca;have cm:=λt h=>Bx S F t h;simp only[eT,eD] at cm;rcases N with ⟨c,a,rfl,e2⟩|⟨o2,a,rfl,V,L,R,e2⟩<;>
     (
      rw[h1] at e2;refine Y9 c0 t2 t3 t9 t10 I B e2 rz ?_;try refine Y6 c0 t2 t3 R e2 rz ?_
      refine E.run (EI (l:=l) S E D F ?_ _ ?_ (by show o<n1+1;omega));exact W0 b1;rintro⟨O,v2,u⟩ hn2 eG;have b4:n1+1<=O:=hn2;have cQ:∀j,j<n1+1 ->u.get j=_:=eG;have g0:cG (u.get m)=some (cT w):=by rw[cQ m ω];exact W0 de
      have g1:cG (u.get (m+1))=some [.sn,ι 0]:=by rw[cQ (m+1) ω];exact W0 c1
      simp only[cT] at g0;simp only[eT,eD];refine Y2 g0 t3 ?_;refine E.cN (ca _) (Y2 g0 t3 ?_);refine E.cN (cm _ _) (Y3 g0 t3 I ?_);refine ih _ _ (fin _ _ _ (by show m+2<=O;omega) ?_ ?_ ?_ ?_ ?_ ?_ ?_ ?_ ?_);intro j J;simp(disch:=omega) only[dh,T.get_put,bV];rw[cQ j ω];exact U0;rw[st];exact U1 @cT.eq_1;exact W0 g1;all_goals exact U5 t2 t3 t6 t9 t10)
 rintro τ ⟨n1,v1,H⟩ ⟨dS,old,c0,c1,t2,t3,t6,t9,t10,I⟩;have U:m+2<=n1:=dS;rw[rL] at c0;simp only[cT] at c0;refine Y6 c0 c1 t3 t6 t10 I ?_;refine hk _ (by show m<=n1;omega) λj J=> ?_;have m9:j<m:=J;exact W0 (old j m9)
 grind
 intro j J;exact U0;simp(disch:=omega) only[dh,T.get_put,bV,dZ,d9,Cf];rfl;exact U0;all_goals exact U0
def xb:rO (some [])=some (.tu []):=rfl
def iX (n:Nat) (l:List (Nat×Tr)):Nat:=((List.range n).map λi=>Ec (fF l i)).sum
def Kk {l j x}:fF (ups i x l) j=if j=i then x else fF l j:=by
 grind[Fh,fF]
def Tg {f g:Nat ->Nat} {i}:∀{n},i<n ->(∀j,j≠i ->g j=f j) ->((List.range n).map g).sum+f i=((List.range n).map f).sum+g i
 |0,h,_=>by omega
 |n+1,h,e=>by
  rw[zD,kE,kE,FG,FG];simp only[jY,uf,Lt,List.sum_nil,vG];by_cases hi:i=n;subst hi;have:(List.range i).map g=(List.range i).map f:=X2 λj u=>e j (by have:=mA.1 u;omega);rw[this];omega;have:=Tg (n:=n) (i:=i) ω e;rw[e n (λh=>hi h.symm)];omega
def Th {n l x} (hi:i<n):iX n (ups i x l)+Ec (fF l i)=iX n l+Ec x:=by
 have:=Tg (f:=λj=>Ec (fF l j)) (g:=λj=>Ec (fF (ups i x l) j)) hi (λj u=>by rw[Kk,aD u]);simp only[Kk,dZ] at this;unfold iX;simp only[Kk];exact this
def EL {n Z l} (m:nZ n Z l):iX n l<=8*n:=by
 unfold iX;have:∀k,((List.range k).map λi=>Ec (fF l i)).sum<=8*k:=by
  intro k;induction k with
  |zero=>simp
  |succ k j=>
   rw[zD,kE,FG];have:=Kc (m.at_f k);simp only[jY,uf,Lt,List.sum_nil];omega
 exact this n
theorem nZ.ups {n Z l} (m:nZ n Z l) {i:Nat} {x:Tr} (hi:i<n) (A:cA 3 x=true) (B:Z i=true ->x=gq):nZ n Z (ups i x l) where
 f:=λj t h=>by
  rw[Fh] at h;split at h
  grind
  exact m.f j t h
 z:=λj t h u=>by
  rw[Fh] at h;split at h
  grind
  exact m.z j t h u
structure ve (n:Nat) (Z:Nat ->Bool) (bm o bc:Nat) (l:List (Nat×Tr)) (c:Bool) (h:AH):Prop where
 m:mG (h.oB.get o)=mT l
 ok:nZ n Z l
 cb:cG (h.oB.get bm)=some [.m o]
 cc:cG (h.oB.get bc)=some [.b c]
 lt:o<h.next/\ bm<h.next/\ bc<h.next
 ne:bm≠o/\ bc≠o/\ bm≠bc
def aU6 (A:dY P X GL) (D:eV ae) (F:DT ae) {n Z B u l c} (fx:ve n Z B o u l c h) (hi:i<n) {d} (R:cA 3 d=true) (hz:Z i=true ->d=gq) k
 (hk:∀l' c' h',ve n Z B o u l' c' h' ->h.next<=h'.next ->(∀j,j<h.next ->j≠o ->j≠u ->h'.oB.get j=h.oB.get j) ->iX n l<=iX n l' ->(c'=true ->c=true∨iX n l<iX n l') ->k (.tu []) h'):
 du C 400 [ι (i),eT d,.p B 0,.p u 0] h k:=by
 obtain⟨m,ver,ob⟩:=h;obtain⟨U,ok,cb,cc,⟨b1,b2,b3⟩,G,H,I⟩:=fx;have b5:o<m:=b1;have b6:B<m:=b2;have b7:u<m:=b3;dsimp only at U cb cc;have cm:=λt h=>Bx S F t h;simp only[eT,eD] at cm;rw[E.cB F.f400];by_cases hb:d=gq;have rz:(((aE d).2:Nat):Int)=0:=by rw[hb];rfl
 refine Y4 @eT.eq_1 @eD.eq_1 rz @xb ?_;refine hk l c _ ⟨(W0 U),ok,(W0 cb),(W0 cc),⟨by show o<m+1;omega,by show B<m+1;omega,by show u<m+1;omega⟩,G,H,I⟩ (by show m<=m+1;omega) (λj J _ _=> ?_) (bB _) (λh=> .inl h);have V:j<m:=J;exact U0;have rz:(((aE d).2:Nat):Int)=0↔False:=⟨λh=>hb ((Kj R).1 ω),False.elim⟩;have O:=ok.at_f i;have fo:cA 3 (cY (λx y=>x||y) (fF l i) d)=true:=jd O R;have co:=λh=>IG S D (A _ O) (A _ R) h;have cs:=λh=>RC S D (A _ O) (A _ fo) h;simp only[eT,eD] at co cs;refine Y4 @eT.eq_1 @eD.eq_1 rz cb ?_;refine E.run (EI (l:=l) S E D F ?_ _ ?_ (by show o<m+1;omega));exact W0 U;rintro⟨n2,v2,aJ⟩ hn2 eG;have b4:m+1<=n2:=hn2;have N:∀j,j<m+1 ->aJ.get j=_:=eG;have W:cG (aJ.get m)=some [tp (aE d).1,ι ((aE d).2:Int)]:=by rw[N m ω];exact U0
 have Y:cG (aJ.get B)=some [.m o]:=by rw[N B ω];exact W0 cb
 have gc:cG (aJ.get u)=some [.b c]:=by rw[N u ω];exact W0 cc
 have gm:mG (aJ.get o)=mT l:=by rw[N o ω];exact W0 U
 have gl:∀j,j<m ->aJ.get j=ob.get j:=λj J=>by rw[N j ω];exact U0
 simp only[eT,eD];refine Y1 W ?_;refine E.cN (co _) (Y1 W ?_);refine E.cN (cm _ _) (Y1 W ?_);refine E.cN (cs _) ?_;have cnt:=ED (k:=3) O R;have su:=Th (l:=l) (x:=cY (λx y=>x||y) (fF l i) d) hi;by_cases he:fF l i=cY (λx y=>x||y) (fF l i) d;have hd:decide (fF l i=cY (λx y=>x||y) (fF l i) d)=true:=zG he;rw[hd];refine Y1 @xb ?_;refine hk l c _ ⟨(W0 gm),ok,(W0 Y),(W0 gc),⟨by show o<n2+1+1;omega,by show B<n2+1+1;omega,by show u<n2+1+1;omega⟩,G,H,I⟩ (by show m<=n2+1+1;omega) (λj J _ _=> ?_) (bB _) (λh=> .inl h);have V:j<m:=J;exact W0 (gl j V);have hd:decide (fF l i=cY (λx y=>x||y) (fF l i) d)=false:=ot he;rw[hd];have mu:∀L ob' (τ:T AV),mG (T.get ob' o)=mT l ->az C τ (.t 24)= .m o ->az C τ (.t 25)=ι (i:Int) ->az C τ (.t 26)= .ag [tp (aE (cY (λx y=>x||y) (fF l i) d)).1,ι ((aE (cY (λx y=>x||y) (fF l i) d)).2:Int)] ->
  step (az C τ) ⟨n2+1+1,L,ob'⟩ (.mupd (.lf .i) (.t 24) (.t 25) (.t 26))= .v .un ⟨n2+1+1,L+1,ob'.put o (.map (L+1) (di (λn:Nat=>AV.i .i64 (n:Int)) eT 0 (ups i (cY (λx y=>x||y) (fF l i) d) l)) (ups i (cY (λx y=>x||y) (fF l i) d) l).length)⟩:=
  λL ob' τ q1 q2 q3 q4=>mL (k:=i) (v:=cY (λx y=>x||y) (fF l i) d) (en:=eT) lW (h:=⟨n2+1+1,L,ob'⟩) (fT.2 q1) q2 q3 q4
 refine Z5 Y gc mu gm @xb ?_;refine hk (ups i (cY (λx y=>x||y) (fF l i) d) l) true _ ⟨?_,ok.ups hi fo (λb0=>bh (hz b0) hb),?_,?_,⟨by show o<n2+1+1;omega,by show B<n2+1+1;omega,by show u<n2+1+1;omega⟩,G,H,I⟩ (by show m<=n2+1+1;omega) (λj J h1 h2=> ?_) ω (λ_=> .inr (by have:=cnt.2 (λh=>he h.symm);omega));exact U0;exact W0 Y;exact U0;have V:j<m:=J;exact W0 (gl j V)
structure By (h:AH) (oa op:Nat) (g:Gr):Prop where
 a:cG (h.oB.get oa)=some (ar g++[.sl op 0 g.pR.length none 2])
 p:cG (h.oB.get op)=some ((g.pR.map (jh g)).flatMap cT)
def aU7 (A:dY P X GL) (D:eV ae) (F:DT ae) {g} (G:oy g) {Z} (Y:iQ g Z) {oa op b2 b3 b5 I H l c} (fx:ve g.nT.length Z I o H l c h) (an:By h oa op g)
 (q2:cG (h.oB.get b2)=some [.p oa 0]) (q3:cG (h.oB.get b3)=some [.b true]) (q5:cG (h.oB.get b5)=some [.m o]) (low:oa<o/\ op<o/\ b2<o/\ b3<o/\ o<b5/\ b5<I/\ I<H) (k)
 (hk:∀l' W h',ve g.nT.length Z I o H l' W h' ->h.next<=h'.next ->(∀j,j<h.next ->j≠o ->j≠H ->h'.oB.get j=h.oB.get j) ->iX g.nT.length l<=iX g.nT.length l' ->(W=true ->c=true∨iX g.nT.length l<iX g.nT.length l') ->k (.tu []) h'):
 du C 266 [.f 400 [] [.p I 0,.p H 0],.p b2 0,.p b3 0,.p b5 0] h k:=by
 obtain⟨m,ver,ob⟩:=h;obtain⟨i4,i5,i6,i8,i9,j0,j1⟩:=low;have j2:H<m:=fx.lt.2.2;have pl:=G.pl;have ntl:=G.ntl;obtain⟨b0,d8⟩:=an;dsimp only at b0 d8 q2 q3 q5;have d6:=b0;simp only[ar,gw,gx] at b0;refine E.bS F.f266 (Y2 q2 b0 ?_);refine fj E.ok g.pR.length (λi τ h=>∃l' W,ve g.nT.length Z I o H l' W h/\ m<=h.next/\ (∀j,j<m ->j≠o ->j≠H ->h.oB.get j=ob.get j)/\ iX g.nT.length l<=iX g.nT.length l'/\ (W=true ->c=true∨iX g.nT.length l<iX g.nT.length l')/\ τ.get 0=some (.f 400 [] [.p I 0,.p H 0])/\ τ.get 1=some (.p b2 0)/\ τ.get 2=some (.p b3 0)/\ τ.get 3=some (.p b5 0)/\ τ.get 13=some (eR aM 13 true g.pR)/\ τ.get 14=some (ι (g.pR.length:Int))/\ τ.get 15=some (ι (i:Int))) ?_ ?_ _ _ ⟨l,c,fx,bB _,λj _ _ _=>rfl,bB _,λh=> .inl h,?_,?_,?_,?_,?_,?_,?_⟩
 ·rintro i τ ⟨n1,v1,aQ⟩ hi ⟨l',W,u,dS,dD,d3,d4,t0,t1,t2,t3,d5,c6,c7⟩ ih;have i1:m<=n1:=dS;have B:∀j,j<m ->j≠o ->j≠H ->aQ.get j=ob.get j:=dD;have b1:g.pR[i]? =some g.pR[i]:=oc hi;generalize hp:g.pR[i]=p at b1;have d1:=dI b1;have ok:=G.p p d1;have rl:=ok.len;have f0:sub (g.pR.flatMap aM) (i*13) 13=some (aM p):=cW kr b1 (j:=0) (n:=13) ω;simp only[aM] at f0;have fp:=S7 G d1;refine Y4 d5 c6 c7 f0 ?_;refine fj E.ok p.right.length (λj τ h=>(∀s∈p.right.take j,s.1=false)/\ n1+1<=h.next/\ (∀j,j<n1 ->h.oB.get j=aQ.get j)/\ cG (h.oB.get n1)=some (aM p)/\ τ.get 0=some (.f 400 [] [.p I 0,.p H 0])/\ τ.get 1=some (.p b2 0)/\ τ.get 2=some (.p b3 0)/\ τ.get 3=some (.p b5 0)/\ τ.get 5=some (ι (i:Int))/\ τ.get 6=some (.p n1 0)/\ τ.get 13=some (eR aM 13 true g.pR)/\ τ.get 14=some (ι (g.pR.length:Int))/\ τ.get 15=some (ι (i:Int))/\ τ.get 21=some (eR ba 2 p.rn p.right)/\ τ.get 22=some (ι (p.right.length:Int))/\ τ.get 23=some (ι (j:Int))) ?_ ?_ _ _ ⟨?_,?_,?_,?_,?_,?_,?_,?_,?_,?_,?_,?_,?_,?_,?_,?_⟩
  ·rintro j τ ⟨O,v2,V⟩ hj ⟨nt,d0,eG,N,s0,s1,s2,s3,s5,s6,b4,b6,R,b7,U,b8⟩ h7;have g2:n1+1<=O:=d0;have J:∀j,j<n1 ->V.get j=aQ.get j:=eG;have d2:p.right[j]? =some p.right[j]:=oc hj;generalize hs:p.right[j]=s at d2;have e2:sub (p.right.flatMap ba) (j*2) 2=some [.b s.1,ι (s.2:Int)]:=cW gO d2 (j:=0) (n:=2) ω;have r3:cG (V.get b3)=some [.b true]:=by rw[J b3 ω,B b3 ω ω ω];exact q3
   cases h1:s.1 with
   |true=>
    rw[h1] at e2;refine Y7 r3 s2 R b7 U b8 e2 ?_;refine ih _ _ ⟨l',W,⟨?_,u.ok,?_,?_,⟨?_,?_,?_⟩,u.ne⟩,by show m<=O+1;omega,λj hj h1 h2=> ?_,d3,d4,?_,?_,?_,?_,?_,?_,?_⟩;simp(disch:=omega) only[dh,T.get_put,bV];rw[J o (by have:=u.lt.1;have h2:o<n1:=this;omega)];exact u.m;simp(disch:=omega) only[dh,T.get_put,bV];rw[J I ω];exact u.cb;simp(disch:=omega) only[dh,T.get_put,bV];rw[J H ω];exact u.cc;show o<O+1;omega;show I<O+1;omega;show H<O+1;omega;simp(disch:=omega) only[dh,T.get_put,bV];rw[J j ω];exact B j hj h1 h2;all_goals exact U6 s0 s1 s2 s3 b4 b6
   |false=>
    rw[h1] at e2;refine Y7 r3 s2 R b7 U b8 e2 ?_;refine h7 _ _ ⟨?_,by show n1+1<=O+1;omega,λj hj=> ?_,?_,?_,?_,?_,?_,?_,?_,?_,?_,?_,?_,?_,?_⟩;intro s' g3;rw[nY d2] at g3;rcases fO.1 g3 with h|h;exact nt s' h
    grind
    exact W0 (J j hj);exact W0 N;all_goals exact U11 s0 s1 s2 s3 s5 s6 b4 b6 R b7 U
  ·rintro τ ⟨O,v2,V⟩ ⟨nt,d0,eG,N,s0,s1,s2,s3,s5,s6,b4,b6,R,b7,U,b8⟩;have g2:n1+1<=O:=d0;have J:∀j,j<n1 ->V.get j=aQ.get j:=eG;rw[rL] at nt;have h8:o<n1:=u.lt.1;have r2:cG (V.get b2)=some [.p oa 0]:=by rw[J b2 ω,B b2 ω ω ω];exact q2
   have r5:cG (V.get b5)=some [.m o]:=by rw[J b5 ω,B b5 ω ω ω];exact q5
   have ra:cG (V.get oa)=some (ar g++[.sl op 0 g.pR.length none 2]):=by rw[J oa ω,B oa ω ω ω];exact d6
   have rp:cG (V.get op)=some ((g.pR.map (jh g)).flatMap cT):=by rw[J op ω,B op ω ω ω];exact d8
   simp only[ar,gw,gx] at ra;have f9:sub ((g.pR.map (jh g)).flatMap cT) (i*2) 2=some (cT (jh g p)):=cW J9 (L:=g.pR.map (jh g)) (i:=i) (a:=jh g p) (by rw[oh,b1];rfl) (j:=0) (n:=2) ω;simp only[cT] at f9;dsimp only at N;have g0:=N;simp only[aM] at N;have g1:mG (V.get o)=mT l':=by rw[J o h8];exact u.m
   refine pm r2 r5 ra rp f9 N s0 s1 s3 s5 s6 U b8 ?_;refine E.run (Tf (n:=g.nT.length) (Z:=Z) (l:=l') (d:=jh g p) (r:=p.right) S E A D F u.ok g1 (by show o<O;omega) fp (.inl ⟨p.rn,rfl⟩) ω _ ?_);rintro⟨n3,v3,cC⟩ hn3 old3;have i2:O<=n3:=hn3;have iN:∀j,j<O ->cC.get j=V.get j:=old3;have fw:=EJ u.ok p.right _ fp;have hz:Z p.left=true ->pA l' (jh g p) p.right=gq:=λh6=>by
    obtain⟨s,g4,h5⟩:=Y.z p d1 h6;have g5:=nt s g4;rcases h5 with h|h;rw[g5] at h;cases h;exact Te u.ok _ _ fp (.inr ⟨s,g4,g5,u.ok.at_z h⟩)
   generalize hw:pA l' (jh g p) p.right=w at*;simp only[eT,eD];have g7:cG (cC.get n1)=some (aM p):=by rw[iN n1 ω];exact g0
   have j8:cG (cC.get oa)=_:=(congrArg cG (iN oa ω)).trans ra;simp only[aM] at g7;refine Y3 g7 s0 s6 ?_;have g8:ve g.nT.length Z I o H l' W ⟨n3,v3,cC⟩:=
    ⟨by show mG (cC.get o)=_;rw[iN o ω];exact g1,u.ok,by show cG (cC.get I)=_;rw[iN I ω,J I ω];exact u.cb,by show cG (cC.get H)=_;rw[iN H ω,J H ω];exact u.cc,⟨by show o<n3;omega,by show I<n3;omega,by show H<n3;omega⟩,u.ne⟩
   refine E.run (aU6 (d:=w) S E A D F g8 ok.left fw hz _ ?_);rintro l2 c2 ⟨n4,v4,h9⟩ h3 h4 g6 j3 j4;have i3:n3<=n4:=h4;have i0:∀j,j<n3 ->j≠o ->j≠H ->h9.get j=cC.get j:=g6;refine Y1 R ?_;refine ih _ _ ⟨l2,c2,h3,by show m<=n4;omega,λj hj h1 h2=> ?_,by omega,λh=> ?_,?_,?_,?_,?_,?_,?_,?_⟩
   grind
   grind
   all_goals exact U6 s0 s1 s2 s3 b4 b6
  simp;exact bB _;intro j hj;exact U0;exact U1 @aM.eq_1;all_goals exact U7 t0 t1 t2 t3 d5 c6 c7
 rintro τ ⟨n1,v1,aQ⟩ ⟨l',W,u,dS,dD,d3,d4,t0,t1,t2,t3,d5,c6,c7⟩;refine Y3 c6 c7 @xb ?_;exact hk l' W _ u dS dD d3 d4;all_goals exact U0
def aU8 (A:dY P X GL) (D:eV ae) (F:DT ae) {g} (G:oy g) {Z} (Y:iQ g Z) {oa op} (an:By h oa op g) (la:oa<h.next/\ op<h.next) k
 (hk:∀o l h',mG (h'.oB.get o)=mT l ->nZ g.nT.length Z l ->h.next<=h'.next ->h.next<=o ->o<h'.next ->(∀j,j<h.next ->h'.oB.get j=h.oB.get j) ->k (.m o) h'):
 du C 152 [.p oa 0,.b true] h k:=by
 obtain⟨m,ver,ob⟩:=h;obtain⟨J,L⟩:=an;have b0:oa<m:=la.1;have b1:op<m:=la.2;dsimp only at J L;have ntl:=G.ntl;refine E.bS F.f152 (Y0 ?_);refine E.run ?_;refine E.bS F.f265 (Y0 ?_);refine Qo E.ok (λx:List (Nat×Tr)×Bool=>2*(8*g.nT.length-iX g.nT.length x.1)+(if x.2 then 1 else 0)) (λx τ h=>∃B,ve g.nT.length Z (m+4) (m+2) B x.1 x.2 h/\ m+5<=B/\ (∀j,j<m+4 ->j≠m+2 ->h.oB.get j=((((ob.put m (.cells ver [.p oa 0])).put (m+1) (.cells ver [.b true])).put (m+3) (.cells (ver+1) [.m (m+2)]))).get j)/\ τ.get 1=some (.f 266 [] [.p m 0,.p (m+1) 0,.p (m+3) 0])/\ τ.get 2=some (.p (m+4) 0)/\ τ.get 4=some (.p B 0)) ?_ ([],true) _ _ ⟨m+5,⟨?_,⟨λi t h=>by simp[look] at h,λi t h=>by simp[look] at h⟩,?_,?_,⟨?_,?_,?_⟩,⟨by omega,by omega,by omega⟩⟩,by omega,λj h1 h2=> ?_,?_,?_,?_⟩
 ·rintro⟨l,c⟩ τ ⟨n1,v1,aQ⟩ ⟨B,fx,hbc,old,t1,t2,t4⟩ ih;dsimp only at fx;have W:m+2<n1:=fx.lt.1;have l2:m+4<n1:=fx.lt.2.1;have l3:B<n1:=fx.lt.2.2;have H:∀j,j<m+4 ->j≠m+2 ->aQ.get j=_:=old;have cc:=fx.cc;dsimp only at cc;have g0:cG (aQ.get m)=some [.p oa 0]:=by rw[H m ω ω];exact U0
  have g1:cG (aQ.get (m+1))=some [.b true]:=by rw[H (m+1) ω ω];exact U0
  have U:cG (aQ.get (m+3))=some [.m (m+2)]:=by rw[H (m+3) ω ω];exact U0
  have ga:cG (aQ.get oa)=some (ar g++[.sl op 0 g.pR.length none 2]):=by rw[H oa ω ω];exact W0 J
  have gp:cG (aQ.get op)=some ((g.pR.map (jh g)).flatMap cT):=by rw[H op ω ω];exact W0 L
  cases c with
  |false=>
   refine Y3 t4 cc @xb ?_;refine Y1 U ?_;refine hk (m+2) l _ fx.m fx.ok (by show m<=n1;omega) (by show m<=m+2;omega) W (λj hj=> ?_);have m9:j<m:=hj;show aQ.get j=_;rw[H j ω ω];exact U0
  |true=>
   refine Y4 t1 t2 t4 cc ?_;have O:ve g.nT.length Z (m+4) (m+2) B l false ⟨n1,v1+1,aQ.put B (.cells (v1+1) [.b false])⟩:=
    ⟨by have:=fx.m;exact W0 this,fx.ok,by have:=fx.cb;exact W0 this,by exact U0,⟨W,l2,l3⟩,fx.ne⟩
   refine E.run (aU7 (oa:=oa) (op:=op) (b2:=m) (b3:=m+1) (b5:=m+3) S E A D F G Y O ⟨?_,?_⟩ ?_ ?_ ?_ ⟨by omega,by omega,by omega,by omega,by omega,by omega,by omega⟩ _ ?_);exact W0 ga;exact W0 gp;exact W0 g0;exact W0 g1;exact W0 U;rintro l' c' ⟨I,v2,aJ⟩ u R eG b4 b6;have V:n1<=I:=R;have cQ:∀j,j<n1 ->j≠m+2 ->j≠B ->aJ.get j=_:=eG;have N:=u.cc;dsimp only at N;refine Y2 t4 N ?_;have s1:=EL fx.ok;have s2:=EL u.ok;refine ih (l',c') _ _ ?_ ⟨I,⟨?_,u.ok,?_,?_,⟨by show m+2<I+1;omega,by show m+4<I+1;omega,by show I<I+1;omega⟩,⟨by omega,by omega,by omega⟩⟩,by omega,λj h1 h2=> ?_,?_,?_,?_⟩
   grind
   have:=u.m;exact W0 this;have:=u.cb;exact W0 this;exact U0;simp(disch:=omega) only[dh,T.get_put,bV];rw[cQ j ω h2 ω];simp(disch:=omega) only[dh,T.get_put,bV];rw[H j h1 h2];exact U0;all_goals exact U2 t1 t2
 (iterate 3 exact U0);show m+2<m+6;omega;show m+4<m+6;omega;show m+5<m+6;omega;exact U0;all_goals exact U0
def eK (p:Nat×Nat):AV:= .ag [ι (p.1:Int),ι (p.2:Int)]
def tK:ET:= .ag [(0,1,false,.lf .i),(1,1,false,.lf .i)]
def Kl:rZ eK tK where
 eq:=λa b=>by
  obtain⟨a1,a2⟩:=a;obtain⟨j,b2⟩:=b;have h:eH 6 tK (eK (a1,a2)) (eK (j,b2))=(match (some (eO (a1:Int) (j:Int)):Option Bool) with
   |some true=>(match (some (eO (a2:Int) (b2:Int)):Option Bool) with
    |some true=>some true
    |r=>r)
   |r=>r):=rfl
  rw[h,A3,A3];have c1:((a1:Int)=(j:Int))↔a1=j:=by omega
  have c2:((a2:Int)=(b2:Int))↔a2=b2:=by omega
  simp only[c1,c2];by_cases h1:a1=j<;>by_cases h2:a2=b2<;>simp[h1,h2]
 q:=λa=>by
  obtain⟨a1,a2⟩:=a;have h:En tK (eK (a1,a2))=(match (match (some (eO (a1:Int) (a1:Int)):Option Bool) with
   |some true=>(match (some (eO (a2:Int) (a2:Int)):Option Bool) with
    |some true=>some true
    |r=>r)
   |r=>r) with|some true=>true|_=>false):=rfl
  rw[h,A3,A3];simp
 self:=λa=>by
  obtain⟨a1,a2⟩:=a;have h:o9 (eK (a1,a2)) (eK (a1,a2))=((gZ .i64 .i64&&eO (a1:Int) a1)&&((gZ .i64 .i64&&eO (a2:Int) a2)&&true)):=rfl;rw[h,A3,A3];simp[gZ]
def mS (l:List ((Nat×Nat)×Tr)):Option (List (AV×AV×Nat)×Nat):=some (di eK eT 0 l,l.length)
structure pB (n:Nat) (l:List ((Nat×Nat)×Tr)):Prop where
 f:∀p t,look p l=some t ->cA 3 t=true/\ p.1<p.2/\ p.2<n
 nd:(l.map (·.1)).Nodup
def pC (l:List ((Nat×Nat)×Tr)) (p:Nat×Nat):Tr:=(look p l).getD gq
def pB.at_f {n l} (m:pB n l) p:cA 3 (pC l p)=true:=by
 unfold pC;rcases h:look p l with _|t;exact EC;exact(m.f p t h).1
def aU9 {l p}:oF eT (.ag [.sn,ι 0]) (look p l)= .ag [tp (aE (pC l p)).1,ι ((aE (pC l p)).2:Int)]:=by
 unfold pC;cases look p l<;>rfl
def nV (x:Nat×List Nat):AV:= .sl x.1 0 x.2.length none 1
def mN (l:List (Nat×(Nat×List Nat))):Option (List (AV×AV×Nat)×Nat):=some (di (λn:Nat=>AV.i .i64 (n:Int)) nV 0 l,l.length)
structure EM (n:Nat) (g:Nat ->Option bC) (x:Nat) (N:List (Nat×(Nat×List Nat))):Prop where
 f:∀(a o:Nat) (L:List Nat),look a N=some (o,L) ->cG (g o)=some (L.flatMap cI)/\ L≠[]/\ (∀b∈L,a<b/\ b<n)/\ L.length<=100000/\ o<x
structure EN (h:AH) (x:Nat) (v:AV) (q:List Nat):Prop where
 e:∃o a c L,v= .sl o a q.length c 1/\ cG (h.oB.get o)=some L/\ sub L a q.length=some (q.flatMap cI)/\ (c=none∨(c=some 0/\ q=[]/\ a=0/\ L=[]))/\ x+2<=o/\ o≠x+3/\ o<h.next
def aV0 {a n o2 L old new} (B:cG (h.oB.get o)=some L) (D:sub L a n=some old) (h2:cG (h.oB.get o2)=some new) (G:new.length=1) (A:wV new=true) (hb:n+1<=1048576):gU h 1 (.sl o a n none 1) (.sl o2 0 1 (some 1) 1)= .v (.sl h.next 0 (n+1) none 1) ⟨h.next+1,h.ver+1,(h.oB.put o .gone).put h.next (.cells (h.ver+1) (old++new))⟩:=by
 have e1:eI h 1 (.sl o2 0 1 (some 1) 1)=some new:=wH h2 (mM ω);show(match ij (.sl o2 0 1 (some 1) 1),eI h 1 (.sl o2 0 1 (some 1) 1) with|some n',some l=>gD h (.sl o a n none 1) n' l 1|_,_=> .bad)=_;rw[e1];show gD h (.sl o a n none 1) 1 new 1=_;have e:gD h (.sl o a n none 1) 1 new 1=(match h.cells o with
  |none=>ay.bad
  |some l=>fN (n+1) λj=>bif !(Nat.beq 1 1&&(Nat.ble j 1048576&&wV new)) then .bad else
   match sub l a (n*1) with
   |some old=>match fy old new with
    |some l=>h.put o .gone λh=>h.new (.cells h.ver l) λo h=> .v (.sl o 0 j none 1) h
    |none=> .bad
   |none=> .bad):=rfl
 have u:h.cells o=some L:=B;rw[e,u];simp only[dT,bu,wX,hb,A,mC,A7,jk,eU,vH,D,jz,AH.put_eq,AH.new_eq]
structure vg (n nn x:Nat) (g:Nat ->Option bC) (R:List (Nat×Tr)) (q:List Nat) (h:AH):Prop where
 r:mG (h.oB.get x)=mT R
 ok:nZ n (λi=>decide (i<=nn)) R
 c1:cG (h.oB.get (x+1))=some [.m x]
 c3:∃v,cG (h.oB.get (x+3))=some [v]/\ EN h x v q
 lq:∀m∈q,nn<m/\ m<n
 ql:q.length<=iX n R
 nx:x+4<=h.next
 old:∀j,j<x ->h.oB.get j=g j
def EN.mono {h' x v q} (a:EN h x v q) (H:h.next<=h'.next) (e:∀j,j<h.next ->h'.oB.get j=h.oB.get j):EN h' x v q:=by
 obtain⟨o,b,c,L,h1,h2,u,A,B,D,G⟩:=a.e;exact⟨⟨o,b,c,L,h1,by rw[e o G];exact h2,u,A,B,D,by omega⟩⟩
def vg.mono {n nn x g R q h'} (a:vg n nn x g R q h) (J:h.next<=h'.next) (e:∀j,j<h.next ->h'.oB.get j=h.oB.get j):vg n nn x g R q h':=by
 obtain⟨h1,h2,u,⟨v,A,B⟩,D,G,L,H⟩:=a;exact⟨by rw[e _ ω];exact h1,h2,by rw[e _ ω];exact u,⟨v,by rw[e _ ω];exact A,B.mono J e⟩,D,G,by omega,λj I=>by rw[e _ ω];exact H j I⟩
def aV1 (D:eV ae) (F:DT ae) {p l} (J:mG (h.oB.get o)=mS l) k
 (G:∀h',h.next<=h'.next ->(∀j,j<h.next ->h'.oB.get j=h.oB.get j) ->k (eT (pC l p)) h') (N:o<h.next):du C 155 [.m o,eK p] h k:=by
 obtain⟨m,ver,ob⟩:=h;have W:o<m:=N;dsimp only at J;have L:∀B A ob' (τ:T AV),mG (T.get ob' o)=mS l ->az C τ (.t 8)= .m o ->az C τ (.t 9)=eK p ->
  step (az C τ) ⟨B,A,ob'⟩ (.look (.ag [(0,1,false,.lf .i),(1,1,false,.lf .i)]) (.t 8) (.t 9) (.ag [.sn,ι 0]) true)= .v (Bb eT (.ag [.sn,ι 0]) (look p l)) ⟨B,A,ob'⟩:=
  λB A ob' τ R U V=>uQ (k:=p) (z:= .ag [.sn,ι 0]) (en:=eT) Kl (h:=⟨B,A,ob'⟩) (fT.2 R) U V
 simp only[eK] at L ⊢;have cc:=λh=>IW S D false h;have e0:eT (yU false 3)= .ag [.sn,ι 0]:=rfl;rw[e0] at cc;rw[E.cB F.f155];rcases H:look p l with _|t;have u:pC l p=gq:=by unfold pC;rw[H];rfl
 rw[u] at G;simp(disch:=first|omega|(exact U1 J)) only[L,H,Bb,↓sA E.ok,Nat.reduceAdd,↓reduceIte,go_sem];refine E.cN (cc _) (Y0 ?_);refine G _ (by show m<=m+1+1+1;omega) λj I=> ?_;have O:j<m:=I;exact U0;have u:pC l p=t:=by unfold pC;rw[H];rfl
 rw[u] at G;refine Z6 L H @Bb.eq_1 J @eT.eq_1 @eD.eq_1 ?_;refine G _ (by show m<=m+1+1+1;omega) λj I=> ?_;have O:j<m:=I;exact U0
end
end AM
