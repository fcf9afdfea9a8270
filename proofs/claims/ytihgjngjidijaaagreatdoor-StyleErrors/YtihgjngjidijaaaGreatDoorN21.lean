import Derived.Test.YtihgjngjidijaaaGreatDoorN20
set_option linter.all false
set_option maxHeartbeats 2000000
namespace AM
open Dg Go
noncomputable section
def mT (l:List (Nat×Tr)):Option (List (AV×AV×Nat)×Nat):=some (di (λn:Nat=>AV.i .i64 (n:Int)) eT 0 l,l.length)
def fF (l:List (Nat×Tr)) (i:Nat):Tr:=(look i l).getD gq
structure nZ (n:Nat) (Z:Nat ->Bool) (l:List (Nat×Tr)):Prop where
 f:∀(i:Nat) t,look i l=some t ->cA 3 t=true/\ i<n
 z:∀(i:Nat) t,look i l=some t ->Z i=true ->t=gq
def nZ.at_f {n Z l} (m:nZ n Z l) (i:Nat):cA 3 (fF l i)=true:=by
 unfold fF;cases h:look i l with
 |none=>exact EC
 |some t=>exact(m.f i t h).1
def nZ.at_z {n Z l} (m:nZ n Z l) {i:Nat} (hz:Z i=true):fF l i=gq:=by
 unfold fF;cases h:look i l with
 |none=>rfl
 |some t=>exact m.z i t h hz
def aU4:(iy 3).all (λt=>decide ((aE t).2=0 ->t=gq))=true:=af
def Kj {t:Tr} (h:cA 3 t=true):(aE t).2=0↔t=gq:=by
 constructor
 ·have:=fX.1 aU4 t (ss h);exact decide_eq_true_eq.mp this
 ·rintro rfl;rfl
variable {P:Program} {X:aR} {GL:T (List AV)} {ae:T au}
variable (S:aT P X GL ae)
def Bx (F:jr ae) (t:Tr) (h:AH):bP P X GL 148 [eT t,ι 0] h (eT t) h:=by
 refine dR S (n:=9) ?_ (by simp only[aL,jB,bZ,dH]) h;refine bg.intro λC E=> ?_;refine E.bS F.f148 (Y4 @PH.eq_1 @eT.eq_1 @eD.eq_1 @h0.eq_1 ?_);exact⟨9,qU _ _⟩
variable {C:aK Prop} (E:Sem P X GL ae C)
def EI (D:eV ae) (F:jr ae) {h:AH} {o i:Nat} {l:List (Nat×Tr)} (hm:mG (h.oB.get o)=mT l) (k:AV ->AH ->Prop)
 (hk:∀h',h.next<=h'.next ->(∀j,j<h.next ->h'.oB.get j=h.oB.get j) ->k (eT (fF l i)) h') (ho:o<h.next):du C 155 [.m o,ι (i:Int)] h k:=by
 obtain⟨m,ver,ob⟩:=h;have bT:o<m:=ho;dsimp only at hm;have lk:∀aA ob' (τ:T AV),mG (T.get ob' o)=mT l ->az C τ (.t 8)= .m o ->az C τ (.t 9)=ι (i:Int) ->
  step (az C τ) ⟨m+1,aA,ob'⟩ (.look (.lf .i) (.t 8) (.t 9) (.ag [.sn,ι 0]) true)= .v (hU eT (.ag [.sn,ι 0]) (look i l)) ⟨m+1,aA,ob'⟩:=
  λaA ob' τ q1 q2 q3=>uQ (k:=i) (z:= .ag [.sn,ι 0]) (en:=eT) lW (h:=⟨m+1,aA,ob'⟩) (fT.2 q1) q2 q3
 have cc:=λh=>IW S D false h;have e0:eT (eu false 3)= .ag [.sn,ι 0]:=rfl;rw[e0] at cc;rw[E.cB F.f155];cases hl:look i l with
 |none=>
  have hk2:fF l i=gq:=by unfold fF;rw[hl];rfl
  rw[hk2] at hk;simp(disch:=first|omega|(exact U1 hm)) only[lk,hl,hU,↓sA E.ok,Nat.reduceAdd,↓reduceIte,go_sem];refine E.cN (cc _) (Y0 ?_);refine hk _ (by show m<=m+1+1;omega) λj hj=> ?_;have bF:j<m:=hj;exact U0
 |some t=>
  have hk2:fF l i=t:=by unfold fF;rw[hl];rfl
  rw[hk2] at hk;refine Z7 @PO.eq_1 lk hl @hU.eq_1 hm @eT.eq_1 @eD.eq_1 ?_;refine hk _ (by show m<=m+1+1;omega) λj hj=> ?_;have bF:j<m:=hj;exact U0
def oR (l:List (Nat×Tr)) (d:Tr) (s:Bool×Nat):Tr:=if s.1 then d else cY (λx y=>x&&y) d (fF l s.2)
def pA (l:List (Nat×Tr)) (d:Tr) (r:List (Bool×Nat)):Tr:=r.foldl (oR l) d
def EJ {n Z l} (m:nZ n Z l):∀(r:List (Bool×Nat)) (d:Tr),cA 3 d=true ->cA 3 (pA l d r)=true
 |[],_,h=>h
 |s::r,d,h=>by
  refine EJ m r _ ?_;unfold oR;split
  ·exact h
  ·exact jd h (m.at_f _)
def aU5 {l:List (Nat×Tr)} {d:Tr} {r:List (Bool×Nat)} {i:Nat} {s:Bool×Nat} (h:r[i]? =some s):pA l d (r.take (i+1))=oR l (pA l d (r.take i)) s:=by
 unfold pA;rw[nY h,xH];rfl
def Te {n Z l} (m:nZ n Z l):∀(r:List (Bool×Nat)) (d:Tr),cA 3 d=true ->(d=gq∨∃s∈r,s.1=false/\ fF l s.2=gq) ->pA l d r=gq:=by
 intro r;induction r with
 |nil=>
  intro d _ h;rcases h with h|⟨s,h,_⟩
  ·exact h
  ·simp at h
 |cons s r ih=>
  intro d hd h;show pA l (oR l d s) r=gq;have fs:cA 3 (oR l d s)=true:=by
   unfold oR;split
   ·exact hd
   ·exact jd hd (m.at_f _)
  refine ih _ fs ?_;rcases h with rfl|⟨t,ht,h1,h2⟩
  ·left;unfold oR;split
   ·rfl
   ·exact EE (m.at_f _)
  ·rcases ed.1 ht with rfl|ht
   ·left;unfold oR;rw[h1,h2];exact Kd hd
   ·exact .inr ⟨t,ht,h1,h2⟩
def Tf (A:dY P X GL) (D:eV ae) (F:jr ae) {n:Nat} {Z:Nat ->Bool} {h:AH} {o:Nat} {l:List (Nat×Tr)} (ml:nZ n Z l) (hm:mG (h.oB.get o)=mT l) (ho:o<h.next) {d:Tr} (fd:cA 3 d=true) {r:List (Bool×Nat)} {rv:AV} (hr:aR6 h rv r) (hrl:r.length<=1000) (k:AV ->AH ->Prop)
 (hk:∀h',h.next<=h'.next ->(∀j,j<h.next ->h'.oB.get j=h.oB.get j) ->k (eT (pA l d r)) h'):du C 151 [eT d,rv,.m o] h k:=by
 obtain⟨m,ver,ob⟩:=h;have bT:o<m:=ho;dsimp only at hm;have sr:ew rv=true/\ cellsO rv=some [rv]/\∀h,kg h rv= .v (ι (r.length:Int)) h:=by
  rcases hr with ⟨nl,rfl⟩|⟨o,c',rfl,_,_⟩
  ·exact⟨uZ,Ry,λh=>dw⟩
  ·exact⟨rfl,rfl,λh=>rfl⟩
 have lr:=sr.2.2;refine E.bS F.f151 (Y4 @PJ.eq_1 @eT.eq_1 @eD.eq_1 lr ?_);refine fj E.ok r.length (λi τ h=>m+2<=h.next/\ (∀j,j<m ->h.oB.get j=ob.get j)/\ cG (h.oB.get m)=some (cT (pA l d (r.take i)))/\ cG (h.oB.get (m+1))=some [.sn,ι 0]/\ τ.get 2=some (.m o)/\ τ.get 3=some (.p m 0)/\ τ.get 6=some (.p (m+1) 0)/\ τ.get 9=some rv/\ τ.get 10=some (ι (r.length:Int))/\ τ.get 11=some (ι (i:Int))) ?_ ?_ _ _ ⟨?_,?_,?_,?_,?_,?_,?_,?_,?_,?_⟩
 ·rintro i τ ⟨n1,v1,aQ⟩ hi ⟨dS,old,c0,c1,t2,t3,t6,t9,t10,bH⟩ ih;have hn1':m+2<=n1:=dS;have gu:∀j,j<m ->aQ.get j=ob.get j:=old;have hri:r[i]? =some r[i]:=cE hi;generalize hs:r[i]=s at hri;have fw:=EJ ml (r.take i) d fd;have wt:=aU5 (l:=l) (d:=d) hri;generalize hw:pA l d (r.take i)=w at*;have de:=c0;simp only[cT] at c0;have hm1:mG (aQ.get o)=mT l:=by rw[gu o bT];exact hm
  have q:∃pv,(∀h,h.oB=aQ ->nU h 2 i rv= .v pv h)/\ ((∃c a,pv= .dp c a/\ sub c a 2=some [.b s.1,ι (s.2:Int)])∨(∃o2 a,pv= .p o2 a/\ o2<m/\∃L,cG (aQ.get o2)=some L/\ sub L a 2=some [.b s.1,ι (s.2:Int)])):=by
   rcases hr with ⟨nl,rfl⟩|⟨o2,c',rfl,hro,hon⟩
   ·exact⟨.dp (r.flatMap ba) (i*2),λh _=>bG hi,.inl ⟨_,_,rfl,cW gO hri (j:=0) (n:=2) ω⟩⟩
   ·refine⟨.p o2 (0+i*2),λh _=> ?_,.inr ⟨o2,0+i*2,rfl,hon,r.flatMap ba,?_,?_⟩⟩
    ·rw[Rx,aF ⟨rfl,hi⟩]
    ·rw[gu o2 hon];exact hro
    ·rw[gB];exact cW gO hri (j:=0) (n:=2) ω
  obtain⟨pv,hia,hpv⟩:=q;have hia1:∀v',nU ⟨n1,v',aQ⟩ 2 i rv= .v pv ⟨n1,v',aQ⟩:=λv'=>hia _ rfl;have fin:∀(aJ:T bC) (n2:Nat) (τ':T AV),m+2<=n2 ->(∀j,j<m ->aJ.get j=aQ.get j) ->cG (aJ.get m)=some (cT (oR l w s)) ->cG (aJ.get (m+1))=some [.sn,ι 0] ->τ'.get 2=some (.m o) ->τ'.get 3=some (.p m 0) ->τ'.get 6=some (.p (m+1) 0) ->τ'.get 9=some rv ->τ'.get 10=some (ι (r.length:Int)) ->τ'.get 11=some (ι ((i+1:Nat):Int)) ->(m+2<=n2/\ (∀j,j<m ->aJ.get j=ob.get j)/\ cG (aJ.get m)=some (cT (pA l d (r.take (i+1))))/\ cG (aJ.get (m+1))=some [.sn,ι 0]/\ τ'.get 2=some (.m o)/\ τ'.get 3=some (.p m 0)/\ τ'.get 6=some (.p (m+1) 0)/\ τ'.get 9=some rv/\ τ'.get 10=some (ι (r.length:Int))/\ τ'.get 11=some (ι ((i+1:Nat):Int))):=
   λaJ n2 τ' a1 a2 a3 a4 a5 a6 a7 a8 a9 a10=>⟨a1,λj hj=>(a2 j hj).trans (gu j hj),by rw[wt];exact a3,a4,a5,a6,a7,a8,a9,a10⟩
  cases h1:s.1 with
  |true=>
   have st:oR l w s=w:=by unfold oR;rw[h1];rfl
   rcases hpv with ⟨c,a,rfl,e2⟩|⟨o2,a,rfl,ho2,L,hL,e2⟩<;>
    (
     rw[h1] at e2;refine jC c0 c1 t2 t3 t6 t9 t10 bH hia1 e2 @bK ?_;try refine jC c0 c1 t2 t3 t6 t9 t10 bH hL e2 @bK ?_
     refine ih _ _ (fin _ _ _ (by show m+2<=n1+1;omega) ?_ ?_ ?_ ?_ ?_ ?_ ?_ ?_ ?_)
     ·intro j hj;exact U0
     ·rw[st];exact W0 de
     ·exact W0 c1
     all_goals exact U5 t2 t3 t6 t9 t10)
  |false=>
   have st:oR l w s=cY (λx y=>x&&y) w (fF l s.2):=by unfold oR;rw[h1];rfl
   by_cases hb:w=gq
   ·have st2:oR l w s=w:=by rw[st,hb];exact EE (ml.at_f _)
    have rz:(((aE w).2:Nat):Int)=0:=by rw[hb];rfl
    rcases hpv with ⟨c,a,rfl,e2⟩|⟨o2,a,rfl,ho2,L,hL,e2⟩<;>
     (
      rw[h1] at e2;refine iU c0 c1 t2 t3 t6 t9 t10 bH hia1 e2 rz @bK ?_;try refine iU c0 c1 t2 t3 t6 t9 t10 bH hL e2 rz @bK ?_
      refine ih _ _ (fin _ _ _ (by show m+2<=n1+1;omega) ?_ ?_ ?_ ?_ ?_ ?_ ?_ ?_ ?_)
      ·intro j hj;exact U0
      ·rw[st2];exact W0 de
      ·exact W0 c1
      all_goals exact U5 t2 t3 t6 t9 t10)
   ·have rz:(((aE w).2:Nat):Int)=0↔False:=⟨λh=>hb ((Kj fw).1 ω),False.elim⟩;have fa:=ml.at_f s.2;have ca:=λh=>D7 S D (A w fw) (A _ fa) h;simp only[eT,eD] at ca;have cm:=λt h=>Bx S F t h;simp only[eT,eD] at cm;rcases hpv with ⟨c,a,rfl,e2⟩|⟨o2,a,rfl,ho2,L,hL,e2⟩<;>
     (
      rw[h1] at e2;refine jC c0 c1 t2 t3 t6 t9 t10 bH hia1 e2 rz ?_;try refine jC c0 c1 t2 t3 t6 t9 t10 bH hL e2 rz ?_
      refine E.run (EI (l:=l) S E D F ?_ _ ?_ (by show o<n1+1;omega))
      ·exact W0 hm1
      rintro⟨n2,v2,aJ⟩ hn2 eG;have hn2':n1+1<=n2:=hn2;have cQ:∀j,j<n1+1 ->aJ.get j=_:=eG;have g0:cG (aJ.get m)=some (cT w):=by rw[cQ m ω];exact W0 de
      have g1:cG (aJ.get (m+1))=some [.sn,ι 0]:=by rw[cQ (m+1) ω];exact W0 c1
      have g8:cG (aJ.get n1)=some [.b false,ι (s.2:Int)]:=by rw[cQ n1 ω];exact U0
      simp only[cT] at g0;simp only[eT,eD];refine Y9 g0 g1 g8 t2 t3 t6 t9 t10 bH ?_;refine E.cN (ca _) (Y9 g0 g1 g8 t2 t3 t6 t9 t10 bH ?_);refine E.cN (cm _ _) (nS g0 g1 g8 t2 t3 t6 t9 t10 bH @bK ?_);refine ih _ _ (fin _ _ _ (by show m+2<=n2;omega) ?_ ?_ ?_ ?_ ?_ ?_ ?_ ?_ ?_)
      ·intro j hj;simp(disch:=omega) only[dh,T.get_put,bV];rw[cQ j ω];exact U0
      ·rw[st];exact U1 @cT.eq_1
      ·exact W0 g1
      all_goals exact U5 t2 t3 t6 t9 t10)
 ·rintro τ ⟨n1,v1,aQ⟩ ⟨dS,old,c0,c1,t2,t3,t6,t9,t10,bH⟩;have hn1':m+2<=n1:=dS;rw[rL] at c0;simp only[cT] at c0;refine Y8 c0 c1 t2 t3 t6 t9 t10 bH ?_;refine hk _ (by show m<=n1;omega) λj hj=> ?_;have bF:j<m:=hj;exact W0 (old j bF)
 ·show m+2<=m+1+1;omega
 ·intro j hj;exact U0
 ·simp(disch:=omega) only[dh,T.get_put,bV,dZ,d9,Cf];rfl
 ·exact U0
 all_goals exact U0
def xb:rO (some [])=some (.tu []):=rfl
def iX (n:Nat) (l:List (Nat×Tr)):Nat:=((List.range n).map λi=>mb (fF l i)).sum
def Kk {l:List (Nat×Tr)} {i j:Nat} {x:Tr}:fF (ups i x l) j=if j=i then x else fF l j:=by
 unfold fF;rw[qi];split<;>rfl
def Tg {f g:Nat ->Nat} {i:Nat}:∀{n:Nat},i<n ->(∀j,j≠i ->g j=f j) ->((List.range n).map g).sum+f i=((List.range n).map f).sum+g i
 |0,h,_=>by omega
 |n+1,h,e=>by
  rw[zD,kE,kE,FG,FG];simp only[jY,uf,Lt,List.sum_nil,vG];by_cases hi:i=n
  ·subst hi;have:(List.range i).map g=(List.range i).map f:=X2 λj hj=>e j (by have:=mA.1 hj;omega);rw[this];omega
  ·have:=Tg (n:=n) (i:=i) ω e;rw[e n (λh=>hi h.symm)];omega
def Th {n i:Nat} {l:List (Nat×Tr)} {x:Tr} (hi:i<n):iX n (ups i x l)+mb (fF l i)=iX n l+mb x:=by
 have:=Tg (f:=λj=>mb (fF l j)) (g:=λj=>mb (fF (ups i x l) j)) hi (λj hj=>by rw[Kk,aD hj]);simp only[Kk,dZ] at this;unfold iX;simp only[Kk];exact this
def EL {n:Nat} {Z} {l:List (Nat×Tr)} (m:nZ n Z l):iX n l<=8*n:=by
 unfold iX;have:∀k,((List.range k).map λi=>mb (fF l i)).sum<=8*k:=by
  intro k;induction k with
  |zero=>simp
  |succ k ih=>
   rw[zD,kE,FG];have:=Kc (m.at_f k);simp only[jY,uf,Lt,List.sum_nil];omega
 exact this n
def nZ.ups {n Z l} (m:nZ n Z l) {i:Nat} {x:Tr} (hi:i<n) (fx:cA 3 x=true) (hz:Z i=true ->x=gq):nZ n Z (ups i x l) where
 f:=λj t h=>by
  rw[qi] at h;split at h
  ·rename_i e;cases h;subst e;exact⟨fx,hi⟩
  ·exact m.f j t h
 z:=λj t h hzj=>by
  rw[qi] at h;split at h
  ·rename_i e;cases h;subst e;exact hz hzj
  ·exact m.z j t h hzj
structure ve (n:Nat) (Z:Nat ->Bool) (bm o bc:Nat) (l:List (Nat×Tr)) (c:Bool) (h:AH):Prop where
 m:mG (h.oB.get o)=mT l
 ok:nZ n Z l
 cb:cG (h.oB.get bm)=some [.m o]
 cc:cG (h.oB.get bc)=some [.b c]
 lt:o<h.next/\ bm<h.next/\ bc<h.next
 ne:bm≠o/\ bc≠o/\ bm≠bc
def aU6 (A:dY P X GL) (D:eV ae) (F:jr ae) {n:Nat} {Z:Nat ->Bool} {bm o bc:Nat} {l:List (Nat×Tr)} {c:Bool} {h:AH} (fx:ve n Z bm o bc l c h) {i:Nat} (hi:i<n) {d:Tr} (fd:cA 3 d=true) (hz:Z i=true ->d=gq) (k:AV ->AH ->Prop)
 (hk:∀l' c' h',ve n Z bm o bc l' c' h' ->h.next<=h'.next ->(∀j,j<h.next ->j≠o ->j≠bc ->h'.oB.get j=h.oB.get j) ->iX n l<=iX n l' ->(c'=true ->c=true∨iX n l<iX n l') ->k (.tu []) h'):
 du C 402 [ι (i:Int),eT d,.p bm 0,.p bc 0] h k:=by
 obtain⟨m,ver,ob⟩:=h;obtain⟨hm,ok,cb,cc,⟨lt1,lt2,lt3⟩,ne1,ne2,ne3⟩:=fx;have lt1':o<m:=lt1;have lt2':bm<m:=lt2;have lt3':bc<m:=lt3;dsimp only at hm cb cc;have cm:=λt h=>Bx S F t h;simp only[eT,eD] at cm;rw[E.cB F.f402];by_cases hb:d=gq
 ·have rz:(((aE d).2:Nat):Int)=0:=by rw[hb];rfl
  refine Y5 @HR.eq_1 @eT.eq_1 @eD.eq_1 rz @xb ?_;refine hk l c _ ⟨(W0 hm),ok,(W0 cb),(W0 cc),⟨by show o<m+1;omega,by show bm<m+1;omega,by show bc<m+1;omega⟩,ne1,ne2,ne3⟩ (by show m<=m+1;omega) (λj hj _ _=> ?_) (bB _) (λh=> .inl h)
  ·have bF:j<m:=hj;exact U0
 ·have rz:(((aE d).2:Nat):Int)=0↔False:=⟨λh=>hb ((Kj fd).1 ω),False.elim⟩;have fa:=ok.at_f i;have fo:cA 3 (cY (λx y=>x||y) (fF l i) d)=true:=jd fa fd;have co:=λh=>IG S D (A _ fa) (A _ fd) h;have cs:=λh=>RC S D (A _ fa) (A _ fo) h;simp only[eT,eD] at co cs;refine Y5 @HR.eq_1 @eT.eq_1 @eD.eq_1 rz cb ?_;refine E.run (EI (l:=l) S E D F ?_ _ ?_ (by show o<m+1;omega))
  ·exact W0 hm
  rintro⟨n2,v2,aJ⟩ hn2 eG;have hn2':m+1<=n2:=hn2;have cQ:∀j,j<m+1 ->aJ.get j=_:=eG;have g5:cG (aJ.get m)=some [cu (aE d).1,ι ((aE d).2:Int)]:=by rw[cQ m ω];exact U0
  have gb:cG (aJ.get bm)=some [.m o]:=by rw[cQ bm ω];exact W0 cb
  have gc:cG (aJ.get bc)=some [.b c]:=by rw[cQ bc ω];exact W0 cc
  have gm:mG (aJ.get o)=mT l:=by rw[cQ o ω];exact W0 hm
  have gl:∀j,j<m ->aJ.get j=ob.get j:=λj hj=>by rw[cQ j ω];exact U0
  simp only[eT,eD];refine Y3 g5 gb gc ?_;refine E.cN (co _) (Y3 g5 gb gc ?_);refine E.cN (cm _ _) (Y3 g5 gb gc ?_);refine E.cN (cs _) ?_;have oy:=ED (k:=3) fa fd;have su:=Th (l:=l) (x:=cY (λx y=>x||y) (fF l i) d) hi;by_cases he:fF l i=cY (λx y=>x||y) (fF l i) d
  ·have hd:decide (fF l i=cY (λx y=>x||y) (fF l i) d)=true:=zG he;rw[hd];refine Y3 gb gc @xb ?_;refine hk l c _ ⟨(W0 gm),ok,(W0 gb),(W0 gc),⟨by show o<n2+1+1;omega,by show bm<n2+1+1;omega,by show bc<n2+1+1;omega⟩,ne1,ne2,ne3⟩ (by show m<=n2+1+1;omega) (λj hj _ _=> ?_) (bB _) (λh=> .inl h)
   ·have bF:j<m:=hj;exact W0 (gl j bF)
  ·have hd:decide (fF l i=cY (λx y=>x||y) (fF l i) d)=false:=ot he;rw[hd];have mu:∀aA ob' (τ:T AV),mG (T.get ob' o)=mT l ->az C τ (.t 24)= .m o ->az C τ (.t 25)=ι (i:Int) ->az C τ (.t 26)= .ag [cu (aE (cY (λx y=>x||y) (fF l i) d)).1,ι ((aE (cY (λx y=>x||y) (fF l i) d)).2:Int)] ->
    step (az C τ) ⟨n2+1+1,aA,ob'⟩ (.mupd (.lf .i) (.t 24) (.t 25) (.t 26))= .v .un ⟨n2+1+1,aA+1,ob'.put o (.map (aA+1) (di (λn:Nat=>AV.i .i64 (n:Int)) eT 0 (ups i (cY (λx y=>x||y) (fF l i) d) l)) (ups i (cY (λx y=>x||y) (fF l i) d) l).length)⟩:=
    λaA ob' τ q1 q2 q3 q4=>mL (k:=i) (v:=cY (λx y=>x||y) (fF l i) d) (en:=eT) lW (h:=⟨n2+1+1,aA,ob'⟩) (fT.2 q1) q2 q3 q4
   refine Z5 gb gc mu gm @xb ?_;refine hk (ups i (cY (λx y=>x||y) (fF l i) d) l) true _ ⟨?_,ok.ups hi fo (λhzi=>bh (hz hzi) hb),?_,?_,⟨by show o<n2+1+1;omega,by show bm<n2+1+1;omega,by show bc<n2+1+1;omega⟩,ne1,ne2,ne3⟩ (by show m<=n2+1+1;omega) (λj hj h1 h2=> ?_) ω (λ_=> .inr (by have:=oy.2 (λh=>he h.symm);omega))
   ·exact U0
   ·exact W0 gb
   ·exact U0
   ·have bF:j<m:=hj;exact W0 (gl j bF)
structure By (h:AH) (oa op:Nat) (g:Gr):Prop where
 a:cG (h.oB.get oa)=some (ar g++[.sl op 0 g.pR.length none 2])
 p:cG (h.oB.get op)=some ((g.pR.map (jh g)).flatMap cT)
def aU7 (A:dY P X GL) (D:eV ae) (F:jr ae) {g:Gr} (G:ce g) {Z:Nat ->Bool} (Y:iQ g Z) {oa op b2 b3 b5 bm o bc:Nat} {l:List (Nat×Tr)} {c:Bool} {h:AH} (fx:ve g.nT.length Z bm o bc l c h) (an:By h oa op g)
 (q2:cG (h.oB.get b2)=some [.p oa 0]) (q3:cG (h.oB.get b3)=some [.b true]) (q5:cG (h.oB.get b5)=some [.m o]) (low:oa<o/\ op<o/\ b2<o/\ b3<o/\ o<b5/\ b5<bm/\ bm<bc) (k:AV ->AH ->Prop)
 (hk:∀l' c' h',ve g.nT.length Z bm o bc l' c' h' ->h.next<=h'.next ->(∀j,j<h.next ->j≠o ->j≠bc ->h'.oB.get j=h.oB.get j) ->iX g.nT.length l<=iX g.nT.length l' ->(c'=true ->c=true∨iX g.nT.length l<iX g.nT.length l') ->k (.tu []) h'):
 du C 268 [.f 402 [] [.p bm 0,.p bc 0],.p b2 0,.p b3 0,.p b5 0] h k:=by
 obtain⟨m,ver,ob⟩:=h;obtain⟨low1,low2,low3,low4,low5,low6,low7⟩:=low;have ltc:bc<m:=fx.lt.2.2;have pl:=G.pl;have ntl:=G.ntl;obtain⟨an1,an2⟩:=an;dsimp only at an1 an2 q2 q3 q5;have an1':=an1;simp only[ar,gw,gx] at an1;refine E.bS F.f268 (Y3 @PQ.eq_1 q2 an1 ?_);refine fj E.ok g.pR.length (λi τ h=>∃l' c',ve g.nT.length Z bm o bc l' c' h/\ m<=h.next/\ (∀j,j<m ->j≠o ->j≠bc ->h.oB.get j=ob.get j)/\ iX g.nT.length l<=iX g.nT.length l'/\ (c'=true ->c=true∨iX g.nT.length l<iX g.nT.length l')/\ τ.get 0=some (.f 402 [] [.p bm 0,.p bc 0])/\ τ.get 1=some (.p b2 0)/\ τ.get 2=some (.p b3 0)/\ τ.get 3=some (.p b5 0)/\ τ.get 13=some (eR aM 13 true g.pR)/\ τ.get 14=some (ι (g.pR.length:Int))/\ τ.get 15=some (ι (i:Int))) ?_ ?_ _ _ ⟨l,c,fx,bB _,λj _ _ _=>rfl,bB _,λh=> .inl h,?_,?_,?_,?_,?_,?_,?_⟩
 ·rintro i τ ⟨n1,v1,aQ⟩ hi ⟨l',c',fx1,dS,dD,sm1,sm2,t0,t1,t2,t3,t13,t14,t15⟩ ih;have hn1':m<=n1:=dS;have old1':∀j,j<m ->j≠o ->j≠bc ->aQ.get j=ob.get j:=dD;have hpi:g.pR[i]? =some g.pR[i]:=cE hi;generalize hp:g.pR[i]=p at hpi;have hpm:=dI hpi;have ok:=G.p p hpm;have rl:=ok.len;have e13:sub (g.pR.flatMap aM) (i*13) 13=some (aM p):=cW kr hpi (j:=0) (n:=13) ω;simp only[aM] at e13;have fp:=S7 G hpm;refine Y9 t0 t1 t2 t3 t13 t14 t15 @bG e13 ?_;refine fj E.ok p.right.length (λj τ h=>(∀s∈p.right.take j,s.1=false)/\ n1+1<=h.next/\ (∀j,j<n1 ->h.oB.get j=aQ.get j)/\ cG (h.oB.get n1)=some (aM p)/\ τ.get 0=some (.f 402 [] [.p bm 0,.p bc 0])/\ τ.get 1=some (.p b2 0)/\ τ.get 2=some (.p b3 0)/\ τ.get 3=some (.p b5 0)/\ τ.get 5=some (ι (i:Int))/\ τ.get 6=some (.p n1 0)/\ τ.get 13=some (eR aM 13 true g.pR)/\ τ.get 14=some (ι (g.pR.length:Int))/\ τ.get 15=some (ι (i:Int))/\ τ.get 21=some (eR ba 2 p.rn p.right)/\ τ.get 22=some (ι (p.right.length:Int))/\ τ.get 23=some (ι (j:Int))) ?_ ?_ _ _ ⟨?_,?_,?_,?_,?_,?_,?_,?_,?_,?_,?_,?_,?_,?_,?_,?_⟩
  ·rintro j τ ⟨n2,v2,aJ⟩ hj ⟨nt,hn2,eG,hc6,s0,s1,s2,s3,s5,s6,s13,s14,s15,s21,s22,s23⟩ ih2;have hn2':n1+1<=n2:=hn2;have cQ:∀j,j<n1 ->aJ.get j=aQ.get j:=eG;have hrj:p.right[j]? =some p.right[j]:=cE hj;generalize hs:p.right[j]=s at hrj;have e2:sub (p.right.flatMap ba) (j*2) 2=some [.b s.1,ι (s.2:Int)]:=cW gO hrj (j:=0) (n:=2) ω;have r3:cG (aJ.get b3)=some [.b true]:=by rw[cQ b3 ω,old1' b3 ω ω ω];exact q3
   cases h1:s.1 with
   |true=>
    rw[h1] at e2;refine pq r3 s0 s1 s2 s3 s5 s6 s13 s14 s15 s21 s22 s23 @bG e2 @bK ?_;refine ih _ _ ⟨l',c',⟨?_,fx1.ok,?_,?_,⟨?_,?_,?_⟩,fx1.ne⟩,by show m<=n2+1;omega,λj hj h1 h2=> ?_,sm1,sm2,?_,?_,?_,?_,?_,?_,?_⟩
    ·simp(disch:=omega) only[dh,T.get_put,bV];rw[cQ o (by have:=fx1.lt.1;have h2:o<n1:=this;omega)];exact fx1.m
    ·simp(disch:=omega) only[dh,T.get_put,bV];rw[cQ bm ω];exact fx1.cb
    ·simp(disch:=omega) only[dh,T.get_put,bV];rw[cQ bc ω];exact fx1.cc
    ·show o<n2+1;omega
    ·show bm<n2+1;omega
    ·show bc<n2+1;omega
    ·simp(disch:=omega) only[dh,T.get_put,bV];rw[cQ j ω];exact old1' j hj h1 h2
    all_goals exact U6 s0 s1 s2 s3 s13 s14
   |false=>
    rw[h1] at e2;refine pq r3 s0 s1 s2 s3 s5 s6 s13 s14 s15 s21 s22 s23 @bG e2 @bK ?_;refine ih2 _ _ ⟨?_,by show n1+1<=n2+1;omega,λj hj=> ?_,?_,?_,?_,?_,?_,?_,?_,?_,?_,?_,?_,?_,?_⟩
    ·intro s' hs';rw[nY hrj] at hs';rcases fO.1 hs' with h|h
     ·exact nt s' h
     ·rw[fk.1 h];exact h1
    ·exact W0 (cQ j hj)
    ·exact W0 hc6
    all_goals exact U11 s0 s1 s2 s3 s5 s6 s13 s14 s15 s21 s22
  ·rintro τ ⟨n2,v2,aJ⟩ ⟨nt,hn2,eG,hc6,s0,s1,s2,s3,s5,s6,s13,s14,s15,s21,s22,s23⟩;have hn2':n1+1<=n2:=hn2;have cQ:∀j,j<n1 ->aJ.get j=aQ.get j:=eG;rw[rL] at nt;have lo1:o<n1:=fx1.lt.1;have r2:cG (aJ.get b2)=some [.p oa 0]:=by rw[cQ b2 ω,old1' b2 ω ω ω];exact q2
   have r5:cG (aJ.get b5)=some [.m o]:=by rw[cQ b5 ω,old1' b5 ω ω ω];exact q5
   have ra:cG (aJ.get oa)=some (ar g++[.sl op 0 g.pR.length none 2]):=by rw[cQ oa ω,old1' oa ω ω ω];exact an1'
   have rp:cG (aJ.get op)=some ((g.pR.map (jh g)).flatMap cT):=by rw[cQ op ω,old1' op ω ω ω];exact an2
   simp only[ar,gw,gx] at ra;have epi:sub ((g.pR.map (jh g)).flatMap cT) (i*2) 2=some (cT (jh g p)):=cW J9 (L:=g.pR.map (jh g)) (i:=i) (a:=jh g p) (by rw[oh,hpi];rfl) (j:=0) (n:=2) ω;simp only[cT] at epi;dsimp only at hc6;have hc6':=hc6;simp only[aM] at hc6;have nk3:nice 64 (eR ba 2 p.rn p.right)=true:=dg jE;have hm2:mG (aJ.get o)=mT l':=by rw[cQ o lo1];exact fx1.m
   refine qq r2 r5 ra rp epi hc6 nk3 s0 s1 s2 s3 s5 s6 s13 s14 s15 s21 s22 s23 ?_;refine E.run (Tf (n:=g.nT.length) (Z:=Z) (l:=l') (d:=jh g p) (r:=p.right) S E A D F fx1.ok hm2 (by show o<n2;omega) fp (.inl ⟨p.rn,rfl⟩) ω _ ?_);rintro⟨n3,v3,cC⟩ hn3 old3;have hn3':n2<=n3:=hn3;have iN:∀j,j<n2 ->cC.get j=aJ.get j:=old3;have fw:=EJ fx1.ok p.right _ fp;have hz:Z p.left=true ->pA l' (jh g p) p.right=gq:=λhzl=>by
    obtain⟨s,hs1,hs2⟩:=Y.z p hpm hzl;have hs3:=nt s hs1;rcases hs2 with h|h
    ·rw[hs3] at h;cases h
    ·exact Te fx1.ok _ _ fp (.inr ⟨s,hs1,hs3,fx1.ok.at_z h⟩)
   generalize hw:pA l' (jh g p) p.right=w at*;simp only[eT,eD];have t2':cG (cC.get b2)=some [.p oa 0]:=by rw[iN b2 ω];exact r2
   have t5':cG (cC.get b5)=some [.m o]:=by rw[iN b5 ω];exact r5
   have t6':cG (cC.get n1)=some (aM p):=by rw[iN n1 ω];exact hc6'
   have ta':cG (cC.get oa)=_:=(congrArg cG (iN oa ω)).trans ra;have tp':cG (cC.get op)=some ((g.pR.map (jh g)).flatMap cT):=by rw[iN op ω];exact rp
   simp only[aM] at t6';refine qq t2' t5' t6' ta' tp' epi nk3 s0 s1 s2 s3 s5 s6 s13 s14 s15 s21 s22 s23 ?_;have fx3:ve g.nT.length Z bm o bc l' c' ⟨n3,v3,cC⟩:=
    ⟨by show mG (cC.get o)=_;rw[iN o ω];exact hm2,fx1.ok,by show cG (cC.get bm)=_;rw[iN bm ω,cQ bm ω];exact fx1.cb,by show cG (cC.get bc)=_;rw[iN bc ω,cQ bc ω];exact fx1.cc,⟨by show o<n3;omega,by show bm<n3;omega,by show bc<n3;omega⟩,fx1.ne⟩
   refine E.run (aU6 (d:=w) S E A D F fx3 ok.left fw hz _ ?_);rintro l2 c2 ⟨n4,v4,ob4⟩ fx4 hn4 old4 sm3 sm4;have hn4':n3<=n4:=hn4;have old4':∀j,j<n3 ->j≠o ->j≠bc ->ob4.get j=cC.get j:=old4;refine pm s0 s1 s2 s3 s5 s6 s13 s14 s15 s21 s22 s23 @bK ?_;refine ih _ _ ⟨l2,c2,fx4,by show m<=n4;omega,λj hj h1 h2=> ?_,by omega,λh=> ?_,?_,?_,?_,?_,?_,?_,?_⟩
   ·show ob4.get j=_;rw[old4' j ω h1 h2,iN j ω,cQ j ω];exact old1' j hj h1 h2
   ·rcases sm4 h with h'|h'
    ·rcases sm2 h' with h''|h''
     ·exact .inl h''
     ·exact .inr ω
    ·exact .inr ω
   all_goals exact U6 s0 s1 s2 s3 s13 s14
  ·simp
  ·exact bB _
  ·intro j hj;exact U0
  ·exact U1 @aM.eq_1
  all_goals exact U7 t0 t1 t2 t3 t13 t14 t15
 ·rintro τ ⟨n1,v1,aQ⟩ ⟨l',c',fx1,dS,dD,sm1,sm2,t0,t1,t2,t3,t13,t14,t15⟩;refine Y8 t0 t1 t2 t3 t13 t14 t15 @xb ?_;exact hk l' c' _ fx1 dS dD sm1 sm2
 all_goals exact U0
def aU8 (A:dY P X GL) (D:eV ae) (F:jr ae) {g:Gr} (G:ce g) {Z:Nat ->Bool} (Y:iQ g Z) {oa op:Nat} {h:AH} (an:By h oa op g) (la:oa<h.next/\ op<h.next) (k:AV ->AH ->Prop)
 (hk:∀o l h',mG (h'.oB.get o)=mT l ->nZ g.nT.length Z l ->h.next<=h'.next ->h.next<=o ->o<h'.next ->(∀j,j<h.next ->h'.oB.get j=h.oB.get j) ->k (.m o) h'):
 du C 150 [.p oa 0,.b true] h k:=by
 obtain⟨m,ver,ob⟩:=h;obtain⟨an1,an2⟩:=an;have la1:oa<m:=la.1;have la2:op<m:=la.2;dsimp only at an1 an2;have ntl:=G.ntl;refine E.bS F.f150 (Y1 @PI.eq_1 ?_);refine E.run ?_;refine E.bS F.f267 (Y1 @PP.eq_1 ?_);refine za E.ok (λx:List (Nat×Tr)×Bool=>2*(8*g.nT.length-iX g.nT.length x.1)+(if x.2 then 1 else 0)) (λx τ h=>∃bc,ve g.nT.length Z (m+4) (m+2) bc x.1 x.2 h/\ m+5<=bc/\ (∀j,j<m+4 ->j≠m+2 ->h.oB.get j=((((ob.put m (.cells ver [.p oa 0])).put (m+1) (.cells ver [.b true])).put (m+3) (.cells (ver+1) [.m (m+2)]))).get j)/\ τ.get 1=some (.f 268 [] [.p m 0,.p (m+1) 0,.p (m+3) 0])/\ τ.get 2=some (.p (m+4) 0)/\ τ.get 4=some (.p bc 0)) ?_ ([],true) _ _ ⟨m+5,⟨?_,⟨λi t h=>by simp[look] at h,λi t h=>by simp[look] at h⟩,?_,?_,⟨?_,?_,?_⟩,⟨by omega,by omega,by omega⟩⟩,by omega,λj h1 h2=> ?_,?_,?_,?_⟩
 ·rintro⟨l,c⟩ τ ⟨n1,v1,aQ⟩ ⟨bc,fx,hbc,old,t1,t2,t4⟩ ih;dsimp only at fx;have l1:m+2<n1:=fx.lt.1;have l2:m+4<n1:=fx.lt.2.1;have l3:bc<n1:=fx.lt.2.2;have gu:∀j,j<m+4 ->j≠m+2 ->aQ.get j=_:=old;have cc:=fx.cc;dsimp only at cc;have g0:cG (aQ.get m)=some [.p oa 0]:=by rw[gu m ω ω];exact U0
  have g1:cG (aQ.get (m+1))=some [.b true]:=by rw[gu (m+1) ω ω];exact U0
  have g3:cG (aQ.get (m+3))=some [.m (m+2)]:=by rw[gu (m+3) ω ω];exact U0
  have ga:cG (aQ.get oa)=some (ar g++[.sl op 0 g.pR.length none 2]):=by rw[gu oa ω ω];exact W0 an1
  have gp:cG (aQ.get op)=some ((g.pR.map (jh g)).flatMap cT):=by rw[gu op ω ω];exact W0 an2
  cases c with
  |false=>
   refine Y5 t1 t2 t4 cc @xb ?_;refine Y1 g3 ?_;refine hk (m+2) l _ fx.m fx.ok (by show m<=n1;omega) (by show m<=m+2;omega) l1 (λj hj=> ?_);have bF:j<m:=hj;show aQ.get j=_;rw[gu j ω ω];exact U0
  |true=>
   refine Y4 t1 t2 t4 cc ?_;have fx1:ve g.nT.length Z (m+4) (m+2) bc l false ⟨n1,v1+1,aQ.put bc (.cells (v1+1) [.b false])⟩:=
    ⟨by have:=fx.m;exact W0 this,fx.ok,by have:=fx.cb;exact W0 this,by exact U0,⟨l1,l2,l3⟩,fx.ne⟩
   refine E.run (aU7 (oa:=oa) (op:=op) (b2:=m) (b3:=m+1) (b5:=m+3) S E A D F G Y fx1 ⟨?_,?_⟩ ?_ ?_ ?_ ⟨by omega,by omega,by omega,by omega,by omega,by omega,by omega⟩ _ ?_)
   ·exact W0 ga
   ·exact W0 gp
   ·exact W0 g0
   ·exact W0 g1
   ·exact W0 g3
   rintro l' c' ⟨n2,v2,aJ⟩ fx2 hn2 eG sm1 sm2;have hn2':n1<=n2:=hn2;have cQ:∀j,j<n1 ->j≠m+2 ->j≠bc ->aJ.get j=_:=eG;have cc2:=fx2.cc;dsimp only at cc2;refine Y4 t1 t2 t4 cc2 ?_;have s1:=EL fx.ok;have s2:=EL fx2.ok;refine ih (l',c') _ _ ?_ ⟨n2,⟨?_,fx2.ok,?_,?_,⟨by show m+2<n2+1;omega,by show m+4<n2+1;omega,by show n2<n2+1;omega⟩,⟨by omega,by omega,by omega⟩⟩,by omega,λj h1 h2=> ?_,?_,?_,?_⟩
   ·dsimp only;cases c' with
    |true=>
     have:=(sm2 rfl).resolve_left (by simp);simp only[dZ];omega
    |false=>simp only[dZ,nr,bV];omega
   ·have:=fx2.m;exact W0 this
   ·have:=fx2.cb;exact W0 this
   ·exact U0
   ·simp(disch:=omega) only[dh,T.get_put,bV];rw[cQ j ω h2 ω];simp(disch:=omega) only[dh,T.get_put,bV];rw[gu j h1 h2];exact U0
   all_goals exact U2 t1 t2
 ·exact U0
 ·exact U0
 ·exact U0
 ·show m+2<m+6;omega
 ·show m+4<m+6;omega
 ·show m+5<m+6;omega
 ·exact U0
 all_goals exact U0
def eK (p:Nat×Nat):AV:= .ag [ι (p.1:Int),ι (p.2:Int)]
def tK:ET:= .ag [(0,1,false,.lf .i),(1,1,false,.lf .i)]
def Kl:rZ eK tK where
 eq:=λa b=>by
  obtain⟨a1,a2⟩:=a;obtain⟨b1,b2⟩:=b;have h:eH 6 tK (eK (a1,a2)) (eK (b1,b2))=(match (some (eO (a1:Int) (b1:Int)):Option Bool) with
   |some true=>(match (some (eO (a2:Int) (b2:Int)):Option Bool) with
    |some true=>some true
    |r=>r)
   |r=>r):=rfl
  rw[h,fg,fg];have c1:((a1:Int)=(b1:Int))↔a1=b1:=by omega
  have c2:((a2:Int)=(b2:Int))↔a2=b2:=by omega
  simp only[c1,c2];by_cases h1:a1=b1<;>by_cases h2:a2=b2<;>simp[h1,h2]
 q:=λa=>by
  obtain⟨a1,a2⟩:=a;have h:j3 tK (eK (a1,a2))=(match (match (some (eO (a1:Int) (a1:Int)):Option Bool) with
   |some true=>(match (some (eO (a2:Int) (a2:Int)):Option Bool) with
    |some true=>some true
    |r=>r)
   |r=>r) with|some true=>true|_=>false):=rfl
  rw[h,fg,fg];simp
 self:=λa=>by
  obtain⟨a1,a2⟩:=a;have h:o9 (eK (a1,a2)) (eK (a1,a2))=((gZ .i64 .i64&&eO (a1:Int) a1)&&((gZ .i64 .i64&&eO (a2:Int) a2)&&true)):=rfl;rw[h,fg,fg];simp[gZ]
def mS (l:List ((Nat×Nat)×Tr)):Option (List (AV×AV×Nat)×Nat):=some (di eK eT 0 l,l.length)
structure pB (n:Nat) (l:List ((Nat×Nat)×Tr)):Prop where
 f:∀p t,look p l=some t ->cA 3 t=true/\ p.1<p.2/\ p.2<n
 nd:(l.map (·.1)).Nodup
def pC (l:List ((Nat×Nat)×Tr)) (p:Nat×Nat):Tr:=(look p l).getD gq
def pB.at_f {n l} (m:pB n l) (p:Nat×Nat):cA 3 (pC l p)=true:=by
 unfold pC;cases h:look p l with
 |none=>exact EC
 |some t=>exact(m.f p t h).1
def aU9 {l:List ((Nat×Nat)×Tr)} {p}:oF eT (.ag [.sn,ι 0]) (look p l)= .ag [cu (aE (pC l p)).1,ι ((aE (pC l p)).2:Int)]:=by
 unfold pC;cases look p l<;>rfl
def nV (x:Nat×List Nat):AV:= .sl x.1 0 x.2.length none 1
def mN (l:List (Nat×(Nat×List Nat))):Option (List (AV×AV×Nat)×Nat):=some (di (λn:Nat=>AV.i .i64 (n:Int)) nV 0 l,l.length)
structure EM (n:Nat) (g:Nat ->Option bC) (x:Nat) (N:List (Nat×(Nat×List Nat))):Prop where
 f:∀(a o:Nat) (L:List Nat),look a N=some (o,L) ->cG (g o)=some (L.flatMap cI)/\ L≠[]/\ (∀b∈L,a<b/\ b<n)/\ L.length<=100000/\ o<x
structure EN (h:AH) (x:Nat) (v:AV) (q:List Nat):Prop where
 e:∃o a c L,v= .sl o a q.length c 1/\ cG (h.oB.get o)=some L/\ sub L a q.length=some (q.flatMap cI)/\ (c=none∨(c=some 0/\ q=[]/\ a=0/\ L=[]))/\ x+2<=o/\ o≠x+3/\ o<h.next
def aV0 {h:AH} {o a n o2:Nat} {L old new:List AV} (hc:cG (h.oB.get o)=some L) (hs:sub L a n=some old) (h2:cG (h.oB.get o2)=some new) (hn:new.length=1) (ha:cF new=true) (hb:n+1<=1048576):gU h 1 (.sl o a n none 1) (.sl o2 0 1 (some 1) 1)= .v (.sl h.next 0 (n+1) none 1) ⟨h.next+1,h.ver+1,(h.oB.put o .gone).put h.next (.cells (h.ver+1) (old++new))⟩:=by
 have e1:eI h 1 (.sl o2 0 1 (some 1) 1)=some new:=wH h2 (mM ω);show(match ij (.sl o2 0 1 (some 1) 1),eI h 1 (.sl o2 0 1 (some 1) 1) with|some n',some l=>gD h (.sl o a n none 1) n' l 1|_,_=> .bad)=_;rw[e1];show gD h (.sl o a n none 1) 1 new 1=_;have e:gD h (.sl o a n none 1) 1 new 1=(match h.cells o with
  |none=>ay.bad
  |some l=>fN (n+1) λneed=>bif !(Nat.beq 1 1&&(Nat.ble need 1048576&&cF new)) then .bad else
   match sub l a (n*1) with
   |some old=>match fy old new with
    |some l=>h.put o .gone λh=>h.new (.cells h.ver l) λo h=> .v (.sl o 0 need none 1) h
    |none=> .bad
   |none=> .bad):=rfl
 have hc':h.cells o=some L:=hc;rw[e,hc'];simp only[dT,bu,dm,hb,ha,mC,g9,jk,eU,vH,hs,jz,AH.put_eq,AH.new_eq]
structure vg (n nn x:Nat) (g:Nat ->Option bC) (R:List (Nat×Tr)) (q:List Nat) (h:AH):Prop where
 r:mG (h.oB.get x)=mT R
 ok:nZ n (λi=>decide (i<=nn)) R
 c1:cG (h.oB.get (x+1))=some [.m x]
 c3:∃v,cG (h.oB.get (x+3))=some [v]/\ EN h x v q
 lq:∀m∈q,nn<m/\ m<n
 ql:q.length<=iX n R
 nx:x+4<=h.next
 old:∀j,j<x ->h.oB.get j=g j
def EN.mono {h h':AH} {x v q} (a:EN h x v q) (hn:h.next<=h'.next) (e:∀j,j<h.next ->h'.oB.get j=h.oB.get j):EN h' x v q:=by
 obtain⟨o,b,c,L,h1,h2,h3,h4,h5,h6,h7⟩:=a.e;exact⟨⟨o,b,c,L,h1,by rw[e o h7];exact h2,h3,h4,h5,h6,by omega⟩⟩
def vg.mono {n nn x g R q} {h h':AH} (a:vg n nn x g R q h) (hn:h.next<=h'.next) (e:∀j,j<h.next ->h'.oB.get j=h.oB.get j):vg n nn x g R q h':=by
 obtain⟨h1,h2,h3,⟨v,h4,h5⟩,h6,h7,h8,h9⟩:=a;exact⟨by rw[e _ ω];exact h1,h2,by rw[e _ ω];exact h3,⟨v,by rw[e _ ω];exact h4,h5.mono hn e⟩,h6,h7,by omega,λj hj=>by rw[e _ ω];exact h9 j hj⟩
def aV1 (D:eV ae) (F:jr ae) {h:AH} {o:Nat} {p:Nat×Nat} {l:List ((Nat×Nat)×Tr)} (hm:mG (h.oB.get o)=mS l) (k:AV ->AH ->Prop)
 (hk:∀h',h.next<=h'.next ->(∀j,j<h.next ->h'.oB.get j=h.oB.get j) ->k (eT (pC l p)) h') (ho:o<h.next):du C 153 [.m o,eK p] h k:=by
 obtain⟨m,ver,ob⟩:=h;have bT:o<m:=ho;dsimp only at hm;have lk:∀bQ aA ob' (τ:T AV),mG (T.get ob' o)=mS l ->az C τ (.t 8)= .m o ->az C τ (.t 9)=eK p ->
  step (az C τ) ⟨bQ,aA,ob'⟩ (.look (.ag [(0,1,false,.lf .i),(1,1,false,.lf .i)]) (.t 8) (.t 9) (.ag [.sn,ι 0]) true)= .v (hU eT (.ag [.sn,ι 0]) (look p l)) ⟨bQ,aA,ob'⟩:=
  λbQ aA ob' τ q1 q2 q3=>uQ (k:=p) (z:= .ag [.sn,ι 0]) (en:=eT) Kl (h:=⟨bQ,aA,ob'⟩) (fT.2 q1) q2 q3
 simp only[eK] at lk ⊢;have cc:=λh=>IW S D false h;have e0:eT (eu false 3)= .ag [.sn,ι 0]:=rfl;rw[e0] at cc;rw[E.cB F.f153];cases hl:look p l with
 |none=>
  have hk2:pC l p=gq:=by unfold pC;rw[hl];rfl
  rw[hk2] at hk;simp(disch:=first|omega|(exact U1 hm)) only[lk,hl,hU,↓sA E.ok,Nat.reduceAdd,↓reduceIte,go_sem];refine E.cN (cc _) (Y0 ?_);refine hk _ (by show m<=m+1+1+1;omega) λj hj=> ?_;have bF:j<m:=hj;exact U0
 |some t=>
  have hk2:pC l p=t:=by unfold pC;rw[hl];rfl
  rw[hk2] at hk;refine Z7 @PK.eq_1 lk hl @hU.eq_1 hm @eT.eq_1 @eD.eq_1 ?_;refine hk _ (by show m<=m+1+1+1;omega) λj hj=> ?_;have bF:j<m:=hj;exact U0
end
end AM
