import Derived.Test.YtcpcjocnnclcmaaGreatDoorN24
set_option linter.all false
namespace AM
open Dg Go
noncomputable section
def mT (l:List (Nat×Tr)):Option (List (AV×AV×Nat)×Nat):=some (cV (fun n:Nat=>AV.i .i64 (n:Int)) eT 0 l,l.length)
def oT (l:List (Nat×Tr)) (i:Nat):Tr:=(look i l).getD cN
structure sL (n:Nat) (Z:Nat ->Bool) (l:List (Nat×Tr)):Prop where
 f:∀(i:Nat) t,look i l=some t ->ew 3 t=true/\ i<n
 z:∀(i:Nat) t,look i l=some t ->Z i=true ->t=cN
def sL.at_f {n Z l} (m:sL n Z l) (i:Nat):ew 3 (oT l i)=true:=by
 unfold oT;cases h:look i l with
 |none=>exact lK
 |some t=>exact(m.f i t h).1
def sL.at_z {n Z l} (m:sL n Z l) {i:Nat} (hz:Z i=true):oT l i=cN:=by
 unfold oT;cases h:look i l with
 |none=>rfl
 |some t=>exact m.z i t h hz
def PP:(kE 3).all (fun t=>decide ((ax t).2=0 ->t=cN))=true:=by kernel_rfl
def yL {t:Tr} (h:ew 3 t=true):(ax t).2=0↔t=cN:=by
 constructor
 ·have:=fK.1 PP t (mA h);exact decide_eq_true_eq.mp this
 ·rintro rfl;rfl
section
variable {P:Program} {X:dy} {GL:T (List AV)} {fns:T aR}
def qe (S:aw P X GL fns) (F:qd fns) (t:Tr) (h:AH):dq P X GL 100 [eT t,.i .i64 0] h (eT t) h:=by
 refine aE S (n:=9) ?_ (by simp only[af,fg,ay,dc]) h;refine aZ.intro fun C E=> ?_
 rw[aA E.ok (E.get F.f100)];refine Y4 @US.eq_1 @eT.eq_1 @eD.eq_1 @h0.eq_1 ?_;exact⟨9,iF _ _⟩
def wP {C:cQ Prop} (S:aw P X GL fns) (E:gW P X GL fns C) (D:gD fns) (F:qd fns) {h:AH} {o i:Nat} {l:List (Nat×Tr)} (hm:mG (h.objs.get o)=mT l) (k:AV ->AH ->Prop)
 (hk:∀h',h.next<=h'.next ->(∀j,j<h.next ->h'.objs.get j=h.objs.get j) ->k (eT (oT l i)) h') (ho:o<h.next):bZ C 108 [.m o,.i .i64 (i:Int)] h k:=by
 obtain⟨m,ver,ob⟩:=h;have ho':o<m:=ho;dsimp only at hm;have lk:∀ver' ob' (τ:T AV),mG (T.get ob' o)=mT l ->bp C τ (.t 8)= .m o ->bp C τ (.t 9)= .i .i64 (i:Int) ->
  step (bp C τ) ⟨m+1,ver',ob'⟩ (.look (.lf .i) (.t 8) (.t 9) (.ag [.sn,.i .i64 0]) true)= .v (sQ eT (.ag [.sn,.i .i64 0]) (look i l)) ⟨m+1,ver',ob'⟩:=
  fun ver' ob' τ q1 q2 q3=>kx (k:=i) (z:= .ag [.sn,.i .i64 0]) (en:=eT) pR (h:=⟨m+1,ver',ob'⟩) (bA.2 q1) q2 q3
 have cc:=fun h=>sA S D false h
 have e0:eT (dQ false 3)= .ag [.sn,.i .i64 0]:=rfl;rw[e0] at cc;rw[aA E.ok (E.get F.f108)];cases hl:look i l with
 |none=>
  have hk2:oT l i=cN:=by unfold oT;rw[hl];rfl
  rw[hk2] at hk;simp(disch:=first|omega|(exact U1 hm)) only[PM,lk,hl,sQ,hm,↓ky E.ok,Nat.reduceEqDiff,Nat.reduceAdd,Nat.reduceMul,Nat.reduceLT,Nat.reduceShiftRight,Nat.reduceAnd,Nat.reduceBneDiff,↓reduceIte,Int.reduceLT,Int.reduceLE,Int.reduceEq,go_sem];refine E.con (cc _) ?_;refine Y0 ?_;refine hk _ (by show m<=m+1+1;omega) fun j hj=> ?_
  have hj':j<m:=hj;exact U0
 |some t=>
  have hk2:oT l i=t:=by unfold oT;rw[hl];rfl
  rw[hk2] at hk;refine Z7 @PM.eq_1 lk hl @sQ.eq_1 hm @eT.eq_1 @eD.eq_1 ?_;refine hk _ (by show m<=m+1+1;omega) fun j hj=> ?_
  have hj':j<m:=hj;exact U0
def mZ (l:List (Nat×Tr)) (d:Tr) (s:Bool×Nat):Tr:=if s.1 then d else eF (fun x y=>x&&y) d (oT l s.2)
def vl (l:List (Nat×Tr)) (d:Tr) (r:List (Bool×Nat)):Tr:=r.foldl (mZ l) d
def wQ {n Z l} (m:sL n Z l):∀(r:List (Bool×Nat)) (d:Tr),ew 3 d=true ->ew 3 (vl l d r)=true
 |[],_,h=>h
 |s::r,d,h=>by
  refine wQ m r _ ?_;unfold mZ;split
  ·exact h
  ·exact cH h (m.at_f _)
def PQ {l:List (Nat×Tr)} {d:Tr} {r:List (Bool×Nat)} {i:Nat} {s:Bool×Nat} (h:r[i]? =some s):vl l d (r.take (i+1))=mZ l (vl l d (r.take i)) s:=by
 unfold vl;rw[eP h,uz];rfl
def I7 {n Z l} (m:sL n Z l):∀(r:List (Bool×Nat)) (d:Tr),ew 3 d=true ->(d=cN∨∃s∈r,s.1=false/\ oT l s.2=cN) ->vl l d r=cN:=by
 intro r;induction r with
 |nil=>
  intro d _ h;rcases h with h|⟨s,h,_⟩
  ·exact h
  ·simp at h
 |cons s r ih=>
  intro d hd h;show vl l (mZ l d s) r=cN;have fs:ew 3 (mZ l d s)=true:=by
   unfold mZ;split
   ·exact hd
   ·exact cH hd (m.at_f _)
  refine ih _ fs ?_;rcases h with rfl|⟨t,ht,h1,h2⟩
  ·left;unfold mZ;split
   ·rfl
   ·exact qG (m.at_f _)
  ·rcases bY.1 ht with rfl|ht
   ·left;unfold mZ;rw[h1,h2];exact ug hd
   ·exact .inr ⟨t,ht,h1,h2⟩
set_option maxHeartbeats 1000000 in
def I8 {C:cQ Prop} (S:aw P X GL fns) (E:gW P X GL fns C) (A:bh P X GL) (D:gD fns) (F:qd fns) {n:Nat} {Z:Nat ->Bool} {h:AH} {o:Nat} {l:List (Nat×Tr)} (ml:sL n Z l) (hm:mG (h.objs.get o)=mT l) (ho:o<h.next) {d:Tr} (fd:ew 3 d=true) {r:List (Bool×Nat)} {rv:AV} (hr:ab2 h rv r) (hrl:r.length<=1000) (k:AV ->AH ->Prop)
 (hk:∀h',h.next<=h'.next ->(∀j,j<h.next ->h'.objs.get j=h.objs.get j) ->k (eT (vl l d r)) h'):bZ C 103 [eT d,rv,.m o] h k:=by
 obtain⟨m,ver,ob⟩:=h;have ho':o<m:=ho;dsimp only at hm;have sr:bU rv=true/\ cellsO rv=some [rv]/\∀h,sB h rv= .v (ι (r.length:Int)) h:=by
  rcases hr with ⟨nl,rfl⟩|⟨o,c',rfl,_,_⟩
  ·exact⟨iH,uS,fun h=>bV⟩
  ·exact⟨rfl,rfl,fun h=>rfl⟩
 have lr:=sr.2.2;rw[aA E.ok (E.get F.f103)];refine Y4 @UU.eq_1 @eT.eq_1 @eD.eq_1 lr ?_;refine aX E.ok r.length (fun i τ h=>m+2<=h.next/\ (∀j,j<m ->h.objs.get j=ob.get j)/\ cG (h.objs.get m)=some (cT (vl l d (r.take i)))/\ cG (h.objs.get (m+1))=some [.sn,.i .i64 0]/\ τ.get 2=some (.m o)/\ τ.get 3=some (.p m 0)/\ τ.get 6=some (.p (m+1) 0)/\ τ.get 9=some rv/\ τ.get 10=some (ι (r.length:Int))/\ τ.get 11=some (ι (i:Int))) ?_ ?_ _ _ ⟨?_,?_,?_,?_,?_,?_,?_,?_,?_,?_⟩
 ·rintro i τ ⟨n1,v1,ob1⟩ hi ⟨hn1,old,c0,c1,t2,t3,t6,t9,t10,t11⟩ ih;have hn1':m+2<=n1:=hn1;have old':∀j,j<m ->ob1.get j=ob.get j:=old;have hri:r[i]? =some r[i]:=ba hi;generalize hs:r[i]=s at hri;have fw:=wQ ml (r.take i) d fd;have wt:=PQ (l:=l) (d:=d) hri;generalize hw:vl l d (r.take i)=w at*;have c0':=c0;simp only[cT] at c0;have hm1:mG (ob1.get o)=mT l:=by rw[old' o ho'];exact hm
  have q:∃pv,(∀h,h.objs=ob1 ->OI h 2 i rv= .v pv h)/\ ((∃c a,pv= .dp c a/\ sub c a 2=some [.b s.1,.i .i64 (s.2:Int)])∨(∃o2 a,pv= .p o2 a/\ o2<m/\∃L,cG (ob1.get o2)=some L/\ sub L a 2=some [.b s.1,.i .i64 (s.2:Int)])):=by
   rcases hr with ⟨nl,rfl⟩|⟨o2,c',rfl,hro,hon⟩
   ·exact⟨.dp (r.flatMap bS) (i*2),fun h _=>aF hi,.inl ⟨_,_,rfl,aB bz hri (j:=0) (n:=2) ω⟩⟩
   ·refine⟨.p o2 (0+i*2),fun h _=> ?_,.inr ⟨o2,0+i*2,rfl,hon,r.flatMap bS,?_,?_⟩⟩
    ·rw[OJ,if_pos ⟨rfl,hi⟩]
    ·rw[old' o2 hon];exact hro
    ·rw[fL];exact aB bz hri (j:=0) (n:=2) ω
  obtain⟨pv,hia,hpv⟩:=q;have hia1:∀v',OI ⟨n1,v',ob1⟩ 2 i rv= .v pv ⟨n1,v',ob1⟩:=fun v'=>hia _ rfl
  have fin:∀(ob2:T aU) (n2:Nat) (τ':T AV),m+2<=n2 ->(∀j,j<m ->ob2.get j=ob1.get j) ->cG (ob2.get m)=some (cT (mZ l w s)) ->cG (ob2.get (m+1))=some [.sn,.i .i64 0] ->τ'.get 2=some (.m o) ->τ'.get 3=some (.p m 0) ->τ'.get 6=some (.p (m+1) 0) ->τ'.get 9=some rv ->τ'.get 10=some (ι (r.length:Int)) ->τ'.get 11=some (ι ((i+1:Nat):Int)) ->(m+2<=n2/\ (∀j,j<m ->ob2.get j=ob.get j)/\ cG (ob2.get m)=some (cT (vl l d (r.take (i+1))))/\ cG (ob2.get (m+1))=some [.sn,.i .i64 0]/\ τ'.get 2=some (.m o)/\ τ'.get 3=some (.p m 0)/\ τ'.get 6=some (.p (m+1) 0)/\ τ'.get 9=some rv/\ τ'.get 10=some (ι (r.length:Int))/\ τ'.get 11=some (ι ((i+1:Nat):Int))):=
   fun ob2 n2 τ' a1 a2 a3 a4 a5 a6 a7 a8 a9 a10=>⟨a1,fun j hj=>(a2 j hj).trans (old' j hj),by rw[wt];exact a3,a4,a5,a6,a7,a8,a9,a10⟩
  cases h1:s.1 with
  |true=>
   have st:mZ l w s=w:=by unfold mZ;rw[h1];rfl
   rcases hpv with ⟨c,a,rfl,e2⟩|⟨o2,a,rfl,ho2,L,hL,e2⟩<;>
    (
     rw[h1] at e2;refine y5 c0 c1 t2 t3 t6 t9 t10 t11 hia1 e2 @ar ?_;try refine y5 c0 c1 t2 t3 t6 t9 t10 t11 hL e2 @ar ?_
     refine ih _ _ (fin _ _ _ (by show m+2<=n1+1;omega) ?_ ?_ ?_ ?_ ?_ ?_ ?_ ?_ ?_)
     ·intro j hj;exact U0
     ·rw[st];exact W0 c0'
     ·exact W0 c1
     all_goals exact U5 t2 t3 t6 t9 t10)
  |false=>
   have st:mZ l w s=eF (fun x y=>x&&y) w (oT l s.2):=by unfold mZ;rw[h1];rfl
   by_cases hb:w=cN
   ·have st2:mZ l w s=w:=by rw[st,hb];exact qG (ml.at_f _)
    have rz:(((ax w).2:Nat):Int)=0:=by rw[hb];rfl
    rcases hpv with ⟨c,a,rfl,e2⟩|⟨o2,a,rfl,ho2,L,hL,e2⟩<;>
     (
      rw[h1] at e2;refine BR c0 c1 t2 t3 t6 t9 t10 t11 hia1 e2 rz @ar ?_;try refine BR c0 c1 t2 t3 t6 t9 t10 t11 hL e2 rz @ar ?_
      refine ih _ _ (fin _ _ _ (by show m+2<=n1+1;omega) ?_ ?_ ?_ ?_ ?_ ?_ ?_ ?_ ?_)
      ·intro j hj;exact U0
      ·rw[st2];exact W0 c0'
      ·exact W0 c1
      all_goals exact U5 t2 t3 t6 t9 t10)
   ·have rz:(((ax w).2:Nat):Int)=0↔False:=⟨fun h=>hb ((yL fw).1 ω),False.elim⟩;have fa:=ml.at_f s.2;have ca:=fun h=>wJ S D (A w fw) (A _ fa) h
    simp only[eT,eD] at ca;have cm:=fun t h=>qe S F t h
    simp only[eT,eD] at cm;rcases hpv with ⟨c,a,rfl,e2⟩|⟨o2,a,rfl,ho2,L,hL,e2⟩<;>
     (
      rw[h1] at e2;refine y5 c0 c1 t2 t3 t6 t9 t10 t11 hia1 e2 rz ?_;try refine y5 c0 c1 t2 t3 t6 t9 t10 t11 hL e2 rz ?_
      refine E.run (wP (l:=l) S E D F ?_ _ ?_ (by show o<n1+1;omega))
      ·exact W0 hm1
      rintro⟨n2,v2,ob2⟩ hn2 old2;have hn2':n1+1<=n2:=hn2;have old2':∀j,j<n1+1 ->ob2.get j=_:=old2;have g0:cG (ob2.get m)=some (cT w):=by rw[old2' m ω];exact W0 c0'
      have g1:cG (ob2.get (m+1))=some [.sn,.i .i64 0]:=by rw[old2' (m+1) ω];exact W0 c1
      have g8:cG (ob2.get n1)=some [.b false,.i .i64 (s.2:Int)]:=by rw[old2' n1 ω];exact U0
      simp only[cT] at g0;simp only[eT,eD];refine Y9 g0 g1 g8 t2 t3 t6 t9 t10 t11 ?_;refine E.con (ca _) ?_;refine Y9 g0 g1 g8 t2 t3 t6 t9 t10 t11 ?_;refine E.con (cm _ _) ?_;refine CM g0 g1 g8 t2 t3 t6 t9 t10 t11 @ar ?_;refine ih _ _ (fin _ _ _ (by show m+2<=n2;omega) ?_ ?_ ?_ ?_ ?_ ?_ ?_ ?_ ?_)
      ·intro j hj;simp(disch:=omega) only[cF,T.get_put,if_false];rw[old2' j ω];exact U0
      ·rw[st];exact U1 @cT.eq_1
      ·exact W0 g1
      all_goals exact U5 t2 t3 t6 t9 t10)
 ·rintro τ ⟨n1,v1,ob1⟩ ⟨hn1,old,c0,c1,t2,t3,t6,t9,t10,t11⟩;have hn1':m+2<=n1:=hn1;rw[m8] at c0;simp only[cT] at c0;refine Y8 c0 c1 t2 t3 t6 t9 t10 t11 ?_;refine hk _ (by show m<=n1;omega) fun j hj=> ?_
  have hj':j<m:=hj;exact W0 (old j hj')
 ·show m+2<=m+1+1;omega
 ·intro j hj;exact U0
 ·simp(disch:=omega) only[cF,T.get_put,if_false,if_true,dB,pz];rfl
 ·exact U0
 all_goals exact U0
end
def Hi:rO (some [])=some (.tu []):=rfl
def li (n:Nat) (l:List (Nat×Tr)):Nat:=((List.range n).map fun i=>oe (oT l i)).sum
def CA {l:List (Nat×Tr)} {i j:Nat} {x:Tr}:oT (ups i x l) j=if j=i then x else oT l j:=by
 unfold oT;rw[gX];split<;>rfl
def I9 {f g:Nat ->Nat} {i:Nat}:∀{n:Nat},i<n ->(∀j,j≠i ->g j=f j) ->((List.range n).map g).sum+f i=((List.range n).map f).sum+g i
 |0,h,_=>by omega
 |n+1,h,e=>by
  rw[zB,iT,iT,Fc,Fc];simp only[iR,pA,Bb,List.sum_nil,zu];by_cases hi:i=n
  ·subst hi;have:(List.range i).map g=(List.range i).map f:=Lx fun j hj=>e j (by have:=pi.1 hj;omega)
   rw[this];omega
  ·have:=I9 (n:=n) (i:=i) ω e;rw[e n (fun h=>hi h.symm)];omega
def EA {n i:Nat} {l:List (Nat×Tr)} {x:Tr} (hi:i<n):li n (ups i x l)+oe (oT l i)=li n l+oe x:=by
 have:=I9 (f:=fun j=>oe (oT l j)) (g:=fun j=>oe (oT (ups i x l) j)) hi (fun j hj=>by rw[CA,if_neg hj]);simp only[CA,if_true] at this;unfold li;simp only[CA];exact this
def wR {n:Nat} {Z} {l:List (Nat×Tr)} (m:sL n Z l):li n l<=8*n:=by
 unfold li;have:∀k,((List.range k).map fun i=>oe (oT l i)).sum<=8*k:=by
  intro k;induction k with
  |zero=>simp
  |succ k ih=>
   rw[zB,iT,Fc];have:=wN (m.at_f k);simp only[iR,pA,Bb,List.sum_nil];omega
 exact this n
def sL.ups {n Z l} (m:sL n Z l) {i:Nat} {x:Tr} (hi:i<n) (fx:ew 3 x=true) (hz:Z i=true ->x=cN):sL n Z (ups i x l) where
 f:=fun j t h=>by
  rw[gX] at h;split at h
  ·rename_i e;cases h;subst e;exact⟨fx,hi⟩
  ·exact m.f j t h
 z:=fun j t h hzj=>by
  rw[gX] at h;split at h
  ·rename_i e;cases h;subst e;exact hz hzj
  ·exact m.z j t h hzj
section
variable {P:Program} {X:dy} {GL:T (List AV)} {fns:T aR}
structure EB (n:Nat) (Z:Nat ->Bool) (bm o bc:Nat) (l:List (Nat×Tr)) (c:Bool) (h:AH):Prop where
 m:mG (h.objs.get o)=mT l
 ok:sL n Z l
 cb:cG (h.objs.get bm)=some [.m o]
 cc:cG (h.objs.get bc)=some [.b c]
 lt:o<h.next/\ bm<h.next/\ bc<h.next
 ne:bm≠o/\ bc≠o/\ bm≠bc
set_option maxHeartbeats 1000000 in
def SJ {C:cQ Prop} (S:aw P X GL fns) (E:gW P X GL fns C) (A:bh P X GL) (D:gD fns) (F:qd fns) {n:Nat} {Z:Nat ->Bool} {bm o bc:Nat} {l:List (Nat×Tr)} {c:Bool} {h:AH} (fx:EB n Z bm o bc l c h) {i:Nat} (hi:i<n) {d:Tr} (fd:ew 3 d=true) (hz:Z i=true ->d=cN) (k:AV ->AH ->Prop)
 (hk:∀l' c' h',EB n Z bm o bc l' c' h' ->h.next<=h'.next ->(∀j,j<h.next ->j≠o ->j≠bc ->h'.objs.get j=h.objs.get j) ->li n l<=li n l' ->(c'=true ->c=true∨li n l<li n l') ->k (.tu []) h'):
 bZ C 294 [.i .i64 (i:Int),eT d,.p bm 0,.p bc 0] h k:=by
 obtain⟨m,ver,ob⟩:=h;obtain⟨hm,ok,cb,cc,⟨lt1,lt2,lt3⟩,ne1,ne2,ne3⟩:=fx;have lt1':o<m:=lt1;have lt2':bm<m:=lt2;have lt3':bc<m:=lt3;dsimp only at hm cb cc;have cm:=fun t h=>qe S F t h
 simp only[eT,eD] at cm;rw[aA E.ok (E.get F.f294)];by_cases hb:d=cN
 ·have rz:(((ax d).2:Nat):Int)=0:=by rw[hb];rfl
  refine Y5 @PO.eq_1 @eT.eq_1 @eD.eq_1 rz @Hi ?_;refine hk l c _ ⟨(W0 hm),ok,(W0 cb),(W0 cc),⟨by show o<m+1;omega,by show bm<m+1;omega,by show bc<m+1;omega⟩,ne1,ne2,ne3⟩ (by show m<=m+1;omega) (fun j hj _ _=> ?_) (bK _) (fun h=> .inl h)
  ·have hj':j<m:=hj;exact U0
 ·have rz:(((ax d).2:Nat):Int)=0↔False:=⟨fun h=>hb ((yL fd).1 ω),False.elim⟩;have fa:=ok.at_f i;have fo:ew 3 (eF (fun x y=>x||y) (oT l i) d)=true:=cH fa fd;have co:=fun h=>GN S D (A _ fa) (A _ fd) h
  have cs:=fun h=>Am S D (A _ fa) (A _ fo) h
  simp only[eT,eD] at co cs;refine Y5 @PO.eq_1 @eT.eq_1 @eD.eq_1 rz cb ?_;refine E.run (wP (l:=l) S E D F ?_ _ ?_ (by show o<m+1;omega))
  ·exact W0 hm
  rintro⟨n2,v2,ob2⟩ hn2 old2;have hn2':m+1<=n2:=hn2;have old2':∀j,j<m+1 ->ob2.get j=_:=old2;have g5:cG (ob2.get m)=some [fG (ax d).1,.i .i64 ((ax d).2:Int)]:=by rw[old2' m ω];exact U0
  have gb:cG (ob2.get bm)=some [.m o]:=by rw[old2' bm ω];exact W0 cb
  have gc:cG (ob2.get bc)=some [.b c]:=by rw[old2' bc ω];exact W0 cc
  have gm:mG (ob2.get o)=mT l:=by rw[old2' o ω];exact W0 hm
  have gl:∀j,j<m ->ob2.get j=ob.get j:=fun j hj=>by rw[old2' j ω];exact U0
  simp only[eT,eD];refine Y3 g5 gb gc ?_;refine E.con (co _) ?_;refine Y3 g5 gb gc ?_;refine E.con (cm _ _) ?_;refine Y3 g5 gb gc ?_;refine E.con (cs _) ?_;have H7:=uf (k:=3) fa fd;have su:=EA (l:=l) (x:=eF (fun x y=>x||y) (oT l i) d) hi;by_cases he:oT l i=eF (fun x y=>x||y) (oT l i) d
  ·have hd:decide (oT l i=eF (fun x y=>x||y) (oT l i) d)=true:=decide_eq_true he;rw[hd];refine Y3 gb gc @Hi ?_;refine hk l c _ ⟨(W0 gm),ok,(W0 gb),(W0 gc),⟨by show o<n2+1+1;omega,by show bm<n2+1+1;omega,by show bc<n2+1+1;omega⟩,ne1,ne2,ne3⟩ (by show m<=n2+1+1;omega) (fun j hj _ _=> ?_) (bK _) (fun h=> .inl h)
   ·have hj':j<m:=hj;exact W0 (gl j hj')
  ·have hd:decide (oT l i=eF (fun x y=>x||y) (oT l i) d)=false:=decide_eq_false he;rw[hd];have mu:∀ver' ob' (τ:T AV),mG (T.get ob' o)=mT l ->bp C τ (.t 24)= .m o ->bp C τ (.t 25)= .i .i64 (i:Int) ->bp C τ (.t 26)= .ag [fG (ax (eF (fun x y=>x||y) (oT l i) d)).1,.i .i64 ((ax (eF (fun x y=>x||y) (oT l i) d)).2:Int)] ->
    step (bp C τ) ⟨n2+1+1,ver',ob'⟩ (.mupd (.lf .i) (.t 24) (.t 25) (.t 26))= .v .un ⟨n2+1+1,ver'+1,ob'.put o (.map (ver'+1) (cV (fun n:Nat=>AV.i .i64 (n:Int)) eT 0 (ups i (eF (fun x y=>x||y) (oT l i) d) l)) (ups i (eF (fun x y=>x||y) (oT l i) d) l).length)⟩:=
    fun ver' ob' τ q1 q2 q3 q4=>gH (k:=i) (v:=eF (fun x y=>x||y) (oT l i) d) (en:=eT) pR (h:=⟨n2+1+1,ver',ob'⟩) (bA.2 q1) q2 q3 q4
   refine Z5 gb gc mu gm @Hi ?_;refine hk (ups i (eF (fun x y=>x||y) (oT l i) d) l) true _ ⟨?_,ok.ups hi fo (fun hzi=>absurd (hz hzi) hb),?_,?_,⟨by show o<n2+1+1;omega,by show bm<n2+1+1;omega,by show bc<n2+1+1;omega⟩,ne1,ne2,ne3⟩ (by show m<=n2+1+1;omega) (fun j hj h1 h2=> ?_) ω (fun _=> .inr (by have:=H7.2 (fun h=>he h.symm);omega))
   ·exact U0
   ·exact W0 gb
   ·exact U0
   ·have hj':j<m:=hj;exact W0 (gl j hj')
end
structure PR (h:AH) (oa op:Nat) (g:Gr):Prop where
 a:cG (h.objs.get oa)=some (aL g++[.sl op 0 g.prods.length none 2])
 p:cG (h.objs.get op)=some ((g.prods.map (fZ g)).flatMap cT)
section
variable {P:Program} {X:dy} {GL:T (List AV)} {fns:T aR}
set_option maxHeartbeats 2000000 in
def KM {C:cQ Prop} (S:aw P X GL fns) (E:gW P X GL fns C) (A:bh P X GL) (D:gD fns) (F:qd fns) {g:Gr} (G:cM g) {Z:Nat ->Bool} (Y:yG g Z) {oa op b2 b3 b5 bm o bc:Nat} {l:List (Nat×Tr)} {c:Bool} {h:AH} (fx:EB g.nts.length Z bm o bc l c h) (an:PR h oa op g)
 (q2:cG (h.objs.get b2)=some [.p oa 0]) (q3:cG (h.objs.get b3)=some [.b true]) (q5:cG (h.objs.get b5)=some [.m o]) (low:oa<o/\ op<o/\ b2<o/\ b3<o/\ o<b5/\ b5<bm/\ bm<bc) (k:AV ->AH ->Prop)
 (hk:∀l' c' h',EB g.nts.length Z bm o bc l' c' h' ->h.next<=h'.next ->(∀j,j<h.next ->j≠o ->j≠bc ->h'.objs.get j=h.objs.get j) ->li g.nts.length l<=li g.nts.length l' ->(c'=true ->c=true∨li g.nts.length l<li g.nts.length l') ->k (.tu []) h'):
 bZ C 178 [.f 294 [] [.p bm 0,.p bc 0],.p b2 0,.p b3 0,.p b5 0] h k:=by
 obtain⟨m,ver,ob⟩:=h;obtain⟨low1,low2,low3,low4,low5,low6,low7⟩:=low;have ltc:bc<m:=fx.lt.2.2;have pl:=G.pl;have ntl:=G.ntl;obtain⟨an1,an2⟩:=an;dsimp only at an1 an2 q2 q3 q5;have an1':=an1;simp only[aL,nF,lB] at an1;rw[aA E.ok (E.get F.f178)];refine Y3 @UX.eq_1 q2 an1 ?_;refine aX E.ok g.prods.length (fun i τ h=>∃l' c',EB g.nts.length Z bm o bc l' c' h/\ m<=h.next/\ (∀j,j<m ->j≠o ->j≠bc ->h.objs.get j=ob.get j)/\ li g.nts.length l<=li g.nts.length l'/\ (c'=true ->c=true∨li g.nts.length l<li g.nts.length l')/\ τ.get 0=some (.f 294 [] [.p bm 0,.p bc 0])/\ τ.get 1=some (.p b2 0)/\ τ.get 2=some (.p b3 0)/\ τ.get 3=some (.p b5 0)/\ τ.get 13=some (eR cC 13 true g.prods)/\ τ.get 14=some (ι (g.prods.length:Int))/\ τ.get 15=some (ι (i:Int))) ?_ ?_ _ _ ⟨l,c,fx,bK _,fun j _ _ _=>rfl,bK _,fun h=> .inl h,?_,?_,?_,?_,?_,?_,?_⟩
 ·rintro i τ ⟨n1,v1,ob1⟩ hi ⟨l',c',fx1,hn1,old1,sm1,sm2,t0,t1,t2,t3,t13,t14,t15⟩ ih;have hn1':m<=n1:=hn1;have old1':∀j,j<m ->j≠o ->j≠bc ->ob1.get j=ob.get j:=old1;have hpi:g.prods[i]? =some g.prods[i]:=ba hi;generalize hp:g.prods[i]=p at hpi;have hpm:=bJ hpi;have ok:=G.p p hpm;have rl:=ok.len;have e13:sub (g.prods.flatMap cC) (i*13) 13=some (cC p):=aB eG hpi (j:=0) (n:=13) ω;simp only[cC] at e13;have fp:=ue G hpm;refine Y9 t0 t1 t2 t3 t13 t14 t15 @aF e13 ?_;refine aX E.ok p.right.length (fun j τ h=>(∀s∈p.right.take j,s.1=false)/\ n1+1<=h.next/\ (∀j,j<n1 ->h.objs.get j=ob1.get j)/\ cG (h.objs.get n1)=some (cC p)/\ τ.get 0=some (.f 294 [] [.p bm 0,.p bc 0])/\ τ.get 1=some (.p b2 0)/\ τ.get 2=some (.p b3 0)/\ τ.get 3=some (.p b5 0)/\ τ.get 5=some (ι (i:Int))/\ τ.get 6=some (.p n1 0)/\ τ.get 13=some (eR cC 13 true g.prods)/\ τ.get 14=some (ι (g.prods.length:Int))/\ τ.get 15=some (ι (i:Int))/\ τ.get 21=some (eR bS 2 p.rn p.right)/\ τ.get 22=some (ι (p.right.length:Int))/\ τ.get 23=some (ι (j:Int))) ?_ ?_ _ _ ⟨?_,?_,?_,?_,?_,?_,?_,?_,?_,?_,?_,?_,?_,?_,?_,?_⟩
  ·rintro j τ ⟨n2,v2,ob2⟩ hj ⟨nt,hn2,old2,hc6,s0,s1,s2,s3,s5,s6,s13,s14,s15,s21,s22,s23⟩ ih2;have hn2':n1+1<=n2:=hn2;have old2':∀j,j<n1 ->ob2.get j=ob1.get j:=old2;have hrj:p.right[j]? =some p.right[j]:=ba hj;generalize hs:p.right[j]=s at hrj;have e2:sub (p.right.flatMap bS) (j*2) 2=some [.b s.1,.i .i64 (s.2:Int)]:=aB bz hrj (j:=0) (n:=2) ω;have r3:cG (ob2.get b3)=some [.b true]:=by rw[old2' b3 ω,old1' b3 ω ω ω];exact q3
   cases h1:s.1 with
   |true=>
    rw[h1] at e2;refine QT r3 s0 s1 s2 s3 s5 s6 s13 s14 s15 s21 s22 s23 @aF e2 @ar ?_;refine ih _ _ ⟨l',c',⟨?_,fx1.ok,?_,?_,⟨?_,?_,?_⟩,fx1.ne⟩,by show m<=n2+1;omega,fun j hj h1 h2=> ?_,sm1,sm2,?_,?_,?_,?_,?_,?_,?_⟩
    ·simp(disch:=omega) only[cF,T.get_put,if_false];rw[old2' o (by have:=fx1.lt.1;have h2:o<n1:=this;omega)];exact fx1.m
    ·simp(disch:=omega) only[cF,T.get_put,if_false];rw[old2' bm ω];exact fx1.cb
    ·simp(disch:=omega) only[cF,T.get_put,if_false];rw[old2' bc ω];exact fx1.cc
    ·show o<n2+1;omega
    ·show bm<n2+1;omega
    ·show bc<n2+1;omega
    ·simp(disch:=omega) only[cF,T.get_put,if_false];rw[old2' j ω];exact old1' j hj h1 h2
    all_goals exact U6 s0 s1 s2 s3 s13 s14
   |false=>
    rw[h1] at e2;refine QT r3 s0 s1 s2 s3 s5 s6 s13 s14 s15 s21 s22 s23 @aF e2 @ar ?_;refine ih2 _ _ ⟨?_,by show n1+1<=n2+1;omega,fun j hj=> ?_,?_,?_,?_,?_,?_,?_,?_,?_,?_,?_,?_,?_,?_⟩
    ·intro s' hs';rw[eP hrj] at hs';rcases eV.1 hs' with h|h
     ·exact nt s' h
     ·rw[dY.1 h];exact h1
    ·exact W0 (old2' j hj)
    ·exact W0 hc6
    all_goals exact U11 s0 s1 s2 s3 s5 s6 s13 s14 s15 s21 s22
  ·rintro τ ⟨n2,v2,ob2⟩ ⟨nt,hn2,old2,hc6,s0,s1,s2,s3,s5,s6,s13,s14,s15,s21,s22,s23⟩;have hn2':n1+1<=n2:=hn2;have old2':∀j,j<n1 ->ob2.get j=ob1.get j:=old2;rw[m8] at nt;have lo1:o<n1:=fx1.lt.1;have r2:cG (ob2.get b2)=some [.p oa 0]:=by rw[old2' b2 ω,old1' b2 ω ω ω];exact q2
   have r5:cG (ob2.get b5)=some [.m o]:=by rw[old2' b5 ω,old1' b5 ω ω ω];exact q5
   have ra:cG (ob2.get oa)=some (aL g++[.sl op 0 g.prods.length none 2]):=by rw[old2' oa ω,old1' oa ω ω ω];exact an1'
   have rp:cG (ob2.get op)=some ((g.prods.map (fZ g)).flatMap cT):=by rw[old2' op ω,old1' op ω ω ω];exact an2
   simp only[aL,nF,lB] at ra;have epi:sub ((g.prods.map (fZ g)).flatMap cT) (i*2) 2=some (cT (fZ g p)):=aB kZ (L:=g.prods.map (fZ g)) (i:=i) (a:=fZ g p) (by rw[lX,hpi];rfl) (j:=0) (n:=2) ω;simp only[cT] at epi;dsimp only at hc6;have hc6':=hc6;simp only[cC] at hc6;have nk3:aJ 64 (eR bS 2 p.rn p.right)=true:=aT de;have hm2:mG (ob2.get o)=mT l':=by rw[old2' o lo1];exact fx1.m
   refine F4 r2 r5 ra rp epi hc6 nk3 s0 s1 s2 s3 s5 s6 s13 s14 s15 s21 s22 s23 ?_;refine E.run (I8 (n:=g.nts.length) (Z:=Z) (l:=l') (d:=fZ g p) (r:=p.right) S E A D F fx1.ok hm2 (by show o<n2;omega) fp (.inl ⟨p.rn,rfl⟩) ω _ ?_);rintro⟨n3,v3,ob3⟩ hn3 old3;have hn3':n2<=n3:=hn3;have old3':∀j,j<n2 ->ob3.get j=ob2.get j:=old3;have fw:=wQ fx1.ok p.right _ fp;have hz:Z p.left=true ->vl l' (fZ g p) p.right=cN:=fun hzl=>by
    obtain⟨s,hs1,hs2⟩:=Y.z p hpm hzl;have hs3:=nt s hs1;rcases hs2 with h|h
    ·rw[hs3] at h;cases h
    ·exact I7 fx1.ok _ _ fp (.inr ⟨s,hs1,hs3,fx1.ok.at_z h⟩)
   generalize hw:vl l' (fZ g p) p.right=w at*;simp only[eT,eD];have t2':cG (ob3.get b2)=some [.p oa 0]:=by rw[old3' b2 ω];exact r2
   have t5':cG (ob3.get b5)=some [.m o]:=by rw[old3' b5 ω];exact r5
   have t6':cG (ob3.get n1)=some (cC p):=by rw[old3' n1 ω];exact hc6'
   have ta':cG (ob3.get oa)=_:=(congrArg cG (old3' oa ω)).trans ra;have tp':cG (ob3.get op)=some ((g.prods.map (fZ g)).flatMap cT):=by rw[old3' op ω];exact rp
   simp only[cC] at t6';refine F4 t2' t5' t6' ta' tp' epi nk3 s0 s1 s2 s3 s5 s6 s13 s14 s15 s21 s22 s23 ?_;have fx3:EB g.nts.length Z bm o bc l' c' ⟨n3,v3,ob3⟩:=
    ⟨by show mG (ob3.get o)=_;rw[old3' o ω];exact hm2,fx1.ok,by show cG (ob3.get bm)=_;rw[old3' bm ω,old2' bm ω];exact fx1.cb,by show cG (ob3.get bc)=_;rw[old3' bc ω,old2' bc ω];exact fx1.cc,⟨by show o<n3;omega,by show bm<n3;omega,by show bc<n3;omega⟩,fx1.ne⟩
   refine E.run (SJ (d:=w) S E A D F fx3 ok.left fw hz _ ?_);rintro l2 c2 ⟨n4,v4,ob4⟩ fx4 hn4 old4 sm3 sm4;have hn4':n3<=n4:=hn4;have old4':∀j,j<n3 ->j≠o ->j≠bc ->ob4.get j=ob3.get j:=old4;refine IA s0 s1 s2 s3 s5 s6 s13 s14 s15 s21 s22 s23 @ar ?_;refine ih _ _ ⟨l2,c2,fx4,by show m<=n4;omega,fun j hj h1 h2=> ?_,by omega,fun h=> ?_,?_,?_,?_,?_,?_,?_,?_⟩
   ·show ob4.get j=_;rw[old4' j ω h1 h2,old3' j ω,old2' j ω];exact old1' j hj h1 h2
   ·rcases sm4 h with h'|h'
    ·rcases sm2 h' with h''|h''
     ·exact .inl h''
     ·exact .inr ω
    ·exact .inr ω
   all_goals exact U6 s0 s1 s2 s3 s13 s14
  ·simp
  ·exact bK _
  ·intro j hj;exact U0
  ·exact U1 @cC.eq_1
  all_goals exact U7 t0 t1 t2 t3 t13 t14 t15
 ·rintro τ ⟨n1,v1,ob1⟩ ⟨l',c',fx1,hn1,old1,sm1,sm2,t0,t1,t2,t3,t13,t14,t15⟩;refine Y8 t0 t1 t2 t3 t13 t14 t15 @Hi ?_;exact hk l' c' _ fx1 hn1 old1 sm1 sm2
 all_goals exact U0
set_option maxHeartbeats 2000000 in
def zm {C:cQ Prop} (S:aw P X GL fns) (E:gW P X GL fns C) (A:bh P X GL) (D:gD fns) (F:qd fns) {g:Gr} (G:cM g) {Z:Nat ->Bool} (Y:yG g Z) {oa op:Nat} {h:AH} (an:PR h oa op g) (la:oa<h.next/\ op<h.next) (k:AV ->AH ->Prop)
 (hk:∀o l h',mG (h'.objs.get o)=mT l ->sL g.nts.length Z l ->h.next<=h'.next ->h.next<=o ->o<h'.next ->(∀j,j<h.next ->h'.objs.get j=h.objs.get j) ->k (.m o) h'):
 bZ C 102 [.p oa 0,.b true] h k:=by
 obtain⟨m,ver,ob⟩:=h;obtain⟨an1,an2⟩:=an;have la1:oa<m:=la.1;have la2:op<m:=la.2;dsimp only at an1 an2;have ntl:=G.ntl;rw[aA E.ok (E.get F.f102)];refine Y1 @UT.eq_1 ?_;refine E.run ?_;rw[aA E.ok (E.get F.f177)];refine Y1 @UW.eq_1 ?_;refine qH E.ok (fun x:List (Nat×Tr)×Bool=>2*(8*g.nts.length-li g.nts.length x.1)+(if x.2 then 1 else 0)) (fun x τ h=>∃bc,EB g.nts.length Z (m+4) (m+2) bc x.1 x.2 h/\ m+5<=bc/\ (∀j,j<m+4 ->j≠m+2 ->h.objs.get j=((((ob.put m (.cells ver [.p oa 0])).put (m+1) (.cells ver [.b true])).put (m+3) (.cells (ver+1) [.m (m+2)]))).get j)/\ τ.get 1=some (.f 178 [] [.p m 0,.p (m+1) 0,.p (m+3) 0])/\ τ.get 2=some (.p (m+4) 0)/\ τ.get 4=some (.p bc 0)) ?_ ([],true) _ _ ⟨m+5,⟨?_,⟨fun i t h=>by simp[look] at h,fun i t h=>by simp[look] at h⟩,?_,?_,⟨?_,?_,?_⟩,⟨by omega,by omega,by omega⟩⟩,by omega,fun j h1 h2=> ?_,?_,?_,?_⟩
 ·rintro⟨l,c⟩ τ ⟨n1,v1,ob1⟩ ⟨bc,fx,hbc,old,t1,t2,t4⟩ ih;dsimp only at fx;have l1:m+2<n1:=fx.lt.1;have l2:m+4<n1:=fx.lt.2.1;have l3:bc<n1:=fx.lt.2.2;have old':∀j,j<m+4 ->j≠m+2 ->ob1.get j=_:=old;have cc:=fx.cc;dsimp only at cc;have g0:cG (ob1.get m)=some [.p oa 0]:=by rw[old' m ω ω];exact U0
  have g1:cG (ob1.get (m+1))=some [.b true]:=by rw[old' (m+1) ω ω];exact U0
  have g3:cG (ob1.get (m+3))=some [.m (m+2)]:=by rw[old' (m+3) ω ω];exact U0
  have ga:cG (ob1.get oa)=some (aL g++[.sl op 0 g.prods.length none 2]):=by rw[old' oa ω ω];exact W0 an1
  have gp:cG (ob1.get op)=some ((g.prods.map (fZ g)).flatMap cT):=by rw[old' op ω ω];exact W0 an2
  cases c with
  |false=>
   refine Y5 t1 t2 t4 cc @Hi ?_;refine Y1 g3 ?_;refine hk (m+2) l _ fx.m fx.ok (by show m<=n1;omega) (by show m<=m+2;omega) l1 (fun j hj=> ?_);have hj':j<m:=hj;show ob1.get j=_;rw[old' j ω ω];exact U0
  |true=>
   refine Y4 t1 t2 t4 cc ?_;have fx1:EB g.nts.length Z (m+4) (m+2) bc l false ⟨n1,v1+1,ob1.put bc (.cells (v1+1) [.b false])⟩:=
    ⟨by have:=fx.m;exact W0 this,fx.ok,by have:=fx.cb;exact W0 this,by exact U0,⟨l1,l2,l3⟩,fx.ne⟩
   refine E.run (KM (oa:=oa) (op:=op) (b2:=m) (b3:=m+1) (b5:=m+3) S E A D F G Y fx1 ⟨?_,?_⟩ ?_ ?_ ?_ ⟨by omega,by omega,by omega,by omega,by omega,by omega,by omega⟩ _ ?_)
   ·exact W0 ga
   ·exact W0 gp
   ·exact W0 g0
   ·exact W0 g1
   ·exact W0 g3
   rintro l' c' ⟨n2,v2,ob2⟩ fx2 hn2 old2 sm1 sm2;have hn2':n1<=n2:=hn2;have old2':∀j,j<n1 ->j≠m+2 ->j≠bc ->ob2.get j=_:=old2;have cc2:=fx2.cc;dsimp only at cc2;refine Y4 t1 t2 t4 cc2 ?_;have s1:=wR fx.ok;have s2:=wR fx2.ok;refine ih (l',c') _ _ ?_ ⟨n2,⟨?_,fx2.ok,?_,?_,⟨by show m+2<n2+1;omega,by show m+4<n2+1;omega,by show n2<n2+1;omega⟩,⟨by omega,by omega,by omega⟩⟩,by omega,fun j h1 h2=> ?_,?_,?_,?_⟩
   ·dsimp only;cases c' with
    |true=>
     have:=(sm2 rfl).resolve_left (by simp);simp only[if_true];omega
    |false=>simp only[if_true,lu,if_false];omega
   ·have:=fx2.m;exact W0 this
   ·have:=fx2.cb;exact W0 this
   ·exact U0
   ·simp(disch:=omega) only[cF,T.get_put,if_false];rw[old2' j ω h2 ω];simp(disch:=omega) only[cF,T.get_put,if_false];rw[old' j h1 h2];exact U0
   all_goals exact U2 t1 t2
 ·exact U0
 ·exact U0
 ·exact U0
 ·show m+2<m+6;omega
 ·show m+4<m+6;omega
 ·show m+5<m+6;omega
 ·exact U0
 all_goals exact U0
end
def eK (p:Nat×Nat):AV:= .ag [.i .i64 (p.1:Int),.i .i64 (p.2:Int)]
def tK:ET:= .ag [(0,1,false,.lf .i),(1,1,false,.lf .i)]
def Xh:rG eK tK where
 eq:=fun a b=>by
  obtain⟨a1,a2⟩:=a;obtain⟨b1,b2⟩:=b;have h:fS 6 tK (eK (a1,a2)) (eK (b1,b2))=(match (some (fQ (a1:Int) (b1:Int)):Option Bool) with
   |some true=>(match (some (fQ (a2:Int) (b2:Int)):Option Bool) with
    |some true=>some true
    |r=>r)
   |r=>r):=rfl
  rw[h,bF,bF];have c1:((a1:Int)=(b1:Int))↔a1=b1:=by omega
  have c2:((a2:Int)=(b2:Int))↔a2=b2:=by omega
  simp only[c1,c2];by_cases h1:a1=b1<;>by_cases h2:a2=b2<;>simp[h1,h2]
 q:=fun a=>by
  obtain⟨a1,a2⟩:=a;have h:nG tK (eK (a1,a2))=(match (match (some (fQ (a1:Int) (a1:Int)):Option Bool) with
   |some true=>(match (some (fQ (a2:Int) (a2:Int)):Option Bool) with
    |some true=>some true
    |r=>r)
   |r=>r) with|some true=>true|_=>false):=rfl
  rw[h,bF,bF];simp
 self:=fun a=>by
  obtain⟨a1,a2⟩:=a;have h:nH (eK (a1,a2)) (eK (a1,a2))=((rP .i64 .i64&&fQ (a1:Int) a1)&&((rP .i64 .i64&&fQ (a2:Int) a2)&&true)):=rfl;rw[h,bF,bF];simp[rP]
def mS (l:List ((Nat×Nat)×Tr)):Option (List (AV×AV×Nat)×Nat):=some (cV eK eT 0 l,l.length)
structure vm (n:Nat) (l:List ((Nat×Nat)×Tr)):Prop where
 f:∀p t,look p l=some t ->ew 3 t=true/\ p.1<p.2/\ p.2<n
 nd:(l.map (·.1)).Nodup
def KN (l:List ((Nat×Nat)×Tr)) (p:Nat×Nat):Tr:=(look p l).getD cN
def vm.at_f {n l} (m:vm n l) (p:Nat×Nat):ew 3 (KN l p)=true:=by
 unfold KN;cases h:look p l with
 |none=>exact lK
 |some t=>exact(m.f p t h).1
def Xi {l:List ((Nat×Nat)×Tr)} {p}:Iw eT (.ag [.sn,.i .i64 0]) (look p l)= .ag [fG (ax (KN l p)).1,.i .i64 ((ax (KN l p)).2:Int)]:=by
 unfold KN;cases look p l<;>rfl
def nV (x:Nat×List Nat):AV:= .sl x.1 0 x.2.length none 1
def mN (l:List (Nat×(Nat×List Nat))):Option (List (AV×AV×Nat)×Nat):=some (cV (fun n:Nat=>AV.i .i64 (n:Int)) nV 0 l,l.length)
structure SK (n:Nat) (g:Nat ->Option aU) (x:Nat) (N:List (Nat×(Nat×List Nat))):Prop where
 f:∀(a o:Nat) (L:List Nat),look a N=some (o,L) ->cG (g o)=some (L.flatMap cI)/\ L≠[]/\ (∀b∈L,a<b/\ b<n)/\ L.length<=100000/\ o<x
structure QAt (h:AH) (x:Nat) (v:AV) (q:List Nat):Prop where
 e:∃o a c L,v= .sl o a q.length c 1/\ cG (h.objs.get o)=some L/\ sub L a q.length=some (q.flatMap cI)/\ (c=none∨(c=some 0/\ q=[]/\ a=0/\ L=[]))/\ x+2<=o/\ o≠x+3/\ o<h.next
def ab8 {h:AH} {o a n o2:Nat} {L old new:List AV} (hc:cG (h.objs.get o)=some L) (hs:sub L a n=some old) (h2:cG (h.objs.get o2)=some new) (hn:new.length=1) (ha:cE new=true) (hb:n+1<=1048576):pS h 1 (.sl o a n none 1) (.sl o2 0 1 (some 1) 1)= .v (.sl h.next 0 (n+1) none 1) ⟨h.next+1,h.ver+1,(h.objs.put o .gone).put h.next (.cells (h.ver+1) (old++new))⟩:=by
 have e1:cR h 1 (.sl o2 0 1 (some 1) 1)=some new:=nT h2 (gI ω);show(match eI (.sl o2 0 1 (some 1) 1),cR h 1 (.sl o2 0 1 (some 1) 1) with|some n',some l=>eH h (.sl o a n none 1) n' l 1|_,_=> .bad)=_;rw[e1];show eH h (.sl o a n none 1) 1 new 1=_;have e:eH h (.sl o a n none 1) 1 new 1=(match h.cells o with
  |none=>bj.bad
  |some l=>fN (n+1) fun need=>bif !(Nat.beq 1 1&&(Nat.ble need 1048576&&cE new)) then .bad else
   match sub l a (n*1) with
   |some old=>match gK old new with
    |some l=>h.put o .gone fun h=>h.new (.cells h.ver l) fun o h=> .v (.sl o 0 need none 1) h
    |none=> .bad
   |none=> .bad):=rfl
 have hc':h.cells o=some L:=hc;rw[e,hc'];simp only[bR,az,aQ,hb,ha,decide_true,fW,gU,cond_false,HR,hs,dX,AH.put_eq,AH.new_eq]
structure UZ (n nn x:Nat) (g:Nat ->Option aU) (R:List (Nat×Tr)) (q:List Nat) (h:AH):Prop where
 r:mG (h.objs.get x)=mT R
 ok:sL n (fun i=>decide (i<=nn)) R
 c1:cG (h.objs.get (x+1))=some [.m x]
 c3:∃v,cG (h.objs.get (x+3))=some [v]/\ QAt h x v q
 lq:∀m∈q,nn<m/\ m<n
 ql:q.length<=li n R
 nx:x+4<=h.next
 old:∀j,j<x ->h.objs.get j=g j
def QAt.mono {h h':AH} {x v q} (a:QAt h x v q) (hn:h.next<=h'.next) (e:∀j,j<h.next ->h'.objs.get j=h.objs.get j):QAt h' x v q:=by
 obtain⟨o,b,c,L,h1,h2,h3,h4,h5,h6,h7⟩:=a.e;exact⟨⟨o,b,c,L,h1,by rw[e o h7];exact h2,h3,h4,h5,h6,by omega⟩⟩
def UZ.mono {n nn x g R q} {h h':AH} (a:UZ n nn x g R q h) (hn:h.next<=h'.next) (e:∀j,j<h.next ->h'.objs.get j=h.objs.get j):UZ n nn x g R q h':=by
 obtain⟨h1,h2,h3,⟨v,h4,h5⟩,h6,h7,h8,h9⟩:=a;exact⟨by rw[e _ ω];exact h1,h2,by rw[e _ ω];exact h3,⟨v,by rw[e _ ω];exact h4,h5.mono hn e⟩,h6,h7,by omega,fun j hj=>by rw[e _ ω];exact h9 j hj⟩
section
variable {P:Program} {X:dy} {GL:T (List AV)} {fns:T aR}
def SL {C:cQ Prop} (S:aw P X GL fns) (E:gW P X GL fns C) (D:gD fns) (F:qd fns) {h:AH} {o:Nat} {p:Nat×Nat} {l:List ((Nat×Nat)×Tr)} (hm:mG (h.objs.get o)=mS l) (k:AV ->AH ->Prop)
 (hk:∀h',h.next<=h'.next ->(∀j,j<h.next ->h'.objs.get j=h.objs.get j) ->k (eT (KN l p)) h') (ho:o<h.next):bZ C 106 [.m o,eK p] h k:=by
 obtain⟨m,ver,ob⟩:=h;have ho':o<m:=ho;dsimp only at hm;have lk:∀nx' ver' ob' (τ:T AV),mG (T.get ob' o)=mS l ->bp C τ (.t 8)= .m o ->bp C τ (.t 9)=eK p ->
  step (bp C τ) ⟨nx',ver',ob'⟩ (.look (.ag [(0,1,false,.lf .i),(1,1,false,.lf .i)]) (.t 8) (.t 9) (.ag [.sn,.i .i64 0]) true)= .v (sQ eT (.ag [.sn,.i .i64 0]) (look p l)) ⟨nx',ver',ob'⟩:=
  fun nx' ver' ob' τ q1 q2 q3=>kx (k:=p) (z:= .ag [.sn,.i .i64 0]) (en:=eT) Xh (h:=⟨nx',ver',ob'⟩) (bA.2 q1) q2 q3
 simp only[eK] at lk ⊢;have cc:=fun h=>sA S D false h
 have e0:eT (dQ false 3)= .ag [.sn,.i .i64 0]:=rfl;rw[e0] at cc;rw[aA E.ok (E.get F.f106)];cases hl:look p l with
 |none=>
  have hk2:KN l p=cN:=by unfold KN;rw[hl];rfl
  rw[hk2] at hk;simp(disch:=first|omega|(exact U1 hm)) only[PL,lk,hl,sQ,hm,↓ky E.ok,Nat.reduceEqDiff,Nat.reduceAdd,Nat.reduceMul,Nat.reduceLT,Nat.reduceShiftRight,Nat.reduceAnd,Nat.reduceBneDiff,↓reduceIte,Int.reduceLT,Int.reduceLE,Int.reduceEq,go_sem];refine E.con (cc _) ?_;refine Y0 ?_;refine hk _ (by show m<=m+1+1+1;omega) fun j hj=> ?_
  have hj':j<m:=hj;exact U0
 |some t=>
  have hk2:KN l p=t:=by unfold KN;rw[hl];rfl
  rw[hk2] at hk;refine Z7 @PL.eq_1 lk hl @sQ.eq_1 hm @eT.eq_1 @eD.eq_1 ?_;refine hk _ (by show m<=m+1+1+1;omega) fun j hj=> ?_
  have hj':j<m:=hj;exact U0
end
end
end AM
