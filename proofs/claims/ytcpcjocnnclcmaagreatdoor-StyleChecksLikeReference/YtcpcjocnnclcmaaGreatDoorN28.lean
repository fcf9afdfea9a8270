import Derived.Test.YtcpcjocnnclcmaaGreatDoorN27
set_option linter.all false
namespace AM
open Dg Go
noncomputable section
structure Ru where
 p:Int
 s:Int
 k:Int
 n:Int
def dW (r:Ru):List AV:=[.i .i64 r.p,.i .i64 r.s,.i .i64 r.k,.i .i64 r.n]
def qL (r:Ru):(dW r).length=4:=rfl
def uk (k:Int):Bool:=decide (1<=k)&&decide (k<=5)
def fU (x y:Ru):Bool:=decide (x.p=y.p)&&decide (x.s=y.s)&&(decide (x.k=y.k)||(uk x.k&&uk y.k))
def Hq (g:Gr) (p:Int):Int:=(((g.prods[p.toNat]?).map fun q=>(q.right.length:Int)).getD 0)
def df (g:Gr) (r:Ru):Bool:=decide (0<=r.p)&&decide (r.p<(g.prods.length:Int))&&decide (1<=r.k)&&decide (r.k<=8)&&
 (if r.k=7∨r.k=8 then decide (r.s=0)&&decide (r.n=0) else
  (if r.k=5 then decide (1<=r.n)&&decide (r.n<=3) else if r.k=6 then decide (1<=r.n)&&decide (r.n<=16) else decide (r.n=0))&&decide (0<=r.s)&&decide (r.s<Hq g r.p-1))
def mH {p:Prop} [Decidable p] (h:p):decide p=true:=decide_eq_true h
def mK {p:Prop} [Decidable p] (h:¬p):decide p=false:=decide_eq_false h
section
variable {P:Program} {X:dy} {GL:T (List AV)} {fns:T aR}
def SN (S:aw P X GL fns) (F:uj fns) (k:Int) (h:AH):dq P X GL 97 [.i .i64 k] h (.b (uk k)) h:=by
 refine aE S (n:=9) ?_ (by simp only[af,ay,dc]) h;refine aZ.intro fun C E=> ?_
 rw[aA E.ok (E.get F.f97)];by_cases h1:1<=k
 ·simp(disch:=omega) only[Xk,h0,h1,↓ky E.ok,Nat.reduceEqDiff,Nat.reduceAdd,Nat.reduceMul,Nat.reduceLT,Nat.reduceShiftRight,Nat.reduceAnd,Nat.reduceBneDiff,↓reduceIte,Int.reduceLT,Int.reduceLE,Int.reduceEq,go_sem];unfold uk;rw[mH h1];exact⟨1,rfl⟩
 ·simp(disch:=omega) only[Xk,h0,h1,↓ky E.ok,Nat.reduceEqDiff,Nat.reduceAdd,Nat.reduceMul,Nat.reduceLT,Nat.reduceShiftRight,Nat.reduceAnd,Nat.reduceBneDiff,↓reduceIte,Int.reduceLT,Int.reduceLE,Int.reduceEq,go_sem];unfold uk;rw[mK h1];exact⟨1,rfl⟩
def KQ (S:aw P X GL fns) (F:uj fns) (x y:Ru) (h:AH):dq P X GL 46 [.ag (dW x),.ag (dW y)] h (.b (fU x y)) h:=by
 refine aE S (n:=9) ?_ (by simp only[af,ay,dW];rfl) h;refine aZ.intro fun C E=> ?_
 have sc:=fun k h=>SN (GL:=GL) S F k h
 unfold fU;rw[aA E.ok (E.get F.f46)];by_cases h1:x.p=y.p
 ·by_cases h2:x.s=y.s
  ·by_cases h3:x.k=y.k
   ·simp(disch:=omega) only[PX,dW,h0,h1,h2,h3,↓ky E.ok,Nat.reduceEqDiff,Nat.reduceAdd,Nat.reduceMul,Nat.reduceLT,Nat.reduceShiftRight,Nat.reduceAnd,Nat.reduceBneDiff,↓reduceIte,Int.reduceLT,Int.reduceLE,Int.reduceEq,go_sem];exact⟨1,rfl⟩
   ·simp(disch:=omega) only[PX,dW,h0,h1,h2,h3,↓ky E.ok,Nat.reduceEqDiff,Nat.reduceAdd,Nat.reduceMul,Nat.reduceLT,Nat.reduceShiftRight,Nat.reduceAnd,Nat.reduceBneDiff,↓reduceIte,Int.reduceLT,Int.reduceLE,Int.reduceEq,go_sem];refine E.con (sc _ _) ?_;cases h4:uk x.k with
    |false=>simp(disch:=omega) only[↓ky E.ok,Nat.reduceEqDiff,Nat.reduceAdd,Nat.reduceMul,Nat.reduceLT,Nat.reduceShiftRight,Nat.reduceAnd,Nat.reduceBneDiff,↓reduceIte,Int.reduceLT,Int.reduceLE,Int.reduceEq,go_sem];exact⟨1,rfl⟩
    |true=>
     simp(disch:=omega) only[↓ky E.ok,Nat.reduceEqDiff,Nat.reduceAdd,Nat.reduceMul,Nat.reduceLT,Nat.reduceShiftRight,Nat.reduceAnd,Nat.reduceBneDiff,↓reduceIte,Int.reduceLT,Int.reduceLE,Int.reduceEq,go_sem];refine E.con (sc _ _) ?_;simp(disch:=omega) only[↓ky E.ok,Nat.reduceEqDiff,Nat.reduceAdd,Nat.reduceMul,Nat.reduceLT,Nat.reduceShiftRight,Nat.reduceAnd,Nat.reduceBneDiff,↓reduceIte,Int.reduceLT,Int.reduceLE,Int.reduceEq,go_sem];cases uk y.k<;>exact⟨1,rfl⟩
  ·simp(disch:=omega) only[PX,dW,h0,h1,h2,↓ky E.ok,Nat.reduceEqDiff,Nat.reduceAdd,Nat.reduceMul,Nat.reduceLT,Nat.reduceShiftRight,Nat.reduceAnd,Nat.reduceBneDiff,↓reduceIte,Int.reduceLT,Int.reduceLE,Int.reduceEq,go_sem];exact⟨1,rfl⟩
 ·simp(disch:=omega) only[PX,dW,h0,h1,↓ky E.ok,Nat.reduceEqDiff,Nat.reduceAdd,Nat.reduceMul,Nat.reduceLT,Nat.reduceShiftRight,Nat.reduceAnd,Nat.reduceBneDiff,↓reduceIte,Int.reduceLT,Int.reduceLE,Int.reduceEq,go_sem];exact⟨1,rfl⟩
set_option maxHeartbeats 2000000 in
def PY (S:aw P X GL fns) (F:uj fns) {g:Gr} (G:cM g) (r:Ru) (h:AH):dq P X GL 45 [b9 g,.ag (dW r)] h (.b (df g r)) h:=by
 refine ez S (fun n h=>rfl) ?_ h;refine aZ.intro fun C E=> ?_
 have pl:=G.pl;rw[aA E.ok (E.get F.f45)];unfold df;by_cases h1:r.p<0
 ·have h1':¬0<=r.p:=by omega
  simp(disch:=omega) only[qf,dW,b9,aL,h0,h1,h1',kN,↓ky E.ok,Nat.reduceEqDiff,Nat.reduceAdd,Nat.reduceMul,Nat.reduceLT,Nat.reduceShiftRight,Nat.reduceAnd,Nat.reduceBneDiff,↓reduceIte,Int.reduceLT,Int.reduceLE,Int.reduceEq,go_sem];exact⟨1,rfl⟩
 have h1':0<=r.p:=by omega
 by_cases h2:(g.prods.length:Int)<=r.p
 ·have h2':¬r.p<(g.prods.length:Int):=by omega
  simp(disch:=omega) only[qf,dW,b9,aL,h0,h1,h1',h2,h2',kN,kM,↓ky E.ok,Nat.reduceEqDiff,Nat.reduceAdd,Nat.reduceMul,Nat.reduceLT,Nat.reduceShiftRight,Nat.reduceAnd,Nat.reduceBneDiff,↓reduceIte,Int.reduceLT,Int.reduceLE,Int.reduceEq,go_sem];exact⟨1,rfl⟩
 have h2':r.p<(g.prods.length:Int):=by omega
 by_cases h3:r.k<1
 ·have h3':¬1<=r.k:=by omega
  simp(disch:=omega) only[qf,dW,b9,aL,h0,h1,h1',h2,h2',h3,h3',kN,kM,pB,↓ky E.ok,Nat.reduceEqDiff,Nat.reduceAdd,Nat.reduceMul,Nat.reduceLT,Nat.reduceShiftRight,Nat.reduceAnd,Nat.reduceBneDiff,↓reduceIte,Int.reduceLT,Int.reduceLE,Int.reduceEq,go_sem];exact⟨1,rfl⟩
 have h3':1<=r.k:=by omega
 by_cases h4:8<r.k
 ·have h4':¬r.k<=8:=by omega
  simp(disch:=omega) only[qf,dW,b9,aL,h0,h1,h1',h2,h2',h3,h3',h4,h4',kN,kM,pB,↓ky E.ok,Nat.reduceEqDiff,Nat.reduceAdd,Nat.reduceMul,Nat.reduceLT,Nat.reduceShiftRight,Nat.reduceAnd,Nat.reduceBneDiff,↓reduceIte,Int.reduceLT,Int.reduceLE,Int.reduceEq,go_sem];exact⟨1,rfl⟩
 have h4':r.k<=8:=by omega
 obtain⟨i,hi⟩:∃i:Nat,r.p=(i:Int):=⟨r.p.toNat,by omega⟩;have hil:i<g.prods.length:=by omega
 have hpi:g.prods[i]? =some g.prods[i]:=ba hil;generalize hp:g.prods[i]=p at hpi;have pk:=G.p p (bJ hpi);have rl:=pk.len;have hrl:Hq g (i:Int)=(p.right.length:Int):=by unfold Hq;rw[show((i:Int)).toNat=i from rfl,hpi];rfl
 have e2:sub (g.prods.flatMap cC) (i*13+2) 1=some [eR bS 2 p.rn p.right]:=aB eG hpi (j:=2) (n:=1) ω;rw[hi] at h1 h1' h2 h2';have nk1:aJ 64 (eR cC 13 true g.prods)=true:=aT fD;have nk2:∀k,aJ 64 (.dp (g.prods.flatMap cC) k)=true:=fun k=>by rw[di,bu fD]
 have nk3:aJ 64 (eR bS 2 p.rn p.right)=true:=aT de;rw[hi,hrl,mH h1',mH h2',mH h3',mH h4'];by_cases k7:r.k=7
 ·by_cases s0:r.s=0
  ·simp(disch:=omega) only[qf,dW,b9,aL,h0,hi,h1,h2,h3,h4,k7,s0,pB,true_or,↓ky E.ok,Nat.reduceEqDiff,Nat.reduceAdd,Nat.reduceMul,Nat.reduceLT,Nat.reduceShiftRight,Nat.reduceAnd,Nat.reduceBneDiff,↓reduceIte,Int.reduceLT,Int.reduceLE,Int.reduceEq,go_sem];exact⟨1,rfl⟩
  ·simp(disch:=omega) only[qf,dW,b9,aL,h0,hi,h1,h2,h3,h4,k7,s0,pB,kN,true_or,↓ky E.ok,Nat.reduceEqDiff,Nat.reduceAdd,Nat.reduceMul,Nat.reduceLT,Nat.reduceShiftRight,Nat.reduceAnd,Nat.reduceBneDiff,↓reduceIte,Int.reduceLT,Int.reduceLE,Int.reduceEq,go_sem];exact⟨1,rfl⟩
 by_cases k8:r.k=8
 ·by_cases s0:r.s=0
  ·simp(disch:=omega) only[qf,dW,b9,aL,h0,hi,h1,h2,h3,h4,k7,k8,s0,pB,or_true,↓ky E.ok,Nat.reduceEqDiff,Nat.reduceAdd,Nat.reduceMul,Nat.reduceLT,Nat.reduceShiftRight,Nat.reduceAnd,Nat.reduceBneDiff,↓reduceIte,Int.reduceLT,Int.reduceLE,Int.reduceEq,go_sem];exact⟨1,rfl⟩
  ·simp(disch:=omega) only[qf,dW,b9,aL,h0,hi,h1,h2,h3,h4,k7,k8,s0,pB,kN,or_true,↓ky E.ok,Nat.reduceEqDiff,Nat.reduceAdd,Nat.reduceMul,Nat.reduceLT,Nat.reduceShiftRight,Nat.reduceAnd,Nat.reduceBneDiff,↓reduceIte,Int.reduceLT,Int.reduceLE,Int.reduceEq,go_sem];exact⟨1,rfl⟩
 rw[if_neg (fun h=>h.elim k7 k8)];have slot:∀(b:Bool),b=true ->∀τ ver ob,τ.get 2=some (.p 0 0) ->τ.get 3=some (.p 1 0) ->cG (T.get ob 0)=some (aL g) ->cG (T.get ob 1)=some [.i .i64 (i:Int),.i .i64 r.s,.i .i64 r.k,.i .i64 r.n] ->dk C Hp [.s .ret] (KF (fun x h=>∃n,aH n h x=some (.b (true&&true&&true&&true&&(b&&decide (0<=r.s)&&decide (r.s<(p.right.length:Int)-1))))) [(4,none)]) τ ⟨2,ver,ob⟩:=by
  intro b hb τ ver ob t2 t3 c0 c1;subst hb;simp only[aL] at c0;unfold Hp;have bs:aV .sub (ι (p.right.length:Int)) (ι 1)=some (ι ((p.right.length:Int)-1)):=lF ⟨by omega,by omega⟩;by_cases s0:0<=r.s
  ·by_cases s1:r.s<(p.right.length:Int)-1
   ·rw[mH s0,mH s1];simp(disch:=omega) only[t2,t3,c0,c1,s0,s1,aF,e2,nk1,nk2,nk3,bs,↓ky E.ok,Nat.reduceEqDiff,Nat.reduceAdd,Nat.reduceMul,Nat.reduceLT,Nat.reduceShiftRight,Nat.reduceAnd,Nat.reduceBneDiff,↓reduceIte,Int.reduceLT,Int.reduceLE,Int.reduceEq,go_sem];exact⟨1,rfl⟩
   ·rw[mH s0,mK s1];simp(disch:=omega) only[t2,t3,c0,c1,s0,s1,aF,e2,nk1,nk2,nk3,bs,↓ky E.ok,Nat.reduceEqDiff,Nat.reduceAdd,Nat.reduceMul,Nat.reduceLT,Nat.reduceShiftRight,Nat.reduceAnd,Nat.reduceBneDiff,↓reduceIte,Int.reduceLT,Int.reduceLE,Int.reduceEq,go_sem];exact⟨1,rfl⟩
  ·rw[mK s0];simp(disch:=omega) only[t2,t3,c0,c1,s0,aF,e2,nk1,nk2,nk3,kM,kN,↓ky E.ok,Nat.reduceEqDiff,Nat.reduceAdd,Nat.reduceMul,Nat.reduceLT,Nat.reduceShiftRight,Nat.reduceAnd,Nat.reduceBneDiff,↓reduceIte,Int.reduceLT,Int.reduceLE,Int.reduceEq,go_sem];exact⟨1,rfl⟩
 by_cases k5:r.k=5
 ·by_cases n1:r.n<1
  ·have n1':¬1<=r.n:=by omega
   simp(disch:=omega) only[qf,dW,b9,aL,h0,hi,h1,h2,h3,h4,k7,k8,k5,n1,n1',kN,kM,↓ky E.ok,Nat.reduceEqDiff,Nat.reduceAdd,Nat.reduceMul,Nat.reduceLT,Nat.reduceShiftRight,Nat.reduceAnd,Nat.reduceBneDiff,↓reduceIte,Int.reduceLT,Int.reduceLE,Int.reduceEq,go_sem];exact⟨1,rfl⟩
  by_cases n3:3<r.n
  ·have n3':¬r.n<=3:=by omega
   simp(disch:=omega) only[qf,dW,b9,aL,h0,hi,h1,h2,h3,h4,k7,k8,k5,n1,n3,n3',kN,kM,↓ky E.ok,Nat.reduceEqDiff,Nat.reduceAdd,Nat.reduceMul,Nat.reduceLT,Nat.reduceShiftRight,Nat.reduceAnd,Nat.reduceBneDiff,↓reduceIte,Int.reduceLT,Int.reduceLE,Int.reduceEq,go_sem];exact⟨1,rfl⟩
  rw[if_pos k5,mH (show 1<=r.n by omega),mH (show r.n<=3 by omega)];simp(disch:=omega) only[qf,dW,b9,aL,h0,hi,h1,h2,h3,h4,k7,k8,k5,n1,n3,↓ky E.ok,Nat.reduceEqDiff,Nat.reduceAdd,Nat.reduceMul,Nat.reduceLT,Nat.reduceShiftRight,Nat.reduceAnd,Nat.reduceBneDiff,↓reduceIte,Int.reduceLT,Int.reduceLE,Int.reduceEq,go_sem];exact slot _ rfl _ _ _ U0 U0 (U1 @aL.eq_1) (U1 k5)
 rw[if_neg k5];by_cases k6:r.k=6
 ·by_cases n1:r.n<1
  ·have n1':¬1<=r.n:=by omega
   simp(disch:=omega) only[qf,dW,b9,aL,h0,hi,h1,h2,h3,h4,k7,k8,k5,k6,n1,n1',kN,kM,↓ky E.ok,Nat.reduceEqDiff,Nat.reduceAdd,Nat.reduceMul,Nat.reduceLT,Nat.reduceShiftRight,Nat.reduceAnd,Nat.reduceBneDiff,↓reduceIte,Int.reduceLT,Int.reduceLE,Int.reduceEq,go_sem];exact⟨1,rfl⟩
  by_cases n3:16<r.n
  ·have n3':¬r.n<=16:=by omega
   simp(disch:=omega) only[qf,dW,b9,aL,h0,hi,h1,h2,h3,h4,k7,k8,k5,k6,n1,n3,n3',kN,kM,↓ky E.ok,Nat.reduceEqDiff,Nat.reduceAdd,Nat.reduceMul,Nat.reduceLT,Nat.reduceShiftRight,Nat.reduceAnd,Nat.reduceBneDiff,↓reduceIte,Int.reduceLT,Int.reduceLE,Int.reduceEq,go_sem];exact⟨1,rfl⟩
  rw[if_pos k6,mH (show 1<=r.n by omega),mH (show r.n<=16 by omega)];simp(disch:=omega) only[qf,dW,b9,aL,h0,hi,h1,h2,h3,h4,k7,k8,k5,k6,n1,n3,↓ky E.ok,Nat.reduceEqDiff,Nat.reduceAdd,Nat.reduceMul,Nat.reduceLT,Nat.reduceShiftRight,Nat.reduceAnd,Nat.reduceBneDiff,↓reduceIte,Int.reduceLT,Int.reduceLE,Int.reduceEq,go_sem];exact slot _ rfl _ _ _ U0 U0 (U1 @aL.eq_1) (U1 k6)
 rw[if_neg k6];by_cases n0:r.n=0
 ·rw[mH n0];simp(disch:=omega) only[qf,dW,b9,aL,h0,hi,h1,h2,h3,h4,k7,k8,k5,k6,n0,↓ky E.ok,Nat.reduceEqDiff,Nat.reduceAdd,Nat.reduceMul,Nat.reduceLT,Nat.reduceShiftRight,Nat.reduceAnd,Nat.reduceBneDiff,↓reduceIte,Int.reduceLT,Int.reduceLE,Int.reduceEq,go_sem];exact slot _ rfl _ _ _ U0 U0 (U1 @aL.eq_1) (U1 n0)
 ·rw[mK n0];simp(disch:=omega) only[qf,dW,b9,aL,h0,hi,h1,h2,h3,h4,k7,k8,k5,k6,n0,kN,kM,↓ky E.ok,Nat.reduceEqDiff,Nat.reduceAdd,Nat.reduceMul,Nat.reduceLT,Nat.reduceShiftRight,Nat.reduceAnd,Nat.reduceBneDiff,↓reduceIte,Int.reduceLT,Int.reduceLE,Int.reduceEq,go_sem];exact⟨1,rfl⟩
end
def zn (g:Gr) (L:List Ru) (i:Nat):Bool:=match L[i]? with
 |some r=>df g r&&(L.take i).all fun q=> !fU r q
 |none=>true
def jm (g:Gr) (L:List Ru):Bool:=(List.range L.length).all (zn g L)
def yM {g:Gr} {L:List Ru} {i:Nat} (hi:i<L.length) (h:zn g L i=false):jm g L=false:=by
 unfold jm;rw[List.all_eq_false];exact⟨i,pi.2 hi,by rw[h];simp⟩
def AL {g:Gr} {L:List Ru} (h:∀i,i<L.length ->zn g L i=true):jm g L=true:=by
 unfold jm;rw[fK];exact fun i hi=>h i (pi.1 hi)
def kF {n} (r:Ru):aJ.niceL n (dW r)=true:=by simp only[dW,bP,cA,gN,fW]
def ul {n h} (a:Ru):aK n h (dW a)=some (dW a):=by simp only[dW,af,ay,dc]
section
variable {P:Program} {X:dy} {GL:T (List AV)} {fns:T aR}
set_option maxHeartbeats 1000000 in
def oU (S:aw P X GL fns) (F:uj fns) {g:Gr} (G:cM g) {L:List Ru} {nl:Bool} (hL:L.length<=1000):aZ P X GL fns 19 [b9 g,eR dW 4 nl L] (.b (jm g L)):=by
 refine aZ.intro fun C E=> ?_
 have rc:=fun r h=>PY S F G r h
 have cc:=fun x y h=>KQ (GL:=GL) S F x y h
 simp only[b9,aL,dW] at rc cc;have nk1:aJ 64 (eR dW 4 nl L)=true:=aT kF;have nk2:∀k,aJ 64 (.dp (L.flatMap dW) k)=true:=fun k=>by rw[di,bu kF]
 have nkg:aJ 64 (.ag (aL g))=true:=by rw[fH,gY]
 simp only[aL] at nkg;rw[aA E.ok (E.get F.f19)];refine Y4 @ac1.eq_1 @b9.eq_1 @aL.eq_1 @h0.eq_1 ?_;refine aX E.ok L.length (fun i τ h=>(∀j,j<i ->zn g L j=true)/\ 1<=h.next/\ cG (h.objs.get 0)=some (aL g)/\ τ.get 1=some (eR dW 4 nl L)/\ τ.get 2=some (.p 0 0)/\ τ.get 5=some (ι (i:Int))) ?_ ?_ _ _ ⟨fun j hj=>by omega,bK _,?_,?_,?_,?_⟩
 ·rintro i τ ⟨n1,v1,ob1⟩ hi ⟨hok,hn1,c0,t1,t2,t5⟩ ih;dsimp only at c0;have c0':=c0;simp only[aL] at c0;have hri:L[i]? =some L[i]:=ba hi;generalize hr:L[i]=r at hri;have e4:sub (L.flatMap dW) (i*4) 4=some (dW r):=aB qL hri (j:=0) (n:=4) ω;simp only[dW] at e4;have oa:zn g L i=(df g r&&(L.take i).all fun q=> !fU r q):=by unfold zn;rw[hri]
  refine Y9 c0 t1 t2 t5 @aF e4 nk1 nk2 nkg ?_;refine E.con (rc _ _) ?_;refine Y9 c0 t1 t2 t5 @aF e4 nk1 nk2 nkg ?_;cases hb:df g r with
  |false=>
   refine Y9 c0 t1 t2 t5 @aF e4 nk1 nk2 nkg ?_;rw[yM hi (by rw[oa,hb];rfl)];exact⟨1,rfl⟩
  |true=>
   rw[hb] at oa;rw[pB] at oa;refine Y9 c0 t1 t2 t5 @aF e4 nk1 nk2 nkg ?_;refine aX E.ok i (fun j τ h=>(∀q∈L.take j,fU r q=false)/\ 1<=h.next/\ cG (h.objs.get 0)=some (aL g)/\ τ.get 1=some (eR dW 4 nl L)/\ τ.get 2=some (.p 0 0)/\ τ.get 5=some (ι (i:Int))/\ τ.get 6=some (ι (j:Int))) ?_ ?_ _ _ ⟨by simp,hn1,c0',?_,?_,?_,?_⟩
   ·rintro j τ ⟨n2,v2,ob2⟩ hj ⟨hcl,hn2,d0,s1,s2,s5,s6⟩ ih2;have hqj:L[j]? =some L[j]:=ba ω;generalize hq:L[j]=q at hqj;have f4:sub (L.flatMap dW) (j*4) 4=some (dW q):=aB qL hqj (j:=0) (n:=4) ω;simp only[dW] at f4;refine Y9 s1 s2 s5 s6 @aF e4 f4 nk1 nk2 ?_;refine E.con (cc _ _ _) ?_;refine Y9 s1 s2 s5 s6 @aF e4 f4 nk1 nk2 ?_;cases hc:fU r q with
    |true=>
     refine Y4 s1 s2 s5 s6 ?_;rw[yM hi (by
      rw[oa,List.all_eq_false];refine⟨q,?_,by rw[hc];simp⟩;exact bJ (i:=j) (by rw[iL,if_pos hj];exact hqj))]
     exact⟨1,rfl⟩
    |false=>
     refine Y5 s1 s2 s5 s6 @ar ?_;refine ih2 _ _ ⟨fun z hz=> ?_,hn2,d0,?_,?_,?_,?_⟩
     ·rw[eP hqj] at hz;rcases eV.1 hz with h|h
      ·exact hcl z h
      ·rw[dY.1 h];exact hc
     all_goals exact U3 s1 s2 s5
   ·rintro τ ⟨n2,v2,ob2⟩ ⟨hcl,hn2,d0,s1,s2,s5,s6⟩;refine Y5 s1 s2 s5 s6 @ar ?_;refine ih _ _ ⟨fun j hj=> ?_,hn2,d0,?_,?_,?_⟩
    ·by_cases e:j=i
     ·subst e;rw[oa,fK];intro q hq;rw[hcl q hq];rfl
     ·exact hok j ω
    all_goals exact U3 s1 s2 s5
   all_goals exact U3 t1 t2 t5
 ·rintro τ ⟨n1,v1,ob1⟩ ⟨hok,hn1,c0,t1,t2,t5⟩;refine Y4 t1 t2 t5 @bV ?_;rw[AL hok];exact⟨1,rfl⟩
 ·exact U1 @aL.eq_1
 all_goals exact U0
end
def eJ (p:Int×Int):AV:= .ag [.i .i64 p.1,.i .i64 p.2]
def SO:rG eJ tK where
 eq:=fun a b=>by
  obtain⟨a1,a2⟩:=a;obtain⟨b1,b2⟩:=b;have h:fS 6 tK (eJ (a1,a2)) (eJ (b1,b2))=(match (some (fQ a1 b1):Option Bool) with
   |some true=>(match (some (fQ a2 b2):Option Bool) with
    |some true=>some true
    |r=>r)
   |r=>r):=rfl
  rw[h,bF,bF];by_cases h1:a1=b1<;>by_cases h2:a2=b2<;>simp[h1,h2]
 q:=fun a=>by
  obtain⟨a1,a2⟩:=a;have h:nG tK (eJ (a1,a2))=(match (match (some (fQ a1 a1):Option Bool) with
   |some true=>(match (some (fQ a2 a2):Option Bool) with
    |some true=>some true
    |r=>r)
   |r=>r) with|some true=>true|_=>false):=rfl
  rw[h,bF,bF];simp
 self:=fun a=>by
  obtain⟨a1,a2⟩:=a;have h:nH (eJ (a1,a2)) (eJ (a1,a2))=((rP .i64 .i64&&fQ a1 a1)&&((rP .i64 .i64&&fQ a2 a2)&&true)):=rfl;rw[h,bF,bF];simp[rP]
def QZ (r:Ru):AV:= .ag [.i .i64 r.p,.i .i64 r.s,.i .i64 r.k,.i .i64 r.n]
def CC (n:Int):AV:= .i .i64 n
def mX {κ ν:Type} (ek:κ ->AV) (en:ν ->AV) (l:List (κ×ν)):Option (List (AV×AV×Nat)×Nat):=some (cV ek en 0 l,l.length)
def z4:AV:= .ag [.i .i64 0,.i .i64 0,.i .i64 0,.i .i64 0]
def ruO:Option Ru ->Ru
 |some r=>r
 |none=>⟨0,0,0,0⟩
def Xl {o:Option Ru}:sQ QZ (.ag [.i .i64 0,.i .i64 0,.i .i64 0,.i .i64 0]) o= .tu [.ag [.i .i64 (ruO o).p,.i .i64 (ruO o).s,.i .i64 (ruO o).k,.i .i64 (ruO o).n],.b o.isSome]:=by cases o<;>rfl
def Xm {o:Option Int}:Iw CC (ι 0) o= .i .i64 (o.getD 0):=by cases o<;>rfl
def Xn {o:Option Bool}:Iw AV.b (.b false) o= .b (o.getD false):=by cases o<;>rfl
structure oV (D:List Ru) (Sp:List ((Int×Int)×Ru)) (Ns:List ((Int×Int)×Int)) (Al Ke:List (Int×Bool)):Prop where
 f1:∀p s,(look (p,s) Sp).isSome=D.any fun q=>decide (q.p=p)&&decide (q.s=s)&&uk q.k
 f2:∀p s,decide (0<(look (p,s) Ns).getD 0)=D.any fun q=>decide (q.p=p)&&decide (q.s=s)&&decide (q.k=6)
 f3:∀p,(look p Al).getD false=D.any fun q=>decide (q.p=p)&&decide (q.k=7)
 f4:∀p,(look p Ke).getD false=D.any fun q=>decide (q.p=p)&&decide (q.k=8)
def fE {α:Type} {D:List α} {r:α} {f:α ->Bool}:(D++[r]).any f=(D.any f||f r):=by simp[List.any_append]
def CD {α:Type} {D:List α} {f g:α ->Bool} (h:∀q∈D,f q=g q):D.any f=D.any g:=by
 induction D with
 |nil=>rfl
 |cons a t ih=>rw[lY,lY,h a (by simp),ih fun q hq=>h q (by simp[hq])]
def qM {k:Int} (h:5<k):uk k=false:=by unfold uk;rw[mK (show¬k<=5 by omega)];simp
def Je {p q:Prop} [Decidable p] [Decidable q] (h:p↔¬q):decide p= !decide q:=by by_cases e:q<;>simp[h,e]
def oW {a b:Int}:decide (a=b)=decide (b=a):=by by_cases h:a=b<;>simp[h,eq_comm]
def s78 {g:Gr} {r:Ru} (h:df g r=true) (hk:r.k=7∨r.k=8):r.s=0:=by
 unfold df at h;rw[if_pos hk] at h;simp only[av,decide_eq_true_eq] at h;exact h.2.1
def oV.nil:oV [] [] [] [] []:=⟨fun _ _=>rfl,fun _ _=>rfl,fun _=>rfl,fun _=>rfl⟩
section
variable {D:List Ru} {Sp:List ((Int×Int)×Ru)} {Ns:List ((Int×Int)×Int)} {Al Ke:List (Int×Bool)} (b:oV D Sp Ns Al Ke) {r:Ru}
include b
theorem oV.sep (h1:1<=r.k) (h5:r.k<=5):oV (D++[r]) (ups (r.p,r.s) r Sp) Ns Al Ke where
 f1:=fun p s=>by
  rw[gX,fE,←b.f1];have hs:uk r.k=true:=by unfold uk;rw[mH h1,mH h5];rfl
  by_cases e:(p,s)=(r.p,r.s)
  ·rw[if_pos e];obtain⟨e1,e2⟩:=(Prod.mk.injEq ..).mp e;subst e1 e2;simp[hs]
  ·rw[if_neg e];have:(decide (r.p=p)&&decide (r.s=s))=false:=by
    by_cases q1:r.p=p
    ·by_cases q2:r.s=s
     ·exact absurd (by rw[q1,q2]) e
     ·simp[q2]
    ·simp[q1]
   rw[this];simp
 f2:=fun p s=>by rw[fE,←b.f2,mK (show¬r.k=6 by omega)];simp
 f3:=fun p=>by rw[fE,←b.f3,mK (show¬r.k=7 by omega)];simp
 f4:=fun p=>by rw[fE,←b.f4,mK (show¬r.k=8 by omega)];simp
theorem oV.nest (h6:r.k=6) (hn:1<=r.n):oV (D++[r]) Sp (ups (r.p,r.s) r.n Ns) Al Ke where
 f1:=fun p s=>by rw[fE,←b.f1,qM ω];simp
 f2:=fun p s=>by
  rw[gX,fE,←b.f2,mH h6];by_cases e:(p,s)=(r.p,r.s)
  ·rw[if_pos e];obtain⟨e1,e2⟩:=(Prod.mk.injEq ..).mp e;subst e1 e2;simp;omega
  ·rw[if_neg e];have:(decide (r.p=p)&&decide (r.s=s))=false:=by
    by_cases q1:r.p=p
    ·by_cases q2:r.s=s
     ·exact absurd (by rw[q1,q2]) e
     ·simp[q2]
    ·simp[q1]
   rw[this];simp
 f3:=fun p=>by rw[fE,←b.f3,mK (show¬r.k=7 by omega)];simp
 f4:=fun p=>by rw[fE,←b.f4,mK (show¬r.k=8 by omega)];simp
theorem oV.algn (h7:r.k=7):oV (D++[r]) Sp Ns (ups r.p true Al) Ke where
 f1:=fun p s=>by rw[fE,←b.f1,qM ω];simp
 f2:=fun p s=>by rw[fE,←b.f2,mK (show¬r.k=6 by omega)];simp
 f3:=fun p=>by
  rw[gX,fE,←b.f3,mH h7];by_cases e:p=r.p
  ·rw[if_pos e,mH e.symm];simp
  ·rw[if_neg e,mK fun q=>e q.symm];simp
 f4:=fun p=>by rw[fE,←b.f4,mK (show¬r.k=8 by omega)];simp
theorem oV.keep (h8:r.k=8):oV (D++[r]) Sp Ns Al (ups r.p true Ke) where
 f1:=fun p s=>by rw[fE,←b.f1,qM ω];simp
 f2:=fun p s=>by rw[fE,←b.f2,mK (show¬r.k=6 by omega)];simp
 f3:=fun p=>by rw[fE,←b.f3,mK (show¬r.k=7 by omega)];simp
 f4:=fun p=>by
  rw[gX,fE,←b.f4,mH h8];by_cases e:p=r.p
  ·rw[if_pos e,mH e.symm];simp
  ·rw[if_neg e,mK fun q=>e q.symm];simp
theorem oV.t1 (h1:1<=r.k) (h5:r.k<=5):(look (r.p,r.s) Sp).isSome=D.any (fU r):=by
 have hs:uk r.k=true:=by unfold uk;rw[mH h1,mH h5];rfl
 rw[b.f1];refine CD fun q _=> ?_
 unfold fU;rw[oW (a:=r.p),oW (a:=r.s),hs,pB];by_cases e:r.k=q.k
 ·rw[←e,hs];simp
 ·rw[mK e];simp
theorem oV.t2 (h6:r.k=6):decide (0<(look (r.p,r.s) Ns).getD 0)=D.any (fU r):=by
 rw[b.f2];refine CD fun q _=> ?_
 unfold fU;rw[oW (a:=r.p),oW (a:=r.s),oW (a:=r.k),qM (k:=r.k) ω,h6];simp
theorem oV.t3 {g:Gr} (h7:r.k=7) (hr:r.s=0) (hD:∀q∈D,df g q=true):(look r.p Al).getD false=D.any (fU r):=by
 rw[b.f3];refine CD fun q hq=> ?_
 unfold fU;rw[oW (a:=r.p),oW (a:=r.k),qM (k:=r.k) ω,h7,hr];by_cases e:q.k=7
 ·have:=s78 (hD q hq) (.inl e);rw[this];simp
 ·simp[e]
theorem oV.t4 {g:Gr} (h8:r.k=8) (hr:r.s=0) (hD:∀q∈D,df g q=true):(look r.p Ke).getD false=D.any (fU r):=by
 rw[b.f4];refine CD fun q hq=> ?_
 unfold fU;rw[oW (a:=r.p),oW (a:=r.k),qM (k:=r.k) ω,h8,hr];by_cases e:q.k=8
 ·have:=s78 (hD q hq) (.inr e);rw[this];simp
 ·simp[e]
end
def Xo {α:Type} {D:List α} {f:α ->Bool}:(D.all fun q=> !f q)= !D.any f:=by
 induction D with
 |nil=>rfl
 |cons a t ih=>rw[zA,lY,ih];simp
def ec {C:cQ Prop} {K:K Prop} {τ:T AV} {h:AH}:∀{S:List Fr},iZ C .ret S K τ h↔iZ C .ret [] K τ h
 |[]=>Iff.rfl
 | .s _::S=>ec (S:=S)
 | .b _::S=>ec (S:=S)
section
variable {P:Program} {X:dy} {GL:T (List AV)} {fns:T aR}
def vp (g:Gr) (r:Ru) (tk:Bool) (lo hi:Int):Bool:=tk||decide (r.n<lo)||decide (hi<r.n)||decide (r.s<0)||decide ((if r.k=7∨r.k=8 then 1 else Hq g r.p-1)<=r.s)
set_option maxHeartbeats 4000000 in
def m7 {C:cQ Prop} (E:gW P X GL fns C) {g:Gr} (G:cM g) {r:Ru} {i:Nat} (hi:r.p=(i:Int)) (hil:i<g.prods.length) {tk:Bool} {lo hi':Int} {m n1:Nat} {S:List Fr} {k:AV ->AH ->Prop} {h:AH} {τ:T AV}
 (c0:cG (h.objs.get m)=some (aL g)) (c8:cG (h.objs.get n1)=some [.i .i64 r.p,.i .i64 r.s,.i .i64 r.k,.i .i64 r.n])
 (t2:τ.get 2=some (.p m 0)) (t8:τ.get 8=some (.p n1 0)) (t9:τ.get 9=some (ι lo)) (t10:τ.get 10=some (ι hi')) (t14:τ.get 14=some (.b tk))
 (hb:vp g r tk lo hi'=true ->k (.tu [.pn,.b false]) h)
 (hg:vp g r tk lo hi'=false ->∀τ',(∀j,j<=8 ->τ'.get j=τ.get j) ->(∀j,16<=j ->j<=120 ->τ'.get j=τ.get j) ->iZ C .normal S (KF k [(4,none),(5,none)]) τ' h):
 dk C CB (.s Ho::S) (KF k [(4,none),(5,none)]) τ h:=by
 obtain⟨m2,ver,ob⟩:=h;dsimp only at c0 c8;have pl:=G.pl;have hpi:g.prods[i]? =some g.prods[i]:=ba hil;generalize hp:g.prods[i]=p at hpi;have pk:=G.p p (bJ hpi);have rl:=pk.len;have hrl:Hq g r.p=(p.right.length:Int):=by unfold Hq;rw[hi,show((i:Int)).toNat=i from rfl,hpi];rfl
 have e2:sub (g.prods.flatMap cC) (i*13+2) 1=some [eR bS 2 p.rn p.right]:=aB eG hpi (j:=2) (n:=1) ω;have nk1:aJ 64 (eR cC 13 true g.prods)=true:=aT fD;have nk2:∀k,aJ 64 (.dp (g.prods.flatMap cC) k)=true:=fun k=>by rw[di,bu fD]
 have nk3:aJ 64 (eR bS 2 p.rn p.right)=true:=aT de;have bs:aV .sub (ι (p.right.length:Int)) (ι 1)=some (ι ((p.right.length:Int)-1)):=lF ⟨by omega,by omega⟩;rw[hi] at c8;simp only[aL] at c0;unfold vp at hb hg;rw[hrl] at hb hg;have key:∀sl:Int,(if r.k=7∨r.k=8 then 1 else (p.right.length:Int)-1)=sl ->(((r.k=7)=True/\ (r.k=8)=False/\ sl=1)∨((r.k=7)=False/\ (r.k=8)=True/\ sl=1)∨((r.k=7)=False/\ (r.k=8)=False/\ sl=(p.right.length:Int)-1)):=by
  intro sl e;by_cases k7:r.k=7
  ·rw[if_pos (.inl k7)] at e;exact .inl ⟨eq_true k7,eq_false ω,e.symm⟩
  by_cases k8:r.k=8
  ·rw[if_pos (.inr k8)] at e;exact .inr (.inl ⟨eq_false k7,eq_true k8,e.symm⟩)
  rw[if_neg (fun h=>h.elim k7 k8)] at e;exact .inr (.inr ⟨eq_false k7,eq_false k8,e.symm⟩)
 generalize hsl:(if r.k=7∨r.k=8 then 1 else (p.right.length:Int)-1)=sl at hb hg;unfold CB;rcases key sl hsl with ⟨k7,k8,hs⟩|⟨k7,k8,hs⟩|⟨k7,k8,hs⟩
 ·rw[hs] at hb hg;cases tk with
  |true=>
   refine QT c0 c8 t2 t8 t9 t10 t14 hi @aF e2 nk1 nk2 nk3 bs k7 k8 ?_;rw[ec];refine Y0 ?_;exact hb rfl
  |false=>
  by_cases h1:r.n<lo
  ·rw[mH h1] at hb;refine Zw c0 c8 t2 t8 t9 t10 t14 hi @aF e2 nk1 nk2 nk3 bs k7 k8 h1 ?_;rw[ec];refine Y0 ?_;exact hb rfl
  by_cases h2:hi'<r.n
  ·rw[mH h2] at hb;refine WD c0 c8 t2 t8 t9 t10 t14 hi @aF e2 nk1 nk2 nk3 bs k7 k8 h1 h2 ?_;rw[ec];refine Y0 ?_;exact hb (by simp)
  by_cases h3:r.s<0
  ·rw[mH h3] at hb;refine F4 c0 c8 t2 t8 t9 t10 t14 hi @aF e2 nk1 nk2 nk3 bs k7 k8 h1 h2 h3 ?_;rw[ec];refine Y0 ?_;exact hb (by simp)
  by_cases h4:1<=r.s
  ·rw[mH h4] at hb;refine QU c0 c8 t2 t8 t9 t10 t14 hi @aF e2 nk1 nk2 nk3 bs k7 k8 h1 h2 h3 h4 ?_;rw[ec];refine Y0 ?_;exact hb (by simp)
  rw[mK h1,mK h2,mK h3,mK h4] at hg;refine QU c0 c8 t2 t8 t9 t10 t14 hi @aF e2 nk1 nk2 nk3 bs k7 k8 h1 h2 h3 h4 ?_;refine hg rfl _ (fun j hj=> ?_) (fun j hj hj2=> ?_);all_goals exact U0
 ·rw[hs] at hb hg;cases tk with
  |true=>
   refine QT c0 c8 t2 t8 t9 t10 t14 hi @aF e2 nk1 nk2 nk3 bs k7 k8 ?_;rw[ec];refine Y0 ?_;exact hb rfl
  |false=>
  by_cases h1:r.n<lo
  ·rw[mH h1] at hb;refine Zw c0 c8 t2 t8 t9 t10 t14 hi @aF e2 nk1 nk2 nk3 bs k7 k8 h1 ?_;rw[ec];refine Y0 ?_;exact hb rfl
  by_cases h2:hi'<r.n
  ·rw[mH h2] at hb;refine WD c0 c8 t2 t8 t9 t10 t14 hi @aF e2 nk1 nk2 nk3 bs k7 k8 h1 h2 ?_;rw[ec];refine Y0 ?_;exact hb (by simp)
  by_cases h3:r.s<0
  ·rw[mH h3] at hb;refine F4 c0 c8 t2 t8 t9 t10 t14 hi @aF e2 nk1 nk2 nk3 bs k7 k8 h1 h2 h3 ?_;rw[ec];refine Y0 ?_;exact hb (by simp)
  by_cases h4:1<=r.s
  ·rw[mH h4] at hb;refine QU c0 c8 t2 t8 t9 t10 t14 hi @aF e2 nk1 nk2 nk3 bs k7 k8 h1 h2 h3 h4 ?_;rw[ec];refine Y0 ?_;exact hb (by simp)
  rw[mK h1,mK h2,mK h3,mK h4] at hg;refine QU c0 c8 t2 t8 t9 t10 t14 hi @aF e2 nk1 nk2 nk3 bs k7 k8 h1 h2 h3 h4 ?_;refine hg rfl _ (fun j hj=> ?_) (fun j hj hj2=> ?_);all_goals exact U0
 ·rw[hs] at hb hg;cases tk with
  |true=>
   refine QT c0 c8 t2 t8 t9 t10 t14 hi @aF e2 nk1 nk2 nk3 bs k7 k8 ?_;rw[ec];refine Y0 ?_;exact hb rfl
  |false=>
  by_cases h1:r.n<lo
  ·rw[mH h1] at hb;refine Zw c0 c8 t2 t8 t9 t10 t14 hi @aF e2 nk1 nk2 nk3 bs k7 k8 h1 ?_;rw[ec];refine Y0 ?_;exact hb rfl
  by_cases h2:hi'<r.n
  ·rw[mH h2] at hb;refine WD c0 c8 t2 t8 t9 t10 t14 hi @aF e2 nk1 nk2 nk3 bs k7 k8 h1 h2 ?_;rw[ec];refine Y0 ?_;exact hb (by simp)
  by_cases h3:r.s<0
  ·rw[mH h3] at hb;refine F4 c0 c8 t2 t8 t9 t10 t14 hi @aF e2 nk1 nk2 nk3 bs k7 k8 h1 h2 h3 ?_;rw[ec];refine Y0 ?_;exact hb (by simp)
  by_cases h4:((p.right.length:Int)-1)<=r.s
  ·rw[mH h4] at hb;refine QU c0 c8 t2 t8 t9 t10 t14 hi @aF e2 nk1 nk2 nk3 bs k7 k8 h1 h2 h3 h4 ?_;rw[ec];refine Y0 ?_;exact hb (by simp)
  rw[mK h1,mK h2,mK h3,mK h4] at hg;refine QU c0 c8 t2 t8 t9 t10 t14 hi @aF e2 nk1 nk2 nk3 bs k7 k8 h1 h2 h3 h4 ?_;refine hg rfl _ (fun j hj=> ?_) (fun j hj hj2=> ?_);all_goals exact U0
def Vb {g:Gr} {L:List Ru} {i:Nat} {r:Ru} (hri:L[i]? =some r):zn g L i=(df g r&& !(L.take i).any (fU r)):=by unfold zn;rw[hri];dsimp only;rw[Xo]
def vR {b:Bool} (h:(!b)=true):b=false:=by cases b<;>simp_all
def vS {b:Bool} (h:(!b)=false):b=true:=by cases b<;>simp_all
def s6 {g:Gr} {r:Ru} (h:df g r=true) (hk:r.k=6):1<=r.n:=by
 unfold df at h;rw[if_neg ω,if_neg ω,if_pos hk] at h;simp only[av,decide_eq_true_eq] at h;omega
def vT {g:Gr} {r:Ru} {tk:Bool} {lo hi:Int} (h0:0<=r.p) (h1:r.p<(g.prods.length:Int)) (k1:1<=r.k) (k8:r.k<=8) (hl:(r.k=5/\ lo=1/\ hi=3)∨(r.k=6/\ lo=1/\ hi=16)∨(r.k≠5/\ r.k≠6/\ lo=0/\ hi=0)):
 vp g r tk lo hi= !(df g r&& !tk):=by
 have key:∀a b c d e f:Bool,(a||b||c||d||e)= !(!b&& !c&& !d&& !e&& !a):=by intros a b c d e f;cases a<;>cases b<;>cases c<;>cases d<;>cases e<;>rfl
 unfold vp df;rw[mH h0,mH h1,mH k1,mH k8];cases tk with
 |true=>simp
 |false=>
 by_cases h7:r.k=7∨r.k=8
 ·rw[if_pos h7,if_pos h7];have:lo=0/\ hi=0:=by omega
  rw[this.1,this.2];by_cases a:r.n<0
  ·rw[mH a,mK (show¬r.n=0 by omega)];simp
  by_cases b:0<r.n
  ·rw[mH b,mK (show¬r.n=0 by omega)];simp
  by_cases c:r.s<0
  ·rw[mH c,mK (show¬r.s=0 by omega)];simp
  by_cases d:1<=r.s
  ·rw[mH d,mK (show¬r.s=0 by omega)];simp
  rw[mK a,mK b,mK c,mK d,mH (show r.n=0 by omega),mH (show r.s=0 by omega)];rfl
 ·rw[if_neg h7,if_neg h7];generalize Hq g r.p-1=sl;have e1:decide (0<=r.s)= !decide (r.s<0):=by by_cases q:r.s<0<;>simp[q]<;>omega
  have e2:decide (r.s<sl)= !decide (sl<=r.s):=by by_cases q:r.s<sl<;>simp[q]<;>omega
  have e3:(if r.k=5 then decide (1<=r.n)&&decide (r.n<=3) else if r.k=6 then decide (1<=r.n)&&decide (r.n<=16) else decide (r.n=0))=(!decide (r.n<lo)&& !decide (hi<r.n)):=by
   rcases hl with ⟨q,q1,q2⟩|⟨q,q1,q2⟩|⟨q,q',q1,q2⟩
   ·rw[if_pos q,q1,q2,Je (show(1<=r.n↔¬r.n<1) by omega),Je (show(r.n<=3↔¬3<r.n) by omega)]
   ·rw[if_neg ω,if_pos q,q1,q2,Je (show(1<=r.n↔¬r.n<1) by omega),Je (show(r.n<=16↔¬16<r.n) by omega)]
   ·rw[if_neg q,if_neg q',q1,q2];by_cases a:r.n<0
    ·rw[mH a,mK (show¬r.n=0 by omega)];rfl
    by_cases b:0<r.n
    ·rw[mH b,mK (show¬r.n=0 by omega)];simp
    rw[mK a,mK b,mH (show r.n=0 by omega)];rfl
  rw[e1,e2,e3];cases decide (r.n<lo)<;>cases decide (hi<r.n)<;>cases decide (r.s<0)<;>cases decide (sl<=r.s)<;>rfl
set_option maxHeartbeats 8000000 in
def PZ {C:cQ Prop} (E:gW P X GL fns C) {g:Gr} (G:cM g) {D:List Ru} {r:Ru} {Sp Ns Al Ke} (bk:oV D Sp Ns Al Ke) (hD:∀q∈D,df g q=true) (p0:0<=r.p) (p1:r.p<(g.prods.length:Int)) {m n1:Nat} {S:List Fr} {k:AV ->AH ->Prop} {h:AH} {τ:T AV}
 (hn:m+6<=n1) (hx:n1+2<=h.next) (c0:cG (h.objs.get m)=some (aL g)) (c5:cG (h.objs.get (m+5))=some [.m (m+1),.m (m+2),.m (m+3),.m (m+4)])
 (m1:mG (h.objs.get (m+1))=mX eJ QZ Sp) (m2:mG (h.objs.get (m+2))=mX eJ CC Ns) (m3:mG (h.objs.get (m+3))=mX CC AV.b Al) (m4:mG (h.objs.get (m+4))=mX CC AV.b Ke)
 (c8:cG (h.objs.get n1)=some [.i .i64 r.p,.i .i64 r.s,.i .i64 r.k,.i .i64 r.n]) (c11:cG (h.objs.get (n1+1))=some [.i .i64 r.p,.i .i64 r.s])
 (t2:τ.get 2=some (.p m 0)) (t6:τ.get 6=some (.p (m+5) 0)) (t8:τ.get 8=some (.p n1 0)) (t9:τ.get 9=some (ι 0)) (t10:τ.get 10=some (ι 0)) (t11:τ.get 11=some (.p (n1+1) 0)) (t13:τ.get 13=some (.b (look (r.p,r.s) Sp).isSome)) (t14:τ.get 14=some (.b false)) (t54:τ.get 54=some (ι r.k))
 (hb:(df g r&& !D.any (fU r))=false ->∀h',k (.tu [.pn,.b false]) h')
 (hg:(df g r&& !D.any (fU r))=true ->∀Sp' Ns' Al' Ke' τ' h',oV (D++[r]) Sp' Ns' Al' Ke' ->h.next<=h'.next ->cG (h'.objs.get m)=some (aL g) ->cG (h'.objs.get (m+5))=some [.m (m+1),.m (m+2),.m (m+3),.m (m+4)] ->
  mG (h'.objs.get (m+1))=mX eJ QZ Sp' ->mG (h'.objs.get (m+2))=mX eJ CC Ns' ->mG (h'.objs.get (m+3))=mX CC AV.b Al' ->mG (h'.objs.get (m+4))=mX CC AV.b Ke' ->
  τ'.get 2=τ.get 2 ->τ'.get 6=τ.get 6 ->τ'.get 22=τ.get 22 ->τ'.get 23=τ.get 23 ->τ'.get 24=τ.get 24 ->iZ C .normal S (KF k [(4,none),(5,none)]) τ' h'):
 dk C Hn (.s (.seq CB Ho)::S) (KF k [(4,none),(5,none)]) τ h:=by
 obtain⟨nx,ver,ob⟩:=h;dsimp only at c0 c5 c8 c11 m1 m2 m3 m4 hx;obtain⟨i,hi⟩:∃i:Nat,r.p=(i:Int):=⟨r.p.toNat,by omega⟩;have hil:i<g.prods.length:=by omega
 have muS:∀(a b c:Nat) nx' ver' ob' (τ:T AV),mG (T.get ob' (m+1))=mX eJ QZ Sp ->bp C τ (.t a)= .m (m+1) ->bp C τ (.t b)= .ag [.i .i64 r.p,.i .i64 r.s] ->bp C τ (.t c)= .ag [.i .i64 r.p,.i .i64 r.s,.i .i64 r.k,.i .i64 r.n] ->
  step (bp C τ) ⟨nx',ver',ob'⟩ (.mupd (.ag [(0,1,false,.lf .i),(1,1,false,.lf .i)]) (.t a) (.t b) (.t c))= .v .un ⟨nx',ver'+1,ob'.put (m+1) (.map (ver'+1) (cV eJ QZ 0 (ups (r.p,r.s) r Sp)) (ups (r.p,r.s) r Sp).length)⟩:=
  fun a b c nx' ver' ob' τ q1 q2 q3 q4=>gH (k:=(r.p,r.s)) (v:=r) (en:=QZ) SO (h:=⟨nx',ver',ob'⟩) (bA.2 q1) q2 q3 q4
 have lkN:∀nx' ver' ob' (τ:T AV),mG (T.get ob' (m+2))=mX eJ CC Ns ->bp C τ (.t 81)= .m (m+2) ->bp C τ (.t 82)= .ag [.i .i64 r.p,.i .i64 r.s] ->
  step (bp C τ) ⟨nx',ver',ob'⟩ (.look (.ag [(0,1,false,.lf .i),(1,1,false,.lf .i)]) (.t 81) (.t 82) (ι 0) false)= .v (Iw CC (ι 0) (look (r.p,r.s) Ns)) ⟨nx',ver',ob'⟩:=
  fun nx' ver' ob' τ q1 q2 q3=>j4 (k:=(r.p,r.s)) (z:= .i .i64 0) (en:=CC) SO (h:=⟨nx',ver',ob'⟩) (bA.2 q1) q2 q3
 have muN:∀nx' ver' ob' (τ:T AV),mG (T.get ob' (m+2))=mX eJ CC Ns ->bp C τ (.t 88)= .m (m+2) ->bp C τ (.t 89)= .ag [.i .i64 r.p,.i .i64 r.s] ->bp C τ (.t 91)= .i .i64 r.n ->
  step (bp C τ) ⟨nx',ver',ob'⟩ (.mupd (.ag [(0,1,false,.lf .i),(1,1,false,.lf .i)]) (.t 88) (.t 89) (.t 91))= .v .un ⟨nx',ver'+1,ob'.put (m+2) (.map (ver'+1) (cV eJ CC 0 (ups (r.p,r.s) r.n Ns)) (ups (r.p,r.s) r.n Ns).length)⟩:=
  fun nx' ver' ob' τ q1 q2 q3 q4=>gH (k:=(r.p,r.s)) (v:=r.n) (en:=CC) SO (h:=⟨nx',ver',ob'⟩) (bA.2 q1) q2 q3 q4
 have lkB:∀(o:Nat) (B:List (Int×Bool)) (a b:Nat) nx' ver' ob' (τ:T AV),mG (T.get ob' o)=mX CC AV.b B ->bp C τ (.t a)= .m o ->bp C τ (.t b)= .i .i64 r.p ->
  step (bp C τ) ⟨nx',ver',ob'⟩ (.look (.lf .i) (.t a) (.t b) (.b false) false)= .v (Iw AV.b (.b false) (look r.p B)) ⟨nx',ver',ob'⟩:=
  fun o B a b nx' ver' ob' τ q1 q2 q3=>j4 (k:=r.p) (z:= .b false) (en:=AV.b) M5 (h:=⟨nx',ver',ob'⟩) (bA.2 q1) q2 q3
 have muB:∀(o:Nat) (B:List (Int×Bool)) (a b:Nat) nx' ver' ob' (τ:T AV),mG (T.get ob' o)=mX CC AV.b B ->bp C τ (.t a)= .m o ->bp C τ (.t b)= .i .i64 r.p ->
  step (bp C τ) ⟨nx',ver',ob'⟩ (.mupd (.lf .i) (.t a) (.t b) (.c (.b true)))= .v .un ⟨nx',ver'+1,ob'.put o (.map (ver'+1) (cV CC AV.b 0 (ups r.p true B)) (ups r.p true B).length)⟩:=
  fun o B a b nx' ver' ob' τ q1 q2 q3=>gH (k:=r.p) (v:=true) (en:=AV.b) M5 (h:=⟨nx',ver',ob'⟩) (bA.2 q1) q2 q3 rfl
 rw[Xm] at lkN;simp only[Xn] at lkB;have lkA:=lkB (m+3) Al 97 99;have lkK:=lkB (m+4) Ke 112 114;have muA:=muB (m+3) Al 104 106;have muK:=muB (m+4) Ke 119 121;clear lkB muB;unfold Hn;by_cases k0:1<=r.k/\ r.k<=8;rotate_left
 ·have e1:(r.k=1)=False:=eq_false ω;have e2:(r.k=2)=False:=eq_false ω;have e3:(r.k=3)=False:=eq_false ω;have e4:(r.k=4)=False:=eq_false ω;have e5:(r.k=5)=False:=eq_false ω;have e6:(r.k=6)=False:=eq_false ω;have e7:(r.k=7)=False:=eq_false ω;have e8:(r.k=8)=False:=eq_false ω;refine Y9 t54 e1 e2 e3 e4 e5 e6 e7 e8 ?_;rw[ec];simp(disch:=omega) only[↓ky E.ok,Nat.reduceEqDiff,Nat.reduceAdd,Nat.reduceMul,Nat.reduceLT,Nat.reduceShiftRight,Nat.reduceAnd,Nat.reduceBneDiff,↓reduceIte,Int.reduceLT,Int.reduceLE,Int.reduceEq,go_sem];refine hb ?_ _;unfold df;by_cases q:1<=r.k
  ·rw[mK (show¬r.k<=8 by omega)];simp
  ·rw[mK q];simp
 by_cases q:r.k=1
 ·have e1:(r.k=1)=True:=eq_true q;have bb:vp g r ((look (r.p,r.s) Sp).isSome) 0 0= !(df g r&& !(look (r.p,r.s) Sp).isSome):=vT p0 p1 k0.1 k0.2 (.inr (.inr ⟨by omega,by omega,rfl,rfl⟩));have bb2:(!(df g r&& !(look (r.p,r.s) Sp).isSome))= !(df g r&& !D.any (fU r)):=by rw[bk.t1 ω ω]
  rw[bb2] at bb;refine TQ c0 c5 c8 c11 t2 t6 t8 t9 t10 t11 t13 t14 t54 e1 muS m1 ?_;refine m7 E G hi hil (tk:=(look (r.p,r.s) Sp).isSome) (lo:=0) (hi':=0) (m:=m) (n1:=n1) (W0 c0) (W0 c8) (W0 t2) (W0 t8) (W0 t9) (W0 t10) U0 (fun e=>hb (vR (bb▸e)) _) (fun e τ' a1 a2=>hg (vS (bb▸e)) (ups (r.p,r.s) r Sp) Ns Al Ke τ' _ (bk.sep ω ω) (bK _) (W0 c0) (W0 c5) U0 (W0 m2) (W0 m3) (W0 m4) ?_ ?_ ?_ ?_ ?_)
  ·rw[a1 2 ω];exact U0
  ·rw[a1 6 ω];exact U0
  ·rw[a2 22 ω ω];exact U0
  ·rw[a2 23 ω ω];exact U0
  ·rw[a2 24 ω ω];exact U0
 by_cases q:r.k=2
 ·have e1:(r.k=1)=False:=eq_false ω;have e2:(r.k=2)=True:=eq_true q;have bb:vp g r ((look (r.p,r.s) Sp).isSome) 0 0= !(df g r&& !(look (r.p,r.s) Sp).isSome):=vT p0 p1 k0.1 k0.2 (.inr (.inr ⟨by omega,by omega,rfl,rfl⟩));have bb2:(!(df g r&& !(look (r.p,r.s) Sp).isSome))= !(df g r&& !D.any (fU r)):=by rw[bk.t1 ω ω]
  rw[bb2] at bb;refine Z17 c0 c5 c8 c11 t2 t6 t8 t9 t10 t11 t13 t14 t54 e1 e2 muS m1 ?_;refine m7 E G hi hil (tk:=(look (r.p,r.s) Sp).isSome) (lo:=0) (hi':=0) (m:=m) (n1:=n1) (W0 c0) (W0 c8) (W0 t2) (W0 t8) (W0 t9) (W0 t10) U0 (fun e=>hb (vR (bb▸e)) _) (fun e τ' a1 a2=>hg (vS (bb▸e)) (ups (r.p,r.s) r Sp) Ns Al Ke τ' _ (bk.sep ω ω) (bK _) (W0 c0) (W0 c5) U0 (W0 m2) (W0 m3) (W0 m4) ?_ ?_ ?_ ?_ ?_)
  ·rw[a1 2 ω];exact U0
  ·rw[a1 6 ω];exact U0
  ·rw[a2 22 ω ω];exact U0
  ·rw[a2 23 ω ω];exact U0
  ·rw[a2 24 ω ω];exact U0
 by_cases q:r.k=3
 ·have e1:(r.k=1)=False:=eq_false ω;have e2:(r.k=2)=False:=eq_false ω;have e3:(r.k=3)=True:=eq_true q;have bb:vp g r ((look (r.p,r.s) Sp).isSome) 0 0= !(df g r&& !(look (r.p,r.s) Sp).isSome):=vT p0 p1 k0.1 k0.2 (.inr (.inr ⟨by omega,by omega,rfl,rfl⟩));have bb2:(!(df g r&& !(look (r.p,r.s) Sp).isSome))= !(df g r&& !D.any (fU r)):=by rw[bk.t1 ω ω]
  rw[bb2] at bb;refine WF c0 c5 c8 c11 t2 t6 t8 t9 t10 t11 t13 t14 t54 e1 e2 e3 muS m1 ?_;refine m7 E G hi hil (tk:=(look (r.p,r.s) Sp).isSome) (lo:=0) (hi':=0) (m:=m) (n1:=n1) (W0 c0) (W0 c8) (W0 t2) (W0 t8) (W0 t9) (W0 t10) U0 (fun e=>hb (vR (bb▸e)) _) (fun e τ' a1 a2=>hg (vS (bb▸e)) (ups (r.p,r.s) r Sp) Ns Al Ke τ' _ (bk.sep ω ω) (bK _) (W0 c0) (W0 c5) U0 (W0 m2) (W0 m3) (W0 m4) ?_ ?_ ?_ ?_ ?_)
  ·rw[a1 2 ω];exact U0
  ·rw[a1 6 ω];exact U0
  ·rw[a2 22 ω ω];exact U0
  ·rw[a2 23 ω ω];exact U0
  ·rw[a2 24 ω ω];exact U0
 by_cases q:r.k=4
 ·have e1:(r.k=1)=False:=eq_false ω;have e2:(r.k=2)=False:=eq_false ω;have e3:(r.k=3)=False:=eq_false ω;have e4:(r.k=4)=True:=eq_true q;have bb:vp g r ((look (r.p,r.s) Sp).isSome) 0 0= !(df g r&& !(look (r.p,r.s) Sp).isSome):=vT p0 p1 k0.1 k0.2 (.inr (.inr ⟨by omega,by omega,rfl,rfl⟩));have bb2:(!(df g r&& !(look (r.p,r.s) Sp).isSome))= !(df g r&& !D.any (fU r)):=by rw[bk.t1 ω ω]
  rw[bb2] at bb;refine Z19 c0 c5 c8 c11 t2 t6 t8 t9 t10 t11 t13 t14 t54 e1 e2 e3 e4 muS m1 ?_;refine m7 E G hi hil (tk:=(look (r.p,r.s) Sp).isSome) (lo:=0) (hi':=0) (m:=m) (n1:=n1) (W0 c0) (W0 c8) (W0 t2) (W0 t8) (W0 t9) (W0 t10) U0 (fun e=>hb (vR (bb▸e)) _) (fun e τ' a1 a2=>hg (vS (bb▸e)) (ups (r.p,r.s) r Sp) Ns Al Ke τ' _ (bk.sep ω ω) (bK _) (W0 c0) (W0 c5) U0 (W0 m2) (W0 m3) (W0 m4) ?_ ?_ ?_ ?_ ?_)
  ·rw[a1 2 ω];exact U0
  ·rw[a1 6 ω];exact U0
  ·rw[a2 22 ω ω];exact U0
  ·rw[a2 23 ω ω];exact U0
  ·rw[a2 24 ω ω];exact U0
 by_cases q:r.k=5
 ·have e1:(r.k=1)=False:=eq_false ω;have e2:(r.k=2)=False:=eq_false ω;have e3:(r.k=3)=False:=eq_false ω;have e4:(r.k=4)=False:=eq_false ω;have e5:(r.k=5)=True:=eq_true q;have bb:vp g r ((look (r.p,r.s) Sp).isSome) 1 3= !(df g r&& !(look (r.p,r.s) Sp).isSome):=vT p0 p1 k0.1 k0.2 (.inl ⟨q,rfl,rfl⟩);have bb2:(!(df g r&& !(look (r.p,r.s) Sp).isSome))= !(df g r&& !D.any (fU r)):=by rw[bk.t1 ω ω]
  rw[bb2] at bb;refine Z20 c0 c5 c8 c11 t2 t6 t8 t9 t10 t11 t13 t14 t54 e1 e2 e3 e4 e5 muS m1 ?_;refine m7 E G hi hil (tk:=(look (r.p,r.s) Sp).isSome) (lo:=1) (hi':=3) (m:=m) (n1:=n1) (W0 c0) (W0 c8) (W0 t2) (W0 t8) U0 U0 U0 (fun e=>hb (vR (bb▸e)) _) (fun e τ' a1 a2=>hg (vS (bb▸e)) (ups (r.p,r.s) r Sp) Ns Al Ke τ' _ (bk.sep ω ω) (bK _) (W0 c0) (W0 c5) U0 (W0 m2) (W0 m3) (W0 m4) ?_ ?_ ?_ ?_ ?_)
  ·rw[a1 2 ω];exact U0
  ·rw[a1 6 ω];exact U0
  ·rw[a2 22 ω ω];exact U0
  ·rw[a2 23 ω ω];exact U0
  ·rw[a2 24 ω ω];exact U0
 by_cases q:r.k=6
 ·have e1:(r.k=1)=False:=eq_false ω;have e2:(r.k=2)=False:=eq_false ω;have e3:(r.k=3)=False:=eq_false ω;have e4:(r.k=4)=False:=eq_false ω;have e5:(r.k=5)=False:=eq_false ω;have e6:(r.k=6)=True:=eq_true q;have bb:vp g r (decide (0<(look (r.p,r.s) Ns).getD 0)) 1 16= !(df g r&& !decide (0<(look (r.p,r.s) Ns).getD 0)):=vT p0 p1 k0.1 k0.2 (.inr (.inl ⟨q,rfl,rfl⟩));have bb2:(!(df g r&& !decide (0<(look (r.p,r.s) Ns).getD 0)))= !(df g r&& !D.any (fU r)):=by rw[bk.t2 q]
  rw[bb2] at bb;refine Z22 c0 c5 c8 c11 t2 t6 t8 t9 t10 t11 t13 t14 t54 e1 e2 e3 e4 e5 e6 lkN muN m2 ?_;refine m7 E G hi hil (tk:=decide (0<(look (r.p,r.s) Ns).getD 0)) (lo:=1) (hi':=16) (m:=m) (n1:=n1) ?_ ?_ ?_ ?_ ?_ ?_ ?_ (fun e=>hb (vR (bb▸e)) _) (fun e τ' a1 a2=>hg (vS (bb▸e)) Sp (ups (r.p,r.s) r.n Ns) Al Ke τ' _ (bk.nest q (s6 (g:=g) (by rw[bb] at e;revert e;cases df g r<;>simp) q)) (bK _) ?_ ?_ ?_ ?_ ?_ ?_ ?_ ?_ ?_ ?_ ?_)
  ·exact W0 c0
  ·exact W0 c8
  ·exact W0 t2
  ·exact W0 t8
  ·exact U0
  ·exact U0
  ·exact U0
  ·exact W0 c0
  ·exact W0 c5
  ·exact W0 m1
  ·exact U0
  ·exact W0 m3
  ·exact W0 m4
  ·rw[a1 2 ω];exact U0
  ·rw[a1 6 ω];exact U0
  ·rw[a2 22 ω ω];exact U0
  ·rw[a2 23 ω ω];exact U0
  ·rw[a2 24 ω ω];exact U0
 by_cases q:r.k=7
 ·have e1:(r.k=1)=False:=eq_false ω;have e2:(r.k=2)=False:=eq_false ω;have e3:(r.k=3)=False:=eq_false ω;have e4:(r.k=4)=False:=eq_false ω;have e5:(r.k=5)=False:=eq_false ω;have e6:(r.k=6)=False:=eq_false ω;have e7:(r.k=7)=True:=eq_true q;have bb:vp g r ((look r.p Al).getD false) 0 0= !(df g r&& !(look r.p Al).getD false):=vT p0 p1 k0.1 k0.2 (.inr (.inr ⟨by omega,by omega,rfl,rfl⟩));have bb2:(!(df g r&& !(look r.p Al).getD false))= !(df g r&& !D.any (fU r)):=by
   cases hr:df g r with
   |false=>rfl
   |true=>rw[bk.t3 q (s78 hr (.inl q)) hD]
  rw[bb2] at bb;refine Z23 c0 c5 c8 c11 t2 t6 t8 t9 t10 t11 t13 t14 t54 e1 e2 e3 e4 e5 e6 e7 lkA muA m3 ?_;refine m7 E G hi hil (tk:=(look r.p Al).getD false) (lo:=0) (hi':=0) (m:=m) (n1:=n1) (W0 c0) (W0 c8) (W0 t2) (W0 t8) (W0 t9) (W0 t10) U0 (fun e=>hb (vR (bb▸e)) _) (fun e τ' a1 a2=>hg (vS (bb▸e)) Sp Ns (ups r.p true Al) Ke τ' _ (bk.algn q) (bK _) (W0 c0) (W0 c5) (W0 m1) (W0 m2) U0 (W0 m4) ?_ ?_ ?_ ?_ ?_)
  ·rw[a1 2 ω];exact U0
  ·rw[a1 6 ω];exact U0
  ·rw[a2 22 ω ω];exact U0
  ·rw[a2 23 ω ω];exact U0
  ·rw[a2 24 ω ω];exact U0
 by_cases q:r.k=8
 ·have e1:(r.k=1)=False:=eq_false ω;have e2:(r.k=2)=False:=eq_false ω;have e3:(r.k=3)=False:=eq_false ω;have e4:(r.k=4)=False:=eq_false ω;have e5:(r.k=5)=False:=eq_false ω;have e6:(r.k=6)=False:=eq_false ω;have e7:(r.k=7)=False:=eq_false ω;have e8:(r.k=8)=True:=eq_true q;have bb:vp g r ((look r.p Ke).getD false) 0 0= !(df g r&& !(look r.p Ke).getD false):=vT p0 p1 k0.1 k0.2 (.inr (.inr ⟨by omega,by omega,rfl,rfl⟩));have bb2:(!(df g r&& !(look r.p Ke).getD false))= !(df g r&& !D.any (fU r)):=by
   cases hr:df g r with
   |false=>rfl
   |true=>rw[bk.t4 q (s78 hr (.inr q)) hD]
  rw[bb2] at bb;refine Z24 c0 c5 c8 c11 t2 t6 t8 t9 t10 t11 t13 t14 t54 e1 e2 e3 e4 e5 e6 e7 e8 lkK muK m4 ?_;refine m7 E G hi hil (tk:=(look r.p Ke).getD false) (lo:=0) (hi':=0) (m:=m) (n1:=n1) (W0 c0) (W0 c8) (W0 t2) (W0 t8) (W0 t9) (W0 t10) U0 (fun e=>hb (vR (bb▸e)) _) (fun e τ' a1 a2=>hg (vS (bb▸e)) Sp Ns Al (ups r.p true Ke) τ' _ (bk.keep q) (bK _) (W0 c0) (W0 c5) (W0 m1) (W0 m2) (W0 m3) U0 ?_ ?_ ?_ ?_ ?_)
  ·rw[a1 2 ω];exact U0
  ·rw[a1 6 ω];exact U0
  ·rw[a2 22 ω ω];exact U0
  ·rw[a2 23 ω ω];exact U0
  ·rw[a2 24 ω ω];exact U0
 omega
set_option maxHeartbeats 8000000 in
def Hr {C:cQ Prop} (E:gW P X GL fns C) (F:uj fns) {g:Gr} (G:cM g) {L:List Ru} {nl:Bool} (hL:L.length<=1000) (h:AH) (k:AV ->AH ->Prop) (hk:∀v h',k (.tu [v,.b (jm g L)]) h'):
 bZ C 21 [b9 g,eR dW 4 nl L] h k:=by
 obtain⟨m,ver,ob⟩:=h;have nk1:aJ 64 (eR dW 4 nl L)=true:=aT kF;have nkg:aJ 64 (.ag (aL g))=true:=by rw[fH,gY]
 have nk2:∀k,aJ 64 (.dp (L.flatMap dW) k)=true:=fun k=>by rw[di,bu kF]
 simp only[aL] at nkg;have pl:=G.pl;rw[aA E.ok (E.get F.f21)];refine Y5 @ac0.eq_1 @b9.eq_1 @aL.eq_1 nkg @bV ?_;refine aX E.ok L.length (fun i τ h=>∃Sp Ns Al Ke,oV (L.take i) Sp Ns Al Ke/\ (∀j,j<i ->zn g L j=true)/\ m+6<=h.next/\ cG (h.objs.get m)=some (aL g)/\ cG (h.objs.get (m+5))=some [.m (m+1),.m (m+2),.m (m+3),.m (m+4)]/\
  mG (h.objs.get (m+1))=mX eJ QZ Sp/\ mG (h.objs.get (m+2))=mX eJ CC Ns/\ mG (h.objs.get (m+3))=mX CC AV.b Al/\ mG (h.objs.get (m+4))=mX CC AV.b Ke/\
  τ.get 2=some (.p m 0)/\ τ.get 6=some (.p (m+5) 0)/\ τ.get 22=some (eR dW 4 nl L)/\ τ.get 23=some (ι (L.length:Int))/\ τ.get 24=some (ι (i:Int))) ?_ ?_ _ _ ⟨[],[],[],[],oV.nil,fun j hj=>by omega,bK _,?_,?_,?_,?_,?_,?_,?_,?_,?_,?_,?_⟩
 ·rintro i τ ⟨n1,v1,ob1⟩ hi ⟨Sp,Ns,Al,Ke,bk,hok,hn,c0,c5,m1,m2,m3,m4,t2,t6,t22,t23,t24⟩ ih;have hn':m+6<=n1:=hn;dsimp only at c0 c5 m1 m2 m3 m4;have c0':=c0;simp only[aL] at c0;have hri:L[i]? =some L[i]:=ba hi;generalize hr:L[i]=r at hri;have e4:sub (L.flatMap dW) (i*4) 4=some (dW r):=aB qL hri (j:=0) (n:=4) ω;simp only[dW] at e4;have oa:=Vb (g:=g) hri;have bad:zn g L i=false ->∀h',k (.tu [.pn,.b false]) h':=fun h h'=>by
   have:=hk .pn h';rw[yM hi h] at this;exact this
  by_cases h1:r.p<0
  ·refine QV c0 c5 t2 t6 t22 t23 t24 @aF e4 nk1 nk2 nkg h1 ?_;exact bad (by rw[oa];unfold df;rw[mK (show¬0<=r.p by omega)];rfl) _
  by_cases h2:(g.prods.length:Int)<=r.p
  ·refine Yq c0 c5 t2 t6 t22 t23 t24 @aF e4 nk1 nk2 nkg h1 h2 ?_;exact bad (by rw[oa];unfold df;rw[mK (show¬r.p<(g.prods.length:Int) by omega)];simp) _
  have lkS:∀nx' ver' ob' (τ:T AV),mG (T.get ob' (m+1))=mX eJ QZ Sp ->bp C τ (.t 48)= .m (m+1) ->bp C τ (.t 49)=eJ (r.p,r.s) ->
   step (bp C τ) ⟨nx',ver',ob'⟩ (.look (.ag [(0,1,false,.lf .i),(1,1,false,.lf .i)]) (.t 48) (.t 49) (.ag [.i .i64 0,.i .i64 0,.i .i64 0,.i .i64 0]) true)= .v (sQ QZ (.ag [.i .i64 0,.i .i64 0,.i .i64 0,.i .i64 0]) (look (r.p,r.s) Sp)) ⟨nx',ver',ob'⟩:=
   fun nx' ver' ob' τ q1 q2 q3=>kx (k:=(r.p,r.s)) (z:= .ag [.i .i64 0,.i .i64 0,.i .i64 0,.i .i64 0]) (en:=QZ) SO (h:=⟨nx',ver',ob'⟩) (bA.2 q1) q2 q3
  simp only[Xl,eJ] at lkS;refine Z19 c0 c5 t2 t6 t22 t23 t24 @aF e4 nk1 nk2 nkg h1 h2 lkS m1 m2 m3 m4 ?_;refine PZ (r:=r) (n1:=n1) E G bk (fun q hq=> ?_) ω ω hn' ?_ ?_ ?_ ?_ ?_ ?_ ?_ ?_ ?_ ?_ ?_ ?_ ?_ ?_ ?_ ?_ ?_ ?_ (fun e h'=>bad (by rw[oa];exact e) h') (fun e Sp' Ns' Al' Ke' τ' h' bk' nx' d0 d5 w1 w2 w3 w4 s2 s6 s22 s23 s24=> ?_)
  ·obtain⟨j,hj⟩:=List.mem_iff_getElem?.1 hq;rw[iL] at hj;split at hj
   ·rename_i hji;have:=hok j hji;rw[Vb hj] at this;exact(lV.1 this).1
   ·cases hj
  ·show n1+2<=n1+1+1+1;omega
  ·exact W0 c0'
  ·exact W0 c5
  ·exact W0 m1
  ·exact W0 m2
  ·exact W0 m3
  ·exact W0 m4
  ·exact U0
  ·exact U0
  rotate_right
  ·obtain⟨n2,v2,ob2⟩:=h';simp(disch:=omega) only[cF,T.get_put,if_false,t2,t6,t22,t23,t24] at s2 s6 s22 s23 s24;refine Y6 s2 s6 s22 s23 s24 @ar ?_;refine ih _ _ ⟨Sp',Ns',Al',Ke',?_,fun j hj=> ?_,?_,d0,d5,w1,w2,w3,w4,?_,?_,?_,?_,?_⟩
   ·rw[eP hri];exact bk'
   ·by_cases q:j=i
    ·subst q;rw[oa];exact e
    ·exact hok j ω
   ·have:n1+1+1+1<=n2:=nx';show m+6<=n2;omega
   all_goals exact U4 s2 s6 s22 s23
  all_goals exact U2 t2 t6
 ·rintro τ ⟨n1,v1,ob1⟩ ⟨Sp,Ns,Al,Ke,bk,hok,hn,c0,c5,m1,m2,m3,m4,t2,t6,t22,t23,t24⟩;refine Y5 t2 t6 t22 t23 t24 ?_;rw[AL hok] at hk;exact hk _ _
 ·exact U1 @aL.eq_1
 ·exact U0
 ·exact U0
 ·exact U0
 ·exact U0
 ·exact U0
 all_goals exact U0
def sM (g:Gr) (L:List Ru):AV:= .i .i64 (if jm g L then 0 else 270)
def Hs {n:Nat} {h:AH} {nl:Bool} {L:List Ru}:aH (n+1) h (eR dW 4 nl L)=some (eR dW 4 nl L):=aM fun a=>ul a
def EH (S:aw P X GL fns) (A:bh P X GL) (D:gD fns) (FA:qd fns) (Q:jJ fns) (F:uj fns) (hg:GL=SE) {g:Gr} (G:cM g) {Z:Nat ->Bool} (Y:yG g Z) (pn:1<=g.prods.length) {L:List Ru} {nl:Bool} (hL:L.length<=1000):aZ P X GL fns 7 [b9 g,eR dW 4 nl L] (sM g L):=by
 refine aZ.intro fun C E=> ?_
 have fc:=fun h=>Hm S A D FA Q hg G Y pn h
 have op:=fun h k hk=>Hr (C:=C) (nl:=nl) E F G hL h k hk
 have nk1:aJ 64 (eR dW 4 nl L)=true:=aT kF;have nkg:aJ 64 (.ag (aL g))=true:=by rw[fH,gY]
 simp only[aL] at nkg;simp only[b9,aL] at fc op;rw[aA E.ok (E.get F.f7)];refine Y6 @fn7.eq_1 @b9.eq_1 @aL.eq_1 nkg nk1 @h0.eq_1 ?_;refine E.con (fc _) ?_;refine Y5 @b9.eq_1 @aL.eq_1 nkg nk1 @h0.eq_1 ?_;refine E.run (op _ _ fun v h'=> ?_);unfold sM;obtain⟨n2,v2,ob2⟩:=h';cases jm g L with
 |true=>refine Y0 ?_;exact⟨1,rfl⟩
 |false=>refine Y0 ?_;exact⟨1,rfl⟩
def KR (S:aw P X GL fns) (R:dr fns) (A:bh P X GL) (Q:gf fns) (FF:vZ fns) (F:uj fns) {g:Gr} (G:cM g) {Z:Nat ->Bool} (Y:yG g Z) {L:List Ru} {nl:Bool} (hL:L.length<=1000):aZ P X GL fns 8 [b9 g,eR dW 4 nl L] (sM g L):=by
 refine aZ.intro fun C E=> ?_
 have rf:=fun h=>Ha S R A Q FF G Y h
 have vc:∀h,dq P X GL 19 [b9 g,eR dW 4 nl L] h (.b (jm g L)) h:=fun h=>aE S (n:=9) (oU S F G hL) (by
  rw[af,af,ay,Hs,i7]) h
 have nk1:aJ 64 (eR dW 4 nl L)=true:=aT kF;have nkg:aJ 64 (.ag (aL g))=true:=by rw[fH,gY]
 simp only[aL] at nkg;simp only[b9,aL] at rf vc;rw[aA E.ok (E.get F.f8)];refine Y6 @fn8.eq_1 @b9.eq_1 @aL.eq_1 nkg nk1 @h0.eq_1 ?_;refine E.con (rf _) ?_;refine Y5 @b9.eq_1 @aL.eq_1 nkg nk1 @h0.eq_1 ?_;refine E.con (vc _) ?_;unfold sM;cases jm g L with
 |true=>refine Y2 nkg nk1 ?_;exact⟨1,rfl⟩
 |false=>refine Y2 nkg nk1 ?_;exact⟨1,rfl⟩
end
end
end AM
