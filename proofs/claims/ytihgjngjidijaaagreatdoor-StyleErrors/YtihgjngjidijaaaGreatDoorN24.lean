import Derived.Test.YtihgjngjidijaaaGreatDoorN23
set_option linter.all false
set_option maxHeartbeats 8000000
namespace AM
open Dg Go
noncomputable section
structure Ru where
 p:Int
 s:Int
 k:Int
 n:Int
def cM (r:Ru):List AV:=[ι r.p,ι r.s,ι r.k,ι r.n]
def zc (r:Ru):(cM r).length=4:=rfl
def oT (k:Int):Bool:=decide (1<=k)&&decide (k<=5)
def iY (x y:Ru):Bool:=decide (x.p=y.p)&&decide (x.s=y.s)&&(decide (x.k=y.k)||(oT x.k&&oT y.k))
def xc (g:Gr) (p:Int):Int:=(((g.pR[p.toNat]?).map λq=>(q.right.length:Int)).getD 0)
def eP (g:Gr) (r:Ru):Bool:=decide (0<=r.p)&&decide (r.p<(g.pR.length:Int))&&decide (1<=r.k)&&decide (r.k<=8)&&
 (if r.k=7∨r.k=8 then decide (r.s=0)&&decide (r.n=0) else
  (if r.k=5 then decide (1<=r.n)&&decide (r.n<=3) else if r.k=6 then decide (1<=r.n)&&decide (r.n<=16) else decide (r.n=0))&&decide (0<=r.s)&&decide (r.s<xc g r.p-1))
def eW {p:Prop} [Decidable p] (h:p):decide p=true:=zG h
def fe {p:Prop} [Decidable p] (h:¬p):decide p=false:=ot h
variable {P:Program} {X:aR} {GL:T (List AV)} {ae:T au}
variable (S:aT P X GL ae)
def aW5 (F:li ae) (k:Int) (h:AH):bP P X GL 174 [ι k] h (.b (oT k)) h:=by
 refine dR S (n:=9) ?_ (by simp only[aL,bZ,dH]) h;refine bg.intro λC E=> ?_;rw[E.cB F.f174];by_cases h1:1<=k
 ·refine Y3 @HN.eq_1 @h0.eq_1 h1 ?_;unfold oT;rw[eW h1];exact⟨1,rfl⟩
 ·refine Y3 @HN.eq_1 @h0.eq_1 h1 ?_;unfold oT;rw[fe h1];exact⟨1,rfl⟩
def aW6 (F:li ae) (x y:Ru) (h:AH):bP P X GL 89 [.ag (cM x),.ag (cM y)] h (.b (iY x y)) h:=by
 refine dR S (n:=9) ?_ (by simp only[aL,bZ,cM];rfl) h;refine bg.intro λC E=> ?_;have sc:=λk h=>aW5 (GL:=GL) S F k h;unfold iY;rw[E.cB F.f89];by_cases h1:x.p=y.p
 ·by_cases h2:x.s=y.s
  ·by_cases h3:x.k=y.k
   ·refine Y6 @AX.eq_1 @cM.eq_1 @h0.eq_1 h1 h2 h3 ?_;exact⟨1,rfl⟩
   ·refine Y6 @AX.eq_1 @cM.eq_1 @h0.eq_1 h1 h2 h3 ?_;refine E.cN (sc _ _) ?_;cases h4:oT x.k with
    |false=>refine Y0 ?_;exact⟨1,rfl⟩
    |true=>
     refine Y0 ?_;refine E.cN (sc _ _) (Y0 ?_);cases oT y.k<;>exact⟨1,rfl⟩
  ·refine Y5 @AX.eq_1 @cM.eq_1 @h0.eq_1 h1 h2 ?_;exact⟨1,rfl⟩
 ·refine Y4 @AX.eq_1 @cM.eq_1 @h0.eq_1 h1 ?_;exact⟨1,rfl⟩
def aW7 (F:li ae) {g:Gr} (G:ce g) (r:Ru) (h:AH):bP P X GL 88 [aI g,.ag (cM r)] h (.b (eP g r)) h:=by
 refine ku S (λn h=>rfl) ?_ h;refine bg.intro λC E=> ?_;have pl:=G.pl;rw[E.cB F.f88];unfold eP;by_cases h1:r.p<0
 ·have h1':¬0<=r.p:=by omega
  refine Y8 @lU.eq_1 @cM.eq_1 @aI.eq_1 @ar.eq_1 @h0.eq_1 h1 h1' @pQ ?_;exact⟨1,rfl⟩
 have h1':0<=r.p:=by omega
 by_cases h2:(g.pR.length:Int)<=r.p
 ·have h2':¬r.p<(g.pR.length:Int):=by omega
  refine jC @lU.eq_1 @cM.eq_1 @aI.eq_1 @ar.eq_1 @h0.eq_1 h1 h1' h2 h2' @pQ @pP ?_;exact⟨1,rfl⟩
 have h2':r.p<(g.pR.length:Int):=by omega
 by_cases h3:r.k<1
 ·have h3':¬1<=r.k:=by omega
  refine qk @lU.eq_1 @cM.eq_1 @aI.eq_1 @ar.eq_1 @h0.eq_1 h1 h1' h2 h2' h3 h3' @pQ @pP @uh ?_;exact⟨1,rfl⟩
 have h3':1<=r.k:=by omega
 by_cases h4:8<r.k
 ·have h4':¬r.k<=8:=by omega
  refine pq @lU.eq_1 @cM.eq_1 @aI.eq_1 @ar.eq_1 @h0.eq_1 h1 h1' h2 h2' h3 h3' h4 h4' @pQ @pP @uh ?_;exact⟨1,rfl⟩
 have h4':r.k<=8:=by omega
 obtain⟨i,hi⟩:∃i:Nat,r.p=(i:Int):=⟨r.p.toNat,by omega⟩;have hil:i<g.pR.length:=by omega
 have hpi:g.pR[i]? =some g.pR[i]:=cE hil;generalize hp:g.pR[i]=p at hpi;have pk:=G.p p (dI hpi);have rl:=pk.len;have hrl:xc g (i:Int)=(p.right.length:Int):=by unfold xc;rw[show((i:Int)).toNat=i from rfl,hpi];rfl
 have e2:sub (g.pR.flatMap aM) (i*13+2) 1=some [eR ba 2 p.rn p.right]:=cW kr hpi (j:=2) (n:=1) ω;rw[hi] at h1 h1' h2 h2';have db:nice 64 (eR aM 13 true g.pR)=true:=dg iV;have dk:∀k,nice 64 (.dp (g.pR.flatMap aM) k)=true:=λk=>by rw[fK,fE iV]
 have nk3:nice 64 (eR ba 2 p.rn p.right)=true:=dg jE;rw[hi,hrl,eW h1',eW h2',eW h3',eW h4'];by_cases k7:r.k=7
 ·by_cases s0:r.s=0
  ·refine qk @lU.eq_1 @cM.eq_1 @aI.eq_1 @ar.eq_1 @h0.eq_1 hi h1 h2 h3 h4 k7 s0 @uh @true_or ?_;exact⟨1,rfl⟩
  ·refine sB @lU.eq_1 @cM.eq_1 @aI.eq_1 @ar.eq_1 @h0.eq_1 hi h1 h2 h3 h4 k7 s0 @uh @pQ @true_or ?_;exact⟨1,rfl⟩
 by_cases k8:r.k=8
 ·by_cases s0:r.s=0
  ·refine sB @lU.eq_1 @cM.eq_1 @aI.eq_1 @ar.eq_1 @h0.eq_1 hi h1 h2 h3 h4 k7 k8 s0 @uh @or_true ?_;exact⟨1,rfl⟩
  ·refine pq @lU.eq_1 @cM.eq_1 @aI.eq_1 @ar.eq_1 @h0.eq_1 hi h1 h2 h3 h4 k7 k8 s0 @uh @pQ @or_true ?_;exact⟨1,rfl⟩
 rw[aD (λh=>h.elim k7 k8)];have slot:∀(b:Bool),b=true ->∀τ ver ob,τ.get 2=some (.p 0 0) ->τ.get 3=some (.p 1 0) ->cG (T.get ob 0)=some (ar g) ->cG (T.get ob 1)=some [ι (i:Int),ι r.s,ι r.k,ι r.n] ->df C HK [.s .ret] (KF (λx h=>∃n,deep n h x=some (.b (true&&true&&true&&true&&(b&&decide (0<=r.s)&&decide (r.s<(p.right.length:Int)-1))))) [(4,none)]) τ ⟨2,ver,ob⟩:=by
  intro b hb τ ver ob t2 t3 c0 c1;subst hb;simp only[ar] at c0;unfold HK;have bs:aY .sub (ι (p.right.length:Int)) (ι 1)=some (ι ((p.right.length:Int)-1)):=rX ⟨by omega,by omega⟩;by_cases s0:0<=r.s
  ·by_cases s1:r.s<(p.right.length:Int)-1
   ·rw[eW s0,eW s1];refine iU t2 t3 c0 c1 s0 s1 @bG e2 db dk nk3 bs ?_;exact⟨1,rfl⟩
   ·rw[eW s0,fe s1];refine iU t2 t3 c0 c1 s0 s1 @bG e2 db dk nk3 bs ?_;exact⟨1,rfl⟩
  ·rw[fe s0];refine iU t2 t3 c0 c1 s0 @bG e2 db dk nk3 @pP @pQ ?_;exact⟨1,rfl⟩
 by_cases k5:r.k=5
 ·by_cases n1:r.n<1
  ·have n1':¬1<=r.n:=by omega
   refine qp @lU.eq_1 @cM.eq_1 @aI.eq_1 @ar.eq_1 @h0.eq_1 hi h1 h2 h3 h4 k7 k8 k5 n1 n1' @pQ @pP ?_;exact⟨1,rfl⟩
  by_cases n3:3<r.n
  ·have n3':¬r.n<=3:=by omega
   refine kJ @lU.eq_1 @cM.eq_1 @aI.eq_1 @ar.eq_1 @h0.eq_1 hi h1 h2 h3 h4 k7 k8 k5 n1 n3 n3' @pQ @pP ?_;exact⟨1,rfl⟩
  rw[aF k5,eW (show 1<=r.n by omega),eW (show r.n<=3 by omega)];refine sB @lU.eq_1 @cM.eq_1 @aI.eq_1 @ar.eq_1 @h0.eq_1 hi h1 h2 h3 h4 k7 k8 k5 n1 n3 ?_;exact slot _ rfl _ _ _ U0 U0 (U1 @ar.eq_1) (U1 k5)
 rw[aD k5];by_cases k6:r.k=6
 ·by_cases n1:r.n<1
  ·have n1':¬1<=r.n:=by omega
   refine kJ @lU.eq_1 @cM.eq_1 @aI.eq_1 @ar.eq_1 @h0.eq_1 hi h1 h2 h3 h4 k7 k8 k5 k6 n1 n1' @pQ @pP ?_;exact⟨1,rfl⟩
  by_cases n3:16<r.n
  ·have n3':¬r.n<=16:=by omega
   refine kJ @lU.eq_1 @cM.eq_1 @aI.eq_1 @ar.eq_1 @h0.eq_1 hi h1 h2 h3 h4 k7 k8 k5 k6 n1 n3 n3' (ap @pQ<| @pP) ?_;exact⟨1,rfl⟩
  rw[aF k6,eW (show 1<=r.n by omega),eW (show r.n<=16 by omega)];refine pq @lU.eq_1 @cM.eq_1 @aI.eq_1 @ar.eq_1 @h0.eq_1 hi h1 h2 h3 h4 k7 k8 k5 k6 n1 n3 ?_;exact slot _ rfl _ _ _ U0 U0 (U1 @ar.eq_1) (U1 k6)
 rw[aD k6];by_cases n0:r.n=0
 ·rw[eW n0];refine sB @lU.eq_1 @cM.eq_1 @aI.eq_1 @ar.eq_1 @h0.eq_1 hi h1 h2 h3 h4 k7 k8 k5 k6 n0 ?_;exact slot _ rfl _ _ _ U0 U0 (U1 @ar.eq_1) (U1 n0)
 ·rw[fe n0];refine qp @lU.eq_1 @cM.eq_1 @aI.eq_1 @ar.eq_1 @h0.eq_1 hi h1 h2 h3 h4 k7 k8 k5 k6 n0 @pQ @pP ?_;exact⟨1,rfl⟩
def rj (g:Gr) (L:List Ru) (i:Nat):Bool:=match L[i]? with
 |some r=>eP g r&&(L.take i).all λq=> !iY r q
 |none=>true
def iG (g:Gr) (L:List Ru):Bool:=(List.range L.length).all (rj g L)
def Bz {g:Gr} {L:List Ru} {i:Nat} (hi:i<L.length) (h:rj g L i=false):iG g L=false:=by
 unfold iG;rw[List.all_eq_false];exact⟨i,mA.2 hi,by rw[h];simp⟩
def Tl {g:Gr} {L:List Ru} (h:∀i,i<L.length ->rj g L i=true):iG g L=true:=by
 unfold iG;rw[fX];exact λi hi=>h i (mA.1 hi)
def BA {n} (r:Ru):nice.niceL n (cM r)=true:=by simp only[cM,iu,iq,j9,g9]
def BB {n h} (a:Ru):bJ n h (cM a)=some (cM a):=by simp only[cM,aL,bZ,dH]
def Km (F:li ae) {g:Gr} (G:ce g) {L:List Ru} {nl:Bool} (hL:L.length<=1000):bg P X GL ae 46 [aI g,eR cM 4 nl L] (.b (iG g L)):=by
 refine bg.intro λC E=> ?_;have rc:=λr h=>aW7 S F G r h;have cc:=λx y h=>aW6 (GL:=GL) S F x y h;simp only[aI,ar,cM] at rc cc;have db:nice 64 (eR cM 4 nl L)=true:=dg BA;have dk:∀k,nice 64 (.dp (L.flatMap cM) k)=true:=λk=>by rw[fK,fE BA]
 have bq:=iW (g:=g);simp only[ar] at bq;refine E.bS F.f46 (Y4 @Pu.eq_1 @aI.eq_1 @ar.eq_1 @h0.eq_1 ?_);refine fj E.ok L.length (λi τ h=>(∀j,j<i ->rj g L j=true)/\ 1<=h.next/\ cG (h.oB.get 0)=some (ar g)/\ τ.get 1=some (eR cM 4 nl L)/\ τ.get 2=some (.p 0 0)/\ τ.get 5=some (ι (i:Int))) ?_ ?_ _ _ ⟨λj hj=>by omega,bB _,?_,?_,?_,?_⟩
 ·rintro i τ ⟨n1,v1,aQ⟩ hi ⟨aC,dS,c0,t1,t2,t5⟩ ih;dsimp only at c0;have de:=c0;simp only[ar] at c0;have hri:L[i]? =some L[i]:=cE hi;generalize hr:L[i]=r at hri;have e4:sub (L.flatMap cM) (i*4) 4=some (cM r):=cW zc hri (j:=0) (n:=4) ω;simp only[cM] at e4;have oa:rj g L i=(eP g r&&(L.take i).all λq=> !iY r q):=by unfold rj;rw[hri]
  refine Y9 c0 t1 t2 t5 @bG e4 db dk bq ?_;refine E.cN (rc _ _) (Y9 c0 t1 t2 t5 @bG e4 db dk bq ?_);cases hb:eP g r with
  |false=>
   refine Y9 c0 t1 t2 t5 @bG e4 db dk bq ?_;rw[Bz hi (by rw[oa,hb];rfl)];exact⟨1,rfl⟩
  |true=>
   rw[hb] at oa;rw[uh] at oa;refine Y9 c0 t1 t2 t5 @bG e4 db dk bq ?_;refine fj E.ok i (λj τ h=>(∀q∈L.take j,iY r q=false)/\ 1<=h.next/\ cG (h.oB.get 0)=some (ar g)/\ τ.get 1=some (eR cM 4 nl L)/\ τ.get 2=some (.p 0 0)/\ τ.get 5=some (ι (i:Int))/\ τ.get 6=some (ι (j:Int))) ?_ ?_ _ _ ⟨by simp,dS,de,?_,?_,?_,?_⟩
   ·rintro j τ ⟨n2,v2,aJ⟩ hj ⟨hcl,hn2,d0,s1,s2,s5,s6⟩ ih2;have hqj:L[j]? =some L[j]:=cE ω;generalize hq:L[j]=q at hqj;have f4:sub (L.flatMap cM) (j*4) 4=some (cM q):=cW zc hqj (j:=0) (n:=4) ω;simp only[cM] at f4;refine Y9 s1 s2 s5 s6 @bG e4 f4 db dk ?_;refine E.cN (cc _ _ _) (Y9 s1 s2 s5 s6 @bG e4 f4 db dk ?_);cases hc:iY r q with
    |true=>
     refine Y4 s1 s2 s5 s6 ?_;rw[Bz hi (by
      rw[oa,List.all_eq_false];refine⟨q,?_,by rw[hc];simp⟩;exact dI (i:=j) (by rw[jZ,aF hj];exact hqj))]
     exact⟨1,rfl⟩
    |false=>
     refine Y5 s1 s2 s5 s6 @bK ?_;refine ih2 _ _ ⟨λz hz=> ?_,hn2,d0,?_,?_,?_,?_⟩
     ·rw[nY hqj] at hz;rcases fO.1 hz with h|h
      ·exact hcl z h
      ·rw[fk.1 h];exact hc
     all_goals exact U3 s1 s2 s5
   ·rintro τ ⟨n2,v2,aJ⟩ ⟨hcl,hn2,d0,s1,s2,s5,s6⟩;refine Y5 s1 s2 s5 s6 @bK ?_;refine ih _ _ ⟨λj hj=> ?_,hn2,d0,?_,?_,?_⟩
    ·by_cases e:j=i
     ·subst e;rw[oa,fX];intro q hq;rw[hcl q hq];rfl
     ·exact aC j ω
    all_goals exact U3 s1 s2 s5
   all_goals exact U3 t1 t2 t5
 ·rintro τ ⟨n1,v1,aQ⟩ ⟨aC,dS,c0,t1,t2,t5⟩;refine Y4 t1 t2 t5 @dw ?_;rw[Tl aC];exact⟨1,rfl⟩
 ·exact U1 @ar.eq_1
 all_goals exact U0
def eJ (p:Int×Int):AV:= .ag [ι p.1,ι p.2]
def EP:rZ eJ tK where
 eq:=λa b=>by
  obtain⟨a1,a2⟩:=a;obtain⟨b1,b2⟩:=b;have h:eH 6 tK (eJ (a1,a2)) (eJ (b1,b2))=(match (some (eO a1 b1):Option Bool) with
   |some true=>(match (some (eO a2 b2):Option Bool) with
    |some true=>some true
    |r=>r)
   |r=>r):=rfl
  rw[h,fg,fg];by_cases h1:a1=b1<;>by_cases h2:a2=b2<;>simp[h1,h2]
 q:=λa=>by
  obtain⟨a1,a2⟩:=a;have h:j3 tK (eJ (a1,a2))=(match (match (some (eO a1 a1):Option Bool) with
   |some true=>(match (some (eO a2 a2):Option Bool) with
    |some true=>some true
    |r=>r)
   |r=>r) with|some true=>true|_=>false):=rfl
  rw[h,fg,fg];simp
 self:=λa=>by
  obtain⟨a1,a2⟩:=a;have h:o9 (eJ (a1,a2)) (eJ (a1,a2))=((gZ .i64 .i64&&eO a1 a1)&&((gZ .i64 .i64&&eO a2 a2)&&true)):=rfl;rw[h,fg,fg];simp[gZ]
def sL (r:Ru):AV:= .ag [ι r.p,ι r.s,ι r.k,ι r.n]
def kK (n:Int):AV:=ι n
def mX {κ ν:Type} (ek:κ ->AV) (en:ν ->AV) (l:List (κ×ν)):Option (List (AV×AV×Nat)×Nat):=some (di ek en 0 l,l.length)
def z4:AV:= .ag [ι 0,ι 0,ι 0,ι 0]
def EQ:Option Ru ->Ru
 |some r=>r
 |none=>⟨0,0,0,0⟩
def aW8 {o:Option Ru}:hU sL (.ag [ι 0,ι 0,ι 0,ι 0]) o= .tu [.ag [ι (EQ o).p,ι (EQ o).s,ι (EQ o).k,ι (EQ o).n],.b o.isSome]:=by cases o<;>rfl
def aW9 {o:Option Int}:oF kK (ι 0) o=ι (o.getD 0):=by cases o<;>rfl
def aX0 {o:Option Bool}:oF AV.b (.b false) o= .b (o.getD false):=by cases o<;>rfl
structure kM (D:List Ru) (Sp:List ((Int×Int)×Ru)) (Ns:List ((Int×Int)×Int)) (Al Ke:List (Int×Bool)):Prop where
 f1:∀p s,(look (p,s) Sp).isSome=D.any λq=>decide (q.p=p)&&decide (q.s=s)&&oT q.k
 f2:∀p s,decide (0<(look (p,s) Ns).getD 0)=D.any λq=>decide (q.p=p)&&decide (q.s=s)&&decide (q.k=6)
 f3:∀p,(look p Al).getD false=D.any λq=>decide (q.p=p)&&decide (q.k=7)
 f4:∀p,(look p Ke).getD false=D.any λq=>decide (q.p=p)&&decide (q.k=8)
def mV {α:Type} {D:List α} {r:α} {f:α ->Bool}:(D++[r]).any f=(D.any f||f r):=by simp[List.any_append]
def ER {α:Type} {D:List α} {f g:α ->Bool} (h:∀q∈D,f q=g q):D.any f=D.any g:=by
 induction D with
 |nil=>rfl
 |cons a t ih=>rw[qL,qL,h a (by simp),ih λq hq=>h q (by simp[hq])]
def zd {k:Int} (h:5<k):oT k=false:=by unfold oT;rw[fe (show¬k<=5 by omega)];simp
def ES {p q:Prop} [Decidable p] [Decidable q] (h:p↔¬q):decide p= !decide q:=by by_cases e:q<;>simp[h,e]
def tU {a b:Int}:decide (a=b)=decide (b=a):=by by_cases h:a=b<;>simp[h,eq_comm]
def EU {g:Gr} {r:Ru} (h:eP g r=true) (hk:r.k=7∨r.k=8):r.s=0:=by
 unfold eP at h;rw[aF hk] at h;simp only[aB,aU] at h;exact h.2.1
def kM.nil:kM [] [] [] [] []:=⟨λ_ _=>rfl,λ_ _=>rfl,λ_=>rfl,λ_=>rfl⟩
section
variable {D:List Ru} {Sp:List ((Int×Int)×Ru)} {Ns:List ((Int×Int)×Int)} {Al Ke:List (Int×Bool)} (b:kM D Sp Ns Al Ke) {r:Ru}
include b
theorem kM.sep (h1:1<=r.k) (h5:r.k<=5):kM (D++[r]) (ups (r.p,r.s) r Sp) Ns Al Ke where
 f1:=λp s=>by
  rw[qi,mV,←b.f1];have hs:oT r.k=true:=by unfold oT;rw[eW h1,eW h5];rfl
  by_cases e:(p,s)=(r.p,r.s)
  ·rw[aF e];obtain⟨e1,e2⟩:=(xK ..).mp e;subst e1 e2;simp[hs]
  ·rw[aD e];have:(decide (r.p=p)&&decide (r.s=s))=false:=by
    by_cases q1:r.p=p
    ·by_cases q2:r.s=s
     ·exact bh (by rw[q1,q2]) e
     ·simp[q2]
    ·simp[q1]
   rw[this];simp
 f2:=λp s=>by rw[mV,←b.f2,fe (show¬r.k=6 by omega)];simp
 f3:=λp=>by rw[mV,←b.f3,fe (show¬r.k=7 by omega)];simp
 f4:=λp=>by rw[mV,←b.f4,fe (show¬r.k=8 by omega)];simp
theorem kM.nest (h6:r.k=6) (hn:1<=r.n):kM (D++[r]) Sp (ups (r.p,r.s) r.n Ns) Al Ke where
 f1:=λp s=>by rw[mV,←b.f1,zd ω];simp
 f2:=λp s=>by
  rw[qi,mV,←b.f2,eW h6];by_cases e:(p,s)=(r.p,r.s)
  ·rw[aF e];obtain⟨e1,e2⟩:=(xK ..).mp e;subst e1 e2;simp;omega
  ·rw[aD e];have:(decide (r.p=p)&&decide (r.s=s))=false:=by
    by_cases q1:r.p=p
    ·by_cases q2:r.s=s
     ·exact bh (by rw[q1,q2]) e
     ·simp[q2]
    ·simp[q1]
   rw[this];simp
 f3:=λp=>by rw[mV,←b.f3,fe (show¬r.k=7 by omega)];simp
 f4:=λp=>by rw[mV,←b.f4,fe (show¬r.k=8 by omega)];simp
theorem kM.algn (h7:r.k=7):kM (D++[r]) Sp Ns (ups r.p true Al) Ke where
 f1:=λp s=>by rw[mV,←b.f1,zd ω];simp
 f2:=λp s=>by rw[mV,←b.f2,fe (show¬r.k=6 by omega)];simp
 f3:=λp=>by
  rw[qi,mV,←b.f3,eW h7];by_cases e:p=r.p
  ·rw[aF e,eW e.symm];simp
  ·rw[aD e,fe λq=>e q.symm];simp
 f4:=λp=>by rw[mV,←b.f4,fe (show¬r.k=8 by omega)];simp
theorem kM.keep (h8:r.k=8):kM (D++[r]) Sp Ns Al (ups r.p true Ke) where
 f1:=λp s=>by rw[mV,←b.f1,zd ω];simp
 f2:=λp s=>by rw[mV,←b.f2,fe (show¬r.k=6 by omega)];simp
 f3:=λp=>by rw[mV,←b.f3,fe (show¬r.k=7 by omega)];simp
 f4:=λp=>by
  rw[qi,mV,←b.f4,eW h8];by_cases e:p=r.p
  ·rw[aF e,eW e.symm];simp
  ·rw[aD e,fe λq=>e q.symm];simp
theorem kM.t1 (h1:1<=r.k) (h5:r.k<=5):(look (r.p,r.s) Sp).isSome=D.any (iY r):=by
 have hs:oT r.k=true:=by unfold oT;rw[eW h1,eW h5];rfl
 rw[b.f1];refine ER λq _=> ?_;unfold iY;rw[tU (a:=r.p),tU (a:=r.s),hs,uh];by_cases e:r.k=q.k
 ·rw[←e,hs];simp
 ·rw[fe e];simp
theorem kM.t2 (h6:r.k=6):decide (0<(look (r.p,r.s) Ns).getD 0)=D.any (iY r):=by
 rw[b.f2];refine ER λq _=> ?_;unfold iY;rw[tU (a:=r.p),tU (a:=r.s),tU (a:=r.k),zd (k:=r.k) ω,h6];simp
theorem kM.t3 {g:Gr} (h7:r.k=7) (hr:r.s=0) (hD:∀q∈D,eP g q=true):(look r.p Al).getD false=D.any (iY r):=by
 rw[b.f3];refine ER λq hq=> ?_;unfold iY;rw[tU (a:=r.p),tU (a:=r.k),zd (k:=r.k) ω,h7,hr];by_cases e:q.k=7
 ·have:=EU (hD q hq) (.inl e);rw[this];simp
 ·simp[e]
theorem kM.t4 {g:Gr} (h8:r.k=8) (hr:r.s=0) (hD:∀q∈D,eP g q=true):(look r.p Ke).getD false=D.any (iY r):=by
 rw[b.f4];refine ER λq hq=> ?_;unfold iY;rw[tU (a:=r.p),tU (a:=r.k),zd (k:=r.k) ω,h8,hr];by_cases e:q.k=8
 ·have:=EU (hD q hq) (.inr e);rw[this];simp
 ·simp[e]
end
def aX1 {α:Type} {D:List α} {f:α ->Bool}:(D.all λq=> !f q)= !D.any f:=by
 induction D with
 |nil=>rfl
 |cons a t ih=>rw[xE,qL,ih];simp
def lA {C:aK Prop} {K:K Prop} {τ:T AV} {h:AH}:∀{S:List Fr},gV C .ret S K τ h↔gV C .ret [] K τ h
 |[]=>Iff.rfl
 | .s _::S=>lA (S:=S)
 | .b _::S=>lA (S:=S)
def pD (g:Gr) (r:Ru) (tk:Bool) (lo hi:Int):Bool:=tk||decide (r.n<lo)||decide (hi<r.n)||decide (r.s<0)||decide ((if r.k=7∨r.k=8 then 1 else xc g r.p-1)<=r.s)
def vh {C:aK Prop} (E:Sem P X GL ae C) {g:Gr} (G:ce g) {r:Ru} {i:Nat} (hi:r.p=(i:Int)) (hil:i<g.pR.length) {tk:Bool} {lo hi':Int} {m n1:Nat} {S:List Fr} {k:AV ->AH ->Prop} {h:AH} {τ:T AV}
 (c0:cG (h.oB.get m)=some (ar g)) (c8:cG (h.oB.get n1)=some [ι r.p,ι r.s,ι r.k,ι r.n])
 (t2:τ.get 2=some (.p m 0)) (t8:τ.get 8=some (.p n1 0)) (t9:τ.get 9=some (ι lo)) (t10:τ.get 10=some (ι hi')) (t14:τ.get 14=some (.b tk))
 (hb:pD g r tk lo hi'=true ->k (.tu [.pn,.b false]) h)
 (hg:pD g r tk lo hi'=false ->∀τ',(∀j,j<=8 ->τ'.get j=τ.get j) ->(∀j,16<=j ->j<=120 ->τ'.get j=τ.get j) ->gV C .normal S (KF k [(4,none),(5,none)]) τ' h):
 df C DG (.s HH::S) (KF k [(4,none),(5,none)]) τ h:=by
 obtain⟨m2,ver,ob⟩:=h;dsimp only at c0 c8;have pl:=G.pl;have hpi:g.pR[i]? =some g.pR[i]:=cE hil;generalize hp:g.pR[i]=p at hpi;have pk:=G.p p (dI hpi);have rl:=pk.len;have hrl:xc g r.p=(p.right.length:Int):=by unfold xc;rw[hi,show((i:Int)).toNat=i from rfl,hpi];rfl
 have e2:sub (g.pR.flatMap aM) (i*13+2) 1=some [eR ba 2 p.rn p.right]:=cW kr hpi (j:=2) (n:=1) ω;have db:nice 64 (eR aM 13 true g.pR)=true:=dg iV;have dk:∀k,nice 64 (.dp (g.pR.flatMap aM) k)=true:=λk=>by rw[fK,fE iV]
 have nk3:nice 64 (eR ba 2 p.rn p.right)=true:=dg jE;have bs:aY .sub (ι (p.right.length:Int)) (ι 1)=some (ι ((p.right.length:Int)-1)):=rX ⟨by omega,by omega⟩;rw[hi] at c8;simp only[ar] at c0;unfold pD at hb hg;rw[hrl] at hb hg;have key:∀sl:Int,(if r.k=7∨r.k=8 then 1 else (p.right.length:Int)-1)=sl ->(((r.k=7)=True/\ (r.k=8)=False/\ sl=1)∨((r.k=7)=False/\ (r.k=8)=True/\ sl=1)∨((r.k=7)=False/\ (r.k=8)=False/\ sl=(p.right.length:Int)-1)):=by
  intro sl e;by_cases k7:r.k=7
  ·rw[aF (.inl k7)] at e;exact .inl ⟨fq k7,av,e.symm⟩
  by_cases k8:r.k=8
  ·rw[aF (.inr k8)] at e;exact .inr (.inl ⟨dQ k7,fq k8,e.symm⟩)
  rw[aD (λh=>h.elim k7 k8)] at e;exact .inr (.inr ⟨dQ k7,dQ k8,e.symm⟩)
 generalize hsl:(if r.k=7∨r.k=8 then 1 else (p.right.length:Int)-1)=sl at hb hg;unfold DG;rcases key sl hsl with ⟨k7,k8,hs⟩|⟨k7,k8,hs⟩|⟨k7,k8,hs⟩
 ·rw[hs] at hb hg;cases tk with
  |true=>
   refine pq c0 c8 t2 t8 t9 t10 t14 hi @bG e2 db dk nk3 bs k7 k8 ?_;rw[lA];refine Y0 ?_;exact hb rfl
  |false=>
  by_cases h1:r.n<lo
  ·rw[eW h1] at hb;refine qp c0 c8 t2 t8 t9 t10 t14 hi @bG e2 db dk nk3 bs k7 k8 h1 ?_;rw[lA];refine Y0 ?_;exact hb rfl
  by_cases h2:hi'<r.n
  ·rw[eW h2] at hb;refine kJ c0 c8 t2 t8 t9 t10 t14 hi @bG e2 db dk nk3 bs k7 k8 h1 h2 ?_;rw[lA];refine Y0 ?_;exact hb (by simp)
  by_cases h3:r.s<0
  ·rw[eW h3] at hb;refine qq c0 c8 t2 t8 t9 t10 t14 hi @bG e2 db dk nk3 bs k7 k8 h1 h2 h3 ?_;rw[lA];refine Y0 ?_;exact hb (by simp)
  by_cases h4:1<=r.s
  ·rw[eW h4] at hb;refine qr c0 c8 t2 t8 t9 t10 t14 hi @bG e2 db dk nk3 bs k7 k8 h1 h2 h3 h4 ?_;rw[lA];refine Y0 ?_;exact hb (by simp)
  rw[fe h1,fe h2,fe h3,fe h4] at hg;refine qr c0 c8 t2 t8 t9 t10 t14 hi @bG e2 db dk nk3 bs k7 k8 h1 h2 h3 h4 ?_;refine hg rfl _ (λj hj=> ?_) (λj hj hj2=> ?_);all_goals exact U0
 ·rw[hs] at hb hg;cases tk with
  |true=>
   refine pq c0 c8 t2 t8 t9 t10 t14 hi @bG e2 db dk nk3 bs k7 k8 ?_;rw[lA];refine Y0 ?_;exact hb rfl
  |false=>
  by_cases h1:r.n<lo
  ·rw[eW h1] at hb;refine qp c0 c8 t2 t8 t9 t10 t14 hi @bG e2 db dk nk3 bs k7 k8 h1 ?_;rw[lA];refine Y0 ?_;exact hb rfl
  by_cases h2:hi'<r.n
  ·rw[eW h2] at hb;refine kJ c0 c8 t2 t8 t9 t10 t14 hi @bG e2 db dk nk3 bs k7 k8 h1 h2 ?_;rw[lA];refine Y0 ?_;exact hb (by simp)
  by_cases h3:r.s<0
  ·rw[eW h3] at hb;refine qq c0 c8 t2 t8 t9 t10 t14 hi @bG e2 db dk nk3 bs k7 k8 h1 h2 h3 ?_;rw[lA];refine Y0 ?_;exact hb (by simp)
  by_cases h4:1<=r.s
  ·rw[eW h4] at hb;refine qr c0 c8 t2 t8 t9 t10 t14 hi @bG e2 db dk nk3 bs k7 k8 h1 h2 h3 h4 ?_;rw[lA];refine Y0 ?_;exact hb (by simp)
  rw[fe h1,fe h2,fe h3,fe h4] at hg;refine qr c0 c8 t2 t8 t9 t10 t14 hi @bG e2 db dk nk3 bs k7 k8 h1 h2 h3 h4 ?_;refine hg rfl _ (λj hj=> ?_) (λj hj hj2=> ?_);all_goals exact U0
 ·rw[hs] at hb hg;cases tk with
  |true=>
   refine pq c0 c8 t2 t8 t9 t10 t14 hi @bG e2 db dk nk3 bs k7 k8 ?_;rw[lA];refine Y0 ?_;exact hb rfl
  |false=>
  by_cases h1:r.n<lo
  ·rw[eW h1] at hb;refine qp c0 c8 t2 t8 t9 t10 t14 hi @bG e2 db dk nk3 bs k7 k8 h1 ?_;rw[lA];refine Y0 ?_;exact hb rfl
  by_cases h2:hi'<r.n
  ·rw[eW h2] at hb;refine kJ c0 c8 t2 t8 t9 t10 t14 hi @bG e2 db dk nk3 bs k7 k8 h1 h2 ?_;rw[lA];refine Y0 ?_;exact hb (by simp)
  by_cases h3:r.s<0
  ·rw[eW h3] at hb;refine qq c0 c8 t2 t8 t9 t10 t14 hi @bG e2 db dk nk3 bs k7 k8 h1 h2 h3 ?_;rw[lA];refine Y0 ?_;exact hb (by simp)
  by_cases h4:((p.right.length:Int)-1)<=r.s
  ·rw[eW h4] at hb;refine qr c0 c8 t2 t8 t9 t10 t14 hi @bG e2 db dk nk3 bs k7 k8 h1 h2 h3 h4 ?_;rw[lA];refine Y0 ?_;exact hb (by simp)
  rw[fe h1,fe h2,fe h3,fe h4] at hg;refine qr c0 c8 t2 t8 t9 t10 t14 hi @bG e2 db dk nk3 bs k7 k8 h1 h2 h3 h4 ?_;refine hg rfl _ (λj hj=> ?_) (λj hj hj2=> ?_);all_goals exact U0
def Tm {g:Gr} {L:List Ru} {i:Nat} {r:Ru} (hri:L[i]? =some r):rj g L i=(eP g r&& !(L.take i).any (iY r)):=by unfold rj;rw[hri];dsimp only;rw[aX1]
def vj {b:Bool} (h:(!b)=true):b=false:=by cases b<;>simp_all
def vk {b:Bool} (h:(!b)=false):b=true:=by cases b<;>simp_all
def s6 {g:Gr} {r:Ru} (h:eP g r=true) (hk:r.k=6):1<=r.n:=by
 unfold eP at h;rw[aD ω,aD ω,aF hk] at h;simp only[aB,aU] at h;omega
def vl {g:Gr} {r:Ru} {tk:Bool} {lo hi:Int} (h0:0<=r.p) (h1:r.p<(g.pR.length:Int)) (k1:1<=r.k) (k8:r.k<=8) (hl:(r.k=5/\ lo=1/\ hi=3)∨(r.k=6/\ lo=1/\ hi=16)∨(r.k≠5/\ r.k≠6/\ lo=0/\ hi=0)):
 pD g r tk lo hi= !(eP g r&& !tk):=by
 have key:∀a b c d e f:Bool,(a||b||c||d||e)= !(!b&& !c&& !d&& !e&& !a):=by intros a b c d e f;cases a<;>cases b<;>cases c<;>cases d<;>cases e<;>rfl
 unfold pD eP;rw[eW h0,eW h1,eW k1,eW k8];cases tk with
 |true=>simp
 |false=>
 by_cases h7:r.k=7∨r.k=8
 ·rw[aF h7,aF h7];have:lo=0/\ hi=0:=by omega
  rw[this.1,this.2];by_cases a:r.n<0
  ·rw[eW a,fe (show¬r.n=0 by omega)];simp
  by_cases b:0<r.n
  ·rw[eW b,fe (show¬r.n=0 by omega)];simp
  by_cases c:r.s<0
  ·rw[eW c,fe (show¬r.s=0 by omega)];simp
  by_cases d:1<=r.s
  ·rw[eW d,fe (show¬r.s=0 by omega)];simp
  rw[fe a,fe b,fe c,fe d,eW (show r.n=0 by omega),eW (show r.s=0 by omega)];rfl
 ·rw[aD h7,aD h7];generalize xc g r.p-1=sl;have e1:decide (0<=r.s)= !decide (r.s<0):=by by_cases q:r.s<0<;>simp[q]<;>omega
  have e2:decide (r.s<sl)= !decide (sl<=r.s):=by by_cases q:r.s<sl<;>simp[q]<;>omega
  have e3:(if r.k=5 then decide (1<=r.n)&&decide (r.n<=3) else if r.k=6 then decide (1<=r.n)&&decide (r.n<=16) else decide (r.n=0))=(!decide (r.n<lo)&& !decide (hi<r.n)):=by
   rcases hl with ⟨q,q1,q2⟩|⟨q,q1,q2⟩|⟨q,q',q1,q2⟩
   ·rw[aF q,q1,q2,ES (show(1<=r.n↔¬r.n<1) by omega),ES (show(r.n<=3↔¬3<r.n) by omega)]
   ·rw[aD ω,aF q,q1,q2,ES (show(1<=r.n↔¬r.n<1) by omega),ES (show(r.n<=16↔¬16<r.n) by omega)]
   ·rw[aD q,aD q',q1,q2];by_cases a:r.n<0
    ·rw[eW a,fe (show¬r.n=0 by omega)];rfl
    by_cases b:0<r.n
    ·rw[eW b,fe (show¬r.n=0 by omega)];simp
    rw[fe a,fe b,eW (show r.n=0 by omega)];rfl
  rw[e1,e2,e3];cases decide (r.n<lo)<;>cases decide (hi<r.n)<;>cases decide (r.s<0)<;>cases decide (sl<=r.s)<;>rfl
def aX2 {C:aK Prop} (E:Sem P X GL ae C) {g:Gr} (G:ce g) {D:List Ru} {r:Ru} {Sp Ns Al Ke} (bk:kM D Sp Ns Al Ke) (hD:∀q∈D,eP g q=true) (p0:0<=r.p) (p1:r.p<(g.pR.length:Int)) {m n1:Nat} {S:List Fr} {k:AV ->AH ->Prop} {h:AH} {τ:T AV}
 (hn:m+6<=n1) (hx:n1+2<=h.next) (c0:cG (h.oB.get m)=some (ar g)) (c5:cG (h.oB.get (m+5))=some [.m (m+1),.m (m+2),.m (m+3),.m (m+4)])
 (m1:mG (h.oB.get (m+1))=mX eJ sL Sp) (m2:mG (h.oB.get (m+2))=mX eJ kK Ns) (m3:mG (h.oB.get (m+3))=mX kK AV.b Al) (m4:mG (h.oB.get (m+4))=mX kK AV.b Ke)
 (c8:cG (h.oB.get n1)=some [ι r.p,ι r.s,ι r.k,ι r.n]) (c11:cG (h.oB.get (n1+1))=some [ι r.p,ι r.s])
 (t2:τ.get 2=some (.p m 0)) (t6:τ.get 6=some (.p (m+5) 0)) (t8:τ.get 8=some (.p n1 0)) (t9:τ.get 9=some (ι 0)) (t10:τ.get 10=some (ι 0)) (bH:τ.get 11=some (.p (n1+1) 0)) (t13:τ.get 13=some (.b (look (r.p,r.s) Sp).isSome)) (t14:τ.get 14=some (.b false)) (t54:τ.get 54=some (ι r.k))
 (hb:(eP g r&& !D.any (iY r))=false ->∀h',k (.tu [.pn,.b false]) h')
 (hg:(eP g r&& !D.any (iY r))=true ->∀Sp' Ns' Al' Ke' τ' h',kM (D++[r]) Sp' Ns' Al' Ke' ->h.next<=h'.next ->cG (h'.oB.get m)=some (ar g) ->cG (h'.oB.get (m+5))=some [.m (m+1),.m (m+2),.m (m+3),.m (m+4)] ->
  mG (h'.oB.get (m+1))=mX eJ sL Sp' ->mG (h'.oB.get (m+2))=mX eJ kK Ns' ->mG (h'.oB.get (m+3))=mX kK AV.b Al' ->mG (h'.oB.get (m+4))=mX kK AV.b Ke' ->(∀j,j<m ->h'.oB.get j=h.oB.get j) ->
  τ'.get 2=τ.get 2 ->τ'.get 6=τ.get 6 ->τ'.get 22=τ.get 22 ->τ'.get 23=τ.get 23 ->τ'.get 24=τ.get 24 ->gV C .normal S (KF k [(4,none),(5,none)]) τ' h'):
 df C HF (.s (.seq DG HH)::S) (KF k [(4,none),(5,none)]) τ h:=by
 obtain⟨nx,ver,ob⟩:=h;dsimp only at c0 c5 c8 c11 m1 m2 m3 m4 hx;obtain⟨i,hi⟩:∃i:Nat,r.p=(i:Int):=⟨r.p.toNat,by omega⟩;have hil:i<g.pR.length:=by omega
 have muS:∀(a b c:Nat) bQ aA ob' (τ:T AV),mG (T.get ob' (m+1))=mX eJ sL Sp ->az C τ (.t a)= .m (m+1) ->az C τ (.t b)= .ag [ι r.p,ι r.s] ->az C τ (.t c)= .ag [ι r.p,ι r.s,ι r.k,ι r.n] ->
  step (az C τ) ⟨bQ,aA,ob'⟩ (.mupd (.ag [(0,1,false,.lf .i),(1,1,false,.lf .i)]) (.t a) (.t b) (.t c))= .v .un ⟨bQ,aA+1,ob'.put (m+1) (.map (aA+1) (di eJ sL 0 (ups (r.p,r.s) r Sp)) (ups (r.p,r.s) r Sp).length)⟩:=
  λa b c bQ aA ob' τ q1 q2 q3 q4=>mL (k:=(r.p,r.s)) (v:=r) (en:=sL) EP (h:=⟨bQ,aA,ob'⟩) (fT.2 q1) q2 q3 q4
 have lkN:∀bQ aA ob' (τ:T AV),mG (T.get ob' (m+2))=mX eJ kK Ns ->az C τ (.t 81)= .m (m+2) ->az C τ (.t 82)= .ag [ι r.p,ι r.s] ->
  step (az C τ) ⟨bQ,aA,ob'⟩ (.look (.ag [(0,1,false,.lf .i),(1,1,false,.lf .i)]) (.t 81) (.t 82) (ι 0) false)= .v (oF kK (ι 0) (look (r.p,r.s) Ns)) ⟨bQ,aA,ob'⟩:=
  λbQ aA ob' τ q1 q2 q3=>sd (k:=(r.p,r.s)) (z:=ι 0) (en:=kK) EP (h:=⟨bQ,aA,ob'⟩) (fT.2 q1) q2 q3
 have muN:∀bQ aA ob' (τ:T AV),mG (T.get ob' (m+2))=mX eJ kK Ns ->az C τ (.t 88)= .m (m+2) ->az C τ (.t 89)= .ag [ι r.p,ι r.s] ->az C τ (.t 91)=ι r.n ->
  step (az C τ) ⟨bQ,aA,ob'⟩ (.mupd (.ag [(0,1,false,.lf .i),(1,1,false,.lf .i)]) (.t 88) (.t 89) (.t 91))= .v .un ⟨bQ,aA+1,ob'.put (m+2) (.map (aA+1) (di eJ kK 0 (ups (r.p,r.s) r.n Ns)) (ups (r.p,r.s) r.n Ns).length)⟩:=
  λbQ aA ob' τ q1 q2 q3 q4=>mL (k:=(r.p,r.s)) (v:=r.n) (en:=kK) EP (h:=⟨bQ,aA,ob'⟩) (fT.2 q1) q2 q3 q4
 have lkB:∀(o:Nat) (B:List (Int×Bool)) (a b:Nat) bQ aA ob' (τ:T AV),mG (T.get ob' o)=mX kK AV.b B ->az C τ (.t a)= .m o ->az C τ (.t b)=ι r.p ->
  step (az C τ) ⟨bQ,aA,ob'⟩ (.look (.lf .i) (.t a) (.t b) (.b false) false)= .v (oF AV.b (.b false) (look r.p B)) ⟨bQ,aA,ob'⟩:=
  λo B a b bQ aA ob' τ q1 q2 q3=>sd (k:=r.p) (z:= .b false) (en:=AV.b) Az (h:=⟨bQ,aA,ob'⟩) (fT.2 q1) q2 q3
 have muB:∀(o:Nat) (B:List (Int×Bool)) (a b:Nat) bQ aA ob' (τ:T AV),mG (T.get ob' o)=mX kK AV.b B ->az C τ (.t a)= .m o ->az C τ (.t b)=ι r.p ->
  step (az C τ) ⟨bQ,aA,ob'⟩ (.mupd (.lf .i) (.t a) (.t b) (.c (.b true)))= .v .un ⟨bQ,aA+1,ob'.put o (.map (aA+1) (di kK AV.b 0 (ups r.p true B)) (ups r.p true B).length)⟩:=
  λo B a b bQ aA ob' τ q1 q2 q3=>mL (k:=r.p) (v:=true) (en:=AV.b) Az (h:=⟨bQ,aA,ob'⟩) (fT.2 q1) q2 q3 rfl
 rw[aW9] at lkN;simp only[aX0] at lkB;have lkA:=lkB (m+3) Al 97 99;have lkK:=lkB (m+4) Ke 112 114;have muA:=muB (m+3) Al 104 106;have muK:=muB (m+4) Ke 119 121;clear lkB muB;unfold HF;by_cases k0:1<=r.k/\ r.k<=8;rotate_left
 ·have e1:(r.k=1)=False:=av;have e2:(r.k=2)=False:=av;have e3:(r.k=3)=False:=av;have e4:(r.k=4)=False:=av;have e5:(r.k=5)=False:=av;have e6:(r.k=6)=False:=av;have e7:(r.k=7)=False:=av;have e8:(r.k=8)=False:=av;refine Y9 t54 e1 e2 e3 e4 e5 e6 e7 e8 ?_;rw[lA];simp(disch:=omega) only[↓reduceIte,go_sem];refine hb ?_ _;unfold eP;by_cases q:1<=r.k
  ·rw[fe (show¬r.k<=8 by omega)];simp
  ·rw[fe q];simp
 by_cases q:r.k=1
 ·have e1:(r.k=1)=True:=fq q;have bb:pD g r ((look (r.p,r.s) Sp).isSome) 0 0= !(eP g r&& !(look (r.p,r.s) Sp).isSome):=vl p0 p1 k0.1 k0.2 (.inr (.inr ⟨by omega,by omega,rfl,rfl⟩));have bb2:(!(eP g r&& !(look (r.p,r.s) Sp).isSome))= !(eP g r&& !D.any (iY r)):=by rw[bk.t1 ω ω]
  rw[bb2] at bb;refine sD c0 c5 c8 c11 t2 t6 t8 t9 t10 bH t13 t14 t54 e1 muS m1 ?_;refine vh E G hi hil (tk:=(look (r.p,r.s) Sp).isSome) (lo:=0) (hi':=0) (m:=m) (n1:=n1) (W0 c0) (W0 c8) (W0 t2) (W0 t8) (W0 t9) (W0 t10) U0 (λe=>hb (vj (bb▸e)) _) (λe τ' a1 a2=>hg (vk (bb▸e)) (ups (r.p,r.s) r Sp) Ns Al Ke τ' _ (bk.sep ω ω) (bB _) (W0 c0) (W0 c5) U0 (W0 m2) (W0 m3) (W0 m4) (λj hj=>U0) ?_ ?_ ?_ ?_ ?_)
  ·rw[a1 2 ω];exact U0
  ·rw[a1 6 ω];exact U0
  ·rw[a2 22 ω ω];exact U0
  ·rw[a2 23 ω ω];exact U0
  ·rw[a2 24 ω ω];exact U0
 by_cases q:r.k=2
 ·have e1:(r.k=1)=False:=av;have e2:(r.k=2)=True:=fq q;have bb:pD g r ((look (r.p,r.s) Sp).isSome) 0 0= !(eP g r&& !(look (r.p,r.s) Sp).isSome):=vl p0 p1 k0.1 k0.2 (.inr (.inr ⟨by omega,by omega,rfl,rfl⟩));have bb2:(!(eP g r&& !(look (r.p,r.s) Sp).isSome))= !(eP g r&& !D.any (iY r)):=by rw[bk.t1 ω ω]
  rw[bb2] at bb;refine yO c0 c5 c8 c11 t2 t6 t8 t9 t10 bH t13 t14 t54 e1 e2 muS m1 ?_;refine vh E G hi hil (tk:=(look (r.p,r.s) Sp).isSome) (lo:=0) (hi':=0) (m:=m) (n1:=n1) (W0 c0) (W0 c8) (W0 t2) (W0 t8) (W0 t9) (W0 t10) U0 (λe=>hb (vj (bb▸e)) _) (λe τ' a1 a2=>hg (vk (bb▸e)) (ups (r.p,r.s) r Sp) Ns Al Ke τ' _ (bk.sep ω ω) (bB _) (W0 c0) (W0 c5) U0 (W0 m2) (W0 m3) (W0 m4) (λj hj=>U0) ?_ ?_ ?_ ?_ ?_)
  ·rw[a1 2 ω];exact U0
  ·rw[a1 6 ω];exact U0
  ·rw[a2 22 ω ω];exact U0
  ·rw[a2 23 ω ω];exact U0
  ·rw[a2 24 ω ω];exact U0
 by_cases q:r.k=3
 ·have e1:(r.k=1)=False:=av;have e2:(r.k=2)=False:=av;have e3:(r.k=3)=True:=fq q;have bb:pD g r ((look (r.p,r.s) Sp).isSome) 0 0= !(eP g r&& !(look (r.p,r.s) Sp).isSome):=vl p0 p1 k0.1 k0.2 (.inr (.inr ⟨by omega,by omega,rfl,rfl⟩));have bb2:(!(eP g r&& !(look (r.p,r.s) Sp).isSome))= !(eP g r&& !D.any (iY r)):=by rw[bk.t1 ω ω]
  rw[bb2] at bb;refine wS c0 c5 c8 c11 t2 t6 t8 t9 t10 bH t13 t14 t54 e1 e2 e3 muS m1 ?_;refine vh E G hi hil (tk:=(look (r.p,r.s) Sp).isSome) (lo:=0) (hi':=0) (m:=m) (n1:=n1) (W0 c0) (W0 c8) (W0 t2) (W0 t8) (W0 t9) (W0 t10) U0 (λe=>hb (vj (bb▸e)) _) (λe τ' a1 a2=>hg (vk (bb▸e)) (ups (r.p,r.s) r Sp) Ns Al Ke τ' _ (bk.sep ω ω) (bB _) (W0 c0) (W0 c5) U0 (W0 m2) (W0 m3) (W0 m4) (λj hj=>U0) ?_ ?_ ?_ ?_ ?_)
  ·rw[a1 2 ω];exact U0
  ·rw[a1 6 ω];exact U0
  ·rw[a2 22 ω ω];exact U0
  ·rw[a2 23 ω ω];exact U0
  ·rw[a2 24 ω ω];exact U0
 by_cases q:r.k=4
 ·have e1:(r.k=1)=False:=av;have e2:(r.k=2)=False:=av;have e3:(r.k=3)=False:=av;have e4:(r.k=4)=True:=fq q;have bb:pD g r ((look (r.p,r.s) Sp).isSome) 0 0= !(eP g r&& !(look (r.p,r.s) Sp).isSome):=vl p0 p1 k0.1 k0.2 (.inr (.inr ⟨by omega,by omega,rfl,rfl⟩));have bb2:(!(eP g r&& !(look (r.p,r.s) Sp).isSome))= !(eP g r&& !D.any (iY r)):=by rw[bk.t1 ω ω]
  rw[bb2] at bb;refine IN c0 c5 c8 c11 t2 t6 t8 t9 t10 bH t13 t14 t54 e1 e2 e3 e4 muS m1 ?_;refine vh E G hi hil (tk:=(look (r.p,r.s) Sp).isSome) (lo:=0) (hi':=0) (m:=m) (n1:=n1) (W0 c0) (W0 c8) (W0 t2) (W0 t8) (W0 t9) (W0 t10) U0 (λe=>hb (vj (bb▸e)) _) (λe τ' a1 a2=>hg (vk (bb▸e)) (ups (r.p,r.s) r Sp) Ns Al Ke τ' _ (bk.sep ω ω) (bB _) (W0 c0) (W0 c5) U0 (W0 m2) (W0 m3) (W0 m4) (λj hj=>U0) ?_ ?_ ?_ ?_ ?_)
  ·rw[a1 2 ω];exact U0
  ·rw[a1 6 ω];exact U0
  ·rw[a2 22 ω ω];exact U0
  ·rw[a2 23 ω ω];exact U0
  ·rw[a2 24 ω ω];exact U0
 by_cases q:r.k=5
 ·have e1:(r.k=1)=False:=av;have e2:(r.k=2)=False:=av;have e3:(r.k=3)=False:=av;have e4:(r.k=4)=False:=av;have e5:(r.k=5)=True:=fq q;have bb:pD g r ((look (r.p,r.s) Sp).isSome) 1 3= !(eP g r&& !(look (r.p,r.s) Sp).isSome):=vl p0 p1 k0.1 k0.2 (.inl ⟨q,rfl,rfl⟩);have bb2:(!(eP g r&& !(look (r.p,r.s) Sp).isSome))= !(eP g r&& !D.any (iY r)):=by rw[bk.t1 ω ω]
  rw[bb2] at bb;refine Bn c0 c5 c8 c11 t2 t6 t8 t9 t10 bH t13 t14 t54 e1 e2 e3 e4 e5 muS m1 ?_;refine vh E G hi hil (tk:=(look (r.p,r.s) Sp).isSome) (lo:=1) (hi':=3) (m:=m) (n1:=n1) (W0 c0) (W0 c8) (W0 t2) (W0 t8) U0 U0 U0 (λe=>hb (vj (bb▸e)) _) (λe τ' a1 a2=>hg (vk (bb▸e)) (ups (r.p,r.s) r Sp) Ns Al Ke τ' _ (bk.sep ω ω) (bB _) (W0 c0) (W0 c5) U0 (W0 m2) (W0 m3) (W0 m4) (λj hj=>U0) ?_ ?_ ?_ ?_ ?_)
  ·rw[a1 2 ω];exact U0
  ·rw[a1 6 ω];exact U0
  ·rw[a2 22 ω ω];exact U0
  ·rw[a2 23 ω ω];exact U0
  ·rw[a2 24 ω ω];exact U0
 by_cases q:r.k=6
 ·have e1:(r.k=1)=False:=av;have e2:(r.k=2)=False:=av;have e3:(r.k=3)=False:=av;have e4:(r.k=4)=False:=av;have e5:(r.k=5)=False:=av;have e6:(r.k=6)=True:=fq q;have bb:pD g r (decide (0<(look (r.p,r.s) Ns).getD 0)) 1 16= !(eP g r&& !decide (0<(look (r.p,r.s) Ns).getD 0)):=vl p0 p1 k0.1 k0.2 (.inr (.inl ⟨q,rfl,rfl⟩));have bb2:(!(eP g r&& !decide (0<(look (r.p,r.s) Ns).getD 0)))= !(eP g r&& !D.any (iY r)):=by rw[bk.t2 q]
  rw[bb2] at bb;refine IP c0 c5 c8 c11 t2 t6 t8 t9 t10 bH t13 t14 t54 e1 e2 e3 e4 e5 e6 lkN muN m2 ?_;refine vh E G hi hil (tk:=decide (0<(look (r.p,r.s) Ns).getD 0)) (lo:=1) (hi':=16) (m:=m) (n1:=n1) ?_ ?_ ?_ ?_ ?_ ?_ ?_ (λe=>hb (vj (bb▸e)) _) (λe τ' a1 a2=>hg (vk (bb▸e)) Sp (ups (r.p,r.s) r.n Ns) Al Ke τ' _ (bk.nest q (s6 (g:=g) (by rw[bb] at e;revert e;cases eP g r<;>simp) q)) (bB _) ?_ ?_ ?_ ?_ ?_ ?_ (λj hj=>U0) ?_ ?_ ?_ ?_ ?_)
  ·exact W0 c0
  ·exact W0 c8
  ·exact W0 t2
  ·exact W0 t8
  ·exact U0
  ·exact U0
  ·exact U0
  ·exact W0 c0
  ·exact W0 c5
  ·exact W0 m1
  ·exact U0
  ·exact W0 m3
  ·exact W0 m4
  ·rw[a1 2 ω];exact U0
  ·rw[a1 6 ω];exact U0
  ·rw[a2 22 ω ω];exact U0
  ·rw[a2 23 ω ω];exact U0
  ·rw[a2 24 ω ω];exact U0
 by_cases q:r.k=7
 ·have e1:(r.k=1)=False:=av;have e2:(r.k=2)=False:=av;have e3:(r.k=3)=False:=av;have e4:(r.k=4)=False:=av;have e5:(r.k=5)=False:=av;have e6:(r.k=6)=False:=av;have e7:(r.k=7)=True:=fq q;have bb:pD g r ((look r.p Al).getD false) 0 0= !(eP g r&& !(look r.p Al).getD false):=vl p0 p1 k0.1 k0.2 (.inr (.inr ⟨by omega,by omega,rfl,rfl⟩));have bb2:(!(eP g r&& !(look r.p Al).getD false))= !(eP g r&& !D.any (iY r)):=by
   cases hr:eP g r with
   |false=>rfl
   |true=>rw[bk.t3 q (EU hr (.inl q)) hD]
  rw[bb2] at bb;refine Rn c0 c5 c8 c11 t2 t6 t8 t9 t10 bH t13 t14 t54 e1 e2 e3 e4 e5 e6 e7 lkA muA m3 ?_;refine vh E G hi hil (tk:=(look r.p Al).getD false) (lo:=0) (hi':=0) (m:=m) (n1:=n1) (W0 c0) (W0 c8) (W0 t2) (W0 t8) (W0 t9) (W0 t10) U0 (λe=>hb (vj (bb▸e)) _) (λe τ' a1 a2=>hg (vk (bb▸e)) Sp Ns (ups r.p true Al) Ke τ' _ (bk.algn q) (bB _) (W0 c0) (W0 c5) (W0 m1) (W0 m2) U0 (W0 m4) (λj hj=>U0) ?_ ?_ ?_ ?_ ?_)
  ·rw[a1 2 ω];exact U0
  ·rw[a1 6 ω];exact U0
  ·rw[a2 22 ω ω];exact U0
  ·rw[a2 23 ω ω];exact U0
  ·rw[a2 24 ω ω];exact U0
 by_cases q:r.k=8
 ·have e1:(r.k=1)=False:=av;have e2:(r.k=2)=False:=av;have e3:(r.k=3)=False:=av;have e4:(r.k=4)=False:=av;have e5:(r.k=5)=False:=av;have e6:(r.k=6)=False:=av;have e7:(r.k=7)=False:=av;have e8:(r.k=8)=True:=fq q;have bb:pD g r ((look r.p Ke).getD false) 0 0= !(eP g r&& !(look r.p Ke).getD false):=vl p0 p1 k0.1 k0.2 (.inr (.inr ⟨by omega,by omega,rfl,rfl⟩));have bb2:(!(eP g r&& !(look r.p Ke).getD false))= !(eP g r&& !D.any (iY r)):=by
   cases hr:eP g r with
   |false=>rfl
   |true=>rw[bk.t4 q (EU hr (.inr q)) hD]
  rw[bb2] at bb;refine Ea c0 c5 c8 c11 t2 t6 t8 t9 t10 bH t13 t14 t54 e1 e2 e3 e4 e5 e6 e7 e8 lkK muK m4 ?_;refine vh E G hi hil (tk:=(look r.p Ke).getD false) (lo:=0) (hi':=0) (m:=m) (n1:=n1) (W0 c0) (W0 c8) (W0 t2) (W0 t8) (W0 t9) (W0 t10) U0 (λe=>hb (vj (bb▸e)) _) (λe τ' a1 a2=>hg (vk (bb▸e)) Sp Ns Al (ups r.p true Ke) τ' _ (bk.keep q) (bB _) (W0 c0) (W0 c5) (W0 m1) (W0 m2) (W0 m3) U0 (λj hj=>U0) ?_ ?_ ?_ ?_ ?_)
  ·rw[a1 2 ω];exact U0
  ·rw[a1 6 ω];exact U0
  ·rw[a2 22 ω ω];exact U0
  ·rw[a2 23 ω ω];exact U0
  ·rw[a2 24 ω ω];exact U0
 omega
variable {C:aK Prop} (E:Sem P X GL ae C)
def aX3 (F:li ae) {g:Gr} (G:ce g) {L:List Ru} {nl:Bool} (hL:L.length<=1000) (h:AH) (k:AV ->AH ->Prop) (hk:∀v h',(iG g L=true ->h.next<=h'.next/\∀j,j<h.next ->h'.oB.get j=h.oB.get j) ->k (.tu [v,.b (iG g L)]) h'):
 du C 42 [aI g,eR cM 4 nl L] h k:=by
 obtain⟨m,ver,ob⟩:=h;have db:nice 64 (eR cM 4 nl L)=true:=dg BA;have bq:=iW (g:=g);have dk:∀k,nice 64 (.dp (L.flatMap cM) k)=true:=λk=>by rw[fK,fE BA]
 simp only[ar] at bq;have pl:=G.pl;refine E.bS F.f42 (Y5 @Pt.eq_1 @aI.eq_1 @ar.eq_1 bq @dw ?_);refine fj E.ok L.length (λi τ h=>∃Sp Ns Al Ke,kM (L.take i) Sp Ns Al Ke/\ (∀j,j<i ->rj g L j=true)/\ m+6<=h.next/\ cG (h.oB.get m)=some (ar g)/\ cG (h.oB.get (m+5))=some [.m (m+1),.m (m+2),.m (m+3),.m (m+4)]/\
  mG (h.oB.get (m+1))=mX eJ sL Sp/\ mG (h.oB.get (m+2))=mX eJ kK Ns/\ mG (h.oB.get (m+3))=mX kK AV.b Al/\ mG (h.oB.get (m+4))=mX kK AV.b Ke/\
  τ.get 2=some (.p m 0)/\ τ.get 6=some (.p (m+5) 0)/\ τ.get 22=some (eR cM 4 nl L)/\ τ.get 23=some (ι (L.length:Int))/\ τ.get 24=some (ι (i:Int))/\∀j,j<m ->h.oB.get j=ob.get j) ?_ ?_ _ _ ⟨[],[],[],[],kM.nil,λj hj=>by omega,bB _,?_,?_,?_,?_,?_,?_,?_,?_,?_,?_,?_,λj hj=>U0⟩
 ·rintro i τ ⟨n1,v1,aQ⟩ hi ⟨Sp,Ns,Al,Ke,bk,aC,hn,c0,c5,m1,m2,m3,m4,t2,t6,t22,t23,t24,old⟩ ih;have hn':m+6<=n1:=hn;dsimp only at c0 c5 m1 m2 m3 m4;have de:=c0;simp only[ar] at c0;have hri:L[i]? =some L[i]:=cE hi;generalize hr:L[i]=r at hri;have e4:sub (L.flatMap cM) (i*4) 4=some (cM r):=cW zc hri (j:=0) (n:=4) ω;simp only[cM] at e4;have oa:=Tm (g:=g) hri;have bad:rj g L i=false ->∀h',k (.tu [.pn,.b false]) h':=λh h'=>by
   have:=hk .pn h' λe=>by rw[Bz hi h] at e;cases e
   rw[Bz hi h] at this;exact this
  by_cases h1:r.p<0
  ·refine qt c0 c5 t2 t6 t22 t23 t24 @bG e4 db dk bq h1 ?_;exact bad (by rw[oa];unfold eP;rw[fe (show¬0<=r.p by omega)];rfl) _
  by_cases h2:(g.pR.length:Int)<=r.p
  ·refine wR c0 c5 t2 t6 t22 t23 t24 @bG e4 db dk bq h1 h2 ?_;exact bad (by rw[oa];unfold eP;rw[fe (show¬r.p<(g.pR.length:Int) by omega)];simp) _
  have lkS:∀bQ aA ob' (τ:T AV),mG (T.get ob' (m+1))=mX eJ sL Sp ->az C τ (.t 48)= .m (m+1) ->az C τ (.t 49)=eJ (r.p,r.s) ->
   step (az C τ) ⟨bQ,aA,ob'⟩ (.look (.ag [(0,1,false,.lf .i),(1,1,false,.lf .i)]) (.t 48) (.t 49) (.ag [ι 0,ι 0,ι 0,ι 0]) true)= .v (hU sL (.ag [ι 0,ι 0,ι 0,ι 0]) (look (r.p,r.s) Sp)) ⟨bQ,aA,ob'⟩:=
   λbQ aA ob' τ q1 q2 q3=>uQ (k:=(r.p,r.s)) (z:= .ag [ι 0,ι 0,ι 0,ι 0]) (en:=sL) EP (h:=⟨bQ,aA,ob'⟩) (fT.2 q1) q2 q3
  simp only[aW8,eJ] at lkS;refine IN c0 c5 t2 t6 t22 t23 t24 @bG e4 db dk bq h1 h2 lkS m1 m2 m3 m4 ?_;refine aX2 (r:=r) (n1:=n1) E G bk (λq hq=> ?_) ω ω hn' ?_ ?_ ?_ ?_ ?_ ?_ ?_ ?_ ?_ ?_ ?_ ?_ ?_ ?_ ?_ ?_ ?_ ?_ (λe h'=>bad (by rw[oa];exact e) h') (λe Sp' Ns' Al' Ke' τ' h' bk' bQ d0 d5 w1 w2 w3 w4 fr s2 s6 s22 s23 s24=> ?_)
  ·obtain⟨j,hj⟩:=List.mem_iff_getElem?.1 hq;rw[jZ] at hj;split at hj
   ·rename_i hji;have:=aC j hji;rw[Tm hj] at this;exact(nj.1 this).1
   ·cases hj
  ·show n1+2<=n1+1+1+1;omega
  ·exact W0 de
  ·exact W0 c5
  ·exact W0 m1
  ·exact W0 m2
  ·exact W0 m3
  ·exact W0 m4
  ·exact U0
  ·exact U0
  rotate_right
  ·obtain⟨n2,v2,aJ⟩:=h';simp(disch:=omega) only[dh,T.get_put,bV,t2,t6,t22,t23,t24] at s2 s6 s22 s23 s24;refine Y6 s2 s6 s22 s23 s24 @bK ?_;refine ih _ _ ⟨Sp',Ns',Al',Ke',?_,λj hj=> ?_,?_,d0,d5,w1,w2,w3,w4,?_,?_,?_,?_,?_,λj hj=>(fr j hj).trans (W0 (old j hj))⟩
   ·rw[nY hri];exact bk'
   ·by_cases q:j=i
    ·subst q;rw[oa];exact e
    ·exact aC j ω
   ·have:n1+1+1+1<=n2:=bQ;show m+6<=n2;omega
   all_goals exact U4 s2 s6 s22 s23
  all_goals exact U2 t2 t6
 ·rintro τ ⟨n1,v1,aQ⟩ ⟨Sp,Ns,Al,Ke,bk,aC,hn,c0,c5,m1,m2,m3,m4,t2,t6,t22,t23,t24,old⟩;refine Y5 t2 t6 t22 t23 t24 ?_;rw[Tl aC] at hk;exact hk _ _ λ_=>⟨by have h:m+6<=n1:=hn;show m<=n1;omega,old⟩
 ·exact U1 @ar.eq_1
 ·exact U0
 ·exact U0
 ·exact U0
 ·exact U0
 ·exact U0
 all_goals exact U0
end
end AM
