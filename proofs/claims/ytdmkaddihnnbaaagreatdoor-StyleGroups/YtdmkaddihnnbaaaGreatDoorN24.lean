import Derived.Test.YtdmkaddihnnbaaaGreatDoorN23
set_option linter.all false
set_option maxHeartbeats 8000000
namespace AM
open Dg Go
noncomputable section
def oT (k:Int):Bool:=decide (1<=k)&&decide (k<=5)
def iY (x y:Ru):Bool:=decide (x.p=y.p)&&decide (x.s=y.s)&&(decide (x.k=y.k)||(oT x.k&&oT y.k))
def xc (g:Gr) (p:Int):Int:=(((g.pR[p.toNat]?).map λq=>(q.right.length:Int)).getD 0)
def eP (g:Gr) (r:Ru):Bool:=decide (0<=r.p)&&decide (r.p<(g.pR.length:Int))&&decide (1<=r.k)&&decide (r.k<=8)&&
 (if r.k=7∨r.k=8 then decide (r.s=0)&&decide (r.n=0) else
  (if r.k=5 then decide (1<=r.n)&&decide (r.n<=3) else if r.k=6 then decide (1<=r.n)&&decide (r.n<=16) else decide (r.n=0))&&decide (0<=r.s)&&decide (r.s<xc g r.p-1))
def eW {p} [Decidable p] (h:p):decide p=true:=zG h
def fe {p} [Decidable p] (h:¬p):decide p=false:=ot h
variable {P:Program} {X:aR} {GL:T (List AV)} {ae:T au}
variable (S:aT P X GL ae)
variable (F:li ae)
def aW5 k h:bP P X GL 176 [ι k] h (.b (oT k)) h:=by
 refine dR S (n:=9) ?_ (by simp only[aL,bZ,dH]) h;refine bg.intro λC E=> ?_;rw[E.cB F.f176];by_cases h1:1<=k;refine Y1 h1 ?_;unfold oT;rw[eW h1];exact⟨1,rfl⟩;refine Y1 h1 ?_;unfold oT;rw[fe h1];exact⟨1,rfl⟩
def aW6 x y h:bP P X GL 93 [.ag (uC x),.ag (uC y)] h (.b (iY x y)) h:=by
 refine dR S (n:=9) ?_ (by simp only[aL,bZ,uC];rfl) h;refine bg.intro λC E=> ?_;have u:=λk h=>aW5 (GL:=GL) S F k h;unfold iY;rw[E.cB F.f93];by_cases h1:x.p=y.p;by_cases h2:x.s=y.s;by_cases j:x.k=y.k;refine Y4 @uC.eq_1 h1 h2 j ?_;exact⟨1,rfl⟩;refine Y4 @uC.eq_1 h1 h2 j ?_;refine E.cN (u _ _) ?_;cases A:oT x.k;refine Y0 ?_;exact⟨1,rfl⟩;refine Y0 ?_;refine E.cN (u _ _) (Y0 ?_);cases oT y.k<;>exact⟨1,rfl⟩;refine Y3 @uC.eq_1 h1 h2 ?_;exact⟨1,rfl⟩;refine Y2 @uC.eq_1 h1 ?_;exact⟨1,rfl⟩
def aW7 {g} (G:oy g) r h:bP P X GL 92 [aI g,.ag (uC r)] h (.b (eP g r)) h:=by
 refine ku S (λn h=>rfl) ?_ h;refine bg.intro λC E=> ?_;have pl:=G.pl;rw[E.cB F.f92];unfold eP;by_cases h1:r.p<0;have u:¬0<=r.p:=by omega
 refine Y6 @uC.eq_1 @aI.eq_1 @ar.eq_1 h1 u @pQ ?_;exact⟨1,rfl⟩;have u:0<=r.p:=by omega
 by_cases h2:(g.pR.length:Int)<=r.p;have A:¬r.p<(g.pR.length:Int):=by omega
 refine Y9 @uC.eq_1 @aI.eq_1 @ar.eq_1 h1 u h2 A @pQ @pP ?_;exact⟨1,rfl⟩;have A:r.p<(g.pR.length:Int):=by omega
 by_cases Z:r.k<1;have I:¬1<=r.k:=by omega
 refine iU @uC.eq_1 @aI.eq_1 @ar.eq_1 h1 u h2 A Z I @pQ @pP @uh ?_;exact⟨1,rfl⟩;have I:1<=r.k:=by omega
 by_cases h4:8<r.k;have O:¬r.k<=8:=by omega
 refine qk @uC.eq_1 @aI.eq_1 @ar.eq_1 h1 u h2 A Z I h4 O @pQ @pP @uh ?_;exact⟨1,rfl⟩;have O:r.k<=8:=by omega
 obtain⟨i,hi⟩:∃i:Nat,r.p=(i:Int):=⟨r.p.toNat,by omega⟩;have b0:i<g.pR.length:=by omega
 have J:g.pR[i]? =some g.pR[i]:=oc b0;generalize hp:g.pR[i]=p at J;have pk:=G.p p (dI J);have rl:=pk.len;have b1:xc g (i:Int)=(p.right.length:Int):=by unfold xc;rw[show((i:Int)).toNat=i from rfl,J];rfl
 have e2:sub (g.pR.flatMap aM) (i*13+2) 1=some [eR ba 2 p.rn p.right]:=cW kr J (j:=2) (n:=1) ω;rw[hi] at h1 u h2 A;rw[hi,b1,eW u,eW A,eW I,eW O];by_cases V:r.k=7;by_cases B:r.s=0;refine nS @uC.eq_1 @aI.eq_1 @ar.eq_1 hi h1 h2 V B @uh @true_or ?_;exact⟨1,rfl⟩;refine jC @uC.eq_1 @aI.eq_1 @ar.eq_1 hi h1 h2 V B @uh @pQ @true_or ?_;exact⟨1,rfl⟩;by_cases W:r.k=8;by_cases B:r.s=0;refine nS @uC.eq_1 @aI.eq_1 @ar.eq_1 hi h1 h2 W B @uh @or_true ?_;exact⟨1,rfl⟩;refine jC @uC.eq_1 @aI.eq_1 @ar.eq_1 hi h1 h2 W B @uh @pQ @or_true ?_;exact⟨1,rfl⟩;rw[aD (λh=>h.elim V W)];have H:∀(b:Bool),b=true ->∀τ ver ob,τ.get 2=some (.p 0 0) ->τ.get 3=some (.p 1 0) ->cG (T.get ob 0)=some (ar g) ->cG (T.get ob 1)=some [ι (i:Int),ι r.s,ι r.k,ι r.n] ->df C bi9 [.s .ret] (KF (λx h=>∃n,deep n h x=some (.b (true&&true&&true&&true&&(b&&decide (0<=r.s)&&decide (r.s<(p.right.length:Int)-1))))) [(4,none)]) τ ⟨2,ver,ob⟩:=by
  intro b hb τ ver ob t2 t3 c0 c1;subst hb;simp only[ar] at c0;unfold bi9;have bs:aY .sub (ι (p.right.length:Int)) (ι 1)=some (ι ((p.right.length:Int)-1)):=rX ⟨by omega,by omega⟩;by_cases B:0<=r.s;by_cases s1:r.s<(p.right.length:Int)-1;rw[eW B,eW s1];refine Y8 t2 t3 c0 c1 B s1 e2 bs ?_;exact⟨1,rfl⟩;rw[eW B,fe s1];refine Y8 t2 t3 c0 c1 B s1 e2 bs ?_;exact⟨1,rfl⟩;rw[fe B];refine Y5 t3 c1 B @pP @pQ ?_;exact⟨1,rfl⟩
 by_cases L:r.k=5;by_cases n1:r.n<1;have R:¬1<=r.n:=by omega
 refine jC @uC.eq_1 @aI.eq_1 @ar.eq_1 hi h1 h2 L n1 R @pQ @pP ?_;exact⟨1,rfl⟩;by_cases Y:3<r.n;have U:¬r.n<=3:=by omega
 refine iU @uC.eq_1 @aI.eq_1 @ar.eq_1 hi h1 h2 L n1 Y U @pQ @pP ?_;exact⟨1,rfl⟩;rw[aF L,eW (show 1<=r.n by omega),eW (show r.n<=3 by omega)];refine Y9 @uC.eq_1 @aI.eq_1 @ar.eq_1 hi h1 h2 L n1 Y ?_;exact H _ rfl _ _ _ U0 U0 (U1 @ar.eq_1) (U1 L);rw[aD L];by_cases N:r.k=6;by_cases n1:r.n<1;have R:¬1<=r.n:=by omega
 refine jC @uC.eq_1 @aI.eq_1 @ar.eq_1 hi h1 h2 N n1 R @pQ @pP ?_;exact⟨1,rfl⟩;by_cases Y:16<r.n;have U:¬r.n<=16:=by omega
 refine jC @uC.eq_1 @aI.eq_1 @ar.eq_1 hi h1 h2 N n1 Y U (ec @pQ<| @pP) ?_;exact⟨1,rfl⟩;rw[aF N,eW (show 1<=r.n by omega),eW (show r.n<=16 by omega)];refine Y9 @uC.eq_1 @aI.eq_1 @ar.eq_1 hi h1 h2 N n1 Y ?_;exact H _ rfl _ _ _ U0 U0 (U1 @ar.eq_1) (U1 N);rw[aD N];by_cases n0:r.n=0;rw[eW n0];refine pm @uC.eq_1 @aI.eq_1 @ar.eq_1 hi h1 h2 Z h4 V W L N n0 ?_;exact H _ rfl _ _ _ U0 U0 (U1 @ar.eq_1) (U1 n0);rw[fe n0];refine sB @uC.eq_1 @aI.eq_1 @ar.eq_1 hi h1 h2 Z h4 V W L N n0 @pQ @pP ?_;exact⟨1,rfl⟩
def rj (g:Gr) (L:List Ru) (i:Nat):Bool:=match L[i]? with
 |some r=>eP g r&&(L.take i).all λq=> !iY r q
 |none=>true
def iG (g:Gr) (L:List Ru):Bool:=(List.range L.length).all (rj g L)
def Bz {g L i} (hi:i<L.length) (h:rj g L i=false):iG g L=false:=by
 unfold iG;rw[List.all_eq_false];exact⟨i,mA.2 hi,by rw[h];simp⟩
def Tl {g L} (h:∀i,i<L.length ->rj g L i=true):iG g L=true:=by
 unfold iG;rw[fX];exact λi hi=>h i (mA.1 hi)
def aR7 {n} r:nice.niceL n (uC r)=true:=by simp only[uC,Bg,iq,j9,A7]
def BB {n h} a:bJ n h (uC a)=some (uC a):=by simp only[uC,aL,bZ,dH]
def Km {g} (G:oy g) {L nl} (hL:L.length<=1000):bg P X GL ae 50 [aI g,eR uC 4 nl L] (.b (iG g L)):=by
 refine bg.intro λC E=> ?_;have rc:=λr h=>aW7 S F G r h;have cc:=λx y h=>aW6 (GL:=GL) S F x y h;simp only[aI,ar,uC] at rc cc;have bq:=iW (g:=g);simp only[ar] at bq;refine E.bS F.f50 (Y2 @aI.eq_1 @ar.eq_1 ?_);refine fj E.ok L.length (λi τ h=>(∀j,j<i ->rj g L j=true)/\ 1<=h.next/\ cG (h.oB.get 0)=some (ar g)/\ τ.get 1=some (eR uC 4 nl L)/\ τ.get 2=some (.p 0 0)/\ τ.get 5=some (ι (i:Int))) ?_ ?_ _ _ ⟨λj R=>by omega,bB _,?_,?_,?_,?_⟩
 ·rintro i τ ⟨n1,v1,aQ⟩ hi ⟨N,W,c0,t1,t2,t5⟩ ih;dsimp only at c0;have de:=c0;simp only[ar] at c0;have H:L[i]? =some L[i]:=oc hi;generalize hr:L[i]=r at H;have e4:sub (L.flatMap uC) (i*4) 4=some (uC r):=cW Qm H (j:=0) (n:=4) ω;simp only[uC] at e4;have oa:rj g L i=(eP g r&&(L.take i).all λq=> !iY r q):=by unfold rj;rw[H]
  refine Y5 c0 t1 t2 t5 e4 ?_;refine E.cN (rc _ _) (Y5 c0 t1 t2 t5 e4 ?_);cases hb:eP g r with
  |false=>
   refine Y5 c0 t1 t2 t5 e4 ?_;rw[Bz hi (by rw[oa,hb];rfl)];exact⟨1,rfl⟩
  |true=>
   rw[hb] at oa;rw[uh] at oa;refine Y5 c0 t1 t2 t5 e4 ?_;refine fj E.ok i (λj τ h=>(∀q∈L.take j,iY r q=false)/\ 1<=h.next/\ cG (h.oB.get 0)=some (ar g)/\ τ.get 1=some (eR uC 4 nl L)/\ τ.get 2=some (.p 0 0)/\ τ.get 5=some (ι (i:Int))/\ τ.get 6=some (ι (j:Int))) ?_ ?_ _ _ ⟨by simp,W,de,?_,?_,?_,?_⟩
   ·rintro j τ ⟨n2,v2,aJ⟩ R ⟨A,B,O,J,V,I,s6⟩ U;have u:L[j]? =some L[j]:=oc ω;generalize Z:L[j]=q at u;have f4:sub (L.flatMap uC) (j*4) 4=some (uC q):=cW Qm u (j:=0) (n:=4) ω;simp only[uC] at f4;refine Y5 J I s6 e4 f4 ?_;refine E.cN (cc _ _ _) (Y5 J I s6 e4 f4 ?_);cases Y:iY r q with
    |true=>
     refine Y0 ?_;rw[Bz hi (by
      rw[oa,List.all_eq_false];refine⟨q,?_,by rw[Y];simp⟩;exact dI (i:=j) (by rw[jZ,aF R];exact u))]
     exact⟨1,rfl⟩
    |false=>
     refine Y2 I s6 ?_;refine U _ _ ⟨λz hz=> ?_,B,O,?_,?_,?_,?_⟩;rw[nY u] at hz;rcases fO.1 hz with h|h;exact A z h;rw[yC.1 h];exact Y;all_goals exact U3 J V I
   ·rintro τ ⟨n2,v2,aJ⟩ ⟨A,B,O,J,V,I,s6⟩;refine Y2 I s6 ?_;refine ih _ _ ⟨λj R=> ?_,B,O,?_,?_,?_⟩;by_cases e:j=i;subst e;rw[oa,fX];intro q Z;rw[A q Z];rfl;exact N j ω;all_goals exact U3 J V I
   all_goals exact U3 t1 t2 t5
 rintro τ ⟨n1,v1,aQ⟩ ⟨N,W,c0,t1,t2,t5⟩;refine Y2 t1 t5 ?_;rw[Tl N];exact⟨1,rfl⟩;exact U1 @ar.eq_1;all_goals exact U0
instance:Nc uC:=⟨λ_ _=>aR7 _⟩
attribute [go_sem] aR7
def eJ (p:Int×Int):AV:= .ag [ι p.1,ι p.2]
def EP:rZ eJ tK where
 eq:=λa b=>by
  obtain⟨a1,a2⟩:=a;obtain⟨j,b2⟩:=b;have h:eH 6 tK (eJ (a1,a2)) (eJ (j,b2))=(match (some (eO a1 j):Option Bool) with
   |some true=>(match (some (eO a2 b2):Option Bool) with
    |some true=>some true
    |r=>r)
   |r=>r):=rfl
  rw[h,A3,A3];by_cases h1:a1=j<;>by_cases h2:a2=b2<;>simp[h1,h2]
 q:=λa=>by
  obtain⟨a1,a2⟩:=a;have h:En tK (eJ (a1,a2))=(match (match (some (eO a1 a1):Option Bool) with
   |some true=>(match (some (eO a2 a2):Option Bool) with
    |some true=>some true
    |r=>r)
   |r=>r) with|some true=>true|_=>false):=rfl
  rw[h,A3,A3];simp
 self:=λa=>by
  obtain⟨a1,a2⟩:=a;have h:o9 (eJ (a1,a2)) (eJ (a1,a2))=((gZ .i64 .i64&&eO a1 a1)&&((gZ .i64 .i64&&eO a2 a2)&&true)):=rfl;rw[h,A3,A3];simp[gZ]
def sL (r:Ru):AV:= .ag [ι r.p,ι r.s,ι r.k,ι r.n]
def kK (n:Int):AV:=ι n
def mX {κ ν:Type} (ek:κ ->AV) (en:ν ->AV) (l:List (κ×ν)):Option (List (AV×AV×Nat)×Nat):=some (di ek en 0 l,l.length)
def z4:AV:= .ag [ι 0,ι 0,ι 0,ι 0]
def EQ:Option Ru ->Ru
 |some r=>r
 |none=>⟨0,0,0,0⟩
def aW8 {o}:Bb sL (.ag [ι 0,ι 0,ι 0,ι 0]) o= .tu [.ag [ι (EQ o).p,ι (EQ o).s,ι (EQ o).k,ι (EQ o).n],.b o.isSome]:=by cases o<;>rfl
def aW9 {o}:oF kK (ι 0) o=ι (o.getD 0):=by cases o<;>rfl
def aX0 {o}:oF AV.b (.b false) o= .b (o.getD false):=by cases o<;>rfl
structure kM (D:List Ru) (Sp:List ((Int×Int)×Ru)) (Ns:List ((Int×Int)×Int)) (Al Ke:List (Int×Bool)):Prop where
 f1:∀p s,(look (p,s) Sp).isSome=D.any λq=>decide (q.p=p)&&decide (q.s=s)&&oT q.k
 f2:∀p s,decide (0<(look (p,s) Ns).getD 0)=D.any λq=>decide (q.p=p)&&decide (q.s=s)&&decide (q.k=6)
 f3:∀p,(look p Al).getD false=D.any λq=>decide (q.p=p)&&decide (q.k=7)
 f4:∀p,(look p Ke).getD false=D.any λq=>decide (q.p=p)&&decide (q.k=8)
 f5:∀k r,look k Sp=some r ->r∈D/\ oT r.k=true
 f6:∀k n,look k Ns=some n ->∃r∈D,r.k=6/\ r.n=n
def mV {α:Type} {D} {r:α} {f}:(D++[r]).any f=(D.any f||f r):=by simp[List.any_append]
def ER {α:Type} {D:List α} {f g} (h:∀q∈D,f q=g q):D.any f=D.any g:=by
 induction D with
 |nil=>rfl
 |cons a t u=>rw[qL,qL,h a (by simp),u λq j=>h q (by simp[j])]
def zd {k} (h:5<k):oT k=false:=by unfold oT;rw[fe (show¬k<=5 by omega)];simp
def ES {p q} [Decidable p] [Decidable q] (h:p↔¬q):decide p= !decide q:=by by_cases e:q<;>simp[h,e]
def tU {a b:Int}:decide (a=b)=decide (b=a):=by by_cases h:a=b<;>simp[h,eq_comm]
def EU {g r} (h:eP g r=true) (j:r.k=7∨r.k=8):r.s=0:=by
 unfold eP at h;rw[aF j] at h;simp only[aB,aU] at h;exact h.2.1
def kM.nil:kM [] [] [] [] []:=⟨λ_ _=>rfl,λ_ _=>rfl,λ_=>rfl,λ_=>rfl,λ_ _ h=>(by cases h),λ_ _ h=>(by cases h)⟩
section
variable {D:List Ru} {Sp:List ((Int×Int)×Ru)} {Ns:List ((Int×Int)×Int)} {Al Ke:List (Int×Bool)} (b:kM D Sp Ns Al Ke) {r:Ru}
include b
theorem kM.sep (h1:1<=r.k) (u:r.k<=5):kM (D++[r]) (ups (r.p,r.s) r Sp) Ns Al Ke where
 f1:=λp s=>by
  rw[Fh,mV,←b.f1];have H:oT r.k=true:=by unfold oT;rw[eW h1,eW u];rfl
  by_cases e:(p,s)=(r.p,r.s);rw[aF e];obtain⟨e1,e2⟩:=(xK ..).mp e;subst e1 e2;simp[H];rw[aD e];have:(decide (r.p=p)&&decide (r.s=s))=false:=by
   by_cases A:r.p=p;by_cases B:r.s=s;exact bh (by rw[A,B]) e;simp[B];simp[A]
  rw[this];simp
 f2:=λp s=>by rw[mV,←b.f2,fe (show¬r.k=6 by omega)];simp
 f3:=λp=>by rw[mV,←b.f3,fe (show¬r.k=7 by omega)];simp
 f4:=λp=>by rw[mV,←b.f4,fe (show¬r.k=8 by omega)];simp
 f5:=λk q j=>by
  rw[Fh] at j;split at j;cases j;exact⟨by simp,by unfold oT;rw[eW h1,eW u];rfl⟩;exact⟨xI _ (b.f5 k q j).1,(b.f5 k q j).2⟩
 f6:=λk n G=>by obtain⟨q,h1,h2⟩:=b.f6 k n G;exact⟨q,xI _ h1,h2⟩
theorem kM.nest (u:r.k=6) (j:1<=r.n):kM (D++[r]) Sp (ups (r.p,r.s) r.n Ns) Al Ke where
 f1:=λp s=>by rw[mV,←b.f1,zd ω];simp
 f2:=λp s=>by
  rw[Fh,mV,←b.f2,eW u];by_cases e:(p,s)=(r.p,r.s);rw[aF e];obtain⟨e1,e2⟩:=(xK ..).mp e;subst e1 e2;simp;omega;rw[aD e];have:(decide (r.p=p)&&decide (r.s=s))=false:=by
   by_cases B:r.p=p;by_cases G:r.s=s;exact bh (by rw[B,G]) e;simp[G];simp[B]
  rw[this];simp
 f3:=λp=>by rw[mV,←b.f3,fe (show¬r.k=7 by omega)];simp
 f4:=λp=>by rw[mV,←b.f4,fe (show¬r.k=8 by omega)];simp
 f5:=λk q A=>⟨xI _ (b.f5 k q A).1,(b.f5 k q A).2⟩
 f6:=λk n j=>by
  rw[Fh] at j;split at j;cases j;exact⟨r,by simp,u,rfl⟩;obtain⟨q,h1,h2⟩:=b.f6 k n j;exact⟨q,xI _ h1,h2⟩
theorem kM.algn (u:r.k=7):kM (D++[r]) Sp Ns (ups r.p true Al) Ke where
 f1:=λp s=>by rw[mV,←b.f1,zd ω];simp
 f2:=λp s=>by rw[mV,←b.f2,fe (show¬r.k=6 by omega)];simp
 f3:=λp=>by
  rw[Fh,mV,←b.f3,eW u];by_cases e:p=r.p;rw[aF e,eW e.symm];simp;rw[aD e,fe λq=>e q.symm];simp
 f4:=λp=>by rw[mV,←b.f4,fe (show¬r.k=8 by omega)];simp
 f5:=λk q j=>⟨xI _ (b.f5 k q j).1,(b.f5 k q j).2⟩
 f6:=λk n A=>by obtain⟨q,h1,h2⟩:=b.f6 k n A;exact⟨q,xI _ h1,h2⟩
theorem kM.keep (u:r.k=8):kM (D++[r]) Sp Ns Al (ups r.p true Ke) where
 f1:=λp s=>by rw[mV,←b.f1,zd ω];simp
 f2:=λp s=>by rw[mV,←b.f2,fe (show¬r.k=6 by omega)];simp
 f3:=λp=>by rw[mV,←b.f3,fe (show¬r.k=7 by omega)];simp
 f4:=λp=>by
  rw[Fh,mV,←b.f4,eW u];by_cases e:p=r.p;rw[aF e,eW e.symm];simp;rw[aD e,fe λq=>e q.symm];simp
 f5:=λk q j=>⟨xI _ (b.f5 k q j).1,(b.f5 k q j).2⟩
 f6:=λk n A=>by obtain⟨q,h1,h2⟩:=b.f6 k n A;exact⟨q,xI _ h1,h2⟩
theorem kM.t1 (h1:1<=r.k) (u:r.k<=5):(look (r.p,r.s) Sp).isSome=D.any (iY r):=by
 have j:oT r.k=true:=by unfold oT;rw[eW h1,eW u];rfl
 rw[b.f1];refine ER λq _=> ?_;unfold iY;rw[tU (a:=r.p),tU (a:=r.s),j,uh];by_cases e:r.k=q.k;rw[←e,j];simp;rw[fe e];simp
theorem kM.t2 (j:r.k=6):decide (0<(look (r.p,r.s) Ns).getD 0)=D.any (iY r):=by
 rw[b.f2];refine ER λq _=> ?_;unfold iY;rw[tU (a:=r.p),tU (a:=r.s),tU (a:=r.k),zd (k:=r.k) ω,j];simp
theorem kM.t3 {g} (j:r.k=7) (B:r.s=0) (u:∀q∈D,eP g q=true):(look r.p Al).getD false=D.any (iY r):=by
 rw[b.f3];refine ER λq A=> ?_;unfold iY;rw[tU (a:=r.p),tU (a:=r.k),zd (k:=r.k) ω,j,B];by_cases e:q.k=7;have:=EU (u q A) (.inl e);rw[this];simp;simp[e]
theorem kM.t4 {g} (j:r.k=8) (B:r.s=0) (u:∀q∈D,eP g q=true):(look r.p Ke).getD false=D.any (iY r):=by
 rw[b.f4];refine ER λq A=> ?_;unfold iY;rw[tU (a:=r.p),tU (a:=r.k),zd (k:=r.k) ω,j,B];by_cases e:q.k=8;have:=EU (u q A) (.inr e);rw[this];simp;simp[e]
end
def aX1 {α:Type} {D:List α} {f}:(D.all λq=> !f q)= !D.any f:=by
 induction D with
 |nil=>rfl
 |cons a t j=>rw[xE,qL,j];simp
def lA {C:aK Prop} {K τ h}:∀{S:List Fr},gV C .ret S K τ h↔gV C .ret [] K τ h
 |[]=>Iff.rfl
 | .s _::S=>lA (S:=S)
 | .b _::S=>lA (S:=S)
def pD (g:Gr) (r:Ru) (tk:Bool) (lo hi:Int):Bool:=tk||decide (r.n<lo)||decide (hi<r.n)||decide (r.s<0)||decide ((if r.k=7∨r.k=8 then 1 else xc g r.p-1)<=r.s)
def vh {C:aK Prop} (E:Sem P X GL ae C) {g} (G:oy g) {r:Ru} {i:Nat} (hi:r.p=(i)) (U:i<g.pR.length) {tk lo hi' m n1} {S:List Fr} {k h τ}
 (c0:cG (h.oB.get m)=some (ar g)) (c8:cG (h.oB.get n1)=some [ι r.p,ι r.s,ι r.k,ι r.n])
 (t2:τ.get 2=some (.p m 0)) (t8:τ.get 8=some (.p n1 0)) (t9:τ.get 9=some (ι lo)) (t10:τ.get 10=some (ι hi')) (u:τ.get 14=some (.b tk))
 (hb:pD g r tk lo hi'=true ->k (.tu [.pn,.b false]) h)
 (J:pD g r tk lo hi'=false ->∀τ',(∀j,j<=8 ->τ'.get j=τ.get j) ->(∀j,16<=j ->j<=120 ->τ'.get j=τ.get j) ->gV C .normal S (KF k [(4,none),(5,none)]) τ' h):
 df C TW (.s aL2::S) (KF k [(4,none),(5,none)]) τ h:=by
 obtain⟨m2,ver,ob⟩:=h;dsimp only at c0 c8;have pl:=G.pl;have L:g.pR[i]? =some g.pR[i]:=oc U;generalize Z:g.pR[i]=p at L;have Y:=G.p p (dI L);have rl:=Y.len;have V:xc g r.p=(p.right.length:Int):=by unfold xc;rw[hi,show((i:Int)).toNat=i from rfl,L];rfl
 have e2:sub (g.pR.flatMap aM) (i*13+2) 1=some [eR ba 2 p.rn p.right]:=cW kr L (j:=2) (n:=1) ω;have bs:aY .sub (ι (p.right.length:Int)) (ι 1)=some (ι ((p.right.length:Int)-1)):=rX ⟨by omega,by omega⟩;rw[hi] at c8;simp only[ar] at c0;unfold pD at hb J;rw[V] at hb J;have key:∀sl:Int,(if r.k=7∨r.k=8 then 1 else (p.right.length:Int)-1)=sl ->(((r.k=7)=True/\ (r.k=8)=False/\ sl=1)∨((r.k=7)=False/\ (r.k=8)=True/\ sl=1)∨((r.k=7)=False/\ (r.k=8)=False/\ sl=(p.right.length:Int)-1)):=by
  intro sl e;by_cases A:r.k=7;rw[aF (.inl A)] at e;exact .inl ⟨fq A,av,e.symm⟩;by_cases B:r.k=8;rw[aF (.inr B)] at e;exact .inr (.inl ⟨dQ A,fq B,e.symm⟩);rw[aD (λh=>h.elim A B)] at e;exact .inr (.inr ⟨dQ A,dQ B,e.symm⟩)
 generalize W:(if r.k=7∨r.k=8 then 1 else (p.right.length:Int)-1)=sl at hb J;unfold TW;rcases key sl W with ⟨A,B,R⟩|⟨A,B,R⟩|⟨A,B,R⟩
 ·rw[R] at hb J;cases tk with
  |true=>
   refine Y9 c0 c8 t2 t8 u e2 bs A B ?_;rw[lA];refine Y0 ?_;exact hb rfl
  |false=>
  by_cases h1:r.n<lo;rw[eW h1] at hb;refine jC c0 c8 t2 t8 t9 u e2 bs A B h1 ?_;rw[lA];refine Y0 ?_;exact hb rfl;by_cases h2:hi'<r.n;rw[eW h2] at hb;refine pm c0 c8 t2 t8 t9 t10 u e2 bs A B h1 h2 ?_;rw[lA];refine Y0 ?_;exact hb (by simp);by_cases H:r.s<0;rw[eW H] at hb;refine qk c0 c8 t2 t8 t9 t10 u e2 bs A B h1 h2 H ?_;rw[lA];refine Y0 ?_;exact hb (by simp);by_cases I:1<=r.s;rw[eW I] at hb;refine sB c0 c8 t2 t8 t9 t10 u e2 bs A B h1 h2 H I ?_;rw[lA];refine Y0 ?_;exact hb (by simp);rw[fe h1,fe h2,fe H,fe I] at J;refine sB c0 c8 t2 t8 t9 t10 u e2 bs A B h1 h2 H I ?_;refine J rfl _ (λj N=> ?_) (λj N O=> ?_);all_goals exact U0
 ·rw[R] at hb J;cases tk with
  |true=>
   refine Y9 c0 c8 t2 t8 u e2 bs A B ?_;rw[lA];refine Y0 ?_;exact hb rfl
  |false=>
  by_cases h1:r.n<lo;rw[eW h1] at hb;refine jC c0 c8 t2 t8 t9 u e2 bs A B h1 ?_;rw[lA];refine Y0 ?_;exact hb rfl;by_cases h2:hi'<r.n;rw[eW h2] at hb;refine pm c0 c8 t2 t8 t9 t10 u e2 bs A B h1 h2 ?_;rw[lA];refine Y0 ?_;exact hb (by simp);by_cases H:r.s<0;rw[eW H] at hb;refine qk c0 c8 t2 t8 t9 t10 u e2 bs A B h1 h2 H ?_;rw[lA];refine Y0 ?_;exact hb (by simp);by_cases I:1<=r.s;rw[eW I] at hb;refine sB c0 c8 t2 t8 t9 t10 u e2 bs A B h1 h2 H I ?_;rw[lA];refine Y0 ?_;exact hb (by simp);rw[fe h1,fe h2,fe H,fe I] at J;refine sB c0 c8 t2 t8 t9 t10 u e2 bs A B h1 h2 H I ?_;refine J rfl _ (λj N=> ?_) (λj N O=> ?_);all_goals exact U0
 ·rw[R] at hb J;cases tk with
  |true=>
   refine Y9 c0 c8 t2 t8 u e2 bs A B ?_;rw[lA];refine Y0 ?_;exact hb rfl
  |false=>
  by_cases h1:r.n<lo;rw[eW h1] at hb;refine jC c0 c8 t2 t8 t9 u e2 bs A B h1 ?_;rw[lA];refine Y0 ?_;exact hb rfl;by_cases h2:hi'<r.n;rw[eW h2] at hb;refine pm c0 c8 t2 t8 t9 t10 u e2 bs A B h1 h2 ?_;rw[lA];refine Y0 ?_;exact hb (by simp);by_cases H:r.s<0;rw[eW H] at hb;refine qk c0 c8 t2 t8 t9 t10 u e2 bs A B h1 h2 H ?_;rw[lA];refine Y0 ?_;exact hb (by simp);by_cases I:((p.right.length:Int)-1)<=r.s;rw[eW I] at hb;refine sB c0 c8 t2 t8 t9 t10 u e2 bs A B h1 h2 H I ?_;rw[lA];refine Y0 ?_;exact hb (by simp);rw[fe h1,fe h2,fe H,fe I] at J;refine sB c0 c8 t2 t8 t9 t10 u e2 bs A B h1 h2 H I ?_;refine J rfl _ (λj N=> ?_) (λj N O=> ?_);all_goals exact U0
def Tm {g L i r} (j:L[i]? =some r):rj g L i=(eP g r&& !(L.take i).any (iY r)):=by unfold rj;rw[j];dsimp only;rw[aX1]
def vj {b} (h:(!b)=true):b=false:=by cases b<;>simp_all
def vk {b} (h:(!b)=false):b=true:=by cases b<;>simp_all
def s6 {g r} (h:eP g r=true) (j:r.k=6):1<=r.n:=by
 unfold eP at h;rw[aD ω,aD ω,aF j] at h;simp only[aB,aU] at h;omega
def vl {g r tk lo hi} (h0:0<=r.p) (h1:r.p<(g.pR.length:Int)) (G:1<=r.k) (H:r.k<=8) (B:(r.k=5/\ lo=1/\ hi=3)∨(r.k=6/\ lo=1/\ hi=16)∨(r.k≠5/\ r.k≠6/\ lo=0/\ hi=0)):
 pD g r tk lo hi= !(eP g r&& !tk):=by
 have key:∀a b c d e f:Bool,(a||b||c||d||e)= !(!b&& !c&& !d&& !e&& !a):=by intros a b c d e f;cases a<;>cases b<;>cases c<;>cases d<;>cases e<;>rfl
 unfold pD eP;rw[eW h0,eW h1,eW G,eW H];cases tk with
 |true=>simp
 |false=>
 by_cases A:r.k=7∨r.k=8;rw[aF A,aF A];have:lo=0/\ hi=0:=by omega
 rw[this.1,this.2];by_cases a:r.n<0;rw[eW a,fe (show¬r.n=0 by omega)];simp;by_cases b:0<r.n;rw[eW b,fe (show¬r.n=0 by omega)];simp;by_cases c:r.s<0;rw[eW c,fe (show¬r.s=0 by omega)];simp;by_cases d:1<=r.s;rw[eW d,fe (show¬r.s=0 by omega)];simp;rw[fe a,fe b,fe c,fe d,eW (show r.n=0 by omega),eW (show r.s=0 by omega)];rfl;rw[aD A,aD A];generalize xc g r.p-1=sl;have e1:decide (0<=r.s)= !decide (r.s<0):=by by_cases q:r.s<0<;>simp[q]<;>omega
 have e2:decide (r.s<sl)= !decide (sl<=r.s):=by by_cases q:r.s<sl<;>simp[q]<;>omega
 have e3:(if r.k=5 then decide (1<=r.n)&&decide (r.n<=3) else if r.k=6 then decide (1<=r.n)&&decide (r.n<=16) else decide (r.n=0))=(!decide (r.n<lo)&& !decide (hi<r.n)):=by
  rcases B with ⟨q,j,u⟩|⟨q,j,u⟩|⟨q,I,j,u⟩;rw[aF q,j,u,ES (show(1<=r.n↔¬r.n<1) by omega),ES (show(r.n<=3↔¬3<r.n) by omega)];rw[aD ω,aF q,j,u,ES (show(1<=r.n↔¬r.n<1) by omega),ES (show(r.n<=16↔¬16<r.n) by omega)];rw[aD q,aD I,j,u];by_cases a:r.n<0;rw[eW a,fe (show¬r.n=0 by omega)];rfl;by_cases b:0<r.n;rw[eW b,fe (show¬r.n=0 by omega)];simp;rw[fe a,fe b,eW (show r.n=0 by omega)];rfl
 rw[e1,e2,e3];cases decide (r.n<lo)<;>cases decide (hi<r.n)<;>cases decide (r.s<0)<;>cases decide (sl<=r.s)<;>rfl
def aX2 {C:aK Prop} (E:Sem P X GL ae C) {g} (G:oy g) {D r Sp Ns Al Ke} (bk:kM D Sp Ns Al Ke) (hD:∀q∈D,eP g q=true) (p0:0<=r.p) (p1:r.p<(g.pR.length:Int)) {m n1} {S:List Fr} {k h τ}
 (hn:m+6<=n1) (hx:n1+2<=h.next) (c0:cG (h.oB.get m)=some (ar g)) (c5:cG (h.oB.get (m+5))=some [.m (m+1),.m (m+2),.m (m+3),.m (m+4)])
 (m1:mG (h.oB.get (m+1))=mX eJ sL Sp) (m2:mG (h.oB.get (m+2))=mX eJ kK Ns) (m3:mG (h.oB.get (m+3))=mX kK AV.b Al) (m4:mG (h.oB.get (m+4))=mX kK AV.b Ke)
 (c8:cG (h.oB.get n1)=some [ι r.p,ι r.s,ι r.k,ι r.n]) (N:cG (h.oB.get (n1+1))=some [ι r.p,ι r.s])
 (t2:τ.get 2=some (.p m 0)) (t6:τ.get 6=some (.p (m+5) 0)) (t8:τ.get 8=some (.p n1 0)) (t9:τ.get 9=some (ι 0)) (t10:τ.get 10=some (ι 0)) (bH:τ.get 11=some (.p (n1+1) 0)) (R:τ.get 13=some (.b (look (r.p,r.s) Sp).isSome)) (b7:τ.get 14=some (.b false)) (I:τ.get 54=some (ι r.k))
 (hb:(eP g r&& !D.any (iY r))=false ->∀h',k (.tu [.pn,.b false]) h')
 (Z:(eP g r&& !D.any (iY r))=true ->∀Sp' Ns' Al' Ke' τ' h',kM (D++[r]) Sp' Ns' Al' Ke' ->h.next<=h'.next ->cG (h'.oB.get m)=some (ar g) ->cG (h'.oB.get (m+5))=some [.m (m+1),.m (m+2),.m (m+3),.m (m+4)] ->
  mG (h'.oB.get (m+1))=mX eJ sL Sp' ->mG (h'.oB.get (m+2))=mX eJ kK Ns' ->mG (h'.oB.get (m+3))=mX kK AV.b Al' ->mG (h'.oB.get (m+4))=mX kK AV.b Ke' ->(∀j,j<m ->h'.oB.get j=h.oB.get j) ->
  τ'.get 2=τ.get 2 ->τ'.get 6=τ.get 6 ->τ'.get 22=τ.get 22 ->τ'.get 23=τ.get 23 ->τ'.get 24=τ.get 24 ->gV C .normal S (KF k [(4,none),(5,none)]) τ' h'):
 df C aL1 (.s (.seq TW aL2)::S) (KF k [(4,none),(5,none)]) τ h:=by
 obtain⟨nx,ver,ob⟩:=h;dsimp only at c0 c5 c8 N m1 m2 m3 m4 hx;obtain⟨i,hi⟩:∃i:Nat,r.p=(i:Int):=⟨r.p.toNat,by omega⟩;have J:i<g.pR.length:=by omega
 have O:∀(a b c:Nat) H A ob' (τ:T AV),mG (T.get ob' (m+1))=mX eJ sL Sp ->az C τ (.t a)= .m (m+1) ->az C τ (.t b)= .ag [ι r.p,ι r.s] ->az C τ (.t c)= .ag [ι r.p,ι r.s,ι r.k,ι r.n] ->
  step (az C τ) ⟨H,A,ob'⟩ (.mupd (.ag [(0,1,false,.lf .i),(1,1,false,.lf .i)]) (.t a) (.t b) (.t c))= .v .un ⟨H,A+1,ob'.put (m+1) (.map (A+1) (di eJ sL 0 (ups (r.p,r.s) r Sp)) (ups (r.p,r.s) r Sp).length)⟩:=
  λa b c H A ob' τ V W Y q4=>mL (k:=(r.p,r.s)) (v:=r) (en:=sL) EP (h:=⟨H,A,ob'⟩) (fT.2 V) W Y q4
 have b1:∀H A ob' (τ:T AV),mG (T.get ob' (m+2))=mX eJ kK Ns ->az C τ (.t 81)= .m (m+2) ->az C τ (.t 82)= .ag [ι r.p,ι r.s] ->
  step (az C τ) ⟨H,A,ob'⟩ (.look (.ag [(0,1,false,.lf .i),(1,1,false,.lf .i)]) (.t 81) (.t 82) (ι 0) false)= .v (oF kK (ι 0) (look (r.p,r.s) Ns)) ⟨H,A,ob'⟩:=
  λH A ob' τ V W Y=>sd (k:=(r.p,r.s)) (z:=ι 0) (en:=kK) EP (h:=⟨H,A,ob'⟩) (fT.2 V) W Y
 have b6:∀H A ob' (τ:T AV),mG (T.get ob' (m+2))=mX eJ kK Ns ->az C τ (.t 88)= .m (m+2) ->az C τ (.t 89)= .ag [ι r.p,ι r.s] ->az C τ (.t 91)=ι r.n ->
  step (az C τ) ⟨H,A,ob'⟩ (.mupd (.ag [(0,1,false,.lf .i),(1,1,false,.lf .i)]) (.t 88) (.t 89) (.t 91))= .v .un ⟨H,A+1,ob'.put (m+2) (.map (A+1) (di eJ kK 0 (ups (r.p,r.s) r.n Ns)) (ups (r.p,r.s) r.n Ns).length)⟩:=
  λH A ob' τ V W Y q4=>mL (k:=(r.p,r.s)) (v:=r.n) (en:=kK) EP (h:=⟨H,A,ob'⟩) (fT.2 V) W Y q4
 have U:∀(o:Nat) (B:List (Int×Bool)) (a b:Nat) H A ob' (τ:T AV),mG (T.get ob' o)=mX kK AV.b B ->az C τ (.t a)= .m o ->az C τ (.t b)=ι r.p ->
  step (az C τ) ⟨H,A,ob'⟩ (.look (.lf .i) (.t a) (.t b) (.b false) false)= .v (oF AV.b (.b false) (look r.p B)) ⟨H,A,ob'⟩:=
  λo B a b H A ob' τ V W Y=>sd (k:=r.p) (z:= .b false) (en:=AV.b) Az (h:=⟨H,A,ob'⟩) (fT.2 V) W Y
 have b0:∀(o:Nat) (B:List (Int×Bool)) (a b:Nat) H A ob' (τ:T AV),mG (T.get ob' o)=mX kK AV.b B ->az C τ (.t a)= .m o ->az C τ (.t b)=ι r.p ->
  step (az C τ) ⟨H,A,ob'⟩ (.mupd (.lf .i) (.t a) (.t b) (.c (.b true)))= .v .un ⟨H,A+1,ob'.put o (.map (A+1) (di kK AV.b 0 (ups r.p true B)) (ups r.p true B).length)⟩:=
  λo B a b H A ob' τ V W Y=>mL (k:=r.p) (v:=true) (en:=AV.b) Az (h:=⟨H,A,ob'⟩) (fT.2 V) W Y rfl
 rw[aW9] at b1;simp only[aX0] at U;have b2:=U (m+3) Al 97 99;have b3:=U (m+4) Ke 112 114;have b4:=b0 (m+3) Al 104 106;have b5:=b0 (m+4) Ke 119 121;clear U b0;unfold aL1;by_cases L:1<=r.k/\ r.k<=8;rotate_left;have e1:(r.k=1)=False:=av;refine Y2 I e1 ?_;rw[lA];simp(disch:=omega) only[↓reduceIte,go_sem];refine hb ?_ _;unfold eP;by_cases q:1<=r.k;rw[fe (show¬r.k<=8 by omega)];simp;rw[fe q];simp;by_cases q:r.k=1;have e1:(r.k=1)=True:=fq q;have bb:pD g r ((look (r.p,r.s) Sp).isSome) 0 0= !(eP g r&& !(look (r.p,r.s) Sp).isSome):=vl p0 p1 L.1 L.2 (.inr (.inr ⟨by omega,by omega,rfl,rfl⟩));have u:(!(eP g r&& !(look (r.p,r.s) Sp).isSome))= !(eP g r&& !D.any (iY r)):=by rw[bk.t1 ω ω]
 rw[u] at bb;refine qX c5 c8 N t6 t8 bH R I e1 O ?_;refine vh E G hi J (tk:=(look (r.p,r.s) Sp).isSome) (lo:=0) (hi':=0) (m:=m) (n1:=n1) (W0 c0) (W0 c8) (W0 t2) (W0 t8) (W0 t9) (W0 t10) U0 (λe=>hb (vj (bb▸e)) _) (λe τ' a1 a2=>Z (vk (bb▸e)) (ups (r.p,r.s) r Sp) Ns Al Ke τ' _ (bk.sep ω ω) (bB _) (W0 c0) (W0 c5) U0 (W0 m2) (W0 m3) (W0 m4) (λj hj=>U0) ?_ ?_ ?_ ?_ ?_);rw[a1 2 ω];exact U0;rw[a1 6 ω];exact U0;rw[a2 22 ω ω];exact U0;rw[a2 23 ω ω];exact U0;rw[a2 24 ω ω];exact U0;by_cases q:r.k=2;have e1:(r.k=1)=False:=av;have bb:pD g r ((look (r.p,r.s) Sp).isSome) 0 0= !(eP g r&& !(look (r.p,r.s) Sp).isSome):=vl p0 p1 L.1 L.2 (.inr (.inr ⟨by omega,by omega,rfl,rfl⟩));have u:(!(eP g r&& !(look (r.p,r.s) Sp).isSome))= !(eP g r&& !D.any (iY r)):=by rw[bk.t1 ω ω]
 rw[u] at bb;refine qX c5 c8 N t6 t8 bH R I e1 O ?_;refine vh E G hi J (tk:=(look (r.p,r.s) Sp).isSome) (lo:=0) (hi':=0) (m:=m) (n1:=n1) (W0 c0) (W0 c8) (W0 t2) (W0 t8) (W0 t9) (W0 t10) U0 (λe=>hb (vj (bb▸e)) _) (λe τ' a1 a2=>Z (vk (bb▸e)) (ups (r.p,r.s) r Sp) Ns Al Ke τ' _ (bk.sep ω ω) (bB _) (W0 c0) (W0 c5) U0 (W0 m2) (W0 m3) (W0 m4) (λj hj=>U0) ?_ ?_ ?_ ?_ ?_);rw[a1 2 ω];exact U0;rw[a1 6 ω];exact U0;rw[a2 22 ω ω];exact U0;rw[a2 23 ω ω];exact U0;rw[a2 24 ω ω];exact U0;by_cases q:r.k=3;have e1:(r.k=1)=False:=av;have bb:pD g r ((look (r.p,r.s) Sp).isSome) 0 0= !(eP g r&& !(look (r.p,r.s) Sp).isSome):=vl p0 p1 L.1 L.2 (.inr (.inr ⟨by omega,by omega,rfl,rfl⟩));have u:(!(eP g r&& !(look (r.p,r.s) Sp).isSome))= !(eP g r&& !D.any (iY r)):=by rw[bk.t1 ω ω]
 rw[u] at bb;refine qX c5 c8 N t6 t8 bH R I e1 O ?_;refine vh E G hi J (tk:=(look (r.p,r.s) Sp).isSome) (lo:=0) (hi':=0) (m:=m) (n1:=n1) (W0 c0) (W0 c8) (W0 t2) (W0 t8) (W0 t9) (W0 t10) U0 (λe=>hb (vj (bb▸e)) _) (λe τ' a1 a2=>Z (vk (bb▸e)) (ups (r.p,r.s) r Sp) Ns Al Ke τ' _ (bk.sep ω ω) (bB _) (W0 c0) (W0 c5) U0 (W0 m2) (W0 m3) (W0 m4) (λj hj=>U0) ?_ ?_ ?_ ?_ ?_);rw[a1 2 ω];exact U0;rw[a1 6 ω];exact U0;rw[a2 22 ω ω];exact U0;rw[a2 23 ω ω];exact U0;rw[a2 24 ω ω];exact U0;by_cases q:r.k=4;have e1:(r.k=1)=False:=av;have bb:pD g r ((look (r.p,r.s) Sp).isSome) 0 0= !(eP g r&& !(look (r.p,r.s) Sp).isSome):=vl p0 p1 L.1 L.2 (.inr (.inr ⟨by omega,by omega,rfl,rfl⟩));have u:(!(eP g r&& !(look (r.p,r.s) Sp).isSome))= !(eP g r&& !D.any (iY r)):=by rw[bk.t1 ω ω]
 rw[u] at bb;refine qX c5 c8 N t6 t8 bH R I e1 O ?_;refine vh E G hi J (tk:=(look (r.p,r.s) Sp).isSome) (lo:=0) (hi':=0) (m:=m) (n1:=n1) (W0 c0) (W0 c8) (W0 t2) (W0 t8) (W0 t9) (W0 t10) U0 (λe=>hb (vj (bb▸e)) _) (λe τ' a1 a2=>Z (vk (bb▸e)) (ups (r.p,r.s) r Sp) Ns Al Ke τ' _ (bk.sep ω ω) (bB _) (W0 c0) (W0 c5) U0 (W0 m2) (W0 m3) (W0 m4) (λj hj=>U0) ?_ ?_ ?_ ?_ ?_);rw[a1 2 ω];exact U0;rw[a1 6 ω];exact U0;rw[a2 22 ω ω];exact U0;rw[a2 23 ω ω];exact U0;rw[a2 24 ω ω];exact U0;by_cases q:r.k=5;have e1:(r.k=1)=False:=av;have bb:pD g r ((look (r.p,r.s) Sp).isSome) 1 3= !(eP g r&& !(look (r.p,r.s) Sp).isSome):=vl p0 p1 L.1 L.2 (.inl ⟨q,rfl,rfl⟩);have u:(!(eP g r&& !(look (r.p,r.s) Sp).isSome))= !(eP g r&& !D.any (iY r)):=by rw[bk.t1 ω ω]
 rw[u] at bb;refine qX c5 c8 N t6 t8 bH R I e1 O ?_;refine vh E G hi J (tk:=(look (r.p,r.s) Sp).isSome) (lo:=1) (hi':=3) (m:=m) (n1:=n1) (W0 c0) (W0 c8) (W0 t2) (W0 t8) U0 U0 U0 (λe=>hb (vj (bb▸e)) _) (λe τ' a1 a2=>Z (vk (bb▸e)) (ups (r.p,r.s) r Sp) Ns Al Ke τ' _ (bk.sep ω ω) (bB _) (W0 c0) (W0 c5) U0 (W0 m2) (W0 m3) (W0 m4) (λj hj=>U0) ?_ ?_ ?_ ?_ ?_);rw[a1 2 ω];exact U0;rw[a1 6 ω];exact U0;rw[a2 22 ω ω];exact U0;rw[a2 23 ω ω];exact U0;rw[a2 24 ω ω];exact U0;by_cases q:r.k=6;have e1:(r.k=1)=False:=av;have bb:pD g r (decide (0<(look (r.p,r.s) Ns).getD 0)) 1 16= !(eP g r&& !decide (0<(look (r.p,r.s) Ns).getD 0)):=vl p0 p1 L.1 L.2 (.inr (.inl ⟨q,rfl,rfl⟩));have u:(!(eP g r&& !decide (0<(look (r.p,r.s) Ns).getD 0)))= !(eP g r&& !D.any (iY r)):=by rw[bk.t2 q]
 rw[u] at bb;refine qX c5 c8 N t6 t8 bH I e1 b1 b6 ?_;refine vh E G hi J (tk:=decide (0<(look (r.p,r.s) Ns).getD 0)) (lo:=1) (hi':=16) (m:=m) (n1:=n1) ?_ ?_ ?_ ?_ ?_ ?_ ?_ (λe=>hb (vj (bb▸e)) _) (λe τ' a1 a2=>Z (vk (bb▸e)) Sp (ups (r.p,r.s) r.n Ns) Al Ke τ' _ (bk.nest q (s6 (g:=g) (by rw[bb] at e;revert e;cases eP g r<;>simp) q)) (bB _) ?_ ?_ ?_ ?_ ?_ ?_ (λj hj=>U0) ?_ ?_ ?_ ?_ ?_);exact W0 c0;exact W0 c8;exact W0 t2;exact W0 t8;(iterate 3 exact U0);exact W0 c0;exact W0 c5;exact W0 m1;exact U0;exact W0 m3;exact W0 m4;rw[a1 2 ω];exact U0;rw[a1 6 ω];exact U0;rw[a2 22 ω ω];exact U0;rw[a2 23 ω ω];exact U0;rw[a2 24 ω ω];exact U0;by_cases q:r.k=7;have e1:(r.k=1)=False:=av;have bb:pD g r ((look r.p Al).getD false) 0 0= !(eP g r&& !(look r.p Al).getD false):=vl p0 p1 L.1 L.2 (.inr (.inr ⟨by omega,by omega,rfl,rfl⟩));have u:(!(eP g r&& !(look r.p Al).getD false))= !(eP g r&& !D.any (iY r)):=by
  cases hr:eP g r;rfl;rw[bk.t3 q (EU hr (.inl q)) hD]
 rw[u] at bb;refine Z8 c5 c8 t6 t8 I e1 b2 b4 ?_;refine vh E G hi J (tk:=(look r.p Al).getD false) (lo:=0) (hi':=0) (m:=m) (n1:=n1) (W0 c0) (W0 c8) (W0 t2) (W0 t8) (W0 t9) (W0 t10) U0 (λe=>hb (vj (bb▸e)) _) (λe τ' a1 a2=>Z (vk (bb▸e)) Sp Ns (ups r.p true Al) Ke τ' _ (bk.algn q) (bB _) (W0 c0) (W0 c5) (W0 m1) (W0 m2) U0 (W0 m4) (λj hj=>U0) ?_ ?_ ?_ ?_ ?_);rw[a1 2 ω];exact U0;rw[a1 6 ω];exact U0;rw[a2 22 ω ω];exact U0;rw[a2 23 ω ω];exact U0;rw[a2 24 ω ω];exact U0;by_cases q:r.k=8;have e1:(r.k=1)=False:=av;have bb:pD g r ((look r.p Ke).getD false) 0 0= !(eP g r&& !(look r.p Ke).getD false):=vl p0 p1 L.1 L.2 (.inr (.inr ⟨by omega,by omega,rfl,rfl⟩));have u:(!(eP g r&& !(look r.p Ke).getD false))= !(eP g r&& !D.any (iY r)):=by
  cases hr:eP g r;rfl;rw[bk.t4 q (EU hr (.inr q)) hD]
 rw[u] at bb;refine Z8 c5 c8 t6 t8 I e1 b3 b5 ?_;refine vh E G hi J (tk:=(look r.p Ke).getD false) (lo:=0) (hi':=0) (m:=m) (n1:=n1) (W0 c0) (W0 c8) (W0 t2) (W0 t8) (W0 t9) (W0 t10) U0 (λe=>hb (vj (bb▸e)) _) (λe τ' a1 a2=>Z (vk (bb▸e)) Sp Ns Al (ups r.p true Ke) τ' _ (bk.keep q) (bB _) (W0 c0) (W0 c5) (W0 m1) (W0 m2) (W0 m3) U0 (λj hj=>U0) ?_ ?_ ?_ ?_ ?_);rw[a1 2 ω];exact U0;rw[a1 6 ω];exact U0;rw[a2 22 ω ω];exact U0;rw[a2 23 ω ω];exact U0;rw[a2 24 ω ω];exact U0;omega
def bF8 (g:Gr) (L:List Ru) (b:Nat) (h:AH) (v:AV):Prop:=∃Sp Ns Al Ke,kM L Sp Ns Al Ke/\ v= .p (b+5) 0/\ b+6<=h.next/\ cG (h.oB.get (b+5))=some [.m (b+1),.m (b+2),.m (b+3),.m (b+4)]/\
 mG (h.oB.get (b+1))=mX eJ sL Sp/\ mG (h.oB.get (b+2))=mX eJ kK Ns/\ mG (h.oB.get (b+3))=mX kK AV.b Al/\ mG (h.oB.get (b+4))=mX kK AV.b Ke
variable {C:aK Prop} (E:Sem P X GL ae C)
def aX3 (F:li ae) {g} (G:oy g) {L nl} (hL:L.length<=1000) h k (Z:∀v h',(iG g L=true ->(h.next<=h'.next/\∀j,j<h.next ->h'.oB.get j=h.oB.get j)/\ bF8 g L h.next h' v) ->k (.tu [v,.b (iG g L)]) h'):
 du C 46 [aI g,eR uC 4 nl L] h k:=by
 obtain⟨m,ver,ob⟩:=h;have bq:=iW (g:=g);simp only[ar] at bq;have pl:=G.pl;refine E.bS F.f46 (Y2 @aI.eq_1 @ar.eq_1 ?_);refine fj E.ok L.length (λi τ h=>∃Sp Ns Al Ke,kM (L.take i) Sp Ns Al Ke/\ (∀j,j<i ->rj g L j=true)/\ m+6<=h.next/\ cG (h.oB.get m)=some (ar g)/\ cG (h.oB.get (m+5))=some [.m (m+1),.m (m+2),.m (m+3),.m (m+4)]/\
  mG (h.oB.get (m+1))=mX eJ sL Sp/\ mG (h.oB.get (m+2))=mX eJ kK Ns/\ mG (h.oB.get (m+3))=mX kK AV.b Al/\ mG (h.oB.get (m+4))=mX kK AV.b Ke/\
  τ.get 2=some (.p m 0)/\ τ.get 6=some (.p (m+5) 0)/\ τ.get 22=some (eR uC 4 nl L)/\ τ.get 23=some (ι (L.length:Int))/\ τ.get 24=some (ι (i:Int))/\∀j,j<m ->h.oB.get j=ob.get j) ?_ ?_ _ _ ⟨[],[],[],[],kM.nil,λj H=>by omega,bB _,?_,?_,?_,?_,?_,?_,?_,?_,?_,?_,?_,λj H=>U0⟩
 ·rintro i τ ⟨n1,v1,aQ⟩ hi ⟨Sp,Ns,Al,Ke,bk,U,V,c0,c5,O,m2,m3,W,t2,t6,B,u,A,old⟩ ih;have b0:m+6<=n1:=V;dsimp only at c0 c5 O m2 m3 W;have de:=c0;simp only[ar] at c0;have I:L[i]? =some L[i]:=oc hi;generalize hr:L[i]=r at I;have e4:sub (L.flatMap uC) (i*4) 4=some (uC r):=cW Qm I (j:=0) (n:=4) ω;simp only[uC] at e4;have oa:=Tm (g:=g) I;have bad:rj g L i=false ->∀h',k (.tu [.pn,.b false]) h':=λh h'=>by
   have:=Z .pn h' λe=>by rw[Bz hi h] at e;cases e
   rw[Bz hi h] at this;exact this
  by_cases h1:r.p<0;refine Z5 B u A e4 h1 ?_;exact bad (by rw[oa];unfold eP;rw[fe (show¬0<=r.p by omega)];rfl) _;by_cases h2:(g.pR.length:Int)<=r.p;refine Z8 c0 t2 B u A e4 h1 h2 ?_;exact bad (by rw[oa];unfold eP;rw[fe (show¬r.p<(g.pR.length:Int) by omega)];simp) _;have N:∀J R ob' (τ:T AV),mG (T.get ob' (m+1))=mX eJ sL Sp ->az C τ (.t 48)= .m (m+1) ->az C τ (.t 49)=eJ (r.p,r.s) ->
   step (az C τ) ⟨J,R,ob'⟩ (.look (.ag [(0,1,false,.lf .i),(1,1,false,.lf .i)]) (.t 48) (.t 49) (.ag [ι 0,ι 0,ι 0,ι 0]) true)= .v (Bb sL (.ag [ι 0,ι 0,ι 0,ι 0]) (look (r.p,r.s) Sp)) ⟨J,R,ob'⟩:=
   λJ R ob' τ q1 q2 q3=>uQ (k:=(r.p,r.s)) (z:= .ag [ι 0,ι 0,ι 0,ι 0]) (en:=sL) EP (h:=⟨J,R,ob'⟩) (fT.2 q1) q2 q3
  simp only[aW8,eJ] at N;refine lX c0 c5 t2 t6 B u A e4 h1 h2 N O ?_;refine aX2 (r:=r) (n1:=n1) E G bk (λq hq=> ?_) ω ω b0 ?_ ?_ ?_ ?_ ?_ ?_ ?_ ?_ ?_ ?_ ?_ ?_ ?_ ?_ ?_ ?_ ?_ ?_ (λe h'=>bad (by rw[oa];exact e) h') (λe Sp' Ns' Al' Ke' τ' h' bk' J d0 d5 w1 w2 w3 w4 fr s2 s6 s22 s23 s24=> ?_);obtain⟨j,H⟩:=List.mem_iff_getElem?.1 hq;rw[jZ] at H;split at H;rename_i Y;have:=U j Y;rw[Tm H] at this;exact(nj.1 this).1;cases H;show n1+2<=n1+1+1+1;omega;exact W0 de;exact W0 c5;exact W0 O;exact W0 m2;exact W0 m3;exact W0 W;exact U0;exact U0
  rotate_right
  ·obtain⟨n2,v2,aJ⟩:=h';simp(disch:=omega) only[dh,T.get_put,bV,t2,t6,B,u,A] at s2 s6 s22 s23 s24;refine Y1 s24 ?_;refine ih _ _ ⟨Sp',Ns',Al',Ke',?_,λj H=> ?_,?_,d0,d5,w1,w2,w3,w4,?_,?_,?_,?_,?_,λj H=>(fr j H).trans (W0 (old j H))⟩;rw[nY I];exact bk';by_cases q:j=i;subst q;rw[oa];exact e;exact U j ω;have:n1+1+1+1<=n2:=J;show m+6<=n2;omega;all_goals exact U4 s2 s6 s22 s23
  all_goals exact U2 t2 t6
 rintro τ ⟨n1,v1,aQ⟩ ⟨Sp,Ns,Al,Ke,bk,U,V,c0,c5,O,m2,m3,W,t2,t6,B,u,A,old⟩;refine Y3 t6 u A ?_;rw[Tl U] at Z;exact Z _ _ λ_=>⟨⟨by have h:m+6<=n1:=V;show m<=n1;omega,old⟩,Sp,Ns,Al,Ke,by rw[rL] at bk;exact bk,rfl,V,c5,O,m2,m3,W⟩;exact U1 @ar.eq_1;(iterate 5 exact U0);all_goals exact U0
end
end AM
