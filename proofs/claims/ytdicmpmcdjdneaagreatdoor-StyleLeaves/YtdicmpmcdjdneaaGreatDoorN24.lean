import Derived.Test.YtdicmpmcdjdneaaGreatDoorN23
set_option linter.all false
set_option maxHeartbeats 8000000
namespace AM
open Dg Go
noncomputable section
def oT (k:Int):Bool:=decide (1<=k)&&decide (k<=5)
def iY (x y:Ru):Bool:=decide (x.p=y.p)&&decide (x.s=y.s)&&(decide (x.k=y.k)||(oT x.k&&oT y.k))
def xc (g:Gr) (p:Int):Int:=(((g.pR[p.toNat]?).map λq=>(q.right.length:Int)).getD 0)
def eP (g:Gr) (r:Ru):Bool:=decide (0<=r.p)&&decide (r.p<(g.pR.length:Int))&&decide (1<=r.k)&&decide (r.k<=8)&&
 (if r.k=7∨r.k=8 then decide (r.s=0)&&decide (r.n=0) else
  (if r.k=5 then decide (1<=r.n)&&decide (r.n<=3) else if r.k=6 then decide (1<=r.n)&&decide (r.n<=16) else decide (r.n=0))&&decide (0<=r.s)&&decide (r.s<xc g r.p-1))
def eW {p} [Decidable p] (h:p):decide p=true:=zG h
def fe {p} [Decidable p] (h:¬p):decide p=false:=ot h
variable {P:Program} {X:aR} {GL:T (List AV)} {ae:T au}
variable (S:aT P X GL ae)
variable (F:bz8 ae)
def aW5 k h:bP P X GL 183 [ι k] h (.b (oT k)) h:=by
 refine dR S (n:=9) ?_ (by simp only[aL,bZ,dH]) h;refine bg.intro λC E=> ?_;rw[E.cB (F.f 183)];by_cases h1:1<=k;refine Y1 h1 ?_;unfold oT;rw[eW h1];exact⟨1,rfl⟩;refine Y1 h1 ?_;unfold oT;rw[fe h1];exact⟨1,rfl⟩
def aW6 x y h:bP P X GL 98 [.ag (uC x),.ag (uC y)] h (.b (iY x y)) h:=by
 refine dR S (n:=9) ?_ (by simp only[aL,bZ,uC];rfl) h;refine bg.intro λC E=> ?_;have A:=λk h=>aW5 (GL:=GL) S F k h;unfold iY;rw[E.cB (F.f 98)];by_cases h1:x.p=y.p;by_cases h2:x.s=y.s;by_cases j:x.k=y.k;refine Y4 @uC.eq_1 h1 h2 j ?_;exact⟨1,rfl⟩;refine Y4 @uC.eq_1 h1 h2 j ?_;refine E.cN (A _ _) ?_;cases B:oT x.k;refine Y0 ?_;exact⟨1,rfl⟩;refine Y0 ?_;refine E.cN (A _ _) (Y0 ?_);cases oT y.k<;>exact⟨1,rfl⟩;refine Y3 @uC.eq_1 h1 h2 ?_;exact⟨1,rfl⟩;refine Y2 @uC.eq_1 h1 ?_;exact⟨1,rfl⟩
def aW7 {g} (G:oy g) r h:bP P X GL 97 [aI g,.ag (uC r)] h (.b (eP g r)) h:=by
 refine ku S (λn h=>rfl) ?_ h;refine bg.intro λC E=> ?_;have pl:=G.pl;rw[E.cB (F.g 97 bE2)];unfold eP;by_cases h1:r.p<0;have A:¬0<=r.p:=by omega
 refine Y6 @uC.eq_1 @aI.eq_1 @bx.eq_1 h1 A @pQ ?_;exact⟨1,rfl⟩;have A:0<=r.p:=by omega
 by_cases h2:(g.pR.length:Int)<=r.p;have B:¬r.p<(g.pR.length:Int):=by omega
 refine Y9 @uC.eq_1 @aI.eq_1 @bx.eq_1 h1 A h2 B @pQ @pP ?_;exact⟨1,rfl⟩;have B:r.p<(g.pR.length:Int):=by omega
 by_cases h3:r.k<1;have J:¬1<=r.k:=by omega
 refine iU @uC.eq_1 @aI.eq_1 @bx.eq_1 h1 A h2 B h3 J @pQ @pP @uh ?_;exact⟨1,rfl⟩;have J:1<=r.k:=by omega
 by_cases h4:8<r.k;have R:¬r.k<=8:=by omega
 refine qk @uC.eq_1 @aI.eq_1 @bx.eq_1 h1 A h2 B h3 J h4 R @pQ @pP @uh ?_;exact⟨1,rfl⟩;have R:r.k<=8:=by omega
 obtain⟨i,hi⟩:∃i:Nat,r.p=(i:Int):=⟨r.p.toNat,by omega⟩;have b0:i<g.pR.length:=by omega
 have L:g.pR[i]? =some g.pR[i]:=ef b0;generalize hp:g.pR[i]=p at L;have pk:=G.p p (dI L);have rl:=pk.len;have b1:xc g (i:Int)=(p.right.length:Int):=by unfold xc;rw[show((i:Int)).toNat=i from rfl,L];rfl
 have e2:sub (g.pR.flatMap aM) (i*13+2) 1=some [eR dO 2 p.rn p.right]:=cW kr L (j:=2) (n:=1) ω;rw[hi] at h1 A h2 B;rw[hi,b1,eW A,eW B,eW J,eW R];by_cases W:r.k=7;by_cases H:r.s=0;refine nS @uC.eq_1 @aI.eq_1 @bx.eq_1 hi h1 h2 W H @uh @true_or ?_;exact⟨1,rfl⟩;refine jC @uC.eq_1 @aI.eq_1 @bx.eq_1 hi h1 h2 W H @uh @pQ @true_or ?_;exact⟨1,rfl⟩;by_cases Y:r.k=8;by_cases H:r.s=0;refine nS @uC.eq_1 @aI.eq_1 @bx.eq_1 hi h1 h2 Y H @uh @or_true ?_;exact⟨1,rfl⟩;refine jC @uC.eq_1 @aI.eq_1 @bx.eq_1 hi h1 h2 Y H @uh @pQ @or_true ?_;exact⟨1,rfl⟩;rw[aD (λh=>h.elim W Y)];have I:∀(b:Bool),b=true ->∀τ ver ob,τ.get 2=some (.p 0 0) ->τ.get 3=some (.p 1 0) ->cG (T.get ob 0)=some (bx g) ->cG (T.get ob 1)=some [ι (i:Int),ι r.s,ι r.k,ι r.n] ->df C Ql [.s .ret] (KF (λx h=>∃n,deep n h x=some (.b (true&&true&&true&&true&&(b&&decide (0<=r.s)&&decide (r.s<(p.right.length:Int)-1))))) [(4,none)]) τ ⟨2,ver,ob⟩:=by
  intro b hb τ ver ob t2 t3 c0 c1;subst hb;simp only[bx] at c0;unfold Ql;have bs:aY .sub (ι (p.right.length:Int)) (ι 1)=some (ι ((p.right.length:Int)-1)):=rX ⟨by omega,by omega⟩;by_cases H:0<=r.s;by_cases s1:r.s<(p.right.length:Int)-1;rw[eW H,eW s1];refine Y8 t2 t3 c0 c1 H s1 e2 bs ?_;exact⟨1,rfl⟩;rw[eW H,fe s1];refine Y8 t2 t3 c0 c1 H s1 e2 bs ?_;exact⟨1,rfl⟩;rw[fe H];refine Y5 t3 c1 H @pP @pQ ?_;exact⟨1,rfl⟩
 by_cases N:r.k=5;by_cases n1:r.n<1;have U:¬1<=r.n:=by omega
 refine jC @uC.eq_1 @aI.eq_1 @bx.eq_1 hi h1 h2 N n1 U @pQ @pP ?_;exact⟨1,rfl⟩;by_cases Z:3<r.n;have V:¬r.n<=3:=by omega
 refine iU @uC.eq_1 @aI.eq_1 @bx.eq_1 hi h1 h2 N n1 Z V @pQ @pP ?_;exact⟨1,rfl⟩;rw[aF N,eW (show 1<=r.n by omega),eW (show r.n<=3 by omega)];refine Y9 @uC.eq_1 @aI.eq_1 @bx.eq_1 hi h1 h2 N n1 Z ?_;exact I _ rfl _ _ _ U0 U0 (U1 @bx.eq_1) (U1 N);rw[aD N];by_cases O:r.k=6;by_cases n1:r.n<1;have U:¬1<=r.n:=by omega
 refine jC @uC.eq_1 @aI.eq_1 @bx.eq_1 hi h1 h2 O n1 U @pQ @pP ?_;exact⟨1,rfl⟩;by_cases Z:16<r.n;have V:¬r.n<=16:=by omega
 refine jC @uC.eq_1 @aI.eq_1 @bx.eq_1 hi h1 h2 O n1 Z V (ec @pQ<| @pP) ?_;exact⟨1,rfl⟩;rw[aF O,eW (show 1<=r.n by omega),eW (show r.n<=16 by omega)];refine Y9 @uC.eq_1 @aI.eq_1 @bx.eq_1 hi h1 h2 O n1 Z ?_;exact I _ rfl _ _ _ U0 U0 (U1 @bx.eq_1) (U1 O);rw[aD O];by_cases n0:r.n=0;rw[eW n0];refine pm @uC.eq_1 @aI.eq_1 @bx.eq_1 hi h1 h2 h3 h4 W Y N O n0 ?_;exact I _ rfl _ _ _ U0 U0 (U1 @bx.eq_1) (U1 n0);rw[fe n0];refine sB @uC.eq_1 @aI.eq_1 @bx.eq_1 hi h1 h2 h3 h4 W Y N O n0 @pQ @pP ?_;exact⟨1,rfl⟩
def rj (g:Gr) (L:List Ru) (i:Nat):Bool:=match L[i]? with
 |some r=>eP g r&&(L.take i).all λq=> !iY r q
 |none=>true
def iG (g:Gr) (L:List Ru):Bool:=(List.range L.length).all (rj g L)
def Bz {g L i} (hi:i<L.length) (h:rj g L i=false):iG g L=false:=by
 unfold iG;rw[List.all_eq_false];exact⟨i,mA.2 hi,by rw[h];simp⟩
def Tl {g L} (h:∀i,i<L.length ->rj g L i=true):iG g L=true:=by
 unfold iG;rw[fX];exact λi hi=>h i (mA.1 hi)
def aL1 {n} r:nice.niceL n (uC r)=true:=by simp only[uC,Bg,iq,j9,A7]
def BB {n h} a:bJ n h (uC a)=some (uC a):=by simp only[uC,aL,bZ,dH]
def Km {g} (G:oy g) {L nl} (hL:L.length<=1000):bg P X GL ae 52 [aI g,eR uC 4 nl L] (.b (iG g L)):=by
 refine bg.intro λC E=> ?_;have rc:=λr h=>aW7 S F G r h;have cc:=λx y h=>aW6 (GL:=GL) S F x y h;simp only[aI,bx,uC] at rc cc;have bq:=iW (g:=g);simp only[bx] at bq;refine E.bS (F.f 52) (Y2 @aI.eq_1 @bx.eq_1 ?_);refine fj E.ok L.length (λi τ h=>(∀j,j<i ->rj g L j=true)/\ 1<=h.next/\ cG (h.oB.get 0)=some (bx g)/\ τ.get 1=some (eR uC 4 nl L)/\ τ.get 2=some (.p 0 0)/\ τ.get 5=some (ι (i:Int))) ?_ ?_ _ _ ⟨λj U=>by omega,bB _,?_,?_,?_,?_⟩
 ·rintro i τ ⟨n1,v1,aQ⟩ hi ⟨O,Y,c0,t1,t2,t5⟩ ih;dsimp only at c0;have de:=c0;simp only[bx] at c0;have I:L[i]? =some L[i]:=ef hi;generalize hr:L[i]=r at I;have e4:sub (L.flatMap uC) (i*4) 4=some (uC r):=cW Qm I (j:=0) (n:=4) ω;simp only[uC] at e4;have oa:rj g L i=(eP g r&&(L.take i).all λq=> !iY r q):=by unfold rj;rw[I]
  refine Y5 c0 t1 t2 t5 e4 ?_;refine E.cN (rc _ _) (Y5 c0 t1 t2 t5 e4 ?_);cases hb:eP g r with
  |false=>
   refine Y5 c0 t1 t2 t5 e4 ?_;rw[Bz hi (by rw[oa,hb];rfl)];exact⟨1,rfl⟩
  |true=>
   rw[hb] at oa;rw[uh] at oa;refine Y5 c0 t1 t2 t5 e4 ?_;refine fj E.ok i (λj τ h=>(∀q∈L.take j,iY r q=false)/\ 1<=h.next/\ cG (h.oB.get 0)=some (bx g)/\ τ.get 1=some (eR uC 4 nl L)/\ τ.get 2=some (.p 0 0)/\ τ.get 5=some (ι (i:Int))/\ τ.get 6=some (ι (j:Int))) ?_ ?_ _ _ ⟨by simp,Y,de,?_,?_,?_,?_⟩
   ·rintro j τ ⟨n2,v2,aJ⟩ U ⟨B,H,R,N,W,J,s6⟩ V;have A:L[j]? =some L[j]:=ef ω;generalize hq:L[j]=q at A;have f4:sub (L.flatMap uC) (j*4) 4=some (uC q):=cW Qm A (j:=0) (n:=4) ω;simp only[uC] at f4;refine Y5 N J s6 e4 f4 ?_;refine E.cN (cc _ _ _) (Y5 N J s6 e4 f4 ?_);cases Z:iY r q with
    |true=>
     refine Y0 ?_;rw[Bz hi (by
      rw[oa,List.all_eq_false];refine⟨q,?_,by rw[Z];simp⟩;exact dI (i:=j) (by rw[jZ,aF U];exact A))]
     exact⟨1,rfl⟩
    |false=>
     refine Y2 J s6 ?_;refine V _ _ ⟨λz hz=> ?_,H,R,?_,?_,?_,?_⟩;rw[nY A] at hz;rcases fO.1 hz with h|h;exact B z h;rw[yC.1 h];exact Z;all_goals exact U3 N W J
   ·rintro τ ⟨n2,v2,aJ⟩ ⟨B,H,R,N,W,J,s6⟩;refine Y2 J s6 ?_;refine ih _ _ ⟨λj U=> ?_,H,R,?_,?_,?_⟩;by_cases e:j=i;subst e;rw[oa,fX];intro q hq;rw[B q hq];rfl;exact O j ω;all_goals exact U3 N W J
   all_goals exact U3 t1 t2 t5
 rintro τ ⟨n1,v1,aQ⟩ ⟨O,Y,c0,t1,t2,t5⟩;refine Y2 t1 t5 ?_;rw[Tl O];exact⟨1,rfl⟩;exact U1 @bx.eq_1;all_goals exact U0
instance:Nc uC:=⟨λ_ _=>aL1 _⟩
attribute [go_sem] aL1
def eJ (p:Int×Int):AV:= .ag [ι p.1,ι p.2]
def EP:rZ eJ tK where
 eq:=λa b=>by
  obtain⟨a1,a2⟩:=a;obtain⟨j,b2⟩:=b;have h:eH 6 tK (eJ (a1,a2)) (eJ (j,b2))=(match (some (eO a1 j):Option Bool) with
   |some true=>(match (some (eO a2 b2):Option Bool) with
    |some true=>some true
    |r=>r)
   |r=>r):=rfl
  rw[h,A3,A3];by_cases h1:a1=j<;>by_cases h2:a2=b2<;>simp[h1,h2]
 q:=λa=>by
  obtain⟨a1,a2⟩:=a;have h:En tK (eJ (a1,a2))=(match (match (some (eO a1 a1):Option Bool) with
   |some true=>(match (some (eO a2 a2):Option Bool) with
    |some true=>some true
    |r=>r)
   |r=>r) with|some true=>true|_=>false):=rfl
  rw[h,A3,A3];simp
 self:=λa=>by
  obtain⟨a1,a2⟩:=a;have h:o9 (eJ (a1,a2)) (eJ (a1,a2))=((gZ .i64 .i64&&eO a1 a1)&&((gZ .i64 .i64&&eO a2 a2)&&true)):=rfl;rw[h,A3,A3];simp[gZ]
def nC (r:Ru):AV:= .ag [ι r.p,ι r.s,ι r.k,ι r.n]
def kK (n:Int):AV:=ι n
def mX {κ ν:Type} (ek:κ ->AV) (en:ν ->AV) (l:List (κ×ν)):Option (List (AV×AV×Nat)×Nat):=some (di ek en 0 l,l.length)
def z4:AV:= .ag [ι 0,ι 0,ι 0,ι 0]
def EQ:Option Ru ->Ru
 |some r=>r
 |none=>⟨0,0,0,0⟩
def aW8 {o}:Bb nC (.ag [ι 0,ι 0,ι 0,ι 0]) o= .tu [.ag [ι (EQ o).p,ι (EQ o).s,ι (EQ o).k,ι (EQ o).n],.b o.isSome]:=by cases o<;>rfl
def aW9 {o}:oF kK (ι 0) o=ι (o.getD 0):=by cases o<;>rfl
def aX0 {o}:oF AV.b (.b false) o= .b (o.getD false):=by cases o<;>rfl
structure kM (D:List Ru) (Sp:List ((Int×Int)×Ru)) (Ns:List ((Int×Int)×Int)) (Al Ke:List (Int×Bool)):Prop where
 f1:∀p s,(look (p,s) Sp).isSome=D.any λq=>decide (q.p=p)&&decide (q.s=s)&&oT q.k
 f2:∀p s,decide (0<(look (p,s) Ns).getD 0)=D.any λq=>decide (q.p=p)&&decide (q.s=s)&&decide (q.k=6)
 f3:∀p,(look p Al).getD false=D.any λq=>decide (q.p=p)&&decide (q.k=7)
 f4:∀p,(look p Ke).getD false=D.any λq=>decide (q.p=p)&&decide (q.k=8)
 f5:∀k r,look k Sp=some r ->r∈D/\ oT r.k=true
 f6:∀k n,look k Ns=some n ->∃r∈D,r.k=6/\ r.n=n
def mV {α:Type} {D} {r:α} {f}:(D++[r]).any f=(D.any f||f r):=by simp[List.any_append]
def ER {α:Type} {D:List α} {f g} (h:∀q∈D,f q=g q):D.any f=D.any g:=by
 induction D with
 |nil=>rfl
 |cons a t A=>rw[qL,qL,h a (by simp),A λq j=>h q (by simp[j])]
def zd {k} (h:5<k):oT k=false:=by unfold oT;rw[fe (show¬k<=5 by omega)];simp
def ES {p q} [Decidable p] [Decidable q] (h:p↔¬q):decide p= !decide q:=by by_cases e:q<;>simp[h,e]
def tU {a b:Int}:decide (a=b)=decide (b=a):=by by_cases h:a=b<;>simp[h,eq_comm]
def EU {g r} (h:eP g r=true) (j:r.k=7∨r.k=8):r.s=0:=by
 unfold eP at h;rw[aF j] at h;simp only[aB,aU] at h;exact h.2.1
def kM.nil:kM [] [] [] [] []:=⟨λ_ _=>rfl,λ_ _=>rfl,λ_=>rfl,λ_=>rfl,λ_ _ h=>(by cases h),λ_ _ h=>(by cases h)⟩
section
variable {D:List Ru} {Sp:List ((Int×Int)×Ru)} {Ns:List ((Int×Int)×Int)} {Al Ke:List (Int×Bool)} (b:kM D Sp Ns Al Ke) {r:Ru}
include b
theorem kM.sep (h1:1<=r.k) (A:r.k<=5):kM (D++[r]) (ups (r.p,r.s) r Sp) Ns Al Ke where
 f1:=λp s=>by
  rw[Fh,mV,←b.f1];have I:oT r.k=true:=by unfold oT;rw[eW h1,eW A];rfl
  by_cases e:(p,s)=(r.p,r.s);rw[aF e];obtain⟨e1,e2⟩:=(xK ..).mp e;subst e1 e2;simp[I];rw[aD e];have:(decide (r.p=p)&&decide (r.s=s))=false:=by
   by_cases B:r.p=p;by_cases G:r.s=s;exact bh (by rw[B,G]) e;simp[G];simp[B]
  rw[this];simp
 f2:=λp s=>by rw[mV,←b.f2,fe (show¬r.k=6 by omega)];simp
 f3:=λp=>by rw[mV,←b.f3,fe (show¬r.k=7 by omega)];simp
 f4:=λp=>by rw[mV,←b.f4,fe (show¬r.k=8 by omega)];simp
 f5:=λk q j=>by
  rw[Fh] at j;split at j;cases j;exact⟨by simp,by unfold oT;rw[eW h1,eW A];rfl⟩;exact⟨xI _ (b.f5 k q j).1,(b.f5 k q j).2⟩
 f6:=λk n H=>by obtain⟨q,h1,h2⟩:=b.f6 k n H;exact⟨q,xI _ h1,h2⟩
theorem kM.nest (A:r.k=6) (j:1<=r.n):kM (D++[r]) Sp (ups (r.p,r.s) r.n Ns) Al Ke where
 f1:=λp s=>by rw[mV,←b.f1,zd ω];simp
 f2:=λp s=>by
  rw[Fh,mV,←b.f2,eW A];by_cases e:(p,s)=(r.p,r.s);rw[aF e];obtain⟨e1,e2⟩:=(xK ..).mp e;subst e1 e2;simp;omega;rw[aD e];have:(decide (r.p=p)&&decide (r.s=s))=false:=by
   by_cases G:r.p=p;by_cases H:r.s=s;exact bh (by rw[G,H]) e;simp[H];simp[G]
  rw[this];simp
 f3:=λp=>by rw[mV,←b.f3,fe (show¬r.k=7 by omega)];simp
 f4:=λp=>by rw[mV,←b.f4,fe (show¬r.k=8 by omega)];simp
 f5:=λk q B=>⟨xI _ (b.f5 k q B).1,(b.f5 k q B).2⟩
 f6:=λk n j=>by
  rw[Fh] at j;split at j;cases j;exact⟨r,by simp,A,rfl⟩;obtain⟨q,h1,h2⟩:=b.f6 k n j;exact⟨q,xI _ h1,h2⟩
theorem kM.algn (A:r.k=7):kM (D++[r]) Sp Ns (ups r.p true Al) Ke where
 f1:=λp s=>by rw[mV,←b.f1,zd ω];simp
 f2:=λp s=>by rw[mV,←b.f2,fe (show¬r.k=6 by omega)];simp
 f3:=λp=>by
  rw[Fh,mV,←b.f3,eW A];by_cases e:p=r.p;rw[aF e,eW e.symm];simp;rw[aD e,fe λq=>e q.symm];simp
 f4:=λp=>by rw[mV,←b.f4,fe (show¬r.k=8 by omega)];simp
 f5:=λk q j=>⟨xI _ (b.f5 k q j).1,(b.f5 k q j).2⟩
 f6:=λk n B=>by obtain⟨q,h1,h2⟩:=b.f6 k n B;exact⟨q,xI _ h1,h2⟩
theorem kM.keep (A:r.k=8):kM (D++[r]) Sp Ns Al (ups r.p true Ke) where
 f1:=λp s=>by rw[mV,←b.f1,zd ω];simp
 f2:=λp s=>by rw[mV,←b.f2,fe (show¬r.k=6 by omega)];simp
 f3:=λp=>by rw[mV,←b.f3,fe (show¬r.k=7 by omega)];simp
 f4:=λp=>by
  rw[Fh,mV,←b.f4,eW A];by_cases e:p=r.p;rw[aF e,eW e.symm];simp;rw[aD e,fe λq=>e q.symm];simp
 f5:=λk q j=>⟨xI _ (b.f5 k q j).1,(b.f5 k q j).2⟩
 f6:=λk n B=>by obtain⟨q,h1,h2⟩:=b.f6 k n B;exact⟨q,xI _ h1,h2⟩
theorem kM.t1 (h1:1<=r.k) (A:r.k<=5):(look (r.p,r.s) Sp).isSome=D.any (iY r):=by
 have j:oT r.k=true:=by unfold oT;rw[eW h1,eW A];rfl
 rw[b.f1];refine ER λq _=> ?_;unfold iY;rw[tU (a:=r.p),tU (a:=r.s),j,uh];by_cases e:r.k=q.k;rw[←e,j];simp;rw[fe e];simp
theorem kM.t2 (j:r.k=6):decide (0<(look (r.p,r.s) Ns).getD 0)=D.any (iY r):=by
 rw[b.f2];refine ER λq _=> ?_;unfold iY;rw[tU (a:=r.p),tU (a:=r.s),tU (a:=r.k),zd (k:=r.k) ω,j];simp
theorem kM.t3 {g} (j:r.k=7) (G:r.s=0) (A:∀q∈D,eP g q=true):(look r.p Al).getD false=D.any (iY r):=by
 rw[b.f3];refine ER λq B=> ?_;unfold iY;rw[tU (a:=r.p),tU (a:=r.k),zd (k:=r.k) ω,j,G];by_cases e:q.k=7;have:=EU (A q B) (.inl e);rw[this];simp;simp[e]
theorem kM.t4 {g} (j:r.k=8) (G:r.s=0) (A:∀q∈D,eP g q=true):(look r.p Ke).getD false=D.any (iY r):=by
 rw[b.f4];refine ER λq B=> ?_;unfold iY;rw[tU (a:=r.p),tU (a:=r.k),zd (k:=r.k) ω,j,G];by_cases e:q.k=8;have:=EU (A q B) (.inr e);rw[this];simp;simp[e]
end
def aX1 {α:Type} {D:List α} {f}:(D.all λq=> !f q)= !D.any f:=by
 induction D with
 |nil=>rfl
 |cons a t j=>rw[xE,qL,j];simp
def lA {C:aK Prop} {K τ h}:∀{S:List Fr},gV C .ret S K τ h↔gV C .ret [] K τ h
 |[]=>Iff.rfl
 | .s _::S=>lA (S:=S)
 | .b _::S=>lA (S:=S)
def pD (g:Gr) (r:Ru) (tk:Bool) (lo hi:Int):Bool:=tk||decide (r.n<lo)||decide (hi<r.n)||decide (r.s<0)||decide ((if r.k=7∨r.k=8 then 1 else xc g r.p-1)<=r.s)
def vh {C:aK Prop} (E:Sem P X GL ae C) {g} (G:oy g) {r:Ru} {i:Nat} (hi:r.p=(i)) (V:i<g.pR.length) {tk lo hi' m n1} {S:List Fr} {k h τ}
 (c0:cG (h.oB.get m)=some (bx g)) (c8:cG (h.oB.get n1)=some [ι r.p,ι r.s,ι r.k,ι r.n])
 (t2:τ.get 2=some (.p m 0)) (t8:τ.get 8=some (.p n1 0)) (t9:τ.get 9=some (ι lo)) (t10:τ.get 10=some (ι hi')) (A:τ.get 14=some (.b tk))
 (hb:pD g r tk lo hi'=true ->k (.tu [.pn,.b false]) h)
 (L:pD g r tk lo hi'=false ->∀τ',(∀j,j<=8 ->τ'.get j=τ.get j) ->(∀j,16<=j ->j<=120 ->τ'.get j=τ.get j) ->gV C .normal S (KF k [(4,none),(5,none)]) τ' h):
 df C JA (.s Qk::S) (KF k [(4,none),(5,none)]) τ h:=by
 obtain⟨m2,ver,ob⟩:=h;dsimp only at c0 c8;have pl:=G.pl;have N:g.pR[i]? =some g.pR[i]:=ef V;generalize hp:g.pR[i]=p at N;have Z:=G.p p (dI N);have rl:=Z.len;have W:xc g r.p=(p.right.length:Int):=by unfold xc;rw[hi,show((i:Int)).toNat=i from rfl,N];rfl
 have e2:sub (g.pR.flatMap aM) (i*13+2) 1=some [eR dO 2 p.rn p.right]:=cW kr N (j:=2) (n:=1) ω;have bs:aY .sub (ι (p.right.length:Int)) (ι 1)=some (ι ((p.right.length:Int)-1)):=rX ⟨by omega,by omega⟩;rw[hi] at c8;simp only[bx] at c0;unfold pD at hb L;rw[W] at hb L;have key:∀sl:Int,(if r.k=7∨r.k=8 then 1 else (p.right.length:Int)-1)=sl ->(((r.k=7)=True/\ (r.k=8)=False/\ sl=1)∨((r.k=7)=False/\ (r.k=8)=True/\ sl=1)∨((r.k=7)=False/\ (r.k=8)=False/\ sl=(p.right.length:Int)-1)):=by
  intro sl e;by_cases B:r.k=7;rw[aF (.inl B)] at e;exact .inl ⟨fq B,cE,e.symm⟩;by_cases H:r.k=8;rw[aF (.inr H)] at e;exact .inr (.inl ⟨dQ B,fq H,e.symm⟩);rw[aD (λh=>h.elim B H)] at e;exact .inr (.inr ⟨dQ B,dQ H,e.symm⟩)
 generalize Y:(if r.k=7∨r.k=8 then 1 else (p.right.length:Int)-1)=sl at hb L;unfold JA;rcases key sl Y with ⟨B,H,U⟩|⟨B,H,U⟩|⟨B,H,U⟩
 ·rw[U] at hb L;cases tk with
  |true=>
   refine Y9 c0 c8 t2 t8 A e2 bs B H ?_;rw[lA];refine Y0 ?_;exact hb rfl
  |false=>
  by_cases h1:r.n<lo;rw[eW h1] at hb;refine jC c0 c8 t2 t8 t9 A e2 bs B H h1 ?_;rw[lA];refine Y0 ?_;exact hb rfl;by_cases h2:hi'<r.n;rw[eW h2] at hb;refine pm c0 c8 t2 t8 t9 t10 A e2 bs B H h1 h2 ?_;rw[lA];refine Y0 ?_;exact hb (by simp);by_cases I:r.s<0;rw[eW I] at hb;refine qk c0 c8 t2 t8 t9 t10 A e2 bs B H h1 h2 I ?_;rw[lA];refine Y0 ?_;exact hb (by simp);by_cases J:1<=r.s;rw[eW J] at hb;refine sB c0 c8 t2 t8 t9 t10 A e2 bs B H h1 h2 I J ?_;rw[lA];refine Y0 ?_;exact hb (by simp);rw[fe h1,fe h2,fe I,fe J] at L;refine sB c0 c8 t2 t8 t9 t10 A e2 bs B H h1 h2 I J ?_;refine L rfl _ (λj O=> ?_) (λj O R=> ?_);all_goals exact U0
 ·rw[U] at hb L;cases tk with
  |true=>
   refine Y9 c0 c8 t2 t8 A e2 bs B H ?_;rw[lA];refine Y0 ?_;exact hb rfl
  |false=>
  by_cases h1:r.n<lo;rw[eW h1] at hb;refine jC c0 c8 t2 t8 t9 A e2 bs B H h1 ?_;rw[lA];refine Y0 ?_;exact hb rfl;by_cases h2:hi'<r.n;rw[eW h2] at hb;refine pm c0 c8 t2 t8 t9 t10 A e2 bs B H h1 h2 ?_;rw[lA];refine Y0 ?_;exact hb (by simp);by_cases I:r.s<0;rw[eW I] at hb;refine qk c0 c8 t2 t8 t9 t10 A e2 bs B H h1 h2 I ?_;rw[lA];refine Y0 ?_;exact hb (by simp);by_cases J:1<=r.s;rw[eW J] at hb;refine sB c0 c8 t2 t8 t9 t10 A e2 bs B H h1 h2 I J ?_;rw[lA];refine Y0 ?_;exact hb (by simp);rw[fe h1,fe h2,fe I,fe J] at L;refine sB c0 c8 t2 t8 t9 t10 A e2 bs B H h1 h2 I J ?_;refine L rfl _ (λj O=> ?_) (λj O R=> ?_);all_goals exact U0
 ·rw[U] at hb L;cases tk with
  |true=>
   refine Y9 c0 c8 t2 t8 A e2 bs B H ?_;rw[lA];refine Y0 ?_;exact hb rfl
  |false=>
  by_cases h1:r.n<lo;rw[eW h1] at hb;refine jC c0 c8 t2 t8 t9 A e2 bs B H h1 ?_;rw[lA];refine Y0 ?_;exact hb rfl;by_cases h2:hi'<r.n;rw[eW h2] at hb;refine pm c0 c8 t2 t8 t9 t10 A e2 bs B H h1 h2 ?_;rw[lA];refine Y0 ?_;exact hb (by simp);by_cases I:r.s<0;rw[eW I] at hb;refine qk c0 c8 t2 t8 t9 t10 A e2 bs B H h1 h2 I ?_;rw[lA];refine Y0 ?_;exact hb (by simp);by_cases J:((p.right.length:Int)-1)<=r.s;rw[eW J] at hb;refine sB c0 c8 t2 t8 t9 t10 A e2 bs B H h1 h2 I J ?_;rw[lA];refine Y0 ?_;exact hb (by simp);rw[fe h1,fe h2,fe I,fe J] at L;refine sB c0 c8 t2 t8 t9 t10 A e2 bs B H h1 h2 I J ?_;refine L rfl _ (λj O=> ?_) (λj O R=> ?_);all_goals exact U0
def Tm {g L i r} (j:L[i]? =some r):rj g L i=(eP g r&& !(L.take i).any (iY r)):=by unfold rj;rw[j];dsimp only;rw[aX1]
def vj {b} (h:(!b)=true):b=false:=by cases b<;>simp_all
def vk {b} (h:(!b)=false):b=true:=by cases b<;>simp_all
def s6 {g r} (h:eP g r=true) (j:r.k=6):1<=r.n:=by
 unfold eP at h;rw[aD ω,aD ω,aF j] at h;simp only[aB,aU] at h;omega
def Jc {g r tk lo hi} (h0:0<=r.p) (h1:r.p<(g.pR.length:Int)) (H:1<=r.k) (I:r.k<=8) (G:(r.k=5/\ lo=1/\ hi=3)∨(r.k=6/\ lo=1/\ hi=16)∨(r.k≠5/\ r.k≠6/\ lo=0/\ hi=0)):
 pD g r tk lo hi= !(eP g r&& !tk):=by
 have key:∀a b c d e f:Bool,(a||b||c||d||e)= !(!b&& !c&& !d&& !e&& !a):=by intros a b c d e f;cases a<;>cases b<;>cases c<;>cases d<;>cases e<;>rfl
 unfold pD eP;rw[eW h0,eW h1,eW H,eW I];cases tk with
 |true=>simp
 |false=>
 by_cases B:r.k=7∨r.k=8;rw[aF B,aF B];have:lo=0/\ hi=0:=by omega
 rw[this.1,this.2];by_cases a:r.n<0;rw[eW a,fe (show¬r.n=0 by omega)];simp;by_cases b:0<r.n;rw[eW b,fe (show¬r.n=0 by omega)];simp;by_cases c:r.s<0;rw[eW c,fe (show¬r.s=0 by omega)];simp;by_cases d:1<=r.s;rw[eW d,fe (show¬r.s=0 by omega)];simp;rw[fe a,fe b,fe c,fe d,eW (show r.n=0 by omega),eW (show r.s=0 by omega)];rfl;rw[aD B,aD B];generalize xc g r.p-1=sl;have e1:decide (0<=r.s)= !decide (r.s<0):=by by_cases q:r.s<0<;>simp[q]<;>omega
 have e2:decide (r.s<sl)= !decide (sl<=r.s):=by by_cases q:r.s<sl<;>simp[q]<;>omega
 have e3:(if r.k=5 then decide (1<=r.n)&&decide (r.n<=3) else if r.k=6 then decide (1<=r.n)&&decide (r.n<=16) else decide (r.n=0))=(!decide (r.n<lo)&& !decide (hi<r.n)):=by
  rcases G with ⟨q,j,A⟩|⟨q,j,A⟩|⟨q,J,j,A⟩;rw[aF q,j,A,ES (show(1<=r.n↔¬r.n<1) by omega),ES (show(r.n<=3↔¬3<r.n) by omega)];rw[aD ω,aF q,j,A,ES (show(1<=r.n↔¬r.n<1) by omega),ES (show(r.n<=16↔¬16<r.n) by omega)];rw[aD q,aD J,j,A];by_cases a:r.n<0;rw[eW a,fe (show¬r.n=0 by omega)];rfl;by_cases b:0<r.n;rw[eW b,fe (show¬r.n=0 by omega)];simp;rw[fe a,fe b,eW (show r.n=0 by omega)];rfl
 rw[e1,e2,e3];cases decide (r.n<lo)<;>cases decide (hi<r.n)<;>cases decide (r.s<0)<;>cases decide (sl<=r.s)<;>rfl
def aX2 {C:aK Prop} (E:Sem P X GL ae C) {g} (G:oy g) {D r Sp Ns Al Ke} (bk:kM D Sp Ns Al Ke) (hD:∀q∈D,eP g q=true) (p0:0<=r.p) (p1:r.p<(g.pR.length:Int)) {m n1} {S:List Fr} {k h τ}
 (hn:m+6<=n1) (hx:n1+2<=h.next) (c0:cG (h.oB.get m)=some (bx g)) (c5:cG (h.oB.get (m+5))=some [.m (m+1),.m (m+2),.m (m+3),.m (m+4)])
 (m1:mG (h.oB.get (m+1))=mX eJ nC Sp) (m2:mG (h.oB.get (m+2))=mX eJ kK Ns) (m3:mG (h.oB.get (m+3))=mX kK AV.b Al) (m4:mG (h.oB.get (m+4))=mX kK AV.b Ke)
 (c8:cG (h.oB.get n1)=some [ι r.p,ι r.s,ι r.k,ι r.n]) (U:cG (h.oB.get (n1+1))=some [ι r.p,ι r.s])
 (t2:τ.get 2=some (.p m 0)) (t6:τ.get 6=some (.p (m+5) 0)) (t8:τ.get 8=some (.p n1 0)) (t9:τ.get 9=some (ι 0)) (t10:τ.get 10=some (ι 0)) (bH:τ.get 11=some (.p (n1+1) 0)) (b3:τ.get 13=some (.b (look (r.p,r.s) Sp).isSome)) (c6:τ.get 14=some (.b false)) (L:τ.get 54=some (ι r.k))
 (hb:(eP g r&& !D.any (iY r))=false ->∀h',k (.tu [.pn,.b false]) h')
 (hg:(eP g r&& !D.any (iY r))=true ->∀Sp' Ns' Al' Ke' τ' h',kM (D++[r]) Sp' Ns' Al' Ke' ->h.next<=h'.next ->cG (h'.oB.get m)=some (bx g) ->cG (h'.oB.get (m+5))=some [.m (m+1),.m (m+2),.m (m+3),.m (m+4)] ->
  mG (h'.oB.get (m+1))=mX eJ nC Sp' ->mG (h'.oB.get (m+2))=mX eJ kK Ns' ->mG (h'.oB.get (m+3))=mX kK AV.b Al' ->mG (h'.oB.get (m+4))=mX kK AV.b Ke' ->(∀j,j<m ->h'.oB.get j=h.oB.get j) ->
  τ'.get 2=τ.get 2 ->τ'.get 6=τ.get 6 ->τ'.get 22=τ.get 22 ->τ'.get 23=τ.get 23 ->τ'.get 24=τ.get 24 ->gV C .normal S (KF k [(4,none),(5,none)]) τ' h'):
 df C Qi (.s (.seq JA Qk)::S) (KF k [(4,none),(5,none)]) τ h:=by
 obtain⟨nx,ver,ob⟩:=h;dsimp only at c0 c5 c8 U m1 m2 m3 m4 hx;obtain⟨i,hi⟩:∃i:Nat,r.p=(i:Int):=⟨r.p.toNat,by omega⟩;have O:i<g.pR.length:=by omega
 have b2:∀(a b c:Nat) I A ob' (τ:T AV),mG (T.get ob' (m+1))=mX eJ nC Sp ->az C τ (.t a)= .m (m+1) ->az C τ (.t b)= .ag [ι r.p,ι r.s] ->az C τ (.t c)= .ag [ι r.p,ι r.s,ι r.k,ι r.n] ->
  step (az C τ) ⟨I,A,ob'⟩ (.mupd (.ag [(0,1,false,.lf .i),(1,1,false,.lf .i)]) (.t a) (.t b) (.t c))= .v .un ⟨I,A+1,ob'.put (m+1) (.map (A+1) (di eJ nC 0 (ups (r.p,r.s) r Sp)) (ups (r.p,r.s) r Sp).length)⟩:=
  λa b c I A ob' τ W Y Z q4=>mL (k:=(r.p,r.s)) (v:=r) (en:=nC) EP (h:=⟨I,A,ob'⟩) (fT.2 W) Y Z q4
 have b1:∀I A ob' (τ:T AV),mG (T.get ob' (m+2))=mX eJ kK Ns ->az C τ (.t 81)= .m (m+2) ->az C τ (.t 82)= .ag [ι r.p,ι r.s] ->
  step (az C τ) ⟨I,A,ob'⟩ (.look (.ag [(0,1,false,.lf .i),(1,1,false,.lf .i)]) (.t 81) (.t 82) (ι 0) false)= .v (oF kK (ι 0) (look (r.p,r.s) Ns)) ⟨I,A,ob'⟩:=
  λI A ob' τ W Y Z=>sd (k:=(r.p,r.s)) (z:=ι 0) (en:=kK) EP (h:=⟨I,A,ob'⟩) (fT.2 W) Y Z
 have b8:∀I A ob' (τ:T AV),mG (T.get ob' (m+2))=mX eJ kK Ns ->az C τ (.t 88)= .m (m+2) ->az C τ (.t 89)= .ag [ι r.p,ι r.s] ->az C τ (.t 91)=ι r.n ->
  step (az C τ) ⟨I,A,ob'⟩ (.mupd (.ag [(0,1,false,.lf .i),(1,1,false,.lf .i)]) (.t 88) (.t 89) (.t 91))= .v .un ⟨I,A+1,ob'.put (m+2) (.map (A+1) (di eJ kK 0 (ups (r.p,r.s) r.n Ns)) (ups (r.p,r.s) r.n Ns).length)⟩:=
  λI A ob' τ W Y Z q4=>mL (k:=(r.p,r.s)) (v:=r.n) (en:=kK) EP (h:=⟨I,A,ob'⟩) (fT.2 W) Y Z q4
 have V:∀(o:Nat) (B:List (Int×Bool)) (a b:Nat) I A ob' (τ:T AV),mG (T.get ob' o)=mX kK AV.b B ->az C τ (.t a)= .m o ->az C τ (.t b)=ι r.p ->
  step (az C τ) ⟨I,A,ob'⟩ (.look (.lf .i) (.t a) (.t b) (.b false) false)= .v (oF AV.b (.b false) (look r.p B)) ⟨I,A,ob'⟩:=
  λo B a b I A ob' τ W Y Z=>sd (k:=r.p) (z:= .b false) (en:=AV.b) Az (h:=⟨I,A,ob'⟩) (fT.2 W) Y Z
 have b0:∀(o:Nat) (B:List (Int×Bool)) (a b:Nat) I A ob' (τ:T AV),mG (T.get ob' o)=mX kK AV.b B ->az C τ (.t a)= .m o ->az C τ (.t b)=ι r.p ->
  step (az C τ) ⟨I,A,ob'⟩ (.mupd (.lf .i) (.t a) (.t b) (.c (.b true)))= .v .un ⟨I,A+1,ob'.put o (.map (A+1) (di kK AV.b 0 (ups r.p true B)) (ups r.p true B).length)⟩:=
  λo B a b I A ob' τ W Y Z=>mL (k:=r.p) (v:=true) (en:=AV.b) Az (h:=⟨I,A,ob'⟩) (fT.2 W) Y Z rfl
 rw[aW9] at b1;simp only[aX0] at V;have b4:=V (m+3) Al 97 99;have b5:=V (m+4) Ke 112 114;have b6:=b0 (m+3) Al 104 106;have b7:=b0 (m+4) Ke 119 121;clear V b0;have N:=λe Sp' Ns' Al' Ke' τ' h' x1 x2 x3 x4 x5 x6 x7 x8 x9 (H:∀i,i=2∨i=6∨22<=i/\ i<=24 ->τ'.get i=τ.get i)=>hg e Sp' Ns' Al' Ke' τ' h' x1 x2 x3 x4 x5 x6 x7 x8 x9 (H 2 ω) (H 6 ω) (H 22 ω) (H 23 ω) (H 24 ω);unfold Qi;by_cases R:1<=r.k/\ r.k<=8;rotate_left;have e1:(r.k=1)=False:=cE;refine Y2 L e1 ?_;rw[lA];simp(disch:=omega) only[↓reduceIte,go_sem];refine hb ?_ _;unfold eP;by_cases q:1<=r.k;rw[fe (show¬r.k<=8 by omega)];simp;rw[fe q];simp;by_cases q4:r.k<=4;have bb:pD g r ((look (r.p,r.s) Sp).isSome) 0 0= !(eP g r&& !(look (r.p,r.s) Sp).isSome):=Jc p0 p1 R.1 R.2 (.inr (.inr ⟨by omega,by omega,rfl,rfl⟩));have J:(!(eP g r&& !(look (r.p,r.s) Sp).isSome))= !(eP g r&& !D.any (iY r)):=by rw[bk.t1 ω ω]
 rw[J] at bb;rcases(show r.k=1∨r.k=2∨r.k=3∨r.k=4 by omega) with q|q|q|q<;>(
  refine qX c5 c8 U t6 t8 bH b3 L q b2 ?_;refine vh E G hi O (tk:=(look (r.p,r.s) Sp).isSome) (lo:=0) (hi':=0) (m:=m) (n1:=n1) (W0 c0) (W0 c8) (W0 t2) (W0 t8) (W0 t9) (W0 t10) U0 (λe=>hb (vj (bb▸e)) _) (λe τ' a1 a2=>N (vk (bb▸e)) (ups (r.p,r.s) r Sp) Ns Al Ke τ' _ (bk.sep ω ω) (bB _) (W0 c0) (W0 c5) U0 (W0 m2) (W0 m3) (W0 m4) (λj hj=>U0) ?_);intro i h;rcases h with h|h|h;rw[a1 i ω];exact U0;rw[a1 i ω];exact U0;rw[a2 i ω ω];exact U0)
 by_cases q:r.k=5;have e1:(r.k=1)=False:=cE;have bb:pD g r ((look (r.p,r.s) Sp).isSome) 1 3= !(eP g r&& !(look (r.p,r.s) Sp).isSome):=Jc p0 p1 R.1 R.2 (.inl ⟨q,rfl,rfl⟩);have J:(!(eP g r&& !(look (r.p,r.s) Sp).isSome))= !(eP g r&& !D.any (iY r)):=by rw[bk.t1 ω ω]
 rw[J] at bb;refine qX c5 c8 U t6 t8 bH b3 L e1 b2 ?_;refine vh E G hi O (tk:=(look (r.p,r.s) Sp).isSome) (lo:=1) (hi':=3) (m:=m) (n1:=n1) (W0 c0) (W0 c8) (W0 t2) (W0 t8) U0 U0 U0 (λe=>hb (vj (bb▸e)) _) (λe τ' a1 a2=>N (vk (bb▸e)) (ups (r.p,r.s) r Sp) Ns Al Ke τ' _ (bk.sep ω ω) (bB _) (W0 c0) (W0 c5) U0 (W0 m2) (W0 m3) (W0 m4) (λj hj=>U0) ?_);intro i h;rcases h with h|h|h;rw[a1 i ω];exact U0;rw[a1 i ω];exact U0;rw[a2 i ω ω];exact U0;by_cases q:r.k=6;have e1:(r.k=1)=False:=cE;have bb:pD g r (decide (0<(look (r.p,r.s) Ns).getD 0)) 1 16= !(eP g r&& !decide (0<(look (r.p,r.s) Ns).getD 0)):=Jc p0 p1 R.1 R.2 (.inr (.inl ⟨q,rfl,rfl⟩));have J:(!(eP g r&& !decide (0<(look (r.p,r.s) Ns).getD 0)))= !(eP g r&& !D.any (iY r)):=by rw[bk.t2 q]
 rw[J] at bb;refine qX c5 c8 U t6 t8 bH L e1 b1 b8 ?_;refine vh E G hi O (tk:=decide (0<(look (r.p,r.s) Ns).getD 0)) (lo:=1) (hi':=16) (m:=m) (n1:=n1) ?_ ?_ ?_ ?_ ?_ ?_ ?_ (λe=>hb (vj (bb▸e)) _) (λe τ' a1 a2=>N (vk (bb▸e)) Sp (ups (r.p,r.s) r.n Ns) Al Ke τ' _ (bk.nest q (s6 (g:=g) (by rw[bb] at e;revert e;cases eP g r<;>simp) q)) (bB _) ?_ ?_ ?_ ?_ ?_ ?_ (λj hj=>U0) ?_);exact W0 c0;exact W0 c8;exact W0 t2;exact W0 t8;(iterate 3 exact U0);exact W0 c0;exact W0 c5;exact W0 m1;exact U0;exact W0 m3;exact W0 m4;intro i h;rcases h with h|h|h;rw[a1 i ω];exact U0;rw[a1 i ω];exact U0;rw[a2 i ω ω];exact U0;by_cases q:r.k=7;have e1:(r.k=1)=False:=cE;have bb:pD g r ((look r.p Al).getD false) 0 0= !(eP g r&& !(look r.p Al).getD false):=Jc p0 p1 R.1 R.2 (.inr (.inr ⟨by omega,by omega,rfl,rfl⟩));have J:(!(eP g r&& !(look r.p Al).getD false))= !(eP g r&& !D.any (iY r)):=by
  cases hr:eP g r;rfl;rw[bk.t3 q (EU hr (.inl q)) hD]
 rw[J] at bb;refine Z8 c5 c8 t6 t8 L e1 b4 b6 ?_;refine vh E G hi O (tk:=(look r.p Al).getD false) (lo:=0) (hi':=0) (m:=m) (n1:=n1) (W0 c0) (W0 c8) (W0 t2) (W0 t8) (W0 t9) (W0 t10) U0 (λe=>hb (vj (bb▸e)) _) (λe τ' a1 a2=>N (vk (bb▸e)) Sp Ns (ups r.p true Al) Ke τ' _ (bk.algn q) (bB _) (W0 c0) (W0 c5) (W0 m1) (W0 m2) U0 (W0 m4) (λj hj=>U0) ?_);intro i h;rcases h with h|h|h;rw[a1 i ω];exact U0;rw[a1 i ω];exact U0;rw[a2 i ω ω];exact U0;by_cases q:r.k=8;have e1:(r.k=1)=False:=cE;have bb:pD g r ((look r.p Ke).getD false) 0 0= !(eP g r&& !(look r.p Ke).getD false):=Jc p0 p1 R.1 R.2 (.inr (.inr ⟨by omega,by omega,rfl,rfl⟩));have J:(!(eP g r&& !(look r.p Ke).getD false))= !(eP g r&& !D.any (iY r)):=by
  cases hr:eP g r;rfl;rw[bk.t4 q (EU hr (.inr q)) hD]
 rw[J] at bb;refine Z8 c5 c8 t6 t8 L e1 b5 b7 ?_;refine vh E G hi O (tk:=(look r.p Ke).getD false) (lo:=0) (hi':=0) (m:=m) (n1:=n1) (W0 c0) (W0 c8) (W0 t2) (W0 t8) (W0 t9) (W0 t10) U0 (λe=>hb (vj (bb▸e)) _) (λe τ' a1 a2=>N (vk (bb▸e)) Sp Ns Al (ups r.p true Ke) τ' _ (bk.keep q) (bB _) (W0 c0) (W0 c5) (W0 m1) (W0 m2) (W0 m3) U0 (λj hj=>U0) ?_);intro i h;rcases h with h|h|h;rw[a1 i ω];exact U0;rw[a1 i ω];exact U0;rw[a2 i ω ω];exact U0;omega
def bF8 (g:Gr) (L:List Ru) (b:Nat) (h:AH) (v:AV):Prop:=∃Sp Ns Al Ke,kM L Sp Ns Al Ke/\ v= .p (b+5) 0/\ b+6<=h.next/\ cG (h.oB.get (b+5))=some [.m (b+1),.m (b+2),.m (b+3),.m (b+4)]/\
 mG (h.oB.get (b+1))=mX eJ nC Sp/\ mG (h.oB.get (b+2))=mX eJ kK Ns/\ mG (h.oB.get (b+3))=mX kK AV.b Al/\ mG (h.oB.get (b+4))=mX kK AV.b Ke
variable {C:aK Prop} (E:Sem P X GL ae C)
def aX3 (F:bz8 ae) {g} (G:oy g) {L nl} (hL:L.length<=1000) h k (hk:∀v h',(iG g L=true ->(h.next<=h'.next/\∀j,j<h.next ->h'.oB.get j=h.oB.get j)/\ bF8 g L h.next h' v) ->k (.tu [v,.b (iG g L)]) h'):
 du C 48 [aI g,eR uC 4 nl L] h k:=by
 obtain⟨m,ver,ob⟩:=h;have bq:=iW (g:=g);simp only[bx] at bq;have pl:=G.pl;refine E.bS (F.g 48 Sr) (Y2 @aI.eq_1 @bx.eq_1 ?_);refine fj E.ok L.length (λi τ h=>∃Sp Ns Al Ke,kM (L.take i) Sp Ns Al Ke/\ (∀j,j<i ->rj g L j=true)/\ m+6<=h.next/\ cG (h.oB.get m)=some (bx g)/\ cG (h.oB.get (m+5))=some [.m (m+1),.m (m+2),.m (m+3),.m (m+4)]/\
  mG (h.oB.get (m+1))=mX eJ nC Sp/\ mG (h.oB.get (m+2))=mX eJ kK Ns/\ mG (h.oB.get (m+3))=mX kK AV.b Al/\ mG (h.oB.get (m+4))=mX kK AV.b Ke/\
  τ.get 2=some (.p m 0)/\ τ.get 6=some (.p (m+5) 0)/\ τ.get 22=some (eR uC 4 nl L)/\ τ.get 23=some (ι (L.length:Int))/\ τ.get 24=some (ι (i:Int))/\∀j,j<m ->h.oB.get j=ob.get j) ?_ ?_ _ _ ⟨[],[],[],[],kM.nil,λj I=>by omega,bB _,?_,?_,?_,?_,?_,?_,?_,?_,?_,?_,?_,λj I=>U0⟩
 ·rintro i τ ⟨n1,v1,aQ⟩ hi ⟨Sp,Ns,Al,Ke,bk,V,W,c0,c5,R,m2,m3,Y,t2,t6,H,A,B,old⟩ ih;have b0:m+6<=n1:=W;dsimp only at c0 c5 R m2 m3 Y;have de:=c0;simp only[bx] at c0;have J:L[i]? =some L[i]:=ef hi;generalize hr:L[i]=r at J;have e4:sub (L.flatMap uC) (i*4) 4=some (uC r):=cW Qm J (j:=0) (n:=4) ω;simp only[uC] at e4;have oa:=Tm (g:=g) J;have bad:rj g L i=false ->∀h',k (.tu [.pn,.b false]) h':=λh h'=>by
   have:=hk .pn h' λe=>by rw[Bz hi h] at e;cases e
   rw[Bz hi h] at this;exact this
  by_cases h1:r.p<0;refine Z5 H A B e4 h1 ?_;exact bad (by rw[oa];unfold eP;rw[fe (show¬0<=r.p by omega)];rfl) _;by_cases h2:(g.pR.length:Int)<=r.p;refine Z8 c0 t2 H A B e4 h1 h2 ?_;exact bad (by rw[oa];unfold eP;rw[fe (show¬r.p<(g.pR.length:Int) by omega)];simp) _;have O:∀N U ob' (τ:T AV),mG (T.get ob' (m+1))=mX eJ nC Sp ->az C τ (.t 48)= .m (m+1) ->az C τ (.t 49)=eJ (r.p,r.s) ->
   step (az C τ) ⟨N,U,ob'⟩ (.look (.ag [(0,1,false,.lf .i),(1,1,false,.lf .i)]) (.t 48) (.t 49) (.ag [ι 0,ι 0,ι 0,ι 0]) true)= .v (Bb nC (.ag [ι 0,ι 0,ι 0,ι 0]) (look (r.p,r.s) Sp)) ⟨N,U,ob'⟩:=
   λN U ob' τ q1 q2 q3=>uQ (k:=(r.p,r.s)) (z:= .ag [ι 0,ι 0,ι 0,ι 0]) (en:=nC) EP (h:=⟨N,U,ob'⟩) (fT.2 q1) q2 q3
  simp only[aW8,eJ] at O;refine lX c0 c5 t2 t6 H A B e4 h1 h2 O R ?_;refine aX2 (r:=r) (n1:=n1) E G bk (λq hq=> ?_) ω ω b0 ?_ ?_ ?_ ?_ ?_ ?_ ?_ ?_ ?_ ?_ ?_ ?_ ?_ ?_ ?_ ?_ ?_ ?_ (λe h'=>bad (by rw[oa];exact e) h') (λe Sp' Ns' Al' Ke' τ' h' bk' N d0 d5 w1 w2 w3 w4 fr s2 s6 s22 s23 s24=> ?_);obtain⟨j,I⟩:=List.mem_iff_getElem?.1 hq;rw[jZ] at I;split at I;rename_i Z;have:=V j Z;rw[Tm I] at this;exact(nj.1 this).1;cases I;show n1+2<=n1+1+1+1;omega;exact W0 de;exact W0 c5;exact W0 R;exact W0 m2;exact W0 m3;exact W0 Y;exact U0;exact U0
  rotate_right
  ·obtain⟨n2,v2,aJ⟩:=h';simp(disch:=omega) only[dh,T.get_put,bV,t2,t6,H,A,B] at s2 s6 s22 s23 s24;refine Y1 s24 ?_;refine ih _ _ ⟨Sp',Ns',Al',Ke',?_,λj I=> ?_,?_,d0,d5,w1,w2,w3,w4,?_,?_,?_,?_,?_,λj I=>(fr j I).trans (W0 (old j I))⟩;rw[nY J];exact bk';by_cases q:j=i;subst q;rw[oa];exact e;exact V j ω;have:n1+1+1+1<=n2:=N;show m+6<=n2;omega;all_goals exact U4 s2 s6 s22 s23
  all_goals exact U2 t2 t6
 rintro τ ⟨n1,v1,aQ⟩ ⟨Sp,Ns,Al,Ke,bk,V,W,c0,c5,R,m2,m3,Y,t2,t6,H,A,B,old⟩;refine Y3 t6 A B ?_;rw[Tl V] at hk;exact hk _ _ λ_=>⟨⟨by have h:m+6<=n1:=W;show m<=n1;omega,old⟩,Sp,Ns,Al,Ke,by rw[mR] at bk;exact bk,rfl,W,c5,R,m2,m3,Y⟩;exact U1 @bx.eq_1;(iterate 5 exact U0);all_goals exact U0
end
end AM
