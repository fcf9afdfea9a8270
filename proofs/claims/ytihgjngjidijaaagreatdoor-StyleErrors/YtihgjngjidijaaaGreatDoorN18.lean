import Derived.Test.YtihgjngjidijaaaGreatDoorN16
set_option linter.all false
set_option maxHeartbeats 2000000
namespace AM
open Dg Go
noncomputable section
variable {P:Program} {X:aR} {GL:T (List AV)} {ae:T au}
def S3:∀i,1<=i ->i<9 ->jQ i≠[]:=by
 intro i h1 h2;rcases(show i=1∨i=2∨i=3∨i=4∨i=5∨i=6∨i=7∨i=8 by omega) with rfl|rfl|rfl|rfl|rfl|rfl|rfl|rfl<;>simp[jQ,kj]
variable (S:aT P X GL ae)
def S4 (F:jf ae) {g:Gr} (G:ce g) {l:List Nat} {nl lit:Bool} (dc:l≠[]) (h9:∀t∈l,t<9/\ (lit=true ->1<=t)) (hasc:∀(i a b:Nat),l[i]? =some a ->l[i+1]? =some b ->a<b) (eQ:l.length<=16) (h:AH):
 bP P X GL 280 [aI g,eR cI 1 nl l,.b lit] h (.b true) h:=by
 refine ku S (λn h=>by simp only[aL,bZ,yW,dA yZ]) ?_ h;refine bg.intro λC E=> ?_;have tl:=G.tcl;have hz:g.tc.zipIdx.length=11:=by rw[ny,tl]
 have hzz:((g.tc.zipIdx.length:Nat):Int)=11:=by rw[hz];rfl
 have hlp:0<l.length:=xG.2 dc;have nk3:nice 64 (eR dq 7 true g.tc.zipIdx)=true:=dg oM;have db:nice 64 (eR cI 1 nl l)=true:=dg tS;have dk:∀k,nice 64 (.dp (g.tc.zipIdx.flatMap dq) k)=true:=λk=>by rw[fK,fE oM]
 have nk4:∀k,nice 64 (.dp (l.flatMap cI) k)=true:=λk=>by rw[fK,fE tS]
 refine E.bS F.f280 (Y4 @R4.eq_1 @aI.eq_1 @ar.eq_1 @h0.eq_1 ?_);refine fj E.ok l.length (λi τ h=>cG (h.oB.get 0)=some (ar g)/\ 1<=h.next/\ τ.get 1=some (eR cI 1 nl l)/\ τ.get 2=some (.b lit)/\ τ.get 3=some (.p 0 0)/\ τ.get 7=some (ι (i:Int))) ?_ ?_ _ _ ⟨?_,?_,?_,?_,?_,?_⟩
 ·rintro i τ ⟨n1,ver,ob⟩ hi ⟨c0,hn,t1,t2,t3,t7⟩ ih;have hn':1<=n1:=hn;have de:=c0;simp only[ar] at c0;have hli:l[i]? =some l[i]:=cE hi;generalize hx:l[i]=x at hli;obtain⟨x9,xl⟩:=h9 x (dI hli);obtain⟨c,_,hz2⟩:=re (g:=g) tl (i:=x) ω;have e1:sub (l.flatMap cI) i 1=some [ι (x:Int)]:=by
   have:=cW qw hli (j:=0) (n:=1) ω;simpa[cI] using this
  have e7:sub (g.tc.zipIdx.flatMap dq) (x*7) 7=some (dq (c,x)):=cW qx hz2 (j:=0) (n:=7) ω;have nk:nice 64 (.ag (dq (c,x)))=true:=by rw[qe,oM]
  simp only[dq] at e7 nk;have k0:((l7 x:Nat):Int)=0:=by rw[JZ x9];rfl
  have kl:lit=true ->(jQ x=[])=False:=λh=>dQ (S3 x (xl h) x9);by_cases i0:i=0
  ·subst i0;cases lit
   ·refine pq c0 t1 t2 t3 t7 @bG hz hzz e1 e7 nk db dk nk3 nk4 k0 ?_;refine ih _ _ ⟨?_,?_,?_,?_,?_,?_⟩
    ·exact W0 de
    ·show 1<=n1+1;omega
    all_goals simp only[T.get_put,Nat.reduceEqDiff,reduceIte,t1,t2,t3]
    rfl
   ·refine qp c0 t1 t2 t3 t7 @bG hz hzz e1 e7 nk db dk nk3 nk4 k0 (kl rfl) ?_;refine ih _ _ ⟨?_,?_,?_,?_,?_,?_⟩
    ·exact W0 de
    ·show 1<=n1+1;omega
    all_goals simp only[T.get_put,Nat.reduceEqDiff,reduceIte,t1,t2,t3]
    rfl
  ·have hlj:l[i-1]? =some l[i-1]:=cE ω;generalize hy:l[i-1]=y at hlj;have ej:sub (l.flatMap cI) (i-1) 1=some [ι (y:Int)]:=by
    have:=cW qw hlj (j:=0) (n:=1) ω;simpa[cI] using this
   have aV:y<x:=hasc (i-1) y x hlj (by rw[show i-1+1=i by omega];exact hli);have es:aY .sub (ι (i:Int)) (ι 1)=some (ι ((i-1:Nat):Int)):=qV (b:=1) ω;cases lit
   ·refine qq c0 t1 t2 t3 t7 @bG hz hzz e1 e7 ej es nk db dk nk3 nk4 k0 @bK ?_;refine ih _ _ ⟨?_,?_,?_,?_,?_,?_⟩
    ·exact W0 de
    ·show 1<=n1+1;omega
    all_goals exact U3 t1 t2 t3
   ·refine qr c0 t1 t2 t3 t7 @bG hz hzz e1 e7 ej es nk db dk nk3 nk4 k0 (kl rfl) @bK ?_;refine ih _ _ ⟨?_,?_,?_,?_,?_,?_⟩
    ·exact W0 de
    ·show 1<=n1+1;omega
    all_goals exact U3 t1 t2 t3
 ·rintro τ ⟨n1,ver,ob⟩ ⟨c0,hn,t1,t2,t3,t7⟩;refine Y4 t1 t2 t3 t7 ?_;exact⟨1,rfl⟩
 ·exact U1 @ar.eq_1
 ·exact bB _
 all_goals exact U0
def aR5 {f:Nat} {p:Fi} {r:List AV} {d:AV} (hr:∀n h,bJ n h r=some r) (hp:bg P X GL ae f (.ag (eF p)::r) d) (h:AH):bP P X GL f (.ag (eF p)::r) h d h:=
 dR S hp (n:=9) (by rw[aL,nX (n:=8) (ju (n:=7) p),hr]) h
def J7 (F:jf ae) {f:Fi} (hk:((f.kind=1∨f.kind=2)/\ f.left=0/\ f.tok=0/\ f.tO=[])∨((f.kind=3∨f.kind=4)/\ f.par=0/\ f.at_=0/\ f.child=0/\ f.tok=0)∨(f.kind=5/\ f.par=0/\ f.at_=0/\ f.child=0/\ f.left=0)) (h:AH):bP P X GL 279 [.ag (eF f)] h (.b true) h:=by
 refine aR5 S (λn h=>rfl) ?_ h;refine bg.intro λC E=> ?_;have c1:((1:Nat):Int)=1:=rfl;have c2:((2:Nat):Int)=2:=rfl;have c3:((3:Nat):Int)=3:=rfl;have c4:((4:Nat):Int)=4:=rfl;have c5:((5:Nat):Int)=5:=rfl;rw[E.cB F.f279];rcases hk with ⟨h1|h1,h2,h3,h4⟩|⟨h1|h1,h2,h3,h4,h5⟩|⟨h1,h2,h3,h4,h5⟩<;>
  (
   refine iU @R3.eq_1 @eF.eq_1 @h0.eq_1 h1 h2 h3 h4 c1 c2 c3 c4 c5 ?_;try exact Y1 h5 trivial
   exact⟨1,rfl⟩)
def pz (g:Gr) (f:Fi):Bool:=match g.pR[f.par]?,g.pR[f.child]? with
 |some pp,some cp=>(match pp.right[f.at_]? with
  |some s=> !s.1&&decide (s.2=cp.left)
  |none=>false)
 |_,_=>false
def S5 (R:eL ae) (A:dY P X GL) (F:jf ae) {g:Gr} (G:ce g) {f:Fi} (hc:sG g.nc f.cond) (hk:f.kind=1∨f.kind=2) (h1:f.left=0) (h2:f.tok=0) (h3:f.tO=[]) (hp:f.par<g.pR.length) (hq:f.child<g.pR.length) (ha:f.at_<1000) (h:AH):
 bP P X GL 167 [aI g,.ag (eF f)] h (.b (pz g f)) h:=by
 refine ku S (λn h=>by simp only[aL,bZ,nX (ju _)]) ?_ h;refine bg.intro λC E=> ?_;have nc:=G.nc;have cl:(fz g.nc).length=g.nc:=by unfold fz;rw[jm];simp;omega
 have cf:∀h,bP P X GL 278 [.ag [cu (aE f.cond).1,ι ((aE f.cond).2:Int)],ι (g.nc:Int)] h (.b true) h:=λh=>SR S R A F nc hc h;have cp:=λh=>J7 S F (f:=f) (.inl ⟨hk,h1,h2,h3⟩) h;simp only[eF] at cp;have hpi:g.pR[f.par]? =some g.pR[f.par]:=cE hp;have hqi:g.pR[f.child]? =some g.pR[f.child]:=cE hq;generalize hpp:g.pR[f.par]=pp at hpi;generalize hqq:g.pR[f.child]=cq at hqi;have okp:=G.p pp (dI hpi);have okl:=okp.len;have pl:=G.pl;have e2:sub (g.pR.flatMap aM) (f.par*13+2) 1=some [eR ba 2 pp.rn pp.right]:=cW kr hpi (j:=2) (n:=1) ω;have e1:sub (g.pR.flatMap aM) (f.child*13+1) 1=some [ι (cq.left:Int)]:=cW kr hqi (j:=1) (n:=1) ω;have c1:((1:Nat):Int)=1:=rfl;have c2:((2:Nat):Int)=2:=rfl;have db:nice 64 (eR ba 2 pp.rn pp.right)=true:=dg jE;have dk:∀k,nice 64 (.dp (pp.right.flatMap ba) k)=true:=λk=>by rw[fK,fE jE]
 have nk3:∀k,nice 64 (.dp (g.pR.flatMap aM) k)=true:=λk=>by rw[fK,fE iV]
 have nk4:nice 64 (eR aM 13 true g.pR)=true:=dg iV;rw[E.cB F.f167];by_cases hat:f.at_<pp.right.length
 ·have hsi:pp.right[f.at_]? =some pp.right[f.at_]:=cE hat;generalize hss:pp.right[f.at_]=s at hsi;have e3:sub (pp.right.flatMap ba) (f.at_*2) 1=some [.b s.1]:=cW gO hsi (j:=0) (n:=1) ω;have e4:sub (pp.right.flatMap ba) (f.at_*2+1) 1=some [ι (s.2:Int)]:=cW gO hsi (j:=1) (n:=1) ω;have hres:pz g f=(!s.1&&decide (s.2=cq.left)):=by unfold pz;rw[hpi,hqi];dsimp only;rw[hsi]
  rw[hres];cases hs1:s.1 with
  |true=>
   rw[hs1] at e3;rcases hk with hk|hk<;>
    (
     simp only[hk] at cp;refine Y9 @wT.eq_1 @aI.eq_1 @ar.eq_1 @eF.eq_1 @h0.eq_1 hk c1 c2 cl ?_;refine E.cN (cf _) (Y2 c1 c2 ?_);refine E.cN (cp _) (jC c1 c2 @bG e1 e2 e3 e4 db dk nk3 nk4 ?_);exact⟨1,rfl⟩)
  |false=>
   rw[hs1] at e3;by_cases hs2:s.2=cq.left
   ·have hs2':((s.2:Int)=(cq.left:Int))=True:=cJ;rcases hk with hk|hk<;>
     (
      simp only[hk] at cp;refine Y9 @wT.eq_1 @aI.eq_1 @ar.eq_1 @eF.eq_1 @h0.eq_1 hk c1 c2 cl ?_;refine E.cN (cf _) (Y2 c1 c2 ?_);refine E.cN (cp _) (iU c1 c2 @bG e1 e2 e3 e4 hs2' db dk nk3 nk4 ?_);exact⟨1,by simp[deep]⟩)
   ·have hs2':((s.2:Int)=(cq.left:Int))=False:=av;rcases hk with hk|hk<;>
     (
      simp only[hk] at cp;refine Y9 @wT.eq_1 @aI.eq_1 @ar.eq_1 @eF.eq_1 @h0.eq_1 hk c1 c2 cl ?_;refine E.cN (cf _) (Y2 c1 c2 ?_);refine E.cN (cp _) (iU c1 c2 @bG e1 e2 e3 e4 hs2' db dk nk3 nk4 ?_);exact⟨1,by simp[deep]⟩)
 ·have hres:pz g f=false:=by unfold pz;rw[hpi,hqi];dsimp only;rw[rI ω]
  rw[hres];rcases hk with hk|hk<;>
   (
    simp only[hk] at cp;refine Y9 @wT.eq_1 @aI.eq_1 @ar.eq_1 @eF.eq_1 @h0.eq_1 hk c1 c2 cl ?_;refine E.cN (cf _) (Y2 c1 c2 ?_);refine E.cN (cp _) (Y9 c1 c2 @bG e1 e2 db dk nk3 nk4 ?_);exact⟨1,rfl⟩)
def S6 {n i:Nat} (h:i<n) (hn:n<=3):(fz n)[i]? =some [65+i]:=by
 rcases(show i=0∨i=1∨i=2 by omega) with rfl|rfl|rfl<;>simp[fz,h]
def J8 (R:eL ae) (A:dY P X GL) (F:jf ae) {g:Gr} (G:ce g) {f:Fi} (ok:rd g f) (hk3:3<=f.kind):bg P X GL ae 167 [aI g,.ag (eF f)] (.b true):=by
 have nc:=G.nc;have cl:(fz g.nc).length=g.nc:=by unfold fz;rw[jm];simp;omega
 have cf:∀h,bP P X GL 278 [.ag [cu (aE f.cond).1,ι ((aE f.cond).2:Int)],ι (g.nc:Int)] h (.b true) h:=λh=>SR S R A F nc ok.cond h;have ntl:=G.ntl;have tl:=ok.tl;have c3:((3:Nat):Int)=3:=rfl;have c4:((4:Nat):Int)=4:=rfl;have c5:((5:Nat):Int)=5:=rfl;rcases ok.kinds with ⟨hk,-⟩|⟨hk,h1,h2,h3,h4,h5,h6,h7,h8⟩|⟨hk,h1,h2,h3,h4,h5,h6,h7,h8⟩
 ·omega
 ·refine bg.intro λC E=> ?_;have cp:=λh=>J7 S F (f:=f) (.inr (.inl ⟨hk,h1,h2,h3,h4⟩)) h;have ca:=λh=>S4 S F G (l:=f.tO) (nl:=f.tn) (lit:=false) h6 (λt ht=>⟨h7 t ht,λh=>by cases h⟩) h8 tl h;simp only[eF] at cp;simp only[aI,ar] at ca;rw[E.cB F.f167];rcases hk with hk|hk<;>
   (
    simp only[hk] at cp;refine Y9 @wT.eq_1 @aI.eq_1 @ar.eq_1 @eF.eq_1 @h0.eq_1 hk c3 c4 cl ?_;refine E.cN (cf _) (Y2 c3 c4 ?_);refine E.cN (cp _) (Y2 c3 c4 ?_);refine E.cN (ca _) (Y0 ?_);exact⟨1,rfl⟩)
 ·refine bg.intro λC E=> ?_;have tcl:=G.tcl;have hz:g.tc.zipIdx.length=11:=by rw[ny,tcl]
  have hzz:((g.tc.zipIdx.length:Nat):Int)=11:=by rw[hz];rfl
  obtain⟨c,_,hz2⟩:=re (g:=g) tcl (i:=0) ω;have e7:sub (g.tc.zipIdx.flatMap dq) 0 7=some (dq (c,0)):=cW qx hz2 (j:=0) (n:=7) ω;simp only[dq] at e7;have k0:((l7 0:Nat):Int)=0:=rfl;have kl:jQ 0=[]:=rfl;have cp:=λh=>J7 S F (f:=f) (.inr (.inr ⟨hk,h1,h2,h3,h4⟩)) h;have ca:=λh=>S4 S F G (l:=f.tO) (nl:=f.tn) (lit:=true) h6 (λt ht=>⟨(h7 t ht).2,λ_=>(h7 t ht).1⟩) h8 tl h;simp only[eF] at cp;simp only[aI,ar] at ca;simp only[hk] at cp;refine E.bS F.f167 (Y9 @wT.eq_1 @aI.eq_1 @ar.eq_1 @eF.eq_1 @h0.eq_1 hk h5 c5 cl ?_);refine E.cN (cf _) ?_;simp only[h5,yJ] at cp;refine Y1 c5 ?_;refine E.cN (cp _) (Y3 c5 hz hzz ?_);refine E.cN (ca _) (Y6 @bG hz hzz e7 k0 kl ?_);exact⟨1,rfl⟩
def cT (t:Tr):List AV:=[cu (aE t).1,.i .i64 ((aE t).2:Int)]
def gq:Tr:=eu false 3
def EC:cA 3 gq=true:=ph 3
def J9 (t:Tr):(cT t).length=2:=rfl
def Ka {c b:List AV}:∀{a:List AV} {n:Nat},dW c (a++b) (a.length+n)=(dW c b n).map (a++ ·)
 |[],n=>by simp
 |x::a,n=>by
  rw[gw,gJ,show a.length+1+n=a.length+n+1 by omega,Aw,Ka];cases dW c b n<;>rfl
def aR6 (h:AH) (v:AV) (r:List (Bool×Nat)):Prop:=(∃nl,v=eR ba 2 nl r)∨(∃o c,v= .sl o 0 r.length c 2/\ cG (h.oB.get o)=some (r.flatMap ba)/\ o<h.next)
def oQ (g:Gr) (d:Tr) (s:Bool×Nat):Tr:=if s.1 then cY (λx y=>x&&y) d (g.tc.getD s.2 gq) else d
def jh (g:Gr) (p:Pr):Tr:=p.right.foldl (oQ g) (cY (λx y=>x&&y) g.fam p.cond)
def Kb {g:Gr} (G:ce g):∀(r:List (Bool×Nat)) (d:Tr),cA 3 d=true ->cA 3 (r.foldl (oQ g) d)=true
 |[],_,hd=>hd
 |s::r,d,hd=>by
  refine Kb G r _ ?_;unfold oQ;split
  ·refine jd hd ?_;rw[kX];cases h:g.tc[s.2]? with
   |none=>exact EC
   |some t=>exact(G.tc t (dI h)).f
  ·exact hd
def S7 {g:Gr} (G:ce g) {p:Pr} (hp:p∈g.pR):cA 3 (jh g p)=true:=
 Kb G _ _ (jd G.fam.f (G.p p hp).cond.f)
def mb:Tr ->Nat
 | .c b=>if b then 1 else 0
 | .n a b=>mb a+mb b
def Kc:∀{k:Nat} {t:Tr},cA k t=true ->mb t<=2^k
 |0,.c b,_=>by cases b<;>simp[mb]
 |0,.n _ _,h=>by simp[cA] at h
 |k+1,.c _,h=>by simp[cA] at h
 |k+1,.n a b,h=>by
  simp only[cA,aB] at h;have h1:=Kc h.1;have h2:=Kc h.2;simp only[mb];rw[Nat.pow_succ];omega
def ED:∀{k:Nat} {s d:Tr},cA k s=true ->cA k d=true ->mb s<=mb (cY (λx y=>x||y) s d)/\ (cY (λx y=>x||y) s d≠s ->mb s<mb (cY (λx y=>x||y) s d))
 |0,.c a,.c b,_,_=>by cases a<;>cases b<;>simp[cY,mb]
 |0,.n _ _,_,h,_=>by simp[cA] at h
 |0,.c _,.n _ _,_,h=>by simp[cA] at h
 |k+1,.c _,_,h,_=>by simp[cA] at h
 |k+1,.n _ _,.c _,_,h=>by simp[cA] at h
 |k+1,.n a b,.n c d,h1,h2=>by
  simp only[cA,aB] at h1 h2;have q1:=ED (k:=k) h1.1 h2.1;have q2:=ED (k:=k) h1.2 h2.2;simp only[cY,mb];refine⟨by omega,λdc=> ?_⟩;by_cases e1:cY (λx y=>x||y) a c=a
  ·by_cases e2:cY (λx y=>x||y) b d=b
   ·exact bh (by rw[e1,e2]) dc
   ·have:=q2.2 e2;omega
  ·have:=q1.2 e1;omega
def Kd:∀{k:Nat} {s:Tr},cA k s=true ->cY (λx y=>x&&y) s (eu false k)=eu false k
 |0,.c b,_=>by simp[eu,cY]
 |0,.n _ _,h=>by simp[cA] at h
 |k+1,.c _,h=>by simp[cA] at h
 |k+1,.n a b,h=>by
  simp only[cA,aB] at h;simp only[eu,cY,Kd h.1,Kd h.2]
def EE:∀{k:Nat} {s:Tr},cA k s=true ->cY (λx y=>x&&y) (eu false k) s=eu false k
 |0,.c b,_=>by simp[eu,cY]
 |0,.n _ _,h=>by simp[cA] at h
 |k+1,.c _,h=>by simp[cA] at h
 |k+1,.n a b,h=>by
  simp only[cA,aB] at h;simp only[eu,cY,EE h.1,EE h.2]
structure iQ (g:Gr) (Z:Nat ->Bool):Prop where
 z:∀p∈g.pR,Z p.left=true ->∃s∈p.right,s.1=true∨Z s.2=true
 st:∀p∈g.pR,(∀s∈p.right,s.1=false) ->∀(i b:Nat),p.right[i]? =some (false,b) ->p.left<b∨∃(j z:Nat),j≠i/\ p.right[j]? =some (false,z)/\ Z z=true
def za {C:aK Prop} (hC:lQ C) {c:aw} {S:List Fr} {K:K Prop} {ι:Type} (μ:ι ->Nat) (I:ι ->T AV ->AH ->Prop)
 (step:∀x τ h,I x τ h ->(∀y τ' h',μ y<μ x ->I y τ' h' ->df C (.loop c) S K τ' h') ->df C c (.s (.loop c)::S) K τ h):∀x τ h,I x τ h ->df C (.loop c) S K τ h:=by
 have key:∀m x τ h,μ x<m ->I x τ h ->df C (.loop c) S K τ h:=by
  intro m;induction m with
  |zero=>intro x τ h hm;omega
  |succ m ih=>
   intro x τ h hm hI;rw[qj hC];exact step x τ h hI λy τ' h' hy hI'=>ih y τ' h' ω hI'
 exact λx τ h hI=>key _ x τ h (qI _) hI
def aR7 {L:List Tr} {i x}:(L.set i x).length=L.length:=vK
end
end AM
