import Derived.Test.YtdicmpmcdjdneaaGreatDoorN16
set_option linter.all false
set_option maxHeartbeats 2000000
namespace AM
open Dg Go
noncomputable section
variable {P:Program} {X:aR} {GL:T (List AV)} {ae:T au}
def S3:∀i,1<=i ->i<9 ->jQ i≠[]:=by
 intro i h1 h2;rcases(show i=1∨i=2∨i=3∨i=4∨i=5∨i=6∨i=7∨i=8 by omega) with rfl|rfl|rfl|rfl|rfl|rfl|rfl|rfl<;>simp[jQ,kj]
variable (S:aT P X GL ae)
def S4 (F:bz8 ae) {g} (G:oy g) {l nl lit} (xt:l≠[]) (Y:∀t∈l,t<9/\ (lit=true ->1<=t)) (D:∀i a b,l[i]? =some a ->l[i+1]? =some b ->a<b) (eQ:l.length<=16) h:
 bP P X GL 285 [aI g,eR cI 1 nl l,.b lit] h (.b true) h:=by
 refine ku S (λn h=>by simp only[aL,bZ,yW,eu yZ]) ?_ h;refine bg.intro λC E=> ?_;have tl:=G.tcl;have H:g.tc.zipIdx.length=11:=by rw[ny,tl]
 have b1:((g.tc.zipIdx.length:Nat):Int)=11:=by rw[H];rfl
 have Z:0<l.length:=xG.2 xt;refine E.bS (F.f 285) (Y2 @aI.eq_1 @bx.eq_1 ?_);refine fj E.ok l.length (λi τ h=>cG (h.oB.get 0)=some (bx g)/\ 1<=h.next/\ τ.get 1=some (eR cI 1 nl l)/\ τ.get 2=some (.b lit)/\ τ.get 3=some (.p 0 0)/\ τ.get 7=some (ι (i:Int))) ?_ ?_ _ _ ⟨?_,?_,?_,?_,?_,?_⟩;rintro i τ ⟨n1,ver,ob⟩ hi ⟨c0,U,t1,t2,t3,t7⟩ J;have b0:1<=n1:=U;have I:=c0;simp only[bx] at c0;have A:l[i]? =some l[i]:=ef hi;generalize hx:l[i]=x at A;obtain⟨W,xl⟩:=Y x (dI A);obtain⟨c,_,N⟩:=re (g:=g) tl (i:=x) ω;have e1:sub (l.flatMap cI) i 1=some [ι (x:Int)]:=by
  have:=cW qw A (j:=0) (n:=1) ω;simpa[cI] using this
 have e7:sub (g.tc.zipIdx.flatMap dq) (x*7) 7=some (dq (c,x)):=cW qx N (j:=0) (n:=7) ω;have nk:nice 64 (.ag (dq (c,x)))=true:=by rw[qe,oM]
 simp only[dq] at e7 nk;have L:((l7 x:Nat):Int)=0:=by rw[JZ W];rfl
 have V:lit=true ->(jQ x=[])=False:=λh=>dQ (S3 x (xl h) W);by_cases i0:i=0;subst i0;cases lit
 ·refine Y9 c0 t1 t2 t3 t7 H e1 e7 L ?_;refine J _ _ ⟨?_,?_,?_,?_,?_,?_⟩;exact W0 I;show 1<=n1+1;omega;all_goals simp only[T.get_put,Nat.reduceEqDiff,reduceIte,t1,t2,t3]
  rfl
 ·refine nS c0 t1 t2 t3 t7 H e1 e7 L (V rfl) ?_;refine J _ _ ⟨?_,?_,?_,?_,?_,?_⟩;exact W0 I;show 1<=n1+1;omega;all_goals simp only[T.get_put,Nat.reduceEqDiff,reduceIte,t1,t2,t3]
  rfl
 have B:l[i-1]? =some l[i-1]:=ef ω;generalize hy:l[i-1]=y at B;have O:sub (l.flatMap cI) (i-1) 1=some [ι (y:Int)]:=by
  have:=cW qw B (j:=0) (n:=1) ω;simpa[cI] using this
 have aV:y<x:=D (i-1) y x B (by rw[show i-1+1=i by omega];exact A);have R:aY .sub (ι (i:Int)) (ι 1)=some (ι ((i-1:Nat):Int)):=qV (b:=1) ω;cases lit
 ·refine jC c0 t1 t2 t3 t7 H e1 e7 O R L ?_;refine J _ _ ⟨?_,?_,?_,?_,?_,?_⟩;exact W0 I;show 1<=n1+1;omega;all_goals exact U3 t1 t2 t3
 ·refine iU c0 t1 t2 t3 t7 H e1 e7 O R L (V rfl) ?_;refine J _ _ ⟨?_,?_,?_,?_,?_,?_⟩;exact W0 I;show 1<=n1+1;omega;all_goals exact U3 t1 t2 t3
 rintro τ ⟨n1,ver,ob⟩ ⟨c0,U,t1,t2,t3,t7⟩;refine Y2 t1 t7 ?_;exact⟨1,rfl⟩;exact U1 @bx.eq_1;exact bB _;all_goals exact U0
def aR5 {f p r d} (A:∀n h,bJ n h r=some r) (j:bg P X GL ae f (.ag (eF p)::r) d) h:bP P X GL f (.ag (eF p)::r) h d h:=
 dR S j (n:=9) (by rw[aL,nX (n:=8) (ju (n:=7) p),A]) h
def J7 (F:bz8 ae) {f} (D:((f.kind=1∨f.kind=2)/\ f.left=0/\ f.tok=0/\ f.tO=[])∨((f.kind=3∨f.kind=4)/\ f.par=0/\ f.at_=0/\ f.child=0/\ f.tok=0)∨(f.kind=5/\ f.par=0/\ f.at_=0/\ f.child=0/\ f.left=0)) h:bP P X GL 284 [.ag (eF f)] h (.b true) h:=by
 refine aR5 S (λn h=>rfl) ?_ h;refine bg.intro λC E=> ?_;have c1:((1:Nat):Int)=1:=rfl;have c2:((2:Nat):Int)=2:=rfl;have c3:((3:Nat):Int)=3:=rfl;have c4:((4:Nat):Int)=4:=rfl;have c5:((5:Nat):Int)=5:=rfl;rw[E.cB (F.f 284)];rcases D with ⟨h1|h1,h2,j,A⟩|⟨h1|h1,h2,j,A,B⟩|⟨h1,h2,j,A,B⟩<;>
  (
   refine nS @eF.eq_1 h1 h2 j A c1 c2 c3 c4 c5 ?_;try exact Y1 B trivial
   exact⟨1,rfl⟩)
def pz (g:Gr) (f:Fi):Bool:=match g.pR[f.par]?,g.pR[f.child]? with
 |some pp,some cp=>(match pp.right[f.at_]? with
  |some s=> !s.1&&decide (s.2=cp.left)
  |none=>false)
 |_,_=>false
def S5 (R:bz8 ae) (A:dY P X GL) (F:bz8 ae) {g} (G:oy g) {f} (hc:sG g.nc f.cond) (B:f.kind=1∨f.kind=2) (h1:f.left=0) (h2:f.tok=0) (h3:f.tO=[]) (hp:f.par<g.pR.length) (hq:f.child<g.pR.length) (ha:f.at_<1000) h:
 bP P X GL 176 [aI g,.ag (eF f)] h (.b (pz g f)) h:=by
 refine ku S (λn h=>by simp only[aL,bZ,nX (ju _)]) ?_ h;refine bg.intro λC E=> ?_;have nc:=G.nc;have W:(fz g.nc).length=g.nc:=by unfold fz;rw[jm];simp;omega
 have V:∀h,bP P X GL 283 [.ag [tp (aE f.cond).1,ι ((aE f.cond).2:Int)],ι (g.nc:Int)] h (.b true) h:=λh=>SR S R A F nc hc h;have J:=λh=>J7 S F (f:=f) (.inl ⟨B,h1,h2,h3⟩) h;simp only[eF] at J;have D:g.pR[f.par]? =some g.pR[f.par]:=ef hp;have L:g.pR[f.child]? =some g.pR[f.child]:=ef hq;generalize b0:g.pR[f.par]=pp at D;generalize b1:g.pR[f.child]=O at L;have Z:=G.p pp (dI D);have b4:=Z.len;have pl:=G.pl;have e2:sub (g.pR.flatMap aM) (f.par*13+2) 1=some [eR dO 2 pp.rn pp.right]:=cW kr D (j:=2) (n:=1) ω;have e1:sub (g.pR.flatMap aM) (f.child*13+1) 1=some [ι (O.left:Int)]:=cW kr L (j:=1) (n:=1) ω;have c1:((1:Nat):Int)=1:=rfl;have c2:((2:Nat):Int)=2:=rfl;rw[E.cB (F.f 176)];by_cases Y:f.at_<pp.right.length;have N:pp.right[f.at_]? =some pp.right[f.at_]:=ef Y;generalize b3:pp.right[f.at_]=s at N;have e3:sub (pp.right.flatMap dO) (f.at_*2) 1=some [.b s.1]:=cW gO N (j:=0) (n:=1) ω;have e4:sub (pp.right.flatMap dO) (f.at_*2+1) 1=some [ι (s.2:Int)]:=cW gO N (j:=1) (n:=1) ω;have H:pz g f=(!s.1&&decide (s.2=O.left)):=by unfold pz;rw[D,L];dsimp only;rw[N]
 rw[H];cases U:s.1 with
 |true=>
  rw[U] at e3;rcases B with B|B<;>
   (
    simp only[B] at J;refine Y7 @aI.eq_1 @bx.eq_1 @eF.eq_1 B c1 c2 W ?_;refine E.cN (V _) (Y0 ?_);refine E.cN (J _) (Y2 e2 e3 ?_);exact⟨1,rfl⟩)
 |false=>
  rw[U] at e3;by_cases b2:s.2=O.left;have I:((s.2:Int)=(O.left:Int))=True:=cJ;rcases B with B|B<;>
   (
    simp only[B] at J;refine Y7 @aI.eq_1 @bx.eq_1 @eF.eq_1 B c1 c2 W ?_;refine E.cN (V _) (Y0 ?_);refine E.cN (J _) (Y5 e1 e2 e3 e4 I ?_);exact⟨1,by simp[deep]⟩)
  have I:((s.2:Int)=(O.left:Int))=False:=cE;rcases B with B|B<;>
   (
    simp only[B] at J;refine Y7 @aI.eq_1 @bx.eq_1 @eF.eq_1 B c1 c2 W ?_;refine E.cN (V _) (Y0 ?_);refine E.cN (J _) (Y5 e1 e2 e3 e4 I ?_);exact⟨1,by simp[deep]⟩)
 have H:pz g f=false:=by unfold pz;rw[D,L];dsimp only;rw[rI ω]
 rw[H];rcases B with B|B<;>
  (
   simp only[B] at J;refine Y7 @aI.eq_1 @bx.eq_1 @eF.eq_1 B c1 c2 W ?_;refine E.cN (V _) (Y0 ?_);refine E.cN (J _) (Y1 e2 ?_);exact⟨1,rfl⟩)
def S6 {n i} (h:i<n) (j:n<=3):(fz n)[i]? =some [65+i]:=by
 rcases(show i=0∨i=1∨i=2 by omega) with rfl|rfl|rfl<;>simp[fz,h]
def J8 (R:bz8 ae) (A:dY P X GL) (F:bz8 ae) {g} (G:oy g) {f} (ok:rd g f) (b0:3<=f.kind):bg P X GL ae 176 [aI g,.ag (eF f)] (.b true):=by
 have nc:=G.nc;have Y:(fz g.nc).length=g.nc:=by unfold fz;rw[jm];simp;omega
 have W:∀h,bP P X GL 283 [.ag [tp (aE f.cond).1,ι ((aE f.cond).2:Int)],ι (g.nc:Int)] h (.b true) h:=λh=>SR S R A F nc ok.cond h;have ntl:=G.ntl;have tl:=ok.tl;have c3:((3:Nat):Int)=3:=rfl;have c4:((4:Nat):Int)=4:=rfl;have c5:((5:Nat):Int)=5:=rfl;rcases ok.kinds with ⟨B,-⟩|⟨B,h1,h2,J,L,N,O,H,U⟩|⟨B,h1,h2,J,L,N,O,H,U⟩;omega;refine bg.intro λC E=> ?_;have D:=λh=>J7 S F (f:=f) (.inr (.inl ⟨B,h1,h2,J,L⟩)) h;have ca:=λh=>S4 S F G (l:=f.tO) (nl:=f.tn) (lit:=false) O (λt I=>⟨H t I,λh=>by cases h⟩) U tl h;simp only[eF] at D;simp only[aI,bx] at ca;rw[E.cB (F.f 176)];rcases B with B|B<;>
  (
   simp only[B] at D;refine Y7 @aI.eq_1 @bx.eq_1 @eF.eq_1 B c3 c4 Y ?_;refine E.cN (W _) (Y0 ?_);refine E.cN (D _) (Y0 ?_);refine E.cN (ca _) (Y0 ?_);exact⟨1,rfl⟩)
 refine bg.intro λC E=> ?_;have tcl:=G.tcl;have Z:g.tc.zipIdx.length=11:=by rw[ny,tcl]
 have b1:((g.tc.zipIdx.length:Nat):Int)=11:=by rw[Z];rfl
 obtain⟨c,_,V⟩:=re (g:=g) tcl (i:=0) ω;have e7:sub (g.tc.zipIdx.flatMap dq) 0 7=some (dq (c,0)):=cW qx V (j:=0) (n:=7) ω;simp only[dq] at e7;have k0:((l7 0:Nat):Int)=0:=rfl;have kl:jQ 0=[]:=rfl;have D:=λh=>J7 S F (f:=f) (.inr (.inr ⟨B,h1,h2,J,L⟩)) h;have ca:=λh=>S4 S F G (l:=f.tO) (nl:=f.tn) (lit:=true) O (λt I=>⟨(H t I).2,λ_=>(H t I).1⟩) U tl h;simp only[eF] at D;simp only[aI,bx] at ca;simp only[B] at D;refine E.bS (F.f 176) (Y7 @aI.eq_1 @bx.eq_1 @eF.eq_1 B N c5 Y ?_);refine E.cN (W _) ?_;simp only[N,yJ] at D;refine Y0 ?_;refine E.cN (D _) (Y1 Z ?_);refine E.cN (ca _) (Y3 e7 k0 kl ?_);exact⟨1,rfl⟩
def cT (t:Tr):List AV:=[tp (aE t).1,.i .i64 ((aE t).2:Int)]
def gq:Tr:=yU false 3
def EC:cA 3 gq=true:=ph 3
def J9 t:(cT t).length=2:=rfl
def Ka {c b:List AV}:∀{a n},eL c (a++b) (a.length+n)=(eL c b n).map (a++ ·)
 |[],n=>by simp
 |x::a,n=>by
  rw[gw,gJ,show a.length+1+n=a.length+n+1 by omega,Aw,Ka];cases eL c b n<;>rfl
def aR6 (h:AH) (v:AV) (r:List (Bool×Nat)):Prop:=(∃nl,v=eR dO 2 nl r)∨(∃o c,v= .sl o 0 r.length c 2/\ cG (h.oB.get o)=some (r.flatMap dO)/\ o<h.next)
def oQ (g:Gr) (d:Tr) (s:Bool×Nat):Tr:=if s.1 then cY (λx y=>x&&y) d (g.tc.getD s.2 gq) else d
def jh (g:Gr) (p:Pr):Tr:=p.right.foldl (oQ g) (cY (λx y=>x&&y) g.fam p.cond)
def Kb {g} (G:oy g):∀(r:List (Bool×Nat)) (d),cA 3 d=true ->cA 3 (r.foldl (oQ g) d)=true
 |[],_,hd=>hd
 |s::r,d,hd=>by
  refine Kb G r _ ?_;unfold oQ;split;refine jd hd ?_;rw[kX];rcases h:g.tc[s.2]? with _|t;exact EC;exact(G.tc t (dI h)).f;exact hd
def S7 {g} (G:oy g) {p} (j:p∈g.pR):cA 3 (jh g p)=true:=
 Kb G _ _ (jd G.fam.f (G.p p j).cond.f)
def Ec:Tr ->Nat
 | .c b=>if b then 1 else 0
 | .n a b=>Ec a+Ec b
def Kc:∀{k t},cA k t=true ->Ec t<=2^k
 |0,.c b,_=>by cases b<;>simp[Ec]
 |0,.n _ _,h=>by simp[cA] at h
 |k+1,.c _,h=>by simp[cA] at h
 |k+1,.n a b,h=>by
  simp only[cA,aB] at h;have h1:=Kc h.1;have h2:=Kc h.2;simp only[Ec];rw[Nat.pow_succ];omega
def ED:∀{k s d},cA k s=true ->cA k d=true ->Ec s<=Ec (cY (λx y=>x||y) s d)/\ (cY (λx y=>x||y) s d≠s ->Ec s<Ec (cY (λx y=>x||y) s d))
 |0,.c a,.c b,_,_=>by cases a<;>cases b<;>simp[cY,Ec]
 |0,.n _ _,_,h,_=>by simp[cA] at h
 |0,.c _,.n _ _,_,h=>by simp[cA] at h
 |k+1,.c _,_,h,_=>by simp[cA] at h
 |k+1,.n _ _,.c _,_,h=>by simp[cA] at h
 |k+1,.n a b,.n c d,h1,h2=>by
  simp only[cA,aB] at h1 h2;have j:=ED (k:=k) h1.1 h2.1;have A:=ED (k:=k) h1.2 h2.2;simp only[cY,Ec];refine⟨by omega,λB=> ?_⟩;by_cases e1:cY (λx y=>x||y) a c=a;by_cases e2:cY (λx y=>x||y) b d=b;exact bh (by rw[e1,e2]) B;have:=A.2 e2;omega;have:=j.2 e1;omega
def Kd:∀{k s},cA k s=true ->cY (λx y=>x&&y) s (yU false k)=yU false k
 |0,.c b,_=>by simp[yU,cY]
 |0,.n _ _,h=>by simp[cA] at h
 |k+1,.c _,h=>by simp[cA] at h
 |k+1,.n a b,h=>by
  simp only[cA,aB] at h;simp only[yU,cY,Kd h.1,Kd h.2]
def EE:∀{k s},cA k s=true ->cY (λx y=>x&&y) (yU false k) s=yU false k
 |0,.c b,_=>by simp[yU,cY]
 |0,.n _ _,h=>by simp[cA] at h
 |k+1,.c _,h=>by simp[cA] at h
 |k+1,.n a b,h=>by
  simp only[cA,aB] at h;simp only[yU,cY,EE h.1,EE h.2]
structure iQ (g:Gr) (Z:Nat ->Bool):Prop where
 z:∀p∈g.pR,Z p.left=true ->∃s∈p.right,s.1=true∨Z s.2=true
 st:∀p∈g.pR,(∀s∈p.right,s.1=false) ->∀(i b:Nat),p.right[i]? =some (false,b) ->p.left<b∨∃(j z:Nat),j≠i/\ p.right[j]? =some (false,z)/\ Z z=true
def Qo {C:aK Prop} (A:lQ C) {c} {S:List Fr} {K} {ι:Type} (μ:ι ->Nat) (I:ι ->T AV ->AH ->Prop)
 (step:∀x τ h,I x τ h ->(∀y τ' h',μ y<μ x ->I y τ' h' ->df C (.loop c) S K τ' h') ->df C c (.s (.loop c)::S) K τ h):∀x τ h,I x τ h ->df C (.loop c) S K τ h:=by
 have key:∀m x τ h,μ x<m ->I x τ h ->df C (.loop c) S K τ h:=by
  intro m;induction m with
  |zero=>intro x τ h B;omega
  |succ m D=>
   intro x τ h B hI;rw[qj A];exact step x τ h hI λy τ' h' E j=>D y τ' h' ω j
 exact λx τ h hI=>key _ x τ h (qI _) hI
end
end AM
