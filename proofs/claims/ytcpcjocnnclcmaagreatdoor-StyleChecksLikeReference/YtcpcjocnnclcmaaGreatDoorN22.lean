import Derived.Test.YtcpcjocnnclcmaaGreatDoorN20
set_option linter.all false
namespace AM
open Dg Go
noncomputable section
section
variable {P:Program} {X:dy} {GL:T (List AV)} {fns:T aR}
def I2:∀i,1<=i ->i<9 ->nX i≠[]:=by
 intro i h1 h2;rcases(show i=1∨i=2∨i=3∨i=4∨i=5∨i=6∨i=7∨i=8 by omega) with rfl|rfl|rfl|rfl|rfl|rfl|rfl|rfl<;>simp[nX,fY]
set_option maxHeartbeats 2000000 in
def qF (S:aw P X GL fns) (F:gf fns) {g:Gr} (G:cM g) {l:List Nat} {nl lit:Bool} (hne:l≠[]) (h9:∀t∈l,t<9/\ (lit=true ->1<=t)) (hasc:∀(i a b:Nat),l[i]? =some a ->l[i+1]? =some b ->a<b) (hlen:l.length<=16) (h:AH):
 dq P X GL 96 [b9 g,eR cI 1 nl l,.b lit] h (.b true) h:=by
 refine ez S (fun n h=>by simp only[af,ay,uW,aM Ci]) ?_ h;refine aZ.intro fun C E=> ?_
 have tl:=G.tcl;have hz:g.tc.zipIdx.length=11:=by rw[lC,tl]
 have hzz:((g.tc.zipIdx.length:Nat):Int)=11:=by rw[hz];rfl
 have hlp:0<l.length:=E7.2 hne;have nk3:aJ 64 (eR iI 7 true g.tc.zipIdx)=true:=aT iz;have nk1:aJ 64 (eR cI 1 nl l)=true:=aT wK;have nk2:∀k,aJ 64 (.dp (g.tc.zipIdx.flatMap iI) k)=true:=fun k=>by rw[di,bu iz]
 have nk4:∀k,aJ 64 (.dp (l.flatMap cI) k)=true:=fun k=>by rw[di,bu wK]
 rw[aA E.ok (E.get F.f96)];refine Y4 @aa8.eq_1 @b9.eq_1 @aL.eq_1 @h0.eq_1 ?_;refine aX E.ok l.length (fun i τ h=>cG (h.objs.get 0)=some (aL g)/\ 1<=h.next/\ τ.get 1=some (eR cI 1 nl l)/\ τ.get 2=some (.b lit)/\ τ.get 3=some (.p 0 0)/\ τ.get 7=some (ι (i:Int))) ?_ ?_ _ _ ⟨?_,?_,?_,?_,?_,?_⟩
 ·rintro i τ ⟨n1,ver,ob⟩ hi ⟨c0,hn,t1,t2,t3,t7⟩ ih;have hn':1<=n1:=hn;have c0':=c0;simp only[aL] at c0;have hli:l[i]? =some l[i]:=ba hi;generalize hx:l[i]=x at hli;obtain⟨x9,xl⟩:=h9 x (bJ hli);obtain⟨c,_,hz2⟩:=mD (g:=g) tl (i:=x) ω;have e1:sub (l.flatMap cI) i 1=some [.i .i64 (x:Int)]:=by
   have:=aB sF hli (j:=0) (n:=1) ω;simpa[cI] using this
  have e7:sub (g.tc.zipIdx.flatMap iI) (x*7) 7=some (iI (c,x)):=aB ic hz2 (j:=0) (n:=7) ω;have nk:aJ 64 (.ag (iI (c,x)))=true:=by rw[fH,iz]
  simp only[iI] at e7 nk;have k0:((iy x:Nat):Int)=0:=by rw[qE x9];rfl
  have kl:lit=true ->(nX x=[])=False:=fun h=>eq_false (I2 x (xl h) x9)
  by_cases i0:i=0
  ·subst i0;cases lit
   ·refine QT c0 t1 t2 t3 t7 @aF hz hzz e1 e7 nk nk1 nk2 nk3 nk4 k0 ?_;refine ih _ _ ⟨?_,?_,?_,?_,?_,?_⟩
    ·exact W0 c0'
    ·show 1<=n1+1;omega
    all_goals simp only[T.get_put,Nat.reduceEqDiff,reduceIte,t1,t2,t3]
    rfl
   ·refine Zw c0 t1 t2 t3 t7 @aF hz hzz e1 e7 nk nk1 nk2 nk3 nk4 k0 (kl rfl) ?_;refine ih _ _ ⟨?_,?_,?_,?_,?_,?_⟩
    ·exact W0 c0'
    ·show 1<=n1+1;omega
    all_goals simp only[T.get_put,Nat.reduceEqDiff,reduceIte,t1,t2,t3]
    rfl
  ·have hlj:l[i-1]? =some l[i-1]:=ba ω;generalize hy:l[i-1]=y at hlj;have ej:sub (l.flatMap cI) (i-1) 1=some [.i .i64 (y:Int)]:=by
    have:=aB sF hlj (j:=0) (n:=1) ω;simpa[cI] using this
   have hlt:y<x:=hasc (i-1) y x hlj (by rw[show i-1+1=i by omega];exact hli);have es:aV .sub (ι (i:Int)) (ι 1)=some (ι ((i-1:Nat):Int)):=oK (b:=1) ω;cases lit
   ·refine F4 c0 t1 t2 t3 t7 @aF hz hzz e1 e7 ej es nk nk1 nk2 nk3 nk4 k0 @ar ?_;refine ih _ _ ⟨?_,?_,?_,?_,?_,?_⟩
    ·exact W0 c0'
    ·show 1<=n1+1;omega
    all_goals exact U3 t1 t2 t3
   ·refine QU c0 t1 t2 t3 t7 @aF hz hzz e1 e7 ej es nk nk1 nk2 nk3 nk4 k0 (kl rfl) @ar ?_;refine ih _ _ ⟨?_,?_,?_,?_,?_,?_⟩
    ·exact W0 c0'
    ·show 1<=n1+1;omega
    all_goals exact U3 t1 t2 t3
 ·rintro τ ⟨n1,ver,ob⟩ ⟨c0,hn,t1,t2,t3,t7⟩;refine Y4 t1 t2 t3 t7 ?_;exact⟨1,rfl⟩
 ·exact U1 @aL.eq_1
 ·exact bK _
 all_goals exact U0
def Xf (S:aw P X GL fns) {f:Nat} {p:Fi} {r:List AV} {d:AV} (hr:∀n h,aK n h r=some r) (hp:aZ P X GL fns f (.ag (jx p)::r) d) (h:AH):dq P X GL f (.ag (jx p)::r) h d h:=
 aE S hp (n:=9) (by rw[af,eO (n:=8) (da (n:=7) p),hr]) h
def oc (S:aw P X GL fns) (F:gf fns) {f:Fi} (hk:((f.kind=1∨f.kind=2)/\ f.left=0/\ f.tok=0/\ f.toks=[])∨((f.kind=3∨f.kind=4)/\ f.par=0/\ f.at_=0/\ f.child=0/\ f.tok=0)∨(f.kind=5/\ f.par=0/\ f.at_=0/\ f.child=0/\ f.left=0)) (h:AH):dq P X GL 95 [.ag (jx f)] h (.b true) h:=by
 refine Xf S (fun n h=>rfl) ?_ h;refine aZ.intro fun C E=> ?_
 have c1:((1:Nat):Int)=1:=rfl;have c2:((2:Nat):Int)=2:=rfl;have c3:((3:Nat):Int)=3:=rfl;have c4:((4:Nat):Int)=4:=rfl;have c5:((5:Nat):Int)=5:=rfl;rw[aA E.ok (E.get F.f95)];rcases hk with ⟨h1|h1,h2,h3,h4⟩|⟨h1|h1,h2,h3,h4,h5⟩|⟨h1,h2,h3,h4,h5⟩<;>
  (
   refine BR @aa7.eq_1 @jx.eq_1 @h0.eq_1 h1 h2 h3 h4 c1 c2 c3 c4 c5 ?_;try exact Y1 h5 trivial
   exact⟨1,rfl⟩)
end
def mF (g:Gr) (f:Fi):Bool:=match g.prods[f.par]?,g.prods[f.child]? with
 |some pp,some cp=>(match pp.right[f.at_]? with
  |some s=> !s.1&&decide (s.2=cp.left)
  |none=>false)
 |_,_=>false
section
variable {P:Program} {X:dy} {GL:T (List AV)} {fns:T aR}
set_option maxHeartbeats 2000000 in
def vh (S:aw P X GL fns) (R:dr fns) (A:bh P X GL) (F:gf fns) {g:Gr} (G:cM g) {f:Fi} (hc:yB g.nc f.cond) (hk:f.kind=1∨f.kind=2) (h1:f.left=0) (h2:f.tok=0) (h3:f.toks=[]) (hp:f.par<g.prods.length) (hq:f.child<g.prods.length) (ha:f.at_<1000) (h:AH):
 dq P X GL 44 [b9 g,.ag (jx f)] h (.b (mF g f)) h:=by
 refine ez S (fun n h=>by simp only[af,ay,eO (da _)]) ?_ h;refine aZ.intro fun C E=> ?_
 have nc:=G.nc;have cl:(bW g.nc).length=g.nc:=by unfold bW;rw[fO];simp;omega
 have cf:∀h,dq P X GL 94 [.ag [fG (ax f.cond).1,.i .i64 ((ax f.cond).2:Int)],.i .i64 (g.nc:Int)] h (.b true) h:=fun h=>mC S R A F nc hc h
 have cp:=fun h=>oc S F (f:=f) (.inl ⟨hk,h1,h2,h3⟩) h
 simp only[jx] at cp;have hpi:g.prods[f.par]? =some g.prods[f.par]:=ba hp;have hqi:g.prods[f.child]? =some g.prods[f.child]:=ba hq;generalize hpp:g.prods[f.par]=pp at hpi;generalize hqq:g.prods[f.child]=cq at hqi;have okp:=G.p pp (bJ hpi);have okl:=okp.len;have pl:=G.pl;have e2:sub (g.prods.flatMap cC) (f.par*13+2) 1=some [eR bS 2 pp.rn pp.right]:=aB eG hpi (j:=2) (n:=1) ω;have e1:sub (g.prods.flatMap cC) (f.child*13+1) 1=some [.i .i64 (cq.left:Int)]:=aB eG hqi (j:=1) (n:=1) ω;have c1:((1:Nat):Int)=1:=rfl;have c2:((2:Nat):Int)=2:=rfl;have nk1:aJ 64 (eR bS 2 pp.rn pp.right)=true:=aT de;have nk2:∀k,aJ 64 (.dp (pp.right.flatMap bS) k)=true:=fun k=>by rw[di,bu de]
 have nk3:∀k,aJ 64 (.dp (g.prods.flatMap cC) k)=true:=fun k=>by rw[di,bu fD]
 have nk4:aJ 64 (eR cC 13 true g.prods)=true:=aT fD;rw[aA E.ok (E.get F.f44)];by_cases hat:f.at_<pp.right.length
 ·have hsi:pp.right[f.at_]? =some pp.right[f.at_]:=ba hat;generalize hss:pp.right[f.at_]=s at hsi;have e3:sub (pp.right.flatMap bS) (f.at_*2) 1=some [.b s.1]:=aB bz hsi (j:=0) (n:=1) ω;have e4:sub (pp.right.flatMap bS) (f.at_*2+1) 1=some [.i .i64 (s.2:Int)]:=aB bz hsi (j:=1) (n:=1) ω;have hres:mF g f=(!s.1&&decide (s.2=cq.left)):=by unfold mF;rw[hpi,hqi];dsimp only;rw[hsi]
  rw[hres];cases hs1:s.1 with
  |true=>
   rw[hs1] at e3;rcases hk with hk|hk<;>
    (
     simp only[hk] at cp;refine Y9 @Cs.eq_1 @b9.eq_1 @aL.eq_1 @jx.eq_1 @h0.eq_1 hk c1 c2 cl ?_;refine E.con (cf _) ?_;refine Y2 c1 c2 ?_;refine E.con (cp _) ?_;refine y5 c1 c2 @aF e1 e2 e3 e4 nk1 nk2 nk3 nk4 ?_;exact⟨1,rfl⟩)
  |false=>
   rw[hs1] at e3;by_cases hs2:s.2=cq.left
   ·have hs2':((s.2:Int)=(cq.left:Int))=True:=eq_true ω;rcases hk with hk|hk<;>
     (
      simp only[hk] at cp;refine Y9 @Cs.eq_1 @b9.eq_1 @aL.eq_1 @jx.eq_1 @h0.eq_1 hk c1 c2 cl ?_;refine E.con (cf _) ?_;refine Y2 c1 c2 ?_;refine E.con (cp _) ?_;refine BR c1 c2 @aF e1 e2 e3 e4 hs2' nk1 nk2 nk3 nk4 ?_;exact⟨1,by simp[aH,hs2]⟩)
   ·have hs2':((s.2:Int)=(cq.left:Int))=False:=eq_false ω;rcases hk with hk|hk<;>
     (
      simp only[hk] at cp;refine Y9 @Cs.eq_1 @b9.eq_1 @aL.eq_1 @jx.eq_1 @h0.eq_1 hk c1 c2 cl ?_;refine E.con (cf _) ?_;refine Y2 c1 c2 ?_;refine E.con (cp _) ?_;refine BR c1 c2 @aF e1 e2 e3 e4 hs2' nk1 nk2 nk3 nk4 ?_;exact⟨1,by simp[aH,hs2]⟩)
 ·have hres:mF g f=false:=by unfold mF;rw[hpi,hqi];dsimp only;rw[sR ω]
  rw[hres];rcases hk with hk|hk<;>
   (
    simp only[hk] at cp;refine Y9 @Cs.eq_1 @b9.eq_1 @aL.eq_1 @jx.eq_1 @h0.eq_1 hk c1 c2 cl ?_;refine E.con (cf _) ?_;refine Y2 c1 c2 ?_;refine E.con (cp _) ?_;refine Y9 c1 c2 @aF e1 e2 nk1 nk2 nk3 nk4 ?_;exact⟨1,rfl⟩)
set_option maxHeartbeats 2000000 in
def G4 (S:aw P X GL fns) (R:dr fns) (A:bh P X GL) (F:gf fns) {g:Gr} (G:cM g) {f:Fi} (ok:vY g f) (h:AH):dq P X GL 44 [b9 g,.ag (jx f)] h (.b true) h:=by
 have nc:=G.nc;have cl:(bW g.nc).length=g.nc:=by unfold bW;rw[fO];simp;omega
 have cf:∀h,dq P X GL 94 [.ag [fG (ax f.cond).1,.i .i64 ((ax f.cond).2:Int)],.i .i64 (g.nc:Int)] h (.b true) h:=fun h=>mC S R A F nc ok.cond h
 have ntl:=G.ntl;have tl:=ok.tl;have c3:((3:Nat):Int)=3:=rfl;have c4:((4:Nat):Int)=4:=rfl;have c5:((5:Nat):Int)=5:=rfl;rcases ok.kinds with ⟨hk,h1,h2,h3,pp,cp,h4,h5,h6⟩|⟨hk,h1,h2,h3,h4,h5,h6,h7,h8⟩|⟨hk,h1,h2,h3,h4,h5,h6,h7,h8⟩
 ·have hp:=(cW.1 h4).1;have hq:=(cW.1 h5).1;have ha:=(cW.1 h6).1;have hlen:=(G.p pp (bJ h4)).len;have:=vh S R A F G ok.cond hk h1 h2 h3 hp hq ω h;have hres:mF g f=true:=by unfold mF;rw[h4,h5];dsimp only;rw[h6];simp
  rwa [hres] at this
 ·refine ez S (fun n h=>by simp only[af,ay,eO (da _)]) ?_ h;refine aZ.intro fun C E=> ?_
  have cp:=fun h=>oc S F (f:=f) (.inr (.inl ⟨hk,h1,h2,h3,h4⟩)) h
  have ca:=fun h=>qF S F G (l:=f.toks) (nl:=f.tn) (lit:=false) h6 (fun t ht=>⟨h7 t ht,fun h=>by cases h⟩) h8 tl h
  simp only[jx] at cp;simp only[b9,aL] at ca;rw[aA E.ok (E.get F.f44)];rcases hk with hk|hk<;>
   (
    simp only[hk] at cp;refine Y9 @Cs.eq_1 @b9.eq_1 @aL.eq_1 @jx.eq_1 @h0.eq_1 hk c3 c4 cl ?_;refine E.con (cf _) ?_;refine Y2 c3 c4 ?_;refine E.con (cp _) ?_;refine Y2 c3 c4 ?_;refine E.con (ca _) ?_;refine Y0 ?_;exact⟨1,rfl⟩)
 ·refine ez S (fun n h=>by simp only[af,ay,eO (da _)]) ?_ h;refine aZ.intro fun C E=> ?_
  have tcl:=G.tcl;have hz:g.tc.zipIdx.length=11:=by rw[lC,tcl]
  have hzz:((g.tc.zipIdx.length:Nat):Int)=11:=by rw[hz];rfl
  obtain⟨c,_,hz2⟩:=mD (g:=g) tcl (i:=0) ω;have e7:sub (g.tc.zipIdx.flatMap iI) 0 7=some (iI (c,0)):=aB ic hz2 (j:=0) (n:=7) ω;simp only[iI] at e7;have k0:((iy 0:Nat):Int)=0:=rfl;have kl:nX 0=[]:=rfl;have cp:=fun h=>oc S F (f:=f) (.inr (.inr ⟨hk,h1,h2,h3,h4⟩)) h
  have ca:=fun h=>qF S F G (l:=f.toks) (nl:=f.tn) (lit:=true) h6 (fun t ht=>⟨(h7 t ht).2,fun _=>(h7 t ht).1⟩) h8 tl h
  simp only[jx] at cp;simp only[b9,aL] at ca;simp only[hk] at cp;rw[aA E.ok (E.get F.f44)];refine Y9 @Cs.eq_1 @b9.eq_1 @aL.eq_1 @jx.eq_1 @h0.eq_1 hk h5 c5 cl ?_;refine E.con (cf _) ?_;simp only[h5,Wn] at cp;refine Y1 c5 ?_;refine E.con (cp _) ?_;refine Y3 c5 hz hzz ?_;refine E.con (ca _) ?_;refine Y6 @aF hz hzz e7 k0 kl ?_;exact⟨1,rfl⟩
def Ek (S:aw P X GL fns) (R:dr fns) (A:bh P X GL) (F:gf fns) {g:Gr} (G:cM g) (h:AH):dq P X GL 187 [b9 g] h (.b true) h:=by
 refine ez S (fun n h=>rfl) ?_ h;refine aZ.intro fun C E=> ?_
 have fl:=G.fl;rw[aA E.ok (E.get F.f187)];refine Y3 @Ui.eq_1 @b9.eq_1 @h0.eq_1 ?_;refine aX E.ok g.fis.length (fun i τ h=>cG (h.objs.get 0)=some (aL g)/\ τ.get 1=some (.p 0 0)/\ τ.get 3=some (ι (i:Int))) ?_ ?_ _ _ ⟨?_,?_,?_⟩
 ·rintro i τ ⟨n1,ver,ob⟩ hi ⟨c0,t1,t3⟩ ih;have hbi:g.fis[i]? =some g.fis[i]:=ba hi;generalize hf:g.fis[i]=f at hbi;have e9:sub (g.fis.flatMap jx) (i*9) 9=some (jx f):=aB wL hbi (j:=0) (n:=9) ω;have cn:=fun h=>G4 S R A F G (G.f f (bJ hbi)) h
  have nk1:aJ 64 (eR jx 9 true g.fis)=true:=aT yx;have nk2:∀k,aJ 64 (.dp (g.fis.flatMap jx) k)=true:=fun k=>by rw[di,bu yx]
  have nk3:aJ 64 (.ag (aL g))=true:=by rw[fH,gY]
  have c0':=c0;simp only[b9,aL,jx] at cn e9 nk3;simp only[aL] at c0;refine Y8 c0 t1 t3 @aF e9 nk1 nk2 nk3 ?_;refine E.con (cn _) ?_;refine Y9 c0 t1 t3 @aF e9 nk1 nk2 nk3 @ar ?_;refine ih _ _ ⟨c0',?_,?_⟩<;>exact U1 t1
 ·rintro τ ⟨n1,ver,ob⟩ ⟨c0,t1,t3⟩;simp only[aL] at c0;refine Y3 c0 t1 t3 ?_;exact⟨1,rfl⟩
 ·exact U0
 all_goals exact U0
def oR {n i:Nat} (h:i<n) (hn:n<=3):(bW n)[i]? =some [65+i]:=by
 rcases(show i=0∨i=1∨i=2 by omega) with rfl|rfl|rfl<;>simp[bW,h]
def G5 (S:aw P X GL fns) (R:dr fns) (A:bh P X GL) (F:gf fns) {g:Gr} (G:cM g) (h:AH):dq P X GL 182 [b9 g] h (.b true) h:=by
 refine ez S (fun n h=>rfl) ?_ h;refine aZ.intro fun C E=> ?_
 have nc:=G.nc;have cl:(bW g.nc).length=g.nc:=by unfold bW;rw[fO];simp;omega
 have cf:∀h,dq P X GL 94 [.ag [fG (ax g.fam).1,.i .i64 ((ax g.fam).2:Int)],.i .i64 (g.nc:Int)] h (.b true) h:=fun h=>mC S R A F nc G.fam h
 have fr:(((ax g.fam).2:Int)=0)=False:=eq_false (by have:=G.famr;omega);rw[aA E.ok (E.get F.f182)];refine Y3 @Ud.eq_1 @b9.eq_1 @h0.eq_1 ?_;refine aX E.ok g.nc (fun i τ h=>cG (h.objs.get 0)=some (aL g)/\ τ.get 1=some (.p 0 0)/\ τ.get 3=some (ι (i:Int))) ?_ ?_ _ _ ⟨?_,?_,?_⟩
 ·rintro i τ ⟨n1,ver,ob⟩ hi ⟨c0,t1,t3⟩ ih;have hbi:=oR hi nc;have es:=yv (ex:=g.cx.map AV.s) hbi;have ci:=fun h=>Kz S F (i:=i) ω h
  have cn:=fun h=>aE S (sI F (L:=bW g.nc) (ex:=g.cx.map AV.s) (n:=i) ω hbi (by simp) (fun j hj he=>by rw[oR ω nc] at he;simp at he;omega)) (n:=9) (by simp only[af,ay,dc,qB]) h
  have x1:(([65+i]:List Nat)=[116,114,117,101])=False:=eq_false (by simp);have x2:(([65+i]:List Nat)=[102,97,108,115,101])=False:=eq_false (by simp);have c0':=c0;simp only[aL] at c0;refine Y6 c0 t1 t3 cl @uV es ?_;refine E.con (ci _) ?_;refine Y6 c0 t1 t3 cl @uV es ?_;refine E.con (cn _) ?_;refine Y7 c0 t1 t3 cl x1 x2 @ar ?_;refine ih _ _ ⟨c0',?_,?_⟩<;>exact U1 t1
 ·rintro τ ⟨n1,ver,ob⟩ ⟨c0,t1,t3⟩;simp only[aL] at c0;refine Y4 c0 t1 t3 cl ?_;refine E.con (cf _) ?_;refine Y5 c0 t1 t3 cl fr ?_;exact⟨1,rfl⟩
 ·exact U0
 all_goals exact U0
def KG (S:aw P X GL fns) (F:gf fns) {g:Gr} (G:cM g) (h:AH):dq P X GL 181 [b9 g] h (.b false) h:=by
 refine ez S (fun n h=>rfl) ?_ h;refine aZ.intro fun C E=> ?_
 have nc:=G.nc;have cl:(bW g.nc).length=g.nc:=by unfold bW;rw[fO];simp;omega
 have hz:g.tc.zipIdx.length=11:=by rw[lC,G.tcl]
 have ntl:=G.ntl;have pl:=G.pl;have ll:=G.ll;have fl:=G.fl;rw[aA E.ok (E.get F.f181)];refine Y6 @Uc.eq_1 @b9.eq_1 @aL.eq_1 @h0.eq_1 cl hz ?_;refine aX E.ok g.prods.length (fun i τ h=>cG (h.objs.get 0)=some (aL g)/\ τ.get 1=some (.p 0 0)/\ τ.get 3=some (ι (i:Int))) ?_ ?_ _ _ ⟨?_,?_,?_⟩
 ·rintro i τ ⟨n1,ver,ob⟩ hi ⟨c0,t1,t3⟩ ih;have hpi:g.prods[i]? =some g.prods[i]:=ba hi;generalize hp:g.prods[i]=p at hpi;have ok:=G.p p (bJ hpi);have q1:=ok.len;have q2:=ok.layl;have e2:sub (g.prods.flatMap cC) (i*13+2) 1=some [eR bS 2 p.rn p.right]:=aB eG hpi (j:=2) (n:=1) ω;have e7:sub (g.prods.flatMap cC) (i*13+7) 1=some [eR oM 3 p.ln p.lay]:=aB eG hpi (j:=7) (n:=1) ω;have c0':=c0;simp only[aL] at c0;refine Y7 c0 t1 t3 @aF e2 e7 @ar ?_;refine ih _ _ ⟨c0',?_,?_⟩<;>exact U1 t1
 ·rintro τ ⟨n1,ver,ob⟩ ⟨c0,t1,t3⟩;simp only[aL] at c0;refine Y4 c0 t1 t3 cl ?_;exact⟨1,rfl⟩
 ·exact U1 @aL.eq_1
 all_goals exact U0
def G6 (S:aw P X GL fns) (R:dr fns) (A:bh P X GL) (F:gf fns) {g:Gr} (G:cM g) (h:AH):dq P X GL 110 [b9 g] h (ι 0) h:=by
 refine ez S (fun n h=>rfl) ?_ h;refine aZ.intro fun C E=> ?_
 have d1:∀h,dq P X GL 181 [.ag (aL g)] h (.b false) h:=fun h=>KG S F G h
 have d2:∀h,dq P X GL 182 [.ag (aL g)] h (.b true) h:=fun h=>G5 S R A F G h
 have d3:∀h,dq P X GL 183 [.ag (aL g)] h (.b true) h:=fun h=>G2 S R A F G h
 have d4:∀h,dq P X GL 184 [.ag (aL g)] h (.b true) h:=fun h=>Ef S F G h
 have d5:∀h,dq P X GL 185 [.ag (aL g)] h (ι 0) h:=fun h=>KC S R A F G h
 have d6:∀h,dq P X GL 186 [.ag (aL g)] h (.b true) h:=fun h=>G3 S R A F G h
 have d7:∀h,dq P X GL 187 [.ag (aL g)] h (.b true) h:=fun h=>Ek S R A F G h
 simp only[aL] at d1 d2 d3 d4 d5 d6 d7;rw[aA E.ok (E.get F.f110)];simp(disch:=omega) only[Ub,b9,aL,h0,↓ky E.ok,Nat.reduceEqDiff,Nat.reduceAdd,Nat.reduceMul,Nat.reduceLT,Nat.reduceShiftRight,Nat.reduceAnd,Nat.reduceBneDiff,↓reduceIte,Int.reduceLT,Int.reduceLE,Int.reduceEq,go_sem];refine E.con (d1 _) ?_;refine Y0 ?_;refine E.con (d2 _) ?_;refine Y0 ?_;refine E.con (d3 _) ?_;refine Y0 ?_;refine E.con (d4 _) ?_;refine Y0 ?_;refine E.con (d5 _) ?_;refine Y0 ?_;refine E.con (d6 _) ?_;refine Y0 ?_;refine E.con (d7 _) ?_;refine Y0 ?_;exact⟨1,rfl⟩
set_option maxHeartbeats 2000000 in
def qg (S:aw P X GL fns) (R:dr fns) (A:bh P X GL) (F:gf fns) {g:Gr} (G:cM g) {f:Fi} (ok:vY g f) (hk3:3<=f.kind):aZ P X GL fns 44 [b9 g,.ag (jx f)] (.b true):=by
 have nc:=G.nc;have cl:(bW g.nc).length=g.nc:=by unfold bW;rw[fO];simp;omega
 have cf:∀h,dq P X GL 94 [.ag [fG (ax f.cond).1,.i .i64 ((ax f.cond).2:Int)],.i .i64 (g.nc:Int)] h (.b true) h:=fun h=>mC S R A F nc ok.cond h
 have ntl:=G.ntl;have tl:=ok.tl;have c3:((3:Nat):Int)=3:=rfl;have c4:((4:Nat):Int)=4:=rfl;have c5:((5:Nat):Int)=5:=rfl;rcases ok.kinds with ⟨hk,-⟩|⟨hk,h1,h2,h3,h4,h5,h6,h7,h8⟩|⟨hk,h1,h2,h3,h4,h5,h6,h7,h8⟩
 ·omega
 ·refine aZ.intro fun C E=> ?_
  have cp:=fun h=>oc S F (f:=f) (.inr (.inl ⟨hk,h1,h2,h3,h4⟩)) h
  have ca:=fun h=>qF S F G (l:=f.toks) (nl:=f.tn) (lit:=false) h6 (fun t ht=>⟨h7 t ht,fun h=>by cases h⟩) h8 tl h
  simp only[jx] at cp;simp only[b9,aL] at ca;rw[aA E.ok (E.get F.f44)];rcases hk with hk|hk<;>
   (
    simp only[hk] at cp;refine Y9 @Cs.eq_1 @b9.eq_1 @aL.eq_1 @jx.eq_1 @h0.eq_1 hk c3 c4 cl ?_;refine E.con (cf _) ?_;refine Y2 c3 c4 ?_;refine E.con (cp _) ?_;refine Y2 c3 c4 ?_;refine E.con (ca _) ?_;refine Y0 ?_;exact⟨1,rfl⟩)
 ·refine aZ.intro fun C E=> ?_
  have tcl:=G.tcl;have hz:g.tc.zipIdx.length=11:=by rw[lC,tcl]
  have hzz:((g.tc.zipIdx.length:Nat):Int)=11:=by rw[hz];rfl
  obtain⟨c,_,hz2⟩:=mD (g:=g) tcl (i:=0) ω;have e7:sub (g.tc.zipIdx.flatMap iI) 0 7=some (iI (c,0)):=aB ic hz2 (j:=0) (n:=7) ω;simp only[iI] at e7;have k0:((iy 0:Nat):Int)=0:=rfl;have kl:nX 0=[]:=rfl;have cp:=fun h=>oc S F (f:=f) (.inr (.inr ⟨hk,h1,h2,h3,h4⟩)) h
  have ca:=fun h=>qF S F G (l:=f.toks) (nl:=f.tn) (lit:=true) h6 (fun t ht=>⟨(h7 t ht).2,fun _=>(h7 t ht).1⟩) h8 tl h
  simp only[jx] at cp;simp only[b9,aL] at ca;simp only[hk] at cp;rw[aA E.ok (E.get F.f44)];refine Y9 @Cs.eq_1 @b9.eq_1 @aL.eq_1 @jx.eq_1 @h0.eq_1 hk h5 c5 cl ?_;refine E.con (cf _) ?_;simp only[h5,Wn] at cp;refine Y1 c5 ?_;refine E.con (cp _) ?_;refine Y3 c5 hz hzz ?_;refine E.con (ca _) ?_;refine Y6 @aF hz hzz e7 k0 kl ?_;exact⟨1,rfl⟩
end
def cT (t:Tr):List AV:=[fG (ax t).1,.i .i64 ((ax t).2:Int)]
def cN:Tr:=dQ false 3
def lK:ew 3 cN=true:=iG 3
def Cv:cT cN=[.sn,.i .i64 0]:=rfl
def kZ (t:Tr):(cT t).length=2:=rfl
def Em:∀{c a b:List AV},c.length=a.length ->sT c (a++b)=some (c++b)
 |[],[],b,_=>rfl
 |[],_::_,_,h=>by simp at h
 |_::_,[],_,h=>by simp at h
 |x::c,y::a,b,h=>by
  rw[nF,qu,Em (by simpa using h)];rfl
def sK {c b:List AV}:∀{a:List AV} {n:Nat},bD c (a++b) (a.length+n)=(bD c b n).map (a++ ·)
 |[],n=>by simp
 |x::a,n=>by
  rw[nF,fM,show a.length+1+n=a.length+n+1 by omega,tI,sK];cases bD c b n<;>rfl
def En {α:Type} {enc:α ->List AV} {k:Nat} (hk:∀a,(enc a).length=k) {L:List α} {i:Nat} (hi:i<L.length) (x:α):bD (enc x) (L.flatMap enc) (i*k)=some ((L.set i x).flatMap enc):=by
 have h1:L=L.take i++(L[i]::L.drop (i+1)):=by rw[←Ba hi,pm]
 have h2:L.set i x=L.take i++(x::L.drop (i+1)):=List.set_eq_take_append_cons_drop.trans (by rw[if_pos hi]);have hl:((L.take i).flatMap enc).length=i*k:=by rw[dG hk,fO,jp ω]
 rw[h2]
 conv=>lhs;rw[h1]
 rw[ik,ik,nD,nD];have:=sK (c:=enc x) (b:=enc L[i]++(L.drop (i+1)).flatMap enc) (a:=(L.take i).flatMap enc) (n:=0);rw[show((L.take i).flatMap enc).length+0=i*k by omega] at this;rw[this,tH,Em (by rw[hk,hk])];rfl
def mW (L:List Tr) (strict:Bool) (d:Tr) (s:Bool×Nat):Tr:=if s.1 then (if strict then cN else d) else eF (fun x y=>x&&y) d (L.getD s.2 cN)
def mY (L:List Tr) (strict:Bool) (d:Tr) (r:List (Bool×Nat)):Tr:=r.foldl (mW L strict) d
def Eo {L:List Tr} {strict:Bool} {d:Tr} {s:Bool×Nat} (hL:∀t∈L,ew 3 t=true) (hd:ew 3 d=true):ew 3 (mW L strict d s)=true:=by
 unfold mW;split
 ·split
  ·exact lK
  ·exact hd
 ·refine cH hd ?_;rw[rd];cases h:L[s.2]? with
  |none=>exact lK
  |some t=>exact hL t (bJ h)
def ud {L:List Tr} {strict:Bool} (hL:∀t∈L,ew 3 t=true):∀(r:List (Bool×Nat)) (d:Tr),ew 3 d=true ->ew 3 (mY L strict d r)=true
 |[],_,hd=>hd
 |s::r,d,hd=>ud hL r _ (Eo hL hd)
def KH {L:List Tr} {strict:Bool} {d:Tr} {r:List (Bool×Nat)} {i:Nat} {s:Bool×Nat} (h:r[i]? =some s):mY L strict d (r.take (i+1))=mW L strict (mY L strict d (r.take i)) s:=by
 unfold mY;rw[eP h,uz];rfl
def ab2 (h:AH) (v:AV) (r:List (Bool×Nat)):Prop:=(∃nl,v=eR bS 2 nl r)∨(∃o c,v= .sl o 0 r.length c 2/\ cG (h.objs.get o)=some (r.flatMap bS)/\ o<h.next)
section
variable {P:Program} {X:dy} {GL:T (List AV)} {fns:T aR}
def KI {z:List AV} {n:Nat} {t:Tr} (hz:cT t=z):(List.replicate n z).flatten=(List.replicate n t).flatMap cT:=by
 rw[Lk,List.map_replicate,hz]
def Ep {C:cQ Prop} (S:aw P X GL fns) (E:gW P X GL fns C) (R:dr fns) (F:vZ fns) {n:Nat} (hn:n<=1000) {h:AH} (k:AV ->AH ->Prop)
 (hk:∀h',h'.next=h.next+1 ->(∀j,j<h.next ->h'.objs.get j=h.objs.get j) ->cG (h'.objs.get h.next)=some ((List.replicate n cN).flatMap cT) ->k (.sl h.next 0 n (some n) 2) h'):bZ C 189 [.i .i64 (n:Int)] h k:=by
 obtain⟨m,ver,ob⟩:=h;have hn2:n<=1048576:=by omega
 have cc:=fun h=>jl S R false h
 have e0:ax (dQ false 3)=([],0):=rfl;have e1:eT (dQ false 3)= .ag [.sn,.i .i64 0]:=rfl;rw[e1] at cc;rw[aA E.ok (E.get F.f189)];simp(disch:=omega) only[Ut,hn2,bK,KI Cv,↓ky E.ok,Nat.reduceEqDiff,Nat.reduceAdd,Nat.reduceMul,Nat.reduceLT,Nat.reduceShiftRight,Nat.reduceAnd,Nat.reduceBneDiff,↓reduceIte,Int.reduceLT,Int.reduceLE,Int.reduceEq,go_sem];refine aX E.ok n (fun i τ h=>h.next=m+1/\ (∀j,j<m ->h.objs.get j=ob.get j)/\ cG (h.objs.get m)=some ((List.replicate n cN).flatMap cT)/\ τ.get 0=some (ι (n:Int))/\ τ.get 3=some (.sl m 0 n (some n) 2)/\ τ.get 4=some (ι (i:Int))) ?_ ?_ _ _ ⟨?_,?_,?_,?_,?_,?_⟩
 ·rintro i τ ⟨n1,ver1,ob1⟩ hi ⟨hn1,old,hc,t0,t3,t4⟩ ih;have fs:=En kZ (L:=List.replicate n cN) (i:=i) (by simpa using hi) cN;rw[Cv] at fs;have hrs:(List.replicate n cN).set i cN=List.replicate n cN:=by
   apply y6;intro j;rw[pu];by_cases hj:j<n
   ·by_cases e:i=j<;>simp[e,hj]
   ·have:¬i=j:=by omega
    simp[this]
  rw[hrs] at fs;dsimp only at hc;refine Y3 t0 t3 t4 ?_;refine E.con (cc _) ?_;refine Y6 t0 t3 t4 hc fs @ar ?_;refine ih _ _ ⟨hn1,?_,?_,?_,?_,?_⟩
  ·intro j hj;exact W0 (old j hj)
  ·exact U0
  all_goals exact U2 t0 t3
 ·rintro τ ⟨n1,ver1,ob1⟩ ⟨hn1,old,hc,t0,t3,t4⟩;refine Y3 t0 t3 t4 ?_;exact hk _ hn1 old hc
 ·rfl
 ·intro j hj;exact U0
 ·exact U0
 all_goals exact U0
def vj {C:cQ Prop} (S:aw P X GL fns) (E:gW P X GL fns C) (R:dr fns) (A:bh P X GL) (F:vZ fns) {q n i:Nat} {c:Option Nat} {L:List Tr} {s d:Tr} {h:AH} (hq:cG (h.objs.get q)=some (L.flatMap cT)) (hqn:q<h.next) (hl:L.length=n) (hs:L[i]? =some s) (fs:ew 3 s=true) (fd:ew 3 d=true) (k:AV ->AH ->Prop)
 (hk:∀h',h.next<=h'.next ->(∀j,j<h.next ->j≠q ->h'.objs.get j=h.objs.get j) ->cG (h'.objs.get q)=some ((L.set i (eF (fun x y=>x||y) s d)).flatMap cT) ->k (.b (!decide (eF (fun x y=>x||y) s d=s))) h'):
 bZ C 112 [.sl q 0 n c 2,.i .i64 (i:Int),eT d] h k:=by
 obtain⟨m,ver,ob⟩:=h;have hqm:q<m:=hqn;have hi:=(cW.1 hs).1;have hin:i<n:=by omega
 dsimp only at hq;have fu:ew 3 (eF (fun x y=>x||y) s d)=true:=cH fs fd;have cu:=fun h=>DV S R (A s fs) (A d fd) h
 have cm:=fun h=>Kr S R (A _ fu) (A s fs) h
 simp only[eT,eD] at cu cm;have e2:sub (L.flatMap cT) (i*2) 2=some (cT s):=aB kZ hs (j:=0) (n:=2) ω;have e3:=En kZ (L:=L) (i:=i) hi (eF (fun x y=>x||y) s d);simp only[cT] at e2;rw[show cT (eF (fun x y=>x||y) s d)=[fG (ax (eF (fun x y=>x||y) s d)).1,.i .i64 ((ax (eF (fun x y=>x||y) s d)).2:Int)] from rfl] at e3;rw[aA E.ok (E.get F.f112)];refine Y5 @Ur.eq_1 @eT.eq_1 @eD.eq_1 hq e2 ?_;refine E.con (cu _) ?_;refine Y2 hq e2 ?_;refine E.con (cm _) ?_;by_cases he:eF (fun x y=>x||y) s d=s
 ·have hdec:decide (eF (fun x y=>x||y) s d=s)=true:=decide_eq_true he;have hset:L.set i (eF (fun x y=>x||y) s d)=L:=by
   rw[he];apply y6;intro j;rw[pu];by_cases e:i=j
   ·subst e;rw[if_pos rfl,if_pos hi,hs]
   ·simp[e]
  rw[hset] at hk;rw[hdec] at hk ⊢;refine Y1 hq ?_;refine hk _ (by show m<=m+1+1;omega) (fun j hj hjq=> ?_) (W0 hq)
  ·have hj':j<m:=hj;exact U0
 ·have hdec:decide (eF (fun x y=>x||y) s d=s)=false:=decide_eq_false he;rw[hdec] at hk ⊢;refine Y2 hq e3 ?_;refine hk _ (by show m<=m+1+1;omega) (fun j hj hjq=> ?_) U0
  ·have hj':j<m:=hj;exact U0
end
def ie (g:Gr) (d:Tr) (s:Bool×Nat):Tr:=if s.1 then eF (fun x y=>x&&y) d (g.tc.getD s.2 cN) else d
def fZ (g:Gr) (p:Pr):Tr:=p.right.foldl (ie g) (eF (fun x y=>x&&y) g.fam p.cond)
def lO {g:Gr} (G:cM g):∀(r:List (Bool×Nat)) (d:Tr),ew 3 d=true ->ew 3 (r.foldl (ie g) d)=true
 |[],_,hd=>hd
 |s::r,d,hd=>by
  refine lO G r _ ?_;unfold ie;split
  ·refine cH hd ?_;rw[rd];cases h:g.tc[s.2]? with
   |none=>exact lK
   |some t=>exact(G.tc t (bJ h)).f
  ·exact hd
def ue {g:Gr} (G:cM g) {p:Pr} (hp:p∈g.prods):ew 3 (fZ g p)=true:=
 lO G _ _ (cH G.fam.f (G.p p hp).cond.f)
section
variable {P:Program} {X:dy} {GL:T (List AV)} {fns:T aR}
set_option maxHeartbeats 1000000 in
def Er {C:cQ Prop} (S:aw P X GL fns) (E:gW P X GL fns C) (R:dr fns) (A:bh P X GL) (F:vZ fns) {q n:Nat} {c:Option Nat} {L:List Tr} {d:Tr} {r:List (Bool×Nat)} {rv:AV} {strict:Bool} {h:AH}
 (hr:ab2 h rv r) (hrl:r.length<=1000) (hq:cG (h.objs.get q)=some (L.flatMap cT)) (hqn:q<h.next) (hl:L.length=n) (hL:∀t∈L,ew 3 t=true) (fd:ew 3 d=true) (hin:∀s∈r,s.1=false ->s.2<n) (k:AV ->AH ->Prop)
 (hk:∀h',h.next<=h'.next ->(∀j,j<h.next ->h'.objs.get j=h.objs.get j) ->k (eT (mY L strict d r)) h'):
 bZ C 190 [eT d,rv,.sl q 0 n c 2,.b strict] h k:=by
 obtain⟨m,ver,ob⟩:=h;have hqm:q<m:=hqn;dsimp only at hq;have sr:bU rv=true/\ cellsO rv=some [rv]/\∀h,sB h rv= .v (ι (r.length:Int)) h:=by
  rcases hr with ⟨nl,rfl⟩|⟨o,c',rfl,_,_⟩
  ·exact⟨iH,uS,fun h=>bV⟩
  ·exact⟨rfl,rfl,fun h=>rfl⟩
 have nv:aJ 64 rv=true:=by
  rcases hr with ⟨nl,rfl⟩|⟨o,c',rfl,_,_⟩
  ·exact aT de
  ·rfl
 have lr:=sr.2.2;have cc:=fun h=>jl S R false h
 have e0:eT (dQ false 3)= .ag [.sn,.i .i64 0]:=rfl;rw[e0] at cc;rw[aA E.ok (E.get F.f190)];refine Y3 @Uu.eq_1 @eT.eq_1 @eD.eq_1 ?_;refine aX E.ok r.length (fun i τ h=>m+2<=h.next/\ (∀j,j<m ->h.objs.get j=ob.get j)/\ cG (h.objs.get m)=some (cT (mY L strict d (r.take i)))/\ cG (h.objs.get (m+1))=some [.sn,.i .i64 0]/\ τ.get 1=some rv/\ τ.get 2=some (.sl q 0 n c 2)/\ τ.get 3=some (.b strict)/\ τ.get 4=some (.p m 0)/\ τ.get 8=some (.p (m+1) 0)/\ τ.get 9=some (ι (i:Int))) ?_ ?_ _ _ ⟨?_,?_,?_,?_,?_,?_,?_,?_,?_,?_⟩
 ·rintro i τ ⟨n1,ver1,ob1⟩ hi ⟨hn1,old,c0,c1,t1,t2,t3,t4,t8,t9⟩ ih;have hn1':m+2<=n1:=hn1;have hri:r[i]? =some r[i]:=ba hi;generalize hs:r[i]=s at hri;have hq1:cG (ob1.get q)=some (L.flatMap cT):=by rw[show ob1.get q=ob.get q from old q hqm];exact hq
  have fw:ew 3 (mY L strict d (r.take i))=true:=ud hL _ _ fd;have wt:=KH (L:=L) (strict:=strict) (d:=d) hri;generalize hw:mY L strict d (r.take i)=w at*;simp only[cT] at c0;have fin:∀(ob2:T aU) (n2 v2:Nat) (τ':T AV),m+2<=n2 ->(∀j,j<m ->ob2.get j=ob1.get j) ->cG (ob2.get m)=some (cT (mW L strict w s)) ->cG (ob2.get (m+1))=some [.sn,.i .i64 0] ->τ'.get 1=some rv ->τ'.get 2=some (.sl q 0 n c 2) ->τ'.get 3=some (.b strict) ->τ'.get 4=some (.p m 0) ->τ'.get 8=some (.p (m+1) 0) ->τ'.get 9=some (ι ((i+1:Nat):Int)) ->(m+2<=n2/\ (∀j,j<m ->ob2.get j=ob.get j)/\ cG (ob2.get m)=some (cT (mY L strict d (r.take (i+1))))/\ cG (ob2.get (m+1))=some [.sn,.i .i64 0]/\ τ'.get 1=some rv/\ τ'.get 2=some (.sl q 0 n c 2)/\ τ'.get 3=some (.b strict)/\ τ'.get 4=some (.p m 0)/\ τ'.get 8=some (.p (m+1) 0)/\ τ'.get 9=some (ι ((i+1:Nat):Int))):=
   fun ob2 n2 v2 τ' a1 a2 a3 a4 a5 a6 a7 a8 a9 a10=>⟨a1,fun j hj=>(a2 j hj).trans (old j hj),by rw[wt];exact a3,a4,a5,a6,a7,a8,a9,a10⟩
  cases h1:s.1 with
  |false=>
   have hlt:=hin s (bJ hri) h1;have hLi:L[s.2]? =some L[s.2]:=ba ω;generalize hx:L[s.2]=x at hLi;have fx:=hL x (bJ hLi);have e2:sub (L.flatMap cT) (s.2*2) 2=some (cT x):=aB kZ hLi (j:=0) (n:=2) ω;simp only[cT] at e2;have cm:=fun h=>nW S R (A w fw) (A x fx) h
   simp only[eT,eD] at cm;have st:mW L strict w s=eF (fun x y=>x&&y) w x:=by unfold mW;rw[h1,rd,hLi];rfl
   rcases hr with ⟨nl,rfl⟩|⟨o,c',rfl,hro,hon⟩
   ·have q1:sub (r.flatMap bS) (i*2) 1=some [.b false]:=by
     have:=aB bz hri (j:=0) (n:=1) ω;simpa[bS,h1] using this
    have q2:sub (r.flatMap bS) (i*2+1) 1=some [.i .i64 (s.2:Int)]:=aB bz hri (j:=1) (n:=1) ω;have nk2:∀k,aJ 64 (.dp (r.flatMap bS) k)=true:=fun k=>by rw[di,bu de]
    refine WC c0 c1 t1 t2 t3 t4 t8 t9 @aF q1 q2 hq1 e2 nv nk2 ?_;refine E.con (cm _) ?_;refine QT c0 c1 t1 t2 t3 t4 t8 t9 @aF q1 q2 hq1 e2 nv nk2 @ar ?_;refine ih _ _ (fin _ _ 0 _ hn1' ?_ ?_ ?_ ?_ ?_ ?_ ?_ ?_ ?_)
    ·intro j hj;exact U0
    ·exact U2 st @cT.eq_1
    ·exact U1 c1
    all_goals exact U5 t1 t2 t3 t4 t8
   ·have hro1:cG (ob1.get o)=some (r.flatMap bS):=by rw[show ob1.get o=ob.get o from old o hon];exact hro
    have q1:sub (r.flatMap bS) (i*2) 1=some [.b false]:=by
     have:=aB bz hri (j:=0) (n:=1) ω;simpa[bS,h1] using this
    have q2:sub (r.flatMap bS) (i*2+1) 1=some [.i .i64 (s.2:Int)]:=aB bz hri (j:=1) (n:=1) ω;refine TO c0 c1 t1 t2 t3 t4 t8 t9 q1 q2 hq1 hro1 e2 nv ?_;refine E.con (cm _) ?_;refine WC c0 c1 t1 t2 t3 t4 t8 t9 q1 q2 hq1 hro1 e2 nv @ar ?_;refine ih _ _ (fin _ _ 0 _ hn1' ?_ ?_ ?_ ?_ ?_ ?_ ?_ ?_ ?_)
    ·intro j hj;exact U0
    ·exact U2 st @cT.eq_1
    ·exact U1 c1
    all_goals exact U5 t1 t2 t3 t4 t8
  |true=>
   cases strict with
   |false=>
    have st:mW L false w s=w:=by unfold mW;rw[h1];rfl
    rcases hr with ⟨nl,rfl⟩|⟨o,c',rfl,hro,hon⟩
    ·have q1:sub (r.flatMap bS) (i*2) 1=some [.b true]:=by
      have:=aB bz hri (j:=0) (n:=1) ω;simpa[bS,h1] using this
     refine y5 c0 c1 t1 t2 t3 t4 t8 t9 @aF q1 @ar ?_;refine ih _ _ (fin _ _ 0 _ hn1' (fun j hj=>rfl) (by rw[st];exact c0) c1 ?_ ?_ ?_ ?_ ?_ ?_);all_goals exact U5 t1 t2 t3 t4 t8
    ·have hro1:cG (ob1.get o)=some (r.flatMap bS):=by rw[show ob1.get o=ob.get o from old o hon];exact hro
     have q1:sub (r.flatMap bS) (i*2) 1=some [.b true]:=by
      have:=aB bz hri (j:=0) (n:=1) ω;simpa[bS,h1] using this
     refine y5 c0 c1 t1 t2 t3 t4 t8 t9 hro1 q1 @ar ?_;refine ih _ _ (fin _ _ 0 _ hn1' (fun j hj=>rfl) (by rw[st];exact c0) c1 ?_ ?_ ?_ ?_ ?_ ?_);all_goals exact U5 t1 t2 t3 t4 t8
   |true=>
    have st:mW L true w s=cN:=by unfold mW;rw[h1];rfl
    rcases hr with ⟨nl,rfl⟩|⟨o,c',rfl,hro,hon⟩
    ·have q1:sub (r.flatMap bS) (i*2) 1=some [.b true]:=by
      have:=aB bz hri (j:=0) (n:=1) ω;simpa[bS,h1] using this
     refine CM c0 c1 t1 t2 t3 t4 t8 t9 @aF q1 ?_;refine E.con (cc _) ?_;refine Y9 c0 c1 t1 t2 t3 t4 t8 t9 @ar ?_;refine ih _ _ (fin _ _ 0 _ hn1' ?_ ?_ ?_ ?_ ?_ ?_ ?_ ?_ ?_)
     ·intro j hj;exact U0
     ·exact U2 st @Cv
     ·exact U1 c1
     all_goals exact U5 t1 t2 t3 t4 t8
    ·have hro1:cG (ob1.get o)=some (r.flatMap bS):=by rw[show ob1.get o=ob.get o from old o hon];exact hro
     have q1:sub (r.flatMap bS) (i*2) 1=some [.b true]:=by
      have:=aB bz hri (j:=0) (n:=1) ω;simpa[bS,h1] using this
     refine CM c0 c1 t1 t2 t3 t4 t8 t9 hro1 q1 ?_;refine E.con (cc _) ?_;refine Y9 c0 c1 t1 t2 t3 t4 t8 t9 @ar ?_;refine ih _ _ (fin _ _ 0 _ hn1' ?_ ?_ ?_ ?_ ?_ ?_ ?_ ?_ ?_)
     ·intro j hj;exact U0
     ·exact U2 st @Cv
     ·exact U1 c1
     all_goals exact U5 t1 t2 t3 t4 t8
 ·rintro τ ⟨n1,ver1,ob1⟩ ⟨hn1,old,c0,c1,t1,t2,t3,t4,t8,t9⟩;have hn1':m+2<=n1:=hn1;rw[m8] at c0;simp only[cT] at c0;refine Y9 c0 c1 t1 t2 t3 t4 t8 t9 lr ?_;refine hk _ (by show m<=n1;omega) fun j hj=> ?_
  have hj':j<m:=hj;exact W0 (old j hj')
 ·show m+2<=m+1+1;omega
 ·intro j hj;exact U0
 ·simp(disch:=omega) only[cF,T.get_put,if_false,if_true,dB,pz];rfl
 ·exact U0
 all_goals exact U0
def Es (S:aw P X GL fns) (R:dr fns) (A:bh P X GL) (F:vZ fns) {g:Gr} (G:cM g) {i:Nat} {p:Pr} (hp:g.prods[i]? =some p) (h:AH):dq P X GL 191 [b9 g,.i .i64 (i:Int)] h (eT (fZ g p)) h:=by
 refine aE S (n:=9) ?_ (by rw[af,i7 (n:=6)];simp only[af,ay,dc]) h;refine aZ.intro fun C E=> ?_
 have hi:=(cW.1 hp).1;have ok:=G.p p (bJ hp);have pl:=G.pl;have rl:=ok.len;have e2:sub (g.prods.flatMap cC) (i*13+2) 1=some [eR bS 2 p.rn p.right]:=aB eG hp (j:=2) (n:=1) ω;have e3:sub (g.prods.flatMap cC) (i*13+3) 2=some [fG (ax p.cond).1,.i .i64 ((ax p.cond).2:Int)]:=aB eG hp (j:=3) (n:=2) ω;have cm:=fun h=>nW S R (A _ G.fam.f) (A _ ok.cond.f) h
 simp only[eT,eD] at cm;have nk4:aJ 64 (eR cC 13 true g.prods)=true:=aT fD;have nk3:∀k,aJ 64 (.dp (g.prods.flatMap cC) k)=true:=fun k=>by rw[di,bu fD]
 rw[aA E.ok (E.get F.f191)];refine Y9 @Uv.eq_1 @b9.eq_1 @aL.eq_1 @h0.eq_1 @aF e2 e3 nk3 nk4 ?_;refine E.con (cm _) ?_;refine Y5 @aF e2 e3 nk3 nk4 ?_;refine aX E.ok p.right.length (fun i τ h=>3<=h.next/\ cG (h.objs.get 0)=some (aL g)/\ cG (h.objs.get 1)=some [.sn,.i .i64 0]/\ cG (h.objs.get 2)=some (cT ((p.right.take i).foldl (ie g) (eF (fun x y=>x&&y) g.fam p.cond)))/\ τ.get 2=some (.p 0 0)/\ τ.get 4=some (.p 1 0)/\ τ.get 5=some (.p 2 0)/\ τ.get 6=some (eR bS 2 p.rn p.right)/\ τ.get 7=some (ι (i:Int))) ?_ ?_ _ _ ⟨?_,?_,?_,?_,?_,?_,?_,?_,?_⟩
 ·rintro k τ ⟨n1,ver1,ob1⟩ hk ⟨hn,c0,c1,c2,t2,t4,t5,t6,t7⟩ ih;have hri:p.right[k]? =some p.right[k]:=ba hk;generalize hs:p.right[k]=s at hri;have ft:(p.right.take (k+1)).foldl (ie g) (eF (fun x y=>x&&y) g.fam p.cond)=ie g ((p.right.take k).foldl (ie g) (eF (fun x y=>x&&y) g.fam p.cond)) s:=by rw[eP hri,uz];rfl
  have fw:ew 3 ((p.right.take k).foldl (ie g) (eF (fun x y=>x&&y) g.fam p.cond))=true:=lO G _ _ (cH G.fam.f ok.cond.f);generalize hw:(p.right.take k).foldl (ie g) (eF (fun x y=>x&&y) g.fam p.cond)=w at*;have c0':=c0;simp only[aL] at c0;simp only[cT] at c2;have nk2:∀k,aJ 64 (.dp (p.right.flatMap bS) k)=true:=fun k=>by rw[di,bu de]
  have nk1:aJ 64 (eR bS 2 p.rn p.right)=true:=aT de;have nk5:aJ 64 (eR iI 7 true g.tc.zipIdx)=true:=aT iz;have nk6:∀k,aJ 64 (.dp (g.tc.zipIdx.flatMap iI) k)=true:=fun k=>by rw[di,bu iz]
  have tl:=G.tcl;have hz:g.tc.zipIdx.length=11:=by rw[lC,tl]
  have q2:sub (p.right.flatMap bS) (k*2+1) 1=some [.i .i64 (s.2:Int)]:=aB bz hri (j:=1) (n:=1) ω;rcases ok.sym _ (bJ hri) with ⟨s1,s2⟩|⟨s1,s2⟩
  ·have q1:sub (p.right.flatMap bS) (k*2) 1=some [.b true]:=by
    have:=aB bz hri (j:=0) (n:=1) ω;simpa[bS,s1] using this
   obtain⟨c,hc1,hz2⟩:=mD (g:=g) tl (i:=s.2) ω;have fc:=(G.tc c (bJ hc1)).f;have e7:sub (g.tc.zipIdx.flatMap iI) (s.2*7+5) 2=some [fG (ax c).1,.i .i64 ((ax c).2:Int)]:=aB ic hz2 (j:=5) (n:=2) ω;have cm2:=fun h=>nW S R (A _ fw) (A _ fc) h
   simp only[eT,eD] at cm2;have st:ie g w s=eF (fun x y=>x&&y) w c:=by unfold ie;rw[s1,rd,hc1];rfl
   refine Zw c0 c1 c2 t2 t4 t5 t6 t7 @aF hz q1 q2 e7 nk1 nk2 nk5 nk6 ?_;refine E.con (cm2 _) ?_;refine WD c0 c1 c2 t2 t4 t5 t6 t7 @aF hz q1 q2 e7 nk1 nk2 nk5 nk6 @ar ?_;refine ih _ _ ⟨hn,?_,?_,?_,?_,?_,?_,?_,?_⟩
   ·exact W0 c0'
   ·exact W0 c1
   ·exact U3 ft st @cT.eq_1
   all_goals exact U4 t2 t4 t5 t6
  ·have q1:sub (p.right.flatMap bS) (k*2) 1=some [.b false]:=by
    have:=aB bz hri (j:=0) (n:=1) ω;simpa[bS,s1] using this
   have st:ie g w s=w:=by unfold ie;rw[s1];rfl
   refine y5 c0 c1 c2 t2 t4 t5 t6 t7 @aF q1 @ar ?_;refine ih _ _ ⟨hn,c0',c1,?_,?_,?_,?_,?_,?_⟩
   ·rw[ft,st];exact c2
   all_goals exact U4 t2 t4 t5 t6
 ·rintro τ ⟨n1,ver1,ob1⟩ ⟨hn,c0,c1,c2,t2,t4,t5,t6,t7⟩;rw[m8] at c2;simp only[cT] at c2;refine Y7 c1 c2 t2 t4 t5 t6 t7 ?_;exact⟨9,iF _ _⟩
 ·show 3<=3;omega
 ·exact U1 @aL.eq_1
 ·exact U0
 ·simp only[T.get_put,Nat.reduceEqDiff,reduceIte,dB,pz,E8,cT]
 all_goals exact U0
end
def oe:Tr ->Nat
 | .c b=>if b then 1 else 0
 | .n a b=>oe a+oe b
def wN:∀{k:Nat} {t:Tr},ew k t=true ->oe t<=2^k
 |0,.c b,_=>by cases b<;>simp[oe]
 |0,.n _ _,h=>by simp[ew] at h
 |k+1,.c _,h=>by simp[ew] at h
 |k+1,.n a b,h=>by
  simp only[ew,av] at h;have h1:=wN h.1;have h2:=wN h.2;simp only[oe];rw[Nat.pow_succ];omega
def uf:∀{k:Nat} {s d:Tr},ew k s=true ->ew k d=true ->oe s<=oe (eF (fun x y=>x||y) s d)/\ (eF (fun x y=>x||y) s d≠s ->oe s<oe (eF (fun x y=>x||y) s d))
 |0,.c a,.c b,_,_=>by cases a<;>cases b<;>simp[eF,oe]
 |0,.n _ _,_,h,_=>by simp[ew] at h
 |0,.c _,.n _ _,_,h=>by simp[ew] at h
 |k+1,.c _,_,h,_=>by simp[ew] at h
 |k+1,.n _ _,.c _,_,h=>by simp[ew] at h
 |k+1,.n a b,.n c d,h1,h2=>by
  simp only[ew,av] at h1 h2;have q1:=uf (k:=k) h1.1 h2.1;have q2:=uf (k:=k) h1.2 h2.2;simp only[eF,oe];refine⟨by omega,fun hne=> ?_⟩;by_cases e1:eF (fun x y=>x||y) a c=a
  ·by_cases e2:eF (fun x y=>x||y) b d=b
   ·exact absurd (by rw[e1,e2]) hne
   ·have:=q2.2 e2;omega
  ·have:=q1.2 e1;omega
def ug:∀{k:Nat} {s:Tr},ew k s=true ->eF (fun x y=>x&&y) s (dQ false k)=dQ false k
 |0,.c b,_=>by simp[dQ,eF]
 |0,.n _ _,h=>by simp[ew] at h
 |k+1,.c _,h=>by simp[ew] at h
 |k+1,.n a b,h=>by
  simp only[ew,av] at h;simp only[dQ,eF,ug h.1,ug h.2]
def qG:∀{k:Nat} {s:Tr},ew k s=true ->eF (fun x y=>x&&y) (dQ false k) s=dQ false k
 |0,.c b,_=>by simp[dQ,eF]
 |0,.n _ _,h=>by simp[ew] at h
 |k+1,.c _,h=>by simp[ew] at h
 |k+1,.n a b,h=>by
  simp only[ew,av] at h;simp only[dQ,eF,qG h.1,qG h.2]
def qW (L:List Tr):Nat:=(L.map oe).sum
def I3:∀{L:List Tr} {i:Nat} {s:Tr} (x:Tr),L[i]? =some s ->qW (L.set i x)+oe s=qW L+oe x
 |[],i,s,x,h=>by simp at h
 |a::L,0,s,x,h=>by simp at h;subst h;simp[qW];omega
 |a::L,i+1,s,x,h=>by
  simp at h;have:=I3 x h;simp only[qW,List.set_cons_succ,iR,Bb] at this ⊢;omega
def G8:∀{L:List Tr},(∀t∈L,ew 3 t=true) ->qW L<=8*L.length
 |[],_=>by simp[qW]
 |a::L,h=>by
  have h1:=wN (h a (by simp));have h2:=G8 (L:=L) fun t ht=>h t (by simp[ht])
  simp only[qW,iR,Bb,fM] at h2 ⊢;omega
def yF {L:List Tr} (hL:∀t∈L,ew 3 t=true):∀(r:List (Bool×Nat)) (d:Tr),ew 3 d=true ->(d=cN∨∃s∈r,s.1=true∨L.getD s.2 cN=cN) ->mY L true d r=cN:=by
 have isg:∀i,ew 3 (L.getD i cN)=true:=by
  intro i;rw[rd];cases h:L[i]? with
  |none=>exact lK
  |some t=>exact hL t (bJ h)
 intro r;induction r with
 |nil=>
  intro d _ h;rcases h with h|⟨s,h,_⟩
  ·exact h
  ·simp at h
 |cons s r ih=>
  intro d hd h;show mY L true (mW L true d s) r=cN;refine ih _ (Eo hL hd) ?_;rcases h with rfl|⟨t,ht,h⟩
  ·left;unfold mW;cases s.1
   ·exact qG (isg _)
   ·rfl
  ·rcases bY.1 ht with rfl|ht
   ·left;unfold mW;cases h1:t.1
    ·rcases h with h|h
     ·rw[h1] at h;cases h
     ·simp only[lu,if_false];rw[h];exact ug hd
    ·rfl
   ·exact .inr ⟨t,ht,h⟩
structure yG (g:Gr) (Z:Nat ->Bool):Prop where
 z:∀p∈g.prods,Z p.left=true ->∃s∈p.right,s.1=true∨Z s.2=true
 st:∀p∈g.prods,(∀s∈p.right,s.1=false) ->∀(i b:Nat),p.right[i]? =some (false,b) ->p.left<b∨∃(j z:Nat),j≠i/\ p.right[j]? =some (false,z)/\ Z z=true
def vk (Z:Nat ->Bool) (L:List Tr):Prop:=∀(i:Nat) (t:Tr),Z i=true ->L[i]? =some t ->t=cN
def Av {Z:Nat ->Bool} {L:List Tr} (h:vk Z L) {i:Nat} (hz:Z i=true):L.getD i cN=cN:=by
 rw[rd];cases e:L[i]? with
 |none=>rfl
 |some t=>exact h i t hz e
def qH {C:cQ Prop} (hC:pN C) {c:ap} {S:List Fr} {K:K Prop} {ι:Type} (μ:ι ->Nat) (I:ι ->T AV ->AH ->Prop)
 (step:∀x τ h,I x τ h ->(∀y τ' h',μ y<μ x ->I y τ' h' ->dk C (.loop c) S K τ' h') ->dk C c (.s (.loop c)::S) K τ h):∀x τ h,I x τ h ->dk C (.loop c) S K τ h:=by
 have key:∀m x τ h,μ x<m ->I x τ h ->dk C (.loop c) S K τ h:=by
  intro m;induction m with
  |zero=>intro x τ h hm;omega
  |succ m ih=>
   intro x τ h hm hI;rw[eZ hC];exact step x τ h hI fun y τ' h' hy hI'=>ih y τ' h' ω hI'
 exact fun x τ h hI=>key _ x τ h (qZ _) hI
section
variable {P:Program} {X:dy} {GL:T (List AV)} {fns:T aR}
def I4 {L:List Tr} {i x}:(L.set i x).length=L.length:=Fa
set_option maxHeartbeats 2000000 in
def KJ {C:cQ Prop} (S:aw P X GL fns) (E:gW P X GL fns C) (R:dr fns) (A:bh P X GL) (F:vZ fns) {g:Gr} (G:cM g) {Z:Nat ->Bool} (Y:yG g Z) {h:AH} (k:AV ->AH ->Prop)
 (hk:∀q L h',q<h'.next ->h.next<=q ->(∀j,j<h.next ->h'.objs.get j=h.objs.get j) ->cG (h'.objs.get q)=some (L.flatMap cT) ->L.length=g.nts.length ->(∀t∈L,ew 3 t=true) ->vk Z L ->k (.sl q 0 g.nts.length (some g.nts.length) 2) h'):
 bZ C 188 [b9 g,.b true] h k:=by
 obtain⟨m,ver,ob⟩:=h;have ntl:=G.ntl;have pl:=G.pl;rw[aA E.ok (E.get F.f188)];refine Y3 @Us.eq_1 @b9.eq_1 @aL.eq_1 ?_;refine E.run (Ep S E R F (n:=g.nts.length) ω _ ?_);rintro⟨n1,v1,ob1⟩ hn1 old1 hc1;have hn1':n1=m+1+1:=hn1;subst hn1';dsimp only at hc1 old1;refine Y0 ?_;refine qH E.ok (fun x:List Tr×Bool=>2*(8*g.nts.length-qW x.1)+(if x.2 then 1 else 0)) (fun x τ h=>m+2<=h.next/\ (∀j,j<m ->h.objs.get j=ob.get j)/\ cG (h.objs.get m)=some (aL g)/\ cG (h.objs.get (m+1))=some (x.1.flatMap cT)/\ x.1.length=g.nts.length/\ (∀t∈x.1,ew 3 t=true)/\ vk Z x.1/\ τ.get 1=some (.b true)/\ τ.get 2=some (.p m 0)/\ τ.get 5=some (.sl (m+1) 0 g.nts.length (some g.nts.length) 2)/\ τ.get 6=some (.b x.2)) ?_ (List.replicate g.nts.length cN,true) _ _ ⟨?_,?_,?_,?_,?_,?_,?_,?_,?_,?_,?_⟩
 ·rintro⟨L,b⟩ τ ⟨n2,v2,ob2⟩ ⟨hn2,old2,c0,c1,hl,hL,hZ,t1,t2,t5,t6⟩ ih;have hn2':m+2<=n2:=hn2;dsimp only at hl hL hZ;cases b with
  |false=>
   refine Y4 t1 t2 t5 t6 ?_;refine hk (m+1) L _ (by show m+1<n2;omega) (by show m<=m+1;omega) old2 c1 hl hL hZ
  |true=>
   have c0':=c0;simp only[aL] at c0;refine Y4 t1 t2 t5 t6 ?_;refine aX E.ok g.prods.length (fun i τ h=>∃(L':List Tr) (b':Bool),(m+2<=h.next/\ (∀j,j<m ->h.objs.get j=ob.get j)/\ cG (h.objs.get m)=some (aL g)/\ cG (h.objs.get (m+1))=some (L'.flatMap cT)/\ L'.length=g.nts.length/\ (∀t∈L',ew 3 t=true)/\ vk Z L'/\ τ.get 1=some (.b true)/\ τ.get 2=some (.p m 0)/\ τ.get 5=some (.sl (m+1) 0 g.nts.length (some g.nts.length) 2)/\ τ.get 6=some (.b b'))/\ qW L<=qW L'/\ (b'=true ->qW L<qW L')/\ τ.get 7=some (ι (i:Int))) ?_ ?_ _ _ ⟨L,false,⟨hn2,old2,c0',c1,hl,hL,hZ,?_,?_,?_,?_⟩,bK _,(fun h=>by cases h),?_⟩
   ·rintro i τ ⟨n3,v3,ob3⟩ hi ⟨L',b',⟨hn3,old3,d0,d1,hl',hL',hZ',s1,s2,s5,s6⟩,sm1,sm2,s7⟩ ih2;have hn3':m+2<=n3:=hn3;have hpi:g.prods[i]? =some g.prods[i]:=ba hi;generalize hp:g.prods[i]=p at hpi;have hpm:=bJ hpi;have ok:=G.p p hpm;have okl:=ok.left;have e2:sub (g.prods.flatMap cC) (i*13+2) 1=some [eR bS 2 p.rn p.right]:=aB eG hpi (j:=2) (n:=1) ω;have e1:sub (g.prods.flatMap cC) (i*13+1) 1=some [.i .i64 (p.left:Int)]:=aB eG hpi (j:=1) (n:=1) ω;have cp:=fun h=>Es S R A F G hpi h
    have fp:=ue G hpm;have d0':=d0;simp only[aL] at d0;simp only[b9,aL,eT,eD] at cp;have nkg:aJ 64 (.ag (aL g))=true:=by rw[fH,gY]
    simp only[aL] at nkg;have nk1:aJ 64 (eR cC 13 true g.prods)=true:=aT fD;have nk2:∀k,aJ 64 (.dp (g.prods.flatMap cC) k)=true:=fun k=>by rw[di,bu fD]
    have nk3:aJ 64 (eR bS 2 p.rn p.right)=true:=aT de;refine IA d0 s1 s2 s5 s6 s7 @aF e2 e1 nkg nk1 nk2 nk3 ?_;refine E.con (cp _) ?_;refine IA d0 s1 s2 s5 s6 s7 @aF e2 e1 nkg nk1 nk2 nk3 ?_;dsimp only at d1;refine E.run (Er (strict:=true) (r:=p.right) (d:=fZ g p) (L:=L') S E R A F (.inl ⟨p.rn,rfl⟩) (by have:=ok.len;omega) (by exact d1) (by show m+1<n3+1;omega) hl' hL' fp ?_ _ ?_)
    ·intro s hs h1;rcases ok.sym s hs with ⟨h2,_⟩|⟨_,h2⟩
     ·rw[h1] at h2;cases h2
     ·exact h2
    rintro⟨n4,v4,ob4⟩ hn4 old4;have hn4':n3+1<=n4:=hn4;have old4':∀j,j<n3+1 ->ob4.get j=ob3.get j:=old4;have f4:cG (ob4.get m)=some (aL g):=by rw[old4' m ω];exact d0'
    have f5:cG (ob4.get (m+1))=some (L'.flatMap cT):=by rw[old4' (m+1) ω];exact d1
    have f4':=f4;simp only[aL] at f4;have fw:=ud (strict:=true) hL' p.right _ fp;generalize hw:mY L' true (fZ g p) p.right=w at*;simp only[eT,eD];refine IA f4 s1 s2 s5 s6 s7 @aF e2 e1 nkg nk1 nk2 nk3 ?_;have hLi:L'[p.left]? =some L'[p.left]:=ba ω;generalize hx:L'[p.left]=x at hLi;have fx:=hL' x (bJ hLi);refine E.run (vj (L:=L') (s:=x) (d:=w) (q:=m+1) S E R A F ?_ ?_ hl' hLi fx fw _ ?_)
    ·exact W0 f5
    ·show m+1<n4;omega
    rintro⟨n5,v5,ob5⟩ hn5 old5 hc5;have hn5':n4<=n5:=hn5;have old5':∀j,j<n4 ->j≠m+1 ->ob5.get j=_:=old5;have co:=uf (k:=3) fx fw;have ss:=I3 (eF (fun x y=>x||y) x w) hLi;have hzz:vk Z (L'.set p.left (eF (fun x y=>x||y) x w)):=by
     intro z t hz ht;rw[pu] at ht;by_cases e:p.left=z
     ·rw[if_pos e] at ht;split at ht
      ·cases ht;subst e;have hx0:=hZ' _ _ hz hLi;have hw0:w=cN:=by
        rw[←hw];obtain⟨s,hs1,hs2⟩:=Y.z p hpm hz;exact yF hL' _ _ fp (.inr ⟨s,hs1,hs2.imp id fun h=>Av hZ' h⟩)
       rw[hx0,hw0];rfl
      ·cases ht
     ·rw[if_neg e] at ht;exact hZ' z t hz ht
    have hff:∀t∈L'.set p.left (eF (fun x y=>x||y) x w),ew 3 t=true:=by
     intro t ht;rcases Fb ht with h|h
     ·exact hL' t h
     ·rw[h];exact cH fx fw
    have fin:∀(τ':T AV) (b2:Bool),b2=(b'|| !decide (eF (fun x y=>x||y) x w=x)) ->τ'.get 1=some (.b true) ->τ'.get 2=some (.p m 0) ->τ'.get 5=some (.sl (m+1) 0 g.nts.length (some g.nts.length) 2) ->τ'.get 6=some (.b b2) ->τ'.get 7=some (ι ((i+1:Nat):Int)) ->∃(L':List Tr) (b':Bool),(m+2<=n5/\ (∀j,j<m ->ob5.get j=ob.get j)/\ cG (ob5.get m)=some (aL g)/\ cG (ob5.get (m+1))=some (L'.flatMap cT)/\ L'.length=g.nts.length/\ (∀t∈L',ew 3 t=true)/\ vk Z L'/\ τ'.get 1=some (.b true)/\ τ'.get 2=some (.p m 0)/\ τ'.get 5=some (.sl (m+1) 0 g.nts.length (some g.nts.length) 2)/\ τ'.get 6=some (.b b'))/\ qW L<=qW L'/\ (b'=true ->qW L<qW L')/\ τ'.get 7=some (ι ((i+1:Nat):Int)):=by
     intro τ' b2 hb q1 q2 q5 q6 q7;refine⟨L'.set p.left (eF (fun x y=>x||y) x w),b2,⟨by omega,fun j hj=> ?_,?_,hc5,by rw[I4];exact hl',hff,hzz,q1,q2,q5,q6⟩,by omega,fun h=> ?_,q7⟩
     ·rw[old5' j ω ω];simp(disch:=omega) only[cF,T.get_put,if_false];rw[old4' j ω];exact old3 j hj
     ·rw[old5' m ω ω];exact W0 f4'
     ·rw[hb,g9] at h;rcases h with h|h
      ·have:=sm2 h;omega
      ·have:=co.2 (by simpa using h);omega
    cases b' with
    |true=>
     refine Y6 s1 s2 s5 s6 s7 @ar ?_;refine ih2 _ _ (fin _ true (by simp) ?_ ?_ ?_ ?_ ?_)<;>exact U4 s1 s2 s5 s6
    |false=>
     refine Y6 s1 s2 s5 s6 s7 @ar ?_;refine ih2 _ _ (fin _ _ rfl ?_ ?_ ?_ ?_ ?_)<;>exact U5 s1 s2 s5 s6 zx
   ·rintro τ ⟨n3,v3,ob3⟩ ⟨L',b',⟨hn3,old3,d0,d1,hl',hL',hZ',s1,s2,s5,s6⟩,sm1,sm2,s7⟩;have d0':=d0;simp only[aL] at d0;refine Y6 d0 s1 s2 s5 s6 s7 ?_;have hs1:=G8 hL';have hs0:=G8 hL;refine ih (L',b') _ _ ?_ ⟨hn3,old3,d0',d1,hl',hL',hZ',?_,?_,?_,?_⟩
    ·dsimp only;cases b' with
     |true=>have:=sm2 rfl;simp only[if_true];omega
     |false=>simp only[if_true,lu,if_false];omega
    all_goals exact U4 s1 s2 s5 s6
   all_goals exact U3 t1 t2 t5
 ·show m+2<=m+1+1;omega
 ·intro j hj;rw[old1 j ω];exact U0
 ·rw[old1 m ω];exact U1 @aL.eq_1
 ·exact hc1
 ·simp
 ·intro t ht;rw[Bc ht];exact lK
 ·intro z t _ ht;exact Bc (bJ ht)
 all_goals exact U0
end
end
end AM
