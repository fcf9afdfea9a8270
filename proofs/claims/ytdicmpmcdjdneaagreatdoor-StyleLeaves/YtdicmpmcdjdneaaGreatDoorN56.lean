import Derived.Test.YtdicmpmcdjdneaaGreatDoorN55
set_option linter.all false
set_option maxHeartbeats 8000000
namespace AM
open Dg Go
noncomputable section
def cc6 {o}:oF nC (.ag [.i .i64 0,.i .i64 0,.i .i64 0,.i .i64 0]) o= .ag [.i .i64 (EQ o).p,.i .i64 (EQ o).s,.i .i64 (EQ o).k,.i .i64 (EQ o).n]:=by cases o<;>rfl
def cc7 {o k} (h0:0<=k) (j:k<=5):∃f,look k (Jb o)=some (.f f [.p o 0] [])/\ (f=24∨f=25∨f=26∨f=27∨f=28):=by
 rcases(show k=0∨k=1∨k=2∨k=3∨k=4∨k=5 by omega) with rfl|rfl|rfl|rfl|rfl|rfl;exact⟨24,rfl,by omega⟩;exact⟨25,rfl,by omega⟩;exact⟨26,rfl,by omega⟩;exact⟨27,rfl,by omega⟩;exact⟨28,rfl,by omega⟩;exact⟨28,rfl,by omega⟩
section
variable {P:Program} {X:aR} {GL:T (List AV)} {ae:T au} {C:aK Prop} (E:Sem P X GL ae C) (F:bz8 ae) {x:BX} {h:AH} {D:List Dn} {a l:Nat} {L:List Ru} {N:List Tn} {Gp:List Bool} (B:Ia x L N Gp)
include E F B
theorem cc8 {Sp Ns Al Ke} (bk:kM L Sp Ns Al Ke) {k}:0<=(EQ (look k Sp)).k/\ (EQ (look k Sp)).k<=5/\ 0<=(EQ (look k Sp)).n/\ (EQ (look k Sp)).n<=3:=by
 rcases e:look k Sp with _|r;exact⟨by decide,by decide,by decide,by decide⟩;obtain⟨h1,h2⟩:=bk.f5 k r e;have A:=B.rv r h1;unfold oT at h2;unfold eP at A;simp only[aB,aU] at h2 A;show 0<=r.k/\ r.k<=5/\ 0<=r.n/\ r.n<=3;have G:=A.2;rw[aD ω] at G;simp only[aB] at G;have j:=G.1.1;by_cases e5:r.k=5;rw[aF e5] at j;simp only[aB,aU] at j;omega;rw[aD e5,aD ω] at j;simp only[aU] at j;omega
theorem cc9 (H:yx x h D a l) (hD:D.length+20<=1048576) (ha:a<=N.length) (hl:1<=l/\ l<=Gp.length) {p s} k (hk:∀T h',I8 T ->yx x h' (D++yz D.length T) a l ->k (ι (A9 D.length T)) h'):
 du C 111 [.p x.o 0,.ag [.i .i64 p,.i .i64 s]] h k:=by
 obtain⟨b,Sp,Ns,Al,Ke,bk,b2,c7,b1,c5,m1,m2,m3,m4⟩:=B.bk;obtain⟨go,b6,d0,b4,cg⟩:=B.gv;obtain⟨mo,b8,d1,b7,cm⟩:=B.mv;obtain⟨n0,v0,ob⟩:=h;obtain⟨lo,nx,⟨dv,-,ho,-⟩,old⟩:=id H;dsimp only at nx ho old;have fr:∀{obx:T bC},(∀j,j<n0 ->obx.get j=ob.get j) ->cG (obx.get (b+5))=some [.m (b+1),.m (b+2),.m (b+3),.m (b+4)]/\ mG (obx.get (b+1))=mX eJ nC Sp:=λ{obx} hx=>by
  refine⟨?_,?_⟩;rw[hx (b+5) ω,old (b+5) ω (b1 5 ω)];exact c5;rw[hx (b+1) ω,old (b+1) ω (b1 1 ω)];exact m1
 obtain⟨d5,b0⟩:=fr (obx:=ob) λ_ _=>rfl;have rk:=cc8 E F B bk (k:=(p,s));rw[b2,b6,b8] at ho;simp only[A8,bx,gw,gx] at ho;have Y:∀U O ob' (τ:T AV),mG (T.get ob' (b+1))=mX eJ nC Sp ->az C τ (.t 13)= .m (b+1) ->az C τ (.t 14)=eJ (p,s) ->
  step (az C τ) ⟨U,O,ob'⟩ (.look (.ag [(0,1,false,.lf .i),(1,1,false,.lf .i)]) (.t 13) (.t 14) (.ag [.i .i64 0,.i .i64 0,.i .i64 0,.i .i64 0]) false)= .v (oF nC (.ag [.i .i64 0,.i .i64 0,.i .i64 0,.i .i64 0]) (look (p,s) Sp)) ⟨U,O,ob'⟩:=
  λU O ob' τ q1 q2 q3=>sd (k:=(p,s)) (z:= .ag [.i .i64 0,.i .i64 0,.i .i64 0,.i .i64 0]) (en:=nC) EP (h:=⟨U,O,ob'⟩) (fT.2 q1) q2 q3
 simp only[cc6,eJ] at Y;have sg:aY .sub (ι (l:Int)) (ι 1)=some (ι ((l-1:Nat):Int)):=qV ⟨hl.1,by have:=B.nl;have:=B.gl;have h8:Fo.nlv N<=N.length:=List.length_filter_le _ _;omega⟩;obtain⟨gb,b5⟩:∃gb,Gp[l-1]? =some gb:=⟨_,ef ω⟩;have eg:sub (Gp.map AV.b) (l-1) 1=some [.b gb]:=qY (by rw[oh,b5];rfl);obtain⟨f,hf,b3⟩:=cc7 (o:=x.o) rk.1 rk.2.1;have J:∀U O ob' (τ:T AV),mG (T.get ob' mo)=mX kK id (Jb x.o) ->az C τ (.t 41)= .m mo ->az C τ (.t 43)=kK (EQ (look (p,s) Sp)).k ->
  step (az C τ) ⟨U,O,ob'⟩ (.look (.lf .i) (.t 41) (.t 43) .fnil false)= .v (oF id .fnil (look (EQ (look (p,s) Sp)).k (Jb x.o))) ⟨U,O,ob'⟩:=
  λU O ob' τ q1 q2 q3=>sd (k:=(EQ (look (p,s) Sp)).k) (z:= .fnil) (en:=id) Az (h:=⟨U,O,ob'⟩) (fT.2 q1) q2 q3
 have c6:oF id .fnil (look (EQ (look (p,s) Sp)).k (Jb x.o))= .f f [.p x.o 0] []:=by rw[hf];rfl
 rw[c6] at J;simp only[kK] at J;have dg:cG (ob.get go)=some (Gp.map .b):=by rw[old go ω b4];exact cg
 have dm:mG (ob.get mo)=mX kK id (Jb x.o):=by rw[old mo ω b7];exact cm
 have fin:∀(sp:List Nat) (h2:AH) (K:AV ->AH ->Prop),bG2 sp ->n0+2<=h2.next ->(∀j,j<n0 ->h2.oB.get j=ob.get j) ->(∀v h',k v h' ->K v h') ->
  du C f [.p x.o 0,.ag [.i .i64 (EQ (look (p,s) Sp)).p,.i .i64 (EQ (look (p,s) Sp)).s,.i .i64 (EQ (look (p,s) Sp)).k,.i .i64 (EQ (look (p,s) Sp)).n],.s sp] h2 K:=λsp h2 K hs hn A hK=>
  bY1 E F (H.up (by show n0<=_;omega) A) ω (r:=EQ (look (p,s) Sp)) hs (by rcases b3 with h|h|h|h|h<;>simp[h];exact rk.2.2) K λT h' hT hB=>hK _ _ (hk T h' hT hB)
 rw[E.cB (F.f 111)];by_cases k5:(EQ (look (p,s) Sp)).k=5;have W:((EQ (look (p,s) Sp)).k=5)=True:=fq k5;cases gb with
 |true=>
  refine qX ho d5 b0 Y W sg eg J dg dm ?_;refine E.run (fin [32] _ _ (.inr rfl) (bB _) (λj Z=> ?_) λv h' hv=> ?_);have w1:(j=n0)=False:=cE;exact U0;refine Y0 ?_;exact hv
 |false=>
  refine qX ho d5 b0 Y W sg eg J dg dm ?_;refine E.run (fin [] _ _ (.inl rfl) (bB _) (λj Z=> ?_) λv h' hv=> ?_);have w1:(j=n0)=False:=cE;exact U0;refine Y0 ?_;exact hv
 have W:((EQ (look (p,s) Sp)).k=5)=False:=dQ k5;refine Z5 ho d5 b0 Y W ?_;refine E.run (bY2 (D:=D) (a:=a) (l:=l) E F B (H.up (by show n0<=n0+1+1;omega) λj Z=> ?_) ha _ λrb h2 V G=> ?_);have m9:j<n0:=Z;exact U0;obtain⟨n2,v2,aJ⟩:=h2;have V:n0+2<=n2:=V;dsimp only at G;have A:∀j,j<n0 ->aJ.get j=ob.get j:=λj Z=>by
  refine(G j (by show j<n0+1+1;omega)).trans ?_;exact U0
 have e1:=(congrArg cG (A x.o ω)).trans ho;have e3:cG (aJ.get (n0+1))=some [.i .i64 (EQ (look (p,s) Sp)).p,.i .i64 (EQ (look (p,s) Sp)).s,.i .i64 (EQ (look (p,s) Sp)).k,.i .i64 (EQ (look (p,s) Sp)).n]:=by
  rw[G (n0+1) (by show n0+1<n0+1+1;omega)];exact U0
 have e4:cG (aJ.get go)=some (Gp.map .b):=by rw[A go ω];exact dg
 have e6:mG (aJ.get mo)=mX kK id (Jb x.o):=by rw[A mo ω];exact dm
 have e5:=e3;have H2:yx x ⟨n2,v2,aJ⟩ D a l:=H.up (by show n0<=n2;omega) A;cases rb with
 |true=>
  refine Z0 ?_;refine E.run (an5 E F (n:=1) H2 ω _ λh' H'=> ?_);refine Y0 ?_;exact hk _ h' (bT4 ω) H'
 |false=>
  cases gb with
  |true=>
   refine Z6 e1 e5 sg eg J e4 ?_;refine E.run (fin [32] _ _ (.inr rfl) V (λj Z=> ?_) λv h' hv=> ?_);exact A j Z;refine Y0 ?_;exact hv
  |false=>
   refine Z6 e1 e5 sg eg J e4 ?_;refine E.run (fin [] _ _ (.inl rfl) V (λj Z=> ?_) λv h' hv=> ?_);exact A j Z;refine Y0 ?_;exact hv
end
def A6 (s:List Nat):Prop:=s∈DV++[[32],[]]
structure HT (f:Fo) (T:Option Dt):Prop where
 n:T=none↔f.lv=0
 g:DH T=f.den
 w:jf T<=f.ww
 ft:DP A6 T
 z:uT T<=f.wt
def HT.nil:HT .nil none:=⟨⟨λ_=>rfl,λ_=>rfl⟩,rfl,bB _,trivial,bB _⟩
def QT {A B} (h:∀s,A s ->B s):∀(T:Dt),T.fit A ->T.fit B
 | .tx s,k=>h s k
 | .ln s,k=>⟨h s k.1,k.2⟩
 | .hd,_=>trivial
 | .sq a b,k=>⟨QT h a k.1,QT h b k.2⟩
 | .ne n a,k=>⟨k.1,QT h a k.2⟩
 | .al a,k| .gp a,k=>QT h a k
def cd0 {T} (h:I8 T):DP A6 T:=by
 rcases T with _|T;trivial;exact QT (λs hs=>by unfold A6;rcases hs with rfl|rfl<;>simp) T h.f
def HF (n:Nat):Option Dt ->Option Dt
 |none=>none
 |some T=>if n=0 then some T else some (.ne n T)
def Eo (R:List (List Nat)):Option Dt:=R.foldl (λT r=>jn (jn T (some (.tx r))) (some .hd)) none
def Pv (t:Tn):Option Dt:=jn (Eo t.rem) (some (.tx t.text))
def bG5 {a b}:jn a b=none↔a=none/\ b=none:=by cases a<;>cases b<;>simp[jn]
def RZ {s} (h:A6 s):s.length<=4:=by
 rcases fO.1 h with h|h;exact(bU0 h).1;simp at h;rcases h with rfl|rfl<;>decide
def cd1 {R:List (List Nat)} (G:∀s∈R,A6 s):∀{T m},DP A6 T ->uT T<=4*m ->jf T<=4*m ->DH (R.foldl (λT r=>jn (jn T (some (.tx r))) (some .hd)) T)=DH T++R.flatMap dn/\ DP A6 (R.foldl (λT r=>jn (jn T (some (.tx r))) (some .hd)) T)/\ uT (R.foldl (λT r=>jn (jn T (some (.tx r))) (some .hd)) T)<=4*(m+R.length)/\ jf (R.foldl (λT r=>jn (jn T (some (.tx r))) (some .hd)) T)<=4*(m+R.length):=by
 induction R with
 |nil=>exact λh2 j A=>⟨by simp,h2,j,A⟩
 |cons r R ih=>
  intro T m h2 j A;have H:=G r (by simp);have J:=RZ H;have O:=HH T (some (.tx r));have U:=HH (jn T (some (.tx r))) (some .hd);have e1:uT (some (Dt.tx r))=1:=rfl;have e2:uT (some Dt.hd)=1:=rfl;have e3:jf (jn (jn T (some (.tx r))) (some .hd))=jf T+r.length+0:=by rw[DO,DO];rfl
  have:=ih (λs hs=>G s (by simp[hs])) (T:=jn (jn T (some (.tx r))) (some .hd)) (m:=m+1) (JD (JD h2 H) trivial) ω ω;rw[zH,gJ];exact⟨this.1.trans (by rw[JC,JC];simp[DH,Dt.den]),this.2.1,by omega,by omega⟩
def cd2 {t} (j:A6 t.text) (O:∀s∈t.rem,A6 s):Pv t≠none/\ DH (Pv t)=t.rem.flatMap dn++dn t.text/\ DP A6 (Pv t)/\ uT (Pv t)<=4*t.rem.length+2/\ jf (Pv t)<=4*t.rem.length+4:=by
 obtain⟨h1,h2,A,H⟩:=cd1 O (T:=none) (m:=0) trivial (bB _) (bB _);have q:=HH (Eo t.rem) (some (.tx t.text));have e1:uT (some (Dt.tx t.text))=1:=rfl;have G:uT (Eo t.rem)<=4*(0+t.rem.length):=A;have J:jf (Eo t.rem)<=4*(0+t.rem.length):=H;have U:=RZ j;refine⟨λh=>(by cases (bG5.1 h).2),(JC _ _).trans (congrArg (·++_) h1),JD h2 j,by unfold Pv;omega,?_⟩;unfold Pv;rw[DO];show _+t.text.length<=_;omega
def cd3 {n T} (A:n<=16) (j:DP A6 T):(HF n T=none↔T=none)/\ DH (HF n T)=DH T/\ DP A6 (HF n T)/\ uT (HF n T)<=uT T+1/\ jf (HF n T)<=jf T+16:=by
 rcases T with _|T;exact⟨Iff.rfl,rfl,trivial,by show 0<=1;omega,oi _⟩;unfold HF;dsimp only;split;exact⟨Iff.rfl,rfl,j,nD _,xJ _ _⟩;exact⟨⟨λh=>(by cases h),λh=>(by cases h)⟩,rfl,⟨by omega,j⟩,bB _,by show n+T.wd<=T.wd+16;omega⟩
def HT.join {f r:Fo} {g o s b n} (j:HT r b) (hs:I8 s) (hb:b=none ->s=none) (A:n<=16) (V:o=none↔f.lv=0) (U:DH o=f.den) (of:DP A6 o) (oz:uT o+11<=f.wt) (Y:jf o+17<=f.ww) (e1:g.lv=f.lv+r.lv) (e2:g.den=f.den++r.den) (e3:g.wt=f.wt+r.wt) (e4:g.ww=f.ww+r.ww):HT g (jn o (HF n (jn s b))):=by
 obtain⟨G,H,J,W,O⟩:=cd3 A (T:=jn s b) (JD (cd0 hs) j.ft);have z1:=HH o (HF n (jn s b));have z2:=HH s b;have z3:=hs.z;have z4:=j.z;have Z:=hs.w;have w2:=j.w;refine⟨?_,?_,?_,JD of J,by omega⟩;rw[bG5,G,bG5,V,e1];constructor;rintro⟨h1,-,h2⟩;rw[h1,j.n.1 h2];intro h;have h2:=j.n.2 ω;exact⟨by omega,hb h2,h2⟩;rw[JC,H,JC,hs.g,U,j.g,e2];rfl;rw[DO] at O ⊢;omega
def Jv (al kp:Bool):Option Dt ->Option Dt
 |none=>none
 |some T=>let U:=if al then Dt.al T else T;some (if kp then .gp U else U)
def cd4 {al kp T} (A:DP A6 T):(Jv al kp T=none↔T=none)/\ DH (Jv al kp T)=DH T/\ DP A6 (Jv al kp T)/\ uT (Jv al kp T)<=uT T+2/\ jf (Jv al kp T)=jf T:=by
 rcases T with _|T;exact⟨Iff.rfl,rfl,trivial,by show 0<=2;omega,rfl⟩;have j:T.fit A6:=A;cases al<;>cases kp<;>refine⟨⟨λh=>(by cases h),λh=>(by cases h)⟩,?_,?_,?_,?_⟩<;>simp[Jv,DH,uT,jf,Dt.wd,Dt.den,Dt.sz,DP,Dt.fit,j]
def HU {i} T:(yz i T).length=uT T:=by
 rcases T with _|T;rfl;exact Dt.po_len T i
def take_add {α:Type} {l F R:List α} {a} (h:l.drop a=F++R):l.take (a+F.length)=l.take a++F:=by
 rw[List.take_add,h,List.take_left]
def h33 (GL:T (List AV)):(List.range 7).all (λk=>gM GL aG (λ_ _=>none) 1000 69 [.i .i64 (.ofNat k)] (ι (.ofNat (bif Nat.ble k 2 then 0 else bif Nat.beq k 3 then 2 else 1))))=true:=lR
def uB (n:Nat) (u:Nat ->Bool):List AV:=(List.range n).map λj=> .b (u j)
def bU8 {n u j} (h:j<n):AM.sub (uB n u) j 1=some [.b (u j)]:=qY (by unfold uB;rw[oh,List.getElem?_range h];rfl)
def bU9 {n u j} (h:j<n):eL [.b true] (uB n u) j=some (uB n (Ig u j)):=by
 rw[Rr (by unfold uB;rw[kU,List.length_range];exact h)];congr 1;refine xz λi=> ?_;unfold uB;rw[xF,kU,List.length_range,oh,oh];by_cases e:j=i;subst e;rw[aF rfl,aF h,List.getElem?_range h];show _=some (AV.b (if j=j then true else u j));rw[aF rfl];rw[aD e];by_cases hi:i<n;rw[List.getElem?_range hi];show _=some (AV.b (if i=j then true else u i));rw[aD λq=>e q.symm];rfl;rw[rI (by rw[List.length_range];omega)];rfl
section
variable {P:Program} {X:aR} {GL:T (List AV)} {ae:T au} (S:aT P X GL ae) (F:bz8 ae)
def bV0 (S:aT P X GL ae) (F:bz8 ae) {k:Nat} (j:k<=6) h:bP P X GL 69 [.i .i64 (k)] h (ι (DU k)) h:=by
 have:=fX.1 (h33 GL) k (mA.2 ω);refine dR S (hY F iE (n:=1000) ?_) (n:=9) (by simp only[aL,bZ,dH]) h;rcases(show k=0∨k=1∨k=2∨k=3∨k=4∨k=5∨k=6 by omega) with rfl|rfl|rfl|rfl|rfl|rfl|rfl<;>exact this
def ce1 (S:aT P X GL ae) (F:bz8 ae) (I:Ib P X GL) {d} (h1:d.s=[]∨d.k<=1) (h2:d.n=0∨d.k=4) (H:d.n<=1000) (hs:A6 d.s) h:bP P X GL 113 [.ag (yV d)] h (.b true) h:=by
 obtain⟨k,s,n,a,b⟩:=d;dsimp only at h1 h2 H hs;refine dR S (n:=9) ?_ (by simp only[aL,bZ];rfl) h;refine bg.intro λC E=> ?_;have cc:=λh=>bU1 S F I hs h;rw[E.cB (F.f 113)];have sE:∀{s:List Nat},s=[] ->aY .neq (.s s) (.s [])=some (.b false):=λh=>by rw[h];rfl
 have G:∀{s:List Nat},s≠[] ->aY .neq (.s s) (.s [])=some (.b true):=λh=>by rw[aP1,ot h];rfl
 by_cases O:k=0;have V:((k:Int)=0)=True:=cJ;have A:((n:Int)=0)=True:=cJ;by_cases j:s=[];have e:=sE j;refine Z2 @yV.eq_1 e ?_;refine E.cN (cc _) (Z0 ?_);exact⟨1,rfl⟩;have e:=G j;refine Z2 @yV.eq_1 e ?_;refine E.cN (cc _) (Z0 ?_);exact⟨1,rfl⟩;by_cases U:k=1;have W:((k:Int)=1)=True:=cJ;have A:((n:Int)=0)=True:=cJ;by_cases j:s=[];have e:=sE j;refine Z2 @yV.eq_1 e ?_;refine E.cN (cc _) (Z0 ?_);exact⟨1,rfl⟩;have e:=G j;refine Z2 @yV.eq_1 e ?_;refine E.cN (cc _) (Z0 ?_);exact⟨1,rfl⟩;have e:=sE (h1.resolve_right ω);rcases vF n with J|J;have A:((n:Int)=0)=True:=cJ;refine Z2 @yV.eq_1 e ?_;refine E.cN (cc _) (Z0 ?_);exact⟨1,rfl⟩;have A:((n:Int)=0)=False:=cE;refine Z2 @yV.eq_1 e ?_;refine E.cN (cc _) (Z0 ?_);exact⟨1,rfl⟩
variable {C:aK Prop} (E:Sem P X GL ae C)
include E F
theorem bG8 {h H A n i a u} (c1:cG (h.oB.get H)=some [.sl A 0 n (some n) 1]) (c2:cG (h.oB.get A)=some (uB n u)) (V:a<i) (G:a<n) (U:u a=false) k (O:∀h',h'.next=h.next ->cG (h'.oB.get A)=some (uB n (Ig u a)) ->(∀j,j≠A ->h'.oB.get j=h.oB.get j) ->k (.b true) h'):
 du C 112 [.b true,.i .i64 (a),.i .i64 (i),.p H 0] h k:=by
 obtain⟨n0,v0,ob⟩:=h;dsimp only at c1 c2;have e1:=bU8 (u:=u) G;rw[U] at e1;have e2:=bU9 (u:=u) G;refine E.bS (F.f 112) (Z5 c1 c2 e1 e2 G ?_);refine O _ rfl ?_ λj J=> ?_;exact U0;have w:(j=A)=False:=dQ J;exact U1 w
theorem bG9 {h} {j A n i x:Nat} (H:x=0) (c1:cG (h.oB.get j)=some [.sl A 0 n (some n) 1]) k (G:k (.b true) h):du C 112 [.b false,.i .i64 (x),.i .i64 (i),.p j 0] h k:=by
 obtain⟨n0,v0,ob⟩:=h;dsimp only at c1;refine E.bS (F.f 112) (Z0 ?_);exact G
end
def bV1 n:(List.replicate n [AV.b false]).flatten=uB n λ_=>false:=by
 unfold uB;rw[List.map_const',List.length_range];induction n with
 |zero=>rfl
 |succ n j=>rw[uc,vD,j,uc];rfl
def ce2 {D:List Dn} {i d u v} (hd:D[i]? =some d) (h:chk (D.drop i) i u v):∃j,RW d i u j/\ chk (D.drop (i+1)) (i+1) j v:=by
 have hi:=(eC.1 hd).1;have e:D.drop i=d::D.drop (i+1):=by rw[Lr hi];congr 1;exact(eC.1 hd).2
 rw[e] at h;exact h
variable {P:Program} {X:aR} {GL:T (List AV)} {ae:T au}
def ce3 (S:aT P X GL ae) (F:bz8 ae) (I:Ib P X GL) {W:Dt} (hT:W.fit A6) (hz:W.sz<=65536) {nl} h:bP P X GL 67 [eR yV 5 nl (W.po 0)] h (ι 0) h:=by
 have cd:∀{n:Nat} {h:AH} (d:Dn),bJ n h (yV d)=some (yV d):=λd=>by simp only[yV,aL,bZ,dH,oK]
 refine dR S (n:=9) ?_ (by simp only[aL,bZ,eu (n:=8) cd]) h;refine bg.intro λC E=> ?_;have lD:=W.po_len 0;have b7:=Qr W 0 (λ_=>false) hT λ_ _ _=>rfl;have c6:=QP (A:=A6) (by unfold A6;simp) W 0 hT;generalize W.po 0=D at*;have zp:=W.sz_pos;generalize hv:Eg (λ_=>false) 0 (0+W.sz-1)=v at b7;have vt:∀j,j<D.length-1 ->v j=true:=λj hj=>by
  rw[←hv];show(false||decide (0<=j/\ j<0+W.sz-1))=true;rw[zG ω];rfl
 have ds:aY .sub (ι (D.length:Int)) (ι 1)=some (ι ((D.length-1:Nat):Int)):=qV (a:=D.length) (b:=1) ω;refine E.bS (F.f 67) (Z1 @bV1 ?_);refine fj E.ok D.length (λi τ h=>∃u,chk (D.drop i) i u v/\ 2<=h.next/\ cG (h.oB.get 1)=some [.sl 0 0 D.length (some D.length) 1]/\ cG (h.oB.get 0)=some (uB D.length u)/\ τ.get 0=some (eR yV 5 nl D)/\ τ.get 3=some (.p 1 0)/\ τ.get 4=some (.f 112 [] [.p 1 0])/\ τ.get 16=some (eR yV 5 nl D)/\ τ.get 17=some (ι (D.length:Int))/\ τ.get 18=some (ι (i:Int))) ?_ ?_ _ _
  ⟨λ_=>false,by rw[List.drop_zero];exact b7,bB _,?_,?_,?_,?_,?_,?_,?_,?_⟩
 rintro i τ ⟨n1,v1,ob⟩ hi ⟨u,hc,hn,c1,c0,t0,t3,t4,V,H,J⟩ ih;dsimp only at hn c1 c0;have hd:D[i]? =some D[i]:=ef hi;generalize D[i]=d at hd;obtain⟨u1,⟨k6,s1,n4,b3,hu⟩,b8⟩:=ce2 hd hc;have e5:AM.sub (D.flatMap yV) (i*5) 5=some (yV d):=cW bS6 hd (j:=0) (n:=5) ω;have ac:=λh=>bV0 S F k6 h;have fc:=λh=>ce1 S F I s1 n4 b3 (c6 d (dI hd)) h;simp only[yV] at e5 fc;refine Z4 V H J e5 ?_;refine E.cN (ac _) (Z0 ?_);refine E.cN (fc _) ?_;have w1:(1=n1)=False:=cE;have w0:(0=n1)=False:=cE;have d1:i<D.length:=hi;have b1:cG (((ob.put n1 (.cells v1 [.i .i64 0,.s [],.i .i64 0,.i .i64 0,.i .i64 0])).put n1 (.cells (v1+1) [.i .i64 (d.k:Int),.s d.s,.i .i64 (d.n:Int),.i .i64 (d.a:Int),.i .i64 (d.b:Int)])).get 1)=some [.sl 0 0 D.length (some D.length) 1]:=wW w1 c1;have b0:cG (((ob.put n1 (.cells v1 [.i .i64 0,.s [],.i .i64 0,.i .i64 0,.i .i64 0])).put n1 (.cells (v1+1) [.i .i64 (d.k:Int),.s d.s,.i .i64 (d.n:Int),.i .i64 (d.a:Int),.i .i64 (d.b:Int)])).get 0)=some (uB D.length u):=wW w0 c0;have fin:∀(τ':T AV) (h':AH),2<=h'.next ->cG (h'.oB.get 1)=some [.sl 0 0 D.length (some D.length) 1] ->cG (h'.oB.get 0)=some (uB D.length u1) ->τ'.get 0=some (eR yV 5 nl D) ->τ'.get 3=some (.p 1 0) ->τ'.get 4=some (.f 112 [] [.p 1 0]) ->τ'.get 16=some (eR yV 5 nl D) ->τ'.get 17=some (ι (D.length:Int)) ->τ'.get 18=some (ι ((i+1:Nat):Int)) ->df C _ _ _ τ' h':=λτ' h' h1 h2 h3 h4 h5 h6 h7 h8 h9=>ih τ' h' ⟨u1,b8,h1,h2,h3,h4,h5,h6,h7,h8,h9⟩;rcases hu with ⟨k0,ha,hb,rfl⟩|⟨k1,ha,b2,hb,rfl⟩|⟨k2,ha,b2,hb,c7,rfl⟩;have p0:(0<(DU d.k:Int))=False:=cE;refine Z2 t4 p0 ?_;refine E.run (bG9 F E ha b1 _ ?_);refine Z1 t4 ?_;refine E.run (bG9 F E hb b1 _ ?_);refine Z1 J ?_;refine fin _ _ (Nat.le_succ_of_le hn) b1 b0 ?_ ?_ ?_ ?_ ?_ ?_;exact U1 t0;exact U1 t3;exact U1 t4;exact U1 V;exact U1 H;exact U0;have p0:(0<(DU d.k:Int))=True:=cJ;refine Z2 t4 p0 ?_;refine E.run (bG8 F E b1 b0 ha ω b2 _ λh2 n2 O G=> ?_);obtain⟨m2,v2,aJ⟩:=h2;dsimp only at O G;have d0:m2=n1+1:=n2;have U:cG (aJ.get 1)=some [.sl 0 0 D.length (some D.length) 1]:=by rw[G 1 ω];exact b1
 have bd:cG (aJ.get n1)=some [.i .i64 (d.k:Int),.s d.s,.i .i64 (d.n:Int),.i .i64 (d.a:Int),.i .i64 (d.b:Int)]:=by rw[G n1 ω];exact U0
 refine Z2 t4 bd ?_;refine E.run (bG9 F E hb U _ ?_);refine Z1 J ?_;refine fin _ _ (by show 2<=m2;omega) U O ?_ ?_ ?_ ?_ ?_ ?_;exact U1 t0;exact U1 t3;exact U1 t4;exact U1 V;exact U1 H;exact U0;have p0:(0<(DU d.k:Int))=True:=cJ;refine Z2 t4 p0 ?_;refine E.run (bG8 F E b1 b0 ha ω b2 _ λh2 n2 O G=> ?_);obtain⟨m2,v2,aJ⟩:=h2;dsimp only at O G;have d0:m2=n1+1:=n2;have U:cG (aJ.get 1)=some [.sl 0 0 D.length (some D.length) 1]:=by rw[G 1 ω];exact b1
 have bd:cG (aJ.get n1)=some [.i .i64 (d.k:Int),.s d.s,.i .i64 (d.n:Int),.i .i64 (d.a:Int),.i .i64 (d.b:Int)]:=by rw[G n1 ω];exact U0
 refine Z2 t4 bd ?_;refine E.run (bG8 F E U O hb ω c7 _ λh3 n3 Z b6=> ?_);obtain⟨m3,v3,cC⟩:=h3;dsimp only at Z b6;have d2:m3=m2:=n3;have b5:cG (cC.get 1)=some [.sl 0 0 D.length (some D.length) 1]:=by rw[b6 1 ω];exact U
 refine Z1 J ?_;refine fin _ _ (by show 2<=m3;omega) b5 Z ?_ ?_ ?_ ?_ ?_ ?_;exact U1 t0;exact U1 t3;exact U1 t4;exact U1 V;exact U1 H;exact U0;rintro τ ⟨n1,v1,ob⟩ ⟨u,hc,hn,c1,c0,t0,t3,t4,V,H,J⟩;dsimp only at hn c1 c0;rw[List.drop_length] at hc;obtain rfl:u=v:=hc;refine Z4 t0 H J ds ?_;refine fj E.ok (D.length-1) (λi τ h=>h=⟨n1,v1,ob⟩/\ τ.get 0=some (eR yV 5 nl D)/\ τ.get 3=some (.p 1 0)/\ τ.get 56=some (ι ((D.length-1:Nat):Int))/\ τ.get 57=some (ι (i:Int))) ?_ ?_ _ _ ⟨rfl,?_,?_,?_,?_⟩;rintro i τ _ hi ⟨rfl,t0,t3,Y,b4⟩ ih;have e1:=bU8 (u:=u) (show i<D.length by omega);rw[vt i hi] at e1;refine Z6 t3 Y b4 c1 c0 e1 ?_;refine ih _ _ ⟨rfl,?_,?_,?_,?_⟩;exact U1 t0;exact U1 t3;exact U1 Y;exact U0;rintro τ _ ⟨rfl,t0,t3,Y,b4⟩;refine Z3 t0 Y b4 ?_;exact⟨1,rfl⟩;exact U1 t0;(iterate 3 exact U1 t3);all_goals exact U0
def Jw (D:List Dn) (b:Nat) (W:List Dn):Prop:=∀j,j<W.length ->D[b+j]? =W[j]?
def Jw.l {D b A B} (h:Jw D b (A++B)):Jw D b A:=λj G=>by
 rw[h j (by rw[dy];omega),pL G]
def Jw.r {D b A B} (h:Jw D b (A++B)):Jw D (b+A.length) B:=λj G=>by
 rw[pK,h (A.length+j) (by rw[dy];omega),rK ω,Nat.add_sub_cancel_left]
def Jw.one {D b A d} (h:Jw D b (A++[d])):D[b+A.length]? =some d:=by
 have:=h.r 0 (by simp);simpa using this
def aq6:aw:=eg (sE 68 7)
abbrev bc9:au:=(λy=>eg (bE (pg 68) λo=>pt 7 y o)) aq6
def iv (n:Nat):List AV:=[.i .i64 (n:Int)]
def Dt.gl:Nat ->Dt ->List Nat
 |b,.sq u w=>gl b u++gl (b+u.sz) w
 |b,.ne _ u|b,.al u=>gl b u
 |b,.gp u=>(b+u.sz)::gl b u
 |_,_=>[]
def Dt.gl_len:∀(W:Dt) (b:Nat),(W.gl b).length<=W.sz
 | .tx _,b| .ln _,b| .hd,b=>oi _
 | .sq u w,b=>by have:=gl_len u b;have:=gl_len w (b+u.sz);simp only[gl,sz,dy];omega
 | .ne _ u,b| .al u,b=>Nat.le_succ_of_le (gl_len u b)
 | .gp u,b=>Nat.succ_le_succ (gl_len u b)
structure GX where
 m0:Nat
 db:Nat
 oo:Nat
 wo:Nat
 ob0:T bC
 pr:Nat ->Option (List AV)
structure Pw (x:GX) (D:List Dn) (nl:Bool):Prop where
 lt:x.db<x.m0/\ x.oo<x.m0/\ x.wo<x.m0/\ x.db≠x.oo/\ x.wo≠x.oo
 c1:cG (x.ob0.get x.db)=some [eR yV 5 nl D]
 c2:cG (x.ob0.get x.wo)=some [.f 68 [] [.p x.db 0,.p x.oo 0,.p x.wo 0]]
structure GS (x:GX) (h:AH) (n:List Nat):Prop where
 nx:x.m0<=h.next
 old:∀j,j<x.m0 ->j≠x.oo ->h.oB.get j=x.ob0.get j
 ob:∃ov,SL x.m0 h ov n.length 1 (n.flatMap iv)/\ cG (h.oB.get x.oo)=some [ov]/\∀j c,x.pr j=some c ->x.m0<=j/\ j<h.next/\ cG (h.oB.get j)=some c/\∀n c,ov≠.sl j 0 n c 1
def GX.prot (x:GX) (n:Nat) (cs:List AV):GX:={ x with pr:=λj=>if j=n then some cs else x.pr j }
section
variable {x:GX} {n n' v v':Nat} {m:List Nat} {ob ob':T bC}
def GS.prot (H:GS x ⟨n,v,ob⟩ m) {cs} (hx:x.oo<x.m0) (Z:n<n') (Y:cG (ob'.get n)=some cs) (old:∀j,j<n ->ob'.get j=ob.get j):GS (x.prot n cs) ⟨n',v',ob'⟩ m:=by
 obtain⟨nx,U,ov,hs,O,V⟩:=H;dsimp only at nx U O V;refine⟨by show x.m0<=n';omega,λj A J=>(old j (by have G:j<x.m0:=A;omega)).trans (U j A J),ov,hs.up (by show n<=n';omega) (λj _ A=>old j A),(congrArg cG (old x.oo ω)).trans O,λj c A=> ?_⟩;have G:(if j=n then some cs else x.pr j)=some c:=A;split at G;rename_i e;cases G;subst e;refine⟨nx,Z,Y,λm c e=> ?_⟩;rcases hs with ⟨-,h,-⟩|⟨q,h,h2,W,-⟩;rw[h] at e;cases e;rw[h] at e;cases e;exact Nat.lt_irrefl _ W;obtain⟨j1,j2,j3,j4⟩:=V j c G;exact⟨j1,by show j<n';omega,by rw[show(AH.mk n' v' ob').oB.get j=ob.get j from old j j2];exact j3,j4⟩
def GS.unp {cs h} (H:GS (x.prot n cs) h m) (J:∀cs,x.pr n≠some cs):GS x h m/\ cG (h.oB.get n)=some cs:=by
 obtain⟨nx,U,ov,hs,O,G⟩:=H;refine⟨⟨nx,U,ov,hs,O,λj c A=>G j c ?_⟩,(G n cs ?_).2.2.1⟩;show(if j=n then some cs else x.pr j)=some c;rw[aD λe=>J c (by rw[←e];exact A)];exact A;show(if n=n then some cs else x.pr n)=some cs;rw[aF rfl]
def GS.fresh (H:GS x ⟨n,v,ob⟩ m):∀cs,x.pr n≠some cs:=λcs e=>by
 obtain⟨-,-,ov,-,-,j⟩:=H;exact Nat.lt_irrefl _ (j n cs e).2.1
end
section
variable {P:Program} {X:aR} {GL:T (List AV)} {ae:T au} {C:aK Prop} (S:aT P X GL ae) (E:Sem P X GL ae C) (F:bz8 ae)
include S E F
theorem ce5 {x D nl} (G:Pw x D nl) {n0 n d} h k g1 g2 (k6:d.k<=6) (H:GS (x.prot n0 (yV d)) h n) (U:∀cs,x.pr n0≠some cs) {τ} (t3:τ.get 3=some (.p x.wo 0)) (t5:τ.get 5=some (.p n0 0))
 (r1:∀(y) h' K,Pw y D nl ->y.db=x.db ->y.oo=x.oo ->y.wo=x.wo ->1<=DU d.k ->GS y h' n ->(∀h2,GS y h2 (n++g1) ->K (.tu []) h2) ->du C 68 [.i .i64 (d.a:Int),.p x.db 0,.p x.oo 0,.p x.wo 0] h' K)
 (r2:∀(y) h' K,Pw y D nl ->y.db=x.db ->y.oo=x.oo ->y.wo=x.wo ->DU d.k=2 ->GS y h' (n++g1) ->(∀h2,GS y h2 (n++g1++g2) ->K (.tu []) h2) ->du C 68 [.i .i64 (d.b:Int),.p x.db 0,.p x.oo 0,.p x.wo 0] h' K)
 (J:∀h',GS x h' (n++(if DU d.k=0 then [] else g1)++(if DU d.k=2 then g2 else [])) ->k (.tu []) h'):df C aq6 [] (KF k []) τ h:=by
 have ac:=λh=>bV0 S F k6 h;obtain⟨⟨l1,l2,W,l4,Y⟩,q1,Z⟩:=id G;have Gp:Pw (x.prot n0 (yV d)) D nl:=⟨⟨l1,l2,W,l4,Y⟩,q1,Z⟩;have j:∀{n v:Nat} {ob:T bC} {m:List Nat},GS (x.prot n0 (yV d)) ⟨n,v,ob⟩ m ->cG (ob.get x.wo)=some [.f 68 [] [.p x.db 0,.p x.oo 0,.p x.wo 0]]/\ cG (ob.get n0)=some [.i .i64 (d.k:Int),.s d.s,.i .i64 (d.n:Int),.i .i64 (d.a:Int),.i .i64 (d.b:Int)]:=λH=>
  ⟨(congrArg cG (H.old x.wo W Y)).trans Z,(H.unp U).2⟩
 obtain⟨m,v,ob⟩:=h;obtain⟨c2,O⟩:=j H;unfold aq6;refine Z2 t5 O ?_;refine E.cN (ac _) ?_;rcases(show DU d.k=0∨DU d.k=1∨DU d.k=2 by unfold DU;split;exact .inl rfl;split;exact .inr (.inr rfl);exact .inr (.inl rfl)) with h0|h0|h0;rw[h0] at J ⊢;refine Z2 t5 O ?_;refine E.cN (ac _) ?_;rw[h0];refine Z0 ?_;exact J _ (by simpa using (H.unp U).1);rw[h0] at J ⊢;refine Z4 t3 t5 O c2 ?_;refine E.run (r1 _ _ _ Gp rfl rfl rfl ω H λh2 H2=> ?_);obtain⟨m2,v2,aJ⟩:=h2;obtain⟨-,A⟩:=j H2;refine Z2 t5 A ?_;refine E.cN (ac _) ?_;rw[h0];refine Z0 ?_;exact J _ (by simpa using (H2.unp U).1);rw[h0] at J ⊢;refine Z4 t3 t5 O c2 ?_;refine E.run (r1 _ _ _ Gp rfl rfl rfl ω H λh2 H2=> ?_);obtain⟨m2,v2,aJ⟩:=h2;obtain⟨V,A⟩:=j H2;refine Z2 t5 A ?_;refine E.cN (ac _) ?_;rw[h0];refine Z4 t3 t5 A V ?_;refine E.run (r2 _ _ _ Gp rfl rfl rfl h0 H2 λh3 H3=> ?_);refine Y0 ?_;exact J _ (by simpa using (H3.unp U).1)
theorem P4 {x D nl} (G:Pw x D nl) (i:Nat) (n:List Nat) d h k g1 g2 (hd:D[i]? =some d) (k6:d.k<=6) (hn:n.length+1<=1000000) (H:GS x h n)
 (r1:∀(y) h' K,Pw y D nl ->y.db=x.db ->y.oo=x.oo ->y.wo=x.wo ->1<=DU d.k ->GS y h' (n++if d.k=6 then [i] else []) ->(∀h2,GS y h2 ((n++if d.k=6 then [i] else [])++g1) ->K (.tu []) h2) ->du C 68 [.i .i64 (d.a:Int),.p x.db 0,.p x.oo 0,.p x.wo 0] h' K)
 (r2:∀(y) h' K,Pw y D nl ->y.db=x.db ->y.oo=x.oo ->y.wo=x.wo ->DU d.k=2 ->GS y h' ((n++if d.k=6 then [i] else [])++g1) ->(∀h2,GS y h2 ((n++if d.k=6 then [i] else [])++g1++g2) ->K (.tu []) h2) ->du C 68 [.i .i64 (d.b:Int),.p x.db 0,.p x.oo 0,.p x.wo 0] h' K)
 (V:∀h',GS x h' ((n++if d.k=6 then [i] else [])++(if DU d.k=0 then [] else g1)++(if DU d.k=2 then g2 else [])) ->k (.tu []) h'):du C 68 [.i .i64 (i),.p x.db 0,.p x.oo 0,.p x.wo 0] h k:=by
 have b0:=F.g 68 bc9;have hi:=(eC.1 hd).1;have e5:AM.sub (D.flatMap yV) (i*5) 5=some (yV d):=cW bS6 hd (j:=0) (n:=5) ω;obtain⟨⟨l1,l2,l3,l4,l5⟩,q1,q2⟩:=id G;obtain⟨n0,v0,ob⟩:=h;have pf:=H.fresh;have H1:GS (x.prot n0 (yV d)) ⟨n0+1,v0+1,(ob.put n0 (.cells v0 [.i .i64 0,.s [],.i .i64 0,.i .i64 0,.i .i64 0])).put n0 (.cells (v0+1) (yV d))⟩ n:=H.prot l2 (qI _) U0 λj A=>by
  have w:(j=n0)=False:=cE;exact U0
 have c1:cG (ob.get x.db)=some [eR yV 5 nl D]:=(congrArg cG (H.old x.db l1 l4)).trans q1;obtain⟨nx,old,ov,hs,ho,pk⟩:=H;dsimp only at nx ho old pk;have w2:=λ{h n} (H:GS (x.prot n0 (yV d)) h n) r1 r2 V {τ} t3 t5=>ce5 S E F G h k g1 g2 k6 H pf (τ:=τ) t3 t5 r1 r2 V;simp only[yV] at e5 H1;rw[yN E.ok (E.get b0)];by_cases Z:d.k=6;have kk:((d.k:Int)=6)=True:=cJ;rw[aF Z] at r1 r2 V;have on:(x.oo=n0)=False:=cE;have b3:(x.oo=n0+1)=False:=cE;obtain⟨b6,b7,b8,c6,-⟩:=hs.nice;obtain⟨h2,pe,pn,b4,J⟩:=SL.push (o2:=n0+1) (new:=[.i .i64 (i:Int)]) (hs.up (h':=⟨n0+1+1,v0+1,((ob.put n0 (.cells v0 [.i .i64 0,.s [],.i .i64 0,.i .i64 0,.i .i64 0])).put n0 (.cells (v0+1) [.i .i64 (d.k:Int),.s d.s,.i .i64 (d.n:Int),.i .i64 (d.a:Int),.i .i64 (d.b:Int)])).put (n0+1) (.cells (v0+1) [.i .i64 (i:Int)])⟩) (by show n0<=n0+1+1;omega) λj _ A=>(by
  have O:j<n0:=A;have w2:(j=n0+1)=False:=cE;exact U0)) (by show x.m0<=n0+1+1;omega) (by exact U0) rfl rfl ω
 obtain⟨W,v2,U⟩:=h2;have b5:W=n0+1+1+1:=pn;dsimp only at J;have c3:cG (U.get x.oo)=some [ov]:=by
  rw[J x.oo ω (hs.ne l2)];exact wW (ec on b3) ho
 have key:∀j,j<n0 ->(∀n c,ov≠.sl j 0 n c 1) ->U.get j=ob.get j:=λj A hv=>by
  have w2:(j=n0+1)=False:=cE;refine(J j ω hv).trans ?_;exact U0
 have b2:∀n c,ov≠.sl n0 0 n c 1:=λn c e=>by
  rcases hs with ⟨-,h,-⟩|⟨q,h,h2,h3,-⟩;rw[h] at e;cases e;rw[h] at e;cases e;exact Nat.lt_irrefl _ h3
 have cn:cG (U.get n0)=some (yV d):=by
  rw[J n0 ω b2];have w2:(n0=n0+1)=False:=cE;simp only[yV];exact U0
 have b1:SL x.m0 ⟨W,v2+1,U.put x.oo (.cells (v2+1) [.sl (n0+1+1) 0 (n.length+1) none 1])⟩ (.sl (n0+1+1) 0 (n.length+1) none 1) (n++[i]).length 1 ((n++[i]).flatMap iv):=by
  rw[dy,Bd];exact b4.up (bB _) λj A _=>by
   have O:x.m0<=j:=A;have w:(j=x.oo)=False:=cE;exact U0
 have HS:GS (x.prot n0 (yV d)) ⟨W,v2+1,U.put x.oo (.cells (v2+1) [.sl (n0+1+1) 0 (n.length+1) none 1])⟩ (n++[i]):=by
  refine⟨by show x.m0<=W;omega,λj A Y=> ?_,_,b1,?_,λj c A=> ?_⟩;have w:(j=x.oo)=False:=dQ Y;have O:j<x.m0:=A;exact wW w ((key j ω (hs.ne O)).trans (old j A Y));show cG ((U.put x.oo _).get x.oo)=_;exact U0;have O:(if j=n0 then some (yV d) else x.pr j)=some c:=A;split at O;rename_i e;cases O;subst e;have w:(j=x.oo)=False:=cE;refine⟨nx,by show j<W;omega,?_,λn c e=>by injection e with e1;have e2:j+1+1=j:=e1;omega⟩;exact wW w cn;obtain⟨j1,j2,j3,j4⟩:=pk j c O;have w:(j=x.oo)=False:=cE;refine⟨j1,by show j<W;omega,?_,λn c e=>by injection e with e1;have e2:n0+1+1=j:=e1;omega⟩;exact wW w ((congrArg cG (key j j2 j4)).trans j3)
 refine Z7 c1 e5 kk ho @tM pe c3 ?_;refine w2 HS r1 r2 V ?_ ?_<;>exact U0;have kk:((d.k:Int)=6)=False:=cE;rw[aD Z,lG] at r1 r2 V;refine Z3 c1 e5 kk ?_;refine w2 H1 r1 r2 V ?_ ?_<;>exact U0
theorem bj8 {D nl}:∀(W:Dt) (x) (b n) (h) (k),Pw x D nl ->Jw D b (W.po b) ->n.length+W.sz+1<=1000000 ->GS x h n ->(∀h',GS x h' (n++W.gl b) ->k (.tu []) h') ->du C 68 [.i .i64 ((b+W.sz-1:Nat):Int),.p x.db 0,.p x.oo 0,.p x.wo 0] h k:=by
 intro W;induction W with
 |tx s=>exact λx b n h k G sg hn H hk=>P4 S E F G b n (⟨0,s,0,0,0⟩) h k [] [] (by have:=sg 0 (by simp[Dt.po]);simpa[Dt.po] using this) (by show(0:Nat)<=6;omega) ω H (λ_ _ _ _ _ _ _ q=>by cases q) (λ_ _ _ _ _ _ _ q=>by cases q) (by simpa[DU,Dt.gl] using hk)
 |ln s=>exact λx b n h k G sg hn H hk=>P4 S E F G b n (⟨1,s,0,0,0⟩) h k [] [] (by have:=sg 0 (by simp[Dt.po]);simpa[Dt.po] using this) (by show(1:Nat)<=6;omega) ω H (λ_ _ _ _ _ _ _ q=>by cases q) (λ_ _ _ _ _ _ _ q=>by cases q) (by simpa[DU,Dt.gl] using hk)
 |hd=>exact λx b n h k G sg hn H hk=>P4 S E F G b n (⟨2,[],0,0,0⟩) h k [] [] (by have:=sg 0 (by simp[Dt.po]);simpa[Dt.po] using this) (by show(2:Nat)<=6;omega) ω H (λ_ _ _ _ _ _ _ q=>by cases q) (λ_ _ _ _ _ _ _ q=>by cases q) (by simpa[DU,Dt.gl] using hk)
 |sq u w j J=>
  intro x b n h k G sg hn H hk;have h1:=sg.one;rw[dy,Dt.po_len,Dt.po_len,←pK] at h1;have h2:=sg.l.l;have A:=sg.l.r;rw[Dt.po_len] at A;simp only[Dt.sz] at hn;rw[show b+(u.sq w).sz-1=b+u.sz+w.sz by simp only[Dt.sz];omega];refine P4 S E F G _ n ⟨3,[],0,b+u.sz-1,b+u.sz+w.sz-1⟩ h k (u.gl b) (w.gl (b+u.sz)) h1 (by show(3:Nat)<=6;omega) ω H (λy h' K Gy e1 e2 e3 _ Hy hK=> ?_) (λy h' K Gy e1 e2 e3 _ Hy hK=> ?_) λh' H'=>hk h' (by simpa[DU,Dt.gl] using H');have:=j y b n h' K Gy h2 ω (by simpa using Hy) (by simpa using hK);rw[e1,e2,e3] at this;exact this;have:=J y (b+u.sz) (n++u.gl b) h' K Gy A (by have:=u.gl_len b;rw[dy];omega) (by simpa using Hy) (by simpa using hK);rw[e1,e2,e3] at this;exact this
 |ne m u j=>
  intro x b n h k G sg hn H hk;have h1:=sg.one;rw[Dt.po_len] at h1;simp only[Dt.sz] at hn;refine P4 S E F G _ n ⟨4,[],m,b+u.sz-1,0⟩ h k (u.gl b) [] h1 (by show(4:Nat)<=6;omega) ω H (λy h' K Gy e1 e2 e3 _ Hy hK=> ?_) (λ_ _ _ _ _ _ _ q=>by cases q) (by simpa[DU,Dt.gl] using hk);have:=j y b n h' K Gy sg.l ω (by simpa using Hy) (by simpa using hK);rw[e1,e2,e3] at this;exact this
 |al u j=>
  intro x b n h k G sg hn H hk;have h1:=sg.one;rw[Dt.po_len] at h1;simp only[Dt.sz] at hn;refine P4 S E F G _ n ⟨5,[],0,b+u.sz-1,0⟩ h k (u.gl b) [] h1 (by show(5:Nat)<=6;omega) ω H (λy h' K Gy e1 e2 e3 _ Hy hK=> ?_) (λ_ _ _ _ _ _ _ q=>by cases q) (by simpa[DU,Dt.gl] using hk);have:=j y b n h' K Gy sg.l ω (by simpa using Hy) (by simpa using hK);rw[e1,e2,e3] at this;exact this
 |gp u j=>
  intro x b n h k G sg hn H hk;have h1:=sg.one;rw[Dt.po_len] at h1;simp only[Dt.sz] at hn;refine P4 S E F G _ n ⟨6,[],0,b+u.sz-1,0⟩ h k (u.gl b) [] h1 (by show(6:Nat)<=6;omega) ω H (λy h' K Gy e1 e2 e3 _ Hy hK=> ?_) (λ_ _ _ _ _ _ _ q=>by cases q) (by simpa[DU,Dt.gl,Dt.sz,hZ] using hk);have:=j y b (n++[b+u.sz]) h' K Gy sg.l (by rw[dy,lF];omega) (by simpa[Dt.sz] using Hy) (by simpa[Dt.sz] using hK);rw[e1,e2,e3] at this;exact this
theorem bj9 (I:Ib P X GL) {W:Dt} (Y:W.fit A6) (hz:W.sz<=65536) {nl h} k (A:∀ov h',SL h.next h' ov (W.gl 0).length 1 ((W.gl 0).flatMap iv) ->h.next<=h'.next ->(∀j,j<h.next ->h'.oB.get j=h.oB.get j) ->k (.tu [ov,.i .i64 0]) h'):
 du C 33 [eR yV 5 nl (W.po 0)] h k:=by
 obtain⟨n0,v0,ob⟩:=h;have cc:=λh=>ce3 (nl:=nl) S F I Y hz h;have lD:=W.po_len 0;have zp:=W.sz_pos;have Z:∀h,kg h (eR yV 5 nl (W.po 0))= .v (ι (W.sz:Int)) h:=λh=>by rw[dw,lD]
 have ds:aY .sub (ι (W.sz:Int)) (ι 1)=some (ι ((0+W.sz-1:Nat):Int)):=by rw[gB];exact qV (a:=W.sz) (b:=1) ω
 have V:cellsO (eR yV 5 nl (W.po 0))=some [eR yV 5 nl (W.po 0)]:=Ry;have wk:=λx h k G H A=>bj8 S E F (D:=W.po 0) (nl:=nl) W x 0 [] h k G (λj J=>by rw[gB]) (by show 0+_+1<=_;omega) H A;refine E.bS (F.f 33) (Z1 V ?_);refine E.cN (cc _) (Z2 Z ds ?_);simp only[gB] at wk;refine E.run (wk ⟨n0+3,n0,n0+1,n0+2,_,λ_=>none⟩ _ _ ⟨⟨by show n0<n0+3;omega,by show n0+1<n0+3;omega,by show n0+2<n0+3;omega,by show n0≠n0+1;omega,by show n0+2≠n0+1;omega⟩,?_,?_⟩ ⟨bB _,λ_ _ _=>rfl,.sn,.inl ⟨rfl,rfl,rfl⟩,?_,λ_ _ q=>by cases q⟩ λh' H'=> ?_);(iterate 3 exact U0);obtain⟨nx,old,ov,hs,O,-⟩:=H';obtain⟨U,v2,aJ⟩:=h';have bQ:n0+3<=U:=nx;dsimp only at old O;rw[gx] at hs;refine Z1 O ?_;refine A ov _ (hs.imp id λ⟨q,a,b,c⟩=>⟨q,a,by have b:n0+3<=q:=b;show n0<=q;omega,c⟩) (by show n0<=U;omega) λj J=> ?_;have m9:j<n0:=J;refine(old j ω ω).trans ?_;exact U0
end
end
end AM
namespace AM
open Go
noncomputable section
def rL:Option bC ->Option (List AV)
 |some (.cells _ l)=>some l
 |some (.tc _ _ l)=>some l
 |_=>none
def bd0 {v l}:rL (some (.cells v l))=some l:=rfl
def bd1 {T w l}:rL (some (.tc T w l))=some l:=rfl
def bd2 {x l} (h:cG x=some l):rL x=some l:=by
 rcases x with _|x;cases h;cases x<;>first|exact h|cases h
def Je (h:AH) (o j n:Nat) (x:AV):Option bC ->da
 |some (.tc T wh l)=>(match eL (cellsOf x) l j with
  |some l'=>(if (wV (cellsOf x)&&Nat.beq (len (cellsOf x)) n)=true then .v .un ⟨h.next,h.ver+1,h.oB.put o (.tc T wh l')⟩ else .bad)
  |none=> .bad)
 |some (.cells _ l)=>(match eL (cellsOf x) l j with
  |some l'=>(if (wV (cellsOf x)&&Nat.beq (len (cellsOf x)) n)=true then .v .un ⟨h.next,h.ver+1,h.oB.put o (.cells 0 l')⟩ else .bad)
  |none=> .bad)
 |_=> .bad
def bd3 {h o j n x T wh l}:Je h o j n x (some (.tc T wh l))=(match eL (cellsOf x) l j with
 |some l'=>(if (wV (cellsOf x)&&Nat.beq (len (cellsOf x)) n)=true then .v .un ⟨h.next,h.ver+1,h.oB.put o (.tc T wh l')⟩ else .bad)
 |none=> .bad):=rfl
def bh1 {h o j n x v l}:Je h o j n x (some (.cells v l))=(match eL (cellsOf x) l j with
 |some l'=>(if (wV (cellsOf x)&&Nat.beq (len (cellsOf x)) n)=true then .v .un ⟨h.next,h.ver+1,h.oB.put o (.cells 0 l')⟩ else .bad)
 |none=> .bad):=rfl
def A5 (h:AH) (o j:Nat) (t:Option (List (Nat×Nat×Nat))):Option bC ->da
 |some (.tc T w l)=>(match t with
  |none=>if j<l.length then .v (.p o j) h else .bad
  |some t=>if (w&&zL T (len l) j t)=true then .v (.p o j) h else .bad)
 |_=> .bad
def bh8 {h o j T w l}:A5 h o j none (some (.tc T w l))=if j<l.length then .v (.p o j) h else .bad:=rfl
def bh9 {h o j t T w l}:A5 h o j (some t) (some (.tc T w l))=if (w&&zL T (len l) j t)=true then .v (.p o j) h else .bad:=rfl
section
variable {ev:MA ->AV} {h:AH}
def bi0 {T a}:step ev h (.tbx T a)=(match cellsO (ev a) with|some l=> .v (.p h.next 0) ⟨h.next+1,h.ver,h.oB.put h.next (.tc T true l)⟩|none=> .bad):=by
 show(match cellsO (ev a) with|some l=>h.new (.tc T true l) λo h=>da.v (.p o 0) h|none=>da.bad)=_;simp only[AH.new_eq]
def bi1 {a n agg}:step ev h (.tld a n agg)=(match ev a with
 | .p o off=>(match rL (h.oB.get o) with
  |some l=>(match sub l off n with|some c=>dr h (dB agg c)|none=> .bad)
  |none=> .bad)
 | .dp l off=>(match sub l off n with|some c=>dr h (dB agg c)|none=> .bad)
 |_=> .bad):=by
 show ar0 a n agg ev h=_;unfold ar0;cases ev a<;>rfl
def bi2 {a x n}:step ev h (.tst a x n)=(match ev a with
 | .p o j=>Je h o j n (ev x) (h.oB.get o)
 |_=> .bad):=by
 show aq9 a x n ev h=_;unfold aq9;cases ev a with
 |p o j=>
  show(match h.oB.get o with|some (.tc T wh l)=>_|some (.cells _ l)=>_|_=>_)=Je h o j n (ev x) (h.oB.get o);rcases h.oB.get o with _|y;rfl;cases y<;>simp only[Je,AH.put_eq,jK,fv]<;>rfl
 |_=>rfl
def bi3 {x}:step ev h (.cvp x)=(match ev x with| .p o j=>A5 h o j none (h.oB.get o)|_=> .bad):=by
 show ar2 x ev h=_;unfold ar2;cases ev x with
 |p o j=>
  show(match h.oB.get o with|some (.tc _ _ l)=>_|_=>_)=A5 h o j none (h.oB.get o);rcases h.oB.get o with _|y;rfl;cases y<;>simp only[A5,fv,wX,kZ,aU,FJ]
 |_=>rfl
def bi4 {t x}:step ev h (.cvu t x)=(match ev x with| .p o j=>A5 h o j (some t) (h.oB.get o)|_=> .bad):=by
 show ar3 t x ev h=_;unfold ar3;cases ev x with
 |p o j=>
  show(match h.oB.get o with|some (.tc T true l)=>_|_=>_)=A5 h o j (some t) (h.oB.get o);rcases h.oB.get o with _|y;rfl;cases y with
  |tc T w l=>cases w<;>simp[A5,fv]
  |_=>rfl
 |_=>rfl
def DT {r j a}:step ev h (.calli r j a)=(match ev r,eE ev a with
 | .ifc t x,some l=>(match xN t j with|some f=> .call f (x::l) h|none=> .bad)
 |_,_=> .bad):=rfl
end
def qr (s:List Nat):List AV:=s.map λb:Nat=> .i .u8 (b:Int)
def aL3 (s:List Nat):(qr s).length=s.length:=kU ..
def R0:∀s:List Nat,wV (qr s)=true
 |[]=>rfl
 |_::s=>R0 s
structure yP (h:AH) (v:AV) (s:List Nat) (q:Nat):Prop where
 l:q<h.next
 v:v= .sn/\ s=[]∨(v= .sl q 0 s.length none 1/\ s≠[])/\ h.oB.get q=some (.tc 5 false (qr s))
def PZ (h:AH) (s:AV) (new:List Nat):da:=AF h (some 5) s new.length (qr new) 1
def Jf (h:AH) (s x:AV):da:=match ij x,eI h 1 x with|some n,some l=>AF h (some 5) s n l 1|_,_=> .bad
variable {h:AH}
def bi5 {ev:MA ->AV} {s x u}:step ev h (.tap 5 s x 1 u)=Jf h (ev s) (ev x):=rfl
def bi6 {h s t}:Jf h s (.s t)=PZ h s t:=by
 unfold Jf;rw[show eI h 1 (.s t)=eM (λb=>some (AV.i .u8 (.ofNat b))) t from rfl,Gj,show ij (.s t)=some (len t) from rfl,kZ];rfl
def bi9 {n v:Nat} {ob:T bC} {s:AV} {o b:Nat} {c} (j:cG (ob.get o)=some [.i .u8 (b:Int)]):Jf ⟨n,v,ob⟩ s (.sl o 0 1 c 1)=PZ ⟨n,v,ob⟩ s [b]:=by
 unfold Jf;have e:eI ⟨n,v,ob⟩ 1 (.sl o 0 1 c 1)=some [.i .u8 (b:Int)]:=by
  show(match AH.cells ⟨n,v,ob⟩ o with|some l=>sub l 0 (1*1)|none=>none)=_;rw[wG,j];rfl
 rw[e];rfl
def bj1 {h j s q} (H:yP h j s q):PZ h j []= .v j h:=by
 rcases H.v with ⟨rfl,-⟩|⟨⟨rfl,-⟩,-⟩<;>rfl
def yP.add {h G s q} (H:yP h G s q) {t:List Nat} (V:s.length+t.length<=1048576):∃v' h' U,PZ h G t= .v v' h'/\ yP h' v' (s++t) U/\ h.next<=h'.next/\ (∀j,j<h.next ->j≠q ->h'.oB.get j=h.oB.get j)/\ (U=q∨h.next<=U):=by
 rcases t with _|⟨a,t⟩;exact⟨G,h,q,bj1 H,by rwa [lG],bB _,λ_ _ _=>rfl,.inl rfl⟩;obtain⟨n,v,ob⟩:=h;have Y:Nat.ble (a::t).length 1048576=true:=by rw[wX];simp at V ⊢;omega
 have hq:=H.l;rcases H.v with ⟨rfl,rfl⟩|⟨⟨rfl,-⟩,Z⟩;refine⟨.sl n 0 (a::t).length none 1,⟨n+1,v,ob.put n (.tc 5 false (qr (a::t)))⟩,n,?_,⟨qI _,.inr ⟨⟨rfl,by simp⟩,?_⟩⟩,nD _,λj J _=> ?_,.inr (bB _)⟩;show(bif Nat.ble (a::t).length 1048576&&wV (qr (a::t)) then AH.new ⟨n,v,ob⟩ (.tc 5 false (qr (a::t))) λo h=>fN (a::t).length λn=>da.v (.sl o 0 n none 1) h else .bad)=_;rw[Y,R0,AH.new_eq,dT];rfl;show T.get (T.put ob n _) n=_;rw[T.get_put,aF rfl];rfl;show T.get (T.put ob n _) j=_;rw[T.get_put,aD (by have h:j<n:=J;omega)];have b0:q<n:=hq;have W:ob.get q=some (.tc 5 false (qr s)):=Z;refine⟨.sl n 0 (s.length+(a::t).length) none 1,⟨n+1,v+1,(ob.put q .gone).put n (.tc 5 false (qr (s++a::t)))⟩,n,?_,⟨qI _,.inr ⟨⟨by rw[dy],by simp⟩,?_⟩⟩,nD _,λj J O=> ?_,.inr (bB _)⟩;show(match Be ⟨n,v,ob⟩ (some 5) q 0 with
  |none=>da.bad
  |some l=>fN (s.length+(a::t).length) λA=>bif !(Nat.beq 1 1&&(Nat.ble A 1048576&&wV (qr (a::t)))) then .bad else
   match sub l 0 (s.length*1) with
   |some old=>(match fy old (qr (a::t)) with
    |some l=>AH.put ⟨n,v,ob⟩ q .gone λh=>h.new (.tc 5 false l) λo h=> .v (.sl o 0 A none 1) h
    |none=> .bad)
   |none=> .bad)=_
 have e:Be ⟨n,v,ob⟩ (some 5) q 0=some (qr s):=by
  show(match ob.get q with|some (.tc T' _ l)=>bif Nat.beq T' 5&&Nat.beq 0 0 then some l else none|_=>none)=_;rw[W];rfl
 have hb:Nat.ble (s.length+(a::t).length) 1048576=true:=by rw[wX];simpa using V
 rw[e];dsimp only;rw[dT,hb,R0,mM (by rw[aL3,vH])];dsimp only;rw[jz];simp only[AH.put_eq,AH.new_eq,qr,kE];rfl;show T.get (T.put _ n _) n=_;rw[T.get_put,aF rfl];show T.get (T.put (T.put ob q _) n _) j=_;rw[T.get_put,aD (by have h:j<n:=J;omega),T.get_put,aD O]
def bj3 {ev:MA ->AV} {x}:step ev h (.usd x)=(match ev x with
 | .sn=> .v .pn h
 | .sl o off (n+1) c e=> .v (.p o off) h
 |_=> .bad):=rfl
def R1 (h:AH) (p n:AV):da:=match n with
 | .i .i64 (.ofNat 0)=>(match p with| .pn=> .v (.s []) h|_=> .bad)
 | .i .i64 (.ofNat (n+1))=>(match p with
  | .p o 0=>match h.get o with
   |some (.tc T' _ l)=>bif Nat.beq T' 5&&Nat.ble n 1048576 then (match AM.sub l 0 (Nat.succ n) with
    |some c=>match mE c with
     |some b=>h.put o .gone λh=> .v (.s b) h
     |none=> .bad
    |none=> .bad) else .bad
   |_=> .bad
  |_=> .bad)
 |_=> .bad
def bj4 {ev:MA ->AV} {p n}:step ev h (.ust 5 p n)=R1 h (ev p) (ev n):=by
 show ar5 5 p n ev h=_;unfold ar5 R1;cases ev n<;>rfl
def aL4:∀{s:List Nat},(∀b∈s,b<256) ->mE (qr s)=some s
 |[],_=>rfl
 |b::s,h=>by
  have A:=aL4 λc j=>h c (jw _ j);have hb:Nat.ble b 255=true:=by rw[wX];have:=h b jG;simp;omega
  unfold mE qr at*;rw[jY,lJ,show xM (.i .u8 (b:Int))=(bif Nat.ble b 255 then some b else none) from rfl,hb,A];rfl
def yP.str {h A s q} (H:yP h A s q) (hs:∀b∈s,b<256) (O:s.length<=1048576):∃p v' ob',(match A with
 | .sn=>da.v .pn h
 | .sl o off (n+1) c e=> .v (.p o off) h
 |_=> .bad)= .v p h/\ kg h A= .v (ι (s.length:Int)) h/\ R1 h p (ι (s.length:Int))= .v (.s s) ⟨h.next,v',ob'⟩/\∀j,j≠q ->ob'.get j=h.oB.get j:=by
 rcases H.v with ⟨rfl,rfl⟩|⟨⟨rfl,U⟩,V⟩;exact⟨_,h.ver,h.oB,rfl,rfl,rfl,λ_ _=>rfl⟩;obtain⟨b,s,rfl⟩:∃b r,s=b::r:=by
  rcases s with _|⟨b,r⟩;exact bh rfl U;exact⟨b,r,rfl⟩
 obtain⟨n,v,ob⟩:=h;have G:ob.get q=some (.tc 5 false (qr (b::s))):=V;refine⟨.p q 0,v+1,ob.put q .gone,rfl,rfl,?_,λj J=>by rw[T.get_put,aD J]⟩;show(match ob.get q with
  |some (.tc T' _ l)=>bif Nat.beq T' 5&&Nat.ble s.length 1048576 then (match AM.sub l 0 (Nat.succ s.length) with
   |some c=>match mE c with
    |some b=>AH.put ⟨n,v,ob⟩ q .gone λh=>da.v (.s b) h
    |none=> .bad
   |none=> .bad) else .bad
  |_=> .bad)=_
 have hb:Nat.ble s.length 1048576=true:=by rw[wX];simp at O ⊢;omega
 rw[G];dsimp only;rw[hb,mM (n:=Nat.succ s.length) (by rw[aL3];rfl)];dsimp only;rw[aL4 hs];simp only[AH.put_eq];rfl
def DX (P:Program) (X:aR) (GL:T (List AV)):Prop:=∀(o:Nat) (h:AH),bP P X GL 498 [.p o 0] h (.p o 0) h
def Jg (P:Program) (X:aR) (GL:T (List AV)):Prop:=∀(n:Nat) (h:AH),n<=2000 ->bP P X GL 224 [.s [32],.i .i64 (n:Int)] h (.s (List.replicate n 32)) h
structure Ws where
 o:List Nat
 c:Nat
 p:Nat
structure lY (w:Nat) (h:AH) (S:Ws) (q:Nat) (bd:Bool):Prop where
 l:w<h.next
 e:∃av bv,h.oB.get w=some (.tc 110 true [av,bv,.i .i64 (S.c:Int),.i .i64 (S.p:Int),.b bd])/\ (av= .pn∨av= .p w 0)/\ yP h bv S.o q
 k:q≠w
structure WF (w q:Nat) (h h':AH) (q':Nat):Prop where
 n:h.next<=h'.next
 o:∀j,j<h.next ->j≠w ->j≠q ->h'.oB.get j=h.oB.get j
 q:q'=q∨h.next<=q'
def WF.refl {w q h}:WF w q h h q:=⟨bB _,λ_ _ _ _=>rfl,.inl rfl⟩
def WF.trans {w q h h1 h2 G H} (A:WF w q h h1 G) (B:WF w G h1 h2 H):WF w q h h2 H:=by
 obtain⟨a1,a2,a3⟩:=A;obtain⟨O,b2,b3⟩:=B;exact⟨by omega,λj h1 h2 J=>(b2 j ω h2 ω).trans (a2 j h1 h2 J),by omega⟩
attribute [go_sem] bd0 bd1 bd3 bh1 bh8 bh9 ad7 bi0 bi1 bi2 bi3 bi4 bi5 bi6
section
variable {P:Program} {X:aR} {GL:T (List AV)} {ae:T au} {C:aK Prop} (E:Sem P X GL ae C) (F:bz8 ae) (N:DX P X GL)
include E F N
theorem aL5 {w n v:Nat} {ob:T bC} {G H c p b:AV} (A:ob.get w=some (.tc 110 true [G,H,c,p,b])) (O:G= .pn∨G= .p w 0) (k:AV ->AH ->Prop)
 (J:∀v' ob',ob'.get w=some (.tc 110 true [.p w 0,H,c,p,b]) ->(∀j,j≠w ->ob'.get j=ob.get j) ->k (.tu []) ⟨n,v',ob'⟩):du C 428 [.p w 0] ⟨n,v,ob⟩ k:=by
 have e1:eH 6 (.lf .p) .pn .pn=some true:=rfl;have e2:eH 6 (.lf .p) (.p w 0) .pn=some false:=rfl;have e3:eH 6 (.lf .p) (.p w 0) (.p w 0)=some true:=by
  show(bif Nat.beq w w then some (Nat.beq 0 0) else none)=_;rw[bu];simp
 rw[E.cB (F.g 428 RQ)];rcases O with rfl|rfl;refine Y3 @RQ.eq_1 A e1 ?_;refine E.cN (N _ _) ?_;have e4:zL 110 5 0 [(110,5,0)]=true:=rfl;refine Y2 A e4 ?_;refine J _ _ ?_ λj U=> ?_;exact U0;exact U1 U;refine Y4 @RQ.eq_1 A e2 e3 ?_;exact J _ _ A λ_ _=>rfl
theorem R3 {w c p q:Nat} {H:Bool} {o t:List Nat} {h:AH} (W:lY w h ⟨o,c,p⟩ q H) (hl:o.length+t.length<=1048576) (k:AV ->AH ->Prop)
 (hk:∀r h' G,lY w h' ⟨o++t,c,p⟩ G H ->WF w q h h' G ->k r h'):du C 333 [.p w 0,.s t] h k:=by
 obtain⟨wl,⟨av,O,Z,ha,B⟩,wk⟩:=W;obtain⟨n,v,ob⟩:=h;dsimp only at Z;refine E.bS (F.g 333 aI0) (Y1 @aI0.eq_1 ?_);refine E.run (aL5 E F N Z ha _ λv1 aQ h1 U=> ?_);have B1:yP ⟨n,v1,aQ⟩ O o q:=⟨B.l,B.v.imp id λ⟨a,c⟩=>⟨a,(U q wk).trans c⟩⟩;obtain⟨v',⟨n2,v2,aJ⟩,G,ht,B2,Y,V,A⟩:=B1.add hl;have b0:n<=n2:=Y;have b1:w<n:=wl;have h2:aJ.get w=some (.tc 110 true [.p w 0,O,.i .i64 (c:Int),.i .i64 (p:Int),.b H]):=(V w wl wk.symm).trans h1;have s1:cellsOf v'=[v']/\ ew v'=true:=by rcases B2.v with ⟨rfl,-⟩|⟨⟨rfl,-⟩,-⟩<;>exact⟨rfl,rfl⟩
 refine Y5 h1 h2 ht s1.1 s1.2 ?_;have J:G≠w:=by rcases A with rfl|A;exact wk;have A:n<=G:=A;omega
 refine hk _ _ G ⟨by show w<n2;omega,⟨_,_,?_,.inr rfl,⟨B2.l,B2.v.imp id λ⟨a,c⟩=>⟨a,by exact W0 c⟩⟩⟩,J⟩ ⟨Y,λj hj hw A=>by have h:=(V j hj A).trans (U j hw);exact W0 h,A⟩;exact U0
theorem bj5 {w c p q b:Nat} {H:Bool} {o:List Nat} {h:AH} (W:lY w h ⟨o,c,p⟩ q H) (hl:o.length+1<=1048576) (k:AV ->AH ->Prop)
 (hk:∀r h' A,lY w h' ⟨o++[b],c,p⟩ A H ->WF w q h h' A ->k r h'):du C 659 [.p w 0,.i .u8 (b:Int)] h k:=by
 obtain⟨wl,⟨av,J,ho,ha,B⟩,wk⟩:=W;obtain⟨n,v,ob⟩:=h;have b1:w<n:=wl;dsimp only at ho;refine E.bS (F.g 659 aI7) (Y1 @aI7.eq_1 ?_);refine E.run (aL5 E F N ho ha _ λv1 V h1 Y=> ?_);have B1:yP ⟨n+1,v1,V.put n (.cells v1 [.i .u8 (b:Int)])⟩ J o q:=⟨ui B.l,B.v.imp id λ⟨a,c⟩=>⟨a,by
  have c:=(Y q wk).trans c;have b:q<n:=B.l;exact W0 c⟩⟩
 obtain⟨v',⟨U,v2,aJ⟩,A,ht,B2,hn,Z,G⟩:=B1.add (t:=[b]) hl;have b0:n+1<=U:=hn;have tb:=(bi9 (n:=n+1) (v:=v1) (ob:=V.put n (.cells v1 [.i .u8 (b:Int)])) (s:=J) (o:=n) (b:=b) (c:=some 1) (by exact U0)).trans ht;have h2:aJ.get w=some (.tc 110 true [.p w 0,J,.i .i64 (c:Int),.i .i64 (p:Int),.b H]):=(Z w (by show w<n+1;omega) wk.symm).trans (by exact W0 h1);have s1:cellsOf v'=[v']/\ ew v'=true:=by rcases B2.v with ⟨rfl,-⟩|⟨⟨rfl,-⟩,-⟩<;>exact⟨rfl,rfl⟩
 refine Y5 h1 h2 tb s1.1 s1.2 ?_;have O:A≠w:=by rcases G with rfl|G;exact wk;have G:n+1<=A:=G;omega
 refine hk _ _ A ⟨by show w<U;omega,⟨_,_,?_,.inr rfl,⟨B2.l,B2.v.imp id λ⟨a,c⟩=>⟨a,by exact W0 c⟩⟩⟩,O⟩ ⟨by show n<=U;omega,λj hj hw G=>by
  have hj:j<n:=hj;have h:=(Z j (by show j<n+1;omega) G).trans (by exact W0 (Y j hw));exact W0 h,G.imp id λh=>by have h:n+1<=A:=h;show n<=A;omega⟩
 exact U0
theorem aL6 {w c p q i:Nat} {G:Bool} {o:List Nat} {h:AH} (W:lY w h ⟨o,c,p⟩ q G) (Z:o.length+1<=1048576) (k:AV ->AH ->Prop)
 (Y:∀r h' A,lY w h' ⟨o++[10],0,i⟩ A G ->WF w q h h' A ->k r h'):du C 658 [.p w 0,.i .i64 (i:Int)] h k:=by
 refine E.bS (F.g 658 aI6) (Y1 @aI6.eq_1 ?_);refine E.run (bj5 E F N W (b:=10) Z _ λr h' A W' f=> ?_);obtain⟨n,v,ob⟩:=h';obtain⟨wl,⟨J,O,H,V,B⟩,wk⟩:=W';dsimp only at H;refine Y1 H ?_;refine Y _ _ A ⟨wl,⟨J,O,?_,V,⟨B.l,B.v.imp id λ⟨a,c⟩=>⟨a,by exact W0 c⟩⟩⟩,wk⟩ ⟨f.n,λj h1 h2 U=>by have:=f.o j h1 h2 U;exact W0 this,f.q⟩;exact U0
end
def ad (t:List Nat) (S:Ws):Ws:=if t=[] then S else if S.c=0 then ⟨S.o++List.replicate S.p 32++t,S.p+t.length,S.p⟩ else ⟨S.o++t,S.c+t.length,S.p⟩
def WF.put {w q A n v v':Nat} {ob:T bC} {x:bC} (f:WF w q h ⟨n,v,ob⟩ A):WF w q h ⟨n,v',ob.put w x⟩ A:=
 ⟨f.n,λj h1 h2 G=>by have:=f.o j h1 h2 G;exact W0 this,f.q⟩
section
variable {P:Program} {X:aR} {GL:T (List AV)} {ae:T au} {C:aK Prop} (E:Sem P X GL ae C) (F:bz8 ae) (N:DX P X GL) (R:Jg P X GL)
include E F N R
theorem aL7 {w q:Nat} {H:Bool} {t:List Nat} {S:Ws} {h:AH} (W:lY w h S q H) (hl:S.o.length+S.p+t.length<=1048576) (hp:S.p<=2000) (hc:S.c<=1048576) (k:AV ->AH ->Prop)
 (hk:∀r h' q',lY w h' (ad t S) q' H ->WF w q h h' q' ->k r h'):du C 656 [.p w 0,.s t] h k:=by
 obtain⟨o,c,p⟩:=S;dsimp only at hl hp hc;have W0':=W;obtain⟨wl,⟨G,J,U,ha,B⟩,wk⟩:=W;obtain⟨n,v,ob⟩:=h;dsimp only at U;rw[E.cB (F.g 656 PP)];have st:∀{n v:Nat} {ob:T bC} {c p q:Nat} {o:List Nat} (W:lY w ⟨n,v,ob⟩ ⟨o,c,p⟩ q H) (Z:Nat),∃J G,ob.get w=some (.tc 110 true [G,J,.i .i64 (c:Int),.i .i64 (p:Int),.b H])/\∀v',lY w ⟨n,v',ob.put w (.tc 110 true [G,J,.i .i64 (Z:Int),.i .i64 (p:Int),.b H])⟩ ⟨o,Z,p⟩ q H:=λ{n v ob c p q o} W Z=>by
  obtain⟨wl,⟨G,J,U,ha,B⟩,wk⟩:=W;refine⟨J,G,U,λv'=>⟨wl,⟨G,J,?_,ha,⟨B.l,B.v.imp id λ⟨a,c⟩=>⟨a,by exact W0 c⟩⟩⟩,wk⟩⟩;exact U0
 rcases t with _|⟨a,t⟩;have e:aY .eql (.s []) (.s [])=some (.b true):=rfl;refine Y2 @PP.eq_1 e ?_;exact hk _ _ q W0' WF.refl;have e:aY .eql (.s (a::t)) (.s [])=some (.b false):=rfl;by_cases O:c=0;subst O;have e2:((0:Nat):Int)=0:=rfl;refine Y4 @PP.eq_1 e U e2 ?_;refine E.cN (R p _ hp) (Y0 ?_);refine E.run (R3 E F N W0' (t:=List.replicate p 32) (by rw[Cs];omega) _ λr1 h1 q1 W1 f1=> ?_);obtain⟨n1,v1,aQ⟩:=h1;obtain⟨b3,b2,b0,b1⟩:=st W1 p;refine Y1 b0 ?_;refine E.run (R3 E F N (b1 _) (t:=a::t) (by rw[dy,Cs];omega) _ λr2 h2 q2 W2 f2=> ?_);obtain⟨n2,v2,aJ⟩:=h2;obtain⟨Y,V,j,A⟩:=st W2 (p+(a::t).length);refine Y2 j @oH ?_;have e3:ad (a::t) ⟨o,0,p⟩=⟨o++List.replicate p 32++a::t,p+(a::t).length,p⟩:=by simp[ad]
 exact hk _ _ q2 (by rw[e3];exact A _) (f1.put.trans f2).put;have e2:((c:Int)=0)=False:=cE;refine Y4 @PP.eq_1 e U e2 ?_;refine E.run (R3 E F N W0' (t:=a::t) ω _ λr2 h2 q2 W2 f2=> ?_);obtain⟨n2,v2,aJ⟩:=h2;obtain⟨Y,V,j,A⟩:=st W2 (c+(a::t).length);refine Y2 j @oH ?_;have e3:ad (a::t) ⟨o,c,p⟩=⟨o++a::t,c+(a::t).length,p⟩:=by simp[ad,O]
 exact hk _ _ q2 (by rw[e3];exact A _) f2.put
end
namespace Dt
def tP:Dt ->Nat
 |tx _=>169
 |ln _=>170
 |hd=>172
 |sq _ _=>174
 |ne _ _=>176
 |al _=>178
 |gp _=>180
def fP:Dt ->Nat
 |tx _=>655
 |ln _=>657
 |hd=>660
 |sq _ _=>661
 |ne _ _=>662
 |al _=>663
 |gp _=>664
def vP (fl:Nat ->Bool):Nat ->Dt ->AV
 |_,tx s=> .ifc 169 (.s s)
 |_,ln s=> .ifc 170 (.s s)
 |_,hd=> .ifc 172 (.ag [])
 |i,sq a b=> .ifc 174 (.ag [vP fl i a,vP fl (i+a.sz) b])
 |i,ne n a=> .ifc 176 (.ag [.i .i64 (n:Int),vP fl i a])
 |i,al a=> .ifc 178 (.ag [vP fl i a])
 |i,gp a=> .ifc 180 (.ag [vP fl i a,.b (fl (i+a.sz))])
def dP (fl:Nat ->Bool):Nat ->Dt ->AV
 |_,tx s|_,ln s=> .s s
 |_,hd=> .ag []
 |i,sq a b=> .ag [vP fl i a,vP fl (i+a.sz) b]
 |i,ne n a=> .ag [.i .i64 (n:Int),vP fl i a]
 |i,al a=> .ag [vP fl i a]
 |i,gp a=> .ag [vP fl i a,.b (fl (i+a.sz))]
def vP_eq (fl:Nat ->Bool) (i:Nat) (T:Dt):vP fl i T= .ifc T.tP (dP fl i T):=by cases T<;>rfl
def tP_look (T:Dt):xN T.tP [(169,655),(170,657),(172,660),(174,661),(176,662),(178,663),(180,664)]=some T.fP:=by cases T<;>rfl
def wr (fl:Nat ->Bool):Nat ->Dt ->Nat ->Bool ->Ws ->Ws
 |_,tx s,_,_,S=>ad s S
 |_,ln s,d,f,S=>if f then ad s S else ⟨S.o++[10],0,d⟩
 |_,hd,d,_,S=>⟨S.o++[10],0,d⟩
 |i,sq a b,d,f,S=>wr fl (i+a.sz) b d f (wr fl i a d f S)
 |i,ne n a,d,f,S=>wr fl i a (d+n) f S
 |i,al a,_,f,S=>wr fl i a (if S.c=0 then S.p else S.c) f S
 |i,gp a,d,f,S=>wr fl i a d (f||fl (i+a.sz)) S
def bad (fl:Nat ->Bool):Nat ->Dt ->Bool ->Bool
 |_,tx _,_|_,ln _,_=>false
 |_,hd,f=>f
 |i,sq a b,f=>bad fl i a f||bad fl (i+a.sz) b f
 |i,ne _ a,f|i,al a,f=>bad fl i a f
 |i,gp a,f=>bad fl i a (f||fl (i+a.sz))
def nl:Dt ->Nat
 |tx _|ln _|hd=>1
 |sq a b=>nl a+nl b
 |ne _ a|al a|gp a=>nl a
def nl_sz:∀T:Dt,2*nl T<=sz T+1
 |tx _|ln _|hd=>bB _
 |sq a b=>by have:=nl_sz a;have:=nl_sz b;simp only[nl,sz];omega
 |ne _ a|al a|gp a=>by have:=nl_sz a;simp only[nl,sz];omega
end Dt
def aL8 {M:Nat} {S:Ws} {s:List Nat} (h:S.c+s.length<=M) (h':S.p+s.length<=M):(ad s S).c<=max S.c S.p+s.length/\ (ad s S).p=S.p/\ (ad s S).o.length<=S.o.length+M:=by
 unfold ad;split;exact⟨by omega,rfl,by omega⟩;split;refine⟨by dsimp only;omega,rfl,by simp only[dy,Cs];omega⟩;refine⟨by dsimp only;omega,rfl,by simp only[dy];omega⟩
def Ba {fl:Nat ->Bool} {M:Nat}:∀{T:Dt} {m i d:Nat} {f:Bool} {S:Ws},S.c<=m ->S.p<=m ->d<=m ->m+T.wd<=M ->(T.wr fl i d f S).c<=m+T.wd/\ (T.wr fl i d f S).p<=m+T.wd/\ (T.wr fl i d f S).o.length<=S.o.length+T.nl*(M+1)
 | .tx s,m,i,d,f,S,hc,hp,hd,h=>by
  simp only[Dt.wr,Dt.wd,Dt.nl] at*;have:=aL8 (M:=M) (S:=S) (s:=s) ω ω;omega
 | .ln s,m,i,d,f,S,hc,hp,hd,h=>by
  simp only[Dt.wr,Dt.wd,Dt.nl] at*;split;have:=aL8 (M:=M) (S:=S) (s:=s) ω ω;omega;simp only[dy,lF];omega
 | .hd,m,i,d,f,S,hc,hp,hd,h=>by
  simp only[Dt.wr,Dt.wd,Dt.nl,dy,lF] at*;omega
 | .sq a b,m,i,d,f,S,hc,hp,hd,h=>by
  simp only[Dt.wr,Dt.wd,Dt.nl] at*;obtain⟨a1,a2,a3⟩:=Ba (fl:=fl) (M:=M) (T:=a) (i:=i) (f:=f) hc hp hd ω;obtain⟨j,b2,b3⟩:=Ba (fl:=fl) (M:=M) (T:=b) (i:=i+a.sz) (f:=f) a1 a2 (d:=d) ω ω;rw[nq];omega
 | .ne n a,m,i,d,f,S,hc,hp,hd,h=>by
  simp only[Dt.wr,Dt.wd,Dt.nl] at*;obtain⟨a1,a2,a3⟩:=Ba (fl:=fl) (M:=M) (T:=a) (i:=i) (f:=f) (m:=m+n) (S:=S) (d:=d+n) ω ω ω ω;omega
 | .al a,m,i,d,f,S,hc,hp,hd,h=>by
  simp only[Dt.wr,Dt.wd,Dt.nl] at*;exact Ba hc hp (by split<;>omega) h
 | .gp a,m,i,d,f,S,hc,hp,hd,h=>by
  simp only[Dt.wr,Dt.wd,Dt.nl] at*;exact Ba hc hp hd h
def lY.up {w q:Nat} {h':AH} {S:Ws} {A:Bool} (W:lY w h S q A) (G:h.next<=h'.next) (e:∀j,j<h.next ->h'.oB.get j=h.oB.get j):lY w h' S q A:=by
 obtain⟨H,⟨J,O,V,U,B⟩,wk⟩:=W;exact⟨iR H G,⟨J,O,(e w H).trans V,U,⟨iR B.l G,B.v.imp id λ⟨a,c⟩=>⟨a,(e q B.l).trans c⟩⟩⟩,wk⟩
def lY.q {w q:Nat} {h:AH} {S:Ws} {j:Bool} (W:lY w h S q j):q<h.next:=by
 obtain⟨-,⟨A,G,-,-,B⟩,-⟩:=W;exact B.l
def WF.pre {w q G:Nat} {h1 h':AH} (A:h.next<=h1.next) (e:∀j,j<h.next ->h1.oB.get j=h.oB.get j) (f:WF w q h1 h' G):WF w q h h' G:=
 ⟨fJ A f.n,λj a b c=>(f.o j (iR a A) b c).trans (e j a),f.q.imp id (fJ A)⟩
section
variable {P:Program} {X:aR} {GL:T (List AV)} {ae:T au} {C:aK Prop} (E:Sem P X GL ae C) (F:bz8 ae) (N:DX P X GL) (R:Jg P X GL)
include E F N R
theorem Ea {fl:Nat ->Bool} {w M:Nat} (U:M<=2000):∀{T:Dt} {m i d:Nat} {f bd:Bool} {S:Ws} {q:Nat} {h:AH} (_:lY w h S q bd) (_:S.c<=m) (_:S.p<=m) (_:d<=m) (_:m+T.wd<=M) (_:S.o.length+T.nl*(M+1)<=1048576) (k:AV ->AH ->Prop)
 (_:∀r h' G,lY w h' (T.wr fl i d f S) G (bd||T.bad fl i f) ->WF w q h h' G ->k r h'),du C T.fP [T.dP fl i,.p w 0,.ag [.i .i64 (d:Int),.b f]] h k
 | .tx s,m,i,d,f,bd,S,q,h,W,hc,hp,hd,hm,ho,k,hk=>by
  obtain⟨n,v,ob⟩:=h;simp only[Dt.wr,Dt.wd,Dt.nl,Dt.bad,Bool.or_false] at*;show du C 655 [.s s,.p w 0,.ag [.i .i64 (d:Int),.b f]] _ k;refine E.bS (F.g 655 aI5) (Y1 @aI5.eq_1 ?_);have A:∀{ob:T bC} {x:bC} j,j<n ->(ob.put n x).get j=ob.get j:=λj V=>by exact U0
  refine E.run (aL7 E F N R (W.up (nD n) A) ω ω ω _ λr h' G W' f'=> ?_);refine Y0 ?_;exact hk _ _ G W' (.pre (nD n) A f')
 | .ln s,m,i,d,f,bd,S,q,h,W,hc,hp,hd,hm,ho,k,hk=>by
  obtain⟨n,v,ob⟩:=h;simp only[Dt.wr,Dt.wd,Dt.nl,Dt.bad,Bool.or_false] at*;show du C 657 [.s s,.p w 0,.ag [.i .i64 (d:Int),.b f]] _ k;rw[E.cB (F.g 657 RR)];have A:∀{ob:T bC} {x:bC} j,j<n ->(ob.put n x).get j=ob.get j:=λj V=>by exact U0
  cases f with
  |true=>
   refine Y1 @RR.eq_1 ?_;refine E.run (aL7 E F N R (W.up (nD n) A) ω ω ω _ λr h' G W' f'=> ?_);refine Y0 ?_;exact hk _ _ G W' (.pre (nD n) A f')
  |false=>
   refine Y1 @RR.eq_1 ?_;refine E.run (aL6 E F N (W.up (nD n) A) ω _ λr h' G W' f'=> ?_);refine Y0 ?_;exact hk _ _ G W' (.pre (nD n) A f')
 | .hd,m,i,d,f,bd,S,q,h,W,hc,hp,hd,hm,ho,k,hk=>by
  obtain⟨n,v,ob⟩:=h;simp only[Dt.wr,Dt.wd,Dt.nl,Dt.bad] at*;show du C 660 [.ag [],.p w 0,.ag [.i .i64 (d:Int),.b f]] _ k;obtain⟨wl,⟨Z,bv,J,ha,B⟩,wk⟩:=W;have b4:w<n:=wl;have b0:q<n:=B.l;dsimp only at J;have st:∀v' (x y:bC),lY w ⟨n+1+1,v',((ob.put n x).put (n+1) y).put w (.tc 110 true [Z,bv,.i .i64 (S.c:Int),.i .i64 (S.p:Int),.b (bd||f)])⟩ S q (bd||f):=λv' x y=>⟨by show w<n+1+1;omega,⟨Z,bv,by exact U0,ha,⟨by show q<n+1+1;omega,B.v.imp id λ⟨a,c⟩=>⟨a,by exact W0 c⟩⟩⟩,wk⟩;have fr:∀{v' x y z h' G},WF w q ⟨n+1+1,v',((ob.put n x).put (n+1) y).put w z⟩ h' G ->WF w q ⟨n,v,ob⟩ h' G:=λf=>⟨by have:=f.n;show n<=_;simp only at this;omega,λj a b c=>by
   have a:j<n:=a;rw[f.o j (by show j<n+1+1;omega) b c];exact U0,f.q.imp id λh=>by have h:n+1+1<=_:=h;show n<=_;omega⟩
  rw[E.cB (F.g 660 aI8)];cases bd<;>cases f;all_goals
   refine Y2 @aI8.eq_1 J ?_;refine E.run (aL6 E F N (st _ _ _) ω _ λr h' G W' f'=> ?_);refine Y0 ?_;exact hk _ _ G W' (fr f')
 | .sq a b,m,i,d,f,bd,S,q,h,W,hc,hp,hd,hm,ho,k,hk=>by
  obtain⟨n,v,ob⟩:=h;simp only[Dt.wr,Dt.wd,Dt.nl,Dt.bad] at*;rw[nq] at ho;show du C 661 [.ag [a.vP fl i,b.vP fl (i+a.sz)],.p w 0,.ag [.i .i64 (d:Int),.b f]] _ k;rw[E.cB (F.g 661 aI9)];have H:=a.vP_eq fl i;have eb:=b.vP_eq fl (i+a.sz);have O:=a.tP_look;have lb:=b.tP_look;have wl:w<n:=W.l;have ql:q<n:=W.q;have A:∀{ob:T bC} {x y:bC} j,j<n ->((ob.put n x).put (n+1) y).get j=ob.get j:=λj V=>by exact U0
  obtain⟨b1,b2,b3⟩:=Ba (fl:=fl) (M:=M) (T:=a) (i:=i) (f:=f) hc hp hd ω;refine Y4 @aI9.eq_1 @DT H O ?_;refine E.run (Ea U (W.up (by show n<=n+1+1;omega) A) hc hp hd ω ω _ λr h1 q1 W1 f1=> ?_);have x0:=f1.o n (by show n<n+1+1;omega) ω ω;have x1:=f1.o (n+1) (by show n+1<n+1+1;omega) ω ω;obtain⟨n1,v1,aQ⟩:=h1;dsimp only at x0 x1;refine Y5 x0 x1 @DT eb lb ?_;refine E.run (Ea U W1 b1 b2 ω ω ω _ λr h2 q2 W2 f2=> ?_);refine Y0 ?_;exact hk _ _ q2 (by rw[←Bool.or_assoc];exact W2) (.pre (by show n<=n+1+1;omega) A (f1.trans f2))
 | .ne n0 a,m,i,d,f,bd,S,q,h,W,hc,hp,hd,hm,ho,k,hk=>by
  obtain⟨n,v,ob⟩:=h;simp only[Dt.wr,Dt.wd,Dt.nl,Dt.bad] at*;show du C 662 [.ag [.i .i64 (n0:Int),a.vP fl i],.p w 0,.ag [.i .i64 (d:Int),.b f]] _ k;rw[E.cB (F.g 662 aJ0)];have H:=a.vP_eq fl i;have O:=a.tP_look;have A:∀{ob:T bC} {x y z:bC} j,j<n ->(((ob.put n x).put (n+1) y).put (n+1) z).get j=ob.get j:=λj V=>by exact U0
  refine Y5 @aJ0.eq_1 @DT H O @oH ?_;refine E.run (Ea U (W.up (by show n<=n+1+1;omega) A) (m:=m+n0) ω ω ω ω ho _ λr h1 q1 W1 f1=> ?_);refine Y0 ?_;exact hk _ _ q1 W1 (.pre (by show n<=n+1+1;omega) A f1)
 | .al a,m,i,d,f,bd,S,q,h,W,hc,hp,hd,hm,ho,k,hk=>by
  obtain⟨n,v,ob⟩:=h;simp only[Dt.wr,Dt.wd,Dt.nl,Dt.bad] at*;show du C 663 [.ag [a.vP fl i],.p w 0,.ag [.i .i64 (d:Int),.b f]] _ k;rw[E.cB (F.g 663 RT)];have H:=a.vP_eq fl i;have O:=a.tP_look;have wl:w<n:=W.l;have J:=W.e;obtain⟨Z,bv,J,-⟩:=J;dsimp only at J;have A:∀{ob:T bC} {x y z:bC} j,j<n ->(((ob.put n x).put (n+1) y).put (n+1) z).get j=ob.get j:=λj V=>by exact U0
  have Y:∀{ob:T bC} {x y z u:bC} j,j<n ->((((ob.put n x).put (n+1) y).put (n+1) z).put (n+1) u).get j=ob.get j:=λj V=>by exact U0
  by_cases c0:S.c=0;have e:((S.c:Int)=0)=True:=cJ;rw[aF c0] at hk;refine Y6 @RT.eq_1 @DT H O J e ?_;refine E.run (Ea U (W.up (by show n<=n+1+1;omega) Y) hc hp hp hm ho _ λr h1 q1 W1 f1=> ?_);refine Y0 ?_;exact hk _ _ q1 W1 (.pre (by show n<=n+1+1;omega) Y f1);have e:((S.c:Int)=0)=False:=cE;rw[aD c0] at hk;refine Y6 @RT.eq_1 @DT H O J e ?_;refine E.run (Ea U (W.up (by show n<=n+1+1;omega) A) hc hp hc hm ho _ λr h1 q1 W1 f1=> ?_);refine Y0 ?_;exact hk _ _ q1 W1 (.pre (by show n<=n+1+1;omega) A f1)
 | .gp a,m,i,d,f,bd,S,q,h,W,hc,hp,hd,hm,ho,k,hk=>by
  obtain⟨n,v,ob⟩:=h;simp only[Dt.wr,Dt.wd,Dt.nl,Dt.bad] at*;show du C 664 [.ag [a.vP fl i,.b (fl (i+a.sz))],.p w 0,.ag [.i .i64 (d:Int),.b f]] _ k;rw[E.cB (F.g 664 aJ1)];have H:=a.vP_eq fl i;have O:=a.tP_look;have A:∀{ob:T bC} {x y z:bC} j,j<n ->(((ob.put n x).put (n+1) y).put (n+1) z).get j=ob.get j:=λj V=>by exact U0
  generalize fl (i+a.sz)=g at*;cases f<;>cases g;all_goals
   refine Y4 @aJ1.eq_1 @DT H O ?_;refine E.run (Ea U (W.up (by show n<=n+1+1;omega) A) hc hp hd hm ho _ λr h1 q1 W1 f1=> ?_);refine Y0 ?_;exact hk _ _ q1 W1 (.pre (by show n<=n+1+1;omega) A f1)
end
end
end AM
namespace AM
open Dg Go
noncomputable section
namespace Dt
def vs (fl:Nat ->Bool):Nat ->Dt ->List AV
 |i,sq a b=>vs fl i a++vs fl (i+a.sz) b++[vP fl i (sq a b)]
 |i,ne n a=>vs fl i a++[vP fl i (ne n a)]
 |i,al a=>vs fl i a++[vP fl i (al a)]
 |i,gp a=>vs fl i a++[vP fl i (gp a)]
 |i,T=>[vP fl i T]
def vs_len {fl:Nat ->Bool}:∀(T:Dt) (i:Nat),(vs fl i T).length=sz T
 |tx s,i|ln s,i|hd,i=>rfl
 |sq a b,i=>by simp only[vs,sz,dy,vs_len a,vs_len b,lF]
 |ne _ a,i|al a,i|gp a,i=>by simp only[vs,sz,dy,vs_len a,lF]
def vs_last {fl:Nat ->Bool} (T:Dt) (i:Nat):(vs fl i T)[T.sz-1]? =some (vP fl i T):=by
 cases T with
 |sq a b=>simp only[vs,sz,Nat.add_sub_cancel];rw[rK (by simp[vs_len])];simp[vs_len]
 |ne n a|al a|gp a=>simp only[vs,sz,Nat.add_sub_cancel];rw[rK (by simp[vs_len])];simp[vs_len]
 |_=>rfl
def vs_ifc {fl:Nat ->Bool}:∀(T:Dt) {i:Nat} {x:AV},x∈vs fl i T ->∃t v,x= .ifc t v
 |tx s,i,x,h|ln s,i,x,h|hd,i,x,h=>by rw[yC.1 h];exact⟨_,_,rfl⟩
 |sq a b,i,x,h=>by
  simp only[vs,fO,yC] at h;rcases h with (h|h)|h;exact vs_ifc a h;exact vs_ifc b h;rw[h];exact⟨_,_,rfl⟩
 |ne _ a,i,x,h|al a,i,x,h|gp a,i,x,h=>by
  simp only[vs,fO,yC] at h;rcases h with h|h;exact vs_ifc a h;rw[h];exact⟨_,_,rfl⟩
end Dt
def wR (V:List AV) (g:Bool):Dn ->Option AV
 |⟨0,s,_,_,_⟩=>some (.ifc 169 (.s s))
 |⟨1,s,_,_,_⟩=>some (.ifc 170 (.s s))
 |⟨2,_,_,_,_⟩=>some (.ifc 172 (.ag []))
 |⟨3,_,_,a,b⟩=>V[a]?.bind λx=>V[b]?.map λy=> .ifc 174 (.ag [x,y])
 |⟨4,_,n,a,_⟩=>V[a]?.map λx=> .ifc 176 (.ag [.i .i64 (n:Int),x])
 |⟨5,_,_,a,_⟩=>V[a]?.map λx=> .ifc 178 (.ag [x])
 |⟨6,_,_,a,_⟩=>V[a]?.map λx=> .ifc 180 (.ag [x,.b g])
 |_=>none
def bj6 {fl:Nat ->Bool}:∀(T:Dt) (p:List AV) {j:Nat} {d:Dn},(T.po p.length)[j]? =some d ->∃v,(T.vs fl p.length)[j]? =some v/\ wR (p++(T.vs fl p.length).take j) (fl (p.length+j)) d=some v:=by
 intro T;have one:∀{α:Type} {p:List α} {n:Nat} {v:α},p.length=n ->(p++[v])[n]? =some v:=λh=>by rw[←h];simp
 have un:∀{a:Dt} {p:List AV} {r:Dn} {v:AV} {j:Nat} {d:Dn},(∀{j d},(a.po p.length)[j]? =some d ->∃v,(a.vs fl p.length)[j]? =some v/\ wR (p++(a.vs fl p.length).take j) (fl (p.length+j)) d=some v) ->
  wR (p++a.vs fl p.length) (fl (p.length+a.sz)) r=some v ->(a.po p.length++[r])[j]? =some d ->∃w,(a.vs fl p.length++[v])[j]? =some w/\ wR (p++(a.vs fl p.length++[v]).take j) (fl (p.length+j)) d=some w:=λ{a p r v j d} J hr h=>by
  by_cases H:j<a.sz;rw[pL (by rw[Dt.po_len];exact H)] at h;obtain⟨w,h1,h2⟩:=J h;exact⟨w,by rw[pL (by rw[Dt.vs_len];exact H)];exact h1,by rw[Ln (by rw[Dt.vs_len];omega)];exact h2⟩;have e:j=a.sz:=by
   have:=(eC.1 h).1;simp[Dt.po_len] at this;omega
  subst e;rw[one (Dt.po_len _ _)] at h;cases h;exact⟨v,one (Dt.vs_len _ _),by rw[List.take_left' (Dt.vs_len _ _)];exact hr⟩
 have O:∀{a:Dt} {p:List AV},(p++a.vs fl p.length)[p.length+a.sz-1]? =some (a.vP fl p.length):=λ{a p}=>by
  have:=a.sz_pos;rw[rK ω,show p.length+a.sz-1-p.length=a.sz-1 by omega];exact a.vs_last _
 induction T with
 |tx s|ln s|hd=>
  intro p j d h
  match j,h with
  |0,h=>cases h;exact⟨_,rfl,rfl⟩
 |sq a b G A=>
  intro p j d h;have G:= @G p;have A:= @A (p++a.vs fl p.length);rw[dy,Dt.vs_len] at A;have lb:= @O b (p++a.vs fl p.length);rw[dy,Dt.vs_len] at lb;simp only[Dt.po,Dt.vs] at h ⊢;by_cases H:j<a.sz;rw[hZ,pL (by rw[Dt.po_len];exact H)] at h;obtain⟨w,h1,h2⟩:=G h;exact⟨w,by rw[hZ,pL (by rw[Dt.vs_len];exact H)];exact h1,by rw[hZ,Ln (by rw[Dt.vs_len];omega)];exact h2⟩;obtain⟨i,rfl⟩:∃i,j=a.sz+i:=⟨j-a.sz,by omega⟩;rw[hZ,rK (by rw[Dt.po_len];omega),Dt.po_len,Nat.add_sub_cancel_left] at h;have:=un (a:=b) (p:=p++a.vs fl p.length) (r:=⟨3,[],0,p.length+a.sz-1,p.length+a.sz+b.sz-1⟩) (v:=Dt.vP fl p.length (.sq a b)) (j:=i) (d:=d);rw[dy,Dt.vs_len] at this;obtain⟨w,h1,h2⟩:=this A (by
   simp only[wR];rw[pL (by have:=a.sz_pos;simp[Dt.vs_len];omega),O,lb];rfl) h
  refine⟨w,?_,?_⟩;rw[hZ,rK (by rw[Dt.vs_len];omega),Dt.vs_len,Nat.add_sub_cancel_left];exact h1;rw[hZ (a.vs fl p.length),show a.sz+i=(a.vs fl p.length).length+i by rw[Dt.vs_len],List.take_length_add_append,←hZ];rw[pK] at h2;rw[Dt.vs_len];exact h2
 |ne n a J|al a J|gp a J=>
  intro p j d h;refine un (λh=>J p h) ?_ h;simp only[wR];rw[O];rfl
def bj7 {t v}:cellsO (.ifc t v)=some [.ifc t v]:=rfl
def bk0 {t v}:cellsOf (.ifc t v)=[.ifc t v]:=rfl
def bm9 {t v}:ew (.ifc t v)=true:=rfl
attribute [go_sem] bj7 bk0 bm9
section
variable {P:Program} {X:aR} {GL:T (List AV)} {ae:T au} {C:aK Prop} (E:Sem P X GL ae C) (F:bz8 ae)
include E F
theorem bn0 {fl:Nat ->Bool} {W:Dt} (hz:W.sz<=1048576) {m:Nat} {M:List (Int×Bool)} {nl:Bool} {h:AH} (hm:m<h.next) (hM:mG (h.oB.get m)=mX kK AV.b M) (b2:∀i:Nat,(look (i:Int) M).getD false=fl i) (k:AV ->AH ->Prop)
 (hk:∀h',h.next<=h'.next ->(∀j,j<h.next ->h'.oB.get j=h.oB.get j) ->k (W.vP fl 0) h'):du C 34 [eR yV 5 nl (W.po 0),.m m] h k:=by
 have lD:=W.po_len 0;have lV:=W.vs_len (fl:=fl) 0;have pv:= @bj6 fl W [];have vl:=W.vs_last (fl:=fl) 0;simp only[ji,gx,gB] at pv;have vi:=λx=>W.vs_ifc (fl:=fl) (i:=0) (x:=x);generalize W.po 0=D at*;generalize W.vs fl 0=V at*;have zp:=W.sz_pos;have Ff:nice 64 (eR yV 5 nl D)=true:=A4 bY0;have dk:∀k,nice 64 (.dp (D.flatMap yV) k)=true:=λk=>by rw[fK,fE bY0]
 have d2:(D.length<=1048576)=True:=cJ;have ds:aY .sub (ι (D.length:Int)) (ι 1)=some (ι ((D.length-1:Nat):Int)):=qV (a:=D.length) (b:=1) ω;have rf:∀n:Nat,(List.replicate n [AV.ifn]).flatten=List.replicate n AV.ifn:=λn=>by simp
 obtain⟨n,v,ob⟩:=h;refine E.bS (F.g 34 Sw) (Z5 @Sw.eq_1 Ff d2 @dw rf ?_);refine fj E.ok D.length (λi τ h=>n+1<=h.next/\ (∀j,j<n ->h.oB.get j=ob.get j)/\ cG (h.oB.get n)=some (V.take i++List.replicate (D.length-i) .ifn)/\ τ.get 0=some (eR yV 5 nl D)/\ τ.get 1=some (.m m)/\ τ.get 5=some (.sl n 0 D.length (some D.length) 1)/\ τ.get 11=some (eR yV 5 nl D)/\ τ.get 12=some (ι (D.length:Int))/\ τ.get 13=some (ι (i:Int))) ?_ ?_ _ _ ⟨bB _,λj H=> ?_,?_,?_,?_,?_,?_,?_,?_⟩
 ·rintro i τ ⟨n1,v1,aQ⟩ hi ⟨hn,old,Y,t0,t1,t5,bH,b0,b1⟩ ih;dsimp only at hn old Y;have hd:D[i]? =some D[i]:=ef hi;generalize D[i]=d at hd;obtain⟨w,hw,A⟩:=pv hd;have e5:AM.sub (D.flatMap yV) (i*5) 5=some (yV d):=cW bS6 hd (j:=0) (n:=5) ω;have J:((i:Int)<(D.length:Int))=True:=cJ;have iV:i<V.length:=by omega
  generalize hL:V.take i++List.replicate (D.length-i) AV.ifn=L at Y;have sL:∀{a:Nat} {x:AV},(V.take i)[a]? =some x ->a<D.length/\ AM.sub L a 1=some [x]/\∃t v,x= .ifc t v:=λ{a x} h=>by
   have ha:=(eC.1 h).1;rw[jm] at ha;exact⟨by omega,qY (by rw[←hL,pL (by rw[jm];omega),h]),vi x (List.mem_of_mem_take (dI h))⟩
  have oL:∀x,eL [x] L i=some (L.set i x):=λx=>Rr (by rw[←hL];simp;omega);have sW:L.set i w=V.take (i+1)++List.replicate (D.length-(i+1)) .ifn:=by
   rw[←hL,List.set_append_right _ _ (by simp;omega),show D.length-i=D.length-(i+1)+1 by omega,uc,List.take_succ,hw];simp[kF (Im iV)]
  have mm:∀bQ aA ob' (τ:T AV),mG (T.get ob' m)=mX kK AV.b M ->az C τ (.t 95)= .m m ->az C τ (.t 96)= .i .i64 (i:Int) ->step (az C τ) ⟨bQ,aA,ob'⟩ (.look (.lf .i) (.t 95) (.t 96) (.b false) false)= .v (.b (fl i)) ⟨bQ,aA,ob'⟩:=
   λbQ aA ob' τ q1 q2 q3=>(sd (k:=(i:Int)) (z:= .b false) (en:=AV.b) Az (h:=⟨bQ,aA,ob'⟩) (fT.2 q1) q2 q3).trans (by rw[aX0,b2])
  have m1:mG (aQ.get m)=mX kK AV.b M:=by rw[old m hm];exact hM
  simp only[yV] at e5;obtain⟨k,s,n0,a,b⟩:=d;have O:(n=n1)=False:=cE;have b3:m<n:=hm;have U:(m=n1)=False:=cE;have ts:=ec t0 (ec t1 (ec t5 (ec bH (ec b0 b1))));have fin:∀v2 (aJ:T bC) (τ':T AV),(∀j,j<n ->aJ.get j=aQ.get j) ->cG (aJ.get n)=some (L.set i w) ->τ'.get 0=some (eR yV 5 nl D) ->τ'.get 1=some (.m m) ->τ'.get 5=some (.sl n 0 D.length (some D.length) 1) ->τ'.get 11=some (eR yV 5 nl D) ->τ'.get 12=some (ι (D.length:Int)) ->τ'.get 13=some (ι ((i+1:Nat):Int)) ->_:=λv2 aJ τ' a1 a2 a3 a4 a5 a6 a7 a8=>ih τ' ⟨n1+1,v2,aJ⟩ ⟨by show n+1<=n1+1;omega,λj H=>(a1 j H).trans (old j H),by rw[←sW];exact a2,a3,a4,a5,a6,a7,a8⟩;have k3:((3:Nat):Int)=3:=rfl;have k1:((1:Nat):Int)=1:=rfl;have k2:((2:Nat):Int)=2:=rfl;have k4:((4:Nat):Int)=4:=rfl;have k5:((5:Nat):Int)=5:=rfl;have k6:((6:Nat):Int)=6:=rfl;have nf:∀{x y z:bC} {j:Nat},j<n ->(((aQ.put n1 x).put n1 y).put n z).get j=aQ.get j:=λh=>by exact U0
  match k,A with
  |0,A=>
   cases A;refine qt ts Ff dk J hi e5 Y oL O U @bG @bK yJ ?_;refine fin _ _ _ (λj H=>nf H) ?_ ?_ ?_ ?_ ?_ ?_ ?_;exact U0;all_goals exact U1 ts
  |1,A=>
   cases A;refine qt ts Ff dk J hi e5 Y oL O U @bG @bK k1 ?_;refine fin _ _ _ (λj H=>nf H) ?_ ?_ ?_ ?_ ?_ ?_ ?_;exact U0;all_goals exact U1 ts
  |2,A=>
   cases A;refine qt ts Ff dk J hi e5 Y oL O U @bG @bK k2 ?_;refine fin _ _ _ (λj H=>nf H) ?_ ?_ ?_ ?_ ?_ ?_ ?_;exact U0;all_goals exact U1 ts
  |3,A=>
   obtain⟨x,G,y,hy,rfl⟩:∃x,(V.take i)[a]? =some x/\∃y,(V.take i)[b]? =some y/\ w= .ifc 174 (.ag [x,y]):=by
    simp only[wR] at A;rcases G:(V.take i)[a]? with _|x;rw[G] at A;cases A;cases hy:(V.take i)[b]? with
     |none=>rw[G,hy] at A;cases A
     |some y=>rw[G,hy] at A;cases A;exact⟨x,rfl,y,rfl,rfl⟩
   obtain⟨Z,sx,tx,vx,rfl⟩:=sL G;obtain⟨ay,sy,ty,vy,rfl⟩:=sL hy;refine yO ts Ff dk J hi e5 Y oL O U @bG @bK Z sx ay sy k3 ?_;refine fin _ _ _ (λj H=>nf H) ?_ ?_ ?_ ?_ ?_ ?_ ?_;exact U0;all_goals exact U1 ts
  |4,A=>
   obtain⟨x,G,rfl⟩:∃x,(V.take i)[a]? =some x/\ w= .ifc 176 (.ag [.i .i64 (n0:Int),x]):=by
    simp only[wR] at A;rcases G:(V.take i)[a]? with _|x;rw[G] at A;cases A;rw[G] at A;cases A;exact⟨x,rfl,rfl⟩
   obtain⟨Z,sx,tx,vx,rfl⟩:=sL G;refine uX ts Ff dk J hi e5 Y oL O U @bG @bK Z sx k4 ?_;refine fin _ _ _ (λj H=>nf H) ?_ ?_ ?_ ?_ ?_ ?_ ?_;exact U0;all_goals exact U1 ts
  |5,A=>
   obtain⟨x,G,rfl⟩:∃x,(V.take i)[a]? =some x/\ w= .ifc 178 (.ag [x]):=by
    simp only[wR] at A;rcases G:(V.take i)[a]? with _|x;rw[G] at A;cases A;rw[G] at A;cases A;exact⟨x,rfl,rfl⟩
   obtain⟨Z,sx,tx,vx,rfl⟩:=sL G;refine uX ts Ff dk J hi e5 Y oL O U @bG @bK Z sx k5 ?_;refine fin _ _ _ (λj H=>nf H) ?_ ?_ ?_ ?_ ?_ ?_ ?_;exact U0;all_goals exact U1 ts
  |6,A=>
   obtain⟨x,G,rfl⟩:∃x,(V.take i)[a]? =some x/\ w= .ifc 180 (.ag [x,.b (fl i)]):=by
    simp only[wR] at A;rcases G:(V.take i)[a]? with _|x;rw[G] at A;cases A;rw[G] at A;cases A;exact⟨x,rfl,rfl⟩
   obtain⟨Z,sx,tx,vx,rfl⟩:=sL G;refine yO ts Ff dk J hi e5 Y oL O U @bG @bK Z sx k6 m1 mm ?_;refine fin _ _ _ (λj H=>nf H) ?_ ?_ ?_ ?_ ?_ ?_ ?_;exact U0;all_goals exact U1 ts
  |_+7,A=>cases A
 rintro τ ⟨n1,v1,aQ⟩ ⟨hn,old,Y,t0,t1,t5,bH,b0,b1⟩;dsimp only at hn old Y;have e1:AM.sub (V.take D.length++List.replicate (D.length-D.length) AV.ifn) (D.length-1) 1=some [W.vP fl 0]:=qY (by
  rw[Nat.sub_self,List.replicate_zero,lG,vM ω,lD];exact vl)
 refine Z9 t0 t5 b0 b1 Ff Y e1 ds @dw ?_;exact hk _ (by show n<=n1;omega) old;have H:j<n:=H;exact U0;rw[Cf,gx,Nat.sub_zero];(iterate 7 exact U0)
end
def aL9 {S:Ws} {s:List Nat} (hs:∀b∈s,b<256) (hS:∀b∈S.o,b<256):∀b∈(ad s S).o,b<256:=by
 unfold ad;split;exact hS;split;intro b hb;simp only[fO,List.mem_replicate] at hb;rcases hb with (hb|hb)|hb;exact hS b hb;omega;exact hs b hb;intro b hb;rcases fO.1 hb with hb|hb;exact hS b hb;exact hs b hb
def Ji {fl:Nat ->Bool} {A:List Nat ->Prop} (j:∀s,A s ->∀b∈s,b<256):∀{T:Dt} {i d:Nat} {f:Bool} {S:Ws},T.fit A ->(∀b∈S.o,b<256) ->∀b∈(T.wr fl i d f S).o,b<256
 | .tx s,i,d,f,S,h,hS=>aL9 (j s h) hS
 | .ln s,i,d,f,S,h,hS=>by
  simp only[Dt.wr];split;exact aL9 (j s h.1) hS;intro b hb;rcases fO.1 hb with hb|hb;exact hS b hb;rw[yC.1 hb];decide
 | .hd,i,d,f,S,h,hS=>λb hb=>by
  rcases fO.1 hb with hb|hb;exact hS b hb;rw[yC.1 hb];decide
 | .sq a b,i,d,f,S,h,hS=>Ji (T:=b) j h.2 (Ji (T:=a) j h.1 hS)
 | .ne n a,i,d,f,S,h,hS=>Ji (T:=a) j h.2 hS
 | .al a,i,d,f,S,h,hS| .gp a,i,d,f,S,h,hS=>Ji (T:=a) j h hS
def bn2:∀s,A6 s ->∀b∈s,b<256:=λs h=>by
 rcases fO.1 h with h|h;exact λb hb=>((bU0 h).2 b hb).1;simp at h;rcases h with rfl|rfl<;>simp
section
variable {P:Program} {X:aR} {GL:T (List AV)} {ae:T au} {C:aK Prop} (S:aT P X GL ae) (E:Sem P X GL ae C) (FN:bz8 ae) (F:bz8 ae) (N:DX P X GL) (R:Jg P X GL) (I:Ib P X GL)
include S E FN F N R I
theorem bn3 {w q:Nat} {Z:Ws} {G:Bool} {h:AH} (W:lY w h Z q G) (hs:∀b∈Z.o,b<256) (J:Z.o.length<=1048576) (k:AV ->AH ->Prop) (H:∀h',h.next<=h'.next ->(∀j,j≠q ->h'.oB.get j=h.oB.get j) ->k (.s Z.o) h'):du C 35 [.p w 0] h k:=by
 obtain⟨Y,⟨O,U,A,V,B⟩,wk⟩:=W;obtain⟨p,v',ob',e1,e2,e3,e4⟩:=B.str hs J;obtain⟨n,v,ob⟩:=h;dsimp only at A e4;refine E.bS (F.g 35 aL0) (Z7 @aL0.eq_1 A @bj3 @bj4 e1 e2 e3 ?_);exact H _ (bB _) e4
theorem bn4 {W:Dt} (hT:W.fit A6) (hz:W.sz<=65536) (hd:W.wd<=2000) (ho:W.nl*(W.wd+1)<=1048576) {h:AH} {Fg:List Bool} (hl:Fg.length=(W.gl 0).length)
 (hb:∀fl:Nat ->Bool,(∀j:Nat,fl j=true ->∃k:Nat,(W.gl 0)[k]? =some j/\ Fg[k]? =some true) ->W.bad fl 0 false=false) {nl:Bool} (k:AV ->AH ->Prop)
 (hk:∀fl h',h.next<=h'.next ->(∀j,j<h.next ->h'.oB.get j=h.oB.get j) ->k (.tu [.s (W.wr fl 0 0 false ⟨[],0,0⟩).o,.i .i64 0]) h'):du C 7 [eR yV 5 nl (W.po 0),.ds (Fg.map .b) 0 Fg.length 1] h k:=by
 obtain⟨n,v,ob⟩:=h;have Ff:nice 64 (eR yV 5 nl (W.po 0))=true:=A4 bY0;have gr:=λh k hk=>bj9 (C:=C) S E FN I hT hz (nl:=nl) (h:=h) k hk;have f1:nice 64 (.ds (Fg.map .b) 0 Fg.length 1)=true:=by
  have e:∀L:List Bool,nice.niceL 63 (L.map .b)=true:=λL=>by induction L with|nil=>rfl|cons a L ih=>rw[jY,Bg,ih];rfl
  exact e Fg
 refine E.bS (F.g 7 So) (Z2 @So.eq_1 Ff ?_);refine E.run (gr _ _ λov h1 sg hn o1=> ?_);obtain⟨n1,v1,aQ⟩:=h1;obtain⟨g1,g2,g3,g4,g5⟩:=sg.nice;have dS:n<=n1:=hn;dsimp only at o1;refine Z4 Ff f1 g5 hl ?_;have d3:=W.gl_len 0;generalize hG:W.gl 0=G at*;refine fj E.ok G.length (λi τ h=>n1+1<=h.next/\ (∀j,j<n1 ->h.oB.get j=aQ.get j)/\ τ.get 0=some (eR yV 5 nl (W.po 0))/\ τ.get 1=some (.ds (Fg.map .b) 0 Fg.length 1)/\ τ.get 8=some (.m n1)/\ τ.get 26=some ov/\ τ.get 27=some (ι (G.length:Int))/\ τ.get 28=some (ι (i:Int))/\
  ∃M,mG (h.oB.get n1)=mX kK AV.b M/\∀j:Nat,(look (j:Int) M).getD false=true ->∃k:Nat,G[k]? =some j/\ Fg[k]? =some true) ?_ ?_ _ _ ⟨bB _,λj H=> ?_,?_,?_,?_,?_,?_,?_,[],?_,λj h=>by cases h⟩
 rintro i τ ⟨A,v2,aJ⟩ hi ⟨O,o2,t0,t1,t8,U,V,b0,M,Y,Z⟩ ih;dsimp only at O o2 Y;obtain⟨J,rfl,q1,q2,q3⟩:∃J,ov= .sl J 0 G.length none 1/\ n<=J/\ J<n1/\ cG (aQ.get J)=some (G.flatMap iv):=by
  rcases sg with ⟨h,-⟩|⟨J,e,a,b,c,-⟩;omega;exact⟨J,e,a,b,c⟩
 have hg:G[i]? =some G[i]:=ef hi;generalize G[i]=g at hg;have hf:Fg[i]? =some Fg[i]:=ef ω;generalize Fg[i]=b at hf;have c6:AM.sub (G.flatMap iv) i 1=some [.i .i64 (g:Int)]:=by
  have:=cW (enc:=iv) (k:=1) (λ_=>rfl) hg (j:=0) (n:=1) ω;simpa[iv] using this
 have b8:AM.sub (Fg.map AV.b) i 1=some [.b b]:=qY (by rw[oh,hf];rfl);have cq:cG (aJ.get J)=some (G.flatMap iv):=by rw[o2 J q2];exact q3
 have rq:rL (aJ.get J)=some (G.flatMap iv):=bd2 cq;have b5:((i:Int)<(G.length:Int))=True:=cJ;have b4:(i<Fg.length)=True:=cJ;have mu:∀bQ aA ob' (τ:T AV),mG (T.get ob' n1)=mX kK AV.b M ->az C τ (.t 33)= .m n1 ->az C τ (.t 34)= .i .i64 (g:Int) ->az C τ (.t 38)= .b b ->step (az C τ) ⟨bQ,aA,ob'⟩ (.mupd (.lf .i) (.t 33) (.t 34) (.t 38))= .v .un ⟨bQ,aA+1,ob'.put n1 (.map (aA+1) (di kK AV.b 0 (ups (g:Int) b M)) (ups (g:Int) b M).length)⟩:=
  λbQ aA ob' τ q1 q2 q3 q4=>mL (k:=(g:Int)) (v:=b) (en:=AV.b) Az (h:=⟨bQ,aA,ob'⟩) (fT.2 q1) q2 q3 q4
 refine sD t0 t1 t8 U V b0 b5 hi b4 rq c6 b8 Y mu Ff @bK ?_;refine ih _ _ ⟨by show n1+1<=A;omega,λj H=> ?_,?_,?_,?_,?_,?_,?_,ups (g:Int) b M,?_,λj h=> ?_⟩;have H:j<n1:=H;exact wW (show(j=n1)=False from cE) (o2 j H);exact U1 t0;exact U1 t1;exact U1 t8;exact U1 U;(iterate 3 exact U1 V);rw[Fh] at h;by_cases e:(j:Int)=(g:Int);rw[aF e] at h;have h:b=true:=h;subst h;exact⟨i,by rw[hg];congr 1;omega,hf⟩;rw[aD e] at h;exact Z j h;rintro τ ⟨A,v2,aJ⟩ ⟨O,o2,t0,t1,t8,U,V,b0,M,Y,Z⟩;dsimp only at O o2 Y;obtain⟨fl,b2⟩:∃fl:Nat ->Bool,∀i:Nat,(look (i:Int) M).getD false=fl i:=⟨_,λ_=>rfl⟩;have b1:=hb fl λj h=>Z j (by rw[b2];exact h);have pr:=λh hm Y k hk=>bn0 (C:=C) E F (W:=W) ω (m:=n1) (M:=M) (nl:=nl) (h:=h) hm Y b2 k hk;have ve:=W.vP_eq fl 0;have vl:=W.tP_look;have wb:=Ba (fl:=fl) (M:=W.wd) (T:=W) (m:=0) (i:=0) (d:=0) (f:=false) (S:=⟨[],0,0⟩) (bB _) (bB _) (bB _) ω;have wy:=Ji (fl:=fl) (i:=0) (d:=0) (f:=false) (S:=⟨[],0,0⟩) bn2 hT (λb h=>by cases h);refine Z7 t0 t1 t8 U V b0 Ff ?_;refine E.run (pr _ ?_ ?_ _ λh3 b6 o3=> ?_);show n1<A+1;omega;have w:(n1=A)=False:=cE;exact wW w Y;obtain⟨n3,v3,cC⟩:=h3;have d0:A+1<=n3:=b6;dsimp only at o3;have hw:cC.get A=some (.tc 110 true [.pn,.sn,.i .i64 0,.i .i64 0,.b false]):=by rw[o3 A (qI _)];exact U0
 have Ws0:lY A ⟨n3,v3,cC⟩ ⟨[],0,0⟩ n1 false:=⟨by show A<n3;omega,⟨.pn,.sn,hw,.inl rfl,⟨by show n1<n3;omega,.inl ⟨rfl,rfl⟩⟩⟩,by omega⟩;refine Z7 t0 t1 t8 Ff @DT ve vl ?_;refine E.run (Ea E F N R (fl:=fl) (M:=W.wd) hd (T:=W) (m:=0) (i:=0) (d:=0) Ws0 (bB _) (bB _) (bB _) ω (by simpa using ho) _ λr h4 q4 W4 f4=> ?_);rw[b1] at W4;obtain⟨d8,⟨d1,d2,b3,d4,B4⟩,d6⟩:=id W4;obtain⟨n4,v4,d5⟩:=h4;dsimp only at b3;refine Z5 t0 t1 t8 Ff b3 ?_;refine E.run (bn3 S E FN F N R I W4 wy (by simp at wb;omega) _ λh5 b7 o5=> ?_);refine Z1 t0 ?_;have q4:n1<=q4:=by rcases f4.q with h|h;exact Nat.le_of_eq h.symm;have h:n3<=q4:=h;omega
 refine hk fl h5 (by have:=f4.n;simp only at this b7;show n<=_;omega) λj H=> ?_;have H:j<n:=H;have c7:n1+1<=A:=O;rw[o5 j ω,f4.o j (by show j<n3;omega) ω ω,o3 j (by show j<A+1;omega)];refine Eq.trans ?_ ((o2 j ω).trans (o1 j H));have w:(j=A)=False:=cE;exact U1 w;have H:j<n1:=H;exact U0;exact U0;first|exact U1 hl|(rw[hl];exact U0)
 (iterate 5 exact U0)
end
def bn5 (n:Nat):dn (List.replicate n 32)=[]:=by
 induction n with
 |zero=>rfl
 |succ n j=>rw[uc];exact j
def aM6 {s:List Nat} {S:Ws}:dn (ad s S).o=dn S.o++dn s:=by
 unfold ad;split;rename_i h;rw[h];exact(lG _).symm;split;simp only[Jd,bn5,lG];exact Jd ..
def Jk {fl:Nat ->Bool} {A}:∀{T:Dt} {i d:Nat} {f:Bool} {S:Ws},T.fit A ->dn (T.wr fl i d f S).o=dn S.o++T.den
 | .tx s,i,d,f,S,h=>aM6
 | .ln s,i,d,f,S,h=>by
  simp only[Dt.wr,Dt.den];split;rw[aM6,h.2];exact Jd ..
 | .hd,i,d,f,S,h=>Jd ..
 | .sq a b,i,d,f,S,h=>by simp only[Dt.wr,Dt.den];rw[Jk (T:=b) h.2,Jk (T:=a) h.1,hZ]
 | .ne n a,i,d,f,S,h=>by simp only[Dt.wr,Dt.den];exact Jk (T:=a) h.2
 | .al a,i,d,f,S,h| .gp a,i,d,f,S,h=>by simp only[Dt.wr,Dt.den];exact Jk (T:=a) h
def Dt.hh:Dt ->Bool
 | .hd=>true
 | .tx _| .ln _=>false
 | .sq a b=>hh a||hh b
 | .ne _ a| .al a| .gp a=>hh a
def Jl {fl:Nat ->Bool}:∀{T:Dt} {i:Nat} {f:Bool},T.hh=false ->T.bad fl i f=false
 | .tx s,i,f,h| .ln s,i,f,h=>rfl
 | .sq a b,i,f,h=>by
  simp only[Dt.hh,Ci] at h;simp only[Dt.bad,Jl (T:=a) h.1,Jl (T:=b) h.2];rfl
 | .ne n a,i,f,h=>by simp only[Dt.bad];exact Jl (T:=a) h
 | .al a,i,f,h| .gp a,i,f,h=>by simp only[Dt.bad];exact Jl (T:=a) h
def Dt.gh:Nat ->Dt ->List (Nat×Bool)
 |b,.sq u w=>gh b u++gh (b+u.sz) w
 |b,.ne _ u|b,.al u=>gh b u
 |b,.gp u=>(b+u.sz,u.hh)::gh b u
 |_,_=>[]
def Ee:∀(T:Dt) (b:Nat),(T.gh b).map Prod.fst=T.gl b
 | .tx s,b| .ln s,b| .hd,b=>rfl
 | .sq u w,b=>by simp only[Dt.gh,Dt.gl,kE,Ee u,Ee w]
 | .ne _ u,b| .al u,b=>by simp only[Dt.gh,Dt.gl];exact Ee u b
 | .gp u,b=>by simp only[Dt.gh,Dt.gl,jY,Ee u]
def Jm {fl:Nat ->Bool}:∀{T:Dt} {b:Nat},(∀p∈T.gh b,fl p.1=true ->p.2=false) ->T.bad fl b false=false
 | .tx s,b,h| .ln s,b,h| .hd,b,h=>rfl
 | .sq u w,b,h=>by
  simp only[Dt.bad,Jm (T:=u) λp j=>h p (xI _ j),Jm (T:=w) λp j=>h p (FI _ j)];rfl
 | .ne _ u,b,h| .al u,b,h=>by simp only[Dt.bad];exact Jm (T:=u) h
 | .gp u,b,h=>by
  simp only[Dt.bad,zC];have h1:=h _ jG;dsimp only at h1;cases A:fl (b+u.sz) with
  |true=>exact Jl (h1 A)
  |false=>exact Jm λp j=>h p (jw _ j)
def gk (h:AH) (v:AV) (n esz:Nat) (cs:List AV):Prop:=(v= .sn/\ n=0/\ cs=[])∨∃q c,v= .sl q 0 n c esz/\ (c=none∨c=some 0/\ n=0)/\ q<h.next/\ cG (h.oB.get q)=some cs/\ cs.length=n*esz
def gk.up {h h' v n esz cs} (H:gk h v n esz cs) (A:h.next<=h'.next) (old:∀j,j<h.next ->h'.oB.get j=h.oB.get j):gk h' v n esz cs:=
 H.imp id λ⟨q,c,a,b,d,e,f⟩=>⟨q,c,a,b,iR d A,(congrArg cG (old q d)).trans e,f⟩
def gk.nice {h v n esz cs} (H:gk h v n esz cs):AM.nice 64 v=true/\ ew v=true/\ cellsOf v=[v]/\ cellsO v=some [v]/\∀h,kg h v= .v (ι (n:Int)) h:=by
 rcases H with ⟨rfl,rfl,rfl⟩|⟨q,c,rfl,j,-⟩;exact⟨rfl,rfl,rfl,rfl,λ_=>rfl⟩;exact⟨by cases c<;>rfl,rfl,rfl,rfl,λ_=>rfl⟩
variable {h:AH}
def gk.app {v:AV} {n esz:Nat} {cs:List AV} (H:gk h v n esz cs) {x:AV} {m:Nat} {new:List AV} (h1:ij x=some m) (h2:eI h esz x=some new) (O:new.length=m*esz) (hs:wV new=true) (hn:n+m<=1048576):
 ∃v' h',gU h esz v x= .v v' h'/\ gk h' v' (n+m) esz (cs++new)/\ h.next<=h'.next/\ (∀j,j<h.next ->(∀n c,v≠.sl j 0 n c esz) ->h'.oB.get j=h.oB.get j)/\ (m=0/\ v'=v∨m≠0/\ v'≠.sn):=by
 have e0:gU h esz v x=gD h v m new esz:=by
  show(match ij x,eI h esz x with|some n',some l=>gD h v n' l esz|_,_=> .bad)=_;rw[h1,h2]
 rw[e0];rcases m with _|m;have V:new=[]:=pM (by rw[O,ue]);subst V;refine⟨v,h,?_,by rw[lG];exact H,bB _,λ_ _ _=>rfl,.inl ⟨rfl,rfl⟩⟩;rcases H with ⟨rfl,-⟩|⟨q,c,rfl,-⟩<;>rfl;obtain⟨nx,v0,ob⟩:=h;rcases H with ⟨rfl,rfl,rfl⟩|⟨q,c,rfl,Y,Z,W,U⟩;refine⟨.sl nx 0 (m+1) none esz,⟨nx+1,v0,ob.put nx (.cells v0 new)⟩,?_,.inr ⟨nx,none,by rw[gB],.inl rfl,qI _,?_,by rw[gx,O,gB]⟩,nD _,λj J _=> ?_,.inr ⟨Nat.succ_ne_zero _,λh=>by cases h⟩⟩;show(bif Nat.ble (m+1) 1048576&&wV new then AH.new ⟨nx,v0,ob⟩ (.cells v0 new) λo h=>fN (m+1) λn=>da.v (.sl o 0 n none esz) h else .bad)=_;have hb:Nat.ble (m+1) 1048576=true:=by rw[wX];simp;omega
 rw[hb,hs,AH.new_eq,dT];rfl;show cG (T.get (T.put ob nx _) nx)=_;rw[T.get_put,aF rfl];rfl;show T.get (T.put ob nx _) j=_;rw[T.get_put,aD (by have h:j<nx:=J;omega)];have hb:Nat.ble (n+(m+1)) 1048576=true:=by rw[wX];simp;omega
 have bT:cG (ob.get q)=some cs:=W;have G:AH.cells ⟨nx,v0,ob⟩ q=some cs:=by rw[wG];exact W
 have b0:q<nx:=Z;rcases Y with rfl|⟨rfl,rfl⟩;refine⟨.sl nx 0 (n+(m+1)) none esz,⟨nx+1,v0+1,(ob.put q .gone).put nx (.cells (v0+1) (cs++new))⟩,?_,.inr ⟨nx,none,rfl,.inl rfl,qI _,?_,by rw[dy,U,O,←nq]⟩,nD _,λj J hv=> ?_,.inr ⟨Nat.succ_ne_zero _,λh=>by cases h⟩⟩;show(match AH.cells ⟨nx,v0,ob⟩ q with
  |none=>da.bad
  |some l=>fN (n+(m+1)) λA=>bif !(Nat.beq esz esz&&(Nat.ble A 1048576&&wV new)) then .bad else
   match sub l 0 (n*esz) with
   |some old=>(match fy old new with
    |some l=>AH.put ⟨nx,v0,ob⟩ q .gone λh=>h.new (.cells h.ver l) λo h=> .v (.sl o 0 A none esz) h
    |none=> .bad)
   |none=> .bad)=_
 rw[G];simp only[dT,hb,hs,bu,mC,A7,jk,eU,mM U,jz,AH.put_eq,AH.new_eq];show cG (T.get (T.put _ nx _) nx)=_;rw[T.get_put,aF rfl];rfl;show T.get (T.put (T.put ob q _) nx _) j=_;rw[T.get_put,aD (by have h:j<nx:=J;omega),T.get_put,aD λe=>hv n none (by rw[e])];have V:cs=[]:=pM (by rw[U,ue]);subst V;refine⟨.sl nx 0 (m+1) none esz,⟨nx+1,v0,ob.put nx (.cells v0 new)⟩,?_,.inr ⟨nx,none,by rw[gB],.inl rfl,qI _,?_,by rw[gx,O,gB]⟩,nD _,λj J _=> ?_,.inr ⟨Nat.succ_ne_zero _,λh=>by cases h⟩⟩;show(match AH.cells ⟨nx,v0,ob⟩ q with
  |none=>da.bad
  |some l=>fN (0+(m+1)) λA=>bif !(Nat.beq esz esz&&(Nat.ble A 1048576&&wV new)) then .bad else
   bif Nat.ble A 0 then
    match eL new l (0+0*esz) with
    |some l'=>AH.put ⟨nx,v0,ob⟩ q (.cells (Nat.succ v0) l') λh=> .v (.sl q 0 A (some 0) esz) h
    |none=> .bad
   else match sub l 0 (0*esz) with
    |some old=>(match fy old new with
     |some l=>AH.new ⟨nx,v0,ob⟩ (.cells v0 l) λo h=> .v (.sl o 0 A none esz) h
     |none=> .bad)
    |none=> .bad)=_
 have z:sub ([]:List AV) 0 0=some []:=rfl;rw[gB] at hb;have q0:Nat.ble (m+1) 0=false:=rfl;rw[G];simp only[dT,gB,hb,hs,bu,mC,A7,jk,eU,q0,ue,z,jz,gx,AH.new_eq];show cG (T.get (T.put ob nx _) nx)=_;rw[T.get_put,aF rfl];rfl;show T.get (T.put ob nx _) j=_;rw[T.get_put,aD (by have h:j<nx:=J;omega)]
def gk.deep {α:Type} {enc:α ->List AV} {v:AV} {k:Nat} {L:List α} (H:gk h v L.length k (L.flatMap enc)) (A:v≠.sn) {m:Nat} (hd:∀a,bJ m h (enc a)=some (enc a)):AM.deep (m+1) h v=some (eR enc k false L):=by
 rcases H with ⟨h,-⟩|⟨q,c,rfl,-,-,j,-⟩;exact bh h A;rw[gA j (qZ hd L)];cases L<;>rfl
section
variable {α:Type} {enc:α ->List AV} (he:∀a,(enc a).length=1) (hs:∀a,wV (enc a)=true) {h:AH} {v:AV} {L:List α}
include he hs
theorem gk.appD (H:gk h v L.length 1 (L.flatMap enc)) {g:List α} (A:L.length+g.length<=1048576):
 ∃v' h',gU h 1 v (.ds (g.flatMap enc) 0 g.length 1)= .v v' h'/\ gk h' v' (L++g).length 1 ((L++g).flatMap enc)/\ h.next<=h'.next/\ (∀j,j<h.next ->(∀n c,v≠.sl j 0 n c 1) ->h'.oB.get j=h.oB.get j)/\ (g.length=0/\ v'=v∨g.length≠0/\ v'≠.sn):=by
 have:=H.app (x:= .ds (g.flatMap enc) 0 g.length 1) (m:=g.length) (new:=g.flatMap enc) rfl (JW (mM (by rw[kh he]))) (kh he g) (w7 hs g) A
 rwa [dy,Bd]
theorem gk.app1 (H:gk h v L.length 1 (L.flatMap enc)) {o:Nat} {c} {a:α} (U:cG (h.oB.get o)=some (enc a)) (O:L.length+1<=1048576):
 ∃v' h',gU h 1 v (.sl o 0 1 c 1)= .v v' h'/\ gk h' v' (L++[a]).length 1 ((L++[a]).flatMap enc)/\ h.next<=h'.next/\ (∀j,j<h.next ->(∀n c,v≠.sl j 0 n c 1) ->h'.oB.get j=h.oB.get j)/\ v'≠.sn:=by
 have e:eI h 1 (.sl o 0 1 c 1)=some (enc a):=by
  show(match AH.cells h o with|some l=>AM.sub l 0 (1*1)|none=>none)=_;rw[show AH.cells h o=cG (h.oB.get o) from wG,U];exact mM (he a)
 obtain⟨v',h',h1,h2,A,G,J⟩:=H.app (x:= .sl o 0 1 c 1) (m:=1) (new:=enc a) rfl e (he a) (hs a) O;refine⟨v',h',h1,?_,A,G,?_⟩;rw[dy,Bd];simpa using h2;rcases J with ⟨h,-⟩|⟨-,h⟩;cases h;exact h
end
def bn6 (GL:T (List AV)):(List.range 7).all (λk=>gM GL aG (λ_ _=>none) 1000 115 [.i .i64 (.ofNat k)] (ι (.ofNat (bif Nat.ble k 2 then 0 else bif Nat.beq k 3 then 2 else 1))))=true:=lR
def uI (n:Nat) (u:Nat ->Bool):List AV:=(List.range n).map λj=> .i .i64 (if u j then 1 else 0)
def P0 {n} {u:Nat ->Bool} {j} (h:j<n):AM.sub (uI n u) j 1=some [.i .i64 (if u j then 1 else 0)]:=qY (by unfold uI;rw[oh,List.getElem?_range h];rfl)
def R4 {n u j} (h:j<n):eL [.i .i64 1] (uI n u) j=some (uI n (Ig u j)):=by
 rw[Rr (by unfold uI;rw[kU,List.length_range];exact h)];congr 1;refine xz λi=> ?_;unfold uI;rw[xF,kU,List.length_range,oh,oh];by_cases e:j=i;subst e;rw[aF rfl,aF h,List.getElem?_range h];show _=some (AV.i .i64 (if (if j=j then true else u j)=true then 1 else 0));rw[aF rfl,aF rfl];rw[aD e];by_cases hi:i<n;rw[List.getElem?_range hi];show _=some (AV.i .i64 (if (if i=j then true else u i)=true then 1 else 0));rw[aD (show¬i=j from λq=>e q.symm)];rfl;rw[rI (by rw[List.length_range];omega)];rfl
def br1 (n:Nat):(List.replicate n [AV.i .i64 0]).flatten=uI n λ_=>false:=by
 unfold uI;rw[List.map_const',List.length_range];induction n with
 |zero=>rfl
 |succ n j=>rw[uc,vD,j,uc];rfl
section
variable {P:Program} {X:aR} {GL:T (List AV)} {ae:T au} (S:aT P X GL ae) (F:bz8 ae)
include S F
theorem P1 {k:Nat} (j:k<=6) h:bP P X GL 115 [.i .i64 (k:Int)] h (ι (DU k:Int)) h:=by
 have:=fX.1 (bn6 GL) k (mA.2 ω);refine dR S (hY F iE (n:=1000) ?_) (n:=9) (by simp only[aL,bZ,dH]) h;rcases(show k=0∨k=1∨k=2∨k=3∨k=4∨k=5∨k=6 by omega) with rfl|rfl|rfl|rfl|rfl|rfl|rfl<;>exact this
theorem br2 {D:List Dn} {nl:Bool} {i:Nat} {d:Dn} {u u1:Nat ->Bool} (hd:D[i]? =some d) (hs:A6 d.s) (st:RW d i u u1) (hD:D.length<=65536) h:bP P X GL 114 [eR yV 5 nl D,.i .i64 (i:Int)] h (.b true) h:=by
 have cd:∀{n:Nat} {h:AH} (d:Dn),bJ n h (yV d)=some (yV d):=λd=>by simp only[yV,aL,bZ,dH,oK]
 refine dR S (n:=9) ?_ (by simp only[aL,bZ,eu (n:=8) cd,dH]) h;refine bg.intro λC E=> ?_;have hi:=(eC.1 hd).1;have e5:AM.sub (D.flatMap yV) (i*5) 5=some (yV d):=cW bS6 hd (j:=0) (n:=5) ω;have Ff:nice 64 (eR yV 5 nl D)=true:=A4 bY0;have dk:∀k,nice 64 (.dp (D.flatMap yV) k)=true:=λk=>by rw[fK,fE bY0]
 obtain⟨Z,s1,Y,G,W⟩:=st;have oc:=λh=>P1 S F Z h;have tb:∀b∈d.s,b<256/\ b≠10:=by
  rcases fO.1 hs with h|h;exact(bU0 h).2;simp at h;rcases h with h|h<;>rw[h]<;>simp
 obtain⟨k,s,n,a,b⟩:=d;dsimp only at Z s1 Y G W tb oc;simp only[yV] at e5;have sl:=RZ hs;dsimp only at sl;have tl:∀j,j<s.length ->∃c,s[j]? =some c/\ ((c:Int)=10)=False:=λj O=>⟨s[j],ef O,dQ (by have:=tb _ (List.getElem_mem O);omega)⟩;have go:∀{bs:Bool} {H:Nat},aY .neq (.s s) (.s [])=some (.b bs) ->DU k=H ->(bs=false∨bs=true/\ k=0∨bs=true/\ k=1) ->(n=0∨k=4) ->(H=0/\ a=0/\ b=0∨H=1/\ a<i/\ b=0∨H=2/\ a<i/\ b<i) ->du C 114 [eR yV 5 nl D,.i .i64 (i:Int)] h0 λv h=>∃n,deep n h v=some (.b true):=λ{bs H} e ha hb hn hab=>by
  refine E.bS (F.g 114 aH9) (Z6 @aH9.eq_1 Ff hi e5 dk @bG ?_);refine E.cN (oc _) ?_;rw[ha];rcases hb with rfl|⟨rfl,rfl⟩|⟨rfl,rfl⟩;all_goals
   refine Z2 e (show((1:Nat):Int)=1 from rfl) ?_;refine fj E.ok s.length (λj τ h=>∃v' ob',h=⟨1,v',ob'⟩/\ cG (T.get ob' 0)=some [.i .i64 _,.s s,.i .i64 (n:Int),.i .i64 (a:Int),.i .i64 (b:Int)]/\ τ.get 0=some (eR yV 5 nl D)/\ τ.get 1=some (ι (i:Int))/\ τ.get 5=some (.p 0 0)/\ τ.get 6=some (ι (H:Int))/\ τ.get 7=some (ι (j:Int))) ?_ ?_ _ _ ⟨_,_,rfl,by exact U0,?_,?_,?_,?_,?_⟩;rintro j τ _ O ⟨v',ob',rfl,c0,t0,t1,t5,t6,t7⟩ ih;obtain⟨c,hc,J⟩:=tl j O;have V:((j:Int)<(s.length:Int))=True:=cJ;have ix:∀(τ:T AV) h,az C τ (.t 40)= .s s ->az C τ (.t 41)= .i .i64 (j:Int) ->step (az C τ) h (.idxs (.t 40) (.t 41))= .v (.i .u8 (c:Int)) h:=λτ h h1 h2=>bZ4 h1 h2 hc;refine qX c0 t0 t1 t5 t6 t7 V ix J @bK ?_;refine ih _ _ ⟨v',ob',rfl,c0,?_,?_,?_,?_,?_⟩;exact U1 t0;exact U1 t1;exact U1 t5;exact U1 t6;exact U0
   ·rintro τ _ ⟨v',ob',rfl,c0,t0,t1,t5,t6,t7⟩;rcases hn with rfl|hk<;>rcases hab with ⟨rfl,rfl,rfl⟩|⟨rfl,U,rfl⟩|⟨rfl,U,b0⟩
    all_goals (try (cases hk;done))
    all_goals
     refine Z6 c0 t0 t1 t5 t6 t7 ?_;first|exact⟨1,rfl⟩|(split<;>exact⟨1,rfl⟩)
   all_goals exact U0
 by_cases A:s=[];have e:aY .neq (.s s) (.s [])=some (.b false):=by rw[A];rfl
 exact go e rfl (.inl rfl) Y (W.imp (λh=>⟨h.1,h.2.1,h.2.2.1⟩) λh=>h.imp (λh=>⟨h.1,h.2.1,h.2.2.2.1⟩) λh=>⟨h.1,h.2.1,h.2.2.2.1⟩);have e:aY .neq (.s s) (.s [])=some (.b true):=by rw[aP1,ot A];rfl
 exact go e rfl (.inr ((show k=0∨k=1 by have:=s1.resolve_left A;omega).imp (λh=>⟨rfl,h⟩) λh=>⟨rfl,h⟩)) Y (W.imp (λh=>⟨h.1,h.2.1,h.2.2.1⟩) λh=>h.imp (λh=>⟨h.1,h.2.1,h.2.2.2.1⟩) λh=>⟨h.1,h.2.1,h.2.2.2.1⟩)
theorem bx0 {W:Dt} (hT:W.fit A6) (hz:W.sz<=65536) {nl:Bool} h:bP P X GL 70 [eR yV 5 nl (W.po 0)] h (ι 0) h:=by
 have cd:∀{n:Nat} {h:AH} (d:Dn),bJ n h (yV d)=some (yV d):=λd=>by simp only[yV,aL,bZ,dH,oK]
 refine dR S (n:=9) ?_ (by simp only[aL,bZ,eu (n:=8) cd]) h;refine bg.intro λC E=> ?_;have lD:=W.po_len 0;have V:=Qr W 0 (λ_=>false) hT λ_ _ _=>rfl;have b0:=QP (A:=A6) (by unfold A6;simp) W 0 hT;generalize W.po 0=D at*;have zp:=W.sz_pos;generalize hv:Eg (λ_=>false) 0 (0+W.sz-1)=v at V;have vt:∀j,j<D.length-1 ->v j=true:=λj hj=>by
  rw[←hv];show(false||decide (0<=j/\ j<0+W.sz-1))=true;rw[zG ω];rfl
 have Ff:nice 64 (eR yV 5 nl D)=true:=A4 bY0;have dk:∀k,nice 64 (.dp (D.flatMap yV) k)=true:=λk=>by rw[fK,fE bY0]
 have d1:((65536:Int)<(D.length:Int))=False:=cE;have d2:(D.length<=1048576)=True:=cJ;have d3:((D.length:Int)=0)=False:=cE;have ds:aY .sub (ι (D.length:Int)) (ι 1)=some (ι ((D.length-1:Nat):Int)):=qV (a:=D.length) (b:=1) ω;have one:((1:Nat):Int)=1:=rfl;refine E.bS (F.g 70 aH7) (Z7 @aH7.eq_1 @h0.eq_1 Ff d1 d2 @br1 @dw ?_);refine fj E.ok D.length (λi τ h=>∃u v',chk (D.drop i) i u v/\ h=⟨1,v',h.oB⟩/\ cG (h.oB.get 0)=some (uI D.length u)/\ τ.get 0=some (eR yV 5 nl D)/\ τ.get 3=some (.sl 0 0 D.length (some D.length) 1)/\ τ.get 4=some (ι (i:Int))) ?_ ?_ _ _
  ⟨λ_=>false,_,by rw[List.drop_zero];exact V,rfl,?_,?_,?_,?_⟩
 rintro i τ ⟨n1,v1,ob⟩ hi ⟨u,v',hc,he,c0,t0,t3,t4⟩ Y;cases he;dsimp only at c0;have hd:D[i]? =some D[i]:=ef hi;generalize D[i]=d at hd;obtain⟨u1,J,G⟩:=ce2 hd hc;have e1:AM.sub (D.flatMap yV) (i*5) 1=some [.i .i64 (d.k:Int)]:=by have:=cW bS6 hd (j:=0) (n:=1) ω;simpa[yV] using this
 have e3:AM.sub (D.flatMap yV) (i*5+3) 1=some [.i .i64 (d.a:Int)]:=by have:=cW bS6 hd (j:=3) (n:=1) ω;simpa[yV] using this
 have e4:AM.sub (D.flatMap yV) (i*5+4) 1=some [.i .i64 (d.b:Int)]:=by have:=cW bS6 hd (j:=4) (n:=1) ω;simpa[yV] using this
 have H:((i:Int)<(D.length:Int))=True:=cJ;have vc:=λh=>br2 S F (nl:=nl) hd (b0 d (dI hd)) J ω h;have Z:=λh=>P1 S F J.1 h;obtain⟨k6,U,n4,b2,hu⟩:=J;refine Z6 t0 t3 t4 H Ff @dw ?_;refine E.cN (vc _) (Z7 t0 t3 t4 hi e1 Ff @bG ?_);refine E.cN (Z _) ?_;rcases hu with ⟨ar,ha,hb,rfl⟩|⟨ar,ha,O,hb,rfl⟩|⟨ar,ha,O,hb,b1,rfl⟩<;>rw[ar] at Z ⊢;refine Z8 t0 t3 t4 hi e1 Ff yJ @bG ?_;refine E.cN (Z _) (Z5 t0 t3 t4 yJ @bK ?_);refine Y _ _ ⟨_,_,G,rfl,c0,?_,?_,?_⟩;exact U1 t0;exact U1 t3;exact U0;have U:=P0 (u:=u) (show d.a<D.length by omega);have s2:=R4 (u:=u) (show d.a<D.length by omega);rw[O] at U;refine lX t0 t3 t4 hi e1 e3 Ff one c0 U s2 @bG ?_;refine E.cN (Z _) (Z5 t0 t3 t4 one @bK ?_);refine Y _ _ ⟨_,_,G,rfl,?_,?_,?_,?_⟩;exact U0;exact U1 t0;exact U1 t3;exact U0;have U:=P0 (u:=u) (show d.a<D.length by omega);have s2:=R4 (u:=u) (show d.a<D.length by omega);have s3:=P0 (u:=Ig u d.a) (show d.b<D.length by omega);have s4:=R4 (u:=Ig u d.a) (show d.b<D.length by omega);have two:((2:Nat):Int)=2:=rfl;rw[O] at U;rw[b1] at s3;refine lX t0 t3 t4 hi e1 e3 Ff two c0 U s2 @bG ?_;refine E.cN (Z _) (sC t0 t3 t4 hi e4 Ff two s3 s4 @bG @bK ?_);refine Y _ _ ⟨_,_,G,rfl,?_,?_,?_,?_⟩;exact U0;exact U1 t0;exact U1 t3;exact U0;rintro τ ⟨n1,v1,ob⟩ ⟨u,v',hc,he,c0,t0,t3,t4⟩;cases he;dsimp only at c0;rw[List.drop_length] at hc;obtain rfl:u=v:=hc;refine Z5 t0 t3 t4 Ff @dw ?_;refine fj E.ok (D.length-1) (λi τ h=>h=⟨1,v1,ob⟩/\ τ.get 0=some (eR yV 5 nl D)/\ τ.get 3=some (.sl 0 0 D.length (some D.length) 1)/\ τ.get 5=some (ι (i:Int))) ?_ ?_ _ _ ⟨rfl,?_,?_,?_⟩;rintro i τ _ hi ⟨rfl,t0,t3,t5⟩ Y;have H:((i:Int)<((D.length-1:Nat):Int))=True:=cJ;have e1:=P0 (u:=u) (show i<D.length by omega);rw[vt i hi] at e1;refine qX t0 t3 t5 H ds c0 e1 Ff @dw @bK ?_;refine Y _ _ ⟨rfl,?_,?_,?_⟩;exact U1 t0;exact U1 t3;exact U0;rintro τ _ ⟨rfl,t0,t3,t5⟩;refine Z7 t0 t3 t5 ds d3 Ff @dw ?_;exact⟨1,rfl⟩;exact U1 t0;exact U1 t3;exact U0;all_goals exact U0
end
def Ij {n:Nat} (d:Dn):bJ n h (yV d)=some (yV d):=by simp only[yV,aL,bZ,dH,oK]
def P8 {n:Nat} (a:Nat):bJ n h (iv a)=some (iv a):=by simp only[iv,aL,bZ,dH]
def Ik {α:Type} {enc:α ->List AV} {k:Nat} (L:List α):eR enc k false L= .ds (L.flatMap enc) 0 L.length k:=by cases L<;>rfl
section
variable {P:Program} {X:aR} {GL:T (List AV)} {ae:T au} (S:aT P X GL ae) (F:bz8 ae)
include S F
theorem P9 {D:List Dn} {nl:Bool} {i:Nat} {d:Dn} (hd:D[i]? =some d) (k6:d.k<=6) {g1 g2:List Nat} (hg:g1.length+g2.length<=1000000)
 (r1:1<=DU d.k ->∀h,bP P X GL 71 [eR yV 5 nl D,.i .i64 (d.a:Int)] h (eR iv 1 false g1) h) (r2:DU d.k=2 ->∀h,bP P X GL 71 [eR yV 5 nl D,.i .i64 (d.b:Int)] h (eR iv 1 false g2) h) (h):
 bP P X GL 71 [eR yV 5 nl D,.i .i64 (i:Int)] h (eR iv 1 false ((if d.k=6 then [i] else [])++(if DU d.k=0 then [] else g1)++(if DU d.k=2 then g2 else []))) h:=by
 refine dR S (n:=9) ?_ (by simp only[aL,bZ,eu (n:=8) (Ij (n:=8)),dH]) h;refine bg.intro λC E=> ?_;have hi:=(eC.1 hd).1;have e1:AM.sub (D.flatMap yV) (i*5) 1=some [.i .i64 (d.k:Int)]:=by have:=cW bS6 hd (j:=0) (n:=1) ω;simpa[yV] using this
 have e3:AM.sub (D.flatMap yV) (i*5+3) 1=some [.i .i64 (d.a:Int)]:=by have:=cW bS6 hd (j:=3) (n:=1) ω;simpa[yV] using this
 have e4:AM.sub (D.flatMap yV) (i*5+4) 1=some [.i .i64 (d.b:Int)]:=by have:=cW bS6 hd (j:=4) (n:=1) ω;simpa[yV] using this
 have Ff:nice 64 (eR yV 5 nl D)=true:=A4 bY0;have H:∀k,nice 64 (.dp (D.flatMap yV) k)=true:=λk=>by rw[fK,fE bY0]
 have J:=λh=>P1 S F k6 h;have one:((1:Nat):Int)=1:=rfl;have two:((2:Nat):Int)=2:=rfl;have H0:∀{ob:T bC} {v nx},0<nx ->cG (ob.get 0)=some [] ->gk ⟨nx,v,ob⟩ (.sl 0 0 0 (some 0) 1) ([]:List Nat).length 1 (([]:List Nat).flatMap iv):=λhn h=> .inr ⟨0,some 0,rfl,.inr ⟨rfl,rfl⟩,hn,h,rfl⟩;simp only[Ik (enc:=iv)] at r1 r2 ⊢;rw[E.cB (F.g 71 RP)];by_cases O:d.k=6;have kk:((d.k:Int)=6)=True:=cJ;have G:DU d.k=1:=by rw[O];rfl
 rw[G,aF O,aD (by decide),aD (by decide),lG];rw[G] at J;obtain⟨v1,⟨n1,w1,aQ⟩,a1,H1,-,-,nz⟩:=gk.app1 (enc:=iv) (λ_=>rfl) (λ_=>rfl) (H0 (ob:=(T.e.put 0 (.cells 0 [])).put 1 (.cells 0 [.i .i64 (i:Int)])) (v:=0) (nx:=2) ω rfl) (o:=1) (c:=some 1) (a:=i) rfl (by show 0+1<=_;omega);obtain⟨v2,⟨Y,Z,W⟩,a2,H2,-,-,A⟩:=gk.appD (λ_=>rfl) (λ_=>rfl) H1 (g:=g1) (by show 1+_<=_;omega);have U:v2≠.sn:=A.elim (λh=>h.2▸nz) And.right;refine qX @RP.eq_1 @h0.eq_1 Ff hi e1 kk H @bG @tM a1 ?_;refine E.cN (J _) (Z6 Ff hi e3 H one @bG ?_);refine E.cN (r1 (by rw[G];decide) _) (Z7 Ff hi e1 H @bG @tM a2 ?_);refine E.cN (J _) (Z1 one ?_);exact⟨_,(H2.deep U (m:=9) P8).trans (by rw[Ik];rfl)⟩;have kk:((d.k:Int)=6)=False:=cE;rw[aD O,gx];refine Z8 @RP.eq_1 @h0.eq_1 Ff hi e1 kk H @bG ?_;refine E.cN (J _) ?_;rcases(show DU d.k=0∨DU d.k=1∨DU d.k=2 by unfold DU;split;exact .inl rfl;split;exact .inr (.inr rfl);exact .inr (.inl rfl)) with G|G|G<;>rw[G] at J ⊢;refine Z6 Ff hi e1 H yJ @bG ?_;refine E.cN (J _) (Z1 yJ ?_);exact⟨2,rfl⟩;obtain⟨v2,⟨Y,Z,W⟩,a2,H2,-,-,A⟩:=gk.appD (λ_=>rfl) (λ_=>rfl) (H0 (ob:=T.e.put 0 (.cells 0 [])) (v:=0) (nx:=1) ω rfl) (g:=g1) (by show 0+_<=_;omega);have U:v2≠.sn:=A.elim (λh=>h.2▸λh=>by cases h) And.right;refine Z6 Ff hi e3 H one @bG ?_;refine E.cN (r1 (by rw[G];decide) _) (Z7 Ff hi e1 H @bG @tM a2 ?_);refine E.cN (J _) (Z1 one ?_);exact⟨_,(H2.deep U (m:=9) P8).trans (by rw[Ik];simp)⟩;obtain⟨v2,⟨Y,Z,W⟩,a2,H2,-,-,A⟩:=gk.appD (λ_=>rfl) (λ_=>rfl) (H0 (ob:=T.e.put 0 (.cells 0 [])) (v:=0) (nx:=1) ω rfl) (g:=g1) (by show 0+_<=_;omega);have U:v2≠.sn:=A.elim (λh=>h.2▸λh=>by cases h) And.right;obtain⟨v3,⟨n3,w3,cC⟩,a3,H3,-,-,V⟩:=gk.appD (λ_=>rfl) (λ_=>rfl) H2 (g:=g2) (by simp;omega);have q3:v3≠.sn:=V.elim (λh=>h.2▸U) And.right;refine Z6 Ff hi e3 H two @bG ?_;refine E.cN (r1 (by rw[G];decide) _) (Z7 Ff hi e1 H @bG @tM a2 ?_);refine E.cN (J _) (Z6 Ff hi e4 H two @bG ?_);refine E.cN (r2 G _) (Z2 @tM a3 ?_);exact⟨_,(H3.deep q3 (m:=9) P8).trans (by rw[Ik];simp)⟩
theorem by3 {D:List Dn} {nl:Bool}:∀(T:Dt) {b:Nat},Jw D b (T.po b) ->T.sz<=65536 ->∀h,bP P X GL 71 [eR yV 5 nl D,.i .i64 ((b+T.sz-1:Nat):Int)] h (eR iv 1 false (T.gl b)) h:=by
 intro T;induction T with
 |tx s|ln s|hd=>
  intro b j _ h;have:=P9 S F (nl:=nl) (g1:=[]) (g2:=[]) (by have:=j 0 (by simp[Dt.po]);simpa[Dt.po] using this) (FT rfl) (by decide) (λq=>by cases q) (λq=>by cases q) h;simpa[Dt.sz,DU,Dt.gl] using this
 |sq u w A J=>
  intro b j G h;have h1:=j.one;rw[dy,Dt.po_len,Dt.po_len,←pK] at h1;have H:=j.l.r;rw[Dt.po_len] at H;simp only[Dt.sz] at G;have:=P9 S F (nl:=nl) (g1:=u.gl b) (g2:=w.gl (b+u.sz)) h1 (FT rfl) (by have:=u.gl_len b;have:=w.gl_len (b+u.sz);omega) (λ_=>A j.l.l ω) (λ_=>J H ω) h;rw[show b+(u.sq w).sz-1=b+u.sz+w.sz by simp only[Dt.sz];omega];simpa[DU,Dt.gl] using this
 |ne m u A|al u A=>
  intro b j G h;have h1:=j.one;rw[Dt.po_len] at h1;simp only[Dt.sz] at G;have:=P9 S F (nl:=nl) (g1:=u.gl b) (g2:=[]) h1 (FT rfl) (by have:=u.gl_len b;simp;omega) (λ_=>A j.l ω) (λq=>by cases q) h;simpa[DU,Dt.gl,Dt.sz,←pK] using this
 |gp u A=>
  intro b j G h;have h1:=j.one;rw[Dt.po_len] at h1;simp only[Dt.sz] at G;have:=P9 S F (nl:=nl) (g1:=u.gl b) (g2:=[]) h1 (FT rfl) (by have:=u.gl_len b;simp;omega) (λ_=>A j.l ω) (λq=>by cases q) h;simpa[DU,Dt.gl,Dt.sz,←pK] using this
theorem aM7 {W:Dt} (J:W.fit A6) (A:W.sz<=65536) {nl:Bool} h:bP P X GL 36 [eR yV 5 nl (W.po 0)] h (.tu [eR iv 1 false (W.gl 0),.i .i64 0]) h:=by
 refine dR S (n:=9) ?_ (by simp only[aL,bZ,eu (n:=8) (Ij (n:=8))]) h;refine bg.intro λC E=> ?_;have cc:=λh=>bx0 S F J A (nl:=nl) h;have G:=λh=>by3 S F (D:=W.po 0) (nl:=nl) W (b:=0) (λj _=>by rw[gB]) A h;have O:=W.sz_pos;rw[gB] at G;have ds:aY .sub (ι (W.sz:Int)) (ι 1)=some (ι ((W.sz-1:Nat):Int)):=qV (a:=W.sz) (b:=1) ω;have Ff:nice 64 (eR yV 5 nl (W.po 0))=true:=A4 bY0;have H:nice 64 (eR iv 1 false (W.gl 0))=true:=A4 λ_=>rfl;refine E.bS (F.g 36 Q4) (Z2 @Q4.eq_1 Ff ?_);refine E.cN (cc _) (Z4 Ff (W.po_len 0) ds @dw ?_);refine E.cN (G _) (Z1 H ?_);refine⟨9,?_⟩;show(match bJ 8 _ [eR iv 1 false (W.gl 0),.i .i64 0] with|some l=>some (AV.tu l)|none=>none)=_;rw[aL,aL,bZ,dH,eu (n:=7) P8]
end
def aM8 {a b:List Nat} (h:a.length<=1048576/\ b.length<=1048576):aY .add (.s a) (.s b)=some (.s (a++b)):=by
 show(bif Nat.ble (len a) 1048576&&Nat.ble (len b) 1048576 then (match fy a b with|some l=>some (AV.s l)|none=>none) else none)=_;have h1:Nat.ble (len a) 1048576=true:=by rw[kZ,wX];simpa using h.1
 have h2:Nat.ble (len b) 1048576=true:=by rw[kZ,wX];simpa using h.2
 rw[h1,h2,jz];rfl
def bB1 {ev:MA ->AV} {x a b} {s:List Nat} {i c:Nat} (h1:ev x= .s s) (h2:ev a= .i .i64 (i:Int)) (j:ev b= .i .i64 ((i+1:Nat):Int)) (hs:s[i]? =some c):step ev h (.slcs x (some a) (some b))= .v (.s [c]) h:=by
 have hi:=(eC.1 hs).1;show(match ev x with
  | .s s=>match d7 (len s) (len s) (nO ev (some a)) (nO ev (some b)) none with
   |some (l,r,_)=>(match AM.sub s l (r-l) with|some t=>da.v (.s t) h|none=> .bad)
   |none=> .bad
  |_=> .bad)=_
 rw[h1];dsimp only;have e:d7 (len s) (len s) (nO ev (some a)) (nO ev (some b)) none=some (i,i+1,s.length):=by
  rw[uP,uP,h2,j,kZ];show(bif Nat.ble s.length s.length&&Nat.ble (i+1) s.length&&Nat.ble i (i+1) then some (i,i+1,s.length) else none)=_;have A:Nat.ble s.length s.length=true:=by rw[wX];simp
  have G:Nat.ble (i+1) s.length=true:=by rw[wX];simp;omega
  have H:Nat.ble i (i+1)=true:=by rw[wX];simp
  rw[A,G,H];rfl
 rw[e];dsimp only;rw[Nat.add_sub_cancel_left,nH,aF ω,Lr hi,(eC.1 hs).2];rfl
def bB4 {s:List Nat} {i c:Nat} (h:s[i]? =some c):dn (s.take (i+1))=dn (s.take i)++(if c≠32/\ c≠10 then [c] else []):=by
 rw[List.take_succ,h,Jd];congr 1;show List.filter _ [c]=_;rw[Fx];by_cases h1:c=32;subst h1;rfl;by_cases h2:c=10;subst h2;rfl;simp[h1,h2]
section
variable {P:Program} {X:aR} {GL:T (List AV)} {ae:T au} (S:aT P X GL ae) (F:bz8 ae)
include S F
theorem aM9 {s:List Nat} (W:s.length<=1048576) h:bP P X GL 10 [.s s] h (.s (dn s)) h:=by
 refine dR S (n:=9) ?_ (by simp only[aL,bZ,oK]) h;refine bg.intro λC E=> ?_;refine E.bS (F.g 10 aH6) (Z1 @aH6.eq_1 ?_);refine fj E.ok s.length (λi τ h=>τ.get 0=some (.s s)/\ τ.get 3=some (.s (dn (s.take i)))/\ τ.get 4=some (ι (i:Int))) ?_ ?_ _ _ ⟨?_,?_,?_⟩;rintro i τ h hi ⟨t0,t3,t4⟩ H;have A:s[i]? =some s[i]:=ef hi;generalize s[i]=c at A;have j:((i:Int)<(s.length:Int))=True:=cJ;have J:∀(τ:T AV) h,az C τ (.t 11)= .s s ->az C τ (.t 12)= .i .i64 (i:Int) ->step (az C τ) h (.idxs (.t 11) (.t 12))= .v (.i .u8 (c:Int)) h:=λτ h h1 h2=>bZ4 h1 h2 A;have G:∀(τ:T AV) h,az C τ (.t 16)= .s s ->az C τ (.t 17)= .i .i64 (i:Int) ->step (az C τ) h (.idxs (.t 16) (.t 17))= .v (.i .u8 (c:Int)) h:=λτ h h1 h2=>bZ4 h1 h2 A;have sl:∀(τ:T AV) h,az C τ (.t 22)= .s s ->az C τ (.t 23)= .i .i64 (i:Int) ->az C τ (.t 25)= .i .i64 ((i+1:Nat):Int) ->step (az C τ) h (.slcs (.t 22) (some (.t 23)) (some (.t 25)))= .v (.s [c]) h:=λτ h h1 h2 V=>bB1 h1 h2 V A;have tk:=bB4 A;have U:aY .add (.s (dn (s.take i))) (.s [c])=some (.s (dn (s.take i)++[c])):=aM8 ⟨fJ (List.length_filter_le _ _) (by rw[jm];omega),by show 1<=_;omega⟩;by_cases h1:c=32;have w:((c:Int)=32)=True:=cJ;rw[aD λh=>h.1 h1,lG] at tk;refine Z7 t0 t3 t4 j J w @bK ?_;refine H _ _ ⟨?_,?_,?_⟩;exact U1 t0;rw[tk];exact U1 t3;exact U0;have w:((c:Int)=32)=False:=cE;by_cases h2:c=10;have O:((c:Int)=10)=True:=cJ;rw[aD λh=>h.2 h2,lG] at tk;refine Z9 t0 t3 t4 j J G w O @bK ?_;refine H _ _ ⟨?_,?_,?_⟩;exact U1 t0;rw[tk];exact U1 t3;exact U0;have O:((c:Int)=10)=False:=cE;rw[aF ⟨h1,h2⟩] at tk;refine sC t0 t3 t4 j J G sl U w O @bK ?_;refine H _ _ ⟨?_,?_,?_⟩;exact U1 t0;rw[tk];exact U0;exact U0;rintro τ h ⟨t0,t3,t4⟩;refine Z3 t0 t3 t4 ?_;rw[mR];exact⟨1,rfl⟩;(iterate 3 exact U0)
end
def kJ (b:Bool):List AV:=[.b b]
def Jn {n:Nat} (a:Bool):bJ n h (kJ a)=some (kJ a):=by simp only[kJ,aL,bZ,yW]
def oJ (gh:List (Nat×Bool)) (Fl:List Bool):List Bool:=gh.mapIdx λk p=>Fl[k]?.getD false&& !p.2
def fb (bits i:Nat):Bool:=decide (bits/2^(i%16)%2=1)
def bB5 {a k:Nat} (h:k<=16):aY .shr (.i .u16 (a:Int)) (.i .u64 (k:Int))=some (.i .u16 ((a/2^k:Nat):Int)):=by
 show ri .u16 (Int.ofNat (Nat.div a (Ih .u16 k)))=_;have e:Nat.ble k IntKind.u16.bits=true:=by rw[wX];simp;exact h
 unfold Ih;rw[e];exact wP
def bB6 {a:Nat} (h:a<65536):aY .and (.i .u16 (a:Int)) (.i .u16 1)=some (.i .u16 ((a%2:Nat):Int)):=by
 show(bif Nat.ble a (m6 .u16)&&Nat.ble 1 (m6 .u16) then ri .u16 (Int.ofNat (Nat.land a 1)) else _)=_;have e:(Nat.ble a (m6 .u16)&&Nat.ble 1 (m6 .u16))=true:=by
  have h1:a<=65535:=by omega
  rw[wX,wX];simp[m6,h1]
 have e2:Nat.land a 1=a%2:=Fu a;rw[e,e2];exact wP
section
variable {P:Program} {X:aR} {GL:T (List AV)} {ae:T au} (S:aT P X GL ae) (F:bz8 ae)
include S F
theorem R8 {D:List Dn} {nl:Bool} {i:Nat} {d:Dn} (hd:D[i]? =some d) (J:d.k<=6) {g1 g2:Bool}
 (r1:1<=DU d.k ->∀h,bP P X GL 72 [eR yV 5 nl D,.i .i64 (d.a:Int)] h (.b g1) h) (r2:DU d.k=2 ->∀h,bP P X GL 72 [eR yV 5 nl D,.i .i64 (d.b:Int)] h (.b g2) h) (h):
 bP P X GL 72 [eR yV 5 nl D,.i .i64 (i:Int)] h (.b (decide (d.k=2)||(decide (1<=DU d.k)&&g1||decide (DU d.k=2)&&g2))) h:=by
 refine dR S (n:=9) ?_ (by simp only[aL,bZ,eu (n:=8) Ij,dH]) h;refine bg.intro λC E=> ?_;have hi:=(eC.1 hd).1;have e5:AM.sub (D.flatMap yV) (i*5) 5=some (yV d):=cW bS6 hd (j:=0) (n:=5) ω;have Ff:nice 64 (eR yV 5 nl D)=true:=A4 bY0;have H:∀k,nice 64 (.dp (D.flatMap yV) k)=true:=λk=>by rw[fK,fE bY0]
 have O:=λh=>P1 S F J h;obtain⟨k,s,n,a,b⟩:=d;dsimp only at*;simp only[yV] at e5;refine E.bS (F.g 72 aH8) (Z6 @aH8.eq_1 Ff hi e5 H @bG ?_);refine E.cN (O _) ?_;rcases(show k<=1∨k=2∨k=3∨4<=k by omega) with hk|rfl|rfl|hk;have G:DU k=0:=by unfold DU;rw[aF ω]
 have w:((k:Int)=2)=False:=cE;rw[G];refine Z2 w yJ ?_;exact⟨1,rfl⟩;refine Z3 (show DU 2=0 from rfl) yJ (show((2:Nat):Int)=2 from rfl) ?_;exact⟨1,rfl⟩;have w:(((3:Nat):Int)=2)=False:=by decide
 have A:((DU 3:Nat):Int)=2:=rfl;refine Z3 w A Ff ?_;refine E.cN (r1 (by decide) _) ?_;cases g1;refine Z2 A Ff ?_;refine E.cN (r2 rfl _) (Z1 A ?_);cases g2<;>exact⟨1,rfl⟩;refine Z1 A ?_;exact⟨1,rfl⟩
 ·have G:DU k=1:=by unfold DU;rw[aD ω,aD ω]
  have w:((k:Int)=2)=False:=cE;have A:((DU k:Nat):Int)=1:=by rw[G];rfl
  refine Z3 w A Ff ?_;refine E.cN (r1 (by rw[G];decide) _) ?_;cases g1;all_goals
   refine Z1 A ?_;exact⟨1,rfl⟩
theorem bB7 {D:List Dn} {nl:Bool}:∀(T:Dt) (b:Nat),Jw D b (T.po b) ->(∀h,bP P X GL 72 [eR yV 5 nl D,.i .i64 ((b+T.sz-1:Nat):Int)] h (.b T.hh) h)/\∀p∈T.gh b,∀h,bP P X GL 72 [eR yV 5 nl D,.i .i64 (p.1:Int)] h (.b p.2) h:=by
 intro T;have one:∀{d:Dn} {i:Nat},D[i]? =some d ->DU d.k=0 ->d.k<=6 ->∀h,bP P X GL 72 [eR yV 5 nl D,.i .i64 (i:Int)] h (.b (decide (d.k=2))) h:=λ{d i} hd a0 k6 h=>by
  have:=R8 S F (nl:=nl) hd k6 (g1:=false) (g2:=false) (λh=>by omega) (λh=>by omega) h;simpa[a0] using this
 have un:∀{d:Dn} {i:Nat} {g:Bool},D[i]? =some d ->DU d.k=1 ->d.k<=6 ->(∀h,bP P X GL 72 [eR yV 5 nl D,.i .i64 (d.a:Int)] h (.b g) h) ->∀h,bP P X GL 72 [eR yV 5 nl D,.i .i64 (i:Int)] h (.b g) h:=λ{d i g} hd a1 k6 r h=>by
  have:=R8 S F (nl:=nl) hd k6 (g1:=g) (g2:=false) (λ_=>r) (λh=>by omega) h;have V:d.k≠2:=λe=>by rw[e] at a1;cases a1
  simpa[a1,V] using this
 induction T with
 |tx s|ln s|hd=>
  intro b j;exact⟨one (by have:=j 0 (by simp[Dt.po]);simpa[Dt.po,Dt.sz] using this) rfl (FT rfl),λp A=>by cases A⟩
 |sq u w G U=>
  intro b j;have h1:=j.one;rw[dy,Dt.po_len,Dt.po_len,←pK] at h1;have O:=j.l.r;rw[Dt.po_len] at O;obtain⟨H,J⟩:=G b j.l.l;obtain⟨W,Y⟩:=U (b+u.sz) O;refine⟨λh=> ?_,λp A=> ?_⟩;have:=R8 S F (nl:=nl) h1 (FT rfl) (λ_=>H) (λ_=>W) h;rw[show b+(u.sq w).sz-1=b+u.sz+w.sz by simp only[Dt.sz];omega];simpa[DU,Dt.hh] using this;exact(fO.1 A).elim (J p) (Y p)
 |ne m u G|al u G=>
  intro b j;have h1:=j.one;rw[Dt.po_len] at h1;obtain⟨H,J⟩:=G b j.l;exact⟨un h1 rfl (FT rfl) H,J⟩
 |gp u G=>
  intro b j;have h1:=j.one;rw[Dt.po_len] at h1;obtain⟨H,J⟩:=G b j.l;refine⟨un h1 rfl (FT rfl) H,λp A=> ?_⟩;rcases ey.1 A with rfl|A;exact un h1 rfl (FT rfl) H;exact J p A
end
def aN0:∀a,wV (kJ a)=true:=λ_=>rfl
section
variable {P:Program} {X:aR} {GL:T (List AV)} {ae:T au} (S:aT P X GL ae) (F:bz8 ae)
include S F
theorem bB8 {W:Dt} (hT:W.fit A6) (hz:W.sz<=65536) {nl:Bool} (Fl:List Bool):bg P X GL ae 37 [eR yV 5 nl (W.po 0),eR kJ 1 true Fl] (eR kJ 1 false (oJ (W.gh 0) Fl)):=by
 refine bg.intro λC E=> ?_;have gc:=λh=>aM7 S F hT hz (nl:=nl) h;have hc:=(bB7 S F (D:=W.po 0) (nl:=nl) W 0 (λj _=>by rw[gB])).2;have gg:=Ee W 0;have gl:=W.gl_len 0;have Ff:nice 64 (eR yV 5 nl (W.po 0))=true:=A4 bY0;have Y:nice 64 (eR iv 1 false (W.gl 0))=true:=A4 λ_=>rfl;have A:nice 64 (eR kJ 1 true Fl)=true:=A4 λ_=>rfl;generalize W.gh 0=H at*;generalize W.gl 0=G at*;have lH:H.length=G.length:=by rw[←gg,kU]
 have lL:(oJ H Fl).length=G.length:=by unfold oJ;rw[List.length_mapIdx,lH]
 refine E.bS (F.g 37 R5) (Z4 @R5.eq_1 @h0.eq_1 Ff A ?_);refine E.cN (gc _) (Z3 Ff Y A ?_);refine fj E.ok G.length (λi τ h=>τ.get 0=some (eR yV 5 nl (W.po 0))/\ τ.get 1=some (eR kJ 1 true Fl)/\ τ.get 5=some (eR iv 1 false G)/\ τ.get 8=some (ι (i:Int))/\∃v,τ.get 7=some v/\ v≠.sn/\ gk h v ((oJ H Fl).take i).length 1 (((oJ H Fl).take i).flatMap kJ)) ?_ ?_ _ _
  ⟨?_,?_,?_,?_,.sl 0 0 0 (some 0) 1,?_,⟨λh=>(by cases h),.inr ⟨0,some 0,rfl,.inr ⟨rfl,rfl⟩,Nat.zero_lt_one,rfl,rfl⟩⟩⟩
 rintro i τ ⟨n1,v1,ob⟩ hi ⟨t0,t1,t5,t8,v,t7,hv,O⟩ ih;have hp:H[i]? =some H[i]:=ef ω;have Z:=hc _ (List.getElem_mem (by omega:i<H.length));generalize H[i]=p at hp Z;have hg:G[i]? =some p.1:=by rw[←gg,oh,hp];rfl
 have sg:AM.sub (G.flatMap iv) i 1=some [.i .i64 (p.1:Int)]:=by
  have:=cW (enc:=iv) (k:=1) (λ_=>rfl) hg (j:=0) (n:=1) ω;simpa[iv] using this
 have hl:(oJ H Fl)[i]? =some (Fl[i]?.getD false&& !p.2):=by unfold oJ;rw[List.getElem?_mapIdx,hp];rfl
 have tk:(oJ H Fl).take (i+1)=(oJ H Fl).take i++[Fl[i]?.getD false&& !p.2]:=by rw[List.take_succ,hl];rfl
 have V:((i:Int)<(G.length:Int))=True:=cJ;have fin:∀b,(Fl[i]?.getD false&& !p.2)=b ->∃v' h',gU ⟨n1+1,v1,ob.put n1 (.cells v1 [.b b])⟩ 1 v (.sl n1 0 1 (some 1) 1)= .v v' h'/\ v'≠.sn/\ gk h' v' ((oJ H Fl).take (i+1)).length 1 (((oJ H Fl).take (i+1)).flatMap kJ):=λb hb=>by
  have O1:gk ⟨n1+1,v1,ob.put n1 (.cells v1 [.b b])⟩ v _ 1 _:=O.up (nD n1) λj hj=>by
   have hj:j<n1:=hj;exact U0
  obtain⟨v',h',a1,a2,-,-,a5⟩:=gk.app1 (enc:=kJ) (λ_=>rfl) aN0 O1 (o:=n1) (c:=some 1) (a:=b) (by exact U0) (by rw[jm];omega);exact⟨v',h',a1,a5,by rw[tk,hb];exact a2⟩
 by_cases hf:i<Fl.length;have J:((i:Int)<(Fl.length:Int))=True:=cJ;have U:Fl[i]? =some Fl[i]:=ef hf;generalize Fl[i]=b at U;have sf:AM.sub (Fl.flatMap kJ) i 1=some [.b b]:=by
  have:=cW (enc:=kJ) (k:=1) (λ_=>rfl) U (j:=0) (n:=1) ω;simpa[kJ] using this
 rw[U] at fin;cases b with
 |true=>
  obtain⟨v',⟨n2,v2,aJ⟩,a1,a2,a3⟩:=fin (!p.2) rfl;refine sD t0 t1 t5 t7 t8 V hi J hf sf sg Ff Y A @dw @bG ?_;refine E.cN (Z _) (Z8 t0 t1 t5 t7 t8 @tM a1 @bK ?_);refine ih _ _ ⟨?_,?_,?_,?_,v',?_,a2,a3⟩;exact U1 t0;exact U1 t1;(iterate 3 exact U1 t5)
 |false=>
  obtain⟨v',⟨n2,v2,aJ⟩,a1,a2,a3⟩:=fin false rfl;refine wS t0 t1 t5 t7 t8 V hi J hf sf Ff Y A @dw @bG @tM a1 @bK ?_;refine ih _ _ ⟨?_,?_,?_,?_,v',?_,a2,a3⟩;exact U1 t0;exact U1 t1;(iterate 3 exact U1 t5)
 have J:((i:Int)<(Fl.length:Int))=False:=cE;rw[rI (by omega:Fl.length<=i)] at fin;obtain⟨v',⟨n2,v2,aJ⟩,a1,a2,a3⟩:=fin false rfl;refine sD t0 t1 t5 t7 t8 V hi J Ff Y A @dw @bG @tM a1 @bK ?_;refine ih _ _ ⟨?_,?_,?_,?_,v',?_,a2,a3⟩;exact U1 t0;exact U1 t1;(iterate 3 exact U1 t5);rintro τ ⟨n1,v1,ob⟩ ⟨t0,t1,t5,t8,v,t7,hv,O⟩;refine Z7 t0 t1 t5 t7 t8 Y @dw ?_;rw[vM ω] at O;exact⟨_,O.deep hv (m:=9) Jn⟩;all_goals exact U0
end
def R9 {α:Type} {enc:α ->List AV} {k:Nat} {L:List α} (h:L≠[]):eR enc k false L=eR enc k true L:=by cases L with|nil=>exact bh rfl h|cons a L=>rfl
def lZ (j n:Nat):List Bool:=(List.range n).map (fb j)
section
variable {P:Program} {X:aR} {GL:T (List AV)} {ae:T au} (S:aT P X GL ae) (F:bz8 ae)
include S F
theorem bB9 {W:Dt} (hT:W.fit A6) (hz:W.sz<=65536) {nl:Bool} {A:Nat} (hb:A<65536) h:bP P X GL 8 [eR yV 5 nl (W.po 0),.i .u16 (A:Int)] h (eR kJ 1 false (oJ (W.gh 0) (lZ A (W.gl 0).length))) h:=by
 refine dR S (n:=9) ?_ (by simp only[aL,bZ,eu (n:=8) (Ij (n:=8)),dH]) h;refine bg.intro λC E=> ?_;have gc:=λh=>aM7 S F hT hz (nl:=nl) h;have Y:=bB8 S F hT hz (nl:=nl) (lZ A (W.gl 0).length);have gl:=W.gl_len 0;have Ff:nice 64 (eR yV 5 nl (W.po 0))=true:=A4 bY0;have U:nice 64 (eR iv 1 false (W.gl 0))=true:=A4 λ_=>rfl;generalize W.gl 0=G at*;have V:(lZ A G.length).length=G.length:=by unfold lZ;rw[kU,List.length_range]
 refine E.bS (F.g 8 Sv) (Z3 @Sv.eq_1 @h0.eq_1 Ff ?_);refine E.cN (gc _) (Z2 Ff U ?_);refine fj E.ok G.length (λi τ h=>τ.get 0=some (eR yV 5 nl (W.po 0))/\ τ.get 1=some (.i .u16 (A:Int))/\ τ.get 5=some (eR iv 1 false G)/\ τ.get 8=some (ι (i:Int))/\∃v,τ.get 7=some v/\ (i=0/\ v= .sn∨0<i/\ v≠.sn)/\ gk h v ((lZ A G.length).take i).length 1 (((lZ A G.length).take i).flatMap kJ)) ?_ ?_ _ _
  ⟨?_,?_,?_,?_,.sn,?_,.inl ⟨rfl,rfl⟩,.inl ⟨rfl,rfl,rfl⟩⟩
 rintro i τ ⟨n1,v1,ob⟩ hi ⟨t0,t1,t5,t8,v,t7,H,O⟩ ih;have hl:(lZ A G.length)[i]? =some (fb A i):=by unfold lZ;rw[oh,List.getElem?_range hi];rfl
 have tk:(lZ A G.length).take (i+1)=(lZ A G.length).take i++[fb A i]:=by rw[List.take_succ,hl];rfl
 have b0:((i:Int)<(G.length:Int))=True:=cJ;have rm:aY .rem (ι (i:Int)) (ι 16)=some (ι ((i%16:Nat):Int)):=iA (a:=i) (c:=16) ω;have b1:i%16<16:=jv _ ω;have cv:dN .u64 ((i%16:Nat):Int)=((i%16:Nat):Int):=Ri ω;have sh:aY .shr (.i .u16 (A:Int)) (.i .u64 ((i%16:Nat):Int))=some (.i .u16 ((A/2^(i%16):Nat):Int)):=bB5 ω;have an:aY .and (.i .u16 ((A/2^(i%16):Nat):Int)) (.i .u16 1)=some (.i .u16 ((A/2^(i%16)%2:Nat):Int)):=bB6 (Ca (Ft _ _) hb);have Z:aY .eql (.i .u16 ((A/2^(i%16)%2:Nat):Int)) (.i .u16 1)=some (.b (fb A i)):=by rw[NQ];congr 2;exact decide_eq_decide.2 ω
 have O1:gk ⟨n1+1,v1,ob.put n1 (.cells v1 [.b (fb A i)])⟩ v _ 1 _:=O.up (nD n1) λj hj=>by
  have hj:j<n1:=hj;exact U0
 obtain⟨v',⟨n2,v2,aJ⟩,a1,a2,-,-,a5⟩:=gk.app1 (enc:=kJ) (λ_=>rfl) aN0 O1 (o:=n1) (c:=some 1) (a:=fb A i) (by exact U0) (by rw[jm];omega);rw[←tk] at a2;refine yO t0 t1 t5 t7 t8 b0 rm cv sh an Z Ff U @dw @tM a1 @bK ?_;refine ih _ _ ⟨?_,?_,?_,?_,v',?_,.inr ⟨Nat.succ_pos _,a5⟩,a2⟩;exact U1 t0;exact U1 t1;(iterate 3 exact U1 t5);rintro τ ⟨n1,v1,ob⟩ ⟨t0,t1,t5,t8,v,t7,H,O⟩;rw[vM ω] at O;rcases H with ⟨h,rfl⟩|⟨h,H⟩;have e:eR kJ 1 true (lZ A G.length)= .sn:=by rw[h];rfl
 rw[e] at Y;have cc:=λh=>dR S Y (n:=9) (by rw[aL,aL,bZ,eu (n:=8) (Ij (n:=8))];rfl) h;refine Z8 t0 t1 t5 t7 t8 Ff U @dw ?_;refine E.cN (cc _) (Z1 t0 ?_);exact⟨9,eu (n:=8) Jn⟩;have dv:=(O.deep H (m:=8) Jn).trans (congrArg some (R9 λe=>by rw[e] at V;simp at V;omega));rcases O with ⟨h,-⟩|⟨q,c,rfl,-,hq,ho,-⟩;exact bh h H;obtain⟨vo,ho⟩:∃vo,ob.get q=some (.cells vo ((lZ A G.length).flatMap kJ)):=by
  have J:cG (ob.get q)=_:=ho;unfold cG at J;split at J;rename_i vo l e;cases J;exact⟨vo,e⟩;cases J
 have cc:=J2 S Y (m:=n1) (v:=v1) (t:=ob) (o:=q) (vo:=vo) (c:=(lZ A G.length).flatMap kJ) (args:=[eR yV 5 nl (W.po 0),.sl q 0 (lZ A G.length).length c 1]) (n:=9) ho (by
  rw[aL,aL,bZ,eu (n:=8) (Ij (n:=8)),gA (l:=(lZ A G.length).flatMap kJ) (by rw[T.get_put,aF rfl];rfl) (qZ (n:=8) Jn _),←R9 λe=>by rw[e] at V;simp at V;omega,Ik])
 refine Z8 t0 t1 t5 t7 t8 Ff U @dw ?_;refine E.cN cc (Z1 t0 ?_);exact⟨9,eu (n:=8) Jn⟩;all_goals exact U0
end
end
end AM
