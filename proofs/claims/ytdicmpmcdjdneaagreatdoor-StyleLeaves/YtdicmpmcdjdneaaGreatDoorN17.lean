import Derived.Test.YtdicmpmcdjdneaaGreatDoorN16
set_option linter.all false
set_option maxHeartbeats 4000000
namespace AM
open Dg Go
noncomputable section
def y9 (b k:Nat):Bool:=decide (b/2^k%2=1)
def yE (b e:Nat):Nat ->Nat ->Nat ->Tr
 |0,_,k=>yU (y9 b k) e
 |d+1,v,k=> .n (yE b e d (v+1) k) (yE b e d (v+1) (k+2^v))
def jR (b n:Nat):Tr:=yE b (3-n) n 0 0
def sI {b e}:∀d v k,cA (e+d) (yE b e d v k)=true
 |0,_,_=>ph e
 |d+1,v,k=>by show(cA (e+d) _&&cA (e+d) _)=true;rw[sI,sI];rfl
def Ex {b e}:∀d v k,jq d (yE b e d v k)=true
 |0,_,_=>yQ e 0
 |d+1,v,k=>by show(jq d _&&jq d _)=true;rw[Ex,Ex];rfl
def aK4 {b n} (j:n<=3):cA 3 (jR b n)=true:=by have:=sI (b:=b) (e:=3-n) n 0 0;rwa [show 3-n+n=3 by omega] at this
def aK8 {b e}:∀v,m7 v (yU b e)=yU b (e+v)
 |0=>rfl
 |v+1=>by rw[m7,aK8 v];rfl
inductive xa:AV ->Nat ->Prop
 |sn:xa .sn 0
 |nil (L:List AV):xa (.ds L 0 0 1) 0
 |ds (L:List AV) (n b:Nat) (hb:b<256) (hL:L[0]? =some (.i .u8 (b:Int))):xa (.ds L 0 (n+1) 1) b
variable {P:Program} {X:aR} {GL:T (List AV)} {ae:T au}
def SV {k}:y9 0 k=false:=by simp[y9]
variable (S:aT P X GL ae)
variable (R:bz8 ae) (F:bz8 ae) (A:dY P X GL)
def aP7 {l} {b n e:Nat} (Y:xa l b) (nk:nice 64 l=true) (Z:deep 9 h0 l=some l) (hn:e+n=3):∀d v (k:Nat),v+d=n ->k<2^v ->bg P X GL ae 172 [l,ι (n),ι (v),ι (k)] (eT (m7 v (yE b e d v k))):=by
 intro d;induction d with
 |zero=>
  intro v k hv G;have I:k<8:=iR G (show 2^v<=2^3 from rJ ω ω);have vn:v=n:=by omega
  have N:aY .quo (ι (k:Int)) (ι 8)=some (ι 0):=by
   have:=Rj (a:=k) (c:=8) ⟨by omega,by omega⟩;rw[Nat.div_eq_of_lt I] at this;exact this
  have r0:aY .rem (ι (k:Int)) (ι 8)=some (ι (k:Int)):=by
   have:=iA (a:=k) (c:=8) ω;rw[Cb I] at this;exact this
  have rc:=λbb h=>Bp (GL:=GL) S F bb h;simp only[eT,eD,IU] at rc;rw[yE,aK8,show e+v=3 by omega];refine bg.intro λC E=> ?_;rw[E.cB (F.f 172)];cases Y with
  |sn=>
   refine Y1 N ?_;refine E.cN (rc _ _) (Y0 ?_);exact⟨1,by rw[SV];rfl⟩
  |nil L=>
   have J:∀h,kg h (.ds L 0 0 1)= .v (ι 0) h:=λh=>rfl;refine Y2 N J ?_;refine E.cN (rc _ _) (Y0 ?_);exact⟨1,by rw[SV];rfl⟩
  |ds L m b hb hL=>
   have J:∀h,kg h (.ds L 0 (m+1) 1)= .v (ι ((m+1:Nat):Int)) h:=λh=>rfl;have ia:∀h,nU h 1 0 (.ds L 0 (m+1) 1)= .v (.dp L 0) h:=λh=>by rw[yR,aF ⟨rfl,by omega⟩]
   have s0:sub L 0 1=some [.i .u8 (b:Int)]:=qY hL;have sh:aY .shr (.i .u8 (b:Int)) (.i .u64 (k:Int))=some (.i .u8 ((b/2^k:Nat):Int)):=az9 ω;have W:aY .and (.i .u8 ((b/2^k:Nat):Int)) (.i .u8 1)=some (.i .u8 ((b/2^k%2:Nat):Int)):=aA0 (Ca (Ft _ _) hb);have j:dN .u64 (k:Int)=(k:Int):=Ri ω;have H:(0:Int)<((m+1:Nat):Int):=by omega
   refine Y9 N r0 J ia s0 sh W j H ?_;have e:decide (((b/2^k%2:Nat):Int)=1)=y9 b k:=by
    unfold y9;by_cases q:b/2^k%2=1;rw[q];rfl;have q':¬(((b/2^k%2:Nat):Int)=1):=by omega
    rw[ot q,ot q']
   rw[e];refine E.cN (rc _ _) (Y1 @tp.eq_1 ?_);exact⟨1,by show _=some (eT (yU (y9 b k) 3));unfold eT;rw[IU];rfl⟩
 |succ d U=>
  intro v k hv G;have I:k<8:=iR G (show 2^v<=2^3 from rJ ω ω);have v3:v<3:=by omega
  have p4:2^v<=4:=by rcases(show v=0∨v=1∨v=2 by omega) with rfl|rfl|rfl<;>decide
  have j:dN .u64 (v:Int)=(v:Int):=Ri ω;have sl:aY .shl (ι 1) (.i .u64 (v:Int))=some (ι ((2^v:Nat):Int)):=aA1 ω;have B:aY .add (ι (k:Int)) (ι ((2^v:Nat):Int))=some (ι ((k+2^v:Nat):Int)):=oH ω;have p1:2^(v+1)=2^v+2^v:=by rw[Nat.pow_succ];omega
  have t1:=U (v+1) (k+2^v) ω ω;have t2:=U (v+1) k ω ω;have O:∀a b c,bJ 9 h0 [l,ι a,ι b,ι c]=some [l,ι a,ι b,ι c]:=λa b c=>by simp only[aL,bZ,Z,dH]
  have c1:=λh=>dR S t1 (O _ _ _) h;have c2:=λh=>dR S t2 (O _ _ _) h;have rv:=λh=>Rt (GL:=GL) S F v3 h;have D:∀k',cA (2-v) (yE b e d (v+1) k')=true:=λk'=>by have:=sI (b:=b) (e:=e) d (v+1) k';rwa [show e+d=2-v by omega] at this
  have V:=A.i v3 (D (k+2^v));have m2:=A.m v3 (D k);have m3:=A.u v3 (D (k+2^v)) (D k);simp only[eT,eD] at c1 c2 rv V m2 m3;refine bg.intro λC E=> ?_;refine E.bS (F.f 172) (Y0 ?_);refine E.cN (rv _) (Y4 nk j sl B ?_);refine E.cN (c1 _) (Y4 nk j sl B ?_);refine E.cN (V _) (Y4 nk j sl B ?_);refine E.cN (c2 _) (Y4 nk j sl B ?_);refine E.cN (m2 _) (Y4 nk j sl B ?_);refine E.cN (m3 _) (Y4 nk j sl B ?_);exact⟨2,by rw[yE];unfold eT eD;rw[nX];simp only[aL,bZ,nW,dH]⟩
def J1 {l} {b n:Nat} (D:xa l b) (nk:nice 64 l=true) (j:deep 9 h0 l=some l) (G:n<=3):bg P X GL ae 90 [l,ι (n)] (eT (jR b n)):=by
 have t1:bg P X GL ae 172 _ (eT (jR b n)):=aP7 (n:=n) (e:=3-n) S F A D nk j ω n 0 0 ω (by decide);have c1:=λh=>dR S t1 (n:=9) (by simp only[aL,bZ,j,dH]) h;simp only[eT,eD,qJ] at c1;refine bg.intro λC E=> ?_;rw[E.cB (F.f 90)];have n0:((0:Int)<(n:Int))=(0<n):=by simp
 by_cases B:0<n;refine Y3 @jP n0 B ?_;refine E.cN (c1 _) (Y0 ?_);exact⟨9,jB _ _⟩;obtain rfl:n=0:=by omega
 refine Y3 @jP n0 B ?_;refine E.cN (c1 _) (Y0 ?_);exact⟨9,jB _ _⟩
def xj (b n:Nat):Tr:=if n=0∨b%6<3 then yU true 3 else if b%6=3 then je (b/6%n) else if b%6=4 then Ey (je (b/6%n)) else jR b n
def aP8 {b n} (j:n<=3):cA 3 (xj b n)=true:=by
 unfold xj;split;exact ph 3;split;exact qu;split;exact jd qu (ph 3);exact aK4 j
def bc7 {v n} (h:v<n) (j:n<=3):jq n (Ey (je v))=true:=by
 rcases(show n=1∨n=2∨n=3 by omega) with rfl|rfl|rfl;obtain rfl:v=0:=by omega
 rfl;rcases(show v=0∨v=1 by omega) with rfl|rfl<;>rfl;rcases(show v=0∨v=1∨v=2 by omega) with rfl|rfl|rfl<;>rfl
def aP9 {b n} (j:n<=3):jq n (xj b n)=true:=by
 unfold xj;split;exact yQ 3 n;rename_i h;have B:b/6%n<n:=jv _ ω;split;exact IV B j;split;exact bc7 B j;exact Ex n 0 0
def J2 {f args j d} (G:bg P X GL ae f j d) {m v o vo n c t} (B:t.get o=some (.cells vo c)) (D:bJ n ⟨m,v,T.e.put o (.cells vo c)⟩ args=some j):
 bP P X GL f args ⟨m,v,t⟩ d ⟨m,v,t.put o .gone⟩:=by
 have e1:qT ⟨m,v,t⟩ [o]=⟨m,v,T.e.put o (.cells vo c)⟩:=by
  show(⟨m,v,(match t.get o with|some (.cells v c)=>T.e.put o (.cells v c)|_=>T.e)⟩:AH)=_;rw[B]
 have e2:tE ⟨m,v,t⟩ [o]=⟨m,v,t.put o .gone⟩:=by
  have:mP ⟨m,v,t⟩ o=true:=by unfold mP;rw[B]
  show(⟨m,v,(bif mP ⟨m,v,t⟩ o then t.put o .gone else t)⟩:AH)=_;rw[this];rfl
 have:=Dq S G (h:=⟨m,v,t⟩) (l:=[o]) (n:=n) (by rw[e1];exact D)
 rwa [e2] at this
def aQ0 {v:Nat} (j:v<3):bg P X GL ae 276 [ι (v)] (eT (je v)):=by
 have rv:=λh=>Rt (GL:=GL) S R j h;simp only[eT,eD] at rv;refine bg.intro λC E=> ?_;refine E.bS (F.f 276) (Y0 ?_);refine E.cN (rv _) (Y0 ?_);exact⟨9,jB _ _⟩
def aQ1 {v:Nat} (j:v<3) h:bP P X GL 276 [ι (v)] h (eT (je v)) h:=dR S (aQ0 S R F j) (n:=1) (by rfl) h
def Ez (F:bz8 ae) {b n:Nat} (hb:b<256) (G:n<=3):bg P X GL ae 173 [.i .u8 (b),ι (n)] (eT (xj b n)):=by
 have rc:=λbb h=>Bp (GL:=GL) S R bb h;have r6:aY .rem (.i .u8 (b:Int)) (.i .u8 6)=some (.i .u8 ((b%6:Nat):Int)):=yD (c:=6) ω;have J:aY .quo (.i .u8 (b:Int)) (.i .u8 6)=some (.i .u8 ((b/6:Nat):Int)):=D8 (c:=6) ⟨by omega,hb⟩;have L:dN .i64 ((b/6:Nat):Int)=((b/6:Nat):Int):=lj ω;by_cases j:n=0;subst j;simp only[eT,eD] at rc;refine bg.intro λC E=> ?_;refine E.bS (F.f 173) (Y1 qJ ?_);refine E.cN (rc _ _) (Y0 ?_);exact⟨9,by rw[xj,aF (.inl rfl)];exact jB _ _⟩;by_cases h1:b%6<3;have N:((b%6:Nat):Int)<3:=by omega
 simp only[eT,eD] at rc;refine bg.intro λC E=> ?_;refine E.bS (F.f 173) (Y1 r6 ?_);refine E.cN (rc _ _) (Y0 ?_);exact⟨9,by rw[xj,aF (.inr h1)];exact jB _ _⟩;have rn:aY .rem (ι ((b/6:Nat):Int)) (ι (n:Int))=some (ι ((b/6%n:Nat):Int)):=iA ω;have H:b/6%n<3:=iR (jv _ ω) G;have D:=λh=>aQ1 (GL:=GL) S R F H h;have cc:=A.c H;have B:xj b n=if b%6=3 then je (b/6%n) else if b%6=4 then Ey (je (b/6%n)) else jR b n:=by
  rw[xj,aD ω]
 simp only[eT,eD] at D cc;refine bg.intro λC E=> ?_;refine E.bS (F.f 173) (Y4 r6 J L rn ?_);refine E.cN (D _) ?_;rcases(show b%6=3∨b%6=4∨b%6=5 by omega) with k|k|k;refine Y2 r6 k ?_;exact⟨9,by rw[B,aF k];exact jB _ _⟩;refine Y2 r6 k ?_;refine E.cN (cc _) (Y0 ?_);exact⟨9,by rw[B,aD ω,aF k];exact jB _ _⟩;have I:=J1 S R A (xa.ds [.i .u8 (b:Int)] 0 b hb rfl) (by simp only[nN,Bg,iq,j9,A7]) (by rfl) G;refine Y2 r6 k ?_;refine E.cN (J2 (o:=2) (vo:=1) (c:=[.i .u8 (b:Int)]) (n:=9) S I (by exact U0) (by rfl)) (Y2 @eT.eq_1 @eD.eq_1 ?_);exact⟨9,by rw[B,aD ω,aD ω];exact jB _ _⟩
def vO (p:Pr) (m:Nat):Pr:=
 if p.right.length=0 then p else
 if m%8=1 then { p with rank:=1 } else
 if m%8=2 then { p with rank:= -1 } else
 if m%8=3 then { p with br:=u7 p } else
 if m%8=4 then { p with lay:=[(1+m/8%4,m/8/4%p.right.length,if m/8%4=0 then 0 else p.right.length-1)] } else
 if m%8=5 then { p with opens:=true } else
 if m%8=6 then (if (p.right.getD (m/8%p.right.length) (false,0)).1 then { p with dec:=m/8%p.right.length+1,kind:=1+m/8%2 } else p) else
 if m%8=7 then (if (p.right.getD (m/8%p.right.length) (false,0)).1 then { p with uses:=m/8%p.right.length+1,allow:=1+m/8%7 } else p) else p
def aQ2 {p m} (h:p.right.length=0):vO p m=p:=aF h
structure SW (p:Pr):Prop where
 rank:p.rank=0
 lay:p.lay=[]
 ln:p.ln=true
 opens:p.opens=false
 dec:p.dec=0
 kind:p.kind=0
 uses:p.uses=0
 allow:p.allow=0
 br:p.br=false
 len:p.right.length<=4
def qy {p h}:deep 9 h (.ag (aM p))=some (.ag (aM p)):=nX (n:=8) (y7 (n:=7) p)
def gA {n h o j len k c l l'} (B:cG (h.oB.get o)=some l) (hd:bJ n h l=some l'):deep (n+1) h (.sl o j len c k)=some (.ds l' j len k):=by
 have e1:deep (n+1) h (.sl o j len c k)=(match h.oB.get o with
  |some (.cells _ l)=>match bJ n h l with|some l=>some (.ds l j len k)|none=>none
  |_=>none):=rfl
 rw[e1];rcases D:h.oB.get o with _|(_|_|_|_|_)<;>rw[D] at B<;>simp only[cG] at B;all_goals first|(cases B;done)|(injection B with B;subst B;simp only[hd])
variable {left:Nat}
def SX {h name right rn cond br rank lay ln opens} {dec kind uses allow:Nat} {X:AV} (j:deep 8 h X=some (eR gH 3 ln lay)):
 deep 9 h (.ag [.s name,ι (left),eR dO 2 rn right,tp (aE cond).1,ι ((aE cond).2:Int),.b br,ι rank,X,.b opens,ι (dec),ι (kind),ι (uses),ι (allow)])=some (.ag (aM ⟨name,left,right,rn,cond,br,rank,lay,ln,opens,dec,kind,uses,allow⟩)):=by
 refine nX (n:=8) ?_;simp only[aM,aL,bZ,dH,yW,oK,nW (n:=7),eu (n:=7) yX,j]
def aQ3 (G:bz8 ae) (F:bz8 ae) {p} {m:Nat} (hm:m<256) (f:SW p):bg P X GL ae 174 [.ag (aM p),.i .u8 (m)] (.ag (aM (vO p m))):=by
 have r8:aY .rem (.i .u8 (m:Int)) (.i .u8 8)=some (.i .u8 ((m%8:Nat):Int)):=yD (c:=8) ω;have H:aY .quo (.i .u8 (m:Int)) (.i .u8 8)=some (.i .u8 ((m/8:Nat):Int)):=D8 (c:=8) ⟨by omega,hm⟩;have I:dN .i64 ((m/8:Nat):Int)=((m/8:Nat):Int):=lj ω;have fl:=f.len;obtain⟨name,left,right,rn,cond,br,rank,lay,ln,opens,dec,kind,uses,allow⟩:=p;obtain⟨f1,f2,f3,f4,f5,f6,V,W,Y,-⟩:=f;simp only at f1 f2 f3 f4 f5 f6 V W Y fl;subst f1 f2 f3 f4 f5 f6 V W Y;generalize B:AV.ag (aM (vO ⟨name,left,right,rn,cond,false,0,[],true,false,0,0,0,0⟩ m))=D;refine bg.intro λC E=> ?_;rw[E.cB (F.f 174)];by_cases N:right.length=0;have z:right=[]:=pM N;subst z;refine Y2 @aM.eq_1 @qJ ?_;exact⟨9,by rw[←B,aQ2 rfl];exact qy (p:=⟨name,left,[],rn,cond,false,0,[],true,false,0,0,0,0⟩)⟩;rw[vO,aD N] at B;generalize hk:m/8=k at*;simp only at B;have kl:k<32:=by rw[←hk];omega
 have Z:k%right.length<right.length:=jv _ ω;have J:aY .rem (ι (k:Int)) (ι (right.length:Int))=some (ι ((k%right.length:Nat):Int)):=iA ω;rcases(show m%8=0∨m%8=1∨m%8=2∨m%8=3∨m%8=4∨m%8=5∨m%8=6∨m%8=7 by omega) with j|j|j|j|j|j|j|j;refine Y5 @aM.eq_1 r8 H I j ?_;exact⟨9,by simp only[j,Nat.reduceEqDiff,reduceIte] at B;rw[←B];exact qy (p:=⟨name,left,right,rn,cond,false,0,[],true,false,0,0,0,0⟩)⟩;refine Y5 @aM.eq_1 r8 H I j ?_;exact⟨9,by simp only[j,Nat.reduceEqDiff,reduceIte] at B;rw[←B];exact qy (p:=⟨name,left,right,rn,cond,false,1,[],true,false,0,0,0,0⟩)⟩;refine Y5 @aM.eq_1 r8 H I j ?_;exact⟨9,by simp only[j,Nat.reduceEqDiff,reduceIte] at B;rw[←B];exact qy (p:=⟨name,left,right,rn,cond,false,-1,[],true,false,0,0,0,0⟩)⟩;have U:=λh=>aP4 (P:=P) (X:=X) (GL:=GL) (p:=⟨name,left,right,rn,cond,true,0,[],true,false,0,0,0,0⟩) S G rfl rfl rfl rfl rfl rfl rfl (by simp only;omega) h;simp only[aM,qJ] at U;refine Y5 @aM.eq_1 r8 H I j ?_;refine E.cN (U _) (Y0 ?_);exact⟨9,by simp only[j,Nat.reduceEqDiff,reduceIte] at B;rw[←B];exact qy (p:=⟨name,left,right,rn,cond,_,0,[],true,false,0,0,0,0⟩)⟩;have a1:aY .rem (ι (k:Int)) (ι 4)=some (ι ((k%4:Nat):Int)):=iA (c:=4) ω;have a2:aY .quo (ι (k:Int)) (ι 4)=some (ι ((k/4:Nat):Int)):=Rj (c:=4) ω;have a3:aY .rem (ι ((k/4:Nat):Int)) (ι (right.length:Int))=some (ι ((k/4%right.length:Nat):Int)):=iA ω;have a4:aY .sub (ι (right.length:Int)) (ι 1)=some (ι ((right.length-1:Nat):Int)):=qV (b:=1) ω;have a5:aY .add (ι 1) (ι ((k%4:Nat):Int))=some (ι ((1+k%4:Nat):Int)):=oH (a:=1) ω;by_cases O:k%4=0;have hi:(((k%4:Nat):Int)=0)=True:=cJ;refine jC @aM.eq_1 r8 H I j a1 a2 a3 a4 a5 hi ?_;refine⟨9,?_⟩;simp only[j,Nat.reduceEqDiff,reduceIte,aF O] at B;rw[←B];exact SX (dec:=0) (kind:=0) (uses:=0) (allow:=0) (ln:=true) (lay:=[(1+k%4,k/4%right.length,0)]) (gA rfl rfl);have hi:(((k%4:Nat):Int)=0)=False:=cE;refine jC @aM.eq_1 r8 H I j a1 a2 a3 a4 a5 hi ?_;refine⟨9,?_⟩;simp only[j,Nat.reduceEqDiff,reduceIte,O] at B;rw[←B];exact SX (dec:=0) (kind:=0) (uses:=0) (allow:=0) (ln:=true) (lay:=[(1+k%4,k/4%right.length,right.length-1)]) (gA rfl rfl);refine Y5 @aM.eq_1 r8 H I j ?_;exact⟨9,by simp only[j,Nat.reduceEqDiff,reduceIte] at B;rw[←B];exact qy (p:=⟨name,left,right,rn,cond,false,0,[],true,true,0,0,0,0⟩)⟩;have L:=ef Z;have e0:sub (right.flatMap dO) ((k%right.length)*2) 1=some [.b (right[k%right.length]).1]:=by
  have:=cW gO L (j:=0) (n:=1) ω;simpa[dO] using this
 have a1:aY .rem (ι (k:Int)) (ι 2)=some (ι ((k%2:Nat):Int)):=iA (c:=2) ω;have a5:aY .add (ι 1) (ι ((k%2:Nat):Int))=some (ι ((1+k%2:Nat):Int)):=oH (a:=1) ω;have eg:right.getD (k%right.length) (false,0)=right[k%right.length]:=by rw[kX,L];rfl
 simp only[j,Nat.reduceEqDiff,reduceIte,eg] at B;cases hb:(right[k%right.length]).1;rw[hb] at e0;simp only[hb,nr,bV] at B;refine Y7 @aM.eq_1 r8 H I j J e0 ?_;exact⟨9,by rw[←B];exact qy (p:=⟨name,left,right,rn,cond,false,0,[],true,false,0,0,0,0⟩)⟩;rw[hb] at e0;simp only[hb,dZ] at B;refine Y9 @aM.eq_1 r8 H I j J e0 a1 a5 ?_;exact⟨9,by rw[←B];exact qy (p:=⟨name,left,right,rn,cond,false,0,[],true,false,_,_,0,0⟩)⟩;have L:=ef Z;have e0:sub (right.flatMap dO) ((k%right.length)*2) 1=some [.b (right[k%right.length]).1]:=by
  have:=cW gO L (j:=0) (n:=1) ω;simpa[dO] using this
 have a1:aY .rem (ι (k:Int)) (ι 7)=some (ι ((k%7:Nat):Int)):=iA (c:=7) ω;have a5:aY .add (ι 1) (ι ((k%7:Nat):Int))=some (ι ((1+k%7:Nat):Int)):=oH (a:=1) ω;have eg:right.getD (k%right.length) (false,0)=right[k%right.length]:=by rw[kX,L];rfl
 simp only[j,Nat.reduceEqDiff,reduceIte,eg] at B;cases hb:(right[k%right.length]).1;rw[hb] at e0;simp only[hb,nr,bV] at B;refine Y7 @aM.eq_1 r8 H I j J e0 ?_;exact⟨9,by rw[←B];exact qy (p:=⟨name,left,right,rn,cond,false,0,[],true,false,0,0,0,0⟩)⟩;rw[hb] at e0;simp only[hb,dZ] at B;refine Y9 @aM.eq_1 r8 H I j J e0 a1 a5 ?_;exact⟨9,by rw[←B];exact qy (p:=⟨name,left,right,rn,cond,false,0,[],true,false,0,0,_,_⟩)⟩
def aQ4 {p} (h:u7 p=true):∃i j,p.right=[(true,i),(false,p.left),(true,j)]:=by
 unfold u7 at h;split at h;rename_i D G H e;obtain⟨a0,B⟩:=D;obtain⟨a1,I⟩:=G;obtain⟨a2,b2⟩:=H;simp only[aB,jH,aU] at h;obtain⟨rfl,rfl,rfl,rfl⟩:=h;exact⟨B,b2,e⟩;cases h
def aQ5 {nc I p m} (L:m<256) (f:SW p) (ok:sH nc I p):sH nc I (vO p m):=by
 have fl:=f.len;unfold vO;split;exact ok;have H:0<p.right.length:=by omega
 have h1:m/8%p.right.length<p.right.length:=jv _ H;have h2:m/8/4%p.right.length<p.right.length:=jv _ H;have D:Bu p p.dec p.kind 1 7:= .inl ⟨f.dec,f.kind⟩;have B:∀q:Pr,q.br=false ->(q.br=true ->SS q):=λq h h'=>by rw[h] at h';cases h'
 have G:(p.right.getD (m/8%p.right.length) (false,0)).1=true ->∃j,p.right[m/8%p.right.length]? =some (true,j):=by
  rw[kX,ef h1];intro h;exact⟨_,by rw[←show p.right[m/8%p.right.length].1=true from h]⟩
 split;exact { ok with rank:=⟨by simp only;omega,by simp only;omega⟩,br:=B _ f.br }
 split;exact { ok with rank:=⟨by simp only;omega,by simp only;omega⟩,br:=B _ f.br }
 split;refine { ok with br:=λh=> ?_ }
 obtain⟨i,j,e⟩:=aQ4 (p:=p) h;exact⟨f.rank,f.lay,f.opens,f.dec,f.kind,f.uses,f.allow,i,j,e⟩;split;refine { ok with lay:= ?_,layl:=by simp only[lF];omega,br:=B _ f.br }
 intro c J;rcases yC.1 J with rfl;refine⟨by simp only;omega,by simp only;omega,h2,?_,?_⟩;simp only;split<;>omega;simp only;intro h;rw[aF ω];split;exact { ok with br:=B _ f.br }
 split;split;rename_i h;exact { ok with dec:= .inr ⟨Nat.le_add_left _ _,G h,by simp only;omega,by simp only;omega⟩,br:=B _ f.br }
 exact ok;split;split;rename_i h;exact { ok with uses:= .inr ⟨Nat.le_add_left _ _,G h,by simp only;omega,by simp only;omega⟩,br:=B _ f.br }
 exact ok;exact ok
def aQ6 {p m}:(vO p m).name=p.name/\ (vO p m).left=p.left/\ (vO p m).right=p.right:=by
 unfold vO;repeat' split
 all_goals exact⟨rfl,rfl,rfl⟩
def oO (name:List Nat) (left:Nat) (rn:Bool) (right:List (Bool×Nat)):Pr:=⟨name,left,right,rn,yU true 3,false,0,[],true,false,0,0,0,0⟩
def rh (L:List Lv) (p:Nat):Bool:=L.any λl=>l.pR.any λx=>decide (x=p)
def aQ7 (S:aT P X GL ae) (F:bz8 ae) {i:Nat}:bg P X GL ae 40 [ι (i)] (.ag (dO (true,i))):=by
 refine bg.intro λC E=> ?_;refine E.bS (F.f 40) (Y0 ?_);exact⟨9,nX (n:=8) (yX (true,i))⟩
def aQ8 (S:aT P X GL ae) (F:bz8 ae) {i:Nat}:bg P X GL ae 41 [ι (i)] (.ag (dO (false,i))):=by
 refine bg.intro λC E=> ?_;refine E.bS (F.f 41) (Y0 ?_);exact⟨9,nX (n:=8) (yX (false,i))⟩
def J3 {i:Nat} h:bP P X GL 40 [ι (i)] h (.ag (dO (true,i))) h:=dR S (aQ7 S F) (n:=1) (by rfl) h
def SY {i:Nat} h:bP P X GL 41 [ι (i)] h (.ag (dO (false,i))) h:=dR S (aQ8 S F) (n:=1) (by rfl) h
def aQ9 {name rn right}:bg P X GL ae 89 [.s name,ι (left),eR dO 2 rn right] (.ag (aM (oO name left rn right))):=by
 have rc:=λbb h=>Bp (GL:=GL) S R bb h;simp only[eT,eD] at rc;refine bg.intro λC E=> ?_;refine E.bS (F.f 89) (Y0 ?_);refine E.cN (rc _ _) (Y0 ?_);exact⟨9,qy (p:=oO name left rn right)⟩
def aR0 {L:List Lv} {i l} (h:L[i]? =some l):sub (L.flatMap iK) (i*4) 1=some [eR cI 1 true l.pR]:=by
 have:=cW Ev h (j:=0) (n:=1) ω;simpa[iK] using this
def aR1 (S:aT P X GL ae) (F:bz8 ae) {g} {p:Nat} (ok:oy g):bg P X GL ae 175 [aI g,ι (p)] (.b (rh g.lV p)):=by
 refine bg.intro λC E=> ?_;have b0:=ok.ll;refine E.bS (F.f 175) (Y1 @aI.eq_1 ?_);refine fj E.ok g.lV.length (λi τ h=>cG (h.oB.get 0)=some (bx g)/\ (∀j l,j<i ->g.lV[j]? =some l ->l.pR.any (λx=>decide (x=p))=false)/\ τ.get 1=some (ι (p:Int))/\ τ.get 2=some (.p 0 0)/\ τ.get 5=some (ι (i:Int))) ?_ ?_ _ _ ⟨?_,?_,?_,?_,?_⟩
 ·rintro i τ ⟨n1,ver,ob⟩ hi ⟨c0,J,t1,t2,t5⟩ ih;have D:g.lV[i]? =some g.lV[i]:=ef hi;have N:=aR0 D;generalize g.lV[i]=l at D N;have b1:=(ok.l l (dI D)).2.2;have L:=c0;dsimp only at c0;simp only[bx] at c0;refine Y3 c0 t2 t5 ?_;refine fj E.ok l.pR.length (λk τ h=>cG (h.oB.get 0)=some (bx g)/\ (∀j x,j<k ->l.pR[j]? =some x ->x≠p)/\ τ.get 1=some (ι (p:Int))/\ τ.get 2=some (.p 0 0)/\ τ.get 5=some (ι (i:Int))/\ τ.get 6=some (ι (k:Int))) ?_ ?_ _ _ ⟨?_,?_,?_,?_,?_,?_⟩;rintro k τ ⟨n1,ver,ob⟩ Z ⟨c0,V,t1,t2,t5,t6⟩ W;have G:l.pR[k]? =some l.pR[k]:=ef Z;have ek:sub (l.pR.flatMap cI) k 1=some [ι ((l.pR[k]:Nat):Int)]:=by
   have:=cW qw G (j:=0) (n:=1) ω;simpa[cI] using this
  generalize l.pR[k]=y at G ek;have L:=c0;dsimp only at c0;simp only[bx] at c0;by_cases Y:y=p;have I:((y:Int)=(p:Int))=True:=cJ;refine Y8 c0 t1 t2 t5 t6 N ek I ?_;refine⟨1,?_⟩;have:rh g.lV p=true:=qK.2 ⟨l,dI D,qK.2 ⟨y,dI G,by simp only[Y,mC]⟩⟩;rw[this];rfl
  ·have I:((y:Int)=(p:Int))=False:=cE;refine Y8 c0 t1 t2 t5 t6 N ek I ?_;refine W _ _ ⟨L,?_,?_,?_,?_,?_⟩;intro j x O B;by_cases H:j=k;subst H;rw[G] at B;injection B with B;exact B▸Y
   exact V j x ω B;all_goals exact U3 t1 t2 t5
  ·rintro τ ⟨n1,ver,ob⟩ ⟨c0,V,t1,t2,t5,t6⟩;have L:=c0;dsimp only at c0;simp only[bx] at c0;refine Y5 c0 t2 t5 t6 N ?_;refine ih _ _ ⟨L,?_,?_,?_,?_⟩;intro j l' O B;by_cases H:j=i;subst H;rw[D] at B;injection B with B;subst B
   refine P6.2 λx U=> ?_;obtain⟨j,J⟩:=List.getElem?_of_mem U;have:=V j x (eC.1 J).1 J;simp only[aU];exact this;exact J j l' ω B;all_goals exact U3 t1 t2 t5
  exact L;intro j x h;omega;all_goals exact U4 t1 t2 t5 @qJ
 rintro τ ⟨n1,ver,ob⟩ ⟨c0,J,t1,t2,t5⟩;dsimp only at c0;simp only[bx] at c0;refine Y3 c0 t2 t5 ?_;refine⟨1,?_⟩;have:rh g.lV p=false:=P6.2 λl U=>by
  obtain⟨j,O⟩:=List.getElem?_of_mem U;rw[J j l (eC.1 O).1 O];decide
 rw[this];rfl;exact U0;intro j l h;omega;all_goals exact U1 @qJ
def EA (W:AV) (bs:List Nat):Prop:=(∀b∈bs,b<256)/\ ((W= .sn/\ bs=[])∨(∃L:List AV,W= .ds L 0 bs.length 1/\∀(i b:Nat),bs[i]? =some b ->L[i]? =some (.i .u8 (b:Int))))
def l9 (n b:Nat):Bool×Nat:=if b%14<9 then (true,b%14) else (false,(b%14-9)%n)
def gP (n:Nat) (bs:List Nat):List (Bool×Nat):=(bs.take 4).map (l9 n)
def tO (l:List (Bool×Nat)):Nat:=(l.filter (·.1)).length
def oP (a:Nat) (l:List (Bool×Nat)):Bool:=l.all λs=>s.1||decide (a<s.2)
def J4 (h:AH) (y:AV):da:=match y with
 | .s _=> .bad
 |y=>match eI h 1 y with
  |some l=>match mE l with|some b=> .v (.s b) h|none=> .bad
  |none=> .bad
def SZ {ev h x}:step ev h (.b2s x)=J4 h (ev x):=rfl
def aR2 {h} {o b:Nat} {c} (hb:b<256) (j:cG (h.oB.get o)=some [.i .u8 (b)]):J4 h (.sl o 0 1 c 1)= .v (.s [b]) h:=by
 have e1:eI h 1 (.sl o 0 1 c 1)=some [.i .u8 (b:Int)]:=wH (show h.cells o=some _ from j) (mM rfl);have e2:mE [.i .u8 (b:Int)]=some [b]:=by
  have e3:xM (.i .u8 (b:Int))=some b:=by
   show(bif Nat.ble b 255 then some b else none)=some b;rw[wX,zG ω];rfl
  show eM xM [AV.i .u8 (b:Int)]=_;rw[M0,e3];rfl
 show(match eI h 1 (.sl o 0 1 c 1) with|some l=>(match mE l with|some b=>da.v (.s b) h|none=> .bad)|none=> .bad)=_;rw[e1];show(match mE [.i .u8 (b:Int)] with|some b=>da.v (.s b) h|none=> .bad)=_;rw[e2]
def xC (left:Nat) (W:AV) (ii mk:Nat):List AV:=[.i .u8 (left:Int),W,.i .u8 (ii:Int),.i .u8 (mk:Int)]
def cP (name:List Nat) (a:Nat) (V:AV):List AV:=[.s name,ι (a:Int),V,tp (aE (yU true 3)).1,ι ((aE (yU true 3)).2:Int),.b false,ι 0,.sn,.b false,ι 0,ι 0,ι 0,ι 0]
def S0 (h:AH) (R:List (Bool×Nat)) (V:AV):Prop:=(R=[]/\ V= .sn)∨∃o n,R.length=n+1/\ V= .sl o 0 (n+1) none 2/\ 5<=o/\ o<h.next/\ cG (h.oB.get o)=some (R.flatMap dO)
structure LI (g:Gr) (W:AV) (left ii mk:Nat) (name:List Nat) (a:Nat) (R:List (Bool×Nat)) (τ:T AV) (h:AH):Prop where
 c0:cG (h.oB.get 0)=some (bx g)
 c1:cG (h.oB.get 1)=some (xC left W ii mk)
 c2:cG (h.oB.get 2)=some [.sn,.sn,ι 0,.sn,.sn,.sn,ι 0,.sn,.sn]
 c3:∃V,cG (h.oB.get 3)=some (cP name a V)/\ S0 h R V
 nx:5<=h.next
 t3:τ.get 3=some (.p 0 0)
 t4:τ.get 4=some (.p 1 0)
 t6:τ.get 6=some (.p 2 0)
 t7:τ.get 7=some (ι (g.nT.length:Int))
 t8:τ.get 8=some (.p 3 0)
 t9:τ.get 9=some (ι (tO R:Int))
 t10:τ.get 10=some (.b (oP a R))
abbrev EB:List Fr:=[.b 0,.s PO]
def J5 {R s}:tO (R++[s])=tO R+(if s.1 then 1 else 0):=by
 unfold tO;rw[List.filter_append,dy];rcases s with ⟨_|_,n⟩<;>rfl
def J6 {a R s}:oP a (R++[s])=(oP a R&&(s.1||decide (a<s.2))):=by
 unfold oP;rw[List.all_append];simp
variable {C:aK Prop} (E:Sem P X GL ae C)
def aR3 (F:bz8 ae) {g} (ok:oy g) {ii mk W bs} (hX:EA W bs) (hn:nice 64 W=true) {kn name a} K
 {τ h} (L:LI g W left ii mk name a [] τ h) (t2:τ.get 2=some (.b kn)) (B:τ.get 11=some (ι 0)) (hb)
 (U:∀τ' h',LI g W left ii mk name a [l9 g.nT.length bs[0]] τ' h' ->τ'.get 2=some (.b kn) ->τ'.get 11=some (ι ((0+1:Nat):Int)) ->df C (.loop (.seq (.seq DJ (.cond (.t 38) .skip (.exit 0))) DK)) EB K τ' h'):
 df C (.seq (.seq DJ (.cond (.t 38) .skip (.exit 0))) DK) (.s (.loop (.seq (.seq DJ (.cond (.t 38) .skip (.exit 0))) DK))::EB) K τ h:=by
 obtain⟨n1,v1,ob⟩:=h;obtain⟨c0,c1,c2,⟨V,c3,hV⟩,nx,t3,t4,t6,t7,t8,t9,t10⟩:=L;rcases hX with ⟨aV,⟨rfl,rfl⟩|⟨Lw,rfl,hL⟩⟩;simp at hb;have N:bs[0]? =some bs[0]:=ef hb;have G:=aV _ (dI N);have eb:=hL 0 _ N;generalize bs[0]=b at*;have D:V= .sn:=by
  rcases hV with ⟨-,h⟩|⟨o,n,h,-⟩;exact h;cases h
 subst D;simp only[cP] at c3;simp only[xC] at c1;have bQ:5<=n1:=nx;dsimp only at c0 c1 c2 c3;have rc:=λi h=>J3 (GL:=GL) S F (i:=i) h;have nc:=λi h=>SY (GL:=GL) S F (i:=i) h;simp only[dO] at rc nc;have Y:sub Lw 0 1=some [.i .u8 (b:Int)]:=qY eb;have wb:dN .i64 (b:Int)=(b:Int):=lj ω;have r14:aY .rem (ι (b:Int)) (ι 14)=some (ι ((b%14:Nat):Int)):=iA (c:=14) ω;have J:tO []=0:=rfl;have I:oP a []=true:=rfl;rw[J] at t9;rw[I] at t10;by_cases O:b%14<9
 ·have H:(((b%14:Nat):Int)<9)=True:=cJ;refine Z9 c1 c3 t4 t8 B Y wb r14 H ?_;refine E.cN (rc _ _) (Z5 c3 t8 t9 B @iB ?_);have j:l9 g.nT.length b=(true,b%14):=by unfold l9;rw[aF O]
  refine U _ _ { c0:= ?_,c1:= ?_,c2:= ?_,c3:=⟨_,?_,.inr ⟨n1+1,0,rfl,rfl,by omega,by show n1+1<n1+1+1;omega,?_⟩⟩,nx:=by show 5<=n1+1+1;omega,t3:= ?_,t4:= ?_,t6:= ?_,t7:= ?_,t8:= ?_,t9:= ?_,t10:= ?_ } ?_ ?_
  any_goals simp only[T.get_put,Nat.reduceEqDiff,reduceIte,t2,t3,t4,t6,t7,t8,t10]
  exact U1 c0;exact U2 c1 @xC.eq_1;exact U1 c2;simp only[d9];rfl;simp(disch:=omega) only[dh,bV,d9];rw[j];rfl;rw[j];rfl;rw[j];rfl;rfl
 ·have H:(((b%14:Nat):Int)<9)=False:=cE;have Z:aY .sub (ι ((b%14:Nat):Int)) (ι 9)=some (ι ((b%14-9:Nat):Int)):=qV (b:=9) ω;have rn:aY .rem (ι ((b%14-9:Nat):Int)) (ι (g.nT.length:Int))=some (ι (((b%14-9)%g.nT.length:Nat):Int)):=iA (by have:=ok.ntl;omega);have j:l9 g.nT.length b=(false,(b%14-9)%g.nT.length):=by unfold l9;rw[aD O]
  have lc:((a:Int)<(((b%14-9)%g.nT.length:Nat):Int))=(a<(b%14-9)%g.nT.length):=propext Int.ofNat_lt;refine lX c1 c3 t4 t7 t8 B Y wb r14 H Z rn ?_;refine E.cN (nc _ _) (Z9 c3 t7 t8 t10 B Z rn lc @iB ?_);refine U _ _ { c0:= ?_,c1:= ?_,c2:= ?_,c3:=⟨_,?_,.inr ⟨n1+1,0,rfl,rfl,by omega,by show n1+1<n1+1+1;omega,?_⟩⟩,nx:=by show 5<=n1+1+1;omega,t3:= ?_,t4:= ?_,t6:= ?_,t7:= ?_,t8:= ?_,t9:= ?_,t10:= ?_ } ?_ ?_
  any_goals simp only[T.get_put,Nat.reduceEqDiff,reduceIte,t2,t3,t4,t6,t7,t8,t9,t10]
  exact U1 c0;exact U2 c1 @xC.eq_1;exact U1 c2;simp only[d9];rfl;simp(disch:=omega) only[dh,bV,d9];rw[j];rfl;rw[j];rfl;rw[j];unfold oP;simp;rfl
def aR4 (F:bz8 ae) {g} (ok:oy g) {ii mk W bs} (hX:EA W bs) (hn:nice 64 W=true) {kn name a R n} (G:R.length=n+1) K
 {τ h} (L:LI g W left ii mk name a R τ h) (t2:τ.get 2=some (.b kn)) (D:τ.get 11=some (ι ((n+1:Nat):Int))) (b2:n+1<4) (hb)
 (Y:∀τ' h',LI g W left ii mk name a (R++[l9 g.nT.length bs[n+1]]) τ' h' ->τ'.get 2=some (.b kn) ->τ'.get 11=some (ι ((n+1+1:Nat):Int)) ->df C (.loop (.seq (.seq DJ (.cond (.t 38) .skip (.exit 0))) DK)) EB K τ' h'):
 df C (.seq (.seq DJ (.cond (.t 38) .skip (.exit 0))) DK) (.s (.loop (.seq (.seq DJ (.cond (.t 38) .skip (.exit 0))) DK))::EB) K τ h:=by
 obtain⟨n1,v1,ob⟩:=h;obtain⟨c0,c1,c2,⟨V,c3,hV⟩,nx,t3,t4,t6,t7,t8,t9,t10⟩:=L;rcases hX with ⟨aV,⟨rfl,rfl⟩|⟨Lw,rfl,hL⟩⟩;simp at hb;have b0:bs[n+1]? =some bs[n+1]:=ef hb;have N:=aV _ (dI b0);have eb:=hL (n+1) _ b0;generalize bs[n+1]=b at*;rcases hV with ⟨rfl,-⟩|⟨o,n',b1,rfl,o5,lo,H⟩;cases G;have en:n'=n:=by omega
 subst en;have b3:o<n1:=lo;have O:(R.flatMap dO).length=(n'+1)*2:=by rw[kh gO,G]
 dsimp only at H;simp only[cP] at c3;simp only[xC] at c1;have bQ:5<=n1:=nx;dsimp only at c0 c1 c2 c3;have rc:=λi h=>J3 (GL:=GL) S F (i:=i) h;have nc:=λi h=>SY (GL:=GL) S F (i:=i) h;have B:n'+1<bs.length:=hb;simp only[dO] at rc nc;have Z:sub Lw (n'+1) 1=some [.i .u8 (b:Int)]:=qY eb;have wb:dN .i64 (b:Int)=(b:Int):=lj ω;have r14:aY .rem (ι (b:Int)) (ι 14)=some (ι ((b%14:Nat):Int)):=iA (c:=14) ω;have tl:tO R<=R.length:=List.length_filter_le _ _;have fl:∀s,(R++[s]).flatMap dO=R.flatMap dO++dO s:=λs=>by rw[Bd,pO]
 by_cases hk:b%14<9
 ·have I:(((b%14:Nat):Int)<9)=True:=cJ;refine qX c1 c3 B t4 t8 D Z wb r14 I ?_;refine E.cN (rc _ _) (Z7 c3 H O t8 t9 D @iB ?_);have j:l9 g.nT.length b=(true,b%14):=by unfold l9;rw[aF hk]
  refine Y _ _ { c0:= ?_,c1:= ?_,c2:= ?_,c3:=⟨_,?_,.inr ⟨n1+1,n'+1,by simp[G],rfl,by omega,by show n1+1<n1+1+1;omega,?_⟩⟩,nx:=by show 5<=n1+1+1;omega,t3:= ?_,t4:= ?_,t6:= ?_,t7:= ?_,t8:= ?_,t9:= ?_,t10:= ?_ } ?_ ?_
  any_goals simp only[T.get_put,Nat.reduceEqDiff,reduceIte,t2,t3,t4,t6,t7,t8,t10]
  exact U1 c0;exact U2 c1 @xC.eq_1;exact U1 c2;simp only[d9];rfl;simp(disch:=omega) only[dh,bV,d9];rw[j,fl];rfl;rw[j,J5];rfl;rw[j,J6];simp
 have I:(((b%14:Nat):Int)<9)=False:=cE;have J:aY .sub (ι ((b%14:Nat):Int)) (ι 9)=some (ι ((b%14-9:Nat):Int)):=qV (b:=9) ω;have rn:aY .rem (ι ((b%14-9:Nat):Int)) (ι (g.nT.length:Int))=some (ι (((b%14-9)%g.nT.length:Nat):Int)):=iA (by have:=ok.ntl;omega);have j:l9 g.nT.length b=(false,(b%14-9)%g.nT.length):=by unfold l9;rw[aD hk]
 have lc:((a:Int)<(((b%14-9)%g.nT.length:Nat):Int))=(a<(b%14-9)%g.nT.length):=propext Int.ofNat_lt;rcases U:oP a R with _|_<;>rw[U] at t10
 ·refine qt c1 c3 B t4 t7 t8 D Z wb r14 I J rn ?_;refine E.cN (nc _ _) (sC c3 H O t7 t8 t10 D J rn lc @iB ?_);refine Y _ _ { c0:= ?_,c1:= ?_,c2:= ?_,c3:=⟨_,?_,.inr ⟨n1+1,n'+1,by simp[G],rfl,by omega,by show n1+1<n1+1+1;omega,?_⟩⟩,nx:=by show 5<=n1+1+1;omega,t3:= ?_,t4:= ?_,t6:= ?_,t7:= ?_,t8:= ?_,t9:= ?_,t10:= ?_ } ?_ ?_
  any_goals simp only[T.get_put,Nat.reduceEqDiff,reduceIte,t2,t3,t4,t6,t7,t8,t9,t10]
  exact U1 c0;exact U2 c1 @xC.eq_1;exact U1 c2;simp only[d9];rfl;simp(disch:=omega) only[dh,bV,d9];rw[j,fl];rfl;rw[j,J5];rfl;rw[j,J6,U];simp
 ·refine qt c1 c3 B t4 t7 t8 D Z wb r14 I J rn ?_;refine E.cN (nc _ _) (sC c3 H O t7 t8 t10 D J rn lc @iB ?_);refine Y _ _ { c0:= ?_,c1:= ?_,c2:= ?_,c3:=⟨_,?_,.inr ⟨n1+1,n'+1,by simp[G],rfl,by omega,by show n1+1<n1+1+1;omega,?_⟩⟩,nx:=by show 5<=n1+1+1;omega,t3:= ?_,t4:= ?_,t6:= ?_,t7:= ?_,t8:= ?_,t9:= ?_,t10:= ?_ } ?_ ?_
  any_goals simp only[T.get_put,Nat.reduceEqDiff,reduceIte,t2,t3,t4,t6,t7,t8,t9,t10]
  exact U1 c0;exact U2 c1 @xC.eq_1;exact U1 c2;simp only[d9];rfl;simp(disch:=omega) only[dh,bV,d9];rw[j,fl];rfl;rw[j,J5];rfl;rw[j,J6,U];simp
end
end AM
