import Derived.Test.YtihgjngjidijaaaGreatDoorN16
set_option linter.all false
set_option maxHeartbeats 4000000
namespace AM
open Dg Go
noncomputable section
def y9 (b k:Nat):Bool:=decide (b/2^k%2=1)
def jR (b:Nat):Nat ->Nat ->Nat ->Tr
 |0,_,k=>eu (y9 b k) 3
 |d+1,v,k=>cY (λx y=>x||y) (cY (λx y=>x&&y) (je v) (jR b d (v+1) (k+2^v))) (cY (λx y=>x&&y) (jR b d (v+1) k) (cY (λx y=>x !=y) (je v) (eu true 3)))
def sI {b:Nat}:∀d v k,cA 3 (jR b d v k)=true
 |0,_,_=>ph 3
 |d+1,v,k=>jd (jd qu (sI d _ _)) (jd (sI d _ _) (jd qu (ph 3)))
def Ex {b n:Nat} (hn:n<=3):∀d v k,v+d=n ->jq n (jR b d v k)=true
 |0,_,_,_=>yQ 3 n
 |d+1,v,k,h=>by
  have h1:jq n (je v)=true:=IV ω hn;exact uY (jd qu (sI d _ _)) (jd (sI d _ _) (jd qu (ph 3))) (uY qu (sI d _ _) h1 (Ex hn d _ _ ω))
   (uY (sI d _ _) (jd qu (ph 3)) (Ex hn d _ _ ω) (uY qu (ph 3) h1 (yQ 3 n)))
inductive xa:AV ->Nat ->Prop
 |sn:xa .sn 0
 |nil (L:List AV):xa (.ds L 0 0 1) 0
 |ds (L:List AV) (n b:Nat) (hb:b<256) (hL:L[0]? =some (.i .u8 (b:Int))):xa (.ds L 0 (n+1) 1) b
variable {P:Program} {X:aR} {GL:T (List AV)} {ae:T au}
def SV {k:Nat}:y9 0 k=false:=by simp[y9]
variable (S:aT P X GL ae)
def aP7 (F:eL ae) (A:dY P X GL) {l:AV} {b n:Nat} (bv:xa l b) (nk:nice 64 l=true) (dl:deep 9 h0 l=some l) (hn:n<=3):∀d v (k:Nat),v+d=n ->k<2^v ->bg P X GL ae 163 [l,ι (n:Int),ι (v:Int),ι (k:Int)] (eT (jR b d v k)):=by
 intro d;induction d with
 |zero=>
  intro v k hv hk;have k8:k<8:=iR hk (show 2^v<=2^3 from rJ ω ω);have vn:v=n:=by omega
  have q0:aY .quo (ι (k:Int)) (ι 8)=some (ι 0):=by
   have:=Rj (a:=k) (c:=8) ⟨by omega,by omega⟩;rw[Nat.div_eq_of_lt k8] at this;exact this
  have r0:aY .rem (ι (k:Int)) (ι 8)=some (ι (k:Int)):=by
   have:=iA (a:=k) (c:=8) ω;rw[Cb k8] at this;exact this
  have rc:=λbb h=>Bp (GL:=GL) S F bb h;simp only[eT,eD,IU] at rc;refine bg.intro λC E=> ?_;rw[E.cB F.f163];cases bv with
  |sn=>
   refine Y3 @Bi.eq_1 @h0.eq_1 q0 ?_;refine E.cN (rc _ _) (Y0 ?_);exact⟨1,by rw[jR,SV];rfl⟩
  |nil L=>
   have lL:∀h,kg h (.ds L 0 0 1)= .v (ι 0) h:=λh=>rfl;refine Y5 @Bi.eq_1 @h0.eq_1 q0 nk lL ?_;refine E.cN (rc _ _) (Y0 ?_);exact⟨1,by rw[jR,SV];rfl⟩
  |ds L m b hb hL=>
   have lL:∀h,kg h (.ds L 0 (m+1) 1)= .v (ι ((m+1:Nat):Int)) h:=λh=>rfl;have ia:∀h,nU h 1 0 (.ds L 0 (m+1) 1)= .v (.dp L 0) h:=λh=>by rw[yR,aF ⟨rfl,by omega⟩]
   have nkp:nice 64 (.dp L 0)=true:=by rw[fK];rw[nN] at nk;exact nk
   have s0:sub L 0 1=some [.i .u8 (b:Int)]:=qY hL;have sh:aY .shr (.i .u8 (b:Int)) (.i .u64 (k:Int))=some (.i .u8 ((b/2^k:Nat):Int)):=az9 ω;have an:aY .and (.i .u8 ((b/2^k:Nat):Int)) (.i .u8 1)=some (.i .u8 ((b/2^k%2:Nat):Int)):=aA0 (Ca (Ft _ _) hb);have wu:dN .u64 (k:Int)=(k:Int):=Ri ω;have hm1:(0:Int)<((m+1:Nat):Int):=by omega
   refine pm @Bi.eq_1 @h0.eq_1 q0 r0 nk nkp lL ia s0 sh an wu hm1 ?_;have e:decide (((b/2^k%2:Nat):Int)=1)=y9 b k:=by
    unfold y9;by_cases q:b/2^k%2=1
    ·rw[q];rfl
    ·have q':¬(((b/2^k%2:Nat):Int)=1):=by omega
     rw[ot q,ot q']
   rw[e];refine E.cN (rc _ _) (Y2 @IU @cu.eq_1 ?_);exact⟨1,by show _=some (eT (eu (y9 b k) 3));unfold eT;rw[IU];rfl⟩
 |succ d ih=>
  intro v k hv hk;have k8:k<8:=iR hk (show 2^v<=2^3 from rJ ω ω);have v3:v<3:=by omega
  have p4:2^v<=4:=by rcases(show v=0∨v=1∨v=2 by omega) with rfl|rfl|rfl<;>decide
  have ne:((v:Int)=(n:Int))=False:=by simp;omega
  have wu:dN .u64 (v:Int)=(v:Int):=Ri ω;have sl:aY .shl (ι 1) (.i .u64 (v:Int))=some (ι ((2^v:Nat):Int)):=aA1 ω;have ak:aY .add (ι (k:Int)) (ι ((2^v:Nat):Int))=some (ι ((k+2^v:Nat):Int)):=oH ω;have p1:2^(v+1)=2^v+2^v:=by rw[Nat.pow_succ];omega
  have t1:=ih (v+1) (k+2^v) ω ω;have t2:=ih (v+1) k ω ω;have dd:∀a b c,bJ 9 h0 [l,ι a,ι b,ι c]=some [l,ι a,ι b,ι c]:=λa b c=>by simp only[aL,bZ,dl,dH]
  have c1:=λh=>dR S t1 (dd _ _ _) h;have c2:=λh=>dR S t2 (dd _ _ _) h;have rv:=λh=>Rt (GL:=GL) S F v3 h;have iv:= @qu v;have i1:=sI (b:=b) d (v+1) (k+2^v);have i2:=sI (b:=b) d (v+1) k;have m1:=λh=>Rs S F (A _ iv) (A _ i1) h;have m2:=λh=>aI7 S F A i2 iv h;have m3:=λh=>aI0 S F (A _ (jd (g:=λx y=>x&&y) iv i1)) (A _ (jd (g:=λx y=>x&&y) i2 (jd (g:=λx y=>x !=y) iv (ph (b:=true) 3)))) h;simp only[eT,eD] at c1 c2 rv m1 m2 m3;refine bg.intro λC E=> ?_;refine E.bS F.f163 (Y4 @Bi.eq_1 @h0.eq_1 nk ne ?_);refine E.cN (rv _) (Y6 nk wu sl ak @bK @ec ?_);refine E.cN (c1 _) (Y6 nk wu sl ak @bK @ec ?_);refine E.cN (m1 _) (Y6 nk wu sl ak @bK @ec ?_);refine E.cN (c2 _) (Y6 nk wu sl ak @bK @ec ?_);refine E.cN (m2 _) (Y6 nk wu sl ak @bK @ec ?_);refine E.cN (m3 _) (Y6 nk wu sl ak @bK @ec ?_);exact⟨2,by rw[jR];unfold eT eD;rw[nX];simp only[aL,bZ,nW,dH]⟩
def J1 (F:eL ae) (A:dY P X GL) {l:AV} {b n:Nat} (bv:xa l b) (nk:nice 64 l=true) (dl:deep 9 h0 l=some l) (hn:n<=3):bg P X GL ae 81 [l,ι (n:Int)] (eT (jR b n 0 0)):=by
 have t1:=aP7 S F A bv nk dl hn n 0 0 ω (by decide);have c1:=λh=>dR S t1 (n:=9) (by simp only[aL,bZ,dl,dH]) h;simp only[eT,eD,qJ] at c1;refine bg.intro λC E=> ?_;rw[E.cB F.f81];have n6:((6:Int)<(n:Int))=False:=by simp;omega
 have n0:((0:Int)<(n:Int))=(0<n):=by simp
 by_cases hz:0<n
 ·refine Y7 @Ir.eq_1 @h0.eq_1 nk @jP n6 n0 hz ?_;refine E.cN (c1 _) (Y1 @ec ?_);exact⟨9,jB _ _⟩
 ·obtain rfl:n=0:=by omega
  refine Y7 @Ir.eq_1 @h0.eq_1 nk @jP n6 n0 hz ?_;refine E.cN (c1 _) (Y1 @ec ?_);exact⟨9,jB _ _⟩
def Ey (t:Tr):Tr:=cY (λx y=>x !=y) t (eu true 3)
def da (b n:Nat):Tr:=if n=0∨b%6<3 then eu true 3 else if b%6=3 then je (b/6%n) else if b%6=4 then Ey (je (b/6%n)) else jR b n 0 0
def aP8 {b n:Nat}:cA 3 (da b n)=true:=by
 unfold da;split
 ·exact ph 3
 ·split
  ·exact qu
  ·split
   ·exact jd qu (ph 3)
   ·exact sI _ _ _
def aP9 {b n:Nat} (hn:n<=3):jq n (da b n)=true:=by
 unfold da;split
 ·exact yQ 3 n
 ·rename_i h;have hv:b/6%n<n:=jv _ ω;split
  ·exact IV hv hn
  ·split
   ·exact uY qu (ph 3) (IV hv hn) (yQ 3 n)
   ·exact Ex hn n 0 0 ω
def J2 {f:Nat} {args dargs:List AV} {d:AV} (hp:bg P X GL ae f dargs d) {m v o vo n:Nat} {c:List AV} {t:T bC} (ht:t.get o=some (.cells vo c)) (ha:bJ n ⟨m,v,T.e.put o (.cells vo c)⟩ args=some dargs):
 bP P X GL f args ⟨m,v,t⟩ d ⟨m,v,t.put o .gone⟩:=by
 have e1:qT ⟨m,v,t⟩ [o]=⟨m,v,T.e.put o (.cells vo c)⟩:=by
  show(⟨m,v,(match t.get o with|some (.cells v c)=>T.e.put o (.cells v c)|_=>T.e)⟩:AH)=_;rw[ht]
 have e2:tE ⟨m,v,t⟩ [o]=⟨m,v,t.put o .gone⟩:=by
  have:mP ⟨m,v,t⟩ o=true:=by unfold mP;rw[ht]
  show(⟨m,v,(bif mP ⟨m,v,t⟩ o then t.put o .gone else t)⟩:AH)=_;rw[this];rfl
 have:=Dq S hp (h:=⟨m,v,t⟩) (l:=[o]) (n:=n) (by rw[e1];exact ha)
 rwa [e2] at this
def aQ0 (R:eL ae) (F:hZ ae) {v:Nat} (hv:v<3):bg P X GL ae 271 [ι (v:Int)] (eT (je v)):=by
 have rv:=λh=>Rt (GL:=GL) S R hv h;simp only[eT,eD] at rv;refine bg.intro λC E=> ?_;refine E.bS F.f271 (Y2 @Sa.eq_1 @h0.eq_1 ?_);refine E.cN (rv _) (Y1 @ec ?_);exact⟨9,jB _ _⟩
def aQ1 (R:eL ae) (F:hZ ae) {v:Nat} (hv:v<3) (h:AH):bP P X GL 271 [ι (v:Int)] h (eT (je v)) h:=dR S (aQ0 S R F hv) (n:=1) (by rfl) h
def Ez (R:eL ae) (A:dY P X GL) (F:hZ ae) {b n:Nat} (hb:b<256) (hn:n<=3):bg P X GL ae 164 [.i .u8 (b:Int),ι (n:Int)] (eT (da b n)):=by
 have rc:=λbb h=>Bp (GL:=GL) S R bb h;have r6:aY .rem (.i .u8 (b:Int)) (.i .u8 6)=some (.i .u8 ((b%6:Nat):Int)):=tP (c:=6) ω;have q6:aY .quo (.i .u8 (b:Int)) (.i .u8 6)=some (.i .u8 ((b/6:Nat):Int)):=D8 (c:=6) ⟨by omega,hb⟩;have wq:dN .i64 ((b/6:Nat):Int)=((b/6:Nat):Int):=lj ω;by_cases h0':n=0
 ·subst h0';simp only[eT,eD] at rc;refine bg.intro λC E=> ?_;refine E.bS F.f164 (Y4 @Eo.eq_1 @h0.eq_1 r6 qJ ?_);refine E.cN (rc _ _) (Y1 @ec ?_);exact⟨9,by rw[da,aF (.inl rfl)];exact jB _ _⟩
 have hz:((n:Int)=0)=False:=by simp;omega
 by_cases h1:b%6<3
 ·have l3:((b%6:Nat):Int)<3:=by omega
  simp only[eT,eD] at rc;refine bg.intro λC E=> ?_;refine E.bS F.f164 (Y5 @Eo.eq_1 @h0.eq_1 r6 hz l3 ?_);refine E.cN (rc _ _) (Y1 @ec ?_);exact⟨9,by rw[da,aF (.inr h1)];exact jB _ _⟩
 have l3:(((b%6:Nat):Int)<3)=False:=by simp;omega
 have rn:aY .rem (ι ((b/6:Nat):Int)) (ι (n:Int))=some (ι ((b/6%n:Nat):Int)):=iA ω;have hv:b/6%n<3:=iR (jv _ ω) hn;have cv:=λh=>aQ1 (GL:=GL) S R F hv h;have cc:=λh=>Rv S R A (qu (v:=b/6%n)) h;have hs:da b n=if b%6=3 then je (b/6%n) else if b%6=4 then Ey (je (b/6%n)) else jR b n 0 0:=by
  rw[da,aD ω]
 simp only[eT,eD] at cv cc;refine bg.intro λC E=> ?_;refine E.bS F.f164 (Y8 @Eo.eq_1 @h0.eq_1 r6 hz l3 q6 wq rn ?_);refine E.cN (cv _) ?_;rcases(show b%6=3∨b%6=4∨b%6=5 by omega) with k|k|k
 ·refine Y3 @ec r6 k ?_;exact⟨9,by rw[hs,aF k];exact jB _ _⟩
 ·refine Y3 @ec r6 k ?_;refine E.cN (cc _) (Y1 @ec ?_);exact⟨9,by rw[hs,aD ω,aF k];exact jB _ _⟩
 ·have mp:=J1 S R A (xa.ds [.i .u8 (b:Int)] 0 b hb rfl) (by simp only[nN,iu,iq,j9,g9]) (by rfl) hn;refine Y3 @ec r6 k ?_;refine E.cN (J2 (o:=2) (vo:=1) (c:=[.i .u8 (b:Int)]) (n:=9) S mp (by exact U0) (by rfl)) (Y3 @ec @eT.eq_1 @eD.eq_1 ?_);exact⟨9,by rw[hs,aD ω,aD ω];exact jB _ _⟩
def rf (p:Pr) (m:Nat):Pr:=
 if p.right.length=0 then p else
 if m%8=1 then { p with rank:=1 } else
 if m%8=2 then { p with rank:= -1 } else
 if m%8=3 then { p with br:=u7 p } else
 if m%8=4 then { p with lay:=[(1+m/8%4,m/8/4%p.right.length,if m/8%4=0 then 0 else p.right.length-1)] } else
 if m%8=5 then { p with opens:=true } else
 if m%8=6 then (if (p.right.getD (m/8%p.right.length) (false,0)).1 then { p with dec:=m/8%p.right.length+1,kind:=1+m/8%2 } else p) else
 if m%8=7 then (if (p.right.getD (m/8%p.right.length) (false,0)).1 then { p with uses:=m/8%p.right.length+1,allow:=1+m/8%7 } else p) else p
def aQ2 {p:Pr} {m:Nat} (h:p.right.length=0):rf p m=p:=aF h
structure SW (p:Pr):Prop where
 rank:p.rank=0
 lay:p.lay=[]
 ln:p.ln=true
 opens:p.opens=false
 dec:p.dec=0
 kind:p.kind=0
 uses:p.uses=0
 allow:p.allow=0
 br:p.br=false
 len:p.right.length<=4
def qy {p:Pr} {h:AH}:deep 9 h (.ag (aM p))=some (.ag (aM p)):=nX (n:=8) (y7 (n:=7) p)
def gA {n:Nat} {h:AH} {o off len k:Nat} {c:Option Nat} {l l':List AV} (hc:cG (h.oB.get o)=some l) (hd:bJ n h l=some l'):deep (n+1) h (.sl o off len c k)=some (.ds l' off len k):=by
 have e1:deep (n+1) h (.sl o off len c k)=(match h.oB.get o with
  |some (.cells _ l)=>match bJ n h l with|some l=>some (.ds l off len k)|none=>none
  |_=>none):=rfl
 rw[e1];rcases ho:h.oB.get o with _|(_|_|_|_|_)<;>rw[ho] at hc<;>simp only[cG] at hc;all_goals first|(cases hc;done)|(injection hc with hc;subst hc;simp only[hd])
def SX {h:AH} {name:List Nat} {left:Nat} {right:List (Bool×Nat)} {rn:Bool} {cond:Tr} {br:Bool} {rank:Int} {lay:List Br} {ln opens:Bool} {dec kind uses allow:Nat} {X:AV} (hx:deep 8 h X=some (eR gH 3 ln lay)):
 deep 9 h (.ag [.s name,ι (left:Int),eR ba 2 rn right,cu (aE cond).1,ι ((aE cond).2:Int),.b br,ι rank,X,.b opens,ι (dec:Int),ι (kind:Int),ι (uses:Int),ι (allow:Int)])=some (.ag (aM ⟨name,left,right,rn,cond,br,rank,lay,ln,opens,dec,kind,uses,allow⟩)):=by
 have e:bJ 8 h [.s name,ι (left:Int),eR ba 2 rn right,cu (aE cond).1,ι ((aE cond).2:Int),.b br,ι rank,X,.b opens,ι (dec:Int),ι (kind:Int),ι (uses:Int),ι (allow:Int)]=some (aM ⟨name,left,right,rn,cond,br,rank,lay,ln,opens,dec,kind,uses,allow⟩):=by
  simp only[aM,aL,bZ,dH,yW,oK,nW (n:=7),dA (n:=7) yX,hx]
 have e1:∀l,deep 9 h (.ag l)=(match bJ 8 h l with|some l=>some (AV.ag l)|none=>none):=λ_=>rfl;rw[e1,e]
def aQ3 (G:jf ae) (F:hZ ae) {p:Pr} {m:Nat} (hm:m<256) (f:SW p):bg P X GL ae 165 [.ag (aM p),.i .u8 (m:Int)] (.ag (aM (rf p m))):=by
 have r8:aY .rem (.i .u8 (m:Int)) (.i .u8 8)=some (.i .u8 ((m%8:Nat):Int)):=tP (c:=8) ω;have q8:aY .quo (.i .u8 (m:Int)) (.i .u8 8)=some (.i .u8 ((m/8:Nat):Int)):=D8 (c:=8) ⟨by omega,hm⟩;have wq:dN .i64 ((m/8:Nat):Int)=((m/8:Nat):Int):=lj ω;have fl:=f.len;obtain⟨name,left,right,rn,cond,br,rank,lay,ln,opens,dec,kind,uses,allow⟩:=p;obtain⟨f1,f2,f3,f4,f5,f6,f7,f8,f9,-⟩:=f;simp only at f1 f2 f3 f4 f5 f6 f7 f8 f9 fl;subst f1 f2 f3 f4 f5 f6 f7 f8 f9;generalize hD:AV.ag (aM (rf ⟨name,left,right,rn,cond,false,0,[],true,false,0,0,0,0⟩ m))=D;refine bg.intro λC E=> ?_;rw[E.cB F.f165];by_cases h0':right.length=0
 ·have z:right=[]:=pM h0';subst z;refine Y4 @pu.eq_1 @h0.eq_1 @aM.eq_1 @qJ ?_;exact⟨9,by rw[←hD,aQ2 rfl];exact qy (p:=⟨name,left,[],rn,cond,false,0,[],true,false,0,0,0,0⟩)⟩
 have hz:((right.length:Int)=0)=False:=av;rw[rf,aD h0'] at hD;generalize hk:m/8=k at*;simp only at hD;have kl:k<32:=by rw[←hk];omega
 have qn:k%right.length<right.length:=jv _ ω;have rn4:aY .rem (ι (k:Int)) (ι (right.length:Int))=some (ι ((k%right.length:Nat):Int)):=iA ω;rcases(show m%8=0∨m%8=1∨m%8=2∨m%8=3∨m%8=4∨m%8=5∨m%8=6∨m%8=7 by omega) with j|j|j|j|j|j|j|j
 ·refine Y8 @pu.eq_1 @h0.eq_1 @aM.eq_1 hz r8 q8 wq j ?_;exact⟨9,by simp only[j,Nat.reduceEqDiff,reduceIte] at hD;rw[←hD];exact qy (p:=⟨name,left,right,rn,cond,false,0,[],true,false,0,0,0,0⟩)⟩
 ·refine Y8 @pu.eq_1 @h0.eq_1 @aM.eq_1 hz r8 q8 wq j ?_;exact⟨9,by simp only[j,Nat.reduceEqDiff,reduceIte] at hD;rw[←hD];exact qy (p:=⟨name,left,right,rn,cond,false,1,[],true,false,0,0,0,0⟩)⟩
 ·refine Y8 @pu.eq_1 @h0.eq_1 @aM.eq_1 hz r8 q8 wq j ?_;exact⟨9,by simp only[j,Nat.reduceEqDiff,reduceIte] at hD;rw[←hD];exact qy (p:=⟨name,left,right,rn,cond,false,-1,[],true,false,0,0,0,0⟩)⟩
 ·have bc:=λh=>aP4 (P:=P) (X:=X) (GL:=GL) (p:=⟨name,left,right,rn,cond,true,0,[],true,false,0,0,0,0⟩) S G rfl rfl rfl rfl rfl rfl rfl (by simp only;omega) h;simp only[aM,qJ] at bc;refine Y8 @pu.eq_1 @h0.eq_1 @aM.eq_1 hz r8 q8 wq j ?_;refine E.cN (bc _) (Y1 @ec ?_);exact⟨9,by simp only[j,Nat.reduceEqDiff,reduceIte] at hD;rw[←hD];exact qy (p:=⟨name,left,right,rn,cond,_,0,[],true,false,0,0,0,0⟩)⟩
 ·have a1:aY .rem (ι (k:Int)) (ι 4)=some (ι ((k%4:Nat):Int)):=iA (c:=4) ω;have a2:aY .quo (ι (k:Int)) (ι 4)=some (ι ((k/4:Nat):Int)):=Rj (c:=4) ω;have a3:aY .rem (ι ((k/4:Nat):Int)) (ι (right.length:Int))=some (ι ((k/4%right.length:Nat):Int)):=iA ω;have a4:aY .sub (ι (right.length:Int)) (ι 1)=some (ι ((right.length-1:Nat):Int)):=qV (b:=1) ω;have a5:aY .add (ι 1) (ι ((k%4:Nat):Int))=some (ι ((1+k%4:Nat):Int)):=oH (a:=1) ω;by_cases hk4:k%4=0
  ·have hi:(((k%4:Nat):Int)=0)=True:=cJ;refine qk @pu.eq_1 @h0.eq_1 @aM.eq_1 hz r8 q8 wq j a1 a2 a3 a4 a5 hi ?_;refine⟨9,?_⟩;simp only[j,Nat.reduceEqDiff,reduceIte,aF hk4] at hD;rw[←hD];exact SX (dec:=0) (kind:=0) (uses:=0) (allow:=0) (ln:=true) (lay:=[(1+k%4,k/4%right.length,0)]) (gA rfl rfl)
  ·have hi:(((k%4:Nat):Int)=0)=False:=av;refine qk @pu.eq_1 @h0.eq_1 @aM.eq_1 hz r8 q8 wq j a1 a2 a3 a4 a5 hi ?_;refine⟨9,?_⟩;simp only[j,Nat.reduceEqDiff,reduceIte,hk4] at hD;rw[←hD];exact SX (dec:=0) (kind:=0) (uses:=0) (allow:=0) (ln:=true) (lay:=[(1+k%4,k/4%right.length,right.length-1)]) (gA rfl rfl)
 ·refine Y8 @pu.eq_1 @h0.eq_1 @aM.eq_1 hz r8 q8 wq j ?_;exact⟨9,by simp only[j,Nat.reduceEqDiff,reduceIte] at hD;rw[←hD];exact qy (p:=⟨name,left,right,rn,cond,false,0,[],true,true,0,0,0,0⟩)⟩
 ·have aV:=cE qn;have e0:sub (right.flatMap ba) ((k%right.length)*2) 1=some [.b (right[k%right.length]).1]:=by
   have:=cW gO aV (j:=0) (n:=1) ω;simpa[ba] using this
  have a1:aY .rem (ι (k:Int)) (ι 2)=some (ι ((k%2:Nat):Int)):=iA (c:=2) ω;have a5:aY .add (ι 1) (ι ((k%2:Nat):Int))=some (ι ((1+k%2:Nat):Int)):=oH (a:=1) ω;have eg:right.getD (k%right.length) (false,0)=right[k%right.length]:=by rw[kX,aV];rfl
  simp only[j,Nat.reduceEqDiff,reduceIte,eg] at hD;cases hb:(right[k%right.length]).1
  ·rw[hb] at e0;simp only[hb,nr,bV] at hD;refine jC @pu.eq_1 @h0.eq_1 @aM.eq_1 hz r8 q8 wq j rn4 @bG e0 ?_;exact⟨9,by rw[←hD];exact qy (p:=⟨name,left,right,rn,cond,false,0,[],true,false,0,0,0,0⟩)⟩
  ·rw[hb] at e0;simp only[hb,dZ] at hD;refine qk @pu.eq_1 @h0.eq_1 @aM.eq_1 hz r8 q8 wq j rn4 @bG e0 @bK a1 a5 ?_;exact⟨9,by rw[←hD];exact qy (p:=⟨name,left,right,rn,cond,false,0,[],true,false,_,_,0,0⟩)⟩
 ·have aV:=cE qn;have e0:sub (right.flatMap ba) ((k%right.length)*2) 1=some [.b (right[k%right.length]).1]:=by
   have:=cW gO aV (j:=0) (n:=1) ω;simpa[ba] using this
  have a1:aY .rem (ι (k:Int)) (ι 7)=some (ι ((k%7:Nat):Int)):=iA (c:=7) ω;have a5:aY .add (ι 1) (ι ((k%7:Nat):Int))=some (ι ((1+k%7:Nat):Int)):=oH (a:=1) ω;have eg:right.getD (k%right.length) (false,0)=right[k%right.length]:=by rw[kX,aV];rfl
  simp only[j,Nat.reduceEqDiff,reduceIte,eg] at hD;cases hb:(right[k%right.length]).1
  ·rw[hb] at e0;simp only[hb,nr,bV] at hD;refine jC @pu.eq_1 @h0.eq_1 @aM.eq_1 hz r8 q8 wq j rn4 @bG e0 ?_;exact⟨9,by rw[←hD];exact qy (p:=⟨name,left,right,rn,cond,false,0,[],true,false,0,0,0,0⟩)⟩
  ·rw[hb] at e0;simp only[hb,dZ] at hD;refine qk @pu.eq_1 @h0.eq_1 @aM.eq_1 hz r8 q8 wq j rn4 @bG e0 @bK a1 a5 ?_;exact⟨9,by rw[←hD];exact qy (p:=⟨name,left,right,rn,cond,false,0,[],true,false,0,0,_,_⟩)⟩
def aQ4 {p:Pr} (h:u7 p=true):∃i j,p.right=[(true,i),(false,p.left),(true,j)]:=by
 unfold u7 at h;split at h
 ·rename_i s0 s1 s2 e;obtain⟨a0,b0⟩:=s0;obtain⟨a1,b1⟩:=s1;obtain⟨a2,b2⟩:=s2;simp only[aB,jH,aU] at h;obtain⟨rfl,rfl,rfl,rfl⟩:=h;exact⟨b0,b2,e⟩
 ·cases h
def aQ5 {nc nt:Nat} {p:Pr} {m:Nat} (hm:m<256) (f:SW p) (ok:sH nc nt p):sH nc nt (rf p m):=by
 have fl:=f.len;unfold rf;split
 ·exact ok
 have hl:0<p.right.length:=by omega
 have h1:m/8%p.right.length<p.right.length:=jv _ hl;have h2:m/8/4%p.right.length<p.right.length:=jv _ hl;have dec0:Bu p p.dec p.kind 1 7:= .inl ⟨f.dec,f.kind⟩;have br0:∀q:Pr,q.br=false ->(q.br=true ->SS q):=λq h h'=>by rw[h] at h';cases h'
 have hg:(p.right.getD (m/8%p.right.length) (false,0)).1=true ->∃j,p.right[m/8%p.right.length]? =some (true,j):=by
  rw[kX,cE h1];intro h;exact⟨_,by rw[←show p.right[m/8%p.right.length].1=true from h]⟩
 split
 ·exact { ok with rank:=⟨by simp only;omega,by simp only;omega⟩,br:=br0 _ f.br }
 split
 ·exact { ok with rank:=⟨by simp only;omega,by simp only;omega⟩,br:=br0 _ f.br }
 split
 ·refine { ok with br:=λh=> ?_ }
  obtain⟨i,j,e⟩:=aQ4 (p:=p) h;exact⟨f.rank,f.lay,f.opens,f.dec,f.kind,f.uses,f.allow,i,j,e⟩
 split
 ·refine { ok with lay:= ?_,layl:=by simp only[lF];omega,br:=br0 _ f.br }
  intro c hc;rcases fk.1 hc with rfl;refine⟨by simp only;omega,by simp only;omega,h2,?_,?_⟩
  ·simp only;split<;>omega
  ·simp only;intro h;rw[aF ω]
 split
 ·exact { ok with br:=br0 _ f.br }
 split
 ·split
  ·rename_i h;exact { ok with dec:= .inr ⟨Nat.le_add_left _ _,hg h,by simp only;omega,by simp only;omega⟩,br:=br0 _ f.br }
  ·exact ok
 split
 ·split
  ·rename_i h;exact { ok with uses:= .inr ⟨Nat.le_add_left _ _,hg h,by simp only;omega,by simp only;omega⟩,br:=br0 _ f.br }
  ·exact ok
 exact ok
def aQ6 {p:Pr} {m:Nat}:(rf p m).name=p.name/\ (rf p m).left=p.left/\ (rf p m).right=p.right:=by
 unfold rf;repeat' split
 all_goals exact⟨rfl,rfl,rfl⟩
def oO (name:List Nat) (left:Nat) (rn:Bool) (right:List (Bool×Nat)):Pr:=⟨name,left,right,rn,eu true 3,false,0,[],true,false,0,0,0,0⟩
def rh (L:List Lv) (p:Nat):Bool:=L.any λl=>l.pR.any λx=>decide (x=p)
def aQ7 (S:aT P X GL ae) (F:hZ ae) {i:Nat}:bg P X GL ae 37 [ι (i:Int)] (.ag (ba (true,i))):=by
 refine bg.intro λC E=> ?_;refine E.bS F.f37 (Y2 @R5.eq_1 @h0.eq_1 ?_);exact⟨9,nX (n:=8) (yX (true,i))⟩
def aQ8 (S:aT P X GL ae) (F:hZ ae) {i:Nat}:bg P X GL ae 38 [ι (i:Int)] (.ag (ba (false,i))):=by
 refine bg.intro λC E=> ?_;refine E.bS F.f38 (Y2 @R8.eq_1 @h0.eq_1 ?_);exact⟨9,nX (n:=8) (yX (false,i))⟩
def J3 (F:hZ ae) {i:Nat} (h:AH):bP P X GL 37 [ι (i:Int)] h (.ag (ba (true,i))) h:=dR S (aQ7 S F) (n:=1) (by rfl) h
def SY (F:hZ ae) {i:Nat} (h:AH):bP P X GL 38 [ι (i:Int)] h (.ag (ba (false,i))) h:=dR S (aQ8 S F) (n:=1) (by rfl) h
def aQ9 (R:eL ae) (F:hZ ae) {name:List Nat} {left:Nat} {rn:Bool} {right:List (Bool×Nat)}:bg P X GL ae 80 [.s name,ι (left:Int),eR ba 2 rn right] (.ag (aM (oO name left rn right))):=by
 have rc:=λbb h=>Bp (GL:=GL) S R bb h;simp only[eT,eD] at rc;refine bg.intro λC E=> ?_;refine E.bS F.f80 (Y2 @JE.eq_1 @h0.eq_1 ?_);refine E.cN (rc _ _) (Y1 @ec ?_);exact⟨9,qy (p:=oO name left rn right)⟩
def aR0 {L:List Lv} {i:Nat} {l:Lv} (h:L[i]? =some l):sub (L.flatMap iK) (i*4) 1=some [eR cI 1 true l.pR]:=by
 have:=cW Ev h (j:=0) (n:=1) ω;simpa[iK] using this
def aR1 (S:aT P X GL ae) (F:hZ ae) {g:Gr} {p:Nat} (ok:ce g):bg P X GL ae 166 [aI g,ι (p:Int)] (.b (rh g.lV p)):=by
 refine bg.intro λC E=> ?_;have hll:=ok.ll;refine E.bS F.f166 (Y3 @R9.eq_1 @aI.eq_1 @h0.eq_1 ?_);refine fj E.ok g.lV.length (λi τ h=>cG (h.oB.get 0)=some (ar g)/\ (∀j l,j<i ->g.lV[j]? =some l ->l.pR.any (λx=>decide (x=p))=false)/\ τ.get 1=some (ι (p:Int))/\ τ.get 2=some (.p 0 0)/\ τ.get 5=some (ι (i:Int))) ?_ ?_ _ _ ⟨?_,?_,?_,?_,?_⟩
 ·rintro i τ ⟨n1,ver,ob⟩ hi ⟨c0,hj,t1,t2,t5⟩ ih;have hli:g.lV[i]? =some g.lV[i]:=cE hi;have el:=aR0 hli;generalize g.lV[i]=l at hli el;have hlp:=(ok.l l (dI hli)).2.2;have de:=c0;dsimp only at c0;simp only[ar] at c0;refine Y4 c0 t1 t2 t5 ?_;refine fj E.ok l.pR.length (λk τ h=>cG (h.oB.get 0)=some (ar g)/\ (∀j x,j<k ->l.pR[j]? =some x ->x≠p)/\ τ.get 1=some (ι (p:Int))/\ τ.get 2=some (.p 0 0)/\ τ.get 5=some (ι (i:Int))/\ τ.get 6=some (ι (k:Int))) ?_ ?_ _ _ ⟨?_,?_,?_,?_,?_,?_⟩
  ·rintro k τ ⟨n1,ver,ob⟩ hk ⟨c0,hx,t1,t2,t5,t6⟩ ih2;have hki:l.pR[k]? =some l.pR[k]:=cE hk;have ek:sub (l.pR.flatMap cI) k 1=some [ι ((l.pR[k]:Nat):Int)]:=by
    have:=cW qw hki (j:=0) (n:=1) ω;simpa[cI] using this
   generalize l.pR[k]=y at hki ek;have de:=c0;dsimp only at c0;simp only[ar] at c0;by_cases hy:y=p
   ·have hy':((y:Int)=(p:Int))=True:=cJ;refine nS c0 t1 t2 t5 t6 @bG el ek hy' @bK ?_;refine⟨1,?_⟩;have:rh g.lV p=true:=qK.2 ⟨l,dI hli,qK.2 ⟨y,dI hki,by simp only[hy,mC]⟩⟩;rw[this];rfl
   ·have hy':((y:Int)=(p:Int))=False:=av;refine nS c0 t1 t2 t5 t6 @bG el ek hy' @bK ?_;refine ih2 _ _ ⟨de,?_,?_,?_,?_,?_⟩
    ·intro j x bF hx';by_cases hjk:j=k
     ·subst hjk;rw[hki] at hx';injection hx' with hx';exact hx'▸hy
     ·exact hx j x ω hx'
    all_goals exact U3 t1 t2 t5
  ·rintro τ ⟨n1,ver,ob⟩ ⟨c0,hx,t1,t2,t5,t6⟩;have de:=c0;dsimp only at c0;simp only[ar] at c0;refine Y8 c0 t1 t2 t5 t6 @bG el @bK ?_;refine ih _ _ ⟨de,?_,?_,?_,?_⟩
   ·intro j l' bF hx';by_cases hjk:j=i
    ·subst hjk;rw[hli] at hx';injection hx' with hx';subst hx'
     refine FC.2 λx hm=> ?_;obtain⟨j,hj⟩:=List.getElem?_of_mem hm;have:=hx j x (eC.1 hj).1 hj;simp only[aU];exact this
    ·exact hj j l' ω hx'
   all_goals exact U3 t1 t2 t5
  ·exact de
  ·intro j x h;omega
  all_goals exact U4 t1 t2 t5 @qJ
 ·rintro τ ⟨n1,ver,ob⟩ ⟨c0,hj,t1,t2,t5⟩;dsimp only at c0;simp only[ar] at c0;refine Y4 c0 t1 t2 t5 ?_;refine⟨1,?_⟩;have:rh g.lV p=false:=FC.2 λl hm=>by
   obtain⟨j,bF⟩:=List.getElem?_of_mem hm;rw[hj j l (eC.1 bF).1 bF];decide
  rw[this];rfl
 ·exact U0
 ·intro j l h;omega
 all_goals exact U1 @qJ
def EA (W:AV) (bs:List Nat):Prop:=(∀b∈bs,b<256)/\ ((W= .sn/\ bs=[])∨(∃L:List AV,W= .ds L 0 bs.length 1/\∀(i b:Nat),bs[i]? =some b ->L[i]? =some (.i .u8 (b:Int))))
def l9 (n b:Nat):Bool×Nat:=if b%14<9 then (true,b%14) else (false,(b%14-9)%n)
def gP (n:Nat) (bs:List Nat):List (Bool×Nat):=(bs.take 4).map (l9 n)
def tO (l:List (Bool×Nat)):Nat:=(l.filter (·.1)).length
def oP (a:Nat) (l:List (Bool×Nat)):Bool:=l.all λs=>s.1||decide (a<s.2)
def J4 (h:AH) (y:AV):ay:=match y with
 | .s _=> .bad
 |y=>match eI h 1 y with
  |some l=>match mE l with|some b=> .v (.s b) h|none=> .bad
  |none=> .bad
def SZ {ev:MA ->AV} {h:AH} {x:MA}:step ev h (.b2s x)=J4 h (ev x):=rfl
def aR2 {h:AH} {o b:Nat} {c:Option Nat} (hb:b<256) (hc:cG (h.oB.get o)=some [.i .u8 (b:Int)]):J4 h (.sl o 0 1 c 1)= .v (.s [b]) h:=by
 have e1:eI h 1 (.sl o 0 1 c 1)=some [.i .u8 (b:Int)]:=wH (show h.cells o=some _ from hc) (mM rfl);have e2:mE [.i .u8 (b:Int)]=some [b]:=by
  have e3:xM (.i .u8 (b:Int))=some b:=by
   show(bif Nat.ble b 255 then some b else none)=some b;rw[dm,zG ω];rfl
  show eM xM [AV.i .u8 (b:Int)]=_;rw[M0,e3];rfl
 show(match eI h 1 (.sl o 0 1 c 1) with|some l=>(match mE l with|some b=>ay.v (.s b) h|none=> .bad)|none=> .bad)=_;rw[e1];show(match mE [.i .u8 (b:Int)] with|some b=>ay.v (.s b) h|none=> .bad)=_;rw[e2]
def xC (left:Nat) (W:AV) (ii mk:Nat):List AV:=[.i .u8 (left:Int),W,.i .u8 (ii:Int),.i .u8 (mk:Int)]
def cP (name:List Nat) (a:Nat) (V:AV):List AV:=[.s name,ι (a:Int),V,cu (aE (eu true 3)).1,ι ((aE (eu true 3)).2:Int),.b false,ι 0,.sn,.b false,ι 0,ι 0,ι 0,ι 0]
def S0 (h:AH) (R:List (Bool×Nat)) (V:AV):Prop:=(R=[]/\ V= .sn)∨∃o n,R.length=n+1/\ V= .sl o 0 (n+1) none 2/\ 5<=o/\ o<h.next/\ cG (h.oB.get o)=some (R.flatMap ba)
structure LI (g:Gr) (W:AV) (left ii mk:Nat) (name:List Nat) (a:Nat) (R:List (Bool×Nat)) (τ:T AV) (h:AH):Prop where
 c0:cG (h.oB.get 0)=some (ar g)
 c1:cG (h.oB.get 1)=some (xC left W ii mk)
 c2:cG (h.oB.get 2)=some [.sn,.sn,ι 0,.sn,.sn,.sn,ι 0,.sn,.sn]
 c3:∃V,cG (h.oB.get 3)=some (cP name a V)/\ S0 h R V
 nx:5<=h.next
 t3:τ.get 3=some (.p 0 0)
 t4:τ.get 4=some (.p 1 0)
 t6:τ.get 6=some (.p 2 0)
 t7:τ.get 7=some (ι (g.nT.length:Int))
 t8:τ.get 8=some (.p 3 0)
 t9:τ.get 9=some (ι (tO R:Int))
 t10:τ.get 10=some (.b (oP a R))
abbrev EB:List Fr:=[.b 0,.s Em]
def J5 {R:List (Bool×Nat)} {s:Bool×Nat}:tO (R++[s])=tO R+(if s.1 then 1 else 0):=by
 unfold tO;rw[List.filter_append,dy];rcases s with ⟨_|_,n⟩<;>rfl
def J6 {a:Nat} {R:List (Bool×Nat)} {s:Bool×Nat}:oP a (R++[s])=(oP a R&&(s.1||decide (a<s.2))):=by
 unfold oP;rw[List.all_append];simp
variable {C:aK Prop} (E:Sem P X GL ae C)
def aR3 (F:hZ ae) {g:Gr} (ok:ce g) {left ii mk:Nat} {W:AV} {bs:List Nat} (hX:EA W bs) (hn:nice 64 W=true) {kn:Bool} {name:List Nat} {a:Nat} (K:K Prop)
 {τ:T AV} {h:AH} (L:LI g W left ii mk name a [] τ h) (t2:τ.get 2=some (.b kn)) (bH:τ.get 11=some (ι 0)) (hb:0<bs.length)
 (ih:∀τ' h',LI g W left ii mk name a [l9 g.nT.length bs[0]] τ' h' ->τ'.get 2=some (.b kn) ->τ'.get 11=some (ι ((0+1:Nat):Int)) ->df C (.loop (.seq (.seq wV (.cond (.t 38) .skip (.exit 0))) wX)) EB K τ' h'):
 df C (.seq (.seq wV (.cond (.t 38) .skip (.exit 0))) wX) (.s (.loop (.seq (.seq wV (.cond (.t 38) .skip (.exit 0))) wX))::EB) K τ h:=by
 obtain⟨n1,v1,ob⟩:=h;obtain⟨c0,c1,c2,⟨V,c3,hV⟩,nx,t3,t4,t6,t7,t8,t9,t10⟩:=L;rcases hX with ⟨aV,⟨rfl,rfl⟩|⟨Lw,rfl,hL⟩⟩
 ·simp at hb
 have b0:bs[0]? =some bs[0]:=cE hb;have hb256:=aV _ (dI b0);have eb:=hL 0 _ b0;generalize bs[0]=b at*;have hV':V= .sn:=by
  rcases hV with ⟨-,h⟩|⟨o,n,h,-⟩
  ·exact h
  ·cases h
 subst hV';simp only[cP] at c3;simp only[xC] at c1;have bQ:5<=n1:=nx;dsimp only at c0 c1 c2 c3;have rc:=λi h=>J3 (GL:=GL) S F (i:=i) h;have nc:=λi h=>SY (GL:=GL) S F (i:=i) h;have lp:(0<bs.length)=True:=fq hb;simp only[ba] at rc nc;have s0:sub Lw 0 1=some [.i .u8 (b:Int)]:=qY eb;have wb:dN .i64 (b:Int)=(b:Int):=lj ω;have r14:aY .rem (ι (b:Int)) (ι 14)=some (ι ((b%14:Nat):Int)):=iA (c:=14) ω;have tk0:tO []=0:=rfl;have lt0:oP a []=true:=rfl;rw[tk0] at t9;rw[lt0] at t10;by_cases hk:b%14<9
 ·have k9:(((b%14:Nat):Int)<9)=True:=cJ;refine wS c0 c1 c2 c3 t2 t3 t4 t6 t7 t8 t9 t10 bH lp s0 wb r14 k9 ?_;refine E.cN (rc _ _) (Bn c0 c1 c2 c3 t2 t3 t4 t6 t7 t8 t9 t10 bH lp s0 wb r14 k9 @iB @bK ?_);have es:l9 g.nT.length b=(true,b%14):=by unfold l9;rw[aF hk]
  refine ih _ _ { c0:= ?_,c1:= ?_,c2:= ?_,c3:=⟨_,?_,.inr ⟨n1+1,0,rfl,rfl,by omega,by show n1+1<n1+1+1;omega,?_⟩⟩,nx:=by show 5<=n1+1+1;omega,t3:= ?_,t4:= ?_,t6:= ?_,t7:= ?_,t8:= ?_,t9:= ?_,t10:= ?_ } ?_ ?_
  any_goals simp only[T.get_put,Nat.reduceEqDiff,reduceIte,t2,t3,t4,t6,t7,t8,t10]
  ·exact U1 c0
  ·exact U2 c1 @xC.eq_1
  ·exact U1 c2
  ·simp only[d9];rfl
  ·simp(disch:=omega) only[dh,bV,d9];rw[es];rfl
  ·rw[es];rfl
  ·rw[es];rfl
  ·rfl
 ·have k9:(((b%14:Nat):Int)<9)=False:=av;have s9:aY .sub (ι ((b%14:Nat):Int)) (ι 9)=some (ι ((b%14-9:Nat):Int)):=qV (b:=9) ω;have rn:aY .rem (ι ((b%14-9:Nat):Int)) (ι (g.nT.length:Int))=some (ι (((b%14-9)%g.nT.length:Nat):Int)):=iA (by have:=ok.ntl;omega);have es:l9 g.nT.length b=(false,(b%14-9)%g.nT.length):=by unfold l9;rw[aD hk]
  have lc:((a:Int)<(((b%14-9)%g.nT.length:Nat):Int))=(a<(b%14-9)%g.nT.length):=propext Int.ofNat_lt;refine Bn c0 c1 c2 c3 t2 t3 t4 t6 t7 t8 t9 t10 bH lp s0 wb r14 k9 s9 rn ?_;refine E.cN (nc _ _) (Rn c0 c1 c2 c3 t2 t3 t4 t6 t7 t8 t9 t10 bH lp s0 wb r14 k9 s9 rn lc @iB @bK ?_);refine ih _ _ { c0:= ?_,c1:= ?_,c2:= ?_,c3:=⟨_,?_,.inr ⟨n1+1,0,rfl,rfl,by omega,by show n1+1<n1+1+1;omega,?_⟩⟩,nx:=by show 5<=n1+1+1;omega,t3:= ?_,t4:= ?_,t6:= ?_,t7:= ?_,t8:= ?_,t9:= ?_,t10:= ?_ } ?_ ?_
  any_goals simp only[T.get_put,Nat.reduceEqDiff,reduceIte,t2,t3,t4,t6,t7,t8,t9,t10]
  ·exact U1 c0
  ·exact U2 c1 @xC.eq_1
  ·exact U1 c2
  ·simp only[d9];rfl
  ·simp(disch:=omega) only[dh,bV,d9];rw[es];rfl
  ·rw[es];rfl
  ·rw[es];unfold oP;simp
  ·rfl
def aR4 (F:hZ ae) {g:Gr} (ok:ce g) {left ii mk:Nat} {W:AV} {bs:List Nat} (hX:EA W bs) (hn:nice 64 W=true) {kn:Bool} {name:List Nat} {a:Nat} {R:List (Bool×Nat)} {n:Nat} (hR:R.length=n+1) (K:K Prop)
 {τ:T AV} {h:AH} (L:LI g W left ii mk name a R τ h) (t2:τ.get 2=some (.b kn)) (bH:τ.get 11=some (ι ((n+1:Nat):Int))) (hn3:n+1<4) (hb:n+1<bs.length)
 (ih:∀τ' h',LI g W left ii mk name a (R++[l9 g.nT.length bs[n+1]]) τ' h' ->τ'.get 2=some (.b kn) ->τ'.get 11=some (ι ((n+1+1:Nat):Int)) ->df C (.loop (.seq (.seq wV (.cond (.t 38) .skip (.exit 0))) wX)) EB K τ' h'):
 df C (.seq (.seq wV (.cond (.t 38) .skip (.exit 0))) wX) (.s (.loop (.seq (.seq wV (.cond (.t 38) .skip (.exit 0))) wX))::EB) K τ h:=by
 obtain⟨n1,v1,ob⟩:=h;obtain⟨c0,c1,c2,⟨V,c3,hV⟩,nx,t3,t4,t6,t7,t8,t9,t10⟩:=L;rcases hX with ⟨aV,⟨rfl,rfl⟩|⟨Lw,rfl,hL⟩⟩
 ·simp at hb
 have b0:bs[n+1]? =some bs[n+1]:=cE hb;have hb256:=aV _ (dI b0);have eb:=hL (n+1) _ b0;generalize bs[n+1]=b at*;rcases hV with ⟨rfl,-⟩|⟨o,n',hn',rfl,o5,lo,co⟩
 ·cases hR
 have en:n'=n:=by omega
 subst en;have lo':o<n1:=lo;have hl:(R.flatMap ba).length=(n'+1)*2:=by rw[kh gO,hR]
 dsimp only at co;simp only[cP] at c3;simp only[xC] at c1;have bQ:5<=n1:=nx;dsimp only at c0 c1 c2 c3;have rc:=λi h=>J3 (GL:=GL) S F (i:=i) h;have nc:=λi h=>SY (GL:=GL) S F (i:=i) h;have lp:(((n'+1:Nat):Int)<(bs.length:Int))=True:=cJ;have lp':n'+1<bs.length:=hb;have lp4:(((n'+1:Nat):Int)<4)=True:=cJ;simp only[ba] at rc nc;have s0:sub Lw (n'+1) 1=some [.i .u8 (b:Int)]:=qY eb;have wb:dN .i64 (b:Int)=(b:Int):=lj ω;have r14:aY .rem (ι (b:Int)) (ι 14)=some (ι ((b%14:Nat):Int)):=iA (c:=14) ω;have tl:tO R<=R.length:=List.length_filter_le _ _;have fl:∀s,(R++[s]).flatMap ba=R.flatMap ba++ba s:=λs=>by rw[jl,pO]
 by_cases hk:b%14<9
 ·have k9:(((b%14:Nat):Int)<9)=True:=cJ;refine IP c0 c1 c2 c3 co hl lp' lp4 t2 t3 t4 t6 t7 t8 t9 t10 bH lp s0 wb r14 k9 ?_;refine E.cN (rc _ _) (Ea c0 c1 c2 c3 co hl lp' lp4 t2 t3 t4 t6 t7 t8 t9 t10 bH lp s0 wb r14 k9 @iB @bK ?_);have es:l9 g.nT.length b=(true,b%14):=by unfold l9;rw[aF hk]
  refine ih _ _ { c0:= ?_,c1:= ?_,c2:= ?_,c3:=⟨_,?_,.inr ⟨n1+1,n'+1,by simp[hR],rfl,by omega,by show n1+1<n1+1+1;omega,?_⟩⟩,nx:=by show 5<=n1+1+1;omega,t3:= ?_,t4:= ?_,t6:= ?_,t7:= ?_,t8:= ?_,t9:= ?_,t10:= ?_ } ?_ ?_
  any_goals simp only[T.get_put,Nat.reduceEqDiff,reduceIte,t2,t3,t4,t6,t7,t8,t10]
  ·exact U1 c0
  ·exact U2 c1 @xC.eq_1
  ·exact U1 c2
  ·simp only[d9];rfl
  ·simp(disch:=omega) only[dh,bV,d9];rw[es,fl];rfl
  ·rw[es,J5];rfl
  ·rw[es,J6];simp
 ·have k9:(((b%14:Nat):Int)<9)=False:=av;have s9:aY .sub (ι ((b%14:Nat):Int)) (ι 9)=some (ι ((b%14-9:Nat):Int)):=qV (b:=9) ω;have rn:aY .rem (ι ((b%14-9:Nat):Int)) (ι (g.nT.length:Int))=some (ι (((b%14-9)%g.nT.length:Nat):Int)):=iA (by have:=ok.ntl;omega);have es:l9 g.nT.length b=(false,(b%14-9)%g.nT.length):=by unfold l9;rw[aD hk]
  have lc:((a:Int)<(((b%14-9)%g.nT.length:Nat):Int))=(a<(b%14-9)%g.nT.length):=propext Int.ofNat_lt;rcases hq:oP a R with _|_<;>rw[hq] at t10
  ·refine Ea c0 c1 c2 c3 co hl lp' lp4 t2 t3 t4 t6 t7 t8 t9 t10 bH lp s0 wb r14 k9 s9 rn ?_;refine E.cN (nc _ _) (Ro c0 c1 c2 c3 co hl lp' lp4 t2 t3 t4 t6 t7 t8 t9 t10 bH lp s0 wb r14 k9 s9 rn lc @iB @bK ?_);refine ih _ _ { c0:= ?_,c1:= ?_,c2:= ?_,c3:=⟨_,?_,.inr ⟨n1+1,n'+1,by simp[hR],rfl,by omega,by show n1+1<n1+1+1;omega,?_⟩⟩,nx:=by show 5<=n1+1+1;omega,t3:= ?_,t4:= ?_,t6:= ?_,t7:= ?_,t8:= ?_,t9:= ?_,t10:= ?_ } ?_ ?_
   any_goals simp only[T.get_put,Nat.reduceEqDiff,reduceIte,t2,t3,t4,t6,t7,t8,t9,t10]
   ·exact U1 c0
   ·exact U2 c1 @xC.eq_1
   ·exact U1 c2
   ·simp only[d9];rfl
   ·simp(disch:=omega) only[dh,bV,d9];rw[es,fl];rfl
   ·rw[es,J5];rfl
   ·rw[es,J6,hq];simp
  ·refine Ea c0 c1 c2 c3 co hl lp' lp4 t2 t3 t4 t6 t7 t8 t9 t10 bH lp s0 wb r14 k9 s9 rn ?_;refine E.cN (nc _ _) (Ro c0 c1 c2 c3 co hl lp' lp4 t2 t3 t4 t6 t7 t8 t9 t10 bH lp s0 wb r14 k9 s9 rn lc @iB @bK ?_);refine ih _ _ { c0:= ?_,c1:= ?_,c2:= ?_,c3:=⟨_,?_,.inr ⟨n1+1,n'+1,by simp[hR],rfl,by omega,by show n1+1<n1+1+1;omega,?_⟩⟩,nx:=by show 5<=n1+1+1;omega,t3:= ?_,t4:= ?_,t6:= ?_,t7:= ?_,t8:= ?_,t9:= ?_,t10:= ?_ } ?_ ?_
   any_goals simp only[T.get_put,Nat.reduceEqDiff,reduceIte,t2,t3,t4,t6,t7,t8,t9,t10]
   ·exact U1 c0
   ·exact U2 c1 @xC.eq_1
   ·exact U1 c2
   ·simp only[d9];rfl
   ·simp(disch:=omega) only[dh,bV,d9];rw[es,fl];rfl
   ·rw[es,J5];rfl
   ·rw[es,J6,hq];simp
end
end AM
