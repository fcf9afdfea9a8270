import Derived.Test.YtcpcjocnnclcmaaGreatDoorN20
set_option linter.all false
namespace AM
open Dg Go
noncomputable section
def Aq (b k:Nat):Bool:=decide (b/2^k%2=1)
def nB (b:Nat):Nat ->Nat ->Nat ->Tr
 |0,_,k=>dQ (Aq b k) 3
 |d+1,v,k=>eF (fun x y=>x||y) (eF (fun x y=>x&&y) (lI v) (nB b d (v+1) (k+2^v))) (eF (fun x y=>x&&y) (nB b d (v+1) k) (eF (fun x y=>x !=y) (lI v) (dQ true 3)))
def j6 {b:Nat}:∀d v k,ew 3 (nB b d v k)=true
 |0,_,_=>iG 3
 |d+1,v,k=>cH (cH jb (j6 d _ _)) (cH (j6 d _ _) (cH jb (iG 3)))
def wM {b n:Nat} (hn:n<=3):∀d v k,v+d=n ->zg n (nB b d v k)=true
 |0,_,_,_=>qA 3 n
 |d+1,v,k,h=>by
  have h1:zg n (lI v)=true:=Ce ω hn;exact mU (cH jb (j6 d _ _)) (cH (j6 d _ _) (cH jb (iG 3))) (mU jb (j6 d _ _) h1 (wM hn d _ _ ω))
   (mU (j6 d _ _) (cH jb (iG 3)) (wM hn d _ _ ω) (mU jb (iG 3) h1 (qA 3 n)))
inductive WU:AV ->Nat ->Prop
 |sn:WU .sn 0
 |nil (L:List AV):WU (.ds L 0 0 1) 0
 |ds (L:List AV) (n b:Nat) (hb:b<256) (hL:L[0]? =some (.i .u8 (b:Int))):WU (.ds L 0 (n+1) 1) b
section
variable {P:Program} {X:dy} {GL:T (List AV)} {fns:T aR}
def aa1 {k:Nat}:Aq 0 k=false:=by simp[Aq]
set_option maxHeartbeats 4000000 in
def GZ (S:aw P X GL fns) (F:dr fns) (A:bh P X GL) {l:AV} {b n:Nat} (bv:WU l b) (nk:aJ 64 l=true) (dl:aH 9 h0 l=some l) (hn:n<=3):∀d v (k:Nat),v+d=n ->k<2^v ->aZ P X GL fns 40 [l,.i .i64 (n:Int),.i .i64 (v:Int),.i .i64 (k:Int)] (eT (nB b d v k)):=by
 intro d;induction d with
 |zero=>
  intro v k hv hk;have k8:k<8:=il hk (show 2^v<=2^3 from y7 ω ω);have vn:v=n:=by omega
  have q0:aV .quo (ι (k:Int)) (ι 8)=some (ι 0):=by
   have:=IS (a:=k) (c:=8) ⟨by omega,by omega⟩;rw[Nat.div_eq_of_lt k8] at this;exact this
  have r0:aV .rem (ι (k:Int)) (ι 8)=some (ι (k:Int)):=by
   have:=dm (a:=k) (c:=8) ω;rw[HP k8] at this;exact this
  have rc:=fun bb h=>jl (GL:=GL) S F bb h
  simp only[eT,eD,uR] at rc;refine aZ.intro fun C E=> ?_
  rw[aA E.ok (E.get F.f40)];cases bv with
  |sn=>
   refine Y3 @Nt.eq_1 @h0.eq_1 q0 ?_;refine E.con (rc _ _) ?_;refine Y0 ?_;exact⟨1,by rw[nB,aa1];rfl⟩
  |nil L=>
   have lL:∀h,sB h (.ds L 0 0 1)= .v (ι 0) h:=fun h=>rfl
   refine Y5 @Nt.eq_1 @h0.eq_1 q0 nk lL ?_;refine E.con (rc _ _) ?_;refine Y0 ?_;exact⟨1,by rw[nB,aa1];rfl⟩
  |ds L m b hb hL=>
   have lL:∀h,sB h (.ds L 0 (m+1) 1)= .v (ι ((m+1:Nat):Int)) h:=fun h=>rfl
   have ia:∀h,OI h 1 0 (.ds L 0 (m+1) 1)= .v (.dp L 0) h:=fun h=>by rw[yu,if_pos ⟨rfl,by omega⟩]
   have nkp:aJ 64 (.dp L 0)=true:=by rw[di];rw[ja] at nk;exact nk
   have s0:sub L 0 1=some [.i .u8 (b:Int)]:=j5 hL;have sh:aV .shr (.i .u8 (b:Int)) (.i .u64 (k:Int))=some (.i .u8 ((b/2^k:Nat):Int)):=WP ω;have an:aV .and (.i .u8 ((b/2^k:Nat):Int)) (.i .u8 1)=some (.i .u8 ((b/2^k%2:Nat):Int)):=R1 (Q0 (Vk _ _) hb);have wu:bT .u64 (k:Int)=(k:Int):=IR ω;have hm1:(0:Int)<((m+1:Nat):Int):=by omega
   refine IA @Nt.eq_1 @h0.eq_1 q0 r0 nk nkp lL ia s0 sh an wu hm1 ?_;have e:decide (((b/2^k%2:Nat):Int)=1)=Aq b k:=by
    unfold Aq;by_cases q:b/2^k%2=1
    ·rw[q];rfl
    ·have q':¬(((b/2^k%2:Nat):Int)=1):=by omega
     rw[decide_eq_false q,decide_eq_false q']
   rw[e];refine E.con (rc _ _) ?_;refine Y2 @uR @fG.eq_1 ?_;exact⟨1,by show _=some (eT (dQ (Aq b k) 3));unfold eT;rw[uR];rfl⟩
 |succ d ih=>
  intro v k hv hk;have k8:k<8:=il hk (show 2^v<=2^3 from y7 ω ω);have v3:v<3:=by omega
  have p4:2^v<=4:=by rcases(show v=0∨v=1∨v=2 by omega) with rfl|rfl|rfl<;>decide
  have ne:((v:Int)=(n:Int))=False:=by simp;omega
  have wu:bT .u64 (v:Int)=(v:Int):=IR ω;have sl:aV .shl (ι 1) (.i .u64 (v:Int))=some (ι ((2^v:Nat):Int)):=aw5 ω;have ak:aV .add (ι (k:Int)) (ι ((2^v:Nat):Int))=some (ι ((k+2^v:Nat):Int)):=hY ω;have p1:2^(v+1)=2^v+2^v:=by rw[Nat.pow_succ];omega
  have t1:=ih (v+1) (k+2^v) ω ω;have t2:=ih (v+1) k ω ω;have dd:∀a b c,aK 9 h0 [l,.i .i64 a,.i .i64 b,.i .i64 c]=some [l,.i .i64 a,.i .i64 b,.i .i64 c]:=fun a b c=>by simp only[af,ay,dl,dc]
  have c1:=fun h=>aE S t1 (dd _ _ _) h
  have c2:=fun h=>aE S t2 (dd _ _ _) h
  have rv:=fun h=>DZ (GL:=GL) S F v3 h
  have iv:= @jb v;have i1:=j6 (b:=b) d (v+1) (k+2^v);have i2:=j6 (b:=b) d (v+1) k;have m1:=fun h=>nW S F (A _ iv) (A _ i1) h
  have m2:=fun h=>Kq S F A i2 iv h
  have m3:=fun h=>DV S F (A _ (cH (g:=fun x y=>x&&y) iv i1)) (A _ (cH (g:=fun x y=>x&&y) i2 (cH (g:=fun x y=>x !=y) iv (iG (b:=true) 3)))) h
  simp only[eT,eD] at c1 c2 rv m1 m2 m3;refine aZ.intro fun C E=> ?_
  rw[aA E.ok (E.get F.f40)];refine Y4 @Nt.eq_1 @h0.eq_1 nk ne ?_;refine E.con (rv _) ?_;refine Y6 nk wu sl ak @ar @aD ?_;refine E.con (c1 _) ?_;refine Y6 nk wu sl ak @ar @aD ?_;refine E.con (m1 _) ?_;refine Y6 nk wu sl ak @ar @aD ?_;refine E.con (c2 _) ?_;refine Y6 nk wu sl ak @ar @aD ?_;refine E.con (m2 _) ?_;refine Y6 nk wu sl ak @ar @aD ?_;refine E.con (m3 _) ?_;refine Y6 nk wu sl ak @ar @aD ?_;exact⟨2,by rw[nB];unfold eT eD;rw[eO];simp only[af,ay,gw,dc]⟩
def sG (S:aw P X GL fns) (F:dr fns) (A:bh P X GL) {l:AV} {b n:Nat} (bv:WU l b) (nk:aJ 64 l=true) (dl:aH 9 h0 l=some l) (hn:n<=3):aZ P X GL fns 16 [l,.i .i64 (n:Int)] (eT (nB b n 0 0)):=by
 have t1:=GZ S F A bv nk dl hn n 0 0 ω (by decide);have c1:=fun h=>aE S t1 (n:=9) (by simp only[af,ay,dl,dc]) h
 simp only[eT,eD,po] at c1;refine aZ.intro fun C E=> ?_
 rw[aA E.ok (E.get F.f16)];have n6:((6:Int)<(n:Int))=False:=by simp;omega
 have n0:((0:Int)<(n:Int))=(0<n):=by simp
 by_cases hz:0<n
 ·refine Y7 @WJ.eq_1 @h0.eq_1 nk @pU n6 n0 hz ?_;refine E.con (c1 _) ?_;refine Y1 @aD ?_;exact⟨9,fg _ _⟩
 ·obtain rfl:n=0:=by omega
  refine Y7 @WJ.eq_1 @h0.eq_1 nk @pU n6 n0 hz ?_;refine E.con (c1 _) ?_;refine Y1 @aD ?_;exact⟨9,fg _ _⟩
end
def Sl (t:Tr):Tr:=eF (fun x y=>x !=y) t (dQ true 3)
def gT (b n:Nat):Tr:=if n=0∨b%6<3 then dQ true 3 else if b%6=3 then lI (b/6%n) else if b%6=4 then Sl (lI (b/6%n)) else nB b n 0 0
def Sm {b n:Nat}:ew 3 (gT b n)=true:=by
 unfold gT;split
 ·exact iG 3
 ·split
  ·exact jb
  ·split
   ·exact cH jb (iG 3)
   ·exact j6 _ _ _
def So {b n:Nat} (hn:n<=3):zg n (gT b n)=true:=by
 unfold gT;split
 ·exact qA 3 n
 ·rename_i h;have hv:b/6%n<n:=jy _ ω;split
  ·exact Ce hv hn
  ·split
   ·exact mU jb (iG 3) (Ce hv hn) (qA 3 n)
   ·exact wM hn n 0 0 ω
section
variable {P:Program} {X:dy} {GL:T (List AV)} {fns:T aR}
def yA (S:aw P X GL fns) {f:Nat} {args dargs:List AV} {d:AV} (hp:aZ P X GL fns f dargs d) {m v o vo n:Nat} {c:List AV} {t:T aU} (ht:t.get o=some (.cells vo c)) (ha:aK n ⟨m,v,T.e.put o (.cells vo c)⟩ args=some dargs):
 dq P X GL f args ⟨m,v,t⟩ d ⟨m,v,t.put o .gone⟩:=by
 have e1:pZ ⟨m,v,t⟩ [o]=⟨m,v,T.e.put o (.cells vo c)⟩:=by
  show(⟨m,v,(match t.get o with|some (.cells v c)=>T.e.put o (.cells v c)|_=>T.e)⟩:AH)=_;rw[ht]
 have e2:Cr ⟨m,v,t⟩ [o]=⟨m,v,t.put o .gone⟩:=by
  have:qV ⟨m,v,t⟩ o=true:=by unfold qV;rw[ht]
  show(⟨m,v,(bif qV ⟨m,v,t⟩ o then t.put o .gone else t)⟩:AH)=_;rw[this];rfl
 have:=oQ S hp (h:=⟨m,v,t⟩) (l:=[o]) (n:=n) (by rw[e1];exact ha)
 rwa [e2] at this
def Ku (S:aw P X GL fns) (R:dr fns) (F:jM fns) {v:Nat} (hv:v<3):aZ P X GL fns 85 [.i .i64 (v:Int)] (eT (lI v)):=by
 have rv:=fun h=>DZ (GL:=GL) S R hv h
 simp only[eT,eD] at rv;refine aZ.intro fun C E=> ?_
 rw[aA E.ok (E.get F.f85)];refine Y2 @aa5.eq_1 @h0.eq_1 ?_;refine E.con (rv _) ?_;refine Y1 @aD ?_;exact⟨9,fg _ _⟩
def OZ (S:aw P X GL fns) (R:dr fns) (F:jM fns) {v:Nat} (hv:v<3) (h:AH):dq P X GL 85 [.i .i64 (v:Int)] h (eT (lI v)) h:=aE S (Ku S R F hv) (n:=1) (by rfl) h
set_option maxHeartbeats 4000000 in
def uc (S:aw P X GL fns) (R:dr fns) (A:bh P X GL) (F:jM fns) {b n:Nat} (hb:b<256) (hn:n<=3):aZ P X GL fns 41 [.i .u8 (b:Int),.i .i64 (n:Int)] (eT (gT b n)):=by
 have rc:=fun bb h=>jl (GL:=GL) S R bb h
 have r6:aV .rem (.i .u8 (b:Int)) (.i .u8 6)=some (.i .u8 ((b%6:Nat):Int)):=oO (c:=6) ω;have q6:aV .quo (.i .u8 (b:Int)) (.i .u8 6)=some (.i .u8 ((b/6:Nat):Int)):=Cd (c:=6) ⟨by omega,hb⟩;have wq:bT .i64 ((b/6:Nat):Int)=((b/6:Nat):Int):=fJ ω;by_cases h0':n=0
 ·subst h0';simp only[eT,eD] at rc;refine aZ.intro fun C E=> ?_
  rw[aA E.ok (E.get F.f41)];refine Y4 @Si.eq_1 @h0.eq_1 r6 po ?_;refine E.con (rc _ _) ?_;refine Y1 @aD ?_;exact⟨9,by rw[gT,if_pos (.inl rfl)];exact fg _ _⟩
 have hz:((n:Int)=0)=False:=by simp;omega
 by_cases h1:b%6<3
 ·have l3:((b%6:Nat):Int)<3:=by omega
  simp only[eT,eD] at rc;refine aZ.intro fun C E=> ?_
  rw[aA E.ok (E.get F.f41)];refine Y5 @Si.eq_1 @h0.eq_1 r6 hz l3 ?_;refine E.con (rc _ _) ?_;refine Y1 @aD ?_;exact⟨9,by rw[gT,if_pos (.inr h1)];exact fg _ _⟩
 have l3:(((b%6:Nat):Int)<3)=False:=by simp;omega
 have rn:aV .rem (ι ((b/6:Nat):Int)) (ι (n:Int))=some (ι ((b/6%n:Nat):Int)):=dm ω;have hv:b/6%n<3:=il (jy _ ω) hn;have cv:=fun h=>OZ (GL:=GL) S R F hv h
 have cc:=fun h=>Aj S R A (jb (v:=b/6%n)) h
 have hs:gT b n=if b%6=3 then lI (b/6%n) else if b%6=4 then Sl (lI (b/6%n)) else nB b n 0 0:=by
  rw[gT,if_neg ω]
 simp only[eT,eD] at cv cc;refine aZ.intro fun C E=> ?_
 rw[aA E.ok (E.get F.f41)];refine Y8 @Si.eq_1 @h0.eq_1 r6 hz l3 q6 wq rn ?_;refine E.con (cv _) ?_;rcases(show b%6=3∨b%6=4∨b%6=5 by omega) with k|k|k
 ·refine Y3 @aD r6 k ?_;exact⟨9,by rw[hs,if_pos k];exact fg _ _⟩
 ·refine Y3 @aD r6 k ?_;refine E.con (cc _) ?_;refine Y1 @aD ?_;exact⟨9,by rw[hs,if_neg ω,if_pos k];exact fg _ _⟩
 ·have mp:=sG S R A (WU.ds [.i .u8 (b:Int)] 0 b hb rfl) (by simp only[ja,bP,cA,gN,fW]) (by rfl) hn;refine Y3 @aD r6 k ?_;refine E.con (yA (o:=2) (vo:=1) (c:=[.i .u8 (b:Int)]) (n:=9) S mp (by exact U0) (by rfl)) ?_;refine Y3 @aD @eT.eq_1 @eD.eq_1 ?_;exact⟨9,by rw[hs,if_neg ω,if_neg ω];exact fg _ _⟩
end
def qc (p:Pr) (m:Nat):Pr:=
 if p.right.length=0 then p else
 if m%8=1 then { p with rank:=1 } else
 if m%8=2 then { p with rank:= -1 } else
 if m%8=3 then { p with br:=QX p } else
 if m%8=4 then { p with lay:=[(1+m/8%4,m/8/4%p.right.length,if m/8%4=0 then 0 else p.right.length-1)] } else
 if m%8=5 then { p with opens:=true } else
 if m%8=6 then (if (p.right.getD (m/8%p.right.length) (false,0)).1 then { p with dec:=m/8%p.right.length+1,kind:=1+m/8%2 } else p) else
 if m%8=7 then (if (p.right.getD (m/8%p.right.length) (false,0)).1 then { p with uses:=m/8%p.right.length+1,allow:=1+m/8%7 } else p) else p
def Sr {p:Pr} {m:Nat} (h:p.right.length=0):qc p m=p:=if_pos h
structure Un (p:Pr):Prop where
 rank:p.rank=0
 lay:p.lay=[]
 ln:p.ln=true
 opens:p.opens=false
 dec:p.dec=0
 kind:p.kind=0
 uses:p.uses=0
 allow:p.allow=0
 br:p.br=false
 len:p.right.length<=4
section
variable {P:Program} {X:dy} {GL:T (List AV)} {fns:T aR}
def pf {p:Pr} {h:AH}:aH 9 h (.ag (cC p))=some (.ag (cC p)):=eO (n:=8) (nZ (n:=7) p)
def dw {n:Nat} {h:AH} {o off len k:Nat} {c:Option Nat} {l l':List AV} (hc:cG (h.objs.get o)=some l) (hd:aK n h l=some l'):aH (n+1) h (.sl o off len c k)=some (.ds l' off len k):=by
 have e1:aH (n+1) h (.sl o off len c k)=(match h.objs.get o with
  |some (.cells _ l)=>match aK n h l with|some l=>some (.ds l off len k)|none=>none
  |_=>none):=rfl
 rw[e1];rcases ho:h.objs.get o with _|(_|_|_|_|_)<;>rw[ho] at hc<;>simp only[cG] at hc;all_goals first|(cases hc;done)|(injection hc with hc;subst hc;simp only[hd])
def Eg {h:AH} {name:List Nat} {left:Nat} {right:List (Bool×Nat)} {rn:Bool} {cond:Tr} {br:Bool} {rank:Int} {lay:List Br} {ln opens:Bool} {dec kind uses allow:Nat} {X:AV} (hx:aH 8 h X=some (eR oM 3 ln lay)):
 aH 9 h (.ag [.s name,.i .i64 (left:Int),eR bS 2 rn right,fG (ax cond).1,.i .i64 ((ax cond).2:Int),.b br,.i .i64 rank,X,.b opens,.i .i64 (dec:Int),.i .i64 (kind:Int),.i .i64 (uses:Int),.i .i64 (allow:Int)])=some (.ag (cC ⟨name,left,right,rn,cond,br,rank,lay,ln,opens,dec,kind,uses,allow⟩)):=by
 have e:aK 8 h [.s name,.i .i64 (left:Int),eR bS 2 rn right,fG (ax cond).1,.i .i64 ((ax cond).2:Int),.b br,.i .i64 rank,X,.b opens,.i .i64 (dec:Int),.i .i64 (kind:Int),.i .i64 (uses:Int),.i .i64 (allow:Int)]=some (cC ⟨name,left,right,rn,cond,br,rank,lay,ln,opens,dec,kind,uses,allow⟩):=by
  simp only[cC,af,ay,dc,uW,oP,gw (n:=7),aM (n:=7) nY,hx]
 have e1:∀l,aH 9 h (.ag l)=(match aK 8 h l with|some l=>some (AV.ag l)|none=>none):=fun _=>rfl
 rw[e1,e]
set_option maxHeartbeats 4000000 in
def Eh (S:aw P X GL fns) (G:gf fns) (F:jM fns) {p:Pr} {m:Nat} (hm:m<256) (f:Un p):aZ P X GL fns 42 [.ag (cC p),.i .u8 (m:Int)] (.ag (cC (qc p m))):=by
 have r8:aV .rem (.i .u8 (m:Int)) (.i .u8 8)=some (.i .u8 ((m%8:Nat):Int)):=oO (c:=8) ω;have q8:aV .quo (.i .u8 (m:Int)) (.i .u8 8)=some (.i .u8 ((m/8:Nat):Int)):=Cd (c:=8) ⟨by omega,hm⟩;have wq:bT .i64 ((m/8:Nat):Int)=((m/8:Nat):Int):=fJ ω;have fl:=f.len;obtain⟨name,left,right,rn,cond,br,rank,lay,ln,opens,dec,kind,uses,allow⟩:=p;obtain⟨f1,f2,f3,f4,f5,f6,f7,f8,f9,-⟩:=f;simp only at f1 f2 f3 f4 f5 f6 f7 f8 f9 fl;subst f1 f2 f3 f4 f5 f6 f7 f8 f9;generalize hD:AV.ag (cC (qc ⟨name,left,right,rn,cond,false,0,[],true,false,0,0,0,0⟩ m))=D;refine aZ.intro fun C E=> ?_
 rw[aA E.ok (E.get F.f42)];by_cases h0':right.length=0
 ·have z:right=[]:=lA h0';subst z;refine Y4 @uY.eq_1 @h0.eq_1 @cC.eq_1 @po ?_;exact⟨9,by rw[←hD,Sr rfl];exact pf (p:=⟨name,left,[],rn,cond,false,0,[],true,false,0,0,0,0⟩)⟩
 have hz:((right.length:Int)=0)=False:=eq_false ω;rw[qc,if_neg h0'] at hD;generalize hk:m/8=k at*;simp only at hD;have kl:k<32:=by rw[←hk];omega
 have qn:k%right.length<right.length:=jy _ ω;have rn4:aV .rem (ι (k:Int)) (ι (right.length:Int))=some (ι ((k%right.length:Nat):Int)):=dm ω;rcases(show m%8=0∨m%8=1∨m%8=2∨m%8=3∨m%8=4∨m%8=5∨m%8=6∨m%8=7 by omega) with j|j|j|j|j|j|j|j
 ·refine Y8 @uY.eq_1 @h0.eq_1 @cC.eq_1 hz r8 q8 wq j ?_;exact⟨9,by simp only[j,Nat.reduceEqDiff,reduceIte] at hD;rw[←hD];exact pf (p:=⟨name,left,right,rn,cond,false,0,[],true,false,0,0,0,0⟩)⟩
 ·refine Y8 @uY.eq_1 @h0.eq_1 @cC.eq_1 hz r8 q8 wq j ?_;exact⟨9,by simp only[j,Nat.reduceEqDiff,reduceIte] at hD;rw[←hD];exact pf (p:=⟨name,left,right,rn,cond,false,1,[],true,false,0,0,0,0⟩)⟩
 ·refine Y8 @uY.eq_1 @h0.eq_1 @cC.eq_1 hz r8 q8 wq j ?_;exact⟨9,by simp only[j,Nat.reduceEqDiff,reduceIte] at hD;rw[←hD];exact pf (p:=⟨name,left,right,rn,cond,false,-1,[],true,false,0,0,0,0⟩)⟩
 ·have bc:=fun h=>vQ (P:=P) (X:=X) (GL:=GL) (p:=⟨name,left,right,rn,cond,true,0,[],true,false,0,0,0,0⟩) S G rfl rfl rfl rfl rfl rfl rfl (by simp only;omega) h
  simp only[cC,po] at bc;refine Y8 @uY.eq_1 @h0.eq_1 @cC.eq_1 hz r8 q8 wq j ?_;refine E.con (bc _) ?_;refine Y1 @aD ?_;exact⟨9,by simp only[j,Nat.reduceEqDiff,reduceIte] at hD;rw[←hD];exact pf (p:=⟨name,left,right,rn,cond,_,0,[],true,false,0,0,0,0⟩)⟩
 ·have a1:aV .rem (ι (k:Int)) (ι 4)=some (ι ((k%4:Nat):Int)):=dm (c:=4) ω;have a2:aV .quo (ι (k:Int)) (ι 4)=some (ι ((k/4:Nat):Int)):=IS (c:=4) ω;have a3:aV .rem (ι ((k/4:Nat):Int)) (ι (right.length:Int))=some (ι ((k/4%right.length:Nat):Int)):=dm ω;have a4:aV .sub (ι (right.length:Int)) (ι 1)=some (ι ((right.length-1:Nat):Int)):=oK (b:=1) ω;have a5:aV .add (ι 1) (ι ((k%4:Nat):Int))=some (ι ((1+k%4:Nat):Int)):=hY (a:=1) ω;by_cases hk4:k%4=0
  ·have hi:(((k%4:Nat):Int)=0)=True:=eq_true ω;refine TO @uY.eq_1 @h0.eq_1 @cC.eq_1 hz r8 q8 wq j a1 a2 a3 a4 a5 hi ?_;refine⟨9,?_⟩;simp only[j,Nat.reduceEqDiff,reduceIte,if_pos hk4] at hD;rw[←hD];exact Eg (dec:=0) (kind:=0) (uses:=0) (allow:=0) (ln:=true) (lay:=[(1+k%4,k/4%right.length,0)]) (dw rfl rfl)
  ·have hi:(((k%4:Nat):Int)=0)=False:=eq_false ω;refine TO @uY.eq_1 @h0.eq_1 @cC.eq_1 hz r8 q8 wq j a1 a2 a3 a4 a5 hi ?_;refine⟨9,?_⟩;simp only[j,Nat.reduceEqDiff,reduceIte,hk4] at hD;rw[←hD];exact Eg (dec:=0) (kind:=0) (uses:=0) (allow:=0) (ln:=true) (lay:=[(1+k%4,k/4%right.length,right.length-1)]) (dw rfl rfl)
 ·refine Y8 @uY.eq_1 @h0.eq_1 @cC.eq_1 hz r8 q8 wq j ?_;exact⟨9,by simp only[j,Nat.reduceEqDiff,reduceIte] at hD;rw[←hD];exact pf (p:=⟨name,left,right,rn,cond,false,0,[],true,true,0,0,0,0⟩)⟩
 ·have hlt:=ba qn;have e0:sub (right.flatMap bS) ((k%right.length)*2) 1=some [.b (right[k%right.length]).1]:=by
   have:=aB bz hlt (j:=0) (n:=1) ω;simpa[bS] using this
  have a1:aV .rem (ι (k:Int)) (ι 2)=some (ι ((k%2:Nat):Int)):=dm (c:=2) ω;have a5:aV .add (ι 1) (ι ((k%2:Nat):Int))=some (ι ((1+k%2:Nat):Int)):=hY (a:=1) ω;have eg:right.getD (k%right.length) (false,0)=right[k%right.length]:=by rw[rd,hlt];rfl
  simp only[j,Nat.reduceEqDiff,reduceIte,eg] at hD;cases hb:(right[k%right.length]).1
  ·rw[hb] at e0;simp only[hb,lu,if_false] at hD;refine y5 @uY.eq_1 @h0.eq_1 @cC.eq_1 hz r8 q8 wq j rn4 @aF e0 ?_;exact⟨9,by rw[←hD];exact pf (p:=⟨name,left,right,rn,cond,false,0,[],true,false,0,0,0,0⟩)⟩
  ·rw[hb] at e0;simp only[hb,if_true] at hD;refine TO @uY.eq_1 @h0.eq_1 @cC.eq_1 hz r8 q8 wq j rn4 @aF e0 @ar a1 a5 ?_;exact⟨9,by rw[←hD];exact pf (p:=⟨name,left,right,rn,cond,false,0,[],true,false,_,_,0,0⟩)⟩
 ·have hlt:=ba qn;have e0:sub (right.flatMap bS) ((k%right.length)*2) 1=some [.b (right[k%right.length]).1]:=by
   have:=aB bz hlt (j:=0) (n:=1) ω;simpa[bS] using this
  have a1:aV .rem (ι (k:Int)) (ι 7)=some (ι ((k%7:Nat):Int)):=dm (c:=7) ω;have a5:aV .add (ι 1) (ι ((k%7:Nat):Int))=some (ι ((1+k%7:Nat):Int)):=hY (a:=1) ω;have eg:right.getD (k%right.length) (false,0)=right[k%right.length]:=by rw[rd,hlt];rfl
  simp only[j,Nat.reduceEqDiff,reduceIte,eg] at hD;cases hb:(right[k%right.length]).1
  ·rw[hb] at e0;simp only[hb,lu,if_false] at hD;refine y5 @uY.eq_1 @h0.eq_1 @cC.eq_1 hz r8 q8 wq j rn4 @aF e0 ?_;exact⟨9,by rw[←hD];exact pf (p:=⟨name,left,right,rn,cond,false,0,[],true,false,0,0,0,0⟩)⟩
  ·rw[hb] at e0;simp only[hb,if_true] at hD;refine TO @uY.eq_1 @h0.eq_1 @cC.eq_1 hz r8 q8 wq j rn4 @aF e0 @ar a1 a5 ?_;exact⟨9,by rw[←hD];exact pf (p:=⟨name,left,right,rn,cond,false,0,[],true,false,0,0,_,_⟩)⟩
def Kw {p:Pr} (h:QX p=true):∃i j,p.right=[(true,i),(false,p.left),(true,j)]:=by
 unfold QX at h;split at h
 ·rename_i s0 s1 s2 e;obtain⟨a0,b0⟩:=s0;obtain⟨a1,b1⟩:=s1;obtain⟨a2,b2⟩:=s2;simp only[av,iS,decide_eq_true_eq] at h;obtain⟨rfl,rfl,rfl,rfl⟩:=h;exact⟨b0,b2,e⟩
 ·cases h
def Kx {nc nt:Nat} {p:Pr} {m:Nat} (hm:m<256) (f:Un p) (ok:zh nc nt p):zh nc nt (qc p m):=by
 have fl:=f.len;unfold qc;split
 ·exact ok
 have hl:0<p.right.length:=by omega
 have h1:m/8%p.right.length<p.right.length:=jy _ hl;have h2:m/8/4%p.right.length<p.right.length:=jy _ hl;have dec0:V7 p p.dec p.kind 1 7:= .inl ⟨f.dec,f.kind⟩;have br0:∀q:Pr,q.br=false ->(q.br=true ->W8 q):=fun q h h'=>by rw[h] at h';cases h'
 have hg:(p.right.getD (m/8%p.right.length) (false,0)).1=true ->∃j,p.right[m/8%p.right.length]? =some (true,j):=by
  rw[rd,ba h1];intro h;exact⟨_,by rw[←show p.right[m/8%p.right.length].1=true from h]⟩
 split
 ·exact { ok with rank:=⟨by simp only;omega,by simp only;omega⟩,br:=br0 _ f.br }
 split
 ·exact { ok with rank:=⟨by simp only;omega,by simp only;omega⟩,br:=br0 _ f.br }
 split
 ·refine { ok with br:=fun h=> ?_ }
  obtain⟨i,j,e⟩:=Kw (p:=p) h;exact⟨f.rank,f.lay,f.opens,f.dec,f.kind,f.uses,f.allow,i,j,e⟩
 split
 ·refine { ok with lay:= ?_,layl:=by simp only[pq];omega,br:=br0 _ f.br }
  intro c hc;rcases dY.1 hc with rfl;refine⟨by simp only;omega,by simp only;omega,h2,?_,?_⟩
  ·simp only;split<;>omega
  ·simp only;intro h;rw[if_pos ω]
 split
 ·exact { ok with br:=br0 _ f.br }
 split
 ·split
  ·rename_i h;exact { ok with dec:= .inr ⟨Nat.le_add_left _ _,hg h,by simp only;omega,by simp only;omega⟩,br:=br0 _ f.br }
  ·exact ok
 split
 ·split
  ·rename_i h;exact { ok with uses:= .inr ⟨Nat.le_add_left _ _,hg h,by simp only;omega,by simp only;omega⟩,br:=br0 _ f.br }
  ·exact ok
 exact ok
def G1 {p:Pr} {m:Nat}:(qc p m).name=p.name/\ (qc p m).left=p.left/\ (qc p m).right=p.right:=by
 unfold qc;repeat' split
 all_goals exact⟨rfl,rfl,rfl⟩
end
def mV (name:List Nat) (left:Nat) (rn:Bool) (right:List (Bool×Nat)):Pr:=⟨name,left,right,rn,dQ true 3,false,0,[],true,false,0,0,0,0⟩
def yD (L:List Lv) (p:Nat):Bool:=L.any fun l=>l.prods.any fun x=>decide (x=p)
section
variable {P:Program} {X:dy} {GL:T (List AV)} {fns:T aR}
def Xa (S:aw P X GL fns) (F:jM fns) {i:Nat}:aZ P X GL fns 15 [.i .i64 (i:Int)] (.ag (bS (true,i))):=by
 refine aZ.intro fun C E=> ?_
 rw[aA E.ok (E.get F.f15)];refine Y2 @aa2.eq_1 @h0.eq_1 ?_;exact⟨9,eO (n:=8) (nY (true,i))⟩
def Xb (S:aw P X GL fns) (F:jM fns) {i:Nat}:aZ P X GL fns 24 [.i .i64 (i:Int)] (.ag (bS (false,i))):=by
 refine aZ.intro fun C E=> ?_
 rw[aA E.ok (E.get F.f24)];refine Y2 @aa3.eq_1 @h0.eq_1 ?_;exact⟨9,eO (n:=8) (nY (false,i))⟩
def Pc (S:aw P X GL fns) (F:jM fns) {i:Nat} (h:AH):dq P X GL 15 [.i .i64 (i:Int)] h (.ag (bS (true,i))) h:=aE S (Xa S F) (n:=1) (by rfl) h
def Uo (S:aw P X GL fns) (F:jM fns) {i:Nat} (h:AH):dq P X GL 24 [.i .i64 (i:Int)] h (.ag (bS (false,i))) h:=aE S (Xb S F) (n:=1) (by rfl) h
def Ky (S:aw P X GL fns) (R:dr fns) (F:jM fns) {name:List Nat} {left:Nat} {rn:Bool} {right:List (Bool×Nat)}:aZ P X GL fns 14 [.s name,.i .i64 (left:Int),eR bS 2 rn right] (.ag (cC (mV name left rn right))):=by
 have rc:=fun bb h=>jl (GL:=GL) S R bb h
 simp only[eT,eD] at rc;refine aZ.intro fun C E=> ?_
 rw[aA E.ok (E.get F.f14)];refine Y2 @W6.eq_1 @h0.eq_1 ?_;refine E.con (rc _ _) ?_;refine Y1 @aD ?_;exact⟨9,pf (p:=mV name left rn right)⟩
def Ss {L:List Lv} {i:Nat} {l:Lv} (h:L[i]? =some l):sub (L.flatMap qU) (i*4) 1=some [eR cI 1 true l.prods]:=by
 have:=aB tY h (j:=0) (n:=1) ω;simpa[qU] using this
set_option maxHeartbeats 4000000 in
def Pd (S:aw P X GL fns) (F:jM fns) {g:Gr} {p:Nat} (ok:cM g):aZ P X GL fns 43 [b9 g,.i .i64 (p:Int)] (.b (yD g.lvs p)):=by
 refine aZ.intro fun C E=> ?_
 have hll:=ok.ll;rw[aA E.ok (E.get F.f43)];refine Y3 @aa4.eq_1 @b9.eq_1 @h0.eq_1 ?_;refine aX E.ok g.lvs.length (fun i τ h=>cG (h.objs.get 0)=some (aL g)/\ (∀j l,j<i ->g.lvs[j]? =some l ->l.prods.any (fun x=>decide (x=p))=false)/\ τ.get 1=some (ι (p:Int))/\ τ.get 2=some (.p 0 0)/\ τ.get 5=some (ι (i:Int))) ?_ ?_ _ _ ⟨?_,?_,?_,?_,?_⟩
 ·rintro i τ ⟨n1,ver,ob⟩ hi ⟨c0,hj,t1,t2,t5⟩ ih;have hli:g.lvs[i]? =some g.lvs[i]:=ba hi;have el:=Ss hli;generalize g.lvs[i]=l at hli el;have hlp:=(ok.l l (bJ hli)).2.2;have c0':=c0;dsimp only at c0;simp only[aL] at c0;refine Y4 c0 t1 t2 t5 ?_;refine aX E.ok l.prods.length (fun k τ h=>cG (h.objs.get 0)=some (aL g)/\ (∀j x,j<k ->l.prods[j]? =some x ->x≠p)/\ τ.get 1=some (ι (p:Int))/\ τ.get 2=some (.p 0 0)/\ τ.get 5=some (ι (i:Int))/\ τ.get 6=some (ι (k:Int))) ?_ ?_ _ _ ⟨?_,?_,?_,?_,?_,?_⟩
  ·rintro k τ ⟨n1,ver,ob⟩ hk ⟨c0,hx,t1,t2,t5,t6⟩ ih2;have hki:l.prods[k]? =some l.prods[k]:=ba hk;have ek:sub (l.prods.flatMap cI) k 1=some [.i .i64 ((l.prods[k]:Nat):Int)]:=by
    have:=aB sF hki (j:=0) (n:=1) ω;simpa[cI] using this
   generalize l.prods[k]=y at hki ek;have c0':=c0;dsimp only at c0;simp only[aL] at c0;by_cases hy:y=p
   ·have hy':((y:Int)=(p:Int))=True:=eq_true ω;refine CM c0 t1 t2 t5 t6 @aF el ek hy' @ar ?_;refine⟨1,?_⟩;have:yD g.lvs p=true:=re.2 ⟨l,bJ hli,re.2 ⟨y,bJ hki,by simp only[hy,decide_true]⟩⟩;rw[this];rfl
   ·have hy':((y:Int)=(p:Int))=False:=eq_false ω;refine CM c0 t1 t2 t5 t6 @aF el ek hy' @ar ?_;refine ih2 _ _ ⟨c0',?_,?_,?_,?_,?_⟩
    ·intro j x hj' hx';by_cases hjk:j=k
     ·subst hjk;rw[hki] at hx';injection hx' with hx';exact hx'▸hy
     ·exact hx j x ω hx'
    all_goals exact U3 t1 t2 t5
  ·rintro τ ⟨n1,ver,ob⟩ ⟨c0,hx,t1,t2,t5,t6⟩;have c0':=c0;dsimp only at c0;simp only[aL] at c0;refine Y8 c0 t1 t2 t5 t6 @aF el @ar ?_;refine ih _ _ ⟨c0',?_,?_,?_,?_⟩
   ·intro j l' hj' hx';by_cases hjk:j=i
    ·subst hjk;rw[hli] at hx';injection hx' with hx';subst hx'
     refine Lt.2 fun x hm=> ?_
     obtain⟨j,hj⟩:=List.getElem?_of_mem hm;have:=hx j x (cW.1 hj).1 hj;simp only[decide_eq_true_eq];exact this
    ·exact hj j l' ω hx'
   all_goals exact U3 t1 t2 t5
  ·exact c0'
  ·intro j x h;omega
  all_goals exact U4 t1 t2 t5 @po
 ·rintro τ ⟨n1,ver,ob⟩ ⟨c0,hj,t1,t2,t5⟩;dsimp only at c0;simp only[aL] at c0;refine Y4 c0 t1 t2 t5 ?_;refine⟨1,?_⟩;have:yD g.lvs p=false:=Lt.2 fun l hm=>by
   obtain⟨j,hj'⟩:=List.getElem?_of_mem hm;rw[hj j l (cW.1 hj').1 hj'];decide
  rw[this];rfl
 ·exact U0
 ·intro j l h;omega
 all_goals exact U1 @po
end
def Su (W:AV) (bs:List Nat):Prop:=(∀b∈bs,b<256)/\ ((W= .sn/\ bs=[])∨(∃L:List AV,W= .ds L 0 bs.length 1/\∀(i b:Nat),bs[i]? =some b ->L[i]? =some (.i .u8 (b:Int))))
def Ei (n b:Nat):Bool×Nat:=if b%14<9 then (true,b%14) else (false,(b%14-9)%n)
def du (n:Nat) (bs:List Nat):List (Bool×Nat):=(bs.take 4).map (Ei n)
def toks (l:List (Bool×Nat)):Nat:=(l.filter (·.1)).length
def jI (a:Nat) (l:List (Bool×Nat)):Bool:=l.all fun s=>s.1||decide (a<s.2)
def bsR (h:AH) (y:AV):bj:=match y with
 | .s _=> .bad
 |y=>match cR h 1 y with
  |some l=>match gE l with|some b=> .v (.s b) h|none=> .bad
  |none=> .bad
def Pe {ev:MA ->AV} {h:AH} {x:MA}:step ev h (.b2s x)=bsR h (ev x):=rfl
def Xc {h:AH} {o b:Nat} {c:Option Nat} (hb:b<256) (hc:cG (h.objs.get o)=some [.i .u8 (b:Int)]):bsR h (.sl o 0 1 c 1)= .v (.s [b]) h:=by
 have e1:cR h 1 (.sl o 0 1 c 1)=some [.i .u8 (b:Int)]:=nT (show h.cells o=some _ from hc) (gI rfl);have e2:gE [.i .u8 (b:Int)]=some [b]:=by
  have e3:uB (.i .u8 (b:Int))=some b:=by
   show(bif Nat.ble b 255 then some b else none)=some b;rw[aQ,decide_eq_true ω];rfl
  show fC uB [AV.i .u8 (b:Int)]=_;rw[xI,e3];rfl
 show(match cR h 1 (.sl o 0 1 c 1) with|some l=>(match gE l with|some b=>bj.v (.s b) h|none=> .bad)|none=> .bad)=_;rw[e1];show(match gE [.i .u8 (b:Int)] with|some b=>bj.v (.s b) h|none=> .bad)=_;rw[e2]
section
variable {P:Program} {X:dy} {GL:T (List AV)} {fns:T aR}
def xC (left:Nat) (W:AV) (ii mk:Nat):List AV:=[.i .u8 (left:Int),W,.i .u8 (ii:Int),.i .u8 (mk:Int)]
def cP (name:List Nat) (a:Nat) (V:AV):List AV:=[.s name,.i .i64 (a:Int),V,fG (ax (dQ true 3)).1,.i .i64 ((ax (dQ true 3)).2:Int),.b false,.i .i64 0,.sn,.b false,.i .i64 0,.i .i64 0,.i .i64 0,.i .i64 0]
def Up (h:AH) (R:List (Bool×Nat)) (V:AV):Prop:=(R=[]/\ V= .sn)∨∃o n,R.length=n+1/\ V= .sl o 0 (n+1) none 2/\ 5<=o/\ o<h.next/\ cG (h.objs.get o)=some (R.flatMap bS)
structure LI (g:Gr) (W:AV) (left ii mk:Nat) (name:List Nat) (a:Nat) (R:List (Bool×Nat)) (τ:T AV) (h:AH):Prop where
 c0:cG (h.objs.get 0)=some (aL g)
 c1:cG (h.objs.get 1)=some (xC left W ii mk)
 c2:cG (h.objs.get 2)=some [.sn,.sn,.i .i64 0,.sn,.sn,.sn,.i .i64 0,.sn,.sn]
 c3:∃V,cG (h.objs.get 3)=some (cP name a V)/\ Up h R V
 nx:5<=h.next
 t3:τ.get 3=some (.p 0 0)
 t4:τ.get 4=some (.p 1 0)
 t6:τ.get 6=some (.p 2 0)
 t7:τ.get 7=some (ι (g.nts.length:Int))
 t8:τ.get 8=some (.p 3 0)
 t9:τ.get 9=some (ι (toks R:Int))
 t10:τ.get 10=some (.b (jI a R))
abbrev Sv:List Fr:=[.b 0,.s Cq]
def ve {R:List (Bool×Nat)} {s:Bool×Nat}:toks (R++[s])=toks R+(if s.1 then 1 else 0):=by
 unfold toks;rw[List.filter_append,cX];rcases s with ⟨_|_,n⟩<;>rfl
def sJ {a:Nat} {R:List (Bool×Nat)} {s:Bool×Nat}:jI a (R++[s])=(jI a R&&(s.1||decide (a<s.2))):=by
 unfold jI;rw[List.all_append];simp
set_option maxHeartbeats 4000000 in
def Sw {C:cQ Prop} (S:aw P X GL fns) (E:gW P X GL fns C) (F:jM fns) {g:Gr} (ok:cM g) {left ii mk:Nat} {W:AV} {bs:List Nat} (hX:Su W bs) (hn:aJ 64 W=true) {kn:Bool} {name:List Nat} {a:Nat} (K:K Prop)
 {τ:T AV} {h:AH} (L:LI g W left ii mk name a [] τ h) (t2:τ.get 2=some (.b kn)) (t11:τ.get 11=some (ι 0)) (hb:0<bs.length)
 (ih:∀τ' h',LI g W left ii mk name a [Ei g.nts.length bs[0]] τ' h' ->τ'.get 2=some (.b kn) ->τ'.get 11=some (ι ((0+1:Nat):Int)) ->dk C (.loop (.seq (.seq yz (.cond (.t 38) .skip (.exit 0))) sH)) Sv K τ' h'):
 dk C (.seq (.seq yz (.cond (.t 38) .skip (.exit 0))) sH) (.s (.loop (.seq (.seq yz (.cond (.t 38) .skip (.exit 0))) sH))::Sv) K τ h:=by
 obtain⟨n1,v1,ob⟩:=h;obtain⟨c0,c1,c2,⟨V,c3,hV⟩,nx,t3,t4,t6,t7,t8,t9,t10⟩:=L;rcases hX with ⟨hlt,⟨rfl,rfl⟩|⟨Lw,rfl,hL⟩⟩
 ·simp at hb
 have b0:bs[0]? =some bs[0]:=ba hb;have hb256:=hlt _ (bJ b0);have eb:=hL 0 _ b0;generalize bs[0]=b at*;have hV':V= .sn:=by
  rcases hV with ⟨-,h⟩|⟨o,n,h,-⟩
  ·exact h
  ·cases h
 subst hV';simp only[cP] at c3;simp only[xC] at c1;have nx':5<=n1:=nx;dsimp only at c0 c1 c2 c3;have rc:=fun i h=>Pc (GL:=GL) S F (i:=i) h
 have nc:=fun i h=>Uo (GL:=GL) S F (i:=i) h
 have lp:(0<bs.length)=True:=eq_true hb;simp only[bS] at rc nc;have s0:sub Lw 0 1=some [.i .u8 (b:Int)]:=j5 eb;have wb:bT .i64 (b:Int)=(b:Int):=fJ ω;have r14:aV .rem (ι (b:Int)) (ι 14)=some (ι ((b%14:Nat):Int)):=dm (c:=14) ω;have tk0:toks []=0:=rfl;have lt0:jI a []=true:=rfl;rw[tk0] at t9;rw[lt0] at t10;by_cases hk:b%14<9
 ·have k9:(((b%14:Nat):Int)<9)=True:=eq_true ω;refine WF c0 c1 c2 c3 t2 t3 t4 t6 t7 t8 t9 t10 t11 lp s0 wb r14 k9 ?_;refine E.con (rc _ _) ?_;refine Z20 c0 c1 c2 c3 t2 t3 t4 t6 t7 t8 t9 t10 t11 lp s0 wb r14 k9 @nz @ar ?_;have es:Ei g.nts.length b=(true,b%14):=by unfold Ei;rw[if_pos hk]
  refine ih _ _ { c0:= ?_,c1:= ?_,c2:= ?_,c3:=⟨_,?_,.inr ⟨n1+1,0,rfl,rfl,by omega,by show n1+1<n1+1+1;omega,?_⟩⟩,nx:=by show 5<=n1+1+1;omega,t3:= ?_,t4:= ?_,t6:= ?_,t7:= ?_,t8:= ?_,t9:= ?_,t10:= ?_ } ?_ ?_
  any_goals simp only[T.get_put,Nat.reduceEqDiff,reduceIte,t2,t3,t4,t6,t7,t8,t10]
  ·exact U1 c0
  ·exact U2 c1 @xC.eq_1
  ·exact U1 c2
  ·simp only[dB];rfl
  ·simp(disch:=omega) only[cF,T.get_put,if_false,if_true,dB];rw[es];rfl
  ·rw[es];rfl
  ·rw[es];rfl
  ·rfl
 ·have k9:(((b%14:Nat):Int)<9)=False:=eq_false ω;have s9:aV .sub (ι ((b%14:Nat):Int)) (ι 9)=some (ι ((b%14-9:Nat):Int)):=oK (b:=9) ω;have rn:aV .rem (ι ((b%14-9:Nat):Int)) (ι (g.nts.length:Int))=some (ι (((b%14-9)%g.nts.length:Nat):Int)):=dm (by have:=ok.ntl;omega);have es:Ei g.nts.length b=(false,(b%14-9)%g.nts.length):=by unfold Ei;rw[if_neg hk]
  have lc:((a:Int)<(((b%14-9)%g.nts.length:Nat):Int))=(a<(b%14-9)%g.nts.length):=propext Int.ofNat_lt;refine Z20 c0 c1 c2 c3 t2 t3 t4 t6 t7 t8 t9 t10 t11 lp s0 wb r14 k9 s9 rn ?_;refine E.con (nc _ _) ?_;refine Z23 c0 c1 c2 c3 t2 t3 t4 t6 t7 t8 t9 t10 t11 lp s0 wb r14 k9 s9 rn lc @nz @ar ?_;refine ih _ _ { c0:= ?_,c1:= ?_,c2:= ?_,c3:=⟨_,?_,.inr ⟨n1+1,0,rfl,rfl,by omega,by show n1+1<n1+1+1;omega,?_⟩⟩,nx:=by show 5<=n1+1+1;omega,t3:= ?_,t4:= ?_,t6:= ?_,t7:= ?_,t8:= ?_,t9:= ?_,t10:= ?_ } ?_ ?_
  any_goals simp only[T.get_put,Nat.reduceEqDiff,reduceIte,t2,t3,t4,t6,t7,t8,t9,t10]
  ·exact U1 c0
  ·exact U2 c1 @xC.eq_1
  ·exact U1 c2
  ·simp only[dB];rfl
  ·simp(disch:=omega) only[cF,T.get_put,if_false,if_true,dB];rw[es];rfl
  ·rw[es];rfl
  ·rw[es];unfold jI;simp
  ·rfl
set_option maxHeartbeats 4000000 in
def Sx {C:cQ Prop} (S:aw P X GL fns) (E:gW P X GL fns C) (F:jM fns) {g:Gr} (ok:cM g) {left ii mk:Nat} {W:AV} {bs:List Nat} (hX:Su W bs) (hn:aJ 64 W=true) {kn:Bool} {name:List Nat} {a:Nat} {R:List (Bool×Nat)} {n:Nat} (hR:R.length=n+1) (K:K Prop)
 {τ:T AV} {h:AH} (L:LI g W left ii mk name a R τ h) (t2:τ.get 2=some (.b kn)) (t11:τ.get 11=some (ι ((n+1:Nat):Int))) (hn3:n+1<4) (hb:n+1<bs.length)
 (ih:∀τ' h',LI g W left ii mk name a (R++[Ei g.nts.length bs[n+1]]) τ' h' ->τ'.get 2=some (.b kn) ->τ'.get 11=some (ι ((n+1+1:Nat):Int)) ->dk C (.loop (.seq (.seq yz (.cond (.t 38) .skip (.exit 0))) sH)) Sv K τ' h'):
 dk C (.seq (.seq yz (.cond (.t 38) .skip (.exit 0))) sH) (.s (.loop (.seq (.seq yz (.cond (.t 38) .skip (.exit 0))) sH))::Sv) K τ h:=by
 obtain⟨n1,v1,ob⟩:=h;obtain⟨c0,c1,c2,⟨V,c3,hV⟩,nx,t3,t4,t6,t7,t8,t9,t10⟩:=L;rcases hX with ⟨hlt,⟨rfl,rfl⟩|⟨Lw,rfl,hL⟩⟩
 ·simp at hb
 have b0:bs[n+1]? =some bs[n+1]:=ba hb;have hb256:=hlt _ (bJ b0);have eb:=hL (n+1) _ b0;generalize bs[n+1]=b at*;rcases hV with ⟨rfl,-⟩|⟨o,n',hn',rfl,o5,lo,co⟩
 ·cases hR
 have en:n'=n:=by omega
 subst en;have lo':o<n1:=lo;have hl:(R.flatMap bS).length=(n'+1)*2:=by rw[dG bz,hR]
 dsimp only at co;simp only[cP] at c3;simp only[xC] at c1;have nx':5<=n1:=nx;dsimp only at c0 c1 c2 c3;have rc:=fun i h=>Pc (GL:=GL) S F (i:=i) h
 have nc:=fun i h=>Uo (GL:=GL) S F (i:=i) h
 have lp:(((n'+1:Nat):Int)<(bs.length:Int))=True:=eq_true ω;have lp':n'+1<bs.length:=hb;have lp4:(((n'+1:Nat):Int)<4)=True:=eq_true ω;simp only[bS] at rc nc;have s0:sub Lw (n'+1) 1=some [.i .u8 (b:Int)]:=j5 eb;have wb:bT .i64 (b:Int)=(b:Int):=fJ ω;have r14:aV .rem (ι (b:Int)) (ι 14)=some (ι ((b%14:Nat):Int)):=dm (c:=14) ω;have tl:toks R<=R.length:=List.length_filter_le _ _;have fl:∀s,(R++[s]).flatMap bS=R.flatMap bS++bS s:=fun s=>by rw[ik,w7]
 by_cases hk:b%14<9
 ·have k9:(((b%14:Nat):Int)<9)=True:=eq_true ω;refine Z22 c0 c1 c2 c3 co hl lp' lp4 t2 t3 t4 t6 t7 t8 t9 t10 t11 lp s0 wb r14 k9 ?_;refine E.con (rc _ _) ?_;refine Z24 c0 c1 c2 c3 co hl lp' lp4 t2 t3 t4 t6 t7 t8 t9 t10 t11 lp s0 wb r14 k9 @nz @ar ?_;have es:Ei g.nts.length b=(true,b%14):=by unfold Ei;rw[if_pos hk]
  refine ih _ _ { c0:= ?_,c1:= ?_,c2:= ?_,c3:=⟨_,?_,.inr ⟨n1+1,n'+1,by simp[hR],rfl,by omega,by show n1+1<n1+1+1;omega,?_⟩⟩,nx:=by show 5<=n1+1+1;omega,t3:= ?_,t4:= ?_,t6:= ?_,t7:= ?_,t8:= ?_,t9:= ?_,t10:= ?_ } ?_ ?_
  any_goals simp only[T.get_put,Nat.reduceEqDiff,reduceIte,t2,t3,t4,t6,t7,t8,t10]
  ·exact U1 c0
  ·exact U2 c1 @xC.eq_1
  ·exact U1 c2
  ·simp only[dB];rfl
  ·simp(disch:=omega) only[cF,T.get_put,if_false,if_true,dB];rw[es,fl];rfl
  ·rw[es,ve];rfl
  ·rw[es,sJ];simp
 ·have k9:(((b%14:Nat):Int)<9)=False:=eq_false ω;have s9:aV .sub (ι ((b%14:Nat):Int)) (ι 9)=some (ι ((b%14-9:Nat):Int)):=oK (b:=9) ω;have rn:aV .rem (ι ((b%14-9:Nat):Int)) (ι (g.nts.length:Int))=some (ι (((b%14-9)%g.nts.length:Nat):Int)):=dm (by have:=ok.ntl;omega);have es:Ei g.nts.length b=(false,(b%14-9)%g.nts.length):=by unfold Ei;rw[if_neg hk]
  have lc:((a:Int)<(((b%14-9)%g.nts.length:Nat):Int))=(a<(b%14-9)%g.nts.length):=propext Int.ofNat_lt;rcases hq:jI a R with _|_<;>rw[hq] at t10
  ·refine Z24 c0 c1 c2 c3 co hl lp' lp4 t2 t3 t4 t6 t7 t8 t9 t10 t11 lp s0 wb r14 k9 s9 rn ?_;refine E.con (nc _ _) ?_;refine Z27 c0 c1 c2 c3 co hl lp' lp4 t2 t3 t4 t6 t7 t8 t9 t10 t11 lp s0 wb r14 k9 s9 rn lc @nz @ar ?_;refine ih _ _ { c0:= ?_,c1:= ?_,c2:= ?_,c3:=⟨_,?_,.inr ⟨n1+1,n'+1,by simp[hR],rfl,by omega,by show n1+1<n1+1+1;omega,?_⟩⟩,nx:=by show 5<=n1+1+1;omega,t3:= ?_,t4:= ?_,t6:= ?_,t7:= ?_,t8:= ?_,t9:= ?_,t10:= ?_ } ?_ ?_
   any_goals simp only[T.get_put,Nat.reduceEqDiff,reduceIte,t2,t3,t4,t6,t7,t8,t9,t10]
   ·exact U1 c0
   ·exact U2 c1 @xC.eq_1
   ·exact U1 c2
   ·simp only[dB];rfl
   ·simp(disch:=omega) only[cF,T.get_put,if_false,if_true,dB];rw[es,fl];rfl
   ·rw[es,ve];rfl
   ·rw[es,sJ,hq];simp
  ·refine Z24 c0 c1 c2 c3 co hl lp' lp4 t2 t3 t4 t6 t7 t8 t9 t10 t11 lp s0 wb r14 k9 s9 rn ?_;refine E.con (nc _ _) ?_;refine Z27 c0 c1 c2 c3 co hl lp' lp4 t2 t3 t4 t6 t7 t8 t9 t10 t11 lp s0 wb r14 k9 s9 rn lc @nz @ar ?_;refine ih _ _ { c0:= ?_,c1:= ?_,c2:= ?_,c3:=⟨_,?_,.inr ⟨n1+1,n'+1,by simp[hR],rfl,by omega,by show n1+1<n1+1+1;omega,?_⟩⟩,nx:=by show 5<=n1+1+1;omega,t3:= ?_,t4:= ?_,t6:= ?_,t7:= ?_,t8:= ?_,t9:= ?_,t10:= ?_ } ?_ ?_
   any_goals simp only[T.get_put,Nat.reduceEqDiff,reduceIte,t2,t3,t4,t6,t7,t8,t9,t10]
   ·exact U1 c0
   ·exact U2 c1 @xC.eq_1
   ·exact U1 c2
   ·simp only[dB];rfl
   ·simp(disch:=omega) only[cF,T.get_put,if_false,if_true,dB];rw[es,fl];rfl
   ·rw[es,ve];rfl
   ·rw[es,sJ,hq];simp
end
end
end AM
