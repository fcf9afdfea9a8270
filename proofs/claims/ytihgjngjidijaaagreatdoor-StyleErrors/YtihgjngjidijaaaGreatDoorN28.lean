import Derived.Test.YtihgjngjidijaaaGreatDoorN26
set_option linter.all false
set_option maxHeartbeats 8000000
namespace AM
open Dg Go
noncomputable section
def mf:Tr ->Nat ->Bool
 | .c b,_=>b
 | .n l h,c=>bif Nat.beq (c%2) 1 then mf h (c/2) else mf l (c/2)
def TY:T au:=T.put .e 168 Sb
def bc6 {ae:T au} (F:fu ae):∀f m,TY.get f=some m ->ae.get f=some m:=gk AF F.f168
def ckI (GL:T (List AV)) (t:Tr) (c:Nat):Bool:=gM GL TY (λ_ _=>none) 1000 168 [eT t,.i .u64 (c:Nat)] (.b (mf t c))
def mg (GL:T (List AV)) (t:Tr):Bool:=(List.range 8).all λc=>ckI GL t c
def ci0 (GL:T (List AV)):(dC 0).all (mg GL)=true:=af
def ci1 (GL:T (List AV)):(dC 1).all (mg GL)=true:=af
def ci2 (GL:T (List AV)):(dC 2).all (mg GL)=true:=af
def ci3 (GL:T (List AV)):(dC 3).all (mg GL)=true:=af
def ci4 (GL:T (List AV)):(dC 4).all (mg GL)=true:=af
def ci5 (GL:T (List AV)):(dC 5).all (mg GL)=true:=af
def ci6 (GL:T (List AV)):(dC 6).all (mg GL)=true:=af
def ci7 (GL:T (List AV)):(dC 7).all (mg GL)=true:=af
def ci8 (GL:T (List AV)):(dC 8).all (mg GL)=true:=af
def ci9 (GL:T (List AV)):(dC 9).all (mg GL)=true:=af
def bc7 (GL:T (List AV)):(dC 10).all (mg GL)=true:=af
def bc8 (GL:T (List AV)):(dC 11).all (mg GL)=true:=af
def bc9 (GL:T (List AV)):(dC 12).all (mg GL)=true:=af
def bd0 (GL:T (List AV)):(dC 13).all (mg GL)=true:=af
def bd1 (GL:T (List AV)):(dC 14).all (mg GL)=true:=af
def bd2 (GL:T (List AV)):(dC 15).all (mg GL)=true:=af
def bd3 (GL:T (List AV)):∀t∈iy 3,mg GL t=true:=Et λi hi=>by
 rcases(show i=0∨i=1∨i=2∨i=3∨i=4∨i=5∨i=6∨i=7∨i=8∨i=9∨i=10∨i=11∨i=12∨i=13∨i=14∨i=15 by omega) with rfl|rfl|rfl|rfl|rfl|rfl|rfl|rfl|rfl|rfl|rfl|rfl|rfl|rfl|rfl|rfl
 ·exact ci0 GL
 ·exact ci1 GL
 ·exact ci2 GL
 ·exact ci3 GL
 ·exact ci4 GL
 ·exact ci5 GL
 ·exact ci6 GL
 ·exact ci7 GL
 ·exact ci8 GL
 ·exact ci9 GL
 ·exact bc7 GL
 ·exact bc8 GL
 ·exact bc9 GL
 ·exact bd0 GL
 ·exact bd1 GL
 ·exact bd2 GL
variable {P:Program} {X:aR} {GL:T (List AV)} {ae:T au}
def bd4 (F:fu ae) {t:Tr} (ht:cA 3 t=true) {c:Nat} (hc:c<8):bg P X GL ae 168 [eT t,.i .u64 (c:Int)] (.b (mf t c)):=
 hY (bc6 F) iE (fX.1 (bd3 GL t (ss ht)) c (mA.2 hc))
variable (S:aT P X GL ae)
def E3 (F:fu ae) {t:Tr} (ht:cA 3 t=true) {c:Nat} (hc:c<8) (h:AH):bP P X GL 168 [eT t,.i .u64 (c:Int)] h (.b (mf t c)) h:=
 dR S (bd4 F ht hc) (n:=9) (by simp only[aL,jB,bZ,dH]) h
def ad8 {i:Nat} (h:i<8):aY .add (.i .u64 (i:Int)) (.i .u64 1)=some (.i .u64 ((i+1:Nat):Int)):=by
 rcases(show i=0∨i=1∨i=2∨i=3∨i=4∨i=5∨i=6∨i=7 by omega) with rfl|rfl|rfl|rfl|rfl|rfl|rfl|rfl<;>rfl
def bd5:(iy 3).all (λt=>(List.range 4).all λn=> !jq n t||(Nat.beq (aE t).2 0||(List.range 8).any λc=>Nat.beq (c/2^n) 0&&mf t c))=true:=af
def sh8 {c k:Nat} (hc:c<8) (hk:k<=3):aY .shr (.i .u64 (c:Int)) (.i .u64 (k:Int))=some (.i .u64 ((c/2^k:Nat):Int)):=by
 rcases(show c=0∨c=1∨c=2∨c=3∨c=4∨c=5∨c=6∨c=7 by omega) with rfl|rfl|rfl|rfl|rfl|rfl|rfl|rfl<;>
  rcases(show k=0∨k=1∨k=2∨k=3 by omega) with rfl|rfl|rfl|rfl<;>rfl
def kS (g:Gr) (c:Nat):Bool:=Nat.beq (c/2^g.nc) 0&&mf g.fam c
def bd6 (F:fu ae) {g:Gr} (G:ce g) {c:Nat} (hc:c<8) (h:AH):bP P X GL 84 [aI g,.i .u64 (c:Int)] h (.b (kS g c)) h:=by
 refine ku S (λn h=>by simp only[aL,bZ,dH]) ?_ h;refine bg.intro λC E=> ?_;have nc:=G.nc;have sh:=sh8 hc nc;have ic:=λh=>E3 S F G.fam.f hc h;have cl:(fz g.nc).length=g.nc:=by unfold fz;rw[jm];simp;omega
 simp only[eT,eD] at ic;have e64:(((fz g.nc).length:Int)=64)=False:=av;have wq:dN .u64 ((fz g.nc).length:Int)=((g.nc:Nat):Int):=by
  rw[cl];rcases(show g.nc=0∨g.nc=1∨g.nc=2∨g.nc=3 by omega) with e|e|e|e<;>rw[e]<;>rfl
 rw[E.cB F.f84];by_cases hz:c/2^g.nc=0
 ·have hz':(((c/2^g.nc:Nat):Int)=0)=True:=cJ;refine Y8 @JG.eq_1 @aI.eq_1 @ar.eq_1 @h0.eq_1 e64 wq sh hz' ?_;refine E.cN (ic _) (Y0 ?_);exact⟨1,by simp only[kS,hz];rfl⟩
 ·have hz':(((c/2^g.nc:Nat):Int)=0)=False:=av;refine Y8 @JG.eq_1 @aI.eq_1 @ar.eq_1 @h0.eq_1 e64 wq sh hz' ?_;have hb:Nat.beq (c/2^g.nc) 0=false:=by
   cases e:Nat.beq (c/2^g.nc) 0 with
   |false=>rfl
   |true=>exact bh (qG e) hz
  exact⟨1,by simp only[kS,hb];rfl⟩
def bd7 {g:Gr} (G:ce g):∃c,c<8/\ kS g c=true:=by
 have h:=fX.1 (fX.1 bd5 g.fam (ss G.fam.f)) g.nc (mA.2 (by have:=G.nc;omega));simp only[G.fam.d,jk,zC,ja,qK,mA] at h;rcases h with h|⟨c,hc,h⟩
 ·exact bh (qG h) G.famr
 ·exact⟨c,hc,h⟩
def mh (g:Gr):List Nat:=(List.range 8).filter (kS g)
def TZ {g:Gr} (G:ce g):mh g≠[]:=by
 obtain⟨c,hc,h⟩:=bd7 G;exact List.ne_nil_of_mem (List.mem_filter.2 ⟨mA.2 hc,h⟩)
def lD (g:Gr) (k:Nat):Nat:=(mh g).getD (k%(mh g).length) 0
def T0 {g:Gr} (G:ce g) (k:Nat):lD g k<8/\ kS g (lD g k)=true:=by
 have hn:=xG.2 (TZ G);have hi:k%(mh g).length<(mh g).length:=jv _ hn;have e:lD g k=(mh g)[k%(mh g).length]:=by
  unfold lD;rw[kX,cE hi];rfl
 have hm:lD g k∈mh g:=by rw[e];exact List.getElem_mem hi
 obtain⟨h1,h2⟩:=List.mem_filter.1 hm;exact⟨mA.1 h1,h2⟩
def cU (n:Nat):List AV:=[.i .u64 (n:Int)]
def T1:∀L:List Nat,(L.flatMap cU).length=L.length*1
 |[]=>rfl
 |a::l=>by rw[lE,dy,T1 l,gJ];show 1+_=_;omega
def T2 (h:AH) (v:AV) (L:List Nat):Prop:=(L=[]/\ v= .sn)∨(L≠[]/\∃o,o<h.next/\ 1<=o/\ v= .sl o 0 L.length none 1/\ cG (h.oB.get o)=some (L.flatMap cU))
def bd8 (F:fu ae) {g:Gr} (G:ce g) {k:Nat} (hk:k<256):bg P X GL ae 44 [aI g,.i .u8 (k:Int)] (.i .u64 (lD g k:Int)):=by
 refine bg.intro λC E=> ?_;rw[E.cB F.f44];have bq:=iW (g:=g);refine Y3 @Sd.eq_1 @aI.eq_1 @h0.eq_1 ?_;refine fj E.ok 8 (λi τ h=>cG (h.oB.get 0)=some (ar g)/\ 1<=h.next/\ τ.get 1=some (.i .u8 (k:Int))/\ τ.get 2=some (.p 0 0)/\ τ.get 6=some (.i .u64 (i:Int))/\∃v,τ.get 5=some v/\ T2 h v ((List.range i).filter (kS g))) ?_ ?_ _ _ ⟨?_,?_,?_,?_,?_,?_⟩
 ·rintro i τ ⟨n1,ver,ob⟩ hi ⟨c0,hn,t1,t2,t6,v,t5,hv⟩ ih;have hc:=λh=>bd6 (GL:=GL) (c:=i) S F G hi h;have de:=c0;dsimp only at c0;simp only[ar] at c0 bq;simp only[aI,ar] at hc;have hi8:((i:Int)<8)=True:=cJ;have ad:=ad8 hi;refine Y6 c0 t1 t2 t5 t6 hi8 ?_;refine E.cN (hc _) ?_;cases hb:kS g i with
  |false=>
   have e:(List.range (i+1)).filter (kS g)=(List.range i).filter (kS g):=by rw[zD,List.filter_append];simp[hb]
   refine Y6 c0 t1 t2 t5 t6 ad ?_;refine ih _ _ ⟨de,hn,?_,?_,?_,v,?_,?_⟩
   ·exact U1 t1
   ·exact U1 t2
   ·exact U0
   ·exact U1 t5
   ·rw[e];exact hv
  |true=>
   have e:(List.range (i+1)).filter (kS g)=(List.range i).filter (kS g)++[i]:=by rw[zD,List.filter_append];simp[hb]
   have lb:((List.range i).filter (kS g)).length<=8:=fJ (List.length_filter_le _ _) (by rw[List.length_range];omega);generalize (List.range i).filter (kS g)=L at*;have hn':1<=n1:=hn;have z1:(0=n1)=False:=av;have z2:(0=n1+1)=False:=av;rcases hv with ⟨rfl,rfl⟩|⟨hv,o,ho,ho1,rfl,hL⟩
   ·refine Y7 c0 t1 t2 t5 t6 ad @iP ?_;refine ih _ _ ⟨?_,?_,?_,?_,?_,.sl (n1+1) 0 1 none 1,?_,?_⟩
    ·exact wW (ap z1 z2) de
    ·show 1<=n1+1+1;omega
    ·exact U1 t1
    ·exact U1 t2
    ·exact U0
    ·exact U0
    ·rw[e];exact .inr ⟨by simp,n1+1,by show n1+1<n1+1+1;omega,by omega,rfl,by exact U0⟩
   ·dsimp only at hL ho;have ll:(L.flatMap cU).length=L.length*1:=T1 L;have l8:(L.length+1<=1048576)=True:=cJ;have zo:(0=o)=False:=av;have on:(o=n1)=False:=av;refine jC c0 t1 t2 t5 t6 ad hL @iP ll l8 on ?_;refine ih _ _ ⟨?_,?_,?_,?_,?_,.sl (n1+1) 0 (L.length+1) none 1,?_,?_⟩
    ·exact wW (ap z1 (ap z2 zo)) de
    ·show 1<=n1+1+1;omega
    ·exact U1 t1
    ·exact U1 t2
    ·exact U0
    ·exact U0
    ·rw[e];exact .inr ⟨by simp,n1+1,by show n1+1<n1+1+1;omega,by omega,by rw[dy];rfl,by rw[jl];exact U0⟩
 ·rintro τ ⟨n1,ver,ob⟩ ⟨c0,hn,t1,t2,t6,v,t5,hv⟩;have ne:=TZ G;change T2 _ v (mh g) at hv;rcases hv with ⟨h0,-⟩|⟨-,o,ho,ho1,rfl,hL⟩
  ·exact bh h0 ne
  have lp:=xG.2 ne;have hm:k%(mh g).length<(mh g).length:=jv _ lp;have hi8:((8:Int)<8)=False:=av;dsimp only at hL;have wk:dN .i64 (k:Int)=(k:Int):=by rw[vW];exact F9 .i64 k (by show k<=9223372036854775807;omega)
  have rm:aY .rem (ι (k:Int)) (ι ((mh g).length:Int))=some (ι ((k%(mh g).length:Nat):Int)):=iA lp;have el:sub ((mh g).flatMap cU) (k%(mh g).length) 1=some [.i .u64 (lD g k:Int)]:=by
   have e:(mh g)[k%(mh g).length]? =some (lD g k):=by
    unfold lD;rw[kX,cE hm];rfl
   have:=cW (enc:=cU) (k:=1) (λ_=>rfl) e (j:=0) (n:=1) ω;simpa[cU] using this
  refine nS t1 t2 t5 t6 hi8 hL wk rm el hm ?_;exact⟨1,rfl⟩
 ·rfl
 ·exact bB _
 all_goals first|exact U0|exact⟨_,U0,.inl ⟨rfl,rfl⟩⟩
def tW (g:Gr) (c:Nat) (s:Bool×Nat):Bool:= !s.1||mf (g.tc.getD s.2 (.c false)) c
def sQ (g:Gr) (c:Nat) (p:Pr):Bool:=p.right.all (tW g c)&&mf p.cond c
def bd9 (F:fu ae) {g:Gr} (G:ce g) {c:Nat} (hc:c<8) {i:Nat} {p:Pr} (hp:g.pR[i]? =some p) (h:AH):bP P X GL 281 [aI g,.i .u64 (c:Int),ι (i:Int)] h (.b (sQ g c p)) h:=by
 refine dR S (n:=9) ?_ (by rw[aL,kq (n:=6)];simp only[aL,bZ,dH]) h;refine bg.intro λC E=> ?_;have hi:=(eC.1 hp).1;have ok:=G.p p (dI hp);have pl:=G.pl;have rl:=ok.len;have e0:sub (g.pR.flatMap aM) (i*13) 13=some (aM p):=by
  have:=cW kr hp (j:=0) (n:=13) ω;simpa[aM] using this
 have cm:=λh=>E3 (GL:=GL) S F ok.cond.f hc h;simp only[eT,eD] at cm;have nk4:nice 64 (eR aM 13 true g.pR)=true:=dg iV;have nk3:∀k,nice 64 (.dp (g.pR.flatMap aM) k)=true:=λk=>by rw[fK,fE iV]
 simp only[aM] at e0;refine E.bS F.f281 (Y8 @Sc.eq_1 @aI.eq_1 @ar.eq_1 @h0.eq_1 @bG e0 nk3 nk4 ?_);refine fj E.ok p.right.length (λk τ h=>cG (h.oB.get 0)=some (ar g)/\ cG (h.oB.get 1)=some (aM p)/\ τ.get 1=some (.i .u64 (c:Int))/\ τ.get 3=some (.p 0 0)/\ τ.get 7=some (.p 1 0)/\ τ.get 8=some (ι (k:Int))/\ (p.right.take k).all (tW g c)=true) ?_ ?_ _ _ ⟨?_,?_,?_,?_,?_,?_,?_⟩
 ·rintro k τ ⟨n1,ver1,aQ⟩ hk ⟨c0,c1,t1,t3,t7,t8,ha⟩ ih;have hri:p.right[k]? =some p.right[k]:=cE hk;generalize hs:p.right[k]=s at hri;have ft:(p.right.take (k+1)).all (tW g c)=tW g c s:=by rw[nY hri,List.all_append,ha];simp
  have de:=c0;have c1':=c1;simp only[ar] at c0;simp only[aM] at c1;have dk:∀k,nice 64 (.dp (p.right.flatMap ba) k)=true:=λk=>by rw[fK,fE jE]
  have db:nice 64 (eR ba 2 p.rn p.right)=true:=dg jE;have nk5:nice 64 (eR dq 7 true g.tc.zipIdx)=true:=dg oM;have nk6:∀k,nice 64 (.dp (g.tc.zipIdx.flatMap dq) k)=true:=λk=>by rw[fK,fE oM]
  have tl:=G.tcl;have hz:g.tc.zipIdx.length=11:=by rw[ny,tl]
  have q2:sub (p.right.flatMap ba) (k*2+1) 1=some [ι (s.2:Int)]:=cW gO hri (j:=1) (n:=1) ω;rcases ok.sym _ (dI hri) with ⟨s1,s2⟩|⟨s1,s2⟩
  ·have q1:sub (p.right.flatMap ba) (k*2) 1=some [.b true]:=by
    have:=cW gO hri (j:=0) (n:=1) ω;simpa[ba,s1] using this
   obtain⟨tc,hc1,hz2⟩:=re (g:=g) tl (i:=s.2) ω;have fc:=(G.tc tc (dI hc1)).f;have e7:sub (g.tc.zipIdx.flatMap dq) (s.2*7+5) 2=some [cu (aE tc).1,ι ((aE tc).2:Int)]:=cW qx hz2 (j:=5) (n:=2) ω;have cm2:=λh=>E3 (GL:=GL) S F fc hc h;simp only[eT,eD] at cm2;have st:tW g c s=mf tc c:=by unfold tW;rw[s1,kX,hc1];rfl
   refine pq c0 c1 t1 t3 t7 t8 @bG hz q1 q2 e7 db dk nk5 nk6 @dw ?_;refine E.cN (cm2 _) ?_;cases hb:mf tc c with
   |true=>
    refine qp c0 c1 t1 t3 t7 t8 @bG hz q1 q2 e7 db dk nk5 nk6 @dw @bK ?_;refine ih _ _ ⟨de,c1',?_,?_,?_,?_,?_⟩
    ·exact U1 t1
    ·exact U1 t3
    ·exact U1 t7
    ·exact U0
    ·rw[ft,st,hb]
   |false=>
    refine qp c0 c1 t1 t3 t7 t8 @bG hz q1 q2 e7 db dk nk5 nk6 @dw @bK ?_;have e:sQ g c p=false:=by
     have:p.right.all (tW g c)=false:=by
      rw[List.all_eq_false];exact⟨s,dI hri,by rw[st,hb];simp⟩
     unfold sQ;rw[this];rfl
    exact⟨1,by rw[e];rfl⟩
  ·have q1:sub (p.right.flatMap ba) (k*2) 1=some [.b false]:=by
    have:=cW gO hri (j:=0) (n:=1) ω;simpa[ba,s1] using this
   have st:tW g c s=true:=by unfold tW;rw[s1];rfl
   refine pm c0 c1 t1 t3 t7 t8 @bG q1 q2 db dk @dw @bK ?_;refine ih _ _ ⟨de,c1',?_,?_,?_,?_,?_⟩
   ·exact U1 t1
   ·exact U1 t3
   ·exact U1 t7
   ·exact U0
   ·rw[ft,st]
 ·rintro τ ⟨n1,ver1,aQ⟩ ⟨c0,c1,t1,t3,t7,t8,ha⟩;rw[rL] at ha;simp only[aM] at c1;refine Y7 c1 t1 t3 t7 t8 @dw @bG ?_;refine E.cN (cm _) (Y0 ?_);have e:sQ g c p=mf p.cond c:=by unfold sQ;rw[ha];rfl
  exact⟨1,by rw[e];rfl⟩
 ·exact U1 @ar.eq_1
 ·exact U1 @aM.eq_1
 ·exact U0
 ·exact U0
 ·exact U0
 ·exact U0
 ·rfl
def kx (L:List Nat) (n:Nat) (s:Bool×Nat):Nat:=bif s.1 then n else max n (L.getD s.2 0)
def fW (g:Gr) (c:Nat) (L:List Nat) (p:Pr):Nat:=bif sQ g c p then min (p.right.foldl (kx L) 0+1) 1000 else 1000
def be0 {L:List Nat} (hL:∀x∈L,x<=1000) {n:Nat} (hn:n<=1000) (s:Bool×Nat):kx L n s<=1000:=by
 unfold kx;cases s.1 with
 |true=>exact hn
 |false=>
  refine Nat.max_le.2 ⟨hn,?_⟩;rw[kX];cases e:L[s.2]? with
  |none=>exact oi _
  |some x=>exact hL x (dI e)
def T3 {L:List Nat} (hL:∀x∈L,x<=1000):∀(r:List (Bool×Nat)) {n:Nat},n<=1000 ->r.foldl (kx L) n<=1000
 |[],_,h=>h
 |s::r,n,h=>T3 hL r (be0 hL h s)
def T4 (F:fu ae) {g:Gr} (G:ce g) {c:Nat} (hc:c<8) {i:Nat} {p:Pr} (hp:g.pR[i]? =some p) {L:List Nat} (hl:L.length=g.nT.length) (hL:∀x∈L,x<=1000):bg P X GL ae 169 [aI g,.i .u64 (c:Int),ι (i:Int),eR cI 1 true L] (ι (fW g c L p:Int)):=by
 refine bg.intro λC E=> ?_;have hi:=(eC.1 hp).1;have ok:=G.p p (dI hp);have pl:=G.pl;have rl:=ok.len;have nl:=G.ntl;have e2:sub (g.pR.flatMap aM) (i*13+2) 1=some [eR ba 2 p.rn p.right]:=cW kr hp (j:=2) (n:=1) ω;have cm:=λh=>bd9 (GL:=GL) S F G hc hp h;simp only[aI,ar] at cm;have bq:=iW (g:=g);simp only[ar] at bq;have nk4:nice 64 (eR aM 13 true g.pR)=true:=dg iV;have nk3:∀k,nice 64 (.dp (g.pR.flatMap aM) k)=true:=λk=>by rw[fK,fE iV]
 refine E.bS F.f169 (Y5 @Se.eq_1 @aI.eq_1 @ar.eq_1 @h0.eq_1 bq ?_);refine E.cN (cm _) ?_;cases hb:sQ g c p with
 |false=>
  refine Y0 ?_;exact⟨1,by simp only[fW,hb];rfl⟩
 |true=>
  refine Y4 @bG e2 nk3 nk4 ?_;refine fj E.ok p.right.length (λk τ h=>τ.get 3=some (eR cI 1 true L)/\ τ.get 10=some (eR ba 2 p.rn p.right)/\ τ.get 11=some (ι (k:Int))/\ τ.get 9=some (ι (((p.right.take k).foldl (kx L) 0:Nat):Int))) ?_ ?_ _ _ ⟨?_,?_,?_,?_⟩
  ·rintro k τ ⟨n1,ver1,aQ⟩ hk ⟨t3,t10,bH,t9⟩ ih;have hri:p.right[k]? =some p.right[k]:=cE hk;generalize hs:p.right[k]=s at hri;have ft:(p.right.take (k+1)).foldl (kx L) 0=kx L ((p.right.take k).foldl (kx L) 0) s:=by rw[nY hri,xH];rfl
   generalize (p.right.take k).foldl (kx L) 0=w at*;have dk:∀k,nice 64 (.dp (p.right.flatMap ba) k)=true:=λk=>by rw[fK,fE jE]
   have db:nice 64 (eR ba 2 p.rn p.right)=true:=dg jE;have nk5:nice 64 (eR cI 1 true L)=true:=dg tS;have nk6:∀k,nice 64 (.dp (L.flatMap cI) k)=true:=λk=>by rw[fK,fE tS]
   have q2:sub (p.right.flatMap ba) (k*2+1) 1=some [ι (s.2:Int)]:=cW gO hri (j:=1) (n:=1) ω;rcases ok.sym _ (dI hri) with ⟨s1,s2⟩|⟨s1,s2⟩
   ·have q1:sub (p.right.flatMap ba) (k*2) 1=some [.b true]:=by
     have:=cW gO hri (j:=0) (n:=1) ω;simpa[ba,s1] using this
    refine jC t3 t9 t10 bH @bG q1 q2 db dk @dw @bK ?_;refine ih _ _ ⟨?_,?_,?_,?_⟩
    ·exact U1 t3
    ·exact U1 t10
    ·exact U0
    ·rw[ft];unfold kx;rw[s1];exact U1 t9
   ·have q1:sub (p.right.flatMap ba) (k*2) 1=some [.b false]:=by
     have:=cW gO hri (j:=0) (n:=1) ω;simpa[ba,s1] using this
    have hli:L[s.2]? =some L[s.2]:=cE ω;have ql:sub (L.flatMap cI) s.2 1=some [ι ((L[s.2]:Nat):Int)]:=by
     have:=cW qw hli (j:=0) (n:=1) ω;simpa[cI] using this
    have aV:s.2<L.length:=by omega
    generalize hx:L[s.2]=x at hli ql;have mm:(if (w:Int)<(x:Int) then (x:Int) else (w:Int))=((max w x:Nat):Int):=by split<;>omega
    refine qp t3 t9 t10 bH @bG q1 q2 ql aV db dk nk5 nk6 @dw @jP mm @bK ?_;refine ih _ _ ⟨?_,?_,?_,?_⟩
    ·exact U1 t3
    ·exact U1 t10
    ·exact U0
    ·have e:kx L w s=max w x:=by unfold kx;rw[s1,kX,hli];rfl
     rw[ft,e];exact U0
  ·rintro τ ⟨n1,ver1,aQ⟩ ⟨t3,t10,bH,t9⟩;rw[rL] at t9;have mn:(if (1000:Int)<((p.right.foldl (kx L) 0+1:Nat):Int) then (1000:Int) else ((p.right.foldl (kx L) 0+1:Nat):Int))=((min (p.right.foldl (kx L) 0+1) 1000:Nat):Int):=by split<;>omega
   have le:=T3 hL p.right (n:=0) ω;have e:fW g c L p=min (p.right.foldl (kx L) 0+1) 1000:=by simp only[fW,hb];rfl
   rw[e];generalize p.right.foldl (kx L) 0=w at*;refine Y8 t3 t9 t10 bH @dw @jP mn @bK ?_;exact⟨1,rfl⟩
  all_goals exact U0
def m6 (g:Gr) (c:Nat) (lv:AV) (a:Nat) (hv ov:AV):List AV:=ar g++[.i .u64 (c:Int),lv,ι (a:Int),hv,ov]
variable {C:aK Prop} (E:Sem P X GL ae C)
def T6 (F:fu ae) {g:Gr} {c:Nat} {B:List AV} {kk a n:Nat} {hv ov:AV} (hb:∀i,i<kk ->∃b:Nat,b<256/\ B[i]? =some (.i .u8 (b:Int))) (nk:nice 64 (.ds B 0 kk 1)=true) (hk:kk<=40) (ha:a<=kk) (hn:1<=n/\ n<=1000) {o:Nat} {h:AH} (ho:cG (h.oB.get o)=some (m6 g c (.ds B 0 kk 1) a hv ov)) (k:AV ->AH ->Prop)
 (h1:kk<=a ->k (ι 0) h)
 (h2:a<kk ->∀r h',r<n ->h'.next=h.next ->cG (h'.oB.get o)=some (m6 g c (.ds B 0 kk 1) (a+1) hv ov) ->(∀j,j≠o ->h'.oB.get j=h.oB.get j) ->k (ι (r:Int)) h'):
 du C 170 [.p o 0,ι (n:Int)] h k:=by
 obtain⟨m,ver,ob⟩:=h;dsimp only at ho;have bT:=ho;simp only[m6,ar,gw,gx] at ho;rw[E.cB F.f170];rcases iO a kk with q|q
 ·have q1:((kk:Int)<=(a:Int))=False:=av;have q2:((n:Int)<1)=False:=av;obtain⟨b,hb1,hb2⟩:=hb a q;have ia:∀h,nU h 1 a (.ds B 0 kk 1)= .v (.dp B a) h:=λh=>by rw[yR,aF ⟨rfl,q⟩,gB,vH]
  have nkp:nice 64 (.dp B a)=true:=by rw[fK];rw[nN] at nk;exact nk
  have sb:sub B a 1=some [.i .u8 (b:Int)]:=qY hb2;have wk:dN .i64 (b:Int)=(b:Int):=by rw[vW];exact F9 .i64 b (by show b<=9223372036854775807;omega)
  have rm:aY .rem (ι (b:Int)) (ι (n:Int))=some (ι ((b%n:Nat):Int)):=iA ω;have sm:aY .sub (ι ((a+1:Nat):Int)) (ι 1)=some (ι (a:Int)):=qV (a:=a+1) (b:=1) ω;refine iU @Ep.eq_1 ho nk q1 q2 ia nkp sb wk rm sm @bK ?_;refine h2 q (b%n) _ (jv _ ω) rfl ?_ ?_
  ·simp only[m6,ar,gw,gx];exact U0
  ·intro j hj;have e:(j=o)=False:=dQ hj;exact U1 e
 ·have q1:((kk:Int)<=(a:Int))=True:=cJ;refine Y4 @Ep.eq_1 ho nk q1 ?_;exact h1 q
def vL (L:List Nat) (m:Nat):Nat:=L.getD m 0
def be1 {L:List Nat} {i x j:Nat} (hi:i<L.length):vL (L.set i x) j=if j=i then x else vL L j:=by
 unfold vL;rw[kX,kX,xF];split
 ·rename_i h;subst h;rw[aF rfl];simp
 ·rename_i h;rw[aD (λe=>h e.symm)]
def T7 {L:List Nat} {r:Nat}:∀(q:List (Bool×Nat)) {n:Nat},q.foldl (kx L) n<=r↔n<=r/\∀s∈q,s.1=false ->vL L s.2<=r
 |[],n=>by simp
 |s::q,n=>by
  rw[zH,T7 q,List.forall_mem_cons];unfold kx;cases e:s.1 with
  |true=>simp
  |false=>simp only[eU,Nat.max_le];unfold vL;constructor<;>(intro h;simp_all)
def sR {g:Gr} {c:Nat} {L:List Nat} {p:Pr} {t:Nat} (ht:t<1000):fW g c L p<=t↔sQ g c p=true/\ 1<=t/\∀s∈p.right,s.1=false ->vL L s.2+1<=t:=by
 unfold fW;cases sQ g c p with
 |false=>simp only[eU,nr,false_and,iff_false];omega
 |true=>
  simp only[fC,true_and];have:=T7 (L:=L) (r:=t-1) p.right (n:=0);constructor
  ·intro h;have h1:p.right.foldl (kx L) 0<=t-1:=by omega
   exact⟨by omega,λs hs e=>by have:=(this.1 h1).2 s hs e;omega⟩
  ·rintro⟨h1,h2⟩;have:=this.2 ⟨oi _,λs hs e=>by have:=h2 s hs e;omega⟩;omega
def Kz {g:Gr} {c:Nat} {L:List Nat} {p:Pr}:fW g c L p<=1000:=by
 unfold fW;cases sQ g c p with
 |false=>exact bB _
 |true=>exact zI _ _
def be2 {g:Gr} {c:Nat} {L M:List Nat} {p:Pr} (h:∀m,vL L m<=vL M m):fW g c L p<=fW g c M p:=by
 rcases iO (fW g c M p) 1000 with q|q
 ·obtain⟨a,b,d⟩:=(sR q).1 (bB _);exact(sR q).2 ⟨a,b,λs hs e=>by have:=d s hs e;have:=h s.2;omega⟩
 ·exact fJ Kz q
def jF (g:Gr) (c:Nat) (L:List Nat) (p:Pr):List Nat:=L.set p.left (min (vL L p.left) (fW g c L p))
def jS (g:Gr) (c:Nat):Nat ->List Nat
 |0=>List.replicate g.nT.length 1000
 |k+1=>g.pR.foldl (jF g c) (jS g c k)
def vu (g:Gr) (c:Nat):List Nat:=jS g c (g.nT.length+1)
structure HI (g:Gr) (c:Nat) (L:List Nat):Prop where
 len:L.length=g.nT.length
 le:∀m,vL L m<=1000
 b:∀m,m<g.nT.length ->vL L m<1000 ->∃p∈g.pR,p.left=m/\ fW g c L p<=vL L m
def HJ (g:Gr) (c:Nat) (L:List Nat) (r:Nat):Prop:=∀p∈g.pR,∀t,t<=r ->fW g c L p<=t ->vL L p.left<=t
section
variable {g:Gr} {c:Nat}
def E4 {L:List Nat} {p:Pr} (h:p.left<L.length) (j:Nat):vL (jF g c L p) j=if j=p.left then min (vL L p.left) (fW g c L p) else vL L j:=be1 h
def T8 {L:List Nat} {p:Pr} (h:p.left<L.length) (j:Nat):vL (jF g c L p) j<=vL L j:=by
 rw[E4 h];split
 ·rename_i e;rw[e];exact Cn _ _
 ·exact bB _
def HI.step {L:List Nat} (I:HI g c L) {p:Pr} (hp:p∈g.pR) (hl:p.left<g.nT.length):HI g c (jF g c L p):=by
 have hl':p.left<L.length:=by rw[I.len];exact hl
 have lo:=T8 (g:=g) (c:=c) hl';refine⟨by unfold jF;rw[vK,I.len],λm=>fJ (lo m) (I.le m),λm hm h=> ?_⟩;have mo:=λq=>be2 (g:=g) (c:=c) (p:=q) lo;rw[E4 hl'] at h ⊢;by_cases e:m=p.left
 ·subst e;rw[aF rfl] at h ⊢;rcases zF (vL L p.left) (fW g c L p) with q|q
  ·rw[kF q] at h ⊢;obtain⟨x,hx,e1,e2⟩:=I.b _ hm h;exact⟨x,hx,e1,fJ (mo x) e2⟩
  ·rw[sY q];exact⟨p,hp,rfl,mo p⟩
 ·rw[aD e] at h ⊢;obtain⟨x,hx,e1,e2⟩:=I.b _ hm h;exact⟨x,hx,e1,fJ (mo x) e2⟩
def round {L0:List Nat} {r:Nat} (J:HJ g c L0 r) (hr:r+1<1000) (hk:∀p∈g.pR,p.left<g.nT.length):∀(ps dn:List Pr) (L:List Nat),dn++ps=g.pR ->HI g c L ->(∀m,vL L m<=vL L0 m) ->(∀m,vL L m<=r ->vL L0 m=vL L m) ->
 (∀p∈dn,fW g c L p<=r+1 ->vL L p.left<=r+1) ->HI g c (ps.foldl (jF g c) L)/\ HJ g c (ps.foldl (jF g c) L) (r+1):=by
 have back:∀L:List Nat,(∀m,vL L m<=r ->vL L0 m=vL L m) ->∀M:List Nat,(∀m,vL M m<=vL L0 m) ->∀(p:Pr) t,t<=r+1 ->fW g c L p<=t ->fW g c M p<=t:=by
  intro L h2 M h1 p t ht h;obtain⟨a,b,d⟩:=(sR ω).1 h;refine(sR ω).2 ⟨a,b,λs hs e=> ?_⟩;have:=d s hs e;have q:=h2 s.2 ω;have:=h1 s.2;omega
 intro ps;induction ps with
 |nil=>
  intro dn L e I h1 h2 h3;rw[lG] at e;refine⟨I,λp hp t ht h=> ?_⟩;rcases iO r t with q|q
  ·obtain rfl:t=r+1:=by omega
   exact h3 p (by rw[e];exact hp) h
  ·exact fJ (h1 _) (J p hp t q (back L h2 L0 (λ_=>bB _) p t ω h))
 |cons p ps ih=>
  intro dn L e I h1 h2 h3;have hp:p∈g.pR:=by rw[←e];simp
  have hl:=hk p hp;have hl':p.left<L.length:=by rw[I.len];exact hl
  have lo:=T8 (g:=g) (c:=c) hl';have h1':∀m,vL (jF g c L p) m<=vL L0 m:=λm=>fJ (lo m) (h1 m);have h2':∀m,vL (jF g c L p) m<=r ->vL L0 m=vL (jF g c L p) m:=by
   intro m hm;have at_:=E4 (g:=g) (c:=c) hl' m;rw[at_] at hm ⊢;split at hm
   ·rename_i em;subst em;rw[aF rfl];rcases zF (vL L p.left) (fW g c L p) with q|q
    ·rw[kF q] at hm ⊢;exact h2 _ hm
    ·rw[sY q] at hm ⊢;have:=J p hp _ hm (back L h2 L0 (λ_=>bB _) p _ ω (bB _));have:=h1 p.left;have:vL L p.left=fW g c L p:=by omega
     rw[←this];exact h2 _ ω
   ·rename_i em;rw[aD em];exact h2 _ hm
  refine ih (dn++[p]) (jF g c L p) (by rw[nz];exact e) (I.step hp hl) h1' h2' λq hq h=> ?_;have hb:=back _ h2' L h1 q _ (bB _) h;rcases fO.1 hq with hq|hq
  ·exact fJ (lo _) (h3 q hq hb)
  ·obtain rfl:=fk.1 hq;rw[E4 hl',aF rfl];exact fJ (zI _ _) hb
def T9 {n m:Nat}:vL (List.replicate n 1000) m=if m<n then 1000 else 0:=by
 unfold vL;rw[kX,List.getElem?_replicate];split<;>rfl
def Ua (hk:∀p∈g.pR,p.left<g.nT.length):∀k,k<999 ->HI g c (jS g c k)/\ HJ g c (jS g c k) k
 |0,_=>by
  refine⟨⟨Cs,λm=> ?_,λm hm h=> ?_⟩,λp hp t ht h=> ?_⟩
  ·unfold jS;rw[T9];split<;>omega
  ·unfold jS at h;rw[T9,aF hm] at h;omega
  ·have:=((sR ω).1 h).2.1;omega
 |k+1,h=>by
  obtain⟨I,J⟩:=Ua hk k ω;exact round J ω hk g.pR [] (jS g c k) rfl I (λ_=>bB _) (λ_ _=>rfl) (λp hp=>by cases hp)
def Ub:∀(k:Nat) (L:List Nat),(∀w,1<=w ->w<=k ->w∈L) ->k<=L.length
 |0,_,_=>oi _
 |k+1,L,h=>by
  have h1:=h (k+1) ω (bB _);have:=Ub k (L.erase (k+1)) λw h2 h3=>(List.mem_erase_of_ne ω).2 (h w h2 ω);rw[List.length_erase_of_mem h1] at this;have:=List.length_pos_of_mem h1;omega
structure BK (g:Gr) (c:Nat) (L:List Nat):Prop where
 len:L.length=g.nT.length
 le:∀x∈L,x<=1000
 ex:∀m,m<g.nT.length ->vL L m<1000 ->∃p∈g.pR,p.left=m/\ fW g c L p=vL L m
 fin:∀m,m<g.nT.length ->vL L m<1000 ->vL L m<=g.nT.length
def be3 (G:ce g):BK g c (vu g c):=by
 have hn:=G.ntl;obtain⟨I,J⟩:=Ua (g:=g) (c:=c) (λp hp=>(G.p p hp).left) (g.nT.length+1) ω;change HI g c (vu g c) at I;change HJ g c (vu g c) _ at J;generalize vu g c=L at*;have kid:∀p∈g.pR,∀s∈p.right,s.1=false ->s.2<g.nT.length:=λp hp s hs e=>by
  rcases(G.p p hp).sym s hs with ⟨a,-⟩|⟨-,b⟩
  ·rw[e] at a;cases a
  ·exact b
 have mem:∀m,m<g.nT.length ->vL L m∈L:=λm hm=>by
  have hl:m<L.length:=by rw[I.len];exact hm
  unfold vL;rw[kX,cE hl];exact List.getElem_mem hl
 have fin:∀m,m<g.nT.length ->vL L m<1000 ->vL L m<=g.nT.length:=by
  intro m hm hx;refine Nat.le_of_not_lt λhgt=> ?_;have:∃w,1<=w/\ w<=g.nT.length/\¬w∈L:=by
   refine uk λhno=> ?_;have:=Ub g.nT.length (L.erase (vL L m)) λw h2 h3=>(List.mem_erase_of_ne ω).2 (uk λh4=>hno ⟨w,h2,h3,h4⟩);rw[List.length_erase_of_mem (mem m hm),I.len] at this;omega
  obtain⟨w,w1,wn,hw⟩:=this;have key:∀x,w<x ->x<1000 ->∀m,m<g.nT.length ->vL L m≠x:=by
   intro x;induction x using Nat.strongRecOn with
   |_ x ih=>
    intro h1 h2 m hm e;obtain⟨p,hp,hl,hh⟩:=I.b m hm ω;obtain⟨a,b,d⟩:=(sR ω).1 hh;have:fW g c L p<=w:=(sR ω).2 ⟨a,w1,λs hs es=>by
     have h3:=d s hs es;have hk:=kid p hp s hs es;have h5:vL L s.2≠w:=λe5=>hw (e5▸mem _ hk);rcases iO w (vL L s.2) with q|q
     ·exact bh rfl (ih (vL L s.2) ω q ω s.2 hk)
     ·omega⟩
    have:=J p hp w ω this;rw[hl] at this;omega
  exact key _ ω hx m hm rfl
 have low:∀p∈g.pR,vL L p.left<=fW g c L p:=by
  intro p hp;rcases iO (fW g c L p) 1000 with q|q
  ·obtain⟨a,b,d⟩:=(sR q).1 (bB _);refine J p hp _ ?_ (bB _);refine(sR ω).2 ⟨a,by omega,λs hs e=> ?_⟩;have:=d s hs e;have:=fin s.2 (kid p hp s hs e) ω;omega
  ·exact fJ (I.le _) q
 refine⟨I.len,λx hx=> ?_,λm hm h=> ?_,fin⟩
 ·obtain⟨i,hi,e⟩:=sX.1 hx;have:=I.le i;unfold vL at this;rw[kX,cE hi] at this;rw[←e];exact this
 ·obtain⟨p,hp,hl,hh⟩:=I.b m hm h;have:=low p hp;rw[hl] at this;exact⟨p,hp,hl,Nat.le_antisymm hh this⟩
end
def BL {α:Type} {enc:α ->List AV} {k:Nat} {nl:Bool}:∀{L:List α},L≠[] ->eR enc k nl L= .ds (L.flatMap enc) 0 L.length k
 |[],h=>bh rfl h
 |_::_,_=>yT
def Uc (n:Nat):(List.replicate n [AV.i .i64 0]).flatten=(List.replicate n 0).flatMap cI:=by
 induction n with
 |zero=>rfl
 |succ n ih=>rw[uc,vD,ih,uc,lE];rfl
def E5 {x:Nat}:∀{L:List Nat} {i:Nat},i<L.length ->dW [AV.i .i64 (x:Int)] (L.flatMap cI) i=some ((L.set i x).flatMap cI)
 |[],i,h=>by simp at h
 |a::L,0,h=>rfl
 |a::L,i+1,h=>by
  rw[lE,List.set_cons_succ,lE];show dW _ (AV.i .i64 (a:Int)::L.flatMap cI) (i+1)=_;rw[Aw,E5 (L:=L) (i:=i) (by simpa using h)];rfl
def be4 {g:Gr} {c:Nat} {L:List Nat} {p:Pr} (h:∀x∈L,x<=1000):∀x∈jF g c L p,x<=1000:=λx hx=>by
 rcases FF hx with q|q
 ·exact h x q
 ·rw[q];exact fJ (zI _ _) Kz
def be5 (F:fu ae) {g:Gr} (G:ce g) {c:Nat} (hc:c<8):bg P X GL ae 85 [aI g,.i .u64 (c:Int)] (eR cI 1 true (vu g c)):=by
 refine bg.intro λC E=> ?_;have ntl:=G.ntl;have pl:=G.pl;generalize hn:g.nT.length=n at ntl;have n6:(n<=1048576)=True:=cJ;have lenI:∀r i,((g.pR.take i).foldl (jF g c) (jS g c r)).length=n:=λr i=>by
  have key:∀(ps:List Pr) (L:List Nat),(ps.foldl (jF g c) L).length=L.length:=λps=>by
   induction ps with
   |nil=>intro L;rfl
   |cons p ps ih=>intro L;rw[zH,ih];exact vK
  have k2:∀r,(jS g c r).length=n:=λr=>by
   induction r with
   |zero=>exact List.length_replicate.trans hn
   |succ r ih=>exact(key _ _).trans ih
  rw[key,k2]
 have il:∀r,(jS g c r).length=n:=λr=>lenI r 0;have memI:∀L:List Nat,∀ps:List Pr,(∀x∈L,x<=1000) ->∀x∈ps.foldl (jF g c) L,x<=1000:=λL ps=>by
  induction ps generalizing L with
  |nil=>exact λh=>h
  |cons p ps ih=>exact λh=>ih _ (be4 h)
 have ilm:∀r,∀x∈jS g c r,x<=1000:=λr=>by
  induction r with
  |zero=>intro x hx;rw[(List.mem_replicate.1 hx).2];omega
  |succ r ih=>exact memI _ _ ih
 have hi0:jS g c 0=List.replicate n 1000:=by unfold jS;rw[hn]
 refine E.bS F.f85 (Y7 @Sf.eq_1 @aI.eq_1 @ar.eq_1 @h0.eq_1 @Uc hn n6 ?_);refine fj E.ok n (λi τ h=>cG (h.oB.get 0)=some (ar g)/\ (∃L:List Nat,cG (h.oB.get 1)=some (L.flatMap cI)/\ L.length=n/\∀j,j<i ->L[j]? =some 1000)/\ τ.get 1=some (.i .u64 (c:Int))/\ τ.get 2=some (.p 0 0)/\ τ.get 5=some (.sl 1 0 n (some n) 1)/\ τ.get 6=some (ι (i:Int))) ?_ ?_ _ _ ⟨?_,⟨List.replicate n 0,?_,Cs,λj hj=>by omega⟩,?_,?_,?_,?_⟩
 ·rintro i τ ⟨n1,ver,ob⟩ hi ⟨c0,⟨L,c1,hl,ha⟩,t1,t2,t5,t6⟩ ih;have hi':((i:Int)<(n:Int))=True:=cJ;have hin:(i<n)=True:=fq hi;have ov:dW [AV.i .i64 1000] (L.flatMap cI) i=some ((L.set i 1000).flatMap cI):=E5 (x:=1000) ω;dsimp only at c1;refine Y9 c1 t1 t2 t5 t6 hi' hin ov @bK ?_;refine ih _ _ ⟨W0 c0,⟨L.set i 1000,?_,by rw[vK,hl],λj hj=> ?_⟩,?_,?_,?_,?_⟩
  ·exact U0
  ·rw[xF];split
   ·rw[aF ω]
   ·exact ha j ω
  all_goals first|exact U0|exact U1 t1|exact U1 t2|exact U1 t5
 ·rintro τ ⟨n1,ver,ob⟩ ⟨c0,⟨L,c1,hl,ha⟩,t1,t2,t5,t6⟩;obtain rfl:L=List.replicate n 1000:=List.eq_replicate_iff.2 ⟨hl,λb hb=>by
   obtain⟨j,hj,e⟩:=sX.1 hb;have:=ha j ω;rw[cE hj,e] at this;exact gC this⟩
  refine Y5 c1 t1 t2 t5 t6 ?_;refine fj E.ok (n+1) (λr τ h=>cG (h.oB.get 0)=some (ar g)/\ cG (h.oB.get 1)=some ((jS g c r).flatMap cI)/\ τ.get 1=some (.i .u64 (c:Int))/\ τ.get 2=some (.p 0 0)/\ τ.get 5=some (.sl 1 0 n (some n) 1)/\ τ.get 7=some (ι (r:Int))) ?_ ?_ _ _ ⟨c0,?_,?_,?_,?_,?_⟩
  ·rintro r τ ⟨n1,ver,ob⟩ hr ⟨c0,c1,t1,t2,t5,t7⟩ ih;have cy:((r:Int)<((n+1:Nat):Int))=True:=cJ;refine Y6 t1 t2 t5 t7 @bK cy ?_;refine fj E.ok g.pR.length (λi τ h=>cG (h.oB.get 0)=some (ar g)/\ cG (h.oB.get 1)=some (((g.pR.take i).foldl (jF g c) (jS g c r)).flatMap cI)/\ τ.get 1=some (.i .u64 (c:Int))/\ τ.get 2=some (.p 0 0)/\ τ.get 5=some (.sl 1 0 n (some n) 1)/\ τ.get 7=some (ι (r:Int))/\ τ.get 8=some (ι (i:Int))) ?_ ?_ _ _ ⟨c0,c1,?_,?_,?_,?_,?_⟩
   ·rintro i τ ⟨n1,ver,ob⟩ hi ⟨c0,c1,t1,t2,t5,t7,t8⟩ ih;have hp:g.pR[i]? =some g.pR[i]:=cE hi;generalize hpe:g.pR[i]=p at hp;have ok:=G.p p (dI hp);rw[hn] at ok;have ft:(g.pR.take (i+1)).foldl (jF g c) (jS g c r)=jF g c ((g.pR.take i).foldl (jF g c) (jS g c r)) p:=by rw[nY hp,xH];rfl
    have fl:((g.pR.take i).foldl (jF g c) (jS g c r)).length=n:=lenI _ i;have fm:=memI (jS g c r) (g.pR.take i) (ilm r);rw[ft] at ih;generalize (g.pR.take i).foldl (jF g c) (jS g c r)=L at*;have aV:=ok.left;have hpl:(p.left<n)=True:=fq aV;have e1:sub (g.pR.flatMap aM) (i*13+1) 1=some [ι (p.left:Int)]:=by
     have:=cW kr hp (j:=1) (n:=1) ω;simpa[aM] using this
    have de:=c0;have c1':=c1;dsimp only at c0 c1;simp only[ar] at c0;have nk4:nice 64 (eR aM 13 true g.pR)=true:=dg iV;have nk3:∀k,nice 64 (.dp (g.pR.flatMap aM) k)=true:=λk=>by rw[fK,fE iV]
    have bq:=iW (g:=g);simp only[ar] at bq;have lne:L≠[]:=λe=>by rw[e] at fl;simp at fl;omega
    have hc1:∀h:AH,cG (h.oB.get 1)=some (L.flatMap cI) ->bP P X GL 169 [aI g,.i .u64 (c:Int),ι (i:Int),.sl 1 0 n (some n) 1] h (ι (fW g c L p:Int)) h:=λh hh=>
     oE S (T4 S F G hc hp (fl.trans hn.symm) fm) (n:=9) (m:=1) (by
      rw[aL,aL,aL,aL,bZ,kq (n:=6),dH,dH,gA (n:=8) hh (qZ yZ _),BL lne,fl]) rfl
    simp only[aI,ar] at hc1;have hv:(vL L p.left:Nat)=vL L p.left:=rfl;have e2:sub (L.flatMap cI) p.left 1=some [ι (vL L p.left:Int)]:=by
     have hli:L[p.left]? =some L[p.left]:=cE ω;have:=cW qw hli (j:=0) (n:=1) ω;unfold vL;rw[kX,hli];simpa[cI] using this
    have mm:(if ((fW g c L p:Nat):Int)<((vL L p.left:Nat):Int) then ((fW g c L p:Nat):Int) else ((vL L p.left:Nat):Int))=((min (vL L p.left) (fW g c L p):Nat):Int):=by split<;>omega
    refine qp c0 c1 t1 t2 t5 t7 t8 @bG e1 nk3 nk4 bq hpl e2 @jP mm @dw ?_;refine E.cN (hc1 _ c1') ?_;have ov:dW [AV.i .i64 ((min (vL L p.left) (fW g c L p):Nat):Int)] (L.flatMap cI) p.left=some ((jF g c L p).flatMap cI):=E5 ω;refine qr c0 c1 t1 t2 t5 t7 t8 @bG e1 nk3 nk4 bq hpl e2 @jP mm @dw ov @bK @ar.eq_1 ?_;refine ih _ _ ⟨W0 de,?_,?_,?_,?_,?_,?_⟩;all_goals first|exact U0|exact U1 t1|exact U1 t2|exact U1 t5|exact U1 t7
   ·rintro τ ⟨n1,ver,ob⟩ ⟨c0,c1,t1,t2,t5,t7,t8⟩;rw[rL] at c1;have de:=c0;dsimp only at c0;simp only[ar] at c0;refine Y8 c0 t1 t2 t5 t7 t8 @dw @bK ?_;refine ih _ _ ⟨de,c1,?_,?_,?_,?_⟩;all_goals first|exact U0|exact U1 t1|exact U1 t2|exact U1 t5
   all_goals first|exact U0|exact U1 t1|exact U1 t2|exact U1 t5|exact U1 t7
  ·rintro τ ⟨n1,ver,ob⟩ ⟨c0,c1,t1,t2,t5,t7⟩;refine Y5 t1 t2 t5 t7 @bK ?_;have e:vu g c=jS g c (n+1):=by unfold vu;rw[hn]
   refine⟨9,?_⟩;rw[gA (n:=8) c1 (qZ yZ _),e,BL (by intro e;have:=il (n+1);rw[e] at this;simp at this;omega),il]
  all_goals first|exact U0|exact U1 t1|exact U1 t2|exact U1 t5|(rw[hi0];exact c1)
 all_goals exact U0
def be6:∀L:List Nat,(L.flatMap cI).length=L.length*1:=kh qw
def Ud (b:Nat) (h:AH) (v:AV) (L:List Nat):Prop:=(L=[]/\ v= .sn)∨(L≠[]/\∃q,b<=q/\ q<h.next/\ v= .sl q 0 L.length none 1/\ cG (h.oB.get q)=some (L.flatMap cI))
def gW (g:Gr) (c:Nat) (B:AV) (kk:Nat) (L:List Nat) (a:Nat) (ov:AV):List AV:=m6 g c B a (eR cI 1 true L) ov
structure oV (B:AV) (kk:Nat):Prop where
 b:(kk=0/\ B= .sn)∨∃D,B= .ds D 0 kk 1/\∀i,i<kk ->∃b:Nat,b<256/\ D[i]? =some (.i .u8 (b:Int))
 nk:nice 64 B=true
 le:kk<=40
def oV.len {B:AV} {kk:Nat} (h:oV B kk) (h':AH):kg h' B= .v (ι (kk:Int)) h':=by
 rcases h.b with ⟨rfl,rfl⟩|⟨D,rfl,-⟩<;>rfl
def E6 (g:Gr) (c:Nat) (L:List Nat) (m i:Nat):Prop:=∃p,g.pR[i]? =some p/\ p.left=m/\ fW g c L p<1000
def tX (g:Gr) (c:Nat) (L:List Nat) (m i:Nat):Prop:=∃p,g.pR[i]? =some p/\ p.left=m/\ fW g c L p=vL L m
def KA (F:fu ae) {g:Gr} {c:Nat} {B:AV} {kk a n:Nat} {L:List Nat} {ov:AV} (hB:oV B kk) (ha:a<=kk) (hn:1<=n/\ n<=1000) {o:Nat} {h:AH} (ho:cG (h.oB.get o)=some (gW g c B kk L a ov)) (k:AV ->AH ->Prop)
 (hk:∀r a' h',r<n ->a<=a' ->a'<=kk ->h'.next=h.next ->cG (h'.oB.get o)=some (gW g c B kk L a' ov) ->(∀j,j≠o ->h'.oB.get j=h.oB.get j) ->k (ι (r:Int)) h'):
 du C 170 [.p o 0,ι (n:Int)] h k:=by
 rcases hB.b with ⟨rfl,rfl⟩|⟨D,rfl,hb⟩
 ·obtain rfl:a=0:=by omega
  obtain⟨m,ver,ob⟩:=h;dsimp only at ho;have bT:=ho;simp only[gW,m6,ar,gw,gx] at ho;rw[E.cB F.f170];have nk:=hB.nk;refine Y3 @Ep.eq_1 ho nk ?_;exact hk 0 0 _ hn.1 (bB _) ha rfl bT λ_ _=>rfl
 ·exact T6 E F hb hB.nk hB.le ha hn ho k (λ_=>hk 0 a h hn.1 (bB _) ha rfl ho λ_ _=>rfl) λq r h' hr h1 h2 h3=>hk r (a+1) h' hr (nD _) q h1 h2 h3
def be7 (F:fu ae) {g:Gr} {c:Nat} {B:AV} {kk a n:Nat} {L:List Nat} {ov:AV} (hB:oV B kk) (ha:a<kk) (hn:1<=n/\ n<=1000) {o:Nat} {h:AH} (ho:cG (h.oB.get o)=some (gW g c B kk L a ov)) (k:AV ->AH ->Prop)
 (hk:∀r h',r<n ->h'.next=h.next ->cG (h'.oB.get o)=some (gW g c B kk L (a+1) ov) ->(∀j,j≠o ->h'.oB.get j=h.oB.get j) ->k (ι (r:Int)) h'):
 du C 170 [.p o 0,ι (n:Int)] h k:=by
 rcases hB.b with ⟨rfl,rfl⟩|⟨D,rfl,hb⟩
 ·omega
 ·exact T6 E F hb hB.nk hB.le ω hn ho k (λ_=>by omega) λq r h' hr h1 h2 h3=>hk r h' hr h1 h2 h3
def be8 (F:fu ae) {g:Gr} (G:ce g) {c:Nat} (hc:c<8) {L:List Nat} (H:BK g c L) {B:AV} {kk a m N o:Nat} (hB:oV B kk) (ha:a<=kk) (hm:m<g.nT.length) (hf:vL L m<1000) {ov:AV} (hN:N<=1000000)
 (hov:(N=0/\ ov= .sn)∨∃oo,ov= .sl oo 0 N none 4) {h:AH} (ho:cG (h.oB.get o)=some (gW g c B kk L a ov)) (lo:o<h.next) (k:AV ->AH ->Prop)
 (h1:kk<=a∨40<N ->∀i h',tX g c L m i ->h.next<=h'.next ->(∀j,j<h.next ->h'.oB.get j=h.oB.get j) ->k (ι (i:Int)) h')
 (h2:a<kk ->N<=40 ->∀i h',E6 g c L m i ->h.next<=h'.next ->cG (h'.oB.get o)=some (gW g c B kk L (a+1) ov) ->(∀j,j<h.next ->j≠o ->h'.oB.get j=h.oB.get j) ->k (ι (i:Int)) h'):
 du C 172 [.p o 0,ι (m:Int)] h k:=by
 have ntl:=G.ntl;have pl:=G.pl;have ovn:nice 64 ov=true:=by rcases hov with ⟨-,rfl⟩|⟨oo,rfl⟩<;>rfl
 have ovl:∀h,kg h ov= .v (ι (N:Int)) h:=λh=>by rcases hov with ⟨e,rfl⟩|⟨oo,rfl⟩<;>first|(rw[e];rfl)|rfl
 have bn:=hB.nk;have bl:=hB.len;have nkL:nice 64 (eR cI 1 true L)=true:=dg tS;have bq:=iW (g:=g);have nk4:nice 64 (eR aM 13 true g.pR)=true:=dg iV;have nk3:∀k,nice 64 (.dp (g.pR.flatMap aM) k)=true:=λk=>by rw[fK,fE iV]
 have nk5:∀k,nice 64 (.dp (L.flatMap cI) k)=true:=λk=>by rw[fK,fE tS]
 have elm:sub (L.flatMap cI) m 1=some [ι (vL L m:Int)]:=by
  have hml:m<L.length:=by rw[H.len];exact hm
  have hli:L[m]? =some L[m]:=cE hml;have:=cW qw hli (j:=0) (n:=1) ω;unfold vL;rw[kX,hli];simpa[cI] using this
 have eQ:=H.len;obtain⟨n0,v0,ob0⟩:=h;dsimp only at ho lo;have bT:=ho;simp only[gW,m6,ar,gw,gx] at ho;simp only[ar] at bq;refine E.bS F.f172 (Y3 @Sg.eq_1 ho bn ?_);refine fj E.ok g.pR.length (λi τ h=>n0<=h.next/\ (∀j,j<n0 ->h.oB.get j=ob0.get j)/\ τ.get 0=some (.p o 0)/\ τ.get 1=some (ι (m:Int))/\ τ.get 7=some (ι (i:Int))/\
  ∃(v:AV) (A:List Nat) (b:Int),τ.get 5=some v/\ Ud n0 h v A/\ (∀x∈A,E6 g c L m x)/\ A.length<=i/\ τ.get 6=some (ι b)/\ ((b= -1/\∀j,j<i ->¬tX g c L m j)∨(A≠[]/\∃x:Nat,b=(x:Int)/\ tX g c L m x))) ?_ ?_ _ _ ⟨?_,?_,?_,?_,?_,?_⟩
 ·rintro i τ ⟨n1,v1,ob⟩ hi ⟨hn,old,t0,t1,t7,v,A,b,t5,hA,hA1,hA2,t6,hb⟩ ih;dsimp only at hn old;have c0:cG (ob.get o)=some (gW g c B kk L a ov):=by rw[old o lo];exact bT
  have hp:g.pR[i]? =some g.pR[i]:=cE hi;generalize hpe:g.pR[i]=p at hp;have hgt:=λh=>dR S (T4 S F G hc hp H.len H.le) (n:=9) (by
   rw[aL,aL,aL,aL,bZ,kq (n:=6),dH,dH,dA (n:=8) yZ]) h
  simp only[aI,ar] at hgt;have e1:sub (g.pR.flatMap aM) (i*13+1) 1=some [ι (p.left:Int)]:=by
   have:=cW kr hp (j:=1) (n:=1) ω;simpa[aM] using this
  simp only[gW,m6,ar,gw,gx] at c0;refine qk c0 t0 t1 t5 t6 t7 bl bn nkL bq nk4 ovn @dw @bG ?_;refine E.cN (hgt _) ?_;generalize hw:fW g c L p=w at*;have w1:w<=1000:=by rw[←hw];exact Kz
  by_cases hl:p.left=m
  ·have hl':((p.left:Int)=(m:Int))=True:=cJ;rcases iO w 1000 with q|q
   ·have q':(1000<=(w:Int))=False:=av;have can:E6 g c L m i:=⟨p,hp,hl,by omega⟩;have A1:A.length+1<=1048576:=by omega
    have nin:∀b:Int,¬(w=vL L m) ->((b= -1/\∀j,j<i ->¬tX g c L m j)∨(A≠[]/\∃x:Nat,b=(x:Int)/\ tX g c L m x)) ->((b= -1/\∀j,j<i+1 ->¬tX g c L m j)∨(A++[i]≠[]/\∃x:Nat,b=(x:Int)/\ tX g c L m x)):=λb hn hb=>by
     rcases hb with ⟨hb1,hb2⟩|⟨-,hb⟩
     ·refine .inl ⟨hb1,λj hj=> ?_⟩;rcases iO j i with q|q
      ·exact hb2 j q
      ·obtain rfl:j=i:=by omega
       rintro⟨x,hx,-,h3⟩;rw[hp] at hx;obtain rfl:=gC hx;exact hn ω
     ·exact .inr ⟨by simp,hb⟩
    have can':∀x∈A++[i],E6 g c L m x:=λx hx=>by
     rcases fO.1 hx with hx|hx
     ·exact hA1 x hx
     ·rw[fk.1 hx];exact can
    have al:(A++[i]).length<=i+1:=by rw[dy,lF];omega
    have be:w=vL L m ->(A++[i]≠[]/\∃x:Nat,(i:Int)=(x:Int)/\ tX g c L m x):=λe=>⟨by simp,i,rfl,p,hp,hl,by omega⟩;have on:(o=n1)=False:=av;have on2:(o=n1+1)=False:=av;rcases hA with ⟨rfl,rfl⟩|⟨hAn,oo,ho1,ho2,rfl,co⟩
    ·have hb':b= -1:=by rcases hb with hb|hb;exact hb.1;exact bh rfl hb.1
     subst hb';by_cases hb2:w=vL L m
     ·have he:(((w:Nat):Int)=((vL L m:Nat):Int))=True:=cJ;refine kJ c0 t0 t1 t5 t6 t7 nkL bq @bG e1 @bK hl' q' @iP elm on on2 he ?_;refine ih _ _ ⟨by show n0<=n1+1+1;omega,?_,?_,?_,?_,.sl (n1+1) 0 1 none 1,[]++[i],i,?_,?_,can',al,?_,.inr (be hb2)⟩
      ·intro j hj;have z1:(j=n1)=False:=av;have z2:(j=n1+1)=False:=av;exact wW (ap z1 z2) (old j hj)
      ·exact U1 t0
      ·exact U1 t1
      ·exact U0
      ·exact U0
      ·exact .inr ⟨by simp,n1+1,by omega,by show n1+1<n1+1+1;omega,rfl,U0⟩
      ·exact U0
     ·have he:(((w:Nat):Int)=((vL L m:Nat):Int))=False:=av;refine kJ c0 t0 t1 t5 t6 t7 nkL bq @bG e1 @bK hl' q' @iP elm on on2 he ?_;refine ih _ _ ⟨by show n0<=n1+1+1;omega,?_,?_,?_,?_,.sl (n1+1) 0 1 none 1,[]++[i],-1,?_,?_,can',al,?_,nin _ hb2 hb⟩
      ·intro j hj;have z1:(j=n1)=False:=av;have z2:(j=n1+1)=False:=av;exact wW (ap z1 z2) (old j hj)
      ·exact U1 t0
      ·exact U1 t1
      ·exact U0
      ·exact U0
      ·exact .inr ⟨by simp,n1+1,by omega,by show n1+1<n1+1+1;omega,rfl,U0⟩
      ·exact U1 t6
    ·have ll:=be6 A;have l8:(A.length+1<=1048576)=True:=fq A1;have oo1:(oo=n1)=False:=dQ (by have:oo<n1:=ho2;omega);have oo2:(o=oo)=False:=av;have fr:∀j,j<n0 ->(((((ob.put n1 (.cells v1 [ι (i:Int)])).put oo .gone).put (n1+1) (.cells (v1+1) (A.flatMap cI++[ι (i:Int)])))).get j=ob0.get j):=λj hj=>by
      have z1:(j=n1)=False:=av;have z2:(j=n1+1)=False:=av;have z3:(j=oo)=False:=av;exact wW (ap z1 (ap z2 z3)) (old j hj)
     dsimp only at co;have ia:Ud n0 ⟨n1+1+1,v1+1,(((ob.put n1 (.cells v1 [ι (i:Int)])).put oo .gone).put (n1+1) (.cells (v1+1) (A.flatMap cI++[ι (i:Int)])))⟩ (.sl (n1+1) 0 (A.length+1) none 1) (A++[i]):= .inr ⟨by simp,n1+1,by omega,by show n1+1<n1+1+1;omega,by rw[dy];rfl,by rw[jl];exact U0⟩;by_cases hb2:w=vL L m
     ·have he:(((w:Nat):Int)=((vL L m:Nat):Int))=True:=cJ;rcases hb with ⟨rfl,-⟩|⟨-,x,rfl,hx⟩
      ·refine Rl c0 t0 t1 t5 t6 t7 nkL bq @bG e1 @bK hl' q' @iP elm on on2 he co ll l8 oo1 oo2 ?_;refine ih _ _ ⟨by show n0<=n1+1+1;omega,fr,?_,?_,?_,_,A++[i],i,?_,ia,can',al,?_,.inr (be hb2)⟩
       ·exact U1 t0
       ·exact U1 t1
       all_goals exact U0
      ·have hxn:((x:Int)<0)=False:=av;refine Rm c0 t0 t1 t5 t6 t7 nkL bq @bG e1 @bK hl' q' @iP elm on on2 he co ll l8 oo1 oo2 hxn ?_;refine ih _ _ ⟨by show n0<=n1+1+1;omega,fr,?_,?_,?_,_,A++[i],x,?_,ia,can',al,?_,.inr ⟨by simp,x,rfl,hx⟩⟩
       ·exact U1 t0
       ·exact U1 t1
       ·exact U0
       ·exact U0
       ·exact U1 t6
     ·have he:(((w:Nat):Int)=((vL L m:Nat):Int))=False:=av;refine Rl c0 t0 t1 t5 t6 t7 nkL bq @bG e1 @bK hl' q' @iP elm on on2 he co ll l8 oo1 oo2 ?_;refine ih _ _ ⟨by show n0<=n1+1+1;omega,fr,?_,?_,?_,_,A++[i],b,?_,ia,can',al,?_,nin _ hb2 hb⟩
      ·exact U1 t0
      ·exact U1 t1
      ·exact U0
      ·exact U0
      ·exact U1 t6
   ·have q':(1000<=(w:Int))=True:=cJ;refine pm c0 t0 t1 t5 t6 t7 nkL bq @bG e1 @bK hl' q' ?_;refine ih _ _ ⟨hn,old,U1 t0,U1 t1,U0,v,A,b,U1 t5,hA,hA1,by omega,U1 t6,?_⟩;rcases hb with ⟨hb1,hb2⟩|hb
    ·refine .inl ⟨hb1,λj hj=> ?_⟩;rcases iO j i with q3|q3
     ·exact hb2 j q3
     ·obtain rfl:j=i:=by omega
      rintro⟨x,hx,-,h3⟩;rw[hp] at hx;obtain rfl:=gC hx;omega
    ·exact .inr hb
  ·have hl':((p.left:Int)=(m:Int))=False:=av;refine iU c0 t0 t1 t5 t6 t7 nkL bq @bG e1 @bK hl' ?_;refine ih _ _ ⟨hn,old,U1 t0,U1 t1,U0,v,A,b,U1 t5,hA,hA1,by omega,U1 t6,?_⟩;rcases hb with ⟨hb1,hb2⟩|hb
   ·refine .inl ⟨hb1,λj hj=> ?_⟩;rcases iO j i with q|q
    ·exact hb2 j q
    ·obtain rfl:j=i:=by omega
     rintro⟨x,hx,h3,-⟩;rw[hp] at hx;obtain rfl:=gC hx;exact hl h3
   ·exact .inr hb
 ·rintro τ ⟨n1,v1,ob⟩ ⟨hn,old,t0,t1,t7,v,A,b,t5,hA,hA1,hA2,t6,hb⟩;dsimp only at hn old;have c0:cG (ob.get o)=some (gW g c B kk L a ov):=by rw[old o lo];exact bT
  have de:=c0;simp only[gW,m6,ar,gw,gx] at c0;obtain⟨q,hq,hq1,hq2⟩:=H.ex m hm hf;obtain⟨j,hj,hje⟩:=sX.1 hq;have bj:tX g c L m j:=⟨q,by rw[←hje];exact cE hj,hq1,hq2⟩;rcases hb with ⟨-,hb⟩|⟨hAn,x,rfl,hx⟩
  ·exact bh bj (hb j hj)
  rcases hA with ⟨h,-⟩|⟨-,oo,ho1,ho2,rfl,co⟩
  ·exact bh h hAn
  rcases iO a kk with q1|q1
  ·have d1:((kk:Int)<=(a:Int))=False:=av;rcases iO 40 N with q2|q2
   ·have d2:((40:Int)<(N:Int))=True:=cJ;refine iU c0 t0 t1 t5 t6 t7 bl bn ovl @dw d1 d2 ?_;exact h1 (.inr q2) x _ hx hn old
   ·have d2:((40:Int)<(N:Int))=False:=av;have lp:=xG.2 hAn;refine iU c0 t0 t1 t5 t6 t7 bl bn ovl @dw d1 d2 ?_;refine E.run (be7 (c:=c) (g:=g) (a:=a) (kk:=kk) E F hB q1 ω de _ λr h' hr hn' c0'' gu=> ?_);obtain⟨n2,v2,aJ⟩:=h';dsimp only at hn' c0'' gu co;have co2:cG (aJ.get oo)=some (A.flatMap cI):=by rw[gu oo ω];exact co
    have hAr:A[r]? =some A[r]:=cE hr;have er:sub (A.flatMap cI) r 1=some [ι ((A[r]:Nat):Int)]:=by
     have:=cW qw hAr (j:=0) (n:=1) ω;simpa[cI] using this
    have cy:(r<A.length)=True:=fq hr;refine Y9 c0 t0 t1 t5 t6 t7 co2 er cy ?_;exact h2 q1 q2 _ _ (hA1 _ (List.getElem_mem hr)) (by show n0<=n2;omega) c0'' λj hj hjo=>(gu j hjo).trans (old j hj)
  ·have d1:((kk:Int)<=(a:Int))=True:=cJ;refine nS c0 t0 t1 t5 t6 t7 bl bn @dw d1 ?_;exact h1 (.inl q1) x _ hx hn old
 ·exact bB _
 ·exact λ_ _=>rfl
 ·exact U0
 ·exact U0
 ·exact U0
 ·exact⟨.sn,[],-1,U0,.inl ⟨rfl,rfl⟩,λx hx=>(by cases hx),bB _,U0,.inl ⟨rfl,λj hj=>by omega⟩⟩
def sS:Nat ->List Nat
 |0=>[120]
 |1=>[121]
 |2=>[97,98]
 |3=>[105,102]
 |4=>[122]
 |_=>[101,108,115,101]
def tY:Nat ->List Nat
 |0=>[37]
 |1=>[37,97]
 |_=>[37,98,32,99]
structure tZ (P:Program) (X:aR) (GL:T (List AV)) (ae:T au):Prop where
 id:∀k,k<6 ->∃b,bg P X GL ae 282 [eR iF 5 true (jg 0),.s (sS k)] (.b b)
 rm:∀k,k<3 ->∃b,bg P X GL ae 282 [eR iF 5 true (jg 10),.s (tY k)] (.b b)
def E7 (b:Nat) (h:AH) (v:AV) (R:List (List Nat)):Prop:=(R=[]/\ v= .sn)∨(R≠[]/\∃q,b<=q/\ q<h.next/\ v= .sl q 0 R.length none 1/\ cG (h.oB.get q)=some (R.map AV.s))
def be9 {h:AH} {x:Tr×Nat}:deep 9 h (.ag (dq x))=some (.ag (dq x)):=nX (n:=8) (jD (n:=7) x)
def Ue (F:fu ae) {t:Tr} {i:Nat} (hi:i=0∨i=10) {s:List Nat} {b:Bool} (hp:bg P X GL ae 282 [eR iF 5 true (jg i),.s s] (.b b)) (h:AH):bP P X GL 171 [.ag (dq (t,i)),.s s] h (.b b) h:=by
 refine dR S (n:=9) ?_ (by rw[aL,aL,bZ,be9,oK]) h;refine bg.intro λC E=> ?_;have pc:=λh=>dR S hp (n:=9) (by rw[aL,aL,bZ,dA (n:=8) Eu,oK]) h;have hl:jQ i=[]:=by rcases hi with rfl|rfl<;>rfl
 refine E.bS F.f171 (Y4 @JJ.eq_1 @dq.eq_1 @h0.eq_1 hl ?_);refine E.cN (pc _) (Y1 @JJ.eq_1 ?_);exact⟨1,rfl⟩
def bf0 (F:fu ae) {g:Gr} (G:ce g) {c:Nat} (hc:c<8) {s:List Nat} (hs:s≠[]) {b:Bool} (hp:bg P X GL ae 282 [eR iF 5 true (jg 10),.s s] (.b b)):∃b',∀h,bP P X GL 173 [aI g,.i .u64 (c:Int),.s s] h (.b b') h:=by
 obtain⟨tc,htc,hz⟩:=re (g:=g) G.tcl (i:=10) ω;have ft:=(G.tc tc (dI htc)).f;refine⟨mf tc c&&b,λh=> ?_⟩;refine dR S (n:=9) ?_ (by rw[aL,aL,aL,bZ,kq (n:=6),dH,oK]) h;refine bg.intro λC E=> ?_;have ic:=λh=>E3 (GL:=GL) S F ft hc h;have wc:=λh=>Ue (t:=tc) S F (.inr rfl) hp h;simp only[eT,eD] at ic;simp only[dq] at wc;have nk5:nice 64 (eR dq 7 true g.tc.zipIdx)=true:=dg oM;have nk6:∀k,nice 64 (.dp (g.tc.zipIdx.flatMap dq) k)=true:=λk=>by rw[fK,fE oM]
 have hzl:g.tc.zipIdx.length=11:=by rw[ny,G.tcl]
 generalize hD:(mf tc c&&b)=w;refine E.bS F.f173 (Y3 @Sh.eq_1 @aI.eq_1 @h0.eq_1 ?_);refine fj E.ok 11 (λi τ h=>1<=h.next/\ cG (h.oB.get 0)=some (ar g)/\ τ.get 1=some (.i .u64 (c:Int))/\ τ.get 2=some (.s s)/\ τ.get 3=some (.p 0 0)/\ τ.get 7=some (ι (i:Int))/\ (i=11 ->w=false)) ?_ ?_ _ _ ⟨bB _,?_,?_,?_,?_,?_,λe=>by omega⟩
 ·rintro i τ ⟨n1,v1,ob⟩ hi ⟨hn,c0,t1,t2,t3,t7,hb⟩ ih;have hn':1<=n1:=hn;have z0:(0=n1)=False:=av;have de:=c0;dsimp only at c0;simp only[ar] at c0;obtain⟨tc',htc',hz'⟩:=re (g:=g) G.tcl hi;have e7:sub (g.tc.zipIdx.flatMap dq) (i*7) 7=some (dq (tc',i)):=cW qx hz' (j:=0) (n:=7) ω;simp only[dq] at e7;have hii:((i:Int)<11)=True:=cJ;rcases iO i 10 with q|q
  ·have tq:(((l7 i:Nat):Int)=2)=False:=dQ (by unfold l7;split<;>omega);refine qk c0 t1 t2 t3 t7 @bG hzl e7 nk5 nk6 hii tq @dw @bK ?_;refine ih _ _ ⟨?_,?_,?_,?_,?_,?_,λe=>by omega⟩
   ·show 1<=n1+1;omega
   ·exact wW z0 de
   ·exact U1 t1
   ·exact U1 t2
   ·exact U1 t3
   ·exact U0
  ·obtain rfl:i=10:=by omega
   obtain rfl:tc'=tc:=gC (htc'.symm.trans htc);have tq:(((l7 10:Nat):Int)=2)=True:=fq rfl;have se:(s=[])=False:=dQ hs;refine qk c0 t1 t2 t3 t7 @bG hzl e7 nk5 nk6 hii tq @dw @bK ?_;refine E.cN (ic _) ?_;cases hb1:mf tc' c with
   |false=>
    refine Y7 c0 t1 t2 t3 t7 se @bK ?_;refine ih _ _ ⟨?_,?_,?_,?_,?_,?_,λe=>by rw[←hD,hb1];rfl⟩
    ·show 1<=n1+1;omega
    ·exact wW z0 de
    ·exact U1 t1
    ·exact U1 t2
    ·exact U1 t3
    ·exact U0
   |true=>
    refine Y7 c0 t1 t2 t3 t7 se @bK ?_;refine E.cN (wc _) ?_;cases hb2:b with
    |false=>
     refine Y6 c0 t1 t2 t3 t7 @bK ?_;refine ih _ _ ⟨?_,?_,?_,?_,?_,?_,λe=>by rw[←hD,hb1,hb2];rfl⟩
     ·show 1<=n1+1;omega
     ·exact wW z0 de
     ·exact U1 t1
     ·exact U1 t2
     ·exact U1 t3
     ·exact U0
    |true=>
     refine Y6 c0 t1 t2 t3 t7 @bK ?_;exact⟨1,by rw[←hD,hb1,hb2];rfl⟩
 ·rintro τ ⟨n1,v1,ob⟩ ⟨hn,c0,t1,t2,t3,t7,hb⟩;dsimp only at c0;simp only[ar] at c0;refine Y7 c0 t1 t2 t3 t7 hzl @dw ?_;exact⟨1,by rw[hb rfl];rfl⟩
 all_goals exact U0
def bf1 {r:Nat} (h:r<3):sub [AV.s [37],AV.s [37,97],AV.s [37,98,32,99]] r 1=some [AV.s (tY r)]:=by
 rcases(show r=0∨r=1∨r=2 by omega) with rfl|rfl|rfl<;>rfl
def bf2 (r:Nat):tY r≠[]:=by
 unfold tY;split<;>simp
def Uf (F:fu ae) (M:tZ P X GL ae) {g:Gr} (G:ce g) {c:Nat} (hc:c<8) {L:List Nat} {B:AV} {kk a o:Nat} (hB:oV B kk) (ha:a<=kk) {ov:AV} {h:AH} (ho:cG (h.oB.get o)=some (gW g c B kk L a ov)) (lo:o<h.next) (k:AV ->AH ->Prop)
 (hk:∀rv R a' h',a<=a' ->a'<=kk ->h.next<=h'.next ->cG (h'.oB.get o)=some (gW g c B kk L a' ov) ->(∀j,j<h.next ->j≠o ->h'.oB.get j=h.oB.get j) ->E7 h.next h' rv R ->k rv h'):du C 87 [.p o 0] h k:=by
 obtain⟨n0,v0,ob0⟩:=h;dsimp only at ho lo;have bq:=iW (g:=g);simp only[ar] at bq;refine E.bS F.f87 (Y1 @JI.eq_1 ?_);refine E.run (KA (n:=12) E F hB ha ω ho _ λr a1 h1 hr ha1 ha2 dS ho1 dD=> ?_);obtain⟨n1,v1,aQ⟩:=h1;obtain rfl:n1=n0:=dS;dsimp only at ho1 dD;refine Y1 @JI.eq_1 ?_;refine fj E.ok (r-9) (λi τ h=>n1<=h.next/\ (∀j,j<n1 ->j≠o ->h.oB.get j=ob0.get j)/\ τ.get 0=some (.p o 0)/\ τ.get 4=some (ι ((r-i:Nat):Int))/\ (∃a',a<=a'/\ a'<=kk/\ cG (h.oB.get o)=some (gW g c B kk L a' ov))/\∃(rv:AV) (R:List (List Nat)),τ.get 3=some rv/\ E7 n1 h rv R/\ R.length<=i) ?_ ?_ _ _ ⟨bB _,λj _ hj=>dD j hj,?_,?_,⟨a1,ha1,ha2,ho1⟩,.sn,[],?_,.inl ⟨rfl,rfl⟩,bB _⟩
 ·rintro i τ ⟨n2,v2,aJ⟩ hi ⟨hn2,eG,t0,t4,⟨a2,hb1,hb2,ho2⟩,rv,R,t3,hR,hRl⟩ ih;dsimp only at hn2 eG ho2;have q9:((9:Int)<((r-i:Nat):Int))=True:=cJ;have on:(o=n2)=False:=av;refine Y4 t0 t3 t4 q9 ?_;refine E.run (KA (n:=3) (a:=a2) (g:=g) (L:=L) (ov:=ov) (c:=c) E F hB hb2 ω (wW on ho2) _ λr2 a3 h3 hr2 ha3 ha4 hn3 ho3 old3=> ?_);obtain⟨n3,v3,cC⟩:=h3;obtain rfl:n3=n2+1:=hn3;dsimp only at ho3 old3;have cn:cG (cC.get n2)=some [.s [37],.s [37,97],.s [37,98,32,99]]:=by rw[old3 n2 ω];exact U0
  have es:=bf1 hr2;obtain⟨bm,hbm⟩:=M.rm r2 hr2;obtain⟨b,hb⟩:=bf0 S F G hc (bf2 r2) hbm;simp only[aI,ar] at hb;have ho3':=ho3;simp only[gW,m6,ar,gw,gx] at ho3;refine Y7 t0 t3 t4 cn es ho3 bq ?_;refine E.cN (hb _) ?_;have sm:aY .sub (ι ((r-i:Nat):Int)) (ι 1)=some (ι ((r-(i+1):Nat):Int)):=by
   rw[show r-(i+1)=r-i-1 by omega];exact qV (a:=r-i) (b:=1) ω
  have fr:∀j,j<n2 ->j≠o ->cC.get j=aJ.get j:=λj hj hjo=>by
   have e:=old3 j hjo;rw[e];have z:(j=n2)=False:=av;exact U1 z
  cases b with
  |false=>
   refine Y6 t0 t3 t4 ho3 bq sm ?_;refine ih _ _ ⟨by show n1<=n2+1;omega,λj hj hjo=>(fr j ω hjo).trans (eG j hj hjo),?_,?_,⟨a3,by omega,ha4,ho3'⟩,rv,R,?_,?_,by omega⟩
   ·exact U1 t0
   ·exact U0
   ·exact U1 t3
   ·rcases hR with h|⟨h1,q,h2,h3,h4,h5⟩
    ·exact .inl h
    ·exact .inr ⟨h1,q,h2,ui h3,h4,by rw[fr q h3 ω];exact h5⟩
  |true=>
   have z1:(o=n2+1)=False:=av;have z2:(o=n2+1+1)=False:=av;rcases hR with ⟨rfl,rfl⟩|⟨h1,q,h2,h3,rfl,h5⟩
   ·refine Y7 t0 t3 t4 ho3 bq sm @iP ?_;refine ih _ _ ⟨by show n1<=n2+1+1+1;omega,λj hj hjo=> ?_,?_,?_,⟨a3,by omega,ha4,?_⟩,.sl (n2+1+1) 0 1 none 1,[tY r2],?_,.inr ⟨by simp,n2+1+1,by omega,by show n2+1+1<n2+1+1+1;omega,rfl,?_⟩,by simp⟩
    ·have z1:(j=n2+1)=False:=av;have z2:(j=n2+1+1)=False:=av;exact wW (ap z1 z2) ((fr j ω hjo).trans (eG j hj hjo))
    ·exact U1 t0
    ·exact U0
    ·exact wW (ap z1 z2) ho3'
    ·exact U0
    ·exact U0
   ·have h3':q<n2:=h3;have c5:cG (cC.get q)=some (R.map AV.s):=by rw[fr q h3' ω];exact h5
    have z3:(o=q)=False:=av;have z4:(q=n2+1)=False:=av;have ll:(R.map AV.s).length=R.length*1:=by rw[kU,vH]
    have l8:(R.length+1<=1048576)=True:=cJ;refine jC t0 t3 t4 ho3 bq sm @iP c5 z4 ll l8 ?_;refine ih _ _ ⟨by show n1<=n2+1+1+1;omega,λj hj hjo=> ?_,?_,?_,⟨a3,by omega,ha4,?_⟩,.sl (n2+1+1) 0 (R.length+1) none 1,R++[tY r2],?_,.inr ⟨by simp,n2+1+1,by omega,by show n2+1+1<n2+1+1+1;omega,by rw[dy];rfl,?_⟩,by rw[dy,lF];omega⟩
    ·have z1:(j=n2+1)=False:=av;have z2:(j=n2+1+1)=False:=av;have z3:(j=q)=False:=av;exact wW (ap z1 (ap z2 z3)) ((fr j ω hjo).trans (eG j hj hjo))
    ·exact U1 t0
    ·exact U0
    ·exact wW (ap z1 (ap z2 z3)) ho3'
    ·exact U0
    ·rw[kE];exact U0
 ·rintro τ ⟨n2,v2,aJ⟩ ⟨hn2,eG,t0,t4,⟨a2,hb1,hb2,ho2⟩,rv,R,t3,hR,hRl⟩;have q9:((9:Int)<((r-(r-9):Nat):Int))=False:=av;refine Y4 t0 t3 t4 q9 ?_;exact hk rv R a2 _ hb1 hb2 hn2 ho2 eG hR
 all_goals exact U0
def E8:aw:=eg (sE 86 245)
def E9:aw:=eg (sE 86 31)
abbrev xj:au:=(λx y=>eg (bE (pg 86) λo=>pt 245 x (pt 31 y o))) E8 E9
def Ug:JH=xj:=by unfold JH xj E8 E9;rfl
structure Tn where
 prod:Int
 tok:Int
 text:List Nat
 rem:List (List Nat)
def jT (s:List Nat):List AV:=[.s s]
def fG (t:Tn):List AV:=[ι t.prod,ι t.tok,.s t.text,eR jT 1 true t.rem]
def KC:∀R:List (List Nat),R.flatMap jT=R.map AV.s
 |[]=>rfl
 |a::R=>by rw[lE,KC R];rfl
def KD:∀a b:List AV,cF (a++b)=(cF a&&cF b)
 |[],b=>rfl
 |x::a,b=>by rw[gw,lT,lT,KD a b,Bool.and_assoc]
def jU (o b:Nat) (h:AH) (ov:AV) (N:List Tn):Prop:=(N=[]/\ ov= .sn)∨∃oo cs tt,ov= .sl oo 0 N.length none 4/\ N≠[]/\ o<oo/\ oo<b/\ cG (h.oB.get oo)=some cs/\ cF cs=true/\ cs.length=N.length*4/\
 bJ 8 tt cs=some (N.flatMap fG)/\∀j v l,tt.oB.get j=some (.cells v l) ->j<b/\ o<j/\ j≠oo/\ h.oB.get j=some (.cells v l)
def jU.mono {o b b':Nat} {h h':AH} {ov:AV} {N:List Tn} (H:jU o b h ov N) (hb:b<=b') (old:∀j,j<b ->j≠o ->h'.oB.get j=h.oB.get j):jU o b' h' ov N:=by
 rcases H with H|⟨oo,cs,tt,e1,e2,e3,e4,e5,e6,e7,e8,e9⟩
 ·exact .inl H
 ·refine .inr ⟨oo,cs,tt,e1,e2,e3,by omega,by rw[old oo e4 ω];exact e5,e6,e7,e8,λj v l hj=> ?_⟩;obtain⟨a,b,c,d⟩:=e9 j v l hj;exact⟨by omega,b,c,by rw[old j a ω];exact d⟩
def Fa {tt:AH} {h:AH} {b:Nat} {rv:AV} {R:List (List Nat)} (hR:E7 b h rv R) {x y:Int} {s:List Nat} {cs:List AV} {N:List Tn} (hd:bJ 8 tt cs=some (N.flatMap fG)) (sub:∀j v l,tt.oB.get j=some (.cells v l) ->h.oB.get j=some (.cells v l)):
 ∃tt':AH,bJ 8 tt' (cs++[ι x,ι y,.s s,rv])=some ((N++[Tn.mk x y s R]).flatMap fG)/\∀j v l,tt'.oB.get j=some (.cells v l) ->tt.oB.get j=some (.cells v l)∨(∃n,rv= .sl j 0 n none 1/\ h.oB.get j=some (.cells v l)):=by
 have fin:∀tt':AH,bJ 8 tt' cs=some (N.flatMap fG) ->deep 8 tt' rv=some (eR jT 1 true R) ->bJ 8 tt' (cs++[ι x,ι y,.s s,rv])=some ((N++[Tn.mk x y s R]).flatMap fG):=λtt' h1 h2=>by
  rw[jl];refine Kp h1 ?_;rw[aL,aL,aL,aL,bZ,dH,dH,oK,h2];rfl
 rcases hR with ⟨rfl,rfl⟩|⟨e1,q,e2,e3,rfl,e4⟩
 ·exact⟨tt,fin tt hd rfl,λj v l hj=> .inl hj⟩
 ·obtain⟨v0,e5⟩:=EW e4;refine⟨⟨tt.next,tt.ver,tt.oB.put q (.cells v0 (R.map AV.s))⟩,fin _ ((BG (h1:=tt) (λj v l hj=> ?_) 8).2 _ _ hd) ?_,λj v l hj=> ?_⟩
  ·refine⟨v,?_⟩;show(tt.oB.put q _).get j=_;rw[T.get_put];split
   ·rename_i e;subst e;rw[←e5];exact sub _ _ _ hj
   ·exact hj
  ·rw[gA (n:=7) (l:=R.map AV.s) (l':=R.flatMap jT) (by show cG ((tt.oB.put q _).get q)=_;rw[T.get_put,aF rfl];rfl) (by rw[KC];exact Bs R),BL e1]
  ·have bF:(tt.oB.put q (.cells v0 (R.map AV.s))).get j=some (.cells v l):=hj;rw[T.get_put] at bF;split at bF
   ·rename_i e;subst e;exact .inr ⟨_,rfl,by rw[e5];exact bF⟩
   ·exact .inl bF
end
end AM
