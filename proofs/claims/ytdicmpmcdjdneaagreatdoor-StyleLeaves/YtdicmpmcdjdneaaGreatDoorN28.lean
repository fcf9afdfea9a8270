import Derived.Test.YtdicmpmcdjdneaaGreatDoorN26
set_option linter.all false
set_option maxHeartbeats 8000000
namespace AM
open Dg Go
noncomputable section
def mf:Tr ->Nat ->Bool
 | .c b,_=>b
 | .n l h,c=>bif Nat.beq (c%2) 1 then mf h (c/2) else mf l (c/2)
def PQ (GL:T (List AV)) (t:Tr) (c:Nat):Bool:=gM GL aG (λ_ _=>none) 1000 177 [eT t,.i .u64 (c:Nat)] (.b (mf t c))
def mg (GL:T (List AV)) (t:Tr):Bool:=(List.range 8).all λc=>PQ GL t c
def ci0 GL:qp (mg GL) 0=true:=lR
def ci1 GL:qp (mg GL) 1=true:=lR
def ci2 GL:qp (mg GL) 2=true:=lR
def ci3 GL:qp (mg GL) 3=true:=lR
variable {P:Program} {X:aR} {GL:T (List AV)} {ae:T au}
variable {c:Nat}
variable (F:bz8 ae)
def bd4 {t} (A:cA 3 t=true) (j:c<8):bg P X GL ae 177 [eT t,.i .u64 (c)] (.b (mf t c)):=
 hY F iE (fX.1 (RB (ci0 GL) (ci1 GL) (ci2 GL) (ci3 GL) A) c (mA.2 j))
variable (S:aT P X GL ae)
def E3 (F:bz8 ae) {t} (A:cA 3 t=true) (j:c<8) h:bP P X GL 177 [eT t,.i .u64 (c)] h (.b (mf t c)) h:=
 dR S (bd4 F A j) (n:=9) (by simp only[aL,jB,bZ,dH]) h
def ad8 {i:Nat} (h:i<8):aY .add (.i .u64 (i)) (.i .u64 1)=some (.i .u64 ((i+1:Nat):Int)):=by
 rcases(show i=0∨i=1∨i=2∨i=3∨i=4∨i=5∨i=6∨i=7 by omega) with rfl|rfl|rfl|rfl|rfl|rfl|rfl|rfl<;>rfl
def bd5:(iy 3).all (λt=>(List.range 4).all λn=> !jq n t||(Nat.beq (aE t).2 0||(List.range 8).any λc=>Nat.beq (c/2^n) 0&&mf t c))=true:=lR
def sh8 {k:Nat} (j:c<8) (A:k<=3):aY .shr (.i .u64 (c)) (.i .u64 (k))=some (.i .u64 ((c/2^k:Nat):Int)):=by
 rcases(show c=0∨c=1∨c=2∨c=3∨c=4∨c=5∨c=6∨c=7 by omega) with rfl|rfl|rfl|rfl|rfl|rfl|rfl|rfl<;>
  rcases(show k=0∨k=1∨k=2∨k=3 by omega) with rfl|rfl|rfl|rfl<;>rfl
def kS (g:Gr) (c:Nat):Bool:=Nat.beq (c/2^g.nc) 0&&mf g.fam c
def bd6 (F:bz8 ae) {g} (G:oy g) (A:c<8) h:bP P X GL 93 [aI g,.i .u64 (c)] h (.b (kS g c)) h:=by
 refine ku S (λn h=>by simp only[aL,bZ,dH]) ?_ h;refine bg.intro λC E=> ?_;have nc:=G.nc;have sh:=sh8 A nc;have H:=λh=>E3 S F G.fam.f A h;have J:(fz g.nc).length=g.nc:=by unfold fz;rw[jm];simp;omega
 simp only[eT,eD] at H;have I:dN .u64 ((fz g.nc).length:Int)=((g.nc:Nat):Int):=by
  rw[J];rcases(show g.nc=0∨g.nc=1∨g.nc=2∨g.nc=3 by omega) with e|e|e|e<;>rw[e]<;>rfl
 rw[E.cB (F.f 93)];by_cases D:c/2^g.nc=0;have j:(((c/2^g.nc:Nat):Int)=0)=True:=cJ;refine Y5 @aI.eq_1 @bx.eq_1 I sh j ?_;refine E.cN (H _) (Y0 ?_);exact⟨1,by simp only[kS,D];rfl⟩;have j:(((c/2^g.nc:Nat):Int)=0)=False:=cE;refine Y5 @aI.eq_1 @bx.eq_1 I sh j ?_;have hb:Nat.beq (c/2^g.nc) 0=false:=by
  cases e:Nat.beq (c/2^g.nc) 0;rfl;exact bh (qG e) D
 exact⟨1,by simp only[kS,hb];rfl⟩
def bd7 {g} (G:oy g):∃c,c<8/\ kS g c=true:=by
 have h:=fX.1 (fX.1 bd5 g.fam (Ie G.fam.f)) g.nc (mA.2 (by have:=G.nc;omega));simp only[G.fam.d,jk,zC,ja,qK,mA] at h;rcases h with h|⟨c,j,h⟩;exact bh (qG h) G.famr;exact⟨c,j,h⟩
def mh (g:Gr):List Nat:=(List.range 8).filter (kS g)
def TZ {g} (G:oy g):mh g≠[]:=by
 obtain⟨c,j,h⟩:=bd7 G;exact List.ne_nil_of_mem (List.mem_filter.2 ⟨mA.2 j,h⟩)
def Ef (g:Gr) (k:Nat):Nat:=(mh g).getD (k%(mh g).length) 0
def bS7 {g} (G:oy g) k:Ef g k<8/\ kS g (Ef g k)=true:=by
 have A:=xG.2 (TZ G);have hi:k%(mh g).length<(mh g).length:=jv _ A;have e:Ef g k=(mh g)[k%(mh g).length]:=by
  unfold Ef;rw[kX,ef hi];rfl
 have j:Ef g k∈mh g:=by rw[e];exact List.getElem_mem hi
 obtain⟨h1,h2⟩:=List.mem_filter.1 j;exact⟨mA.1 h1,h2⟩
def cU (n:Nat):List AV:=[.i .u64 (n:Int)]
def bS8:∀L:List Nat,(L.flatMap cU).length=L.length*1
 |[]=>rfl
 |a::l=>by rw[lE,dy,bS8 l,gJ];show 1+_=_;omega
def UAt (h:AH) (v:AV) (L:List Nat):Prop:=(L=[]/\ v= .sn)∨(L≠[]/\∃o,o<h.next/\ 1<=o/\ v= .sl o 0 L.length none 1/\ cG (h.oB.get o)=some (L.flatMap cU))
def bd8 (F:bz8 ae) {g} (G:oy g) {k:Nat} (hk:k<256):bg P X GL ae 50 [aI g,.i .u8 (k)] (.i .u64 (Ef g k)):=by
 refine bg.intro λC E=> ?_;rw[E.cB (F.f 50)];have Y:=iW (g:=g);refine Y1 @aI.eq_1 ?_;refine fj E.ok 8 (λi τ h=>cG (h.oB.get 0)=some (bx g)/\ 1<=h.next/\ τ.get 1=some (.i .u8 (k:Int))/\ τ.get 2=some (.p 0 0)/\ τ.get 6=some (.i .u64 (i:Int))/\∃v,τ.get 5=some v/\ UAt h v ((List.range i).filter (kS g))) ?_ ?_ _ _ ⟨?_,?_,?_,?_,?_,?_⟩;rintro i τ ⟨n1,ver,ob⟩ hi ⟨c0,I,t1,t2,t6,v,t5,A⟩ N;have O:=λh=>bd6 (GL:=GL) (c:=i) S F G hi h;have H:=c0;dsimp only at c0;simp only[bx] at c0 Y;simp only[aI,bx] at O;have ad:=ad8 hi;refine Y3 c0 t2 t6 ?_;refine E.cN (O _) ?_;cases hb:kS g i;have e:(List.range (i+1)).filter (kS g)=(List.range i).filter (kS g):=by rw[zD,List.filter_append];simp[hb]
 refine Y2 t6 ad ?_;refine N _ _ ⟨H,I,?_,?_,?_,v,?_,?_⟩;exact U1 t1;exact U1 t2;exact U0;exact U1 t5;rw[e];exact A;have e:(List.range (i+1)).filter (kS g)=(List.range i).filter (kS g)++[i]:=by rw[zD,List.filter_append];simp[hb]
 have lb:((List.range i).filter (kS g)).length<=8:=fJ (List.length_filter_le _ _) (by rw[List.length_range];omega);generalize (List.range i).filter (kS g)=L at*;have b0:1<=n1:=I;have V:(0=n1)=False:=cE;have W:(0=n1+1)=False:=cE;rcases A with ⟨rfl,rfl⟩|⟨A,o,U,J,rfl,D⟩;refine Y4 t5 t6 ad @iP ?_;refine N _ _ ⟨?_,?_,?_,?_,?_,.sl (n1+1) 0 1 none 1,?_,?_⟩;exact wW (ec V W) H;show 1<=n1+1+1;omega;exact U1 t1;(iterate 3 exact U1 t2);rw[e];exact .inr ⟨by simp,n1+1,by show n1+1<n1+1+1;omega,by omega,rfl,by exact U0⟩;dsimp only at D U;have ll:(L.flatMap cU).length=L.length*1:=bS8 L;have zo:(0=o)=False:=cE;refine Y6 t5 t6 ad D @iP ll ?_;refine N _ _ ⟨?_,?_,?_,?_,?_,.sl (n1+1) 0 (L.length+1) none 1,?_,?_⟩;exact wW (ec V (ec W zo)) H;show 1<=n1+1+1;omega;exact U1 t1;(iterate 3 exact U1 t2);rw[e];exact .inr ⟨by simp,n1+1,by show n1+1<n1+1+1;omega,by omega,by rw[dy];rfl,by rw[Bd];exact U0⟩;rintro τ ⟨n1,ver,ob⟩ ⟨c0,I,t1,t2,t6,v,t5,A⟩;have ne:=TZ G;change UAt _ v (mh g) at A;rcases A with ⟨h0,-⟩|⟨-,o,U,J,rfl,D⟩;exact bh h0 ne;have lp:=xG.2 ne;have R:k%(mh g).length<(mh g).length:=jv _ lp;dsimp only at D;have wk:dN .i64 (k:Int)=(k:Int):=by rw[vW];exact F9 .i64 k (by show k<=9223372036854775807;omega)
 have rm:aY .rem (ι (k:Int)) (ι ((mh g).length:Int))=some (ι ((k%(mh g).length:Nat):Int)):=iA lp;have Z:sub ((mh g).flatMap cU) (k%(mh g).length) 1=some [.i .u64 (Ef g k:Int)]:=by
  have e:(mh g)[k%(mh g).length]? =some (Ef g k):=by
   unfold Ef;rw[kX,ef R];rfl
  have:=cW (enc:=cU) (k:=1) (λ_=>rfl) e (j:=0) (n:=1) ω;simpa[cU] using this
 refine Y8 t1 t5 t6 D wk rm Z R ?_;exact⟨1,rfl⟩;rfl;exact bB _;all_goals first|exact U0|exact⟨_,U0,.inl ⟨rfl,rfl⟩⟩
def tW (g:Gr) (c:Nat) (s:Bool×Nat):Bool:= !s.1||mf (g.tc.getD s.2 (.c false)) c
def sQ (g:Gr) (c:Nat) (p:Pr):Bool:=p.right.all (tW g c)&&mf p.cond c
variable {p:Pr}
def bd9 (F:bz8 ae) {g} (G:oy g) (Z:c<8) {i:Nat} (R:g.pR[i]? =some p) h:bP P X GL 286 [aI g,.i .u64 (c),ι (i)] h (.b (sQ g c p)) h:=by
 refine dR S (n:=9) ?_ (by rw[aL,kq (n:=6)];simp only[aL,bZ,dH]) h;refine bg.intro λC E=> ?_;have hi:=(eC.1 R).1;have ok:=G.p p (dI R);have pl:=G.pl;have rl:=ok.len;have e0:sub (g.pR.flatMap aM) (i*13) 13=some (aM p):=by
  have:=cW kr R (j:=0) (n:=13) ω;simpa[aM] using this
 have W:=λh=>E3 (GL:=GL) S F ok.cond.f Z h;simp only[eT,eD] at W;simp only[aM] at e0;refine E.bS (F.f 286) (Y3 @aI.eq_1 @bx.eq_1 e0 ?_);refine fj E.ok p.right.length (λk τ h=>cG (h.oB.get 0)=some (bx g)/\ cG (h.oB.get 1)=some (aM p)/\ τ.get 1=some (.i .u64 (c:Int))/\ τ.get 3=some (.p 0 0)/\ τ.get 7=some (.p 1 0)/\ τ.get 8=some (ι (k:Int))/\ (p.right.take k).all (tW g c)=true) ?_ ?_ _ _ ⟨?_,?_,?_,?_,?_,?_,?_⟩;rintro k τ ⟨n1,N,aQ⟩ hk ⟨c0,c1,t1,t3,t7,t8,O⟩ ih;have A:p.right[k]? =some p.right[k]:=ef hk;generalize hs:p.right[k]=s at A;have ft:(p.right.take (k+1)).all (tW g c)=tW g c s:=by rw[nY A,List.all_append,O];simp
 have Y:=c0;have D:=c1;simp only[bx] at c0;simp only[aM] at c1;have tl:=G.tcl;have hz:g.tc.zipIdx.length=11:=by rw[ny,tl]
 have q2:sub (p.right.flatMap dO) (k*2+1) 1=some [ι (s.2:Int)]:=cW gO A (j:=1) (n:=1) ω;rcases ok.sym _ (dI A) with ⟨J,s2⟩|⟨J,s2⟩;have V:sub (p.right.flatMap dO) (k*2) 1=some [.b true]:=by
  have:=cW gO A (j:=0) (n:=1) ω;simpa[dO,J] using this
 obtain⟨tc,I,U⟩:=re (g:=g) tl (i:=s.2) ω;have fc:=(G.tc tc (dI I)).f;have e7:sub (g.tc.zipIdx.flatMap dq) (s.2*7+5) 2=some [tp (aE tc).1,ι ((aE tc).2:Int)]:=cW qx U (j:=5) (n:=2) ω;have H:=λh=>E3 (GL:=GL) S F fc Z h;simp only[eT,eD] at H;have st:tW g c s=mf tc c:=by unfold tW;rw[J,kX,I];rfl
 refine Y9 c0 c1 t1 t3 t7 t8 V q2 e7 ?_;refine E.cN (H _) ?_;cases hb:mf tc c with
 |true=>
  refine Y1 t8 ?_;refine ih _ _ ⟨Y,D,?_,?_,?_,?_,?_⟩;exact U1 t1;exact U1 t3;exact U1 t7;exact U0;rw[ft,st,hb]
 |false=>
  refine Y1 t8 ?_;have e:sQ g c p=false:=by
   have:p.right.all (tW g c)=false:=by
    rw[List.all_eq_false];exact⟨s,dI A,by rw[st,hb];simp⟩
   unfold sQ;rw[this];rfl
  exact⟨1,by rw[e];rfl⟩
 have V:sub (p.right.flatMap dO) (k*2) 1=some [.b false]:=by
  have:=cW gO A (j:=0) (n:=1) ω;simpa[dO,J] using this
 have st:tW g c s=true:=by unfold tW;rw[J];rfl
 refine Y4 c1 t7 t8 V ?_;refine ih _ _ ⟨Y,D,?_,?_,?_,?_,?_⟩;exact U1 t1;exact U1 t3;exact U1 t7;exact U0;rw[ft,st];rintro τ ⟨n1,N,aQ⟩ ⟨c0,c1,t1,t3,t7,t8,O⟩;rw[mR] at O;simp only[aM] at c1;refine Y4 c1 t1 t7 t8 ?_;refine E.cN (W _) (Y0 ?_);have e:sQ g c p=mf p.cond c:=by unfold sQ;rw[O];rfl
 exact⟨1,by rw[e];rfl⟩;exact U1 @bx.eq_1;exact U1 @aM.eq_1;(iterate 4 exact U0);rfl
def kx (L:List Nat) (n:Nat) (s:Bool×Nat):Nat:=bif s.1 then n else max n (L.getD s.2 0)
def fW (g:Gr) (c:Nat) (L:List Nat) (p:Pr):Nat:=bif sQ g c p then min (p.right.foldl (kx L) 0+1) 1000 else 1000
variable {L:List Nat}
def be0 (A:∀x∈L,x<=1000) {n} (j:n<=1000) s:kx L n s<=1000:=by
 unfold kx;cases s.1 with
 |true=>exact j
 |false=>
  refine Nat.max_le.2 ⟨j,?_⟩;rw[kX];rcases e:L[s.2]? with _|x;exact oi _;exact A x (dI e)
def bS9 {L} (j:∀x∈L,x<=1000):∀(r:List (Bool×Nat)) {n},n<=1000 ->r.foldl (kx L) n<=1000
 |[],_,h=>h
 |s::r,n,h=>bS9 j r (be0 j h s)
def T4 (F:bz8 ae) {g} (G:oy g) (Z:c<8) {i:Nat} (N:g.pR[i]? =some p) (hl:L.length=g.nT.length) (Y:∀x∈L,x<=1000):bg P X GL ae 178 [aI g,.i .u64 (c),ι (i),eR cI 1 true L] (ι (fW g c L p)):=by
 refine bg.intro λC E=> ?_;have hi:=(eC.1 N).1;have ok:=G.p p (dI N);have pl:=G.pl;have rl:=ok.len;have nl:=G.ntl;have e2:sub (g.pR.flatMap aM) (i*13+2) 1=some [eR dO 2 p.rn p.right]:=cW kr N (j:=2) (n:=1) ω;have R:=λh=>bd9 (GL:=GL) S F G Z N h;simp only[aI,bx] at R;have W:=iW (g:=g);simp only[bx] at W;refine E.bS (F.f 178) (Y2 @aI.eq_1 @bx.eq_1 ?_);refine E.cN (R _) ?_;cases hb:sQ g c p with
 |false=>
  refine Y0 ?_;exact⟨1,by simp only[fW,hb];rfl⟩
 |true=>
  refine Y1 e2 ?_;refine fj E.ok p.right.length (λk τ h=>τ.get 3=some (eR cI 1 true L)/\ τ.get 10=some (eR dO 2 p.rn p.right)/\ τ.get 11=some (ι (k:Int))/\ τ.get 9=some (ι (((p.right.take k).foldl (kx L) 0:Nat):Int))) ?_ ?_ _ _ ⟨?_,?_,?_,?_⟩;rintro k τ ⟨n1,I,V⟩ hk ⟨t3,t10,J,t9⟩ U;have A:p.right[k]? =some p.right[k]:=ef hk;generalize hs:p.right[k]=s at A;have ft:(p.right.take (k+1)).foldl (kx L) 0=kx L ((p.right.take k).foldl (kx L) 0) s:=by rw[nY A,xH];rfl
  generalize (p.right.take k).foldl (kx L) 0=w at*;have q2:sub (p.right.flatMap dO) (k*2+1) 1=some [ι (s.2:Int)]:=cW gO A (j:=1) (n:=1) ω;rcases ok.sym _ (dI A) with ⟨H,s2⟩|⟨H,s2⟩;have O:sub (p.right.flatMap dO) (k*2) 1=some [.b true]:=by
   have:=cW gO A (j:=0) (n:=1) ω;simpa[dO,H] using this
  refine Y3 t10 J O ?_;refine U _ _ ⟨?_,?_,?_,?_⟩;exact U1 t3;exact U1 t10;exact U0;rw[ft];unfold kx;rw[H];exact U1 t9;have O:sub (p.right.flatMap dO) (k*2) 1=some [.b false]:=by
   have:=cW gO A (j:=0) (n:=1) ω;simpa[dO,H] using this
  have D:L[s.2]? =some L[s.2]:=ef ω;have ql:sub (L.flatMap cI) s.2 1=some [ι ((L[s.2]:Nat):Int)]:=by
   have:=cW qw D (j:=0) (n:=1) ω;simpa[cI] using this
  have aV:s.2<L.length:=by omega
  generalize hx:L[s.2]=x at D ql;have mm:(if (w:Int)<(x:Int) then (x:Int) else (w:Int))=((max w x:Nat):Int):=by split<;>omega
  refine Y9 t3 t9 t10 J O q2 ql @jP mm ?_;refine U _ _ ⟨?_,?_,?_,?_⟩;exact U1 t3;exact U1 t10;exact U0;have e:kx L w s=max w x:=by unfold kx;rw[H,kX,D];rfl
  rw[ft,e];exact U0;rintro τ ⟨n1,I,V⟩ ⟨t3,t10,J,t9⟩;rw[mR] at t9;have mn:(if (1000:Int)<((p.right.foldl (kx L) 0+1:Nat):Int) then (1000:Int) else ((p.right.foldl (kx L) 0+1:Nat):Int))=((min (p.right.foldl (kx L) 0+1) 1000:Nat):Int):=by split<;>omega
  have le:=bS9 Y p.right (n:=0) ω;have e:fW g c L p=min (p.right.foldl (kx L) 0+1) 1000:=by simp only[fW,hb];rfl
  rw[e];generalize p.right.foldl (kx L) 0=w at*;refine Y5 t9 t10 J @jP mn ?_;exact⟨1,rfl⟩;all_goals exact U0
def Ej (g:Gr) (c:Nat) (lv:AV) (a:Nat) (j ov:AV):List AV:=bx g++[.i .u64 (c:Int),lv,ι (a:Int),j,ov]
variable {C:aK Prop} (E:Sem P X GL ae C)
variable {B ov:AV} {kk o:Nat} {h:AH}
def T6 (F:bz8 ae) {g B} {a n:Nat} {H} (hb:∀i,i<kk ->∃b:Nat,b<256/\ B[i]? =some (.i .u8 (b))) (nk:nice 64 (.ds B 0 kk 1)=true) (W:kk<=40) (U:a<=kk) (Y:1<=n/\ n<=1000) (A:cG (h.oB.get o)=some (Ej g c (.ds B 0 kk 1) a H ov)) k
 (h1:kk<=a ->k (ι 0) h)
 (h2:a<kk ->∀r h',r<n ->h'.next=h.next ->cG (h'.oB.get o)=some (Ej g c (.ds B 0 kk 1) (a+1) H ov) ->(∀j,j≠o ->h'.oB.get j=h.oB.get j) ->k (ι (r)) h'):
 du C 179 [.p o 0,ι (n)] h k:=by
 obtain⟨m,ver,ob⟩:=h;dsimp only at A;have R:=A;simp only[Ej,bx,gw,gx] at A;rw[E.cB (F.f 179)];rcases iO a kk with q|q;have G:((kk:Int)<=(a:Int))=False:=cE;obtain⟨b,I,D⟩:=hb a q;have J:∀h,nU h 1 a (.ds B 0 kk 1)= .v (.dp B a) h:=λh=>by rw[yR,aF ⟨rfl,q⟩,gB,vH]
 have N:sub B a 1=some [.i .u8 (b:Int)]:=qY D;have wk:dN .i64 (b:Int)=(b:Int):=by rw[vW];exact F9 .i64 b (by show b<=9223372036854775807;omega)
 have rm:aY .rem (ι (b:Int)) (ι (n:Int))=some (ι ((b%n:Nat):Int)):=iA ω;have O:aY .sub (ι ((a+1:Nat):Int)) (ι 1)=some (ι (a:Int)):=qV (a:=a+1) (b:=1) ω;refine Y7 A G J N wk rm O ?_;refine h2 q (b%n) _ (jv _ ω) rfl ?_ ?_;simp only[Ej,bx,gw,gx];exact U0;intro j V;exact U0;have G:((kk:Int)<=(a:Int))=True:=cJ;refine Y2 A G ?_;exact h1 q
def vL (L:List Nat) (m:Nat):Nat:=L.getD m 0
def be1 {i x j} (hi:i<L.length):vL (L.set i x) j=if j=i then x else vL L j:=by
 unfold vL;rw[kX,kX,xF];split;rename_i h;subst h;rw[aF rfl];simp;rename_i h;rw[aD (λe=>h e.symm)]
def T7 {L r}:∀(q:List (Bool×Nat)) {n},q.foldl (kx L) n<=r↔n<=r/\∀s∈q,s.1=false ->vL L s.2<=r
 |[],n=>by simp
 |s::q,n=>by
  rw[zH,T7 q,List.forall_mem_cons];unfold kx;cases e:s.1 with
  |true=>simp
  |false=>simp only[eU,Nat.max_le];unfold vL;constructor<;>(intro h;simp_all)
def sR {g t} (A:t<1000):fW g c L p<=t↔sQ g c p=true/\ 1<=t/\∀s∈p.right,s.1=false ->vL L s.2+1<=t:=by
 unfold fW;cases sQ g c p;simp only[eU,nr,false_and,iff_false];omega;simp only[fC,true_and];have:=T7 (L:=L) (r:=t-1) p.right (n:=0);constructor;intro h;have h1:p.right.foldl (kx L) 0<=t-1:=by omega
 exact⟨by omega,λs j e=>by have:=(this.1 h1).2 s j e;omega⟩;rintro⟨h1,h2⟩;have:=this.2 ⟨oi _,λs j e=>by have:=h2 s j e;omega⟩;omega
def Kz {g}:fW g c L p<=1000:=by
 unfold fW;cases sQ g c p;exact bB _;exact zI _ _
def be2 {g M} (h:∀m,vL L m<=vL M m):fW g c L p<=fW g c M p:=by
 rcases iO (fW g c M p) 1000 with q|q;obtain⟨a,b,d⟩:=(sR q).1 (bB _);exact(sR q).2 ⟨a,b,λs j e=>by have:=d s j e;have:=h s.2;omega⟩;exact fJ Kz q
def jF (g:Gr) (c:Nat) (L:List Nat) (p:Pr):List Nat:=L.set p.left (min (vL L p.left) (fW g c L p))
def jS (g:Gr) (c:Nat):Nat ->List Nat
 |0=>List.replicate g.nT.length 1000
 |k+1=>g.pR.foldl (jF g c) (jS g c k)
def vu (g:Gr) (c:Nat):List Nat:=jS g c (g.nT.length+1)
structure HI (g:Gr) (c:Nat) (L:List Nat):Prop where
 len:L.length=g.nT.length
 le:∀m,vL L m<=1000
 b:∀m,m<g.nT.length ->vL L m<1000 ->∃p∈g.pR,p.left=m/\ fW g c L p<=vL L m
def HJ (g:Gr) (c:Nat) (L:List Nat) (r:Nat):Prop:=∀p∈g.pR,∀t,t<=r ->fW g c L p<=t ->vL L p.left<=t
section
variable {g:Gr} {c:Nat}
def E4 {L p} (h:p.left<L.length) j:vL (jF g c L p) j=if j=p.left then min (vL L p.left) (fW g c L p) else vL L j:=be1 h
def T8 {L p} (h:p.left<L.length) j:vL (jF g c L p) j<=vL L j:=by
 rw[E4 h];split;rename_i e;rw[e];exact Ro _ _;exact bB _
def HI.step {L} (I:HI g c L) {p} (J:p∈g.pR) (H:p.left<g.nT.length):HI g c (jF g c L p):=by
 have j:p.left<L.length:=by rw[I.len];exact H
 have lo:=T8 (g:=g) (c:=c) j;refine⟨by unfold jF;rw[vK,I.len],λm=>fJ (lo m) (I.le m),λm G h=> ?_⟩;have D:=λq=>be2 (g:=g) (c:=c) (p:=q) lo;rw[E4 j] at h ⊢;by_cases e:m=p.left;subst e;rw[aF rfl] at h ⊢;rcases zF (vL L p.left) (fW g c L p) with q|q;rw[kF q] at h ⊢;obtain⟨x,A,e1,e2⟩:=I.b _ G h;exact⟨x,A,e1,fJ (D x) e2⟩;rw[sY q];exact⟨p,J,rfl,D p⟩;rw[aD e] at h ⊢;obtain⟨x,A,e1,e2⟩:=I.b _ G h;exact⟨x,A,e1,fJ (D x) e2⟩
def round {L0 r} (J:HJ g c L0 r) (hr:r+1<1000) (V:∀p∈g.pR,p.left<g.nT.length):∀ps dn L,dn++ps=g.pR ->HI g c L ->(∀m,vL L m<=vL L0 m) ->(∀m,vL L m<=r ->vL L0 m=vL L m) ->
 (∀p∈dn,fW g c L p<=r+1 ->vL L p.left<=r+1) ->HI g c (ps.foldl (jF g c) L)/\ HJ g c (ps.foldl (jF g c) L) (r+1):=by
 have j:∀L:List Nat,(∀m,vL L m<=r ->vL L0 m=vL L m) ->∀M:List Nat,(∀m,vL M m<=vL L0 m) ->∀(p:Pr) t,t<=r+1 ->fW g c L p<=t ->fW g c M p<=t:=by
  intro L h2 M h1 p t Y h;obtain⟨a,b,d⟩:=(sR ω).1 h;refine(sR ω).2 ⟨a,b,λs W e=> ?_⟩;have:=d s W e;have q:=h2 s.2 ω;have:=h1 s.2;omega
 intro ps;induction ps with
 |nil=>
  intro dn L e I h1 h2 h3;rw[lG] at e;refine⟨I,λp G t Y h=> ?_⟩;rcases iO r t with q|q;obtain rfl:t=r+1:=by omega
  exact h3 p (by rw[e];exact G) h;exact fJ (h1 _) (J p G t q (j L h2 L0 (λ_=>bB _) p t ω h))
 |cons p ps Z=>
  intro dn L e I h1 h2 h3;have G:p∈g.pR:=by rw[←e];simp
  have U:=V p G;have A:p.left<L.length:=by rw[I.len];exact U
  have lo:=T8 (g:=g) (c:=c) A;have R:∀m,vL (jF g c L p) m<=vL L0 m:=λm=>fJ (lo m) (h1 m);have H:∀m,vL (jF g c L p) m<=r ->vL L0 m=vL (jF g c L p) m:=by
   intro m D;have at_:=E4 (g:=g) (c:=c) A m;rw[at_] at D ⊢;split at D;rename_i O;subst O;rw[aF rfl];rcases zF (vL L p.left) (fW g c L p) with q|q;rw[kF q] at D ⊢;exact h2 _ D;rw[sY q] at D ⊢;have:=J p G _ D (j L h2 L0 (λ_=>bB _) p _ ω (bB _));have:=h1 p.left;have:vL L p.left=fW g c L p:=by omega
   rw[←this];exact h2 _ ω;rename_i O;rw[aD O];exact h2 _ D
  refine Z (dn++[p]) (jF g c L p) (by rw[hZ];exact e) (I.step G U) R H λq N h=> ?_;have hb:=j _ H L h1 q _ (bB _) h;rcases fO.1 N with N|N;exact fJ (lo _) (h3 q N hb);obtain rfl:=yC.1 N;rw[E4 A,aF rfl];exact fJ (zI _ _) hb
def T9 {n m}:vL (List.replicate n 1000) m=if m<n then 1000 else 0:=by
 unfold vL;rw[kX,List.getElem?_replicate];split<;>rfl
def Ua (j:∀p∈g.pR,p.left<g.nT.length):∀k,k<999 ->HI g c (jS g c k)/\ HJ g c (jS g c k) k
 |0,_=>by
  refine⟨⟨Cs,λm=> ?_,λm D h=> ?_⟩,λp A t G h=> ?_⟩;unfold jS;rw[T9];split<;>omega;unfold jS at h;rw[T9,aF D] at h;omega;have:=((sR ω).1 h).2.1;omega
 |k+1,h=>by
  obtain⟨I,J⟩:=Ua j k ω;exact round J ω j g.pR [] (jS g c k) rfl I (λ_=>bB _) (λ_ _=>rfl) (λp A=>by cases A)
def Ub:∀k (L:List Nat),(∀w,1<=w ->w<=k ->w∈L) ->k<=L.length
 |0,_,_=>oi _
 |k+1,L,h=>by
  have h1:=h (k+1) ω (bB _);have:=Ub k (L.erase (k+1)) λw h2 j=>(List.mem_erase_of_ne ω).2 (h w h2 ω);rw[List.length_erase_of_mem h1] at this;have:=List.length_pos_of_mem h1;omega
structure BK (g:Gr) (c:Nat) (L:List Nat):Prop where
 len:L.length=g.nT.length
 le:∀x∈L,x<=1000
 ex:∀m,m<g.nT.length ->vL L m<1000 ->∃p∈g.pR,p.left=m/\ fW g c L p=vL L m
 fin:∀m,m<g.nT.length ->vL L m<1000 ->vL L m<=g.nT.length
def be3 (G:oy g):BK g c (vu g c):=by
 have hn:=G.ntl;obtain⟨I,J⟩:=Ua (g:=g) (c:=c) (λp j=>(G.p p j).left) (g.nT.length+1) ω;change HI g c (vu g c) at I;change HJ g c (vu g c) _ at J;generalize vu g c=L at*;have N:∀p∈g.pR,∀s∈p.right,s.1=false ->s.2<g.nT.length:=λp j s H e=>by
  rcases(G.p p j).sym s H with ⟨a,-⟩|⟨-,b⟩;rw[e] at a;cases a;exact b
 have mem:∀m,m<g.nT.length ->vL L m∈L:=λm A=>by
  have D:m<L.length:=by rw[I.len];exact A
  unfold vL;rw[kX,ef D];exact List.getElem_mem D
 have fin:∀m,m<g.nT.length ->vL L m<1000 ->vL L m<=g.nT.length:=by
  intro m A R;refine Nat.le_of_not_lt λZ=> ?_;have:∃w,1<=w/\ w<=g.nT.length/\¬w∈L:=by
   refine uk λO=> ?_;have:=Ub g.nT.length (L.erase (vL L m)) λw h2 V=>(List.mem_erase_of_ne ω).2 (uk λY=>O ⟨w,h2,V,Y⟩);rw[List.length_erase_of_mem (mem m A),I.len] at this;omega
  obtain⟨w,w1,wn,hw⟩:=this;have key:∀x,w<x ->x<1000 ->∀m,m<g.nT.length ->vL L m≠x:=by
   intro x;induction x using Nat.strongRecOn with
   |_ x ih=>
    intro h1 h2 m A e;obtain⟨p,j,D,hh⟩:=I.b m A ω;obtain⟨a,b,d⟩:=(sR ω).1 hh;have:fW g c L p<=w:=(sR ω).2 ⟨a,w1,λs H U=>by
     have V:=d s H U;have W:=N p j s H U;have h5:vL L s.2≠w:=λe5=>hw (e5▸mem _ W);rcases iO w (vL L s.2) with q|q;exact bh rfl (ih (vL L s.2) ω q ω s.2 W);omega⟩
    have:=J p j w ω this;rw[D] at this;omega
  exact key _ ω R m A rfl
 have low:∀p∈g.pR,vL L p.left<=fW g c L p:=by
  intro p j;rcases iO (fW g c L p) 1000 with q|q;obtain⟨a,b,d⟩:=(sR q).1 (bB _);refine J p j _ ?_ (bB _);refine(sR ω).2 ⟨a,by omega,λs H e=> ?_⟩;have:=d s H e;have:=fin s.2 (N p j s H e) ω;omega;exact fJ (I.le _) q
 refine⟨I.len,λx R=> ?_,λm A h=> ?_,fin⟩;obtain⟨i,hi,e⟩:=sX.1 R;have:=I.le i;unfold vL at this;rw[kX,ef hi] at this;rw[←e];exact this;obtain⟨p,j,D,hh⟩:=I.b m A h;have:=low p j;rw[D] at this;exact⟨p,j,D,Nat.le_antisymm hh this⟩
end
def BL {α enc k nl}:∀{L:List α},L≠[] ->eR enc k nl L= .ds (L.flatMap enc) 0 L.length k
 |[],h=>bh rfl h
 |_::_,_=>yT
def Uc n:(List.replicate n [AV.i .i64 0]).flatten=(List.replicate n 0).flatMap cI:=by
 induction n with
 |zero=>rfl
 |succ n j=>rw[uc,vD,j,uc,lE];rfl
def E5 {x:Nat}:∀{L:List Nat} {i},i<L.length ->eL [AV.i .i64 (x)] (L.flatMap cI) i=some ((L.set i x).flatMap cI)
 |[],i,h=>by simp at h
 |a::L,0,h=>rfl
 |a::L,i+1,h=>by
  rw[lE,List.set_cons_succ,lE];show eL _ (AV.i .i64 (a:Int)::L.flatMap cI) (i+1)=_;rw[Aw,E5 (L:=L) (i:=i) (by simpa using h)];rfl
def be4 {g} (h:∀x∈L,x<=1000):∀x∈jF g c L p,x<=1000:=λx j=>by
 rcases FF j with q|q;exact h x q;rw[q];exact fJ (zI _ _) Kz
variable (F:bz8 ae)
def be5 {g} (G:oy g) (hc:c<8):bg P X GL ae 94 [aI g,.i .u64 (c)] (eR cI 1 true (vu g c)):=by
 refine bg.intro λC E=> ?_;have ntl:=G.ntl;have pl:=G.pl;generalize I:g.nT.length=n at ntl;have D:∀r i,((g.pR.take i).foldl (jF g c) (jS g c r)).length=n:=λr i=>by
  have key:∀(ps:List Pr) (L:List Nat),(ps.foldl (jF g c) L).length=L.length:=λps=>by
   induction ps with
   |nil=>intro L;rfl
   |cons p ps A=>intro L;rw[zH,A];exact vK
  have k2:∀r,(jS g c r).length=n:=λr=>by
   induction r with
   |zero=>exact List.length_replicate.trans I
   |succ r A=>exact(key _ _).trans A
  rw[key,k2]
 have il:∀r,(jS g c r).length=n:=λr=>D r 0;have H:∀L:List Nat,∀ps:List Pr,(∀x∈L,x<=1000) ->∀x∈ps.foldl (jF g c) L,x<=1000:=λL ps=>by
  induction ps generalizing L with
  |nil=>exact λh=>h
  |cons p ps A=>exact λh=>A _ (be4 h)
 have b0:∀r,∀x∈jS g c r,x<=1000:=λr=>by
  induction r with
  |zero=>intro x hx;rw[(List.mem_replicate.1 hx).2];omega
  |succ r A=>exact H _ _ A
 have W:jS g c 0=List.replicate n 1000:=by unfold jS;rw[I]
 refine E.bS (F.f 94) (Y4 @aI.eq_1 @bx.eq_1 @Uc I ?_);refine fj E.ok n (λi τ h=>cG (h.oB.get 0)=some (bx g)/\ (∃L:List Nat,cG (h.oB.get 1)=some (L.flatMap cI)/\ L.length=n/\∀j,j<i ->L[j]? =some 1000)/\ τ.get 1=some (.i .u64 (c:Int))/\ τ.get 2=some (.p 0 0)/\ τ.get 5=some (.sl 1 0 n (some n) 1)/\ τ.get 6=some (ι (i:Int))) ?_ ?_ _ _ ⟨?_,⟨List.replicate n 0,?_,Cs,λj Y=>by omega⟩,?_,?_,?_,?_⟩
 ·rintro i τ ⟨n1,ver,ob⟩ hi ⟨c0,⟨L,c1,Z,V⟩,t1,t2,t5,t6⟩ A;have ov:eL [AV.i .i64 1000] (L.flatMap cI) i=some ((L.set i 1000).flatMap cI):=E5 (x:=1000) ω;dsimp only at c1;refine Y4 c1 t5 t6 ov ?_;refine A _ _ ⟨W0 c0,⟨L.set i 1000,?_,by rw[vK,Z],λj Y=> ?_⟩,?_,?_,?_,?_⟩;exact U0;rw[xF];split;rw[aF ω];exact V j ω;all_goals first|exact U0|exact U1 t1|exact U1 t2|exact U1 t5
 ·rintro τ ⟨n1,ver,ob⟩ ⟨c0,⟨L,c1,Z,V⟩,t1,t2,t5,t6⟩;obtain rfl:L=List.replicate n 1000:=List.eq_replicate_iff.2 ⟨Z,λb hb=>by
   obtain⟨j,Y,e⟩:=sX.1 hb;have:=V j ω;rw[ef Y,e] at this;exact gC this⟩
  refine Y2 t5 t6 ?_;refine fj E.ok (n+1) (λr τ h=>cG (h.oB.get 0)=some (bx g)/\ cG (h.oB.get 1)=some ((jS g c r).flatMap cI)/\ τ.get 1=some (.i .u64 (c:Int))/\ τ.get 2=some (.p 0 0)/\ τ.get 5=some (.sl 1 0 n (some n) 1)/\ τ.get 7=some (ι (r:Int))) ?_ ?_ _ _ ⟨c0,?_,?_,?_,?_,?_⟩
  ·rintro r τ ⟨n1,ver,ob⟩ hr ⟨c0,c1,t1,t2,t5,t7⟩ A;refine Y2 t5 t7 ?_;refine fj E.ok g.pR.length (λi τ h=>cG (h.oB.get 0)=some (bx g)/\ cG (h.oB.get 1)=some (((g.pR.take i).foldl (jF g c) (jS g c r)).flatMap cI)/\ τ.get 1=some (.i .u64 (c:Int))/\ τ.get 2=some (.p 0 0)/\ τ.get 5=some (.sl 1 0 n (some n) 1)/\ τ.get 7=some (ι (r:Int))/\ τ.get 8=some (ι (i:Int))) ?_ ?_ _ _ ⟨c0,c1,?_,?_,?_,?_,?_⟩
   ·rintro i τ ⟨n1,ver,ob⟩ hi ⟨c0,c1,t1,t2,t5,t7,t8⟩ A;have O:g.pR[i]? =some g.pR[i]:=ef hi;generalize b2:g.pR[i]=p at O;have ok:=G.p p (dI O);rw[I] at ok;have ft:(g.pR.take (i+1)).foldl (jF g c) (jS g c r)=jF g c ((g.pR.take i).foldl (jF g c) (jS g c r)) p:=by rw[nY O,xH];rfl
    have fl:((g.pR.take i).foldl (jF g c) (jS g c r)).length=n:=D _ i;have fm:=H (jS g c r) (g.pR.take i) (b0 r);rw[ft] at A;generalize (g.pR.take i).foldl (jF g c) (jS g c r)=L at*;have aV:=ok.left;have e1:sub (g.pR.flatMap aM) (i*13+1) 1=some [ι (p.left:Int)]:=by
     have:=cW kr O (j:=1) (n:=1) ω;simpa[aM] using this
    have U:=c0;have R:=c1;dsimp only at c0 c1;simp only[bx] at c0;have bq:=iW (g:=g);simp only[bx] at bq;have b1:L≠[]:=λe=>by rw[e] at fl;simp at fl;omega
    have J:∀h:AH,cG (h.oB.get 1)=some (L.flatMap cI) ->bP P X GL 178 [aI g,.i .u64 (c:Int),ι (i:Int),.sl 1 0 n (some n) 1] h (ι (fW g c L p:Int)) h:=λh hh=>
     oE S (T4 S F G hc O (fl.trans I.symm) fm) (n:=9) (m:=1) (by
      rw[aL,aL,aL,aL,bZ,kq (n:=6),dH,dH,gA (n:=8) hh (qZ yZ _),BL b1,fl]) rfl
    simp only[aI,bx] at J;have hv:(vL L p.left:Nat)=vL L p.left:=rfl;have e2:sub (L.flatMap cI) p.left 1=some [ι (vL L p.left:Int)]:=by
     have N:L[p.left]? =some L[p.left]:=ef ω;have:=cW qw N (j:=0) (n:=1) ω;unfold vL;rw[kX,N];simpa[cI] using this
    have mm:(if ((fW g c L p:Nat):Int)<((vL L p.left:Nat):Int) then ((fW g c L p:Nat):Int) else ((vL L p.left:Nat):Int))=((min (vL L p.left) (fW g c L p):Nat):Int):=by split<;>omega
    refine Y8 c0 c1 t1 t2 t5 t8 e1 e2 ?_;refine E.cN (J _ R) ?_;have ov:eL [AV.i .i64 ((min (vL L p.left) (fW g c L p):Nat):Int)] (L.flatMap cI) p.left=some ((jF g c L p).flatMap cI):=E5 ω;refine Y7 c1 t5 t8 e2 @jP mm ov ?_;refine A _ _ ⟨W0 U,?_,?_,?_,?_,?_,?_⟩;all_goals first|exact U0|exact U1 t1|exact U1 t2|exact U1 t5|exact U1 t7
   ·rintro τ ⟨n1,ver,ob⟩ ⟨c0,c1,t1,t2,t5,t7,t8⟩;rw[mR] at c1;have U:=c0;dsimp only at c0;simp only[bx] at c0;refine Y4 c0 t2 t7 t8 ?_;refine A _ _ ⟨U,c1,?_,?_,?_,?_⟩;all_goals first|exact U0|exact U1 t1|exact U1 t2|exact U1 t5
   all_goals first|exact U0|exact U1 t1|exact U1 t2|exact U1 t5|exact U1 t7
  rintro τ ⟨n1,ver,ob⟩ ⟨c0,c1,t1,t2,t5,t7⟩;refine Y2 t5 t7 ?_;have e:vu g c=jS g c (n+1):=by unfold vu;rw[I]
  refine⟨9,?_⟩;rw[gA (n:=8) c1 (qZ yZ _),e,BL (by intro e;have:=il (n+1);rw[e] at this;simp at this;omega),il];all_goals first|exact U0|exact U1 t1|exact U1 t2|exact U1 t5|(rw[W];exact c1)
 all_goals exact U0
def be6:∀L:List Nat,(L.flatMap cI).length=L.length*1:=kh qw
def Ud (b:Nat) (h:AH) (v:AV) (L:List Nat):Prop:=(L=[]/\ v= .sn)∨(L≠[]/\∃q,b<=q/\ q<h.next/\ v= .sl q 0 L.length none 1/\ cG (h.oB.get q)=some (L.flatMap cI))
def gW (g:Gr) (c:Nat) (B:AV) (kk:Nat) (L:List Nat) (a:Nat) (ov:AV):List AV:=Ej g c B a (eR cI 1 true L) ov
structure oV (B:AV) (kk:Nat):Prop where
 b:(kk=0/\ B= .sn)∨∃D,B= .ds D 0 kk 1/\∀i,i<kk ->∃b:Nat,b<256/\ D[i]? =some (.i .u8 (b:Int))
 nk:nice 64 B=true
 le:kk<=40
def oV.len (h:oV B kk) h':kg h' B= .v (ι (kk)) h':=by
 rcases h.b with ⟨rfl,rfl⟩|⟨D,rfl,-⟩<;>rfl
def E6 (g:Gr) (c:Nat) (L:List Nat) (m i:Nat):Prop:=∃p,g.pR[i]? =some p/\ p.left=m/\ fW g c L p<1000
def tX (g:Gr) (c:Nat) (L:List Nat) (m i:Nat):Prop:=∃p,g.pR[i]? =some p/\ p.left=m/\ fW g c L p=vL L m
def KA {g} {a n:Nat} (G:oV B kk) (I:a<=kk) (N:1<=n/\ n<=1000) (A:cG (h.oB.get o)=some (gW g c B kk L a ov)) k
 (J:∀r H h',r<n ->a<=H ->H<=kk ->h'.next=h.next ->cG (h'.oB.get o)=some (gW g c B kk L H ov) ->(∀j,j≠o ->h'.oB.get j=h.oB.get j) ->k (ι (r)) h'):
 du C 179 [.p o 0,ι (n)] h k:=by
 rcases G.b with ⟨rfl,rfl⟩|⟨D,rfl,hb⟩;obtain rfl:a=0:=by omega
 obtain⟨m,ver,ob⟩:=h;dsimp only at A;have O:=A;simp only[gW,Ej,bx,gw,gx] at A;rw[E.cB (F.f 179)];have nk:=G.nk;refine Y1 A ?_;exact J 0 0 _ N.1 (bB _) I rfl O λ_ _=>rfl;exact T6 E F hb G.nk G.le I N A k (λ_=>J 0 a h N.1 (bB _) I rfl A λ_ _=>rfl) λq r h' U h1 h2 R=>J r (a+1) h' U (nD _) q h1 h2 R
def be7 {g} {a n:Nat} (A:oV B kk) (O:a<kk) (I:1<=n/\ n<=1000) (J:cG (h.oB.get o)=some (gW g c B kk L a ov)) k
 (H:∀r h',r<n ->h'.next=h.next ->cG (h'.oB.get o)=some (gW g c B kk L (a+1) ov) ->(∀j,j≠o ->h'.oB.get j=h.oB.get j) ->k (ι (r)) h'):
 du C 179 [.p o 0,ι (n)] h k:=by
 rcases A.b with ⟨rfl,rfl⟩|⟨D,rfl,hb⟩;omega;exact T6 E F hb A.nk A.le ω I J k (λ_=>by omega) λq r h' N h1 h2 G=>H r h' N h1 h2 G
def be8 {g} (G:oy g) (hc:c<8) (H:BK g c L) {a m N} (hB:oV B kk) (ha:a<=kk) (hm:m<g.nT.length) (hf:vL L m<1000) (hN:N<=1000000)
 (f8:(N=0/\ ov= .sn)∨∃oo,ov= .sl oo 0 N none 4) (ho:cG (h.oB.get o)=some (gW g c B kk L a ov)) (lo:o<h.next) (k)
 (h1:kk<=a∨40<N ->∀i h',tX g c L m i ->h.next<=h'.next ->(∀j,j<h.next ->h'.oB.get j=h.oB.get j) ->k (ι (i)) h')
 (h2:a<kk ->N<=40 ->∀i h',E6 g c L m i ->h.next<=h'.next ->cG (h'.oB.get o)=some (gW g c B kk L (a+1) ov) ->(∀j,j<h.next ->j≠o ->h'.oB.get j=h.oB.get j) ->k (ι (i)) h'):
 du C 181 [.p o 0,ι (m)] h k:=by
 have ntl:=G.ntl;have pl:=G.pl;have b8:∀h,kg h ov= .v (ι (N:Int)) h:=λh=>by rcases f8 with ⟨e,rfl⟩|⟨oo,rfl⟩<;>first|(rw[e];rfl)|rfl
 have bn:=hB.nk;have bl:=hB.len;have bq:=iW (g:=g);have U:sub (L.flatMap cI) m 1=some [ι (vL L m:Int)]:=by
  have d8:m<L.length:=by rw[H.len];exact hm
  have b5:L[m]? =some L[m]:=ef d8;have:=cW qw b5 (j:=0) (n:=1) ω;unfold vL;rw[kX,b5];simpa[cI] using this
 have eQ:=H.len;obtain⟨n0,v0,ob0⟩:=h;dsimp only at ho lo;have bT:=ho;simp only[gW,Ej,bx,gw,gx] at ho;simp only[bx] at bq;refine E.bS (F.f 181) (Y0 ?_);refine fj E.ok g.pR.length (λi τ h=>n0<=h.next/\ (∀j,j<n0 ->h.oB.get j=ob0.get j)/\ τ.get 0=some (.p o 0)/\ τ.get 1=some (ι (m:Int))/\ τ.get 7=some (ι (i:Int))/\
  ∃(v:AV) (A:List Nat) (b:Int),τ.get 5=some v/\ Ud n0 h v A/\ (∀x∈A,E6 g c L m x)/\ A.length<=i/\ τ.get 6=some (ι b)/\ ((b= -1/\∀j,j<i ->¬tX g c L m j)∨(A≠[]/\∃x:Nat,b=(x:Int)/\ tX g c L m x))) ?_ ?_ _ _ ⟨?_,?_,?_,?_,?_,?_⟩
 rintro i τ ⟨n1,v1,ob⟩ hi ⟨Y,old,t0,t1,t7,v,A,b,t5,hA,V,d0,t6,hb⟩ ih;dsimp only at Y old;have c0:cG (ob.get o)=some (gW g c B kk L a ov):=by rw[old o lo];exact bT
 have hp:g.pR[i]? =some g.pR[i]:=ef hi;generalize g2:g.pR[i]=p at hp;have b4:=λh=>dR S (T4 S F G hc hp H.len H.le) (n:=9) (by
  rw[aL,aL,aL,aL,bZ,kq (n:=6),dH,dH,eu (n:=8) yZ]) h
 simp only[aI,bx] at b4;have e1:sub (g.pR.flatMap aM) (i*13+1) 1=some [ι (p.left:Int)]:=by
  have:=cW kr hp (j:=1) (n:=1) ω;simpa[aM] using this
 simp only[gW,Ej,bx,gw,gx] at c0;refine Y3 c0 t0 t7 ?_;refine E.cN (b4 _) ?_;generalize hw:fW g c L p=w at*;have w1:w<=1000:=by rw[←hw];exact Kz
 by_cases hl:p.left=m;have O:((p.left:Int)=(m:Int))=True:=cJ;rcases iO w 1000 with q|q;have q':(1000<=(w:Int))=False:=cE;have c6:E6 g c L m i:=⟨p,hp,hl,by omega⟩;have A1:A.length+1<=1048576:=by omega
 have b7:∀b:Int,¬(w=vL L m) ->((b= -1/\∀j,j<i ->¬tX g c L m j)∨(A≠[]/\∃x:Nat,b=(x:Int)/\ tX g c L m x)) ->((b= -1/\∀j,j<i+1 ->¬tX g c L m j)∨(A++[i]≠[]/\∃x:Nat,b=(x:Int)/\ tX g c L m x)):=λb Y hb=>by
  rcases hb with ⟨W,D⟩|⟨-,hb⟩;refine .inl ⟨W,λj R=> ?_⟩;rcases iO j i with q|q;exact D j q;obtain rfl:j=i:=by omega
  rintro⟨x,I,-,h3⟩;rw[hp] at I;obtain rfl:=gC I;exact Y ω;exact .inr ⟨by simp,hb⟩
 have J:∀x∈A++[i],E6 g c L m x:=λx I=>by
  rcases fO.1 I with I|I;exact V x I;rw[yC.1 I];exact c6
 have al:(A++[i]).length<=i+1:=by rw[dy,lF];omega
 have be:w=vL L m ->(A++[i]≠[]/\∃x:Nat,(i:Int)=(x:Int)/\ tX g c L m x):=λe=>⟨by simp,i,rfl,p,hp,hl,by omega⟩;have on:(o=n1)=False:=cE;have b1:(o=n1+1)=False:=cE;rcases hA with ⟨rfl,rfl⟩|⟨b0,oo,f7,b6,rfl,co⟩;have d4:b= -1:=by rcases hb with hb|hb;exact hb.1;exact bh rfl hb.1
 subst d4;by_cases D:w=vL L m;have he:(((w:Nat):Int)=((vL L m:Nat):Int))=True:=cJ;refine iU c0 t0 t1 t5 t6 t7 e1 O q' @iP U he ?_;refine ih _ _ ⟨by show n0<=n1+1+1;omega,?_,?_,?_,?_,.sl (n1+1) 0 1 none 1,[]++[i],i,?_,?_,J,al,?_,.inr (be D)⟩;intro j R;have z1:(j=n1)=False:=cE;have z2:(j=n1+1)=False:=cE;exact wW (ec z1 z2) (old j R);exact U1 t0;(iterate 3 exact U1 t1);exact .inr ⟨by simp,n1+1,by omega,by show n1+1<n1+1+1;omega,rfl,U0⟩;exact U0;have he:(((w:Nat):Int)=((vL L m:Nat):Int))=False:=cE;refine iU c0 t0 t1 t5 t6 t7 e1 O q' @iP U he ?_;refine ih _ _ ⟨by show n0<=n1+1+1;omega,?_,?_,?_,?_,.sl (n1+1) 0 1 none 1,[]++[i],-1,?_,?_,J,al,?_,b7 _ D hb⟩;intro j R;have z1:(j=n1)=False:=cE;have z2:(j=n1+1)=False:=cE;exact wW (ec z1 z2) (old j R);exact U1 t0;(iterate 3 exact U1 t1);exact .inr ⟨by simp,n1+1,by omega,by show n1+1<n1+1+1;omega,rfl,U0⟩;exact U1 t6;have ll:=be6 A;have l8:(A.length+1<=1048576)=True:=fq A1;have b2:(oo=n1)=False:=dQ (by have:oo<n1:=b6;omega);have b3:(o=oo)=False:=cE;have fr:∀j,j<n0 ->(((((ob.put n1 (.cells v1 [ι (i:Int)])).put oo .gone).put (n1+1) (.cells (v1+1) (A.flatMap cI++[ι (i:Int)])))).get j=ob0.get j):=λj R=>by
  have z1:(j=n1)=False:=cE;have z2:(j=n1+1)=False:=cE;have z3:(j=oo)=False:=cE;exact wW (ec z1 (ec z2 z3)) (old j R)
 dsimp only at co;have ia:Ud n0 ⟨n1+1+1,v1+1,(((ob.put n1 (.cells v1 [ι (i:Int)])).put oo .gone).put (n1+1) (.cells (v1+1) (A.flatMap cI++[ι (i:Int)])))⟩ (.sl (n1+1) 0 (A.length+1) none 1) (A++[i]):= .inr ⟨by simp,n1+1,by omega,by show n1+1<n1+1+1;omega,by rw[dy];rfl,by rw[Bd];exact U0⟩;by_cases D:w=vL L m;have he:(((w:Nat):Int)=((vL L m:Nat):Int))=True:=cJ;rcases hb with ⟨rfl,-⟩|⟨-,x,rfl,I⟩
 ·refine Bm c0 t0 t1 t5 t6 t7 @bG e1 @bK O q' @iP U on b1 he co ll l8 b2 b3 ?_;refine ih _ _ ⟨by show n0<=n1+1+1;omega,fr,?_,?_,?_,_,A++[i],i,?_,ia,J,al,?_,.inr (be D)⟩;exact U1 t0;exact U1 t1;all_goals exact U0
 have g1:((x:Int)<0)=False:=cE;refine Y22 c0 t0 t1 t5 t6 t7 @bG e1 @bK O q' @iP U on b1 he co ll l8 b2 b3 g1 ?_;refine ih _ _ ⟨by show n0<=n1+1+1;omega,fr,?_,?_,?_,_,A++[i],x,?_,ia,J,al,?_,.inr ⟨by simp,x,rfl,I⟩⟩;exact U1 t0;(iterate 3 exact U1 t1);exact U1 t6;have he:(((w:Nat):Int)=((vL L m:Nat):Int))=False:=cE;refine Bm c0 t0 t1 t5 t6 t7 @bG e1 @bK O q' @iP U on b1 he co ll l8 b2 b3 ?_;refine ih _ _ ⟨by show n0<=n1+1+1;omega,fr,?_,?_,?_,_,A++[i],b,?_,ia,J,al,?_,b7 _ D hb⟩;exact U1 t0;(iterate 3 exact U1 t1);exact U1 t6;have q':(1000<=(w:Int))=True:=cJ;refine Y7 c0 t0 t1 t7 e1 O q' ?_;refine ih _ _ ⟨Y,old,U1 t0,U1 t1,U0,v,A,b,U1 t5,hA,V,by omega,U1 t6,?_⟩;rcases hb with ⟨W,D⟩|hb;refine .inl ⟨W,λj R=> ?_⟩;rcases iO j i with q3|q3;exact D j q3;obtain rfl:j=i:=by omega
 rintro⟨x,I,-,h3⟩;rw[hp] at I;obtain rfl:=gC I;omega;exact .inr hb;have O:((p.left:Int)=(m:Int))=False:=cE;refine Y6 c0 t0 t1 t7 e1 O ?_;refine ih _ _ ⟨Y,old,U1 t0,U1 t1,U0,v,A,b,U1 t5,hA,V,by omega,U1 t6,?_⟩;rcases hb with ⟨W,D⟩|hb;refine .inl ⟨W,λj R=> ?_⟩;rcases iO j i with q|q;exact D j q;obtain rfl:j=i:=by omega
 rintro⟨x,I,h3,-⟩;rw[hp] at I;obtain rfl:=gC I;exact hl h3;exact .inr hb;rintro τ ⟨n1,v1,ob⟩ ⟨Y,old,t0,t1,t7,v,A,b,t5,hA,V,d0,t6,hb⟩;dsimp only at Y old;have c0:cG (ob.get o)=some (gW g c B kk L a ov):=by rw[old o lo];exact bT
 have de:=c0;simp only[gW,Ej,bx,gw,gx] at c0;obtain⟨q,hq,f9,g0⟩:=H.ex m hm hf;obtain⟨j,R,d5⟩:=sX.1 hq;have bj:tX g c L m j:=⟨q,by rw[←d5];exact ef R,f9,g0⟩;rcases hb with ⟨-,hb⟩|⟨b0,x,rfl,I⟩;exact bh bj (hb j R);rcases hA with ⟨h,-⟩|⟨-,oo,f7,b6,rfl,co⟩;exact bh h b0;rcases iO a kk with q1|q1;have d1:((kk:Int)<=(a:Int))=False:=cE;rcases iO 40 N with q2|q2;have d2:((40:Int)<(N:Int))=True:=cJ;refine Y9 c0 t0 t5 t6 t7 bl b8 d1 d2 ?_;exact h1 (.inr q2) x _ I Y old;have d2:((40:Int)<(N:Int))=False:=cE;have lp:=xG.2 b0;refine Y9 c0 t0 t5 t6 t7 bl b8 d1 d2 ?_;refine E.run (be7 (c:=c) (g:=g) (a:=a) (kk:=kk) E F hB q1 ω de _ λr h' hr f0 Z gu=> ?_);obtain⟨n2,v2,aJ⟩:=h';dsimp only at f0 Z gu co;have c7:cG (aJ.get oo)=some (A.flatMap cI):=by rw[gu oo ω];exact co
 have d3:A[r]? =some A[r]:=ef hr;have er:sub (A.flatMap cI) r 1=some [ι ((A[r]:Nat):Int)]:=by
  have:=cW qw d3 (j:=0) (n:=1) ω;simpa[cI] using this
 refine Y2 c7 er ?_;exact h2 q1 q2 _ _ (V _ (List.getElem_mem hr)) (by show n0<=n2;omega) Z λj R d6=>(gu j d6).trans (old j R);have d1:((kk:Int)<=(a:Int))=True:=cJ;refine Y6 c0 t0 t6 t7 bl d1 ?_;exact h1 (.inl q1) x _ I Y old;exact bB _;exact λ_ _=>rfl;(iterate 3 exact U0);exact⟨.sn,[],-1,U0,.inl ⟨rfl,rfl⟩,λx I=>(by cases I),bB _,U0,.inl ⟨rfl,λj R=>by omega⟩⟩
structure tZ (P:Program) (X:aR) (GL:T (List AV)) (ae:T au):Prop where
 id:∀k,k<6 ->∃b,bg P X GL ae 287 [eR iF 5 true (jg 0),.s (sS k)] (.b b)
 rm:∀k,k<3 ->∃b,bg P X GL ae 287 [eR iF 5 true (jg 10),.s (tY k)] (.b b)
def E7 (b:Nat) (h:AH) (v:AV) (R:List (List Nat)):Prop:=(R=[]/\ v= .sn)∨(R≠[]/\∃q,b<=q/\ q<h.next/\ v= .sl q 0 R.length none 1/\ cG (h.oB.get q)=some (R.map AV.s))
def be9 {x}:deep 9 h (.ag (dq x))=some (.ag (dq x)):=nX (n:=8) (jD (n:=7) x)
def Ue {t i} (hi:i=0∨i=10) {s b} (A:bg P X GL ae 287 [eR iF 5 true (jg i),.s s] (.b b)) h:bP P X GL 180 [.ag (dq (t,i)),.s s] h (.b b) h:=by
 refine dR S (n:=9) ?_ (by rw[aL,aL,bZ,be9,oK]) h;refine bg.intro λC E=> ?_;have D:=λh=>dR S A (n:=9) (by rw[aL,aL,bZ,eu (n:=8) Eu,oK]) h;have j:jQ i=[]:=by rcases hi with rfl|rfl<;>rfl
 refine E.bS (F.f 180) (Y2 @dq.eq_1 j ?_);refine E.cN (D _) (Y0 ?_);exact⟨1,rfl⟩
def bf0 {g} (G:oy g) (hc:c<8) {s} (hs:s≠[]) {b} (hp:bg P X GL ae 287 [eR iF 5 true (jg 10),.s s] (.b b)):∃b',∀h,bP P X GL 182 [aI g,.i .u64 (c),.s s] h (.b b') h:=by
 obtain⟨tc,J,hz⟩:=re (g:=g) G.tcl (i:=10) ω;have ft:=(G.tc tc (dI J)).f;refine⟨mf tc c&&b,λh=> ?_⟩;refine dR S (n:=9) ?_ (by rw[aL,aL,aL,bZ,kq (n:=6),dH,oK]) h;refine bg.intro λC E=> ?_;have Y:=λh=>E3 (GL:=GL) S F ft hc h;have Z:=λh=>Ue (t:=tc) S F (.inr rfl) hp h;simp only[eT,eD] at Y;simp only[dq] at Z;have D:g.tc.zipIdx.length=11:=by rw[ny,G.tcl]
 generalize R:(mf tc c&&b)=w;refine E.bS (F.f 182) (Y1 @aI.eq_1 ?_);refine fj E.ok 11 (λi τ h=>1<=h.next/\ cG (h.oB.get 0)=some (bx g)/\ τ.get 1=some (.i .u64 (c:Int))/\ τ.get 2=some (.s s)/\ τ.get 3=some (.p 0 0)/\ τ.get 7=some (ι (i:Int))/\ (i=11 ->w=false)) ?_ ?_ _ _ ⟨bB _,?_,?_,?_,?_,?_,λe=>by omega⟩;rintro i τ ⟨n1,v1,ob⟩ hi ⟨W,c0,t1,t2,t3,t7,hb⟩ V;have b0:1<=n1:=W;have z0:(0=n1)=False:=cE;have O:=c0;dsimp only at c0;simp only[bx] at c0;obtain⟨H,N,U⟩:=re (g:=g) G.tcl hi;have e7:sub (g.tc.zipIdx.flatMap dq) (i*7) 7=some (dq (H,i)):=cW qx U (j:=0) (n:=7) ω;simp only[dq] at e7;rcases iO i 10 with q|q;have tq:(((l7 i:Nat):Int)=2)=False:=dQ (by unfold l7;split<;>omega);refine nS c0 t1 t3 t7 @bG D e7 tq @dw @bK ?_;refine V _ _ ⟨?_,?_,?_,?_,?_,?_,λe=>by omega⟩;show 1<=n1+1;omega;exact wW z0 O;exact U1 t1;exact U1 t2;exact U1 t3;exact U0;obtain rfl:i=10:=by omega
 obtain rfl:H=tc:=gC (N.symm.trans J);have se:(s=[])=False:=dQ hs;refine Y6 c0 t1 t3 t7 D e7 ?_;refine E.cN (Y _) ?_;cases A:mf H c;refine Y2 t2 t7 ?_;refine V _ _ ⟨?_,?_,?_,?_,?_,?_,λe=>by rw[←R,A];rfl⟩;show 1<=n1+1;omega;exact wW z0 O;exact U1 t1;exact U1 t2;exact U1 t3;exact U0;refine Y4 t2 t7 se @bK ?_;refine E.cN (Z _) ?_;cases I:b;refine Y1 t7 ?_;refine V _ _ ⟨?_,?_,?_,?_,?_,?_,λe=>by rw[←R,A,I];rfl⟩;show 1<=n1+1;omega;exact wW z0 O;exact U1 t1;exact U1 t2;exact U1 t3;exact U0;refine Y1 t7 ?_;exact⟨1,by rw[←R,A,I];rfl⟩;rintro τ ⟨n1,v1,ob⟩ ⟨W,c0,t1,t2,t3,t7,hb⟩;dsimp only at c0;simp only[bx] at c0;refine Y4 c0 t3 t7 D ?_;exact⟨1,by rw[hb rfl];rfl⟩;all_goals exact U0
def bf1 {r} (h:r<3):sub [AV.s [37],AV.s [37,97],AV.s [37,98,32,99]] r 1=some [AV.s (tY r)]:=by
 rcases(show r=0∨r=1∨r=2 by omega) with rfl|rfl|rfl<;>rfl
def bf2 r:tY r≠[]:=by
 unfold tY;split<;>simp
def Uf (M:tZ P X GL ae) {g} (G:oy g) (hc:c<8) {a} (hB:oV B kk) (ha:a<=kk) (ho:cG (h.oB.get o)=some (gW g c B kk L a ov)) (lo:o<h.next) k
 (hk:∀rv R W h',a<=W ->W<=kk ->h.next<=h'.next ->cG (h'.oB.get o)=some (gW g c B kk L W ov) ->(∀j,j<h.next ->j≠o ->h'.oB.get j=h.oB.get j) ->PG R ->E7 h.next h' rv R ->k rv h'):du C 96 [.p o 0] h k:=by
 obtain⟨n0,v0,ob0⟩:=h;dsimp only at ho lo;have bq:=iW (g:=g);simp only[bx] at bq;refine E.bS (F.f 96) (Y0 ?_);refine E.run (KA (n:=12) E F hB ha ω ho _ λr a1 h1 hr b5 b6 dS b2 dD=> ?_);obtain⟨n1,v1,aQ⟩:=h1;obtain rfl:n1=n0:=dS;dsimp only at b2 dD;refine Y0 ?_;refine fj E.ok (r-9) (λi τ h=>n1<=h.next/\ (∀j,j<n1 ->j≠o ->h.oB.get j=ob0.get j)/\ τ.get 0=some (.p o 0)/\ τ.get 4=some (ι ((r-i:Nat):Int))/\ (∃W,a<=W/\ W<=kk/\ cG (h.oB.get o)=some (gW g c B kk L W ov))/\∃(rv:AV) (R:List (List Nat)),τ.get 3=some rv/\ E7 n1 h rv R/\ R.length<=i/\∀x∈R,∃k,k<3/\ x=tY k) ?_ ?_ _ _ ⟨bB _,λj _ V=>dD j V,?_,?_,⟨a1,b5,b6,b2⟩,.sn,[],?_,.inl ⟨rfl,rfl⟩,bB _,λx hx=>by cases hx⟩;rintro i τ ⟨A,v2,aJ⟩ hi ⟨b0,eG,t0,t4,⟨a2,b1,Z,N⟩,rv,R,t3,hR,b4,J⟩ ih;dsimp only at b0 eG N;have on:(o=A)=False:=cE;refine Y3 t0 t3 t4 ?_;refine E.run (KA (n:=3) (a:=a2) (g:=g) (L:=L) (ov:=ov) (c:=c) E F hB Z ω (wW on N) _ λr2 a3 h3 U c6 Y b8 O I=> ?_);obtain⟨n3,v3,cC⟩:=h3;obtain rfl:n3=A+1:=b8;dsimp only at O I;have cn:cG (cC.get A)=some [.s [37],.s [37,97],.s [37,98,32,99]]:=by rw[I A ω];exact U0
 have es:=bf1 U;obtain⟨bm,b7⟩:=M.rm r2 U;obtain⟨b,hb⟩:=bf0 S F G hc (bf2 r2) b7;simp only[aI,bx] at hb;have H:=O;simp only[gW,Ej,bx,gw,gx] at O;refine Y4 t0 cn es O ?_;refine E.cN (hb _) ?_;have sm:aY .sub (ι ((r-i:Nat):Int)) (ι 1)=some (ι ((r-(i+1):Nat):Int)):=by
  rw[show r-(i+1)=r-i-1 by omega];exact qV (a:=r-i) (b:=1) ω
 have fr:∀j,j<A ->j≠o ->cC.get j=aJ.get j:=λj V D=>by
  have e:=I j D;rw[e];exact U0
 cases b;refine Y2 t4 sm ?_;refine ih _ _ ⟨by show n1<=A+1;omega,λj V D=>(fr j ω D).trans (eG j V D),?_,?_,⟨a3,by omega,Y,H⟩,rv,R,?_,?_,by omega,J⟩;exact U1 t0;exact U0;exact U1 t3;rcases hR with h|⟨h1,q,h2,h3,h4,h5⟩;exact .inl h;exact .inr ⟨h1,q,h2,ui h3,h4,by rw[fr q h3 ω];exact h5⟩;have z1:(o=A+1)=False:=cE;have z2:(o=A+1+1)=False:=cE;rcases hR with ⟨rfl,rfl⟩|⟨h1,q,h2,h3,rfl,h5⟩;refine Y4 t3 t4 sm @iP ?_;refine ih _ _ ⟨by show n1<=A+1+1+1;omega,λj V D=> ?_,?_,?_,⟨a3,by omega,Y,?_⟩,.sl (A+1+1) 0 1 none 1,[tY r2],?_,.inr ⟨by simp,A+1+1,by omega,by show A+1+1<A+1+1+1;omega,rfl,?_⟩,by simp,bS4 (R:=[]) (λx hx=>by cases hx) U⟩;have z1:(j=A+1)=False:=cE;have z2:(j=A+1+1)=False:=cE;exact wW (ec z1 z2) ((fr j ω D).trans (eG j V D));exact U1 t0;exact U0;exact wW (ec z1 z2) H;exact U0;exact U0;have b3:q<A:=h3;have c5:cG (cC.get q)=some (R.map AV.s):=by rw[fr q b3 ω];exact h5
 have z3:(o=q)=False:=cE;have ll:(R.map AV.s).length=R.length*1:=by rw[kU,vH]
 refine Y6 t3 t4 sm @iP c5 ll ?_;refine ih _ _ ⟨by show n1<=A+1+1+1;omega,λj V D=> ?_,?_,?_,⟨a3,by omega,Y,?_⟩,.sl (A+1+1) 0 (R.length+1) none 1,R++[tY r2],?_,.inr ⟨by simp,A+1+1,by omega,by show A+1+1<A+1+1+1;omega,by rw[dy];rfl,?_⟩,by rw[dy,lF];omega,bS4 J U⟩;have z1:(j=A+1)=False:=cE;have z2:(j=A+1+1)=False:=cE;have z3:(j=q)=False:=cE;exact wW (ec z1 (ec z2 z3)) ((fr j ω D).trans (eG j V D));exact U1 t0;exact U0;exact wW (ec z1 (ec z2 z3)) H;exact U0;rw[kE];exact U0;rintro τ ⟨A,v2,aJ⟩ ⟨b0,eG,t0,t4,⟨a2,b1,Z,N⟩,rv,R,t3,hR,b4,J⟩;refine Y3 t0 t3 t4 ?_;exact hk rv R a2 _ b1 Z b0 N eG ⟨by omega,J⟩ hR;all_goals exact U0
def E8:aw:=eg (sE 95 245)
def E9:aw:=eg (sE 95 31)
abbrev aL2:au:=(λx y=>eg (bE (pg 95) λo=>pt 245 x (pt 31 y o))) E8 E9
def KC:∀R:List (List Nat),R.flatMap jT=R.map AV.s
 |[]=>rfl
 |a::R=>by rw[lE,KC R];rfl
def KD:∀a b:List AV,wV (a++b)=(wV a&&wV b)
 |[],b=>rfl
 |x::a,b=>by rw[gw,Ei,Ei,KD a b,Bool.and_assoc]
def jU (o b:Nat) (h:AH) (ov:AV) (N:List Tn):Prop:=(N=[]/\ ov= .sn)∨∃oo cs tt,ov= .sl oo 0 N.length none 4/\ N≠[]/\ o<oo/\ oo<b/\ cG (h.oB.get oo)=some cs/\ wV cs=true/\ cs.length=N.length*4/\
 bJ 8 tt cs=some (N.flatMap fG)/\∀j v l,tt.oB.get j=some (.cells v l) ->j<b/\ o<j/\ j≠oo/\ h.oB.get j=some (.cells v l)
def jU.mono {b b' h' N} (H:jU o b h ov N) (hb:b<=b') (old:∀j,j<b ->j≠o ->h'.oB.get j=h.oB.get j):jU o b' h' ov N:=by
 rcases H with H|⟨oo,cs,tt,e1,e2,e3,e4,e5,e6,e7,e8,e9⟩;exact .inl H;refine .inr ⟨oo,cs,tt,e1,e2,e3,by omega,by rw[old oo e4 ω];exact e5,e6,e7,e8,λj v l A=> ?_⟩;obtain⟨a,b,c,d⟩:=e9 j v l A;exact⟨by omega,b,c,by rw[old j a ω];exact d⟩
def Fa {tt b rv R} (H:E7 b h rv R) {x y s cs N} (hd:bJ 8 tt cs=some (N.flatMap fG)) (sub:∀j v l,tt.oB.get j=some (.cells v l) ->h.oB.get j=some (.cells v l)):
 ∃A:AH,bJ 8 A (cs++[ι x,ι y,.s s,rv])=some ((N++[Tn.mk x y s R]).flatMap fG)/\∀j v l,A.oB.get j=some (.cells v l) ->tt.oB.get j=some (.cells v l)∨(∃n,rv= .sl j 0 n none 1/\ h.oB.get j=some (.cells v l)):=by
 have fin:∀A:AH,bJ 8 A cs=some (N.flatMap fG) ->deep 8 A rv=some (eR jT 1 true R) ->bJ 8 A (cs++[ι x,ι y,.s s,rv])=some ((N++[Tn.mk x y s R]).flatMap fG):=λA h1 h2=>by
  rw[Bd];refine Kp h1 ?_;rw[aL,aL,aL,aL,bZ,dH,dH,oK,h2];rfl
 rcases H with ⟨rfl,rfl⟩|⟨e1,q,e2,e3,rfl,e4⟩;exact⟨tt,fin tt hd rfl,λj v l D=> .inl D⟩;obtain⟨v0,e5⟩:=EW e4;refine⟨⟨tt.next,tt.ver,tt.oB.put q (.cells v0 (R.map AV.s))⟩,fin _ ((BG (h1:=tt) (λj v l D=> ?_) 8).2 _ _ hd) ?_,λj v l D=> ?_⟩;refine⟨v,?_⟩;show(tt.oB.put q _).get j=_;rw[T.get_put];split;rename_i e;subst e;rw[←e5];exact sub _ _ _ D;exact D;rw[gA (n:=7) (l:=R.map AV.s) (l':=R.flatMap jT) (by show cG ((tt.oB.put q _).get q)=_;rw[T.get_put,aF rfl];rfl) (by rw[KC];exact ad5 R),BL e1];have G:(tt.oB.put q (.cells v0 (R.map AV.s))).get j=some (.cells v l):=D;rw[T.get_put] at G;split at G;rename_i e;subst e;exact .inr ⟨_,rfl,by rw[e5];exact G⟩;exact .inl G
end
end AM
