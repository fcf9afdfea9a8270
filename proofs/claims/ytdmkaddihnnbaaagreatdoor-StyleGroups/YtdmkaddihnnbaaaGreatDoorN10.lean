import Derived.Test.YtdmkaddihnnbaaaGreatDoorN9
set_option linter.all false
set_option maxHeartbeats 1000000
namespace AM
open Go
noncomputable section
def kg (h:AH):AV ->ay
 | .sl _ _ n _ _=> .v (ι (n:Int)) h
 | .ds _ _ n _=> .v (ι (n:Int)) h
 | .sn=> .v (ι 0) h
 |_=> .bad
def aJ2 {ev h x}:step ev h (.len .slice x)=kg h (ev x):=by rw[yd];cases ev x<;>rfl
def aJ3 {h o j n c e}:kg h (.sl o j n c e)= .v (ι (n)) h:=rfl
def aJ4 {h l j n e}:kg h (.ds l j n e)= .v (ι (n)) h:=rfl
def aJ5 {h}:kg h .sn= .v (ι 0) h:=rfl
def nU (h:AH) (j k:Nat):AV ->ay
 | .sl o off n _ esz=>if esz=j/\ k<n then .v (.p o (off+k*esz)) h else .bad
 | .ds l off n esz=>if esz=j/\ k<n then .v (.dp l (off+k*esz)) h else .bad
 |_=> .bad
def Rw (h:AH) (j:Nat) (x:AV):Option Nat ->ay
 |some k=>nU h j k x
 |none=> .bad
def aJ6 {ev h j x i}:step ev h (.iadr j x i)=Rw h j (ev x) (nA ev i):=by
 rw[Ob];rcases nA ev i with _|k;rfl;cases ev x<;>rfl
def aJ7 {h j x k}:Rw h j x (some k)=nU h j k x:=rfl
theorem Rx {h u k o j n c esz}:nU h u k (.sl o j n c esz)=if esz=u/\ k<n then .v (.p o (j+k*esz)) h else .bad:=rfl
def yR {h u k l j n esz}:nU h u k (.ds l j n esz)=if esz=u/\ k<n then .v (.dp l (j+k*esz)) h else .bad:=rfl
section
variable {α:Type} {enc:α ->List AV} {k:Nat}
def eR (enc:α ->List AV) (k:Nat) (nl:Bool) (L:List α):AV:=match L,nl with
 |[],true=> .sn
 |L,_=> .ds (L.flatMap enc) 0 L.length k
def yT {nl a L}:eR enc k nl (a::L)= .ds ((a::L).flatMap enc) 0 (a::L).length k:=rfl
def qv:eR enc k true []= .sn:=rfl
def IZ:eR enc k false []= .ds [] 0 0 k:=rfl
def dw {h nl L}:kg h (eR enc k nl L)= .v (ι (L.length:Int)) h:=by
 rcases L with _|⟨a,L⟩;cases nl<;>rfl;rfl
def bG {h nl L i} (hi:i<L.length):nU h k i (eR enc k nl L)= .v (.dp (L.flatMap enc) (i*k)) h:=by
 rcases L with _|⟨a,L⟩;simp at hi;rw[yT,yR,aF ⟨rfl,hi⟩,gB]
def uZ {nl L}:ew (eR enc k nl L)=true:=by
 rcases L with _|⟨a,L⟩;cases nl<;>rfl;rfl
def Ry {nl L}:cellsO (eR enc k nl L)=some [eR enc k nl L]:=by
 rcases L with _|⟨a,L⟩;cases nl<;>rfl;rfl
def aJ8 {nl L}:cellsOf (eR enc k nl L)=[eR enc k nl L]:=by
 rcases L with _|⟨a,L⟩;cases nl<;>rfl;rfl
def kh (j:∀a,(enc a).length=k):∀L:List α,(L.flatMap enc).length=L.length*k
 |[]=>by simp
 |a::L=>by rw[lE,dy,j,kh j L,gJ];rw[vE];omega
def Rz (j:∀a,(enc a).length=k):∀{L:List α} {i a},L[i]? =some a ->(L.flatMap enc).drop (i*k)=enc a++(L.drop (i+1)).flatMap enc
 |[],i,a,h=>by simp at h
 |b::L,0,a,h=>by simp at h;subst h;simp
 |b::L,i+1,a,h=>by
  simp at h;rw[lE,show(i+1)*k=(enc b).length+i*k by rw[j,vE];omega,←ud,List.drop_left,Rz j h];rfl
def cW (u:∀a,(enc a).length=k) {L:List α} {i a} (h:L[i]? =some a) {j n} (B:j+n<=k):sub (L.flatMap enc) (i*k+j) n=some (((enc a).drop j).take n):=by
 have A:=(eC.1 h).1;have h1:(i+1)*k<=L.length*k:=ni k A;rw[vE] at h1;rw[nH,aF (by rw[kh u];omega),←ud,Rz u h];congr 1;rw[Lm (by rw[u];omega),Ln (by rw[sW,u];omega)]
def qZ {n h} (hd:∀a,bJ n h (enc a)=some (enc a)):∀L:List α,bJ n h (L.flatMap enc)=some (L.flatMap enc)
 |[]=>rfl
 |a::L=>by
  have app:∀x y u A:List AV,bJ n h x=some u ->bJ n h y=some A ->bJ n h (x++y)=some (u++A):=by
   intro x;induction x with
   |nil=>intro y u A j B;rw[bZ] at j;cases j;simpa using B
   |cons b x D=>
    intro y u A j B;rw[aL] at j;split at j;rename_i b' l' G H;cases j;rw[gw,aL,G,D _ _ _ H B];rfl;cases j
  rw[lE];exact app _ _ _ _ (hd a) (qZ hd L)
def dA {n h} (hd:∀a,bJ n h (enc a)=some (enc a)) {nl L}:deep (n+1) h (eR enc k nl L)=some (eR enc k nl L):=by
 have e:deep (n+1) h (.ds (L.flatMap enc) 0 L.length k)=(match bJ n h (L.flatMap enc) with|some l=>some (.ds l 0 L.length k)|none=>none):=rfl;rcases L with _|⟨a,L⟩;cases nl<;>rfl;rw[yT,e,qZ hd]
end
def syL:=ec @dw<|ec @uZ<|ec @Ry @aJ8
def syS:=ec @Ny<|ec @Nz<|ec @NC<|ec @ND<|ec @NE<|ec @NF<|ec @NG<|ec @NH<|ec @NI<|
 ec @NJ<|ec @G1<|ec @NK<|ec @NL<|ec @NM<|ec @NW<|ec @NX<|ec @NY<|ec @NZ<|ec @Oa<|
 ec @aJ6<|ec @aJ7<|ec @Rx<|ec @yR<|ec @Oc<|ec @Oe<|ec @Of<|ec @Og<|ec @aJ2<|ec @aJ3<|ec @aJ4<|ec @aJ5<|ec @Oh<|
 ec @NN<|ec @wy<|ec @wC<|ec @NO<|ec @NP<|ec @NQ<|ec @NR<|ec @NS<|ec @pY<|
 ec @NV<|ec @uO<|ec @uP<|ec @tC<|ec @Oj<|ec @Ok<|ec @Ol<|ec @Oq<|ec @Om<|ec @On<|ec @Oo<|ec @G3<|ec @G4<|ec @G5<|ec @Aw<|
 ec @qR<|ec @Ei<|ec @bu<| @kZ
attribute [go_sem] syS syL
end
end AM
namespace AM
open Dg Go
noncomputable section
def bO4 {B}:tp B=eR gH 3 true B:=by
 rcases B with _|⟨b,B⟩;rfl;show AV.ds _ _ _ _=AV.ds _ _ _ _;rw[show dK (b::B)=(b::B).flatMap gH by rw[Lo];rfl]
def aJ9 {h B}:kg h (tp B)= .v (ι (B.length:Int)) h:=by rw[bO4,dw]
def I4 {h B i} (hi:i<B.length):nU h 3 i (tp B)= .v (.dp (dK B) (i*3)) h:=by
 rw[bO4,bG hi,Lo];rfl
variable {P:Program} {X:aR} {GL:T (List AV)} {ae:T au}
attribute [go_sem] aJ9
variable (S:aT P X GL ae) {C:aK Prop} (E:Sem P X GL ae C)
def aK0 {A B h} (W:A.length=B.length) (V:A.length+1<=1000000) S₀ K
 (ne:∀τ,A≠B ->τ.get 4=some (.b false) ->gV C .ret S₀ K τ h) (eq:∀τ,A=B ->gV C (.exit 0) S₀ K τ h):
 ∀d i,i+d=A.length ->(∀j:Nat,j<i ->A[j]? =B[j]?) ->∀τ:T AV,τ.get 0=some (tp A) ->τ.get 1=some (tp B) ->τ.get 12=some (ι (A.length:Int)) ->τ.get 13=some (ι (i)) ->df C (.loop QH) S₀ K τ h:=by
 intro d;obtain⟨n1,ver,ob⟩:=h;induction d with
 |zero=>
  intro i hi u τ t0 t1 D G;rw[qj E.ok];refine Y4 @QH.eq_1 @Yo.eq_1 D G ?_;refine eq _ (xz λj=> ?_);by_cases O:j<i;exact u j O;rw[rI ω,rI ω]
 |succ d U=>
  intro i hi u τ t0 t1 D G;have R:i<A.length:=by omega
  have hb:i<B.length:=by omega
  have H:A[i]? =some A[i]:=oc R;have I:B[i]? =some B[i]:=oc hb;have L:sub (dK A) (i*3) 3=some [ι (A[i].1:Int),ι (A[i].2.1:Int),ι (A[i].2.2:Int)]:=by have:=nQ H 0 3 ω;simpa[gH] using this
  have N:sub (dK B) (i*3) 3=some [ι (B[i].1:Int),ι (B[i].2.1:Int),ι (B[i].2.2:Int)]:=by have:=nQ I 0 3 ω;simpa[gH] using this
  rw[qj E.ok];by_cases e:A[i]=B[i]
  ·refine sB @QH.eq_1 @Yo.eq_1 @bB7.eq_1 @bB8.eq_1 @bB9.eq_1 @bC0.eq_1 t0 t1 D G @I4 L N @Ed e ?_;refine U (i+1) ω (λj O=> ?_) _ ?_ ?_ ?_ ?_;by_cases J:j<i;exact u j J;obtain rfl:j=i:=by omega
   rw[H,I,e];all_goals exact U3 t0 t1 D
  refine sB @QH.eq_1 @Yo.eq_1 @bB7.eq_1 @bB8.eq_1 @bB9.eq_1 @bC0.eq_1 t0 t1 D G @I4 L N @Ed e ?_;refine ne _ (λh=>e (by subst h;rfl)) ?_;exact U0
variable (F:eV ae)
def aK1 {A B} (J:A.length<=4096) (hb:B.length<=4096) {h} k (H:k (.b (decide (A=B))) h):du C 268 [tp A,tp B] h k:=by
 rw[E.cB F.f268];by_cases D:A.length=B.length
 ·have u:((A.length:Int)=(B.length:Int))=True:=cJ;refine Y6 @PQ.eq_1 @bB4.eq_1 @bB5.eq_1 @bB6.eq_1 @bC1.eq_1 u ?_;refine aK0 E (A:=A) (B:=B) D ω _ _ ?_ ?_ A.length 0 ω (λj L=>by omega) _ ?_ ?_ ?_ ?_;intro τ I t4;refine Y1 t4 ?_;simpa[I] using H;intro τ G;refine Y0 ?_;simpa[G] using H;all_goals exact U1 D
 have u:((A.length:Int)=(B.length:Int))=False:=av;have I:A≠B:=λh=>D (by rw[h]);refine Y6 @PQ.eq_1 @bB4.eq_1 @bB5.eq_1 @bB6.eq_1 @bC1.eq_1 u ?_;simpa[I] using H
def aK2 {a b} (u:a.1.length<=4096) (hb:b.1.length<=4096):bg P X GL ae 158 [eD a,eD b] (.b (decide (a=b))):=by
 obtain⟨A,x⟩:=a;obtain⟨B,y⟩:=b;refine bg.intro λC E=> ?_;rw[E.cB F.f158];dsimp only at u hb;by_cases e:x=y;have j:((x:Int)=(y:Int))=True:=cJ;refine Y5 @QG.eq_1 @bB2.eq_1 @bB3.eq_1 @eD.eq_1 j ?_;refine E.run (aK1 E F u hb _ ?_);refine Y0 ?_;exact⟨1,by simp[deep,e]⟩;have j:((x:Int)=(y:Int))=False:=av;refine Y5 @QG.eq_1 @bB2.eq_1 @bB3.eq_1 @eD.eq_1 j ?_;exact⟨1,by simp[deep,e]⟩
def RC {s t} (ds:jt P X GL s) (j:jt P X GL t) h:bP P X GL 158 [eT s,eT t] h (.b (decide (s=t))) h:=by
 have:=dR S (aK2 F (a:=aE s) (b:=aE t) (by have:=ds.len;omega) (by have:=j.len;omega)) (n:=9) (by simp only[aL,qU,bZ]) h;have e:decide (aE s=aE t)=decide (s=t):=by
  rw[decide_eq_decide];constructor;intro h;have h1:=ds.tr;rw[h,j.tr] at h1;exact h1.symm;intro h;rw[h]
 rw[e] at this;exact this
end
end AM
