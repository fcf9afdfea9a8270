import Derived.Test.YtdicmpmcdjdneaaGreatDoorN9
set_option linter.all false
set_option maxHeartbeats 1000000
namespace AM
open Go
noncomputable section
def kg (h:AH):AV ->da
 | .sl _ _ n _ _=> .v (ι (n:Int)) h
 | .ds _ _ n _=> .v (ι (n:Int)) h
 | .sn=> .v (ι 0) h
 |_=> .bad
def aJ2 {ev h x}:step ev h (.len .slice x)=kg h (ev x):=by rw[yd];cases ev x<;>rfl
def aJ3 {h o j n c e}:kg h (.sl o j n c e)= .v (ι (n)) h:=rfl
def aJ4 {h l j n e}:kg h (.ds l j n e)= .v (ι (n)) h:=rfl
def aJ5 {h}:kg h .sn= .v (ι 0) h:=rfl
def nU (h:AH) (j k:Nat):AV ->da
 | .sl o off n _ esz=>if esz=j/\ k<n then .v (.p o (off+k*esz)) h else .bad
 | .ds l off n esz=>if esz=j/\ k<n then .v (.dp l (off+k*esz)) h else .bad
 |_=> .bad
def Rw (h:AH) (j:Nat) (x:AV):Option Nat ->da
 |some k=>nU h j k x
 |none=> .bad
def aJ6 {ev h j x i}:step ev h (.iadr j x i)=Rw h j (ev x) (nA ev i):=by
 rw[Ob];rcases nA ev i with _|k;rfl;cases ev x<;>rfl
def aJ7 {h j x k}:Rw h j x (some k)=nU h j k x:=rfl
theorem Rx {h A k o j n c esz}:nU h A k (.sl o j n c esz)=if esz=A/\ k<n then .v (.p o (j+k*esz)) h else .bad:=rfl
def yR {h A k l j n esz}:nU h A k (.ds l j n esz)=if esz=A/\ k<n then .v (.dp l (j+k*esz)) h else .bad:=rfl
section
variable {α:Type} {enc:α ->List AV} {k:Nat}
def eR (enc:α ->List AV) (k:Nat) (nl:Bool) (L:List α):AV:=match L,nl with
 |[],true=> .sn
 |L,_=> .ds (L.flatMap enc) 0 L.length k
def yT {nl a L}:eR enc k nl (a::L)= .ds ((a::L).flatMap enc) 0 (a::L).length k:=rfl
def qv:eR enc k true []= .sn:=rfl
def IZ:eR enc k false []= .ds [] 0 0 k:=rfl
def dw {h nl L}:kg h (eR enc k nl L)= .v (ι (L.length:Int)) h:=by
 rcases L with _|⟨a,L⟩;cases nl<;>rfl;rfl
def bG {h nl L i} (hi:i<L.length):nU h k i (eR enc k nl L)= .v (.dp (L.flatMap enc) (i*k)) h:=by
 rcases L with _|⟨a,L⟩;simp at hi;rw[yT,yR,aF ⟨rfl,hi⟩,gB]
def uZ {nl L}:ew (eR enc k nl L)=true:=by
 rcases L with _|⟨a,L⟩;cases nl<;>rfl;rfl
def Ry {nl L}:cellsO (eR enc k nl L)=some [eR enc k nl L]:=by
 rcases L with _|⟨a,L⟩;cases nl<;>rfl;rfl
def aJ8 {nl L}:cellsOf (eR enc k nl L)=[eR enc k nl L]:=by
 rcases L with _|⟨a,L⟩;cases nl<;>rfl;rfl
def kh (j:∀a,(enc a).length=k):∀L:List α,(L.flatMap enc).length=L.length*k
 |[]=>by simp
 |a::L=>by rw[lE,dy,j,kh j L,gJ];rw[vE];omega
def Rz (j:∀a,(enc a).length=k):∀{L:List α} {i a},L[i]? =some a ->(L.flatMap enc).drop (i*k)=enc a++(L.drop (i+1)).flatMap enc
 |[],i,a,h=>by simp at h
 |b::L,0,a,h=>by simp at h;subst h;simp
 |b::L,i+1,a,h=>by
  simp at h;rw[lE,show(i+1)*k=(enc b).length+i*k by rw[j,vE];omega,←ud,List.drop_left,Rz j h];rfl
def cW (A:∀a,(enc a).length=k) {L:List α} {i a} (h:L[i]? =some a) {j n} (D:j+n<=k):sub (L.flatMap enc) (i*k+j) n=some (((enc a).drop j).take n):=by
 have B:=(eC.1 h).1;have h1:(i+1)*k<=L.length*k:=ni k B;rw[vE] at h1;rw[nH,aF (by rw[kh A];omega),←ud,Rz A h];congr 1;rw[Lm (by rw[A];omega),Ln (by rw[sU,A];omega)]
def qZ {n h} (hd:∀a,bJ n h (enc a)=some (enc a)):∀L:List α,bJ n h (L.flatMap enc)=some (L.flatMap enc)
 |[]=>rfl
 |a::L=>by
  have app:∀x y A B:List AV,bJ n h x=some A ->bJ n h y=some B ->bJ n h (x++y)=some (A++B):=by
   intro x;induction x with
   |nil=>intro y A B j D;rw[bZ] at j;cases j;simpa using D
   |cons b x G=>
    intro y A B j D;rw[aL] at j;split at j;rename_i b' l' H I;cases j;rw[gw,aL,H,G _ _ _ I D];rfl;cases j
  rw[lE];exact app _ _ _ _ (hd a) (qZ hd L)
def eu {n h} (hd:∀a,bJ n h (enc a)=some (enc a)) {nl L}:deep (n+1) h (eR enc k nl L)=some (eR enc k nl L):=by
 have e:deep (n+1) h (.ds (L.flatMap enc) 0 L.length k)=(match bJ n h (L.flatMap enc) with|some l=>some (.ds l 0 L.length k)|none=>none):=rfl;rcases L with _|⟨a,L⟩;cases nl<;>rfl;rw[yT,e,qZ hd]
end
def syL:=ec @dw<|ec @uZ<|ec @Ry @aJ8
def syS:=ec @Ny<|ec @Nz<|ec @NC<|ec @ND<|ec @NE<|ec @NF<|ec @NG<|ec @NH<|ec @NI<|
 ec @NJ<|ec @G1<|ec @NK<|ec @NL<|ec @NM<|ec @NW<|ec @NX<|ec @NY<|ec @NZ<|ec @Oa<|
 ec @aJ6<|ec @aJ7<|ec @Rx<|ec @yR<|ec @Oc<|ec @Oe<|ec @Of<|ec @Og<|ec @aJ2<|ec @aJ3<|ec @aJ4<|ec @aJ5<|ec @Oh<|
 ec @NN<|ec @DG<|ec @wC<|ec @NO<|ec @NP<|ec @NQ<|ec @NR<|ec @NS<|ec @pY<|
 ec @NV<|ec @uO<|ec @uP<|ec @tC<|ec @Oj<|ec @Ok<|ec @Ol<|ec @Oq<|ec @Om<|ec @On<|ec @Oo<|ec @G3<|ec @G4<|ec @G5<|ec @Aw<|
 ec @qR<|ec @Ei<|ec @bu<| @kZ
attribute [go_sem] syS syL
end
end AM
namespace AM
open Dg Go
noncomputable section
def bO4 {B}:tp B=eR gH 3 true B:=by
 rcases B with _|⟨b,B⟩;rfl;show AV.ds _ _ _ _=AV.ds _ _ _ _;rw[show dK (b::B)=(b::B).flatMap gH by rw[Lo];rfl]
def aJ9 {h B}:kg h (tp B)= .v (ι (B.length:Int)) h:=by rw[bO4,dw]
def I4 {h B i} (hi:i<B.length):nU h 3 i (tp B)= .v (.dp (dK B) (i*3)) h:=by
 rw[bO4,bG hi,Lo];rfl
attribute [go_sem] aJ9
variable {P:Program} {X:aR} {GL:T (List AV)} {ae:T au}
variable (S:aT P X GL ae) {C:aK Prop} (E:Sem P X GL ae C)
def aK0 {A B h} (Y:A.length=B.length) (W:A.length+1<=1000000) S₀ K
 (ne:∀τ,A≠B ->τ.get 4=some (.b false) ->gV C .ret S₀ K τ h) (eq:∀τ,A=B ->gV C (.exit 0) S₀ K τ h):
 ∀d i,i+d=A.length ->(∀j:Nat,j<i ->A[j]? =B[j]?) ->∀τ:T AV,τ.get 0=some (tp A) ->τ.get 1=some (tp B) ->τ.get 12=some (ι (A.length:Int)) ->τ.get 13=some (ι (i)) ->df C (.loop Ja) S₀ K τ h:=by
 intro d;obtain⟨n1,ver,ob⟩:=h;induction d with
 |zero=>
  intro i hi D τ t0 t1 G H;rw[qj E.ok];refine Y4 @Ja.eq_1 @Pu.eq_1 G H ?_;refine eq _ (xz λj=> ?_);by_cases R:j<i;exact D j R;rw[rI ω,rI ω]
 |succ d V=>
  intro i hi D τ t0 t1 G H;have U:i<A.length:=by omega
  have hb:i<B.length:=by omega
  have I:A[i]? =some A[i]:=ef U;have J:B[i]? =some B[i]:=ef hb;have N:sub (dK A) (i*3) 3=some [ι (A[i].1:Int),ι (A[i].2.1:Int),ι (A[i].2.2:Int)]:=by have:=nQ I 0 3 ω;simpa[gH] using this
  have O:sub (dK B) (i*3) 3=some [ι (B[i].1:Int),ι (B[i].2.1:Int),ι (B[i].2.2:Int)]:=by have:=nQ J 0 3 ω;simpa[gH] using this
  rw[qj E.ok];by_cases e:A[i]=B[i]
  ·refine sB @Ja.eq_1 @Pu.eq_1 @Q3.eq_1 @Q5.eq_1 @Rg.eq_1 @Rl.eq_1 t0 t1 G H @I4 N O @Ed e ?_;refine V (i+1) ω (λj R=> ?_) _ ?_ ?_ ?_ ?_;by_cases L:j<i;exact D j L;obtain rfl:j=i:=by omega
   rw[I,J,e];all_goals exact U3 t0 t1 G
  refine sB @Ja.eq_1 @Pu.eq_1 @Q3.eq_1 @Q5.eq_1 @Rg.eq_1 @Rl.eq_1 t0 t1 G H @I4 N O @Ed e ?_;refine ne _ (λh=>e (by subst h;rfl)) ?_;exact U0
variable (F:bz8 ae)
def aK1 {A B} (L:A.length<=4096) (hb:B.length<=4096) {h} k (I:k (.b (decide (A=B))) h):du C 275 [tp A,tp B] h k:=by
 rw[E.cB (F.g 275 Q0)];by_cases G:A.length=B.length
 ·have D:((A.length:Int)=(B.length:Int))=True:=cJ;refine Y6 @Q0.eq_1 @QU.eq_1 @QW.eq_1 @Q2.eq_1 @Rm.eq_1 D ?_;refine aK0 E (A:=A) (B:=B) G ω _ _ ?_ ?_ A.length 0 ω (λj N=>by omega) _ ?_ ?_ ?_ ?_;intro τ J t4;refine Y1 t4 ?_;simpa[J] using I;intro τ H;refine Y0 ?_;simpa[H] using I;all_goals exact U1 G
 have D:((A.length:Int)=(B.length:Int))=False:=cE;have J:A≠B:=λh=>G (by rw[h]);refine Y6 @Q0.eq_1 @QU.eq_1 @QW.eq_1 @Q2.eq_1 @Rm.eq_1 D ?_;simpa[J] using I
def aK2 {a b} (D:a.1.length<=4096) (hb:b.1.length<=4096):bg P X GL ae 165 [eD a,eD b] (.b (decide (a=b))):=by
 obtain⟨A,x⟩:=a;obtain⟨B,y⟩:=b;refine bg.intro λC E=> ?_;rw[E.cB (F.g 165 pu)];dsimp only at D hb;by_cases e:x=y;have j:((x:Int)=(y:Int))=True:=cJ;refine Y5 @pu.eq_1 @QN.eq_1 @QO.eq_1 @eD.eq_1 j ?_;refine E.run (aK1 E F D hb _ ?_);refine Y0 ?_;exact⟨1,by simp[deep,e]⟩;have j:((x:Int)=(y:Int))=False:=cE;refine Y5 @pu.eq_1 @QN.eq_1 @QO.eq_1 @eD.eq_1 j ?_;exact⟨1,by simp[deep,e]⟩
def RC {s t} (ds:jt P X GL s) (j:jt P X GL t) h:bP P X GL 165 [eT s,eT t] h (.b (decide (s=t))) h:=by
 have:=dR S (aK2 F (a:=aE s) (b:=aE t) (by have:=ds.len;omega) (by have:=j.len;omega)) (n:=9) (by simp only[aL,qU,bZ]) h;have e:decide (aE s=aE t)=decide (s=t):=by
  rw[decide_eq_decide];constructor;intro h;have h1:=ds.tr;rw[h,j.tr] at h1;exact h1.symm;intro h;rw[h]
 rw[e] at this;exact this
end
end AM
