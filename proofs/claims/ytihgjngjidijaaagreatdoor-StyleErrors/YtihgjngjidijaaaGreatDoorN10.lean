import Derived.Test.YtihgjngjidijaaaGreatDoorN9
set_option linter.all false
set_option maxHeartbeats 1000000
namespace AM
open Go
noncomputable section
def kg (h:AH):AV ->ay
 | .sl _ _ n _ _=> .v (ι (n:Int)) h
 | .ds _ _ n _=> .v (ι (n:Int)) h
 | .sn=> .v (ι 0) h
 |_=> .bad
def aJ2 {ev:MA ->AV} {h:AH} {x}:step ev h (.len .slice x)=kg h (ev x):=by rw[yd];cases ev x<;>rfl
def aJ3 {h o off n c e}:kg h (.sl o off n c e)= .v (ι (n:Int)) h:=rfl
def aJ4 {h l off n e}:kg h (.ds l off n e)= .v (ι (n:Int)) h:=rfl
def aJ5 {h}:kg h .sn= .v (ι 0) h:=rfl
def nU (h:AH) (es k:Nat):AV ->ay
 | .sl o off n _ esz=>if esz=es/\ k<n then .v (.p o (off+k*esz)) h else .bad
 | .ds l off n esz=>if esz=es/\ k<n then .v (.dp l (off+k*esz)) h else .bad
 |_=> .bad
def Rw (h:AH) (es:Nat) (x:AV):Option Nat ->ay
 |some k=>nU h es k x
 |none=> .bad
def aJ6 {ev:MA ->AV} {h:AH} {es x i}:step ev h (.iadr es x i)=Rw h es (ev x) (nA ev i):=by
 rw[Ob];cases nA ev i with
 |none=>rfl
 |some k=>cases ev x<;>rfl
def aJ7 {h es x k}:Rw h es x (some k)=nU h es k x:=rfl
def Rx {h es k o off n c esz}:nU h es k (.sl o off n c esz)=if esz=es/\ k<n then .v (.p o (off+k*esz)) h else .bad:=rfl
def yR {h es k l off n esz}:nU h es k (.ds l off n esz)=if esz=es/\ k<n then .v (.dp l (off+k*esz)) h else .bad:=rfl
section
variable {α:Type} {enc:α ->List AV} {k:Nat}
def eR (enc:α ->List AV) (k:Nat) (nl:Bool) (L:List α):AV:=match L,nl with
 |[],true=> .sn
 |L,_=> .ds (L.flatMap enc) 0 L.length k
def yT {nl a L}:eR enc k nl (a::L)= .ds ((a::L).flatMap enc) 0 (a::L).length k:=rfl
def qv:eR enc k true []= .sn:=rfl
def IZ:eR enc k false []= .ds [] 0 0 k:=rfl
def dw {h nl L}:kg h (eR enc k nl L)= .v (ι (L.length:Int)) h:=by
 cases L with
 |nil=>cases nl<;>rfl
 |cons a L=>rfl
def bG {h nl L} {i:Nat} (hi:i<L.length):nU h k i (eR enc k nl L)= .v (.dp (L.flatMap enc) (i*k)) h:=by
 cases L with
 |nil=>simp at hi
 |cons a L=>rw[yT,yR,aF ⟨rfl,hi⟩,gB]
def uZ {nl} {L:List α}:ew (eR enc k nl L)=true:=by
 cases L with
 |nil=>cases nl<;>rfl
 |cons a L=>rfl
def Ry {nl} {L:List α}:cellsO (eR enc k nl L)=some [eR enc k nl L]:=by
 cases L with
 |nil=>cases nl<;>rfl
 |cons a L=>rfl
def aJ8 {nl} {L:List α}:cellsOf (eR enc k nl L)=[eR enc k nl L]:=by
 cases L with
 |nil=>cases nl<;>rfl
 |cons a L=>rfl
def kh (hk:∀a,(enc a).length=k):∀L:List α,(L.flatMap enc).length=L.length*k
 |[]=>by simp
 |a::L=>by rw[lE,dy,hk,kh hk L,gJ];rw[vE];omega
def Rz (hk:∀a,(enc a).length=k):∀{L:List α} {i:Nat} {a:α},L[i]? =some a ->(L.flatMap enc).drop (i*k)=enc a++(L.drop (i+1)).flatMap enc
 |[],i,a,h=>by simp at h
 |b::L,0,a,h=>by simp at h;subst h;simp
 |b::L,i+1,a,h=>by
  simp at h;rw[lE,show(i+1)*k=(enc b).length+i*k by rw[hk,vE];omega,←ud,List.drop_left,Rz hk h];rfl
def cW (hk:∀a,(enc a).length=k) {L:List α} {i:Nat} {a:α} (h:L[i]? =some a) {j n:Nat} (hj:j+n<=k):sub (L.flatMap enc) (i*k+j) n=some (((enc a).drop j).take n):=by
 have hl:=(eC.1 h).1;have h1:(i+1)*k<=L.length*k:=ni k hl;rw[vE] at h1;rw[nH,aF (by rw[kh hk];omega),←ud,Rz hk h];congr 1;rw[Lm (by rw[hk];omega),Ln (by rw[sW,hk];omega)]
def qZ {n:Nat} {h:AH} (hd:∀a,bJ n h (enc a)=some (enc a)):∀L:List α,bJ n h (L.flatMap enc)=some (L.flatMap enc)
 |[]=>rfl
 |a::L=>by
  have app:∀x y x' y':List AV,bJ n h x=some x' ->bJ n h y=some y' ->bJ n h (x++y)=some (x'++y'):=by
   intro x;induction x with
   |nil=>intro y x' y' hx hy;rw[bZ] at hx;cases hx;simpa using hy
   |cons b x ih=>
    intro y x' y' hx hy;rw[aL] at hx;split at hx
    ·rename_i b' l' q1 q2;cases hx;rw[gw,aL,q1,ih _ _ _ q2 hy];rfl
    ·cases hx
  rw[lE];exact app _ _ _ _ (hd a) (qZ hd L)
def dA {n:Nat} {h:AH} (hd:∀a,bJ n h (enc a)=some (enc a)) {nl} {L:List α}:deep (n+1) h (eR enc k nl L)=some (eR enc k nl L):=by
 have e:deep (n+1) h (.ds (L.flatMap enc) 0 L.length k)=(match bJ n h (L.flatMap enc) with|some l=>some (.ds l 0 L.length k)|none=>none):=rfl;cases L with
 |nil=>cases nl<;>rfl
 |cons a L=>rw[yT,e,qZ hd]
end
def syL:=ap @dw<|ap @uZ<|ap @Ry @aJ8
def syS:=ap @Ny<|ap @Nz<|ap @NC<|ap @ND<|ap @NE<|ap @NF<|ap @NG<|ap @NH<|ap @NI<|
 ap @NJ<|ap @G1<|ap @NK<|ap @NL<|ap @NM<|ap @NW<|ap @NX<|ap @NY<|ap @NZ<|ap @Oa<|
 ap @aJ6<|ap @aJ7<|ap @Rx<|ap @yR<|ap @Oc<|ap @Od<|ap @Oe<|ap @Of<|ap @Og<|ap @aJ2<|ap @aJ3<|ap @aJ4<|ap @aJ5<|ap @Oh<|
 ap @NN<|ap @wy<|ap @wC<|ap @NO<|ap @NP<|ap @NQ<|ap @NR<|ap @NS<|ap @pY<|
 ap @NV<|ap @uO<|ap @uP<|ap @tC<|ap @Oj<|ap @Ok<|ap @Ol<|ap @Oq<|ap @Om<|ap @On<|ap @Oo<|ap @G3<|ap @G4<|ap @G5<|ap @Aw<|
 ap @qR<|ap @lT<|ap @bu<| @kZ
attribute [go_sem] syS syL
end
end AM
namespace AM
open Dg Go
noncomputable section
def RA {B:List Br}:cu B=eR gH 3 true B:=by
 cases B with
 |nil=>rfl
 |cons b B=>show AV.ds _ _ _ _=AV.ds _ _ _ _;rw[show dK (b::B)=(b::B).flatMap gH by rw[Lo];rfl]
def aJ9 {h} {B:List Br}:kg h (cu B)= .v (ι (B.length:Int)) h:=by rw[RA,dw]
def I4 {h} {B:List Br} {i:Nat} (hi:i<B.length):nU h 3 i (cu B)= .v (.dp (dK B) (i*3)) h:=by
 rw[RA,bG hi,Lo];rfl
variable {P:Program} {X:aR} {GL:T (List AV)} {ae:T au}
def RB {n:Nat} {B:List Br} {off}:nice (n+1) (.dp (dK B) off)=true:=by rw[fK,Q6]
attribute [go_sem] aJ9
variable (S:aT P X GL ae) {C:aK Prop} (E:Sem P X GL ae C)
def aK0 {A B:List Br} {h:AH} (hl:A.length=B.length) (eQ:A.length+1<=1000000) (S₀:List Fr) (K:K Prop)
 (ne:∀τ,A≠B ->τ.get 4=some (.b false) ->gV C .ret S₀ K τ h) (eq:∀τ,A=B ->gV C (.exit 0) S₀ K τ h):
 ∀(d i:Nat),i+d=A.length ->(∀j:Nat,j<i ->A[j]? =B[j]?) ->∀τ:T AV,τ.get 0=some (cu A) ->τ.get 1=some (cu B) ->τ.get 12=some (ι (A.length:Int)) ->τ.get 13=some (ι (i:Int)) ->df C (.loop Bg) S₀ K τ h:=by
 intro d;obtain⟨n1,ver,ob⟩:=h;induction d with
 |zero=>
  intro i hi hall τ t0 t1 t12 t13;have hi':((i:Int)<(A.length:Int))=False:=av;rw[qj E.ok];refine Y7 @Bg.eq_1 @DS.eq_1 t0 t1 t12 t13 hi' ?_;refine eq _ (xz λj=> ?_);by_cases hj:j<i
  ·exact hall j hj
  ·rw[rI ω,rI ω]
 |succ d ih=>
  intro i hi hall τ t0 t1 t12 t13;have hi':((i:Int)<(A.length:Int))=True:=cJ;have ha:i<A.length:=by omega
  have hb:i<B.length:=by omega
  have hai:A[i]? =some A[i]:=cE ha;have hbi:B[i]? =some B[i]:=cE hb;have ea:sub (dK A) (i*3) 3=some [ι (A[i].1:Int),ι (A[i].2.1:Int),ι (A[i].2.2:Int)]:=by have:=nQ hai 0 3 ω;simpa[gH] using this
  have eb:sub (dK B) (i*3) 3=some [ι (B[i].1:Int),ι (B[i].2.1:Int),ι (B[i].2.2:Int)]:=by have:=nQ hbi 0 3 ω;simpa[gH] using this
  rw[qj E.ok];by_cases e:A[i]=B[i]
  ·refine kJ @Bg.eq_1 @DS.eq_1 @Id.eq_1 @Ie.eq_1 @If.eq_1 @Ig.eq_1 t0 t1 t12 t13 hi' @I4 @RB ea eb @Ed e @bK ?_;refine ih (i+1) ω (λj hj=> ?_) _ ?_ ?_ ?_ ?_
   ·by_cases hj2:j<i
    ·exact hall j hj2
    ·obtain rfl:j=i:=by omega
     rw[hai,hbi,e]
   all_goals exact U3 t0 t1 t12
  ·refine kJ @Bg.eq_1 @DS.eq_1 @Id.eq_1 @Ie.eq_1 @If.eq_1 @Ig.eq_1 t0 t1 t12 t13 hi' @I4 @RB ea eb @Ed e @bK ?_;refine ne _ (λh=>e (by subst h;rfl)) ?_;exact U0
def aK1 (F:eV ae) {A B:List Br} (ha:A.length<=4096) (hb:B.length<=4096) {h:AH} (k:AV ->AH ->Prop) (hk:k (.b (decide (A=B))) h):du C 270 [cu A,cu B] h k:=by
 rw[E.cB F.f270];by_cases el:A.length=B.length
 ·have el':((A.length:Int)=(B.length:Int))=True:=cJ;refine Y6 @Bh.eq_1 @Ia.eq_1 @Ib.eq_1 @Ic.eq_1 @Ih.eq_1 el' ?_;refine aK0 E (A:=A) (B:=B) el ω _ _ ?_ ?_ A.length 0 ω (λj hj=>by omega) _ ?_ ?_ ?_ ?_
  ·intro τ dc t4;refine Y1 t4 ?_;simpa[dc] using hk
  ·intro τ heq;refine Y0 ?_;simpa[heq] using hk
  all_goals exact U1 el
 ·have el':((A.length:Int)=(B.length:Int))=False:=av;have dc:A≠B:=λh=>el (by rw[h]);refine Y6 @Bh.eq_1 @Ia.eq_1 @Ib.eq_1 @Ic.eq_1 @Ih.eq_1 el' ?_;simpa[dc] using hk
def aK2 (F:eV ae) {a b:List Br×Nat} (ha:a.1.length<=4096) (hb:b.1.length<=4096):bg P X GL ae 156 [eD a,eD b] (.b (decide (a=b))):=by
 obtain⟨A,x⟩:=a;obtain⟨B,y⟩:=b;refine bg.intro λC E=> ?_;rw[E.cB F.f156];dsimp only at ha hb;by_cases e:x=y
 ·have e':((x:Int)=(y:Int))=True:=cJ;refine Y6 @Bf.eq_1 @H8.eq_1 @H9.eq_1 @eD.eq_1 @h0.eq_1 e' ?_;refine E.run (aK1 E F ha hb _ ?_);refine Y0 ?_;exact⟨1,by simp[deep,e]⟩
 ·have e':((x:Int)=(y:Int))=False:=av;refine Y6 @Bf.eq_1 @H8.eq_1 @H9.eq_1 @eD.eq_1 @h0.eq_1 e' ?_;exact⟨1,by simp[deep,e]⟩
def RC (F:eV ae) {s t:Tr} (ds:jt P X GL s) (dt:jt P X GL t) (h:AH):bP P X GL 156 [eT s,eT t] h (.b (decide (s=t))) h:=by
 have:=dR S (aK2 F (a:=aE s) (b:=aE t) (by have:=ds.len;omega) (by have:=dt.len;omega)) (n:=9) (by simp only[aL,qU,bZ]) h;have e:decide (aE s=aE t)=decide (s=t):=by
  rw[decide_eq_decide];constructor
  ·intro h;have h1:=ds.tr;rw[h,dt.tr] at h1;exact h1.symm
  ·intro h;rw[h]
 rw[e] at this;exact this
end
end AM
