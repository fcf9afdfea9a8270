import Derived.Test.YtcpcjocnnclcmaaGreatDoorN9
set_option linter.all false
namespace AM
open Go
noncomputable section
def sB (h:AH):AV ->bj
 | .sl _ _ n _ _=> .v (ι (n:Int)) h
 | .ds _ _ n _=> .v (ι (n:Int)) h
 | .sn=> .v (ι 0) h
 |_=> .bad
def R3 {ev:MA ->AV} {h:AH} {x}:step ev h (.len .slice x)=sB h (ev x):=by rw[lT];cases ev x<;>rfl
def R4 {h o off n c e}:sB h (.sl o off n c e)= .v (ι (n:Int)) h:=rfl
def R5 {h l off n e}:sB h (.ds l off n e)= .v (ι (n:Int)) h:=rfl
def R6 {h}:sB h .sn= .v (ι 0) h:=rfl
def OI (h:AH) (es k:Nat):AV ->bj
 | .sl o off n _ esz=>if esz=es/\ k<n then .v (.p o (off+k*esz)) h else .bad
 | .ds l off n esz=>if esz=es/\ k<n then .v (.dp l (off+k*esz)) h else .bad
 |_=> .bad
def iaK (h:AH) (es:Nat) (x:AV):Option Nat ->bj
 |some k=>OI h es k x
 |none=> .bad
def R7 {ev:MA ->AV} {h:AH} {es x i}:step ev h (.iadr es x i)=iaK h es (ev x) (nA ev i):=by
 rw[Io];cases nA ev i with
 |none=>rfl
 |some k=>cases ev x<;>rfl
def ZZ {h es x k}:iaK h es x (some k)=OI h es k x:=rfl
def OJ {h es k o off n c esz}:OI h es k (.sl o off n c esz)=if esz=es/\ k<n then .v (.p o (off+k*esz)) h else .bad:=rfl
def yu {h es k l off n esz}:OI h es k (.ds l off n esz)=if esz=es/\ k<n then .v (.dp l (off+k*esz)) h else .bad:=rfl
section
variable {α:Type} {enc:α ->List AV} {k:Nat}
def eR (enc:α ->List AV) (k:Nat) (nl:Bool) (L:List α):AV:=match L,nl with
 |[],true=> .sn
 |L,_=> .ds (L.flatMap enc) 0 L.length k
def tT {nl a L}:eR enc k nl (a::L)= .ds ((a::L).flatMap enc) 0 (a::L).length k:=rfl
def jW:eR enc k true []= .sn:=rfl
def GT:eR enc k false []= .ds [] 0 0 k:=rfl
def bV {h nl L}:sB h (eR enc k nl L)= .v (ι (L.length:Int)) h:=by
 cases L with
 |nil=>cases nl<;>rfl
 |cons a L=>rfl
def aF {h nl L} {i:Nat} (hi:i<L.length):OI h k i (eR enc k nl L)= .v (.dp (L.flatMap enc) (i*k)) h:=by
 cases L with
 |nil=>simp at hi
 |cons a L=>rw[tT,yu,if_pos ⟨rfl,hi⟩,fL]
def iH {nl} {L:List α}:bU (eR enc k nl L)=true:=by
 cases L with
 |nil=>cases nl<;>rfl
 |cons a L=>rfl
def uS {nl} {L:List α}:cellsO (eR enc k nl L)=some [eR enc k nl L]:=by
 cases L with
 |nil=>cases nl<;>rfl
 |cons a L=>rfl
def GU {nl} {L:List α}:cellsOf (eR enc k nl L)=[eR enc k nl L]:=by
 cases L with
 |nil=>cases nl<;>rfl
 |cons a L=>rfl
def dG (hk:∀a,(enc a).length=k):∀L:List α,(L.flatMap enc).length=L.length*k
 |[]=>by simp
 |a::L=>by rw[nD,cX,hk,dG hk L,fM];rw[zr];omega
def Ak (hk:∀a,(enc a).length=k):∀{L:List α} {i:Nat} {a:α},L[i]? =some a ->(L.flatMap enc).drop (i*k)=enc a++(L.drop (i+1)).flatMap enc
 |[],i,a,h=>by simp at h
 |b::L,0,a,h=>by simp at h;subst h;simp
 |b::L,i+1,a,h=>by
  simp at h;rw[nD,show(i+1)*k=(enc b).length+i*k by rw[hk,zr];omega,←wV,List.drop_left,Ak hk h];rfl
def aB (hk:∀a,(enc a).length=k) {L:List α} {i:Nat} {a:α} (h:L[i]? =some a) {j n:Nat} (hj:j+n<=k):sub (L.flatMap enc) (i*k+j) n=some (((enc a).drop j).take n):=by
 have hl:=(cW.1 h).1;have h1:(i+1)*k<=L.length*k:=nE k hl;rw[zr] at h1;rw[jd,if_pos (by rw[dG hk];omega),←wV,Ak hk h];congr 1;rw[Ts (by rw[hk];omega),Lj (by rw[qY,hk];omega)]
def jw {n:Nat} {h:AH} (hd:∀a,aK n h (enc a)=some (enc a)):∀L:List α,aK n h (L.flatMap enc)=some (L.flatMap enc)
 |[]=>rfl
 |a::L=>by
  have app:∀x y x' y':List AV,aK n h x=some x' ->aK n h y=some y' ->aK n h (x++y)=some (x'++y'):=by
   intro x;induction x with
   |nil=>intro y x' y' hx hy;rw[ay] at hx;cases hx;simpa using hy
   |cons b x ih=>
    intro y x' y' hx hy;rw[af] at hx;split at hx
    ·rename_i b' l' q1 q2;cases hx;rw[nF,af,q1,ih _ _ _ q2 hy];rfl
    ·cases hx
  rw[nD];exact app _ _ _ _ (hd a) (jw hd L)
def aM {n:Nat} {h:AH} (hd:∀a,aK n h (enc a)=some (enc a)) {nl} {L:List α}:aH (n+1) h (eR enc k nl L)=some (eR enc k nl L):=by
 have e:aH (n+1) h (.ds (L.flatMap enc) 0 L.length k)=(match aK n h (L.flatMap enc) with|some l=>some (.ds l 0 L.length k)|none=>none):=rfl;cases L with
 |nil=>cases nl<;>rfl
 |cons a L=>rw[tT,e,jw hd]
end
def syL:=And.intro @bV<|And.intro @iH<|And.intro @uS @GU
def syS:=And.intro @TE<|And.intro @Ie<|And.intro @Du<|And.intro @Mt<|And.intro @Dv<|And.intro @If<|And.intro @Dw<|And.intro @Mu<|And.intro @Mv<|
 And.intro @TF<|And.intro @FU<|And.intro @Ig<|And.intro @Ih<|And.intro @Mw<|And.intro @z8<|And.intro @MR<|And.intro @Im<|And.intro @Aa<|And.intro @MS<|
 And.intro @R7<|And.intro @ZZ<|And.intro @OJ<|And.intro @yu<|And.intro @Dz<|And.intro @Ip<|And.intro @DA<|And.intro @xP<|And.intro @xQ<|And.intro @R3<|And.intro @R4<|And.intro @R5<|And.intro @R6<|And.intro @MT<|
 And.intro @Dx<|And.intro @oE<|And.intro @mj<|And.intro @Ii<|And.intro @Ij<|And.intro @Ik<|And.intro @Il<|And.intro @Mx<|And.intro @pa<|
 And.intro @MB<|And.intro @oG<|And.intro @oH<|And.intro @gA<|And.intro @DB<|And.intro @Iq<|And.intro @Ac<|And.intro @xS<|And.intro @TG<|And.intro @MU<|And.intro @MV<|And.intro @xR<|And.intro @qu<|And.intro @tH<|And.intro @tI<|
 And.intro @kw<|And.intro @gM<|And.intro @az<| @gP
attribute [go_sem] syS syL
end
end AM
namespace AM
open Dg Go
noncomputable section
def OL {B:List Br}:fG B=eR oM 3 true B:=by
 cases B with
 |nil=>rfl
 |cons b B=>show AV.ds _ _ _ _=AV.ds _ _ _ _;rw[show iP (b::B)=(b::B).flatMap oM by rw[Lk];rfl]
def jH {h} {B:List Br}:sB h (fG B)= .v (ι (B.length:Int)) h:=by rw[OL,bV]
def tU {h} {B:List Br} {i:Nat} (hi:i<B.length):OI h 3 i (fG B)= .v (.dp (iP B) (i*3)) h:=by
 rw[OL,aF hi,Lk];rfl
section
variable {P:Program} {X:dy} {GL:T (List AV)} {fns:T aR}
def tV {n:Nat} {B:List Br} {off}:aJ (n+1) (.dp (iP B) off)=true:=by rw[di,Ai]
set_option maxHeartbeats 1000000 in
def OM {C:cQ Prop} (E:gW P X GL fns C) {A B:List Br} {ra rb:AV} {h:AH} (h0:cG (h.objs.get 0)=some [fG A,ra]) (h1:cG (h.objs.get 1)=some [fG B,rb]) (hl:A.length=B.length) (hlen:A.length+1<=1000000) (S₀:List Fr) (K:K Prop)
 (ne:∀τ,A≠B ->τ.get 4=some (.b false) ->iZ C .ret S₀ K τ h) (eq:∀τ,A=B ->iZ C (.exit 0) S₀ K τ h):
 ∀(d i:Nat),i+d=A.length ->(∀j:Nat,j<i ->A[j]? =B[j]?) ->∀τ:T AV,τ.get 2=some (.p 0 0) ->τ.get 3=some (.p 1 0) ->τ.get 5=some (ι (i:Int)) ->dk C (.loop Nr) S₀ K τ h:=by
 intro d;obtain⟨n1,ver,ob⟩:=h;dsimp only at h0 h1;induction d with
 |zero=>
  intro i hi hall τ t2 t3 t5;have hi':((i:Int)<(A.length:Int))=False:=eq_false ω;rw[eZ E.ok];refine Y7 t2 t3 t5 h0 h1 hi' @jH ?_;refine eq _ (y6 fun j=> ?_);by_cases hj:j<i
  ·exact hall j hj
  ·rw[sR ω,sR ω]
 |succ d ih=>
  intro i hi hall τ t2 t3 t5;have hi':((i:Int)<(A.length:Int))=True:=eq_true ω;have ha:i<A.length:=by omega
  have hb:i<B.length:=by omega
  have hai:A[i]? =some A[i]:=ba ha;have hbi:B[i]? =some B[i]:=ba hb;have ea:sub (iP A) (i*3) 3=some [.i .i64 (A[i].1:Int),.i .i64 (A[i].2.1:Int),.i .i64 (A[i].2.2:Int)]:=by have:=gu hai 0 3 ω;simpa[oM] using this
  have eb:sub (iP B) (i*3) 3=some [.i .i64 (B[i].1:Int),.i .i64 (B[i].2.1:Int),.i .i64 (B[i].2.2:Int)]:=by have:=gu hbi 0 3 ω;simpa[oM] using this
  rw[eZ E.ok];by_cases e:A[i]=B[i]
  ·refine TO t2 t3 t5 h0 h1 hi' @tU @tV ea eb @Yu e @ar @jH ?_;refine ih (i+1) ω (fun j hj=> ?_) _ ?_ ?_ ?_
   ·by_cases hj2:j<i
    ·exact hall j hj2
    ·obtain rfl:j=i:=by omega
     rw[hai,hbi,e]
   all_goals exact U2 t2 t3
  ·refine TO t2 t3 t5 h0 h1 hi' @tU @tV ea eb @Yu e @ar @jH ?_;exact ne _ (fun h=>e (by subst h;rfl)) U0
def GV (F:dr fns) {a b:List Br×Nat} (ha:a.1.length<=4096) (hb:b.1.length<=4096):aZ P X GL fns 193 [eD a,eD b] (.b (decide (a=b))):=by
 obtain⟨A,x⟩:=a;obtain⟨B,y⟩:=b;refine aZ.intro fun C E=> ?_
 rw[aA E.ok (E.get F.f193)];dsimp only at ha hb;by_cases e:x=y
 ·have e':((x:Int)=(y:Int))=True:=eq_true ω;by_cases el:A.length=B.length
  ·have el':((A.length:Int)=(B.length:Int))=True:=eq_true ω;refine Y6 @Af.eq_1 @eD.eq_1 @h0.eq_1 e' el' @jH ?_;refine OM E (A:=A) (B:=B) (ra:= .i .i64 (x:Int)) (rb:= .i .i64 (y:Int)) (by exact U0) (by exact U0) el ω _ _ ?_ ?_ A.length 0 ω (fun j hj=>by omega) _ ?_ ?_ ?_
   ·intro τ hne t4;refine Y2 t4 @jH ?_;exact⟨1,by simp[aH,hne]⟩
   ·intro τ heq;refine Y1 @jH ?_;exact⟨1,by simp[aH,heq,e]⟩
   all_goals exact U0
  ·have el':((A.length:Int)=(B.length:Int))=False:=eq_false ω;have hne:A≠B:=fun h=>el (by rw[h])
   refine Y6 @Af.eq_1 @eD.eq_1 @h0.eq_1 e' el' @jH ?_;exact⟨1,by simp[aH,hne]⟩
 ·have e':((x:Int)=(y:Int))=False:=eq_false ω;refine Y5 @Af.eq_1 @eD.eq_1 @h0.eq_1 e' @jH ?_;exact⟨1,by simp[aH,e]⟩
def Kr (S:aw P X GL fns) (F:dr fns) {s t:Tr} (ds:vW P X GL s) (dt:vW P X GL t) (h:AH):dq P X GL 193 [eT s,eT t] h (.b (decide (s=t))) h:=by
 have:=aE S (GV F (a:=ax s) (b:=ax t) (by have:=ds.len;omega) (by have:=dt.len;omega)) (n:=9) (by simp only[af,iF,ay]) h;have e:decide (ax s=ax t)=decide (s=t):=by
  rw[decide_eq_decide];constructor
  ·intro h;have h1:=ds.tr;rw[h,dt.tr] at h1;exact h1.symm
  ·intro h;rw[h]
 rw[e] at this;exact this
end
attribute [go_sem] jH
section
variable {P:Program} {X:dy} {GL:T (List AV)} {fns:T aR}
set_option maxHeartbeats 1000000 in
def ON {C:cQ Prop} (E:gW P X GL fns C) {A B:List Br} {h:AH} (hl:A.length=B.length) (hlen:A.length+1<=1000000) (S₀:List Fr) (K:K Prop)
 (ne:∀τ,A≠B ->τ.get 4=some (.b false) ->iZ C .ret S₀ K τ h) (eq:∀τ,A=B ->iZ C (.exit 0) S₀ K τ h):
 ∀(d i:Nat),i+d=A.length ->(∀j:Nat,j<i ->A[j]? =B[j]?) ->∀τ:T AV,τ.get 0=some (fG A) ->τ.get 1=some (fG B) ->τ.get 12=some (ι (A.length:Int)) ->τ.get 13=some (ι (i:Int)) ->dk C (.loop yh) S₀ K τ h:=by
 intro d;obtain⟨n1,ver,ob⟩:=h;induction d with
 |zero=>
  intro i hi hall τ t0 t1 t12 t13;have hi':((i:Int)<(A.length:Int))=False:=eq_false ω;rw[eZ E.ok];refine Y7 @yh.eq_1 @B7.eq_1 t0 t1 t12 t13 hi' ?_;refine eq _ (y6 fun j=> ?_);by_cases hj:j<i
  ·exact hall j hj
  ·rw[sR ω,sR ω]
 |succ d ih=>
  intro i hi hall τ t0 t1 t12 t13;have hi':((i:Int)<(A.length:Int))=True:=eq_true ω;have ha:i<A.length:=by omega
  have hb:i<B.length:=by omega
  have hai:A[i]? =some A[i]:=ba ha;have hbi:B[i]? =some B[i]:=ba hb;have ea:sub (iP A) (i*3) 3=some [.i .i64 (A[i].1:Int),.i .i64 (A[i].2.1:Int),.i .i64 (A[i].2.2:Int)]:=by have:=gu hai 0 3 ω;simpa[oM] using this
  have eb:sub (iP B) (i*3) 3=some [.i .i64 (B[i].1:Int),.i .i64 (B[i].2.1:Int),.i .i64 (B[i].2.2:Int)]:=by have:=gu hbi 0 3 ω;simpa[oM] using this
  rw[eZ E.ok];by_cases e:A[i]=B[i]
  ·refine WD @yh.eq_1 @B7.eq_1 @Gp.eq_1 @Gq.eq_1 @Gs.eq_1 @Gt.eq_1 t0 t1 t12 t13 hi' @tU @tV ea eb @Yu e @ar ?_;refine ih (i+1) ω (fun j hj=> ?_) _ ?_ ?_ ?_ ?_
   ·by_cases hj2:j<i
    ·exact hall j hj2
    ·obtain rfl:j=i:=by omega
     rw[hai,hbi,e]
   all_goals exact U3 t0 t1 t12
  ·refine WD @yh.eq_1 @B7.eq_1 @Gp.eq_1 @Gq.eq_1 @Gs.eq_1 @Gt.eq_1 t0 t1 t12 t13 hi' @tU @tV ea eb @Yu e @ar ?_;refine ne _ (fun h=>e (by subst h;rfl)) ?_;exact U0
def Cf {C:cQ Prop} (E:gW P X GL fns C) (F:gD fns) {A B:List Br} (ha:A.length<=4096) (hb:B.length<=4096) {h:AH} (k:AV ->AH ->Prop) (hk:k (.b (decide (A=B))) h):bZ C 180 [fG A,fG B] h k:=by
 rw[aA E.ok (E.get F.f180)];by_cases el:A.length=B.length
 ·have el':((A.length:Int)=(B.length:Int))=True:=eq_true ω;refine Y6 @DL.eq_1 @Gl.eq_1 @Gm.eq_1 @Gn.eq_1 @Gu.eq_1 el' ?_;refine ON E (A:=A) (B:=B) el ω _ _ ?_ ?_ A.length 0 ω (fun j hj=>by omega) _ ?_ ?_ ?_ ?_
  ·intro τ hne t4;refine Y1 t4 ?_;simpa[hne] using hk
  ·intro τ heq;refine Y0 ?_;simpa[heq] using hk
  all_goals exact U1 el
 ·have el':((A.length:Int)=(B.length:Int))=False:=eq_false ω;have hne:A≠B:=fun h=>el (by rw[h])
  refine Y6 @DL.eq_1 @Gl.eq_1 @Gm.eq_1 @Gn.eq_1 @Gu.eq_1 el' ?_;simpa[hne] using hk
def GW (F:gD fns) {a b:List Br×Nat} (ha:a.1.length<=4096) (hb:b.1.length<=4096):aZ P X GL fns 109 [eD a,eD b] (.b (decide (a=b))):=by
 obtain⟨A,x⟩:=a;obtain⟨B,y⟩:=b;refine aZ.intro fun C E=> ?_
 rw[aA E.ok (E.get F.f109)];dsimp only at ha hb;by_cases e:x=y
 ·have e':((x:Int)=(y:Int))=True:=eq_true ω;refine Y6 @DK.eq_1 @Gj.eq_1 @Gk.eq_1 @eD.eq_1 @h0.eq_1 e' ?_;refine E.run (Cf E F ha hb _ ?_);refine Y0 ?_;exact⟨1,by simp[aH,e]⟩
 ·have e':((x:Int)=(y:Int))=False:=eq_false ω;refine Y6 @DK.eq_1 @Gj.eq_1 @Gk.eq_1 @eD.eq_1 @h0.eq_1 e' ?_;exact⟨1,by simp[aH,e]⟩
def Am (S:aw P X GL fns) (F:gD fns) {s t:Tr} (ds:vW P X GL s) (dt:vW P X GL t) (h:AH):dq P X GL 109 [eT s,eT t] h (.b (decide (s=t))) h:=by
 have:=aE S (GW F (a:=ax s) (b:=ax t) (by have:=ds.len;omega) (by have:=dt.len;omega)) (n:=9) (by simp only[af,iF,ay]) h;have e:decide (ax s=ax t)=decide (s=t):=by
  rw[decide_eq_decide];constructor
  ·intro h;have h1:=ds.tr;rw[h,dt.tr] at h1;exact h1.symm
  ·intro h;rw[h]
 rw[e] at this;exact this
end
end
end AM
