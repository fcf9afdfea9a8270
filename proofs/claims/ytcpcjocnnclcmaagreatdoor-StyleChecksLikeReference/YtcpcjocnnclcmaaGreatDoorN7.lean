import Derived.Test.YtcpcjocnnclcmaaGreatDoorProg
import Derived.Test.YtcpcjocnnclcmaaGreatDoorN5
set_option linter.all false
namespace Dg
inductive Tr where
 |c (b:Bool)
 |n (l h:Tr)
 deriving DecidableEq
abbrev Br:=Nat×Nat×Nat
def dV (B:List Br) (r:Nat):Nat:=if r<2 then 3 else match B[r-2]? with|some b=>b.1|none=>3
def lo (B:List Br) (r v:Nat):Nat:=if r<2 then r else match B[r-2]? with|some b=>if b.1=v then b.2.1 else r|none=>r
def hi (B:List Br) (r v:Nat):Nat:=if r<2 then r else match B[r-2]? with|some b=>if b.1=v then b.2.2 else r|none=>r
def tr (B:List Br):Nat ->Nat ->Tr
 |0,r=> .c (r==1)
 |k+1,r=> .n (tr B k (lo B r (2-k))) (tr B k (hi B r (2-k)))
structure OK (B:List Br):Prop where
 v:∀(i:Nat) (b:Br),B[i]? =some b ->b.1<3
 l:∀(i:Nat) (b:Br),B[i]? =some b ->b.2.1<i+2/\ b.1<dV B b.2.1
 h:∀(i:Nat) (b:Br),B[i]? =some b ->b.2.2<i+2/\ b.1<dV B b.2.2
 ne:∀(i:Nat) (b:Br),B[i]? =some b ->b.2.1≠b.2.2
 nd:∀(i j:Nat) (b:Br),B[i]? =some b ->B[j]? =some b ->i=j
def fe {B:List Br} {r:Nat} (h:r<2):dV B r=3:=by simp[dV,h]
def bH {B:List Br} {i:Nat} {b:Br} (h:B[i]? =some b):dV B (i+2)=b.1:=by
 unfold dV;rw[if_neg (by omega),show i+2-2=i by omega,h]
def jF {B:List Br} {r v:Nat} (h:r<2):lo B r v=r:=by simp[lo,h]
def jG {B:List Br} {r v:Nat} (h:r<2):hi B r v=r:=by simp[hi,h]
def iD {B:List Br} {i v:Nat} {b:Br} (h:B[i]? =some b):lo B (i+2) v=if b.1=v then b.2.1 else i+2:=by
 unfold lo;rw[if_neg (by omega),show i+2-2=i by omega,h]
def iE {B:List Br} {i v:Nat} {b:Br} (h:B[i]? =some b):hi B (i+2) v=if b.1=v then b.2.2 else i+2:=by
 unfold hi;rw[if_neg (by omega),show i+2-2=i by omega,h]
def In (B:List Br) (r:Nat):Prop:=r<B.length+2
def In.cases {B:List Br} {r:Nat} (h:In B r):r<2∨∃i b,r=i+2/\ B[i]? =some b:=by
 rcases Nat.lt_or_ge r 2 with h1|h1
 ·exact .inl h1
 ·have hlt:r-2<B.length:=by unfold In at h;omega
  exact .inr ⟨r-2,B[r-2],by omega,List.getElem?_eq_getElem hlt⟩
def In.of {B:List Br} {i:Nat} {b:Br} (h:B[i]? =some b):In B (i+2):=by
 have hlt:i<B.length:=(List.getElem?_eq_some_iff.1 h).1;unfold In;omega
def In.small {B:List Br} {r:Nat} (h:r<2):In B r:=by unfold In;omega
def nq {B:List Br} (ok:OK B) {r:Nat} (h:In B r):dV B r<=3:=by
 rcases h.cases with h1|⟨i,b,rfl,hb⟩
 ·rw[fe h1];exact Nat.le_refl _
 ·rw[bH hb];exact Nat.le_of_lt (ok.v _ _ hb)
def yi {B:List Br} (ok:OK B) {r v:Nat} (hr:In B r):In B (lo B r v):=by
 rcases hr.cases with h1|⟨i,b,rfl,hb⟩
 ·rw[jF h1];exact hr
 ·rw[iD hb];split
  ·have:=ok.l _ _ hb;have:=In.of hb;unfold In at*;omega
  ·exact hr
def yj {B:List Br} (ok:OK B) {r v:Nat} (hr:In B r):In B (hi B r v):=by
 rcases hr.cases with h1|⟨i,b,rfl,hb⟩
 ·rw[jG h1];exact hr
 ·rw[iE hb];split
  ·have:=ok.h _ _ hb;have:=In.of hb;unfold In at*;omega
  ·exact hr
def nr {B:List Br} (ok:OK B) {r v:Nat} (hr:In B r) (h:v<=dV B r) (hv:v<3):v<dV B (lo B r v):=by
 rcases hr.cases with h1|⟨i,b,rfl,hb⟩
 ·rw[jF h1,fe h1];exact hv
 ·rw[iD hb];rw[bH hb] at h;split
  ·have:=ok.l _ _ hb;omega
  ·rw[bH hb];omega
def ny {B:List Br} (ok:OK B) {r v:Nat} (hr:In B r) (h:v<=dV B r) (hv:v<3):v<dV B (hi B r v):=by
 rcases hr.cases with h1|⟨i,b,rfl,hb⟩
 ·rw[jG h1,fe h1];exact hv
 ·rw[iE hb];rw[bH hb] at h;split
  ·have:=ok.h _ _ hb;omega
  ·rw[bH hb];omega
def kz {B:List Br} (ok:OK B) {r v:Nat} (hr:In B r) (hv:v<3):(lo B r v=hi B r v↔dV B r≠v)/\ (dV B r≠v ->lo B r v=r/\ hi B r v=r):=by
 rcases hr.cases with h1|⟨i,b,rfl,hb⟩
 ·rw[jF h1,jG h1,fe h1];exact⟨⟨fun _=>by omega,fun _=>rfl⟩,fun _=>⟨rfl,rfl⟩⟩
 ·rw[iD hb,iE hb,bH hb];by_cases e:b.1=v
  ·rw[if_pos e,if_pos e];exact⟨⟨fun h=>absurd h (ok.ne _ _ hb),fun h=>absurd e h⟩,fun h=>absurd e h⟩
  ·rw[if_neg e,if_neg e];exact⟨⟨fun _=>e,fun _=>rfl⟩,fun _=>⟨rfl,rfl⟩⟩
def GA {B:List Br} (ok:OK B):∀(k x y:Nat),k<=3 ->In B x ->In B y ->3-k<=dV B x ->3-k<=dV B y ->tr B k x=tr B k y ->x=y:=by
 intro k;induction k with
 |zero=>
  intro x y _ hx hy lx ly e;have one:∀z,In B z ->3<=dV B z ->z<2:=by
   intro z hz lz;rcases hz.cases with h|⟨i,b,rfl,hb⟩
   ·exact h
   ·rw[bH hb] at lz;have:=ok.v _ _ hb;omega
  have h1:=one x hx (by omega);have h2:=one y hy (by omega);simp only[tr,Tr.c.injEq] at e;have h3:x=0∨x=1:=by omega
  have h4:y=0∨y=1:=by omega
  rcases h3 with rfl|rfl<;>rcases h4 with rfl|rfl<;>first|rfl|(simp at e)
 |succ k ih=>
  intro x y hk hx hy lx ly e;simp only[tr,Tr.n.injEq] at e;obtain⟨e1,e2⟩:=e;have l1:=nr ok (v:=2-k) hx (by omega) (by omega);have l2:=nr ok (v:=2-k) hy (by omega) (by omega);have l3:=ny ok (v:=2-k) hx (by omega) (by omega);have l4:=ny ok (v:=2-k) hy (by omega) (by omega);have c1:=ih _ _ (by omega) (yi ok hx) (yi ok hy) (by omega) (by omega) e1;have c2:=ih _ _ (by omega) (yj ok hx) (yj ok hy) (by omega) (by omega) e2;have sx:=kz ok hx (v:=2-k) (by omega);have sy:=kz ok hy (v:=2-k) (by omega);by_cases hx1:dV B x=2-k
  ·have hy1:dV B y=2-k:=by
    apply Classical.byContradiction;intro hn;have:=sy.2 hn;have h5:lo B x (2-k)=hi B x (2-k):=by rw[c1,c2,this.1,this.2]
    exact(sx.1.1 h5) hx1
   rcases hx.cases with h|⟨i,b,rfl,hb⟩
   ·rw[fe h] at hx1;omega
   ·rcases hy.cases with h|⟨j,b',rfl,hb'⟩
    ·rw[fe h] at hy1;omega
    ·rw[bH hb] at hx1;rw[bH hb'] at hy1;rw[iD hb,iD hb',if_pos hx1,if_pos hy1] at c1;rw[iE hb,iE hb',if_pos hx1,if_pos hy1] at c2;have:b=b':=by
      obtain⟨v,l,h⟩:=b;obtain⟨v',l',h'⟩:=b';simp only at hx1 hy1 c1 c2;rw[hx1,hy1,c1,c2]
     subst this;rw[ok.nd _ _ _ hb hb']
  ·have h1:=sx.2 hx1;rw[h1.1] at c1;rw[h1.2] at c2;by_cases hy1:dV B y=2-k
   ·exact absurd hy1 (sy.1.1 (c1.symm.trans c2))
   ·rw[(sy.2 hy1).1] at c1;exact c1
def B9 {B C:List Br} {i:Nat} {b:Br} (h:B[i]? =some b):(B++C)[i]? =some b:=by
 have hlt:i<B.length:=(List.getElem?_eq_some_iff.1 h).1;rw[List.getElem?_append_left hlt];exact h
def In.ext {B C:List Br} {r:Nat} (h:In B r):In (B++C) r:=by unfold In at*;simp;omega
def tN {B C:List Br} {r:Nat} (h:In B r):dV (B++C) r=dV B r:=by
 rcases h.cases with h1|⟨i,b,rfl,hb⟩
 ·rw[fe h1,fe h1]
 ·rw[bH hb,bH (B9 hb)]
def WK {B C:List Br} {r v:Nat} (h:In B r):lo (B++C) r v=lo B r v:=by
 rcases h.cases with h1|⟨i,b,rfl,hb⟩
 ·rw[jF h1,jF h1]
 ·rw[iD hb,iD (B9 hb)]
def WL {B C:List Br} {r v:Nat} (h:In B r):hi (B++C) r v=hi B r v:=by
 rcases h.cases with h1|⟨i,b,rfl,hb⟩
 ·rw[jG h1,jG h1]
 ·rw[iE hb,iE (B9 hb)]
def GB {B C:List Br} (ok:OK B):∀(k r:Nat),In B r ->tr (B++C) k r=tr B k r
 |0,_,_=>rfl
 |k+1,r,h=>by simp only[tr];rw[WK h,WL h,GB ok k _ (yi ok h),GB ok k _ (yj ok h)]
def OK.add {B:List Br} (ok:OK B) {v l h:Nat} (hv:v<3) (hl:In B l) (hh:In B h) (ll:v<dV B l) (lh:v<dV B h) (hne:l≠h) (hnew:∀i:Nat,B[i]?≠some (v,l,h)):OK (B++[(v,l,h)]):=by
 have key:∀(i:Nat) (b:Br),(B++[(v,l,h)])[i]? =some b ->B[i]? =some b∨(i=B.length/\ b=(v,l,h)):=by
  intro i b hb;rcases Nat.lt_or_ge i B.length with h1|h1
  ·rw[List.getElem?_append_left h1] at hb;exact .inl hb
  ·rw[List.getElem?_append_right h1] at hb;have:i-B.length=0:=by
    rcases Nat.eq_zero_or_pos (i-B.length) with h2|h2
    ·exact h2
    ·rw[List.getElem?_eq_none (by simp;omega)] at hb;cases hb
   rw[this] at hb;simp at hb;exact .inr ⟨by omega,hb.symm⟩
 constructor
 ·intro i b hb;rcases key i b hb with h1|⟨_,rfl⟩
  ·exact ok.v _ _ h1
  ·exact hv
 ·intro i b hb;rcases key i b hb with h1|⟨rfl,rfl⟩
  ·have:=ok.l _ _ h1;have hin:In B b.2.1:=by have:=In.of h1;unfold In at*;omega
   rw[tN hin];exact this
  ·refine⟨hl,?_⟩;show v<dV _ l;rw[tN hl];exact ll
 ·intro i b hb;rcases key i b hb with h1|⟨rfl,rfl⟩
  ·have:=ok.h _ _ h1;have hin:In B b.2.2:=by have:=In.of h1;unfold In at*;omega
   rw[tN hin];exact this
  ·refine⟨hh,?_⟩;show v<dV _ h;rw[tN hh];exact lh
 ·intro i b hb;rcases key i b hb with h1|⟨_,rfl⟩
  ·exact ok.ne _ _ h1
  ·exact hne
 ·intro i j b hb hb';rcases key i b hb with h1|⟨h1,h3⟩<;>rcases key j b hb' with h2|⟨h2,h4⟩
  ·exact ok.nd _ _ _ h1 h2
  ·rw[h4] at h1;exact absurd h1 (hnew i)
  ·rw[h3] at h2;exact absurd h2 (hnew j)
  ·omega
def QW (S:List (Nat×Tr)):Nat ->Tr ->Nat
 |_,.c b=>if b then 1 else 0
 |v,.n l h=>if l=h then QW S (v+1) l else S.idxOf (v,.n l h)+2
def E3:Nat ->Tr ->List (Nat×Tr) ->List (Nat×Tr)
 |_,.c _,S=>S
 |v,.n l h,S=>if l=h then E3 (v+1) l S else if (v,Tr.n l h)∈S then S else E3 (v+1) h (E3 (v+1) l S)++[(v,.n l h)]
def node (S:List (Nat×Tr)):Nat×Tr ->Br
 |(v,.n l h)=>(v,QW S (v+1) l,QW S (v+1) h)
 |(v,.c _)=>(v,0,0)
def ax (t:Tr):List Br×Nat:=let S:=E3 0 t [];(S.map (node S),QW S 0 t)
def dP (B:List Br):Nat ->Nat ->List Nat ->List Nat
 |0,_,V=>V
 |d+1,n,V=>if n<2∨n∈V then V else match B[n-2]? with
  |some b=>dP B d b.2.2 (dP B d b.2.1 V)++[n]
  |none=>V
def nb (V:List Nat) (n:Nat):Nat:=if n<2 then n else V.idxOf n+2
def mw (B:List Br) (V:List Nat):List Br:=V.map fun n=>match B[n-2]? with
 |some b=>(b.1,nb V b.2.1,nb V b.2.2)
 |none=>(0,0,0)
structure Cl (B:List Br) (V:List Nat):Prop where
 two:∀n∈V,2<=n/\ In B n
 l:∀n∈V,∀b,B[n-2]? =some b ->b.2.1<2∨b.2.1∈V
 h:∀n∈V,∀b,B[n-2]? =some b ->b.2.2<2∨b.2.2∈V
def Cl.nil {B:List Br}:Cl B []:=⟨(by simp),(by simp),(by simp)⟩
def sj {V W:List Nat} {n:Nat} (h:n<2∨n∈V):nb (V++W) n=nb V n:=by
 unfold nb;split
 ·rfl
 ·rw[List.idxOf_append,if_pos (by
   rcases h with h|h;·omega
   ·exact h)]
def Oz {B:List Br} {V W:List Nat} (c:Cl B V):mw B (V++W)=mw B V++W.map fun n=>match B[n-2]? with
 |some b=>(b.1,nb (V++W) b.2.1,nb (V++W) b.2.2)
 |none=>(0,0,0):=by
 unfold mw;rw[List.map_append];congr 1;apply List.map_congr_left;intro n hn;split
 ·rename_i b hb;rw[sj (c.l n hn b hb),sj (c.h n hn b hb)]
 ·rfl
def DN {B:List Br} {V:List Nat} (c:Cl B V) {n:Nat} {b:Br} (hb:B[n-2]? =some b) (hl:b.2.1<2∨b.2.1∈V) (hh:b.2.2<2∨b.2.2∈V):mw B (V++[n])=mw B V++[(b.1,nb V b.2.1,nb V b.2.2)]:=by
 rw[Oz c];simp only[List.map_cons,List.map_nil,hb,sj hl,sj hh]
def tQ {B:List Br}:∀(d n:Nat) (V:List Nat),∃W,dP B d n V=V++W:=by
 intro d;induction d with
 |zero=>intro n V;exact⟨[],by simp[dP]⟩
 |succ d ih=>
  intro n V;simp only[dP];split
  ·exact⟨[],by simp⟩
  ·split
   ·rename_i b _;obtain⟨W1,h1⟩:=ih b.2.1 V;obtain⟨W2,h2⟩:=ih b.2.2 (V++W1);exact⟨W1++W2++[n],by rw[h1,h2];simp[List.append_assoc]⟩
   ·exact⟨[],by simp⟩
def qy {B:List Br} (ok:OK B):∀(d n:Nat) (V:List Nat),Cl B V ->In B n ->3-dV B n<=d ->Cl B (dP B d n V)/\ (n<2∨n∈dP B d n V):=by
 intro d;induction d with
 |zero=>
  intro n V c hn hd;refine⟨c,.inl ?_⟩;rcases hn.cases with h|⟨i,b,rfl,hb⟩
  ·exact h
  ·rw[bH hb] at hd;have:=ok.v _ _ hb;omega
 |succ d ih=>
  intro n V c hn hd;simp only[dP];split
  ·rename_i h;exact⟨c,h⟩
  ·rename_i hnn;rcases hn.cases with h|⟨i,b,rfl,hb⟩
   ·exact absurd (.inl h) hnn
   ·rw[show i+2-2=i by omega,hb];rw[bH hb] at hd;have l1:=ok.l _ _ hb;have l2:=ok.h _ _ hb;have hi:=In.of hb;have i1:In B b.2.1:=by unfold In at*;omega
    have i2:In B b.2.2:=by unfold In at*;omega
    obtain⟨c1,m1⟩:=ih b.2.1 V c i1 (by omega);obtain⟨c2,m2⟩:=ih b.2.2 _ c1 i2 (by omega);obtain⟨W,hW⟩:=tQ (B:=B) d b.2.2 (dP B d b.2.1 V);have m1':b.2.1<2∨b.2.1∈dP B d b.2.2 (dP B d b.2.1 V):=by rw[hW];exact m1.imp id (List.mem_append_left _)
    dsimp only;refine⟨⟨?_,?_,?_⟩,.inr (by simp)⟩
    ·intro k hk;rcases List.mem_append.1 hk with hk|hk
     ·exact c2.two k hk
     ·rw[List.mem_singleton.1 hk];exact⟨by omega,hi⟩
    ·intro k hk b' hb';rcases List.mem_append.1 hk with hk|hk
     ·exact(c2.l k hk b' hb').imp id (List.mem_append_left _)
     ·rw[List.mem_singleton.1 hk,show i+2-2=i by omega,hb] at hb';cases hb';exact m1'.imp id (List.mem_append_left _)
    ·intro k hk b' hb';rcases List.mem_append.1 hk with hk|hk
     ·exact(c2.h k hk b' hb').imp id (List.mem_append_left _)
     ·rw[List.mem_singleton.1 hk,show i+2-2=i by omega,hb] at hb';cases hb';exact m2.imp id (List.mem_append_left _)
def DO {B:List Br} (ok:OK B):∀(d n:Nat) (V:List Nat),In B n ->∀k∈dP B d n V,k∈V∨dV B n<=dV B k:=by
 intro d;induction d with
 |zero=>intro n V _ k hk;exact .inl hk
 |succ d ih=>
  intro n V hn k hk;simp only[dP] at hk;split at hk
  ·exact .inl hk
  ·rename_i hnn;rcases hn.cases with h|⟨i,b,rfl,hb⟩
   ·exact absurd (.inl h) hnn
   ·rw[show i+2-2=i by omega,hb] at hk;have l1:=ok.l _ _ hb;have l2:=ok.h _ _ hb;have hi:=In.of hb;rw[bH hb];rcases List.mem_append.1 hk with hk|hk
    ·rcases ih b.2.2 _ (by unfold In at*;omega) k hk with hk|hk
     ·rcases ih b.2.1 _ (by unfold In at*;omega) k hk with hk|hk
      ·exact .inl hk
      ·exact .inr (by omega)
     ·exact .inr (by omega)
    ·rw[List.mem_singleton.1 hk,bH hb];exact .inr (Nat.le_refl _)
def DP {B:List Br} (ok:OK B) {d i:Nat} {b:Br} {V:List Nat} (hb:B[i]? =some b) (h:i+2∉V):i+2∉dP B d b.2.2 (dP B d b.2.1 V):=by
 intro hk;have l1:=ok.l _ _ hb;have l2:=ok.h _ _ hb;have hi:=In.of hb;rcases DO ok d b.2.2 _ (by unfold In at*;omega) _ hk with hk|hk
 ·rcases DO ok d b.2.1 _ (by unfold In at*;omega) _ hk with hk|hk
  ·exact h hk
  ·rw[bH hb] at hk;omega
 ·rw[bH hb] at hk;omega
def GK {V:List Nat} {n:Nat} (h2:2<=n) (h:n∉V):nb (V++[n]) n=V.length+2:=by
 unfold nb;rw[if_neg (by omega),List.idxOf_append,if_neg h];simp
def key (B:List Br) (n:Nat):Nat×Tr:=(dV B n,tr B (3-dV B n) n)
def IJ {B:List Br} (ok:OK B) {x y:Nat} (hx:In B x) (hy:In B y) (h:key B x=key B y):x=y:=by
 simp only[key,Prod.mk.injEq] at h;have:=nq ok hx;refine GA ok (3-dV B x) x y (by omega) hx hy (by omega) (by omega) ?_;have h2:=h.2;rw[←h.1] at h2;exact h2
def RX {B:List Br} (ok:OK B) {V:List Nat} (hV:∀n∈V,In B n) {x:Nat} (hx:In B x):key B x∈V.map (key B)↔x∈V:=by
 constructor
 ·intro h;obtain⟨y,hy,e⟩:=List.mem_map.1 h;rw[←IJ ok (hV y hy) hx e];exact hy
 ·exact fun h=>List.mem_map_of_mem h
def IK {B:List Br} (ok:OK B):∀{V:List Nat} (_:∀n∈V,In B n) {x:Nat} (_:In B x),(V.map (key B)).idxOf (key B x)=V.idxOf x
 |[],_,_,_=>rfl
 |y::V,hV,x,hx=>by
  rw[List.map_cons,List.idxOf_cons,List.idxOf_cons];have e:(key B y==key B x)=(y==x):=by
   rw[Bool.eq_iff_iff];simp only[beq_iff_eq];exact⟨IJ ok (hV y (by simp)) hx,fun h=>by rw[h]⟩
  rw[e,IK ok (fun n h=>hV n (by simp[h])) hx]
def ZR {B:List Br} (ok:OK B) {n v:Nat} (hn:In B n) (hv:v<dV B n) (h3:v<3):tr B (3-v) n= .n (tr B (3-(v+1)) n) (tr B (3-(v+1)) n):=by
 have s:=(kz ok hn (v:=v) h3).2 (by omega);obtain⟨j,hj⟩:∃j,3-v=j+1/\ 3-(v+1)=j/\ 2-j=v:=⟨2-v,by omega,by omega,by omega⟩;rw[hj.1,hj.2.1];simp only[tr];rw[hj.2.2,s.1,s.2]
def tR {B:List Br} (ok:OK B) {n:Nat} (hn:In B n) (S:List (Nat×Tr)):∀(k v:Nat),v+k=dV B n ->E3 v (tr B (3-v) n) S=E3 (dV B n) (tr B (3-dV B n) n) S/\ QW S v (tr B (3-v) n)=QW S (dV B n) (tr B (3-dV B n) n):=by
 intro k;induction k with
 |zero=>
  intro v h;have:v=dV B n:=by omega
  subst this;exact⟨rfl,rfl⟩
 |succ k ih=>
  intro v h;have:=nq ok hn;rw[ZR ok hn (by omega) (by omega)];simp only[E3,QW,if_pos];exact ih (v+1) (by omega)
def IM {B:List Br} {i:Nat} {b:Br} (hb:B[i]? =some b) (h3:b.1<3):tr B (3-b.1) (i+2)= .n (tr B (3-(b.1+1)) b.2.1) (tr B (3-(b.1+1)) b.2.2):=by
 obtain⟨j,hj⟩:∃j,3-b.1=j+1/\ 3-(b.1+1)=j/\ 2-j=b.1:=⟨2-b.1,by omega,by omega,by omega⟩;rw[hj.1,hj.2.1];simp only[tr];rw[hj.2.2,iD hb,iE hb,if_pos rfl,if_pos rfl]
def GM {B:List Br} (ok:OK B) {V:List Nat} (hV:∀n∈V,In B n) {n v:Nat} (hn:In B n) (hv:v<=dV B n):QW (V.map (key B)) v (tr B (3-v) n)=nb V n:=by
 rw[(tR ok hn (V.map (key B)) (dV B n-v) v (by omega)).2];rcases hn.cases with h|⟨i,b,rfl,hb⟩
 ·rw[fe h];have h3:n=0∨n=1:=by omega
  rcases h3 with rfl|rfl<;>simp[tr,QW,nb]
 ·have h3:=ok.v _ _ hb;have hne:=ok.ne _ _ hb;rw[bH hb];have e:=IM hb h3;have hk:key B (i+2)=(b.1,tr B (3-b.1) (i+2)):=by unfold key;rw[bH hb]
  have:=IK ok hV hn;rw[hk,e] at this;rw[e];simp only[QW];have l1:=ok.l _ _ hb;have l2:=ok.h _ _ hb;have hi:=In.of hb;have hne2:tr B (3-(b.1+1)) b.2.1≠tr B (3-(b.1+1)) b.2.2:=fun h=>hne (GA ok (3-(b.1+1)) _ _ (by omega) (by unfold In at*;omega) (by unfold In at*;omega) (by omega) (by omega) h)
  rw[if_neg hne2,this];unfold nb;rw[if_neg (by omega)]
def OA {B:List Br} (ok:OK B):∀(d n:Nat) (V:List Nat),Cl B V ->In B n ->3-dV B n<=d ->(dP B d n V).map (key B)=E3 (dV B n) (tr B (3-dV B n) n) (V.map (key B)):=by
 intro d;induction d with
 |zero=>
  intro n V c hn hd;have:=nq ok hn;rw[show 3-dV B n=0 by omega];simp[dP,tr,E3]
 |succ d ih=>
  intro n V c hn hd;rcases hn.cases with h|⟨i,b,rfl,hb⟩
  ·rw[fe h];simp[dP,tr,E3,h]
  ·have h3:=ok.v _ _ hb;have hne:=ok.ne _ _ hb;have l1:=ok.l _ _ hb;have l2:=ok.h _ _ hb;have hi:=In.of hb;have i1:In B b.2.1:=by unfold In at*;omega
   have i2:In B b.2.2:=by unfold In at*;omega
   have hne2:tr B (3-(b.1+1)) b.2.1≠tr B (3-(b.1+1)) b.2.2:=fun h=>hne (GA ok (3-(b.1+1)) _ _ (by omega) i1 i2 (by omega) (by omega) h)
   have hk:key B (i+2)=(b.1,.n (tr B (3-(b.1+1)) b.2.1) (tr B (3-(b.1+1)) b.2.2)):=by unfold key;rw[bH hb,IM hb h3]
   have hm:=RX ok (fun n h=>(c.two n h).2) hn;rw[hk] at hm;rw[bH hb] at hd ⊢;rw[IM hb h3];simp only[dP,E3,if_neg hne2];by_cases hin:i+2∈V
   ·rw[if_pos (.inr hin),if_pos (hm.2 hin)]
   ·rw[if_neg (by
     intro h;rcases h with h|h;·omega
     ·exact hin h),if_neg (fun h=>hin (hm.1 h)),show i+2-2=i by omega,hb]
    dsimp only;obtain⟨c1,_⟩:=qy ok d b.2.1 V c i1 (by omega);rw[List.map_append,ih b.2.2 _ c1 i2 (by omega),ih b.2.1 V c i1 (by omega)];rw[(tR ok i1 (V.map (key B)) (dV B b.2.1-(b.1+1)) (b.1+1) (by omega)).1,(tR ok i2 _ (dV B b.2.2-(b.1+1)) (b.1+1) (by omega)).1];simp only[List.map_cons,List.map_nil,hk]
def Ki {B:List Br} (ok:OK B) {V:List Nat} (c:Cl B V):mw B V=(V.map (key B)).map (node (V.map (key B))):=by
 unfold mw;rw[List.map_map];apply List.map_congr_left;intro n hn;obtain⟨h2,hin⟩:=c.two n hn;rcases hin.cases with h|⟨i,b,rfl,hb⟩
 ·omega
 ·have h3:=ok.v _ _ hb;have l1:=ok.l _ _ hb;have l2:=ok.h _ _ hb;have hi:=In.of hb;have i1:In B b.2.1:=by unfold In at*;omega
  have i2:In B b.2.2:=by unfold In at*;omega
  have hk:key B (i+2)=(b.1,.n (tr B (3-(b.1+1)) b.2.1) (tr B (3-(b.1+1)) b.2.2)):=by unfold key;rw[bH hb,IM hb h3]
  rw[show i+2-2=i by omega,hb];simp only[Function.comp_apply,hk,node];rw[GM ok (fun n h=>(c.two n h).2) i1 (by omega),GM ok (fun n h=>(c.two n h).2) i2 (by omega)]
def ym {B:List Br} (ok:OK B) {r d:Nat} (hr:In B r) (hd:3-dV B r<=d):(mw B (dP B d r []),nb (dP B d r []) r)=ax (tr B 3 r):=by
 obtain⟨c,_⟩:=qy ok d r [] Cl.nil hr hd;have:=nq ok hr;have e:E3 0 (tr B 3 r) []=(dP B d r []).map (key B):=by
  rw[OA ok d r [] Cl.nil hr hd];exact(tR ok hr [] (dV B r) 0 (by omega)).1
 unfold ax;rw[e];dsimp only;rw[←Ki ok c];have:=GM ok (fun n h=>(c.two n h).2) hr (v:=0) (by omega);rw[show(3:Nat)-0=3 from rfl] at this;rw[this]
def ew:Nat ->Tr ->Bool
 |0,.c _=>true
 |k+1,.n a b=>ew k a&&ew k b
 |_,_=>false
def kE:Nat ->List Tr
 |0=>[.c false,.c true]
 |k+1=>(kE k).flatMap fun a=>(kE k).map fun b=> .n a b
def mA:∀{k:Nat} {t:Tr},ew k t=true ->t∈kE k
 |0,.c b,_=>by cases b<;>simp[kE]
 |0,.n _ _,h=>by simp[ew] at h
 |k+1,.c _,h=>by simp[ew] at h
 |k+1,.n a b,h=>by
  simp only[ew,Bool.and_eq_true] at h;simp only[kE,List.mem_flatMap,List.mem_map];exact⟨a,mA h.1,b,mA h.2,rfl⟩
def dQ (b:Bool):Nat ->Tr
 |0=> .c b
 |k+1=> .n (dQ b k) (dQ b k)
def iG {b:Bool}:∀k,ew k (dQ b k)=true
 |0=>rfl
 |k+1=>by simp[dQ,ew,iG k]
def zg:Nat ->Tr ->Bool
 |0,.c _=>true
 |0,.n a b=>decide (a=b)&&zg 0 a
 |_+1,.c _=>true
 |n+1,.n a b=>zg n a&&zg n b
def okB (B:List Br):Bool:=(List.range B.length).all fun i=>match B[i]? with
 |some b=>decide (b.1<3)&&decide (b.2.1<i+2)&&decide (b.1<dV B b.2.1)&&decide (b.2.2<i+2)&&decide (b.1<dV B b.2.2)&&decide (b.2.1≠b.2.2)&&(List.range B.length).all fun j=>decide (B[j]? =some b ->i=j)
 |none=>false
def WQ {B:List Br} (h:okB B=true):OK B:=by
 have key:∀(i:Nat) (b:Br),B[i]? =some b ->b.1<3/\ b.2.1<i+2/\ b.1<dV B b.2.1/\ b.2.2<i+2/\ b.1<dV B b.2.2/\ b.2.1≠b.2.2/\∀j:Nat,j<B.length ->B[j]? =some b ->i=j:=by
  intro i b hb;have hi:=(List.getElem?_eq_some_iff.1 hb).1;have:=List.all_eq_true.1 h i (List.mem_range.2 hi);rw[hb] at this;simp only[Bool.and_eq_true,decide_eq_true_eq,List.all_eq_true,List.mem_range] at this;obtain⟨⟨⟨⟨⟨⟨h1,h2⟩,h3⟩,h4⟩,h5⟩,h6⟩,h7⟩:=this;exact⟨h1,h2,h3,h4,h5,h6,h7⟩
 exact⟨fun i b hb=>(key i b hb).1,fun i b hb=>⟨(key i b hb).2.1,(key i b hb).2.2.1⟩,fun i b hb=>⟨(key i b hb).2.2.2.1,(key i b hb).2.2.2.2.1⟩,fun i b hb=>(key i b hb).2.2.2.2.2.1,fun i j b hb hj=>(key i b hb).2.2.2.2.2.2 j (List.getElem?_eq_some_iff.1 hj).1 hj⟩
def ZY (t:Tr):Bool:=okB (ax t).1&&decide ((ax t).2<(ax t).1.length+2)&&decide (tr (ax t).1 3 (ax t).2=t)&&decide ((ax t).1.length<=7)
end Dg
namespace AM
open Go
noncomputable section
def BT {α:Type}:Nat ->(Nat ->Option α) ->T α
 |0,_=> .e
 |d+1,f=> .n (BT d fun k=>f (2*k+1)) (f 0) (BT d fun k=>f (2*k+2))
def tL {α:Type}:∀{d:Nat} {f:Nat ->Option α} {k:Nat} {x:α},(BT d f).get k=some x ->f k=some x
 |0,f,k,x,h=>by
  have:(T.e:T α).get k=none:=rfl;rw[show(BT 0 f)=T.e from rfl,this] at h;cases h
 |d+1,f,k,x,h=>by
  have e:(BT (d+1) f).get k=Bool.rec (Bool.rec ((BT d fun k=>f (2*k+2)).get (Nat.sub (Nat.div k 2) 1)) ((BT d fun k=>f (2*k+1)).get (Nat.div k 2)) (Nat.beq (Nat.mod k 2) 1)) (f 0) (Nat.beq k 0):=rfl;rw[e] at h;cases h0:Nat.beq k 0 with
  |true=>rw[h0] at h;rw[wX h0];exact h
  |false=>
   rw[h0] at h;have hk:k≠0:=fun q=>by subst q;cases h0
   cases h1:Nat.beq (Nat.mod k 2) 1 with
   |true=>
    rw[h1] at h;have h2:k%2=1:=wX h1;have:=tL h;rw[←this];congr 1;show k=2*(k/2)+1;omega
   |false=>
    rw[h1] at h;have h2:k%2≠1:=fun q=>by rw[show Nat.mod k 2=1 from q] at h1;cases h1
    have:=tL h;rw[←this];congr 1;show k=2*(k/2-1)+2;omega
def Zy {α:Type} (n:Nat):List α ->List α:=Nat.rec (motive:=fun _=>List α ->List α) (fun l=>l) (fun _ ih l=>List.casesOn (motive:=fun _=>List α) l [] fun _ t=>ih t) n
def sfx {α:Type} (n:Nat):List α ->List (List α):=Nat.rec (motive:=fun _=>List α ->List (List α)) (fun _=>[]) (fun _ ih l=>l::ih (Zy 32 l)) n
def sg {α:Type} (l:List α) (k:Nat):Option α:=Option.rec (motive:=fun _=>Option α) none (fun s=>CT s (Nat.mod k 32)) (CT (sfx 32 l) (Nat.div k 32))
def uN {α:Type}:∀(n:Nat) (l:List α),Zy n l=l.drop n
 |0,l=>rfl
 |n+1,[]=>rfl
 |n+1,a::l=>uN n l
def wC {α:Type}:∀(l:List α) (n:Nat),CT l n=l[n]?
 |[],n=>by cases n<;>rfl
 |a::l,0=>rfl
 |a::l,n+1=>by rw[Ll,←wC l n];rfl
def IB {α:Type}:∀(n:Nat) (l s:List α) (i:Nat),(sfx n l)[i]? =some s ->s=l.drop (32*i)
 |0,l,s,i,h=>by cases h
 |n+1,l,s,0,h=>by
  have h':some l=some s:=h;cases h';rfl
 |n+1,l,s,i+1,h=>by
  have h':(sfx n (Zy 32 l))[i]? =some s:=h;have:=IB n _ s i h';rw[this,uN,wV];congr 1;omega
def xV {α:Type} {l:List α} {k:Nat} {x:α} (h:sg l k=some x):l[k]? =some x:=by
 unfold sg at h;rw[wC] at h;cases hs:(sfx 32 l)[Nat.div k 32]? with
 |none=>rw[hs] at h;cases h
 |some s=>
  rw[hs] at h;have h':CT s (Nat.mod k 32)=some x:=h;rw[wC,IB 32 l s _ hs,lj] at h';rw[←h'];congr 1;exact(Nat.div_add_mod k 32).symm
def Kg (I:Nat ->Option TypeInfo) (t:Nat):Option TypeDesc:=match I t with
 |some i=>(match i.desc with| .named _ u=>(match I u with|some j=>some j.desc|none=>none)|d=>some d)
 |none=>none
def z0 (v:Value):AV:=match v with
 | .bool b=>AV.b b| .int k n=> .i k n| .string s=> .s (s.data.toList.map UInt8.toNat)| .pointer none=> .pn| .slice none _ _=> .sn| .map none=> .mn| .nilFunc=> .fnil| .nilIface=> .ifn|_=> .un
def Zz (P:Program) (I:Nat ->Option TypeInfo) (t:Nat):Option TI:=match Kg I t,I t with
 |some d,some inf=>match inf.zero with
  |some z=>bif d.isRow then match z with
   | .agg vs=>match vs.toList.map z0 with
    |zs=>bif YX 2 zs vs.toList then some ⟨d,inf.size,inf.bytes,zs,P.stoodInHeld t⟩ else none
   |_=>none
   else match z0 z with
    |zz=>bif kv 2 zz z&&bU zz then some ⟨d,inf.size,inf.bytes,[zz],P.stoodInHeld t⟩ else none
  |none=>none
 |_,_=>none
def TS (P:Program):T TI:=BT 10 fun t=>Zz P (sg P.types.toList) t
namespace Cp
def Yr:Nat ->Value ->AV
 |_,.bool b=> .b b
 |_,.int k n=> .i k n
 |_,.string s=> .s (s.data.toList.map UInt8.toNat)
 |_,.pointer none=> .pn
 |_,.slice none _ _=> .sn
 |_,.map none=> .mn
 |_,.nilFunc=> .fnil
 |n+1,.func (.func f) a b=> .f f (a.toList.map (Yr n)) (b.toList.map (Yr n))
 |n+1,.iface t v=> .ifc t (Yr n v)
 |_,.nilIface=> .ifn
 |n+1,.agg c=> .ag (c.toList.map (Yr n))
 |n+1,.tuple c=> .tu (c.toList.map (Yr n))
 |_,_=> .un
def fF:Operand ->MA
 | .tmp t=> .t t
 | .const v=> .c (Yr 9 v)
 | .global g=> .g g
 | .func f=> .c (.f f [] [])
structure Cx where
 ty:T TI
 mt:List (String×List (Nat×Nat))
 wr:List Nat
 vw:List (Nat×List (Nat×Nat×Nat))
 tf:Bool
section
variable (ty:T TI) (mt:List (String×List (Nat×Nat)))
def kd (t:Nat):TypeDesc:=match ty.get t with|some i=>i.kd|none=> .chan .both 0
def sz (t:Nat):Nat:=match ty.get t with|some i=>i.size|none=>0
def by_ (t:Nat):Nat:=match ty.get t with|some i=>i.bytes|none=>0
def zs (t:Nat):List AV:=match ty.get t with|some i=>i.zs|none=>[.un]
def agg (t:Nat):Bool:=match ty.get t with|some i=>i.kd.isRow|none=>false
def zer (t:Nat):AV:=match ty.get t with|some i=>(bif i.kd.isRow then .ag i.zs else match i.zs with|[z]=>z|_=> .un)|none=> .un
def rep (n:Nat) (l:List AV):List AV:=(List.replicate n l).flatten
def fld (t k:Nat):Option Field:=match kd ty t with| .struct fs=>fs.toList[k]? |_=>none
def et:Nat ->Nat ->ET
 |0,_=> .lf .f
 |n+1,t=>match kd ty t with
  | .bool=> .lf .b
  | .int _=> .lf .i
  | .string=> .lf .s
  | .pointer _=> .lf .p
  | .slice _=> .lf .sl
  | .map _ _=> .lf .m
  | .interface _=> .lf .ifc
  | .struct fs=> .ag (fs.toList.map fun f=>(f.offset,sz ty f.type,agg ty f.type,et n f.type))
  | .array k e=> .ag ((List.range k).map fun i=>(i*sz ty e,sz ty e,agg ty e,et n e))
  |_=> .lf .f
def av7 (n:String):List (Nat×Nat):=match mt.find? (fun e=>decide (e.1=n)) with|some e=>e.2|none=>[]
def isI (t:Nat):Bool:=match kd ty t with| .int _=>true|_=>false
def isS (t:Nat):Bool:=match kd ty t with| .string=>true|_=>false
def av8 (t:Nat):Bool:=match kd ty t with| .int .u8=>true|_=>false
def mem (n:Nat) (l:List Nat):Bool:=l.any (Nat.beq n)
end
section
variable (X:Cx)
end
def op:Op ->Cx ->xc
 | .move x| .assign x=>fun X=> .mv (fF x)
 | .pick c a b=>fun X=> .pick (fF c) (fF a) (fF b)
 | .alloc t=>fun X=>bif mem t X.wr then .tal t (zs X.ty t) else .alloc (zs X.ty t)
 | .box t x=>fun X=>bif mem t X.wr then .tbx t (fF x) else .box (fF x) (sz X.ty t)
 | .build t ps=>fun X=>
  match kd X.ty t with
  | .struct fs=> .build (zs X.ty t) (ps.toList.map fun (i,x)=>match fs.toList[i]? with|some f=>(f.offset,sz X.ty f.type,fF x)|none=>(0,0,fF x))
  | .array _ e=> .build (zs X.ty t) (ps.toList.map fun (i,x)=>(i*sz X.ty e,sz X.ty e,fF x))
  |_=> .bad 1
 | .buildSlice t len ps=>fun X=>
  match kd X.ty t with
  | .slice e=> .bslice (rep len (zs X.ty e)) len (sz X.ty e) (ps.toList.map fun (i,x)=>(i*sz X.ty e,sz X.ty e,fF x))
  |_=> .bad 2
 | .load t a=>fun X=>bif X.tf then .tld (fF a) (sz X.ty t) (agg X.ty t) else .load (fF a) (sz X.ty t) (agg X.ty t)
 | .store t a x=>fun X=>bif X.tf then .tst (fF a) (fF x) (sz X.ty t) else .store (fF a) (fF x) (sz X.ty t)
 | .nilCheck x=>fun X=> .nilc (fF x)
 | .binOp b t x y _=>fun X=>bif isI X.ty t||isS X.ty t then .bin b (fF x) (fF y) else match b with
  | .eql=> .eqv false (et X.ty 9 t) (fF x) (fF y)
  | .neq=> .eqv true (et X.ty 9 t) (fF x) (fF y)
  |_=> .bad 18
 | .unOp u _ x=>fun X=> .un u (fF x)
 | .convert s d x=>fun X=>
  match kd X.ty s,kd X.ty d with
  | .int _,.int k=> .cvi k (fF x)
  | .string,.string=> .cvs (fF x)
  | .string,.slice _=> .s2b (fF x)
  | .slice _,.string=> .b2s (fF x)
  | .pointer _,.unsafePointer=> .cvp (fF x)
  | .unsafePointer,.pointer u=> .cvu (match X.vw.find? (fun e=>Nat.beq e.1 u) with|some e=>e.2|none=>[]) (fF x)
  |_,_=> .bad 3
 | .makeInterface t x=>fun X=> .mif t (fF x)
 | .makeFunc (.func f) a b=>fun X=> .mfn f (a.toList.map fF) (b.toList.map fF)
 | .makeMap _ r=>fun X=> .mmap (r.map fF)
 | .makeSlice t l c=>fun X=>match kd X.ty t with
  | .slice e=> .mslice (zs X.ty e) (sz X.ty e) (by_ X.ty e) (fF l) (fF c)
  |_=> .bad 4
 | .slice t x lo hi mx=>fun X=>match kd X.ty t with
  | .string=> .slcs (fF x) (lo.map fF) (hi.map fF)
  | .slice e=> .slc (sz X.ty e) (fF x) (lo.map fF) (hi.map fF) (mx.map fF)
  | .array n e=> .slca n (sz X.ty e) (fF x) (lo.map fF) (hi.map fF) (mx.map fF)
  | .pointer a=>match kd X.ty a with
   | .array n e=> .slca n (sz X.ty e) (fF x) (lo.map fF) (hi.map fF) (mx.map fF)
   |_=> .bad 5
  |_=> .bad 5
 | .fieldAddr s x k=>fun X=>match fld X.ty s k with|some f=>bif Nat.beq (sz X.ty f.type) 0 then .bad 6 else .fadr (fF x) f.offset|none=> .bad 6
 | .field s x k=>fun X=>match fld X.ty s k with|some f=> .fld (fF x) f.offset (sz X.ty f.type) (agg X.ty f.type)|none=> .bad 7
 | .indexAddr t x ix=>fun X=>match kd X.ty t with
  | .array n e=> .iadra n (sz X.ty e) (fF x) (fF ix)
  | .slice e=> .iadr (sz X.ty e) (fF x) (fF ix)
  |_=> .bad 8
 | .index t x ix=>fun X=>match kd X.ty t with
  | .array n e=> .idxa n (sz X.ty e) (agg X.ty e) (fF x) (fF ix)
  | .string=> .idxs (fF x) (fF ix)
  |_=> .bad 9
 | .lookup t m k ok=>fun X=>match kd X.ty t with| .map q e=> .look (et X.ty 9 q) (fF m) (fF k) (zer X.ty e) ok|_=> .bad 10
 | .mapUpdate t m k v| .insert t m k v=>fun X=>match kd X.ty t with| .map q _=> .mupd (et X.ty 9 q) (fF m) (fF k) (fF v)|_=> .bad 19
 | .mapEntry t m k=>fun X=>match kd X.ty t with| .map q e=> .ment (et X.ty 9 q) (fF m) (fF k) (zer X.ty e)|_=> .bad 11
 | .entryStore _ m s v=>fun X=> .mest (fF m) (fF s) (fF v)
 | .range t x=>fun X=> .rng (fF x) (isS X.ty t)
 | .next x s=>fun X=> .nxt (fF x) s
 | .entry x=>fun X=> .ent (fF x)
 | .typeAssert x _ t ok=>fun X=>match kd X.ty t with
  | .interface _=> .bad 12
  |_=> .tas (fF x) t ok (zer X.ty t)
 | .extract x k=>fun X=> .ext (fF x) k
 | .call c=>fun X=>match c.callee with
  | .value x=>match fF x with
   | .c (.f f [] [])=> .call f (c.args.toList.map fF)
   |a=> .callv a (c.args.toList.map fF)
  | .invoke r n=> .calli (fF r) (av7 X.mt n) (c.args.toList.map fF)
  | .builtin b=>match b,c.args.toList,c.argTypes.toList with
   | .append,[s,x],[t,u]=>match kd X.ty t with
    | .slice e=>bif X.tf&&av8 X.ty e then .tap e (fF s) (fF x) (sz X.ty e) (by_ X.ty e) else bif isI X.ty u then .appz (fF s) (fF x) (sz X.ty e) (by_ X.ty e) (zs X.ty e) else .app (fF s) (fF x) (sz X.ty e) (by_ X.ty e)
    |_=> .bad 13
   | .len,[x],[t]=>match kd X.ty t with
    | .string=> .len .str (fF x)
    | .array n _=> .len (.arr n) (fF x)
    | .pointer a=>(match kd X.ty a with| .array n _=> .len (.arr n) (fF x)|_=> .bad 14)
    | .slice _=> .len .slice (fF x)
    | .map _ _=> .len .map (fF x)
    |_=> .bad 14
   | .cap,[x],_=> .cap (fF x)
   | .unsafeSliceData,[x],_=> .usd (fF x)
   | .unsafeString,[x,y],[t,_]=>(match kd X.ty t with| .pointer e=> .ust e (fF x) (fF y)|_=> .bad 16)
   | .min,l,_=> .min (l.map fF)
   | .max,l,_=> .max (l.map fF)
   |_,_,_=> .bad 16
 |_=>fun X=> .bad 17
structure ze where
 n:Nat
 o:List DI
 p:List Nat
section
variable (X:Cx)
def gd (ops:List Oper) (j:Nat):Nat:=match ops[j]? with|some o=>o.dst.getD 0|none=>0
def g (ops:List Oper) (o:Oper):MG:={ dst:=o.dst,op:=op o.op X,guard:=o.guard.map fun (j,w)=>(gd ops j,w) }
def IC:xc ->Nat
 | .alloc _| .box .. | .bslice .. | .mmap _| .mslice .. | .tal .. | .tbx .. =>1
 | .mv _| .pick .. | .build .. | .load .. | .nilc _| .bin .. | .eqv .. | .un .. | .cvi .. | .cvs _| .b2s _| .mif .. | .mfn .. | .slc .. | .slcs .. | .slca .. | .fadr .. | .fld ..
 | .iadr .. | .iadra .. | .idxs .. | .idxa .. | .look .. | .ent _| .tas .. | .ext .. | .len .. | .cap _| .min _| .max _| .tld .. | .cvp _| .cvu .. | .usd _=>0
 |_=>2
def ZA {α:Type} (l:List α):Nat:=List.rec (motive:=fun _=>Nat) 0 (fun _ _ ih=>Nat.succ ih) l
def WG {α:Type} (l:List α):List α ->List α:=List.rec (motive:=fun _=>List α ->List α) (fun r=>r) (fun a _ ih r=>ih (a::r)) l
def av9 (w A:Nat) (es:List Edge):Nat:=List.rec (motive:=fun _=>Nat) 0 (fun e _ ih=>bif Region.binds .any e then Nat.lor (Nat.lor (Nat.shiftLeft 1 e.on) (Nat.land (Nat.shiftRight A (Nat.mul e.on w)) (Nat.sub (Nat.shiftLeft 1 w) 1))) ih else ih) es
def WH (w:Nat) (l:List Oper):Nat ->Nat ->(Nat ->ze) ->ze:=List.rec (motive:=fun _=>Nat ->Nat ->(Nat ->ze) ->ze) (fun _ A k=>k A) (fun o _ ih i A k=>fN (Nat.lor A (Nat.shiftLeft (av9 w A o.after.toList) (Nat.mul i w))) fun A=>fN (Nat.succ i) fun i=>ih i A k) l
def aw0 (i:Nat) (es:List Edge):Bool:=List.rec (motive:=fun _=>Bool) false (fun e _ ih=>(Region.binds .any e&&Nat.ble i e.on)||ih) es
def ZB (l:List Oper):Nat ->Bool:=List.rec (motive:=fun _=>Nat ->Bool) (fun _=>false) (fun o _ ih i=>aw0 i o.after.toList||ih (Nat.succ i)) l
structure Q where
 i:Nat
 g:MG
 a:Nat
 k:Nat
def rdB (l:List Nat):Nat:=List.rec (motive:=fun _=>Nat) 0 (fun t _ ih=>Nat.lor (Nat.shiftLeft 1 t) ih) l
def aw1 (ops:List Oper) (w A:Nat) (l:List Oper):Nat ->Nat ->(List Q ->ze) ->ze:=List.rec (motive:=fun _=>Nat ->Nat ->(List Q ->ze) ->ze) (fun _ _ k=>k [])
 (fun o _ ih i R k=>(fun m=>fN (Nat.lor R (rdB (pc m))) fun R=>fN (Nat.land (Nat.shiftRight A (Nat.mul i w)) (Nat.sub (Nat.shiftLeft 1 w) 1)) fun a=>
  fN (match o.dst with|some d=>bif Nat.testBit R d then 2 else (bif m.guard.isNone||Nat.beq (IC m.op) 0 then IC m.op else 2)|none=>(bif m.guard.isNone||Nat.beq (IC m.op) 0 then IC m.op else 2)) fun c=>
   fN (Nat.succ i) fun j=>ih j R fun r=>k (⟨i,m,a,c⟩::r)) (g X ops o)) l
def b2B (l:List Q):Nat:=List.rec (motive:=fun _=>Nat) 0 (fun x _ ih=>match x.g.op with| .b2s (.t y)=>Nat.lor (Nat.shiftLeft 1 y) ih|_=>ih) l
def aw2 (l:List Q):List Q:=fN (b2B l) fun B=>bif Nat.beq B 0 then l else
 List.rec (motive:=fun _=>List Q) [] (fun x _ ih=>(bif Nat.beq x.k 1&&(match x.g.dst with|some d=>Nat.testBit B d|none=>false) then ⟨x.i,x.g,x.a,2⟩ else x)::ih) l
def ZC (a b:Nat):Bool:=Nat.beq (Nat.land a b) a
def Ng (l:List Q):Nat ->Nat ->List Nat ->List DI ->List Q ->(Nat ->Nat ->List Nat ->List DI ->List Q ->ze) ->ze:=
 List.rec (motive:=fun _=>Nat ->Nat ->List Nat ->List DI ->List Q ->(Nat ->Nat ->List Nat ->List DI ->List Q ->ze) ->ze) (fun d n p o q k=>k d n p o (WG q []))
  (fun x _ ih d n p o q k=>bif ZC x.a d&&Nat.ble x.k 1 then (fN (Nat.lor d (Nat.shiftLeft 1 x.i)) fun d=>bif Nat.beq x.k 0 then ih d n p (.light x.i x.g::o) q k else fN (Nat.succ n) fun m=>ih d m (x.i::p) (.resv x.i n x.g::o) q k) else ih d n p o (x::q) k) l
def ZD (m:Nat) (l:List Nat) (o:List DI):List DI:=List.rec (motive:=fun _=>List DI) o (fun i _ ih=>bif Nat.testBit m i then .lay i::ih else ih) l
def ZE (m:Nat) (l:List Nat):List Nat:=List.rec (motive:=fun _=>List Nat) [] (fun i _ ih=>bif Nat.testBit m i then ih else i::ih) l
def WI (d:Nat) (l:List Q) (k:Q ->List Q ->ze) (z:ze):ze:=List.rec (motive:=fun _=>(Q ->List Q ->ze) ->ze) (fun _=>z) (fun x r ih k=>bif ZC x.a d then k x r else ih fun y r=>k y (x::r)) l k
def goQ (fw:Bool) (n:Nat):Nat ->Nat ->List Nat ->List DI ->List Q ->ze:=
 Nat.rec (motive:=fun _=>Nat ->Nat ->List Nat ->List DI ->List Q ->ze) (fun _ n p o _=>⟨n,o,p⟩) (fun _ ih d n p o q=>Ng q d n p o [] fun d n p o q=>
  (fun (c:Nat ->Nat ->List Nat ->List DI ->List Q ->ze)=>bif fw then Ng q d n p o [] fun d n p o q=>Ng q d n p o [] c else c d n p o q) fun d n p o q=>
   WI d q (fun x q=>fN (Nat.lor d (Nat.shiftLeft 1 x.i)) fun d=>ih d n (ZE x.a p) (.heavy x.i x.g x.a::ZD x.a (WG p []) o) q) ⟨n,o,p⟩) n
def draw (ops:List Oper):ap:=
 match fN (ZA ops) fun w=>WH w ops 0 0 fun A=>(fun (c:Nat ->ze)=>bif ZB ops 0 then WH w ops 0 A fun A=>WH w ops 0 A c else c A) fun A=>
  aw1 X ops w A ops 0 0 fun l=>goQ (ZB ops 0) (Nat.succ w) 0 0 [] [] (aw2 l) with
 |⟨n,o,p⟩=> .draw n (WG o (ZD (Nat.sub (Nat.shiftLeft 1 (ZA ops)) 1) p []))
def ZF {α:Type} (l:List α):Option α:=List.rec (motive:=fun _=>Option α) none (fun a r ih=>List.casesOn (motive:=fun _=>Option α) r (some a) fun _ _=>ih) l
def ZH (ops:List Oper):Option ap:=match ZF ops with
 |some o=>match o.op with
  | .defer c=>match c.callee with
   | .value (.tmp y)=>some (.dfr ((ops.dropLast).map (g X ops)) (.t y) ((ops.findSome? fun o=>match o.op,o.dst with| .makeFunc (.func f) _ _,some t=>bif Nat.beq t y then some f else none|_,_=>none).getD 0))
   |_=>none
  |_=>none
 |none=>none
def aw3 {α β:Type} (f:α ->β) (l:List α):List β:=List.rec (motive:=fun _=>List β) [] (fun a _ ih=>f a::ih) l
def region (ops:List Oper) (d:Bool):ap:=match ZH X ops with
 |some c=>c
 |none=>bif d then draw X ops else .ops (aw3 (g X ops) ops)
end
def code (c:Code):Cx ->ap:=Code.rec (motive:=fun _=>Cx ->ap)
 (fun _=> .skip) (fun _ ops d X=>region X ops.toList d) (fun _ _ a b X=> .seq (a X) (b X)) (fun c _ _ a b X=> .cond (fF c) (a X) (b X)) (fun i _ c X=> .block i (c X)) (fun _ c X=> .loop (c X))
 (fun f ps _ _ a b X=> .rfun (fF f) ps.toList (a X) (b X)) (fun i _=> .exit i) (fun _ c=>c) (fun _ _=> .skip) (fun _ _=> .bad 1) (fun _=> .ret) (fun _ _=> .bad 2) c
section
variable (X:Cx)
def fn (f:Func):aR:=
 {
  ntmps:=f.ntmps,
  res:=f.results.toList.map (fun| .tmp t=>(t,none)| .cell a t=>(a,some (sz X.ty t,agg X.ty t))),
  body:=match f.body with|some c=>code c X|none=> .bad 3 }
end
end Cp
def ZI:T TI:=TS Go.Proofs.Tryz.prog
def pmt:List (String×List (Nat×Nat)):=[("koine/document.write",[(390,656),(391,658),(393,661),(395,662),(397,663),(399,664),(401,665)])]
def pvw:List (Nat×List (Nat×Nat×Nat)):=[(274,[(276,5,0)])]
def tfs:List Nat:=[78,142,338,441,656,657,658,659,660,661,662,663,664,665]
def Ys (n:Nat) (F:Func):aR:=Cp.fn ⟨ZI,pmt,[276],pvw,Cp.mem n tfs⟩ F
def pg (n:Nat):aR:=match sg Go.Proofs.Tryz.prog.funcs.toList n with|some F=>Ys n F|none=>⟨0,[],.skip⟩
def sbt:Nat ->Nat ->ap ->ap
 |0,_,c=>c
 |n+1,p,c=>bif Nat.beq p 1 then c else match c with
  | .seq a b| .cond _ a b| .rfun _ _ a b=>sbt n (p/2) (bif Nat.beq (p%2) 0 then a else b)
  | .block _ a| .loop a=>sbt n (p/2) a
  |c=>c
def sE (f p:Nat):ap:=sbt 99 p (pg f).body
def RW (x:ap):Nat ->Nat ->ap ->ap
 |0,_,c=>c
 |n+1,p,c=>bif Nat.beq p 1 then x else match c with
  | .seq a b=>bif Nat.beq (p%2) 0 then .seq (RW x n (p/2) a) b else .seq a (RW x n (p/2) b)
  | .cond m a b=>bif Nat.beq (p%2) 0 then .cond m (RW x n (p/2) a) b else .cond m a (RW x n (p/2) b)
  | .rfun m l a b=>bif Nat.beq (p%2) 0 then .rfun m l (RW x n (p/2) a) b else .rfun m l a (RW x n (p/2) b)
  | .block i a=> .block i (RW x n (p/2) a)
  | .loop a=> .loop (RW x n (p/2) a)
  |c=>c
def pt (p:Nat) (x c:ap):ap:=RW x 99 p c
def bE (f:aR) (g:ap ->ap):aR:=⟨f.ntmps,f.res,g f.body⟩
abbrev ev {α:Type} (t:α) {c:α} (_:c=t:=by conv=>rhs;reduce;dsimp only[Int.ofNat_eq_natCast,Int.cast_ofNat_Int,Int.reduceNegSucc]):α:=c
attribute [go_sem] ev
end
end AM
namespace AM
noncomputable section
abbrev fn7:aR:=ev (pg 7)
def Hn:ap:=ev (sE 21 457931)
def CB:ap:=ev (sE 21 392395)
abbrev Ho:ap:=ev (sE 21 523467)
abbrev ac0:aR:=(fun x y z=>ev (bE (pg 21) fun o=>pt 457931 x (pt 392395 y (pt 523467 z o)))) Hn CB Ho
abbrev fn8:aR:=ev (pg 8)
abbrev ac1:aR:=ev (pg 19)
def Hp:ap:=ev (sE 45 23)
abbrev qf:aR:=(fun x=>ev (bE (pg 45) fun o=>pt 23 x o)) Hp
abbrev PX:aR:=ev (pg 46)
abbrev Xk:aR:=ev (pg 97)
def EG:ap:=ev (sE 6 5707)
def Jd:ap:=ev (sE 6 11851)
abbrev Va:ap:=ev (sE 6 459)
abbrev AF:ap:=(fun x y z=>ev (pt 89 x (pt 185 y (pt 7 z (sE 6 75))))) EG Jd Va
abbrev AK:ap:=ev (sE 6 23)
abbrev fn6:aR:=(fun x y=>ev (bE (pg 6) fun o=>pt 75 x (pt 23 y o))) AF AK
structure uj (t:T aR):Prop where
 f7:t.get 7=some fn7
 f21:t.get 21=some ac0
 f8:t.get 8=some fn8
 f19:t.get 19=some ac1
 f45:t.get 45=some qf
 f46:t.get 46=some PX
 f97:t.get 97=some Xk
 f6:t.get 6=some fn6
abbrev ab4:aR:=ev (pg 20)
abbrev ab5:aR:=ev (pg 47)
abbrev ab6:aR:=ev (pg 48)
abbrev UR:ap:=ev (sE 49 39)
def PE:ap:=ev (sE 49 5872023)
abbrev PF:ap:=(fun x=>ev (pt 45875 x (sE 49 151))) PE
abbrev PG:ap:=ev (sE 49 47)
abbrev PH:ap:=ev (sE 49 1119)
abbrev PI:ap:=ev (sE 49 1631)
abbrev PJ:ap:=ev (sE 49 191)
def yJ:ap:=ev (sE 49 255)
def Hh:ap:=(fun x y z u=>ev (pt 34 x (pt 50 y (pt 5 z (pt 7 u (sE 49 63)))))) PH PI PJ yJ
def PK:ap:=(fun x y z u=>ev (pt 4 x (pt 18 y (pt 5 z (pt 7 u (sE 49 15)))))) UR PF PG Hh
abbrev ab7:aR:=(fun x=>ev (bE (pg 49) fun o=>pt 15 x o)) PK
abbrev ay9:aR:=ev (pg 99)
abbrev US:aR:=ev (pg 100)
abbrev UT:aR:=ev (pg 102)
abbrev UU:aR:=ev (pg 103)
abbrev PL:aR:=ev (pg 106)
abbrev I6:ap:=ev (sE 107 19)
abbrev UV:aR:=(fun x=>ev (bE (pg 107) fun o=>pt 19 x o)) I6
abbrev PM:aR:=ev (pg 108)
abbrev UW:aR:=ev (pg 177)
abbrev UX:aR:=ev (pg 178)
abbrev PO:aR:=ev (pg 294)
structure qd (t:T aR):Prop where
 f20:t.get 20=some ab4
 f47:t.get 47=some ab5
 f48:t.get 48=some ab6
 f49:t.get 49=some ab7
 f99:t.get 99=some ay9
 f100:t.get 100=some US
 f102:t.get 102=some UT
 f103:t.get 103=some UU
 f106:t.get 106=some PL
 f107:t.get 107=some UV
 f108:t.get 108=some PM
 f177:t.get 177=some UW
 f178:t.get 178=some UX
 f294:t.get 294=some PO
def Ga:ap:=ev (sE 195 2)
def Gb:ap:=ev (sE 195 9)
def Gc:ap:=ev (sE 195 13)
def Gd:ap:=ev (sE 195 11)
def DH:aR:=(fun x y z u=>ev (bE (pg 195) fun o=>pt 2 x (pt 9 y (pt 13 z (pt 11 u o))))) Ga Gb Gc Gd
def Nx:ap:=ev (sE 425 2)
def Ny:ap:=ev (sE 425 9)
def Nz:ap:=ev (sE 425 37)
def NC:ap:=ev (sE 425 11)
def ND:ap:=(fun x y z=>ev (pt 4 x (pt 18 y (pt 5 z (sE 425 3))))) Ny Nz NC
def TW:aR:=(fun x y=>ev (bE (pg 425) fun o=>pt 2 x (pt 3 y o))) Nx ND
def xX:ap:=ev (sE 426 9)
def xY:ap:=ev (sE 426 37)
def xZ:ap:=ev (sE 426 11)
def x7:ap:=ev (sE 426 23)
def ya:ap:=ev (sE 426 79)
def yc:ap:=ev (sE 426 303)
def yd:ap:=ev (sE 426 687)
def ye:ap:=ev (sE 426 943)
def yf:ap:=(fun x y z u=>ev (pt 2 x (pt 9 y (pt 21 z (pt 29 u (sE 426 47)))))) ya yc yd ye
def yg:ap:=ev (sE 426 95)
def tM:ap:=(fun x y z u v w=>ev (pt 4 x (pt 18 y (pt 5 z (pt 11 u (pt 23 v (pt 47 w (sE 426 3)))))))) xX xY xZ x7 yf yg
def DJ:aR:=(fun x=>ev (bE (pg 426) fun o=>pt 3 x o)) tM
def uO:ap:=ev (sE 424 2)
def uP:ap:=ev (sE 424 9)
def NE:ap:=ev (sE 424 69)
def NF:ap:=ev (sE 424 101)
def NG:ap:=(fun x y=>ev (pt 4 x (pt 6 y (sE 424 21)))) NE NF
def BW:ap:=ev (sE 424 19)
def Ge:ap:=ev (sE 424 155)
def BX:ap:=(fun x=>ev (pt 9 x (sE 424 27))) Ge
def NH:ap:=ev (sE 424 23)
def NI:ap:=ev (sE 424 47)
def lG:ap:=ev (sE 424 1119)
def wE:ap:=ev (sE 424 18015)
def wF:ap:=ev (sE 424 26207)
def wG:ap:=ev (sE 424 7775)
def lH:ap:=(fun x y z=>ev (pt 17 x (pt 25 y (pt 7 z (sE 424 1631))))) wE wF wG
def IF:ap:=(fun x y=>ev (pt 17 x (pt 25 y (sE 424 95)))) lG lH
def BY:ap:=ev (sE 424 191)
def BZ:ap:=ev (sE 424 383)
def B0:ap:=ev (sE 424 767)
def B3:ap:=ev (sE 424 1535)
def IG:ap:=(fun x y z u=>ev (pt 2 x (pt 5 y (pt 11 z (pt 23 u (sE 424 127)))))) BY BZ B0 B3
def qw:ap:=(fun x y z u v w=>ev (pt 4 x (pt 6 y (pt 5 z (pt 11 u (pt 23 v (pt 31 w (sE 424 7)))))))) BW BX NH NI IF IG
def Ag:aR:=(fun x y z u=>ev (bE (pg 424) fun o=>pt 2 x (pt 9 y (pt 21 z (pt 7 u o))))) uO uP NG qw
def NJ:ap:=ev (sE 292 2)
def Gf:ap:=ev (sE 292 5)
def NK:ap:=ev (sE 292 11)
def NL:ap:=ev (sE 292 47)
def NM:ap:=ev (sE 292 95)
def NN:ap:=(fun x y=>ev (pt 5 x (pt 11 y (sE 292 15)))) NL NM
def TX:aR:=(fun x y z u=>ev (bE (pg 292) fun o=>pt 2 x (pt 5 y (pt 11 z (pt 15 u o))))) NJ Gf NK NN
def NO:ap:=ev (sE 423 5)
def TY:aR:=(fun x=>ev (bE (pg 423) fun o=>pt 5 x o)) NO
def NP:ap:=ev (sE 291 2)
def NQ:ap:=ev (sE 291 9)
def NR:ap:=ev (sE 291 11)
def NS:ap:=(fun x y=>ev (pt 4 x (pt 5 y (sE 291 3)))) NQ NR
def TZ:aR:=(fun x y=>ev (bE (pg 291) fun o=>pt 2 x (pt 3 y o))) NP NS
def NT:ap:=ev (sE 175 2)
def NU:ap:=ev (sE 175 9)
def NV:ap:=ev (sE 175 21)
def NW:ap:=(fun x y=>ev (pt 2 x (pt 5 y (sE 175 5)))) NU NV
def NX:ap:=ev (sE 175 11)
def T0:aR:=(fun x y z=>ev (bE (pg 175) fun o=>pt 2 x (pt 5 y (pt 11 z o)))) NT NW NX
def NY:ap:=ev (sE 293 5)
def T1:aR:=(fun x=>ev (bE (pg 293) fun o=>pt 5 x o)) NY
def NZ:ap:=ev (sE 101 2)
def N0:ap:=ev (sE 101 5)
def T2:aR:=(fun x y=>ev (bE (pg 101) fun o=>pt 2 x (pt 5 y o))) NZ N0
def Oa:ap:=ev (sE 176 5)
def T3:aR:=(fun x=>ev (bE (pg 176) fun o=>pt 5 x o)) Oa
def Ob:ap:=ev (sE 105 2)
def Oc:ap:=ev (sE 105 5)
def T4:aR:=(fun x y=>ev (bE (pg 105) fun o=>pt 2 x (pt 5 y o))) Ob Oc
def Od:ap:=ev (sE 179 5)
def T6:aR:=(fun x=>ev (bE (pg 179) fun o=>pt 5 x o)) Od
def Oe:ap:=ev (sE 196 2)
def Of:ap:=ev (sE 196 5)
def Og:ap:=ev (sE 196 11)
def Oh:ap:=ev (sE 196 47)
def Oi:ap:=ev (sE 196 95)
def Oj:ap:=ev (sE 196 191)
def Ok:ap:=(fun x y z=>ev (pt 5 x (pt 11 y (pt 23 z (sE 196 15))))) Oh Oi Oj
def II:aR:=(fun x y z u=>ev (bE (pg 196) fun o=>pt 2 x (pt 5 y (pt 11 z (pt 15 u o))))) Oe Of Og Ok
def B4:ap:=ev (sE 301 9)
def B5:ap:=ev (sE 301 77)
def B6:ap:=(fun x=>ev (pt 9 x (sE 301 13))) B5
def Ol:ap:=ev (sE 301 11)
def Om:ap:=ev (sE 301 23)
def On:ap:=ev (sE 301 47)
def Gg:ap:=ev (sE 301 95)
def Gh:ap:=ev (sE 301 191)
def Gi:ap:=ev (sE 301 383)
def Oo:ap:=(fun x y z u v=>ev (pt 2 x (pt 5 y (pt 11 z (pt 23 u (pt 47 v (sE 301 15))))))) Om On Gg Gh Gi
def Ah:aR:=(fun x y z u=>ev (bE (pg 301) fun o=>pt 9 x (pt 13 y (pt 11 z (pt 15 u o))))) B4 B6 Ol Oo
def Oq:aR:=ev (pg 117)
def Gj:ap:=ev (sE 109 2)
def Gk:ap:=ev (sE 109 5)
def DK:aR:=(fun x y=>ev (bE (pg 109) fun o=>pt 2 x (pt 5 y o))) Gj Gk
def Gl:ap:=ev (sE 180 9)
def Gm:ap:=ev (sE 180 13)
def Gn:ap:=ev (sE 180 19)
def Gp:ap:=ev (sE 180 2251)
def Gq:ap:=ev (sE 180 5323)
def Gs:ap:=ev (sE 180 7371)
def Gt:ap:=ev (sE 180 971)
def B7:ap:=(fun x y z u=>ev (pt 17 x (pt 41 y (pt 57 z (pt 7 u (sE 180 203)))))) Gp Gq Gs Gt
def yh:ap:=(fun x=>ev (pt 3 x (sE 180 75))) B7
def Gu:ap:=(fun x y=>ev (pt 4 x (pt 18 y (sE 180 7)))) Gn yh
def DL:aR:=(fun x y z=>ev (bE (pg 180) fun o=>pt 9 x (pt 13 y (pt 7 z o)))) Gl Gm Gu
def Ot:ap:=ev (sE 290 9)
def Gv:ap:=ev (sE 290 1125)
def Gw:ap:=ev (sE 290 2661)
def Gx:ap:=ev (sE 290 5733)
def Gy:ap:=(fun x y=>ev (pt 2 x (pt 5 y (sE 290 1637)))) Gw Gx
def Gz:ap:=ev (sE 290 485)
def B8:ap:=(fun x y z=>ev (pt 17 x (pt 25 y (pt 7 z (sE 290 101))))) Gv Gy Gz
def pV:ap:=(fun x=>ev (pt 3 x (sE 290 37))) B8
def Ou:ap:=(fun x y=>ev (pt 4 x (pt 18 y (sE 290 3)))) Ot pV
def T7:aR:=(fun x=>ev (bE (pg 290) fun o=>pt 3 x o)) Ou
def Ov:ap:=ev (sE 104 37)
def Ow:ap:=(fun x=>ev (pt 9 x (sE 104 5))) Ov
def Ox:ap:=ev (sE 104 11)
def T8:aR:=(fun x y=>ev (bE (pg 104) fun o=>pt 5 x (pt 11 y o))) Ow Ox
structure gD (t:T aR):Prop where
 f195:t.get 195=some DH
 f425:t.get 425=some TW
 f426:t.get 426=some DJ
 f424:t.get 424=some Ag
 f292:t.get 292=some TX
 f423:t.get 423=some TY
 f291:t.get 291=some TZ
 f175:t.get 175=some T0
 f293:t.get 293=some T1
 f101:t.get 101=some T2
 f176:t.get 176=some T3
 f105:t.get 105=some T4
 f179:t.get 179=some T6
 f196:t.get 196=some II
 f301:t.get 301=some Ah
 f117:t.get 117=some Oq
 f109:t.get 109=some DK
 f180:t.get 180=some DL
 f290:t.get 290=some T7
 f104:t.get 104=some T8
abbrev ab0:aR:=ev (pg 22)
abbrev G7:ap:=ev (sE 50 127)
abbrev ab1:aR:=(fun x=>ev (bE (pg 50) fun o=>pt 127 x o)) G7
abbrev Uq:aR:=ev (pg 111)
abbrev Ur:aR:=ev (pg 112)
abbrev Us:aR:=ev (pg 188)
abbrev Ut:aR:=ev (pg 189)
abbrev Uu:aR:=ev (pg 190)
abbrev Uv:aR:=ev (pg 191)
abbrev El:aR:=ev (pg 192)
structure vZ (t:T aR):Prop where
 f22:t.get 22=some ab0
 f50:t.get 50=some ab1
 f111:t.get 111=some Uq
 f112:t.get 112=some Ur
 f188:t.get 188=some Us
 f189:t.get 189=some Ut
 f190:t.get 190=some Uu
 f191:t.get 191=some Uv
 f192:t.get 192=some El
abbrev Nh:ap:=ev (sE 274 9)
abbrev Ni:ap:=ev (sE 274 37)
abbrev Nj:ap:=ev (sE 274 75)
abbrev BU:ap:=(fun x=>ev (pt 9 x (sE 274 11))) Nj
abbrev BV:ap:=ev (sE 274 23)
abbrev wD:ap:=ev (sE 274 31)
abbrev Nk:aR:=(fun x y z u v=>ev (bE (pg 274) fun o=>pt 9 x (pt 37 y (pt 11 z (pt 23 u (pt 31 v o)))))) Nh Ni BU BV wD
abbrev TT:aR:=ev (pg 410)
abbrev F6:ap:=ev (sE 411 2)
abbrev F7:ap:=ev (sE 411 9)
abbrev F8:ap:=ev (sE 411 13)
abbrev F9:ap:=ev (sE 411 11)
abbrev DG:aR:=(fun x y z u=>ev (bE (pg 411) fun o=>pt 2 x (pt 9 y (pt 13 z (pt 11 u o))))) F6 F7 F8 F9
abbrev Nl:ap:=ev (sE 412 2)
abbrev Nm:ap:=ev (sE 412 9)
abbrev Nn:ap:=ev (sE 412 37)
abbrev No:ap:=ev (sE 412 11)
abbrev Np:ap:=(fun x y z=>ev (pt 4 x (pt 18 y (pt 5 z (sE 412 3))))) Nm Nn No
abbrev TU:aR:=(fun x y=>ev (bE (pg 412) fun o=>pt 2 x (pt 3 y o))) Nl Np
abbrev Nq:ap:=ev (sE 413 75)
abbrev ID:aR:=(fun x=>ev (bE (pg 413) fun o=>pt 75 x o)) Nq
abbrev IE:aR:=ev (pg 275)
abbrev xW:aR:=ev (pg 414)
abbrev TV:aR:=ev (pg 166)
abbrev ZJ:aR:=ev (pg 91)
abbrev ZK:aR:=ev (pg 90)
abbrev ZL:aR:=ev (pg 92)
abbrev ZM:aR:=ev (pg 86)
abbrev ZN:aR:=ev (pg 23)
abbrev Nr:ap:=ev (sE 193 75)
abbrev Af:aR:=(fun x=>ev (bE (pg 193) fun o=>pt 75 x o)) Nr
abbrev ZO:aR:=ev (pg 89)
abbrev WJ:aR:=ev (pg 16)
abbrev Nt:aR:=ev (pg 40)
abbrev Nu:aR:=ev (pg 167)
abbrev Nv:aR:=ev (pg 276)
abbrev Nw:aR:=ev (pg 415)
structure dr (t:T aR):Prop where
 f274:t.get 274=some Nk
 f410:t.get 410=some TT
 f411:t.get 411=some DG
 f412:t.get 412=some TU
 f413:t.get 413=some ID
 f275:t.get 275=some IE
 f414:t.get 414=some xW
 f166:t.get 166=some TV
 f91:t.get 91=some ZJ
 f90:t.get 90=some ZK
 f92:t.get 92=some ZL
 f86:t.get 86=some ZM
 f23:t.get 23=some ZN
 f193:t.get 193=some Af
 f89:t.get 89=some ZO
 f16:t.get 16=some WJ
 f40:t.get 40=some Nt
 f167:t.get 167=some Nu
 f276:t.get 276=some Nv
 f415:t.get 415=some Nw
end
end AM
namespace AM
open Dg Go
noncomputable section
def oM (b:Br):List AV:=[.i .i64 (b.1:Int),.i .i64 (b.2.1:Int),.i .i64 (b.2.2:Int)]
def iP (B:List Br):List AV:=(B.map oM).flatten
def fG (B:List Br):AV:=match B with|[]=> .sn|B=> .ds (iP B) 0 B.length 3
def eD (d:List Br×Nat):AV:= .ag [fG d.1,.i .i64 (d.2:Int)]
def wH (B:List Br):(iP B).length=B.length*3:=by
 induction B with
 |nil=>rfl
 |cons b B ih=>simp[iP] at ih ⊢;rw[ih];simp[oM];omega
def tO (b:Br) (B:List Br):iP (b::B)= .i .i64 (b.1:Int):: .i .i64 (b.2.1:Int):: .i .i64 (b.2.2:Int)::iP B:=by simp[iP,oM]
def si (B C:List Br):iP (B++C)=iP B++iP C:=by simp[iP]
def gu {B:List Br}:∀{i:Nat} {b:Br},B[i]? =some b ->∀j n,j+n<=3 ->sub (iP B) (i*3+j) n=some (((oM b).drop j).take n):=by
 intro i b hb j n hj;have hlt:i<B.length:=(cW.1 hb).1;rw[jd,if_pos (by rw[wH];omega)];congr 1;have:∀(B:List Br) (i:Nat),B[i]? =some b ->((iP B).drop (i*3))=oM b++iP (B.drop (i+1)):=by
  intro B;induction B with
  |nil=>intro i h;simp at h
  |cons a B ih=>
   intro i h;cases i with
   |zero=>simp at h;subst h;simp[iP]
   |succ i=>
    simp at h;rw[tO,show(i+1)*3=i*3+3 by omega];simpa using ih i h
 rw[←wV,this B i hb];simp only[oM];rcases j with _|_|_|j
 ·rcases n with _|_|_|_|n<;>first|omega|rfl|simp
 ·rcases n with _|_|_|n<;>first|omega|rfl|simp
 ·rcases n with _|_|n<;>first|omega|rfl|simp
 ·have:j=0/\ n=0:=by omega
  obtain⟨rfl,rfl⟩:=this;simp
def tP (n:Nat) (h:AH) (B:List Br):aK n h (iP B)=some (iP B):=by
 induction B with
 |nil=>rfl
 |cons b B ih=>rw[tO];simp only[af,ih,aH]
def iF (h:AH) (d:List Br×Nat):aH 9 h (eD d)=some (eD d):=by
 obtain⟨B,r⟩:=d;cases B with
 |nil=>rfl
 |cons b B=>
  have:aK 8 h [.ds (iP (b::B)) 0 (b::B).length 3,.i .i64 (r:Int)]=some [.ds (iP (b::B)) 0 (b::B).length 3,.i .i64 (r:Int)]:=by
   have e:aH 8 h (.ds (iP (b::B)) 0 (b::B).length 3)=(match aK 7 h (iP (b::B)) with|some l=>some (.ds l 0 (b::B).length 3)|none=>none):=rfl;simp only[af,e,tP,ay,aH]
  show(match aK 8 h [.ds (iP (b::B)) 0 (b::B).length 3,.i .i64 (r:Int)] with|some l=>some (AV.ag l)|none=>none)=_;rw[this];rfl
def Ai {n:Nat} (B:List Br):aJ.niceL n (iP B)=true:=by
 induction B with
 |nil=>exact cA
 |cons b B ih=>rw[tO];simp only[bP,gN,ih,fW]
def kB {n:Nat} {B:List Br}:aJ (n+1) (fG B)=true:=by
 cases B with
 |nil=>exact wx
 |cons b B=>show aJ (n+1) (.ds _ _ _ _)=true;rw[ja,Ai]
section
variable {P:Program} {X:dy} {GL:T (List AV)} {fns:T aR}
def pl (B:List Br) (r:Nat):Nat:=if r<2 then 64 else dV B r
def GC (F:gD fns) {B:List Br} {r n:Nat} (hn:In B n) (hb:B.length<=4096):aZ P X GL fns 195 [eD (B,r),.i .i64 (n:Int)] (ι (pl B n:Int)):=by
 refine aZ.intro fun C E=> ?_
 rw[eY E.ok (E.get F.f195)];rcases hn.cases with h1|⟨i,b,rfl,hbi⟩
 ·have hn':(n:Int)<2:=by omega
  simp only[DH,Ga,Gb,Gc,Gd,↓dJ E.ok,↓dK,↓dM,bw,dL,hn',Nat.reduceEqDiff,reduceIte,aP,aH9,eD,go_sem];exact⟨1,by simp[aH,pl,h1]⟩
 ·have hn':¬(((i+2:Nat):Int)<2):=by omega
  have hlt:i<B.length:=(cW.1 hbi).1;have e1:((i+2:Nat):Int)-2=(i:Int):=by omega
  have e2:aV .sub (ι ((i+2:Nat):Int)) (ι 2)=some (ι (i:Int)):=by rw[lF ω,e1]
  have e3:fG B= .ds (iP B) 0 B.length 3:=by cases B with|nil=>simp at hlt|cons _ _=>rfl
  have e4:sub (iP B) (i*3) 1=some [.i .i64 (b.1:Int)]:=by have:=gu hbi 0 1 ω;simpa[oM] using this
  simp only[DH,Ga,Gb,Gc,Gd,↓dJ E.ok,↓dK,↓dM,bw,dL,hn',Nat.reduceEqDiff,reduceIte,aP,aH9,eD,e2,e3,hlt,e4,go_sem];exact⟨1,by simp[aH,pl,bH hbi,show¬(i+2<2) by omega]⟩
def qx (S:aw P X GL fns) (F:gD fns) {B:List Br} {r n:Nat} (hn:In B n) (hb:B.length<=4096) (h:AH):dq P X GL 195 [eD (B,r),.i .i64 (n:Int)] h (ι (pl B n:Int)) h:=
 aE S (GC F hn hb) (n:=9) (by simp only[af,iF,ay,aH]) h
def GD (S:aw P X GL fns) (F:gD fns) {B:List Br} {r n v:Nat} (hn:In B n) (hb:B.length<=4096) (hv:v<64):aZ P X GL fns 425 [eD (B,r),.i .i64 (n:Int),.i .i64 (v:Int)] (.tu [.i .i64 (lo B n v:Int),.i .i64 (hi B n v:Int)]):=by
 refine aZ.intro fun C E=> ?_
 rw[eY E.ok (E.get F.f425)];simp only[TW,Nx,Ny,Nz,NC,ND,↓dJ E.ok,↓dK,↓dM,bw,dL,Nat.reduceEqDiff,Nat.reduceAdd,reduceIte,aP,aH9,eD,go_sem];refine E.con (qx S F hn hb _) ?_;rcases hn.cases with h1|⟨i,b,rfl,hbi⟩
 ·have e:((pl B n:Nat):Int)=64:=by simp[pl,h1]
  have e2:¬((64:Int)=(v:Int)):=by omega
  simp only[↓dJ E.ok,↓dK,↓dM,bw,dL,e,e2,Nat.reduceEqDiff,Nat.reduceAdd,reduceIte,aP,aH9,go_sem];exact⟨1,by simp[aH,dF,jA,jF h1,jG h1]⟩
 ·have hlt:i<B.length:=(cW.1 hbi).1;have e:((pl B (i+2):Nat):Int)=(b.1:Int):=by simp[pl,bH hbi,show¬(i+2<2) by omega]
  by_cases e2:b.1=v
  ·have e2':((b.1:Nat):Int)=(v:Int):=by omega
   have e5:aV .sub (ι ((i+2:Nat):Int)) (ι 2)=some (ι (i:Int)):=by rw[lF ω];congr 2;omega
   have e3:fG B= .ds (iP B) 0 B.length 3:=by cases B with|nil=>simp at hlt|cons _ _=>rfl
   have e4:sub (iP B) (i*3+1) 1=some [.i .i64 (b.2.1:Int)]:=by have:=gu hbi 1 1 ω;simpa[oM] using this
   have e6:sub (iP B) (i*3+2) 1=some [.i .i64 (b.2.2:Int)]:=by have:=gu hbi 2 1 ω;simpa[oM] using this
   simp only[↓dJ E.ok,↓dK,↓dM,bw,dL,e,e2',e3,e4,e5,e6,hlt,Nat.reduceEqDiff,Nat.reduceAdd,reduceIte,aP,aH9,go_sem];exact⟨1,by simp[aH,dF,jA,iD hbi,iE hbi,e2]⟩
  ·have e2':¬(((b.1:Nat):Int)=(v:Int)):=by omega
   simp only[↓dJ E.ok,↓dK,↓dM,bw,dL,e,e2',Nat.reduceEqDiff,Nat.reduceAdd,reduceIte,aP,aH9,go_sem];exact⟨1,by simp[aH,dF,jA,iD hbi,iE hbi,e2]⟩
def uQ (S:aw P X GL fns) (F:gD fns) {B:List Br} {r n v:Nat} (hn:In B n) (hb:B.length<=4096) (hv:v<64) (h:AH):dq P X GL 425 [eD (B,r),.i .i64 (n:Int),.i .i64 (v:Int)] h (.tu [.i .i64 (lo B n v:Int),.i .i64 (hi B n v:Int)]) h:=
 aE S (GD S F hn hb hv) (n:=9) (by simp only[af,iF,ay,aH]) h
end
attribute [go_sem] kB
def eB (b:Br):AV:= .ag [.i .i64 (b.1:Int),.i .i64 (b.2.1:Int),.i .i64 (b.2.2:Int)]
def eN (n:Nat):AV:= .i .i64 (n:Int)
def Kh:rG eB t3 where
 eq:=fun a b=>by
  have:=Wm.eq ((a.1:Int),(a.2.1:Int),(a.2.2:Int)) ((b.1:Int),(b.2.1:Int),(b.2.2:Int));refine this.trans ?_;obtain⟨a1,a2,a3⟩:=a;obtain⟨b1,b2,b3⟩:=b;congr 1;rw[decide_eq_decide];simp only[Prod.mk.injEq];omega
 q:=fun a=>Wm.q ((a.1:Int),(a.2.1:Int),(a.2.2:Int))
 self:=fun a=>Wm.self ((a.1:Int),(a.2.1:Int),(a.2.2:Int))
def dN:Nat ->List Br ->List (Br×Nat)
 |_,[]=>[]
 |i,b::B=>(b,i+2)::dN (i+1) B
def rH:∀(B C:List Br) (i:Nat),dN i (B++C)=dN i B++dN (i+B.length) C
 |[],C,i=>by simp[dN]
 |b::B,C,i=>by simp only[nF,dN,rH B C (i+1),fM];rw[show i+(B.length+1)=i+1+B.length by omega]
def pW:∀(B:List Br) (i:Nat) (b:Br),(∀n,look b (dN i B)=some n ->∃j,n=i+j+2/\ B[j]? =some b)/\ (look b (dN i B)=none ->∀j:Nat,B[j]?≠some b)
 |[],i,b=>⟨fun n h=>by simp[dN,look] at h,fun _ j h=>by simp at h⟩
 |a::B,i,b=>by
  obtain⟨h1,h2⟩:=pW B (i+1) b;by_cases e:b=a
  ·subst e;exact⟨fun n h=>by simp[dN,look] at h;exact⟨0,by omega,rfl⟩,fun h=>by simp[dN,look] at h⟩
  ·refine⟨fun n h=> ?_,fun h j=> ?_⟩
   ·simp only[dN,look,if_neg e] at h;obtain⟨j,e1,e2⟩:=h1 n h;exact⟨j+1,by omega,by simpa using e2⟩
   ·simp only[dN,look,if_neg e] at h;cases j with
    |zero=>simp;exact fun h=>e h.symm
    |succ j=>simpa using h2 h j
def ce (g:Nat ->Option aU) (o:Nat) (B:List Br) (a:AV):Prop:=(B=[]/\ a= .sn)∨(B≠[]/\ a= .sl o 0 B.length none 3/\∃v,g o=some (.cells v (iP B)))
structure BS (p q:Nat) (B:List Br) (o:Nat) (h:AH):Prop where
 known:Ae eB eN h p (dN 0 B)
 cell:∃v a,h.objs.get q=some (.cells v [a,.m p])/\ ce h.objs.get o B a
structure BF (p q:Nat) (o:Nat) (h:AH) (o':Nat) (h':AH):Prop where
 next:h.next<=h'.next
 same:∀j,j<h.next ->j≠p ->j≠q ->j≠o ->h'.objs.get j=h.objs.get j
 new:o'=o∨h.next<=o'
section
variable {P:Program} {X:dy} {GL:T (List AV)} {fns:T aR}
def GF {C:cQ Prop} (E:gW P X GL fns C) (F:gD fns) {p q o:Nat} {B:List Br} {m ver:Nat} {ob:T aU} (bs:BS p q B o ⟨m+17,ver,ob⟩) (hp:p<17) (hq:q<17) (hpq:p≠q) (ho:B≠[] ->o<m+17/\ o≠p/\ o≠q) {v l hh:Nat}
 (hlen:B.length+1<=1048576) (k:AV ->AH ->Prop)
 (hk:∀r B' o' h',BS p q B' o' h' ->BF p q o ⟨m+17,ver,ob⟩ o' h' ->(B'≠[] ->o'<h'.next/\ o'≠p/\ o'≠q) ->
  (l=hh/\ r=l/\ B'=B)∨(l≠hh/\∃i:Nat,r=i+2/\ B'[i]? =some (v,l,hh)/\ (B'=B∨(B'=B++[(v,l,hh)]/\∀j:Nat,B[j]?≠some (v,l,hh)))) ->k (ι (r:Int)) h'):
 bZ C 426 [.p q 0,.i .i64 (v:Int),.i .i64 (l:Int),.i .i64 (hh:Int)] ⟨m+17,ver,ob⟩ k:=by
 rw[eY E.ok (E.get F.f426)];by_cases e:l=hh
 ·have e':((l:Int)=(hh:Int))=True:=eq_true ω;simp only[DJ,xX,xY,xZ,x7,ya,yc,yd,ye,yf,yg,tM,↓dJ E.ok,↓dK,↓dM,bw,dL,e',Nat.reduceEqDiff,Nat.reduceAdd,Nat.reduceShiftRight,Nat.reduceAnd,Nat.reduceBneDiff,reduceIte,aP,aH9,go_sem];exact hk l B o _ bs ⟨bK _,fun _ _ _ _ _=>rfl,.inl rfl⟩ (fun hb=>⟨(ho hb).1,(ho hb).2⟩) (.inl ⟨e,rfl,rfl⟩)
 ·have e':((l:Int)=(hh:Int))=False:=eq_false ω;obtain⟨ver1,hg⟩:=bs.known;obtain⟨ver2,a,hc,hn⟩:=bs.cell;have hc':ob.get q=some (.cells ver2 [a,.m p]):=hc;have hg':ob.get p=some (.map ver1 (cV eB eN 0 (dN 0 B)) (dN 0 B).length):=hg;have n1:(q=m+17)=False:=eq_false ω;have n2:(p=m+17)=False:=eq_false ω;have n3:(q=m+18)=False:=eq_false ω;have n4:(p=m+18)=False:=eq_false ω;have n5:(q=m+19)=False:=eq_false ω;have n6:(p=m+19)=False:=eq_false ω;have rp17:(m+17=p)=False:=eq_false ω;have rp18:(m+18=p)=False:=eq_false ω;have rp19:(m+19=p)=False:=eq_false ω;have rq17:(m+17=q)=False:=eq_false ω;have rq18:(m+18=q)=False:=eq_false ω;have rq19:(m+19=q)=False:=eq_false ω;have s1:(m=m+1)=False:=eq_false ω;have s2:(m=m+2)=False:=eq_false ω;have n7:(q=p)=False:=eq_false ω;have n8:(p=q)=False:=eq_false ω;have lk:∀ver' ob' (ev:MA ->AV),T.get ob' p=some (.map ver1 (cV eB eN 0 (dN 0 B)) (dN 0 B).length) ->ev (.t 24)= .m p ->ev (.t 25)= .ag [.i .i64 (v:Int),.i .i64 (l:Int),.i .i64 (hh:Int)] ->
   step ev ⟨m+17+1,ver',ob'⟩ (.look t3 (.t 24) (.t 25) (ι 0) true)= .v (sQ eN (ι 0) (look (v,l,hh) (dN 0 B))) ⟨m+17+1,ver',ob'⟩:=
   fun ver' ob' ev q1 q2 q3=>kx (k:=(v,l,hh)) (z:= .i .i64 0) Kh (h:=⟨m+17+1,ver',ob'⟩) ⟨ver1,q1⟩ q2 q3
  have ap0:∀ver' ob' (ev:MA ->AV),cG (T.get ob' (m+18))=some [.i .i64 (v:Int),.i .i64 (l:Int),.i .i64 (hh:Int)] ->ev (.t 35)= .sn ->ev (.t 37)= .sl (m+18) 0 1 (some 1) 3 ->
   step ev ⟨m+17+1+1,ver',ob'⟩ (.app (.t 35) (.t 37) 3 24)= .v (.sl (m+19) 0 1 none 3) ⟨m+17+1+1+1,ver',ob'.put (m+19) (.cells ver' [.i .i64 (v:Int),.i .i64 (l:Int),.i .i64 (hh:Int)])⟩:=
   fun ver' ob' ev q1 q2 q3=>uM (h:=⟨m+17+1+1,ver',ob'⟩) q2 q3 (mq.trans q1) rfl rfl
  have ap1:∀ver' ob' (ev:MA ->AV),cG (T.get ob' (m+18))=some [.i .i64 (v:Int),.i .i64 (l:Int),.i .i64 (hh:Int)] ->cG (T.get ob' o)=some (iP B) ->ev (.t 35)= .sl o 0 B.length none 3 ->ev (.t 37)= .sl (m+18) 0 1 (some 1) 3 ->
   step ev ⟨m+17+1+1,ver',ob'⟩ (.app (.t 35) (.t 37) 3 24)= .v (.sl (m+19) 0 (B.length+1) none 3) ⟨m+17+1+1+1,ver'+1,(ob'.put o .gone).put (m+19) (.cells (ver'+1) (iP B++[.i .i64 (v:Int),.i .i64 (l:Int),.i .i64 (hh:Int)]))⟩:=
   fun ver' ob' ev q1 q0 q2 q3=>uL (h:=⟨m+17+1+1,ver',ob'⟩) q2 (mq.trans q0) (wH B) q3 (mq.trans q1) rfl rfl hlen
  have mu:∀ver' ob' (ev:MA ->AV),T.get ob' p=some (.map ver1 (cV eB eN 0 (dN 0 B)) (dN 0 B).length) ->ev (.t 50)= .m p ->ev (.t 51)= .ag [.i .i64 (v:Int),.i .i64 (l:Int),.i .i64 (hh:Int)] ->ev (.t 52)= .i .i64 ((B.length+2:Nat):Int) ->
   step ev ⟨m+17+1+1+1,ver',ob'⟩ (.mupd t3 (.t 50) (.t 51) (.t 52))= .v .un ⟨m+17+1+1+1,ver'+1,ob'.put p (.map (ver'+1) (cV eB eN 0 (ups (v,l,hh) (B.length+2) (dN 0 B))) (ups (v,l,hh) (B.length+2) (dN 0 B)).length)⟩:=
   fun ver' ob' ev q1 q2 q3 q4=>gH (k:=(v,l,hh)) (v:=B.length+2) Kh (h:=⟨m+17+1+1+1,ver',ob'⟩) ⟨ver1,q1⟩ q2 q3 q4
  unfold t3 at lk mu;cases hl:look (v,l,hh) (dN 0 B) with
  |some n=>
   simp only[DJ,xX,xY,xZ,x7,ya,yc,yd,ye,yf,yg,tM,↓dJ E.ok,↓dK,↓dM,bw,dL,e',hc',hg',n1,n2,n3,n4,n5,n6,n7,n8,rp17,rp18,rp19,rq17,rq18,rq19,s1,s2,Nat.reduceEqDiff,Nat.reduceAdd,Nat.reduceShiftRight,Nat.reduceAnd,Nat.reduceBneDiff,reduceIte,aP,aH9,lk,hl,sQ,eN,go_sem];obtain⟨j,hj1,hj2⟩:=(pW B 0 (v,l,hh)).1 n hl;refine hk n B o _ ⟨⟨ver1,?_⟩,ver2,a,?_,?_⟩ ⟨by show m+17<=m+17+1;omega,fun i h1 _ _ _=> ?_,.inl rfl⟩ (fun hb=>⟨by have:=(ho hb).1;show o<m+17+1;omega,(ho hb).2⟩) (.inr ⟨e,j,by omega,hj2,.inl rfl⟩)
   ·simp only[T.get_put,n2,if_false];exact hg'
   ·simp only[T.get_put,n1,if_false];exact hc'
   ·rcases hn with hn|⟨h1,h2,v3,h3⟩
    ·exact .inl hn
    ·refine .inr ⟨h1,h2,v3,?_⟩;have:(o=m+17)=False:=eq_false (by have:=(ho h1).1;omega);simp only[T.get_put,this,if_false];exact h3
   ·have:(i=m+17)=False:=eq_false (by have h1':i<m+17:=h1;omega);simp only[T.get_put,this,if_false]
  |none=>
   have hnew:=(pW B 0 (v,l,hh)).2 hl;have hk2:ups (v,l,hh) (B.length+2) (dN 0 B)=dN 0 (B++[(v,l,hh)]):=by rw[nS hl,rH];simp[dN]
   rw[hk2] at mu;rcases hn with ⟨hB,ha⟩|⟨hB,ha,ver3,ho3⟩
   ·subst ha;have ad:aV .add (ι ((1:Nat):Int)) (ι 1)=some (ι ((B.length+2:Nat):Int)):=by rw[oF ω];subst hB;rfl
    simp only[DJ,xX,xY,xZ,x7,ya,yc,yd,ye,yf,yg,tM,↓dJ E.ok,↓dK,↓dM,bw,dL,e',hc',hg',n1,n2,n3,n4,n5,n6,n7,n8,rp17,rp18,rp19,rq17,rq18,rq19,s1,s2,ap0,ad,mu,Nat.reduceEqDiff,Nat.reduceAdd,Nat.reduceShiftRight,Nat.reduceAnd,Nat.reduceBneDiff,reduceIte,aP,aH9,lk,hl,sQ,eN,go_sem];refine hk (B.length+2) (B++[(v,l,hh)]) (m+19) _ ⟨⟨ver+1+1+1+1,?_⟩,ver+1+1+1,.sl (m+19) 0 1 none 3,?_,.inr ⟨by simp,by subst hB;rfl,ver+1+1,?_⟩⟩ ⟨by show m+17<=m+17+1+1+1;omega,fun i h1 h2 h3 _=> ?_,.inr (by show m+17<=m+19;omega)⟩
     (fun _=>⟨by show m+19<m+17+1+1+1;omega,by omega,by omega⟩) (.inr ⟨e,B.length,rfl,by simp,.inr ⟨rfl,hnew⟩⟩)
    ·simp only[T.get_put,if_true]
    ·simp only[T.get_put,n7,if_false,if_true]
    ·simp only[T.get_put,rp19,rq19,if_false,if_true];subst hB;rfl
    ·have h1':i<m+17:=h1;have q1:(i=m+17)=False:=eq_false ω;have q2:(i=m+18)=False:=eq_false ω;have q3:(i=m+19)=False:=eq_false ω;have q4:(i=p)=False:=eq_false h2;have q5:(i=q)=False:=eq_false h3;simp only[T.get_put,q1,q2,q3,q4,q5,if_false]
   ·subst ha;have hoo:=ho hB;have ho3':ob.get o=some (.cells ver3 (iP B)):=ho3;have o1:(o=m+17)=False:=eq_false ω;have o2:(o=m+18)=False:=eq_false ω;have o3:(o=m+19)=False:=eq_false ω;have o4:(m+17=o)=False:=eq_false ω;have o5:(m+18=o)=False:=eq_false ω;have o6:(m+19=o)=False:=eq_false ω;have o7:(p=o)=False:=eq_false ω;have o8:(q=o)=False:=eq_false ω;have ad:aV .add (ι ((B.length+1:Nat):Int)) (ι 1)=some (ι ((B.length+2:Nat):Int)):=by rw[oF ω];congr 2
    simp only[DJ,xX,xY,xZ,x7,ya,yc,yd,ye,yf,yg,tM,↓dJ E.ok,↓dK,↓dM,bw,dL,e',hc',hg',n1,n2,n3,n4,n5,n6,n7,n8,rp17,rp18,rp19,rq17,rq18,rq19,s1,s2,ap1,ad,mu,ho3',o1,o2,o3,o4,o5,o6,o7,o8,Nat.reduceEqDiff,Nat.reduceAdd,Nat.reduceShiftRight,Nat.reduceAnd,Nat.reduceBneDiff,reduceIte,aP,aH9,lk,hl,sQ,eN,go_sem];refine hk (B.length+2) (B++[(v,l,hh)]) (m+19) _ ⟨⟨ver+1+1+1+1+1,?_⟩,ver+1+1+1+1,.sl (m+19) 0 (B.length+1) none 3,?_,.inr ⟨by simp,by simp,ver+1+1+1,?_⟩⟩ ⟨by show m+17<=m+17+1+1+1;omega,fun i h1 h2 h3 h4=> ?_,.inr (by show m+17<=m+19;omega)⟩
     (fun _=>⟨by show m+19<m+17+1+1+1;omega,by omega,by omega⟩) (.inr ⟨e,B.length,rfl,by simp,.inr ⟨rfl,hnew⟩⟩)
    ·simp only[T.get_put,if_true]
    ·simp only[T.get_put,n7,if_false,if_true]
    ·simp only[T.get_put,rp19,rq19,if_false,if_true,si];rfl
    ·have h1':i<m+17:=h1;have q1:(i=m+17)=False:=eq_false ω;have q2:(i=m+18)=False:=eq_false ω;have q3:(i=m+19)=False:=eq_false ω;have q4:(i=p)=False:=eq_false h2;have q5:(i=q)=False:=eq_false h3;have q6:(i=o)=False:=eq_false h4;simp only[T.get_put,q1,q2,q3,q4,q5,q6,if_false]
end
def eF (g:Bool ->Bool ->Bool):Tr ->Tr ->Tr
 | .c a,.c b=> .c (g a b)
 | .n a b,.n c d=> .n (eF g a c) (eF g b d)
 |t,_=>t
def GG (g:Bool ->Bool ->Bool) (NA NB B:List Br) (x y r:Nat):Prop:=
 In B r/\∀k,k<=3 ->3-k<=dV NA x ->3-k<=dV NB y ->3-k<=dV B r/\ tr B k r=eF g (tr NA k x) (tr NB k y)
def GG.ext {g:Bool ->Bool ->Bool} {NA NB B:List Br} (ok:OK B) {x y r:Nat} (h:GG g NA NB B x y r) (C:List Br):GG g NA NB (B++C) x y r:=
 ⟨h.1.ext,fun k h1 h2 h3=>by rw[tN h.1,GB ok k r h.1];exact h.2 k h1 h2 h3⟩
def GH (g:Bool ->Bool ->Bool) (NA NB B:List Br) (M:List (Br×Nat)):Prop:=∀x y r,look (x,y,0) M=some r ->In NA x ->In NB y ->GG g NA NB B x y r
def gX {κ ν:Type} [DecidableEq κ] {k k':κ} {v:ν}:∀{l:List (κ×ν)},look k' (ups k v l)=if k'=k then some v else look k' l
 |[]=>by simp[ups,look]
 |(a,b)::l=>by
  by_cases e:k=a
  ·subst e;by_cases e2:k'=k<;>simp[ups,look,e2]
  ·simp only[ups,if_neg e,look,gX (l:=l)];by_cases e2:k'=a
   ·have:¬k'=k:=fun h=>e (h▸e2)
    simp[e2,this];intro h;exact absurd h.symm e
   ·simp[e2]
structure CS (NA NB:List Br) (ra rb:Nat) (opf:AV) (B:List Br) (o:Nat) (M:List (Br×Nat)) (h:AH):Prop where
 bs:BS 11 12 B o h
 c5:cG (h.objs.get 5)=some [opf]
 c8:cG (h.objs.get 8)=some [fG NA,.i .i64 (ra:Int),fG NB,.i .i64 (rb:Int),.sn,.i .i64 0]
 c9:cG (h.objs.get 9)=some [.f 293 [] [.p 5 0]]
 c13:cG (h.objs.get 13)=some [.p 12 0]
 memo:Ae eB eN h 14 M
 c15:cG (h.objs.get 15)=some [.m 14]
 c16:cG (h.objs.get 16)=some [.f 424 [] [.p 9 0,.p 15 0,.p 8 0,.p 16 0,.p 13 0]]
 next:17<=h.next
 nodes:B≠[] ->17<=o/\ o<h.next
structure CF (o:Nat) (h:AH) (o':Nat) (h':AH):Prop where
 next:h.next<=h'.next
 same:∀j,17<=j ->j<h.next ->j≠o ->h'.objs.get j=h.objs.get j
 new:o'=o∨h.next<=o'
 old:∀j,j<11 ->h'.objs.get j=h.objs.get j
def CF.refl {o:Nat} {h:AH}:CF o h o h:=⟨bK _,fun _ _ _ _=>rfl,.inl rfl,fun _ _=>rfl⟩
def CF.trans {o o' o'':Nat} {h h' h'':AH} (a:CF o h o' h') (b:CF o' h' o'' h''):CF o h o'' h'':=
 ⟨fq a.next b.next,fun j h1 h2 h3=>by
  rw[b.same j h1 (il h2 a.next) (by
   rcases a.new with e|e;·rw[e];exact h3
   ·omega),a.same j h1 h2 h3],
  by
   rcases b.new with e|e
   ·rcases a.new with e2|e2
    ·exact .inl (e.trans e2)
    ·exact .inr ω
   ·exact .inr (fq a.next e),fun j hj=>(b.old j hj).trans (a.old j hj)⟩
def dO {t:T aU} {i j:Nat} {x:aU} (h:j≠i):(t.put i x).get j=t.get j:=by rw[T.get_put,if_neg h]
def CS.put {NA NB:List Br} {ra rb:Nat} {opf:AV} {B:List Br} {o:Nat} {M:List (Br×Nat)} {n v:Nat} {t:T aU} (c:CS NA NB ra rb opf B o M ⟨n,v,t⟩) {i n' v':Nat} {ob:aU} (hi:17<=i) (ho:B≠[] ->i≠o) (hn:n<=n'):
 CS NA NB ra rb opf B o M ⟨n',v',t.put i ob⟩ where
 bs:=by
  obtain⟨⟨w1,h1⟩,w2,a,h2,h3⟩:=c.bs;refine⟨⟨w1,by show(t.put i ob).get 11=_;rw[dO ω];exact h1⟩,w2,a,by show(t.put i ob).get 12=_;rw[dO ω];exact h2,?_⟩;rcases h3 with h3|⟨e1,e2,w3,e3⟩
  ·exact .inl h3
  ·exact .inr ⟨e1,e2,w3,by show(t.put i ob).get o=_;rw[dO (fun h=>ho e1 h.symm)];exact e3⟩
 c5:=by show cG ((t.put i ob).get 5)=_;rw[dO ω];exact c.c5
 c8:=by show cG ((t.put i ob).get 8)=_;rw[dO ω];exact c.c8
 c9:=by show cG ((t.put i ob).get 9)=_;rw[dO ω];exact c.c9
 c13:=by show cG ((t.put i ob).get 13)=_;rw[dO ω];exact c.c13
 memo:=by obtain⟨w,h⟩:=c.memo;exact⟨w,by show(t.put i ob).get 14=_;rw[dO ω];exact h⟩
 c15:=by show cG ((t.put i ob).get 15)=_;rw[dO ω];exact c.c15
 c16:=by show cG ((t.put i ob).get 16)=_;rw[dO ω];exact c.c16
 next:=fq c.next hn
 nodes:=fun h=>⟨(c.nodes h).1,il (c.nodes h).2 hn⟩
section
variable {P:Program} {X:dy} {GL:T (List AV)} {fns:T aR}
def Yt (C:cQ Prop) (opf:AV) (g:Bool ->Bool ->Bool):Prop:=∃f,opf= .f f [] []/\∀x y h k,k (.b (g x y)) h ->fX C f [.b x,.b y] h k
def WM {C:cQ Prop} (E:gW P X GL fns C) (F:gD fns):Yt C (.f 176 [] []) (fun x y=>x&&y):=by
 refine⟨176,rfl,fun x y h k hk=>E.run ?_⟩;rw[eY E.ok (E.get F.f176)];cases x<;>cases y<;>
  (simp only[T3,Oa,↓dJ E.ok,↓dK,↓dM,bw,dL,Nat.reduceEqDiff,Nat.reduceAdd,reduceIte,aP,aH9,go_sem];exact hk)
def ZQ {C:cQ Prop} (E:gW P X GL fns C) (F:gD fns):Yt C (.f 179 [] []) (fun x y=>x||y):=by
 refine⟨179,rfl,fun x y h k hk=>E.run ?_⟩;rw[eY E.ok (E.get F.f179)];cases x<;>cases y<;>
  (simp only[T6,Od,↓dJ E.ok,↓dK,↓dM,bw,dL,Nat.reduceEqDiff,Nat.reduceAdd,reduceIte,aP,aH9,go_sem];exact hk)
def Oy {C:cQ Prop} (E:gW P X GL fns C) (F:gD fns) {opf:AV} {g:Bool ->Bool ->Bool} (hop:Yt C opf g) {n v:Nat} {t:T aU} (hc:cG (t.get 5)=some [opf]) {x y z:Bool} {k:AV ->AH ->Prop} (hk:k (.b (g x y)) ⟨n,v,t⟩):
 fX C 293 [.b x,.b y,.b z,.p 5 0] ⟨n,v,t⟩ k:=by
 obtain⟨f,rfl,hf⟩:=hop;refine E.run ?_;rw[eY E.ok (E.get F.f293)];simp only[T1,NY,↓dJ E.ok,↓dK,↓dM,bw,dL,hc,Nat.reduceEqDiff,Nat.reduceAdd,reduceIte,aP,aH9,go_sem];exact hf _ _ _ _ hk
end
def yl {g:Bool ->Bool ->Bool} {NA NB B:List Br} {x y v r1 r2 r:Nat} (aW:OK NA) (okB:OK NB) (ok:OK B) (hx:In NA x) (hy:In NB y) (hv:min (dV NA x) (dV NB y)=v) (h3:v<3)
 (h1:GG g NA NB B (lo NA x v) (lo NB y v) r1) (h2:GG g NA NB B (hi NA x v) (hi NB y v) r2) (hr:(r1=r2/\ r=r1)∨(∃i:Nat,r=i+2/\ B[i]? =some (v,r1,r2))):GG g NA NB B x y r:=by
 have lx:=nr aW (v:=v) hx ω h3;have ly:=nr okB (v:=v) hy ω h3;have mx:=ny aW (v:=v) hx ω h3;have my:=ny okB (v:=v) hy ω h3;obtain⟨j,hj⟩:∃j,v=2-j/\ j<=2:=⟨2-v,by omega,by omega⟩;have a1:=h1.2 j ω ω ω;have a2:=h2.2 j ω ω ω;have hin:In B r:=by
  rcases hr with ⟨_,rfl⟩|⟨i,rfl,hb⟩
  ·exact h1.1
  ·exact In.of hb
 have hl:v<=dV B r:=by
  rcases hr with ⟨_,rfl⟩|⟨i,rfl,hb⟩
  ·omega
  ·rw[bH hb];exact bK _
 have hlo:lo B r v=r1:=by
  rcases hr with ⟨_,rfl⟩|⟨i,rfl,hb⟩
  ·exact((kz ok h1.1 h3).2 ω).1
  ·rw[iD hb,if_pos rfl]
 have hhi:hi B r v=r2:=by
  rcases hr with ⟨rfl,rfl⟩|⟨i,rfl,hb⟩
  ·exact((kz ok h1.1 h3).2 ω).2
  ·rw[iE hb,if_pos rfl]
 refine⟨hin,?_⟩;have up:∀i,j+1+i<=3 ->tr B (j+1+i) r=eF g (tr NA (j+1+i) x) (tr NB (j+1+i) y):=by
  intro i;induction i with
  |zero=>
   intro _;show Tr.n (tr B j (lo B r (2-j))) (tr B j (hi B r (2-j)))=eF g (.n (tr NA j (lo NA x (2-j))) (tr NA j (hi NA x (2-j)))) (.n (tr NB j (lo NB y (2-j))) (tr NB j (hi NB y (2-j))));rw[←hj.1,hlo,hhi,a1.2,a2.2];rfl
  |succ i ih=>
   intro hi3;have e:=ih ω;have p1:=(kz ok hin (v:=2-(j+1+i)) ω).2 ω;have p2:=(kz aW hx (v:=2-(j+1+i)) ω).2 ω;have p3:=(kz okB hy (v:=2-(j+1+i)) ω).2 ω;show Tr.n (tr B (j+1+i) (lo B r (2-(j+1+i)))) (tr B (j+1+i) (hi B r (2-(j+1+i))))=eF g (.n (tr NA (j+1+i) (lo NA x (2-(j+1+i)))) (tr NA (j+1+i) (hi NA x (2-(j+1+i))))) (.n (tr NB (j+1+i) (lo NB y (2-(j+1+i)))) (tr NB (j+1+i) (hi NB y (2-(j+1+i)))));rw[p1.1,p1.2,p2.1,p2.2,p3.1,p3.2,e];rfl
 intro k hk k1 k2;obtain⟨i,rfl⟩:∃i,k=j+1+i:=⟨k-(j+1),by omega⟩;exact⟨by omega,up i hk⟩
def CS.memoPut {NA NB:List Br} {ra rb:Nat} {opf:AV} {B:List Br} {o:Nat} {M M':List (Br×Nat)} {n v:Nat} {t:T aU} (c:CS NA NB ra rb opf B o M ⟨n,v,t⟩) {v' w:Nat} (hoB:B=[] ->o=11):
 CS NA NB ra rb opf B o M' ⟨n,v',t.put 14 (.map w (cV eB eN 0 M') M'.length)⟩ where
 bs:=by
  obtain⟨⟨w1,h1⟩,w2,a,h2,h3⟩:=c.bs;refine⟨⟨w1,by show(t.put 14 _).get 11=_;rw[dO ω];exact h1⟩,w2,a,by show(t.put 14 _).get 12=_;rw[dO ω];exact h2,?_⟩;rcases h3 with h3|⟨e1,e2,w3,e3⟩
  ·exact .inl h3
  ·exact .inr ⟨e1,e2,w3,by show(t.put 14 _).get o=_;rw[dO (by have:=(c.nodes e1).1;omega)];exact e3⟩
 c5:=by show cG ((t.put 14 _).get 5)=_;rw[dO ω];exact c.c5
 c8:=by show cG ((t.put 14 _).get 8)=_;rw[dO ω];exact c.c8
 c9:=by show cG ((t.put 14 _).get 9)=_;rw[dO ω];exact c.c9
 c13:=by show cG ((t.put 14 _).get 13)=_;rw[dO ω];exact c.c13
 memo:=⟨w,by show(t.put 14 _).get 14=_;rw[T.get_put,if_pos rfl]⟩
 c15:=by show cG ((t.put 14 _).get 15)=_;rw[dO ω];exact c.c15
 c16:=by show cG ((t.put 14 _).get 16)=_;rw[dO ω];exact c.c16
 next:=c.next
 nodes:=c.nodes
def CS.branch {NA NB:List Br} {ra rb:Nat} {opf:AV} {B B':List Br} {o o':Nat} {M:List (Br×Nat)} {h h':AH} (c:CS NA NB ra rb opf B o M h) (hoB:o=11∨17<=o) (bs:BS 11 12 B' o' h') (bf:BF 11 12 o h o' h')
 (hn:B'≠[] ->o'<h'.next/\ o'≠11/\ o'≠12):CS NA NB ra rb opf B' o' M h':=by
 have hsame:∀j,j<17 ->j≠11 ->j≠12 ->h'.objs.get j=h.objs.get j:=fun j h1 h2 h3=>bf.same j (by have:=c.next;omega) h2 h3 ω
 exact {
  bs:=bs
  c5:=by rw[hsame 5 ω ω ω];exact c.c5
  c8:=by rw[hsame 8 ω ω ω];exact c.c8
  c9:=by rw[hsame 9 ω ω ω];exact c.c9
  c13:=by rw[hsame 13 ω ω ω];exact c.c13
  memo:=by obtain⟨w,hm⟩:=c.memo;exact⟨w,by rw[hsame 14 ω ω ω];exact hm⟩
  c15:=by rw[hsame 15 ω ω ω];exact c.c15
  c16:=by rw[hsame 16 ω ω ω];exact c.c16
  next:=fq c.next bf.next
  nodes:=fun hb=>by
   have h1:=hn hb;refine⟨?_,h1.1⟩;rcases bf.new with e|e
   ·rcases hoB with h2|h2
    ·rw[e,h2] at h1;exact absurd rfl h1.2.1
    ·omega
   ·have:=c.next;omega }
def CF.branch {o o2 o':Nat} {h h3 h4:AH} (a:CF o h o2 h3) (b:BF 11 12 o2 h3 o' h4) (ho:o2=11∨17<=o2) (hn:17<=h3.next):CF o h o' h4:=
 a.trans ⟨b.next,fun j h1 h2 h3=>b.same j h2 ω ω h3,b.new,fun j h1=>b.same j ω ω ω ω⟩
def CF.small {o o':Nat} {h:AH} {n v:Nat} {t:T aU} {v' i:Nat} {ob:aU} (a:CF o h o' ⟨n,v,t⟩) (hi:11<=i/\ i<17):CF o h o' ⟨n,v',t.put i ob⟩:=
 ⟨a.next,fun j h1 h2 h3=>by show(t.put i ob).get j=_;rw[dO ω];exact a.same j h1 h2 h3,a.new,fun j h1=>by show(t.put i ob).get j=_;rw[dO ω];exact a.old j h1⟩
def CF.moved {o o' o'':Nat} {h h':AH} (a:CF o h o' h') (hn:o''=o∨h.next<=o''):CF o h o'' h':=⟨a.next,a.same,hn,a.old⟩
def CS.moved {NA NB:List Br} {ra rb:Nat} {opf:AV} {o o':Nat} {M:List (Br×Nat)} {h:AH} (c:CS NA NB ra rb opf [] o M h):CS NA NB ra rb opf [] o' M h:=
 {
  c with
  bs:=by
   obtain⟨a1,w2,a,h2,h3⟩:=c.bs;refine⟨a1,w2,a,h2,?_⟩;rcases h3 with h3|⟨e1,_⟩
   ·exact .inl h3
   ·exact absurd rfl e1
  nodes:=fun h=>absurd rfl h }
def DM {g:Bool ->Bool ->Bool} {NA NB B B':List Br} {x y v r1 r2 r:Nat} (aW:OK NA) (okB:OK NB) (ok:OK B) (hx:In NA x) (hy:In NB y) (hv:min (dV NA x) (dV NB y)=v) (h3:v<3)
 (h1:GG g NA NB B (lo NA x v) (lo NB y v) r1) (h2:GG g NA NB B (hi NA x v) (hi NB y v) r2)
 (spec:(r1=r2/\ r=r1/\ B'=B)∨(r1≠r2/\∃i:Nat,r=i+2/\ B'[i]? =some (v,r1,r2)/\ (B'=B∨(B'=B++[(v,r1,r2)]/\∀j:Nat,B[j]?≠some (v,r1,r2))))):
 OK B'/\ GG g NA NB B' x y r/\ (∃D,B'=B++D)/\ B'.length<=B.length+1:=by
 have lx:=nr aW (v:=v) hx ω h3;have ly:=nr okB (v:=v) hy ω h3;have mx:=ny aW (v:=v) hx ω h3;have my:=ny okB (v:=v) hy ω h3;have l1:=(h1.2 (2-v) ω ω ω).1;have l2:=(h2.2 (2-v) ω ω ω).1;rcases spec with ⟨e1,e2,rfl⟩|⟨hne,i,e2,hi,e3⟩
 ·exact⟨ok,yl aW okB ok hx hy hv h3 h1 h2 (.inl ⟨e1,e2⟩),⟨[],by simp⟩,by omega⟩
 ·rcases e3 with rfl|⟨rfl,hnew⟩
  ·exact⟨ok,yl aW okB ok hx hy hv h3 h1 h2 (.inr ⟨i,e2,hi⟩),⟨[],by simp⟩,by omega⟩
  ·have ok':=OK.add ok h3 h1.1 h2.1 ω ω hne hnew;exact⟨ok',yl aW okB ok' hx hy hv h3 (h1.ext ok _) (h2.ext ok _) (.inr ⟨i,e2,hi⟩),⟨[(v,r1,r2)],rfl⟩,by simp⟩
section
variable {P:Program} {X:dy} {GL:T (List AV)} {fns:T aR}
def aw4 {a b c:Nat} {ev:MA ->AV} {h:AH} {x y z:MA} (e1:ev x= .i .i64 (a:Int)) (e2:ev y= .i .i64 (b:Int)) (e3:ev z= .i .i64 (c:Int)):step ev h (.min [x,y,z])= .v (ι ((min (min a b) c:Nat):Int)) h:=by
 have hs:step ev h (.min [x,y,z])=(match kK ev [x,y,z] with|some (.i k a::r)=>ig h (mJ gO k r a)|_=> .bad):=rfl;have hm:∀(p q r:Int),mJ gO .i64 [.i .i64 q,.i .i64 r] p=(bif gO q p then (bif gO r q then some (ι r) else some (ι q)) else (bif gO r p then some (ι r) else some (ι p))):=fun p q r=>rfl
 rw[hs];simp only[mj,oE,e1,e2,e3,pj,hm,gG,m9,ig];by_cases h1:(b:Int)<(a:Int)
 ·rw[if_pos h1];by_cases h2:(c:Int)<(b:Int)
  ·rw[if_pos h2];dsimp only;congr 2;omega
  ·rw[if_neg h2];dsimp only;congr 2;omega
 ·rw[if_neg h1];by_cases h2:(c:Int)<(a:Int)
  ·rw[if_pos h2];dsimp only;congr 2;omega
  ·rw[if_neg h2];dsimp only;congr 2;omega
def wI:ap:= .seq BZ (.seq B0 (.seq B3 .ret))
def GJ {C:cQ Prop} (hC:pN C) {f:Nat} {a:List AV} {h:AH} {k k':AV ->AH ->Prop} (hk:∀v h,k v h ->k' v h) (hr:fX C f a h k):fX C f a h k':=by
 obtain⟨n,hr⟩:=hr;exact⟨n,(c1 hC n f a h).mono (k:=fun q=>k q.1 q.2) (k':=fun q=>k' q.1 q.2) (fun q=>hk _ _) hr⟩
set_option maxHeartbeats 8000000 in
def WN {C:cQ Prop} (S:aw P X GL fns) (E:gW P X GL fns C) (F:gD fns) {NA NB:List Br} {ra rb:Nat} {opf:AV} (aW:OK NA) (okB:OK NB) (la:NA.length<=4096) (lb:NB.length<=4096)
 {x y v m ver:Nat} {B:List Br} {o:Nat} {M:List (Br×Nat)} {ob:T aU} {k:AV ->AH ->Prop} (hx:In NA x) (hy:In NB y) (cs:CS NA NB ra rb opf B o M ⟨m+17,ver,ob⟩) (hc:¬(x<2/\ y<2)) (hl:look (x,y,0) M=none) {τ₀:T AV} (g1:τ₀.get 1=some (.p 9 0)) (g2:τ₀.get 2=some (.p 15 0)) (g3:τ₀.get 3=some (.p 8 0)) (g4:τ₀.get 4=some (.p 16 0)) (g5:τ₀.get 5=some (.p 13 0)) (g6:τ₀.get 6=some (.p (m+17) 0))
 (hvv:min (dV NA x) (dV NB y)=v)
 (hgo:∀ver' ob',CS NA NB ra rb opf B o M ⟨m+17+1+1+1,ver',ob'⟩ ->(∀j,j<m+17 ->ob'.get j=ob.get j) ->cG (ob'.get (m+17))=some [.i .i64 (x:Int),.i .i64 (y:Int),.i .i64 0] ->
  cG (ob'.get (m+17+1+1))=some [.i .i64 (hi NA x v:Int),.i .i64 (hi NB y v:Int),.i .i64 0] ->
  fX C 424 [.ag [.i .i64 (lo NA x v:Int),.i .i64 (lo NB y v:Int),.i .i64 0],.p 9 0,.p 15 0,.p 8 0,.p 16 0,.p 13 0] ⟨m+17+1+1+1,ver',ob'⟩ (fun a h'=>∀τ:T AV,τ.get 2=some (.p 15 0) ->τ.get 4=some (.p 16 0) ->τ.get 5=some (.p 13 0) ->
   τ.get 6=some (.p (m+17) 0) ->τ.get 10=some (ι (v:Int)) ->τ.get 12=some (.p (m+17+1+1) 0) ->τ.get 14=some a ->
   qt C wI (fun e τ h=>match e with
    | .exit _=>False
    |_=>kQ k h (aP τ h [(7,none)])) τ h')):
 qt C qw (fun e τ h=>match e with
  | .exit _=>False
  |_=>kQ k h (aP τ h [(7,none)])) τ₀ ⟨m+17+1,ver,ob.put (m+17) (.cells ver [.i .i64 (x:Int),.i .i64 (y:Int),.i .i64 0])⟩:=by
 have c5:=cs.c5;have c8:=cs.c8;have c9:=cs.c9;have c13:=cs.c13;have c15:=cs.c15;have c16:=cs.c16;obtain⟨verm,hm⟩:=cs.memo;dsimp only at c5 c8 c9 c13 c15 c16 hm;have nat0:dI (ι 0)=some 0:=rfl;have nat1:dI (ι 1)=some 1:=rfl;have nat2:dI (ι 2)=some 2:=rfl;have lt0:(0:Nat)<3:=by omega
 have lt1:(1:Nat)<3:=by omega
 have lt2:(2:Nat)<3:=by omega
 have cz:((0:Nat):Int)=0:=rfl;have z2:((0:Int)<2)=True:=eq_true ω;have z1:((0:Int)=1)=False:=eq_false ω;have lo0:lo [] 0 v=0:=rfl;have hi0:hi [] 0 v=0:=rfl;have hm':∀ver' ob' (ev:MA ->AV),T.get ob' 14=some (.map verm (cV eB eN 0 M) M.length) ->ev (.t 41)= .m 14 ->ev (.t 42)= .ag [.i .i64 (x:Int),.i .i64 (y:Int),.i .i64 0] ->
  step ev ⟨m+17+1,ver',ob'⟩ (.look t3 (.t 41) (.t 42) (ι 0) true)= .v (sQ eN (ι 0) (look (x,y,0) M)) ⟨m+17+1,ver',ob'⟩:=
  fun ver' ob' ev q1 q2 q3=>kx (k:=(x,y,0)) (z:= .i .i64 0) Kh (h:=⟨m+17+1,ver',ob'⟩) ⟨verm,q1⟩ q2 q3
 unfold t3 at hm';have hin0:In ([]:List Br) 0:=In.small ω;have lvx:=nq aW hx;have lvy:=nq okB hy;have hv:min (min (pl NA x) (pl NB y)) 64=min (dV NA x) (dV NB y)/\ min (dV NA x) (dV NB y)<3:=by
  have q:∀(B':List Br) (z:Nat),OK B' ->In B' z ->(pl B' z=64/\ dV B' z=3)∨(pl B' z=dV B' z/\ dV B' z<3):=by
   intro B' z ok hz;rcases hz.cases with h1|⟨i,b,rfl,hb⟩
   ·exact .inl ⟨by simp[pl,h1],fe h1⟩
   ·refine .inr ⟨by simp[pl,show¬(i+2<2) by omega],?_⟩;rw[bH hb];exact ok.v _ _ hb
  have q3:∀(B':List Br) (z:Nat),OK B' ->In B' z ->¬z<2 ->dV B' z<3:=by
   intro B' z ok hz h2;rcases hz.cases with h1|⟨i,b,rfl,hb⟩
   ·exact absurd h1 h2
   ·rw[bH hb];exact ok.v _ _ hb
  rcases q NA x aW hx with h1|h1<;>rcases q NB y okB hy with h2|h2
  ·exfalso;apply hc;exact⟨Classical.byContradiction fun h=>by have:=q3 NA x aW hx h;omega,Classical.byContradiction fun h=>by have:=q3 NB y okB hy h;omega⟩
  ·omega
  ·omega
  ·omega
 rw[hvv] at hv;have s1:(m=m+1)=False:=eq_false ω;have s2:(m=m+2)=False:=eq_false ω;have s3:(m+1=m)=False:=eq_false ω;have s4:(m+2=m)=False:=eq_false ω;have hv64:v<64:=by have:=hv.2;omega
 have mn:∀h' (ev:MA ->AV),ev (.t 52)= .i .i64 (pl NA x:Int) ->ev (.t 57)= .i .i64 (pl NB y:Int) ->ev (.t 62)= .i .i64 ((64:Nat):Int) ->step ev h' (.min [.t 52,.t 57,.t 62])= .v (ι (v:Int)) h':=
  fun h' ev q1 q2 q3=>by rw[aw4 q1 q2 q3,hv.1]
 have e64:pl [] 0=64:=rfl;have add0:aV .add (ι 0) (ι 1)=some (ι 1):=rfl;have add1:aV .add (ι 1) (ι 1)=some (ι 2):=rfl;have add2:aV .add (ι 2) (ι 1)=some (ι 3):=rfl;simp only[qw,BW,BX,NH,g1,g2,g3,g4,g5,g6,↓dJ E.ok,↓dK,↓dM,bw,dL,eB,cz,c5,c8,c9,c13,c15,c16,nat0,nat1,nat2,lt0,lt1,lt2,hm,hm',hl,sQ,eN,z2,z1,Nat.reduceEqDiff,Nat.reduceAdd,Nat.reduceMul,Nat.reduceShiftRight,Nat.reduceAnd,Nat.reduceBneDiff,reduceIte,go_sem];refine E.con (qx S F (r:=ra) hx la _) ?_;simp only[g1,g2,g3,g4,g5,g6,↓dJ E.ok,↓dK,↓dM,bw,dL,eB,cz,c5,c8,c9,c13,c15,c16,nat0,nat1,nat2,lt0,lt1,lt2,eN,z2,z1,Nat.reduceEqDiff,Nat.reduceAdd,Nat.reduceMul,Nat.reduceShiftRight,Nat.reduceAnd,Nat.reduceBneDiff,reduceIte,go_sem];refine E.con (qx S F (r:=rb) hy lb _) ?_;simp only[g1,g2,g3,g4,g5,g6,↓dJ E.ok,↓dK,↓dM,bw,dL,eB,cz,c5,c8,c9,c13,c15,c16,nat0,nat1,nat2,lt0,lt1,lt2,eN,z2,z1,Nat.reduceEqDiff,Nat.reduceAdd,Nat.reduceMul,Nat.reduceShiftRight,Nat.reduceAnd,Nat.reduceBneDiff,reduceIte,go_sem];refine E.con (qx S F (B:=[]) (r:=0) (n:=0) hin0 (by simp) _) ?_;simp only[NI,IF,g1,g2,g3,g4,g5,g6,↓dJ E.ok,↓dK,↓dM,bw,dL,eB,cz,c5,c8,c9,c13,c15,c16,nat0,nat1,nat2,lt0,lt1,lt2,e64,mn,eN,z2,z1,Nat.reduceEqDiff,Nat.reduceAdd,Nat.reduceMul,Nat.reduceShiftRight,Nat.reduceAnd,Nat.reduceBneDiff,reduceIte,go_sem];rw[kr E.ok];generalize hL:ap.loop (ap.seq lG lH)=L;simp only[g1,g2,g3,g4,g5,g6,lG,lH,wE,wF,↓dJ E.ok,↓dK,↓dM,bw,dL,eB,cz,c5,c8,c9,c13,c15,c16,nat0,nat1,nat2,lt0,lt1,lt2,eN,Int.reduceLT,add0,add1,add2,s1,s2,s3,s4,z2,z1,Nat.reduceEqDiff,Nat.reduceAdd,Nat.reduceMul,Nat.reduceShiftRight,Nat.reduceAnd,Nat.reduceBneDiff,reduceIte,go_sem];refine E.con (uQ S F (r:=ra) (v:=v) hx la hv64 _) ?_;simp only[g1,g2,g3,g4,g5,g6,wG,↓dJ E.ok,↓dK,↓dM,bw,dL,eB,cz,c5,c8,c9,c13,c15,c16,nat0,nat1,nat2,lt0,lt1,lt2,eN,Int.reduceLT,add0,add1,add2,s1,s2,s3,s4,z2,z1,Nat.reduceEqDiff,Nat.reduceAdd,Nat.reduceMul,Nat.reduceShiftRight,Nat.reduceAnd,Nat.reduceBneDiff,reduceIte,go_sem];subst hL;rw[kr E.ok];generalize hL:ap.loop (ap.seq lG lH)=L;simp only[g1,g2,g3,g4,g5,g6,lG,lH,wE,wF,↓dJ E.ok,↓dK,↓dM,bw,dL,eB,cz,c5,c8,c9,c13,c15,c16,nat0,nat1,nat2,lt0,lt1,lt2,eN,Int.reduceLT,add0,add1,add2,s1,s2,s3,s4,z2,z1,Nat.reduceEqDiff,Nat.reduceAdd,Nat.reduceMul,Nat.reduceShiftRight,Nat.reduceAnd,Nat.reduceBneDiff,reduceIte,go_sem];refine E.con (uQ S F (r:=rb) (v:=v) hy lb hv64 _) ?_;simp only[g1,g2,g3,g4,g5,g6,wG,↓dJ E.ok,↓dK,↓dM,bw,dL,eB,cz,c5,c8,c9,c13,c15,c16,nat0,nat1,nat2,lt0,lt1,lt2,eN,Int.reduceLT,add0,add1,add2,s1,s2,s3,s4,z2,z1,Nat.reduceEqDiff,Nat.reduceAdd,Nat.reduceMul,Nat.reduceShiftRight,Nat.reduceAnd,Nat.reduceBneDiff,reduceIte,go_sem];subst hL;rw[kr E.ok];generalize hL:ap.loop (ap.seq lG lH)=L;simp only[g1,g2,g3,g4,g5,g6,lG,lH,wE,wF,↓dJ E.ok,↓dK,↓dM,bw,dL,eB,cz,c5,c8,c9,c13,c15,c16,nat0,nat1,nat2,lt0,lt1,lt2,eN,Int.reduceLT,add0,add1,add2,s1,s2,s3,s4,z2,z1,Nat.reduceEqDiff,Nat.reduceAdd,Nat.reduceMul,Nat.reduceShiftRight,Nat.reduceAnd,Nat.reduceBneDiff,reduceIte,go_sem];refine E.con (uQ S F (B:=[]) (r:=0) (n:=0) (v:=v) hin0 (by simp) hv64 _) ?_;simp only[g1,g2,g3,g4,g5,g6,wG,↓dJ E.ok,↓dK,↓dM,bw,dL,eB,cz,c5,c8,c9,c13,c15,c16,nat0,nat1,nat2,lt0,lt1,lt2,eN,Int.reduceLT,add0,add1,add2,s1,s2,s3,s4,z2,z1,Nat.reduceEqDiff,Nat.reduceAdd,Nat.reduceMul,Nat.reduceShiftRight,Nat.reduceAnd,Nat.reduceBneDiff,reduceIte,go_sem];subst hL;rw[kr E.ok];generalize hL:ap.loop (ap.seq lG lH)=L;rw[show IG=ap.seq BY wI from rfl];simp only[g1,g2,g3,g4,g5,g6,lG,lH,BY,lo0,hi0,↓dJ E.ok,↓dK,↓dM,bw,dL,eB,cz,c5,c8,c9,c13,c15,c16,nat0,nat1,nat2,lt0,lt1,lt2,eN,Int.reduceLT,add0,add1,add2,s1,s2,s3,s4,z2,z1,Nat.reduceEqDiff,Nat.reduceAdd,Nat.reduceMul,Nat.reduceShiftRight,Nat.reduceAnd,Nat.reduceBneDiff,reduceIte,go_sem];refine GJ E.ok (k:=fun a h'=>∀τ:T AV,τ.get 2=some (.p 15 0) ->τ.get 4=some (.p 16 0) ->τ.get 5=some (.p 13 0) ->
  τ.get 6=some (.p (m+17) 0) ->τ.get 10=some (ι (v:Int)) ->τ.get 12=some (.p (m+17+1+1) 0) ->τ.get 14=some a ->
  qt C wI (fun e τ h=>match e with
   | .exit _=>False
   |_=>kQ k h (aP τ h [(7,none)])) τ h') (fun a h' hk=> ?_) (hgo _ _ ?_ ?_ ?_ ?_)
 ·refine hk _ ?_ ?_ ?_ ?_ ?_ ?_ ?_<;>simp only[T.get_put,g2,g4,g5,g6,Nat.reduceEqDiff,reduceIte]
 ·have ho:∀i,17+m<=i ->B≠[] ->i≠o:=fun i hi hb=>by have:=(cs.nodes hb).2;have h2:o<m+17:=this;omega
  have cs1:=cs.put (i:=m+17) (n':=m+17+1) (v':=ver) (ob:= .cells ver [.i .i64 (x:Int),.i .i64 (y:Int),.i .i64 0]) ω (ho _ ω) ω;have cs2:=cs1.put (i:=m+17+1) (n':=m+17+1+1) (v':=ver) (ob:= .cells ver [.i .i64 0,.i .i64 0,.i .i64 0]) ω (ho _ ω) ω;have cs3:=cs2.put (i:=m+17+1+1) (n':=m+17+1+1+1) (v':=ver) (ob:= .cells ver [.i .i64 0,.i .i64 0,.i .i64 0]) ω (ho _ ω) ω;have pt:∀{v1 i:Nat} {t:T aU} {b:aU},17+m<=i ->CS NA NB ra rb opf B o M ⟨m+17+1+1+1,ver,t⟩ ->CS NA NB ra rb opf B o M ⟨m+17+1+1+1,v1,t.put i b⟩:=fun hi c=>c.put ω (ho _ hi) (bK _)
  exact pt ω (pt ω (pt ω (pt ω (pt ω (pt ω cs3)))))
 ·intro j hj;have q1:(j=m+17)=False:=eq_false ω;have q2:(j=m+17+1)=False:=eq_false ω;have q3:(j=m+17+1+1)=False:=eq_false ω;simp only[T.get_put,q1,q2,q3,if_false]
 ·have q2:(m+17=m+17+1)=False:=eq_false ω;have q3:(m+17=m+17+1+1)=False:=eq_false ω;simp only[T.get_put,q2,q3,if_false,if_true,dB]
 ·simp only[T.get_put,if_true,dB]
set_option maxHeartbeats 8000000 in
def WO {C:cQ Prop} (S:aw P X GL fns) (E:gW P X GL fns C) (F:gD fns) {NA NB:List Br} {ra rb:Nat} {opf:AV} {g:Bool ->Bool ->Bool} (hop:Yt C opf g) (aW:OK NA) (okB:OK NB) (la:NA.length<=4096) (lb:NB.length<=4096):
 ∀(d x y:Nat) (B:List Br) (o:Nat) (M:List (Br×Nat)) (h:AH) (k:AV ->AH ->Prop),d=3-min (dV NA x) (dV NB y) ->In NA x ->In NB y ->CS NA NB ra rb opf B o M h ->OK B ->GH g NA NB B M ->B.length+2^d<=1000000 ->(o=11∨17<=o) ->(B=[] ->o=11) ->
  (∀r B' o' M' h',CS NA NB ra rb opf B' o' M' h' ->CF o h o' h' ->OK B' ->GH g NA NB B' M' ->(∃D,B'=B++D) ->B'.length+1<=B.length+2^d ->(o'=11∨17<=o') ->(B'=[] ->o'=11) ->GG g NA NB B' x y r ->k (ι (r:Int)) h') ->
  bZ C 424 [eB (x,y,0),.p 9 0,.p 15 0,.p 8 0,.p 16 0,.p 13 0] h k:=by
 intro d;induction d using Nat.strongRecOn with
 |ind d IH=>
 intro x y B o M h k hd hx hy cs okb mo hbl ho1 ho2 hk;have hpow:1<=2^d:=Bn;obtain⟨n,ver,ob⟩:=h;obtain⟨m,rfl⟩:∃m,n=m+17:=⟨n-17,by have:=cs.next;show n=n-17+17;have h2:17<=n:=this;omega⟩;have c5:=cs.c5;have c8:=cs.c8;have c9:=cs.c9;have c13:=cs.c13;have c15:=cs.c15;have c16:=cs.c16;obtain⟨verm,hm⟩:=cs.memo;dsimp only at c5 c8 c9 c13 c15 c16 hm;have nat0:dI (ι 0)=some 0:=rfl;have nat1:dI (ι 1)=some 1:=rfl;have nat2:dI (ι 2)=some 2:=rfl;have lt0:(0:Nat)<3:=by omega
 have lt1:(1:Nat)<3:=by omega
 have lt2:(2:Nat)<3:=by omega
 have cz:((0:Nat):Int)=0:=rfl;have z2:((0:Int)<2)=True:=eq_true ω;have z1:((0:Int)=1)=False:=eq_false ω;rw[eY E.ok (E.get F.f424)];by_cases hc:x<2/\ y<2
 ·have x2:((x:Int)<2)=True:=eq_true ω;have y2:((y:Int)<2)=True:=eq_true ω;simp only[Ag,uO,uP,NG,NE,NF,↓dJ E.ok,↓dK,↓dM,bw,dL,eB,cz,c5,c8,c9,c13,c15,c16,nat0,nat1,nat2,lt0,lt1,lt2,x2,y2,z2,z1,Nat.reduceEqDiff,Nat.reduceAdd,Nat.reduceMul,Nat.reduceShiftRight,Nat.reduceAnd,Nat.reduceBneDiff,reduceIte,aP,aH9,go_sem];have cs1:=cs.put (i:=m+17) (n':=m+17+1) (v':=ver) (ob:= .cells ver [.i .i64 (x:Int),.i .i64 (y:Int),.i .i64 0]) ω (fun hb=>by have:=(cs.nodes hb).2;have h2:o<m+17:=this;omega) ω;refine Oy E F hop cs1.c5 ?_;have fin:∀b:Bool,g (decide ((x:Int)=1)) (decide ((y:Int)=1))=b ->GG g NA NB B x y (if b then 1 else 0):=by
   intro b hb;refine⟨In.small (by split<;>omega),fun k h1 h2 h3=> ?_⟩;rw[fe (show(if b=true then 1 else 0)<2 by split<;>omega)];refine⟨by omega,?_⟩;have key:∀(j:Nat) (B':List Br) (z:Nat),z<2 ->tr B' (j+1) z= .n (tr B' j z) (tr B' j z):=fun j B' z hz=>by simp only[tr];rw[jF hz,jG hz]
   have:∀j,tr B j (if b=true then 1 else 0)=eF g (tr NA j x) (tr NB j y):=by
    intro j;induction j with
    |zero=>
     simp only[tr,eF,Tr.c.injEq];have e1:(x==1)=decide ((x:Int)=1):=by rw[zw];simp;omega
     have e2:(y==1)=decide ((y:Int)=1):=by rw[zw];simp;omega
     rw[e1,e2,hb];cases b<;>rfl
    |succ j ih=>rw[key j B _ (by split<;>omega),key j NA x hc.1,key j NB y hc.2,ih];rfl
   exact this k
  cases hb:g (decide ((x:Int)=1)) (decide ((y:Int)=1)) with
  |true=>
   simp only[↓dJ E.ok,↓dK,↓dM,bw,dL,eB,cz,c5,c8,c9,c13,c15,c16,nat0,nat1,nat2,lt0,lt1,lt2,x2,y2,z2,z1,Nat.reduceEqDiff,Nat.reduceAdd,Nat.reduceMul,Nat.reduceShiftRight,Nat.reduceAnd,Nat.reduceBneDiff,reduceIte,aP,aH9,go_sem];exact hk 1 B o M _ cs1 ⟨by show m+17<=m+17+1;omega,fun j h1 h2 h3=>dO (by have h2':j<m+17:=h2;omega),.inl rfl,fun j h1=>dO ω⟩ okb mo ⟨[],by simp⟩ ω ho1 ho2 (fin true hb)
  |false=>
   simp only[↓dJ E.ok,↓dK,↓dM,bw,dL,eB,cz,c5,c8,c9,c13,c15,c16,nat0,nat1,nat2,lt0,lt1,lt2,x2,y2,z2,z1,Nat.reduceEqDiff,Nat.reduceAdd,Nat.reduceMul,Nat.reduceShiftRight,Nat.reduceAnd,Nat.reduceBneDiff,reduceIte,aP,aH9,go_sem];exact hk 0 B o M _ cs1 ⟨by show m+17<=m+17+1;omega,fun j h1 h2 h3=>dO (by have h2':j<m+17:=h2;omega),.inl rfl,fun j h1=>dO ω⟩ okb mo ⟨[],by simp⟩ ω ho1 ho2 (fin false hb)
 ·have hm':∀ver' ob' (ev:MA ->AV),T.get ob' 14=some (.map verm (cV eB eN 0 M) M.length) ->ev (.t 41)= .m 14 ->ev (.t 42)= .ag [.i .i64 (x:Int),.i .i64 (y:Int),.i .i64 0] ->
   step ev ⟨m+17+1,ver',ob'⟩ (.look t3 (.t 41) (.t 42) (ι 0) true)= .v (sQ eN (ι 0) (look (x,y,0) M)) ⟨m+17+1,ver',ob'⟩:=
   fun ver' ob' ev q1 q2 q3=>kx (k:=(x,y,0)) (z:= .i .i64 0) Kh (h:=⟨m+17+1,ver',ob'⟩) ⟨verm,q1⟩ q2 q3
  unfold t3 at hm';have cs1:=cs.put (i:=m+17) (n':=m+17+1) (v':=ver) (ob:= .cells ver [.i .i64 (x:Int),.i .i64 (y:Int),.i .i64 0]) ω (fun hb=>by have:=(cs.nodes hb).2;have h2:o<m+17:=this;omega) ω;cases hl:look (x,y,0) M with
  |some r=>
   by_cases x2:x<2
   ·have x2':((x:Int)<2)=True:=eq_true ω;have y2':((y:Int)<2)=False:=eq_false ω;simp only[Ag,uO,uP,qw,BW,BX,Ge,↓dJ E.ok,↓dK,↓dM,bw,dL,eB,cz,c5,c8,c9,c13,c15,c16,nat0,nat1,nat2,lt0,lt1,lt2,x2',y2',hm,hm',hl,sQ,eN,z2,z1,Nat.reduceEqDiff,Nat.reduceAdd,Nat.reduceMul,Nat.reduceShiftRight,Nat.reduceAnd,Nat.reduceBneDiff,reduceIte,aP,aH9,go_sem];exact hk r B o M _ cs1 ⟨by show m+17<=m+17+1;omega,fun j h1 h2 h3=>dO (by have h2':j<m+17:=h2;omega),.inl rfl,fun j h1=>dO ω⟩ okb mo ⟨[],by simp⟩ ω ho1 ho2 (mo x y r hl hx hy)
   ·have x2':((x:Int)<2)=False:=eq_false ω;simp only[Ag,uO,uP,qw,BW,BX,Ge,↓dJ E.ok,↓dK,↓dM,bw,dL,eB,cz,c5,c8,c9,c13,c15,c16,nat0,nat1,nat2,lt0,lt1,lt2,x2',hm,hm',hl,sQ,eN,z2,z1,Nat.reduceEqDiff,Nat.reduceAdd,Nat.reduceMul,Nat.reduceShiftRight,Nat.reduceAnd,Nat.reduceBneDiff,reduceIte,aP,aH9,go_sem];exact hk r B o M _ cs1 ⟨by show m+17<=m+17+1;omega,fun j h1 h2 h3=>dO (by have h2':j<m+17:=h2;omega),.inl rfl,fun j h1=>dO ω⟩ okb mo ⟨[],by simp⟩ ω ho1 ho2 (mo x y r hl hx hy)
  |none=>
   have fin:∀τ₀:T AV,τ₀.get 1=some (.p 9 0) ->τ₀.get 2=some (.p 15 0) ->τ₀.get 3=some (.p 8 0) ->τ₀.get 4=some (.p 16 0) ->τ₀.get 5=some (.p 13 0) ->τ₀.get 6=some (.p (m+17) 0) ->
    qt C qw (fun e τ h=>match e with
     | .exit _=>False
     |_=>kQ k h (aP τ h [(7,none)])) τ₀ ⟨m+17+1,ver,ob.put (m+17) (.cells ver [.i .i64 (x:Int),.i .i64 (y:Int),.i .i64 0])⟩:=by
    intro τ₀ g1 g2 g3 g4 g5 g6;have lvx:=nq aW hx;have lvy:=nq okB hy;obtain⟨v,hvv⟩:∃v,min (dV NA x) (dV NB y)=v:=⟨_,rfl⟩;have hv3:v<3:=by
     have q3:∀(B':List Br) (z:Nat),OK B' ->In B' z ->¬z<2 ->dV B' z<3:=by
      intro B' z ok hz h2;rcases hz.cases with h1|⟨i,b,rfl,hb⟩
      ·exact absurd h1 h2
      ·rw[bH hb];exact ok.v _ _ hb
     by_cases h1:x<2
     ·have:=q3 NB y okB hy (fun h=>hc ⟨h1,h⟩);omega
     ·have:=q3 NA x aW hx h1;omega
    have lx:=nr aW (v:=v) hx ω hv3;have ly:=nr okB (v:=v) hy ω hv3;have mx:=ny aW (v:=v) hx ω hv3;have my:=ny okB (v:=v) hy ω hv3;have hd1:3-min (dV NA (lo NA x v)) (dV NB (lo NB y v))<=d-1:=by omega
    have hd2:3-min (dV NA (hi NA x v)) (dV NB (hi NB y v))<=d-1:=by omega
    have hd0:1<=d:=by omega
    have pw:2^d=2*2^(d-1):=by rw[←Bo];congr 1;omega
    have pw1:2^(3-min (dV NA (lo NA x v)) (dV NB (lo NB y v)))<=2^(d-1):=y7 ω hd1;have pw2:2^(3-min (dV NA (hi NA x v)) (dV NB (hi NB y v)))<=2^(d-1):=y7 ω hd2;refine WN S E F aW okB la lb hx hy cs hc hl g1 g2 g3 g4 g5 g6 hvv fun ver1 ob1 cs1 old1 n1 w1=> ?_
    refine E.run (IH (3-min (dV NA (lo NA x v)) (dV NB (lo NB y v))) ω (lo NA x v) (lo NB y v) B o M _ _ rfl (yi aW hx) (yi okB hy) cs1 okb mo ω ho1 ho2 ?_);rintro r1 B1 o1 M1 ⟨nn1,ver2,ob2⟩ cs2 cf2 ok2 mo2 ⟨D1,rfl⟩ len2 ho3 ho4 rel1;intro τ t2 t4 t5 t6 t10 t12 t14;obtain⟨m1,rfl⟩:∃m1,nn1=m1+17:=⟨nn1-17,by have h2:17<=nn1:=cs2.next;omega⟩;have hm1:m+3<=m1:=by have h2:m+17+1+1+1<=m1+17:=cf2.next;omega
    have hoB:B≠[] ->o<m+17:=fun hb=>(cs.nodes hb).2
    have hoA:o<m+17:=by
     by_cases hb:B=[]
     ·rw[ho2 hb];omega
     ·exact hoB hb
    have n2:cG (ob2.get (m+17))=some [.i .i64 (x:Int),.i .i64 (y:Int),.i .i64 0]:=by
     rw[show ob2.get (m+17)=ob1.get (m+17) from cf2.same (m+17) ω (by show m+17<m+17+1+1+1;omega) ω];exact n1
    have w2:cG (ob2.get (m+17+1+1))=some [.i .i64 (hi NA x v:Int),.i .i64 (hi NB y v:Int),.i .i64 0]:=by
     rw[show ob2.get (m+17+1+1)=ob1.get (m+17+1+1) from cf2.same (m+17+1+1) ω (by show m+17+1+1<m+17+1+1+1;omega) ω];exact w1
    have c13':cG (ob2.get 13)=some [.p 12 0]:=cs2.c13;have c16':cG (ob2.get 16)=some [.f 424 [] [.p 9 0,.p 15 0,.p 8 0,.p 16 0,.p 13 0]]:=cs2.c16;simp only[wI,BZ,↓dJ E.ok,↓dK,↓dM,bw,dL,t2,t4,t5,t6,t10,t12,t14,n2,w2,c13',c16',Nat.reduceEqDiff,Nat.reduceAdd,Nat.reduceShiftRight,Nat.reduceAnd,Nat.reduceBneDiff,reduceIte,go_sem];refine E.run (IH (3-min (dV NA (hi NA x v)) (dV NB (hi NB y v))) ω (hi NA x v) (hi NB y v) (B++D1) o1 M1 _ _ rfl (yj aW hx) (yj okB hy) cs2 ok2 mo2 ω ho3 ho4 ?_);rintro r2 B2 o2 M2 ⟨nn2,ver3,ob3⟩ cs3 cf3 ok3 mo3 ⟨D2,rfl⟩ len3 ho5 ho6 rel2;obtain⟨m2,rfl⟩:∃m2,nn2=m2+17:=⟨nn2-17,by have h2:17<=nn2:=cs3.next;omega⟩;have hm2:m1<=m2:=by have h2:m1+17<=m2+17:=cf3.next;omega
    have ho1A:o1≠m+17:=by
     rcases cf2.new with e|e
     ·omega
     ·have h2:m+17+1+1+1<=o1:=e;omega
    have n3:cG (ob3.get (m+17))=some [.i .i64 (x:Int),.i .i64 (y:Int),.i .i64 0]:=by
     rw[show ob3.get (m+17)=ob2.get (m+17) from cf3.same (m+17) ω (by show m+17<m1+17;omega) (fun h=>ho1A h.symm)];exact n2
    have c13'':cG (ob3.get 13)=some [.p 12 0]:=cs3.c13;simp only[↓dJ E.ok,↓dK,↓dM,bw,dL,t2,t4,t5,t6,t10,t12,t14,n3,c13'',Nat.reduceEqDiff,Nat.reduceAdd,Nat.reduceShiftRight,Nat.reduceAnd,Nat.reduceBneDiff,reduceIte,go_sem];refine E.run (GF E F cs3.bs (p:=11) (q:=12) ω ω ω (fun hb=>⟨(cs3.nodes hb).2,by have:=(cs3.nodes hb).1;omega,by have:=(cs3.nodes hb).1;omega⟩) (by simp only[cX] at*;omega) _ ?_);rintro r B' o' ⟨nn4,ver4,ob4⟩ bs4 bf4 nodes4 spec;have cs4:=CS.branch cs3 ho5 bs4 bf4 nodes4;have ho4n:o1=o∨m+17+1+1+1<=o1:=cf2.new;have ho5n:o2=o1∨m1+17<=o2:=cf3.new;have ho2A:o2≠m+17:=by omega
    have n4:cG (ob4.get (m+17))=some [.i .i64 (x:Int),.i .i64 (y:Int),.i .i64 0]:=by
     rw[show ob4.get (m+17)=ob3.get (m+17) from bf4.same (m+17) (by show m+17<m2+17;omega) ω ω (fun h=>ho2A h.symm)];exact n3
    obtain⟨verm4,hm4⟩:=cs4.memo;have c15':cG (ob4.get 15)=some [.m 14]:=cs4.c15;have hmu:∀ver' ob' (ev:MA ->AV),T.get ob' 14=some (.map verm4 (cV eB eN 0 M2) M2.length) ->ev (.t 93)= .m 14 ->ev (.t 94)= .ag [.i .i64 (x:Int),.i .i64 (y:Int),.i .i64 0] ->ev (.t 95)= .i .i64 (r:Int) ->
     step ev ⟨nn4,ver',ob'⟩ (.mupd t3 (.t 93) (.t 94) (.t 95))= .v .un ⟨nn4,ver'+1,ob'.put 14 (.map (ver'+1) (cV eB eN 0 (ups (x,y,0) r M2)) (ups (x,y,0) r M2).length)⟩:=
     fun ver' ob' ev q1 q2 q3 q4=>gH (k:=(x,y,0)) (v:=r) Kh (h:=⟨nn4,ver',ob'⟩) ⟨verm4,q1⟩ q2 q3 q4
    unfold t3 at hmu;simp only[B0,B3,↓dJ E.ok,↓dK,↓dM,bw,dL,t2,t4,t5,t6,t10,t12,t14,n4,c15',hm4,hmu,Nat.reduceEqDiff,Nat.reduceAdd,Nat.reduceShiftRight,Nat.reduceAnd,Nat.reduceBneDiff,reduceIte,aP,aH9,go_sem];obtain⟨ok4,rel4,pre4,len4⟩:=DM aW okB ok3 hx hy hvv hv3 (rel1.ext ok2 D2) rel2 spec;have mo4:GH g NA NB B' (ups (x,y,0) r M2):=by
     intro x' y' r' hl' hx' hy';rw[gX] at hl';by_cases e:((x',y',0):Br)=(x,y,0)
     ·rw[if_pos e] at hl';simp only[Prod.mk.injEq] at e;obtain⟨rfl,rfl,_⟩:=e;cases hl';exact rel4
     ·rw[if_neg e] at hl';obtain⟨D,rfl⟩:=pre4;exact(mo3 x' y' r' hl' hx' hy').ext ok3 D
    have cfa:CF o ⟨m+17,ver,ob⟩ o' ⟨nn4,ver4,ob4⟩:=
     CF.branch (CF.trans (CF.trans (⟨by show m+17<=m+17+1+1+1;omega,fun j _ h2 _=>old1 j h2,.inl rfl,fun j h2=>old1 j ω⟩:CF o ⟨m+17,ver,ob⟩ o ⟨m+17+1+1+1,ver1,ob1⟩) cf2) cf3) bf4 ho5 cs3.next
    have lenA:B'.length+1<=B.length+2^d:=by simp only[cX] at*;omega
    have preA:∃D,B'=B++D:=by obtain⟨D,rfl⟩:=pre4;exact⟨D1++D2++D,by simp[jO]⟩
    by_cases hb':B'=[]
    ·subst hb';have hb:B=[]:=by obtain⟨D,h⟩:=preA;exact(List.append_eq_nil_iff.1 h.symm).1
     refine hk r [] 11 _ _ (CS.memoPut (CS.moved cs4) (fun _=>rfl)) (CF.small (CF.moved cfa (.inl (ho2 hb).symm)) ω) ok4 mo4 preA lenA (.inl rfl) (fun _=>rfl) rel4
    ·exact hk r B' o' _ _ (CS.memoPut cs4 (fun h=>absurd h hb')) (CF.small cfa ω) ok4 mo4 preA lenA (.inr (cs4.nodes hb').1) (fun h=>absurd h hb') rel4
   by_cases x2:x<2
   ·have x2':((x:Int)<2)=True:=eq_true ω;have y2':((y:Int)<2)=False:=eq_false ω;simp only[Ag,uO,uP,↓dJ E.ok,↓dK,↓dM,bw,dL,eB,cz,nat0,nat1,nat2,lt0,lt1,lt2,x2',y2',Nat.reduceEqDiff,Nat.reduceAdd,Nat.reduceMul,Nat.reduceShiftRight,Nat.reduceAnd,Nat.reduceBneDiff,reduceIte,go_sem];refine fin _ ?_ ?_ ?_ ?_ ?_ ?_<;>simp only[T.get_put,Nat.reduceEqDiff,reduceIte]
   ·have x2':((x:Int)<2)=False:=eq_false ω;simp only[Ag,uO,uP,↓dJ E.ok,↓dK,↓dM,bw,dL,eB,cz,nat0,nat1,nat2,lt0,lt1,lt2,x2',Nat.reduceEqDiff,Nat.reduceAdd,Nat.reduceMul,Nat.reduceShiftRight,Nat.reduceAnd,Nat.reduceBneDiff,reduceIte,go_sem];refine fin _ ?_ ?_ ?_ ?_ ?_ ?_<;>simp only[T.get_put,Nat.reduceEqDiff,reduceIte]
end
end
end AM
