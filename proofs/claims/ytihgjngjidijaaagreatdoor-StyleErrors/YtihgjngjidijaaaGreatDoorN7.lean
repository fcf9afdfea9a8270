import Derived.Test.YtihgjngjidijaaaGreatDoorProg
import Derived.Test.YtihgjngjidijaaaGreatDoorN5
set_option linter.all false
set_option maxHeartbeats 8000000
namespace Dg
inductive Tr where
 |c (b:Bool)
 |n (l h:Tr)
 deriving DecidableEq
abbrev Br:=Nat×Nat×Nat
def bR (B:List Br) (r:Nat):Nat:=if r<2 then 3 else match B[r-2]? with|some b=>b.1|none=>3
def lo (B:List Br) (r v:Nat):Nat:=if r<2 then r else match B[r-2]? with|some b=>if b.1=v then b.2.1 else r|none=>r
def hi (B:List Br) (r v:Nat):Nat:=if r<2 then r else match B[r-2]? with|some b=>if b.1=v then b.2.2 else r|none=>r
def tr (B:List Br):Nat ->Nat ->Tr
 |0,r=> .c (r==1)
 |k+1,r=> .n (tr B k (lo B r (2-k))) (tr B k (hi B r (2-k)))
structure OK (B:List Br):Prop where
 v:∀(i:Nat) (b:Br),B[i]? =some b ->b.1<3
 l:∀(i:Nat) (b:Br),B[i]? =some b ->b.2.1<i+2/\ b.1<bR B b.2.1
 h:∀(i:Nat) (b:Br),B[i]? =some b ->b.2.2<i+2/\ b.1<bR B b.2.2
 ne:∀(i:Nat) (b:Br),B[i]? =some b ->b.2.1≠b.2.2
 nd:∀(i j:Nat) (b:Br),B[i]? =some b ->B[j]? =some b ->i=j
def oG {B:List Br} {r:Nat} (h:r<2):bR B r=3:=by simp[bR,h]
def gy {B:List Br} {i:Nat} {b:Br} (h:B[i]? =some b):bR B (i+2)=b.1:=by
 unfold bR;rw[if_neg (by omega),show i+2-2=i by omega,h]
def tF {B:List Br} {r v:Nat} (h:r<2):lo B r v=r:=by simp[lo,h]
def tG {B:List Br} {r v:Nat} (h:r<2):hi B r v=r:=by simp[hi,h]
def pb {B:List Br} {i v:Nat} {b:Br} (h:B[i]? =some b):lo B (i+2) v=if b.1=v then b.2.1 else i+2:=by
 unfold lo;rw[if_neg (by omega),show i+2-2=i by omega,h]
def pf {B:List Br} {i v:Nat} {b:Br} (h:B[i]? =some b):hi B (i+2) v=if b.1=v then b.2.2 else i+2:=by
 unfold hi;rw[if_neg (by omega),show i+2-2=i by omega,h]
def In (B:List Br) (r:Nat):Prop:=r<B.length+2
def In.cases {B:List Br} {r:Nat} (h:In B r):r<2∨∃i b,r=i+2/\ B[i]? =some b:=by
 rcases Nat.lt_or_ge r 2 with h1|h1
 ·exact .inl h1
 ·have aV:r-2<B.length:=by unfold In at h;omega
  exact .inr ⟨r-2,B[r-2],by omega,List.getElem?_eq_getElem aV⟩
def In.of {B:List Br} {i:Nat} {b:Br} (h:B[i]? =some b):In B (i+2):=by
 have aV:i<B.length:=(List.getElem?_eq_some_iff.1 h).1;unfold In;omega
def In.small {B:List Br} {r:Nat} (h:r<2):In B r:=by unfold In;omega
def sg {B:List Br} (ok:OK B) {r:Nat} (h:In B r):bR B r<=3:=by
 rcases h.cases with h1|⟨i,b,rfl,hb⟩
 ·rw[oG h1];exact Nat.le_refl _
 ·rw[gy hb];exact Nat.le_of_lt (ok.v _ _ hb)
def wK {B:List Br} (ok:OK B) {r v:Nat} (hr:In B r):In B (lo B r v):=by
 rcases hr.cases with h1|⟨i,b,rfl,hb⟩
 ·rw[tF h1];exact hr
 ·rw[pb hb];split
  ·have:=ok.l _ _ hb;have:=In.of hb;unfold In at*;omega
  ·exact hr
def wL {B:List Br} (ok:OK B) {r v:Nat} (hr:In B r):In B (hi B r v):=by
 rcases hr.cases with h1|⟨i,b,rfl,hb⟩
 ·rw[tG h1];exact hr
 ·rw[pf hb];split
  ·have:=ok.h _ _ hb;have:=In.of hb;unfold In at*;omega
  ·exact hr
def si {B:List Br} (ok:OK B) {r v:Nat} (hr:In B r) (h:v<=bR B r) (hv:v<3):v<bR B (lo B r v):=by
 rcases hr.cases with h1|⟨i,b,rfl,hb⟩
 ·rw[tF h1,oG h1];exact hv
 ·rw[pb hb];rw[gy hb] at h;split
  ·have:=ok.l _ _ hb;omega
  ·rw[gy hb];omega
def sj {B:List Br} (ok:OK B) {r v:Nat} (hr:In B r) (h:v<=bR B r) (hv:v<3):v<bR B (hi B r v):=by
 rcases hr.cases with h1|⟨i,b,rfl,hb⟩
 ·rw[tG h1,oG h1];exact hv
 ·rw[pf hb];rw[gy hb] at h;split
  ·have:=ok.h _ _ hb;omega
  ·rw[gy hb];omega
def uS {B:List Br} (ok:OK B) {r v:Nat} (hr:In B r) (hv:v<3):(lo B r v=hi B r v↔bR B r≠v)/\ (bR B r≠v ->lo B r v=r/\ hi B r v=r):=by
 rcases hr.cases with h1|⟨i,b,rfl,hb⟩
 ·rw[tF h1,tG h1,oG h1];exact⟨⟨λ_=>by omega,λ_=>rfl⟩,λ_=>⟨rfl,rfl⟩⟩
 ·rw[pb hb,pf hb,gy hb];by_cases e:b.1=v
  ·rw[if_pos e,if_pos e];exact⟨⟨λh=>absurd h (ok.ne _ _ hb),λh=>absurd e h⟩,λh=>absurd e h⟩
  ·rw[if_neg e,if_neg e];exact⟨⟨λ_=>e,λ_=>rfl⟩,λ_=>⟨rfl,rfl⟩⟩
def Hq {B:List Br} (ok:OK B):∀(k x y:Nat),k<=3 ->In B x ->In B y ->3-k<=bR B x ->3-k<=bR B y ->tr B k x=tr B k y ->x=y:=by
 intro k;induction k with
 |zero=>
  intro x y _ hx hy lx ly e;have one:∀z,In B z ->3<=bR B z ->z<2:=by
   intro z hz lz;rcases hz.cases with h|⟨i,b,rfl,hb⟩
   ·exact h
   ·rw[gy hb] at lz;have:=ok.v _ _ hb;omega
  have h1:=one x hx (by omega);have h2:=one y hy (by omega);simp only[tr,Tr.c.injEq] at e;have h3:x=0∨x=1:=by omega
  have h4:y=0∨y=1:=by omega
  rcases h3 with rfl|rfl<;>rcases h4 with rfl|rfl<;>first|rfl|(simp at e)
 |succ k ih=>
  intro x y hk hx hy lx ly e;simp only[tr,Tr.n.injEq] at e;obtain⟨e1,e2⟩:=e;have l1:=si ok (v:=2-k) hx (by omega) (by omega);have l2:=si ok (v:=2-k) hy (by omega) (by omega);have l3:=sj ok (v:=2-k) hx (by omega) (by omega);have l4:=sj ok (v:=2-k) hy (by omega) (by omega);have c1:=ih _ _ (by omega) (wK ok hx) (wK ok hy) (by omega) (by omega) e1;have c2:=ih _ _ (by omega) (wL ok hx) (wL ok hy) (by omega) (by omega) e2;have sx:=uS ok hx (v:=2-k) (by omega);have sy:=uS ok hy (v:=2-k) (by omega);by_cases hx1:bR B x=2-k
  ·have hy1:bR B y=2-k:=by
    apply Classical.byContradiction;intro hn;have:=sy.2 hn;have h5:lo B x (2-k)=hi B x (2-k):=by rw[c1,c2,this.1,this.2]
    exact(sx.1.1 h5) hx1
   rcases hx.cases with h|⟨i,b,rfl,hb⟩
   ·rw[oG h] at hx1;omega
   ·rcases hy.cases with h|⟨j,b',rfl,hb'⟩
    ·rw[oG h] at hy1;omega
    ·rw[gy hb] at hx1;rw[gy hb'] at hy1;rw[pb hb,pb hb',if_pos hx1,if_pos hy1] at c1;rw[pf hb,pf hb',if_pos hx1,if_pos hy1] at c2;have:b=b':=by
      obtain⟨v,l,h⟩:=b;obtain⟨v',l',h'⟩:=b';simp only at hx1 hy1 c1 c2;rw[hx1,hy1,c1,c2]
     subst this;rw[ok.nd _ _ _ hb hb']
  ·have h1:=sx.2 hx1;rw[h1.1] at c1;rw[h1.2] at c2;by_cases hy1:bR B y=2-k
   ·exact absurd hy1 (sy.1.1 (c1.symm.trans c2))
   ·rw[(sy.2 hy1).1] at c1;exact c1
def Hr {B C:List Br} {i:Nat} {b:Br} (h:B[i]? =some b):(B++C)[i]? =some b:=by
 have aV:i<B.length:=(List.getElem?_eq_some_iff.1 h).1;rw[List.getElem?_append_left aV];exact h
def In.ext {B C:List Br} {r:Nat} (h:In B r):In (B++C) r:=by unfold In at*;simp;omega
def AU {B C:List Br} {r:Nat} (h:In B r):bR (B++C) r=bR B r:=by
 rcases h.cases with h1|⟨i,b,rfl,hb⟩
 ·rw[oG h1,oG h1]
 ·rw[gy hb,gy (Hr hb)]
def at2 {B C:List Br} {r v:Nat} (h:In B r):lo (B++C) r v=lo B r v:=by
 rcases h.cases with h1|⟨i,b,rfl,hb⟩
 ·rw[tF h1,tF h1]
 ·rw[pb hb,pb (Hr hb)]
def at3 {B C:List Br} {r v:Nat} (h:In B r):hi (B++C) r v=hi B r v:=by
 rcases h.cases with h1|⟨i,b,rfl,hb⟩
 ·rw[tG h1,tG h1]
 ·rw[pf hb,pf (Hr hb)]
def Hs {B C:List Br} (ok:OK B):∀(k r:Nat),In B r ->tr (B++C) k r=tr B k r
 |0,_,_=>rfl
 |k+1,r,h=>by simp only[tr];rw[at2 h,at3 h,Hs ok k _ (wK ok h),Hs ok k _ (wL ok h)]
def OK.add {B:List Br} (ok:OK B) {v l h:Nat} (hv:v<3) (hl:In B l) (hh:In B h) (ll:v<bR B l) (lh:v<bR B h) (dc:l≠h) (hnew:∀i:Nat,B[i]?≠some (v,l,h)):OK (B++[(v,l,h)]):=by
 have key:∀(i:Nat) (b:Br),(B++[(v,l,h)])[i]? =some b ->B[i]? =some b∨(i=B.length/\ b=(v,l,h)):=by
  intro i b hb;rcases Nat.lt_or_ge i B.length with h1|h1
  ·rw[List.getElem?_append_left h1] at hb;exact .inl hb
  ·rw[List.getElem?_append_right h1] at hb;have:i-B.length=0:=by
    rcases Nat.eq_zero_or_pos (i-B.length) with h2|h2
    ·exact h2
    ·rw[List.getElem?_eq_none (by simp;omega)] at hb;cases hb
   rw[this] at hb;simp at hb;exact .inr ⟨by omega,hb.symm⟩
 constructor
 ·intro i b hb;rcases key i b hb with h1|⟨_,rfl⟩
  ·exact ok.v _ _ h1
  ·exact hv
 ·intro i b hb;rcases key i b hb with h1|⟨rfl,rfl⟩
  ·have:=ok.l _ _ h1;have hin:In B b.2.1:=by have:=In.of h1;unfold In at*;omega
   rw[AU hin];exact this
  ·refine⟨hl,?_⟩;show v<bR _ l;rw[AU hl];exact ll
 ·intro i b hb;rcases key i b hb with h1|⟨rfl,rfl⟩
  ·have:=ok.h _ _ h1;have hin:In B b.2.2:=by have:=In.of h1;unfold In at*;omega
   rw[AU hin];exact this
  ·refine⟨hh,?_⟩;show v<bR _ h;rw[AU hh];exact lh
 ·intro i b hb;rcases key i b hb with h1|⟨_,rfl⟩
  ·exact ok.ne _ _ h1
  ·exact dc
 ·intro i j b hb hb';rcases key i b hb with h1|⟨h1,h3⟩<;>rcases key j b hb' with h2|⟨h2,h4⟩
  ·exact ok.nd _ _ _ h1 h2
  ·rw[h4] at h1;exact absurd h1 (hnew i)
  ·rw[h3] at h2;exact absurd h2 (hnew j)
  ·omega
def sk (S:List (Nat×Tr)):Nat ->Tr ->Nat
 |_,.c b=>if b then 1 else 0
 |v,.n l h=>if l=h then sk S (v+1) l else S.idxOf (v,.n l h)+2
def mQ:Nat ->Tr ->List (Nat×Tr) ->List (Nat×Tr)
 |_,.c _,S=>S
 |v,.n l h,S=>if l=h then mQ (v+1) l S else if (v,Tr.n l h)∈S then S else mQ (v+1) h (mQ (v+1) l S)++[(v,.n l h)]
def node (S:List (Nat×Tr)):Nat×Tr ->Br
 |(v,.n l h)=>(v,sk S (v+1) l,sk S (v+1) h)
 |(v,.c _)=>(v,0,0)
def aE (t:Tr):List Br×Nat:=let S:=mQ 0 t [];(S.map (node S),sk S 0 t)
def dV (B:List Br):Nat ->Nat ->List Nat ->List Nat
 |0,_,V=>V
 |d+1,n,V=>if n<2∨n∈V then V else match B[n-2]? with
  |some b=>dV B d b.2.2 (dV B d b.2.1 V)++[n]
  |none=>V
def nb (V:List Nat) (n:Nat):Nat:=if n<2 then n else V.idxOf n+2
def jp (B:List Br) (V:List Nat):List Br:=V.map λn=>match B[n-2]? with
 |some b=>(b.1,nb V b.2.1,nb V b.2.2)
 |none=>(0,0,0)
structure Cl (B:List Br) (V:List Nat):Prop where
 two:∀n∈V,2<=n/\ In B n
 l:∀n∈V,∀b,B[n-2]? =some b ->b.2.1<2∨b.2.1∈V
 h:∀n∈V,∀b,B[n-2]? =some b ->b.2.2<2∨b.2.2∈V
def Cl.nil {B:List Br}:Cl B []:=⟨(by simp),(by simp),(by simp)⟩
def wM {V W:List Nat} {n:Nat} (h:n<2∨n∈V):nb (V++W) n=nb V n:=by
 unfold nb;split
 ·rfl
 ·rw[List.idxOf_append,if_pos (by
   rcases h with h|h;·omega
   ·exact h)]
def at4 {B:List Br} {V W:List Nat} (c:Cl B V):jp B (V++W)=jp B V++W.map λn=>match B[n-2]? with
 |some b=>(b.1,nb (V++W) b.2.1,nb (V++W) b.2.2)
 |none=>(0,0,0):=by
 unfold jp;rw[List.map_append];congr 1;apply List.map_congr_left;intro n hn;split
 ·rename_i b hb;rw[wM (c.l n hn b hb),wM (c.h n hn b hb)]
 ·rfl
def O9 {B:List Br} {V:List Nat} (c:Cl B V) {n:Nat} {b:Br} (hb:B[n-2]? =some b) (hl:b.2.1<2∨b.2.1∈V) (hh:b.2.2<2∨b.2.2∈V):jp B (V++[n])=jp B V++[(b.1,nb V b.2.1,nb V b.2.2)]:=by
 rw[at4 c];simp only[List.map_cons,List.map_nil,hb,wM hl,wM hh]
def Dy {B:List Br}:∀(d n:Nat) (V:List Nat),∃W,dV B d n V=V++W:=by
 intro d;induction d with
 |zero=>intro n V;exact⟨[],by simp[dV]⟩
 |succ d ih=>
  intro n V;simp only[dV];split
  ·exact⟨[],by simp⟩
  ·split
   ·rename_i b _;obtain⟨W1,h1⟩:=ih b.2.1 V;obtain⟨W2,h2⟩:=ih b.2.2 (V++W1);exact⟨W1++W2++[n],by rw[h1,h2];simp[List.append_assoc]⟩
   ·exact⟨[],by simp⟩
def yq {B:List Br} (ok:OK B):∀(d n:Nat) (V:List Nat),Cl B V ->In B n ->3-bR B n<=d ->Cl B (dV B d n V)/\ (n<2∨n∈dV B d n V):=by
 intro d;induction d with
 |zero=>
  intro n V c hn hd;refine⟨c,.inl ?_⟩;rcases hn.cases with h|⟨i,b,rfl,hb⟩
  ·exact h
  ·rw[gy hb] at hd;have:=ok.v _ _ hb;omega
 |succ d ih=>
  intro n V c hn hd;simp only[dV];split
  ·rename_i h;exact⟨c,h⟩
  ·rename_i hnn;rcases hn.cases with h|⟨i,b,rfl,hb⟩
   ·exact absurd (.inl h) hnn
   ·rw[show i+2-2=i by omega,hb];rw[gy hb] at hd;have l1:=ok.l _ _ hb;have l2:=ok.h _ _ hb;have hi:=In.of hb;have i1:In B b.2.1:=by unfold In at*;omega
    have i2:In B b.2.2:=by unfold In at*;omega
    obtain⟨c1,m1⟩:=ih b.2.1 V c i1 (by omega);obtain⟨c2,m2⟩:=ih b.2.2 _ c1 i2 (by omega);obtain⟨W,hW⟩:=Dy (B:=B) d b.2.2 (dV B d b.2.1 V);have m1':b.2.1<2∨b.2.1∈dV B d b.2.2 (dV B d b.2.1 V):=by rw[hW];exact m1.imp id (List.mem_append_left _)
    dsimp only;refine⟨⟨?_,?_,?_⟩,.inr (by simp)⟩
    ·intro k hk;rcases List.mem_append.1 hk with hk|hk
     ·exact c2.two k hk
     ·rw[List.mem_singleton.1 hk];exact⟨by omega,hi⟩
    ·intro k hk b' hb';rcases List.mem_append.1 hk with hk|hk
     ·exact(c2.l k hk b' hb').imp id (List.mem_append_left _)
     ·rw[List.mem_singleton.1 hk,show i+2-2=i by omega,hb] at hb';cases hb';exact m1'.imp id (List.mem_append_left _)
    ·intro k hk b' hb';rcases List.mem_append.1 hk with hk|hk
     ·exact(c2.h k hk b' hb').imp id (List.mem_append_left _)
     ·rw[List.mem_singleton.1 hk,show i+2-2=i by omega,hb] at hb';cases hb';exact m2.imp id (List.mem_append_left _)
def Pa {B:List Br} (ok:OK B):∀(d n:Nat) (V:List Nat),In B n ->∀k∈dV B d n V,k∈V∨bR B n<=bR B k:=by
 intro d;induction d with
 |zero=>intro n V _ k hk;exact .inl hk
 |succ d ih=>
  intro n V hn k hk;simp only[dV] at hk;split at hk
  ·exact .inl hk
  ·rename_i hnn;rcases hn.cases with h|⟨i,b,rfl,hb⟩
   ·exact absurd (.inl h) hnn
   ·rw[show i+2-2=i by omega,hb] at hk;have l1:=ok.l _ _ hb;have l2:=ok.h _ _ hb;have hi:=In.of hb;rw[gy hb];rcases List.mem_append.1 hk with hk|hk
    ·rcases ih b.2.2 _ (by unfold In at*;omega) k hk with hk|hk
     ·rcases ih b.2.1 _ (by unfold In at*;omega) k hk with hk|hk
      ·exact .inl hk
      ·exact .inr (by omega)
     ·exact .inr (by omega)
    ·rw[List.mem_singleton.1 hk,gy hb];exact .inr (Nat.le_refl _)
def Pb {B:List Br} (ok:OK B) {d i:Nat} {b:Br} {V:List Nat} (hb:B[i]? =some b) (h:i+2∉V):i+2∉dV B d b.2.2 (dV B d b.2.1 V):=by
 intro hk;have l1:=ok.l _ _ hb;have l2:=ok.h _ _ hb;have hi:=In.of hb;rcases Pa ok d b.2.2 _ (by unfold In at*;omega) _ hk with hk|hk
 ·rcases Pa ok d b.2.1 _ (by unfold In at*;omega) _ hk with hk|hk
  ·exact h hk
  ·rw[gy hb] at hk;omega
 ·rw[gy hb] at hk;omega
def Ht {V:List Nat} {n:Nat} (h2:2<=n) (h:n∉V):nb (V++[n]) n=V.length+2:=by
 unfold nb;rw[if_neg (by omega),List.idxOf_append,if_neg h];simp
def key (B:List Br) (n:Nat):Nat×Tr:=(bR B n,tr B (3-bR B n) n)
def Pc {B:List Br} (ok:OK B) {x y:Nat} (hx:In B x) (hy:In B y) (h:key B x=key B y):x=y:=by
 simp only[key,Prod.mk.injEq] at h;have:=sg ok hx;refine Hq ok (3-bR B x) x y (by omega) hx hy (by omega) (by omega) ?_;have h2:=h.2;rw[←h.1] at h2;exact h2
def at5 {B:List Br} (ok:OK B) {V:List Nat} (hV:∀n∈V,In B n) {x:Nat} (hx:In B x):key B x∈V.map (key B)↔x∈V:=by
 constructor
 ·intro h;obtain⟨y,hy,e⟩:=List.mem_map.1 h;rw[←Pc ok (hV y hy) hx e];exact hy
 ·exact λh=>List.mem_map_of_mem h
def Pd {B:List Br} (ok:OK B):∀{V:List Nat} (_:∀n∈V,In B n) {x:Nat} (_:In B x),(V.map (key B)).idxOf (key B x)=V.idxOf x
 |[],_,_,_=>rfl
 |y::V,hV,x,hx=>by
  rw[List.map_cons,List.idxOf_cons,List.idxOf_cons];have e:(key B y==key B x)=(y==x):=by
   rw[Bool.eq_iff_iff];simp only[beq_iff_eq];exact⟨Pc ok (hV y (by simp)) hx,λh=>by rw[h]⟩
  rw[e,Pd ok (λn h=>hV n (by simp[h])) hx]
def at6 {B:List Br} (ok:OK B) {n v:Nat} (hn:In B n) (hv:v<bR B n) (h3:v<3):tr B (3-v) n= .n (tr B (3-(v+1)) n) (tr B (3-(v+1)) n):=by
 have s:=(uS ok hn (v:=v) h3).2 (by omega);obtain⟨j,hj⟩:∃j,3-v=j+1/\ 3-(v+1)=j/\ 2-j=v:=⟨2-v,by omega,by omega,by omega⟩;rw[hj.1,hj.2.1];simp only[tr];rw[hj.2.2,s.1,s.2]
def Dz {B:List Br} (ok:OK B) {n:Nat} (hn:In B n) (S:List (Nat×Tr)):∀(k v:Nat),v+k=bR B n ->mQ v (tr B (3-v) n) S=mQ (bR B n) (tr B (3-bR B n) n) S/\ sk S v (tr B (3-v) n)=sk S (bR B n) (tr B (3-bR B n) n):=by
 intro k;induction k with
 |zero=>
  intro v h;have:v=bR B n:=by omega
  subst this;exact⟨rfl,rfl⟩
 |succ k ih=>
  intro v h;have:=sg ok hn;rw[at6 ok hn (by omega) (by omega)];simp only[mQ,sk,if_pos];exact ih (v+1) (by omega)
def DA {B:List Br} {i:Nat} {b:Br} (hb:B[i]? =some b) (h3:b.1<3):tr B (3-b.1) (i+2)= .n (tr B (3-(b.1+1)) b.2.1) (tr B (3-(b.1+1)) b.2.2):=by
 obtain⟨j,hj⟩:∃j,3-b.1=j+1/\ 3-(b.1+1)=j/\ 2-j=b.1:=⟨2-b.1,by omega,by omega,by omega⟩;rw[hj.1,hj.2.1];simp only[tr];rw[hj.2.2,pb hb,pf hb,if_pos rfl,if_pos rfl]
def Hu {B:List Br} (ok:OK B) {V:List Nat} (hV:∀n∈V,In B n) {n v:Nat} (hn:In B n) (hv:v<=bR B n):sk (V.map (key B)) v (tr B (3-v) n)=nb V n:=by
 rw[(Dz ok hn (V.map (key B)) (bR B n-v) v (by omega)).2];rcases hn.cases with h|⟨i,b,rfl,hb⟩
 ·rw[oG h];have h3:n=0∨n=1:=by omega
  rcases h3 with rfl|rfl<;>simp[tr,sk,nb]
 ·have h3:=ok.v _ _ hb;have dc:=ok.ne _ _ hb;rw[gy hb];have e:=DA hb h3;have hk:key B (i+2)=(b.1,tr B (3-b.1) (i+2)):=by unfold key;rw[gy hb]
  have:=Pd ok hV hn;rw[hk,e] at this;rw[e];simp only[sk];have l1:=ok.l _ _ hb;have l2:=ok.h _ _ hb;have hi:=In.of hb;have hne2:tr B (3-(b.1+1)) b.2.1≠tr B (3-(b.1+1)) b.2.2:=λh=>dc (Hq ok (3-(b.1+1)) _ _ (by omega) (by unfold In at*;omega) (by unfold In at*;omega) (by omega) (by omega) h);rw[if_neg hne2,this];unfold nb;rw[if_neg (by omega)]
def at7 {B:List Br} (ok:OK B):∀(d n:Nat) (V:List Nat),Cl B V ->In B n ->3-bR B n<=d ->(dV B d n V).map (key B)=mQ (bR B n) (tr B (3-bR B n) n) (V.map (key B)):=by
 intro d;induction d with
 |zero=>
  intro n V c hn hd;have:=sg ok hn;rw[show 3-bR B n=0 by omega];simp[dV,tr,mQ]
 |succ d ih=>
  intro n V c hn hd;rcases hn.cases with h|⟨i,b,rfl,hb⟩
  ·rw[oG h];simp[dV,tr,mQ,h]
  ·have h3:=ok.v _ _ hb;have dc:=ok.ne _ _ hb;have l1:=ok.l _ _ hb;have l2:=ok.h _ _ hb;have hi:=In.of hb;have i1:In B b.2.1:=by unfold In at*;omega
   have i2:In B b.2.2:=by unfold In at*;omega
   have hne2:tr B (3-(b.1+1)) b.2.1≠tr B (3-(b.1+1)) b.2.2:=λh=>dc (Hq ok (3-(b.1+1)) _ _ (by omega) i1 i2 (by omega) (by omega) h);have hk:key B (i+2)=(b.1,.n (tr B (3-(b.1+1)) b.2.1) (tr B (3-(b.1+1)) b.2.2)):=by unfold key;rw[gy hb,DA hb h3]
   have hm:=at5 ok (λn h=>(c.two n h).2) hn;rw[hk] at hm;rw[gy hb] at hd ⊢;rw[DA hb h3];simp only[dV,mQ,if_neg hne2];by_cases hin:i+2∈V
   ·rw[if_pos (.inr hin),if_pos (hm.2 hin)]
   ·rw[if_neg (by
     intro h;rcases h with h|h;·omega
     ·exact hin h),if_neg (λh=>hin (hm.1 h)),show i+2-2=i by omega,hb]
    dsimp only;obtain⟨c1,_⟩:=yq ok d b.2.1 V c i1 (by omega);rw[List.map_append,ih b.2.2 _ c1 i2 (by omega),ih b.2.1 V c i1 (by omega)];rw[(Dz ok i1 (V.map (key B)) (bR B b.2.1-(b.1+1)) (b.1+1) (by omega)).1,(Dz ok i2 _ (bR B b.2.2-(b.1+1)) (b.1+1) (by omega)).1];simp only[List.map_cons,List.map_nil,hk]
def at8 {B:List Br} (ok:OK B) {V:List Nat} (c:Cl B V):jp B V=(V.map (key B)).map (node (V.map (key B))):=by
 unfold jp;rw[List.map_map];apply List.map_congr_left;intro n hn;obtain⟨h2,hin⟩:=c.two n hn;rcases hin.cases with h|⟨i,b,rfl,hb⟩
 ·omega
 ·have h3:=ok.v _ _ hb;have l1:=ok.l _ _ hb;have l2:=ok.h _ _ hb;have hi:=In.of hb;have i1:In B b.2.1:=by unfold In at*;omega
  have i2:In B b.2.2:=by unfold In at*;omega
  have hk:key B (i+2)=(b.1,.n (tr B (3-(b.1+1)) b.2.1) (tr B (3-(b.1+1)) b.2.2)):=by unfold key;rw[gy hb,DA hb h3]
  rw[show i+2-2=i by omega,hb];simp only[Function.comp_apply,hk,node];rw[Hu ok (λn h=>(c.two n h).2) i1 (by omega),Hu ok (λn h=>(c.two n h).2) i2 (by omega)]
def Pe {B:List Br} (ok:OK B) {r d:Nat} (hr:In B r) (hd:3-bR B r<=d):(jp B (dV B d r []),nb (dV B d r []) r)=aE (tr B 3 r):=by
 obtain⟨c,_⟩:=yq ok d r [] Cl.nil hr hd;have:=sg ok hr;have e:mQ 0 (tr B 3 r) []=(dV B d r []).map (key B):=by
  rw[at7 ok d r [] Cl.nil hr hd];exact(Dz ok hr [] (bR B r) 0 (by omega)).1
 unfold aE;rw[e];dsimp only;rw[←at8 ok c];have:=Hu ok (λn h=>(c.two n h).2) hr (v:=0) (by omega);rw[show(3:Nat)-0=3 from rfl] at this;rw[this]
def cA:Nat ->Tr ->Bool
 |0,.c _=>true
 |k+1,.n a b=>cA k a&&cA k b
 |_,_=>false
def iy:Nat ->List Tr
 |0=>[.c false,.c true]
 |k+1=>(iy k).flatMap λa=>(iy k).map λb=> .n a b
def ss:∀{k:Nat} {t:Tr},cA k t=true ->t∈iy k
 |0,.c b,_=>by cases b<;>simp[iy]
 |0,.n _ _,h=>by simp[cA] at h
 |k+1,.c _,h=>by simp[cA] at h
 |k+1,.n a b,h=>by
  simp only[cA,Bool.and_eq_true] at h;simp only[iy,List.mem_flatMap,List.mem_map];exact⟨a,ss h.1,b,ss h.2,rfl⟩
def eu (b:Bool):Nat ->Tr
 |0=> .c b
 |k+1=> .n (eu b k) (eu b k)
def ph {b:Bool}:∀k,cA k (eu b k)=true
 |0=>rfl
 |k+1=>by simp[eu,cA,ph k]
def jq:Nat ->Tr ->Bool
 |0,.c _=>true
 |0,.n a b=>decide (a=b)&&jq 0 a
 |_+1,.c _=>true
 |n+1,.n a b=>jq n a&&jq n b
def Pf (B:List Br):Bool:=(List.range B.length).all λi=>match B[i]? with
 |some b=>decide (b.1<3)&&decide (b.2.1<i+2)&&decide (b.1<bR B b.2.1)&&decide (b.2.2<i+2)&&decide (b.1<bR B b.2.2)&&decide (b.2.1≠b.2.2)&&(List.range B.length).all λj=>decide (B[j]? =some b ->i=j)
 |none=>false
def at9 {B:List Br} (h:Pf B=true):OK B:=by
 have key:∀(i:Nat) (b:Br),B[i]? =some b ->b.1<3/\ b.2.1<i+2/\ b.1<bR B b.2.1/\ b.2.2<i+2/\ b.1<bR B b.2.2/\ b.2.1≠b.2.2/\∀j:Nat,j<B.length ->B[j]? =some b ->i=j:=by
  intro i b hb;have hi:=(List.getElem?_eq_some_iff.1 hb).1;have:=List.all_eq_true.1 h i (List.mem_range.2 hi);rw[hb] at this;simp only[Bool.and_eq_true,decide_eq_true_eq,List.all_eq_true,List.mem_range] at this;obtain⟨⟨⟨⟨⟨⟨h1,h2⟩,h3⟩,h4⟩,h5⟩,h6⟩,h7⟩:=this;exact⟨h1,h2,h3,h4,h5,h6,h7⟩
 exact⟨λi b hb=>(key i b hb).1,λi b hb=>⟨(key i b hb).2.1,(key i b hb).2.2.1⟩,λi b hb=>⟨(key i b hb).2.2.2.1,(key i b hb).2.2.2.2.1⟩,λi b hb=>(key i b hb).2.2.2.2.2.1,λi j b hb hj=>(key i b hb).2.2.2.2.2.2 j (List.getElem?_eq_some_iff.1 hj).1 hj⟩
def Pg (t:Tr):Bool:=Pf (aE t).1&&decide ((aE t).2<(aE t).1.length+2)&&decide (tr (aE t).1 3 (aE t).2=t)&&decide ((aE t).1.length<=7)
end Dg
namespace AM
open Go
noncomputable section
def tH {α:Type}:Nat ->(Nat ->Option α) ->T α
 |0,_=> .e
 |d+1,f=> .n (tH d λk=>f (2*k+1)) (f 0) (tH d λk=>f (2*k+2))
def DB {α:Type}:∀{d:Nat} {f:Nat ->Option α} {k:Nat} {x:α},(tH d f).get k=some x ->f k=some x
 |0,f,k,x,h=>by
  have:(T.e:T α).get k=none:=rfl;rw[show(tH 0 f)=T.e from rfl,this] at h;cases h
 |d+1,f,k,x,h=>by
  have e:(tH (d+1) f).get k=Bool.rec (Bool.rec ((tH d λk=>f (2*k+2)).get (Nat.sub (Nat.div k 2) 1)) ((tH d λk=>f (2*k+1)).get (Nat.div k 2)) (Nat.beq (Nat.mod k 2) 1)) (f 0) (Nat.beq k 0):=rfl;rw[e] at h;cases h0:Nat.beq k 0 with
  |true=>rw[h0] at h;rw[qG h0];exact h
  |false=>
   rw[h0] at h;have hk:k≠0:=λq=>by subst q;cases h0
   cases h1:Nat.beq (Nat.mod k 2) 1 with
   |true=>
    rw[h1] at h;have h2:k%2=1:=qG h1;have:=DB h;rw[←this];congr 1;show k=2*(k/2)+1;omega
   |false=>
    rw[h1] at h;have h2:k%2≠1:=λq=>by rw[show Nat.mod k 2=1 from q] at h1;cases h1
    have:=DB h;rw[←this];congr 1;show k=2*(k/2-1)+2;omega
def AW {α:Type} (n:Nat):List α ->List α:=Nat.rec (motive:=λ_=>List α ->List α) (λl=>l) (λ_ ih l=>List.casesOn (motive:=λ_=>List α) l [] λ_ t=>ih t) n
def DC {α:Type} (n:Nat):List α ->List (List α):=Nat.rec (motive:=λ_=>List α ->List (List α)) (λ_=>[]) (λ_ ih l=>l::ih (AW 32 l)) n
def nP {α:Type} (l:List α) (k:Nat):Option α:=Option.rec (motive:=λ_=>Option α) none (λs=>lH s (Nat.mod k 32)) (lH (DC 32 l) (Nat.div k 32))
def yr {α:Type}:∀(n:Nat) (l:List α),AW n l=l.drop n
 |0,l=>rfl
 |n+1,[]=>rfl
 |n+1,a::l=>yr n l
def DD {α:Type}:∀(l:List α) (n:Nat),lH l n=l[n]?
 |[],n=>by cases n<;>rfl
 |a::l,0=>rfl
 |a::l,n+1=>by rw[Fv,←DD l n];rfl
def Ph {α:Type}:∀(n:Nat) (l s:List α) (i:Nat),(DC n l)[i]? =some s ->s=l.drop (32*i)
 |0,l,s,i,h=>by cases h
 |n+1,l,s,0,h=>by
  have h':some l=some s:=h;cases h';rfl
 |n+1,l,s,i+1,h=>by
  have h':(DC n (AW 32 l))[i]? =some s:=h;have:=Ph n _ s i h';rw[this,yr,ud];congr 1;omega
def Hv {α:Type} {l:List α} {k:Nat} {x:α} (h:nP l k=some x):l[k]? =some x:=by
 unfold nP at h;rw[DD] at h;cases hs:(DC 32 l)[Nat.div k 32]? with
 |none=>rw[hs] at h;cases h
 |some s=>
  rw[hs] at h;have h':lH s (Nat.mod k 32)=some x:=h;rw[DD,Ph 32 l s _ hs,mB] at h';rw[←h'];congr 1;exact(Nat.div_add_mod k 32).symm
def yu (I:Nat ->Option TypeInfo) (t:Nat):Option TypeDesc:=match I t with
 |some i=>(match i.desc with| .named _ u=>(match I u with|some j=>some j.desc|none=>none)|d=>some d)
 |none=>none
def z0 (v:Value):AV:=match v with
 | .bool b=>AV.b b| .int k n=> .i k n| .string s=> .s (s.data.toList.map UInt8.toNat)| .pointer none=> .pn| .slice none _ _=> .sn| .map none=> .mn| .nilFunc=> .fnil| .nilIface=> .ifn|_=> .un
def Pi (P:Program) (I:Nat ->Option TypeInfo) (t:Nat):Option TI:=match yu I t,I t with
 |some d,some inf=>match inf.zero with
  |some z=>bif d.isRow then match z with
   | .agg vs=>match vs.toList.map z0 with
    |zs=>bif CC 2 zs vs.toList then some ⟨d,inf.size,inf.bytes,zs,P.stoodInHeld t⟩ else none
   |_=>none
   else match z0 z with
    |zz=>bif kv 2 zz z&&ew zz then some ⟨d,inf.size,inf.bytes,[zz],P.stoodInHeld t⟩ else none
  |none=>none
 |_,_=>none
def Pj (P:Program):T TI:=tH 10 λt=>Pi P (nP P.types.toList) t
namespace Cp
def yv:Nat ->Value ->AV
 |_,.bool b=> .b b
 |_,.int k n=> .i k n
 |_,.string s=> .s (s.data.toList.map UInt8.toNat)
 |_,.pointer none=> .pn
 |_,.slice none _ _=> .sn
 |_,.map none=> .mn
 |_,.nilFunc=> .fnil
 |n+1,.func (.func f) a b=> .f f (a.toList.map (yv n)) (b.toList.map (yv n))
 |n+1,.iface t v=> .ifc t (yv n v)
 |_,.nilIface=> .ifn
 |n+1,.agg c=> .ag (c.toList.map (yv n))
 |n+1,.tuple c=> .tu (c.toList.map (yv n))
 |_,_=> .un
def b9:Operand ->MA
 | .tmp t=> .t t
 | .const v=> .c (yv 9 v)
 | .global g=> .g g
 | .func f=> .c (.f f [] [])
structure Cx where
 ty:T TI
 mt:List (String×List (Nat×Nat))
 wr:List Nat
 vw:List (Nat×List (Nat×Nat×Nat))
 tf:Bool
section
variable (ty:T TI) (mt:List (String×List (Nat×Nat)))
def kd (t:Nat):TypeDesc:=match ty.get t with|some i=>i.kd|none=> .chan .both 0
def sz (t:Nat):Nat:=match ty.get t with|some i=>i.size|none=>0
def DE (t:Nat):Nat:=match ty.get t with|some i=>i.bytes|none=>0
def zs (t:Nat):List AV:=match ty.get t with|some i=>i.zs|none=>[.un]
def agg (t:Nat):Bool:=match ty.get t with|some i=>i.kd.isRow|none=>false
def Hw (t:Nat):AV:=match ty.get t with|some i=>(bif i.kd.isRow then .ag i.zs else match i.zs with|[z]=>z|_=> .un)|none=> .un
def rep (n:Nat) (l:List AV):List AV:=(List.replicate n l).flatten
def fld (t k:Nat):Option Field:=match kd ty t with| .struct fs=>fs.toList[k]? |_=>none
def et:Nat ->Nat ->ET
 |0,_=> .lf .f
 |n+1,t=>match kd ty t with
  | .bool=> .lf .b
  | .int _=> .lf .i
  | .string=> .lf .s
  | .pointer _=> .lf .p
  | .slice _=> .lf .sl
  | .map _ _=> .lf .m
  | .interface _=> .lf .ifc
  | .struct fs=> .ag (fs.toList.map λf=>(f.offset,sz ty f.type,agg ty f.type,et n f.type))
  | .array k e=> .ag ((List.range k).map λi=>(i*sz ty e,sz ty e,agg ty e,et n e))
  |_=> .lf .f
def au0 (n:String):List (Nat×Nat):=match mt.find? (λe=>decide (e.1=n)) with|some e=>e.2|none=>[]
def Pk (t:Nat):Bool:=match kd ty t with| .int _=>true|_=>false
def Pl (t:Nat):Bool:=match kd ty t with| .string=>true|_=>false
def au1 (t:Nat):Bool:=match kd ty t with| .int .u8=>true|_=>false
def mem (n:Nat) (l:List Nat):Bool:=l.any (Nat.beq n)
end
section
variable (X:Cx)
end
def op:Op ->Cx ->jn
 | .move x| .assign x=>λX=> .mv (b9 x)
 | .pick c a b=>λX=> .pick (b9 c) (b9 a) (b9 b)
 | .alloc t=>λX=>bif mem t X.wr then .tal t (zs X.ty t) else .alloc (zs X.ty t)
 | .box t x=>λX=>bif mem t X.wr then .tbx t (b9 x) else .box (b9 x) (sz X.ty t)
 | .build t ps=>λX=>
  match kd X.ty t with
  | .struct fs=> .build (zs X.ty t) (ps.toList.map λ(i,x)=>match fs.toList[i]? with|some f=>(f.offset,sz X.ty f.type,b9 x)|none=>(0,0,b9 x))
  | .array _ e=> .build (zs X.ty t) (ps.toList.map λ(i,x)=>(i*sz X.ty e,sz X.ty e,b9 x))
  |_=> .bad 1
 | .buildSlice t len ps=>λX=>
  match kd X.ty t with
  | .slice e=> .bslice (rep len (zs X.ty e)) len (sz X.ty e) (ps.toList.map λ(i,x)=>(i*sz X.ty e,sz X.ty e,b9 x))
  |_=> .bad 2
 | .load t a=>λX=>bif X.tf then .tld (b9 a) (sz X.ty t) (agg X.ty t) else .load (b9 a) (sz X.ty t) (agg X.ty t)
 | .store t a x=>λX=>bif X.tf then .tst (b9 a) (b9 x) (sz X.ty t) else .store (b9 a) (b9 x) (sz X.ty t)
 | .nilCheck x=>λX=> .nilc (b9 x)
 | .binOp b t x y _=>λX=>bif Pk X.ty t||Pl X.ty t then .bin b (b9 x) (b9 y) else match b with
  | .eql=> .eqv false (et X.ty 9 t) (b9 x) (b9 y)
  | .neq=> .eqv true (et X.ty 9 t) (b9 x) (b9 y)
  |_=> .bad 18
 | .unOp u _ x=>λX=> .un u (b9 x)
 | .convert s d x=>λX=>
  match kd X.ty s,kd X.ty d with
  | .int _,.int k=> .cvi k (b9 x)
  | .string,.string=> .cvs (b9 x)
  | .string,.slice _=> .s2b (b9 x)
  | .slice _,.string=> .b2s (b9 x)
  | .pointer _,.unsafePointer=> .cvp (b9 x)
  | .unsafePointer,.pointer u=> .cvu (match X.vw.find? (λe=>Nat.beq e.1 u) with|some e=>e.2|none=>[]) (b9 x)
  |_,_=> .bad 3
 | .makeInterface t x=>λX=> .mif t (b9 x)
 | .makeFunc (.func f) a b=>λX=> .mfn f (a.toList.map b9) (b.toList.map b9)
 | .makeMap _ r=>λX=> .mmap (r.map b9)
 | .makeSlice t l c=>λX=>match kd X.ty t with
  | .slice e=> .mslice (zs X.ty e) (sz X.ty e) (DE X.ty e) (b9 l) (b9 c)
  |_=> .bad 4
 | .slice t x lo hi mx=>λX=>match kd X.ty t with
  | .string=> .slcs (b9 x) (lo.map b9) (hi.map b9)
  | .slice e=> .slc (sz X.ty e) (b9 x) (lo.map b9) (hi.map b9) (mx.map b9)
  | .array n e=> .slca n (sz X.ty e) (b9 x) (lo.map b9) (hi.map b9) (mx.map b9)
  | .pointer a=>match kd X.ty a with
   | .array n e=> .slca n (sz X.ty e) (b9 x) (lo.map b9) (hi.map b9) (mx.map b9)
   |_=> .bad 5
  |_=> .bad 5
 | .fieldAddr s x k=>λX=>match fld X.ty s k with|some f=>bif Nat.beq (sz X.ty f.type) 0 then .bad 6 else .fadr (b9 x) f.offset|none=> .bad 6
 | .field s x k=>λX=>match fld X.ty s k with|some f=> .fld (b9 x) f.offset (sz X.ty f.type) (agg X.ty f.type)|none=> .bad 7
 | .indexAddr t x ix=>λX=>match kd X.ty t with
  | .array n e=> .iadra n (sz X.ty e) (b9 x) (b9 ix)
  | .slice e=> .iadr (sz X.ty e) (b9 x) (b9 ix)
  |_=> .bad 8
 | .index t x ix=>λX=>match kd X.ty t with
  | .array n e=> .idxa n (sz X.ty e) (agg X.ty e) (b9 x) (b9 ix)
  | .string=> .idxs (b9 x) (b9 ix)
  |_=> .bad 9
 | .lookup t m k ok=>λX=>match kd X.ty t with| .map q e=> .look (et X.ty 9 q) (b9 m) (b9 k) (Hw X.ty e) ok|_=> .bad 10
 | .mapUpdate t m k v| .insert t m k v=>λX=>match kd X.ty t with| .map q _=> .mupd (et X.ty 9 q) (b9 m) (b9 k) (b9 v)|_=> .bad 19
 | .mapEntry t m k=>λX=>match kd X.ty t with| .map q e=> .ment (et X.ty 9 q) (b9 m) (b9 k) (Hw X.ty e)|_=> .bad 11
 | .entryStore _ m s v=>λX=> .mest (b9 m) (b9 s) (b9 v)
 | .range t x=>λX=> .rng (b9 x) (Pl X.ty t)
 | .next x s=>λX=> .nxt (b9 x) s
 | .entry x=>λX=> .ent (b9 x)
 | .typeAssert x _ t ok=>λX=>match kd X.ty t with
  | .interface _=> .bad 12
  |_=> .tas (b9 x) t ok (Hw X.ty t)
 | .extract x k=>λX=> .ext (b9 x) k
 | .call c=>λX=>match c.callee with
  | .value x=>match b9 x with
   | .c (.f f [] [])=> .call f (c.args.toList.map b9)
   |a=> .callv a (c.args.toList.map b9)
  | .invoke r n=> .calli (b9 r) (au0 X.mt n) (c.args.toList.map b9)
  | .builtin b=>match b,c.args.toList,c.argTypes.toList with
   | .append,[s,x],[t,u]=>match kd X.ty t with
    | .slice e=>bif X.tf&&au1 X.ty e then .tap e (b9 s) (b9 x) (sz X.ty e) (DE X.ty e) else bif Pk X.ty u then .appz (b9 s) (b9 x) (sz X.ty e) (DE X.ty e) (zs X.ty e) else .app (b9 s) (b9 x) (sz X.ty e) (DE X.ty e)
    |_=> .bad 13
   | .len,[x],[t]=>match kd X.ty t with
    | .string=> .len .str (b9 x)
    | .array n _=> .len (.arr n) (b9 x)
    | .pointer a=>(match kd X.ty a with| .array n _=> .len (.arr n) (b9 x)|_=> .bad 14)
    | .slice _=> .len .slice (b9 x)
    | .map _ _=> .len .map (b9 x)
    |_=> .bad 14
   | .cap,[x],_=> .cap (b9 x)
   | .unsafeSliceData,[x],_=> .usd (b9 x)
   | .unsafeString,[x,y],[t,_]=>(match kd X.ty t with| .pointer e=> .ust e (b9 x) (b9 y)|_=> .bad 16)
   | .min,l,_=> .min (l.map b9)
   | .max,l,_=> .max (l.map b9)
   |_,_,_=> .bad 16
 |_=>λX=> .bad 17
structure jO where
 n:Nat
 o:List DI
 p:List Nat
section
variable (X:Cx)
def gd (ops:List Oper) (j:Nat):Nat:=match ops[j]? with|some o=>o.dst.getD 0|none=>0
def g (ops:List Oper) (o:Oper):MG:={ dst:=o.dst,op:=op o.op X,guard:=o.guard.map λ(j,w)=>(gd ops j,w) }
def DF:jn ->Nat
 | .alloc _| .box .. | .bslice .. | .mmap _| .mslice .. | .tal .. | .tbx .. =>1
 | .mv _| .pick .. | .build .. | .load .. | .nilc _| .bin .. | .eqv .. | .un .. | .cvi .. | .cvs _| .b2s _| .mif .. | .mfn .. | .slc .. | .slcs .. | .slca .. | .fadr .. | .fld ..
 | .iadr .. | .iadra .. | .idxs .. | .idxa .. | .look .. | .ent _| .tas .. | .ext .. | .len .. | .cap _| .min _| .max _| .tld .. | .cvp _| .cvu .. | .usd _=>0
 |_=>2
def Pm {α:Type} (l:List α):Nat:=List.rec (motive:=λ_=>Nat) 0 (λ_ _ ih=>Nat.succ ih) l
def Hx {α:Type} (l:List α):List α ->List α:=List.rec (motive:=λ_=>List α ->List α) (λr=>r) (λa _ ih r=>ih (a::r)) l
def au2 (w A:Nat) (es:List Edge):Nat:=List.rec (motive:=λ_=>Nat) 0 (λe _ ih=>bif Region.binds .any e then Nat.lor (Nat.lor (Nat.shiftLeft 1 e.on) (Nat.land (Nat.shiftRight A (Nat.mul e.on w)) (Nat.sub (Nat.shiftLeft 1 w) 1))) ih else ih) es
def Hy (w:Nat) (l:List Oper):Nat ->Nat ->(Nat ->jO) ->jO:=List.rec (motive:=λ_=>Nat ->Nat ->(Nat ->jO) ->jO) (λ_ A k=>k A) (λo _ ih i A k=>fN (Nat.lor A (Nat.shiftLeft (au2 w A o.after.toList) (Nat.mul i w))) λA=>fN (Nat.succ i) λi=>ih i A k) l
def au3 (i:Nat) (es:List Edge):Bool:=List.rec (motive:=λ_=>Bool) false (λe _ ih=>(Region.binds .any e&&Nat.ble i e.on)||ih) es
def Pn (l:List Oper):Nat ->Bool:=List.rec (motive:=λ_=>Nat ->Bool) (λ_=>false) (λo _ ih i=>au3 i o.after.toList||ih (Nat.succ i)) l
structure Q where
 i:Nat
 g:MG
 a:Nat
 k:Nat
def rdB (l:List Nat):Nat:=List.rec (motive:=λ_=>Nat) 0 (λt _ ih=>Nat.lor (Nat.shiftLeft 1 t) ih) l
def au4 (ops:List Oper) (w A:Nat) (l:List Oper):Nat ->Nat ->(List Q ->jO) ->jO:=List.rec (motive:=λ_=>Nat ->Nat ->(List Q ->jO) ->jO) (λ_ _ k=>k [])
 (λo _ ih i R k=>(λm=>fN (Nat.lor R (rdB (qc m))) λR=>fN (Nat.land (Nat.shiftRight A (Nat.mul i w)) (Nat.sub (Nat.shiftLeft 1 w) 1)) λa=>
  fN (match o.dst with|some d=>bif Nat.testBit R d then 2 else (bif m.guard.isNone||Nat.beq (DF m.op) 0 then DF m.op else 2)|none=>(bif m.guard.isNone||Nat.beq (DF m.op) 0 then DF m.op else 2)) λc=>
   fN (Nat.succ i) λj=>ih j R λr=>k (⟨i,m,a,c⟩::r)) (g X ops o)) l
def b2B (l:List Q):Nat:=List.rec (motive:=λ_=>Nat) 0 (λx _ ih=>match x.g.op with| .b2s (.t y)=>Nat.lor (Nat.shiftLeft 1 y) ih|_=>ih) l
def au5 (l:List Q):List Q:=fN (b2B l) λB=>bif Nat.beq B 0 then l else
 List.rec (motive:=λ_=>List Q) [] (λx _ ih=>(bif Nat.beq x.k 1&&(match x.g.dst with|some d=>Nat.testBit B d|none=>false) then ⟨x.i,x.g,x.a,2⟩ else x)::ih) l
def Po (a b:Nat):Bool:=Nat.beq (Nat.land a b) a
def Hz (l:List Q):Nat ->Nat ->List Nat ->List DI ->List Q ->(Nat ->Nat ->List Nat ->List DI ->List Q ->jO) ->jO:=
 List.rec (motive:=λ_=>Nat ->Nat ->List Nat ->List DI ->List Q ->(Nat ->Nat ->List Nat ->List DI ->List Q ->jO) ->jO) (λd n p o q k=>k d n p o (Hx q []))
  (λx _ ih d n p o q k=>bif Po x.a d&&Nat.ble x.k 1 then (fN (Nat.lor d (Nat.shiftLeft 1 x.i)) λd=>bif Nat.beq x.k 0 then ih d n p (.light x.i x.g::o) q k else fN (Nat.succ n) λm=>ih d m (x.i::p) (.resv x.i n x.g::o) q k) else ih d n p o (x::q) k) l
def Pp (m:Nat) (l:List Nat) (o:List DI):List DI:=List.rec (motive:=λ_=>List DI) o (λi _ ih=>bif Nat.testBit m i then .lay i::ih else ih) l
def au6 (m:Nat) (l:List Nat):List Nat:=List.rec (motive:=λ_=>List Nat) [] (λi _ ih=>bif Nat.testBit m i then ih else i::ih) l
def au7 (d:Nat) (l:List Q) (k:Q ->List Q ->jO) (z:jO):jO:=List.rec (motive:=λ_=>(Q ->List Q ->jO) ->jO) (λ_=>z) (λx r ih k=>bif Po x.a d then k x r else ih λy r=>k y (x::r)) l k
def goQ (fw:Bool) (n:Nat):Nat ->Nat ->List Nat ->List DI ->List Q ->jO:=
 Nat.rec (motive:=λ_=>Nat ->Nat ->List Nat ->List DI ->List Q ->jO) (λ_ n p o _=>⟨n,o,p⟩) (λ_ ih d n p o q=>Hz q d n p o [] λd n p o q=>
  (λ(c:Nat ->Nat ->List Nat ->List DI ->List Q ->jO)=>bif fw then Hz q d n p o [] λd n p o q=>Hz q d n p o [] c else c d n p o q) λd n p o q=>
   au7 d q (λx q=>fN (Nat.lor d (Nat.shiftLeft 1 x.i)) λd=>ih d n (au6 x.a p) (.heavy x.i x.g x.a::Pp x.a (Hx p []) o) q) ⟨n,o,p⟩) n
def draw (ops:List Oper):aw:=
 match fN (Pm ops) λw=>Hy w ops 0 0 λA=>(λ(c:Nat ->jO)=>bif Pn ops 0 then Hy w ops 0 A λA=>Hy w ops 0 A c else c A) λA=>
  au4 X ops w A ops 0 0 λl=>goQ (Pn ops 0) (Nat.succ w) 0 0 [] [] (au5 l) with
 |⟨n,o,p⟩=> .draw n (Hx o (Pp (Nat.sub (Nat.shiftLeft 1 (Pm ops)) 1) p []))
def au8 {α:Type} (l:List α):Option α:=List.rec (motive:=λ_=>Option α) none (λa r ih=>List.casesOn (motive:=λ_=>Option α) r (some a) λ_ _=>ih) l
def au9 (ops:List Oper):Option aw:=match au8 ops with
 |some o=>match o.op with
  | .defer c=>match c.callee with
   | .value (.tmp y)=>some (.dfr ((ops.dropLast).map (g X ops)) (.t y) ((ops.findSome? λo=>match o.op,o.dst with| .makeFunc (.func f) _ _,some t=>bif Nat.beq t y then some f else none|_,_=>none).getD 0))
   |_=>none
  |_=>none
 |none=>none
def av0 {α β:Type} (f:α ->β) (l:List α):List β:=List.rec (motive:=λ_=>List β) [] (λa _ ih=>f a::ih) l
def region (ops:List Oper) (d:Bool):aw:=match au9 X ops with
 |some c=>c
 |none=>bif d then draw X ops else .ops (av0 (g X ops) ops)
end
def code (c:Code):Cx ->aw:=Code.rec (motive:=λ_=>Cx ->aw)
 (λ_=> .skip) (λ_ ops d X=>region X ops.toList d) (λ_ _ a b X=> .seq (a X) (b X)) (λc _ _ a b X=> .cond (b9 c) (a X) (b X)) (λi _ c X=> .block i (c X)) (λ_ c X=> .loop (c X))
 (λf ps _ _ a b X=> .rfun (b9 f) ps.toList (a X) (b X)) (λi _=> .exit i) (λ_ c=>c) (λ_ _=> .skip) (λ_ _=> .bad 1) (λ_=> .ret) (λ_ _=> .bad 2) c
section
variable (X:Cx)
def fn (f:Func):au:=
 {
  ntmps:=f.ntmps,
  res:=f.results.toList.map (λ| .tmp t=>(t,none)| .cell a t=>(a,some (sz X.ty t,agg X.ty t))),
  body:=match f.body with|some c=>code c X|none=> .bad 3 }
end
end Cp
def Pq:T TI:=Pj Go.Proofs.Tryz.prog
def HB:List (String×List (Nat×Nat)):=[("koine/document.write",[(389,650),(390,652),(392,655),(394,656),(396,657),(398,658),(400,659)])]
def Ps:List (Nat×List (Nat×Nat×Nat)):=[(248,[(250,5,0)])]
def tfs:List Nat:=[60,114,324,423,650,651,652,653,654,655,656,657,658,659]
def yw (n:Nat) (F:Func):au:=Cp.fn ⟨Pq,HB,[250],Ps,Cp.mem n tfs⟩ F
def pg (n:Nat):au:=match nP Go.Proofs.Tryz.prog.funcs.toList n with|some F=>yw n F|none=>⟨0,[],.skip⟩
def HE:Nat ->Nat ->aw ->aw
 |0,_,c=>c
 |n+1,p,c=>bif Nat.beq p 1 then c else match c with
  | .seq a b| .cond _ a b| .rfun _ _ a b=>HE n (p/2) (bif Nat.beq (p%2) 0 then a else b)
  | .block _ a| .loop a=>HE n (p/2) a
  |c=>c
def sE (f p:Nat):aw:=HE 99 p (pg f).body
def tI (x:aw):Nat ->Nat ->aw ->aw
 |0,_,c=>c
 |n+1,p,c=>bif Nat.beq p 1 then x else match c with
  | .seq a b=>bif Nat.beq (p%2) 0 then .seq (tI x n (p/2) a) b else .seq a (tI x n (p/2) b)
  | .cond m a b=>bif Nat.beq (p%2) 0 then .cond m (tI x n (p/2) a) b else .cond m a (tI x n (p/2) b)
  | .rfun m l a b=>bif Nat.beq (p%2) 0 then .rfun m l (tI x n (p/2) a) b else .rfun m l a (tI x n (p/2) b)
  | .block i a=> .block i (tI x n (p/2) a)
  | .loop a=> .loop (tI x n (p/2) a)
  |c=>c
def pt (p:Nat) (x c:aw):aw:=tI x 99 p c
def bE (f:au) (g:aw ->aw):au:=⟨f.ntmps,f.res,g f.body⟩
abbrev ev {α:Type} (t:α) {c:α} (_:c=t:=by conv=>rhs;reduce;dsimp only[Int.ofNat_eq_natCast,Int.cast_ofNat_Int,Int.reduceNegSucc]):α:=c
attribute [go_sem] ev
end
end AM
namespace AM
noncomputable section
abbrev av1:au:=ev (pg 11)
def HF:aw:=ev (sE 42 457931)
def DG:aw:=ev (sE 42 392395)
abbrev HH:aw:=ev (sE 42 523467)
abbrev Pt:au:=(λx y z=>ev (bE (pg 42) λo=>pt 457931 x (pt 392395 y (pt 523467 z o)))) HF DG HH
abbrev Pu:au:=ev (pg 46)
def HK:aw:=ev (sE 88 23)
abbrev lU:au:=(λx=>ev (bE (pg 88) λo=>pt 23 x o)) HK
abbrev AX:au:=ev (pg 89)
abbrev HN:au:=ev (pg 174)
def AY:aw:=ev (sE 13 5707)
def DH:aw:=ev (sE 13 11851)
abbrev Pv:aw:=ev (sE 13 459)
abbrev yx:aw:=(λx y z=>ev (pt 89 x (pt 185 y (pt 7 z (sE 13 75))))) AY DH Pv
abbrev yz:aw:=ev (sE 13 23)
abbrev HO:au:=(λx y=>ev (bE (pg 13) λo=>pt 75 x (pt 23 y o))) yx yz
structure li (t:T au):Prop where
 f11:t.get 11=some av1
 f42:t.get 42=some Pt
 f46:t.get 46=some Pu
 f88:t.get 88=some lU
 f89:t.get 89=some AX
 f174:t.get 174=some HN
 f13:t.get 13=some HO
abbrev Pw:au:=ev (pg 41)
abbrev Px:au:=ev (pg 76)
abbrev Py:au:=ev (pg 77)
abbrev Pz:aw:=ev (sE 78 39)
def HP:aw:=ev (sE 78 5872023)
abbrev PA:aw:=(λx=>ev (pt 45875 x (sE 78 151))) HP
abbrev PB:aw:=ev (sE 78 47)
abbrev PC:aw:=ev (sE 78 1119)
abbrev PD:aw:=ev (sE 78 1631)
abbrev PE:aw:=ev (sE 78 191)
def AZ:aw:=ev (sE 78 255)
def HQ:aw:=(λx y z u=>ev (pt 34 x (pt 50 y (pt 5 z (pt 7 u (sE 78 63)))))) PC PD PE AZ
def PF:aw:=(λx y z u=>ev (pt 4 x (pt 18 y (pt 5 z (pt 7 u (sE 78 15)))))) Pz PA PB HQ
abbrev PG:au:=(λx=>ev (bE (pg 78) λo=>pt 15 x o)) PF
abbrev av2:au:=ev (pg 147)
abbrev PH:au:=ev (pg 148)
abbrev PI:au:=ev (pg 150)
abbrev PJ:au:=ev (pg 151)
abbrev PK:au:=ev (pg 153)
abbrev PL:aw:=ev (sE 154 19)
abbrev PM:au:=(λx=>ev (bE (pg 154) λo=>pt 19 x o)) PL
abbrev PO:au:=ev (pg 155)
abbrev PP:au:=ev (pg 267)
abbrev PQ:au:=ev (pg 268)
abbrev HR:au:=ev (pg 402)
structure jr (t:T au):Prop where
 f41:t.get 41=some Pw
 f76:t.get 76=some Px
 f77:t.get 77=some Py
 f78:t.get 78=some PG
 f147:t.get 147=some av2
 f148:t.get 148=some PH
 f150:t.get 150=some PI
 f151:t.get 151=some PJ
 f153:t.get 153=some PK
 f154:t.get 154=some PM
 f155:t.get 155=some PO
 f267:t.get 267=some PP
 f268:t.get 268=some PQ
 f402:t.get 402=some HR
def HT:aw:=ev (sE 183 2)
def HU:aw:=ev (sE 183 9)
def HW:aw:=ev (sE 183 13)
def HX:aw:=ev (sE 183 11)
def A0:au:=(λx y z u=>ev (bE (pg 183) λo=>pt 2 x (pt 9 y (pt 13 z (pt 11 u o))))) HT HU HW HX
def PR:aw:=ev (sE 483 2)
def PS:aw:=ev (sE 483 9)
def PT:aw:=ev (sE 483 37)
def PU:aw:=ev (sE 483 11)
def PV:aw:=(λx y z=>ev (pt 4 x (pt 18 y (pt 5 z (sE 483 3))))) PS PT PU
def PW:au:=(λx y=>ev (bE (pg 483) λo=>pt 2 x (pt 3 y o))) PR PV
def A3:aw:=ev (sE 484 9)
def A4:aw:=ev (sE 484 37)
def A5:aw:=ev (sE 484 11)
def A6:aw:=ev (sE 484 23)
def A7:aw:=ev (sE 484 79)
def A8:aw:=ev (sE 484 303)
def A9:aw:=ev (sE 484 687)
def Ba:aw:=ev (sE 484 943)
def Bb:aw:=(λx y z u=>ev (pt 2 x (pt 9 y (pt 21 z (pt 29 u (sE 484 47)))))) A7 A8 A9 Ba
def Bc:aw:=ev (sE 484 95)
def Bd:aw:=(λx y z u v w=>ev (pt 4 x (pt 18 y (pt 5 z (pt 11 u (pt 23 v (pt 47 w (sE 484 3)))))))) A3 A4 A5 A6 Bb Bc
def Be:au:=(λx=>ev (bE (pg 484) λo=>pt 3 x o)) Bd
def yA:aw:=ev (sE 482 2)
def yB:aw:=ev (sE 482 9)
def PX:aw:=ev (sE 482 69)
def PY:aw:=ev (sE 482 101)
def PZ:aw:=(λx y=>ev (pt 4 x (pt 6 y (sE 482 21)))) PX PY
def DJ:aw:=ev (sE 482 19)
def HY:aw:=ev (sE 482 155)
def DK:aw:=(λx=>ev (pt 9 x (sE 482 27))) HY
def P0:aw:=ev (sE 482 23)
def P1:aw:=ev (sE 482 47)
def tJ:aw:=ev (sE 482 1119)
def DL:aw:=ev (sE 482 18015)
def DM:aw:=ev (sE 482 26207)
def DN:aw:=ev (sE 482 7775)
def tL:aw:=(λx y z=>ev (pt 17 x (pt 25 y (pt 7 z (sE 482 1631))))) DL DM DN
def P2:aw:=(λx y=>ev (pt 17 x (pt 25 y (sE 482 95)))) tJ tL
def HZ:aw:=ev (sE 482 191)
def H0:aw:=ev (sE 482 383)
def H2:aw:=ev (sE 482 767)
def H3:aw:=ev (sE 482 1535)
def P3:aw:=(λx y z u=>ev (pt 2 x (pt 5 y (pt 11 z (pt 23 u (sE 482 127)))))) HZ H0 H2 H3
def yC:aw:=(λx y z u v w=>ev (pt 4 x (pt 6 y (pt 5 z (pt 11 u (pt 23 v (pt 31 w (sE 482 7)))))))) DJ DK P0 P1 P2 P3
def yD:au:=(λx y z u=>ev (bE (pg 482) λo=>pt 2 x (pt 9 y (pt 21 z (pt 7 u o))))) yA yB PZ yC
def P4:aw:=ev (sE 400 2)
def P5:aw:=ev (sE 400 5)
def P6:aw:=ev (sE 400 11)
def P7:aw:=ev (sE 400 47)
def P8:aw:=ev (sE 400 95)
def P9:aw:=(λx y=>ev (pt 5 x (pt 11 y (sE 400 15)))) P7 P8
def Qa:au:=(λx y z u=>ev (bE (pg 400) λo=>pt 2 x (pt 5 y (pt 11 z (pt 15 u o))))) P4 P5 P6 P9
def Qb:aw:=ev (sE 481 5)
def Qc:au:=(λx=>ev (bE (pg 481) λo=>pt 5 x o)) Qb
def Qd:aw:=ev (sE 399 2)
def Qe:aw:=ev (sE 399 9)
def Qf:aw:=ev (sE 399 11)
def Qg:aw:=(λx y=>ev (pt 4 x (pt 5 y (sE 399 3)))) Qe Qf
def Qh:au:=(λx y=>ev (bE (pg 399) λo=>pt 2 x (pt 3 y o))) Qd Qg
def Qi:aw:=ev (sE 265 2)
def Qj:aw:=ev (sE 265 9)
def Qk:aw:=ev (sE 265 21)
def Ql:aw:=(λx y=>ev (pt 2 x (pt 5 y (sE 265 5)))) Qj Qk
def Qm:aw:=ev (sE 265 11)
def Qn:au:=(λx y z=>ev (bE (pg 265) λo=>pt 2 x (pt 5 y (pt 11 z o)))) Qi Ql Qm
def Qo:aw:=ev (sE 401 5)
def Qp:au:=(λx=>ev (bE (pg 401) λo=>pt 5 x o)) Qo
def Qq:aw:=ev (sE 149 2)
def Qr:aw:=ev (sE 149 5)
def Qs:au:=(λx y=>ev (bE (pg 149) λo=>pt 2 x (pt 5 y o))) Qq Qr
def Qt:aw:=ev (sE 266 5)
def Qu:au:=(λx=>ev (bE (pg 266) λo=>pt 5 x o)) Qt
def Qv:aw:=ev (sE 152 2)
def Qw:aw:=ev (sE 152 5)
def Qx:au:=(λx y=>ev (bE (pg 152) λo=>pt 2 x (pt 5 y o))) Qv Qw
def Qy:aw:=ev (sE 269 5)
def Qz:au:=(λx=>ev (bE (pg 269) λo=>pt 5 x o)) Qy
def QA:aw:=ev (sE 184 2)
def QB:aw:=ev (sE 184 5)
def QC:aw:=ev (sE 184 11)
def QD:aw:=ev (sE 184 47)
def QE:aw:=ev (sE 184 95)
def QF:aw:=ev (sE 184 191)
def QG:aw:=(λx y z=>ev (pt 5 x (pt 11 y (pt 23 z (sE 184 15))))) QD QE QF
def DO:au:=(λx y z u=>ev (bE (pg 184) λo=>pt 2 x (pt 5 y (pt 11 z (pt 15 u o))))) QA QB QC QG
def DP:aw:=ev (sE 296 9)
def DQ:aw:=ev (sE 296 77)
def DR:aw:=(λx=>ev (pt 9 x (sE 296 13))) DQ
def QH:aw:=ev (sE 296 11)
def QI:aw:=ev (sE 296 23)
def QJ:aw:=ev (sE 296 47)
def H4:aw:=ev (sE 296 95)
def H5:aw:=ev (sE 296 191)
def H6:aw:=ev (sE 296 383)
def QK:aw:=(λx y z u v=>ev (pt 2 x (pt 5 y (pt 11 z (pt 23 u (pt 47 v (sE 296 15))))))) QI QJ H4 H5 H6
def yE:au:=(λx y z u=>ev (bE (pg 296) λo=>pt 9 x (pt 13 y (pt 11 z (pt 15 u o))))) DP DR QH QK
def H7:au:=ev (pg 95)
def H8:aw:=ev (sE 156 2)
def H9:aw:=ev (sE 156 5)
def Bf:au:=(λx y=>ev (bE (pg 156) λo=>pt 2 x (pt 5 y o))) H8 H9
def Ia:aw:=ev (sE 270 9)
def Ib:aw:=ev (sE 270 13)
def Ic:aw:=ev (sE 270 19)
def Id:aw:=ev (sE 270 2251)
def Ie:aw:=ev (sE 270 5323)
def If:aw:=ev (sE 270 7371)
def Ig:aw:=ev (sE 270 971)
def DS:aw:=(λx y z u=>ev (pt 17 x (pt 41 y (pt 57 z (pt 7 u (sE 270 203)))))) Id Ie If Ig
def Bg:aw:=(λx=>ev (pt 3 x (sE 270 75))) DS
def Ih:aw:=(λx y=>ev (pt 4 x (pt 18 y (sE 270 7)))) Ic Bg
def Bh:au:=(λx y z=>ev (bE (pg 270) λo=>pt 9 x (pt 13 y (pt 7 z o)))) Ia Ib Ih
def QL:aw:=ev (sE 398 9)
def Ii:aw:=ev (sE 398 1125)
def Ij:aw:=ev (sE 398 2661)
def Ik:aw:=ev (sE 398 5733)
def Il:aw:=(λx y=>ev (pt 2 x (pt 5 y (sE 398 1637)))) Ij Ik
def Im:aw:=ev (sE 398 485)
def DT:aw:=(λx y z=>ev (pt 17 x (pt 25 y (pt 7 z (sE 398 101))))) Ii Il Im
def uT:aw:=(λx=>ev (pt 3 x (sE 398 37))) DT
def QM:aw:=(λx y=>ev (pt 4 x (pt 18 y (sE 398 3)))) QL uT
def QN:au:=(λx=>ev (bE (pg 398) λo=>pt 3 x o)) QM
def QO:aw:=ev (sE 125 37)
def QP:aw:=(λx=>ev (pt 9 x (sE 125 5))) QO
def QR:aw:=ev (sE 125 11)
def QS:au:=(λx y=>ev (bE (pg 125) λo=>pt 5 x (pt 11 y o))) QP QR
structure eV (t:T au):Prop where
 f183:t.get 183=some A0
 f483:t.get 483=some PW
 f484:t.get 484=some Be
 f482:t.get 482=some yD
 f400:t.get 400=some Qa
 f481:t.get 481=some Qc
 f399:t.get 399=some Qh
 f265:t.get 265=some Qn
 f401:t.get 401=some Qp
 f149:t.get 149=some Qs
 f266:t.get 266=some Qu
 f152:t.get 152=some Qx
 f269:t.get 269=some Qz
 f184:t.get 184=some DO
 f296:t.get 296=some yE
 f95:t.get 95=some H7
 f156:t.get 156=some Bf
 f270:t.get 270=some Bh
 f398:t.get 398=some QN
 f125:t.get 125=some QS
structure bz8 (t:T au):Prop where
abbrev QT:aw:=ev (sE 485 9)
abbrev QU:aw:=ev (sE 485 37)
abbrev QV:aw:=ev (sE 485 75)
abbrev DU:aw:=(λx=>ev (pt 9 x (sE 485 11))) QV
abbrev DV:aw:=ev (sE 485 23)
abbrev DW:aw:=ev (sE 485 31)
abbrev Io:au:=(λx y z u v=>ev (bE (pg 485) λo=>pt 9 x (pt 37 y (pt 11 z (pt 23 u (pt 31 v o)))))) QT QU DU DV DW
abbrev QW:au:=ev (pg 561)
abbrev av3:aw:=ev (sE 562 2)
abbrev av4:aw:=ev (sE 562 9)
abbrev av5:aw:=ev (sE 562 13)
abbrev av6:aw:=ev (sE 562 11)
abbrev Ip:au:=(λx y z u=>ev (bE (pg 562) λo=>pt 2 x (pt 9 y (pt 13 z (pt 11 u o))))) av3 av4 av5 av6
abbrev av7:aw:=ev (sE 563 2)
abbrev av8:aw:=ev (sE 563 9)
abbrev QX:aw:=ev (sE 563 37)
abbrev av9:aw:=ev (sE 563 11)
abbrev aw0:aw:=(λx y z=>ev (pt 4 x (pt 18 y (pt 5 z (sE 563 3))))) av8 QX av9
abbrev aw1:au:=(λx y=>ev (bE (pg 563) λo=>pt 2 x (pt 3 y o))) av7 aw0
abbrev QY:aw:=ev (sE 564 75)
abbrev DX:au:=(λx=>ev (bE (pg 564) λo=>pt 75 x o)) QY
abbrev DY:au:=ev (pg 486)
abbrev wN:au:=ev (pg 565)
abbrev QZ:au:=ev (pg 403)
abbrev Q0:au:=ev (pg 275)
abbrev Q1:au:=ev (pg 274)
abbrev Q2:au:=ev (pg 276)
abbrev Q3:au:=ev (pg 272)
abbrev Q4:au:=ev (pg 36)
abbrev aw2:aw:=ev (sE 567 75)
abbrev Iq:au:=(λx=>ev (bE (pg 567) λo=>pt 75 x o)) aw2
abbrev Q5:au:=ev (pg 273)
abbrev Ir:au:=ev (pg 81)
abbrev Bi:au:=ev (pg 163)
abbrev Is:au:=ev (pg 404)
abbrev It:au:=ev (pg 487)
abbrev Iu:au:=ev (pg 566)
structure eL (t:T au):Prop where
 f485:t.get 485=some Io
 f561:t.get 561=some QW
 f562:t.get 562=some Ip
 f563:t.get 563=some aw1
 f564:t.get 564=some DX
 f486:t.get 486=some DY
 f565:t.get 565=some wN
 f403:t.get 403=some QZ
 f275:t.get 275=some Q0
 f274:t.get 274=some Q1
 f276:t.get 276=some Q2
 f272:t.get 272=some Q3
 f36:t.get 36=some Q4
 f567:t.get 567=some Iq
 f273:t.get 273=some Q5
 f81:t.get 81=some Ir
 f163:t.get 163=some Bi
 f404:t.get 404=some Is
 f487:t.get 487=some It
 f566:t.get 566=some Iu
end
end AM
namespace AM
open Dg Go
noncomputable section
def gH (b:Br):List AV:=[.i .i64 (b.1:Int),.i .i64 (b.2.1:Int),.i .i64 (b.2.2:Int)]
def dK (B:List Br):List AV:=(B.map gH).flatten
def cu (B:List Br):AV:=match B with|[]=> .sn|B=> .ds (dK B) 0 B.length 3
def eD (d:List Br×Nat):AV:= .ag [cu d.1,.i .i64 (d.2:Int)]
def DZ (B:List Br):(dK B).length=B.length*3:=by
 induction B with
 |nil=>rfl
 |cons b B ih=>simp[dK] at ih ⊢;rw[ih];simp[gH];omega
def Iw (b:Br) (B:List Br):dK (b::B)= .i .i64 (b.1:Int):: .i .i64 (b.2.1:Int):: .i .i64 (b.2.2:Int)::dK B:=by simp[dK,gH]
def Ix (B C:List Br):dK (B++C)=dK B++dK C:=by simp[dK]
def nQ {B:List Br}:∀{i:Nat} {b:Br},B[i]? =some b ->∀j n,j+n<=3 ->sub (dK B) (i*3+j) n=some (((gH b).drop j).take n):=by
 intro i b hb j n hj;have aV:i<B.length:=(eC.1 hb).1;rw[nH,aF (by rw[DZ];omega)];congr 1;have:∀(B:List Br) (i:Nat),B[i]? =some b ->((dK B).drop (i*3))=gH b++dK (B.drop (i+1)):=by
  intro B;induction B with
  |nil=>intro i h;simp at h
  |cons a B ih=>
   intro i h;cases i with
   |zero=>simp at h;subst h;simp[dK]
   |succ i=>
    simp at h;rw[Iw,show(i+1)*3=i*3+3 by omega];simpa using ih i h
 rw[←ud,this B i hb];simp only[gH];rcases j with _|_|_|j
 ·rcases n with _|_|_|_|n<;>first|omega|rfl|simp
 ·rcases n with _|_|_|n<;>first|omega|rfl|simp
 ·rcases n with _|_|n<;>first|omega|rfl|simp
 ·have:j=0/\ n=0:=by omega
  obtain⟨rfl,rfl⟩:=this;simp
def D0 (n:Nat) (h:AH) (B:List Br):bJ n h (dK B)=some (dK B):=by
 induction B with
 |nil=>rfl
 |cons b B ih=>rw[Iw];simp only[aL,ih,deep]
def qU (h:AH) (d:List Br×Nat):deep 9 h (eD d)=some (eD d):=by
 obtain⟨B,r⟩:=d;cases B with
 |nil=>rfl
 |cons b B=>
  have:bJ 8 h [.ds (dK (b::B)) 0 (b::B).length 3,.i .i64 (r:Int)]=some [.ds (dK (b::B)) 0 (b::B).length 3,.i .i64 (r:Int)]:=by
   have e:deep 8 h (.ds (dK (b::B)) 0 (b::B).length 3)=(match bJ 7 h (dK (b::B)) with|some l=>some (.ds l 0 (b::B).length 3)|none=>none):=rfl;simp only[aL,D0,bZ,deep]
  show(match bJ 8 h [.ds (dK (b::B)) 0 (b::B).length 3,.i .i64 (r:Int)] with|some l=>some (AV.ag l)|none=>none)=_;rw[this];rfl
def Q6 {n:Nat} (B:List Br):nice.niceL n (dK B)=true:=by
 induction B with
 |nil=>exact iq
 |cons b B ih=>rw[Iw];simp only[iu,j9,ih,g9]
def yF {n:Nat} {B:List Br}:nice (n+1) (cu B)=true:=by
 cases B with
 |nil=>exact Dk
 |cons b B=>show nice (n+1) (.ds _ _ _ _)=true;rw[nN,Q6]
variable {P:Program} {X:aR} {GL:T (List AV)} {ae:T au}
def pl (B:List Br) (r:Nat):Nat:=if r<2 then 64 else bR B r
def aw3 (F:eV ae) {B:List Br} {r n:Nat} (hn:In B n) (hb:B.length<=4096):bg P X GL ae 183 [eD (B,r),.i .i64 (n:Int)] (ι (pl B n:Int)):=by
 refine bg.intro λC E=> ?_;rw[ke E.ok (E.get F.f183)];rcases hn.cases with h1|⟨i,b,rfl,hbi⟩
 ·have hn':(n:Int)<2:=by omega
  simp only[A0,HT,HU,HW,HX,↓dX E.ok,↓dE,↓dG,bI,dF,hn',Nat.reduceEqDiff,reduceIte,eZ,fY,eD,go_sem];exact⟨1,by simp[deep,pl,h1]⟩
 ·have hn':¬(((i+2:Nat):Int)<2):=by omega
  have aV:i<B.length:=(eC.1 hbi).1;have e1:((i+2:Nat):Int)-2=(i:Int):=by omega
  have e2:aY .sub (ι ((i+2:Nat):Int)) (ι 2)=some (ι (i:Int)):=by rw[rX ω,e1]
  have e3:cu B= .ds (dK B) 0 B.length 3:=by cases B with|nil=>simp at aV|cons _ _=>rfl
  have e4:sub (dK B) (i*3) 1=some [.i .i64 (b.1:Int)]:=by have:=nQ hbi 0 1 ω;simpa[gH] using this
  simp only[A0,HT,HU,HW,HX,↓dX E.ok,↓dE,↓dG,bI,dF,hn',Nat.reduceEqDiff,reduceIte,eZ,fY,eD,e2,e3,aV,e4,go_sem];exact⟨1,by simp[deep,pl,gy hbi,show¬(i+2<2) by omega]⟩
variable (S:aT P X GL ae)
def D3 (F:eV ae) {B:List Br} {r n:Nat} (hn:In B n) (hb:B.length<=4096) (h:AH):bP P X GL 183 [eD (B,r),.i .i64 (n:Int)] h (ι (pl B n:Int)) h:=
 dR S (aw3 F hn hb) (n:=9) (by simp only[aL,qU,bZ,deep]) h
def aw4 (F:eV ae) {B:List Br} {r n v:Nat} (hn:In B n) (hb:B.length<=4096) (hv:v<64):bg P X GL ae 483 [eD (B,r),.i .i64 (n:Int),.i .i64 (v:Int)] (.tu [.i .i64 (lo B n v:Int),.i .i64 (hi B n v:Int)]):=by
 refine bg.intro λC E=> ?_;rw[ke E.ok (E.get F.f483)];simp only[PW,PR,PS,PT,PU,PV,↓dX E.ok,↓dE,↓dG,bI,dF,Nat.reduceEqDiff,Nat.reduceAdd,reduceIte,eZ,fY,eD,go_sem];refine E.cN (D3 S F hn hb _) ?_;rcases hn.cases with h1|⟨i,b,rfl,hbi⟩
 ·have e:((pl B n:Nat):Int)=64:=by simp[pl,h1]
  have e2:¬((64:Int)=(v:Int)):=by omega
  simp only[↓dX E.ok,↓dE,↓dG,bI,dF,e,e2,Nat.reduceEqDiff,reduceIte,go_sem];exact⟨1,by simp[deep,lJ,tg,tF h1,tG h1]⟩
 ·have aV:i<B.length:=(eC.1 hbi).1;have e:((pl B (i+2):Nat):Int)=(b.1:Int):=by simp[pl,gy hbi,show¬(i+2<2) by omega]
  by_cases e2:b.1=v
  ·have e2':((b.1:Nat):Int)=(v:Int):=by omega
   have e5:aY .sub (ι ((i+2:Nat):Int)) (ι 2)=some (ι (i:Int)):=by rw[rX ω];congr 2;omega
   have e3:cu B= .ds (dK B) 0 B.length 3:=by cases B with|nil=>simp at aV|cons _ _=>rfl
   have e4:sub (dK B) (i*3+1) 1=some [.i .i64 (b.2.1:Int)]:=by have:=nQ hbi 1 1 ω;simpa[gH] using this
   have e6:sub (dK B) (i*3+2) 1=some [.i .i64 (b.2.2:Int)]:=by have:=nQ hbi 2 1 ω;simpa[gH] using this
   simp only[↓dX E.ok,↓dE,↓dG,bI,dF,e,e2',e3,e4,e5,e6,aV,Nat.reduceEqDiff,reduceIte,go_sem];exact⟨1,by simp[deep,lJ,tg,pb hbi,pf hbi,e2]⟩
  ·have e2':¬(((b.1:Nat):Int)=(v:Int)):=by omega
   simp only[↓dX E.ok,↓dE,↓dG,bI,dF,e,e2',Nat.reduceEqDiff,reduceIte,go_sem];exact⟨1,by simp[deep,lJ,tg,pb hbi,pf hbi,e2]⟩
def Iy (F:eV ae) {B:List Br} {r n v:Nat} (hn:In B n) (hb:B.length<=4096) (hv:v<64) (h:AH):bP P X GL 483 [eD (B,r),.i .i64 (n:Int),.i .i64 (v:Int)] h (.tu [.i .i64 (lo B n v:Int),.i .i64 (hi B n v:Int)]) h:=
 dR S (aw4 S F hn hb hv) (n:=9) (by simp only[aL,qU,bZ,deep]) h
attribute [go_sem] yF
def eB (b:Br):AV:= .ag [.i .i64 (b.1:Int),.i .i64 (b.2.1:Int),.i .i64 (b.2.2:Int)]
def eN (n:Nat):AV:= .i .i64 (n:Int)
def yG:rZ eB t3 where
 eq:=λa b=>by
  have:=Hd.eq ((a.1:Int),(a.2.1:Int),(a.2.2:Int)) ((b.1:Int),(b.2.1:Int),(b.2.2:Int));refine this.trans ?_;obtain⟨a1,a2,a3⟩:=a;obtain⟨b1,b2,b3⟩:=b;congr 1;rw[decide_eq_decide];simp only[xK];omega
 q:=λa=>Hd.q ((a.1:Int),(a.2.1:Int),(a.2.2:Int))
 self:=λa=>Hd.self ((a.1:Int),(a.2.1:Int),(a.2.2:Int))
def iJ:Nat ->List Br ->List (Br×Nat)
 |_,[]=>[]
 |i,b::B=>(b,i+2)::iJ (i+1) B
def Q7:∀(B C:List Br) (i:Nat),iJ i (B++C)=iJ i B++iJ (i+B.length) C
 |[],C,i=>by simp[iJ]
 |b::B,C,i=>by simp only[gw,iJ,Q7 B C (i+1),gJ];rw[show i+(B.length+1)=i+1+B.length by omega]
def Iz:∀(B:List Br) (i:Nat) (b:Br),(∀n,look b (iJ i B)=some n ->∃j,n=i+j+2/\ B[j]? =some b)/\ (look b (iJ i B)=none ->∀j:Nat,B[j]?≠some b)
 |[],i,b=>⟨λn h=>by simp[iJ,look] at h,λ_ j h=>by simp at h⟩
 |a::B,i,b=>by
  obtain⟨h1,h2⟩:=Iz B (i+1) b;by_cases e:b=a
  ·subst e;exact⟨λn h=>by simp[iJ,look] at h;exact⟨0,by omega,rfl⟩,λh=>by simp[iJ,look] at h⟩
  ·refine⟨λn h=> ?_,λh j=> ?_⟩
   ·simp only[iJ,look,aD e] at h;obtain⟨j,e1,e2⟩:=h1 n h;exact⟨j+1,by omega,by simpa using e2⟩
   ·simp only[iJ,look,aD e] at h;cases j with
    |zero=>simp;exact λh=>e h.symm
    |succ j=>simpa using h2 h j
def gN (g:Nat ->Option bC) (o:Nat) (B:List Br) (a:AV):Prop:=(B=[]/\ a= .sn)∨(B≠[]/\ a= .sl o 0 B.length none 3/\∃v,g o=some (.cells v (dK B)))
structure BS (p q:Nat) (B:List Br) (o:Nat) (h:AH):Prop where
 known:yh eB eN h p (iJ 0 B)
 cell:∃v a,h.oB.get q=some (.cells v [a,.m p])/\ gN h.oB.get o B a
structure BF (p q:Nat) (o:Nat) (h:AH) (o':Nat) (h':AH):Prop where
 next:h.next<=h'.next
 same:∀j,j<h.next ->j≠p ->j≠q ->j≠o ->h'.oB.get j=h.oB.get j
 new:o'=o∨h.next<=o'
variable {C:aK Prop} (E:Sem P X GL ae C)
def aw5 (F:eV ae) {p q o:Nat} {B:List Br} {m ver:Nat} {ob:T bC} (bs:BS p q B o ⟨m+17,ver,ob⟩) (hp:p<17) (hq:q<17) (hpq:p≠q) (ho:B≠[] ->o<m+17/\ o≠p/\ o≠q) {v l hh:Nat}
 (eQ:B.length+1<=1048576) (k:AV ->AH ->Prop)
 (hk:∀r B' o' h',BS p q B' o' h' ->BF p q o ⟨m+17,ver,ob⟩ o' h' ->(B'≠[] ->o'<h'.next/\ o'≠p/\ o'≠q) ->
  (l=hh/\ r=l/\ B'=B)∨(l≠hh/\∃i:Nat,r=i+2/\ B'[i]? =some (v,l,hh)/\ (B'=B∨(B'=B++[(v,l,hh)]/\∀j:Nat,B[j]?≠some (v,l,hh)))) ->k (ι (r:Int)) h'):
 du C 484 [.p q 0,.i .i64 (v:Int),.i .i64 (l:Int),.i .i64 (hh:Int)] ⟨m+17,ver,ob⟩ k:=by
 rw[ke E.ok (E.get F.f484)];by_cases e:l=hh
 ·have e':((l:Int)=(hh:Int))=True:=cJ;simp only[Be,A3,A4,A5,A6,A7,A8,A9,Ba,Bb,Bc,Bd,↓dX E.ok,↓dE,↓dG,bI,dF,e',Nat.reduceEqDiff,Nat.reduceAdd,reduceIte,eZ,fY,go_sem];exact hk l B o _ bs ⟨bB _,λ_ _ _ _ _=>rfl,.inl rfl⟩ (λhb=>⟨(ho hb).1,(ho hb).2⟩) (.inl ⟨e,rfl,rfl⟩)
 ·have e':((l:Int)=(hh:Int))=False:=av;obtain⟨ver1,hg⟩:=bs.known;obtain⟨ver2,a,hc,hn⟩:=bs.cell;have hc':ob.get q=some (.cells ver2 [a,.m p]):=hc;have hg':ob.get p=some (.map ver1 (di eB eN 0 (iJ 0 B)) (iJ 0 B).length):=hg;have n1:(q=m+17)=False:=av;have n2:(p=m+17)=False:=av;have n3:(q=m+18)=False:=av;have n4:(p=m+18)=False:=av;have n5:(q=m+19)=False:=av;have n6:(p=m+19)=False:=av;have rp17:(m+17=p)=False:=av;have rp18:(m+18=p)=False:=av;have rp19:(m+19=p)=False:=av;have rq17:(m+17=q)=False:=av;have rq18:(m+18=q)=False:=av;have rq19:(m+19=q)=False:=av;have s1:(m=m+1)=False:=av;have s2:(m=m+2)=False:=av;have n7:(q=p)=False:=av;have n8:(p=q)=False:=av;have lk:∀aA ob' (ev:MA ->AV),T.get ob' p=some (.map ver1 (di eB eN 0 (iJ 0 B)) (iJ 0 B).length) ->ev (.t 24)= .m p ->ev (.t 25)= .ag [.i .i64 (v:Int),.i .i64 (l:Int),.i .i64 (hh:Int)] ->
   step ev ⟨m+17+1,aA,ob'⟩ (.look t3 (.t 24) (.t 25) (ι 0) true)= .v (hU eN (ι 0) (look (v,l,hh) (iJ 0 B))) ⟨m+17+1,aA,ob'⟩:=
   λaA ob' ev q1 q2 q3=>uQ (k:=(v,l,hh)) (z:= .i .i64 0) yG (h:=⟨m+17+1,aA,ob'⟩) ⟨ver1,q1⟩ q2 q3
  have ap0:∀aA ob' (ev:MA ->AV),cG (T.get ob' (m+18))=some [.i .i64 (v:Int),.i .i64 (l:Int),.i .i64 (hh:Int)] ->ev (.t 35)= .sn ->ev (.t 37)= .sl (m+18) 0 1 (some 1) 3 ->
   step ev ⟨m+17+1+1,aA,ob'⟩ (.app (.t 35) (.t 37) 3 24)= .v (.sl (m+19) 0 1 none 3) ⟨m+17+1+1+1,aA,ob'.put (m+19) (.cells aA [.i .i64 (v:Int),.i .i64 (l:Int),.i .i64 (hh:Int)])⟩:=
   λaA ob' ev q1 q2 q3=>Hf (h:=⟨m+17+1+1,aA,ob'⟩) q2 q3 (wG.trans q1) rfl rfl
  have ap1:∀aA ob' (ev:MA ->AV),cG (T.get ob' (m+18))=some [.i .i64 (v:Int),.i .i64 (l:Int),.i .i64 (hh:Int)] ->cG (T.get ob' o)=some (dK B) ->ev (.t 35)= .sl o 0 B.length none 3 ->ev (.t 37)= .sl (m+18) 0 1 (some 1) 3 ->
   step ev ⟨m+17+1+1,aA,ob'⟩ (.app (.t 35) (.t 37) 3 24)= .v (.sl (m+19) 0 (B.length+1) none 3) ⟨m+17+1+1+1,aA+1,(ob'.put o .gone).put (m+19) (.cells (aA+1) (dK B++[.i .i64 (v:Int),.i .i64 (l:Int),.i .i64 (hh:Int)]))⟩:=
   λaA ob' ev q1 q0 q2 q3=>He (h:=⟨m+17+1+1,aA,ob'⟩) q2 (wG.trans q0) (DZ B) q3 (wG.trans q1) rfl rfl eQ
  have mu:∀aA ob' (ev:MA ->AV),T.get ob' p=some (.map ver1 (di eB eN 0 (iJ 0 B)) (iJ 0 B).length) ->ev (.t 50)= .m p ->ev (.t 51)= .ag [.i .i64 (v:Int),.i .i64 (l:Int),.i .i64 (hh:Int)] ->ev (.t 52)= .i .i64 ((B.length+2:Nat):Int) ->
   step ev ⟨m+17+1+1+1,aA,ob'⟩ (.mupd t3 (.t 50) (.t 51) (.t 52))= .v .un ⟨m+17+1+1+1,aA+1,ob'.put p (.map (aA+1) (di eB eN 0 (ups (v,l,hh) (B.length+2) (iJ 0 B))) (ups (v,l,hh) (B.length+2) (iJ 0 B)).length)⟩:=
   λaA ob' ev q1 q2 q3 q4=>mL (k:=(v,l,hh)) (v:=B.length+2) yG (h:=⟨m+17+1+1+1,aA,ob'⟩) ⟨ver1,q1⟩ q2 q3 q4
  unfold t3 at lk mu;cases hl:look (v,l,hh) (iJ 0 B) with
  |some n=>
   simp only[Be,A3,A4,A5,A6,A7,A8,A9,Ba,Bb,Bc,Bd,↓dX E.ok,↓dE,↓dG,bI,dF,e',hc',hg',n1,n2,Nat.reduceEqDiff,Nat.reduceAdd,reduceIte,eZ,fY,lk,hl,hU,eN,go_sem];obtain⟨j,hj1,hj2⟩:=(Iz B 0 (v,l,hh)).1 n hl;refine hk n B o _ ⟨⟨ver1,?_⟩,ver2,a,?_,?_⟩ ⟨by show m+17<=m+17+1;omega,λi h1 _ _ _=> ?_,.inl rfl⟩ (λhb=>⟨by have:=(ho hb).1;show o<m+17+1;omega,(ho hb).2⟩) (.inr ⟨e,j,by omega,hj2,.inl rfl⟩)
   ·simp only[T.get_put,n2,bV];exact hg'
   ·simp only[T.get_put,n1,bV];exact hc'
   ·rcases hn with hn|⟨h1,h2,v3,h3⟩
    ·exact .inl hn
    ·refine .inr ⟨h1,h2,v3,?_⟩;have:(o=m+17)=False:=dQ (by have:=(ho h1).1;omega);simp only[T.get_put,this,bV];exact h3
   ·have:(i=m+17)=False:=dQ (by have h1':i<m+17:=h1;omega);simp only[T.get_put,this,bV]
  |none=>
   have hnew:=(Iz B 0 (v,l,hh)).2 hl;have hk2:ups (v,l,hh) (B.length+2) (iJ 0 B)=iJ 0 (B++[(v,l,hh)]):=by rw[yg hl,Q7];simp[iJ]
   rw[hk2] at mu;rcases hn with ⟨hB,ha⟩|⟨hB,ha,ver3,ho3⟩
   ·subst ha;have ad:aY .add (ι ((1:Nat):Int)) (ι 1)=some (ι ((B.length+2:Nat):Int)):=by rw[wD ω];subst hB;rfl
    simp only[Be,A3,A4,A5,A6,A7,A8,A9,Ba,Bb,Bc,Bd,↓dX E.ok,↓dE,↓dG,bI,dF,e',hc',hg',n1,n2,n3,n4,n5,n6,n7,n8,rp17,rq17,s1,s2,ap0,ad,mu,Nat.reduceEqDiff,Nat.reduceAdd,Nat.reduceShiftRight,Nat.reduceAnd,Nat.reduceBneDiff,reduceIte,eZ,fY,lk,hl,hU,go_sem];refine hk (B.length+2) (B++[(v,l,hh)]) (m+19) _ ⟨⟨ver+1+1+1+1,?_⟩,ver+1+1+1,.sl (m+19) 0 1 none 3,?_,.inr ⟨by simp,by subst hB;rfl,ver+1+1,?_⟩⟩ ⟨by show m+17<=m+17+1+1+1;omega,λi h1 h2 h3 _=> ?_,.inr (by show m+17<=m+19;omega)⟩
     (λ_=>⟨by show m+19<m+17+1+1+1;omega,by omega,by omega⟩) (.inr ⟨e,B.length,rfl,by simp,.inr ⟨rfl,hnew⟩⟩)
    ·simp only[T.get_put,dZ]
    ·simp only[T.get_put,n7,bV,dZ]
    ·simp only[T.get_put,rp19,rq19,bV,dZ];subst hB;rfl
    ·have h1':i<m+17:=h1;have q1:(i=m+17)=False:=av;have q2:(i=m+18)=False:=av;have q3:(i=m+19)=False:=av;have q4:(i=p)=False:=dQ h2;have q5:(i=q)=False:=dQ h3;simp only[T.get_put,q1,q2,q3,q4,q5,bV]
   ·subst ha;have hoo:=ho hB;have ho3':ob.get o=some (.cells ver3 (dK B)):=ho3;have o1:(o=m+17)=False:=av;have o2:(o=m+18)=False:=av;have o3:(o=m+19)=False:=av;have o4:(m+17=o)=False:=av;have o5:(m+18=o)=False:=av;have o6:(m+19=o)=False:=av;have o7:(p=o)=False:=av;have o8:(q=o)=False:=av;have ad:aY .add (ι ((B.length+1:Nat):Int)) (ι 1)=some (ι ((B.length+2:Nat):Int)):=by rw[wD ω];congr 2
    simp only[Be,A3,A4,A5,A6,A7,A8,A9,Ba,Bb,Bc,Bd,↓dX E.ok,↓dE,↓dG,bI,dF,e',hc',hg',n1,n2,n3,n4,n5,n6,n7,n8,rp17,rq17,s1,s2,ap1,ad,mu,ho3',o1,o2,o4,o7,o8,Nat.reduceEqDiff,Nat.reduceAdd,Nat.reduceShiftRight,Nat.reduceAnd,Nat.reduceBneDiff,reduceIte,eZ,fY,lk,hl,hU,go_sem];refine hk (B.length+2) (B++[(v,l,hh)]) (m+19) _ ⟨⟨ver+1+1+1+1+1,?_⟩,ver+1+1+1+1,.sl (m+19) 0 (B.length+1) none 3,?_,.inr ⟨by simp,by simp,ver+1+1+1,?_⟩⟩ ⟨by show m+17<=m+17+1+1+1;omega,λi h1 h2 h3 h4=> ?_,.inr (by show m+17<=m+19;omega)⟩
     (λ_=>⟨by show m+19<m+17+1+1+1;omega,by omega,by omega⟩) (.inr ⟨e,B.length,rfl,by simp,.inr ⟨rfl,hnew⟩⟩)
    ·simp only[T.get_put,dZ]
    ·simp only[T.get_put,n7,bV,dZ]
    ·simp only[T.get_put,rp19,rq19,bV,dZ,Ix];rfl
    ·have h1':i<m+17:=h1;have q1:(i=m+17)=False:=av;have q2:(i=m+18)=False:=av;have q3:(i=m+19)=False:=av;have q4:(i=p)=False:=dQ h2;have q5:(i=q)=False:=dQ h3;have q6:(i=o)=False:=dQ h4;simp only[T.get_put,q1,q2,q3,q4,q5,q6,bV]
def cY (g:Bool ->Bool ->Bool):Tr ->Tr ->Tr
 | .c a,.c b=> .c (g a b)
 | .n a b,.n c d=> .n (cY g a c) (cY g b d)
 |t,_=>t
def nR (g:Bool ->Bool ->Bool) (NA NB B:List Br) (x y r:Nat):Prop:=
 In B r/\∀k,k<=3 ->3-k<=bR NA x ->3-k<=bR NB y ->3-k<=bR B r/\ tr B k r=cY g (tr NA k x) (tr NB k y)
def nR.ext {g:Bool ->Bool ->Bool} {NA NB B:List Br} (ok:OK B) {x y r:Nat} (h:nR g NA NB B x y r) (C:List Br):nR g NA NB (B++C) x y r:=
 ⟨h.1.ext,λk h1 h2 h3=>by rw[AU h.1,Hs ok k r h.1];exact h.2 k h1 h2 h3⟩
def IA (g:Bool ->Bool ->Bool) (NA NB B:List Br) (M:List (Br×Nat)):Prop:=∀x y r,look (x,y,0) M=some r ->In NA x ->In NB y ->nR g NA NB B x y r
def qi {κ ν:Type} [DecidableEq κ] {k k':κ} {v:ν}:∀{l:List (κ×ν)},look k' (ups k v l)=if k'=k then some v else look k' l
 |[]=>by simp[ups,look]
 |(a,b)::l=>by
  by_cases e:k=a
  ·subst e;by_cases e2:k'=k<;>simp[ups,look,e2]
  ·simp only[ups,aD e,look,qi (l:=l)];by_cases e2:k'=a
   ·have:¬k'=k:=λh=>e (h▸e2);simp[e2];intro h;exact bh h.symm e
   ·simp[e2]
structure CS (NA NB:List Br) (ra rb:Nat) (opf:AV) (B:List Br) (o:Nat) (M:List (Br×Nat)) (h:AH):Prop where
 bs:BS 11 12 B o h
 c5:cG (h.oB.get 5)=some [opf]
 c8:cG (h.oB.get 8)=some [cu NA,.i .i64 (ra:Int),cu NB,.i .i64 (rb:Int),.sn,.i .i64 0]
 c9:cG (h.oB.get 9)=some [.f 401 [] [.p 5 0]]
 c13:cG (h.oB.get 13)=some [.p 12 0]
 memo:yh eB eN h 14 M
 c15:cG (h.oB.get 15)=some [.m 14]
 c16:cG (h.oB.get 16)=some [.f 482 [] [.p 9 0,.p 15 0,.p 8 0,.p 16 0,.p 13 0]]
 next:17<=h.next
 nodes:B≠[] ->17<=o/\ o<h.next
structure CF (o:Nat) (h:AH) (o':Nat) (h':AH):Prop where
 next:h.next<=h'.next
 same:∀j,17<=j ->j<h.next ->j≠o ->h'.oB.get j=h.oB.get j
 new:o'=o∨h.next<=o'
 old:∀j,j<11 ->h'.oB.get j=h.oB.get j
def CF.refl {o:Nat} {h:AH}:CF o h o h:=⟨bB _,λ_ _ _ _=>rfl,.inl rfl,λ_ _=>rfl⟩
def CF.trans {o o' o'':Nat} {h h' h'':AH} (a:CF o h o' h') (b:CF o' h' o'' h''):CF o h o'' h'':=
 ⟨fJ a.next b.next,λj h1 h2 h3=>by
  rw[b.same j h1 (iR h2 a.next) (by
   rcases a.new with e|e;·rw[e];exact h3
   ·omega),a.same j h1 h2 h3],
  by
   rcases b.new with e|e
   ·rcases a.new with e2|e2
    ·exact .inl (e.trans e2)
    ·exact .inr ω
   ·exact .inr (fJ a.next e),λj hj=>(b.old j hj).trans (a.old j hj)⟩
def iz {t:T bC} {i j:Nat} {x:bC} (h:j≠i):(t.put i x).get j=t.get j:=by rw[T.get_put,aD h]
def CS.put {NA NB:List Br} {ra rb:Nat} {opf:AV} {B:List Br} {o:Nat} {M:List (Br×Nat)} {n v:Nat} {t:T bC} (c:CS NA NB ra rb opf B o M ⟨n,v,t⟩) {i n' v':Nat} {ob:bC} (hi:17<=i) (ho:B≠[] ->i≠o) (hn:n<=n'):
 CS NA NB ra rb opf B o M ⟨n',v',t.put i ob⟩ where
 bs:=by
  obtain⟨⟨w1,h1⟩,w2,a,h2,h3⟩:=c.bs;refine⟨⟨w1,by show(t.put i ob).get 11=_;rw[iz ω];exact h1⟩,w2,a,by show(t.put i ob).get 12=_;rw[iz ω];exact h2,?_⟩;rcases h3 with h3|⟨e1,e2,w3,e3⟩
  ·exact .inl h3
  ·exact .inr ⟨e1,e2,w3,by show(t.put i ob).get o=_;rw[iz (λh=>ho e1 h.symm)];exact e3⟩
 c5:=by show cG ((t.put i ob).get 5)=_;rw[iz ω];exact c.c5
 c8:=by show cG ((t.put i ob).get 8)=_;rw[iz ω];exact c.c8
 c9:=by show cG ((t.put i ob).get 9)=_;rw[iz ω];exact c.c9
 c13:=by show cG ((t.put i ob).get 13)=_;rw[iz ω];exact c.c13
 memo:=by obtain⟨w,h⟩:=c.memo;exact⟨w,by show(t.put i ob).get 14=_;rw[iz ω];exact h⟩
 c15:=by show cG ((t.put i ob).get 15)=_;rw[iz ω];exact c.c15
 c16:=by show cG ((t.put i ob).get 16)=_;rw[iz ω];exact c.c16
 next:=fJ c.next hn
 nodes:=λh=>⟨(c.nodes h).1,iR (c.nodes h).2 hn⟩
def yH (C:aK Prop) (opf:AV) (g:Bool ->Bool ->Bool):Prop:=∃f,opf= .f f [] []/\∀x y h k,k (.b (g x y)) h ->hM C f [.b x,.b y] h k
def aw6 (F:eV ae):yH C (.f 266 [] []) (λx y=>x&&y):=by
 refine⟨266,rfl,λx y h k hk=>E.run ?_⟩;rw[ke E.ok (E.get F.f266)];cases x<;>cases y<;>
  (simp only[Qu,Qt,↓dX E.ok,↓dE,↓dG,bI,dF,Nat.reduceEqDiff,reduceIte,eZ,fY,go_sem];exact hk)
def aw7 (F:eV ae):yH C (.f 269 [] []) (λx y=>x||y):=by
 refine⟨269,rfl,λx y h k hk=>E.run ?_⟩;rw[ke E.ok (E.get F.f269)];cases x<;>cases y<;>
  (simp only[Qz,Qy,↓dX E.ok,↓dE,↓dG,bI,dF,Nat.reduceEqDiff,reduceIte,eZ,fY,go_sem];exact hk)
def aw8 (F:eV ae) {opf:AV} {g:Bool ->Bool ->Bool} (hop:yH C opf g) {n v:Nat} {t:T bC} (hc:cG (t.get 5)=some [opf]) {x y z:Bool} {k:AV ->AH ->Prop} (hk:k (.b (g x y)) ⟨n,v,t⟩):
 hM C 401 [.b x,.b y,.b z,.p 5 0] ⟨n,v,t⟩ k:=by
 obtain⟨f,rfl,hf⟩:=hop;refine E.run ?_;rw[ke E.ok (E.get F.f401)];simp only[Qp,Qo,↓dX E.ok,↓dE,↓dG,bI,dF,hc,Nat.reduceEqDiff,Nat.reduceAdd,reduceIte,eZ,fY,go_sem];exact hf _ _ _ _ hk
def IB {g:Bool ->Bool ->Bool} {NA NB B:List Br} {x y v r1 r2 r:Nat} (ax:OK NA) (okB:OK NB) (ok:OK B) (hx:In NA x) (hy:In NB y) (hv:min (bR NA x) (bR NB y)=v) (h3:v<3)
 (h1:nR g NA NB B (lo NA x v) (lo NB y v) r1) (h2:nR g NA NB B (hi NA x v) (hi NB y v) r2) (hr:(r1=r2/\ r=r1)∨(∃i:Nat,r=i+2/\ B[i]? =some (v,r1,r2))):nR g NA NB B x y r:=by
 have lx:=si ax (v:=v) hx ω h3;have ly:=si okB (v:=v) hy ω h3;have mx:=sj ax (v:=v) hx ω h3;have my:=sj okB (v:=v) hy ω h3;obtain⟨j,hj⟩:∃j,v=2-j/\ j<=2:=⟨2-v,by omega,by omega⟩;have a1:=h1.2 j ω ω ω;have a2:=h2.2 j ω ω ω;have hin:In B r:=by
  rcases hr with ⟨_,rfl⟩|⟨i,rfl,hb⟩
  ·exact h1.1
  ·exact In.of hb
 have hl:v<=bR B r:=by
  rcases hr with ⟨_,rfl⟩|⟨i,rfl,hb⟩
  ·omega
  ·rw[gy hb];exact bB _
 have hlo:lo B r v=r1:=by
  rcases hr with ⟨_,rfl⟩|⟨i,rfl,hb⟩
  ·exact((uS ok h1.1 h3).2 ω).1
  ·rw[pb hb,aF rfl]
 have hhi:hi B r v=r2:=by
  rcases hr with ⟨rfl,rfl⟩|⟨i,rfl,hb⟩
  ·exact((uS ok h1.1 h3).2 ω).2
  ·rw[pf hb,aF rfl]
 refine⟨hin,?_⟩;have up:∀i,j+1+i<=3 ->tr B (j+1+i) r=cY g (tr NA (j+1+i) x) (tr NB (j+1+i) y):=by
  intro i;induction i with
  |zero=>
   intro _;show Tr.n (tr B j (lo B r (2-j))) (tr B j (hi B r (2-j)))=cY g (.n (tr NA j (lo NA x (2-j))) (tr NA j (hi NA x (2-j)))) (.n (tr NB j (lo NB y (2-j))) (tr NB j (hi NB y (2-j))));rw[←hj.1,hlo,hhi,a1.2,a2.2];rfl
  |succ i ih=>
   intro hi3;have e:=ih ω;have p1:=(uS ok hin (v:=2-(j+1+i)) ω).2 ω;have p2:=(uS ax hx (v:=2-(j+1+i)) ω).2 ω;have p3:=(uS okB hy (v:=2-(j+1+i)) ω).2 ω;show Tr.n (tr B (j+1+i) (lo B r (2-(j+1+i)))) (tr B (j+1+i) (hi B r (2-(j+1+i))))=cY g (.n (tr NA (j+1+i) (lo NA x (2-(j+1+i)))) (tr NA (j+1+i) (hi NA x (2-(j+1+i))))) (.n (tr NB (j+1+i) (lo NB y (2-(j+1+i)))) (tr NB (j+1+i) (hi NB y (2-(j+1+i)))));rw[p1.1,p1.2,p2.1,p2.2,p3.1,p3.2,e];rfl
 intro k hk k1 k2;obtain⟨i,rfl⟩:∃i,k=j+1+i:=⟨k-(j+1),by omega⟩;exact⟨by omega,up i hk⟩
def CS.memoPut {NA NB:List Br} {ra rb:Nat} {opf:AV} {B:List Br} {o:Nat} {M M':List (Br×Nat)} {n v:Nat} {t:T bC} (c:CS NA NB ra rb opf B o M ⟨n,v,t⟩) {v' w:Nat} (hoB:B=[] ->o=11):
 CS NA NB ra rb opf B o M' ⟨n,v',t.put 14 (.map w (di eB eN 0 M') M'.length)⟩ where
 bs:=by
  obtain⟨⟨w1,h1⟩,w2,a,h2,h3⟩:=c.bs;refine⟨⟨w1,by show(t.put 14 _).get 11=_;rw[iz ω];exact h1⟩,w2,a,by show(t.put 14 _).get 12=_;rw[iz ω];exact h2,?_⟩;rcases h3 with h3|⟨e1,e2,w3,e3⟩
  ·exact .inl h3
  ·exact .inr ⟨e1,e2,w3,by show(t.put 14 _).get o=_;rw[iz (by have:=(c.nodes e1).1;omega)];exact e3⟩
 c5:=by show cG ((t.put 14 _).get 5)=_;rw[iz ω];exact c.c5
 c8:=by show cG ((t.put 14 _).get 8)=_;rw[iz ω];exact c.c8
 c9:=by show cG ((t.put 14 _).get 9)=_;rw[iz ω];exact c.c9
 c13:=by show cG ((t.put 14 _).get 13)=_;rw[iz ω];exact c.c13
 memo:=⟨w,by show(t.put 14 _).get 14=_;rw[T.get_put,aF rfl]⟩
 c15:=by show cG ((t.put 14 _).get 15)=_;rw[iz ω];exact c.c15
 c16:=by show cG ((t.put 14 _).get 16)=_;rw[iz ω];exact c.c16
 next:=c.next
 nodes:=c.nodes
def CS.branch {NA NB:List Br} {ra rb:Nat} {opf:AV} {B B':List Br} {o o':Nat} {M:List (Br×Nat)} {h h':AH} (c:CS NA NB ra rb opf B o M h) (hoB:o=11∨17<=o) (bs:BS 11 12 B' o' h') (bf:BF 11 12 o h o' h')
 (hn:B'≠[] ->o'<h'.next/\ o'≠11/\ o'≠12):CS NA NB ra rb opf B' o' M h':=by
 have hsame:∀j,j<17 ->j≠11 ->j≠12 ->h'.oB.get j=h.oB.get j:=λj h1 h2 h3=>bf.same j (by have:=c.next;omega) h2 h3 ω;exact {
  bs:=bs
  c5:=by rw[hsame 5 ω ω ω];exact c.c5
  c8:=by rw[hsame 8 ω ω ω];exact c.c8
  c9:=by rw[hsame 9 ω ω ω];exact c.c9
  c13:=by rw[hsame 13 ω ω ω];exact c.c13
  memo:=by obtain⟨w,hm⟩:=c.memo;exact⟨w,by rw[hsame 14 ω ω ω];exact hm⟩
  c15:=by rw[hsame 15 ω ω ω];exact c.c15
  c16:=by rw[hsame 16 ω ω ω];exact c.c16
  next:=fJ c.next bf.next
  nodes:=λhb=>by
   have h1:=hn hb;refine⟨?_,h1.1⟩;rcases bf.new with e|e
   ·rcases hoB with h2|h2
    ·rw[e,h2] at h1;exact bh rfl h1.2.1
    ·omega
   ·have:=c.next;omega }
def CF.branch {o o2 o':Nat} {h h3 h4:AH} (a:CF o h o2 h3) (b:BF 11 12 o2 h3 o' h4) (ho:o2=11∨17<=o2) (hn:17<=h3.next):CF o h o' h4:=
 a.trans ⟨b.next,λj h1 h2 h3=>b.same j h2 ω ω h3,b.new,λj h1=>b.same j ω ω ω ω⟩
def CF.small {o o':Nat} {h:AH} {n v:Nat} {t:T bC} {v' i:Nat} {ob:bC} (a:CF o h o' ⟨n,v,t⟩) (hi:11<=i/\ i<17):CF o h o' ⟨n,v',t.put i ob⟩:=
 ⟨a.next,λj h1 h2 h3=>by show(t.put i ob).get j=_;rw[iz ω];exact a.same j h1 h2 h3,a.new,λj h1=>by show(t.put i ob).get j=_;rw[iz ω];exact a.old j h1⟩
def CF.moved {o o' o'':Nat} {h h':AH} (a:CF o h o' h') (hn:o''=o∨h.next<=o''):CF o h o'' h':=⟨a.next,a.same,hn,a.old⟩
def CS.moved {NA NB:List Br} {ra rb:Nat} {opf:AV} {o o':Nat} {M:List (Br×Nat)} {h:AH} (c:CS NA NB ra rb opf [] o M h):CS NA NB ra rb opf [] o' M h:=
 {
  c with
  bs:=by
   obtain⟨a1,w2,a,h2,h3⟩:=c.bs;refine⟨a1,w2,a,h2,?_⟩;rcases h3 with h3|⟨e1,_⟩
   ·exact .inl h3
   ·exact bh rfl e1
  nodes:=λh=>bh rfl h }
def Q8 {g:Bool ->Bool ->Bool} {NA NB B B':List Br} {x y v r1 r2 r:Nat} (ax:OK NA) (okB:OK NB) (ok:OK B) (hx:In NA x) (hy:In NB y) (hv:min (bR NA x) (bR NB y)=v) (h3:v<3)
 (h1:nR g NA NB B (lo NA x v) (lo NB y v) r1) (h2:nR g NA NB B (hi NA x v) (hi NB y v) r2)
 (spec:(r1=r2/\ r=r1/\ B'=B)∨(r1≠r2/\∃i:Nat,r=i+2/\ B'[i]? =some (v,r1,r2)/\ (B'=B∨(B'=B++[(v,r1,r2)]/\∀j:Nat,B[j]?≠some (v,r1,r2))))):
 OK B'/\ nR g NA NB B' x y r/\ (∃D,B'=B++D)/\ B'.length<=B.length+1:=by
 have lx:=si ax (v:=v) hx ω h3;have ly:=si okB (v:=v) hy ω h3;have mx:=sj ax (v:=v) hx ω h3;have my:=sj okB (v:=v) hy ω h3;have l1:=(h1.2 (2-v) ω ω ω).1;have l2:=(h2.2 (2-v) ω ω ω).1;rcases spec with ⟨e1,e2,rfl⟩|⟨dc,i,e2,hi,e3⟩
 ·exact⟨ok,IB ax okB ok hx hy hv h3 h1 h2 (.inl ⟨e1,e2⟩),⟨[],by simp⟩,by omega⟩
 ·rcases e3 with rfl|⟨rfl,hnew⟩
  ·exact⟨ok,IB ax okB ok hx hy hv h3 h1 h2 (.inr ⟨i,e2,hi⟩),⟨[],by simp⟩,by omega⟩
  ·have ok':=OK.add ok h3 h1.1 h2.1 ω ω dc hnew;exact⟨ok',IB ax okB ok' hx hy hv h3 (h1.ext ok _) (h2.ext ok _) (.inr ⟨i,e2,hi⟩),⟨[(v,r1,r2)],rfl⟩,by simp⟩
def aw9 {a b c:Nat} {ev:MA ->AV} {h:AH} {x y z:MA} (e1:ev x= .i .i64 (a:Int)) (e2:ev y= .i .i64 (b:Int)) (e3:ev z= .i .i64 (c:Int)):step ev h (.min [x,y,z])= .v (ι ((min (min a b) c:Nat):Int)) h:=by
 have hs:step ev h (.min [x,y,z])=(match eE ev [x,y,z] with|some (.i k a::r)=>dr h (jy fD k r a)|_=> .bad):=rfl;have hm:∀(p q r:Int),jy fD .i64 [.i .i64 q,.i .i64 r] p=(bif fD q p then (bif fD r q then some (ι r) else some (ι q)) else (bif fD r p then some (ι r) else some (ι p))):=λp q r=>rfl;rw[hs];simp only[wC,wy,e1,e2,e3,qH,hm,mI,rM,dr];by_cases h1:(b:Int)<(a:Int)
 ·rw[aF h1];by_cases h2:(c:Int)<(b:Int)
  ·rw[aF h2];dsimp only;congr 2;omega
  ·rw[aD h2];dsimp only;congr 2;omega
 ·rw[aD h1];by_cases h2:(c:Int)<(a:Int)
  ·rw[aF h2];dsimp only;congr 2;omega
  ·rw[aD h2];dsimp only;congr 2;omega
def D4:aw:= .seq H0 (.seq H2 (.seq H3 .ret))
def ax0 {C:aK Prop} (hC:lQ C) {f:Nat} {a:List AV} {h:AH} {k k':AV ->AH ->Prop} (hk:∀v h,k v h ->k' v h) (hr:hM C f a h k):hM C f a h k':=by
 obtain⟨n,hr⟩:=hr;exact⟨n,(c1 hC n f a h).mono (k:=λq=>k q.1 q.2) (k':=λq=>k' q.1 q.2) (λq=>hk _ _) hr⟩
def ax1 (F:eV ae) {NA NB:List Br} {ra rb:Nat} {opf:AV} (ax:OK NA) (okB:OK NB) (la:NA.length<=4096) (lb:NB.length<=4096)
 {x y v m ver:Nat} {B:List Br} {o:Nat} {M:List (Br×Nat)} {ob:T bC} {k:AV ->AH ->Prop} (hx:In NA x) (hy:In NB y) (cs:CS NA NB ra rb opf B o M ⟨m+17,ver,ob⟩) (hc:¬(x<2/\ y<2)) (hl:look (x,y,0) M=none) {τ₀:T AV} (g1:τ₀.get 1=some (.p 9 0)) (g2:τ₀.get 2=some (.p 15 0)) (g3:τ₀.get 3=some (.p 8 0)) (g4:τ₀.get 4=some (.p 16 0)) (g5:τ₀.get 5=some (.p 13 0)) (g6:τ₀.get 6=some (.p (m+17) 0))
 (hvv:min (bR NA x) (bR NB y)=v)
 (hgo:∀aA ob',CS NA NB ra rb opf B o M ⟨m+17+1+1+1,aA,ob'⟩ ->(∀j,j<m+17 ->ob'.get j=ob.get j) ->cG (ob'.get (m+17))=some [.i .i64 (x:Int),.i .i64 (y:Int),.i .i64 0] ->
  cG (ob'.get (m+17+1+1))=some [.i .i64 (hi NA x v:Int),.i .i64 (hi NB y v:Int),.i .i64 0] ->
  hM C 482 [.ag [.i .i64 (lo NA x v:Int),.i .i64 (lo NB y v:Int),.i .i64 0],.p 9 0,.p 15 0,.p 8 0,.p 16 0,.p 13 0] ⟨m+17+1+1+1,aA,ob'⟩ (λa h'=>∀τ:T AV,τ.get 2=some (.p 15 0) ->τ.get 4=some (.p 16 0) ->τ.get 5=some (.p 13 0) ->
   τ.get 6=some (.p (m+17) 0) ->τ.get 10=some (ι (v:Int)) ->τ.get 12=some (.p (m+17+1+1) 0) ->τ.get 14=some a ->
   gG C D4 (λe τ h=>match e with
    | .exit _=>False
    |_=>kQ k h (eZ τ h [(7,none)])) τ h')):
 gG C yC (λe τ h=>match e with
  | .exit _=>False
  |_=>kQ k h (eZ τ h [(7,none)])) τ₀ ⟨m+17+1,ver,ob.put (m+17) (.cells ver [.i .i64 (x:Int),.i .i64 (y:Int),.i .i64 0])⟩:=by
 have c5:=cs.c5;have c8:=cs.c8;have c9:=cs.c9;have c13:=cs.c13;have c15:=cs.c15;have c16:=cs.c16;obtain⟨verm,hm⟩:=cs.memo;dsimp only at c5 c8 c9 c13 c15 c16 hm;have nat0:fP (ι 0)=some 0:=rfl;have nat1:fP (ι 1)=some 1:=rfl;have nat2:fP (ι 2)=some 2:=rfl;have lt0:(0:Nat)<3:=by omega
 have lt1:(1:Nat)<3:=by omega
 have lt2:(2:Nat)<3:=by omega
 have cz:((0:Nat):Int)=0:=rfl;have z2:((0:Int)<2)=True:=cJ;have z1:((0:Int)=1)=False:=av;have lo0:lo [] 0 v=0:=rfl;have hi0:hi [] 0 v=0:=rfl;have hm':∀aA ob' (ev:MA ->AV),T.get ob' 14=some (.map verm (di eB eN 0 M) M.length) ->ev (.t 41)= .m 14 ->ev (.t 42)= .ag [.i .i64 (x:Int),.i .i64 (y:Int),.i .i64 0] ->
  step ev ⟨m+17+1,aA,ob'⟩ (.look t3 (.t 41) (.t 42) (ι 0) true)= .v (hU eN (ι 0) (look (x,y,0) M)) ⟨m+17+1,aA,ob'⟩:=
  λaA ob' ev q1 q2 q3=>uQ (k:=(x,y,0)) (z:= .i .i64 0) yG (h:=⟨m+17+1,aA,ob'⟩) ⟨verm,q1⟩ q2 q3
 unfold t3 at hm';have hin0:In ([]:List Br) 0:=In.small ω;have lvx:=sg ax hx;have lvy:=sg okB hy;have hv:min (min (pl NA x) (pl NB y)) 64=min (bR NA x) (bR NB y)/\ min (bR NA x) (bR NB y)<3:=by
  have q:∀(B':List Br) (z:Nat),OK B' ->In B' z ->(pl B' z=64/\ bR B' z=3)∨(pl B' z=bR B' z/\ bR B' z<3):=by
   intro B' z ok hz;rcases hz.cases with h1|⟨i,b,rfl,hb⟩
   ·exact .inl ⟨by simp[pl,h1],oG h1⟩
   ·refine .inr ⟨by simp[pl,show¬(i+2<2) by omega],?_⟩;rw[gy hb];exact ok.v _ _ hb
  have q3:∀(B':List Br) (z:Nat),OK B' ->In B' z ->¬z<2 ->bR B' z<3:=by
   intro B' z ok hz h2;rcases hz.cases with h1|⟨i,b,rfl,hb⟩
   ·exact bh h1 h2
   ·rw[gy hb];exact ok.v _ _ hb
  rcases q NA x ax hx with h1|h1<;>rcases q NB y okB hy with h2|h2
  ·exfalso;apply hc;exact⟨uk λh=>by have:=q3 NA x ax hx h;omega,uk λh=>by have:=q3 NB y okB hy h;omega⟩
  ·omega
  ·omega
  ·omega
 rw[hvv] at hv;have s1:(m=m+1)=False:=av;have s2:(m=m+2)=False:=av;have s3:(m+1=m)=False:=av;have s4:(m+2=m)=False:=av;have hv64:v<64:=by have:=hv.2;omega
 have mn:∀h' (ev:MA ->AV),ev (.t 52)= .i .i64 (pl NA x:Int) ->ev (.t 57)= .i .i64 (pl NB y:Int) ->ev (.t 62)= .i .i64 ((64:Nat):Int) ->step ev h' (.min [.t 52,.t 57,.t 62])= .v (ι (v:Int)) h':=
  λh' ev q1 q2 q3=>by rw[aw9 q1 q2 q3,hv.1]
 have e64:pl [] 0=64:=rfl;have add0:aY .add (ι 0) (ι 1)=some (ι 1):=rfl;have add1:aY .add (ι 1) (ι 1)=some (ι 2):=rfl;have add2:aY .add (ι 2) (ι 1)=some (ι 3):=rfl;simp only[yC,DJ,DK,P0,g2,g3,g6,↓dX E.ok,↓dE,↓dG,bI,dF,c8,c15,nat0,nat1,nat2,lt0,lt1,lt2,hm,hm',hl,hU,Nat.reduceEqDiff,Nat.reduceMul,Nat.reduceShiftRight,Nat.reduceAnd,Nat.reduceBneDiff,reduceIte,go_sem];refine E.cN (D3 S F (r:=ra) hx la _) ?_;simp only[g3,g6,↓dE,↓dG,bI,dF,c8,nat0,nat1,nat2,lt0,lt1,lt2,Nat.reduceEqDiff,Nat.reduceMul,Nat.reduceShiftRight,Nat.reduceAnd,Nat.reduceBneDiff,reduceIte,go_sem];refine E.cN (D3 S F (r:=rb) hy lb _) ?_;simp only[g3,g6,↓dE,↓dG,bI,dF,c8,nat0,nat1,nat2,lt0,lt1,lt2,Nat.reduceEqDiff,Nat.reduceMul,Nat.reduceShiftRight,Nat.reduceAnd,Nat.reduceBneDiff,reduceIte,go_sem];refine E.cN (D3 S F (B:=[]) (r:=0) (n:=0) hin0 (by simp) _) ?_;simp only[P1,P2,↓dX E.ok,↓dE,↓dG,bI,dF,e64,mn,Nat.reduceEqDiff,reduceIte,go_sem];rw[uM E.ok];generalize hL:aw.loop (aw.seq tJ tL)=L;simp only[g3,g6,tJ,tL,DL,DM,↓dX E.ok,↓dE,↓dG,bI,dF,c8,nat0,lt0,Int.reduceLT,s1,s2,Nat.reduceEqDiff,Nat.reduceShiftRight,Nat.reduceAnd,Nat.reduceBneDiff,reduceIte,go_sem];refine E.cN (Iy S F (r:=ra) (v:=v) hx la hv64 _) ?_;simp only[g3,g6,DN,↓dX E.ok,↓dE,↓dG,bI,dF,c8,nat0,lt0,add0,s1,s2,s3,s4,Nat.reduceEqDiff,Nat.reduceShiftRight,Nat.reduceAnd,Nat.reduceBneDiff,reduceIte,go_sem];subst hL;rw[uM E.ok];generalize hL:aw.loop (aw.seq tJ tL)=L;simp only[g3,g6,tJ,tL,DL,DM,↓dX E.ok,↓dE,↓dG,bI,dF,c8,nat1,lt1,Int.reduceLT,s1,s2,Nat.reduceEqDiff,Nat.reduceShiftRight,Nat.reduceAnd,Nat.reduceBneDiff,reduceIte,go_sem];refine E.cN (Iy S F (r:=rb) (v:=v) hy lb hv64 _) ?_;simp only[g3,g6,DN,↓dX E.ok,↓dE,↓dG,bI,dF,c8,nat1,lt1,add1,s1,s2,s3,s4,Nat.reduceEqDiff,Nat.reduceShiftRight,Nat.reduceAnd,Nat.reduceBneDiff,reduceIte,go_sem];subst hL;rw[uM E.ok];generalize hL:aw.loop (aw.seq tJ tL)=L;simp only[g3,g6,tJ,tL,DL,DM,↓dX E.ok,↓dE,↓dG,bI,dF,c8,nat2,lt2,Int.reduceLT,s1,s2,Nat.reduceEqDiff,Nat.reduceMul,Nat.reduceShiftRight,Nat.reduceAnd,Nat.reduceBneDiff,reduceIte,go_sem];refine E.cN (Iy S F (B:=[]) (r:=0) (n:=0) (v:=v) hin0 (by simp) hv64 _) ?_;simp only[g3,g6,DN,↓dX E.ok,↓dE,↓dG,bI,dF,c8,nat2,lt2,add2,s1,s2,s3,s4,Nat.reduceEqDiff,Nat.reduceMul,Nat.reduceShiftRight,Nat.reduceAnd,Nat.reduceBneDiff,reduceIte,go_sem];subst hL;rw[uM E.ok];generalize hL:aw.loop (aw.seq tJ tL)=L;rw[show P3=aw.seq HZ D4 from rfl];simp only[g4,tJ,tL,HZ,lo0,hi0,↓dX E.ok,↓dE,↓dG,bI,dF,cz,c16,Int.reduceLT,s1,s3,Nat.reduceEqDiff,reduceIte,go_sem];refine ax0 E.ok (k:=λa h'=>∀τ:T AV,τ.get 2=some (.p 15 0) ->τ.get 4=some (.p 16 0) ->τ.get 5=some (.p 13 0) ->
  τ.get 6=some (.p (m+17) 0) ->τ.get 10=some (ι (v:Int)) ->τ.get 12=some (.p (m+17+1+1) 0) ->τ.get 14=some a ->
  gG C D4 (λe τ h=>match e with
   | .exit _=>False
   |_=>kQ k h (eZ τ h [(7,none)])) τ h') (λa h' hk=> ?_) (hgo _ _ ?_ ?_ ?_ ?_)
 ·refine hk _ ?_ ?_ ?_ ?_ ?_ ?_ ?_<;>simp only[T.get_put,g2,g4,g5,g6,Nat.reduceEqDiff,reduceIte]
 ·have ho:∀i,17+m<=i ->B≠[] ->i≠o:=λi hi hb=>by have:=(cs.nodes hb).2;have h2:o<m+17:=this;omega
  have cs1:=cs.put (i:=m+17) (n':=m+17+1) (v':=ver) (ob:= .cells ver [.i .i64 (x:Int),.i .i64 (y:Int),.i .i64 0]) ω (ho _ ω) ω;have cs2:=cs1.put (i:=m+17+1) (n':=m+17+1+1) (v':=ver) (ob:= .cells ver [.i .i64 0,.i .i64 0,.i .i64 0]) ω (ho _ ω) ω;have cs3:=cs2.put (i:=m+17+1+1) (n':=m+17+1+1+1) (v':=ver) (ob:= .cells ver [.i .i64 0,.i .i64 0,.i .i64 0]) ω (ho _ ω) ω;have pt:∀{v1 i:Nat} {t:T bC} {b:bC},17+m<=i ->CS NA NB ra rb opf B o M ⟨m+17+1+1+1,ver,t⟩ ->CS NA NB ra rb opf B o M ⟨m+17+1+1+1,v1,t.put i b⟩:=λhi c=>c.put ω (ho _ hi) (bB _);exact pt ω (pt ω (pt ω (pt ω (pt ω (pt ω cs3)))))
 ·intro j hj;have q1:(j=m+17)=False:=av;have q2:(j=m+17+1)=False:=av;have q3:(j=m+17+1+1)=False:=av;simp only[T.get_put,q1,q2,q3,bV]
 ·have q2:(m+17=m+17+1)=False:=av;have q3:(m+17=m+17+1+1)=False:=av;simp only[T.get_put,q2,q3,bV,dZ,d9]
 ·simp only[T.get_put,dZ,d9]
def ax2 (F:eV ae) {NA NB:List Br} {ra rb:Nat} {opf:AV} {g:Bool ->Bool ->Bool} (hop:yH C opf g) (ax:OK NA) (okB:OK NB) (la:NA.length<=4096) (lb:NB.length<=4096):
 ∀(d x y:Nat) (B:List Br) (o:Nat) (M:List (Br×Nat)) (h:AH) (k:AV ->AH ->Prop),d=3-min (bR NA x) (bR NB y) ->In NA x ->In NB y ->CS NA NB ra rb opf B o M h ->OK B ->IA g NA NB B M ->B.length+2^d<=1000000 ->(o=11∨17<=o) ->(B=[] ->o=11) ->
  (∀r B' o' M' h',CS NA NB ra rb opf B' o' M' h' ->CF o h o' h' ->OK B' ->IA g NA NB B' M' ->(∃D,B'=B++D) ->B'.length+1<=B.length+2^d ->(o'=11∨17<=o') ->(B'=[] ->o'=11) ->nR g NA NB B' x y r ->k (ι (r:Int)) h') ->
  du C 482 [eB (x,y,0),.p 9 0,.p 15 0,.p 8 0,.p 16 0,.p 13 0] h k:=by
 intro d;induction d using Nat.strongRecOn with
 |ind d IH=>
 intro x y B o M h k hd hx hy cs okb mo hbl ho1 ho2 hk;have hpow:1<=2^d:=Co;obtain⟨n,ver,ob⟩:=h;obtain⟨m,rfl⟩:∃m,n=m+17:=⟨n-17,by have:=cs.next;show n=n-17+17;have h2:17<=n:=this;omega⟩;have c5:=cs.c5;have c8:=cs.c8;have c9:=cs.c9;have c13:=cs.c13;have c15:=cs.c15;have c16:=cs.c16;obtain⟨verm,hm⟩:=cs.memo;dsimp only at c5 c8 c9 c13 c15 c16 hm;have nat0:fP (ι 0)=some 0:=rfl;have nat1:fP (ι 1)=some 1:=rfl;have nat2:fP (ι 2)=some 2:=rfl;have lt0:(0:Nat)<3:=by omega
 have lt1:(1:Nat)<3:=by omega
 have lt2:(2:Nat)<3:=by omega
 have cz:((0:Nat):Int)=0:=rfl;have z2:((0:Int)<2)=True:=cJ;have z1:((0:Int)=1)=False:=av;rw[ke E.ok (E.get F.f482)];by_cases hc:x<2/\ y<2
 ·have x2:((x:Int)<2)=True:=cJ;have y2:((y:Int)<2)=True:=cJ;simp only[yD,yA,yB,PZ,PX,PY,↓dX E.ok,↓dE,↓dG,bI,dF,eB,cz,c9,nat0,nat1,nat2,lt0,lt1,lt2,x2,y2,z2,z1,Nat.reduceEqDiff,Nat.reduceAdd,reduceIte,eZ,fY,go_sem];have cs1:=cs.put (i:=m+17) (n':=m+17+1) (v':=ver) (ob:= .cells ver [.i .i64 (x:Int),.i .i64 (y:Int),.i .i64 0]) ω (λhb=>by have:=(cs.nodes hb).2;have h2:o<m+17:=this;omega) ω;refine aw8 E F hop cs1.c5 ?_;have fin:∀b:Bool,g (decide ((x:Int)=1)) (decide ((y:Int)=1))=b ->nR g NA NB B x y (if b then 1 else 0):=by
   intro b hb;refine⟨In.small (by split<;>omega),λk h1 h2 h3=> ?_⟩;rw[oG (show(if b=true then 1 else 0)<2 by split<;>omega)];refine⟨by omega,?_⟩;have key:∀(j:Nat) (B':List Br) (z:Nat),z<2 ->tr B' (j+1) z= .n (tr B' j z) (tr B' j z):=λj B' z hz=>by simp only[tr];rw[tF hz,tG hz]
   have:∀j,tr B j (if b=true then 1 else 0)=cY g (tr NA j x) (tr NB j y):=by
    intro j;induction j with
    |zero=>
     simp only[tr,cY,Tr.c.injEq];have e1:(x==1)=decide ((x:Int)=1):=by rw[xB];simp;omega
     have e2:(y==1)=decide ((y:Int)=1):=by rw[xB];simp;omega
     rw[e1,e2,hb];cases b<;>rfl
    |succ j ih=>rw[key j B _ (by split<;>omega),key j NA x hc.1,key j NB y hc.2,ih];rfl
   exact this k
  cases hb:g (decide ((x:Int)=1)) (decide ((y:Int)=1)) with
  |true=>
   simp only[↓dX E.ok,↓dE,↓dG,bI,dF,Nat.reduceEqDiff,reduceIte,go_sem];exact hk 1 B o M _ cs1 ⟨by show m+17<=m+17+1;omega,λj h1 h2 h3=>iz (by have h2':j<m+17:=h2;omega),.inl rfl,λj h1=>iz ω⟩ okb mo ⟨[],by simp⟩ ω ho1 ho2 (fin true hb)
  |false=>
   simp only[↓dX E.ok,↓dE,↓dG,bI,dF,Nat.reduceEqDiff,reduceIte,go_sem];exact hk 0 B o M _ cs1 ⟨by show m+17<=m+17+1;omega,λj h1 h2 h3=>iz (by have h2':j<m+17:=h2;omega),.inl rfl,λj h1=>iz ω⟩ okb mo ⟨[],by simp⟩ ω ho1 ho2 (fin false hb)
 ·have hm':∀aA ob' (ev:MA ->AV),T.get ob' 14=some (.map verm (di eB eN 0 M) M.length) ->ev (.t 41)= .m 14 ->ev (.t 42)= .ag [.i .i64 (x:Int),.i .i64 (y:Int),.i .i64 0] ->
   step ev ⟨m+17+1,aA,ob'⟩ (.look t3 (.t 41) (.t 42) (ι 0) true)= .v (hU eN (ι 0) (look (x,y,0) M)) ⟨m+17+1,aA,ob'⟩:=
   λaA ob' ev q1 q2 q3=>uQ (k:=(x,y,0)) (z:= .i .i64 0) yG (h:=⟨m+17+1,aA,ob'⟩) ⟨verm,q1⟩ q2 q3
  unfold t3 at hm';have cs1:=cs.put (i:=m+17) (n':=m+17+1) (v':=ver) (ob:= .cells ver [.i .i64 (x:Int),.i .i64 (y:Int),.i .i64 0]) ω (λhb=>by have:=(cs.nodes hb).2;have h2:o<m+17:=this;omega) ω;cases hl:look (x,y,0) M with
  |some r=>
   by_cases x2:x<2
   ·have x2':((x:Int)<2)=True:=cJ;have y2':((y:Int)<2)=False:=av;simp only[yD,yA,yB,yC,DJ,DK,HY,↓dX E.ok,↓dE,↓dG,bI,dF,eB,cz,c15,nat0,nat1,nat2,lt0,lt1,lt2,x2',y2',hm,hm',hl,hU,eN,z2,Nat.reduceEqDiff,Nat.reduceAdd,reduceIte,eZ,fY,go_sem];exact hk r B o M _ cs1 ⟨by show m+17<=m+17+1;omega,λj h1 h2 h3=>iz (by have h2':j<m+17:=h2;omega),.inl rfl,λj h1=>iz ω⟩ okb mo ⟨[],by simp⟩ ω ho1 ho2 (mo x y r hl hx hy)
   ·have x2':((x:Int)<2)=False:=av;simp only[yD,yA,yB,yC,DJ,DK,HY,↓dX E.ok,↓dE,↓dG,bI,dF,eB,cz,c15,nat0,nat1,nat2,lt0,lt1,lt2,x2',hm,hm',hl,hU,eN,z2,Nat.reduceEqDiff,Nat.reduceAdd,reduceIte,eZ,fY,go_sem];exact hk r B o M _ cs1 ⟨by show m+17<=m+17+1;omega,λj h1 h2 h3=>iz (by have h2':j<m+17:=h2;omega),.inl rfl,λj h1=>iz ω⟩ okb mo ⟨[],by simp⟩ ω ho1 ho2 (mo x y r hl hx hy)
  |none=>
   have fin:∀τ₀:T AV,τ₀.get 1=some (.p 9 0) ->τ₀.get 2=some (.p 15 0) ->τ₀.get 3=some (.p 8 0) ->τ₀.get 4=some (.p 16 0) ->τ₀.get 5=some (.p 13 0) ->τ₀.get 6=some (.p (m+17) 0) ->
    gG C yC (λe τ h=>match e with
     | .exit _=>False
     |_=>kQ k h (eZ τ h [(7,none)])) τ₀ ⟨m+17+1,ver,ob.put (m+17) (.cells ver [.i .i64 (x:Int),.i .i64 (y:Int),.i .i64 0])⟩:=by
    intro τ₀ g1 g2 g3 g4 g5 g6;have lvx:=sg ax hx;have lvy:=sg okB hy;obtain⟨v,hvv⟩:∃v,min (bR NA x) (bR NB y)=v:=⟨_,rfl⟩;have hv3:v<3:=by
     have q3:∀(B':List Br) (z:Nat),OK B' ->In B' z ->¬z<2 ->bR B' z<3:=by
      intro B' z ok hz h2;rcases hz.cases with h1|⟨i,b,rfl,hb⟩
      ·exact bh h1 h2
      ·rw[gy hb];exact ok.v _ _ hb
     by_cases h1:x<2
     ·have:=q3 NB y okB hy (λh=>hc ⟨h1,h⟩);omega
     ·have:=q3 NA x ax hx h1;omega
    have lx:=si ax (v:=v) hx ω hv3;have ly:=si okB (v:=v) hy ω hv3;have mx:=sj ax (v:=v) hx ω hv3;have my:=sj okB (v:=v) hy ω hv3;have hd1:3-min (bR NA (lo NA x v)) (bR NB (lo NB y v))<=d-1:=by omega
    have hd2:3-min (bR NA (hi NA x v)) (bR NB (hi NB y v))<=d-1:=by omega
    have hd0:1<=d:=by omega
    have pw:2^d=2*2^(d-1):=by rw[←Cq];congr 1;omega
    have pw1:2^(3-min (bR NA (lo NA x v)) (bR NB (lo NB y v)))<=2^(d-1):=rJ ω hd1;have pw2:2^(3-min (bR NA (hi NA x v)) (bR NB (hi NB y v)))<=2^(d-1):=rJ ω hd2;refine ax1 S E F ax okB la lb hx hy cs hc hl g1 g2 g3 g4 g5 g6 hvv λver1 aQ cs1 dD n1 w1=> ?_;refine E.run (IH (3-min (bR NA (lo NA x v)) (bR NB (lo NB y v))) ω (lo NA x v) (lo NB y v) B o M _ _ rfl (wK ax hx) (wK okB hy) cs1 okb mo ω ho1 ho2 ?_);rintro r1 B1 o1 M1 ⟨nn1,ver2,aJ⟩ cs2 cf2 ok2 mo2 ⟨D1,rfl⟩ len2 ho3 ho4 rel1;intro τ t2 t4 t5 t6 t10 t12 t14;obtain⟨m1,rfl⟩:∃m1,nn1=m1+17:=⟨nn1-17,by have h2:17<=nn1:=cs2.next;omega⟩;have hm1:m+3<=m1:=by have h2:m+17+1+1+1<=m1+17:=cf2.next;omega
    have hoB:B≠[] ->o<m+17:=λhb=>(cs.nodes hb).2;have hoA:o<m+17:=by
     by_cases hb:B=[]
     ·rw[ho2 hb];omega
     ·exact hoB hb
    have n2:cG (aJ.get (m+17))=some [.i .i64 (x:Int),.i .i64 (y:Int),.i .i64 0]:=by
     rw[show aJ.get (m+17)=aQ.get (m+17) from cf2.same (m+17) ω (by show m+17<m+17+1+1+1;omega) ω];exact n1
    have w2:cG (aJ.get (m+17+1+1))=some [.i .i64 (hi NA x v:Int),.i .i64 (hi NB y v:Int),.i .i64 0]:=by
     rw[show aJ.get (m+17+1+1)=aQ.get (m+17+1+1) from cf2.same (m+17+1+1) ω (by show m+17+1+1<m+17+1+1+1;omega) ω];exact w1
    have c13':cG (aJ.get 13)=some [.p 12 0]:=cs2.c13;have c16':cG (aJ.get 16)=some [.f 482 [] [.p 9 0,.p 15 0,.p 8 0,.p 16 0,.p 13 0]]:=cs2.c16;simp only[D4,H0,↓dX E.ok,↓dE,↓dG,bI,dF,t4,t5,t10,t12,t14,w2,c13',c16',Nat.reduceEqDiff,Nat.reduceShiftRight,Nat.reduceAnd,Nat.reduceBneDiff,reduceIte,go_sem];refine E.run (IH (3-min (bR NA (hi NA x v)) (bR NB (hi NB y v))) ω (hi NA x v) (hi NB y v) (B++D1) o1 M1 _ _ rfl (wL ax hx) (wL okB hy) cs2 ok2 mo2 ω ho3 ho4 ?_);rintro r2 B2 o2 M2 ⟨nn2,ver3,cC⟩ cs3 cf3 ok3 mo3 ⟨D2,rfl⟩ len3 ho5 ho6 rel2;obtain⟨m2,rfl⟩:∃m2,nn2=m2+17:=⟨nn2-17,by have h2:17<=nn2:=cs3.next;omega⟩;have hm2:m1<=m2:=by have h2:m1+17<=m2+17:=cf3.next;omega
    have ho1A:o1≠m+17:=by
     rcases cf2.new with e|e
     ·omega
     ·have h2:m+17+1+1+1<=o1:=e;omega
    have n3:cG (cC.get (m+17))=some [.i .i64 (x:Int),.i .i64 (y:Int),.i .i64 0]:=by
     rw[show cC.get (m+17)=aJ.get (m+17) from cf3.same (m+17) ω (by show m+17<m1+17;omega) (λh=>ho1A h.symm)];exact n2
    have c13'':cG (cC.get 13)=some [.p 12 0]:=cs3.c13;simp only[↓dE,↓dG,bI,dF,t4,t5,t10,t12,t14,c13'',Nat.reduceEqDiff,Nat.reduceShiftRight,Nat.reduceAnd,Nat.reduceBneDiff,reduceIte,go_sem];refine E.run (aw5 E F cs3.bs (p:=11) (q:=12) ω ω ω (λhb=>⟨(cs3.nodes hb).2,by have:=(cs3.nodes hb).1;omega,by have:=(cs3.nodes hb).1;omega⟩) (by simp only[dy] at*;omega) _ ?_);rintro r B' o' ⟨nn4,ver4,ob4⟩ bs4 bf4 nodes4 spec;have cs4:=CS.branch cs3 ho5 bs4 bf4 nodes4;have ho4n:o1=o∨m+17+1+1+1<=o1:=cf2.new;have ho5n:o2=o1∨m1+17<=o2:=cf3.new;have ho2A:o2≠m+17:=by omega
    have n4:cG (ob4.get (m+17))=some [.i .i64 (x:Int),.i .i64 (y:Int),.i .i64 0]:=by
     rw[show ob4.get (m+17)=cC.get (m+17) from bf4.same (m+17) (by show m+17<m2+17;omega) ω ω (λh=>ho2A h.symm)];exact n3
    obtain⟨verm4,hm4⟩:=cs4.memo;have c15':cG (ob4.get 15)=some [.m 14]:=cs4.c15;have hmu:∀aA ob' (ev:MA ->AV),T.get ob' 14=some (.map verm4 (di eB eN 0 M2) M2.length) ->ev (.t 93)= .m 14 ->ev (.t 94)= .ag [.i .i64 (x:Int),.i .i64 (y:Int),.i .i64 0] ->ev (.t 95)= .i .i64 (r:Int) ->
     step ev ⟨nn4,aA,ob'⟩ (.mupd t3 (.t 93) (.t 94) (.t 95))= .v .un ⟨nn4,aA+1,ob'.put 14 (.map (aA+1) (di eB eN 0 (ups (x,y,0) r M2)) (ups (x,y,0) r M2).length)⟩:=
     λaA ob' ev q1 q2 q3 q4=>mL (k:=(x,y,0)) (v:=r) yG (h:=⟨nn4,aA,ob'⟩) ⟨verm4,q1⟩ q2 q3 q4
    unfold t3 at hmu;simp only[H2,H3,↓dX E.ok,↓dE,↓dG,bI,dF,t2,t6,n4,c15',hm4,hmu,Nat.reduceEqDiff,reduceIte,eZ,fY,go_sem];obtain⟨ok4,rel4,pre4,len4⟩:=Q8 ax okB ok3 hx hy hvv hv3 (rel1.ext ok2 D2) rel2 spec;have mo4:IA g NA NB B' (ups (x,y,0) r M2):=by
     intro x' y' r' hl' hx' hy';rw[qi] at hl';by_cases e:((x',y',0):Br)=(x,y,0)
     ·rw[aF e] at hl';simp only[xK] at e;obtain⟨rfl,rfl,_⟩:=e;cases hl';exact rel4
     ·rw[aD e] at hl';obtain⟨D,rfl⟩:=pre4;exact(mo3 x' y' r' hl' hx' hy').ext ok3 D
    have cfa:CF o ⟨m+17,ver,ob⟩ o' ⟨nn4,ver4,ob4⟩:=
     CF.branch (CF.trans (CF.trans (⟨by show m+17<=m+17+1+1+1;omega,λj _ h2 _=>dD j h2,.inl rfl,λj h2=>dD j ω⟩:CF o ⟨m+17,ver,ob⟩ o ⟨m+17+1+1+1,ver1,aQ⟩) cf2) cf3) bf4 ho5 cs3.next
    have lenA:B'.length+1<=B.length+2^d:=by simp only[dy] at*;omega
    have preA:∃D,B'=B++D:=by obtain⟨D,rfl⟩:=pre4;exact⟨D1++D2++D,by simp[nz]⟩
    by_cases hb':B'=[]
    ·subst hb';have hb:B=[]:=by obtain⟨D,h⟩:=preA;exact(List.append_eq_nil_iff.1 h.symm).1
     refine hk r [] 11 _ _ (CS.memoPut (CS.moved cs4) (λ_=>rfl)) (CF.small (CF.moved cfa (.inl (ho2 hb).symm)) ω) ok4 mo4 preA lenA (.inl rfl) (λ_=>rfl) rel4
    ·exact hk r B' o' _ _ (CS.memoPut cs4 (λh=>bh h hb')) (CF.small cfa ω) ok4 mo4 preA lenA (.inr (cs4.nodes hb').1) (λh=>bh h hb') rel4
   by_cases x2:x<2
   ·have x2':((x:Int)<2)=True:=cJ;have y2':((y:Int)<2)=False:=av;simp only[yD,yA,yB,↓dX E.ok,↓dE,↓dG,bI,dF,eB,cz,nat0,nat1,nat2,lt0,lt1,lt2,x2',y2',Nat.reduceEqDiff,Nat.reduceAdd,reduceIte,go_sem];refine fin _ ?_ ?_ ?_ ?_ ?_ ?_<;>simp only[T.get_put,Nat.reduceEqDiff,reduceIte]
   ·have x2':((x:Int)<2)=False:=av;simp only[yD,yA,yB,↓dX E.ok,↓dE,↓dG,bI,dF,eB,cz,nat0,nat1,nat2,lt0,lt1,lt2,x2',Nat.reduceEqDiff,Nat.reduceAdd,reduceIte,go_sem];refine fin _ ?_ ?_ ?_ ?_ ?_ ?_<;>simp only[T.get_put,Nat.reduceEqDiff,reduceIte]
end
end AM
