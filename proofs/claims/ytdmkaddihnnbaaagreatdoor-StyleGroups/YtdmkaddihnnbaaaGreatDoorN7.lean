import Derived.Test.YtdmkaddihnnbaaaGreatDoorProg
import Derived.Test.YtdmkaddihnnbaaaGreatDoorN5
set_option linter.all false
set_option maxHeartbeats 8000000
namespace Dg
inductive Tr where
 |c (b:Bool)
 |n (l h:Tr)
 deriving DecidableEq
abbrev Br:=Nat×Nat×Nat
def bR (B:List Br) (r:Nat):Nat:=if r<2 then 3 else match B[r-2]? with|some b=>b.1|none=>3
def lo (B:List Br) (r v:Nat):Nat:=if r<2 then r else match B[r-2]? with|some b=>if b.1=v then b.2.1 else r|none=>r
def hi (B:List Br) (r v:Nat):Nat:=if r<2 then r else match B[r-2]? with|some b=>if b.1=v then b.2.2 else r|none=>r
def tr (B:List Br):Nat ->Nat ->Tr
 |0,r=> .c (r==1)
 |k+1,r=> .n (tr B k (lo B r (2-k))) (tr B k (hi B r (2-k)))
structure OK (B:List Br):Prop where
 v:∀(i:Nat) (b:Br),B[i]? =some b ->b.1<3
 l:∀(i:Nat) (b:Br),B[i]? =some b ->b.2.1<i+2/\ b.1<bR B b.2.1
 h:∀(i:Nat) (b:Br),B[i]? =some b ->b.2.2<i+2/\ b.1<bR B b.2.2
 ne:∀(i:Nat) (b:Br),B[i]? =some b ->b.2.1≠b.2.2
 nd:∀(i j:Nat) (b:Br),B[i]? =some b ->B[j]? =some b ->i=j
variable {B:List Br}
def oG {r} (h:r<2):bR B r=3:=by simp[bR,h]
variable {i:Nat} {b:Br}
def gy (h:B[i]? =some b):bR B (i+2)=b.1:=by
 unfold bR;rw[if_neg (by omega),show i+2-2=i by omega,h]
variable {v:Nat}
def tF {r} (h:r<2):lo B r v=r:=by simp[lo,h]
def tG {r} (h:r<2):hi B r v=r:=by simp[hi,h]
def pb (h:B[i]? =some b):lo B (i+2) v=if b.1=v then b.2.1 else i+2:=by
 unfold lo;rw[if_neg (by omega),show i+2-2=i by omega,h]
def Gu (h:B[i]? =some b):hi B (i+2) v=if b.1=v then b.2.2 else i+2:=by
 unfold hi;rw[if_neg (by omega),show i+2-2=i by omega,h]
def In (B:List Br) (r:Nat):Prop:=r<B.length+2
def In.cases {r} (h:In B r):r<2∨∃i b,r=i+2/\ B[i]? =some b:=by
 rcases Nat.lt_or_ge r 2 with h1|h1;exact .inl h1;have j:r-2<B.length:=by unfold In at h;omega
 exact .inr ⟨r-2,B[r-2],by omega,List.getElem?_eq_getElem j⟩
def In.of (h:B[i]? =some b):In B (i+2):=by
 have j:i<B.length:=(List.getElem?_eq_some_iff.1 h).1;unfold In;omega
def In.small {r} (h:r<2):In B r:=by unfold In;omega
def Id (ok:OK B) {r} (h:In B r):bR B r<=3:=by
 rcases h.cases with h1|⟨i,b,rfl,hb⟩;rw[oG h1];exact Nat.le_refl _;rw[gy hb];exact Nat.le_of_lt (ok.v _ _ hb)
def wK (ok:OK B) {r} (j:In B r):In B (lo B r v):=by
 rcases j.cases with h1|⟨i,b,rfl,hb⟩;rw[tF h1];exact j;rw[pb hb];split;have:=ok.l _ _ hb;have:=In.of hb;unfold In at*;omega;exact j
def wL (ok:OK B) {r} (j:In B r):In B (hi B r v):=by
 rcases j.cases with h1|⟨i,b,rfl,hb⟩;rw[tG h1];exact j;rw[Gu hb];split;have:=ok.h _ _ hb;have:=In.of hb;unfold In at*;omega;exact j
def si (ok:OK B) {r} (j:In B r) (h:v<=bR B r) (u:v<3):v<bR B (lo B r v):=by
 rcases j.cases with h1|⟨i,b,rfl,hb⟩;rw[tF h1,oG h1];exact u;rw[pb hb];rw[gy hb] at h;split;have:=ok.l _ _ hb;omega;rw[gy hb];omega
def sj (ok:OK B) {r} (j:In B r) (h:v<=bR B r) (u:v<3):v<bR B (hi B r v):=by
 rcases j.cases with h1|⟨i,b,rfl,hb⟩;rw[tG h1,oG h1];exact u;rw[Gu hb];rw[gy hb] at h;split;have:=ok.h _ _ hb;omega;rw[gy hb];omega
def uS (ok:OK B) {r} (j:In B r) (u:v<3):(lo B r v=hi B r v↔bR B r≠v)/\ (bR B r≠v ->lo B r v=r/\ hi B r v=r):=by
 rcases j.cases with h1|⟨i,b,rfl,hb⟩;rw[tF h1,tG h1,oG h1];exact⟨⟨λ_=>by omega,λ_=>rfl⟩,λ_=>⟨rfl,rfl⟩⟩;rw[pb hb,Gu hb,gy hb];by_cases e:b.1=v;rw[if_pos e,if_pos e];exact⟨⟨λh=>absurd h (ok.ne _ _ hb),λh=>absurd e h⟩,λh=>absurd e h⟩;rw[if_neg e,if_neg e];exact⟨⟨λ_=>e,λ_=>rfl⟩,λ_=>⟨rfl,rfl⟩⟩
def Hq (ok:OK B):∀k x y,k<=3 ->In B x ->In B y ->3-k<=bR B x ->3-k<=bR B y ->tr B k x=tr B k y ->x=y:=by
 intro k;induction k with
 |zero=>
  intro x y _ G H Y Z e;have one:∀z,In B z ->3<=bR B z ->z<2:=by
   intro z W lz;rcases W.cases with h|⟨i,b,rfl,hb⟩;exact h;rw[gy hb] at lz;have:=ok.v _ _ hb;omega
  have h1:=one x G (by omega);have h2:=one y H (by omega);simp only[tr,Tr.c.injEq] at e;have N:x=0∨x=1:=by omega
  have O:y=0∨y=1:=by omega
  rcases N with rfl|rfl<;>rcases O with rfl|rfl<;>first|rfl|(simp at e)
 |succ k J=>
  intro x y hk G H Y Z e;simp only[tr,Tr.n.injEq] at e;obtain⟨e1,e2⟩:=e;have l1:=si ok (v:=2-k) G (by omega) (by omega);have l2:=si ok (v:=2-k) H (by omega) (by omega);have l3:=sj ok (v:=2-k) G (by omega) (by omega);have l4:=sj ok (v:=2-k) H (by omega) (by omega);have c1:=J _ _ (by omega) (wK ok G) (wK ok H) (by omega) (by omega) e1;have c2:=J _ _ (by omega) (wL ok G) (wL ok H) (by omega) (by omega) e2;have L:=uS ok G (v:=2-k) (by omega);have I:=uS ok H (v:=2-k) (by omega);by_cases A:bR B x=2-k;have u:bR B y=2-k:=by
   apply Classical.byContradiction;intro U;have:=I.2 U;have R:lo B x (2-k)=hi B x (2-k):=by rw[c1,c2,this.1,this.2]
   exact(L.1.1 R) A
  rcases G.cases with h|⟨i,b,rfl,hb⟩;rw[oG h] at A;omega;rcases H.cases with h|⟨j,b',rfl,D⟩;rw[oG h] at u;omega;rw[gy hb] at A;rw[gy D] at u;rw[pb hb,pb D,if_pos A,if_pos u] at c1;rw[Gu hb,Gu D,if_pos A,if_pos u] at c2;have:b=b':=by
   obtain⟨v,l,h⟩:=b;obtain⟨v',l',h'⟩:=b';simp only at A u c1 c2;rw[A,u,c1,c2]
  subst this;rw[ok.nd _ _ _ hb D];have h1:=L.2 A;rw[h1.1] at c1;rw[h1.2] at c2;by_cases u:bR B y=2-k;exact absurd u (I.1.1 (c1.symm.trans c2));rw[(I.2 u).1] at c1;exact c1
def Hr {C:List Br} (h:B[i]? =some b):(B++C)[i]? =some b:=by
 have j:i<B.length:=(List.getElem?_eq_some_iff.1 h).1;rw[List.getElem?_append_left j];exact h
def In.ext {C:List Br} {r} (h:In B r):In (B++C) r:=by unfold In at*;simp;omega
def AU {C:List Br} {r} (h:In B r):bR (B++C) r=bR B r:=by
 rcases h.cases with h1|⟨i,b,rfl,hb⟩;rw[oG h1,oG h1];rw[gy hb,gy (Hr hb)]
def at2 {C:List Br} {r} (h:In B r):lo (B++C) r v=lo B r v:=by
 rcases h.cases with h1|⟨i,b,rfl,hb⟩;rw[tF h1,tF h1];rw[pb hb,pb (Hr hb)]
def at3 {C:List Br} {r} (h:In B r):hi (B++C) r v=hi B r v:=by
 rcases h.cases with h1|⟨i,b,rfl,hb⟩;rw[tG h1,tG h1];rw[Gu hb,Gu (Hr hb)]
def Hs {B C:List Br} (ok:OK B):∀k r,In B r ->tr (B++C) k r=tr B k r
 |0,_,_=>rfl
 |k+1,r,h=>by simp only[tr];rw[at2 h,at3 h,Hs ok k _ (wK ok h),Hs ok k _ (wL ok h)]
def OK.add (ok:OK B) {l h} (L:v<3) (H:In B l) (G:In B h) (ll:v<bR B l) (N:v<bR B h) (O:l≠h) (u:∀i:Nat,B[i]?≠some (v,l,h)):OK (B++[(v,l,h)]):=by
 have key:∀(i:Nat) (b:Br),(B++[(v,l,h)])[i]? =some b ->B[i]? =some b∨(i=B.length/\ b=(v,l,h)):=by
  intro i b hb;rcases Nat.lt_or_ge i B.length with h1|h1;rw[List.getElem?_append_left h1] at hb;exact .inl hb;rw[List.getElem?_append_right h1] at hb;have:i-B.length=0:=by
   rcases Nat.eq_zero_or_pos (i-B.length) with h2|h2;exact h2;rw[List.getElem?_eq_none (by simp;omega)] at hb;cases hb
  rw[this] at hb;simp at hb;exact .inr ⟨by omega,hb.symm⟩
 constructor;intro i b hb;rcases key i b hb with h1|⟨_,rfl⟩;exact ok.v _ _ h1;exact L;intro i b hb;rcases key i b hb with h1|⟨rfl,rfl⟩;have:=ok.l _ _ h1;have A:In B b.2.1:=by have:=In.of h1;unfold In at*;omega
 rw[AU A];exact this;refine⟨H,?_⟩;show v<bR _ l;rw[AU H];exact ll;intro i b hb;rcases key i b hb with h1|⟨rfl,rfl⟩;have:=ok.h _ _ h1;have A:In B b.2.2:=by have:=In.of h1;unfold In at*;omega
 rw[AU A];exact this;refine⟨G,?_⟩;show v<bR _ h;rw[AU G];exact N;intro i b hb;rcases key i b hb with h1|⟨_,rfl⟩;exact ok.ne _ _ h1;exact O;intro i j b hb D;rcases key i b hb with h1|⟨h1,I⟩<;>rcases key j b D with h2|⟨h2,J⟩
 exact ok.nd _ _ _ h1 h2;rw[J] at h1;exact absurd h1 (u i);rw[I] at h2;exact absurd h2 (u j);omega
def sk (S:List (Nat×Tr)):Nat ->Tr ->Nat
 |_,.c b=>if b then 1 else 0
 |v,.n l h=>if l=h then sk S (v+1) l else S.idxOf (v,.n l h)+2
def mQ:Nat ->Tr ->List (Nat×Tr) ->List (Nat×Tr)
 |_,.c _,S=>S
 |v,.n l h,S=>if l=h then mQ (v+1) l S else if (v,Tr.n l h)∈S then S else mQ (v+1) h (mQ (v+1) l S)++[(v,.n l h)]
def node (S:List (Nat×Tr)):Nat×Tr ->Br
 |(v,.n l h)=>(v,sk S (v+1) l,sk S (v+1) h)
 |(v,.c _)=>(v,0,0)
def aE (t:Tr):List Br×Nat:=let S:=mQ 0 t [];(S.map (node S),sk S 0 t)
def dV (B:List Br):Nat ->Nat ->List Nat ->List Nat
 |0,_,V=>V
 |d+1,n,V=>if n<2∨n∈V then V else match B[n-2]? with
  |some b=>dV B d b.2.2 (dV B d b.2.1 V)++[n]
  |none=>V
def nb (V:List Nat) (n:Nat):Nat:=if n<2 then n else V.idxOf n+2
def DM (B:List Br) (V:List Nat):List Br:=V.map λn=>match B[n-2]? with
 |some b=>(b.1,nb V b.2.1,nb V b.2.2)
 |none=>(0,0,0)
structure Cl (B:List Br) (V:List Nat):Prop where
 two:∀n∈V,2<=n/\ In B n
 l:∀n∈V,∀b,B[n-2]? =some b ->b.2.1<2∨b.2.1∈V
 h:∀n∈V,∀b,B[n-2]? =some b ->b.2.2<2∨b.2.2∈V
def Cl.nil:Cl B []:=⟨(by simp),(by simp),(by simp)⟩
variable {V:List Nat} {n:Nat}
def wM {W} (h:n<2∨n∈V):nb (V++W) n=nb V n:=by
 unfold nb;split
 ·rfl
 ·rw[List.idxOf_append,if_pos (by
   rcases h with h|h;·omega
   ·exact h)]
def at4 {W:List Nat} (c:Cl B V):DM B (V++W)=DM B V++W.map λn=>match B[n-2]? with
 |some b=>(b.1,nb (V++W) b.2.1,nb (V++W) b.2.2)
 |none=>(0,0,0):=by
 unfold DM;rw[List.map_append];congr 1;apply List.map_congr_left;intro n j;split;rename_i b hb;rw[wM (c.l n j b hb),wM (c.h n j b hb)];rfl
def O9 (c:Cl B V) (hb:B[n-2]? =some b) (u:b.2.1<2∨b.2.1∈V) (j:b.2.2<2∨b.2.2∈V):DM B (V++[n])=DM B V++[(b.1,nb V b.2.1,nb V b.2.2)]:=by
 rw[at4 c];simp only[List.map_cons,List.map_nil,hb,wM u,wM j]
def Dy:∀d n V,∃W,dV B d n V=V++W:=by
 intro d;induction d with
 |zero=>intro n V;exact⟨[],by simp[dV]⟩
 |succ d j=>
  intro n V;simp only[dV];split;exact⟨[],by simp⟩;split;rename_i b _;obtain⟨W1,h1⟩:=j b.2.1 V;obtain⟨W2,h2⟩:=j b.2.2 (V++W1);exact⟨W1++W2++[n],by rw[h1,h2];simp[List.append_assoc]⟩;exact⟨[],by simp⟩
def yq (ok:OK B):∀d n V,Cl B V ->In B n ->3-bR B n<=d ->Cl B (dV B d n V)/\ (n<2∨n∈dV B d n V):=by
 intro d;induction d with
 |zero=>
  intro n V c hn hd;refine⟨c,.inl ?_⟩;rcases hn.cases with h|⟨i,b,rfl,hb⟩;exact h;rw[gy hb] at hd;have:=ok.v _ _ hb;omega
 |succ d G=>
  intro n V c hn hd;simp only[dV];split;rename_i h;exact⟨c,h⟩;rename_i A;rcases hn.cases with h|⟨i,b,rfl,hb⟩;exact absurd (.inl h) A;rw[show i+2-2=i by omega,hb];rw[gy hb] at hd;have N:=ok.l _ _ hb;have O:=ok.h _ _ hb;have hi:=In.of hb;have I:In B b.2.1:=by unfold In at*;omega
  have J:In B b.2.2:=by unfold In at*;omega
  obtain⟨c1,L⟩:=G b.2.1 V c I (by omega);obtain⟨c2,m2⟩:=G b.2.2 _ c1 J (by omega);obtain⟨W,H⟩:=Dy (B:=B) d b.2.2 (dV B d b.2.1 V);have D:b.2.1<2∨b.2.1∈dV B d b.2.2 (dV B d b.2.1 V):=by rw[H];exact L.imp id (List.mem_append_left _)
  dsimp only;refine⟨⟨?_,?_,?_⟩,.inr (by simp)⟩;intro k j;rcases List.mem_append.1 j with j|j;exact c2.two k j;rw[List.mem_singleton.1 j];exact⟨by omega,hi⟩;intro k j b' u;rcases List.mem_append.1 j with j|j;exact(c2.l k j b' u).imp id (List.mem_append_left _);rw[List.mem_singleton.1 j,show i+2-2=i by omega,hb] at u;cases u;exact D.imp id (List.mem_append_left _);intro k j b' u;rcases List.mem_append.1 j with j|j;exact(c2.h k j b' u).imp id (List.mem_append_left _);rw[List.mem_singleton.1 j,show i+2-2=i by omega,hb] at u;cases u;exact m2.imp id (List.mem_append_left _)
def Pa (ok:OK B):∀d n V,In B n ->∀k∈dV B d n V,k∈V∨bR B n<=bR B k:=by
 intro d;induction d with
 |zero=>intro n V _ k j;exact .inl j
 |succ d A=>
  intro n V hn k j;simp only[dV] at j;split at j;exact .inl j;rename_i u;rcases hn.cases with h|⟨i,b,rfl,hb⟩;exact absurd (.inl h) u;rw[show i+2-2=i by omega,hb] at j;have D:=ok.l _ _ hb;have G:=ok.h _ _ hb;have hi:=In.of hb;rw[gy hb];rcases List.mem_append.1 j with j|j;rcases A b.2.2 _ (by unfold In at*;omega) k j with j|j;rcases A b.2.1 _ (by unfold In at*;omega) k j with j|j;exact .inl j;exact .inr (by omega);exact .inr (by omega);rw[List.mem_singleton.1 j,gy hb];exact .inr (Nat.le_refl _)
def Pb (ok:OK B) {d} (hb:B[i]? =some b) (h:i+2∉V):i+2∉dV B d b.2.2 (dV B d b.2.1 V):=by
 intro j;have u:=ok.l _ _ hb;have A:=ok.h _ _ hb;have hi:=In.of hb;rcases Pa ok d b.2.2 _ (by unfold In at*;omega) _ j with j|j;rcases Pa ok d b.2.1 _ (by unfold In at*;omega) _ j with j|j;exact h j;rw[gy hb] at j;omega;rw[gy hb] at j;omega
def Ht (h2:2<=n) (h:n∉V):nb (V++[n]) n=V.length+2:=by
 unfold nb;rw[if_neg (by omega),List.idxOf_append,if_neg h];simp
def key (B:List Br) (n:Nat):Nat×Tr:=(bR B n,tr B (3-bR B n) n)
def Pc (ok:OK B) {x y} (j:In B x) (u:In B y) (h:key B x=key B y):x=y:=by
 simp only[key,Prod.mk.injEq] at h;have:=Id ok j;refine Hq ok (3-bR B x) x y (by omega) j u (by omega) (by omega) ?_;have h2:=h.2;rw[←h.1] at h2;exact h2
def at5 (ok:OK B) (u:∀n∈V,In B n) {x} (A:In B x):key B x∈V.map (key B)↔x∈V:=by
 constructor;intro h;obtain⟨y,j,e⟩:=List.mem_map.1 h;rw[←Pc ok (u y j) A e];exact j;exact λh=>List.mem_map_of_mem h
def Pd {B} (ok:OK B):∀{V:List Nat} (_:∀n∈V,In B n) {x} (_:In B x),(V.map (key B)).idxOf (key B x)=V.idxOf x
 |[],_,_,_=>rfl
 |y::V,hV,x,hx=>by
  rw[List.map_cons,List.idxOf_cons,List.idxOf_cons];have e:(key B y==key B x)=(y==x):=by
   rw[Bool.eq_iff_iff];simp only[beq_iff_eq];exact⟨Pc ok (hV y (by simp)) hx,λh=>by rw[h]⟩
  rw[e,Pd ok (λn h=>hV n (by simp[h])) hx]
def at6 (ok:OK B) (D:In B n) (G:v<bR B n) (A:v<3):tr B (3-v) n= .n (tr B (3-(v+1)) n) (tr B (3-(v+1)) n):=by
 have s:=(uS ok D (v:=v) A).2 (by omega);obtain⟨j,u⟩:∃j,3-v=j+1/\ 3-(v+1)=j/\ 2-j=v:=⟨2-v,by omega,by omega,by omega⟩;rw[u.1,u.2.1];simp only[tr];rw[u.2.2,s.1,s.2]
def Dz (ok:OK B) (j:In B n) (S:List (Nat×Tr)):∀k v,v+k=bR B n ->mQ v (tr B (3-v) n) S=mQ (bR B n) (tr B (3-bR B n) n) S/\ sk S v (tr B (3-v) n)=sk S (bR B n) (tr B (3-bR B n) n):=by
 intro k;induction k with
 |zero=>
  intro v h;have:v=bR B n:=by omega
  subst this;exact⟨rfl,rfl⟩
 |succ k u=>
  intro v h;have:=Id ok j;rw[at6 ok j (by omega) (by omega)];simp only[mQ,sk,if_pos];exact u (v+1) (by omega)
def DA (hb:B[i]? =some b) (A:b.1<3):tr B (3-b.1) (i+2)= .n (tr B (3-(b.1+1)) b.2.1) (tr B (3-(b.1+1)) b.2.2):=by
 obtain⟨j,u⟩:∃j,3-b.1=j+1/\ 3-(b.1+1)=j/\ 2-j=b.1:=⟨2-b.1,by omega,by omega,by omega⟩;rw[u.1,u.2.1];simp only[tr];rw[u.2.2,pb hb,Gu hb,if_pos rfl,if_pos rfl]
def Hu (ok:OK B) (D:∀n∈V,In B n) (A:In B n) (I:v<=bR B n):sk (V.map (key B)) v (tr B (3-v) n)=nb V n:=by
 rw[(Dz ok A (V.map (key B)) (bR B n-v) v (by omega)).2];rcases A.cases with h|⟨i,b,rfl,hb⟩;rw[oG h];have u:n=0∨n=1:=by omega
 rcases u with rfl|rfl<;>simp[tr,sk,nb];have u:=ok.v _ _ hb;have H:=ok.ne _ _ hb;rw[gy hb];have e:=DA hb u;have G:key B (i+2)=(b.1,tr B (3-b.1) (i+2)):=by unfold key;rw[gy hb]
 have:=Pd ok D A;rw[G,e] at this;rw[e];simp only[sk];have J:=ok.l _ _ hb;have L:=ok.h _ _ hb;have hi:=In.of hb;have j:tr B (3-(b.1+1)) b.2.1≠tr B (3-(b.1+1)) b.2.2:=λh=>H (Hq ok (3-(b.1+1)) _ _ (by omega) (by unfold In at*;omega) (by unfold In at*;omega) (by omega) (by omega) h);rw[if_neg j,this];unfold nb;rw[if_neg (by omega)]
def at7 (ok:OK B):∀d n V,Cl B V ->In B n ->3-bR B n<=d ->(dV B d n V).map (key B)=mQ (bR B n) (tr B (3-bR B n) n) (V.map (key B)):=by
 intro d;induction d with
 |zero=>
  intro n V c hn hd;have:=Id ok hn;rw[show 3-bR B n=0 by omega];simp[dV,tr,mQ]
 |succ d J=>
  intro n V c hn hd;rcases hn.cases with h|⟨i,b,rfl,hb⟩;rw[oG h];simp[dV,tr,mQ,h];have H:=ok.v _ _ hb;have L:=ok.ne _ _ hb;have N:=ok.l _ _ hb;have O:=ok.h _ _ hb;have hi:=In.of hb;have A:In B b.2.1:=by unfold In at*;omega
  have G:In B b.2.2:=by unfold In at*;omega
  have u:tr B (3-(b.1+1)) b.2.1≠tr B (3-(b.1+1)) b.2.2:=λh=>L (Hq ok (3-(b.1+1)) _ _ (by omega) A G (by omega) (by omega) h);have I:key B (i+2)=(b.1,.n (tr B (3-(b.1+1)) b.2.1) (tr B (3-(b.1+1)) b.2.2)):=by unfold key;rw[gy hb,DA hb H]
  have D:=at5 ok (λn h=>(c.two n h).2) hn;rw[I] at D;rw[gy hb] at hd ⊢;rw[DA hb H];simp only[dV,mQ,if_neg u];by_cases j:i+2∈V;rw[if_pos (.inr j),if_pos (D.2 j)];rw[if_neg (by
   intro h;rcases h with h|h;·omega
   exact j h),if_neg (λh=>j (D.1 h)),show i+2-2=i by omega,hb]
  dsimp only;obtain⟨c1,_⟩:=yq ok d b.2.1 V c A (by omega);rw[List.map_append,J b.2.2 _ c1 G (by omega),J b.2.1 V c A (by omega)];rw[(Dz ok A (V.map (key B)) (bR B b.2.1-(b.1+1)) (b.1+1) (by omega)).1,(Dz ok G _ (bR B b.2.2-(b.1+1)) (b.1+1) (by omega)).1];simp only[List.map_cons,List.map_nil,I]
def at8 (ok:OK B) (c:Cl B V):DM B V=(V.map (key B)).map (node (V.map (key B))):=by
 unfold DM;rw[List.map_map];apply List.map_congr_left;intro n D;obtain⟨h2,j⟩:=c.two n D;rcases j.cases with h|⟨i,b,rfl,hb⟩;omega;have u:=ok.v _ _ hb;have I:=ok.l _ _ hb;have J:=ok.h _ _ hb;have hi:=In.of hb;have G:In B b.2.1:=by unfold In at*;omega
 have H:In B b.2.2:=by unfold In at*;omega
 have A:key B (i+2)=(b.1,.n (tr B (3-(b.1+1)) b.2.1) (tr B (3-(b.1+1)) b.2.2)):=by unfold key;rw[gy hb,DA hb u]
 rw[show i+2-2=i by omega,hb];simp only[Function.comp_apply,A,node];rw[Hu ok (λn h=>(c.two n h).2) G (by omega),Hu ok (λn h=>(c.two n h).2) H (by omega)]
def Pe (ok:OK B) {r d} (j:In B r) (hd:3-bR B r<=d):(DM B (dV B d r []),nb (dV B d r []) r)=aE (tr B 3 r):=by
 obtain⟨c,_⟩:=yq ok d r [] Cl.nil j hd;have:=Id ok j;have e:mQ 0 (tr B 3 r) []=(dV B d r []).map (key B):=by
  rw[at7 ok d r [] Cl.nil j hd];exact(Dz ok j [] (bR B r) 0 (by omega)).1
 unfold aE;rw[e];dsimp only;rw[←at8 ok c];have:=Hu ok (λn h=>(c.two n h).2) j (v:=0) (by omega);rw[show(3:Nat)-0=3 from rfl] at this;rw[this]
def cA:Nat ->Tr ->Bool
 |0,.c _=>true
 |k+1,.n a b=>cA k a&&cA k b
 |_,_=>false
def iy:Nat ->List Tr
 |0=>[.c false,.c true]
 |k+1=>(iy k).flatMap λa=>(iy k).map λb=> .n a b
def Ie:∀{k t},cA k t=true ->t∈iy k
 |0,.c b,_=>by cases b<;>simp[iy]
 |0,.n _ _,h=>by simp[cA] at h
 |k+1,.c _,h=>by simp[cA] at h
 |k+1,.n a b,h=>by
  simp only[cA,Bool.and_eq_true] at h;simp only[iy,List.mem_flatMap,List.mem_map];exact⟨a,Ie h.1,b,Ie h.2,rfl⟩
def yU (b:Bool):Nat ->Tr
 |0=> .c b
 |k+1=> .n (yU b k) (yU b k)
def ph {b}:∀k,cA k (yU b k)=true
 |0=>rfl
 |k+1=>by simp[yU,cA,ph k]
def jq:Nat ->Tr ->Bool
 |0,.c _=>true
 |0,.n a b=>decide (a=b)&&jq 0 a
 |_+1,.c _=>true
 |n+1,.n a b=>jq n a&&jq n b
def Pf (B:List Br):Bool:=(List.range B.length).all λi=>match B[i]? with
 |some b=>decide (b.1<3)&&decide (b.2.1<i+2)&&decide (b.1<bR B b.2.1)&&decide (b.2.2<i+2)&&decide (b.1<bR B b.2.2)&&decide (b.2.1≠b.2.2)&&(List.range B.length).all λj=>decide (B[j]? =some b ->i=j)
 |none=>false
def at9 (h:Pf B=true):OK B:=by
 have key:∀(i:Nat) (b:Br),B[i]? =some b ->b.1<3/\ b.2.1<i+2/\ b.1<bR B b.2.1/\ b.2.2<i+2/\ b.1<bR B b.2.2/\ b.2.1≠b.2.2/\∀j:Nat,j<B.length ->B[j]? =some b ->i=j:=by
  intro i b hb;have hi:=(List.getElem?_eq_some_iff.1 hb).1;have:=List.all_eq_true.1 h i (List.mem_range.2 hi);rw[hb] at this;simp only[Bool.and_eq_true,decide_eq_true_eq,List.all_eq_true,List.mem_range] at this;obtain⟨⟨⟨⟨⟨⟨h1,h2⟩,A⟩,D⟩,G⟩,H⟩,I⟩:=this;exact⟨h1,h2,A,D,G,H,I⟩
 exact⟨λi b hb=>(key i b hb).1,λi b hb=>⟨(key i b hb).2.1,(key i b hb).2.2.1⟩,λi b hb=>⟨(key i b hb).2.2.2.1,(key i b hb).2.2.2.2.1⟩,λi b hb=>(key i b hb).2.2.2.2.2.1,λi j b hb u=>(key i b hb).2.2.2.2.2.2 j (List.getElem?_eq_some_iff.1 u).1 u⟩
def Pg (t:Tr):Bool:=Pf (aE t).1&&decide ((aE t).2<(aE t).1.length+2)&&decide (tr (aE t).1 3 (aE t).2=t)&&decide ((aE t).1.length<=7)
end Dg
namespace AM
open Go
noncomputable section
def tH {α:Type}:Nat ->(Nat ->Option α) ->T α
 |0,_=> .e
 |d+1,f=> .n (tH d λk=>f (2*k+1)) (f 0) (tH d λk=>f (2*k+2))
def DB {α}:∀{d f k} {x:α},(tH d f).get k=some x ->f k=some x
 |0,f,k,x,h=>by
  have:(T.e:T α).get k=none:=rfl;rw[show(tH 0 f)=T.e from rfl,this] at h;cases h
 |d+1,f,k,x,h=>by
  have e:(tH (d+1) f).get k=Bool.rec (Bool.rec ((tH d λk=>f (2*k+2)).get (Nat.sub (Nat.div k 2) 1)) ((tH d λk=>f (2*k+1)).get (Nat.div k 2)) (Nat.beq (Nat.mod k 2) 1)) (f 0) (Nat.beq k 0):=rfl;rw[e] at h;cases h0:Nat.beq k 0 with
  |true=>rw[h0] at h;rw[qG h0];exact h
  |false=>
   rw[h0] at h;have j:k≠0:=λq=>by subst q;cases h0
   cases h1:Nat.beq (Nat.mod k 2) 1 with
   |true=>
    rw[h1] at h;have h2:k%2=1:=qG h1;have:=DB h;rw[←this];congr 1;show k=2*(k/2)+1;omega
   |false=>
    rw[h1] at h;have h2:k%2≠1:=λq=>by rw[show Nat.mod k 2=1 from q] at h1;cases h1
    have:=DB h;rw[←this];congr 1;show k=2*(k/2-1)+2;omega
def AW {α:Type} (n:Nat):List α ->List α:=Nat.rec (motive:=λ_=>List α ->List α) (λl=>l) (λ_ j l=>List.casesOn (motive:=λ_=>List α) l [] λ_ t=>j t) n
def DC {α:Type} (n:Nat):List α ->List (List α):=Nat.rec (motive:=λ_=>List α ->List (List α)) (λ_=>[]) (λ_ j l=>l::j (AW 32 l)) n
def nP {α:Type} (l:List α) (k:Nat):Option α:=Option.rec (motive:=λ_=>Option α) none (λs=>lH s (Nat.mod k 32)) (lH (DC 32 l) (Nat.div k 32))
def yr {α}:∀n (l:List α),AW n l=l.drop n
 |0,l=>rfl
 |n+1,[]=>rfl
 |n+1,a::l=>yr n l
def DD {α}:∀(l:List α) (n),lH l n=l[n]?
 |[],n=>by cases n<;>rfl
 |a::l,0=>rfl
 |a::l,n+1=>by rw[Fv,←DD l n];rfl
def Ph {α}:∀n (l s:List α) (i),(DC n l)[i]? =some s ->s=l.drop (32*i)
 |0,l,s,i,h=>by cases h
 |n+1,l,s,0,h=>by
  have h':some l=some s:=h;cases h';rfl
 |n+1,l,s,i+1,h=>by
  have h':(DC n (AW 32 l))[i]? =some s:=h;have:=Ph n _ s i h';rw[this,yr,ud];congr 1;omega
def Hv {α l k} {x:α} (h:nP l k=some x):l[k]? =some x:=by
 unfold nP at h;rw[DD] at h;rcases j:(DC 32 l)[Nat.div k 32]? with _|s;rw[j] at h;cases h;rw[j] at h;have h':lH s (Nat.mod k 32)=some x:=h;rw[DD,Ph 32 l s _ j,mB] at h';rw[←h'];congr 1;exact(Nat.div_add_mod k 32).symm
def yu (I:Nat ->Option TypeInfo) (t:Nat):Option TypeDesc:=match I t with
 |some i=>(match i.desc with| .named _ u=>(match I u with|some j=>some j.desc|none=>none)|d=>some d)
 |none=>none
def z0 (v:Value):AV:=match v with
 | .bool b=>AV.b b| .int k n=> .i k n| .string s=> .s (s.data.toList.map UInt8.toNat)| .pointer none=> .pn| .slice none _ _=> .sn| .map none=> .mn| .nilFunc=> .fnil| .nilIface=> .ifn|_=> .un
def Pi (P:Program) (I:Nat ->Option TypeInfo) (t:Nat):Option TI:=match yu I t,I t with
 |some d,some inf=>match inf.zero with
  |some z=>bif d.isRow then match z with
   | .agg vs=>match vs.toList.map z0 with
    |zs=>bif CC 2 zs vs.toList then some ⟨d,inf.size,inf.bytes,zs,P.stoodInHeld t⟩ else none
   |_=>none
   else match z0 z with
    |zz=>bif kv 2 zz z&&ew zz then some ⟨d,inf.size,inf.bytes,[zz],P.stoodInHeld t⟩ else none
  |none=>none
 |_,_=>none
def Pj (P:Program):T TI:=tH 10 λt=>Pi P (nP P.types.toList) t
namespace Cp
def yv:Nat ->Value ->AV
 |_,.bool b=> .b b
 |_,.int k n=> .i k n
 |_,.string s=> .s (s.data.toList.map UInt8.toNat)
 |_,.pointer none=> .pn
 |_,.slice none _ _=> .sn
 |_,.map none=> .mn
 |_,.nilFunc=> .fnil
 |n+1,.func (.func f) a b=> .f f (a.toList.map (yv n)) (b.toList.map (yv n))
 |n+1,.iface t v=> .ifc t (yv n v)
 |_,.nilIface=> .ifn
 |n+1,.agg c=> .ag (c.toList.map (yv n))
 |n+1,.tuple c=> .tu (c.toList.map (yv n))
 |_,_=> .un
def b9:Operand ->MA
 | .tmp t=> .t t
 | .const v=> .c (yv 9 v)
 | .global g=> .g g
 | .func f=> .c (.f f [] [])
structure Cx where
 ty:T TI
 mt:List (String×List (Nat×Nat))
 wr:List Nat
 vw:List (Nat×List (Nat×Nat×Nat))
 tf:Bool
section
variable (ty:T TI) (mt:List (String×List (Nat×Nat)))
def kd (t:Nat):TypeDesc:=match ty.get t with|some i=>i.kd|none=> .chan .both 0
def sz (t:Nat):Nat:=match ty.get t with|some i=>i.size|none=>0
def DE (t:Nat):Nat:=match ty.get t with|some i=>i.bytes|none=>0
def zs (t:Nat):List AV:=match ty.get t with|some i=>i.zs|none=>[.un]
def agg (t:Nat):Bool:=match ty.get t with|some i=>i.kd.isRow|none=>false
def Hw (t:Nat):AV:=match ty.get t with|some i=>(bif i.kd.isRow then .ag i.zs else match i.zs with|[z]=>z|_=> .un)|none=> .un
def rep (n:Nat) (l:List AV):List AV:=(List.replicate n l).flatten
def fld (t k:Nat):Option Field:=match kd ty t with| .struct fs=>fs.toList[k]? |_=>none
def et:Nat ->Nat ->ET
 |0,_=> .lf .f
 |n+1,t=>match kd ty t with
  | .bool=> .lf .b
  | .int _=> .lf .i
  | .string=> .lf .s
  | .pointer _=> .lf .p
  | .slice _=> .lf .sl
  | .map _ _=> .lf .m
  | .interface _=> .lf .ifc
  | .struct fs=> .ag (fs.toList.map λf=>(f.offset,sz ty f.type,agg ty f.type,et n f.type))
  | .array k e=> .ag ((List.range k).map λi=>(i*sz ty e,sz ty e,agg ty e,et n e))
  |_=> .lf .f
def au0 (n:String):List (Nat×Nat):=match mt.find? (λe=>decide (e.1=n)) with|some e=>e.2|none=>[]
def Pk (t:Nat):Bool:=match kd ty t with| .int _=>true|_=>false
def Pl (t:Nat):Bool:=match kd ty t with| .string=>true|_=>false
def au1 (t:Nat):Bool:=match kd ty t with| .int .u8=>true|_=>false
def mem (n:Nat) (l:List Nat):Bool:=l.any (Nat.beq n)
end
section
variable (X:Cx)
end
def op:Op ->Cx ->Eb
 | .move x| .assign x=>λX=> .mv (b9 x)
 | .pick c a b=>λX=> .pick (b9 c) (b9 a) (b9 b)
 | .alloc t=>λX=>bif mem t X.wr then .bad 3 else .alloc (zs X.ty t)
 | .box t x=>λX=>bif mem t X.wr then .tbx t (b9 x) else .box (b9 x) (sz X.ty t)
 | .build t ps=>λX=>
  match kd X.ty t with
  | .struct fs=> .build (zs X.ty t) (ps.toList.map λ(i,x)=>match fs.toList[i]? with|some f=>(f.offset,sz X.ty f.type,b9 x)|none=>(0,0,b9 x))
  | .array _ e=> .build (zs X.ty t) (ps.toList.map λ(i,x)=>(i*sz X.ty e,sz X.ty e,b9 x))
  |_=> .bad 1
 | .buildSlice t len ps=>λX=>
  match kd X.ty t with
  | .slice e=> .bslice (rep len (zs X.ty e)) len (sz X.ty e) (ps.toList.map λ(i,x)=>(i*sz X.ty e,sz X.ty e,b9 x))
  |_=> .bad 2
 | .load t a=>λX=>bif X.tf then .tld (b9 a) (sz X.ty t) (agg X.ty t) else .load (b9 a) (sz X.ty t) (agg X.ty t)
 | .store t a x=>λX=>bif X.tf then .tst (b9 a) (b9 x) (sz X.ty t) else .store (b9 a) (b9 x) (sz X.ty t)
 | .nilCheck x=>λX=> .nilc (b9 x)
 | .binOp b t x y _=>λX=>bif Pk X.ty t||Pl X.ty t then .bin b (b9 x) (b9 y) else match b with
  | .eql=> .eqv false (et X.ty 9 t) (b9 x) (b9 y)
  | .neq=> .eqv true (et X.ty 9 t) (b9 x) (b9 y)
  |_=> .bad 18
 | .unOp u _ x=>λX=> .un u (b9 x)
 | .convert s d x=>λX=>
  match kd X.ty s,kd X.ty d with
  | .int _,.int k=> .cvi k (b9 x)
  | .string,.slice _=> .s2b (b9 x)
  | .slice _,.string=> .b2s (b9 x)
  | .pointer _,.unsafePointer=> .cvp (b9 x)
  | .unsafePointer,.pointer u=> .cvu (match X.vw.find? (λe=>Nat.beq e.1 u) with|some e=>e.2|none=>[]) (b9 x)
  |_,_=> .bad 3
 | .makeInterface t x=>λX=> .mif t (b9 x)
 | .makeFunc (.func f) a b=>λX=> .mfn f (a.toList.map b9) (b.toList.map b9)
 | .makeMap _ r=>λX=> .mmap (r.map b9)
 | .makeSlice t l c=>λX=>match kd X.ty t with
  | .slice e=> .mslice (zs X.ty e) (sz X.ty e) (DE X.ty e) (b9 l) (b9 c)
  |_=> .bad 4
 | .slice t x lo hi mx=>λX=>match kd X.ty t with
  | .string=> .slcs (b9 x) (lo.map b9) (hi.map b9)
  | .slice e=> .slc (sz X.ty e) (b9 x) (lo.map b9) (hi.map b9) (mx.map b9)
  |_=> .bad 5
 | .fieldAddr s x k=>λX=>match fld X.ty s k with|some f=>bif Nat.beq (sz X.ty f.type) 0 then .bad 6 else .fadr (b9 x) f.offset|none=> .bad 6
 | .field s x k=>λX=>match fld X.ty s k with|some f=> .fld (b9 x) f.offset (sz X.ty f.type) (agg X.ty f.type)|none=> .bad 7
 | .indexAddr t x ix=>λX=>match kd X.ty t with
  | .array n e=> .iadra n (sz X.ty e) (b9 x) (b9 ix)
  | .slice e=> .iadr (sz X.ty e) (b9 x) (b9 ix)
  |_=> .bad 8
 | .index t x ix=>λX=>match kd X.ty t with
  | .string=> .idxs (b9 x) (b9 ix)
  |_=> .bad 9
 | .lookup t m k ok=>λX=>match kd X.ty t with| .map q e=> .look (et X.ty 9 q) (b9 m) (b9 k) (Hw X.ty e) ok|_=> .bad 10
 | .mapUpdate t m k v| .insert t m k v=>λX=>match kd X.ty t with| .map q _=> .mupd (et X.ty 9 q) (b9 m) (b9 k) (b9 v)|_=> .bad 19
 | .mapEntry t m k=>λX=>match kd X.ty t with| .map q e=> .ment (et X.ty 9 q) (b9 m) (b9 k) (Hw X.ty e)|_=> .bad 11
 | .entryStore _ m s v=>λX=> .mest (b9 m) (b9 s) (b9 v)
 | .range t x=>λX=> .rng (b9 x) (Pl X.ty t)
 | .next x s=>λX=> .nxt (b9 x) s
 | .entry x=>λX=> .ent (b9 x)
 | .extract x k=>λX=> .ext (b9 x) k
 | .call c=>λX=>match c.callee with
  | .value x=>match b9 x with
   | .c (.f f [] [])=> .call f (c.args.toList.map b9)
   |a=> .callv a (c.args.toList.map b9)
  | .invoke r n=> .calli (b9 r) (au0 X.mt n) (c.args.toList.map b9)
  | .builtin b=>match b,c.args.toList,c.argTypes.toList with
   | .append,[s,x],[t,u]=>match kd X.ty t with
    | .slice e=>bif X.tf&&au1 X.ty e then .tap e (b9 s) (b9 x) (sz X.ty e) (DE X.ty e) else bif Pk X.ty u then .appz (b9 s) (b9 x) (sz X.ty e) (DE X.ty e) (zs X.ty e) else .app (b9 s) (b9 x) (sz X.ty e) (DE X.ty e)
    |_=> .bad 13
   | .len,[x],[t]=>match kd X.ty t with
    | .string=> .len .str (b9 x)
    | .array n _=> .len (.arr n) (b9 x)
    | .pointer a=>(match kd X.ty a with| .array n _=> .len (.arr n) (b9 x)|_=> .bad 14)
    | .slice _=> .len .slice (b9 x)
    | .map _ _=> .len .map (b9 x)
    |_=> .bad 14
   | .cap,[x],_=> .cap (b9 x)
   | .unsafeSliceData,[x],_=> .usd (b9 x)
   | .unsafeString,[x,y],[t,_]=>(match kd X.ty t with| .pointer e=> .ust e (b9 x) (b9 y)|_=> .bad 16)
   | .min,l,_=> .min (l.map b9)
   | .max,l,_=> .max (l.map b9)
   |_,_,_=> .bad 16
 |_=>λX=> .bad 17
structure jO where
 n:Nat
 o:List DI
 p:List Nat
section
variable (X:Cx)
def gd (ops:List Oper) (j:Nat):Nat:=match ops[j]? with|some o=>o.dst.getD 0|none=>0
def g (ops:List Oper) (o:Oper):MG:={ dst:=o.dst,op:=op o.op X,guard:=o.guard.map λ(j,w)=>(gd ops j,w) }
def DF:Eb ->Nat
 | .alloc _| .box .. | .bslice .. | .mmap _| .mslice .. | .tbx .. =>1
 | .mv _| .pick .. | .build .. | .load .. | .nilc _| .bin .. | .eqv .. | .un .. | .cvi .. | .b2s _| .mif .. | .mfn .. | .slc .. | .slcs .. | .fadr .. | .fld ..
 | .iadr .. | .iadra .. | .idxs .. | .look .. | .ent _| .ext .. | .len .. | .cap _| .min _| .max _| .tld .. | .cvp _| .cvu .. | .usd _=>0
 |_=>2
def Pm {α:Type} (l:List α):Nat:=List.rec (motive:=λ_=>Nat) 0 (λ_ _ j=>Nat.succ j) l
def Hx {α:Type} (l:List α):List α ->List α:=List.rec (motive:=λ_=>List α ->List α) (λr=>r) (λa _ j r=>j (a::r)) l
def au2 (w A:Nat) (u:List Edge):Nat:=List.rec (motive:=λ_=>Nat) 0 (λe _ j=>bif Region.binds .any e then Nat.lor (Nat.lor (Nat.shiftLeft 1 e.on) (Nat.land (Nat.shiftRight A (Nat.mul e.on w)) (Nat.sub (Nat.shiftLeft 1 w) 1))) j else j) u
def aK9 (w:Nat) (l:List Oper):Nat ->Nat ->(Nat ->jO) ->jO:=List.rec (motive:=λ_=>Nat ->Nat ->(Nat ->jO) ->jO) (λ_ A k=>k A) (λo _ ih i A k=>fN (Nat.lor A (Nat.shiftLeft (au2 w A o.after.toList) (Nat.mul i w))) λA=>fN (Nat.succ i) λi=>ih i A k) l
def au3 (i:Nat) (j:List Edge):Bool:=List.rec (motive:=λ_=>Bool) false (λe _ u=>(Region.binds .any e&&Nat.ble i e.on)||u) j
def Pn (l:List Oper):Nat ->Bool:=List.rec (motive:=λ_=>Nat ->Bool) (λ_=>false) (λo _ j i=>au3 i o.after.toList||j (Nat.succ i)) l
structure Q where
 i:Nat
 g:MG
 a:Nat
 k:Nat
def rdB (l:List Nat):Nat:=List.rec (motive:=λ_=>Nat) 0 (λt _ j=>Nat.lor (Nat.shiftLeft 1 t) j) l
def au4 (ops:List Oper) (w A:Nat) (l:List Oper):Nat ->Nat ->(List Q ->jO) ->jO:=List.rec (motive:=λ_=>Nat ->Nat ->(List Q ->jO) ->jO) (λ_ _ k=>k [])
 (λo _ ih i R k=>(λm=>fN (Nat.lor R (rdB (qc m))) λR=>fN (Nat.land (Nat.shiftRight A (Nat.mul i w)) (Nat.sub (Nat.shiftLeft 1 w) 1)) λa=>
  fN (match o.dst with|some d=>bif Nat.testBit R d then 2 else (bif m.guard.isNone||Nat.beq (DF m.op) 0 then DF m.op else 2)|none=>(bif m.guard.isNone||Nat.beq (DF m.op) 0 then DF m.op else 2)) λc=>
   fN (Nat.succ i) λj=>ih j R λr=>k (⟨i,m,a,c⟩::r)) (g X ops o)) l
def b2B (l:List Q):Nat:=List.rec (motive:=λ_=>Nat) 0 (λx _ j=>match x.g.op with| .b2s (.t y)=>Nat.lor (Nat.shiftLeft 1 y) j|_=>j) l
def au5 (l:List Q):List Q:=fN (b2B l) λB=>bif Nat.beq B 0 then l else
 List.rec (motive:=λ_=>List Q) [] (λx _ j=>(bif Nat.beq x.k 1&&(match x.g.dst with|some d=>Nat.testBit B d|none=>false) then ⟨x.i,x.g,x.a,2⟩ else x)::j) l
def Po (a b:Nat):Bool:=Nat.beq (Nat.land a b) a
def Hz (l:List Q):Nat ->Nat ->List Nat ->List DI ->List Q ->(Nat ->Nat ->List Nat ->List DI ->List Q ->jO) ->jO:=
 List.rec (motive:=λ_=>Nat ->Nat ->List Nat ->List DI ->List Q ->(Nat ->Nat ->List Nat ->List DI ->List Q ->jO) ->jO) (λd n p o q k=>k d n p o (Hx q []))
  (λx _ j d n p o q k=>bif Po x.a d&&Nat.ble x.k 1 then (fN (Nat.lor d (Nat.shiftLeft 1 x.i)) λd=>bif Nat.beq x.k 0 then j d n p (.light x.i x.g::o) q k else fN (Nat.succ n) λm=>j d m (x.i::p) (.resv x.i n x.g::o) q k) else j d n p o (x::q) k) l
def Pp (m:Nat) (l:List Nat) (o:List DI):List DI:=List.rec (motive:=λ_=>List DI) o (λi _ j=>bif Nat.testBit m i then .lay i::j else j) l
def au6 (m:Nat) (l:List Nat):List Nat:=List.rec (motive:=λ_=>List Nat) [] (λi _ j=>bif Nat.testBit m i then j else i::j) l
def au7 (d:Nat) (l:List Q) (k:Q ->List Q ->jO) (z:jO):jO:=List.rec (motive:=λ_=>(Q ->List Q ->jO) ->jO) (λ_=>z) (λx r j k=>bif Po x.a d then k x r else j λy r=>k y (x::r)) l k
def goQ (fw:Bool) (n:Nat):Nat ->Nat ->List Nat ->List DI ->List Q ->jO:=
 Nat.rec (motive:=λ_=>Nat ->Nat ->List Nat ->List DI ->List Q ->jO) (λ_ n p o _=>⟨n,o,p⟩) (λ_ j d n p o q=>Hz q d n p o [] λd n p o q=>
  (λ(c:Nat ->Nat ->List Nat ->List DI ->List Q ->jO)=>bif fw then Hz q d n p o [] λd n p o q=>Hz q d n p o [] c else c d n p o q) λd n p o q=>
   au7 d q (λx q=>fN (Nat.lor d (Nat.shiftLeft 1 x.i)) λd=>j d n (au6 x.a p) (.heavy x.i x.g x.a::Pp x.a (Hx p []) o) q) ⟨n,o,p⟩) n
def draw (ops:List Oper):aw:=
 match fN (Pm ops) λw=>aK9 w ops 0 0 λA=>(λ(c:Nat ->jO)=>bif Pn ops 0 then aK9 w ops 0 A λA=>aK9 w ops 0 A c else c A) λA=>
  au4 X ops w A ops 0 0 λl=>goQ (Pn ops 0) (Nat.succ w) 0 0 [] [] (au5 l) with
 |⟨n,o,p⟩=> .draw n (Hx o (Pp (Nat.sub (Nat.shiftLeft 1 (Pm ops)) 1) p []))
def au8 {α:Type} (l:List α):Option α:=List.rec (motive:=λ_=>Option α) none (λa r j=>List.casesOn (motive:=λ_=>Option α) r (some a) λ_ _=>j) l
def au9 (ops:List Oper):Option aw:=match au8 ops with
 |some o=>match o.op with
  | .defer c=>match c.callee with
   | .value (.tmp y)=>some (.dfr ((ops.dropLast).map (g X ops)) (.t y) ((ops.findSome? λo=>match o.op,o.dst with| .makeFunc (.func f) _ _,some t=>bif Nat.beq t y then some f else none|_,_=>none).getD 0))
   |_=>none
  |_=>none
 |none=>none
def av0 {α β:Type} (f:α ->β) (l:List α):List β:=List.rec (motive:=λ_=>List β) [] (λa _ j=>f a::j) l
def region (ops:List Oper) (d:Bool):aw:=match au9 X ops with
 |some c=>c
 |none=>bif d then draw X ops else .ops (av0 (g X ops) ops)
end
def code (c:Code):Cx ->aw:=Code.rec (motive:=λ_=>Cx ->aw)
 (λ_=> .skip) (λ_ ops d X=>region X ops.toList d) (λ_ _ a b X=> .seq (a X) (b X)) (λc _ _ a b X=> .cond (b9 c) (a X) (b X)) (λi _ c X=> .block i (c X)) (λ_ c X=> .loop (c X))
 (λf ps _ _ a b X=> .rfun (b9 f) ps.toList (a X) (b X)) (λi _=> .exit i) (λ_ c=>c) (λ_ _=> .skip) (λ_ _=> .bad 1) (λ_=> .ret) (λ_ _=> .bad 2) c
section
variable (X:Cx)
def fn (f:Func):au:=
 {
  ntmps:=f.ntmps,
  res:=f.results.toList.map (λ| .tmp t=>(t,none)| .cell a t=>(a,some (sz X.ty t,agg X.ty t))),
  body:=match f.body with|some c=>code c X|none=> .bad 3 }
end
end Cp
def Pq:T TI:=Pj Go.Proofs.Tryz.prog
def HB:List (String×List (Nat×Nat)):=[("koine/document.write",[(398,648),(399,650),(401,653),(403,654),(405,655),(407,656),(409,657)])]
def Ps:List (Nat×List (Nat×Nat×Nat)):=[(261,[(263,5,0)])]
def tfs:List Nat:=[73,124,326,421,648,649,650,651,652,653,654,655,656,657]
def yw (n:Nat) (F:Func):au:=Cp.fn ⟨Pq,HB,[263],Ps,Cp.mem n tfs⟩ F
def pg (n:Nat):au:=match nP Go.Proofs.Tryz.prog.funcs.toList n with|some F=>yw n F|none=>⟨0,[],.skip⟩
def HE:Nat ->Nat ->aw ->aw
 |0,_,c=>c
 |n+1,p,c=>bif Nat.beq p 1 then c else match c with
  | .seq a b| .cond _ a b| .rfun _ _ a b=>HE n (p/2) (bif Nat.beq (p%2) 0 then a else b)
  | .block _ a| .loop a=>HE n (p/2) a
  |c=>c
def sE (f p:Nat):aw:=HE 99 p (pg f).body
def tI (x:aw):Nat ->Nat ->aw ->aw
 |0,_,c=>c
 |n+1,p,c=>bif Nat.beq p 1 then x else match c with
  | .seq a b=>bif Nat.beq (p%2) 0 then .seq (tI x n (p/2) a) b else .seq a (tI x n (p/2) b)
  | .cond m a b=>bif Nat.beq (p%2) 0 then .cond m (tI x n (p/2) a) b else .cond m a (tI x n (p/2) b)
  | .rfun m l a b=>bif Nat.beq (p%2) 0 then .rfun m l (tI x n (p/2) a) b else .rfun m l a (tI x n (p/2) b)
  | .block i a=> .block i (tI x n (p/2) a)
  | .loop a=> .loop (tI x n (p/2) a)
  |c=>c
def pt (p:Nat) (x c:aw):aw:=tI x 99 p c
def bE (f:au) (g:aw ->aw):au:=⟨f.ntmps,f.res,g f.body⟩
abbrev ev {α:Type} (t:α) {c:α} (_:c=t:=by conv=>rhs;reduce;dsimp only[Int.ofNat_eq_natCast,Int.cast_ofNat_Int,Int.reduceNegSucc]):α:=c
attribute [go_sem] ev
end
end AM
namespace AM
noncomputable section
abbrev Sj:au:=ev (pg 12)
def aL1:aw:=ev (sE 46 457931)
def TW:aw:=ev (sE 46 392395)
abbrev aL2:aw:=ev (sE 46 523467)
abbrev Pu:au:=(λx y z=>ev (bE (pg 46) λo=>pt 457931 x (pt 392395 y (pt 523467 z o)))) aL1 TW aL2
abbrev bH8:au:=ev (pg 50)
def bi9:aw:=ev (sE 92 23)
abbrev sF:au:=(λx=>ev (bE (pg 92) λo=>pt 23 x o)) bi9
abbrev JM:au:=ev (pg 93)
abbrev bj1:au:=ev (pg 176)
def QE:aw:=ev (sE 14 5707)
def Ux:aw:=ev (sE 14 11851)
abbrev bH9:aw:=ev (sE 14 459)
abbrev P8:aw:=(λx y z=>ev (pt 89 x (pt 185 y (pt 7 z (sE 14 75))))) QE Ux bH9
abbrev P9:aw:=ev (sE 14 23)
abbrev Sl:au:=(λx y=>ev (bE (pg 14) λo=>pt 75 x (pt 23 y o))) P8 P9
structure li (t:T au):Prop where
 f12:t.get 12=some Sj
 f46:t.get 46=some Pu
 f50:t.get 50=some bH8
 f92:t.get 92=some sF
 f93:t.get 93=some JM
 f176:t.get 176=some bj1
 f14:t.get 14=some Sl
abbrev Si:au:=ev (pg 45)
abbrev JE:au:=ev (pg 80)
abbrev Ir:au:=ev (pg 81)
abbrev bI0:aw:=ev (sE 82 39)
def bj3:aw:=ev (sE 82 5872023)
abbrev bI1:aw:=(λx=>ev (pt 45875 x (sE 82 151))) bj3
abbrev bI2:aw:=ev (sE 82 47)
abbrev bI3:aw:=ev (sE 82 1119)
abbrev bI4:aw:=ev (sE 82 1631)
abbrev bI5:aw:=ev (sE 82 191)
def QF:aw:=ev (sE 82 255)
def bj4:aw:=(λx y z u=>ev (pt 34 x (pt 50 y (pt 5 z (pt 7 u (sE 82 63)))))) bI3 bI4 bI5 QF
def bI6:aw:=(λx y z u=>ev (pt 4 x (pt 18 y (pt 5 z (pt 7 u (sE 82 15)))))) bI0 bI1 bI2 bj4
abbrev JF:au:=(λx=>ev (bE (pg 82) λo=>pt 15 x o)) bI6
abbrev Qs:au:=ev (pg 149)
abbrev PI:au:=ev (pg 150)
abbrev Qx:au:=ev (pg 152)
abbrev PK:au:=ev (pg 153)
abbrev PO:au:=ev (pg 155)
abbrev bI7:aw:=ev (sE 156 19)
abbrev Bf:au:=(λx=>ev (bE (pg 156) λo=>pt 19 x o)) bI7
abbrev bI8:au:=ev (pg 157)
abbrev Qn:au:=ev (pg 265)
abbrev Qu:au:=ev (pg 266)
abbrev Qa:au:=ev (pg 400)
structure DT (t:T au):Prop where
 f45:t.get 45=some Si
 f80:t.get 80=some JE
 f81:t.get 81=some Ir
 f82:t.get 82=some JF
 f149:t.get 149=some Qs
 f150:t.get 150=some PI
 f152:t.get 152=some Qx
 f153:t.get 153=some PK
 f155:t.get 155=some PO
 f156:t.get 156=some Bf
 f157:t.get 157=some bI8
 f265:t.get 265=some Qn
 f266:t.get 266=some Qu
 f400:t.get 400=some Qa
def bj5:aw:=ev (sE 185 2)
def bj6:aw:=ev (sE 185 9)
def bk0:aw:=ev (sE 185 13)
def bm9:aw:=ev (sE 185 11)
def Jd:au:=(λx y z u=>ev (bE (pg 185) λo=>pt 2 x (pt 9 y (pt 13 z (pt 11 u o))))) bj5 bj6 bk0 bm9
def Qb:aw:=ev (sE 481 2)
def bI9:aw:=ev (sE 481 9)
def bJ0:aw:=ev (sE 481 37)
def bJ1:aw:=ev (sE 481 11)
def bJ2:aw:=(λx y z=>ev (pt 4 x (pt 18 y (pt 5 z (sE 481 3))))) bI9 bJ0 bJ1
def Qc:au:=(λx y=>ev (bE (pg 481) λo=>pt 2 x (pt 3 y o))) Qb bJ2
def yA:aw:=ev (sE 482 9)
def yB:aw:=ev (sE 482 37)
def PX:aw:=ev (sE 482 11)
def PY:aw:=ev (sE 482 23)
def PZ:aw:=ev (sE 482 79)
def DJ:aw:=ev (sE 482 303)
def HY:aw:=ev (sE 482 687)
def DK:aw:=ev (sE 482 943)
def P0:aw:=(λx y z u=>ev (pt 2 x (pt 9 y (pt 21 z (pt 29 u (sE 482 47)))))) PZ DJ HY DK
def P1:aw:=ev (sE 482 95)
def tJ:aw:=(λx y z u v w=>ev (pt 4 x (pt 18 y (pt 5 z (pt 11 u (pt 23 v (pt 47 w (sE 482 3)))))))) yA yB PX PY P0 P1
def yD:au:=(λx=>ev (bE (pg 482) λo=>pt 3 x o)) tJ
def Qe:aw:=ev (sE 480 2)
def Qf:aw:=ev (sE 480 9)
def bJ3:aw:=ev (sE 480 69)
def bJ4:aw:=ev (sE 480 101)
def bJ5:aw:=(λx y=>ev (pt 4 x (pt 6 y (sE 480 21)))) bJ3 bJ4
def Uy:aw:=ev (sE 480 19)
def bn0:aw:=ev (sE 480 155)
def Uz:aw:=(λx=>ev (pt 9 x (sE 480 27))) bn0
def bJ6:aw:=ev (sE 480 23)
def bJ7:aw:=ev (sE 480 47)
def Im:aw:=ev (sE 480 1119)
def UA:aw:=ev (sE 480 18015)
def UQ:aw:=ev (sE 480 26207)
def XW:aw:=ev (sE 480 7775)
def Iq:aw:=(λx y z=>ev (pt 17 x (pt 25 y (pt 7 z (sE 480 1631))))) UA UQ XW
def bJ8:aw:=(λx y=>ev (pt 17 x (pt 25 y (sE 480 95)))) Im Iq
def bn2:aw:=ev (sE 480 191)
def bn3:aw:=ev (sE 480 383)
def bn4:aw:=ev (sE 480 767)
def bn5:aw:=ev (sE 480 1535)
def bJ9:aw:=(λx y z u=>ev (pt 2 x (pt 5 y (pt 11 z (pt 23 u (sE 480 127)))))) bn2 bn3 bn4 bn5
def Qg:aw:=(λx y z u v w=>ev (pt 4 x (pt 6 y (pt 5 z (pt 11 u (pt 23 v (pt 31 w (sE 480 7)))))))) Uy Uz bJ6 bJ7 bJ8 bJ9
def Qi:au:=(λx y z u=>ev (bE (pg 480) λo=>pt 2 x (pt 9 y (pt 21 z (pt 7 u o))))) Qe Qf bJ5 Qg
def QL:aw:=ev (sE 398 2)
def Ii:aw:=ev (sE 398 5)
def Ij:aw:=ev (sE 398 11)
def Ik:aw:=ev (sE 398 47)
def bK0:aw:=ev (sE 398 95)
def Il:aw:=(λx y=>ev (pt 5 x (pt 11 y (sE 398 15)))) Ik bK0
def QN:au:=(λx y z u=>ev (bE (pg 398) λo=>pt 2 x (pt 5 y (pt 11 z (pt 15 u o))))) QL Ii Ij Il
def bK1:aw:=ev (sE 479 5)
def bK2:au:=(λx=>ev (bE (pg 479) λo=>pt 5 x o)) bK1
def bK3:aw:=ev (sE 397 2)
def bK4:aw:=ev (sE 397 9)
def bK5:aw:=ev (sE 397 11)
def bK6:aw:=(λx y=>ev (pt 4 x (pt 5 y (sE 397 3)))) bK4 bK5
def bK7:au:=(λx y=>ev (bE (pg 397) λo=>pt 2 x (pt 3 y o))) bK3 bK6
def bK8:aw:=ev (sE 263 2)
def bK9:aw:=ev (sE 263 9)
def bL0:aw:=ev (sE 263 21)
def bL1:aw:=(λx y=>ev (pt 2 x (pt 5 y (sE 263 5)))) bK9 bL0
def bL2:aw:=ev (sE 263 11)
def bL3:au:=(λx y z=>ev (bE (pg 263) λo=>pt 2 x (pt 5 y (pt 11 z o)))) bK8 bL1 bL2
def Qd:aw:=ev (sE 399 5)
def Qh:au:=(λx=>ev (bE (pg 399) λo=>pt 5 x o)) Qd
def bL4:aw:=ev (sE 151 2)
def bL5:aw:=ev (sE 151 5)
def PJ:au:=(λx y=>ev (bE (pg 151) λo=>pt 2 x (pt 5 y o))) bL4 bL5
def bL6:aw:=ev (sE 264 5)
def bL7:au:=(λx=>ev (bE (pg 264) λo=>pt 5 x o)) bL6
def bL8:aw:=ev (sE 154 2)
def bL9:aw:=ev (sE 154 5)
def PM:au:=(λx y=>ev (bE (pg 154) λo=>pt 2 x (pt 5 y o))) bL8 bL9
def bM0:aw:=ev (sE 267 5)
def PP:au:=(λx=>ev (bE (pg 267) λo=>pt 5 x o)) bM0
def bM1:aw:=ev (sE 186 2)
def bM2:aw:=ev (sE 186 5)
def bM3:aw:=ev (sE 186 11)
def bM4:aw:=ev (sE 186 47)
def bM5:aw:=ev (sE 186 95)
def bM6:aw:=ev (sE 186 191)
def bM7:aw:=(λx y z=>ev (pt 5 x (pt 11 y (pt 23 z (sE 186 15))))) bM4 bM5 bM6
def Jg:au:=(λx y z u=>ev (bE (pg 186) λo=>pt 2 x (pt 5 y (pt 11 z (pt 15 u o))))) bM1 bM2 bM3 bM7
def XX:aw:=ev (sE 294 9)
def Yd:aw:=ev (sE 294 77)
def Ye:aw:=(λx=>ev (pt 9 x (sE 294 13))) Yd
def bM8:aw:=ev (sE 294 11)
def bM9:aw:=ev (sE 294 23)
def bN0:aw:=ev (sE 294 47)
def bn6:aw:=ev (sE 294 95)
def bx0:aw:=ev (sE 294 191)
def by3:aw:=ev (sE 294 383)
def bN1:aw:=(λx y z u v=>ev (pt 2 x (pt 5 y (pt 11 z (pt 23 u (pt 47 v (sE 294 15))))))) bM9 bN0 bn6 bx0 by3
def RZ:au:=(λx y z u=>ev (bE (pg 294) λo=>pt 9 x (pt 13 y (pt 11 z (pt 15 u o))))) XX Ye bM8 bN1
def bB1:au:=ev (pg 99)
def bB2:aw:=ev (sE 158 2)
def bB3:aw:=ev (sE 158 5)
def QG:au:=(λx y=>ev (bE (pg 158) λo=>pt 2 x (pt 5 y o))) bB2 bB3
def bB4:aw:=ev (sE 268 9)
def bB5:aw:=ev (sE 268 13)
def bB6:aw:=ev (sE 268 19)
def bB7:aw:=ev (sE 268 2251)
def bB8:aw:=ev (sE 268 5323)
def bB9:aw:=ev (sE 268 7371)
def bC0:aw:=ev (sE 268 971)
def Yo:aw:=(λx y z u=>ev (pt 17 x (pt 41 y (pt 57 z (pt 7 u (sE 268 203)))))) bB7 bB8 bB9 bC0
def QH:aw:=(λx=>ev (pt 3 x (sE 268 75))) Yo
def bC1:aw:=(λx y=>ev (pt 4 x (pt 18 y (sE 268 7)))) bB6 QH
def PQ:au:=(λx y z=>ev (bE (pg 268) λo=>pt 9 x (pt 13 y (pt 7 z o)))) bB4 bB5 bC1
def bN2:aw:=ev (sE 396 9)
def bC2:aw:=ev (sE 396 1125)
def bC3:aw:=ev (sE 396 2661)
def bC4:aw:=ev (sE 396 5733)
def bC5:aw:=(λx y=>ev (pt 2 x (pt 5 y (sE 396 1637)))) bC3 bC4
def bC6:aw:=ev (sE 396 485)
def Yy:aw:=(λx y z=>ev (pt 17 x (pt 25 y (pt 7 z (sE 396 101))))) bC2 bC5 bC6
def JA:aw:=(λx=>ev (pt 3 x (sE 396 37))) Yy
def bN3:aw:=(λx y=>ev (pt 4 x (pt 18 y (sE 396 3)))) bN2 JA
def bN4:au:=(λx=>ev (bE (pg 396) λo=>pt 3 x o)) bN3
def bN5:aw:=ev (sE 135 37)
def bN6:aw:=(λx=>ev (pt 9 x (sE 135 5))) bN5
def bN7:aw:=ev (sE 135 11)
def bN8:au:=(λx y=>ev (bE (pg 135) λo=>pt 5 x (pt 11 y o))) bN6 bN7
structure eV (t:T au):Prop where
 f185:t.get 185=some Jd
 f481:t.get 481=some Qc
 f482:t.get 482=some yD
 f480:t.get 480=some Qi
 f398:t.get 398=some QN
 f479:t.get 479=some bK2
 f397:t.get 397=some bK7
 f263:t.get 263=some bL3
 f399:t.get 399=some Qh
 f151:t.get 151=some PJ
 f264:t.get 264=some bL7
 f154:t.get 154=some PM
 f267:t.get 267=some PP
 f186:t.get 186=some Jg
 f294:t.get 294=some RZ
 f99:t.get 99=some bB1
 f158:t.get 158=some QG
 f268:t.get 268=some PQ
 f396:t.get 396=some bN4
 f135:t.get 135=some bN8
structure bz8 (t:T au):Prop where
abbrev PR:aw:=ev (sE 483 9)
abbrev PS:aw:=ev (sE 483 37)
abbrev bN9:aw:=ev (sE 483 75)
abbrev YB:aw:=(λx=>ev (pt 9 x (sE 483 11))) bN9
abbrev YK:aw:=ev (sE 483 23)
abbrev YL:aw:=ev (sE 483 31)
abbrev PW:au:=(λx y z u v=>ev (bE (pg 483) λo=>pt 9 x (pt 37 y (pt 11 z (pt 23 u (pt 31 v o)))))) PR PS YB YK YL
abbrev bO0:au:=ev (pg 559)
abbrev bW7:aw:=ev (sE 560 2)
abbrev bW8:aw:=ev (sE 560 9)
abbrev bW9:aw:=ev (sE 560 13)
abbrev bX0:aw:=ev (sE 560 11)
abbrev bC7:au:=(λx y z u=>ev (bE (pg 560) λo=>pt 2 x (pt 9 y (pt 13 z (pt 11 u o))))) bW7 bW8 bW9 bX0
abbrev bX1:aw:=ev (sE 561 2)
abbrev bX2:aw:=ev (sE 561 9)
abbrev bO1:aw:=ev (sE 561 37)
abbrev bX3:aw:=ev (sE 561 11)
abbrev bX4:aw:=(λx y z=>ev (pt 4 x (pt 18 y (pt 5 z (sE 561 3))))) bX2 bO1 bX3
abbrev QW:au:=(λx y=>ev (bE (pg 561) λo=>pt 2 x (pt 3 y o))) bX1 bX4
abbrev bO2:aw:=ev (sE 562 75)
abbrev Ip:au:=(λx=>ev (bE (pg 562) λo=>pt 75 x o)) bO2
abbrev Be:au:=ev (pg 484)
abbrev aw1:au:=ev (pg 563)
abbrev Qp:au:=ev (pg 401)
abbrev Q5:au:=ev (pg 273)
abbrev Q3:au:=ev (pg 272)
abbrev Q1:au:=ev (pg 274)
abbrev Bh:au:=ev (pg 270)
abbrev R5:au:=ev (pg 37)
abbrev bX5:aw:=ev (sE 565 75)
abbrev wN:au:=(λx=>ev (bE (pg 565) λo=>pt 75 x o)) bX5
abbrev Sa:au:=ev (pg 271)
abbrev Sf:au:=ev (pg 85)
abbrev pu:au:=ev (pg 165)
abbrev HR:au:=ev (pg 402)
abbrev Io:au:=ev (pg 485)
abbrev DX:au:=ev (pg 564)
structure eL (t:T au):Prop where
 f483:t.get 483=some PW
 f559:t.get 559=some bO0
 f560:t.get 560=some bC7
 f561:t.get 561=some QW
 f562:t.get 562=some Ip
 f484:t.get 484=some Be
 f563:t.get 563=some aw1
 f401:t.get 401=some Qp
 f273:t.get 273=some Q5
 f272:t.get 272=some Q3
 f274:t.get 274=some Q1
 f270:t.get 270=some Bh
 f37:t.get 37=some R5
 f565:t.get 565=some wN
 f271:t.get 271=some Sa
 f85:t.get 85=some Sf
 f165:t.get 165=some pu
 f402:t.get 402=some HR
 f485:t.get 485=some Io
 f564:t.get 564=some DX
end
end AM
namespace AM
open Dg Go
noncomputable section
def gH (b:Br):List AV:=[.i .i64 (b.1:Int),.i .i64 (b.2.1:Int),.i .i64 (b.2.2:Int)]
def dK (B:List Br):List AV:=(B.map gH).flatten
def tp (B:List Br):AV:=match B with|[]=> .sn|B=> .ds (dK B) 0 B.length 3
def eD (d:List Br×Nat):AV:= .ag [tp d.1,.i .i64 (d.2:Int)]
def DZ B:(dK B).length=B.length*3:=by
 induction B with
 |nil=>rfl
 |cons b B ih=>simp[dK] at ih ⊢;rw[ih];simp[gH];omega
def Iw b B:dK (b::B)= .i .i64 (b.1:Int):: .i .i64 (b.2.1:Int):: .i .i64 (b.2.2:Int)::dK B:=by simp[dK,gH]
def Ix (B C:List Br):dK (B++C)=dK B++dK C:=by simp[dK]
variable {B:List Br}
def nQ:∀{i b},B[i]? =some b ->∀j n,j+n<=3 ->sub (dK B) (i*3+j) n=some (((gH b).drop j).take n):=by
 intro i b hb j n A;have u:i<B.length:=(eC.1 hb).1;rw[nH,aF (by rw[DZ];omega)];congr 1;have:∀(B:List Br) (i:Nat),B[i]? =some b ->((dK B).drop (i*3))=gH b++dK (B.drop (i+1)):=by
  intro B;induction B with
  |nil=>intro i h;simp at h
  |cons a B ih=>
   intro i h;rcases i with _|i;simp at h;subst h;simp[dK];simp at h;rw[Iw,show(i+1)*3=i*3+3 by omega];simpa using ih i h
 rw[←ud,this B i hb];simp only[gH];rcases j with _|_|_|j;rcases n with _|_|_|_|n<;>first|omega|rfl|simp
 rcases n with _|_|_|n<;>first|omega|rfl|simp
 rcases n with _|_|n<;>first|omega|rfl|simp
 have:j=0/\ n=0:=by omega
 obtain⟨rfl,rfl⟩:=this;simp
def YR n h B:bJ n h (dK B)=some (dK B):=by
 induction B with
 |nil=>rfl
 |cons b B ih=>rw[Iw];simp only[aL,ih,deep]
def qU h d:deep 9 h (eD d)=some (eD d):=by
 obtain⟨B,r⟩:=d;rcases B with _|⟨b,B⟩;rfl;have:bJ 8 h [.ds (dK (b::B)) 0 (b::B).length 3,.i .i64 (r:Int)]=some [.ds (dK (b::B)) 0 (b::B).length 3,.i .i64 (r:Int)]:=by
  have e:deep 8 h (.ds (dK (b::B)) 0 (b::B).length 3)=(match bJ 7 h (dK (b::B)) with|some l=>some (.ds l 0 (b::B).length 3)|none=>none):=rfl;simp only[aL,YR,bZ,deep]
 show(match bJ 8 h [.ds (dK (b::B)) 0 (b::B).length 3,.i .i64 (r:Int)] with|some l=>some (AV.ag l)|none=>none)=_;rw[this];rfl
variable {n:Nat}
def Q6 B:nice.niceL n (dK B)=true:=by
 induction B with
 |nil=>exact iq
 |cons b B ih=>rw[Iw];simp only[Bg,j9,ih,A7]
def yF:nice (n+1) (tp B)=true:=by
 rcases B with _|⟨b,B⟩;exact Dk;show nice (n+1) (.ds _ _ _ _)=true;rw[nN,Q6]
variable {P:Program} {X:aR} {GL:T (List AV)} {ae:T au}
def pl (B:List Br) (r:Nat):Nat:=if r<2 then 64 else bR B r
variable (F:eV ae)
def aw3 {r} (D:In B n) (hb:B.length<=4096):bg P X GL ae 185 [eD (B,r),.i .i64 (n)] (ι (pl B n)):=by
 refine bg.intro λC E=> ?_;rw[ke E.ok (E.get F.f185)];rcases D.cases with h1|⟨i,b,rfl,j⟩;have u:(n:Int)<2:=by omega
 simp only[Jd,bj5,bj6,bk0,bm9,↓dX E.ok,↓dE,↓dG,bI,dF,u,Nat.reduceEqDiff,reduceIte,eZ,fY,eD,go_sem];exact⟨1,by simp[deep,pl,h1]⟩;have u:¬(((i+2:Nat):Int)<2):=by omega
 have A:i<B.length:=(eC.1 j).1;have e1:((i+2:Nat):Int)-2=(i:Int):=by omega
 have e2:aY .sub (ι ((i+2:Nat):Int)) (ι 2)=some (ι (i:Int)):=by rw[rX ω,e1]
 have e3:tp B= .ds (dK B) 0 B.length 3:=by cases B with|nil=>simp at A|cons _ _=>rfl
 have e4:sub (dK B) (i*3) 1=some [.i .i64 (b.1:Int)]:=by have:=nQ j 0 1 ω;simpa[gH] using this
 simp only[Jd,bj5,bj6,bk0,bm9,↓dX E.ok,↓dE,↓dG,bI,dF,u,Nat.reduceEqDiff,reduceIte,eZ,fY,eD,e2,e3,A,e4,go_sem];exact⟨1,by simp[deep,pl,gy j,show¬(i+2<2) by omega]⟩
variable (S:aT P X GL ae)
def D3 (F:eV ae) {r} (j:In B n) (hb:B.length<=4096) h:bP P X GL 185 [eD (B,r),.i .i64 (n)] h (ι (pl B n)) h:=
 dR S (aw3 F j hb) (n:=9) (by simp only[aL,qU,bZ,deep]) h
variable {v:Nat}
def aw4 (F:eV ae) {r:Nat} (D:In B n) (hb:B.length<=4096) (G:v<64):bg P X GL ae 481 [eD (B,r),.i .i64 (n),.i .i64 (v)] (.tu [.i .i64 (lo B n v),.i .i64 (hi B n v)]):=by
 refine bg.intro λC E=> ?_;rw[ke E.ok (E.get F.f481)];simp only[Qc,Qb,bI9,bJ0,bJ1,bJ2,↓dX E.ok,↓dE,↓dG,bI,dF,Nat.reduceEqDiff,Nat.reduceAdd,reduceIte,eZ,fY,eD,go_sem];refine E.cN (D3 S F D hb _) ?_;rcases D.cases with h1|⟨i,b,rfl,j⟩;have e:((pl B n:Nat):Int)=64:=by simp[pl,h1]
 have e2:¬((64:Int)=(v:Int)):=by omega
 simp only[↓dX E.ok,↓dE,↓dG,bI,dF,e,e2,Nat.reduceEqDiff,reduceIte,go_sem];exact⟨1,by simp[deep,lJ,tg,tF h1,tG h1]⟩;have A:i<B.length:=(eC.1 j).1;have e:((pl B (i+2):Nat):Int)=(b.1:Int):=by simp[pl,gy j,show¬(i+2<2) by omega]
 by_cases e2:b.1=v;have u:((b.1:Nat):Int)=(v:Int):=by omega
 have e5:aY .sub (ι ((i+2:Nat):Int)) (ι 2)=some (ι (i:Int)):=by rw[rX ω];congr 2;omega
 have e3:tp B= .ds (dK B) 0 B.length 3:=by cases B with|nil=>simp at A|cons _ _=>rfl
 have e4:sub (dK B) (i*3+1) 1=some [.i .i64 (b.2.1:Int)]:=by have:=nQ j 1 1 ω;simpa[gH] using this
 have e6:sub (dK B) (i*3+2) 1=some [.i .i64 (b.2.2:Int)]:=by have:=nQ j 2 1 ω;simpa[gH] using this
 simp only[↓dX E.ok,↓dE,↓dG,bI,dF,e,u,e3,e4,e5,e6,A,Nat.reduceEqDiff,reduceIte,go_sem];exact⟨1,by simp[deep,lJ,tg,pb j,Gu j,e2]⟩;have u:¬(((b.1:Nat):Int)=(v:Int)):=by omega
 simp only[↓dX E.ok,↓dE,↓dG,bI,dF,e,u,Nat.reduceEqDiff,reduceIte,go_sem];exact⟨1,by simp[deep,lJ,tg,pb j,Gu j,e2]⟩
def Iy (F:eV ae) {r:Nat} (j:In B n) (hb:B.length<=4096) (u:v<64) h:bP P X GL 481 [eD (B,r),.i .i64 (n),.i .i64 (v)] h (.tu [.i .i64 (lo B n v),.i .i64 (hi B n v)]) h:=
 dR S (aw4 S F j hb u) (n:=9) (by simp only[aL,qU,bZ,deep]) h
attribute [go_sem] yF
def eB (b:Br):AV:= .ag [.i .i64 (b.1:Int),.i .i64 (b.2.1:Int),.i .i64 (b.2.2:Int)]
def eN (n:Nat):AV:= .i .i64 (n:Int)
def yG:rZ eB t3 where
 eq:=λa b=>by
  have:=Hd.eq ((a.1:Int),(a.2.1:Int),(a.2.2:Int)) ((b.1:Int),(b.2.1:Int),(b.2.2:Int));refine this.trans ?_;obtain⟨a1,a2,a3⟩:=a;obtain⟨j,b2,b3⟩:=b;congr 1;rw[decide_eq_decide];simp only[xK];omega
 q:=λa=>Hd.q ((a.1:Int),(a.2.1:Int),(a.2.2:Int))
 self:=λa=>Hd.self ((a.1:Int),(a.2.1:Int),(a.2.2:Int))
def iJ:Nat ->List Br ->List (Br×Nat)
 |_,[]=>[]
 |i,b::B=>(b,i+2)::iJ (i+1) B
def Q7:∀(B C:List Br) (i),iJ i (B++C)=iJ i B++iJ (i+B.length) C
 |[],C,i=>by simp[iJ]
 |b::B,C,i=>by simp only[gw,iJ,Q7 B C (i+1),gJ];rw[show i+(B.length+1)=i+1+B.length by omega]
def Iz:∀B i b,(∀n,look b (iJ i B)=some n ->∃j,n=i+j+2/\ B[j]? =some b)/\ (look b (iJ i B)=none ->∀j:Nat,B[j]?≠some b)
 |[],i,b=>⟨λn h=>by simp[iJ,look] at h,λ_ j h=>by simp at h⟩
 |a::B,i,b=>by
  obtain⟨h1,h2⟩:=Iz B (i+1) b;by_cases e:b=a;subst e;exact⟨λn h=>by simp[iJ,look] at h;exact⟨0,by omega,rfl⟩,λh=>by simp[iJ,look] at h⟩;refine⟨λn h=> ?_,λh j=> ?_⟩;simp only[iJ,look,aD e] at h;obtain⟨j,e1,e2⟩:=h1 n h;exact⟨j+1,by omega,by simpa using e2⟩;simp only[iJ,look,aD e] at h;rcases j with _|j;simp;exact λh=>e h.symm;simpa using h2 h j
def gN (g:Nat ->Option bC) (o:Nat) (B:List Br) (a:AV):Prop:=(B=[]/\ a= .sn)∨(B≠[]/\ a= .sl o 0 B.length none 3/\∃v,g o=some (.cells v (dK B)))
structure BS (p q:Nat) (B:List Br) (o:Nat) (h:AH):Prop where
 known:yh eB eN h p (iJ 0 B)
 cell:∃v a,h.oB.get q=some (.cells v [a,.m p])/\ gN h.oB.get o B a
structure BF (p q:Nat) (o:Nat) (h:AH) (o':Nat) (h':AH):Prop where
 next:h.next<=h'.next
 same:∀j,j<h.next ->j≠p ->j≠q ->j≠o ->h'.oB.get j=h.oB.get j
 new:o'=o∨h.next<=o'
variable {C:aK Prop} (E:Sem P X GL ae C)
variable {o:Nat}
def aw5 (F:eV ae) {p q m ver ob} (bs:BS p q B o ⟨m+17,ver,ob⟩) (hp:p<17) (hq:q<17) (d1:p≠q) (ho:B≠[] ->o<m+17/\ o≠p/\ o≠q) {l u}
 (eQ:B.length+1<=1048576) (k)
 (hk:∀r B' o' h',BS p q B' o' h' ->BF p q o ⟨m+17,ver,ob⟩ o' h' ->(B'≠[] ->o'<h'.next/\ o'≠p/\ o'≠q) ->
  (l=u/\ r=l/\ B'=B)∨(l≠u/\∃i:Nat,r=i+2/\ B'[i]? =some (v,l,u)/\ (B'=B∨(B'=B++[(v,l,u)]/\∀j:Nat,B[j]?≠some (v,l,u)))) ->k (ι (r)) h'):
 du C 482 [.p q 0,.i .i64 (v),.i .i64 (l),.i .i64 (u)] ⟨m+17,ver,ob⟩ k:=by
 rw[ke E.ok (E.get F.f482)];by_cases e:l=u;have e':((l:Int)=(u:Int))=True:=cJ;simp only[yD,yA,yB,PX,PY,PZ,DJ,HY,DK,P0,P1,tJ,↓dX E.ok,↓dE,↓dG,bI,dF,e',Nat.reduceEqDiff,Nat.reduceAdd,reduceIte,eZ,fY,go_sem];exact hk l B o _ bs ⟨bB _,λ_ _ _ _ _=>rfl,.inl rfl⟩ (λhb=>⟨(ho hb).1,(ho hb).2⟩) (.inl ⟨e,rfl,rfl⟩);have e':((l:Int)=(u:Int))=False:=av;obtain⟨D,hg⟩:=bs.known;obtain⟨Y,a,hc,hn⟩:=bs.cell;have J:ob.get q=some (.cells Y [a,.m p]):=hc;have L:ob.get p=some (.map D (di eB eN 0 (iJ 0 B)) (iJ 0 B).length):=hg;have n1:(q=m+17)=False:=av;have n2:(p=m+17)=False:=av;have n3:(q=m+18)=False:=av;have n4:(p=m+18)=False:=av;have n5:(q=m+19)=False:=av;have n6:(p=m+19)=False:=av;have O:(m+17=p)=False:=av;have b8:(m+18=p)=False:=av;have R:(m+19=p)=False:=av;have U:(m+17=q)=False:=av;have c6:(m+18=q)=False:=av;have W:(m+19=q)=False:=av;have s1:(m=m+1)=False:=av;have s2:(m=m+2)=False:=av;have n7:(q=p)=False:=av;have n8:(p=q)=False:=av;have lk:∀A ob' (ev:MA ->AV),T.get ob' p=some (.map D (di eB eN 0 (iJ 0 B)) (iJ 0 B).length) ->ev (.t 24)= .m p ->ev (.t 25)= .ag [.i .i64 (v:Int),.i .i64 (l:Int),.i .i64 (u:Int)] ->
  step ev ⟨m+17+1,A,ob'⟩ (.look t3 (.t 24) (.t 25) (ι 0) true)= .v (Bb eN (ι 0) (look (v,l,u) (iJ 0 B))) ⟨m+17+1,A,ob'⟩:=
  λA ob' ev G H I=>uQ (k:=(v,l,u)) (z:= .i .i64 0) yG (h:=⟨m+17+1,A,ob'⟩) ⟨D,G⟩ H I
 have b3:∀A ob' (ev:MA ->AV),cG (T.get ob' (m+18))=some [.i .i64 (v:Int),.i .i64 (l:Int),.i .i64 (u:Int)] ->ev (.t 35)= .sn ->ev (.t 37)= .sl (m+18) 0 1 (some 1) 3 ->
  step ev ⟨m+17+1+1,A,ob'⟩ (.app (.t 35) (.t 37) 3 24)= .v (.sl (m+19) 0 1 none 3) ⟨m+17+1+1+1,A,ob'.put (m+19) (.cells A [.i .i64 (v:Int),.i .i64 (l:Int),.i .i64 (u:Int)])⟩:=
  λA ob' ev G H I=>Hf (h:=⟨m+17+1+1,A,ob'⟩) H I (wG.trans G) rfl rfl
 have b4:∀A ob' (ev:MA ->AV),cG (T.get ob' (m+18))=some [.i .i64 (v:Int),.i .i64 (l:Int),.i .i64 (u:Int)] ->cG (T.get ob' o)=some (dK B) ->ev (.t 35)= .sl o 0 B.length none 3 ->ev (.t 37)= .sl (m+18) 0 1 (some 1) 3 ->
  step ev ⟨m+17+1+1,A,ob'⟩ (.app (.t 35) (.t 37) 3 24)= .v (.sl (m+19) 0 (B.length+1) none 3) ⟨m+17+1+1+1,A+1,(ob'.put o .gone).put (m+19) (.cells (A+1) (dK B++[.i .i64 (v:Int),.i .i64 (l:Int),.i .i64 (u:Int)]))⟩:=
  λA ob' ev G q0 H I=>He (h:=⟨m+17+1+1,A,ob'⟩) H (wG.trans q0) (DZ B) I (wG.trans G) rfl rfl eQ
 have mu:∀A ob' (ev:MA ->AV),T.get ob' p=some (.map D (di eB eN 0 (iJ 0 B)) (iJ 0 B).length) ->ev (.t 50)= .m p ->ev (.t 51)= .ag [.i .i64 (v:Int),.i .i64 (l:Int),.i .i64 (u:Int)] ->ev (.t 52)= .i .i64 ((B.length+2:Nat):Int) ->
  step ev ⟨m+17+1+1+1,A,ob'⟩ (.mupd t3 (.t 50) (.t 51) (.t 52))= .v .un ⟨m+17+1+1+1,A+1,ob'.put p (.map (A+1) (di eB eN 0 (ups (v,l,u) (B.length+2) (iJ 0 B))) (ups (v,l,u) (B.length+2) (iJ 0 B)).length)⟩:=
  λA ob' ev G H I q4=>mL (k:=(v,l,u)) (v:=B.length+2) yG (h:=⟨m+17+1+1+1,A,ob'⟩) ⟨D,G⟩ H I q4
 unfold t3 at lk mu;cases Z:look (v,l,u) (iJ 0 B) with
 |some n=>
  simp only[yD,yA,yB,PX,PY,PZ,DJ,HY,DK,P0,P1,tJ,↓dX E.ok,↓dE,↓dG,bI,dF,e',J,L,n1,n2,Nat.reduceEqDiff,Nat.reduceAdd,reduceIte,eZ,fY,lk,Z,Bb,eN,go_sem];obtain⟨j,c7,b5⟩:=(Iz B 0 (v,l,u)).1 n Z;refine hk n B o _ ⟨⟨D,?_⟩,Y,a,?_,?_⟩ ⟨by show m+17<=m+17+1;omega,λi h1 _ _ _=> ?_,.inl rfl⟩ (λhb=>⟨by have:=(ho hb).1;show o<m+17+1;omega,(ho hb).2⟩) (.inr ⟨e,j,by omega,b5,.inl rfl⟩);simp only[T.get_put,n2,bV];exact L;simp only[T.get_put,n1,bV];exact J;rcases hn with hn|⟨h1,h2,v3,h3⟩;exact .inl hn;refine .inr ⟨h1,h2,v3,?_⟩;have:(o=m+17)=False:=dQ (by have:=(ho h1).1;omega);simp only[T.get_put,this,bV];exact h3;have:(i=m+17)=False:=dQ (by have b0:i<m+17:=h1;omega);simp only[T.get_put,this,bV]
 |none=>
  have N:=(Iz B 0 (v,l,u)).2 Z;have b6:ups (v,l,u) (B.length+2) (iJ 0 B)=iJ 0 (B++[(v,l,u)]):=by rw[yg Z,Q7];simp[iJ]
  rw[b6] at mu;rcases hn with ⟨hB,ha⟩|⟨hB,ha,b2,b7⟩;subst ha;have ad:aY .add (ι ((1:Nat):Int)) (ι 1)=some (ι ((B.length+2:Nat):Int)):=by rw[wD ω];subst hB;rfl
  simp only[yD,yA,yB,PX,PY,PZ,DJ,HY,DK,P0,P1,tJ,↓dX E.ok,↓dE,↓dG,bI,dF,e',J,L,n1,n2,n3,n4,n5,n6,n7,n8,O,U,s1,s2,b3,ad,mu,Nat.reduceEqDiff,Nat.reduceAdd,Nat.reduceShiftRight,Nat.reduceAnd,Nat.reduceBneDiff,reduceIte,eZ,fY,lk,Z,Bb,go_sem];refine hk (B.length+2) (B++[(v,l,u)]) (m+19) _ ⟨⟨ver+1+1+1+1,?_⟩,ver+1+1+1,.sl (m+19) 0 1 none 3,?_,.inr ⟨by simp,by subst hB;rfl,ver+1+1,?_⟩⟩ ⟨by show m+17<=m+17+1+1+1;omega,λi h1 h2 h3 _=> ?_,.inr (by show m+17<=m+19;omega)⟩
   (λ_=>⟨by show m+19<m+17+1+1+1;omega,by omega,by omega⟩) (.inr ⟨e,B.length,rfl,by simp,.inr ⟨rfl,N⟩⟩)
  simp only[T.get_put,dZ];simp only[T.get_put,n7,bV,dZ];simp only[T.get_put,R,W,bV,dZ];subst hB;rfl;have b0:i<m+17:=h1;have G:(i=m+17)=False:=av;have H:(i=m+18)=False:=av;have I:(i=m+19)=False:=av;have q4:(i=p)=False:=dQ h2;have q5:(i=q)=False:=dQ h3;simp only[T.get_put,G,H,I,q4,q5,bV];subst ha;have d0:=ho hB;have b1:ob.get o=some (.cells b2 (dK B)):=b7;have o1:(o=m+17)=False:=av;have o2:(o=m+18)=False:=av;have o3:(o=m+19)=False:=av;have o4:(m+17=o)=False:=av;have o5:(m+18=o)=False:=av;have o6:(m+19=o)=False:=av;have o7:(p=o)=False:=av;have o8:(q=o)=False:=av;have ad:aY .add (ι ((B.length+1:Nat):Int)) (ι 1)=some (ι ((B.length+2:Nat):Int)):=by rw[wD ω];congr 2
  simp only[yD,yA,yB,PX,PY,PZ,DJ,HY,DK,P0,P1,tJ,↓dX E.ok,↓dE,↓dG,bI,dF,e',J,L,n1,n2,n3,n4,n5,n6,n7,n8,O,U,s1,s2,b4,ad,mu,b1,o1,o2,o4,o7,o8,Nat.reduceEqDiff,Nat.reduceAdd,Nat.reduceShiftRight,Nat.reduceAnd,Nat.reduceBneDiff,reduceIte,eZ,fY,lk,Z,Bb,go_sem];refine hk (B.length+2) (B++[(v,l,u)]) (m+19) _ ⟨⟨ver+1+1+1+1+1,?_⟩,ver+1+1+1+1,.sl (m+19) 0 (B.length+1) none 3,?_,.inr ⟨by simp,by simp,ver+1+1+1,?_⟩⟩ ⟨by show m+17<=m+17+1+1+1;omega,λi h1 h2 h3 h4=> ?_,.inr (by show m+17<=m+19;omega)⟩
   (λ_=>⟨by show m+19<m+17+1+1+1;omega,by omega,by omega⟩) (.inr ⟨e,B.length,rfl,by simp,.inr ⟨rfl,N⟩⟩)
  simp only[T.get_put,dZ];simp only[T.get_put,n7,bV,dZ];simp only[T.get_put,R,W,bV,dZ,Ix];rfl;have b0:i<m+17:=h1;have G:(i=m+17)=False:=av;have H:(i=m+18)=False:=av;have I:(i=m+19)=False:=av;have q4:(i=p)=False:=dQ h2;have q5:(i=q)=False:=dQ h3;have q6:(i=o)=False:=dQ h4;simp only[T.get_put,G,H,I,q4,q5,q6,bV]
def cY (g:Bool ->Bool ->Bool):Tr ->Tr ->Tr
 | .c a,.c b=> .c (g a b)
 | .n a b,.n c d=> .n (cY g a c) (cY g b d)
 |t,_=>t
def nR (g:Bool ->Bool ->Bool) (NA NB B:List Br) (x y r:Nat):Prop:=
 In B r/\∀k,k<=3 ->3-k<=bR NA x ->3-k<=bR NB y ->3-k<=bR B r/\ tr B k r=cY g (tr NA k x) (tr NB k y)
variable {NA NB:List Br}
def nR.ext {g} (ok:OK B) {x y r} (h:nR g NA NB B x y r) (C:List Br):nR g NA NB (B++C) x y r:=
 ⟨h.1.ext,λk h1 h2 j=>by rw[AU h.1,Hs ok k r h.1];exact h.2 k h1 h2 j⟩
def IA (g:Bool ->Bool ->Bool) (NA NB B:List Br) (M:List (Br×Nat)):Prop:=∀x y r,look (x,y,0) M=some r ->In NA x ->In NB y ->nR g NA NB B x y r
theorem Fh {κ ν} [DecidableEq κ] {k k' v}:∀{l:List (κ×ν)},look k' (ups k v l)=if k'=k then some v else look k' l
 |[]=>by simp[ups,look]
 |(a,b)::l=>by
  by_cases e:k=a;subst e;by_cases e2:k'=k<;>simp[ups,look,e2];simp only[ups,aD e,look,Fh (l:=l)];by_cases e2:k'=a;have:¬k'=k:=λh=>e (h▸e2);simp[e2];intro h;exact bh h.symm e;simp[e2]
structure CS (NA NB:List Br) (ra rb:Nat) (opf:AV) (B:List Br) (o:Nat) (M:List (Br×Nat)) (h:AH):Prop where
 bs:BS 11 12 B o h
 c5:cG (h.oB.get 5)=some [opf]
 c8:cG (h.oB.get 8)=some [tp NA,.i .i64 (ra:Int),tp NB,.i .i64 (rb:Int),.sn,.i .i64 0]
 c9:cG (h.oB.get 9)=some [.f 399 [] [.p 5 0]]
 c13:cG (h.oB.get 13)=some [.p 12 0]
 memo:yh eB eN h 14 M
 c15:cG (h.oB.get 15)=some [.m 14]
 c16:cG (h.oB.get 16)=some [.f 480 [] [.p 9 0,.p 15 0,.p 8 0,.p 16 0,.p 13 0]]
 next:17<=h.next
 nodes:B≠[] ->17<=o/\ o<h.next
structure CF (o:Nat) (h:AH) (o':Nat) (h':AH):Prop where
 next:h.next<=h'.next
 same:∀j,17<=j ->j<h.next ->j≠o ->h'.oB.get j=h.oB.get j
 new:o'=o∨h.next<=o'
 old:∀j,j<11 ->h'.oB.get j=h.oB.get j
variable {h:AH}
def CF.refl:CF o h o h:=⟨bB _,λ_ _ _ _=>rfl,.inl rfl,λ_ _=>rfl⟩
variable {o':Nat}
def CF.trans {o'' h' h''} (a:CF o h o' h') (b:CF o' h' o'' h''):CF o h o'' h'':=
 ⟨fJ a.next b.next,λj h1 h2 h3=>by
  rw[b.same j h1 (iR h2 a.next) (by
   rcases a.new with e|e;·rw[e];exact h3
   ·omega),a.same j h1 h2 h3],
  by
   rcases b.new with e|e
   ·rcases a.new with e2|e2
    ·exact .inl (e.trans e2)
    ·exact .inr ω
   ·exact .inr (fJ a.next e),λj hj=>(b.old j hj).trans (a.old j hj)⟩
def iz {t:T bC} {i j x} (h:j≠i):(t.put i x).get j=t.get j:=by rw[T.get_put,aD h]
variable {ra:Nat} {opf:AV}
def CS.put {rb M t} (c:CS NA NB ra rb opf B o M ⟨n,v,t⟩) {i n' v' ob} (hi:17<=i) (A:B≠[] ->i≠o) (u:n<=n'):
 CS NA NB ra rb opf B o M ⟨n',v',t.put i ob⟩ where
 bs:=by
  obtain⟨⟨D,h1⟩,G,a,h2,j⟩:=c.bs;refine⟨⟨D,by show(t.put i ob).get 11=_;rw[iz ω];exact h1⟩,G,a,by show(t.put i ob).get 12=_;rw[iz ω];exact h2,?_⟩;rcases j with j|⟨e1,e2,H,e3⟩;exact .inl j;exact .inr ⟨e1,e2,H,by show(t.put i ob).get o=_;rw[iz (λh=>A e1 h.symm)];exact e3⟩
 c5:=by show cG ((t.put i ob).get 5)=_;rw[iz ω];exact c.c5
 c8:=by show cG ((t.put i ob).get 8)=_;rw[iz ω];exact c.c8
 c9:=by show cG ((t.put i ob).get 9)=_;rw[iz ω];exact c.c9
 c13:=by show cG ((t.put i ob).get 13)=_;rw[iz ω];exact c.c13
 memo:=by obtain⟨w,h⟩:=c.memo;exact⟨w,by show(t.put i ob).get 14=_;rw[iz ω];exact h⟩
 c15:=by show cG ((t.put i ob).get 15)=_;rw[iz ω];exact c.c15
 c16:=by show cG ((t.put i ob).get 16)=_;rw[iz ω];exact c.c16
 next:=fJ c.next u
 nodes:=λh=>⟨(c.nodes h).1,iR (c.nodes h).2 u⟩
def yH (C:aK Prop) (opf:AV) (g:Bool ->Bool ->Bool):Prop:=∃f,opf= .f f [] []/\∀x y h k,k (.b (g x y)) h ->hM C f [.b x,.b y] h k
def aw6 (F:eV ae):yH C (.f 264 [] []) (λx y=>x&&y):=by
 refine⟨264,rfl,λx y h k j=>E.run ?_⟩;rw[ke E.ok (E.get F.f264)];cases x<;>cases y<;>
  (simp only[bL7,bL6,↓dX E.ok,↓dE,↓dG,bI,dF,Nat.reduceEqDiff,reduceIte,eZ,fY,go_sem];exact j)
def aw7 (F:eV ae):yH C (.f 267 [] []) (λx y=>x||y):=by
 refine⟨267,rfl,λx y h k j=>E.run ?_⟩;rw[ke E.ok (E.get F.f267)];cases x<;>cases y<;>
  (simp only[PP,bM0,↓dX E.ok,↓dE,↓dG,bI,dF,Nat.reduceEqDiff,reduceIte,eZ,fY,go_sem];exact j)
def aw8 (F:eV ae) {g} (j:yH C opf g) {t} (u:cG (t.get 5)=some [opf]) {x y z k} (D:k (.b (g x y)) ⟨n,v,t⟩):
 hM C 399 [.b x,.b y,.b z,.p 5 0] ⟨n,v,t⟩ k:=by
 obtain⟨f,rfl,A⟩:=j;refine E.run ?_;rw[ke E.ok (E.get F.f399)];simp only[Qh,Qd,↓dX E.ok,↓dE,↓dG,bI,dF,u,Nat.reduceEqDiff,Nat.reduceAdd,reduceIte,eZ,fY,go_sem];exact A _ _ _ _ D
def IB {g x y r1 r2 r} (ax:OK NA) (u:OK NB) (ok:OK B) (J:In NA x) (L:In NB y) (hv:min (bR NA x) (bR NB y)=v) (A:v<3)
 (h1:nR g NA NB B (lo NA x v) (lo NB y v) r1) (h2:nR g NA NB B (hi NA x v) (hi NB y v) r2) (G:(r1=r2/\ r=r1)∨(∃i:Nat,r=i+2/\ B[i]? =some (v,r1,r2))):nR g NA NB B x y r:=by
 have lx:=si ax (v:=v) J ω A;have ly:=si u (v:=v) L ω A;have mx:=sj ax (v:=v) J ω A;have my:=sj u (v:=v) L ω A;obtain⟨j,U⟩:∃j,v=2-j/\ j<=2:=⟨2-v,by omega,by omega⟩;have a1:=h1.2 j ω ω ω;have a2:=h2.2 j ω ω ω;have D:In B r:=by
  rcases G with ⟨_,rfl⟩|⟨i,rfl,hb⟩;exact h1.1;exact In.of hb
 have Z:v<=bR B r:=by
  rcases G with ⟨_,rfl⟩|⟨i,rfl,hb⟩;omega;rw[gy hb];exact bB _
 have I:lo B r v=r1:=by
  rcases G with ⟨_,rfl⟩|⟨i,rfl,hb⟩;exact((uS ok h1.1 A).2 ω).1;rw[pb hb,aF rfl]
 have H:hi B r v=r2:=by
  rcases G with ⟨rfl,rfl⟩|⟨i,rfl,hb⟩;exact((uS ok h1.1 A).2 ω).2;rw[Gu hb,aF rfl]
 refine⟨D,?_⟩;have up:∀i,j+1+i<=3 ->tr B (j+1+i) r=cY g (tr NA (j+1+i) x) (tr NB (j+1+i) y):=by
  intro i;induction i with
  |zero=>
   intro _;show Tr.n (tr B j (lo B r (2-j))) (tr B j (hi B r (2-j)))=cY g (.n (tr NA j (lo NA x (2-j))) (tr NA j (hi NA x (2-j)))) (.n (tr NB j (lo NB y (2-j))) (tr NB j (hi NB y (2-j))));rw[←U.1,I,H,a1.2,a2.2];rfl
  |succ i Y=>
   intro R;have e:=Y ω;have p1:=(uS ok D (v:=2-(j+1+i)) ω).2 ω;have N:=(uS ax J (v:=2-(j+1+i)) ω).2 ω;have O:=(uS u L (v:=2-(j+1+i)) ω).2 ω;show Tr.n (tr B (j+1+i) (lo B r (2-(j+1+i)))) (tr B (j+1+i) (hi B r (2-(j+1+i))))=cY g (.n (tr NA (j+1+i) (lo NA x (2-(j+1+i)))) (tr NA (j+1+i) (hi NA x (2-(j+1+i))))) (.n (tr NB (j+1+i) (lo NB y (2-(j+1+i)))) (tr NB (j+1+i) (hi NB y (2-(j+1+i)))));rw[p1.1,p1.2,N.1,N.2,O.1,O.2,e];rfl
 intro k W k1 k2;obtain⟨i,rfl⟩:∃i,k=j+1+i:=⟨k-(j+1),by omega⟩;exact⟨by omega,up i W⟩
def CS.memoPut {rb M M' t} (c:CS NA NB ra rb opf B o M ⟨n,v,t⟩) {v' w} (u:B=[] ->o=11):
 CS NA NB ra rb opf B o M' ⟨n,v',t.put 14 (.map w (di eB eN 0 M') M'.length)⟩ where
 bs:=by
  obtain⟨⟨A,h1⟩,D,a,h2,j⟩:=c.bs;refine⟨⟨A,by show(t.put 14 _).get 11=_;rw[iz ω];exact h1⟩,D,a,by show(t.put 14 _).get 12=_;rw[iz ω];exact h2,?_⟩;rcases j with j|⟨e1,e2,G,e3⟩;exact .inl j;exact .inr ⟨e1,e2,G,by show(t.put 14 _).get o=_;rw[iz (by have:=(c.nodes e1).1;omega)];exact e3⟩
 c5:=by show cG ((t.put 14 _).get 5)=_;rw[iz ω];exact c.c5
 c8:=by show cG ((t.put 14 _).get 8)=_;rw[iz ω];exact c.c8
 c9:=by show cG ((t.put 14 _).get 9)=_;rw[iz ω];exact c.c9
 c13:=by show cG ((t.put 14 _).get 13)=_;rw[iz ω];exact c.c13
 memo:=⟨w,by show(t.put 14 _).get 14=_;rw[T.get_put,aF rfl]⟩
 c15:=by show cG ((t.put 14 _).get 15)=_;rw[iz ω];exact c.c15
 c16:=by show cG ((t.put 14 _).get 16)=_;rw[iz ω];exact c.c16
 next:=c.next
 nodes:=c.nodes
def CS.branch {rb B' M h'} (c:CS NA NB ra rb opf B o M h) (D:o=11∨17<=o) (bs:BS 11 12 B' o' h') (A:BF 11 12 o h o' h')
 (I:B'≠[] ->o'<h'.next/\ o'≠11/\ o'≠12):CS NA NB ra rb opf B' o' M h':=by
 have u:∀j,j<17 ->j≠11 ->j≠12 ->h'.oB.get j=h.oB.get j:=λj h1 h2 G=>A.same j (by have:=c.next;omega) h2 G ω;exact {
  bs:=bs
  c5:=by rw[u 5 ω ω ω];exact c.c5
  c8:=by rw[u 8 ω ω ω];exact c.c8
  c9:=by rw[u 9 ω ω ω];exact c.c9
  c13:=by rw[u 13 ω ω ω];exact c.c13
  memo:=by obtain⟨w,H⟩:=c.memo;exact⟨w,by rw[u 14 ω ω ω];exact H⟩
  c15:=by rw[u 15 ω ω ω];exact c.c15
  c16:=by rw[u 16 ω ω ω];exact c.c16
  next:=fJ c.next A.next
  nodes:=λhb=>by
   have h1:=I hb;refine⟨?_,h1.1⟩;rcases A.new with e|e;rcases D with h2|h2;rw[e,h2] at h1;exact bh rfl h1.2.1;omega;have:=c.next;omega }
def CF.branch {o2 u A} (a:CF o h o2 u) (b:BF 11 12 o2 u o' A) (G:o2=11∨17<=o2) (D:17<=u.next):CF o h o' A:=
 a.trans ⟨b.next,λj h1 h2 u=>b.same j h2 ω ω u,b.new,λj h1=>b.same j ω ω ω ω⟩
def CF.small {t v' i ob} (a:CF o h o' ⟨n,v,t⟩) (hi:11<=i/\ i<17):CF o h o' ⟨n,v',t.put i ob⟩:=
 ⟨a.next,λj h1 h2 u=>by show(t.put i ob).get j=_;rw[iz ω];exact a.same j h1 h2 u,a.new,λj h1=>by show(t.put i ob).get j=_;rw[iz ω];exact a.old j h1⟩
def CF.moved {j h'} (a:CF o h o' h') (u:j=o∨h.next<=j):CF o h j h':=⟨a.next,a.same,u,a.old⟩
def CS.moved {rb M} (c:CS NA NB ra rb opf [] o M h):CS NA NB ra rb opf [] o' M h:=
 {
  c with
  bs:=by
   obtain⟨a1,u,a,h2,j⟩:=c.bs;refine⟨a1,u,a,h2,?_⟩;rcases j with j|⟨e1,_⟩;exact .inl j;exact bh rfl e1
  nodes:=λh=>bh rfl h }
def Q8 {g B' x y r1 r2 r} (ax:OK NA) (u:OK NB) (ok:OK B) (H:In NA x) (I:In NB y) (L:min (bR NA x) (bR NB y)=v) (A:v<3)
 (h1:nR g NA NB B (lo NA x v) (lo NB y v) r1) (h2:nR g NA NB B (hi NA x v) (hi NB y v) r2)
 (spec:(r1=r2/\ r=r1/\ B'=B)∨(r1≠r2/\∃i:Nat,r=i+2/\ B'[i]? =some (v,r1,r2)/\ (B'=B∨(B'=B++[(v,r1,r2)]/\∀j:Nat,B[j]?≠some (v,r1,r2))))):
 OK B'/\ nR g NA NB B' x y r/\ (∃D,B'=B++D)/\ B'.length<=B.length+1:=by
 have U:=si ax (v:=v) H ω A;have W:=si u (v:=v) I ω A;have mx:=sj ax (v:=v) H ω A;have Y:=sj u (v:=v) I ω A;have O:=(h1.2 (2-v) ω ω ω).1;have R:=(h2.2 (2-v) ω ω ω).1;rcases spec with ⟨e1,e2,rfl⟩|⟨N,i,e2,hi,e3⟩;exact⟨ok,IB ax u ok H I L A h1 h2 (.inl ⟨e1,e2⟩),⟨[],by simp⟩,by omega⟩;rcases e3 with rfl|⟨rfl,G⟩;exact⟨ok,IB ax u ok H I L A h1 h2 (.inr ⟨i,e2,hi⟩),⟨[],by simp⟩,by omega⟩;have J:=OK.add ok A h1.1 h2.1 ω ω N G;exact⟨J,IB ax u J H I L A (h1.ext ok _) (h2.ext ok _) (.inr ⟨i,e2,hi⟩),⟨[(v,r1,r2)],rfl⟩,by simp⟩
def aw9 {a b c:Nat} {ev x y z} (e1:ev x= .i .i64 (a)) (e2:ev y= .i .i64 (b)) (e3:ev z= .i .i64 (c)):step ev h (.min [x,y,z])= .v (ι ((min (min a b) c:Nat):Int)) h:=by
 have u:step ev h (.min [x,y,z])=(match eE ev [x,y,z] with|some (.i k a::r)=>dr h (jy fD k r a)|_=> .bad):=rfl;have j:∀(p q r:Int),jy fD .i64 [.i .i64 q,.i .i64 r] p=(bif fD q p then (bif fD r q then some (ι r) else some (ι q)) else (bif fD r p then some (ι r) else some (ι p))):=λp q r=>rfl;rw[u];simp only[wC,wy,e1,e2,e3,qH,j,mI,rM,dr];by_cases h1:(b:Int)<(a:Int);rw[aF h1];by_cases h2:(c:Int)<(b:Int);rw[aF h2];dsimp only;congr 2;omega;rw[aD h2];dsimp only;congr 2;omega;rw[aD h1];by_cases h2:(c:Int)<(a:Int);rw[aF h2];dsimp only;congr 2;omega;rw[aD h2];dsimp only;congr 2;omega
def D4:aw:= .seq bn3 (.seq bn4 (.seq bn5 .ret))
def ax0 (u:lQ C) {f a k k'} (A:∀v h,k v h ->k' v h) (j:hM C f a h k):hM C f a h k':=by
 obtain⟨n,j⟩:=j;exact⟨n,(c1 u n f a h).mono (k:=λq=>k q.1 q.2) (k':=λq=>k' q.1 q.2) (λq=>A _ _) j⟩
def ax1 (F:eV ae) {rb} (ax:OK NA) (Z:OK NB) (la:NA.length<=4096) (lb:NB.length<=4096)
 {x y m ver M ob k} (hx:In NA x) (hy:In NB y) (cs:CS NA NB ra rb opf B o M ⟨m+17,ver,ob⟩) (hc:¬(x<2/\ y<2)) (hl:look (x,y,0) M=none) {τ₀} (g1:τ₀.get 1=some (.p 9 0)) (g2:τ₀.get 2=some (.p 15 0)) (R:τ₀.get 3=some (.p 8 0)) (g4:τ₀.get 4=some (.p 16 0)) (g5:τ₀.get 5=some (.p 13 0)) (N:τ₀.get 6=some (.p (m+17) 0))
 (c7:min (bR NA x) (bR NB y)=v)
 (b8:∀Y ob',CS NA NB ra rb opf B o M ⟨m+17+1+1+1,Y,ob'⟩ ->(∀j,j<m+17 ->ob'.get j=ob.get j) ->cG (ob'.get (m+17))=some [.i .i64 (x),.i .i64 (y),.i .i64 0] ->
  cG (ob'.get (m+17+1+1))=some [.i .i64 (hi NA x v),.i .i64 (hi NB y v),.i .i64 0] ->
  hM C 480 [.ag [.i .i64 (lo NA x v),.i .i64 (lo NB y v),.i .i64 0],.p 9 0,.p 15 0,.p 8 0,.p 16 0,.p 13 0] ⟨m+17+1+1+1,Y,ob'⟩ (λa h'=>∀τ:T AV,τ.get 2=some (.p 15 0) ->τ.get 4=some (.p 16 0) ->τ.get 5=some (.p 13 0) ->
   τ.get 6=some (.p (m+17) 0) ->τ.get 10=some (ι (v)) ->τ.get 12=some (.p (m+17+1+1) 0) ->τ.get 14=some a ->
   gG C D4 (λe τ h=>match e with
    | .exit _=>False
    |_=>kQ k h (eZ τ h [(7,none)])) τ h')):
 gG C Qg (λe τ h=>match e with
  | .exit _=>False
  |_=>kQ k h (eZ τ h [(7,none)])) τ₀ ⟨m+17+1,ver,ob.put (m+17) (.cells ver [.i .i64 (x),.i .i64 (y),.i .i64 0])⟩:=by
 have c5:=cs.c5;have c8:=cs.c8;have c9:=cs.c9;have c13:=cs.c13;have c15:=cs.c15;have c16:=cs.c16;obtain⟨W,hm⟩:=cs.memo;dsimp only at c5 c8 c9 c13 c15 c16 hm;have u:fP (ι 0)=some 0:=rfl;have A:fP (ι 1)=some 1:=rfl;have D:fP (ι 2)=some 2:=rfl;have H:(0:Nat)<3:=by omega
 have I:(1:Nat)<3:=by omega
 have J:(2:Nat)<3:=by omega
 have cz:((0:Nat):Int)=0:=rfl;have z2:((0:Int)<2)=True:=cJ;have z1:((0:Int)=1)=False:=av;have d0:lo [] 0 v=0:=rfl;have c6:hi [] 0 v=0:=rfl;have b3:∀Y ob' (ev:MA ->AV),T.get ob' 14=some (.map W (di eB eN 0 M) M.length) ->ev (.t 41)= .m 14 ->ev (.t 42)= .ag [.i .i64 (x:Int),.i .i64 (y:Int),.i .i64 0] ->
  step ev ⟨m+17+1,Y,ob'⟩ (.look t3 (.t 41) (.t 42) (ι 0) true)= .v (Bb eN (ι 0) (look (x,y,0) M)) ⟨m+17+1,Y,ob'⟩:=
  λY ob' ev q1 q2 O=>uQ (k:=(x,y,0)) (z:= .i .i64 0) yG (h:=⟨m+17+1,Y,ob'⟩) ⟨W,q1⟩ q2 O
 unfold t3 at b3;have U:In ([]:List Br) 0:=In.small ω;have d1:=Id ax hx;have d2:=Id Z hy;have hv:min (min (pl NA x) (pl NB y)) 64=min (bR NA x) (bR NB y)/\ min (bR NA x) (bR NB y)<3:=by
  have q:∀(B':List Br) (z:Nat),OK B' ->In B' z ->(pl B' z=64/\ bR B' z=3)∨(pl B' z=bR B' z/\ bR B' z<3):=by
   intro B' z ok hz;rcases hz.cases with h1|⟨i,b,rfl,hb⟩;exact .inl ⟨by simp[pl,h1],oG h1⟩;refine .inr ⟨by simp[pl,show¬(i+2<2) by omega],?_⟩;rw[gy hb];exact ok.v _ _ hb
  have O:∀(B':List Br) (z:Nat),OK B' ->In B' z ->¬z<2 ->bR B' z<3:=by
   intro B' z ok hz h2;rcases hz.cases with h1|⟨i,b,rfl,hb⟩;exact bh h1 h2;rw[gy hb];exact ok.v _ _ hb
  rcases q NA x ax hx with h1|h1<;>rcases q NB y Z hy with h2|h2
  exfalso;apply hc;exact⟨uk λh=>by have:=O NA x ax hx h;omega,uk λh=>by have:=O NB y Z hy h;omega⟩;omega;omega;omega
 rw[c7] at hv;have s1:(m=m+1)=False:=av;have s2:(m=m+2)=False:=av;have s3:(m+1=m)=False:=av;have s4:(m+2=m)=False:=av;have G:v<64:=by have:=hv.2;omega
 have mn:∀h' (ev:MA ->AV),ev (.t 52)= .i .i64 (pl NA x:Int) ->ev (.t 57)= .i .i64 (pl NB y:Int) ->ev (.t 62)= .i .i64 ((64:Nat):Int) ->step ev h' (.min [.t 52,.t 57,.t 62])= .v (ι (v:Int)) h':=
  λh' ev q1 q2 O=>by rw[aw9 q1 q2 O,hv.1]
 have b7:pl [] 0=64:=rfl;have b0:aY .add (ι 0) (ι 1)=some (ι 1):=rfl;have b1:aY .add (ι 1) (ι 1)=some (ι 2):=rfl;have b2:aY .add (ι 2) (ι 1)=some (ι 3):=rfl;simp only[Qg,Uy,Uz,bJ6,g2,R,N,↓dX E.ok,↓dE,↓dG,bI,dF,c8,c15,u,A,D,H,I,J,hm,b3,hl,Bb,Nat.reduceEqDiff,Nat.reduceMul,Nat.reduceShiftRight,Nat.reduceAnd,Nat.reduceBneDiff,reduceIte,go_sem];refine E.cN (D3 S F (r:=ra) hx la _) ?_;simp only[R,N,↓dE,↓dG,bI,dF,c8,u,A,D,H,I,J,Nat.reduceEqDiff,Nat.reduceMul,Nat.reduceShiftRight,Nat.reduceAnd,Nat.reduceBneDiff,reduceIte,go_sem];refine E.cN (D3 S F (r:=rb) hy lb _) ?_;simp only[R,N,↓dE,↓dG,bI,dF,c8,u,A,D,H,I,J,Nat.reduceEqDiff,Nat.reduceMul,Nat.reduceShiftRight,Nat.reduceAnd,Nat.reduceBneDiff,reduceIte,go_sem];refine E.cN (D3 S F (B:=[]) (r:=0) (n:=0) U (by simp) _) ?_;simp only[bJ7,bJ8,↓dX E.ok,↓dE,↓dG,bI,dF,b7,mn,Nat.reduceEqDiff,reduceIte,go_sem];rw[uM E.ok];generalize hL:aw.loop (aw.seq Im Iq)=L;simp only[R,N,Im,Iq,UA,UQ,↓dX E.ok,↓dE,↓dG,bI,dF,c8,u,H,Int.reduceLT,s1,s2,Nat.reduceEqDiff,Nat.reduceShiftRight,Nat.reduceAnd,Nat.reduceBneDiff,reduceIte,go_sem];refine E.cN (Iy S F (r:=ra) (v:=v) hx la G _) ?_;simp only[R,N,XW,↓dX E.ok,↓dE,↓dG,bI,dF,c8,u,H,b0,s1,s2,s3,s4,Nat.reduceEqDiff,Nat.reduceShiftRight,Nat.reduceAnd,Nat.reduceBneDiff,reduceIte,go_sem];subst hL;rw[uM E.ok];generalize hL:aw.loop (aw.seq Im Iq)=L;simp only[R,N,Im,Iq,UA,UQ,↓dX E.ok,↓dE,↓dG,bI,dF,c8,A,I,Int.reduceLT,s1,s2,Nat.reduceEqDiff,Nat.reduceShiftRight,Nat.reduceAnd,Nat.reduceBneDiff,reduceIte,go_sem];refine E.cN (Iy S F (r:=rb) (v:=v) hy lb G _) ?_;simp only[R,N,XW,↓dX E.ok,↓dE,↓dG,bI,dF,c8,A,I,b1,s1,s2,s3,s4,Nat.reduceEqDiff,Nat.reduceShiftRight,Nat.reduceAnd,Nat.reduceBneDiff,reduceIte,go_sem];subst hL;rw[uM E.ok];generalize hL:aw.loop (aw.seq Im Iq)=L;simp only[R,N,Im,Iq,UA,UQ,↓dX E.ok,↓dE,↓dG,bI,dF,c8,D,J,Int.reduceLT,s1,s2,Nat.reduceEqDiff,Nat.reduceMul,Nat.reduceShiftRight,Nat.reduceAnd,Nat.reduceBneDiff,reduceIte,go_sem];refine E.cN (Iy S F (B:=[]) (r:=0) (n:=0) (v:=v) U (by simp) G _) ?_;simp only[R,N,XW,↓dX E.ok,↓dE,↓dG,bI,dF,c8,D,J,b2,s1,s2,s3,s4,Nat.reduceEqDiff,Nat.reduceMul,Nat.reduceShiftRight,Nat.reduceAnd,Nat.reduceBneDiff,reduceIte,go_sem];subst hL;rw[uM E.ok];generalize hL:aw.loop (aw.seq Im Iq)=L;rw[show bJ9=aw.seq bn2 D4 from rfl];simp only[g4,Im,Iq,bn2,d0,c6,↓dX E.ok,↓dE,↓dG,bI,dF,cz,c16,Int.reduceLT,s1,s3,Nat.reduceEqDiff,reduceIte,go_sem];refine ax0 E.ok (k:=λa h'=>∀τ:T AV,τ.get 2=some (.p 15 0) ->τ.get 4=some (.p 16 0) ->τ.get 5=some (.p 13 0) ->
  τ.get 6=some (.p (m+17) 0) ->τ.get 10=some (ι (v:Int)) ->τ.get 12=some (.p (m+17+1+1) 0) ->τ.get 14=some a ->
  gG C D4 (λe τ h=>match e with
   | .exit _=>False
   |_=>kQ k h (eZ τ h [(7,none)])) τ h') (λa h' hk=> ?_) (b8 _ _ ?_ ?_ ?_ ?_)
 refine hk _ ?_ ?_ ?_ ?_ ?_ ?_ ?_<;>simp only[T.get_put,g2,g4,g5,N,Nat.reduceEqDiff,reduceIte];have ho:∀i,17+m<=i ->B≠[] ->i≠o:=λi hi hb=>by have:=(cs.nodes hb).2;have h2:o<m+17:=this;omega
 have b4:=cs.put (i:=m+17) (n':=m+17+1) (v':=ver) (ob:= .cells ver [.i .i64 (x:Int),.i .i64 (y:Int),.i .i64 0]) ω (ho _ ω) ω;have b5:=b4.put (i:=m+17+1) (n':=m+17+1+1) (v':=ver) (ob:= .cells ver [.i .i64 0,.i .i64 0,.i .i64 0]) ω (ho _ ω) ω;have b6:=b5.put (i:=m+17+1+1) (n':=m+17+1+1+1) (v':=ver) (ob:= .cells ver [.i .i64 0,.i .i64 0,.i .i64 0]) ω (ho _ ω) ω;have pt:∀{v1 i:Nat} {t:T bC} {b:bC},17+m<=i ->CS NA NB ra rb opf B o M ⟨m+17+1+1+1,ver,t⟩ ->CS NA NB ra rb opf B o M ⟨m+17+1+1+1,v1,t.put i b⟩:=λhi c=>c.put ω (ho _ hi) (bB _);exact pt ω (pt ω (pt ω (pt ω (pt ω (pt ω b6)))));intro j hj;have q1:(j=m+17)=False:=av;have q2:(j=m+17+1)=False:=av;have O:(j=m+17+1+1)=False:=av;simp only[T.get_put,q1,q2,O,bV];have q2:(m+17=m+17+1)=False:=av;have O:(m+17=m+17+1+1)=False:=av;simp only[T.get_put,q2,O,bV,dZ,d9];simp only[T.get_put,dZ,d9]
def ax2 (F:eV ae) {rb g} (j4:yH C opf g) (ax:OK NA) (J:OK NB) (la:NA.length<=4096) (lb:NB.length<=4096):
 ∀d x y B o M h k,d=3-min (bR NA x) (bR NB y) ->In NA x ->In NB y ->CS NA NB ra rb opf B o M h ->OK B ->IA g NA NB B M ->B.length+2^d<=1000000 ->(o=11∨17<=o) ->(B=[] ->o=11) ->
  (∀r B' o' M' h',CS NA NB ra rb opf B' o' M' h' ->CF o h o' h' ->OK B' ->IA g NA NB B' M' ->(∃D,B'=B++D) ->B'.length+1<=B.length+2^d ->(o'=11∨17<=o') ->(B'=[] ->o'=11) ->nR g NA NB B' x y r ->k (ι (r)) h') ->
  du C 480 [eB (x,y,0),.p 9 0,.p 15 0,.p 8 0,.p 16 0,.p 13 0] h k:=by
 intro d;induction d using Nat.strongRecOn with
 |ind d IH=>
 intro x y B o M h k hd hx hy cs okb mo hbl ho1 ho2 hk;have k5:1<=2^d:=Co;obtain⟨n,ver,ob⟩:=h;obtain⟨m,rfl⟩:∃m,n=m+17:=⟨n-17,by have:=cs.next;show n=n-17+17;have h2:17<=n:=this;omega⟩;have c5:=cs.c5;have c8:=cs.c8;have c9:=cs.c9;have c13:=cs.c13;have c15:=cs.c15;have c16:=cs.c16;obtain⟨c6,hm⟩:=cs.memo;dsimp only at c5 c8 c9 c13 c15 c16 hm;have G:fP (ι 0)=some 0:=rfl;have H:fP (ι 1)=some 1:=rfl;have I:fP (ι 2)=some 2:=rfl;have U:(0:Nat)<3:=by omega
 have W:(1:Nat)<3:=by omega
 have Y:(2:Nat)<3:=by omega
 have cz:((0:Nat):Int)=0:=rfl;have z2:((0:Int)<2)=True:=cJ;have z1:((0:Int)=1)=False:=av;rw[ke E.ok (E.get F.f480)];by_cases hc:x<2/\ y<2;have x2:((x:Int)<2)=True:=cJ;have y2:((y:Int)<2)=True:=cJ;simp only[Qi,Qe,Qf,bJ5,bJ3,bJ4,↓dX E.ok,↓dE,↓dG,bI,dF,eB,cz,c9,G,H,I,U,W,Y,x2,y2,z2,z1,Nat.reduceEqDiff,Nat.reduceAdd,reduceIte,eZ,fY,go_sem];have u:=cs.put (i:=m+17) (n':=m+17+1) (v':=ver) (ob:= .cells ver [.i .i64 (x:Int),.i .i64 (y:Int),.i .i64 0]) ω (λhb=>by have:=(cs.nodes hb).2;have h2:o<m+17:=this;omega) ω;refine aw8 E F j4 u.c5 ?_;have fin:∀b:Bool,g (decide ((x:Int)=1)) (decide ((y:Int)=1))=b ->nR g NA NB B x y (if b then 1 else 0):=by
  intro b hb;refine⟨In.small (by split<;>omega),λk h1 h2 h3=> ?_⟩;rw[oG (show(if b=true then 1 else 0)<2 by split<;>omega)];refine⟨by omega,?_⟩;have key:∀(j:Nat) (B':List Br) (z:Nat),z<2 ->tr B' (j+1) z= .n (tr B' j z) (tr B' j z):=λj B' z hz=>by simp only[tr];rw[tF hz,tG hz]
  have:∀j,tr B j (if b=true then 1 else 0)=cY g (tr NA j x) (tr NB j y):=by
   intro j;induction j with
   |zero=>
    simp only[tr,cY,Tr.c.injEq];have e1:(x==1)=decide ((x:Int)=1):=by rw[xB];simp;omega
    have e2:(y==1)=decide ((y:Int)=1):=by rw[xB];simp;omega
    rw[e1,e2,hb];cases b<;>rfl
   |succ j ih=>rw[key j B _ (by split<;>omega),key j NA x hc.1,key j NB y hc.2,ih];rfl
  exact this k
 cases hb:g (decide ((x:Int)=1)) (decide ((y:Int)=1)) with
 |true=>
  simp only[↓dX E.ok,↓dE,↓dG,bI,dF,Nat.reduceEqDiff,reduceIte,go_sem];exact hk 1 B o M _ u ⟨by show m+17<=m+17+1;omega,λj h1 h2 h3=>iz (by have d1:j<m+17:=h2;omega),.inl rfl,λj h1=>iz ω⟩ okb mo ⟨[],by simp⟩ ω ho1 ho2 (fin true hb)
 |false=>
  simp only[↓dX E.ok,↓dE,↓dG,bI,dF,Nat.reduceEqDiff,reduceIte,go_sem];exact hk 0 B o M _ u ⟨by show m+17<=m+17+1;omega,λj h1 h2 h3=>iz (by have d1:j<m+17:=h2;omega),.inl rfl,λj h1=>iz ω⟩ okb mo ⟨[],by simp⟩ ω ho1 ho2 (fin false hb)
 have d2:∀aA ob' (ev:MA ->AV),T.get ob' 14=some (.map c6 (di eB eN 0 M) M.length) ->ev (.t 41)= .m 14 ->ev (.t 42)= .ag [.i .i64 (x:Int),.i .i64 (y:Int),.i .i64 0] ->
  step ev ⟨m+17+1,aA,ob'⟩ (.look t3 (.t 41) (.t 42) (ι 0) true)= .v (Bb eN (ι 0) (look (x,y,0) M)) ⟨m+17+1,aA,ob'⟩:=
  λaA ob' ev q1 q2 q3=>uQ (k:=(x,y,0)) (z:= .i .i64 0) yG (h:=⟨m+17+1,aA,ob'⟩) ⟨c6,q1⟩ q2 q3
 unfold t3 at d2;have u:=cs.put (i:=m+17) (n':=m+17+1) (v':=ver) (ob:= .cells ver [.i .i64 (x:Int),.i .i64 (y:Int),.i .i64 0]) ω (λhb=>by have:=(cs.nodes hb).2;have h2:o<m+17:=this;omega) ω;cases hl:look (x,y,0) M with
 |some r=>
  by_cases x2:x<2;have L:((x:Int)<2)=True:=cJ;have d5:((y:Int)<2)=False:=av;simp only[Qi,Qe,Qf,Qg,Uy,Uz,bn0,↓dX E.ok,↓dE,↓dG,bI,dF,eB,cz,c15,G,H,I,U,W,Y,L,d5,hm,d2,hl,Bb,eN,z2,Nat.reduceEqDiff,Nat.reduceAdd,reduceIte,eZ,fY,go_sem];exact hk r B o M _ u ⟨by show m+17<=m+17+1;omega,λj h1 h2 h3=>iz (by have d1:j<m+17:=h2;omega),.inl rfl,λj h1=>iz ω⟩ okb mo ⟨[],by simp⟩ ω ho1 ho2 (mo x y r hl hx hy);have L:((x:Int)<2)=False:=av;simp only[Qi,Qe,Qf,Qg,Uy,Uz,bn0,↓dX E.ok,↓dE,↓dG,bI,dF,eB,cz,c15,G,H,I,U,W,Y,L,hm,d2,hl,Bb,eN,z2,Nat.reduceEqDiff,Nat.reduceAdd,reduceIte,eZ,fY,go_sem];exact hk r B o M _ u ⟨by show m+17<=m+17+1;omega,λj h1 h2 h3=>iz (by have d1:j<m+17:=h2;omega),.inl rfl,λj h1=>iz ω⟩ okb mo ⟨[],by simp⟩ ω ho1 ho2 (mo x y r hl hx hy)
 |none=>
  have fin:∀τ₀:T AV,τ₀.get 1=some (.p 9 0) ->τ₀.get 2=some (.p 15 0) ->τ₀.get 3=some (.p 8 0) ->τ₀.get 4=some (.p 16 0) ->τ₀.get 5=some (.p 13 0) ->τ₀.get 6=some (.p (m+17) 0) ->
   gG C Qg (λe τ h=>match e with
    | .exit _=>False
    |_=>kQ k h (eZ τ h [(7,none)])) τ₀ ⟨m+17+1,ver,ob.put (m+17) (.cells ver [.i .i64 (x:Int),.i .i64 (y:Int),.i .i64 0])⟩:=by
   intro τ₀ g1 g2 g3 g4 g5 g6;have l6:=Id ax hx;have l8:=Id J hy;obtain⟨v,h5⟩:∃v,min (bR NA x) (bR NB y)=v:=⟨_,rfl⟩;have R:v<3:=by
    have q3:∀(B':List Br) (z:Nat),OK B' ->In B' z ->¬z<2 ->bR B' z<3:=by
     intro B' z ok hz h2;rcases hz.cases with h1|⟨i,b,rfl,hb⟩;exact bh h1 h2;rw[gy hb];exact ok.v _ _ hb
    by_cases h1:x<2;have:=q3 NB y J hy (λh=>hc ⟨h1,h⟩);omega;have:=q3 NA x ax hx h1;omega
   have lx:=si ax (v:=v) hx ω R;have ly:=si J (v:=v) hy ω R;have mx:=sj ax (v:=v) hx ω R;have my:=sj J (v:=v) hy ω R;have i8:3-min (bR NA (lo NA x v)) (bR NB (lo NB y v))<=d-1:=by omega
   have i9:3-min (bR NA (hi NA x v)) (bR NB (hi NB y v))<=d-1:=by omega
   have l1:1<=d:=by omega
   have pw:2^d=2*2^(d-1):=by rw[←Cq];congr 1;omega
   have m4:2^(3-min (bR NA (lo NA x v)) (bR NB (lo NB y v)))<=2^(d-1):=rJ ω i8;have m5:2^(3-min (bR NA (hi NA x v)) (bR NB (hi NB y v)))<=2^(d-1):=rJ ω i9;refine ax1 S E F ax J la lb hx hy cs hc hl g1 g2 g3 g4 g5 g6 h5 λi4 aQ u dD n1 w1=> ?_;refine E.run (IH (3-min (bR NA (lo NA x v)) (bR NB (lo NB y v))) ω (lo NA x v) (lo NB y v) B o M _ _ rfl (wK ax hx) (wK J hy) u okb mo ω ho1 ho2 ?_);rintro r1 B1 o1 M1 ⟨d3,k9,aJ⟩ b2 cf2 h7 k1 ⟨D1,rfl⟩ k6 j1 j2 i0;intro τ t2 t4 t5 t6 t10 i2 i3;obtain⟨m1,rfl⟩:∃m1,d3=m1+17:=⟨d3-17,by have h2:17<=d3:=b2.next;omega⟩;have l2:m+3<=m1:=by have h2:m+17+1+1+1<=m1+17:=cf2.next;omega
   have j3:B≠[] ->o<m+17:=λhb=>(cs.nodes hb).2;have l5:o<m+17:=by
    by_cases hb:B=[];rw[ho2 hb];omega;exact j3 hb
   have n2:cG (aJ.get (m+17))=some [.i .i64 (x:Int),.i .i64 (y:Int),.i .i64 0]:=by
    rw[show aJ.get (m+17)=aQ.get (m+17) from cf2.same (m+17) ω (by show m+17<m+17+1+1+1;omega) ω];exact n1
   have w2:cG (aJ.get (m+17+1+1))=some [.i .i64 (hi NA x v:Int),.i .i64 (hi NB y v:Int),.i .i64 0]:=by
    rw[show aJ.get (m+17+1+1)=aQ.get (m+17+1+1) from cf2.same (m+17+1+1) ω (by show m+17+1+1<m+17+1+1+1;omega) ω];exact w1
   have d6:cG (aJ.get 13)=some [.p 12 0]:=b2.c13;have f0:cG (aJ.get 16)=some [.f 480 [] [.p 9 0,.p 15 0,.p 8 0,.p 16 0,.p 13 0]]:=b2.c16;simp only[D4,bn3,↓dX E.ok,↓dE,↓dG,bI,dF,t4,t5,t10,i2,i3,w2,d6,f0,Nat.reduceEqDiff,Nat.reduceShiftRight,Nat.reduceAnd,Nat.reduceBneDiff,reduceIte,go_sem];refine E.run (IH (3-min (bR NA (hi NA x v)) (bR NB (hi NB y v))) ω (hi NA x v) (hi NB y v) (B++D1) o1 M1 _ _ rfl (wL ax hx) (wL J hy) b2 h7 k1 ω j1 j2 ?_);rintro r2 B2 o2 M2 ⟨d4,l0,cC⟩ A cf3 h8 k2 ⟨D2,rfl⟩ k7 h4 l4 i1;obtain⟨m2,rfl⟩:∃m2,d4=m2+17:=⟨d4-17,by have h2:17<=d4:=A.next;omega⟩;have l3:m1<=m2:=by have h2:m1+17<=m2+17:=cf3.next;omega
   have g7:o1≠m+17:=by
    rcases cf2.new with e|e;omega;have h2:m+17+1+1+1<=o1:=e;omega
   have n3:cG (cC.get (m+17))=some [.i .i64 (x:Int),.i .i64 (y:Int),.i .i64 0]:=by
    rw[show cC.get (m+17)=aJ.get (m+17) from cf3.same (m+17) ω (by show m+17<m1+17;omega) (λh=>g7 h.symm)];exact n2
   have d0:cG (cC.get 13)=some [.p 12 0]:=A.c13;simp only[↓dE,↓dG,bI,dF,t4,t5,t10,i2,i3,d0,Nat.reduceEqDiff,Nat.reduceShiftRight,Nat.reduceAnd,Nat.reduceBneDiff,reduceIte,go_sem];refine E.run (aw5 E F A.bs (p:=11) (q:=12) ω ω ω (λhb=>⟨(A.nodes hb).2,by have:=(A.nodes hb).1;omega,by have:=(A.nodes hb).1;omega⟩) (by simp only[dy] at*;omega) _ ?_);rintro r B' o' ⟨b4,i5,b6⟩ i6 c7 b5 spec;have N:=CS.branch A h4 i6 c7 b5;have k3:o1=o∨m+17+1+1+1<=o1:=cf2.new;have k4:o2=o1∨m1+17<=o2:=cf3.new;have g8:o2≠m+17:=by omega
   have n4:cG (b6.get (m+17))=some [.i .i64 (x:Int),.i .i64 (y:Int),.i .i64 0]:=by
    rw[show b6.get (m+17)=cC.get (m+17) from c7.same (m+17) (by show m+17<m2+17;omega) ω ω (λh=>g8 h.symm)];exact n3
   obtain⟨b1,j0⟩:=N.memo;have d8:cG (b6.get 15)=some [.m 14]:=N.c15;have g0:∀aA ob' (ev:MA ->AV),T.get ob' 14=some (.map b1 (di eB eN 0 M2) M2.length) ->ev (.t 93)= .m 14 ->ev (.t 94)= .ag [.i .i64 (x:Int),.i .i64 (y:Int),.i .i64 0] ->ev (.t 95)= .i .i64 (r:Int) ->
    step ev ⟨b4,aA,ob'⟩ (.mupd t3 (.t 93) (.t 94) (.t 95))= .v .un ⟨b4,aA+1,ob'.put 14 (.map (aA+1) (di eB eN 0 (ups (x,y,0) r M2)) (ups (x,y,0) r M2).length)⟩:=
    λaA ob' ev q1 q2 q3 q4=>mL (k:=(x,y,0)) (v:=r) yG (h:=⟨b4,aA,ob'⟩) ⟨b1,q1⟩ q2 q3 q4
   unfold t3 at g0;simp only[bn4,bn5,↓dX E.ok,↓dE,↓dG,bI,dF,t2,t6,n4,d8,j0,g0,Nat.reduceEqDiff,reduceIte,eZ,fY,go_sem];obtain⟨h9,b0,b8,k8⟩:=Q8 ax J h8 hx hy h5 R (i0.ext h7 D2) i1 spec;have h6:IA g NA NB B' (ups (x,y,0) r M2):=by
    intro x' y' r' O j8 k0;rw[Fh] at O;by_cases e:((x',y',0):Br)=(x,y,0);rw[aF e] at O;simp only[xK] at e;obtain⟨rfl,rfl,_⟩:=e;cases O;exact b0;rw[aD e] at O;obtain⟨D,rfl⟩:=b8;exact(k2 x' y' r' O j8 k0).ext h8 D
   have f9:CF o ⟨m+17,ver,ob⟩ o' ⟨b4,i5,b6⟩:=
    CF.branch (CF.trans (CF.trans (⟨by show m+17<=m+17+1+1+1;omega,λj _ h2 _=>dD j h2,.inl rfl,λj h2=>dD j ω⟩:CF o ⟨m+17,ver,ob⟩ o ⟨m+17+1+1+1,i4,aQ⟩) cf2) cf3) c7 h4 A.next
   have b7:B'.length+1<=B.length+2^d:=by simp only[dy] at*;omega
   have Z:∃D,B'=B++D:=by obtain⟨D,rfl⟩:=b8;exact⟨D1++D2++D,by simp[nz]⟩
   by_cases b3:B'=[];subst b3;have hb:B=[]:=by obtain⟨D,h⟩:=Z;exact(List.append_eq_nil_iff.1 h.symm).1
   refine hk r [] 11 _ _ (CS.memoPut (CS.moved N) (λ_=>rfl)) (CF.small (CF.moved f9 (.inl (ho2 hb).symm)) ω) h9 h6 Z b7 (.inl rfl) (λ_=>rfl) b0;exact hk r B' o' _ _ (CS.memoPut N (λh=>bh h b3)) (CF.small f9 ω) h9 h6 Z b7 (.inr (N.nodes b3).1) (λh=>bh h b3) b0
  by_cases x2:x<2;have L:((x:Int)<2)=True:=cJ;have d5:((y:Int)<2)=False:=av;simp only[Qi,Qe,Qf,↓dX E.ok,↓dE,↓dG,bI,dF,eB,cz,G,H,I,U,W,Y,L,d5,Nat.reduceEqDiff,Nat.reduceAdd,reduceIte,go_sem];refine fin _ ?_ ?_ ?_ ?_ ?_ ?_<;>simp only[T.get_put,Nat.reduceEqDiff,reduceIte];have L:((x:Int)<2)=False:=av;simp only[Qi,Qe,Qf,↓dX E.ok,↓dE,↓dG,bI,dF,eB,cz,G,H,I,U,W,Y,L,Nat.reduceEqDiff,Nat.reduceAdd,reduceIte,go_sem];refine fin _ ?_ ?_ ?_ ?_ ?_ ?_<;>simp only[T.get_put,Nat.reduceEqDiff,reduceIte]
end
end AM
