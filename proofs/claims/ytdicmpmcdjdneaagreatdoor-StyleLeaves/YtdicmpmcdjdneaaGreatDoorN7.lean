import Derived.Test.YtdicmpmcdjdneaaGreatDoorProg
import Derived.Test.YtdicmpmcdjdneaaGreatDoorN5
set_option linter.all false
set_option maxHeartbeats 8000000
namespace Dg
inductive Tr where
 |c (b:Bool)
 |n (l h:Tr)
 deriving DecidableEq
abbrev Br:=Nat×Nat×Nat
def bR (B:List Br) (r:Nat):Nat:=if r<2 then 3 else match B[r-2]? with|some b=>b.1|none=>3
def lo (B:List Br) (r v:Nat):Nat:=if r<2 then r else match B[r-2]? with|some b=>if b.1=v then b.2.1 else r|none=>r
def hi (B:List Br) (r v:Nat):Nat:=if r<2 then r else match B[r-2]? with|some b=>if b.1=v then b.2.2 else r|none=>r
def tr (B:List Br):Nat ->Nat ->Tr
 |0,r=> .c (r==1)
 |k+1,r=> .n (tr B k (lo B r (2-k))) (tr B k (hi B r (2-k)))
structure OK (B:List Br):Prop where
 v:∀(i:Nat) (b:Br),B[i]? =some b ->b.1<3
 l:∀(i:Nat) (b:Br),B[i]? =some b ->b.2.1<i+2/\ b.1<bR B b.2.1
 h:∀(i:Nat) (b:Br),B[i]? =some b ->b.2.2<i+2/\ b.1<bR B b.2.2
 ne:∀(i:Nat) (b:Br),B[i]? =some b ->b.2.1≠b.2.2
 nd:∀(i j:Nat) (b:Br),B[i]? =some b ->B[j]? =some b ->i=j
variable {B:List Br}
def oG {r} (h:r<2):bR B r=3:=by simp[bR,h]
variable {i:Nat} {b:Br}
def gy (h:B[i]? =some b):bR B (i+2)=b.1:=by
 unfold bR;rw[if_neg (by omega),show i+2-2=i by omega,h]
variable {v:Nat}
def tF {r} (h:r<2):lo B r v=r:=by simp[lo,h]
def tG {r} (h:r<2):hi B r v=r:=by simp[hi,h]
def pb (h:B[i]? =some b):lo B (i+2) v=if b.1=v then b.2.1 else i+2:=by
 unfold lo;rw[if_neg (by omega),show i+2-2=i by omega,h]
def Gu (h:B[i]? =some b):hi B (i+2) v=if b.1=v then b.2.2 else i+2:=by
 unfold hi;rw[if_neg (by omega),show i+2-2=i by omega,h]
def In (B:List Br) (r:Nat):Prop:=r<B.length+2
def In.cases {r} (h:In B r):r<2∨∃i b,r=i+2/\ B[i]? =some b:=by
 rcases Nat.lt_or_ge r 2 with h1|h1;exact .inl h1;have j:r-2<B.length:=by unfold In at h;omega
 exact .inr ⟨r-2,B[r-2],by omega,List.getElem?_eq_getElem j⟩
def In.of (h:B[i]? =some b):In B (i+2):=by
 have j:i<B.length:=(List.getElem?_eq_some_iff.1 h).1;unfold In;omega
def In.small {r} (h:r<2):In B r:=by unfold In;omega
def Id (ok:OK B) {r} (h:In B r):bR B r<=3:=by
 rcases h.cases with h1|⟨i,b,rfl,hb⟩;rw[oG h1];exact Nat.le_refl _;rw[gy hb];exact Nat.le_of_lt (ok.v _ _ hb)
def wK (ok:OK B) {r} (j:In B r):In B (lo B r v):=by
 rcases j.cases with h1|⟨i,b,rfl,hb⟩;rw[tF h1];exact j;rw[pb hb];split;have:=ok.l _ _ hb;have:=In.of hb;unfold In at*;omega;exact j
def wL (ok:OK B) {r} (j:In B r):In B (hi B r v):=by
 rcases j.cases with h1|⟨i,b,rfl,hb⟩;rw[tG h1];exact j;rw[Gu hb];split;have:=ok.h _ _ hb;have:=In.of hb;unfold In at*;omega;exact j
def si (ok:OK B) {r} (j:In B r) (h:v<=bR B r) (A:v<3):v<bR B (lo B r v):=by
 rcases j.cases with h1|⟨i,b,rfl,hb⟩;rw[tF h1,oG h1];exact A;rw[pb hb];rw[gy hb] at h;split;have:=ok.l _ _ hb;omega;rw[gy hb];omega
def sj (ok:OK B) {r} (j:In B r) (h:v<=bR B r) (A:v<3):v<bR B (hi B r v):=by
 rcases j.cases with h1|⟨i,b,rfl,hb⟩;rw[tG h1,oG h1];exact A;rw[Gu hb];rw[gy hb] at h;split;have:=ok.h _ _ hb;omega;rw[gy hb];omega
def uS (ok:OK B) {r} (j:In B r) (A:v<3):(lo B r v=hi B r v↔bR B r≠v)/\ (bR B r≠v ->lo B r v=r/\ hi B r v=r):=by
 rcases j.cases with h1|⟨i,b,rfl,hb⟩;rw[tF h1,tG h1,oG h1];exact⟨⟨λ_=>by omega,λ_=>rfl⟩,λ_=>⟨rfl,rfl⟩⟩;rw[pb hb,Gu hb,gy hb];by_cases e:b.1=v;rw[if_pos e,if_pos e];exact⟨⟨λh=>absurd h (ok.ne _ _ hb),λh=>absurd e h⟩,λh=>absurd e h⟩;rw[if_neg e,if_neg e];exact⟨⟨λ_=>e,λ_=>rfl⟩,λ_=>⟨rfl,rfl⟩⟩
def Hq (ok:OK B):∀k x y,k<=3 ->In B x ->In B y ->3-k<=bR B x ->3-k<=bR B y ->tr B k x=tr B k y ->x=y:=by
 intro k;induction k with
 |zero=>
  intro x y _ H I Z ly e;have one:∀z,In B z ->3<=bR B z ->z<2:=by
   intro z Y lz;rcases Y.cases with h|⟨i,b,rfl,hb⟩;exact h;rw[gy hb] at lz;have:=ok.v _ _ hb;omega
  have h1:=one x H (by omega);have h2:=one y I (by omega);simp only[tr,Tr.c.injEq] at e;have O:x=0∨x=1:=by omega
  have R:y=0∨y=1:=by omega
  rcases O with rfl|rfl<;>rcases R with rfl|rfl<;>first|rfl|(simp at e)
 |succ k L=>
  intro x y hk H I Z ly e;simp only[tr,Tr.n.injEq] at e;obtain⟨e1,e2⟩:=e;have l1:=si ok (v:=2-k) H (by omega) (by omega);have l2:=si ok (v:=2-k) I (by omega) (by omega);have l3:=sj ok (v:=2-k) H (by omega) (by omega);have l4:=sj ok (v:=2-k) I (by omega) (by omega);have c1:=L _ _ (by omega) (wK ok H) (wK ok I) (by omega) (by omega) e1;have c2:=L _ _ (by omega) (wL ok H) (wL ok I) (by omega) (by omega) e2;have N:=uS ok H (v:=2-k) (by omega);have J:=uS ok I (v:=2-k) (by omega);by_cases D:bR B x=2-k;have A:bR B y=2-k:=by
   apply Classical.byContradiction;intro W;have:=J.2 W;have U:lo B x (2-k)=hi B x (2-k):=by rw[c1,c2,this.1,this.2]
   exact(N.1.1 U) D
  rcases H.cases with h|⟨i,b,rfl,hb⟩;rw[oG h] at D;omega;rcases I.cases with h|⟨j,b',rfl,G⟩;rw[oG h] at A;omega;rw[gy hb] at D;rw[gy G] at A;rw[pb hb,pb G,if_pos D,if_pos A] at c1;rw[Gu hb,Gu G,if_pos D,if_pos A] at c2;have:b=b':=by
   obtain⟨v,l,h⟩:=b;obtain⟨v',l',h'⟩:=b';simp only at D A c1 c2;rw[D,A,c1,c2]
  subst this;rw[ok.nd _ _ _ hb G];have h1:=N.2 D;rw[h1.1] at c1;rw[h1.2] at c2;by_cases A:bR B y=2-k;exact absurd A (J.1.1 (c1.symm.trans c2));rw[(J.2 A).1] at c1;exact c1
def Hr {C:List Br} (h:B[i]? =some b):(B++C)[i]? =some b:=by
 have j:i<B.length:=(List.getElem?_eq_some_iff.1 h).1;rw[List.getElem?_append_left j];exact h
def In.ext {C:List Br} {r} (h:In B r):In (B++C) r:=by unfold In at*;simp;omega
def AU {C:List Br} {r} (h:In B r):bR (B++C) r=bR B r:=by
 rcases h.cases with h1|⟨i,b,rfl,hb⟩;rw[oG h1,oG h1];rw[gy hb,gy (Hr hb)]
def at2 {C:List Br} {r} (h:In B r):lo (B++C) r v=lo B r v:=by
 rcases h.cases with h1|⟨i,b,rfl,hb⟩;rw[tF h1,tF h1];rw[pb hb,pb (Hr hb)]
def at3 {C:List Br} {r} (h:In B r):hi (B++C) r v=hi B r v:=by
 rcases h.cases with h1|⟨i,b,rfl,hb⟩;rw[tG h1,tG h1];rw[Gu hb,Gu (Hr hb)]
def Hs {B C:List Br} (ok:OK B):∀k r,In B r ->tr (B++C) k r=tr B k r
 |0,_,_=>rfl
 |k+1,r,h=>by simp only[tr];rw[at2 h,at3 h,Hs ok k _ (wK ok h),Hs ok k _ (wL ok h)]
def OK.add (ok:OK B) {l h} (L:v<3) (H:In B l) (hh:In B h) (ll:v<bR B l) (N:v<bR B h) (O:l≠h) (A:∀i:Nat,B[i]?≠some (v,l,h)):OK (B++[(v,l,h)]):=by
 have key:∀(i:Nat) (b:Br),(B++[(v,l,h)])[i]? =some b ->B[i]? =some b∨(i=B.length/\ b=(v,l,h)):=by
  intro i b hb;rcases Nat.lt_or_ge i B.length with h1|h1;rw[List.getElem?_append_left h1] at hb;exact .inl hb;rw[List.getElem?_append_right h1] at hb;have:i-B.length=0:=by
   rcases Nat.eq_zero_or_pos (i-B.length) with h2|h2;exact h2;rw[List.getElem?_eq_none (by simp;omega)] at hb;cases hb
  rw[this] at hb;simp at hb;exact .inr ⟨by omega,hb.symm⟩
 constructor;intro i b hb;rcases key i b hb with h1|⟨_,rfl⟩;exact ok.v _ _ h1;exact L;intro i b hb;rcases key i b hb with h1|⟨rfl,rfl⟩;have:=ok.l _ _ h1;have D:In B b.2.1:=by have:=In.of h1;unfold In at*;omega
 rw[AU D];exact this;refine⟨H,?_⟩;show v<bR _ l;rw[AU H];exact ll;intro i b hb;rcases key i b hb with h1|⟨rfl,rfl⟩;have:=ok.h _ _ h1;have D:In B b.2.2:=by have:=In.of h1;unfold In at*;omega
 rw[AU D];exact this;refine⟨hh,?_⟩;show v<bR _ h;rw[AU hh];exact N;intro i b hb;rcases key i b hb with h1|⟨_,rfl⟩;exact ok.ne _ _ h1;exact O;intro i j b hb G;rcases key i b hb with h1|⟨h1,I⟩<;>rcases key j b G with h2|⟨h2,J⟩
 exact ok.nd _ _ _ h1 h2;rw[J] at h1;exact absurd h1 (A i);rw[I] at h2;exact absurd h2 (A j);omega
def sk (S:List (Nat×Tr)):Nat ->Tr ->Nat
 |_,.c b=>if b then 1 else 0
 |v,.n l h=>if l=h then sk S (v+1) l else S.idxOf (v,.n l h)+2
def mQ:Nat ->Tr ->List (Nat×Tr) ->List (Nat×Tr)
 |_,.c _,S=>S
 |v,.n l h,S=>if l=h then mQ (v+1) l S else if (v,Tr.n l h)∈S then S else mQ (v+1) h (mQ (v+1) l S)++[(v,.n l h)]
def node (S:List (Nat×Tr)):Nat×Tr ->Br
 |(v,.n l h)=>(v,sk S (v+1) l,sk S (v+1) h)
 |(v,.c _)=>(v,0,0)
def aE (t:Tr):List Br×Nat:=let S:=mQ 0 t [];(S.map (node S),sk S 0 t)
def fu (B:List Br):Nat ->Nat ->List Nat ->List Nat
 |0,_,V=>V
 |d+1,n,V=>if n<2∨n∈V then V else match B[n-2]? with
  |some b=>fu B d b.2.2 (fu B d b.2.1 V)++[n]
  |none=>V
def nb (V:List Nat) (n:Nat):Nat:=if n<2 then n else V.idxOf n+2
def DM (B:List Br) (V:List Nat):List Br:=V.map λn=>match B[n-2]? with
 |some b=>(b.1,nb V b.2.1,nb V b.2.2)
 |none=>(0,0,0)
structure Cl (B:List Br) (V:List Nat):Prop where
 two:∀n∈V,2<=n/\ In B n
 l:∀n∈V,∀b,B[n-2]? =some b ->b.2.1<2∨b.2.1∈V
 h:∀n∈V,∀b,B[n-2]? =some b ->b.2.2<2∨b.2.2∈V
def Cl.nil:Cl B []:=⟨(by simp),(by simp),(by simp)⟩
variable {V:List Nat} {n:Nat}
def wM {W} (h:n<2∨n∈V):nb (V++W) n=nb V n:=by
 unfold nb;split
 ·rfl
 ·rw[List.idxOf_append,if_pos (by
   rcases h with h|h;·omega
   ·exact h)]
def at4 {W:List Nat} (c:Cl B V):DM B (V++W)=DM B V++W.map λn=>match B[n-2]? with
 |some b=>(b.1,nb (V++W) b.2.1,nb (V++W) b.2.2)
 |none=>(0,0,0):=by
 unfold DM;rw[List.map_append];congr 1;apply List.map_congr_left;intro n j;split;rename_i b hb;rw[wM (c.l n j b hb),wM (c.h n j b hb)];rfl
def O9 (c:Cl B V) (hb:B[n-2]? =some b) (j:b.2.1<2∨b.2.1∈V) (hh:b.2.2<2∨b.2.2∈V):DM B (V++[n])=DM B V++[(b.1,nb V b.2.1,nb V b.2.2)]:=by
 rw[at4 c];simp only[List.map_cons,List.map_nil,hb,wM j,wM hh]
def Dy:∀d n V,∃W,fu B d n V=V++W:=by
 intro d;induction d with
 |zero=>intro n V;exact⟨[],by simp[fu]⟩
 |succ d j=>
  intro n V;simp only[fu];split;exact⟨[],by simp⟩;split;rename_i b _;obtain⟨W1,h1⟩:=j b.2.1 V;obtain⟨W2,h2⟩:=j b.2.2 (V++W1);exact⟨W1++W2++[n],by rw[h1,h2];simp[List.append_assoc]⟩;exact⟨[],by simp⟩
def yq (ok:OK B):∀d n V,Cl B V ->In B n ->3-bR B n<=d ->Cl B (fu B d n V)/\ (n<2∨n∈fu B d n V):=by
 intro d;induction d with
 |zero=>
  intro n V c hn hd;refine⟨c,.inl ?_⟩;rcases hn.cases with h|⟨i,b,rfl,hb⟩;exact h;rw[gy hb] at hd;have:=ok.v _ _ hb;omega
 |succ d H=>
  intro n V c hn hd;simp only[fu];split;rename_i h;exact⟨c,h⟩;rename_i D;rcases hn.cases with h|⟨i,b,rfl,hb⟩;exact absurd (.inl h) D;rw[show i+2-2=i by omega,hb];rw[gy hb] at hd;have O:=ok.l _ _ hb;have R:=ok.h _ _ hb;have hi:=In.of hb;have J:In B b.2.1:=by unfold In at*;omega
  have L:In B b.2.2:=by unfold In at*;omega
  obtain⟨c1,N⟩:=H b.2.1 V c J (by omega);obtain⟨c2,m2⟩:=H b.2.2 _ c1 L (by omega);obtain⟨W,I⟩:=Dy (B:=B) d b.2.2 (fu B d b.2.1 V);have G:b.2.1<2∨b.2.1∈fu B d b.2.2 (fu B d b.2.1 V):=by rw[I];exact N.imp id (List.mem_append_left _)
  dsimp only;refine⟨⟨?_,?_,?_⟩,.inr (by simp)⟩;intro k j;rcases List.mem_append.1 j with j|j;exact c2.two k j;rw[List.mem_singleton.1 j];exact⟨by omega,hi⟩;intro k j b' A;rcases List.mem_append.1 j with j|j;exact(c2.l k j b' A).imp id (List.mem_append_left _);rw[List.mem_singleton.1 j,show i+2-2=i by omega,hb] at A;cases A;exact G.imp id (List.mem_append_left _);intro k j b' A;rcases List.mem_append.1 j with j|j;exact(c2.h k j b' A).imp id (List.mem_append_left _);rw[List.mem_singleton.1 j,show i+2-2=i by omega,hb] at A;cases A;exact m2.imp id (List.mem_append_left _)
def Pa (ok:OK B):∀d n V,In B n ->∀k∈fu B d n V,k∈V∨bR B n<=bR B k:=by
 intro d;induction d with
 |zero=>intro n V _ k j;exact .inl j
 |succ d D=>
  intro n V hn k j;simp only[fu] at j;split at j;exact .inl j;rename_i A;rcases hn.cases with h|⟨i,b,rfl,hb⟩;exact absurd (.inl h) A;rw[show i+2-2=i by omega,hb] at j;have G:=ok.l _ _ hb;have H:=ok.h _ _ hb;have hi:=In.of hb;rw[gy hb];rcases List.mem_append.1 j with j|j;rcases D b.2.2 _ (by unfold In at*;omega) k j with j|j;rcases D b.2.1 _ (by unfold In at*;omega) k j with j|j;exact .inl j;exact .inr (by omega);exact .inr (by omega);rw[List.mem_singleton.1 j,gy hb];exact .inr (Nat.le_refl _)
def Pb (ok:OK B) {d} (hb:B[i]? =some b) (h:i+2∉V):i+2∉fu B d b.2.2 (fu B d b.2.1 V):=by
 intro j;have A:=ok.l _ _ hb;have D:=ok.h _ _ hb;have hi:=In.of hb;rcases Pa ok d b.2.2 _ (by unfold In at*;omega) _ j with j|j;rcases Pa ok d b.2.1 _ (by unfold In at*;omega) _ j with j|j;exact h j;rw[gy hb] at j;omega;rw[gy hb] at j;omega
def Ht (h2:2<=n) (h:n∉V):nb (V++[n]) n=V.length+2:=by
 unfold nb;rw[if_neg (by omega),List.idxOf_append,if_neg h];simp
def key (B:List Br) (n:Nat):Nat×Tr:=(bR B n,tr B (3-bR B n) n)
def Pc (ok:OK B) {x y} (j:In B x) (A:In B y) (h:key B x=key B y):x=y:=by
 simp only[key,Prod.mk.injEq] at h;have:=Id ok j;refine Hq ok (3-bR B x) x y (by omega) j A (by omega) (by omega) ?_;have h2:=h.2;rw[←h.1] at h2;exact h2
def at5 (ok:OK B) (A:∀n∈V,In B n) {x} (D:In B x):key B x∈V.map (key B)↔x∈V:=by
 constructor;intro h;obtain⟨y,j,e⟩:=List.mem_map.1 h;rw[←Pc ok (A y j) D e];exact j;exact λh=>List.mem_map_of_mem h
def Pd {B} (ok:OK B):∀{V:List Nat} (_:∀n∈V,In B n) {x} (_:In B x),(V.map (key B)).idxOf (key B x)=V.idxOf x
 |[],_,_,_=>rfl
 |y::V,hV,x,hx=>by
  rw[List.map_cons,List.idxOf_cons,List.idxOf_cons];have e:(key B y==key B x)=(y==x):=by
   rw[Bool.eq_iff_iff];simp only[beq_iff_eq];exact⟨Pc ok (hV y (by simp)) hx,λh=>by rw[h]⟩
  rw[e,Pd ok (λn h=>hV n (by simp[h])) hx]
def at6 (ok:OK B) (G:In B n) (H:v<bR B n) (D:v<3):tr B (3-v) n= .n (tr B (3-(v+1)) n) (tr B (3-(v+1)) n):=by
 have s:=(uS ok G (v:=v) D).2 (by omega);obtain⟨j,A⟩:∃j,3-v=j+1/\ 3-(v+1)=j/\ 2-j=v:=⟨2-v,by omega,by omega,by omega⟩;rw[A.1,A.2.1];simp only[tr];rw[A.2.2,s.1,s.2]
def Dz (ok:OK B) (j:In B n) (S:List (Nat×Tr)):∀k v,v+k=bR B n ->mQ v (tr B (3-v) n) S=mQ (bR B n) (tr B (3-bR B n) n) S/\ sk S v (tr B (3-v) n)=sk S (bR B n) (tr B (3-bR B n) n):=by
 intro k;induction k with
 |zero=>
  intro v h;have:v=bR B n:=by omega
  subst this;exact⟨rfl,rfl⟩
 |succ k A=>
  intro v h;have:=Id ok j;rw[at6 ok j (by omega) (by omega)];simp only[mQ,sk,if_pos];exact A (v+1) (by omega)
def DA (hb:B[i]? =some b) (D:b.1<3):tr B (3-b.1) (i+2)= .n (tr B (3-(b.1+1)) b.2.1) (tr B (3-(b.1+1)) b.2.2):=by
 obtain⟨j,A⟩:∃j,3-b.1=j+1/\ 3-(b.1+1)=j/\ 2-j=b.1:=⟨2-b.1,by omega,by omega,by omega⟩;rw[A.1,A.2.1];simp only[tr];rw[A.2.2,pb hb,Gu hb,if_pos rfl,if_pos rfl]
def Hu (ok:OK B) (G:∀n∈V,In B n) (D:In B n) (J:v<=bR B n):sk (V.map (key B)) v (tr B (3-v) n)=nb V n:=by
 rw[(Dz ok D (V.map (key B)) (bR B n-v) v (by omega)).2];rcases D.cases with h|⟨i,b,rfl,hb⟩;rw[oG h];have A:n=0∨n=1:=by omega
 rcases A with rfl|rfl<;>simp[tr,sk,nb];have A:=ok.v _ _ hb;have I:=ok.ne _ _ hb;rw[gy hb];have e:=DA hb A;have H:key B (i+2)=(b.1,tr B (3-b.1) (i+2)):=by unfold key;rw[gy hb]
 have:=Pd ok G D;rw[H,e] at this;rw[e];simp only[sk];have L:=ok.l _ _ hb;have N:=ok.h _ _ hb;have hi:=In.of hb;have j:tr B (3-(b.1+1)) b.2.1≠tr B (3-(b.1+1)) b.2.2:=λh=>I (Hq ok (3-(b.1+1)) _ _ (by omega) (by unfold In at*;omega) (by unfold In at*;omega) (by omega) (by omega) h);rw[if_neg j,this];unfold nb;rw[if_neg (by omega)]
def at7 (ok:OK B):∀d n V,Cl B V ->In B n ->3-bR B n<=d ->(fu B d n V).map (key B)=mQ (bR B n) (tr B (3-bR B n) n) (V.map (key B)):=by
 intro d;induction d with
 |zero=>
  intro n V c hn hd;have:=Id ok hn;rw[show 3-bR B n=0 by omega];simp[fu,tr,mQ]
 |succ d L=>
  intro n V c hn hd;rcases hn.cases with h|⟨i,b,rfl,hb⟩;rw[oG h];simp[fu,tr,mQ,h];have I:=ok.v _ _ hb;have N:=ok.ne _ _ hb;have O:=ok.l _ _ hb;have R:=ok.h _ _ hb;have hi:=In.of hb;have D:In B b.2.1:=by unfold In at*;omega
  have H:In B b.2.2:=by unfold In at*;omega
  have A:tr B (3-(b.1+1)) b.2.1≠tr B (3-(b.1+1)) b.2.2:=λh=>N (Hq ok (3-(b.1+1)) _ _ (by omega) D H (by omega) (by omega) h);have J:key B (i+2)=(b.1,.n (tr B (3-(b.1+1)) b.2.1) (tr B (3-(b.1+1)) b.2.2)):=by unfold key;rw[gy hb,DA hb I]
  have G:=at5 ok (λn h=>(c.two n h).2) hn;rw[J] at G;rw[gy hb] at hd ⊢;rw[DA hb I];simp only[fu,mQ,if_neg A];by_cases j:i+2∈V;rw[if_pos (.inr j),if_pos (G.2 j)];rw[if_neg (by
   intro h;rcases h with h|h;·omega
   exact j h),if_neg (λh=>j (G.1 h)),show i+2-2=i by omega,hb]
  dsimp only;obtain⟨c1,_⟩:=yq ok d b.2.1 V c D (by omega);rw[List.map_append,L b.2.2 _ c1 H (by omega),L b.2.1 V c D (by omega)];rw[(Dz ok D (V.map (key B)) (bR B b.2.1-(b.1+1)) (b.1+1) (by omega)).1,(Dz ok H _ (bR B b.2.2-(b.1+1)) (b.1+1) (by omega)).1];simp only[List.map_cons,List.map_nil,J]
def at8 (ok:OK B) (c:Cl B V):DM B V=(V.map (key B)).map (node (V.map (key B))):=by
 unfold DM;rw[List.map_map];apply List.map_congr_left;intro n G;obtain⟨h2,j⟩:=c.two n G;rcases j.cases with h|⟨i,b,rfl,hb⟩;omega;have A:=ok.v _ _ hb;have J:=ok.l _ _ hb;have L:=ok.h _ _ hb;have hi:=In.of hb;have H:In B b.2.1:=by unfold In at*;omega
 have I:In B b.2.2:=by unfold In at*;omega
 have D:key B (i+2)=(b.1,.n (tr B (3-(b.1+1)) b.2.1) (tr B (3-(b.1+1)) b.2.2)):=by unfold key;rw[gy hb,DA hb A]
 rw[show i+2-2=i by omega,hb];simp only[Function.comp_apply,D,node];rw[Hu ok (λn h=>(c.two n h).2) H (by omega),Hu ok (λn h=>(c.two n h).2) I (by omega)]
def Pe (ok:OK B) {r d} (j:In B r) (hd:3-bR B r<=d):(DM B (fu B d r []),nb (fu B d r []) r)=aE (tr B 3 r):=by
 obtain⟨c,_⟩:=yq ok d r [] Cl.nil j hd;have:=Id ok j;have e:mQ 0 (tr B 3 r) []=(fu B d r []).map (key B):=by
  rw[at7 ok d r [] Cl.nil j hd];exact(Dz ok j [] (bR B r) 0 (by omega)).1
 unfold aE;rw[e];dsimp only;rw[←at8 ok c];have:=Hu ok (λn h=>(c.two n h).2) j (v:=0) (by omega);rw[show(3:Nat)-0=3 from rfl] at this;rw[this]
def cA:Nat ->Tr ->Bool
 |0,.c _=>true
 |k+1,.n a b=>cA k a&&cA k b
 |_,_=>false
def iy:Nat ->List Tr
 |0=>[.c false,.c true]
 |k+1=>(iy k).flatMap λa=>(iy k).map λb=> .n a b
def Ie:∀{k t},cA k t=true ->t∈iy k
 |0,.c b,_=>by cases b<;>simp[iy]
 |0,.n _ _,h=>by simp[cA] at h
 |k+1,.c _,h=>by simp[cA] at h
 |k+1,.n a b,h=>by
  simp only[cA,Bool.and_eq_true] at h;simp only[iy,List.mem_flatMap,List.mem_map];exact⟨a,Ie h.1,b,Ie h.2,rfl⟩
def yU (b:Bool):Nat ->Tr
 |0=> .c b
 |k+1=> .n (yU b k) (yU b k)
def ph {b}:∀k,cA k (yU b k)=true
 |0=>rfl
 |k+1=>by simp[yU,cA,ph k]
def jq:Nat ->Tr ->Bool
 |0,.c _=>true
 |0,.n a b=>decide (a=b)&&jq 0 a
 |_+1,.c _=>true
 |n+1,.n a b=>jq n a&&jq n b
def Pf (B:List Br):Bool:=(List.range B.length).all λi=>match B[i]? with
 |some b=>decide (b.1<3)&&decide (b.2.1<i+2)&&decide (b.1<bR B b.2.1)&&decide (b.2.2<i+2)&&decide (b.1<bR B b.2.2)&&decide (b.2.1≠b.2.2)&&(List.range B.length).all λj=>decide (B[j]? =some b ->i=j)
 |none=>false
def at9 (h:Pf B=true):OK B:=by
 have key:∀(i:Nat) (b:Br),B[i]? =some b ->b.1<3/\ b.2.1<i+2/\ b.1<bR B b.2.1/\ b.2.2<i+2/\ b.1<bR B b.2.2/\ b.2.1≠b.2.2/\∀j:Nat,j<B.length ->B[j]? =some b ->i=j:=by
  intro i b hb;have hi:=(List.getElem?_eq_some_iff.1 hb).1;have:=List.all_eq_true.1 h i (List.mem_range.2 hi);rw[hb] at this;simp only[Bool.and_eq_true,decide_eq_true_eq,List.all_eq_true,List.mem_range] at this;obtain⟨⟨⟨⟨⟨⟨h1,h2⟩,D⟩,G⟩,H⟩,I⟩,J⟩:=this;exact⟨h1,h2,D,G,H,I,J⟩
 exact⟨λi b hb=>(key i b hb).1,λi b hb=>⟨(key i b hb).2.1,(key i b hb).2.2.1⟩,λi b hb=>⟨(key i b hb).2.2.2.1,(key i b hb).2.2.2.2.1⟩,λi b hb=>(key i b hb).2.2.2.2.2.1,λi j b hb A=>(key i b hb).2.2.2.2.2.2 j (List.getElem?_eq_some_iff.1 A).1 A⟩
def Pg (t:Tr):Bool:=Pf (aE t).1&&decide ((aE t).2<(aE t).1.length+2)&&decide (tr (aE t).1 3 (aE t).2=t)&&decide ((aE t).1.length<=7)
end Dg
namespace AM
open Go
noncomputable section
def tH {α:Type}:Nat ->(Nat ->Option α) ->T α
 |0,_=> .e
 |d+1,f=> .n (tH d λk=>f (2*k+1)) (f 0) (tH d λk=>f (2*k+2))
def DB {α}:∀{d f k} {x:α},(tH d f).get k=some x ->f k=some x
 |0,f,k,x,h=>by
  have:(T.e:T α).get k=none:=rfl;rw[show(tH 0 f)=T.e from rfl,this] at h;cases h
 |d+1,f,k,x,h=>by
  have e:(tH (d+1) f).get k=Bool.rec (Bool.rec ((tH d λk=>f (2*k+2)).get (Nat.sub (Nat.div k 2) 1)) ((tH d λk=>f (2*k+1)).get (Nat.div k 2)) (Nat.beq (Nat.mod k 2) 1)) (f 0) (Nat.beq k 0):=rfl;rw[e] at h;cases h0:Nat.beq k 0 with
  |true=>rw[h0] at h;rw[qG h0];exact h
  |false=>
   rw[h0] at h;have j:k≠0:=λq=>by subst q;cases h0
   cases h1:Nat.beq (Nat.mod k 2) 1 with
   |true=>
    rw[h1] at h;have h2:k%2=1:=qG h1;have:=DB h;rw[←this];congr 1;show k=2*(k/2)+1;omega
   |false=>
    rw[h1] at h;have h2:k%2≠1:=λq=>by rw[show Nat.mod k 2=1 from q] at h1;cases h1
    have:=DB h;rw[←this];congr 1;show k=2*(k/2-1)+2;omega
def AW {α:Type} (n:Nat):List α ->List α:=Nat.rec (motive:=λ_=>List α ->List α) (λl=>l) (λ_ j l=>List.casesOn (motive:=λ_=>List α) l [] λ_ t=>j t) n
def DC {α:Type} (n:Nat):List α ->List (List α):=Nat.rec (motive:=λ_=>List α ->List (List α)) (λ_=>[]) (λ_ j l=>l::j (AW 32 l)) n
def nP {α:Type} (l:List α) (k:Nat):Option α:=Option.rec (motive:=λ_=>Option α) none (λs=>sw s (Nat.mod k 32)) (sw (DC 32 l) (Nat.div k 32))
def yr {α}:∀n (l:List α),AW n l=l.drop n
 |0,l=>rfl
 |n+1,[]=>rfl
 |n+1,a::l=>yr n l
def DD {α}:∀(l:List α) (n),sw l n=l[n]?
 |[],n=>by cases n<;>rfl
 |a::l,0=>rfl
 |a::l,n+1=>by rw[Fv,←DD l n];rfl
def Ph {α}:∀n (l s:List α) (i),(DC n l)[i]? =some s ->s=l.drop (32*i)
 |0,l,s,i,h=>by cases h
 |n+1,l,s,0,h=>by
  have h':some l=some s:=h;cases h';rfl
 |n+1,l,s,i+1,h=>by
  have h':(DC n (AW 32 l))[i]? =some s:=h;have:=Ph n _ s i h';rw[this,yr,ud];congr 1;omega
def Hv {α l k} {x:α} (h:nP l k=some x):l[k]? =some x:=by
 unfold nP at h;rw[DD] at h;rcases j:(DC 32 l)[Nat.div k 32]? with _|s;rw[j] at h;cases h;rw[j] at h;have h':sw s (Nat.mod k 32)=some x:=h;rw[DD,Ph 32 l s _ j,mB] at h';rw[←h'];congr 1;exact(Nat.div_add_mod k 32).symm
def yu (I:Nat ->Option TypeInfo) (t:Nat):Option TypeDesc:=match I t with
 |some i=>(match i.desc with| .named _ u=>(match I u with|some j=>some j.desc|none=>none)|d=>some d)
 |none=>none
def z0 (v:Value):AV:=match v with
 | .bool b=>AV.b b| .int k n=> .i k n| .string s=> .s (s.data.toList.map UInt8.toNat)| .pointer none=> .pn| .slice none _ _=> .sn| .map none=> .mn| .nilFunc=> .fnil| .nilIface=> .ifn|_=> .un
def Pi (P:Program) (I:Nat ->Option TypeInfo) (t:Nat):Option TI:=match yu I t,I t with
 |some d,some inf=>match inf.zero with
  |some z=>bif d.isRow then match z with
   | .agg vs=>match vs.toList.map z0 with
    |zs=>bif CC 2 zs vs.toList then some ⟨d,inf.size,inf.bytes,zs,P.stoodInHeld t⟩ else none
   |_=>none
   else match z0 z with
    |zz=>bif kv 2 zz z&&ew zz then some ⟨d,inf.size,inf.bytes,[zz],P.stoodInHeld t⟩ else none
  |none=>none
 |_,_=>none
def Pj (P:Program):T TI:=tH 10 λt=>Pi P (nP P.types.toList) t
namespace Cp
def yv:Nat ->Value ->AV
 |_,.bool b=> .b b
 |_,.int k n=> .i k n
 |_,.string s=> .s (s.data.toList.map UInt8.toNat)
 |_,.pointer none=> .pn
 |_,.slice none _ _=> .sn
 |_,.map none=> .mn
 |_,.nilFunc=> .fnil
 |n+1,.func (.func f) a b=> .f f (a.toList.map (yv n)) (b.toList.map (yv n))
 |n+1,.iface t v=> .ifc t (yv n v)
 |_,.nilIface=> .ifn
 |n+1,.agg c=> .ag (c.toList.map (yv n))
 |n+1,.tuple c=> .tu (c.toList.map (yv n))
 |_,_=> .un
def b9:Operand ->MA
 | .tmp t=> .t t
 | .const v=> .c (yv 9 v)
 | .global g=> .g g
 | .func f=> .c (.f f [] [])
structure Cx where
 ty:T TI
 mt:List (String×List (Nat×Nat))
 wr:List Nat
 vw:List (Nat×List (Nat×Nat×Nat))
 tf:Bool
section
variable (ty:T TI) (mt:List (String×List (Nat×Nat)))
def kd (t:Nat):TypeDesc:=match ty.get t with|some i=>i.kd|none=> .chan .both 0
def sz (t:Nat):Nat:=match ty.get t with|some i=>i.size|none=>0
def DE (t:Nat):Nat:=match ty.get t with|some i=>i.bytes|none=>0
def zs (t:Nat):List AV:=match ty.get t with|some i=>i.zs|none=>[.un]
def agg (t:Nat):Bool:=match ty.get t with|some i=>i.kd.isRow|none=>false
def Hw (t:Nat):AV:=match ty.get t with|some i=>(bif i.kd.isRow then .ag i.zs else match i.zs with|[z]=>z|_=> .un)|none=> .un
def rep (n:Nat) (l:List AV):List AV:=(List.replicate n l).flatten
def fld (t k:Nat):Option Field:=match kd ty t with| .struct fs=>fs.toList[k]? |_=>none
def et:Nat ->Nat ->ET
 |0,_=> .lf .f
 |n+1,t=>match kd ty t with
  | .bool=> .lf .b
  | .int _=> .lf .i
  | .string=> .lf .s
  | .pointer _=> .lf .p
  | .slice _=> .lf .sl
  | .map _ _=> .lf .m
  | .interface _=> .lf .ifc
  | .struct fs=> .ag (fs.toList.map λf=>(f.offset,sz ty f.type,agg ty f.type,et n f.type))
  | .array k e=> .ag ((List.range k).map λi=>(i*sz ty e,sz ty e,agg ty e,et n e))
  |_=> .lf .f
def au0 (n:String):List (Nat×Nat):=match mt.find? (λe=>decide (e.1=n)) with|some e=>e.2|none=>[]
def Pk (t:Nat):Bool:=match kd ty t with| .int _=>true|_=>false
def Pl (t:Nat):Bool:=match kd ty t with| .string=>true|_=>false
def au1 (t:Nat):Bool:=match kd ty t with| .int .u8=>true|_=>false
def mem (n:Nat) (l:List Nat):Bool:=l.any (Nat.beq n)
end
section
variable (X:Cx)
end
def op:Op ->Cx ->Eb
 | .move x| .assign x=>λX=> .mv (b9 x)
 | .pick c a b=>λX=> .pick (b9 c) (b9 a) (b9 b)
 | .alloc t=>λX=>bif mem t X.wr then .bad 3 else .alloc (zs X.ty t)
 | .box t x=>λX=>bif mem t X.wr then .tbx t (b9 x) else .box (b9 x) (sz X.ty t)
 | .build t ps=>λX=>
  match kd X.ty t with
  | .struct fs=> .build (zs X.ty t) (ps.toList.map λ(i,x)=>match fs.toList[i]? with|some f=>(f.offset,sz X.ty f.type,b9 x)|none=>(0,0,b9 x))
  | .array _ e=> .build (zs X.ty t) (ps.toList.map λ(i,x)=>(i*sz X.ty e,sz X.ty e,b9 x))
  |_=> .bad 1
 | .buildSlice t len ps=>λX=>
  match kd X.ty t with
  | .slice e=> .bslice (rep len (zs X.ty e)) len (sz X.ty e) (ps.toList.map λ(i,x)=>(i*sz X.ty e,sz X.ty e,b9 x))
  |_=> .bad 2
 | .load t a=>λX=>bif X.tf then .tld (b9 a) (sz X.ty t) (agg X.ty t) else .load (b9 a) (sz X.ty t) (agg X.ty t)
 | .store t a x=>λX=>bif X.tf then .tst (b9 a) (b9 x) (sz X.ty t) else .store (b9 a) (b9 x) (sz X.ty t)
 | .nilCheck x=>λX=> .nilc (b9 x)
 | .binOp b t x y _=>λX=>bif Pk X.ty t||Pl X.ty t then .bin b (b9 x) (b9 y) else match b with
  | .eql=> .eqv false (et X.ty 9 t) (b9 x) (b9 y)
  | .neq=> .eqv true (et X.ty 9 t) (b9 x) (b9 y)
  |_=> .bad 18
 | .unOp u _ x=>λX=> .un u (b9 x)
 | .convert s d x=>λX=>
  match kd X.ty s,kd X.ty d with
  | .int _,.int k=> .cvi k (b9 x)
  | .string,.slice _=> .s2b (b9 x)
  | .slice _,.string=> .b2s (b9 x)
  | .pointer _,.unsafePointer=> .cvp (b9 x)
  | .unsafePointer,.pointer u=> .cvu (match X.vw.find? (λe=>Nat.beq e.1 u) with|some e=>e.2|none=>[]) (b9 x)
  |_,_=> .bad 3
 | .makeInterface t x=>λX=> .mif t (b9 x)
 | .makeFunc (.func f) a b=>λX=> .mfn f (a.toList.map b9) (b.toList.map b9)
 | .makeMap _ r=>λX=> .mmap (r.map b9)
 | .makeSlice t l c=>λX=>match kd X.ty t with
  | .slice e=> .mslice (zs X.ty e) (sz X.ty e) (DE X.ty e) (b9 l) (b9 c)
  |_=> .bad 4
 | .slice t x lo hi mx=>λX=>match kd X.ty t with
  | .string=> .slcs (b9 x) (lo.map b9) (hi.map b9)
  | .slice e=> .slc (sz X.ty e) (b9 x) (lo.map b9) (hi.map b9) (mx.map b9)
  |_=> .bad 5
 | .fieldAddr s x k=>λX=>match fld X.ty s k with|some f=>bif Nat.beq (sz X.ty f.type) 0 then .bad 6 else .fadr (b9 x) f.offset|none=> .bad 6
 | .field s x k=>λX=>match fld X.ty s k with|some f=> .fld (b9 x) f.offset (sz X.ty f.type) (agg X.ty f.type)|none=> .bad 7
 | .indexAddr t x ix=>λX=>match kd X.ty t with
  | .array n e=> .iadra n (sz X.ty e) (b9 x) (b9 ix)
  | .slice e=> .iadr (sz X.ty e) (b9 x) (b9 ix)
  |_=> .bad 8
 | .index t x ix=>λX=>match kd X.ty t with
  | .string=> .idxs (b9 x) (b9 ix)
  |_=> .bad 9
 | .lookup t m k ok=>λX=>match kd X.ty t with| .map q e=> .look (et X.ty 9 q) (b9 m) (b9 k) (Hw X.ty e) ok|_=> .bad 10
 | .mapUpdate t m k v| .insert t m k v=>λX=>match kd X.ty t with| .map q _=> .mupd (et X.ty 9 q) (b9 m) (b9 k) (b9 v)|_=> .bad 19
 | .mapEntry t m k=>λX=>match kd X.ty t with| .map q e=> .ment (et X.ty 9 q) (b9 m) (b9 k) (Hw X.ty e)|_=> .bad 11
 | .entryStore _ m s v=>λX=> .mest (b9 m) (b9 s) (b9 v)
 | .range t x=>λX=> .rng (b9 x) (Pl X.ty t)
 | .next x s=>λX=> .nxt (b9 x) s
 | .entry x=>λX=> .ent (b9 x)
 | .extract x k=>λX=> .ext (b9 x) k
 | .call c=>λX=>match c.callee with
  | .value x=>match b9 x with
   | .c (.f f [] [])=> .call f (c.args.toList.map b9)
   |a=> .callv a (c.args.toList.map b9)
  | .invoke r n=> .calli (b9 r) (au0 X.mt n) (c.args.toList.map b9)
  | .builtin b=>match b,c.args.toList,c.argTypes.toList with
   | .append,[s,x],[t,u]=>match kd X.ty t with
    | .slice e=>bif X.tf&&au1 X.ty e then .tap e (b9 s) (b9 x) (sz X.ty e) (DE X.ty e) else bif Pk X.ty u then .appz (b9 s) (b9 x) (sz X.ty e) (DE X.ty e) (zs X.ty e) else .app (b9 s) (b9 x) (sz X.ty e) (DE X.ty e)
    |_=> .bad 13
   | .len,[x],[t]=>match kd X.ty t with
    | .string=> .len .str (b9 x)
    | .array n _=> .len (.arr n) (b9 x)
    | .pointer a=>(match kd X.ty a with| .array n _=> .len (.arr n) (b9 x)|_=> .bad 14)
    | .slice _=> .len .slice (b9 x)
    | .map _ _=> .len .map (b9 x)
    |_=> .bad 14
   | .cap,[x],_=> .cap (b9 x)
   | .unsafeSliceData,[x],_=> .usd (b9 x)
   | .unsafeString,[x,y],[t,_]=>(match kd X.ty t with| .pointer e=> .ust e (b9 x) (b9 y)|_=> .bad 16)
   | .min,l,_=> .min (l.map b9)
   | .max,l,_=> .max (l.map b9)
   |_,_,_=> .bad 16
 |_=>λX=> .bad 17
structure jO where
 n:Nat
 o:List DI
 p:List Nat
section
variable (X:Cx)
def gd (ops:List Oper) (j:Nat):Nat:=match ops[j]? with|some o=>o.dst.getD 0|none=>0
def g (ops:List Oper) (o:Oper):MG:={ dst:=o.dst,op:=op o.op X,guard:=o.guard.map λ(j,w)=>(gd ops j,w) }
def DF:Eb ->Nat
 | .alloc _| .box .. | .bslice .. | .mmap _| .mslice .. | .tbx .. =>1
 | .mv _| .pick .. | .build .. | .load .. | .nilc _| .bin .. | .eqv .. | .un .. | .cvi .. | .b2s _| .mif .. | .mfn .. | .slc .. | .slcs .. | .fadr .. | .fld ..
 | .iadr .. | .iadra .. | .idxs .. | .look .. | .ent _| .ext .. | .len .. | .cap _| .min _| .max _| .tld .. | .cvp _| .cvu .. | .usd _=>0
 |_=>2
def Pm {α:Type} (l:List α):Nat:=List.rec (motive:=λ_=>Nat) 0 (λ_ _ j=>Nat.succ j) l
def Hx {α:Type} (l:List α):List α ->List α:=List.rec (motive:=λ_=>List α ->List α) (λr=>r) (λa _ j r=>j (a::r)) l
def au2 (w A:Nat) (D:List Edge):Nat:=List.rec (motive:=λ_=>Nat) 0 (λe _ j=>bif Region.binds .any e then Nat.lor (Nat.lor (Nat.shiftLeft 1 e.on) (Nat.land (Nat.shiftRight A (Nat.mul e.on w)) (Nat.sub (Nat.shiftLeft 1 w) 1))) j else j) D
def aK9 (w:Nat) (l:List Oper):Nat ->Nat ->(Nat ->jO) ->jO:=List.rec (motive:=λ_=>Nat ->Nat ->(Nat ->jO) ->jO) (λ_ A k=>k A) (λo _ ih i A k=>fN (Nat.lor A (Nat.shiftLeft (au2 w A o.after.toList) (Nat.mul i w))) λA=>fN (Nat.succ i) λi=>ih i A k) l
def au3 (i:Nat) (j:List Edge):Bool:=List.rec (motive:=λ_=>Bool) false (λe _ A=>(Region.binds .any e&&Nat.ble i e.on)||A) j
def Pn (l:List Oper):Nat ->Bool:=List.rec (motive:=λ_=>Nat ->Bool) (λ_=>false) (λo _ j i=>au3 i o.after.toList||j (Nat.succ i)) l
structure Q where
 i:Nat
 g:MG
 a:Nat
 k:Nat
def rdB (l:List Nat):Nat:=List.rec (motive:=λ_=>Nat) 0 (λt _ j=>Nat.lor (Nat.shiftLeft 1 t) j) l
def au4 (ops:List Oper) (w A:Nat) (l:List Oper):Nat ->Nat ->(List Q ->jO) ->jO:=List.rec (motive:=λ_=>Nat ->Nat ->(List Q ->jO) ->jO) (λ_ _ k=>k [])
 (λo _ ih i R k=>(λm=>fN (Nat.lor R (rdB (qc m))) λR=>fN (Nat.land (Nat.shiftRight A (Nat.mul i w)) (Nat.sub (Nat.shiftLeft 1 w) 1)) λa=>
  fN (match o.dst with|some d=>bif Nat.testBit R d then 2 else (bif m.guard.isNone||Nat.beq (DF m.op) 0 then DF m.op else 2)|none=>(bif m.guard.isNone||Nat.beq (DF m.op) 0 then DF m.op else 2)) λc=>
   fN (Nat.succ i) λj=>ih j R λr=>k (⟨i,m,a,c⟩::r)) (g X ops o)) l
def b2B (l:List Q):Nat:=List.rec (motive:=λ_=>Nat) 0 (λx _ j=>match x.g.op with| .b2s (.t y)=>Nat.lor (Nat.shiftLeft 1 y) j|_=>j) l
def au5 (l:List Q):List Q:=fN (b2B l) λB=>bif Nat.beq B 0 then l else
 List.rec (motive:=λ_=>List Q) [] (λx _ j=>(bif Nat.beq x.k 1&&(match x.g.dst with|some d=>Nat.testBit B d|none=>false) then ⟨x.i,x.g,x.a,2⟩ else x)::j) l
def Po (a b:Nat):Bool:=Nat.beq (Nat.land a b) a
def Hz (l:List Q):Nat ->Nat ->List Nat ->List DI ->List Q ->(Nat ->Nat ->List Nat ->List DI ->List Q ->jO) ->jO:=
 List.rec (motive:=λ_=>Nat ->Nat ->List Nat ->List DI ->List Q ->(Nat ->Nat ->List Nat ->List DI ->List Q ->jO) ->jO) (λd n p o q k=>k d n p o (Hx q []))
  (λx _ j d n p o q k=>bif Po x.a d&&Nat.ble x.k 1 then (fN (Nat.lor d (Nat.shiftLeft 1 x.i)) λd=>bif Nat.beq x.k 0 then j d n p (.light x.i x.g::o) q k else fN (Nat.succ n) λm=>j d m (x.i::p) (.resv x.i n x.g::o) q k) else j d n p o (x::q) k) l
def Pp (m:Nat) (l:List Nat) (o:List DI):List DI:=List.rec (motive:=λ_=>List DI) o (λi _ j=>bif Nat.testBit m i then .lay i::j else j) l
def au6 (m:Nat) (l:List Nat):List Nat:=List.rec (motive:=λ_=>List Nat) [] (λi _ j=>bif Nat.testBit m i then j else i::j) l
def au7 (d:Nat) (l:List Q) (k:Q ->List Q ->jO) (z:jO):jO:=List.rec (motive:=λ_=>(Q ->List Q ->jO) ->jO) (λ_=>z) (λx r j k=>bif Po x.a d then k x r else j λy r=>k y (x::r)) l k
def goQ (fw:Bool) (n:Nat):Nat ->Nat ->List Nat ->List DI ->List Q ->jO:=
 Nat.rec (motive:=λ_=>Nat ->Nat ->List Nat ->List DI ->List Q ->jO) (λ_ n p o _=>⟨n,o,p⟩) (λ_ j d n p o q=>Hz q d n p o [] λd n p o q=>
  (λ(c:Nat ->Nat ->List Nat ->List DI ->List Q ->jO)=>bif fw then Hz q d n p o [] λd n p o q=>Hz q d n p o [] c else c d n p o q) λd n p o q=>
   au7 d q (λx q=>fN (Nat.lor d (Nat.shiftLeft 1 x.i)) λd=>j d n (au6 x.a p) (.heavy x.i x.g x.a::Pp x.a (Hx p []) o) q) ⟨n,o,p⟩) n
def draw (ops:List Oper):aw:=
 match fN (Pm ops) λw=>aK9 w ops 0 0 λA=>(λ(c:Nat ->jO)=>bif Pn ops 0 then aK9 w ops 0 A λA=>aK9 w ops 0 A c else c A) λA=>
  au4 X ops w A ops 0 0 λl=>goQ (Pn ops 0) (Nat.succ w) 0 0 [] [] (au5 l) with
 |⟨n,o,p⟩=> .draw n (Hx o (Pp (Nat.sub (Nat.shiftLeft 1 (Pm ops)) 1) p []))
def au8 {α:Type} (l:List α):Option α:=List.rec (motive:=λ_=>Option α) none (λa r j=>List.casesOn (motive:=λ_=>Option α) r (some a) λ_ _=>j) l
def au9 (ops:List Oper):Option aw:=match au8 ops with
 |some o=>match o.op with
  | .defer c=>match c.callee with
   | .value (.tmp y)=>some (.dfr ((ops.dropLast).map (g X ops)) (.t y) ((ops.findSome? λo=>match o.op,o.dst with| .makeFunc (.func f) _ _,some t=>bif Nat.beq t y then some f else none|_,_=>none).getD 0))
   |_=>none
  |_=>none
 |none=>none
def av0 {α β:Type} (f:α ->β) (l:List α):List β:=List.rec (motive:=λ_=>List β) [] (λa _ j=>f a::j) l
def region (ops:List Oper) (d:Bool):aw:=match au9 X ops with
 |some c=>c
 |none=>bif d then draw X ops else .ops (av0 (g X ops) ops)
end
def code (c:Code):Cx ->aw:=Code.rec (motive:=λ_=>Cx ->aw)
 (λ_=> .skip) (λ_ ops d X=>region X ops.toList d) (λ_ _ a b X=> .seq (a X) (b X)) (λc _ _ a b X=> .cond (b9 c) (a X) (b X)) (λi _ c X=> .block i (c X)) (λ_ c X=> .loop (c X))
 (λf ps _ _ a b X=> .rfun (b9 f) ps.toList (a X) (b X)) (λi _=> .exit i) (λ_ c=>c) (λ_ _=> .skip) (λ_ _=> .bad 1) (λ_=> .ret) (λ_ _=> .bad 2) c
section
variable (X:Cx)
def fn (f:Func):au:=
 {
  ntmps:=f.ntmps,
  res:=f.results.toList.map (λ| .tmp t=>(t,none)| .cell a t=>(a,some (sz X.ty t,agg X.ty t))),
  body:=match f.body with|some c=>code c X|none=> .bad 3 }
end
end Cp
def Pq:T TI:=Pj Go.Proofs.Tryz.prog
def HB:List (String×List (Nat×Nat)):=[("koine/document.write",[(169,655),(170,657),(172,660),(174,661),(176,662),(178,663),(180,664)])]
def Ps:List (Nat×List (Nat×Nat×Nat)):=[(108,[(110,5,0)])]
def tfs:List Nat:=[7,35,333,428,655,656,657,658,659,660,661,662,663,664]
def yw (n:Nat) (F:Func):au:=Cp.fn ⟨Pq,HB,[110],Ps,Cp.mem n tfs⟩ F
def pg (n:Nat):au:=match nP Go.Proofs.Tryz.prog.funcs.toList n with|some F=>yw n F|none=>⟨0,[],.skip⟩
def HE:Nat ->Nat ->aw ->aw
 |0,_,c=>c
 |n+1,p,c=>bif Nat.beq p 1 then c else match c with
  | .seq a b| .cond _ a b| .rfun _ _ a b=>HE n (p/2) (bif Nat.beq (p%2) 0 then a else b)
  | .block _ a| .loop a=>HE n (p/2) a
  |c=>c
def sE (f p:Nat):aw:=HE 99 p (pg f).body
def tI (x:aw):Nat ->Nat ->aw ->aw
 |0,_,c=>c
 |n+1,p,c=>bif Nat.beq p 1 then x else match c with
  | .seq a b=>bif Nat.beq (p%2) 0 then .seq (tI x n (p/2) a) b else .seq a (tI x n (p/2) b)
  | .cond m a b=>bif Nat.beq (p%2) 0 then .cond m (tI x n (p/2) a) b else .cond m a (tI x n (p/2) b)
  | .rfun m l a b=>bif Nat.beq (p%2) 0 then .rfun m l (tI x n (p/2) a) b else .rfun m l a (tI x n (p/2) b)
  | .block i a=> .block i (tI x n (p/2) a)
  | .loop a=> .loop (tI x n (p/2) a)
  |c=>c
def pt (p:Nat) (x c:aw):aw:=tI x 99 p c
def bE (f:au) (g:aw ->aw):au:=⟨f.ntmps,f.res,g f.body⟩
def tQ (n:Nat):Bool:=Nat.ble n 1||(Nat.beq n 208||(Nat.beq n 316||(Nat.beq n 498||(Nat.beq n 499||(Nat.ble 639 n&&(Nat.ble n 654||Nat.ble 665 n))))))
def aG:T au:=tH 10 λn=>bif tQ n then none else match nP Go.Proofs.Tryz.prog.funcs.toList n with|some F=>some (yw n F)|none=>none
def bz8 (t:T au):Prop:=∀n m,aG.get n=some m ->t.get n=some m
def bz8.g {t} (F:bz8 t) (n:Nat) (c:au) (e:aG.get n=some c:=by (kernel_rfl)):t.get n=some c:=F n c e
def bz8.f {t} (F:bz8 t) (n:Nat) {c:au} (e:c=pg n:=by conv=>rhs;reduce;dsimp only[Int.ofNat_eq_natCast,Int.cast_ofNat_Int];simp only[Int.reduceNegSucc]) (s:aG.get n=some (pg n):=by (kernel_rfl)):t.get n=some c:=F n c (e▸s)
abbrev ev {α:Type} (t:α) {c:α} (_:c=t:=by conv=>rhs;reduce;dsimp only[Int.ofNat_eq_natCast,Int.cast_ofNat_Int,Int.reduceNegSucc]):α:=c
attribute [go_sem] ev
end
end AM
namespace AM
noncomputable section
def Qi:aw:=ev (sE 48 457931)
def JA:aw:=ev (sE 48 392395)
abbrev Qk:aw:=ev (sE 48 523467)
abbrev Sr:au:=(λx y z=>ev (bE (pg 48) λo=>pt 457931 x (pt 392395 y (pt 523467 z o)))) Qi JA Qk
def Ql:aw:=ev (sE 97 23)
abbrev bE2:au:=(λx=>ev (bE (pg 97) λo=>pt 23 x o)) Ql
def Iq:aw:=ev (sE 16 5707)
def JE:aw:=ev (sE 16 11851)
abbrev Ss:aw:=ev (sE 16 459)
abbrev EH:aw:=(λx y z=>ev (pt 89 x (pt 185 y (pt 7 z (sE 16 75))))) Iq JE Ss
abbrev Fj:aw:=ev (sE 16 23)
abbrev bP1:au:=(λx y=>ev (bE (pg 16) λo=>pt 75 x (pt 23 y o))) EH Fj
abbrev Su:aw:=ev (sE 87 39)
def Qn:aw:=ev (sE 87 5872023)
abbrev Sy:aw:=(λx=>ev (pt 45875 x (sE 87 151))) Qn
abbrev S1:aw:=ev (sE 87 47)
abbrev S2:aw:=ev (sE 87 1119)
abbrev TW:aw:=ev (sE 87 1631)
abbrev TY:aw:=ev (sE 87 191)
def Ir:aw:=ev (sE 87 255)
def Qp:aw:=(λx y z u=>ev (pt 34 x (pt 50 y (pt 5 z (pt 7 u (sE 87 63)))))) S2 TW TY Ir
def Ug:aw:=(λx y z u=>ev (pt 4 x (pt 18 y (pt 5 z (pt 7 u (sE 87 15)))))) Su Sy S1 Qp
abbrev JI:au:=(λx=>ev (bE (pg 87) λo=>pt 15 x o)) Ug
abbrev Ut:aw:=ev (sE 163 19)
abbrev aS6:au:=(λx=>ev (bE (pg 163) λo=>pt 19 x o)) Ut
def Qs:aw:=ev (sE 192 2)
def Qu:aw:=ev (sE 192 9)
def Qx:aw:=ev (sE 192 13)
def Qy:aw:=ev (sE 192 11)
def bF5:au:=(λx y z u=>ev (bE (pg 192) λo=>pt 2 x (pt 9 y (pt 13 z (pt 11 u o))))) Qs Qu Qx Qy
def Ux:aw:=ev (sE 488 2)
def Uy:aw:=ev (sE 488 9)
def Uz:aw:=ev (sE 488 37)
def UA:aw:=ev (sE 488 11)
def UQ:aw:=(λx y z=>ev (pt 4 x (pt 18 y (pt 5 z (sE 488 3))))) Uy Uz UA
def aK5:au:=(λx y=>ev (bE (pg 488) λo=>pt 2 x (pt 3 y o))) Ux UQ
def II:aw:=ev (sE 489 9)
def IQ:aw:=ev (sE 489 37)
def IR:aw:=ev (sE 489 11)
def IS:aw:=ev (sE 489 23)
def IT:aw:=ev (sE 489 79)
def IX:aw:=ev (sE 489 303)
def IY:aw:=ev (sE 489 687)
def I5:aw:=ev (sE 489 943)
def I6:aw:=(λx y z u=>ev (pt 2 x (pt 9 y (pt 21 z (pt 29 u (sE 489 47)))))) IT IX IY I5
def I7:aw:=ev (sE 489 95)
def I9:aw:=(λx y z u v w=>ev (pt 4 x (pt 18 y (pt 5 z (pt 11 u (pt 23 v (pt 47 w (sE 489 3)))))))) II IQ IR IS I6 I7
def aK6:au:=(λx=>ev (bE (pg 489) λo=>pt 3 x o)) I9
def HN:aw:=ev (sE 487 2)
def HO:aw:=ev (sE 487 9)
def WS:aw:=ev (sE 487 69)
def XW:aw:=ev (sE 487 101)
def XX:aw:=(λx y=>ev (pt 4 x (pt 6 y (sE 487 21)))) WS XW
def JF:aw:=ev (sE 487 19)
def Qz:aw:=ev (sE 487 155)
def JG:aw:=(λx=>ev (pt 9 x (sE 487 27))) Qz
def Yd:aw:=ev (sE 487 23)
def Ye:aw:=ev (sE 487 47)
def yA:aw:=ev (sE 487 1119)
def JH:aw:=ev (sE 487 18015)
def JJ:aw:=ev (sE 487 26207)
def JM:aw:=ev (sE 487 7775)
def yB:aw:=(λx y z=>ev (pt 17 x (pt 25 y (pt 7 z (sE 487 1631))))) JH JJ JM
def Yo:aw:=(λx y=>ev (pt 17 x (pt 25 y (sE 487 95)))) yA yB
def QE:aw:=ev (sE 487 191)
def QF:aw:=ev (sE 487 383)
def QH:aw:=ev (sE 487 767)
def QJ:aw:=ev (sE 487 1535)
def Yy:aw:=(λx y z u=>ev (pt 2 x (pt 5 y (pt 11 z (pt 23 u (sE 487 127)))))) QE QF QH QJ
def HR:aw:=(λx y z u v w=>ev (pt 4 x (pt 6 y (pt 5 z (pt 11 u (pt 23 v (pt 31 w (sE 487 7)))))))) JF JG Yd Ye Yo Yy
def It:au:=(λx y z u=>ev (bE (pg 487) λo=>pt 2 x (pt 9 y (pt 21 z (pt 7 u o))))) HN HO XX HR
def YB:aw:=ev (sE 405 2)
def YK:aw:=ev (sE 405 5)
def YL:aw:=ev (sE 405 11)
def Zd:aw:=ev (sE 405 47)
def Ze:aw:=ev (sE 405 95)
def Zp:aw:=(λx y=>ev (pt 5 x (pt 11 y (sE 405 15)))) Zd Ze
def aK3:au:=(λx y z u=>ev (bE (pg 405) λo=>pt 2 x (pt 5 y (pt 11 z (pt 15 u o))))) YB YK YL Zp
def Zu:aw:=ev (sE 486 5)
def DY:au:=(λx=>ev (bE (pg 486) λo=>pt 5 x o)) Zu
def Zv:aw:=ev (sE 404 2)
def ZB:aw:=ev (sE 404 9)
def ZE:aw:=ev (sE 404 11)
def ZH:aw:=(λx y=>ev (pt 4 x (pt 5 y (sE 404 3)))) ZB ZE
def Is:au:=(λx y=>ev (bE (pg 404) λo=>pt 2 x (pt 3 y o))) Zv ZH
def ac1:aw:=ev (sE 270 2)
def ac2:aw:=ev (sE 270 9)
def ac6:aw:=ev (sE 270 21)
def ac7:aw:=(λx y=>ev (pt 2 x (pt 5 y (sE 270 5)))) ac2 ac6
def ac8:aw:=ev (sE 270 11)
def Bh:au:=(λx y z=>ev (bE (pg 270) λo=>pt 2 x (pt 5 y (pt 11 z o)))) ac1 ac7 ac8
def ac9:aw:=ev (sE 406 5)
def aK7:au:=(λx=>ev (bE (pg 406) λo=>pt 5 x o)) ac9
def bB2:aw:=ev (sE 158 2)
def bB3:aw:=ev (sE 158 5)
def QG:au:=(λx y=>ev (bE (pg 158) λo=>pt 2 x (pt 5 y o))) bB2 bB3
def ad2:aw:=ev (sE 271 5)
def Sa:au:=(λx=>ev (bE (pg 271) λo=>pt 5 x o)) ad2
def ad3:aw:=ev (sE 161 2)
def ad4:aw:=ev (sE 161 5)
def ao9:au:=(λx y=>ev (bE (pg 161) λo=>pt 2 x (pt 5 y o))) ad3 ad4
def aq3:aw:=ev (sE 274 5)
def Q1:au:=(λx=>ev (bE (pg 274) λo=>pt 5 x o)) aq3
def aq7:aw:=ev (sE 193 2)
def as1:aw:=ev (sE 193 5)
def as2:aw:=ev (sE 193 11)
def aw1:aw:=ev (sE 193 47)
def az7:aw:=ev (sE 193 95)
def az8:aw:=ev (sE 193 191)
def aG3:aw:=(λx y z=>ev (pt 5 x (pt 11 y (pt 23 z (sE 193 15))))) aw1 az7 az8
def bR3:au:=(λx y z u=>ev (bE (pg 193) λo=>pt 2 x (pt 5 y (pt 11 z (pt 15 u o))))) aq7 as1 as2 aG3
def JN:aw:=ev (sE 301 9)
def KJ:aw:=ev (sE 301 77)
def Pt:aw:=(λx=>ev (pt 9 x (sE 301 13))) KJ
def aG4:aw:=ev (sE 301 11)
def aG5:aw:=ev (sE 301 23)
def aG6:aw:=ev (sE 301 47)
def QK:aw:=ev (sE 301 95)
def QL:aw:=ev (sE 301 191)
def QM:aw:=ev (sE 301 383)
def aG7:aw:=(λx y z u v=>ev (pt 2 x (pt 5 y (pt 11 z (pt 23 u (pt 47 v (sE 301 15))))))) aG5 aG6 QK QL QM
def Jj:au:=(λx y z u=>ev (bE (pg 301) λo=>pt 9 x (pt 13 y (pt 11 z (pt 15 u o))))) JN Pt aG4 aG7
def QN:aw:=ev (sE 165 2)
def QO:aw:=ev (sE 165 5)
def pu:au:=(λx y=>ev (bE (pg 165) λo=>pt 2 x (pt 5 y o))) QN QO
def QU:aw:=ev (sE 275 9)
def QW:aw:=ev (sE 275 13)
def Q2:aw:=ev (sE 275 19)
def Q3:aw:=ev (sE 275 2251)
def Q5:aw:=ev (sE 275 5323)
def Rg:aw:=ev (sE 275 7371)
def Rl:aw:=ev (sE 275 971)
def Pu:aw:=(λx y z u=>ev (pt 17 x (pt 41 y (pt 57 z (pt 7 u (sE 275 203)))))) Q3 Q5 Rg Rl
def Ja:aw:=(λx=>ev (pt 3 x (sE 275 75))) Pu
def Rm:aw:=(λx y=>ev (pt 4 x (pt 18 y (sE 275 7)))) Q2 Ja
def Q0:au:=(λx y z=>ev (bE (pg 275) λo=>pt 9 x (pt 13 y (pt 7 z o)))) QU QW Rm
def aG8:aw:=ev (sE 403 9)
def Rp:aw:=ev (sE 403 1125)
def Rq:aw:=ev (sE 403 2661)
def Rs:aw:=ev (sE 403 5733)
def Rv:aw:=(λx y=>ev (pt 2 x (pt 5 y (sE 403 1637)))) Rq Rs
def RA:aw:=ev (sE 403 485)
def PC:aw:=(λx y z=>ev (pt 17 x (pt 25 y (pt 7 z (sE 403 101))))) Rp Rv RA
def AX:aw:=(λx=>ev (pt 3 x (sE 403 37))) PC
def aG9:aw:=(λx y=>ev (pt 4 x (pt 18 y (sE 403 3)))) aG8 AX
def QZ:au:=(λx=>ev (bE (pg 403) λo=>pt 3 x o)) aG9
def aH0:aw:=ev (sE 142 37)
def aH1:aw:=(λx=>ev (pt 9 x (sE 142 5))) aH0
def aH2:aw:=ev (sE 142 11)
def aH3:au:=(λx y=>ev (bE (pg 142) λo=>pt 5 x (pt 11 y o))) aH1 aH2
end
end AM
namespace AM
open Dg Go
noncomputable section
def gH (b:Br):List AV:=[.i .i64 (b.1:Int),.i .i64 (b.2.1:Int),.i .i64 (b.2.2:Int)]
def dK (B:List Br):List AV:=(B.map gH).flatten
def tp (B:List Br):AV:=match B with|[]=> .sn|B=> .ds (dK B) 0 B.length 3
def eD (d:List Br×Nat):AV:= .ag [tp d.1,.i .i64 (d.2:Int)]
def DZ B:(dK B).length=B.length*3:=by
 induction B with
 |nil=>rfl
 |cons b B ih=>simp[dK] at ih ⊢;rw[ih];simp[gH];omega
def Iw b B:dK (b::B)= .i .i64 (b.1:Int):: .i .i64 (b.2.1:Int):: .i .i64 (b.2.2:Int)::dK B:=by simp[dK,gH]
def Ix (B C:List Br):dK (B++C)=dK B++dK C:=by simp[dK]
variable {B:List Br}
def nQ:∀{i b},B[i]? =some b ->∀j n,j+n<=3 ->sub (dK B) (i*3+j) n=some (((gH b).drop j).take n):=by
 intro i b hb j n D;have A:i<B.length:=(eC.1 hb).1;rw[nH,aF (by rw[DZ];omega)];congr 1;have:∀(B:List Br) (i:Nat),B[i]? =some b ->((dK B).drop (i*3))=gH b++dK (B.drop (i+1)):=by
  intro B;induction B with
  |nil=>intro i h;simp at h
  |cons a B ih=>
   intro i h;rcases i with _|i;simp at h;subst h;simp[dK];simp at h;rw[Iw,show(i+1)*3=i*3+3 by omega];simpa using ih i h
 rw[←ud,this B i hb];simp only[gH];rcases j with _|_|_|j;rcases n with _|_|_|_|n<;>first|omega|rfl|simp
 rcases n with _|_|_|n<;>first|omega|rfl|simp
 rcases n with _|_|n<;>first|omega|rfl|simp
 have:j=0/\ n=0:=by omega
 obtain⟨rfl,rfl⟩:=this;simp
def YR n h B:bJ n h (dK B)=some (dK B):=by
 induction B with
 |nil=>rfl
 |cons b B ih=>rw[Iw];simp only[aL,ih,deep]
def qU h d:deep 9 h (eD d)=some (eD d):=by
 obtain⟨B,r⟩:=d;rcases B with _|⟨b,B⟩;rfl;have:bJ 8 h [.ds (dK (b::B)) 0 (b::B).length 3,.i .i64 (r:Int)]=some [.ds (dK (b::B)) 0 (b::B).length 3,.i .i64 (r:Int)]:=by
  have e:deep 8 h (.ds (dK (b::B)) 0 (b::B).length 3)=(match bJ 7 h (dK (b::B)) with|some l=>some (.ds l 0 (b::B).length 3)|none=>none):=rfl;simp only[aL,YR,bZ,deep]
 show(match bJ 8 h [.ds (dK (b::B)) 0 (b::B).length 3,.i .i64 (r:Int)] with|some l=>some (AV.ag l)|none=>none)=_;rw[this];rfl
variable {n:Nat}
def Q6 B:nice.niceL n (dK B)=true:=by
 induction B with
 |nil=>exact iq
 |cons b B ih=>rw[Iw];simp only[Bg,j9,ih,A7]
def yF:nice (n+1) (tp B)=true:=by
 rcases B with _|⟨b,B⟩;exact Dk;show nice (n+1) (.ds _ _ _ _)=true;rw[nN,Q6]
variable {P:Program} {X:aR} {GL:T (List AV)} {ae:T au}
def pl (B:List Br) (r:Nat):Nat:=if r<2 then 64 else bR B r
variable (F:bz8 ae)
def aw3 {r} (G:In B n) (hb:B.length<=4096):bg P X GL ae 192 [eD (B,r),.i .i64 (n)] (ι (pl B n)):=by
 refine bg.intro λC E=> ?_;rw[ke E.ok (E.get (F.g 192 bF5))];rcases G.cases with h1|⟨i,b,rfl,j⟩;have A:(n:Int)<2:=by omega
 simp only[bF5,Qs,Qu,Qx,Qy,↓dX E.ok,↓dE,↓dG,bI,dF,A,Nat.reduceEqDiff,reduceIte,eZ,fY,eD,go_sem];exact⟨1,by simp[deep,pl,h1]⟩;have A:¬(((i+2:Nat):Int)<2):=by omega
 have D:i<B.length:=(eC.1 j).1;have e1:((i+2:Nat):Int)-2=(i:Int):=by omega
 have e2:aY .sub (ι ((i+2:Nat):Int)) (ι 2)=some (ι (i:Int)):=by rw[rX ω,e1]
 have e3:tp B= .ds (dK B) 0 B.length 3:=by cases B with|nil=>simp at D|cons _ _=>rfl
 have e4:sub (dK B) (i*3) 1=some [.i .i64 (b.1:Int)]:=by have:=nQ j 0 1 ω;simpa[gH] using this
 simp only[bF5,Qs,Qu,Qx,Qy,↓dX E.ok,↓dE,↓dG,bI,dF,A,Nat.reduceEqDiff,reduceIte,eZ,fY,eD,e2,e3,D,e4,go_sem];exact⟨1,by simp[deep,pl,gy j,show¬(i+2<2) by omega]⟩
variable (S:aT P X GL ae)
def D3 (F:bz8 ae) {r} (j:In B n) (hb:B.length<=4096) h:bP P X GL 192 [eD (B,r),.i .i64 (n)] h (ι (pl B n)) h:=
 dR S (aw3 F j hb) (n:=9) (by simp only[aL,qU,bZ,deep]) h
variable {v:Nat}
def aw4 (F:bz8 ae) {r:Nat} (G:In B n) (hb:B.length<=4096) (H:v<64):bg P X GL ae 488 [eD (B,r),.i .i64 (n),.i .i64 (v)] (.tu [.i .i64 (lo B n v),.i .i64 (hi B n v)]):=by
 refine bg.intro λC E=> ?_;rw[ke E.ok (E.get (F.g 488 aK5))];simp only[aK5,Ux,Uy,Uz,UA,UQ,↓dX E.ok,↓dE,↓dG,bI,dF,Nat.reduceEqDiff,Nat.reduceAdd,reduceIte,eZ,fY,eD,go_sem];refine E.cN (D3 S F G hb _) ?_;rcases G.cases with h1|⟨i,b,rfl,j⟩;have e:((pl B n:Nat):Int)=64:=by simp[pl,h1]
 have e2:¬((64:Int)=(v:Int)):=by omega
 simp only[↓dX E.ok,↓dE,↓dG,bI,dF,e,e2,Nat.reduceEqDiff,reduceIte,go_sem];exact⟨1,by simp[deep,lJ,tg,tF h1,tG h1]⟩;have D:i<B.length:=(eC.1 j).1;have e:((pl B (i+2):Nat):Int)=(b.1:Int):=by simp[pl,gy j,show¬(i+2<2) by omega]
 by_cases e2:b.1=v;have A:((b.1:Nat):Int)=(v:Int):=by omega
 have e5:aY .sub (ι ((i+2:Nat):Int)) (ι 2)=some (ι (i:Int)):=by rw[rX ω];congr 2;omega
 have e3:tp B= .ds (dK B) 0 B.length 3:=by cases B with|nil=>simp at D|cons _ _=>rfl
 have e4:sub (dK B) (i*3+1) 1=some [.i .i64 (b.2.1:Int)]:=by have:=nQ j 1 1 ω;simpa[gH] using this
 have e6:sub (dK B) (i*3+2) 1=some [.i .i64 (b.2.2:Int)]:=by have:=nQ j 2 1 ω;simpa[gH] using this
 simp only[↓dX E.ok,↓dE,↓dG,bI,dF,e,A,e3,e4,e5,e6,D,Nat.reduceEqDiff,reduceIte,go_sem];exact⟨1,by simp[deep,lJ,tg,pb j,Gu j,e2]⟩;have A:¬(((b.1:Nat):Int)=(v:Int)):=by omega
 simp only[↓dX E.ok,↓dE,↓dG,bI,dF,e,A,Nat.reduceEqDiff,reduceIte,go_sem];exact⟨1,by simp[deep,lJ,tg,pb j,Gu j,e2]⟩
def Iy (F:bz8 ae) {r:Nat} (j:In B n) (hb:B.length<=4096) (A:v<64) h:bP P X GL 488 [eD (B,r),.i .i64 (n),.i .i64 (v)] h (.tu [.i .i64 (lo B n v),.i .i64 (hi B n v)]) h:=
 dR S (aw4 S F j hb A) (n:=9) (by simp only[aL,qU,bZ,deep]) h
attribute [go_sem] yF
def eB (b:Br):AV:= .ag [.i .i64 (b.1:Int),.i .i64 (b.2.1:Int),.i .i64 (b.2.2:Int)]
def eN (n:Nat):AV:= .i .i64 (n:Int)
def yG:rZ eB t3 where
 eq:=λa b=>by
  have:=Hd.eq ((a.1:Int),(a.2.1:Int),(a.2.2:Int)) ((b.1:Int),(b.2.1:Int),(b.2.2:Int));refine this.trans ?_;obtain⟨a1,a2,a3⟩:=a;obtain⟨j,b2,b3⟩:=b;congr 1;rw[decide_eq_decide];simp only[xK];omega
 q:=λa=>Hd.q ((a.1:Int),(a.2.1:Int),(a.2.2:Int))
 self:=λa=>Hd.self ((a.1:Int),(a.2.1:Int),(a.2.2:Int))
def iJ:Nat ->List Br ->List (Br×Nat)
 |_,[]=>[]
 |i,b::B=>(b,i+2)::iJ (i+1) B
def Q7:∀(B C:List Br) (i),iJ i (B++C)=iJ i B++iJ (i+B.length) C
 |[],C,i=>by simp[iJ]
 |b::B,C,i=>by simp only[gw,iJ,Q7 B C (i+1),gJ];rw[show i+(B.length+1)=i+1+B.length by omega]
def Iz:∀B i b,(∀n,look b (iJ i B)=some n ->∃j,n=i+j+2/\ B[j]? =some b)/\ (look b (iJ i B)=none ->∀j:Nat,B[j]?≠some b)
 |[],i,b=>⟨λn h=>by simp[iJ,look] at h,λ_ j h=>by simp at h⟩
 |a::B,i,b=>by
  obtain⟨h1,h2⟩:=Iz B (i+1) b;by_cases e:b=a;subst e;exact⟨λn h=>by simp[iJ,look] at h;exact⟨0,by omega,rfl⟩,λh=>by simp[iJ,look] at h⟩;refine⟨λn h=> ?_,λh j=> ?_⟩;simp only[iJ,look,aD e] at h;obtain⟨j,e1,e2⟩:=h1 n h;exact⟨j+1,by omega,by simpa using e2⟩;simp only[iJ,look,aD e] at h;rcases j with _|j;simp;exact λh=>e h.symm;simpa using h2 h j
def gN (g:Nat ->Option bC) (o:Nat) (B:List Br) (a:AV):Prop:=(B=[]/\ a= .sn)∨(B≠[]/\ a= .sl o 0 B.length none 3/\∃v,g o=some (.cells v (dK B)))
structure BS (p q:Nat) (B:List Br) (o:Nat) (h:AH):Prop where
 known:yh eB eN h p (iJ 0 B)
 cell:∃v a,h.oB.get q=some (.cells v [a,.m p])/\ gN h.oB.get o B a
structure BF (p q:Nat) (o:Nat) (h:AH) (o':Nat) (h':AH):Prop where
 next:h.next<=h'.next
 same:∀j,j<h.next ->j≠p ->j≠q ->j≠o ->h'.oB.get j=h.oB.get j
 new:o'=o∨h.next<=o'
variable {C:aK Prop} (E:Sem P X GL ae C)
variable {o:Nat}
def aw5 (F:bz8 ae) {p q m ver ob} (bs:BS p q B o ⟨m+17,ver,ob⟩) (hp:p<17) (hq:q<17) (d1:p≠q) (ho:B≠[] ->o<m+17/\ o≠p/\ o≠q) {l hh}
 (eQ:B.length+1<=1048576) (k)
 (hk:∀r B' o' h',BS p q B' o' h' ->BF p q o ⟨m+17,ver,ob⟩ o' h' ->(B'≠[] ->o'<h'.next/\ o'≠p/\ o'≠q) ->
  (l=hh/\ r=l/\ B'=B)∨(l≠hh/\∃i:Nat,r=i+2/\ B'[i]? =some (v,l,hh)/\ (B'=B∨(B'=B++[(v,l,hh)]/\∀j:Nat,B[j]?≠some (v,l,hh)))) ->k (ι (r)) h'):
 du C 489 [.p q 0,.i .i64 (v),.i .i64 (l),.i .i64 (hh)] ⟨m+17,ver,ob⟩ k:=by
 rw[ke E.ok (E.get (F.g 489 aK6))];by_cases e:l=hh;have e':((l:Int)=(hh:Int))=True:=cJ;simp only[aK6,II,IQ,IR,IS,IT,IX,IY,I5,I6,I7,I9,↓dX E.ok,↓dE,↓dG,bI,dF,e',Nat.reduceEqDiff,Nat.reduceAdd,reduceIte,eZ,fY,go_sem];exact hk l B o _ bs ⟨bB _,λ_ _ _ _ _=>rfl,.inl rfl⟩ (λhb=>⟨(ho hb).1,(ho hb).2⟩) (.inl ⟨e,rfl,rfl⟩);have e':((l:Int)=(hh:Int))=False:=cE;obtain⟨D,hg⟩:=bs.known;obtain⟨Y,a,hc,hn⟩:=bs.cell;have J:ob.get q=some (.cells Y [a,.m p]):=hc;have L:ob.get p=some (.map D (di eB eN 0 (iJ 0 B)) (iJ 0 B).length):=hg;have n1:(q=m+17)=False:=cE;have n2:(p=m+17)=False:=cE;have n3:(q=m+18)=False:=cE;have n4:(p=m+18)=False:=cE;have n5:(q=m+19)=False:=cE;have n6:(p=m+19)=False:=cE;have O:(m+17=p)=False:=cE;have b8:(m+18=p)=False:=cE;have R:(m+19=p)=False:=cE;have U:(m+17=q)=False:=cE;have c6:(m+18=q)=False:=cE;have W:(m+19=q)=False:=cE;have s1:(m=m+1)=False:=cE;have s2:(m=m+2)=False:=cE;have n7:(q=p)=False:=cE;have n8:(p=q)=False:=cE;have lk:∀A ob' (ev:MA ->AV),T.get ob' p=some (.map D (di eB eN 0 (iJ 0 B)) (iJ 0 B).length) ->ev (.t 24)= .m p ->ev (.t 25)= .ag [.i .i64 (v:Int),.i .i64 (l:Int),.i .i64 (hh:Int)] ->
  step ev ⟨m+17+1,A,ob'⟩ (.look t3 (.t 24) (.t 25) (ι 0) true)= .v (Bb eN (ι 0) (look (v,l,hh) (iJ 0 B))) ⟨m+17+1,A,ob'⟩:=
  λA ob' ev G H I=>uQ (k:=(v,l,hh)) (z:= .i .i64 0) yG (h:=⟨m+17+1,A,ob'⟩) ⟨D,G⟩ H I
 have b3:∀A ob' (ev:MA ->AV),cG (T.get ob' (m+18))=some [.i .i64 (v:Int),.i .i64 (l:Int),.i .i64 (hh:Int)] ->ev (.t 35)= .sn ->ev (.t 37)= .sl (m+18) 0 1 (some 1) 3 ->
  step ev ⟨m+17+1+1,A,ob'⟩ (.app (.t 35) (.t 37) 3 24)= .v (.sl (m+19) 0 1 none 3) ⟨m+17+1+1+1,A,ob'.put (m+19) (.cells A [.i .i64 (v:Int),.i .i64 (l:Int),.i .i64 (hh:Int)])⟩:=
  λA ob' ev G H I=>Hf (h:=⟨m+17+1+1,A,ob'⟩) H I (wG.trans G) rfl rfl
 have b4:∀A ob' (ev:MA ->AV),cG (T.get ob' (m+18))=some [.i .i64 (v:Int),.i .i64 (l:Int),.i .i64 (hh:Int)] ->cG (T.get ob' o)=some (dK B) ->ev (.t 35)= .sl o 0 B.length none 3 ->ev (.t 37)= .sl (m+18) 0 1 (some 1) 3 ->
  step ev ⟨m+17+1+1,A,ob'⟩ (.app (.t 35) (.t 37) 3 24)= .v (.sl (m+19) 0 (B.length+1) none 3) ⟨m+17+1+1+1,A+1,(ob'.put o .gone).put (m+19) (.cells (A+1) (dK B++[.i .i64 (v:Int),.i .i64 (l:Int),.i .i64 (hh:Int)]))⟩:=
  λA ob' ev G q0 H I=>He (h:=⟨m+17+1+1,A,ob'⟩) H (wG.trans q0) (DZ B) I (wG.trans G) rfl rfl eQ
 have mu:∀A ob' (ev:MA ->AV),T.get ob' p=some (.map D (di eB eN 0 (iJ 0 B)) (iJ 0 B).length) ->ev (.t 50)= .m p ->ev (.t 51)= .ag [.i .i64 (v:Int),.i .i64 (l:Int),.i .i64 (hh:Int)] ->ev (.t 52)= .i .i64 ((B.length+2:Nat):Int) ->
  step ev ⟨m+17+1+1+1,A,ob'⟩ (.mupd t3 (.t 50) (.t 51) (.t 52))= .v .un ⟨m+17+1+1+1,A+1,ob'.put p (.map (A+1) (di eB eN 0 (ups (v,l,hh) (B.length+2) (iJ 0 B))) (ups (v,l,hh) (B.length+2) (iJ 0 B)).length)⟩:=
  λA ob' ev G H I q4=>mL (k:=(v,l,hh)) (v:=B.length+2) yG (h:=⟨m+17+1+1+1,A,ob'⟩) ⟨D,G⟩ H I q4
 unfold t3 at lk mu;cases Z:look (v,l,hh) (iJ 0 B) with
 |some n=>
  simp only[aK6,II,IQ,IR,IS,IT,IX,IY,I5,I6,I7,I9,↓dX E.ok,↓dE,↓dG,bI,dF,e',J,L,n1,n2,Nat.reduceEqDiff,Nat.reduceAdd,reduceIte,eZ,fY,lk,Z,Bb,eN,go_sem];obtain⟨j,c7,b5⟩:=(Iz B 0 (v,l,hh)).1 n Z;refine hk n B o _ ⟨⟨D,?_⟩,Y,a,?_,?_⟩ ⟨by show m+17<=m+17+1;omega,λi h1 _ _ _=> ?_,.inl rfl⟩ (λhb=>⟨by have:=(ho hb).1;show o<m+17+1;omega,(ho hb).2⟩) (.inr ⟨e,j,by omega,b5,.inl rfl⟩);simp only[T.get_put,n2,bV];exact L;simp only[T.get_put,n1,bV];exact J;rcases hn with hn|⟨h1,h2,v3,h3⟩;exact .inl hn;refine .inr ⟨h1,h2,v3,?_⟩;have:(o=m+17)=False:=dQ (by have:=(ho h1).1;omega);simp only[T.get_put,this,bV];exact h3;have:(i=m+17)=False:=dQ (by have b0:i<m+17:=h1;omega);simp only[T.get_put,this,bV]
 |none=>
  have N:=(Iz B 0 (v,l,hh)).2 Z;have b6:ups (v,l,hh) (B.length+2) (iJ 0 B)=iJ 0 (B++[(v,l,hh)]):=by rw[yg Z,Q7];simp[iJ]
  rw[b6] at mu;rcases hn with ⟨hB,ha⟩|⟨hB,ha,b2,b7⟩;subst ha;have ad:aY .add (ι ((1:Nat):Int)) (ι 1)=some (ι ((B.length+2:Nat):Int)):=by rw[wD ω];subst hB;rfl
  simp only[aK6,II,IQ,IR,IS,IT,IX,IY,I5,I6,I7,I9,↓dX E.ok,↓dE,↓dG,bI,dF,e',J,L,n1,n2,n3,n4,n5,n6,n7,n8,O,U,s1,s2,b3,ad,mu,Nat.reduceEqDiff,Nat.reduceAdd,Nat.reduceShiftRight,Nat.reduceAnd,Nat.reduceBneDiff,reduceIte,eZ,fY,lk,Z,Bb,go_sem];refine hk (B.length+2) (B++[(v,l,hh)]) (m+19) _ ⟨⟨ver+1+1+1+1,?_⟩,ver+1+1+1,.sl (m+19) 0 1 none 3,?_,.inr ⟨by simp,by subst hB;rfl,ver+1+1,?_⟩⟩ ⟨by show m+17<=m+17+1+1+1;omega,λi h1 h2 h3 _=> ?_,.inr (by show m+17<=m+19;omega)⟩
   (λ_=>⟨by show m+19<m+17+1+1+1;omega,by omega,by omega⟩) (.inr ⟨e,B.length,rfl,by simp,.inr ⟨rfl,N⟩⟩)
  simp only[T.get_put,dZ];simp only[T.get_put,n7,bV,dZ];simp only[T.get_put,R,W,bV,dZ];subst hB;rfl;have b0:i<m+17:=h1;have G:(i=m+17)=False:=cE;have H:(i=m+18)=False:=cE;have I:(i=m+19)=False:=cE;have q4:(i=p)=False:=dQ h2;have q5:(i=q)=False:=dQ h3;simp only[T.get_put,G,H,I,q4,q5,bV];subst ha;have d0:=ho hB;have b1:ob.get o=some (.cells b2 (dK B)):=b7;have o1:(o=m+17)=False:=cE;have o2:(o=m+18)=False:=cE;have o3:(o=m+19)=False:=cE;have o4:(m+17=o)=False:=cE;have o5:(m+18=o)=False:=cE;have o6:(m+19=o)=False:=cE;have o7:(p=o)=False:=cE;have o8:(q=o)=False:=cE;have ad:aY .add (ι ((B.length+1:Nat):Int)) (ι 1)=some (ι ((B.length+2:Nat):Int)):=by rw[wD ω];congr 2
  simp only[aK6,II,IQ,IR,IS,IT,IX,IY,I5,I6,I7,I9,↓dX E.ok,↓dE,↓dG,bI,dF,e',J,L,n1,n2,n3,n4,n5,n6,n7,n8,O,U,s1,s2,b4,ad,mu,b1,o1,o2,o4,o7,o8,Nat.reduceEqDiff,Nat.reduceAdd,Nat.reduceShiftRight,Nat.reduceAnd,Nat.reduceBneDiff,reduceIte,eZ,fY,lk,Z,Bb,go_sem];refine hk (B.length+2) (B++[(v,l,hh)]) (m+19) _ ⟨⟨ver+1+1+1+1+1,?_⟩,ver+1+1+1+1,.sl (m+19) 0 (B.length+1) none 3,?_,.inr ⟨by simp,by simp,ver+1+1+1,?_⟩⟩ ⟨by show m+17<=m+17+1+1+1;omega,λi h1 h2 h3 h4=> ?_,.inr (by show m+17<=m+19;omega)⟩
   (λ_=>⟨by show m+19<m+17+1+1+1;omega,by omega,by omega⟩) (.inr ⟨e,B.length,rfl,by simp,.inr ⟨rfl,N⟩⟩)
  simp only[T.get_put,dZ];simp only[T.get_put,n7,bV,dZ];simp only[T.get_put,R,W,bV,dZ,Ix];rfl;have b0:i<m+17:=h1;have G:(i=m+17)=False:=cE;have H:(i=m+18)=False:=cE;have I:(i=m+19)=False:=cE;have q4:(i=p)=False:=dQ h2;have q5:(i=q)=False:=dQ h3;have q6:(i=o)=False:=dQ h4;simp only[T.get_put,G,H,I,q4,q5,q6,bV]
def cY (g:Bool ->Bool ->Bool):Tr ->Tr ->Tr
 | .c a,.c b=> .c (g a b)
 | .n a b,.n c d=> .n (cY g a c) (cY g b d)
 |t,_=>t
def nR (g:Bool ->Bool ->Bool) (NA NB B:List Br) (x y r:Nat):Prop:=
 In B r/\∀k,k<=3 ->3-k<=bR NA x ->3-k<=bR NB y ->3-k<=bR B r/\ tr B k r=cY g (tr NA k x) (tr NB k y)
variable {NA NB:List Br}
def nR.ext {g} (ok:OK B) {x y r} (h:nR g NA NB B x y r) (C:List Br):nR g NA NB (B++C) x y r:=
 ⟨h.1.ext,λk h1 h2 j=>by rw[AU h.1,Hs ok k r h.1];exact h.2 k h1 h2 j⟩
def IA (g:Bool ->Bool ->Bool) (NA NB B:List Br) (M:List (Br×Nat)):Prop:=∀x y r,look (x,y,0) M=some r ->In NA x ->In NB y ->nR g NA NB B x y r
theorem Fh {κ ν} [DecidableEq κ] {k k' v}:∀{l:List (κ×ν)},look k' (ups k v l)=if k'=k then some v else look k' l
 |[]=>by simp[ups,look]
 |(a,b)::l=>by
  by_cases e:k=a;subst e;by_cases e2:k'=k<;>simp[ups,look,e2];simp only[ups,aD e,look,Fh (l:=l)];by_cases e2:k'=a;have:¬k'=k:=λh=>e (h▸e2);simp[e2];intro h;exact bh h.symm e;simp[e2]
structure CS (NA NB:List Br) (ra rb:Nat) (opf:AV) (B:List Br) (o:Nat) (M:List (Br×Nat)) (h:AH):Prop where
 bs:BS 11 12 B o h
 c5:cG (h.oB.get 5)=some [opf]
 c8:cG (h.oB.get 8)=some [tp NA,.i .i64 (ra:Int),tp NB,.i .i64 (rb:Int),.sn,.i .i64 0]
 c9:cG (h.oB.get 9)=some [.f 406 [] [.p 5 0]]
 c13:cG (h.oB.get 13)=some [.p 12 0]
 memo:yh eB eN h 14 M
 c15:cG (h.oB.get 15)=some [.m 14]
 c16:cG (h.oB.get 16)=some [.f 487 [] [.p 9 0,.p 15 0,.p 8 0,.p 16 0,.p 13 0]]
 next:17<=h.next
 nodes:B≠[] ->17<=o/\ o<h.next
structure CF (o:Nat) (h:AH) (o':Nat) (h':AH):Prop where
 next:h.next<=h'.next
 same:∀j,17<=j ->j<h.next ->j≠o ->h'.oB.get j=h.oB.get j
 new:o'=o∨h.next<=o'
 old:∀j,j<11 ->h'.oB.get j=h.oB.get j
variable {h:AH}
def CF.refl:CF o h o h:=⟨bB _,λ_ _ _ _=>rfl,.inl rfl,λ_ _=>rfl⟩
variable {o':Nat}
def CF.trans {o'' h' h''} (a:CF o h o' h') (b:CF o' h' o'' h''):CF o h o'' h'':=
 ⟨fJ a.next b.next,λj h1 h2 h3=>by
  rw[b.same j h1 (iR h2 a.next) (by
   rcases a.new with e|e;·rw[e];exact h3
   ·omega),a.same j h1 h2 h3],
  by
   rcases b.new with e|e
   ·rcases a.new with e2|e2
    ·exact .inl (e.trans e2)
    ·exact .inr ω
   ·exact .inr (fJ a.next e),λj hj=>(b.old j hj).trans (a.old j hj)⟩
def iz {t:T bC} {i j x} (h:j≠i):(t.put i x).get j=t.get j:=by rw[T.get_put,aD h]
variable {ra:Nat} {opf:AV}
def CS.put {rb M t} (c:CS NA NB ra rb opf B o M ⟨n,v,t⟩) {i n' v' ob} (hi:17<=i) (D:B≠[] ->i≠o) (A:n<=n'):
 CS NA NB ra rb opf B o M ⟨n',v',t.put i ob⟩ where
 bs:=by
  obtain⟨⟨G,h1⟩,H,a,h2,j⟩:=c.bs;refine⟨⟨G,by show(t.put i ob).get 11=_;rw[iz ω];exact h1⟩,H,a,by show(t.put i ob).get 12=_;rw[iz ω];exact h2,?_⟩;rcases j with j|⟨e1,e2,I,e3⟩;exact .inl j;exact .inr ⟨e1,e2,I,by show(t.put i ob).get o=_;rw[iz (λh=>D e1 h.symm)];exact e3⟩
 c5:=by show cG ((t.put i ob).get 5)=_;rw[iz ω];exact c.c5
 c8:=by show cG ((t.put i ob).get 8)=_;rw[iz ω];exact c.c8
 c9:=by show cG ((t.put i ob).get 9)=_;rw[iz ω];exact c.c9
 c13:=by show cG ((t.put i ob).get 13)=_;rw[iz ω];exact c.c13
 memo:=by obtain⟨w,h⟩:=c.memo;exact⟨w,by show(t.put i ob).get 14=_;rw[iz ω];exact h⟩
 c15:=by show cG ((t.put i ob).get 15)=_;rw[iz ω];exact c.c15
 c16:=by show cG ((t.put i ob).get 16)=_;rw[iz ω];exact c.c16
 next:=fJ c.next A
 nodes:=λh=>⟨(c.nodes h).1,iR (c.nodes h).2 A⟩
def yH (C:aK Prop) (opf:AV) (g:Bool ->Bool ->Bool):Prop:=∃f,opf= .f f [] []/\∀x y h k,k (.b (g x y)) h ->g9 C f [.b x,.b y] h k
def aw6 (F:bz8 ae):yH C (.f 271 [] []) (λx y=>x&&y):=by
 refine⟨271,rfl,λx y h k j=>E.run ?_⟩;rw[ke E.ok (E.get (F.g 271 Sa))];cases x<;>cases y<;>
  (simp only[Sa,ad2,↓dX E.ok,↓dE,↓dG,bI,dF,Nat.reduceEqDiff,reduceIte,eZ,fY,go_sem];exact j)
def aw7 (F:bz8 ae):yH C (.f 274 [] []) (λx y=>x||y):=by
 refine⟨274,rfl,λx y h k j=>E.run ?_⟩;rw[ke E.ok (E.get (F.g 274 Q1))];cases x<;>cases y<;>
  (simp only[Q1,aq3,↓dX E.ok,↓dE,↓dG,bI,dF,Nat.reduceEqDiff,reduceIte,eZ,fY,go_sem];exact j)
def aw8 (F:bz8 ae) {g} (j:yH C opf g) {t} (A:cG (t.get 5)=some [opf]) {x y z k} (G:k (.b (g x y)) ⟨n,v,t⟩):
 g9 C 406 [.b x,.b y,.b z,.p 5 0] ⟨n,v,t⟩ k:=by
 obtain⟨f,rfl,D⟩:=j;refine E.run ?_;rw[ke E.ok (E.get (F.g 406 aK7))];simp only[aK7,ac9,↓dX E.ok,↓dE,↓dG,bI,dF,A,Nat.reduceEqDiff,Nat.reduceAdd,reduceIte,eZ,fY,go_sem];exact D _ _ _ _ G
def IB {g x y r1 r2 r} (dC:OK NA) (A:OK NB) (ok:OK B) (L:In NA x) (N:In NB y) (hv:min (bR NA x) (bR NB y)=v) (D:v<3)
 (h1:nR g NA NB B (lo NA x v) (lo NB y v) r1) (h2:nR g NA NB B (hi NA x v) (hi NB y v) r2) (H:(r1=r2/\ r=r1)∨(∃i:Nat,r=i+2/\ B[i]? =some (v,r1,r2))):nR g NA NB B x y r:=by
 have lx:=si dC (v:=v) L ω D;have ly:=si A (v:=v) N ω D;have mx:=sj dC (v:=v) L ω D;have my:=sj A (v:=v) N ω D;obtain⟨j,W⟩:∃j,v=2-j/\ j<=2:=⟨2-v,by omega,by omega⟩;have a1:=h1.2 j ω ω ω;have a2:=h2.2 j ω ω ω;have G:In B r:=by
  rcases H with ⟨_,rfl⟩|⟨i,rfl,hb⟩;exact h1.1;exact In.of hb
 have hl:v<=bR B r:=by
  rcases H with ⟨_,rfl⟩|⟨i,rfl,hb⟩;omega;rw[gy hb];exact bB _
 have J:lo B r v=r1:=by
  rcases H with ⟨_,rfl⟩|⟨i,rfl,hb⟩;exact((uS ok h1.1 D).2 ω).1;rw[pb hb,aF rfl]
 have I:hi B r v=r2:=by
  rcases H with ⟨rfl,rfl⟩|⟨i,rfl,hb⟩;exact((uS ok h1.1 D).2 ω).2;rw[Gu hb,aF rfl]
 refine⟨G,?_⟩;have up:∀i,j+1+i<=3 ->tr B (j+1+i) r=cY g (tr NA (j+1+i) x) (tr NB (j+1+i) y):=by
  intro i;induction i with
  |zero=>
   intro _;show Tr.n (tr B j (lo B r (2-j))) (tr B j (hi B r (2-j)))=cY g (.n (tr NA j (lo NA x (2-j))) (tr NA j (hi NA x (2-j)))) (.n (tr NB j (lo NB y (2-j))) (tr NB j (hi NB y (2-j))));rw[←W.1,J,I,a1.2,a2.2];rfl
  |succ i Z=>
   intro U;have e:=Z ω;have p1:=(uS ok G (v:=2-(j+1+i)) ω).2 ω;have O:=(uS dC L (v:=2-(j+1+i)) ω).2 ω;have R:=(uS A N (v:=2-(j+1+i)) ω).2 ω;show Tr.n (tr B (j+1+i) (lo B r (2-(j+1+i)))) (tr B (j+1+i) (hi B r (2-(j+1+i))))=cY g (.n (tr NA (j+1+i) (lo NA x (2-(j+1+i)))) (tr NA (j+1+i) (hi NA x (2-(j+1+i))))) (.n (tr NB (j+1+i) (lo NB y (2-(j+1+i)))) (tr NB (j+1+i) (hi NB y (2-(j+1+i)))));rw[p1.1,p1.2,O.1,O.2,R.1,R.2,e];rfl
 intro k Y k1 k2;obtain⟨i,rfl⟩:∃i,k=j+1+i:=⟨k-(j+1),by omega⟩;exact⟨by omega,up i Y⟩
def CS.memoPut {rb M M' t} (c:CS NA NB ra rb opf B o M ⟨n,v,t⟩) {v' w} (A:B=[] ->o=11):
 CS NA NB ra rb opf B o M' ⟨n,v',t.put 14 (.map w (di eB eN 0 M') M'.length)⟩ where
 bs:=by
  obtain⟨⟨D,h1⟩,G,a,h2,j⟩:=c.bs;refine⟨⟨D,by show(t.put 14 _).get 11=_;rw[iz ω];exact h1⟩,G,a,by show(t.put 14 _).get 12=_;rw[iz ω];exact h2,?_⟩;rcases j with j|⟨e1,e2,H,e3⟩;exact .inl j;exact .inr ⟨e1,e2,H,by show(t.put 14 _).get o=_;rw[iz (by have:=(c.nodes e1).1;omega)];exact e3⟩
 c5:=by show cG ((t.put 14 _).get 5)=_;rw[iz ω];exact c.c5
 c8:=by show cG ((t.put 14 _).get 8)=_;rw[iz ω];exact c.c8
 c9:=by show cG ((t.put 14 _).get 9)=_;rw[iz ω];exact c.c9
 c13:=by show cG ((t.put 14 _).get 13)=_;rw[iz ω];exact c.c13
 memo:=⟨w,by show(t.put 14 _).get 14=_;rw[T.get_put,aF rfl]⟩
 c15:=by show cG ((t.put 14 _).get 15)=_;rw[iz ω];exact c.c15
 c16:=by show cG ((t.put 14 _).get 16)=_;rw[iz ω];exact c.c16
 next:=c.next
 nodes:=c.nodes
def CS.branch {rb B' M h'} (c:CS NA NB ra rb opf B o M h) (G:o=11∨17<=o) (bs:BS 11 12 B' o' h') (D:BF 11 12 o h o' h')
 (J:B'≠[] ->o'<h'.next/\ o'≠11/\ o'≠12):CS NA NB ra rb opf B' o' M h':=by
 have A:∀j,j<17 ->j≠11 ->j≠12 ->h'.oB.get j=h.oB.get j:=λj h1 h2 H=>D.same j (by have:=c.next;omega) h2 H ω;exact {
  bs:=bs
  c5:=by rw[A 5 ω ω ω];exact c.c5
  c8:=by rw[A 8 ω ω ω];exact c.c8
  c9:=by rw[A 9 ω ω ω];exact c.c9
  c13:=by rw[A 13 ω ω ω];exact c.c13
  memo:=by obtain⟨w,I⟩:=c.memo;exact⟨w,by rw[A 14 ω ω ω];exact I⟩
  c15:=by rw[A 15 ω ω ω];exact c.c15
  c16:=by rw[A 16 ω ω ω];exact c.c16
  next:=fJ c.next D.next
  nodes:=λhb=>by
   have h1:=J hb;refine⟨?_,h1.1⟩;rcases D.new with e|e;rcases G with h2|h2;rw[e,h2] at h1;exact bh rfl h1.2.1;omega;have:=c.next;omega }
def CF.branch {o2 A D} (a:CF o h o2 A) (b:BF 11 12 o2 A o' D) (H:o2=11∨17<=o2) (G:17<=A.next):CF o h o' D:=
 a.trans ⟨b.next,λj h1 h2 A=>b.same j h2 ω ω A,b.new,λj h1=>b.same j ω ω ω ω⟩
def CF.small {t v' i ob} (a:CF o h o' ⟨n,v,t⟩) (hi:11<=i/\ i<17):CF o h o' ⟨n,v',t.put i ob⟩:=
 ⟨a.next,λj h1 h2 A=>by show(t.put i ob).get j=_;rw[iz ω];exact a.same j h1 h2 A,a.new,λj h1=>by show(t.put i ob).get j=_;rw[iz ω];exact a.old j h1⟩
def CF.moved {j h'} (a:CF o h o' h') (A:j=o∨h.next<=j):CF o h j h':=⟨a.next,a.same,A,a.old⟩
def CS.moved {rb M} (c:CS NA NB ra rb opf [] o M h):CS NA NB ra rb opf [] o' M h:=
 {
  c with
  bs:=by
   obtain⟨a1,A,a,h2,j⟩:=c.bs;refine⟨a1,A,a,h2,?_⟩;rcases j with j|⟨e1,_⟩;exact .inl j;exact bh rfl e1
  nodes:=λh=>bh rfl h }
def Q8 {g B' x y r1 r2 r} (dC:OK NA) (A:OK NB) (ok:OK B) (I:In NA x) (J:In NB y) (N:min (bR NA x) (bR NB y)=v) (G:v<3)
 (h1:nR g NA NB B (lo NA x v) (lo NB y v) r1) (h2:nR g NA NB B (hi NA x v) (hi NB y v) r2)
 (spec:(r1=r2/\ r=r1/\ B'=B)∨(r1≠r2/\∃i:Nat,r=i+2/\ B'[i]? =some (v,r1,r2)/\ (B'=B∨(B'=B++[(v,r1,r2)]/\∀j:Nat,B[j]?≠some (v,r1,r2))))):
 OK B'/\ nR g NA NB B' x y r/\ (∃D,B'=B++D)/\ B'.length<=B.length+1:=by
 have W:=si dC (v:=v) I ω G;have Y:=si A (v:=v) J ω G;have mx:=sj dC (v:=v) I ω G;have Z:=sj A (v:=v) J ω G;have R:=(h1.2 (2-v) ω ω ω).1;have U:=(h2.2 (2-v) ω ω ω).1;rcases spec with ⟨e1,e2,rfl⟩|⟨O,i,e2,hi,e3⟩;exact⟨ok,IB dC A ok I J N G h1 h2 (.inl ⟨e1,e2⟩),⟨[],by simp⟩,by omega⟩;rcases e3 with rfl|⟨rfl,H⟩;exact⟨ok,IB dC A ok I J N G h1 h2 (.inr ⟨i,e2,hi⟩),⟨[],by simp⟩,by omega⟩;have L:=OK.add ok G h1.1 h2.1 ω ω O H;exact⟨L,IB dC A L I J N G (h1.ext ok _) (h2.ext ok _) (.inr ⟨i,e2,hi⟩),⟨[(v,r1,r2)],rfl⟩,by simp⟩
def aw9 {a b c:Nat} {ev x y z} (e1:ev x= .i .i64 (a)) (e2:ev y= .i .i64 (b)) (e3:ev z= .i .i64 (c)):step ev h (.min [x,y,z])= .v (ι ((min (min a b) c:Nat):Int)) h:=by
 have A:step ev h (.min [x,y,z])=(match eE ev [x,y,z] with|some (.i k a::r)=>dr h (jy fD k r a)|_=> .bad):=rfl;have j:∀(p q r:Int),jy fD .i64 [.i .i64 q,.i .i64 r] p=(bif fD q p then (bif fD r q then some (ι r) else some (ι q)) else (bif fD r p then some (ι r) else some (ι p))):=λp q r=>rfl;rw[A];simp only[wC,DG,e1,e2,e3,qH,j,mI,rM,dr];by_cases h1:(b:Int)<(a:Int);rw[aF h1];by_cases h2:(c:Int)<(b:Int);rw[aF h2];dsimp only;congr 2;omega;rw[aD h2];dsimp only;congr 2;omega;rw[aD h1];by_cases h2:(c:Int)<(a:Int);rw[aF h2];dsimp only;congr 2;omega;rw[aD h2];dsimp only;congr 2;omega
def D4:aw:= .seq QF (.seq QH (.seq QJ .ret))
def ax0 (A:lQ C) {f a k k'} (D:∀v h,k v h ->k' v h) (j:g9 C f a h k):g9 C f a h k':=by
 obtain⟨n,j⟩:=j;exact⟨n,(c1 A n f a h).mono (k:=λq=>k q.1 q.2) (k':=λq=>k' q.1 q.2) (λq=>D _ _) j⟩
def ax1 (F:bz8 ae) {rb} (dC:OK NA) (b0:OK NB) (la:NA.length<=4096) (lb:NB.length<=4096)
 {x y m ver M ob k} (hx:In NA x) (hy:In NB y) (cs:CS NA NB ra rb opf B o M ⟨m+17,ver,ob⟩) (hc:¬(x<2/\ y<2)) (hl:look (x,y,0) M=none) {τ₀} (g1:τ₀.get 1=some (.p 9 0)) (g2:τ₀.get 2=some (.p 15 0)) (U:τ₀.get 3=some (.p 8 0)) (g4:τ₀.get 4=some (.p 16 0)) (g5:τ₀.get 5=some (.p 13 0)) (O:τ₀.get 6=some (.p (m+17) 0))
 (d0:min (bR NA x) (bR NB y)=v)
 (c6:∀Z ob',CS NA NB ra rb opf B o M ⟨m+17+1+1+1,Z,ob'⟩ ->(∀j,j<m+17 ->ob'.get j=ob.get j) ->cG (ob'.get (m+17))=some [.i .i64 (x),.i .i64 (y),.i .i64 0] ->
  cG (ob'.get (m+17+1+1))=some [.i .i64 (hi NA x v),.i .i64 (hi NB y v),.i .i64 0] ->
  g9 C 487 [.ag [.i .i64 (lo NA x v),.i .i64 (lo NB y v),.i .i64 0],.p 9 0,.p 15 0,.p 8 0,.p 16 0,.p 13 0] ⟨m+17+1+1+1,Z,ob'⟩ (λa h'=>∀τ:T AV,τ.get 2=some (.p 15 0) ->τ.get 4=some (.p 16 0) ->τ.get 5=some (.p 13 0) ->
   τ.get 6=some (.p (m+17) 0) ->τ.get 10=some (ι (v)) ->τ.get 12=some (.p (m+17+1+1) 0) ->τ.get 14=some a ->
   gG C D4 (λe τ h=>match e with
    | .exit _=>False
    |_=>kQ k h (eZ τ h [(7,none)])) τ h')):
 gG C HR (λe τ h=>match e with
  | .exit _=>False
  |_=>kQ k h (eZ τ h [(7,none)])) τ₀ ⟨m+17+1,ver,ob.put (m+17) (.cells ver [.i .i64 (x),.i .i64 (y),.i .i64 0])⟩:=by
 have c5:=cs.c5;have c8:=cs.c8;have c9:=cs.c9;have c13:=cs.c13;have c15:=cs.c15;have c16:=cs.c16;obtain⟨Y,hm⟩:=cs.memo;dsimp only at c5 c8 c9 c13 c15 c16 hm;have A:ff (ι 0)=some 0:=rfl;have D:ff (ι 1)=some 1:=rfl;have G:ff (ι 2)=some 2:=rfl;have I:(0:Nat)<3:=by omega
 have J:(1:Nat)<3:=by omega
 have N:(2:Nat)<3:=by omega
 have cz:((0:Nat):Int)=0:=rfl;have z2:((0:Int)<2)=True:=cJ;have z1:((0:Int)=1)=False:=cE;have d1:lo [] 0 v=0:=rfl;have c7:hi [] 0 v=0:=rfl;have b4:∀Z ob' (ev:MA ->AV),T.get ob' 14=some (.map Y (di eB eN 0 M) M.length) ->ev (.t 41)= .m 14 ->ev (.t 42)= .ag [.i .i64 (x:Int),.i .i64 (y:Int),.i .i64 0] ->
  step ev ⟨m+17+1,Z,ob'⟩ (.look t3 (.t 41) (.t 42) (ι 0) true)= .v (Bb eN (ι 0) (look (x,y,0) M)) ⟨m+17+1,Z,ob'⟩:=
  λZ ob' ev q1 q2 R=>uQ (k:=(x,y,0)) (z:= .i .i64 0) yG (h:=⟨m+17+1,Z,ob'⟩) ⟨Y,q1⟩ q2 R
 unfold t3 at b4;have W:In ([]:List Br) 0:=In.small ω;have d2:=Id dC hx;have d3:=Id b0 hy;have hv:min (min (pl NA x) (pl NB y)) 64=min (bR NA x) (bR NB y)/\ min (bR NA x) (bR NB y)<3:=by
  have q:∀(B':List Br) (z:Nat),OK B' ->In B' z ->(pl B' z=64/\ bR B' z=3)∨(pl B' z=bR B' z/\ bR B' z<3):=by
   intro B' z ok hz;rcases hz.cases with h1|⟨i,b,rfl,hb⟩;exact .inl ⟨by simp[pl,h1],oG h1⟩;refine .inr ⟨by simp[pl,show¬(i+2<2) by omega],?_⟩;rw[gy hb];exact ok.v _ _ hb
  have R:∀(B':List Br) (z:Nat),OK B' ->In B' z ->¬z<2 ->bR B' z<3:=by
   intro B' z ok hz h2;rcases hz.cases with h1|⟨i,b,rfl,hb⟩;exact bh h1 h2;rw[gy hb];exact ok.v _ _ hb
  rcases q NA x dC hx with h1|h1<;>rcases q NB y b0 hy with h2|h2
  exfalso;apply hc;exact⟨uk λh=>by have:=R NA x dC hx h;omega,uk λh=>by have:=R NB y b0 hy h;omega⟩;omega;omega;omega
 rw[d0] at hv;have s1:(m=m+1)=False:=cE;have s2:(m=m+2)=False:=cE;have s3:(m+1=m)=False:=cE;have s4:(m+2=m)=False:=cE;have H:v<64:=by have:=hv.2;omega
 have mn:∀h' (ev:MA ->AV),ev (.t 52)= .i .i64 (pl NA x:Int) ->ev (.t 57)= .i .i64 (pl NB y:Int) ->ev (.t 62)= .i .i64 ((64:Nat):Int) ->step ev h' (.min [.t 52,.t 57,.t 62])= .v (ι (v:Int)) h':=
  λh' ev q1 q2 R=>by rw[aw9 q1 q2 R,hv.1]
 have b8:pl [] 0=64:=rfl;have b1:aY .add (ι 0) (ι 1)=some (ι 1):=rfl;have b2:aY .add (ι 1) (ι 1)=some (ι 2):=rfl;have b3:aY .add (ι 2) (ι 1)=some (ι 3):=rfl;simp only[HR,JF,JG,Yd,g2,U,O,↓dX E.ok,↓dE,↓dG,bI,dF,c8,c15,A,D,G,I,J,N,hm,b4,hl,Bb,Nat.reduceEqDiff,Nat.reduceMul,Nat.reduceShiftRight,Nat.reduceAnd,Nat.reduceBneDiff,reduceIte,go_sem];refine E.cN (D3 S F (r:=ra) hx la _) ?_;simp only[U,O,↓dE,↓dG,bI,dF,c8,A,D,G,I,J,N,Nat.reduceEqDiff,Nat.reduceMul,Nat.reduceShiftRight,Nat.reduceAnd,Nat.reduceBneDiff,reduceIte,go_sem];refine E.cN (D3 S F (r:=rb) hy lb _) ?_;simp only[U,O,↓dE,↓dG,bI,dF,c8,A,D,G,I,J,N,Nat.reduceEqDiff,Nat.reduceMul,Nat.reduceShiftRight,Nat.reduceAnd,Nat.reduceBneDiff,reduceIte,go_sem];refine E.cN (D3 S F (B:=[]) (r:=0) (n:=0) W (by simp) _) ?_;simp only[Ye,Yo,↓dX E.ok,↓dE,↓dG,bI,dF,b8,mn,Nat.reduceEqDiff,reduceIte,go_sem];rw[uM E.ok];generalize hL:aw.loop (aw.seq yA yB)=L;simp only[U,O,yA,yB,JH,JJ,↓dX E.ok,↓dE,↓dG,bI,dF,c8,A,I,Int.reduceLT,s1,s2,Nat.reduceEqDiff,Nat.reduceShiftRight,Nat.reduceAnd,Nat.reduceBneDiff,reduceIte,go_sem];refine E.cN (Iy S F (r:=ra) (v:=v) hx la H _) ?_;simp only[U,O,JM,↓dX E.ok,↓dE,↓dG,bI,dF,c8,A,I,b1,s1,s2,s3,s4,Nat.reduceEqDiff,Nat.reduceShiftRight,Nat.reduceAnd,Nat.reduceBneDiff,reduceIte,go_sem];subst hL;rw[uM E.ok];generalize hL:aw.loop (aw.seq yA yB)=L;simp only[U,O,yA,yB,JH,JJ,↓dX E.ok,↓dE,↓dG,bI,dF,c8,D,J,Int.reduceLT,s1,s2,Nat.reduceEqDiff,Nat.reduceShiftRight,Nat.reduceAnd,Nat.reduceBneDiff,reduceIte,go_sem];refine E.cN (Iy S F (r:=rb) (v:=v) hy lb H _) ?_;simp only[U,O,JM,↓dX E.ok,↓dE,↓dG,bI,dF,c8,D,J,b2,s1,s2,s3,s4,Nat.reduceEqDiff,Nat.reduceShiftRight,Nat.reduceAnd,Nat.reduceBneDiff,reduceIte,go_sem];subst hL;rw[uM E.ok];generalize hL:aw.loop (aw.seq yA yB)=L;simp only[U,O,yA,yB,JH,JJ,↓dX E.ok,↓dE,↓dG,bI,dF,c8,G,N,Int.reduceLT,s1,s2,Nat.reduceEqDiff,Nat.reduceMul,Nat.reduceShiftRight,Nat.reduceAnd,Nat.reduceBneDiff,reduceIte,go_sem];refine E.cN (Iy S F (B:=[]) (r:=0) (n:=0) (v:=v) W (by simp) H _) ?_;simp only[U,O,JM,↓dX E.ok,↓dE,↓dG,bI,dF,c8,G,N,b3,s1,s2,s3,s4,Nat.reduceEqDiff,Nat.reduceMul,Nat.reduceShiftRight,Nat.reduceAnd,Nat.reduceBneDiff,reduceIte,go_sem];subst hL;rw[uM E.ok];generalize hL:aw.loop (aw.seq yA yB)=L;rw[show Yy=aw.seq QE D4 from rfl];simp only[g4,yA,yB,QE,d1,c7,↓dX E.ok,↓dE,↓dG,bI,dF,cz,c16,Int.reduceLT,s1,s3,Nat.reduceEqDiff,reduceIte,go_sem];refine ax0 E.ok (k:=λa h'=>∀τ:T AV,τ.get 2=some (.p 15 0) ->τ.get 4=some (.p 16 0) ->τ.get 5=some (.p 13 0) ->
  τ.get 6=some (.p (m+17) 0) ->τ.get 10=some (ι (v:Int)) ->τ.get 12=some (.p (m+17+1+1) 0) ->τ.get 14=some a ->
  gG C D4 (λe τ h=>match e with
   | .exit _=>False
   |_=>kQ k h (eZ τ h [(7,none)])) τ h') (λa h' hk=> ?_) (c6 _ _ ?_ ?_ ?_ ?_)
 refine hk _ ?_ ?_ ?_ ?_ ?_ ?_ ?_<;>simp only[T.get_put,g2,g4,g5,O,Nat.reduceEqDiff,reduceIte];have ho:∀i,17+m<=i ->B≠[] ->i≠o:=λi hi hb=>by have:=(cs.nodes hb).2;have h2:o<m+17:=this;omega
 have b5:=cs.put (i:=m+17) (n':=m+17+1) (v':=ver) (ob:= .cells ver [.i .i64 (x:Int),.i .i64 (y:Int),.i .i64 0]) ω (ho _ ω) ω;have b6:=b5.put (i:=m+17+1) (n':=m+17+1+1) (v':=ver) (ob:= .cells ver [.i .i64 0,.i .i64 0,.i .i64 0]) ω (ho _ ω) ω;have b7:=b6.put (i:=m+17+1+1) (n':=m+17+1+1+1) (v':=ver) (ob:= .cells ver [.i .i64 0,.i .i64 0,.i .i64 0]) ω (ho _ ω) ω;have pt:∀{v1 i:Nat} {t:T bC} {b:bC},17+m<=i ->CS NA NB ra rb opf B o M ⟨m+17+1+1+1,ver,t⟩ ->CS NA NB ra rb opf B o M ⟨m+17+1+1+1,v1,t.put i b⟩:=λhi c=>c.put ω (ho _ hi) (bB _);exact pt ω (pt ω (pt ω (pt ω (pt ω (pt ω b7)))));intro j hj;have q1:(j=m+17)=False:=cE;have q2:(j=m+17+1)=False:=cE;have R:(j=m+17+1+1)=False:=cE;simp only[T.get_put,q1,q2,R,bV];have q2:(m+17=m+17+1)=False:=cE;have R:(m+17=m+17+1+1)=False:=cE;simp only[T.get_put,q2,R,bV,dZ,d9];simp only[T.get_put,dZ,d9]
def ax2 (F:bz8 ae) {rb g} (j3:yH C opf g) (dC:OK NA) (L:OK NB) (la:NA.length<=4096) (lb:NB.length<=4096):
 ∀d x y B o M h k,d=3-min (bR NA x) (bR NB y) ->In NA x ->In NB y ->CS NA NB ra rb opf B o M h ->OK B ->IA g NA NB B M ->B.length+2^d<=1000000 ->(o=11∨17<=o) ->(B=[] ->o=11) ->
  (∀r B' o' M' h',CS NA NB ra rb opf B' o' M' h' ->CF o h o' h' ->OK B' ->IA g NA NB B' M' ->(∃D,B'=B++D) ->B'.length+1<=B.length+2^d ->(o'=11∨17<=o') ->(B'=[] ->o'=11) ->nR g NA NB B' x y r ->k (ι (r)) h') ->
  du C 487 [eB (x,y,0),.p 9 0,.p 15 0,.p 8 0,.p 16 0,.p 13 0] h k:=by
 intro d;induction d using Nat.strongRecOn with
 |ind d IH=>
 intro x y B o M h k hd hx hy cs okb mo hbl ho1 ho2 hk;have k4:1<=2^d:=Co;obtain⟨n,ver,ob⟩:=h;obtain⟨m,rfl⟩:∃m,n=m+17:=⟨n-17,by have:=cs.next;show n=n-17+17;have h2:17<=n:=this;omega⟩;have c5:=cs.c5;have c8:=cs.c8;have c9:=cs.c9;have c13:=cs.c13;have c15:=cs.c15;have c16:=cs.c16;obtain⟨c7,hm⟩:=cs.memo;dsimp only at c5 c8 c9 c13 c15 c16 hm;have H:ff (ι 0)=some 0:=rfl;have I:ff (ι 1)=some 1:=rfl;have J:ff (ι 2)=some 2:=rfl;have W:(0:Nat)<3:=by omega
 have Y:(1:Nat)<3:=by omega
 have Z:(2:Nat)<3:=by omega
 have cz:((0:Nat):Int)=0:=rfl;have z2:((0:Int)<2)=True:=cJ;have z1:((0:Int)=1)=False:=cE;rw[ke E.ok (E.get (F.g 487 It))];by_cases hc:x<2/\ y<2;have x2:((x:Int)<2)=True:=cJ;have y2:((y:Int)<2)=True:=cJ;simp only[It,HN,HO,XX,WS,XW,↓dX E.ok,↓dE,↓dG,bI,dF,eB,cz,c9,H,I,J,W,Y,Z,x2,y2,z2,z1,Nat.reduceEqDiff,Nat.reduceAdd,reduceIte,eZ,fY,go_sem];have A:=cs.put (i:=m+17) (n':=m+17+1) (v':=ver) (ob:= .cells ver [.i .i64 (x:Int),.i .i64 (y:Int),.i .i64 0]) ω (λhb=>by have:=(cs.nodes hb).2;have h2:o<m+17:=this;omega) ω;refine aw8 E F j3 A.c5 ?_;have fin:∀b:Bool,g (decide ((x:Int)=1)) (decide ((y:Int)=1))=b ->nR g NA NB B x y (if b then 1 else 0):=by
  intro b hb;refine⟨In.small (by split<;>omega),λk h1 h2 h3=> ?_⟩;rw[oG (show(if b=true then 1 else 0)<2 by split<;>omega)];refine⟨by omega,?_⟩;have key:∀(j:Nat) (B':List Br) (z:Nat),z<2 ->tr B' (j+1) z= .n (tr B' j z) (tr B' j z):=λj B' z hz=>by simp only[tr];rw[tF hz,tG hz]
  have:∀j,tr B j (if b=true then 1 else 0)=cY g (tr NA j x) (tr NB j y):=by
   intro j;induction j with
   |zero=>
    simp only[tr,cY,Tr.c.injEq];have e1:(x==1)=decide ((x:Int)=1):=by rw[xB];simp;omega
    have e2:(y==1)=decide ((y:Int)=1):=by rw[xB];simp;omega
    rw[e1,e2,hb];cases b<;>rfl
   |succ j ih=>rw[key j B _ (by split<;>omega),key j NA x hc.1,key j NB y hc.2,ih];rfl
  exact this k
 cases hb:g (decide ((x:Int)=1)) (decide ((y:Int)=1)) with
 |true=>
  simp only[↓dX E.ok,↓dE,↓dG,bI,dF,Nat.reduceEqDiff,reduceIte,go_sem];exact hk 1 B o M _ A ⟨by show m+17<=m+17+1;omega,λj h1 h2 h3=>iz (by have d2:j<m+17:=h2;omega),.inl rfl,λj h1=>iz ω⟩ okb mo ⟨[],by simp⟩ ω ho1 ho2 (fin true hb)
 |false=>
  simp only[↓dX E.ok,↓dE,↓dG,bI,dF,Nat.reduceEqDiff,reduceIte,go_sem];exact hk 0 B o M _ A ⟨by show m+17<=m+17+1;omega,λj h1 h2 h3=>iz (by have d2:j<m+17:=h2;omega),.inl rfl,λj h1=>iz ω⟩ okb mo ⟨[],by simp⟩ ω ho1 ho2 (fin false hb)
 have d3:∀aA ob' (ev:MA ->AV),T.get ob' 14=some (.map c7 (di eB eN 0 M) M.length) ->ev (.t 41)= .m 14 ->ev (.t 42)= .ag [.i .i64 (x:Int),.i .i64 (y:Int),.i .i64 0] ->
  step ev ⟨m+17+1,aA,ob'⟩ (.look t3 (.t 41) (.t 42) (ι 0) true)= .v (Bb eN (ι 0) (look (x,y,0) M)) ⟨m+17+1,aA,ob'⟩:=
  λaA ob' ev q1 q2 q3=>uQ (k:=(x,y,0)) (z:= .i .i64 0) yG (h:=⟨m+17+1,aA,ob'⟩) ⟨c7,q1⟩ q2 q3
 unfold t3 at d3;have A:=cs.put (i:=m+17) (n':=m+17+1) (v':=ver) (ob:= .cells ver [.i .i64 (x:Int),.i .i64 (y:Int),.i .i64 0]) ω (λhb=>by have:=(cs.nodes hb).2;have h2:o<m+17:=this;omega) ω;cases hl:look (x,y,0) M with
 |some r=>
  by_cases x2:x<2;have N:((x:Int)<2)=True:=cJ;have d6:((y:Int)<2)=False:=cE;simp only[It,HN,HO,HR,JF,JG,Qz,↓dX E.ok,↓dE,↓dG,bI,dF,eB,cz,c15,H,I,J,W,Y,Z,N,d6,hm,d3,hl,Bb,eN,z2,Nat.reduceEqDiff,Nat.reduceAdd,reduceIte,eZ,fY,go_sem];exact hk r B o M _ A ⟨by show m+17<=m+17+1;omega,λj h1 h2 h3=>iz (by have d2:j<m+17:=h2;omega),.inl rfl,λj h1=>iz ω⟩ okb mo ⟨[],by simp⟩ ω ho1 ho2 (mo x y r hl hx hy);have N:((x:Int)<2)=False:=cE;simp only[It,HN,HO,HR,JF,JG,Qz,↓dX E.ok,↓dE,↓dG,bI,dF,eB,cz,c15,H,I,J,W,Y,Z,N,hm,d3,hl,Bb,eN,z2,Nat.reduceEqDiff,Nat.reduceAdd,reduceIte,eZ,fY,go_sem];exact hk r B o M _ A ⟨by show m+17<=m+17+1;omega,λj h1 h2 h3=>iz (by have d2:j<m+17:=h2;omega),.inl rfl,λj h1=>iz ω⟩ okb mo ⟨[],by simp⟩ ω ho1 ho2 (mo x y r hl hx hy)
 |none=>
  have fin:∀τ₀:T AV,τ₀.get 1=some (.p 9 0) ->τ₀.get 2=some (.p 15 0) ->τ₀.get 3=some (.p 8 0) ->τ₀.get 4=some (.p 16 0) ->τ₀.get 5=some (.p 13 0) ->τ₀.get 6=some (.p (m+17) 0) ->
   gG C HR (λe τ h=>match e with
    | .exit _=>False
    |_=>kQ k h (eZ τ h [(7,none)])) τ₀ ⟨m+17+1,ver,ob.put (m+17) (.cells ver [.i .i64 (x:Int),.i .i64 (y:Int),.i .i64 0])⟩:=by
   intro τ₀ g1 g2 g3 g4 g5 g6;have l5:=Id dC hx;have l6:=Id L hy;obtain⟨v,h4⟩:∃v,min (bR NA x) (bR NB y)=v:=⟨_,rfl⟩;have U:v<3:=by
    have q3:∀(B':List Br) (z:Nat),OK B' ->In B' z ->¬z<2 ->bR B' z<3:=by
     intro B' z ok hz h2;rcases hz.cases with h1|⟨i,b,rfl,hb⟩;exact bh h1 h2;rw[gy hb];exact ok.v _ _ hb
    by_cases h1:x<2;have:=q3 NB y L hy (λh=>hc ⟨h1,h⟩);omega;have:=q3 NA x dC hx h1;omega
   have lx:=si dC (v:=v) hx ω U;have ly:=si L (v:=v) hy ω U;have mx:=sj dC (v:=v) hx ω U;have my:=sj L (v:=v) hy ω U;have i6:3-min (bR NA (lo NA x v)) (bR NB (lo NB y v))<=d-1:=by omega
   have i8:3-min (bR NA (hi NA x v)) (bR NB (hi NB y v))<=d-1:=by omega
   have l0:1<=d:=by omega
   have pw:2^d=2*2^(d-1):=by rw[←Cq];congr 1;omega
   have l8:2^(3-min (bR NA (lo NA x v)) (bR NB (lo NB y v)))<=2^(d-1):=rJ ω i6;have m4:2^(3-min (bR NA (hi NA x v)) (bR NB (hi NB y v)))<=2^(d-1):=rJ ω i8;refine ax1 S E F dC L la lb hx hy cs hc hl g1 g2 g3 g4 g5 g6 h4 λi3 aQ A dD n1 w1=> ?_;refine E.run (IH (3-min (bR NA (lo NA x v)) (bR NB (lo NB y v))) ω (lo NA x v) (lo NB y v) B o M _ _ rfl (wK dC hx) (wK L hy) A okb mo ω ho1 ho2 ?_);rintro r1 B1 o1 M1 ⟨d4,k8,aJ⟩ b3 cf2 h6 k0 ⟨D1,rfl⟩ k5 j0 j1 h9;intro τ t2 t4 t5 t6 t10 i1 i2;obtain⟨m1,rfl⟩:∃m1,d4=m1+17:=⟨d4-17,by have h2:17<=d4:=b3.next;omega⟩;have l1:m+3<=m1:=by have h2:m+17+1+1+1<=m1+17:=cf2.next;omega
   have j2:B≠[] ->o<m+17:=λhb=>(cs.nodes hb).2;have l4:o<m+17:=by
    by_cases hb:B=[];rw[ho2 hb];omega;exact j2 hb
   have n2:cG (aJ.get (m+17))=some [.i .i64 (x:Int),.i .i64 (y:Int),.i .i64 0]:=by
    rw[show aJ.get (m+17)=aQ.get (m+17) from cf2.same (m+17) ω (by show m+17<m+17+1+1+1;omega) ω];exact n1
   have w2:cG (aJ.get (m+17+1+1))=some [.i .i64 (hi NA x v:Int),.i .i64 (hi NB y v:Int),.i .i64 0]:=by
    rw[show aJ.get (m+17+1+1)=aQ.get (m+17+1+1) from cf2.same (m+17+1+1) ω (by show m+17+1+1<m+17+1+1+1;omega) ω];exact w1
   have d8:cG (aJ.get 13)=some [.p 12 0]:=b3.c13;have f7:cG (aJ.get 16)=some [.f 487 [] [.p 9 0,.p 15 0,.p 8 0,.p 16 0,.p 13 0]]:=b3.c16;simp only[D4,QF,↓dX E.ok,↓dE,↓dG,bI,dF,t4,t5,t10,i1,i2,w2,d8,f7,Nat.reduceEqDiff,Nat.reduceShiftRight,Nat.reduceAnd,Nat.reduceBneDiff,reduceIte,go_sem];refine E.run (IH (3-min (bR NA (hi NA x v)) (bR NB (hi NB y v))) ω (hi NA x v) (hi NB y v) (B++D1) o1 M1 _ _ rfl (wL dC hx) (wL L hy) b3 h6 k0 ω j0 j1 ?_);rintro r2 B2 o2 M2 ⟨d5,k9,cC⟩ G cf3 h7 k1 ⟨D2,rfl⟩ k6 g8 l3 i0;obtain⟨m2,rfl⟩:∃m2,d5=m2+17:=⟨d5-17,by have h2:17<=d5:=G.next;omega⟩;have l2:m1<=m2:=by have h2:m1+17<=m2+17:=cf3.next;omega
   have g0:o1≠m+17:=by
    rcases cf2.new with e|e;omega;have h2:m+17+1+1+1<=o1:=e;omega
   have n3:cG (cC.get (m+17))=some [.i .i64 (x:Int),.i .i64 (y:Int),.i .i64 0]:=by
    rw[show cC.get (m+17)=aJ.get (m+17) from cf3.same (m+17) ω (by show m+17<m1+17;omega) (λh=>g0 h.symm)];exact n2
   have d1:cG (cC.get 13)=some [.p 12 0]:=G.c13;simp only[↓dE,↓dG,bI,dF,t4,t5,t10,i1,i2,d1,Nat.reduceEqDiff,Nat.reduceShiftRight,Nat.reduceAnd,Nat.reduceBneDiff,reduceIte,go_sem];refine E.run (aw5 E F G.bs (p:=11) (q:=12) ω ω ω (λhb=>⟨(G.nodes hb).2,by have:=(G.nodes hb).1;omega,by have:=(G.nodes hb).1;omega⟩) (by simp only[dy] at*;omega) _ ?_);rintro r B' o' ⟨b5,i4,b7⟩ i5 d0 b6 spec;have O:=CS.branch G g8 i5 d0 b6;have k2:o1=o∨m+17+1+1+1<=o1:=cf2.new;have k3:o2=o1∨m1+17<=o2:=cf3.new;have g7:o2≠m+17:=by omega
   have n4:cG (b7.get (m+17))=some [.i .i64 (x:Int),.i .i64 (y:Int),.i .i64 0]:=by
    rw[show b7.get (m+17)=cC.get (m+17) from d0.same (m+17) (by show m+17<m2+17;omega) ω ω (λh=>g7 h.symm)];exact n3
   obtain⟨b2,i9⟩:=O.memo;have f0:cG (b7.get 15)=some [.m 14]:=O.c15;have f9:∀aA ob' (ev:MA ->AV),T.get ob' 14=some (.map b2 (di eB eN 0 M2) M2.length) ->ev (.t 93)= .m 14 ->ev (.t 94)= .ag [.i .i64 (x:Int),.i .i64 (y:Int),.i .i64 0] ->ev (.t 95)= .i .i64 (r:Int) ->
    step ev ⟨b5,aA,ob'⟩ (.mupd t3 (.t 93) (.t 94) (.t 95))= .v .un ⟨b5,aA+1,ob'.put 14 (.map (aA+1) (di eB eN 0 (ups (x,y,0) r M2)) (ups (x,y,0) r M2).length)⟩:=
    λaA ob' ev q1 q2 q3 q4=>mL (k:=(x,y,0)) (v:=r) yG (h:=⟨b5,aA,ob'⟩) ⟨b2,q1⟩ q2 q3 q4
   unfold t3 at f9;simp only[QH,QJ,↓dX E.ok,↓dE,↓dG,bI,dF,t2,t6,n4,f0,i9,f9,Nat.reduceEqDiff,reduceIte,eZ,fY,go_sem];obtain⟨h8,b1,c6,k7⟩:=Q8 dC L h7 hx hy h4 U (h9.ext h6 D2) i0 spec;have h5:IA g NA NB B' (ups (x,y,0) r M2):=by
    intro x' y' r' R j4 j8;rw[Fh] at R;by_cases e:((x',y',0):Br)=(x,y,0);rw[aF e] at R;simp only[xK] at e;obtain⟨rfl,rfl,_⟩:=e;cases R;exact b1;rw[aD e] at R;obtain⟨D,rfl⟩:=c6;exact(k1 x' y' r' R j4 j8).ext h7 D
   have f8:CF o ⟨m+17,ver,ob⟩ o' ⟨b5,i4,b7⟩:=
    CF.branch (CF.trans (CF.trans (⟨by show m+17<=m+17+1+1+1;omega,λj _ h2 _=>dD j h2,.inl rfl,λj h2=>dD j ω⟩:CF o ⟨m+17,ver,ob⟩ o ⟨m+17+1+1+1,i3,aQ⟩) cf2) cf3) d0 g8 G.next
   have b8:B'.length+1<=B.length+2^d:=by simp only[dy] at*;omega
   have b0:∃D,B'=B++D:=by obtain⟨D,rfl⟩:=c6;exact⟨D1++D2++D,by simp[hZ]⟩
   by_cases b4:B'=[];subst b4;have hb:B=[]:=by obtain⟨D,h⟩:=b0;exact(List.append_eq_nil_iff.1 h.symm).1
   refine hk r [] 11 _ _ (CS.memoPut (CS.moved O) (λ_=>rfl)) (CF.small (CF.moved f8 (.inl (ho2 hb).symm)) ω) h8 h5 b0 b8 (.inl rfl) (λ_=>rfl) b1;exact hk r B' o' _ _ (CS.memoPut O (λh=>bh h b4)) (CF.small f8 ω) h8 h5 b0 b8 (.inr (O.nodes b4).1) (λh=>bh h b4) b1
  by_cases x2:x<2;have N:((x:Int)<2)=True:=cJ;have d6:((y:Int)<2)=False:=cE;simp only[It,HN,HO,↓dX E.ok,↓dE,↓dG,bI,dF,eB,cz,H,I,J,W,Y,Z,N,d6,Nat.reduceEqDiff,Nat.reduceAdd,reduceIte,go_sem];refine fin _ ?_ ?_ ?_ ?_ ?_ ?_<;>simp only[T.get_put,Nat.reduceEqDiff,reduceIte];have N:((x:Int)<2)=False:=cE;simp only[It,HN,HO,↓dX E.ok,↓dE,↓dG,bI,dF,eB,cz,H,I,J,W,Y,Z,N,Nat.reduceEqDiff,Nat.reduceAdd,reduceIte,go_sem];refine fin _ ?_ ?_ ?_ ?_ ?_ ?_<;>simp only[T.get_put,Nat.reduceEqDiff,reduceIte]
end
end AM
