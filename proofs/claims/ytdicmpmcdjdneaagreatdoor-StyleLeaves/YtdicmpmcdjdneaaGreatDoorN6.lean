import Derived.Test.YtdicmpmcdjdneaaGreatDoorN5
set_option linter.all false
namespace AM
open Go
noncomputable section
structure BP {R:Type} (Tr:R ->Prop) (B:aK R) (C:aK Prop):Prop where
 ae:∀f m,B.ae.get f=some m ->C.ae.get f=some m
 gL:B.gL=C.gL
 fail:¬Tr B.fail
 both:∀p q,Tr (B.both p q) ->Tr p/\ Tr q
 both':∀p q,C.both p q=(p/\ q)
 spec:∀f a h (kb:AV ->AH ->R) (kp:AV ->AH ->Prop) (fb:R) (fp:Prop),(∀v h,Tr (kb v h) ->kp v h) ->(Tr (fb) ->fp) ->Tr (B.spec f a h kb fb) ->C.spec f a h kp fp
section
variable {R:Type} {Tr:R ->Prop} {B:aK R} {C:aK Prop} (hB:BP Tr B C)
include hB
theorem yi τ:az B τ=az C τ:=by
 funext a;cases a with
 |t n=>rfl
 |c v=>rfl
 |g n=>show(Option.rec .un (λl=> .dp l 0) (B.gL.get n):AV)=Option.rec .un (λl=> .dp l 0) (C.gL.get n);rw[hB.gL]
theorem Bc {p:Prop} (h:Tr (B.fail)):p:=(hB.fail h).elim
theorem OO τ h g:y6 B τ h g=y6 C τ h g:=by unfold y6;rw[yi hB]
section ops
variable {cb yb:Nat ->List AV ->AH ->(AV ->AH ->R) ->R} {cp yp:Nat ->List AV ->AH ->(AV ->AH ->Prop) ->Prop}
 (hc:∀f a h kb kp,(∀v h,Tr (kb v h) ->kp v h) ->Tr (cb f a h kb) ->cp f a h kp) (hy:∀f a h kb kp,(∀v h,Tr (kb v h) ->kp v h) ->Tr (yb f a h kb) ->yp f a h kp)
theorem OP {f g} (j:∀v h,Tr (f v h) ->g v h):∀l:List (AV×AH),Tr (gQ B f l) ->gQ C g l
 |[],h=>Bc hB h
 |[e],h=>j _ _ h
 |e::b::r,h=>by
  have h':Tr (B.both (f e.1 e.2) (gQ B f (b::r))):=h;have h':=hB.both _ _ h';show C.both (g e.1 e.2) (gQ C g (b::r));rw[hB.both'];exact⟨j _ _ h'.1,OP j _ h'.2⟩
include hc hy
theorem OQ g τ h {A kp} (D:∀v h,Tr (A v h) ->kp v h) (j:Tr (eY B cb yb g τ h A)):eY C cp yp g τ h kp:=by
 have E:Tr ((match step (az C τ) h g.op with
  | .v x h=>A x h
  | .call q args h=>cb q args h A
  | .yld l args h=>yb l args h A
  | .alts l=>gQ B A l
  | .bad=>B.fail:R)) ->(match step (az C τ) h g.op with
  | .v x h=>kp x h
  | .call q args h=>cp q args h kp
  | .yld l args h=>yp l args h kp
  | .alts l=>gQ C kp l
  | .bad=>C.fail:Prop):=by
  cases step (az C τ) h g.op with
  |v x h=>exact D x h
  |call q args h=>exact hc q args h A kp D
  |yld l args h=>exact hy l args h A kp D
  |alts l=>exact OP hB D l
  |bad=>exact λh=>Bc hB h
 unfold eY at j ⊢;rw[yi hB] at j;dsimp only at j ⊢;rcases G:g.guard with _|q;rw[G] at j;exact E j;rw[G] at j;obtain⟨t,w⟩:=q;dsimp only at j ⊢;rcases H:τ.get t with _|y;rw[H] at j;exact Bc hB j;rw[H] at j;cases y with
 |b x=>
  dsimp only at j ⊢;cases hb:(bif x then w else !w) with
  |true=>rw[hb] at j;exact E j
  |false=>rw[hb] at j;exact D _ _ j
 |tu l=>cases l with
  |nil=>exact D _ _ j
  |cons _ _=>exact Bc hB j
 |_=>exact Bc hB j
theorem Hg {j kp} (A:∀τ h,Tr (j τ h) ->kp τ h):∀l τ h,Tr (AY B cb yb j l τ h) ->AY C cp yp kp l τ h
 |[],τ,h,hr=>A _ _ hr
 |g::l,τ,h,hr=>by
  have h1:Tr (eY B cb yb g τ h (λx h=>eh τ g.dst x λτ=>AY B cb yb j l τ h)):=hr;refine OQ hB hc hy g τ h (λv h D=> ?_) h1;rw[iI] at D ⊢;exact Hg A l _ _ D
omit hc hy in
theorem OR {τ h mask j kp} (E:Tr (j) ->kp):∀ls:List (Nat×MG),Tr (eA B τ h mask ls j) ->eA C τ h mask ls kp
 |[],hr=>E hr
 |p::ls,hr=>by
  have A:=OR (τ:=τ) (h:=h) (mask:=mask) E ls;have h1:Tr ((bif Nat.testBit mask p.1 then eA B τ h mask ls j else match y6 B τ h p.2 with
   |some x=>match p.2.dst with
    |none=>eA B τ h mask ls j
    |some d=>match τ.get d with
     |some y=>bif cZ 64 x y then eA B τ h mask ls j else B.fail
     |none=>B.fail
   |none=>B.fail)):=hr
  show(bif Nat.testBit mask p.1 then eA C τ h mask ls kp else match y6 C τ h p.2 with
   |some x=>match p.2.dst with
    |none=>eA C τ h mask ls kp
    |some d=>match τ.get d with
     |some y=>bif cZ 64 x y then eA C τ h mask ls kp else C.fail
     |none=>C.fail
   |none=>C.fail)
  rw[OO hB] at h1;cases hb:Nat.testBit mask p.1 with
  |true=>rw[hb] at h1;exact A h1
  |false=>
   rw[hb] at h1;simp only[eU] at h1 ⊢;rcases G:y6 C τ h p.2 with _|x;rw[G] at h1;exact Bc hB h1;rw[G] at h1;dsimp only at h1 ⊢;rcases hd:p.2.dst with _|d;rw[hd] at h1;exact A h1;rw[hd] at h1;dsimp only at h1 ⊢;rcases H:τ.get d with _|y;rw[H] at h1;exact Bc hB h1;rw[H] at h1;dsimp only at h1 ⊢;cases D:cZ 64 x y with
   |true=>rw[D] at h1;exact A h1
   |false=>rw[D] at h1;exact Bc hB h1
theorem AE {base:Nat} {j:T AV ->AH ->R} {kp:T AV ->AH ->Prop} (A:∀τ h,Tr (j τ h) ->kp τ h):∀(l:List DI) (ls:List (Nat×MG)) (pd:List (Nat×Nat×bC)) (τ:T AV) (h:AH),
 Tr ( bW B cb yb base j l ls pd τ h) ->bW C cp yp base kp l ls pd τ h
 |[],_,_,τ,h,hr=>A _ _ hr
 |d::l,ls,pd,τ,h,hr=>by
  cases d with
  |light i g=>
   have h1:Tr ((match y6 B τ h g with
    |some x=>eh τ g.dst x λτ=>bW B cb yb base j l ((i,g)::ls) pd τ h
    |none=>B.fail)):=hr
   show(match y6 C τ h g with
    |some x=>eh τ g.dst x λτ=>bW C cp yp base kp l ((i,g)::ls) pd τ h
    |none=>C.fail)
   rw[OO hB] at h1;rcases E:y6 C τ h g with _|x;rw[E] at h1;exact Bc hB h1;rw[E] at h1;dsimp only at h1 ⊢;rw[iI] at h1 ⊢;exact AE A l _ _ _ _ h1
  |resv i n g=>
   have h1:Tr ((fN (base+n) λid=>match step (az B τ) ⟨id,h.ver,.e⟩ g.op with
    | .v x h'=>match h'.oB.get id with
     |some ob=>eh τ g.dst x λτ=>bW B cb yb base j l ls ((i,id,ob)::pd) τ h
     |none=>B.fail
    |_=>B.fail)):=hr
   show(fN (base+n) λid=>match step (az C τ) ⟨id,h.ver,.e⟩ g.op with
    | .v x h'=>match h'.oB.get id with
     |some ob=>eh τ g.dst x λτ=>bW C cp yp base kp l ls ((i,id,ob)::pd) τ h
     |none=>C.fail
    |_=>C.fail)
   rw[dT] at h1 ⊢;rw[yi hB] at h1;cases H:step (az C τ) ⟨base+n,h.ver,.e⟩ g.op with
   |v x h'=>
    rw[H] at h1;dsimp only at h1 ⊢;rcases G:h'.oB.get (base+n) with _|ob;rw[G] at h1;exact Bc hB h1;rw[G] at h1;dsimp only at h1 ⊢;rw[iI] at h1 ⊢;exact AE A l _ _ _ _ h1
   |_=>rw[H] at h1;exact Bc hB h1
  |lay i=>
   have h1:Tr ((match iC i pd with
    |some (id,ob)=>h.put id ob λh=>bW B cb yb base j l ls pd τ h
    |none=>B.fail)):=hr
   show(match iC i pd with
    |some (id,ob)=>h.put id ob λh=>bW C cp yp base kp l ls pd τ h
    |none=>C.fail)
   rcases D:iC i pd with _|q;rw[D] at h1;exact Bc hB h1;rw[D] at h1;dsimp only at h1 ⊢;rw[AH.put_eq] at h1 ⊢;exact AE A l _ _ _ _ h1
  |heavy i g mask=>
   have h1:Tr (eY B cb yb g τ h (λx h=>eh τ g.dst x λτ=>eA B τ h mask ls (bW B cb yb base j l ls pd τ h))):=hr;refine OQ hB hc hy g τ h (λv h I=> ?_) h1;rw[iI] at I ⊢;exact OR hB (λhh=>AE A l _ _ _ _ hh) _ I
end ops
def R7 (Tr:R ->Prop) (B:aK R) (C:aK Prop) (n:Nat):Prop:=∀c (kb:K R) (kp:K Prop) τ h,(∀e τ h,Tr (kb e τ h) ->kp e τ h) ->Tr (run B n c kb τ h) ->run C n c kp τ h
theorem Do {n} (IH:R7 Tr B C n) f a h G kp (H:∀v h,Tr (G v h) ->kp v h) (j:Tr (DR B (run B n) f a h G)):DR C (run C n) f a h kp:=by
 unfold DR at j ⊢;rcases D:B.ae.get f with _|fn;rw[D] at j;exact Bc hB j;rw[D] at j;rw[hB.ae _ _ D];dsimp only at j ⊢;rw[xZ] at j ⊢;refine IH _ _ _ _ _ (λe τ h A=> ?_) j;cases e with
 |exit i=>exact Bc hB A
 |_=>
  dsimp only at A ⊢;rcases E:eZ τ h fn.res with _|v;rw[E] at A;exact Bc hB A;rw[E] at A;exact H _ _ A
theorem aj9 {n} (IH:R7 Tr B C n) f a h j kp (A:∀v h,Tr (j v h) ->kp v h) (D:Tr (iS B (run B n) f a h j)):iS C (run C n) f a h kp:=
 hB.spec _ _ _ _ _ _ _ A (Do hB IH f a h j kp A) D
theorem OS {j kp} (A:∀τ,Tr (j τ) ->kp τ):∀l a τ,Tr (nG B l a τ j) ->nG C l a τ kp
 |[],[],τ,h=>A τ h
 |[],_::_,_,h=>Bc hB h
 |_::_,[],_,h=>Bc hB h
 |p::l,x::a,τ,h=>by
  have h1:Tr (τ.setK p x (λτ=>nG B l a τ j)):=h;show τ.setK p x (λτ=>nG C l a τ kp);rw[T.setK_put] at h1 ⊢;exact OS A l a _ h1
theorem ak0 {D kp} (E:∀h,Tr (D h) ->kp h) h l (j:Tr (pV B h l D)):pV C h l kp:=by
 unfold pV at j ⊢;split;rename_i A;rw[A] at j;simp only[AH.put_eq] at j ⊢;exact E _ j;rename_i A;split at j
 grind
 exact Bc hB j
theorem Hh {D kp} (E:∀h,Tr (D h) ->kp h) h l st p (j:Tr (DS B h l st p D)):DS C h l st p kp:=by
 unfold DS at j ⊢;split;rename_i A;rw[A] at j;simp only[AH.put_eq] at j ⊢;exact E _ j;rename_i A;split at j
 grind
 exact Bc hB j
theorem ak1 {n} (IH:R7 Tr B C n) l a h E kp (D:∀v h,Tr (E v h) ->kp v h) (A:Tr (iD B (run B n) l a h E)):iD C (run C n) l a h kp:=by
 unfold iD at A ⊢;split at A;rename_i ps G body H _ _ I;refine OS hB (λτ hh=>IH _ _ _ _ _ (λe τ h j=> ?_) hh) _ _ _ A;cases e with
 |normal=>
  refine ak0 hB (λh hh=>IH _ _ _ _ _ (λe τ h j=> ?_) hh) _ _ j;cases e with
  |normal=>exact Hh hB (λh hh=>D _ _ hh) _ _ _ _ j
  |exit i=>exact Hh hB (λh hh=>D _ _ hh) _ _ _ _ j
  |ret=>exact Hh hB (λh hh=>D _ _ hh) _ _ _ _ j
 |_=>exact Bc hB j
 exact Bc hB A
theorem OT:∀n,R7 Tr B C n:=by
 intro n;induction n with
 |zero=>intro c V kp τ h D A;exact Bc hB A
 |succ n IH=>
  intro c V kp τ h D A;rw[gn] at A ⊢;have cc:=aj9 hB IH;have I:=ak1 hB IH;cases c with
  |skip=>exact D _ _ _ A
  |ops l=>exact Hg hB cc I (λτ h=>D _ τ h) l τ h A
  |draw z l=>dsimp only at A ⊢;rw[dT] at A ⊢;exact AE hB cc I (λτ h=>D _ τ h) l _ _ _ _ A
  |dfr l x fn=>
   refine Hg hB cc I (λτ h hh=> ?_) l τ h A;rw[yi hB] at hh;cases H:az C τ x with
   |f g _ _=>
    rw[H] at hh;dsimp only at hh ⊢;cases L:Nat.beq g fn with
    |true=>rw[L] at hh;exact D _ _ _ hh
    |false=>rw[L] at hh;exact Bc hB hh
   |_=>rw[H] at hh;exact Bc hB hh
  |seq a b=>exact IH _ _ _ _ _ (λe τ h E=>by cases e<;>first|exact IH _ _ _ _ _ D E|exact D _ _ _ E) A
  |cond x a b=>
   dsimp only at A ⊢;rw[yi hB] at A;cases H:az C τ x with
   |b t=>rw[H] at A;cases t<;>exact IH _ _ _ _ _ D A
   |_=>rw[H] at A;exact Bc hB A
  |block i a=>exact IH _ _ _ _ _ (λe τ h E=>by
   cases e with
   |exit j=>
    dsimp only at E ⊢;cases N:Nat.beq j i with
    |true=>rw[N] at E;exact D _ _ _ E
    |false=>rw[N] at E;exact D _ _ _ E
   |_=>exact D _ _ _ E) A
  |loop a=>exact IH _ _ _ _ _ (λe τ h E=>by cases e<;>first|exact IH _ _ _ _ _ D E|exact D _ _ _ E) A
  |rfun q ps O body=>
   dsimp only at A ⊢;rw[AH.new_eq] at A ⊢;rw[yi hB] at A;cases H:az C τ q with
   |f g U ca=>
    rw[H] at A;dsimp only at A ⊢;rcases J:fy U (.y h.next::ca) with _|l;rw[J] at A;exact Bc hB A;rw[J] at A;refine Do hB IH _ _ _ _ _ (λv h' G=> ?_) A;split at G;rw[AH.put_eq] at G ⊢;exact D _ _ _ G;rw[AH.put_eq] at G ⊢;exact D _ _ _ G;rw[AH.put_eq] at G ⊢;exact D _ _ _ G;exact Bc hB G
   |_=>rw[H] at A;exact Bc hB A
  |exit i=>exact D _ _ _ A
  |ret=>exact D _ _ _ A
  |bad w=>exact Bc hB A
end
variable {P:Program} {X:aR} {GL:T (List AV)} {ae:T au}
def Dp (P:Program) (X:aR) (GL:T (List AV)) (kn:Nat ->List AV ->Option AV):Prop:=∀f a v,kn f a=some v ->∀h,bP P X GL f a h v h
def Hi (GL:T (List AV)) (j:T au) (kn:Nat ->List AV ->Option AV):aK Bool where
 ae:=j
 gL:=GL
 spec:=λf a h k fb=>match kn f a with|some v=>k v h|none=>fb
 fail:=false
 both:=and
def gM (GL:T (List AV)) (j:T au) (kn:Nat ->List AV ->Option AV) (n f:Nat) (args:List AV) (d:AV):Bool:=
 DR (Hi GL j kn) (run (Hi GL j kn) n) f args h0 λx h=>match deep 12 h x with|some y=>cZ 64 y d|none=>false
def hY {A kn} (L:∀f m,A.get f=some m ->ae.get f=some m) (I:Dp P X GL kn) {n f args d} (J:gM GL A kn n f args d=true):bg P X GL ae f args d:=by
 have hB:BP (λb:Bool=>b=true) (Hi GL A kn) (tD P X GL ae):={
  ae:=L
  gL:=rfl
  fail:=λh=>Bool.noConfusion h
  both:=λ_ _ h=>nj.1 h
  both':=λ_ _=>rfl
  spec:=λf a h N kp fb G h1 h2 H=>by
   refine aw0 (?_:(∃v h',kp v h'/\ bP P X GL f a h v h')∨G);have j:(match kn f a with|some v=>N v h|none=>fb)=true:=H;rcases D:kn f a with _|v;rw[D] at j;exact .inr (h2 j);rw[D] at j;exact .inl ⟨v,h,h1 _ _ j,I f a v D h⟩ }
 refine⟨n,Do hB (OT hB n) f args h0 _ _ (λx h E=> ?_) J⟩;split at E;rename_i y hy;exact⟨12,by rw[hy,HZ _ _ _ E]⟩;cases E
def iE:Dp P X GL (λ_ _=>none):=λ_ _ _ h=>by cases h
section
def mP (h:AH) (o:Nat):Bool:=match h.oB.get o with|some (.cells _ _)=>true|_=>false
def qf (h:AH) (l:List Nat) (t:T bC):T bC:=l.foldl (λt o=>bif mP h o then t.put o .gone else t) t
def AK (h:AH) (l:List Nat) (t:T bC):T bC:=l.foldl (λt o=>match h.oB.get o with|some (.cells v c)=>t.put o (.cells v c)|_=>t) t
def tE (h:AH) (l:List Nat):AH:=⟨h.next,h.ver,qf h l h.oB⟩
def qT (h:AH) (l:List Nat):AH:=⟨h.next,h.ver,AK h l .e⟩
def BG {h1 h2} (hs:∀o v l,h1.oB.get o=some (.cells v l) ->∃v',h2.oB.get o=some (.cells v' l)):∀n,
 (∀a d,deep n h1 a=some d ->deep n h2 a=some d)/\ (∀l d,bJ n h1 l=some d ->bJ n h2 l=some d):=by
 have lst:∀n,(∀a d,deep n h1 a=some d ->deep n h2 a=some d) ->∀l d,bJ n h1 l=some d ->bJ n h2 l=some d:=by
  intro n one l;induction l with
  |nil=>exact λ_ hd=>hd
  |cons a l ih=>
   intro d hd;rw[aL] at hd ⊢;split at hd
   ·grind
   ·cases hd
 intro n;induction n with
 |zero=>
  refine⟨?_,lst 0 ?_⟩<;>(intro a d hd;cases a<;>first|exact hd|cases hd)
 |succ n ih=>
  have hm:∀l l',eM (deep n h1) l=some l' ->eM (deep n h2) l=some l':=ih.2;have one:∀a d,deep (n+1) h1 a=some d ->deep (n+1) h2 a=some d:=by
   intro a d hd;cases a<;>simp only[deep] at hd ⊢<;>(try exact hd)<;>repeat' (first|(cases hd;done)|split at hd)
   ·obtain⟨v',e⟩:=hs _ _ _ ‹_›;simp only[e,hm _ _ ‹_›];exact hd
   ·rw[hm _ _ ‹_›];exact hd
   ·obtain⟨v',e⟩:=hs _ _ _ ‹_›;simp only[e,hm _ _ ‹_›];exact hd
   ·rw[hm _ _ ‹_›];exact hd
   ·grind
   ·rw[ih.1 _ _ ‹_›];exact hd
   ·rw[hm _ _ ‹_›];exact hd
   ·rw[hm _ _ ‹_›];exact hd
  exact⟨one,lst _ one⟩
def AL h:∀l t o,(qf h l t).get o=if o∈l/\ mP h o=true then some .gone else t.get o
 |[],t,o=>by simp[qf]
 |a::l,t,o=>by
  have e:qf h (a::l) t=qf h l (bif mP h a then t.put a .gone else t):=rfl;rw[e,AL h l];cases j:mP h a with
  |true=>
   rw[fC,T.get_put];by_cases q:o=a;subst q;simp[j];simp[q]
  |false=>
   rw[eU];by_cases q:o=a;subst q;simp[j];simp[q]
def Hj h:∀l t o ob,(AK h l t).get o=some ob ->(o∈l/\ mP h o=true/\ h.oB.get o=some ob)∨t.get o=some ob
 |[],t,o,ob,hg=> .inr hg
 |a::l,t,o,ob,hg=>by
  have e:AK h (a::l) t=AK h l (match h.oB.get a with|some (.cells v c)=>t.put a (.cells v c)|_=>t):=rfl;rw[e] at hg;rcases Hj h l _ o ob hg with ⟨h1,h2,A⟩|j
  grind
  clear hg;split at j;rename_i v c hc;rw[T.get_put] at j;by_cases q:o=a;rw[aF q] at j;subst q;exact .inl ⟨by simp,by unfold mP;rw[hc],by rw[hc];exact j⟩
  grind
  exact .inr j
open Classical
def CE.frz (c:CE) (h:AH) (w:World) (l:List Nat):CE:={ c with im:=λb=>match c.im b with
 |some row=>some row
 |none=>if∃o ver r,o∈l/\ dU c h o (.cells ver r)/\ (c.ρ o).1=b then fL w b else none }
def CE.frz_ext c h w l:gE c (c.frz h w l):=⟨λ_ h=>h,λ_ _=>rfl,λ_ _=>rfl,λb row h=>by simp[CE.frz,h],rfl⟩
variable {h:AH}
def AN {c w l o ob} (hh:dU (c.frz h w l) (tE h l) o ob):dU c h o ob/\¬(o∈l/\ mP h o=true):=by
 have j:=hh.get;have e:(tE h l).oB.get o=if o∈l/\ mP h o=true then some .gone else h.oB.get o:=AL h l h.oB o
 rw[e] at j;split at j;have:=hh.live;rw[←gC j] at this;cases this;rename_i q;exact⟨⟨j,hh.live,hh.dM⟩,q⟩
def ak2 {c o ver r} (hh:dU c h o (.cells ver r)):mP h o=true:=by simp[mP,hh.get]
def ak3 {c w} (r:RS (dJ X) c h w) l:cH (dJ X) c h w (c.frz h w l) (tE h l) w:=by
 have E:=c.frz_ext h w l;have im:∀b row,(c.frz h w l).im b=some row ->c.im b=some row∨(c.im b=none/\ (∃o ver G,o∈l/\ dU c h o (.cells ver G)/\ (c.ρ o).1=b)/\ fL w b=some row):=λb row hb=>by
  have j:(match c.im b with|some row=>some row|none=>if∃o ver G,o∈l/\ dU c h o (.cells ver G)/\ (c.ρ o).1=b then fL w b else none)=some row:=hb;cases hc:c.im b with
  |some J=>rw[hc] at j;cases j;exact .inl rfl
  |none=>
   rw[hc] at j;dsimp only at j;split at j
   grind
   cases j
 refine⟨E,⟨r.nx,λo ob A=> ?_,λo ob D=> ?_,λo H a b D L=>r.inj o H a b (AN D).1 (AN L).1,λb row hb=> ?_,λo ob D=> ?_,λg U A=> ?_⟩,
  ⟨bB _,λ_ _ _=>rfl,λo ob D=> .inr ⟨o,ob,(AN D).1,rfl⟩,λo D=> .inl D,bB _,λb row hb=> ?_,λo _ hd ob A=> ?_,⟨rfl,rfl⟩⟩⟩
 have e:(tE h l).oB.get o=if o∈l/\ mP h o=true then some .gone else h.oB.get o:=AL h l h.oB o
 rw[e] at A;split at A;rename_i q;have I:=q.2;unfold mP at I;split at I;rename_i hc;exact r.lt o _ hc;cases I;exact r.lt o ob A;exact(r.obj o ob (AN D).1).mono E D.dM rfl;rcases im b row hb with e|⟨_,_,e⟩;exact r.im b row e;exact Dl e;obtain⟨hh,O⟩:=AN D;rcases hb:(c.frz h w l).im (c.ρ o).1 with _|row;exact hb;rcases im _ row hb with e|⟨_,⟨H,ver,G,h1,h2,N⟩,_⟩;rw[r.dj o ob hh] at e;cases e;have:=r.inj H o _ _ h2 hh N;subst this;exact(O ⟨h1,ak2 h2⟩).elim;obtain⟨row,vs,e1,e2,e3⟩:=r.gl g U A;exact⟨row,vs,E.im _ _ e1,e2,e3.mono E⟩
 grind
 have e:(tE h l).oB.get o=if o∈l/\ mP h o=true then some .gone else h.oB.get o:=AL h l h.oB o
 rw[e] at A;split at A;rw[←gC A];rfl;exact hd ob A
variable (S:aT P X GL ae)
def ak4 {f args d} (V:bg P X GL ae f args d) {c w vs} (r:RS (dJ X) c h w) (gl:∀g l,GL.get g=some l ->c.gl g=some l)
 (A:bX (c.only c.im GL) args vs):mJ P ((callFunc f vs.toArray).run P w) λv' D=>∃I,cH (dJ X) c h w I h D/\ VR I d v':=by
 have r0:RS (dJ X) (c.only c.im GL) h0 w:=r.only gl S.gl r.im (λ_ _ h=>h);refine G9 S V r0 (λg l h=>h) A λv' D x h1 c1 m hd j H=>⟨c.fix w D,Hb r j.keep.size (λb hb=>Ha j hb) j.keep.io,?_⟩;refine(yf (CR:=dJ X) (c:=c1) (h:=h1) (w:=D) (c2:=c.fix w D) (λo ver l hh=>j.rs.obj _ _ hh) (λb row hb=> ?_) (λo ver l hh row t N O=> ?_) m).1 _ _ _ hd H;show(match c.im b with|some row=>some row|none=>if w.heap.size<=b then fL D b else none)=some row;rcases j.keep.im b row hb with e|e|⟨o,ob,U,_⟩;have L:c.im b=some row:=e;rw[L];have G:c.im b=none:=by
  rcases hc:c.im b with _|E;rfl;have:=r.im_lt hc;omega
 rw[G];dsimp only;rw[aF e];obtain⟨t,N,e2⟩:=j.rs.im b row hb;exact qS e2;exact(rY U).elim;show(match c.im (c1.ρ o).1 with|some row=>some row|none=>if w.heap.size<=(c1.ρ o).1 then fL D (c1.ρ o).1 else none)=some row;rcases j.keep.new o _ hh with e|⟨W,ob',J,_⟩;have G:c.im (c1.ρ o).1=none:=by
  rcases hc:c.im (c1.ρ o).1 with _|E;rfl;have:=r.im_lt hc;omega
 rw[G];dsimp only;rw[aF e];exact qS O;exact(rY J).elim
def Dq {f args j d} (W:bg P X GL ae f j d) {n l} (U:bJ n (qT h l) args=some j):bP P X GL f args h d (tE h l):=by
 intro c w vs r gl Y;have e1:=ak3 r l;have E:∀o ver A,dU c (qT h l) o (.cells ver A) ->o∈l/\ dU c h o (.cells ver A):=λo ver A hh=>by
  rcases Hj h l .e o _ hh.get with ⟨h1,_,G⟩|G;exact⟨h1,G,hh.live,hh.dM⟩;have:(T.e:T bC).get o=none:=rfl;rw[this] at G;cases G
 have D:bX ((c.frz h w l).only (c.frz h w l).im GL) j vs:=
  (yf (CR:=dJ X) (c:=c) (h:=qT h l) (w:=w) (c2:=(c.frz h w l).only (c.frz h w l).im GL) (λo ver A hh=>r.obj _ _ (E o ver A hh).2) (λb row hb=>(c.frz_ext h w l).im b row hb)
   (λo ver A hh row t Z O=>by
    obtain⟨h1,h2⟩:=E o ver A hh;show(match c.im (c.ρ o).1 with|some row=>some row|none=>if∃L ver A,L∈l/\ dU c h L (.cells ver A)/\ (c.ρ L).1=(c.ρ o).1 then fL w (c.ρ o).1 else none)=some row;rw[r.dj o _ h2];dsimp only;rw[aF ⟨o,ver,A,h1,h2,rfl⟩];exact qS O) n).2 _ _ _ U Y
 have I:∀g H,GL.get g=some H ->(c.frz h w l).gl g=some H:=λg H V=>gl g H V;exact mJ.mono (ak4 S W e1.rs I D) λv' w' ⟨N,e2,J⟩=>⟨N,e1.trans e2,J⟩
end
def jM:Nat ->AH ->AV ->AV ->Bool
 |n+1,h,.p o a,d=>match d with
  | .dp l a'=>Nat.beq a a'&&(match h.oB.get o with|some (.cells _ c)=>cZ.avEqs (jM n h) c l|_=>false)
  |_=>false
 |n+1,h,.sl o a k _ e,d=>match d with
  | .ds l a' k' e'=>Nat.beq a a'&&(Nat.beq k k'&&(Nat.beq e e'&&(match h.oB.get o with|some (.cells _ c)=>cZ.avEqs (jM n h) c l|_=>false)))
  |_=>false
 |n+1,h,.ag l,d=>match d with| .ag l'=>cZ.avEqs (jM n h) l l'|_=>false
 |n+1,h,.tu l,d=>match d with| .tu l'=>cZ.avEqs (jM n h) l l'|_=>false
 |n,_,a,d=>cZ n a d
abbrev qg (n:Nat) (h:AH) (l d:List AV):Bool:=cZ.avEqs (jM n h) l d
def OU {f a l d}:cZ.avEqs f (a::l) d=true ->∃b r,d=b::r/\ f a b=true/\ cZ.avEqs f l r=true:=by
 intro h;rcases d with _|⟨b,r⟩;cases h;have h':(f a b&&cZ.avEqs f l r)=true:=h;exact⟨b,r,rfl,(nj.1 h').1,(nj.1 h').2⟩
def OV {f d}:cZ.avEqs f [] d=true ->d=[]:=by
 intro h;rcases d with _|⟨b,r⟩;rfl;cases h
def ak5 {n h a l b r} (e:bJ n h (a::l)=some (b::r)):deep n h a=some b/\ bJ n h l=some r:=by
 rw[aL] at e;rcases j:deep n h a with _|x;rw[j] at e;cases e;rcases A:bJ n h l with _|y;rw[j,A] at e;cases e;rw[j,A] at e;cases e;exact⟨rfl,rfl⟩
variable {h:AH}
def ak6 n:(∀a d,deep n h0 a=some d ->deep n h a=some d)/\ (∀l d,bJ n h0 l=some d ->bJ n h l=some d):=BG (λo v l e=>by have j:(T.e:T bC).get o=_:=e;rw[T.get_e] at j;cases j) n
def Hk:∀n m,(∀a d,jM n h a d=true ->deep m h0 d=some d ->deep m h a=some d)/\ (∀l d,qg n h l d=true ->bJ m h0 d=some d ->bJ m h l=some d):=by
 have A:∀n m,(∀a d,jM n h a d=true ->deep m h0 d=some d ->deep m h a=some d) ->(∀l d,qg n h l d=true ->bJ m h0 d=some d ->bJ m h l=some d):=λn m H l=>by
  induction l with
  |nil=>intro d e _;rw[OV e];rfl
  |cons a l I=>
   intro d e hd;obtain⟨b,r,rfl,e1,e2⟩:=OU e;obtain⟨L,N⟩:=ak5 hd;rw[aL,H a b e1 L,I r e2 N]
 have same:∀n m a d,cZ n a d=true ->deep m h0 d=some d ->deep m h a=some d:=λn m a d e hd=>by rw[HZ _ _ _ e];exact(ak6 m).1 _ _ hd
 intro n;induction n with
 |zero=>intro m;exact⟨λa d e hd=>same 0 m a d (by simpa only[jM] using e) hd,A 0 m λa d e hd=>same 0 m a d (by simpa only[jM] using e) hd⟩
 |succ n I=>
  intro m;have E:∀(l:List AV) (F:List AV ->AV),(∀x y,F x=F y ->x=y) ->∀m,(match bJ m h0 l with|some l=>some (F l)|none=>none)=some (F l) ->bJ m h0 l=some l:=λl F inj m e=>by
   grind
  have H:∀a d,jM (n+1) h a d=true ->deep m h0 d=some d ->deep m h a=some d:=λa d e hd=>by
   cases a with
   |p o j=>
    cases d with
    |dp l J=>
     have D:(Nat.beq j J&&(match h.oB.get o with|some (.cells _ c)=>qg n h c l|_=>false))=true:=e;obtain⟨e1,e2⟩:=nj.1 D;have e1:=qG e1;subst e1;rcases m with _|m;cases hd;have G:=E l (λl=> .dp l j) (λx y q=>by cases q;rfl) m hd;show(match h.oB.get o with|some (.cells _ l)=>(match bJ m h l with|some l=>some (AV.dp l j)|none=>none)|_=>none)=_;split at e2;rename_i v c hc;rw[(I m).2 c l e2 G];cases e2
    |_=>cases e
   |sl o j len cap esz=>
    cases d with
    |ds l J k' D=>
     have D:(Nat.beq j J&&(Nat.beq len k'&&(Nat.beq esz D&&(match h.oB.get o with|some (.cells _ c)=>qg n h c l|_=>false))))=true:=e;obtain⟨e1,D⟩:=nj.1 D;obtain⟨e3,D⟩:=nj.1 D;obtain⟨e4,e2⟩:=nj.1 D;have e1:=qG e1;have e3:=qG e3;have e4:=qG e4;subst e1 e3 e4;rcases m with _|m;cases hd;have G:=E l (λl=> .ds l j len esz) (λx y q=>by cases q;rfl) m hd;show(match h.oB.get o with|some (.cells _ l)=>(match bJ m h l with|some l=>some (AV.ds l j len esz)|none=>none)|_=>none)=_;split at e2;rename_i v c hc;rw[(I m).2 c l e2 G];cases e2
    |_=>cases e
   |ag l=>
    cases d with
    |ag l'=>
     have e2:qg n h l l'=true:=e;rcases m with _|m;cases hd;have G:=E l' .ag (λx y q=>by cases q;rfl) m hd;show(match bJ m h l with|some l=>some (AV.ag l)|none=>none)=_;rw[(I m).2 l l' e2 G]
    |_=>cases e
   |tu l=>
    cases d with
    |tu l'=>
     have e2:qg n h l l'=true:=e;rcases m with _|m;cases hd;have G:=E l' .tu (λx y q=>by cases q;rfl) m hd;show(match bJ m h l with|some l=>some (AV.tu l)|none=>none)=_;rw[(I m).2 l l' e2 G]
    |_=>cases e
   |_=>exact same (n+1) m _ d (by simpa only[jM] using e) hd
  exact⟨H,A _ _ H⟩
def uR:Nat ->AV ->Bool
 |_,.p .. |_,.sl .. |0,.ag _|0,.tu _=>false
 |n+1,.ag l=>List.rec (motive:=λ_=>Bool) true (λa _ j=>uR n a&&j) l
 |n+1,.tu l=>List.rec (motive:=λ_=>Bool) true (λa _ j=>uR n a&&j) l
 |_,_=>true
def AO (n:Nat) (l:List AV):Bool:=List.rec (motive:=λ_=>Bool) true (λa _ j=>uR n a&&j) l
def ak7:∀n m,(∀a d,uR n a=true ->jM m h a d=true ->a=d)/\ (∀l d,AO n l=true ->qg m h l d=true ->l=d):=by
 have j:∀n m,(∀a d,uR n a=true ->jM m h a d=true ->a=d) ->(∀l d,AO n l=true ->qg m h l d=true ->l=d):=λn m H l=>by
  induction l with
  |nil=>intro d _ e;rw[OV e]
  |cons a l A=>
   intro d s e;obtain⟨b,r,rfl,e1,e2⟩:=OU e;obtain⟨E,G⟩:=nj.1 (show(uR n a&&AO n l)=true from s);rw[H a b E e1,A r G e2]
 intro n;induction n with
 |zero=>
  intro m;have H:∀a d,uR 0 a=true ->jM m h a d=true ->a=d:=λa d s e=>by
   cases m with
   |zero=>exact HZ _ _ _ (by simpa only[jM] using e)
   |succ m=>cases a<;>first|(cases s;done)|exact HZ _ _ _ (by simpa only[jM] using e)
  exact⟨H,j 0 m H⟩
 |succ n A=>
  intro m;have H:∀a d,uR (n+1) a=true ->jM m h a d=true ->a=d:=λa d s e=>by
   rcases m with _|m;exact HZ _ _ _ (by simpa only[jM] using e);cases a with
   |p o D=>cases s
   |sl o D len cap esz=>cases s
   |ag l=>
    cases d with
    |ag l'=>rw[(A m).2 l l' s e]
    |_=>cases e
   |tu l=>
    cases d with
    |tu l'=>rw[(A m).2 l l' s e]
    |_=>cases e
   |_=>exact HZ _ _ _ (by simpa only[jM] using e)
  exact⟨H,j _ m H⟩
def qh:Nat ->AV ->Bool
 |_,.b _|_,.i _ _|_,.s _|_,.pn|_,.sn|_,.mn|_,.fnil|_,.ifn|_,.un=>true
 |n+1,.dp l _|n+1,.ds l _ _ _|n+1,.ag l|n+1,.tu l=>List.rec (motive:=λ_=>Bool) true (λa _ j=>qh n a&&j) l
 |n+1,.ifc _ v=>qh n v
 |n+1,.f _ a b=>List.rec (motive:=λ_=>Bool) true (λa _ j=>qh n a&&j) a&&List.rec (motive:=λ_=>Bool) true (λa _ j=>qh n a&&j) b
 |_,_=>false
def wI (n:Nat) (l:List AV):Bool:=List.rec (motive:=λ_=>Bool) true (λa _ j=>qh n a&&j) l
def OW:∀n,(∀d,qh n d=true ->deep n h0 d=some d)/\ (∀l,wI n l=true ->bJ n h0 l=some l):=by
 have j:∀n,(∀d,qh n d=true ->deep n h0 d=some d) ->(∀l,wI n l=true ->bJ n h0 l=some l):=λn H l=>by
  induction l with
  |nil=>intro _;rfl
  |cons a l A=>
   intro s;obtain⟨D,E⟩:=nj.1 (show(qh n a&&wI n l)=true from s);rw[aL,H a D,A E]
 intro n;induction n with
 |zero=>
  have H:∀d,qh 0 d=true ->deep 0 h0 d=some d:=λd e=>by cases d<;>first|rfl|cases e
  exact⟨H,j 0 H⟩
 |succ n A=>
  have H:∀d,qh (n+1) d=true ->deep (n+1) h0 d=some d:=λd e=>by
   cases d with
   |dp l o=>show(match bJ n h0 l with|some l=>some (AV.dp l o)|none=>none)=_;rw[A.2 l e]
   |ds l o k z=>show(match bJ n h0 l with|some l=>some (AV.ds l o k z)|none=>none)=_;rw[A.2 l e]
   |ag l=>show(match bJ n h0 l with|some l=>some (AV.ag l)|none=>none)=_;rw[A.2 l e]
   |tu l=>show(match bJ n h0 l with|some l=>some (AV.tu l)|none=>none)=_;rw[A.2 l e]
   |ifc t v=>show(match deep n h0 v with|some v=>some (AV.ifc t v)|none=>none)=_;rw[A.1 v e]
   |f g a b=>
    obtain⟨e1,e2⟩:=nj.1 (show(wI n a&&wI n b)=true from e);show(match bJ n h0 a,bJ n h0 b with|some a,some b=>some (AV.f g a b)|_,_=>none)=_;rw[A.2 a e1,A.2 b e2]
   |_=>first|rfl|cases e
  exact⟨H,j _ H⟩
structure aP where
 a:List AV
 d:AV
def yj:Nat ->AH ->List Nat ->List AV ->List Nat
 |0,_,j,_=>j
 |n+1,h,j,l=>List.rec (motive:=λ_=>List Nat ->List Nat) (λj=>j) (λv _ A j=>A (match v with
  | .p o _=>match h.oB.get o with|some (.cells _ c)=>yj n h (o::j) c|_=>j
  | .sl o _ _ _ _=>match h.oB.get o with|some (.cells _ c)=>yj n h (o::j) c|_=>j
  | .ag c=>yj n h j c
  | .tu c=>yj n h j c
  |_=>j)) l j
section
variable {R:Type}
def Dr (e:aP) (a:List AV) (h:AH) (k:AV ->AH ->R) (nx:R):R:=
 bif qg 20 h a e.a then
  bif AO 20 a then k e.d h else bif kI 6 e.d then k e.d h else
   match yj 20 h [] a with
   |l=>bif qg 20 (qT h l) a e.a then k e.d (tE h l) else nx
 else nx
def Ds (a:List AV) (h:AH) (k:AV ->AH ->R) (nx:R) (l:List aP):R:=List.rec (motive:=λ_=>R) nx (λe _ j=>Dr e a h k j) l
end
def xk (P:Program) (X:aR) (GL:T (List AV)) (ae:T au) (f:Nat) (e:aP):Prop:=bg P X GL ae f e.a e.d/\ bJ 30 h0 e.a=some e.a
variable (S:aT P X GL ae)
def ak8 {f e} (A:xk P X GL ae f e) {a R} {Tr:R ->Prop} {G nx} (j:Tr (Dr e a h G nx)):
 (∃v h',Tr (G v h')/\ bP P X GL f a h v h')∨Tr nx:=by
 unfold Dr at j;cases h1:qg 20 h a e.a;rw[h1] at j;exact .inr j;rw[h1,fC] at j;cases h2:AO 20 a with
 |true=>
  rw[h2,fC] at j;have H:=(ak7 (h:=h) 20 20).2 a e.a h2 h1;rw[H];exact .inl ⟨e.d,h,j,dR S A.1 A.2 h⟩
 |false=>
  rw[h2,eU] at j;cases D:kI 6 e.d with
  |true=>
   rw[D,fC] at j;exact .inl ⟨e.d,h,j,oE S A.1 ((Hk 20 30).2 a e.a h1 A.2) D⟩
  |false=>
   rw[D,eU] at j;dsimp only at j;cases E:qg 20 (qT h (yj 20 h [] a)) a e.a;rw[E] at j;exact .inr j;rw[E,fC] at j;exact .inl ⟨e.d,_,j,Dq S A.1 ((Hk 20 30).2 a e.a E A.2)⟩
def OX (S:aT P X GL ae) {f}:∀{l},(∀e∈l,xk P X GL ae f e) ->∀{a h R} {Tr:R ->Prop} {kb nx},Tr (Ds a h kb nx l) ->
 (∃v h',Tr (kb v h')/\ bP P X GL f a h v h')∨Tr nx
 |[],_,a,h,R,Tr,kb,nx,hr=> .inr hr
 |e::l,he,a,h,R,Tr,kb,nx,hr=>by
  rcases ak8 S (he e (by simp)) (show Tr (Dr e a h kb (Ds a h kb nx l)) from hr) with h1|h1;exact .inl h1;exact OX S (λe q=>he e (by simp[q])) h1
def Sd (P:Program) (X:aR) (GL:T (List AV)) (j:Nat ->List AV ->AH ->Option (AV×AH)):Prop:=∀f a h v h',j f a h=some (v,h') ->bP P X GL f a h v h'
def Du (P:Program) (X:aR) (GL:T (List AV)) (ae:T au) (j:T (List aP)):Prop:=∀f l,j.get f=some l ->∀e∈l,xk P X GL ae f e
def OY (a b:List Bool ->Bool):List Bool ->Bool
 |[]=>a []&&b []
 |true::p=>a p
 |false::p=>b p
inductive Dv where
 |leaf
 |node (l r:Dv)
def wJ:Dv ->(List Bool ->Bool) ->Prop
 | .leaf,r=>r []=true
 | .node a b,r=>wJ a (λp=>r (true::p))/\ wJ b (λp=>r (false::p))
def yl (r:List Bool ->Bool):Prop:=∃c,wJ c r
def Hl:∀c,¬wJ c (λ_=>false)
 | .leaf,h=>Bool.noConfusion h
 | .node a _,h=>Hl a h.1
def Dw {b}:∀{c r},wJ c (λp=>r p&&b) ->wJ c r/\ b=true
 | .leaf,_,h=>nj.1 h
 | .node _ _,_,h=>⟨⟨(Dw h.1).1,(Dw h.2).1⟩,(Dw h.1).2⟩
def ak9 {b} (h:yl λ_=>b):b=true:=by
 cases b with
 |true=>rfl
 |false=>obtain⟨c,h⟩:=h;exact(Hl c h).elim
def al0 {a b} (h:yl (OY a b)):yl a/\ yl b:=by
 obtain⟨c,h⟩:=h;cases c with
 |leaf=>exact⟨⟨.leaf,(nj.1 h).1⟩,⟨.leaf,(nj.1 h).2⟩⟩
 |node l r=>exact⟨⟨l,h.1⟩,⟨r,h.2⟩⟩
def AQ (GL:T (List AV)) (A:T au) (j:Nat ->List AV ->AH ->Option (AV×AH)) (D:T (List aP)):aK (List Bool ->Bool) where
 ae:=A
 gL:=GL
 spec:=λf a h k fb=>match D.get f with
  |some l=>Ds a h k fb l
  |none=>match j f a h with
   |some r=>k r.1 r.2
   |none=>fb
 fail:=λ_=>false
 both:=OY
def Hm (GL:T (List AV)) (A:T au) (j:Nat ->List AV ->AH ->Option (AV×AH)) (D:T (List aP)) (n f:Nat) (e:aP) (p:List Bool):Bool:=
 DR (AQ GL A j D) (run (AQ GL A j D) n) f e.a h0 (λx h _=>jM 20 h x e.d) p&&(qh 30 e.d&&wI 30 e.a)
def OZ {E A D} (O:∀f m,E.get f=some m ->ae.get f=some m) (hb:Sd P X GL A) (U:Du P X GL ae D) {n f e c}
 (H:wJ c (Hm GL E A D n f e)):xk P X GL ae f e:=by
 obtain⟨H,h1⟩:=Dw H;obtain⟨h1,h2⟩:=nj.1 h1;have hB:BP yl (AQ GL E A D) (tD P X GL ae):={
  ae:=O
  gL:=rfl
  fail:=λ⟨c,h⟩=>Hl c h
  both:=λ_ _ h=>al0 h
  both':=λ_ _=>rfl
  spec:=λf a h J kp fb L h1 h2 N=>by
   refine aw0 (?_:(∃v h',kp v h'/\ bP P X GL f a h v h')∨L);have j:yl (match D.get f with
    |some l=>Ds a h J fb l
    |none=>match A f a h with
     |some r=>J r.1 r.2
     |none=>fb):=N
   cases I:D.get f with
   |some l=>
    rw[I] at j;rcases OX S (U f l I) j with ⟨v,h',W,Y⟩|q
    grind
    exact .inr (h2 q)
   |none=>
    rw[I] at j;dsimp only at j;rcases G:A f a h with _|r;rw[G] at j;exact .inr (h2 j);rw[G] at j;exact .inl ⟨r.1,r.2,h1 _ _ j,hb f a h r.1 r.2 G⟩ }
 refine⟨⟨n,Do hB (OT hB n) f e.a h0 _ _ (λx h V=> ?_) ⟨c,H⟩⟩,(OW 30).2 _ h2⟩;exact⟨30,(Hk 20 30).1 x e.d (ak9 V) ((OW 30).1 _ h1)⟩
def aw2 {ev} op:AR op ev h=step ev h op:=rfl
section
variable {R:Type} (C:aK R)
def Dx (A j:Nat ->List AV ->AH ->(AV ->AH ->R) ->R) (op:Eb) (τ:T AV) (h:AH) (k:AV ->AH ->R):R:=
 da.rec (motive:=λ_=>R) (λx h=>k x h) (λf args h=>A f args h k) (λl args h=>j l args h k) (λl=>gQ C k l) C.fail (AR op (az C τ) h)
def ar7 (j:R) (q:Nat×Bool) (τ:T AV) (h:AH) (k:AV ->AH ->R):R:=
 match τ.get q.1 with
  |some (.b x)=>Bool.rec (motive:=λ_=>R) (k (.tu []) h) j (bif x then q.2 else !q.2)
  |some (.tu [])=>k (.tu []) h
  |_=>C.fail
def ym (A j:Nat ->List AV ->AH ->(AV ->AH ->R) ->R) (g:MG) (τ:T AV) (h:AH) (k:AV ->AH ->R):R:=
 Option.rec (motive:=λ_=>R) (Dx C A j g.op τ h k) (λq=>ar7 C (Dx C A j g.op τ h k) q τ h k) g.guard
def O0 A j g τ h k:ym C A j g τ h k=eY C A j g τ h k:=by
 have D:Dx C A j g.op τ h k=(match step (az C τ) h g.op with
  | .v x h=>k x h
  | .call f args h=>A f args h k
  | .yld l args h=>j l args h k
  | .alts l=>gQ C k l
  | .bad=>C.fail):=by
  unfold Dx;rw[aw2];cases step (az C τ) h g.op<;>rfl
 unfold ym eY;rw[D];cases g.guard<;>rfl
def Ho (D j:Nat ->List AV ->AH ->(AV ->AH ->R) ->R) (k:T AV ->AH ->R) (l:List MG):T AV ->AH ->R:=
 List.rec (motive:=λ_=>T AV ->AH ->R) k (λg _ A τ h=>ym C D j g τ h λx h=>eh τ g.dst x λτ=>A τ h) l
def Sn A j k:∀l τ h,Ho C A j k l τ h=AY C A j k l τ h
 |[],_,_=>rfl
 |g::l,τ,h=>by
  show ym C A j g τ h (λx h=>eh τ g.dst x λτ=>Ho C A j k l τ h)=eY C A j g τ h (λx h=>eh τ g.dst x λτ=>AY C A j k l τ h);rw[O0];congr 1;funext x h;congr 1;funext τ;exact Sn A j k l τ h
def yn (τ:T AV) (h:AH) (g:MG):Option AV:=
 match g.guard with
 |none=>da.rec (motive:=λ_=>Option AV) (λx _=>some x) (λ_ _ _=>none) (λ_ _ _=>none) (λ_=>none) none (AR g.op (az C τ) h)
 |some _=>y6 C τ h g
def O2 τ h g:yn C τ h g=y6 C τ h g:=by
 unfold yn y6;rw[aw2];rcases g.guard with _|q;cases step (az C τ) h g.op<;>rfl;rfl
def yo (τ:T AV) (h:AH) (mask:Nat) (ls:List (Nat×MG)) (k:R):R:=
 List.rec (motive:=λ_=>R) k (λp _ j=>bif Nat.testBit mask p.1 then j else match yn C τ h p.2 with
  |some x=>match p.2.dst with
   |none=>j
   |some d=>match τ.get d with
    |some y=>bif cZ 64 x y then j else C.fail
    |none=>C.fail
  |none=>C.fail) ls
def Sq τ h mask k:∀ls,yo C τ h mask ls k=eA C τ h mask ls k
 |[]=>rfl
 |p::ls=>by
  show(bif Nat.testBit mask p.1 then yo C τ h mask ls k else match yn C τ h p.2 with
   |some x=>match p.2.dst with
    |none=>yo C τ h mask ls k
    |some d=>match τ.get d with
     |some y=>bif cZ 64 x y then yo C τ h mask ls k else C.fail
     |none=>C.fail
   |none=>C.fail)=_
  rw[Sq τ h mask k ls,O2];rfl
def O4 (D A:Nat ->List AV ->AH ->(AV ->AH ->R) ->R) (base:Nat) (d:DI) (j:List (Nat×MG) ->List (Nat×Nat×bC) ->T AV ->AH ->R) (ls:List (Nat×MG)) (pd:List (Nat×Nat×bC)) (τ:T AV) (h:AH):R:=
 DI.rec (motive:=λ_=>R)
  (λi g=>Option.rec (motive:=λ_=>R) C.fail (λx=>eh τ g.dst x λτ=>j ((i,g)::ls) pd τ h) (yn C τ h g))
  (λi n g=>fN (base+n) λid=>match AR g.op (az C τ) ⟨id,h.ver,.e⟩ with
   | .v x h'=>match h'.oB.get id with
    |some ob=>eh τ g.dst x λτ=>j ls ((i,id,ob)::pd) τ h
    |none=>C.fail
   |_=>C.fail)
  (λi=>match iC i pd with
   |some (id,ob)=>h.put id ob λh=>j ls pd τ h
   |none=>C.fail)
  (λ_ g mask=>ym C D A g τ h λx h=>eh τ g.dst x λτ=>yo C τ h mask ls (j ls pd τ h)) d
def AT (D j:Nat ->List AV ->AH ->(AV ->AH ->R) ->R) (base:Nat) (k:T AV ->AH ->R) (l:List DI):List (Nat×MG) ->List (Nat×Nat×bC) ->T AV ->AH ->R:=
 List.rec (motive:=λ_=>List (Nat×MG) ->List (Nat×Nat×bC) ->T AV ->AH ->R) (λ_ _=>k) (λd _ A=>O4 C D j base d A) l
def O5 A j base k:∀l ls pd τ h,
 AT C A j base k l ls pd τ h=bW C A j base k l ls pd τ h
 |[],_,_,_,_=>rfl
 |d::l,ls,pd,τ,h=>by
  have D:AT C A j base k l=bW C A j base k l:=by funext ls pd τ h;exact O5 A j base k l ls pd τ h
  show O4 C A j base d (AT C A j base k l) ls pd τ h=_;rw[D];cases d with
  |light i g=>
   show(Option.rec (motive:=λ_=>R) C.fail (λx=>eh τ g.dst x λτ=>bW C A j base k l ((i,g)::ls) pd τ h) (yn C τ h g))=_;rw[O2];show _=(match y6 C τ h g with
    |some x=>eh τ g.dst x λτ=>bW C A j base k l ((i,g)::ls) pd τ h
    |none=>C.fail)
   cases y6 C τ h g<;>rfl
  |resv i n g=>
   show(fN (base+n) λid=>match AR g.op (az C τ) ⟨id,h.ver,.e⟩ with
    | .v x h'=>match h'.oB.get id with
     |some ob=>eh τ g.dst x λτ=>bW C A j base k l ls ((i,id,ob)::pd) τ h
     |none=>C.fail
    |_=>C.fail)=_
   simp only[aw2];rfl
  |lay i=>rfl
  |heavy i g mask=>
   show ym C A j g τ h (λx h=>eh τ g.dst x λτ=>yo C τ h mask ls (bW C A j base k l ls pd τ h))=_;rw[O0];simp only[Sq];rfl
end
section
variable {R:Type}
abbrev jN (R:Type):=aw ->K R ->T AV ->AH ->R
def ar8 (_:aK R) (_:jN R) (k:K R) (τ:T AV) (h:AH):R:=k .normal τ h
def ar9 (l:List MG) (C:aK R) (j:jN R) (k:K R) (τ:T AV) (h:AH):R:=Ho C (iS C j) (iD C j) (λτ h=>k .normal τ h) l τ h
def as0 (n:Nat) (l:List DI) (C:aK R) (j:jN R) (k:K R) (τ:T AV) (h:AH):R:=fN (h.next+n) λnx=>AT C (iS C j) (iD C j) h.next (λτ h=>k .normal τ h) l [] [] τ ⟨nx,h.ver,h.oB⟩
def as3 (l:List MG) (x:MA) (fn:Nat) (C:aK R) (j:jN R) (k:K R) (τ:T AV) (h:AH):R:=AY C (iS C j) (iD C j) (λτ h=>match az C τ x with
 | .f g _ _=>bif Nat.beq g fn then k .normal τ h else C.fail
 |_=>C.fail) l τ h
def as4 (a b:aw) (_ _:aK R ->jN R ->K R ->T AV ->AH ->R) (_:aK R) (j:jN R) (k:K R) (τ:T AV) (h:AH):R:=j a (λe τ h=>match e with| .normal=>j b k τ h|e=>k e τ h) τ h
def as5 (c:MA) (a b:aw) (_ _:aK R ->jN R ->K R ->T AV ->AH ->R) (C:aK R) (j:jN R) (k:K R) (τ:T AV) (h:AH):R:=match az C τ c with
 | .b x=>Bool.rec (motive:=λ_=>R) (j b k τ h) (j a k τ h) x
 |_=>C.fail
def as6 (id:Nat) (c:aw) (_:aK R ->jN R ->K R ->T AV ->AH ->R) (_:aK R) (j:jN R) (k:K R) (τ:T AV) (h:AH):R:=j c (λe τ h=>match e with| .exit i=>bif Nat.beq i id then k .normal τ h else k (.exit i) τ h|e=>k e τ h) τ h
def as7 (c:aw) (_:aK R ->jN R ->K R ->T AV ->AH ->R) (_:aK R) (j:jN R) (k:K R) (τ:T AV) (h:AH):R:=j c (λe τ h=>match e with| .normal=>j (.loop c) k τ h|e=>k e τ h) τ h
def as8 (f:MA) (ps:List Nat) (assign body:aw) (_ _:aK R ->jN R ->K R ->T AV ->AH ->R) (C:aK R) (j:jN R) (k:K R) (τ:T AV) (h:AH):R:=h.new (.loop ps assign body τ 0 none) λl h=>
 let fin:AV ->AH ->R:=λ_ h=>match h.get l with
  |some (.loop _ _ _ _ 0 none)=>h.put l .gone λh=>k .normal τ h
  |some (.loop _ _ _ _ 2 (some (some i)))=>h.put l .gone λh=>k (.exit i) τ h
  |some (.loop _ _ _ _ 2 (some none))=>h.put l .gone λh=>k .ret τ h
  |_=>C.fail
 match az C τ f with
 | .f g fi ca=>match fy fi (.y l::ca) with
  |some l=>DR C j g l h fin
  |none=>C.fail
 |_=>C.fail
def as9 (id:Nat) (_:aK R) (_:jN R) (k:K R) (τ:T AV) (h:AH):R:=k (.exit id) τ h
def at0 (_:aK R) (_:jN R) (k:K R) (τ:T AV) (h:AH):R:=k .ret τ h
def at1 (_:Nat) (C:aK R) (_:jN R) (_:K R) (_:T AV) (_:AH):R:=C.fail
def O6 (c:aw):aK R ->jN R ->K R ->T AV ->AH ->R:=aw.rec (motive:=λ_=>aK R ->jN R ->K R ->T AV ->AH ->R) ar8 ar9 as0 as3 as4 as5 as6 as7 as8 as9 at0 at1 c
variable (C:aK R)
def Hp (n:Nat):jN R:=Nat.rec (motive:=λ_=>jN R) (λ_ _ _ _=>C.fail) (λ_ j c=>O6 c C j) n
theorem O7:∀n,Hp C n=run C n
 |0=>rfl
 |n+1=>by
  funext c k τ h;show O6 c C (Hp C n) k τ h=_;rw[O7 n];cases c with
  |ops l=>exact Sn C _ _ _ l τ h
  |draw z l=>
   show(fN (h.next+z) λnx=>AT C (iS C (run C n)) (iD C (run C n)) h.next (λτ h=>k .normal τ h) l [] [] τ ⟨nx,h.ver,h.oB⟩)=_;simp only[O5];rfl
  |_=>rfl
end
def aW (GL:T (List AV)) (A:T au) (j:Nat ->List AV ->AH ->Option (AV×AH)) (D:T (List aP)) (n f:Nat) (e:aP) (p:List Bool):Bool:=
 DR (AQ GL A j D) (Hp (AQ GL A j D) n) f e.a h0 (λx h _=>jM 20 h x e.d) p&&(qh 30 e.d&&wI 30 e.a)
def O8 {A j D n f e}:aW GL A j D n f e=Hm GL A j D n f e:=by
 grind[O7,aW,Hm]
end
end AM
