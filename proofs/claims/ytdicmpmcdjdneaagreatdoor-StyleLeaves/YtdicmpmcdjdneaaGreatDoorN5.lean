import Derived.Test.YtdicmpmcdjdneaaGreatDoorN4
set_option linter.all false
namespace AM
open Go
noncomputable section
structure SC {α:Type} (F:(α ->Prop) ->Prop):Prop where
 mono:∀{k k':α ->Prop},(∀a,k a ->k' a) ->F k ->F k'
 fin:∀(k:α ->Prop),F k ->∃l:List α,(∀a∈l,k a)/\ F (λa=>a∈l)
def Aq {α:Type} {K:Nat ->α ->Prop} (j:∀m a,K m a ->K (m+1) a) {m n} (h:m<=n) {a} (A:K m a):K n a:=by
 induction h with
 |refl=>exact A
 |step _ B=>exact j _ _ B
namespace SC
variable {α β:Type}
def cont {F} (j:SC F) (K:Nat ->α ->Prop) (A:∀m a,K m a ->K (m+1) a) (h:F (λa=>∃m,K m a)):∃m,F (K m):=by
 obtain⟨l,h1,h2⟩:=j.fin _ h;have:∃m,∀a∈l,K m a:=by
  clear h2;induction l with
  |nil=>exact⟨0,λ_ h=>by cases h⟩
  |cons a l D=>
   obtain⟨m,hm⟩:=D λb hb=>h1 b (jw _ hb);obtain⟨n,B⟩:=h1 a (jG ..);refine⟨max m n,λb hb=> ?_⟩;rcases ey.1 hb with rfl|hb;exact Aq A (Ck ..) B;exact Aq A (Cj ..) (hm b hb)
 obtain⟨m,hm⟩:=this;exact⟨m,j.mono hm h2⟩
def const p:SC (λ_:α ->Prop=>p):=⟨λ_ h=>h,λ_ h=>⟨[],λ_ h=>(List.not_mem_nil h).elim,h⟩⟩
def at_ a:SC (λk:α ->Prop=>k a):=⟨λh=>h a,λ_ h=>⟨[a],λb hb=>by cases yC.1 hb;exact h,yC.2 rfl⟩⟩
def all (l:List α):SC (λk:α ->Prop=>∀a∈l,k a):=⟨λh h1 a j=>h a (h1 a j),λ_ h=>⟨l,h,λ_ j=>j⟩⟩
def and {F G:(α ->Prop) ->Prop} (j:SC F) (A:SC G):SC (λk=>F k/\ G k):=
 ⟨λh ⟨a,b⟩=>⟨j.mono h a,A.mono h b⟩,λk ⟨a,b⟩=>by
  obtain⟨H,h1,h2⟩:=j.fin k a;obtain⟨I,B,D⟩:=A.fin k b;exact⟨H++I,λa E=>(fO.1 E).elim (h1 a) (B a),j.mono (λ_ h=>xI _ h) h2,A.mono (λ_ h=>FI _ h) D⟩⟩
def or {F G:(α ->Prop) ->Prop} (j:SC F) (A:SC G):SC (λk=>F k∨G k):=
 ⟨λh=>Or.imp (j.mono h) (A.mono h),λk h=>by
  rcases h with h|h;obtain⟨l,h1,h2⟩:=j.fin k h;exact⟨l,h1,.inl h2⟩;obtain⟨l,h1,h2⟩:=A.fin k h;exact⟨l,h1,.inr h2⟩⟩
def ex {ι:Type} {F:ι ->(α ->Prop) ->Prop} (j:∀i,SC (F i)):SC (λk=>∃i,F i k):=
 ⟨λh ⟨i,a⟩=>⟨i,(j i).mono h a⟩,λk ⟨i,a⟩=>let ⟨l,h1,h2⟩:=(j i).fin k a;⟨l,h1,i,h2⟩⟩
def comp {F} {G:α ->(β ->Prop) ->Prop} (A:SC F) (j:∀a,SC (G a)):SC (λk=>F (λa=>G a k)):=
 ⟨λh=>A.mono λa=>(j a).mono h,λk h=>by
  obtain⟨l,h1,h2⟩:=A.fin _ h;have:∃L:List β,(∀b∈L,k b)/\∀a∈l,G a (λb=>b∈L):=by
   clear h2;induction l with
   |nil=>exact⟨[],λ_ h=>(List.not_mem_nil h).elim,λ_ h=>(List.not_mem_nil h).elim⟩
   |cons a l B=>
    obtain⟨L,g1,g2⟩:=B λb hb=>h1 b (jw _ hb);obtain⟨M,D,m2⟩:=(j a).fin k (h1 a (jG ..));refine⟨M++L,λb hb=>(fO.1 hb).elim (D b) (g1 b),λb hb=> ?_⟩;rcases ey.1 hb with rfl|hb;exact(j _).mono (λ_ h=>xI _ h) m2;exact(j b).mono (λ_ h=>FI _ h) (g2 b hb)
  obtain⟨L,g1,g2⟩:=this;exact⟨L,g1,A.mono g2 h2⟩⟩
end SC
abbrev jL (F:(AV ->AH ->Prop) ->Prop):Prop:=SC (α:=AV×AH) (λk=>F (λv h=>k (v,h)))
structure lQ (C:aK Prop):Prop extends CfgOK C where
 spec:∀f args h (F:(AV×AH ->Prop) ->Prop),SC F ->SC (α:=AV×AH) (λk=>C.spec f args h (λv h=>k (v,h)) (F k))
 fb:∀f args h k (p q:Prop),(p ->q) ->C.spec f args h k p ->C.spec f args h k q
 fbc:∀f args h k (p:Nat ->Prop),C.spec f args h k (∃n,p n) ->∃n,C.spec f args h k (p n)
section
variable {C:aK Prop} (hC:lQ C)
include hC
theorem GV {α} {f:AV ->AH ->(α ->Prop) ->Prop} (j:∀v h,SC (f v h)):∀l:List (AV×AH),SC (λk=>gQ C (λv h=>f v h k) l)
 |[]=>SC.const _
 |[e]=>j e.1 e.2
 |e::b::r=>by
  have e1:(λk=>gQ C (λv h=>f v h k) (e::b::r))=λk=>f e.1 e.2 k/\ gQ C (λv h=>f v h k) (b::r):=by
   funext k;show C.both (f e.1 e.2 k) (gQ C (λv h=>f v h k) (b::r))=_;rw[hC.both]
  rw[e1];exact SC.and (j _ _) (GV j (b::r))
theorem Et {α nL bA} (hc:∀f a h,jL (nL f a h)) (hy:∀f a h,jL (bA f a h)) g τ h
 {f:AV ->AH ->(α ->Prop) ->Prop} (j:∀v h,SC (f v h)):SC (λk=>eY C nL bA g τ h (λv h=>f v h k)):=by
 have A:SC (λk=>(match step (az C τ) h g.op with
  | .v x h=>f x h k
  | .call q args h=>nL q args h (λv h=>f v h k)
  | .yld l args h=>bA l args h (λv h=>f v h k)
  | .alts l=>gQ C (λv h=>f v h k) l
  | .bad=>C.fail:Prop)):=by
  cases step (az C τ) h g.op with
  |v x h=>exact j x h
  |call q args h=>exact SC.comp (hc q args h) (λa=>j a.1 a.2)
  |yld l args h=>exact SC.comp (hy l args h) (λa=>j a.1 a.2)
  |alts l=>exact GV hC j l
  |bad=>exact SC.const _
 unfold eY;dsimp only;rcases g.guard with _|q;exact A;obtain⟨t,w⟩:=q;dsimp only;split;rename_i x B;cases (bif x then w else !w) with
 |true=>exact A
 |false=>exact j _ _
 exact j _ _;exact SC.const _
theorem GW {nL bA} (hc:∀f a h,jL (nL f a h)) (hy:∀f a h,jL (bA f a h)) {α} {f:T AV ->AH ->(α ->Prop) ->Prop} (j:∀τ h,SC (f τ h)):
 ∀l τ h,SC (λk=>AY C nL bA (λτ h=>f τ h k) l τ h)
 |[],τ,h=>j τ h
 |g::l,τ,h=>by
  have e:(λk=>AY C nL bA (λτ h=>f τ h k) (g::l) τ h)=λk=>eY C nL bA g τ h (λx h=>AY C nL bA (λτ h=>f τ h k) l (cj τ g.dst x) h):=by
   funext k;show eY C nL bA g τ h (λx h=>eh τ g.dst x λτ=>AY C nL bA (λτ h=>f τ h k) l τ h)=_;simp only[iI]
  rw[e];exact Et hC hc hy g τ h (λv h=>GW hc hy j l _ h)
theorem De {α τ h mask} {F:(α ->Prop) ->Prop} (A:SC F):∀ls:List (Nat×MG),SC (λk=>eA C τ h mask ls (F k))
 |[]=>A
 |p::ls=>by
  have j:=De (τ:=τ) (h:=h) (mask:=mask) A ls;have e:(λk=>eA C τ h mask (p::ls) (F k))=λk=>(bif Nat.testBit mask p.1 then eA C τ h mask ls (F k) else match y6 C τ h p.2 with
   |some x=>match p.2.dst with
    |none=>eA C τ h mask ls (F k)
    |some d=>match τ.get d with
     |some y=>bif cZ 64 x y then eA C τ h mask ls (F k) else C.fail
     |none=>C.fail
   |none=>C.fail):=rfl
  rw[e];cases Nat.testBit mask p.1 with
  |true=>exact j
  |false=>
   simp only[eU];rcases y6 C τ h p.2 with _|x;exact SC.const _;rcases p.2.dst with _|d;exact j;dsimp only;rcases τ.get d with _|y;exact SC.const _;dsimp only;cases cZ 64 x y with
   |true=>exact j
   |false=>exact SC.const _
theorem Ar {nL bA} (hc:∀f a h,jL (nL f a h)) (hy:∀f a h,jL (bA f a h)) {base α} {f:T AV ->AH ->(α ->Prop) ->Prop} (j:∀τ h,SC (f τ h)):
 ∀l ls pd τ h,SC (λk=>bW C nL bA base (λτ h=>f τ h k) l ls pd τ h)
 |[],_,_,τ,h=>j τ h
 |d::l,ls,pd,τ,h=>by
  cases d with
  |light i g=>
   have e:(λk=>bW C nL bA base (λτ h=>f τ h k) (.light i g::l) ls pd τ h)=λk=>(match y6 C τ h g with
    |some x=>bW C nL bA base (λτ h=>f τ h k) l ((i,g)::ls) pd (cj τ g.dst x) h
    |none=>C.fail):=by
    funext k;show(match y6 C τ h g with
    |some x=>eh τ g.dst x λτ=>bW C nL bA base (λτ h=>f τ h k) l ((i,g)::ls) pd τ h
    |none=>C.fail)=_
    simp only[iI]
   rw[e];rcases y6 C τ h g with _|x;exact SC.const _;exact Ar hc hy j l _ _ _ _
  |resv i n g=>
   have e:(λk=>bW C nL bA base (λτ h=>f τ h k) (.resv i n g::l) ls pd τ h)=λk=>(match step (az C τ) ⟨base+n,h.ver,.e⟩ g.op with
    | .v x h'=>match h'.oB.get (base+n) with
     |some ob=>bW C nL bA base (λτ h=>f τ h k) l ls ((i,base+n,ob)::pd) (cj τ g.dst x) h
     |none=>C.fail
    |_=>C.fail):=by
    funext k;show(fN (base+n) λid=>match step (az C τ) ⟨id,h.ver,.e⟩ g.op with
     | .v x h'=>match h'.oB.get id with
      |some ob=>eh τ g.dst x λτ=>bW C nL bA base (λτ h=>f τ h k) l ls ((i,id,ob)::pd) τ h
      |none=>C.fail
     |_=>C.fail)=_
    simp only[dT,iI]
   rw[e];cases step (az C τ) ⟨base+n,h.ver,.e⟩ g.op with
   |v x h'=>
    dsimp only;rcases h'.oB.get (base+n) with _|ob;exact SC.const _;exact Ar hc hy j l _ _ _ _
   |_=>exact SC.const _
  |lay i=>
   have e:(λk=>bW C nL bA base (λτ h=>f τ h k) (.lay i::l) ls pd τ h)=λk=>(match iC i pd with
    |some (id,ob)=>bW C nL bA base (λτ h=>f τ h k) l ls pd τ ⟨h.next,Nat.succ h.ver,h.oB.put id ob⟩
    |none=>C.fail):=by
    funext k;show(match iC i pd with
    |some (id,ob)=>h.put id ob λh=>bW C nL bA base (λτ h=>f τ h k) l ls pd τ h
    |none=>C.fail)=_
    simp only[AH.put_eq]
   rw[e];rcases iC i pd with _|q;exact SC.const _;exact Ar hc hy j l _ _ _ _
  |heavy i g mask=>
   have e:(λk=>bW C nL bA base (λτ h=>f τ h k) (.heavy i g mask::l) ls pd τ h)=
    λk=>eY C nL bA g τ h (λx h=>eA C (cj τ g.dst x) h mask ls (bW C nL bA base (λτ h=>f τ h k) l ls pd (cj τ g.dst x) h)):=by
    funext k;show eY C nL bA g τ h (λx h=>eh τ g.dst x λτ=>eA C τ h mask ls (bW C nL bA base (λτ h=>f τ h k) l ls pd τ h))=_;simp only[iI]
   rw[e];exact Et hC hc hy g τ h (λv h=>De hC (Ar hc hy j l _ _ _ _) _)
variable {n:Nat}
theorem Nd (IH:∀c τ h {α} {f:pS ->T AV ->AH ->(α ->Prop) ->Prop},(∀e τ h,SC (f e τ h)) ->SC (λk=>run C n c (λe τ h=>f e τ h k) τ h))
 (g) (args) (h):jL (DR C (run C n) g args h):=by
 unfold DR;rcases C.ae.get g with _|fn;exact SC.const _;dsimp only;simp only[xZ];refine IH fn.body _ h (f:=λe τ h k=>match e with
  | .exit _=>C.fail
  |_=>match eZ τ h fn.res with|some v=>k (v,h)|none=>C.fail) λe τ h=> ?_
 cases e with
 |exit i=>exact SC.const _
 |_=>
  dsimp only;rcases eZ τ h fn.res with _|v;exact SC.const _;exact SC.at_ _
theorem As (IH:∀c τ h {α} {f:pS ->T AV ->AH ->(α ->Prop) ->Prop},(∀e τ h,SC (f e τ h)) ->SC (λk=>run C n c (λe τ h=>f e τ h k) τ h))
 (g) (args) (h):jL (iS C (run C n) g args h):=
 hC.spec g args h _ (Nd hC IH g args h)
theorem Nf {α} {f:T AV ->(α ->Prop) ->Prop} (j:∀τ,SC (f τ)):∀l a τ,SC (λk=>nG C l a τ (λτ=>f τ k))
 |[],[],τ=>j τ
 |[],_::_,_=>SC.const _
 |_::_,[],_=>SC.const _
 |p::l,x::a,τ=>by
  have e:(λk=>nG C (p::l) (x::a) τ (λτ=>f τ k))=λk=>nG C l a (τ.put p x) (λτ=>f τ k):=by
   funext k;show τ.setK p x (λτ=>nG C l a τ (λτ=>f τ k))=_;rw[T.setK_put]
  rw[e];exact Nf j l a _
theorem ab4 {α} {f:AH ->(α ->Prop) ->Prop} (j:∀h,SC (f h)) h l:SC (λk=>pV C h l (λh=>f h k)):=by
 unfold pV;split;simp only[AH.put_eq];exact j _;exact SC.const _
theorem av9 {α} {f:AH ->(α ->Prop) ->Prop} (j:∀h,SC (f h)) h l st p:SC (λk=>DS C h l st p (λh=>f h k)):=by
 unfold DS;split;simp only[AH.put_eq];exact j _;exact SC.const _
theorem At (IH:∀c τ h {α} {f:pS ->T AV ->AH ->(α ->Prop) ->Prop},(∀e τ h,SC (f e τ h)) ->SC (λk=>run C n c (λe τ h=>f e τ h k) τ h))
 (l) (args) (h):jL (iD C (run C n) l args h):=by
 unfold iD;split;rename_i ps j body A _ _ _;refine Nf hC (f:=λτ k=>_) (λτ=> ?_) ps args A;refine IH j τ h (f:=λe τ h k=>match e with
  | .normal=>pV C h l λh=>run C n body (λe _ h=>match e with
   | .normal=>DS C h l 0 none λh=>k (AV.b true,h)
   | .exit i=>DS C h l 2 (some (some i)) λh=>k (AV.b false,h)
   | .ret=>DS C h l 2 (some none) λh=>k (AV.b false,h)) τ h
  |_=>C.fail) λe τ h=> ?_
 cases e with
 |normal=>
  dsimp only;refine ab4 hC (f:=λh k=>run C n body (λe _ h=>match e with
   | .normal=>DS C h l 0 none λh=>k (AV.b true,h)
   | .exit i=>DS C h l 2 (some (some i)) λh=>k (AV.b false,h)
   | .ret=>DS C h l 2 (some none) λh=>k (AV.b false,h)) τ h) (λh=> ?_) h l
  refine IH body τ h (f:=λe _ h k=>match e with
   | .normal=>DS C h l 0 none λh=>k (AV.b true,h)
   | .exit i=>DS C h l 2 (some (some i)) λh=>k (AV.b false,h)
   | .ret=>DS C h l 2 (some none) λh=>k (AV.b false,h)) λe τ h=> ?_
  cases e with
  |normal=>exact av9 hC (f:=λh k=>k (AV.b true,h)) (λh=>SC.at_ _) h l 0 none
  |exit i=>exact av9 hC (f:=λh k=>k (AV.b false,h)) (λh=>SC.at_ _) h l 2 _
  |ret=>exact av9 hC (f:=λh k=>k (AV.b false,h)) (λh=>SC.at_ _) h l 2 _
 |_=>exact SC.const _
 exact SC.const _
theorem ya:∀n c τ h {α} {f:pS ->T AV ->AH ->(α ->Prop) ->Prop},(∀e τ h,SC (f e τ h)) ->SC (λk=>run C n c (λe τ h=>f e τ h k) τ h):=by
 intro n;induction n with
 |zero=>intro c τ h α f A;exact SC.const _
 |succ n IH=>
  intro c τ h α f A;simp only[gn];cases c with
  |skip=>exact A _ _ _
  |ops l=>exact GW hC (As hC @IH) (At hC @IH) (f:=λτ h k=>f .normal τ h k) (λτ h=>A _ _ _) l τ h
  |draw z l=>
   dsimp only;simp only[dT];exact Ar hC (As hC @IH) (At hC @IH) (f:=λτ h k=>f .normal τ h k) (λτ h=>A _ _ _) l _ _ τ _
  |dfr l x fn=>
   refine GW hC (As hC @IH) (At hC @IH) (f:=λτ h k=>match az C τ x with
    | .f g _ _=>bif Nat.beq g fn then f .normal τ h k else C.fail
    |_=>C.fail) (λτ h=> ?_) l τ h
   cases az C τ x with
   |f g _ _=>
    dsimp only;cases Nat.beq g fn with
    |true=>exact A _ _ _
    |false=>exact SC.const _
   |_=>exact SC.const _
  |seq a b=>
   refine IH a τ h (f:=λe τ h k=>match e with| .normal=>run C n b (λe τ h=>f e τ h k) τ h|e=>f e τ h k) λe τ h=> ?_;cases e with
   |normal=>exact IH b τ h A
   |_=>exact A _ _ _
  |cond x a b=>
   dsimp only;cases az C τ x with
   |b t=>cases t with
    |true=>exact IH a τ h A
    |false=>exact IH b τ h A
   |_=>exact SC.const _
  |block i a=>
   refine IH a τ h (f:=λe τ h k=>match e with| .exit j=>bif Nat.beq j i then f .normal τ h k else f (.exit j) τ h k|e=>f e τ h k) λe τ h=> ?_;cases e with
   |exit j=>dsimp only;cases Nat.beq j i<;>exact A _ _ _
   |_=>exact A _ _ _
  |loop a=>
   refine IH a τ h (f:=λe τ h k=>match e with| .normal=>run C n (.loop a) (λe τ h=>f e τ h k) τ h|e=>f e τ h k) λe τ h=> ?_;cases e with
   |normal=>exact IH (.loop a) τ h A
   |_=>exact A _ _ _
  |rfun q ps B body=>
   dsimp only;simp only[AH.new_eq];cases az C τ q with
   |f g D ca=>
    dsimp only;rcases fy D (.y h.next::ca) with _|l;exact SC.const _;dsimp only;refine SC.comp (F:=λk=>DR C (run C n) g l ⟨Nat.succ h.next,h.ver,h.oB.put h.next (.loop ps B body τ 0 none)⟩ (λv h=>k (v,h))) (Nd hC @IH g l _) (G:=λa k=>match a.2.get h.next with
     |some (.loop _ _ _ _ 0 none)=>a.2.put h.next .gone λh=>f .normal τ h k
     |some (.loop _ _ _ _ 2 (some (some i)))=>a.2.put h.next .gone λh=>f (.exit i) τ h k
     |some (.loop _ _ _ _ 2 (some none))=>a.2.put h.next .gone λh=>f .ret τ h k
     |_=>C.fail) (λa=> ?_)
    split<;>first|(simp only[AH.put_eq];exact A _ _ _)|exact SC.const _
   |_=>exact SC.const _
  |exit i=>exact A _ _ _
  |ret=>exact A _ _ _
  |bad w=>exact SC.const _
section ops
variable {nL bA callK' yldK':Nat ->List AV ->AH ->(AV ->AH ->Prop) ->Prop} (hc:∀f a h,jL (nL f a h)) (hy:∀f a h,jL (bA f a h))
 (cc:∀f a h k,nL f a h k ->callK' f a h k) (yy:∀f a h k,bA f a h k ->yldK' f a h k)
include cc yy
theorem Ng g τ h k (j:eY C nL bA g τ h k):eY C callK' yldK' g τ h k:=by
 have A:(match step (az C τ) h g.op with
  | .v x h=>k x h
  | .call q args h=>nL q args h k
  | .yld l args h=>bA l args h k
  | .alts l=>gQ C k l
  | .bad=>C.fail:Prop) ->(match step (az C τ) h g.op with
  | .v x h=>k x h
  | .call q args h=>callK' q args h k
  | .yld l args h=>yldK' l args h k
  | .alts l=>gQ C k l
  | .bad=>C.fail:Prop):=by
  grind
 unfold eY at j ⊢;dsimp only at j ⊢;rcases B:g.guard with _|q;rw[B] at j;exact A j;rw[B] at j;obtain⟨t,w⟩:=q;dsimp only at j ⊢;rcases D:τ.get t with _|y;rw[D] at j;exact j;rw[D] at j;cases y with
 |b x=>
  dsimp only at j ⊢;cases hb:(bif x then w else !w) with
  |true=>rw[hb] at j;exact A j
  |false=>rw[hb] at j;exact j
 |tu l=>cases l<;>exact j
 |_=>exact j
include hc hy
theorem yc k:∀l τ h,AY C nL bA k l τ h ->AY C callK' yldK' k l τ h
 |[],_,_,hr=>hr
 |g::l,τ,h,hr=>by
  have h1:eY C nL bA g τ h (λx h=>eh τ g.dst x λτ=>AY C nL bA k l τ h):=hr;refine Ng (C:=C) hC cc yy g τ h _ ((Et hC hc hy g τ h (α:=AV×AH) (f:=λv h k=>k (v,h)) (λ_ _=>SC.at_ _)).mono (k:=λa=>eh τ g.dst a.1 λτ=>AY C nL bA k l τ a.2) (k':=λa=>eh τ g.dst a.1 λτ=>AY C callK' yldK' k l τ a.2) (λa j=> ?_) h1);rw[iI] at j ⊢;exact yc k l _ _ j
theorem uL {base} k:∀l ls pd τ h,
 bW C nL bA base k l ls pd τ h ->bW C callK' yldK' base k l ls pd τ h
 |[],_,_,_,_,hr=>hr
 |d::l,ls,pd,τ,h,hr=>by
  cases d with
  |light i g=>
   have h1:(match y6 C τ h g with
    |some x=>eh τ g.dst x λτ=>bW C nL bA base k l ((i,g)::ls) pd τ h
    |none=>C.fail):=hr
   show(match y6 C τ h g with
    |some x=>eh τ g.dst x λτ=>bW C callK' yldK' base k l ((i,g)::ls) pd τ h
    |none=>C.fail)
   rcases B:y6 C τ h g with _|x;rw[B] at h1;exact h1;rw[B] at h1;dsimp only at h1 ⊢;rw[iI] at h1 ⊢;exact uL k l _ _ _ _ h1
  |resv i n g=>
   have h1:(fN (base+n) λid=>match step (az C τ) ⟨id,h.ver,.e⟩ g.op with
    | .v x h'=>match h'.oB.get id with
     |some ob=>eh τ g.dst x λτ=>bW C nL bA base k l ls ((i,id,ob)::pd) τ h
     |none=>C.fail
    |_=>C.fail):=hr
   show(fN (base+n) λid=>match step (az C τ) ⟨id,h.ver,.e⟩ g.op with
    | .v x h'=>match h'.oB.get id with
     |some ob=>eh τ g.dst x λτ=>bW C callK' yldK' base k l ls ((i,id,ob)::pd) τ h
     |none=>C.fail
    |_=>C.fail)
   rw[dT] at h1 ⊢;cases E:step (az C τ) ⟨base+n,h.ver,.e⟩ g.op with
   |v x h'=>
    rw[E] at h1;dsimp only at h1 ⊢;rcases D:h'.oB.get (base+n) with _|ob;rw[D] at h1;exact h1;rw[D] at h1;dsimp only at h1 ⊢;rw[iI] at h1 ⊢;exact uL k l _ _ _ _ h1
   |_=>rw[E] at h1;exact h1
  |lay i=>
   have h1:(match iC i pd with
    |some (id,ob)=>h.put id ob λh=>bW C nL bA base k l ls pd τ h
    |none=>C.fail):=hr
   show(match iC i pd with
    |some (id,ob)=>h.put id ob λh=>bW C callK' yldK' base k l ls pd τ h
    |none=>C.fail)
   rcases A:iC i pd with _|q;rw[A] at h1;exact h1;rw[A] at h1;dsimp only at h1 ⊢;rw[AH.put_eq] at h1 ⊢;exact uL k l _ _ _ _ h1
  |heavy i g mask=>
   have h1:eY C nL bA g τ h λx h=>eh τ g.dst x λτ=>eA C τ h mask ls (bW C nL bA base k l ls pd τ h):=hr;refine Ng (C:=C) hC cc yy g τ h _ ((Et hC hc hy g τ h (α:=AV×AH) (f:=λv h k=>k (v,h)) (λ_ _=>SC.at_ _)).mono (k:=λa=>eh τ g.dst a.1 λτ=>eA C τ a.2 mask ls (bW C nL bA base k l ls pd τ a.2))
    (k':=λa=>eh τ g.dst a.1 λτ=>eA C τ a.2 mask ls (bW C callK' yldK' base k l ls pd τ a.2)) (λa j=> ?_) h1)
   rw[iI] at j ⊢;exact(De hC (τ:=cj τ g.dst a.1) (h:=a.2) (mask:=mask) (α:=Unit) (F:=λk=>k ()) (SC.at_ _) ls).mono (k:=λ_=>_) (k':=λ_=>_) (λ_ hh=>uL k l _ _ _ _ hh) j
end ops
theorem PB {c τ h k k'} (hk:∀e τ h,k e τ h ->k' e τ h) (j:run C n c k τ h):run C n c k' τ h:=
 (ya hC n c τ h (α:=pS×T AV×AH) (f:=λe τ h k=>k (e,τ,h)) (λ_ _ _=>SC.at_ _)).mono (k:=λa=>k a.1 a.2.1 a.2.2) (k':=λa=>k' a.1 a.2.1 a.2.2) (λa=>hk _ _ _) j
theorem Nh (IH:∀c k τ h,run C n c k τ h ->run C (n+1) c k τ h) g args h k (j:DR C (run C n) g args h k):DR C (run C (n+1)) g args h k:=by
 unfold DR at j ⊢;rcases A:C.ae.get g with _|fn;rw[A] at j;exact j;rw[A] at j;dsimp only at j ⊢;rw[xZ] at j ⊢;exact IH _ _ _ _ j
theorem Ni (IH:∀c k τ h,run C n c k τ h ->run C (n+1) c k τ h) g args h k (j:iS C (run C n) g args h k):iS C (run C (n+1)) g args h k:=
 hC.fb _ _ _ _ _ _ (Nh hC IH g args h k) j
theorem Nj {k k'} (hk:∀τ,k τ ->k' τ):∀l a τ,nG C l a τ k ->nG C l a τ k'
 |[],[],τ,h=>hk τ h
 |[],_::_,_,h=>h
 |_::_,[],_,h=>h
 |p::l,x::a,τ,h=>by
  have h1:τ.setK p x (λτ=>nG C l a τ k):=h;show τ.setK p x (λτ=>nG C l a τ k');rw[T.setK_put] at h1 ⊢;exact Nj hk l a _ h1
theorem ab5 {k k'} (hk:∀h,k h ->k' h) h l (j:pV C h l k):pV C h l k':=by
 unfold pV at j ⊢;split;rename_i A;rw[A] at j;simp only[AH.put_eq] at j ⊢;exact hk _ j
 grind
theorem Nk (IH:∀c k τ h,run C n c k τ h ->run C (n+1) c k τ h) l args h k (j:iD C (run C n) l args h k):iD C (run C (n+1)) l args h k:=by
 unfold iD at j ⊢;split at j;rename_i ps B body D _ _ E;refine Nj hC (λτ hh=>IH _ _ _ _ (PB hC (λe τ h A=> ?_) hh)) _ _ _ j;cases e with
 |normal=>exact ab5 hC (λh hh=>IH _ _ _ _ hh) _ _ A
 |_=>exact A
 omega
theorem Au n:∀c k τ h,run C n c k τ h ->run C (n+1) c k τ h:=by
 induction n with
 |zero=>intro c k τ h j;have:C.fail:=j;rw[hC.fail] at this;exact this.elim
 |succ n IH=>
  intro c k τ h j;rw[gn] at j ⊢;have c1:∀f a h,jL (iS C (run C n) f a h):=As hC (λc τ h {α f} hf=>ya hC n c τ h hf);have y1:∀f a h,jL (iD C (run C n) f a h):=At hC (λc τ h {α f} hf=>ya hC n c τ h hf);have cc:=Ni hC IH;have yy:=Nk hC IH;cases c with
  |skip=>exact j
  |ops l=>exact yc hC c1 y1 cc yy _ l τ h j
  |draw z l=>dsimp only at j ⊢;rw[dT] at j ⊢;exact uL hC c1 y1 cc yy _ l _ _ _ _ j
  |dfr l x fn=>exact yc hC c1 y1 cc yy _ l τ h j
  |seq a b=>exact IH _ _ _ _ (PB hC (λe τ h A=>by cases e<;>first|exact IH _ _ _ _ A|exact A) j)
  |cond x a b=>
   dsimp only at j ⊢;cases B:az C τ x with
   |b t=>rw[B] at j;cases t<;>exact IH _ _ _ _ j
   |_=>rw[B] at j;exact j
  |block i a=>exact IH _ _ _ _ j
  |loop a=>exact IH _ _ _ _ (PB hC (λe τ h A=>by cases e<;>first|exact IH _ _ _ _ A|exact A) j)
  |rfun q ps E body=>
   dsimp only at j ⊢;rw[AH.new_eq] at j ⊢;cases B:az C τ q with
   |f g G ca=>
    rw[B] at j;dsimp only at j ⊢;rcases D:fy G (.y h.next::ca) with _|l;rw[D] at j;exact j;rw[D] at j;exact Nh hC IH _ _ _ _ j
   |_=>rw[B] at j;exact j
  |exit i=>exact j
  |ret=>exact j
  |bad w=>exact j
theorem ab6 {m} (j:n<=m) {c k τ h} (A:run C n c k τ h):run C m c k τ h:=by
 induction j with
 |refl=>exact A
 |step _ B=>exact Au hC _ _ _ _ _ B
end
section
variable {C:aK Prop} (hC:lQ C)
include hC
section fam
variable {cK yK:Nat ->Nat ->List AV ->AH ->(AV ->AH ->Prop) ->Prop} (hc:∀n f a h,jL (cK n f a h)) (hy:∀n f a h,jL (yK n f a h))
 (cc:∀n f a h k,cK n f a h k ->cK (n+1) f a h k) (yy:∀n f a h k,yK n f a h k ->yK (n+1) f a h k)
omit hC in
theorem Nl {cK:Nat ->Nat ->List AV ->AH ->(AV ->AH ->Prop) ->Prop} (cc:∀n f a h k,cK n f a h k ->cK (n+1) f a h k) {n m} (h:n<=m) f a x k (j:cK n f a x k):cK m f a x k:=by
 induction h with
 |refl=>exact j
 |step _ A=>exact cc _ _ _ _ _ A
include hc hy cc yy
theorem Nm g τ h (K:Nat ->AV×AH ->Prop) (B:∀m a,K m a ->K (m+1) a)
 (j:eY C (λf a h k=>∃n,cK n f a h k) (λf a h k=>∃n,yK n f a h k) g τ h (λv h=>∃m,K m (v,h))):∃m,eY C (cK m) (yK m) g τ h (λv h=>K m (v,h)):=by
 have A:(match step (az C τ) h g.op with
  | .v x h=>∃m,K m (x,h)
  | .call q args h=>∃n,cK n q args h (λv h=>∃m,K m (v,h))
  | .yld l args h=>∃n,yK n l args h (λv h=>∃m,K m (v,h))
  | .alts l=>gQ C (λv h=>∃m,K m (v,h)) l
  | .bad=>C.fail:Prop) ->∃m,(match step (az C τ) h g.op with
  | .v x h=>K m (x,h)
  | .call q args h=>cK m q args h (λv h=>K m (v,h))
  | .yld l args h=>yK m l args h (λv h=>K m (v,h))
  | .alts l=>gQ C (λv h=>K m (v,h)) l
  | .bad=>C.fail:Prop):=by
  cases step (az C τ) h g.op with
  |v x h=>exact id
  |call q args h=>
   rintro⟨n,h1⟩;obtain⟨m,h2⟩:=(hc n q args h).cont K B h1;refine⟨max n m,Nl cc (Cj ..) _ _ _ _ ((hc n q args h).mono (k:=K m) (k':=K (max n m)) (λa=>Aq B (Ck ..)) h2)⟩
  |yld l args h=>
   rintro⟨n,h1⟩;obtain⟨m,h2⟩:=(hy n l args h).cont K B h1;refine⟨max n m,Nl yy (Cj ..) _ _ _ _ ((hy n l args h).mono (k:=K m) (k':=K (max n m)) (λa=>Aq B (Ck ..)) h2)⟩
  |alts l=>exact λh1=>(GV hC (α:=AV×AH) (f:=λv h k=>k (v,h)) (λ_ _=>SC.at_ _) l).cont K B h1
  |bad=>exact λh=>⟨0,h⟩
 unfold eY at j ⊢;dsimp only at j ⊢;rcases D:g.guard with _|q;rw[D] at j;exact A j;rw[D] at j;obtain⟨t,w⟩:=q;dsimp only at j ⊢;rcases E:τ.get t with _|y;rw[E] at j;exact⟨0,j⟩;rw[E] at j;cases y with
 |b x=>
  dsimp only at j ⊢;cases hb:(bif x then w else !w) with
  |true=>rw[hb] at j;exact A j
  |false=>rw[hb] at j;exact j
 |tu l=>cases l with
  |nil=>exact j
  |cons _ _=>exact⟨0,j⟩
 |_=>exact⟨0,j⟩
theorem GY {K}:∀l τ h,AY C (λf a h k=>∃n,cK n f a h k) (λf a h k=>∃n,yK n f a h k) K l τ h ->∃m,AY C (cK m) (yK m) K l τ h
 |[],_,_,hr=>⟨0,hr⟩
 |g::l,τ,h,hr=>by
  have h1:eY C (λf a h k=>∃n,cK n f a h k) (λf a h k=>∃n,yK n f a h k) g τ h (λx h=>eh τ g.dst x λτ=>AY C (λf a h k=>∃n,cK n f a h k) (λf a h k=>∃n,yK n f a h k) K l τ h):=hr;have e1:∀f a h,jL ((λf a h k=>∃n,cK n f a h k:Nat ->List AV ->AH ->(AV ->AH ->Prop) ->Prop) f a h):=λf a h=>SC.ex (F:=λn k=>cK n f a h (λv h=>k (v,h))) (λn=>hc n f a h);have e2:∀f a h,jL ((λf a h k=>∃n,yK n f a h k:Nat ->List AV ->AH ->(AV ->AH ->Prop) ->Prop) f a h):=λf a h=>SC.ex (F:=λn k=>yK n f a h (λv h=>k (v,h))) (λn=>hy n f a h);have h2:=(Et hC e1 e2 g τ h (α:=AV×AH) (f:=λv h k=>k (v,h)) (λ_ _=>SC.at_ _)).mono (k':=λa=>∃m,AY C (cK m) (yK m) K l (cj τ g.dst a.1) a.2) (λa A=>by
   have j:eh τ g.dst a.1 λτ=>AY C (λf a h k=>∃n,cK n f a h k) (λf a h k=>∃n,yK n f a h k) K l τ a.2:=A;rw[iI] at j;exact GY l _ _ j) (k:=λa=>eh τ g.dst a.1 λτ=>AY C (λf a h k=>∃n,cK n f a h k) (λf a h k=>∃n,yK n f a h k) K l τ a.2) h1
  obtain⟨m,B⟩:=Nm hC hc hy cc yy g τ h (λm a=>AY C (cK m) (yK m) K l (cj τ g.dst a.1) a.2) (λm a A=>yc hC (hc m) (hy m) (cc m) (yy m) K l _ _ A) h2;refine⟨m,?_⟩;show eY C (cK m) (yK m) g τ h (λx h=>eh τ g.dst x λτ=>AY C (cK m) (yK m) K l τ h);simp only[iI];exact B
theorem Av {base K}:∀l ls pd τ h,
 bW C (λf a h k=>∃n,cK n f a h k) (λf a h k=>∃n,yK n f a h k) base K l ls pd τ h ->∃m,bW C (cK m) (yK m) base K l ls pd τ h
 |[],_,_,_,_,hr=>⟨0,hr⟩
 |d::l,ls,pd,τ,h,hr=>by
  cases d with
  |light i g=>
   have h1:(match y6 C τ h g with
    |some x=>eh τ g.dst x λτ=>bW C (λf a h k=>∃n,cK n f a h k) (λf a h k=>∃n,yK n f a h k) base K l ((i,g)::ls) pd τ h
    |none=>C.fail):=hr
   show∃m,(match y6 C τ h g with
    |some x=>eh τ g.dst x λτ=>bW C (cK m) (yK m) base K l ((i,g)::ls) pd τ h
    |none=>C.fail)
   rcases E:y6 C τ h g with _|x;rw[E] at h1;exact⟨0,h1⟩;rw[E] at h1;dsimp only at h1 ⊢;simp only[iI] at h1 ⊢;exact Av l _ _ _ _ h1
  |resv i n g=>
   have h1:(fN (base+n) λid=>match step (az C τ) ⟨id,h.ver,.e⟩ g.op with
    | .v x h'=>match h'.oB.get id with
     |some ob=>eh τ g.dst x λτ=>bW C (λf a h k=>∃n,cK n f a h k) (λf a h k=>∃n,yK n f a h k) base K l ls ((i,id,ob)::pd) τ h
     |none=>C.fail
    |_=>C.fail):=hr
   show∃m,(fN (base+n) λid=>match step (az C τ) ⟨id,h.ver,.e⟩ g.op with
    | .v x h'=>match h'.oB.get id with
     |some ob=>eh τ g.dst x λτ=>bW C (cK m) (yK m) base K l ls ((i,id,ob)::pd) τ h
     |none=>C.fail
    |_=>C.fail)
   simp only[dT] at h1 ⊢;cases H:step (az C τ) ⟨base+n,h.ver,.e⟩ g.op with
   |v x h'=>
    rw[H] at h1;dsimp only at h1 ⊢;rcases G:h'.oB.get (base+n) with _|ob;rw[G] at h1;exact⟨0,h1⟩;rw[G] at h1;dsimp only at h1 ⊢;simp only[iI] at h1 ⊢;exact Av l _ _ _ _ h1
   |_=>rw[H] at h1;exact⟨0,h1⟩
  |lay i=>
   have h1:(match iC i pd with
    |some (id,ob)=>h.put id ob λh=>bW C (λf a h k=>∃n,cK n f a h k) (λf a h k=>∃n,yK n f a h k) base K l ls pd τ h
    |none=>C.fail):=hr
   show∃m,(match iC i pd with
    |some (id,ob)=>h.put id ob λh=>bW C (cK m) (yK m) base K l ls pd τ h
    |none=>C.fail)
   rcases D:iC i pd with _|q;rw[D] at h1;exact⟨0,h1⟩;rw[D] at h1;dsimp only at h1 ⊢;simp only[AH.put_eq] at h1 ⊢;exact Av l _ _ _ _ h1
  |heavy i g mask=>
   have h1:eY C (λf a h k=>∃n,cK n f a h k) (λf a h k=>∃n,yK n f a h k) g τ h λx h=>eh τ g.dst x λτ=>eA C τ h mask ls (bW C (λf a h k=>∃n,cK n f a h k) (λf a h k=>∃n,yK n f a h k) base K l ls pd τ h):=hr;have e1:∀f a h,jL ((λf a h k=>∃n,cK n f a h k:Nat ->List AV ->AH ->(AV ->AH ->Prop) ->Prop) f a h):=λf a h=>SC.ex (F:=λn k=>cK n f a h (λv h=>k (v,h))) (λn=>hc n f a h);have e2:∀f a h,jL ((λf a h k=>∃n,yK n f a h k:Nat ->List AV ->AH ->(AV ->AH ->Prop) ->Prop) f a h):=λf a h=>SC.ex (F:=λn k=>yK n f a h (λv h=>k (v,h))) (λn=>hy n f a h);have ag:∀τ h,SC (α:=Unit) (λk=>eA C τ h mask ls (k ())):=λτ h=>De hC (τ:=τ) (h:=h) (mask:=mask) (α:=Unit) (F:=λk=>k ()) (SC.at_ _) ls;have h2:=(Et hC e1 e2 g τ h (α:=AV×AH) (f:=λv h k=>k (v,h)) (λ_ _=>SC.at_ _)).mono
    (k':=λa=>∃m,eA C (cj τ g.dst a.1) a.2 mask ls (bW C (cK m) (yK m) base K l ls pd (cj τ g.dst a.1) a.2)) (λa B=>by
     have j:eh τ g.dst a.1 λτ=>eA C τ a.2 mask ls (bW C (λf a h k=>∃n,cK n f a h k) (λf a h k=>∃n,yK n f a h k) base K l ls pd τ a.2):=B;rw[iI] at j;have A:=(ag _ _).mono (k:=λ_=>_) (k':=λ_=>∃m,bW C (cK m) (yK m) base K l ls pd (cj τ g.dst a.1) a.2) (λ_ hh=>Av l _ _ _ _ hh) j;exact(ag _ _).cont (λm _=>bW C (cK m) (yK m) base K l ls pd (cj τ g.dst a.1) a.2) (λm _ hh=>uL hC (hc m) (hy m) (cc m) (yy m) K l _ _ _ _ hh) A)
    (k:=λa=>eh τ g.dst a.1 λτ=>eA C τ a.2 mask ls (bW C (λf a h k=>∃n,cK n f a h k) (λf a h k=>∃n,yK n f a h k) base K l ls pd τ a.2)) h1
   obtain⟨m,A⟩:=Nm hC hc hy cc yy g τ h (λm a=>eA C (cj τ g.dst a.1) a.2 mask ls (bW C (cK m) (yK m) base K l ls pd (cj τ g.dst a.1) a.2))
    (λm a B=>(ag _ _).mono (k:=λ_=>_) (k':=λ_=>_) (λ_ hh=>uL hC (hc m) (hy m) (cc m) (yy m) K l _ _ _ _ hh) B) h2
   refine⟨m,?_⟩;show eY C (cK m) (yK m) g τ h λx h=>eh τ g.dst x λτ=>eA C τ h mask ls (bW C (cK m) (yK m) base K l ls pd τ h);simp only[iI];exact A
end fam
end
section
variable (C:aK Prop)
def gG (c:aw) (k:K Prop) (τ:T AV) (h:AH):Prop:=∃n,run C n c k τ h
def du (f:Nat) (args:List AV) (h:AH) (k:AV ->AH ->Prop):Prop:=∃n,DR C (run C n) f args h k
def g9 (f:Nat) (args:List AV) (h:AH) (k:AV ->AH ->Prop):Prop:=∃n,iS C (run C n) f args h k
def oC (l:Nat) (args:List AV) (h:AH) (k:AV ->AH ->Prop):Prop:=∃n,iD C (run C n) l args h k
end
section
variable {C:aK Prop} (hC:lQ C) {k:K Prop} {τ:T AV} {h:AH}
include hC
theorem c1 n:∀f a h,jL (iS C (run C n) f a h):=As hC (λc τ h {α f} hf=>ya hC n c τ h hf)
theorem y1 n:∀f a h,jL (iD C (run C n) f a h):=At hC (λc τ h {α f} hf=>ya hC n c τ h hf)
theorem GZ n:∀f a h k,iS C (run C n) f a h k ->iS C (run C (n+1)) f a h k:=Ni hC (Au hC n)
theorem G0 n:∀f a h k,iD C (run C n) f a h k ->iD C (run C (n+1)) f a h k:=Nk hC (Au hC n)
theorem rW {n c} (j:run C n c k τ h):∃m,n=m+1:=by
 rcases n with _|m;have:C.fail:=j;rw[hC.fail] at this;exact this.elim;exact⟨m,rfl⟩
theorem Nn:gG C .skip k τ h↔k .normal τ h:=
 ⟨λ⟨n,j⟩=>by obtain⟨m,rfl⟩:=rW hC j;rw[gn] at j;exact j,λhk=>⟨1,by rw[gn];exact hk⟩⟩
theorem No {i}:gG C (.exit i) k τ h↔k (.exit i) τ h:=
 ⟨λ⟨n,j⟩=>by obtain⟨m,rfl⟩:=rW hC j;rw[gn] at j;exact j,λhk=>⟨1,by rw[gn];exact hk⟩⟩
theorem Np:gG C .ret k τ h↔k .ret τ h:=
 ⟨λ⟨n,j⟩=>by obtain⟨m,rfl⟩:=rW hC j;rw[gn] at j;exact j,λhk=>⟨1,by rw[gn];exact hk⟩⟩
theorem Nq {c} {K:Nat ->pS ->T AV ->AH ->Prop} (A:∀m e τ h,K m e τ h ->K (m+1) e τ h) (j:gG C c (λe τ h=>∃m,K m e τ h) τ h):∃n,run C n c (K n) τ h:=by
 obtain⟨n,j⟩:=j;obtain⟨m,h1⟩:=(ya hC n c τ h (α:=pS×T AV×AH) (f:=λe τ h k=>k (e,τ,h)) (λ_ _ _=>SC.at_ _)).cont (λm a=>K m a.1 a.2.1 a.2.2) (λm a=>A m _ _ _) j;refine⟨max n m,ab6 hC (Cj ..) (PB hC (λe τ h B=> ?_) h1)⟩;exact Aq (K:=λm (a:pS×T AV×AH)=>K m a.1 a.2.1 a.2.2) (λm a=>A m _ _ _) (Ck ..) (a:=(e,τ,h)) B
theorem Df {c k'} (hk:∀e τ h,k e τ h ->k' e τ h) (j:gG C c k τ h):gG C c k' τ h:=
 let ⟨n,j⟩:=j;⟨n,PB hC hk j⟩
theorem Nr {a b}:gG C (.seq a b) k τ h↔gG C a (λe τ h=>match e with| .normal=>gG C b k τ h|e=>k e τ h) τ h:=by
 constructor;rintro⟨n,A⟩;obtain⟨m,rfl⟩:=rW hC A;rw[gn] at A;exact⟨m,PB hC (λe τ h j=>by cases e<;>first|exact⟨m,j⟩|exact j) A⟩;intro A;obtain⟨n,h1⟩:=Nq hC (K:=λm e τ h=>match e with| .normal=>run C m b k τ h|e=>k e τ h)
  (λm e τ h j=>by cases e<;>first|exact Au hC _ _ _ _ _ j|exact j) (Df hC (λe τ h j=>by cases e<;>first|exact j|exact⟨0,j⟩) A)
 exact⟨n+1,by rw[gn];exact h1⟩
theorem uM {a}:gG C (.loop a) k τ h↔gG C a (λe τ h=>match e with| .normal=>gG C (.loop a) k τ h|e=>k e τ h) τ h:=by
 constructor;rintro⟨n,A⟩;obtain⟨m,rfl⟩:=rW hC A;rw[gn] at A;exact⟨m,PB hC (λe τ h j=>by cases e<;>first|exact⟨m,j⟩|exact j) A⟩;intro A;obtain⟨n,h1⟩:=Nq hC (K:=λm e τ h=>match e with| .normal=>run C m (.loop a) k τ h|e=>k e τ h)
  (λm e τ h j=>by cases e<;>first|exact Au hC _ _ _ _ _ j|exact j) (Df hC (λe τ h j=>by cases e<;>first|exact j|exact⟨0,j⟩) A)
 exact⟨n+1,by rw[gn];exact h1⟩
theorem ab7 {x a b}:gG C (.cond x a b) k τ h↔(match az C τ x with| .b t=>(bif t then gG C a k τ h else gG C b k τ h)|_=>False):=by
 constructor;rintro⟨n,j⟩;obtain⟨m,rfl⟩:=rW hC j;rw[gn] at j;dsimp only at j;cases A:az C τ x with
 |b t=>rw[A] at j;cases t<;>exact⟨m,j⟩
 |_=>rw[A] at j;dsimp only at j;rw[hC.fail] at j;exact j
 intro j;cases A:az C τ x with
 |b t=>
  rw[A] at j;cases t<;>(obtain⟨m,j⟩:=j;exact⟨m+1,by rw[gn];dsimp only;rw[A];exact j⟩)
 |_=>rw[A] at j;exact j.elim
theorem Nt {i a}:gG C (.block i a) k τ h↔gG C a (λe τ h=>match e with| .exit j=>(bif Nat.beq j i then k .normal τ h else k (.exit j) τ h)|e=>k e τ h) τ h:=
 ⟨λ⟨n,A⟩=>by obtain⟨m,rfl⟩:=rW hC A;rw[gn] at A;exact⟨m,A⟩,λ⟨m,A⟩=>⟨m+1,by rw[gn];exact A⟩⟩
theorem Nu {l}:gG C (.ops l) k τ h↔AY C (g9 C) (oC C) (λτ h=>k .normal τ h) l τ h:=by
 constructor;rintro⟨n,j⟩;obtain⟨m,rfl⟩:=rW hC j;rw[gn] at j;exact yc hC (c1 hC m) (y1 hC m) (λf a h k hk=>⟨m,hk⟩) (λf a h k hk=>⟨m,hk⟩) _ l τ h j;intro j;obtain⟨m,h1⟩:=GY hC (cK:=λn=>iS C (run C n)) (yK:=λn=>iD C (run C n)) (c1 hC) (y1 hC) (GZ hC) (G0 hC) l τ h j;exact⟨m+1,by rw[gn];exact h1⟩
theorem Nv {z l}:gG C (.draw z l) k τ h↔bW C (g9 C) (oC C) h.next (λτ h=>k .normal τ h) l [] [] τ ⟨h.next+z,h.ver,h.oB⟩:=by
 constructor;rintro⟨n,j⟩;obtain⟨m,rfl⟩:=rW hC j;rw[gn] at j;dsimp only at j;rw[dT] at j;exact uL hC (c1 hC m) (y1 hC m) (λf a h k hk=>⟨m,hk⟩) (λf a h k hk=>⟨m,hk⟩) _ l _ _ τ _ j;intro j;obtain⟨m,h1⟩:=Av hC (cK:=λn=>iS C (run C n)) (yK:=λn=>iD C (run C n)) (c1 hC) (y1 hC) (GZ hC) (G0 hC) l _ _ τ _ j;exact⟨m+1,by rw[gn];dsimp only;rw[dT];exact h1⟩
theorem ab8 {l x fn}:gG C (.dfr l x fn) k τ h↔AY C (g9 C) (oC C) (λτ h=>match az C τ x with
 | .f g _ _=>(bif Nat.beq g fn then k .normal τ h else False)
 |_=>False) l τ h:=by
 constructor;rintro⟨n,j⟩;obtain⟨m,rfl⟩:=rW hC j;rw[gn] at j;dsimp only at j;rw[hC.fail] at j;exact yc hC (c1 hC m) (y1 hC m) (λf a h k hk=>⟨m,hk⟩) (λf a h k hk=>⟨m,hk⟩) _ l τ h j;intro j;obtain⟨m,h1⟩:=GY hC (cK:=λn=>iS C (run C n)) (yK:=λn=>iD C (run C n)) (c1 hC) (y1 hC) (GZ hC) (G0 hC) l τ h j;exact⟨m+1,by rw[gn];dsimp only;rw[hC.fail];exact h1⟩
theorem Nw {f args k}:g9 C f args h k↔C.spec f args h k (du C f args h k):=
 ⟨λ⟨n,j⟩=>hC.fb _ _ _ _ _ _ (λhb=>⟨n,hb⟩) j,λj=>hC.fbc _ _ _ _ _ j⟩
theorem ab9 {f args k fn} (j:C.ae.get f=some fn):du C f args h k↔gG C fn.body (λe τ h=>match e with
 | .exit _=>False
 |_=>match eZ τ h fn.res with|some v=>k v h|none=>False) (oA args 0 .e) h:=by
 unfold du DR gG;rw[j,hC.fail];simp only[xZ];exact Iff.rfl
end
section
variable {C:aK Prop} {ck yk:Nat ->List AV ->AH ->(AV ->AH ->Prop) ->Prop}
def ac0 {k τ h}:AY C ck yk k [] τ h=k τ h:=rfl
def Nx {k g l τ h}:AY C ck yk k (g::l) τ h=eY C ck yk g τ h (λx h=>AY C ck yk k l (cj τ g.dst x) h):=by
 show eY C ck yk g τ h (λx h=>eh τ g.dst x λτ=>AY C ck yk k l τ h)=_;simp only[iI]
def ac3 {τ d x}:cj τ (some d) x=τ.put d x:=rfl
def ac4 {τ x}:cj τ none x=τ:=rfl
def oD {τ n}:az C τ (.t n)=(τ.get n).getD .un:=by
 show(Option.rec .un (λv=>v) (τ.get n):AV)=_;cases τ.get n<;>rfl
def tB {τ v}:az C τ (.c v)=v:=rfl
section
variable {ev:MA ->AV} {h:AH}
def Ny {a}:step ev h (.mv a)= .v (ev a) h:=by show fV (ev a) (λx=>da.v x h)=_;rw[jK]
def Nz {c a b}:step ev h (.pick c a b)=(match ev c with| .b x=>(if x=true then .v (ev a) h else .v (ev b) h)|_=> .bad):=by
 show(match ev c with| .b x=>(Bool.rec (fV (ev b) λx=>da.v x h) (fV (ev a) λx=>da.v x h) x:da)|_=>da.bad)=_;cases ev c<;>simp only[jK];rename_i x;cases x<;>rfl
def NC {z}:step ev h (.alloc z)= .v (.p h.next 0) ⟨h.next+1,h.ver,h.oB.put h.next (.cells h.ver z)⟩:=by
 show(h.new (.cells h.ver z) λo h=>da.v (.p o 0) h)=_;rw[AH.new_eq]
def ND {a n}:step ev h (.box a n)=(match cellsO (ev a) with|some l=> .v (.p h.next 0) ⟨h.next+1,h.ver,h.oB.put h.next (.cells h.ver l)⟩|none=> .bad):=by
 show(match cellsO (ev a) with|some l=>h.new (.cells h.ver l) λo h=>da.v (.p o 0) h|none=>da.bad)=_;simp only[AH.new_eq]
def NE {z ps}:step ev h (.build z ps)=(match ik ev ps z with|some l=> .v (.ag l) h|none=> .bad):=rfl
def NF {a n agg}:step ev h (.load a n agg)=(match ev a with
 | .p o off=>match h.cells o with
  |some l=>match sub l off n with|some c=>dr h (dB agg c)|none=> .bad
  |none=> .bad
 | .dp l off=>match sub l off n with|some c=>dr h (dB agg c)|none=> .bad
 |_=> .bad):=rfl
def NG {a x n}:step ev h (.store a x n)=(match ev a with
 | .p o off=>match h.cells o with
  |some l=>match eL (cellsOf (ev x)) l off with
   |some l'=>(if (wV (cellsOf (ev x))&&Nat.beq (len (cellsOf (ev x))) n)=true then .v .un ⟨h.next,h.ver+1,h.oB.put o (.cells (h.ver+1) l')⟩ else .bad)
   |none=> .bad
  |none=> .bad
 |_=> .bad):=by
 show(match ev a with
  | .p o off=>match h.cells o with
   |some l=>fV (ev x) λx=>match eL (cellsOf x) l off with
    |some l'=>bif wV (cellsOf x)&&Nat.beq (len (cellsOf x)) n then h.put o (.cells (Nat.succ h.ver) l') λh=>da.v .un h else da.bad
    |none=>da.bad
   |none=>da.bad
  |_=>da.bad)=_
 simp only[AH.put_eq,jK,fv]
def NH {op x y}:step ev h (.bin op x y)=dr h (aY op (ev x) (ev y)):=rfl
def NI {ne e x y}:step ev h (.eqv ne e x y)=(match eH 6 e (ev x) (ev y) with|some r=> .v (.b (bif ne then !r else r)) h|none=> .bad):=rfl
def NJ {op x}:step ev h (.un op x)=dr h (Pz op (ev x)):=rfl
def G1 {fn a b}:step ev h (.mfn fn a b)=(match eE ev a,eE ev b with|some a,some b=> .v (.f fn a b) h|_,_=> .bad):=rfl
def NK {x j}:step ev h (.fadr x j)=(match ev x with| .p o a=> .v (.p o (a+j)) h| .dp l a=> .v (.dp l (a+j)) h|_=> .bad):=by
 show(match ev x with| .p o a=>fN (a+j) λa=>da.v (.p o a) h| .dp l a=>fN (a+j) λa=>da.v (.dp l a) h|_=>da.bad)=_;simp only[dT]
def NL {f a}:step ev h (.call f a)=(match eE ev a with|some l=> .call f l h|none=> .bad):=rfl
def NM {x i}:step ev h (.ext x i)=(match ev x with| .tu l=>dr h (sw l i)|_=> .bad):=rfl
def NN {x}:dr h (some x)= .v x h:=rfl
def DG:eE ev []=some []:=rfl
def wC {a l}:eE ev (a::l)=(eE ev l).map (ev a:: ·):=by
 show(Option.rec none (λb=>Option.rec none (λt=>some (b::t)) (eE ev l)) (fV (ev a) some):Option (List AV))=_;rw[jK];cases eE ev l<;>rfl
end
def uN {k}:gZ k k=true:=by cases k<;>rfl
variable {a b:Int}
def NO {k}:aY .lss (.i k a) (.i k b)=some (.b (decide (a<b))):=by
 show(bif gZ k k then rb (fD a b) else none)=_;rw[uN,mI];show rb _=_;unfold rb;rw[rR]
def NP {k}:aY .geq (.i k a) (.i k b)=some (.b (decide (b<=a))):=by
 show(bif gZ k k then rb (!(fD a b)) else none)=_;rw[uN,mI];show rb _=_;unfold rb;rw[rR];congr 2;rw[xB];simp
def NQ {k}:aY .eql (.i k a) (.i k b)=some (.b (decide (a=b))):=by
 show(bif gZ k k then rb (eO a b) else none)=_;rw[uN,A3];show rb _=_;unfold rb;rw[rR]
def NR {k}:aY .neq (.i k a) (.i k b)=some (.b (!decide (a=b))):=by
 show(bif gZ k k then rb (!(eO a b)) else none)=_;rw[uN,A3];show rb _=_;unfold rb;rw[rR]
def G2 {n} (h: -9223372036854775808<=n/\ n<=9223372036854775807):dN .i64 n=n:=by
 rw[vW];exact IntWalk.i64_in n h
def wD (h: -9223372036854775808<=a+b/\ a+b<=9223372036854775807):aY .add (ι a) (ι b)=some (ι (a+b)):=by
 show ri .i64 (dN .i64 (a+b))=_;rw[G2 h];unfold ri;rw[zO]
def rX (h: -9223372036854775808<=a-b/\ a-b<=9223372036854775807):aY .sub (ι a) (ι b)=some (ι (a-b)):=by
 show ri .i64 (dN .i64 (a-b))=_;rw[G2 h];unfold ri;rw[zO]
def NS {b}:Pz .not (.b b)=some (.b !b):=by show rb _=_;unfold rb;rw[rR]
end
section
variable {C:aK Prop} {ck yk:Nat ->List AV ->AH ->(AV ->AH ->Prop) ->Prop}
def ac5 {base k ls pd τ h}:bW C ck yk base k [] ls pd τ h=k τ h:=rfl
def NT {base k i g mask l ls pd τ h}:bW C ck yk base k (.heavy i g mask::l) ls pd τ h=
 eY C ck yk g τ h (λx h=>eA C (cj τ g.dst x) h mask ls (bW C ck yk base k l ls pd (cj τ g.dst x) h)):=by
 show eY C ck yk g τ h (λx h=>eh τ g.dst x λτ=>eA C τ h mask ls (bW C ck yk base k l ls pd τ h))=_;simp only[iI]
def ad6 {i e l}:iC i (e::l)=(if e.1=i then some e.2 else iC i l):=by
 show(bif Nat.beq e.1 i then some e.2 else iC i l)=_;rw[bu,rM]
def nice:Nat ->AV ->Bool
 |_,.un=>false
 |n+1,.dp l _=>niceL n l
 |n+1,.ds l _ _ _=>niceL n l
 |n+1,.f _ x y=>niceL n x&&niceL n y
 |n+1,.ifc _ v=>nice n v
 |n+1,.ag l=>niceL n l
 |n+1,.tu l=>niceL n l
 |0,.dp _ _|0,.ds .. |0,.f .. |0,.ifc .. |0,.ag _|0,.tu _=>false
 |_,_=>true
 where niceL (n:Nat):List AV ->Bool
 |[]=>true
 |a::l=>nice n a&&niceL n l
def Dh {k}:gZ k k=true:=by cases k<;>rfl
def wE {f}:∀{l},(∀a∈l,f a a=true) ->cZ.avEqs f l l=true
 |[],_=>rfl
 |a::l,h=>by
  show(f a a&&cZ.avEqs f l l)=true;rw[h a jG,wE λb hb=>h b (jw _ hb)];rfl
def wF {n}:∀{l},nice.niceL n l=true ->∀a∈l,nice n a=true
 |[],_,a,j=>by cases j
 |b::l,h,a,j=>by
  have h':(nice n b&&nice.niceL n l)=true:=by rw[←h];simp only[nice.niceL]
  rw[aB] at h';rcases ey.1 j with rfl|j;exact h'.1;exact wF h'.2 a j
def NU:∀n a,nice n a=true ->cZ n a a=true:=by
 intro n;induction n with
 |zero=>
  intro a h;cases a<;>first|(simp only[nice] at h;cases h;done)|skip
  all_goals unfold cZ;simp[Dh,A3,mH,bu]
  all_goals (rename_i c _;cases c<;>simp[])
 |succ n A=>
  intro a h;cases a with
  |dp l o=>simp only[nice] at h;unfold cZ;simp[];exact wE λa j=>A a (wF h a j)
  |ds l o k e=>simp only[nice] at h;unfold cZ;simp[];exact wE λa j=>A a (wF h a j)
  |f g x y=>simp only[nice,aB] at h;unfold cZ;simp[];exact⟨wE λa j=>A a (wF h.1 a j),wE λa j=>A a (wF h.2 a j)⟩
  |ifc t v=>simp only[nice] at h;unfold cZ;simp[];exact A v h
  |ag l=>simp only[nice] at h;unfold cZ;exact wE λa j=>A a (wF h a j)
  |tu l=>simp only[nice] at h;unfold cZ;exact wE λa j=>A a (wF h a j)
  |un=>simp only[nice] at h;cases h
  |sl o a n c e=>unfold cZ;cases c<;>simp[]
  |b x=>unfold cZ;cases x<;>rfl
  |i k x=>unfold cZ;simp[Dh,A3]
  |s x=>unfold cZ;simp[mH]
  |p o a=>unfold cZ;simp[]
  |m o=>unfold cZ;simp[]
  |y o=>unfold cZ;simp[]
  |_=>unfold cZ;rfl
end
section
variable {ev:MA ->AV} {h:AH}
def tC {k} {n:Nat}:ff (.i k (n))=some n:=rfl
def NV {a}:nA ev a=ff (ev a):=rfl
def uO:nO ev none=none:=rfl
def uP {a}:nO ev (some a)=some (ff (ev a)):=rfl
def ad7 {a}:step ev h (.nilc a)=(match ev a with
 | .p o a=> .v (.p o a) h
 | .dp l a=> .v (.dp l a) h
 | .f g a b=> .v (.f g a b) h
 | .y l=> .v (.y l) h
 | .ifc t v=> .v (.ifc t v) h
 | .m o=> .v (.m o) h
 |_=> .bad):=rfl
def ad9 {l}:ik ev [] l=some l:=rfl
def ae0 {p ps l}:ik ev (p::ps) l=(match cellsO (ev p.2.2) with
 |some c=>(if c.length=p.2.1 then (match eL c l p.1 with|some l=>ik ev ps l|none=>none) else none)
 |none=>none):=by
 show(match cellsO (ev p.2.2) with
  |some c=>bif Nat.beq (len c) p.2.1 then (match eL c l p.1 with|some l=>ik ev ps l|none=>none) else none
  |none=>none)=_
 simp only[kZ,bu,rM]
def ae1 {k n}:cellsO (.i k n)=some [.i k n]:=rfl
def ae2 {o a n c e}:cellsO (.sl o a n c e)=some [.sl o a n c e]:=rfl
def ae3:cellsO .sn=some [.sn]:=rfl
def ae4 {l a n e}:cellsO (.ds l a n e)=some [.ds l a n e]:=rfl
def ae5 {o}:cellsO (.m o)=some [.m o]:=rfl
def ae6 {o a}:cellsO (.p o a)=some [.p o a]:=rfl
def ae7 {b}:cellsO (.b b)=some [.b b]:=rfl
def ae8 {b}:cellsO (.s b)=some [.s b]:=rfl
def ae9 {g a b}:cellsO (.f g a b)=some [.f g a b]:=rfl
def af0 {k n}:cellsOf (.i k n)=[.i k n]:=rfl
def af1 {o a n c e}:cellsOf (.sl o a n c e)=[.sl o a n c e]:=rfl
def af2:cellsOf .sn=[.sn]:=rfl
def af3 {l a n e}:cellsOf (.ds l a n e)=[.ds l a n e]:=rfl
def af4 {o}:cellsOf (.m o)=[.m o]:=rfl
def af5 {o a}:cellsOf (.p o a)=[.p o a]:=rfl
def af6 {b}:cellsOf (.b b)=[.b b]:=rfl
def af7 {b}:cellsOf (.s b)=[.s b]:=rfl
def af8 {g a b}:cellsOf (.f g a b)=[.f g a b]:=rfl
def af9 {k n}:ew (.i k n)=true:=rfl
def ag0 {o a n c e}:ew (.sl o a n c e)=true:=rfl
def ag1:ew .sn=true:=rfl
def ag2 {l a n e}:ew (.ds l a n e)=true:=rfl
def ag3 {o}:ew (.m o)=true:=rfl
def ag4 {o a}:ew (.p o a)=true:=rfl
def ag5 {b}:ew (.b b)=true:=rfl
def ag6 {b}:ew (.s b)=true:=rfl
def ag7 {g a b}:ew (.f g a b)=true:=rfl
def cG:Option bC ->Option (List AV)
 |some (.cells _ l)=>some l
 |_=>none
def wG {n v t o}:AH.cells ⟨n,v,t⟩ o=cG (t.get o):=by
 show(match t.get o with|some (.cells _ l)=>some l|_=>none)=_;rcases t.get o with _|x;rfl;cases x<;>rfl
def d9 {v l}:cG (some (.cells v l))=some l:=rfl
def ag8 {n v t o}:AH.get ⟨n,v,t⟩ o=t.get o:=rfl
def NW {z n esz ps}:step ev h (.bslice z n esz ps)=(match ik ev ps z with
 |some l=> .v (.sl h.next 0 n (some n) esz) ⟨h.next+1,h.ver,h.oB.put h.next (.cells h.ver l)⟩
 |none=> .bad):=by
 show(match ik ev ps z with|some l=>h.new (.cells h.ver l) λo h=>da.v (.sl o 0 n (some n) esz) h|none=>da.bad)=_;simp only[AH.new_eq]
def NX {t x}:step ev h (.mif t x)= .v (.ifc t (ev x)) h:=by show fV (ev x) (λx=>da.v (.ifc t x) h)=_;rw[jK]
def NY:step ev h (.mmap none)= .v (.m h.next) ⟨h.next+1,h.ver,h.oB.put h.next (.map h.ver [] 0)⟩:=by
 show(h.new (.map h.ver [] 0) λo h=>da.v (.m o) h)=_;rw[AH.new_eq]
def NZ {z esz b l c}:step ev h (.mslice z esz b l c)=(match nA ev l,nA ev c with
 |some l,some c=>(if l<=c/\ c<=1048576 then .v (.sl h.next 0 l (some c) esz) ⟨h.next+1,h.ver,h.oB.put h.next (.cells h.ver (List.replicate c z).flatten)⟩ else .bad)
 |_,_=> .bad):=by
 show(match nA ev l,nA ev c with
  |some l,some c=>bif Nat.ble l c&&Nat.ble c 1048576 then (match rN z c with
   |some r=>h.new (.cells h.ver r) λo h=>da.v (.sl o 0 l (some c) esz) h
   |none=>da.bad) else da.bad
  |_,_=>da.bad)=_
 rcases nA ev l with _|l;cases nA ev c<;>rfl;rcases nA ev c with _|c;rfl;simp only[AH.new_eq,zP,fv,aB,wX,aU]
def Oa {x j n agg}:step ev h (.fld x j n agg)=(match ev x with| .ag l=>(match sub l j n with|some c=>dr h (dB agg c)|none=> .bad)|_=> .bad):=rfl
def Ob {j x i}:step ev h (.iadr j x i)=(match nA ev i with
 |some k=>match ev x with
  | .sl o off n _ esz=>(if esz=j/\ k<n then .v (.p o (off+k*esz)) h else .bad)
  | .ds l off n esz=>(if esz=j/\ k<n then .v (.dp l (off+k*esz)) h else .bad)
  |_=> .bad
 |none=> .bad):=by
 show(match nA ev i with
  |some k=>match ev x with
   | .sl o off n _ esz=>bif Nat.beq esz j&&Nat.ble (Nat.succ k) n then fN (off+k*esz) λa=>da.v (.p o a) h else da.bad
   | .ds l off n esz=>bif Nat.beq esz j&&Nat.ble (Nat.succ k) n then fN (off+k*esz) λa=>da.v (.dp l a) h else da.bad
   |_=>da.bad
  |none=>da.bad)=_
 simp only[dT,fv,aB,wX,bu,aU,FJ]
def Oc {n esz x i}:step ev h (.iadra n esz x i)=(match nA ev i with
 |some k=>(if k<n then (match ev x with
  | .p o off=> .v (.p o (off+k*esz)) h
  | .dp l off=> .v (.dp l (off+k*esz)) h
  |_=> .bad) else .bad)
 |none=> .bad):=by
 show(match nA ev i with
  |some k=>bif Nat.ble (Nat.succ k) n then (match ev x with
   | .p o off=>fN (off+k*esz) λa=>da.v (.p o a) h
   | .dp l off=>fN (off+k*esz) λa=>da.v (.dp l a) h
   |_=>da.bad) else da.bad
  |none=>da.bad)=_
 simp only[dT,fv,wX,aU,FJ]
def Oe {f a}:step ev h (.callv f a)=(match eE ev a with
 |some l=>match ev f with
  | .f g fi ca=> .call g (fi++(l++ca)) h
  | .y o=> .yld o l h
  |_=> .bad
 |none=> .bad):=by
 show(match eE ev a with
  |some l=>match ev f with
   | .f g fi ca=>match fy l ca with
    |some l=>match fy fi l with|some l=>da.call g l h|none=>da.bad
    |none=>da.bad
   | .y o=>da.yld o l h
   |_=>da.bad
  |none=>da.bad)=_
 simp only[jz]
def Of {x}:step ev h (.len .str x)=(match ev x with| .s l=> .v (ι (l.length:Int)) h|_=> .bad):=by
 show(match ev x with| .s l=>fN (len l) λn=>da.v (ι (.ofNat n)) h|_=>da.bad)=_;simp only[dT,kZ,nB]
def Og {n x}:step ev h (.len (.arr n) x)= .v (ι (n)) h:=rfl
def yd {x}:step ev h (.len .slice x)=(match ev x with
 | .sl _ _ n _ _=> .v (ι (n)) h
 | .ds _ _ n _=> .v (ι (n)) h
 | .sn=> .v (ι 0) h
 |_=> .bad):=by
 show(match ev x with
  | .s _=>da.bad
  |y=>match ij y with|some n=>da.v (ι (.ofNat n)) h|none=>da.bad)=_
 cases ev x<;>rfl
def Oh {k x}:step ev h (.cvi k x)=(match ev x with| .i _ n=>dr h (ri k (dN k n))|_=> .bad):=rfl
def Oi {A x lo hi l j n esz} (h1:ev x= .ds l j n esz):step ev h (.slc A x lo hi none)=(if esz=A then (match d7 n n (nO ev lo) (nO ev hi) none with
 |some (a,b,_)=> .v (.ds l (j+a*esz) (b-a) esz) h
 |none=> .bad) else .bad):=by
 show(match ev x with
  | .sl o j n cap esz=>bif !(Nat.beq esz A) then da.bad else match cap with
   |some c=>match d7 n c (nO ev lo) (nO ev hi) none with
    |some (l,r,m)=>fN (j+l*esz) λj=>fN (r-l) λn=>fN (m-l) λc=>da.v (.sl o j n (some c) esz) h
    |none=>da.bad
   |none=>match d7 n n (nO ev lo) (nO ev hi) none with
    |some (l,r,_)=>fN (j+l*esz) λj=>fN (r-l) λn=>da.v (.sl o j n none esz) h
    |none=>da.bad
  | .ds c j n esz=>bif !(Nat.beq esz A) then da.bad else match d7 n n (nO ev lo) (nO ev hi) none with
   |some (l,r,_)=>fN (j+l*esz) λj=>fN (r-l) λn=>da.v (.ds c j n esz) h
   |none=>da.bad
  | .sn=>match d7 0 0 (nO ev lo) (nO ev hi) none with|some _=>da.v .sn h|none=>da.bad
  |_=>da.bad)=_
 rw[h1];simp only[dT,bu];by_cases e:esz=A;simp[e];simp[e]
def Oj {l}:dB true l=some (.ag l):=rfl
def Ok {v}:dB false [v]=some v:=rfl
def Ol {l}:cellsO (.ag l)=some l:=rfl
def Om {l:List AV}:sub l 0 0=some []:=by rw[nH];simp
def On {a:AV} {l n}:sub (a::l) 0 (n+1)=(sub l 0 n).map (a:: ·):=by
 grind[nH]
def Oo {a:AV} {l m n}:sub (a::l) (m+1) n=sub l m n:=by
 grind[nH]
def G3 {l:List AV}:oZ [] l=some l:=rfl
def G4 {x y:AV} {c l}:oZ (x::c) (y::l)=(oZ c l).map (x:: ·):=by
 grind[vV]
def G5 {c l:List AV}:eL c l 0=oZ c l:=by cases l<;>rfl
def Aw {c l} {a:AV} {n}:eL c (a::l) (n+1)=(eL c l n).map (a:: ·):=by
 grind[xP]
def qR:wV []=true:=rfl
def Ei {a l}:wV (a::l)=(ew a&&wV l):=by
 show(Bool.rec false (wV l) (ew a):Bool)=_;cases ew a<;>rfl
def Oq {l}:cellsOf (.ag l)=l:=rfl
end
section
variable {C:aK Prop} {ck yk:Nat ->List AV ->AH ->(AV ->AH ->Prop) ->Prop}
def kO (C:aK Prop) (ck yk:Nat ->List AV ->AH ->(AV ->AH ->Prop) ->Prop) (k:T AV ->AH ->Prop) (l:List MG) (d:Option Nat) (τ:T AV):da ->Prop
 | .v x h=>AY C ck yk k l (cj τ d x) h
 | .call f a h=>ck f a h λx h=>AY C ck yk k l (cj τ d x) h
 | .yld o a h=>yk o a h λx h=>AY C ck yk k l (cj τ d x) h
 | .alts q=>gQ C (λx h=>AY C ck yk k l (cj τ d x) h) q
 | .bad=>C.fail
def kG (C:aK Prop) (ck yk:Nat ->List AV ->AH ->(AV ->AH ->Prop) ->Prop) (k:T AV ->AH ->Prop) (l:List MG) (d:Option Nat) (op:Eb) (w:Bool) (τ:T AV) (h:AH):Option AV ->Prop
 |some (.b x)=>if x=w then kO C ck yk k l d τ (step (az C τ) h op) else AY C ck yk k l (cj τ d (.tu [])) h
 |some (.tu [])=>AY C ck yk k l (cj τ d (.tu [])) h
 |_=>C.fail
variable {k:T AV ->AH ->Prop}
def ag9 {l d τ x h}:kO C ck yk k l d τ (.v x h)=AY C ck yk k l (cj τ d x) h:=rfl
def ah0 {l d τ f a h}:kO C ck yk k l d τ (.call f a h)=ck f a h λx h=>AY C ck yk k l (cj τ d x) h:=rfl
def ah1 {l d op w τ h x}:kG C ck yk k l d op w τ h (some (.b x))=if x=w then kO C ck yk k l d τ (step (az C τ) h op) else AY C ck yk k l (cj τ d (.tu [])) h:=rfl
def ah2 {l d op w τ h}:kG C ck yk k l d op w τ h (some (.tu []))=AY C ck yk k l (cj τ d (.tu [])) h:=rfl
def G6 {d op l τ h}:AY C ck yk k (⟨d,op,none⟩::l) τ h=kO C ck yk k l d τ (step (az C τ) h op):=by
 rw[Nx];unfold eY;dsimp only;cases step (az C τ) h op<;>rfl
def Ot {d op l τ h t w}:AY C ck yk k (⟨d,op,some (t,w)⟩::l) τ h=kG C ck yk k l d op w τ h (τ.get t):=by
 rw[Nx];unfold eY kG;dsimp only;rcases τ.get t with _|y;rfl;cases y with
 |b x=>cases x<;>cases w<;>(cases step (az C τ) h op<;>rfl)
 |tu l=>cases l<;>rfl
 |_=>rfl
def kC (C:aK Prop) (k:K Prop) (a b:aw) (τ:T AV) (h:AH):AV ->Prop
 | .b t=>if t=true then gG C a k τ h else gG C b k τ h
 |_=>False
def ah3 {k a b τ h t}:kC C k a b τ h (.b t)=if t=true then gG C a k τ h else gG C b k τ h:=rfl
def Ou (hC:lQ C) {k τ h x a b}:gG C (.cond x a b) k τ h↔kC C k a b τ h (az C τ x):=by
 rw[ab7 hC];cases az C τ x with
 |b t=>cases t<;>simp[kC]
 |_=>rfl
def kL (C:aK Prop) (ck yk:Nat ->List AV ->AH ->(AV ->AH ->Prop) ->Prop) (base:Nat) (k:T AV ->AH ->Prop) (i:Nat) (g:MG) (l:List DI) (ls:List (Nat×MG)) (pd:List (Nat×Nat×bC)) (τ:T AV) (h:AH):Option AV ->Prop
 |some x=>bW C ck yk base k l ((i,g)::ls) pd (cj τ g.dst x) h
 |none=>C.fail
def ah4 {base i g l ls pd τ h x}:kL C ck yk base k i g l ls pd τ h (some x)=bW C ck yk base k l ((i,g)::ls) pd (cj τ g.dst x) h:=rfl
def Ov {base i g l ls pd τ h}:bW C ck yk base k (.light i g::l) ls pd τ h=kL C ck yk base k i g l ls pd τ h (y6 C τ h g):=by
 show(match y6 C τ h g with|some x=>eh τ g.dst x λτ=>bW C ck yk base k l ((i,g)::ls) pd τ h|none=>C.fail)=_;simp only[iI];cases y6 C τ h g<;>rfl
def kV:da ->Option AV
 | .v x _=>some x
 |_=>none
def ah5 {x h}:kV (.v x h)=some x:=rfl
def kW (C:aK Prop) (τ:T AV) (h:AH) (op:Eb) (w:Bool):Option AV ->Option AV
 |some (.b x)=>if x=w then kV (step (az C τ) h op) else some (.tu [])
 |some (.tu [])=>some (.tu [])
 |_=>none
def Ow {τ h op w x}:kW C τ h op w (some (.b x))=if x=w then kV (step (az C τ) h op) else some (.tu []):=rfl
def Ox {τ h op w}:kW C τ h op w (some (.tu []))=some (.tu []):=rfl
def Oy {d op τ h}:y6 C τ h ⟨d,op,none⟩=kV (step (az C τ) h op):=by unfold y6;dsimp only;cases step (az C τ) h op<;>rfl
def Oz {d op t w τ h}:y6 C τ h ⟨d,op,some (t,w)⟩=kW C τ h op w (τ.get t):=by
 unfold y6 kW;dsimp only;rcases τ.get t with _|y;rfl;cases y with
 |b x=>cases x<;>cases w<;>(cases step (az C τ) h op<;>rfl)
 |tu l=>cases l<;>rfl
 |_=>rfl
def Di (C:aK Prop) (ck yk:Nat ->List AV ->AH ->(AV ->AH ->Prop) ->Prop) (base:Nat) (k:T AV ->AH ->Prop) (i id:Nat) (x:AV) (d:Option Nat) (l:List DI) (ls:List (Nat×MG)) (pd:List (Nat×Nat×bC)) (τ:T AV) (h:AH):Option bC ->Prop
 |some ob=>bW C ck yk base k l ls ((i,id,ob)::pd) (cj τ d x) h
 |none=>C.fail
def kR (C:aK Prop) (ck yk:Nat ->List AV ->AH ->(AV ->AH ->Prop) ->Prop) (base:Nat) (k:T AV ->AH ->Prop) (i id:Nat) (d:Option Nat) (l:List DI) (ls:List (Nat×MG)) (pd:List (Nat×Nat×bC)) (τ:T AV) (h:AH):da ->Prop
 | .v x h'=>Di C ck yk base k i id x d l ls pd τ h (h'.oB.get id)
 |_=>C.fail
def ah6 {base i id x d l ls pd τ h ob}:Di C ck yk base k i id x d l ls pd τ h (some ob)=bW C ck yk base k l ls ((i,id,ob)::pd) (cj τ d x) h:=rfl
def OA {base i id d l ls pd τ h x h'}:kR C ck yk base k i id d l ls pd τ h (.v x h')=Di C ck yk base k i id x d l ls pd τ h (h'.oB.get id):=rfl
def OB {base i n g l ls pd τ h}:bW C ck yk base k (.resv i n g::l) ls pd τ h=kR C ck yk base k i (base+n) g.dst l ls pd τ h (step (az C τ) ⟨base+n,h.ver,.e⟩ g.op):=by
 show(fN (base+n) λid=>match step (az C τ) ⟨id,h.ver,.e⟩ g.op with
  | .v x h'=>match h'.oB.get id with
   |some ob=>eh τ g.dst x λτ=>bW C ck yk base k l ls ((i,id,ob)::pd) τ h
   |none=>C.fail
  |_=>C.fail)=_
 simp only[dT,iI];cases step (az C τ) ⟨base+n,h.ver,.e⟩ g.op with
 |v x h'=>dsimp only;rw[OA];cases h'.oB.get (base+n)<;>rfl
 |_=>rfl
def kY (C:aK Prop) (ck yk:Nat ->List AV ->AH ->(AV ->AH ->Prop) ->Prop) (base:Nat) (k:T AV ->AH ->Prop) (l:List DI) (ls:List (Nat×MG)) (pd:List (Nat×Nat×bC)) (τ:T AV) (h:AH):Option (Nat×bC) ->Prop
 |some (id,ob)=>bW C ck yk base k l ls pd τ ⟨h.next,h.ver+1,h.oB.put id ob⟩
 |none=>C.fail
def ah7 {base l ls pd τ h id ob}:kY C ck yk base k l ls pd τ h (some (id,ob))=bW C ck yk base k l ls pd τ ⟨h.next,h.ver+1,h.oB.put id ob⟩:=rfl
def OC {base i l ls pd τ h}:bW C ck yk base k (.lay i::l) ls pd τ h=kY C ck yk base k l ls pd τ h (iC i pd):=by
 show(match iC i pd with|some (id,ob)=>h.put id ob λh=>bW C ck yk base k l ls pd τ h|none=>C.fail)=_;simp only[AH.put_eq];cases iC i pd<;>rfl
def kA (C:aK Prop) (ck yk:Nat ->List AV ->AH ->(AV ->AH ->Prop) ->Prop) (base:Nat) (k:T AV ->AH ->Prop) (mask:Nat) (l:List DI) (ls:List (Nat×MG)) (pd:List (Nat×Nat×bC)) (τ:T AV) (h:AH):List (Nat×MG) ->Prop:=
 λj=>eA C τ h mask j (bW C ck yk base k l ls pd τ h)
def Dj (C:aK Prop) (ck yk:Nat ->List AV ->AH ->(AV ->AH ->Prop) ->Prop) (base:Nat) (k:T AV ->AH ->Prop) (mask:Nat) (l:List DI) (ls:List (Nat×MG)) (pd:List (Nat×Nat×bC)) (τ:T AV) (h:AH) (j:List (Nat×MG)) (d:Option Nat):Option AV ->Prop
 |some x=>(match d with
  |none=>kA C ck yk base k mask l ls pd τ h j
  |some d=>match τ.get d with
   |some y=>if cZ 64 x y=true then kA C ck yk base k mask l ls pd τ h j else C.fail
   |none=>C.fail)
 |none=>C.fail
def ah8 {base mask l ls pd τ h}:kA C ck yk base k mask l ls pd τ h []=bW C ck yk base k l ls pd τ h:=rfl
def OD {base mask l ls pd τ h i g j}:kA C ck yk base k mask l ls pd τ h ((i,g)::j)=if Nat.testBit mask i=true then kA C ck yk base k mask l ls pd τ h j else Dj C ck yk base k mask l ls pd τ h j g.dst (y6 C τ h g):=by
 show(bif Nat.testBit mask i then kA C ck yk base k mask l ls pd τ h j else match y6 C τ h g with
  |some x=>match g.dst with
   |none=>kA C ck yk base k mask l ls pd τ h j
   |some d=>match τ.get d with
    |some y=>bif cZ 64 x y then kA C ck yk base k mask l ls pd τ h j else C.fail
    |none=>C.fail
  |none=>C.fail)=_
 simp only[fv];cases y6 C τ h g<;>rfl
def ah9 {base mask l ls pd τ h j d x} (e:(τ.get d)=some x) (A:nice 64 x=true):Dj C ck yk base k mask l ls pd τ h j (some d) (some x)=kA C ck yk base k mask l ls pd τ h j:=by
 unfold Dj;dsimp only;rw[e];dsimp only;rw[aF (NU 64 x A)]
def kH (C:aK Prop) (ck yk:Nat ->List AV ->AH ->(AV ->AH ->Prop) ->Prop) (base:Nat) (k:T AV ->AH ->Prop) (mask:Nat) (d:Option Nat) (l:List DI) (ls:List (Nat×MG)) (pd:List (Nat×Nat×bC)) (τ:T AV):da ->Prop
 | .v x h=>kA C ck yk base k mask l ls pd (cj τ d x) h ls
 | .call f a h=>ck f a h λx h=>kA C ck yk base k mask l ls pd (cj τ d x) h ls
 | .yld o a h=>yk o a h λx h=>kA C ck yk base k mask l ls pd (cj τ d x) h ls
 | .alts q=>gQ C (λx h=>kA C ck yk base k mask l ls pd (cj τ d x) h ls) q
 | .bad=>C.fail
def ai0 {base mask d l ls pd τ x h}:kH C ck yk base k mask d l ls pd τ (.v x h)=kA C ck yk base k mask l ls pd (cj τ d x) h ls:=rfl
def ai1 {base mask d l ls pd τ f a h}:kH C ck yk base k mask d l ls pd τ (.call f a h)=ck f a h λx h=>kA C ck yk base k mask l ls pd (cj τ d x) h ls:=rfl
def OE {base i d op mask l ls pd τ h}:bW C ck yk base k (.heavy i ⟨d,op,none⟩ mask::l) ls pd τ h=kH C ck yk base k mask d l ls pd τ (step (az C τ) h op):=by
 rw[NT];unfold eY;dsimp only;cases step (az C τ) h op<;>rfl
def Ax (C:aK Prop) (ck yk:Nat ->List AV ->AH ->(AV ->AH ->Prop) ->Prop) (base:Nat) (k:T AV ->AH ->Prop) (mask:Nat) (d:Option Nat) (op:Eb) (w:Bool) (l:List DI) (ls:List (Nat×MG)) (pd:List (Nat×Nat×bC)) (τ:T AV) (h:AH):Option AV ->Prop
 |some (.b x)=>if x=w then kH C ck yk base k mask d l ls pd τ (step (az C τ) h op) else kA C ck yk base k mask l ls pd (cj τ d (.tu [])) h ls
 |some (.tu [])=>kA C ck yk base k mask l ls pd (cj τ d (.tu [])) h ls
 |_=>C.fail
def ai2 {base mask d op w l ls pd τ h x}:Ax C ck yk base k mask d op w l ls pd τ h (some (.b x))=if x=w then kH C ck yk base k mask d l ls pd τ (step (az C τ) h op) else kA C ck yk base k mask l ls pd (cj τ d (.tu [])) h ls:=rfl
def ai3 {base mask d op w l ls pd τ h}:Ax C ck yk base k mask d op w l ls pd τ h (some (.tu []))=kA C ck yk base k mask l ls pd (cj τ d (.tu [])) h ls:=rfl
def OF {base i d op t w mask l ls pd τ h}:bW C ck yk base k (.heavy i ⟨d,op,some (t,w)⟩ mask::l) ls pd τ h=Ax C ck yk base k mask d op w l ls pd τ h (τ.get t):=by
 rw[NT];unfold eY Ax;dsimp only;rcases τ.get t with _|y;rfl;cases y with
 |b x=>cases x<;>cases w<;>(cases step (az C τ) h op<;>rfl)
 |tu l=>cases l<;>rfl
 |_=>rfl
variable {n:Nat}
def ai4 {o a}:nice n (.p o a)=true:=by cases n<;>simp[nice]
def j9 {k x}:nice n (.i k x)=true:=by cases n<;>simp[nice]
def G7 {x}:nice n (.b x)=true:=by cases n<;>simp[nice]
def ye {x}:nice n (.s x)=true:=by cases n<;>simp[nice]
def ai5 {o a m c e}:nice n (.sl o a m c e)=true:=by cases n<;>simp[nice]
def ai6 {o}:nice n (.m o)=true:=by cases n<;>simp[nice]
def Dk:nice n .sn=true:=by cases n<;>simp[nice]
def ai7:nice n .pn=true:=by cases n<;>simp[nice]
def ai8:nice n .fnil=true:=by cases n<;>simp[nice]
def ai9:nice n .ifn=true:=by cases n<;>simp[nice]
def qe {l}:nice (n+1) (.ag l)=nice.niceL n l:=by simp[nice]
def aj0 {l}:nice (n+1) (.tu l)=nice.niceL n l:=by simp[nice]
def nN {l a m e}:nice (n+1) (.ds l a m e)=nice.niceL n l:=by simp[nice]
def fK {l a}:nice (n+1) (.dp l a)=nice.niceL n l:=by simp[nice]
def iq:nice.niceL n []=true:=by simp[nice.niceL]
def Bg {a l}:nice.niceL n (a::l)=(nice n a&&nice.niceL n l):=by simp[nice.niceL]
def aj1 {g a b}:nice (n+1) (.f g a b)=(nice.niceL n a&&nice.niceL n b):=by simp[nice]
def kQ (k:AV ->AH ->Prop) (h:AH):Option AV ->Prop
 |some v=>k v h
 |none=>False
def aj2 {k h v}:kQ k h (some v)=k v h:=rfl
def ke (hC:lQ C) {f args h k fn} (B:C.ae.get f=some fn):du C f args h k↔gG C fn.body (λe τ h=>match e with
 | .exit _=>False
 |_=>kQ k h (eZ τ h fn.res)) (oA args 0 .e) h:=by
 rw[ab9 hC B];constructor;refine Df hC λe τ h j=> ?_;cases e with
 |exit _=>exact j
 |_=>dsimp only at j ⊢;cases A:eZ τ h fn.res<;>(rw[A] at j;exact j)
 refine Df hC λe τ h j=> ?_;cases e with
 |exit _=>exact j
 |_=>dsimp only at j ⊢;cases A:eZ τ h fn.res<;>(rw[A] at j;exact j)
end
section
variable {C:aK Prop}
def dX (hC:lQ C):=ec (@Nn C hC)<|ec (@No C hC)<|ec (@Np C hC)<|ec (@Nr C hC)<|ec (@Ou C hC)<|ec (@Nt C hC)<|
 ec (@Nu C hC) (@Nv C hC)
def dE:=ec (@G6 C)<|ec (@Ot C)<|ec (@ac0 C)<|ec (@oD C)<|ec (@tB C)<|
 ec (@ac5 C)<|ec (@Ov C)<|ec (@OB C)<|ec (@OC C)<|ec (@OE C)<|ec (@OF C)<|ec (@Oy C)<|ec (@Oz C)<|
 ec (@ah8 C) (@OD C)
def dF:=ec (@ag9 C)<|ec (@ah0 C)<|ec (@ah1 C)<|ec (@ah2 C)<|ec (@ah3 C)<|ec (@ah4 C)<|ec (@Ow C)<|ec (@Ox C)<|
 ec (@OA C)<|ec (@ah6 C)<|ec (@ah7 C)<|ec (@ai0 C)<|ec (@ai1 C)<|ec (@ai2 C)<|ec (@ai3 C) (@ah9 C)
end
def dG:=ec (@ac3)<|ec (@ac4)<|ec (@T.get_put AV)<|ec (@T.get_put bC)<|ec (@tg) (@lJ)
def aj3:=ec nr<|ec Bool.true_eq_false<|ec @A7<|ec Si<|ec @ah5<|ec @aj2<|ec @decide_eq_true_eq<|ec @decide_eq_false_iff_not<|ec @jH<|ec @Bool.not_eq_false'<|ec jk Fy
def bI:=ec @Ny<|ec @Nz<|ec @NC<|ec @ND<|ec @NE<|ec @NF<|ec @NG<|ec @NH<|ec @NI<|
 ec @NJ<|ec @G1<|ec @NK<|ec @NL<|ec @NM<|ec @NW<|ec @NX<|ec @NY<|ec @NZ<|ec @Oa<|
 ec @Ob<|ec @Oc<|ec @Oe<|ec @Of<|ec @Og<|ec @yd<|ec @Oh<|
 ec @NN<|ec @DG<|ec @wC<|ec @NO<|ec @NP<|ec @NQ<|ec @NR<|ec @NS<|ec @pY<|
 ec @NV<|ec @uO<|ec @uP<|ec @tC<|ec @Oj<|ec @Ok<|ec @Ol<|ec @Oq<|ec @Om<|ec @On<|ec @Oo<|ec @G3<|ec @G4<|ec @G5<|ec @Aw<|
 ec @qR<|ec @Ei<|ec @bu<| @kZ
def aj4:=ec @ai4<|ec @j9<|ec @G7<|ec @ye<|ec @ai5<|ec @ai6<|ec @Dk<|ec @ai7<|ec @ai8<|ec @ai9<|ec @qe<|ec @aj0<|ec @nN<|ec @fK<|ec @aj1<|ec @iq @Bg
def aj5:=ec @ad7<|ec @wG<|ec @d9<|ec @ag8<|ec @ad9<|ec @ae0<|ec @ae1<|ec @ae2<|ec @ae3<|ec @ae4<|ec @ae5<|ec @ae6<|ec @ae7<|ec @ae8<|ec @ae9<|ec @af0<|ec @af1<|ec @af2<|ec @af3<|ec @af4<|ec @af5<|ec @af6<|ec @af7<|ec @af8<|ec @af9<|ec @ag0<|ec @ag1<|ec @ag2<|ec @ag3<|ec @ag4<|ec @ag5<|ec @ag6<|ec @ag7<|ec @ad6<|ec (@gJ AV) (@ji AV)
attribute [go_sem] eq_self decide_true decide_false Nat.testBit not_true_eq_false not_false_eq_true Option.getD_some Nat.add_zero Nat.zero_add Nat.zero_mul Nat.one_mul Nat.mul_one Option.map_some List.nil_append List.append_nil List.cons_append and_self cond_true cond_false List.getElem?_cons_zero List.getElem?_cons_succ aj3 aj5 aj4 oA Cw
def deep:Nat ->AH ->AV ->Option AV
 |_,_,.b x=>some (.b x)
 |_,_,.i k n=>some (.i k n)
 |_,_,.s l=>some (.s l)
 |_,_,.pn=>some .pn
 |_,_,.sn=>some .sn
 |_,_,.mn=>some .mn
 |_,_,.fnil=>some .fnil
 |_,_,.ifn=>some .ifn
 |_,_,.un=>some .un
 |n+1,h,.p o off=>match h.oB.get o with
  |some (.cells _ l)=>match eM (deep n h) l with|some l=>some (.dp l off)|none=>none
  |_=>none
 |n+1,h,.sl o off len _ esz=>match h.oB.get o with
  |some (.cells _ l)=>match eM (deep n h) l with|some l=>some (.ds l off len esz)|none=>none
  |_=>none
 |n+1,h,.dp l off=>match eM (deep n h) l with|some l=>some (.dp l off)|none=>none
 |n+1,h,.ds l off len esz=>match eM (deep n h) l with|some l=>some (.ds l off len esz)|none=>none
 |n+1,h,.f fn a b=>match eM (deep n h) a,eM (deep n h) b with|some a,some b=>some (.f fn a b)|_,_=>none
 |n+1,h,.ifc t v=>match deep n h v with|some v=>some (.ifc t v)|none=>none
 |n+1,h,.ag l=>match eM (deep n h) l with|some l=>some (.ag l)|none=>none
 |n+1,h,.tu l=>match eM (deep n h) l with|some l=>some (.tu l)|none=>none
 |_,_,_=>none
abbrev bJ (n:Nat) (h:AH) (l:List AV):Option (List AV):=eM (deep n h) l
def bZ {n h}:bJ n h []=some []:=rfl
def aL {n h a l}:bJ n h (a::l)=(match deep n h a,bJ n h l with|some a,some l=>some (a::l)|_,_=>none):=by
 unfold bJ;rw[lJ];generalize deep n h a=x;generalize eM (deep n h) l=y;cases x<;>cases y<;>rfl
section
variable {CR:Nat ->Code ->aw ->Prop}
def yf {c c2 h w} (ro:∀o ver l,dU c h o (.cells ver l) ->gR CR c w o (.cells ver l)) (h1:∀b row,c.im b=some row ->c2.im b=some row)
 (h2:∀o ver l,dU c h o (.cells ver l) ->∀row t V,w.heap[(c.ρ o).1]? =some (.cells row t V) ->c2.im (c.ρ o).1=some row):∀n,
 (∀a d v,deep n h a=some d ->VR c a v ->VR c2 d v)/\ (∀l d vs,bJ n h l=some d ->bX c l vs ->bX c2 d vs):=by
 intro n;induction n with
 |zero=>
  have one:∀a d v,deep 0 h a=some d ->VR c a v ->VR c2 d v:=by
   intro a d v hd j;cases a<;>first|(simp only[deep] at hd;cases hd;done)|skip
   all_goals (simp only[deep,jI] at hd;subst hd;cases j;constructor;try assumption)
  refine⟨one,?_⟩;intro l;induction l with
  |nil=>intro d vs hd j;rw[bZ,jI] at hd;subst hd;cases j;exact .nil
  |cons a l L=>
   intro d vs hd j;cases j with
   |cons _ _ v vs e1 e2=>
    rw[aL] at hd;split at hd;rename_i U l' E H;cases hd;exact .cons _ _ _ _ (one _ _ _ E e1) (L _ _ H e2);cases hd
 |succ n L=>
  obtain⟨_,B⟩:=L;have one:∀a d v,deep (n+1) h a=some d ->VR c a v ->VR c2 d v:=by
   intro a d v hd j;cases a with
   |p o D=>
    simp only[deep] at hd;split at hd;rename_i ver l N;split at hd;rename_i l' J;cases hd;cases j with
    |p _ _ G=>
     have hh:dU c h o (.cells ver l):=⟨N,rfl,G⟩;obtain⟨row,t,lo,hi,vs,e1,e2,e3,e4,e5,e6⟩:=ro _ _ _ hh;exact .dp l' D _ _ row vs (h2 o ver l hh row t _ e1) e5 (B _ _ _ J e4)
    cases hd;cases hd
   |sl o D len cap esz=>
    simp only[deep] at hd;split at hd;rename_i ver l N;split at hd;rename_i l' J;cases hd;cases j with
    |sl _ _ _ _ _ A m G hcap hle ha hz=>
     have hh:dU c h o (.cells ver l):=⟨N,rfl,G⟩;obtain⟨row,t,lo,hi,vs,e1,e2,e3,e4,e5,e6⟩:=ro _ _ _ hh;exact .ds l' D len esz _ _ m A row vs (h2 o ver l hh row t _ e1) e5 (B _ _ _ J e4) hle (λxt=>ha ω)
    cases hd;cases hd
   |dp l D=>
    simp only[deep] at hd;split at hd;rename_i l' J;cases hd;cases j with
    |dp _ _ I base row vs E H O=>exact .dp l' D I base row vs (h1 _ _ E) H (B _ _ _ J O)
    cases hd
   |ds l D len esz=>
    simp only[deep] at hd;split at hd;rename_i l' J;cases hd;cases j with
    |ds _ _ _ _ I base m A row vs E H O q4 q5=>exact .ds l' D len esz I base m A row vs (h1 _ _ E) H (B _ _ _ J O) q4 q5
    cases hd
   |f fn x y=>
    simp only[deep] at hd;split at hd;rename_i R Z e1 e2;cases hd;cases j with
    |f _ _ _ Y W E H=>exact .f fn R Z Y W (B _ _ _ e1 E) (B _ _ _ e2 H)
    cases hd
   |ifc t x=>
    simp only[deep] at hd;split at hd;rename_i R e1;cases hd;cases j with
    |ifc _ _ v' E=>exact .ifc t R v' (‹∀a d v,deep n h a=some d ->VR c a v ->VR c2 d v› _ _ _ e1 E)
    cases hd
   |ag l=>
    simp only[deep] at hd;split at hd;rename_i l' e1;cases hd;cases j with
    |ag _ vs E=>exact .ag l' vs (B _ _ _ e1 E)
    cases hd
   |tu l=>
    simp only[deep] at hd;split at hd;rename_i l' e1;cases hd;cases j with
    |tu _ vs E=>exact .tu l' vs (B _ _ _ e1 E)
    cases hd
   |m o=>simp only[deep] at hd;cases hd
   |y o=>simp only[deep] at hd;cases hd
   |_=>simp only[deep,jI] at hd;subst hd;cases j;constructor;try assumption
  refine⟨one,?_⟩;intro l;induction l with
  |nil=>intro d vs hd j;rw[bZ,jI] at hd;subst hd;cases j;exact .nil
  |cons a l L=>
   intro d vs hd j;cases j with
   |cons _ _ v vs e1 e2=>
    rw[aL] at hd;split at hd;rename_i U l' E H;cases hd;exact .cons _ _ _ _ (one _ _ _ E e1) (L _ _ H e2);cases hd
end
def fL (w:World) (b:Nat):Option (Array Value):=match w.heap[b]? with|some (.cells row _ _)=>some row|_=>none
def Dl {w b row} (h:fL w b=some row):∃t j,w.heap[b]? =some (.cells row t j):=by
 grind[fL]
def qS {w b row t j} (h:w.heap[b]? =some (.cells row t j)):fL w b=some row:=by
 unfold fL;rw[h]
def h0:AH:=⟨0,0,.e⟩
def G8 o:h0.oB.get o=none:=rfl
variable {c:CE}
def rY {o ob} (h:dU c h0 o ob):False:=by have:=h.get;rw[G8] at this;cases this
def kI:Nat ->AV ->Bool
 |_,.b _|_,.i _ _|_,.s _|_,.pn|_,.sn|_,.mn|_,.fnil|_,.ifn=>true
 |n+1,.ag l=>flatL n l
 |n+1,.tu l=>flatL n l
 |_,_=>false
 where flatL (n:Nat):List AV ->Bool
 |[]=>true
 |a::l=>kI n a&&flatL n l
def OG {c2}:∀n,(∀a v,kI n a=true ->VR c a v ->VR c2 a v)/\ (∀l vs,kI.flatL n l=true ->bX c l vs ->bX c2 l vs):=by
 intro n;induction n with
 |zero=>
  have one:∀a v,kI 0 a=true ->VR c a v ->VR c2 a v:=by
   intro a v j A;cases a<;>first|(simp only[kI] at j;cases j;done)|skip
   all_goals (cases A;constructor;try assumption)
  refine⟨one,?_⟩;intro l;induction l with
  |nil=>intro vs _ A;cases A;exact .nil
  |cons a l B=>intro vs j A;simp only[kI.flatL,aB] at j;cases A with|cons _ _ v vs e1 e2=>exact .cons _ _ _ _ (one _ _ j.1 e1) (B _ j.2 e2)
 |succ n B=>
  obtain⟨_,D⟩:=B;have one:∀a v,kI (n+1) a=true ->VR c a v ->VR c2 a v:=by
   intro a v j A;cases a with
   |ag l=>simp only[kI] at j;cases A with|ag _ vs q=>exact .ag l vs (D _ _ j q)
   |tu l=>simp only[kI] at j;cases A with|tu _ vs q=>exact .tu l vs (D _ _ j q)
   |_=>first|(simp only[kI] at j;cases j;done)|(cases A;constructor;try assumption)
  refine⟨one,?_⟩;intro l;induction l with
  |nil=>intro vs _ A;cases A;exact .nil
  |cons a l B=>intro vs j A;simp only[kI.flatL,aB] at j;cases A with|cons _ _ v vs e1 e2=>exact .cons _ _ _ _ (one _ _ j.1 e1) (B _ j.2 e2)
section
variable (P:Program) (X:aR) (GL:T (List AV))
def bP (f:Nat) (args:List AV) (h:AH) (v:AV) (h':AH):Prop:=
 ∀c w vs,RS (dJ X) c h w ->(∀g l,GL.get g=some l ->c.gl g=some l) ->bX c args vs ->
  mJ P ((callFunc f vs.toArray).run P w) λv' A=>∃j,cH (dJ X) c h w j h' A/\ VR j v v'
def P7 (f:Nat) (args:List AV) (h:AH) (l:List (AV×AH)):Prop:=
 ∀c w vs,RS (dJ X) c h w ->(∀g l,GL.get g=some l ->c.gl g=some l) ->bX c args vs ->
  mJ P ((callFunc f vs.toArray).run P w) λv' A=>∃p∈l,∃j,cH (dJ X) c h w j p.2 A/\ VR j p.1 v'
def tD (ae:T au):aK Prop where
 ae:=ae
 gL:=GL
 spec:=λf args h k fb=>(∃l:List (AV×AH),(∀p∈l,k p.1 p.2)/\ P7 P X GL f args h l)∨fb
 fail:=False
 both:=And
end
variable {P:Program} {X:aR} {GL:T (List AV)} {ae:T au}
def Dm:lQ (tD P X GL ae) where
 fail:=rfl
 both:=λ_ _=>rfl
 spec:=λf args h F hF=>by
  have e1:SC (α:=AV×AH) (λk=>∃l:List (AV×AH),(∀p∈l,k (p.1,p.2))/\ P7 P X GL f args h l):=
   SC.ex (F:=λ(l:List (AV×AH)) k=>(∀p∈l,k (p.1,p.2))/\ P7 P X GL f args h l) λl=>SC.and (SC.all l) (SC.const _)
  exact SC.or e1 hF
 fb:=λf args h k p q A j=>j.imp id A
 fbc:=λf args h k p j=>by
  rcases j with j|⟨n,j⟩;exact⟨0,.inl j⟩;exact⟨n,.inr j⟩
structure aT (P:Program) (X:aR) (GL:T (List AV)) (ae:T au):Prop where
 mixed:P.follows .mixedOrders=true
 ctx:j7 P X
 ae:∀f m,ae.get f=some m ->av8 P X f m
 bn:∀f∈X.bn,CX P f
 gl:∀g l,GL.get g=some l ->kI.flatL 0 l=true
def aT.sound (h:aT P X GL ae):rV P X (tD P X GL ae) where
 mixed:=h.mixed
 cfg:=Dm.toCfgOK
 ctx:=h.ctx
 ae:=h.ae
 bn:=h.bn
 spec:=λf args hh k fb E=>E.imp (λ⟨l,h1,h2⟩ c w vs rs gl hv=>by
  refine mJ.mono (h2 c w vs rs gl hv) ?_;rintro v' G ⟨p,D,j,A,B⟩;exact⟨p.1,p.2,j,h1 p D,A,B⟩) id
variable {h:AH} {args:List AV}
def aw0 {f k fb} (E:(∃v h',k v h'/\ bP P X GL f args h v h')∨fb):(tD P X GL ae).spec f args h k fb:=
 E.imp (λ⟨v,h',hk,hc⟩=>⟨[(v,h')],λp D=>by cases yC.1 D;exact hk,λc w vs rs gl G=>by
  refine mJ.mono (hc c w vs rs gl G) ?_;rintro v' H ⟨j,A,B⟩;exact⟨(v,h'),yC.2 rfl,j,A,B⟩⟩) id
def aj6 {f h' v k} (hc:bP P X GL f args h v h') (hk:k v h'):g9 (tD P X GL ae) f args h k:=
 (Nw Dm).2 (aw0 (.inl ⟨v,h',hk,hc⟩))
def bW6 {f l k} (hc:P7 P X GL f args h l) (hk:∀p∈l,k p.1 p.2):g9 (tD P X GL ae) f args h k:=
 (Nw Dm).2 (.inl ⟨l,hk,hc⟩)
def aj7 {f k} (hc:du (tD P X GL ae) f args h k):g9 (tD P X GL ae) f args h k:=
 (Nw Dm).2 (.inr hc)
structure Sem (P:Program) (X:aR) (GL:T (List AV)) (ae:T au) (C:aK Prop):Prop where
 ok:lQ C
 ae:C.ae=ae
 cN:∀{f:Nat} {args:List AV} {h h':AH} {v:AV} {k:AV ->AH ->Prop},bP P X GL f args h v h' ->k v h' ->g9 C f args h k
 conL:∀{f:Nat} {args:List AV} {h:AH} {l:List (AV×AH)} {k:AV ->AH ->Prop},P7 P X GL f args h l ->(∀p∈l,k p.1 p.2) ->g9 C f args h k
 run:∀{f:Nat} {args:List AV} {h:AH} {k:AV ->AH ->Prop},du C f args h k ->g9 C f args h k
def aj8:Sem P X GL ae (tD P X GL ae):=⟨Dm,rfl,aj6,bW6,aj7⟩
theorem Sem.get {C:aK Prop} (E:Sem P X GL ae C) {f m} (h:ae.get f=some m):C.ae.get f=some m:=by rw[E.ae];exact h
def bg (P:Program) (X:aR) (GL:T (List AV)) (ae:T au) (f:Nat) (args:List AV) (d:AV):Prop:=
 du (tD P X GL ae) f args h0 λx h=>∃n,deep n h x=some d
def bg.intro {f d} (h:∀C,Sem P X GL ae C ->du C f args h0 λx h=>∃n,deep n h x=some d):bg P X GL ae f args d:=h _ aj8
def CE.only (c:CE) (im:Nat ->Option (Array Value)) (GL:T (List AV)):CE:={ dM:=λ_=>False,ρ:=c.ρ,sz:=c.sz,im:=im,gl:=GL.get }
def RS.only {w} (r:RS (dJ X) c h w) (gl:∀g l,GL.get g=some l ->c.gl g=some l) (B:∀g l,GL.get g=some l ->kI.flatL 0 l=true)
 {im} (h1:∀b row,im b=some row ->∃t A,w.heap[b]? =some (.cells row t A)) (h2:∀b row,c.im b=some row ->im b=some row):RS (dJ X) (c.only im GL) h0 w where
 nx:=λo h=>h.elim
 lt:=λo ob h=>by rw[G8] at h;cases h
 obj:=λo ob h=>(rY h).elim
 inj:=λo D a b h=>(rY h).elim
 im:=h1
 dj:=λo ob h=>(rY h).elim
 gl:=λg l j=>by
  obtain⟨row,vs,e1,e2,e3⟩:=r.gl g l (gl g l j);exact⟨row,vs,h2 _ _ e1,e2,(OG 0).2 _ _ (B g l j) e3⟩
variable (S:aT P X GL ae)
def G9 {f d} (G:bg P X GL ae f args d) {w vs} (rs:RS (dJ X) c h0 w) (gl:∀g l,GL.get g=some l ->c.gl g=some l) (I:bX c args vs)
 {K} (E:∀v' B x h1 c1 n,deep n h1 x=some d ->cH (dJ X) c h0 w c1 h1 B ->VR c1 x v' ->K v' B):mJ P ((callFunc f vs.toArray).run P w) K:=by
 obtain⟨n,H⟩:=G;obtain⟨fn,b,e1,e2,e3,e4⟩:=Db S.sound (Qh S.sound n).1 H rs gl I;rw[Da e1 e2 e3];refine vN e4 λe B D=> ?_;cases e with
 |returned v=>
  obtain⟨x,h1,c1,⟨m,hd⟩,j,A⟩:=D;exact E _ _ _ _ _ _ hd j A
 |_=>exact D.elim
def Ha {c1 h1 w A} (j:cH (dJ X) c h0 w c1 h1 A) {b} (hb:b<w.heap.size):A.heap[b]? =w.heap[b]? :=
 j.keep.same b hb λo ob B=>(rY B).elim
def CE.fix (c:CE) (w j:World):CE:={ c with im:=λb=>match c.im b with|some row=>some row|none=>if w.heap.size<=b then fL j b else none }
def CE.fix_ext c w j:gE c (c.fix w j):=⟨λ_ h=>h,λ_ _=>rfl,λ_ _=>rfl,λb row h=>by simp[CE.fix,h],rfl⟩
def Hb {w E} (r:RS (dJ X) c h w) (I:w.heap.size<=E.heap.size) (D:∀b,b<w.heap.size ->E.heap[b]? =w.heap[b]?) (N:E.os=w.os/\ E.output=w.output):cH (dJ X) c h w (c.fix w E) h E:=by
 have H:=c.fix_ext w E;refine⟨H,⟨r.nx,r.lt,λo ob A=> ?_,λo O a b A B=>r.inj o O a b ⟨A.get,A.live,A.dM⟩ ⟨B.get,B.live,B.dM⟩,λb row hb=> ?_,λo ob A=> ?_,λg l L=> ?_⟩,
  ⟨I,λb hb _=>D b hb,λo ob A=> .inr ⟨o,ob,⟨A.get,A.live,A.dM⟩,rfl⟩,λo A=> .inl A,bB _,λb row hb=> ?_,λo _ hd=>hd,N⟩⟩
 have B:dU c h o ob:=⟨A.get,A.live,A.dM⟩;exact(r.obj o ob B).mono H B.dM (D _ ((r.obj o ob B).lt B.live));have j:(match c.im b with|some row=>some row|none=>if w.heap.size<=b then fL E b else none)=some row:=hb;cases hc:c.im b with
 |some G=>
  rw[hc] at j;cases j;obtain⟨t,J,e⟩:=r.im b _ hc;exact⟨t,J,by rw[D b (r.im_lt hc)];exact e⟩
 |none=>
  rw[hc] at j;dsimp only at j;split at j;exact Dl j;cases j
 have B:dU c h o ob:=⟨A.get,A.live,A.dM⟩;show(match c.im (c.ρ o).1 with|some row=>some row|none=>if w.heap.size<=(c.ρ o).1 then fL E (c.ρ o).1 else none)=none;rw[r.dj o ob B];dsimp only;rw[aD (by have:=(r.obj o ob B).lt B.live;omega)];obtain⟨row,vs,e1,e2,e3⟩:=r.gl g l L;exact⟨row,vs,H.im _ _ e1,e2,e3.mono H⟩;have j:(match c.im b with|some row=>some row|none=>if w.heap.size<=b then fL E b else none)=some row:=hb;cases hc:c.im b with
 |some G=>rw[hc] at j;cases j;exact .inl rfl
 |none=>
  rw[hc] at j;dsimp only at j;split at j;omega;cases j
def dR {f d} (R:bg P X GL ae f args d) {n} (N:bJ n h0 args=some args) h:bP P X GL f args h d h:=by
 intro c w vs r gl U;have r0:RS (dJ X) (c.only c.im GL) h0 w:=r.only gl S.gl r.im (λ_ _ h=>h);have A:bX (c.only c.im GL) args vs:=
  (yf (CR:=dJ X) (c:=c) (h:=h0) (w:=w) (c2:=c.only c.im GL) (λo ver l hh=>(rY hh).elim) (λ_ _ h=>h) (λo ver l hh=>(rY hh).elim) n).2 _ _ _ N U
 refine G9 S R r0 (λg l h=>h) A λv' D x h1 c1 m hd j G=>⟨c.fix w D,Hb r j.keep.size (λb hb=>Ha j hb) j.keep.io,?_⟩;refine(yf (CR:=dJ X) (c:=c1) (h:=h1) (w:=D) (c2:=c.fix w D) (λo ver l hh=>j.rs.obj _ _ hh) (λb row hb=> ?_) (λo ver l hh row t J L=> ?_) m).1 _ _ _ hd G;show(match c.im b with|some row=>some row|none=>if w.heap.size<=b then fL D b else none)=some row;rcases j.keep.im b row hb with e|e|⟨o,ob,O,_⟩;have I:c.im b=some row:=e;rw[I];have E:c.im b=none:=by
  rcases hc:c.im b with _|B;rfl;have:=r.im_lt hc;omega
 rw[E];dsimp only;rw[aF e];obtain⟨t,J,e2⟩:=j.rs.im b row hb;exact qS e2;exact(rY O).elim;show(match c.im (c1.ρ o).1 with|some row=>some row|none=>if w.heap.size<=(c1.ρ o).1 then fL D (c1.ρ o).1 else none)=some row;rcases j.keep.new o _ hh with e|⟨V,ob',H,_⟩;have E:c.im (c1.ρ o).1=none:=by
  rcases hc:c.im (c1.ρ o).1 with _|B;rfl;have:=r.im_lt hc;omega
 rw[E];dsimp only;rw[aF e];exact qS L;exact(rY H).elim
def oE {f j d} (L:bg P X GL ae f j d) {n m} (J:bJ n h args=some j) (hd:kI m d=true):bP P X GL f args h d h:=by
 intro c w vs r gl N;have r0:RS (dJ X) (c.only (fL w) GL) h0 w:=r.only gl S.gl (λb row hb=>Dl hb) (λb row hb=>by obtain⟨t,D,e⟩:=r.im b row hb;exact qS e);have B:bX (c.only (fL w) GL) j vs:=
  (yf (CR:=dJ X) (c:=c) (h:=h) (w:=w) (c2:=c.only (fL w) GL) (λo ver l hh=>r.obj _ _ hh) (λb row hb=>by obtain⟨t,D,e⟩:=r.im b row hb;exact qS e)
   (λo ver l hh row t D G=>qS G) n).2 _ _ _ J N
 refine G9 S L r0 (λg l h=>h) B λv' E x h1 c1 k H A I=>⟨c.fix w E,Hb r A.keep.size (λb hb=>Ha A hb) A.keep.io,?_⟩;have h2:VR (c1.only (fL E) GL) d v':=(yf (CR:=dJ X) (c:=c1) (h:=h1) (w:=E) (c2:=c1.only (fL E) GL) (λo ver l hh=>A.rs.obj _ _ hh) (λb row hb=>by obtain⟨t,D,e⟩:=A.rs.im b row hb;exact qS e)
  (λo ver l hh row t D G=>qS G) k).1 _ _ _ H I
 exact(OG m).1 _ _ hd h2
section
variable {κ ν:Type} [DecidableEq κ] (ek:κ ->AV) (en:ν ->AV)
def di:Nat ->List (κ×ν) ->List (AV×AV×Nat)
 |_,[]=>[]
 |i,(k,v)::r=>(ek k,en v,i)::di (i+1) r
def look (k:κ):List (κ×ν) ->Option ν
 |[]=>none
 |(k',v)::r=>if k=k' then some v else look k r
def ups (k:κ) (v:ν):List (κ×ν) ->List (κ×ν)
 |[]=>[(k,v)]
 |(k',v')::r=>if k=k' then (k,v)::r else (k',v')::ups k v r
structure rZ (et:ET):Prop where
 eq:∀k k',eH 6 et (ek k) (ek k')=some (decide (k=k'))
 q:∀k,En et (ek k)=true
 self:∀k,o9 (ek k) (ek k)=true
variable {ek en}
def OH {t k e l}:jx t k (e::l)=(match eH 6 t k e.1 with
 |some true=>some (some e)
 |some false=>jx t k l
 |none=>none):=rfl
def Ay {et} (hk:rZ ek et) k:∀l i,∃r,jx et (ek k) (di ek en i l)=some r/\ (match r with|none=>look k l=none|some e=>∃v j,e=(ek k,en v,i+j)/\ look k l=some v/\ j<l.length)
 |[],i=>⟨none,rfl,rfl⟩
 |(k',v)::r,i=>by
  simp only[di];rw[OH,hk.eq];by_cases e:k=k';subst e;refine⟨some (ek k,en v,i),by simp,v,0,by simp,by simp[look],by simp⟩;obtain⟨q,h1,h2⟩:=Ay hk k r (i+1);refine⟨q,by simp[e,h1],?_⟩;rcases q with _|x;simpa[look,e] using h2;obtain⟨v',j,A,B,D⟩:=h2;exact⟨v',j+1,by rw[A];simp;omega,by simpa[look,e] using B,by simp;omega⟩
def OI:∀l m i,di ek en i (l++m)=di ek en i l++di ek en (i+l.length) m
 |[],m,i=>by simp[di]
 |(k,v)::r,m,i=>by simp[di,OI r m (i+1)];congr 1;omega
def yg:∀{l:List (κ×ν)} {k v},look k l=none ->ups k v l=l++[(k,v)]
 |[],_,_,_=>rfl
 |(k',v')::r,k,v,h=>by
  by_cases e:k=k';simp[look,e] at h;simp only[look,aD e] at h;simp[ups,e,yg h]
def OJ {b x y e t}:mF b x y (e::t)=(bif Nat.beq e.2.2 b then some ((x,y,e.2.2)::t) else match mF b x y t with|some t=>some (e::t)|none=>none):=rfl
def OL {et} (hk:rZ ek et) {k v}:∀{l i j w},jx et (ek k) (di ek en i l)=some (some (ek k,en w,i+j)) ->look k l=some w ->mF (i+j) (ek k) (en v) (di ek en i l)=some (di ek en i (ups k v l))
 |[],_,_,_,h,_=>by simp[di,jx] at h
 |(k',v')::r,i,j,w,h,hl=>by
  simp only[di] at h ⊢;rw[OH,hk.eq] at h;by_cases e:k=k';subst e;simp at h;obtain⟨h1,h2⟩:=h;subst h2;rw[OJ];simp[ups,di];simp only[e,decide_false] at h;simp only[look,aD e] at hl;obtain⟨q,h1,h2⟩:=Ay (en:=en) hk k r (i+1);rw[h1] at h;cases h;obtain⟨B,A,D,E,L⟩:=h2;have G:j=A+1:=by
   have:=congrArg (λx=>x.2.2) D;simp at this;omega
  subst G;have H:w=B:=by rw[hl] at E;exact gC E
  subst H;have I:=OL hk (v:=v) (l:=r) (i:=i+1) (j:=A) (w:=w) (by rw[h1,D]) hl;rw[OJ];have J:Nat.beq i (i+(A+1))=false:=by rw[bu];simp
  simp only[J,eU];rw[show i+(A+1)=i+1+A by omega,I];simp[ups,e,di]
def OM:∀{l:List (κ×ν)} {k v w},look k l=some w ->(ups k v l).length=l.length
 |[],_,_,_,h=>by simp[look] at h
 |(k',v')::r,k,v,w,h=>by
  by_cases e:k=k';simp[ups,e];simp only[look,aD e] at h;simp[ups,e,OM h]
def oF (en:ν ->AV) (z:AV):Option ν ->AV
 |some v=>en v
 |none=>z
def Bb (en:ν ->AV) (z:AV):Option ν ->AV
 |some v=> .tu [en v,.b true]
 |none=> .tu [z,.b false]
def yh (ek:κ ->AV) (en:ν ->AV) (h:AH) (o:Nat) (l:List (κ×ν)):Prop:=∃ver,h.oB.get o=some (.map ver (di ek en 0 l) l.length)
section
variable {ev:MA ->AV} {h:AH} {et:ET} (hk:rZ ek et) {o:Nat} {l:List (κ×ν)} (hm:yh ek en h o l) {m q x:MA} {k:κ} (e1:ev m= .m o) (e2:ev q=ek k)
include hk hm e1 e2
theorem sd {z}:step ev h (.look et m q z false)= .v (oF en z (look k l)) h:=by
 obtain⟨ver,E⟩:=hm;show(bif !(En et (ev q)) then da.bad else
  match (match ev m with
   | .mn=>some none
   | .m o=>match h.get o with|some (.map _ es _)=>jx et (ev q) es|_=>none
   |_=>none) with
  |some (some e)=>(Bool.rec (da.v e.2.1 h) (da.v (.tu [e.2.1,.b true]) h) false:da)
  |some none=>(Bool.rec (da.v z h) (da.v (.tu [z,.b false]) h) false:da)
  |none=>da.bad)=_
 rw[e1,e2,hk.q];have A:h.get o=some (.map ver (di ek en 0 l) l.length):=E;simp only[jk,eU,A];obtain⟨r,h1,h2⟩:=Ay (en:=en) hk k l 0;rw[h1];rcases r with _|e;rw[h2];rfl;obtain⟨v,j,B,D,_⟩:=h2;rw[D,B];rfl
theorem uQ {z}:step ev h (.look et m q z true)= .v (Bb en z (look k l)) h:=by
 obtain⟨ver,E⟩:=hm;show(bif !(En et (ev q)) then da.bad else
  match (match ev m with
   | .mn=>some none
   | .m o=>match h.get o with|some (.map _ es _)=>jx et (ev q) es|_=>none
   |_=>none) with
  |some (some e)=>(Bool.rec (da.v e.2.1 h) (da.v (.tu [e.2.1,.b true]) h) true:da)
  |some none=>(Bool.rec (da.v z h) (da.v (.tu [z,.b false]) h) true:da)
  |none=>da.bad)=_
 rw[e1,e2,hk.q];have A:h.get o=some (.map ver (di ek en 0 l) l.length):=E;simp only[jk,eU,A];obtain⟨r,h1,h2⟩:=Ay (en:=en) hk k l 0;rw[h1];rcases r with _|e;rw[h2];rfl;obtain⟨v,j,B,D,_⟩:=h2;rw[D,B];rfl
theorem mL {v} (e3:ev x=en v):step ev h (.mupd et m q x)= .v .un ⟨h.next,h.ver+1,h.oB.put o (.map (h.ver+1) (di ek en 0 (ups k v l)) (ups k v l).length)⟩:=by
 obtain⟨ver,H⟩:=hm;have D:h.get o=some (.map ver (di ek en 0 l) l.length):=H;have I:step ev h (.mupd et m q x)=(bif !(En et (ev q)) then .bad else match ev m with
  | .m o=>match h.get o with
   |some (.map _ A B)=>fV (ev q) λk=>fV (ev x) λx=>match jx et k A with
    |some (some e)=>bif o9 k e.1 then (match mF e.2.2 k x A with
     |some A=>h.put o (.map (Nat.succ h.ver) A B) λh=>da.v .un h
     |none=> .bad) else .bad
    |some none=>match fy A [(k,x,B)] with
     |some A=>fN B λB=>h.put o (.map (Nat.succ h.ver) A (Nat.succ B)) λh=>da.v .un h
     |none=> .bad
    |none=> .bad
   |_=> .bad
  |_=> .bad):=rfl
 rw[I,e1,e2,hk.q];simp only[jk,eU,D,jK,e3,dT,AH.put_eq,jz];obtain⟨r,h1,h2⟩:=Ay (en:=en) hk k l 0;rw[h1];rcases r with _|e;have e:ups k v l=l++[(k,v)]:=yg h2;rw[e,OI];simp[di];obtain⟨w,j,G,E,L⟩:=h2;subst G;have J:=OL (en:=en) hk (v:=v) (i:=0) h1 E;simp only[hk.self,fC,J];rw[OM E]
end
end
def Az {k}:rZ (λn:Int=>AV.i k n) (.lf .i) where
 eq:=λa b=>by show(bif gZ k k then some (eO a b) else none)=_;rw[Dh,A3];rfl
 q:=λ_=>rfl
 self:=λa=>by show(gZ k k&&eO a a)=true;rw[Dh,A3];simp
def Hc:rZ (λn:List Nat=>AV.s n) (.lf .s) where
 eq:=λa b=>by show some (nF a b)=_;rw[mH]
 q:=λ_=>rfl
 self:=λa=>by show nF a a=true;rw[mH];simp
def e3 (x:Int×Int×Int):AV:= .ag [.i .i64 x.1,.i .i64 x.2.1,.i .i64 x.2.2]
def t3:ET:= .ag [(0,1,false,.lf .i),(1,1,false,.lf .i),(2,1,false,.lf .i)]
def Hd:rZ e3 t3 where
 eq:=λa b=>by
  obtain⟨a1,a2,a3⟩:=a;obtain⟨j,b2,b3⟩:=b;have h:eH 6 t3 (e3 (a1,a2,a3)) (e3 (j,b2,b3))=(match (some (eO a1 j):Option Bool) with
   |some true=>(match (some (eO a2 b2):Option Bool) with
    |some true=>(match (some (eO a3 b3):Option Bool) with
     |some true=>some true
     |r=>r)
    |r=>r)
   |r=>r):=rfl
  rw[h,A3,A3,A3];by_cases h1:a1=j<;>by_cases h2:a2=b2<;>by_cases A:a3=b3<;>simp[h1,h2,A]
 q:=λa=>by
  obtain⟨a1,a2,a3⟩:=a;have h:En t3 (e3 (a1,a2,a3))=(match (match (some (eO a1 a1):Option Bool) with
   |some true=>(match (some (eO a2 a2):Option Bool) with
    |some true=>(match (some (eO a3 a3):Option Bool) with
     |some true=>some true
     |r=>r)
    |r=>r)
   |r=>r) with|some true=>true|_=>false):=rfl
  rw[h,A3,A3,A3];simp
 self:=λa=>by
  obtain⟨a1,a2,a3⟩:=a;have h:o9 (e3 (a1,a2,a3)) (e3 (a1,a2,a3))=((gZ .i64 .i64&&eO a1 a1)&&((gZ .i64 .i64&&eO a2 a2)&&((gZ .i64 .i64&&eO a3 a3)&&true))):=rfl;rw[h,A3,A3,A3];simp[gZ]
section
variable {ev:MA ->AV} {h:AH} {s x:MA} {esz b:Nat}
def ON:step ev h (.app s x esz b)=(match ij (ev x),eI h esz (ev x) with
 |some n,some l=>gD h (ev s) n l esz
 |_,_=> .bad):=rfl
def wH {o j n cap l r} (h1:h.cells o=some l) (h2:sub l j (n*esz)=some r):eI h esz (.sl o j n cap esz)=some r:=by
 show(bif Nat.beq esz esz then (match h.cells o with|some l=>sub l j (n*esz)|none=>none) else none)=_;rw[bu,h1];simpa using h2
def mM {l:List AV} {n} (h:l.length=n):sub l 0 n=some l:=by
 rw[nH,aF ω];simp[←h]
def He {o n o2 L new} (e1:ev s= .sl o 0 n none esz) (h1:h.cells o=some L) (A:L.length=n*esz) (e2:ev x= .sl o2 0 1 (some 1) esz) (h2:h.cells o2=some new) (D:new.length=esz)
 (B:wV new=true) (hb:n+1<=1048576):step ev h (.app s x esz b)= .v (.sl h.next 0 (n+1) none esz) ⟨h.next+1,h.ver+1,(h.oB.put o .gone).put h.next (.cells (h.ver+1) (L++new))⟩:=by
 rw[ON,e1,e2,wH h2 (mM ω)];show gD h (.sl o 0 n none esz) 1 new esz=_;have e:gD h (.sl o 0 n none esz) 1 new esz=(match h.cells o with
  |none=>da.bad
  |some l=>fN (n+1) λj=>bif !(Nat.beq esz esz&&(Nat.ble j 1048576&&wV new)) then da.bad else
   match sub l 0 (n*esz) with
    |some old=>match fy old new with
     |some l=>h.put o .gone λh=>h.new (.cells h.ver l) λo h=> .v (.sl o 0 j none esz) h
     |none=>da.bad
    |none=>da.bad):=rfl
 rw[e,h1];simp only[dT,bu,wX,hb,B,mC,A7,jk,eU,mM A,jz,AH.put_eq,AH.new_eq]
def Hf {o2 new} (e1:ev s= .sn) (e2:ev x= .sl o2 0 1 (some 1) esz) (h2:h.cells o2=some new) (A:new.length=esz)
 (j:wV new=true):step ev h (.app s x esz b)= .v (.sl h.next 0 1 none esz) ⟨h.next+1,h.ver,h.oB.put h.next (.cells h.ver new)⟩:=by
 rw[ON,e1,e2,wH h2 (mM ω)];show gD h .sn 1 new esz=_;have e:gD h .sn 1 new esz=(bif Nat.ble 1 1048576&&wV new then h.new (.cells h.ver new) λo h=>fN 1 λn=>da.v (.sl o 0 n none esz) h else da.bad):=rfl;rw[e];simp only[dT,j,AH.new_eq,Si];rfl
end
end
end AM
