import Derived.Test.YtihgjngjidijaaaGreatDoorN4
set_option linter.all false
namespace AM
open Go
noncomputable section
structure SC {α:Type} (F:(α ->Prop) ->Prop):Prop where
 mono:∀{k k':α ->Prop},(∀a,k a ->k' a) ->F k ->F k'
 cont:∀(K:Nat ->α ->Prop),(∀m a,K m a ->K (m+1) a) ->F (λa=>∃m,K m a) ->∃m,F (K m)
def Aq {α:Type} {K:Nat ->α ->Prop} (hK:∀m a,K m a ->K (m+1) a) {m n:Nat} (h:m<=n) {a:α} (ha:K m a):K n a:=by
 induction h with
 |refl=>exact ha
 |step _ ih=>exact hK _ _ ih
namespace SC
variable {α β:Type}
def const (p:Prop):SC (λ_:α ->Prop=>p):=⟨λ_ h=>h,λ_ _ h=>⟨0,h⟩⟩
def at_ (a:α):SC (λk:α ->Prop=>k a):=⟨λh=>h a,λ_ _ ⟨m,h⟩=>⟨m,h⟩⟩
def and {F G:(α ->Prop) ->Prop} (hF:SC F) (hG:SC G):SC (λk=>F k/\ G k):=
 ⟨λh ⟨a,b⟩=>⟨hF.mono h a,hG.mono h b⟩,λK hK ⟨a,b⟩=>by
  obtain⟨m,h1⟩:=hF.cont K hK a;obtain⟨n,h2⟩:=hG.cont K hK b;exact⟨max m n,hF.mono (λx=>Aq hK (Cj ..)) h1,hG.mono (λx=>Aq hK (Ck ..)) h2⟩⟩
def or {F G:(α ->Prop) ->Prop} (hF:SC F) (hG:SC G):SC (λk=>F k∨G k):=
 ⟨λh=>Or.imp (hF.mono h) (hG.mono h),λK hK h=>by
  rcases h with h|h
  ·obtain⟨m,h1⟩:=hF.cont K hK h;exact⟨m,.inl h1⟩
  ·obtain⟨m,h1⟩:=hG.cont K hK h;exact⟨m,.inr h1⟩⟩
def ex {ι:Type} {F:ι ->(α ->Prop) ->Prop} (hF:∀i,SC (F i)):SC (λk=>∃i,F i k):=
 ⟨λh ⟨i,a⟩=>⟨i,(hF i).mono h a⟩,λK hK ⟨i,a⟩=>let ⟨m,h⟩:=(hF i).cont K hK a;⟨m,i,h⟩⟩
def comp {F:(α ->Prop) ->Prop} {G:α ->(β ->Prop) ->Prop} (hF:SC F) (hG:∀a,SC (G a)):SC (λk=>F (λa=>G a k)):=
 ⟨λh=>hF.mono λa=>(hG a).mono h,λK hK h=>by
  have h1:F (λa=>∃m,G a (K m)):=hF.mono (λa ha=>(hG a).cont K hK ha) h;exact hF.cont (λm a=>G a (K m)) (λm a=>(hG a).mono (hK m)) h1⟩
end SC
abbrev jL (F:(AV ->AH ->Prop) ->Prop):Prop:=SC (α:=AV×AH) (λk=>F (λv h=>k (v,h)))
structure lQ (C:aK Prop):Prop extends CfgOK C where
 spec:∀f args h (F:(AV×AH ->Prop) ->Prop),SC F ->SC (α:=AV×AH) (λk=>C.spec f args h (λv h=>k (v,h)) (F k))
 fb:∀f args h k (p q:Prop),(p ->q) ->C.spec f args h k p ->C.spec f args h k q
 fbc:∀f args h k (p:Nat ->Prop),C.spec f args h k (∃n,p n) ->∃n,C.spec f args h k (p n)
section
variable {C:aK Prop} (hC:lQ C)
include hC
theorem GV {α:Type} {f:AV ->AH ->(α ->Prop) ->Prop} (hf:∀v h,SC (f v h)):∀l:List (AV×AH),SC (λk=>gQ C (λv h=>f v h k) l)
 |[]=>SC.const _
 |[e]=>hf e.1 e.2
 |e::b::r=>by
  have e1:(λk=>gQ C (λv h=>f v h k) (e::b::r))=λk=>f e.1 e.2 k/\ gQ C (λv h=>f v h k) (b::r):=by
   funext k;show C.both (f e.1 e.2 k) (gQ C (λv h=>f v h k) (b::r))=_;rw[hC.both]
  rw[e1];exact SC.and (hf _ _) (GV hf (b::r))
theorem x7 {α:Type} {bz bA:Nat ->List AV ->AH ->(AV ->AH ->Prop) ->Prop} (hc:∀f a h,jL (bz f a h)) (hy:∀f a h,jL (bA f a h)) (g:MG) (τ:T AV) (h:AH)
 {f:AV ->AH ->(α ->Prop) ->Prop} (hf:∀v h,SC (f v h)):SC (λk=>eY C bz bA g τ h (λv h=>f v h k)):=by
 have act:SC (λk=>(match step (az C τ) h g.op with
  | .v x h=>f x h k
  | .call q args h=>bz q args h (λv h=>f v h k)
  | .yld l args h=>bA l args h (λv h=>f v h k)
  | .alts l=>gQ C (λv h=>f v h k) l
  | .bad=>C.fail:Prop)):=by
  cases step (az C τ) h g.op with
  |v x h=>exact hf x h
  |call q args h=>exact SC.comp (hc q args h) (λa=>hf a.1 a.2)
  |yld l args h=>exact SC.comp (hy l args h) (λa=>hf a.1 a.2)
  |alts l=>exact GV hC hf l
  |bad=>exact SC.const _
 unfold eY;dsimp only;cases g.guard with
 |none=>exact act
 |some q=>
  obtain⟨t,w⟩:=q;dsimp only;split
  ·rename_i x hx;cases (bif x then w else !w) with
   |true=>exact act
   |false=>exact hf _ _
  ·exact hf _ _
  ·exact SC.const _
theorem GW {bz bA:Nat ->List AV ->AH ->(AV ->AH ->Prop) ->Prop} (hc:∀f a h,jL (bz f a h)) (hy:∀f a h,jL (bA f a h)) {α:Type} {f:T AV ->AH ->(α ->Prop) ->Prop} (hf:∀τ h,SC (f τ h)):
 ∀(l:List MG) (τ:T AV) (h:AH),SC (λk=>dO C bz bA (λτ h=>f τ h k) l τ h)
 |[],τ,h=>hf τ h
 |g::l,τ,h=>by
  have e:(λk=>dO C bz bA (λτ h=>f τ h k) (g::l) τ h)=λk=>eY C bz bA g τ h (λx h=>dO C bz bA (λτ h=>f τ h k) l (cj τ g.dst x) h):=by
   funext k;show eY C bz bA g τ h (λx h=>eh τ g.dst x λτ=>dO C bz bA (λτ h=>f τ h k) l τ h)=_;simp only[iI]
  rw[e];exact x7 hC hc hy g τ h (λv h=>GW hc hy hf l _ h)
theorem De {α:Type} {τ:T AV} {h:AH} {mask:Nat} {F:(α ->Prop) ->Prop} (hF:SC F):∀ls:List (Nat×MG),SC (λk=>eA C τ h mask ls (F k))
 |[]=>hF
 |p::ls=>by
  have ih:=De (τ:=τ) (h:=h) (mask:=mask) hF ls;have e:(λk=>eA C τ h mask (p::ls) (F k))=λk=>(bif Nat.testBit mask p.1 then eA C τ h mask ls (F k) else match ez C τ h p.2 with
   |some x=>match p.2.dst with
    |none=>eA C τ h mask ls (F k)
    |some d=>match τ.get d with
     |some y=>bif cZ 64 x y then eA C τ h mask ls (F k) else C.fail
     |none=>C.fail
   |none=>C.fail):=rfl
  rw[e];cases Nat.testBit mask p.1 with
  |true=>exact ih
  |false=>
   simp only[eU];cases ez C τ h p.2 with
   |none=>exact SC.const _
   |some x=>
    cases p.2.dst with
    |none=>exact ih
    |some d=>
     dsimp only;cases τ.get d with
     |none=>exact SC.const _
     |some y=>
      dsimp only;cases cZ 64 x y with
      |true=>exact ih
      |false=>exact SC.const _
theorem Ar {bz bA:Nat ->List AV ->AH ->(AV ->AH ->Prop) ->Prop} (hc:∀f a h,jL (bz f a h)) (hy:∀f a h,jL (bA f a h)) {base:Nat} {α:Type} {f:T AV ->AH ->(α ->Prop) ->Prop} (hf:∀τ h,SC (f τ h)):
 ∀(l:List DI) (ls:List (Nat×MG)) (pd:List (Nat×Nat×bC)) (τ:T AV) (h:AH),SC (λk=>bW C bz bA base (λτ h=>f τ h k) l ls pd τ h)
 |[],_,_,τ,h=>hf τ h
 |d::l,ls,pd,τ,h=>by
  cases d with
  |light i g=>
   have e:(λk=>bW C bz bA base (λτ h=>f τ h k) (.light i g::l) ls pd τ h)=λk=>(match ez C τ h g with
    |some x=>bW C bz bA base (λτ h=>f τ h k) l ((i,g)::ls) pd (cj τ g.dst x) h
    |none=>C.fail):=by
    funext k;show(match ez C τ h g with
    |some x=>eh τ g.dst x λτ=>bW C bz bA base (λτ h=>f τ h k) l ((i,g)::ls) pd τ h
    |none=>C.fail)=_
    simp only[iI]
   rw[e];cases ez C τ h g with
   |none=>exact SC.const _
   |some x=>exact Ar hc hy hf l _ _ _ _
  |resv i n g=>
   have e:(λk=>bW C bz bA base (λτ h=>f τ h k) (.resv i n g::l) ls pd τ h)=λk=>(match step (az C τ) ⟨base+n,h.ver,.e⟩ g.op with
    | .v x h'=>match h'.oB.get (base+n) with
     |some ob=>bW C bz bA base (λτ h=>f τ h k) l ls ((i,base+n,ob)::pd) (cj τ g.dst x) h
     |none=>C.fail
    |_=>C.fail):=by
    funext k;show(fN (base+n) λid=>match step (az C τ) ⟨id,h.ver,.e⟩ g.op with
     | .v x h'=>match h'.oB.get id with
      |some ob=>eh τ g.dst x λτ=>bW C bz bA base (λτ h=>f τ h k) l ls ((i,id,ob)::pd) τ h
      |none=>C.fail
     |_=>C.fail)=_
    simp only[dT,iI]
   rw[e];cases step (az C τ) ⟨base+n,h.ver,.e⟩ g.op with
   |v x h'=>
    dsimp only;cases h'.oB.get (base+n) with
    |none=>exact SC.const _
    |some ob=>exact Ar hc hy hf l _ _ _ _
   |_=>exact SC.const _
  |lay i=>
   have e:(λk=>bW C bz bA base (λτ h=>f τ h k) (.lay i::l) ls pd τ h)=λk=>(match iC i pd with
    |some (id,ob)=>bW C bz bA base (λτ h=>f τ h k) l ls pd τ ⟨h.next,Nat.succ h.ver,h.oB.put id ob⟩
    |none=>C.fail):=by
    funext k;show(match iC i pd with
    |some (id,ob)=>h.put id ob λh=>bW C bz bA base (λτ h=>f τ h k) l ls pd τ h
    |none=>C.fail)=_
    simp only[AH.put_eq]
   rw[e];cases iC i pd with
   |none=>exact SC.const _
   |some q=>exact Ar hc hy hf l _ _ _ _
  |heavy i g mask=>
   have e:(λk=>bW C bz bA base (λτ h=>f τ h k) (.heavy i g mask::l) ls pd τ h)=
    λk=>eY C bz bA g τ h (λx h=>eA C (cj τ g.dst x) h mask ls (bW C bz bA base (λτ h=>f τ h k) l ls pd (cj τ g.dst x) h)):=by
    funext k;show eY C bz bA g τ h (λx h=>eh τ g.dst x λτ=>eA C τ h mask ls (bW C bz bA base (λτ h=>f τ h k) l ls pd τ h))=_;simp only[iI]
   rw[e];exact x7 hC hc hy g τ h (λv h=>De hC (Ar hc hy hf l _ _ _ _) _)
theorem Nd {n:Nat} (IH:∀(c:aw) (τ:T AV) (h:AH) {α:Type} {f:pS ->T AV ->AH ->(α ->Prop) ->Prop},(∀e τ h,SC (f e τ h)) ->SC (λk=>run C n c (λe τ h=>f e τ h k) τ h))
 (g:Nat) (args:List AV) (h:AH):jL (j4 C (run C n) g args h):=by
 unfold j4;cases C.ae.get g with
 |none=>exact SC.const _
 |some fn=>
  dsimp only;simp only[xZ];refine IH fn.body _ h (f:=λe τ h k=>match e with
   | .exit _=>C.fail
   |_=>match eZ τ h fn.res with|some v=>k (v,h)|none=>C.fail) λe τ h=> ?_
  cases e with
  |exit i=>exact SC.const _
  |_=>
   dsimp only;cases eZ τ h fn.res with
   |none=>exact SC.const _
   |some v=>exact SC.at_ _
theorem As {n:Nat} (IH:∀(c:aw) (τ:T AV) (h:AH) {α:Type} {f:pS ->T AV ->AH ->(α ->Prop) ->Prop},(∀e τ h,SC (f e τ h)) ->SC (λk=>run C n c (λe τ h=>f e τ h k) τ h))
 (g:Nat) (args:List AV) (h:AH):jL (iS C (run C n) g args h):=
 hC.spec g args h _ (Nd hC IH g args h)
theorem Nf {α:Type} {f:T AV ->(α ->Prop) ->Prop} (hf:∀τ,SC (f τ)):∀(l:List Nat) (a:List AV) (τ:T AV),SC (λk=>nG C l a τ (λτ=>f τ k))
 |[],[],τ=>hf τ
 |[],_::_,_=>SC.const _
 |_::_,[],_=>SC.const _
 |p::l,x::a,τ=>by
  have e:(λk=>nG C (p::l) (x::a) τ (λτ=>f τ k))=λk=>nG C l a (τ.put p x) (λτ=>f τ k):=by
   funext k;show τ.setK p x (λτ=>nG C l a τ (λτ=>f τ k))=_;rw[T.setK_put]
  rw[e];exact Nf hf l a _
theorem ab4 {α:Type} {f:AH ->(α ->Prop) ->Prop} (hf:∀h,SC (f h)) (h:AH) (l:Nat):SC (λk=>pV C h l (λh=>f h k)):=by
 unfold pV;split
 ·simp only[AH.put_eq];exact hf _
 ·exact SC.const _
theorem GX {α:Type} {f:AH ->(α ->Prop) ->Prop} (hf:∀h,SC (f h)) (h:AH) (l st:Nat) (p:Option (Option Nat)):SC (λk=>j5 C h l st p (λh=>f h k)):=by
 unfold j5;split
 ·simp only[AH.put_eq];exact hf _
 ·exact SC.const _
theorem At {n:Nat} (IH:∀(c:aw) (τ:T AV) (h:AH) {α:Type} {f:pS ->T AV ->AH ->(α ->Prop) ->Prop},(∀e τ h,SC (f e τ h)) ->SC (λk=>run C n c (λe τ h=>f e τ h k) τ h))
 (l:Nat) (args:List AV) (h:AH):jL (iD C (run C n) l args h):=by
 unfold iD;split
 ·rename_i ps asg body env _ _ _;refine Nf hC (f:=λτ k=>_) (λτ=> ?_) ps args env;refine IH asg τ h (f:=λe τ h k=>match e with
   | .normal=>pV C h l λh=>run C n body (λe _ h=>match e with
    | .normal=>j5 C h l 0 none λh=>k (AV.b true,h)
    | .exit i=>j5 C h l 2 (some (some i)) λh=>k (AV.b false,h)
    | .ret=>j5 C h l 2 (some none) λh=>k (AV.b false,h)) τ h
   |_=>C.fail) λe τ h=> ?_
  cases e with
  |normal=>
   dsimp only;refine ab4 hC (f:=λh k=>run C n body (λe _ h=>match e with
    | .normal=>j5 C h l 0 none λh=>k (AV.b true,h)
    | .exit i=>j5 C h l 2 (some (some i)) λh=>k (AV.b false,h)
    | .ret=>j5 C h l 2 (some none) λh=>k (AV.b false,h)) τ h) (λh=> ?_) h l
   refine IH body τ h (f:=λe _ h k=>match e with
    | .normal=>j5 C h l 0 none λh=>k (AV.b true,h)
    | .exit i=>j5 C h l 2 (some (some i)) λh=>k (AV.b false,h)
    | .ret=>j5 C h l 2 (some none) λh=>k (AV.b false,h)) λe τ h=> ?_
   cases e with
   |normal=>exact GX hC (f:=λh k=>k (AV.b true,h)) (λh=>SC.at_ _) h l 0 none
   |exit i=>exact GX hC (f:=λh k=>k (AV.b false,h)) (λh=>SC.at_ _) h l 2 _
   |ret=>exact GX hC (f:=λh k=>k (AV.b false,h)) (λh=>SC.at_ _) h l 2 _
  |_=>exact SC.const _
 ·exact SC.const _
theorem ya:∀(n:Nat) (c:aw) (τ:T AV) (h:AH) {α:Type} {f:pS ->T AV ->AH ->(α ->Prop) ->Prop},(∀e τ h,SC (f e τ h)) ->SC (λk=>run C n c (λe τ h=>f e τ h k) τ h):=by
 intro n;induction n with
 |zero=>intro c τ h α f hf;exact SC.const _
 |succ n IH=>
  intro c τ h α f hf;simp only[gh];cases c with
  |skip=>exact hf _ _ _
  |ops l=>exact GW hC (As hC @IH) (At hC @IH) (f:=λτ h k=>f .normal τ h k) (λτ h=>hf _ _ _) l τ h
  |draw z l=>
   dsimp only;simp only[dT];exact Ar hC (As hC @IH) (At hC @IH) (f:=λτ h k=>f .normal τ h k) (λτ h=>hf _ _ _) l _ _ τ _
  |dfr l x fn=>
   refine GW hC (As hC @IH) (At hC @IH) (f:=λτ h k=>match az C τ x with
    | .f g _ _=>bif Nat.beq g fn then f .normal τ h k else C.fail
    |_=>C.fail) (λτ h=> ?_) l τ h
   cases az C τ x with
   |f g _ _=>
    dsimp only;cases Nat.beq g fn with
    |true=>exact hf _ _ _
    |false=>exact SC.const _
   |_=>exact SC.const _
  |seq a b=>
   refine IH a τ h (f:=λe τ h k=>match e with| .normal=>run C n b (λe τ h=>f e τ h k) τ h|e=>f e τ h k) λe τ h=> ?_;cases e with
   |normal=>exact IH b τ h hf
   |_=>exact hf _ _ _
  |cond x a b=>
   dsimp only;cases az C τ x with
   |b t=>cases t with
    |true=>exact IH a τ h hf
    |false=>exact IH b τ h hf
   |_=>exact SC.const _
  |block i a=>
   refine IH a τ h (f:=λe τ h k=>match e with| .exit j=>bif Nat.beq j i then f .normal τ h k else f (.exit j) τ h k|e=>f e τ h k) λe τ h=> ?_;cases e with
   |exit j=>dsimp only;cases Nat.beq j i<;>exact hf _ _ _
   |_=>exact hf _ _ _
  |loop a=>
   refine IH a τ h (f:=λe τ h k=>match e with| .normal=>run C n (.loop a) (λe τ h=>f e τ h k) τ h|e=>f e τ h k) λe τ h=> ?_;cases e with
   |normal=>exact IH (.loop a) τ h hf
   |_=>exact hf _ _ _
  |rfun q ps asg body=>
   dsimp only;simp only[AH.new_eq];cases az C τ q with
   |f g fi ca=>
    dsimp only;cases fy fi (.y h.next::ca) with
    |none=>exact SC.const _
    |some l=>
     dsimp only;refine SC.comp (F:=λk=>j4 C (run C n) g l ⟨Nat.succ h.next,h.ver,h.oB.put h.next (.loop ps asg body τ 0 none)⟩ (λv h=>k (v,h))) (Nd hC @IH g l _) (G:=λa k=>match a.2.get h.next with
      |some (.loop _ _ _ _ 0 none)=>a.2.put h.next .gone λh=>f .normal τ h k
      |some (.loop _ _ _ _ 2 (some (some i)))=>a.2.put h.next .gone λh=>f (.exit i) τ h k
      |some (.loop _ _ _ _ 2 (some none))=>a.2.put h.next .gone λh=>f .ret τ h k
      |_=>C.fail) (λa=> ?_)
     split<;>first|(simp only[AH.put_eq];exact hf _ _ _)|exact SC.const _
   |_=>exact SC.const _
  |exit i=>exact hf _ _ _
  |ret=>exact hf _ _ _
  |bad w=>exact SC.const _
section ops
variable {bz bA callK' yldK':Nat ->List AV ->AH ->(AV ->AH ->Prop) ->Prop} (hc:∀f a h,jL (bz f a h)) (hy:∀f a h,jL (bA f a h))
 (cc:∀f a h k,bz f a h k ->callK' f a h k) (yy:∀f a h k,bA f a h k ->yldK' f a h k)
include cc yy
theorem Ng (g:MG) (τ:T AV) (h:AH) (k:AV ->AH ->Prop) (hr:eY C bz bA g τ h k):eY C callK' yldK' g τ h k:=by
 have act:(match step (az C τ) h g.op with
  | .v x h=>k x h
  | .call q args h=>bz q args h k
  | .yld l args h=>bA l args h k
  | .alts l=>gQ C k l
  | .bad=>C.fail:Prop) ->(match step (az C τ) h g.op with
  | .v x h=>k x h
  | .call q args h=>callK' q args h k
  | .yld l args h=>yldK' l args h k
  | .alts l=>gQ C k l
  | .bad=>C.fail:Prop):=by
  cases step (az C τ) h g.op with
  |call q args h=>exact cc _ _ _ _
  |yld l args h=>exact yy _ _ _ _
  |_=>exact id
 unfold eY at hr ⊢;dsimp only at hr ⊢;cases hg:g.guard with
 |none=>rw[hg] at hr;exact act hr
 |some q=>
  rw[hg] at hr;obtain⟨t,w⟩:=q;dsimp only at hr ⊢;cases ht:τ.get t with
  |none=>rw[ht] at hr;exact hr
  |some y=>
   rw[ht] at hr;cases y with
   |b x=>
    dsimp only at hr ⊢;cases hb:(bif x then w else !w) with
    |true=>rw[hb] at hr;exact act hr
    |false=>rw[hb] at hr;exact hr
   |tu l=>cases l<;>exact hr
   |_=>exact hr
include hc hy
theorem yc (k:T AV ->AH ->Prop):∀(l:List MG) (τ:T AV) (h:AH),dO C bz bA k l τ h ->dO C callK' yldK' k l τ h
 |[],_,_,hr=>hr
 |g::l,τ,h,hr=>by
  have h1:eY C bz bA g τ h (λx h=>eh τ g.dst x λτ=>dO C bz bA k l τ h):=hr;refine Ng (C:=C) hC cc yy g τ h _ ((x7 hC hc hy g τ h (α:=AV×AH) (f:=λv h k=>k (v,h)) (λ_ _=>SC.at_ _)).mono (k:=λa=>eh τ g.dst a.1 λτ=>dO C bz bA k l τ a.2) (k':=λa=>eh τ g.dst a.1 λτ=>dO C callK' yldK' k l τ a.2) (λa ha=> ?_) h1);rw[iI] at ha ⊢;exact yc k l _ _ ha
theorem uL {base:Nat} (k:T AV ->AH ->Prop):∀(l:List DI) (ls:List (Nat×MG)) (pd:List (Nat×Nat×bC)) (τ:T AV) (h:AH),
 bW C bz bA base k l ls pd τ h ->bW C callK' yldK' base k l ls pd τ h
 |[],_,_,_,_,hr=>hr
 |d::l,ls,pd,τ,h,hr=>by
  cases d with
  |light i g=>
   have h1:(match ez C τ h g with
    |some x=>eh τ g.dst x λτ=>bW C bz bA base k l ((i,g)::ls) pd τ h
    |none=>C.fail):=hr
   show(match ez C τ h g with
    |some x=>eh τ g.dst x λτ=>bW C callK' yldK' base k l ((i,g)::ls) pd τ h
    |none=>C.fail)
   cases hl:ez C τ h g with
   |none=>rw[hl] at h1;exact h1
   |some x=>rw[hl] at h1;dsimp only at h1 ⊢;rw[iI] at h1 ⊢;exact uL k l _ _ _ _ h1
  |resv i n g=>
   have h1:(fN (base+n) λid=>match step (az C τ) ⟨id,h.ver,.e⟩ g.op with
    | .v x h'=>match h'.oB.get id with
     |some ob=>eh τ g.dst x λτ=>bW C bz bA base k l ls ((i,id,ob)::pd) τ h
     |none=>C.fail
    |_=>C.fail):=hr
   show(fN (base+n) λid=>match step (az C τ) ⟨id,h.ver,.e⟩ g.op with
    | .v x h'=>match h'.oB.get id with
     |some ob=>eh τ g.dst x λτ=>bW C callK' yldK' base k l ls ((i,id,ob)::pd) τ h
     |none=>C.fail
    |_=>C.fail)
   rw[dT] at h1 ⊢;cases hs:step (az C τ) ⟨base+n,h.ver,.e⟩ g.op with
   |v x h'=>
    rw[hs] at h1;dsimp only at h1 ⊢;cases ho:h'.oB.get (base+n) with
    |none=>rw[ho] at h1;exact h1
    |some ob=>rw[ho] at h1;dsimp only at h1 ⊢;rw[iI] at h1 ⊢;exact uL k l _ _ _ _ h1
   |_=>rw[hs] at h1;exact h1
  |lay i=>
   have h1:(match iC i pd with
    |some (id,ob)=>h.put id ob λh=>bW C bz bA base k l ls pd τ h
    |none=>C.fail):=hr
   show(match iC i pd with
    |some (id,ob)=>h.put id ob λh=>bW C callK' yldK' base k l ls pd τ h
    |none=>C.fail)
   cases hf:iC i pd with
   |none=>rw[hf] at h1;exact h1
   |some q=>rw[hf] at h1;dsimp only at h1 ⊢;rw[AH.put_eq] at h1 ⊢;exact uL k l _ _ _ _ h1
  |heavy i g mask=>
   have h1:eY C bz bA g τ h λx h=>eh τ g.dst x λτ=>eA C τ h mask ls (bW C bz bA base k l ls pd τ h):=hr;refine Ng (C:=C) hC cc yy g τ h _ ((x7 hC hc hy g τ h (α:=AV×AH) (f:=λv h k=>k (v,h)) (λ_ _=>SC.at_ _)).mono (k:=λa=>eh τ g.dst a.1 λτ=>eA C τ a.2 mask ls (bW C bz bA base k l ls pd τ a.2))
    (k':=λa=>eh τ g.dst a.1 λτ=>eA C τ a.2 mask ls (bW C callK' yldK' base k l ls pd τ a.2)) (λa ha=> ?_) h1)
   rw[iI] at ha ⊢;exact(De hC (τ:=cj τ g.dst a.1) (h:=a.2) (mask:=mask) (α:=Unit) (F:=λk=>k ()) (SC.at_ _) ls).mono (k:=λ_=>_) (k':=λ_=>_) (λ_ hh=>uL k l _ _ _ _ hh) ha
end ops
theorem wx {n:Nat} {c:aw} {τ:T AV} {h:AH} {k k':K Prop} (hk:∀e τ h,k e τ h ->k' e τ h) (hr:run C n c k τ h):run C n c k' τ h:=
 (ya hC n c τ h (α:=pS×T AV×AH) (f:=λe τ h k=>k (e,τ,h)) (λ_ _ _=>SC.at_ _)).mono (k:=λa=>k a.1 a.2.1 a.2.2) (k':=λa=>k' a.1 a.2.1 a.2.2) (λa=>hk _ _ _) hr
theorem Nh {n:Nat} (IH:∀c k τ h,run C n c k τ h ->run C (n+1) c k τ h) (g:Nat) (args:List AV) (h:AH) (k:AV ->AH ->Prop) (hr:j4 C (run C n) g args h k):j4 C (run C (n+1)) g args h k:=by
 unfold j4 at hr ⊢;cases hf:C.ae.get g with
 |none=>rw[hf] at hr;exact hr
 |some fn=>rw[hf] at hr;dsimp only at hr ⊢;rw[xZ] at hr ⊢;exact IH _ _ _ _ hr
theorem Ni {n:Nat} (IH:∀c k τ h,run C n c k τ h ->run C (n+1) c k τ h) (g:Nat) (args:List AV) (h:AH) (k:AV ->AH ->Prop) (hr:iS C (run C n) g args h k):iS C (run C (n+1)) g args h k:=
 hC.fb _ _ _ _ _ _ (Nh hC IH g args h k) hr
theorem Nj {k k':T AV ->Prop} (hk:∀τ,k τ ->k' τ):∀(l:List Nat) (a:List AV) (τ:T AV),nG C l a τ k ->nG C l a τ k'
 |[],[],τ,h=>hk τ h
 |[],_::_,_,h=>h
 |_::_,[],_,h=>h
 |p::l,x::a,τ,h=>by
  have h1:τ.setK p x (λτ=>nG C l a τ k):=h;show τ.setK p x (λτ=>nG C l a τ k');rw[T.setK_put] at h1 ⊢;exact Nj hk l a _ h1
theorem ab5 {k k':AH ->Prop} (hk:∀h,k h ->k' h) (h:AH) (l:Nat) (hr:pV C h l k):pV C h l k':=by
 unfold pV at hr ⊢;split
 ·rename_i he;rw[he] at hr;simp only[AH.put_eq] at hr ⊢;exact hk _ hr
 ·rename_i he;split at hr
  ·rename_i hq;exact bh hq (he _ _ _ _ _)
  ·exact hr
theorem Nk {n:Nat} (IH:∀c k τ h,run C n c k τ h ->run C (n+1) c k τ h) (l:Nat) (args:List AV) (h:AH) (k:AV ->AH ->Prop) (hr:iD C (run C n) l args h k):iD C (run C (n+1)) l args h k:=by
 unfold iD at hr ⊢;split at hr
 ·rename_i ps asg body env _ _ hg;refine Nj hC (λτ hh=>IH _ _ _ _ (wx hC (λe τ h he=> ?_) hh)) _ _ _ hr;cases e with
  |normal=>exact ab5 hC (λh hh=>IH _ _ _ _ hh) _ _ he
  |_=>exact he
 ·rw[hC.fail] at hr;exact hr.elim
theorem Au (n:Nat):∀c k τ h,run C n c k τ h ->run C (n+1) c k τ h:=by
 induction n with
 |zero=>intro c k τ h hr;have:C.fail:=hr;rw[hC.fail] at this;exact this.elim
 |succ n IH=>
  intro c k τ h hr;rw[gh] at hr ⊢;have c1:∀f a h,jL (iS C (run C n) f a h):=As hC (λc τ h {α} {f} hf=>ya hC n c τ h hf);have y1:∀f a h,jL (iD C (run C n) f a h):=At hC (λc τ h {α} {f} hf=>ya hC n c τ h hf);have cc:=Ni hC IH;have yy:=Nk hC IH;cases c with
  |skip=>exact hr
  |ops l=>exact yc hC c1 y1 cc yy _ l τ h hr
  |draw z l=>dsimp only at hr ⊢;rw[dT] at hr ⊢;exact uL hC c1 y1 cc yy _ l _ _ _ _ hr
  |dfr l x fn=>exact yc hC c1 y1 cc yy _ l τ h hr
  |seq a b=>exact IH _ _ _ _ (wx hC (λe τ h he=>by cases e<;>first|exact IH _ _ _ _ he|exact he) hr)
  |cond x a b=>
   dsimp only at hr ⊢;cases hx:az C τ x with
   |b t=>rw[hx] at hr;cases t<;>exact IH _ _ _ _ hr
   |_=>rw[hx] at hr;exact hr
  |block i a=>exact IH _ _ _ _ hr
  |loop a=>exact IH _ _ _ _ (wx hC (λe τ h he=>by cases e<;>first|exact IH _ _ _ _ he|exact he) hr)
  |rfun q ps asg body=>
   dsimp only at hr ⊢;rw[AH.new_eq] at hr ⊢;cases hx:az C τ q with
   |f g fi ca=>
    rw[hx] at hr;dsimp only at hr ⊢;cases ha:fy fi (.y h.next::ca) with
    |none=>rw[ha] at hr;exact hr
    |some l=>rw[ha] at hr;exact Nh hC IH _ _ _ _ hr
   |_=>rw[hx] at hr;exact hr
  |exit i=>exact hr
  |ret=>exact hr
  |bad w=>exact hr
theorem ab6 {n m:Nat} (hnm:n<=m) {c k τ h} (hr:run C n c k τ h):run C m c k τ h:=by
 induction hnm with
 |refl=>exact hr
 |step _ ih=>exact Au hC _ _ _ _ _ ih
end
section
variable {C:aK Prop} (hC:lQ C)
include hC
section fam
variable {cK yK:Nat ->Nat ->List AV ->AH ->(AV ->AH ->Prop) ->Prop} (hc:∀n f a h,jL (cK n f a h)) (hy:∀n f a h,jL (yK n f a h))
 (cc:∀n f a h k,cK n f a h k ->cK (n+1) f a h k) (yy:∀n f a h k,yK n f a h k ->yK (n+1) f a h k)
omit hC in
theorem Nl {cK:Nat ->Nat ->List AV ->AH ->(AV ->AH ->Prop) ->Prop} (cc:∀n f a h k,cK n f a h k ->cK (n+1) f a h k) {n m:Nat} (h:n<=m) (f:Nat) (a:List AV) (x:AH) (k:AV ->AH ->Prop) (hr:cK n f a x k):cK m f a x k:=by
 induction h with
 |refl=>exact hr
 |step _ ih=>exact cc _ _ _ _ _ ih
include hc hy cc yy
theorem Nm (g:MG) (τ:T AV) (h:AH) (K:Nat ->AV×AH ->Prop) (hK:∀m a,K m a ->K (m+1) a)
 (hr:eY C (λf a h k=>∃n,cK n f a h k) (λf a h k=>∃n,yK n f a h k) g τ h (λv h=>∃m,K m (v,h))):∃m,eY C (cK m) (yK m) g τ h (λv h=>K m (v,h)):=by
 have act:(match step (az C τ) h g.op with
  | .v x h=>∃m,K m (x,h)
  | .call q args h=>∃n,cK n q args h (λv h=>∃m,K m (v,h))
  | .yld l args h=>∃n,yK n l args h (λv h=>∃m,K m (v,h))
  | .alts l=>gQ C (λv h=>∃m,K m (v,h)) l
  | .bad=>C.fail:Prop) ->∃m,(match step (az C τ) h g.op with
  | .v x h=>K m (x,h)
  | .call q args h=>cK m q args h (λv h=>K m (v,h))
  | .yld l args h=>yK m l args h (λv h=>K m (v,h))
  | .alts l=>gQ C (λv h=>K m (v,h)) l
  | .bad=>C.fail:Prop):=by
  cases step (az C τ) h g.op with
  |v x h=>exact id
  |call q args h=>
   rintro⟨n,h1⟩;obtain⟨m,h2⟩:=(hc n q args h).cont K hK h1;refine⟨max n m,Nl cc (Cj ..) _ _ _ _ ((hc n q args h).mono (k:=K m) (k':=K (max n m)) (λa=>Aq hK (Ck ..)) h2)⟩
  |yld l args h=>
   rintro⟨n,h1⟩;obtain⟨m,h2⟩:=(hy n l args h).cont K hK h1;refine⟨max n m,Nl yy (Cj ..) _ _ _ _ ((hy n l args h).mono (k:=K m) (k':=K (max n m)) (λa=>Aq hK (Ck ..)) h2)⟩
  |alts l=>exact λh1=>(GV hC (α:=AV×AH) (f:=λv h k=>k (v,h)) (λ_ _=>SC.at_ _) l).cont K hK h1
  |bad=>exact λh=>⟨0,h⟩
 unfold eY at hr ⊢;dsimp only at hr ⊢;cases hg:g.guard with
 |none=>rw[hg] at hr;exact act hr
 |some q=>
  rw[hg] at hr;obtain⟨t,w⟩:=q;dsimp only at hr ⊢;cases ht:τ.get t with
  |none=>rw[ht] at hr;exact⟨0,hr⟩
  |some y=>
   rw[ht] at hr;cases y with
   |b x=>
    dsimp only at hr ⊢;cases hb:(bif x then w else !w) with
    |true=>rw[hb] at hr;exact act hr
    |false=>rw[hb] at hr;exact hr
   |tu l=>cases l with
    |nil=>exact hr
    |cons _ _=>exact⟨0,hr⟩
   |_=>exact⟨0,hr⟩
theorem GY {K:T AV ->AH ->Prop}:∀(l:List MG) (τ:T AV) (h:AH),dO C (λf a h k=>∃n,cK n f a h k) (λf a h k=>∃n,yK n f a h k) K l τ h ->∃m,dO C (cK m) (yK m) K l τ h
 |[],_,_,hr=>⟨0,hr⟩
 |g::l,τ,h,hr=>by
  have h1:eY C (λf a h k=>∃n,cK n f a h k) (λf a h k=>∃n,yK n f a h k) g τ h (λx h=>eh τ g.dst x λτ=>dO C (λf a h k=>∃n,cK n f a h k) (λf a h k=>∃n,yK n f a h k) K l τ h):=hr;have e1:∀f a h,jL ((λf a h k=>∃n,cK n f a h k:Nat ->List AV ->AH ->(AV ->AH ->Prop) ->Prop) f a h):=λf a h=>SC.ex (F:=λn k=>cK n f a h (λv h=>k (v,h))) (λn=>hc n f a h);have e2:∀f a h,jL ((λf a h k=>∃n,yK n f a h k:Nat ->List AV ->AH ->(AV ->AH ->Prop) ->Prop) f a h):=λf a h=>SC.ex (F:=λn k=>yK n f a h (λv h=>k (v,h))) (λn=>hy n f a h);have h2:=(x7 hC e1 e2 g τ h (α:=AV×AH) (f:=λv h k=>k (v,h)) (λ_ _=>SC.at_ _)).mono (k':=λa=>∃m,dO C (cK m) (yK m) K l (cj τ g.dst a.1) a.2) (λa ha=>by
   have ha':eh τ g.dst a.1 λτ=>dO C (λf a h k=>∃n,cK n f a h k) (λf a h k=>∃n,yK n f a h k) K l τ a.2:=ha;rw[iI] at ha';exact GY l _ _ ha') (k:=λa=>eh τ g.dst a.1 λτ=>dO C (λf a h k=>∃n,cK n f a h k) (λf a h k=>∃n,yK n f a h k) K l τ a.2) h1
  obtain⟨m,h3⟩:=Nm hC hc hy cc yy g τ h (λm a=>dO C (cK m) (yK m) K l (cj τ g.dst a.1) a.2) (λm a ha=>yc hC (hc m) (hy m) (cc m) (yy m) K l _ _ ha) h2;refine⟨m,?_⟩;show eY C (cK m) (yK m) g τ h (λx h=>eh τ g.dst x λτ=>dO C (cK m) (yK m) K l τ h);simp only[iI];exact h3
theorem Av {base:Nat} {K:T AV ->AH ->Prop}:∀(l:List DI) (ls:List (Nat×MG)) (pd:List (Nat×Nat×bC)) (τ:T AV) (h:AH),
 bW C (λf a h k=>∃n,cK n f a h k) (λf a h k=>∃n,yK n f a h k) base K l ls pd τ h ->∃m,bW C (cK m) (yK m) base K l ls pd τ h
 |[],_,_,_,_,hr=>⟨0,hr⟩
 |d::l,ls,pd,τ,h,hr=>by
  cases d with
  |light i g=>
   have h1:(match ez C τ h g with
    |some x=>eh τ g.dst x λτ=>bW C (λf a h k=>∃n,cK n f a h k) (λf a h k=>∃n,yK n f a h k) base K l ((i,g)::ls) pd τ h
    |none=>C.fail):=hr
   show∃m,(match ez C τ h g with
    |some x=>eh τ g.dst x λτ=>bW C (cK m) (yK m) base K l ((i,g)::ls) pd τ h
    |none=>C.fail)
   cases hl:ez C τ h g with
   |none=>rw[hl] at h1;exact⟨0,h1⟩
   |some x=>rw[hl] at h1;dsimp only at h1 ⊢;simp only[iI] at h1 ⊢;exact Av l _ _ _ _ h1
  |resv i n g=>
   have h1:(fN (base+n) λid=>match step (az C τ) ⟨id,h.ver,.e⟩ g.op with
    | .v x h'=>match h'.oB.get id with
     |some ob=>eh τ g.dst x λτ=>bW C (λf a h k=>∃n,cK n f a h k) (λf a h k=>∃n,yK n f a h k) base K l ls ((i,id,ob)::pd) τ h
     |none=>C.fail
    |_=>C.fail):=hr
   show∃m,(fN (base+n) λid=>match step (az C τ) ⟨id,h.ver,.e⟩ g.op with
    | .v x h'=>match h'.oB.get id with
     |some ob=>eh τ g.dst x λτ=>bW C (cK m) (yK m) base K l ls ((i,id,ob)::pd) τ h
     |none=>C.fail
    |_=>C.fail)
   simp only[dT] at h1 ⊢;cases hs:step (az C τ) ⟨base+n,h.ver,.e⟩ g.op with
   |v x h'=>
    rw[hs] at h1;dsimp only at h1 ⊢;cases ho:h'.oB.get (base+n) with
    |none=>rw[ho] at h1;exact⟨0,h1⟩
    |some ob=>rw[ho] at h1;dsimp only at h1 ⊢;simp only[iI] at h1 ⊢;exact Av l _ _ _ _ h1
   |_=>rw[hs] at h1;exact⟨0,h1⟩
  |lay i=>
   have h1:(match iC i pd with
    |some (id,ob)=>h.put id ob λh=>bW C (λf a h k=>∃n,cK n f a h k) (λf a h k=>∃n,yK n f a h k) base K l ls pd τ h
    |none=>C.fail):=hr
   show∃m,(match iC i pd with
    |some (id,ob)=>h.put id ob λh=>bW C (cK m) (yK m) base K l ls pd τ h
    |none=>C.fail)
   cases hf:iC i pd with
   |none=>rw[hf] at h1;exact⟨0,h1⟩
   |some q=>rw[hf] at h1;dsimp only at h1 ⊢;simp only[AH.put_eq] at h1 ⊢;exact Av l _ _ _ _ h1
  |heavy i g mask=>
   have h1:eY C (λf a h k=>∃n,cK n f a h k) (λf a h k=>∃n,yK n f a h k) g τ h λx h=>eh τ g.dst x λτ=>eA C τ h mask ls (bW C (λf a h k=>∃n,cK n f a h k) (λf a h k=>∃n,yK n f a h k) base K l ls pd τ h):=hr;have e1:∀f a h,jL ((λf a h k=>∃n,cK n f a h k:Nat ->List AV ->AH ->(AV ->AH ->Prop) ->Prop) f a h):=λf a h=>SC.ex (F:=λn k=>cK n f a h (λv h=>k (v,h))) (λn=>hc n f a h);have e2:∀f a h,jL ((λf a h k=>∃n,yK n f a h k:Nat ->List AV ->AH ->(AV ->AH ->Prop) ->Prop) f a h):=λf a h=>SC.ex (F:=λn k=>yK n f a h (λv h=>k (v,h))) (λn=>hy n f a h);have ag:∀τ h,SC (α:=Unit) (λk=>eA C τ h mask ls (k ())):=λτ h=>De hC (τ:=τ) (h:=h) (mask:=mask) (α:=Unit) (F:=λk=>k ()) (SC.at_ _) ls;have h2:=(x7 hC e1 e2 g τ h (α:=AV×AH) (f:=λv h k=>k (v,h)) (λ_ _=>SC.at_ _)).mono
    (k':=λa=>∃m,eA C (cj τ g.dst a.1) a.2 mask ls (bW C (cK m) (yK m) base K l ls pd (cj τ g.dst a.1) a.2)) (λa ha=>by
     have ha':eh τ g.dst a.1 λτ=>eA C τ a.2 mask ls (bW C (λf a h k=>∃n,cK n f a h k) (λf a h k=>∃n,yK n f a h k) base K l ls pd τ a.2):=ha;rw[iI] at ha';have h3:=(ag _ _).mono (k:=λ_=>_) (k':=λ_=>∃m,bW C (cK m) (yK m) base K l ls pd (cj τ g.dst a.1) a.2) (λ_ hh=>Av l _ _ _ _ hh) ha';exact(ag _ _).cont (λm _=>bW C (cK m) (yK m) base K l ls pd (cj τ g.dst a.1) a.2) (λm _ hh=>uL hC (hc m) (hy m) (cc m) (yy m) K l _ _ _ _ hh) h3)
    (k:=λa=>eh τ g.dst a.1 λτ=>eA C τ a.2 mask ls (bW C (λf a h k=>∃n,cK n f a h k) (λf a h k=>∃n,yK n f a h k) base K l ls pd τ a.2)) h1
   obtain⟨m,h3⟩:=Nm hC hc hy cc yy g τ h (λm a=>eA C (cj τ g.dst a.1) a.2 mask ls (bW C (cK m) (yK m) base K l ls pd (cj τ g.dst a.1) a.2))
    (λm a ha=>(ag _ _).mono (k:=λ_=>_) (k':=λ_=>_) (λ_ hh=>uL hC (hc m) (hy m) (cc m) (yy m) K l _ _ _ _ hh) ha) h2
   refine⟨m,?_⟩;show eY C (cK m) (yK m) g τ h λx h=>eh τ g.dst x λτ=>eA C τ h mask ls (bW C (cK m) (yK m) base K l ls pd τ h);simp only[iI];exact h3
end fam
end
section
variable (C:aK Prop)
def gG (c:aw) (k:K Prop) (τ:T AV) (h:AH):Prop:=∃n,run C n c k τ h
def du (f:Nat) (args:List AV) (h:AH) (k:AV ->AH ->Prop):Prop:=∃n,j4 C (run C n) f args h k
def hM (f:Nat) (args:List AV) (h:AH) (k:AV ->AH ->Prop):Prop:=∃n,iS C (run C n) f args h k
def oC (l:Nat) (args:List AV) (h:AH) (k:AV ->AH ->Prop):Prop:=∃n,iD C (run C n) l args h k
end
section
variable {C:aK Prop} (hC:lQ C) {k:K Prop} {τ:T AV} {h:AH}
include hC
theorem c1 (n:Nat):∀f a h,jL (iS C (run C n) f a h):=As hC (λc τ h {α} {f} hf=>ya hC n c τ h hf)
theorem y1 (n:Nat):∀f a h,jL (iD C (run C n) f a h):=At hC (λc τ h {α} {f} hf=>ya hC n c τ h hf)
theorem GZ (n:Nat):∀f a h k,iS C (run C n) f a h k ->iS C (run C (n+1)) f a h k:=Ni hC (Au hC n)
theorem G0 (n:Nat):∀f a h k,iD C (run C n) f a h k ->iD C (run C (n+1)) f a h k:=Nk hC (Au hC n)
theorem rW {n:Nat} {c:aw} (hr:run C n c k τ h):∃m,n=m+1:=by
 cases n with
 |zero=>have:C.fail:=hr;rw[hC.fail] at this;exact this.elim
 |succ m=>exact⟨m,rfl⟩
theorem Nn:gG C .skip k τ h↔k .normal τ h:=
 ⟨λ⟨n,hr⟩=>by obtain⟨m,rfl⟩:=rW hC hr;rw[gh] at hr;exact hr,λhk=>⟨1,by rw[gh];exact hk⟩⟩
theorem No {i:Nat}:gG C (.exit i) k τ h↔k (.exit i) τ h:=
 ⟨λ⟨n,hr⟩=>by obtain⟨m,rfl⟩:=rW hC hr;rw[gh] at hr;exact hr,λhk=>⟨1,by rw[gh];exact hk⟩⟩
theorem Np:gG C .ret k τ h↔k .ret τ h:=
 ⟨λ⟨n,hr⟩=>by obtain⟨m,rfl⟩:=rW hC hr;rw[gh] at hr;exact hr,λhk=>⟨1,by rw[gh];exact hk⟩⟩
theorem Nq {c:aw} {K:Nat ->pS ->T AV ->AH ->Prop} (hK:∀m e τ h,K m e τ h ->K (m+1) e τ h) (hr:gG C c (λe τ h=>∃m,K m e τ h) τ h):∃n,run C n c (K n) τ h:=by
 obtain⟨n,hr⟩:=hr;obtain⟨m,h1⟩:=(ya hC n c τ h (α:=pS×T AV×AH) (f:=λe τ h k=>k (e,τ,h)) (λ_ _ _=>SC.at_ _)).cont (λm a=>K m a.1 a.2.1 a.2.2) (λm a=>hK m _ _ _) hr;refine⟨max n m,ab6 hC (Cj ..) (wx hC (λe τ h he=> ?_) h1)⟩;exact Aq (K:=λm (a:pS×T AV×AH)=>K m a.1 a.2.1 a.2.2) (λm a=>hK m _ _ _) (Ck ..) (a:=(e,τ,h)) he
theorem Df {c:aw} {k k':K Prop} (hk:∀e τ h,k e τ h ->k' e τ h) (hr:gG C c k τ h):gG C c k' τ h:=
 let ⟨n,hr⟩:=hr;⟨n,wx hC hk hr⟩
theorem Nr {a b:aw}:gG C (.seq a b) k τ h↔gG C a (λe τ h=>match e with| .normal=>gG C b k τ h|e=>k e τ h) τ h:=by
 constructor
 ·rintro⟨n,hr⟩;obtain⟨m,rfl⟩:=rW hC hr;rw[gh] at hr;exact⟨m,wx hC (λe τ h he=>by cases e<;>first|exact⟨m,he⟩|exact he) hr⟩
 ·intro hr;obtain⟨n,h1⟩:=Nq hC (K:=λm e τ h=>match e with| .normal=>run C m b k τ h|e=>k e τ h)
   (λm e τ h he=>by cases e<;>first|exact Au hC _ _ _ _ _ he|exact he) (Df hC (λe τ h he=>by cases e<;>first|exact he|exact⟨0,he⟩) hr)
  exact⟨n+1,by rw[gh];exact h1⟩
theorem uM {a:aw}:gG C (.loop a) k τ h↔gG C a (λe τ h=>match e with| .normal=>gG C (.loop a) k τ h|e=>k e τ h) τ h:=by
 constructor
 ·rintro⟨n,hr⟩;obtain⟨m,rfl⟩:=rW hC hr;rw[gh] at hr;exact⟨m,wx hC (λe τ h he=>by cases e<;>first|exact⟨m,he⟩|exact he) hr⟩
 ·intro hr;obtain⟨n,h1⟩:=Nq hC (K:=λm e τ h=>match e with| .normal=>run C m (.loop a) k τ h|e=>k e τ h)
   (λm e τ h he=>by cases e<;>first|exact Au hC _ _ _ _ _ he|exact he) (Df hC (λe τ h he=>by cases e<;>first|exact he|exact⟨0,he⟩) hr)
  exact⟨n+1,by rw[gh];exact h1⟩
theorem ab7 {x:MA} {a b:aw}:gG C (.cond x a b) k τ h↔(match az C τ x with| .b t=>(bif t then gG C a k τ h else gG C b k τ h)|_=>False):=by
 constructor
 ·rintro⟨n,hr⟩;obtain⟨m,rfl⟩:=rW hC hr;rw[gh] at hr;dsimp only at hr;cases hx:az C τ x with
  |b t=>rw[hx] at hr;cases t<;>exact⟨m,hr⟩
  |_=>rw[hx] at hr;dsimp only at hr;rw[hC.fail] at hr;exact hr
 ·intro hr;cases hx:az C τ x with
  |b t=>
   rw[hx] at hr;cases t<;>(obtain⟨m,hr⟩:=hr;exact⟨m+1,by rw[gh];dsimp only;rw[hx];exact hr⟩)
  |_=>rw[hx] at hr;exact hr.elim
theorem Nt {i:Nat} {a:aw}:gG C (.block i a) k τ h↔gG C a (λe τ h=>match e with| .exit j=>(bif Nat.beq j i then k .normal τ h else k (.exit j) τ h)|e=>k e τ h) τ h:=
 ⟨λ⟨n,hr⟩=>by obtain⟨m,rfl⟩:=rW hC hr;rw[gh] at hr;exact⟨m,hr⟩,λ⟨m,hr⟩=>⟨m+1,by rw[gh];exact hr⟩⟩
theorem Nu {l:List MG}:gG C (.ops l) k τ h↔dO C (hM C) (oC C) (λτ h=>k .normal τ h) l τ h:=by
 constructor
 ·rintro⟨n,hr⟩;obtain⟨m,rfl⟩:=rW hC hr;rw[gh] at hr;exact yc hC (c1 hC m) (y1 hC m) (λf a h k hk=>⟨m,hk⟩) (λf a h k hk=>⟨m,hk⟩) _ l τ h hr
 ·intro hr;obtain⟨m,h1⟩:=GY hC (cK:=λn=>iS C (run C n)) (yK:=λn=>iD C (run C n)) (c1 hC) (y1 hC) (GZ hC) (G0 hC) l τ h hr;exact⟨m+1,by rw[gh];exact h1⟩
theorem Nv {z:Nat} {l:List DI}:gG C (.draw z l) k τ h↔bW C (hM C) (oC C) h.next (λτ h=>k .normal τ h) l [] [] τ ⟨h.next+z,h.ver,h.oB⟩:=by
 constructor
 ·rintro⟨n,hr⟩;obtain⟨m,rfl⟩:=rW hC hr;rw[gh] at hr;dsimp only at hr;rw[dT] at hr;exact uL hC (c1 hC m) (y1 hC m) (λf a h k hk=>⟨m,hk⟩) (λf a h k hk=>⟨m,hk⟩) _ l _ _ τ _ hr
 ·intro hr;obtain⟨m,h1⟩:=Av hC (cK:=λn=>iS C (run C n)) (yK:=λn=>iD C (run C n)) (c1 hC) (y1 hC) (GZ hC) (G0 hC) l _ _ τ _ hr;exact⟨m+1,by rw[gh];dsimp only;rw[dT];exact h1⟩
theorem ab8 {l:List MG} {x:MA} {fn:Nat}:gG C (.dfr l x fn) k τ h↔dO C (hM C) (oC C) (λτ h=>match az C τ x with
 | .f g _ _=>(bif Nat.beq g fn then k .normal τ h else False)
 |_=>False) l τ h:=by
 constructor
 ·rintro⟨n,hr⟩;obtain⟨m,rfl⟩:=rW hC hr;rw[gh] at hr;dsimp only at hr;rw[hC.fail] at hr;exact yc hC (c1 hC m) (y1 hC m) (λf a h k hk=>⟨m,hk⟩) (λf a h k hk=>⟨m,hk⟩) _ l τ h hr
 ·intro hr;obtain⟨m,h1⟩:=GY hC (cK:=λn=>iS C (run C n)) (yK:=λn=>iD C (run C n)) (c1 hC) (y1 hC) (GZ hC) (G0 hC) l τ h hr;exact⟨m+1,by rw[gh];dsimp only;rw[hC.fail];exact h1⟩
theorem Nw {f:Nat} {args:List AV} {k:AV ->AH ->Prop}:hM C f args h k↔C.spec f args h k (du C f args h k):=
 ⟨λ⟨n,hr⟩=>hC.fb _ _ _ _ _ _ (λhb=>⟨n,hb⟩) hr,λhr=>hC.fbc _ _ _ _ _ hr⟩
theorem ab9 {f:Nat} {args:List AV} {k:AV ->AH ->Prop} {fn:au} (hf:C.ae.get f=some fn):du C f args h k↔gG C fn.body (λe τ h=>match e with
 | .exit _=>False
 |_=>match eZ τ h fn.res with|some v=>k v h|none=>False) (oA args 0 .e) h:=by
 unfold du j4 gG;rw[hf,hC.fail];simp only[xZ];exact Iff.rfl
end
section
variable {C:aK Prop} {ck yk:Nat ->List AV ->AH ->(AV ->AH ->Prop) ->Prop}
def ac0 {k:T AV ->AH ->Prop} {τ h}:dO C ck yk k [] τ h=k τ h:=rfl
def Nx {k:T AV ->AH ->Prop} {g l τ h}:dO C ck yk k (g::l) τ h=eY C ck yk g τ h (λx h=>dO C ck yk k l (cj τ g.dst x) h):=by
 show eY C ck yk g τ h (λx h=>eh τ g.dst x λτ=>dO C ck yk k l τ h)=_;simp only[iI]
def ac1 {k:T AV ->AH ->Prop} {d op l τ h}:dO C ck yk k (⟨d,op,none⟩::l) τ h=(match step (az C τ) h op with
 | .v x h=>dO C ck yk k l (cj τ d x) h
 | .call f a h=>ck f a h λx h=>dO C ck yk k l (cj τ d x) h
 | .yld o a h=>yk o a h λx h=>dO C ck yk k l (cj τ d x) h
 | .alts q=>gQ C (λx h=>dO C ck yk k l (cj τ d x) h) q
 | .bad=>C.fail):=by
 rw[Nx];unfold eY;dsimp only;cases step (az C τ) h op<;>rfl
def ac2 {k:T AV ->AH ->Prop} {d op l τ h t w}:dO C ck yk k (⟨d,op,some (t,w)⟩::l) τ h=(match τ.get t with
 |some (.b x)=>(if x=w then (match step (az C τ) h op with
  | .v x h=>dO C ck yk k l (cj τ d x) h
  | .call f a h=>ck f a h λx h=>dO C ck yk k l (cj τ d x) h
  | .yld o a h=>yk o a h λx h=>dO C ck yk k l (cj τ d x) h
  | .alts q=>gQ C (λx h=>dO C ck yk k l (cj τ d x) h) q
  | .bad=>C.fail) else dO C ck yk k l (cj τ d (.tu [])) h)
 |some (.tu [])=>dO C ck yk k l (cj τ d (.tu [])) h
 |_=>C.fail):=by
 rw[Nx];unfold eY;dsimp only;cases τ.get t with
 |none=>rfl
 |some y=>
  cases y with
  |b x=>cases x<;>cases w<;>(cases step (az C τ) h op<;>rfl)
  |tu l=>cases l<;>rfl
  |_=>rfl
def ac3 {τ:T AV} {d x}:cj τ (some d) x=τ.put d x:=rfl
def ac4 {τ:T AV} {x}:cj τ none x=τ:=rfl
def oD {τ:T AV} {n}:az C τ (.t n)=(τ.get n).getD .un:=by
 show(Option.rec .un (λv=>v) (τ.get n):AV)=_;cases τ.get n<;>rfl
def tB {τ:T AV} {v}:az C τ (.c v)=v:=rfl
section
variable {ev:MA ->AV} {h:AH}
def Ny {a}:step ev h (.mv a)= .v (ev a) h:=by show fV (ev a) (λx=>ay.v x h)=_;rw[jK]
def Nz {c a b}:step ev h (.pick c a b)=(match ev c with| .b x=>(if x=true then .v (ev a) h else .v (ev b) h)|_=> .bad):=by
 show(match ev c with| .b x=>(Bool.rec (fV (ev b) λx=>ay.v x h) (fV (ev a) λx=>ay.v x h) x:ay)|_=>ay.bad)=_;cases ev c<;>simp only[jK];rename_i x;cases x<;>rfl
def NC {z}:step ev h (.alloc z)= .v (.p h.next 0) ⟨h.next+1,h.ver,h.oB.put h.next (.cells h.ver z)⟩:=by
 show(h.new (.cells h.ver z) λo h=>ay.v (.p o 0) h)=_;rw[AH.new_eq]
def ND {a n}:step ev h (.box a n)=(match cellsO (ev a) with|some l=> .v (.p h.next 0) ⟨h.next+1,h.ver,h.oB.put h.next (.cells h.ver l)⟩|none=> .bad):=by
 show(match cellsO (ev a) with|some l=>h.new (.cells h.ver l) λo h=>ay.v (.p o 0) h|none=>ay.bad)=_;simp only[AH.new_eq]
def NE {z ps}:step ev h (.build z ps)=(match ik ev ps z with|some l=> .v (.ag l) h|none=> .bad):=rfl
def NF {a n agg}:step ev h (.load a n agg)=(match ev a with
 | .p o off=>match h.cells o with
  |some l=>match sub l off n with|some c=>dr h (dB agg c)|none=> .bad
  |none=> .bad
 | .dp l off=>match sub l off n with|some c=>dr h (dB agg c)|none=> .bad
 |_=> .bad):=rfl
def NG {a x n}:step ev h (.store a x n)=(match ev a with
 | .p o off=>match h.cells o with
  |some l=>match dW (cellsOf (ev x)) l off with
   |some l'=>(if (cF (cellsOf (ev x))&&Nat.beq (len (cellsOf (ev x))) n)=true then .v .un ⟨h.next,h.ver+1,h.oB.put o (.cells (h.ver+1) l')⟩ else .bad)
   |none=> .bad
  |none=> .bad
 |_=> .bad):=by
 show(match ev a with
  | .p o off=>match h.cells o with
   |some l=>fV (ev x) λx=>match dW (cellsOf x) l off with
    |some l'=>bif cF (cellsOf x)&&Nat.beq (len (cellsOf x)) n then h.put o (.cells (Nat.succ h.ver) l') λh=>ay.v .un h else ay.bad
    |none=>ay.bad
   |none=>ay.bad
  |_=>ay.bad)=_
 simp only[AH.put_eq,jK,fv]
def NH {op x y}:step ev h (.bin op x y)=dr h (aY op (ev x) (ev y)):=rfl
def NI {ne e x y}:step ev h (.eqv ne e x y)=(match eH 6 e (ev x) (ev y) with|some r=> .v (.b (bif ne then !r else r)) h|none=> .bad):=rfl
def NJ {op x}:step ev h (.un op x)=dr h (um op (ev x)):=rfl
def G1 {fn a b}:step ev h (.mfn fn a b)=(match eE ev a,eE ev b with|some a,some b=> .v (.f fn a b) h|_,_=> .bad):=rfl
def NK {x off}:step ev h (.fadr x off)=(match ev x with| .p o a=> .v (.p o (a+off)) h| .dp l a=> .v (.dp l (a+off)) h|_=> .bad):=by
 show(match ev x with| .p o a=>fN (a+off) λa=>ay.v (.p o a) h| .dp l a=>fN (a+off) λa=>ay.v (.dp l a) h|_=>ay.bad)=_;simp only[dT]
def NL {f a}:step ev h (.call f a)=(match eE ev a with|some l=> .call f l h|none=> .bad):=rfl
def NM {x i}:step ev h (.ext x i)=(match ev x with| .tu l=>dr h (lH l i)|_=> .bad):=rfl
def NN {x}:dr h (some x)= .v x h:=rfl
def wy:eE ev []=some []:=rfl
def wC {a l}:eE ev (a::l)=(eE ev l).map (ev a:: ·):=by
 show(Option.rec none (λb=>Option.rec none (λt=>some (b::t)) (eE ev l)) (fV (ev a) some):Option (List AV))=_;rw[jK];cases eE ev l<;>rfl
end
def uN {k:IntKind}:gZ k k=true:=by cases k<;>rfl
def NO {k:IntKind} {a b:Int}:aY .lss (.i k a) (.i k b)=some (.b (decide (a<b))):=by
 show(bif gZ k k then rb (fD a b) else none)=_;rw[uN,mI];show rb _=_;unfold rb;rw[rR]
def NP {k:IntKind} {a b:Int}:aY .geq (.i k a) (.i k b)=some (.b (decide (b<=a))):=by
 show(bif gZ k k then rb (!(fD a b)) else none)=_;rw[uN,mI];show rb _=_;unfold rb;rw[rR];congr 2;rw[xB];simp
def NQ {k:IntKind} {a b:Int}:aY .eql (.i k a) (.i k b)=some (.b (decide (a=b))):=by
 show(bif gZ k k then rb (eO a b) else none)=_;rw[uN,fg];show rb _=_;unfold rb;rw[rR]
def NR {k:IntKind} {a b:Int}:aY .neq (.i k a) (.i k b)=some (.b (!decide (a=b))):=by
 show(bif gZ k k then rb (!(eO a b)) else none)=_;rw[uN,fg];show rb _=_;unfold rb;rw[rR]
def G2 {n:Int} (h: -9223372036854775808<=n/\ n<=9223372036854775807):dN .i64 n=n:=by
 rw[vW];exact IntWalk.i64_in n h
def wD {a b:Int} (h: -9223372036854775808<=a+b/\ a+b<=9223372036854775807):aY .add (ι a) (ι b)=some (ι (a+b)):=by
 show ri .i64 (dN .i64 (a+b))=_;rw[G2 h];unfold ri;rw[zO]
def rX {a b:Int} (h: -9223372036854775808<=a-b/\ a-b<=9223372036854775807):aY .sub (ι a) (ι b)=some (ι (a-b)):=by
 show ri .i64 (dN .i64 (a-b))=_;rw[G2 h];unfold ri;rw[zO]
def NS {b:Bool}:um .not (.b b)=some (.b !b):=by show rb _=_;unfold rb;rw[rR]
end
section
variable {C:aK Prop} {ck yk:Nat ->List AV ->AH ->(AV ->AH ->Prop) ->Prop}
def ac5 {base} {k:T AV ->AH ->Prop} {ls pd τ h}:bW C ck yk base k [] ls pd τ h=k τ h:=rfl
def ac6 {base} {k:T AV ->AH ->Prop} {i g l ls pd τ h}:bW C ck yk base k (.light i g::l) ls pd τ h=(match ez C τ h g with
 |some x=>bW C ck yk base k l ((i,g)::ls) pd (cj τ g.dst x) h
 |none=>C.fail):=by
 show(match ez C τ h g with
  |some x=>eh τ g.dst x λτ=>bW C ck yk base k l ((i,g)::ls) pd τ h
  |none=>C.fail)=_
 simp only[iI]
def ac7 {base} {k:T AV ->AH ->Prop} {i n g l ls pd τ h}:bW C ck yk base k (.resv i n g::l) ls pd τ h=(match step (az C τ) ⟨base+n,h.ver,.e⟩ g.op with
 | .v x h'=>match h'.oB.get (base+n) with
  |some ob=>bW C ck yk base k l ls ((i,base+n,ob)::pd) (cj τ g.dst x) h
  |none=>C.fail
 |_=>C.fail):=by
 show(fN (base+n) λid=>match step (az C τ) ⟨id,h.ver,.e⟩ g.op with
  | .v x h'=>match h'.oB.get id with
   |some ob=>eh τ g.dst x λτ=>bW C ck yk base k l ls ((i,id,ob)::pd) τ h
   |none=>C.fail
  |_=>C.fail)=_
 simp only[dT,iI]
def ac8 {base} {k:T AV ->AH ->Prop} {i l ls pd τ h}:bW C ck yk base k (.lay i::l) ls pd τ h=(match iC i pd with
 |some (id,ob)=>bW C ck yk base k l ls pd τ ⟨h.next,h.ver+1,h.oB.put id ob⟩
 |none=>C.fail):=by
 show(match iC i pd with
  |some (id,ob)=>h.put id ob λh=>bW C ck yk base k l ls pd τ h
  |none=>C.fail)=_
 simp only[AH.put_eq]
def NT {base} {k:T AV ->AH ->Prop} {i g mask l ls pd τ h}:bW C ck yk base k (.heavy i g mask::l) ls pd τ h=
 eY C ck yk g τ h (λx h=>eA C (cj τ g.dst x) h mask ls (bW C ck yk base k l ls pd (cj τ g.dst x) h)):=by
 show eY C ck yk g τ h (λx h=>eh τ g.dst x λτ=>eA C τ h mask ls (bW C ck yk base k l ls pd τ h))=_;simp only[iI]
def ac9 {base} {k:T AV ->AH ->Prop} {i d op mask l ls pd τ h}:bW C ck yk base k (.heavy i ⟨d,op,none⟩ mask::l) ls pd τ h=(match step (az C τ) h op with
 | .v x h=>eA C (cj τ d x) h mask ls (bW C ck yk base k l ls pd (cj τ d x) h)
 | .call f a h=>ck f a h λx h=>eA C (cj τ d x) h mask ls (bW C ck yk base k l ls pd (cj τ d x) h)
 | .yld o a h=>yk o a h λx h=>eA C (cj τ d x) h mask ls (bW C ck yk base k l ls pd (cj τ d x) h)
 | .alts q=>gQ C (λx h=>eA C (cj τ d x) h mask ls (bW C ck yk base k l ls pd (cj τ d x) h)) q
 | .bad=>C.fail):=by
 rw[NT];unfold eY;dsimp only;cases step (az C τ) h op<;>rfl
def ad2 {base} {k:T AV ->AH ->Prop} {i d op t w mask l ls pd τ h}:bW C ck yk base k (.heavy i ⟨d,op,some (t,w)⟩ mask::l) ls pd τ h=(match τ.get t with
 |some (.b x)=>(if x=w then (match step (az C τ) h op with
  | .v x h=>eA C (cj τ d x) h mask ls (bW C ck yk base k l ls pd (cj τ d x) h)
  | .call f a h=>ck f a h λx h=>eA C (cj τ d x) h mask ls (bW C ck yk base k l ls pd (cj τ d x) h)
  | .yld o a h=>yk o a h λx h=>eA C (cj τ d x) h mask ls (bW C ck yk base k l ls pd (cj τ d x) h)
  | .alts q=>gQ C (λx h=>eA C (cj τ d x) h mask ls (bW C ck yk base k l ls pd (cj τ d x) h)) q
  | .bad=>C.fail) else eA C (cj τ d (.tu [])) h mask ls (bW C ck yk base k l ls pd (cj τ d (.tu [])) h))
 |some (.tu [])=>eA C (cj τ d (.tu [])) h mask ls (bW C ck yk base k l ls pd (cj τ d (.tu [])) h)
 |_=>C.fail):=by
 rw[NT];unfold eY;dsimp only;cases τ.get t with
 |none=>rfl
 |some y=>
  cases y with
  |b x=>cases x<;>cases w<;>(cases step (az C τ) h op<;>rfl)
  |tu l=>cases l<;>rfl
  |_=>rfl
def ad3 {d op τ h}:ez C τ h ⟨d,op,none⟩=(match step (az C τ) h op with| .v x _=>some x|_=>none):=rfl
def ad4 {d op t w τ h}:ez C τ h ⟨d,op,some (t,w)⟩=(match τ.get t with
 |some (.b x)=>(if x=w then (match step (az C τ) h op with| .v x _=>some x|_=>none) else some (.tu []))
 |some (.tu [])=>some (.tu [])
 |_=>none):=by
 unfold ez;dsimp only;cases τ.get t with
 |none=>rfl
 |some y=>
  cases y with
  |b x=>cases x<;>cases w<;>rfl
  |tu l=>cases l<;>rfl
  |_=>rfl
def ad5 {τ h mask i g ls k}:eA C τ h mask ((i,g)::ls) k=(if Nat.testBit mask i=true then eA C τ h mask ls k else match ez C τ h g with
 |some x=>match g.dst with
  |none=>eA C τ h mask ls k
  |some d=>match τ.get d with
   |some y=>(if cZ 64 x y=true then eA C τ h mask ls k else C.fail)
   |none=>C.fail
 |none=>C.fail):=by
 show(bif Nat.testBit mask i then eA C τ h mask ls k else match ez C τ h g with
  |some x=>match g.dst with
   |none=>eA C τ h mask ls k
   |some d=>match τ.get d with
    |some y=>bif cZ 64 x y then eA C τ h mask ls k else C.fail
    |none=>C.fail
  |none=>C.fail)=_
 simp only[fv]
def ad6 {i e l}:iC i (e::l)=(if e.1=i then some e.2 else iC i l):=by
 show(bif Nat.beq e.1 i then some e.2 else iC i l)=_;rw[bu,rM]
def nice:Nat ->AV ->Bool
 |_,.un=>false
 |n+1,.dp l _=>niceL n l
 |n+1,.ds l _ _ _=>niceL n l
 |n+1,.f _ x y=>niceL n x&&niceL n y
 |n+1,.ifc _ v=>nice n v
 |n+1,.ag l=>niceL n l
 |n+1,.tu l=>niceL n l
 |0,.dp _ _|0,.ds .. |0,.f .. |0,.ifc .. |0,.ag _|0,.tu _=>false
 |_,_=>true
 where niceL (n:Nat):List AV ->Bool
 |[]=>true
 |a::l=>nice n a&&niceL n l
def Dh {k:IntKind}:gZ k k=true:=by cases k<;>rfl
def wE {f:AV ->AV ->Bool}:∀{l:List AV},(∀a∈l,f a a=true) ->cZ.avEqs f l l=true
 |[],_=>rfl
 |a::l,h=>by
  show(f a a&&cZ.avEqs f l l)=true;rw[h a jG,wE λb hb=>h b (jw _ hb)];rfl
def wF {n:Nat}:∀{l:List AV},nice.niceL n l=true ->∀a∈l,nice n a=true
 |[],_,a,ha=>by cases ha
 |b::l,h,a,ha=>by
  have h':(nice n b&&nice.niceL n l)=true:=by rw[←h];simp only[nice.niceL]
  rw[aB] at h';rcases ed.1 ha with rfl|ha
  ·exact h'.1
  ·exact wF h'.2 a ha
def NU:∀(n:Nat) (a:AV),nice n a=true ->cZ n a a=true:=by
 intro n;induction n with
 |zero=>
  intro a h;cases a<;>first|(simp only[nice] at h;cases h;done)|skip
  all_goals unfold cZ;simp[Dh,fg,mH,bu]
  all_goals (rename_i c _;cases c<;>simp[])
 |succ n ih=>
  intro a h;cases a with
  |dp l o=>simp only[nice] at h;unfold cZ;simp[];exact wE λa ha=>ih a (wF h a ha)
  |ds l o k e=>simp only[nice] at h;unfold cZ;simp[];exact wE λa ha=>ih a (wF h a ha)
  |f g x y=>simp only[nice,aB] at h;unfold cZ;simp[];exact⟨wE λa ha=>ih a (wF h.1 a ha),wE λa ha=>ih a (wF h.2 a ha)⟩
  |ifc t v=>simp only[nice] at h;unfold cZ;simp[];exact ih v h
  |ag l=>simp only[nice] at h;unfold cZ;exact wE λa ha=>ih a (wF h a ha)
  |tu l=>simp only[nice] at h;unfold cZ;exact wE λa ha=>ih a (wF h a ha)
  |un=>simp only[nice] at h;cases h
  |sl o a n c e=>unfold cZ;cases c<;>simp[]
  |b x=>unfold cZ;cases x<;>rfl
  |i k x=>unfold cZ;simp[Dh,fg]
  |s x=>unfold cZ;simp[mH]
  |p o a=>unfold cZ;simp[]
  |m o=>unfold cZ;simp[]
  |y o=>unfold cZ;simp[]
  |_=>unfold cZ;rfl
end
section
variable {ev:MA ->AV} {h:AH}
def tC {k:IntKind} {n:Nat}:fP (.i k (n:Int))=some n:=rfl
def NV {a}:nA ev a=fP (ev a):=rfl
def uO:nO ev none=none:=rfl
def uP {a}:nO ev (some a)=some (fP (ev a)):=rfl
def ad7 {a}:step ev h (.nilc a)=(match ev a with
 | .p o a=> .v (.p o a) h
 | .dp l a=> .v (.dp l a) h
 | .f g a b=> .v (.f g a b) h
 | .y l=> .v (.y l) h
 | .ifc t v=> .v (.ifc t v) h
 | .m o=> .v (.m o) h
 |_=> .bad):=rfl
def ad9 {l}:ik ev [] l=some l:=rfl
def ae0 {p:Nat×Nat×MA} {ps l}:ik ev (p::ps) l=(match cellsO (ev p.2.2) with
 |some c=>(if c.length=p.2.1 then (match dW c l p.1 with|some l=>ik ev ps l|none=>none) else none)
 |none=>none):=by
 show(match cellsO (ev p.2.2) with
  |some c=>bif Nat.beq (len c) p.2.1 then (match dW c l p.1 with|some l=>ik ev ps l|none=>none) else none
  |none=>none)=_
 simp only[kZ,bu,rM]
def ae1 {k n}:cellsO (.i k n)=some [.i k n]:=rfl
def ae2 {o a n c e}:cellsO (.sl o a n c e)=some [.sl o a n c e]:=rfl
def ae3:cellsO .sn=some [.sn]:=rfl
def ae4 {l a n e}:cellsO (.ds l a n e)=some [.ds l a n e]:=rfl
def ae5 {o}:cellsO (.m o)=some [.m o]:=rfl
def ae6 {o a}:cellsO (.p o a)=some [.p o a]:=rfl
def ae7 {b}:cellsO (.b b)=some [.b b]:=rfl
def ae8 {b}:cellsO (.s b)=some [.s b]:=rfl
def ae9 {g a b}:cellsO (.f g a b)=some [.f g a b]:=rfl
def af0 {k n}:cellsOf (.i k n)=[.i k n]:=rfl
def af1 {o a n c e}:cellsOf (.sl o a n c e)=[.sl o a n c e]:=rfl
def af2:cellsOf .sn=[.sn]:=rfl
def af3 {l a n e}:cellsOf (.ds l a n e)=[.ds l a n e]:=rfl
def af4 {o}:cellsOf (.m o)=[.m o]:=rfl
def af5 {o a}:cellsOf (.p o a)=[.p o a]:=rfl
def af6 {b}:cellsOf (.b b)=[.b b]:=rfl
def af7 {b}:cellsOf (.s b)=[.s b]:=rfl
def af8 {g a b}:cellsOf (.f g a b)=[.f g a b]:=rfl
def af9 {k n}:ew (.i k n)=true:=rfl
def ag0 {o a n c e}:ew (.sl o a n c e)=true:=rfl
def ag1:ew .sn=true:=rfl
def ag2 {l a n e}:ew (.ds l a n e)=true:=rfl
def ag3 {o}:ew (.m o)=true:=rfl
def ag4 {o a}:ew (.p o a)=true:=rfl
def ag5 {b}:ew (.b b)=true:=rfl
def ag6 {b}:ew (.s b)=true:=rfl
def ag7 {g a b}:ew (.f g a b)=true:=rfl
def cG:Option bC ->Option (List AV)
 |some (.cells _ l)=>some l
 |_=>none
def wG {n v t o}:AH.cells ⟨n,v,t⟩ o=cG (t.get o):=by
 show(match t.get o with|some (.cells _ l)=>some l|_=>none)=_;cases t.get o with
 |none=>rfl
 |some x=>cases x<;>rfl
def d9 {v l}:cG (some (.cells v l))=some l:=rfl
def ag8 {n v t o}:AH.get ⟨n,v,t⟩ o=t.get o:=rfl
def NW {z n esz ps}:step ev h (.bslice z n esz ps)=(match ik ev ps z with
 |some l=> .v (.sl h.next 0 n (some n) esz) ⟨h.next+1,h.ver,h.oB.put h.next (.cells h.ver l)⟩
 |none=> .bad):=by
 show(match ik ev ps z with|some l=>h.new (.cells h.ver l) λo h=>ay.v (.sl o 0 n (some n) esz) h|none=>ay.bad)=_;simp only[AH.new_eq]
def NX {t x}:step ev h (.mif t x)= .v (.ifc t (ev x)) h:=by show fV (ev x) (λx=>ay.v (.ifc t x) h)=_;rw[jK]
def NY:step ev h (.mmap none)= .v (.m h.next) ⟨h.next+1,h.ver,h.oB.put h.next (.map h.ver [] 0)⟩:=by
 show(h.new (.map h.ver [] 0) λo h=>ay.v (.m o) h)=_;rw[AH.new_eq]
def NZ {z esz b l c}:step ev h (.mslice z esz b l c)=(match nA ev l,nA ev c with
 |some l,some c=>(if l<=c/\ c<=1048576 then .v (.sl h.next 0 l (some c) esz) ⟨h.next+1,h.ver,h.oB.put h.next (.cells h.ver (List.replicate c z).flatten)⟩ else .bad)
 |_,_=> .bad):=by
 show(match nA ev l,nA ev c with
  |some l,some c=>bif Nat.ble l c&&Nat.ble c 1048576 then (match rN z c with
   |some r=>h.new (.cells h.ver r) λo h=>ay.v (.sl o 0 l (some c) esz) h
   |none=>ay.bad) else ay.bad
  |_,_=>ay.bad)=_
 cases nA ev l with
 |none=>cases nA ev c<;>rfl
 |some l=>
  cases nA ev c with
  |none=>rfl
  |some c=>simp only[AH.new_eq,zP,fv,aB,dm,aU]
def Oa {x off n agg}:step ev h (.fld x off n agg)=(match ev x with| .ag l=>(match sub l off n with|some c=>dr h (dB agg c)|none=> .bad)|_=> .bad):=rfl
def Ob {es x i}:step ev h (.iadr es x i)=(match nA ev i with
 |some k=>match ev x with
  | .sl o off n _ esz=>(if esz=es/\ k<n then .v (.p o (off+k*esz)) h else .bad)
  | .ds l off n esz=>(if esz=es/\ k<n then .v (.dp l (off+k*esz)) h else .bad)
  |_=> .bad
 |none=> .bad):=by
 show(match nA ev i with
  |some k=>match ev x with
   | .sl o off n _ esz=>bif Nat.beq esz es&&Nat.ble (Nat.succ k) n then fN (off+k*esz) λa=>ay.v (.p o a) h else ay.bad
   | .ds l off n esz=>bif Nat.beq esz es&&Nat.ble (Nat.succ k) n then fN (off+k*esz) λa=>ay.v (.dp l a) h else ay.bad
   |_=>ay.bad
  |none=>ay.bad)=_
 simp only[dT,fv,aB,dm,bu,aU,FJ]
def Oc {n esz x i}:step ev h (.iadra n esz x i)=(match nA ev i with
 |some k=>(if k<n then (match ev x with
  | .p o off=> .v (.p o (off+k*esz)) h
  | .dp l off=> .v (.dp l (off+k*esz)) h
  |_=> .bad) else .bad)
 |none=> .bad):=by
 show(match nA ev i with
  |some k=>bif Nat.ble (Nat.succ k) n then (match ev x with
   | .p o off=>fN (off+k*esz) λa=>ay.v (.p o a) h
   | .dp l off=>fN (off+k*esz) λa=>ay.v (.dp l a) h
   |_=>ay.bad) else ay.bad
  |none=>ay.bad)=_
 simp only[dT,fv,dm,aU,FJ]
def Od {n esz agg x i}:step ev h (.idxa n esz agg x i)=(match nA ev i,ev x with
 |some k,.ag l=>(if k<n then (match sub l (k*esz) esz with|some c=>dr h (dB agg c)|none=> .bad) else .bad)
 |_,_=> .bad):=by
 show(match nA ev i,ev x with
  |some k,.ag l=>bif Nat.ble (Nat.succ k) n then (match sub l (k*esz) esz with|some c=>dr h (dB agg c)|none=>ay.bad) else ay.bad
  |_,_=>ay.bad)=_
 simp only[fv,dm,aU,FJ]
def Oe {f a}:step ev h (.callv f a)=(match eE ev a with
 |some l=>match ev f with
  | .f g fi ca=> .call g (fi++(l++ca)) h
  | .y o=> .yld o l h
  |_=> .bad
 |none=> .bad):=by
 show(match eE ev a with
  |some l=>match ev f with
   | .f g fi ca=>match fy l ca with
    |some l=>match fy fi l with|some l=>ay.call g l h|none=>ay.bad
    |none=>ay.bad
   | .y o=>ay.yld o l h
   |_=>ay.bad
  |none=>ay.bad)=_
 simp only[jz]
def Of {x}:step ev h (.len .str x)=(match ev x with| .s l=> .v (ι (l.length:Int)) h|_=> .bad):=by
 show(match ev x with| .s l=>fN (len l) λn=>ay.v (ι (.ofNat n)) h|_=>ay.bad)=_;simp only[dT,kZ,nB]
def Og {n x}:step ev h (.len (.arr n) x)= .v (ι (n:Int)) h:=rfl
def yd {x}:step ev h (.len .slice x)=(match ev x with
 | .sl _ _ n _ _=> .v (ι (n:Int)) h
 | .ds _ _ n _=> .v (ι (n:Int)) h
 | .sn=> .v (ι 0) h
 |_=> .bad):=by
 show(match ev x with
  | .s _=>ay.bad
  |y=>match ij y with|some n=>ay.v (ι (.ofNat n)) h|none=>ay.bad)=_
 cases ev x<;>rfl
def Oh {k x}:step ev h (.cvi k x)=(match ev x with| .i _ n=>dr h (ri k (dN k n))|_=> .bad):=rfl
def Oi {es x lo hi l off n esz} (h1:ev x= .ds l off n esz):step ev h (.slc es x lo hi none)=(if esz=es then (match d7 n n (nO ev lo) (nO ev hi) none with
 |some (a,b,_)=> .v (.ds l (off+a*esz) (b-a) esz) h
 |none=> .bad) else .bad):=by
 show(match ev x with
  | .sl o off n cap esz=>bif !(Nat.beq esz es) then ay.bad else match cap with
   |some c=>match d7 n c (nO ev lo) (nO ev hi) none with
    |some (l,r,m)=>fN (off+l*esz) λoff=>fN (r-l) λn=>fN (m-l) λc=>ay.v (.sl o off n (some c) esz) h
    |none=>ay.bad
   |none=>match d7 n n (nO ev lo) (nO ev hi) none with
    |some (l,r,_)=>fN (off+l*esz) λoff=>fN (r-l) λn=>ay.v (.sl o off n none esz) h
    |none=>ay.bad
  | .ds c off n esz=>bif !(Nat.beq esz es) then ay.bad else match d7 n n (nO ev lo) (nO ev hi) none with
   |some (l,r,_)=>fN (off+l*esz) λoff=>fN (r-l) λn=>ay.v (.ds c off n esz) h
   |none=>ay.bad
  | .sn=>match d7 0 0 (nO ev lo) (nO ev hi) none with|some _=>ay.v .sn h|none=>ay.bad
  |_=>ay.bad)=_
 rw[h1];simp only[dT,bu];by_cases e:esz=es
 ·simp[e]
 ·simp[e]
def Oj {l}:dB true l=some (.ag l):=rfl
def Ok {v}:dB false [v]=some v:=rfl
def Ol {l}:cellsO (.ag l)=some l:=rfl
def Om {l:List AV}:sub l 0 0=some []:=by rw[nH];simp
def On {a:AV} {l:List AV} {n:Nat}:sub (a::l) 0 (n+1)=(sub l 0 n).map (a:: ·):=by
 rw[nH,nH];by_cases h:n<=l.length
 ·simp[h]
 ·simp[h]
def Oo {a:AV} {l:List AV} {m n:Nat}:sub (a::l) (m+1) n=sub l m n:=by
 rw[nH,nH];by_cases h:m<=l.length/\ m+n<=l.length
 ·rw[aF h,aF (by simp only[gJ];omega)];rfl
 ·rw[aD h,aD (by simp only[gJ];omega)]
def G3 {l:List AV}:oZ [] l=some l:=rfl
def G4 {x y:AV} {c l:List AV}:oZ (x::c) (y::l)=(oZ c l).map (x:: ·):=by
 rw[vV,vV];by_cases h:c.length<=l.length
 ·simp[h]
 ·simp[h]
def G5 {c l:List AV}:dW c l 0=oZ c l:=by cases l<;>rfl
def Aw {c l:List AV} {a:AV} {n:Nat}:dW c (a::l) (n+1)=(dW c l n).map (a:: ·):=by
 rw[xP,xP];by_cases h:n+c.length<=l.length
 ·rw[aF h,aF (by simp only[gJ];omega),show n+1+c.length=n+c.length+1 by omega];simp
 ·rw[aD h,aD (by simp only[gJ];omega)];rfl
def qR:cF []=true:=rfl
def lT {a:AV} {l:List AV}:cF (a::l)=(ew a&&cF l):=by
 show(Bool.rec false (cF l) (ew a):Bool)=_;cases ew a<;>rfl
def Oq {l}:cellsOf (.ag l)=l:=rfl
end
section
variable {C:aK Prop} {ck yk:Nat ->List AV ->AH ->(AV ->AH ->Prop) ->Prop}
def kO (C:aK Prop) (ck yk:Nat ->List AV ->AH ->(AV ->AH ->Prop) ->Prop) (k:T AV ->AH ->Prop) (l:List MG) (d:Option Nat) (τ:T AV):ay ->Prop
 | .v x h=>dO C ck yk k l (cj τ d x) h
 | .call f a h=>ck f a h λx h=>dO C ck yk k l (cj τ d x) h
 | .yld o a h=>yk o a h λx h=>dO C ck yk k l (cj τ d x) h
 | .alts q=>gQ C (λx h=>dO C ck yk k l (cj τ d x) h) q
 | .bad=>C.fail
def kG (C:aK Prop) (ck yk:Nat ->List AV ->AH ->(AV ->AH ->Prop) ->Prop) (k:T AV ->AH ->Prop) (l:List MG) (d:Option Nat) (op:jn) (w:Bool) (τ:T AV) (h:AH):Option AV ->Prop
 |some (.b x)=>if x=w then kO C ck yk k l d τ (step (az C τ) h op) else dO C ck yk k l (cj τ d (.tu [])) h
 |some (.tu [])=>dO C ck yk k l (cj τ d (.tu [])) h
 |_=>C.fail
def ag9 {k:T AV ->AH ->Prop} {l d τ x h}:kO C ck yk k l d τ (.v x h)=dO C ck yk k l (cj τ d x) h:=rfl
def ah0 {k:T AV ->AH ->Prop} {l d τ f a h}:kO C ck yk k l d τ (.call f a h)=ck f a h λx h=>dO C ck yk k l (cj τ d x) h:=rfl
def ah1 {k:T AV ->AH ->Prop} {l d op w τ h x}:kG C ck yk k l d op w τ h (some (.b x))=if x=w then kO C ck yk k l d τ (step (az C τ) h op) else dO C ck yk k l (cj τ d (.tu [])) h:=rfl
def ah2 {k:T AV ->AH ->Prop} {l d op w τ h}:kG C ck yk k l d op w τ h (some (.tu []))=dO C ck yk k l (cj τ d (.tu [])) h:=rfl
def G6 {k:T AV ->AH ->Prop} {d op l τ h}:dO C ck yk k (⟨d,op,none⟩::l) τ h=kO C ck yk k l d τ (step (az C τ) h op):=by
 rw[ac1];cases step (az C τ) h op<;>rfl
def Ot {k:T AV ->AH ->Prop} {d op l τ h t w}:dO C ck yk k (⟨d,op,some (t,w)⟩::l) τ h=kG C ck yk k l d op w τ h (τ.get t):=by
 rw[ac2];cases τ.get t with
 |none=>rfl
 |some y=>
  cases y with
  |b x=>unfold kG;dsimp only;split<;>first|rfl|(cases step (az C τ) h op<;>rfl)
  |tu l=>cases l<;>rfl
  |_=>rfl
def kC (C:aK Prop) (k:K Prop) (a b:aw) (τ:T AV) (h:AH):AV ->Prop
 | .b t=>if t=true then gG C a k τ h else gG C b k τ h
 |_=>False
def ah3 {k:K Prop} {a b τ h t}:kC C k a b τ h (.b t)=if t=true then gG C a k τ h else gG C b k τ h:=rfl
def Ou (hC:lQ C) {k:K Prop} {τ:T AV} {h:AH} {x:MA} {a b:aw}:gG C (.cond x a b) k τ h↔kC C k a b τ h (az C τ x):=by
 rw[ab7 hC];cases az C τ x with
 |b t=>cases t<;>simp[kC]
 |_=>rfl
def kL (C:aK Prop) (ck yk:Nat ->List AV ->AH ->(AV ->AH ->Prop) ->Prop) (base:Nat) (k:T AV ->AH ->Prop) (i:Nat) (g:MG) (l:List DI) (ls:List (Nat×MG)) (pd:List (Nat×Nat×bC)) (τ:T AV) (h:AH):Option AV ->Prop
 |some x=>bW C ck yk base k l ((i,g)::ls) pd (cj τ g.dst x) h
 |none=>C.fail
def ah4 {base} {k:T AV ->AH ->Prop} {i g l ls pd τ h x}:kL C ck yk base k i g l ls pd τ h (some x)=bW C ck yk base k l ((i,g)::ls) pd (cj τ g.dst x) h:=rfl
def Ov {base} {k:T AV ->AH ->Prop} {i g l ls pd τ h}:bW C ck yk base k (.light i g::l) ls pd τ h=kL C ck yk base k i g l ls pd τ h (ez C τ h g):=by
 rw[ac6];cases ez C τ h g<;>rfl
def kV:ay ->Option AV
 | .v x _=>some x
 |_=>none
def ah5 {x h}:kV (.v x h)=some x:=rfl
def kW (C:aK Prop) (τ:T AV) (h:AH) (op:jn) (w:Bool):Option AV ->Option AV
 |some (.b x)=>if x=w then kV (step (az C τ) h op) else some (.tu [])
 |some (.tu [])=>some (.tu [])
 |_=>none
def Ow {τ h op w x}:kW C τ h op w (some (.b x))=if x=w then kV (step (az C τ) h op) else some (.tu []):=rfl
def Ox {τ h op w}:kW C τ h op w (some (.tu []))=some (.tu []):=rfl
def Oy {d op τ h}:ez C τ h ⟨d,op,none⟩=kV (step (az C τ) h op):=by rw[ad3];cases step (az C τ) h op<;>rfl
def Oz {d op t w τ h}:ez C τ h ⟨d,op,some (t,w)⟩=kW C τ h op w (τ.get t):=by
 rw[ad4];cases τ.get t with
 |none=>rfl
 |some y=>
  cases y with
  |b x=>unfold kW;dsimp only;split<;>first|rfl|(cases step (az C τ) h op<;>rfl)
  |tu l=>cases l<;>rfl
  |_=>rfl
def Di (C:aK Prop) (ck yk:Nat ->List AV ->AH ->(AV ->AH ->Prop) ->Prop) (base:Nat) (k:T AV ->AH ->Prop) (i id:Nat) (x:AV) (d:Option Nat) (l:List DI) (ls:List (Nat×MG)) (pd:List (Nat×Nat×bC)) (τ:T AV) (h:AH):Option bC ->Prop
 |some ob=>bW C ck yk base k l ls ((i,id,ob)::pd) (cj τ d x) h
 |none=>C.fail
def kR (C:aK Prop) (ck yk:Nat ->List AV ->AH ->(AV ->AH ->Prop) ->Prop) (base:Nat) (k:T AV ->AH ->Prop) (i id:Nat) (d:Option Nat) (l:List DI) (ls:List (Nat×MG)) (pd:List (Nat×Nat×bC)) (τ:T AV) (h:AH):ay ->Prop
 | .v x h'=>Di C ck yk base k i id x d l ls pd τ h (h'.oB.get id)
 |_=>C.fail
def ah6 {base} {k:T AV ->AH ->Prop} {i id x d l ls pd τ h ob}:Di C ck yk base k i id x d l ls pd τ h (some ob)=bW C ck yk base k l ls ((i,id,ob)::pd) (cj τ d x) h:=rfl
def OA {base} {k:T AV ->AH ->Prop} {i id d l ls pd τ h x h'}:kR C ck yk base k i id d l ls pd τ h (.v x h')=Di C ck yk base k i id x d l ls pd τ h (h'.oB.get id):=rfl
def OB {base} {k:T AV ->AH ->Prop} {i n g l ls pd τ h}:bW C ck yk base k (.resv i n g::l) ls pd τ h=kR C ck yk base k i (base+n) g.dst l ls pd τ h (step (az C τ) ⟨base+n,h.ver,.e⟩ g.op):=by
 rw[ac7];cases step (az C τ) ⟨base+n,h.ver,.e⟩ g.op with
 |v x h'=>dsimp only;rw[OA];cases h'.oB.get (base+n)<;>rfl
 |_=>rfl
def kY (C:aK Prop) (ck yk:Nat ->List AV ->AH ->(AV ->AH ->Prop) ->Prop) (base:Nat) (k:T AV ->AH ->Prop) (l:List DI) (ls:List (Nat×MG)) (pd:List (Nat×Nat×bC)) (τ:T AV) (h:AH):Option (Nat×bC) ->Prop
 |some (id,ob)=>bW C ck yk base k l ls pd τ ⟨h.next,h.ver+1,h.oB.put id ob⟩
 |none=>C.fail
def ah7 {base} {k:T AV ->AH ->Prop} {l ls pd τ h id ob}:kY C ck yk base k l ls pd τ h (some (id,ob))=bW C ck yk base k l ls pd τ ⟨h.next,h.ver+1,h.oB.put id ob⟩:=rfl
def OC {base} {k:T AV ->AH ->Prop} {i l ls pd τ h}:bW C ck yk base k (.lay i::l) ls pd τ h=kY C ck yk base k l ls pd τ h (iC i pd):=by
 rw[ac8];cases iC i pd<;>rfl
def kA (C:aK Prop) (ck yk:Nat ->List AV ->AH ->(AV ->AH ->Prop) ->Prop) (base:Nat) (k:T AV ->AH ->Prop) (mask:Nat) (l:List DI) (ls:List (Nat×MG)) (pd:List (Nat×Nat×bC)) (τ:T AV) (h:AH):List (Nat×MG) ->Prop:=
 λch=>eA C τ h mask ch (bW C ck yk base k l ls pd τ h)
def Dj (C:aK Prop) (ck yk:Nat ->List AV ->AH ->(AV ->AH ->Prop) ->Prop) (base:Nat) (k:T AV ->AH ->Prop) (mask:Nat) (l:List DI) (ls:List (Nat×MG)) (pd:List (Nat×Nat×bC)) (τ:T AV) (h:AH) (ch:List (Nat×MG)) (d:Option Nat):Option AV ->Prop
 |some x=>(match d with
  |none=>kA C ck yk base k mask l ls pd τ h ch
  |some d=>match τ.get d with
   |some y=>if cZ 64 x y=true then kA C ck yk base k mask l ls pd τ h ch else C.fail
   |none=>C.fail)
 |none=>C.fail
def ah8 {base} {k:T AV ->AH ->Prop} {mask l ls pd τ h}:kA C ck yk base k mask l ls pd τ h []=bW C ck yk base k l ls pd τ h:=rfl
def OD {base} {k:T AV ->AH ->Prop} {mask l ls pd τ h i g ch}:kA C ck yk base k mask l ls pd τ h ((i,g)::ch)=if Nat.testBit mask i=true then kA C ck yk base k mask l ls pd τ h ch else Dj C ck yk base k mask l ls pd τ h ch g.dst (ez C τ h g):=by
 unfold kA;rw[ad5];split
 ·rfl
 ·cases ez C τ h g<;>rfl
def ah9 {base} {k:T AV ->AH ->Prop} {mask l ls pd τ h ch d x} (e:(τ.get d)=some x) (hn:nice 64 x=true):Dj C ck yk base k mask l ls pd τ h ch (some d) (some x)=kA C ck yk base k mask l ls pd τ h ch:=by
 unfold Dj;dsimp only;rw[e];dsimp only;rw[aF (NU 64 x hn)]
def kH (C:aK Prop) (ck yk:Nat ->List AV ->AH ->(AV ->AH ->Prop) ->Prop) (base:Nat) (k:T AV ->AH ->Prop) (mask:Nat) (d:Option Nat) (l:List DI) (ls:List (Nat×MG)) (pd:List (Nat×Nat×bC)) (τ:T AV):ay ->Prop
 | .v x h=>kA C ck yk base k mask l ls pd (cj τ d x) h ls
 | .call f a h=>ck f a h λx h=>kA C ck yk base k mask l ls pd (cj τ d x) h ls
 | .yld o a h=>yk o a h λx h=>kA C ck yk base k mask l ls pd (cj τ d x) h ls
 | .alts q=>gQ C (λx h=>kA C ck yk base k mask l ls pd (cj τ d x) h ls) q
 | .bad=>C.fail
def ai0 {base} {k:T AV ->AH ->Prop} {mask d l ls pd τ x h}:kH C ck yk base k mask d l ls pd τ (.v x h)=kA C ck yk base k mask l ls pd (cj τ d x) h ls:=rfl
def ai1 {base} {k:T AV ->AH ->Prop} {mask d l ls pd τ f a h}:kH C ck yk base k mask d l ls pd τ (.call f a h)=ck f a h λx h=>kA C ck yk base k mask l ls pd (cj τ d x) h ls:=rfl
def OE {base} {k:T AV ->AH ->Prop} {i d op mask l ls pd τ h}:bW C ck yk base k (.heavy i ⟨d,op,none⟩ mask::l) ls pd τ h=kH C ck yk base k mask d l ls pd τ (step (az C τ) h op):=by
 rw[ac9];cases step (az C τ) h op<;>rfl
def Ax (C:aK Prop) (ck yk:Nat ->List AV ->AH ->(AV ->AH ->Prop) ->Prop) (base:Nat) (k:T AV ->AH ->Prop) (mask:Nat) (d:Option Nat) (op:jn) (w:Bool) (l:List DI) (ls:List (Nat×MG)) (pd:List (Nat×Nat×bC)) (τ:T AV) (h:AH):Option AV ->Prop
 |some (.b x)=>if x=w then kH C ck yk base k mask d l ls pd τ (step (az C τ) h op) else kA C ck yk base k mask l ls pd (cj τ d (.tu [])) h ls
 |some (.tu [])=>kA C ck yk base k mask l ls pd (cj τ d (.tu [])) h ls
 |_=>C.fail
def ai2 {base} {k:T AV ->AH ->Prop} {mask d op w l ls pd τ h x}:Ax C ck yk base k mask d op w l ls pd τ h (some (.b x))=if x=w then kH C ck yk base k mask d l ls pd τ (step (az C τ) h op) else kA C ck yk base k mask l ls pd (cj τ d (.tu [])) h ls:=rfl
def ai3 {base} {k:T AV ->AH ->Prop} {mask d op w l ls pd τ h}:Ax C ck yk base k mask d op w l ls pd τ h (some (.tu []))=kA C ck yk base k mask l ls pd (cj τ d (.tu [])) h ls:=rfl
def OF {base} {k:T AV ->AH ->Prop} {i d op t w mask l ls pd τ h}:bW C ck yk base k (.heavy i ⟨d,op,some (t,w)⟩ mask::l) ls pd τ h=Ax C ck yk base k mask d op w l ls pd τ h (τ.get t):=by
 rw[ad2];cases τ.get t with
 |none=>rfl
 |some y=>
  cases y with
  |b x=>unfold Ax;dsimp only;split<;>first|rfl|(cases step (az C τ) h op<;>rfl)
  |tu l=>cases l<;>rfl
  |_=>rfl
def ai4 {n:Nat} {o a}:nice n (.p o a)=true:=by cases n<;>simp[nice]
def j9 {n:Nat} {k x}:nice n (.i k x)=true:=by cases n<;>simp[nice]
def G7 {n:Nat} {x}:nice n (.b x)=true:=by cases n<;>simp[nice]
def ye {n:Nat} {x}:nice n (.s x)=true:=by cases n<;>simp[nice]
def ai5 {n:Nat} {o a m c e}:nice n (.sl o a m c e)=true:=by cases n<;>simp[nice]
def ai6 {n:Nat} {o}:nice n (.m o)=true:=by cases n<;>simp[nice]
def Dk {n:Nat}:nice n .sn=true:=by cases n<;>simp[nice]
def ai7 {n:Nat}:nice n .pn=true:=by cases n<;>simp[nice]
def ai8 {n:Nat}:nice n .fnil=true:=by cases n<;>simp[nice]
def ai9 {n:Nat}:nice n .ifn=true:=by cases n<;>simp[nice]
def qe {n:Nat} {l}:nice (n+1) (.ag l)=nice.niceL n l:=by simp[nice]
def aj0 {n:Nat} {l}:nice (n+1) (.tu l)=nice.niceL n l:=by simp[nice]
def nN {n:Nat} {l a m e}:nice (n+1) (.ds l a m e)=nice.niceL n l:=by simp[nice]
def fK {n:Nat} {l a}:nice (n+1) (.dp l a)=nice.niceL n l:=by simp[nice]
def iq {n:Nat}:nice.niceL n []=true:=by simp[nice.niceL]
def iu {n:Nat} {a l}:nice.niceL n (a::l)=(nice n a&&nice.niceL n l):=by simp[nice.niceL]
def aj1 {n:Nat} {g a b}:nice (n+1) (.f g a b)=(nice.niceL n a&&nice.niceL n b):=by simp[nice]
def kQ (k:AV ->AH ->Prop) (h:AH):Option AV ->Prop
 |some v=>k v h
 |none=>False
def aj2 {k h v}:kQ k h (some v)=k v h:=rfl
def ke (hC:lQ C) {f:Nat} {args:List AV} {h:AH} {k:AV ->AH ->Prop} {fn:au} (hf:C.ae.get f=some fn):du C f args h k↔gG C fn.body (λe τ h=>match e with
 | .exit _=>False
 |_=>kQ k h (eZ τ h fn.res)) (oA args 0 .e) h:=by
 rw[ab9 hC hf];constructor
 ·refine Df hC λe τ h he=> ?_;cases e with
  |exit _=>exact he
  |_=>dsimp only at he ⊢;cases hq:eZ τ h fn.res<;>(rw[hq] at he;exact he)
 ·refine Df hC λe τ h he=> ?_;cases e with
  |exit _=>exact he
  |_=>dsimp only at he ⊢;cases hq:eZ τ h fn.res<;>(rw[hq] at he;exact he)
end
section
variable {C:aK Prop}
def dX (hC:lQ C):=ap (@Nn C hC)<|ap (@No C hC)<|ap (@Np C hC)<|ap (@Nr C hC)<|ap (@Ou C hC)<|ap (@Nt C hC)<|
 ap (@Nu C hC) (@Nv C hC)
def dE:=ap (@G6 C)<|ap (@Ot C)<|ap (@ac0 C)<|ap (@oD C)<|ap (@tB C)<|
 ap (@ac5 C)<|ap (@Ov C)<|ap (@OB C)<|ap (@OC C)<|ap (@OE C)<|ap (@OF C)<|ap (@Oy C)<|ap (@Oz C)<|
 ap (@ah8 C) (@OD C)
def dF:=ap (@ag9 C)<|ap (@ah0 C)<|ap (@ah1 C)<|ap (@ah2 C)<|ap (@ah3 C)<|ap (@ah4 C)<|ap (@Ow C)<|ap (@Ox C)<|
 ap (@OA C)<|ap (@ah6 C)<|ap (@ah7 C)<|ap (@ai0 C)<|ap (@ai1 C)<|ap (@ai2 C)<|ap (@ai3 C) (@ah9 C)
end
def dG:=ap (@ac3)<|ap (@ac4)<|ap (@T.get_put AV)<|ap (@T.get_put bC)<|ap (@tg) (@lJ)
def aj3:=ap nr<|ap Bool.true_eq_false<|ap @g9<|ap FK<|ap @ah5<|ap @aj2<|ap @decide_eq_true_eq<|ap @decide_eq_false_iff_not<|ap @jH<|ap @Bool.not_eq_false'<|ap jk Fy
def bI:=ap @Ny<|ap @Nz<|ap @NC<|ap @ND<|ap @NE<|ap @NF<|ap @NG<|ap @NH<|ap @NI<|
 ap @NJ<|ap @G1<|ap @NK<|ap @NL<|ap @NM<|ap @NW<|ap @NX<|ap @NY<|ap @NZ<|ap @Oa<|
 ap @Ob<|ap @Oc<|ap @Od<|ap @Oe<|ap @Of<|ap @Og<|ap @yd<|ap @Oh<|
 ap @NN<|ap @wy<|ap @wC<|ap @NO<|ap @NP<|ap @NQ<|ap @NR<|ap @NS<|ap @pY<|
 ap @NV<|ap @uO<|ap @uP<|ap @tC<|ap @Oj<|ap @Ok<|ap @Ol<|ap @Oq<|ap @Om<|ap @On<|ap @Oo<|ap @G3<|ap @G4<|ap @G5<|ap @Aw<|
 ap @qR<|ap @lT<|ap @bu<| @kZ
def aj4:=ap @ai4<|ap @j9<|ap @G7<|ap @ye<|ap @ai5<|ap @ai6<|ap @Dk<|ap @ai7<|ap @ai8<|ap @ai9<|ap @qe<|ap @aj0<|ap @nN<|ap @fK<|ap @aj1<|ap @iq @iu
def aj5:=ap @ad7<|ap @wG<|ap @d9<|ap @ag8<|ap @ad9<|ap @ae0<|ap @ae1<|ap @ae2<|ap @ae3<|ap @ae4<|ap @ae5<|ap @ae6<|ap @ae7<|ap @ae8<|ap @ae9<|ap @af0<|ap @af1<|ap @af2<|ap @af3<|ap @af4<|ap @af5<|ap @af6<|ap @af7<|ap @af8<|ap @af9<|ap @ag0<|ap @ag1<|ap @ag2<|ap @ag3<|ap @ag4<|ap @ag5<|ap @ag6<|ap @ag7<|ap @ad6<|ap (@gJ AV) (@ji AV)
attribute [go_sem] eq_self decide_true decide_false Nat.testBit not_true_eq_false not_false_eq_true Option.getD_some Nat.add_zero Nat.zero_add Nat.zero_mul Nat.one_mul Nat.mul_one Option.map_some List.nil_append List.append_nil List.cons_append and_self cond_true cond_false List.getElem?_cons_zero List.getElem?_cons_succ aj3 aj5 aj4 oA Cw
def deep:Nat ->AH ->AV ->Option AV
 |_,_,.b x=>some (.b x)
 |_,_,.i k n=>some (.i k n)
 |_,_,.s l=>some (.s l)
 |_,_,.pn=>some .pn
 |_,_,.sn=>some .sn
 |_,_,.mn=>some .mn
 |_,_,.fnil=>some .fnil
 |_,_,.ifn=>some .ifn
 |_,_,.un=>some .un
 |n+1,h,.p o off=>match h.oB.get o with
  |some (.cells _ l)=>match eM (deep n h) l with|some l=>some (.dp l off)|none=>none
  |_=>none
 |n+1,h,.sl o off len _ esz=>match h.oB.get o with
  |some (.cells _ l)=>match eM (deep n h) l with|some l=>some (.ds l off len esz)|none=>none
  |_=>none
 |n+1,h,.dp l off=>match eM (deep n h) l with|some l=>some (.dp l off)|none=>none
 |n+1,h,.ds l off len esz=>match eM (deep n h) l with|some l=>some (.ds l off len esz)|none=>none
 |n+1,h,.f fn a b=>match eM (deep n h) a,eM (deep n h) b with|some a,some b=>some (.f fn a b)|_,_=>none
 |n+1,h,.ifc t v=>match deep n h v with|some v=>some (.ifc t v)|none=>none
 |n+1,h,.ag l=>match eM (deep n h) l with|some l=>some (.ag l)|none=>none
 |n+1,h,.tu l=>match eM (deep n h) l with|some l=>some (.tu l)|none=>none
 |_,_,_=>none
abbrev bJ (n:Nat) (h:AH) (l:List AV):Option (List AV):=eM (deep n h) l
def bZ {n h}:bJ n h []=some []:=rfl
def aL {n h a l}:bJ n h (a::l)=(match deep n h a,bJ n h l with|some a,some l=>some (a::l)|_,_=>none):=by
 unfold bJ;rw[lJ];generalize deep n h a=x;generalize eM (deep n h) l=y;cases x<;>cases y<;>rfl
section
variable {CR:Nat ->Code ->aw ->Prop}
def yf {c c2:CE} {h:AH} {w:World} (ro:∀o ver l,dU c h o (.cells ver l) ->gR CR c w o (.cells ver l)) (h1:∀b row,c.im b=some row ->c2.im b=some row)
 (h2:∀o ver l,dU c h o (.cells ver l) ->∀row t fr,w.heap[(c.ρ o).1]? =some (.cells row t fr) ->c2.im (c.ρ o).1=some row):∀(n:Nat),
 (∀a d v,deep n h a=some d ->VR c a v ->VR c2 d v)/\ (∀l d vs,bJ n h l=some d ->bX c l vs ->bX c2 d vs):=by
 intro n;induction n with
 |zero=>
  have one:∀a d v,deep 0 h a=some d ->VR c a v ->VR c2 d v:=by
   intro a d v hd hv;cases a<;>first|(simp only[deep] at hd;cases hd;done)|skip
   all_goals (simp only[deep,jI] at hd;subst hd;cases hv;constructor;try assumption)
  refine⟨one,?_⟩;intro l;induction l with
  |nil=>intro d vs hd hv;rw[bZ,jI] at hd;subst hd;cases hv;exact .nil
  |cons a l ih=>
   intro d vs hd hv;cases hv with
   |cons _ _ v vs e1 e2=>
    rw[aL] at hd;split at hd
    ·rename_i a' l' q1 q2;cases hd;exact .cons _ _ _ _ (one _ _ _ q1 e1) (ih _ _ q2 e2)
    ·cases hd
 |succ n ih=>
  obtain⟨_,ihL⟩:=ih;have one:∀a d v,deep (n+1) h a=some d ->VR c a v ->VR c2 d v:=by
   intro a d v hd hv;cases a with
   |p o off=>
    simp only[deep] at hd;split at hd
    ·rename_i ver l hg;split at hd
     ·rename_i l' hl;cases hd;cases hv with
      |p _ _ hdom=>
       have hh:dU c h o (.cells ver l):=⟨hg,rfl,hdom⟩;obtain⟨row,t,lo,hi,vs,e1,e2,e3,e4,e5,e6⟩:=ro _ _ _ hh;exact .dp l' off _ _ row vs (h2 o ver l hh row t _ e1) e5 (ihL _ _ _ hl e4)
     ·cases hd
    ·cases hd
   |sl o off len cap esz=>
    simp only[deep] at hd;split at hd
    ·rename_i ver l hg;split at hd
     ·rename_i l' hl;cases hd;cases hv with
      |sl _ _ _ _ _ A m hdom hcap hle ha hz=>
       have hh:dU c h o (.cells ver l):=⟨hg,rfl,hdom⟩;obtain⟨row,t,lo,hi,vs,e1,e2,e3,e4,e5,e6⟩:=ro _ _ _ hh;exact .ds l' off len esz _ _ m A row vs (h2 o ver l hh row t _ e1) e5 (ihL _ _ _ hl e4) hle (λdc=>ha ω)
     ·cases hd
    ·cases hd
   |dp l off=>
    simp only[deep] at hd;split at hd
    ·rename_i l' hl;cases hd;cases hv with
     |dp _ _ blk base row vs q1 q2 q3=>exact .dp l' off blk base row vs (h1 _ _ q1) q2 (ihL _ _ _ hl q3)
    ·cases hd
   |ds l off len esz=>
    simp only[deep] at hd;split at hd
    ·rename_i l' hl;cases hd;cases hv with
     |ds _ _ _ _ blk base m A row vs q1 q2 q3 q4 q5=>exact .ds l' off len esz blk base m A row vs (h1 _ _ q1) q2 (ihL _ _ _ hl q3) q4 q5
    ·cases hd
   |f fn x y=>
    simp only[deep] at hd;split at hd
    ·rename_i x' y' e1 e2;cases hd;cases hv with
     |f _ _ _ vi va q1 q2=>exact .f fn x' y' vi va (ihL _ _ _ e1 q1) (ihL _ _ _ e2 q2)
    ·cases hd
   |ifc t x=>
    simp only[deep] at hd;split at hd
    ·rename_i x' e1;cases hd;cases hv with
     |ifc _ _ v' q1=>exact .ifc t x' v' (‹∀a d v,deep n h a=some d ->VR c a v ->VR c2 d v› _ _ _ e1 q1)
    ·cases hd
   |ag l=>
    simp only[deep] at hd;split at hd
    ·rename_i l' e1;cases hd;cases hv with
     |ag _ vs q1=>exact .ag l' vs (ihL _ _ _ e1 q1)
    ·cases hd
   |tu l=>
    simp only[deep] at hd;split at hd
    ·rename_i l' e1;cases hd;cases hv with
     |tu _ vs q1=>exact .tu l' vs (ihL _ _ _ e1 q1)
    ·cases hd
   |m o=>simp only[deep] at hd;cases hd
   |y o=>simp only[deep] at hd;cases hd
   |_=>simp only[deep,jI] at hd;subst hd;cases hv;constructor;try assumption
  refine⟨one,?_⟩;intro l;induction l with
  |nil=>intro d vs hd hv;rw[bZ,jI] at hd;subst hd;cases hv;exact .nil
  |cons a l ih=>
   intro d vs hd hv;cases hv with
   |cons _ _ v vs e1 e2=>
    rw[aL] at hd;split at hd
    ·rename_i a' l' q1 q2;cases hd;exact .cons _ _ _ _ (one _ _ _ q1 e1) (ih _ _ q2 e2)
    ·cases hd
end
def fL (w:World) (b:Nat):Option (Array Value):=match w.heap[b]? with|some (.cells row _ _)=>some row|_=>none
def Dl {w:World} {b:Nat} {row:Array Value} (h:fL w b=some row):∃t fr,w.heap[b]? =some (.cells row t fr):=by
 unfold fL at h;split at h
 ·rename_i row' t fr e;cases h;exact⟨t,fr,e⟩
 ·cases h
def qS {w:World} {b:Nat} {row:Array Value} {t:TypeId} {fr:Nat×Nat} (h:w.heap[b]? =some (.cells row t fr)):fL w b=some row:=by
 unfold fL;rw[h]
def h0:AH:=⟨0,0,.e⟩
def G8 (o:Nat):h0.oB.get o=none:=rfl
def rY {c:CE} {o:Nat} {ob:bC} (h:dU c h0 o ob):False:=by have:=h.get;rw[G8] at this;cases this
def kI:Nat ->AV ->Bool
 |_,.b _|_,.i _ _|_,.s _|_,.pn|_,.sn|_,.mn|_,.fnil|_,.ifn=>true
 |n+1,.ag l=>flatL n l
 |n+1,.tu l=>flatL n l
 |_,_=>false
 where flatL (n:Nat):List AV ->Bool
 |[]=>true
 |a::l=>kI n a&&flatL n l
def OG {c c2:CE}:∀n,(∀a v,kI n a=true ->VR c a v ->VR c2 a v)/\ (∀l vs,kI.flatL n l=true ->bX c l vs ->bX c2 l vs):=by
 intro n;induction n with
 |zero=>
  have one:∀a v,kI 0 a=true ->VR c a v ->VR c2 a v:=by
   intro a v hf hv;cases a<;>first|(simp only[kI] at hf;cases hf;done)|skip
   all_goals (cases hv;constructor;try assumption)
  refine⟨one,?_⟩;intro l;induction l with
  |nil=>intro vs _ hv;cases hv;exact .nil
  |cons a l ih=>intro vs hf hv;simp only[kI.flatL,aB] at hf;cases hv with|cons _ _ v vs e1 e2=>exact .cons _ _ _ _ (one _ _ hf.1 e1) (ih _ hf.2 e2)
 |succ n ih=>
  obtain⟨_,ihL⟩:=ih;have one:∀a v,kI (n+1) a=true ->VR c a v ->VR c2 a v:=by
   intro a v hf hv;cases a with
   |ag l=>simp only[kI] at hf;cases hv with|ag _ vs q=>exact .ag l vs (ihL _ _ hf q)
   |tu l=>simp only[kI] at hf;cases hv with|tu _ vs q=>exact .tu l vs (ihL _ _ hf q)
   |_=>first|(simp only[kI] at hf;cases hf;done)|(cases hv;constructor;try assumption)
  refine⟨one,?_⟩;intro l;induction l with
  |nil=>intro vs _ hv;cases hv;exact .nil
  |cons a l ih=>intro vs hf hv;simp only[kI.flatL,aB] at hf;cases hv with|cons _ _ v vs e1 e2=>exact .cons _ _ _ _ (one _ _ hf.1 e1) (ih _ hf.2 e2)
section
variable (P:Program) (X:aR) (GL:T (List AV))
def bP (f:Nat) (args:List AV) (h:AH) (v:AV) (h':AH):Prop:=
 ∀c w vs,RS (dJ X) c h w ->(∀g l,GL.get g=some l ->c.gl g=some l) ->bX c args vs ->
  mJ P ((callFunc f vs.toArray).run P w) λv' w'=>∃c',cH (dJ X) c h w c' h' w'/\ VR c' v v'
def tD (ae:T au):aK Prop where
 ae:=ae
 gL:=GL
 spec:=λf args h k fb=>(∃v h',k v h'/\ bP P X GL f args h v h')∨fb
 fail:=False
 both:=And
end
variable {P:Program} {X:aR} {GL:T (List AV)} {ae:T au}
def Dm:lQ (tD P X GL ae) where
 fail:=rfl
 both:=λ_ _=>rfl
 spec:=λf args h F hF=>by
  have e1:SC (α:=AV×AH) (λk=>∃v h',k (v,h')/\ bP P X GL f args h v h'):=by
   refine SC.ex (F:=λv k=>∃h',k (v,h')/\ bP P X GL f args h v h') λv=>SC.ex (F:=λh' k=>k (v,h')/\ bP P X GL f args h v h') λh'=>SC.and (SC.at_ _) (SC.const _)
  exact SC.or e1 hF
 fb:=λf args h k p q hpq hs=>hs.imp id hpq
 fbc:=λf args h k p hs=>by
  rcases hs with hs|⟨n,hs⟩
  ·exact⟨0,.inl hs⟩
  ·exact⟨n,.inr hs⟩
structure aT (P:Program) (X:aR) (GL:T (List AV)) (ae:T au):Prop where
 mixed:P.follows .mixedOrders=true
 ctx:j7 P X
 ae:∀f m,ae.get f=some m ->GS P X f m
 bn:∀f∈X.bn,CX P f
 gl:∀g l,GL.get g=some l ->kI.flatL 0 l=true
def aT.sound (h:aT P X GL ae):rV P X (tD P X GL ae) where
 mixed:=h.mixed
 cfg:=Dm.toCfgOK
 ctx:=h.ctx
 ae:=h.ae
 bn:=h.bn
 spec:=λf args hh k fb hs=>hs
def aj6 {f:Nat} {args:List AV} {h h':AH} {v:AV} {k:AV ->AH ->Prop} (hc:bP P X GL f args h v h') (hk:k v h'):hM (tD P X GL ae) f args h k:=
 (Nw Dm).2 (.inl ⟨v,h',hk,hc⟩)
def aj7 {f:Nat} {args:List AV} {h:AH} {k:AV ->AH ->Prop} (hc:du (tD P X GL ae) f args h k):hM (tD P X GL ae) f args h k:=
 (Nw Dm).2 (.inr hc)
structure Sem (P:Program) (X:aR) (GL:T (List AV)) (ae:T au) (C:aK Prop):Prop where
 ok:lQ C
 ae:C.ae=ae
 cN:∀{f:Nat} {args:List AV} {h h':AH} {v:AV} {k:AV ->AH ->Prop},bP P X GL f args h v h' ->k v h' ->hM C f args h k
 run:∀{f:Nat} {args:List AV} {h:AH} {k:AV ->AH ->Prop},du C f args h k ->hM C f args h k
def aj8:Sem P X GL ae (tD P X GL ae):=⟨Dm,rfl,aj6,aj7⟩
def Sem.get {C:aK Prop} (E:Sem P X GL ae C) {f:Nat} {m:au} (h:ae.get f=some m):C.ae.get f=some m:=by rw[E.ae];exact h
def bg (P:Program) (X:aR) (GL:T (List AV)) (ae:T au) (f:Nat) (args:List AV) (d:AV):Prop:=
 du (tD P X GL ae) f args h0 λx h=>∃n,deep n h x=some d
def bg.intro {f:Nat} {args:List AV} {d:AV} (h:∀C,Sem P X GL ae C ->du C f args h0 λx h=>∃n,deep n h x=some d):bg P X GL ae f args d:=h _ aj8
def CE.only (c:CE) (im:Nat ->Option (Array Value)) (GL:T (List AV)):CE:={ dM:=λ_=>False,ρ:=c.ρ,sz:=c.sz,im:=im,gl:=GL.get }
def RS.only {c:CE} {h:AH} {w:World} (r:RS (dJ X) c h w) (gl:∀g l,GL.get g=some l ->c.gl g=some l) (hg:∀g l,GL.get g=some l ->kI.flatL 0 l=true)
 {im:Nat ->Option (Array Value)} (h1:∀b row,im b=some row ->∃t fr,w.heap[b]? =some (.cells row t fr)) (h2:∀b row,c.im b=some row ->im b=some row):RS (dJ X) (c.only im GL) h0 w where
 nx:=λo h=>h.elim
 lt:=λo ob h=>by rw[G8] at h;cases h
 obj:=λo ob h=>(rY h).elim
 inj:=λo o' a b h=>(rY h).elim
 im:=h1
 dj:=λo ob h=>(rY h).elim
 gl:=λg l hgl=>by
  obtain⟨row,vs,e1,e2,e3⟩:=r.gl g l (gl g l hgl);exact⟨row,vs,h2 _ _ e1,e2,(OG 0).2 _ _ (hg g l hgl) e3⟩
variable (S:aT P X GL ae)
def G9 {f:Nat} {args:List AV} {d:AV} (hp:bg P X GL ae f args d) {c:CE} {w:World} {vs:List Value} (rs:RS (dJ X) c h0 w) (gl:∀g l,GL.get g=some l ->c.gl g=some l) (hv:bX c args vs)
 {K:Value ->World ->Prop} (hK:∀v' w' x h1 c1 n,deep n h1 x=some d ->cH (dJ X) c h0 w c1 h1 w' ->VR c1 x v' ->K v' w'):mJ P ((callFunc f vs.toArray).run P w) K:=by
 obtain⟨n,hr⟩:=hp;obtain⟨fn,b,e1,e2,e3,e4⟩:=Db S.sound (Nc S.sound n).1 hr rs gl hv;rw[Da e1 e2 e3];refine vN e4 λe w' he=> ?_;cases e with
 |returned v=>
  obtain⟨x,h1,c1,⟨m,hd⟩,hev,hvr⟩:=he;exact hK _ _ _ _ _ _ hd hev hvr
 |_=>exact he.elim
def Ha {c c1:CE} {h1:AH} {w w':World} (hev:cH (dJ X) c h0 w c1 h1 w') {b:Nat} (hb:b<w.heap.size):w'.heap[b]? =w.heap[b]? :=
 hev.keep.same b hb λo ob ho=>(rY ho).elim
def CE.fix (c:CE) (w w':World):CE:={ c with im:=λb=>match c.im b with|some row=>some row|none=>if w.heap.size<=b then fL w' b else none }
def CE.fix_ext (c:CE) (w w':World):gE c (c.fix w w'):=⟨λ_ h=>h,λ_ _=>rfl,λ_ _=>rfl,λb row h=>by simp[CE.fix,h],rfl⟩
def Hb {c:CE} {h:AH} {w w':World} (r:RS (dJ X) c h w) (hsz:w.heap.size<=w'.heap.size) (hold:∀b,b<w.heap.size ->w'.heap[b]? =w.heap[b]?) (hq:w'.os=w.os/\ w'.output=w.output):cH (dJ X) c h w (c.fix w w') h w':=by
 have hx:=c.fix_ext w w';refine⟨hx,⟨r.nx,r.lt,λo ob ho=> ?_,λo o' a b ho bT=>r.inj o o' a b ⟨ho.get,ho.live,ho.dM⟩ ⟨bT.get,bT.live,bT.dM⟩,λb row hb=> ?_,λo ob ho=> ?_,λg l hg=> ?_⟩,
  ⟨hsz,λb hb _=>hold b hb,λo ob ho=> .inr ⟨o,ob,⟨ho.get,ho.live,ho.dM⟩,rfl⟩,λo ho=> .inl ho,bB _,λb row hb=> ?_,λo _ hd=>hd,hq⟩⟩
 ·have bT:dU c h o ob:=⟨ho.get,ho.live,ho.dM⟩;exact(r.obj o ob bT).mono hx bT.dM (hold _ ((r.obj o ob bT).lt bT.live))
 ·have hb':(match c.im b with|some row=>some row|none=>if w.heap.size<=b then fL w' b else none)=some row:=hb;cases hc:c.im b with
  |some row'=>
   rw[hc] at hb';cases hb';obtain⟨t,fr,e⟩:=r.im b _ hc;exact⟨t,fr,by rw[hold b (r.im_lt hc)];exact e⟩
  |none=>
   rw[hc] at hb';dsimp only at hb';split at hb'
   ·exact Dl hb'
   ·cases hb'
 ·have bT:dU c h o ob:=⟨ho.get,ho.live,ho.dM⟩;show(match c.im (c.ρ o).1 with|some row=>some row|none=>if w.heap.size<=(c.ρ o).1 then fL w' (c.ρ o).1 else none)=none;rw[r.dj o ob bT];dsimp only;rw[aD (by have:=(r.obj o ob bT).lt bT.live;omega)]
 ·obtain⟨row,vs,e1,e2,e3⟩:=r.gl g l hg;exact⟨row,vs,hx.im _ _ e1,e2,e3.mono hx⟩
 ·have hb':(match c.im b with|some row=>some row|none=>if w.heap.size<=b then fL w' b else none)=some row:=hb;cases hc:c.im b with
  |some row'=>rw[hc] at hb';cases hb';exact .inl rfl
  |none=>
   rw[hc] at hb';dsimp only at hb';split at hb'
   ·rename_i e;exact .inr (.inl e)
   ·cases hb'
def dR {f:Nat} {args:List AV} {d:AV} (hp:bg P X GL ae f args d) {n:Nat} (ha:bJ n h0 args=some args) (h:AH):bP P X GL f args h d h:=by
 intro c w vs r gl hv;have r0:RS (dJ X) (c.only c.im GL) h0 w:=r.only gl S.gl r.im (λ_ _ h=>h);have hargs:bX (c.only c.im GL) args vs:=
  (yf (CR:=dJ X) (c:=c) (h:=h0) (w:=w) (c2:=c.only c.im GL) (λo ver l hh=>(rY hh).elim) (λ_ _ h=>h) (λo ver l hh=>(rY hh).elim) n).2 _ _ _ ha hv
 refine G9 S hp r0 (λg l h=>h) hargs λv' w' x h1 c1 m hd hev hvr=>⟨c.fix w w',Hb r hev.keep.size (λb hb=>Ha hev hb) hev.keep.io,?_⟩;refine(yf (CR:=dJ X) (c:=c1) (h:=h1) (w:=w') (c2:=c.fix w w') (λo ver l hh=>hev.rs.obj _ _ hh) (λb row hb=> ?_) (λo ver l hh row t fr gY=> ?_) m).1 _ _ _ hd hvr
 ·show(match c.im b with|some row=>some row|none=>if w.heap.size<=b then fL w' b else none)=some row;rcases hev.keep.im b row hb with e|e|⟨o,ob,ho,_⟩
  ·have e':c.im b=some row:=e;rw[e']
  ·have hn:c.im b=none:=by
    cases hc:c.im b with
    |none=>rfl
    |some row'=>have:=r.im_lt hc;omega
   rw[hn];dsimp only;rw[aF e];obtain⟨t,fr,e2⟩:=hev.rs.im b row hb;exact qS e2
  ·exact(rY ho).elim
 ·show(match c.im (c1.ρ o).1 with|some row=>some row|none=>if w.heap.size<=(c1.ρ o).1 then fL w' (c1.ρ o).1 else none)=some row;rcases hev.keep.new o _ hh with e|⟨o',ob',bT,_⟩
  ·have hn:c.im (c1.ρ o).1=none:=by
    cases hc:c.im (c1.ρ o).1 with
    |none=>rfl
    |some row'=>have:=r.im_lt hc;omega
   rw[hn];dsimp only;rw[aF e];exact qS gY
  ·exact(rY bT).elim
def oE {f:Nat} {args dargs:List AV} {d:AV} (hp:bg P X GL ae f dargs d) {h:AH} {n m:Nat} (ha:bJ n h args=some dargs) (hd:kI m d=true):bP P X GL f args h d h:=by
 intro c w vs r gl hv;have r0:RS (dJ X) (c.only (fL w) GL) h0 w:=r.only gl S.gl (λb row hb=>Dl hb) (λb row hb=>by obtain⟨t,fr,e⟩:=r.im b row hb;exact qS e);have hargs:bX (c.only (fL w) GL) dargs vs:=
  (yf (CR:=dJ X) (c:=c) (h:=h) (w:=w) (c2:=c.only (fL w) GL) (λo ver l hh=>r.obj _ _ hh) (λb row hb=>by obtain⟨t,fr,e⟩:=r.im b row hb;exact qS e)
   (λo ver l hh row t fr gY=>qS gY) n).2 _ _ _ ha hv
 refine G9 S hp r0 (λg l h=>h) hargs λv' w' x h1 c1 k hdx hev hvr=>⟨c.fix w w',Hb r hev.keep.size (λb hb=>Ha hev hb) hev.keep.io,?_⟩;have h2:VR (c1.only (fL w') GL) d v':=(yf (CR:=dJ X) (c:=c1) (h:=h1) (w:=w') (c2:=c1.only (fL w') GL) (λo ver l hh=>hev.rs.obj _ _ hh) (λb row hb=>by obtain⟨t,fr,e⟩:=hev.rs.im b row hb;exact qS e)
  (λo ver l hh row t fr gY=>qS gY) k).1 _ _ _ hdx hvr
 exact(OG m).1 _ _ hd h2
section
variable {κ ν:Type} [DecidableEq κ] (ek:κ ->AV) (en:ν ->AV)
def di:Nat ->List (κ×ν) ->List (AV×AV×Nat)
 |_,[]=>[]
 |i,(k,v)::r=>(ek k,en v,i)::di (i+1) r
def look (k:κ):List (κ×ν) ->Option ν
 |[]=>none
 |(k',v)::r=>if k=k' then some v else look k r
def ups (k:κ) (v:ν):List (κ×ν) ->List (κ×ν)
 |[]=>[(k,v)]
 |(k',v')::r=>if k=k' then (k,v)::r else (k',v')::ups k v r
structure rZ (et:ET):Prop where
 eq:∀k k',eH 6 et (ek k) (ek k')=some (decide (k=k'))
 q:∀k,j3 et (ek k)=true
 self:∀k,o9 (ek k) (ek k)=true
variable {ek en}
def OH {t:ET} {k:AV} {e:AV×AV×Nat} {l:List (AV×AV×Nat)}:jx t k (e::l)=(match eH 6 t k e.1 with
 |some true=>some (some e)
 |some false=>jx t k l
 |none=>none):=rfl
def Ay {et:ET} (hk:rZ ek et) (k:κ):∀(l:List (κ×ν)) (i:Nat),∃r,jx et (ek k) (di ek en i l)=some r/\ (match r with|none=>look k l=none|some e=>∃v j,e=(ek k,en v,i+j)/\ look k l=some v/\ j<l.length)
 |[],i=>⟨none,rfl,rfl⟩
 |(k',v)::r,i=>by
  simp only[di];rw[OH,hk.eq];by_cases e:k=k'
  ·subst e;refine⟨some (ek k,en v,i),by simp,v,0,by simp,by simp[look],by simp⟩
  ·obtain⟨q,h1,h2⟩:=Ay hk k r (i+1);refine⟨q,by simp[e,h1],?_⟩;cases q with
   |none=>simpa[look,e] using h2
   |some x=>
    obtain⟨v',j,h3,h4,h5⟩:=h2;exact⟨v',j+1,by rw[h3];simp;omega,by simpa[look,e] using h4,by simp;omega⟩
def OI:∀(l:List (κ×ν)) (m:List (κ×ν)) (i:Nat),di ek en i (l++m)=di ek en i l++di ek en (i+l.length) m
 |[],m,i=>by simp[di]
 |(k,v)::r,m,i=>by simp[di,OI r m (i+1)];congr 1;omega
def yg:∀{l:List (κ×ν)} {k:κ} {v:ν},look k l=none ->ups k v l=l++[(k,v)]
 |[],_,_,_=>rfl
 |(k',v')::r,k,v,h=>by
  by_cases e:k=k'
  ·simp[look,e] at h
  ·simp only[look,aD e] at h;simp[ups,e,yg h]
def OJ {b:Nat} {x y:AV} {e:AV×AV×Nat} {t:List (AV×AV×Nat)}:mF b x y (e::t)=(bif Nat.beq e.2.2 b then some ((x,y,e.2.2)::t) else match mF b x y t with|some t=>some (e::t)|none=>none):=rfl
def OL {et:ET} (hk:rZ ek et) {k:κ} {v:ν}:∀{l:List (κ×ν)} {i j:Nat} {w:ν},jx et (ek k) (di ek en i l)=some (some (ek k,en w,i+j)) ->look k l=some w ->mF (i+j) (ek k) (en v) (di ek en i l)=some (di ek en i (ups k v l))
 |[],_,_,_,h,_=>by simp[di,jx] at h
 |(k',v')::r,i,j,w,h,hl=>by
  simp only[di] at h ⊢;rw[OH,hk.eq] at h;by_cases e:k=k'
  ·subst e;simp at h;obtain⟨h1,h2⟩:=h;subst h2;rw[OJ];simp[ups,di]
  ·simp only[e,decide_false] at h;simp only[look,aD e] at hl;obtain⟨q,h1,h2⟩:=Ay (en:=en) hk k r (i+1);rw[h1] at h;cases h;obtain⟨v'',j',h3,h4,h5⟩:=h2;have hj:j=j'+1:=by
    have:=congrArg (λx=>x.2.2) h3;simp at this;omega
   subst hj;have hw:w=v'':=by rw[hl] at h4;exact gC h4
   subst hw;have ih:=OL hk (v:=v) (l:=r) (i:=i+1) (j:=j') (w:=w) (by rw[h1,h3]) hl;rw[OJ];have dc:Nat.beq i (i+(j'+1))=false:=by rw[bu];simp
   simp only[dc,eU];rw[show i+(j'+1)=i+1+j' by omega,ih];simp[ups,e,di]
def OM:∀{l:List (κ×ν)} {k:κ} {v:ν} {w:ν},look k l=some w ->(ups k v l).length=l.length
 |[],_,_,_,h=>by simp[look] at h
 |(k',v')::r,k,v,w,h=>by
  by_cases e:k=k'
  ·simp[ups,e]
  ·simp only[look,aD e] at h;simp[ups,e,OM h]
def oF (en:ν ->AV) (z:AV):Option ν ->AV
 |some v=>en v
 |none=>z
def hU (en:ν ->AV) (z:AV):Option ν ->AV
 |some v=> .tu [en v,.b true]
 |none=> .tu [z,.b false]
def yh (ek:κ ->AV) (en:ν ->AV) (h:AH) (o:Nat) (l:List (κ×ν)):Prop:=∃ver,h.oB.get o=some (.map ver (di ek en 0 l) l.length)
section
variable {ev:MA ->AV} {h:AH} {et:ET} (hk:rZ ek et) {o:Nat} {l:List (κ×ν)} (hm:yh ek en h o l) {m q x:MA} {k:κ} (e1:ev m= .m o) (e2:ev q=ek k)
include hk hm e1 e2
theorem sd {z:AV}:step ev h (.look et m q z false)= .v (oF en z (look k l)) h:=by
 obtain⟨ver,hg⟩:=hm;show(bif !(j3 et (ev q)) then ay.bad else
  match (match ev m with
   | .mn=>some none
   | .m o=>match h.get o with|some (.map _ es _)=>jx et (ev q) es|_=>none
   |_=>none) with
  |some (some e)=>(Bool.rec (ay.v e.2.1 h) (ay.v (.tu [e.2.1,.b true]) h) false:ay)
  |some none=>(Bool.rec (ay.v z h) (ay.v (.tu [z,.b false]) h) false:ay)
  |none=>ay.bad)=_
 rw[e1,e2,hk.q];have hg':h.get o=some (.map ver (di ek en 0 l) l.length):=hg;simp only[jk,eU,hg'];obtain⟨r,h1,h2⟩:=Ay (en:=en) hk k l 0;rw[h1];cases r with
 |none=>rw[h2];rfl
 |some e=>obtain⟨v,j,h3,h4,_⟩:=h2;rw[h4,h3];rfl
theorem uQ {z:AV}:step ev h (.look et m q z true)= .v (hU en z (look k l)) h:=by
 obtain⟨ver,hg⟩:=hm;show(bif !(j3 et (ev q)) then ay.bad else
  match (match ev m with
   | .mn=>some none
   | .m o=>match h.get o with|some (.map _ es _)=>jx et (ev q) es|_=>none
   |_=>none) with
  |some (some e)=>(Bool.rec (ay.v e.2.1 h) (ay.v (.tu [e.2.1,.b true]) h) true:ay)
  |some none=>(Bool.rec (ay.v z h) (ay.v (.tu [z,.b false]) h) true:ay)
  |none=>ay.bad)=_
 rw[e1,e2,hk.q];have hg':h.get o=some (.map ver (di ek en 0 l) l.length):=hg;simp only[jk,eU,hg'];obtain⟨r,h1,h2⟩:=Ay (en:=en) hk k l 0;rw[h1];cases r with
 |none=>rw[h2];rfl
 |some e=>obtain⟨v,j,h3,h4,_⟩:=h2;rw[h4,h3];rfl
theorem mL {v:ν} (e3:ev x=en v):step ev h (.mupd et m q x)= .v .un ⟨h.next,h.ver+1,h.oB.put o (.map (h.ver+1) (di ek en 0 (ups k v l)) (ups k v l).length)⟩:=by
 obtain⟨ver,hg⟩:=hm;have hg':h.get o=some (.map ver (di ek en 0 l) l.length):=hg;have hs:step ev h (.mupd et m q x)=(bif !(j3 et (ev q)) then .bad else match ev m with
  | .m o=>match h.get o with
   |some (.map _ es cl)=>fV (ev q) λk=>fV (ev x) λx=>match jx et k es with
    |some (some e)=>bif o9 k e.1 then (match mF e.2.2 k x es with
     |some es=>h.put o (.map (Nat.succ h.ver) es cl) λh=>ay.v .un h
     |none=> .bad) else .bad
    |some none=>match fy es [(k,x,cl)] with
     |some es=>fN cl λcl=>h.put o (.map (Nat.succ h.ver) es (Nat.succ cl)) λh=>ay.v .un h
     |none=> .bad
    |none=> .bad
   |_=> .bad
  |_=> .bad):=rfl
 rw[hs,e1,e2,hk.q];simp only[jk,eU,hg',jK,e3,dT,AH.put_eq,jz];obtain⟨r,h1,h2⟩:=Ay (en:=en) hk k l 0;rw[h1];cases r with
 |none=>
  have e:ups k v l=l++[(k,v)]:=yg h2;rw[e,OI];simp[di]
 |some e=>
  obtain⟨w,j,h3,h4,h5⟩:=h2;subst h3;have hu:=OL (en:=en) hk (v:=v) (i:=0) h1 h4;simp only[hk.self,fC,hu];rw[OM h4]
end
end
def Az {k:IntKind}:rZ (λn:Int=>AV.i k n) (.lf .i) where
 eq:=λa b=>by show(bif gZ k k then some (eO a b) else none)=_;rw[Dh,fg];rfl
 q:=λ_=>rfl
 self:=λa=>by show(gZ k k&&eO a a)=true;rw[Dh,fg];simp
def Hc:rZ (λn:List Nat=>AV.s n) (.lf .s) where
 eq:=λa b=>by show some (nF a b)=_;rw[mH]
 q:=λ_=>rfl
 self:=λa=>by show nF a a=true;rw[mH];simp
def e3 (x:Int×Int×Int):AV:= .ag [.i .i64 x.1,.i .i64 x.2.1,.i .i64 x.2.2]
def t3:ET:= .ag [(0,1,false,.lf .i),(1,1,false,.lf .i),(2,1,false,.lf .i)]
def Hd:rZ e3 t3 where
 eq:=λa b=>by
  obtain⟨a1,a2,a3⟩:=a;obtain⟨b1,b2,b3⟩:=b;have h:eH 6 t3 (e3 (a1,a2,a3)) (e3 (b1,b2,b3))=(match (some (eO a1 b1):Option Bool) with
   |some true=>(match (some (eO a2 b2):Option Bool) with
    |some true=>(match (some (eO a3 b3):Option Bool) with
     |some true=>some true
     |r=>r)
    |r=>r)
   |r=>r):=rfl
  rw[h,fg,fg,fg];by_cases h1:a1=b1<;>by_cases h2:a2=b2<;>by_cases h3:a3=b3<;>simp[h1,h2,h3]
 q:=λa=>by
  obtain⟨a1,a2,a3⟩:=a;have h:j3 t3 (e3 (a1,a2,a3))=(match (match (some (eO a1 a1):Option Bool) with
   |some true=>(match (some (eO a2 a2):Option Bool) with
    |some true=>(match (some (eO a3 a3):Option Bool) with
     |some true=>some true
     |r=>r)
    |r=>r)
   |r=>r) with|some true=>true|_=>false):=rfl
  rw[h,fg,fg,fg];simp
 self:=λa=>by
  obtain⟨a1,a2,a3⟩:=a;have h:o9 (e3 (a1,a2,a3)) (e3 (a1,a2,a3))=((gZ .i64 .i64&&eO a1 a1)&&((gZ .i64 .i64&&eO a2 a2)&&((gZ .i64 .i64&&eO a3 a3)&&true))):=rfl;rw[h,fg,fg,fg];simp[gZ]
section
variable {ev:MA ->AV} {h:AH} {s x:MA} {esz b:Nat}
def ON:step ev h (.app s x esz b)=(match ij (ev x),eI h esz (ev x) with
 |some n,some l=>gD h (ev s) n l esz
 |_,_=> .bad):=rfl
def wH {o off n:Nat} {cap:Option Nat} {l r:List AV} (h1:h.cells o=some l) (h2:sub l off (n*esz)=some r):eI h esz (.sl o off n cap esz)=some r:=by
 show(bif Nat.beq esz esz then (match h.cells o with|some l=>sub l off (n*esz)|none=>none) else none)=_;rw[bu,h1];simpa using h2
def mM {l:List AV} {n:Nat} (h:l.length=n):sub l 0 n=some l:=by
 rw[nH,aF ω];simp[←h]
def He {o n o2:Nat} {L new:List AV} (e1:ev s= .sl o 0 n none esz) (h1:h.cells o=some L) (hl:L.length=n*esz) (e2:ev x= .sl o2 0 1 (some 1) esz) (h2:h.cells o2=some new) (hn:new.length=esz)
 (hs:cF new=true) (hb:n+1<=1048576):step ev h (.app s x esz b)= .v (.sl h.next 0 (n+1) none esz) ⟨h.next+1,h.ver+1,(h.oB.put o .gone).put h.next (.cells (h.ver+1) (L++new))⟩:=by
 rw[ON,e1,e2,wH h2 (mM ω)];show gD h (.sl o 0 n none esz) 1 new esz=_;have e:gD h (.sl o 0 n none esz) 1 new esz=(match h.cells o with
  |none=>ay.bad
  |some l=>fN (n+1) λneed=>bif !(Nat.beq esz esz&&(Nat.ble need 1048576&&cF new)) then ay.bad else
   match sub l 0 (n*esz) with
    |some old=>match fy old new with
     |some l=>h.put o .gone λh=>h.new (.cells h.ver l) λo h=> .v (.sl o 0 need none esz) h
     |none=>ay.bad
    |none=>ay.bad):=rfl
 rw[e,h1];simp only[dT,bu,dm,hb,hs,mC,g9,jk,eU,mM hl,jz,AH.put_eq,AH.new_eq]
def Hf {o2:Nat} {new:List AV} (e1:ev s= .sn) (e2:ev x= .sl o2 0 1 (some 1) esz) (h2:h.cells o2=some new) (hn:new.length=esz)
 (hs:cF new=true):step ev h (.app s x esz b)= .v (.sl h.next 0 1 none esz) ⟨h.next+1,h.ver,h.oB.put h.next (.cells h.ver new)⟩:=by
 rw[ON,e1,e2,wH h2 (mM ω)];show gD h .sn 1 new esz=_;have e:gD h .sn 1 new esz=(bif Nat.ble 1 1048576&&cF new then h.new (.cells h.ver new) λo h=>fN 1 λn=>ay.v (.sl o 0 n none esz) h else ay.bad):=rfl;rw[e];simp only[dT,hs,AH.new_eq,FK];rfl
end
end
end AM
