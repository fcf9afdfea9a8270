import Derived.Test.YtcpcjocnnclcmaaGreatDoorN4
set_option linter.all false
namespace AM
open Go
noncomputable section
structure SC {α:Type} (F:(α ->Prop) ->Prop):Prop where
 mono:∀{k k':α ->Prop},(∀a,k a ->k' a) ->F k ->F k'
 cont:∀(K:Nat ->α ->Prop),(∀m a,K m a ->K (m+1) a) ->F (fun a=>∃m,K m a) ->∃m,F (K m)
def pM {α:Type} {K:Nat ->α ->Prop} (hK:∀m a,K m a ->K (m+1) a) {m n:Nat} (h:m<=n) {a:α} (ha:K m a):K n a:=by
 induction h with
 |refl=>exact ha
 |step _ ih=>exact hK _ _ ih
namespace SC
variable {α β:Type}
def const (p:Prop):SC (fun _:α ->Prop=>p):=⟨fun _ h=>h,fun _ _ h=>⟨0,h⟩⟩
def at_ (a:α):SC (fun k:α ->Prop=>k a):=⟨fun h=>h a,fun _ _ ⟨m,h⟩=>⟨m,h⟩⟩
def and {F G:(α ->Prop) ->Prop} (hF:SC F) (hG:SC G):SC (fun k=>F k/\ G k):=
 ⟨fun h ⟨a,b⟩=>⟨hF.mono h a,hG.mono h b⟩,fun K hK ⟨a,b⟩=>by
  obtain⟨m,h1⟩:=hF.cont K hK a;obtain⟨n,h2⟩:=hG.cont K hK b;exact⟨max m n,hF.mono (fun x=>pM hK (Bi ..)) h1,hG.mono (fun x=>pM hK (Bj ..)) h2⟩⟩
def or {F G:(α ->Prop) ->Prop} (hF:SC F) (hG:SC G):SC (fun k=>F k∨G k):=
 ⟨fun h=>Or.imp (hF.mono h) (hG.mono h),fun K hK h=>by
  rcases h with h|h
  ·obtain⟨m,h1⟩:=hF.cont K hK h;exact⟨m,.inl h1⟩
  ·obtain⟨m,h1⟩:=hG.cont K hK h;exact⟨m,.inr h1⟩⟩
def ex {ι:Type} {F:ι ->(α ->Prop) ->Prop} (hF:∀i,SC (F i)):SC (fun k=>∃i,F i k):=
 ⟨fun h ⟨i,a⟩=>⟨i,(hF i).mono h a⟩,fun K hK ⟨i,a⟩=>let ⟨m,h⟩:=(hF i).cont K hK a;⟨m,i,h⟩⟩
def comp {F:(α ->Prop) ->Prop} {G:α ->(β ->Prop) ->Prop} (hF:SC F) (hG:∀a,SC (G a)):SC (fun k=>F (fun a=>G a k)):=
 ⟨fun h=>hF.mono fun a=>(hG a).mono h,fun K hK h=>by
  have h1:F (fun a=>∃m,G a (K m)):=hF.mono (fun a ha=>(hG a).cont K hK ha) h;exact hF.cont (fun m a=>G a (K m)) (fun m a=>(hG a).mono (hK m)) h1⟩
end SC
abbrev zc (F:(AV ->AH ->Prop) ->Prop):Prop:=SC (α:=AV×AH) (fun k=>F (fun v h=>k (v,h)))
structure pN (C:cQ Prop):Prop extends CfgOK C where
 spec:∀f args h (F:(AV×AH ->Prop) ->Prop),SC F ->SC (α:=AV×AH) (fun k=>C.spec f args h (fun v h=>k (v,h)) (F k))
 fb:∀f args h k (p q:Prop),(p ->q) ->C.spec f args h k p ->C.spec f args h k q
 fbc:∀f args h k (p:Nat ->Prop),C.spec f args h k (∃n,p n) ->∃n,C.spec f args h k (p n)
section
variable {C:cQ Prop} (hC:pN C)
include hC
theorem BJ {α:Type} {f:AV ->AH ->(α ->Prop) ->Prop} (hf:∀v h,SC (f v h)):∀l:List (AV×AH),SC (fun k=>iU C (fun v h=>f v h k) l)
 |[]=>SC.const _
 |[e]=>hf e.1 e.2
 |e::b::r=>by
  have e1:(fun k=>iU C (fun v h=>f v h k) (e::b::r))=fun k=>f e.1 e.2 k/\ iU C (fun v h=>f v h k) (b::r):=by
   funext k;show C.both (f e.1 e.2 k) (iU C (fun v h=>f v h k) (b::r))=_;rw[hC.both]
  rw[e1];exact SC.and (hf _ _) (BJ hf (b::r))
theorem nP {α:Type} {callK yldK:Nat ->List AV ->AH ->(AV ->AH ->Prop) ->Prop} (hc:∀f a h,zc (callK f a h)) (hy:∀f a h,zc (yldK f a h)) (g:MG) (τ:T AV) (h:AH)
 {f:AV ->AH ->(α ->Prop) ->Prop} (hf:∀v h,SC (f v h)):SC (fun k=>dg C callK yldK g τ h (fun v h=>f v h k)):=by
 have act:SC (fun k=>(match step (bp C τ) h g.op with
  | .v x h=>f x h k
  | .call q args h=>callK q args h (fun v h=>f v h k)
  | .yld l args h=>yldK l args h (fun v h=>f v h k)
  | .alts l=>iU C (fun v h=>f v h k) l
  | .bad=>C.fail:Prop)):=by
  cases step (bp C τ) h g.op with
  |v x h=>exact hf x h
  |call q args h=>exact SC.comp (hc q args h) (fun a=>hf a.1 a.2)
  |yld l args h=>exact SC.comp (hy l args h) (fun a=>hf a.1 a.2)
  |alts l=>exact BJ hC hf l
  |bad=>exact SC.const _
 unfold dg;dsimp only;cases g.guard with
 |none=>exact act
 |some q=>
  obtain⟨t,w⟩:=q;dsimp only;split
  ·rename_i x hx;cases (bif x then w else !w) with
   |true=>exact act
   |false=>exact hf _ _
  ·exact hf _ _
  ·exact SC.const _
theorem uI {callK yldK:Nat ->List AV ->AH ->(AV ->AH ->Prop) ->Prop} (hc:∀f a h,zc (callK f a h)) (hy:∀f a h,zc (yldK f a h)) {α:Type} {f:T AV ->AH ->(α ->Prop) ->Prop} (hf:∀τ h,SC (f τ h)):
 ∀(l:List MG) (τ:T AV) (h:AH),SC (fun k=>bg C callK yldK (fun τ h=>f τ h k) l τ h)
 |[],τ,h=>hf τ h
 |g::l,τ,h=>by
  have e:(fun k=>bg C callK yldK (fun τ h=>f τ h k) (g::l) τ h)=fun k=>dg C callK yldK g τ h (fun x h=>bg C callK yldK (fun τ h=>f τ h k) l (bM τ g.dst x) h):=by
   funext k;show dg C callK yldK g τ h (fun x h=>dZ τ g.dst x fun τ=>bg C callK yldK (fun τ h=>f τ h k) l τ h)=_;simp only[dh]
  rw[e];exact nP hC hc hy g τ h (fun v h=>uI hc hy hf l _ h)
theorem tA {α:Type} {τ:T AV} {h:AH} {mask:Nat} {F:(α ->Prop) ->Prop} (hF:SC F):∀ls:List (Nat×MG),SC (fun k=>cj C τ h mask ls (F k))
 |[]=>hF
 |p::ls=>by
  have ih:=tA (τ:=τ) (h:=h) (mask:=mask) hF ls;have e:(fun k=>cj C τ h mask (p::ls) (F k))=fun k=>(bif Nat.testBit mask p.1 then cj C τ h mask ls (F k) else match bB C τ h p.2 with
   |some x=>match p.2.dst with
    |none=>cj C τ h mask ls (F k)
    |some d=>match τ.get d with
     |some y=>bif cU 64 x y then cj C τ h mask ls (F k) else C.fail
     |none=>C.fail
   |none=>C.fail):=rfl
  rw[e];cases Nat.testBit mask p.1 with
  |true=>exact ih
  |false=>
   simp only[cond_false];cases bB C τ h p.2 with
   |none=>exact SC.const _
   |some x=>
    cases p.2.dst with
    |none=>exact ih
    |some d=>
     dsimp only;cases τ.get d with
     |none=>exact SC.const _
     |some y=>
      dsimp only;cases cU 64 x y with
      |true=>exact ih
      |false=>exact SC.const _
theorem mh {callK yldK:Nat ->List AV ->AH ->(AV ->AH ->Prop) ->Prop} (hc:∀f a h,zc (callK f a h)) (hy:∀f a h,zc (yldK f a h)) {base:Nat} {α:Type} {f:T AV ->AH ->(α ->Prop) ->Prop} (hf:∀τ h,SC (f τ h)):
 ∀(l:List DI) (ls:List (Nat×MG)) (pd:List (Nat×Nat×aU)) (τ:T AV) (h:AH),SC (fun k=>aC C callK yldK base (fun τ h=>f τ h k) l ls pd τ h)
 |[],_,_,τ,h=>hf τ h
 |d::l,ls,pd,τ,h=>by
  cases d with
  |light i g=>
   have e:(fun k=>aC C callK yldK base (fun τ h=>f τ h k) (.light i g::l) ls pd τ h)=fun k=>(match bB C τ h g with
    |some x=>aC C callK yldK base (fun τ h=>f τ h k) l ((i,g)::ls) pd (bM τ g.dst x) h
    |none=>C.fail):=by
    funext k;show(match bB C τ h g with
    |some x=>dZ τ g.dst x fun τ=>aC C callK yldK base (fun τ h=>f τ h k) l ((i,g)::ls) pd τ h
    |none=>C.fail)=_
    simp only[dh]
   rw[e];cases bB C τ h g with
   |none=>exact SC.const _
   |some x=>exact mh hc hy hf l _ _ _ _
  |resv i n g=>
   have e:(fun k=>aC C callK yldK base (fun τ h=>f τ h k) (.resv i n g::l) ls pd τ h)=fun k=>(match step (bp C τ) ⟨base+n,h.ver,.e⟩ g.op with
    | .v x h'=>match h'.objs.get (base+n) with
     |some ob=>aC C callK yldK base (fun τ h=>f τ h k) l ls ((i,base+n,ob)::pd) (bM τ g.dst x) h
     |none=>C.fail
    |_=>C.fail):=by
    funext k;show(fN (base+n) fun id=>match step (bp C τ) ⟨id,h.ver,.e⟩ g.op with
     | .v x h'=>match h'.objs.get id with
      |some ob=>dZ τ g.dst x fun τ=>aC C callK yldK base (fun τ h=>f τ h k) l ls ((i,id,ob)::pd) τ h
      |none=>C.fail
     |_=>C.fail)=_
    simp only[bR,dh]
   rw[e];cases step (bp C τ) ⟨base+n,h.ver,.e⟩ g.op with
   |v x h'=>
    dsimp only;cases h'.objs.get (base+n) with
    |none=>exact SC.const _
    |some ob=>exact mh hc hy hf l _ _ _ _
   |_=>exact SC.const _
  |lay i=>
   have e:(fun k=>aC C callK yldK base (fun τ h=>f τ h k) (.lay i::l) ls pd τ h)=fun k=>(match gB i pd with
    |some (id,ob)=>aC C callK yldK base (fun τ h=>f τ h k) l ls pd τ ⟨h.next,Nat.succ h.ver,h.objs.put id ob⟩
    |none=>C.fail):=by
    funext k;show(match gB i pd with
    |some (id,ob)=>h.put id ob fun h=>aC C callK yldK base (fun τ h=>f τ h k) l ls pd τ h
    |none=>C.fail)=_
    simp only[AH.put_eq]
   rw[e];cases gB i pd with
   |none=>exact SC.const _
   |some q=>exact mh hc hy hf l _ _ _ _
  |heavy i g mask=>
   have e:(fun k=>aC C callK yldK base (fun τ h=>f τ h k) (.heavy i g mask::l) ls pd τ h)=
    fun k=>dg C callK yldK g τ h (fun x h=>cj C (bM τ g.dst x) h mask ls (aC C callK yldK base (fun τ h=>f τ h k) l ls pd (bM τ g.dst x) h)):=by
    funext k;show dg C callK yldK g τ h (fun x h=>dZ τ g.dst x fun τ=>cj C τ h mask ls (aC C callK yldK base (fun τ h=>f τ h k) l ls pd τ h))=_;simp only[dh]
   rw[e];exact nP hC hc hy g τ h (fun v h=>tA hC (mh hc hy hf l _ _ _ _) _)
theorem Dm {n:Nat} (IH:∀(c:ap) (τ:T AV) (h:AH) {α:Type} {f:JA ->T AV ->AH ->(α ->Prop) ->Prop},(∀e τ h,SC (f e τ h)) ->SC (fun k=>run C n c (fun e τ h=>f e τ h k) τ h))
 (g:Nat) (args:List AV) (h:AH):zc (iV C (run C n) g args h):=by
 unfold iV;cases C.fns.get g with
 |none=>exact SC.const _
 |some fn=>
  dsimp only;simp only[jU];refine IH fn.body _ h (f:=fun e τ h k=>match e with
   | .exit _=>C.fail
   |_=>match aP τ h fn.res with|some v=>k (v,h)|none=>C.fail) fun e τ h=> ?_
  cases e with
  |exit i=>exact SC.const _
  |_=>
   dsimp only;cases aP τ h fn.res with
   |none=>exact SC.const _
   |some v=>exact SC.at_ _
theorem pO {n:Nat} (IH:∀(c:ap) (τ:T AV) (h:AH) {α:Type} {f:JA ->T AV ->AH ->(α ->Prop) ->Prop},(∀e τ h,SC (f e τ h)) ->SC (fun k=>run C n c (fun e τ h=>f e τ h k) τ h))
 (g:Nat) (args:List AV) (h:AH):zc (gV C (run C n) g args h):=
 hC.spec g args h _ (Dm hC IH g args h)
theorem tB {α:Type} {f:T AV ->(α ->Prop) ->Prop} (hf:∀τ,SC (f τ)):∀(l:List Nat) (a:List AV) (τ:T AV),SC (fun k=>eh C l a τ (fun τ=>f τ k))
 |[],[],τ=>hf τ
 |[],_::_,_=>SC.const _
 |_::_,[],_=>SC.const _
 |p::l,x::a,τ=>by
  have e:(fun k=>eh C (p::l) (x::a) τ (fun τ=>f τ k))=fun k=>eh C l a (τ.put p x) (fun τ=>f τ k):=by
   funext k;show τ.setK p x (fun τ=>eh C l a τ (fun τ=>f τ k))=_;rw[T.setK_put]
  rw[e];exact tB hf l a _
theorem BK {α:Type} {f:AH ->(α ->Prop) ->Prop} (hf:∀h,SC (f h)) (h:AH) (l:Nat):SC (fun k=>gh C h l (fun h=>f h k)):=by
 unfold gh;split
 ·simp only[AH.put_eq];exact hf _
 ·exact SC.const _
theorem sf {α:Type} {f:AH ->(α ->Prop) ->Prop} (hf:∀h,SC (f h)) (h:AH) (l st:Nat) (p:Option (Option Nat)):SC (fun k=>eW C h l st p (fun h=>f h k)):=by
 unfold eW;split
 ·simp only[AH.put_eq];exact hf _
 ·exact SC.const _
theorem nQ {n:Nat} (IH:∀(c:ap) (τ:T AV) (h:AH) {α:Type} {f:JA ->T AV ->AH ->(α ->Prop) ->Prop},(∀e τ h,SC (f e τ h)) ->SC (fun k=>run C n c (fun e τ h=>f e τ h k) τ h))
 (l:Nat) (args:List AV) (h:AH):zc (dU C (run C n) l args h):=by
 unfold dU;split
 ·rename_i ps asg body env _ _ _;refine tB hC (f:=fun τ k=>_) (fun τ=> ?_) ps args env;refine IH asg τ h (f:=fun e τ h k=>match e with
   | .normal=>gh C h l fun h=>run C n body (fun e _ h=>match e with
    | .normal=>eW C h l 0 none fun h=>k (AV.b true,h)
    | .exit i=>eW C h l 2 (some (some i)) fun h=>k (AV.b false,h)
    | .ret=>eW C h l 2 (some none) fun h=>k (AV.b false,h)) τ h
   |_=>C.fail) fun e τ h=> ?_
  cases e with
  |normal=>
   dsimp only;refine BK hC (f:=fun h k=>run C n body (fun e _ h=>match e with
    | .normal=>eW C h l 0 none fun h=>k (AV.b true,h)
    | .exit i=>eW C h l 2 (some (some i)) fun h=>k (AV.b false,h)
    | .ret=>eW C h l 2 (some none) fun h=>k (AV.b false,h)) τ h) (fun h=> ?_) h l
   refine IH body τ h (f:=fun e _ h k=>match e with
    | .normal=>eW C h l 0 none fun h=>k (AV.b true,h)
    | .exit i=>eW C h l 2 (some (some i)) fun h=>k (AV.b false,h)
    | .ret=>eW C h l 2 (some none) fun h=>k (AV.b false,h)) fun e τ h=> ?_
   cases e with
   |normal=>exact sf hC (f:=fun h k=>k (AV.b true,h)) (fun h=>SC.at_ _) h l 0 none
   |exit i=>exact sf hC (f:=fun h k=>k (AV.b false,h)) (fun h=>SC.at_ _) h l 2 _
   |ret=>exact sf hC (f:=fun h k=>k (AV.b false,h)) (fun h=>SC.at_ _) h l 2 _
  |_=>exact SC.const _
 ·exact SC.const _
theorem uJ:∀(n:Nat) (c:ap) (τ:T AV) (h:AH) {α:Type} {f:JA ->T AV ->AH ->(α ->Prop) ->Prop},(∀e τ h,SC (f e τ h)) ->SC (fun k=>run C n c (fun e τ h=>f e τ h k) τ h):=by
 intro n;induction n with
 |zero=>intro c τ h α f hf;exact SC.const _
 |succ n IH=>
  intro c τ h α f hf;simp only[bC];cases c with
  |skip=>exact hf _ _ _
  |ops l=>exact uI hC (pO hC @IH) (nQ hC @IH) (f:=fun τ h k=>f .normal τ h k) (fun τ h=>hf _ _ _) l τ h
  |draw z l=>
   dsimp only;simp only[bR];exact mh hC (pO hC @IH) (nQ hC @IH) (f:=fun τ h k=>f .normal τ h k) (fun τ h=>hf _ _ _) l _ _ τ _
  |dfr l x fn=>
   refine uI hC (pO hC @IH) (nQ hC @IH) (f:=fun τ h k=>match bp C τ x with
    | .f g _ _=>bif Nat.beq g fn then f .normal τ h k else C.fail
    |_=>C.fail) (fun τ h=> ?_) l τ h
   cases bp C τ x with
   |f g _ _=>
    dsimp only;cases Nat.beq g fn with
    |true=>exact hf _ _ _
    |false=>exact SC.const _
   |_=>exact SC.const _
  |seq a b=>
   refine IH a τ h (f:=fun e τ h k=>match e with| .normal=>run C n b (fun e τ h=>f e τ h k) τ h|e=>f e τ h k) fun e τ h=> ?_
   cases e with
   |normal=>exact IH b τ h hf
   |_=>exact hf _ _ _
  |cond x a b=>
   dsimp only;cases bp C τ x with
   |b t=>cases t with
    |true=>exact IH a τ h hf
    |false=>exact IH b τ h hf
   |_=>exact SC.const _
  |block i a=>
   refine IH a τ h (f:=fun e τ h k=>match e with| .exit j=>bif Nat.beq j i then f .normal τ h k else f (.exit j) τ h k|e=>f e τ h k) fun e τ h=> ?_
   cases e with
   |exit j=>dsimp only;cases Nat.beq j i<;>exact hf _ _ _
   |_=>exact hf _ _ _
  |loop a=>
   refine IH a τ h (f:=fun e τ h k=>match e with| .normal=>run C n (.loop a) (fun e τ h=>f e τ h k) τ h|e=>f e τ h k) fun e τ h=> ?_
   cases e with
   |normal=>exact IH (.loop a) τ h hf
   |_=>exact hf _ _ _
  |rfun q ps asg body=>
   dsimp only;simp only[AH.new_eq];cases bp C τ q with
   |f g fi ca=>
    dsimp only;cases gK fi (.y h.next::ca) with
    |none=>exact SC.const _
    |some l=>
     dsimp only;refine SC.comp (F:=fun k=>iV C (run C n) g l ⟨Nat.succ h.next,h.ver,h.objs.put h.next (.loop ps asg body τ 0 none)⟩ (fun v h=>k (v,h))) (Dm hC @IH g l _) (G:=fun a k=>match a.2.get h.next with
      |some (.loop _ _ _ _ 0 none)=>a.2.put h.next .gone fun h=>f .normal τ h k
      |some (.loop _ _ _ _ 2 (some (some i)))=>a.2.put h.next .gone fun h=>f (.exit i) τ h k
      |some (.loop _ _ _ _ 2 (some none))=>a.2.put h.next .gone fun h=>f .ret τ h k
      |_=>C.fail) (fun a=> ?_)
     split<;>first|(simp only[AH.put_eq];exact hf _ _ _)|exact SC.const _
   |_=>exact SC.const _
  |exit i=>exact hf _ _ _
  |ret=>exact hf _ _ _
  |bad w=>exact SC.const _
section ops
variable {callK yldK callK' yldK':Nat ->List AV ->AH ->(AV ->AH ->Prop) ->Prop} (hc:∀f a h,zc (callK f a h)) (hy:∀f a h,zc (yldK f a h))
 (cc:∀f a h k,callK f a h k ->callK' f a h k) (yy:∀f a h k,yldK f a h k ->yldK' f a h k)
include cc yy
theorem Dn (g:MG) (τ:T AV) (h:AH) (k:AV ->AH ->Prop) (hr:dg C callK yldK g τ h k):dg C callK' yldK' g τ h k:=by
 have act:(match step (bp C τ) h g.op with
  | .v x h=>k x h
  | .call q args h=>callK q args h k
  | .yld l args h=>yldK l args h k
  | .alts l=>iU C k l
  | .bad=>C.fail:Prop) ->(match step (bp C τ) h g.op with
  | .v x h=>k x h
  | .call q args h=>callK' q args h k
  | .yld l args h=>yldK' l args h k
  | .alts l=>iU C k l
  | .bad=>C.fail:Prop):=by
  cases step (bp C τ) h g.op with
  |call q args h=>exact cc _ _ _ _
  |yld l args h=>exact yy _ _ _ _
  |_=>exact id
 unfold dg at hr ⊢;dsimp only at hr ⊢;cases hg:g.guard with
 |none=>rw[hg] at hr;exact act hr
 |some q=>
  rw[hg] at hr;obtain⟨t,w⟩:=q;dsimp only at hr ⊢;cases ht:τ.get t with
  |none=>rw[ht] at hr;exact hr
  |some y=>
   rw[ht] at hr;cases y with
   |b x=>
    dsimp only at hr ⊢;cases hb:(bif x then w else !w) with
    |true=>rw[hb] at hr;exact act hr
    |false=>rw[hb] at hr;exact hr
   |tu l=>cases l<;>exact hr
   |_=>exact hr
include hc hy
theorem lR (k:T AV ->AH ->Prop):∀(l:List MG) (τ:T AV) (h:AH),bg C callK yldK k l τ h ->bg C callK' yldK' k l τ h
 |[],_,_,hr=>hr
 |g::l,τ,h,hr=>by
  have h1:dg C callK yldK g τ h (fun x h=>dZ τ g.dst x fun τ=>bg C callK yldK k l τ h):=hr;refine Dn (C:=C) hC cc yy g τ h _ ((nP hC hc hy g τ h (α:=AV×AH) (f:=fun v h k=>k (v,h)) (fun _ _=>SC.at_ _)).mono (k:=fun a=>dZ τ g.dst a.1 fun τ=>bg C callK yldK k l τ a.2) (k':=fun a=>dZ τ g.dst a.1 fun τ=>bg C callK' yldK' k l τ a.2) (fun a ha=> ?_) h1);rw[dh] at ha ⊢;exact lR k l _ _ ha
theorem iu {base:Nat} (k:T AV ->AH ->Prop):∀(l:List DI) (ls:List (Nat×MG)) (pd:List (Nat×Nat×aU)) (τ:T AV) (h:AH),
 aC C callK yldK base k l ls pd τ h ->aC C callK' yldK' base k l ls pd τ h
 |[],_,_,_,_,hr=>hr
 |d::l,ls,pd,τ,h,hr=>by
  cases d with
  |light i g=>
   have h1:(match bB C τ h g with
    |some x=>dZ τ g.dst x fun τ=>aC C callK yldK base k l ((i,g)::ls) pd τ h
    |none=>C.fail):=hr
   show(match bB C τ h g with
    |some x=>dZ τ g.dst x fun τ=>aC C callK' yldK' base k l ((i,g)::ls) pd τ h
    |none=>C.fail)
   cases hl:bB C τ h g with
   |none=>rw[hl] at h1;exact h1
   |some x=>rw[hl] at h1;dsimp only at h1 ⊢;rw[dh] at h1 ⊢;exact iu k l _ _ _ _ h1
  |resv i n g=>
   have h1:(fN (base+n) fun id=>match step (bp C τ) ⟨id,h.ver,.e⟩ g.op with
    | .v x h'=>match h'.objs.get id with
     |some ob=>dZ τ g.dst x fun τ=>aC C callK yldK base k l ls ((i,id,ob)::pd) τ h
     |none=>C.fail
    |_=>C.fail):=hr
   show(fN (base+n) fun id=>match step (bp C τ) ⟨id,h.ver,.e⟩ g.op with
    | .v x h'=>match h'.objs.get id with
     |some ob=>dZ τ g.dst x fun τ=>aC C callK' yldK' base k l ls ((i,id,ob)::pd) τ h
     |none=>C.fail
    |_=>C.fail)
   rw[bR] at h1 ⊢;cases hs:step (bp C τ) ⟨base+n,h.ver,.e⟩ g.op with
   |v x h'=>
    rw[hs] at h1;dsimp only at h1 ⊢;cases ho:h'.objs.get (base+n) with
    |none=>rw[ho] at h1;exact h1
    |some ob=>rw[ho] at h1;dsimp only at h1 ⊢;rw[dh] at h1 ⊢;exact iu k l _ _ _ _ h1
   |_=>rw[hs] at h1;exact h1
  |lay i=>
   have h1:(match gB i pd with
    |some (id,ob)=>h.put id ob fun h=>aC C callK yldK base k l ls pd τ h
    |none=>C.fail):=hr
   show(match gB i pd with
    |some (id,ob)=>h.put id ob fun h=>aC C callK' yldK' base k l ls pd τ h
    |none=>C.fail)
   cases hf:gB i pd with
   |none=>rw[hf] at h1;exact h1
   |some q=>rw[hf] at h1;dsimp only at h1 ⊢;rw[AH.put_eq] at h1 ⊢;exact iu k l _ _ _ _ h1
  |heavy i g mask=>
   have h1:dg C callK yldK g τ h fun x h=>dZ τ g.dst x fun τ=>cj C τ h mask ls (aC C callK yldK base k l ls pd τ h):=hr
   refine Dn (C:=C) hC cc yy g τ h _ ((nP hC hc hy g τ h (α:=AV×AH) (f:=fun v h k=>k (v,h)) (fun _ _=>SC.at_ _)).mono (k:=fun a=>dZ τ g.dst a.1 fun τ=>cj C τ a.2 mask ls (aC C callK yldK base k l ls pd τ a.2))
    (k':=fun a=>dZ τ g.dst a.1 fun τ=>cj C τ a.2 mask ls (aC C callK' yldK' base k l ls pd τ a.2)) (fun a ha=> ?_) h1)
   rw[dh] at ha ⊢;exact(tA hC (τ:=bM τ g.dst a.1) (h:=a.2) (mask:=mask) (α:=Unit) (F:=fun k=>k ()) (SC.at_ _) ls).mono (k:=fun _=>_) (k':=fun _=>_) (fun _ hh=>iu k l _ _ _ _ hh) ha
end ops
theorem xN {n:Nat} {c:ap} {τ:T AV} {h:AH} {k k':K Prop} (hk:∀e τ h,k e τ h ->k' e τ h) (hr:run C n c k τ h):run C n c k' τ h:=
 (uJ hC n c τ h (α:=JA×T AV×AH) (f:=fun e τ h k=>k (e,τ,h)) (fun _ _ _=>SC.at_ _)).mono (k:=fun a=>k a.1 a.2.1 a.2.2) (k':=fun a=>k' a.1 a.2.1 a.2.2) (fun a=>hk _ _ _) hr
theorem Do {n:Nat} (IH:∀c k τ h,run C n c k τ h ->run C (n+1) c k τ h) (g:Nat) (args:List AV) (h:AH) (k:AV ->AH ->Prop) (hr:iV C (run C n) g args h k):iV C (run C (n+1)) g args h k:=by
 unfold iV at hr ⊢;cases hf:C.fns.get g with
 |none=>rw[hf] at hr;exact hr
 |some fn=>rw[hf] at hr;dsimp only at hr ⊢;rw[jU] at hr ⊢;exact IH _ _ _ _ hr
theorem Dp {n:Nat} (IH:∀c k τ h,run C n c k τ h ->run C (n+1) c k τ h) (g:Nat) (args:List AV) (h:AH) (k:AV ->AH ->Prop) (hr:gV C (run C n) g args h k):gV C (run C (n+1)) g args h k:=
 hC.fb _ _ _ _ _ _ (Do hC IH g args h k) hr
theorem tC {k k':T AV ->Prop} (hk:∀τ,k τ ->k' τ):∀(l:List Nat) (a:List AV) (τ:T AV),eh C l a τ k ->eh C l a τ k'
 |[],[],τ,h=>hk τ h
 |[],_::_,_,h=>h
 |_::_,[],_,h=>h
 |p::l,x::a,τ,h=>by
  have h1:τ.setK p x (fun τ=>eh C l a τ k):=h;show τ.setK p x (fun τ=>eh C l a τ k');rw[T.setK_put] at h1 ⊢;exact tC hk l a _ h1
theorem BL {k k':AH ->Prop} (hk:∀h,k h ->k' h) (h:AH) (l:Nat) (hr:gh C h l k):gh C h l k':=by
 unfold gh at hr ⊢;split
 ·rename_i he;rw[he] at hr;simp only[AH.put_eq] at hr ⊢;exact hk _ hr
 ·rename_i he;split at hr
  ·rename_i hq;exact absurd hq (he _ _ _ _ _)
  ·exact hr
theorem zV {n:Nat} (IH:∀c k τ h,run C n c k τ h ->run C (n+1) c k τ h) (l:Nat) (args:List AV) (h:AH) (k:AV ->AH ->Prop) (hr:dU C (run C n) l args h k):dU C (run C (n+1)) l args h k:=by
 unfold dU at hr ⊢;split at hr
 ·rename_i ps asg body env _ _ hg;refine tC hC (fun τ hh=>IH _ _ _ _ (xN hC (fun e τ h he=> ?_) hh)) _ _ _ hr;cases e with
  |normal=>exact BL hC (fun h hh=>IH _ _ _ _ hh) _ _ he
  |_=>exact he
 ·rw[hC.fail] at hr;exact hr.elim
theorem pP (n:Nat):∀c k τ h,run C n c k τ h ->run C (n+1) c k τ h:=by
 induction n with
 |zero=>intro c k τ h hr;have:C.fail:=hr;rw[hC.fail] at this;exact this.elim
 |succ n IH=>
  intro c k τ h hr;rw[bC] at hr ⊢;have c1:∀f a h,zc (gV C (run C n) f a h):=pO hC (fun c τ h {α} {f} hf=>uJ hC n c τ h hf);have y1:∀f a h,zc (dU C (run C n) f a h):=nQ hC (fun c τ h {α} {f} hf=>uJ hC n c τ h hf);have cc:=Dp hC IH;have yy:=zV hC IH;cases c with
  |skip=>exact hr
  |ops l=>exact lR hC c1 y1 cc yy _ l τ h hr
  |draw z l=>dsimp only at hr ⊢;rw[bR] at hr ⊢;exact iu hC c1 y1 cc yy _ l _ _ _ _ hr
  |dfr l x fn=>exact lR hC c1 y1 cc yy _ l τ h hr
  |seq a b=>exact IH _ _ _ _ (xN hC (fun e τ h he=>by cases e<;>first|exact IH _ _ _ _ he|exact he) hr)
  |cond x a b=>
   dsimp only at hr ⊢;cases hx:bp C τ x with
   |b t=>rw[hx] at hr;cases t<;>exact IH _ _ _ _ hr
   |_=>rw[hx] at hr;exact hr
  |block i a=>exact IH _ _ _ _ hr
  |loop a=>exact IH _ _ _ _ (xN hC (fun e τ h he=>by cases e<;>first|exact IH _ _ _ _ he|exact he) hr)
  |rfun q ps asg body=>
   dsimp only at hr ⊢;rw[AH.new_eq] at hr ⊢;cases hx:bp C τ q with
   |f g fi ca=>
    rw[hx] at hr;dsimp only at hr ⊢;cases ha:gK fi (.y h.next::ca) with
    |none=>rw[ha] at hr;exact hr
    |some l=>rw[ha] at hr;exact Do hC IH _ _ _ _ hr
   |_=>rw[hx] at hr;exact hr
  |exit i=>exact hr
  |ret=>exact hr
  |bad w=>exact hr
theorem Wa {n m:Nat} (hnm:n<=m) {c k τ h} (hr:run C n c k τ h):run C m c k τ h:=by
 induction hnm with
 |refl=>exact hr
 |step _ ih=>exact pP hC _ _ _ _ _ ih
end
section
variable {C:cQ Prop} (hC:pN C)
include hC
section fam
variable {cK yK:Nat ->Nat ->List AV ->AH ->(AV ->AH ->Prop) ->Prop} (hc:∀n f a h,zc (cK n f a h)) (hy:∀n f a h,zc (yK n f a h))
 (cc:∀n f a h k,cK n f a h k ->cK (n+1) f a h k) (yy:∀n f a h k,yK n f a h k ->yK (n+1) f a h k)
omit hC in
theorem Mq {cK:Nat ->Nat ->List AV ->AH ->(AV ->AH ->Prop) ->Prop} (cc:∀n f a h k,cK n f a h k ->cK (n+1) f a h k) {n m:Nat} (h:n<=m) (f:Nat) (a:List AV) (x:AH) (k:AV ->AH ->Prop) (hr:cK n f a x k):cK m f a x k:=by
 induction h with
 |refl=>exact hr
 |step _ ih=>exact cc _ _ _ _ _ ih
include hc hy cc yy
theorem xO (g:MG) (τ:T AV) (h:AH) (K:Nat ->AV×AH ->Prop) (hK:∀m a,K m a ->K (m+1) a)
 (hr:dg C (fun f a h k=>∃n,cK n f a h k) (fun f a h k=>∃n,yK n f a h k) g τ h (fun v h=>∃m,K m (v,h))):∃m,dg C (cK m) (yK m) g τ h (fun v h=>K m (v,h)):=by
 have act:(match step (bp C τ) h g.op with
  | .v x h=>∃m,K m (x,h)
  | .call q args h=>∃n,cK n q args h (fun v h=>∃m,K m (v,h))
  | .yld l args h=>∃n,yK n l args h (fun v h=>∃m,K m (v,h))
  | .alts l=>iU C (fun v h=>∃m,K m (v,h)) l
  | .bad=>C.fail:Prop) ->∃m,(match step (bp C τ) h g.op with
  | .v x h=>K m (x,h)
  | .call q args h=>cK m q args h (fun v h=>K m (v,h))
  | .yld l args h=>yK m l args h (fun v h=>K m (v,h))
  | .alts l=>iU C (fun v h=>K m (v,h)) l
  | .bad=>C.fail:Prop):=by
  cases step (bp C τ) h g.op with
  |v x h=>exact id
  |call q args h=>
   rintro⟨n,h1⟩;obtain⟨m,h2⟩:=(hc n q args h).cont K hK h1;refine⟨max n m,Mq cc (Bi ..) _ _ _ _ ((hc n q args h).mono (k:=K m) (k':=K (max n m)) (fun a=>pM hK (Bj ..)) h2)⟩
  |yld l args h=>
   rintro⟨n,h1⟩;obtain⟨m,h2⟩:=(hy n l args h).cont K hK h1;refine⟨max n m,Mq yy (Bi ..) _ _ _ _ ((hy n l args h).mono (k:=K m) (k':=K (max n m)) (fun a=>pM hK (Bj ..)) h2)⟩
  |alts l=>exact fun h1=>(BJ hC (α:=AV×AH) (f:=fun v h k=>k (v,h)) (fun _ _=>SC.at_ _) l).cont K hK h1
  |bad=>exact fun h=>⟨0,h⟩
 unfold dg at hr ⊢;dsimp only at hr ⊢;cases hg:g.guard with
 |none=>rw[hg] at hr;exact act hr
 |some q=>
  rw[hg] at hr;obtain⟨t,w⟩:=q;dsimp only at hr ⊢;cases ht:τ.get t with
  |none=>rw[ht] at hr;exact⟨0,hr⟩
  |some y=>
   rw[ht] at hr;cases y with
   |b x=>
    dsimp only at hr ⊢;cases hb:(bif x then w else !w) with
    |true=>rw[hb] at hr;exact act hr
    |false=>rw[hb] at hr;exact hr
   |tu l=>cases l with
    |nil=>exact hr
    |cons _ _=>exact⟨0,hr⟩
   |_=>exact⟨0,hr⟩
theorem pQ {K:T AV ->AH ->Prop}:∀(l:List MG) (τ:T AV) (h:AH),bg C (fun f a h k=>∃n,cK n f a h k) (fun f a h k=>∃n,yK n f a h k) K l τ h ->∃m,bg C (cK m) (yK m) K l τ h
 |[],_,_,hr=>⟨0,hr⟩
 |g::l,τ,h,hr=>by
  have h1:dg C (fun f a h k=>∃n,cK n f a h k) (fun f a h k=>∃n,yK n f a h k) g τ h (fun x h=>dZ τ g.dst x fun τ=>bg C (fun f a h k=>∃n,cK n f a h k) (fun f a h k=>∃n,yK n f a h k) K l τ h):=hr;have e1:∀f a h,zc ((fun f a h k=>∃n,cK n f a h k:Nat ->List AV ->AH ->(AV ->AH ->Prop) ->Prop) f a h):=fun f a h=>SC.ex (F:=fun n k=>cK n f a h (fun v h=>k (v,h))) (fun n=>hc n f a h)
  have e2:∀f a h,zc ((fun f a h k=>∃n,yK n f a h k:Nat ->List AV ->AH ->(AV ->AH ->Prop) ->Prop) f a h):=fun f a h=>SC.ex (F:=fun n k=>yK n f a h (fun v h=>k (v,h))) (fun n=>hy n f a h)
  have h2:=(nP hC e1 e2 g τ h (α:=AV×AH) (f:=fun v h k=>k (v,h)) (fun _ _=>SC.at_ _)).mono (k':=fun a=>∃m,bg C (cK m) (yK m) K l (bM τ g.dst a.1) a.2) (fun a ha=>by
   have ha':dZ τ g.dst a.1 fun τ=>bg C (fun f a h k=>∃n,cK n f a h k) (fun f a h k=>∃n,yK n f a h k) K l τ a.2:=ha
   rw[dh] at ha';exact pQ l _ _ ha') (k:=fun a=>dZ τ g.dst a.1 fun τ=>bg C (fun f a h k=>∃n,cK n f a h k) (fun f a h k=>∃n,yK n f a h k) K l τ a.2) h1
  obtain⟨m,h3⟩:=xO hC hc hy cc yy g τ h (fun m a=>bg C (cK m) (yK m) K l (bM τ g.dst a.1) a.2) (fun m a ha=>lR hC (hc m) (hy m) (cc m) (yy m) K l _ _ ha) h2;refine⟨m,?_⟩;show dg C (cK m) (yK m) g τ h (fun x h=>dZ τ g.dst x fun τ=>bg C (cK m) (yK m) K l τ h);simp only[dh];exact h3
theorem jE {base:Nat} {K:T AV ->AH ->Prop}:∀(l:List DI) (ls:List (Nat×MG)) (pd:List (Nat×Nat×aU)) (τ:T AV) (h:AH),
 aC C (fun f a h k=>∃n,cK n f a h k) (fun f a h k=>∃n,yK n f a h k) base K l ls pd τ h ->∃m,aC C (cK m) (yK m) base K l ls pd τ h
 |[],_,_,_,_,hr=>⟨0,hr⟩
 |d::l,ls,pd,τ,h,hr=>by
  cases d with
  |light i g=>
   have h1:(match bB C τ h g with
    |some x=>dZ τ g.dst x fun τ=>aC C (fun f a h k=>∃n,cK n f a h k) (fun f a h k=>∃n,yK n f a h k) base K l ((i,g)::ls) pd τ h
    |none=>C.fail):=hr
   show∃m,(match bB C τ h g with
    |some x=>dZ τ g.dst x fun τ=>aC C (cK m) (yK m) base K l ((i,g)::ls) pd τ h
    |none=>C.fail)
   cases hl:bB C τ h g with
   |none=>rw[hl] at h1;exact⟨0,h1⟩
   |some x=>rw[hl] at h1;dsimp only at h1 ⊢;simp only[dh] at h1 ⊢;exact jE l _ _ _ _ h1
  |resv i n g=>
   have h1:(fN (base+n) fun id=>match step (bp C τ) ⟨id,h.ver,.e⟩ g.op with
    | .v x h'=>match h'.objs.get id with
     |some ob=>dZ τ g.dst x fun τ=>aC C (fun f a h k=>∃n,cK n f a h k) (fun f a h k=>∃n,yK n f a h k) base K l ls ((i,id,ob)::pd) τ h
     |none=>C.fail
    |_=>C.fail):=hr
   show∃m,(fN (base+n) fun id=>match step (bp C τ) ⟨id,h.ver,.e⟩ g.op with
    | .v x h'=>match h'.objs.get id with
     |some ob=>dZ τ g.dst x fun τ=>aC C (cK m) (yK m) base K l ls ((i,id,ob)::pd) τ h
     |none=>C.fail
    |_=>C.fail)
   simp only[bR] at h1 ⊢;cases hs:step (bp C τ) ⟨base+n,h.ver,.e⟩ g.op with
   |v x h'=>
    rw[hs] at h1;dsimp only at h1 ⊢;cases ho:h'.objs.get (base+n) with
    |none=>rw[ho] at h1;exact⟨0,h1⟩
    |some ob=>rw[ho] at h1;dsimp only at h1 ⊢;simp only[dh] at h1 ⊢;exact jE l _ _ _ _ h1
   |_=>rw[hs] at h1;exact⟨0,h1⟩
  |lay i=>
   have h1:(match gB i pd with
    |some (id,ob)=>h.put id ob fun h=>aC C (fun f a h k=>∃n,cK n f a h k) (fun f a h k=>∃n,yK n f a h k) base K l ls pd τ h
    |none=>C.fail):=hr
   show∃m,(match gB i pd with
    |some (id,ob)=>h.put id ob fun h=>aC C (cK m) (yK m) base K l ls pd τ h
    |none=>C.fail)
   cases hf:gB i pd with
   |none=>rw[hf] at h1;exact⟨0,h1⟩
   |some q=>rw[hf] at h1;dsimp only at h1 ⊢;simp only[AH.put_eq] at h1 ⊢;exact jE l _ _ _ _ h1
  |heavy i g mask=>
   have h1:dg C (fun f a h k=>∃n,cK n f a h k) (fun f a h k=>∃n,yK n f a h k) g τ h fun x h=>dZ τ g.dst x fun τ=>cj C τ h mask ls (aC C (fun f a h k=>∃n,cK n f a h k) (fun f a h k=>∃n,yK n f a h k) base K l ls pd τ h):=hr
   have e1:∀f a h,zc ((fun f a h k=>∃n,cK n f a h k:Nat ->List AV ->AH ->(AV ->AH ->Prop) ->Prop) f a h):=fun f a h=>SC.ex (F:=fun n k=>cK n f a h (fun v h=>k (v,h))) (fun n=>hc n f a h)
   have e2:∀f a h,zc ((fun f a h k=>∃n,yK n f a h k:Nat ->List AV ->AH ->(AV ->AH ->Prop) ->Prop) f a h):=fun f a h=>SC.ex (F:=fun n k=>yK n f a h (fun v h=>k (v,h))) (fun n=>hy n f a h)
   have ag:∀τ h,SC (α:=Unit) (fun k=>cj C τ h mask ls (k ())):=fun τ h=>tA hC (τ:=τ) (h:=h) (mask:=mask) (α:=Unit) (F:=fun k=>k ()) (SC.at_ _) ls
   have h2:=(nP hC e1 e2 g τ h (α:=AV×AH) (f:=fun v h k=>k (v,h)) (fun _ _=>SC.at_ _)).mono
    (k':=fun a=>∃m,cj C (bM τ g.dst a.1) a.2 mask ls (aC C (cK m) (yK m) base K l ls pd (bM τ g.dst a.1) a.2)) (fun a ha=>by
     have ha':dZ τ g.dst a.1 fun τ=>cj C τ a.2 mask ls (aC C (fun f a h k=>∃n,cK n f a h k) (fun f a h k=>∃n,yK n f a h k) base K l ls pd τ a.2):=ha
     rw[dh] at ha';have h3:=(ag _ _).mono (k:=fun _=>_) (k':=fun _=>∃m,aC C (cK m) (yK m) base K l ls pd (bM τ g.dst a.1) a.2) (fun _ hh=>jE l _ _ _ _ hh) ha';exact(ag _ _).cont (fun m _=>aC C (cK m) (yK m) base K l ls pd (bM τ g.dst a.1) a.2) (fun m _ hh=>iu hC (hc m) (hy m) (cc m) (yy m) K l _ _ _ _ hh) h3)
    (k:=fun a=>dZ τ g.dst a.1 fun τ=>cj C τ a.2 mask ls (aC C (fun f a h k=>∃n,cK n f a h k) (fun f a h k=>∃n,yK n f a h k) base K l ls pd τ a.2)) h1
   obtain⟨m,h3⟩:=xO hC hc hy cc yy g τ h (fun m a=>cj C (bM τ g.dst a.1) a.2 mask ls (aC C (cK m) (yK m) base K l ls pd (bM τ g.dst a.1) a.2))
    (fun m a ha=>(ag _ _).mono (k:=fun _=>_) (k':=fun _=>_) (fun _ hh=>iu hC (hc m) (hy m) (cc m) (yy m) K l _ _ _ _ hh) ha) h2
   refine⟨m,?_⟩;show dg C (cK m) (yK m) g τ h fun x h=>dZ τ g.dst x fun τ=>cj C τ h mask ls (aC C (cK m) (yK m) base K l ls pd τ h)
   simp only[dh];exact h3
end fam
end
section
variable (C:cQ Prop)
def qt (c:ap) (k:K Prop) (τ:T AV) (h:AH):Prop:=∃n,run C n c k τ h
def bZ (f:Nat) (args:List AV) (h:AH) (k:AV ->AH ->Prop):Prop:=∃n,iV C (run C n) f args h k
def fX (f:Nat) (args:List AV) (h:AH) (k:AV ->AH ->Prop):Prop:=∃n,gV C (run C n) f args h k
def tD (l:Nat) (args:List AV) (h:AH) (k:AV ->AH ->Prop):Prop:=∃n,dU C (run C n) l args h k
end
section
variable {C:cQ Prop} (hC:pN C) {k:K Prop} {τ:T AV} {h:AH}
include hC
theorem c1 (n:Nat):∀f a h,zc (gV C (run C n) f a h):=pO hC (fun c τ h {α} {f} hf=>uJ hC n c τ h hf)
theorem y1 (n:Nat):∀f a h,zc (dU C (run C n) f a h):=nQ hC (fun c τ h {α} {f} hf=>uJ hC n c τ h hf)
theorem cc1 (n:Nat):∀f a h k,gV C (run C n) f a h k ->gV C (run C (n+1)) f a h k:=Dp hC (pP hC n)
theorem yy1 (n:Nat):∀f a h k,dU C (run C n) f a h k ->dU C (run C (n+1)) f a h k:=zV hC (pP hC n)
theorem j3 {n:Nat} {c:ap} (hr:run C n c k τ h):∃m,n=m+1:=by
 cases n with
 |zero=>have:C.fail:=hr;rw[hC.fail] at this;exact this.elim
 |succ m=>exact⟨m,rfl⟩
theorem Dq:qt C .skip k τ h↔k .normal τ h:=
 ⟨fun ⟨n,hr⟩=>by obtain⟨m,rfl⟩:=j3 hC hr;rw[bC] at hr;exact hr,fun hk=>⟨1,by rw[bC];exact hk⟩⟩
theorem Dr {i:Nat}:qt C (.exit i) k τ h↔k (.exit i) τ h:=
 ⟨fun ⟨n,hr⟩=>by obtain⟨m,rfl⟩:=j3 hC hr;rw[bC] at hr;exact hr,fun hk=>⟨1,by rw[bC];exact hk⟩⟩
theorem Ib:qt C .ret k τ h↔k .ret τ h:=
 ⟨fun ⟨n,hr⟩=>by obtain⟨m,rfl⟩:=j3 hC hr;rw[bC] at hr;exact hr,fun hk=>⟨1,by rw[bC];exact hk⟩⟩
theorem Ds {c:ap} {K:Nat ->JA ->T AV ->AH ->Prop} (hK:∀m e τ h,K m e τ h ->K (m+1) e τ h) (hr:qt C c (fun e τ h=>∃m,K m e τ h) τ h):∃n,run C n c (K n) τ h:=by
 obtain⟨n,hr⟩:=hr;obtain⟨m,h1⟩:=(uJ hC n c τ h (α:=JA×T AV×AH) (f:=fun e τ h k=>k (e,τ,h)) (fun _ _ _=>SC.at_ _)).cont (fun m a=>K m a.1 a.2.1 a.2.2) (fun m a=>hK m _ _ _) hr;refine⟨max n m,Wa hC (Bi ..) (xN hC (fun e τ h he=> ?_) h1)⟩;exact pM (K:=fun m (a:JA×T AV×AH)=>K m a.1 a.2.1 a.2.2) (fun m a=>hK m _ _ _) (Bj ..) (a:=(e,τ,h)) he
theorem tE {c:ap} {k k':K Prop} (hk:∀e τ h,k e τ h ->k' e τ h) (hr:qt C c k τ h):qt C c k' τ h:=
 let ⟨n,hr⟩:=hr;⟨n,xN hC hk hr⟩
theorem Ic {a b:ap}:qt C (.seq a b) k τ h↔qt C a (fun e τ h=>match e with| .normal=>qt C b k τ h|e=>k e τ h) τ h:=by
 constructor
 ·rintro⟨n,hr⟩;obtain⟨m,rfl⟩:=j3 hC hr;rw[bC] at hr;exact⟨m,xN hC (fun e τ h he=>by cases e<;>first|exact⟨m,he⟩|exact he) hr⟩
 ·intro hr;obtain⟨n,h1⟩:=Ds hC (K:=fun m e τ h=>match e with| .normal=>run C m b k τ h|e=>k e τ h)
   (fun m e τ h he=>by cases e<;>first|exact pP hC _ _ _ _ _ he|exact he) (tE hC (fun e τ h he=>by cases e<;>first|exact he|exact⟨0,he⟩) hr)
  exact⟨n+1,by rw[bC];exact h1⟩
theorem kr {a:ap}:qt C (.loop a) k τ h↔qt C a (fun e τ h=>match e with| .normal=>qt C (.loop a) k τ h|e=>k e τ h) τ h:=by
 constructor
 ·rintro⟨n,hr⟩;obtain⟨m,rfl⟩:=j3 hC hr;rw[bC] at hr;exact⟨m,xN hC (fun e τ h he=>by cases e<;>first|exact⟨m,he⟩|exact he) hr⟩
 ·intro hr;obtain⟨n,h1⟩:=Ds hC (K:=fun m e τ h=>match e with| .normal=>run C m (.loop a) k τ h|e=>k e τ h)
   (fun m e τ h he=>by cases e<;>first|exact pP hC _ _ _ _ _ he|exact he) (tE hC (fun e τ h he=>by cases e<;>first|exact he|exact⟨0,he⟩) hr)
  exact⟨n+1,by rw[bC];exact h1⟩
theorem Mr {x:MA} {a b:ap}:qt C (.cond x a b) k τ h↔(match bp C τ x with| .b t=>(bif t then qt C a k τ h else qt C b k τ h)|_=>False):=by
 constructor
 ·rintro⟨n,hr⟩;obtain⟨m,rfl⟩:=j3 hC hr;rw[bC] at hr;dsimp only at hr;cases hx:bp C τ x with
  |b t=>rw[hx] at hr;cases t<;>exact⟨m,hr⟩
  |_=>rw[hx] at hr;dsimp only at hr;rw[hC.fail] at hr;exact hr
 ·intro hr;cases hx:bp C τ x with
  |b t=>
   rw[hx] at hr;cases t<;>(obtain⟨m,hr⟩:=hr;exact⟨m+1,by rw[bC];dsimp only;rw[hx];exact hr⟩)
  |_=>rw[hx] at hr;exact hr.elim
theorem zW {i:Nat} {a:ap}:qt C (.block i a) k τ h↔qt C a (fun e τ h=>match e with| .exit j=>(bif Nat.beq j i then k .normal τ h else k (.exit j) τ h)|e=>k e τ h) τ h:=
 ⟨fun ⟨n,hr⟩=>by obtain⟨m,rfl⟩:=j3 hC hr;rw[bC] at hr;exact⟨m,hr⟩,fun ⟨m,hr⟩=>⟨m+1,by rw[bC];exact hr⟩⟩
theorem Id {l:List MG}:qt C (.ops l) k τ h↔bg C (fX C) (tD C) (fun τ h=>k .normal τ h) l τ h:=by
 constructor
 ·rintro⟨n,hr⟩;obtain⟨m,rfl⟩:=j3 hC hr;rw[bC] at hr;exact lR hC (c1 hC m) (y1 hC m) (fun f a h k hk=>⟨m,hk⟩) (fun f a h k hk=>⟨m,hk⟩) _ l τ h hr
 ·intro hr;obtain⟨m,h1⟩:=pQ hC (cK:=fun n=>gV C (run C n)) (yK:=fun n=>dU C (run C n)) (c1 hC) (y1 hC) (cc1 hC) (yy1 hC) l τ h hr;exact⟨m+1,by rw[bC];exact h1⟩
theorem Dt {z:Nat} {l:List DI}:qt C (.draw z l) k τ h↔aC C (fX C) (tD C) h.next (fun τ h=>k .normal τ h) l [] [] τ ⟨h.next+z,h.ver,h.objs⟩:=by
 constructor
 ·rintro⟨n,hr⟩;obtain⟨m,rfl⟩:=j3 hC hr;rw[bC] at hr;dsimp only at hr;rw[bR] at hr;exact iu hC (c1 hC m) (y1 hC m) (fun f a h k hk=>⟨m,hk⟩) (fun f a h k hk=>⟨m,hk⟩) _ l _ _ τ _ hr
 ·intro hr;obtain⟨m,h1⟩:=jE hC (cK:=fun n=>gV C (run C n)) (yK:=fun n=>dU C (run C n)) (c1 hC) (y1 hC) (cc1 hC) (yy1 hC) l _ _ τ _ hr;exact⟨m+1,by rw[bC];dsimp only;rw[bR];exact h1⟩
theorem Rw {l:List MG} {x:MA} {fn:Nat}:qt C (.dfr l x fn) k τ h↔bg C (fX C) (tD C) (fun τ h=>match bp C τ x with
 | .f g _ _=>(bif Nat.beq g fn then k .normal τ h else False)
 |_=>False) l τ h:=by
 constructor
 ·rintro⟨n,hr⟩;obtain⟨m,rfl⟩:=j3 hC hr;rw[bC] at hr;dsimp only at hr;rw[hC.fail] at hr;exact lR hC (c1 hC m) (y1 hC m) (fun f a h k hk=>⟨m,hk⟩) (fun f a h k hk=>⟨m,hk⟩) _ l τ h hr
 ·intro hr;obtain⟨m,h1⟩:=pQ hC (cK:=fun n=>gV C (run C n)) (yK:=fun n=>dU C (run C n)) (c1 hC) (y1 hC) (cc1 hC) (yy1 hC) l τ h hr;exact⟨m+1,by rw[bC];dsimp only;rw[hC.fail];exact h1⟩
theorem zY {f:Nat} {args:List AV} {k:AV ->AH ->Prop}:fX C f args h k↔C.spec f args h k (bZ C f args h k):=
 ⟨fun ⟨n,hr⟩=>hC.fb _ _ _ _ _ _ (fun hb=>⟨n,hb⟩) hr,fun hr=>hC.fbc _ _ _ _ _ hr⟩
theorem JO {f:Nat} {args:List AV} {k:AV ->AH ->Prop} {fn:aR} (hf:C.fns.get f=some fn):bZ C f args h k↔qt C fn.body (fun e τ h=>match e with
 | .exit _=>False
 |_=>match aP τ h fn.res with|some v=>k v h|none=>False) (pe args 0 .e) h:=by
 unfold bZ iV qt;rw[hf,hC.fail];simp only[jU];exact Iff.rfl
end
section
variable {C:cQ Prop} {ck yk:Nat ->List AV ->AH ->(AV ->AH ->Prop) ->Prop}
def FT {k:T AV ->AH ->Prop} {τ h}:bg C ck yk k [] τ h=k τ h:=rfl
def vO {k:T AV ->AH ->Prop} {g l τ h}:bg C ck yk k (g::l) τ h=dg C ck yk g τ h (fun x h=>bg C ck yk k l (bM τ g.dst x) h):=by
 show dg C ck yk g τ h (fun x h=>dZ τ g.dst x fun τ=>bg C ck yk k l τ h)=_;simp only[dh]
def aq8 {k:T AV ->AH ->Prop} {d op l τ h}:bg C ck yk k (⟨d,op,none⟩::l) τ h=(match step (bp C τ) h op with
 | .v x h=>bg C ck yk k l (bM τ d x) h
 | .call f a h=>ck f a h fun x h=>bg C ck yk k l (bM τ d x) h
 | .yld o a h=>yk o a h fun x h=>bg C ck yk k l (bM τ d x) h
 | .alts q=>iU C (fun x h=>bg C ck yk k l (bM τ d x) h) q
 | .bad=>C.fail):=by
 rw[vO];unfold dg;dsimp only;cases step (bp C τ) h op<;>rfl
def aq9 {k:T AV ->AH ->Prop} {d op l τ h t w}:bg C ck yk k (⟨d,op,some (t,w)⟩::l) τ h=(match τ.get t with
 |some (.b x)=>(if x=w then (match step (bp C τ) h op with
  | .v x h=>bg C ck yk k l (bM τ d x) h
  | .call f a h=>ck f a h fun x h=>bg C ck yk k l (bM τ d x) h
  | .yld o a h=>yk o a h fun x h=>bg C ck yk k l (bM τ d x) h
  | .alts q=>iU C (fun x h=>bg C ck yk k l (bM τ d x) h) q
  | .bad=>C.fail) else bg C ck yk k l (bM τ d (.tu [])) h)
 |some (.tu [])=>bg C ck yk k l (bM τ d (.tu [])) h
 |_=>C.fail):=by
 rw[vO];unfold dg;dsimp only;cases τ.get t with
 |none=>rfl
 |some y=>
  cases y with
  |b x=>cases x<;>cases w<;>(cases step (bp C τ) h op<;>rfl)
  |tu l=>cases l<;>rfl
  |_=>rfl
def JP {τ:T AV} {d x}:bM τ (some d) x=τ.put d x:=rfl
def JQ {τ:T AV} {x}:bM τ none x=τ:=rfl
def mR {τ:T AV} {n}:bp C τ (.t n)=(τ.get n).getD .un:=by
 show(Option.rec .un (fun v=>v) (τ.get n):AV)=_;cases τ.get n<;>rfl
def tF {τ:T AV} {v}:bp C τ (.c v)=v:=rfl
section
variable {ev:MA ->AV} {h:AH}
def TE {a}:step ev h (.mv a)= .v (ev a) h:=by show fV (ev a) (fun x=>bj.v x h)=_;rw[iW]
def Ie {c a b}:step ev h (.pick c a b)=(match ev c with| .b x=>(if x=true then .v (ev a) h else .v (ev b) h)|_=> .bad):=by
 show(match ev c with| .b x=>(Bool.rec (fV (ev b) fun x=>bj.v x h) (fV (ev a) fun x=>bj.v x h) x:bj)|_=>bj.bad)=_;cases ev c<;>simp only[iW];rename_i x;cases x<;>rfl
def Du {z}:step ev h (.alloc z)= .v (.p h.next 0) ⟨h.next+1,h.ver,h.objs.put h.next (.cells h.ver z)⟩:=by
 show(h.new (.cells h.ver z) fun o h=>bj.v (.p o 0) h)=_;rw[AH.new_eq]
def Mt {a n}:step ev h (.box a n)=(match cellsO (ev a) with|some l=> .v (.p h.next 0) ⟨h.next+1,h.ver,h.objs.put h.next (.cells h.ver l)⟩|none=> .bad):=by
 show(match cellsO (ev a) with|some l=>h.new (.cells h.ver l) fun o h=>bj.v (.p o 0) h|none=>bj.bad)=_;simp only[AH.new_eq]
def Dv {z ps}:step ev h (.build z ps)=(match gk ev ps z with|some l=> .v (.ag l) h|none=> .bad):=rfl
def If {a n agg}:step ev h (.load a n agg)=(match ev a with
 | .p o off=>match h.cells o with
  |some l=>match sub l off n with|some c=>ig h (iQ agg c)|none=> .bad
  |none=> .bad
 | .dp l off=>match sub l off n with|some c=>ig h (iQ agg c)|none=> .bad
 |_=> .bad):=rfl
def Dw {a x n}:step ev h (.store a x n)=(match ev a with
 | .p o off=>match h.cells o with
  |some l=>match bD (cellsOf (ev x)) l off with
   |some l'=>(if (cE (cellsOf (ev x))&&Nat.beq (len (cellsOf (ev x))) n)=true then .v .un ⟨h.next,h.ver+1,h.objs.put o (.cells (h.ver+1) l')⟩ else .bad)
   |none=> .bad
  |none=> .bad
 |_=> .bad):=by
 show(match ev a with
  | .p o off=>match h.cells o with
   |some l=>fV (ev x) fun x=>match bD (cellsOf x) l off with
    |some l'=>bif cE (cellsOf x)&&Nat.beq (len (cellsOf x)) n then h.put o (.cells (Nat.succ h.ver) l') fun h=>bj.v .un h else bj.bad
    |none=>bj.bad
   |none=>bj.bad
  |_=>bj.bad)=_
 simp only[AH.put_eq,iW,dD]
def Mu {op x y}:step ev h (.bin op x y)=ig h (aV op (ev x) (ev y)):=rfl
def Mv {ne e x y}:step ev h (.eqv ne e x y)=(match fS 6 e (ev x) (ev y) with|some r=> .v (.b (bif ne then !r else r)) h|none=> .bad):=rfl
def TF {op x}:step ev h (.un op x)=ig h (Tu op (ev x)):=rfl
def FU {fn a b}:step ev h (.mfn fn a b)=(match kK ev a,kK ev b with|some a,some b=> .v (.f fn a b) h|_,_=> .bad):=rfl
def Ig {x off}:step ev h (.fadr x off)=(match ev x with| .p o a=> .v (.p o (a+off)) h| .dp l a=> .v (.dp l (a+off)) h|_=> .bad):=by
 show(match ev x with| .p o a=>fN (a+off) fun a=>bj.v (.p o a) h| .dp l a=>fN (a+off) fun a=>bj.v (.dp l a) h|_=>bj.bad)=_;simp only[bR]
def Ih {f a}:step ev h (.call f a)=(match kK ev a with|some l=> .call f l h|none=> .bad):=rfl
def Mw {x i}:step ev h (.ext x i)=(match ev x with| .tu l=>ig h (CT l i)|_=> .bad):=rfl
def Dx {x}:ig h (some x)= .v x h:=rfl
def oE:kK ev []=some []:=rfl
def mj {a l}:kK ev (a::l)=(kK ev l).map (ev a:: ·):=by
 show(Option.rec none (fun b=>Option.rec none (fun t=>some (b::t)) (kK ev l)) (fV (ev a) some):Option (List AV))=_;rw[iW];cases kK ev l<;>rfl
end
def ku {k:IntKind}:rP k k=true:=by cases k<;>rfl
def Ii {k:IntKind} {a b:Int}:aV .lss (.i k a) (.i k b)=some (.b (decide (a<b))):=by
 show(bif rP k k then rb (gO a b) else none)=_;rw[ku,gG];show rb _=_;unfold rb;rw[rj]
def Ij {k:IntKind} {a b:Int}:aV .geq (.i k a) (.i k b)=some (.b (decide (b<=a))):=by
 show(bif rP k k then rb (!(gO a b)) else none)=_;rw[ku,gG];show rb _=_;unfold rb;rw[rj];congr 2;rw[zw];simp
def Ik {k:IntKind} {a b:Int}:aV .eql (.i k a) (.i k b)=some (.b (decide (a=b))):=by
 show(bif rP k k then rb (fQ a b) else none)=_;rw[ku,bF];show rb _=_;unfold rb;rw[rj]
def Il {k:IntKind} {a b:Int}:aV .neq (.i k a) (.i k b)=some (.b (!decide (a=b))):=by
 show(bif rP k k then rb (!(fQ a b)) else none)=_;rw[ku,bF];show rb _=_;unfold rb;rw[rj]
def FV {n:Int} (h: -9223372036854775808<=n/\ n<=9223372036854775807):bT .i64 n=n:=by
 rw[pF];exact IntWalk.i64_in n h
def oF {a b:Int} (h: -9223372036854775808<=a+b/\ a+b<=9223372036854775807):aV .add (ι a) (ι b)=some (ι (a+b)):=by
 show ri .i64 (bT .i64 (a+b))=_;rw[FV h];unfold ri;rw[CV]
def lF {a b:Int} (h: -9223372036854775808<=a-b/\ a-b<=9223372036854775807):aV .sub (ι a) (ι b)=some (ι (a-b)):=by
 show ri .i64 (bT .i64 (a-b))=_;rw[FV h];unfold ri;rw[CV]
def Mx {b:Bool}:Tu .not (.b b)=some (.b !b):=by show rb _=_;unfold rb;rw[rj]
end
section
variable {C:cQ Prop} {ck yk:Nat ->List AV ->AH ->(AV ->AH ->Prop) ->Prop}
def Wb {base} {k:T AV ->AH ->Prop} {ls pd τ h}:aC C ck yk base k [] ls pd τ h=k τ h:=rfl
def Mz {base} {k:T AV ->AH ->Prop} {i g l ls pd τ h}:aC C ck yk base k (.light i g::l) ls pd τ h=(match bB C τ h g with
 |some x=>aC C ck yk base k l ((i,g)::ls) pd (bM τ g.dst x) h
 |none=>C.fail):=by
 show(match bB C τ h g with
  |some x=>dZ τ g.dst x fun τ=>aC C ck yk base k l ((i,g)::ls) pd τ h
  |none=>C.fail)=_
 simp only[dh]
def Ry {base} {k:T AV ->AH ->Prop} {i n g l ls pd τ h}:aC C ck yk base k (.resv i n g::l) ls pd τ h=(match step (bp C τ) ⟨base+n,h.ver,.e⟩ g.op with
 | .v x h'=>match h'.objs.get (base+n) with
  |some ob=>aC C ck yk base k l ls ((i,base+n,ob)::pd) (bM τ g.dst x) h
  |none=>C.fail
 |_=>C.fail):=by
 show(fN (base+n) fun id=>match step (bp C τ) ⟨id,h.ver,.e⟩ g.op with
  | .v x h'=>match h'.objs.get id with
   |some ob=>dZ τ g.dst x fun τ=>aC C ck yk base k l ls ((i,id,ob)::pd) τ h
   |none=>C.fail
  |_=>C.fail)=_
 simp only[bR,dh]
def Wc {base} {k:T AV ->AH ->Prop} {i l ls pd τ h}:aC C ck yk base k (.lay i::l) ls pd τ h=(match gB i pd with
 |some (id,ob)=>aC C ck yk base k l ls pd τ ⟨h.next,h.ver+1,h.objs.put id ob⟩
 |none=>C.fail):=by
 show(match gB i pd with
  |some (id,ob)=>h.put id ob fun h=>aC C ck yk base k l ls pd τ h
  |none=>C.fail)=_
 simp only[AH.put_eq]
def Dy {base} {k:T AV ->AH ->Prop} {i g mask l ls pd τ h}:aC C ck yk base k (.heavy i g mask::l) ls pd τ h=
 dg C ck yk g τ h (fun x h=>cj C (bM τ g.dst x) h mask ls (aC C ck yk base k l ls pd (bM τ g.dst x) h)):=by
 show dg C ck yk g τ h (fun x h=>dZ τ g.dst x fun τ=>cj C τ h mask ls (aC C ck yk base k l ls pd τ h))=_;simp only[dh]
def JR {base} {k:T AV ->AH ->Prop} {i d op mask l ls pd τ h}:aC C ck yk base k (.heavy i ⟨d,op,none⟩ mask::l) ls pd τ h=(match step (bp C τ) h op with
 | .v x h=>cj C (bM τ d x) h mask ls (aC C ck yk base k l ls pd (bM τ d x) h)
 | .call f a h=>ck f a h fun x h=>cj C (bM τ d x) h mask ls (aC C ck yk base k l ls pd (bM τ d x) h)
 | .yld o a h=>yk o a h fun x h=>cj C (bM τ d x) h mask ls (aC C ck yk base k l ls pd (bM τ d x) h)
 | .alts q=>iU C (fun x h=>cj C (bM τ d x) h mask ls (aC C ck yk base k l ls pd (bM τ d x) h)) q
 | .bad=>C.fail):=by
 rw[Dy];unfold dg;dsimp only;cases step (bp C τ) h op<;>rfl
def JS {base} {k:T AV ->AH ->Prop} {i d op t w mask l ls pd τ h}:aC C ck yk base k (.heavy i ⟨d,op,some (t,w)⟩ mask::l) ls pd τ h=(match τ.get t with
 |some (.b x)=>(if x=w then (match step (bp C τ) h op with
  | .v x h=>cj C (bM τ d x) h mask ls (aC C ck yk base k l ls pd (bM τ d x) h)
  | .call f a h=>ck f a h fun x h=>cj C (bM τ d x) h mask ls (aC C ck yk base k l ls pd (bM τ d x) h)
  | .yld o a h=>yk o a h fun x h=>cj C (bM τ d x) h mask ls (aC C ck yk base k l ls pd (bM τ d x) h)
  | .alts q=>iU C (fun x h=>cj C (bM τ d x) h mask ls (aC C ck yk base k l ls pd (bM τ d x) h)) q
  | .bad=>C.fail) else cj C (bM τ d (.tu [])) h mask ls (aC C ck yk base k l ls pd (bM τ d (.tu [])) h))
 |some (.tu [])=>cj C (bM τ d (.tu [])) h mask ls (aC C ck yk base k l ls pd (bM τ d (.tu [])) h)
 |_=>C.fail):=by
 rw[Dy];unfold dg;dsimp only;cases τ.get t with
 |none=>rfl
 |some y=>
  cases y with
  |b x=>cases x<;>cases w<;>(cases step (bp C τ) h op<;>rfl)
  |tu l=>cases l<;>rfl
  |_=>rfl
def Rz {d op τ h}:bB C τ h ⟨d,op,none⟩=(match step (bp C τ) h op with| .v x _=>some x|_=>none):=rfl
def RA {d op t w τ h}:bB C τ h ⟨d,op,some (t,w)⟩=(match τ.get t with
 |some (.b x)=>(if x=w then (match step (bp C τ) h op with| .v x _=>some x|_=>none) else some (.tu []))
 |some (.tu [])=>some (.tu [])
 |_=>none):=by
 unfold bB;dsimp only;cases τ.get t with
 |none=>rfl
 |some y=>
  cases y with
  |b x=>cases x<;>cases w<;>rfl
  |tu l=>cases l<;>rfl
  |_=>rfl
def RB {τ h mask i g ls k}:cj C τ h mask ((i,g)::ls) k=(if Nat.testBit mask i=true then cj C τ h mask ls k else match bB C τ h g with
 |some x=>match g.dst with
  |none=>cj C τ h mask ls k
  |some d=>match τ.get d with
   |some y=>(if cU 64 x y=true then cj C τ h mask ls k else C.fail)
   |none=>C.fail
 |none=>C.fail):=by
 show(bif Nat.testBit mask i then cj C τ h mask ls k else match bB C τ h g with
  |some x=>match g.dst with
   |none=>cj C τ h mask ls k
   |some d=>match τ.get d with
    |some y=>bif cU 64 x y then cj C τ h mask ls k else C.fail
    |none=>C.fail
  |none=>C.fail)=_
 simp only[dD]
def RC {i e l}:gB i (e::l)=(if e.1=i then some e.2 else gB i l):=by
 show(bif Nat.beq e.1 i then some e.2 else gB i l)=_;rw[az,m9]
def aJ:Nat ->AV ->Bool
 |_,.un=>false
 |n+1,.dp l _=>niceL n l
 |n+1,.ds l _ _ _=>niceL n l
 |n+1,.f _ x y=>niceL n x&&niceL n y
 |n+1,.ifc _ v=>aJ n v
 |n+1,.ag l=>niceL n l
 |n+1,.tu l=>niceL n l
 |0,.dp _ _|0,.ds .. |0,.f .. |0,.ifc .. |0,.ag _|0,.tu _=>false
 |_,_=>true
 where niceL (n:Nat):List AV ->Bool
 |[]=>true
 |a::l=>aJ n a&&niceL n l
def tG {k:IntKind}:rP k k=true:=by cases k<;>rfl
def jk {f:AV ->AV ->Bool}:∀{l:List AV},(∀a∈l,f a a=true) ->cU.avEqs f l l=true
 |[],_=>rfl
 |a::l,h=>by
  show(f a a&&cU.avEqs f l l)=true;rw[h a ij,jk fun b hb=>h b (gZ _ hb)];rfl
def jV {n:Nat}:∀{l:List AV},aJ.niceL n l=true ->∀a∈l,aJ n a=true
 |[],_,a,ha=>by cases ha
 |b::l,h,a,ha=>by
  have h':(aJ n b&&aJ.niceL n l)=true:=by rw[←h];simp only[aJ.niceL]
  rw[av] at h';rcases bY.1 ha with rfl|ha
  ·exact h'.1
  ·exact jV h'.2 a ha
def z7:∀(n:Nat) (a:AV),aJ n a=true ->cU n a a=true:=by
 intro n;induction n with
 |zero=>
  intro a h;cases a<;>first|(simp only[aJ] at h;cases h;done)|skip
  all_goals unfold cU;simp[tG,bF,gF,az]
  all_goals (rename_i c _;cases c<;>simp[az])
 |succ n ih=>
  intro a h;cases a with
  |dp l o=>simp only[aJ] at h;unfold cU;simp[az];exact jk fun a ha=>ih a (jV h a ha)
  |ds l o k e=>simp only[aJ] at h;unfold cU;simp[az];exact jk fun a ha=>ih a (jV h a ha)
  |f g x y=>simp only[aJ,av] at h;unfold cU;simp[az];exact⟨jk fun a ha=>ih a (jV h.1 a ha),jk fun a ha=>ih a (jV h.2 a ha)⟩
  |ifc t v=>simp only[aJ] at h;unfold cU;simp[az];exact ih v h
  |ag l=>simp only[aJ] at h;unfold cU;exact jk fun a ha=>ih a (jV h a ha)
  |tu l=>simp only[aJ] at h;unfold cU;exact jk fun a ha=>ih a (jV h a ha)
  |un=>simp only[aJ] at h;cases h
  |sl o a n c e=>unfold cU;cases c<;>simp[az]
  |b x=>unfold cU;cases x<;>rfl
  |i k x=>unfold cU;simp[tG,bF]
  |s x=>unfold cU;simp[gF]
  |p o a=>unfold cU;simp[az]
  |m o=>unfold cU;simp[az]
  |y o=>unfold cU;simp[az]
  |_=>unfold cU;rfl
end
section
variable {ev:MA ->AV} {h:AH}
def gA {k:IntKind} {n:Nat}:dI (.i k (n:Int))=some n:=rfl
def MB {a}:nA ev a=dI (ev a):=rfl
def oG:nO ev none=none:=rfl
def oH {a}:nO ev (some a)=some (dI (ev a)):=rfl
def RD {a}:step ev h (.nilc a)=(match ev a with
 | .p o a=> .v (.p o a) h
 | .dp l a=> .v (.dp l a) h
 | .f g a b=> .v (.f g a b) h
 | .y l=> .v (.y l) h
 | .ifc t v=> .v (.ifc t v) h
 | .m o=> .v (.m o) h
 |_=> .bad):=rfl
def JT {l}:gk ev [] l=some l:=rfl
def FW {p:Nat×Nat×MA} {ps l}:gk ev (p::ps) l=(match cellsO (ev p.2.2) with
 |some c=>(if c.length=p.2.1 then (match bD c l p.1 with|some l=>gk ev ps l|none=>none) else none)
 |none=>none):=by
 show(match cellsO (ev p.2.2) with
  |some c=>bif Nat.beq (len c) p.2.1 then (match bD c l p.1 with|some l=>gk ev ps l|none=>none) else none
  |none=>none)=_
 simp only[gP,az,m9]
def MD {k n}:cellsO (.i k n)=some [.i k n]:=rfl
def JU {o a n c e}:cellsO (.sl o a n c e)=some [.sl o a n c e]:=rfl
def JV:cellsO .sn=some [.sn]:=rfl
def JW {l a n e}:cellsO (.ds l a n e)=some [.ds l a n e]:=rfl
def ME {o}:cellsO (.m o)=some [.m o]:=rfl
def MF {o a}:cellsO (.p o a)=some [.p o a]:=rfl
def MH {b}:cellsO (.b b)=some [.b b]:=rfl
def MJ {b}:cellsO (.s b)=some [.s b]:=rfl
def MK {g a b}:cellsO (.f g a b)=some [.f g a b]:=rfl
def JX {k n}:cellsOf (.i k n)=[.i k n]:=rfl
def FX {o a n c e}:cellsOf (.sl o a n c e)=[.sl o a n c e]:=rfl
def FY:cellsOf .sn=[.sn]:=rfl
def FZ {l a n e}:cellsOf (.ds l a n e)=[.ds l a n e]:=rfl
def JY {o}:cellsOf (.m o)=[.m o]:=rfl
def JZ {o a}:cellsOf (.p o a)=[.p o a]:=rfl
def J0 {b}:cellsOf (.b b)=[.b b]:=rfl
def J1 {b}:cellsOf (.s b)=[.s b]:=rfl
def J2 {g a b}:cellsOf (.f g a b)=[.f g a b]:=rfl
def ML {k n}:bU (.i k n)=true:=rfl
def J3 {o a n c e}:bU (.sl o a n c e)=true:=rfl
def J4:bU .sn=true:=rfl
def J5 {l a n e}:bU (.ds l a n e)=true:=rfl
def MM {o}:bU (.m o)=true:=rfl
def MN {o a}:bU (.p o a)=true:=rfl
def MO {b}:bU (.b b)=true:=rfl
def MP {b}:bU (.s b)=true:=rfl
def MQ {g a b}:bU (.f g a b)=true:=rfl
def cG:Option aU ->Option (List AV)
 |some (.cells _ l)=>some l
 |_=>none
def mq {n v t o}:AH.cells ⟨n,v,t⟩ o=cG (t.get o):=by
 show(match t.get o with|some (.cells _ l)=>some l|_=>none)=_;cases t.get o with
 |none=>rfl
 |some x=>cases x<;>rfl
def dB {v l}:cG (some (.cells v l))=some l:=rfl
def We {n v t o}:AH.get ⟨n,v,t⟩ o=t.get o:=rfl
def z8 {z n esz ps}:step ev h (.bslice z n esz ps)=(match gk ev ps z with
 |some l=> .v (.sl h.next 0 n (some n) esz) ⟨h.next+1,h.ver,h.objs.put h.next (.cells h.ver l)⟩
 |none=> .bad):=by
 show(match gk ev ps z with|some l=>h.new (.cells h.ver l) fun o h=>bj.v (.sl o 0 n (some n) esz) h|none=>bj.bad)=_;simp only[AH.new_eq]
def MR {t x}:step ev h (.mif t x)= .v (.ifc t (ev x)) h:=by show fV (ev x) (fun x=>bj.v (.ifc t x) h)=_;rw[iW]
def Im:step ev h (.mmap none)= .v (.m h.next) ⟨h.next+1,h.ver,h.objs.put h.next (.map h.ver [] 0)⟩:=by
 show(h.new (.map h.ver [] 0) fun o h=>bj.v (.m o) h)=_;rw[AH.new_eq]
def Aa {z esz b l c}:step ev h (.mslice z esz b l c)=(match nA ev l,nA ev c with
 |some l,some c=>(if l<=c/\ c<=1048576 then .v (.sl h.next 0 l (some c) esz) ⟨h.next+1,h.ver,h.objs.put h.next (.cells h.ver (List.replicate c z).flatten)⟩ else .bad)
 |_,_=> .bad):=by
 show(match nA ev l,nA ev c with
  |some l,some c=>bif Nat.ble l c&&Nat.ble c 1048576 then (match y8 z c with
   |some r=>h.new (.cells h.ver r) fun o h=>bj.v (.sl o 0 l (some c) esz) h
   |none=>bj.bad) else bj.bad
  |_,_=>bj.bad)=_
 cases nA ev l with
 |none=>cases nA ev c<;>rfl
 |some l=>
  cases nA ev c with
  |none=>rfl
  |some c=>simp only[AH.new_eq,sX,dD,av,aQ,decide_eq_true_eq]
def MS {x off n agg}:step ev h (.fld x off n agg)=(match ev x with| .ag l=>(match sub l off n with|some c=>ig h (iQ agg c)|none=> .bad)|_=> .bad):=rfl
def Io {es x i}:step ev h (.iadr es x i)=(match nA ev i with
 |some k=>match ev x with
  | .sl o off n _ esz=>(if esz=es/\ k<n then .v (.p o (off+k*esz)) h else .bad)
  | .ds l off n esz=>(if esz=es/\ k<n then .v (.dp l (off+k*esz)) h else .bad)
  |_=> .bad
 |none=> .bad):=by
 show(match nA ev i with
  |some k=>match ev x with
   | .sl o off n _ esz=>bif Nat.beq esz es&&Nat.ble (Nat.succ k) n then fN (off+k*esz) fun a=>bj.v (.p o a) h else bj.bad
   | .ds l off n esz=>bif Nat.beq esz es&&Nat.ble (Nat.succ k) n then fN (off+k*esz) fun a=>bj.v (.dp l a) h else bj.bad
   |_=>bj.bad
  |none=>bj.bad)=_
 simp only[bR,dD,av,aQ,az,decide_eq_true_eq,Bg]
def Dz {n esz x i}:step ev h (.iadra n esz x i)=(match nA ev i with
 |some k=>(if k<n then (match ev x with
  | .p o off=> .v (.p o (off+k*esz)) h
  | .dp l off=> .v (.dp l (off+k*esz)) h
  |_=> .bad) else .bad)
 |none=> .bad):=by
 show(match nA ev i with
  |some k=>bif Nat.ble (Nat.succ k) n then (match ev x with
   | .p o off=>fN (off+k*esz) fun a=>bj.v (.p o a) h
   | .dp l off=>fN (off+k*esz) fun a=>bj.v (.dp l a) h
   |_=>bj.bad) else bj.bad
  |none=>bj.bad)=_
 simp only[bR,dD,aQ,decide_eq_true_eq,Bg]
def Ip {n esz agg x i}:step ev h (.idxa n esz agg x i)=(match nA ev i,ev x with
 |some k,.ag l=>(if k<n then (match sub l (k*esz) esz with|some c=>ig h (iQ agg c)|none=> .bad) else .bad)
 |_,_=> .bad):=by
 show(match nA ev i,ev x with
  |some k,.ag l=>bif Nat.ble (Nat.succ k) n then (match sub l (k*esz) esz with|some c=>ig h (iQ agg c)|none=>bj.bad) else bj.bad
  |_,_=>bj.bad)=_
 simp only[dD,aQ,decide_eq_true_eq,Bg]
def DA {f a}:step ev h (.callv f a)=(match kK ev a with
 |some l=>match ev f with
  | .f g fi ca=> .call g (fi++(l++ca)) h
  | .y o=> .yld o l h
  |_=> .bad
 |none=> .bad):=by
 show(match kK ev a with
  |some l=>match ev f with
   | .f g fi ca=>match gK l ca with
    |some l=>match gK fi l with|some l=>bj.call g l h|none=>bj.bad
    |none=>bj.bad
   | .y o=>bj.yld o l h
   |_=>bj.bad
  |none=>bj.bad)=_
 simp only[dX]
def xP {x}:step ev h (.len .str x)=(match ev x with| .s l=> .v (ι (l.length:Int)) h|_=> .bad):=by
 show(match ev x with| .s l=>fN (len l) fun n=>bj.v (ι (.ofNat n)) h|_=>bj.bad)=_;simp only[bR,gP,iO]
def xQ {n x}:step ev h (.len (.arr n) x)= .v (ι (n:Int)) h:=rfl
def lT {x}:step ev h (.len .slice x)=(match ev x with
 | .sl _ _ n _ _=> .v (ι (n:Int)) h
 | .ds _ _ n _=> .v (ι (n:Int)) h
 | .sn=> .v (ι 0) h
 |_=> .bad):=by
 show(match ev x with
  | .s _=>bj.bad
  |y=>match eI y with|some n=>bj.v (ι (.ofNat n)) h|none=>bj.bad)=_
 cases ev x<;>rfl
def MT {k x}:step ev h (.cvi k x)=(match ev x with| .i _ n=>ig h (ri k (bT k n))|_=> .bad):=rfl
def Ab {es x lo hi l off n esz} (h1:ev x= .ds l off n esz):step ev h (.slc es x lo hi none)=(if esz=es then (match bI n n (nO ev lo) (nO ev hi) none with
 |some (a,b,_)=> .v (.ds l (off+a*esz) (b-a) esz) h
 |none=> .bad) else .bad):=by
 show(match ev x with
  | .sl o off n cap esz=>bif !(Nat.beq esz es) then bj.bad else match cap with
   |some c=>match bI n c (nO ev lo) (nO ev hi) none with
    |some (l,r,m)=>fN (off+l*esz) fun off=>fN (r-l) fun n=>fN (m-l) fun c=>bj.v (.sl o off n (some c) esz) h
    |none=>bj.bad
   |none=>match bI n n (nO ev lo) (nO ev hi) none with
    |some (l,r,_)=>fN (off+l*esz) fun off=>fN (r-l) fun n=>bj.v (.sl o off n none esz) h
    |none=>bj.bad
  | .ds c off n esz=>bif !(Nat.beq esz es) then bj.bad else match bI n n (nO ev lo) (nO ev hi) none with
   |some (l,r,_)=>fN (off+l*esz) fun off=>fN (r-l) fun n=>bj.v (.ds c off n esz) h
   |none=>bj.bad
  | .sn=>match bI 0 0 (nO ev lo) (nO ev hi) none with|some _=>bj.v .sn h|none=>bj.bad
  |_=>bj.bad)=_
 rw[h1];simp only[bR,az];by_cases e:esz=es
 ·simp[e]
 ·simp[e]
def DB {l}:iQ true l=some (.ag l):=rfl
def Iq {v}:iQ false [v]=some v:=rfl
def Ac {l}:cellsO (.ag l)=some l:=rfl
def TG {l:List AV}:sub l 0 0=some []:=by rw[jd];simp
def MU {a:AV} {l:List AV} {n:Nat}:sub (a::l) 0 (n+1)=(sub l 0 n).map (a:: ·):=by
 rw[jd,jd];by_cases h:n<=l.length
 ·simp[h]
 ·simp[h]
def MV {a:AV} {l:List AV} {m n:Nat}:sub (a::l) (m+1) n=sub l m n:=by
 rw[jd,jd];by_cases h:m<=l.length/\ m+n<=l.length
 ·rw[if_pos h,if_pos (by simp only[fM];omega)];rfl
 ·rw[if_neg h,if_neg (by simp only[fM];omega)]
def xR {l:List AV}:sT [] l=some l:=rfl
def qu {x y:AV} {c l:List AV}:sT (x::c) (y::l)=(sT c l).map (x:: ·):=by
 rw[ox,ox];by_cases h:c.length<=l.length
 ·simp[h]
 ·simp[h]
def tH {c l:List AV}:bD c l 0=sT c l:=by cases l<;>rfl
def tI {c l:List AV} {a:AV} {n:Nat}:bD c (a::l) (n+1)=(bD c l n).map (a:: ·):=by
 rw[lP,lP];by_cases h:n+c.length<=l.length
 ·rw[if_pos h,if_pos (by simp only[fM];omega),show n+1+c.length=n+c.length+1 by omega];simp
 ·rw[if_neg h,if_neg (by simp only[fM];omega)];rfl
def kw:cE []=true:=rfl
def gM {a:AV} {l:List AV}:cE (a::l)=(bU a&&cE l):=by
 show(Bool.rec false (cE l) (bU a):Bool)=_;cases bU a<;>rfl
def xS {l}:cellsOf (.ag l)=l:=rfl
end
section
variable {C:cQ Prop} {ck yk:Nat ->List AV ->AH ->(AV ->AH ->Prop) ->Prop}
def kO (C:cQ Prop) (ck yk:Nat ->List AV ->AH ->(AV ->AH ->Prop) ->Prop) (k:T AV ->AH ->Prop) (l:List MG) (d:Option Nat) (τ:T AV):bj ->Prop
 | .v x h=>bg C ck yk k l (bM τ d x) h
 | .call f a h=>ck f a h fun x h=>bg C ck yk k l (bM τ d x) h
 | .yld o a h=>yk o a h fun x h=>bg C ck yk k l (bM τ d x) h
 | .alts q=>iU C (fun x h=>bg C ck yk k l (bM τ d x) h) q
 | .bad=>C.fail
def kG (C:cQ Prop) (ck yk:Nat ->List AV ->AH ->(AV ->AH ->Prop) ->Prop) (k:T AV ->AH ->Prop) (l:List MG) (d:Option Nat) (op:xc) (w:Bool) (τ:T AV) (h:AH):Option AV ->Prop
 |some (.b x)=>if x=w then kO C ck yk k l d τ (step (bp C τ) h op) else bg C ck yk k l (bM τ d (.tu [])) h
 |some (.tu [])=>bg C ck yk k l (bM τ d (.tu [])) h
 |_=>C.fail
def ar1 {k:T AV ->AH ->Prop} {l d τ x h}:kO C ck yk k l d τ (.v x h)=bg C ck yk k l (bM τ d x) h:=rfl
def RE {k:T AV ->AH ->Prop} {l d τ f a h}:kO C ck yk k l d τ (.call f a h)=ck f a h fun x h=>bg C ck yk k l (bM τ d x) h:=rfl
def ar2 {k:T AV ->AH ->Prop} {l d op w τ h x}:kG C ck yk k l d op w τ h (some (.b x))=if x=w then kO C ck yk k l d τ (step (bp C τ) h op) else bg C ck yk k l (bM τ d (.tu [])) h:=rfl
def YQ {k:T AV ->AH ->Prop} {l d op w τ h}:kG C ck yk k l d op w τ h (some (.tu []))=bg C ck yk k l (bM τ d (.tu [])) h:=rfl
def op0 {k:T AV ->AH ->Prop} {d op l τ h}:bg C ck yk k (⟨d,op,none⟩::l) τ h=kO C ck yk k l d τ (step (bp C τ) h op):=by
 rw[aq8];cases step (bp C τ) h op<;>rfl
def op1 {k:T AV ->AH ->Prop} {d op l τ h t w}:bg C ck yk k (⟨d,op,some (t,w)⟩::l) τ h=kG C ck yk k l d op w τ h (τ.get t):=by
 rw[aq9];cases τ.get t with
 |none=>rfl
 |some y=>
  cases y with
  |b x=>unfold kG;dsimp only;split<;>first|rfl|(cases step (bp C τ) h op<;>rfl)
  |tu l=>cases l<;>rfl
  |_=>rfl
def kC (C:cQ Prop) (k:K Prop) (a b:ap) (τ:T AV) (h:AH):AV ->Prop
 | .b t=>if t=true then qt C a k τ h else qt C b k τ h
 |_=>False
def ar3 {k:K Prop} {a b τ h t}:kC C k a b τ h (.b t)=if t=true then qt C a k τ h else qt C b k τ h:=rfl
def TH (hC:pN C) {k:K Prop} {τ:T AV} {h:AH} {x:MA} {a b:ap}:qt C (.cond x a b) k τ h↔kC C k a b τ h (bp C τ x):=by
 rw[Mr hC];cases bp C τ x with
 |b t=>cases t<;>simp[kC]
 |_=>rfl
def kL (C:cQ Prop) (ck yk:Nat ->List AV ->AH ->(AV ->AH ->Prop) ->Prop) (base:Nat) (k:T AV ->AH ->Prop) (i:Nat) (g:MG) (l:List DI) (ls:List (Nat×MG)) (pd:List (Nat×Nat×aU)) (τ:T AV) (h:AH):Option AV ->Prop
 |some x=>aC C ck yk base k l ((i,g)::ls) pd (bM τ g.dst x) h
 |none=>C.fail
def ar4 {base} {k:T AV ->AH ->Prop} {i g l ls pd τ h x}:kL C ck yk base k i g l ls pd τ h (some x)=aC C ck yk base k l ((i,g)::ls) pd (bM τ g.dst x) h:=rfl
def Ir {base} {k:T AV ->AH ->Prop} {i g l ls pd τ h}:aC C ck yk base k (.light i g::l) ls pd τ h=kL C ck yk base k i g l ls pd τ h (bB C τ h g):=by
 rw[Mz];cases bB C τ h g<;>rfl
def kV:bj ->Option AV
 | .v x _=>some x
 |_=>none
def ar5 {x h}:kV (.v x h)=some x:=rfl
def kW (C:cQ Prop) (τ:T AV) (h:AH) (op:xc) (w:Bool):Option AV ->Option AV
 |some (.b x)=>if x=w then kV (step (bp C τ) h op) else some (.tu [])
 |some (.tu [])=>some (.tu [])
 |_=>none
def YR {τ h op w x}:kW C τ h op w (some (.b x))=if x=w then kV (step (bp C τ) h op) else some (.tu []):=rfl
def TJ {τ h op w}:kW C τ h op w (some (.tu []))=some (.tu []):=rfl
def lV0 {d op τ h}:bB C τ h ⟨d,op,none⟩=kV (step (bp C τ) h op):=by rw[Rz];cases step (bp C τ) h op<;>rfl
def lV1 {d op t w τ h}:bB C τ h ⟨d,op,some (t,w)⟩=kW C τ h op w (τ.get t):=by
 rw[RA];cases τ.get t with
 |none=>rfl
 |some y=>
  cases y with
  |b x=>unfold kW;dsimp only;split<;>first|rfl|(cases step (bp C τ) h op<;>rfl)
  |tu l=>cases l<;>rfl
  |_=>rfl
def ZP (C:cQ Prop) (ck yk:Nat ->List AV ->AH ->(AV ->AH ->Prop) ->Prop) (base:Nat) (k:T AV ->AH ->Prop) (i id:Nat) (x:AV) (d:Option Nat) (l:List DI) (ls:List (Nat×MG)) (pd:List (Nat×Nat×aU)) (τ:T AV) (h:AH):Option aU ->Prop
 |some ob=>aC C ck yk base k l ls ((i,id,ob)::pd) (bM τ d x) h
 |none=>C.fail
def kR (C:cQ Prop) (ck yk:Nat ->List AV ->AH ->(AV ->AH ->Prop) ->Prop) (base:Nat) (k:T AV ->AH ->Prop) (i id:Nat) (d:Option Nat) (l:List DI) (ls:List (Nat×MG)) (pd:List (Nat×Nat×aU)) (τ:T AV) (h:AH):bj ->Prop
 | .v x h'=>ZP C ck yk base k i id x d l ls pd τ h (h'.objs.get id)
 |_=>C.fail
def YS {base} {k:T AV ->AH ->Prop} {i id x d l ls pd τ h ob}:ZP C ck yk base k i id x d l ls pd τ h (some ob)=aC C ck yk base k l ls ((i,id,ob)::pd) (bM τ d x) h:=rfl
def YT {base} {k:T AV ->AH ->Prop} {i id d l ls pd τ h x h'}:kR C ck yk base k i id d l ls pd τ h (.v x h')=ZP C ck yk base k i id x d l ls pd τ h (h'.objs.get id):=rfl
def MW {base} {k:T AV ->AH ->Prop} {i n g l ls pd τ h}:aC C ck yk base k (.resv i n g::l) ls pd τ h=kR C ck yk base k i (base+n) g.dst l ls pd τ h (step (bp C τ) ⟨base+n,h.ver,.e⟩ g.op):=by
 rw[Ry];cases step (bp C τ) ⟨base+n,h.ver,.e⟩ g.op with
 |v x h'=>dsimp only;rw[YT];cases h'.objs.get (base+n)<;>rfl
 |_=>rfl
def kY (C:cQ Prop) (ck yk:Nat ->List AV ->AH ->(AV ->AH ->Prop) ->Prop) (base:Nat) (k:T AV ->AH ->Prop) (l:List DI) (ls:List (Nat×MG)) (pd:List (Nat×Nat×aU)) (τ:T AV) (h:AH):Option (Nat×aU) ->Prop
 |some (id,ob)=>aC C ck yk base k l ls pd τ ⟨h.next,h.ver+1,h.objs.put id ob⟩
 |none=>C.fail
def ar6 {base} {k:T AV ->AH ->Prop} {l ls pd τ h id ob}:kY C ck yk base k l ls pd τ h (some (id,ob))=aC C ck yk base k l ls pd τ ⟨h.next,h.ver+1,h.objs.put id ob⟩:=rfl
def TK {base} {k:T AV ->AH ->Prop} {i l ls pd τ h}:aC C ck yk base k (.lay i::l) ls pd τ h=kY C ck yk base k l ls pd τ h (gB i pd):=by
 rw[Wc];cases gB i pd<;>rfl
def kA (C:cQ Prop) (ck yk:Nat ->List AV ->AH ->(AV ->AH ->Prop) ->Prop) (base:Nat) (k:T AV ->AH ->Prop) (mask:Nat) (l:List DI) (ls:List (Nat×MG)) (pd:List (Nat×Nat×aU)) (τ:T AV) (h:AH):List (Nat×MG) ->Prop:=
 fun ch=>cj C τ h mask ch (aC C ck yk base k l ls pd τ h)
def ZS (C:cQ Prop) (ck yk:Nat ->List AV ->AH ->(AV ->AH ->Prop) ->Prop) (base:Nat) (k:T AV ->AH ->Prop) (mask:Nat) (l:List DI) (ls:List (Nat×MG)) (pd:List (Nat×Nat×aU)) (τ:T AV) (h:AH) (ch:List (Nat×MG)) (d:Option Nat):Option AV ->Prop
 |some x=>(match d with
  |none=>kA C ck yk base k mask l ls pd τ h ch
  |some d=>match τ.get d with
   |some y=>if cU 64 x y=true then kA C ck yk base k mask l ls pd τ h ch else C.fail
   |none=>C.fail)
 |none=>C.fail
def Wg {base} {k:T AV ->AH ->Prop} {mask l ls pd τ h}:kA C ck yk base k mask l ls pd τ h []=aC C ck yk base k l ls pd τ h:=rfl
def Is {base} {k:T AV ->AH ->Prop} {mask l ls pd τ h i g ch}:kA C ck yk base k mask l ls pd τ h ((i,g)::ch)=if Nat.testBit mask i=true then kA C ck yk base k mask l ls pd τ h ch else ZS C ck yk base k mask l ls pd τ h ch g.dst (bB C τ h g):=by
 unfold kA;rw[RB];split
 ·rfl
 ·cases bB C τ h g<;>rfl
def YU {base} {k:T AV ->AH ->Prop} {mask l ls pd τ h ch d x} (e:(τ.get d)=some x) (hn:aJ 64 x=true):ZS C ck yk base k mask l ls pd τ h ch (some d) (some x)=kA C ck yk base k mask l ls pd τ h ch:=by
 unfold ZS;dsimp only;rw[e];dsimp only;rw[if_pos (z7 64 x hn)]
def kH (C:cQ Prop) (ck yk:Nat ->List AV ->AH ->(AV ->AH ->Prop) ->Prop) (base:Nat) (k:T AV ->AH ->Prop) (mask:Nat) (d:Option Nat) (l:List DI) (ls:List (Nat×MG)) (pd:List (Nat×Nat×aU)) (τ:T AV):bj ->Prop
 | .v x h=>kA C ck yk base k mask l ls pd (bM τ d x) h ls
 | .call f a h=>ck f a h fun x h=>kA C ck yk base k mask l ls pd (bM τ d x) h ls
 | .yld o a h=>yk o a h fun x h=>kA C ck yk base k mask l ls pd (bM τ d x) h ls
 | .alts q=>iU C (fun x h=>kA C ck yk base k mask l ls pd (bM τ d x) h ls) q
 | .bad=>C.fail
def ar7 {base} {k:T AV ->AH ->Prop} {mask d l ls pd τ x h}:kH C ck yk base k mask d l ls pd τ (.v x h)=kA C ck yk base k mask l ls pd (bM τ d x) h ls:=rfl
def RG {base} {k:T AV ->AH ->Prop} {mask d l ls pd τ f a h}:kH C ck yk base k mask d l ls pd τ (.call f a h)=ck f a h fun x h=>kA C ck yk base k mask l ls pd (bM τ d x) h ls:=rfl
def DC {base} {k:T AV ->AH ->Prop} {i d op mask l ls pd τ h}:aC C ck yk base k (.heavy i ⟨d,op,none⟩ mask::l) ls pd τ h=kH C ck yk base k mask d l ls pd τ (step (bp C τ) h op):=by
 rw[JR];cases step (bp C τ) h op<;>rfl
def YV (C:cQ Prop) (ck yk:Nat ->List AV ->AH ->(AV ->AH ->Prop) ->Prop) (base:Nat) (k:T AV ->AH ->Prop) (mask:Nat) (d:Option Nat) (op:xc) (w:Bool) (l:List DI) (ls:List (Nat×MG)) (pd:List (Nat×Nat×aU)) (τ:T AV) (h:AH):Option AV ->Prop
 |some (.b x)=>if x=w then kH C ck yk base k mask d l ls pd τ (step (bp C τ) h op) else kA C ck yk base k mask l ls pd (bM τ d (.tu [])) h ls
 |some (.tu [])=>kA C ck yk base k mask l ls pd (bM τ d (.tu [])) h ls
 |_=>C.fail
def YW {base} {k:T AV ->AH ->Prop} {mask d op w l ls pd τ h x}:YV C ck yk base k mask d op w l ls pd τ h (some (.b x))=if x=w then kH C ck yk base k mask d l ls pd τ (step (bp C τ) h op) else kA C ck yk base k mask l ls pd (bM τ d (.tu [])) h ls:=rfl
def Wh {base} {k:T AV ->AH ->Prop} {mask d op w l ls pd τ h}:YV C ck yk base k mask d op w l ls pd τ h (some (.tu []))=kA C ck yk base k mask l ls pd (bM τ d (.tu [])) h ls:=rfl
def DD {base} {k:T AV ->AH ->Prop} {i d op t w mask l ls pd τ h}:aC C ck yk base k (.heavy i ⟨d,op,some (t,w)⟩ mask::l) ls pd τ h=YV C ck yk base k mask d op w l ls pd τ h (τ.get t):=by
 rw[JS];cases τ.get t with
 |none=>rfl
 |some y=>
  cases y with
  |b x=>unfold YV;dsimp only;split<;>first|rfl|(cases step (bp C τ) h op<;>rfl)
  |tu l=>cases l<;>rfl
  |_=>rfl
def Wi {n:Nat} {o a}:aJ n (.p o a)=true:=by cases n<;>simp[aJ]
def gN {n:Nat} {k x}:aJ n (.i k x)=true:=by cases n<;>simp[aJ]
def F0 {n:Nat} {x}:aJ n (.b x)=true:=by cases n<;>simp[aJ]
def BM {n:Nat} {x}:aJ n (.s x)=true:=by cases n<;>simp[aJ]
def RH {n:Nat} {o a m c e}:aJ n (.sl o a m c e)=true:=by cases n<;>simp[aJ]
def Wj {n:Nat} {o}:aJ n (.m o)=true:=by cases n<;>simp[aJ]
def wx {n:Nat}:aJ n .sn=true:=by cases n<;>simp[aJ]
def RI {n:Nat}:aJ n .pn=true:=by cases n<;>simp[aJ]
def J6 {n:Nat}:aJ n .fnil=true:=by cases n<;>simp[aJ]
def MX {n:Nat}:aJ n .ifn=true:=by cases n<;>simp[aJ]
def fH {n:Nat} {l}:aJ (n+1) (.ag l)=aJ.niceL n l:=by simp[aJ]
def RJ {n:Nat} {l}:aJ (n+1) (.tu l)=aJ.niceL n l:=by simp[aJ]
def ja {n:Nat} {l a m e}:aJ (n+1) (.ds l a m e)=aJ.niceL n l:=by simp[aJ]
def di {n:Nat} {l a}:aJ (n+1) (.dp l a)=aJ.niceL n l:=by simp[aJ]
def cA {n:Nat}:aJ.niceL n []=true:=by simp[aJ.niceL]
def bP {n:Nat} {a l}:aJ.niceL n (a::l)=(aJ n a&&aJ.niceL n l):=by simp[aJ.niceL]
def Wk {n:Nat} {g a b}:aJ (n+1) (.f g a b)=(aJ.niceL n a&&aJ.niceL n b):=by simp[aJ]
def kQ (k:AV ->AH ->Prop) (h:AH):Option AV ->Prop
 |some v=>k v h
 |none=>False
def ar8 {k h v}:kQ k h (some v)=k v h:=rfl
def eY (hC:pN C) {f:Nat} {args:List AV} {h:AH} {k:AV ->AH ->Prop} {fn:aR} (hf:C.fns.get f=some fn):bZ C f args h k↔qt C fn.body (fun e τ h=>match e with
 | .exit _=>False
 |_=>kQ k h (aP τ h fn.res)) (pe args 0 .e) h:=by
 rw[JO hC hf];constructor
 ·refine tE hC fun e τ h he=> ?_
  cases e with
  |exit _=>exact he
  |_=>dsimp only at he ⊢;cases hq:aP τ h fn.res<;>(rw[hq] at he;exact he)
 ·refine tE hC fun e τ h he=> ?_
  cases e with
  |exit _=>exact he
  |_=>dsimp only at he ⊢;cases hq:aP τ h fn.res<;>(rw[hq] at he;exact he)
end
section
variable {C:cQ Prop}
def dJ (hC:pN C):=And.intro (@Dq C hC)<|And.intro (@Dr C hC)<|And.intro (@Ib C hC)<|And.intro (@Ic C hC)<|And.intro (@TH C hC)<|And.intro (@zW C hC)<|
 And.intro (@Id C hC) (@Dt C hC)
def dK:=And.intro (@op0 C)<|And.intro (@op1 C)<|And.intro (@FT C)<|And.intro (@mR C)<|And.intro (@tF C)<|
 And.intro (@Wb C)<|And.intro (@Ir C)<|And.intro (@MW C)<|And.intro (@TK C)<|And.intro (@DC C)<|And.intro (@DD C)<|And.intro (@lV0 C)<|And.intro (@lV1 C)<|
 And.intro (@Wg C) (@Is C)
def dL:=And.intro (@ar1 C)<|And.intro (@RE C)<|And.intro (@ar2 C)<|And.intro (@YQ C)<|And.intro (@ar3 C)<|And.intro (@ar4 C)<|And.intro (@YR C)<|And.intro (@TJ C)<|
 And.intro (@YT C)<|And.intro (@YS C)<|And.intro (@ar6 C)<|And.intro (@ar7 C)<|And.intro (@RG C)<|And.intro (@YW C)<|And.intro (@Wh C) (@YU C)
end
def dM:=And.intro (@JP)<|And.intro (@JQ)<|And.intro (@T.get_put AV)<|And.intro (@T.get_put aU)<|And.intro (@jA) (@dF)
def ar9:=And.intro lu<|And.intro Bool.true_eq_false<|And.intro @fW<|And.intro Ff<|And.intro @ar5<|And.intro @ar8<|And.intro @decide_eq_true_eq<|And.intro @decide_eq_false_iff_not<|And.intro @iS<|And.intro @Bool.not_eq_false'<|And.intro gU vF
def bw:=And.intro @TE<|And.intro @Ie<|And.intro @Du<|And.intro @Mt<|And.intro @Dv<|And.intro @If<|And.intro @Dw<|And.intro @Mu<|And.intro @Mv<|
 And.intro @TF<|And.intro @FU<|And.intro @Ig<|And.intro @Ih<|And.intro @Mw<|And.intro @z8<|And.intro @MR<|And.intro @Im<|And.intro @Aa<|And.intro @MS<|
 And.intro @Io<|And.intro @Dz<|And.intro @Ip<|And.intro @DA<|And.intro @xP<|And.intro @xQ<|And.intro @lT<|And.intro @MT<|
 And.intro @Dx<|And.intro @oE<|And.intro @mj<|And.intro @Ii<|And.intro @Ij<|And.intro @Ik<|And.intro @Il<|And.intro @Mx<|And.intro @pa<|
 And.intro @MB<|And.intro @oG<|And.intro @oH<|And.intro @gA<|And.intro @DB<|And.intro @Iq<|And.intro @Ac<|And.intro @xS<|And.intro @TG<|And.intro @MU<|And.intro @MV<|And.intro @xR<|And.intro @qu<|And.intro @tH<|And.intro @tI<|
 And.intro @kw<|And.intro @gM<|And.intro @az<| @gP
def as0:=And.intro @Wi<|And.intro @gN<|And.intro @F0<|And.intro @BM<|And.intro @RH<|And.intro @Wj<|And.intro @wx<|And.intro @RI<|And.intro @J6<|And.intro @MX<|And.intro @fH<|And.intro @RJ<|And.intro @ja<|And.intro @di<|And.intro @Wk<|And.intro @cA @bP
def as3:=And.intro @RD<|And.intro @mq<|And.intro @dB<|And.intro @We<|And.intro @JT<|And.intro @FW<|And.intro @MD<|And.intro @JU<|And.intro @JV<|And.intro @JW<|And.intro @ME<|And.intro @MF<|And.intro @MH<|And.intro @MJ<|And.intro @MK<|And.intro @JX<|And.intro @FX<|And.intro @FY<|And.intro @FZ<|And.intro @JY<|And.intro @JZ<|And.intro @J0<|And.intro @J1<|And.intro @J2<|And.intro @ML<|And.intro @J3<|And.intro @J4<|And.intro @J5<|And.intro @MM<|And.intro @MN<|And.intro @MO<|And.intro @MP<|And.intro @MQ<|And.intro @RC<|And.intro (@fM AV) (@jL AV)
attribute [go_sem] eq_self decide_true decide_false Nat.testBit not_true_eq_false not_false_eq_true Option.getD_some Nat.add_zero Nat.zero_add Nat.zero_mul Nat.one_mul Nat.mul_one Option.map_some List.nil_append List.append_nil List.cons_append and_self cond_true cond_false List.getElem?_cons_zero List.getElem?_cons_succ ar9 as3 as0 pe Bq
def aH:Nat ->AH ->AV ->Option AV
 |_,_,.b x=>some (.b x)
 |_,_,.i k n=>some (.i k n)
 |_,_,.s l=>some (.s l)
 |_,_,.pn=>some .pn
 |_,_,.sn=>some .sn
 |_,_,.mn=>some .mn
 |_,_,.fnil=>some .fnil
 |_,_,.ifn=>some .ifn
 |_,_,.un=>some .un
 |n+1,h,.p o off=>match h.objs.get o with
  |some (.cells _ l)=>match fC (aH n h) l with|some l=>some (.dp l off)|none=>none
  |_=>none
 |n+1,h,.sl o off len _ esz=>match h.objs.get o with
  |some (.cells _ l)=>match fC (aH n h) l with|some l=>some (.ds l off len esz)|none=>none
  |_=>none
 |n+1,h,.dp l off=>match fC (aH n h) l with|some l=>some (.dp l off)|none=>none
 |n+1,h,.ds l off len esz=>match fC (aH n h) l with|some l=>some (.ds l off len esz)|none=>none
 |n+1,h,.f fn a b=>match fC (aH n h) a,fC (aH n h) b with|some a,some b=>some (.f fn a b)|_,_=>none
 |n+1,h,.ifc t v=>match aH n h v with|some v=>some (.ifc t v)|none=>none
 |n+1,h,.ag l=>match fC (aH n h) l with|some l=>some (.ag l)|none=>none
 |n+1,h,.tu l=>match fC (aH n h) l with|some l=>some (.tu l)|none=>none
 |_,_,_=>none
abbrev aK (n:Nat) (h:AH) (l:List AV):Option (List AV):=fC (aH n h) l
def ay {n h}:aK n h []=some []:=rfl
def af {n h a l}:aK n h (a::l)=(match aH n h a,aK n h l with|some a,some l=>some (a::l)|_,_=>none):=by
 unfold aK;rw[dF];generalize aH n h a=x;generalize fC (aH n h) l=y;cases x<;>cases y<;>rfl
section
variable {CR:Nat ->Code ->ap ->Prop}
def qv {c c2:CE} {h:AH} {w:World} (ro:∀o ver l,jB c h o (.cells ver l) ->iX CR c w o (.cells ver l)) (h1:∀b row,c.im b=some row ->c2.im b=some row)
 (h2:∀o ver l,jB c h o (.cells ver l) ->∀row t fr,w.heap[(c.ρ o).1]? =some (.cells row t fr) ->c2.im (c.ρ o).1=some row):∀(n:Nat),
 (∀a d v,aH n h a=some d ->VR c a v ->VR c2 d v)/\ (∀l d vs,aK n h l=some d ->ed c l vs ->ed c2 d vs):=by
 intro n;induction n with
 |zero=>
  have one:∀a d v,aH 0 h a=some d ->VR c a v ->VR c2 d v:=by
   intro a d v hd hv;cases a<;>first|(simp only[aH] at hd;cases hd;done)|skip
   all_goals (simp only[aH,Option.some.injEq] at hd;subst hd;cases hv;constructor;try assumption)
  refine⟨one,?_⟩;intro l;induction l with
  |nil=>intro d vs hd hv;rw[ay,Option.some.injEq] at hd;subst hd;cases hv;exact .nil
  |cons a l ih=>
   intro d vs hd hv;cases hv with
   |cons _ _ v vs e1 e2=>
    rw[af] at hd;split at hd
    ·rename_i a' l' q1 q2;cases hd;exact .cons _ _ _ _ (one _ _ _ q1 e1) (ih _ _ q2 e2)
    ·cases hd
 |succ n ih=>
  obtain⟨_,ihL⟩:=ih;have one:∀a d v,aH (n+1) h a=some d ->VR c a v ->VR c2 d v:=by
   intro a d v hd hv;cases a with
   |p o off=>
    simp only[aH] at hd;split at hd
    ·rename_i ver l hg;split at hd
     ·rename_i l' hl;cases hd;cases hv with
      |p _ _ hdom=>
       have hh:jB c h o (.cells ver l):=⟨hg,rfl,hdom⟩;obtain⟨row,t,lo,hi,vs,e1,e2,e3,e4,e5,e6⟩:=ro _ _ _ hh;exact .dp l' off _ _ row vs (h2 o ver l hh row t _ e1) e5 (ihL _ _ _ hl e4)
     ·cases hd
    ·cases hd
   |sl o off len cap esz=>
    simp only[aH] at hd;split at hd
    ·rename_i ver l hg;split at hd
     ·rename_i l' hl;cases hd;cases hv with
      |sl _ _ _ _ _ A m hdom hcap hle ha hz=>
       have hh:jB c h o (.cells ver l):=⟨hg,rfl,hdom⟩;obtain⟨row,t,lo,hi,vs,e1,e2,e3,e4,e5,e6⟩:=ro _ _ _ hh;exact .ds l' off len esz _ _ m A row vs (h2 o ver l hh row t _ e1) e5 (ihL _ _ _ hl e4) hle (fun hne=>ha ω)
     ·cases hd
    ·cases hd
   |dp l off=>
    simp only[aH] at hd;split at hd
    ·rename_i l' hl;cases hd;cases hv with
     |dp _ _ blk base row vs q1 q2 q3=>exact .dp l' off blk base row vs (h1 _ _ q1) q2 (ihL _ _ _ hl q3)
    ·cases hd
   |ds l off len esz=>
    simp only[aH] at hd;split at hd
    ·rename_i l' hl;cases hd;cases hv with
     |ds _ _ _ _ blk base m A row vs q1 q2 q3 q4 q5=>exact .ds l' off len esz blk base m A row vs (h1 _ _ q1) q2 (ihL _ _ _ hl q3) q4 q5
    ·cases hd
   |f fn x y=>
    simp only[aH] at hd;split at hd
    ·rename_i x' y' e1 e2;cases hd;cases hv with
     |f _ _ _ vi va q1 q2=>exact .f fn x' y' vi va (ihL _ _ _ e1 q1) (ihL _ _ _ e2 q2)
    ·cases hd
   |ifc t x=>
    simp only[aH] at hd;split at hd
    ·rename_i x' e1;cases hd;cases hv with
     |ifc _ _ v' q1=>exact .ifc t x' v' (‹∀a d v,aH n h a=some d ->VR c a v ->VR c2 d v› _ _ _ e1 q1)
    ·cases hd
   |ag l=>
    simp only[aH] at hd;split at hd
    ·rename_i l' e1;cases hd;cases hv with
     |ag _ vs q1=>exact .ag l' vs (ihL _ _ _ e1 q1)
    ·cases hd
   |tu l=>
    simp only[aH] at hd;split at hd
    ·rename_i l' e1;cases hd;cases hv with
     |tu _ vs q1=>exact .tu l' vs (ihL _ _ _ e1 q1)
    ·cases hd
   |m o=>simp only[aH] at hd;cases hd
   |y o=>simp only[aH] at hd;cases hd
   |_=>simp only[aH,Option.some.injEq] at hd;subst hd;cases hv;constructor;try assumption
  refine⟨one,?_⟩;intro l;induction l with
  |nil=>intro d vs hd hv;rw[ay,Option.some.injEq] at hd;subst hd;cases hv;exact .nil
  |cons a l ih=>
   intro d vs hd hv;cases hv with
   |cons _ _ v vs e1 e2=>
    rw[af] at hd;split at hd
    ·rename_i a' l' q1 q2;cases hd;exact .cons _ _ _ _ (one _ _ _ q1 e1) (ih _ _ q2 e2)
    ·cases hd
end
def eC (w:World) (b:Nat):Option (Array Value):=match w.heap[b]? with|some (.cells row _ _)=>some row|_=>none
def oI {w:World} {b:Nat} {row:Array Value} (h:eC w b=some row):∃t fr,w.heap[b]? =some (.cells row t fr):=by
 unfold eC at h;split at h
 ·rename_i row' t fr e;cases h;exact⟨t,fr,e⟩
 ·cases h
def iw {w:World} {b:Nat} {row:Array Value} {t:TypeId} {fr:Nat×Nat} (h:w.heap[b]? =some (.cells row t fr)):eC w b=some row:=by
 unfold eC;rw[h]
def h0:AH:=⟨0,0,.e⟩
def F1 (o:Nat):h0.objs.get o=none:=rfl
def nj {c:CE} {o:Nat} {ob:aU} (h:jB c h0 o ob):False:=by have:=h.get;rw[F1] at this;cases this
def oJ:Nat ->AV ->Bool
 |_,.b _|_,.i _ _|_,.s _|_,.pn|_,.sn|_,.mn|_,.fnil|_,.ifn=>true
 |n+1,.ag l=>flatL n l
 |n+1,.tu l=>flatL n l
 |_,_=>false
 where flatL (n:Nat):List AV ->Bool
 |[]=>true
 |a::l=>oJ n a&&flatL n l
def It {c c2:CE}:∀n,(∀a v,oJ n a=true ->VR c a v ->VR c2 a v)/\ (∀l vs,oJ.flatL n l=true ->ed c l vs ->ed c2 l vs):=by
 intro n;induction n with
 |zero=>
  have one:∀a v,oJ 0 a=true ->VR c a v ->VR c2 a v:=by
   intro a v hf hv;cases a<;>first|(simp only[oJ] at hf;cases hf;done)|skip
   all_goals (cases hv;constructor;try assumption)
  refine⟨one,?_⟩;intro l;induction l with
  |nil=>intro vs _ hv;cases hv;exact .nil
  |cons a l ih=>intro vs hf hv;simp only[oJ.flatL,av] at hf;cases hv with|cons _ _ v vs e1 e2=>exact .cons _ _ _ _ (one _ _ hf.1 e1) (ih _ hf.2 e2)
 |succ n ih=>
  obtain⟨_,ihL⟩:=ih;have one:∀a v,oJ (n+1) a=true ->VR c a v ->VR c2 a v:=by
   intro a v hf hv;cases a with
   |ag l=>simp only[oJ] at hf;cases hv with|ag _ vs q=>exact .ag l vs (ihL _ _ hf q)
   |tu l=>simp only[oJ] at hf;cases hv with|tu _ vs q=>exact .tu l vs (ihL _ _ hf q)
   |_=>first|(simp only[oJ] at hf;cases hf;done)|(cases hv;constructor;try assumption)
  refine⟨one,?_⟩;intro l;induction l with
  |nil=>intro vs _ hv;cases hv;exact .nil
  |cons a l ih=>intro vs hf hv;simp only[oJ.flatL,av] at hf;cases hv with|cons _ _ v vs e1 e2=>exact .cons _ _ _ _ (one _ _ hf.1 e1) (ih _ hf.2 e2)
section
variable (P:Program) (X:dy) (GL:T (List AV))
def dq (f:Nat) (args:List AV) (h:AH) (v:AV) (h':AH):Prop:=
 ∀c w vs,RS (iY X) c h w ->(∀g l,GL.get g=some l ->c.gl g=some l) ->ed c args vs ->
  lD P ((callFunc f vs.toArray).run P w) fun v' w'=>∃c',gC (iY X) c h w c' h' w'/\ VR c' v v'
def BN (fns:T aR):cQ Prop where
 fns:=fns
 glob:=GL
 spec:=fun f args h k fb=>(∃v h',k v h'/\ dq P X GL f args h v h')∨fb
 fail:=False
 both:=And
end
section
variable {P:Program} {X:dy} {GL:T (List AV)} {fns:T aR}
def wy:pN (BN P X GL fns) where
 fail:=rfl
 both:=fun _ _=>rfl
 spec:=fun f args h F hF=>by
  have e1:SC (α:=AV×AH) (fun k=>∃v h',k (v,h')/\ dq P X GL f args h v h'):=by
   refine SC.ex (F:=fun v k=>∃h',k (v,h')/\ dq P X GL f args h v h') fun v=>SC.ex (F:=fun h' k=>k (v,h')/\ dq P X GL f args h v h') fun h'=>SC.and (SC.at_ _) (SC.const _)
  exact SC.or e1 hF
 fb:=fun f args h k p q hpq hs=>hs.imp id hpq
 fbc:=fun f args h k p hs=>by
  rcases hs with hs|⟨n,hs⟩
  ·exact⟨0,.inl hs⟩
  ·exact⟨n,.inr hs⟩
structure aw (P:Program) (X:dy) (GL:T (List AV)) (fns:T aR):Prop where
 mixed:P.follows .mixedOrders=true
 ctx:jt P X
 fns:∀f m,fns.get f=some m ->V8 P X f m
 bn:∀f∈X.bn,Bz P f
 gl:∀g l,GL.get g=some l ->oJ.flatL 0 l=true
def aw.sound (h:aw P X GL fns):pJ P X (BN P X GL fns) where
 mixed:=h.mixed
 cfg:=wy.toCfgOK
 ctx:=h.ctx
 fns:=h.fns
 bn:=h.bn
 spec:=fun f args hh k fb hs=>hs
def J7 {f:Nat} {args:List AV} {h h':AH} {v:AV} {k:AV ->AH ->Prop} (hc:dq P X GL f args h v h') (hk:k v h'):fX (BN P X GL fns) f args h k:=
 (zY wy).2 (.inl ⟨v,h',hk,hc⟩)
def J8 {f:Nat} {args:List AV} {h:AH} {k:AV ->AH ->Prop} (hc:bZ (BN P X GL fns) f args h k):fX (BN P X GL fns) f args h k:=
 (zY wy).2 (.inr hc)
structure gW (P:Program) (X:dy) (GL:T (List AV)) (fns:T aR) (C:cQ Prop):Prop where
 ok:pN C
 fns:C.fns=fns
 con:∀{f:Nat} {args:List AV} {h h':AH} {v:AV} {k:AV ->AH ->Prop},dq P X GL f args h v h' ->k v h' ->fX C f args h k
 run:∀{f:Nat} {args:List AV} {h:AH} {k:AV ->AH ->Prop},bZ C f args h k ->fX C f args h k
def MY:gW P X GL fns (BN P X GL fns):=⟨wy,rfl,J7,J8⟩
def gW.get {C:cQ Prop} (E:gW P X GL fns C) {f:Nat} {m:aR} (h:fns.get f=some m):C.fns.get f=some m:=by rw[E.fns];exact h
def aZ (P:Program) (X:dy) (GL:T (List AV)) (fns:T aR) (f:Nat) (args:List AV) (d:AV):Prop:=
 bZ (BN P X GL fns) f args h0 fun x h=>∃n,aH n h x=some d
def aZ.intro {f:Nat} {args:List AV} {d:AV} (h:∀C,gW P X GL fns C ->bZ C f args h0 fun x h=>∃n,aH n h x=some d):aZ P X GL fns f args d:=h _ MY
def CE.only (c:CE) (im:Nat ->Option (Array Value)) (GL:T (List AV)):CE:={ dom:=fun _=>False,ρ:=c.ρ,sz:=c.sz,im:=im,gl:=GL.get }
def RS.only {c:CE} {h:AH} {w:World} (r:RS (iY X) c h w) (gl:∀g l,GL.get g=some l ->c.gl g=some l) (hg:∀g l,GL.get g=some l ->oJ.flatL 0 l=true)
 {im:Nat ->Option (Array Value)} (h1:∀b row,im b=some row ->∃t fr,w.heap[b]? =some (.cells row t fr)) (h2:∀b row,c.im b=some row ->im b=some row):RS (iY X) (c.only im GL) h0 w where
 nx:=fun o h=>h.elim
 lt:=fun o ob h=>by rw[F1] at h;cases h
 obj:=fun o ob h=>(nj h).elim
 inj:=fun o o' a b h=>(nj h).elim
 im:=h1
 dj:=fun o ob h=>(nj h).elim
 gl:=fun g l hgl=>by
  obtain⟨row,vs,e1,e2,e3⟩:=r.gl g l (gl g l hgl);exact⟨row,vs,h2 _ _ e1,e2,(It 0).2 _ _ (hg g l hgl) e3⟩
def uK (S:aw P X GL fns) {f:Nat} {args:List AV} {d:AV} (hp:aZ P X GL fns f args d) {c:CE} {w:World} {vs:List Value} (rs:RS (iY X) c h0 w) (gl:∀g l,GL.get g=some l ->c.gl g=some l) (hv:ed c args vs)
 {K:Value ->World ->Prop} (hK:∀v' w' x h1 c1 n,aH n h1 x=some d ->gC (iY X) c h0 w c1 h1 w' ->VR c1 x v' ->K v' w'):lD P ((callFunc f vs.toArray).run P w) K:=by
 obtain⟨n,hr⟩:=hp;obtain⟨fn,b,e1,e2,e3,e4⟩:=kq S.sound (uH S.sound n).1 hr rs gl hv;rw[hU e1 e2 e3];refine CallsIn.mono e4 fun e w' he=> ?_
 cases e with
 |returned v=>
  obtain⟨x,h1,c1,⟨m,hd⟩,hev,hvr⟩:=he;exact hK _ _ _ _ _ _ hd hev hvr
 |_=>exact he.elim
def xT {c c1:CE} {h1:AH} {w w':World} (hev:gC (iY X) c h0 w c1 h1 w') {b:Nat} (hb:b<w.heap.size):w'.heap[b]? =w.heap[b]? :=
 hev.keep.same b hb fun o ob ho=>(nj ho).elim
def CE.fix (c:CE) (w w':World):CE:={ c with im:=fun b=>match c.im b with|some row=>some row|none=>if w.heap.size<=b then eC w' b else none }
def CE.fix_ext (c:CE) (w w':World):qj c (c.fix w w'):=⟨fun _ h=>h,fun _ _=>rfl,fun _ _=>rfl,fun b row h=>by simp[CE.fix,h],rfl⟩
def BO {c:CE} {h:AH} {w w':World} (r:RS (iY X) c h w) (hsz:w.heap.size<=w'.heap.size) (hold:∀b,b<w.heap.size ->w'.heap[b]? =w.heap[b]?) (hq:w'.os=w.os/\ w'.output=w.output):gC (iY X) c h w (c.fix w w') h w':=by
 have hx:=c.fix_ext w w';refine⟨hx,⟨r.nx,r.lt,fun o ob ho=> ?_,fun o o' a b ho ho'=>r.inj o o' a b ⟨ho.get,ho.live,ho.dom⟩ ⟨ho'.get,ho'.live,ho'.dom⟩,fun b row hb=> ?_,fun o ob ho=> ?_,fun g l hg=> ?_⟩,
  ⟨hsz,fun b hb _=>hold b hb,fun o ob ho=> .inr ⟨o,ob,⟨ho.get,ho.live,ho.dom⟩,rfl⟩,fun o ho=> .inl ho,bK _,fun b row hb=> ?_,fun o _ hd=>hd,hq⟩⟩
 ·have ho':jB c h o ob:=⟨ho.get,ho.live,ho.dom⟩;exact(r.obj o ob ho').mono hx ho'.dom (hold _ ((r.obj o ob ho').lt ho'.live))
 ·have hb':(match c.im b with|some row=>some row|none=>if w.heap.size<=b then eC w' b else none)=some row:=hb;cases hc:c.im b with
  |some row'=>
   rw[hc] at hb';cases hb';obtain⟨t,fr,e⟩:=r.im b _ hc;exact⟨t,fr,by rw[hold b (r.im_lt hc)];exact e⟩
  |none=>
   rw[hc] at hb';dsimp only at hb';split at hb'
   ·exact oI hb'
   ·cases hb'
 ·have ho':jB c h o ob:=⟨ho.get,ho.live,ho.dom⟩;show(match c.im (c.ρ o).1 with|some row=>some row|none=>if w.heap.size<=(c.ρ o).1 then eC w' (c.ρ o).1 else none)=none;rw[r.dj o ob ho'];dsimp only;rw[if_neg (by have:=(r.obj o ob ho').lt ho'.live;omega)]
 ·obtain⟨row,vs,e1,e2,e3⟩:=r.gl g l hg;exact⟨row,vs,hx.im _ _ e1,e2,e3.mono hx⟩
 ·have hb':(match c.im b with|some row=>some row|none=>if w.heap.size<=b then eC w' b else none)=some row:=hb;cases hc:c.im b with
  |some row'=>rw[hc] at hb';cases hb';exact .inl rfl
  |none=>
   rw[hc] at hb';dsimp only at hb';split at hb'
   ·rename_i e;exact .inr (.inl e)
   ·cases hb'
def aE (S:aw P X GL fns) {f:Nat} {args:List AV} {d:AV} (hp:aZ P X GL fns f args d) {n:Nat} (ha:aK n h0 args=some args) (h:AH):dq P X GL f args h d h:=by
 intro c w vs r gl hv;have r0:RS (iY X) (c.only c.im GL) h0 w:=r.only gl S.gl r.im (fun _ _ h=>h);have hargs:ed (c.only c.im GL) args vs:=
  (qv (CR:=iY X) (c:=c) (h:=h0) (w:=w) (c2:=c.only c.im GL) (fun o ver l hh=>(nj hh).elim) (fun _ _ h=>h) (fun o ver l hh=>(nj hh).elim) n).2 _ _ _ ha hv
 refine uK S hp r0 (fun g l h=>h) hargs fun v' w' x h1 c1 m hd hev hvr=>⟨c.fix w w',BO r hev.keep.size (fun b hb=>xT hev hb) hev.keep.io,?_⟩
 refine(qv (CR:=iY X) (c:=c1) (h:=h1) (w:=w') (c2:=c.fix w w') (fun o ver l hh=>hev.rs.obj _ _ hh) (fun b row hb=> ?_) (fun o ver l hh row t fr hrow=> ?_) m).1 _ _ _ hd hvr
 ·show(match c.im b with|some row=>some row|none=>if w.heap.size<=b then eC w' b else none)=some row;rcases hev.keep.im b row hb with e|e|⟨o,ob,ho,_⟩
  ·have e':c.im b=some row:=e;rw[e']
  ·have hn:c.im b=none:=by
    cases hc:c.im b with
    |none=>rfl
    |some row'=>have:=r.im_lt hc;omega
   rw[hn];dsimp only;rw[if_pos e];obtain⟨t,fr,e2⟩:=hev.rs.im b row hb;exact iw e2
  ·exact(nj ho).elim
 ·show(match c.im (c1.ρ o).1 with|some row=>some row|none=>if w.heap.size<=(c1.ρ o).1 then eC w' (c1.ρ o).1 else none)=some row;rcases hev.keep.new o _ hh with e|⟨o',ob',ho',_⟩
  ·have hn:c.im (c1.ρ o).1=none:=by
    cases hc:c.im (c1.ρ o).1 with
    |none=>rfl
    |some row'=>have:=r.im_lt hc;omega
   rw[hn];dsimp only;rw[if_pos e];exact iw hrow
  ·exact(nj ho').elim
def fP (S:aw P X GL fns) {f:Nat} {args dargs:List AV} {d:AV} (hp:aZ P X GL fns f dargs d) {h:AH} {n m:Nat} (ha:aK n h args=some dargs) (hd:oJ m d=true):dq P X GL f args h d h:=by
 intro c w vs r gl hv;have r0:RS (iY X) (c.only (eC w) GL) h0 w:=r.only gl S.gl (fun b row hb=>oI hb) (fun b row hb=>by obtain⟨t,fr,e⟩:=r.im b row hb;exact iw e);have hargs:ed (c.only (eC w) GL) dargs vs:=
  (qv (CR:=iY X) (c:=c) (h:=h) (w:=w) (c2:=c.only (eC w) GL) (fun o ver l hh=>r.obj _ _ hh) (fun b row hb=>by obtain⟨t,fr,e⟩:=r.im b row hb;exact iw e)
   (fun o ver l hh row t fr hrow=>iw hrow) n).2 _ _ _ ha hv
 refine uK S hp r0 (fun g l h=>h) hargs fun v' w' x h1 c1 k hdx hev hvr=>⟨c.fix w w',BO r hev.keep.size (fun b hb=>xT hev hb) hev.keep.io,?_⟩
 have h2:VR (c1.only (eC w') GL) d v':=(qv (CR:=iY X) (c:=c1) (h:=h1) (w:=w') (c2:=c1.only (eC w') GL) (fun o ver l hh=>hev.rs.obj _ _ hh) (fun b row hb=>by obtain⟨t,fr,e⟩:=hev.rs.im b row hb;exact iw e)
  (fun o ver l hh row t fr hrow=>iw hrow) k).1 _ _ _ hdx hvr
 exact(It m).1 _ _ hd h2
end
section
variable {κ ν:Type} [DecidableEq κ] (ek:κ ->AV) (en:ν ->AV)
def cV:Nat ->List (κ×ν) ->List (AV×AV×Nat)
 |_,[]=>[]
 |i,(k,v)::r=>(ek k,en v,i)::cV (i+1) r
def look (k:κ):List (κ×ν) ->Option ν
 |[]=>none
 |(k',v)::r=>if k=k' then some v else look k r
def ups (k:κ) (v:ν):List (κ×ν) ->List (κ×ν)
 |[]=>[(k,v)]
 |(k',v')::r=>if k=k' then (k,v)::r else (k',v')::ups k v r
structure rG (et:ET):Prop where
 eq:∀k k',fS 6 et (ek k) (ek k')=some (decide (k=k'))
 q:∀k,nG et (ek k)=true
 self:∀k,nH (ek k) (ek k)=true
variable {ek en}
def xU {t:ET} {k:AV} {e:AV×AV×Nat} {l:List (AV×AV×Nat)}:iM t k (e::l)=(match fS 6 t k e.1 with
 |some true=>some (some e)
 |some false=>iM t k l
 |none=>none):=rfl
def nR {et:ET} (hk:rG ek et) (k:κ):∀(l:List (κ×ν)) (i:Nat),∃r,iM et (ek k) (cV ek en i l)=some r/\ (match r with|none=>look k l=none|some e=>∃v j,e=(ek k,en v,i+j)/\ look k l=some v/\ j<l.length)
 |[],i=>⟨none,rfl,rfl⟩
 |(k',v)::r,i=>by
  simp only[cV];rw[xU,hk.eq];by_cases e:k=k'
  ·subst e;refine⟨some (ek k,en v,i),by simp,v,0,by simp,by simp[look],by simp⟩
  ·obtain⟨q,h1,h2⟩:=nR hk k r (i+1);refine⟨q,by simp[e,h1],?_⟩;cases q with
   |none=>simpa[look,e] using h2
   |some x=>
    obtain⟨v',j,h3,h4,h5⟩:=h2;exact⟨v',j+1,by rw[h3];simp;omega,by simpa[look,e] using h4,by simp;omega⟩
def vP:∀(l:List (κ×ν)) (m:List (κ×ν)) (i:Nat),cV ek en i (l++m)=cV ek en i l++cV ek en (i+l.length) m
 |[],m,i=>by simp[cV]
 |(k,v)::r,m,i=>by simp[cV,vP r m (i+1)];congr 1;omega
def nS:∀{l:List (κ×ν)} {k:κ} {v:ν},look k l=none ->ups k v l=l++[(k,v)]
 |[],_,_,_=>rfl
 |(k',v')::r,k,v,h=>by
  by_cases e:k=k'
  ·simp[look,e] at h
  ·simp only[look,if_neg e] at h;simp[ups,e,nS h]
def Ad {b:Nat} {x y:AV} {e:AV×AV×Nat} {t:List (AV×AV×Nat)}:qP b x y (e::t)=(bif Nat.beq e.2.2 b then some ((x,y,e.2.2)::t) else match qP b x y t with|some t=>some (e::t)|none=>none):=rfl
def DE {et:ET} (hk:rG ek et) {k:κ} {v:ν}:∀{l:List (κ×ν)} {i j:Nat} {w:ν},iM et (ek k) (cV ek en i l)=some (some (ek k,en w,i+j)) ->look k l=some w ->qP (i+j) (ek k) (en v) (cV ek en i l)=some (cV ek en i (ups k v l))
 |[],_,_,_,h,_=>by simp[cV,iM] at h
 |(k',v')::r,i,j,w,h,hl=>by
  simp only[cV] at h ⊢;rw[xU,hk.eq] at h;by_cases e:k=k'
  ·subst e;simp at h;obtain⟨h1,h2⟩:=h;subst h2;rw[Ad];simp[ups,cV,az]
  ·simp only[e,decide_false] at h;simp only[look,if_neg e] at hl;obtain⟨q,h1,h2⟩:=nR (en:=en) hk k r (i+1);rw[h1] at h;cases h;obtain⟨v'',j',h3,h4,h5⟩:=h2;have hj:j=j'+1:=by
    have:=congrArg (fun x=>x.2.2) h3;simp at this;omega
   subst hj;have hw:w=v'':=by rw[hl] at h4;exact Option.some.inj h4
   subst hw;have ih:=DE hk (v:=v) (l:=r) (i:=i+1) (j:=j') (w:=w) (by rw[h1,h3]) hl;rw[Ad];have hne:Nat.beq i (i+(j'+1))=false:=by rw[az];simp
   simp only[hne,cond_false];rw[show i+(j'+1)=i+1+j' by omega,ih];simp[ups,e,cV]
def Iu:∀{l:List (κ×ν)} {k:κ} {v:ν} {w:ν},look k l=some w ->(ups k v l).length=l.length
 |[],_,_,_,h=>by simp[look] at h
 |(k',v')::r,k,v,w,h=>by
  by_cases e:k=k'
  ·simp[ups,e]
  ·simp only[look,if_neg e] at h;simp[ups,e,Iu h]
def Iw (en:ν ->AV) (z:AV):Option ν ->AV
 |some v=>en v
 |none=>z
def sQ (en:ν ->AV) (z:AV):Option ν ->AV
 |some v=> .tu [en v,.b true]
 |none=> .tu [z,.b false]
def Ae (ek:κ ->AV) (en:ν ->AV) (h:AH) (o:Nat) (l:List (κ×ν)):Prop:=∃ver,h.objs.get o=some (.map ver (cV ek en 0 l) l.length)
section
variable {ev:MA ->AV} {h:AH} {et:ET} (hk:rG ek et) {o:Nat} {l:List (κ×ν)} (hm:Ae ek en h o l) {m q x:MA} {k:κ} (e1:ev m= .m o) (e2:ev q=ek k)
include hk hm e1 e2
theorem j4 {z:AV}:step ev h (.look et m q z false)= .v (Iw en z (look k l)) h:=by
 obtain⟨ver,hg⟩:=hm;show(bif !(nG et (ev q)) then bj.bad else
  match (match ev m with
   | .mn=>some none
   | .m o=>match h.get o with|some (.map _ es _)=>iM et (ev q) es|_=>none
   |_=>none) with
  |some (some e)=>(Bool.rec (bj.v e.2.1 h) (bj.v (.tu [e.2.1,.b true]) h) false:bj)
  |some none=>(Bool.rec (bj.v z h) (bj.v (.tu [z,.b false]) h) false:bj)
  |none=>bj.bad)=_
 rw[e1,e2,hk.q];have hg':h.get o=some (.map ver (cV ek en 0 l) l.length):=hg;simp only[gU,cond_false,hg'];obtain⟨r,h1,h2⟩:=nR (en:=en) hk k l 0;rw[h1];cases r with
 |none=>rw[h2];rfl
 |some e=>obtain⟨v,j,h3,h4,_⟩:=h2;rw[h4,h3];rfl
theorem kx {z:AV}:step ev h (.look et m q z true)= .v (sQ en z (look k l)) h:=by
 obtain⟨ver,hg⟩:=hm;show(bif !(nG et (ev q)) then bj.bad else
  match (match ev m with
   | .mn=>some none
   | .m o=>match h.get o with|some (.map _ es _)=>iM et (ev q) es|_=>none
   |_=>none) with
  |some (some e)=>(Bool.rec (bj.v e.2.1 h) (bj.v (.tu [e.2.1,.b true]) h) true:bj)
  |some none=>(Bool.rec (bj.v z h) (bj.v (.tu [z,.b false]) h) true:bj)
  |none=>bj.bad)=_
 rw[e1,e2,hk.q];have hg':h.get o=some (.map ver (cV ek en 0 l) l.length):=hg;simp only[gU,cond_false,hg'];obtain⟨r,h1,h2⟩:=nR (en:=en) hk k l 0;rw[h1];cases r with
 |none=>rw[h2];rfl
 |some e=>obtain⟨v,j,h3,h4,_⟩:=h2;rw[h4,h3];rfl
theorem gH {v:ν} (e3:ev x=en v):step ev h (.mupd et m q x)= .v .un ⟨h.next,h.ver+1,h.objs.put o (.map (h.ver+1) (cV ek en 0 (ups k v l)) (ups k v l).length)⟩:=by
 obtain⟨ver,hg⟩:=hm;have hg':h.get o=some (.map ver (cV ek en 0 l) l.length):=hg;have hs:step ev h (.mupd et m q x)=(bif !(nG et (ev q)) then .bad else match ev m with
  | .m o=>match h.get o with
   |some (.map _ es cl)=>fV (ev q) fun k=>fV (ev x) fun x=>match iM et k es with
    |some (some e)=>bif nH k e.1 then (match qP e.2.2 k x es with
     |some es=>h.put o (.map (Nat.succ h.ver) es cl) fun h=>bj.v .un h
     |none=> .bad) else .bad
    |some none=>match gK es [(k,x,cl)] with
     |some es=>fN cl fun cl=>h.put o (.map (Nat.succ h.ver) es (Nat.succ cl)) fun h=>bj.v .un h
     |none=> .bad
    |none=> .bad
   |_=> .bad
  |_=> .bad):=rfl
 rw[hs,e1,e2,hk.q];simp only[gU,cond_false,hg',iW,e3,bR,AH.put_eq,dX];obtain⟨r,h1,h2⟩:=nR (en:=en) hk k l 0;rw[h1];cases r with
 |none=>
  have e:ups k v l=l++[(k,v)]:=nS h2;rw[e,vP];simp[cV]
 |some e=>
  obtain⟨w,j,h3,h4,h5⟩:=h2;subst h3;have hu:=DE (en:=en) hk (v:=v) (i:=0) h1 h4;simp only[hk.self,cond_true,hu];rw[Iu h4]
end
end
def M5 {k:IntKind}:rG (fun n:Int=>AV.i k n) (.lf .i) where
 eq:=fun a b=>by show(bif rP k k then some (fQ a b) else none)=_;rw[tG,bF];rfl
 q:=fun _=>rfl
 self:=fun a=>by show(rP k k&&fQ a a)=true;rw[tG,bF];simp
def Wl:rG (fun n:List Nat=>AV.s n) (.lf .s) where
 eq:=fun a b=>by show some (rN a b)=_;rw[gF]
 q:=fun _=>rfl
 self:=fun a=>by show rN a a=true;rw[gF];simp
def e3 (x:Int×Int×Int):AV:= .ag [.i .i64 x.1,.i .i64 x.2.1,.i .i64 x.2.2]
def t3:ET:= .ag [(0,1,false,.lf .i),(1,1,false,.lf .i),(2,1,false,.lf .i)]
def Wm:rG e3 t3 where
 eq:=fun a b=>by
  obtain⟨a1,a2,a3⟩:=a;obtain⟨b1,b2,b3⟩:=b;have h:fS 6 t3 (e3 (a1,a2,a3)) (e3 (b1,b2,b3))=(match (some (fQ a1 b1):Option Bool) with
   |some true=>(match (some (fQ a2 b2):Option Bool) with
    |some true=>(match (some (fQ a3 b3):Option Bool) with
     |some true=>some true
     |r=>r)
    |r=>r)
   |r=>r):=rfl
  rw[h,bF,bF,bF];by_cases h1:a1=b1<;>by_cases h2:a2=b2<;>by_cases h3:a3=b3<;>simp[h1,h2,h3]
 q:=fun a=>by
  obtain⟨a1,a2,a3⟩:=a;have h:nG t3 (e3 (a1,a2,a3))=(match (match (some (fQ a1 a1):Option Bool) with
   |some true=>(match (some (fQ a2 a2):Option Bool) with
    |some true=>(match (some (fQ a3 a3):Option Bool) with
     |some true=>some true
     |r=>r)
    |r=>r)
   |r=>r) with|some true=>true|_=>false):=rfl
  rw[h,bF,bF,bF];simp
 self:=fun a=>by
  obtain⟨a1,a2,a3⟩:=a;have h:nH (e3 (a1,a2,a3)) (e3 (a1,a2,a3))=((rP .i64 .i64&&fQ a1 a1)&&((rP .i64 .i64&&fQ a2 a2)&&((rP .i64 .i64&&fQ a3 a3)&&true))):=rfl;rw[h,bF,bF,bF];simp[rP]
section
variable {ev:MA ->AV} {h:AH} {s x:MA} {esz b:Nat}
def Ix:step ev h (.app s x esz b)=(match eI (ev x),cR h esz (ev x) with
 |some n,some l=>eH h (ev s) n l esz
 |_,_=> .bad):=rfl
def nT {o off n:Nat} {cap:Option Nat} {l r:List AV} (h1:h.cells o=some l) (h2:sub l off (n*esz)=some r):cR h esz (.sl o off n cap esz)=some r:=by
 show(bif Nat.beq esz esz then (match h.cells o with|some l=>sub l off (n*esz)|none=>none) else none)=_;rw[az,h1];simpa using h2
def gI {l:List AV} {n:Nat} (h:l.length=n):sub l 0 n=some l:=by
 rw[jd,if_pos ω];simp[←h]
def uL {o n o2:Nat} {L new:List AV} (e1:ev s= .sl o 0 n none esz) (h1:h.cells o=some L) (hl:L.length=n*esz) (e2:ev x= .sl o2 0 1 (some 1) esz) (h2:h.cells o2=some new) (hn:new.length=esz)
 (hs:cE new=true) (hb:n+1<=1048576):step ev h (.app s x esz b)= .v (.sl h.next 0 (n+1) none esz) ⟨h.next+1,h.ver+1,(h.objs.put o .gone).put h.next (.cells (h.ver+1) (L++new))⟩:=by
 rw[Ix,e1,e2,nT h2 (gI ω)];show eH h (.sl o 0 n none esz) 1 new esz=_;have e:eH h (.sl o 0 n none esz) 1 new esz=(match h.cells o with
  |none=>bj.bad
  |some l=>fN (n+1) fun need=>bif !(Nat.beq esz esz&&(Nat.ble need 1048576&&cE new)) then bj.bad else
   match sub l 0 (n*esz) with
    |some old=>match gK old new with
     |some l=>h.put o .gone fun h=>h.new (.cells h.ver l) fun o h=> .v (.sl o 0 need none esz) h
     |none=>bj.bad
    |none=>bj.bad):=rfl
 rw[e,h1];simp only[bR,az,aQ,hb,hs,decide_true,fW,gU,cond_false,gI hl,dX,AH.put_eq,AH.new_eq]
def uM {o2:Nat} {new:List AV} (e1:ev s= .sn) (e2:ev x= .sl o2 0 1 (some 1) esz) (h2:h.cells o2=some new) (hn:new.length=esz)
 (hs:cE new=true):step ev h (.app s x esz b)= .v (.sl h.next 0 1 none esz) ⟨h.next+1,h.ver,h.objs.put h.next (.cells h.ver new)⟩:=by
 rw[Ix,e1,e2,nT h2 (gI ω)];show eH h .sn 1 new esz=_;have e:eH h .sn 1 new esz=(bif Nat.ble 1 1048576&&cE new then h.new (.cells h.ver new) fun o h=>fN 1 fun n=>bj.v (.sl o 0 n none esz) h else bj.bad):=rfl;rw[e];simp only[bR,hs,AH.new_eq,Ff];rfl
end
end
end AM
