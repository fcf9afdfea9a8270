import Derived.Test.YtcpcjocnnclcmaaGreatDoorN5
set_option linter.all false
namespace AM
open Go
noncomputable section
structure BP {R:Type} (Tr:R ->Prop) (B:cQ R) (C:cQ Prop):Prop where
 fns:∀f m,B.fns.get f=some m ->C.fns.get f=some m
 glob:B.glob=C.glob
 fail:¬Tr B.fail
 both:∀p q,Tr (B.both p q) ->Tr p/\ Tr q
 both':∀p q,C.both p q=(p/\ q)
 spec:∀f a h (kb:AV ->AH ->R) (kp:AV ->AH ->Prop) (fb:R) (fp:Prop),(∀v h,Tr (kb v h) ->kp v h) ->(Tr (fb) ->fp) ->Tr (B.spec f a h kb fb) ->C.spec f a h kp fp
section
variable {R:Type} {Tr:R ->Prop} {B:cQ R} {C:cQ Prop} (hB:BP Tr B C)
include hB
theorem An (τ:T AV):bp B τ=bp C τ:=by
 funext a;cases a with
 |t n=>rfl
 |c v=>rfl
 |g n=>show(Option.rec .un (fun l=> .dp l 0) (B.glob.get n):AV)=Option.rec .un (fun l=> .dp l 0) (C.glob.get n);rw[hB.glob]
theorem cZ {p:Prop} (h:Tr (B.fail)):p:=(hB.fail h).elim
theorem D0 (τ:T AV) (h:AH) (g:MG):bB B τ h g=bB C τ h g:=by unfold bB;rw[An hB]
section ops
variable {cb yb:Nat ->List AV ->AH ->(AV ->AH ->R) ->R} {cp yp:Nat ->List AV ->AH ->(AV ->AH ->Prop) ->Prop}
 (hc:∀f a h kb kp,(∀v h,Tr (kb v h) ->kp v h) ->Tr (cb f a h kb) ->cp f a h kp) (hy:∀f a h kb kp,(∀v h,Tr (kb v h) ->kp v h) ->Tr (yb f a h kb) ->yp f a h kp)
theorem IT {f:AV ->AH ->R} {g:AV ->AH ->Prop} (hfg:∀v h,Tr (f v h) ->g v h):∀l:List (AV×AH),Tr (iU B f l) ->iU C g l
 |[],h=>cZ hB h
 |[e],h=>hfg _ _ h
 |e::b::r,h=>by
  have h':Tr (B.both (f e.1 e.2) (iU B f (b::r))):=h;have h':=hB.both _ _ h';show C.both (g e.1 e.2) (iU C g (b::r));rw[hB.both'];exact⟨hfg _ _ h'.1,IT hfg _ h'.2⟩
include hc hy
theorem D3 (g:MG) (τ:T AV) (h:AH) {kb:AV ->AH ->R} {kp:AV ->AH ->Prop} (hk:∀v h,Tr (kb v h) ->kp v h) (hr:Tr (dg B cb yb g τ h kb)):dg C cp yp g τ h kp:=by
 have act:Tr ((match step (bp C τ) h g.op with
  | .v x h=>kb x h
  | .call q args h=>cb q args h kb
  | .yld l args h=>yb l args h kb
  | .alts l=>iU B kb l
  | .bad=>B.fail:R)) ->(match step (bp C τ) h g.op with
  | .v x h=>kp x h
  | .call q args h=>cp q args h kp
  | .yld l args h=>yp l args h kp
  | .alts l=>iU C kp l
  | .bad=>C.fail:Prop):=by
  cases step (bp C τ) h g.op with
  |v x h=>exact hk x h
  |call q args h=>exact hc q args h kb kp hk
  |yld l args h=>exact hy l args h kb kp hk
  |alts l=>exact IT hB hk l
  |bad=>exact fun h=>cZ hB h
 unfold dg at hr ⊢;rw[An hB] at hr;dsimp only at hr ⊢;cases hg:g.guard with
 |none=>rw[hg] at hr;exact act hr
 |some q=>
  rw[hg] at hr;obtain⟨t,w⟩:=q;dsimp only at hr ⊢;cases ht:τ.get t with
  |none=>rw[ht] at hr;exact cZ hB hr
  |some y=>
   rw[ht] at hr;cases y with
   |b x=>
    dsimp only at hr ⊢;cases hb:(bif x then w else !w) with
    |true=>rw[hb] at hr;exact act hr
    |false=>rw[hb] at hr;exact hk _ _ hr
   |tu l=>cases l with
    |nil=>exact hk _ _ hr
    |cons _ _=>exact cZ hB hr
   |_=>exact cZ hB hr
theorem uT {kb:T AV ->AH ->R} {kp:T AV ->AH ->Prop} (hk:∀τ h,Tr (kb τ h) ->kp τ h):∀(l:List MG) (τ:T AV) (h:AH),Tr (bg B cb yb kb l τ h) ->bg C cp yp kp l τ h
 |[],τ,h,hr=>hk _ _ hr
 |g::l,τ,h,hr=>by
  have h1:Tr (dg B cb yb g τ h (fun x h=>dZ τ g.dst x fun τ=>bg B cb yb kb l τ h)):=hr;refine D3 hB hc hy g τ h (fun v h hv=> ?_) h1;rw[dh] at hv ⊢;exact uT hk l _ _ hv
omit hc hy in
theorem D4 {τ:T AV} {h:AH} {mask:Nat} {kb:R} {kp:Prop} (hk:Tr (kb) ->kp):∀ls:List (Nat×MG),Tr (cj B τ h mask ls kb) ->cj C τ h mask ls kp
 |[],hr=>hk hr
 |p::ls,hr=>by
  have ih:=D4 (τ:=τ) (h:=h) (mask:=mask) hk ls;have h1:Tr ((bif Nat.testBit mask p.1 then cj B τ h mask ls kb else match bB B τ h p.2 with
   |some x=>match p.2.dst with
    |none=>cj B τ h mask ls kb
    |some d=>match τ.get d with
     |some y=>bif cU 64 x y then cj B τ h mask ls kb else B.fail
     |none=>B.fail
   |none=>B.fail)):=hr
  show(bif Nat.testBit mask p.1 then cj C τ h mask ls kp else match bB C τ h p.2 with
   |some x=>match p.2.dst with
    |none=>cj C τ h mask ls kp
    |some d=>match τ.get d with
     |some y=>bif cU 64 x y then cj C τ h mask ls kp else C.fail
     |none=>C.fail
   |none=>C.fail)
  rw[D0 hB] at h1;cases hb:Nat.testBit mask p.1 with
  |true=>rw[hb] at h1;exact ih h1
  |false=>
   rw[hb] at h1;simp only[cond_false] at h1 ⊢;cases hl:bB C τ h p.2 with
   |none=>rw[hl] at h1;exact cZ hB h1
   |some x=>
    rw[hl] at h1;dsimp only at h1 ⊢;cases hd:p.2.dst with
    |none=>rw[hd] at h1;exact ih h1
    |some d=>
     rw[hd] at h1;dsimp only at h1 ⊢;cases ht:τ.get d with
     |none=>rw[ht] at h1;exact cZ hB h1
     |some y=>
      rw[ht] at h1;dsimp only at h1 ⊢;cases he:cU 64 x y with
      |true=>rw[he] at h1;exact ih h1
      |false=>rw[he] at h1;exact cZ hB h1
theorem mB {base:Nat} {kb:T AV ->AH ->R} {kp:T AV ->AH ->Prop} (hk:∀τ h,Tr (kb τ h) ->kp τ h):∀(l:List DI) (ls:List (Nat×MG)) (pd:List (Nat×Nat×aU)) (τ:T AV) (h:AH),
 Tr ( aC B cb yb base kb l ls pd τ h) ->aC C cp yp base kp l ls pd τ h
 |[],_,_,τ,h,hr=>hk _ _ hr
 |d::l,ls,pd,τ,h,hr=>by
  cases d with
  |light i g=>
   have h1:Tr ((match bB B τ h g with
    |some x=>dZ τ g.dst x fun τ=>aC B cb yb base kb l ((i,g)::ls) pd τ h
    |none=>B.fail)):=hr
   show(match bB C τ h g with
    |some x=>dZ τ g.dst x fun τ=>aC C cp yp base kp l ((i,g)::ls) pd τ h
    |none=>C.fail)
   rw[D0 hB] at h1;cases hl:bB C τ h g with
   |none=>rw[hl] at h1;exact cZ hB h1
   |some x=>rw[hl] at h1;dsimp only at h1 ⊢;rw[dh] at h1 ⊢;exact mB hk l _ _ _ _ h1
  |resv i n g=>
   have h1:Tr ((fN (base+n) fun id=>match step (bp B τ) ⟨id,h.ver,.e⟩ g.op with
    | .v x h'=>match h'.objs.get id with
     |some ob=>dZ τ g.dst x fun τ=>aC B cb yb base kb l ls ((i,id,ob)::pd) τ h
     |none=>B.fail
    |_=>B.fail)):=hr
   show(fN (base+n) fun id=>match step (bp C τ) ⟨id,h.ver,.e⟩ g.op with
    | .v x h'=>match h'.objs.get id with
     |some ob=>dZ τ g.dst x fun τ=>aC C cp yp base kp l ls ((i,id,ob)::pd) τ h
     |none=>C.fail
    |_=>C.fail)
   rw[bR] at h1 ⊢;rw[An hB] at h1;cases hs:step (bp C τ) ⟨base+n,h.ver,.e⟩ g.op with
   |v x h'=>
    rw[hs] at h1;dsimp only at h1 ⊢;cases ho:h'.objs.get (base+n) with
    |none=>rw[ho] at h1;exact cZ hB h1
    |some ob=>rw[ho] at h1;dsimp only at h1 ⊢;rw[dh] at h1 ⊢;exact mB hk l _ _ _ _ h1
   |_=>rw[hs] at h1;exact cZ hB h1
  |lay i=>
   have h1:Tr ((match gB i pd with
    |some (id,ob)=>h.put id ob fun h=>aC B cb yb base kb l ls pd τ h
    |none=>B.fail)):=hr
   show(match gB i pd with
    |some (id,ob)=>h.put id ob fun h=>aC C cp yp base kp l ls pd τ h
    |none=>C.fail)
   cases hf:gB i pd with
   |none=>rw[hf] at h1;exact cZ hB h1
   |some q=>rw[hf] at h1;dsimp only at h1 ⊢;rw[AH.put_eq] at h1 ⊢;exact mB hk l _ _ _ _ h1
  |heavy i g mask=>
   have h1:Tr (dg B cb yb g τ h (fun x h=>dZ τ g.dst x fun τ=>cj B τ h mask ls (aC B cb yb base kb l ls pd τ h))):=hr;refine D3 hB hc hy g τ h (fun v h hv=> ?_) h1;rw[dh] at hv ⊢;exact D4 hB (fun hh=>mB hk l _ _ _ _ hh) _ hv
end ops
def BPn (Tr:R ->Prop) (B:cQ R) (C:cQ Prop) (n:Nat):Prop:=∀c (kb:K R) (kp:K Prop) τ h,(∀e τ h,Tr (kb e τ h) ->kp e τ h) ->Tr (run B n c kb τ h) ->run C n c kp τ h
theorem tW {n:Nat} (IH:BPn Tr B C n) (f:Nat) (a:List AV) (h:AH) (kb:AV ->AH ->R) (kp:AV ->AH ->Prop) (hk:∀v h,Tr (kb v h) ->kp v h) (hr:Tr (iV B (run B n) f a h kb)):iV C (run C n) f a h kp:=by
 unfold iV at hr ⊢;cases hf:B.fns.get f with
 |none=>rw[hf] at hr;exact cZ hB hr
 |some fn=>
  rw[hf] at hr;rw[hB.fns _ _ hf];dsimp only at hr ⊢;rw[jU] at hr ⊢;refine IH _ _ _ _ _ (fun e τ h he=> ?_) hr;cases e with
  |exit i=>exact cZ hB he
  |_=>
   dsimp only at he ⊢;cases hq:aP τ h fn.res with
   |none=>rw[hq] at he;exact cZ hB he
   |some v=>rw[hq] at he;exact hk _ _ he
theorem OO {n:Nat} (IH:BPn Tr B C n) (f:Nat) (a:List AV) (h:AH) (kb:AV ->AH ->R) (kp:AV ->AH ->Prop) (hk:∀v h,Tr (kb v h) ->kp v h) (hr:Tr (gV B (run B n) f a h kb)):gV C (run C n) f a h kp:=
 hB.spec _ _ _ _ _ _ _ hk (tW hB IH f a h kb kp hk) hr
theorem tX {kb:T AV ->R} {kp:T AV ->Prop} (hk:∀τ,Tr (kb τ) ->kp τ):∀(l:List Nat) (a:List AV) (τ:T AV),Tr (eh B l a τ kb) ->eh C l a τ kp
 |[],[],τ,h=>hk τ h
 |[],_::_,_,h=>cZ hB h
 |_::_,[],_,h=>cZ hB h
 |p::l,x::a,τ,h=>by
  have h1:Tr (τ.setK p x (fun τ=>eh B l a τ kb)):=h;show τ.setK p x (fun τ=>eh C l a τ kp);rw[T.setK_put] at h1 ⊢;exact tX hk l a _ h1
theorem Cg {kb:AH ->R} {kp:AH ->Prop} (hk:∀h,Tr (kb h) ->kp h) (h:AH) (l:Nat) (hr:Tr (gh B h l kb)):gh C h l kp:=by
 unfold gh at hr ⊢;split
 ·rename_i he;rw[he] at hr;simp only[AH.put_eq] at hr ⊢;exact hk _ hr
 ·rename_i he;split at hr
  ·rename_i hq;exact absurd hq (he _ _ _ _ _)
  ·exact cZ hB hr
theorem sC {kb:AH ->R} {kp:AH ->Prop} (hk:∀h,Tr (kb h) ->kp h) (h:AH) (l st:Nat) (p:Option (Option Nat)) (hr:Tr (eW B h l st p kb)):eW C h l st p kp:=by
 unfold eW at hr ⊢;split
 ·rename_i he;rw[he] at hr;simp only[AH.put_eq] at hr ⊢;exact hk _ hr
 ·rename_i he;split at hr
  ·rename_i hq;exact absurd hq (he _ _ _ _ _ _)
  ·exact cZ hB hr
theorem Ks {n:Nat} (IH:BPn Tr B C n) (l:Nat) (a:List AV) (h:AH) (kb:AV ->AH ->R) (kp:AV ->AH ->Prop) (hk:∀v h,Tr (kb v h) ->kp v h) (hr:Tr (dU B (run B n) l a h kb)):dU C (run C n) l a h kp:=by
 unfold dU at hr ⊢;split at hr
 ·rename_i ps asg body env _ _ hg;refine tX hB (fun τ hh=>IH _ _ _ _ _ (fun e τ h he=> ?_) hh) _ _ _ hr;cases e with
  |normal=>
   refine Cg hB (fun h hh=>IH _ _ _ _ _ (fun e τ h he=> ?_) hh) _ _ he;cases e with
   |normal=>exact sC hB (fun h hh=>hk _ _ hh) _ _ _ _ he
   |exit i=>exact sC hB (fun h hh=>hk _ _ hh) _ _ _ _ he
   |ret=>exact sC hB (fun h hh=>hk _ _ hh) _ _ _ _ he
  |_=>exact cZ hB he
 ·exact cZ hB hr
theorem OP:∀n,BPn Tr B C n:=by
 intro n;induction n with
 |zero=>intro c kb kp τ h hk hr;exact cZ hB hr
 |succ n IH=>
  intro c kb kp τ h hk hr;rw[bC] at hr ⊢;have cc:=OO hB IH;have yy:=Ks hB IH;cases c with
  |skip=>exact hk _ _ _ hr
  |ops l=>exact uT hB cc yy (fun τ h=>hk _ τ h) l τ h hr
  |draw z l=>dsimp only at hr ⊢;rw[bR] at hr ⊢;exact mB hB cc yy (fun τ h=>hk _ τ h) l _ _ _ _ hr
  |dfr l x fn=>
   refine uT hB cc yy (fun τ h hh=> ?_) l τ h hr;rw[An hB] at hh;cases hx:bp C τ x with
   |f g _ _=>
    rw[hx] at hh;dsimp only at hh ⊢;cases hg:Nat.beq g fn with
    |true=>rw[hg] at hh;exact hk _ _ _ hh
    |false=>rw[hg] at hh;exact cZ hB hh
   |_=>rw[hx] at hh;exact cZ hB hh
  |seq a b=>exact IH _ _ _ _ _ (fun e τ h he=>by cases e<;>first|exact IH _ _ _ _ _ hk he|exact hk _ _ _ he) hr
  |cond x a b=>
   dsimp only at hr ⊢;rw[An hB] at hr;cases hx:bp C τ x with
   |b t=>rw[hx] at hr;cases t<;>exact IH _ _ _ _ _ hk hr
   |_=>rw[hx] at hr;exact cZ hB hr
  |block i a=>exact IH _ _ _ _ _ (fun e τ h he=>by
   cases e with
   |exit j=>
    dsimp only at he ⊢;cases hj:Nat.beq j i with
    |true=>rw[hj] at he;exact hk _ _ _ he
    |false=>rw[hj] at he;exact hk _ _ _ he
   |_=>exact hk _ _ _ he) hr
  |loop a=>exact IH _ _ _ _ _ (fun e τ h he=>by cases e<;>first|exact IH _ _ _ _ _ hk he|exact hk _ _ _ he) hr
  |rfun q ps asg body=>
   dsimp only at hr ⊢;rw[AH.new_eq] at hr ⊢;rw[An hB] at hr;cases hx:bp C τ q with
   |f g fi ca=>
    rw[hx] at hr;dsimp only at hr ⊢;cases ha:gK fi (.y h.next::ca) with
    |none=>rw[ha] at hr;exact cZ hB hr
    |some l=>
     rw[ha] at hr;refine tW hB IH _ _ _ _ _ (fun v h' hv=> ?_) hr;split at hv
     ·rw[AH.put_eq] at hv ⊢;exact hk _ _ _ hv
     ·rw[AH.put_eq] at hv ⊢;exact hk _ _ _ hv
     ·rw[AH.put_eq] at hv ⊢;exact hk _ _ _ hv
     ·exact cZ hB hv
   |_=>rw[hx] at hr;exact cZ hB hr
  |exit i=>exact hk _ _ _ hr
  |ret=>exact hk _ _ _ hr
  |bad w=>exact cZ hB hr
end
section
variable {P:Program} {X:dy} {GL:T (List AV)} {fns:T aR}
def Ch (P:Program) (X:dy) (GL:T (List AV)) (kn:Nat ->List AV ->Option AV):Prop:=∀f a v,kn f a=some v ->∀h,dq P X GL f a h v h
def WR (GL:T (List AV)) (bt:T aR) (kn:Nat ->List AV ->Option AV):cQ Bool where
 fns:=bt
 glob:=GL
 spec:=fun f a h k fb=>match kn f a with|some v=>k v h|none=>fb
 fail:=false
 both:=and
def fA (GL:T (List AV)) (bt:T aR) (kn:Nat ->List AV ->Option AV) (n f:Nat) (args:List AV) (d:AV):Bool:=
 iV (WR GL bt kn) (run (WR GL bt kn) n) f args h0 fun x h=>match aH 12 h x with|some y=>cU 64 y d|none=>false
def dH {bt:T aR} {kn:Nat ->List AV ->Option AV} (hs:∀f m,bt.get f=some m ->fns.get f=some m) (hk:Ch P X GL kn) {n f:Nat} {args:List AV} {d:AV} (hr:fA GL bt kn n f args d=true):aZ P X GL fns f args d:=by
 have hB:BP (fun b:Bool=>b=true) (WR GL bt kn) (BN P X GL fns):={
  fns:=hs
  glob:=rfl
  fail:=fun h=>Bool.noConfusion h
  both:=fun _ _ h=>lV.1 h
  both':=fun _ _=>rfl
  spec:=fun f a h kb kp fb fp h1 h2 h3=>by
   show(∃v h',kp v h'/\ dq P X GL f a h v h')∨fp;have h3':(match kn f a with|some v=>kb v h|none=>fb)=true:=h3;cases hv:kn f a with
   |none=>rw[hv] at h3';exact .inr (h2 h3')
   |some v=>rw[hv] at h3';exact .inl ⟨v,h,h1 _ _ h3',hk f a v hv h⟩ }
 refine⟨n,tW hB (OP hB n) f args h0 _ _ (fun x h hx=> ?_) hr⟩;split at hx
 ·rename_i y hy;exact⟨12,by rw[hy,ju _ _ _ hx]⟩
 ·cases hx
def IU {fns:T aR}:∀f m,(T.e:T aR).get f=some m ->fns.get f=some m:=fun f m h=>by
 have e:(T.e:T aR).get f=none:=rfl;rw[e] at h;cases h
def bG {fns t:T aR} {a:Nat} {x:aR} (h:∀f m,t.get f=some m ->fns.get f=some m) (e:fns.get a=some x):∀f m,(t.put a x).get f=some m ->fns.get f=some m:=fun f m hf=>by
 rw[T.get_put] at hf;split at hf
 ·rename_i q;subst q;cases hf;exact e
 ·exact h f m hf
def cJ:Ch P X GL (fun _ _=>none):=fun _ _ _ h=>by cases h
end
section
def qV (h:AH) (o:Nat):Bool:=match h.objs.get o with|some (.cells _ _)=>true|_=>false
def vX (h:AH) (l:List Nat) (t:T aU):T aU:=l.foldl (fun t o=>bif qV h o then t.put o .gone else t) t
def Ec (h:AH) (l:List Nat) (t:T aU):T aU:=l.foldl (fun t o=>match h.objs.get o with|some (.cells v c)=>t.put o (.cells v c)|_=>t) t
def Cr (h:AH) (l:List Nat):AH:=⟨h.next,h.ver,vX h l h.objs⟩
def pZ (h:AH) (l:List Nat):AH:=⟨h.next,h.ver,Ec h l .e⟩
def qb (h:AH):∀(l:List Nat) (t:T aU) (o:Nat),(vX h l t).get o=if o∈l/\ qV h o=true then some .gone else t.get o
 |[],t,o=>by simp[vX]
 |a::l,t,o=>by
  have e:vX h (a::l) t=vX h l (bif qV h a then t.put a .gone else t):=rfl;rw[e,qb h l];cases ha:qV h a with
  |true=>
   rw[cond_true,T.get_put];by_cases q:o=a
   ·subst q;simp[ha]
   ·simp[q]
  |false=>
   rw[cond_false];by_cases q:o=a
   ·subst q;simp[ha]
   ·simp[q]
def uZ (h:AH):∀(l:List Nat) (t:T aU) (o:Nat) (ob:aU),(Ec h l t).get o=some ob ->(o∈l/\ qV h o=true/\ h.objs.get o=some ob)∨t.get o=some ob
 |[],t,o,ob,hg=> .inr hg
 |a::l,t,o,ob,hg=>by
  have e:Ec h (a::l) t=Ec h l (match h.objs.get a with|some (.cells v c)=>t.put a (.cells v c)|_=>t):=rfl;rw[e] at hg;rcases uZ h l _ o ob hg with ⟨h1,h2,h3⟩|hg2
  ·exact .inl ⟨by simp[h1],h2,h3⟩
  ·clear hg;split at hg2
   ·rename_i v c hc;rw[T.get_put] at hg2;by_cases q:o=a
    ·rw[if_pos q] at hg2;subst q;exact .inl ⟨by simp,by unfold qV;rw[hc],by rw[hc];exact hg2⟩
    ·rw[if_neg q] at hg2;exact .inr hg2
   ·exact .inr hg2
open Classical
section
variable {P:Program} {X:dy} {GL:T (List AV)} {fns:T aR}
def CE.frz (c:CE) (h:AH) (w:World) (l:List Nat):CE:={ c with im:=fun b=>match c.im b with
 |some row=>some row
 |none=>if∃o ver r,o∈l/\ jB c h o (.cells ver r)/\ (c.ρ o).1=b then eC w b else none }
def CE.frz_ext (c:CE) (h:AH) (w:World) (l:List Nat):qj c (c.frz h w l):=⟨fun _ h=>h,fun _ _=>rfl,fun _ _=>rfl,fun b row h=>by simp[CE.frz,h],rfl⟩
def ua {c:CE} {h:AH} {w:World} {l:List Nat} {o:Nat} {ob:aU} (hh:jB (c.frz h w l) (Cr h l) o ob):jB c h o ob/\¬(o∈l/\ qV h o=true):=by
 have hg:=hh.get;have e:(Cr h l).objs.get o=if o∈l/\ qV h o=true then some .gone else h.objs.get o:=qb h l h.objs o
 rw[e] at hg;split at hg
 ·have:=hh.live;rw[←Option.some.inj hg] at this;cases this
 ·rename_i q;exact⟨⟨hg,hh.live,hh.dom⟩,q⟩
def Sj {c:CE} {h:AH} {o ver:Nat} {r:List AV} (hh:jB c h o (.cells ver r)):qV h o=true:=by simp[qV,hh.get]
def Sk {c:CE} {h:AH} {w:World} (r:RS (iY X) c h w) (l:List Nat):gC (iY X) c h w (c.frz h w l) (Cr h l) w:=by
 have hx:=c.frz_ext h w l;have im:∀b row,(c.frz h w l).im b=some row ->c.im b=some row∨(c.im b=none/\ (∃o ver rr,o∈l/\ jB c h o (.cells ver rr)/\ (c.ρ o).1=b)/\ eC w b=some row):=fun b row hb=>by
  have hb':(match c.im b with|some row=>some row|none=>if∃o ver rr,o∈l/\ jB c h o (.cells ver rr)/\ (c.ρ o).1=b then eC w b else none)=some row:=hb;cases hc:c.im b with
  |some row'=>rw[hc] at hb';cases hb';exact .inl rfl
  |none=>
   rw[hc] at hb';dsimp only at hb';split at hb'
   ·rename_i e;exact .inr ⟨rfl,e,hb'⟩
   ·cases hb'
 refine⟨hx,⟨r.nx,fun o ob hg=> ?_,fun o ob ho=> ?_,fun o o' a b ho ho'=>r.inj o o' a b (ua ho).1 (ua ho').1,fun b row hb=> ?_,fun o ob ho=> ?_,fun g lg hg=> ?_⟩,
  ⟨bK _,fun _ _ _=>rfl,fun o ob ho=> .inr ⟨o,ob,(ua ho).1,rfl⟩,fun o ho=> .inl ho,bK _,fun b row hb=> ?_,fun o _ hd ob hg=> ?_,⟨rfl,rfl⟩⟩⟩
 ·have e:(Cr h l).objs.get o=if o∈l/\ qV h o=true then some .gone else h.objs.get o:=qb h l h.objs o
  rw[e] at hg;split at hg
  ·rename_i q;have q2:=q.2;unfold qV at q2;split at q2
   ·rename_i hc;exact r.lt o _ hc
   ·cases q2
  ·exact r.lt o ob hg
 ·exact(r.obj o ob (ua ho).1).mono hx ho.dom rfl
 ·rcases im b row hb with e|⟨_,_,e⟩
  ·exact r.im b row e
  ·exact oI e
 ·obtain⟨hh,hn⟩:=ua ho;cases hb:(c.frz h w l).im (c.ρ o).1 with
  |none=>exact hb
  |some row=>
   rcases im _ row hb with e|⟨_,⟨o',ver,rr,h1,h2,h3⟩,_⟩
   ·rw[r.dj o ob hh] at e;cases e
   ·have:=r.inj o' o _ _ h2 hh h3;subst this;exact(hn ⟨h1,Sj h2⟩).elim
 ·obtain⟨row,vs,e1,e2,e3⟩:=r.gl g lg hg;exact⟨row,vs,hx.im _ _ e1,e2,e3.mono hx⟩
 ·rcases im b row hb with e|⟨_,⟨o,ver,rr,_,h2,h3⟩,_⟩
  ·exact .inl e
  ·exact .inr (.inr ⟨o,_,h2,h3⟩)
 ·have e:(Cr h l).objs.get o=if o∈l/\ qV h o=true then some .gone else h.objs.get o:=qb h l h.objs o
  rw[e] at hg;split at hg
  ·rw[←Option.some.inj hg];rfl
  ·exact hd ob hg
def OY (S:aw P X GL fns) {f:Nat} {args:List AV} {d:AV} (hp:aZ P X GL fns f args d) {c:CE} {h:AH} {w:World} {vs:List Value} (r:RS (iY X) c h w) (gl:∀g l,GL.get g=some l ->c.gl g=some l)
 (hargs:ed (c.only c.im GL) args vs):lD P ((callFunc f vs.toArray).run P w) fun v' w'=>∃c',gC (iY X) c h w c' h w'/\ VR c' d v':=by
 have r0:RS (iY X) (c.only c.im GL) h0 w:=r.only gl S.gl r.im (fun _ _ h=>h);refine uK S hp r0 (fun g l h=>h) hargs fun v' w' x h1 c1 m hd hev hvr=>⟨c.fix w w',BO r hev.keep.size (fun b hb=>xT hev hb) hev.keep.io,?_⟩
 refine(qv (CR:=iY X) (c:=c1) (h:=h1) (w:=w') (c2:=c.fix w w') (fun o ver l hh=>hev.rs.obj _ _ hh) (fun b row hb=> ?_) (fun o ver l hh row t fr hrow=> ?_) m).1 _ _ _ hd hvr
 ·show(match c.im b with|some row=>some row|none=>if w.heap.size<=b then eC w' b else none)=some row;rcases hev.keep.im b row hb with e|e|⟨o,ob,ho,_⟩
  ·have e':c.im b=some row:=e;rw[e']
  ·have hn:c.im b=none:=by
    cases hc:c.im b with
    |none=>rfl
    |some row'=>have:=r.im_lt hc;omega
   rw[hn];dsimp only;rw[if_pos e];obtain⟨t,fr,e2⟩:=hev.rs.im b row hb;exact iw e2
  ·exact(nj ho).elim
 ·show(match c.im (c1.ρ o).1 with|some row=>some row|none=>if w.heap.size<=(c1.ρ o).1 then eC w' (c1.ρ o).1 else none)=some row;rcases hev.keep.new o _ hh with e|⟨o',ob',ho',_⟩
  ·have hn:c.im (c1.ρ o).1=none:=by
    cases hc:c.im (c1.ρ o).1 with
    |none=>rfl
    |some row'=>have:=r.im_lt hc;omega
   rw[hn];dsimp only;rw[if_pos e];exact iw hrow
  ·exact(nj ho').elim
def oQ (S:aw P X GL fns) {f:Nat} {args dargs:List AV} {d:AV} (hp:aZ P X GL fns f dargs d) {h:AH} {n:Nat} {l:List Nat} (ha:aK n (pZ h l) args=some dargs):dq P X GL f args h d (Cr h l):=by
 intro c w vs r gl hv;have e1:=Sk r l;have hp':∀o ver rr,jB c (pZ h l) o (.cells ver rr) ->o∈l/\ jB c h o (.cells ver rr):=fun o ver rr hh=>by
  rcases uZ h l .e o _ hh.get with ⟨h1,_,h3⟩|h3
  ·exact⟨h1,h3,hh.live,hh.dom⟩
  ·have:(T.e:T aU).get o=none:=rfl;rw[this] at h3;cases h3
 have hargs:ed ((c.frz h w l).only (c.frz h w l).im GL) dargs vs:=
  (qv (CR:=iY X) (c:=c) (h:=pZ h l) (w:=w) (c2:=(c.frz h w l).only (c.frz h w l).im GL) (fun o ver rr hh=>r.obj _ _ (hp' o ver rr hh).2) (fun b row hb=>(c.frz_ext h w l).im b row hb)
   (fun o ver rr hh row t fr hrow=>by
    obtain⟨h1,h2⟩:=hp' o ver rr hh;show(match c.im (c.ρ o).1 with|some row=>some row|none=>if∃o' ver rr,o'∈l/\ jB c h o' (.cells ver rr)/\ (c.ρ o').1=(c.ρ o).1 then eC w (c.ρ o).1 else none)=some row;rw[r.dj o _ h2];dsimp only;rw[if_pos ⟨o,ver,rr,h1,h2,rfl⟩];exact iw hrow) n).2 _ _ _ ha hv
 have gl':∀g lg,GL.get g=some lg ->(c.frz h w l).gl g=some lg:=fun g lg hg=>gl g lg hg
 exact lD.mono (OY S hp e1.rs gl' hargs) fun v' w' ⟨c',e2,hv'⟩=>⟨c',e1.trans e2,hv'⟩
end
end
def zq:Nat ->AH ->AV ->AV ->Bool
 |n+1,h,.p o a,d=>match d with
  | .dp l a'=>Nat.beq a a'&&(match h.objs.get o with|some (.cells _ c)=>cU.avEqs (zq n h) c l|_=>false)
  |_=>false
 |n+1,h,.sl o a k _ e,d=>match d with
  | .ds l a' k' e'=>Nat.beq a a'&&(Nat.beq k k'&&(Nat.beq e e'&&(match h.objs.get o with|some (.cells _ c)=>cU.avEqs (zq n h) c l|_=>false)))
  |_=>false
 |n+1,h,.ag l,d=>match d with| .ag l'=>cU.avEqs (zq n h) l l'|_=>false
 |n+1,h,.tu l,d=>match d with| .tu l'=>cU.avEqs (zq n h) l l'|_=>false
 |n,_,a,d=>cU n a d
abbrev wg (n:Nat) (h:AH) (l d:List AV):Bool:=cU.avEqs (zq n h) l d
def yR {f:AV ->AV ->Bool} {a:AV} {l:List AV} {d:List AV}:cU.avEqs f (a::l) d=true ->∃b r,d=b::r/\ f a b=true/\ cU.avEqs f l r=true:=by
 intro h;cases d with
 |nil=>cases h
 |cons b r=>
  have h':(f a b&&cU.avEqs f l r)=true:=h;exact⟨b,r,rfl,(lV.1 h').1,(lV.1 h').2⟩
def AZ {f:AV ->AV ->Bool} {d:List AV}:cU.avEqs f [] d=true ->d=[]:=by
 intro h;cases d with
 |nil=>rfl
 |cons b r=>cases h
def HK {n h a l b r} (e:aK n h (a::l)=some (b::r)):aH n h a=some b/\ aK n h l=some r:=by
 rw[af] at e;cases ha:aH n h a with
 |none=>rw[ha] at e;cases e
 |some x=>
  cases hl:aK n h l with
  |none=>rw[ha,hl] at e;cases e
  |some y=>rw[ha,hl] at e;cases e;exact⟨rfl,rfl⟩
def Ta {h:AH}:∀n,(∀a d,aH n h0 a=some d ->aH n h a=some d)/\ (∀l d,aK n h0 l=some d ->aK n h l=some d):=by
 have lists:∀n,(∀a d,aH n h0 a=some d ->aH n h a=some d) ->(∀l d,aK n h0 l=some d ->aK n h l=some d):=fun n H l=>by
  induction l with
  |nil=>intro d e;exact e
  |cons a l ih=>
   intro d e;rw[af] at e ⊢;cases ha:aH n h0 a with
   |none=>rw[ha] at e;cases e
   |some x=>
    cases hl:aK n h0 l with
    |none=>rw[ha,hl] at e;cases e
    |some y=>rw[ha,hl] at e;rw[H a x ha,ih y hl];exact e
 intro n;induction n with
 |zero=>
  have H:∀a d,aH 0 h0 a=some d ->aH 0 h a=some d:=fun a d e=>by cases a<;>first|exact e|cases e
  exact⟨H,lists 0 H⟩
 |succ n ih=>
  have H:∀a d,aH (n+1) h0 a=some d ->aH (n+1) h a=some d:=fun a d e=>by
   have one:∀(l:List AV) (F:List AV ->AV),(match aK n h0 l with|some l=>some (F l)|none=>none)=some d ->(match aK n h l with|some l=>some (F l)|none=>none)=some d:=fun l F e=>by
    cases hl:aK n h0 l with
    |none=>rw[hl] at e;cases e
    |some y=>rw[hl] at e;rw[ih.2 l y hl];exact e
   cases a with
   |p o off=>have e':(match (none:Option aU) with|some (.cells _ l)=>(match fC (aH n h0) l with|some l=>some (AV.dp l off)|none=>none)|_=>none)=some d:=e;cases e'
   |sl o off len cap esz=>have e':(match (none:Option aU) with|some (.cells _ l)=>(match fC (aH n h0) l with|some l=>some (AV.ds l off len esz)|none=>none)|_=>none)=some d:=e;cases e'
   |dp l off=>exact one l (fun l=> .dp l off) e
   |ds l off len esz=>exact one l (fun l=> .ds l off len esz) e
   |ag l=>exact one l .ag e
   |tu l=>exact one l .tu e
   |ifc t v=>
    have e':(match aH n h0 v with|some v=>some (AV.ifc t v)|none=>none)=some d:=e;show(match aH n h v with|some v=>some (AV.ifc t v)|none=>none)=some d;cases hv:aH n h0 v with
    |none=>rw[hv] at e';cases e'
    |some y=>rw[hv] at e';rw[ih.1 v y hv];exact e'
   |f fn x y=>
    have e':(match aK n h0 x,aK n h0 y with|some a,some b=>some (AV.f fn a b)|_,_=>none)=some d:=e;show(match aK n h x,aK n h y with|some a,some b=>some (AV.f fn a b)|_,_=>none)=some d;cases hx:aK n h0 x with
    |none=>rw[hx] at e';cases e'
    |some x'=>
     cases hy:aK n h0 y with
     |none=>rw[hx,hy] at e';cases e'
     |some y'=>rw[hx,hy] at e';rw[ih.2 x x' hx,ih.2 y y' hy];exact e'
   |_=>exact e
  exact⟨H,lists _ H⟩
def yT {h:AH}:∀n m,(∀a d,zq n h a d=true ->aH m h0 d=some d ->aH m h a=some d)/\ (∀l d,wg n h l d=true ->aK m h0 d=some d ->aK m h l=some d):=by
 have lists:∀n m,(∀a d,zq n h a d=true ->aH m h0 d=some d ->aH m h a=some d) ->(∀l d,wg n h l d=true ->aK m h0 d=some d ->aK m h l=some d):=fun n m H l=>by
  induction l with
  |nil=>intro d e _;rw[AZ e];rfl
  |cons a l ih=>
   intro d e hd;obtain⟨b,r,rfl,e1,e2⟩:=yR e;obtain⟨d1,d2⟩:=HK hd;rw[af,H a b e1 d1,ih r e2 d2]
 have same:∀n m a d,cU n a d=true ->aH m h0 d=some d ->aH m h a=some d:=fun n m a d e hd=>by rw[ju _ _ _ e];exact(Ta m).1 _ _ hd
 intro n;induction n with
 |zero=>intro m;exact⟨fun a d e hd=>same 0 m a d (by simpa only[zq] using e) hd,lists 0 m fun a d e hd=>same 0 m a d (by simpa only[zq] using e) hd⟩
 |succ n ih=>
  intro m;have inv:∀(l:List AV) (F:List AV ->AV),(∀x y,F x=F y ->x=y) ->∀m,(match aK m h0 l with|some l=>some (F l)|none=>none)=some (F l) ->aK m h0 l=some l:=fun l F inj m e=>by
   cases hl:aK m h0 l with
   |none=>rw[hl] at e;cases e
   |some y=>rw[hl] at e;rw[inj _ _ (Option.some.inj e)]
  have H:∀a d,zq (n+1) h a d=true ->aH m h0 d=some d ->aH m h a=some d:=fun a d e hd=>by
   cases a with
   |p o off=>
    cases d with
    |dp l a'=>
     have e':(Nat.beq off a'&&(match h.objs.get o with|some (.cells _ c)=>wg n h c l|_=>false))=true:=e;obtain⟨e1,e2⟩:=lV.1 e';have e1:=wX e1;subst e1;cases m with
     |zero=>cases hd
     |succ m=>
      have hl:=inv l (fun l=> .dp l off) (fun x y q=>by cases q;rfl) m hd;show(match h.objs.get o with|some (.cells _ l)=>(match aK m h l with|some l=>some (AV.dp l off)|none=>none)|_=>none)=_;split at e2
      ·rename_i v c hc;rw[(ih m).2 c l e2 hl]
      ·cases e2
    |_=>cases e
   |sl o off len cap esz=>
    cases d with
    |ds l a' k' e'=>
     have e':(Nat.beq off a'&&(Nat.beq len k'&&(Nat.beq esz e'&&(match h.objs.get o with|some (.cells _ c)=>wg n h c l|_=>false))))=true:=e;obtain⟨e1,e'⟩:=lV.1 e';obtain⟨e3,e'⟩:=lV.1 e';obtain⟨e4,e2⟩:=lV.1 e';have e1:=wX e1;have e3:=wX e3;have e4:=wX e4;subst e1 e3 e4;cases m with
     |zero=>cases hd
     |succ m=>
      have hl:=inv l (fun l=> .ds l off len esz) (fun x y q=>by cases q;rfl) m hd;show(match h.objs.get o with|some (.cells _ l)=>(match aK m h l with|some l=>some (AV.ds l off len esz)|none=>none)|_=>none)=_;split at e2
      ·rename_i v c hc;rw[(ih m).2 c l e2 hl]
      ·cases e2
    |_=>cases e
   |ag l=>
    cases d with
    |ag l'=>
     have e2:wg n h l l'=true:=e;cases m with
     |zero=>cases hd
     |succ m=>
      have hl:=inv l' .ag (fun x y q=>by cases q;rfl) m hd;show(match aK m h l with|some l=>some (AV.ag l)|none=>none)=_;rw[(ih m).2 l l' e2 hl]
    |_=>cases e
   |tu l=>
    cases d with
    |tu l'=>
     have e2:wg n h l l'=true:=e;cases m with
     |zero=>cases hd
     |succ m=>
      have hl:=inv l' .tu (fun x y q=>by cases q;rfl) m hd;show(match aK m h l with|some l=>some (AV.tu l)|none=>none)=_;rw[(ih m).2 l l' e2 hl]
    |_=>cases e
   |_=>exact same (n+1) m _ d (by simpa only[zq] using e) hd
  exact⟨H,lists _ _ H⟩
def EZ:Nat ->AV ->Bool
 |_,.p .. |_,.sl .. |0,.ag _|0,.tu _=>false
 |n+1,.ag l=>List.rec (motive:=fun _=>Bool) true (fun a _ ih=>EZ n a&&ih) l
 |n+1,.tu l=>List.rec (motive:=fun _=>Bool) true (fun a _ ih=>EZ n a&&ih) l
 |_,_=>true
def E0 (n:Nat) (l:List AV):Bool:=List.rec (motive:=fun _=>Bool) true (fun a _ ih=>EZ n a&&ih) l
def Tb {h:AH}:∀n m,(∀a d,EZ n a=true ->zq m h a d=true ->a=d)/\ (∀l d,E0 n l=true ->wg m h l d=true ->l=d):=by
 have lists:∀n m,(∀a d,EZ n a=true ->zq m h a d=true ->a=d) ->(∀l d,E0 n l=true ->wg m h l d=true ->l=d):=fun n m H l=>by
  induction l with
  |nil=>intro d _ e;rw[AZ e]
  |cons a l ih=>
   intro d s e;obtain⟨b,r,rfl,e1,e2⟩:=yR e;obtain⟨s1,s2⟩:=lV.1 (show(EZ n a&&E0 n l)=true from s);rw[H a b s1 e1,ih r s2 e2]
 intro n;induction n with
 |zero=>
  intro m;have H:∀a d,EZ 0 a=true ->zq m h a d=true ->a=d:=fun a d s e=>by
   cases m with
   |zero=>exact ju _ _ _ (by simpa only[zq] using e)
   |succ m=>cases a<;>first|(cases s;done)|exact ju _ _ _ (by simpa only[zq] using e)
  exact⟨H,lists 0 m H⟩
 |succ n ih=>
  intro m;have H:∀a d,EZ (n+1) a=true ->zq m h a d=true ->a=d:=fun a d s e=>by
   cases m with
   |zero=>exact ju _ _ _ (by simpa only[zq] using e)
   |succ m=>
    cases a with
    |p o off=>cases s
    |sl o off len cap esz=>cases s
    |ag l=>
     cases d with
     |ag l'=>rw[(ih m).2 l l' s e]
     |_=>cases e
    |tu l=>
     cases d with
     |tu l'=>rw[(ih m).2 l l' s e]
     |_=>cases e
    |_=>exact ju _ _ _ (by simpa only[zq] using e)
  exact⟨H,lists _ m H⟩
def wi:Nat ->AV ->Bool
 |_,.b _|_,.i _ _|_,.s _|_,.pn|_,.sn|_,.mn|_,.fnil|_,.ifn|_,.un=>true
 |n+1,.dp l _|n+1,.ds l _ _ _|n+1,.ag l|n+1,.tu l=>List.rec (motive:=fun _=>Bool) true (fun a _ ih=>wi n a&&ih) l
 |n+1,.ifc _ v=>wi n v
 |n+1,.f _ a b=>List.rec (motive:=fun _=>Bool) true (fun a _ ih=>wi n a&&ih) a&&List.rec (motive:=fun _=>Bool) true (fun a _ ih=>wi n a&&ih) b
 |_,_=>false
def yU (n:Nat) (l:List AV):Bool:=List.rec (motive:=fun _=>Bool) true (fun a _ ih=>wi n a&&ih) l
def A0:∀n,(∀d,wi n d=true ->aH n h0 d=some d)/\ (∀l,yU n l=true ->aK n h0 l=some l):=by
 have lists:∀n,(∀d,wi n d=true ->aH n h0 d=some d) ->(∀l,yU n l=true ->aK n h0 l=some l):=fun n H l=>by
  induction l with
  |nil=>intro _;rfl
  |cons a l ih=>
   intro s;obtain⟨s1,s2⟩:=lV.1 (show(wi n a&&yU n l)=true from s);rw[af,H a s1,ih s2]
 intro n;induction n with
 |zero=>
  have H:∀d,wi 0 d=true ->aH 0 h0 d=some d:=fun d e=>by cases d<;>first|rfl|cases e
  exact⟨H,lists 0 H⟩
 |succ n ih=>
  have H:∀d,wi (n+1) d=true ->aH (n+1) h0 d=some d:=fun d e=>by
   cases d with
   |dp l o=>show(match aK n h0 l with|some l=>some (AV.dp l o)|none=>none)=_;rw[ih.2 l e]
   |ds l o k z=>show(match aK n h0 l with|some l=>some (AV.ds l o k z)|none=>none)=_;rw[ih.2 l e]
   |ag l=>show(match aK n h0 l with|some l=>some (AV.ag l)|none=>none)=_;rw[ih.2 l e]
   |tu l=>show(match aK n h0 l with|some l=>some (AV.tu l)|none=>none)=_;rw[ih.2 l e]
   |ifc t v=>show(match aH n h0 v with|some v=>some (AV.ifc t v)|none=>none)=_;rw[ih.1 v e]
   |f g a b=>
    obtain⟨e1,e2⟩:=lV.1 (show(yU n a&&yU n b)=true from e);show(match aK n h0 a,aK n h0 b with|some a,some b=>some (AV.f g a b)|_,_=>none)=_;rw[ih.2 a e1,ih.2 b e2]
   |_=>first|rfl|cases e
  exact⟨H,lists _ H⟩
structure cD where
 a:List AV
 d:AV
def vz:Nat ->AH ->List Nat ->List AV ->List Nat
 |0,_,acc,_=>acc
 |n+1,h,acc,l=>List.rec (motive:=fun _=>List Nat ->List Nat) (fun acc=>acc) (fun v _ ih acc=>ih (match v with
  | .p o _=>match h.objs.get o with|some (.cells _ c)=>vz n h (o::acc) c|_=>acc
  | .sl o _ _ _ _=>match h.objs.get o with|some (.cells _ c)=>vz n h (o::acc) c|_=>acc
  | .ag c=>vz n h acc c
  | .tu c=>vz n h acc c
  |_=>acc)) l acc
section
variable {R:Type}
def Tc (e:cD) (a:List AV) (h:AH) (k:AV ->AH ->R) (nx:R):R:=
 bif wg 20 h a e.a then
  bif E0 20 a then k e.d h else bif oJ 6 e.d then k e.d h else
   match vz 20 h [] a with
   |l=>bif wg 20 (pZ h l) a e.a then k e.d (Cr h l) else nx
 else nx
def CJ (a:List AV) (h:AH) (k:AV ->AH ->R) (nx:R) (l:List cD):R:=List.rec (motive:=fun _=>R) nx (fun e _ ih=>Tc e a h k ih) l
end
section
variable {P:Program} {X:dy} {GL:T (List AV)} {fns:T aR}
def rJ (P:Program) (X:dy) (GL:T (List AV)) (fns:T aR) (f:Nat) (e:cD):Prop:=aZ P X GL fns f e.a e.d/\ aK 30 h0 e.a=some e.a
def Td (S:aw P X GL fns) {f:Nat} {e:cD} (he:rJ P X GL fns f e) {a:List AV} {h:AH} {R:Type} {Tr:R ->Prop} {kb:AV ->AH ->R} {nx:R} (hr:Tr (Tc e a h kb nx)):
 (∃v h',Tr (kb v h')/\ dq P X GL f a h v h')∨Tr nx:=by
 unfold Tc at hr;cases h1:wg 20 h a e.a with
 |false=>rw[h1] at hr;exact .inr hr
 |true=>
  rw[h1,cond_true] at hr;cases h2:E0 20 a with
  |true=>
   rw[h2,cond_true] at hr;have ea:=(Tb (h:=h) 20 20).2 a e.a h2 h1;rw[ea];exact .inl ⟨e.d,h,hr,aE S he.1 he.2 h⟩
  |false=>
   rw[h2,cond_false] at hr;cases h3:oJ 6 e.d with
   |true=>
    rw[h3,cond_true] at hr;exact .inl ⟨e.d,h,hr,fP S he.1 ((yT 20 30).2 a e.a h1 he.2) h3⟩
   |false=>
    rw[h3,cond_false] at hr;dsimp only at hr;cases h4:wg 20 (pZ h (vz 20 h [] a)) a e.a with
    |false=>rw[h4] at hr;exact .inr hr
    |true=>
     rw[h4,cond_true] at hr;exact .inl ⟨e.d,_,hr,oQ S he.1 ((yT 20 30).2 a e.a h4 he.2)⟩
def A3 (S:aw P X GL fns) {f:Nat}:∀{l:List cD},(∀e∈l,rJ P X GL fns f e) ->∀{a:List AV} {h:AH} {R:Type} {Tr:R ->Prop} {kb:AV ->AH ->R} {nx:R},Tr (CJ a h kb nx l) ->
 (∃v h',Tr (kb v h')/\ dq P X GL f a h v h')∨Tr nx
 |[],_,a,h,R,Tr,kb,nx,hr=> .inr hr
 |e::l,he,a,h,R,Tr,kb,nx,hr=>by
  rcases Td S (he e (by simp)) (show Tr (Tc e a h kb (CJ a h kb nx l)) from hr) with h1|h1
  ·exact .inl h1
  ·exact A3 S (fun e q=>he e (by simp[q])) h1
def Jq (P:Program) (X:dy) (GL:T (List AV)) (bi:Nat ->List AV ->AH ->Option (AV×AH)):Prop:=∀f a h v h',bi f a h=some (v,h') ->dq P X GL f a h v h'
def Jr (P:Program) (X:dy) (GL:T (List AV)) (fns:T aR) (tb:T (List cD)):Prop:=∀f l,tb.get f=some l ->∀e∈l,rJ P X GL fns f e
def Vg (a b:List Bool ->Bool):List Bool ->Bool
 |[]=>a []&&b []
 |true::p=>a p
 |false::p=>b p
inductive Cov where
 |leaf
 |node (l r:Cov)
def XA:Cov ->(List Bool ->Bool) ->Prop
 | .leaf,r=>r []=true
 | .node a b,r=>XA a (fun p=>r (true::p))/\ XA b (fun p=>r (false::p))
def YA (r:List Bool ->Bool):Prop:=∃c,XA c r
def HM:∀c,¬XA c (fun _=>false)
 | .leaf,h=>Bool.noConfusion h
 | .node a _,h=>HM a h.1
def wU {b:Bool}:∀{c:Cov} {r:List Bool ->Bool},XA c (fun p=>r p&&b) ->XA c r/\ b=true
 | .leaf,_,h=>lV.1 h
 | .node _ _,_,h=>⟨⟨(wU h.1).1,(wU h.2).1⟩,(wU h.1).2⟩
def K9 {b:Bool} (h:YA fun _=>b):b=true:=by
 cases b with
 |true=>rfl
 |false=>obtain⟨c,h⟩:=h;exact(HM c h).elim
def QC {a b:List Bool ->Bool} (h:YA (Vg a b)):YA a/\ YA b:=by
 obtain⟨c,h⟩:=h;cases c with
 |leaf=>exact⟨⟨.leaf,(lV.1 h).1⟩,⟨.leaf,(lV.1 h).2⟩⟩
 |node l r=>exact⟨⟨l,h.1⟩,⟨r,h.2⟩⟩
def QD (GL:T (List AV)) (bt:T aR) (bi:Nat ->List AV ->AH ->Option (AV×AH)) (tb:T (List cD)):cQ (List Bool ->Bool) where
 fns:=bt
 glob:=GL
 spec:=fun f a h k fb=>match tb.get f with
  |some l=>CJ a h k fb l
  |none=>match bi f a h with
   |some r=>k r.1 r.2
   |none=>fb
 fail:=fun _=>false
 both:=Vg
def HN (GL:T (List AV)) (bt:T aR) (bi:Nat ->List AV ->AH ->Option (AV×AH)) (tb:T (List cD)) (n f:Nat) (e:cD) (p:List Bool):Bool:=
 iV (QD GL bt bi tb) (run (QD GL bt bi tb) n) f e.a h0 (fun x h _=>zq 20 h x e.d) p&&(wi 30 e.d&&yU 30 e.a)
def QE (S:aw P X GL fns) {bt:T aR} {bi:Nat ->List AV ->AH ->Option (AV×AH)} {tb:T (List cD)} (hs:∀f m,bt.get f=some m ->fns.get f=some m) (hb:Jq P X GL bi) (ht:Jr P X GL fns tb) {n f:Nat} {e:cD} {c:Cov}
 (hr:XA c (HN GL bt bi tb n f e)):rJ P X GL fns f e:=by
 obtain⟨hr,h1⟩:=wU hr;obtain⟨h1,h2⟩:=lV.1 h1;have hB:BP YA (QD GL bt bi tb) (BN P X GL fns):={
  fns:=hs
  glob:=rfl
  fail:=fun ⟨c,h⟩=>HM c h
  both:=fun _ _ h=>QC h
  both':=fun _ _=>rfl
  spec:=fun f a h kb kp fb fp h1 h2 h3=>by
   show(∃v h',kp v h'/\ dq P X GL f a h v h')∨fp;have h3':YA (match tb.get f with
    |some l=>CJ a h kb fb l
    |none=>match bi f a h with
     |some r=>kb r.1 r.2
     |none=>fb):=h3
   cases hv:tb.get f with
   |some l=>
    rw[hv] at h3';rcases A3 S (ht f l hv) h3' with ⟨v,h',q1,q2⟩|q
    ·exact .inl ⟨v,h',h1 _ _ q1,q2⟩
    ·exact .inr (h2 q)
   |none=>
    rw[hv] at h3';dsimp only at h3';cases hq:bi f a h with
    |none=>rw[hq] at h3';exact .inr (h2 h3')
    |some r=>rw[hq] at h3';exact .inl ⟨r.1,r.2,h1 _ _ h3',hb f a h r.1 r.2 hq⟩ }
 refine⟨⟨n,tW hB (OP hB n) f e.a h0 _ _ (fun x h hx=> ?_) ⟨c,hr⟩⟩,(A0 30).2 _ h2⟩;exact⟨30,(yT 20 30).1 x e.d (K9 hx) ((A0 30).1 _ h1)⟩
end
def aB4 (a:MA) (ev:MA ->AV) (h:AH):bj:=fV (ev a) fun x=> .v x h
def XF (c:MA) (a:MA) (b:MA) (ev:MA ->AV) (h:AH):bj:=match ev c with| .b x=>Bool.rec (motive:=fun _=>bj) (fV (ev b) fun x=> .v x h) (fV (ev a) fun x=> .v x h) x|_=> .bad
def Tf (z:List AV) (ev:MA ->AV) (h:AH):bj:=h.new (.cells h.ver z) fun o h=> .v (.p o 0) h
def ag6 (a:MA) (u1:Nat) (ev:MA ->AV) (h:AH):bj:=match cellsO (ev a) with|some l=>h.new (.cells h.ver l) fun o h=> .v (.p o 0) h|none=> .bad
def Tg (z:List AV) (ps:List (Nat×Nat×MA)) (ev:MA ->AV) (h:AH):bj:=match gk ev ps z with|some l=> .v (.ag l) h|none=> .bad
def QM (z:List AV) (n:Nat) (esz:Nat) (ps:List (Nat×Nat×MA)) (ev:MA ->AV) (h:AH):bj:=match gk ev ps z with
 |some l=>h.new (.cells h.ver l) fun o h=> .v (.sl o 0 n (some n) esz) h
 |none=> .bad
def XG (a:MA) (n:Nat) (agg:Bool) (ev:MA ->AV) (h:AH):bj:=match ev a with
 | .p o off=>match h.cells o with
  |some l=>match sub l off n with|some c=>ig h (iQ agg c)|none=> .bad
  |none=> .bad
 | .dp l off=>match sub l off n with|some c=>ig h (iQ agg c)|none=> .bad
 |_=> .bad
def Th (a:MA) (x:MA) (n:Nat) (ev:MA ->AV) (h:AH):bj:=match ev a with
 | .p o off=>match h.cells o with
  |some l=>fV (ev x) fun x=>match bD (cellsOf x) l off with
   |some l'=>bif cE (cellsOf x)&&Nat.beq (len (cellsOf x)) n then h.put o (.cells (Nat.succ h.ver) l') fun h=> .v .un h else .bad
   |none=> .bad
  |none=> .bad
 |_=> .bad
def XH (a:MA) (ev:MA ->AV) (h:AH):bj:=match ev a with
 | .p o a=> .v (.p o a) h
 | .dp l a=> .v (.dp l a) h
 | .f g a b=> .v (.f g a b) h
 | .y l=> .v (.y l) h
 | .ifc t v=> .v (.ifc t v) h
 | .m o=> .v (.m o) h
 |_=> .bad
def ag7 (op:BinOp) (x:MA) (y:MA) (ev:MA ->AV) (h:AH):bj:=ig h (aV op (ev x) (ev y))
def ag8 (ne:Bool) (e:ET) (x:MA) (y:MA) (ev:MA ->AV) (h:AH):bj:=match fS 6 e (ev x) (ev y) with|some r=> .v (.b (bif ne then !r else r)) h|none=> .bad
def aB5 (op:UnOp) (x:MA) (ev:MA ->AV) (h:AH):bj:=ig h (Tu op (ev x))
def ag9 (k:IntKind) (x:MA) (ev:MA ->AV) (h:AH):bj:=match ev x with| .i _ n=>ig h (ri k (bT k n))|_=> .bad
def ah0 (x:MA) (ev:MA ->AV) (h:AH):bj:=match ev x with| .s l=> .v (.s l) h|_=> .bad
def ah1 (x:MA) (ev:MA ->AV) (h:AH):bj:=match ev x with
 | .s l=>match fC (fun b=>some (AV.i .u8 (.ofNat b))) l with
  |some c=>fN (len l) fun n=>h.new (.cells h.ver c) fun o h=> .v (.sl o 0 n none 1) h
  |none=> .bad
 |_=> .bad
def ah2 (x:MA) (ev:MA ->AV) (h:AH):bj:=match ev x with
 | .s _=> .bad
 |y=>match cR h 1 y with
  |some l=>match gE l with|some b=> .v (.s b) h|none=> .bad
  |none=> .bad
def ah3 (t:TypeId) (x:MA) (ev:MA ->AV) (h:AH):bj:=fV (ev x) fun x=> .v (.ifc t x) h
def ah4 (fn:Nat) (a:List MA) (b:List MA) (ev:MA ->AV) (h:AH):bj:=match kK ev a,kK ev b with|some a,some b=> .v (.f fn a b) h|_,_=> .bad
def XI (r:Option MA) (ev:MA ->AV) (h:AH):bj:=match r with
 |none=>h.new (.map h.ver [] 0) fun o h=> .v (.m o) h
 |some a=>match ev a with| .i _ _=>h.new (.map h.ver [] 0) fun o h=> .v (.m o) h|_=> .bad
def QN (z:List AV) (esz:Nat) (u2:Nat) (l:MA) (c:MA) (ev:MA ->AV) (h:AH):bj:=match nA ev l,nA ev c with
 |some l,some c=>bif Nat.ble l c&&Nat.ble c 1048576 then (match y8 z c with
  |some r=>h.new (.cells h.ver r) fun o h=> .v (.sl o 0 l (some c) esz) h
  |none=> .bad) else .bad
 |_,_=> .bad
def ah5 (es:Nat) (x:MA) (lo:Option MA) (hi:Option MA) (mx:Option MA) (ev:MA ->AV) (h:AH):bj:=match ev x with
 | .sl o off n cap esz=>bif !(Nat.beq esz es) then .bad else match cap with
  |some c=>match bI n c (nO ev lo) (nO ev hi) (nO ev mx) with
   |some (l,r,m)=>fN (off+l*esz) fun off=>fN (r-l) fun n=>fN (m-l) fun c=> .v (.sl o off n (some c) esz) h
   |none=> .bad
  |none=>match mx with
   |none=>match bI n n (nO ev lo) (nO ev hi) none with
    |some (l,r,_)=>fN (off+l*esz) fun off=>fN (r-l) fun n=> .v (.sl o off n none esz) h
    |none=> .bad
   |some mx=>match bI n n (nO ev lo) (nO ev hi) (nO ev (some mx)) with
    |some (l,r,m)=>fN (off+l*esz) fun off=>fN (r-l) fun n=>fN (m-l) fun c=> .v (.sl o off n (some c) esz) h
    |none=> .bad
 | .ds c off n esz=>bif !(Nat.beq esz es) then .bad else match mx with
  |none=>match bI n n (nO ev lo) (nO ev hi) none with
   |some (l,r,_)=>fN (off+l*esz) fun off=>fN (r-l) fun n=> .v (.ds c off n esz) h
   |none=> .bad
  |some _=> .bad
 | .sn=>match bI 0 0 (nO ev lo) (nO ev hi) (nO ev mx) with|some _=> .v .sn h|none=> .bad
 |_=> .bad
def XJ (x:MA) (lo:Option MA) (hi:Option MA) (ev:MA ->AV) (h:AH):bj:=match ev x with
 | .s s=>match bI (len s) (len s) (nO ev lo) (nO ev hi) none with
  |some (l,r,_)=>match sub s l (r-l) with|some t=> .v (.s t) h|none=> .bad
  |none=> .bad
 |_=> .bad
def XK (n:Nat) (esz:Nat) (x:MA) (lo:Option MA) (hi:Option MA) (mx:Option MA) (ev:MA ->AV) (h:AH):bj:=match bI n n (nO ev lo) (nO ev hi) (nO ev mx) with
 |some (l,r,m)=>match ev x with
  | .p o off=>match h.cells o with
   |some cs=>match sub cs off (n*esz) with
    |some _=>fN (off+l*esz) fun off=>fN (r-l) fun n=>fN (m-l) fun c=> .v (.sl o off n (some c) esz) h
    |none=> .bad
   |none=> .bad
  | .dp c off=>fN (off+l*esz) fun off=>fN (r-l) fun n=> .v (.ds c off n esz) h
  |_=> .bad
 |none=> .bad
def XL (x:MA) (off:Nat) (ev:MA ->AV) (h:AH):bj:=match ev x with
 | .p o a=>fN (a+off) fun a=> .v (.p o a) h
 | .dp l a=>fN (a+off) fun a=> .v (.dp l a) h
 |_=> .bad
def ah6 (x:MA) (off:Nat) (n:Nat) (agg:Bool) (ev:MA ->AV) (h:AH):bj:=match ev x with
 | .ag l=>match sub l off n with|some c=>ig h (iQ agg c)|none=> .bad
 |_=> .bad
def XM (es:Nat) (x:MA) (i:MA) (ev:MA ->AV) (h:AH):bj:=match nA ev i with
 |some k=>match ev x with
  | .sl o off n _ esz=>bif Nat.beq esz es&&Nat.ble (Nat.succ k) n then fN (off+k*esz) fun a=> .v (.p o a) h else .bad
  | .ds l off n esz=>bif Nat.beq esz es&&Nat.ble (Nat.succ k) n then fN (off+k*esz) fun a=> .v (.dp l a) h else .bad
  |_=> .bad
 |none=> .bad
def Ti (n:Nat) (esz:Nat) (x:MA) (i:MA) (ev:MA ->AV) (h:AH):bj:=match nA ev i with
 |some k=>bif Nat.ble (Nat.succ k) n then (match ev x with
  | .p o off=>fN (off+k*esz) fun a=> .v (.p o a) h
  | .dp l off=>fN (off+k*esz) fun a=> .v (.dp l a) h
  |_=> .bad) else .bad
 |none=> .bad
def XN (x:MA) (i:MA) (ev:MA ->AV) (h:AH):bj:=match nA ev i,ev x with
 |some k,.s l=>match CT l k with|some b=> .v (.i .u8 (.ofNat b)) h|none=> .bad
 |_,_=> .bad
def XO (n:Nat) (esz:Nat) (agg:Bool) (x:MA) (i:MA) (ev:MA ->AV) (h:AH):bj:=match nA ev i,ev x with
 |some k,.ag l=>bif Nat.ble (Nat.succ k) n then (match sub l (k*esz) esz with|some c=>ig h (iQ agg c)|none=> .bad) else .bad
 |_,_=> .bad
def XP (et:ET) (m:MA) (k:MA) (z:AV) (ok:Bool) (ev:MA ->AV) (h:AH):bj:=bif !(nG et (ev k)) then .bad else
 match (match ev m with
  | .mn=>some none
  | .m o=>match h.get o with|some (.map _ es _)=>iM et (ev k) es|_=>none
  |_=>none) with
 |some (some e)=>Bool.rec (motive:=fun _=>bj) (.v e.2.1 h) (.v (.tu [e.2.1,.b true]) h) ok
 |some none=>Bool.rec (motive:=fun _=>bj) (.v z h) (.v (.tu [z,.b false]) h) ok
 |none=> .bad
def XQ (et:ET) (m:MA) (k:MA) (x:MA) (ev:MA ->AV) (h:AH):bj:=bif !(nG et (ev k)) then .bad else match ev m with
 | .m o=>match h.get o with
  |some (.map _ es cl)=>fV (ev k) fun k=>fV (ev x) fun x=>match iM et k es with
   |some (some e)=>bif nH k e.1 then (match qP e.2.2 k x es with
    |some es=>h.put o (.map (Nat.succ h.ver) es cl) fun h=> .v .un h
    |none=> .bad) else .bad
   |some none=>match gK es [(k,x,cl)] with
    |some es=>fN cl fun cl=>h.put o (.map (Nat.succ h.ver) es (Nat.succ cl)) fun h=> .v .un h
    |none=> .bad
   |none=> .bad
  |_=> .bad
 |_=> .bad
def XR (et:ET) (m:MA) (k:MA) (z:AV) (ev:MA ->AV) (h:AH):bj:=bif !(nG et (ev k)) then .bad else match ev m with
 | .m o=>match h.get o with
  |some (.map _ es cl)=>fV (ev k) fun k=>match iM et k es with
   |some (some e)=>bif nH k e.1 then (match qP e.2.2 k e.2.1 es with
    |some es=>h.put o (.map (Nat.succ h.ver) es cl) fun h=> .v (.tu [e.2.1,.i .i64 (.ofNat e.2.2)]) h
    |none=> .bad) else .bad
   |some none=>match gK es [(k,z,cl)] with
    |some es=>fN cl fun cl=>h.put o (.map (Nat.succ h.ver) es (Nat.succ cl)) fun h=> .v (.tu [z,.i .i64 (.ofNat cl)]) h
    |none=> .bad
   |none=> .bad
  |_=> .bad
 |_=> .bad
def XS (m:MA) (s:MA) (x:MA) (ev:MA ->AV) (h:AH):bj:=match ev m,nA ev s with
 | .m o,some b=>match h.get o with
  |some (.map _ es cl)=>fV (ev x) fun x=>match sV b es with
   |some e=>match qP b e.1 x es with
    |some es=>h.put o (.map (Nat.succ h.ver) es cl) fun h=> .v .un h
    |none=> .bad
   |none=> .bad
  |_=> .bad
 |_,_=> .bad
def ah7 (x:MA) (str:Bool) (ev:MA ->AV) (h:AH):bj:=match ev x with
 | .s l=>bif str then h.new (.sit l 0) fun o h=> .v (.p o 0) h else .bad
 | .mn=>bif str then .bad else h.new (.mit none 0 [] 0) fun o h=> .v (.p o 0) h
 | .m o=>bif str then .bad else match h.get o with
  |some (.map _ _ cl)=>h.new (.mit (some o) cl [] cl) fun o h=> .v (.p o 0) h
  |_=> .bad
 |_=> .bad
def ah8 (x:MA) (hM:Bool) (ev:MA ->AV) (h:AH):bj:=match ev x with
 | .p o off=>bif Nat.beq off 0 then Fu h o hM else .bad
 |_=> .bad
def ah9 (x:MA) (ev:MA ->AV) (h:AH):bj:=match ev x with
 | .p o off=>bif Nat.beq off 0 then Fv h o else .bad
 |_=> .bad
def ai0 (x:MA) (t:TypeId) (ok:Bool) (z:AV) (ev:MA ->AV) (h:AH):bj:=match ev x with
 | .ifc u y=>bif Nat.beq u t then Bool.rec (motive:=fun _=>bj) (.v y h) (.v (.tu [y,.b true]) h) ok else bif ok then .v (.tu [z,.b false]) h else .bad
 | .ifn=>bif ok then .v (.tu [z,.b false]) h else .bad
 |_=> .bad
def ai1 (x:MA) (i:Nat) (ev:MA ->AV) (h:AH):bj:=match ev x with| .tu l=>ig h (CT l i)|_=> .bad
def XT (f:Nat) (args:List MA) (ev:MA ->AV) (h:AH):bj:=match kK ev args with|some l=> .call f l h|none=> .bad
def Tj (f:MA) (args:List MA) (ev:MA ->AV) (h:AH):bj:=match kK ev args with
 |some l=>match ev f with
  | .f g fi ca=>match gK l ca with
   |some l=>match gK fi l with|some l=> .call g l h|none=> .bad
   |none=> .bad
  | .y o=> .yld o l h
  |_=> .bad
 |none=> .bad
def Tk (r:MA) (tbl:List (Nat×Nat)) (args:List MA) (ev:MA ->AV) (h:AH):bj:=match ev r,kK ev args with
 | .ifc t x,some l=>match zD t tbl with|some f=> .call f (x::l) h|none=> .bad
 |_,_=> .bad
def ai2 (s:MA) (x:MA) (esz:Nat) (u3:Nat) (ev:MA ->AV) (h:AH):bj:=match eI (ev x),cR h esz (ev x) with
 |some n,some l=>eH h (ev s) n l esz
 |_,_=> .bad
def XU (s:MA) (x:MA) (esz:Nat) (u4:Nat) (z:List AV) (ev:MA ->AV) (h:AH):bj:=match ev s,nA ev x with
 | .sn,some (n+1)=>bif Nat.ble n 1000000 then (match y8 z (Nat.succ n) with
  |some r=>h.new (.cells h.ver r) fun o h=> .v (.sl o 0 (Nat.succ n) none esz) h
  |none=> .bad) else .bad
 |_,_=> .bad
def ai3 (k:YE) (x:MA) (ev:MA ->AV) (h:AH):bj:=match k with
 | .str=>match ev x with| .s l=>fN (len l) fun n=> .v (ι (.ofNat n)) h|_=> .bad
 | .arr n=> .v (ι (.ofNat n)) h
 | .slice=>match ev x with
  | .s _=> .bad
  |y=>match eI y with|some n=> .v (ι (.ofNat n)) h|none=> .bad
 | .map=>match ev x with
  | .mn=> .v (ι (.ofNat 0)) h
  | .m o=>match h.get o with|some (.map _ es _)=>fN (len es) fun n=> .v (ι (.ofNat n)) h|_=> .bad
  |_=> .bad
def ai4 (x:MA) (ev:MA ->AV) (h:AH):bj:=match ev x with
 | .sn=> .v (ι (.ofNat 0)) h
 | .sl _ _ _ (some c) _=> .v (ι (.ofNat c)) h
 |_=> .bad
def XV (d:MA) (s:MA) (esz:Nat) (ev:MA ->AV) (h:AH):bj:=match eI (ev s) with
 |some b=>match ev d with
  | .sl o off a _ _=>match cR h esz (ev s),h.cells o with
   |some l,some cs=>fN (bif Nat.ble a b then a else b) fun n=>
    match zC l (n*esz) with
    |some c=>match bD c cs off with
     |some cs'=>bif cE c then h.put o (.cells (Nat.succ h.ver) cs') fun h=> .v (ι (.ofNat n)) h else .bad
     |none=> .bad
    |_=> .bad
   |_,_=> .bad
  | .sn=> .v (ι (.ofNat 0)) h
  |_=> .bad
 |_=> .bad
def ai5 (l:List MA) (ev:MA ->AV) (h:AH):bj:=match kK ev l with|some (.i k a::r)=>ig h (mJ gO k r a)|_=> .bad
def ai6 (l:List MA) (ev:MA ->AV) (h:AH):bj:=match kK ev l with|some (.i k a::r)=>ig h (mJ (fun x y=>gO y x) k r a)|_=> .bad
def ai7 (et:ET) (m:MA) (k:MA) (ev:MA ->AV) (h:AH):bj:=bif !(nG et (ev k)) then .bad else match ev m with
 | .mn=> .v (.tu []) h
 | .m o=>match h.get o with
  |some (.map _ es cl)=>match iM et (ev k) es with
   |some (some e)=>match YF e.2.2 es with
    |some es=>h.put o (.map (Nat.succ h.ver) es cl) fun h=> .v (.tu []) h
    |none=> .bad
   |some none=> .v (.tu []) h
   |none=> .bad
  |_=> .bad
 |_=> .bad
def ai8 (T:Nat) (z:List AV) (ev:MA ->AV) (h:AH):bj:=h.new (.tc T true z) fun o h=> .v (.p o 0) h
def ai9 (T:Nat) (a:MA) (ev:MA ->AV) (h:AH):bj:=match cellsO (ev a) with|some l=>h.new (.tc T true l) fun o h=> .v (.p o 0) h|none=> .bad
def aj0 (a:MA) (x:MA) (n:Nat) (ev:MA ->AV) (h:AH):bj:=match ev a with
 | .p o off=>match h.get o with
  |some (.tc T wh l)=>fV (ev x) fun x=>match bD (cellsOf x) l off with
   |some l'=>bif cE (cellsOf x)&&Nat.beq (len (cellsOf x)) n then h.put o (.tc T wh l') fun h=> .v .un h else .bad
   |none=> .bad
  |some (.cells _ l)=>fV (ev x) fun x=>match bD (cellsOf x) l off with
   |some l'=>bif cE (cellsOf x)&&Nat.beq (len (cellsOf x)) n then h.put o (.cells 0 l') fun h=> .v .un h else .bad
   |none=> .bad
  |_=> .bad
 |_=> .bad
def aj1 (a:MA) (n:Nat) (agg:Bool) (ev:MA ->AV) (h:AH):bj:=match ev a with
 | .p o off=>match h.rows o with
  |some l=>match sub l off n with|some c=>ig h (iQ agg c)|none=> .bad
  |none=> .bad
 | .dp l off=>match sub l off n with|some c=>ig h (iQ agg c)|none=> .bad
 |_=> .bad
def aj2 (T:Nat) (s:MA) (x:MA) (esz:Nat) (u5:Nat) (ev:MA ->AV) (h:AH):bj:=match eI (ev x),cR h esz (ev x) with
 |some n,some l=>Fq h T (ev s) n l esz
 |_,_=> .bad
def aj3 (x:MA) (ev:MA ->AV) (h:AH):bj:=match ev x with
 | .p o off=>match h.get o with
  |some (.tc _ _ l)=>bif Nat.ble (Nat.succ off) (len l) then .v (.p o off) h else .bad
  |_=> .bad
 |_=> .bad
def aj4 (tbl:List (Nat×Nat×Nat)) (x:MA) (ev:MA ->AV) (h:AH):bj:=match ev x with
 | .p o off=>match h.get o with
  |some (.tc T true l)=>bif CU T (len l) off tbl then .v (.p o off) h else .bad
  |_=> .bad
 |_=> .bad
def aj5 (x:MA) (ev:MA ->AV) (h:AH):bj:=match ev x with
 | .sn=> .v .pn h
 | .sl o off (n+1) c e=> .v (.p o off) h
 |_=> .bad
def aj6 (T:Nat) (p:MA) (n:MA) (ev:MA ->AV) (h:AH):bj:=match ev n with
 | .i .i64 (.ofNat 0)=>(match ev p with| .pn=> .v (.s []) h|_=> .bad)
 | .i .i64 (.ofNat (n+1))=>(match ev p with
  | .p o 0=>match h.get o with
   |some (.tc T' _ l)=>bif Nat.beq T' T&&Nat.ble n 1048576 then (match sub l 0 (Nat.succ n) with
    |some c=>match gE c with
     |some b=>h.put o .gone fun h=> .v (.s b) h
     |none=> .bad
    |none=> .bad) else .bad
   |_=> .bad
  |_=> .bad)
 |_=> .bad
def aj7 (u6:Nat) (ev:MA ->AV) (h:AH):bj:= .bad
def E1 (op:xc):(MA ->AV) ->AH ->bj:=xc.rec (motive:=fun _=>(MA ->AV) ->AH ->bj) aB4 XF Tf ag6 Tg QM XG Th XH ag7 ag8 aB5 ag9 ah0 ah1 ah2 ah3 ah4 XI QN ah5 XJ XK XL ah6 XM Ti XN XO XP XQ XR XS ah7 ah8 ah9 ai0 ai1 XT Tj Tk ai2 XU ai3 ai4 XV ai5 ai6 ai7 ai8 ai9 aj0 aj1 aj2 aj3 aj4 aj5 aj6 aj7 op
def yV {ev:MA ->AV} {h:AH} (op:xc):E1 op ev h=step ev h op:=by cases op<;>rfl
section
variable {R:Type} (C:cQ R)
def Tl (callK yldK:Nat ->List AV ->AH ->(AV ->AH ->R) ->R) (op:xc) (τ:T AV) (h:AH) (k:AV ->AH ->R):R:=
 bj.rec (motive:=fun _=>R) (fun x h=>k x h) (fun f args h=>callK f args h k) (fun l args h=>yldK l args h k) (fun l=>iU C k l) C.fail (E1 op (bp C τ) h)
def aB6 (act:R) (q:Nat×Bool) (τ:T AV) (h:AH) (k:AV ->AH ->R):R:=
 match τ.get q.1 with
  |some (.b x)=>Bool.rec (motive:=fun _=>R) (k (.tu []) h) act (bif x then q.2 else !q.2)
  |some (.tu [])=>k (.tu []) h
  |_=>C.fail
def vA (callK yldK:Nat ->List AV ->AH ->(AV ->AH ->R) ->R) (g:MG) (τ:T AV) (h:AH) (k:AV ->AH ->R):R:=
 Option.rec (motive:=fun _=>R) (Tl C callK yldK g.op τ h k) (fun q=>aB6 C (Tl C callK yldK g.op τ h k) q τ h k) g.guard
def A5 (callK yldK:Nat ->List AV ->AH ->(AV ->AH ->R) ->R) (g:MG) (τ:T AV) (h:AH) (k:AV ->AH ->R):vA C callK yldK g τ h k=dg C callK yldK g τ h k:=by
 have ha:Tl C callK yldK g.op τ h k=(match step (bp C τ) h g.op with
  | .v x h=>k x h
  | .call f args h=>callK f args h k
  | .yld l args h=>yldK l args h k
  | .alts l=>iU C k l
  | .bad=>C.fail):=by
  unfold Tl;rw[yV];cases step (bp C τ) h g.op<;>rfl
 unfold vA dg;rw[ha];cases g.guard<;>rfl
def CL (callK yldK:Nat ->List AV ->AH ->(AV ->AH ->R) ->R) (k:T AV ->AH ->R) (l:List MG):T AV ->AH ->R:=
 List.rec (motive:=fun _=>T AV ->AH ->R) k (fun g _ ih τ h=>vA C callK yldK g τ h fun x h=>dZ τ g.dst x fun τ=>ih τ h) l
def yW (callK yldK:Nat ->List AV ->AH ->(AV ->AH ->R) ->R) (k:T AV ->AH ->R):∀(l:List MG) (τ:T AV) (h:AH),CL C callK yldK k l τ h=bg C callK yldK k l τ h
 |[],_,_=>rfl
 |g::l,τ,h=>by
  show vA C callK yldK g τ h (fun x h=>dZ τ g.dst x fun τ=>CL C callK yldK k l τ h)=dg C callK yldK g τ h (fun x h=>dZ τ g.dst x fun τ=>bg C callK yldK k l τ h);rw[A5];congr 1;funext x h;congr 1;funext τ;exact yW callK yldK k l τ h
def vB (τ:T AV) (h:AH) (g:MG):Option AV:=
 match g.guard with
 |none=>bj.rec (motive:=fun _=>Option AV) (fun x _=>some x) (fun _ _ _=>none) (fun _ _ _=>none) (fun _=>none) none (E1 g.op (bp C τ) h)
 |some _=>bB C τ h g
def A6 (τ:T AV) (h:AH) (g:MG):vB C τ h g=bB C τ h g:=by
 unfold vB bB;rw[yV];cases g.guard with
 |none=>cases step (bp C τ) h g.op<;>rfl
 |some q=>rfl
def vC (τ:T AV) (h:AH) (mask:Nat) (ls:List (Nat×MG)) (k:R):R:=
 List.rec (motive:=fun _=>R) k (fun p _ ih=>bif Nat.testBit mask p.1 then ih else match vB C τ h p.2 with
  |some x=>match p.2.dst with
   |none=>ih
   |some d=>match τ.get d with
    |some y=>bif cU 64 x y then ih else C.fail
    |none=>C.fail
  |none=>C.fail) ls
def A7 (τ:T AV) (h:AH) (mask:Nat) (k:R):∀ls,vC C τ h mask ls k=cj C τ h mask ls k
 |[]=>rfl
 |p::ls=>by
  show(bif Nat.testBit mask p.1 then vC C τ h mask ls k else match vB C τ h p.2 with
   |some x=>match p.2.dst with
    |none=>vC C τ h mask ls k
    |some d=>match τ.get d with
     |some y=>bif cU 64 x y then vC C τ h mask ls k else C.fail
     |none=>C.fail
   |none=>C.fail)=_
  rw[A7 τ h mask k ls,A6];rfl
def aj8 (callK yldK:Nat ->List AV ->AH ->(AV ->AH ->R) ->R) (base:Nat) (d:DI) (ih:List (Nat×MG) ->List (Nat×Nat×aU) ->T AV ->AH ->R) (ls:List (Nat×MG)) (pd:List (Nat×Nat×aU)) (τ:T AV) (h:AH):R:=
 DI.rec (motive:=fun _=>R)
  (fun i g=>Option.rec (motive:=fun _=>R) C.fail (fun x=>dZ τ g.dst x fun τ=>ih ((i,g)::ls) pd τ h) (vB C τ h g))
  (fun i n g=>fN (base+n) fun id=>match E1 g.op (bp C τ) ⟨id,h.ver,.e⟩ with
   | .v x h'=>match h'.objs.get id with
    |some ob=>dZ τ g.dst x fun τ=>ih ls ((i,id,ob)::pd) τ h
    |none=>C.fail
   |_=>C.fail)
  (fun i=>match gB i pd with
   |some (id,ob)=>h.put id ob fun h=>ih ls pd τ h
   |none=>C.fail)
  (fun _ g mask=>vA C callK yldK g τ h fun x h=>dZ τ g.dst x fun τ=>vC C τ h mask ls (ih ls pd τ h)) d
def qi (callK yldK:Nat ->List AV ->AH ->(AV ->AH ->R) ->R) (base:Nat) (k:T AV ->AH ->R) (l:List DI):List (Nat×MG) ->List (Nat×Nat×aU) ->T AV ->AH ->R:=
 List.rec (motive:=fun _=>List (Nat×MG) ->List (Nat×Nat×aU) ->T AV ->AH ->R) (fun _ _=>k) (fun d _ ih=>aj8 C callK yldK base d ih) l
def vU (callK yldK:Nat ->List AV ->AH ->(AV ->AH ->R) ->R) (base:Nat) (k:T AV ->AH ->R):∀(l:List DI) (ls:List (Nat×MG)) (pd:List (Nat×Nat×aU)) (τ:T AV) (h:AH),
 qi C callK yldK base k l ls pd τ h=aC C callK yldK base k l ls pd τ h
 |[],_,_,_,_=>rfl
 |d::l,ls,pd,τ,h=>by
  have ih:qi C callK yldK base k l=aC C callK yldK base k l:=by funext ls pd τ h;exact vU callK yldK base k l ls pd τ h
  show aj8 C callK yldK base d (qi C callK yldK base k l) ls pd τ h=_;rw[ih];cases d with
  |light i g=>
   show(Option.rec (motive:=fun _=>R) C.fail (fun x=>dZ τ g.dst x fun τ=>aC C callK yldK base k l ((i,g)::ls) pd τ h) (vB C τ h g))=_;rw[A6];show _=(match bB C τ h g with
    |some x=>dZ τ g.dst x fun τ=>aC C callK yldK base k l ((i,g)::ls) pd τ h
    |none=>C.fail)
   cases bB C τ h g<;>rfl
  |resv i n g=>
   show(fN (base+n) fun id=>match E1 g.op (bp C τ) ⟨id,h.ver,.e⟩ with
    | .v x h'=>match h'.objs.get id with
     |some ob=>dZ τ g.dst x fun τ=>aC C callK yldK base k l ls ((i,id,ob)::pd) τ h
     |none=>C.fail
    |_=>C.fail)=_
   simp only[yV];rfl
  |lay i=>rfl
  |heavy i g mask=>
   show vA C callK yldK g τ h (fun x h=>dZ τ g.dst x fun τ=>vC C τ h mask ls (aC C callK yldK base k l ls pd τ h))=_;rw[A5];simp only[A7];rfl
end
section
variable {R:Type}
abbrev nC (R:Type):=ap ->K R ->T AV ->AH ->R
def XW (_:cQ R) (_:nC R) (k:K R) (τ:T AV) (h:AH):R:=k .normal τ h
def aj9 (l:List MG) (C:cQ R) (ih:nC R) (k:K R) (τ:T AV) (h:AH):R:=CL C (gV C ih) (dU C ih) (fun τ h=>k .normal τ h) l τ h
def XX (n:Nat) (l:List DI) (C:cQ R) (ih:nC R) (k:K R) (τ:T AV) (h:AH):R:=fN (h.next+n) fun nx=>qi C (gV C ih) (dU C ih) h.next (fun τ h=>k .normal τ h) l [] [] τ ⟨nx,h.ver,h.objs⟩
def ak0 (l:List MG) (x:MA) (fn:Nat) (C:cQ R) (ih:nC R) (k:K R) (τ:T AV) (h:AH):R:=bg C (gV C ih) (dU C ih) (fun τ h=>match bp C τ x with
 | .f g _ _=>bif Nat.beq g fn then k .normal τ h else C.fail
 |_=>C.fail) l τ h
def ak1 (a b:ap) (_ _:cQ R ->nC R ->K R ->T AV ->AH ->R) (_:cQ R) (ih:nC R) (k:K R) (τ:T AV) (h:AH):R:=ih a (fun e τ h=>match e with| .normal=>ih b k τ h|e=>k e τ h) τ h
def XY (c:MA) (a b:ap) (_ _:cQ R ->nC R ->K R ->T AV ->AH ->R) (C:cQ R) (ih:nC R) (k:K R) (τ:T AV) (h:AH):R:=match bp C τ c with
 | .b x=>Bool.rec (motive:=fun _=>R) (ih b k τ h) (ih a k τ h) x
 |_=>C.fail
def Tm (id:Nat) (c:ap) (_:cQ R ->nC R ->K R ->T AV ->AH ->R) (_:cQ R) (ih:nC R) (k:K R) (τ:T AV) (h:AH):R:=ih c (fun e τ h=>match e with| .exit i=>bif Nat.beq i id then k .normal τ h else k (.exit i) τ h|e=>k e τ h) τ h
def XZ (c:ap) (_:cQ R ->nC R ->K R ->T AV ->AH ->R) (_:cQ R) (ih:nC R) (k:K R) (τ:T AV) (h:AH):R:=ih c (fun e τ h=>match e with| .normal=>ih (.loop c) k τ h|e=>k e τ h) τ h
def X0 (f:MA) (ps:List Nat) (assign body:ap) (_ _:cQ R ->nC R ->K R ->T AV ->AH ->R) (C:cQ R) (ih:nC R) (k:K R) (τ:T AV) (h:AH):R:=h.new (.loop ps assign body τ 0 none) fun l h=>
 let fin:AV ->AH ->R:=fun _ h=>match h.get l with
  |some (.loop _ _ _ _ 0 none)=>h.put l .gone fun h=>k .normal τ h
  |some (.loop _ _ _ _ 2 (some (some i)))=>h.put l .gone fun h=>k (.exit i) τ h
  |some (.loop _ _ _ _ 2 (some none))=>h.put l .gone fun h=>k .ret τ h
  |_=>C.fail
 match bp C τ f with
 | .f g fi ca=>match gK fi (.y l::ca) with
  |some l=>iV C ih g l h fin
  |none=>C.fail
 |_=>C.fail
def X1 (id:Nat) (_:cQ R) (_:nC R) (k:K R) (τ:T AV) (h:AH):R:=k (.exit id) τ h
def ak2 (_:cQ R) (_:nC R) (k:K R) (τ:T AV) (h:AH):R:=k .ret τ h
def ak3 (_:Nat) (C:cQ R) (_:nC R) (_:K R) (_:T AV) (_:AH):R:=C.fail
def ak4 (c:ap):cQ R ->nC R ->K R ->T AV ->AH ->R:=ap.rec (motive:=fun _=>cQ R ->nC R ->K R ->T AV ->AH ->R) XW aj9 XX ak0 ak1 XY Tm XZ X0 X1 ak2 ak3 c
variable (C:cQ R)
def X2 (n:Nat):nC R:=Nat.rec (motive:=fun _=>nC R) (fun _ _ _ _=>C.fail) (fun _ ih c=>ak4 c C ih) n
def Jv:∀n,X2 C n=run C n
 |0=>rfl
 |n+1=>by
  funext c k τ h;show ak4 c C (X2 C n) k τ h=_;rw[Jv n];cases c with
  |ops l=>exact yW C _ _ _ l τ h
  |draw z l=>
   show(fN (h.next+z) fun nx=>qi C (gV C (run C n)) (dU C (run C n)) h.next (fun τ h=>k .normal τ h) l [] [] τ ⟨nx,h.ver,h.objs⟩)=_;simp only[vU];rfl
  |_=>rfl
end
def au (GL:T (List AV)) (bt:T aR) (bi:Nat ->List AV ->AH ->Option (AV×AH)) (tb:T (List cD)) (n f:Nat) (e:cD) (p:List Bool):Bool:=
 iV (QD GL bt bi tb) (X2 (QD GL bt bi tb) n) f e.a h0 (fun x h _=>zq 20 h x e.d) p&&(wi 30 e.d&&yU 30 e.a)
def yX {GL:T (List AV)} {bt:T aR} {bi:Nat ->List AV ->AH ->Option (AV×AH)} {tb:T (List cD)} {n f:Nat} {e:cD}:au GL bt bi tb n f e=HN GL bt bi tb n f e:=by
 funext p;unfold au HN;rw[Jv]
end
end AM
