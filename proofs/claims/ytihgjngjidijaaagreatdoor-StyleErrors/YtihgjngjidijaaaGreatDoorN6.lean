import Derived.Test.YtihgjngjidijaaaGreatDoorN5
set_option linter.all false
namespace AM
open Go
noncomputable section
structure BP {R:Type} (Tr:R ->Prop) (B:aK R) (C:aK Prop):Prop where
 ae:∀f m,B.ae.get f=some m ->C.ae.get f=some m
 gL:B.gL=C.gL
 fail:¬Tr B.fail
 both:∀p q,Tr (B.both p q) ->Tr p/\ Tr q
 both':∀p q,C.both p q=(p/\ q)
 spec:∀f a h (kb:AV ->AH ->R) (kp:AV ->AH ->Prop) (fb:R) (fp:Prop),(∀v h,Tr (kb v h) ->kp v h) ->(Tr (fb) ->fp) ->Tr (B.spec f a h kb fb) ->C.spec f a h kp fp
section
variable {R:Type} {Tr:R ->Prop} {B:aK R} {C:aK Prop} (hB:BP Tr B C)
include hB
theorem yi (τ:T AV):az B τ=az C τ:=by
 funext a;cases a with
 |t n=>rfl
 |c v=>rfl
 |g n=>show(Option.rec .un (λl=> .dp l 0) (B.gL.get n):AV)=Option.rec .un (λl=> .dp l 0) (C.gL.get n);rw[hB.gL]
theorem iw {p:Prop} (h:Tr (B.fail)):p:=(hB.fail h).elim
theorem OO (τ:T AV) (h:AH) (g:MG):ez B τ h g=ez C τ h g:=by unfold ez;rw[yi hB]
section ops
variable {cb yb:Nat ->List AV ->AH ->(AV ->AH ->R) ->R} {cp yp:Nat ->List AV ->AH ->(AV ->AH ->Prop) ->Prop}
 (hc:∀f a h kb kp,(∀v h,Tr (kb v h) ->kp v h) ->Tr (cb f a h kb) ->cp f a h kp) (hy:∀f a h kb kp,(∀v h,Tr (kb v h) ->kp v h) ->Tr (yb f a h kb) ->yp f a h kp)
theorem OP {f:AV ->AH ->R} {g:AV ->AH ->Prop} (hfg:∀v h,Tr (f v h) ->g v h):∀l:List (AV×AH),Tr (gQ B f l) ->gQ C g l
 |[],h=>iw hB h
 |[e],h=>hfg _ _ h
 |e::b::r,h=>by
  have h':Tr (B.both (f e.1 e.2) (gQ B f (b::r))):=h;have h':=hB.both _ _ h';show C.both (g e.1 e.2) (gQ C g (b::r));rw[hB.both'];exact⟨hfg _ _ h'.1,OP hfg _ h'.2⟩
include hc hy
theorem OQ (g:MG) (τ:T AV) (h:AH) {kb:AV ->AH ->R} {kp:AV ->AH ->Prop} (hk:∀v h,Tr (kb v h) ->kp v h) (hr:Tr (eY B cb yb g τ h kb)):eY C cp yp g τ h kp:=by
 have act:Tr ((match step (az C τ) h g.op with
  | .v x h=>kb x h
  | .call q args h=>cb q args h kb
  | .yld l args h=>yb l args h kb
  | .alts l=>gQ B kb l
  | .bad=>B.fail:R)) ->(match step (az C τ) h g.op with
  | .v x h=>kp x h
  | .call q args h=>cp q args h kp
  | .yld l args h=>yp l args h kp
  | .alts l=>gQ C kp l
  | .bad=>C.fail:Prop):=by
  cases step (az C τ) h g.op with
  |v x h=>exact hk x h
  |call q args h=>exact hc q args h kb kp hk
  |yld l args h=>exact hy l args h kb kp hk
  |alts l=>exact OP hB hk l
  |bad=>exact λh=>iw hB h
 unfold eY at hr ⊢;rw[yi hB] at hr;dsimp only at hr ⊢;cases hg:g.guard with
 |none=>rw[hg] at hr;exact act hr
 |some q=>
  rw[hg] at hr;obtain⟨t,w⟩:=q;dsimp only at hr ⊢;cases ht:τ.get t with
  |none=>rw[ht] at hr;exact iw hB hr
  |some y=>
   rw[ht] at hr;cases y with
   |b x=>
    dsimp only at hr ⊢;cases hb:(bif x then w else !w) with
    |true=>rw[hb] at hr;exact act hr
    |false=>rw[hb] at hr;exact hk _ _ hr
   |tu l=>cases l with
    |nil=>exact hk _ _ hr
    |cons _ _=>exact iw hB hr
   |_=>exact iw hB hr
theorem Hg {kb:T AV ->AH ->R} {kp:T AV ->AH ->Prop} (hk:∀τ h,Tr (kb τ h) ->kp τ h):∀(l:List MG) (τ:T AV) (h:AH),Tr (dO B cb yb kb l τ h) ->dO C cp yp kp l τ h
 |[],τ,h,hr=>hk _ _ hr
 |g::l,τ,h,hr=>by
  have h1:Tr (eY B cb yb g τ h (λx h=>eh τ g.dst x λτ=>dO B cb yb kb l τ h)):=hr;refine OQ hB hc hy g τ h (λv h hv=> ?_) h1;rw[iI] at hv ⊢;exact Hg hk l _ _ hv
omit hc hy in
theorem OR {τ:T AV} {h:AH} {mask:Nat} {kb:R} {kp:Prop} (hk:Tr (kb) ->kp):∀ls:List (Nat×MG),Tr (eA B τ h mask ls kb) ->eA C τ h mask ls kp
 |[],hr=>hk hr
 |p::ls,hr=>by
  have ih:=OR (τ:=τ) (h:=h) (mask:=mask) hk ls;have h1:Tr ((bif Nat.testBit mask p.1 then eA B τ h mask ls kb else match ez B τ h p.2 with
   |some x=>match p.2.dst with
    |none=>eA B τ h mask ls kb
    |some d=>match τ.get d with
     |some y=>bif cZ 64 x y then eA B τ h mask ls kb else B.fail
     |none=>B.fail
   |none=>B.fail)):=hr
  show(bif Nat.testBit mask p.1 then eA C τ h mask ls kp else match ez C τ h p.2 with
   |some x=>match p.2.dst with
    |none=>eA C τ h mask ls kp
    |some d=>match τ.get d with
     |some y=>bif cZ 64 x y then eA C τ h mask ls kp else C.fail
     |none=>C.fail
   |none=>C.fail)
  rw[OO hB] at h1;cases hb:Nat.testBit mask p.1 with
  |true=>rw[hb] at h1;exact ih h1
  |false=>
   rw[hb] at h1;simp only[eU] at h1 ⊢;cases hl:ez C τ h p.2 with
   |none=>rw[hl] at h1;exact iw hB h1
   |some x=>
    rw[hl] at h1;dsimp only at h1 ⊢;cases hd:p.2.dst with
    |none=>rw[hd] at h1;exact ih h1
    |some d=>
     rw[hd] at h1;dsimp only at h1 ⊢;cases ht:τ.get d with
     |none=>rw[ht] at h1;exact iw hB h1
     |some y=>
      rw[ht] at h1;dsimp only at h1 ⊢;cases he:cZ 64 x y with
      |true=>rw[he] at h1;exact ih h1
      |false=>rw[he] at h1;exact iw hB h1
theorem AE {base:Nat} {kb:T AV ->AH ->R} {kp:T AV ->AH ->Prop} (hk:∀τ h,Tr (kb τ h) ->kp τ h):∀(l:List DI) (ls:List (Nat×MG)) (pd:List (Nat×Nat×bC)) (τ:T AV) (h:AH),
 Tr ( bW B cb yb base kb l ls pd τ h) ->bW C cp yp base kp l ls pd τ h
 |[],_,_,τ,h,hr=>hk _ _ hr
 |d::l,ls,pd,τ,h,hr=>by
  cases d with
  |light i g=>
   have h1:Tr ((match ez B τ h g with
    |some x=>eh τ g.dst x λτ=>bW B cb yb base kb l ((i,g)::ls) pd τ h
    |none=>B.fail)):=hr
   show(match ez C τ h g with
    |some x=>eh τ g.dst x λτ=>bW C cp yp base kp l ((i,g)::ls) pd τ h
    |none=>C.fail)
   rw[OO hB] at h1;cases hl:ez C τ h g with
   |none=>rw[hl] at h1;exact iw hB h1
   |some x=>rw[hl] at h1;dsimp only at h1 ⊢;rw[iI] at h1 ⊢;exact AE hk l _ _ _ _ h1
  |resv i n g=>
   have h1:Tr ((fN (base+n) λid=>match step (az B τ) ⟨id,h.ver,.e⟩ g.op with
    | .v x h'=>match h'.oB.get id with
     |some ob=>eh τ g.dst x λτ=>bW B cb yb base kb l ls ((i,id,ob)::pd) τ h
     |none=>B.fail
    |_=>B.fail)):=hr
   show(fN (base+n) λid=>match step (az C τ) ⟨id,h.ver,.e⟩ g.op with
    | .v x h'=>match h'.oB.get id with
     |some ob=>eh τ g.dst x λτ=>bW C cp yp base kp l ls ((i,id,ob)::pd) τ h
     |none=>C.fail
    |_=>C.fail)
   rw[dT] at h1 ⊢;rw[yi hB] at h1;cases hs:step (az C τ) ⟨base+n,h.ver,.e⟩ g.op with
   |v x h'=>
    rw[hs] at h1;dsimp only at h1 ⊢;cases ho:h'.oB.get (base+n) with
    |none=>rw[ho] at h1;exact iw hB h1
    |some ob=>rw[ho] at h1;dsimp only at h1 ⊢;rw[iI] at h1 ⊢;exact AE hk l _ _ _ _ h1
   |_=>rw[hs] at h1;exact iw hB h1
  |lay i=>
   have h1:Tr ((match iC i pd with
    |some (id,ob)=>h.put id ob λh=>bW B cb yb base kb l ls pd τ h
    |none=>B.fail)):=hr
   show(match iC i pd with
    |some (id,ob)=>h.put id ob λh=>bW C cp yp base kp l ls pd τ h
    |none=>C.fail)
   cases hf:iC i pd with
   |none=>rw[hf] at h1;exact iw hB h1
   |some q=>rw[hf] at h1;dsimp only at h1 ⊢;rw[AH.put_eq] at h1 ⊢;exact AE hk l _ _ _ _ h1
  |heavy i g mask=>
   have h1:Tr (eY B cb yb g τ h (λx h=>eh τ g.dst x λτ=>eA B τ h mask ls (bW B cb yb base kb l ls pd τ h))):=hr;refine OQ hB hc hy g τ h (λv h hv=> ?_) h1;rw[iI] at hv ⊢;exact OR hB (λhh=>AE hk l _ _ _ _ hh) _ hv
end ops
def Dn (Tr:R ->Prop) (B:aK R) (C:aK Prop) (n:Nat):Prop:=∀c (kb:K R) (kp:K Prop) τ h,(∀e τ h,Tr (kb e τ h) ->kp e τ h) ->Tr (run B n c kb τ h) ->run C n c kp τ h
theorem Do {n:Nat} (IH:Dn Tr B C n) (f:Nat) (a:List AV) (h:AH) (kb:AV ->AH ->R) (kp:AV ->AH ->Prop) (hk:∀v h,Tr (kb v h) ->kp v h) (hr:Tr (j4 B (run B n) f a h kb)):j4 C (run C n) f a h kp:=by
 unfold j4 at hr ⊢;cases hf:B.ae.get f with
 |none=>rw[hf] at hr;exact iw hB hr
 |some fn=>
  rw[hf] at hr;rw[hB.ae _ _ hf];dsimp only at hr ⊢;rw[xZ] at hr ⊢;refine IH _ _ _ _ _ (λe τ h he=> ?_) hr;cases e with
  |exit i=>exact iw hB he
  |_=>
   dsimp only at he ⊢;cases hq:eZ τ h fn.res with
   |none=>rw[hq] at he;exact iw hB he
   |some v=>rw[hq] at he;exact hk _ _ he
theorem aj9 {n:Nat} (IH:Dn Tr B C n) (f:Nat) (a:List AV) (h:AH) (kb:AV ->AH ->R) (kp:AV ->AH ->Prop) (hk:∀v h,Tr (kb v h) ->kp v h) (hr:Tr (iS B (run B n) f a h kb)):iS C (run C n) f a h kp:=
 hB.spec _ _ _ _ _ _ _ hk (Do hB IH f a h kb kp hk) hr
theorem OS {kb:T AV ->R} {kp:T AV ->Prop} (hk:∀τ,Tr (kb τ) ->kp τ):∀(l:List Nat) (a:List AV) (τ:T AV),Tr (nG B l a τ kb) ->nG C l a τ kp
 |[],[],τ,h=>hk τ h
 |[],_::_,_,h=>iw hB h
 |_::_,[],_,h=>iw hB h
 |p::l,x::a,τ,h=>by
  have h1:Tr (τ.setK p x (λτ=>nG B l a τ kb)):=h;show τ.setK p x (λτ=>nG C l a τ kp);rw[T.setK_put] at h1 ⊢;exact OS hk l a _ h1
theorem ak0 {kb:AH ->R} {kp:AH ->Prop} (hk:∀h,Tr (kb h) ->kp h) (h:AH) (l:Nat) (hr:Tr (pV B h l kb)):pV C h l kp:=by
 unfold pV at hr ⊢;split
 ·rename_i he;rw[he] at hr;simp only[AH.put_eq] at hr ⊢;exact hk _ hr
 ·rename_i he;split at hr
  ·rename_i hq;exact bh hq (he _ _ _ _ _)
  ·exact iw hB hr
theorem Hh {kb:AH ->R} {kp:AH ->Prop} (hk:∀h,Tr (kb h) ->kp h) (h:AH) (l st:Nat) (p:Option (Option Nat)) (hr:Tr (j5 B h l st p kb)):j5 C h l st p kp:=by
 unfold j5 at hr ⊢;split
 ·rename_i he;rw[he] at hr;simp only[AH.put_eq] at hr ⊢;exact hk _ hr
 ·rename_i he;split at hr
  ·rename_i hq;exact bh hq (he _ _ _ _ _ _)
  ·exact iw hB hr
theorem ak1 {n:Nat} (IH:Dn Tr B C n) (l:Nat) (a:List AV) (h:AH) (kb:AV ->AH ->R) (kp:AV ->AH ->Prop) (hk:∀v h,Tr (kb v h) ->kp v h) (hr:Tr (iD B (run B n) l a h kb)):iD C (run C n) l a h kp:=by
 unfold iD at hr ⊢;split at hr
 ·rename_i ps asg body env _ _ hg;refine OS hB (λτ hh=>IH _ _ _ _ _ (λe τ h he=> ?_) hh) _ _ _ hr;cases e with
  |normal=>
   refine ak0 hB (λh hh=>IH _ _ _ _ _ (λe τ h he=> ?_) hh) _ _ he;cases e with
   |normal=>exact Hh hB (λh hh=>hk _ _ hh) _ _ _ _ he
   |exit i=>exact Hh hB (λh hh=>hk _ _ hh) _ _ _ _ he
   |ret=>exact Hh hB (λh hh=>hk _ _ hh) _ _ _ _ he
  |_=>exact iw hB he
 ·exact iw hB hr
theorem OT:∀n,Dn Tr B C n:=by
 intro n;induction n with
 |zero=>intro c kb kp τ h hk hr;exact iw hB hr
 |succ n IH=>
  intro c kb kp τ h hk hr;rw[gh] at hr ⊢;have cc:=aj9 hB IH;have yy:=ak1 hB IH;cases c with
  |skip=>exact hk _ _ _ hr
  |ops l=>exact Hg hB cc yy (λτ h=>hk _ τ h) l τ h hr
  |draw z l=>dsimp only at hr ⊢;rw[dT] at hr ⊢;exact AE hB cc yy (λτ h=>hk _ τ h) l _ _ _ _ hr
  |dfr l x fn=>
   refine Hg hB cc yy (λτ h hh=> ?_) l τ h hr;rw[yi hB] at hh;cases hx:az C τ x with
   |f g _ _=>
    rw[hx] at hh;dsimp only at hh ⊢;cases hg:Nat.beq g fn with
    |true=>rw[hg] at hh;exact hk _ _ _ hh
    |false=>rw[hg] at hh;exact iw hB hh
   |_=>rw[hx] at hh;exact iw hB hh
  |seq a b=>exact IH _ _ _ _ _ (λe τ h he=>by cases e<;>first|exact IH _ _ _ _ _ hk he|exact hk _ _ _ he) hr
  |cond x a b=>
   dsimp only at hr ⊢;rw[yi hB] at hr;cases hx:az C τ x with
   |b t=>rw[hx] at hr;cases t<;>exact IH _ _ _ _ _ hk hr
   |_=>rw[hx] at hr;exact iw hB hr
  |block i a=>exact IH _ _ _ _ _ (λe τ h he=>by
   cases e with
   |exit j=>
    dsimp only at he ⊢;cases hj:Nat.beq j i with
    |true=>rw[hj] at he;exact hk _ _ _ he
    |false=>rw[hj] at he;exact hk _ _ _ he
   |_=>exact hk _ _ _ he) hr
  |loop a=>exact IH _ _ _ _ _ (λe τ h he=>by cases e<;>first|exact IH _ _ _ _ _ hk he|exact hk _ _ _ he) hr
  |rfun q ps asg body=>
   dsimp only at hr ⊢;rw[AH.new_eq] at hr ⊢;rw[yi hB] at hr;cases hx:az C τ q with
   |f g fi ca=>
    rw[hx] at hr;dsimp only at hr ⊢;cases ha:fy fi (.y h.next::ca) with
    |none=>rw[ha] at hr;exact iw hB hr
    |some l=>
     rw[ha] at hr;refine Do hB IH _ _ _ _ _ (λv h' hv=> ?_) hr;split at hv
     ·rw[AH.put_eq] at hv ⊢;exact hk _ _ _ hv
     ·rw[AH.put_eq] at hv ⊢;exact hk _ _ _ hv
     ·rw[AH.put_eq] at hv ⊢;exact hk _ _ _ hv
     ·exact iw hB hv
   |_=>rw[hx] at hr;exact iw hB hr
  |exit i=>exact hk _ _ _ hr
  |ret=>exact hk _ _ _ hr
  |bad w=>exact iw hB hr
end
variable {P:Program} {X:aR} {GL:T (List AV)} {ae:T au}
def Dp (P:Program) (X:aR) (GL:T (List AV)) (kn:Nat ->List AV ->Option AV):Prop:=∀f a v,kn f a=some v ->∀h,bP P X GL f a h v h
def Hi (GL:T (List AV)) (bt:T au) (kn:Nat ->List AV ->Option AV):aK Bool where
 ae:=bt
 gL:=GL
 spec:=λf a h k fb=>match kn f a with|some v=>k v h|none=>fb
 fail:=false
 both:=and
def gM (GL:T (List AV)) (bt:T au) (kn:Nat ->List AV ->Option AV) (n f:Nat) (args:List AV) (d:AV):Bool:=
 j4 (Hi GL bt kn) (run (Hi GL bt kn) n) f args h0 λx h=>match deep 12 h x with|some y=>cZ 64 y d|none=>false
def hY {bt:T au} {kn:Nat ->List AV ->Option AV} (hs:∀f m,bt.get f=some m ->ae.get f=some m) (hk:Dp P X GL kn) {n f:Nat} {args:List AV} {d:AV} (hr:gM GL bt kn n f args d=true):bg P X GL ae f args d:=by
 have hB:BP (λb:Bool=>b=true) (Hi GL bt kn) (tD P X GL ae):={
  ae:=hs
  gL:=rfl
  fail:=λh=>Bool.noConfusion h
  both:=λ_ _ h=>nj.1 h
  both':=λ_ _=>rfl
  spec:=λf a h kb kp fb fp h1 h2 h3=>by
   show(∃v h',kp v h'/\ bP P X GL f a h v h')∨fp;have h3':(match kn f a with|some v=>kb v h|none=>fb)=true:=h3;cases hv:kn f a with
   |none=>rw[hv] at h3';exact .inr (h2 h3')
   |some v=>rw[hv] at h3';exact .inl ⟨v,h,h1 _ _ h3',hk f a v hv h⟩ }
 refine⟨n,Do hB (OT hB n) f args h0 _ _ (λx h hx=> ?_) hr⟩;split at hx
 ·rename_i y hy;exact⟨12,by rw[hy,tv _ _ _ hx]⟩
 ·cases hx
def AF {ae:T au}:∀f m,(T.e:T au).get f=some m ->ae.get f=some m:=λf m h=>by
 have e:(T.e:T au).get f=none:=rfl;rw[e] at h;cases h
def gk {ae t:T au} {a:Nat} {x:au} (h:∀f m,t.get f=some m ->ae.get f=some m) (e:ae.get a=some x):∀f m,(t.put a x).get f=some m ->ae.get f=some m:=λf m hf=>by
 rw[T.get_put] at hf;split at hf
 ·rename_i q;subst q;cases hf;exact e
 ·exact h f m hf
def iE:Dp P X GL (λ_ _=>none):=λ_ _ _ h=>by cases h
section
def mP (h:AH) (o:Nat):Bool:=match h.oB.get o with|some (.cells _ _)=>true|_=>false
def qf (h:AH) (l:List Nat) (t:T bC):T bC:=l.foldl (λt o=>bif mP h o then t.put o .gone else t) t
def AK (h:AH) (l:List Nat) (t:T bC):T bC:=l.foldl (λt o=>match h.oB.get o with|some (.cells v c)=>t.put o (.cells v c)|_=>t) t
def tE (h:AH) (l:List Nat):AH:=⟨h.next,h.ver,qf h l h.oB⟩
def qT (h:AH) (l:List Nat):AH:=⟨h.next,h.ver,AK h l .e⟩
def AL (h:AH):∀(l:List Nat) (t:T bC) (o:Nat),(qf h l t).get o=if o∈l/\ mP h o=true then some .gone else t.get o
 |[],t,o=>by simp[qf]
 |a::l,t,o=>by
  have e:qf h (a::l) t=qf h l (bif mP h a then t.put a .gone else t):=rfl;rw[e,AL h l];cases ha:mP h a with
  |true=>
   rw[fC,T.get_put];by_cases q:o=a
   ·subst q;simp[ha]
   ·simp[q]
  |false=>
   rw[eU];by_cases q:o=a
   ·subst q;simp[ha]
   ·simp[q]
def Hj (h:AH):∀(l:List Nat) (t:T bC) (o:Nat) (ob:bC),(AK h l t).get o=some ob ->(o∈l/\ mP h o=true/\ h.oB.get o=some ob)∨t.get o=some ob
 |[],t,o,ob,hg=> .inr hg
 |a::l,t,o,ob,hg=>by
  have e:AK h (a::l) t=AK h l (match h.oB.get a with|some (.cells v c)=>t.put a (.cells v c)|_=>t):=rfl;rw[e] at hg;rcases Hj h l _ o ob hg with ⟨h1,h2,h3⟩|hg2
  ·exact .inl ⟨by simp[h1],h2,h3⟩
  ·clear hg;split at hg2
   ·rename_i v c hc;rw[T.get_put] at hg2;by_cases q:o=a
    ·rw[aF q] at hg2;subst q;exact .inl ⟨by simp,by unfold mP;rw[hc],by rw[hc];exact hg2⟩
    ·rw[aD q] at hg2;exact .inr hg2
   ·exact .inr hg2
open Classical
def CE.frz (c:CE) (h:AH) (w:World) (l:List Nat):CE:={ c with im:=λb=>match c.im b with
 |some row=>some row
 |none=>if∃o ver r,o∈l/\ dU c h o (.cells ver r)/\ (c.ρ o).1=b then fL w b else none }
def CE.frz_ext (c:CE) (h:AH) (w:World) (l:List Nat):gE c (c.frz h w l):=⟨λ_ h=>h,λ_ _=>rfl,λ_ _=>rfl,λb row h=>by simp[CE.frz,h],rfl⟩
def AN {c:CE} {h:AH} {w:World} {l:List Nat} {o:Nat} {ob:bC} (hh:dU (c.frz h w l) (tE h l) o ob):dU c h o ob/\¬(o∈l/\ mP h o=true):=by
 have hg:=hh.get;have e:(tE h l).oB.get o=if o∈l/\ mP h o=true then some .gone else h.oB.get o:=AL h l h.oB o
 rw[e] at hg;split at hg
 ·have:=hh.live;rw[←gC hg] at this;cases this
 ·rename_i q;exact⟨⟨hg,hh.live,hh.dM⟩,q⟩
def ak2 {c:CE} {h:AH} {o ver:Nat} {r:List AV} (hh:dU c h o (.cells ver r)):mP h o=true:=by simp[mP,hh.get]
def ak3 {c:CE} {h:AH} {w:World} (r:RS (dJ X) c h w) (l:List Nat):cH (dJ X) c h w (c.frz h w l) (tE h l) w:=by
 have hx:=c.frz_ext h w l;have im:∀b row,(c.frz h w l).im b=some row ->c.im b=some row∨(c.im b=none/\ (∃o ver rr,o∈l/\ dU c h o (.cells ver rr)/\ (c.ρ o).1=b)/\ fL w b=some row):=λb row hb=>by
  have hb':(match c.im b with|some row=>some row|none=>if∃o ver rr,o∈l/\ dU c h o (.cells ver rr)/\ (c.ρ o).1=b then fL w b else none)=some row:=hb;cases hc:c.im b with
  |some row'=>rw[hc] at hb';cases hb';exact .inl rfl
  |none=>
   rw[hc] at hb';dsimp only at hb';split at hb'
   ·rename_i e;exact .inr ⟨rfl,e,hb'⟩
   ·cases hb'
 refine⟨hx,⟨r.nx,λo ob hg=> ?_,λo ob ho=> ?_,λo o' a b ho bT=>r.inj o o' a b (AN ho).1 (AN bT).1,λb row hb=> ?_,λo ob ho=> ?_,λg lg hg=> ?_⟩,
  ⟨bB _,λ_ _ _=>rfl,λo ob ho=> .inr ⟨o,ob,(AN ho).1,rfl⟩,λo ho=> .inl ho,bB _,λb row hb=> ?_,λo _ hd ob hg=> ?_,⟨rfl,rfl⟩⟩⟩
 ·have e:(tE h l).oB.get o=if o∈l/\ mP h o=true then some .gone else h.oB.get o:=AL h l h.oB o
  rw[e] at hg;split at hg
  ·rename_i q;have q2:=q.2;unfold mP at q2;split at q2
   ·rename_i hc;exact r.lt o _ hc
   ·cases q2
  ·exact r.lt o ob hg
 ·exact(r.obj o ob (AN ho).1).mono hx ho.dM rfl
 ·rcases im b row hb with e|⟨_,_,e⟩
  ·exact r.im b row e
  ·exact Dl e
 ·obtain⟨hh,hn⟩:=AN ho;cases hb:(c.frz h w l).im (c.ρ o).1 with
  |none=>exact hb
  |some row=>
   rcases im _ row hb with e|⟨_,⟨o',ver,rr,h1,h2,h3⟩,_⟩
   ·rw[r.dj o ob hh] at e;cases e
   ·have:=r.inj o' o _ _ h2 hh h3;subst this;exact(hn ⟨h1,ak2 h2⟩).elim
 ·obtain⟨row,vs,e1,e2,e3⟩:=r.gl g lg hg;exact⟨row,vs,hx.im _ _ e1,e2,e3.mono hx⟩
 ·rcases im b row hb with e|⟨_,⟨o,ver,rr,_,h2,h3⟩,_⟩
  ·exact .inl e
  ·exact .inr (.inr ⟨o,_,h2,h3⟩)
 ·have e:(tE h l).oB.get o=if o∈l/\ mP h o=true then some .gone else h.oB.get o:=AL h l h.oB o
  rw[e] at hg;split at hg
  ·rw[←gC hg];rfl
  ·exact hd ob hg
def ak4 (S:aT P X GL ae) {f:Nat} {args:List AV} {d:AV} (hp:bg P X GL ae f args d) {c:CE} {h:AH} {w:World} {vs:List Value} (r:RS (dJ X) c h w) (gl:∀g l,GL.get g=some l ->c.gl g=some l)
 (hargs:bX (c.only c.im GL) args vs):mJ P ((callFunc f vs.toArray).run P w) λv' w'=>∃c',cH (dJ X) c h w c' h w'/\ VR c' d v':=by
 have r0:RS (dJ X) (c.only c.im GL) h0 w:=r.only gl S.gl r.im (λ_ _ h=>h);refine G9 S hp r0 (λg l h=>h) hargs λv' w' x h1 c1 m hd hev hvr=>⟨c.fix w w',Hb r hev.keep.size (λb hb=>Ha hev hb) hev.keep.io,?_⟩;refine(yf (CR:=dJ X) (c:=c1) (h:=h1) (w:=w') (c2:=c.fix w w') (λo ver l hh=>hev.rs.obj _ _ hh) (λb row hb=> ?_) (λo ver l hh row t fr gY=> ?_) m).1 _ _ _ hd hvr
 ·show(match c.im b with|some row=>some row|none=>if w.heap.size<=b then fL w' b else none)=some row;rcases hev.keep.im b row hb with e|e|⟨o,ob,ho,_⟩
  ·have e':c.im b=some row:=e;rw[e']
  ·have hn:c.im b=none:=by
    cases hc:c.im b with
    |none=>rfl
    |some row'=>have:=r.im_lt hc;omega
   rw[hn];dsimp only;rw[aF e];obtain⟨t,fr,e2⟩:=hev.rs.im b row hb;exact qS e2
  ·exact(rY ho).elim
 ·show(match c.im (c1.ρ o).1 with|some row=>some row|none=>if w.heap.size<=(c1.ρ o).1 then fL w' (c1.ρ o).1 else none)=some row;rcases hev.keep.new o _ hh with e|⟨o',ob',bT,_⟩
  ·have hn:c.im (c1.ρ o).1=none:=by
    cases hc:c.im (c1.ρ o).1 with
    |none=>rfl
    |some row'=>have:=r.im_lt hc;omega
   rw[hn];dsimp only;rw[aF e];exact qS gY
  ·exact(rY bT).elim
def Dq (S:aT P X GL ae) {f:Nat} {args dargs:List AV} {d:AV} (hp:bg P X GL ae f dargs d) {h:AH} {n:Nat} {l:List Nat} (ha:bJ n (qT h l) args=some dargs):bP P X GL f args h d (tE h l):=by
 intro c w vs r gl hv;have e1:=ak3 r l;have hp':∀o ver rr,dU c (qT h l) o (.cells ver rr) ->o∈l/\ dU c h o (.cells ver rr):=λo ver rr hh=>by
  rcases Hj h l .e o _ hh.get with ⟨h1,_,h3⟩|h3
  ·exact⟨h1,h3,hh.live,hh.dM⟩
  ·have:(T.e:T bC).get o=none:=rfl;rw[this] at h3;cases h3
 have hargs:bX ((c.frz h w l).only (c.frz h w l).im GL) dargs vs:=
  (yf (CR:=dJ X) (c:=c) (h:=qT h l) (w:=w) (c2:=(c.frz h w l).only (c.frz h w l).im GL) (λo ver rr hh=>r.obj _ _ (hp' o ver rr hh).2) (λb row hb=>(c.frz_ext h w l).im b row hb)
   (λo ver rr hh row t fr gY=>by
    obtain⟨h1,h2⟩:=hp' o ver rr hh;show(match c.im (c.ρ o).1 with|some row=>some row|none=>if∃o' ver rr,o'∈l/\ dU c h o' (.cells ver rr)/\ (c.ρ o').1=(c.ρ o).1 then fL w (c.ρ o).1 else none)=some row;rw[r.dj o _ h2];dsimp only;rw[aF ⟨o,ver,rr,h1,h2,rfl⟩];exact qS gY) n).2 _ _ _ ha hv
 have gl':∀g lg,GL.get g=some lg ->(c.frz h w l).gl g=some lg:=λg lg hg=>gl g lg hg;exact mJ.mono (ak4 S hp e1.rs gl' hargs) λv' w' ⟨c',e2,hv'⟩=>⟨c',e1.trans e2,hv'⟩
end
def jM:Nat ->AH ->AV ->AV ->Bool
 |n+1,h,.p o a,d=>match d with
  | .dp l a'=>Nat.beq a a'&&(match h.oB.get o with|some (.cells _ c)=>cZ.avEqs (jM n h) c l|_=>false)
  |_=>false
 |n+1,h,.sl o a k _ e,d=>match d with
  | .ds l a' k' e'=>Nat.beq a a'&&(Nat.beq k k'&&(Nat.beq e e'&&(match h.oB.get o with|some (.cells _ c)=>cZ.avEqs (jM n h) c l|_=>false)))
  |_=>false
 |n+1,h,.ag l,d=>match d with| .ag l'=>cZ.avEqs (jM n h) l l'|_=>false
 |n+1,h,.tu l,d=>match d with| .tu l'=>cZ.avEqs (jM n h) l l'|_=>false
 |n,_,a,d=>cZ n a d
abbrev qg (n:Nat) (h:AH) (l d:List AV):Bool:=cZ.avEqs (jM n h) l d
def OU {f:AV ->AV ->Bool} {a:AV} {l:List AV} {d:List AV}:cZ.avEqs f (a::l) d=true ->∃b r,d=b::r/\ f a b=true/\ cZ.avEqs f l r=true:=by
 intro h;cases d with
 |nil=>cases h
 |cons b r=>
  have h':(f a b&&cZ.avEqs f l r)=true:=h;exact⟨b,r,rfl,(nj.1 h').1,(nj.1 h').2⟩
def OV {f:AV ->AV ->Bool} {d:List AV}:cZ.avEqs f [] d=true ->d=[]:=by
 intro h;cases d with
 |nil=>rfl
 |cons b r=>cases h
def ak5 {n h a l b r} (e:bJ n h (a::l)=some (b::r)):deep n h a=some b/\ bJ n h l=some r:=by
 rw[aL] at e;cases ha:deep n h a with
 |none=>rw[ha] at e;cases e
 |some x=>
  cases hl:bJ n h l with
  |none=>rw[ha,hl] at e;cases e
  |some y=>rw[ha,hl] at e;cases e;exact⟨rfl,rfl⟩
def ak6 {h:AH}:∀n,(∀a d,deep n h0 a=some d ->deep n h a=some d)/\ (∀l d,bJ n h0 l=some d ->bJ n h l=some d):=by
 have lists:∀n,(∀a d,deep n h0 a=some d ->deep n h a=some d) ->(∀l d,bJ n h0 l=some d ->bJ n h l=some d):=λn H l=>by
  induction l with
  |nil=>intro d e;exact e
  |cons a l ih=>
   intro d e;rw[aL] at e ⊢;cases ha:deep n h0 a with
   |none=>rw[ha] at e;cases e
   |some x=>
    cases hl:bJ n h0 l with
    |none=>rw[ha,hl] at e;cases e
    |some y=>rw[ha,hl] at e;rw[H a x ha,ih y hl];exact e
 intro n;induction n with
 |zero=>
  have H:∀a d,deep 0 h0 a=some d ->deep 0 h a=some d:=λa d e=>by cases a<;>first|exact e|cases e
  exact⟨H,lists 0 H⟩
 |succ n ih=>
  have H:∀a d,deep (n+1) h0 a=some d ->deep (n+1) h a=some d:=λa d e=>by
   have one:∀(l:List AV) (F:List AV ->AV),(match bJ n h0 l with|some l=>some (F l)|none=>none)=some d ->(match bJ n h l with|some l=>some (F l)|none=>none)=some d:=λl F e=>by
    cases hl:bJ n h0 l with
    |none=>rw[hl] at e;cases e
    |some y=>rw[hl] at e;rw[ih.2 l y hl];exact e
   cases a with
   |p o off=>have e':(match (none:Option bC) with|some (.cells _ l)=>(match eM (deep n h0) l with|some l=>some (AV.dp l off)|none=>none)|_=>none)=some d:=e;cases e'
   |sl o off len cap esz=>have e':(match (none:Option bC) with|some (.cells _ l)=>(match eM (deep n h0) l with|some l=>some (AV.ds l off len esz)|none=>none)|_=>none)=some d:=e;cases e'
   |dp l off=>exact one l (λl=> .dp l off) e
   |ds l off len esz=>exact one l (λl=> .ds l off len esz) e
   |ag l=>exact one l .ag e
   |tu l=>exact one l .tu e
   |ifc t v=>
    have e':(match deep n h0 v with|some v=>some (AV.ifc t v)|none=>none)=some d:=e;show(match deep n h v with|some v=>some (AV.ifc t v)|none=>none)=some d;cases hv:deep n h0 v with
    |none=>rw[hv] at e';cases e'
    |some y=>rw[hv] at e';rw[ih.1 v y hv];exact e'
   |f fn x y=>
    have e':(match bJ n h0 x,bJ n h0 y with|some a,some b=>some (AV.f fn a b)|_,_=>none)=some d:=e;show(match bJ n h x,bJ n h y with|some a,some b=>some (AV.f fn a b)|_,_=>none)=some d;cases hx:bJ n h0 x with
    |none=>rw[hx] at e';cases e'
    |some x'=>
     cases hy:bJ n h0 y with
     |none=>rw[hx,hy] at e';cases e'
     |some y'=>rw[hx,hy] at e';rw[ih.2 x x' hx,ih.2 y y' hy];exact e'
   |_=>exact e
  exact⟨H,lists _ H⟩
def Hk {h:AH}:∀n m,(∀a d,jM n h a d=true ->deep m h0 d=some d ->deep m h a=some d)/\ (∀l d,qg n h l d=true ->bJ m h0 d=some d ->bJ m h l=some d):=by
 have lists:∀n m,(∀a d,jM n h a d=true ->deep m h0 d=some d ->deep m h a=some d) ->(∀l d,qg n h l d=true ->bJ m h0 d=some d ->bJ m h l=some d):=λn m H l=>by
  induction l with
  |nil=>intro d e _;rw[OV e];rfl
  |cons a l ih=>
   intro d e hd;obtain⟨b,r,rfl,e1,e2⟩:=OU e;obtain⟨d1,d2⟩:=ak5 hd;rw[aL,H a b e1 d1,ih r e2 d2]
 have same:∀n m a d,cZ n a d=true ->deep m h0 d=some d ->deep m h a=some d:=λn m a d e hd=>by rw[tv _ _ _ e];exact(ak6 m).1 _ _ hd
 intro n;induction n with
 |zero=>intro m;exact⟨λa d e hd=>same 0 m a d (by simpa only[jM] using e) hd,lists 0 m λa d e hd=>same 0 m a d (by simpa only[jM] using e) hd⟩
 |succ n ih=>
  intro m;have inv:∀(l:List AV) (F:List AV ->AV),(∀x y,F x=F y ->x=y) ->∀m,(match bJ m h0 l with|some l=>some (F l)|none=>none)=some (F l) ->bJ m h0 l=some l:=λl F inj m e=>by
   cases hl:bJ m h0 l with
   |none=>rw[hl] at e;cases e
   |some y=>rw[hl] at e;rw[inj _ _ (gC e)]
  have H:∀a d,jM (n+1) h a d=true ->deep m h0 d=some d ->deep m h a=some d:=λa d e hd=>by
   cases a with
   |p o off=>
    cases d with
    |dp l a'=>
     have e':(Nat.beq off a'&&(match h.oB.get o with|some (.cells _ c)=>qg n h c l|_=>false))=true:=e;obtain⟨e1,e2⟩:=nj.1 e';have e1:=qG e1;subst e1;cases m with
     |zero=>cases hd
     |succ m=>
      have hl:=inv l (λl=> .dp l off) (λx y q=>by cases q;rfl) m hd;show(match h.oB.get o with|some (.cells _ l)=>(match bJ m h l with|some l=>some (AV.dp l off)|none=>none)|_=>none)=_;split at e2
      ·rename_i v c hc;rw[(ih m).2 c l e2 hl]
      ·cases e2
    |_=>cases e
   |sl o off len cap esz=>
    cases d with
    |ds l a' k' e'=>
     have e':(Nat.beq off a'&&(Nat.beq len k'&&(Nat.beq esz e'&&(match h.oB.get o with|some (.cells _ c)=>qg n h c l|_=>false))))=true:=e;obtain⟨e1,e'⟩:=nj.1 e';obtain⟨e3,e'⟩:=nj.1 e';obtain⟨e4,e2⟩:=nj.1 e';have e1:=qG e1;have e3:=qG e3;have e4:=qG e4;subst e1 e3 e4;cases m with
     |zero=>cases hd
     |succ m=>
      have hl:=inv l (λl=> .ds l off len esz) (λx y q=>by cases q;rfl) m hd;show(match h.oB.get o with|some (.cells _ l)=>(match bJ m h l with|some l=>some (AV.ds l off len esz)|none=>none)|_=>none)=_;split at e2
      ·rename_i v c hc;rw[(ih m).2 c l e2 hl]
      ·cases e2
    |_=>cases e
   |ag l=>
    cases d with
    |ag l'=>
     have e2:qg n h l l'=true:=e;cases m with
     |zero=>cases hd
     |succ m=>
      have hl:=inv l' .ag (λx y q=>by cases q;rfl) m hd;show(match bJ m h l with|some l=>some (AV.ag l)|none=>none)=_;rw[(ih m).2 l l' e2 hl]
    |_=>cases e
   |tu l=>
    cases d with
    |tu l'=>
     have e2:qg n h l l'=true:=e;cases m with
     |zero=>cases hd
     |succ m=>
      have hl:=inv l' .tu (λx y q=>by cases q;rfl) m hd;show(match bJ m h l with|some l=>some (AV.tu l)|none=>none)=_;rw[(ih m).2 l l' e2 hl]
    |_=>cases e
   |_=>exact same (n+1) m _ d (by simpa only[jM] using e) hd
  exact⟨H,lists _ _ H⟩
def uR:Nat ->AV ->Bool
 |_,.p .. |_,.sl .. |0,.ag _|0,.tu _=>false
 |n+1,.ag l=>List.rec (motive:=λ_=>Bool) true (λa _ ih=>uR n a&&ih) l
 |n+1,.tu l=>List.rec (motive:=λ_=>Bool) true (λa _ ih=>uR n a&&ih) l
 |_,_=>true
def AO (n:Nat) (l:List AV):Bool:=List.rec (motive:=λ_=>Bool) true (λa _ ih=>uR n a&&ih) l
def ak7 {h:AH}:∀n m,(∀a d,uR n a=true ->jM m h a d=true ->a=d)/\ (∀l d,AO n l=true ->qg m h l d=true ->l=d):=by
 have lists:∀n m,(∀a d,uR n a=true ->jM m h a d=true ->a=d) ->(∀l d,AO n l=true ->qg m h l d=true ->l=d):=λn m H l=>by
  induction l with
  |nil=>intro d _ e;rw[OV e]
  |cons a l ih=>
   intro d s e;obtain⟨b,r,rfl,e1,e2⟩:=OU e;obtain⟨s1,s2⟩:=nj.1 (show(uR n a&&AO n l)=true from s);rw[H a b s1 e1,ih r s2 e2]
 intro n;induction n with
 |zero=>
  intro m;have H:∀a d,uR 0 a=true ->jM m h a d=true ->a=d:=λa d s e=>by
   cases m with
   |zero=>exact tv _ _ _ (by simpa only[jM] using e)
   |succ m=>cases a<;>first|(cases s;done)|exact tv _ _ _ (by simpa only[jM] using e)
  exact⟨H,lists 0 m H⟩
 |succ n ih=>
  intro m;have H:∀a d,uR (n+1) a=true ->jM m h a d=true ->a=d:=λa d s e=>by
   cases m with
   |zero=>exact tv _ _ _ (by simpa only[jM] using e)
   |succ m=>
    cases a with
    |p o off=>cases s
    |sl o off len cap esz=>cases s
    |ag l=>
     cases d with
     |ag l'=>rw[(ih m).2 l l' s e]
     |_=>cases e
    |tu l=>
     cases d with
     |tu l'=>rw[(ih m).2 l l' s e]
     |_=>cases e
    |_=>exact tv _ _ _ (by simpa only[jM] using e)
  exact⟨H,lists _ m H⟩
def qh:Nat ->AV ->Bool
 |_,.b _|_,.i _ _|_,.s _|_,.pn|_,.sn|_,.mn|_,.fnil|_,.ifn|_,.un=>true
 |n+1,.dp l _|n+1,.ds l _ _ _|n+1,.ag l|n+1,.tu l=>List.rec (motive:=λ_=>Bool) true (λa _ ih=>qh n a&&ih) l
 |n+1,.ifc _ v=>qh n v
 |n+1,.f _ a b=>List.rec (motive:=λ_=>Bool) true (λa _ ih=>qh n a&&ih) a&&List.rec (motive:=λ_=>Bool) true (λa _ ih=>qh n a&&ih) b
 |_,_=>false
def wI (n:Nat) (l:List AV):Bool:=List.rec (motive:=λ_=>Bool) true (λa _ ih=>qh n a&&ih) l
def OW:∀n,(∀d,qh n d=true ->deep n h0 d=some d)/\ (∀l,wI n l=true ->bJ n h0 l=some l):=by
 have lists:∀n,(∀d,qh n d=true ->deep n h0 d=some d) ->(∀l,wI n l=true ->bJ n h0 l=some l):=λn H l=>by
  induction l with
  |nil=>intro _;rfl
  |cons a l ih=>
   intro s;obtain⟨s1,s2⟩:=nj.1 (show(qh n a&&wI n l)=true from s);rw[aL,H a s1,ih s2]
 intro n;induction n with
 |zero=>
  have H:∀d,qh 0 d=true ->deep 0 h0 d=some d:=λd e=>by cases d<;>first|rfl|cases e
  exact⟨H,lists 0 H⟩
 |succ n ih=>
  have H:∀d,qh (n+1) d=true ->deep (n+1) h0 d=some d:=λd e=>by
   cases d with
   |dp l o=>show(match bJ n h0 l with|some l=>some (AV.dp l o)|none=>none)=_;rw[ih.2 l e]
   |ds l o k z=>show(match bJ n h0 l with|some l=>some (AV.ds l o k z)|none=>none)=_;rw[ih.2 l e]
   |ag l=>show(match bJ n h0 l with|some l=>some (AV.ag l)|none=>none)=_;rw[ih.2 l e]
   |tu l=>show(match bJ n h0 l with|some l=>some (AV.tu l)|none=>none)=_;rw[ih.2 l e]
   |ifc t v=>show(match deep n h0 v with|some v=>some (AV.ifc t v)|none=>none)=_;rw[ih.1 v e]
   |f g a b=>
    obtain⟨e1,e2⟩:=nj.1 (show(wI n a&&wI n b)=true from e);show(match bJ n h0 a,bJ n h0 b with|some a,some b=>some (AV.f g a b)|_,_=>none)=_;rw[ih.2 a e1,ih.2 b e2]
   |_=>first|rfl|cases e
  exact⟨H,lists _ H⟩
structure aP where
 a:List AV
 d:AV
def yj:Nat ->AH ->List Nat ->List AV ->List Nat
 |0,_,acc,_=>acc
 |n+1,h,acc,l=>List.rec (motive:=λ_=>List Nat ->List Nat) (λacc=>acc) (λv _ ih acc=>ih (match v with
  | .p o _=>match h.oB.get o with|some (.cells _ c)=>yj n h (o::acc) c|_=>acc
  | .sl o _ _ _ _=>match h.oB.get o with|some (.cells _ c)=>yj n h (o::acc) c|_=>acc
  | .ag c=>yj n h acc c
  | .tu c=>yj n h acc c
  |_=>acc)) l acc
section
variable {R:Type}
def Dr (e:aP) (a:List AV) (h:AH) (k:AV ->AH ->R) (nx:R):R:=
 bif qg 20 h a e.a then
  bif AO 20 a then k e.d h else bif kI 6 e.d then k e.d h else
   match yj 20 h [] a with
   |l=>bif qg 20 (qT h l) a e.a then k e.d (tE h l) else nx
 else nx
def Ds (a:List AV) (h:AH) (k:AV ->AH ->R) (nx:R) (l:List aP):R:=List.rec (motive:=λ_=>R) nx (λe _ ih=>Dr e a h k ih) l
end
def sf (P:Program) (X:aR) (GL:T (List AV)) (ae:T au) (f:Nat) (e:aP):Prop:=bg P X GL ae f e.a e.d/\ bJ 30 h0 e.a=some e.a
variable (S:aT P X GL ae)
def ak8 {f:Nat} {e:aP} (he:sf P X GL ae f e) {a:List AV} {h:AH} {R:Type} {Tr:R ->Prop} {kb:AV ->AH ->R} {nx:R} (hr:Tr (Dr e a h kb nx)):
 (∃v h',Tr (kb v h')/\ bP P X GL f a h v h')∨Tr nx:=by
 unfold Dr at hr;cases h1:qg 20 h a e.a with
 |false=>rw[h1] at hr;exact .inr hr
 |true=>
  rw[h1,fC] at hr;cases h2:AO 20 a with
  |true=>
   rw[h2,fC] at hr;have ea:=(ak7 (h:=h) 20 20).2 a e.a h2 h1;rw[ea];exact .inl ⟨e.d,h,hr,dR S he.1 he.2 h⟩
  |false=>
   rw[h2,eU] at hr;cases h3:kI 6 e.d with
   |true=>
    rw[h3,fC] at hr;exact .inl ⟨e.d,h,hr,oE S he.1 ((Hk 20 30).2 a e.a h1 he.2) h3⟩
   |false=>
    rw[h3,eU] at hr;dsimp only at hr;cases h4:qg 20 (qT h (yj 20 h [] a)) a e.a with
    |false=>rw[h4] at hr;exact .inr hr
    |true=>
     rw[h4,fC] at hr;exact .inl ⟨e.d,_,hr,Dq S he.1 ((Hk 20 30).2 a e.a h4 he.2)⟩
def OX (S:aT P X GL ae) {f:Nat}:∀{l:List aP},(∀e∈l,sf P X GL ae f e) ->∀{a:List AV} {h:AH} {R:Type} {Tr:R ->Prop} {kb:AV ->AH ->R} {nx:R},Tr (Ds a h kb nx l) ->
 (∃v h',Tr (kb v h')/\ bP P X GL f a h v h')∨Tr nx
 |[],_,a,h,R,Tr,kb,nx,hr=> .inr hr
 |e::l,he,a,h,R,Tr,kb,nx,hr=>by
  rcases ak8 S (he e (by simp)) (show Tr (Dr e a h kb (Ds a h kb nx l)) from hr) with h1|h1
  ·exact .inl h1
  ·exact OX S (λe q=>he e (by simp[q])) h1
def Dt (P:Program) (X:aR) (GL:T (List AV)) (bi:Nat ->List AV ->AH ->Option (AV×AH)):Prop:=∀f a h v h',bi f a h=some (v,h') ->bP P X GL f a h v h'
def Du (P:Program) (X:aR) (GL:T (List AV)) (ae:T au) (tb:T (List aP)):Prop:=∀f l,tb.get f=some l ->∀e∈l,sf P X GL ae f e
def OY (a b:List Bool ->Bool):List Bool ->Bool
 |[]=>a []&&b []
 |true::p=>a p
 |false::p=>b p
inductive Dv where
 |leaf
 |node (l r:Dv)
def wJ:Dv ->(List Bool ->Bool) ->Prop
 | .leaf,r=>r []=true
 | .node a b,r=>wJ a (λp=>r (true::p))/\ wJ b (λp=>r (false::p))
def yl (r:List Bool ->Bool):Prop:=∃c,wJ c r
def Hl:∀c,¬wJ c (λ_=>false)
 | .leaf,h=>Bool.noConfusion h
 | .node a _,h=>Hl a h.1
def Dw {b:Bool}:∀{c:Dv} {r:List Bool ->Bool},wJ c (λp=>r p&&b) ->wJ c r/\ b=true
 | .leaf,_,h=>nj.1 h
 | .node _ _,_,h=>⟨⟨(Dw h.1).1,(Dw h.2).1⟩,(Dw h.1).2⟩
def ak9 {b:Bool} (h:yl λ_=>b):b=true:=by
 cases b with
 |true=>rfl
 |false=>obtain⟨c,h⟩:=h;exact(Hl c h).elim
def al0 {a b:List Bool ->Bool} (h:yl (OY a b)):yl a/\ yl b:=by
 obtain⟨c,h⟩:=h;cases c with
 |leaf=>exact⟨⟨.leaf,(nj.1 h).1⟩,⟨.leaf,(nj.1 h).2⟩⟩
 |node l r=>exact⟨⟨l,h.1⟩,⟨r,h.2⟩⟩
def AQ (GL:T (List AV)) (bt:T au) (bi:Nat ->List AV ->AH ->Option (AV×AH)) (tb:T (List aP)):aK (List Bool ->Bool) where
 ae:=bt
 gL:=GL
 spec:=λf a h k fb=>match tb.get f with
  |some l=>Ds a h k fb l
  |none=>match bi f a h with
   |some r=>k r.1 r.2
   |none=>fb
 fail:=λ_=>false
 both:=OY
def Hm (GL:T (List AV)) (bt:T au) (bi:Nat ->List AV ->AH ->Option (AV×AH)) (tb:T (List aP)) (n f:Nat) (e:aP) (p:List Bool):Bool:=
 j4 (AQ GL bt bi tb) (run (AQ GL bt bi tb) n) f e.a h0 (λx h _=>jM 20 h x e.d) p&&(qh 30 e.d&&wI 30 e.a)
def OZ {bt:T au} {bi:Nat ->List AV ->AH ->Option (AV×AH)} {tb:T (List aP)} (hs:∀f m,bt.get f=some m ->ae.get f=some m) (hb:Dt P X GL bi) (ht:Du P X GL ae tb) {n f:Nat} {e:aP} {c:Dv}
 (hr:wJ c (Hm GL bt bi tb n f e)):sf P X GL ae f e:=by
 obtain⟨hr,h1⟩:=Dw hr;obtain⟨h1,h2⟩:=nj.1 h1;have hB:BP yl (AQ GL bt bi tb) (tD P X GL ae):={
  ae:=hs
  gL:=rfl
  fail:=λ⟨c,h⟩=>Hl c h
  both:=λ_ _ h=>al0 h
  both':=λ_ _=>rfl
  spec:=λf a h kb kp fb fp h1 h2 h3=>by
   show(∃v h',kp v h'/\ bP P X GL f a h v h')∨fp;have h3':yl (match tb.get f with
    |some l=>Ds a h kb fb l
    |none=>match bi f a h with
     |some r=>kb r.1 r.2
     |none=>fb):=h3
   cases hv:tb.get f with
   |some l=>
    rw[hv] at h3';rcases OX S (ht f l hv) h3' with ⟨v,h',q1,q2⟩|q
    ·exact .inl ⟨v,h',h1 _ _ q1,q2⟩
    ·exact .inr (h2 q)
   |none=>
    rw[hv] at h3';dsimp only at h3';cases hq:bi f a h with
    |none=>rw[hq] at h3';exact .inr (h2 h3')
    |some r=>rw[hq] at h3';exact .inl ⟨r.1,r.2,h1 _ _ h3',hb f a h r.1 r.2 hq⟩ }
 refine⟨⟨n,Do hB (OT hB n) f e.a h0 _ _ (λx h hx=> ?_) ⟨c,hr⟩⟩,(OW 30).2 _ h2⟩;exact⟨30,(Hk 20 30).1 x e.d (ak9 hx) ((OW 30).1 _ h1)⟩
def al1 (a:MA) (ev:MA ->AV) (h:AH):ay:=fV (ev a) λx=> .v x h
def al2 (c:MA) (a:MA) (b:MA) (ev:MA ->AV) (h:AH):ay:=match ev c with| .b x=>Bool.rec (motive:=λ_=>ay) (fV (ev b) λx=> .v x h) (fV (ev a) λx=> .v x h) x|_=> .bad
def al3 (z:List AV) (ev:MA ->AV) (h:AH):ay:=h.new (.cells h.ver z) λo h=> .v (.p o 0) h
def al4 (a:MA) (u1:Nat) (ev:MA ->AV) (h:AH):ay:=match cellsO (ev a) with|some l=>h.new (.cells h.ver l) λo h=> .v (.p o 0) h|none=> .bad
def al5 (z:List AV) (ps:List (Nat×Nat×MA)) (ev:MA ->AV) (h:AH):ay:=match ik ev ps z with|some l=> .v (.ag l) h|none=> .bad
def al6 (z:List AV) (n:Nat) (esz:Nat) (ps:List (Nat×Nat×MA)) (ev:MA ->AV) (h:AH):ay:=match ik ev ps z with
 |some l=>h.new (.cells h.ver l) λo h=> .v (.sl o 0 n (some n) esz) h
 |none=> .bad
def al7 (a:MA) (n:Nat) (agg:Bool) (ev:MA ->AV) (h:AH):ay:=match ev a with
 | .p o off=>match h.cells o with
  |some l=>match sub l off n with|some c=>dr h (dB agg c)|none=> .bad
  |none=> .bad
 | .dp l off=>match sub l off n with|some c=>dr h (dB agg c)|none=> .bad
 |_=> .bad
def al8 (a:MA) (x:MA) (n:Nat) (ev:MA ->AV) (h:AH):ay:=match ev a with
 | .p o off=>match h.cells o with
  |some l=>fV (ev x) λx=>match dW (cellsOf x) l off with
   |some l'=>bif cF (cellsOf x)&&Nat.beq (len (cellsOf x)) n then h.put o (.cells (Nat.succ h.ver) l') λh=> .v .un h else .bad
   |none=> .bad
  |none=> .bad
 |_=> .bad
def al9 (a:MA) (ev:MA ->AV) (h:AH):ay:=match ev a with
 | .p o a=> .v (.p o a) h
 | .dp l a=> .v (.dp l a) h
 | .f g a b=> .v (.f g a b) h
 | .y l=> .v (.y l) h
 | .ifc t v=> .v (.ifc t v) h
 | .m o=> .v (.m o) h
 |_=> .bad
def am0 (op:BinOp) (x:MA) (y:MA) (ev:MA ->AV) (h:AH):ay:=dr h (aY op (ev x) (ev y))
def am1 (ne:Bool) (e:ET) (x:MA) (y:MA) (ev:MA ->AV) (h:AH):ay:=match eH 6 e (ev x) (ev y) with|some r=> .v (.b (bif ne then !r else r)) h|none=> .bad
def am2 (op:UnOp) (x:MA) (ev:MA ->AV) (h:AH):ay:=dr h (um op (ev x))
def am3 (k:IntKind) (x:MA) (ev:MA ->AV) (h:AH):ay:=match ev x with| .i _ n=>dr h (ri k (dN k n))|_=> .bad
def am4 (x:MA) (ev:MA ->AV) (h:AH):ay:=match ev x with| .s l=> .v (.s l) h|_=> .bad
def am5 (x:MA) (ev:MA ->AV) (h:AH):ay:=match ev x with
 | .s l=>match eM (λb=>some (AV.i .u8 (.ofNat b))) l with
  |some c=>fN (len l) λn=>h.new (.cells h.ver c) λo h=> .v (.sl o 0 n none 1) h
  |none=> .bad
 |_=> .bad
def am6 (x:MA) (ev:MA ->AV) (h:AH):ay:=match ev x with
 | .s _=> .bad
 |y=>match eI h 1 y with
  |some l=>match mE l with|some b=> .v (.s b) h|none=> .bad
  |none=> .bad
def am7 (t:TypeId) (x:MA) (ev:MA ->AV) (h:AH):ay:=fV (ev x) λx=> .v (.ifc t x) h
def am8 (fn:Nat) (a:List MA) (b:List MA) (ev:MA ->AV) (h:AH):ay:=match eE ev a,eE ev b with|some a,some b=> .v (.f fn a b) h|_,_=> .bad
def am9 (r:Option MA) (ev:MA ->AV) (h:AH):ay:=match r with
 |none=>h.new (.map h.ver [] 0) λo h=> .v (.m o) h
 |some a=>match ev a with| .i _ _=>h.new (.map h.ver [] 0) λo h=> .v (.m o) h|_=> .bad
def an0 (z:List AV) (esz:Nat) (u2:Nat) (l:MA) (c:MA) (ev:MA ->AV) (h:AH):ay:=match nA ev l,nA ev c with
 |some l,some c=>bif Nat.ble l c&&Nat.ble c 1048576 then (match rN z c with
  |some r=>h.new (.cells h.ver r) λo h=> .v (.sl o 0 l (some c) esz) h
  |none=> .bad) else .bad
 |_,_=> .bad
def an3 (es:Nat) (x:MA) (lo:Option MA) (hi:Option MA) (mx:Option MA) (ev:MA ->AV) (h:AH):ay:=match ev x with
 | .sl o off n cap esz=>bif !(Nat.beq esz es) then .bad else match cap with
  |some c=>match d7 n c (nO ev lo) (nO ev hi) (nO ev mx) with
   |some (l,r,m)=>fN (off+l*esz) λoff=>fN (r-l) λn=>fN (m-l) λc=> .v (.sl o off n (some c) esz) h
   |none=> .bad
  |none=>match mx with
   |none=>match d7 n n (nO ev lo) (nO ev hi) none with
    |some (l,r,_)=>fN (off+l*esz) λoff=>fN (r-l) λn=> .v (.sl o off n none esz) h
    |none=> .bad
   |some mx=>match d7 n n (nO ev lo) (nO ev hi) (nO ev (some mx)) with
    |some (l,r,m)=>fN (off+l*esz) λoff=>fN (r-l) λn=>fN (m-l) λc=> .v (.sl o off n (some c) esz) h
    |none=> .bad
 | .ds c off n esz=>bif !(Nat.beq esz es) then .bad else match mx with
  |none=>match d7 n n (nO ev lo) (nO ev hi) none with
   |some (l,r,_)=>fN (off+l*esz) λoff=>fN (r-l) λn=> .v (.ds c off n esz) h
   |none=> .bad
  |some _=> .bad
 | .sn=>match d7 0 0 (nO ev lo) (nO ev hi) (nO ev mx) with|some _=> .v .sn h|none=> .bad
 |_=> .bad
def an4 (x:MA) (lo:Option MA) (hi:Option MA) (ev:MA ->AV) (h:AH):ay:=match ev x with
 | .s s=>match d7 (len s) (len s) (nO ev lo) (nO ev hi) none with
  |some (l,r,_)=>match sub s l (r-l) with|some t=> .v (.s t) h|none=> .bad
  |none=> .bad
 |_=> .bad
def an5 (n:Nat) (esz:Nat) (x:MA) (lo:Option MA) (hi:Option MA) (mx:Option MA) (ev:MA ->AV) (h:AH):ay:=match d7 n n (nO ev lo) (nO ev hi) (nO ev mx) with
 |some (l,r,m)=>match ev x with
  | .p o off=>match h.cells o with
   |some cs=>match sub cs off (n*esz) with
    |some _=>fN (off+l*esz) λoff=>fN (r-l) λn=>fN (m-l) λc=> .v (.sl o off n (some c) esz) h
    |none=> .bad
   |none=> .bad
  | .dp c off=>fN (off+l*esz) λoff=>fN (r-l) λn=> .v (.ds c off n esz) h
  |_=> .bad
 |none=> .bad
def an6 (x:MA) (off:Nat) (ev:MA ->AV) (h:AH):ay:=match ev x with
 | .p o a=>fN (a+off) λa=> .v (.p o a) h
 | .dp l a=>fN (a+off) λa=> .v (.dp l a) h
 |_=> .bad
def an7 (x:MA) (off:Nat) (n:Nat) (agg:Bool) (ev:MA ->AV) (h:AH):ay:=match ev x with
 | .ag l=>match sub l off n with|some c=>dr h (dB agg c)|none=> .bad
 |_=> .bad
def an8 (es:Nat) (x:MA) (i:MA) (ev:MA ->AV) (h:AH):ay:=match nA ev i with
 |some k=>match ev x with
  | .sl o off n _ esz=>bif Nat.beq esz es&&Nat.ble (Nat.succ k) n then fN (off+k*esz) λa=> .v (.p o a) h else .bad
  | .ds l off n esz=>bif Nat.beq esz es&&Nat.ble (Nat.succ k) n then fN (off+k*esz) λa=> .v (.dp l a) h else .bad
  |_=> .bad
 |none=> .bad
def an9 (n:Nat) (esz:Nat) (x:MA) (i:MA) (ev:MA ->AV) (h:AH):ay:=match nA ev i with
 |some k=>bif Nat.ble (Nat.succ k) n then (match ev x with
  | .p o off=>fN (off+k*esz) λa=> .v (.p o a) h
  | .dp l off=>fN (off+k*esz) λa=> .v (.dp l a) h
  |_=> .bad) else .bad
 |none=> .bad
def ao0 (x:MA) (i:MA) (ev:MA ->AV) (h:AH):ay:=match nA ev i,ev x with
 |some k,.s l=>match lH l k with|some b=> .v (.i .u8 (.ofNat b)) h|none=> .bad
 |_,_=> .bad
def ao1 (n:Nat) (esz:Nat) (agg:Bool) (x:MA) (i:MA) (ev:MA ->AV) (h:AH):ay:=match nA ev i,ev x with
 |some k,.ag l=>bif Nat.ble (Nat.succ k) n then (match sub l (k*esz) esz with|some c=>dr h (dB agg c)|none=> .bad) else .bad
 |_,_=> .bad
def ao2 (et:ET) (m:MA) (k:MA) (z:AV) (ok:Bool) (ev:MA ->AV) (h:AH):ay:=bif !(j3 et (ev k)) then .bad else
 match (match ev m with
  | .mn=>some none
  | .m o=>match h.get o with|some (.map _ es _)=>jx et (ev k) es|_=>none
  |_=>none) with
 |some (some e)=>Bool.rec (motive:=λ_=>ay) (.v e.2.1 h) (.v (.tu [e.2.1,.b true]) h) ok
 |some none=>Bool.rec (motive:=λ_=>ay) (.v z h) (.v (.tu [z,.b false]) h) ok
 |none=> .bad
def ao3 (et:ET) (m:MA) (k:MA) (x:MA) (ev:MA ->AV) (h:AH):ay:=bif !(j3 et (ev k)) then .bad else match ev m with
 | .m o=>match h.get o with
  |some (.map _ es cl)=>fV (ev k) λk=>fV (ev x) λx=>match jx et k es with
   |some (some e)=>bif o9 k e.1 then (match mF e.2.2 k x es with
    |some es=>h.put o (.map (Nat.succ h.ver) es cl) λh=> .v .un h
    |none=> .bad) else .bad
   |some none=>match fy es [(k,x,cl)] with
    |some es=>fN cl λcl=>h.put o (.map (Nat.succ h.ver) es (Nat.succ cl)) λh=> .v .un h
    |none=> .bad
   |none=> .bad
  |_=> .bad
 |_=> .bad
def ao4 (et:ET) (m:MA) (k:MA) (z:AV) (ev:MA ->AV) (h:AH):ay:=bif !(j3 et (ev k)) then .bad else match ev m with
 | .m o=>match h.get o with
  |some (.map _ es cl)=>fV (ev k) λk=>match jx et k es with
   |some (some e)=>bif o9 k e.1 then (match mF e.2.2 k e.2.1 es with
    |some es=>h.put o (.map (Nat.succ h.ver) es cl) λh=> .v (.tu [e.2.1,.i .i64 (.ofNat e.2.2)]) h
    |none=> .bad) else .bad
   |some none=>match fy es [(k,z,cl)] with
    |some es=>fN cl λcl=>h.put o (.map (Nat.succ h.ver) es (Nat.succ cl)) λh=> .v (.tu [z,.i .i64 (.ofNat cl)]) h
    |none=> .bad
   |none=> .bad
  |_=> .bad
 |_=> .bad
def ao5 (m:MA) (s:MA) (x:MA) (ev:MA ->AV) (h:AH):ay:=match ev m,nA ev s with
 | .m o,some b=>match h.get o with
  |some (.map _ es cl)=>fV (ev x) λx=>match pU b es with
   |some e=>match mF b e.1 x es with
    |some es=>h.put o (.map (Nat.succ h.ver) es cl) λh=> .v .un h
    |none=> .bad
   |none=> .bad
  |_=> .bad
 |_,_=> .bad
def ao6 (x:MA) (str:Bool) (ev:MA ->AV) (h:AH):ay:=match ev x with
 | .s l=>bif str then h.new (.sit l 0) λo h=> .v (.p o 0) h else .bad
 | .mn=>bif str then .bad else h.new (.mit none 0 [] 0) λo h=> .v (.p o 0) h
 | .m o=>bif str then .bad else match h.get o with
  |some (.map _ _ cl)=>h.new (.mit (some o) cl [] cl) λo h=> .v (.p o 0) h
  |_=> .bad
 |_=> .bad
def ao7 (x:MA) (jb:Bool) (ev:MA ->AV) (h:AH):ay:=match ev x with
 | .p o off=>bif Nat.beq off 0 then vS h o jb else .bad
 |_=> .bad
def ao8 (x:MA) (ev:MA ->AV) (h:AH):ay:=match ev x with
 | .p o off=>bif Nat.beq off 0 then vT h o else .bad
 |_=> .bad
def ao9 (x:MA) (t:TypeId) (ok:Bool) (z:AV) (ev:MA ->AV) (h:AH):ay:=match ev x with
 | .ifc u y=>bif Nat.beq u t then Bool.rec (motive:=λ_=>ay) (.v y h) (.v (.tu [y,.b true]) h) ok else bif ok then .v (.tu [z,.b false]) h else .bad
 | .ifn=>bif ok then .v (.tu [z,.b false]) h else .bad
 |_=> .bad
def ap5 (x:MA) (i:Nat) (ev:MA ->AV) (h:AH):ay:=match ev x with| .tu l=>dr h (lH l i)|_=> .bad
def ap6 (f:Nat) (args:List MA) (ev:MA ->AV) (h:AH):ay:=match eE ev args with|some l=> .call f l h|none=> .bad
def ap7 (f:MA) (args:List MA) (ev:MA ->AV) (h:AH):ay:=match eE ev args with
 |some l=>match ev f with
  | .f g fi ca=>match fy l ca with
   |some l=>match fy fi l with|some l=> .call g l h|none=> .bad
   |none=> .bad
  | .y o=> .yld o l h
  |_=> .bad
 |none=> .bad
def ap8 (r:MA) (tbl:List (Nat×Nat)) (args:List MA) (ev:MA ->AV) (h:AH):ay:=match ev r,eE ev args with
 | .ifc t x,some l=>match xN t tbl with|some f=> .call f (x::l) h|none=> .bad
 |_,_=> .bad
def ap9 (s:MA) (x:MA) (esz:Nat) (u3:Nat) (ev:MA ->AV) (h:AH):ay:=match ij (ev x),eI h esz (ev x) with
 |some n,some l=>gD h (ev s) n l esz
 |_,_=> .bad
def aq0 (s:MA) (x:MA) (esz:Nat) (u4:Nat) (z:List AV) (ev:MA ->AV) (h:AH):ay:=match ev s,nA ev x with
 | .sn,some (n+1)=>bif Nat.ble n 1000000 then (match rN z (Nat.succ n) with
  |some r=>h.new (.cells h.ver r) λo h=> .v (.sl o 0 (Nat.succ n) none esz) h
  |none=> .bad) else .bad
 |_,_=> .bad
def aq1 (k:Ly) (x:MA) (ev:MA ->AV) (h:AH):ay:=match k with
 | .str=>match ev x with| .s l=>fN (len l) λn=> .v (ι (.ofNat n)) h|_=> .bad
 | .arr n=> .v (ι (.ofNat n)) h
 | .slice=>match ev x with
  | .s _=> .bad
  |y=>match ij y with|some n=> .v (ι (.ofNat n)) h|none=> .bad
 | .map=>match ev x with
  | .mn=> .v (ι (.ofNat 0)) h
  | .m o=>match h.get o with|some (.map _ es _)=>fN (len es) λn=> .v (ι (.ofNat n)) h|_=> .bad
  |_=> .bad
def aq2 (x:MA) (ev:MA ->AV) (h:AH):ay:=match ev x with
 | .sn=> .v (ι (.ofNat 0)) h
 | .sl _ _ _ (some c) _=> .v (ι (.ofNat c)) h
 |_=> .bad
def aq3 (d:MA) (s:MA) (esz:Nat) (ev:MA ->AV) (h:AH):ay:=match ij (ev s) with
 |some b=>match ev d with
  | .sl o off a _ _=>match eI h esz (ev s),h.cells o with
   |some l,some cs=>fN (bif Nat.ble a b then a else b) λn=>
    match xL l (n*esz) with
    |some c=>match dW c cs off with
     |some cs'=>bif cF c then h.put o (.cells (Nat.succ h.ver) cs') λh=> .v (ι (.ofNat n)) h else .bad
     |none=> .bad
    |_=> .bad
   |_,_=> .bad
  | .sn=> .v (ι (.ofNat 0)) h
  |_=> .bad
 |_=> .bad
def aq4 (l:List MA) (ev:MA ->AV) (h:AH):ay:=match eE ev l with|some (.i k a::r)=>dr h (jy fD k r a)|_=> .bad
def aq5 (l:List MA) (ev:MA ->AV) (h:AH):ay:=match eE ev l with|some (.i k a::r)=>dr h (jy (λx y=>fD y x) k r a)|_=> .bad
def aq6 (et:ET) (m:MA) (k:MA) (ev:MA ->AV) (h:AH):ay:=bif !(j3 et (ev k)) then .bad else match ev m with
 | .mn=> .v (.tu []) h
 | .m o=>match h.get o with
  |some (.map _ es cl)=>match jx et (ev k) es with
   |some (some e)=>match Lz e.2.2 es with
    |some es=>h.put o (.map (Nat.succ h.ver) es cl) λh=> .v (.tu []) h
    |none=> .bad
   |some none=> .v (.tu []) h
   |none=> .bad
  |_=> .bad
 |_=> .bad
def aq7 (T:Nat) (z:List AV) (ev:MA ->AV) (h:AH):ay:=h.new (.tc T true z) λo h=> .v (.p o 0) h
def aq8 (T:Nat) (a:MA) (ev:MA ->AV) (h:AH):ay:=match cellsO (ev a) with|some l=>h.new (.tc T true l) λo h=> .v (.p o 0) h|none=> .bad
def aq9 (a:MA) (x:MA) (n:Nat) (ev:MA ->AV) (h:AH):ay:=match ev a with
 | .p o off=>match h.get o with
  |some (.tc T wh l)=>fV (ev x) λx=>match dW (cellsOf x) l off with
   |some l'=>bif cF (cellsOf x)&&Nat.beq (len (cellsOf x)) n then h.put o (.tc T wh l') λh=> .v .un h else .bad
   |none=> .bad
  |some (.cells _ l)=>fV (ev x) λx=>match dW (cellsOf x) l off with
   |some l'=>bif cF (cellsOf x)&&Nat.beq (len (cellsOf x)) n then h.put o (.cells 0 l') λh=> .v .un h else .bad
   |none=> .bad
  |_=> .bad
 |_=> .bad
def ar0 (a:MA) (n:Nat) (agg:Bool) (ev:MA ->AV) (h:AH):ay:=match ev a with
 | .p o off=>match h.rows o with
  |some l=>match sub l off n with|some c=>dr h (dB agg c)|none=> .bad
  |none=> .bad
 | .dp l off=>match sub l off n with|some c=>dr h (dB agg c)|none=> .bad
 |_=> .bad
def ar1 (T:Nat) (s:MA) (x:MA) (esz:Nat) (u5:Nat) (ev:MA ->AV) (h:AH):ay:=match ij (ev x),eI h esz (ev x) with
 |some n,some l=>vO h T (ev s) n l esz
 |_,_=> .bad
def ar2 (x:MA) (ev:MA ->AV) (h:AH):ay:=match ev x with
 | .p o off=>match h.get o with
  |some (.tc _ _ l)=>bif Nat.ble (Nat.succ off) (len l) then .v (.p o off) h else .bad
  |_=> .bad
 |_=> .bad
def ar3 (tbl:List (Nat×Nat×Nat)) (x:MA) (ev:MA ->AV) (h:AH):ay:=match ev x with
 | .p o off=>match h.get o with
  |some (.tc T true l)=>bif zL T (len l) off tbl then .v (.p o off) h else .bad
  |_=> .bad
 |_=> .bad
def ar4 (x:MA) (ev:MA ->AV) (h:AH):ay:=match ev x with
 | .sn=> .v .pn h
 | .sl o off (n+1) c e=> .v (.p o off) h
 |_=> .bad
def ar5 (T:Nat) (p:MA) (n:MA) (ev:MA ->AV) (h:AH):ay:=match ev n with
 | .i .i64 (.ofNat 0)=>(match ev p with| .pn=> .v (.s []) h|_=> .bad)
 | .i .i64 (.ofNat (n+1))=>(match ev p with
  | .p o 0=>match h.get o with
   |some (.tc T' _ l)=>bif Nat.beq T' T&&Nat.ble n 1048576 then (match sub l 0 (Nat.succ n) with
    |some c=>match mE c with
     |some b=>h.put o .gone λh=> .v (.s b) h
     |none=> .bad
    |none=> .bad) else .bad
   |_=> .bad
  |_=> .bad)
 |_=> .bad
def ar6 (u6:Nat) (ev:MA ->AV) (h:AH):ay:= .bad
def AR (op:jn):(MA ->AV) ->AH ->ay:=jn.rec (motive:=λ_=>(MA ->AV) ->AH ->ay) al1 al2 al3 al4 al5 al6 al7 al8 al9 am0 am1 am2 am3 am4 am5 am6 am7 am8 am9 an0 an3 an4 an5 an6 an7 an8 an9 ao0 ao1 ao2 ao3 ao4 ao5 ao6 ao7 ao8 ao9 ap5 ap6 ap7 ap8 ap9 aq0 aq1 aq2 aq3 aq4 aq5 aq6 aq7 aq8 aq9 ar0 ar1 ar2 ar3 ar4 ar5 ar6 op
def Hn {ev:MA ->AV} {h:AH} (op:jn):AR op ev h=step ev h op:=by cases op<;>rfl
section
variable {R:Type} (C:aK R)
def Dx (bz bA:Nat ->List AV ->AH ->(AV ->AH ->R) ->R) (op:jn) (τ:T AV) (h:AH) (k:AV ->AH ->R):R:=
 ay.rec (motive:=λ_=>R) (λx h=>k x h) (λf args h=>bz f args h k) (λl args h=>bA l args h k) (λl=>gQ C k l) C.fail (AR op (az C τ) h)
def ar7 (act:R) (q:Nat×Bool) (τ:T AV) (h:AH) (k:AV ->AH ->R):R:=
 match τ.get q.1 with
  |some (.b x)=>Bool.rec (motive:=λ_=>R) (k (.tu []) h) act (bif x then q.2 else !q.2)
  |some (.tu [])=>k (.tu []) h
  |_=>C.fail
def ym (bz bA:Nat ->List AV ->AH ->(AV ->AH ->R) ->R) (g:MG) (τ:T AV) (h:AH) (k:AV ->AH ->R):R:=
 Option.rec (motive:=λ_=>R) (Dx C bz bA g.op τ h k) (λq=>ar7 C (Dx C bz bA g.op τ h k) q τ h k) g.guard
def O0 (bz bA:Nat ->List AV ->AH ->(AV ->AH ->R) ->R) (g:MG) (τ:T AV) (h:AH) (k:AV ->AH ->R):ym C bz bA g τ h k=eY C bz bA g τ h k:=by
 have ha:Dx C bz bA g.op τ h k=(match step (az C τ) h g.op with
  | .v x h=>k x h
  | .call f args h=>bz f args h k
  | .yld l args h=>bA l args h k
  | .alts l=>gQ C k l
  | .bad=>C.fail):=by
  unfold Dx;rw[Hn];cases step (az C τ) h g.op<;>rfl
 unfold ym eY;rw[ha];cases g.guard<;>rfl
def Ho (bz bA:Nat ->List AV ->AH ->(AV ->AH ->R) ->R) (k:T AV ->AH ->R) (l:List MG):T AV ->AH ->R:=
 List.rec (motive:=λ_=>T AV ->AH ->R) k (λg _ ih τ h=>ym C bz bA g τ h λx h=>eh τ g.dst x λτ=>ih τ h) l
def O1 (bz bA:Nat ->List AV ->AH ->(AV ->AH ->R) ->R) (k:T AV ->AH ->R):∀(l:List MG) (τ:T AV) (h:AH),Ho C bz bA k l τ h=dO C bz bA k l τ h
 |[],_,_=>rfl
 |g::l,τ,h=>by
  show ym C bz bA g τ h (λx h=>eh τ g.dst x λτ=>Ho C bz bA k l τ h)=eY C bz bA g τ h (λx h=>eh τ g.dst x λτ=>dO C bz bA k l τ h);rw[O0];congr 1;funext x h;congr 1;funext τ;exact O1 bz bA k l τ h
def yn (τ:T AV) (h:AH) (g:MG):Option AV:=
 match g.guard with
 |none=>ay.rec (motive:=λ_=>Option AV) (λx _=>some x) (λ_ _ _=>none) (λ_ _ _=>none) (λ_=>none) none (AR g.op (az C τ) h)
 |some _=>ez C τ h g
def O2 (τ:T AV) (h:AH) (g:MG):yn C τ h g=ez C τ h g:=by
 unfold yn ez;rw[Hn];cases g.guard with
 |none=>cases step (az C τ) h g.op<;>rfl
 |some q=>rfl
def yo (τ:T AV) (h:AH) (mask:Nat) (ls:List (Nat×MG)) (k:R):R:=
 List.rec (motive:=λ_=>R) k (λp _ ih=>bif Nat.testBit mask p.1 then ih else match yn C τ h p.2 with
  |some x=>match p.2.dst with
   |none=>ih
   |some d=>match τ.get d with
    |some y=>bif cZ 64 x y then ih else C.fail
    |none=>C.fail
  |none=>C.fail) ls
def O3 (τ:T AV) (h:AH) (mask:Nat) (k:R):∀ls,yo C τ h mask ls k=eA C τ h mask ls k
 |[]=>rfl
 |p::ls=>by
  show(bif Nat.testBit mask p.1 then yo C τ h mask ls k else match yn C τ h p.2 with
   |some x=>match p.2.dst with
    |none=>yo C τ h mask ls k
    |some d=>match τ.get d with
     |some y=>bif cZ 64 x y then yo C τ h mask ls k else C.fail
     |none=>C.fail
   |none=>C.fail)=_
  rw[O3 τ h mask k ls,O2];rfl
def O4 (bz bA:Nat ->List AV ->AH ->(AV ->AH ->R) ->R) (base:Nat) (d:DI) (ih:List (Nat×MG) ->List (Nat×Nat×bC) ->T AV ->AH ->R) (ls:List (Nat×MG)) (pd:List (Nat×Nat×bC)) (τ:T AV) (h:AH):R:=
 DI.rec (motive:=λ_=>R)
  (λi g=>Option.rec (motive:=λ_=>R) C.fail (λx=>eh τ g.dst x λτ=>ih ((i,g)::ls) pd τ h) (yn C τ h g))
  (λi n g=>fN (base+n) λid=>match AR g.op (az C τ) ⟨id,h.ver,.e⟩ with
   | .v x h'=>match h'.oB.get id with
    |some ob=>eh τ g.dst x λτ=>ih ls ((i,id,ob)::pd) τ h
    |none=>C.fail
   |_=>C.fail)
  (λi=>match iC i pd with
   |some (id,ob)=>h.put id ob λh=>ih ls pd τ h
   |none=>C.fail)
  (λ_ g mask=>ym C bz bA g τ h λx h=>eh τ g.dst x λτ=>yo C τ h mask ls (ih ls pd τ h)) d
def AT (bz bA:Nat ->List AV ->AH ->(AV ->AH ->R) ->R) (base:Nat) (k:T AV ->AH ->R) (l:List DI):List (Nat×MG) ->List (Nat×Nat×bC) ->T AV ->AH ->R:=
 List.rec (motive:=λ_=>List (Nat×MG) ->List (Nat×Nat×bC) ->T AV ->AH ->R) (λ_ _=>k) (λd _ ih=>O4 C bz bA base d ih) l
def O5 (bz bA:Nat ->List AV ->AH ->(AV ->AH ->R) ->R) (base:Nat) (k:T AV ->AH ->R):∀(l:List DI) (ls:List (Nat×MG)) (pd:List (Nat×Nat×bC)) (τ:T AV) (h:AH),
 AT C bz bA base k l ls pd τ h=bW C bz bA base k l ls pd τ h
 |[],_,_,_,_=>rfl
 |d::l,ls,pd,τ,h=>by
  have ih:AT C bz bA base k l=bW C bz bA base k l:=by funext ls pd τ h;exact O5 bz bA base k l ls pd τ h
  show O4 C bz bA base d (AT C bz bA base k l) ls pd τ h=_;rw[ih];cases d with
  |light i g=>
   show(Option.rec (motive:=λ_=>R) C.fail (λx=>eh τ g.dst x λτ=>bW C bz bA base k l ((i,g)::ls) pd τ h) (yn C τ h g))=_;rw[O2];show _=(match ez C τ h g with
    |some x=>eh τ g.dst x λτ=>bW C bz bA base k l ((i,g)::ls) pd τ h
    |none=>C.fail)
   cases ez C τ h g<;>rfl
  |resv i n g=>
   show(fN (base+n) λid=>match AR g.op (az C τ) ⟨id,h.ver,.e⟩ with
    | .v x h'=>match h'.oB.get id with
     |some ob=>eh τ g.dst x λτ=>bW C bz bA base k l ls ((i,id,ob)::pd) τ h
     |none=>C.fail
    |_=>C.fail)=_
   simp only[Hn];rfl
  |lay i=>rfl
  |heavy i g mask=>
   show ym C bz bA g τ h (λx h=>eh τ g.dst x λτ=>yo C τ h mask ls (bW C bz bA base k l ls pd τ h))=_;rw[O0];simp only[O3];rfl
end
section
variable {R:Type}
abbrev jN (R:Type):=aw ->K R ->T AV ->AH ->R
def ar8 (_:aK R) (_:jN R) (k:K R) (τ:T AV) (h:AH):R:=k .normal τ h
def ar9 (l:List MG) (C:aK R) (ih:jN R) (k:K R) (τ:T AV) (h:AH):R:=Ho C (iS C ih) (iD C ih) (λτ h=>k .normal τ h) l τ h
def as0 (n:Nat) (l:List DI) (C:aK R) (ih:jN R) (k:K R) (τ:T AV) (h:AH):R:=fN (h.next+n) λnx=>AT C (iS C ih) (iD C ih) h.next (λτ h=>k .normal τ h) l [] [] τ ⟨nx,h.ver,h.oB⟩
def as3 (l:List MG) (x:MA) (fn:Nat) (C:aK R) (ih:jN R) (k:K R) (τ:T AV) (h:AH):R:=dO C (iS C ih) (iD C ih) (λτ h=>match az C τ x with
 | .f g _ _=>bif Nat.beq g fn then k .normal τ h else C.fail
 |_=>C.fail) l τ h
def as4 (a b:aw) (_ _:aK R ->jN R ->K R ->T AV ->AH ->R) (_:aK R) (ih:jN R) (k:K R) (τ:T AV) (h:AH):R:=ih a (λe τ h=>match e with| .normal=>ih b k τ h|e=>k e τ h) τ h
def as5 (c:MA) (a b:aw) (_ _:aK R ->jN R ->K R ->T AV ->AH ->R) (C:aK R) (ih:jN R) (k:K R) (τ:T AV) (h:AH):R:=match az C τ c with
 | .b x=>Bool.rec (motive:=λ_=>R) (ih b k τ h) (ih a k τ h) x
 |_=>C.fail
def as6 (id:Nat) (c:aw) (_:aK R ->jN R ->K R ->T AV ->AH ->R) (_:aK R) (ih:jN R) (k:K R) (τ:T AV) (h:AH):R:=ih c (λe τ h=>match e with| .exit i=>bif Nat.beq i id then k .normal τ h else k (.exit i) τ h|e=>k e τ h) τ h
def as7 (c:aw) (_:aK R ->jN R ->K R ->T AV ->AH ->R) (_:aK R) (ih:jN R) (k:K R) (τ:T AV) (h:AH):R:=ih c (λe τ h=>match e with| .normal=>ih (.loop c) k τ h|e=>k e τ h) τ h
def as8 (f:MA) (ps:List Nat) (assign body:aw) (_ _:aK R ->jN R ->K R ->T AV ->AH ->R) (C:aK R) (ih:jN R) (k:K R) (τ:T AV) (h:AH):R:=h.new (.loop ps assign body τ 0 none) λl h=>
 let fin:AV ->AH ->R:=λ_ h=>match h.get l with
  |some (.loop _ _ _ _ 0 none)=>h.put l .gone λh=>k .normal τ h
  |some (.loop _ _ _ _ 2 (some (some i)))=>h.put l .gone λh=>k (.exit i) τ h
  |some (.loop _ _ _ _ 2 (some none))=>h.put l .gone λh=>k .ret τ h
  |_=>C.fail
 match az C τ f with
 | .f g fi ca=>match fy fi (.y l::ca) with
  |some l=>j4 C ih g l h fin
  |none=>C.fail
 |_=>C.fail
def as9 (id:Nat) (_:aK R) (_:jN R) (k:K R) (τ:T AV) (h:AH):R:=k (.exit id) τ h
def at0 (_:aK R) (_:jN R) (k:K R) (τ:T AV) (h:AH):R:=k .ret τ h
def at1 (_:Nat) (C:aK R) (_:jN R) (_:K R) (_:T AV) (_:AH):R:=C.fail
def O6 (c:aw):aK R ->jN R ->K R ->T AV ->AH ->R:=aw.rec (motive:=λ_=>aK R ->jN R ->K R ->T AV ->AH ->R) ar8 ar9 as0 as3 as4 as5 as6 as7 as8 as9 at0 at1 c
variable (C:aK R)
def Hp (n:Nat):jN R:=Nat.rec (motive:=λ_=>jN R) (λ_ _ _ _=>C.fail) (λ_ ih c=>O6 c C ih) n
def O7:∀n,Hp C n=run C n
 |0=>rfl
 |n+1=>by
  funext c k τ h;show O6 c C (Hp C n) k τ h=_;rw[O7 n];cases c with
  |ops l=>exact O1 C _ _ _ l τ h
  |draw z l=>
   show(fN (h.next+z) λnx=>AT C (iS C (run C n)) (iD C (run C n)) h.next (λτ h=>k .normal τ h) l [] [] τ ⟨nx,h.ver,h.oB⟩)=_;simp only[O5];rfl
  |_=>rfl
end
def aW (GL:T (List AV)) (bt:T au) (bi:Nat ->List AV ->AH ->Option (AV×AH)) (tb:T (List aP)) (n f:Nat) (e:aP) (p:List Bool):Bool:=
 j4 (AQ GL bt bi tb) (Hp (AQ GL bt bi tb) n) f e.a h0 (λx h _=>jM 20 h x e.d) p&&(qh 30 e.d&&wI 30 e.a)
def O8 {GL:T (List AV)} {bt:T au} {bi:Nat ->List AV ->AH ->Option (AV×AH)} {tb:T (List aP)} {n f:Nat} {e:aP}:aW GL bt bi tb n f e=Hm GL bt bi tb n f e:=by
 funext p;unfold aW Hm;rw[O7]
end
end AM
