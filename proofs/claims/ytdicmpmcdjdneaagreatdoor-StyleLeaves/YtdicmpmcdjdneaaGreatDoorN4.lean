import Derived.RangeFuncRecord
import Derived.Test.YtdicmpmcdjdneaaGreatDoorN3
set_option linter.all false
namespace AM
open Go
noncomputable section
section
variable {CR:Nat ->Code ->aw ->Prop}
structure mK (CR:Nat ->Code ->aw ->Prop) (s₀:Nat) (c:CE) (h:AH) (w:World) (id:Nat) (ob:bC):Prop where
 dM:c.dM id
 obj:gR CR c w id ob
 live:live ob=true
 lo:s₀<=(c.ρ id).1
 un:∀o ob',dU c h o ob' ->(c.ρ o).1≠(c.ρ id).1
 im:c.im (c.ρ id).1=none
variable {s₀ id:Nat} {c:CE} {h:AH} {w:World} {ob:bC}
def mK.lt (g:mK CR s₀ c h w id ob):(c.ρ id).1<w.heap.size:=g.obj.lt g.live
variable {c':CE} {w':World}
def mK.evo {h'} (g:mK CR s₀ c h w id ob) (e:cH CR c h w c' h' w'):mK CR s₀ c' h' w' id ob:=by
 have j:=e.ext.ρ id g.dM;refine⟨e.ext.dM id g.dM,g.obj.mono e.ext g.dM (e.keep.same _ g.lt g.un),g.live,by rw[j];exact g.lo,λo ob' G E=> ?_,?_⟩;rw[j] at E;rcases e.keep.new o ob' G with h1|⟨D,B,h1,h2⟩;have:=g.lt;omega;exact g.un D B h1 (h2.trans E);rw[j];rcases hi:c'.im (c.ρ id).1 with _|row;rfl;rcases e.keep.im _ row hi with h1|h1|⟨o,ob',h1,h2⟩;rw[g.im] at h1;cases h1;have:=g.lt;omega;exact bh h2 (g.un o ob' h1)
def gR.not_deferred {o obj} (h:gR CR c w o obj) (H:live obj=true) {d} (hd:w.heap[(c.ρ o).1]? =some (.deferred d)):False:=by
 cases obj with
 |cells v l=>obtain⟨row,t,lo,hi,vs,h1,_⟩:=h;rw[hd] at h1;cases h1
 |tc T wh l=>obtain⟨row,t,lo,hi,vs,h1,_⟩:=h;rw[hd] at h1;cases h1
 |map v L J=>obtain⟨G,h1,_⟩:=h;rw[hd] at h1;cases h1
 |sit l I=>obtain⟨_,bs,h1,_⟩:=h;rw[hd] at h1;cases h1
 |mit m B seen j=>have h1:=h.2.2;rw[hd] at h1;cases h1
 |loop ps assign body E st D=>obtain⟨r,N,h1,_⟩:=h;rw[hd] at h1;cases h1
 |gone=>cases H
def RS.adopt (r:RS CR c h w) (g:mK CR s₀ c h w id ob) ver (G:id<h.next):
 RS CR c ⟨h.next,ver,h.oB.put id ob⟩ w/\ (∀o ob',dU c ⟨h.next,ver,h.oB.put id ob⟩ o ob' ->(o=id/\ ob'=ob)∨(o≠id/\ dU c h o ob')):=by
 have hh:∀o ob',dU c ⟨h.next,ver,h.oB.put id ob⟩ o ob' ->(o=id/\ ob'=ob)∨(o≠id/\ dU c h o ob'):=by
  intro o ob' j;have E:=j.get;rw[T.get_put] at E;by_cases e:o=id
  grind
  rw[aD e] at E;exact .inr ⟨e,E,j.live,j.dM⟩
 refine⟨⟨r.nx,λo ob' j=> ?_,λo ob' j=> ?_,λo J I B h1 h2 D=> ?_,r.im,λo ob' j=> ?_,r.gl⟩,hh⟩;rw[T.get_put] at j;by_cases e:o=id;subst e;exact G;rw[aD e] at j;exact r.lt _ _ j;rcases hh o ob' j with ⟨rfl,rfl⟩|⟨_,e⟩;exact g.obj;exact r.obj _ _ e;rcases hh o I h1 with ⟨rfl,rfl⟩|⟨_,e⟩<;>rcases hh J B h2 with ⟨rfl,rfl⟩|⟨_,H⟩
 rfl;exact bh D.symm (g.un _ _ H);exact bh D (g.un _ _ e);exact r.inj _ _ _ _ e H D;rcases hh o ob' j with ⟨rfl,rfl⟩|⟨_,e⟩;exact g.im;exact r.dj _ _ e
def j6.adopt {c₀ h₀ w₀} (k:j6 c₀ h₀ w₀ c h w) (g:mK CR w₀.heap.size c h w id ob) ver (D:h₀.next<=id)
 (hh:∀o ob',dU c ⟨h.next,ver,h.oB.put id ob⟩ o ob' ->(o=id/\ ob'=ob)∨(o≠id/\ dU c h o ob')):j6 c₀ h₀ w₀ c ⟨h.next,ver,h.oB.put id ob⟩ w:=by
 refine⟨k.size,k.same,λo ob' j=> ?_,k.dM,k.nxt,k.im,λo j hd ob' B=> ?_,k.io⟩;rcases hh o ob' j with ⟨rfl,_⟩|⟨_,e⟩;exact .inl g.lo;exact k.new o ob' e;rw[T.get_put,aD (show o≠id by omega)] at B;exact k.dead o j hd ob' B
def mK.adopt {j ver ob'} (g:mK CR s₀ c h w id ob) (E:(c.ρ id).1≠(c.ρ j).1)
 (hh:∀o B,dU c ⟨h.next,ver,h.oB.put j ob'⟩ o B ->(o=j/\ B=ob')∨(o≠j/\ dU c h o B)):mK CR s₀ c ⟨h.next,ver,h.oB.put j ob'⟩ w id ob:=
 ⟨g.dM,g.obj,g.live,g.lo,λo B D=>by
  rcases hh o B D with ⟨rfl,_⟩|⟨_,e⟩;exact E.symm;exact g.un o B e,g.im⟩
structure C7 (c:CE) (h:AH) (w:World) (c':CE) (w':World) (id:Nat):Prop where
 ext:gE c c'
 old:∀b,b<w.heap.size ->w'.heap[b]? =w.heap[b]?
 size:w.heap.size<=w'.heap.size
 has:∀o ob,dU c' h o ob ->o≠id/\ dU c h o ob
 dM:∀o,c'.dM o ->c.dM o∨o=id
 im:c'.im=c.im
 ρ:(c'.ρ id).1=w.heap.size
 io:w'.os=w.os/\ w'.output=w.output
def RS.bring (r:RS CR c h w) (I:¬c.dM id) (D:zR h id) (H:id<h.next) {ob} (R:w'.heap=w.heap.push ob) n (Z:w'.os=w.os/\ w'.output=w.output:=by exact⟨rfl,rfl⟩):
 RS CR (c.add id w.heap.size 0 n) h w'/\ C7 c h w (c.add id w.heap.size 0 n) w' id:=by
 have J:=CE.add_ext c I w.heap.size 0 n;have B:∀b,b<w.heap.size ->w'.heap[b]? =w.heap[b]? :=λb hb=>by rw[R,Ch hb];exact(tJ hb).symm
 have hh:∀o ob,dU (c.add id w.heap.size 0 n) h o ob ->o≠id/\ dU c h o ob:=by
  intro o ob j;have U:o≠id:=λe=>by
   subst e;have:=D ob j.get;rw[j.live] at this;cases this
  exact⟨U,j.get,j.live,j.dM.resolve_right U⟩
 have E:∀o,o≠id ->(c.add id w.heap.size 0 n).ρ o=c.ρ o:=λo e=>by simp[CE.add,e]
 refine⟨⟨λo j=> ?_,r.lt,λo ob j=> ?_,λo G a b j L O=> ?_,λb row hb=> ?_,λo ob j=> ?_,λg l Y=> ?_⟩,J,B,by rw[R];simp,hh,λo j=>j,rfl,by rw[CE.add_ρ],Z⟩;rcases j with j|rfl;exact r.nx o j;exact H;have:=(hh o ob j).2;exact(r.obj o ob this).mono J this.dM (B _ ((r.obj o ob this).lt this.live));rw[E o (hh o a j).1,E G (hh G b L).1] at O;exact r.inj o G a b (hh o a j).2 (hh G b L).2 O;obtain⟨t,V,h1⟩:=r.im b row hb;exact⟨t,V,by rw[B b (r.im_lt hb)];exact h1⟩;rw[E o (hh o ob j).1];exact r.dj o ob (hh o ob j).2;obtain⟨row,vs,h1,h2,W⟩:=r.gl g l Y;exact⟨row,vs,h1,h2,W.mono J⟩
def mK.bring {B} (g:mK CR s₀ c h w B ob) (b:C7 c h w c' w' id):mK CR s₀ c' h w' B ob:=by
 have j:=b.ext.ρ B g.dM;refine⟨b.ext.dM _ g.dM,g.obj.mono b.ext g.dM (b.old _ g.lt),g.live,by rw[j];exact g.lo,λo ob' E D=> ?_,by rw[j,b.im];exact g.im⟩;have h1:=(b.has o ob' E).2;rw[j,b.ext.ρ o h1.dM] at D;exact g.un o ob' h1 D
def j6.bring {c₀ h₀ w₀} (k:j6 c₀ h₀ w₀ c h w) (b:C7 c h w c' w' id) (B:h₀.next<=id):j6 c₀ h₀ w₀ c' h w':=by
 refine⟨fJ k.size b.size,λq j E=>by rw[b.old q (iR j k.size)];exact k.same q j E,λo ob D=> ?_,λo D=> ?_,k.nxt,λq row j=> ?_,k.dead,⟨b.io.1.trans k.io.1,b.io.2.trans k.io.2⟩⟩;have h1:=(b.has o ob D).2;rw[b.ext.ρ o h1.dM];exact k.new o ob h1;rcases b.dM o D with h1|rfl;exact k.dM o h1;exact .inr B;rw[b.im] at j;exact k.im q row j
def lO.bring {P:Program} {s l} (m:lO P s c h w l) (b:C7 c h w c' w' id):lO P s c' h w' l:=by
 refine⟨λd hd=> ?_,m.apart⟩;rcases m.all d hd with ⟨r,h1,h2,j,E,G⟩|m
 case inr=>exact .inr m
 refine .inl ⟨r,h1,h2,iR j b.size,by rw[b.old r j];exact E,λo ob H D=> ?_⟩;have B:=(b.has o ob H).2;rw[b.ext.ρ o B.dM] at D;exact G o ob B D
def lO.adopt {P:Program} {s l} (m:lO P s c h w l) {ver} (g:mK CR s₀ c h w id ob)
 (hh:∀o ob',dU c ⟨h.next,ver,h.oB.put id ob⟩ o ob' ->(o=id/\ ob'=ob)∨(o≠id/\ dU c h o ob')):lO P s c ⟨h.next,ver,h.oB.put id ob⟩ w l:=by
 refine⟨λd hd=> ?_,m.apart⟩;rcases m.all d hd with ⟨r,h1,h2,D,j,E⟩|m
 case inr=>exact .inr m
 refine .inl ⟨r,h1,h2,D,j,λo ob' G B=> ?_⟩;rcases hh o ob' G with ⟨rfl,_⟩|⟨_,e⟩;rw[←B] at j;exact g.obj.not_deferred g.live j;exact E o ob' e B
variable {P:Program} {X:aR} {C:aK Prop}
structure jc (P:Program) (CR:Nat ->Code ->aw ->Prop) (X:aR) (C:aK Prop) (N s:Nat) (ops:Array Oper) (A:List Nat) (n HV:Nat) (c₀:CE) (h₀:AH) (w₀:World)
 (done laid:Nat) (bU:List (Nat×Nat)) (ls:List (Nat×MG)) (pd:List (Nat×Nat×bC)) (τ:T AV) (h:AH) (listed:Array Bool) (a:Act) (w:World) (c:CE) (τD:T AV):Prop where
 down:uF ops listed
 din:∀i,cD listed i ->bY done i=true
 cls:∀i,bY done i=true ->cD listed i∨(∃g,(i,g)∈ls)∨(∃k,(i,k)∈bU/\ bY laid i=false)
 laidL:∀i,bY laid i=true ->cD listed i
 lst:∀i g,(i,g)∈ls ->AS X N ops A HV done i g/\ (bY HV i=false/\ xX g.op=true)/\ bY done i=true
 als:∀i k,(i,k)∈bU ->∃g ob x,uH X N ops A done i g/\ (bY HV i=false/\ Ab g.op=true)/\ g.guard=none/\ k<n/\ bY done i=true/\ iC i pd=some (h₀.next+k,ob)/\
  (∃ver h1,step (az C τ) ⟨h₀.next+k,ver,.e⟩ g.op= .v x h1/\ h1.oB.get (h₀.next+k)=some ob)/\ (∀d,g.dst=some d ->τ.get d=some x)/\ (cD listed i ->bY laid i=false ->mK CR w₀.heap.size c h w (h₀.next+k) ob)
 rD:∀i k,(i,k)∈bU ->cD listed i ->c.dM (h₀.next+k)
 rlt:∀i k,(i,k)∈bU ->cD listed i ->(c.ρ (h₀.next+k)).1<w.heap.size
 disj:∀i g k,(i,g)∈ls ->(i,k)∈bU ->False
 runiq:∀i k k',(i,k)∈bU ->(i,k')∈bU ->k=k'
 kuniq:∀i i' k,(i,k)∈bU ->(i',k)∈bU ->i=i'
 apart:∀i k i' k',(i,k)∈bU ->(i',k')∈bU ->cD listed i ->cD listed i' ->i≠i' ->(c.ρ (h₀.next+k)).1≠(c.ρ (h₀.next+k')).1
 fresh:∀k,k<n ->(∀i,(i,k)∈bU ->¬cD listed i) ->¬c.dM (h₀.next+k)
 dead:∀k,k<n ->(∀i,(i,k)∈bU ->bY laid i=false) ->zR h (h₀.next+k)
 nx:h₀.next+n<=h.next
 st:St P CR C.gL N s c h w τD a
 sub:∀t,(∀(j:Nat) o,ops[j]? =some o ->o.dst=some t ->cD listed j) ->τD.get t=τ.get t
 old:∀t,(∀(j:Nat) o,ops[j]? =some o ->o.dst=some t ->bY done j=false) ->τD.get t=τ.get t
 ext:gE c₀ c
 keep:j6 c₀ h₀ w₀ c h w
def An (C:aK Prop) (τ:T AV) (h:AH) (ls:List (Nat×MG)) (listed:Array Bool):Prop:=
 ∀i g,(i,g)∈ls ->¬cD listed i ->∃x,y6 C τ h g=some x/\∀d,g.dst=some d ->τ.get d=some x
end
section
variable {P:Program} {CR:Nat ->Code ->aw ->Prop} {X:aR} {C:aK Prop}
variable {N s n HV:Nat} {ops:Array Oper} {A:List Nat} {c₀ c:CE} {h₀ h:AH} {w₀ w:World} {done laid:Nat} {bU:List (Nat×Nat)} {ls:List (Nat×MG)} {pd:List (Nat×Nat×bC)} {τ τD:T AV} {listed:Array Bool} {a:Act}
variable {o:Oper} {i:Nat}
def jc.agree (S:nM ops A) (I:jc P CR X C N s ops A n HV c₀ h₀ w₀ done laid bU ls pd τ h listed a w c τD) {g} (H:uH X N ops A done i g) (G:ops[i]? =some o) (hE:qd listed o):
 ∀t∈qc g,τ.get t=τD.get t:=by
 obtain⟨L,h1,h2,D⟩:=H;intro t J;exact(I.sub t λj B E hd=>tA S I.down i o G hE j (D t J j B E hd).1).symm
def jc.agreeH (S:nM ops A) (I:jc P CR X C N s ops A n HV c₀ h₀ w₀ done laid bU ls pd τ h listed a w c τD) {g} (hs:AS X N ops A HV done i g) (ho:ops[i]? =some o) (hE:qd listed o) (W:¬cD listed i):
 ∀t∈qc g,τ.get t=τD.get t:=by
 obtain⟨o',h1,h2,h3⟩:=hs;intro t ht;by_cases Y:∃(j:Nat) (B:Oper),ops[j]? =some B/\ B.dst=some t;obtain⟨j,B,E,hd⟩:=Y;rcases h3 t ht j B E hd with G|⟨G,H⟩;refine(I.sub t λO U R D=> ?_).symm;rw[←S.uniq j O B U t E R hd D];exact tA S I.down i o ho hE j G.1
 ·have L:¬cD listed j:=λV=>by
   rcases H with rfl|H;exact W V;exact W (tA S I.down j B E (I.down.down j B E V) i H)
  have J:bY done j=false:=by
   cases hb:bY done j;rfl;rcases I.cls j hb with q|⟨Z,q⟩|⟨k,q,_⟩;exact bh q L;have:=(I.lst j Z q).2.1.1;rw[G] at this;cases this;obtain⟨_,_,_,_,q2,_⟩:=I.als j k q;have:=q2.1;rw[G] at this;cases this
  refine(I.old t λO U R D=> ?_).symm;rw[←S.uniq j O B U t E R hd D];exact J
 exact(I.sub t λj B E hd=>bh ⟨j,B,E,hd⟩ Y).symm
def jc.old_set (I:jc P CR X C N s ops A n HV c₀ h₀ w₀ done laid bU ls pd τ h listed a w c τD) (G:ops[i]? =some o) {d} (hd:o.dst=d) (B:bY done i=true) x:
 ∀t,(∀(j) o',ops[j]? =some o' ->o'.dst=some t ->bY done j=false) ->(cj τD d x).get t=τ.get t:=by
 intro t D;have E:d≠some t:=λe=>by
  grind
 rw[←I.old t D];rcases d with _|d;rfl;show(τD.put d x).get t=_;rw[T.get_put,aD (λe=>E (by rw[e]))]
def jc.sub_set (S:nM ops A) (I:jc P CR X C N s ops A n HV c₀ h₀ w₀ done laid bU ls pd τ h listed a w c τD) (H:ops[i]? =some o) {d} (hd:o.dst=d) {x}
 (L:∀t,d=some t ->τ.get t=some x):∀t,(∀(j) D,ops[j]? =some D ->D.dst=some t ->cD (listed.setIfInBounds i true) j) ->(cj τD d x).get t=τ.get t:=by
 have hi:i<listed.size:=by rw[I.down.sz];exact(jX.1 H).1
 intro t J;have B:d≠some t ->τD.get t=τ.get t:=λO=>I.sub t λj D G E=>by
  rcases(cD.set hi).1 (J j D G E) with rfl|h1
  grind
  exact h1
 rcases d with _|d;exact B (by simp);show(τD.put d x).get t=_;rw[T.get_put];by_cases e:t=d
 grind
 grind
variable (hX:j7 P X) (hC:CfgOK C)
def ZW {nL bA} (G:uz P CR C.gL nL) (R:uA P CR C.gL bA) {ro Q}
 (S:nM ops A) (I:jc P CR X C N s ops A n HV c₀ h₀ w₀ done laid bU ls pd τ h listed a w c τD) (L:An C τ h ls listed) {g} (J:(i,g)∈ls) (O:ops[i]? =some o) (hE:qd listed o) (hn:¬cD listed i):
 wpOpIn (fw ro) 0 P ops Q i (λa' w'=>∃c' τD',jc P CR X C N s ops A n HV c₀ h₀ w₀ done laid bU ls pd τ h (listed.setIfInBounds i true) a' w' c' τD') a w:=by
 have hi:i<listed.size:=by rw[I.down.sz];exact(jX.1 O).1
 obtain⟨hs,⟨_,hl⟩,E⟩:=I.lst i g J;obtain⟨x,hv,hx⟩:=L i g J hn;have W:=I.agreeH S hs O hE hn;obtain⟨o',bT,U,b1⟩:=hs;rw[O] at bT;cases bT;have fH:o.dst=g.dst:=by
  simp only[lP,aB] at U;exact(uy U.2.1).1
 have cR:eY C nL bA g τD h (λy h'=>y=x/\ h'=h):=by
  rw[←MD C W,ZN C hl hv];exact⟨rfl,rfl⟩
 refine CZ hX hC G R O U cR I.st λy h' c' w' a' Y ev b0=> ?_;obtain⟨rfl,rfl⟩:=Y;exact⟨c',cj τD g.dst y,{
  down:=I.down.set O hE
  din:=λj B=>by
   rcases(cD.set hi).1 B with rfl|B;exact E;exact I.din j B
  cls:=λj B=>(I.cls j B).imp (λq=>(cD.set hi).2 (.inr q)) id
  laidL:=λj B=>(cD.set hi).2 (.inr (I.laidL j B))
  lst:=I.lst
  als:=λj k B=>by
   obtain⟨g',ob,x',q1,q2,q3,q4,q5,q6,q7,q8,q9⟩:=I.als j k B;refine⟨g',ob,x',q1,q2,q3,q4,q5,q6,q7,q8,λD H=> ?_⟩;rcases(cD.set hi).1 D with rfl|D;exact(I.disj _ _ _ J B).elim;exact(q9 D H).evo ev
  rD:=λj k B D=>by
   have e1:cD listed j:=((cD.set hi).1 D).resolve_left λe=>I.disj _ _ _ J (e▸B);exact ev.ext.dM _ (I.rD j k B e1)
  rlt:=λj k B D=>by
   have e1:cD listed j:=((cD.set hi).1 D).resolve_left λe=>I.disj _ _ _ J (e▸B);rw[ev.ext.ρ _ (I.rD j k B e1)];exact iR (I.rlt j k B e1) ev.keep.size
  disj:=I.disj
  runiq:=I.runiq
  kuniq:=I.kuniq
  apart:=λj k Z k' B m9 D V xt=>by
   have e1:cD listed j:=((cD.set hi).1 D).resolve_left λe=>I.disj _ _ _ J (e▸B);have e2:cD listed Z:=((cD.set hi).1 V).resolve_left λe=>I.disj _ _ _ J (e▸m9);have h1:=I.apart j k Z k' B m9 e1 e2 xt;rw[ev.ext.ρ _ (I.rD j k B e1),ev.ext.ρ _ (I.rD Z k' m9 e2)];exact h1
  fresh:=λk Y hf hd=>by
   have h1:=I.fresh k Y (λj B D=>hf j B ((cD.set hi).2 (.inr D)));rcases ev.keep.dM _ hd with h2|h2;exact h1 h2;have:=I.nx;omega
  dead:=I.dead
  nx:=I.nx
  st:=b0
  sub:=I.sub_set S O fH hx
  old:=I.old_set O fH E _
  ext:=I.ext.trans ev.ext
  keep:=I.keep.trans ev.keep }⟩
def ZX {ro Q}
 (S:nM ops A) (I:jc P CR X C N s ops A n HV c₀ h₀ w₀ done laid bU ls pd τ h listed a w c τD) {k} (Z:(i,k)∈bU) (Y:bY laid i=false) (ho:ops[i]? =some o) (hE:qd listed o) (hn:¬cD listed i):
 wpOpIn (fw ro) 0 P ops Q i (λa' w'=>∃c' τD',jc P CR X C N s ops A n HV c₀ h₀ w₀ done laid bU ls pd τ h (listed.setIfInBounds i true) a' w' c' τD') a w:=by
 have hi:i<listed.size:=by rw[I.down.sz];exact(jX.1 ho).1
 obtain⟨g,ob,x,hs,⟨_,b4⟩,b7,hk,R,d8,⟨ver,h1,L,J⟩,hx,_⟩:=I.als i k Z;have b3:=I.agree S hs ho hE;obtain⟨o',bT,aC,f0⟩:=hs;rw[ho] at bT;cases bT;simp only[lP,aB] at aC;obtain⟨k1,k2,k3⟩:=aC;have fH:=uy k2;have d2:o.guard=none:=by
  rw[b7] at k3;rcases hg:o.guard with _|q;rfl;rw[hg] at k3;cases k3
 have hw:Region.wanted o (yielded ops a.tmps)=true:=by simp[Region.wanted,d2]
 unfold wpOpIn;simp only[ho,hw,dZ];refine Mx (Mz k1) ?_;have b5:Cx CR c h w (az C τD) a.eval:=⟨I.st.rs,λm y Z=>zT C I.st.tr I.st.gl I.st.rs.gl Z⟩;have O:∀H,step (az C τ) H g.op=step (az C τD) H g.op:=λH=>PA (Cn C b3);have d0:¬c.dM (h₀.next+k):=I.fresh k hk λj B D=>hn (I.kuniq i j k Z B▸D);have W:zR h (h₀.next+k):=I.dead k hk λj B=>I.kuniq i j k Z B▸Y;have b8:h₀.next+k<h.next:=by have:=I.nx;omega
 rcases ZP hX b5 b4 k1 (o:=o) with ⟨obj,val,e1,e2,v,w',obx,nn,hr,⟨G,b1⟩,F⟩|b0;rw[O,e1,AH.new_eq] at L;injection L with hv1 hh1
 subst hv1;rw[←hh1] at J;dsimp only at J;rw[T.get_put,aF rfl] at J;cases J;rw[hr,Oper.uponIn_value,fH.1];obtain⟨d4,br⟩:=RS.bring I.st.rs d0 W b8 G nn b1;obtain⟨d1,d3⟩:=F (c.add (h₀.next+k) w.heap.size 0 nn) w' (h₀.next+k) ver br.ext (by simp) (by simp) (by simp) (by rw[G];simp);have b6:mK CR w₀.heap.size (c.add (h₀.next+k) w.heap.size 0 nn) h w' (h₀.next+k) (obj ver):=by
  refine⟨by simp,d1,e2 ver,by rw[br.ρ];exact I.keep.size,λU i9 hh he=> ?_,?_⟩;have h3:=(br.has U i9 hh).2;rw[br.ρ,br.ext.ρ U h3.dM] at he;have:=(I.st.rs.obj U i9 h3).lt h3.live;omega;rw[br.ρ,br.im];rcases hq:c.im w.heap.size with _|row;rfl;have:=I.st.rs.im_lt hq;omega
 refine⟨c.add (h₀.next+k) w.heap.size 0 nn,cj τD g.dst (val (h₀.next+k)),?_⟩;have E:∀{j k'},(j,k')∈bU ->cD (listed.setIfInBounds i true) j ->(j=i/\ k'=k)∨(j≠i/\ cD listed j):=by
  intro j k' B D;by_cases e:j=i;subst e;exact .inl ⟨rfl,I.runiq _ _ _ B Z⟩;exact .inr ⟨e,((cD.set hi).1 D).resolve_left λq=>e q.symm⟩
 have d6:∀{j k'},(j,k')∈bU ->cD listed j ->bY laid j=true∨bY laid j=false:=λ_ _=>by
  cases bY laid _<;>simp
 have d5:∀{j k'},(j,k')∈bU ->cD listed j ->(c.ρ (h₀.next+k')).1<w.heap.size:=λ{j k'} B D=>I.rlt j k' B D;exact {
  down:=I.down.set ho hE
  din:=λj B=>by
   rcases(cD.set hi).1 B with rfl|B;exact R;exact I.din j B
  cls:=λj B=>(I.cls j B).imp (λq=>(cD.set hi).2 (.inr q)) id
  laidL:=λj B=>(cD.set hi).2 (.inr (I.laidL j B))
  lst:=I.lst
  als:=λj k' B=>by
   obtain⟨g',ob',x',q1,q2,q3,q4,q5,q6,q7,q8,q9⟩:=I.als j k' B;refine⟨g',ob',x',q1,q2,q3,q4,q5,q6,q7,q8,λD c7=> ?_⟩;rcases E B D with ⟨rfl,rfl⟩|⟨_,D⟩
   grind
   exact(q9 D c7).bring br
  rD:=λj k' B D=>by
   rcases E B D with ⟨rfl,rfl⟩|⟨_,D⟩;simp;exact br.ext.dM _ (I.rD j k' B D)
  rlt:=λj k' B D=>by
   rcases E B D with ⟨rfl,rfl⟩|⟨_,D⟩;rw[br.ρ,G];simp;rw[br.ext.ρ _ (I.rD j k' B D)];exact iR (I.rlt j k' B D) br.size
  disj:=I.disj
  runiq:=I.runiq
  kuniq:=I.kuniq
  apart:=λj k' j' V B m9 D b2 xt=>by
   rcases E B D with ⟨rfl,rfl⟩|⟨f1,m1⟩<;>rcases E m9 b2 with ⟨rfl,rfl⟩|⟨f2,m2⟩
   exact bh rfl xt;rw[br.ρ,br.ext.ρ _ (I.rD j' V m9 m2)];have:=I.rlt j' V m9 m2;omega;rw[br.ρ,br.ext.ρ _ (I.rD j k' B m1)];have:=I.rlt j k' B m1;omega;rw[br.ext.ρ _ (I.rD j k' B m1),br.ext.ρ _ (I.rD j' V m9 m2)];exact I.apart j k' j' V B m9 m1 m2 xt
  fresh:=λk' c6 hf hd=>by
   rcases br.dM _ hd with h2|h2;exact I.fresh k' c6 (λj B D=>hf j B ((cD.set hi).2 (.inr D))) h2;have:k'=k:=by omega
   subst this;exact hf i Z ((cD.set hi).2 (.inl rfl))
  dead:=I.dead
  nx:=I.nx
  st:=⟨d4,z8 I.st.gl br.ext,TR.put (I.st.tr.mono br.ext) (λt ht=>iR (fH.2 t ht) I.st.sz) d3,by cases g.dst<;>simp[Act.put]<;>exact I.st.sz,
   by cases g.dst<;>exact I.st.marks.bring br⟩
  sub:=I.sub_set S ho fH.1 hx
  old:=I.old_set ho fH.1 R _
  ext:=I.ext.trans br.ext
  keep:=I.keep.bring br (xJ _ _) }
 rw[O,b0] at L;cases L
def jc.adopt (I:jc P CR X C N s ops A n HV c₀ h₀ w₀ done laid bU ls pd τ h listed a w c τD) {k} (Z:(i,k)∈bU) (H:bY laid i=false) (O:cD listed i) {id ob} (hf:iC i pd=some (id,ob)):
 jc P CR X C N s ops A n HV c₀ h₀ w₀ done (ip laid i) bU ls pd τ ⟨h.next,Nat.succ h.ver,h.oB.put id ob⟩ listed a w c τD:=by
 obtain⟨g,ob',x,q1,q2,q3,q4,q5,q6,q7,q8,q9⟩:=I.als i k Z;rw[hf] at q6;cases q6;have G:=q9 O H;have U:h₀.next+k<h.next:=by have:=I.nx;omega
 obtain⟨W,hh⟩:=RS.adopt I.st.rs G (Nat.succ h.ver) U;have B:∀{j},bY (ip laid i) j=false ->i≠j/\ bY laid j=false:=by
  grind[nK]
 exact {
  down:=I.down
  din:=I.din
  cls:=λj D=>by
   rcases I.cls j D with h1|h1|⟨k',h1,h2⟩;exact .inl h1;exact .inr (.inl h1)
   grind[nK]
  laidL:=λj D=>by
   rw[nK,ja,aU] at D;rcases D with D|rfl;exact I.laidL j D;exact O
  lst:=I.lst
  als:=λj k' D=>by
   obtain⟨g',J,x',p1,p2,p3,p4,p5,p6,p7,p8,p9⟩:=I.als j k' D;refine⟨g',J,x',p1,p2,p3,p4,p5,p6,p7,p8,λL E=> ?_⟩;obtain⟨xt,E⟩:=B E;exact(p9 L E).adopt (I.apart j k' i k D Z L O (Ne.symm xt)) hh
  rD:=I.rD
  rlt:=I.rlt
  disj:=I.disj
  runiq:=I.runiq
  kuniq:=I.kuniq
  apart:=I.apart
  fresh:=I.fresh
  dead:=λk' V R i9 Y=>by
   by_cases e:k'=k
   grind
   rw[T.get_put,aD (show h₀.next+k'≠h₀.next+k by omega)] at Y;exact I.dead k' V (λj D=>(B (R j D)).2) i9 Y
  nx:=I.nx
  st:=⟨W,I.st.gl,I.st.tr,I.st.sz,I.st.marks.adopt G hh⟩
  sub:=I.sub
  old:=I.old
  ext:=I.ext
  keep:=I.keep.adopt G _ (xJ _ _) hh }
def ox τ d x t:(cj τ d x).get t=if d=some t then some x else τ.get t:=by
 rcases d with _|d;simp[cj];show(τ.put d x).get t=_;rw[T.get_put];by_cases e:t=d;subst e;simp
 grind
variable {gj:MG}
def C8 {j} {g:MG} (E:ops[i]? =some o) (hd:o.dst=g.dst) (D:bY done i=false) (G:uH X N ops A done j gj) x:∀t∈qc gj,(cj τ g.dst x).get t=τ.get t:=by
 intro t H;rw[ox,aD];intro e;obtain⟨_,_,_,B⟩:=G;have:=(B t H i o E (hd.trans e)).2;rw[D] at this;cases this
def GM {j} {g:MG} (D:ops[i]? =some o) (hd:o.dst=g.dst) (H:bY done i=false) (I:bY HV i=false) (E:AS X N ops A HV done j gj) x:∀t∈qc gj,(cj τ g.dst x).get t=τ.get t:=by
 intro t G;rw[ox,aD];intro e;obtain⟨_,_,_,B⟩:=E;rcases B t G i o D (hd.trans e) with h|h
 grind
 grind
def MS (S:nM ops A) {j} {g:MG} (H:ops[i]? =some o) (hd:o.dst=g.dst) (G:bY done i=false) (I:AS X N ops A HV done j gj) (E:bY done j=true) x:
 ∀d,gj.dst=some d ->(cj τ g.dst x).get d=τ.get d:=by
 intro d D;rw[ox,aD];intro e;obtain⟨J,h1,h2,_⟩:=I;simp only[lP,aB] at h2;have B:=(uy h2.2.1).1;have:=S.uniq i j o J d H h1 (hd.trans e) (B.trans D);subst this;rw[G] at E;cases E
def GN (S:nM ops A) {j} {g:MG} (H:ops[i]? =some o) (hd:o.dst=g.dst) (G:bY done i=false) (I:uH X N ops A done j gj) (E:bY done j=true) x:
 ∀d,gj.dst=some d ->(cj τ g.dst x).get d=τ.get d:=by
 intro d D;rw[ox,aD];intro e;obtain⟨J,h1,h2,_⟩:=I;simp only[lP,aB] at h2;have B:=(uy h2.2.1).1;have:=S.uniq i j o J d H h1 (hd.trans e) (B.trans D);subst this;rw[G] at E;cases E
def GO (hC:CfgOK C) {τ h mask k}:∀{ls},eA C τ h mask ls k ->
 (∀i g,(i,g)∈ls ->bY mask i=false ->∃x,y6 C τ h g=some x/\∀d,g.dst=some d ->τ.get d=some x)/\ k
 |[],E=>⟨λi g h=>(by cases h),E⟩
 |(i,g)::r,E=>by
  have B:(bif Nat.testBit mask i then eA C τ h mask r k else match y6 C τ h g with
   |some x=>match g.dst with
    |none=>eA C τ h mask r k
    |some d=>match τ.get d with
     |some y=>bif cZ 64 x y then eA C τ h mask r k else C.fail
     |none=>C.fail
   |none=>C.fail):=E
  cases hb:Nat.testBit mask i with
  |true=>
   rw[hb] at B;have H:=GO hC B;refine⟨λj gj D G=> ?_,H.2⟩;rcases ey.1 D with e|D;cases e;have J:bY mask i=true:=hb;rw[J] at G;cases G;exact H.1 j gj D G
  |false=>
   rw[hb] at B;simp only[eU] at B;rcases R:y6 C τ h g with _|x;rw[R] at B;dsimp only at B;rw[hC.fail] at B;exact B.elim;rw[R] at B;dsimp only at B;have fin:(∀d,g.dst=some d ->τ.get d=some x) ->eA C τ h mask r k ->(∀U I,(U,I)∈(i,g)::r ->bY mask U=false ->∃x,y6 C τ h I=some x/\∀d,I.dst=some d ->τ.get d=some x)/\ k:=by
    intro V E;have H:=GO hC E;refine⟨λj gj D G=> ?_,H.2⟩;rcases ey.1 D with e|D;cases e;exact⟨x,R,V⟩;exact H.1 j gj D G
   rcases hd:g.dst with _|d;rw[hd] at B;exact fin (λd e=>by rw[hd] at e;cases e) B;rw[hd] at B;dsimp only at B;rcases O:τ.get d with _|y;rw[O] at B;dsimp only at B;rw[hC.fail] at B;exact B.elim;rw[O] at B;dsimp only at B;cases L:cZ 64 x y;rw[L,eU,hC.fail] at B;exact B.elim;rw[L,fC] at B;have:=HZ _ _ _ L;subst this;exact fin (λW e=>by rw[hd] at e;cases e;exact O) B
def ZY {nL U} (O:uz P CR C.gL nL) (Y:uA P CR C.gL U) {ro Q K}
 (S:nM ops A) (I:jc P CR X C N s ops A n HV c₀ h₀ w₀ done laid bU ls pd τ h listed a w c τD) {mask g r fl Z}
 (b2:iT X N ops A n HV (.heavy i g mask::r) fl done Z laid bU=true) (cR:bW C nL U h₀.next K (.heavy i g mask::r) ls pd τ h) (L:ops[i]? =some o) (hE:qd listed o) (hn:¬cD listed i):
 wpOpIn (fw ro) 0 P ops Q i (λa' w'=>∃τ' h' c' τD',jc P CR X C N s ops A n HV c₀ h₀ w₀ (ip done i) laid bU ls pd τ' h' (listed.setIfInBounds i true) a' w' c' τD'/\ An C τ' h' ls (listed.setIfInBounds i true)/\
  bW C nL U h₀.next K r ls pd τ' h') a w:=by
 have hi:i<listed.size:=by rw[I.down.sz];exact(jX.1 L).1
 obtain⟨k1,k2,k3,k4,k5⟩:=wv b2;obtain⟨hs,W⟩:=C6 k1;have b1:=I.agreeH S hs L hE hn;obtain⟨o',bT,aC,b7⟩:=hs;rw[L] at bT;cases bT;have fH:o.dst=g.dst:=by
  simp only[lP,aB] at aC;exact(uy aC.2.1).1
 replace cR:eY C nL U g τ h (λx h=>eh τ g.dst x λτ=>eA C τ h mask ls (bW C nL U h₀.next K r ls pd τ h)):=cR;rw[MD C b1] at cR;refine CZ hX hC O Y L aC cR I.st λx h' c' w' a' J ev b6=> ?_;rw[iI] at J;obtain⟨b4,J⟩:=GO hC J;have E:∀j,bY done j=true ->bY (ip done i) j=true:=λj B=>Cv B;have D:∀{j},cD (listed.setIfInBounds i true) j ->bY done j=true ->cD listed j:=λ{j} G B=>((cD.set hi).1 G).resolve_left λe=>by
  grind
 refine⟨cj τ g.dst x,h',c',cj τD g.dst x,?_,?_,J⟩;exact {
  down:=I.down.set L hE
  din:=λj B=>by
   rcases(cD.set hi).1 B with rfl|B;exact uJ _ _;exact Cv (I.din j B)
  cls:=λj B=>by
   rw[nK,ja,aU] at B;rcases B with B|rfl;exact(I.cls j B).imp (λq=>(cD.set hi).2 (.inr q)) id;exact .inl ((cD.set hi).2 (.inl rfl))
  laidL:=λj B=>(cD.set hi).2 (.inr (I.laidL j B))
  lst:=λj gj B=>⟨(I.lst j gj B).1.mono E,(I.lst j gj B).2.1,E j (I.lst j gj B).2.2⟩
  als:=λj k B=>by
   obtain⟨g',ob,x',q1,q2,q3,q4,H,q6,⟨ver,h1,q7,b5⟩,q8,q9⟩:=I.als j k B;refine⟨g',ob,x',q1.mono E,q2,q3,q4,E j H,q6,⟨ver,h1,?_,b5⟩,λd hd=> ?_,λG b3=>(q9 (D G H) b3).evo ev⟩;rw[←q7];exact PA (Cn C (C8 L fH W q1 x));rw[GN S L fH W q1 H x d hd];exact q8 d hd
  rD:=λj k B G=>by
   obtain⟨g',ob,x',q1,q2,q3,q4,H,_⟩:=I.als j k B;exact ev.ext.dM _ (I.rD j k B (D G H))
  rlt:=λj k B G=>by
   obtain⟨g',ob,x',q1,q2,q3,q4,H,_⟩:=I.als j k B;rw[ev.ext.ρ _ (I.rD j k B (D G H))];exact iR (I.rlt j k B (D G H)) ev.keep.size
  disj:=I.disj
  runiq:=I.runiq
  kuniq:=I.kuniq
  apart:=λj k j' k' B m9 G V xt=>by
   obtain⟨_,_,_,_,_,_,_,H,_⟩:=I.als j k B;obtain⟨_,_,_,_,_,_,_,b0,_⟩:=I.als j' k' m9;rw[ev.ext.ρ _ (I.rD j k B (D G H)),ev.ext.ρ _ (I.rD j' k' m9 (D V b0))];exact I.apart j k j' k' B m9 (D G H) (D V b0) xt
  fresh:=λk J hf hd=>by
   have h1:=I.fresh k J (λj B G=>hf j B ((cD.set hi).2 (.inr G)));rcases ev.keep.dM _ hd with h2|h2;exact h1 h2;have:=I.nx;omega
  dead:=λk J hf=>ev.keep.dead _ (by have:=I.nx;omega) (I.dead k J hf)
  nx:=fJ I.nx ev.keep.nxt
  st:=b6
  sub:=λt ht=>by
   rw[ox,ox];by_cases e:g.dst=some t;rw[aF e,aF e];rw[aD e,aD e];refine I.sub t λj o' B R=> ?_;rcases(cD.set hi).1 (ht j o' B R) with rfl|h1
   grind
   exact h1
  old:=λt ht=>by
   have e:g.dst≠some t:=λe=>by
    grind[uJ]
   rw[ox,ox,aD e,aD e];refine I.old t λj o' B R=> ?_;have:=ht j o' B R;rw[nK,Ci] at this;exact this.1
  ext:=I.ext.trans ev.ext
  keep:=I.keep.trans ev.keep }
 intro j gj B G;refine b4 j gj B ?_;cases hb:bY mask j;rfl;exact bh ((cD.set hi).2 (.inr (tA S I.down i o L hE j (MP k3 j hb)))) G
def MT {i}:∀{l},Ae i l=true ->∃k,(i,k)∈l
 |[],h=>by cases h
 |(j,k)::r,h=>by
  have h':(Nat.beq j i||Ae i r)=true:=h;rw[ja,bu,aU] at h';rcases h' with rfl|h'
  grind
  obtain⟨k',h1⟩:=MT h';exact⟨k',jw _ h1⟩
def GP {k}:∀{l},Af k l=true ->∀i,(i,k)∉l
 |[],_,i,h=>by cases h
 |(j,k')::r,h,i,B=>by
  have h':(!(Nat.beq k' k)&&Af k r)=true:=h;rw[aB,bu] at h';rcases ey.1 B with e|B;cases e;simp at h';exact GP h'.2 i B
def MU {nL bA K} (S:nM ops A):∀l done bU ls pd τ H,
 jc P CR X C N s ops A n HV c₀ h₀ w₀ done laid bU ls pd τ h listed a w c τD ->An C τ h ls listed ->iT X N ops A n HV l false done H laid bU=true ->bW C nL bA h₀.next K l ls pd τ h ->
 ∃l' Z b0 b4 b6 τ',jc P CR X C N s ops A n HV c₀ h₀ w₀ Z laid b0 b4 b6 τ' h listed a w c τD/\ An C τ' h b4 listed/\ iT X N ops A n HV l' false Z H laid b0=true/\ Am false l'/\ bW C nL bA h₀.next K l' b4 b6 τ' h:=by
 intro l;induction l with
 |nil=>intro done bU ls pd τ H I L hck G;exact⟨[],done,bU,ls,pd,τ,I,L,hck,.inr trivial,G⟩
 |cons d r ih=>
  intro done bU ls pd τ H I L hck G;cases d with
  |lay i=>exact⟨_,done,bU,ls,pd,τ,I,L,hck,.inr trivial,G⟩
  |heavy i g m=>exact⟨_,done,bU,ls,pd,τ,I,L,hck,.inr trivial,G⟩
  |light i g=>
   obtain⟨_,k1,k2,k3,k4⟩:=Ag hck;obtain⟨hs,E⟩:=C6 k1;have O:¬cD listed i:=λJ=>by have:=I.din i J;rw[E] at this;cases this
   have b2:=hs;obtain⟨o,U,aC,_⟩:=b2;have R:o.dst=g.dst:=by
    simp only[lP,aB] at aC;exact(uy aC.2.1).1
   replace G:(match y6 C τ h g with
    |some x=>eh τ g.dst x λτ=>bW C nL bA h₀.next K r ((i,g)::ls) pd τ h
    |none=>C.fail):=G
   cases hv:y6 C τ h g with
   |none=>rw[hv] at G;dsimp only at G;rw[hC.fail] at G;exact G.elim
   |some x=>
    rw[hv] at G;dsimp only at G;rw[iI] at G;have D:∀j,bY done j=true ->bY (ip done i) j=true:=λj B=>Cv B;refine ih (ip done i) bU ((i,g)::ls) pd (cj τ g.dst x) H ?_ ?_ k4 G;exact {
     down:=I.down
     din:=λj B=>Cv (I.din j B)
     cls:=λj B=>by
      rw[nK,ja,aU] at B;rcases B with B|rfl;rcases I.cls j B with h1|⟨g',h1⟩|h1;exact .inl h1
      grind
      exact .inr (.inr h1)
      grind
     laidL:=I.laidL
     lst:=λj gj B=>by
      rcases ey.1 B with e|B;cases e;exact⟨hs.mono D,k2,uJ _ _⟩;exact⟨(I.lst j gj B).1.mono D,(I.lst j gj B).2.1,D j (I.lst j gj B).2.2⟩
     als:=λj k B=>by
      obtain⟨g',ob,x',V,q2,q3,q4,q5,q6,⟨ver,h1,q7,b5⟩,q8,q9⟩:=I.als j k B;refine⟨g',ob,x',V.mono D,q2,q3,q4,D j q5,q6,⟨ver,h1,?_,b5⟩,λd hd=> ?_,q9⟩;rw[←q7];exact PA (Cn C (C8 U R E V x));rw[GN S U R E V q5 x d hd];exact q8 d hd
     rD:=I.rD
     rlt:=I.rlt
     disj:=λj gj k B m9=>by
      rcases ey.1 B with e|B;cases e;obtain⟨_,_,_,_,_,_,_,q5,_⟩:=I.als i k m9;rw[E] at q5;cases q5;exact I.disj j gj k B m9
     runiq:=I.runiq
     kuniq:=I.kuniq
     apart:=I.apart
     fresh:=I.fresh
     dead:=I.dead
     nx:=I.nx
     st:=I.st
     sub:=λt ht=>by
      rw[ox,aD,I.sub t ht];intro e;exact O (ht i o U (R.trans e))
     old:=λt ht=>by
      rw[ox,aD,I.old t]
      grind
      grind[uJ]
     ext:=I.ext
     keep:=I.keep }
    intro j gj B J;rcases ey.1 B with e|B;cases e;exact⟨x,by rw[av7 C (GM U R E k2.1 hs x)];exact hv,λd hd=>by rw[ox,aF hd]⟩;obtain⟨y,hy,b3⟩:=L j gj B J;obtain⟨V,_,q3⟩:=I.lst j gj B;exact⟨y,by rw[av7 C (GM U R E k2.1 V x)];exact hy,λd hd=>by rw[MS S U R E V q3 x d hd];exact b3 d hd⟩
  |resv i k g=>
   obtain⟨_,k1,k2,k3,k4,k5,k6,k7⟩:=Ah hck;obtain⟨hs,E⟩:=ZU k1;have O:¬cD listed i:=λJ=>by have:=I.din i J;rw[E] at this;cases this
   have b2:=hs;obtain⟨o,U,aC,_⟩:=b2;have R:o.dst=g.dst:=by
    simp only[lP,aB] at aC;exact(uy aC.2.1).1
   replace G:fN (h₀.next+k) (λid=>match step (az C τ) ⟨id,h.ver,.e⟩ g.op with
    | .v x h'=>match h'.oB.get id with
     |some ob=>eh τ g.dst x λτ=>bW C nL bA h₀.next K r ls ((i,id,ob)::pd) τ h
     |none=>C.fail
    |_=>C.fail):=G
   rw[dT] at G;cases hv:step (az C τ) ⟨h₀.next+k,h.ver,.e⟩ g.op with
   |v x h1=>
    rw[hv] at G;dsimp only at G;cases hg:h1.oB.get (h₀.next+k) with
    |none=>rw[hg] at G;dsimp only at G;rw[hC.fail] at G;exact G.elim
    |some ob=>
     rw[hg] at G;dsimp only at G;rw[iI] at G;have D:∀j,bY done j=true ->bY (ip done i) j=true:=λj B=>Cv B;have c7:∀j k',(j,k')∈bU ->j≠i:=λj k' B e=>by
      subst e;obtain⟨_,_,_,_,_,_,_,q5,_⟩:=I.als j k' B;rw[E] at q5;cases q5
     have c6:bY laid i=false:=by
      cases hb:bY laid i;rfl;exact bh (I.laidL i hb) O
     refine ih (ip done i) ((i,k)::bU) ls ((i,h₀.next+k,ob)::pd) (cj τ g.dst x) H ?_ ?_ k7 G;exact {
      down:=I.down
      din:=λj B=>Cv (I.din j B)
      cls:=λj B=>by
       rw[nK,ja,aU] at B;rcases B with B|rfl;rcases I.cls j B with h1|h1|⟨k',h1,h2⟩;exact .inl h1;exact .inr (.inl h1)
       grind
       grind
      laidL:=I.laidL
      lst:=λj gj B=>⟨(I.lst j gj B).1.mono D,(I.lst j gj B).2.1,D j (I.lst j gj B).2.2⟩
      als:=λj k' B=>by
       rcases ey.1 B with e|B;cases e;refine⟨g,ob,x,hs.mono D,k2,by simpa using k3,k5,uJ _ _,?_,⟨h.ver,h1,?_,hg⟩,λd hd=>by rw[ox,aF hd],λJ=>bh J O⟩;show(bif Nat.beq i i then some (h₀.next+k,ob) else iC i pd)=_;rw[bu];simp;rw[←hv];exact PA (Cn C (C8 U R E hs x));obtain⟨g',ob',x',V,q2,q3,q4,q5,q6,⟨ver,h2,q7,b5⟩,q8,q9⟩:=I.als j k' B;refine⟨g',ob',x',V.mono D,q2,q3,q4,D j q5,?_,⟨ver,h2,?_,b5⟩,λd hd=> ?_,q9⟩;show(bif Nat.beq i j then some (h₀.next+k,ob) else iC j pd)=_;rw[bu,ot (Ne.symm (c7 j k' B))];exact q6;rw[←q7];exact PA (Cn C (C8 U R E V x));rw[GN S U R E V q5 x d hd];exact q8 d hd
      rD:=λj k' B J=>by
       rcases ey.1 B with e|B;cases e;exact bh J O;exact I.rD j k' B J
      rlt:=λj k' B J=>by
       rcases ey.1 B with e|B;cases e;exact bh J O;exact I.rlt j k' B J
      disj:=λj gj k' B m9=>by
       rcases ey.1 m9 with e|m9;cases e;have:=(I.lst i gj B).2.2;rw[E] at this;cases this;exact I.disj j gj k' B m9
      runiq:=λj p q W Y=>by
       rcases ey.1 W with e|W<;>rcases ey.1 Y with e'|Y
       cases e;cases e';rfl
       grind
       grind
       exact I.runiq j p q W Y
      kuniq:=λj j' p W Y=>by
       rcases ey.1 W with e|W<;>rcases ey.1 Y with e'|Y
       cases e;cases e';rfl;cases e;exact bh Y (GP k6 j');cases e';exact bh W (GP k6 j);exact I.kuniq j j' p W Y
      apart:=λj p j' q W Y J b7 xt=>by
       rcases ey.1 W with e|W;cases e;exact bh J O;rcases ey.1 Y with e|Y
       grind
       exact I.apart j p j' q W Y J b7 xt
      fresh:=λk' b1 hf=>I.fresh k' b1 λj B=>hf j (jw _ B)
      dead:=λk' b1 hf=>I.dead k' b1 λj B=>hf j (jw _ B)
      nx:=I.nx
      st:=I.st
      sub:=λt ht=>by
       rw[ox,aD,I.sub t ht];intro e;exact O (ht i o U (R.trans e))
      old:=λt ht=>by
       rw[ox,aD,I.old t];intro j o' B b8;have:=ht j o' B b8;rw[nK,Ci] at this;exact this.1;intro e;have:=ht i o U (R.trans e);rw[uJ] at this;cases this
      ext:=I.ext
      keep:=I.keep }
     intro j gj B J;obtain⟨y,hy,b3⟩:=L j gj B J;obtain⟨V,_,q3⟩:=I.lst j gj B;exact⟨y,by rw[av7 C (GM U R E k2.1 V x)];exact hy,λd hd=>by rw[MS S U R E V q3 x d hd];exact b3 d hd⟩
   |_=>rw[hv] at G;dsimp only at G;rw[hC.fail] at G;exact G.elim
def sF (listed:Array Bool):Nat ->Nat
 |0=>0
 |m+1=>sF listed m+if listed.getD m false=true then 0 else 1
def MV listed:∀m,sF listed m<=m
 |0=>bB _
 |m+1=>by
  have:=MV listed m;unfold sF;split<;>omega
def MW {listed i} (hi:i<listed.size) (B:¬cD listed i):∀m,sF (listed.setIfInBounds i true) m+(if i<m then 1 else 0)=sF listed m
 |0=>rfl
 |m+1=>by
  have E:=MW hi B m;unfold sF;have D:=cD.set (j:=m) hi;unfold cD at D B;by_cases e:i=m
  grind
  grind
def MX {listed i} (j:¬cD listed i):∀m,i<m ->0<sF listed m
 |0,h=>by omega
 |m+1,h=>by
  unfold sF;by_cases e:i=m
  grind[cD]
  have:=MX j m ω;omega
def MY {R J K}:∀l fl laid h B,
 jc P CR X C N s ops A n HV c₀ h₀ w₀ done laid bU ls pd τ h listed a w c τD ->iT X N ops A n HV l fl done B laid bU=true ->Am fl l ->bW C R J h₀.next K l ls pd τ h ->
 (∀i k,(i,k)∈bU ->(fh l=none∨∃H,fh l=some H/\ bY (A.getD H 0) i=true) ->cD listed i) ->
 ∃l' E j h',fh l'=fh l/\ jc P CR X C N s ops A n HV c₀ h₀ w₀ done j bU ls pd τ h' listed a w c τD/\ iT X N ops A n HV l' E done B j bU=true/\ bW C R J h₀.next K l' ls pd τ h'/\
  (l'=[]∨∃i g m r,l'= .heavy i g m::r):=by
 intro l;induction l with
 |nil=>intro fl laid h B I hck _ D _;exact⟨[],fl,laid,h,rfl,I,hck,D,.inl rfl⟩
 |cons d r Y=>
  intro fl laid h B I hck hh D HL;cases d with
  |light i g=>
   rcases hh with hh|hh;rw[(Ag hck).1] at hh;cases hh;exact hh.elim
  |resv i k g=>
   rcases hh with hh|hh;rw[(Ah hck).1] at hh;cases hh;exact hh.elim
  |heavy i g m=>exact⟨_,fl,laid,h,rfl,I,hck,D,.inr ⟨i,g,m,r,rfl⟩⟩
  |lay i=>
   obtain⟨Z,k2,V⟩:=Ai hck;obtain⟨k,U⟩:=MT Z;replace D:(match iC i pd with
    |some (id,ob)=>h.put id ob λh=>bW C R J h₀.next K r ls pd τ h
    |none=>C.fail):=D
   rcases O:iC i pd with _|q;rw[O] at D;dsimp only at D;rw[hC.fail] at D;exact D.elim;obtain⟨id,ob⟩:=q;rw[O] at D;dsimp only at D;rw[AH.put_eq] at D;have G:fh (.lay i::r)=fh r:=rfl;have L:cD listed i:=by
    refine HL i k U ?_;rw[G];rcases W:fh r with _|H;exact .inl rfl;exact .inr ⟨H,rfl,(GK r _ _ _ _ _ H V W).2 i (uJ _ _)⟩
   obtain⟨l',E,j,h',e1,e2⟩:=Y true (ip laid i) _ B (I.adopt U k2 L O) V (.inl rfl) D (by rw[G] at HL;exact HL);exact⟨l',E,j,h',by rw[e1,G],e2⟩
def ZZ {nL bA} (W:uz P CR C.gL nL) (Z:uA P CR C.gL bA) {ro Q K}
 (S:nM ops A) (hQ:∀c' h' w' τ' a',K τ' h' ->cH CR c₀ h₀ w₀ c' h' w' ->St P CR C.gL N s c' h' w' τ' a' ->Q .normal a' w'):∀D listed a w c τD τ (h)
  (l) (done laid) (bU) (ls) (pd) (B),
  jc P CR X C N s ops A n HV c₀ h₀ w₀ done laid bU ls pd τ h listed a w c τD ->An C τ h ls listed ->iT X N ops A n HV l false done B laid bU=true ->Am false l ->bW C nL bA h₀.next K l ls pd τ h ->
  sF listed ops.size<=D ->wpAnyIn (fw ro) 0 P .any ops Q D listed a w:=by
 have fin:∀(listed:Array Bool) (a:Act) (w:World) (c:CE) (τD τ:T AV) (h:AH) (l:List DI) (done laid:Nat) (bU:List (Nat×Nat)) (ls:List (Nat×MG)) (pd:List (Nat×Nat×bC)) (B:Option Nat),
  jc P CR X C N s ops A n HV c₀ h₀ w₀ done laid bU ls pd τ h listed a w c τD ->iT X N ops A n HV l false done B laid bU=true ->Am false l ->bW C nL bA h₀.next K l ls pd τ h ->
  (∀i,i<ops.size ->cD listed i) ->Q .normal a w:=by
  intro listed a w c τD τ h l done laid bU ls pd B I hck hh cR E;have b0:∀i k,(i,k)∈bU ->cD listed i:=λi k hm=>by
   obtain⟨g,ob,x,⟨o,V,_⟩,_⟩:=I.als i k hm;exact E i (jX.1 V).1
  obtain⟨l',b6,b2,h',e1,I',U,R,b1⟩:=MY hC l false laid h B I hck hh cR λi k hm _=>b0 i k hm;rcases b1 with rfl|⟨i,g,m,r,rfl⟩;refine hQ c h' w τ a R ⟨I'.ext,I'.st.rs,I'.keep⟩ ⟨I'.st.rs,I'.st.gl,λt x hx=>I'.st.tr t x ?_,I'.st.sz,I'.st.marks⟩;rw[I'.sub t λj o hj _=>E j (jX.1 hj).1];exact hx;obtain⟨hs,c6⟩:=C6 (wv U).1;obtain⟨o,V,_⟩:=hs;have:=I'.din i (E i (jX.1 V).1);rw[c6] at this;cases this
 intro D;induction D with
 |zero=>
  intro listed a w c τD τ h l done laid bU ls pd B I L hck hh cR hcnt;have E:∀i,i<ops.size ->cD listed i:=λi hi=>uk λhn=>by
   have:=MX hn ops.size hi;omega
  refine⟨?_,fin _ _ _ _ _ _ _ _ _ _ _ _ _ _ I hck hh cR E⟩;rcases hr:Region.ready .any ops listed with _|⟨i,t⟩;rfl;have hm:i∈Region.ready .any ops listed:=by rw[hr];exact jG
  obtain⟨h1,o,V,_⟩:=MQ hm;exact bh (E i (jX.1 V).1) h1
 |succ D ih=>
  intro listed a w c τD τ h l done laid bU ls pd B I L hck hh cR hcnt;refine⟨λhr=>fin _ _ _ _ _ _ _ _ _ _ _ _ _ _ I hck hh cR (ZT S I.down hr),λi hm=> ?_⟩;obtain⟨hn,o,V,hE⟩:=MQ hm;have O:i<ops.size:=(jX.1 V).1;have hi:i<listed.size:=by rw[I.down.sz];exact O
  have G:sF (listed.setIfInBounds i true) ops.size<=D:=by
   have:=MW hi hn ops.size;rw[aF O] at this;omega
  by_cases hd:bY done i=true;rcases I.cls i hd with h1|⟨g,h1⟩|⟨k,h1,h2⟩;exact bh h1 hn;refine wpOpIn_mono ?_ (ZW hX hC W Z S I L h1 V hE hn);rintro a' w' ⟨c',τD',I'⟩;exact ih _ _ _ _ _ _ _ _ _ _ _ _ _ _ I' (λj gj hj hL=>L j gj hj λq=>hL ((cD.set hi).2 (.inr q))) hck hh cR G;refine wpOpIn_mono ?_ (ZX hX S I h1 h2 V hE hn);rintro a' w' ⟨c',τD',I'⟩;exact ih _ _ _ _ _ _ _ _ _ _ _ _ _ _ I' (λj gj hj hL=>L j gj hj λq=>hL ((cD.set hi).2 (.inr q))) hck hh cR G;have b4:i∈uG l:=(Aj l _ _ _ _ _ hck i O).resolve_left hd;obtain⟨H,hf,hH⟩:=MR S I.down l _ _ _ _ _ hck hh i b4 o V hE;have b7:i=H:=by
   rcases hH with rfl|hH;rfl;have h1:=I.din H hH;rw[(GK l _ _ _ _ _ H hck hf).1] at h1;cases h1
  subst b7;obtain⟨l',b6,b2,h',e1,I',U,R,b1⟩:=MY hC l false laid h B I hck hh cR λj k _ q=>by
   rcases q with q|⟨H,q,q'⟩;rw[hf] at q;cases q;rw[hf] at q;cases q;exact tA S I.down i o V hE j q'
  rcases b1 with rfl|⟨j,g,m,r,rfl⟩;rw[hf] at e1;cases e1;rw[hf] at e1;have b8:j=i:=gC e1;subst b8;refine wpOpIn_mono ?_ (ZY hX hC W Z S I' U R V hE hn);rintro a' w' ⟨τ',d2,c',τD',I'',L'',Y⟩;obtain⟨d1,b3,b5,c7,d0,τ₂,J,JL,Jck,Jh,Jrun⟩:=MU hC S r _ bU ls pd τ' _ I'' L'' (wv U).2.2.2.2 Y;exact ih _ _ _ _ _ _ _ _ _ _ _ _ _ _ J JL Jck Jh Jrun G
def aa0 {nL bA} (G:uz P CR C.gL nL) (O:uA P CR C.gL bA) {ro Q K}
 (hP:P.follows .mixedOrders=true) {id l} (W:GJ X N ops n l=true) (hr:bW C nL bA h.next K l [] [] τ ⟨h.next+n,h.ver,h.oB⟩) (st:St P CR C.gL N s c h w τ a)
 (hQ:∀c' h' w' τ' R,K τ' h' ->cH CR c h w c' h' w' ->St P CR C.gL N s c' h' w' τ' R ->Q .normal R w'):(Code.region id ops true).wpIn (fw ro) 0 P Q a w:=by
 unfold GJ at W;simp only[aB] at W;obtain⟨k1,k2,k3⟩:=W;have S:=ZS k1 k2;refine wpIn_region_any hP ?_;have D:RS CR c h { w with drawn:=w.drawn+1 }:=st.rs.heap rfl
 have b2:RS CR c ⟨h.next+n,h.ver,h.oB⟩ { w with drawn:=w.drawn+1 }:=
  ⟨λo j=>iR (D.nx o j) (xJ _ _),λo ob j=>iR (D.lt o ob j) (xJ _ _),λo ob j=>D.obj o ob ⟨j.get,j.live,j.dM⟩,
   λo o' x y Y Z=>D.inj o o' x y ⟨Y.get,Y.live,Y.dM⟩ ⟨Z.get,Z.live,Z.dM⟩,D.im,λo ob j=>D.dj o ob ⟨j.get,j.live,j.dM⟩,D.gl⟩
 have kp:j6 c h { w with drawn:=w.drawn+1 } c ⟨h.next+n,h.ver,h.oB⟩ { w with drawn:=w.drawn+1 }:=
  ⟨bB _,λ_ _ _=>rfl,λo ob j=> .inr ⟨o,ob,⟨j.get,j.live,j.dM⟩,rfl⟩,λ_ h=> .inl h,xJ _ _,λ_ _ h=> .inl h,λ_ _ h=>h,⟨rfl,rfl⟩⟩
 have V:cH CR c h w c h { w with drawn:=w.drawn+1 }:=cH.heap st.rs rfl
 have L:∀i,¬cD (Array.replicate ops.size false) i:=λi E=>by
  unfold cD at E;by_cases hi:i<ops.size;simp[Array.getD,hi] at E;simp[Array.getD,hi] at E
 have hz:∀i,bY 0 i=false:=λi=>Nat.zero_testBit i;have I:jc P CR X C N s ops (Ac ops.toList) n (MO l) c h { w with drawn:=w.drawn+1 } 0 0 [] [] [] τ ⟨h.next+n,h.ver,h.oB⟩ (Array.replicate ops.size false) a { w with drawn:=w.drawn+1 } c τ:={
  down:=⟨by simp,λi o _ E=>bh E (L i)⟩
  din:=λi E=>bh E (L i)
  cls:=λi hb=>by rw[hz] at hb;cases hb
  laidL:=λi hb=>by rw[hz] at hb;cases hb
  lst:=λi g B=>by cases B
  als:=λi k B=>by cases B
  rD:=λi k B=>by cases B
  rlt:=λi k B=>by cases B
  disj:=λi g k B=>by cases B
  runiq:=λi k k' B=>by cases B
  kuniq:=λi i' k B=>by cases B
  apart:=λi k i' k' B=>by cases B
  fresh:=λk _ _ hd=>by have:=st.rs.nx _ hd;omega
  dead:=λk _ _ ob hg=>by
   have:h.oB.get (h.next+k)=some ob:=hg;have:=st.rs.lt _ _ this;omega
  nx:=bB _
  st:=⟨b2,st.gl,st.tr,st.sz,⟨λd hd=>by
   rcases st.marks.all d hd with ⟨r,q1,q2,q3,q4,q5⟩|q;exact .inl ⟨r,q1,q2,q3,q4,λo ob j=>q5 o ob ⟨j.get,j.live,j.dM⟩⟩;exact .inr q,st.marks.apart⟩⟩
  sub:=λt _=>rfl
  old:=λt _=>rfl
  ext:=gE.refl c
  keep:=kp }
 obtain⟨b3,H,U,b0,b1,τ₂,J,JL,Jck,Jh,Jrun⟩:=MU hC S l 0 [] [] [] τ none I (λi g B=>by cases B) k3 hr;exact ZZ hX hC G O S (λc' h' w' τ' R q1 q2 q3=>hQ c' h' w' τ' R q1 (V.trans q2) q3) ops.size _ _ _ _ _ _ _ _ _ _ _ _ _ _ J JL Jck Jh Jrun (MV _ _)
end
def Ao (X:aR) (r:ResultVar) (e:Nat×Option (Nat×Bool)):Bool:=match r with
 | .tmp t=>(match e.2 with|none=>Nat.beq t e.1|some _=>false)
 | .cell t ty=>(match e.2 with
  |some q=>Nat.beq t e.1&&(match X.ty.get ty with|some i=>Nat.beq q.1 i.size&&(q.2==i.kd.isRow)|none=>false)
  |none=>false)
def Ap (X:aR) (l:List (Nat×Option (Nat×Bool))):List ResultVar ->Bool:=
 List.rec (motive:=λ_=>List ResultVar ->Bool) (λv=>List.isEmpty v) (λe _ j v=>match v with
  |[]=>false
  |r::rs=>Ao X r e&&j rs) l
section
variable {P:Program} {CR:Nat ->Code ->aw ->Prop} {X:aR}
variable {c:CE} {h:AH} {w:World}
def xY (tmps:Array Value):ResultVar ->Sem Value
 | .tmp t=>pure (tmps.getD t undef)
 | .cell a t=>do loadVar t (←asAddr (tmps.getD a undef))
def MZ {α β:Type} {f:α ->Sem β}:∀{l:List α} {vs},l.length=vs.length ->(∀(i:Nat) x v,l[i]? =some x ->vs[i]? =some v ->(f x).run P w= .ok v w) ->(l.mapM f).run P w= .ok vs w
 |[],[],_,_=>by simp[List.mapM_nil]
 |[],_::_,h,_=>by cases h
 |_::_,[],h,_=>by cases h
 |a::t,v::r,h,H=>by
  rw[List.mapM_cons,dz,H 0 a v rfl rfl];simp only[ez];rw[dz,MZ (by simpa using h) (λi x y j B=>H (i+1) x y j B)];simp
def aa1 {fn tmps} {vs:List Value} (j:fn.results.toList.length=vs.length)
 (H:∀(i:Nat) r v,fn.results.toList[i]? =some r ->vs[i]? =some v ->(xY tmps r).run P w= .ok v w):
 (results fn tmps).run P w= .ok (if h:vs.toArray.size=1 then vs.toArray[0] else .tuple vs.toArray) w:=by
 have e:results fn tmps=(do
  let vs←fn.results.mapM (xY tmps)
  pure (if h:vs.size=1 then vs[0] else .tuple vs)):=by
  unfold results;congr 1
 rw[e,dz,Array.mapM_eq_mapM_toList,Sem.run_map,MZ j H];rfl
def aa2 (hX:j7 P X) (rs:RS CR c h w) {ty i} (hi:X.ty.get ty=some i) {x v} (L:VR c x v) {n cs y agg}
 (O:(∃o j l,x= .p o j/\ h.cells o=some l/\ sub l j n=some cs)∨(∃l j,x= .dp l j/\ sub l j n=some cs)) (R:dB agg cs=some y) (W:n=i.size) (G:agg=i.kd.isRow):
 ∃u,(do loadVar ty (←asAddr v):Sem Value).run P w= .ok u w/\ VR c y u:=by
 have E:=hX.ty ty i hi;obtain⟨b,k,vs,e1,e2,e3,e4⟩:=LG rs L (O.imp (λ⟨o,j,l,a,b,d⟩=>⟨o,j,l,a,F1 b,d⟩) id);obtain⟨V,zv,U,Y,Z,i4,i5⟩:=E.info;subst e1;rcases F4 R with ⟨g,rfl⟩|⟨g,rfl⟩;refine⟨.agg vs.toArray,?_,.ag _ _ e2⟩;simp only[asAddr,pure_bind];exact run_loadVar_mid w b k ty vs i.kd e4 E.und (by rw[←G];exact g) (by rw[U];simp;omega);cases e2 with
 |cons _ _ u us J D=>
  cases D;refine⟨u,?_,J⟩;have H:w.cell? ⟨b,k,none⟩=some u:=e4 0 u rfl;have B:(isAgg ty).run P w= .ok false w:=by
   unfold isAgg;rw[dz,dL E.und w];have:i.kd.isRow=false:=by rw[←G];exact g
   cases I:i.kd<;>rw[I] at this<;>first|rfl|cases this
  simp[asAddr,loadVar,B,H]
def M0 {α β} (f:α ->Option β) a t:eM f (a::t)=match f a with|none=>none|some b=>match eM f t with|none=>none|some j=>some (b::j):=by
 show(Option.rec none (λb=>Option.rec none (λt=>some (b::t)) (eM f t)) (f a):Option (List β))=_;rcases f a with _|b;rfl;cases eM f t<;>rfl
def M3 {α β} {f:α ->Option β}:∀{l r},eM f l=some r ->r.length=l.length/\∀(i:Nat) x,l[i]? =some x ->∃y,r[i]? =some y/\ f x=some y
 |[],r,h=>by cases h;exact⟨rfl,λi x j=>by simp at j⟩
 |a::t,r,h=>by
  rw[M0] at h;rcases h2:f a with _|b;rw[h2] at h;cases h;rw[h2] at h;dsimp only at h;rcases h1:eM f t with _|D;rw[h1] at h;cases h;rw[h1] at h;cases h;have B:=M3 h1;refine⟨by simp[B.1],λi x j=> ?_⟩;rcases i with _|i;simp at j;subst j;exact⟨b,rfl,h2⟩;simp at j;simpa using B.2 i x j
def aa3 {l}:∀{rs},Ap X l rs=true ->rs.length=l.length/\∀(i:Nat) r e,rs[i]? =some r ->l[i]? =some e ->Ao X r e=true:=by
 induction l with
 |nil=>
  intro rs h;rcases rs with _|⟨r,rs⟩;exact⟨rfl,λi r e h=>by simp at h⟩;cases h
 |cons e l E=>
  intro rs h;rcases rs with _|⟨r,rs⟩;cases h;have h':(Ao X r e&&Ap X l rs)=true:=h;simp only[aB] at h';have k:=E h'.2;refine⟨by simp[k.1],λi G D B j=> ?_⟩;rcases i with _|i;simp at B j;subst B j;exact h'.1;simp at B j;exact k.2 i G D B j
def aa4 (hX:j7 P X) (rs:RS CR c h w) {fn tmps τ} (tr:TR c τ tmps) {l} (hk:Ap X l fn.results.toList=true) {x}
 (E:eZ τ h l=some x):∃v,(results fn tmps).run P w= .ok v w/\ VR c x v:=by
 obtain⟨Z,k2⟩:=aa3 hk;unfold eZ at E;rcases L:fY τ h l with _|I;rw[L] at E;cases E;have h1:=M3 L;have key:∀(i:Nat) r,fn.results.toList[i]? =some r ->∃y u,I[i]? =some y/\ (xY tmps r).run P w= .ok u w/\ VR c y u:=by
  intro i r D;have hi:i<l.length:=by rw[←Z];exact(eC.1 D).1
  obtain⟨e,he⟩:∃e,l[i]? =some e:=⟨l[i],ef hi⟩;have B:=k2 i r e D he;obtain⟨y,hy,j⟩:=h1.2 i e he;obtain⟨t,oo⟩:=e;cases r with
  |tmp t'=>
   rcases oo with _|q;simp only[Ao,bu,aU] at B;subst B;obtain⟨v',e1,e2⟩:=tr _ _ j;exact⟨y,v',hy,by simp[xY,e1],e2⟩;cases B
  |cell t' ty=>
   rcases oo with _|q;cases B;obtain⟨n,agg⟩:=q;simp only[Ao,aB,bu,aU] at B;obtain⟨rfl,B⟩:=B;rcases hi:X.ty.get ty with _|ti;rw[hi] at B;cases B;rw[hi] at B;simp only[aB,aU,mD] at B;dsimp only at j;rcases W:τ.get t' with _|p;rw[W] at j;cases j;obtain⟨v',e1,e2⟩:=tr _ _ W;rw[W] at j;cases p<;>first|cases j|skip
   rename_i o J;dsimp only at j;rcases U:h.cells o with _|cs;rw[U] at j;cases j;rw[U] at j;dsimp only at j;rcases V:sub cs J n with _|cl;rw[V] at j;cases j;rw[V] at j;obtain⟨u,O,R⟩:=aa2 hX rs hi e2 (.inl ⟨o,J,cs,rfl,U,V⟩) j B.1 B.2;exact⟨y,u,hy,by simpa[xY,e1] using O,R⟩
 have Y:I.length=fn.results.toList.length:=by rw[h1.1,Z]
 have:∃vs:List Value,vs.length=I.length/\ bX c I vs/\∀(i:Nat) r v,fn.results.toList[i]? =some r ->vs[i]? =some v ->(xY tmps r).run P w= .ok v w:=by
  clear L h1 E Z k2 hk;generalize fn.results.toList=H at key Y
  revert H
  induction I with
  |nil=>
   intro H key _;exact⟨[],rfl,.nil,λi r v _ G=>by simp at G⟩
  |cons y ys ih=>
   intro H key eQ;rcases H with _|⟨r,H⟩;cases eQ;obtain⟨y',u,e1,e2,e3⟩:=key 0 r rfl;simp at e1;subst e1;obtain⟨vs,h1,h2,h3⟩:=ih H (λi r' D=>by simpa using key (i+1) r' (by simpa using D)) (by simpa using eQ);refine⟨u::vs,by simp[h1],.cons _ _ _ _ e3 h2,λi r' v D G=> ?_⟩;rcases i with _|i;simp at D G;subst D G;exact e2;simp at D G;exact h3 i r' v D G
 obtain⟨vs,h3,h4,h5⟩:=this;rw[L] at E;refine⟨_,aa1 ω h5,?_⟩;rcases I with _|⟨y,ys⟩;cases h4;cases E;exact .tu [] [] .nil;cases h4 with
 |cons _ _ v b1 O R=>
  rcases ys with _|⟨y',b2⟩;cases R;cases E;exact O;cases R with|cons _ _ v' b0 q3 q4=>cases E;exact .tu _ _ (.cons _ _ _ _ O (.cons _ _ _ _ q3 q4))
end
def oA:List AV ->Nat ->T AV ->T AV
 |[],_,τ=>τ
 |a::t,n,τ=>oA t (n+1) (τ.put n a)
def xZ {R}:∀l n τ (k:T AV ->R),Qg l n τ k=k (oA l n τ)
 |[],_,_,_=>rfl
 |a::t,n,τ,k=>by
  show τ.setK n a (λτ=>fN n λn=>Qg t (Nat.succ n) τ k)=_;rw[T.setK_put,dT,xZ];rfl
def M4:∀l n τ i,(oA l n τ).get i=if n<=i/\ i<n+l.length then l[i-n]? else τ.get i
 |[],n,τ,i=>by simp[oA];omega
 |a::t,n,τ,i=>by
  rw[oA,M4,T.get_put];simp only[gJ];by_cases h:i=n
  grind
  grind
def C9:List Nat ->List AV ->T AV ->T AV
 |p::ps,a::a_,τ=>C9 ps a_ (τ.put p a)
 |_,_,τ=>τ
def M5 {C:aK Prop} (hC:CfgOK C):∀ps j τ k,nG C ps j τ k ->ps.length=j.length/\ k (C9 ps j τ)
 |[],[],_,_,h=>⟨rfl,h⟩
 |[],a::j,τ,k,h=>by
  have:C.fail:=h;rw[hC.fail] at this;exact this.elim
 |p::ps,[],τ,k,h=>by
  have:C.fail:=h;rw[hC.fail] at this;exact this.elim
 |p::ps,a::j,τ,k,h=>by
  replace h:τ.setK p a (λτ=>nG C ps j τ k):=h;rw[T.setK_put] at h;have:=M5 hC ps j _ k h;exact⟨by simp[this.1],this.2⟩
def M6 {c}:∀ps j vs τ tmps,bX c j vs ->TR c τ tmps ->(∀p∈ps,p<tmps.size) ->ps.length=j.length ->
 TR c (C9 ps j τ) ((ps.zip vs).foldl (λtmps q=>tmps.setIfInBounds q.1 q.2) tmps)/\ ((ps.zip vs).foldl (λtmps q=>tmps.setIfInBounds q.1 q.2) tmps).size=tmps.size
 |[],[],vs,τ,tmps,_,ht,_,_=>⟨ht,rfl⟩
 |[],_::_,_,_,_,_,_,_,h=>by cases h
 |_::_,[],_,_,_,_,_,_,h=>by cases h
 |p::ps,a::j,vs,τ,tmps,hv,ht,hp,hl=>by
  cases hv with
  |cons _ _ v D h1 h2=>
   have B:p<tmps.size:=hp p jG;have key:=M6 ps j D (τ.put p a) (tmps.setIfInBounds p v) h2
    (TR.put (a:={ tmps:=tmps,defers:=[] }) (d:=some p) ht (λt e=>by cases e;exact B) h1)
    (λq E=>by simp;exact hp q (jw _ E)) (by simpa using hl)
   exact⟨key.1,by simpa using key.2⟩
section
variable {CR:Nat ->Code ->aw ->Prop}
def RS.unown {c h w w'} (r:RS CR c h w) {q} (D:∀b,b≠q ->w'.heap[b]? =w.heap[b]?) (G:∀o obj,dU c h o obj ->(c.ρ o).1≠q) (j:c.im q=none):RS CR c h w':=
 ⟨r.nx,r.lt,λo obj B=>(r.obj o obj B).mono (gE.refl c) B.dM (D _ (G o obj B)),r.inj,
  λb row hb=>by
   obtain⟨t,E,h1⟩:=r.im b row hb;exact⟨t,E,by rw[D b (λe=>by rw[e,j] at hb;cases hb)];exact h1⟩,r.dj,r.gl⟩
def RS.im_deferred {c h w} (r:RS CR c h w) {q d} (j:w.heap[q]? =some (.deferred d)):c.im q=none:=by
 rcases hi:c.im q with _|row;rfl;obtain⟨t,B,h1⟩:=r.im q row hi;rw[j] at h1;cases h1
def aa5 {P:Program} {fn tmps R c₀ c h₀ h w₀}:
 ∀ds w,lO P w₀.heap.size c h w ds ->RS CR c h w ->j6 c₀ h₀ w₀ c h w ->
  (∀w',RS CR c h w' ->j6 c₀ h₀ w₀ c h w' ->∃v,(results fn tmps).run P w'= .ok v w'/\ R (.returned v) w') ->LeavesInM (fw none) 0 P fn tmps R ds .returning w:=by
 intro ds;induction ds with
 |nil=>
  intro w _ r k H;exact H w r k
 |cons d ds U=>
  intro w m r k H;rcases m.all d jG with ⟨q,h1,h2,h3,L,Z⟩|⟨g,J,h1,h2⟩
  case inr=>
   obtain⟨E,b',e1,e2,e3⟩:=h2.body;have D:¬E.name= "runtime.NumGoroutine" :=by simpa using e2
   refine⟨by simp,.inr ⟨λh=>(by cases h),.func g,J,g,d.args++J,h1,?_,λ_ _=>trivial,?_⟩⟩
   simp_all [invoke,callFunc,D]
   have O:=h2.run (d.args++J) w;refine⟨O.1,λc' cs hc hr=> ?_⟩;obtain⟨e,u',w',Y,⟨⟨v,rfl⟩,rfl,rfl⟩,q2⟩:=O.2 c' cs hc hr;exact⟨_,_,_,Y,U w' ⟨λe B=>m.all e (jw _ B),(xD.1 m.apart).2⟩ r k H,q2⟩
  have G:=r.im_deferred L;have j:∀b,b≠q ->(w.putObj q (.deferred none)).heap[b]? =w.heap[b]? :=λb hb=>World.putObj_heap_other hb;have r':=r.unown j Z G;refine⟨by simp,.inl ⟨q,_,h1,run_takeDeferred L,U _ ?_ r' ?_ H⟩⟩
  ·refine⟨λe B=> ?_,(xD.1 m.apart).2⟩;rcases m.all e (jw _ B) with ⟨I,V,k2,k3,k4,k5⟩|k
   case inr=>exact .inr k
   have xt:I≠q:=λW=>(xD.1 m.apart).1 e B q h1 (by rw[V,W]);exact .inl ⟨I,V,k2,by simpa using k3,by rw[j I xt];exact k4,k5⟩
  exact⟨by simpa using k.size,λb hb hn=>by rw[j b ω];exact k.same b hb hn,k.new,k.dM,k.nxt,k.im,k.dead,k.io⟩
end
def M7 (a b:List Nat):Bool:=decide (a=b)
def GQ (N:Nat) (l:List Nat):Bool:=List.rec (motive:=λ_=>Bool) true (λa _ j=>Nat.ble (Nat.succ a) N&&j) l
def M8 {N}:∀{l},GQ N l=true ->∀p∈l,p<N
 |[],_,p,j=>by cases j
 |a::t,h,p,j=>by
  have h':(Nat.ble (Nat.succ a) N&&GQ N t)=true:=h;simp only[aB,wX,aU] at h';rcases ey.1 j with rfl|j;exact h'.1;exact M8 h'.2 p j
def GR (X:aR) (N:Nat) (ops:Array Oper) (x:MA) (l:List MG):List Oper ->Bool:=
 List.rec (motive:=λ_=>List Oper ->Bool) (λv=>match v with
  |[o]=>(match o.op with| .defer c=>(match c.callee with| .value y=>dC x y|_=>false)&&c.args.isEmpty|_=>false)&&o.dst.isNone&&o.guard.isNone
  |_=>false)
  (λg _ j v=>match v with|[]=>false|o::r=>lP X N ops o g&&j r) l
def gf (X:aR) (N:Nat):Bool ->Code ->aw ->Bool
 |r,.scope c,m=>gf X N r c m
 |_,.skip,.skip=>true
 |_,.label _,.skip=>true
 |_,.region _ ops d,.ops l=> !d&&Gw X N ops l ops.toList
 |_,.region _ ops d,.draw n l=>d&&GJ X N ops n l
 |r,.region _ ops d,.dfr l x fn=> !r&&(!d&&(X.bn.any (Nat.beq fn)&&GR X N ops x l ops.toList))
 |r,.seq a b,.seq a' b'=>gf X N r a a'&&gf X N r b b'
 |r,.cond x a b,.cond y a' b'=>dC y x&&(gf X N r a a'&&gf X N r b b')
 |r,.block i c,.block j c'=>Nat.beq i j&&gf X N r c c'
 |r,.loop c,.loop c'=>gf X N r c c'
 |r,.rangeFunc f ps a b,.rfun g qs a' b'=> !r&&dC g f&&M7 ps.toList qs&&GQ N qs&&gf X N true a a'&&gf X N true b b'
 |_,.exit i,.exit j=>Nat.beq i j
 |_,.ret,.ret=>true
 |_,_,.bad _=>true
 |_,_,_=>false
def dJ (X:aR) (N:Nat) (c:Code) (m:aw):Prop:=gf X N true c m=true
def M9:Exit ->pS ->Prop
 | .normal,.normal=>True
 | .exit i,.exit j=>i=j
 | .ret,.ret=>True
 |_,_=>False
section
variable (P:Program) (CR:Nat ->Code ->aw ->Prop) (GL:T (List AV)) (N s:Nat) (k:K Prop) (c:CE) (h:AH) (w:World)
def qQ:Exit ->Act ->World ->Prop:=λe j w'=>∃me τ' h' c',M9 e me/\ k me τ' h'/\ cH CR c h w c' h' w'/\ St P CR GL N s c' h' w' τ' j
end
def qQ.trans {P:Program} {CR} {GL:T (List AV)} {N s k c c' h h' w w'} (e:cH CR c h w c' h' w') {x a j} (p:qQ P CR GL N s k c' h' w' x a j):
 qQ P CR GL N s k c h w x a j:=by
 obtain⟨me,τ',D,B,p1,E,G,H⟩:=p;exact⟨me,τ',D,B,p1,E,e.trans G,H⟩
structure av8 (P:Program) (X:aR) (f:Nat) (m:au):Prop where
 ok:∃fn c,P.funcs[f]? =some fn/\ (fn.name== "runtime.NumGoroutine")=false/\ fn.body=some c/\ gf X m.ntmps false c m.body=true/\ m.ntmps<=fn.ntmps/\ Ap X m.res fn.results.toList=true
structure rV (P:Program) (X:aR) (C:aK Prop):Prop where
 mixed:P.follows .mixedOrders=true
 cfg:CfgOK C
 ctx:j7 P X
 ae:∀f m,C.ae.get f=some m ->av8 P X f m
 bn:∀f∈X.bn,CX P f
 spec:∀f args h (k:AV ->AH ->Prop) (fb:Prop),C.spec f args h k fb ->(∀c w vs,RS (dJ X) c h w ->(∀g l,C.gL.get g=some l ->c.gl g=some l) ->bX c args vs ->
  mJ P ((callFunc f vs.toArray).run P w) λv' w'=>∃v h' c',k v h'/\ cH (dJ X) c h w c' h' w'/\ VR c' v v')∨fb
section
variable {P:Program} {X:aR} {C:aK Prop}
def Da {f fn b} (B:P.funcs[f]? =some fn) (D:(fn.name== "runtime.NumGoroutine")=false) (hb:fn.body=some b) args w:
 (callFunc f args).run P w= .ok (.enter f args) w:=by
 have j:¬fn.name= "runtime.NumGoroutine" :=by simpa using D
 simp[callFunc,B,j,hb]
def uK (P:Program) (X:aR) (C:aK Prop) (n:Nat):Prop:=
 ∀j k τ h,run C n j k τ h ->∀cc ro N s c a w,gf X N ro.isSome cc j=true ->St P (dJ X) C.gL N s c h w τ a ->s<=w.heap.size ->cc.wpIn (fw ro) 0 P (qQ P (dJ X) C.gL N s k c h w) a w
def Na (X:aR) (k:AV ->AH ->Prop) (c:CE) (h:AH) (w:World):Ending ->World ->Prop:=
 λe w'=>match e with| .returned v=>∃x h' c',k x h'/\ cH (dJ X) c h w c' h' w'/\ VR c' x v|_=>False
variable {c:CE} {h:AH} {n:Nat}
variable (S:rV P X C)
def Db (IH:uK P X C n) {f args k} (B:DR C (run C n) f args h k) {w vs}
 (rs:RS (dJ X) c h w) (gl:∀g l,C.gL.get g=some l ->c.gl g=some l) (hv:bX c args vs):
 ∃fn b,P.funcs[f]? =some fn/\ (fn.name== "runtime.NumGoroutine")=false/\ fn.body=some b/\ CallsIn (fw none) 0 P f vs.toArray w (Na X k c h w):=by
 unfold DR at B;cases I:C.ae.get f with
 |none=>rw[I] at B;dsimp only at B;rw[S.cfg.fail] at B;exact B.elim
 |some m=>
  rw[I] at B;dsimp only at B;rw[xZ] at B;obtain⟨fn,b,O,Y,hb,V,Z,G⟩:=(S.ae f m I).ok;refine⟨fn,b,O,Y,hb,?_⟩;have L:St P (dJ X) C.gL m.ntmps w.heap.size c h w (oA args 0 .e) { tmps:=vs.toArray++Array.replicate (fn.ntmps-vs.toArray.size) undef,defers:=[] }:=by
   refine⟨rs,gl,?_,by simp;omega,lO.nil⟩;intro t x E;rw[M4] at E;by_cases R:0<=t/\ t<0+args.length;rw[aF R] at E;obtain⟨v,h1,h2⟩:=hv.get t (by simpa using E);have W:t<vs.length:=(eC.1 h1).1;refine⟨v,?_,h2⟩;dsimp only;rw[Array.getElem?_append_left (by simpa using W)];simpa using h1;rw[aD R] at E;cases E
  have D:=IH m.body _ _ h B b none m.ntmps w.heap.size c _ w V L (bB _);refine callsIn_of_wp_marks O hb trivial (sZ D ?_);rintro e H w' ⟨me,τ',h',c',E,j,ev,st⟩;have done:(match eZ τ' h' m.res with|some v=>k v h'|none=>C.fail) ->LeavesInM (fw none) 0 P fn H.tmps (Na X k c h w) H.defers .returning w':=by
   intro j;rcases J:eZ τ' h' m.res with _|x;rw[J] at j;dsimp only at j;rw[S.cfg.fail] at j;exact j.elim;rw[J] at j;refine aa5 H.defers w' st.marks st.rs ev.keep λb0 U k'=> ?_;obtain⟨v,h1,h2⟩:=aa4 S.ctx U st.tr G J;exact⟨v,h1,x,h',c',j,⟨ev.ext,U,k'⟩,h2⟩
  cases e<;>cases me<;>first|exact E.elim|skip
  ·exact done j
  dsimp only at j;rw[S.cfg.fail] at j;exact j.elim
  ·exact done j
def GT (IH:uK P X C n):uz P (dJ X) C.gL (iS C (run C n)):=by
 intro f args h k j c w vs rs gl D;unfold iS at j;unfold Aa;rcases S.spec f args h k _ j with h2|j;exact h2 c w vs rs gl D;obtain⟨fn,b,h1,h2,E,G⟩:=Db S IH j rs gl D;rw[Da h1 h2 E];refine vN G λe w' B=> ?_;cases e with
 |returned v=>exact B
 |_=>exact B.elim
def aa6 {l k} (B:pV C h l k) {w} (rs:RS (dJ X) c h w) (hd:c.dM l):
 ∃j h',(Instr.beginRound (c.ρ l).1).run P w= .ok () j/\ k h'/\ cH (dJ X) c h w c h' j:=by
 unfold pV at B;split at B;rename_i ps I body J p G;rw[AH.put_eq] at B;obtain⟨r,N,h1,h2,L,O,R,U,V,E,W⟩:=rs.obj l _ ⟨G,rfl,hd⟩;have D:r.state= .ready:=by
  generalize r.state=st at E;cases st<;>first|rfl|exact E.elim
 have H:(c.ρ l).1<w.heap.size:=(jX.1 h1).1;refine⟨_,_,run_beginRound h1 D,B,cH.write rs ⟨G,rfl,hd⟩ (by simp) (λb hb=>World.putObj_heap_other hb) ?_ _⟩;exact⟨_,N,World.putObj_heap_same H,h2,L,O,R,U,V,trivial,W⟩;rw[S.cfg.fail] at B;exact B.elim
def aa7 {l st p k} (D:DS C h l st p k) {w} (rs:RS (dJ X) c h w) (hd:c.dM l) {j}
 (V:FY p j) (W:FZ st (if j.isNone then .ready else .done)):
 ∃B h',(Instr.endRound (c.ρ l).1 j).run P w= .ok (.bool j.isNone) B/\ k h'/\ cH (dJ X) c h w c h' B:=by
 unfold DS at D;split at D;rename_i ps H body I s0 p0 E;rw[AH.put_eq] at D;obtain⟨r,N,h1,h2,J,L,O,R,U,Y,Z⟩:=rs.obj l _ ⟨E,rfl,hd⟩;have G:(c.ρ l).1<w.heap.size:=(jX.1 h1).1;refine⟨_,_,run_endRound j h1,D,cH.write rs ⟨E,rfl,hd⟩ (by simp) (λb hb=>World.putObj_heap_other hb) ?_ _⟩;exact⟨_,N,World.putObj_heap_same G,h2,J,L,O,R,U,W,V⟩;rw[S.cfg.fail] at D;exact D.elim
def GU (IH:uK P X C n):uA P (dJ X) C.gL (iD C (run C n)):=by
 intro l args h k Y c w vs rs gl hd hv;unfold iD at Y;split at Y;rename_i ps c6 body b4 s0 p0 hg;obtain⟨r,N,h1,h2,h3,h4,h5,h6,h7,h8,h9⟩:=rs.obj l _ ⟨hg,rfl,hd⟩;obtain⟨eQ,Y⟩:=M5 S.cfg _ _ _ _ Y;have d5:vs.toArray.size=r.params.size:=by
  have e1:=hv.length;have e2:r.params.size=ps.length:=by rw[←h2];simp
  simp;omega
 unfold Aa;rw[run_yield h1 d5];have hT:=M6 ps args vs b4 r.tmps hv h7 (λp hp=>iR (h6 p hp) h5) eQ;have d6:(r.params.zip vs.toArray).foldl (λtmps (t,a)=>tmps.setIfInBounds t a) r.tmps=(ps.zip vs).foldl (λtmps q=>tmps.setIfInBounds q.1 q.2) r.tmps:=by
  rw[←h2,←Array.foldl_toList];simp[Array.toList_zip]
 rw[d6];refine roundIn_of_wpIn (F:=fw none) trivial ?_;have d4:St P (dJ X) C.gL N w.heap.size c h w (C9 ps args b4) { tmps:=(ps.zip vs).foldl (λtmps q=>tmps.setIfInBounds q.1 q.2) r.tmps,defers:=[] }:=
  ⟨rs,gl,hT.1,by rw[hT.2];exact h5,lO.nil⟩
 have b5:=IH c6 _ _ h Y r.assign (some (c.ρ l).1) N w.heap.size c _ w h3 d4 (bB _);refine sZ b5 ?_;rintro e b0 f7 ⟨me,τ₁,c7,L,hx,G,ev,st⟩;cases e<;>cases me<;>first|exact hx.elim|skip
 dsimp only at G;have E:=ev.ext.dM l hd;obtain⟨H,R,b1,b2,b3⟩:=aa6 S G st.rs E;have b6:=ev.ext.ρ l hd;refine⟨H,by rw[←b6];exact b1,?_⟩;have I:St P (dJ X) C.gL N w.heap.size L R H τ₁ b0:=⟨b3.rs,st.gl,st.tr,st.sz,st.marks.evo b3.keep⟩;have U:=IH body _ _ R b2 r.body (some (c.ρ l).1) N w.heap.size L _ H h4 I (fJ ev.keep.size b3.keep.size);refine sZ U ?_;rintro e d8 b7 ⟨me,τ₃,W,O,hx,G,D,Z⟩;have V:=D.ext.dM l E;have J:(O.ρ l).1=(c.ρ l).1:=by rw[D.ext.ρ l E,b6]
 have fin:∀st p B,DS C W l st p (λh=>k (.b B.isNone) h) ->FY p B ->FZ st (if B.isNone then .ready else .done) ->
  ∃v w',(Instr.endRound (c.ρ l).1 B).run P b7= .ok v w'/\∃x h' c',k x h'/\ cH (dJ X) c h w c' h' w'/\ VR c' x v:=by
  intro st p B G hp hs;obtain⟨b8,f0,d1,d2,d3⟩:=aa7 S G Z.rs V hp hs;exact⟨_,b8,by rw[←J];exact d1,_,_,O,d2,((ev.trans b3).trans D).trans d3,.b _⟩
 cases e<;>cases me<;>first|exact hx.elim|skip
 exact fin 0 none none G trivial trivial;rename_i i j;have d0:i=j:=hx;subst d0;exact fin 2 (some (some i)) (some (.exit i)) G rfl trivial;exact fin 2 (some none) (some .ret) G trivial trivial;dsimp only at G;rw[S.cfg.fail] at G;exact G.elim;dsimp only at G;rw[S.cfg.fail] at G;exact G.elim;rw[S.cfg.fail] at Y;exact Y.elim
def aa8 {nL W} (J:uz P (dJ X) C.gL nL) (U:uA P (dJ X) C.gL W)
 {N s ops Q} {K:T AV ->AH ->Prop} {x fn} (b0:fn∈X.bn):∀H l k,(∀j o,l[j]? =some o ->ops[k+j]? =some o) ->GR X N ops x H l=true ->
 ∀τ h c w a,AY C nL W (λτ h=>match az C τ x with| .f g _ _=>bif Nat.beq g fn then K τ h else C.fail|_=>C.fail) H τ h ->St P (dJ X) C.gL N s c h w τ a ->
  (∀c' h' w' τ' V,K τ' h' ->cH (dJ X) c h w c' h' w' ->St P (dJ X) C.gL N s c' h' w' τ' V ->Q .normal V w') ->wpOpsIn (fw none) 0 P ops Q (List.range' k l.length) a w:=by
 intro H;induction H with
 |nil=>
  intro l k Z R τ h c w a O st hQ;rcases l with _|⟨o,rr⟩;cases R;cases rr with
  |cons _ _=>cases R
  |nil=>
   have D:((match o.op with| .defer c=>(match c.callee with| .value y=>dC x y|_=>false)&&c.args.isEmpty|_=>false)&&o.dst.isNone&&o.guard.isNone)=true:=R;simp only[aB] at D;obtain⟨⟨E,k2⟩,k3⟩:=D;have G:(match az C τ x with| .f g _ _=>bif Nat.beq g fn then K τ h else C.fail|_=>C.fail):=O;have aC:ops[k]? =some o:=by simpa using Z 0 o rfl
   cases ho:o.op with
   |defer cl=>
    rw[ho] at E;simp only[aB] at E;obtain⟨E,k4⟩:=E;cases hc:cl.callee with
    |value y=>
     rw[hc] at E;dsimp only at E;have hy:=zT C st.tr st.gl st.rs.gl E;cases hx:az C τ x with
     |f g fi ca=>
      rw[hx] at G hy;dsimp only at G;generalize b2:a.eval y=vy at hy;cases hy with
      |f _ _ _ va vb q1 q2=>
       cases Y:Nat.beq g fn;rw[Y] at G;have B:C.fail:=G;rw[S.cfg.fail] at B;exact B.elim;rw[Y] at G;have B:K τ h:=G;rw[bu,aU] at Y;subst Y;have I:cl.args=#[]:=by simpa using k4
       have b1:o.guard=none:=by simpa using k3
       have fH:o.dst=none:=by simpa using k2
       show wpOpsIn (fw none) 0 P ops Q [k] a w;rw[wpOpsIn_cons];unfold wpOpIn;simp only[aC];have hw:Region.wanted o (yielded ops a.tmps)=true:=by simp[Region.wanted,b1]
       simp only[hw,dZ];refine⟨λ_ _=>trivial,?_⟩;have cR:(o.semAt (fw none).round a.eval).run P w= .ok (.defer { target:= .fn (.func g) vb.toArray,args:=va.toArray }) w:=by
        show(Oper.semAt none a.eval o).run P w=_;rw[Oper.semAt_none];unfold execOp;rw[ho];simp[resolve,hc,I,b2,Deferred.ofValue]
       rw[cR,Oper.uponIn_defer,fH];refine hQ c h w τ _ B (cH.refl st.rs) ⟨st.rs,st.gl,st.tr,st.sz,⟨λd hd=> ?_,?_⟩⟩;have L:d={ target:= .fn (.func g) vb.toArray,args:=va.toArray }∨d∈a.defers:=by simpa[Act.put] using hd
       rcases L with rfl|L;exact .inr ⟨g,_,rfl,S.bn g b0⟩;exact st.marks.all d L;show List.Pairwise _ (_::a.defers);rw[xD];exact⟨λe he r O=>(by cases O),st.marks.apart⟩
     |_=>rw[hx] at G;dsimp only at G;rw[S.cfg.fail] at G;exact G.elim
    |_=>rw[hc] at E;cases E
   |_=>rw[ho] at E;cases E
 |cons g H ih=>
  intro l k Z R τ h c w a O st hQ;rcases l with _|⟨o,r⟩;cases R;have D:(lP X N ops o g&&GR X N ops x H r)=true:=R;simp only[aB] at D;have aC:ops[k]? =some o:=by simpa using Z 0 o rfl
  replace O:eY C nL W g τ h (λy h=>eh τ g.dst y λτ=>AY C nL W (λτ h=>match az C τ x with| .f g _ _=>bif Nat.beq g fn then K τ h else C.fail|_=>C.fail) H τ h):=O;rw[show(o::r).length=r.length+1 from rfl,Cc,wpOpsIn_cons];refine CZ S.ctx S.cfg J U aC D.1 O st λy h' c' w' V h1 h2 h3=> ?_;rw[iI] at h1;refine ih r (k+1) (λj o' hj=> ?_) D.2 _ _ c' w' V h1 h3 λb4 b5 b6 τ'' b3 q1 q2 q3=>hQ _ _ _ _ _ q1 (h2.trans q2) q3;have:=Z (j+1) o' hj;rw[←this];congr 1;omega
def aa9 {F c Q Q'} (B:∀e a w,Q e a w ->Q' e a w):∀m a w,Code.roundsIn F n P c Q m a w ->Code.roundsIn F n P c Q' m a w:=by
 intro m;induction m with
 |zero=>intro a w h;exact h.elim
 |succ m D=>
  intro a w h;rw[roundsIn_succ] at h ⊢;refine sZ h λe E w' j=> ?_;cases e with
  |normal=>exact D _ _ j
  |_=>exact B _ _ _ j
def ab0 (Q:Exit ->Act ->World ->Prop):Exit ->Act ->World ->Prop
 | .goto _,_,_=>False
 |e,a,w=>Q e a w
def ab1 {F Q a w c} (h:c.wpIn F n P (ab0 Q) a w):(Code.scope c).wpIn F n P Q a w:=by
 intro b k cs J hb I;have h0:(lone (b.atR a (.code (.scope c)::k)) cs w).fenced P F:=fenced_calm hb I rfl;have G:Go.step P (lone (b.atR a (.code (.scope c)::k)) cs w)= .next (lone (b.atR a (.code c:: .inScope c::k)) cs w):=step_lone_go (by simp[stepG,stepG.exec,Frame.atR]);obtain⟨e,j,B,E,D⟩:=h b (.inScope c::k) cs J hb I;cases e with
 |normal=>
  have O:Go.step P (lone (b.atR j (.inScope c::k)) cs B)= .next (lone (b.atR j k) cs B):=step_lone_go (by simp[stepG,stepG.exec,Frame.atR]);exact⟨.normal,j,B,E,.head h0 G (StepsIn.trans D (.one (fenced_calm hb I rfl) O))⟩
 |exit id=>
  have L:exitTo id (.inScope c::k)=exitTo id k:=by simp[exitTo]
  exact⟨.exit id,j,B,E,λk' H=> .head h0 G (D.1 k' (by rw[L];exact H)),
   λR H=>let ⟨k₁,h1,h2⟩:=D.2 R (by rw[L];exact H);⟨k₁,h1,.head h0 G h2⟩⟩
 |goto l=>exact E.elim
 |ret=>exact⟨_,j,B,E,.of_steps (.one h0 G) D⟩
 |panic U=>exact⟨_,j,B,E,.of_steps (.one h0 G) D⟩
 |outgrown=>exact⟨_,j,B,E,.of_steps (.one h0 G) D⟩
def Dc {N s k w τ a e me} (B:M9 e me) (j:k me τ h) (st:St P (dJ X) C.gL N s c h w τ a):
 qQ P (dJ X) C.gL N s k c h w e a w:=⟨me,τ,h,c,B,j,cH.refl st.rs,st⟩
theorem gn {R} (C:aK R) n m k τ h:run C (n+1) m k τ h=(match m with
 | .skip=>k .normal τ h
 | .ops l=>AY C (iS C (run C n)) (iD C (run C n)) (λτ h=>k .normal τ h) l τ h
 | .draw z l=>fN (h.next+z) λnx=>bW C (iS C (run C n)) (iD C (run C n)) h.next (λτ h=>k .normal τ h) l [] [] τ ⟨nx,h.ver,h.oB⟩
 | .dfr l x fn=>AY C (iS C (run C n)) (iD C (run C n)) (λτ h=>match az C τ x with
  | .f g _ _=>bif Nat.beq g fn then k .normal τ h else C.fail
  |_=>C.fail) l τ h
 | .seq a b=>run C n a (λe τ h=>match e with| .normal=>run C n b k τ h|e=>k e τ h) τ h
 | .cond c a b=>match az C τ c with
  | .b x=>Bool.rec (motive:=λ_=>R) (run C n b k τ h) (run C n a k τ h) x
  |_=>C.fail
 | .block id c=>run C n c (λe τ h=>match e with| .exit i=>bif Nat.beq i id then k .normal τ h else k (.exit i) τ h|e=>k e τ h) τ h
 | .loop c=>run C n c (λe τ h=>match e with| .normal=>run C n (.loop c) k τ h|e=>k e τ h) τ h
 | .rfun f ps assign body=>h.new (.loop ps assign body τ 0 none) λl h=>
  let fin:AV ->AH ->R:=λ_ h=>match h.get l with
   |some (.loop _ _ _ _ 0 none)=>h.put l .gone λh=>k .normal τ h
   |some (.loop _ _ _ _ 2 (some (some i)))=>h.put l .gone λh=>k (.exit i) τ h
   |some (.loop _ _ _ _ 2 (some none))=>h.put l .gone λh=>k .ret τ h
   |_=>C.fail
  match az C τ f with
  | .f g fi ca=>match fy fi (.y l::ca) with
   |some l=>DR C (run C n) g l h fin
   |none=>C.fail
  |_=>C.fail
 | .exit id=>k (.exit id) τ h
 | .ret=>k .ret τ h
 | .bad _=>C.fail):=by
 cases m<;>rfl
def Dd (P:Program) (X:aR) (C:aK Prop) (n:Nat):Prop:=
 ∀j k τ h,run C n (.loop j) k τ h ->∀cc ro N s c a w,gf X N ro.isSome cc j=true ->St P (dJ X) C.gL N s c h w τ a ->s<=w.heap.size ->
  Code.roundsIn (fw ro) 0 P cc (qQ P (dJ X) C.gL N s k c h w) n a w
def Nb (IH:uK P X C n) (IL:Dd P X C n):Dd P X C (n+1):=by
 intro H k τ h G cc ro N s c a w aC st hs;rw[gn] at G;rw[roundsIn_succ];refine sZ (IH H _ _ h G cc ro N s c a w aC st hs) ?_;rintro e E w' ⟨me,τ',h',c',D,B,ev,j⟩;cases e<;>cases me<;>first|exact D.elim|skip
 exact aa9 (λe a w p=>p.trans ev) n E w' (IL H k τ' h' B cc ro N s c' E w' aC j (fJ hs ev.keep.size));exact⟨_,τ',h',c',D,B,ev,j⟩;exact⟨_,τ',h',c',D,B,ev,j⟩
def ab2 (IH:uK P X C n) {f ps b2 body k τ} (O:run C (n+1) (.rfun f ps b2 body) k τ h)
 {g qs ca cb N s a w} (hf:dC f g=true) (hq:qs.toList=ps) (hp:∀p∈ps,p<N) (h1:dJ X N ca b2) (h2:dJ X N cb body)
 (st:St P (dJ X) C.gL N s c h w τ a) (hs:s<=w.heap.size):(Code.rangeFunc g qs ca cb).wpIn (fw none) 0 P (qQ P (dJ X) C.gL N s k c h w) a w:=by
 rw[gn] at O;dsimp only at O;rw[AH.new_eq] at O;refine wpIn_rangeFunc λfn _=> ?_;have hv:=zT C st.tr st.gl st.rs.gl hf;cases hx:az C τ f with
 |f gg fi cap=>
  rw[hx] at O hv;dsimp only at O;rw[jz] at O;dsimp only at O;generalize d6:a.eval g=gv at hv;cases hv with
  |f _ _ _ vi va q1 q2=>
   let lp:Loop:={ state:= .ready,pending:=none,fn,tmps:=a.tmps,params:=qs,assign:=ca,body:=cb,defers:=w.heap.size }
   let wA:=w.alloc (.deferred (some []))
   let wB:=wA.alloc (.loop lp)
   have d2:wA.heap=w.heap.push (.deferred (some [])):=rfl;have d0:wB.heap=wA.heap.push (.loop lp):=rfl;have b0:wA.heap.size=w.heap.size+1:=by rw[d2];simp
   have f8:wB.heap.size=w.heap.size+2:=by rw[d0];simp[b0]
   have b6:∀b,b<w.heap.size ->wA.heap[b]? =w.heap[b]? :=λb hb=>by rw[d2,Ch hb];exact(tJ hb).symm
   have rA:RS (dJ X) c h wA:=st.rs.push b6
   let c₁:=c.add h.next wA.heap.size 0 0
   have f0:wB.heap[wA.heap.size]? =some (.loop lp):=by rw[d0];simp
   have G:gE c c₁:=CE.add_ext c st.rs.fresh _ _ _;have d1:cH (dJ X) c h wA c₁ ⟨Nat.succ h.next,h.ver,h.oB.put h.next (.loop ps b2 body τ 0 none)⟩ wB:=by
    refine cH.alloc rA (ob:= .loop lp) d0 0 ?_;exact⟨lp,N,by rw[CE.add_ρ];exact f0,hq,h1,h2,st.sz,hp,st.tr.mono G,trivial,trivial⟩
   have d4:cH (dJ X) c h w c h wA:=⟨gE.refl c,rA,⟨by rw[b0];omega,λb hb _=>b6 b hb,λo obj ho=> .inr ⟨o,obj,ho,rfl⟩,λ_ h=> .inl h,bB _,λ_ _ h=> .inl h,λ_ _ h=>h,⟨rfl,rfl⟩⟩⟩;have ev:=d4.trans d1;have hl:c₁.dM h.next:=CE.add_dom c _ _ _ _;have b7:(c₁.ρ h.next).1=w.heap.size+1:=by rw[CE.add_ρ];exact b0
   have c6:bX c₁ (fi++(.y h.next::cap)) (vi++(.func (.yield (w.heap.size+1)) #[] #[]::va)):=by
    refine(q1.mono G).append (.cons _ _ _ _ ?_ (q2.mono G));rw[←b7];exact .y _ hl
   obtain⟨g0,b',e1,e2,e3,e4⟩:=Db S IH O d1.rs (z8 st.gl G) c6;refine⟨w.heap.size+1,[{ target:= .collected w.heap.size,args:=#[] }],wB,⟨.fn (.func gg) va.toArray,vi.toArray++#[.func (.yield (w.heap.size+1)) #[] #[]]⟩,wB,gg,
    (vi++(.func (.yield (w.heap.size+1)) #[] #[]::va)).toArray,wB,?_,?_,λ_ _=>trivial,?_,λh=>(by cases h),?_⟩
   exact run_enterLoop_outer fn a.tmps qs ca cb;have d5:∀v,a.eval (.const v)=v:=λ_=>rfl;simp[resolve,d6,d5,Deferred.ofValue];have:=Da (P:=P) e1 e2 e3 (vi++(.func (.yield (w.heap.size+1)) #[] #[]::va)).toArray wB;simpa[invoke] using this;refine vN e4 λe H he=> ?_;cases e with
   |panicked _=>exact he.elim
   |outgrown=>exact he.elim
   |returned v=>
    obtain⟨x,B,D,Y,E,_⟩:=he;have Z:D.dM h.next:=E.ext.dM _ hl;have J:(D.ρ h.next).1=w.heap.size+1:=by rw[E.ext.ρ _ hl,b7]
    have f7:lO P s D B H ([{ target:= .collected w.heap.size,args:=#[] }]++a.defers):=by
     have m0:lO P s c₁ ⟨Nat.succ h.next,h.ver,h.oB.put h.next (.loop ps b2 body τ 0 none)⟩ wB ([{ target:= .collected w.heap.size,args:=#[] }]++a.defers):=by
      have ma:=st.marks.evo ev.keep;refine⟨λd hd=> ?_,?_⟩;rcases fO.1 hd with hd|hd;rw[yC] at hd;subst hd;refine .inl ⟨w.heap.size,rfl,hs,by omega,?_,?_⟩
      grind
      intro o obj ho he;rcases ho.dM with hd|hd;have xt:o≠h.next:=λe=>st.rs.fresh (e▸hd);have W:=ho.get;rw[T.get_put,aD xt] at W;have aV:=(st.rs.obj o obj ⟨W,ho.live,hd⟩).lt ho.live;rw[G.ρ o hd] at he;omega;subst hd;omega;exact ma.all d hd;rw[List.singleton_append,xD];refine⟨λd hd f9 he=> ?_,st.marks.apart⟩;injection he with he
      rcases st.marks.all d hd with ⟨r,k1,k2,k3,_⟩|⟨g',g1,k1,_⟩
      grind
      rw[k1];intro k4;cases k4
     exact m0.evo E.keep
    have fin:∀d3 b5 R τ' s' p' me,B.get h.next=some (.loop d3 b5 R τ' s' p') ->k me τ ⟨B.next,Nat.succ B.ver,B.oB.put h.next .gone⟩ ->
     (s'=0/\ p'=none/\ me= .normal∨s'=2/\ ((∃i,p'=some (some i)/\ me= .exit i)∨(p'=some none/\ me= .ret))) ->
     ∃b8 b1,(Instr.endLoop (w.heap.size+1)).run P H= .ok b8 b1/\ (match b8 with
      |none=>qQ P (dJ X) C.gL N s k c h w .normal { a with defers:=[{ target:= .collected w.heap.size,args:=#[] }]++a.defers } b1
      |some cd=>cd.wpIn (fw none) 0 P (qQ P (dJ X) C.gL N s k c h w) { a with defers:=[{ target:= .collected w.heap.size,args:=#[] }]++a.defers } b1):=by
     intro d3 b5 R τ' s' p' me W Y U;obtain⟨r,N',k1,k2,k3,k4,k5,k6,k7,k8,k9⟩:=E.rs.obj _ _ ⟨W,rfl,Z⟩;rw[J] at k1;have c7:r.state≠.busy:=by
      intro e;rw[e] at k8;rcases U with ⟨rfl,_⟩|⟨rfl,_⟩<;>exact k8.elim
     have V:=run_endLoop (P:=P) k1 c7;have b3:cH (dJ X) D B H D ⟨B.next,Nat.succ B.ver,B.oB.put h.next .gone⟩ (H.putObj (w.heap.size+1) (.loop { r with state:= .exhausted })):=
      cH.write E.rs ⟨W,rfl,Z⟩ (by simp) (λb hb=>World.putObj_heap_other (by rw[←J];exact hb)) (show gR (dJ X) D _ h.next .gone from trivial) _
     have L:=(ev.trans E).trans b3;have b4:St P (dJ X) C.gL N s D ⟨B.next,Nat.succ B.ver,B.oB.put h.next .gone⟩ (H.putObj (w.heap.size+1) (.loop { r with state:= .exhausted })) τ
      { a with defers:=[{ target:= .collected w.heap.size,args:=#[] }]++a.defers }:=
      ⟨b3.rs,z8 st.gl L.ext,st.tr.mono L.ext,st.sz,f7.evo b3.keep⟩
     generalize H.putObj (w.heap.size+1) (.loop { r with state:= .exhausted })=wz at V b3 L b4;refine⟨_,wz,V,?_⟩;clear V;rcases U with ⟨rfl,rfl,rfl⟩|⟨rfl,⟨i,rfl,rfl⟩|⟨rfl,rfl⟩⟩;rcases I:r.pending with _|z;exact⟨.normal,τ,_,D,trivial,Y,L,b4⟩;rw[I] at k9;exact k9.elim;rcases I:r.pending with _|z;rw[I] at k9;exact k9.elim;rw[I] at k9;cases z<;>first|exact k9.elim|skip
     rename_i j;have d8:i=j:=k9;subst d8;exact wpIn_exit ⟨.exit i,τ,_,D,rfl,Y,L,b4⟩;rcases I:r.pending with _|z;rw[I] at k9;exact k9.elim;rw[I] at k9;cases z<;>first|exact k9.elim|skip
     exact wpIn_ret ⟨.ret,τ,_,D,trivial,Y,L,b4⟩
    split at Y;rename_i W;rw[AH.put_eq] at Y;exact fin _ _ _ _ _ _ _ W Y (.inl ⟨rfl,rfl,rfl⟩);rename_i W;rw[AH.put_eq] at Y;exact fin _ _ _ _ _ _ _ W Y (.inr ⟨rfl,.inl ⟨_,rfl,rfl⟩⟩);rename_i W;rw[AH.put_eq] at Y;exact fin _ _ _ _ _ _ _ W Y (.inr ⟨rfl,.inr ⟨rfl,rfl⟩⟩)
    grind[S.cfg.fail]
 |_=>rw[hx] at O;dsimp only at O;rw[S.cfg.fail] at O;exact O.elim
def ab3 (IH:uK P X C n) (IL:Dd P X C n):uK P X C (n+1):=by
 intro H k τ h E cc;by_cases hb:∃n,H= .bad n
 grind[gn,S.cfg.fail]
 induction cc generalizing H with
 |scope b ih=>
  intro ro N s c a w B st hs;refine ab1 (sZ (ih H E hb ro N s c a w (by unfold gf at B;exact B) st hs) ?_);rintro e L w' ⟨me,τ',h',c',I,G,ev,D⟩;cases e<;>first|exact⟨me,τ',h',c',I,G,ev,D⟩|(cases me<;>exact I.elim)
 |skip=>
  intro ro N s c a w B st hs;cases H<;>first|(exact bh ⟨_,rfl⟩ hb)|(unfold gf at B;cases B;done)|skip
  rw[gn] at E;exact wpIn_skip (Dc (me:= .normal) trivial E st)
 |label l=>
  intro ro N s c a w B st hs;cases H<;>first|(exact bh ⟨_,rfl⟩ hb)|(unfold gf at B;cases B;done)|skip
  rw[gn] at E;exact wpIn_label (Dc (me:= .normal) trivial E st)
 |exit i=>
  intro ro N s c a w B st hs;cases H<;>first|(exact bh ⟨_,rfl⟩ hb)|(unfold gf at B;cases B;done)|skip
  rw[gn] at E;unfold gf at B;simp only[bu,aU] at B;subst B;exact wpIn_exit (Dc (me:= .exit i) rfl E st)
 |ret=>
  intro ro N s c a w B st hs;cases H<;>first|(exact bh ⟨_,rfl⟩ hb)|(unfold gf at B;cases B;done)|skip
  rw[gn] at E;exact wpIn_ret (Dc (me:= .ret) trivial E st)
 |goto l=>
  intro ro N s c a w B st hs;cases H<;>first|(exact bh ⟨_,rfl⟩ hb)|(unfold gf at B;cases B)
 |refuse l=>
  intro ro N s c a w B st hs;cases H<;>first|(exact bh ⟨_,rfl⟩ hb)|(unfold gf at B;cases B)
 |region id ops d=>
  intro ro N s c a w B st hs;cases H<;>first|(exact bh ⟨_,rfl⟩ hb)|(unfold gf at B;cases B;done)|skip
  rename_i l;rw[gn] at E;unfold gf at B;simp only[aB,jH] at B;obtain⟨rfl,B⟩:=B;refine wpIn_region ?_;have:=ZL (ro:=ro) (s:=s) S.ctx S.cfg (GT S IH) (GU S IH) (ops:=ops) (Q:=qQ P (dJ X) C.gL N s k c h w) l ops.toList 0 (λj o Y=>by simpa using Y) B τ h c w a E st
   (λc' h' w' τ' L G ev D=>⟨.normal,τ',h',c',trivial,G,ev,D⟩)
  rw[zB];simpa using this;rename_i z l;rw[gn] at E;dsimp only at E;rw[dT] at E;unfold gf at B;simp only[aB] at B;obtain⟨rfl,B⟩:=B;exact aa0 S.ctx S.cfg (GT S IH) (GU S IH) S.mixed B E st λc' h' w' τ' L G ev D=>⟨.normal,τ',h',c',trivial,G,ev,D⟩;rename_i l x fn;rw[gn] at E;unfold gf at B;simp only[aB,jH] at B;obtain⟨Z,rfl,b0,B⟩:=B;have O:ro=none:=by cases ro with|none=>rfl|some _=>cases Z
  subst O;have V:fn∈X.bn:=by
   simp_all
  refine wpIn_region ?_;have:=aa8 S (GT S IH) (GU S IH) (N:=N) (s:=s) (ops:=ops) (Q:=qQ P (dJ X) C.gL N s k c h w) (K:=λτ h=>k .normal τ h) V l ops.toList 0 (λj o Y=>by simpa using Y) B τ h c w a E st
   (λc' h' w' τ' L G ev D=>⟨.normal,τ',h',c',trivial,G,ev,D⟩)
  rw[zB];simpa using this
 |seq x y R U=>
  intro ro N s c a w B st hs;cases H<;>first|(exact bh ⟨_,rfl⟩ hb)|(unfold gf at B;cases B;done)|skip
  rename_i p q;rw[gn] at E;unfold gf at B;simp only[aB] at B;refine wpIn_seq (sZ (IH p _ _ h E x ro N s c a w B.1 st hs) ?_);rintro e L w' ⟨me,τ',h',c',I,G,ev,D⟩;cases e<;>cases me<;>first|exact I.elim|skip
  exact sZ (IH q _ _ h' G y ro N s c' L w' B.2 D (fJ hs ev.keep.size)) λe a w p=>p.trans ev;exact⟨_,τ',h',c',I,G,ev,D⟩;exact⟨_,τ',h',c',I,G,ev,D⟩
 |cond o x y R U=>
  intro ro N s c a w B st hs;cases H<;>first|(exact bh ⟨_,rfl⟩ hb)|(unfold gf at B;cases B;done)|skip
  rename_i m p q;rw[gn] at E;unfold gf at B;simp only[aB] at B;have hv:=zT C st.tr st.gl st.rs.gl B.1;dsimp only at E;cases I:az C τ m with
  |b t=>
   rw[I] at E hv;generalize W:a.eval o=gv at hv;cases hv;refine wpIn_cond W ?_;cases t with
   |true=>exact IH p _ _ h E x ro N s c a w B.2.1 st hs
   |false=>exact IH q _ _ h E y ro N s c a w B.2.2 st hs
  |_=>rw[I] at E;dsimp only at E;rw[S.cfg.fail] at E;exact E.elim
 |block i b ih=>
  intro ro N s c a w B st hs;cases H<;>first|(exact bh ⟨_,rfl⟩ hb)|(unfold gf at B;cases B;done)|skip
  rename_i j p;rw[gn] at E;unfold gf at B;simp only[aB,bu,aU] at B;obtain⟨rfl,B⟩:=B;refine wpIn_block (sZ (IH p _ _ h E b ro N s c a w B st hs) ?_);rintro e L w' ⟨me,τ',h',c',I,G,ev,D⟩;cases e<;>cases me<;>first|exact I.elim|skip
  exact⟨_,τ',h',c',I,G,ev,D⟩;rename_i e1 e2;have he:e1=e2:=I;subst he;dsimp only at G;by_cases J:e1=i;subst J;have hb:Nat.beq e1 e1=true:=by rw[bu];simp
  rw[hb] at G;simp only[Exit.inBlock,dZ];exact⟨.normal,τ',h',c',trivial,G,ev,D⟩;have hb:Nat.beq e1 i=false:=by rw[bu];simp[J]
  rw[hb] at G;simp only[Exit.inBlock,aD J];exact⟨.exit e1,τ',h',c',rfl,G,ev,D⟩;exact⟨_,τ',h',c',I,G,ev,D⟩
 |loop b ih=>
  intro ro N s c a w B st hs;cases H<;>first|(exact bh ⟨_,rfl⟩ hb)|(unfold gf at B;cases B;done)|skip
  rename_i p;unfold gf at B;exact wpIn_loop_rounds (n+1) (Nb IH IL p k τ h E b ro N s c a w B st hs)
 |rangeFunc f qs x y R U=>
  intro ro N s c a w B st hs;cases H<;>first|(exact bh ⟨_,rfl⟩ hb)|(unfold gf at B;cases B;done)|skip
  rename_i g ps p q;unfold gf at B;simp only[aB,jH,M7,aU] at B;obtain⟨⟨⟨⟨⟨h1,h2⟩,h3⟩,h4⟩,h5⟩,h6⟩:=B;cases ro with
  |some l=>cases h1
  |none=>exact ab2 S IH E h2 h3 (M8 h4) h5 h6 st hs
def Qh:∀n,uK P X C n/\ Dd P X C n:=by
 intro n;induction n with
 |zero=>
  constructor;intro D k τ h B;have:C.fail:=B;rw[S.cfg.fail] at this;exact this.elim;intro D k τ h B;have:C.fail:=B;rw[S.cfg.fail] at this;exact this.elim
 |succ n j=>exact⟨ab3 S j.1 j.2,Nb j.1 j.2⟩
end
end
end AM
