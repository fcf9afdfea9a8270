import Derived.RangeFuncRecord
import Derived.Test.YtdmkaddihnnbaaaGreatDoorN3
set_option linter.all false
namespace AM
open Go
noncomputable section
section
variable {CR:Nat ->Code ->aw ->Prop}
structure mK (CR:Nat ->Code ->aw ->Prop) (s₀:Nat) (c:CE) (h:AH) (w:World) (id:Nat) (ob:bC):Prop where
 dM:c.dM id
 obj:gR CR c w id ob
 live:live ob=true
 lo:s₀<=(c.ρ id).1
 un:∀o ob',dU c h o ob' ->(c.ρ o).1≠(c.ρ id).1
 im:c.im (c.ρ id).1=none
variable {s₀ id:Nat} {c:CE} {h:AH} {w:World} {ob:bC}
def mK.lt (g:mK CR s₀ c h w id ob):(c.ρ id).1<w.heap.size:=g.obj.lt g.live
variable {c':CE} {w':World}
def mK.evo {h'} (g:mK CR s₀ c h w id ob) (e:cH CR c h w c' h' w'):mK CR s₀ c' h' w' id ob:=by
 have j:=e.ext.ρ id g.dM;refine⟨e.ext.dM id g.dM,g.obj.mono e.ext g.dM (e.keep.same _ g.lt g.un),g.live,by rw[j];exact g.lo,λo ob' E D=> ?_,?_⟩;rw[j] at D;rcases e.keep.new o ob' E with h1|⟨B,u,h1,h2⟩;have:=g.lt;omega;exact g.un B u h1 (h2.trans D);rw[j];rcases hi:c'.im (c.ρ id).1 with _|row;rfl;rcases e.keep.im _ row hi with h1|h1|⟨o,ob',h1,h2⟩;rw[g.im] at h1;cases h1;have:=g.lt;omega;exact bh h2 (g.un o ob' h1)
def gR.not_deferred {o obj} (h:gR CR c w o obj) (G:live obj=true) {d} (hd:w.heap[(c.ρ o).1]? =some (.deferred d)):False:=by
 cases obj with
 |cells v l=>obtain⟨row,t,lo,hi,vs,h1,_⟩:=h;rw[hd] at h1;cases h1
 |tc T wh l=>obtain⟨row,t,lo,hi,vs,h1,_⟩:=h;rw[hd] at h1;cases h1
 |map v J I=>obtain⟨E,h1,_⟩:=h;rw[hd] at h1;cases h1
 |sit l H=>obtain⟨_,bs,h1,_⟩:=h;rw[hd] at h1;cases h1
 |mit m u seen j=>have h1:=h.2.2;rw[hd] at h1;cases h1
 |loop ps assign body D st B=>obtain⟨r,N,h1,_⟩:=h;rw[hd] at h1;cases h1
 |gone=>cases G
def RS.adopt (r:RS CR c h w) (g:mK CR s₀ c h w id ob) ver (G:id<h.next):
 RS CR c ⟨h.next,ver,h.oB.put id ob⟩ w/\ (∀o ob',dU c ⟨h.next,ver,h.oB.put id ob⟩ o ob' ->(o=id/\ ob'=ob)∨(o≠id/\ dU c h o ob')):=by
 have B:∀o ob',dU c ⟨h.next,ver,h.oB.put id ob⟩ o ob' ->(o=id/\ ob'=ob)∨(o≠id/\ dU c h o ob'):=by
  intro o ob' j;have E:=j.get;rw[T.get_put] at E;by_cases e:o=id
  grind
  rw[aD e] at E;exact .inr ⟨e,E,j.live,j.dM⟩
 refine⟨⟨r.nx,λo ob' j=> ?_,λo ob' j=> ?_,λo J I u h1 h2 D=> ?_,r.im,λo ob' j=> ?_,r.gl⟩,B⟩;rw[T.get_put] at j;by_cases e:o=id;subst e;exact G;rw[aD e] at j;exact r.lt _ _ j;rcases B o ob' j with ⟨rfl,rfl⟩|⟨_,e⟩;exact g.obj;exact r.obj _ _ e;rcases B o I h1 with ⟨rfl,rfl⟩|⟨_,e⟩<;>rcases B J u h2 with ⟨rfl,rfl⟩|⟨_,H⟩
 rfl;exact bh D.symm (g.un _ _ H);exact bh D (g.un _ _ e);exact r.inj _ _ _ _ e H D;rcases B o ob' j with ⟨rfl,rfl⟩|⟨_,e⟩;exact g.im;exact r.dj _ _ e
def j6.adopt {c₀ h₀ w₀} (k:j6 c₀ h₀ w₀ c h w) (g:mK CR w₀.heap.size c h w id ob) ver (D:h₀.next<=id)
 (B:∀o ob',dU c ⟨h.next,ver,h.oB.put id ob⟩ o ob' ->(o=id/\ ob'=ob)∨(o≠id/\ dU c h o ob')):j6 c₀ h₀ w₀ c ⟨h.next,ver,h.oB.put id ob⟩ w:=by
 refine⟨k.size,k.same,λo ob' j=> ?_,k.dM,k.nxt,k.im,λo j hd ob' u=> ?_,k.io⟩;rcases B o ob' j with ⟨rfl,_⟩|⟨_,e⟩;exact .inl g.lo;exact k.new o ob' e;rw[T.get_put,aD (show o≠id by omega)] at u;exact k.dead o j hd ob' u
def mK.adopt {j ver ob'} (g:mK CR s₀ c h w id ob) (E:(c.ρ id).1≠(c.ρ j).1)
 (B:∀o u,dU c ⟨h.next,ver,h.oB.put j ob'⟩ o u ->(o=j/\ u=ob')∨(o≠j/\ dU c h o u)):mK CR s₀ c ⟨h.next,ver,h.oB.put j ob'⟩ w id ob:=
 ⟨g.dM,g.obj,g.live,g.lo,λo u D=>by
  rcases B o u D with ⟨rfl,_⟩|⟨_,e⟩;exact E.symm;exact g.un o u e,g.im⟩
structure C7 (c:CE) (h:AH) (w:World) (c':CE) (w':World) (id:Nat):Prop where
 ext:gE c c'
 old:∀b,b<w.heap.size ->w'.heap[b]? =w.heap[b]?
 size:w.heap.size<=w'.heap.size
 has:∀o ob,dU c' h o ob ->o≠id/\ dU c h o ob
 dM:∀o,c'.dM o ->c.dM o∨o=id
 im:c'.im=c.im
 ρ:(c'.ρ id).1=w.heap.size
 io:w'.os=w.os/\ w'.output=w.output
def RS.bring (r:RS CR c h w) (I:¬c.dM id) (D:zR h id) (H:id<h.next) {ob} (R:w'.heap=w.heap.push ob) n (Z:w'.os=w.os/\ w'.output=w.output:=by exact⟨rfl,rfl⟩):
 RS CR (c.add id w.heap.size 0 n) h w'/\ C7 c h w (c.add id w.heap.size 0 n) w' id:=by
 have J:=CE.add_ext c I w.heap.size 0 n;have u:∀b,b<w.heap.size ->w'.heap[b]? =w.heap[b]? :=λb hb=>by rw[R,Ch hb];exact(Fg hb).symm
 have B:∀o ob,dU (c.add id w.heap.size 0 n) h o ob ->o≠id/\ dU c h o ob:=by
  intro o ob j;have U:o≠id:=λe=>by
   subst e;have:=D ob j.get;rw[j.live] at this;cases this
  exact⟨U,j.get,j.live,j.dM.resolve_right U⟩
 have E:∀o,o≠id ->(c.add id w.heap.size 0 n).ρ o=c.ρ o:=λo e=>by simp[CE.add,e]
 refine⟨⟨λo j=> ?_,r.lt,λo ob j=> ?_,λo G a b j L O=> ?_,λb row hb=> ?_,λo ob j=> ?_,λg l Y=> ?_⟩,J,u,by rw[R];simp,B,λo j=>j,rfl,by rw[CE.add_ρ],Z⟩;rcases j with j|rfl;exact r.nx o j;exact H;have:=(B o ob j).2;exact(r.obj o ob this).mono J this.dM (u _ ((r.obj o ob this).lt this.live));rw[E o (B o a j).1,E G (B G b L).1] at O;exact r.inj o G a b (B o a j).2 (B G b L).2 O;obtain⟨t,V,h1⟩:=r.im b row hb;exact⟨t,V,by rw[u b (r.im_lt hb)];exact h1⟩;rw[E o (B o ob j).1];exact r.dj o ob (B o ob j).2;obtain⟨row,vs,h1,h2,W⟩:=r.gl g l Y;exact⟨row,vs,h1,h2,W.mono J⟩
def mK.bring {u} (g:mK CR s₀ c h w u ob) (b:C7 c h w c' w' id):mK CR s₀ c' h w' u ob:=by
 have j:=b.ext.ρ u g.dM;refine⟨b.ext.dM _ g.dM,g.obj.mono b.ext g.dM (b.old _ g.lt),g.live,by rw[j];exact g.lo,λo ob' D B=> ?_,by rw[j,b.im];exact g.im⟩;have h1:=(b.has o ob' D).2;rw[j,b.ext.ρ o h1.dM] at B;exact g.un o ob' h1 B
def j6.bring {c₀ h₀ w₀} (k:j6 c₀ h₀ w₀ c h w) (b:C7 c h w c' w' id) (u:h₀.next<=id):j6 c₀ h₀ w₀ c' h w':=by
 refine⟨fJ k.size b.size,λq j D=>by rw[b.old q (iR j k.size)];exact k.same q j D,λo ob B=> ?_,λo B=> ?_,k.nxt,λq row j=> ?_,k.dead,⟨b.io.1.trans k.io.1,b.io.2.trans k.io.2⟩⟩;have h1:=(b.has o ob B).2;rw[b.ext.ρ o h1.dM];exact k.new o ob h1;rcases b.dM o B with h1|rfl;exact k.dM o h1;exact .inr u;rw[b.im] at j;exact k.im q row j
def lO.bring {P:Program} {s l} (m:lO P s c h w l) (b:C7 c h w c' w' id):lO P s c' h w' l:=by
 refine⟨λd hd=> ?_,m.apart⟩;rcases m.all d hd with ⟨r,h1,h2,j,D,E⟩|m
 case inr=>exact .inr m
 refine .inl ⟨r,h1,h2,iR j b.size,by rw[b.old r j];exact D,λo ob G B=> ?_⟩;have u:=(b.has o ob G).2;rw[b.ext.ρ o u.dM] at B;exact E o ob u B
def lO.adopt {P:Program} {s l} (m:lO P s c h w l) {ver} (g:mK CR s₀ c h w id ob)
 (E:∀o ob',dU c ⟨h.next,ver,h.oB.put id ob⟩ o ob' ->(o=id/\ ob'=ob)∨(o≠id/\ dU c h o ob')):lO P s c ⟨h.next,ver,h.oB.put id ob⟩ w l:=by
 refine⟨λd hd=> ?_,m.apart⟩;rcases m.all d hd with ⟨r,h1,h2,B,j,D⟩|m
 case inr=>exact .inr m
 refine .inl ⟨r,h1,h2,B,j,λo ob' G u=> ?_⟩;rcases E o ob' G with ⟨rfl,_⟩|⟨_,e⟩;rw[←u] at j;exact g.obj.not_deferred g.live j;exact D o ob' e u
variable {P:Program} {X:aR} {C:aK Prop}
structure jc (P:Program) (CR:Nat ->Code ->aw ->Prop) (X:aR) (C:aK Prop) (N s:Nat) (ops:Array Oper) (A:List Nat) (n HV:Nat) (c₀:CE) (h₀:AH) (w₀:World)
 (done laid:Nat) (bU:List (Nat×Nat)) (ls:List (Nat×MG)) (pd:List (Nat×Nat×bC)) (τ:T AV) (h:AH) (listed:Array Bool) (a:Act) (w:World) (c:CE) (τD:T AV):Prop where
 down:uF ops listed
 din:∀i,cD listed i ->bY done i=true
 cls:∀i,bY done i=true ->cD listed i∨(∃g,(i,g)∈ls)∨(∃k,(i,k)∈bU/\ bY laid i=false)
 laidL:∀i,bY laid i=true ->cD listed i
 lst:∀i g,(i,g)∈ls ->uI X N ops A HV done i g/\ (bY HV i=false/\ xX g.op=true)/\ bY done i=true
 als:∀i k,(i,k)∈bU ->∃g ob x,uH X N ops A done i g/\ (bY HV i=false/\ Ab g.op=true)/\ g.guard=none/\ k<n/\ bY done i=true/\ iC i pd=some (h₀.next+k,ob)/\
  (∃ver h1,step (az C τ) ⟨h₀.next+k,ver,.e⟩ g.op= .v x h1/\ h1.oB.get (h₀.next+k)=some ob)/\ (∀d,g.dst=some d ->τ.get d=some x)/\ (cD listed i ->bY laid i=false ->mK CR w₀.heap.size c h w (h₀.next+k) ob)
 rD:∀i k,(i,k)∈bU ->cD listed i ->c.dM (h₀.next+k)
 rlt:∀i k,(i,k)∈bU ->cD listed i ->(c.ρ (h₀.next+k)).1<w.heap.size
 disj:∀i g k,(i,g)∈ls ->(i,k)∈bU ->False
 runiq:∀i k k',(i,k)∈bU ->(i,k')∈bU ->k=k'
 kuniq:∀i i' k,(i,k)∈bU ->(i',k)∈bU ->i=i'
 apart:∀i k i' k',(i,k)∈bU ->(i',k')∈bU ->cD listed i ->cD listed i' ->i≠i' ->(c.ρ (h₀.next+k)).1≠(c.ρ (h₀.next+k')).1
 fresh:∀k,k<n ->(∀i,(i,k)∈bU ->¬cD listed i) ->¬c.dM (h₀.next+k)
 dead:∀k,k<n ->(∀i,(i,k)∈bU ->bY laid i=false) ->zR h (h₀.next+k)
 nx:h₀.next+n<=h.next
 st:St P CR C.gL N s c h w τD a
 sub:∀t,(∀(j:Nat) o,ops[j]? =some o ->o.dst=some t ->cD listed j) ->τD.get t=τ.get t
 old:∀t,(∀(j:Nat) o,ops[j]? =some o ->o.dst=some t ->bY done j=false) ->τD.get t=τ.get t
 ext:gE c₀ c
 keep:j6 c₀ h₀ w₀ c h w
def An (C:aK Prop) (τ:T AV) (h:AH) (ls:List (Nat×MG)) (listed:Array Bool):Prop:=
 ∀i g,(i,g)∈ls ->¬cD listed i ->∃x,y6 C τ h g=some x/\∀d,g.dst=some d ->τ.get d=some x
end
section
variable {P:Program} {CR:Nat ->Code ->aw ->Prop} {X:aR} {C:aK Prop}
variable {N s n HV:Nat} {ops:Array Oper} {A:List Nat} {c₀ c:CE} {h₀ h:AH} {w₀ w:World} {done laid:Nat} {bU:List (Nat×Nat)} {ls:List (Nat×MG)} {pd:List (Nat×Nat×bC)} {τ τD:T AV} {listed:Array Bool} {a:Act}
variable {o:Oper} {i:Nat}
def jc.agree (S:nM ops A) (I:jc P CR X C N s ops A n HV c₀ h₀ w₀ done laid bU ls pd τ h listed a w c τD) {g} (G:uH X N ops A done i g) (E:ops[i]? =some o) (hE:qd listed o):
 ∀t∈qc g,τ.get t=τD.get t:=by
 obtain⟨J,h1,h2,B⟩:=G;intro t H;exact(I.sub t λj u D hd=>tA S I.down i o E hE j (B t H j u D hd).1).symm
def jc.agreeH (S:nM ops A) (I:jc P CR X C N s ops A n HV c₀ h₀ w₀ done laid bU ls pd τ h listed a w c τD) {g} (hs:uI X N ops A HV done i g) (ho:ops[i]? =some o) (hE:qd listed o) (V:¬cD listed i):
 ∀t∈qc g,τ.get t=τD.get t:=by
 obtain⟨o',h1,h2,Z⟩:=hs;intro t ht;by_cases W:∃(j:Nat) (u:Oper),ops[j]? =some u/\ u.dst=some t;obtain⟨j,u,D,hd⟩:=W;rcases Z t ht j u D hd with E|⟨E,G⟩;refine(I.sub t λL R O B=> ?_).symm;rw[←S.uniq j L u R t D O hd B];exact tA S I.down i o ho hE j E.1
 ·have J:¬cD listed j:=λU=>by
   rcases G with rfl|G;exact V U;exact V (tA S I.down j u D (I.down.down j u D U) i G)
  have H:bY done j=false:=by
   cases hb:bY done j;rfl;rcases I.cls j hb with q|⟨Y,q⟩|⟨k,q,_⟩;exact bh q J;have:=(I.lst j Y q).2.1.1;rw[E] at this;cases this;obtain⟨_,_,_,_,q2,_⟩:=I.als j k q;have:=q2.1;rw[E] at this;cases this
  refine(I.old t λL R O B=> ?_).symm;rw[←S.uniq j L u R t D O hd B];exact H
 exact(I.sub t λj u D hd=>bh ⟨j,u,D,hd⟩ W).symm
def jc.old_set (I:jc P CR X C N s ops A n HV c₀ h₀ w₀ done laid bU ls pd τ h listed a w c τD) (E:ops[i]? =some o) {d} (hd:o.dst=d) (u:bY done i=true) x:
 ∀t,(∀(j) o',ops[j]? =some o' ->o'.dst=some t ->bY done j=false) ->(cj τD d x).get t=τ.get t:=by
 intro t B;have D:d≠some t:=λe=>by
  grind
 rw[←I.old t B];rcases d with _|d;rfl;show(τD.put d x).get t=_;rw[T.get_put,aD (λe=>D (by rw[e]))]
def jc.sub_set (S:nM ops A) (I:jc P CR X C N s ops A n HV c₀ h₀ w₀ done laid bU ls pd τ h listed a w c τD) (G:ops[i]? =some o) {d} (hd:o.dst=d) {x}
 (J:∀t,d=some t ->τ.get t=some x):∀t,(∀(j) B,ops[j]? =some B ->B.dst=some t ->cD (listed.setIfInBounds i true) j) ->(cj τD d x).get t=τ.get t:=by
 have hi:i<listed.size:=by rw[I.down.sz];exact(jX.1 G).1
 intro t H;have u:d≠some t ->τD.get t=τ.get t:=λL=>I.sub t λj B E D=>by
  rcases(cD.set hi).1 (H j B E D) with rfl|h1
  grind
  exact h1
 rcases d with _|d;exact u (by simp);show(τD.put d x).get t=_;rw[T.get_put];by_cases e:t=d
 grind
 grind
variable (hX:j7 P X) (hC:CfgOK C)
def ZW {nL bA} (E:uz P CR C.gL nL) (O:uA P CR C.gL bA) {ro Q}
 (S:nM ops A) (I:jc P CR X C N s ops A n HV c₀ h₀ w₀ done laid bU ls pd τ h listed a w c τD) (L:An C τ h ls listed) {g} (H:(i,g)∈ls) (J:ops[i]? =some o) (hE:qd listed o) (hn:¬cD listed i):
 wpOpIn (fw ro) 0 P ops Q i (λa' w'=>∃c' τD',jc P CR X C N s ops A n HV c₀ h₀ w₀ done laid bU ls pd τ h (listed.setIfInBounds i true) a' w' c' τD') a w:=by
 have hi:i<listed.size:=by rw[I.down.sz];exact(jX.1 J).1
 obtain⟨hs,⟨_,hl⟩,D⟩:=I.lst i g H;obtain⟨x,hv,hx⟩:=L i g H hn;have V:=I.agreeH S hs J hE hn;obtain⟨o',bT,R,b1⟩:=hs;rw[J] at bT;cases bT;have fH:o.dst=g.dst:=by
  simp only[lP,aB] at R;exact(uy R.2.1).1
 have cR:eY C nL bA g τD h (λy h'=>y=x/\ h'=h):=by
  rw[←MD C V,ZN C hl hv];exact⟨rfl,rfl⟩
 refine CZ hX hC E O J R cR I.st λy h' c' w' a' W ev b0=> ?_;obtain⟨rfl,rfl⟩:=W;exact⟨c',cj τD g.dst y,{
  down:=I.down.set J hE
  din:=λj u=>by
   rcases(cD.set hi).1 u with rfl|u;exact D;exact I.din j u
  cls:=λj u=>(I.cls j u).imp (λq=>(cD.set hi).2 (.inr q)) id
  laidL:=λj u=>(cD.set hi).2 (.inr (I.laidL j u))
  lst:=I.lst
  als:=λj k u=>by
   obtain⟨g',ob,x',q1,q2,q3,q4,q5,q6,q7,q8,q9⟩:=I.als j k u;refine⟨g',ob,x',q1,q2,q3,q4,q5,q6,q7,q8,λB G=> ?_⟩;rcases(cD.set hi).1 B with rfl|B;exact(I.disj _ _ _ H u).elim;exact(q9 B G).evo ev
  rD:=λj k u B=>by
   have e1:cD listed j:=((cD.set hi).1 B).resolve_left λe=>I.disj _ _ _ H (e▸u);exact ev.ext.dM _ (I.rD j k u e1)
  rlt:=λj k u B=>by
   have e1:cD listed j:=((cD.set hi).1 B).resolve_left λe=>I.disj _ _ _ H (e▸u);rw[ev.ext.ρ _ (I.rD j k u e1)];exact iR (I.rlt j k u e1) ev.keep.size
  disj:=I.disj
  runiq:=I.runiq
  kuniq:=I.kuniq
  apart:=λj k Y k' u Z B U xt=>by
   have e1:cD listed j:=((cD.set hi).1 B).resolve_left λe=>I.disj _ _ _ H (e▸u);have e2:cD listed Y:=((cD.set hi).1 U).resolve_left λe=>I.disj _ _ _ H (e▸Z);have h1:=I.apart j k Y k' u Z e1 e2 xt;rw[ev.ext.ρ _ (I.rD j k u e1),ev.ext.ρ _ (I.rD Y k' Z e2)];exact h1
  fresh:=λk W hf hd=>by
   have h1:=I.fresh k W (λj u B=>hf j u ((cD.set hi).2 (.inr B)));rcases ev.keep.dM _ hd with h2|h2;exact h1 h2;have:=I.nx;omega
  dead:=I.dead
  nx:=I.nx
  st:=b0
  sub:=I.sub_set S J fH hx
  old:=I.old_set J fH D _
  ext:=I.ext.trans ev.ext
  keep:=I.keep.trans ev.keep }⟩
def ZX {ro Q}
 (S:nM ops A) (I:jc P CR X C N s ops A n HV c₀ h₀ w₀ done laid bU ls pd τ h listed a w c τD) {k} (Y:(i,k)∈bU) (W:bY laid i=false) (Z:ops[i]? =some o) (hE:qd listed o) (hn:¬cD listed i):
 wpOpIn (fw ro) 0 P ops Q i (λa' w'=>∃c' τD',jc P CR X C N s ops A n HV c₀ h₀ w₀ done laid bU ls pd τ h (listed.setIfInBounds i true) a' w' c' τD') a w:=by
 have hi:i<listed.size:=by rw[I.down.sz];exact(jX.1 Z).1
 obtain⟨g,ob,x,hs,⟨_,b4⟩,b7,hk,O,d8,⟨ver,h1,J,G⟩,hx,_⟩:=I.als i k Y;have b3:=I.agree S hs Z hE;obtain⟨o',bT,aC,f0⟩:=hs;rw[Z] at bT;cases bT;simp only[lP,aB] at aC;obtain⟨k1,k2,k3⟩:=aC;have fH:=uy k2;have d2:o.guard=none:=by
  rw[b7] at k3;rcases hg:o.guard with _|q;rfl;rw[hg] at k3;cases k3
 have hw:Region.wanted o (yielded ops a.tmps)=true:=by simp[Region.wanted,d2]
 unfold wpOpIn;simp only[Z,hw,dZ];refine Mx (Mz k1) ?_;have b5:Cx CR c h w (az C τD) a.eval:=⟨I.st.rs,λm y Y=>zT C I.st.tr I.st.gl I.st.rs.gl Y⟩;have L:∀H,step (az C τ) H g.op=step (az C τD) H g.op:=λH=>PA (wp C b3);have d0:¬c.dM (h₀.next+k):=I.fresh k hk λj u B=>hn (I.kuniq i j k Y u▸B);have V:zR h (h₀.next+k):=I.dead k hk λj u=>I.kuniq i j k Y u▸W;have b8:h₀.next+k<h.next:=by have:=I.nx;omega
 rcases ZP hX b5 b4 k1 (o:=o) with ⟨obj,val,e1,e2,v,w',obx,nn,hr,⟨E,b1⟩,F⟩|b0;rw[L,e1,AH.new_eq] at J;injection J with hv1 hh1
 subst hv1;rw[←hh1] at G;dsimp only at G;rw[T.get_put,aF rfl] at G;cases G;rw[hr,Oper.uponIn_value,fH.1];obtain⟨d4,br⟩:=RS.bring I.st.rs d0 V b8 E nn b1;obtain⟨d1,d3⟩:=F (c.add (h₀.next+k) w.heap.size 0 nn) w' (h₀.next+k) ver br.ext (by simp) (by simp) (by simp) (by rw[E];simp);have b6:mK CR w₀.heap.size (c.add (h₀.next+k) w.heap.size 0 nn) h w' (h₀.next+k) (obj ver):=by
  refine⟨by simp,d1,e2 ver,by rw[br.ρ];exact I.keep.size,λR i9 hh he=> ?_,?_⟩;have h3:=(br.has R i9 hh).2;rw[br.ρ,br.ext.ρ R h3.dM] at he;have:=(I.st.rs.obj R i9 h3).lt h3.live;omega;rw[br.ρ,br.im];rcases hq:c.im w.heap.size with _|row;rfl;have:=I.st.rs.im_lt hq;omega
 refine⟨c.add (h₀.next+k) w.heap.size 0 nn,cj τD g.dst (val (h₀.next+k)),?_⟩;have D:∀{j k'},(j,k')∈bU ->cD (listed.setIfInBounds i true) j ->(j=i/\ k'=k)∨(j≠i/\ cD listed j):=by
  intro j k' u B;by_cases e:j=i;subst e;exact .inl ⟨rfl,I.runiq _ _ _ u Y⟩;exact .inr ⟨e,((cD.set hi).1 B).resolve_left λq=>e q.symm⟩
 have d6:∀{j k'},(j,k')∈bU ->cD listed j ->bY laid j=true∨bY laid j=false:=λ_ _=>by
  cases bY laid _<;>simp
 have d5:∀{j k'},(j,k')∈bU ->cD listed j ->(c.ρ (h₀.next+k')).1<w.heap.size:=λ{j k'} u B=>I.rlt j k' u B;exact {
  down:=I.down.set Z hE
  din:=λj u=>by
   rcases(cD.set hi).1 u with rfl|u;exact O;exact I.din j u
  cls:=λj u=>(I.cls j u).imp (λq=>(cD.set hi).2 (.inr q)) id
  laidL:=λj u=>(cD.set hi).2 (.inr (I.laidL j u))
  lst:=I.lst
  als:=λj k' u=>by
   obtain⟨g',ob',x',q1,q2,q3,q4,q5,q6,q7,q8,q9⟩:=I.als j k' u;refine⟨g',ob',x',q1,q2,q3,q4,q5,q6,q7,q8,λB c7=> ?_⟩;rcases D u B with ⟨rfl,rfl⟩|⟨_,B⟩
   grind
   exact(q9 B c7).bring br
  rD:=λj k' u B=>by
   rcases D u B with ⟨rfl,rfl⟩|⟨_,B⟩;simp;exact br.ext.dM _ (I.rD j k' u B)
  rlt:=λj k' u B=>by
   rcases D u B with ⟨rfl,rfl⟩|⟨_,B⟩;rw[br.ρ,E];simp;rw[br.ext.ρ _ (I.rD j k' u B)];exact iR (I.rlt j k' u B) br.size
  disj:=I.disj
  runiq:=I.runiq
  kuniq:=I.kuniq
  apart:=λj k' j' U u m9 B b2 xt=>by
   rcases D u B with ⟨rfl,rfl⟩|⟨f1,m1⟩<;>rcases D m9 b2 with ⟨rfl,rfl⟩|⟨f2,m2⟩
   exact bh rfl xt;rw[br.ρ,br.ext.ρ _ (I.rD j' U m9 m2)];have:=I.rlt j' U m9 m2;omega;rw[br.ρ,br.ext.ρ _ (I.rD j k' u m1)];have:=I.rlt j k' u m1;omega;rw[br.ext.ρ _ (I.rD j k' u m1),br.ext.ρ _ (I.rD j' U m9 m2)];exact I.apart j k' j' U u m9 m1 m2 xt
  fresh:=λk' c6 hf hd=>by
   rcases br.dM _ hd with h2|h2;exact I.fresh k' c6 (λj u B=>hf j u ((cD.set hi).2 (.inr B))) h2;have:k'=k:=by omega
   subst this;exact hf i Y ((cD.set hi).2 (.inl rfl))
  dead:=I.dead
  nx:=I.nx
  st:=⟨d4,z8 I.st.gl br.ext,TR.put (I.st.tr.mono br.ext) (λt ht=>iR (fH.2 t ht) I.st.sz) d3,by cases g.dst<;>simp[Act.put]<;>exact I.st.sz,
   by cases g.dst<;>exact I.st.marks.bring br⟩
  sub:=I.sub_set S Z fH.1 hx
  old:=I.old_set Z fH.1 O _
  ext:=I.ext.trans br.ext
  keep:=I.keep.bring br (xJ _ _) }
 rw[L,b0] at J;cases J
def jc.adopt (I:jc P CR X C N s ops A n HV c₀ h₀ w₀ done laid bU ls pd τ h listed a w c τD) {k} (Z:(i,k)∈bU) (E:bY laid i=false) (L:cD listed i) {id ob} (hf:iC i pd=some (id,ob)):
 jc P CR X C N s ops A n HV c₀ h₀ w₀ done (ip laid i) bU ls pd τ ⟨h.next,Nat.succ h.ver,h.oB.put id ob⟩ listed a w c τD:=by
 obtain⟨g,ob',x,q1,q2,q3,q4,q5,q6,q7,q8,q9⟩:=I.als i k Z;rw[hf] at q6;cases q6;have G:=q9 L E;have U:h₀.next+k<h.next:=by have:=I.nx;omega
 obtain⟨W,R⟩:=RS.adopt I.st.rs G (Nat.succ h.ver) U;have u:∀{j},bY (ip laid i) j=false ->i≠j/\ bY laid j=false:=by
  grind[nK]
 exact {
  down:=I.down
  din:=I.din
  cls:=λj B=>by
   rcases I.cls j B with h1|h1|⟨k',h1,h2⟩;exact .inl h1;exact .inr (.inl h1)
   grind[nK]
  laidL:=λj B=>by
   rw[nK,ja,aU] at B;rcases B with B|rfl;exact I.laidL j B;exact L
  lst:=I.lst
  als:=λj k' B=>by
   obtain⟨g',H,x',p1,p2,p3,p4,p5,p6,p7,p8,p9⟩:=I.als j k' B;refine⟨g',H,x',p1,p2,p3,p4,p5,p6,p7,p8,λJ D=> ?_⟩;obtain⟨xt,D⟩:=u D;exact(p9 J D).adopt (I.apart j k' i k B Z J L (Ne.symm xt)) R
  rD:=I.rD
  rlt:=I.rlt
  disj:=I.disj
  runiq:=I.runiq
  kuniq:=I.kuniq
  apart:=I.apart
  fresh:=I.fresh
  dead:=λk' V O i9 Y=>by
   by_cases e:k'=k
   grind
   rw[T.get_put,aD (show h₀.next+k'≠h₀.next+k by omega)] at Y;exact I.dead k' V (λj B=>(u (O j B)).2) i9 Y
  nx:=I.nx
  st:=⟨W,I.st.gl,I.st.tr,I.st.sz,I.st.marks.adopt G R⟩
  sub:=I.sub
  old:=I.old
  ext:=I.ext
  keep:=I.keep.adopt G _ (xJ _ _) R }
def ox τ d x t:(cj τ d x).get t=if d=some t then some x else τ.get t:=by
 rcases d with _|d;simp[cj];show(τ.put d x).get t=_;rw[T.get_put];by_cases e:t=d;subst e;simp
 grind
variable {gj:MG}
def C8 {j} {g:MG} (D:ops[i]? =some o) (hd:o.dst=g.dst) (B:bY done i=false) (E:uH X N ops A done j gj) x:∀t∈qc gj,(cj τ g.dst x).get t=τ.get t:=by
 intro t G;rw[ox,aD];intro e;obtain⟨_,_,_,u⟩:=E;have:=(u t G i o D (hd.trans e)).2;rw[B] at this;cases this
def GM {j} {g:MG} (B:ops[i]? =some o) (hd:o.dst=g.dst) (G:bY done i=false) (H:bY HV i=false) (D:uI X N ops A HV done j gj) x:∀t∈qc gj,(cj τ g.dst x).get t=τ.get t:=by
 intro t E;rw[ox,aD];intro e;obtain⟨_,_,_,u⟩:=D;rcases u t E i o B (hd.trans e) with h|h
 grind
 grind
def MS (S:nM ops A) {j} {g:MG} (G:ops[i]? =some o) (hd:o.dst=g.dst) (E:bY done i=false) (H:uI X N ops A HV done j gj) (D:bY done j=true) x:
 ∀d,gj.dst=some d ->(cj τ g.dst x).get d=τ.get d:=by
 intro d B;rw[ox,aD];intro e;obtain⟨I,h1,h2,_⟩:=H;simp only[lP,aB] at h2;have u:=(uy h2.2.1).1;have:=S.uniq i j o I d G h1 (hd.trans e) (u.trans B);subst this;rw[E] at D;cases D
def GN (S:nM ops A) {j} {g:MG} (G:ops[i]? =some o) (hd:o.dst=g.dst) (E:bY done i=false) (H:uH X N ops A done j gj) (D:bY done j=true) x:
 ∀d,gj.dst=some d ->(cj τ g.dst x).get d=τ.get d:=by
 intro d B;rw[ox,aD];intro e;obtain⟨I,h1,h2,_⟩:=H;simp only[lP,aB] at h2;have u:=(uy h2.2.1).1;have:=S.uniq i j o I d G h1 (hd.trans e) (u.trans B);subst this;rw[E] at D;cases D
def GO (hC:CfgOK C) {τ h mask k}:∀{ls},eA C τ h mask ls k ->
 (∀i g,(i,g)∈ls ->bY mask i=false ->∃x,y6 C τ h g=some x/\∀d,g.dst=some d ->τ.get d=some x)/\ k
 |[],D=>⟨λi g h=>(by cases h),D⟩
 |(i,g)::r,D=>by
  have u:(bif Nat.testBit mask i then eA C τ h mask r k else match y6 C τ h g with
   |some x=>match g.dst with
    |none=>eA C τ h mask r k
    |some d=>match τ.get d with
     |some y=>bif cZ 64 x y then eA C τ h mask r k else C.fail
     |none=>C.fail
   |none=>C.fail):=D
  cases hb:Nat.testBit mask i with
  |true=>
   rw[hb] at u;have G:=GO hC u;refine⟨λj gj B E=> ?_,G.2⟩;rcases ed.1 B with e|B;cases e;have I:bY mask i=true:=hb;rw[I] at E;cases E;exact G.1 j gj B E
  |false=>
   rw[hb] at u;simp only[eU] at u;rcases O:y6 C τ h g with _|x;rw[O] at u;dsimp only at u;rw[hC.fail] at u;exact u.elim;rw[O] at u;dsimp only at u;have fin:(∀d,g.dst=some d ->τ.get d=some x) ->eA C τ h mask r k ->(∀R H,(R,H)∈(i,g)::r ->bY mask R=false ->∃x,y6 C τ h H=some x/\∀d,H.dst=some d ->τ.get d=some x)/\ k:=by
    intro U D;have G:=GO hC D;refine⟨λj gj B E=> ?_,G.2⟩;rcases ed.1 B with e|B;cases e;exact⟨x,O,U⟩;exact G.1 j gj B E
   rcases hd:g.dst with _|d;rw[hd] at u;exact fin (λd e=>by rw[hd] at e;cases e) u;rw[hd] at u;dsimp only at u;rcases L:τ.get d with _|y;rw[L] at u;dsimp only at u;rw[hC.fail] at u;exact u.elim;rw[L] at u;dsimp only at u;cases J:cZ 64 x y;rw[J,eU,hC.fail] at u;exact u.elim;rw[J,fC] at u;have:=HZ _ _ _ J;subst this;exact fin (λV e=>by rw[hd] at e;cases e;exact L) u
def ZY {Z R} (L:uz P CR C.gL Z) (W:uA P CR C.gL R) {ro Q K}
 (S:nM ops A) (I:jc P CR X C N s ops A n HV c₀ h₀ w₀ done laid bU ls pd τ h listed a w c τD) {mask g r fl Y}
 (b2:iT X N ops A n HV (.heavy i g mask::r) fl done Y laid bU=true) (cR:bW C Z R h₀.next K (.heavy i g mask::r) ls pd τ h) (J:ops[i]? =some o) (hE:qd listed o) (hn:¬cD listed i):
 wpOpIn (fw ro) 0 P ops Q i (λa' w'=>∃τ' h' c' τD',jc P CR X C N s ops A n HV c₀ h₀ w₀ (ip done i) laid bU ls pd τ' h' (listed.setIfInBounds i true) a' w' c' τD'/\ An C τ' h' ls (listed.setIfInBounds i true)/\
  bW C Z R h₀.next K r ls pd τ' h') a w:=by
 have hi:i<listed.size:=by rw[I.down.sz];exact(jX.1 J).1
 obtain⟨k1,k2,k3,k4,k5⟩:=wv b2;obtain⟨hs,V⟩:=C6 k1;have b1:=I.agreeH S hs J hE hn;obtain⟨o',bT,aC,b7⟩:=hs;rw[J] at bT;cases bT;have fH:o.dst=g.dst:=by
  simp only[lP,aB] at aC;exact(uy aC.2.1).1
 replace cR:eY C Z R g τ h (λx h=>eh τ g.dst x λτ=>eA C τ h mask ls (bW C Z R h₀.next K r ls pd τ h)):=cR;rw[MD C b1] at cR;refine CZ hX hC L W J aC cR I.st λx h' c' w' a' H ev b6=> ?_;rw[iI] at H;obtain⟨b4,H⟩:=GO hC H;have D:∀j,bY done j=true ->bY (ip done i) j=true:=λj u=>ww u;have B:∀{j},cD (listed.setIfInBounds i true) j ->bY done j=true ->cD listed j:=λ{j} E u=>((cD.set hi).1 E).resolve_left λe=>by
  grind
 refine⟨cj τ g.dst x,h',c',cj τD g.dst x,?_,?_,H⟩;exact {
  down:=I.down.set J hE
  din:=λj u=>by
   rcases(cD.set hi).1 u with rfl|u;exact uJ _ _;exact ww (I.din j u)
  cls:=λj u=>by
   rw[nK,ja,aU] at u;rcases u with u|rfl;exact(I.cls j u).imp (λq=>(cD.set hi).2 (.inr q)) id;exact .inl ((cD.set hi).2 (.inl rfl))
  laidL:=λj u=>(cD.set hi).2 (.inr (I.laidL j u))
  lst:=λj gj u=>⟨(I.lst j gj u).1.mono D,(I.lst j gj u).2.1,D j (I.lst j gj u).2.2⟩
  als:=λj k u=>by
   obtain⟨g',ob,x',q1,q2,q3,q4,G,q6,⟨ver,h1,q7,b5⟩,q8,q9⟩:=I.als j k u;refine⟨g',ob,x',q1.mono D,q2,q3,q4,D j G,q6,⟨ver,h1,?_,b5⟩,λd hd=> ?_,λE b3=>(q9 (B E G) b3).evo ev⟩;rw[←q7];exact PA (wp C (C8 J fH V q1 x));rw[GN S J fH V q1 G x d hd];exact q8 d hd
  rD:=λj k u E=>by
   obtain⟨g',ob,x',q1,q2,q3,q4,G,_⟩:=I.als j k u;exact ev.ext.dM _ (I.rD j k u (B E G))
  rlt:=λj k u E=>by
   obtain⟨g',ob,x',q1,q2,q3,q4,G,_⟩:=I.als j k u;rw[ev.ext.ρ _ (I.rD j k u (B E G))];exact iR (I.rlt j k u (B E G)) ev.keep.size
  disj:=I.disj
  runiq:=I.runiq
  kuniq:=I.kuniq
  apart:=λj k j' k' u m9 E U xt=>by
   obtain⟨_,_,_,_,_,_,_,G,_⟩:=I.als j k u;obtain⟨_,_,_,_,_,_,_,b0,_⟩:=I.als j' k' m9;rw[ev.ext.ρ _ (I.rD j k u (B E G)),ev.ext.ρ _ (I.rD j' k' m9 (B U b0))];exact I.apart j k j' k' u m9 (B E G) (B U b0) xt
  fresh:=λk H hf hd=>by
   have h1:=I.fresh k H (λj u E=>hf j u ((cD.set hi).2 (.inr E)));rcases ev.keep.dM _ hd with h2|h2;exact h1 h2;have:=I.nx;omega
  dead:=λk H hf=>ev.keep.dead _ (by have:=I.nx;omega) (I.dead k H hf)
  nx:=fJ I.nx ev.keep.nxt
  st:=b6
  sub:=λt ht=>by
   rw[ox,ox];by_cases e:g.dst=some t;rw[aF e,aF e];rw[aD e,aD e];refine I.sub t λj o' u O=> ?_;rcases(cD.set hi).1 (ht j o' u O) with rfl|h1
   grind
   exact h1
  old:=λt ht=>by
   have e:g.dst≠some t:=λe=>by
    grind[uJ]
   rw[ox,ox,aD e,aD e];refine I.old t λj o' u O=> ?_;have:=ht j o' u O;rw[nK,Ci] at this;exact this.1
  ext:=I.ext.trans ev.ext
  keep:=I.keep.trans ev.keep }
 intro j gj u E;refine b4 j gj u ?_;cases hb:bY mask j;rfl;exact bh ((cD.set hi).2 (.inr (tA S I.down i o J hE j (MP k3 j hb)))) E
def MT {i}:∀{l},Ae i l=true ->∃k,(i,k)∈l
 |[],h=>by cases h
 |(j,k)::r,h=>by
  have h':(Nat.beq j i||Ae i r)=true:=h;rw[ja,bu,aU] at h';rcases h' with rfl|h'
  grind
  obtain⟨k',h1⟩:=MT h';exact⟨k',jw _ h1⟩
def GP {k}:∀{l},Af k l=true ->∀i,(i,k)∉l
 |[],_,i,h=>by cases h
 |(j,k')::r,h,i,u=>by
  have h':(!(Nat.beq k' k)&&Af k r)=true:=h;rw[aB,bu] at h';rcases ed.1 u with e|u;cases e;simp at h';exact GP h'.2 i u
def MU {nL bA K} (S:nM ops A):∀l done bU ls pd τ G,
 jc P CR X C N s ops A n HV c₀ h₀ w₀ done laid bU ls pd τ h listed a w c τD ->An C τ h ls listed ->iT X N ops A n HV l false done G laid bU=true ->bW C nL bA h₀.next K l ls pd τ h ->
 ∃l' Y b0 b4 b6 τ',jc P CR X C N s ops A n HV c₀ h₀ w₀ Y laid b0 b4 b6 τ' h listed a w c τD/\ An C τ' h b4 listed/\ iT X N ops A n HV l' false Y G laid b0=true/\ Am false l'/\ bW C nL bA h₀.next K l' b4 b6 τ' h:=by
 intro l;induction l with
 |nil=>intro done bU ls pd τ G I L hck E;exact⟨[],done,bU,ls,pd,τ,I,L,hck,.inr trivial,E⟩
 |cons d r ih=>
  intro done bU ls pd τ G I L hck E;cases d with
  |lay i=>exact⟨_,done,bU,ls,pd,τ,I,L,hck,.inr trivial,E⟩
  |heavy i g m=>exact⟨_,done,bU,ls,pd,τ,I,L,hck,.inr trivial,E⟩
  |light i g=>
   obtain⟨_,k1,k2,k3,k4⟩:=Ag hck;obtain⟨hs,D⟩:=C6 k1;have J:¬cD listed i:=λH=>by have:=I.din i H;rw[D] at this;cases this
   have b2:=hs;obtain⟨o,R,aC,_⟩:=b2;have O:o.dst=g.dst:=by
    simp only[lP,aB] at aC;exact(uy aC.2.1).1
   replace E:(match y6 C τ h g with
    |some x=>eh τ g.dst x λτ=>bW C nL bA h₀.next K r ((i,g)::ls) pd τ h
    |none=>C.fail):=E
   cases hv:y6 C τ h g with
   |none=>rw[hv] at E;dsimp only at E;rw[hC.fail] at E;exact E.elim
   |some x=>
    rw[hv] at E;dsimp only at E;rw[iI] at E;have B:∀j,bY done j=true ->bY (ip done i) j=true:=λj u=>ww u;refine ih (ip done i) bU ((i,g)::ls) pd (cj τ g.dst x) G ?_ ?_ k4 E;exact {
     down:=I.down
     din:=λj u=>ww (I.din j u)
     cls:=λj u=>by
      rw[nK,ja,aU] at u;rcases u with u|rfl;rcases I.cls j u with h1|⟨g',h1⟩|h1;exact .inl h1
      grind
      exact .inr (.inr h1)
      grind
     laidL:=I.laidL
     lst:=λj gj u=>by
      rcases ed.1 u with e|u;cases e;exact⟨hs.mono B,k2,uJ _ _⟩;exact⟨(I.lst j gj u).1.mono B,(I.lst j gj u).2.1,B j (I.lst j gj u).2.2⟩
     als:=λj k u=>by
      obtain⟨g',ob,x',U,q2,q3,q4,Z,q6,⟨ver,h1,q7,b5⟩,q8,q9⟩:=I.als j k u;refine⟨g',ob,x',U.mono B,q2,q3,q4,B j Z,q6,⟨ver,h1,?_,b5⟩,λd hd=> ?_,q9⟩;rw[←q7];exact PA (wp C (C8 R O D U x));rw[GN S R O D U Z x d hd];exact q8 d hd
     rD:=I.rD
     rlt:=I.rlt
     disj:=λj gj k u m9=>by
      rcases ed.1 u with e|u;cases e;obtain⟨_,_,_,_,_,_,_,Z,_⟩:=I.als i k m9;rw[D] at Z;cases Z;exact I.disj j gj k u m9
     runiq:=I.runiq
     kuniq:=I.kuniq
     apart:=I.apart
     fresh:=I.fresh
     dead:=I.dead
     nx:=I.nx
     st:=I.st
     sub:=λt ht=>by
      rw[ox,aD,I.sub t ht];intro e;exact J (ht i o R (O.trans e))
     old:=λt ht=>by
      rw[ox,aD,I.old t]
      grind
      grind[uJ]
     ext:=I.ext
     keep:=I.keep }
    intro j gj u H;rcases ed.1 u with e|u;cases e;exact⟨x,by rw[av7 C (GM R O D k2.1 hs x)];exact hv,λd hd=>by rw[ox,aF hd]⟩;obtain⟨y,hy,b3⟩:=L j gj u H;obtain⟨U,_,q3⟩:=I.lst j gj u;exact⟨y,by rw[av7 C (GM R O D k2.1 U x)];exact hy,λd hd=>by rw[MS S R O D U q3 x d hd];exact b3 d hd⟩
  |resv i k g=>
   obtain⟨_,k1,k2,k3,k4,k5,k6,k7⟩:=Ah hck;obtain⟨hs,D⟩:=ZU k1;have J:¬cD listed i:=λH=>by have:=I.din i H;rw[D] at this;cases this
   have b2:=hs;obtain⟨o,R,aC,_⟩:=b2;have O:o.dst=g.dst:=by
    simp only[lP,aB] at aC;exact(uy aC.2.1).1
   replace E:fN (h₀.next+k) (λid=>match step (az C τ) ⟨id,h.ver,.e⟩ g.op with
    | .v x h'=>match h'.oB.get id with
     |some ob=>eh τ g.dst x λτ=>bW C nL bA h₀.next K r ls ((i,id,ob)::pd) τ h
     |none=>C.fail
    |_=>C.fail):=E
   rw[dT] at E;cases hv:step (az C τ) ⟨h₀.next+k,h.ver,.e⟩ g.op with
   |v x h1=>
    rw[hv] at E;dsimp only at E;cases hg:h1.oB.get (h₀.next+k) with
    |none=>rw[hg] at E;dsimp only at E;rw[hC.fail] at E;exact E.elim
    |some ob=>
     rw[hg] at E;dsimp only at E;rw[iI] at E;have B:∀j,bY done j=true ->bY (ip done i) j=true:=λj u=>ww u;have c7:∀j k',(j,k')∈bU ->j≠i:=λj k' u e=>by
      subst e;obtain⟨_,_,_,_,_,_,_,Z,_⟩:=I.als j k' u;rw[D] at Z;cases Z
     have c6:bY laid i=false:=by
      cases hb:bY laid i;rfl;exact bh (I.laidL i hb) J
     refine ih (ip done i) ((i,k)::bU) ls ((i,h₀.next+k,ob)::pd) (cj τ g.dst x) G ?_ ?_ k7 E;exact {
      down:=I.down
      din:=λj u=>ww (I.din j u)
      cls:=λj u=>by
       rw[nK,ja,aU] at u;rcases u with u|rfl;rcases I.cls j u with h1|h1|⟨k',h1,h2⟩;exact .inl h1;exact .inr (.inl h1)
       grind
       grind
      laidL:=I.laidL
      lst:=λj gj u=>⟨(I.lst j gj u).1.mono B,(I.lst j gj u).2.1,B j (I.lst j gj u).2.2⟩
      als:=λj k' u=>by
       rcases ed.1 u with e|u;cases e;refine⟨g,ob,x,hs.mono B,k2,by simpa using k3,k5,uJ _ _,?_,⟨h.ver,h1,?_,hg⟩,λd hd=>by rw[ox,aF hd],λH=>bh H J⟩;show(bif Nat.beq i i then some (h₀.next+k,ob) else iC i pd)=_;rw[bu];simp;rw[←hv];exact PA (wp C (C8 R O D hs x));obtain⟨g',ob',x',U,q2,q3,q4,Z,q6,⟨ver,h2,q7,b5⟩,q8,q9⟩:=I.als j k' u;refine⟨g',ob',x',U.mono B,q2,q3,q4,B j Z,?_,⟨ver,h2,?_,b5⟩,λd hd=> ?_,q9⟩;show(bif Nat.beq i j then some (h₀.next+k,ob) else iC j pd)=_;rw[bu,ot (Ne.symm (c7 j k' u))];exact q6;rw[←q7];exact PA (wp C (C8 R O D U x));rw[GN S R O D U Z x d hd];exact q8 d hd
      rD:=λj k' u H=>by
       rcases ed.1 u with e|u;cases e;exact bh H J;exact I.rD j k' u H
      rlt:=λj k' u H=>by
       rcases ed.1 u with e|u;cases e;exact bh H J;exact I.rlt j k' u H
      disj:=λj gj k' u m9=>by
       rcases ed.1 m9 with e|m9;cases e;have:=(I.lst i gj u).2.2;rw[D] at this;cases this;exact I.disj j gj k' u m9
      runiq:=λj p q V W=>by
       rcases ed.1 V with e|V<;>rcases ed.1 W with e'|W
       cases e;cases e';rfl
       grind
       grind
       exact I.runiq j p q V W
      kuniq:=λj j' p V W=>by
       rcases ed.1 V with e|V<;>rcases ed.1 W with e'|W
       cases e;cases e';rfl;cases e;exact bh W (GP k6 j');cases e';exact bh V (GP k6 j);exact I.kuniq j j' p V W
      apart:=λj p j' q V W H b7 xt=>by
       rcases ed.1 V with e|V;cases e;exact bh H J;rcases ed.1 W with e|W
       grind
       exact I.apart j p j' q V W H b7 xt
      fresh:=λk' b1 hf=>I.fresh k' b1 λj u=>hf j (jw _ u)
      dead:=λk' b1 hf=>I.dead k' b1 λj u=>hf j (jw _ u)
      nx:=I.nx
      st:=I.st
      sub:=λt ht=>by
       rw[ox,aD,I.sub t ht];intro e;exact J (ht i o R (O.trans e))
      old:=λt ht=>by
       rw[ox,aD,I.old t];intro j o' u b8;have:=ht j o' u b8;rw[nK,Ci] at this;exact this.1;intro e;have:=ht i o R (O.trans e);rw[uJ] at this;cases this
      ext:=I.ext
      keep:=I.keep }
     intro j gj u H;obtain⟨y,hy,b3⟩:=L j gj u H;obtain⟨U,_,q3⟩:=I.lst j gj u;exact⟨y,by rw[av7 C (GM R O D k2.1 U x)];exact hy,λd hd=>by rw[MS S R O D U q3 x d hd];exact b3 d hd⟩
   |_=>rw[hv] at E;dsimp only at E;rw[hC.fail] at E;exact E.elim
def cnt (listed:Array Bool):Nat ->Nat
 |0=>0
 |m+1=>cnt listed m+if listed.getD m false=true then 0 else 1
def MV listed:∀m,cnt listed m<=m
 |0=>bB _
 |m+1=>by
  have:=MV listed m;unfold cnt;split<;>omega
def MW {listed i} (hi:i<listed.size) (u:¬cD listed i):∀m,cnt (listed.setIfInBounds i true) m+(if i<m then 1 else 0)=cnt listed m
 |0=>rfl
 |m+1=>by
  have D:=MW hi u m;unfold cnt;have B:=cD.set (j:=m) hi;unfold cD at B u;by_cases e:i=m
  grind
  grind
def MX {listed i} (j:¬cD listed i):∀m,i<m ->0<cnt listed m
 |0,h=>by omega
 |m+1,h=>by
  unfold cnt;by_cases e:i=m
  grind[cD]
  have:=MX j m ω;omega
def MY {R J K}:∀l fl laid h u,
 jc P CR X C N s ops A n HV c₀ h₀ w₀ done laid bU ls pd τ h listed a w c τD ->iT X N ops A n HV l fl done u laid bU=true ->Am fl l ->bW C R J h₀.next K l ls pd τ h ->
 (∀i k,(i,k)∈bU ->(fh l=none∨∃H,fh l=some H/\ bY (A.getD H 0) i=true) ->cD listed i) ->
 ∃l' E j h',fh l'=fh l/\ jc P CR X C N s ops A n HV c₀ h₀ w₀ done j bU ls pd τ h' listed a w c τD/\ iT X N ops A n HV l' E done u j bU=true/\ bW C R J h₀.next K l' ls pd τ h'/\
  (l'=[]∨∃i g m r,l'= .heavy i g m::r):=by
 intro l;induction l with
 |nil=>intro fl laid h u I hck _ B _;exact⟨[],fl,laid,h,rfl,I,hck,B,.inl rfl⟩
 |cons d r Y=>
  intro fl laid h u I hck D B HL;cases d with
  |light i g=>
   rcases D with D|D;rw[(Ag hck).1] at D;cases D;exact D.elim
  |resv i k g=>
   rcases D with D|D;rw[(Ah hck).1] at D;cases D;exact D.elim
  |heavy i g m=>exact⟨_,fl,laid,h,rfl,I,hck,B,.inr ⟨i,g,m,r,rfl⟩⟩
  |lay i=>
   obtain⟨Z,k2,V⟩:=Ai hck;obtain⟨k,U⟩:=MT Z;replace B:(match iC i pd with
    |some (id,ob)=>h.put id ob λh=>bW C R J h₀.next K r ls pd τ h
    |none=>C.fail):=B
   rcases O:iC i pd with _|q;rw[O] at B;dsimp only at B;rw[hC.fail] at B;exact B.elim;obtain⟨id,ob⟩:=q;rw[O] at B;dsimp only at B;rw[AH.put_eq] at B;have G:fh (.lay i::r)=fh r:=rfl;have L:cD listed i:=by
    refine HL i k U ?_;rw[G];rcases W:fh r with _|H;exact .inl rfl;exact .inr ⟨H,rfl,(GK r _ _ _ _ _ H V W).2 i (uJ _ _)⟩
   obtain⟨l',E,j,h',e1,e2⟩:=Y true (ip laid i) _ u (I.adopt U k2 L O) V (.inl rfl) B (by rw[G] at HL;exact HL);exact⟨l',E,j,h',by rw[e1,G],e2⟩
def ZZ {nL bA} (V:uz P CR C.gL nL) (Y:uA P CR C.gL bA) {ro Q K}
 (S:nM ops A) (hQ:∀c' h' w' τ' a',K τ' h' ->cH CR c₀ h₀ w₀ c' h' w' ->St P CR C.gL N s c' h' w' τ' a' ->Q .normal a' w'):∀B listed a w c τD τ (h)
  (l) (done laid) (bU) (ls) (pd) (u),
  jc P CR X C N s ops A n HV c₀ h₀ w₀ done laid bU ls pd τ h listed a w c τD ->An C τ h ls listed ->iT X N ops A n HV l false done u laid bU=true ->Am false l ->bW C nL bA h₀.next K l ls pd τ h ->
  cnt listed ops.size<=B ->wpAnyIn (fw ro) 0 P .any ops Q B listed a w:=by
 have fin:∀(listed:Array Bool) (a:Act) (w:World) (c:CE) (τD τ:T AV) (h:AH) (l:List DI) (done laid:Nat) (bU:List (Nat×Nat)) (ls:List (Nat×MG)) (pd:List (Nat×Nat×bC)) (u:Option Nat),
  jc P CR X C N s ops A n HV c₀ h₀ w₀ done laid bU ls pd τ h listed a w c τD ->iT X N ops A n HV l false done u laid bU=true ->Am false l ->bW C nL bA h₀.next K l ls pd τ h ->
  (∀i,i<ops.size ->cD listed i) ->Q .normal a w:=by
  intro listed a w c τD τ h l done laid bU ls pd u I hck hh cR D;have Z:∀i k,(i,k)∈bU ->cD listed i:=λi k hm=>by
   obtain⟨g,ob,x,⟨o,U,_⟩,_⟩:=I.als i k hm;exact D i (jX.1 U).1
  obtain⟨l',b5,b1,h',e1,I',R,O,b0⟩:=MY hC l false laid h u I hck hh cR λi k hm _=>Z i k hm;rcases b0 with rfl|⟨i,g,m,r,rfl⟩;refine hQ c h' w τ a O ⟨I'.ext,I'.st.rs,I'.keep⟩ ⟨I'.st.rs,I'.st.gl,λt x hx=>I'.st.tr t x ?_,I'.st.sz,I'.st.marks⟩;rw[I'.sub t λj o hj _=>D j (jX.1 hj).1];exact hx;obtain⟨hs,b8⟩:=C6 (wv R).1;obtain⟨o,U,_⟩:=hs;have:=I'.din i (D i (jX.1 U).1);rw[b8] at this;cases this
 intro B;induction B with
 |zero=>
  intro listed a w c τD τ h l done laid bU ls pd u I L hck hh cR hcnt;have D:∀i,i<ops.size ->cD listed i:=λi hi=>uk λhn=>by
   have:=MX hn ops.size hi;omega
  refine⟨?_,fin _ _ _ _ _ _ _ _ _ _ _ _ _ _ I hck hh cR D⟩;rcases hr:Region.ready .any ops listed with _|⟨i,t⟩;rfl;have hm:i∈Region.ready .any ops listed:=by rw[hr];exact jG
  obtain⟨h1,o,U,_⟩:=MQ hm;exact bh (D i (jX.1 U).1) h1
 |succ B ih=>
  intro listed a w c τD τ h l done laid bU ls pd u I L hck hh cR hcnt;refine⟨λhr=>fin _ _ _ _ _ _ _ _ _ _ _ _ _ _ I hck hh cR (ZT S I.down hr),λi hm=> ?_⟩;obtain⟨hn,o,U,hE⟩:=MQ hm;have G:i<ops.size:=(jX.1 U).1;have hi:i<listed.size:=by rw[I.down.sz];exact G
  have E:cnt (listed.setIfInBounds i true) ops.size<=B:=by
   have:=MW hi hn ops.size;rw[aF G] at this;omega
  by_cases hd:bY done i=true;rcases I.cls i hd with h1|⟨g,h1⟩|⟨k,h1,h2⟩;exact bh h1 hn;refine wpOpIn_mono ?_ (ZW hX hC V Y S I L h1 U hE hn);rintro a' w' ⟨c',τD',I'⟩;exact ih _ _ _ _ _ _ _ _ _ _ _ _ _ _ I' (λj gj hj hL=>L j gj hj λq=>hL ((cD.set hi).2 (.inr q))) hck hh cR E;refine wpOpIn_mono ?_ (ZX hX S I h1 h2 U hE hn);rintro a' w' ⟨c',τD',I'⟩;exact ih _ _ _ _ _ _ _ _ _ _ _ _ _ _ I' (λj gj hj hL=>L j gj hj λq=>hL ((cD.set hi).2 (.inr q))) hck hh cR E;have b3:i∈uG l:=(Aj l _ _ _ _ _ hck i G).resolve_left hd;obtain⟨H,hf,hH⟩:=MR S I.down l _ _ _ _ _ hck hh i b3 o U hE;have b6:i=H:=by
   rcases hH with rfl|hH;rfl;have h1:=I.din H hH;rw[(GK l _ _ _ _ _ H hck hf).1] at h1;cases h1
  subst b6;obtain⟨l',b5,b1,h',e1,I',R,O,b0⟩:=MY hC l false laid h u I hck hh cR λj k _ q=>by
   rcases q with q|⟨H,q,q'⟩;rw[hf] at q;cases q;rw[hf] at q;cases q;exact tA S I.down i o U hE j q'
  rcases b0 with rfl|⟨j,g,m,r,rfl⟩;rw[hf] at e1;cases e1;rw[hf] at e1;have b7:j=i:=gC e1;subst b7;refine wpOpIn_mono ?_ (ZY hX hC V Y S I' R O U hE hn);rintro a' w' ⟨τ',d1,c',τD',I'',L'',W⟩;obtain⟨d0,b2,b4,c6,c7,τ₂,J,JL,Jck,Jh,Jrun⟩:=MU hC S r _ bU ls pd τ' _ I'' L'' (wv R).2.2.2.2 W;exact ih _ _ _ _ _ _ _ _ _ _ _ _ _ _ J JL Jck Jh Jrun E
def aa0 {nL bA} (E:uz P CR C.gL nL) (L:uA P CR C.gL bA) {ro Q K}
 (hP:P.follows .mixedOrders=true) {id l} (V:GJ X N ops n l=true) (hr:bW C nL bA h.next K l [] [] τ ⟨h.next+n,h.ver,h.oB⟩) (st:St P CR C.gL N s c h w τ a)
 (hQ:∀c' h' w' τ' O,K τ' h' ->cH CR c h w c' h' w' ->St P CR C.gL N s c' h' w' τ' O ->Q .normal O w'):(Code.region id ops true).wpIn (fw ro) 0 P Q a w:=by
 unfold GJ at V;simp only[aB] at V;obtain⟨k1,k2,k3⟩:=V;have S:=ZS k1 k2;refine wpIn_region_any hP ?_;have B:RS CR c h { w with drawn:=w.drawn+1 }:=st.rs.heap rfl
 have b1:RS CR c ⟨h.next+n,h.ver,h.oB⟩ { w with drawn:=w.drawn+1 }:=
  ⟨λo j=>iR (B.nx o j) (xJ _ _),λo ob j=>iR (B.lt o ob j) (xJ _ _),λo ob j=>B.obj o ob ⟨j.get,j.live,j.dM⟩,
   λo o' x y W Y=>B.inj o o' x y ⟨W.get,W.live,W.dM⟩ ⟨Y.get,Y.live,Y.dM⟩,B.im,λo ob j=>B.dj o ob ⟨j.get,j.live,j.dM⟩,B.gl⟩
 have kp:j6 c h { w with drawn:=w.drawn+1 } c ⟨h.next+n,h.ver,h.oB⟩ { w with drawn:=w.drawn+1 }:=
  ⟨bB _,λ_ _ _=>rfl,λo ob j=> .inr ⟨o,ob,⟨j.get,j.live,j.dM⟩,rfl⟩,λ_ h=> .inl h,xJ _ _,λ_ _ h=> .inl h,λ_ _ h=>h,⟨rfl,rfl⟩⟩
 have U:cH CR c h w c h { w with drawn:=w.drawn+1 }:=cH.heap st.rs rfl
 have H:∀i,¬cD (Array.replicate ops.size false) i:=λi D=>by
  unfold cD at D;by_cases hi:i<ops.size;simp[Array.getD,hi] at D;simp[Array.getD,hi] at D
 have hz:∀i,bY 0 i=false:=λi=>Nat.zero_testBit i;have I:jc P CR X C N s ops (Ac ops.toList) n (MO l) c h { w with drawn:=w.drawn+1 } 0 0 [] [] [] τ ⟨h.next+n,h.ver,h.oB⟩ (Array.replicate ops.size false) a { w with drawn:=w.drawn+1 } c τ:={
  down:=⟨by simp,λi o _ D=>bh D (H i)⟩
  din:=λi D=>bh D (H i)
  cls:=λi hb=>by rw[hz] at hb;cases hb
  laidL:=λi hb=>by rw[hz] at hb;cases hb
  lst:=λi g u=>by cases u
  als:=λi k u=>by cases u
  rD:=λi k u=>by cases u
  rlt:=λi k u=>by cases u
  disj:=λi g k u=>by cases u
  runiq:=λi k k' u=>by cases u
  kuniq:=λi i' k u=>by cases u
  apart:=λi k i' k' u=>by cases u
  fresh:=λk _ _ hd=>by have:=st.rs.nx _ hd;omega
  dead:=λk _ _ ob hg=>by
   have:h.oB.get (h.next+k)=some ob:=hg;have:=st.rs.lt _ _ this;omega
  nx:=bB _
  st:=⟨b1,st.gl,st.tr,st.sz,⟨λd hd=>by
   rcases st.marks.all d hd with ⟨r,q1,q2,q3,q4,q5⟩|q;exact .inl ⟨r,q1,q2,q3,q4,λo ob j=>q5 o ob ⟨j.get,j.live,j.dM⟩⟩;exact .inr q,st.marks.apart⟩⟩
  sub:=λt _=>rfl
  old:=λt _=>rfl
  ext:=gE.refl c
  keep:=kp }
 obtain⟨b2,G,R,Z,b0,τ₂,J,JL,Jck,Jh,Jrun⟩:=MU hC S l 0 [] [] [] τ none I (λi g u=>by cases u) k3 hr;exact ZZ hX hC E L S (λc' h' w' τ' O q1 q2 q3=>hQ c' h' w' τ' O q1 (U.trans q2) q3) ops.size _ _ _ _ _ _ _ _ _ _ _ _ _ _ J JL Jck Jh Jrun (MV _ _)
end
def Ao (X:aR) (r:ResultVar) (e:Nat×Option (Nat×Bool)):Bool:=match r with
 | .tmp t=>(match e.2 with|none=>Nat.beq t e.1|some _=>false)
 | .cell t ty=>(match e.2 with
  |some q=>Nat.beq t e.1&&(match X.ty.get ty with|some i=>Nat.beq q.1 i.size&&(q.2==i.kd.isRow)|none=>false)
  |none=>false)
def Ap (X:aR) (l:List (Nat×Option (Nat×Bool))):List ResultVar ->Bool:=
 List.rec (motive:=λ_=>List ResultVar ->Bool) (λv=>List.isEmpty v) (λe _ j v=>match v with
  |[]=>false
  |r::rs=>Ao X r e&&j rs) l
section
variable {P:Program} {CR:Nat ->Code ->aw ->Prop} {X:aR}
variable {c:CE} {h:AH} {w:World}
def xY (tmps:Array Value):ResultVar ->Sem Value
 | .tmp t=>pure (tmps.getD t undef)
 | .cell a t=>do loadVar t (←asAddr (tmps.getD a undef))
def MZ {α β:Type} {f:α ->Sem β}:∀{l:List α} {vs},l.length=vs.length ->(∀(i:Nat) x v,l[i]? =some x ->vs[i]? =some v ->(f x).run P w= .ok v w) ->(l.mapM f).run P w= .ok vs w
 |[],[],_,_=>by simp[List.mapM_nil]
 |[],_::_,h,_=>by cases h
 |_::_,[],h,_=>by cases h
 |a::t,v::r,h,H=>by
  rw[List.mapM_cons,dz,H 0 a v rfl rfl];simp only[dP];rw[dz,MZ (by simpa using h) (λi x y j u=>H (i+1) x y j u)];simp
def aa1 {fn tmps} {vs:List Value} (j:fn.results.toList.length=vs.length)
 (H:∀(i:Nat) r v,fn.results.toList[i]? =some r ->vs[i]? =some v ->(xY tmps r).run P w= .ok v w):
 (results fn tmps).run P w= .ok (if h:vs.toArray.size=1 then vs.toArray[0] else .tuple vs.toArray) w:=by
 have e:results fn tmps=(do
  let vs←fn.results.mapM (xY tmps)
  pure (if h:vs.size=1 then vs[0] else .tuple vs)):=by
  unfold results;congr 1
 rw[e,dz,Array.mapM_eq_mapM_toList,Sem.run_map,MZ j H];rfl
def aa2 (hX:j7 P X) (rs:RS CR c h w) {ty i} (hi:X.ty.get ty=some i) {x v} (L:VR c x v) {n cs y agg}
 (O:(∃o j l,x= .p o j/\ h.cells o=some l/\ sub l j n=some cs)∨(∃l j,x= .dp l j/\ sub l j n=some cs)) (R:dB agg cs=some y) (W:n=i.size) (G:agg=i.kd.isRow):
 ∃u,(do loadVar ty (←asAddr v):Sem Value).run P w= .ok u w/\ VR c y u:=by
 have E:=hX.ty ty i hi;obtain⟨b,k,vs,e1,e2,e3,e4⟩:=LG rs L (O.imp (λ⟨o,j,l,a,b,d⟩=>⟨o,j,l,a,F1 b,d⟩) id);obtain⟨V,zv,U,Y,Z,i4,i5⟩:=E.info;subst e1;rcases F4 R with ⟨g,rfl⟩|⟨g,rfl⟩;refine⟨.agg vs.toArray,?_,.ag _ _ e2⟩;simp only[asAddr,pure_bind];exact run_loadVar_mid w b k ty vs i.kd e4 E.und (by rw[←G];exact g) (by rw[U];simp;omega);cases e2 with
 |cons _ _ u us J D=>
  cases D;refine⟨u,?_,J⟩;have H:w.cell? ⟨b,k,none⟩=some u:=e4 0 u rfl;have B:(isAgg ty).run P w= .ok false w:=by
   unfold isAgg;rw[dz,dL E.und w];have:i.kd.isRow=false:=by rw[←G];exact g
   cases I:i.kd<;>rw[I] at this<;>first|rfl|cases this
  simp[asAddr,loadVar,B,H]
def M0 {α β} (f:α ->Option β) a t:eM f (a::t)=match f a with|none=>none|some b=>match eM f t with|none=>none|some j=>some (b::j):=by
 show(Option.rec none (λb=>Option.rec none (λt=>some (b::t)) (eM f t)) (f a):Option (List β))=_;rcases f a with _|b;rfl;cases eM f t<;>rfl
def M3 {α β} {f:α ->Option β}:∀{l r},eM f l=some r ->r.length=l.length/\∀(i:Nat) x,l[i]? =some x ->∃y,r[i]? =some y/\ f x=some y
 |[],r,h=>by cases h;exact⟨rfl,λi x j=>by simp at j⟩
 |a::t,r,h=>by
  rw[M0] at h;rcases h2:f a with _|b;rw[h2] at h;cases h;rw[h2] at h;dsimp only at h;rcases h1:eM f t with _|B;rw[h1] at h;cases h;rw[h1] at h;cases h;have u:=M3 h1;refine⟨by simp[u.1],λi x j=> ?_⟩;rcases i with _|i;simp at j;subst j;exact⟨b,rfl,h2⟩;simp at j;simpa using u.2 i x j
def aa3 {l}:∀{rs},Ap X l rs=true ->rs.length=l.length/\∀(i:Nat) r e,rs[i]? =some r ->l[i]? =some e ->Ao X r e=true:=by
 induction l with
 |nil=>
  intro rs h;rcases rs with _|⟨r,rs⟩;exact⟨rfl,λi r e h=>by simp at h⟩;cases h
 |cons e l D=>
  intro rs h;rcases rs with _|⟨r,rs⟩;cases h;have h':(Ao X r e&&Ap X l rs)=true:=h;simp only[aB] at h';have k:=D h'.2;refine⟨by simp[k.1],λi E B u j=> ?_⟩;rcases i with _|i;simp at u j;subst u j;exact h'.1;simp at u j;exact k.2 i E B u j
def aa4 (hX:j7 P X) (rs:RS CR c h w) {fn tmps τ} (tr:TR c τ tmps) {l} (hk:Ap X l fn.results.toList=true) {x}
 (E:eZ τ h l=some x):∃v,(results fn tmps).run P w= .ok v w/\ VR c x v:=by
 obtain⟨Z,k2⟩:=aa3 hk;unfold eZ at E;rcases L:fY τ h l with _|I;rw[L] at E;cases E;have h1:=M3 L;have key:∀(i:Nat) r,fn.results.toList[i]? =some r ->∃y u,I[i]? =some y/\ (xY tmps r).run P w= .ok u w/\ VR c y u:=by
  intro i r D;have hi:i<l.length:=by rw[←Z];exact(eC.1 D).1
  obtain⟨e,he⟩:∃e,l[i]? =some e:=⟨l[i],oc hi⟩;have B:=k2 i r e D he;obtain⟨y,hy,j⟩:=h1.2 i e he;obtain⟨t,oo⟩:=e;cases r with
  |tmp t'=>
   rcases oo with _|q;simp only[Ao,bu,aU] at B;subst B;obtain⟨v',e1,e2⟩:=tr _ _ j;exact⟨y,v',hy,by simp[xY,e1],e2⟩;cases B
  |cell t' ty=>
   rcases oo with _|q;cases B;obtain⟨n,agg⟩:=q;simp only[Ao,aB,bu,aU] at B;obtain⟨rfl,B⟩:=B;rcases hi:X.ty.get ty with _|ti;rw[hi] at B;cases B;rw[hi] at B;simp only[aB,aU,mD] at B;dsimp only at j;rcases W:τ.get t' with _|p;rw[W] at j;cases j;obtain⟨v',e1,e2⟩:=tr _ _ W;rw[W] at j;cases p<;>first|cases j|skip
   rename_i o J;dsimp only at j;rcases U:h.cells o with _|cs;rw[U] at j;cases j;rw[U] at j;dsimp only at j;rcases V:sub cs J n with _|cl;rw[V] at j;cases j;rw[V] at j;obtain⟨u,O,R⟩:=aa2 hX rs hi e2 (.inl ⟨o,J,cs,rfl,U,V⟩) j B.1 B.2;exact⟨y,u,hy,by simpa[xY,e1] using O,R⟩
 have Y:I.length=fn.results.toList.length:=by rw[h1.1,Z]
 have:∃vs:List Value,vs.length=I.length/\ bX c I vs/\∀(i:Nat) r v,fn.results.toList[i]? =some r ->vs[i]? =some v ->(xY tmps r).run P w= .ok v w:=by
  clear L h1 E Z k2 hk;generalize fn.results.toList=H at key Y
  revert H
  induction I with
  |nil=>
   intro H key _;exact⟨[],rfl,.nil,λi r v _ G=>by simp at G⟩
  |cons y ys ih=>
   intro H key eQ;rcases H with _|⟨r,H⟩;cases eQ;obtain⟨y',u,e1,e2,e3⟩:=key 0 r rfl;simp at e1;subst e1;obtain⟨vs,h1,h2,h3⟩:=ih H (λi r' D=>by simpa using key (i+1) r' (by simpa using D)) (by simpa using eQ);refine⟨u::vs,by simp[h1],.cons _ _ _ _ e3 h2,λi r' v D G=> ?_⟩;rcases i with _|i;simp at D G;subst D G;exact e2;simp at D G;exact h3 i r' v D G
 obtain⟨vs,h3,h4,h5⟩:=this;rw[L] at E;refine⟨_,aa1 ω h5,?_⟩;rcases I with _|⟨y,ys⟩;cases h4;cases E;exact .tu [] [] .nil;cases h4 with
 |cons _ _ v b1 O R=>
  rcases ys with _|⟨y',b2⟩;cases R;cases E;exact O;cases R with|cons _ _ v' b0 q3 q4=>cases E;exact .tu _ _ (.cons _ _ _ _ O (.cons _ _ _ _ q3 q4))
end
def oA:List AV ->Nat ->T AV ->T AV
 |[],_,τ=>τ
 |a::t,n,τ=>oA t (n+1) (τ.put n a)
def xZ {R}:∀l n τ (k:T AV ->R),FW l n τ k=k (oA l n τ)
 |[],_,_,_=>rfl
 |a::t,n,τ,k=>by
  show τ.setK n a (λτ=>fN n λn=>FW t (Nat.succ n) τ k)=_;rw[T.setK_put,dT,xZ];rfl
def M4:∀l n τ i,(oA l n τ).get i=if n<=i/\ i<n+l.length then l[i-n]? else τ.get i
 |[],n,τ,i=>by simp[oA];omega
 |a::t,n,τ,i=>by
  rw[oA,M4,T.get_put];simp only[gJ];by_cases h:i=n
  grind
  grind
def C9:List Nat ->List AV ->T AV ->T AV
 |p::ps,a::a_,τ=>C9 ps a_ (τ.put p a)
 |_,_,τ=>τ
def M5 {C:aK Prop} (hC:CfgOK C):∀ps j τ k,nG C ps j τ k ->ps.length=j.length/\ k (C9 ps j τ)
 |[],[],_,_,h=>⟨rfl,h⟩
 |[],a::j,τ,k,h=>by
  have:C.fail:=h;rw[hC.fail] at this;exact this.elim
 |p::ps,[],τ,k,h=>by
  have:C.fail:=h;rw[hC.fail] at this;exact this.elim
 |p::ps,a::j,τ,k,h=>by
  replace h:τ.setK p a (λτ=>nG C ps j τ k):=h;rw[T.setK_put] at h;have:=M5 hC ps j _ k h;exact⟨by simp[this.1],this.2⟩
def M6 {c}:∀ps j vs τ tmps,bX c j vs ->TR c τ tmps ->(∀p∈ps,p<tmps.size) ->ps.length=j.length ->
 TR c (C9 ps j τ) ((ps.zip vs).foldl (λtmps q=>tmps.setIfInBounds q.1 q.2) tmps)/\ ((ps.zip vs).foldl (λtmps q=>tmps.setIfInBounds q.1 q.2) tmps).size=tmps.size
 |[],[],vs,τ,tmps,_,ht,_,_=>⟨ht,rfl⟩
 |[],_::_,_,_,_,_,_,_,h=>by cases h
 |_::_,[],_,_,_,_,_,_,h=>by cases h
 |p::ps,a::j,vs,τ,tmps,hv,ht,hp,hl=>by
  cases hv with
  |cons _ _ v B h1 h2=>
   have u:p<tmps.size:=hp p jG;have key:=M6 ps j B (τ.put p a) (tmps.setIfInBounds p v) h2
    (TR.put (a:={ tmps:=tmps,defers:=[] }) (d:=some p) ht (λt e=>by cases e;exact u) h1)
    (λq D=>by simp;exact hp q (jw _ D)) (by simpa using hl)
   exact⟨key.1,by simpa using key.2⟩
section
variable {CR:Nat ->Code ->aw ->Prop}
def RS.unown {c h w w'} (r:RS CR c h w) {q} (B:∀b,b≠q ->w'.heap[b]? =w.heap[b]?) (E:∀o obj,dU c h o obj ->(c.ρ o).1≠q) (j:c.im q=none):RS CR c h w':=
 ⟨r.nx,r.lt,λo obj u=>(r.obj o obj u).mono (gE.refl c) u.dM (B _ (E o obj u)),r.inj,
  λb row hb=>by
   obtain⟨t,D,h1⟩:=r.im b row hb;exact⟨t,D,by rw[B b (λe=>by rw[e,j] at hb;cases hb)];exact h1⟩,r.dj,r.gl⟩
def RS.im_deferred {c h w} (r:RS CR c h w) {q d} (j:w.heap[q]? =some (.deferred d)):c.im q=none:=by
 rcases hi:c.im q with _|row;rfl;obtain⟨t,u,h1⟩:=r.im q row hi;rw[j] at h1;cases h1
def aa5 {P:Program} {fn tmps R c₀ c h₀ h w₀}:
 ∀ds w,lO P w₀.heap.size c h w ds ->RS CR c h w ->j6 c₀ h₀ w₀ c h w ->
  (∀w',RS CR c h w' ->j6 c₀ h₀ w₀ c h w' ->∃v,(results fn tmps).run P w'= .ok v w'/\ R (.returned v) w') ->LeavesInM (fw none) 0 P fn tmps R ds .returning w:=by
 intro ds;induction ds with
 |nil=>
  intro w _ r k H;exact H w r k
 |cons d ds O=>
  intro w m r k H;rcases m.all d jG with ⟨q,h1,h2,h3,J,Y⟩|⟨g,I,h1,h2⟩
  case inr=>
   obtain⟨D,b',e1,e2,e3⟩:=h2.body;have B:¬D.name= "runtime.NumGoroutine" :=by simpa using e2
   refine⟨by simp,.inr ⟨λh=>(by cases h),.func g,I,g,d.args++I,h1,?_,λ_ _=>trivial,?_⟩⟩
   simp_all [invoke,callFunc,B]
   have L:=h2.run (d.args++I) w;refine⟨L.1,λc' cs Z hr=> ?_⟩;obtain⟨e,u',w',W,⟨⟨v,rfl⟩,rfl,rfl⟩,q2⟩:=L.2 c' cs Z hr;exact⟨_,_,_,W,O w' ⟨λe u=>m.all e (jw _ u),(xD.1 m.apart).2⟩ r k H,q2⟩
  have E:=r.im_deferred J;have j:∀b,b≠q ->(w.putObj q (.deferred none)).heap[b]? =w.heap[b]? :=λb hb=>World.putObj_heap_other hb;have r':=r.unown j Y E;refine⟨by simp,.inl ⟨q,_,h1,run_takeDeferred J,O _ ?_ r' ?_ H⟩⟩
  ·refine⟨λe u=> ?_,(xD.1 m.apart).2⟩;rcases m.all e (jw _ u) with ⟨G,U,k2,k3,k4,k5⟩|k
   case inr=>exact .inr k
   have xt:G≠q:=λV=>(xD.1 m.apart).1 e u q h1 (by rw[U,V]);exact .inl ⟨G,U,k2,by simpa using k3,by rw[j G xt];exact k4,k5⟩
  exact⟨by simpa using k.size,λb hb hn=>by rw[j b ω];exact k.same b hb hn,k.new,k.dM,k.nxt,k.im,k.dead,k.io⟩
end
def M7 (a b:List Nat):Bool:=decide (a=b)
def GQ (N:Nat) (l:List Nat):Bool:=List.rec (motive:=λ_=>Bool) true (λa _ j=>Nat.ble (Nat.succ a) N&&j) l
def M8 {N}:∀{l},GQ N l=true ->∀p∈l,p<N
 |[],_,p,j=>by cases j
 |a::t,h,p,j=>by
  have h':(Nat.ble (Nat.succ a) N&&GQ N t)=true:=h;simp only[aB,wX,aU] at h';rcases ed.1 j with rfl|j;exact h'.1;exact M8 h'.2 p j
def GR (X:aR) (N:Nat) (ops:Array Oper) (x:MA) (l:List MG):List Oper ->Bool:=
 List.rec (motive:=λ_=>List Oper ->Bool) (λv=>match v with
  |[o]=>(match o.op with| .defer c=>(match c.callee with| .value y=>ax x y|_=>false)&&c.args.isEmpty|_=>false)&&o.dst.isNone&&o.guard.isNone
  |_=>false)
  (λg _ j v=>match v with|[]=>false|o::r=>lP X N ops o g&&j r) l
def gf (X:aR) (N:Nat):Bool ->Code ->aw ->Bool
 |r,.scope c,m=>gf X N r c m
 |_,.skip,.skip=>true
 |_,.label _,.skip=>true
 |_,.region _ ops d,.ops l=> !d&&Gw X N ops l ops.toList
 |_,.region _ ops d,.draw n l=>d&&GJ X N ops n l
 |r,.region _ ops d,.dfr l x fn=> !r&&(!d&&(X.bn.any (Nat.beq fn)&&GR X N ops x l ops.toList))
 |r,.seq a b,.seq a' b'=>gf X N r a a'&&gf X N r b b'
 |r,.cond x a b,.cond y a' b'=>ax y x&&(gf X N r a a'&&gf X N r b b')
 |r,.block i c,.block j c'=>Nat.beq i j&&gf X N r c c'
 |r,.loop c,.loop c'=>gf X N r c c'
 |r,.rangeFunc f ps a b,.rfun g qs a' b'=> !r&&ax g f&&M7 ps.toList qs&&GQ N qs&&gf X N true a a'&&gf X N true b b'
 |_,.exit i,.exit j=>Nat.beq i j
 |_,.ret,.ret=>true
 |_,_,.bad _=>true
 |_,_,_=>false
def dJ (X:aR) (N:Nat) (c:Code) (m:aw):Prop:=gf X N true c m=true
def M9:Exit ->pS ->Prop
 | .normal,.normal=>True
 | .exit i,.exit j=>i=j
 | .ret,.ret=>True
 |_,_=>False
section
variable (P:Program) (CR:Nat ->Code ->aw ->Prop) (GL:T (List AV)) (N s:Nat) (k:K Prop) (c:CE) (h:AH) (w:World)
def qQ:Exit ->Act ->World ->Prop:=λe j w'=>∃me τ' h' c',M9 e me/\ k me τ' h'/\ cH CR c h w c' h' w'/\ St P CR GL N s c' h' w' τ' j
end
def qQ.trans {P:Program} {CR} {GL:T (List AV)} {N s k c c' h h' w w'} (e:cH CR c h w c' h' w') {x a j} (p:qQ P CR GL N s k c' h' w' x a j):
 qQ P CR GL N s k c h w x a j:=by
 obtain⟨me,τ',B,u,p1,D,E,G⟩:=p;exact⟨me,τ',B,u,p1,D,e.trans E,G⟩
structure av8 (P:Program) (X:aR) (f:Nat) (m:au):Prop where
 ok:∃fn c,P.funcs[f]? =some fn/\ (fn.name== "runtime.NumGoroutine")=false/\ fn.body=some c/\ gf X m.ntmps false c m.body=true/\ m.ntmps<=fn.ntmps/\ Ap X m.res fn.results.toList=true
structure rV (P:Program) (X:aR) (C:aK Prop):Prop where
 mixed:P.follows .mixedOrders=true
 cfg:CfgOK C
 ctx:j7 P X
 ae:∀f m,C.ae.get f=some m ->av8 P X f m
 bn:∀f∈X.bn,CX P f
 spec:∀f args h (k:AV ->AH ->Prop) (fb:Prop),C.spec f args h k fb ->(∀c w vs,RS (dJ X) c h w ->(∀g l,C.gL.get g=some l ->c.gl g=some l) ->bX c args vs ->
  mJ P ((callFunc f vs.toArray).run P w) λv' w'=>∃v h' c',k v h'/\ cH (dJ X) c h w c' h' w'/\ VR c' v v')∨fb
section
variable {P:Program} {X:aR} {C:aK Prop}
def Da {f fn b} (u:P.funcs[f]? =some fn) (B:(fn.name== "runtime.NumGoroutine")=false) (hb:fn.body=some b) args w:
 (callFunc f args).run P w= .ok (.enter f args) w:=by
 have j:¬fn.name= "runtime.NumGoroutine" :=by simpa using B
 simp[callFunc,u,j,hb]
def uK (P:Program) (X:aR) (C:aK Prop) (n:Nat):Prop:=
 ∀j k τ h,run C n j k τ h ->∀cc ro N s c a w,gf X N ro.isSome cc j=true ->St P (dJ X) C.gL N s c h w τ a ->s<=w.heap.size ->cc.wpIn (fw ro) 0 P (qQ P (dJ X) C.gL N s k c h w) a w
def Na (X:aR) (k:AV ->AH ->Prop) (c:CE) (h:AH) (w:World):Ending ->World ->Prop:=
 λe w'=>match e with| .returned v=>∃x h' c',k x h'/\ cH (dJ X) c h w c' h' w'/\ VR c' x v|_=>False
variable {c:CE} {h:AH} {n:Nat}
variable (S:rV P X C)
def Db (IH:uK P X C n) {f args k} (u:DR C (run C n) f args h k) {w vs}
 (rs:RS (dJ X) c h w) (gl:∀g l,C.gL.get g=some l ->c.gl g=some l) (Z:bX c args vs):
 ∃fn b,P.funcs[f]? =some fn/\ (fn.name== "runtime.NumGoroutine")=false/\ fn.body=some b/\ CallsIn (fw none) 0 P f vs.toArray w (Na X k c h w):=by
 unfold DR at u;cases H:C.ae.get f with
 |none=>rw[H] at u;dsimp only at u;rw[S.cfg.fail] at u;exact u.elim
 |some m=>
  rw[H] at u;dsimp only at u;rw[xZ] at u;obtain⟨fn,b,L,W,hb,U,Y,E⟩:=(S.ae f m H).ok;refine⟨fn,b,L,W,hb,?_⟩;have J:St P (dJ X) C.gL m.ntmps w.heap.size c h w (oA args 0 .e) { tmps:=vs.toArray++Array.replicate (fn.ntmps-vs.toArray.size) undef,defers:=[] }:=by
   refine⟨rs,gl,?_,by simp;omega,lO.nil⟩;intro t x D;rw[M4] at D;by_cases O:0<=t/\ t<0+args.length;rw[aF O] at D;obtain⟨v,h1,h2⟩:=Z.get t (by simpa using D);have V:t<vs.length:=(eC.1 h1).1;refine⟨v,?_,h2⟩;dsimp only;rw[Array.getElem?_append_left (by simpa using V)];simpa using h1;rw[aD O] at D;cases D
  have B:=IH m.body _ _ h u b none m.ntmps w.heap.size c _ w U J (bB _);refine callsIn_of_wp_marks L hb trivial (sZ B ?_);rintro e G w' ⟨me,τ',h',c',D,j,ev,st⟩;have done:(match eZ τ' h' m.res with|some v=>k v h'|none=>C.fail) ->LeavesInM (fw none) 0 P fn G.tmps (Na X k c h w) G.defers .returning w':=by
   intro j;rcases I:eZ τ' h' m.res with _|x;rw[I] at j;dsimp only at j;rw[S.cfg.fail] at j;exact j.elim;rw[I] at j;refine aa5 G.defers w' st.marks st.rs ev.keep λb0 R k'=> ?_;obtain⟨v,h1,h2⟩:=aa4 S.ctx R st.tr E I;exact⟨v,h1,x,h',c',j,⟨ev.ext,R,k'⟩,h2⟩
  cases e<;>cases me<;>first|exact D.elim|skip
  ·exact done j
  dsimp only at j;rw[S.cfg.fail] at j;exact j.elim
  ·exact done j
def GT (IH:uK P X C n):uz P (dJ X) C.gL (iS C (run C n)):=by
 intro f args h k j c w vs rs gl B;unfold iS at j;unfold Aa;rcases S.spec f args h k _ j with h2|j;exact h2 c w vs rs gl B;obtain⟨fn,b,h1,h2,D,E⟩:=Db S IH j rs gl B;rw[Da h1 h2 D];refine vN E λe w' u=> ?_;cases e with
 |returned v=>exact u
 |_=>exact u.elim
def aa6 {l k} (u:pV C h l k) {w} (rs:RS (dJ X) c h w) (hd:c.dM l):
 ∃j h',(Instr.beginRound (c.ρ l).1).run P w= .ok () j/\ k h'/\ cH (dJ X) c h w c h' j:=by
 unfold pV at u;split at u;rename_i ps H body I p E;rw[AH.put_eq] at u;obtain⟨r,N,h1,h2,J,L,O,R,U,D,V⟩:=rs.obj l _ ⟨E,rfl,hd⟩;have B:r.state= .ready:=by
  generalize r.state=st at D;cases st<;>first|rfl|exact D.elim
 have G:(c.ρ l).1<w.heap.size:=(jX.1 h1).1;refine⟨_,_,run_beginRound h1 B,u,cH.write rs ⟨E,rfl,hd⟩ (by simp) (λb hb=>World.putObj_heap_other hb) ?_ _⟩;exact⟨_,N,World.putObj_heap_same G,h2,J,L,O,R,U,trivial,V⟩;rw[S.cfg.fail] at u;exact u.elim
def aa7 {l st p k} (B:DS C h l st p k) {w} (rs:RS (dJ X) c h w) (hd:c.dM l) {j}
 (U:FY p j) (V:FZ st (if j.isNone then .ready else .done)):
 ∃u h',(Instr.endRound (c.ρ l).1 j).run P w= .ok (.bool j.isNone) u/\ k h'/\ cH (dJ X) c h w c h' u:=by
 unfold DS at B;split at B;rename_i ps G body H s0 Z D;rw[AH.put_eq] at B;obtain⟨r,N,h1,h2,I,J,L,O,R,W,Y⟩:=rs.obj l _ ⟨D,rfl,hd⟩;have E:(c.ρ l).1<w.heap.size:=(jX.1 h1).1;refine⟨_,_,run_endRound j h1,B,cH.write rs ⟨D,rfl,hd⟩ (by simp) (λb hb=>World.putObj_heap_other hb) ?_ _⟩;exact⟨_,N,World.putObj_heap_same E,h2,I,J,L,O,R,V,U⟩;rw[S.cfg.fail] at B;exact B.elim
def GU (IH:uK P X C n):uA P (dJ X) C.gL (iD C (run C n)):=by
 intro l args h k W c w vs rs gl hd hv;unfold iD at W;split at W;rename_i ps b8 body b0 s0 p0 hg;obtain⟨r,N,h1,h2,h3,h4,h5,h6,h7,h8,h9⟩:=rs.obj l _ ⟨hg,rfl,hd⟩;obtain⟨eQ,W⟩:=M5 S.cfg _ _ _ _ W;have d4:vs.toArray.size=r.params.size:=by
  have e1:=hv.length;have e2:r.params.size=ps.length:=by rw[←h2];simp
  simp;omega
 unfold Aa;rw[run_yield h1 d4];have hT:=M6 ps args vs b0 r.tmps hv h7 (λp hp=>iR (h6 p hp) h5) eQ;have d5:(r.params.zip vs.toArray).foldl (λtmps (t,a)=>tmps.setIfInBounds t a) r.tmps=(ps.zip vs).foldl (λtmps q=>tmps.setIfInBounds q.1 q.2) r.tmps:=by
  rw[←h2,←Array.foldl_toList];simp[Array.toList_zip]
 rw[d5];refine roundIn_of_wpIn (F:=fw none) trivial ?_;have d0:St P (dJ X) C.gL N w.heap.size c h w (C9 ps args b0) { tmps:=(ps.zip vs).foldl (λtmps q=>tmps.setIfInBounds q.1 q.2) r.tmps,defers:=[] }:=
  ⟨rs,gl,hT.1,by rw[hT.2];exact h5,lO.nil⟩
 have b4:=IH b8 _ _ h W r.assign (some (c.ρ l).1) N w.heap.size c _ w h3 d0 (bB _);refine sZ b4 ?_;rintro e Z f0 ⟨me,τ₁,c6,J,hx,E,ev,st⟩;cases e<;>cases me<;>first|exact hx.elim|skip
 dsimp only at E;have D:=ev.ext.dM l hd;obtain⟨G,O,b1,b2,b3⟩:=aa6 S E st.rs D;have b5:=ev.ext.ρ l hd;refine⟨G,by rw[←b5];exact b1,?_⟩;have H:St P (dJ X) C.gL N w.heap.size J O G τ₁ Z:=⟨b3.rs,st.gl,st.tr,st.sz,st.marks.evo b3.keep⟩;have R:=IH body _ _ O b2 r.body (some (c.ρ l).1) N w.heap.size J _ G h4 H (fJ ev.keep.size b3.keep.size);refine sZ R ?_;rintro e d6 b6 ⟨me,τ₃,V,L,hx,E,B,Y⟩;have U:=B.ext.dM l D;have I:(L.ρ l).1=(c.ρ l).1:=by rw[B.ext.ρ l D,b5]
 have fin:∀st p u,DS C V l st p (λh=>k (.b u.isNone) h) ->FY p u ->FZ st (if u.isNone then .ready else .done) ->
  ∃v w',(Instr.endRound (c.ρ l).1 u).run P b6= .ok v w'/\∃x h' c',k x h'/\ cH (dJ X) c h w c' h' w'/\ VR c' x v:=by
  intro st p u E hp hs;obtain⟨b7,d8,d1,d2,d3⟩:=aa7 S E Y.rs U hp hs;exact⟨_,b7,by rw[←I];exact d1,_,_,L,d2,((ev.trans b3).trans B).trans d3,.b _⟩
 cases e<;>cases me<;>first|exact hx.elim|skip
 exact fin 0 none none E trivial trivial;rename_i i j;have c7:i=j:=hx;subst c7;exact fin 2 (some (some i)) (some (.exit i)) E rfl trivial;exact fin 2 (some none) (some .ret) E trivial trivial;dsimp only at E;rw[S.cfg.fail] at E;exact E.elim;dsimp only at E;rw[S.cfg.fail] at E;exact E.elim;rw[S.cfg.fail] at W;exact W.elim
def aa8 {Y U} (H:uz P (dJ X) C.gL Y) (O:uA P (dJ X) C.gL U)
 {N s ops Q} {K:T AV ->AH ->Prop} {x fn} (b0:fn∈X.bn):∀gs l k,(∀j o,l[j]? =some o ->ops[k+j]? =some o) ->GR X N ops x gs l=true ->
 ∀τ h c w a,AY C Y U (λτ h=>match az C τ x with| .f g _ _=>bif Nat.beq g fn then K τ h else C.fail|_=>C.fail) gs τ h ->St P (dJ X) C.gL N s c h w τ a ->
  (∀c' h' w' τ' R,K τ' h' ->cH (dJ X) c h w c' h' w' ->St P (dJ X) C.gL N s c' h' w' τ' R ->Q .normal R w') ->wpOpsIn (fw none) 0 P ops Q (List.range' k l.length) a w:=by
 intro gs;induction gs with
 |nil=>
  intro l k W L τ h c w a J st hQ;rcases l with _|⟨o,rr⟩;cases L;cases rr with
  |cons _ _=>cases L
  |nil=>
   have B:((match o.op with| .defer c=>(match c.callee with| .value y=>ax x y|_=>false)&&c.args.isEmpty|_=>false)&&o.dst.isNone&&o.guard.isNone)=true:=L;simp only[aB] at B;obtain⟨⟨D,k2⟩,k3⟩:=B;have E:(match az C τ x with| .f g _ _=>bif Nat.beq g fn then K τ h else C.fail|_=>C.fail):=J;have Z:ops[k]? =some o:=by simpa using W 0 o rfl
   cases ho:o.op with
   |defer cl=>
    rw[ho] at D;simp only[aB] at D;obtain⟨D,k4⟩:=D;cases hc:cl.callee with
    |value y=>
     rw[hc] at D;dsimp only at D;have hy:=zT C st.tr st.gl st.rs.gl D;cases hx:az C τ x with
     |f g fi ca=>
      rw[hx] at E hy;dsimp only at E;generalize b2:a.eval y=vy at hy;cases hy with
      |f _ _ _ va vb q1 q2=>
       cases V:Nat.beq g fn;rw[V] at E;have u:C.fail:=E;rw[S.cfg.fail] at u;exact u.elim;rw[V] at E;have u:K τ h:=E;rw[bu,aU] at V;subst V;have G:cl.args=#[]:=by simpa using k4
       have b1:o.guard=none:=by simpa using k3
       have fH:o.dst=none:=by simpa using k2
       show wpOpsIn (fw none) 0 P ops Q [k] a w;rw[wpOpsIn_cons];unfold wpOpIn;simp only[Z];have hw:Region.wanted o (yielded ops a.tmps)=true:=by simp[Region.wanted,b1]
       simp only[hw,dZ];refine⟨λ_ _=>trivial,?_⟩;have cR:(o.semAt (fw none).round a.eval).run P w= .ok (.defer { target:= .fn (.func g) vb.toArray,args:=va.toArray }) w:=by
        show(Oper.semAt none a.eval o).run P w=_;rw[Oper.semAt_none];unfold execOp;rw[ho];simp[resolve,hc,G,b2,Deferred.ofValue]
       rw[cR,Oper.uponIn_defer,fH];refine hQ c h w τ _ u (cH.refl st.rs) ⟨st.rs,st.gl,st.tr,st.sz,⟨λd hd=> ?_,?_⟩⟩;have I:d={ target:= .fn (.func g) vb.toArray,args:=va.toArray }∨d∈a.defers:=by simpa[Act.put] using hd
       rcases I with rfl|I;exact .inr ⟨g,_,rfl,S.bn g b0⟩;exact st.marks.all d I;show List.Pairwise _ (_::a.defers);rw[xD];exact⟨λe he r J=>(by cases J),st.marks.apart⟩
     |_=>rw[hx] at E;dsimp only at E;rw[S.cfg.fail] at E;exact E.elim
    |_=>rw[hc] at D;cases D
   |_=>rw[ho] at D;cases D
 |cons g gs ih=>
  intro l k W L τ h c w a J st hQ;rcases l with _|⟨o,r⟩;cases L;have B:(lP X N ops o g&&GR X N ops x gs r)=true:=L;simp only[aB] at B;have Z:ops[k]? =some o:=by simpa using W 0 o rfl
  replace J:eY C Y U g τ h (λy h=>eh τ g.dst y λτ=>AY C Y U (λτ h=>match az C τ x with| .f g _ _=>bif Nat.beq g fn then K τ h else C.fail|_=>C.fail) gs τ h):=J;rw[show(o::r).length=r.length+1 from rfl,Cc,wpOpsIn_cons];refine CZ S.ctx S.cfg H O Z B.1 J st λy h' c' w' R h1 h2 h3=> ?_;rw[iI] at h1;refine ih r (k+1) (λj o' hj=> ?_) B.2 _ _ c' w' R h1 h3 λb4 b5 b6 τ'' b3 q1 q2 q3=>hQ _ _ _ _ _ q1 (h2.trans q2) q3;have:=W (j+1) o' hj;rw[←this];congr 1;omega
def aa9 {F c Q Q'} (u:∀e a w,Q e a w ->Q' e a w):∀m a w,Code.roundsIn F n P c Q m a w ->Code.roundsIn F n P c Q' m a w:=by
 intro m;induction m with
 |zero=>intro a w h;exact h.elim
 |succ m B=>
  intro a w h;rw[roundsIn_succ] at h ⊢;refine sZ h λe D w' j=> ?_;cases e with
  |normal=>exact B _ _ j
  |_=>exact u _ _ _ j
def ab0 (Q:Exit ->Act ->World ->Prop):Exit ->Act ->World ->Prop
 | .goto _,_,_=>False
 |e,a,w=>Q e a w
def ab1 {F Q a w c} (h:c.wpIn F n P (ab0 Q) a w):(Code.scope c).wpIn F n P Q a w:=by
 intro b k cs I hb H;have h0:(lone (b.atR a (.code (.scope c)::k)) cs w).fenced P F:=fenced_calm hb H rfl;have E:Go.step P (lone (b.atR a (.code (.scope c)::k)) cs w)= .next (lone (b.atR a (.code c:: .inScope c::k)) cs w):=step_lone_go (by simp[stepG,stepG.exec,Frame.atR]);obtain⟨e,j,u,D,B⟩:=h b (.inScope c::k) cs I hb H;cases e with
 |normal=>
  have L:Go.step P (lone (b.atR j (.inScope c::k)) cs u)= .next (lone (b.atR j k) cs u):=step_lone_go (by simp[stepG,stepG.exec,Frame.atR]);exact⟨.normal,j,u,D,.head h0 E (StepsIn.trans B (.one (fenced_calm hb H rfl) L))⟩
 |exit id=>
  have J:exitTo id (.inScope c::k)=exitTo id k:=by simp[exitTo]
  exact⟨.exit id,j,u,D,λk' G=> .head h0 E (B.1 k' (by rw[J];exact G)),
   λO G=>let ⟨k₁,h1,h2⟩:=B.2 O (by rw[J];exact G);⟨k₁,h1,.head h0 E h2⟩⟩
 |goto l=>exact D.elim
 |ret=>exact⟨_,j,u,D,.of_steps (.one h0 E) B⟩
 |panic R=>exact⟨_,j,u,D,.of_steps (.one h0 E) B⟩
 |outgrown=>exact⟨_,j,u,D,.of_steps (.one h0 E) B⟩
def Dc {N s k w τ a e me} (u:M9 e me) (j:k me τ h) (st:St P (dJ X) C.gL N s c h w τ a):
 qQ P (dJ X) C.gL N s k c h w e a w:=⟨me,τ,h,c,u,j,cH.refl st.rs,st⟩
theorem gh {R} (C:aK R) n m k τ h:run C (n+1) m k τ h=(match m with
 | .skip=>k .normal τ h
 | .ops l=>AY C (iS C (run C n)) (iD C (run C n)) (λτ h=>k .normal τ h) l τ h
 | .draw z l=>fN (h.next+z) λnx=>bW C (iS C (run C n)) (iD C (run C n)) h.next (λτ h=>k .normal τ h) l [] [] τ ⟨nx,h.ver,h.oB⟩
 | .dfr l x fn=>AY C (iS C (run C n)) (iD C (run C n)) (λτ h=>match az C τ x with
  | .f g _ _=>bif Nat.beq g fn then k .normal τ h else C.fail
  |_=>C.fail) l τ h
 | .seq a b=>run C n a (λe τ h=>match e with| .normal=>run C n b k τ h|e=>k e τ h) τ h
 | .cond c a b=>match az C τ c with
  | .b x=>Bool.rec (motive:=λ_=>R) (run C n b k τ h) (run C n a k τ h) x
  |_=>C.fail
 | .block id c=>run C n c (λe τ h=>match e with| .exit i=>bif Nat.beq i id then k .normal τ h else k (.exit i) τ h|e=>k e τ h) τ h
 | .loop c=>run C n c (λe τ h=>match e with| .normal=>run C n (.loop c) k τ h|e=>k e τ h) τ h
 | .rfun f ps assign body=>h.new (.loop ps assign body τ 0 none) λl h=>
  let fin:AV ->AH ->R:=λ_ h=>match h.get l with
   |some (.loop _ _ _ _ 0 none)=>h.put l .gone λh=>k .normal τ h
   |some (.loop _ _ _ _ 2 (some (some i)))=>h.put l .gone λh=>k (.exit i) τ h
   |some (.loop _ _ _ _ 2 (some none))=>h.put l .gone λh=>k .ret τ h
   |_=>C.fail
  match az C τ f with
  | .f g fi ca=>match fy fi (.y l::ca) with
   |some l=>DR C (run C n) g l h fin
   |none=>C.fail
  |_=>C.fail
 | .exit id=>k (.exit id) τ h
 | .ret=>k .ret τ h
 | .bad _=>C.fail):=by
 cases m<;>rfl
def Dd (P:Program) (X:aR) (C:aK Prop) (n:Nat):Prop:=
 ∀j k τ h,run C n (.loop j) k τ h ->∀cc ro N s c a w,gf X N ro.isSome cc j=true ->St P (dJ X) C.gL N s c h w τ a ->s<=w.heap.size ->
  Code.roundsIn (fw ro) 0 P cc (qQ P (dJ X) C.gL N s k c h w) n a w
def Nb (IH:uK P X C n) (IL:Dd P X C n):Dd P X C (n+1):=by
 intro G k τ h E cc ro N s c a w aC st hs;rw[gh] at E;rw[roundsIn_succ];refine sZ (IH G _ _ h E cc ro N s c a w aC st hs) ?_;rintro e D w' ⟨me,τ',h',c',B,u,ev,j⟩;cases e<;>cases me<;>first|exact B.elim|skip
 exact aa9 (λe a w p=>p.trans ev) n D w' (IL G k τ' h' u cc ro N s c' D w' aC j (fJ hs ev.keep.size));exact⟨_,τ',h',c',B,u,ev,j⟩;exact⟨_,τ',h',c',B,u,ev,j⟩
def ab2 (IH:uK P X C n) {f ps b1 body k τ} (L:run C (n+1) (.rfun f ps b1 body) k τ h)
 {g qs ca cb N s a w} (hf:ax f g=true) (hq:qs.toList=ps) (hp:∀p∈ps,p<N) (h1:dJ X N ca b1) (h2:dJ X N cb body)
 (st:St P (dJ X) C.gL N s c h w τ a) (hs:s<=w.heap.size):(Code.rangeFunc g qs ca cb).wpIn (fw none) 0 P (qQ P (dJ X) C.gL N s k c h w) a w:=by
 rw[gh] at L;dsimp only at L;rw[AH.new_eq] at L;refine wpIn_rangeFunc λfn _=> ?_;have hv:=zT C st.tr st.gl st.rs.gl hf;cases hx:az C τ f with
 |f gg fi cap=>
  rw[hx] at L hv;dsimp only at L;rw[jz] at L;dsimp only at L;generalize d5:a.eval g=gv at hv;cases hv with
  |f _ _ _ vi va q1 q2=>
   let lp:Loop:={ state:= .ready,pending:=none,fn,tmps:=a.tmps,params:=qs,assign:=ca,body:=cb,defers:=w.heap.size }
   let wA:=w.alloc (.deferred (some []))
   let wB:=wA.alloc (.loop lp)
   have d1:wA.heap=w.heap.push (.deferred (some [])):=rfl;have c7:wB.heap=wA.heap.push (.loop lp):=rfl;have Z:wA.heap.size=w.heap.size+1:=by rw[d1];simp
   have f9:wB.heap.size=w.heap.size+2:=by rw[c7];simp[Z]
   have b5:∀b,b<w.heap.size ->wA.heap[b]? =w.heap[b]? :=λb hb=>by rw[d1,Ch hb];exact(Fg hb).symm
   have rA:RS (dJ X) c h wA:=st.rs.push b5
   let c₁:=c.add h.next wA.heap.size 0 0
   have d8:wB.heap[wA.heap.size]? =some (.loop lp):=by rw[c7];simp
   have E:gE c c₁:=CE.add_ext c st.rs.fresh _ _ _;have d0:cH (dJ X) c h wA c₁ ⟨Nat.succ h.next,h.ver,h.oB.put h.next (.loop ps b1 body τ 0 none)⟩ wB:=by
    refine cH.alloc rA (ob:= .loop lp) c7 0 ?_;exact⟨lp,N,by rw[CE.add_ρ];exact d8,hq,h1,h2,st.sz,hp,st.tr.mono E,trivial,trivial⟩
   have d3:cH (dJ X) c h w c h wA:=⟨gE.refl c,rA,⟨by rw[Z];omega,λb hb _=>b5 b hb,λo obj ho=> .inr ⟨o,obj,ho,rfl⟩,λ_ h=> .inl h,bB _,λ_ _ h=> .inl h,λ_ _ h=>h,⟨rfl,rfl⟩⟩⟩;have ev:=d3.trans d0;have hl:c₁.dM h.next:=CE.add_dom c _ _ _ _;have b6:(c₁.ρ h.next).1=w.heap.size+1:=by rw[CE.add_ρ];exact Z
   have b8:bX c₁ (fi++(.y h.next::cap)) (vi++(.func (.yield (w.heap.size+1)) #[] #[]::va)):=by
    refine(q1.mono E).append (.cons _ _ _ _ ?_ (q2.mono E));rw[←b6];exact .y _ hl
   obtain⟨g1,b',e1,e2,e3,e4⟩:=Db S IH L d0.rs (z8 st.gl E) b8;refine⟨w.heap.size+1,[{ target:= .collected w.heap.size,args:=#[] }],wB,⟨.fn (.func gg) va.toArray,vi.toArray++#[.func (.yield (w.heap.size+1)) #[] #[]]⟩,wB,gg,
    (vi++(.func (.yield (w.heap.size+1)) #[] #[]::va)).toArray,wB,?_,?_,λ_ _=>trivial,?_,λh=>(by cases h),?_⟩
   exact run_enterLoop_outer fn a.tmps qs ca cb;have d4:∀v,a.eval (.const v)=v:=λ_=>rfl;simp[resolve,d5,d4,Deferred.ofValue];have:=Da (P:=P) e1 e2 e3 (vi++(.func (.yield (w.heap.size+1)) #[] #[]::va)).toArray wB;simpa[invoke] using this;refine vN e4 λe G he=> ?_;cases e with
   |panicked _=>exact he.elim
   |outgrown=>exact he.elim
   |returned v=>
    obtain⟨x,u,B,W,D,_⟩:=he;have Y:B.dM h.next:=D.ext.dM _ hl;have I:(B.ρ h.next).1=w.heap.size+1:=by rw[D.ext.ρ _ hl,b6]
    have f0:lO P s B u G ([{ target:= .collected w.heap.size,args:=#[] }]++a.defers):=by
     have m0:lO P s c₁ ⟨Nat.succ h.next,h.ver,h.oB.put h.next (.loop ps b1 body τ 0 none)⟩ wB ([{ target:= .collected w.heap.size,args:=#[] }]++a.defers):=by
      have ma:=st.marks.evo ev.keep;refine⟨λd hd=> ?_,?_⟩;rcases fO.1 hd with hd|hd;rw[yC] at hd;subst hd;refine .inl ⟨w.heap.size,rfl,hs,by omega,?_,?_⟩
      grind
      intro o obj ho he;rcases ho.dM with hd|hd;have xt:o≠h.next:=λe=>st.rs.fresh (e▸hd);have V:=ho.get;rw[T.get_put,aD xt] at V;have aV:=(st.rs.obj o obj ⟨V,ho.live,hd⟩).lt ho.live;rw[E.ρ o hd] at he;omega;subst hd;omega;exact ma.all d hd;rw[List.singleton_append,xD];refine⟨λd hd g0 he=> ?_,st.marks.apart⟩;injection he with he
      rcases st.marks.all d hd with ⟨r,k1,k2,k3,_⟩|⟨g',g2,k1,_⟩
      grind
      rw[k1];intro k4;cases k4
     exact m0.evo D.keep
    have fin:∀d2 b4 O τ' s' p' me,u.get h.next=some (.loop d2 b4 O τ' s' p') ->k me τ ⟨u.next,Nat.succ u.ver,u.oB.put h.next .gone⟩ ->
     (s'=0/\ p'=none/\ me= .normal∨s'=2/\ ((∃i,p'=some (some i)/\ me= .exit i)∨(p'=some none/\ me= .ret))) ->
     ∃b7 b0,(Instr.endLoop (w.heap.size+1)).run P G= .ok b7 b0/\ (match b7 with
      |none=>qQ P (dJ X) C.gL N s k c h w .normal { a with defers:=[{ target:= .collected w.heap.size,args:=#[] }]++a.defers } b0
      |some cd=>cd.wpIn (fw none) 0 P (qQ P (dJ X) C.gL N s k c h w) { a with defers:=[{ target:= .collected w.heap.size,args:=#[] }]++a.defers } b0):=by
     intro d2 b4 O τ' s' p' me V W R;obtain⟨r,N',k1,k2,k3,k4,k5,k6,k7,k8,k9⟩:=D.rs.obj _ _ ⟨V,rfl,Y⟩;rw[I] at k1;have c6:r.state≠.busy:=by
      intro e;rw[e] at k8;rcases R with ⟨rfl,_⟩|⟨rfl,_⟩<;>exact k8.elim
     have U:=run_endLoop (P:=P) k1 c6;have b2:cH (dJ X) B u G B ⟨u.next,Nat.succ u.ver,u.oB.put h.next .gone⟩ (G.putObj (w.heap.size+1) (.loop { r with state:= .exhausted })):=
      cH.write D.rs ⟨V,rfl,Y⟩ (by simp) (λb hb=>World.putObj_heap_other (by rw[←I];exact hb)) (show gR (dJ X) B _ h.next .gone from trivial) _
     have J:=(ev.trans D).trans b2;have b3:St P (dJ X) C.gL N s B ⟨u.next,Nat.succ u.ver,u.oB.put h.next .gone⟩ (G.putObj (w.heap.size+1) (.loop { r with state:= .exhausted })) τ
      { a with defers:=[{ target:= .collected w.heap.size,args:=#[] }]++a.defers }:=
      ⟨b2.rs,z8 st.gl J.ext,st.tr.mono J.ext,st.sz,f0.evo b2.keep⟩
     generalize G.putObj (w.heap.size+1) (.loop { r with state:= .exhausted })=wz at U b2 J b3;refine⟨_,wz,U,?_⟩;clear U;rcases R with ⟨rfl,rfl,rfl⟩|⟨rfl,⟨i,rfl,rfl⟩|⟨rfl,rfl⟩⟩;rcases H:r.pending with _|z;exact⟨.normal,τ,_,B,trivial,W,J,b3⟩;rw[H] at k9;exact k9.elim;rcases H:r.pending with _|z;rw[H] at k9;exact k9.elim;rw[H] at k9;cases z<;>first|exact k9.elim|skip
     rename_i j;have d6:i=j:=k9;subst d6;exact wpIn_exit ⟨.exit i,τ,_,B,rfl,W,J,b3⟩;rcases H:r.pending with _|z;rw[H] at k9;exact k9.elim;rw[H] at k9;cases z<;>first|exact k9.elim|skip
     exact wpIn_ret ⟨.ret,τ,_,B,trivial,W,J,b3⟩
    split at W;rename_i V;rw[AH.put_eq] at W;exact fin _ _ _ _ _ _ _ V W (.inl ⟨rfl,rfl,rfl⟩);rename_i V;rw[AH.put_eq] at W;exact fin _ _ _ _ _ _ _ V W (.inr ⟨rfl,.inl ⟨_,rfl,rfl⟩⟩);rename_i V;rw[AH.put_eq] at W;exact fin _ _ _ _ _ _ _ V W (.inr ⟨rfl,.inr ⟨rfl,rfl⟩⟩)
    grind[S.cfg.fail]
 |_=>rw[hx] at L;dsimp only at L;rw[S.cfg.fail] at L;exact L.elim
def ab3 (IH:uK P X C n) (IL:Dd P X C n):uK P X C (n+1):=by
 intro G k τ h D cc;by_cases hb:∃n,G= .bad n
 grind[gh,S.cfg.fail]
 induction cc generalizing G with
 |scope b ih=>
  intro ro N s c a w u st hs;refine ab1 (sZ (ih G D hb ro N s c a w (by unfold gf at u;exact u) st hs) ?_);rintro e J w' ⟨me,τ',h',c',H,E,ev,B⟩;cases e<;>first|exact⟨me,τ',h',c',H,E,ev,B⟩|(cases me<;>exact H.elim)
 |skip=>
  intro ro N s c a w u st hs;cases G<;>first|(exact bh ⟨_,rfl⟩ hb)|(unfold gf at u;cases u;done)|skip
  rw[gh] at D;exact wpIn_skip (Dc (me:= .normal) trivial D st)
 |label l=>
  intro ro N s c a w u st hs;cases G<;>first|(exact bh ⟨_,rfl⟩ hb)|(unfold gf at u;cases u;done)|skip
  rw[gh] at D;exact wpIn_label (Dc (me:= .normal) trivial D st)
 |exit i=>
  intro ro N s c a w u st hs;cases G<;>first|(exact bh ⟨_,rfl⟩ hb)|(unfold gf at u;cases u;done)|skip
  rw[gh] at D;unfold gf at u;simp only[bu,aU] at u;subst u;exact wpIn_exit (Dc (me:= .exit i) rfl D st)
 |ret=>
  intro ro N s c a w u st hs;cases G<;>first|(exact bh ⟨_,rfl⟩ hb)|(unfold gf at u;cases u;done)|skip
  rw[gh] at D;exact wpIn_ret (Dc (me:= .ret) trivial D st)
 |goto l=>
  intro ro N s c a w u st hs;cases G<;>first|(exact bh ⟨_,rfl⟩ hb)|(unfold gf at u;cases u)
 |refuse l=>
  intro ro N s c a w u st hs;cases G<;>first|(exact bh ⟨_,rfl⟩ hb)|(unfold gf at u;cases u)
 |region id ops d=>
  intro ro N s c a w u st hs;cases G<;>first|(exact bh ⟨_,rfl⟩ hb)|(unfold gf at u;cases u;done)|skip
  rename_i l;rw[gh] at D;unfold gf at u;simp only[aB,jH] at u;obtain⟨rfl,u⟩:=u;refine wpIn_region ?_;have:=ZL (ro:=ro) (s:=s) S.ctx S.cfg (GT S IH) (GU S IH) (ops:=ops) (Q:=qQ P (dJ X) C.gL N s k c h w) l ops.toList 0 (λj o W=>by simpa using W) u τ h c w a D st
   (λc' h' w' τ' J E ev B=>⟨.normal,τ',h',c',trivial,E,ev,B⟩)
  rw[zB];simpa using this;rename_i z l;rw[gh] at D;dsimp only at D;rw[dT] at D;unfold gf at u;simp only[aB] at u;obtain⟨rfl,u⟩:=u;exact aa0 S.ctx S.cfg (GT S IH) (GU S IH) S.mixed u D st λc' h' w' τ' J E ev B=>⟨.normal,τ',h',c',trivial,E,ev,B⟩;rename_i l x fn;rw[gh] at D;unfold gf at u;simp only[aB,jH] at u;obtain⟨Y,rfl,b0,u⟩:=u;have L:ro=none:=by cases ro with|none=>rfl|some _=>cases Y
  subst L;have U:fn∈X.bn:=by
   simp_all
  refine wpIn_region ?_;have:=aa8 S (GT S IH) (GU S IH) (N:=N) (s:=s) (ops:=ops) (Q:=qQ P (dJ X) C.gL N s k c h w) (K:=λτ h=>k .normal τ h) U l ops.toList 0 (λj o W=>by simpa using W) u τ h c w a D st
   (λc' h' w' τ' J E ev B=>⟨.normal,τ',h',c',trivial,E,ev,B⟩)
  rw[zB];simpa using this
 |seq x y O R=>
  intro ro N s c a w u st hs;cases G<;>first|(exact bh ⟨_,rfl⟩ hb)|(unfold gf at u;cases u;done)|skip
  rename_i p q;rw[gh] at D;unfold gf at u;simp only[aB] at u;refine wpIn_seq (sZ (IH p _ _ h D x ro N s c a w u.1 st hs) ?_);rintro e J w' ⟨me,τ',h',c',H,E,ev,B⟩;cases e<;>cases me<;>first|exact H.elim|skip
  exact sZ (IH q _ _ h' E y ro N s c' J w' u.2 B (fJ hs ev.keep.size)) λe a w p=>p.trans ev;exact⟨_,τ',h',c',H,E,ev,B⟩;exact⟨_,τ',h',c',H,E,ev,B⟩
 |cond o x y O R=>
  intro ro N s c a w u st hs;cases G<;>first|(exact bh ⟨_,rfl⟩ hb)|(unfold gf at u;cases u;done)|skip
  rename_i m p q;rw[gh] at D;unfold gf at u;simp only[aB] at u;have Z:=zT C st.tr st.gl st.rs.gl u.1;dsimp only at D;cases H:az C τ m with
  |b t=>
   rw[H] at D Z;generalize V:a.eval o=gv at Z;cases Z;refine wpIn_cond V ?_;cases t with
   |true=>exact IH p _ _ h D x ro N s c a w u.2.1 st hs
   |false=>exact IH q _ _ h D y ro N s c a w u.2.2 st hs
  |_=>rw[H] at D;dsimp only at D;rw[S.cfg.fail] at D;exact D.elim
 |block i b ih=>
  intro ro N s c a w u st hs;cases G<;>first|(exact bh ⟨_,rfl⟩ hb)|(unfold gf at u;cases u;done)|skip
  rename_i j p;rw[gh] at D;unfold gf at u;simp only[aB,bu,aU] at u;obtain⟨rfl,u⟩:=u;refine wpIn_block (sZ (IH p _ _ h D b ro N s c a w u st hs) ?_);rintro e J w' ⟨me,τ',h',c',H,E,ev,B⟩;cases e<;>cases me<;>first|exact H.elim|skip
  exact⟨_,τ',h',c',H,E,ev,B⟩;rename_i e1 e2;have he:e1=e2:=H;subst he;dsimp only at E;by_cases I:e1=i;subst I;have hb:Nat.beq e1 e1=true:=by rw[bu];simp
  rw[hb] at E;simp only[Exit.inBlock,dZ];exact⟨.normal,τ',h',c',trivial,E,ev,B⟩;have hb:Nat.beq e1 i=false:=by rw[bu];simp[I]
  rw[hb] at E;simp only[Exit.inBlock,aD I];exact⟨.exit e1,τ',h',c',rfl,E,ev,B⟩;exact⟨_,τ',h',c',H,E,ev,B⟩
 |loop b ih=>
  intro ro N s c a w u st hs;cases G<;>first|(exact bh ⟨_,rfl⟩ hb)|(unfold gf at u;cases u;done)|skip
  rename_i p;unfold gf at u;exact wpIn_loop_rounds (n+1) (Nb IH IL p k τ h D b ro N s c a w u st hs)
 |rangeFunc f qs x y O R=>
  intro ro N s c a w u st hs;cases G<;>first|(exact bh ⟨_,rfl⟩ hb)|(unfold gf at u;cases u;done)|skip
  rename_i g ps p q;unfold gf at u;simp only[aB,jH,M7,aU] at u;obtain⟨⟨⟨⟨⟨h1,h2⟩,h3⟩,h4⟩,h5⟩,h6⟩:=u;cases ro with
  |some l=>cases h1
  |none=>exact ab2 S IH D h2 h3 (M8 h4) h5 h6 st hs
def wS:∀n,uK P X C n/\ Dd P X C n:=by
 intro n;induction n with
 |zero=>
  constructor;intro B k τ h u;have:C.fail:=u;rw[S.cfg.fail] at this;exact this.elim;intro B k τ h u;have:C.fail:=u;rw[S.cfg.fail] at this;exact this.elim
 |succ n j=>exact⟨ab3 S j.1 j.2,Nb j.1 j.2⟩
end
end
end AM
