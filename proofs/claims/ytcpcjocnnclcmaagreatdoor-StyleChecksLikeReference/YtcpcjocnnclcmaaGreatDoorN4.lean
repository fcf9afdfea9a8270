import Derived.RangeFuncRecord
import Derived.Test.YtcpcjocnnclcmaaGreatDoorN3
set_option linter.all false
namespace AM
open Go
noncomputable section
section
variable {CR:Nat ->Code ->ap ->Prop}
structure qS (CR:Nat ->Code ->ap ->Prop) (s₀:Nat) (c:CE) (h:AH) (w:World) (id:Nat) (ob:aU):Prop where
 dom:c.dom id
 obj:iX CR c w id ob
 live:live ob=true
 lo:s₀<=(c.ρ id).1
 un:∀o ob',jB c h o ob' ->(c.ρ o).1≠(c.ρ id).1
 im:c.im (c.ρ id).1=none
def qS.lt {s₀:Nat} {c:CE} {h:AH} {w:World} {id:Nat} {ob:aU} (g:qS CR s₀ c h w id ob):(c.ρ id).1<w.heap.size:=g.obj.lt g.live
def qS.evo {s₀:Nat} {c c':CE} {h h':AH} {w w':World} {id:Nat} {ob:aU} (g:qS CR s₀ c h w id ob) (e:gC CR c h w c' h' w'):qS CR s₀ c' h' w' id ob:=by
 have hρ:=e.ext.ρ id g.dom;refine⟨e.ext.dom id g.dom,g.obj.mono e.ext g.dom (e.keep.same _ g.lt g.un),g.live,by rw[hρ];exact g.lo,fun o ob' ho he=> ?_,?_⟩
 ·rw[hρ] at he;rcases e.keep.new o ob' ho with h1|⟨o₀,ob₀,h1,h2⟩
  ·have:=g.lt;omega
  ·exact g.un o₀ ob₀ h1 (h2.trans he)
 ·rw[hρ];cases hi:c'.im (c.ρ id).1 with
  |none=>rfl
  |some row=>
   rcases e.keep.im _ row hi with h1|h1|⟨o,ob',h1,h2⟩
   ·rw[g.im] at h1;cases h1
   ·have:=g.lt;omega
   ·exact absurd h2 (g.un o ob' h1)
def iX.not_deferred {c:CE} {w:World} {o:Nat} {obj:aU} (h:iX CR c w o obj) (hl:live obj=true) {d:Option (List Deferred)} (hd:w.heap[(c.ρ o).1]? =some (.deferred d)):False:=by
 cases obj with
 |cells v l=>obtain⟨row,t,lo,hi,vs,h1,_⟩:=h;rw[hd] at h1;cases h1
 |tc T wh l=>obtain⟨row,t,lo,hi,vs,h1,_⟩:=h;rw[hd] at h1;cases h1
 |map v es cl=>obtain⟨es',h1,_⟩:=h;rw[hd] at h1;cases h1
 |sit l pos=>obtain⟨_,bs,h1,_⟩:=h;rw[hd] at h1;cases h1
 |mit m since seen stepped=>have h1:=h.2.2;rw[hd] at h1;cases h1
 |loop ps assign body env st pend=>obtain⟨r,N,h1,_⟩:=h;rw[hd] at h1;cases h1
 |gone=>cases hl
def RS.adopt {s₀:Nat} {c:CE} {h:AH} {w:World} (r:RS CR c h w) {id:Nat} {ob:aU} (g:qS CR s₀ c h w id ob) (ver:Nat) (hid:id<h.next):
 RS CR c ⟨h.next,ver,h.objs.put id ob⟩ w/\ (∀o ob',jB c ⟨h.next,ver,h.objs.put id ob⟩ o ob' ->(o=id/\ ob'=ob)∨(o≠id/\ jB c h o ob')):=by
 have hh:∀o ob',jB c ⟨h.next,ver,h.objs.put id ob⟩ o ob' ->(o=id/\ ob'=ob)∨(o≠id/\ jB c h o ob'):=by
  intro o ob' ho;have hg:=ho.get;rw[T.get_put] at hg;by_cases e:o=id
  ·rw[if_pos e] at hg;exact .inl ⟨e,(Option.some.inj hg).symm⟩
  ·rw[if_neg e] at hg;exact .inr ⟨e,hg,ho.live,ho.dom⟩
 refine⟨⟨r.nx,fun o ob' ho=> ?_,fun o ob' ho=> ?_,fun o o' ob₁ ob₂ h1 h2 he=> ?_,r.im,fun o ob' ho=> ?_,r.gl⟩,hh⟩
 ·rw[T.get_put] at ho;by_cases e:o=id
  ·subst e;exact hid
  ·rw[if_neg e] at ho;exact r.lt _ _ ho
 ·rcases hh o ob' ho with ⟨rfl,rfl⟩|⟨_,e⟩
  ·exact g.obj
  ·exact r.obj _ _ e
 ·rcases hh o ob₁ h1 with ⟨rfl,rfl⟩|⟨_,e⟩<;>rcases hh o' ob₂ h2 with ⟨rfl,rfl⟩|⟨_,e'⟩
  ·rfl
  ·exact absurd he.symm (g.un _ _ e')
  ·exact absurd he (g.un _ _ e)
  ·exact r.inj _ _ _ _ e e' he
 ·rcases hh o ob' ho with ⟨rfl,rfl⟩|⟨_,e⟩
  ·exact g.im
  ·exact r.dj _ _ e
def nJ.adopt {c₀ c:CE} {h₀ h:AH} {w₀ w:World} (k:nJ c₀ h₀ w₀ c h w) {id:Nat} {ob:aU} (g:qS CR w₀.heap.size c h w id ob) (ver:Nat) (hlo:h₀.next<=id)
 (hh:∀o ob',jB c ⟨h.next,ver,h.objs.put id ob⟩ o ob' ->(o=id/\ ob'=ob)∨(o≠id/\ jB c h o ob')):nJ c₀ h₀ w₀ c ⟨h.next,ver,h.objs.put id ob⟩ w:=by
 refine⟨k.size,k.same,fun o ob' ho=> ?_,k.dom,k.nxt,k.im,fun o ho hd ob' hg=> ?_,k.io⟩
 ·rcases hh o ob' ho with ⟨rfl,_⟩|⟨_,e⟩
  ·exact .inl g.lo
  ·exact k.new o ob' e
 ·rw[T.get_put,if_neg (show o≠id by omega)] at hg;exact k.dead o ho hd ob' hg
def qS.adopt {s₀:Nat} {c:CE} {h:AH} {w:World} {id id' ver:Nat} {ob ob':aU} (g:qS CR s₀ c h w id ob) (hne:(c.ρ id).1≠(c.ρ id').1)
 (hh:∀o ob₁,jB c ⟨h.next,ver,h.objs.put id' ob'⟩ o ob₁ ->(o=id'/\ ob₁=ob')∨(o≠id'/\ jB c h o ob₁)):qS CR s₀ c ⟨h.next,ver,h.objs.put id' ob'⟩ w id ob:=
 ⟨g.dom,g.obj,g.live,g.lo,fun o ob₁ ho=>by
  rcases hh o ob₁ ho with ⟨rfl,_⟩|⟨_,e⟩
  ·exact hne.symm
  ·exact g.un o ob₁ e,g.im⟩
structure H5 (c:CE) (h:AH) (w:World) (c':CE) (w':World) (id:Nat):Prop where
 ext:qj c c'
 old:∀b,b<w.heap.size ->w'.heap[b]? =w.heap[b]?
 size:w.heap.size<=w'.heap.size
 has:∀o ob,jB c' h o ob ->o≠id/\ jB c h o ob
 dom:∀o,c'.dom o ->c.dom o∨o=id
 im:c'.im=c.im
 ρ:(c'.ρ id).1=w.heap.size
 io:w'.os=w.os/\ w'.output=w.output
def RS.bring {c:CE} {h:AH} {w w':World} (r:RS CR c h w) {id:Nat} (hnd:¬c.dom id) (hdead:LF h id) (hid:id<h.next) {ob:Obj} (hw:w'.heap=w.heap.push ob) (n:Nat) (hq:w'.os=w.os/\ w'.output=w.output:=by exact⟨rfl,rfl⟩):
 RS CR (c.add id w.heap.size 0 n) h w'/\ H5 c h w (c.add id w.heap.size 0 n) w' id:=by
 have hx:=CE.add_ext c hnd w.heap.size 0 n;have hold:∀b,b<w.heap.size ->w'.heap[b]? =w.heap[b]? :=fun b hb=>by rw[hw,Bf hb];exact(mL hb).symm
 have hh:∀o ob,jB (c.add id w.heap.size 0 n) h o ob ->o≠id/\ jB c h o ob:=by
  intro o ob ho;have hne:o≠id:=fun e=>by
   subst e;have:=hdead ob ho.get;rw[ho.live] at this;cases this
  exact⟨hne,ho.get,ho.live,ho.dom.resolve_right hne⟩
 have hρ:∀o,o≠id ->(c.add id w.heap.size 0 n).ρ o=c.ρ o:=fun o e=>by simp[CE.add,e]
 refine⟨⟨fun o ho=> ?_,r.lt,fun o ob ho=> ?_,fun o o' a b ho ho' he=> ?_,fun b row hb=> ?_,fun o ob ho=> ?_,fun g l hg=> ?_⟩,hx,hold,by rw[hw];simp,hh,fun o ho=>ho,rfl,by rw[CE.add_ρ],hq⟩
 ·rcases ho with ho|rfl
  ·exact r.nx o ho
  ·exact hid
 ·have:=(hh o ob ho).2;exact(r.obj o ob this).mono hx this.dom (hold _ ((r.obj o ob this).lt this.live))
 ·rw[hρ o (hh o a ho).1,hρ o' (hh o' b ho').1] at he;exact r.inj o o' a b (hh o a ho).2 (hh o' b ho').2 he
 ·obtain⟨t,fr,h1⟩:=r.im b row hb;exact⟨t,fr,by rw[hold b (r.im_lt hb)];exact h1⟩
 ·rw[hρ o (hh o ob ho).1];exact r.dj o ob (hh o ob ho).2
 ·obtain⟨row,vs,h1,h2,h3⟩:=r.gl g l hg;exact⟨row,vs,h1,h2,h3.mono hx⟩
def qS.bring {s₀:Nat} {c c':CE} {h:AH} {w w':World} {id id':Nat} {ob:aU} (g:qS CR s₀ c h w id' ob) (b:H5 c h w c' w' id):qS CR s₀ c' h w' id' ob:=by
 have hρ:=b.ext.ρ id' g.dom;refine⟨b.ext.dom _ g.dom,g.obj.mono b.ext g.dom (b.old _ g.lt),g.live,by rw[hρ];exact g.lo,fun o ob' ho he=> ?_,by rw[hρ,b.im];exact g.im⟩;have h1:=(b.has o ob' ho).2;rw[hρ,b.ext.ρ o h1.dom] at he;exact g.un o ob' h1 he
def nJ.bring {c₀ c c':CE} {h₀ h:AH} {w₀ w w':World} (k:nJ c₀ h₀ w₀ c h w) {id:Nat} (b:H5 c h w c' w' id) (hid:h₀.next<=id):nJ c₀ h₀ w₀ c' h w':=by
 refine⟨fq k.size b.size,fun q hq hn=>by rw[b.old q (il hq k.size)];exact k.same q hq hn,fun o ob ho=> ?_,fun o ho=> ?_,k.nxt,fun q row hq=> ?_,k.dead,⟨b.io.1.trans k.io.1,b.io.2.trans k.io.2⟩⟩
 ·have h1:=(b.has o ob ho).2;rw[b.ext.ρ o h1.dom];exact k.new o ob h1
 ·rcases b.dom o ho with h1|rfl
  ·exact k.dom o h1
  ·exact .inr hid
 ·rw[b.im] at hq;exact k.im q row hq
def ko.bring {P:Program} {s:Nat} {c c':CE} {h:AH} {w w':World} {l:List Deferred} (m:ko P s c h w l) {id:Nat} (b:H5 c h w c' w' id):ko P s c' h w' l:=by
 refine⟨fun d hd=> ?_,m.apart⟩;rcases m.all d hd with ⟨r,h1,h2,h3,h4,h5⟩|m
 case inr=>exact .inr m
 refine .inl ⟨r,h1,h2,il h3 b.size,by rw[b.old r h3];exact h4,fun o ob ho he=> ?_⟩;have h6:=(b.has o ob ho).2;rw[b.ext.ρ o h6.dom] at he;exact h5 o ob h6 he
def ko.adopt {P:Program} {s₀ s:Nat} {c:CE} {h:AH} {w:World} {l:List Deferred} (m:ko P s c h w l) {id ver:Nat} {ob:aU} (g:qS CR s₀ c h w id ob)
 (hh:∀o ob',jB c ⟨h.next,ver,h.objs.put id ob⟩ o ob' ->(o=id/\ ob'=ob)∨(o≠id/\ jB c h o ob')):ko P s c ⟨h.next,ver,h.objs.put id ob⟩ w l:=by
 refine⟨fun d hd=> ?_,m.apart⟩;rcases m.all d hd with ⟨r,h1,h2,h3,h4,h5⟩|m
 case inr=>exact .inr m
 refine .inl ⟨r,h1,h2,h3,h4,fun o ob' ho he=> ?_⟩;rcases hh o ob' ho with ⟨rfl,_⟩|⟨_,e⟩
 ·rw[←he] at h4;exact g.obj.not_deferred g.live h4
 ·exact h5 o ob' e he
variable {P:Program} {X:dy} {C:cQ Prop}
structure lE (P:Program) (CR:Nat ->Code ->ap ->Prop) (X:dy) (C:cQ Prop) (N s:Nat) (ops:Array Oper) (A:List Nat) (n HV:Nat) (c₀:CE) (h₀:AH) (w₀:World)
 (done laid:Nat) (rsv:List (Nat×Nat)) (ls:List (Nat×MG)) (pd:List (Nat×Nat×aU)) (τ:T AV) (h:AH) (listed:Array Bool) (a:Act) (w:World) (c:CE) (τD:T AV):Prop where
 down:Dh ops listed
 din:∀i,gn listed i ->eU done i=true
 cls:∀i,eU done i=true ->gn listed i∨(∃g,(i,g)∈ls)∨(∃k,(i,k)∈rsv/\ eU laid i=false)
 laidL:∀i,eU laid i=true ->gn listed i
 lst:∀i g,(i,g)∈ls ->TC X N ops A HV done i g/\ (eU HV i=false/\ qq g.op=true)/\ eU done i=true
 als:∀i k,(i,k)∈rsv ->∃g ob x,TB X N ops A done i g/\ (eU HV i=false/\ tj g.op=true)/\ g.guard=none/\ k<n/\ eU done i=true/\ gB i pd=some (h₀.next+k,ob)/\
  (∃ver h1,step (bp C τ) ⟨h₀.next+k,ver,.e⟩ g.op= .v x h1/\ h1.objs.get (h₀.next+k)=some ob)/\ (∀d,g.dst=some d ->τ.get d=some x)/\ (gn listed i ->eU laid i=false ->qS CR w₀.heap.size c h w (h₀.next+k) ob)
 rdom:∀i k,(i,k)∈rsv ->gn listed i ->c.dom (h₀.next+k)
 rlt:∀i k,(i,k)∈rsv ->gn listed i ->(c.ρ (h₀.next+k)).1<w.heap.size
 disj:∀i g k,(i,g)∈ls ->(i,k)∈rsv ->False
 runiq:∀i k k',(i,k)∈rsv ->(i,k')∈rsv ->k=k'
 kuniq:∀i i' k,(i,k)∈rsv ->(i',k)∈rsv ->i=i'
 apart:∀i k i' k',(i,k)∈rsv ->(i',k')∈rsv ->gn listed i ->gn listed i' ->i≠i' ->(c.ρ (h₀.next+k)).1≠(c.ρ (h₀.next+k')).1
 fresh:∀k,k<n ->(∀i,(i,k)∈rsv ->¬gn listed i) ->¬c.dom (h₀.next+k)
 dead:∀k,k<n ->(∀i,(i,k)∈rsv ->eU laid i=false) ->LF h (h₀.next+k)
 nx:h₀.next+n<=h.next
 st:St P CR C.glob N s c h w τD a
 sub:∀t,(∀(j:Nat) o,ops[j]? =some o ->o.dst=some t ->gn listed j) ->τD.get t=τ.get t
 old:∀t,(∀(j:Nat) o,ops[j]? =some o ->o.dst=some t ->eU done j=false) ->τD.get t=τ.get t
 ext:qj c₀ c
 keep:nJ c₀ h₀ w₀ c h w
def YL (C:cQ Prop) (τ:T AV) (h:AH) (ls:List (Nat×MG)) (listed:Array Bool):Prop:=
 ∀i g,(i,g)∈ls ->¬gn listed i ->∃x,bB C τ h g=some x/\∀d,g.dst=some d ->τ.get d=some x
end
section
variable {P:Program} {CR:Nat ->Code ->ap ->Prop} {X:dy} {C:cQ Prop}
variable {N s n HV:Nat} {ops:Array Oper} {A:List Nat} {c₀ c:CE} {h₀ h:AH} {w₀ w:World} {done laid:Nat} {rsv:List (Nat×Nat)} {ls:List (Nat×MG)} {pd:List (Nat×Nat×aU)} {τ τD:T AV} {listed:Array Bool} {a:Act}
def lE.agree (S:sd ops A) (I:lE P CR X C N s ops A n HV c₀ h₀ w₀ done laid rsv ls pd τ h listed a w c τD) {i:Nat} {g:MG} (hs:TB X N ops A done i g) {o:Oper} (ho:ops[i]? =some o) (hE:kT listed o):
 ∀t∈pc g,τ.get t=τD.get t:=by
 obtain⟨o',h1,h2,h3⟩:=hs;intro t ht;exact(I.sub t fun j o'' hj hd=>gR S I.down i o ho hE j (h3 t ht j o'' hj hd).1).symm
def lE.agreeH (S:sd ops A) (I:lE P CR X C N s ops A n HV c₀ h₀ w₀ done laid rsv ls pd τ h listed a w c τD) {i:Nat} {g:MG} (hs:TC X N ops A HV done i g) {o:Oper} (ho:ops[i]? =some o) (hE:kT listed o) (hn:¬gn listed i):
 ∀t∈pc g,τ.get t=τD.get t:=by
 obtain⟨o',h1,h2,h3⟩:=hs;intro t ht;by_cases hw:∃(j:Nat) (o'':Oper),ops[j]? =some o''/\ o''.dst=some t
 ·obtain⟨j,o'',hj,hd⟩:=hw;rcases h3 t ht j o'' hj hd with h4|⟨h4,h5⟩
  ·refine(I.sub t fun j' o3 hj' hd'=> ?_).symm;rw[←S.uniq j j' o'' o3 t hj hj' hd hd'];exact gR S I.down i o ho hE j h4.1
  ·have hnj:¬gn listed j:=fun hL=>by
    rcases h5 with rfl|h5
    ·exact hn hL
    ·exact hn (gR S I.down j o'' hj (I.down.down j o'' hj hL) i h5)
   have hdj:eU done j=false:=by
    cases hb:eU done j with
    |false=>rfl
    |true=>
     rcases I.cls j hb with q|⟨g',q⟩|⟨k,q,_⟩
     ·exact absurd q hnj
     ·have:=(I.lst j g' q).2.1.1;rw[h4] at this;cases this
     ·obtain⟨_,_,_,_,q2,_⟩:=I.als j k q;have:=q2.1;rw[h4] at this;cases this
   refine(I.old t fun j' o3 hj' hd'=> ?_).symm;rw[←S.uniq j j' o'' o3 t hj hj' hd hd'];exact hdj
 ·exact(I.sub t fun j o'' hj hd=>absurd ⟨j,o'',hj,hd⟩ hw).symm
def lE.old_set (I:lE P CR X C N s ops A n HV c₀ h₀ w₀ done laid rsv ls pd τ h listed a w c τD) {i:Nat} {o:Oper} (ho:ops[i]? =some o) {d:Option Nat} (hd:o.dst=d) (hdone:eU done i=true) (x:AV):
 ∀t,(∀(j:Nat) o',ops[j]? =some o' ->o'.dst=some t ->eU done j=false) ->(bM τD d x).get t=τ.get t:=by
 intro t ht;have hne:d≠some t:=fun e=>by
  have:=ht i o ho (hd.trans e);rw[hdone] at this;cases this
 rw[←I.old t ht];cases d with
 |none=>rfl
 |some d=>
  show(τD.put d x).get t=_;rw[T.get_put,if_neg (fun e=>hne (by rw[e]))]
def lE.sub_set (S:sd ops A) (I:lE P CR X C N s ops A n HV c₀ h₀ w₀ done laid rsv ls pd τ h listed a w c τD) {i:Nat} {o:Oper} (ho:ops[i]? =some o) {d:Option Nat} (hd:o.dst=d) {x:AV}
 (hx:∀t,d=some t ->τ.get t=some x):∀t,(∀(j:Nat) o',ops[j]? =some o' ->o'.dst=some t ->gn (listed.setIfInBounds i true) j) ->(bM τD d x).get t=τ.get t:=by
 have hi:i<listed.size:=by rw[I.down.sz];exact(jo.1 ho).1
 intro t ht;have hrest:d≠some t ->τD.get t=τ.get t:=fun hne=>I.sub t fun j o' hj hd'=>by
  rcases(gn.set hi).1 (ht j o' hj hd') with rfl|h1
  ·rw[ho] at hj;cases hj;rw[hd] at hd';exact absurd hd' hne
  ·exact h1
 cases d with
 |none=>exact hrest (by simp)
 |some d=>
  show(τD.put d x).get t=_;rw[T.get_put];by_cases e:t=d
  ·subst e;rw[if_pos rfl,hx t rfl]
  ·rw[if_neg e];exact hrest (fun q=>e (Option.some.inj q).symm)
def Mi (hX:jt P X) (hC:CfgOK C) {callK yldK:Nat ->List AV ->AH ->(AV ->AH ->Prop) ->Prop} (hcall:pH P CR C.glob callK) (hyld:vL P CR C.glob yldK) {ro:Option Nat} {Q:Exit ->Act ->World ->Prop}
 (S:sd ops A) (I:lE P CR X C N s ops A n HV c₀ h₀ w₀ done laid rsv ls pd τ h listed a w c τD) (L:YL C τ h ls listed) {i:Nat} {g:MG} (hm:(i,g)∈ls) {o:Oper} (ho:ops[i]? =some o) (hE:kT listed o) (hn:¬gn listed i):
 wpOpIn (fw ro) 0 P ops Q i (fun a' w'=>∃c' τD',lE P CR X C N s ops A n HV c₀ h₀ w₀ done laid rsv ls pd τ h (listed.setIfInBounds i true) a' w' c' τD') a w:=by
 have hi:i<listed.size:=by rw[I.down.sz];exact(jo.1 ho).1
 obtain⟨hs,⟨_,hl⟩,hdone⟩:=I.lst i g hm;obtain⟨x,hv,hx⟩:=L i g hm hn;have hag:=I.agreeH S hs ho hE hn;obtain⟨o',ho',hok,hst⟩:=hs;rw[ho] at ho';cases ho';have hdst:o.dst=g.dst:=by
  simp only[De,av] at hok;exact(iq hok.2.1).1
 have hrun:dg C callK yldK g τD h (fun y h'=>y=x/\ h'=h):=by
  rw[←vM C hag,aH8 C hl hv];exact⟨rfl,rfl⟩
 refine th hX hC hcall hyld ho hok hrun I.st fun y h' c' w' a' hk ev st'=> ?_
 obtain⟨rfl,rfl⟩:=hk;exact⟨c',bM τD g.dst y,{
  down:=I.down.set ho hE
  din:=fun j hj=>by
   rcases(gn.set hi).1 hj with rfl|hj
   ·exact hdone
   ·exact I.din j hj
  cls:=fun j hj=>(I.cls j hj).imp (fun q=>(gn.set hi).2 (.inr q)) id
  laidL:=fun j hj=>(gn.set hi).2 (.inr (I.laidL j hj))
  lst:=I.lst
  als:=fun j k hj=>by
   obtain⟨g',ob,x',q1,q2,q3,q4,q5,q6,q7,q8,q9⟩:=I.als j k hj;refine⟨g',ob,x',q1,q2,q3,q4,q5,q6,q7,q8,fun hL hlaid=> ?_⟩;rcases(gn.set hi).1 hL with rfl|hL
   ·exact(I.disj _ _ _ hm hj).elim
   ·exact(q9 hL hlaid).evo ev
  rdom:=fun j k hj hL=>by
   have e1:gn listed j:=((gn.set hi).1 hL).resolve_left fun e=>I.disj _ _ _ hm (e▸hj)
   exact ev.ext.dom _ (I.rdom j k hj e1)
  rlt:=fun j k hj hL=>by
   have e1:gn listed j:=((gn.set hi).1 hL).resolve_left fun e=>I.disj _ _ _ hm (e▸hj)
   rw[ev.ext.ρ _ (I.rdom j k hj e1)];exact il (I.rlt j k hj e1) ev.keep.size
  disj:=I.disj
  runiq:=I.runiq
  kuniq:=I.kuniq
  apart:=fun j k j' k' hj hj' hL hL' hne=>by
   have e1:gn listed j:=((gn.set hi).1 hL).resolve_left fun e=>I.disj _ _ _ hm (e▸hj)
   have e2:gn listed j':=((gn.set hi).1 hL').resolve_left fun e=>I.disj _ _ _ hm (e▸hj')
   have h1:=I.apart j k j' k' hj hj' e1 e2 hne;rw[ev.ext.ρ _ (I.rdom j k hj e1),ev.ext.ρ _ (I.rdom j' k' hj' e2)];exact h1
  fresh:=fun k hk hf hd=>by
   have h1:=I.fresh k hk (fun j hj hL=>hf j hj ((gn.set hi).2 (.inr hL)));rcases ev.keep.dom _ hd with h2|h2
   ·exact h1 h2
   ·have:=I.nx;omega
  dead:=I.dead
  nx:=I.nx
  st:=st'
  sub:=I.sub_set S ho hdst hx
  old:=I.old_set ho hdst hdone _
  ext:=I.ext.trans ev.ext
  keep:=I.keep.trans ev.keep }⟩
def Mj (hX:jt P X) {ro:Option Nat} {Q:Exit ->Act ->World ->Prop}
 (S:sd ops A) (I:lE P CR X C N s ops A n HV c₀ h₀ w₀ done laid rsv ls pd τ h listed a w c τD) {i k:Nat} (hm:(i,k)∈rsv) (hlaid:eU laid i=false) {o:Oper} (ho:ops[i]? =some o) (hE:kT listed o) (hn:¬gn listed i):
 wpOpIn (fw ro) 0 P ops Q i (fun a' w'=>∃c' τD',lE P CR X C N s ops A n HV c₀ h₀ w₀ done laid rsv ls pd τ h (listed.setIfInBounds i true) a' w' c' τD') a w:=by
 have hi:i<listed.size:=by rw[I.down.sz];exact(jo.1 ho).1
 obtain⟨g,ob,x,hs,⟨_,hal⟩,hgd,hk,hdone,hfp,⟨ver,h1,hst1,hget⟩,hx,_⟩:=I.als i k hm;have hag:=I.agree S hs ho hE;obtain⟨o',ho',hok,hst⟩:=hs;rw[ho] at ho';cases ho';simp only[De,av] at hok;obtain⟨k1,k2,k3⟩:=hok;have hdst:=iq k2;have hog:o.guard=none:=by
  rw[hgd] at k3;cases hg:o.guard with
  |none=>rfl
  |some q=>rw[hg] at k3;cases k3
 have hw:Region.wanted o (yielded ops a.tmps)=true:=by simp[Region.wanted,hog]
 unfold wpOpIn;simp only[ho,hw,if_true];refine tg (xE k1) ?_;have hcx:Cx CR c h w (bp C τD) a.eval:=⟨I.st.rs,fun m y hm=>xj C I.st.tr I.st.gl I.st.rs.gl hm⟩;have hcong:∀H,step (bp C τ) H g.op=step (bp C τD) H g.op:=fun H=>jc (jS C hag)
 have hnd:¬c.dom (h₀.next+k):=I.fresh k hk fun j hj hL=>hn (I.kuniq i j k hm hj▸hL)
 have hdead:LF h (h₀.next+k):=I.dead k hk fun j hj=>I.kuniq i j k hm hj▸hlaid
 have hid:h₀.next+k<h.next:=by have:=I.nx;omega
 rcases LZ hX hcx hal k1 (o:=o) with ⟨obj,val,e1,e2,v,w',obx,nn,hr,⟨hpush,hpio⟩,F⟩|hbad
 ·rw[hcong,e1,AH.new_eq] at hst1;injection hst1 with hv1 hh1
  subst hv1;rw[←hh1] at hget;dsimp only at hget;rw[T.get_put,if_pos rfl] at hget;cases hget;rw[hr,Oper.uponIn_value,hdst.1];obtain⟨rs',br⟩:=RS.bring I.st.rs hnd hdead hid hpush nn hpio;obtain⟨hob,hvr⟩:=F (c.add (h₀.next+k) w.heap.size 0 nn) w' (h₀.next+k) ver br.ext (by simp) (by simp) (by simp) (by rw[hpush];simp);have hgarb:qS CR w₀.heap.size (c.add (h₀.next+k) w.heap.size 0 nn) h w' (h₀.next+k) (obj ver):=by
   refine⟨by simp,hob,e2 ver,by rw[br.ρ];exact I.keep.size,fun o₁ ob₁ hh he=> ?_,?_⟩
   ·have h3:=(br.has o₁ ob₁ hh).2;rw[br.ρ,br.ext.ρ o₁ h3.dom] at he;have:=(I.st.rs.obj o₁ ob₁ h3).lt h3.live;omega
   ·rw[br.ρ,br.im];cases hq:c.im w.heap.size with
    |none=>rfl
    |some row=>have:=I.st.rs.im_lt hq;omega
  refine⟨c.add (h₀.next+k) w.heap.size 0 nn,bM τD g.dst (val (h₀.next+k)),?_⟩;have hstn:∀{j k'},(j,k')∈rsv ->gn (listed.setIfInBounds i true) j ->(j=i/\ k'=k)∨(j≠i/\ gn listed j):=by
   intro j k' hj hL;by_cases e:j=i
   ·subst e;exact .inl ⟨rfl,I.runiq _ _ _ hj hm⟩
   ·exact .inr ⟨e,((gn.set hi).1 hL).resolve_left fun q=>e q.symm⟩
  have hbl:∀{j k'},(j,k')∈rsv ->gn listed j ->eU laid j=true∨eU laid j=false:=fun _ _=>by
   cases eU laid _<;>simp
  have hltb:∀{j k'},(j,k')∈rsv ->gn listed j ->(c.ρ (h₀.next+k')).1<w.heap.size:=fun {j k'} hj hL=>I.rlt j k' hj hL
  exact {
   down:=I.down.set ho hE
   din:=fun j hj=>by
    rcases(gn.set hi).1 hj with rfl|hj
    ·exact hdone
    ·exact I.din j hj
   cls:=fun j hj=>(I.cls j hj).imp (fun q=>(gn.set hi).2 (.inr q)) id
   laidL:=fun j hj=>(gn.set hi).2 (.inr (I.laidL j hj))
   lst:=I.lst
   als:=fun j k' hj=>by
    obtain⟨g',ob',x',q1,q2,q3,q4,q5,q6,q7,q8,q9⟩:=I.als j k' hj;refine⟨g',ob',x',q1,q2,q3,q4,q5,q6,q7,q8,fun hL hl'=> ?_⟩;rcases hstn hj hL with ⟨rfl,rfl⟩|⟨_,hL⟩
    ·rw[hfp] at q6;cases q6;exact hgarb
    ·exact(q9 hL hl').bring br
   rdom:=fun j k' hj hL=>by
    rcases hstn hj hL with ⟨rfl,rfl⟩|⟨_,hL⟩
    ·simp
    ·exact br.ext.dom _ (I.rdom j k' hj hL)
   rlt:=fun j k' hj hL=>by
    rcases hstn hj hL with ⟨rfl,rfl⟩|⟨_,hL⟩
    ·rw[br.ρ,hpush];simp
    ·rw[br.ext.ρ _ (I.rdom j k' hj hL)];exact il (I.rlt j k' hj hL) br.size
   disj:=I.disj
   runiq:=I.runiq
   kuniq:=I.kuniq
   apart:=fun j k' j' k'' hj hj' hL hL' hne=>by
    rcases hstn hj hL with ⟨rfl,rfl⟩|⟨f1,m1⟩<;>rcases hstn hj' hL' with ⟨rfl,rfl⟩|⟨f2,m2⟩
    ·exact absurd rfl hne
    ·rw[br.ρ,br.ext.ρ _ (I.rdom j' k'' hj' m2)];have:=I.rlt j' k'' hj' m2;omega
    ·rw[br.ρ,br.ext.ρ _ (I.rdom j k' hj m1)];have:=I.rlt j k' hj m1;omega
    ·rw[br.ext.ρ _ (I.rdom j k' hj m1),br.ext.ρ _ (I.rdom j' k'' hj' m2)];exact I.apart j k' j' k'' hj hj' m1 m2 hne
   fresh:=fun k' hk' hf hd=>by
    rcases br.dom _ hd with h2|h2
    ·exact I.fresh k' hk' (fun j hj hL=>hf j hj ((gn.set hi).2 (.inr hL))) h2
    ·have:k'=k:=by omega
     subst this;exact hf i hm ((gn.set hi).2 (.inl rfl))
   dead:=I.dead
   nx:=I.nx
   st:=⟨rs',xD I.st.gl br.ext,TR.put (I.st.tr.mono br.ext) (fun t ht=>il (hdst.2 t ht) I.st.sz) hvr,by cases g.dst<;>simp[Act.put]<;>exact I.st.sz,
    by cases g.dst<;>exact I.st.marks.bring br⟩
   sub:=I.sub_set S ho hdst.1 hx
   old:=I.old_set ho hdst.1 hdone _
   ext:=I.ext.trans br.ext
   keep:=I.keep.bring br (xa _ _) }
 ·rw[hcong,hbad] at hst1;cases hst1
def lE.adopt (I:lE P CR X C N s ops A n HV c₀ h₀ w₀ done laid rsv ls pd τ h listed a w c τD) {i k:Nat} (hm:(i,k)∈rsv) (hlaid:eU laid i=false) (hL:gn listed i) {id:Nat} {ob:aU} (hf:gB i pd=some (id,ob)):
 lE P CR X C N s ops A n HV c₀ h₀ w₀ done (jD laid i) rsv ls pd τ ⟨h.next,Nat.succ h.ver,h.objs.put id ob⟩ listed a w c τD:=by
 obtain⟨g,ob',x,q1,q2,q3,q4,q5,q6,q7,q8,q9⟩:=I.als i k hm;rw[hf] at q6;cases q6;have G:=q9 hL hlaid;have hid:h₀.next+k<h.next:=by have:=I.nx;omega
 obtain⟨rs',hh⟩:=RS.adopt I.st.rs G (Nat.succ h.ver) hid;have hsplit:∀{j},eU (jD laid i) j=false ->i≠j/\ eU laid j=false:=by
  intro j hj;rw[fT,Bh,decide_eq_false_iff_not] at hj;exact⟨hj.2,hj.1⟩
 exact {
  down:=I.down
  din:=I.din
  cls:=fun j hj=>by
   rcases I.cls j hj with h1|h1|⟨k',h1,h2⟩
   ·exact .inl h1
   ·exact .inr (.inl h1)
   ·by_cases e:i=j
    ·subst e;exact .inl hL
    ·exact .inr (.inr ⟨k',h1,by rw[fT,h2];simp[e]⟩)
  laidL:=fun j hj=>by
   rw[fT,g9,decide_eq_true_eq] at hj;rcases hj with hj|rfl
   ·exact I.laidL j hj
   ·exact hL
  lst:=I.lst
  als:=fun j k' hj=>by
   obtain⟨g',ob₂,x',p1,p2,p3,p4,p5,p6,p7,p8,p9⟩:=I.als j k' hj;refine⟨g',ob₂,x',p1,p2,p3,p4,p5,p6,p7,p8,fun hLj hl'=> ?_⟩;obtain⟨hne,hl'⟩:=hsplit hl';exact(p9 hLj hl').adopt (I.apart j k' i k hj hm hLj hL (Ne.symm hne)) hh
  rdom:=I.rdom
  rlt:=I.rlt
  disj:=I.disj
  runiq:=I.runiq
  kuniq:=I.kuniq
  apart:=I.apart
  fresh:=I.fresh
  dead:=fun k' hk' hf' ob₁ hg=>by
   by_cases e:k'=k
   ·subst e;have:=hf' i hm;rw[jv] at this;cases this
   ·rw[T.get_put,if_neg (show h₀.next+k'≠h₀.next+k by omega)] at hg;exact I.dead k' hk' (fun j hj=>(hsplit (hf' j hj)).2) ob₁ hg
  nx:=I.nx
  st:=⟨rs',I.st.gl,I.st.tr,I.st.sz,I.st.marks.adopt G hh⟩
  sub:=I.sub
  old:=I.old
  ext:=I.ext
  keep:=I.keep.adopt G _ (xa _ _) hh }
def gq (τ:T AV) (d:Option Nat) (x:AV) (t:Nat):(bM τ d x).get t=if d=some t then some x else τ.get t:=by
 cases d with
 |none=>simp[bM]
 |some d=>
  show(τ.put d x).get t=_;rw[T.get_put];by_cases e:t=d
  ·subst e;simp
  ·rw[if_neg e,if_neg (fun q=>e (Option.some.inj q).symm)]
def tv {i j:Nat} {g gj:MG} {o:Oper} (ho:ops[i]? =some o) (hd:o.dst=g.dst) (hn:eU done i=false) (hs:TB X N ops A done j gj) (x:AV):∀t∈pc gj,(bM τ g.dst x).get t=τ.get t:=by
 intro t ht;rw[gq,if_neg];intro e;obtain⟨_,_,_,h3⟩:=hs;have:=(h3 t ht i o ho (hd.trans e)).2;rw[hn] at this;cases this
def uF {i j:Nat} {g gj:MG} {o:Oper} (ho:ops[i]? =some o) (hd:o.dst=g.dst) (hn:eU done i=false) (hv:eU HV i=false) (hs:TC X N ops A HV done j gj) (x:AV):∀t∈pc gj,(bM τ g.dst x).get t=τ.get t:=by
 intro t ht;rw[gq,if_neg];intro e;obtain⟨_,_,_,h3⟩:=hs;rcases h3 t ht i o ho (hd.trans e) with h|h
 ·have:=h.2;rw[hn] at this;cases this
 ·have:=h.1;rw[hv] at this;cases this
def Di (S:sd ops A) {i j:Nat} {g gj:MG} {o:Oper} (ho:ops[i]? =some o) (hd:o.dst=g.dst) (hn:eU done i=false) (hs:TC X N ops A HV done j gj) (hj:eU done j=true) (x:AV):
 ∀d,gj.dst=some d ->(bM τ g.dst x).get d=τ.get d:=by
 intro d hdj;rw[gq,if_neg];intro e;obtain⟨o',h1,h2,_⟩:=hs;simp only[De,av] at h2;have hd':=(iq h2.2.1).1;have:=S.uniq i j o o' d ho h1 (hd.trans e) (hd'.trans hdj);subst this;rw[hn] at hj;cases hj
def BE (S:sd ops A) {i j:Nat} {g gj:MG} {o:Oper} (ho:ops[i]? =some o) (hd:o.dst=g.dst) (hn:eU done i=false) (hs:TB X N ops A done j gj) (hj:eU done j=true) (x:AV):
 ∀d,gj.dst=some d ->(bM τ g.dst x).get d=τ.get d:=by
 intro d hdj;rw[gq,if_neg];intro e;obtain⟨o',h1,h2,_⟩:=hs;simp only[De,av] at h2;have hd':=(iq h2.2.1).1;have:=S.uniq i j o o' d ho h1 (hd.trans e) (hd'.trans hdj);subst this;rw[hn] at hj;cases hj
def se (hC:CfgOK C) {τ:T AV} {h:AH} {mask:Nat} {k:Prop}:∀{ls:List (Nat×MG)},cj C τ h mask ls k ->
 (∀i g,(i,g)∈ls ->eU mask i=false ->∃x,bB C τ h g=some x/\∀d,g.dst=some d ->τ.get d=some x)/\ k
 |[],hk=>⟨fun i g h=>(by cases h),hk⟩
 |(i,g)::r,hk=>by
  have hk':(bif Nat.testBit mask i then cj C τ h mask r k else match bB C τ h g with
   |some x=>match g.dst with
    |none=>cj C τ h mask r k
    |some d=>match τ.get d with
     |some y=>bif cU 64 x y then cj C τ h mask r k else C.fail
     |none=>C.fail
   |none=>C.fail):=hk
  cases hb:Nat.testBit mask i with
  |true=>
   rw[hb] at hk';have ih:=se hC hk';refine⟨fun j gj hj hm=> ?_,ih.2⟩;rcases bY.1 hj with e|hj
   ·cases e;have hb':eU mask i=true:=hb;rw[hb'] at hm;cases hm
   ·exact ih.1 j gj hj hm
  |false=>
   rw[hb] at hk';simp only[cond_false] at hk';cases hv:bB C τ h g with
   |none=>rw[hv] at hk';dsimp only at hk';rw[hC.fail] at hk';exact hk'.elim
   |some x=>
    rw[hv] at hk';dsimp only at hk';have fin:(∀d,g.dst=some d ->τ.get d=some x) ->cj C τ h mask r k ->(∀i' g',(i',g')∈(i,g)::r ->eU mask i'=false ->∃x,bB C τ h g'=some x/\∀d,g'.dst=some d ->τ.get d=some x)/\ k:=by
     intro hx hk;have ih:=se hC hk;refine⟨fun j gj hj hm=> ?_,ih.2⟩;rcases bY.1 hj with e|hj
     ·cases e;exact⟨x,hv,hx⟩
     ·exact ih.1 j gj hj hm
    cases hd:g.dst with
    |none=>rw[hd] at hk';exact fin (fun d e=>by rw[hd] at e;cases e) hk'
    |some d=>
     rw[hd] at hk';dsimp only at hk';cases ht:τ.get d with
     |none=>rw[ht] at hk';dsimp only at hk';rw[hC.fail] at hk';exact hk'.elim
     |some y=>
      rw[ht] at hk';dsimp only at hk';cases he:cU 64 x y with
      |false=>rw[he,cond_false,hC.fail] at hk';exact hk'.elim
      |true=>
       rw[he,cond_true] at hk';have:=ju _ _ _ he;subst this;exact fin (fun d' e=>by rw[hd] at e;cases e;exact ht) hk'
def Mk (hX:jt P X) (hC:CfgOK C) {callK yldK:Nat ->List AV ->AH ->(AV ->AH ->Prop) ->Prop} (hcall:pH P CR C.glob callK) (hyld:vL P CR C.glob yldK) {ro:Option Nat} {Q:Exit ->Act ->World ->Prop} {K:T AV ->AH ->Prop}
 (S:sd ops A) (I:lE P CR X C N s ops A n HV c₀ h₀ w₀ done laid rsv ls pd τ h listed a w c τD) {i mask:Nat} {g:MG} {r:List DI} {fl:Bool} {last:Option Nat}
 (hck:kS X N ops A n HV (.heavy i g mask::r) fl done last laid rsv=true) (hrun:aC C callK yldK h₀.next K (.heavy i g mask::r) ls pd τ h) {o:Oper} (ho:ops[i]? =some o) (hE:kT listed o) (hn:¬gn listed i):
 wpOpIn (fw ro) 0 P ops Q i (fun a' w'=>∃τ' h' c' τD',lE P CR X C N s ops A n HV c₀ h₀ w₀ (jD done i) laid rsv ls pd τ' h' (listed.setIfInBounds i true) a' w' c' τD'/\ YL C τ' h' ls (listed.setIfInBounds i true)/\
  aC C callK yldK h₀.next K r ls pd τ' h') a w:=by
 have hi:i<listed.size:=by rw[I.down.sz];exact(jo.1 ho).1
 obtain⟨k1,k2,k3,k4,k5⟩:=ji hck;obtain⟨hs,hnd⟩:=tp k1;have hag:=I.agreeH S hs ho hE hn;obtain⟨o',ho',hok,hst⟩:=hs;rw[ho] at ho';cases ho';have hdst:o.dst=g.dst:=by
  simp only[De,av] at hok;exact(iq hok.2.1).1
 replace hrun:dg C callK yldK g τ h (fun x h=>dZ τ g.dst x fun τ=>cj C τ h mask ls (aC C callK yldK h₀.next K r ls pd τ h)):=hrun;rw[vM C hag] at hrun;refine th hX hC hcall hyld ho hok hrun I.st fun x h' c' w' a' hk ev st'=> ?_
 rw[dh] at hk;obtain⟨hre,hk⟩:=se hC hk;have hmono:∀j,eU done j=true ->eU (jD done i) j=true:=fun j hj=>jT hj
 have hset:∀{j},gn (listed.setIfInBounds i true) j ->eU done j=true ->gn listed j:=fun {j} hL hj=>((gn.set hi).1 hL).resolve_left fun e=>by
  subst e;rw[hnd] at hj;cases hj
 refine⟨bM τ g.dst x,h',c',bM τD g.dst x,?_,?_,hk⟩
 ·exact {
   down:=I.down.set ho hE
   din:=fun j hj=>by
    rcases(gn.set hi).1 hj with rfl|hj
    ·exact jv _ _
    ·exact jT (I.din j hj)
   cls:=fun j hj=>by
    rw[fT,g9,decide_eq_true_eq] at hj;rcases hj with hj|rfl
    ·exact(I.cls j hj).imp (fun q=>(gn.set hi).2 (.inr q)) id
    ·exact .inl ((gn.set hi).2 (.inl rfl))
   laidL:=fun j hj=>(gn.set hi).2 (.inr (I.laidL j hj))
   lst:=fun j gj hj=>⟨(I.lst j gj hj).1.mono hmono,(I.lst j gj hj).2.1,hmono j (I.lst j gj hj).2.2⟩
   als:=fun j k hj=>by
    obtain⟨g',ob,x',q1,q2,q3,q4,q5,q6,⟨ver,h1,q7,q7'⟩,q8,q9⟩:=I.als j k hj;refine⟨g',ob,x',q1.mono hmono,q2,q3,q4,hmono j q5,q6,⟨ver,h1,?_,q7'⟩,fun d hd=> ?_,fun hL hl'=>(q9 (hset hL q5) hl').evo ev⟩
    ·rw[←q7];exact jc (jS C (tv ho hdst hnd q1 x))
    ·rw[BE S ho hdst hnd q1 q5 x d hd];exact q8 d hd
   rdom:=fun j k hj hL=>by
    obtain⟨g',ob,x',q1,q2,q3,q4,q5,_⟩:=I.als j k hj;exact ev.ext.dom _ (I.rdom j k hj (hset hL q5))
   rlt:=fun j k hj hL=>by
    obtain⟨g',ob,x',q1,q2,q3,q4,q5,_⟩:=I.als j k hj;rw[ev.ext.ρ _ (I.rdom j k hj (hset hL q5))];exact il (I.rlt j k hj (hset hL q5)) ev.keep.size
   disj:=I.disj
   runiq:=I.runiq
   kuniq:=I.kuniq
   apart:=fun j k j' k' hj hj' hL hL' hne=>by
    obtain⟨_,_,_,_,_,_,_,q5,_⟩:=I.als j k hj;obtain⟨_,_,_,_,_,_,_,q5',_⟩:=I.als j' k' hj';rw[ev.ext.ρ _ (I.rdom j k hj (hset hL q5)),ev.ext.ρ _ (I.rdom j' k' hj' (hset hL' q5'))];exact I.apart j k j' k' hj hj' (hset hL q5) (hset hL' q5') hne
   fresh:=fun k hk hf hd=>by
    have h1:=I.fresh k hk (fun j hj hL=>hf j hj ((gn.set hi).2 (.inr hL)));rcases ev.keep.dom _ hd with h2|h2
    ·exact h1 h2
    ·have:=I.nx;omega
   dead:=fun k hk hf=>ev.keep.dead _ (by have:=I.nx;omega) (I.dead k hk hf)
   nx:=fq I.nx ev.keep.nxt
   st:=st'
   sub:=fun t ht=>by
    rw[gq,gq];by_cases e:g.dst=some t
    ·rw[if_pos e,if_pos e]
    ·rw[if_neg e,if_neg e];refine I.sub t fun j o' hj hd'=> ?_
     rcases(gn.set hi).1 (ht j o' hj hd') with rfl|h1
     ·rw[ho] at hj;cases hj;exact absurd (hdst.symm.trans hd') e
     ·exact h1
   old:=fun t ht=>by
    have e:g.dst≠some t:=fun e=>by
     have:=ht i o ho (hdst.trans e);rw[jv] at this;cases this
    rw[gq,gq,if_neg e,if_neg e];refine I.old t fun j o' hj hd'=> ?_
    have:=ht j o' hj hd';rw[fT,Bh] at this;exact this.1
   ext:=I.ext.trans ev.ext
   keep:=I.keep.trans ev.keep }
 ·intro j gj hj hL;refine hre j gj hj ?_;cases hb:eU mask j with
  |false=>rfl
  |true=>exact absurd ((gn.set hi).2 (.inr (gR S I.down i o ho hE j (zR k3 j hb)))) hL
def zT {i:Nat}:∀{l:List (Nat×Nat)},Md i l=true ->∃k,(i,k)∈l
 |[],h=>by cases h
 |(j,k)::r,h=>by
  have h':(Nat.beq j i||Md i r)=true:=h;rw[g9,az,decide_eq_true_eq] at h';rcases h' with rfl|h'
  ·exact⟨k,ij⟩
  ·obtain⟨k',h1⟩:=zT h';exact⟨k',gZ _ h1⟩
def uG {k:Nat}:∀{l:List (Nat×Nat)},Me k l=true ->∀i,(i,k)∉l
 |[],_,i,h=>by cases h
 |(j,k')::r,h,i,hm=>by
  have h':(!(Nat.beq k' k)&&Me k r)=true:=h;rw[av,az] at h';rcases bY.1 hm with e|hm
  ·cases e;simp at h'
  ·exact uG h'.2 i hm
def H6 (hC:CfgOK C) {callK yldK:Nat ->List AV ->AH ->(AV ->AH ->Prop) ->Prop} {K:T AV ->AH ->Prop} (S:sd ops A):∀(l:List DI) (done:Nat) (rsv:List (Nat×Nat)) (ls:List (Nat×MG)) (pd:List (Nat×Nat×aU)) (τ:T AV) (last:Option Nat),
 lE P CR X C N s ops A n HV c₀ h₀ w₀ done laid rsv ls pd τ h listed a w c τD ->YL C τ h ls listed ->kS X N ops A n HV l false done last laid rsv=true ->aC C callK yldK h₀.next K l ls pd τ h ->
 ∃l' done' rsv' ls' pd' τ',lE P CR X C N s ops A n HV c₀ h₀ w₀ done' laid rsv' ls' pd' τ' h listed a w c τD/\ YL C τ' h ls' listed/\ kS X N ops A n HV l' false done' last laid rsv'=true/\ xH false l'/\ aC C callK yldK h₀.next K l' ls' pd' τ' h:=by
 intro l;induction l with
 |nil=>intro done rsv ls pd τ last I L hck hrun;exact⟨[],done,rsv,ls,pd,τ,I,L,hck,.inr trivial,hrun⟩
 |cons d r ih=>
  intro done rsv ls pd τ last I L hck hrun;cases d with
  |lay i=>exact⟨_,done,rsv,ls,pd,τ,I,L,hck,.inr trivial,hrun⟩
  |heavy i g m=>exact⟨_,done,rsv,ls,pd,τ,I,L,hck,.inr trivial,hrun⟩
  |light i g=>
   obtain⟨_,k1,k2,k3,k4⟩:=mf hck;obtain⟨hs,hnd⟩:=tp k1;have hnl:¬gn listed i:=fun hL=>by have:=I.din i hL;rw[hnd] at this;cases this
   have hs':=hs;obtain⟨o,ho,hok,_⟩:=hs';have hdst:o.dst=g.dst:=by
    simp only[De,av] at hok;exact(iq hok.2.1).1
   replace hrun:(match bB C τ h g with
    |some x=>dZ τ g.dst x fun τ=>aC C callK yldK h₀.next K r ((i,g)::ls) pd τ h
    |none=>C.fail):=hrun
   cases hv:bB C τ h g with
   |none=>rw[hv] at hrun;dsimp only at hrun;rw[hC.fail] at hrun;exact hrun.elim
   |some x=>
    rw[hv] at hrun;dsimp only at hrun;rw[dh] at hrun;have hmono:∀j,eU done j=true ->eU (jD done i) j=true:=fun j hj=>jT hj
    refine ih (jD done i) rsv ((i,g)::ls) pd (bM τ g.dst x) last ?_ ?_ k4 hrun
    ·exact {
      down:=I.down
      din:=fun j hj=>jT (I.din j hj)
      cls:=fun j hj=>by
       rw[fT,g9,decide_eq_true_eq] at hj;rcases hj with hj|rfl
       ·rcases I.cls j hj with h1|⟨g',h1⟩|h1
        ·exact .inl h1
        ·exact .inr (.inl ⟨g',gZ _ h1⟩)
        ·exact .inr (.inr h1)
       ·exact .inr (.inl ⟨g,ij⟩)
      laidL:=I.laidL
      lst:=fun j gj hj=>by
       rcases bY.1 hj with e|hj
       ·cases e;exact⟨hs.mono hmono,k2,jv _ _⟩
       ·exact⟨(I.lst j gj hj).1.mono hmono,(I.lst j gj hj).2.1,hmono j (I.lst j gj hj).2.2⟩
      als:=fun j k hj=>by
       obtain⟨g',ob,x',q1,q2,q3,q4,q5,q6,⟨ver,h1,q7,q7'⟩,q8,q9⟩:=I.als j k hj;refine⟨g',ob,x',q1.mono hmono,q2,q3,q4,hmono j q5,q6,⟨ver,h1,?_,q7'⟩,fun d hd=> ?_,q9⟩
       ·rw[←q7];exact jc (jS C (tv ho hdst hnd q1 x))
       ·rw[BE S ho hdst hnd q1 q5 x d hd];exact q8 d hd
      rdom:=I.rdom
      rlt:=I.rlt
      disj:=fun j gj k hj hj'=>by
       rcases bY.1 hj with e|hj
       ·cases e;obtain⟨_,_,_,_,_,_,_,q5,_⟩:=I.als i k hj';rw[hnd] at q5;cases q5
       ·exact I.disj j gj k hj hj'
      runiq:=I.runiq
      kuniq:=I.kuniq
      apart:=I.apart
      fresh:=I.fresh
      dead:=I.dead
      nx:=I.nx
      st:=I.st
      sub:=fun t ht=>by
       rw[gq,if_neg,I.sub t ht];intro e;exact hnl (ht i o ho (hdst.trans e))
      old:=fun t ht=>by
       rw[gq,if_neg,I.old t]
       ·intro j o' hj hd';have:=ht j o' hj hd';rw[fT,Bh] at this;exact this.1
       ·intro e;have:=ht i o ho (hdst.trans e);rw[jv] at this;cases this
      ext:=I.ext
      keep:=I.keep }
    ·intro j gj hj hL;rcases bY.1 hj with e|hj
     ·cases e;exact⟨x,by rw[oB C (uF ho hdst hnd k2.1 hs x)];exact hv,fun d hd=>by rw[gq,if_pos hd]⟩
     ·obtain⟨y,hy,hy'⟩:=L j gj hj hL;obtain⟨q1,_,q3⟩:=I.lst j gj hj;exact⟨y,by rw[oB C (uF ho hdst hnd k2.1 q1 x)];exact hy,fun d hd=>by rw[Di S ho hdst hnd q1 q3 x d hd];exact hy' d hd⟩
  |resv i k g=>
   obtain⟨_,k1,k2,k3,k4,k5,k6,k7⟩:=nN hck;obtain⟨hs,hnd⟩:=Mf k1;have hnl:¬gn listed i:=fun hL=>by have:=I.din i hL;rw[hnd] at this;cases this
   have hs':=hs;obtain⟨o,ho,hok,_⟩:=hs';have hdst:o.dst=g.dst:=by
    simp only[De,av] at hok;exact(iq hok.2.1).1
   replace hrun:fN (h₀.next+k) (fun id=>match step (bp C τ) ⟨id,h.ver,.e⟩ g.op with
    | .v x h'=>match h'.objs.get id with
     |some ob=>dZ τ g.dst x fun τ=>aC C callK yldK h₀.next K r ls ((i,id,ob)::pd) τ h
     |none=>C.fail
    |_=>C.fail):=hrun
   rw[bR] at hrun;cases hv:step (bp C τ) ⟨h₀.next+k,h.ver,.e⟩ g.op with
   |v x h1=>
    rw[hv] at hrun;dsimp only at hrun;cases hg:h1.objs.get (h₀.next+k) with
    |none=>rw[hg] at hrun;dsimp only at hrun;rw[hC.fail] at hrun;exact hrun.elim
    |some ob=>
     rw[hg] at hrun;dsimp only at hrun;rw[dh] at hrun;have hmono:∀j,eU done j=true ->eU (jD done i) j=true:=fun j hj=>jT hj
     have hrn:∀j k',(j,k')∈rsv ->j≠i:=fun j k' hj e=>by
      subst e;obtain⟨_,_,_,_,_,_,_,q5,_⟩:=I.als j k' hj;rw[hnd] at q5;cases q5
     have hlaid:eU laid i=false:=by
      cases hb:eU laid i with
      |false=>rfl
      |true=>exact absurd (I.laidL i hb) hnl
     refine ih (jD done i) ((i,k)::rsv) ls ((i,h₀.next+k,ob)::pd) (bM τ g.dst x) last ?_ ?_ k7 hrun
     ·exact {
       down:=I.down
       din:=fun j hj=>jT (I.din j hj)
       cls:=fun j hj=>by
        rw[fT,g9,decide_eq_true_eq] at hj;rcases hj with hj|rfl
        ·rcases I.cls j hj with h1|h1|⟨k',h1,h2⟩
         ·exact .inl h1
         ·exact .inr (.inl h1)
         ·exact .inr (.inr ⟨k',gZ _ h1,h2⟩)
        ·exact .inr (.inr ⟨k,ij,hlaid⟩)
       laidL:=I.laidL
       lst:=fun j gj hj=>⟨(I.lst j gj hj).1.mono hmono,(I.lst j gj hj).2.1,hmono j (I.lst j gj hj).2.2⟩
       als:=fun j k' hj=>by
        rcases bY.1 hj with e|hj
        ·cases e;refine⟨g,ob,x,hs.mono hmono,k2,by simpa using k3,k5,jv _ _,?_,⟨h.ver,h1,?_,hg⟩,fun d hd=>by rw[gq,if_pos hd],fun hL=>absurd hL hnl⟩
         ·show(bif Nat.beq i i then some (h₀.next+k,ob) else gB i pd)=_;rw[az];simp
         ·rw[←hv];exact jc (jS C (tv ho hdst hnd hs x))
        ·obtain⟨g',ob',x',q1,q2,q3,q4,q5,q6,⟨ver,h2,q7,q7'⟩,q8,q9⟩:=I.als j k' hj;refine⟨g',ob',x',q1.mono hmono,q2,q3,q4,hmono j q5,?_,⟨ver,h2,?_,q7'⟩,fun d hd=> ?_,q9⟩
         ·show(bif Nat.beq i j then some (h₀.next+k,ob) else gB j pd)=_;rw[az,decide_eq_false (Ne.symm (hrn j k' hj))];exact q6
         ·rw[←q7];exact jc (jS C (tv ho hdst hnd q1 x))
         ·rw[BE S ho hdst hnd q1 q5 x d hd];exact q8 d hd
       rdom:=fun j k' hj hL=>by
        rcases bY.1 hj with e|hj
        ·cases e;exact absurd hL hnl
        ·exact I.rdom j k' hj hL
       rlt:=fun j k' hj hL=>by
        rcases bY.1 hj with e|hj
        ·cases e;exact absurd hL hnl
        ·exact I.rlt j k' hj hL
       disj:=fun j gj k' hj hj'=>by
        rcases bY.1 hj' with e|hj'
        ·cases e;have:=(I.lst i gj hj).2.2;rw[hnd] at this;cases this
        ·exact I.disj j gj k' hj hj'
       runiq:=fun j p q hp hq=>by
        rcases bY.1 hp with e|hp<;>rcases bY.1 hq with e'|hq
        ·cases e;cases e';rfl
        ·cases e;exact absurd rfl (hrn _ _ hq)
        ·cases e';exact absurd rfl (hrn _ _ hp)
        ·exact I.runiq j p q hp hq
       kuniq:=fun j j' p hp hq=>by
        rcases bY.1 hp with e|hp<;>rcases bY.1 hq with e'|hq
        ·cases e;cases e';rfl
        ·cases e;exact absurd hq (uG k6 j')
        ·cases e';exact absurd hp (uG k6 j)
        ·exact I.kuniq j j' p hp hq
       apart:=fun j p j' q hp hq hL hL' hne=>by
        rcases bY.1 hp with e|hp
        ·cases e;exact absurd hL hnl
        ·rcases bY.1 hq with e|hq
         ·cases e;exact absurd hL' hnl
         ·exact I.apart j p j' q hp hq hL hL' hne
       fresh:=fun k' hk' hf=>I.fresh k' hk' fun j hj=>hf j (gZ _ hj)
       dead:=fun k' hk' hf=>I.dead k' hk' fun j hj=>hf j (gZ _ hj)
       nx:=I.nx
       st:=I.st
       sub:=fun t ht=>by
        rw[gq,if_neg,I.sub t ht];intro e;exact hnl (ht i o ho (hdst.trans e))
       old:=fun t ht=>by
        rw[gq,if_neg,I.old t]
        ·intro j o' hj hd';have:=ht j o' hj hd';rw[fT,Bh] at this;exact this.1
        ·intro e;have:=ht i o ho (hdst.trans e);rw[jv] at this;cases this
       ext:=I.ext
       keep:=I.keep }
     ·intro j gj hj hL;obtain⟨y,hy,hy'⟩:=L j gj hj hL;obtain⟨q1,_,q3⟩:=I.lst j gj hj;exact⟨y,by rw[oB C (uF ho hdst hnd k2.1 q1 x)];exact hy,fun d hd=>by rw[Di S ho hdst hnd q1 q3 x d hd];exact hy' d hd⟩
   |_=>rw[hv] at hrun;dsimp only at hrun;rw[hC.fail] at hrun;exact hrun.elim
def H7 (listed:Array Bool):Nat ->Nat
 |0=>0
 |m+1=>H7 listed m+if listed.getD m false=true then 0 else 1
def Ml (listed:Array Bool):∀m,H7 listed m<=m
 |0=>bK _
 |m+1=>by
  have:=Ml listed m;unfold H7;split<;>omega
def H8 {listed:Array Bool} {i:Nat} (hi:i<listed.size) (hn:¬gn listed i):∀m,H7 (listed.setIfInBounds i true) m+(if i<m then 1 else 0)=H7 listed m
 |0=>rfl
 |m+1=>by
  have ih:=H8 hi hn m;unfold H7;have hm:=gn.set (j:=m) hi;unfold gn at hm hn;by_cases e:i=m
  ·subst e;rw[if_pos (hm.2 (.inl rfl)),if_neg hn];rw[if_neg (Nat.lt_irrefl _)] at ih;rw[if_pos (qZ _)];omega
  ·have h1:((listed.setIfInBounds i true).getD m false=true)↔(listed.getD m false=true):=by rw[hm];simp[e]
   have h2:(i<m+1)↔(i<m):=by omega
   simp only[h1,h2];omega
def H9 {listed:Array Bool} {i:Nat} (hn:¬gn listed i):∀m,i<m ->0<H7 listed m
 |0,h=>by omega
 |m+1,h=>by
  unfold H7;by_cases e:i=m
  ·subst e;unfold gn at hn;rw[if_neg hn];omega
  ·have:=H9 hn m ω;omega
def YM (hC:CfgOK C) {callK yldK:Nat ->List AV ->AH ->(AV ->AH ->Prop) ->Prop} {K:T AV ->AH ->Prop}:∀(l:List DI) (fl:Bool) (laid:Nat) (h:AH) (last:Option Nat),
 lE P CR X C N s ops A n HV c₀ h₀ w₀ done laid rsv ls pd τ h listed a w c τD ->kS X N ops A n HV l fl done last laid rsv=true ->xH fl l ->aC C callK yldK h₀.next K l ls pd τ h ->
 (∀i k,(i,k)∈rsv ->(fh l=none∨∃H,fh l=some H/\ eU (A.getD H 0) i=true) ->gn listed i) ->
 ∃l' fl' laid' h',fh l'=fh l/\ lE P CR X C N s ops A n HV c₀ h₀ w₀ done laid' rsv ls pd τ h' listed a w c τD/\ kS X N ops A n HV l' fl' done last laid' rsv=true/\ aC C callK yldK h₀.next K l' ls pd τ h'/\
  (l'=[]∨∃i g m r,l'= .heavy i g m::r):=by
 intro l;induction l with
 |nil=>intro fl laid h last I hck _ hrun _;exact⟨[],fl,laid,h,rfl,I,hck,hrun,.inl rfl⟩
 |cons d r ih=>
  intro fl laid h last I hck hh hrun HL;cases d with
  |light i g=>
   rcases hh with hh|hh
   ·rw[(mf hck).1] at hh;cases hh
   ·exact hh.elim
  |resv i k g=>
   rcases hh with hh|hh
   ·rw[(nN hck).1] at hh;cases hh
   ·exact hh.elim
  |heavy i g m=>exact⟨_,fl,laid,h,rfl,I,hck,hrun,.inr ⟨i,g,m,r,rfl⟩⟩
  |lay i=>
   obtain⟨k1,k2,k3⟩:=pI hck;obtain⟨k,hm⟩:=zT k1;replace hrun:(match gB i pd with
    |some (id,ob)=>h.put id ob fun h=>aC C callK yldK h₀.next K r ls pd τ h
    |none=>C.fail):=hrun
   cases hf:gB i pd with
   |none=>rw[hf] at hrun;dsimp only at hrun;rw[hC.fail] at hrun;exact hrun.elim
   |some q=>
    obtain⟨id,ob⟩:=q;rw[hf] at hrun;dsimp only at hrun;rw[AH.put_eq] at hrun;have hfh:fh (.lay i::r)=fh r:=rfl;have hLi:gn listed i:=by
     refine HL i k hm ?_;rw[hfh];cases hr:fh r with
     |none=>exact .inl rfl
     |some H=>exact .inr ⟨H,rfl,(BD r _ _ _ _ _ H k3 hr).2 i (jv _ _)⟩
    obtain⟨l',fl',laid',h',e1,e2⟩:=ih true (jD laid i) _ last (I.adopt hm k2 hLi hf) k3 (.inl rfl) hrun (by rw[hfh] at HL;exact HL);exact⟨l',fl',laid',h',by rw[e1,hfh],e2⟩
def JK (hX:jt P X) (hC:CfgOK C) {callK yldK:Nat ->List AV ->AH ->(AV ->AH ->Prop) ->Prop} (hcall:pH P CR C.glob callK) (hyld:vL P CR C.glob yldK) {ro:Option Nat} {Q:Exit ->Act ->World ->Prop} {K:T AV ->AH ->Prop}
 (S:sd ops A) (hQ:∀c' h' w' τ' a',K τ' h' ->gC CR c₀ h₀ w₀ c' h' w' ->St P CR C.glob N s c' h' w' τ' a' ->Q .normal a' w'):∀(fuel:Nat) (listed:Array Bool) (a:Act) (w:World) (c:CE) (τD τ:T AV) (h:AH)
  (l:List DI) (done laid:Nat) (rsv:List (Nat×Nat)) (ls:List (Nat×MG)) (pd:List (Nat×Nat×aU)) (last:Option Nat),
  lE P CR X C N s ops A n HV c₀ h₀ w₀ done laid rsv ls pd τ h listed a w c τD ->YL C τ h ls listed ->kS X N ops A n HV l false done last laid rsv=true ->xH false l ->aC C callK yldK h₀.next K l ls pd τ h ->
  H7 listed ops.size<=fuel ->wpAnyIn (fw ro) 0 P .any ops Q fuel listed a w:=by
 have fin:∀(listed:Array Bool) (a:Act) (w:World) (c:CE) (τD τ:T AV) (h:AH) (l:List DI) (done laid:Nat) (rsv:List (Nat×Nat)) (ls:List (Nat×MG)) (pd:List (Nat×Nat×aU)) (last:Option Nat),
  lE P CR X C N s ops A n HV c₀ h₀ w₀ done laid rsv ls pd τ h listed a w c τD ->kS X N ops A n HV l false done last laid rsv=true ->xH false l ->aC C callK yldK h₀.next K l ls pd τ h ->
  (∀i,i<ops.size ->gn listed i) ->Q .normal a w:=by
  intro listed a w c τD τ h l done laid rsv ls pd last I hck hh hrun hall;have hallL:∀i k,(i,k)∈rsv ->gn listed i:=fun i k hm=>by
   obtain⟨g,ob,x,⟨o,ho,_⟩,_⟩:=I.als i k hm;exact hall i (jo.1 ho).1
  obtain⟨l',fl',laid',h',e1,I',hck',hrun',hl'⟩:=YM hC l false laid h last I hck hh hrun fun i k hm _=>hallL i k hm
  rcases hl' with rfl|⟨i,g,m,r,rfl⟩
  ·refine hQ c h' w τ a hrun' ⟨I'.ext,I'.st.rs,I'.keep⟩ ⟨I'.st.rs,I'.st.gl,fun t x hx=>I'.st.tr t x ?_,I'.st.sz,I'.st.marks⟩;rw[I'.sub t fun j o hj _=>hall j (jo.1 hj).1];exact hx
  ·obtain⟨hs,hnd⟩:=tp (ji hck').1;obtain⟨o,ho,_⟩:=hs;have:=I'.din i (hall i (jo.1 ho).1);rw[hnd] at this;cases this
 intro fuel;induction fuel with
 |zero=>
  intro listed a w c τD τ h l done laid rsv ls pd last I L hck hh hrun hcnt;have hall:∀i,i<ops.size ->gn listed i:=fun i hi=>Classical.byContradiction fun hn=>by
   have:=H9 hn ops.size hi;omega
  refine⟨?_,fin _ _ _ _ _ _ _ _ _ _ _ _ _ _ I hck hh hrun hall⟩;cases hr:Region.ready .any ops listed with
  |nil=>rfl
  |cons i t=>
   have hm:i∈Region.ready .any ops listed:=by rw[hr];exact ij
   obtain⟨h1,o,ho,_⟩:=zS hm;exact absurd (hall i (jo.1 ho).1) h1
 |succ fuel ih=>
  intro listed a w c τD τ h l done laid rsv ls pd last I L hck hh hrun hcnt;refine⟨fun hr=>fin _ _ _ _ _ _ _ _ _ _ _ _ _ _ I hck hh hrun (FN S I.down hr),fun i hm=> ?_⟩;obtain⟨hn,o,ho,hE⟩:=zS hm;have hiops:i<ops.size:=(jo.1 ho).1;have hi:i<listed.size:=by rw[I.down.sz];exact hiops
  have hcnt':H7 (listed.setIfInBounds i true) ops.size<=fuel:=by
   have:=H8 hi hn ops.size;rw[if_pos hiops] at this;omega
  by_cases hd:eU done i=true
  ·rcases I.cls i hd with h1|⟨g,h1⟩|⟨k,h1,h2⟩
   ·exact absurd h1 hn
   ·refine wpOpIn_mono ?_ (Mi hX hC hcall hyld S I L h1 ho hE hn);rintro a' w' ⟨c',τD',I'⟩;exact ih _ _ _ _ _ _ _ _ _ _ _ _ _ _ I' (fun j gj hj hL=>L j gj hj fun q=>hL ((gn.set hi).2 (.inr q))) hck hh hrun hcnt'
   ·refine wpOpIn_mono ?_ (Mj hX S I h1 h2 ho hE hn);rintro a' w' ⟨c',τD',I'⟩;exact ih _ _ _ _ _ _ _ _ _ _ _ _ _ _ I' (fun j gj hj hL=>L j gj hj fun q=>hL ((gn.set hi).2 (.inr q))) hck hh hrun hcnt'
  ·have hocc:i∈TA l:=(tq l _ _ _ _ _ hck i hiops).resolve_left hd;obtain⟨H,hf,hH⟩:=Mh S I.down l _ _ _ _ _ hck hh i hocc o ho hE;have hiH:i=H:=by
    rcases hH with rfl|hH
    ·rfl
    ·have h1:=I.din H hH;rw[(BD l _ _ _ _ _ H hck hf).1] at h1;cases h1
   subst hiH;obtain⟨l',fl',laid',h',e1,I',hck',hrun',hl'⟩:=YM hC l false laid h last I hck hh hrun fun j k _ q=>by
    rcases q with q|⟨H,q,q'⟩
    ·rw[hf] at q;cases q
    ·rw[hf] at q;cases q;exact gR S I.down i o ho hE j q'
   rcases hl' with rfl|⟨j,g,m,r,rfl⟩
   ·rw[hf] at e1;cases e1
   ·rw[hf] at e1;have hji:j=i:=Option.some.inj e1;subst hji;refine wpOpIn_mono ?_ (Mk hX hC hcall hyld S I' hck' hrun' ho hE hn);rintro a' w' ⟨τ',h'',c',τD',I'',L'',hrun''⟩;obtain⟨l₂,done₂,rsv₂,ls₂,pd₂,τ₂,J,JL,Jck,Jh,Jrun⟩:=H6 hC S r _ rsv ls pd τ' _ I'' L'' (ji hck').2.2.2.2 hrun'';exact ih _ _ _ _ _ _ _ _ _ _ _ _ _ _ J JL Jck Jh Jrun hcnt'
def FO (hX:jt P X) (hC:CfgOK C) {callK yldK:Nat ->List AV ->AH ->(AV ->AH ->Prop) ->Prop} (hcall:pH P CR C.glob callK) (hyld:vL P CR C.glob yldK) {ro:Option Nat} {Q:Exit ->Act ->World ->Prop} {K:T AV ->AH ->Prop}
 (hP:P.follows .mixedOrders=true) {id:Nat} {l:List DI} (hk:FM X N ops n l=true) (hr:aC C callK yldK h.next K l [] [] τ ⟨h.next+n,h.ver,h.objs⟩) (st:St P CR C.glob N s c h w τ a)
 (hQ:∀c' h' w' τ' a',K τ' h' ->gC CR c h w c' h' w' ->St P CR C.glob N s c' h' w' τ' a' ->Q .normal a' w'):(Code.region id ops true).wpIn (fw ro) 0 P Q a w:=by
 unfold FM at hk;simp only[av] at hk;obtain⟨k1,k2,k3⟩:=hk;have S:=Rt k1 k2;refine wpIn_region_any hP ?_;have rs1:RS CR c h { w with drawn:=w.drawn+1 }:=st.rs.heap rfl
 have rs2:RS CR c ⟨h.next+n,h.ver,h.objs⟩ { w with drawn:=w.drawn+1 }:=
  ⟨fun o ho=>il (rs1.nx o ho) (xa _ _),fun o ob ho=>il (rs1.lt o ob ho) (xa _ _),fun o ob ho=>rs1.obj o ob ⟨ho.get,ho.live,ho.dom⟩,
   fun o o' x y hx hy=>rs1.inj o o' x y ⟨hx.get,hx.live,hx.dom⟩ ⟨hy.get,hy.live,hy.dom⟩,rs1.im,fun o ob ho=>rs1.dj o ob ⟨ho.get,ho.live,ho.dom⟩,rs1.gl⟩
 have kp:nJ c h { w with drawn:=w.drawn+1 } c ⟨h.next+n,h.ver,h.objs⟩ { w with drawn:=w.drawn+1 }:=
  ⟨bK _,fun _ _ _=>rfl,fun o ob ho=> .inr ⟨o,ob,⟨ho.get,ho.live,ho.dom⟩,rfl⟩,fun _ h=> .inl h,xa _ _,fun _ _ h=> .inl h,fun _ _ h=>h,⟨rfl,rfl⟩⟩
 have ev0:gC CR c h w c h { w with drawn:=w.drawn+1 }:=gC.heap st.rs rfl
 have hno:∀i,¬gn (Array.replicate ops.size false) i:=fun i hL=>by
  unfold gn at hL;by_cases hi:i<ops.size
  ·simp[Array.getD,hi] at hL
  ·simp[Array.getD,hi] at hL
 have hz:∀i,eU 0 i=false:=fun i=>Nat.zero_testBit i
 have I:lE P CR X C N s ops (Ma ops.toList) n (hvM l) c h { w with drawn:=w.drawn+1 } 0 0 [] [] [] τ ⟨h.next+n,h.ver,h.objs⟩ (Array.replicate ops.size false) a { w with drawn:=w.drawn+1 } c τ:={
  down:=⟨by simp,fun i o _ hL=>absurd hL (hno i)⟩
  din:=fun i hL=>absurd hL (hno i)
  cls:=fun i hb=>by rw[hz] at hb;cases hb
  laidL:=fun i hb=>by rw[hz] at hb;cases hb
  lst:=fun i g hm=>by cases hm
  als:=fun i k hm=>by cases hm
  rdom:=fun i k hm=>by cases hm
  rlt:=fun i k hm=>by cases hm
  disj:=fun i g k hm=>by cases hm
  runiq:=fun i k k' hm=>by cases hm
  kuniq:=fun i i' k hm=>by cases hm
  apart:=fun i k i' k' hm=>by cases hm
  fresh:=fun k _ _ hd=>by have:=st.rs.nx _ hd;omega
  dead:=fun k _ _ ob hg=>by
   have:h.objs.get (h.next+k)=some ob:=hg;have:=st.rs.lt _ _ this;omega
  nx:=bK _
  st:=⟨rs2,st.gl,st.tr,st.sz,⟨fun d hd=>by
   rcases st.marks.all d hd with ⟨r,q1,q2,q3,q4,q5⟩|q
   ·exact .inl ⟨r,q1,q2,q3,q4,fun o ob ho=>q5 o ob ⟨ho.get,ho.live,ho.dom⟩⟩
   ·exact .inr q,st.marks.apart⟩⟩
  sub:=fun t _=>rfl
  old:=fun t _=>rfl
  ext:=qj.refl c
  keep:=kp }
 obtain⟨l₂,done₂,rsv₂,ls₂,pd₂,τ₂,J,JL,Jck,Jh,Jrun⟩:=H6 hC S l 0 [] [] [] τ none I (fun i g hm=>by cases hm) k3 hr;exact JK hX hC hcall hyld S (fun c' h' w' τ' a' q1 q2 q3=>hQ c' h' w' τ' a' q1 (ev0.trans q2) q3) ops.size _ _ _ _ _ _ _ _ _ _ _ _ _ _ J JL Jck Jh Jrun (Ml _ _)
end
def Mm (X:dy) (r:ResultVar) (e:Nat×Option (Nat×Bool)):Bool:=match r with
 | .tmp t=>(match e.2 with|none=>Nat.beq t e.1|some _=>false)
 | .cell t ty=>(match e.2 with
  |some q=>Nat.beq t e.1&&(match X.ty.get ty with|some i=>Nat.beq q.1 i.size&&(q.2==i.kd.isRow)|none=>false)
  |none=>false)
def Dj (X:dy) (l:List (Nat×Option (Nat×Bool))):List ResultVar ->Bool:=
 List.rec (motive:=fun _=>List ResultVar ->Bool) (fun v=>List.isEmpty v) (fun e _ ih v=>match v with
  |[]=>false
  |r::rs=>Mm X r e&&ih rs) l
section
variable {P:Program} {CR:Nat ->Code ->ap ->Prop} {X:dy}
variable {c:CE} {h:AH} {w:World}
def lQ (tmps:Array Value):ResultVar ->Sem Value
 | .tmp t=>pure (tmps.getD t undef)
 | .cell a t=>do loadVar t (←asAddr (tmps.getD a undef))
def rB {α β:Type} {f:α ->Sem β}:∀{l:List α} {vs:List β},l.length=vs.length ->(∀(i:Nat) x v,l[i]? =some x ->vs[i]? =some v ->(f x).run P w= .ok v w) ->(l.mapM f).run P w= .ok vs w
 |[],[],_,_=>by simp[List.mapM_nil]
 |[],_::_,h,_=>by cases h
 |_::_,[],h,_=>by cases h
 |a::t,v::r,h,H=>by
  rw[List.mapM_cons,Sem.run_bind,H 0 a v rfl rfl];simp only[bQ];rw[Sem.run_bind,rB (by simpa using h) (fun i x y hx hy=>H (i+1) x y hx hy)];simp
def Dk {fn:Func} {tmps:Array Value} {vs:List Value} (hl:fn.results.toList.length=vs.length)
 (H:∀(i:Nat) r v,fn.results.toList[i]? =some r ->vs[i]? =some v ->(lQ tmps r).run P w= .ok v w):
 (results fn tmps).run P w= .ok (if h:vs.toArray.size=1 then vs.toArray[0] else .tuple vs.toArray) w:=by
 have e:results fn tmps=(do
  let vs←fn.results.mapM (lQ tmps)
  pure (if h:vs.size=1 then vs[0] else .tuple vs)):=by
  unfold results;congr 1
 rw[e,Sem.run_bind,Array.mapM_eq_mapM_toList,Sem.run_map,rB hl H];rfl
def Mn (hX:jt P X) (rs:RS CR c h w) {ty:TypeId} {i:TI} (hi:X.ty.get ty=some i) {x:AV} {v:Value} (hv:VR c x v) {n:Nat} {cs:List AV} {y:AV} {agg:Bool}
 (hx:(∃o off l,x= .p o off/\ h.cells o=some l/\ sub l off n=some cs)∨(∃l off,x= .dp l off/\ sub l off n=some cs)) (hy:iQ agg cs=some y) (hn:n=i.size) (hg:agg=i.kd.isRow):
 ∃u,(do loadVar ty (←asAddr v):Sem Value).run P w= .ok u w/\ VR c y u:=by
 have hty:=hX.ty ty i hi;obtain⟨b,k,vs,e1,e2,e3,e4⟩:=zG rs hv (hx.imp (fun ⟨o,off,l,a,b,d⟩=>⟨o,off,l,a,nf b,d⟩) id);obtain⟨inf,zv,i1,i2,i3,i4,i5⟩:=hty.info;subst e1;rcases xk hy with ⟨g,rfl⟩|⟨g,rfl⟩
 ·refine⟨.agg vs.toArray,?_,.ag _ _ e2⟩;simp only[asAddr,pure_bind];exact run_loadVar_mid w b k ty vs i.kd e4 hty.und (by rw[←hg];exact g) (by rw[i1];simp;omega)
 ·cases e2 with
  |cons _ _ u us hu hus=>
   cases hus;refine⟨u,?_,hu⟩;have hc:w.cell? ⟨b,k,none⟩=some u:=e4 0 u rfl;have hagg:(isAgg ty).run P w= .ok false w:=by
    unfold isAgg;rw[Sem.run_bind,run_underlying hty.und w];have:i.kd.isRow=false:=by rw[←hg];exact g
    cases hk:i.kd<;>rw[hk] at this<;>first|rfl|cases this
   simp[asAddr,loadVar,hagg,hc]
def xI {α β:Type} (f:α ->Option β) (a:α) (t:List α):fC f (a::t)=match f a with|none=>none|some b=>match fC f t with|none=>none|some t'=>some (b::t'):=by
 show(Option.rec none (fun b=>Option.rec none (fun t=>some (b::t)) (fC f t)) (f a):Option (List β))=_;cases f a with
 |none=>rfl
 |some b=>cases fC f t<;>rfl
def Dl {α β:Type} {f:α ->Option β}:∀{l:List α} {r:List β},fC f l=some r ->r.length=l.length/\∀(i:Nat) x,l[i]? =some x ->∃y,r[i]? =some y/\ f x=some y
 |[],r,h=>by cases h;exact⟨rfl,fun i x hx=>by simp at hx⟩
 |a::t,r,h=>by
  rw[xI] at h;cases h2:f a with
  |none=>rw[h2] at h;cases h
  |some b=>
   rw[h2] at h;dsimp only at h;cases h1:fC f t with
   |none=>rw[h1] at h;cases h
   |some t'=>
    rw[h1] at h;cases h;have ih:=Dl h1;refine⟨by simp[ih.1],fun i x hx=> ?_⟩;cases i with
    |zero=>simp at hx;subst hx;exact⟨b,rfl,h2⟩
    |succ i=>simp at hx;simpa using ih.2 i x hx
def JM {l:List (Nat×Option (Nat×Bool))}:∀{rs:List ResultVar},Dj X l rs=true ->rs.length=l.length/\∀(i:Nat) r e,rs[i]? =some r ->l[i]? =some e ->Mm X r e=true:=by
 induction l with
 |nil=>
  intro rs h;cases rs with
  |nil=>exact⟨rfl,fun i r e h=>by simp at h⟩
  |cons r rs=>cases h
 |cons e l ih=>
  intro rs h;cases rs with
  |nil=>cases h
  |cons r rs=>
   have h':(Mm X r e&&Dj X l rs)=true:=h;simp only[av] at h';have k:=ih h'.2;refine⟨by simp[k.1],fun i r' e' hr he=> ?_⟩;cases i with
   |zero=>simp at hr he;subst hr he;exact h'.1
   |succ i=>simp at hr he;exact k.2 i r' e' hr he
def FP (hX:jt P X) (rs:RS CR c h w) {fn:Func} {tmps:Array Value} {τ:T AV} (tr:TR c τ tmps) {l:List (Nat×Option (Nat×Bool))} (hk:Dj X l fn.results.toList=true) {x:AV}
 (hx:aP τ h l=some x):∃v,(results fn tmps).run P w= .ok v w/\ VR c x v:=by
 obtain⟨k1,k2⟩:=JM hk;unfold aP at hx;cases hl:aH9 τ h l with
 |none=>rw[hl] at hx;cases hx
 |some xs=>
  have h1:=Dl hl;have key:∀(i:Nat) r,fn.results.toList[i]? =some r ->∃y u,xs[i]? =some y/\ (lQ tmps r).run P w= .ok u w/\ VR c y u:=by
   intro i r hr;have hi:i<l.length:=by rw[←k1];exact(cW.1 hr).1
   obtain⟨e,he⟩:∃e,l[i]? =some e:=⟨l[i],ba hi⟩;have hq:=k2 i r e hr he;obtain⟨y,hy,hf⟩:=h1.2 i e he;obtain⟨t,oo⟩:=e;cases r with
   |tmp t'=>
    cases oo with
    |none=>
     simp only[Mm,az,decide_eq_true_eq] at hq;subst hq;obtain⟨v',e1,e2⟩:=tr _ _ hf;exact⟨y,v',hy,by simp[lQ,e1],e2⟩
    |some q=>cases hq
   |cell t' ty=>
    cases oo with
    |none=>cases hq
    |some q=>
     obtain⟨n,agg⟩:=q;simp only[Mm,av,az,decide_eq_true_eq] at hq;obtain⟨rfl,hq⟩:=hq;cases hi:X.ty.get ty with
     |none=>rw[hi] at hq;cases hq
     |some ti=>
      rw[hi] at hq;simp only[av,az,decide_eq_true_eq,beq_iff_eq] at hq;dsimp only at hf;cases ht:τ.get t' with
      |none=>rw[ht] at hf;cases hf
      |some p=>
       obtain⟨v',e1,e2⟩:=tr _ _ ht;rw[ht] at hf;cases p<;>first|cases hf|skip
       rename_i o off;dsimp only at hf;cases hc:h.cells o with
       |none=>rw[hc] at hf;cases hf
       |some cs=>
        rw[hc] at hf;dsimp only at hf;cases hs:sub cs off n with
        |none=>rw[hs] at hf;cases hf
        |some cl=>
         rw[hs] at hf;obtain⟨u,q1,q2⟩:=Mn hX rs hi e2 (.inl ⟨o,off,cs,rfl,hc,hs⟩) hf hq.1 hq.2;exact⟨y,u,hy,by simpa[lQ,e1] using q1,q2⟩
  have hxs:xs.length=fn.results.toList.length:=by rw[h1.1,k1]
  have:∃vs:List Value,vs.length=xs.length/\ ed c xs vs/\∀(i:Nat) r v,fn.results.toList[i]? =some r ->vs[i]? =some v ->(lQ tmps r).run P w= .ok v w:=by
   clear hl h1 hx k1 k2 hk;generalize fn.results.toList=rl at key hxs
   revert rl
   induction xs with
   |nil=>
    intro rl key _;exact⟨[],rfl,.nil,fun i r v _ hv=>by simp at hv⟩
   |cons y ys ih=>
    intro rl key hlen;cases rl with
    |nil=>cases hlen
    |cons r rl=>
     obtain⟨y',u,e1,e2,e3⟩:=key 0 r rfl;simp at e1;subst e1;obtain⟨vs,h1,h2,h3⟩:=ih rl (fun i r' hr=>by simpa using key (i+1) r' (by simpa using hr)) (by simpa using hlen);refine⟨u::vs,by simp[h1],.cons _ _ _ _ e3 h2,fun i r' v hr hv=> ?_⟩;cases i with
     |zero=>simp at hr hv;subst hr hv;exact e2
     |succ i=>simp at hr hv;exact h3 i r' v hr hv
  obtain⟨vs,h3,h4,h5⟩:=this;rw[hl] at hx;refine⟨_,Dk ω h5,?_⟩;cases xs with
  |nil=>cases h4;cases hx;exact .tu [] [] .nil
  |cons y ys=>
   cases h4 with
   |cons _ _ v vs' q1 q2=>
    cases ys with
    |nil=>cases q2;cases hx;exact q1
    |cons y' ys'=>cases q2 with|cons _ _ v' vs'' q3 q4=>cases hx;exact .tu _ _ (.cons _ _ _ _ q1 (.cons _ _ _ _ q3 q4))
end
def pe:List AV ->Nat ->T AV ->T AV
 |[],_,τ=>τ
 |a::t,n,τ=>pe t (n+1) (τ.put n a)
def jU {R:Type}:∀(l:List AV) (n:Nat) (τ:T AV) (k:T AV ->R),Bp l n τ k=k (pe l n τ)
 |[],_,_,_=>rfl
 |a::t,n,τ,k=>by
  show τ.setK n a (fun τ=>fN n fun n=>Bp t (Nat.succ n) τ k)=_;rw[T.setK_put,bR,jU];rfl
def zU:∀(l:List AV) (n:Nat) (τ:T AV) (i:Nat),(pe l n τ).get i=if n<=i/\ i<n+l.length then l[i-n]? else τ.get i
 |[],n,τ,i=>by simp[pe];omega
 |a::t,n,τ,i=>by
  rw[pe,zU,T.get_put];simp only[fM];by_cases h:i=n
  ·subst h;rw[if_neg ω,if_pos rfl,if_pos ω];simp
  ·by_cases h1:n+1<=i/\ i<n+1+t.length
   ·rw[if_pos h1,if_pos ω];have:i-n=(i-(n+1))+1:=by omega
    rw[this];simp
   ·rw[if_neg h1,if_neg h,if_neg ω]
def Rv:List Nat ->List AV ->T AV ->T AV
 |p::ps,a::a_,τ=>Rv ps a_ (τ.put p a)
 |_,_,τ=>τ
def tw {C:cQ Prop} (hC:CfgOK C):∀(ps:List Nat) (a_:List AV) (τ:T AV) (k:T AV ->Prop),eh C ps a_ τ k ->ps.length=a_.length/\ k (Rv ps a_ τ)
 |[],[],_,_,h=>⟨rfl,h⟩
 |[],a::a_,τ,k,h=>by
  have:C.fail:=h;rw[hC.fail] at this;exact this.elim
 |p::ps,[],τ,k,h=>by
  have:C.fail:=h;rw[hC.fail] at this;exact this.elim
 |p::ps,a::a_,τ,k,h=>by
  replace h:τ.setK p a (fun τ=>eh C ps a_ τ k):=h;rw[T.setK_put] at h;have:=tw hC ps a_ _ k h;exact⟨by simp[this.1],this.2⟩
def Ia {c:CE}:∀(ps:List Nat) (a_:List AV) (vs:List Value) (τ:T AV) (tmps:Array Value),ed c a_ vs ->TR c τ tmps ->(∀p∈ps,p<tmps.size) ->ps.length=a_.length ->
 TR c (Rv ps a_ τ) ((ps.zip vs).foldl (fun tmps q=>tmps.setIfInBounds q.1 q.2) tmps)/\ ((ps.zip vs).foldl (fun tmps q=>tmps.setIfInBounds q.1 q.2) tmps).size=tmps.size
 |[],[],vs,τ,tmps,_,ht,_,_=>⟨ht,rfl⟩
 |[],_::_,_,_,_,_,_,_,h=>by cases h
 |_::_,[],_,_,_,_,_,_,h=>by cases h
 |p::ps,a::a_,vs,τ,tmps,hv,ht,hp,hl=>by
  cases hv with
  |cons _ _ v vs' h1 h2=>
   have hpt:p<tmps.size:=hp p ij;have key:=Ia ps a_ vs' (τ.put p a) (tmps.setIfInBounds p v) h2
    (TR.put (a:={ tmps:=tmps,defers:=[] }) (d:=some p) ht (fun t e=>by cases e;exact hpt) h1)
    (fun q hq=>by simp;exact hp q (gZ _ hq)) (by simpa using hl)
   exact⟨key.1,by simpa using key.2⟩
section
variable {CR:Nat ->Code ->ap ->Prop}
def RS.unown {c:CE} {h:AH} {w w':World} (r:RS CR c h w) {q:Nat} (hw:∀b,b≠q ->w'.heap[b]? =w.heap[b]?) (hq:∀o obj,jB c h o obj ->(c.ρ o).1≠q) (him:c.im q=none):RS CR c h w':=
 ⟨r.nx,r.lt,fun o obj ho=>(r.obj o obj ho).mono (qj.refl c) ho.dom (hw _ (hq o obj ho)),r.inj,
  fun b row hb=>by
   obtain⟨t,fr,h1⟩:=r.im b row hb;exact⟨t,fr,by rw[hw b (fun e=>by rw[e,him] at hb;cases hb)];exact h1⟩,r.dj,r.gl⟩
def RS.im_deferred {c:CE} {h:AH} {w:World} (r:RS CR c h w) {q:Nat} {d:Option (List Deferred)} (hq:w.heap[q]? =some (.deferred d)):c.im q=none:=by
 cases hi:c.im q with
 |none=>rfl
 |some row=>
  obtain⟨t,fr,h1⟩:=r.im q row hi;rw[hq] at h1;cases h1
def BG {P:Program} {fn:Func} {tmps:Array Value} {R:Ending ->World ->Prop} {c₀ c:CE} {h₀ h:AH} {w₀:World}:
 ∀(ds:List Deferred) (w:World),ko P w₀.heap.size c h w ds ->RS CR c h w ->nJ c₀ h₀ w₀ c h w ->
  (∀w',RS CR c h w' ->nJ c₀ h₀ w₀ c h w' ->∃v,(results fn tmps).run P w'= .ok v w'/\ R (.returned v) w') ->LeavesInM (fw none) 0 P fn tmps R ds .returning w:=by
 intro ds;induction ds with
 |nil=>
  intro w _ r k H;exact H w r k
 |cons d ds ih=>
  intro w m r k H;rcases m.all d ij with ⟨q,h1,h2,h3,h4,h5⟩|⟨g,va,h1,h2⟩
  case inr=>
   obtain⟨fn',b',e1,e2,e3⟩:=h2.body;have e2':¬fn'.name= "runtime.NumGoroutine" :=by simpa using e2
   refine⟨by simp,.inr ⟨fun h=>(by cases h),.func g,va,g,d.args++va,h1,?_,fun _ _=>trivial,?_⟩⟩
   ·rw[h1];simp[invoke,callFunc,e1,e2',e3]
   ·have hB:=h2.run (d.args++va) w;refine⟨hB.1,fun c' cs hc hr=> ?_⟩;obtain⟨e,u',w',fr,⟨⟨v,rfl⟩,rfl,rfl⟩,q2⟩:=hB.2 c' cs hc hr;exact⟨_,_,_,fr,ih w' ⟨fun e he=>m.all e (gZ _ he),(zy.1 m.apart).2⟩ r k H,q2⟩
  have him:=r.im_deferred h4;have hoth:∀b,b≠q ->(w.putObj q (.deferred none)).heap[b]? =w.heap[b]? :=fun b hb=>World.putObj_heap_other hb
  have r':=r.unown hoth h5 him;refine⟨by simp,.inl ⟨q,_,h1,run_takeDeferred h4,ih _ ?_ r' ?_ H⟩⟩
  ·refine⟨fun e he=> ?_,(zy.1 m.apart).2⟩;rcases m.all e (gZ _ he) with ⟨q',k1,k2,k3,k4,k5⟩|k
   case inr=>exact .inr k
   have hne:q'≠q:=fun ee=>(zy.1 m.apart).1 e he q h1 (by rw[k1,ee])
   exact .inl ⟨q',k1,k2,by simpa using k3,by rw[hoth q' hne];exact k4,k5⟩
  ·exact⟨by simpa using k.size,fun b hb hn=>by rw[hoth b ω];exact k.same b hb hn,k.new,k.dom,k.nxt,k.im,k.dead,k.io⟩
end
def YN (a b:List Nat):Bool:=decide (a=b)
def Mo (N:Nat) (l:List Nat):Bool:=List.rec (motive:=fun _=>Bool) true (fun a _ ih=>Nat.ble (Nat.succ a) N&&ih) l
def xJ {N:Nat}:∀{l:List Nat},Mo N l=true ->∀p∈l,p<N
 |[],_,p,hp=>by cases hp
 |a::t,h,p,hp=>by
  have h':(Nat.ble (Nat.succ a) N&&Mo N t)=true:=h;simp only[av,aQ,decide_eq_true_eq] at h';rcases bY.1 hp with rfl|hp
  ·exact h'.1
  ·exact xJ h'.2 p hp
def Mp (X:dy) (N:Nat) (ops:Array Oper) (x:MA) (l:List MG):List Oper ->Bool:=
 List.rec (motive:=fun _=>List Oper ->Bool) (fun v=>match v with
  |[o]=>(match o.op with| .defer c=>(match c.callee with| .value y=>aW x y|_=>false)&&c.args.isEmpty|_=>false)&&o.dst.isNone&&o.guard.isNone
  |_=>false)
  (fun g _ ih v=>match v with|[]=>false|o::r=>De X N ops o g&&ih r) l
def db (X:dy) (N:Nat):Bool ->Code ->ap ->Bool
 |r,.scope c,m=>db X N r c m
 |_,.skip,.skip=>true
 |_,.label _,.skip=>true
 |_,.region _ ops d,.ops l=> !d&&V0 X N ops l ops.toList
 |_,.region _ ops d,.draw n l=>d&&FM X N ops n l
 |r,.region _ ops d,.dfr l x fn=> !r&&(!d&&(X.bn.any (Nat.beq fn)&&Mp X N ops x l ops.toList))
 |r,.seq a b,.seq a' b'=>db X N r a a'&&db X N r b b'
 |r,.cond x a b,.cond y a' b'=>aW y x&&(db X N r a a'&&db X N r b b')
 |r,.block i c,.block j c'=>Nat.beq i j&&db X N r c c'
 |r,.loop c,.loop c'=>db X N r c c'
 |r,.rangeFunc f ps a b,.rfun g qs a' b'=> !r&&aW g f&&YN ps.toList qs&&Mo N qs&&db X N true a a'&&db X N true b b'
 |_,.exit i,.exit j=>Nat.beq i j
 |_,.ret,.ret=>true
 |_,_,.bad _=>true
 |_,_,_=>false
def iY (X:dy) (N:Nat) (c:Code) (m:ap):Prop:=db X N true c m=true
def ExR:Exit ->JA ->Prop
 | .normal,.normal=>True
 | .exit i,.exit j=>i=j
 | .ret,.ret=>True
 |_,_=>False
section
variable (P:Program) (CR:Nat ->Code ->ap ->Prop) (GL:T (List AV)) (N s:Nat) (k:K Prop) (c:CE) (h:AH) (w:World)
def xK:Exit ->Act ->World ->Prop:=fun e a' w'=>∃me τ' h' c',ExR e me/\ k me τ' h'/\ gC CR c h w c' h' w'/\ St P CR GL N s c' h' w' τ' a'
end
def xK.trans {P:Program} {CR:Nat ->Code ->ap ->Prop} {GL:T (List AV)} {N s:Nat} {k:K Prop} {c c':CE} {h h':AH} {w w':World} (e:gC CR c h w c' h' w') {x:Exit} {a:Act} {w'':World} (p:xK P CR GL N s k c' h' w' x a w''):
 xK P CR GL N s k c h w x a w'':=by
 obtain⟨me,τ',h'',c'',p1,p2,p3,p4⟩:=p;exact⟨me,τ',h'',c'',p1,p2,e.trans p3,p4⟩
structure V8 (P:Program) (X:dy) (f:Nat) (m:aR):Prop where
 ok:∃fn c,P.funcs[f]? =some fn/\ (fn.name== "runtime.NumGoroutine")=false/\ fn.body=some c/\ db X m.ntmps false c m.body=true/\ m.ntmps<=fn.ntmps/\ Dj X m.res fn.results.toList=true
structure pJ (P:Program) (X:dy) (C:cQ Prop):Prop where
 mixed:P.follows .mixedOrders=true
 cfg:CfgOK C
 ctx:jt P X
 fns:∀f m,C.fns.get f=some m ->V8 P X f m
 bn:∀f∈X.bn,Bz P f
 spec:∀f args h (k:AV ->AH ->Prop) (fb:Prop),C.spec f args h k fb ->(∃v h',k v h'/\∀c w vs,RS (iY X) c h w ->(∀g l,C.glob.get g=some l ->c.gl g=some l) ->ed c args vs ->
  lD P ((callFunc f vs.toArray).run P w) fun v' w'=>∃c',gC (iY X) c h w c' h' w'/\ VR c' v v')∨fb
section
variable {P:Program} {X:dy} {C:cQ Prop}
def hU {f:FuncId} {fn:Func} {b:Code} (hf:P.funcs[f]? =some fn) (hn:(fn.name== "runtime.NumGoroutine")=false) (hb:fn.body=some b) (args:Array Value) (w:World):
 (callFunc f args).run P w= .ok (.enter f args) w:=by
 have hn':¬fn.name= "runtime.NumGoroutine" :=by simpa using hn
 simp[callFunc,hf,hn',hb]
def pK (P:Program) (X:dy) (C:cQ Prop) (n:Nat):Prop:=
 ∀mc k τ h,run C n mc k τ h ->∀cc ro N s c a w,db X N ro.isSome cc mc=true ->St P (iY X) C.glob N s c h w τ a ->s<=w.heap.size ->cc.wpIn (fw ro) 0 P (xK P (iY X) C.glob N s k c h w) a w
def V9 (X:dy) (k:AV ->AH ->Prop) (c:CE) (h:AH) (w:World):Ending ->World ->Prop:=
 fun e w'=>match e with| .returned v=>∃x h' c',k x h'/\ gC (iY X) c h w c' h' w'/\ VR c' x v|_=>False
def kq (S:pJ P X C) {n:Nat} (IH:pK P X C n) {f:Nat} {args:List AV} {h:AH} {k:AV ->AH ->Prop} (hr:iV C (run C n) f args h k) {c:CE} {w:World} {vs:List Value}
 (rs:RS (iY X) c h w) (gl:∀g l,C.glob.get g=some l ->c.gl g=some l) (hv:ed c args vs):
 ∃fn b,P.funcs[f]? =some fn/\ (fn.name== "runtime.NumGoroutine")=false/\ fn.body=some b/\ CallsIn (fw none) 0 P f vs.toArray w (V9 X k c h w):=by
 unfold iV at hr;cases hm:C.fns.get f with
 |none=>rw[hm] at hr;dsimp only at hr;rw[S.cfg.fail] at hr;exact hr.elim
 |some m=>
  rw[hm] at hr;dsimp only at hr;rw[jU] at hr;obtain⟨fn,b,hf,hn,hb,hok,hnt,hres⟩:=(S.fns f m hm).ok;refine⟨fn,b,hf,hn,hb,?_⟩;have hst:St P (iY X) C.glob m.ntmps w.heap.size c h w (pe args 0 .e) { tmps:=vs.toArray++Array.replicate (fn.ntmps-vs.toArray.size) undef,defers:=[] }:=by
   refine⟨rs,gl,?_,by simp;omega,ko.nil⟩;intro t x hx;rw[zU] at hx;by_cases ht:0<=t/\ t<0+args.length
   ·rw[if_pos ht] at hx;obtain⟨v,h1,h2⟩:=hv.get t (by simpa using hx);have hlt:t<vs.length:=(cW.1 h1).1;refine⟨v,?_,h2⟩;dsimp only;rw[Array.getElem?_append_left (by simpa using hlt)];simpa using h1
   ·rw[if_neg ht] at hx;cases hx
  have hbody:=IH m.body _ _ h hr b none m.ntmps w.heap.size c _ w hok hst (bK _);refine callsIn_of_wp_marks hf hb trivial (wpIn_mono hbody ?_);rintro e a' w' ⟨me,τ',h',c',hx,hk,ev,st⟩;have done:(match aP τ' h' m.res with|some v=>k v h'|none=>C.fail) ->LeavesInM (fw none) 0 P fn a'.tmps (V9 X k c h w) a'.defers .returning w':=by
   intro hk;cases ho:aP τ' h' m.res with
   |none=>rw[ho] at hk;dsimp only at hk;rw[S.cfg.fail] at hk;exact hk.elim
   |some x=>
    rw[ho] at hk;refine BG a'.defers w' st.marks st.rs ev.keep fun w'' r' k'=> ?_
    obtain⟨v,h1,h2⟩:=FP S.ctx r' st.tr hres ho;exact⟨v,h1,x,h',c',hk,⟨ev.ext,r',k'⟩,h2⟩
  cases e<;>cases me<;>first|exact hx.elim|skip
  ·exact done hk
  ·dsimp only at hk;rw[S.cfg.fail] at hk;exact hk.elim
  ·exact done hk
def pL (S:pJ P X C) {n:Nat} (IH:pK P X C n):pH P (iY X) C.glob (gV C (run C n)):=by
 intro f args h k hr c w vs rs gl hv;unfold gV at hr;unfold Df;rcases S.spec f args h k _ hr with ⟨v,h',h1,h2⟩|hr
 ·refine lD.mono (h2 c w vs rs gl hv) ?_;rintro v' w' ⟨c',h3,h4⟩;exact⟨v,h',c',h1,h3,h4⟩
 ·obtain⟨fn,b,h1,h2,h3,h4⟩:=kq S IH hr rs gl hv;rw[hU h1 h2 h3];refine CallsIn.mono h4 fun e w' he=> ?_
  cases e with
  |returned v=>exact he
  |_=>exact he.elim
def xL (S:pJ P X C) {h:AH} {l:Nat} {k:AH ->Prop} (hr:gh C h l k) {c:CE} {w:World} (rs:RS (iY X) c h w) (hd:c.dom l):
 ∃w₂ h',(Instr.beginRound (c.ρ l).1).run P w= .ok () w₂/\ k h'/\ gC (iY X) c h w c h' w₂:=by
 unfold gh at hr;split at hr
 ·rename_i ps asg body env p hg;rw[AH.put_eq] at hr;obtain⟨r,N,h1,h2,h3,h4,h5,h6,h7,h8,h9⟩:=rs.obj l _ ⟨hg,rfl,hd⟩;have hst:r.state= .ready:=by
   generalize r.state=st at h8;cases st<;>first|rfl|exact h8.elim
  have hlt:(c.ρ l).1<w.heap.size:=(jo.1 h1).1;refine⟨_,_,run_beginRound h1 hst,hr,gC.write rs ⟨hg,rfl,hd⟩ (by simp) (fun b hb=>World.putObj_heap_other hb) ?_ _⟩;exact⟨_,N,World.putObj_heap_same hlt,h2,h3,h4,h5,h6,h7,trivial,h9⟩
 ·rw[S.cfg.fail] at hr;exact hr.elim
def BH (S:pJ P X C) {h:AH} {l st:Nat} {p:Option (Option Nat)} {k:AH ->Prop} (hr:eW C h l st p k) {c:CE} {w:World} (rs:RS (iY X) c h w) (hd:c.dom l) {jump:Option Code}
 (hp:LE p jump) (hs:StR st (if jump.isNone then .ready else .done)):
 ∃w₂ h',(Instr.endRound (c.ρ l).1 jump).run P w= .ok (.bool jump.isNone) w₂/\ k h'/\ gC (iY X) c h w c h' w₂:=by
 unfold eW at hr;split at hr
 ·rename_i ps asg body env s0 p0 hg;rw[AH.put_eq] at hr;obtain⟨r,N,h1,h2,h3,h4,h5,h6,h7,h8,h9⟩:=rs.obj l _ ⟨hg,rfl,hd⟩;have hlt:(c.ρ l).1<w.heap.size:=(jo.1 h1).1;refine⟨_,_,run_endRound jump h1,hr,gC.write rs ⟨hg,rfl,hd⟩ (by simp) (fun b hb=>World.putObj_heap_other hb) ?_ _⟩;exact⟨_,N,World.putObj_heap_same hlt,h2,h3,h4,h5,h6,h7,hs,hp⟩
 ·rw[S.cfg.fail] at hr;exact hr.elim
def oD (S:pJ P X C) {n:Nat} (IH:pK P X C n):vL P (iY X) C.glob (dU C (run C n)):=by
 intro l args h k hr c w vs rs gl hd hv;unfold dU at hr;split at hr
 ·rename_i ps asg body env s0 p0 hg;obtain⟨r,N,h1,h2,h3,h4,h5,h6,h7,h8,h9⟩:=rs.obj l _ ⟨hg,rfl,hd⟩;obtain⟨hlen,hr⟩:=tw S.cfg _ _ _ _ hr;have hsz:vs.toArray.size=r.params.size:=by
   have e1:=hv.length;have e2:r.params.size=ps.length:=by rw[←h2];simp
   simp;omega
  unfold Df;rw[run_yield h1 hsz];have hT:=Ia ps args vs env r.tmps hv h7 (fun p hp=>il (h6 p hp) h5) hlen;have htm:(r.params.zip vs.toArray).foldl (fun tmps (t,a)=>tmps.setIfInBounds t a) r.tmps=(ps.zip vs).foldl (fun tmps q=>tmps.setIfInBounds q.1 q.2) r.tmps:=by
   rw[←h2,←Array.foldl_toList];simp[Array.toList_zip]
  rw[htm];refine roundIn_of_wpIn (F:=fw none) trivial ?_;have hst:St P (iY X) C.glob N w.heap.size c h w (Rv ps args env) { tmps:=(ps.zip vs).foldl (fun tmps q=>tmps.setIfInBounds q.1 q.2) r.tmps,defers:=[] }:=
   ⟨rs,gl,hT.1,by rw[hT.2];exact h5,ko.nil⟩
  have hasg:=IH asg _ _ h hr r.assign (some (c.ρ l).1) N w.heap.size c _ w h3 hst (bK _);refine wpIn_mono hasg ?_;rintro e a₁ w₁ ⟨me,τ₁,hh₁,c₁,hx,hk,ev,st⟩;cases e<;>cases me<;>first|exact hx.elim|skip
  ·dsimp only at hk;have hd₁:=ev.ext.dom l hd;obtain⟨w₂,h₂,b1,b2,b3⟩:=xL S hk st.rs hd₁;have hρ:=ev.ext.ρ l hd;refine⟨w₂,by rw[←hρ];exact b1,?_⟩;have hst₂:St P (iY X) C.glob N w.heap.size c₁ h₂ w₂ τ₁ a₁:=⟨b3.rs,st.gl,st.tr,st.sz,st.marks.evo b3.keep⟩;have hbody:=IH body _ _ h₂ b2 r.body (some (c.ρ l).1) N w.heap.size c₁ _ w₂ h4 hst₂ (fq ev.keep.size b3.keep.size);refine wpIn_mono hbody ?_;rintro e a₃ w₃ ⟨me,τ₃,hh₃,c₃,hx,hk,ev₃,st₃⟩;have hd₃:=ev₃.ext.dom l hd₁;have hρ₃:(c₃.ρ l).1=(c.ρ l).1:=by rw[ev₃.ext.ρ l hd₁,hρ]
   have fin:∀st p jump,eW C hh₃ l st p (fun h=>k (.b jump.isNone) h) ->LE p jump ->StR st (if jump.isNone then .ready else .done) ->
    ∃v w',(Instr.endRound (c.ρ l).1 jump).run P w₃= .ok v w'/\∃x h' c',k x h'/\ gC (iY X) c h w c' h' w'/\ VR c' x v:=by
    intro st p jump hk hp hs;obtain⟨w₄,h₄,d1,d2,d3⟩:=BH S hk st₃.rs hd₃ hp hs;exact⟨_,w₄,by rw[←hρ₃];exact d1,_,_,c₃,d2,((ev.trans b3).trans ev₃).trans d3,.b _⟩
   cases e<;>cases me<;>first|exact hx.elim|skip
   ·exact fin 0 none none hk trivial trivial
   ·rename_i i j;have hij:i=j:=hx;subst hij;exact fin 2 (some (some i)) (some (.exit i)) hk rfl trivial
   ·exact fin 2 (some none) (some .ret) hk trivial trivial
  ·dsimp only at hk;rw[S.cfg.fail] at hk;exact hk.elim
  ·dsimp only at hk;rw[S.cfg.fail] at hk;exact hk.elim
 ·rw[S.cfg.fail] at hr;exact hr.elim
def JN (S:pJ P X C) {callK yldK:Nat ->List AV ->AH ->(AV ->AH ->Prop) ->Prop} (hcall:pH P (iY X) C.glob callK) (hyld:vL P (iY X) C.glob yldK)
 {N s:Nat} {ops:Array Oper} {Q:Exit ->Act ->World ->Prop} {K:T AV ->AH ->Prop} {x:MA} {fn:Nat} (hfn:fn∈X.bn):∀(gs:List MG) (l:List Oper) (k:Nat),(∀j o,l[j]? =some o ->ops[k+j]? =some o) ->Mp X N ops x gs l=true ->
 ∀(τ:T AV) (h:AH) (c:CE) (w:World) (a:Act),bg C callK yldK (fun τ h=>match bp C τ x with| .f g _ _=>bif Nat.beq g fn then K τ h else C.fail|_=>C.fail) gs τ h ->St P (iY X) C.glob N s c h w τ a ->
  (∀c' h' w' τ' a',K τ' h' ->gC (iY X) c h w c' h' w' ->St P (iY X) C.glob N s c' h' w' τ' a' ->Q .normal a' w') ->wpOpsIn (fw none) 0 P ops Q (List.range' k l.length) a w:=by
 intro gs;induction gs with
 |nil=>
  intro l k hl hk τ h c w a hr st hQ;cases l with
  |nil=>cases hk
  |cons o rr=>
   cases rr with
   |cons _ _=>cases hk
   |nil=>
    have hk':((match o.op with| .defer c=>(match c.callee with| .value y=>aW x y|_=>false)&&c.args.isEmpty|_=>false)&&o.dst.isNone&&o.guard.isNone)=true:=hk;simp only[av] at hk';obtain⟨⟨k1,k2⟩,k3⟩:=hk';have hr':(match bp C τ x with| .f g _ _=>bif Nat.beq g fn then K τ h else C.fail|_=>C.fail):=hr;have hok:ops[k]? =some o:=by simpa using hl 0 o rfl
    cases ho:o.op with
    |defer cl=>
     rw[ho] at k1;simp only[av] at k1;obtain⟨k1,k4⟩:=k1;cases hc:cl.callee with
     |value y=>
      rw[hc] at k1;dsimp only at k1;have hy:=xj C st.tr st.gl st.rs.gl k1;cases hx:bp C τ x with
      |f g fi ca=>
       rw[hx] at hr' hy;dsimp only at hr';generalize hgy:a.eval y=vy at hy;cases hy with
       |f _ _ _ va vb q1 q2=>
        cases hg:Nat.beq g fn with
        |false=>rw[hg] at hr';have hr'':C.fail:=hr';rw[S.cfg.fail] at hr'';exact hr''.elim
        |true=>
         rw[hg] at hr';have hr'':K τ h:=hr';rw[az,decide_eq_true_eq] at hg;subst hg;have hargs:cl.args=#[]:=by simpa using k4
         have hgd:o.guard=none:=by simpa using k3
         have hdst:o.dst=none:=by simpa using k2
         show wpOpsIn (fw none) 0 P ops Q [k] a w;rw[wpOpsIn_cons];unfold wpOpIn;simp only[hok];have hw:Region.wanted o (yielded ops a.tmps)=true:=by simp[Region.wanted,hgd]
         simp only[hw,if_true];refine⟨fun _ _=>trivial,?_⟩;have hrun:(o.semAt (fw none).round a.eval).run P w= .ok (.defer { target:= .fn (.func g) vb.toArray,args:=va.toArray }) w:=by
          show(Oper.semAt none a.eval o).run P w=_;rw[Oper.semAt_none];unfold execOp;rw[ho];simp[resolve,hc,hargs,hgy,Deferred.ofValue]
         rw[hrun,Oper.uponIn_defer,hdst];refine hQ c h w τ _ hr'' (gC.refl st.rs) ⟨st.rs,st.gl,st.tr,st.sz,⟨fun d hd=> ?_,?_⟩⟩
         ·have hd':d={ target:= .fn (.func g) vb.toArray,args:=va.toArray }∨d∈a.defers:=by simpa[Act.put] using hd
          rcases hd' with rfl|hd'
          ·exact .inr ⟨g,_,rfl,S.bn g hfn⟩
          ·exact st.marks.all d hd'
         ·show List.Pairwise _ (_::a.defers);rw[zy];exact⟨fun e he r hr=>(by cases hr),st.marks.apart⟩
      |_=>rw[hx] at hr';dsimp only at hr';rw[S.cfg.fail] at hr';exact hr'.elim
     |_=>rw[hc] at k1;cases k1
    |_=>rw[ho] at k1;cases k1
 |cons g gs ih=>
  intro l k hl hk τ h c w a hr st hQ;cases l with
  |nil=>cases hk
  |cons o r=>
   have hk':(De X N ops o g&&Mp X N ops x gs r)=true:=hk;simp only[av] at hk';have hok:ops[k]? =some o:=by simpa using hl 0 o rfl
   replace hr:dg C callK yldK g τ h (fun y h=>dZ τ g.dst y fun τ=>bg C callK yldK (fun τ h=>match bp C τ x with| .f g _ _=>bif Nat.beq g fn then K τ h else C.fail|_=>C.fail) gs τ h):=hr;rw[show(o::r).length=r.length+1 from rfl,HQ,wpOpsIn_cons];refine th S.ctx S.cfg hcall hyld hok hk'.1 hr st fun y h' c' w' a' h1 h2 h3=> ?_
   rw[dh] at h1;refine ih r (k+1) (fun j o' hj=> ?_) hk'.2 _ _ c' w' a' h1 h3 fun c'' h'' w'' τ'' a'' q1 q2 q3=>hQ _ _ _ _ _ q1 (h2.trans q2) q3
   have:=hl (j+1) o' hj;rw[←this];congr 1;omega
def zb {F:Fence} {n:Nat} {c:Code} {Q Q':Exit ->Act ->World ->Prop} (hq:∀e a w,Q e a w ->Q' e a w):∀(m:Nat) (a:Act) (w:World),Code.roundsIn F n P c Q m a w ->Code.roundsIn F n P c Q' m a w:=by
 intro m;induction m with
 |zero=>intro a w h;exact h.elim
 |succ m ih=>
  intro a w h;rw[roundsIn_succ] at h ⊢;refine wpIn_mono h fun e a' w' he=> ?_
  cases e with
  |normal=>exact ih _ _ he
  |_=>exact hq _ _ _ he
def aq7 (Q:Exit ->Act ->World ->Prop):Exit ->Act ->World ->Prop
 | .goto _,_,_=>False
 |e,a,w=>Q e a w
def FQ {F:Fence} {n:Nat} {Q:Exit ->Act ->World ->Prop} {a:Act} {w:World} {c:Code} (h:c.wpIn F n P (aq7 Q) a w):(Code.scope c).wpIn F n P Q a w:=by
 intro b k cs hro hb hr;have h0:(lone (b.atR a (.code (.scope c)::k)) cs w).fenced P F:=fenced_calm hb hr rfl;have s0:Go.step P (lone (b.atR a (.code (.scope c)::k)) cs w)= .next (lone (b.atR a (.code c:: .inScope c::k)) cs w):=step_lone_go (by simp[stepG,stepG.exec,Frame.atR]);obtain⟨e,a₁,w₁,hq,harr⟩:=h b (.inScope c::k) cs hro hb hr;cases e with
 |normal=>
  have s1:Go.step P (lone (b.atR a₁ (.inScope c::k)) cs w₁)= .next (lone (b.atR a₁ k) cs w₁):=step_lone_go (by simp[stepG,stepG.exec,Frame.atR]);exact⟨.normal,a₁,w₁,hq,.head h0 s0 (StepsIn.trans harr (.one (fenced_calm hb hr rfl) s1))⟩
 |exit id=>
  have hx:exitTo id (.inScope c::k)=exitTo id k:=by simp[exitTo]
  exact⟨.exit id,a₁,w₁,hq,fun k' hk=> .head h0 s0 (harr.1 k' (by rw[hx];exact hk)),
   fun hr' hk=>let ⟨k₁,h1,h2⟩:=harr.2 hr' (by rw[hx];exact hk);⟨k₁,h1,.head h0 s0 h2⟩⟩
 |goto l=>exact hq.elim
 |ret=>exact⟨_,a₁,w₁,hq,.of_steps (.one h0 s0) harr⟩
 |panic ch=>exact⟨_,a₁,w₁,hq,.of_steps (.one h0 s0) harr⟩
 |outgrown=>exact⟨_,a₁,w₁,hq,.of_steps (.one h0 s0) harr⟩
def qr {N s:Nat} {k:K Prop} {c:CE} {h:AH} {w:World} {τ:T AV} {a:Act} {e:Exit} {me:JA} (hx:ExR e me) (hk:k me τ h) (st:St P (iY X) C.glob N s c h w τ a):
 xK P (iY X) C.glob N s k c h w e a w:=⟨me,τ,h,c,hx,hk,gC.refl st.rs,st⟩
def bC {R:Type} (C:cQ R) (n:Nat) (m:ap) (k:K R) (τ:T AV) (h:AH):run C (n+1) m k τ h=(match m with
 | .skip=>k .normal τ h
 | .ops l=>bg C (gV C (run C n)) (dU C (run C n)) (fun τ h=>k .normal τ h) l τ h
 | .draw z l=>fN (h.next+z) fun nx=>aC C (gV C (run C n)) (dU C (run C n)) h.next (fun τ h=>k .normal τ h) l [] [] τ ⟨nx,h.ver,h.objs⟩
 | .dfr l x fn=>bg C (gV C (run C n)) (dU C (run C n)) (fun τ h=>match bp C τ x with
  | .f g _ _=>bif Nat.beq g fn then k .normal τ h else C.fail
  |_=>C.fail) l τ h
 | .seq a b=>run C n a (fun e τ h=>match e with| .normal=>run C n b k τ h|e=>k e τ h) τ h
 | .cond c a b=>match bp C τ c with
  | .b x=>Bool.rec (motive:=fun _=>R) (run C n b k τ h) (run C n a k τ h) x
  |_=>C.fail
 | .block id c=>run C n c (fun e τ h=>match e with| .exit i=>bif Nat.beq i id then k .normal τ h else k (.exit i) τ h|e=>k e τ h) τ h
 | .loop c=>run C n c (fun e τ h=>match e with| .normal=>run C n (.loop c) k τ h|e=>k e τ h) τ h
 | .rfun f ps assign body=>h.new (.loop ps assign body τ 0 none) fun l h=>
  let fin:AV ->AH ->R:=fun _ h=>match h.get l with
   |some (.loop _ _ _ _ 0 none)=>h.put l .gone fun h=>k .normal τ h
   |some (.loop _ _ _ _ 2 (some (some i)))=>h.put l .gone fun h=>k (.exit i) τ h
   |some (.loop _ _ _ _ 2 (some none))=>h.put l .gone fun h=>k .ret τ h
   |_=>C.fail
  match bp C τ f with
  | .f g fi ca=>match gK fi (.y l::ca) with
   |some l=>iV C (run C n) g l h fin
   |none=>C.fail
  |_=>C.fail
 | .exit id=>k (.exit id) τ h
 | .ret=>k .ret τ h
 | .bad _=>C.fail):=by
 cases m<;>rfl
def BI (P:Program) (X:dy) (C:cQ Prop) (n:Nat):Prop:=
 ∀mc k τ h,run C n (.loop mc) k τ h ->∀cc ro N s c a w,db X N ro.isSome cc mc=true ->St P (iY X) C.glob N s c h w τ a ->s<=w.heap.size ->
  Code.roundsIn (fw ro) 0 P cc (xK P (iY X) C.glob N s k c h w) n a w
def St.evo {P:Program} {CR:Nat ->Code ->ap ->Prop} {GL:T (List AV)} {N s:Nat} {c c':CE} {h h':AH} {w w':World} {τ:T AV} {a:Act} (S:St P CR GL N s c h w τ a) (e:gC CR c h w c' h' w'):St P CR GL N s c' h' w' τ a:=
 ⟨e.rs,xD S.gl e.ext,S.tr.mono e.ext,S.sz,S.marks.evo e.keep⟩
def xM {n:Nat} (IH:pK P X C n) (IL:BI P X C n):BI P X C (n+1):=by
 intro mc k τ h hr cc ro N s c a w hok st hs;rw[bC] at hr;rw[roundsIn_succ];refine wpIn_mono (IH mc _ _ h hr cc ro N s c a w hok st hs) ?_;rintro e a' w' ⟨me,τ',h',c',hx,hk,ev,st'⟩;cases e<;>cases me<;>first|exact hx.elim|skip
 ·exact zb (fun e a w p=>p.trans ev) n a' w' (IL mc k τ' h' hk cc ro N s c' a' w' hok st' (fq hs ev.keep.size))
 ·exact⟨_,τ',h',c',hx,hk,ev,st'⟩
 ·exact⟨_,τ',h',c',hx,hk,ev,st'⟩
def FR (S:pJ P X C) {n:Nat} (IH:pK P X C n) {f:MA} {ps:List Nat} {asg body:ap} {k:K Prop} {τ:T AV} {h:AH} (hr:run C (n+1) (.rfun f ps asg body) k τ h)
 {g:Operand} {qs:Array Tmp} {ca cb:Code} {N s:Nat} {c:CE} {a:Act} {w:World} (hf:aW f g=true) (hq:qs.toList=ps) (hp:∀p∈ps,p<N) (h1:iY X N ca asg) (h2:iY X N cb body)
 (st:St P (iY X) C.glob N s c h w τ a) (hs:s<=w.heap.size):(Code.rangeFunc g qs ca cb).wpIn (fw none) 0 P (xK P (iY X) C.glob N s k c h w) a w:=by
 rw[bC] at hr;dsimp only at hr;rw[AH.new_eq] at hr;refine wpIn_rangeFunc fun fn _=> ?_
 have hv:=xj C st.tr st.gl st.rs.gl hf;cases hx:bp C τ f with
 |f gg fi cap=>
  rw[hx] at hr hv;dsimp only at hr;rw[dX] at hr;dsimp only at hr;generalize hgv:a.eval g=gv at hv;cases hv with
  |f _ _ _ vi va q1 q2=>
   let lp:Loop:={ state:= .ready,pending:=none,fn,tmps:=a.tmps,params:=qs,assign:=ca,body:=cb,defers:=w.heap.size }
   let wA:=w.alloc (.deferred (some []))
   let wB:=wA.alloc (.loop lp)
   have hwA:wA.heap=w.heap.push (.deferred (some [])):=rfl;have hwB:wB.heap=wA.heap.push (.loop lp):=rfl;have hszA:wA.heap.size=w.heap.size+1:=by rw[hwA];simp
   have hszB:wB.heap.size=w.heap.size+2:=by rw[hwB];simp[hszA]
   have hold:∀b,b<w.heap.size ->wA.heap[b]? =w.heap[b]? :=fun b hb=>by rw[hwA,Bf hb];exact(mL hb).symm
   have rA:RS (iY X) c h wA:=st.rs.push hold
   let c₁:=c.add h.next wA.heap.size 0 0
   have hlr:wB.heap[wA.heap.size]? =some (.loop lp):=by rw[hwB];simp
   have hx₁:qj c c₁:=CE.add_ext c st.rs.fresh _ _ _;have ev1:gC (iY X) c h wA c₁ ⟨Nat.succ h.next,h.ver,h.objs.put h.next (.loop ps asg body τ 0 none)⟩ wB:=by
    refine gC.alloc rA (ob:= .loop lp) hwB 0 ?_;exact⟨lp,N,by rw[CE.add_ρ];exact hlr,hq,h1,h2,st.sz,hp,st.tr.mono hx₁,trivial,trivial⟩
   have ev0:gC (iY X) c h w c h wA:=⟨qj.refl c,rA,⟨by rw[hszA];omega,fun b hb _=>hold b hb,fun o obj ho=> .inr ⟨o,obj,ho,rfl⟩,fun _ h=> .inl h,bK _,fun _ _ h=> .inl h,fun _ _ h=>h,⟨rfl,rfl⟩⟩⟩;have ev:=ev0.trans ev1;have hl:c₁.dom h.next:=CE.add_dom c _ _ _ _;have hρl:(c₁.ρ h.next).1=w.heap.size+1:=by rw[CE.add_ρ];exact hszA
   have hargs:ed c₁ (fi++(.y h.next::cap)) (vi++(.func (.yield (w.heap.size+1)) #[] #[]::va)):=by
    refine(q1.mono hx₁).append (.cons _ _ _ _ ?_ (q2.mono hx₁));rw[←hρl];exact .y _ hl
   obtain⟨fn',b',e1,e2,e3,e4⟩:=kq S IH hr ev1.rs (xD st.gl hx₁) hargs;refine⟨w.heap.size+1,[{ target:= .collected w.heap.size,args:=#[] }],wB,⟨.fn (.func gg) va.toArray,vi.toArray++#[.func (.yield (w.heap.size+1)) #[] #[]]⟩,wB,gg,
    (vi++(.func (.yield (w.heap.size+1)) #[] #[]::va)).toArray,wB,?_,?_,fun _ _=>trivial,?_,fun h=>(by cases h),?_⟩
   ·exact run_enterLoop_outer fn a.tmps qs ca cb
   ·have hcn:∀v,a.eval (.const v)=v:=fun _=>rfl
    simp[resolve,rangeCall,hgv,hcn,Deferred.ofValue]
   ·have:=hU (P:=P) e1 e2 e3 (vi++(.func (.yield (w.heap.size+1)) #[] #[]::va)).toArray wB;simpa[invoke] using this
   ·refine CallsIn.mono e4 fun e w₃ he=> ?_
    cases e with
    |panicked _=>exact he.elim
    |outgrown=>exact he.elim
    |returned v=>
     obtain⟨x,h₃,c₃,hk,ev₃,_⟩:=he;have hl₃:c₃.dom h.next:=ev₃.ext.dom _ hl;have hρ₃:(c₃.ρ h.next).1=w.heap.size+1:=by rw[ev₃.ext.ρ _ hl,hρl]
     have hmk:ko P s c₃ h₃ w₃ ([{ target:= .collected w.heap.size,args:=#[] }]++a.defers):=by
      have m0:ko P s c₁ ⟨Nat.succ h.next,h.ver,h.objs.put h.next (.loop ps asg body τ 0 none)⟩ wB ([{ target:= .collected w.heap.size,args:=#[] }]++a.defers):=by
       have ma:=st.marks.evo ev.keep;refine⟨fun d hd=> ?_,?_⟩
       ·rcases eV.1 hd with hd|hd
        ·rw[dY] at hd;subst hd;refine .inl ⟨w.heap.size,rfl,hs,by omega,?_,?_⟩
         ·rw[hwB,Bf ω];have:wA.heap[w.heap.size]? =some (.deferred (some [])):=by rw[hwA];simp
          rw[mL ω] at this;exact this
         ·intro o obj ho he;rcases ho.dom with hd|hd
          ·have hne:o≠h.next:=fun e=>st.rs.fresh (e▸hd)
           have hg:=ho.get;rw[T.get_put,if_neg hne] at hg;have hlt:=(st.rs.obj o obj ⟨hg,ho.live,hd⟩).lt ho.live;rw[hx₁.ρ o hd] at he;omega
          ·subst hd;omega
        ·exact ma.all d hd
       ·rw[List.singleton_append,zy];refine⟨fun d hd r₁ he=> ?_,st.marks.apart⟩;injection he with he
        rcases st.marks.all d hd with ⟨r,k1,k2,k3,_⟩|⟨g',va',k1,_⟩
        ·intro k4;rw[k1] at k4;injection k4 with k4
         omega
        ·rw[k1];intro k4;cases k4
      exact m0.evo ev₃.keep
     have fin:∀ps' asg' body' τ' s' p' me,h₃.get h.next=some (.loop ps' asg' body' τ' s' p') ->k me τ ⟨h₃.next,Nat.succ h₃.ver,h₃.objs.put h.next .gone⟩ ->
      (s'=0/\ p'=none/\ me= .normal∨s'=2/\ ((∃i,p'=some (some i)/\ me= .exit i)∨(p'=some none/\ me= .ret))) ->
      ∃jump w₄,(Instr.endLoop (w.heap.size+1)).run P w₃= .ok jump w₄/\ (match jump with
       |none=>xK P (iY X) C.glob N s k c h w .normal { a with defers:=[{ target:= .collected w.heap.size,args:=#[] }]++a.defers } w₄
       |some cd=>cd.wpIn (fw none) 0 P (xK P (iY X) C.glob N s k c h w) { a with defers:=[{ target:= .collected w.heap.size,args:=#[] }]++a.defers } w₄):=by
      intro ps' asg' body' τ' s' p' me hg hk hcase;obtain⟨r,N',k1,k2,k3,k4,k5,k6,k7,k8,k9⟩:=ev₃.rs.obj _ _ ⟨hg,rfl,hl₃⟩;rw[hρ₃] at k1;have hbusy:r.state≠.busy:=by
       intro e;rw[e] at k8;rcases hcase with ⟨rfl,_⟩|⟨rfl,_⟩<;>exact k8.elim
      have hend:=run_endLoop (P:=P) k1 hbusy;have evw:gC (iY X) c₃ h₃ w₃ c₃ ⟨h₃.next,Nat.succ h₃.ver,h₃.objs.put h.next .gone⟩ (w₃.putObj (w.heap.size+1) (.loop { r with state:= .exhausted })):=
       gC.write ev₃.rs ⟨hg,rfl,hl₃⟩ (by simp) (fun b hb=>World.putObj_heap_other (by rw[←hρ₃];exact hb)) (show iX (iY X) c₃ _ h.next .gone from trivial) _
      have evt:=(ev.trans ev₃).trans evw;have stw:St P (iY X) C.glob N s c₃ ⟨h₃.next,Nat.succ h₃.ver,h₃.objs.put h.next .gone⟩ (w₃.putObj (w.heap.size+1) (.loop { r with state:= .exhausted })) τ
       { a with defers:=[{ target:= .collected w.heap.size,args:=#[] }]++a.defers }:=
       ⟨evw.rs,xD st.gl evt.ext,st.tr.mono evt.ext,st.sz,hmk.evo evw.keep⟩
      generalize w₃.putObj (w.heap.size+1) (.loop { r with state:= .exhausted })=wz at hend evw evt stw;refine⟨_,wz,hend,?_⟩;clear hend;rcases hcase with ⟨rfl,rfl,rfl⟩|⟨rfl,⟨i,rfl,rfl⟩|⟨rfl,rfl⟩⟩
      ·cases hpe:r.pending with
       |none=>exact⟨.normal,τ,_,c₃,trivial,hk,evt,stw⟩
       |some z=>rw[hpe] at k9;exact k9.elim
      ·cases hpe:r.pending with
       |none=>rw[hpe] at k9;exact k9.elim
       |some z=>
        rw[hpe] at k9;cases z<;>first|exact k9.elim|skip
        rename_i j;have hij:i=j:=k9;subst hij;exact wpIn_exit ⟨.exit i,τ,_,c₃,rfl,hk,evt,stw⟩
      ·cases hpe:r.pending with
       |none=>rw[hpe] at k9;exact k9.elim
       |some z=>
        rw[hpe] at k9;cases z<;>first|exact k9.elim|skip
        exact wpIn_ret ⟨.ret,τ,_,c₃,trivial,hk,evt,stw⟩
     split at hk
     ·rename_i hg;rw[AH.put_eq] at hk;exact fin _ _ _ _ _ _ _ hg hk (.inl ⟨rfl,rfl,rfl⟩)
     ·rename_i hg;rw[AH.put_eq] at hk;exact fin _ _ _ _ _ _ _ hg hk (.inr ⟨rfl,.inl ⟨_,rfl,rfl⟩⟩)
     ·rename_i hg;rw[AH.put_eq] at hk;exact fin _ _ _ _ _ _ _ hg hk (.inr ⟨rfl,.inr ⟨rfl,rfl⟩⟩)
     ·rw[S.cfg.fail] at hk;exact hk.elim
 |_=>rw[hx] at hr;dsimp only at hr;rw[S.cfg.fail] at hr;exact hr.elim
def aI1 (S:pJ P X C) {n:Nat} (IH:pK P X C n) (IL:BI P X C n):pK P X C (n+1):=by
 intro mc k τ h hr cc;by_cases hb:∃n,mc= .bad n
 ·obtain⟨_,rfl⟩:=hb;rw[bC] at hr;replace hr:C.fail:=hr;rw[S.cfg.fail] at hr;exact hr.elim
 induction cc generalizing mc with
 |scope b ih=>
  intro ro N s c a w hok st hs;refine FQ (wpIn_mono (ih mc hr hb ro N s c a w (by unfold db at hok;exact hok) st hs) ?_);rintro e a' w' ⟨me,τ',h',c',hx,hk,ev,st'⟩;cases e<;>first|exact⟨me,τ',h',c',hx,hk,ev,st'⟩|(cases me<;>exact hx.elim)
 |skip=>
  intro ro N s c a w hok st hs;cases mc<;>first|(exact absurd ⟨_,rfl⟩ hb)|(unfold db at hok;cases hok;done)|skip
  rw[bC] at hr;exact wpIn_skip (qr (me:= .normal) trivial hr st)
 |label l=>
  intro ro N s c a w hok st hs;cases mc<;>first|(exact absurd ⟨_,rfl⟩ hb)|(unfold db at hok;cases hok;done)|skip
  rw[bC] at hr;exact wpIn_label (qr (me:= .normal) trivial hr st)
 |exit i=>
  intro ro N s c a w hok st hs;cases mc<;>first|(exact absurd ⟨_,rfl⟩ hb)|(unfold db at hok;cases hok;done)|skip
  rw[bC] at hr;unfold db at hok;simp only[az,decide_eq_true_eq] at hok;subst hok;exact wpIn_exit (qr (me:= .exit i) rfl hr st)
 |ret=>
  intro ro N s c a w hok st hs;cases mc<;>first|(exact absurd ⟨_,rfl⟩ hb)|(unfold db at hok;cases hok;done)|skip
  rw[bC] at hr;exact wpIn_ret (qr (me:= .ret) trivial hr st)
 |goto l=>
  intro ro N s c a w hok st hs;cases mc<;>first|(exact absurd ⟨_,rfl⟩ hb)|(unfold db at hok;cases hok)
 |refuse l=>
  intro ro N s c a w hok st hs;cases mc<;>first|(exact absurd ⟨_,rfl⟩ hb)|(unfold db at hok;cases hok)
 |region id ops d=>
  intro ro N s c a w hok st hs;cases mc<;>first|(exact absurd ⟨_,rfl⟩ hb)|(unfold db at hok;cases hok;done)|skip
  ·rename_i l;rw[bC] at hr;unfold db at hok;simp only[av,iS] at hok;obtain⟨rfl,hok⟩:=hok;refine wpIn_region ?_;have:=JI (ro:=ro) (s:=s) S.ctx S.cfg (pL S IH) (oD S IH) (ops:=ops) (Q:=xK P (iY X) C.glob N s k c h w) l ops.toList 0 (fun j o hj=>by simpa using hj) hok τ h c w a hr st
    (fun c' h' w' τ' a' hk ev st'=>⟨.normal,τ',h',c',trivial,hk,ev,st'⟩)
   rw[CQ];simpa using this
  ·rename_i z l;rw[bC] at hr;dsimp only at hr;rw[bR] at hr;unfold db at hok;simp only[av] at hok;obtain⟨rfl,hok⟩:=hok;exact FO S.ctx S.cfg (pL S IH) (oD S IH) S.mixed hok hr st fun c' h' w' τ' a' hk ev st'=>⟨.normal,τ',h',c',trivial,hk,ev,st'⟩
  ·rename_i l x fn;rw[bC] at hr;unfold db at hok;simp only[av,iS] at hok;obtain⟨hro,rfl,hbn,hok⟩:=hok;have hro':ro=none:=by cases ro with|none=>rfl|some _=>cases hro
   subst hro';have hfn:fn∈X.bn:=by
    rw[re] at hbn;obtain⟨y,h1,h2⟩:=hbn;rw[az,decide_eq_true_eq] at h2;rw[h2];exact h1
   refine wpIn_region ?_;have:=JN S (pL S IH) (oD S IH) (N:=N) (s:=s) (ops:=ops) (Q:=xK P (iY X) C.glob N s k c h w) (K:=fun τ h=>k .normal τ h) hfn l ops.toList 0 (fun j o hj=>by simpa using hj) hok τ h c w a hr st
    (fun c' h' w' τ' a' hk ev st'=>⟨.normal,τ',h',c',trivial,hk,ev,st'⟩)
   rw[CQ];simpa using this
 |seq x y ihx ihy=>
  intro ro N s c a w hok st hs;cases mc<;>first|(exact absurd ⟨_,rfl⟩ hb)|(unfold db at hok;cases hok;done)|skip
  rename_i p q;rw[bC] at hr;unfold db at hok;simp only[av] at hok;refine wpIn_seq (wpIn_mono (IH p _ _ h hr x ro N s c a w hok.1 st hs) ?_);rintro e a' w' ⟨me,τ',h',c',hx,hk,ev,st'⟩;cases e<;>cases me<;>first|exact hx.elim|skip
  ·exact wpIn_mono (IH q _ _ h' hk y ro N s c' a' w' hok.2 st' (fq hs ev.keep.size)) fun e a w p=>p.trans ev
  ·exact⟨_,τ',h',c',hx,hk,ev,st'⟩
  ·exact⟨_,τ',h',c',hx,hk,ev,st'⟩
 |cond o x y ihx ihy=>
  intro ro N s c a w hok st hs;cases mc<;>first|(exact absurd ⟨_,rfl⟩ hb)|(unfold db at hok;cases hok;done)|skip
  rename_i m p q;rw[bC] at hr;unfold db at hok;simp only[av] at hok;have hv:=xj C st.tr st.gl st.rs.gl hok.1;dsimp only at hr;cases hx:bp C τ m with
  |b t=>
   rw[hx] at hr hv;generalize hgv:a.eval o=gv at hv;cases hv;refine wpIn_cond hgv ?_;cases t with
   |true=>exact IH p _ _ h hr x ro N s c a w hok.2.1 st hs
   |false=>exact IH q _ _ h hr y ro N s c a w hok.2.2 st hs
  |_=>rw[hx] at hr;dsimp only at hr;rw[S.cfg.fail] at hr;exact hr.elim
 |block i b ih=>
  intro ro N s c a w hok st hs;cases mc<;>first|(exact absurd ⟨_,rfl⟩ hb)|(unfold db at hok;cases hok;done)|skip
  rename_i j p;rw[bC] at hr;unfold db at hok;simp only[av,az,decide_eq_true_eq] at hok;obtain⟨rfl,hok⟩:=hok;refine wpIn_block (wpIn_mono (IH p _ _ h hr b ro N s c a w hok st hs) ?_);rintro e a' w' ⟨me,τ',h',c',hx,hk,ev,st'⟩;cases e<;>cases me<;>first|exact hx.elim|skip
  ·exact⟨_,τ',h',c',hx,hk,ev,st'⟩
  ·rename_i e1 e2;have he:e1=e2:=hx;subst he;dsimp only at hk;by_cases hij:e1=i
   ·subst hij;have hb:Nat.beq e1 e1=true:=by rw[az];simp
    rw[hb] at hk;simp only[Exit.inBlock,if_true];exact⟨.normal,τ',h',c',trivial,hk,ev,st'⟩
   ·have hb:Nat.beq e1 i=false:=by rw[az];simp[hij]
    rw[hb] at hk;simp only[Exit.inBlock,if_neg hij];exact⟨.exit e1,τ',h',c',rfl,hk,ev,st'⟩
  ·exact⟨_,τ',h',c',hx,hk,ev,st'⟩
 |loop b ih=>
  intro ro N s c a w hok st hs;cases mc<;>first|(exact absurd ⟨_,rfl⟩ hb)|(unfold db at hok;cases hok;done)|skip
  rename_i p;unfold db at hok;exact wpIn_loop_rounds (n+1) (xM IH IL p k τ h hr b ro N s c a w hok st hs)
 |rangeFunc f qs x y ihx ihy=>
  intro ro N s c a w hok st hs;cases mc<;>first|(exact absurd ⟨_,rfl⟩ hb)|(unfold db at hok;cases hok;done)|skip
  rename_i g ps p q;unfold db at hok;simp only[av,iS,YN,decide_eq_true_eq] at hok;obtain⟨⟨⟨⟨⟨h1,h2⟩,h3⟩,h4⟩,h5⟩,h6⟩:=hok;cases ro with
  |some l=>cases h1
  |none=>exact FR S IH hr h2 h3 (xJ h4) h5 h6 st hs
def uH (S:pJ P X C):∀n,pK P X C n/\ BI P X C n:=by
 intro n;induction n with
 |zero=>
  constructor
  ·intro mc k τ h hr;have:C.fail:=hr;rw[S.cfg.fail] at this;exact this.elim
  ·intro mc k τ h hr;have:C.fail:=hr;rw[S.cfg.fail] at this;exact this.elim
 |succ n ih=>exact⟨aI1 S ih.1 ih.2,xM ih.1 ih.2⟩
end
end
end AM
