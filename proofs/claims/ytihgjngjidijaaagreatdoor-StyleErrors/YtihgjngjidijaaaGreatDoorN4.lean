import Derived.RangeFuncRecord
import Derived.Test.YtihgjngjidijaaaGreatDoorN3
set_option linter.all false
namespace AM
open Go
noncomputable section
section
variable {CR:Nat ->Code ->aw ->Prop}
structure mK (CR:Nat ->Code ->aw ->Prop) (s₀:Nat) (c:CE) (h:AH) (w:World) (id:Nat) (ob:bC):Prop where
 dM:c.dM id
 obj:gR CR c w id ob
 live:live ob=true
 lo:s₀<=(c.ρ id).1
 un:∀o ob',dU c h o ob' ->(c.ρ o).1≠(c.ρ id).1
 im:c.im (c.ρ id).1=none
def mK.lt {s₀:Nat} {c:CE} {h:AH} {w:World} {id:Nat} {ob:bC} (g:mK CR s₀ c h w id ob):(c.ρ id).1<w.heap.size:=g.obj.lt g.live
def mK.evo {s₀:Nat} {c c':CE} {h h':AH} {w w':World} {id:Nat} {ob:bC} (g:mK CR s₀ c h w id ob) (e:cH CR c h w c' h' w'):mK CR s₀ c' h' w' id ob:=by
 have hρ:=e.ext.ρ id g.dM;refine⟨e.ext.dM id g.dM,g.obj.mono e.ext g.dM (e.keep.same _ g.lt g.un),g.live,by rw[hρ];exact g.lo,λo ob' ho he=> ?_,?_⟩
 ·rw[hρ] at he;rcases e.keep.new o ob' ho with h1|⟨o₀,ob₀,h1,h2⟩
  ·have:=g.lt;omega
  ·exact g.un o₀ ob₀ h1 (h2.trans he)
 ·rw[hρ];cases hi:c'.im (c.ρ id).1 with
  |none=>rfl
  |some row=>
   rcases e.keep.im _ row hi with h1|h1|⟨o,ob',h1,h2⟩
   ·rw[g.im] at h1;cases h1
   ·have:=g.lt;omega
   ·exact bh h2 (g.un o ob' h1)
def gR.not_deferred {c:CE} {w:World} {o:Nat} {obj:bC} (h:gR CR c w o obj) (hl:live obj=true) {d:Option (List Deferred)} (hd:w.heap[(c.ρ o).1]? =some (.deferred d)):False:=by
 cases obj with
 |cells v l=>obtain⟨row,t,lo,hi,vs,h1,_⟩:=h;rw[hd] at h1;cases h1
 |tc T wh l=>obtain⟨row,t,lo,hi,vs,h1,_⟩:=h;rw[hd] at h1;cases h1
 |map v es cl=>obtain⟨es',h1,_⟩:=h;rw[hd] at h1;cases h1
 |sit l pos=>obtain⟨_,bs,h1,_⟩:=h;rw[hd] at h1;cases h1
 |mit m since seen stepped=>have h1:=h.2.2;rw[hd] at h1;cases h1
 |loop ps assign body env st pend=>obtain⟨r,N,h1,_⟩:=h;rw[hd] at h1;cases h1
 |gone=>cases hl
def RS.adopt {s₀:Nat} {c:CE} {h:AH} {w:World} (r:RS CR c h w) {id:Nat} {ob:bC} (g:mK CR s₀ c h w id ob) (ver:Nat) (hid:id<h.next):
 RS CR c ⟨h.next,ver,h.oB.put id ob⟩ w/\ (∀o ob',dU c ⟨h.next,ver,h.oB.put id ob⟩ o ob' ->(o=id/\ ob'=ob)∨(o≠id/\ dU c h o ob')):=by
 have hh:∀o ob',dU c ⟨h.next,ver,h.oB.put id ob⟩ o ob' ->(o=id/\ ob'=ob)∨(o≠id/\ dU c h o ob'):=by
  intro o ob' ho;have hg:=ho.get;rw[T.get_put] at hg;by_cases e:o=id
  ·rw[aF e] at hg;exact .inl ⟨e,(gC hg).symm⟩
  ·rw[aD e] at hg;exact .inr ⟨e,hg,ho.live,ho.dM⟩
 refine⟨⟨r.nx,λo ob' ho=> ?_,λo ob' ho=> ?_,λo o' i9 ob₂ h1 h2 he=> ?_,r.im,λo ob' ho=> ?_,r.gl⟩,hh⟩
 ·rw[T.get_put] at ho;by_cases e:o=id
  ·subst e;exact hid
  ·rw[aD e] at ho;exact r.lt _ _ ho
 ·rcases hh o ob' ho with ⟨rfl,rfl⟩|⟨_,e⟩
  ·exact g.obj
  ·exact r.obj _ _ e
 ·rcases hh o i9 h1 with ⟨rfl,rfl⟩|⟨_,e⟩<;>rcases hh o' ob₂ h2 with ⟨rfl,rfl⟩|⟨_,e'⟩
  ·rfl
  ·exact bh he.symm (g.un _ _ e')
  ·exact bh he (g.un _ _ e)
  ·exact r.inj _ _ _ _ e e' he
 ·rcases hh o ob' ho with ⟨rfl,rfl⟩|⟨_,e⟩
  ·exact g.im
  ·exact r.dj _ _ e
def j6.adopt {c₀ c:CE} {h₀ h:AH} {w₀ w:World} (k:j6 c₀ h₀ w₀ c h w) {id:Nat} {ob:bC} (g:mK CR w₀.heap.size c h w id ob) (ver:Nat) (hlo:h₀.next<=id)
 (hh:∀o ob',dU c ⟨h.next,ver,h.oB.put id ob⟩ o ob' ->(o=id/\ ob'=ob)∨(o≠id/\ dU c h o ob')):j6 c₀ h₀ w₀ c ⟨h.next,ver,h.oB.put id ob⟩ w:=by
 refine⟨k.size,k.same,λo ob' ho=> ?_,k.dM,k.nxt,k.im,λo ho hd ob' hg=> ?_,k.io⟩
 ·rcases hh o ob' ho with ⟨rfl,_⟩|⟨_,e⟩
  ·exact .inl g.lo
  ·exact k.new o ob' e
 ·rw[T.get_put,aD (show o≠id by omega)] at hg;exact k.dead o ho hd ob' hg
def mK.adopt {s₀:Nat} {c:CE} {h:AH} {w:World} {id id' ver:Nat} {ob ob':bC} (g:mK CR s₀ c h w id ob) (dc:(c.ρ id).1≠(c.ρ id').1)
 (hh:∀o i9,dU c ⟨h.next,ver,h.oB.put id' ob'⟩ o i9 ->(o=id'/\ i9=ob')∨(o≠id'/\ dU c h o i9)):mK CR s₀ c ⟨h.next,ver,h.oB.put id' ob'⟩ w id ob:=
 ⟨g.dM,g.obj,g.live,g.lo,λo i9 ho=>by
  rcases hh o i9 ho with ⟨rfl,_⟩|⟨_,e⟩
  ·exact dc.symm
  ·exact g.un o i9 e,g.im⟩
structure C7 (c:CE) (h:AH) (w:World) (c':CE) (w':World) (id:Nat):Prop where
 ext:gE c c'
 old:∀b,b<w.heap.size ->w'.heap[b]? =w.heap[b]?
 size:w.heap.size<=w'.heap.size
 has:∀o ob,dU c' h o ob ->o≠id/\ dU c h o ob
 dM:∀o,c'.dM o ->c.dM o∨o=id
 im:c'.im=c.im
 ρ:(c'.ρ id).1=w.heap.size
 io:w'.os=w.os/\ w'.output=w.output
def RS.bring {c:CE} {h:AH} {w w':World} (r:RS CR c h w) {id:Nat} (hnd:¬c.dM id) (hdead:zR h id) (hid:id<h.next) {ob:Obj} (hw:w'.heap=w.heap.push ob) (n:Nat) (hq:w'.os=w.os/\ w'.output=w.output:=by exact⟨rfl,rfl⟩):
 RS CR (c.add id w.heap.size 0 n) h w'/\ C7 c h w (c.add id w.heap.size 0 n) w' id:=by
 have hx:=CE.add_ext c hnd w.heap.size 0 n;have hold:∀b,b<w.heap.size ->w'.heap[b]? =w.heap[b]? :=λb hb=>by rw[hw,Ch hb];exact(og hb).symm
 have hh:∀o ob,dU (c.add id w.heap.size 0 n) h o ob ->o≠id/\ dU c h o ob:=by
  intro o ob ho;have dc:o≠id:=λe=>by
   subst e;have:=hdead ob ho.get;rw[ho.live] at this;cases this
  exact⟨dc,ho.get,ho.live,ho.dM.resolve_right dc⟩
 have hρ:∀o,o≠id ->(c.add id w.heap.size 0 n).ρ o=c.ρ o:=λo e=>by simp[CE.add,e]
 refine⟨⟨λo ho=> ?_,r.lt,λo ob ho=> ?_,λo o' a b ho bT he=> ?_,λb row hb=> ?_,λo ob ho=> ?_,λg l hg=> ?_⟩,hx,hold,by rw[hw];simp,hh,λo ho=>ho,rfl,by rw[CE.add_ρ],hq⟩
 ·rcases ho with ho|rfl
  ·exact r.nx o ho
  ·exact hid
 ·have:=(hh o ob ho).2;exact(r.obj o ob this).mono hx this.dM (hold _ ((r.obj o ob this).lt this.live))
 ·rw[hρ o (hh o a ho).1,hρ o' (hh o' b bT).1] at he;exact r.inj o o' a b (hh o a ho).2 (hh o' b bT).2 he
 ·obtain⟨t,fr,h1⟩:=r.im b row hb;exact⟨t,fr,by rw[hold b (r.im_lt hb)];exact h1⟩
 ·rw[hρ o (hh o ob ho).1];exact r.dj o ob (hh o ob ho).2
 ·obtain⟨row,vs,h1,h2,h3⟩:=r.gl g l hg;exact⟨row,vs,h1,h2,h3.mono hx⟩
def mK.bring {s₀:Nat} {c c':CE} {h:AH} {w w':World} {id id':Nat} {ob:bC} (g:mK CR s₀ c h w id' ob) (b:C7 c h w c' w' id):mK CR s₀ c' h w' id' ob:=by
 have hρ:=b.ext.ρ id' g.dM;refine⟨b.ext.dM _ g.dM,g.obj.mono b.ext g.dM (b.old _ g.lt),g.live,by rw[hρ];exact g.lo,λo ob' ho he=> ?_,by rw[hρ,b.im];exact g.im⟩;have h1:=(b.has o ob' ho).2;rw[hρ,b.ext.ρ o h1.dM] at he;exact g.un o ob' h1 he
def j6.bring {c₀ c c':CE} {h₀ h:AH} {w₀ w w':World} (k:j6 c₀ h₀ w₀ c h w) {id:Nat} (b:C7 c h w c' w' id) (hid:h₀.next<=id):j6 c₀ h₀ w₀ c' h w':=by
 refine⟨fJ k.size b.size,λq hq hn=>by rw[b.old q (iR hq k.size)];exact k.same q hq hn,λo ob ho=> ?_,λo ho=> ?_,k.nxt,λq row hq=> ?_,k.dead,⟨b.io.1.trans k.io.1,b.io.2.trans k.io.2⟩⟩
 ·have h1:=(b.has o ob ho).2;rw[b.ext.ρ o h1.dM];exact k.new o ob h1
 ·rcases b.dM o ho with h1|rfl
  ·exact k.dM o h1
  ·exact .inr hid
 ·rw[b.im] at hq;exact k.im q row hq
def lO.bring {P:Program} {s:Nat} {c c':CE} {h:AH} {w w':World} {l:List Deferred} (m:lO P s c h w l) {id:Nat} (b:C7 c h w c' w' id):lO P s c' h w' l:=by
 refine⟨λd hd=> ?_,m.apart⟩;rcases m.all d hd with ⟨r,h1,h2,h3,h4,h5⟩|m
 case inr=>exact .inr m
 refine .inl ⟨r,h1,h2,iR h3 b.size,by rw[b.old r h3];exact h4,λo ob ho he=> ?_⟩;have h6:=(b.has o ob ho).2;rw[b.ext.ρ o h6.dM] at he;exact h5 o ob h6 he
def lO.adopt {P:Program} {s₀ s:Nat} {c:CE} {h:AH} {w:World} {l:List Deferred} (m:lO P s c h w l) {id ver:Nat} {ob:bC} (g:mK CR s₀ c h w id ob)
 (hh:∀o ob',dU c ⟨h.next,ver,h.oB.put id ob⟩ o ob' ->(o=id/\ ob'=ob)∨(o≠id/\ dU c h o ob')):lO P s c ⟨h.next,ver,h.oB.put id ob⟩ w l:=by
 refine⟨λd hd=> ?_,m.apart⟩;rcases m.all d hd with ⟨r,h1,h2,h3,h4,h5⟩|m
 case inr=>exact .inr m
 refine .inl ⟨r,h1,h2,h3,h4,λo ob' ho he=> ?_⟩;rcases hh o ob' ho with ⟨rfl,_⟩|⟨_,e⟩
 ·rw[←he] at h4;exact g.obj.not_deferred g.live h4
 ·exact h5 o ob' e he
variable {P:Program} {X:aR} {C:aK Prop}
structure jc (P:Program) (CR:Nat ->Code ->aw ->Prop) (X:aR) (C:aK Prop) (N s:Nat) (ops:Array Oper) (A:List Nat) (n HV:Nat) (c₀:CE) (h₀:AH) (w₀:World)
 (done laid:Nat) (bU:List (Nat×Nat)) (ls:List (Nat×MG)) (pd:List (Nat×Nat×bC)) (τ:T AV) (h:AH) (listed:Array Bool) (a:Act) (w:World) (c:CE) (τD:T AV):Prop where
 down:uF ops listed
 din:∀i,cD listed i ->bY done i=true
 cls:∀i,bY done i=true ->cD listed i∨(∃g,(i,g)∈ls)∨(∃k,(i,k)∈bU/\ bY laid i=false)
 laidL:∀i,bY laid i=true ->cD listed i
 lst:∀i g,(i,g)∈ls ->uI X N ops A HV done i g/\ (bY HV i=false/\ xX g.op=true)/\ bY done i=true
 als:∀i k,(i,k)∈bU ->∃g ob x,uH X N ops A done i g/\ (bY HV i=false/\ Ab g.op=true)/\ g.guard=none/\ k<n/\ bY done i=true/\ iC i pd=some (h₀.next+k,ob)/\
  (∃ver h1,step (az C τ) ⟨h₀.next+k,ver,.e⟩ g.op= .v x h1/\ h1.oB.get (h₀.next+k)=some ob)/\ (∀d,g.dst=some d ->τ.get d=some x)/\ (cD listed i ->bY laid i=false ->mK CR w₀.heap.size c h w (h₀.next+k) ob)
 rD:∀i k,(i,k)∈bU ->cD listed i ->c.dM (h₀.next+k)
 rlt:∀i k,(i,k)∈bU ->cD listed i ->(c.ρ (h₀.next+k)).1<w.heap.size
 disj:∀i g k,(i,g)∈ls ->(i,k)∈bU ->False
 runiq:∀i k k',(i,k)∈bU ->(i,k')∈bU ->k=k'
 kuniq:∀i i' k,(i,k)∈bU ->(i',k)∈bU ->i=i'
 apart:∀i k i' k',(i,k)∈bU ->(i',k')∈bU ->cD listed i ->cD listed i' ->i≠i' ->(c.ρ (h₀.next+k)).1≠(c.ρ (h₀.next+k')).1
 fresh:∀k,k<n ->(∀i,(i,k)∈bU ->¬cD listed i) ->¬c.dM (h₀.next+k)
 dead:∀k,k<n ->(∀i,(i,k)∈bU ->bY laid i=false) ->zR h (h₀.next+k)
 nx:h₀.next+n<=h.next
 st:St P CR C.gL N s c h w τD a
 sub:∀t,(∀(j:Nat) o,ops[j]? =some o ->o.dst=some t ->cD listed j) ->τD.get t=τ.get t
 old:∀t,(∀(j:Nat) o,ops[j]? =some o ->o.dst=some t ->bY done j=false) ->τD.get t=τ.get t
 ext:gE c₀ c
 keep:j6 c₀ h₀ w₀ c h w
def An (C:aK Prop) (τ:T AV) (h:AH) (ls:List (Nat×MG)) (listed:Array Bool):Prop:=
 ∀i g,(i,g)∈ls ->¬cD listed i ->∃x,ez C τ h g=some x/\∀d,g.dst=some d ->τ.get d=some x
end
section
variable {P:Program} {CR:Nat ->Code ->aw ->Prop} {X:aR} {C:aK Prop}
variable {N s n HV:Nat} {ops:Array Oper} {A:List Nat} {c₀ c:CE} {h₀ h:AH} {w₀ w:World} {done laid:Nat} {bU:List (Nat×Nat)} {ls:List (Nat×MG)} {pd:List (Nat×Nat×bC)} {τ τD:T AV} {listed:Array Bool} {a:Act}
def jc.agree (S:nM ops A) (I:jc P CR X C N s ops A n HV c₀ h₀ w₀ done laid bU ls pd τ h listed a w c τD) {i:Nat} {g:MG} (hs:uH X N ops A done i g) {o:Oper} (ho:ops[i]? =some o) (hE:qd listed o):
 ∀t∈qc g,τ.get t=τD.get t:=by
 obtain⟨o',h1,h2,h3⟩:=hs;intro t ht;exact(I.sub t λj o'' hj hd=>tA S I.down i o ho hE j (h3 t ht j o'' hj hd).1).symm
def jc.agreeH (S:nM ops A) (I:jc P CR X C N s ops A n HV c₀ h₀ w₀ done laid bU ls pd τ h listed a w c τD) {i:Nat} {g:MG} (hs:uI X N ops A HV done i g) {o:Oper} (ho:ops[i]? =some o) (hE:qd listed o) (hn:¬cD listed i):
 ∀t∈qc g,τ.get t=τD.get t:=by
 obtain⟨o',h1,h2,h3⟩:=hs;intro t ht;by_cases hw:∃(j:Nat) (o'':Oper),ops[j]? =some o''/\ o''.dst=some t
 ·obtain⟨j,o'',hj,hd⟩:=hw;rcases h3 t ht j o'' hj hd with h4|⟨h4,h5⟩
  ·refine(I.sub t λj' o3 bF hd'=> ?_).symm;rw[←S.uniq j j' o'' o3 t hj bF hd hd'];exact tA S I.down i o ho hE j h4.1
  ·have hnj:¬cD listed j:=λhL=>by
    rcases h5 with rfl|h5
    ·exact hn hL
    ·exact hn (tA S I.down j o'' hj (I.down.down j o'' hj hL) i h5)
   have hdj:bY done j=false:=by
    cases hb:bY done j with
    |false=>rfl
    |true=>
     rcases I.cls j hb with q|⟨g',q⟩|⟨k,q,_⟩
     ·exact bh q hnj
     ·have:=(I.lst j g' q).2.1.1;rw[h4] at this;cases this
     ·obtain⟨_,_,_,_,q2,_⟩:=I.als j k q;have:=q2.1;rw[h4] at this;cases this
   refine(I.old t λj' o3 bF hd'=> ?_).symm;rw[←S.uniq j j' o'' o3 t hj bF hd hd'];exact hdj
 ·exact(I.sub t λj o'' hj hd=>bh ⟨j,o'',hj,hd⟩ hw).symm
def jc.old_set (I:jc P CR X C N s ops A n HV c₀ h₀ w₀ done laid bU ls pd τ h listed a w c τD) {i:Nat} {o:Oper} (ho:ops[i]? =some o) {d:Option Nat} (hd:o.dst=d) (hdone:bY done i=true) (x:AV):
 ∀t,(∀(j:Nat) o',ops[j]? =some o' ->o'.dst=some t ->bY done j=false) ->(cj τD d x).get t=τ.get t:=by
 intro t ht;have dc:d≠some t:=λe=>by
  have:=ht i o ho (hd.trans e);rw[hdone] at this;cases this
 rw[←I.old t ht];cases d with
 |none=>rfl
 |some d=>
  show(τD.put d x).get t=_;rw[T.get_put,aD (λe=>dc (by rw[e]))]
def jc.sub_set (S:nM ops A) (I:jc P CR X C N s ops A n HV c₀ h₀ w₀ done laid bU ls pd τ h listed a w c τD) {i:Nat} {o:Oper} (ho:ops[i]? =some o) {d:Option Nat} (hd:o.dst=d) {x:AV}
 (hx:∀t,d=some t ->τ.get t=some x):∀t,(∀(j:Nat) o',ops[j]? =some o' ->o'.dst=some t ->cD (listed.setIfInBounds i true) j) ->(cj τD d x).get t=τ.get t:=by
 have hi:i<listed.size:=by rw[I.down.sz];exact(jX.1 ho).1
 intro t ht;have hrest:d≠some t ->τD.get t=τ.get t:=λdc=>I.sub t λj o' hj hd'=>by
  rcases(cD.set hi).1 (ht j o' hj hd') with rfl|h1
  ·rw[ho] at hj;cases hj;rw[hd] at hd';exact bh hd' dc
  ·exact h1
 cases d with
 |none=>exact hrest (by simp)
 |some d=>
  show(τD.put d x).get t=_;rw[T.get_put];by_cases e:t=d
  ·subst e;rw[aF rfl,hx t rfl]
  ·rw[aD e];exact hrest (λq=>e (gC q).symm)
def ZW (hX:j7 P X) (hC:CfgOK C) {bz bA:Nat ->List AV ->AH ->(AV ->AH ->Prop) ->Prop} (hcall:uz P CR C.gL bz) (hyld:uA P CR C.gL bA) {ro:Option Nat} {Q:Exit ->Act ->World ->Prop}
 (S:nM ops A) (I:jc P CR X C N s ops A n HV c₀ h₀ w₀ done laid bU ls pd τ h listed a w c τD) (L:An C τ h ls listed) {i:Nat} {g:MG} (hm:(i,g)∈ls) {o:Oper} (ho:ops[i]? =some o) (hE:qd listed o) (hn:¬cD listed i):
 wpOpIn (fw ro) 0 P ops Q i (λa' w'=>∃c' τD',jc P CR X C N s ops A n HV c₀ h₀ w₀ done laid bU ls pd τ h (listed.setIfInBounds i true) a' w' c' τD') a w:=by
 have hi:i<listed.size:=by rw[I.down.sz];exact(jX.1 ho).1
 obtain⟨hs,⟨_,hl⟩,hdone⟩:=I.lst i g hm;obtain⟨x,hv,hx⟩:=L i g hm hn;have hag:=I.agreeH S hs ho hE hn;obtain⟨o',bT,aC,hst⟩:=hs;rw[ho] at bT;cases bT;have fH:o.dst=g.dst:=by
  simp only[lP,aB] at aC;exact(uy aC.2.1).1
 have cR:eY C bz bA g τD h (λy h'=>y=x/\ h'=h):=by
  rw[←MD C hag,ZN C hl hv];exact⟨rfl,rfl⟩
 refine CZ hX hC hcall hyld ho aC cR I.st λy h' c' w' a' hk ev st'=> ?_;obtain⟨rfl,rfl⟩:=hk;exact⟨c',cj τD g.dst y,{
  down:=I.down.set ho hE
  din:=λj hj=>by
   rcases(cD.set hi).1 hj with rfl|hj
   ·exact hdone
   ·exact I.din j hj
  cls:=λj hj=>(I.cls j hj).imp (λq=>(cD.set hi).2 (.inr q)) id
  laidL:=λj hj=>(cD.set hi).2 (.inr (I.laidL j hj))
  lst:=I.lst
  als:=λj k hj=>by
   obtain⟨g',ob,x',q1,q2,q3,q4,q5,q6,q7,q8,q9⟩:=I.als j k hj;refine⟨g',ob,x',q1,q2,q3,q4,q5,q6,q7,q8,λhL hlaid=> ?_⟩;rcases(cD.set hi).1 hL with rfl|hL
   ·exact(I.disj _ _ _ hm hj).elim
   ·exact(q9 hL hlaid).evo ev
  rD:=λj k hj hL=>by
   have e1:cD listed j:=((cD.set hi).1 hL).resolve_left λe=>I.disj _ _ _ hm (e▸hj);exact ev.ext.dM _ (I.rD j k hj e1)
  rlt:=λj k hj hL=>by
   have e1:cD listed j:=((cD.set hi).1 hL).resolve_left λe=>I.disj _ _ _ hm (e▸hj);rw[ev.ext.ρ _ (I.rD j k hj e1)];exact iR (I.rlt j k hj e1) ev.keep.size
  disj:=I.disj
  runiq:=I.runiq
  kuniq:=I.kuniq
  apart:=λj k j' k' hj bF hL hL' dc=>by
   have e1:cD listed j:=((cD.set hi).1 hL).resolve_left λe=>I.disj _ _ _ hm (e▸hj);have e2:cD listed j':=((cD.set hi).1 hL').resolve_left λe=>I.disj _ _ _ hm (e▸bF);have h1:=I.apart j k j' k' hj bF e1 e2 dc;rw[ev.ext.ρ _ (I.rD j k hj e1),ev.ext.ρ _ (I.rD j' k' bF e2)];exact h1
  fresh:=λk hk hf hd=>by
   have h1:=I.fresh k hk (λj hj hL=>hf j hj ((cD.set hi).2 (.inr hL)));rcases ev.keep.dM _ hd with h2|h2
   ·exact h1 h2
   ·have:=I.nx;omega
  dead:=I.dead
  nx:=I.nx
  st:=st'
  sub:=I.sub_set S ho fH hx
  old:=I.old_set ho fH hdone _
  ext:=I.ext.trans ev.ext
  keep:=I.keep.trans ev.keep }⟩
def ZX (hX:j7 P X) {ro:Option Nat} {Q:Exit ->Act ->World ->Prop}
 (S:nM ops A) (I:jc P CR X C N s ops A n HV c₀ h₀ w₀ done laid bU ls pd τ h listed a w c τD) {i k:Nat} (hm:(i,k)∈bU) (hlaid:bY laid i=false) {o:Oper} (ho:ops[i]? =some o) (hE:qd listed o) (hn:¬cD listed i):
 wpOpIn (fw ro) 0 P ops Q i (λa' w'=>∃c' τD',jc P CR X C N s ops A n HV c₀ h₀ w₀ done laid bU ls pd τ h (listed.setIfInBounds i true) a' w' c' τD') a w:=by
 have hi:i<listed.size:=by rw[I.down.sz];exact(jX.1 ho).1
 obtain⟨g,ob,x,hs,⟨_,hal⟩,hgd,hk,hdone,hfp,⟨ver,h1,hst1,hget⟩,hx,_⟩:=I.als i k hm;have hag:=I.agree S hs ho hE;obtain⟨o',bT,aC,hst⟩:=hs;rw[ho] at bT;cases bT;simp only[lP,aB] at aC;obtain⟨k1,k2,k3⟩:=aC;have fH:=uy k2;have hog:o.guard=none:=by
  rw[hgd] at k3;cases hg:o.guard with
  |none=>rfl
  |some q=>rw[hg] at k3;cases k3
 have hw:Region.wanted o (yielded ops a.tmps)=true:=by simp[Region.wanted,hog]
 unfold wpOpIn;simp only[ho,hw,dZ];refine Mx (Mz k1) ?_;have hcx:Cx CR c h w (az C τD) a.eval:=⟨I.st.rs,λm y hm=>zT C I.st.tr I.st.gl I.st.rs.gl hm⟩;have hcong:∀H,step (az C τ) H g.op=step (az C τD) H g.op:=λH=>wj (wp C hag);have hnd:¬c.dM (h₀.next+k):=I.fresh k hk λj hj hL=>hn (I.kuniq i j k hm hj▸hL);have hdead:zR h (h₀.next+k):=I.dead k hk λj hj=>I.kuniq i j k hm hj▸hlaid;have hid:h₀.next+k<h.next:=by have:=I.nx;omega
 rcases ZP hX hcx hal k1 (o:=o) with ⟨obj,val,e1,e2,v,w',obx,nn,hr,⟨hpush,hpio⟩,F⟩|hbad
 ·rw[hcong,e1,AH.new_eq] at hst1;injection hst1 with hv1 hh1
  subst hv1;rw[←hh1] at hget;dsimp only at hget;rw[T.get_put,aF rfl] at hget;cases hget;rw[hr,Oper.uponIn_value,fH.1];obtain⟨rs',br⟩:=RS.bring I.st.rs hnd hdead hid hpush nn hpio;obtain⟨hob,hvr⟩:=F (c.add (h₀.next+k) w.heap.size 0 nn) w' (h₀.next+k) ver br.ext (by simp) (by simp) (by simp) (by rw[hpush];simp);have hgarb:mK CR w₀.heap.size (c.add (h₀.next+k) w.heap.size 0 nn) h w' (h₀.next+k) (obj ver):=by
   refine⟨by simp,hob,e2 ver,by rw[br.ρ];exact I.keep.size,λo₁ i9 hh he=> ?_,?_⟩
   ·have h3:=(br.has o₁ i9 hh).2;rw[br.ρ,br.ext.ρ o₁ h3.dM] at he;have:=(I.st.rs.obj o₁ i9 h3).lt h3.live;omega
   ·rw[br.ρ,br.im];cases hq:c.im w.heap.size with
    |none=>rfl
    |some row=>have:=I.st.rs.im_lt hq;omega
  refine⟨c.add (h₀.next+k) w.heap.size 0 nn,cj τD g.dst (val (h₀.next+k)),?_⟩;have hstn:∀{j k'},(j,k')∈bU ->cD (listed.setIfInBounds i true) j ->(j=i/\ k'=k)∨(j≠i/\ cD listed j):=by
   intro j k' hj hL;by_cases e:j=i
   ·subst e;exact .inl ⟨rfl,I.runiq _ _ _ hj hm⟩
   ·exact .inr ⟨e,((cD.set hi).1 hL).resolve_left λq=>e q.symm⟩
  have hbl:∀{j k'},(j,k')∈bU ->cD listed j ->bY laid j=true∨bY laid j=false:=λ_ _=>by
   cases bY laid _<;>simp
  have hltb:∀{j k'},(j,k')∈bU ->cD listed j ->(c.ρ (h₀.next+k')).1<w.heap.size:=λ{j k'} hj hL=>I.rlt j k' hj hL;exact {
   down:=I.down.set ho hE
   din:=λj hj=>by
    rcases(cD.set hi).1 hj with rfl|hj
    ·exact hdone
    ·exact I.din j hj
   cls:=λj hj=>(I.cls j hj).imp (λq=>(cD.set hi).2 (.inr q)) id
   laidL:=λj hj=>(cD.set hi).2 (.inr (I.laidL j hj))
   lst:=I.lst
   als:=λj k' hj=>by
    obtain⟨g',ob',x',q1,q2,q3,q4,q5,q6,q7,q8,q9⟩:=I.als j k' hj;refine⟨g',ob',x',q1,q2,q3,q4,q5,q6,q7,q8,λhL hl'=> ?_⟩;rcases hstn hj hL with ⟨rfl,rfl⟩|⟨_,hL⟩
    ·rw[hfp] at q6;cases q6;exact hgarb
    ·exact(q9 hL hl').bring br
   rD:=λj k' hj hL=>by
    rcases hstn hj hL with ⟨rfl,rfl⟩|⟨_,hL⟩
    ·simp
    ·exact br.ext.dM _ (I.rD j k' hj hL)
   rlt:=λj k' hj hL=>by
    rcases hstn hj hL with ⟨rfl,rfl⟩|⟨_,hL⟩
    ·rw[br.ρ,hpush];simp
    ·rw[br.ext.ρ _ (I.rD j k' hj hL)];exact iR (I.rlt j k' hj hL) br.size
   disj:=I.disj
   runiq:=I.runiq
   kuniq:=I.kuniq
   apart:=λj k' j' k'' hj bF hL hL' dc=>by
    rcases hstn hj hL with ⟨rfl,rfl⟩|⟨f1,m1⟩<;>rcases hstn bF hL' with ⟨rfl,rfl⟩|⟨f2,m2⟩
    ·exact bh rfl dc
    ·rw[br.ρ,br.ext.ρ _ (I.rD j' k'' bF m2)];have:=I.rlt j' k'' bF m2;omega
    ·rw[br.ρ,br.ext.ρ _ (I.rD j k' hj m1)];have:=I.rlt j k' hj m1;omega
    ·rw[br.ext.ρ _ (I.rD j k' hj m1),br.ext.ρ _ (I.rD j' k'' bF m2)];exact I.apart j k' j' k'' hj bF m1 m2 dc
   fresh:=λk' hk' hf hd=>by
    rcases br.dM _ hd with h2|h2
    ·exact I.fresh k' hk' (λj hj hL=>hf j hj ((cD.set hi).2 (.inr hL))) h2
    ·have:k'=k:=by omega
     subst this;exact hf i hm ((cD.set hi).2 (.inl rfl))
   dead:=I.dead
   nx:=I.nx
   st:=⟨rs',z8 I.st.gl br.ext,TR.put (I.st.tr.mono br.ext) (λt ht=>iR (fH.2 t ht) I.st.sz) hvr,by cases g.dst<;>simp[Act.put]<;>exact I.st.sz,
    by cases g.dst<;>exact I.st.marks.bring br⟩
   sub:=I.sub_set S ho fH.1 hx
   old:=I.old_set ho fH.1 hdone _
   ext:=I.ext.trans br.ext
   keep:=I.keep.bring br (xJ _ _) }
 ·rw[hcong,hbad] at hst1;cases hst1
def jc.adopt (I:jc P CR X C N s ops A n HV c₀ h₀ w₀ done laid bU ls pd τ h listed a w c τD) {i k:Nat} (hm:(i,k)∈bU) (hlaid:bY laid i=false) (hL:cD listed i) {id:Nat} {ob:bC} (hf:iC i pd=some (id,ob)):
 jc P CR X C N s ops A n HV c₀ h₀ w₀ done (ip laid i) bU ls pd τ ⟨h.next,Nat.succ h.ver,h.oB.put id ob⟩ listed a w c τD:=by
 obtain⟨g,ob',x,q1,q2,q3,q4,q5,q6,q7,q8,q9⟩:=I.als i k hm;rw[hf] at q6;cases q6;have G:=q9 hL hlaid;have hid:h₀.next+k<h.next:=by have:=I.nx;omega
 obtain⟨rs',hh⟩:=RS.adopt I.st.rs G (Nat.succ h.ver) hid;have hsplit:∀{j},bY (ip laid i) j=false ->i≠j/\ bY laid j=false:=by
  intro j hj;rw[nK,Ci,Cr] at hj;exact⟨hj.2,hj.1⟩
 exact {
  down:=I.down
  din:=I.din
  cls:=λj hj=>by
   rcases I.cls j hj with h1|h1|⟨k',h1,h2⟩
   ·exact .inl h1
   ·exact .inr (.inl h1)
   ·by_cases e:i=j
    ·subst e;exact .inl hL
    ·exact .inr (.inr ⟨k',h1,by rw[nK,h2];simp[e]⟩)
  laidL:=λj hj=>by
   rw[nK,ja,aU] at hj;rcases hj with hj|rfl
   ·exact I.laidL j hj
   ·exact hL
  lst:=I.lst
  als:=λj k' hj=>by
   obtain⟨g',ob₂,x',p1,p2,p3,p4,p5,p6,p7,p8,p9⟩:=I.als j k' hj;refine⟨g',ob₂,x',p1,p2,p3,p4,p5,p6,p7,p8,λhLj hl'=> ?_⟩;obtain⟨dc,hl'⟩:=hsplit hl';exact(p9 hLj hl').adopt (I.apart j k' i k hj hm hLj hL (Ne.symm dc)) hh
  rD:=I.rD
  rlt:=I.rlt
  disj:=I.disj
  runiq:=I.runiq
  kuniq:=I.kuniq
  apart:=I.apart
  fresh:=I.fresh
  dead:=λk' hk' hf' i9 hg=>by
   by_cases e:k'=k
   ·subst e;have:=hf' i hm;rw[uJ] at this;cases this
   ·rw[T.get_put,aD (show h₀.next+k'≠h₀.next+k by omega)] at hg;exact I.dead k' hk' (λj hj=>(hsplit (hf' j hj)).2) i9 hg
  nx:=I.nx
  st:=⟨rs',I.st.gl,I.st.tr,I.st.sz,I.st.marks.adopt G hh⟩
  sub:=I.sub
  old:=I.old
  ext:=I.ext
  keep:=I.keep.adopt G _ (xJ _ _) hh }
def ox (τ:T AV) (d:Option Nat) (x:AV) (t:Nat):(cj τ d x).get t=if d=some t then some x else τ.get t:=by
 cases d with
 |none=>simp[cj]
 |some d=>
  show(τ.put d x).get t=_;rw[T.get_put];by_cases e:t=d
  ·subst e;simp
  ·rw[aD e,aD (λq=>e (gC q).symm)]
def C8 {i j:Nat} {g gj:MG} {o:Oper} (ho:ops[i]? =some o) (hd:o.dst=g.dst) (hn:bY done i=false) (hs:uH X N ops A done j gj) (x:AV):∀t∈qc gj,(cj τ g.dst x).get t=τ.get t:=by
 intro t ht;rw[ox,aD];intro e;obtain⟨_,_,_,h3⟩:=hs;have:=(h3 t ht i o ho (hd.trans e)).2;rw[hn] at this;cases this
def GM {i j:Nat} {g gj:MG} {o:Oper} (ho:ops[i]? =some o) (hd:o.dst=g.dst) (hn:bY done i=false) (hv:bY HV i=false) (hs:uI X N ops A HV done j gj) (x:AV):∀t∈qc gj,(cj τ g.dst x).get t=τ.get t:=by
 intro t ht;rw[ox,aD];intro e;obtain⟨_,_,_,h3⟩:=hs;rcases h3 t ht i o ho (hd.trans e) with h|h
 ·have:=h.2;rw[hn] at this;cases this
 ·have:=h.1;rw[hv] at this;cases this
def MS (S:nM ops A) {i j:Nat} {g gj:MG} {o:Oper} (ho:ops[i]? =some o) (hd:o.dst=g.dst) (hn:bY done i=false) (hs:uI X N ops A HV done j gj) (hj:bY done j=true) (x:AV):
 ∀d,gj.dst=some d ->(cj τ g.dst x).get d=τ.get d:=by
 intro d hdj;rw[ox,aD];intro e;obtain⟨o',h1,h2,_⟩:=hs;simp only[lP,aB] at h2;have hd':=(uy h2.2.1).1;have:=S.uniq i j o o' d ho h1 (hd.trans e) (hd'.trans hdj);subst this;rw[hn] at hj;cases hj
def GN (S:nM ops A) {i j:Nat} {g gj:MG} {o:Oper} (ho:ops[i]? =some o) (hd:o.dst=g.dst) (hn:bY done i=false) (hs:uH X N ops A done j gj) (hj:bY done j=true) (x:AV):
 ∀d,gj.dst=some d ->(cj τ g.dst x).get d=τ.get d:=by
 intro d hdj;rw[ox,aD];intro e;obtain⟨o',h1,h2,_⟩:=hs;simp only[lP,aB] at h2;have hd':=(uy h2.2.1).1;have:=S.uniq i j o o' d ho h1 (hd.trans e) (hd'.trans hdj);subst this;rw[hn] at hj;cases hj
def GO (hC:CfgOK C) {τ:T AV} {h:AH} {mask:Nat} {k:Prop}:∀{ls:List (Nat×MG)},eA C τ h mask ls k ->
 (∀i g,(i,g)∈ls ->bY mask i=false ->∃x,ez C τ h g=some x/\∀d,g.dst=some d ->τ.get d=some x)/\ k
 |[],hk=>⟨λi g h=>(by cases h),hk⟩
 |(i,g)::r,hk=>by
  have hk':(bif Nat.testBit mask i then eA C τ h mask r k else match ez C τ h g with
   |some x=>match g.dst with
    |none=>eA C τ h mask r k
    |some d=>match τ.get d with
     |some y=>bif cZ 64 x y then eA C τ h mask r k else C.fail
     |none=>C.fail
   |none=>C.fail):=hk
  cases hb:Nat.testBit mask i with
  |true=>
   rw[hb] at hk';have ih:=GO hC hk';refine⟨λj gj hj hm=> ?_,ih.2⟩;rcases ed.1 hj with e|hj
   ·cases e;have hb':bY mask i=true:=hb;rw[hb'] at hm;cases hm
   ·exact ih.1 j gj hj hm
  |false=>
   rw[hb] at hk';simp only[eU] at hk';cases hv:ez C τ h g with
   |none=>rw[hv] at hk';dsimp only at hk';rw[hC.fail] at hk';exact hk'.elim
   |some x=>
    rw[hv] at hk';dsimp only at hk';have fin:(∀d,g.dst=some d ->τ.get d=some x) ->eA C τ h mask r k ->(∀i' g',(i',g')∈(i,g)::r ->bY mask i'=false ->∃x,ez C τ h g'=some x/\∀d,g'.dst=some d ->τ.get d=some x)/\ k:=by
     intro hx hk;have ih:=GO hC hk;refine⟨λj gj hj hm=> ?_,ih.2⟩;rcases ed.1 hj with e|hj
     ·cases e;exact⟨x,hv,hx⟩
     ·exact ih.1 j gj hj hm
    cases hd:g.dst with
    |none=>rw[hd] at hk';exact fin (λd e=>by rw[hd] at e;cases e) hk'
    |some d=>
     rw[hd] at hk';dsimp only at hk';cases ht:τ.get d with
     |none=>rw[ht] at hk';dsimp only at hk';rw[hC.fail] at hk';exact hk'.elim
     |some y=>
      rw[ht] at hk';dsimp only at hk';cases he:cZ 64 x y with
      |false=>rw[he,eU,hC.fail] at hk';exact hk'.elim
      |true=>
       rw[he,fC] at hk';have:=tv _ _ _ he;subst this;exact fin (λd' e=>by rw[hd] at e;cases e;exact ht) hk'
def ZY (hX:j7 P X) (hC:CfgOK C) {bz bA:Nat ->List AV ->AH ->(AV ->AH ->Prop) ->Prop} (hcall:uz P CR C.gL bz) (hyld:uA P CR C.gL bA) {ro:Option Nat} {Q:Exit ->Act ->World ->Prop} {K:T AV ->AH ->Prop}
 (S:nM ops A) (I:jc P CR X C N s ops A n HV c₀ h₀ w₀ done laid bU ls pd τ h listed a w c τD) {i mask:Nat} {g:MG} {r:List DI} {fl:Bool} {last:Option Nat}
 (hck:iT X N ops A n HV (.heavy i g mask::r) fl done last laid bU=true) (cR:bW C bz bA h₀.next K (.heavy i g mask::r) ls pd τ h) {o:Oper} (ho:ops[i]? =some o) (hE:qd listed o) (hn:¬cD listed i):
 wpOpIn (fw ro) 0 P ops Q i (λa' w'=>∃τ' h' c' τD',jc P CR X C N s ops A n HV c₀ h₀ w₀ (ip done i) laid bU ls pd τ' h' (listed.setIfInBounds i true) a' w' c' τD'/\ An C τ' h' ls (listed.setIfInBounds i true)/\
  bW C bz bA h₀.next K r ls pd τ' h') a w:=by
 have hi:i<listed.size:=by rw[I.down.sz];exact(jX.1 ho).1
 obtain⟨k1,k2,k3,k4,k5⟩:=wv hck;obtain⟨hs,hnd⟩:=C6 k1;have hag:=I.agreeH S hs ho hE hn;obtain⟨o',bT,aC,hst⟩:=hs;rw[ho] at bT;cases bT;have fH:o.dst=g.dst:=by
  simp only[lP,aB] at aC;exact(uy aC.2.1).1
 replace cR:eY C bz bA g τ h (λx h=>eh τ g.dst x λτ=>eA C τ h mask ls (bW C bz bA h₀.next K r ls pd τ h)):=cR;rw[MD C hag] at cR;refine CZ hX hC hcall hyld ho aC cR I.st λx h' c' w' a' hk ev st'=> ?_;rw[iI] at hk;obtain⟨hre,hk⟩:=GO hC hk;have hmono:∀j,bY done j=true ->bY (ip done i) j=true:=λj hj=>ww hj;have hset:∀{j},cD (listed.setIfInBounds i true) j ->bY done j=true ->cD listed j:=λ{j} hL hj=>((cD.set hi).1 hL).resolve_left λe=>by
  subst e;rw[hnd] at hj;cases hj
 refine⟨cj τ g.dst x,h',c',cj τD g.dst x,?_,?_,hk⟩
 ·exact {
   down:=I.down.set ho hE
   din:=λj hj=>by
    rcases(cD.set hi).1 hj with rfl|hj
    ·exact uJ _ _
    ·exact ww (I.din j hj)
   cls:=λj hj=>by
    rw[nK,ja,aU] at hj;rcases hj with hj|rfl
    ·exact(I.cls j hj).imp (λq=>(cD.set hi).2 (.inr q)) id
    ·exact .inl ((cD.set hi).2 (.inl rfl))
   laidL:=λj hj=>(cD.set hi).2 (.inr (I.laidL j hj))
   lst:=λj gj hj=>⟨(I.lst j gj hj).1.mono hmono,(I.lst j gj hj).2.1,hmono j (I.lst j gj hj).2.2⟩
   als:=λj k hj=>by
    obtain⟨g',ob,x',q1,q2,q3,q4,q5,q6,⟨ver,h1,q7,q7'⟩,q8,q9⟩:=I.als j k hj;refine⟨g',ob,x',q1.mono hmono,q2,q3,q4,hmono j q5,q6,⟨ver,h1,?_,q7'⟩,λd hd=> ?_,λhL hl'=>(q9 (hset hL q5) hl').evo ev⟩
    ·rw[←q7];exact wj (wp C (C8 ho fH hnd q1 x))
    ·rw[GN S ho fH hnd q1 q5 x d hd];exact q8 d hd
   rD:=λj k hj hL=>by
    obtain⟨g',ob,x',q1,q2,q3,q4,q5,_⟩:=I.als j k hj;exact ev.ext.dM _ (I.rD j k hj (hset hL q5))
   rlt:=λj k hj hL=>by
    obtain⟨g',ob,x',q1,q2,q3,q4,q5,_⟩:=I.als j k hj;rw[ev.ext.ρ _ (I.rD j k hj (hset hL q5))];exact iR (I.rlt j k hj (hset hL q5)) ev.keep.size
   disj:=I.disj
   runiq:=I.runiq
   kuniq:=I.kuniq
   apart:=λj k j' k' hj bF hL hL' dc=>by
    obtain⟨_,_,_,_,_,_,_,q5,_⟩:=I.als j k hj;obtain⟨_,_,_,_,_,_,_,q5',_⟩:=I.als j' k' bF;rw[ev.ext.ρ _ (I.rD j k hj (hset hL q5)),ev.ext.ρ _ (I.rD j' k' bF (hset hL' q5'))];exact I.apart j k j' k' hj bF (hset hL q5) (hset hL' q5') dc
   fresh:=λk hk hf hd=>by
    have h1:=I.fresh k hk (λj hj hL=>hf j hj ((cD.set hi).2 (.inr hL)));rcases ev.keep.dM _ hd with h2|h2
    ·exact h1 h2
    ·have:=I.nx;omega
   dead:=λk hk hf=>ev.keep.dead _ (by have:=I.nx;omega) (I.dead k hk hf)
   nx:=fJ I.nx ev.keep.nxt
   st:=st'
   sub:=λt ht=>by
    rw[ox,ox];by_cases e:g.dst=some t
    ·rw[aF e,aF e]
    ·rw[aD e,aD e];refine I.sub t λj o' hj hd'=> ?_;rcases(cD.set hi).1 (ht j o' hj hd') with rfl|h1
     ·rw[ho] at hj;cases hj;exact bh (fH.symm.trans hd') e
     ·exact h1
   old:=λt ht=>by
    have e:g.dst≠some t:=λe=>by
     have:=ht i o ho (fH.trans e);rw[uJ] at this;cases this
    rw[ox,ox,aD e,aD e];refine I.old t λj o' hj hd'=> ?_;have:=ht j o' hj hd';rw[nK,Ci] at this;exact this.1
   ext:=I.ext.trans ev.ext
   keep:=I.keep.trans ev.keep }
 ·intro j gj hj hL;refine hre j gj hj ?_;cases hb:bY mask j with
  |false=>rfl
  |true=>exact bh ((cD.set hi).2 (.inr (tA S I.down i o ho hE j (MP k3 j hb)))) hL
def MT {i:Nat}:∀{l:List (Nat×Nat)},Ae i l=true ->∃k,(i,k)∈l
 |[],h=>by cases h
 |(j,k)::r,h=>by
  have h':(Nat.beq j i||Ae i r)=true:=h;rw[ja,bu,aU] at h';rcases h' with rfl|h'
  ·exact⟨k,jG⟩
  ·obtain⟨k',h1⟩:=MT h';exact⟨k',jw _ h1⟩
def GP {k:Nat}:∀{l:List (Nat×Nat)},Af k l=true ->∀i,(i,k)∉l
 |[],_,i,h=>by cases h
 |(j,k')::r,h,i,hm=>by
  have h':(!(Nat.beq k' k)&&Af k r)=true:=h;rw[aB,bu] at h';rcases ed.1 hm with e|hm
  ·cases e;simp at h'
  ·exact GP h'.2 i hm
def MU (hC:CfgOK C) {bz bA:Nat ->List AV ->AH ->(AV ->AH ->Prop) ->Prop} {K:T AV ->AH ->Prop} (S:nM ops A):∀(l:List DI) (done:Nat) (bU:List (Nat×Nat)) (ls:List (Nat×MG)) (pd:List (Nat×Nat×bC)) (τ:T AV) (last:Option Nat),
 jc P CR X C N s ops A n HV c₀ h₀ w₀ done laid bU ls pd τ h listed a w c τD ->An C τ h ls listed ->iT X N ops A n HV l false done last laid bU=true ->bW C bz bA h₀.next K l ls pd τ h ->
 ∃l' done' rsv' ls' pd' τ',jc P CR X C N s ops A n HV c₀ h₀ w₀ done' laid rsv' ls' pd' τ' h listed a w c τD/\ An C τ' h ls' listed/\ iT X N ops A n HV l' false done' last laid rsv'=true/\ Am false l'/\ bW C bz bA h₀.next K l' ls' pd' τ' h:=by
 intro l;induction l with
 |nil=>intro done bU ls pd τ last I L hck cR;exact⟨[],done,bU,ls,pd,τ,I,L,hck,.inr trivial,cR⟩
 |cons d r ih=>
  intro done bU ls pd τ last I L hck cR;cases d with
  |lay i=>exact⟨_,done,bU,ls,pd,τ,I,L,hck,.inr trivial,cR⟩
  |heavy i g m=>exact⟨_,done,bU,ls,pd,τ,I,L,hck,.inr trivial,cR⟩
  |light i g=>
   obtain⟨_,k1,k2,k3,k4⟩:=Ag hck;obtain⟨hs,hnd⟩:=C6 k1;have hnl:¬cD listed i:=λhL=>by have:=I.din i hL;rw[hnd] at this;cases this
   have hs':=hs;obtain⟨o,ho,aC,_⟩:=hs';have fH:o.dst=g.dst:=by
    simp only[lP,aB] at aC;exact(uy aC.2.1).1
   replace cR:(match ez C τ h g with
    |some x=>eh τ g.dst x λτ=>bW C bz bA h₀.next K r ((i,g)::ls) pd τ h
    |none=>C.fail):=cR
   cases hv:ez C τ h g with
   |none=>rw[hv] at cR;dsimp only at cR;rw[hC.fail] at cR;exact cR.elim
   |some x=>
    rw[hv] at cR;dsimp only at cR;rw[iI] at cR;have hmono:∀j,bY done j=true ->bY (ip done i) j=true:=λj hj=>ww hj;refine ih (ip done i) bU ((i,g)::ls) pd (cj τ g.dst x) last ?_ ?_ k4 cR
    ·exact {
      down:=I.down
      din:=λj hj=>ww (I.din j hj)
      cls:=λj hj=>by
       rw[nK,ja,aU] at hj;rcases hj with hj|rfl
       ·rcases I.cls j hj with h1|⟨g',h1⟩|h1
        ·exact .inl h1
        ·exact .inr (.inl ⟨g',jw _ h1⟩)
        ·exact .inr (.inr h1)
       ·exact .inr (.inl ⟨g,jG⟩)
      laidL:=I.laidL
      lst:=λj gj hj=>by
       rcases ed.1 hj with e|hj
       ·cases e;exact⟨hs.mono hmono,k2,uJ _ _⟩
       ·exact⟨(I.lst j gj hj).1.mono hmono,(I.lst j gj hj).2.1,hmono j (I.lst j gj hj).2.2⟩
      als:=λj k hj=>by
       obtain⟨g',ob,x',q1,q2,q3,q4,q5,q6,⟨ver,h1,q7,q7'⟩,q8,q9⟩:=I.als j k hj;refine⟨g',ob,x',q1.mono hmono,q2,q3,q4,hmono j q5,q6,⟨ver,h1,?_,q7'⟩,λd hd=> ?_,q9⟩
       ·rw[←q7];exact wj (wp C (C8 ho fH hnd q1 x))
       ·rw[GN S ho fH hnd q1 q5 x d hd];exact q8 d hd
      rD:=I.rD
      rlt:=I.rlt
      disj:=λj gj k hj bF=>by
       rcases ed.1 hj with e|hj
       ·cases e;obtain⟨_,_,_,_,_,_,_,q5,_⟩:=I.als i k bF;rw[hnd] at q5;cases q5
       ·exact I.disj j gj k hj bF
      runiq:=I.runiq
      kuniq:=I.kuniq
      apart:=I.apart
      fresh:=I.fresh
      dead:=I.dead
      nx:=I.nx
      st:=I.st
      sub:=λt ht=>by
       rw[ox,aD,I.sub t ht];intro e;exact hnl (ht i o ho (fH.trans e))
      old:=λt ht=>by
       rw[ox,aD,I.old t]
       ·intro j o' hj hd';have:=ht j o' hj hd';rw[nK,Ci] at this;exact this.1
       ·intro e;have:=ht i o ho (fH.trans e);rw[uJ] at this;cases this
      ext:=I.ext
      keep:=I.keep }
    ·intro j gj hj hL;rcases ed.1 hj with e|hj
     ·cases e;exact⟨x,by rw[Gy C (GM ho fH hnd k2.1 hs x)];exact hv,λd hd=>by rw[ox,aF hd]⟩
     ·obtain⟨y,hy,hy'⟩:=L j gj hj hL;obtain⟨q1,_,q3⟩:=I.lst j gj hj;exact⟨y,by rw[Gy C (GM ho fH hnd k2.1 q1 x)];exact hy,λd hd=>by rw[MS S ho fH hnd q1 q3 x d hd];exact hy' d hd⟩
  |resv i k g=>
   obtain⟨_,k1,k2,k3,k4,k5,k6,k7⟩:=Ah hck;obtain⟨hs,hnd⟩:=ZU k1;have hnl:¬cD listed i:=λhL=>by have:=I.din i hL;rw[hnd] at this;cases this
   have hs':=hs;obtain⟨o,ho,aC,_⟩:=hs';have fH:o.dst=g.dst:=by
    simp only[lP,aB] at aC;exact(uy aC.2.1).1
   replace cR:fN (h₀.next+k) (λid=>match step (az C τ) ⟨id,h.ver,.e⟩ g.op with
    | .v x h'=>match h'.oB.get id with
     |some ob=>eh τ g.dst x λτ=>bW C bz bA h₀.next K r ls ((i,id,ob)::pd) τ h
     |none=>C.fail
    |_=>C.fail):=cR
   rw[dT] at cR;cases hv:step (az C τ) ⟨h₀.next+k,h.ver,.e⟩ g.op with
   |v x h1=>
    rw[hv] at cR;dsimp only at cR;cases hg:h1.oB.get (h₀.next+k) with
    |none=>rw[hg] at cR;dsimp only at cR;rw[hC.fail] at cR;exact cR.elim
    |some ob=>
     rw[hg] at cR;dsimp only at cR;rw[iI] at cR;have hmono:∀j,bY done j=true ->bY (ip done i) j=true:=λj hj=>ww hj;have hrn:∀j k',(j,k')∈bU ->j≠i:=λj k' hj e=>by
      subst e;obtain⟨_,_,_,_,_,_,_,q5,_⟩:=I.als j k' hj;rw[hnd] at q5;cases q5
     have hlaid:bY laid i=false:=by
      cases hb:bY laid i with
      |false=>rfl
      |true=>exact bh (I.laidL i hb) hnl
     refine ih (ip done i) ((i,k)::bU) ls ((i,h₀.next+k,ob)::pd) (cj τ g.dst x) last ?_ ?_ k7 cR
     ·exact {
       down:=I.down
       din:=λj hj=>ww (I.din j hj)
       cls:=λj hj=>by
        rw[nK,ja,aU] at hj;rcases hj with hj|rfl
        ·rcases I.cls j hj with h1|h1|⟨k',h1,h2⟩
         ·exact .inl h1
         ·exact .inr (.inl h1)
         ·exact .inr (.inr ⟨k',jw _ h1,h2⟩)
        ·exact .inr (.inr ⟨k,jG,hlaid⟩)
       laidL:=I.laidL
       lst:=λj gj hj=>⟨(I.lst j gj hj).1.mono hmono,(I.lst j gj hj).2.1,hmono j (I.lst j gj hj).2.2⟩
       als:=λj k' hj=>by
        rcases ed.1 hj with e|hj
        ·cases e;refine⟨g,ob,x,hs.mono hmono,k2,by simpa using k3,k5,uJ _ _,?_,⟨h.ver,h1,?_,hg⟩,λd hd=>by rw[ox,aF hd],λhL=>bh hL hnl⟩
         ·show(bif Nat.beq i i then some (h₀.next+k,ob) else iC i pd)=_;rw[bu];simp
         ·rw[←hv];exact wj (wp C (C8 ho fH hnd hs x))
        ·obtain⟨g',ob',x',q1,q2,q3,q4,q5,q6,⟨ver,h2,q7,q7'⟩,q8,q9⟩:=I.als j k' hj;refine⟨g',ob',x',q1.mono hmono,q2,q3,q4,hmono j q5,?_,⟨ver,h2,?_,q7'⟩,λd hd=> ?_,q9⟩
         ·show(bif Nat.beq i j then some (h₀.next+k,ob) else iC j pd)=_;rw[bu,ot (Ne.symm (hrn j k' hj))];exact q6
         ·rw[←q7];exact wj (wp C (C8 ho fH hnd q1 x))
         ·rw[GN S ho fH hnd q1 q5 x d hd];exact q8 d hd
       rD:=λj k' hj hL=>by
        rcases ed.1 hj with e|hj
        ·cases e;exact bh hL hnl
        ·exact I.rD j k' hj hL
       rlt:=λj k' hj hL=>by
        rcases ed.1 hj with e|hj
        ·cases e;exact bh hL hnl
        ·exact I.rlt j k' hj hL
       disj:=λj gj k' hj bF=>by
        rcases ed.1 bF with e|bF
        ·cases e;have:=(I.lst i gj hj).2.2;rw[hnd] at this;cases this
        ·exact I.disj j gj k' hj bF
       runiq:=λj p q hp hq=>by
        rcases ed.1 hp with e|hp<;>rcases ed.1 hq with e'|hq
        ·cases e;cases e';rfl
        ·cases e;exact bh rfl (hrn _ _ hq)
        ·cases e';exact bh rfl (hrn _ _ hp)
        ·exact I.runiq j p q hp hq
       kuniq:=λj j' p hp hq=>by
        rcases ed.1 hp with e|hp<;>rcases ed.1 hq with e'|hq
        ·cases e;cases e';rfl
        ·cases e;exact bh hq (GP k6 j')
        ·cases e';exact bh hp (GP k6 j)
        ·exact I.kuniq j j' p hp hq
       apart:=λj p j' q hp hq hL hL' dc=>by
        rcases ed.1 hp with e|hp
        ·cases e;exact bh hL hnl
        ·rcases ed.1 hq with e|hq
         ·cases e;exact bh hL' hnl
         ·exact I.apart j p j' q hp hq hL hL' dc
       fresh:=λk' hk' hf=>I.fresh k' hk' λj hj=>hf j (jw _ hj)
       dead:=λk' hk' hf=>I.dead k' hk' λj hj=>hf j (jw _ hj)
       nx:=I.nx
       st:=I.st
       sub:=λt ht=>by
        rw[ox,aD,I.sub t ht];intro e;exact hnl (ht i o ho (fH.trans e))
       old:=λt ht=>by
        rw[ox,aD,I.old t]
        ·intro j o' hj hd';have:=ht j o' hj hd';rw[nK,Ci] at this;exact this.1
        ·intro e;have:=ht i o ho (fH.trans e);rw[uJ] at this;cases this
       ext:=I.ext
       keep:=I.keep }
     ·intro j gj hj hL;obtain⟨y,hy,hy'⟩:=L j gj hj hL;obtain⟨q1,_,q3⟩:=I.lst j gj hj;exact⟨y,by rw[Gy C (GM ho fH hnd k2.1 q1 x)];exact hy,λd hd=>by rw[MS S ho fH hnd q1 q3 x d hd];exact hy' d hd⟩
   |_=>rw[hv] at cR;dsimp only at cR;rw[hC.fail] at cR;exact cR.elim
def oy (listed:Array Bool):Nat ->Nat
 |0=>0
 |m+1=>oy listed m+if listed.getD m false=true then 0 else 1
def MV (listed:Array Bool):∀m,oy listed m<=m
 |0=>bB _
 |m+1=>by
  have:=MV listed m;unfold oy;split<;>omega
def MW {listed:Array Bool} {i:Nat} (hi:i<listed.size) (hn:¬cD listed i):∀m,oy (listed.setIfInBounds i true) m+(if i<m then 1 else 0)=oy listed m
 |0=>rfl
 |m+1=>by
  have ih:=MW hi hn m;unfold oy;have hm:=cD.set (j:=m) hi;unfold cD at hm hn;by_cases e:i=m
  ·subst e;rw[aF (hm.2 (.inl rfl)),aD hn];rw[aD (Nat.lt_irrefl _)] at ih;rw[aF (qI _)];omega
  ·have h1:((listed.setIfInBounds i true).getD m false=true)↔(listed.getD m false=true):=by rw[hm];simp[e]
   have h2:(i<m+1)↔(i<m):=by omega
   simp only[h1,h2];omega
def MX {listed:Array Bool} {i:Nat} (hn:¬cD listed i):∀m,i<m ->0<oy listed m
 |0,h=>by omega
 |m+1,h=>by
  unfold oy;by_cases e:i=m
  ·subst e;unfold cD at hn;rw[aD hn];omega
  ·have:=MX hn m ω;omega
def MY (hC:CfgOK C) {bz bA:Nat ->List AV ->AH ->(AV ->AH ->Prop) ->Prop} {K:T AV ->AH ->Prop}:∀(l:List DI) (fl:Bool) (laid:Nat) (h:AH) (last:Option Nat),
 jc P CR X C N s ops A n HV c₀ h₀ w₀ done laid bU ls pd τ h listed a w c τD ->iT X N ops A n HV l fl done last laid bU=true ->Am fl l ->bW C bz bA h₀.next K l ls pd τ h ->
 (∀i k,(i,k)∈bU ->(fh l=none∨∃H,fh l=some H/\ bY (A.getD H 0) i=true) ->cD listed i) ->
 ∃l' fl' laid' h',fh l'=fh l/\ jc P CR X C N s ops A n HV c₀ h₀ w₀ done laid' bU ls pd τ h' listed a w c τD/\ iT X N ops A n HV l' fl' done last laid' bU=true/\ bW C bz bA h₀.next K l' ls pd τ h'/\
  (l'=[]∨∃i g m r,l'= .heavy i g m::r):=by
 intro l;induction l with
 |nil=>intro fl laid h last I hck _ cR _;exact⟨[],fl,laid,h,rfl,I,hck,cR,.inl rfl⟩
 |cons d r ih=>
  intro fl laid h last I hck hh cR HL;cases d with
  |light i g=>
   rcases hh with hh|hh
   ·rw[(Ag hck).1] at hh;cases hh
   ·exact hh.elim
  |resv i k g=>
   rcases hh with hh|hh
   ·rw[(Ah hck).1] at hh;cases hh
   ·exact hh.elim
  |heavy i g m=>exact⟨_,fl,laid,h,rfl,I,hck,cR,.inr ⟨i,g,m,r,rfl⟩⟩
  |lay i=>
   obtain⟨k1,k2,k3⟩:=Ai hck;obtain⟨k,hm⟩:=MT k1;replace cR:(match iC i pd with
    |some (id,ob)=>h.put id ob λh=>bW C bz bA h₀.next K r ls pd τ h
    |none=>C.fail):=cR
   cases hf:iC i pd with
   |none=>rw[hf] at cR;dsimp only at cR;rw[hC.fail] at cR;exact cR.elim
   |some q=>
    obtain⟨id,ob⟩:=q;rw[hf] at cR;dsimp only at cR;rw[AH.put_eq] at cR;have hfh:fh (.lay i::r)=fh r:=rfl;have hLi:cD listed i:=by
     refine HL i k hm ?_;rw[hfh];cases hr:fh r with
     |none=>exact .inl rfl
     |some H=>exact .inr ⟨H,rfl,(GK r _ _ _ _ _ H k3 hr).2 i (uJ _ _)⟩
    obtain⟨l',fl',laid',h',e1,e2⟩:=ih true (ip laid i) _ last (I.adopt hm k2 hLi hf) k3 (.inl rfl) cR (by rw[hfh] at HL;exact HL);exact⟨l',fl',laid',h',by rw[e1,hfh],e2⟩
def ZZ (hX:j7 P X) (hC:CfgOK C) {bz bA:Nat ->List AV ->AH ->(AV ->AH ->Prop) ->Prop} (hcall:uz P CR C.gL bz) (hyld:uA P CR C.gL bA) {ro:Option Nat} {Q:Exit ->Act ->World ->Prop} {K:T AV ->AH ->Prop}
 (S:nM ops A) (hQ:∀c' h' w' τ' a',K τ' h' ->cH CR c₀ h₀ w₀ c' h' w' ->St P CR C.gL N s c' h' w' τ' a' ->Q .normal a' w'):∀(fuel:Nat) (listed:Array Bool) (a:Act) (w:World) (c:CE) (τD τ:T AV) (h:AH)
  (l:List DI) (done laid:Nat) (bU:List (Nat×Nat)) (ls:List (Nat×MG)) (pd:List (Nat×Nat×bC)) (last:Option Nat),
  jc P CR X C N s ops A n HV c₀ h₀ w₀ done laid bU ls pd τ h listed a w c τD ->An C τ h ls listed ->iT X N ops A n HV l false done last laid bU=true ->Am false l ->bW C bz bA h₀.next K l ls pd τ h ->
  oy listed ops.size<=fuel ->wpAnyIn (fw ro) 0 P .any ops Q fuel listed a w:=by
 have fin:∀(listed:Array Bool) (a:Act) (w:World) (c:CE) (τD τ:T AV) (h:AH) (l:List DI) (done laid:Nat) (bU:List (Nat×Nat)) (ls:List (Nat×MG)) (pd:List (Nat×Nat×bC)) (last:Option Nat),
  jc P CR X C N s ops A n HV c₀ h₀ w₀ done laid bU ls pd τ h listed a w c τD ->iT X N ops A n HV l false done last laid bU=true ->Am false l ->bW C bz bA h₀.next K l ls pd τ h ->
  (∀i,i<ops.size ->cD listed i) ->Q .normal a w:=by
  intro listed a w c τD τ h l done laid bU ls pd last I hck hh cR hall;have hallL:∀i k,(i,k)∈bU ->cD listed i:=λi k hm=>by
   obtain⟨g,ob,x,⟨o,ho,_⟩,_⟩:=I.als i k hm;exact hall i (jX.1 ho).1
  obtain⟨l',fl',laid',h',e1,I',hck',hrun',hl'⟩:=MY hC l false laid h last I hck hh cR λi k hm _=>hallL i k hm;rcases hl' with rfl|⟨i,g,m,r,rfl⟩
  ·refine hQ c h' w τ a hrun' ⟨I'.ext,I'.st.rs,I'.keep⟩ ⟨I'.st.rs,I'.st.gl,λt x hx=>I'.st.tr t x ?_,I'.st.sz,I'.st.marks⟩;rw[I'.sub t λj o hj _=>hall j (jX.1 hj).1];exact hx
  ·obtain⟨hs,hnd⟩:=C6 (wv hck').1;obtain⟨o,ho,_⟩:=hs;have:=I'.din i (hall i (jX.1 ho).1);rw[hnd] at this;cases this
 intro fuel;induction fuel with
 |zero=>
  intro listed a w c τD τ h l done laid bU ls pd last I L hck hh cR hcnt;have hall:∀i,i<ops.size ->cD listed i:=λi hi=>uk λhn=>by
   have:=MX hn ops.size hi;omega
  refine⟨?_,fin _ _ _ _ _ _ _ _ _ _ _ _ _ _ I hck hh cR hall⟩;cases hr:Region.ready .any ops listed with
  |nil=>rfl
  |cons i t=>
   have hm:i∈Region.ready .any ops listed:=by rw[hr];exact jG
   obtain⟨h1,o,ho,_⟩:=MQ hm;exact bh (hall i (jX.1 ho).1) h1
 |succ fuel ih=>
  intro listed a w c τD τ h l done laid bU ls pd last I L hck hh cR hcnt;refine⟨λhr=>fin _ _ _ _ _ _ _ _ _ _ _ _ _ _ I hck hh cR (ZT S I.down hr),λi hm=> ?_⟩;obtain⟨hn,o,ho,hE⟩:=MQ hm;have hiops:i<ops.size:=(jX.1 ho).1;have hi:i<listed.size:=by rw[I.down.sz];exact hiops
  have hcnt':oy (listed.setIfInBounds i true) ops.size<=fuel:=by
   have:=MW hi hn ops.size;rw[aF hiops] at this;omega
  by_cases hd:bY done i=true
  ·rcases I.cls i hd with h1|⟨g,h1⟩|⟨k,h1,h2⟩
   ·exact bh h1 hn
   ·refine wpOpIn_mono ?_ (ZW hX hC hcall hyld S I L h1 ho hE hn);rintro a' w' ⟨c',τD',I'⟩;exact ih _ _ _ _ _ _ _ _ _ _ _ _ _ _ I' (λj gj hj hL=>L j gj hj λq=>hL ((cD.set hi).2 (.inr q))) hck hh cR hcnt'
   ·refine wpOpIn_mono ?_ (ZX hX S I h1 h2 ho hE hn);rintro a' w' ⟨c',τD',I'⟩;exact ih _ _ _ _ _ _ _ _ _ _ _ _ _ _ I' (λj gj hj hL=>L j gj hj λq=>hL ((cD.set hi).2 (.inr q))) hck hh cR hcnt'
  ·have hocc:i∈uG l:=(Aj l _ _ _ _ _ hck i hiops).resolve_left hd;obtain⟨H,hf,hH⟩:=MR S I.down l _ _ _ _ _ hck hh i hocc o ho hE;have hiH:i=H:=by
    rcases hH with rfl|hH
    ·rfl
    ·have h1:=I.din H hH;rw[(GK l _ _ _ _ _ H hck hf).1] at h1;cases h1
   subst hiH;obtain⟨l',fl',laid',h',e1,I',hck',hrun',hl'⟩:=MY hC l false laid h last I hck hh cR λj k _ q=>by
    rcases q with q|⟨H,q,q'⟩
    ·rw[hf] at q;cases q
    ·rw[hf] at q;cases q;exact tA S I.down i o ho hE j q'
   rcases hl' with rfl|⟨j,g,m,r,rfl⟩
   ·rw[hf] at e1;cases e1
   ·rw[hf] at e1;have hji:j=i:=gC e1;subst hji;refine wpOpIn_mono ?_ (ZY hX hC hcall hyld S I' hck' hrun' ho hE hn);rintro a' w' ⟨τ',h'',c',τD',I'',L'',hrun''⟩;obtain⟨l₂,done₂,rsv₂,ls₂,pd₂,τ₂,J,JL,Jck,Jh,Jrun⟩:=MU hC S r _ bU ls pd τ' _ I'' L'' (wv hck').2.2.2.2 hrun'';exact ih _ _ _ _ _ _ _ _ _ _ _ _ _ _ J JL Jck Jh Jrun hcnt'
def aa0 (hX:j7 P X) (hC:CfgOK C) {bz bA:Nat ->List AV ->AH ->(AV ->AH ->Prop) ->Prop} (hcall:uz P CR C.gL bz) (hyld:uA P CR C.gL bA) {ro:Option Nat} {Q:Exit ->Act ->World ->Prop} {K:T AV ->AH ->Prop}
 (hP:P.follows .mixedOrders=true) {id:Nat} {l:List DI} (hk:GJ X N ops n l=true) (hr:bW C bz bA h.next K l [] [] τ ⟨h.next+n,h.ver,h.oB⟩) (st:St P CR C.gL N s c h w τ a)
 (hQ:∀c' h' w' τ' a',K τ' h' ->cH CR c h w c' h' w' ->St P CR C.gL N s c' h' w' τ' a' ->Q .normal a' w'):(Code.region id ops true).wpIn (fw ro) 0 P Q a w:=by
 unfold GJ at hk;simp only[aB] at hk;obtain⟨k1,k2,k3⟩:=hk;have S:=ZS k1 k2;refine wpIn_region_any hP ?_;have rs1:RS CR c h { w with drawn:=w.drawn+1 }:=st.rs.heap rfl
 have rs2:RS CR c ⟨h.next+n,h.ver,h.oB⟩ { w with drawn:=w.drawn+1 }:=
  ⟨λo ho=>iR (rs1.nx o ho) (xJ _ _),λo ob ho=>iR (rs1.lt o ob ho) (xJ _ _),λo ob ho=>rs1.obj o ob ⟨ho.get,ho.live,ho.dM⟩,
   λo o' x y hx hy=>rs1.inj o o' x y ⟨hx.get,hx.live,hx.dM⟩ ⟨hy.get,hy.live,hy.dM⟩,rs1.im,λo ob ho=>rs1.dj o ob ⟨ho.get,ho.live,ho.dM⟩,rs1.gl⟩
 have kp:j6 c h { w with drawn:=w.drawn+1 } c ⟨h.next+n,h.ver,h.oB⟩ { w with drawn:=w.drawn+1 }:=
  ⟨bB _,λ_ _ _=>rfl,λo ob ho=> .inr ⟨o,ob,⟨ho.get,ho.live,ho.dM⟩,rfl⟩,λ_ h=> .inl h,xJ _ _,λ_ _ h=> .inl h,λ_ _ h=>h,⟨rfl,rfl⟩⟩
 have ev0:cH CR c h w c h { w with drawn:=w.drawn+1 }:=cH.heap st.rs rfl
 have hno:∀i,¬cD (Array.replicate ops.size false) i:=λi hL=>by
  unfold cD at hL;by_cases hi:i<ops.size
  ·simp[Array.getD,hi] at hL
  ·simp[Array.getD,hi] at hL
 have hz:∀i,bY 0 i=false:=λi=>Nat.zero_testBit i;have I:jc P CR X C N s ops (Ac ops.toList) n (MO l) c h { w with drawn:=w.drawn+1 } 0 0 [] [] [] τ ⟨h.next+n,h.ver,h.oB⟩ (Array.replicate ops.size false) a { w with drawn:=w.drawn+1 } c τ:={
  down:=⟨by simp,λi o _ hL=>bh hL (hno i)⟩
  din:=λi hL=>bh hL (hno i)
  cls:=λi hb=>by rw[hz] at hb;cases hb
  laidL:=λi hb=>by rw[hz] at hb;cases hb
  lst:=λi g hm=>by cases hm
  als:=λi k hm=>by cases hm
  rD:=λi k hm=>by cases hm
  rlt:=λi k hm=>by cases hm
  disj:=λi g k hm=>by cases hm
  runiq:=λi k k' hm=>by cases hm
  kuniq:=λi i' k hm=>by cases hm
  apart:=λi k i' k' hm=>by cases hm
  fresh:=λk _ _ hd=>by have:=st.rs.nx _ hd;omega
  dead:=λk _ _ ob hg=>by
   have:h.oB.get (h.next+k)=some ob:=hg;have:=st.rs.lt _ _ this;omega
  nx:=bB _
  st:=⟨rs2,st.gl,st.tr,st.sz,⟨λd hd=>by
   rcases st.marks.all d hd with ⟨r,q1,q2,q3,q4,q5⟩|q
   ·exact .inl ⟨r,q1,q2,q3,q4,λo ob ho=>q5 o ob ⟨ho.get,ho.live,ho.dM⟩⟩
   ·exact .inr q,st.marks.apart⟩⟩
  sub:=λt _=>rfl
  old:=λt _=>rfl
  ext:=gE.refl c
  keep:=kp }
 obtain⟨l₂,done₂,rsv₂,ls₂,pd₂,τ₂,J,JL,Jck,Jh,Jrun⟩:=MU hC S l 0 [] [] [] τ none I (λi g hm=>by cases hm) k3 hr;exact ZZ hX hC hcall hyld S (λc' h' w' τ' a' q1 q2 q3=>hQ c' h' w' τ' a' q1 (ev0.trans q2) q3) ops.size _ _ _ _ _ _ _ _ _ _ _ _ _ _ J JL Jck Jh Jrun (MV _ _)
end
def Ao (X:aR) (r:ResultVar) (e:Nat×Option (Nat×Bool)):Bool:=match r with
 | .tmp t=>(match e.2 with|none=>Nat.beq t e.1|some _=>false)
 | .cell t ty=>(match e.2 with
  |some q=>Nat.beq t e.1&&(match X.ty.get ty with|some i=>Nat.beq q.1 i.size&&(q.2==i.kd.isRow)|none=>false)
  |none=>false)
def Ap (X:aR) (l:List (Nat×Option (Nat×Bool))):List ResultVar ->Bool:=
 List.rec (motive:=λ_=>List ResultVar ->Bool) (λv=>List.isEmpty v) (λe _ ih v=>match v with
  |[]=>false
  |r::rs=>Ao X r e&&ih rs) l
section
variable {P:Program} {CR:Nat ->Code ->aw ->Prop} {X:aR}
variable {c:CE} {h:AH} {w:World}
def xY (tmps:Array Value):ResultVar ->Sem Value
 | .tmp t=>pure (tmps.getD t undef)
 | .cell a t=>do loadVar t (←asAddr (tmps.getD a undef))
def MZ {α β:Type} {f:α ->Sem β}:∀{l:List α} {vs:List β},l.length=vs.length ->(∀(i:Nat) x v,l[i]? =some x ->vs[i]? =some v ->(f x).run P w= .ok v w) ->(l.mapM f).run P w= .ok vs w
 |[],[],_,_=>by simp[List.mapM_nil]
 |[],_::_,h,_=>by cases h
 |_::_,[],h,_=>by cases h
 |a::t,v::r,h,H=>by
  rw[List.mapM_cons,dz,H 0 a v rfl rfl];simp only[dP];rw[dz,MZ (by simpa using h) (λi x y hx hy=>H (i+1) x y hx hy)];simp
def aa1 {fn:Func} {tmps:Array Value} {vs:List Value} (hl:fn.results.toList.length=vs.length)
 (H:∀(i:Nat) r v,fn.results.toList[i]? =some r ->vs[i]? =some v ->(xY tmps r).run P w= .ok v w):
 (results fn tmps).run P w= .ok (if h:vs.toArray.size=1 then vs.toArray[0] else .tuple vs.toArray) w:=by
 have e:results fn tmps=(do
  let vs←fn.results.mapM (xY tmps)
  pure (if h:vs.size=1 then vs[0] else .tuple vs)):=by
  unfold results;congr 1
 rw[e,dz,Array.mapM_eq_mapM_toList,Sem.run_map,MZ hl H];rfl
def aa2 (hX:j7 P X) (rs:RS CR c h w) {ty:TypeId} {i:TI} (hi:X.ty.get ty=some i) {x:AV} {v:Value} (hv:VR c x v) {n:Nat} {cs:List AV} {y:AV} {agg:Bool}
 (hx:(∃o off l,x= .p o off/\ h.cells o=some l/\ sub l off n=some cs)∨(∃l off,x= .dp l off/\ sub l off n=some cs)) (hy:dB agg cs=some y) (hn:n=i.size) (hg:agg=i.kd.isRow):
 ∃u,(do loadVar ty (←asAddr v):Sem Value).run P w= .ok u w/\ VR c y u:=by
 have bM:=hX.ty ty i hi;obtain⟨b,k,vs,e1,e2,e3,e4⟩:=LG rs hv (hx.imp (λ⟨o,off,l,a,b,d⟩=>⟨o,off,l,a,F1 b,d⟩) id);obtain⟨inf,zv,i1,i2,i3,i4,i5⟩:=bM.info;subst e1;rcases F4 hy with ⟨g,rfl⟩|⟨g,rfl⟩
 ·refine⟨.agg vs.toArray,?_,.ag _ _ e2⟩;simp only[asAddr,pure_bind];exact run_loadVar_mid w b k ty vs i.kd e4 bM.und (by rw[←hg];exact g) (by rw[i1];simp;omega)
 ·cases e2 with
  |cons _ _ u us hu hus=>
   cases hus;refine⟨u,?_,hu⟩;have hc:w.cell? ⟨b,k,none⟩=some u:=e4 0 u rfl;have hagg:(isAgg ty).run P w= .ok false w:=by
    unfold isAgg;rw[dz,dL bM.und w];have:i.kd.isRow=false:=by rw[←hg];exact g
    cases hk:i.kd<;>rw[hk] at this<;>first|rfl|cases this
   simp[asAddr,loadVar,hagg,hc]
def M0 {α β:Type} (f:α ->Option β) (a:α) (t:List α):eM f (a::t)=match f a with|none=>none|some b=>match eM f t with|none=>none|some t'=>some (b::t'):=by
 show(Option.rec none (λb=>Option.rec none (λt=>some (b::t)) (eM f t)) (f a):Option (List β))=_;cases f a with
 |none=>rfl
 |some b=>cases eM f t<;>rfl
def M3 {α β:Type} {f:α ->Option β}:∀{l:List α} {r:List β},eM f l=some r ->r.length=l.length/\∀(i:Nat) x,l[i]? =some x ->∃y,r[i]? =some y/\ f x=some y
 |[],r,h=>by cases h;exact⟨rfl,λi x hx=>by simp at hx⟩
 |a::t,r,h=>by
  rw[M0] at h;cases h2:f a with
  |none=>rw[h2] at h;cases h
  |some b=>
   rw[h2] at h;dsimp only at h;cases h1:eM f t with
   |none=>rw[h1] at h;cases h
   |some t'=>
    rw[h1] at h;cases h;have ih:=M3 h1;refine⟨by simp[ih.1],λi x hx=> ?_⟩;cases i with
    |zero=>simp at hx;subst hx;exact⟨b,rfl,h2⟩
    |succ i=>simp at hx;simpa using ih.2 i x hx
def aa3 {l:List (Nat×Option (Nat×Bool))}:∀{rs:List ResultVar},Ap X l rs=true ->rs.length=l.length/\∀(i:Nat) r e,rs[i]? =some r ->l[i]? =some e ->Ao X r e=true:=by
 induction l with
 |nil=>
  intro rs h;cases rs with
  |nil=>exact⟨rfl,λi r e h=>by simp at h⟩
  |cons r rs=>cases h
 |cons e l ih=>
  intro rs h;cases rs with
  |nil=>cases h
  |cons r rs=>
   have h':(Ao X r e&&Ap X l rs)=true:=h;simp only[aB] at h';have k:=ih h'.2;refine⟨by simp[k.1],λi r' e' hr he=> ?_⟩;cases i with
   |zero=>simp at hr he;subst hr he;exact h'.1
   |succ i=>simp at hr he;exact k.2 i r' e' hr he
def aa4 (hX:j7 P X) (rs:RS CR c h w) {fn:Func} {tmps:Array Value} {τ:T AV} (tr:TR c τ tmps) {l:List (Nat×Option (Nat×Bool))} (hk:Ap X l fn.results.toList=true) {x:AV}
 (hx:eZ τ h l=some x):∃v,(results fn tmps).run P w= .ok v w/\ VR c x v:=by
 obtain⟨k1,k2⟩:=aa3 hk;unfold eZ at hx;cases hl:fY τ h l with
 |none=>rw[hl] at hx;cases hx
 |some xs=>
  have h1:=M3 hl;have key:∀(i:Nat) r,fn.results.toList[i]? =some r ->∃y u,xs[i]? =some y/\ (xY tmps r).run P w= .ok u w/\ VR c y u:=by
   intro i r hr;have hi:i<l.length:=by rw[←k1];exact(eC.1 hr).1
   obtain⟨e,he⟩:∃e,l[i]? =some e:=⟨l[i],cE hi⟩;have hq:=k2 i r e hr he;obtain⟨y,hy,hf⟩:=h1.2 i e he;obtain⟨t,oo⟩:=e;cases r with
   |tmp t'=>
    cases oo with
    |none=>
     simp only[Ao,bu,aU] at hq;subst hq;obtain⟨v',e1,e2⟩:=tr _ _ hf;exact⟨y,v',hy,by simp[xY,e1],e2⟩
    |some q=>cases hq
   |cell t' ty=>
    cases oo with
    |none=>cases hq
    |some q=>
     obtain⟨n,agg⟩:=q;simp only[Ao,aB,bu,aU] at hq;obtain⟨rfl,hq⟩:=hq;cases hi:X.ty.get ty with
     |none=>rw[hi] at hq;cases hq
     |some ti=>
      rw[hi] at hq;simp only[aB,aU,mD] at hq;dsimp only at hf;cases ht:τ.get t' with
      |none=>rw[ht] at hf;cases hf
      |some p=>
       obtain⟨v',e1,e2⟩:=tr _ _ ht;rw[ht] at hf;cases p<;>first|cases hf|skip
       rename_i o off;dsimp only at hf;cases hc:h.cells o with
       |none=>rw[hc] at hf;cases hf
       |some cs=>
        rw[hc] at hf;dsimp only at hf;cases hs:sub cs off n with
        |none=>rw[hs] at hf;cases hf
        |some cl=>
         rw[hs] at hf;obtain⟨u,q1,q2⟩:=aa2 hX rs hi e2 (.inl ⟨o,off,cs,rfl,hc,hs⟩) hf hq.1 hq.2;exact⟨y,u,hy,by simpa[xY,e1] using q1,q2⟩
  have hxs:xs.length=fn.results.toList.length:=by rw[h1.1,k1]
  have:∃vs:List Value,vs.length=xs.length/\ bX c xs vs/\∀(i:Nat) r v,fn.results.toList[i]? =some r ->vs[i]? =some v ->(xY tmps r).run P w= .ok v w:=by
   clear hl h1 hx k1 k2 hk;generalize fn.results.toList=rl at key hxs
   revert rl
   induction xs with
   |nil=>
    intro rl key _;exact⟨[],rfl,.nil,λi r v _ hv=>by simp at hv⟩
   |cons y ys ih=>
    intro rl key eQ;cases rl with
    |nil=>cases eQ
    |cons r rl=>
     obtain⟨y',u,e1,e2,e3⟩:=key 0 r rfl;simp at e1;subst e1;obtain⟨vs,h1,h2,h3⟩:=ih rl (λi r' hr=>by simpa using key (i+1) r' (by simpa using hr)) (by simpa using eQ);refine⟨u::vs,by simp[h1],.cons _ _ _ _ e3 h2,λi r' v hr hv=> ?_⟩;cases i with
     |zero=>simp at hr hv;subst hr hv;exact e2
     |succ i=>simp at hr hv;exact h3 i r' v hr hv
  obtain⟨vs,h3,h4,h5⟩:=this;rw[hl] at hx;refine⟨_,aa1 ω h5,?_⟩;cases xs with
  |nil=>cases h4;cases hx;exact .tu [] [] .nil
  |cons y ys=>
   cases h4 with
   |cons _ _ v vs' q1 q2=>
    cases ys with
    |nil=>cases q2;cases hx;exact q1
    |cons y' ys'=>cases q2 with|cons _ _ v' vs'' q3 q4=>cases hx;exact .tu _ _ (.cons _ _ _ _ q1 (.cons _ _ _ _ q3 q4))
end
def oA:List AV ->Nat ->T AV ->T AV
 |[],_,τ=>τ
 |a::t,n,τ=>oA t (n+1) (τ.put n a)
def xZ {R:Type}:∀(l:List AV) (n:Nat) (τ:T AV) (k:T AV ->R),FW l n τ k=k (oA l n τ)
 |[],_,_,_=>rfl
 |a::t,n,τ,k=>by
  show τ.setK n a (λτ=>fN n λn=>FW t (Nat.succ n) τ k)=_;rw[T.setK_put,dT,xZ];rfl
def M4:∀(l:List AV) (n:Nat) (τ:T AV) (i:Nat),(oA l n τ).get i=if n<=i/\ i<n+l.length then l[i-n]? else τ.get i
 |[],n,τ,i=>by simp[oA];omega
 |a::t,n,τ,i=>by
  rw[oA,M4,T.get_put];simp only[gJ];by_cases h:i=n
  ·subst h;rw[aD ω,aF rfl,aF ω];simp
  ·by_cases h1:n+1<=i/\ i<n+1+t.length
   ·rw[aF h1,aF ω];have:i-n=(i-(n+1))+1:=by omega
    rw[this];simp
   ·rw[aD h1,aD h,aD ω]
def C9:List Nat ->List AV ->T AV ->T AV
 |p::ps,a::a_,τ=>C9 ps a_ (τ.put p a)
 |_,_,τ=>τ
def M5 {C:aK Prop} (hC:CfgOK C):∀(ps:List Nat) (a_:List AV) (τ:T AV) (k:T AV ->Prop),nG C ps a_ τ k ->ps.length=a_.length/\ k (C9 ps a_ τ)
 |[],[],_,_,h=>⟨rfl,h⟩
 |[],a::a_,τ,k,h=>by
  have:C.fail:=h;rw[hC.fail] at this;exact this.elim
 |p::ps,[],τ,k,h=>by
  have:C.fail:=h;rw[hC.fail] at this;exact this.elim
 |p::ps,a::a_,τ,k,h=>by
  replace h:τ.setK p a (λτ=>nG C ps a_ τ k):=h;rw[T.setK_put] at h;have:=M5 hC ps a_ _ k h;exact⟨by simp[this.1],this.2⟩
def M6 {c:CE}:∀(ps:List Nat) (a_:List AV) (vs:List Value) (τ:T AV) (tmps:Array Value),bX c a_ vs ->TR c τ tmps ->(∀p∈ps,p<tmps.size) ->ps.length=a_.length ->
 TR c (C9 ps a_ τ) ((ps.zip vs).foldl (λtmps q=>tmps.setIfInBounds q.1 q.2) tmps)/\ ((ps.zip vs).foldl (λtmps q=>tmps.setIfInBounds q.1 q.2) tmps).size=tmps.size
 |[],[],vs,τ,tmps,_,ht,_,_=>⟨ht,rfl⟩
 |[],_::_,_,_,_,_,_,_,h=>by cases h
 |_::_,[],_,_,_,_,_,_,h=>by cases h
 |p::ps,a::a_,vs,τ,tmps,hv,ht,hp,hl=>by
  cases hv with
  |cons _ _ v vs' h1 h2=>
   have hpt:p<tmps.size:=hp p jG;have key:=M6 ps a_ vs' (τ.put p a) (tmps.setIfInBounds p v) h2
    (TR.put (a:={ tmps:=tmps,defers:=[] }) (d:=some p) ht (λt e=>by cases e;exact hpt) h1)
    (λq hq=>by simp;exact hp q (jw _ hq)) (by simpa using hl)
   exact⟨key.1,by simpa using key.2⟩
section
variable {CR:Nat ->Code ->aw ->Prop}
def RS.unown {c:CE} {h:AH} {w w':World} (r:RS CR c h w) {q:Nat} (hw:∀b,b≠q ->w'.heap[b]? =w.heap[b]?) (hq:∀o obj,dU c h o obj ->(c.ρ o).1≠q) (him:c.im q=none):RS CR c h w':=
 ⟨r.nx,r.lt,λo obj ho=>(r.obj o obj ho).mono (gE.refl c) ho.dM (hw _ (hq o obj ho)),r.inj,
  λb row hb=>by
   obtain⟨t,fr,h1⟩:=r.im b row hb;exact⟨t,fr,by rw[hw b (λe=>by rw[e,him] at hb;cases hb)];exact h1⟩,r.dj,r.gl⟩
def RS.im_deferred {c:CE} {h:AH} {w:World} (r:RS CR c h w) {q:Nat} {d:Option (List Deferred)} (hq:w.heap[q]? =some (.deferred d)):c.im q=none:=by
 cases hi:c.im q with
 |none=>rfl
 |some row=>
  obtain⟨t,fr,h1⟩:=r.im q row hi;rw[hq] at h1;cases h1
def aa5 {P:Program} {fn:Func} {tmps:Array Value} {R:Ending ->World ->Prop} {c₀ c:CE} {h₀ h:AH} {w₀:World}:
 ∀(ds:List Deferred) (w:World),lO P w₀.heap.size c h w ds ->RS CR c h w ->j6 c₀ h₀ w₀ c h w ->
  (∀w',RS CR c h w' ->j6 c₀ h₀ w₀ c h w' ->∃v,(results fn tmps).run P w'= .ok v w'/\ R (.returned v) w') ->LeavesInM (fw none) 0 P fn tmps R ds .returning w:=by
 intro ds;induction ds with
 |nil=>
  intro w _ r k H;exact H w r k
 |cons d ds ih=>
  intro w m r k H;rcases m.all d jG with ⟨q,h1,h2,h3,h4,h5⟩|⟨g,va,h1,h2⟩
  case inr=>
   obtain⟨fn',b',e1,e2,e3⟩:=h2.body;have e2':¬fn'.name= "runtime.NumGoroutine" :=by simpa using e2
   refine⟨by simp,.inr ⟨λh=>(by cases h),.func g,va,g,d.args++va,h1,?_,λ_ _=>trivial,?_⟩⟩
   ·rw[h1];simp[invoke,callFunc,e1,e2',e3]
   ·have hB:=h2.run (d.args++va) w;refine⟨hB.1,λc' cs hc hr=> ?_⟩;obtain⟨e,u',w',fr,⟨⟨v,rfl⟩,rfl,rfl⟩,q2⟩:=hB.2 c' cs hc hr;exact⟨_,_,_,fr,ih w' ⟨λe he=>m.all e (jw _ he),(xD.1 m.apart).2⟩ r k H,q2⟩
  have him:=r.im_deferred h4;have hoth:∀b,b≠q ->(w.putObj q (.deferred none)).heap[b]? =w.heap[b]? :=λb hb=>World.putObj_heap_other hb;have r':=r.unown hoth h5 him;refine⟨by simp,.inl ⟨q,_,h1,run_takeDeferred h4,ih _ ?_ r' ?_ H⟩⟩
  ·refine⟨λe he=> ?_,(xD.1 m.apart).2⟩;rcases m.all e (jw _ he) with ⟨q',k1,k2,k3,k4,k5⟩|k
   case inr=>exact .inr k
   have dc:q'≠q:=λee=>(xD.1 m.apart).1 e he q h1 (by rw[k1,ee]);exact .inl ⟨q',k1,k2,by simpa using k3,by rw[hoth q' dc];exact k4,k5⟩
  ·exact⟨by simpa using k.size,λb hb hn=>by rw[hoth b ω];exact k.same b hb hn,k.new,k.dM,k.nxt,k.im,k.dead,k.io⟩
end
def M7 (a b:List Nat):Bool:=decide (a=b)
def GQ (N:Nat) (l:List Nat):Bool:=List.rec (motive:=λ_=>Bool) true (λa _ ih=>Nat.ble (Nat.succ a) N&&ih) l
def M8 {N:Nat}:∀{l:List Nat},GQ N l=true ->∀p∈l,p<N
 |[],_,p,hp=>by cases hp
 |a::t,h,p,hp=>by
  have h':(Nat.ble (Nat.succ a) N&&GQ N t)=true:=h;simp only[aB,dm,aU] at h';rcases ed.1 hp with rfl|hp
  ·exact h'.1
  ·exact M8 h'.2 p hp
def GR (X:aR) (N:Nat) (ops:Array Oper) (x:MA) (l:List MG):List Oper ->Bool:=
 List.rec (motive:=λ_=>List Oper ->Bool) (λv=>match v with
  |[o]=>(match o.op with| .defer c=>(match c.callee with| .value y=>ax x y|_=>false)&&c.args.isEmpty|_=>false)&&o.dst.isNone&&o.guard.isNone
  |_=>false)
  (λg _ ih v=>match v with|[]=>false|o::r=>lP X N ops o g&&ih r) l
def gf (X:aR) (N:Nat):Bool ->Code ->aw ->Bool
 |r,.scope c,m=>gf X N r c m
 |_,.skip,.skip=>true
 |_,.label _,.skip=>true
 |_,.region _ ops d,.ops l=> !d&&Gw X N ops l ops.toList
 |_,.region _ ops d,.draw n l=>d&&GJ X N ops n l
 |r,.region _ ops d,.dfr l x fn=> !r&&(!d&&(X.bn.any (Nat.beq fn)&&GR X N ops x l ops.toList))
 |r,.seq a b,.seq a' b'=>gf X N r a a'&&gf X N r b b'
 |r,.cond x a b,.cond y a' b'=>ax y x&&(gf X N r a a'&&gf X N r b b')
 |r,.block i c,.block j c'=>Nat.beq i j&&gf X N r c c'
 |r,.loop c,.loop c'=>gf X N r c c'
 |r,.rangeFunc f ps a b,.rfun g qs a' b'=> !r&&ax g f&&M7 ps.toList qs&&GQ N qs&&gf X N true a a'&&gf X N true b b'
 |_,.exit i,.exit j=>Nat.beq i j
 |_,.ret,.ret=>true
 |_,_,.bad _=>true
 |_,_,_=>false
def dJ (X:aR) (N:Nat) (c:Code) (m:aw):Prop:=gf X N true c m=true
def M9:Exit ->pS ->Prop
 | .normal,.normal=>True
 | .exit i,.exit j=>i=j
 | .ret,.ret=>True
 |_,_=>False
section
variable (P:Program) (CR:Nat ->Code ->aw ->Prop) (GL:T (List AV)) (N s:Nat) (k:K Prop) (c:CE) (h:AH) (w:World)
def qQ:Exit ->Act ->World ->Prop:=λe a' w'=>∃me τ' h' c',M9 e me/\ k me τ' h'/\ cH CR c h w c' h' w'/\ St P CR GL N s c' h' w' τ' a'
end
def qQ.trans {P:Program} {CR:Nat ->Code ->aw ->Prop} {GL:T (List AV)} {N s:Nat} {k:K Prop} {c c':CE} {h h':AH} {w w':World} (e:cH CR c h w c' h' w') {x:Exit} {a:Act} {w'':World} (p:qQ P CR GL N s k c' h' w' x a w''):
 qQ P CR GL N s k c h w x a w'':=by
 obtain⟨me,τ',h'',c'',p1,p2,p3,p4⟩:=p;exact⟨me,τ',h'',c'',p1,p2,e.trans p3,p4⟩
structure GS (P:Program) (X:aR) (f:Nat) (m:au):Prop where
 ok:∃fn c,P.funcs[f]? =some fn/\ (fn.name== "runtime.NumGoroutine")=false/\ fn.body=some c/\ gf X m.ntmps false c m.body=true/\ m.ntmps<=fn.ntmps/\ Ap X m.res fn.results.toList=true
structure rV (P:Program) (X:aR) (C:aK Prop):Prop where
 mixed:P.follows .mixedOrders=true
 cfg:CfgOK C
 ctx:j7 P X
 ae:∀f m,C.ae.get f=some m ->GS P X f m
 bn:∀f∈X.bn,CX P f
 spec:∀f args h (k:AV ->AH ->Prop) (fb:Prop),C.spec f args h k fb ->(∃v h',k v h'/\∀c w vs,RS (dJ X) c h w ->(∀g l,C.gL.get g=some l ->c.gl g=some l) ->bX c args vs ->
  mJ P ((callFunc f vs.toArray).run P w) λv' w'=>∃c',cH (dJ X) c h w c' h' w'/\ VR c' v v')∨fb
section
variable {P:Program} {X:aR} {C:aK Prop}
def Da {f:FuncId} {fn:Func} {b:Code} (hf:P.funcs[f]? =some fn) (hn:(fn.name== "runtime.NumGoroutine")=false) (hb:fn.body=some b) (args:Array Value) (w:World):
 (callFunc f args).run P w= .ok (.enter f args) w:=by
 have hn':¬fn.name= "runtime.NumGoroutine" :=by simpa using hn
 simp[callFunc,hf,hn',hb]
def uK (P:Program) (X:aR) (C:aK Prop) (n:Nat):Prop:=
 ∀mc k τ h,run C n mc k τ h ->∀cc ro N s c a w,gf X N ro.isSome cc mc=true ->St P (dJ X) C.gL N s c h w τ a ->s<=w.heap.size ->cc.wpIn (fw ro) 0 P (qQ P (dJ X) C.gL N s k c h w) a w
def Na (X:aR) (k:AV ->AH ->Prop) (c:CE) (h:AH) (w:World):Ending ->World ->Prop:=
 λe w'=>match e with| .returned v=>∃x h' c',k x h'/\ cH (dJ X) c h w c' h' w'/\ VR c' x v|_=>False
def Db (S:rV P X C) {n:Nat} (IH:uK P X C n) {f:Nat} {args:List AV} {h:AH} {k:AV ->AH ->Prop} (hr:j4 C (run C n) f args h k) {c:CE} {w:World} {vs:List Value}
 (rs:RS (dJ X) c h w) (gl:∀g l,C.gL.get g=some l ->c.gl g=some l) (hv:bX c args vs):
 ∃fn b,P.funcs[f]? =some fn/\ (fn.name== "runtime.NumGoroutine")=false/\ fn.body=some b/\ CallsIn (fw none) 0 P f vs.toArray w (Na X k c h w):=by
 unfold j4 at hr;cases hm:C.ae.get f with
 |none=>rw[hm] at hr;dsimp only at hr;rw[S.cfg.fail] at hr;exact hr.elim
 |some m=>
  rw[hm] at hr;dsimp only at hr;rw[xZ] at hr;obtain⟨fn,b,hf,hn,hb,aC,hnt,hres⟩:=(S.ae f m hm).ok;refine⟨fn,b,hf,hn,hb,?_⟩;have hst:St P (dJ X) C.gL m.ntmps w.heap.size c h w (oA args 0 .e) { tmps:=vs.toArray++Array.replicate (fn.ntmps-vs.toArray.size) undef,defers:=[] }:=by
   refine⟨rs,gl,?_,by simp;omega,lO.nil⟩;intro t x hx;rw[M4] at hx;by_cases ht:0<=t/\ t<0+args.length
   ·rw[aF ht] at hx;obtain⟨v,h1,h2⟩:=hv.get t (by simpa using hx);have aV:t<vs.length:=(eC.1 h1).1;refine⟨v,?_,h2⟩;dsimp only;rw[Array.getElem?_append_left (by simpa using aV)];simpa using h1
   ·rw[aD ht] at hx;cases hx
  have hbody:=IH m.body _ _ h hr b none m.ntmps w.heap.size c _ w aC hst (bB _);refine callsIn_of_wp_marks hf hb trivial (sZ hbody ?_);rintro e a' w' ⟨me,τ',h',c',hx,hk,ev,st⟩;have done:(match eZ τ' h' m.res with|some v=>k v h'|none=>C.fail) ->LeavesInM (fw none) 0 P fn a'.tmps (Na X k c h w) a'.defers .returning w':=by
   intro hk;cases ho:eZ τ' h' m.res with
   |none=>rw[ho] at hk;dsimp only at hk;rw[S.cfg.fail] at hk;exact hk.elim
   |some x=>
    rw[ho] at hk;refine aa5 a'.defers w' st.marks st.rs ev.keep λw'' r' k'=> ?_;obtain⟨v,h1,h2⟩:=aa4 S.ctx r' st.tr hres ho;exact⟨v,h1,x,h',c',hk,⟨ev.ext,r',k'⟩,h2⟩
  cases e<;>cases me<;>first|exact hx.elim|skip
  ·exact done hk
  ·dsimp only at hk;rw[S.cfg.fail] at hk;exact hk.elim
  ·exact done hk
def GT (S:rV P X C) {n:Nat} (IH:uK P X C n):uz P (dJ X) C.gL (iS C (run C n)):=by
 intro f args h k hr c w vs rs gl hv;unfold iS at hr;unfold Aa;rcases S.spec f args h k _ hr with ⟨v,h',h1,h2⟩|hr
 ·refine mJ.mono (h2 c w vs rs gl hv) ?_;rintro v' w' ⟨c',h3,h4⟩;exact⟨v,h',c',h1,h3,h4⟩
 ·obtain⟨fn,b,h1,h2,h3,h4⟩:=Db S IH hr rs gl hv;rw[Da h1 h2 h3];refine vN h4 λe w' he=> ?_;cases e with
  |returned v=>exact he
  |_=>exact he.elim
def aa6 (S:rV P X C) {h:AH} {l:Nat} {k:AH ->Prop} (hr:pV C h l k) {c:CE} {w:World} (rs:RS (dJ X) c h w) (hd:c.dM l):
 ∃w₂ h',(Instr.beginRound (c.ρ l).1).run P w= .ok () w₂/\ k h'/\ cH (dJ X) c h w c h' w₂:=by
 unfold pV at hr;split at hr
 ·rename_i ps asg body env p hg;rw[AH.put_eq] at hr;obtain⟨r,N,h1,h2,h3,h4,h5,h6,h7,h8,h9⟩:=rs.obj l _ ⟨hg,rfl,hd⟩;have hst:r.state= .ready:=by
   generalize r.state=st at h8;cases st<;>first|rfl|exact h8.elim
  have aV:(c.ρ l).1<w.heap.size:=(jX.1 h1).1;refine⟨_,_,run_beginRound h1 hst,hr,cH.write rs ⟨hg,rfl,hd⟩ (by simp) (λb hb=>World.putObj_heap_other hb) ?_ _⟩;exact⟨_,N,World.putObj_heap_same aV,h2,h3,h4,h5,h6,h7,trivial,h9⟩
 ·rw[S.cfg.fail] at hr;exact hr.elim
def aa7 (S:rV P X C) {h:AH} {l st:Nat} {p:Option (Option Nat)} {k:AH ->Prop} (hr:j5 C h l st p k) {c:CE} {w:World} (rs:RS (dJ X) c h w) (hd:c.dM l) {jump:Option Code}
 (hp:FY p jump) (hs:FZ st (if jump.isNone then .ready else .done)):
 ∃w₂ h',(Instr.endRound (c.ρ l).1 jump).run P w= .ok (.bool jump.isNone) w₂/\ k h'/\ cH (dJ X) c h w c h' w₂:=by
 unfold j5 at hr;split at hr
 ·rename_i ps asg body env s0 p0 hg;rw[AH.put_eq] at hr;obtain⟨r,N,h1,h2,h3,h4,h5,h6,h7,h8,h9⟩:=rs.obj l _ ⟨hg,rfl,hd⟩;have aV:(c.ρ l).1<w.heap.size:=(jX.1 h1).1;refine⟨_,_,run_endRound jump h1,hr,cH.write rs ⟨hg,rfl,hd⟩ (by simp) (λb hb=>World.putObj_heap_other hb) ?_ _⟩;exact⟨_,N,World.putObj_heap_same aV,h2,h3,h4,h5,h6,h7,hs,hp⟩
 ·rw[S.cfg.fail] at hr;exact hr.elim
def GU (S:rV P X C) {n:Nat} (IH:uK P X C n):uA P (dJ X) C.gL (iD C (run C n)):=by
 intro l args h k hr c w vs rs gl hd hv;unfold iD at hr;split at hr
 ·rename_i ps asg body env s0 p0 hg;obtain⟨r,N,h1,h2,h3,h4,h5,h6,h7,h8,h9⟩:=rs.obj l _ ⟨hg,rfl,hd⟩;obtain⟨eQ,hr⟩:=M5 S.cfg _ _ _ _ hr;have hsz:vs.toArray.size=r.params.size:=by
   have e1:=hv.length;have e2:r.params.size=ps.length:=by rw[←h2];simp
   simp;omega
  unfold Aa;rw[run_yield h1 hsz];have hT:=M6 ps args vs env r.tmps hv h7 (λp hp=>iR (h6 p hp) h5) eQ;have htm:(r.params.zip vs.toArray).foldl (λtmps (t,a)=>tmps.setIfInBounds t a) r.tmps=(ps.zip vs).foldl (λtmps q=>tmps.setIfInBounds q.1 q.2) r.tmps:=by
   rw[←h2,←Array.foldl_toList];simp[Array.toList_zip]
  rw[htm];refine roundIn_of_wpIn (F:=fw none) trivial ?_;have hst:St P (dJ X) C.gL N w.heap.size c h w (C9 ps args env) { tmps:=(ps.zip vs).foldl (λtmps q=>tmps.setIfInBounds q.1 q.2) r.tmps,defers:=[] }:=
   ⟨rs,gl,hT.1,by rw[hT.2];exact h5,lO.nil⟩
  have hasg:=IH asg _ _ h hr r.assign (some (c.ρ l).1) N w.heap.size c _ w h3 hst (bB _);refine sZ hasg ?_;rintro e a₁ w₁ ⟨me,τ₁,hh₁,c₁,hx,hk,ev,st⟩;cases e<;>cases me<;>first|exact hx.elim|skip
  ·dsimp only at hk;have hd₁:=ev.ext.dM l hd;obtain⟨w₂,h₂,b1,b2,b3⟩:=aa6 S hk st.rs hd₁;have hρ:=ev.ext.ρ l hd;refine⟨w₂,by rw[←hρ];exact b1,?_⟩;have hst₂:St P (dJ X) C.gL N w.heap.size c₁ h₂ w₂ τ₁ a₁:=⟨b3.rs,st.gl,st.tr,st.sz,st.marks.evo b3.keep⟩;have hbody:=IH body _ _ h₂ b2 r.body (some (c.ρ l).1) N w.heap.size c₁ _ w₂ h4 hst₂ (fJ ev.keep.size b3.keep.size);refine sZ hbody ?_;rintro e a₃ w₃ ⟨me,τ₃,hh₃,c₃,hx,hk,ev₃,st₃⟩;have hd₃:=ev₃.ext.dM l hd₁;have hρ₃:(c₃.ρ l).1=(c.ρ l).1:=by rw[ev₃.ext.ρ l hd₁,hρ]
   have fin:∀st p jump,j5 C hh₃ l st p (λh=>k (.b jump.isNone) h) ->FY p jump ->FZ st (if jump.isNone then .ready else .done) ->
    ∃v w',(Instr.endRound (c.ρ l).1 jump).run P w₃= .ok v w'/\∃x h' c',k x h'/\ cH (dJ X) c h w c' h' w'/\ VR c' x v:=by
    intro st p jump hk hp hs;obtain⟨w₄,h₄,d1,d2,d3⟩:=aa7 S hk st₃.rs hd₃ hp hs;exact⟨_,w₄,by rw[←hρ₃];exact d1,_,_,c₃,d2,((ev.trans b3).trans ev₃).trans d3,.b _⟩
   cases e<;>cases me<;>first|exact hx.elim|skip
   ·exact fin 0 none none hk trivial trivial
   ·rename_i i j;have hij:i=j:=hx;subst hij;exact fin 2 (some (some i)) (some (.exit i)) hk rfl trivial
   ·exact fin 2 (some none) (some .ret) hk trivial trivial
  ·dsimp only at hk;rw[S.cfg.fail] at hk;exact hk.elim
  ·dsimp only at hk;rw[S.cfg.fail] at hk;exact hk.elim
 ·rw[S.cfg.fail] at hr;exact hr.elim
def aa8 (S:rV P X C) {bz bA:Nat ->List AV ->AH ->(AV ->AH ->Prop) ->Prop} (hcall:uz P (dJ X) C.gL bz) (hyld:uA P (dJ X) C.gL bA)
 {N s:Nat} {ops:Array Oper} {Q:Exit ->Act ->World ->Prop} {K:T AV ->AH ->Prop} {x:MA} {fn:Nat} (hfn:fn∈X.bn):∀(gs:List MG) (l:List Oper) (k:Nat),(∀j o,l[j]? =some o ->ops[k+j]? =some o) ->GR X N ops x gs l=true ->
 ∀(τ:T AV) (h:AH) (c:CE) (w:World) (a:Act),dO C bz bA (λτ h=>match az C τ x with| .f g _ _=>bif Nat.beq g fn then K τ h else C.fail|_=>C.fail) gs τ h ->St P (dJ X) C.gL N s c h w τ a ->
  (∀c' h' w' τ' a',K τ' h' ->cH (dJ X) c h w c' h' w' ->St P (dJ X) C.gL N s c' h' w' τ' a' ->Q .normal a' w') ->wpOpsIn (fw none) 0 P ops Q (List.range' k l.length) a w:=by
 intro gs;induction gs with
 |nil=>
  intro l k hl hk τ h c w a hr st hQ;cases l with
  |nil=>cases hk
  |cons o rr=>
   cases rr with
   |cons _ _=>cases hk
   |nil=>
    have hk':((match o.op with| .defer c=>(match c.callee with| .value y=>ax x y|_=>false)&&c.args.isEmpty|_=>false)&&o.dst.isNone&&o.guard.isNone)=true:=hk;simp only[aB] at hk';obtain⟨⟨k1,k2⟩,k3⟩:=hk';have cy:(match az C τ x with| .f g _ _=>bif Nat.beq g fn then K τ h else C.fail|_=>C.fail):=hr;have aC:ops[k]? =some o:=by simpa using hl 0 o rfl
    cases ho:o.op with
    |defer cl=>
     rw[ho] at k1;simp only[aB] at k1;obtain⟨k1,k4⟩:=k1;cases hc:cl.callee with
     |value y=>
      rw[hc] at k1;dsimp only at k1;have hy:=zT C st.tr st.gl st.rs.gl k1;cases hx:az C τ x with
      |f g fi ca=>
       rw[hx] at cy hy;dsimp only at cy;generalize hgy:a.eval y=vy at hy;cases hy with
       |f _ _ _ va vb q1 q2=>
        cases hg:Nat.beq g fn with
        |false=>rw[hg] at cy;have hr'':C.fail:=cy;rw[S.cfg.fail] at hr'';exact hr''.elim
        |true=>
         rw[hg] at cy;have hr'':K τ h:=cy;rw[bu,aU] at hg;subst hg;have hargs:cl.args=#[]:=by simpa using k4
         have hgd:o.guard=none:=by simpa using k3
         have fH:o.dst=none:=by simpa using k2
         show wpOpsIn (fw none) 0 P ops Q [k] a w;rw[wpOpsIn_cons];unfold wpOpIn;simp only[aC];have hw:Region.wanted o (yielded ops a.tmps)=true:=by simp[Region.wanted,hgd]
         simp only[hw,dZ];refine⟨λ_ _=>trivial,?_⟩;have cR:(o.semAt (fw none).round a.eval).run P w= .ok (.defer { target:= .fn (.func g) vb.toArray,args:=va.toArray }) w:=by
          show(Oper.semAt none a.eval o).run P w=_;rw[Oper.semAt_none];unfold execOp;rw[ho];simp[resolve,hc,hargs,hgy,Deferred.ofValue]
         rw[cR,Oper.uponIn_defer,fH];refine hQ c h w τ _ hr'' (cH.refl st.rs) ⟨st.rs,st.gl,st.tr,st.sz,⟨λd hd=> ?_,?_⟩⟩
         ·have hd':d={ target:= .fn (.func g) vb.toArray,args:=va.toArray }∨d∈a.defers:=by simpa[Act.put] using hd
          rcases hd' with rfl|hd'
          ·exact .inr ⟨g,_,rfl,S.bn g hfn⟩
          ·exact st.marks.all d hd'
         ·show List.Pairwise _ (_::a.defers);rw[xD];exact⟨λe he r hr=>(by cases hr),st.marks.apart⟩
      |_=>rw[hx] at cy;dsimp only at cy;rw[S.cfg.fail] at cy;exact cy.elim
     |_=>rw[hc] at k1;cases k1
    |_=>rw[ho] at k1;cases k1
 |cons g gs ih=>
  intro l k hl hk τ h c w a hr st hQ;cases l with
  |nil=>cases hk
  |cons o r=>
   have hk':(lP X N ops o g&&GR X N ops x gs r)=true:=hk;simp only[aB] at hk';have aC:ops[k]? =some o:=by simpa using hl 0 o rfl
   replace hr:eY C bz bA g τ h (λy h=>eh τ g.dst y λτ=>dO C bz bA (λτ h=>match az C τ x with| .f g _ _=>bif Nat.beq g fn then K τ h else C.fail|_=>C.fail) gs τ h):=hr;rw[show(o::r).length=r.length+1 from rfl,Cc,wpOpsIn_cons];refine CZ S.ctx S.cfg hcall hyld aC hk'.1 hr st λy h' c' w' a' h1 h2 h3=> ?_;rw[iI] at h1;refine ih r (k+1) (λj o' hj=> ?_) hk'.2 _ _ c' w' a' h1 h3 λc'' h'' w'' τ'' a'' q1 q2 q3=>hQ _ _ _ _ _ q1 (h2.trans q2) q3;have:=hl (j+1) o' hj;rw[←this];congr 1;omega
def aa9 {F:Fence} {n:Nat} {c:Code} {Q Q':Exit ->Act ->World ->Prop} (hq:∀e a w,Q e a w ->Q' e a w):∀(m:Nat) (a:Act) (w:World),Code.roundsIn F n P c Q m a w ->Code.roundsIn F n P c Q' m a w:=by
 intro m;induction m with
 |zero=>intro a w h;exact h.elim
 |succ m ih=>
  intro a w h;rw[roundsIn_succ] at h ⊢;refine sZ h λe a' w' he=> ?_;cases e with
  |normal=>exact ih _ _ he
  |_=>exact hq _ _ _ he
def ab0 (Q:Exit ->Act ->World ->Prop):Exit ->Act ->World ->Prop
 | .goto _,_,_=>False
 |e,a,w=>Q e a w
def ab1 {F:Fence} {n:Nat} {Q:Exit ->Act ->World ->Prop} {a:Act} {w:World} {c:Code} (h:c.wpIn F n P (ab0 Q) a w):(Code.scope c).wpIn F n P Q a w:=by
 intro b k cs hro hb hr;have h0:(lone (b.atR a (.code (.scope c)::k)) cs w).fenced P F:=fenced_calm hb hr rfl;have s0:Go.step P (lone (b.atR a (.code (.scope c)::k)) cs w)= .next (lone (b.atR a (.code c:: .inScope c::k)) cs w):=step_lone_go (by simp[stepG,stepG.exec,Frame.atR]);obtain⟨e,a₁,w₁,hq,harr⟩:=h b (.inScope c::k) cs hro hb hr;cases e with
 |normal=>
  have s1:Go.step P (lone (b.atR a₁ (.inScope c::k)) cs w₁)= .next (lone (b.atR a₁ k) cs w₁):=step_lone_go (by simp[stepG,stepG.exec,Frame.atR]);exact⟨.normal,a₁,w₁,hq,.head h0 s0 (StepsIn.trans harr (.one (fenced_calm hb hr rfl) s1))⟩
 |exit id=>
  have hx:exitTo id (.inScope c::k)=exitTo id k:=by simp[exitTo]
  exact⟨.exit id,a₁,w₁,hq,λk' hk=> .head h0 s0 (harr.1 k' (by rw[hx];exact hk)),
   λcy hk=>let ⟨k₁,h1,h2⟩:=harr.2 cy (by rw[hx];exact hk);⟨k₁,h1,.head h0 s0 h2⟩⟩
 |goto l=>exact hq.elim
 |ret=>exact⟨_,a₁,w₁,hq,.of_steps (.one h0 s0) harr⟩
 |panic ch=>exact⟨_,a₁,w₁,hq,.of_steps (.one h0 s0) harr⟩
 |outgrown=>exact⟨_,a₁,w₁,hq,.of_steps (.one h0 s0) harr⟩
def Dc {N s:Nat} {k:K Prop} {c:CE} {h:AH} {w:World} {τ:T AV} {a:Act} {e:Exit} {me:pS} (hx:M9 e me) (hk:k me τ h) (st:St P (dJ X) C.gL N s c h w τ a):
 qQ P (dJ X) C.gL N s k c h w e a w:=⟨me,τ,h,c,hx,hk,cH.refl st.rs,st⟩
def gh {R:Type} (C:aK R) (n:Nat) (m:aw) (k:K R) (τ:T AV) (h:AH):run C (n+1) m k τ h=(match m with
 | .skip=>k .normal τ h
 | .ops l=>dO C (iS C (run C n)) (iD C (run C n)) (λτ h=>k .normal τ h) l τ h
 | .draw z l=>fN (h.next+z) λnx=>bW C (iS C (run C n)) (iD C (run C n)) h.next (λτ h=>k .normal τ h) l [] [] τ ⟨nx,h.ver,h.oB⟩
 | .dfr l x fn=>dO C (iS C (run C n)) (iD C (run C n)) (λτ h=>match az C τ x with
  | .f g _ _=>bif Nat.beq g fn then k .normal τ h else C.fail
  |_=>C.fail) l τ h
 | .seq a b=>run C n a (λe τ h=>match e with| .normal=>run C n b k τ h|e=>k e τ h) τ h
 | .cond c a b=>match az C τ c with
  | .b x=>Bool.rec (motive:=λ_=>R) (run C n b k τ h) (run C n a k τ h) x
  |_=>C.fail
 | .block id c=>run C n c (λe τ h=>match e with| .exit i=>bif Nat.beq i id then k .normal τ h else k (.exit i) τ h|e=>k e τ h) τ h
 | .loop c=>run C n c (λe τ h=>match e with| .normal=>run C n (.loop c) k τ h|e=>k e τ h) τ h
 | .rfun f ps assign body=>h.new (.loop ps assign body τ 0 none) λl h=>
  let fin:AV ->AH ->R:=λ_ h=>match h.get l with
   |some (.loop _ _ _ _ 0 none)=>h.put l .gone λh=>k .normal τ h
   |some (.loop _ _ _ _ 2 (some (some i)))=>h.put l .gone λh=>k (.exit i) τ h
   |some (.loop _ _ _ _ 2 (some none))=>h.put l .gone λh=>k .ret τ h
   |_=>C.fail
  match az C τ f with
  | .f g fi ca=>match fy fi (.y l::ca) with
   |some l=>j4 C (run C n) g l h fin
   |none=>C.fail
  |_=>C.fail
 | .exit id=>k (.exit id) τ h
 | .ret=>k .ret τ h
 | .bad _=>C.fail):=by
 cases m<;>rfl
def Dd (P:Program) (X:aR) (C:aK Prop) (n:Nat):Prop:=
 ∀mc k τ h,run C n (.loop mc) k τ h ->∀cc ro N s c a w,gf X N ro.isSome cc mc=true ->St P (dJ X) C.gL N s c h w τ a ->s<=w.heap.size ->
  Code.roundsIn (fw ro) 0 P cc (qQ P (dJ X) C.gL N s k c h w) n a w
def St.evo {P:Program} {CR:Nat ->Code ->aw ->Prop} {GL:T (List AV)} {N s:Nat} {c c':CE} {h h':AH} {w w':World} {τ:T AV} {a:Act} (S:St P CR GL N s c h w τ a) (e:cH CR c h w c' h' w'):St P CR GL N s c' h' w' τ a:=
 ⟨e.rs,z8 S.gl e.ext,S.tr.mono e.ext,S.sz,S.marks.evo e.keep⟩
def Nb {n:Nat} (IH:uK P X C n) (IL:Dd P X C n):Dd P X C (n+1):=by
 intro mc k τ h hr cc ro N s c a w aC st hs;rw[gh] at hr;rw[roundsIn_succ];refine sZ (IH mc _ _ h hr cc ro N s c a w aC st hs) ?_;rintro e a' w' ⟨me,τ',h',c',hx,hk,ev,st'⟩;cases e<;>cases me<;>first|exact hx.elim|skip
 ·exact aa9 (λe a w p=>p.trans ev) n a' w' (IL mc k τ' h' hk cc ro N s c' a' w' aC st' (fJ hs ev.keep.size))
 ·exact⟨_,τ',h',c',hx,hk,ev,st'⟩
 ·exact⟨_,τ',h',c',hx,hk,ev,st'⟩
def ab2 (S:rV P X C) {n:Nat} (IH:uK P X C n) {f:MA} {ps:List Nat} {asg body:aw} {k:K Prop} {τ:T AV} {h:AH} (hr:run C (n+1) (.rfun f ps asg body) k τ h)
 {g:Operand} {qs:Array Tmp} {ca cb:Code} {N s:Nat} {c:CE} {a:Act} {w:World} (hf:ax f g=true) (hq:qs.toList=ps) (hp:∀p∈ps,p<N) (h1:dJ X N ca asg) (h2:dJ X N cb body)
 (st:St P (dJ X) C.gL N s c h w τ a) (hs:s<=w.heap.size):(Code.rangeFunc g qs ca cb).wpIn (fw none) 0 P (qQ P (dJ X) C.gL N s k c h w) a w:=by
 rw[gh] at hr;dsimp only at hr;rw[AH.new_eq] at hr;refine wpIn_rangeFunc λfn _=> ?_;have hv:=zT C st.tr st.gl st.rs.gl hf;cases hx:az C τ f with
 |f gg fi cap=>
  rw[hx] at hr hv;dsimp only at hr;rw[jz] at hr;dsimp only at hr;generalize hgv:a.eval g=gv at hv;cases hv with
  |f _ _ _ vi va q1 q2=>
   let lp:Loop:={ state:= .ready,pending:=none,fn,tmps:=a.tmps,params:=qs,assign:=ca,body:=cb,defers:=w.heap.size }
   let wA:=w.alloc (.deferred (some []))
   let wB:=wA.alloc (.loop lp)
   have hwA:wA.heap=w.heap.push (.deferred (some [])):=rfl;have hwB:wB.heap=wA.heap.push (.loop lp):=rfl;have hszA:wA.heap.size=w.heap.size+1:=by rw[hwA];simp
   have hszB:wB.heap.size=w.heap.size+2:=by rw[hwB];simp[hszA]
   have hold:∀b,b<w.heap.size ->wA.heap[b]? =w.heap[b]? :=λb hb=>by rw[hwA,Ch hb];exact(og hb).symm
   have rA:RS (dJ X) c h wA:=st.rs.push hold
   let c₁:=c.add h.next wA.heap.size 0 0
   have hlr:wB.heap[wA.heap.size]? =some (.loop lp):=by rw[hwB];simp
   have hx₁:gE c c₁:=CE.add_ext c st.rs.fresh _ _ _;have ev1:cH (dJ X) c h wA c₁ ⟨Nat.succ h.next,h.ver,h.oB.put h.next (.loop ps asg body τ 0 none)⟩ wB:=by
    refine cH.alloc rA (ob:= .loop lp) hwB 0 ?_;exact⟨lp,N,by rw[CE.add_ρ];exact hlr,hq,h1,h2,st.sz,hp,st.tr.mono hx₁,trivial,trivial⟩
   have ev0:cH (dJ X) c h w c h wA:=⟨gE.refl c,rA,⟨by rw[hszA];omega,λb hb _=>hold b hb,λo obj ho=> .inr ⟨o,obj,ho,rfl⟩,λ_ h=> .inl h,bB _,λ_ _ h=> .inl h,λ_ _ h=>h,⟨rfl,rfl⟩⟩⟩;have ev:=ev0.trans ev1;have hl:c₁.dM h.next:=CE.add_dom c _ _ _ _;have hρl:(c₁.ρ h.next).1=w.heap.size+1:=by rw[CE.add_ρ];exact hszA
   have hargs:bX c₁ (fi++(.y h.next::cap)) (vi++(.func (.yield (w.heap.size+1)) #[] #[]::va)):=by
    refine(q1.mono hx₁).append (.cons _ _ _ _ ?_ (q2.mono hx₁));rw[←hρl];exact .y _ hl
   obtain⟨fn',b',e1,e2,e3,e4⟩:=Db S IH hr ev1.rs (z8 st.gl hx₁) hargs;refine⟨w.heap.size+1,[{ target:= .collected w.heap.size,args:=#[] }],wB,⟨.fn (.func gg) va.toArray,vi.toArray++#[.func (.yield (w.heap.size+1)) #[] #[]]⟩,wB,gg,
    (vi++(.func (.yield (w.heap.size+1)) #[] #[]::va)).toArray,wB,?_,?_,λ_ _=>trivial,?_,λh=>(by cases h),?_⟩
   ·exact run_enterLoop_outer fn a.tmps qs ca cb
   ·have hcn:∀v,a.eval (.const v)=v:=λ_=>rfl;simp[resolve,hgv,hcn,Deferred.ofValue]
   ·have:=Da (P:=P) e1 e2 e3 (vi++(.func (.yield (w.heap.size+1)) #[] #[]::va)).toArray wB;simpa[invoke] using this
   ·refine vN e4 λe w₃ he=> ?_;cases e with
    |panicked _=>exact he.elim
    |outgrown=>exact he.elim
    |returned v=>
     obtain⟨x,h₃,c₃,hk,ev₃,_⟩:=he;have hl₃:c₃.dM h.next:=ev₃.ext.dM _ hl;have hρ₃:(c₃.ρ h.next).1=w.heap.size+1:=by rw[ev₃.ext.ρ _ hl,hρl]
     have hmk:lO P s c₃ h₃ w₃ ([{ target:= .collected w.heap.size,args:=#[] }]++a.defers):=by
      have m0:lO P s c₁ ⟨Nat.succ h.next,h.ver,h.oB.put h.next (.loop ps asg body τ 0 none)⟩ wB ([{ target:= .collected w.heap.size,args:=#[] }]++a.defers):=by
       have ma:=st.marks.evo ev.keep;refine⟨λd hd=> ?_,?_⟩
       ·rcases fO.1 hd with hd|hd
        ·rw[fk] at hd;subst hd;refine .inl ⟨w.heap.size,rfl,hs,by omega,?_,?_⟩
         ·rw[hwB,Ch ω];have:wA.heap[w.heap.size]? =some (.deferred (some [])):=by rw[hwA];simp
          rw[og ω] at this;exact this
         ·intro o obj ho he;rcases ho.dM with hd|hd
          ·have dc:o≠h.next:=λe=>st.rs.fresh (e▸hd);have hg:=ho.get;rw[T.get_put,aD dc] at hg;have aV:=(st.rs.obj o obj ⟨hg,ho.live,hd⟩).lt ho.live;rw[hx₁.ρ o hd] at he;omega
          ·subst hd;omega
        ·exact ma.all d hd
       ·rw[List.singleton_append,xD];refine⟨λd hd r₁ he=> ?_,st.marks.apart⟩;injection he with he
        rcases st.marks.all d hd with ⟨r,k1,k2,k3,_⟩|⟨g',va',k1,_⟩
        ·intro k4;rw[k1] at k4;injection k4 with k4
         omega
        ·rw[k1];intro k4;cases k4
      exact m0.evo ev₃.keep
     have fin:∀ps' asg' body' τ' s' p' me,h₃.get h.next=some (.loop ps' asg' body' τ' s' p') ->k me τ ⟨h₃.next,Nat.succ h₃.ver,h₃.oB.put h.next .gone⟩ ->
      (s'=0/\ p'=none/\ me= .normal∨s'=2/\ ((∃i,p'=some (some i)/\ me= .exit i)∨(p'=some none/\ me= .ret))) ->
      ∃jump w₄,(Instr.endLoop (w.heap.size+1)).run P w₃= .ok jump w₄/\ (match jump with
       |none=>qQ P (dJ X) C.gL N s k c h w .normal { a with defers:=[{ target:= .collected w.heap.size,args:=#[] }]++a.defers } w₄
       |some cd=>cd.wpIn (fw none) 0 P (qQ P (dJ X) C.gL N s k c h w) { a with defers:=[{ target:= .collected w.heap.size,args:=#[] }]++a.defers } w₄):=by
      intro ps' asg' body' τ' s' p' me hg hk hcase;obtain⟨r,N',k1,k2,k3,k4,k5,k6,k7,k8,k9⟩:=ev₃.rs.obj _ _ ⟨hg,rfl,hl₃⟩;rw[hρ₃] at k1;have hbusy:r.state≠.busy:=by
       intro e;rw[e] at k8;rcases hcase with ⟨rfl,_⟩|⟨rfl,_⟩<;>exact k8.elim
      have hend:=run_endLoop (P:=P) k1 hbusy;have evw:cH (dJ X) c₃ h₃ w₃ c₃ ⟨h₃.next,Nat.succ h₃.ver,h₃.oB.put h.next .gone⟩ (w₃.putObj (w.heap.size+1) (.loop { r with state:= .exhausted })):=
       cH.write ev₃.rs ⟨hg,rfl,hl₃⟩ (by simp) (λb hb=>World.putObj_heap_other (by rw[←hρ₃];exact hb)) (show gR (dJ X) c₃ _ h.next .gone from trivial) _
      have evt:=(ev.trans ev₃).trans evw;have stw:St P (dJ X) C.gL N s c₃ ⟨h₃.next,Nat.succ h₃.ver,h₃.oB.put h.next .gone⟩ (w₃.putObj (w.heap.size+1) (.loop { r with state:= .exhausted })) τ
       { a with defers:=[{ target:= .collected w.heap.size,args:=#[] }]++a.defers }:=
       ⟨evw.rs,z8 st.gl evt.ext,st.tr.mono evt.ext,st.sz,hmk.evo evw.keep⟩
      generalize w₃.putObj (w.heap.size+1) (.loop { r with state:= .exhausted })=wz at hend evw evt stw;refine⟨_,wz,hend,?_⟩;clear hend;rcases hcase with ⟨rfl,rfl,rfl⟩|⟨rfl,⟨i,rfl,rfl⟩|⟨rfl,rfl⟩⟩
      ·cases hpe:r.pending with
       |none=>exact⟨.normal,τ,_,c₃,trivial,hk,evt,stw⟩
       |some z=>rw[hpe] at k9;exact k9.elim
      ·cases hpe:r.pending with
       |none=>rw[hpe] at k9;exact k9.elim
       |some z=>
        rw[hpe] at k9;cases z<;>first|exact k9.elim|skip
        rename_i j;have hij:i=j:=k9;subst hij;exact wpIn_exit ⟨.exit i,τ,_,c₃,rfl,hk,evt,stw⟩
      ·cases hpe:r.pending with
       |none=>rw[hpe] at k9;exact k9.elim
       |some z=>
        rw[hpe] at k9;cases z<;>first|exact k9.elim|skip
        exact wpIn_ret ⟨.ret,τ,_,c₃,trivial,hk,evt,stw⟩
     split at hk
     ·rename_i hg;rw[AH.put_eq] at hk;exact fin _ _ _ _ _ _ _ hg hk (.inl ⟨rfl,rfl,rfl⟩)
     ·rename_i hg;rw[AH.put_eq] at hk;exact fin _ _ _ _ _ _ _ hg hk (.inr ⟨rfl,.inl ⟨_,rfl,rfl⟩⟩)
     ·rename_i hg;rw[AH.put_eq] at hk;exact fin _ _ _ _ _ _ _ hg hk (.inr ⟨rfl,.inr ⟨rfl,rfl⟩⟩)
     ·rw[S.cfg.fail] at hk;exact hk.elim
 |_=>rw[hx] at hr;dsimp only at hr;rw[S.cfg.fail] at hr;exact hr.elim
def ab3 (S:rV P X C) {n:Nat} (IH:uK P X C n) (IL:Dd P X C n):uK P X C (n+1):=by
 intro mc k τ h hr cc;by_cases hb:∃n,mc= .bad n
 ·obtain⟨_,rfl⟩:=hb;rw[gh] at hr;replace hr:C.fail:=hr;rw[S.cfg.fail] at hr;exact hr.elim
 induction cc generalizing mc with
 |scope b ih=>
  intro ro N s c a w aC st hs;refine ab1 (sZ (ih mc hr hb ro N s c a w (by unfold gf at aC;exact aC) st hs) ?_);rintro e a' w' ⟨me,τ',h',c',hx,hk,ev,st'⟩;cases e<;>first|exact⟨me,τ',h',c',hx,hk,ev,st'⟩|(cases me<;>exact hx.elim)
 |skip=>
  intro ro N s c a w aC st hs;cases mc<;>first|(exact bh ⟨_,rfl⟩ hb)|(unfold gf at aC;cases aC;done)|skip
  rw[gh] at hr;exact wpIn_skip (Dc (me:= .normal) trivial hr st)
 |label l=>
  intro ro N s c a w aC st hs;cases mc<;>first|(exact bh ⟨_,rfl⟩ hb)|(unfold gf at aC;cases aC;done)|skip
  rw[gh] at hr;exact wpIn_label (Dc (me:= .normal) trivial hr st)
 |exit i=>
  intro ro N s c a w aC st hs;cases mc<;>first|(exact bh ⟨_,rfl⟩ hb)|(unfold gf at aC;cases aC;done)|skip
  rw[gh] at hr;unfold gf at aC;simp only[bu,aU] at aC;subst aC;exact wpIn_exit (Dc (me:= .exit i) rfl hr st)
 |ret=>
  intro ro N s c a w aC st hs;cases mc<;>first|(exact bh ⟨_,rfl⟩ hb)|(unfold gf at aC;cases aC;done)|skip
  rw[gh] at hr;exact wpIn_ret (Dc (me:= .ret) trivial hr st)
 |goto l=>
  intro ro N s c a w aC st hs;cases mc<;>first|(exact bh ⟨_,rfl⟩ hb)|(unfold gf at aC;cases aC)
 |refuse l=>
  intro ro N s c a w aC st hs;cases mc<;>first|(exact bh ⟨_,rfl⟩ hb)|(unfold gf at aC;cases aC)
 |region id ops d=>
  intro ro N s c a w aC st hs;cases mc<;>first|(exact bh ⟨_,rfl⟩ hb)|(unfold gf at aC;cases aC;done)|skip
  ·rename_i l;rw[gh] at hr;unfold gf at aC;simp only[aB,jH] at aC;obtain⟨rfl,aC⟩:=aC;refine wpIn_region ?_;have:=ZL (ro:=ro) (s:=s) S.ctx S.cfg (GT S IH) (GU S IH) (ops:=ops) (Q:=qQ P (dJ X) C.gL N s k c h w) l ops.toList 0 (λj o hj=>by simpa using hj) aC τ h c w a hr st
    (λc' h' w' τ' a' hk ev st'=>⟨.normal,τ',h',c',trivial,hk,ev,st'⟩)
   rw[zB];simpa using this
  ·rename_i z l;rw[gh] at hr;dsimp only at hr;rw[dT] at hr;unfold gf at aC;simp only[aB] at aC;obtain⟨rfl,aC⟩:=aC;exact aa0 S.ctx S.cfg (GT S IH) (GU S IH) S.mixed aC hr st λc' h' w' τ' a' hk ev st'=>⟨.normal,τ',h',c',trivial,hk,ev,st'⟩
  ·rename_i l x fn;rw[gh] at hr;unfold gf at aC;simp only[aB,jH] at aC;obtain⟨hro,rfl,hbn,aC⟩:=aC;have hro':ro=none:=by cases ro with|none=>rfl|some _=>cases hro
   subst hro';have hfn:fn∈X.bn:=by
    rw[qK] at hbn;obtain⟨y,h1,h2⟩:=hbn;rw[bu,aU] at h2;rw[h2];exact h1
   refine wpIn_region ?_;have:=aa8 S (GT S IH) (GU S IH) (N:=N) (s:=s) (ops:=ops) (Q:=qQ P (dJ X) C.gL N s k c h w) (K:=λτ h=>k .normal τ h) hfn l ops.toList 0 (λj o hj=>by simpa using hj) aC τ h c w a hr st
    (λc' h' w' τ' a' hk ev st'=>⟨.normal,τ',h',c',trivial,hk,ev,st'⟩)
   rw[zB];simpa using this
 |seq x y ihx ihy=>
  intro ro N s c a w aC st hs;cases mc<;>first|(exact bh ⟨_,rfl⟩ hb)|(unfold gf at aC;cases aC;done)|skip
  rename_i p q;rw[gh] at hr;unfold gf at aC;simp only[aB] at aC;refine wpIn_seq (sZ (IH p _ _ h hr x ro N s c a w aC.1 st hs) ?_);rintro e a' w' ⟨me,τ',h',c',hx,hk,ev,st'⟩;cases e<;>cases me<;>first|exact hx.elim|skip
  ·exact sZ (IH q _ _ h' hk y ro N s c' a' w' aC.2 st' (fJ hs ev.keep.size)) λe a w p=>p.trans ev
  ·exact⟨_,τ',h',c',hx,hk,ev,st'⟩
  ·exact⟨_,τ',h',c',hx,hk,ev,st'⟩
 |cond o x y ihx ihy=>
  intro ro N s c a w aC st hs;cases mc<;>first|(exact bh ⟨_,rfl⟩ hb)|(unfold gf at aC;cases aC;done)|skip
  rename_i m p q;rw[gh] at hr;unfold gf at aC;simp only[aB] at aC;have hv:=zT C st.tr st.gl st.rs.gl aC.1;dsimp only at hr;cases hx:az C τ m with
  |b t=>
   rw[hx] at hr hv;generalize hgv:a.eval o=gv at hv;cases hv;refine wpIn_cond hgv ?_;cases t with
   |true=>exact IH p _ _ h hr x ro N s c a w aC.2.1 st hs
   |false=>exact IH q _ _ h hr y ro N s c a w aC.2.2 st hs
  |_=>rw[hx] at hr;dsimp only at hr;rw[S.cfg.fail] at hr;exact hr.elim
 |block i b ih=>
  intro ro N s c a w aC st hs;cases mc<;>first|(exact bh ⟨_,rfl⟩ hb)|(unfold gf at aC;cases aC;done)|skip
  rename_i j p;rw[gh] at hr;unfold gf at aC;simp only[aB,bu,aU] at aC;obtain⟨rfl,aC⟩:=aC;refine wpIn_block (sZ (IH p _ _ h hr b ro N s c a w aC st hs) ?_);rintro e a' w' ⟨me,τ',h',c',hx,hk,ev,st'⟩;cases e<;>cases me<;>first|exact hx.elim|skip
  ·exact⟨_,τ',h',c',hx,hk,ev,st'⟩
  ·rename_i e1 e2;have he:e1=e2:=hx;subst he;dsimp only at hk;by_cases hij:e1=i
   ·subst hij;have hb:Nat.beq e1 e1=true:=by rw[bu];simp
    rw[hb] at hk;simp only[Exit.inBlock,dZ];exact⟨.normal,τ',h',c',trivial,hk,ev,st'⟩
   ·have hb:Nat.beq e1 i=false:=by rw[bu];simp[hij]
    rw[hb] at hk;simp only[Exit.inBlock,aD hij];exact⟨.exit e1,τ',h',c',rfl,hk,ev,st'⟩
  ·exact⟨_,τ',h',c',hx,hk,ev,st'⟩
 |loop b ih=>
  intro ro N s c a w aC st hs;cases mc<;>first|(exact bh ⟨_,rfl⟩ hb)|(unfold gf at aC;cases aC;done)|skip
  rename_i p;unfold gf at aC;exact wpIn_loop_rounds (n+1) (Nb IH IL p k τ h hr b ro N s c a w aC st hs)
 |rangeFunc f qs x y ihx ihy=>
  intro ro N s c a w aC st hs;cases mc<;>first|(exact bh ⟨_,rfl⟩ hb)|(unfold gf at aC;cases aC;done)|skip
  rename_i g ps p q;unfold gf at aC;simp only[aB,jH,M7,aU] at aC;obtain⟨⟨⟨⟨⟨h1,h2⟩,h3⟩,h4⟩,h5⟩,h6⟩:=aC;cases ro with
  |some l=>cases h1
  |none=>exact ab2 S IH hr h2 h3 (M8 h4) h5 h6 st hs
def Nc (S:rV P X C):∀n,uK P X C n/\ Dd P X C n:=by
 intro n;induction n with
 |zero=>
  constructor
  ·intro mc k τ h hr;have:C.fail:=hr;rw[S.cfg.fail] at this;exact this.elim
  ·intro mc k τ h hr;have:C.fail:=hr;rw[S.cfg.fail] at this;exact this.elim
 |succ n ih=>exact⟨ab3 S ih.1 ih.2,Nb ih.1 ih.2⟩
end
end
end AM
