import Derived.Test.YtihgjngjidijaaaGreatDoorN22
set_option linter.all false
set_option maxHeartbeats 4000000
namespace AM
open Dg Go
noncomputable section
def zb:∀(N:Nat) (l:List Nat),l.Nodup ->(∀x∈l,x<N) ->l.length<=N
 |0,l,_,h=>by
  cases l with
  |nil=>simp
  |cons a l=>exact bh (h a (by simp)) ω
 |N+1,l,nd,h=>by
  by_cases hm:N∈l
  ·have ih:=zb N (l.erase N) (nd.erase N) (λx hx=>by
    have:=nd.mem_erase_iff.1 hx;have:=h x this.2;omega)
   have:=List.length_erase_of_mem hm;omega
  ·have ih:=zb N l nd (λx hx=>by
    have h1:=h x hx;have:x≠N:=λe=>hm (e▸hx);omega)
   omega
def EO {κ ν:Type} [DecidableEq κ] {k:κ} {v:ν}:∀{l:List (κ×ν)} {i:Nat},l[i]? =some (k,v) ->∃t,look k l=some t
 |[],i,h=>by simp at h
 |(a,b)::l,i,h=>by
  by_cases e:k=a
  ·exact⟨b,by simp[look,e]⟩
  ·cases i with
   |zero=>simp at h;exact bh h.1.symm e
   |succ i=>
    obtain⟨t,ht⟩:=EO (l:=l) (i:=i) (by simpa using h);exact⟨t,by simp[look,e,ht]⟩
def pB.len {n l} (m:pB n l):l.length<=n*n:=by
 have h:=zb (n*n) (l.map λe=>e.1.1*n+e.1.2) ?_ ?_
 ·simpa using h
 ·have:(l.map λe=>e.1.1*n+e.1.2)=(l.map (·.1)).map λk=>k.1*n+k.2:=by rw[Lu];rfl
  rw[this];have bd:∀k∈l.map (·.1),k.1<k.2/\ k.2<n:=by
   intro k hk;obtain⟨e,he,rfl⟩:=sV.1 hk;obtain⟨i,hi,hl⟩:=sX.1 he;obtain⟨t,ht⟩:=EO (k:=e.1) (v:=e.2) (l:=l) (i:=i) (by rw[cE hi,hl]);exact(m.f _ t ht).2
  have key:∀L:List (Nat×Nat),L.Nodup ->(∀k∈L,k.1<k.2/\ k.2<n) ->(L.map λk=>k.1*n+k.2).Nodup:=by
   intro L;induction L with
   |nil=>intro _ _;simp
   |cons a L ih=>
    intro nd h;rw[FO] at nd;rw[jY,FO];refine⟨λhm=> ?_,ih nd.2 λk hk=>h k (by simp[hk])⟩;obtain⟨b,hb,e⟩:=sV.1 hm;have ha':=h a (by simp);have hb':=h b (by simp[hb]);refine nd.1 ?_;have e1:b.1=a.1:=by
     rcases Nat.lt_trichotomy b.1 a.1 with c|c|c
     ·have:(b.1+1)*n<=a.1*n:=ni n c;rw[nq] at this;omega
     ·exact c
     ·have:(a.1+1)*n<=b.1*n:=ni n c;rw[nq] at this;omega
    have e2:b.2=a.2:=by rw[e1] at e;omega
    have:a=b:=by cases a;cases b;simp_all
    rw[this];exact hb
  exact key _ m.nd bd
 ·intro x hx;obtain⟨e,he,rfl⟩:=sV.1 hx;obtain⟨i,hi,hl⟩:=sX.1 he;obtain⟨t,ht⟩:=EO (k:=e.1) (v:=e.2) (l:=l) (i:=i) (by rw[cE hi,hl]);have:=(m.f _ t ht).2;have h2:(e.1.1+1)*n<=n*n:=ni n ω;rw[nq] at h2;omega
structure aV6 (n c lo hi:Nat) (g:Nat ->Option bC) (N:List (Nat×(Nat×List Nat))):Prop where
 f:∀(a o:Nat) (L:List Nat),look a N=some (o,L) ->cG (g o)=some (L.flatMap cI)/\ L≠[]/\ (∀b∈L,a<b/\ b<n)/\ L.length<=c/\ lo<=o/\ o<hi
 inj:∀(a b o:Nat) L L',look a N=some (o,L) ->look b N=some (o,L') ->a=b
variable {P:Program} {X:aR} {GL:T (List AV)} {ae:T au}
variable (S:aT P X GL ae) {C:aK Prop} (E:Sem P X GL ae C)
def aV7 {n s:Nat} (nl:n<=100) {St} (so:pB n St) {h:AH} {τ:T AV} (ms:mG (h.oB.get s)=mS St) (c4:cG (h.oB.get (s+1))=some [.m s]) (low:s+2<=h.next) {oa o:Nat} (t0:τ.get 0=some (.p oa 0)) (t3:τ.get 3=some (.m o)) (t4:τ.get 4=some (.p (s+1) 0)) {Fs:List Fr} {K:K Prop}
 (hk:∀N ou τ' h',mG (h'.oB.get h.next)=mN N ->cG (h'.oB.get (h.next+1))=some [.m h.next] ->EM n h'.oB.get h'.next N ->mG (h'.oB.get ou)=mT [] ->h.next+2<=ou ->ou<h'.next ->(∀j,j<h.next ->h'.oB.get j=h.oB.get j) ->τ'.get 0=some (.p oa 0) ->τ'.get 4=some (.p (s+1) 0) ->τ'.get 14=some (.p (h.next+1) 0) ->τ'.get 16=some (.m ou) ->df C AZ Fs K τ' h'):
 df C (.seq PB HQ) Fs K τ h:=by
 obtain⟨m,ver,ob⟩:=h;have low':s+2<=m:=low;dsimp only at ms c4;unfold HQ;have sl:=so.len;have sl2:n*n<=100*n:=ni n nl;have rg:∀bQ aA ob' (τ:T AV),mG (T.get ob' s)=mS St ->az C τ (.t 99)= .m s ->step (az C τ) ⟨bQ,aA,ob'⟩ (.rng (.t 99) false)= .v (.p bQ 0) ⟨bQ+1,aA,ob'.put bQ (.mit (some s) St.length [] St.length)⟩:=
  λbQ aA ob' τ q1 q2=>by
   obtain⟨v,e⟩:=(fT (ek:=eK) (en:=eT) (h:=⟨bQ,aA,ob'⟩) (o:=s) (l:=St)).2 q1;exact SQ e q2
 refine Z6 t0 t3 t4 c4 rg ms ?_;refine za E.ok (λx:List Nat×List (Nat×(Nat×List Nat))=>St.length-x.1.length) (λx τ h=>x.1.Nodup/\ (∀i∈x.1,i<St.length)/\ h.oB.get (m+2)=some (.mit (some s) St.length x.1 St.length)/\ mG (h.oB.get m)=mN x.2/\ cG (h.oB.get (m+1))=some [.m m]/\ aV6 n x.1.length (m+3) h.next h.oB.get x.2/\ (∀j,j<m ->h.oB.get j=ob.get j)/\ m+3<=h.next/\ τ.get 0=some (.p oa 0)/\ τ.get 3=some (.m o)/\ τ.get 4=some (.p (s+1) 0)/\ τ.get 14=some (.p (m+1) 0)/\ τ.get 100=some (.p (m+2) 0)) ?_ ([],[]) _ _ ⟨by simp,by simp,?_,?_,?_,⟨λa o L h=>by simp[look] at h,λa b o L L' h=>by simp[look] at h⟩,λj hj=> ?_,bB _,?_,?_,?_,?_,?_⟩
 ·rintro⟨seen,N⟩ τ ⟨n1,v1,aQ⟩ ⟨nd,sb,hit,hN,c1,ng,old,dS,s0,s3,s4,s14,s100⟩ ih;have hn1':m+3<=n1:=dS;have gu:∀j,j<m ->aQ.get j=ob.get j:=old;dsimp only at hit hN c1 ng nd sb;have ms1:mG (aQ.get s)=mS St:=by rw[gu s ω];exact ms
  obtain⟨vs,es⟩:=(fT (ek:=eK) (en:=eT) (h:=⟨n1,v1,aQ⟩) (o:=s) (l:=St)).2 ms1;refine Y5 s0 s3 s4 s14 s100 ?_;rw[←D9];refine SO E.ok (l:=St) (seen:=seen) (ek:=eK) (en:=eT) es hit (Y1 s100 trivial) (λhall=> ?_) (λi k v hi hns=> ?_)
  ·refine Y5 s0 s3 s4 s14 s100 ?_;refine hk N n1 _ _ ?_ ?_ ⟨λa o' L hl=> ?_⟩ ?_ (by show m+2<=n1;omega) (by show n1<n1+1;omega) (λj hj=> ?_) ?_ ?_ ?_ ?_
   ·exact W0 hN
   ·exact W0 c1
   ·obtain⟨q1,q2,q3,q4,q5,q6⟩:=ng.f a o' L hl;have q6':o'<n1:=q6;refine⟨(W0 q1),q2,q3,?_,by show o'<n1+1;omega⟩
    ·have:=zb _ _ nd sb;have h2:n*n<=100*n:=ni n nl;omega
   ·exact U0
   ·have bF:j<m:=hj;exact W0 (gu j bF)
   all_goals exact U4 s0 s3 s4 s14
  ·obtain⟨a,b⟩:=k;have hil:=(eC.1 hi).1;obtain⟨t,ht⟩:=EO hi;obtain⟨ft,hab,hbn⟩:=so.f _ t ht;dsimp only at hab hbn;have nd':(seen++[i]).Nodup:=zE.2 ⟨nd,by simp,λx hx y hy e=>hns (by rw[fk.1 hy] at e;exact e▸hx)⟩;have sb':∀x∈seen++[i],x<St.length:=λx hx=>(fO.1 hx).elim (sb x) λh=>by rw[fk.1 h];exact hil
   have sl':=zb _ _ nd' sb';rw[dy] at sl';simp only[gJ,ji] at sl';have en':∀bQ aA ob' (τ:T AV),mG (T.get ob' s)=mS St ->T.get ob' (m+2)=some (.mit (some s) St.length (seen++[i]) St.length) ->az C τ (.t 100)= .p (m+2) 0 ->step (az C τ) ⟨bQ,aA,ob'⟩ (.ent (.t 100))= .v (.tu [.ag [ι (a:Int),ι (b:Int)],eT v]) ⟨bQ,aA,ob'⟩:=
    λbQ aA ob' τ q1 q2 q3=>by
     obtain⟨v',e⟩:=(fT (ek:=eK) (en:=eT) (h:=⟨bQ,aA,ob'⟩) (o:=s) (l:=St)).2 q1;exact SP (ek:=eK) (en:=eT) (k:=(a,b)) (l:=St) e q2 q3 hi
   have lk:∀bQ aA ob' (τ:T AV),mG (T.get ob' m)=mN N ->az C τ (.t 108)= .m m ->az C τ (.t 110)=ι (a:Int) ->
    step (az C τ) ⟨bQ,aA,ob'⟩ (.look (.lf .i) (.t 108) (.t 110) .sn false)= .v (oF nV .sn (look a N)) ⟨bQ,aA,ob'⟩:=
    λbQ aA ob' τ q1 q2 q3=>sd (k:=a) (z:= .sn) (en:=nV) lW (h:=⟨bQ,aA,ob'⟩) (fT.2 q1) q2 q3
   have mu:∀(w:Nat×List Nat) bQ aA ob' (τ:T AV),mG (T.get ob' m)=mN N ->az C τ (.t 105)= .m m ->az C τ (.t 107)=ι (a:Int) ->az C τ (.t 115)= .sl w.1 0 w.2.length none 1 ->
    step (az C τ) ⟨bQ,aA,ob'⟩ (.mupd (.lf .i) (.t 105) (.t 107) (.t 115))= .v .un ⟨bQ,aA+1,ob'.put m (.map (aA+1) (di (λn:Nat=>AV.i .i64 (n:Int)) nV 0 (ups a w N)) (ups a w N).length)⟩:=
    λw bQ aA ob' τ q1 q2 q3 q4=>mL (k:=a) (v:=w) (en:=nV) lW (h:=⟨bQ,aA,ob'⟩) (fT.2 q1) q2 q3 q4
   have fin:∀(L:List Nat) (τ':T AV) (n2 v2:Nat) (aJ:T bC),n1+3=n2 ->(∀j,j<n1 ->j≠m ->j≠m+2 ->(∀L',look a N≠some (j,L')) ->aJ.get j=aQ.get j) ->aJ.get (m+2)=some (.mit (some s) St.length (seen++[i]) St.length) ->mG (aJ.get m)=mN (ups a (n1+2,L++[b]) N) ->cG (aJ.get (n1+2))=some (L.flatMap cI++[ι (b:Int)]) ->(∀z∈L,a<z/\ z<n) ->L.length<=seen.length ->
    τ'.get 0=some (.p oa 0) ->τ'.get 3=some (.m o) ->τ'.get 4=some (.p (s+1) 0) ->τ'.get 14=some (.p (m+1) 0) ->τ'.get 100=some (.p (m+2) 0) ->df C (.loop (.seq PC PD)) (.b 6:: .s (.seq PE AZ)::Fs) K τ' ⟨n2,v2,aJ⟩:=by
    intro L τ' n2 v2 aJ a1 a2 a3 a4 a5 a6 a7 u0 u3 u4 u14 u100;have hm3:∀j,j<m+3 ->∀L',look a N≠some (j,L'):=λj hj L' hc=>by
     have:=(ng.f a j L' hc).2.2.2.2.1;omega
    refine ih (seen++[i],ups a (n1+2,L++[b]) N) _ _ ?_ ⟨nd',sb',a3,a4,?_,⟨λa' o' L' hl=> ?_,λa' b' o' L1 L2 h1 h2=> ?_⟩,λj hj=> ?_,by show m+3<=n2;omega,u0,u3,u4,u14,u100⟩
    ·dsimp only;rw[dy];simp only[gJ,ji];omega
    ·show cG (aJ.get (m+1))=_;rw[a2 (m+1) ω ω ω (hm3 _ ω)];exact c1
    ·dsimp only at hl ⊢;rw[qi] at hl;rw[dy];simp only[gJ,ji];split at hl
     ·rename_i e;cases hl;refine⟨?_,by simp,?_,?_,by omega,by show n1+2<n2;omega⟩
      ·show cG (aJ.get (n1+2))=_;rw[a5,jl];rfl
      ·intro z hz;rcases fO.1 hz with h|h
       ·rw[e];exact a6 z h
       ·rw[fk.1 h,e];exact⟨hab,hbn⟩
      ·rw[dy];simp only[gJ,ji];omega
     ·rename_i ne;obtain⟨q1,q2,q3,q4,q5,q6⟩:=ng.f a' o' L' hl;have q6':o'<n1:=q6;refine⟨?_,q2,q3,by omega,q5,by show o'<n2;omega⟩;rw[a2 o' q6' ω ω (λL2 h2=>ne (ng.inj a' a o' _ _ hl h2))];exact q1
    ·dsimp only at h1 h2;rw[qi] at h1 h2;split at h1<;>split at h2
     ·omega
     ·cases h1;have:=(ng.f _ _ _ h2).2.2.2.2.2;have:n1+2<n1:=this;omega
     ·cases h2;have:=(ng.f _ _ _ h1).2.2.2.2.2;have:n1+2<n1:=this;omega
     ·exact ng.inj _ _ _ _ _ h1 h2
    ·show aJ.get j=_;rw[a2 j ω ω ω (hm3 _ ω)];exact gu j hj
   cases hl:look a N with
   |none=>
    have mu':=mu (n1+1+1,[b]);simp only[gJ,ji,gB] at mu';simp(disch:=first|omega|(simp(disch:=omega) only[dh,oD,tB,T.get_put,d9,oI,pN,Nat.reduceEqDiff,reduceIte,ms1,hN,s100])) only[iB,eK,en',lk,hl,oF,mu',s14,c1,↓sA E.ok,Nat.reduceAdd,Nat.reduceShiftRight,Nat.reduceAnd,Nat.reduceBneDiff,↓reduceIte,go_sem];refine fin [] _ _ _ _ rfl (λj h1 h2 h3 _=> ?_) ?_ ?_ ?_ (by simp) (by simp) ?_ ?_ ?_ ?_ ?_
    ·exact U0
    ·exact U0
    ·exact U0
    ·exact U0
    all_goals exact U5 s0 s3 s4 s14 s100
   |some e=>
    obtain⟨o',L⟩:=e;obtain⟨q1,q2,q3,q4,q5,q6⟩:=ng.f a o' L hl;have q6':o'<n1:=q6;have i2:L.length+1<=1048576:=by omega
    have ll:(L.flatMap cI).length=L.length:=by rw[kh (k:=1) (λa=>rfl)];omega
    have mu':=mu (n1+1+1,L++[b]);simp only[dy,gJ,ji,gB] at mu';refine IN @iB @eK.eq_1 en' lk hl @oF.eq_1 @nV.eq_1 mu' q1 i2 ll s0 s3 s4 s14 s100 c1 ms1 hN ?_;refine fin L _ _ _ _ rfl (λj h1 h2 h3 h4=> ?_) ?_ ?_ ?_ q3 q4 ?_ ?_ ?_ ?_ ?_
    ·have:j≠o':=λe=>h4 L (e▸hl);exact U0
    ·exact U0
    ·exact U0
    ·exact U0
    all_goals exact U5 s0 s3 s4 s14 s100
 ·exact U0
 ·exact U0
 ·exact U0
 ·exact U0
 all_goals exact U3 t0 t3 t4
def aV8 {ev:MA ->AV} {h:AH} {x a:MA} {o off n:Nat} (h1:ev x= .sl o off (n+1) none 1) (h2:fP (ev a)=some 1):step ev h (.slc 1 x (some a) none none)= .v (.sl o (off+1) n none 1) h:=by
 show(match ev x with
  | .sl o off n cap esz=>bif !(Nat.beq esz 1) then ay.bad else match cap with
   |some c=>match d7 n c (nO ev (some a)) (nO ev none) none with
    |some (l,r,m)=>fN (off+l*esz) λoff=>fN (r-l) λn=>fN (m-l) λc=>ay.v (.sl o off n (some c) esz) h
    |none=>ay.bad
   |none=>match d7 n n (nO ev (some a)) (nO ev none) none with
    |some (l,r,_)=>fN (off+l*esz) λoff=>fN (r-l) λn=>ay.v (.sl o off n none esz) h
    |none=>ay.bad
  | .ds c off n esz=>bif !(Nat.beq esz 1) then ay.bad else match d7 n n (nO ev (some a)) (nO ev none) none with
   |some (l,r,_)=>fN (off+l*esz) λoff=>fN (r-l) λn=>ay.v (.ds c off n esz) h
   |none=>ay.bad
  | .sn=>match d7 0 0 (nO ev (some a)) (nO ev none) none with|some _=>ay.v .sn h|none=>ay.bad
  |_=>ay.bad)=_
 rw[h1];have e:d7 (n+1) (n+1) (nO ev (some a)) (nO ev none) none=some (1,n+1,n+1):=by
  rw[uO,uP,h2];show(bif Nat.ble (n+1) (n+1)&&Nat.ble (n+1) (n+1)&&Nat.ble 1 (n+1) then some (1,n+1,n+1) else none)=_;have q1:Nat.ble (n+1) (n+1)=true:=by rw[dm];simp
  have q2:Nat.ble 1 (n+1)=true:=by rw[dm];simp
  rw[q1,q2];rfl
 simp only[dT,e];rfl
def aV9 {l:List AV} {a n:Nat} {x:AV} {r:List AV} (h:sub l a (n+1)=some (x::r)):sub l a 1=some [x]/\ sub l (a+1) n=some r:=by
 obtain⟨h1,h2⟩:=lM h;have e:l.drop a=x::l.drop (a+1):=by
  cases hd:l.drop a with
  |nil=>rw[hd] at h2;simp at h2
  |cons y t=>
   rw[hd] at h2;simp only[List.take_succ_cons,List.cons.injEq] at h2;rw[←ud,hd,h2.1];rfl
 rw[e,List.take_succ_cons] at h2;simp only[List.cons.injEq,true_and] at h2;constructor
 ·rw[nH,aF ⟨by omega,by omega⟩,e];rfl
 ·rw[nH,aF ⟨by omega,by omega⟩,h2]
def Tj {κ ν:Type} [DecidableEq κ] {k:κ} {v:ν} {e:κ×ν}:∀{l:List (κ×ν)},e∈ups k v l ->e=(k,v)∨e∈l
 |[],h=>by simp[ups] at h;exact .inl h
 |(a,b)::l,h=>by
  by_cases q:k=a
  ·simp only[ups,aF q,ed] at h;exact h.imp id λh=>by simp[h]
  ·simp only[ups,aD q,ed] at h;rcases h with h|h
   ·exact .inr (by simp[h])
   ·exact(Tj h).imp id λh=>by simp[h]
def aW0 (A:dY P X GL) (D:eV ae) (F:jr ae) {g:Gr} (G:ce g) {s nx oa ou:Nat} {pp:List AV} {St N} (so:pB g.nT.length St) {h:AH} {τ:T AV} (ms:mG (h.oB.get s)=mS St) (c4:cG (h.oB.get (s+1))=some [.m s]) (hN:mG (h.oB.get nx)=mN N) (c14:cG (h.oB.get (nx+1))=some [.m nx]) (no:EM g.nT.length h.oB.get h.next N) (hO:mG (h.oB.get ou)=mT []) (ca:cG (h.oB.get oa)=some (ar g++pp)) (low:s+1<ou/\ nx+1<ou/\ oa<ou/\ ou<h.next)
 (t0:τ.get 0=some (.p oa 0)) (t4:τ.get 4=some (.p (s+1) 0)) (t14:τ.get 14=some (.p (nx+1) 0)) (t16:τ.get 16=some (.m ou)) (k:AV ->AH ->Prop)
 (hk:∀O h',mG (h'.oB.get ou)=mT O ->(∀e∈O,e.2=gq) ->h.next<=h'.next ->(∀j,j<h.next ->j≠ou ->h'.oB.get j=h.oB.get j) ->k (.m ou) h'):
 df C AZ [] (KF k [(2,none)]) τ h:=by
 obtain⟨m,ver,ob⟩:=h;obtain⟨low1,low2,low3,low4⟩:=low;have low4':ou<m:=low4;have ntl:=G.ntl;dsimp only at ms c4 hN c14 hO ca no;unfold AZ;have ca':=ca;simp only[ar,gw,gx] at ca;refine Y5 ca t0 t4 t14 t16 ?_;refine fj E.ok g.nT.length (λi τ h=>∃O,mG (h.oB.get ou)=mT O/\ (∀e∈O,e.2=gq)/\ m<=h.next/\ (∀j,j<m ->j≠ou ->h.oB.get j=ob.get j)/\ τ.get 0=some (.p oa 0)/\ τ.get 4=some (.p (s+1) 0)/\ τ.get 14=some (.p (nx+1) 0)/\ τ.get 16=some (.m ou)/\ τ.get 122=some (ι (g.nT.length:Int))/\ τ.get 123=some (ι (i:Int))) ?_ ?_ _ _ ⟨[],hO,λe h=>by simp at h,bB _,λj _ _=>rfl,?_,?_,?_,?_,?_,?_⟩
 ·rintro i τ ⟨n1,v1,aQ⟩ hi ⟨O,mO,bO,dS,old,u0,u4,u14,u16,u122,u123⟩ ih;have hn1':m<=n1:=dS;have gu:∀j,j<m ->j≠ou ->aQ.get j=ob.get j:=old;dsimp only at mO;have a14:cG (aQ.get (nx+1))=some [.m nx]:=by rw[gu _ ω ω];exact c14
  have aN:mG (aQ.get nx)=mN N:=by rw[gu _ ω ω];exact hN
  have aa:cG (aQ.get oa)=_:=(congrArg cG (gu oa ω ω)).trans ca;have lk:∀bQ aA ob' (τ:T AV),mG (T.get ob' nx)=mN N ->az C τ (.t 126)= .m nx ->az C τ (.t 127)=ι (i:Int) ->
   step (az C τ) ⟨bQ,aA,ob'⟩ (.look (.lf .i) (.t 126) (.t 127) .sn false)= .v (oF nV .sn (look i N)) ⟨bQ,aA,ob'⟩:=
   λbQ aA ob' τ q1 q2 q3=>sd (k:=i) (z:= .sn) (en:=nV) lW (h:=⟨bQ,aA,ob'⟩) (fT.2 q1) q2 q3
  cases hl:look i N with
  |none=>
   simp(disch:=first|omega|(simp(disch:=omega) only[dh,oD,tB,T.get_put,d9,oI,pN,Nat.reduceEqDiff,reduceIte,aN])) only[lk,hl,oF,u14,u122,u123,a14,bK,↓sA E.ok,↓reduceIte,go_sem];refine ih _ _ ⟨O,mO,bO,dS,old,?_,?_,?_,?_,?_,?_⟩<;>exact U5 u0 u4 u14 u16 u122
  |some e=>
   obtain⟨o',L⟩:=e;obtain⟨q1,q2,q3,q4,q5⟩:=no.f i o' L hl;have lz:(((L.length:Nat):Int)=0)=False:=by
    have:L.length≠0:=λh=>q2 (pM h);exact av
   have ne:∀a o L,look a N=some (o,L) ->o≠ou:=by
    intro a o L hl e;have h1:=(no.f a o L hl).1;rw[e] at h1;cases hb:ob.get ou with
    |none=>rw[hb] at h1;cases h1
    |some v=>rw[hb] at h1 hO;cases v<;>first|(cases h1;done)|(cases hO;done)
   have no1:EM g.nT.length (λj=>aQ.get j) n1 N:=⟨λa o L hl=>by
    obtain⟨q1,q2,q3,q4,q5⟩:=no.f a o L hl;have q5':o<m:=q5;exact⟨by show cG (aQ.get o)=_;rw[gu o q5' (ne a o L hl)];exact q1,q2,q3,q4,by omega⟩⟩
   have a_:mG (aQ.get s)=mS St:=by rw[gu _ ω ω];exact ms
   have a4:cG (aQ.get (s+1))=some [.m s]:=by rw[gu _ ω ω];exact c4
   have mQ:=λ{R q h} (v:vg g.nT.length i n1 (λj=>aQ.get j) R q h) {a} ha {d} fd k hk=>aV2 (C:=C) S E A D F so (g:=λj=>aQ.get j) (x:=n1) (nn:=i) a_ a4 aN no1 a14 ⟨by omega,by omega,by omega,by omega⟩ ω (R:=R) (q:=q) (h:=h) v (a:=a) ha (d:=d) fd k hk;simp only[eT,eD] at mQ;refine uX lk hl @oF.eq_1 @nV.eq_1 lz u0 u4 u14 u16 u122 u123 a14 aa aN @bK ?_;refine E.run (mQ (R:=[]) (q:=[]) ⟨?_,⟨λi t h=>by simp[look] at h,λi t h=>by simp[look] at h⟩,?_,⟨_,?_,⟨⟨n1+2,0,some 0,[],rfl,?_,rfl,.inr ⟨rfl,rfl,rfl,rfl⟩,bB _,by omega,by show n1+2<n1+4;omega⟩⟩⟩,by simp,by simp,bB _,λj hj=> ?_⟩ (bB _) G.fam.f _ ?_)
   ·exact U0
   ·exact U0
   ·exact U0
   ·exact U0
   ·exact U0
   rintro R q ⟨n2,v2,aJ⟩ va hn2 mes;have hn2':n1+4<=n2:=va.nx;clear mes;refine Y6 u0 u4 u14 u16 u122 u123 ?_;refine za E.ok (λx:List (Nat×Tr)×List Nat=>2*(8*g.nT.length-iX g.nT.length x.1)+x.2.length) (λx τ h=>vg g.nT.length i n1 (λj=>aQ.get j) x.1 x.2 h/\ τ.get 0=some (.p oa 0)/\ τ.get 4=some (.p (s+1) 0)/\ τ.get 14=some (.p (nx+1) 0)/\ τ.get 16=some (.m ou)/\ τ.get 122=some (ι (g.nT.length:Int))/\ τ.get 123=some (ι (i:Int))/\ τ.get 17=some (ι (i:Int))/\ τ.get 18=some (.p (n1+1) 0)/\ τ.get 19=some (.p (n1+3) 0)/\ τ.get 20=some (.f 154 [] [.p (nx+1) 0,.p (n1+1) 0,.p (s+1) 0,.p (n1+3) 0])) ?_ (R,q) _ _ ⟨va,?_,?_,?_,?_,?_,?_,?_,?_,?_,?_⟩
   ·rintro⟨R,q⟩ τ ⟨n3,v3,cC⟩ ⟨va,w0,w4,w14,w16,w122,w123,w17,w18,w19,w20⟩ ih2;dsimp only at va ih2;have vnx:n1+4<=n3:=va.nx;have vold:∀j,j<n1 ->cC.get j=aQ.get j:=va.old;have c1:cG (cC.get (n1+1))=some [.m n1]:=va.c1;have cr:mG (cC.get n1)=mT R:=va.r;obtain⟨vq,c3,qa⟩:=va.c3;obtain⟨oq,aq,cq,Lq,rfl,q1,q2,q3,q4,q5,q6⟩:=qa.e;have q6':oq<n3:=q6;dsimp only at c3 q1;cases q with
    |nil=>
     refine iU w0 w4 w14 w16 w122 w123 w17 w18 w19 w20 c1 c3 ?_;refine E.run (EI (l:=R) S E D F cr _ ?_ (by show n1<n3;omega));rintro⟨n4,v4,ob4⟩ hn4 old4;have hn4':n3<=n4:=hn4;have old4':∀j,j<n3 ->ob4.get j=cC.get j:=old4;have rb:fF R i=gq:=va.ok.at_z (by simp);rw[rb];have eb:eT gq= .ag [.sn,ι 0]:=rfl;have aO:mG (ob4.get ou)=mT O:=by rw[old4' ou ω,vold ou ω];exact mO
     have mu:∀bQ aA ob' (τ:T AV),mG (T.get ob' ou)=mT O ->az C τ (.t 159)= .m ou ->az C τ (.t 160)=ι (i:Int) ->az C τ (.t 163)= .ag [.sn,ι 0] ->
      step (az C τ) ⟨bQ,aA,ob'⟩ (.mupd (.lf .i) (.t 159) (.t 160) (.t 163))= .v .un ⟨bQ,aA+1,ob'.put ou (.map (aA+1) (di (λn:Nat=>AV.i .i64 (n:Int)) eT 0 (ups i gq O)) (ups i gq O).length)⟩:=
      λbQ aA ob' τ q1 q2 q3 q4=>mL (k:=i) (v:=gq) (en:=eT) lW (h:=⟨bQ,aA,ob'⟩) (fT.2 q1) q2 q3 q4
     rw[eb];refine qt w0 w4 w14 w16 w122 w123 w17 w18 w19 w20 mu aO @bK ?_;refine ih _ _ ⟨ups i gq O,?_,λe h=> ?_,by show m<=n4;omega,λj h1 h2=> ?_,?_,?_,?_,?_,?_,?_⟩
     ·exact U0
     ·rcases Tj h with rfl|h
      ·rfl
      ·exact bO e h
     ·simp(disch:=omega) only[dh,T.get_put,bV];rw[old4' j ω,vold j ω];exact gu j h1 h2
     all_goals exact U5 w0 w4 w14 w16 w122
    |cons b q=>
     rcases q3 with rfl|⟨_,h,_,_⟩
     ·obtain⟨u1,u2⟩:=aV9 (x:=ι (b:Int)) (r:=q.flatMap cI) q2;have lqb:=va.lq b (by simp);have nbi:((b:Int)=(i:Int))=False:=av;have sq:∀(τ:T AV) h,az C τ (.t 148)= .sl oq aq (q.length+1) none 1 ->step (az C τ) h (.slc 1 (.t 148) (some (.c (ι 1))) none none)= .v (.sl oq (aq+1) q.length none 1) h:=
       λτ h q1=>aV8 q1 rfl
      have lkr:∀bQ aA ob' (τ:T AV),mG (T.get ob' n1)=mT R ->az C τ (.t 155)= .m n1 ->az C τ (.t 156)=ι (b:Int) ->
       step (az C τ) ⟨bQ,aA,ob'⟩ (.look (.lf .i) (.t 155) (.t 156) (.ag [.sn,ι 0]) false)= .v (eT (fF R b)) ⟨bQ,aA,ob'⟩:=
       λbQ aA ob' τ q1 q2 q3=>by
        refine(sd (k:=b) (z:= .ag [.sn,ι 0]) (en:=eT) lW (h:=⟨bQ,aA,ob'⟩) (fT.2 q1) q2 q3).trans ?_;unfold fF;cases look b R<;>rfl
      have fb:=va.ok.at_f b;generalize hrb:fF R b=rb at*;simp only[eT,eD] at lkr;simp(disch:=first|omega|(simp(disch:=omega) only[dh,oD,tB,T.get_put,d9,oI,pN,Nat.reduceEqDiff,reduceIte,cr])) only[w17,w18,w19,w20,c1,c3,q1,u1,sq,lkr,nbi,gJ,↓sA E.ok,↓reduceIte,go_sem];refine E.run (mQ (R:=R) (q:=q) (h:=⟨n3,v3+1,cC.put (n1+3) (.cells (v3+1) [.sl oq (aq+1) q.length none 1])⟩) ⟨?_,va.ok,?_,⟨_,?_,⟨⟨oq,aq+1,none,Lq,rfl,?_,u2,.inl rfl,q4,q5,q6'⟩⟩⟩,λz hz=>va.lq z (by simp[hz]),?_,vnx,λj hj=> ?_⟩ (a:=b) (FL lqb.1) fb _ ?_)
      ·exact W0 cr
      ·exact W0 c1
      ·exact U0
      ·exact W0 q1
      ·have:=va.ql;simp only[gJ] at this;omega
      ·exact W0 (vold j hj)
      rintro R2 q2' ⟨n4,v4,ob4⟩ vb hn4 mes;refine nS w0 w4 w14 w16 w122 w123 w17 w18 w19 w20 ?_;refine ih2 (R2,q2') _ _ ?_ ⟨vb,?_,?_,?_,?_,?_,?_,?_,?_,?_,?_⟩
      ·dsimp only;simp only[gJ];omega
      all_goals exact Bo w0 w4 w14 w16 w122 w123 w17 w18 w19 w20
     ·cases h
   all_goals exact U6 u0 u4 u14 u16 u122 u123
 ·rintro τ ⟨n1,v1,aQ⟩ ⟨O,mO,bO,dS,old,u0,u4,u14,u16,u122,u123⟩;refine Y6 u0 u4 u14 u16 u122 u123 ?_;exact hk O _ mO bO dS old
 all_goals exact U4 t0 t4 t14 t16
def aW1 (A:dY P X GL) (D:eV ae) (F:jr ae) {g:Gr} (G:ce g) {Z:Nat ->Bool} (Y:iQ g Z) {oa op:Nat} {h:AH} (an:By h oa op g) (la:oa<h.next/\ op<h.next) (k:AV ->AH ->Prop)
 (hk:∀ou O h',mG (h'.oB.get ou)=mT O ->(∀e∈O,e.2=gq) ->ou<h'.next ->h.next<=ou ->(∀j,j<h.next ->h'.oB.get j=h.oB.get j) ->k (.m ou) h'):
 du C 78 [.p oa 0] h k:=by
 obtain⟨m,ver,ob⟩:=h;have la1:oa<m:=la.1;have la2:op<m:=la.2;have ntl:=G.ntl;refine E.bS F.f78 (Y1 @PG.eq_1 ?_);refine E.run (aU8 (oa:=oa) (op:=op) S E A D F G Y an la _ ?_);rintro o l ⟨n1,v1,aQ⟩ ml ok dS ho1 ho2 dD;have hn1':m<=n1:=dS;have ho1':m<=o:=ho1;have ho2':o<n1:=ho2;have old1':∀j,j<m ->aQ.get j=ob.get j:=dD;dsimp only at ml;obtain⟨an1,an2⟩:=an;dsimp only at an1 an2;have b1:cG (aQ.get oa)=some (ar g++[.sl op 0 g.pR.length none 2]):=by rw[old1' oa la1];exact an1
 have b2:cG (aQ.get op)=some ((g.pR.map (jh g)).flatMap cT):=by rw[old1' op la2];exact an2
 refine Y0 ?_;unfold PF;rw[Rk E.ok];refine aV5 (oa:=oa) (op:=op) (o:=o) (s:=n1) (l:=l) S E A D F G Y ⟨?_,?_⟩ ?_ ok ?_ ?_ ⟨by omega,by omega,by omega,bB _⟩ ?_ ?_ ?_ ?_
 ·exact W0 b1
 ·exact W0 b2
 ·exact W0 ml
 ·exact U0
 ·exact U0
 ·exact U0
 ·exact U0
 ·exact U0
 rintro St τ2 ⟨n2,v2,aJ⟩ so ms2 hn2 eG t0 t3 t4;have hn2':n1+2<=n2:=hn2;have cQ:∀j,j<n1+2 ->j≠n1 ->aJ.get j=_:=eG;dsimp only at ms2;have c4:cG (aJ.get (n1+1))=some [.m n1]:=by rw[cQ (n1+1) ω ω];exact U0
 have low2:∀j,j<n1 ->aJ.get j=aQ.get j:=λj hj=>by rw[cQ j ω ω];exact U0
 refine aV7 E (s:=n1) ω so ms2 c4 hn2 t0 t3 t4 ?_;rintro N ou τ3 ⟨n3,v3,cC⟩ hN c14 no hO ho3 ho4 old3 u0 u4 u14 u16;have ho3':n2+2<=ou:=ho3;have ho4':ou<n3:=ho4;have iN:∀j,j<n2 ->cC.get j=aJ.get j:=old3;dsimp only at hN c14 no hO u14;refine aW0 (s:=n1) (nx:=n2) (oa:=oa) (ou:=ou) (St:=St) (N:=N) (pp:=[.sl op 0 g.pR.length none 2]) S E A D F G so ?_ ?_ hN c14 no hO ?_ ⟨by omega,by omega,by omega,ho4⟩ u0 u4 u14 u16 _ ?_
 ·show mG (cC.get n1)=_;rw[iN n1 ω];exact ms2
 ·show cG (cC.get (n1+1))=_;rw[iN (n1+1) ω];exact c4
 ·show cG (cC.get oa)=_;rw[iN oa ω,low2 oa ω];exact b1
 rintro O ⟨n4,v4,ob4⟩ mO bO hn4 old4;have hn4':n3<=n4:=hn4;refine hk ou O _ mO bO (by show ou<n4;omega) (by show m<=ou;omega) (λj hj=> ?_);have bF:j<m:=hj;show ob4.get j=ob.get j;rw[show ob4.get j=cC.get j from old4 j (by show j<n3;omega) ω,iN j ω,low2 j ω];exact old1' j bF
section
variable {C:aK Prop} (hC:lQ C) {S:List Fr} {K:K Prop} {τ:T AV} {h:AH}
include hC
theorem aW2 {f d:Nat} {x:MA}:df C (.dfr [⟨some d,.mfn f [] [x],none⟩] (.t d) f) S K τ h↔gV C .normal S K (τ.put d (.f f [] [az C τ x])) h:=by
 refine(ab8 hC).trans ?_;rw[G6,G1];have e1:eE (az C τ) ([]:List MA)=some []:=rfl;have e2:eE (az C τ) [x]=some [az C τ x]:=by rw[wC,wy];rfl
 rw[e1,e2];show(match az C (τ.put d (.f f [] [az C τ x])) (.t d) with
  | .f g _ _=>(bif Nat.beq g f then qW C K S .normal (τ.put d (.f f [] [az C τ x])) h else False)
  |_=>False)↔_
 rw[oD,T.get_put,aF rfl];show(bif Nat.beq f f then qW C K S .normal (τ.put d (.f f [] [az C τ x])) h else False)↔_;rw[bu];simp only[mC,fC];exact Iff.rfl
end
def aW3 (A:dY P X GL) (D:eV ae) (F:jr ae) {g:Gr} (G:ce g) {Z:Nat ->Bool} (Y:iQ g Z) {oa op b3:Nat} {h:AH} (an:By h oa op g) (la:oa<h.next/\ op<h.next/\ b3<h.next) (c3:cG (h.oB.get b3)=some [.b false]) (k:AV ->AH ->Prop)
 (hk:∀h',cG (h'.oB.get b3)=some [.b false] ->h.next<=h'.next ->(∀j,j<h.next ->j≠b3 ->h'.oB.get j=h.oB.get j) ->k (.tu []) h'):
 du C 77 [.p oa 0,.p b3 0] h k:=by
 obtain⟨m,ver,ob⟩:=h;have la1:oa<m:=la.1;have la2:op<m:=la.2.1;have la3:b3<m:=la.2.2;dsimp only at c3;refine E.bS F.f77 (Y1 @Py.eq_1 ?_);refine E.run (aW1 (oa:=oa) (op:=op) S E A D F G Y an ⟨la.1,la.2.1⟩ _ ?_);rintro ou O ⟨n1,v1,aQ⟩ mO bO ho1 ho2 dD;have ho1':ou<n1:=ho1;have ho2':m<=ou:=ho2;have old1':∀j,j<m ->aQ.get j=ob.get j:=dD;dsimp only at mO;have rg:∀bQ aA ob' (τ:T AV),mG (T.get ob' ou)=mT O ->az C τ (.t 6)= .m ou ->step (az C τ) ⟨bQ,aA,ob'⟩ (.rng (.t 6) false)= .v (.p bQ 0) ⟨bQ+1,aA,ob'.put bQ (.mit (some ou) O.length [] O.length)⟩:=
  λbQ aA ob' τ q1 q2=>by
   obtain⟨v,e⟩:=(fT (ek:=λn:Nat=>AV.i .i64 (n:Int)) (en:=eT) (h:=⟨bQ,aA,ob'⟩) (o:=ou) (l:=O)).2 q1;exact SQ e q2
 refine Z2 rg mO ?_;refine za E.ok (λx:List Nat=>O.length-x.length) (λx τ h=>x.Nodup/\ (∀i∈x,i<O.length)/\ h.oB.get n1=some (.mit (some ou) O.length x O.length)/\ mG (h.oB.get ou)=mT O/\ cG (h.oB.get b3)=some [.b false]/\ (∀j,j<m ->j≠b3 ->h.oB.get j=ob.get j)/\ n1+1<=h.next/\ τ.get 1=some (.p b3 0)/\ τ.get 7=some (.p n1 0)) ?_ [] _ _ ⟨by simp,by simp,?_,?_,?_,λj h1 h2=> ?_,bB _,?_,?_⟩
 ·rintro seen τ ⟨n2,v2,aJ⟩ ⟨nd,sb,hit,mO2,c32,eG,hn2,s1,s7⟩ ih;have hn2':n1+1<=n2:=hn2;have cQ:∀j,j<m ->j≠b3 ->aJ.get j=ob.get j:=eG;dsimp only at hit mO2 c32;obtain⟨vs,es⟩:=(fT (ek:=λn:Nat=>AV.i .i64 (n:Int)) (en:=eT) (h:=⟨n2,v2,aJ⟩) (o:=ou) (l:=O)).2 mO2;refine Y2 s1 s7 ?_;rw[←D9];refine SO E.ok (l:=O) (seen:=seen) (ek:=λn:Nat=>AV.i .i64 (n:Int)) (en:=eT) es hit (Y1 s7 trivial) (λhall=> ?_) (λi k v hi hns=> ?_)
  ·refine Y3 s1 s7 @xb ?_;exact hk _ c32 (by show m<=n2;omega) eG
  ·have hil:=(eC.1 hi).1;have hv:v=gq:=bO _ (dI hi);subst hv;have nd':(seen++[i]).Nodup:=zE.2 ⟨nd,by simp,λx hx y hy e=>hns (by rw[fk.1 hy] at e;exact e▸hx)⟩;have sb':∀x∈seen++[i],x<O.length:=λx hx=>(fO.1 hx).elim (sb x) λh=>by rw[fk.1 h];exact hil
   have sl':=zb _ _ nd' sb';rw[dy] at sl';simp only[gJ,ji] at sl';have eb:eT gq= .ag [.sn,ι 0]:=rfl;have en':∀bQ aA ob' (τ:T AV),mG (T.get ob' ou)=mT O ->T.get ob' n1=some (.mit (some ou) O.length (seen++[i]) O.length) ->az C τ (.t 7)= .p n1 0 ->step (az C τ) ⟨bQ,aA,ob'⟩ (.ent (.t 7))= .v (.tu [ι (k:Int),.ag [.sn,ι 0]]) ⟨bQ,aA,ob'⟩:=
    λbQ aA ob' τ q1 q2 q3=>by
     obtain⟨v',e⟩:=(fT (ek:=λn:Nat=>AV.i .i64 (n:Int)) (en:=eT) (h:=⟨bQ,aA,ob'⟩) (o:=ou) (l:=O)).2 q1;exact SP (ek:=λn:Nat=>AV.i .i64 (n:Int)) (en:=eT) (k:=k) (l:=O) e q2 q3 hi
   rw[eb];refine Z5 en' s1 s7 mO2 c32 ?_;refine ih (seen++[i]) _ _ ?_ ⟨nd',sb',?_,?_,?_,λj h1 h2=> ?_,by show n1+1<=n2+1;omega,?_,?_⟩
   ·rw[dy];simp only[gJ,ji];omega
   ·exact U0
   ·exact W0 mO2
   ·exact U0
   ·exact W0 (cQ j h1 h2)
   all_goals exact U2 s1 s7
 ·exact U0
 ·exact W0 mO
 ·simp(disch:=omega) only[dh,T.get_put,bV];rw[old1' b3 la3];exact c3
 ·exact W0 (old1' j h1)
 all_goals exact U0
def aW4 (A:dY P X GL) (D:eV ae) (F:jr ae) (Q:gn ae) (hg:GL=mU) {g:Gr} (G:ce g) {Z:Nat ->Bool} (Y:iQ g Z) {b3:Nat} {h:AH} (pn:1<=g.pR.length) (lb:b3<h.next) (c3:cG (h.oB.get b3)=some [.b false]) (k:AV ->AH ->Prop)
 (hk:∀h',cG (h'.oB.get b3)=some [.b false] ->h.next<=h'.next ->(∀j,j<h.next ->j≠b3 ->h'.oB.get j=h.oB.get j) ->k (ι 0) h'):
 du C 76 [aI g,.f 77 [] [.p b3 0]] h k:=by
 obtain⟨m,ver,ob⟩:=h;have lb':b3<m:=lb;have pl:=G.pl;dsimp only at c3;have cc:∀h,bP P X GL 90 [aI g] h (ι 0) h:=λh=>Td S A Q hg G h;simp only[aI,ar] at cc;refine E.bS F.f76 (Y3 @Px.eq_1 @aI.eq_1 @ar.eq_1 ?_);refine E.cN (cc _) ?_;simp(disch:=omega) only[aW2 E.ok,↓sA E.ok,Nat.reduceAdd,↓reduceIte,go_sem];refine fj E.ok g.pR.length (λi τ h=>∃v op,τ.get 6=some (.p (m+2) 0)/\ ((i=0/\ v= .sn)∨(i≠0/\ v= .sl op 0 i none 2/\ m+3<=op/\ op<h.next/\ cG (h.oB.get op)=some (((g.pR.take i).map (jh g)).flatMap cT)))/\ cG (h.oB.get (m+2))=some (ar g++[v])/\ cG (h.oB.get m)=some (ar g)/\ cG (h.oB.get (m+1))=some [ι 0]/\ (∀j,j<m ->h.oB.get j=ob.get j)/\ m+3<=h.next/\ τ.get 1=some (.f 77 [] [.p b3 0])/\ τ.get 2=some (.p m 0)/\ τ.get 4=some (.p (m+1) 0)/\ τ.get 22=some (eR aM 13 true g.pR)/\ τ.get 23=some (ι (g.pR.length:Int))/\ τ.get 24=some (ι (i:Int))) ?_ ?_ _ _ ⟨.sn,0,?_,.inl ⟨rfl,rfl⟩,?_,?_,?_,λj hj=> ?_,bB _,?_,?_,?_,?_,?_,?_⟩
 ·rintro i τ ⟨n1,v1,aQ⟩ hi ⟨v,op,t6,hv,ca,cm,c4,old,dS,t1,t2,t4,t22,t23,t24⟩ ih;have hn1':m+3<=n1:=dS;have gu:∀j,j<m ->aQ.get j=ob.get j:=old;dsimp only at ca cm c4;have hpi:g.pR[i]? =some g.pR[i]:=cE hi;generalize hp:g.pR[i]=p at hpi;have hpm:=dI hpi;have pk:=G.p p hpm;have rl:=pk.len;have e13:sub (g.pR.flatMap aM) (i*13) 13=some (aM p):=cW kr hpi (j:=0) (n:=13) ω;simp only[aM] at e13;have cm':=cm;simp only[ar] at cm;have ca1:=λh=>D7 S D (A _ G.fam.f) (A _ pk.cond.f) h;have cmu:=λt h=>Bx S (GL:=GL) F t h;simp only[eT,eD] at ca1 cmu;refine nS t1 t2 t4 t6 t22 t23 t24 cm @bG e13 ?_;refine E.cN (ca1 _) (nS t1 t2 t4 t6 t22 t23 t24 cm @bG e13 ?_);refine E.cN (cmu _ _) (nS t1 t2 t4 t6 t22 t23 t24 cm @bG e13 ?_);have fd0:cA 3 (cY (λx y=>x&&y) g.fam p.cond)=true:=jd G.fam.f pk.cond.f;have pT:jh g p=p.right.foldl (oQ g) (cY (λx y=>x&&y) g.fam p.cond):=rfl;generalize hd0:cY (λx y=>x&&y) g.fam p.cond=d0 at*;refine fj E.ok p.right.length (λj τ h=>cG (h.oB.get (n1+1))=some (cT ((p.right.take j).foldl (oQ g) d0))/\ (∀j,j<n1 ->h.oB.get j=aQ.get j)/\ n1+2<=h.next/\ τ.get 1=some (.f 77 [] [.p b3 0])/\ τ.get 2=some (.p m 0)/\ τ.get 4=some (.p (m+1) 0)/\ τ.get 6=some (.p (m+2) 0)/\ τ.get 9=some (.p (n1+1) 0)/\ τ.get 22=some (eR aM 13 true g.pR)/\ τ.get 23=some (ι (g.pR.length:Int))/\ τ.get 24=some (ι (i:Int))/\ τ.get 37=some (eR ba 2 p.rn p.right)/\ τ.get 38=some (ι (p.right.length:Int))/\ τ.get 39=some (ι (j:Int))) ?_ ?_ _ _ ⟨?_,λj hj=> ?_,bB _,?_,?_,?_,?_,?_,?_,?_,?_,?_,?_,?_⟩
  ·rintro j τ ⟨n2,v2,aJ⟩ hj ⟨cw,eG,hn2,s1,s2,s4,s6,s9,s22,s23,s24,s37,s38,s39⟩ ih2;have hn2':n1+2<=n2:=hn2;have cQ:∀j,j<n1 ->aJ.get j=aQ.get j:=eG;dsimp only at cw;have hrj:p.right[j]? =some p.right[j]:=cE hj;generalize hs:p.right[j]=s at hrj;have ft:(p.right.take (j+1)).foldl (oQ g) d0=oQ g ((p.right.take j).foldl (oQ g) d0) s:=by rw[nY hrj,xH];rfl
   have fw:cA 3 ((p.right.take j).foldl (oQ g) d0)=true:=Kb G _ _ fd0;generalize hw:(p.right.take j).foldl (oQ g) d0=w at*;simp only[cT] at cw;have e2:sub (p.right.flatMap ba) (j*2) 2=some [.b s.1,ι (s.2:Int)]:=cW gO hrj (j:=0) (n:=2) ω;have cm2:cG (aJ.get m)=some (ar g):=by rw[cQ m ω];exact cm'
   simp only[ar] at cm2;have tl:=G.tcl;have hz:g.tc.zipIdx.length=11:=by rw[ny,tl]
   have nk5:nice 64 (eR dq 7 true g.tc.zipIdx)=true:=dg oM;have nk6:∀k,nice 64 (.dp (g.tc.zipIdx.flatMap dq) k)=true:=λk=>by rw[fK,fE oM]
   rcases pk.sym _ (dI hrj) with ⟨h1,h2⟩|⟨h1,h2⟩
   ·rw[h1] at e2;obtain⟨c,hc1,hz2⟩:=re (g:=g) tl (i:=s.2) ω;have fc:=(G.tc c (dI hc1)).f;have e7:sub (g.tc.zipIdx.flatMap dq) (s.2*7+5) 2=some [cu (aE c).1,ι ((aE c).2:Int)]:=cW qx hz2 (j:=5) (n:=2) ω;have st:oQ g w s=cY (λx y=>x&&y) w c:=by unfold oQ;rw[h1,kX,hc1];rfl
    have ca2:=λh=>D7 S D (A _ fw) (A _ fc) h;simp only[eT,eD] at ca2;refine qq s1 s2 s4 s6 s9 s22 s23 s24 s37 s38 s39 @bG e2 cm2 cw hz e7 nk5 nk6 ?_;refine E.cN (ca2 _) (qq s1 s2 s4 s6 s9 s22 s23 s24 s37 s38 s39 @bG e2 cm2 cw hz e7 nk5 nk6 ?_);refine E.cN (cmu _ _) (qr s1 s2 s4 s6 s9 s22 s23 s24 s37 s38 s39 @bG e2 cm2 cw hz e7 nk5 nk6 @bK ?_);refine ih2 _ _ ⟨?_,λj hj=> ?_,by show n1+2<=n2+1;omega,?_,?_,?_,?_,?_,?_,?_,?_,?_,?_,?_⟩
    ·exact U3 ft st @cT.eq_1
    ·exact W0 (cQ j hj)
    all_goals exact Bo s1 s2 s4 s6 s9 s22 s23 s24 s37 s38
   ·rw[h1] at e2;have st:oQ g w s=w:=by unfold oQ;rw[h1];rfl
    refine pq s1 s2 s4 s6 s9 s22 s23 s24 s37 s38 s39 @bG e2 cm2 cw @bK ?_;refine ih2 _ _ ⟨?_,λj hj=> ?_,by show n1+2<=n2+1;omega,?_,?_,?_,?_,?_,?_,?_,?_,?_,?_,?_⟩
    ·simp(disch:=omega) only[dh,T.get_put,bV];rw[ft,st];exact cw
    ·exact W0 (cQ j hj)
    all_goals exact Bo s1 s2 s4 s6 s9 s22 s23 s24 s37 s38
  ·rintro τ ⟨n2,v2,aJ⟩ ⟨cw,eG,hn2,s1,s2,s4,s6,s9,s22,s23,s24,s37,s38,s39⟩;have hn2':n1+2<=n2:=hn2;have cQ:∀j,j<n1 ->aJ.get j=aQ.get j:=eG;dsimp only at cw;rw[rL,←pT] at cw;simp only[cT] at cw;have ca2:cG (aJ.get (m+2))=some (ar g++[v]):=by rw[cQ (m+2) ω];exact ca
   simp only[ar,gw,gx] at ca2;have tk:=nY hpi;rcases hv with ⟨rfl,rfl⟩|⟨i0,rfl,ho1,ho2,ho3⟩
   ·refine sB @iB s1 s2 s4 s6 s9 s22 s23 s24 s37 s38 s39 ca2 cw @bK ?_;refine ih _ _ ⟨.sl (n2+1) 0 1 none 2,n2+1,?_,.inr ⟨by omega,rfl,by omega,by show n2+1<n2+1+1;omega,?_⟩,?_,?_,?_,λj hj=> ?_,by show m+3<=n2+1+1;omega,?_,?_,?_,?_,?_,?_⟩
    ·exact U1 s6
    ·simp(disch:=omega) only[dh,T.get_put,bV,dZ,d9,tk,Cf,gx,jY,uf,lE,List.flatMap_nil,lG,cT]
    ·exact U0
    ·simp(disch:=omega) only[dh,T.get_put,bV];rw[cQ m ω];exact cm'
    ·simp(disch:=omega) only[dh,T.get_put,bV];rw[cQ (m+1) ω];exact c4
    ·simp(disch:=omega) only[dh,T.get_put,bV];rw[cQ j ω];exact gu j hj
    all_goals simp only[T.get_put,Nat.reduceEqDiff,reduceIte,s1,s2,s4,s22,s23,s24]
    rfl
   ·have ho2':op<n1:=ho2;dsimp only at ho3;have i2:i+1<=1048576:=by omega
    have ll:(((g.pR.take i).map (jh g)).flatMap cT).length=i*2:=by rw[kh J9,kU,jm];rw[kF ω]
    have q3:cG (aJ.get op)=some (((g.pR.take i).map (jh g)).flatMap cT):=by rw[cQ op ω];exact ho3
    refine kJ @iB s1 s2 s4 s6 s9 s22 s23 s24 s37 s38 s39 ca2 cw q3 i2 ll @bK ?_;refine ih _ _ ⟨.sl (n2+1) 0 (i+1) none 2,n2+1,?_,.inr ⟨by omega,rfl,by omega,by show n2+1<n2+1+1;omega,?_⟩,?_,?_,?_,λj hj=> ?_,by show m+3<=n2+1+1;omega,?_,?_,?_,?_,?_,?_⟩
    ·exact U1 s6
    ·simp(disch:=omega) only[dh,T.get_put,bV,dZ,d9,tk,kE,jl,jY,uf,lE,List.flatMap_nil,lG,cT]
    ·exact U0
    ·simp(disch:=omega) only[dh,T.get_put,bV];rw[cQ m ω];exact cm'
    ·simp(disch:=omega) only[dh,T.get_put,bV];rw[cQ (m+1) ω];exact c4
    ·simp(disch:=omega) only[dh,T.get_put,bV];rw[cQ j ω];exact gu j hj
    all_goals exact Bo s1 s2 s4 s6 s9 s22 s23 s24 s37 s38
  ·simp only[T.get_put,dZ,d9,Cf,Ls,cT]
  ·exact U0
  all_goals exact U7 t1 t2 t4 t6 t22 t23 t24
 ·rintro τ ⟨n1,v1,aQ⟩ ⟨v,op,t6,hv,ca,cm,c4,old,dS,t1,t2,t4,t22,t23,t24⟩;have hn1':m+3<=n1:=dS;have gu:∀j,j<m ->aQ.get j=ob.get j:=old;dsimp only at ca cm c4;rcases hv with ⟨h0,_⟩|⟨_,rfl,ho1,ho2,ho3⟩
  ·omega
  have ho2':op<n1:=ho2;dsimp only at ho3;rw[rL] at ho3;refine Y7 t1 t2 t4 t6 t22 t23 t24 ?_;refine E.run (aW3 (oa:=m+2) (op:=op) (b3:=b3) S E A D F G Y ⟨ca,ho3⟩ ⟨by show m+2<n1;omega,ho2,by show b3<n1;omega⟩ ?_ _ ?_)
  ·show cG (aQ.get b3)=_;rw[gu b3 lb'];exact c3
  rintro⟨n2,v2,aJ⟩ c3' hn2 eG;have hn2':n1<=n2:=hn2;have cQ:∀j,j<n1 ->j≠b3 ->aJ.get j=aQ.get j:=eG;have c4':cG (aJ.get (m+1))=some [ι 0]:=by rw[cQ (m+1) ω ω];exact c4
  refine Y8 t1 t2 t4 t6 t22 t23 t24 c4' ?_;refine hk _ (W0 c3') (by show m<=n2;omega) (λj h1 h2=> ?_)
  ·have h1':j<m:=h1;simp(disch:=omega) only[dh,T.get_put,bV];rw[cQ j ω h2];exact gu j h1'
 ·exact U0
 ·exact U0
 ·exact U1 @ar.eq_1
 ·exact U0
 ·have bF:j<m:=hj;exact U0
 all_goals exact U0
def Tk (A:dY P X GL) (D:eV ae) (F:jr ae) (Q:gn ae) (hg:GL=mU) {g:Gr} (G:ce g) {Z:Nat ->Bool} (Y:iQ g Z) (pn:1<=g.pR.length) (h:AH):bP P X GL 41 [aI g] h (ι 0) h:=by
 refine ku S (λn h=>rfl) ?_ h;refine bg.intro λC E=> ?_;refine E.bS F.f41 (Y4 @Pw.eq_1 @aI.eq_1 @ar.eq_1 @h0.eq_1 ?_);refine E.run (aW4 (b3:=1) S E A D F Q hg G Y pn (by show 1<2;omega) ?_ _ ?_)
 ·exact U0
 rintro⟨n1,v1,aQ⟩ c3 dS dD;dsimp only at c3;refine Y1 c3 ?_;exact⟨1,rfl⟩
end
end AM
