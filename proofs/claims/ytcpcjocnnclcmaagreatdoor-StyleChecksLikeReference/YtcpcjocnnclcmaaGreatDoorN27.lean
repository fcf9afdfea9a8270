import Derived.Test.YtcpcjocnnclcmaaGreatDoorN26
set_option linter.all false
namespace AM
open Dg Go
noncomputable section
def oh:∀(N:Nat) (l:List Nat),l.Nodup ->(∀x∈l,x<N) ->l.length<=N
 |0,l,_,h=>by
  cases l with
  |nil=>simp
  |cons a l=>exact absurd (h a (by simp)) ω
 |N+1,l,nd,h=>by
  by_cases hm:N∈l
  ·have ih:=oh N (l.erase N) (nd.erase N) (fun x hx=>by
    have:=nd.mem_erase_iff.1 hx;have:=h x this.2;omega)
   have:=List.length_erase_of_mem hm;omega
  ·have ih:=oh N l nd (fun x hx=>by
    have h1:=h x hx;have:x≠N:=fun e=>hm (e▸hx)
    omega)
   omega
def wS {κ ν:Type} [DecidableEq κ] {k:κ} {v:ν}:∀{l:List (κ×ν)} {i:Nat},l[i]? =some (k,v) ->∃t,look k l=some t
 |[],i,h=>by simp at h
 |(a,b)::l,i,h=>by
  by_cases e:k=a
  ·exact⟨b,by simp[look,e]⟩
  ·cases i with
   |zero=>simp at h;exact absurd h.1.symm e
   |succ i=>
    obtain⟨t,ht⟩:=wS (l:=l) (i:=i) (by simpa using h);exact⟨t,by simp[look,e,ht]⟩
def vm.len {n l} (m:vm n l):l.length<=n*n:=by
 have h:=oh (n*n) (l.map fun e=>e.1.1*n+e.1.2) ?_ ?_
 ·simpa using h
 ·have:(l.map fun e=>e.1.1*n+e.1.2)=(l.map (·.1)).map fun k=>k.1*n+k.2:=by rw[Lu];rfl
  rw[this];have bd:∀k∈l.map (·.1),k.1<k.2/\ k.2<n:=by
   intro k hk;obtain⟨e,he,rfl⟩:=sS.1 hk;obtain⟨i,hi,hl⟩:=rL.1 he;obtain⟨t,ht⟩:=wS (k:=e.1) (v:=e.2) (l:=l) (i:=i) (by rw[ba hi,hl]);exact(m.f _ t ht).2
  have key:∀L:List (Nat×Nat),L.Nodup ->(∀k∈L,k.1<k.2/\ k.2<n) ->(L.map fun k=>k.1*n+k.2).Nodup:=by
   intro L;induction L with
   |nil=>intro _ _;simp
   |cons a L ih=>
    intro nd h;rw[Fk] at nd;rw[iR,Fk];refine⟨fun hm=> ?_,ih nd.2 fun k hk=>h k (by simp[hk])⟩;obtain⟨b,hb,e⟩:=sS.1 hm;have ha':=h a (by simp);have hb':=h b (by simp[hb]);refine nd.1 ?_;have e1:b.1=a.1:=by
     rcases Nat.lt_trichotomy b.1 a.1 with c|c|c
     ·have:(b.1+1)*n<=a.1*n:=nE n c;rw[lW] at this;omega
     ·exact c
     ·have:(a.1+1)*n<=b.1*n:=nE n c;rw[lW] at this;omega
    have e2:b.2=a.2:=by rw[e1] at e;omega
    have:a=b:=by cases a;cases b;simp_all
    rw[this];exact hb
  exact key _ m.nd bd
 ·intro x hx;obtain⟨e,he,rfl⟩:=sS.1 hx;obtain⟨i,hi,hl⟩:=rL.1 he;obtain⟨t,ht⟩:=wS (k:=e.1) (v:=e.2) (l:=l) (i:=i) (by rw[ba hi,hl]);have:=(m.f _ t ht).2;have h2:(e.1.1+1)*n<=n*n:=nE n ω;rw[lW] at h2;omega
structure az0 (n c lo hi:Nat) (g:Nat ->Option aU) (N:List (Nat×(Nat×List Nat))):Prop where
 f:∀(a o:Nat) (L:List Nat),look a N=some (o,L) ->cG (g o)=some (L.flatMap cI)/\ L≠[]/\ (∀b∈L,a<b/\ b<n)/\ L.length<=c/\ lo<=o/\ o<hi
 inj:∀(a b o:Nat) L L',look a N=some (o,L) ->look b N=some (o,L') ->a=b
section
variable {P:Program} {X:dy} {GL:T (List AV)} {fns:T aR}
set_option maxHeartbeats 4000000 in
def PU {C:cQ Prop} (E:gW P X GL fns C) {n s:Nat} (nl:n<=100) {St} (so:vm n St) {h:AH} {τ:T AV} (ms:mG (h.objs.get s)=mS St) (c4:cG (h.objs.get (s+1))=some [.m s]) (low:s+2<=h.next) {oa o:Nat} (t0:τ.get 0=some (.p oa 0)) (t3:τ.get 3=some (.m o)) (t4:τ.get 4=some (.p (s+1) 0)) {Fs:List Fr} {K:K Prop}
 (hk:∀N ou τ' h',mG (h'.objs.get h.next)=mN N ->cG (h'.objs.get (h.next+1))=some [.m h.next] ->SK n h'.objs.get h'.next N ->mG (h'.objs.get ou)=mT [] ->h.next+2<=ou ->ou<h'.next ->(∀j,j<h.next ->h'.objs.get j=h.objs.get j) ->τ'.get 0=some (.p oa 0) ->τ'.get 4=some (.p (s+1) 0) ->τ'.get 14=some (.p (h.next+1) 0) ->τ'.get 16=some (.m ou) ->dk C yJ Fs K τ' h'):
 dk C (.seq PG Hh) Fs K τ h:=by
 obtain⟨m,ver,ob⟩:=h;have low':s+2<=m:=low;dsimp only at ms c4;unfold Hh;have sl:=so.len;have sl2:n*n<=100*n:=nE n nl;have rg:∀nx' ver' ob' (τ:T AV),mG (T.get ob' s)=mS St ->bp C τ (.t 99)= .m s ->step (bp C τ) ⟨nx',ver',ob'⟩ (.rng (.t 99) false)= .v (.p nx' 0) ⟨nx'+1,ver',ob'.put nx' (.mit (some s) St.length [] St.length)⟩:=
  fun nx' ver' ob' τ q1 q2=>by
   obtain⟨v,e⟩:=(bA (ek:=eK) (en:=eT) (h:=⟨nx',ver',ob'⟩) (o:=s) (l:=St)).2 q1;exact PT e q2
 refine Z6 t0 t3 t4 c4 rg ms ?_;refine qH E.ok (fun x:List Nat×List (Nat×(Nat×List Nat))=>St.length-x.1.length) (fun x τ h=>x.1.Nodup/\ (∀i∈x.1,i<St.length)/\ h.objs.get (m+2)=some (.mit (some s) St.length x.1 St.length)/\ mG (h.objs.get m)=mN x.2/\ cG (h.objs.get (m+1))=some [.m m]/\ az0 n x.1.length (m+3) h.next h.objs.get x.2/\ (∀j,j<m ->h.objs.get j=ob.get j)/\ m+3<=h.next/\ τ.get 0=some (.p oa 0)/\ τ.get 3=some (.m o)/\ τ.get 4=some (.p (s+1) 0)/\ τ.get 14=some (.p (m+1) 0)/\ τ.get 100=some (.p (m+2) 0)) ?_ ([],[]) _ _ ⟨by simp,by simp,?_,?_,?_,⟨fun a o L h=>by simp[look] at h,fun a b o L L' h=>by simp[look] at h⟩,fun j hj=> ?_,bK _,?_,?_,?_,?_,?_⟩
 ·rintro⟨seen,N⟩ τ ⟨n1,v1,ob1⟩ ⟨nd,sb,hit,hN,c1,ng,old,hn1,s0,s3,s4,s14,s100⟩ ih;have hn1':m+3<=n1:=hn1;have old':∀j,j<m ->ob1.get j=ob.get j:=old;dsimp only at hit hN c1 ng nd sb;have ms1:mG (ob1.get s)=mS St:=by rw[old' s ω];exact ms
  obtain⟨vs,es⟩:=(bA (ek:=eK) (en:=eT) (h:=⟨n1,v1,ob1⟩) (o:=s) (l:=St)).2 ms1;refine Y5 s0 s3 s4 s14 s100 ?_;rw[←BQ];refine Jb E.ok (l:=St) (seen:=seen) (ek:=eK) (en:=eT) es hit (Y1 s100 trivial) (fun hall=> ?_) (fun i k v hi hns=> ?_)
  ·refine Y5 s0 s3 s4 s14 s100 ?_;refine hk N n1 _ _ ?_ ?_ ⟨fun a o' L hl=> ?_⟩ ?_ (by show m+2<=n1;omega) (by show n1<n1+1;omega) (fun j hj=> ?_) ?_ ?_ ?_ ?_
   ·exact W0 hN
   ·exact W0 c1
   ·obtain⟨q1,q2,q3,q4,q5,q6⟩:=ng.f a o' L hl;have q6':o'<n1:=q6;refine⟨(W0 q1),q2,q3,?_,by show o'<n1+1;omega⟩
    ·have:=oh _ _ nd sb;have h2:n*n<=100*n:=nE n nl;omega
   ·exact U0
   ·have hj':j<m:=hj;exact W0 (old' j hj')
   all_goals exact U4 s0 s3 s4 s14
  ·obtain⟨a,b⟩:=k;have hil:=(cW.1 hi).1;obtain⟨t,ht⟩:=wS hi;obtain⟨ft,hab,hbn⟩:=so.f _ t ht;dsimp only at hab hbn;have nd':(seen++[i]).Nodup:=uy.2 ⟨nd,by simp,fun x hx y hy e=>hns (by rw[dY.1 hy] at e;exact e▸hx)⟩;have sb':∀x∈seen++[i],x<St.length:=fun x hx=>(eV.1 hx).elim (sb x) fun h=>by rw[dY.1 h];exact hil
   have sl':=oh _ _ nd' sb';rw[cX] at sl';simp only[fM,jL] at sl';have en':∀nx' ver' ob' (τ:T AV),mG (T.get ob' s)=mS St ->T.get ob' (m+2)=some (.mit (some s) St.length (seen++[i]) St.length) ->bp C τ (.t 100)= .p (m+2) 0 ->step (bp C τ) ⟨nx',ver',ob'⟩ (.ent (.t 100))= .v (.tu [.ag [.i .i64 (a:Int),.i .i64 (b:Int)],eT v]) ⟨nx',ver',ob'⟩:=
    fun nx' ver' ob' τ q1 q2 q3=>by
     obtain⟨v',e⟩:=(bA (ek:=eK) (en:=eT) (h:=⟨nx',ver',ob'⟩) (o:=s) (l:=St)).2 q1;exact PS (ek:=eK) (en:=eT) (k:=(a,b)) (l:=St) e q2 q3 hi
   have lk:∀nx' ver' ob' (τ:T AV),mG (T.get ob' m)=mN N ->bp C τ (.t 108)= .m m ->bp C τ (.t 110)= .i .i64 (a:Int) ->
    step (bp C τ) ⟨nx',ver',ob'⟩ (.look (.lf .i) (.t 108) (.t 110) .sn false)= .v (Iw nV .sn (look a N)) ⟨nx',ver',ob'⟩:=
    fun nx' ver' ob' τ q1 q2 q3=>j4 (k:=a) (z:= .sn) (en:=nV) pR (h:=⟨nx',ver',ob'⟩) (bA.2 q1) q2 q3
   have mu:∀(w:Nat×List Nat) nx' ver' ob' (τ:T AV),mG (T.get ob' m)=mN N ->bp C τ (.t 105)= .m m ->bp C τ (.t 107)= .i .i64 (a:Int) ->bp C τ (.t 115)= .sl w.1 0 w.2.length none 1 ->
    step (bp C τ) ⟨nx',ver',ob'⟩ (.mupd (.lf .i) (.t 105) (.t 107) (.t 115))= .v .un ⟨nx',ver'+1,ob'.put m (.map (ver'+1) (cV (fun n:Nat=>AV.i .i64 (n:Int)) nV 0 (ups a w N)) (ups a w N).length)⟩:=
    fun w nx' ver' ob' τ q1 q2 q3 q4=>gH (k:=a) (v:=w) (en:=nV) pR (h:=⟨nx',ver',ob'⟩) (bA.2 q1) q2 q3 q4
   have fin:∀(L:List Nat) (τ':T AV) (n2 v2:Nat) (ob2:T aU),n1+3=n2 ->(∀j,j<n1 ->j≠m ->j≠m+2 ->(∀L',look a N≠some (j,L')) ->ob2.get j=ob1.get j) ->ob2.get (m+2)=some (.mit (some s) St.length (seen++[i]) St.length) ->mG (ob2.get m)=mN (ups a (n1+2,L++[b]) N) ->cG (ob2.get (n1+2))=some (L.flatMap cI++[.i .i64 (b:Int)]) ->(∀z∈L,a<z/\ z<n) ->L.length<=seen.length ->
    τ'.get 0=some (.p oa 0) ->τ'.get 3=some (.m o) ->τ'.get 4=some (.p (s+1) 0) ->τ'.get 14=some (.p (m+1) 0) ->τ'.get 100=some (.p (m+2) 0) ->dk C (.loop (.seq PH PI)) (.b 6:: .s (.seq PJ yJ)::Fs) K τ' ⟨n2,v2,ob2⟩:=by
    intro L τ' n2 v2 ob2 a1 a2 a3 a4 a5 a6 a7 u0 u3 u4 u14 u100;have hm3:∀j,j<m+3 ->∀L',look a N≠some (j,L'):=fun j hj L' hc=>by
     have:=(ng.f a j L' hc).2.2.2.2.1;omega
    refine ih (seen++[i],ups a (n1+2,L++[b]) N) _ _ ?_ ⟨nd',sb',a3,a4,?_,⟨fun a' o' L' hl=> ?_,fun a' b' o' L1 L2 h1 h2=> ?_⟩,fun j hj=> ?_,by show m+3<=n2;omega,u0,u3,u4,u14,u100⟩
    ·dsimp only;rw[cX];simp only[fM,jL];omega
    ·show cG (ob2.get (m+1))=_;rw[a2 (m+1) ω ω ω (hm3 _ ω)];exact c1
    ·dsimp only at hl ⊢;rw[gX] at hl;rw[cX];simp only[fM,jL];split at hl
     ·rename_i e;cases hl;refine⟨?_,by simp,?_,?_,by omega,by show n1+2<n2;omega⟩
      ·show cG (ob2.get (n1+2))=_;rw[a5,ik];rfl
      ·intro z hz;rcases eV.1 hz with h|h
       ·rw[e];exact a6 z h
       ·rw[dY.1 h,e];exact⟨hab,hbn⟩
      ·rw[cX];simp only[fM,jL];omega
     ·rename_i ne;obtain⟨q1,q2,q3,q4,q5,q6⟩:=ng.f a' o' L' hl;have q6':o'<n1:=q6;refine⟨?_,q2,q3,by omega,q5,by show o'<n2;omega⟩;rw[a2 o' q6' ω ω (fun L2 h2=>ne (ng.inj a' a o' _ _ hl h2))];exact q1
    ·dsimp only at h1 h2;rw[gX] at h1 h2;split at h1<;>split at h2
     ·omega
     ·cases h1;have:=(ng.f _ _ _ h2).2.2.2.2.2;have:n1+2<n1:=this;omega
     ·cases h2;have:=(ng.f _ _ _ h1).2.2.2.2.2;have:n1+2<n1:=this;omega
     ·exact ng.inj _ _ _ _ _ h1 h2
    ·show ob2.get j=_;rw[a2 j ω ω ω (hm3 _ ω)];exact old' j hj
   cases hl:look a N with
   |none=>
    have mu':=mu (n1+1+1,[b]);simp only[fM,jL,fL] at mu';simp(disch:=first|omega|(simp(disch:=omega) only[cF,mR,tF,T.get_put,dB,tJ,o9,Nat.reduceEqDiff,reduceIte,ms1,hN,s100])) only[nz,eK,en',lk,hl,Iw,mu',s0,s3,s4,s14,s100,c1,ms1,hN,↓ky E.ok,Nat.reduceEqDiff,Nat.reduceAdd,Nat.reduceMul,Nat.reduceLT,Nat.reduceShiftRight,Nat.reduceAnd,Nat.reduceBneDiff,↓reduceIte,Int.reduceLT,Int.reduceLE,Int.reduceEq,go_sem];refine fin [] _ _ _ _ rfl (fun j h1 h2 h3 _=> ?_) ?_ ?_ ?_ (by simp) (by simp) ?_ ?_ ?_ ?_ ?_
    ·exact U0
    ·exact U0
    ·exact U0
    ·exact U0
    all_goals exact U5 s0 s3 s4 s14 s100
   |some e=>
    obtain⟨o',L⟩:=e;obtain⟨q1,q2,q3,q4,q5,q6⟩:=ng.f a o' L hl;have q6':o'<n1:=q6;have i2:L.length+1<=1048576:=by omega
    have ll:(L.flatMap cI).length=L.length:=by rw[dG (k:=1) (fun a=>rfl)];omega
    have mu':=mu (n1+1+1,L++[b]);simp only[cX,fM,jL,fL] at mu';refine Z19 @nz @eK.eq_1 en' lk hl @Iw.eq_1 @nV.eq_1 mu' q1 i2 ll s0 s3 s4 s14 s100 c1 ms1 hN ?_;refine fin L _ _ _ _ rfl (fun j h1 h2 h3 h4=> ?_) ?_ ?_ ?_ q3 q4 ?_ ?_ ?_ ?_ ?_
    ·have:j≠o':=fun e=>h4 L (e▸hl)
     exact U0
    ·exact U0
    ·exact U0
    ·exact U0
    all_goals exact U5 s0 s3 s4 s14 s100
 ·exact U0
 ·exact U0
 ·exact U0
 ·exact U0
 all_goals exact U3 t0 t3 t4
end
def ab9 {ev:MA ->AV} {h:AH} {x a:MA} {o off n:Nat} (h1:ev x= .sl o off (n+1) none 1) (h2:dI (ev a)=some 1):step ev h (.slc 1 x (some a) none none)= .v (.sl o (off+1) n none 1) h:=by
 show(match ev x with
  | .sl o off n cap esz=>bif !(Nat.beq esz 1) then bj.bad else match cap with
   |some c=>match bI n c (nO ev (some a)) (nO ev none) none with
    |some (l,r,m)=>fN (off+l*esz) fun off=>fN (r-l) fun n=>fN (m-l) fun c=>bj.v (.sl o off n (some c) esz) h
    |none=>bj.bad
   |none=>match bI n n (nO ev (some a)) (nO ev none) none with
    |some (l,r,_)=>fN (off+l*esz) fun off=>fN (r-l) fun n=>bj.v (.sl o off n none esz) h
    |none=>bj.bad
  | .ds c off n esz=>bif !(Nat.beq esz 1) then bj.bad else match bI n n (nO ev (some a)) (nO ev none) none with
   |some (l,r,_)=>fN (off+l*esz) fun off=>fN (r-l) fun n=>bj.v (.ds c off n esz) h
   |none=>bj.bad
  | .sn=>match bI 0 0 (nO ev (some a)) (nO ev none) none with|some _=>bj.v .sn h|none=>bj.bad
  |_=>bj.bad)=_
 rw[h1];have e:bI (n+1) (n+1) (nO ev (some a)) (nO ev none) none=some (1,n+1,n+1):=by
  rw[oG,oH,h2];show(bif Nat.ble (n+1) (n+1)&&Nat.ble (n+1) (n+1)&&Nat.ble 1 (n+1) then some (1,n+1,n+1) else none)=_;have q1:Nat.ble (n+1) (n+1)=true:=by rw[aQ];simp
  have q2:Nat.ble 1 (n+1)=true:=by rw[aQ];simp
  rw[q1,q2];rfl
 simp only[bR,e];rfl
def Hk {l:List AV} {a n:Nat} {x:AV} {r:List AV} (h:sub l a (n+1)=some (x::r)):sub l a 1=some [x]/\ sub l (a+1) n=some r:=by
 obtain⟨h1,h2⟩:=eL h;have e:l.drop a=x::l.drop (a+1):=by
  cases hd:l.drop a with
  |nil=>rw[hd] at h2;simp at h2
  |cons y t=>
   rw[hd] at h2;simp only[List.take_succ_cons,List.cons.injEq] at h2;rw[←wV,hd,h2.1];rfl
 rw[e,List.take_succ_cons] at h2;simp only[List.cons.injEq,true_and] at h2;constructor
 ·rw[jd,if_pos ⟨by omega,by omega⟩,e];rfl
 ·rw[jd,if_pos ⟨by omega,by omega⟩,h2]
def Jc {κ ν:Type} [DecidableEq κ] {k:κ} {v:ν} {e:κ×ν}:∀{l:List (κ×ν)},e∈ups k v l ->e=(k,v)∨e∈l
 |[],h=>by simp[ups] at h;exact .inl h
 |(a,b)::l,h=>by
  by_cases q:k=a
  ·simp only[ups,if_pos q,bY] at h;exact h.imp id fun h=>by simp[h]
  ·simp only[ups,if_neg q,bY] at h;rcases h with h|h
   ·exact .inr (by simp[h])
   ·exact(Jc h).imp id fun h=>by simp[h]
section
variable {P:Program} {X:dy} {GL:T (List AV)} {fns:T aR}
set_option maxHeartbeats 4000000 in
def SM {C:cQ Prop} (S:aw P X GL fns) (E:gW P X GL fns C) (A:bh P X GL) (D:gD fns) (F:qd fns) {g:Gr} (G:cM g) {s nx oa ou:Nat} {pp:List AV} {St N} (so:vm g.nts.length St) {h:AH} {τ:T AV} (ms:mG (h.objs.get s)=mS St) (c4:cG (h.objs.get (s+1))=some [.m s]) (hN:mG (h.objs.get nx)=mN N) (c14:cG (h.objs.get (nx+1))=some [.m nx]) (no:SK g.nts.length h.objs.get h.next N) (hO:mG (h.objs.get ou)=mT []) (ca:cG (h.objs.get oa)=some (aL g++pp)) (low:s+1<ou/\ nx+1<ou/\ oa<ou/\ ou<h.next)
 (t0:τ.get 0=some (.p oa 0)) (t4:τ.get 4=some (.p (s+1) 0)) (t14:τ.get 14=some (.p (nx+1) 0)) (t16:τ.get 16=some (.m ou)) (k:AV ->AH ->Prop)
 (hk:∀O h',mG (h'.objs.get ou)=mT O ->(∀e∈O,e.2=cN) ->h.next<=h'.next ->(∀j,j<h.next ->j≠ou ->h'.objs.get j=h.objs.get j) ->k (.m ou) h'):
 dk C yJ [] (KF k [(2,none)]) τ h:=by
 obtain⟨m,ver,ob⟩:=h;obtain⟨low1,low2,low3,low4⟩:=low;have low4':ou<m:=low4;have ntl:=G.ntl;dsimp only at ms c4 hN c14 hO ca no;unfold yJ;have ca':=ca;simp only[aL,nF,lB] at ca;refine Y5 ca t0 t4 t14 t16 ?_;refine aX E.ok g.nts.length (fun i τ h=>∃O,mG (h.objs.get ou)=mT O/\ (∀e∈O,e.2=cN)/\ m<=h.next/\ (∀j,j<m ->j≠ou ->h.objs.get j=ob.get j)/\ τ.get 0=some (.p oa 0)/\ τ.get 4=some (.p (s+1) 0)/\ τ.get 14=some (.p (nx+1) 0)/\ τ.get 16=some (.m ou)/\ τ.get 122=some (ι (g.nts.length:Int))/\ τ.get 123=some (ι (i:Int))) ?_ ?_ _ _ ⟨[],hO,fun e h=>by simp at h,bK _,fun j _ _=>rfl,?_,?_,?_,?_,?_,?_⟩
 ·rintro i τ ⟨n1,v1,ob1⟩ hi ⟨O,mO,bO,hn1,old,u0,u4,u14,u16,u122,u123⟩ ih;have hn1':m<=n1:=hn1;have old':∀j,j<m ->j≠ou ->ob1.get j=ob.get j:=old;dsimp only at mO;have a14:cG (ob1.get (nx+1))=some [.m nx]:=by rw[old' _ ω ω];exact c14
  have aN:mG (ob1.get nx)=mN N:=by rw[old' _ ω ω];exact hN
  have aa:cG (ob1.get oa)=_:=(congrArg cG (old' oa ω ω)).trans ca;have lk:∀nx' ver' ob' (τ:T AV),mG (T.get ob' nx)=mN N ->bp C τ (.t 126)= .m nx ->bp C τ (.t 127)= .i .i64 (i:Int) ->
   step (bp C τ) ⟨nx',ver',ob'⟩ (.look (.lf .i) (.t 126) (.t 127) .sn false)= .v (Iw nV .sn (look i N)) ⟨nx',ver',ob'⟩:=
   fun nx' ver' ob' τ q1 q2 q3=>j4 (k:=i) (z:= .sn) (en:=nV) pR (h:=⟨nx',ver',ob'⟩) (bA.2 q1) q2 q3
  cases hl:look i N with
  |none=>
   simp(disch:=first|omega|(simp(disch:=omega) only[cF,mR,tF,T.get_put,dB,tJ,o9,Nat.reduceEqDiff,reduceIte,aN])) only[lk,hl,Iw,u0,u4,u14,u16,u122,u123,a14,aN,ar,↓ky E.ok,Nat.reduceEqDiff,Nat.reduceAdd,Nat.reduceMul,Nat.reduceLT,Nat.reduceShiftRight,Nat.reduceAnd,Nat.reduceBneDiff,↓reduceIte,Int.reduceLT,Int.reduceLE,Int.reduceEq,go_sem];refine ih _ _ ⟨O,mO,bO,hn1,old,?_,?_,?_,?_,?_,?_⟩<;>exact U5 u0 u4 u14 u16 u122
  |some e=>
   obtain⟨o',L⟩:=e;obtain⟨q1,q2,q3,q4,q5⟩:=no.f i o' L hl;have lz:(((L.length:Nat):Int)=0)=False:=by
    have:L.length≠0:=fun h=>q2 (lA h)
    exact eq_false ω
   have ne:∀a o L,look a N=some (o,L) ->o≠ou:=by
    intro a o L hl e;have h1:=(no.f a o L hl).1;rw[e] at h1;cases hb:ob.get ou with
    |none=>rw[hb] at h1;cases h1
    |some v=>rw[hb] at h1 hO;cases v<;>first|(cases h1;done)|(cases hO;done)
   have no1:SK g.nts.length (fun j=>ob1.get j) n1 N:=⟨fun a o L hl=>by
    obtain⟨q1,q2,q3,q4,q5⟩:=no.f a o L hl;have q5':o<m:=q5;exact⟨by show cG (ob1.get o)=_;rw[old' o q5' (ne a o L hl)];exact q1,q2,q3,q4,by omega⟩⟩
   have a_:mG (ob1.get s)=mS St:=by rw[old' _ ω ω];exact ms
   have a4:cG (ob1.get (s+1))=some [.m s]:=by rw[old' _ ω ω];exact c4
   have E3:=fun {R q h} (v:UZ g.nts.length i n1 (fun j=>ob1.get j) R q h) {a} ha {d} fd k hk=>KO (C:=C) S E A D F so (g:=fun j=>ob1.get j) (x:=n1) (nn:=i) a_ a4 aN no1 a14 ⟨by omega,by omega,by omega,by omega⟩ ω (R:=R) (q:=q) (h:=h) v (a:=a) ha (d:=d) fd k hk
   simp only[eT,eD] at E3;refine TP lk hl @Iw.eq_1 @nV.eq_1 lz u0 u4 u14 u16 u122 u123 a14 aa aN @ar ?_;refine E.run (E3 (R:=[]) (q:=[]) ⟨?_,⟨fun i t h=>by simp[look] at h,fun i t h=>by simp[look] at h⟩,?_,⟨_,?_,⟨⟨n1+2,0,some 0,[],rfl,?_,rfl,.inr ⟨rfl,rfl,rfl,rfl⟩,bK _,by omega,by show n1+2<n1+4;omega⟩⟩⟩,by simp,by simp,bK _,fun j hj=> ?_⟩ (bK _) G.fam.f _ ?_)
   ·exact U0
   ·exact U0
   ·exact U0
   ·exact U0
   ·exact U0
   rintro R q ⟨n2,v2,ob2⟩ va hn2 mes;have hn2':n1+4<=n2:=va.nx;clear mes;refine Y6 u0 u4 u14 u16 u122 u123 ?_;refine qH E.ok (fun x:List (Nat×Tr)×List Nat=>2*(8*g.nts.length-li g.nts.length x.1)+x.2.length) (fun x τ h=>UZ g.nts.length i n1 (fun j=>ob1.get j) x.1 x.2 h/\ τ.get 0=some (.p oa 0)/\ τ.get 4=some (.p (s+1) 0)/\ τ.get 14=some (.p (nx+1) 0)/\ τ.get 16=some (.m ou)/\ τ.get 122=some (ι (g.nts.length:Int))/\ τ.get 123=some (ι (i:Int))/\ τ.get 17=some (ι (i:Int))/\ τ.get 18=some (.p (n1+1) 0)/\ τ.get 19=some (.p (n1+3) 0)/\ τ.get 20=some (.f 107 [] [.p (nx+1) 0,.p (n1+1) 0,.p (s+1) 0,.p (n1+3) 0])) ?_ (R,q) _ _ ⟨va,?_,?_,?_,?_,?_,?_,?_,?_,?_,?_⟩
   ·rintro⟨R,q⟩ τ ⟨n3,v3,ob3⟩ ⟨va,w0,w4,w14,w16,w122,w123,w17,w18,w19,w20⟩ ih2;dsimp only at va ih2;have vnx:n1+4<=n3:=va.nx;have vold:∀j,j<n1 ->ob3.get j=ob1.get j:=va.old;have c1:cG (ob3.get (n1+1))=some [.m n1]:=va.c1;have cr:mG (ob3.get n1)=mT R:=va.r;obtain⟨vq,c3,qa⟩:=va.c3;obtain⟨oq,aq,cq,Lq,rfl,q1,q2,q3,q4,q5,q6⟩:=qa.e;have q6':oq<n3:=q6;dsimp only at c3 q1;cases q with
    |nil=>
     refine BR w0 w4 w14 w16 w122 w123 w17 w18 w19 w20 c1 c3 ?_;refine E.run (wP (l:=R) S E D F cr _ ?_ (by show n1<n3;omega));rintro⟨n4,v4,ob4⟩ hn4 old4;have hn4':n3<=n4:=hn4;have old4':∀j,j<n3 ->ob4.get j=ob3.get j:=old4;have rb:oT R i=cN:=va.ok.at_z (by simp);rw[rb];have eb:eT cN= .ag [.sn,.i .i64 0]:=rfl;have aO:mG (ob4.get ou)=mT O:=by rw[old4' ou ω,vold ou ω];exact mO
     have mu:∀nx' ver' ob' (τ:T AV),mG (T.get ob' ou)=mT O ->bp C τ (.t 159)= .m ou ->bp C τ (.t 160)= .i .i64 (i:Int) ->bp C τ (.t 163)= .ag [.sn,.i .i64 0] ->
      step (bp C τ) ⟨nx',ver',ob'⟩ (.mupd (.lf .i) (.t 159) (.t 160) (.t 163))= .v .un ⟨nx',ver'+1,ob'.put ou (.map (ver'+1) (cV (fun n:Nat=>AV.i .i64 (n:Int)) eT 0 (ups i cN O)) (ups i cN O).length)⟩:=
      fun nx' ver' ob' τ q1 q2 q3 q4=>gH (k:=i) (v:=cN) (en:=eT) pR (h:=⟨nx',ver',ob'⟩) (bA.2 q1) q2 q3 q4
     rw[eb];refine QV w0 w4 w14 w16 w122 w123 w17 w18 w19 w20 mu aO @ar ?_;refine ih _ _ ⟨ups i cN O,?_,fun e h=> ?_,by show m<=n4;omega,fun j h1 h2=> ?_,?_,?_,?_,?_,?_,?_⟩
     ·exact U0
     ·rcases Jc h with rfl|h
      ·rfl
      ·exact bO e h
     ·simp(disch:=omega) only[cF,T.get_put,if_false];rw[old4' j ω,vold j ω];exact old' j h1 h2
     all_goals exact U5 w0 w4 w14 w16 w122
    |cons b q=>
     rcases q3 with rfl|⟨_,h,_,_⟩
     ·obtain⟨u1,u2⟩:=Hk (x:= .i .i64 (b:Int)) (r:=q.flatMap cI) q2;have lqb:=va.lq b (by simp);have nbi:((b:Int)=(i:Int))=False:=eq_false ω;have sq:∀(τ:T AV) h,bp C τ (.t 148)= .sl oq aq (q.length+1) none 1 ->step (bp C τ) h (.slc 1 (.t 148) (some (.c (ι 1))) none none)= .v (.sl oq (aq+1) q.length none 1) h:=
       fun τ h q1=>ab9 q1 rfl
      have lkr:∀nx' ver' ob' (τ:T AV),mG (T.get ob' n1)=mT R ->bp C τ (.t 155)= .m n1 ->bp C τ (.t 156)= .i .i64 (b:Int) ->
       step (bp C τ) ⟨nx',ver',ob'⟩ (.look (.lf .i) (.t 155) (.t 156) (.ag [.sn,.i .i64 0]) false)= .v (eT (oT R b)) ⟨nx',ver',ob'⟩:=
       fun nx' ver' ob' τ q1 q2 q3=>by
        refine(j4 (k:=b) (z:= .ag [.sn,.i .i64 0]) (en:=eT) pR (h:=⟨nx',ver',ob'⟩) (bA.2 q1) q2 q3).trans ?_;unfold oT;cases look b R<;>rfl
      have fb:=va.ok.at_f b;generalize hrb:oT R b=rb at*;simp only[eT,eD] at lkr;simp(disch:=first|omega|(simp(disch:=omega) only[cF,mR,tF,T.get_put,dB,tJ,o9,Nat.reduceEqDiff,reduceIte,cr])) only[w0,w4,w14,w16,w122,w123,w17,w18,w19,w20,c1,c3,q1,u1,sq,lkr,cr,nbi,fM,↓ky E.ok,Nat.reduceEqDiff,Nat.reduceAdd,Nat.reduceMul,Nat.reduceLT,Nat.reduceShiftRight,Nat.reduceAnd,Nat.reduceBneDiff,↓reduceIte,Int.reduceLT,Int.reduceLE,Int.reduceEq,go_sem];refine E.run (E3 (R:=R) (q:=q) (h:=⟨n3,v3+1,ob3.put (n1+3) (.cells (v3+1) [.sl oq (aq+1) q.length none 1])⟩) ⟨?_,va.ok,?_,⟨_,?_,⟨⟨oq,aq+1,none,Lq,rfl,?_,u2,.inl rfl,q4,q5,q6'⟩⟩⟩,fun z hz=>va.lq z (by simp[hz]),?_,vnx,fun j hj=> ?_⟩ (a:=b) (Fg lqb.1) fb _ ?_)
      ·exact W0 cr
      ·exact W0 c1
      ·exact U0
      ·exact W0 q1
      ·have:=va.ql;simp only[fM] at this;omega
      ·exact W0 (vold j hj)
      rintro R2 q2' ⟨n4,v4,ob4⟩ vb hn4 mes;refine CM w0 w4 w14 w16 w122 w123 w17 w18 w19 w20 ?_;refine ih2 (R2,q2') _ _ ?_ ⟨vb,?_,?_,?_,?_,?_,?_,?_,?_,?_,?_⟩
      ·dsimp only;simp only[fM];omega
      all_goals exact Zx w0 w4 w14 w16 w122 w123 w17 w18 w19 w20
     ·cases h
   all_goals exact U6 u0 u4 u14 u16 u122 u123
 ·rintro τ ⟨n1,v1,ob1⟩ ⟨O,mO,bO,hn1,old,u0,u4,u14,u16,u122,u123⟩;refine Y6 u0 u4 u14 u16 u122 u123 ?_;exact hk O _ mO bO hn1 old
 all_goals exact U4 t0 t4 t14 t16
set_option maxHeartbeats 2000000 in
def Hl {C:cQ Prop} (S:aw P X GL fns) (E:gW P X GL fns C) (A:bh P X GL) (D:gD fns) (F:qd fns) {g:Gr} (G:cM g) {Z:Nat ->Bool} (Y:yG g Z) {oa op:Nat} {h:AH} (an:PR h oa op g) (la:oa<h.next/\ op<h.next) (k:AV ->AH ->Prop)
 (hk:∀ou O h',mG (h'.objs.get ou)=mT O ->(∀e∈O,e.2=cN) ->ou<h'.next ->h.next<=ou ->(∀j,j<h.next ->h'.objs.get j=h.objs.get j) ->k (.m ou) h'):
 bZ C 49 [.p oa 0] h k:=by
 obtain⟨m,ver,ob⟩:=h;have la1:oa<m:=la.1;have la2:op<m:=la.2;have ntl:=G.ntl;rw[aA E.ok (E.get F.f49)];refine Y1 @ab7.eq_1 ?_;refine E.run (zm (oa:=oa) (op:=op) S E A D F G Y an la _ ?_);rintro o l ⟨n1,v1,ob1⟩ ml ok hn1 ho1 ho2 old1;have hn1':m<=n1:=hn1;have ho1':m<=o:=ho1;have ho2':o<n1:=ho2;have old1':∀j,j<m ->ob1.get j=ob.get j:=old1;dsimp only at ml;obtain⟨an1,an2⟩:=an;dsimp only at an1 an2;have b1:cG (ob1.get oa)=some (aL g++[.sl op 0 g.prods.length none 2]):=by rw[old1' oa la1];exact an1
 have b2:cG (ob1.get op)=some ((g.prods.map (fZ g)).flatMap cT):=by rw[old1' op la2];exact an2
 refine Y0 ?_;unfold PK;rw[DF E.ok];refine KP (oa:=oa) (op:=op) (o:=o) (s:=n1) (l:=l) S E A D F G Y ⟨?_,?_⟩ ?_ ok ?_ ?_ ⟨by omega,by omega,by omega,bK _⟩ ?_ ?_ ?_ ?_
 ·exact W0 b1
 ·exact W0 b2
 ·exact W0 ml
 ·exact U0
 ·exact U0
 ·exact U0
 ·exact U0
 ·exact U0
 rintro St τ2 ⟨n2,v2,ob2⟩ so ms2 hn2 old2 t0 t3 t4;have hn2':n1+2<=n2:=hn2;have old2':∀j,j<n1+2 ->j≠n1 ->ob2.get j=_:=old2;dsimp only at ms2;have c4:cG (ob2.get (n1+1))=some [.m n1]:=by rw[old2' (n1+1) ω ω];exact U0
 have low2:∀j,j<n1 ->ob2.get j=ob1.get j:=fun j hj=>by rw[old2' j ω ω];exact U0
 refine PU E (s:=n1) ω so ms2 c4 hn2 t0 t3 t4 ?_;rintro N ou τ3 ⟨n3,v3,ob3⟩ hN c14 no hO ho3 ho4 old3 u0 u4 u14 u16;have ho3':n2+2<=ou:=ho3;have ho4':ou<n3:=ho4;have old3':∀j,j<n2 ->ob3.get j=ob2.get j:=old3;dsimp only at hN c14 no hO u14;refine SM (s:=n1) (nx:=n2) (oa:=oa) (ou:=ou) (St:=St) (N:=N) (pp:=[.sl op 0 g.prods.length none 2]) S E A D F G so ?_ ?_ hN c14 no hO ?_ ⟨by omega,by omega,by omega,ho4⟩ u0 u4 u14 u16 _ ?_
 ·show mG (ob3.get n1)=_;rw[old3' n1 ω];exact ms2
 ·show cG (ob3.get (n1+1))=_;rw[old3' (n1+1) ω];exact c4
 ·show cG (ob3.get oa)=_;rw[old3' oa ω,low2 oa ω];exact b1
 rintro O ⟨n4,v4,ob4⟩ mO bO hn4 old4;have hn4':n3<=n4:=hn4;refine hk ou O _ mO bO (by show ou<n4;omega) (by show m<=ou;omega) (fun j hj=> ?_);have hj':j<m:=hj;show ob4.get j=ob.get j;rw[show ob4.get j=ob3.get j from old4 j (by show j<n3;omega) ω,old3' j ω,low2 j ω];exact old1' j hj'
end
section
variable {C:cQ Prop} (hC:pN C) {S:List Fr} {K:K Prop} {τ:T AV} {h:AH}
include hC
theorem PV {f d:Nat} {x:MA}:dk C (.dfr [⟨some d,.mfn f [] [x],none⟩] (.t d) f) S K τ h↔iZ C .normal S K (τ.put d (.f f [] [bp C τ x])) h:=by
 refine(Rw hC).trans ?_;rw[op0,FU];have e1:kK (bp C τ) ([]:List MA)=some []:=rfl;have e2:kK (bp C τ) [x]=some [bp C τ x]:=by rw[mj,oE];rfl
 rw[e1,e2];show(match bp C (τ.put d (.f f [] [bp C τ x])) (.t d) with
  | .f g _ _=>(bif Nat.beq g f then M9 C K S .normal (τ.put d (.f f [] [bp C τ x])) h else False)
  |_=>False)↔_
 rw[mR,T.get_put,if_pos rfl];show(bif Nat.beq f f then M9 C K S .normal (τ.put d (.f f [] [bp C τ x])) h else False)↔_;rw[az];simp only[decide_true,cond_true];exact Iff.rfl
end
section
variable {P:Program} {X:dy} {GL:T (List AV)} {fns:T aR}
def PW {C:cQ Prop} (S:aw P X GL fns) (E:gW P X GL fns C) (A:bh P X GL) (D:gD fns) (F:qd fns) {g:Gr} (G:cM g) {Z:Nat ->Bool} (Y:yG g Z) {oa op b3:Nat} {h:AH} (an:PR h oa op g) (la:oa<h.next/\ op<h.next/\ b3<h.next) (c3:cG (h.objs.get b3)=some [.b false]) (k:AV ->AH ->Prop)
 (hk:∀h',cG (h'.objs.get b3)=some [.b false] ->h.next<=h'.next ->(∀j,j<h.next ->j≠b3 ->h'.objs.get j=h.objs.get j) ->k (.tu []) h'):
 bZ C 48 [.p oa 0,.p b3 0] h k:=by
 obtain⟨m,ver,ob⟩:=h;have la1:oa<m:=la.1;have la2:op<m:=la.2.1;have la3:b3<m:=la.2.2;dsimp only at c3;rw[aA E.ok (E.get F.f48)];refine Y1 @ab6.eq_1 ?_;refine E.run (Hl (oa:=oa) (op:=op) S E A D F G Y an ⟨la.1,la.2.1⟩ _ ?_);rintro ou O ⟨n1,v1,ob1⟩ mO bO ho1 ho2 old1;have ho1':ou<n1:=ho1;have ho2':m<=ou:=ho2;have old1':∀j,j<m ->ob1.get j=ob.get j:=old1;dsimp only at mO;have rg:∀nx' ver' ob' (τ:T AV),mG (T.get ob' ou)=mT O ->bp C τ (.t 6)= .m ou ->step (bp C τ) ⟨nx',ver',ob'⟩ (.rng (.t 6) false)= .v (.p nx' 0) ⟨nx'+1,ver',ob'.put nx' (.mit (some ou) O.length [] O.length)⟩:=
  fun nx' ver' ob' τ q1 q2=>by
   obtain⟨v,e⟩:=(bA (ek:=fun n:Nat=>AV.i .i64 (n:Int)) (en:=eT) (h:=⟨nx',ver',ob'⟩) (o:=ou) (l:=O)).2 q1;exact PT e q2
 refine Z2 rg mO ?_;refine qH E.ok (fun x:List Nat=>O.length-x.length) (fun x τ h=>x.Nodup/\ (∀i∈x,i<O.length)/\ h.objs.get n1=some (.mit (some ou) O.length x O.length)/\ mG (h.objs.get ou)=mT O/\ cG (h.objs.get b3)=some [.b false]/\ (∀j,j<m ->j≠b3 ->h.objs.get j=ob.get j)/\ n1+1<=h.next/\ τ.get 1=some (.p b3 0)/\ τ.get 7=some (.p n1 0)) ?_ [] _ _ ⟨by simp,by simp,?_,?_,?_,fun j h1 h2=> ?_,bK _,?_,?_⟩
 ·rintro seen τ ⟨n2,v2,ob2⟩ ⟨nd,sb,hit,mO2,c32,old2,hn2,s1,s7⟩ ih;have hn2':n1+1<=n2:=hn2;have old2':∀j,j<m ->j≠b3 ->ob2.get j=ob.get j:=old2;dsimp only at hit mO2 c32;obtain⟨vs,es⟩:=(bA (ek:=fun n:Nat=>AV.i .i64 (n:Int)) (en:=eT) (h:=⟨n2,v2,ob2⟩) (o:=ou) (l:=O)).2 mO2;refine Y2 s1 s7 ?_;rw[←BQ];refine Jb E.ok (l:=O) (seen:=seen) (ek:=fun n:Nat=>AV.i .i64 (n:Int)) (en:=eT) es hit (Y1 s7 trivial) (fun hall=> ?_) (fun i k v hi hns=> ?_)
  ·refine Y3 s1 s7 @Hi ?_;exact hk _ c32 (by show m<=n2;omega) old2
  ·have hil:=(cW.1 hi).1;have hv:v=cN:=bO _ (bJ hi);subst hv;have nd':(seen++[i]).Nodup:=uy.2 ⟨nd,by simp,fun x hx y hy e=>hns (by rw[dY.1 hy] at e;exact e▸hx)⟩;have sb':∀x∈seen++[i],x<O.length:=fun x hx=>(eV.1 hx).elim (sb x) fun h=>by rw[dY.1 h];exact hil
   have sl':=oh _ _ nd' sb';rw[cX] at sl';simp only[fM,jL] at sl';have eb:eT cN= .ag [.sn,.i .i64 0]:=rfl;have en':∀nx' ver' ob' (τ:T AV),mG (T.get ob' ou)=mT O ->T.get ob' n1=some (.mit (some ou) O.length (seen++[i]) O.length) ->bp C τ (.t 7)= .p n1 0 ->step (bp C τ) ⟨nx',ver',ob'⟩ (.ent (.t 7))= .v (.tu [.i .i64 (k:Int),.ag [.sn,.i .i64 0]]) ⟨nx',ver',ob'⟩:=
    fun nx' ver' ob' τ q1 q2 q3=>by
     obtain⟨v',e⟩:=(bA (ek:=fun n:Nat=>AV.i .i64 (n:Int)) (en:=eT) (h:=⟨nx',ver',ob'⟩) (o:=ou) (l:=O)).2 q1;exact PS (ek:=fun n:Nat=>AV.i .i64 (n:Int)) (en:=eT) (k:=k) (l:=O) e q2 q3 hi
   rw[eb];refine Z5 en' s1 s7 mO2 c32 ?_;refine ih (seen++[i]) _ _ ?_ ⟨nd',sb',?_,?_,?_,fun j h1 h2=> ?_,by show n1+1<=n2+1;omega,?_,?_⟩
   ·rw[cX];simp only[fM,jL];omega
   ·exact U0
   ·exact W0 mO2
   ·exact U0
   ·exact W0 (old2' j h1 h2)
   all_goals exact U2 s1 s7
 ·exact U0
 ·exact W0 mO
 ·simp(disch:=omega) only[cF,T.get_put,if_false];rw[old1' b3 la3];exact c3
 ·exact W0 (old1' j h1)
 all_goals exact U0
set_option maxHeartbeats 2000000 in
def EF {C:cQ Prop} (S:aw P X GL fns) (E:gW P X GL fns C) (A:bh P X GL) (D:gD fns) (F:qd fns) (Q:jJ fns) (hg:GL=SE) {g:Gr} (G:cM g) {Z:Nat ->Bool} (Y:yG g Z) {b3:Nat} {h:AH} (pn:1<=g.prods.length) (lb:b3<h.next) (c3:cG (h.objs.get b3)=some [.b false]) (k:AV ->AH ->Prop)
 (hk:∀h',cG (h'.objs.get b3)=some [.b false] ->h.next<=h'.next ->(∀j,j<h.next ->j≠b3 ->h'.objs.get j=h.objs.get j) ->k (ι 0) h'):
 bZ C 47 [b9 g,.f 48 [] [.p b3 0]] h k:=by
 obtain⟨m,ver,ob⟩:=h;have lb':b3<m:=lb;have pl:=G.pl;dsimp only at c3;have cc:∀h,dq P X GL 98 [b9 g] h (ι 0) h:=fun h=>Hg S A Q hg G h
 simp only[b9,aL] at cc;rw[aA E.ok (E.get F.f47)];simp(disch:=omega) only[ab5,b9,aL,↓ky E.ok,Nat.reduceEqDiff,Nat.reduceAdd,Nat.reduceMul,Nat.reduceLT,Nat.reduceShiftRight,Nat.reduceAnd,Nat.reduceBneDiff,↓reduceIte,Int.reduceLT,Int.reduceLE,Int.reduceEq,go_sem];refine E.con (cc _) ?_;simp(disch:=omega) only[PV E.ok,↓ky E.ok,Nat.reduceEqDiff,Nat.reduceAdd,Nat.reduceMul,Nat.reduceLT,Nat.reduceShiftRight,Nat.reduceAnd,Nat.reduceBneDiff,↓reduceIte,Int.reduceLT,Int.reduceLE,Int.reduceEq,go_sem];refine aX E.ok g.prods.length (fun i τ h=>∃v op,τ.get 6=some (.p (m+2) 0)/\ ((i=0/\ v= .sn)∨(i≠0/\ v= .sl op 0 i none 2/\ m+3<=op/\ op<h.next/\ cG (h.objs.get op)=some (((g.prods.take i).map (fZ g)).flatMap cT)))/\ cG (h.objs.get (m+2))=some (aL g++[v])/\ cG (h.objs.get m)=some (aL g)/\ cG (h.objs.get (m+1))=some [.i .i64 0]/\ (∀j,j<m ->h.objs.get j=ob.get j)/\ m+3<=h.next/\ τ.get 1=some (.f 48 [] [.p b3 0])/\ τ.get 2=some (.p m 0)/\ τ.get 4=some (.p (m+1) 0)/\ τ.get 22=some (eR cC 13 true g.prods)/\ τ.get 23=some (ι (g.prods.length:Int))/\ τ.get 24=some (ι (i:Int))) ?_ ?_ _ _ ⟨.sn,0,?_,.inl ⟨rfl,rfl⟩,?_,?_,?_,fun j hj=> ?_,bK _,?_,?_,?_,?_,?_,?_⟩
 ·rintro i τ ⟨n1,v1,ob1⟩ hi ⟨v,op,t6,hv,ca,cm,c4,old,hn1,t1,t2,t4,t22,t23,t24⟩ ih;have hn1':m+3<=n1:=hn1;have old':∀j,j<m ->ob1.get j=ob.get j:=old;dsimp only at ca cm c4;have hpi:g.prods[i]? =some g.prods[i]:=ba hi;generalize hp:g.prods[i]=p at hpi;have hpm:=bJ hpi;have pk:=G.p p hpm;have rl:=pk.len;have e13:sub (g.prods.flatMap cC) (i*13) 13=some (cC p):=aB eG hpi (j:=0) (n:=13) ω;simp only[cC] at e13;have cm':=cm;simp only[aL] at cm;have ca1:=fun h=>wJ S D (A _ G.fam.f) (A _ pk.cond.f) h
  have cmu:=fun t h=>qe S (GL:=GL) F t h
  simp only[eT,eD] at ca1 cmu;refine CM t1 t2 t4 t6 t22 t23 t24 cm @aF e13 ?_;refine E.con (ca1 _) ?_;refine CM t1 t2 t4 t6 t22 t23 t24 cm @aF e13 ?_;refine E.con (cmu _ _) ?_;refine CM t1 t2 t4 t6 t22 t23 t24 cm @aF e13 ?_;have fd0:ew 3 (eF (fun x y=>x&&y) g.fam p.cond)=true:=cH G.fam.f pk.cond.f;have pT:fZ g p=p.right.foldl (ie g) (eF (fun x y=>x&&y) g.fam p.cond):=rfl;generalize hd0:eF (fun x y=>x&&y) g.fam p.cond=d0 at*;refine aX E.ok p.right.length (fun j τ h=>cG (h.objs.get (n1+1))=some (cT ((p.right.take j).foldl (ie g) d0))/\ (∀j,j<n1 ->h.objs.get j=ob1.get j)/\ n1+2<=h.next/\ τ.get 1=some (.f 48 [] [.p b3 0])/\ τ.get 2=some (.p m 0)/\ τ.get 4=some (.p (m+1) 0)/\ τ.get 6=some (.p (m+2) 0)/\ τ.get 9=some (.p (n1+1) 0)/\ τ.get 22=some (eR cC 13 true g.prods)/\ τ.get 23=some (ι (g.prods.length:Int))/\ τ.get 24=some (ι (i:Int))/\ τ.get 37=some (eR bS 2 p.rn p.right)/\ τ.get 38=some (ι (p.right.length:Int))/\ τ.get 39=some (ι (j:Int))) ?_ ?_ _ _ ⟨?_,fun j hj=> ?_,bK _,?_,?_,?_,?_,?_,?_,?_,?_,?_,?_,?_⟩
  ·rintro j τ ⟨n2,v2,ob2⟩ hj ⟨cw,old2,hn2,s1,s2,s4,s6,s9,s22,s23,s24,s37,s38,s39⟩ ih2;have hn2':n1+2<=n2:=hn2;have old2':∀j,j<n1 ->ob2.get j=ob1.get j:=old2;dsimp only at cw;have hrj:p.right[j]? =some p.right[j]:=ba hj;generalize hs:p.right[j]=s at hrj;have ft:(p.right.take (j+1)).foldl (ie g) d0=ie g ((p.right.take j).foldl (ie g) d0) s:=by rw[eP hrj,uz];rfl
   have fw:ew 3 ((p.right.take j).foldl (ie g) d0)=true:=lO G _ _ fd0;generalize hw:(p.right.take j).foldl (ie g) d0=w at*;simp only[cT] at cw;have e2:sub (p.right.flatMap bS) (j*2) 2=some [.b s.1,.i .i64 (s.2:Int)]:=aB bz hrj (j:=0) (n:=2) ω;have cm2:cG (ob2.get m)=some (aL g):=by rw[old2' m ω];exact cm'
   simp only[aL] at cm2;have tl:=G.tcl;have hz:g.tc.zipIdx.length=11:=by rw[lC,tl]
   have nk5:aJ 64 (eR iI 7 true g.tc.zipIdx)=true:=aT iz;have nk6:∀k,aJ 64 (.dp (g.tc.zipIdx.flatMap iI) k)=true:=fun k=>by rw[di,bu iz]
   rcases pk.sym _ (bJ hrj) with ⟨h1,h2⟩|⟨h1,h2⟩
   ·rw[h1] at e2;obtain⟨c,hc1,hz2⟩:=mD (g:=g) tl (i:=s.2) ω;have fc:=(G.tc c (bJ hc1)).f;have e7:sub (g.tc.zipIdx.flatMap iI) (s.2*7+5) 2=some [fG (ax c).1,.i .i64 ((ax c).2:Int)]:=aB ic hz2 (j:=5) (n:=2) ω;have st:ie g w s=eF (fun x y=>x&&y) w c:=by unfold ie;rw[h1,rd,hc1];rfl
    have ca2:=fun h=>wJ S D (A _ fw) (A _ fc) h
    simp only[eT,eD] at ca2;refine F4 s1 s2 s4 s6 s9 s22 s23 s24 s37 s38 s39 @aF e2 cm2 cw hz e7 nk5 nk6 ?_;refine E.con (ca2 _) ?_;refine F4 s1 s2 s4 s6 s9 s22 s23 s24 s37 s38 s39 @aF e2 cm2 cw hz e7 nk5 nk6 ?_;refine E.con (cmu _ _) ?_;refine QU s1 s2 s4 s6 s9 s22 s23 s24 s37 s38 s39 @aF e2 cm2 cw hz e7 nk5 nk6 @ar ?_;refine ih2 _ _ ⟨?_,fun j hj=> ?_,by show n1+2<=n2+1;omega,?_,?_,?_,?_,?_,?_,?_,?_,?_,?_,?_⟩
    ·exact U3 ft st @cT.eq_1
    ·exact W0 (old2' j hj)
    all_goals exact Zx s1 s2 s4 s6 s9 s22 s23 s24 s37 s38
   ·rw[h1] at e2;have st:ie g w s=w:=by unfold ie;rw[h1];rfl
    refine QT s1 s2 s4 s6 s9 s22 s23 s24 s37 s38 s39 @aF e2 cm2 cw @ar ?_;refine ih2 _ _ ⟨?_,fun j hj=> ?_,by show n1+2<=n2+1;omega,?_,?_,?_,?_,?_,?_,?_,?_,?_,?_,?_⟩
    ·simp(disch:=omega) only[cF,T.get_put,if_false];rw[ft,st];exact cw
    ·exact W0 (old2' j hj)
    all_goals exact Zx s1 s2 s4 s6 s9 s22 s23 s24 s37 s38
  ·rintro τ ⟨n2,v2,ob2⟩ ⟨cw,old2,hn2,s1,s2,s4,s6,s9,s22,s23,s24,s37,s38,s39⟩;have hn2':n1+2<=n2:=hn2;have old2':∀j,j<n1 ->ob2.get j=ob1.get j:=old2;dsimp only at cw;rw[m8,←pT] at cw;simp only[cT] at cw;have ca2:cG (ob2.get (m+2))=some (aL g++[v]):=by rw[old2' (m+2) ω];exact ca
   simp only[aL,nF,lB] at ca2;have tk:=eP hpi;rcases hv with ⟨rfl,rfl⟩|⟨i0,rfl,ho1,ho2,ho3⟩
   ·refine WC @nz s1 s2 s4 s6 s9 s22 s23 s24 s37 s38 s39 ca2 cw @ar ?_;refine ih _ _ ⟨.sl (n2+1) 0 1 none 2,n2+1,?_,.inr ⟨by omega,rfl,by omega,by show n2+1<n2+1+1;omega,?_⟩,?_,?_,?_,fun j hj=> ?_,by show m+3<=n2+1+1;omega,?_,?_,?_,?_,?_,?_⟩
    ·exact U1 s6
    ·simp(disch:=omega) only[cF,T.get_put,if_false,if_true,dB,tk,pz,lB,iR,pA,nD,List.flatMap_nil,ip,cT]
    ·exact U0
    ·simp(disch:=omega) only[cF,T.get_put,if_false];rw[old2' m ω];exact cm'
    ·simp(disch:=omega) only[cF,T.get_put,if_false];rw[old2' (m+1) ω];exact c4
    ·simp(disch:=omega) only[cF,T.get_put,if_false];rw[old2' j ω];exact old' j hj
    all_goals simp only[T.get_put,Nat.reduceEqDiff,reduceIte,s1,s2,s4,s6,s9,s22,s23,s24,s37,s38]
    rfl
   ·have ho2':op<n1:=ho2;dsimp only at ho3;have i2:i+1<=1048576:=by omega
    have ll:(((g.prods.take i).map (fZ g)).flatMap cT).length=i*2:=by rw[dG kZ,j9,fO];rw[jp ω]
    have q3:cG (ob2.get op)=some (((g.prods.take i).map (fZ g)).flatMap cT):=by rw[old2' op ω];exact ho3
    refine WD @nz s1 s2 s4 s6 s9 s22 s23 s24 s37 s38 s39 ca2 cw q3 i2 ll @ar ?_;refine ih _ _ ⟨.sl (n2+1) 0 (i+1) none 2,n2+1,?_,.inr ⟨by omega,rfl,by omega,by show n2+1<n2+1+1;omega,?_⟩,?_,?_,?_,fun j hj=> ?_,by show m+3<=n2+1+1;omega,?_,?_,?_,?_,?_,?_⟩
    ·exact U1 s6
    ·simp(disch:=omega) only[cF,T.get_put,if_false,if_true,dB,tk,iT,ik,iR,pA,nD,List.flatMap_nil,ip,cT]
    ·exact U0
    ·simp(disch:=omega) only[cF,T.get_put,if_false];rw[old2' m ω];exact cm'
    ·simp(disch:=omega) only[cF,T.get_put,if_false];rw[old2' (m+1) ω];exact c4
    ·simp(disch:=omega) only[cF,T.get_put,if_false];rw[old2' j ω];exact old' j hj
    all_goals exact Zx s1 s2 s4 s6 s9 s22 s23 s24 s37 s38
  ·simp only[T.get_put,if_true,dB,pz,E8,cT]
  ·exact U0
  all_goals exact U7 t1 t2 t4 t6 t22 t23 t24
 ·rintro τ ⟨n1,v1,ob1⟩ ⟨v,op,t6,hv,ca,cm,c4,old,hn1,t1,t2,t4,t22,t23,t24⟩;have hn1':m+3<=n1:=hn1;have old':∀j,j<m ->ob1.get j=ob.get j:=old;dsimp only at ca cm c4;rcases hv with ⟨h0,_⟩|⟨_,rfl,ho1,ho2,ho3⟩
  ·omega
  have ho2':op<n1:=ho2;dsimp only at ho3;rw[m8] at ho3;refine Y7 t1 t2 t4 t6 t22 t23 t24 ?_;refine E.run (PW (oa:=m+2) (op:=op) (b3:=b3) S E A D F G Y ⟨ca,ho3⟩ ⟨by show m+2<n1;omega,ho2,by show b3<n1;omega⟩ ?_ _ ?_)
  ·show cG (ob1.get b3)=_;rw[old' b3 lb'];exact c3
  rintro⟨n2,v2,ob2⟩ c3' hn2 old2;have hn2':n1<=n2:=hn2;have old2':∀j,j<n1 ->j≠b3 ->ob2.get j=ob1.get j:=old2;have c4':cG (ob2.get (m+1))=some [.i .i64 0]:=by rw[old2' (m+1) ω ω];exact c4
  refine Y8 t1 t2 t4 t6 t22 t23 t24 c4' ?_;refine hk _ (W0 c3') (by show m<=n2;omega) (fun j h1 h2=> ?_)
  ·have h1':j<m:=h1;simp(disch:=omega) only[cF,T.get_put,if_false];rw[old2' j ω h2];exact old' j h1'
 ·exact U0
 ·exact U0
 ·exact U1 @aL.eq_1
 ·exact U0
 ·have hj':j<m:=hj;exact U0
 all_goals exact U0
def Hm (S:aw P X GL fns) (A:bh P X GL) (D:gD fns) (F:qd fns) (Q:jJ fns) (hg:GL=SE) {g:Gr} (G:cM g) {Z:Nat ->Bool} (Y:yG g Z) (pn:1<=g.prods.length) (h:AH):dq P X GL 20 [b9 g] h (ι 0) h:=by
 refine ez S (fun n h=>rfl) ?_ h;refine aZ.intro fun C E=> ?_
 rw[aA E.ok (E.get F.f20)];simp(disch:=omega) only[ab4,b9,aL,h0,↓ky E.ok,Nat.reduceEqDiff,Nat.reduceAdd,Nat.reduceMul,Nat.reduceLT,Nat.reduceShiftRight,Nat.reduceAnd,Nat.reduceBneDiff,↓reduceIte,Int.reduceLT,Int.reduceLE,Int.reduceEq,go_sem];refine E.run (EF (b3:=1) S E A D F Q hg G Y pn (by show 1<2;omega) ?_ _ ?_)
 ·exact U0
 rintro⟨n1,v1,ob1⟩ c3 hn1 old1;dsimp only at c3;simp(disch:=omega) only[c3,↓ky E.ok,Nat.reduceEqDiff,Nat.reduceAdd,Nat.reduceMul,Nat.reduceLT,Nat.reduceShiftRight,Nat.reduceAnd,Nat.reduceBneDiff,↓reduceIte,Int.reduceLT,Int.reduceLE,Int.reduceEq,go_sem];exact⟨1,rfl⟩
end
end
end AM
