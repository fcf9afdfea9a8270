import Derived.Test.YtcpcjocnnclcmaaGreatDoorN23
set_option linter.all false
namespace AM
open Dg Go
noncomputable section
def m3 (h:AH):AV ->AV ->AV ->bj
 | .i .i64 a,.i .i64 b,.i .i64 c=> .v (ι (max (max a b) c)) h
 | .i k a,y,z=>ig h (mJ (fun x y=>gO y x) k [y,z] a)
 |_,_,_=> .bad
def SB {ev:MA ->AV} {h:AH} {x y z:MA}:step ev h (.max [x,y,z])=m3 h (ev x) (ev y) (ev z):=by
 have hs:step ev h (.max [x,y,z])=(match kK ev [x,y,z] with|some (.i k a::r)=>ig h (mJ (fun x y=>gO y x) k r a)|_=> .bad):=rfl;have hm:∀(p q r:Int),mJ (fun x y=>gO y x) .i64 [.i .i64 q,.i .i64 r] p=(bif gO p q then (bif gO q r then some (ι r) else some (ι q)) else (bif gO p r then some (ι r) else some (ι p))):=fun p q r=>rfl
 rw[hs];simp only[mj,oE,pj];cases ev x<;>try rfl
 rename_i k a;cases ev y<;>cases k<;>try rfl
 rename_i k' b;cases k'<;>try rfl
 cases ev z<;>try rfl
 rename_i k' c;cases k'<;>try rfl
 dsimp only;rw[hm,gG,gG,gG,m9,m9,m9];simp only[m3];have q:∀x y:Int,x=y ->ig h (some (ι x))= .v (ι y) h:=fun x y e=>by rw[e];rfl
 by_cases h1:a<b
 ·rw[if_pos h1];by_cases h2:b<c
  ·rw[if_pos h2];exact q _ _ ω
  ·rw[if_neg h2];exact q _ _ ω
 ·rw[if_neg h1];by_cases h2:a<c
  ·rw[if_pos h2];exact q _ _ ω
  ·rw[if_neg h2];exact q _ _ ω
def ay3 {h:AH} {a b c:Int}:m3 h (ι a) (ι b) (ι c)= .v (ι (max (max a b) c)) h:=rfl
section
variable {P:Program} {X:dy} {GL:T (List AV)} {fns:T aR}
structure QY (h:AH) (c o:Nat) (L:List (List Nat)):Prop where
 cc:cG (h.objs.get c)=some [.m o]
 mm:mG (h.objs.get o)=some (cV AV.s AV.b 0 (L.map fun s=>(s,true)),(L.map fun s=>(s,true)).length)
 ne:c≠o
 lt:o<h.next/\ c<h.next
def yH {s:List Nat}:∀{L:List (List Nat)},look s (L.map fun s=>(s,true))=if s∈L then some true else none
 |[]=>rfl
 |a::L=>by
  simp only[iR,look,yH (L:=L),bY];by_cases e:s=a<;>simp[e]
def qI {C:cQ Prop} (E:gW P X GL fns C) (F:jJ fns) {h:AH} (k:AV ->AH ->Prop)
 (hk:∀h',h'.next=h.next+2 ->(∀j,j<h.next ->h'.objs.get j=h.objs.get j) ->QY h' (h.next+1) h.next [[]] ->k (.f 417 [] [.p (h.next+1) 0]) h'):bZ C 279 [] h k:=by
 obtain⟨m,ver,ob⟩:=h;have mu:∀ver' ob' (τ:T AV),mG (T.get ob' m)=some ([],0) ->bp C τ (.t 2)= .m m ->
  step (bp C τ) ⟨m+1,ver',ob'⟩ (.mupd (.lf .s) (.t 2) (.c (.s [])) (.c (.b true)))= .v .un ⟨m+1,ver'+1,ob'.put m (.map (ver'+1) (cV AV.s AV.b 0 [([],true)]) 1)⟩:=
  fun ver' ob' τ q1 q2=>gH (k:=[]) (v:=true) (en:=AV.b) (l:=[]) Wl (h:=⟨m+1,ver',ob'⟩) (bA.2 q1) q2 rfl rfl
 rw[aA E.ok (E.get F.f279)];refine Z2 @UB.eq_1 mu ?_;refine hk _ (by rfl) (fun j hj=> ?_) ⟨?_,?_,by show m+1≠m;omega,⟨by show m<m+2;omega,by show m+1<m+2;omega⟩⟩
 ·have hj':j<m:=hj;exact U0
 ·exact U0
 ·exact U0
def qJ {C:cQ Prop} (E:gW P X GL fns C) (F:jJ fns) {h:AH} {c o:Nat} {L:List (List Nat)} {s:List Nat} (nm:QY h c o L) (hs:s∉L) (k:AV ->AH ->Prop)
 (hk:∀h',h'.next=h.next ->(∀j,j≠o ->h'.objs.get j=h.objs.get j) ->QY h' c o (L++[s]) ->k (.b true) h'):bZ C 417 [.s s,.p c 0] h k:=by
 obtain⟨m,ver,ob⟩:=h;have hc:=nm.cc;have hm:=nm.mm;have hne:=nm.ne;have hlt:=nm.lt;dsimp only at hc hm;have hl:look s (L.map fun s=>(s,true))=none:=by rw[yH,if_neg hs]
 have lk:∀ver' ob' (τ:T AV),mG (T.get ob' o)=some (cV AV.s AV.b 0 (L.map fun s=>(s,true)),(L.map fun s=>(s,true)).length) ->bp C τ (.t 4)= .m o ->bp C τ (.t 5)= .s s ->
  step (bp C τ) ⟨m,ver',ob'⟩ (.look (.lf .s) (.t 4) (.t 5) (.b false) false)= .v (.b false) ⟨m,ver',ob'⟩:=fun ver' ob' τ q1 q2 q3=>by
  have:=j4 (k:=s) (z:= .b false) (en:=AV.b) Wl (h:=⟨m,ver',ob'⟩) (bA.2 q1) q2 q3;rw[hl] at this;exact this
 have mu:∀ver' ob' (τ:T AV),mG (T.get ob' o)=some (cV AV.s AV.b 0 (L.map fun s=>(s,true)),(L.map fun s=>(s,true)).length) ->bp C τ (.t 7)= .m o ->bp C τ (.t 8)= .s s ->
  step (bp C τ) ⟨m,ver',ob'⟩ (.mupd (.lf .s) (.t 7) (.t 8) (.c (.b true)))= .v .un ⟨m,ver'+1,ob'.put o (.map (ver'+1) (cV AV.s AV.b 0 (ups s true (L.map fun s=>(s,true)))) (ups s true (L.map fun s=>(s,true))).length)⟩:=
  fun ver' ob' τ q1 q2 q3=>gH (k:=s) (v:=true) (en:=AV.b) Wl (h:=⟨m,ver',ob'⟩) (bA.2 q1) q2 q3 rfl
 have hu:ups s true (L.map fun s=>(s,true))=(L++[s]).map fun s=>(s,true):=by rw[nS hl,iT];rfl
 rw[hu] at mu;rw[aA E.ok (E.get F.f417)];refine Z5 @UC.eq_1 hc lk mu hm ?_;exact hk _ rfl (fun j hj=>U0) ⟨(W0 hc),U0,hne,hlt⟩
def zi {C:cQ Prop} (E:gW P X GL fns C) (F:jJ fns) {L:List Pr} {nl:Bool} {f:Nat} {ca:List AV} (hl:L.length<=1000) (I:AH ->Prop) {h:AH} (hI:I h) (hf:∀p∈L,∀h',I h' ->∀k',(∀h'',I h'' ->k' (.b false) h'') ->fX C f (.ag (cC p)::ca) h' k') (k:AV ->AH ->Prop) (hk:∀h',I h' ->k (.b false) h'):
 bZ C 277 [eR cC 13 nl L,.f f [] ca] h k:=by
 rw[aA E.ok (E.get F.f277)];refine Y1 @Ux.eq_1 ?_;refine E.run ?_;rw[aA E.ok (E.get F.f416)];refine Y1 @Uz.eq_1 ?_;refine aX E.ok L.length (fun i τ h=>I h/\ τ.get 0=some (eR cC 13 nl L)/\ τ.get 1=some (.f f [] ca)/\ τ.get 7=some (ι (L.length:Int))/\ τ.get 8=some (ι (i:Int))) ?_ ?_ _ _ ⟨hI,?_,?_,?_,?_⟩
 ·rintro i τ h' hi ⟨hI',t0,t1,t7,t8⟩ ih;have hli:L[i]? =some L[i]:=ba hi;generalize hp:L[i]=p at hli;have e13:sub (L.flatMap cC) (i*13) 13=some (cC p):=aB eG hli (j:=0) (n:=13) ω;refine Y6 t0 t1 t7 t8 @aF e13 ?_;refine hf p (bJ hli) h' hI' _ fun h'' hI''=> ?_
  refine Y5 t0 t1 t7 t8 @ar ?_;refine ih _ _ ⟨hI'',?_,?_,?_,?_⟩<;>exact U3 t0 t1 t7
 ·rintro τ h' ⟨hI',t0,t1,t7,t8⟩;refine Y4 t0 t1 t7 t8 ?_;exact hk h' hI'
 all_goals exact U0
def zk {C:cQ Prop} (E:gW P X GL fns C) (F:jJ fns) {L:List (Bool×Nat)} {nl:Bool} {f:Nat} {ca:List AV} (hl:L.length<=1000) (I:AH ->Prop) {h:AH} (hI:I h) (hf:∀p∈L,∀h',I h' ->∀k',(∀h'',I h'' ->k' (.b false) h'') ->fX C f (.ag (bS p)::ca) h' k') (k:AV ->AH ->Prop) (hk:∀h',I h' ->k (.b false) h'):
 bZ C 284 [eR bS 2 nl L,.f f [] ca] h k:=by
 rw[aA E.ok (E.get F.f284)];refine Y1 @UH.eq_1 ?_;refine E.run ?_;rw[aA E.ok (E.get F.f420)];refine Y1 @UI.eq_1 ?_;refine aX E.ok L.length (fun i τ h=>I h/\ τ.get 0=some (eR bS 2 nl L)/\ τ.get 1=some (.f f [] ca)/\ τ.get 7=some (ι (L.length:Int))/\ τ.get 8=some (ι (i:Int))) ?_ ?_ _ _ ⟨hI,?_,?_,?_,?_⟩
 ·rintro i τ h' hi ⟨hI',t0,t1,t7,t8⟩ ih;have hli:L[i]? =some L[i]:=ba hi;generalize hp:L[i]=p at hli;have e13:sub (L.flatMap bS) (i*2) 2=some (bS p):=aB bz hli (j:=0) (n:=2) ω;refine Y6 t0 t1 t7 t8 @aF e13 ?_;refine hf p (bJ hli) h' hI' _ fun h'' hI''=> ?_
  refine Y5 t0 t1 t7 t8 @ar ?_;refine ih _ _ ⟨hI'',?_,?_,?_,?_⟩<;>exact U3 t0 t1 t7
 ·rintro τ h' ⟨hI',t0,t1,t7,t8⟩;refine Y4 t0 t1 t7 t8 ?_;exact hk h' hI'
 all_goals exact U0
end
def UQ:T aR:=(.n (.n (.n (.n (.n .e none (.n .e none (.n (.n (.n .e (some Pp) .e) none (.n .e (some PD) .e)) none .e))) none (.n (.n (.n .e none (.n .e (some Py) .e)) none .e) none (.n .e none (.n (.n (.n .e (some PA) .e) none .e) none .e)))) none (.n (.n (.n .e none (.n (.n .e none (.n .e (some Pj) .e)) none .e)) none (.n .e none (.n (.n (.n .e (some Pv) .e) none .e) none (.n .e none (.n .e (some Pi) .e))))) none .e)) none (.n (.n (.n .e none (.n .e none (.n (.n (.n .e (some Pu) .e) none .e) none .e))) none (.n .e none (.n (.n (.n (.n .e (some Pg) .e) none .e) none .e) none .e))) none (.n (.n (.n (.n .e none (.n .e (some Pn) .e)) none .e) none (.n .e none (.n (.n (.n .e (some Px) .e) none .e) none .e))) none .e))) none (.n (.n (.n (.n .e none (.n .e none (.n (.n (.n .e (some Ps) .e) none .e) none .e))) none (.n (.n (.n .e none (.n .e (some PB) .e)) none .e) none (.n (.n (.n (.n .e (some Pf) .e) none .e) none .e) none .e))) none (.n (.n .e none (.n .e none (.n (.n (.n .e (some Pw) .e) none .e) none .e))) none .e)) none (.n (.n (.n (.n .e none (.n (.n .e none (.n .e (some Ph) .e)) none .e)) none (.n .e none (.n (.n (.n .e (some Pt) .e) none .e) none .e))) none .e) none (.n (.n (.n (.n .e none (.n .e (some Pq) .e)) none .e) none (.n .e none (.n (.n (.n .e (some Pz) .e) none .e) (some PC) .e))) none (.n (.n .e none (.n (.n (.n .e (some Po) .e) none .e) none .e)) none .e)))))
def SD:UQ=(T.put (T.put (T.put (T.put (T.put (T.put (T.put (T.put (T.put (T.put (T.put (T.put (T.put (T.put (T.put (T.put (T.put (T.put (T.put (T.put (T.put .e 280 Pf) 281 Pg) 418 Ph) 499 Pi) 419 Pj) 197 Pn) 302 Po) 303 Pp) 198 Pq) 304 Ps) 306 Pt) 305 Pu) 307 Pv) 308 Pw) 309 Px) 199 Py) 310 Pz) 311 PA) 200 PB) 118 PC) 431 PD):=rfl
def wO {fns:T aR} (FHasC:jJ fns):∀f m,UQ.get f=some m ->fns.get f=some m:=by
 rw[SD];exact(bG (bG (bG (bG (bG (bG (bG (bG (bG (bG (bG (bG (bG (bG (bG (bG (bG (bG (bG (bG (bG IU FHasC.f280) FHasC.f281) FHasC.f418) FHasC.f499) FHasC.f419) FHasC.f197) FHasC.f302) FHasC.f303) FHasC.f198) FHasC.f304) FHasC.f306) FHasC.f305) FHasC.f307) FHasC.f308) FHasC.f309) FHasC.f199) FHasC.f310) FHasC.f311) FHasC.f200) FHasC.f118) FHasC.f431)
def SE:T (List AV):= .n (.n .e (some [.i .u8 0,.i .u8 1,.i .u8 56,.i .u8 2,.i .u8 57,.i .u8 49,.i .u8 28,.i .u8 3,.i .u8 61,.i .u8 58,.i .u8 42,.i .u8 50,.i .u8 38,.i .u8 29,.i .u8 17,.i .u8 4,.i .u8 62,.i .u8 47,.i .u8 59,.i .u8 36,.i .u8 45,.i .u8 43,.i .u8 51,.i .u8 22,.i .u8 53,.i .u8 39,.i .u8 33,.i .u8 30,.i .u8 24,.i .u8 18,.i .u8 12,.i .u8 5,.i .u8 63,.i .u8 55,.i .u8 48,.i .u8 27,.i .u8 60,.i .u8 41,.i .u8 37,.i .u8 16,.i .u8 46,.i .u8 35,.i .u8 44,.i .u8 21,.i .u8 52,.i .u8 32,.i .u8 23,.i .u8 11,.i .u8 54,.i .u8 26,.i .u8 40,.i .u8 15,.i .u8 34,.i .u8 20,.i .u8 31,.i .u8 10,.i .u8 25,.i .u8 14,.i .u8 19,.i .u8 9,.i .u8 13,.i .u8 8,.i .u8 7,.i .u8 6]) .e) none .e
def knC (t:Tr) (f:Nat) (a:List AV):Option AV:=bif Nat.beq f 117 then (match a with
 |[x]=>bif cU 64 x (eT t) then some (ι 0) else none
 |_=>none) else none
def SF (GL:T (List AV)) (n:Nat) (t:Tr):Bool:=bif zg n t then fA GL UQ (knC t) 100000 281 [eT t,.i .i64 (.ofNat n)] (.b true) else true
def hI (GL:T (List AV)):(List.range 3).all (fun i=>fA GL UQ (fun _ _=>none) 100000 280 [.s [65+i]] (.b true))=true:=by kernel_rfl
def hP0 (GL:T (List AV)):fA GL UQ (fun _ _=>none) 100000 197 [eR CN 5 true (sD 0)] (ι 0)=true:=by kernel_rfl
def hP9 (GL:T (List AV)):fA GL UQ (fun _ _=>none) 100000 197 [eR CN 5 true (sD 9)] (ι 0)=true:=by kernel_rfl
def ay4 (GL:T (List AV)):fA GL UQ (fun _ _=>none) 100000 197 [eR CN 5 true (sD 10)] (ι 0)=true:=by kernel_rfl
def hM0:fA SE UQ (fun _ _=>none) 100000 118 [eR CN 5 true (sD 0),.s [120]] (.b true)=true:=by kernel_rfl
def hF0 (GL:T (List AV)):(kE 3).all (SF GL 0)=true:=by kernel_rfl
def hF1 (GL:T (List AV)):(kE 3).all (SF GL 1)=true:=by kernel_rfl
def hF2 (GL:T (List AV)):(kE 3).all (SF GL 2)=true:=by kernel_rfl
def ay5 (GL:T (List AV)):(((kE 3).drop 0).take 64).all (SF GL 3)=true:=by kernel_rfl
def ay6 (GL:T (List AV)):(((kE 3).drop 64).take 64).all (SF GL 3)=true:=by kernel_rfl
def ay7 (GL:T (List AV)):(((kE 3).drop 128).take 64).all (SF GL 3)=true:=by kernel_rfl
def ay8 (GL:T (List AV)):(((kE 3).drop 192).take 64).all (SF GL 3)=true:=by kernel_rfl
section
variable {P:Program} {X:dy} {GL:T (List AV)} {fns:T aR}
def Xg (A:bh P X GL) {t:Tr} (ht:ew 3 t=true):Ch P X GL (knC t):=by
 intro f a v hk h;unfold knC at hk;rw[az,m9] at hk;split at hk
 ·rename_i hf;subst hf;split at hk
  ·rename_i x;cases hq:cU 64 x (eT t) with
   |true=>rw[hq] at hk;cases hk;rw[ju _ _ _ hq];exact(A t ht).chk h
   |false=>rw[hq] at hk;cases hk
  ·cases hk
 ·cases hk
def SH (GL:T (List AV)) {n:Nat} (hn:n<=3):∀t∈kE 3,SF GL n t=true:=by
 rcases(show n=0∨n=1∨n=2∨n=3 by omega) with rfl|rfl|rfl|rfl
 ·exact fun t ht=>fK.1 (hF0 GL) t ht
 ·exact fun t ht=>fK.1 (hF1 GL) t ht
 ·exact fun t ht=>fK.1 (hF2 GL) t ht
 ·have e:kE 3=((kE 3).drop 0).take 64++(((kE 3).drop 64).take 64++(((kE 3).drop 128).take 64++((kE 3).drop 192).take 64)):=by kernel_rfl
  intro t ht;rw[e] at ht;simp only[eV] at ht;rcases ht with h|h|h|h
  ·exact fK.1 (ay5 GL) t h
  ·exact fK.1 (ay6 GL) t h
  ·exact fK.1 (ay7 GL) t h
  ·exact fK.1 (ay8 GL) t h
def og (S:aw P X GL fns) (A:bh P X GL) (F:jJ fns) {n:Nat} {t:Tr} (hn:n<=3) (ht:yB n t) (h:AH):dq P X GL 281 [eT t,.i .i64 (n:Int)] h (.b true) h:=by
 refine aE S (n:=9) ?_ (by simp only[af,fg,ay,dc]) h;have:=SH GL hn t (mA ht.f);unfold SF at this;rw[ht.d] at this;exact dH (wO F) (Xg A ht.f) this
def Hb (S:aw P X GL fns) (F:jJ fns) {i:Nat} (hi:i<3) (h:AH):dq P X GL 280 [.s [65+i]] h (.b true) h:=
 aE S (dH (wO F) cJ (fK.1 (hI GL) i (pi.2 hi))) (n:=9) (by simp only[af,ay,oP]) h
def yI (S:aw P X GL fns) (F:jJ fns) {i:Nat} (hi:i=0∨i=9∨i=10) (h:AH):dq P X GL 197 [eR CN 5 true (sD i)] h (ι 0) h:=by
 refine aE S (dH (wO F) cJ (n:=100000) ?_) (n:=9) (by simp only[af,ay,aM pY]) h;rcases hi with rfl|rfl|rfl
 ·exact hP0 GL
 ·exact hP9 GL
 ·exact ay4 GL
def Hc (S:aw P X GL fns) (F:jJ fns) (hg:GL=SE) (h:AH):dq P X GL 118 [eR CN 5 true (sD 0),.s [120]] h (.b true) h:=
 aE S (dH (wO F) cJ (by rw[hg];exact hM0)) (n:=9) (by simp only[af,ay,oP,aM pY]) h
set_option maxHeartbeats 1000000 in
def Ev (S:aw P X GL fns) (A:bh P X GL) (F:jJ fns) {g:Gr} (G:cM g) (h:AH):dq P X GL 169 [b9 g] h (ι 0) h:=by
 refine ez S (fun n h=>rfl) ?_ h;refine aZ.intro fun C E=> ?_
 have nc:=G.nc;have cl:(bW g.nc).length=g.nc:=by unfold bW;rw[fO];simp;omega
 have cf:∀h,dq P X GL 281 [.ag [fG (ax g.fam).1,.i .i64 ((ax g.fam).2:Int)],.i .i64 (g.nc:Int)] h (.b true) h:=fun h=>og S A F nc G.fam h
 have fr:(((ax g.fam).2:Int)=0)=False:=eq_false (by have:=G.famr;omega);rw[aA E.ok (E.get F.f169)];refine Y3 @UA.eq_1 @b9.eq_1 @h0.eq_1 ?_;refine E.run (qI E F _ ?_);rintro⟨n1,v1,ob1⟩ hn1 old1 nm1;have hn1':n1=3:=hn1;subst hn1';have c0:cG (ob1.get 0)=some (aL g):=by rw[show ob1.get 0=_ from old1 0 (by show 0<1;omega)];exact U0
 have c0':=c0;simp only[aL] at c0;refine Y2 c0 cl ?_;refine aX E.ok g.nc (fun i τ h=>cG (h.objs.get 0)=some (aL g)/\ QY h 2 1 ([]::(bW g.nc).take i)/\ τ.get 1=some (.p 0 0)/\ τ.get 3=some (.f 417 [] [.p 2 0])/\ τ.get 8=some (eX (bW g.nc) (g.cx.map AV.s))/\ τ.get 9=some (ι (g.nc:Int))/\ τ.get 10=some (ι (i:Int))) ?_ ?_ _ _ ⟨c0',nm1,?_,?_,?_,?_,?_⟩
 ·rintro i τ ⟨n2,v2,ob2⟩ hi ⟨d0,nm,t1,t3,t8,t9,t10⟩ ih;have hbi:=oR hi nc;have es:=yv (ex:=g.cx.map AV.s) hbi;have ci:=fun h=>Hb S F (i:=i) ω h
  have x1:(([65+i]:List Nat)=[116,114,117,101])=False:=eq_false (by simp);have x2:(([65+i]:List Nat)=[102,97,108,115,101])=False:=eq_false (by simp);have tk:=eP hbi;refine Y8 t1 t3 t8 t9 t10 cl @uV es ?_;refine E.con (ci _) ?_;refine Y8 t1 t3 t8 t9 t10 cl x1 x2 ?_;refine E.run (qJ E F nm ?_ _ ?_)
  ·intro hm;rcases bY.1 hm with h|h
   ·simp at h
   ·obtain⟨j,hj,he⟩:=rL.1 h;have hj':j<i:=by simp at hj;omega
    have h2:((bW g.nc).take i)[j]? =some [65+i]:=by rw[←he];exact ba hj
    rw[iL,if_pos hj',oR ω nc] at h2;simp at h2;omega
  rintro⟨n3,v3,ob3⟩ hn3 old3 nm3;have e0:cG (ob3.get 0)=some (aL g):=by rw[show ob3.get 0=ob2.get 0 from old3 0 ω];exact d0
  refine Y6 t1 t3 t8 t9 t10 @ar ?_;refine ih _ _ ⟨e0,by rw[tk];exact nm3,?_,?_,?_,?_,?_⟩<;>exact U4 t1 t3 t8 t9
 ·rintro τ ⟨n2,v2,ob2⟩ ⟨d0,nm,t1,t3,t8,t9,t10⟩;simp only[aL] at d0;refine Y7 d0 t1 t3 t8 t9 t10 cl ?_;refine E.con (cf _) ?_;refine Y8 d0 t1 t3 t8 t9 t10 cl fr ?_;exact⟨1,rfl⟩
 all_goals exact U0
def Cw (S:aw P X GL fns) (F:jJ fns) {g:Gr} (G:cM g) (h:AH):dq P X GL 171 [b9 g] h (ι 0) h:=by
 refine ez S (fun n h=>rfl) ?_ h;refine aZ.intro fun C E=> ?_
 have ntl:=G.ntl;rw[aA E.ok (E.get F.f171)];refine Y3 @UE.eq_1 @b9.eq_1 @h0.eq_1 ?_;refine E.run (qI E F _ ?_);rintro⟨n1,v1,ob1⟩ hn1 old1 nm1;have hn1':n1=3:=hn1;subst hn1';have c0:cG (ob1.get 0)=some (aL g):=by rw[show ob1.get 0=_ from old1 0 (by show 0<1;omega)];exact U0
 have c0':=c0;simp only[aL] at c0;refine Y1 c0 ?_;refine aX E.ok g.nts.length (fun i τ h=>cG (h.objs.get 0)=some (aL g)/\ QY h 2 1 ([]::g.nts.take i)/\ τ.get 1=some (.p 0 0)/\ τ.get 3=some (.f 417 [] [.p 2 0])/\ τ.get 8=some (eX g.nts (g.nx.map AV.s))/\ τ.get 9=some (ι (g.nts.length:Int))/\ τ.get 10=some (ι (i:Int))) ?_ ?_ _ _ ⟨c0',nm1,?_,?_,?_,?_,?_⟩
 ·rintro i τ ⟨n2,v2,ob2⟩ hi ⟨d0,nm,t1,t3,t8,t9,t10⟩ ih;have hbi:g.nts[i]? =some g.nts[i]:=ba hi;generalize hs:g.nts[i]=s at hbi;have es:=yv (ex:=g.nx.map AV.s) hbi;have tk:=eP hbi;refine Y7 t1 t3 t8 t9 t10 @uV es ?_;refine E.run (qJ E F nm ?_ _ ?_)
  ·intro hm;rcases bY.1 hm with h|h
   ·exact G.ntn _ (bJ hbi) h
   ·obtain⟨j,hj,he⟩:=rL.1 h;have hj':j<i:=by simp at hj;omega
    have h2:(g.nts.take i)[j]? =some s:=by rw[←he];exact ba hj
    rw[iL,if_pos hj'] at h2;have:=G.ntd _ _ _ h2 hbi;omega
  rintro⟨n3,v3,ob3⟩ hn3 old3 nm3;have e0:cG (ob3.get 0)=some (aL g):=by rw[show ob3.get 0=ob2.get 0 from old3 0 ω];exact d0
  refine Y6 t1 t3 t8 t9 t10 @ar ?_;refine ih _ _ ⟨e0,by rw[tk];exact nm3,?_,?_,?_,?_,?_⟩<;>exact U4 t1 t3 t8 t9
 ·rintro τ ⟨n2,v2,ob2⟩ ⟨d0,nm,t1,t3,t8,t9,t10⟩;simp only[aL] at d0;refine Y6 d0 t1 t3 t8 t9 t10 ?_;exact⟨1,rfl⟩
 all_goals exact U0
def Hd (S:aw P X GL fns) (F:jJ fns) {g:Gr} (G:cM g) (h:AH):dq P X GL 168 [b9 g] h (.b false) h:=by
 refine ez S (fun n h=>rfl) ?_ h;refine aZ.intro fun C E=> ?_
 have nc:=G.nc;have cl:(bW g.nc).length=g.nc:=by unfold bW;rw[fO];simp;omega
 have hz:g.tc.zipIdx.length=11:=by rw[lC,G.tcl]
 have ntl:=G.ntl;have pl:=G.pl;have ll:=G.ll;have fl:=G.fl;rw[aA E.ok (E.get F.f168)];refine Y8 @Uw.eq_1 @b9.eq_1 @aL.eq_1 @h0.eq_1 cl hz @SB @ay3 ?_;refine E.run (zi E F (L:=g.prods) (nl:=true) (f:=278) (ca:=[]) ω (fun _=>True) trivial ?_ _ ?_)
 ·intro p hp h' _ k' hk';have ok:=G.p p hp;have q1:=ok.len;have q2:=ok.layl;obtain⟨m,ver,ob⟩:=h';refine E.run ?_;rw[aA E.ok (E.get F.f278)];refine Y3 @pU @Uy.eq_1 @cC.eq_1 ?_;exact hk' _ trivial
 ·rintro h' _;refine Y0 ?_;exact⟨1,rfl⟩
def Cy:∀i,1<=i/\ i<=8 ->iy i=0/\ nX i≠[]/\ sD i=[]/\ lJ i=[]:=by
 intro i hi;rcases(show i=1∨i=2∨i=3∨i=4∨i=5∨i=6∨i=7∨i=8 by omega) with rfl|rfl|rfl|rfl|rfl|rfl|rfl|rfl<;>exact⟨rfl,by simp[nX,fY],rfl,rfl⟩
set_option maxHeartbeats 2000000 in
def Ew (S:aw P X GL fns) (A:bh P X GL) (F:jJ fns) (hg:GL=SE) {g:Gr} (G:cM g) (h:AH):dq P X GL 170 [b9 g] h (ι 0) h:=by
 refine ez S (fun n h=>rfl) ?_ h;refine aZ.intro fun C E=> ?_
 have nc:=G.nc;have cl:(bW g.nc).length=g.nc:=by unfold bW;rw[fO];simp;omega
 have tl:=G.tcl;have hz:g.tc.zipIdx.length=11:=by rw[lC,tl]
 have z11:((11:Nat):Int)=11:=rfl;rw[aA E.ok (E.get F.f170)];refine Y3 @UD.eq_1 @b9.eq_1 @h0.eq_1 ?_;refine E.run (qI E F _ ?_);rintro⟨n1,v1,ob1⟩ hn1 old1 nm1;have hn1':n1=3:=hn1;subst hn1';have c0:cG (ob1.get 0)=some (aL g):=by rw[show ob1.get 0=_ from old1 0 (by show 0<1;omega)];exact U0
 have c0':=c0;simp only[aL] at c0;refine Y3 c0 hz z11 ?_;refine aX E.ok 11 (fun i τ h=>3<=h.next/\ cG (h.objs.get 0)=some (aL g)/\ QY h 2 1 ([]::(List.range i).map fY)/\ τ.get 1=some (.p 0 0)/\ τ.get 3=some (.f 417 [] [.p 2 0])/\ τ.get 9=some (eR iI 7 true g.tc.zipIdx)/\ τ.get 10=some (ι 11)/\ τ.get 11=some (ι (i:Int))) ?_ ?_ _ _ ⟨by show 3<=3;omega,c0',nm1,?_,?_,?_,?_,?_⟩
 ·rintro i τ ⟨n2,v2,ob2⟩ hi ⟨hn2,d0,nm,t1,t3,t9,t10,t11⟩ ih;have hn2':3<=n2:=hn2;obtain⟨c,hc1,hc2⟩:=mD (g:=g) tl (i:=i) hi;have ft:=G.tc c (bJ hc1);have e7:sub (g.tc.zipIdx.flatMap iI) (i*7) 7=some (iI (c,i)):=aB ic hc2 (j:=0) (n:=7) ω;simp only[iI] at e7;have cf:∀h,dq P X GL 281 [.ag [fG (ax c).1,.i .i64 ((ax c).2:Int)],.i .i64 (g.nc:Int)] h (.b true) h:=fun h=>og S A F nc ft h
  have hi':((i:Int)<11)=True:=eq_true ω;have tk:(List.range (i+1)).map fY=(List.range i).map fY++[fY i]:=by rw[zB,iT];rfl
  have d0':=d0;simp only[aL] at d0;have nm':QY ⟨n2+1,v2+1,(ob2.put n2 (.cells v2 [.s [],.i .i64 0,.s [],.sn,.s [],.sn,.i .i64 0])).put n2 (.cells (v2+1) (iI (c,i)))⟩ 2 1 ([]::(List.range i).map fY):=
   ⟨by have:=nm.cc;exact W0 this,by have:=nm.mm;exact W0 this,nm.ne,by have h1:=nm.lt.1;have h2:=nm.lt.2;exact⟨by show 1<n2+1;omega,by show 2<n2+1;omega⟩⟩
  simp only[iI] at nm';refine CM d0 t1 t3 t9 t10 t11 @aF hz e7 hi' ?_;refine E.run (qJ E F nm' ?_ _ ?_)
  ·intro hm;rcases bY.1 hm with h|h
   ·exact Ej i h
   ·obtain⟨j,hj,he⟩:=sS.1 h;have hj':=pi.1 hj;have:=Au j i ω hi he;omega
  rintro⟨n3,v3,ob3⟩ hn3 old3 nm3;have hn3':n3=n2+1:=hn3;have old3':∀j,j≠1 ->ob3.get j=_:=old3;have f0:cG (ob3.get 0)=some (aL g):=by rw[old3' 0 ω];exact W0 d0'
  have f0':=f0;simp only[aL] at f0;have f5:cG (ob3.get n2)=some (iI (c,i)):=by rw[old3' n2 ω];exact U1 @iI.eq_1
  simp only[iI] at f5;have fin:∀(τ':T AV),τ'.get 1=some (.p 0 0) ->τ'.get 3=some (.f 417 [] [.p 2 0]) ->τ'.get 9=some (eR iI 7 true g.tc.zipIdx) ->τ'.get 10=some (ι 11) ->τ'.get 11=some (ι ((i+1:Nat):Int)) ->(3<=n3/\ cG (ob3.get 0)=some (aL g)/\ QY ⟨n3,v3,ob3⟩ 2 1 ([]::(List.range (i+1)).map fY)/\ τ'.get 1=some (.p 0 0)/\ τ'.get 3=some (.f 417 [] [.p 2 0])/\ τ'.get 9=some (eR iI 7 true g.tc.zipIdx)/\ τ'.get 10=some (ι 11)/\ τ'.get 11=some (ι ((i+1:Nat):Int))):=
   fun τ' a1 a3 a9 a10 a11=>⟨by omega,f0',by rw[tk];exact nm3,a1,a3,a9,a10,a11⟩
  rcases(show i=0∨(1<=i/\ i<=8)∨i=9∨i=10 by omega) with rfl|h8|rfl|rfl
  ·have k0:((iy 0:Nat):Int)=0:=rfl;have l0:nX 0=[]:=rfl;have s0:(([120]:List Nat)=[])=False:=eq_false (by simp);have s1:lJ 0=[120]:=rfl;refine BR f0 f5 t1 t3 t9 t10 t11 k0 l0 s0 s1 cl ?_;refine E.con (cf _) ?_;refine BR f0 f5 t1 t3 t9 t10 t11 k0 l0 s0 s1 cl ?_;refine E.con (yI S F (.inl rfl) _) ?_;refine BR f0 f5 t1 t3 t9 t10 t11 k0 l0 s0 s1 cl ?_;refine E.con (Hc S F hg _) ?_;refine BR f0 f5 t1 t3 t9 t10 t11 k0 l0 s0 s1 cl ?_;refine ih _ _ (fin _ ?_ ?_ ?_ ?_ ?_)<;>simp only[T.get_put,Nat.reduceEqDiff,reduceIte,t1,t3,t9,t10];rfl
  ·obtain⟨k1,k2,k3,k4⟩:=Cy i h8;have k0:((iy i:Nat):Int)=0:=by rw[k1];rfl
   have k2':(nX i=[])=False:=eq_false k2;refine BR f0 f5 t1 t3 t9 t10 t11 k0 k2' k3 k4 cl ?_;refine E.con (cf _) ?_;refine IA f0 f5 t1 t3 t9 t10 t11 k0 k2' k3 k4 cl @ar ?_;refine ih _ _ (fin _ ?_ ?_ ?_ ?_ ?_)<;>exact U4 t1 t3 t9 t10
  ·have k0:((iy 9:Nat):Int)=1:=rfl;have l0:nX 9=[]:=rfl;have s1:lJ 9=[]:=rfl;have a9:aV .add (ι ((9:Nat):Int)) (ι 1)=some (ι ((9+1:Nat):Int)):=rfl;refine y5 f0 f5 t1 t3 t9 t10 t11 k0 l0 s1 cl ?_;refine E.con (cf _) ?_;refine y5 f0 f5 t1 t3 t9 t10 t11 k0 l0 s1 cl ?_;refine E.con (yI S F (.inr (.inl rfl)) _) ?_;refine BR f0 f5 t1 t3 t9 t10 t11 k0 l0 s1 cl a9 ?_;refine ih _ _ (fin _ ?_ ?_ ?_ ?_ ?_)<;>exact U4 t1 t3 t9 t10
  ·have k0:((iy 10:Nat):Int)=2:=rfl;have l0:nX 10=[]:=rfl;have s1:lJ 10=[]:=rfl;have a9:aV .add (ι ((10:Nat):Int)) (ι 1)=some (ι ((10+1:Nat):Int)):=rfl;refine y5 f0 f5 t1 t3 t9 t10 t11 k0 l0 s1 cl ?_;refine E.con (cf _) ?_;refine y5 f0 f5 t1 t3 t9 t10 t11 k0 l0 s1 cl ?_;refine E.con (yI S F (.inr (.inr rfl)) _) ?_;refine BR f0 f5 t1 t3 t9 t10 t11 k0 l0 s1 cl a9 ?_;refine ih _ _ (fin _ ?_ ?_ ?_ ?_ ?_)<;>exact U4 t1 t3 t9 t10
 ·rintro τ ⟨n2,v2,ob2⟩ ⟨hn2,d0,nm,t1,t3,t9,t10,t11⟩;refine Y6 t1 t3 t9 t10 t11 z11 ?_;exact⟨1,rfl⟩
 all_goals exact U0
def Ex (S:aw P X GL fns) (F:jJ fns) {g:Gr} (G:cM g) {s:Bool×Nat} (hs:(s.1=true/\ s.2<9)∨(s.1=false/\ s.2<g.nts.length)) (h:AH):dq P X GL 283 [b9 g,.ag (bS s)] h (.b true) h:=by
 refine ez S (fun n h=>by simp only[af,ay,eO (nY s)]) ?_ h;refine aZ.intro fun C E=> ?_
 have ntl:=G.ntl;have tl:=G.tcl;have hz:g.tc.zipIdx.length=11:=by rw[lC,tl]
 have z11:((11:Nat):Int)=11:=rfl;rw[aA E.ok (E.get F.f283)];rcases hs with ⟨h1,h2⟩|⟨h1,h2⟩
 ·obtain⟨c,_,hz2⟩:=mD (g:=g) tl (i:=s.2) ω;have e7:sub (g.tc.zipIdx.flatMap iI) (s.2*7+1) 1=some [.i .i64 0]:=by
   have:=aB ic hz2 (j:=1) (n:=1) ω;simpa[iI,qE h2] using this
  have hlt:((s.2:Int)<11)=True:=eq_true ω;refine y5 @Pk.eq_1 @b9.eq_1 @aL.eq_1 @bS.eq_1 @h0.eq_1 h1 hz z11 @aF e7 hlt ?_;exact⟨1,rfl⟩
 ·refine Y6 @Pk.eq_1 @b9.eq_1 @aL.eq_1 @bS.eq_1 @h0.eq_1 h1 ?_;exact⟨1,rfl⟩
def Aw {C:cQ Prop} (E:gW P X GL fns C) (F:jJ fns) {p:Pr} {kk v lo hi:Nat} (hk:V7 p kk v lo hi) (hl:p.right.length<=16) {h:AH} {q:Nat} (hq:cG (h.objs.get q)=some (cC p)) (k:AV ->AH ->Prop) (hk':k (.b true) h):
 bZ C 422 [.i .i64 (kk:Int),.i .i64 (v:Int),.i .i64 (lo:Int),.i .i64 (hi:Int),.p q 0] h k:=by
 obtain⟨m,ver,ob⟩:=h;dsimp only at hq;simp only[cC] at hq;rw[aA E.ok (E.get F.f422)];rcases hk with ⟨h1,h2⟩|⟨h1,⟨j,hj⟩,h3,h4⟩
 ·subst h1;subst h2;refine Y1 @Pl.eq_1 ?_;exact hk'
 ·have hlt:=(cW.1 hj).1;have e1:aV .sub (ι (kk:Int)) (ι 1)=some (ι ((kk-1:Nat):Int)):=oK (b:=1) ω;have e2:sub (p.right.flatMap bS) ((kk-1)*2) 1=some [.b true]:=by
   have:=aB bz hj (j:=0) (n:=1) ω;simpa[bS] using this
  refine Y5 @Pl.eq_1 hq @aF e1 e2 ?_;exact hk'
set_option maxHeartbeats 2000000 in
def Ey (S:aw P X GL fns) (F:jJ fns) {nc nt:Nat} {p:Pr} (ok:zh nc nt p) (h:AH):dq P X GL 285 [.ag (cC p)] h (.b true) h:=by
 refine yC S (fun n h=>rfl) ?_ h;refine aZ.intro fun C E=> ?_
 have hll:=ok.layl;have hlr:=ok.len;rw[aA E.ok (E.get F.f285)];refine Y3 @UJ.eq_1 @cC.eq_1 @h0.eq_1 ?_;refine aX E.ok p.lay.length (fun i τ h=>1<=h.next/\ cG (h.objs.get 0)=some (cC p)/\ τ.get 1=some (.p 0 0)/\ τ.get 9=some (eR oM 3 p.ln p.lay)/\ τ.get 10=some (ι (p.lay.length:Int))/\ τ.get 11=some (ι (i:Int))) ?_ ?_ _ _ ⟨bK _,?_,?_,?_,?_,?_⟩
 ·rintro i τ ⟨n1,ver,ob⟩ hi ⟨hn,c0,t1,t9,t10,t11⟩ ih;have hn':1<=n1:=hn;have hbi:p.lay[i]? =some p.lay[i]:=ba hi;generalize hc:p.lay[i]=c at hbi;have e0:sub (p.lay.flatMap oM) (i*3) 3=some [.i .i64 (c.1:Int),.i .i64 (c.2.1:Int),.i .i64 (c.2.2:Int)]:=aB IV hbi (j:=0) (n:=3) ω;obtain⟨l1,l2,l3,l4,l5⟩:=ok.lay _ (bJ hbi);have c0':=c0;simp only[cC] at c0;have run21:∀(x:Nat) (ob':T aU) (n' v':Nat) (k':AV ->AH ->Prop),x<p.right.length ->cG (ob'.get 0)=some (cC p) ->k' (.b true) ⟨n',v',ob'⟩ ->fX C 421 [.i .i64 (x:Int),.p 0 0] ⟨n',v',ob'⟩ k':=by
   intro x ob' n' v' k' hx hc hk;simp only[cC] at hc;refine E.run ?_;rw[aA E.ok (E.get F.f421)];refine Y2 @UK.eq_1 hc ?_;exact hk
  have frame:∀ob',ob'=(ob.put n1 (.cells ver [.i .i64 0,.i .i64 0,.i .i64 0])).put n1 (.cells (ver+1) [.i .i64 (c.1:Int),.i .i64 (c.2.1:Int),.i .i64 (c.2.2:Int)]) ->cG (T.get ob' 0)=some (cC p):=by
   rintro ob' rfl;exact W0 c0'
  by_cases k1:c.1=1
  ·have k2:=l5 k1;refine Y7 c0 t1 t9 t10 t11 @aF e0 ?_;refine run21 _ _ _ _ _ l3 (frame _ rfl) ?_;refine Y5 c0 t1 t9 t10 t11 ?_;refine run21 _ _ _ _ _ l4 (frame _ rfl) ?_;refine Y6 c0 t1 t9 t10 t11 @ar ?_;refine ih _ _ ⟨by show 1<=n1+1;omega,frame _ rfl,?_,?_,?_,?_⟩<;>exact U3 t1 t9 t10
  ·refine Y7 c0 t1 t9 t10 t11 @aF e0 ?_;refine run21 _ _ _ _ _ l3 (frame _ rfl) ?_;refine Y5 c0 t1 t9 t10 t11 ?_;refine run21 _ _ _ _ _ l4 (frame _ rfl) ?_;refine Y6 c0 t1 t9 t10 t11 @ar ?_;refine ih _ _ ⟨by show 1<=n1+1;omega,frame _ rfl,?_,?_,?_,?_⟩<;>exact U3 t1 t9 t10
 ·rintro τ ⟨n1,ver,ob⟩ ⟨hn,c0,t1,t9,t10,t11⟩;have hn':1<=n1:=hn;have c0':=c0;simp only[cC] at c0;refine Y5 c0 t1 t9 t10 t11 ?_;refine E.run (Aw (lo:=1) (hi:=7) E F ok.dec hlr ?_ _ ?_)
  ·exact W0 c0'
  refine Y5 c0 t1 t9 t10 t11 ?_;refine E.run (Aw (lo:=0) (hi:=255) E F ok.uses hlr ?_ _ ?_)
  ·exact W0 c0'
  cases hbr:p.br with
  |false=>
   refine Y6 c0 hbr t1 t9 t10 t11 ?_;exact⟨1,rfl⟩
  |true=>
   obtain⟨b1,b2,b3,b4,b5,b6,b7,i,j,hr⟩:=ok.br hbr;have c3:((p.right.length:Nat):Int)=3:=by rw[hr];rfl
   have g3:p.right.length=3:=by rw[hr];rfl
   have g0:p.right[0]? =some (true,i):=by rw[hr];rfl
   have g1:p.right[1]? =some (false,p.left):=by rw[hr];rfl
   have g2:p.right[2]? =some (true,j):=by rw[hr];rfl
   have e0:sub (p.right.flatMap bS) 0 1=some [.b true]:=aB bz g0 (j:=0) (n:=1) ω;have e1:sub (p.right.flatMap bS) 2 2=some [.b false,.i .i64 (p.left:Int)]:=aB bz g1 (j:=0) (n:=2) ω;have e3:sub (p.right.flatMap bS) 4 1=some [.b true]:=aB bz g2 (j:=0) (n:=1) ω;have nc2:∀k,aJ 64 (.dp (p.right.flatMap bS) k)=true:=fun k=>by rw[di,bu de]
   have ne:aJ 64 (eR bS 2 p.rn p.right)=true:=aT de;have q1:fS 6 (.ag [(0,1,false,(.lf .b)),(1,1,false,(.lf .i))]) (.ag [.b false,.i .i64 (p.left:Int)]) (.ag [.b false,.i .i64 (p.left:Int)])=some true:=by
    show(match rh .i (ι (p.left:Int)) (ι (p.left:Int)) with|some true=>some true|r=>r)=_;have:rh .i (ι (p.left:Int)) (ι (p.left:Int))=some true:=by show(bif rP .i64 .i64 then some (fQ (p.left:Int) (p.left:Int)) else none)=_;rw[ku,bF];simp
    rw[this]
   have nl:p.lay.length=0:=by rw[b2];rfl
   refine Y24 c0 hbr c3 g3 b1 b2 b3 b4 b5 b6 b7 @jW @vd @aF e0 e1 e3 nc2 ne q1 t1 t9 t10 t11 ?_;exact⟨1,rfl⟩
 ·exact U1 @cC.eq_1
 all_goals exact U0
set_option maxHeartbeats 2000000 in
def He (S:aw P X GL fns) (A:bh P X GL) (F:jJ fns) {g:Gr} (G:cM g) (h:AH):dq P X GL 172 [b9 g] h (ι 0) h:=by
 refine ez S (fun n h=>rfl) ?_ h;refine aZ.intro fun C E=> ?_
 have nc:=G.nc;have pl:=G.pl;have cl:(bW g.nc).length=g.nc:=by unfold bW;rw[fO];simp;omega
 rw[aA E.ok (E.get F.f172)];refine Y3 @UF.eq_1 @b9.eq_1 @h0.eq_1 ?_;refine E.run (qI E F _ ?_);rintro⟨n1,v1,ob1⟩ hn1 old1 nm1;have hn1':n1=3:=hn1;subst hn1';have c0:cG (ob1.get 0)=some (aL g):=by rw[show ob1.get 0=_ from old1 0 (by show 0<1;omega)];exact U0
 have c0':=c0;simp only[aL] at c0;refine Y1 c0 ?_;refine aX E.ok g.prods.length (fun i τ h=>3<=h.next/\ cG (h.objs.get 0)=some (aL g)/\ QY h 2 1 ([]::(g.prods.take i).map (·.name))/\ τ.get 1=some (.p 0 0)/\ τ.get 3=some (.f 417 [] [.p 2 0])/\ τ.get 9=some (eR cC 13 true g.prods)/\ τ.get 10=some (ι (g.prods.length:Int))/\ τ.get 11=some (ι (i:Int))) ?_ ?_ _ _ ⟨by show 3<=3;omega,c0',nm1,?_,?_,?_,?_,?_⟩
 ·rintro i τ ⟨n2,v2,ob2⟩ hi ⟨hn2,d0,nm,t1,t3,t9,t10,t11⟩ ih;have hn2':3<=n2:=hn2;have hpi:g.prods[i]? =some g.prods[i]:=ba hi;generalize hp:g.prods[i]=p at hpi;have ok:=G.p p (bJ hpi);have e13:sub (g.prods.flatMap cC) (i*13) 13=some (cC p):=aB eG hpi (j:=0) (n:=13) ω;simp only[cC] at e13;have cf:∀h,dq P X GL 281 [.ag [fG (ax p.cond).1,.i .i64 ((ax p.cond).2:Int)],.i .i64 (g.nc:Int)] h (.b true) h:=fun h=>og S A F nc ok.cond h
  have cd:∀h,dq P X GL 285 [.ag (cC p)] h (.b true) h:=fun h=>Ey S F ok h
  simp only[cC] at cd;have rk1:(p.rank< -1)=False:=eq_false (by have:=ok.rank;omega);have rk2:(1<p.rank)=False:=eq_false (by have:=ok.rank;omega);have tk:(g.prods.take (i+1)).map (·.name)=(g.prods.take i).map (·.name)++[p.name]:=by rw[eP hpi,iT];rfl
  have d0':=d0;simp only[aL] at d0;have I0:∀(Iv:AH ->Prop),Iv=(fun h'=>n2+1<=h'.next/\ (∀j,j<n2 ->h'.objs.get j=ob2.get j)/\ cG (h'.objs.get n2)=some (cC p)) ->∀s,((s.1=true/\ s.2<9)∨(s.1=false/\ s.2<g.nts.length)) ->∀h',Iv h' ->∀k',(∀h'',Iv h'' ->k' (.b false) h'') ->fX C 282 [.ag (bS s),.p 0 0] h' k':=by
   rintro Iv rfl s hs ⟨m3,v3,ob3⟩ ⟨hm3,old3,hc3⟩ k' hk';have hm3':n2+1<=m3:=hm3;have old3':∀j,j<n2 ->ob3.get j=ob2.get j:=old3;have zq0':cG (ob3.get 0)=some (aL g):=by rw[old3' 0 ω];exact d0'
   have cs:∀h,dq P X GL 283 [.ag (aL g),.ag (bS s)] h (.b true) h:=fun h=>Ex S F G hs h
   simp only[aL,bS] at cs zq0';refine E.run ?_;rw[aA E.ok (E.get F.f282)];simp(disch:=omega) only[UG,bS,zq0',↓ky E.ok,Nat.reduceEqDiff,Nat.reduceAdd,Nat.reduceMul,Nat.reduceLT,Nat.reduceShiftRight,Nat.reduceAnd,Nat.reduceBneDiff,↓reduceIte,Int.reduceLT,Int.reduceLE,Int.reduceEq,go_sem];refine E.con (cs _) ?_;refine Y1 zq0' ?_;exact hk' _ ⟨by show n2+1<=m3+1;omega,fun j hj=>(W0 (old3' j hj)),(W0 hc3)⟩
  have I1:=I0 _ rfl;refine Y8 d0 t1 t3 t9 t10 t11 @aF e13 ?_;refine I1 (false,p.left) (.inr ⟨rfl,ok.left⟩) _ ⟨by show n2+1<=n2+1;omega,fun j hj=> ?_,?_⟩ _ ?_
  ·exact U0
  ·exact U1 @cC.eq_1
  rintro⟨m3,v3,ob3⟩ ⟨hm3,old3,hc3⟩;have hm3':n2+1<=m3:=hm3;dsimp only at hc3;have hc3':=hc3;simp only[cC] at hc3;refine Y6 hc3 t1 t3 t9 t10 t11 ?_;refine E.run (zk E F (L:=p.right) (nl:=p.rn) (f:=282) (ca:=[.p 0 0]) (by have:=ok.len;omega) (fun h'=>n2+1<=h'.next/\ (∀j,j<n2 ->h'.objs.get j=ob2.get j)/\ cG (h'.objs.get n2)=some (cC p)) ⟨hm3,old3,hc3'⟩ (fun s hs h' hI k' hk'=>I1 s (ok.sym s hs) h' hI k' hk') _ ?_);rintro⟨m4,v4,ob4⟩ ⟨hm4,old4,hc4⟩;have hm4':n2+1<=m4:=hm4;have old4':∀j,j<n2 ->ob4.get j=ob2.get j:=old4;dsimp only at hc4;have hc4':=hc4;simp only[cC] at hc4;have nm4:QY ⟨m4,v4,ob4⟩ 2 1 ([]::(g.prods.take i).map (·.name)):=
   ⟨by show cG (ob4.get 2)=_;rw[old4' 2 ω];exact nm.cc,by show mG (ob4.get 1)=_;rw[old4' 1 ω];exact nm.mm,nm.ne,⟨by show 1<m4;omega,by show 2<m4;omega⟩⟩
  refine Y6 hc4 t1 t3 t9 t10 t11 ?_;refine E.run (qJ E F nm4 ?_ _ ?_)
  ·intro hm;rcases bY.1 hm with h|h
   ·exact ok.name h
   ·obtain⟨q,hq,he⟩:=sS.1 h;obtain⟨j,hj,hjq⟩:=rL.1 hq;have hj':j<i:=by simp at hj;omega
    have h2:(g.prods.take i)[j]? =some q:=by rw[←hjq];exact ba hj
    rw[iL,if_pos hj'] at h2;have:=G.pd _ _ _ _ h2 hpi he;omega
  rintro⟨m5,v5,ob5⟩ hn5 old5 nm5;have hn5':m5=m4:=hn5;have old5':∀j,j≠1 ->ob5.get j=ob4.get j:=old5;have f0:cG (ob5.get 0)=some (aL g):=by rw[old5' 0 ω,old4' 0 ω];exact d0'
  have f0':=f0;simp only[aL] at f0;have f5:cG (ob5.get n2)=some (cC p):=by rw[old5' n2 ω];exact hc4'
  simp only[cC] at f5;refine Y8 f0 f5 cl t1 t3 t9 t10 t11 ?_;refine E.con (cf _) ?_;refine CM f0 f5 cl rk1 rk2 t1 t3 t9 t10 t11 ?_;refine E.con (cd _) ?_;refine Y9 f0 f5 cl t1 t3 t9 t10 t11 @ar ?_;refine ih _ _ ⟨by show 3<=m5;omega,f0',by rw[tk];exact nm5,?_,?_,?_,?_,?_⟩<;>exact U4 t1 t3 t9 t10
 ·rintro τ ⟨n2,v2,ob2⟩ ⟨hn2,d0,nm,t1,t3,t9,t10,t11⟩;refine Y5 t1 t3 t9 t10 t11 ?_;exact⟨1,rfl⟩
 all_goals exact U0
end
def Ax {s:Nat}:∀{L:List Nat},look s (L.map fun s=>(s,true))=if s∈L then some true else none
 |[]=>rfl
 |a::L=>by
  simp only[iR,look,Ax (L:=L),bY];by_cases e:s=a<;>simp[e]
section
variable {P:Program} {X:dy} {GL:T (List AV)} {fns:T aR}
set_option maxHeartbeats 2000000 in
def Ez (S:aw P X GL fns) (A:bh P X GL) (F:jJ fns) {g:Gr} (G:cM g) (h:AH):dq P X GL 173 [b9 g] h (ι 0) h:=by
 refine ez S (fun n h=>rfl) ?_ h;refine aZ.intro fun C E=> ?_
 have nc:=G.nc;have pl:=G.pl;have ll:=G.ll;have cl:(bW g.nc).length=g.nc:=by unfold bW;rw[fO];simp;omega
 rw[aA E.ok (E.get F.f173)];refine Y4 @UL.eq_1 @b9.eq_1 @aL.eq_1 @h0.eq_1 ?_;refine aX E.ok g.lvs.length (fun i τ h=>cG (h.objs.get 0)=some (aL g)/\ mG (h.objs.get 1)=some (cV (fun n:Nat=>AV.i .i64 (n:Int)) AV.b 0 (((g.lvs.take i).flatMap (·.prods)).map fun s=>(s,true)),(((g.lvs.take i).flatMap (·.prods)).map fun s=>(s,true)).length)/\ 2<=h.next/\ τ.get 1=some (.p 0 0)/\ τ.get 3=some (.m 1)/\ τ.get 10=some (eR qU 4 true g.lvs)/\ τ.get 11=some (ι (g.lvs.length:Int))/\ τ.get 12=some (ι (i:Int))) ?_ ?_ _ _ ⟨?_,?_,?_,?_,?_,?_,?_,?_⟩
 ·rintro i τ ⟨n1,ver,ob⟩ hi ⟨c0,c1,hn,t1,t3,t10,t11,t12⟩ ih;have hn':2<=n1:=hn;have c0':=c0;simp only[aL] at c0;dsimp only at c1;have hli:g.lvs[i]? =some g.lvs[i]:=ba hi;generalize hl:g.lvs[i]=l at hli;obtain⟨l1,l2,l3⟩:=G.l l (bJ hli);have e4:sub (g.lvs.flatMap qU) (i*4) 4=some (qU l):=aB tY hli (j:=0) (n:=4) ω;simp only[qU] at e4;have cf:∀h,dq P X GL 281 [.ag [fG (ax l.cond).1,.i .i64 ((ax l.cond).2:Int)],.i .i64 (g.nc:Int)] h (.b true) h:=fun h=>og S A F nc l2 h
  have hfl:(g.lvs.take (i+1)).flatMap (·.prods)=(g.lvs.take i).flatMap (·.prods)++l.prods:=by rw[eP hli,ik];simp
  have hall:g.lvs.flatMap (·.prods)=(g.lvs.take i).flatMap (·.prods)++(l.prods++(g.lvs.drop (i+1)).flatMap (·.prods)):=by
   have h1:g.lvs=g.lvs.take (i+1)++g.lvs.drop (i+1):=(pm _ _).symm;rw[←jO,←hfl,←ik,←h1]
  refine Y9 c0 t1 t3 t10 t11 t12 @aF e4 cl ?_;refine E.con (cf _) ?_;refine Y7 c0 t1 t3 t10 t11 t12 cl ?_;refine aX E.ok l.prods.length (fun k τ h=>cG (h.objs.get 0)=some (aL g)/\ mG (h.objs.get 1)=some (cV (fun n:Nat=>AV.i .i64 (n:Int)) AV.b 0 (((g.lvs.take i).flatMap (·.prods)++l.prods.take k).map fun s=>(s,true)),(((g.lvs.take i).flatMap (·.prods)++l.prods.take k).map fun s=>(s,true)).length)/\ 2<=h.next/\ τ.get 1=some (.p 0 0)/\ τ.get 3=some (.m 1)/\ τ.get 10=some (eR qU 4 true g.lvs)/\ τ.get 11=some (ι (g.lvs.length:Int))/\ τ.get 12=some (ι (i:Int))/\ τ.get 34=some (eR cI 1 true l.prods)/\ τ.get 35=some (ι (l.prods.length:Int))/\ τ.get 36=some (ι (k:Int))) ?_ ?_ _ _ ⟨?_,?_,?_,?_,?_,?_,?_,?_,?_,?_,?_⟩
  ·rintro k τ ⟨n2,v2,ob2⟩ hk ⟨d0,d1,dn,s1,s3,s10,s11,s12,s34,s35,s36⟩ ih2;have hki:l.prods[k]? =some l.prods[k]:=ba hk;generalize hx:l.prods[k]=x at hki;have e1:sub (l.prods.flatMap cI) k 1=some [.i .i64 (x:Int)]:=by
    have:=aB sF hki (j:=0) (n:=1) ω;simpa[cI] using this
   have hxm:x∈g.lvs.flatMap (·.prods):=by rw[hall];simp[bJ hki]
   have hxp:=G.lp x hxm;have hnd:=G.ld;rw[hall] at hnd;have hl2:l.prods=l.prods.take k++(x::l.prods.drop (k+1)):=by
    have hdk:l.prods.drop k=x::l.prods.drop (k+1):=by rw[Ba hk,hx]
    rw[←hdk,pm]
   have hno:x∉(g.lvs.take i).flatMap (·.prods)++l.prods.take k:=by
    intro hm;rw[hl2,jO,←jO] at hnd;exact(uy.1 hnd).2.2 x hm x (by simp) rfl
   generalize hD:(g.lvs.take i).flatMap (·.prods)++l.prods.take k=D at*;have hD2:(g.lvs.take i).flatMap (·.prods)++l.prods.take (k+1)=D++[x]:=by rw[eP hki,←jO,hD]
   have hlk:look x (D.map fun s=>(s,true))=none:=by rw[Ax,if_neg hno]
   have hu:ups x true (D.map fun s=>(s,true))=(D++[x]).map fun s=>(s,true):=by rw[nS hlk,iT];rfl
   have lk:∀ver' ob' (τ:T AV),mG (T.get ob' 1)=some (cV (fun n:Nat=>AV.i .i64 (n:Int)) AV.b 0 (D.map fun s=>(s,true)),(D.map fun s=>(s,true)).length) ->bp C τ (.t 50)= .m 1 ->bp C τ (.t 51)= .i .i64 (x:Int) ->
    step (bp C τ) ⟨n2,ver',ob'⟩ (.look (.lf .i) (.t 50) (.t 51) (.b false) false)= .v (.b false) ⟨n2,ver',ob'⟩:=fun ver' ob' τ q1 q2 q3=>by
    have:=j4 (k:=x) (z:= .b false) (en:=AV.b) pR (h:=⟨n2,ver',ob'⟩) (bA.2 q1) q2 q3;rw[hlk] at this;exact this
   have mu:∀ver' ob' (τ:T AV),mG (T.get ob' 1)=some (cV (fun n:Nat=>AV.i .i64 (n:Int)) AV.b 0 (D.map fun s=>(s,true)),(D.map fun s=>(s,true)).length) ->bp C τ (.t 54)= .m 1 ->bp C τ (.t 55)= .i .i64 (x:Int) ->
    step (bp C τ) ⟨n2,ver',ob'⟩ (.mupd (.lf .i) (.t 54) (.t 55) (.c (.b true)))= .v .un ⟨n2,ver'+1,ob'.put 1 (.map (ver'+1) (cV (fun n:Nat=>AV.i .i64 (n:Int)) AV.b 0 (ups x true (D.map fun s=>(s,true)))) (ups x true (D.map fun s=>(s,true))).length)⟩:=
    fun ver' ob' τ q1 q2 q3=>gH (k:=x) (v:=true) (en:=AV.b) pR (h:=⟨n2,ver',ob'⟩) (bA.2 q1) q2 q3 rfl
   rw[hu] at mu;have d0':=d0;simp only[aL] at d0;dsimp only at d1;refine Yq d0 s1 s3 s10 s11 s12 s34 s35 s36 @aF e1 lk mu @ar ?_;refine ih2 _ _ ⟨?_,?_,dn,?_,?_,?_,?_,?_,?_,?_,?_⟩
   ·exact W0 d0'
   ·exact U1 hD2
   all_goals exact U7 s1 s3 s10 s11 s12 s34 s35
  ·rintro τ ⟨n2,v2,ob2⟩ ⟨d0,d1,dn,s1,s3,s10,s11,s12,s34,s35,s36⟩;rw[m8,←hfl] at d1;refine Y9 s1 s3 s10 s11 s12 s34 s35 s36 @ar ?_;refine ih _ _ ⟨d0,d1,dn,?_,?_,?_,?_,?_⟩<;>exact U4 s1 s3 s10 s11
  ·exact W0 c0'
  ·simp(disch:=omega) only[cF,T.get_put,if_false,pz,ip];exact c1
  ·show 2<=n1+1;omega
  all_goals exact U5 t1 t3 t10 t11 t12
 ·rintro τ ⟨n1,ver,ob⟩ ⟨c0,c1,hn,t1,t3,t10,t11,t12⟩;refine Y5 t1 t3 t10 t11 t12 ?_;exact⟨1,rfl⟩
 ·exact U1 @aL.eq_1
 ·exact U0
 ·show 2<=2;omega
 all_goals exact U0
def kfF (lit:Bool):Nat:=if lit then 287 else 286
def Hf {C:cQ Prop} (E:gW P X GL fns C) (F:jJ fns) {lit:Bool} {c:Tr} {x:Nat} (hx:x<9) (hl:lit=true ->1<=x) {h:AH} (k:AV ->AH ->Prop)
 (hk:∀h',h'.next=h.next+1 ->(∀j,j<h.next ->h'.objs.get j=h.objs.get j) ->k (.b true) h'):bZ C (kfF lit) [.ag (iI (c,x))] h k:=by
 obtain⟨m,ver,ob⟩:=h;have k0:((iy x:Nat):Int)=0:=by rw[qE hx];rfl
 cases lit with
 |false=>
  show bZ C 286 _ _ _;rw[aA E.ok (E.get F.f286)];refine Y3 @UN.eq_1 @iI.eq_1 k0 ?_;refine hk _ rfl fun j hj=> ?_
  have hj':j<m:=hj;exact U0
 |true=>
  have kl:(nX x=[])=False:=eq_false (I2 x (hl rfl) hx);show bZ C 287 _ _ _;rw[aA E.ok (E.get F.f287)];refine Y3 @Pm.eq_1 @iI.eq_1 kl ?_;refine hk _ rfl fun j hj=> ?_
  have hj':j<m:=hj;exact U0
set_option maxHeartbeats 2000000 in
def I5 {C:cQ Prop} (E:gW P X GL fns C) (F:jJ fns) {g:Gr} (G:cM g) {l:List Nat} {nl lit:Bool} (hne:l≠[]) (h9:∀t∈l,t<9/\ (lit=true ->1<=t)) (hasc:∀(i a b:Nat),l[i]? =some a ->l[i+1]? =some b ->a<b) (hlen:l.length<=16) {h:AH} (k:AV ->AH ->Prop)
 (hk:∀h',h.next<=h'.next ->(∀j,j<h.next ->h'.objs.get j=h.objs.get j) ->k (.b true) h'):bZ C 289 [b9 g,eR cI 1 nl l,.f (kfF lit) [] []] h k:=by
 obtain⟨m,ver,ob⟩:=h;have tl:=G.tcl;have hz:g.tc.zipIdx.length=11:=by rw[lC,tl]
 have z11:((11:Nat):Int)=11:=rfl;have hlp:0<l.length:=E7.2 hne;rw[aA E.ok (E.get F.f289)];refine Y3 @UP.eq_1 @b9.eq_1 @aL.eq_1 ?_;refine aX E.ok l.length (fun i τ h=>m+1<=h.next/\ (∀j,j<m ->h.objs.get j=ob.get j)/\ cG (h.objs.get m)=some (aL g)/\ τ.get 1=some (eR cI 1 nl l)/\ τ.get 2=some (.f (kfF lit) [] [])/\ τ.get 3=some (.p m 0)/\ τ.get 9=some (eR cI 1 nl l)/\ τ.get 10=some (ι (l.length:Int))/\ τ.get 11=some (ι (i:Int))) ?_ ?_ _ _ ⟨bK _,?_,?_,?_,?_,?_,?_,?_,?_⟩
 ·rintro i τ ⟨n1,v1,ob1⟩ hi ⟨hn,old,c0,t1,t2,t3,t9,t10,t11⟩ ih;have hn':m+1<=n1:=hn;have old':∀j,j<m ->ob1.get j=ob.get j:=old;have c0':=c0;simp only[aL] at c0;have hli:l[i]? =some l[i]:=ba hi;generalize hx:l[i]=x at hli;obtain⟨x9,xl⟩:=h9 x (bJ hli);obtain⟨c,_,hz2⟩:=mD (g:=g) tl (i:=x) ω;have e1:sub (l.flatMap cI) i 1=some [.i .i64 (x:Int)]:=by
   have:=aB sF hli (j:=0) (n:=1) ω;simpa[cI] using this
  have e7:sub (g.tc.zipIdx.flatMap iI) (x*7) 7=some (iI (c,x)):=aB ic hz2 (j:=0) (n:=7) ω;have hlt:((x:Int)<11)=True:=eq_true ω;by_cases i0:i=0
  ·subst i0;refine IA c0 t1 t2 t3 t9 t10 t11 @aF hz z11 hlt e1 e7 ?_;refine E.run (Hf E F x9 xl _ ?_);rintro⟨n2,v2,ob2⟩ hn2 old2;have hn2':n2=n1+1:=hn2;have old2':∀j,j<n1 ->ob2.get j=ob1.get j:=old2;refine Y6 t1 t2 t3 t9 t10 t11 ?_;refine ih _ _ ⟨by show m+1<=n2;omega,fun j hj=>(old2' j ω).trans (old' j hj),by show cG (ob2.get m)=_;rw[old2' m ω];exact c0',?_,?_,?_,?_,?_,?_⟩<;>simp only[T.get_put,Nat.reduceEqDiff,reduceIte,t1,t2,t3,t9,t10];rfl
  ·have hlj:l[i-1]? =some l[i-1]:=ba ω;generalize hy:l[i-1]=y at hlj;have ej:sub (l.flatMap cI) (i-1) 1=some [.i .i64 (y:Int)]:=by
    have:=aB sF hlj (j:=0) (n:=1) ω;simpa[cI] using this
   have hlt2:y<x:=hasc (i-1) y x hlj (by rw[show i-1+1=i by omega];exact hli);have es:aV .sub (ι (i:Int)) (ι 1)=some (ι ((i-1:Nat):Int)):=oK (b:=1) ω;refine WC c0 t1 t2 t3 t9 t10 t11 @aF hz z11 hlt e1 e7 ej es ?_;refine E.run (Hf E F x9 xl _ ?_);rintro⟨n2,v2,ob2⟩ hn2 old2;have hn2':n2=n1+1:=hn2;have old2':∀j,j<n1 ->ob2.get j=ob1.get j:=old2;refine Y7 t1 t2 t3 t9 t10 t11 @ar ?_;refine ih _ _ ⟨by show m+1<=n2;omega,fun j hj=>(old2' j ω).trans (old' j hj),by show cG (ob2.get m)=_;rw[old2' m ω];exact c0',?_,?_,?_,?_,?_,?_⟩<;>exact U5 t1 t2 t3 t9 t10
 ·rintro τ ⟨n1,v1,ob1⟩ ⟨hn,old,c0,t1,t2,t3,t9,t10,t11⟩;have hn':m+1<=n1:=hn;refine Y6 t1 t2 t3 t9 t10 t11 ?_;exact hk _ (by show m<=n1;omega) old
 ·intro j hj;exact U0
 ·exact U1 @aL.eq_1
 all_goals exact U0
def KL (S:aw P X GL fns) (F:jJ fns) {g:Gr} (G:cM g) {f:Fi} {pp cp:Pr} (h4:g.prods[f.par]? =some pp) (h5:g.prods[f.child]? =some cp) (h6:pp.right[f.at_]? =some (false,cp.left)) (h:AH):
 dq P X GL 288 [b9 g,.ag (jx f)] h (.b true) h:=by
 refine ez S (fun n h=>by simp only[af,ay,eO (da _)]) ?_ h;refine aZ.intro fun C E=> ?_
 have hp:=(cW.1 h4).1;have hq:=(cW.1 h5).1;have ha:=(cW.1 h6).1;have okp:=G.p pp (bJ h4);have okl:=okp.len;have pl:=G.pl;have e2:sub (g.prods.flatMap cC) (f.par*13+2) 1=some [eR bS 2 pp.rn pp.right]:=aB eG h4 (j:=2) (n:=1) ω;have e1:sub (g.prods.flatMap cC) (f.child*13+1) 1=some [.i .i64 (cp.left:Int)]:=aB eG h5 (j:=1) (n:=1) ω;have e3:sub (pp.right.flatMap bS) (f.at_*2) 2=some [.b false,.i .i64 (cp.left:Int)]:=aB bz h6 (j:=0) (n:=2) ω;have nk1:aJ 64 (eR bS 2 pp.rn pp.right)=true:=aT de;have nk2:∀k,aJ 64 (.dp (pp.right.flatMap bS) k)=true:=fun k=>by rw[di,bu de]
 have nk3:∀k,aJ 64 (.dp (g.prods.flatMap cC) k)=true:=fun k=>by rw[di,bu fD]
 have nk4:aJ 64 (eR cC 13 true g.prods)=true:=aT fD;have q1:fS 6 (.ag [(0,1,false,(.lf .b)),(1,1,false,(.lf .i))]) (.ag [.b false,.i .i64 (cp.left:Int)]) (.ag [.b false,.i .i64 (cp.left:Int)])=some true:=by
  show(match rh .i (ι (cp.left:Int)) (ι (cp.left:Int)) with|some true=>some true|r=>r)=_;have:rh .i (ι (cp.left:Int)) (ι (cp.left:Int))=some true:=by show(bif rP .i64 .i64 then some (fQ (cp.left:Int) (cp.left:Int)) else none)=_;rw[ku,bF];simp
  rw[this]
 rw[aA E.ok (E.get F.f288)];refine TO @UO.eq_1 @b9.eq_1 @aL.eq_1 @jx.eq_1 @h0.eq_1 @aF e1 e2 e3 nk1 nk2 nk3 nk4 q1 ?_;exact⟨1,rfl⟩
def SI {C:cQ Prop} (E:gW P X GL fns C) (F:jJ fns) {c:Tr} {h:AH} (k:AV ->AH ->Prop)
 (hk:∀h',h'.next=h.next+1 ->(∀j,j<h.next ->h'.objs.get j=h.objs.get j) ->k (.b false) h'):bZ C 287 [.ag (iI (c,0))] h k:=by
 obtain⟨m,ver,ob⟩:=h;have kl:nX 0=[]:=rfl;rw[aA E.ok (E.get F.f287)];refine Y3 @Pm.eq_1 @iI.eq_1 kl ?_;refine hk _ rfl fun j hj=> ?_
 have hj':j<m:=hj;exact U0
set_option maxHeartbeats 4000000 in
def Cz (S:aw P X GL fns) (A:bh P X GL) (F:jJ fns) {g:Gr} (G:cM g) (h:AH):dq P X GL 174 [b9 g] h (ι 0) h:=by
 refine ez S (fun n h=>rfl) ?_ h;refine aZ.intro fun C E=> ?_
 have nc:=G.nc;have fl:=G.fl;have ntl:=G.ntl;have cl:(bW g.nc).length=g.nc:=by unfold bW;rw[fO];simp;omega
 have c1:((1:Nat):Int)=1:=rfl;have c2:((2:Nat):Int)=2:=rfl;have c3:((3:Nat):Int)=3:=rfl;have c4:((4:Nat):Int)=4:=rfl;have c5:((5:Nat):Int)=5:=rfl;rw[aA E.ok (E.get F.f174)];simp(disch:=omega) only[UM,b9,aL,h0,↓ky E.ok,Nat.reduceEqDiff,Nat.reduceAdd,Nat.reduceMul,Nat.reduceLT,Nat.reduceShiftRight,Nat.reduceAnd,Nat.reduceBneDiff,↓reduceIte,Int.reduceLT,Int.reduceLE,Int.reduceEq,go_sem];refine aX E.ok g.fis.length (fun i τ h=>cG (h.objs.get 0)=some (aL g)/\ 1<=h.next/\ τ.get 1=some (.p 0 0)/\ τ.get 3=some (.f 286 [] [])/\ τ.get 4=some (.f 287 [] [])/\ τ.get 10=some (eR jx 9 true g.fis)/\ τ.get 11=some (ι (g.fis.length:Int))/\ τ.get 12=some (ι (i:Int))) ?_ ?_ _ _ ⟨?_,?_,?_,?_,?_,?_,?_,?_⟩
 ·rintro i τ ⟨n1,ver,ob⟩ hi ⟨d0,hn,t1,t3,t4,t10,t11,t12⟩ ih;have hn':1<=n1:=hn;have d0':=d0;simp only[aL] at d0;have hbi:g.fis[i]? =some g.fis[i]:=ba hi;generalize hf:g.fis[i]=f at hbi;have ok:=G.f f (bJ hbi);have tl:=ok.tl;have e9:sub (g.fis.flatMap jx) (i*9) 9=some (jx f):=aB wL hbi (j:=0) (n:=9) ω;simp only[jx] at e9;have cf:∀h,dq P X GL 281 [.ag [fG (ax f.cond).1,.i .i64 ((ax f.cond).2:Int)],.i .i64 (g.nc:Int)] h (.b true) h:=fun h=>og S A F nc ok.cond h
  refine CM d0 t1 t3 t4 t10 t11 t12 @aF e9 cl ?_;refine E.con (cf _) ?_;rcases ok.kinds with ⟨hk,h1,h2,h3,pp,cp,h4,h5,h6⟩|⟨hk,h1,h2,h3,h4,h5,h6,h7,h8⟩|⟨hk,h1,h2,h3,h4,h5,h6,h7,h8⟩
  ·have cpr:∀h,dq P X GL 288 [.ag (aL g),.ag (jx f)] h (.b true) h:=fun h=>KL S F G h4 h5 h6 h
   simp only[aL,jx] at cpr;rcases hk with hk|hk<;>
    (
     simp only[hk] at cpr;refine y5 d0 t1 t3 t4 t10 t11 t12 hk c1 c2 cl ?_;refine E.con (cpr _) ?_;refine WC d0 t1 t3 t4 t10 t11 t12 hk h1 h2 h3 c1 c2 cl @ar ?_;refine ih _ _ ⟨?_,?_,?_,?_,?_,?_,?_,?_⟩
     ·exact W0 d0'
     ·show 1<=n1+1+1;omega
     all_goals exact U5 t1 t3 t4 t10 t11)
  ·rcases hk with hk|hk<;>
    (
     refine y5 d0 t1 t3 t4 t10 t11 t12 hk c3 c4 cl ?_;refine E.run (I5 E F (lit:=false) (nl:=f.tn) G h6 (fun t ht=>⟨h7 t ht,fun h=>by cases h⟩) h8 tl _ ?_);rintro⟨n2,v2,ob2⟩ hn2 old2;have hn2':n1+1+1<=n2:=hn2;have old2':∀j,j<n1+1+1 ->ob2.get j=_:=old2;have g0:cG (ob2.get 0)=some (aL g):=by rw[old2' 0 ω];exact W0 d0'
     have g8':cG (ob2.get (n1+1))=some [.i .i64 0,.i .i64 (f.par:Int),.i .i64 (f.at_:Int),.i .i64 (f.child:Int),.i .i64 0,.i .i64 (f.tok:Int),.sn,.sn,.i .i64 0]:=by
      rw[old2' (n1+1) ω];exact U0
     refine QT g8' t1 t3 t4 t10 t11 t12 hk h1 h2 h3 h4 c3 c4 cl @ar ?_;refine ih _ _ ⟨g0,by show 1<=n2;omega,?_,?_,?_,?_,?_,?_⟩;all_goals exact U5 t1 t3 t4 t10 t11)
  ·have tcl:=G.tcl;have hz:g.tc.zipIdx.length=11:=by rw[lC,tcl]
   have z11:((11:Nat):Int)=11:=rfl;obtain⟨c,_,hz2⟩:=mD (g:=g) tcl (i:=0) ω;have e7:sub (g.tc.zipIdx.flatMap iI) 0 7=some (iI (c,0)):=aB ic hz2 (j:=0) (n:=7) ω;refine y5 d0 t1 t3 t4 t10 t11 t12 hk h5 c5 cl ?_;refine E.run (I5 E F (lit:=true) (nl:=f.tn) G h6 (fun t ht=>⟨(h7 t ht).2,fun _=>(h7 t ht).1⟩) h8 tl _ ?_);rintro⟨n2,v2,ob2⟩ hn2 old2;have hn2':n1+1+1<=n2:=hn2;have old2':∀j,j<n1+1+1 ->ob2.get j=_:=old2;have g0:cG (ob2.get 0)=some (aL g):=by rw[old2' 0 ω];exact W0 d0'
   have g0':=g0;simp only[aL] at g0;have g6':cG (ob2.get n1)=some (jx f):=by
    rw[old2' n1 ω];exact U3 @jx.eq_1 hk h5
   have g8':cG (ob2.get (n1+1))=some [.i .i64 0,.i .i64 (f.par:Int),.i .i64 (f.at_:Int),.i .i64 (f.child:Int),.i .i64 (f.left:Int),.i .i64 0,.sn,.sn,.i .i64 0]:=by
    rw[old2' (n1+1) ω];exact U0
   simp only[jx,h5] at g6';refine IA g0 g6' t1 t3 t4 t10 t11 t12 h5 hz z11 @aF e7 ?_;refine E.run (Hf (lit:=false) (c:=c) (x:=0) E F ω (fun h=>by cases h) _ ?_);rintro⟨n3,v3,ob3⟩ hn3 old3;have hn3':n3=n2+1:=hn3;have old3':∀j,j<n2 ->ob3.get j=ob2.get j:=old3;have i0:cG (ob3.get 0)=some (aL g):=by rw[old3' 0 ω];exact g0'
   have i0':=i0;simp only[aL] at i0;have i6:cG (ob3.get n1)=some (jx f):=by rw[old3' n1 ω];simp only[jx,h5];exact g6'
   simp only[jx,h5] at i6;have i8:cG (ob3.get (n1+1))=some [.i .i64 0,.i .i64 (f.par:Int),.i .i64 (f.at_:Int),.i .i64 (f.child:Int),.i .i64 (f.left:Int),.i .i64 0,.sn,.sn,.i .i64 0]:=by rw[old3' (n1+1) ω];exact g8'
   refine IA i0 i6 t1 t3 t4 t10 t11 t12 h5 hz z11 @aF e7 ?_;refine E.run (SI (c:=c) E F _ ?_);rintro⟨n4,v4,ob4⟩ hn4 old4;have hn4':n4=n3+1:=hn4;have old4':∀j,j<n3 ->ob4.get j=ob3.get j:=old4;have j0:cG (ob4.get 0)=some (aL g):=by rw[old4' 0 ω];exact i0'
   have j8:cG (ob4.get (n1+1))=some [.i .i64 0,.i .i64 (f.par:Int),.i .i64 (f.at_:Int),.i .i64 (f.child:Int),.i .i64 (f.left:Int),.i .i64 0,.sn,.sn,.i .i64 0]:=by rw[old4' (n1+1) ω];exact i8
   refine IA j8 t1 t3 t4 t10 t11 t12 h1 h2 h3 h4 c5 @ar ?_;refine ih _ _ ⟨j0,by show 1<=n4;omega,?_,?_,?_,?_,?_,?_⟩;all_goals exact U5 t1 t3 t4 t10 t11
 ·rintro τ ⟨n1,ver,ob⟩ ⟨d0,hn,t1,t3,t4,t10,t11,t12⟩;refine Y6 t1 t3 t4 t10 t11 t12 ?_;exact⟨1,rfl⟩
 ·exact U1 @aL.eq_1
 ·exact bK _
 all_goals exact U0
set_option maxHeartbeats 2000000 in
def Hg (S:aw P X GL fns) (A:bh P X GL) (F:jJ fns) (hg:GL=SE) {g:Gr} (G:cM g) (h:AH):dq P X GL 98 [b9 g] h (ι 0) h:=by
 refine ez S (fun n h=>rfl) ?_ h;refine aZ.intro fun C E=> ?_
 have d0:∀h,dq P X GL 168 [.ag (aL g)] h (.b false) h:=fun h=>Hd S F G h
 have d1:∀h,dq P X GL 169 [.ag (aL g)] h (ι 0) h:=fun h=>Ev S A F G h
 have d2:∀h,dq P X GL 170 [.ag (aL g)] h (ι 0) h:=fun h=>Ew S A F hg G h
 have d3:∀h,dq P X GL 171 [.ag (aL g)] h (ι 0) h:=fun h=>Cw S F G h
 have d4:∀h,dq P X GL 172 [.ag (aL g)] h (ι 0) h:=fun h=>He S A F G h
 have d5:∀h,dq P X GL 173 [.ag (aL g)] h (ι 0) h:=fun h=>Ez S A F G h
 have d6:∀h,dq P X GL 174 [.ag (aL g)] h (ι 0) h:=fun h=>Cz S A F G h
 have all:∀(i:Nat),i<6 ->∀h,dq P X GL (169+i) [.ag (aL g)] h (ι 0) h:=by
  intro i hi h;rcases(show i=0∨i=1∨i=2∨i=3∨i=4∨i=5 by omega) with rfl|rfl|rfl|rfl|rfl|rfl
  ·exact d1 h
  ·exact d2 h
  ·exact d3 h
  ·exact d4 h
  ·exact d5 h
  ·exact d6 h
 have z6:((6:Nat):Int)=6:=rfl;have fs:∀(i:Nat),i<6 ->sub [AV.f 169 [] [],.f 170 [] [],.f 171 [] [],.f 172 [] [],.f 173 [] [],.f 174 [] []] i 1=some [.f (169+i) [] []]:=by
  intro i hi;rcases(show i=0∨i=1∨i=2∨i=3∨i=4∨i=5 by omega) with rfl|rfl|rfl|rfl|rfl|rfl<;>rfl
 rw[aA E.ok (E.get F.f98)];simp only[aL] at d0;refine Y5 @ab3.eq_1 @b9.eq_1 @aL.eq_1 @h0.eq_1 z6 ?_;refine E.con (d0 _) ?_;refine Y1 z6 ?_;refine aX E.ok 6 (fun i τ h=>cG (h.objs.get 0)=some (aL g)/\ cG (h.objs.get 1)=some [AV.f 169 [] [],.f 170 [] [],.f 171 [] [],.f 172 [] [],.f 173 [] [],.f 174 [] []]/\ τ.get 1=some (.p 0 0)/\ τ.get 10=some (.sl 1 0 6 (some 6) 1)/\ τ.get 11=some (ι 6)/\ τ.get 12=some (ι (i:Int))) ?_ ?_ _ _ ⟨?_,?_,?_,?_,?_,?_⟩
 ·rintro i τ ⟨n1,ver,ob⟩ hi ⟨c0,c1,t1,t10,t11,t12⟩ ih;have c0':=c0;simp only[aL] at c0;dsimp only at c1;have hi':((i:Int)<6)=True:=eq_true ω;have f1:=fs i hi;have a1:=all i hi;simp only[aL] at a1;refine Y8 c0 c1 t1 t10 t11 t12 hi' f1 ?_;refine E.con (a1 _) ?_;refine Y7 c0 c1 t1 t10 t11 t12 @ar ?_;refine ih _ _ ⟨c0',c1,?_,?_,?_,?_⟩<;>exact U3 t1 t10 t11
 ·rintro τ ⟨n1,ver,ob⟩ ⟨c0,c1,t1,t10,t11,t12⟩;refine Y5 t1 t10 t11 t12 z6 ?_;exact⟨1,rfl⟩
 ·exact U1 @aL.eq_1
 all_goals exact U0
end
end
end AM
