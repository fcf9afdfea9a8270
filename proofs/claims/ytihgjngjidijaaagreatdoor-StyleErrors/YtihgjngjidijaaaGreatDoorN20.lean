import Derived.Test.YtihgjngjidijaaaGreatDoorN19
set_option linter.all false
set_option maxHeartbeats 4000000
namespace AM
open Dg Go
noncomputable section
def m3 (h:AH):AV ->AV ->AV ->ay
 | .i .i64 a,.i .i64 b,.i .i64 c=> .v (ι (max (max a b) c)) h
 | .i k a,y,z=>dr h (jy (λx y=>fD y x) k [y,z] a)
 |_,_,_=> .bad
def aR8 {ev:MA ->AV} {h:AH} {x y z:MA}:step ev h (.max [x,y,z])=m3 h (ev x) (ev y) (ev z):=by
 have hs:step ev h (.max [x,y,z])=(match eE ev [x,y,z] with|some (.i k a::r)=>dr h (jy (λx y=>fD y x) k r a)|_=> .bad):=rfl;have hm:∀(p q r:Int),jy (λx y=>fD y x) .i64 [ι q,ι r] p=(bif fD p q then (bif fD q r then some (ι r) else some (ι q)) else (bif fD p r then some (ι r) else some (ι p))):=λp q r=>rfl;rw[hs];simp only[wC,wy,qH];cases ev x<;>try rfl
 rename_i k a;cases ev y<;>cases k<;>try rfl
 rename_i k' b;cases k'<;>try rfl
 cases ev z<;>try rfl
 rename_i k' c;cases k'<;>try rfl
 dsimp only;rw[hm,mI,mI,mI,rM,rM,rM];simp only[m3];have q:∀x y:Int,x=y ->dr h (some (ι x))= .v (ι y) h:=λx y e=>by rw[e];rfl
 by_cases h1:a<b
 ·rw[aF h1];by_cases h2:b<c
  ·rw[aF h2];exact q _ _ ω
  ·rw[aD h2];exact q _ _ ω
 ·rw[aD h1];by_cases h2:a<c
  ·rw[aF h2];exact q _ _ ω
  ·rw[aD h2];exact q _ _ ω
def aR9 {h:AH} {a b c:Int}:m3 h (ι a) (ι b) (ι c)= .v (ι (max (max a b) c)) h:=rfl
variable {P:Program} {X:aR} {GL:T (List AV)} {ae:T au}
structure sK (h:AH) (c o:Nat) (L:List (List Nat)):Prop where
 cc:cG (h.oB.get c)=some [.m o]
 mm:mG (h.oB.get o)=some (di AV.s AV.b 0 (L.map λs=>(s,true)),(L.map λs=>(s,true)).length)
 ne:c≠o
 lt:o<h.next/\ c<h.next
def S9 {s:List Nat}:∀{L:List (List Nat)},look s (L.map λs=>(s,true))=if s∈L then some true else none
 |[]=>rfl
 |a::L=>by
  simp only[jY,look,S9 (L:=L),ed];by_cases e:s=a<;>simp[e]
variable (S:aT P X GL ae) {C:aK Prop} (E:Sem P X GL ae C)
def EF (F:gn ae) {h:AH} (k:AV ->AH ->Prop)
 (hk:∀h',h'.next=h.next+2 ->(∀j,j<h.next ->h'.oB.get j=h.oB.get j) ->sK h' (h.next+1) h.next [[]] ->k (.f 409 [] [.p (h.next+1) 0]) h'):du C 285 [] h k:=by
 obtain⟨m,ver,ob⟩:=h;have mu:∀aA ob' (τ:T AV),mG (T.get ob' m)=some ([],0) ->az C τ (.t 2)= .m m ->
  step (az C τ) ⟨m+1,aA,ob'⟩ (.mupd (.lf .s) (.t 2) (.c (.s [])) (.c (.b true)))= .v .un ⟨m+1,aA+1,ob'.put m (.map (aA+1) (di AV.s AV.b 0 [([],true)]) 1)⟩:=
  λaA ob' τ q1 q2=>mL (k:=[]) (v:=true) (en:=AV.b) (l:=[]) Hc (h:=⟨m+1,aA,ob'⟩) (fT.2 q1) q2 rfl rfl
 refine E.bS F.f285 (Z2 @RK.eq_1 mu ?_);refine hk _ (by rfl) (λj hj=> ?_) ⟨?_,?_,by show m+1≠m;omega,⟨by show m<m+2;omega,by show m+1<m+2;omega⟩⟩
 ·have bF:j<m:=hj;exact U0
 ·exact U0
 ·exact U0
def EG (F:gn ae) {h:AH} {c o:Nat} {L:List (List Nat)} {s:List Nat} (nm:sK h c o L) (hs:s∉L) (k:AV ->AH ->Prop)
 (hk:∀h',h'.next=h.next ->(∀j,j≠o ->h'.oB.get j=h.oB.get j) ->sK h' c o (L++[s]) ->k (.b true) h'):du C 409 [.s s,.p c 0] h k:=by
 obtain⟨m,ver,ob⟩:=h;have hc:=nm.cc;have hm:=nm.mm;have dc:=nm.ne;have aV:=nm.lt;dsimp only at hc hm;have hl:look s (L.map λs=>(s,true))=none:=by rw[S9,aD hs]
 have lk:∀aA ob' (τ:T AV),mG (T.get ob' o)=some (di AV.s AV.b 0 (L.map λs=>(s,true)),(L.map λs=>(s,true)).length) ->az C τ (.t 4)= .m o ->az C τ (.t 5)= .s s ->
  step (az C τ) ⟨m,aA,ob'⟩ (.look (.lf .s) (.t 4) (.t 5) (.b false) false)= .v (.b false) ⟨m,aA,ob'⟩:=λaA ob' τ q1 q2 q3=>by
  have:=sd (k:=s) (z:= .b false) (en:=AV.b) Hc (h:=⟨m,aA,ob'⟩) (fT.2 q1) q2 q3;rw[hl] at this;exact this
 have mu:∀aA ob' (τ:T AV),mG (T.get ob' o)=some (di AV.s AV.b 0 (L.map λs=>(s,true)),(L.map λs=>(s,true)).length) ->az C τ (.t 7)= .m o ->az C τ (.t 8)= .s s ->
  step (az C τ) ⟨m,aA,ob'⟩ (.mupd (.lf .s) (.t 7) (.t 8) (.c (.b true)))= .v .un ⟨m,aA+1,ob'.put o (.map (aA+1) (di AV.s AV.b 0 (ups s true (L.map λs=>(s,true)))) (ups s true (L.map λs=>(s,true))).length)⟩:=
  λaA ob' τ q1 q2 q3=>mL (k:=s) (v:=true) (en:=AV.b) Hc (h:=⟨m,aA,ob'⟩) (fT.2 q1) q2 q3 rfl
 have hu:ups s true (L.map λs=>(s,true))=(L++[s]).map λs=>(s,true):=by rw[yg hl,kE];rfl
 rw[hu] at mu;refine E.bS F.f409 (Z5 @RM.eq_1 hc lk mu hm ?_);exact hk _ rfl (λj hj=>U0) ⟨(W0 hc),U0,dc,aV⟩
def aS0 (F:gn ae) {L:List Pr} {nl:Bool} {f:Nat} {ca:List AV} (hl:L.length<=1000) (I:AH ->Prop) {h:AH} (hI:I h) (hf:∀p∈L,∀h',I h' ->∀k',(∀h'',I h'' ->k' (.b false) h'') ->hM C f (.ag (aM p)::ca) h' k') (k:AV ->AH ->Prop) (hk:∀h',I h' ->k (.b false) h'):
 du C 283 [eR aM 13 nl L,.f f [] ca] h k:=by
 refine E.bS F.f283 (Y1 @RG.eq_1 ?_);refine E.run ?_;refine E.bS F.f408 (Y1 @RI.eq_1 ?_);refine fj E.ok L.length (λi τ h=>I h/\ τ.get 0=some (eR aM 13 nl L)/\ τ.get 1=some (.f f [] ca)/\ τ.get 7=some (ι (L.length:Int))/\ τ.get 8=some (ι (i:Int))) ?_ ?_ _ _ ⟨hI,?_,?_,?_,?_⟩
 ·rintro i τ h' hi ⟨hI',t0,t1,t7,t8⟩ ih;have hli:L[i]? =some L[i]:=cE hi;generalize hp:L[i]=p at hli;have e13:sub (L.flatMap aM) (i*13) 13=some (aM p):=cW kr hli (j:=0) (n:=13) ω;refine Y6 t0 t1 t7 t8 @bG e13 ?_;refine hf p (dI hli) h' hI' _ λh'' hI''=> ?_;refine Y5 t0 t1 t7 t8 @bK ?_;refine ih _ _ ⟨hI'',?_,?_,?_,?_⟩<;>exact U3 t0 t1 t7
 ·rintro τ h' ⟨hI',t0,t1,t7,t8⟩;refine Y4 t0 t1 t7 t8 ?_;exact hk h' hI'
 all_goals exact U0
def aS1 (F:gn ae) {L:List (Bool×Nat)} {nl:Bool} {f:Nat} {ca:List AV} (hl:L.length<=1000) (I:AH ->Prop) {h:AH} (hI:I h) (hf:∀p∈L,∀h',I h' ->∀k',(∀h'',I h'' ->k' (.b false) h'') ->hM C f (.ag (ba p)::ca) h' k') (k:AV ->AH ->Prop) (hk:∀h',I h' ->k (.b false) h'):
 du C 290 [eR ba 2 nl L,.f f [] ca] h k:=by
 refine E.bS F.f290 (Y1 @RR.eq_1 ?_);refine E.run ?_;refine E.bS F.f412 (Y1 @RT.eq_1 ?_);refine fj E.ok L.length (λi τ h=>I h/\ τ.get 0=some (eR ba 2 nl L)/\ τ.get 1=some (.f f [] ca)/\ τ.get 7=some (ι (L.length:Int))/\ τ.get 8=some (ι (i:Int))) ?_ ?_ _ _ ⟨hI,?_,?_,?_,?_⟩
 ·rintro i τ h' hi ⟨hI',t0,t1,t7,t8⟩ ih;have hli:L[i]? =some L[i]:=cE hi;generalize hp:L[i]=p at hli;have e13:sub (L.flatMap ba) (i*2) 2=some (ba p):=cW gO hli (j:=0) (n:=2) ω;refine Y6 t0 t1 t7 t8 @bG e13 ?_;refine hf p (dI hli) h' hI' _ λh'' hI''=> ?_;refine Y5 t0 t1 t7 t8 @bK ?_;refine ih _ _ ⟨hI'',?_,?_,?_,?_⟩<;>exact U3 t0 t1 t7
 ·rintro τ h' ⟨hI',t0,t1,t7,t8⟩;refine Y4 t0 t1 t7 t8 ?_;exact hk h' hI'
 all_goals exact U0
def vd:T au:=(T.put (T.put (T.put (T.put (T.put (T.put (T.put (T.put (T.put (T.put (T.put (T.put (T.put (T.put (T.put (T.put (T.put (T.put (T.put (T.put (T.put .e 286 I5) 287 I6) 410 I7) 491 I8) 411 I9) 185 Jd) 297 Je) 298 Jf) 186 Jg) 299 Ji) 301 Jj) 300 Jk) 302 Jl) 303 Jm) 304 Jn) 187 Jo) 305 Jp) 306 Jq) 188 Jr) 96 Js) 415 Jt)
def aS2:vd=(T.put (T.put (T.put (T.put (T.put (T.put (T.put (T.put (T.put (T.put (T.put (T.put (T.put (T.put (T.put (T.put (T.put (T.put (T.put (T.put (T.put .e 286 I5) 287 I6) 410 I7) 491 I8) 411 I9) 185 Jd) 297 Je) 298 Jf) 186 Jg) 299 Ji) 301 Jj) 300 Jk) 302 Jl) 303 Jm) 304 Jn) 187 Jo) 305 Jp) 306 Jq) 188 Jr) 96 Js) 415 Jt):=rfl
def EH {ae:T au} (FHasC:gn ae):∀f m,vd.get f=some m ->ae.get f=some m:=by
 rw[aS2];exact(gk (gk (gk (gk (gk (gk (gk (gk (gk (gk (gk (gk (gk (gk (gk (gk (gk (gk (gk (gk (gk AF FHasC.f286) FHasC.f287) FHasC.f410) FHasC.f491) FHasC.f411) FHasC.f185) FHasC.f297) FHasC.f298) FHasC.f186) FHasC.f299) FHasC.f301) FHasC.f300) FHasC.f302) FHasC.f303) FHasC.f304) FHasC.f187) FHasC.f305) FHasC.f306) FHasC.f188) FHasC.f96) FHasC.f415)
def mU:T (List AV):= .n (.n .e (some [.i .u8 0,.i .u8 1,.i .u8 56,.i .u8 2,.i .u8 57,.i .u8 49,.i .u8 28,.i .u8 3,.i .u8 61,.i .u8 58,.i .u8 42,.i .u8 50,.i .u8 38,.i .u8 29,.i .u8 17,.i .u8 4,.i .u8 62,.i .u8 47,.i .u8 59,.i .u8 36,.i .u8 45,.i .u8 43,.i .u8 51,.i .u8 22,.i .u8 53,.i .u8 39,.i .u8 33,.i .u8 30,.i .u8 24,.i .u8 18,.i .u8 12,.i .u8 5,.i .u8 63,.i .u8 55,.i .u8 48,.i .u8 27,.i .u8 60,.i .u8 41,.i .u8 37,.i .u8 16,.i .u8 46,.i .u8 35,.i .u8 44,.i .u8 21,.i .u8 52,.i .u8 32,.i .u8 23,.i .u8 11,.i .u8 54,.i .u8 26,.i .u8 40,.i .u8 15,.i .u8 34,.i .u8 20,.i .u8 31,.i .u8 10,.i .u8 25,.i .u8 14,.i .u8 19,.i .u8 9,.i .u8 13,.i .u8 8,.i .u8 7,.i .u8 6]) .e) none .e
def Kf (t:Tr) (f:Nat) (a:List AV):Option AV:=bif Nat.beq f 95 then (match a with
 |[x]=>bif cZ 64 x (eT t) then some (ι 0) else none
 |_=>none) else none
def tT (GL:T (List AV)) (n:Nat) (t:Tr):Bool:=bif jq n t then gM GL vd (Kf t) 100000 287 [eT t,ι (.ofNat n)] (.b true) else true
def hI (GL:T (List AV)):(List.range 3).all (λi=>gM GL vd (λ_ _=>none) 100000 286 [.s [65+i]] (.b true))=true:=af
def hP0 (GL:T (List AV)):gM GL vd (λ_ _=>none) 100000 185 [eR iF 5 true (jg 0)] (ι 0)=true:=af
def hP9 (GL:T (List AV)):gM GL vd (λ_ _=>none) 100000 185 [eR iF 5 true (jg 9)] (ι 0)=true:=af
def aS3 (GL:T (List AV)):gM GL vd (λ_ _=>none) 100000 185 [eR iF 5 true (jg 10)] (ι 0)=true:=af
def hM0:gM mU vd (λ_ _=>none) 100000 96 [eR iF 5 true (jg 0),.s [120]] (.b true)=true:=af
def hF0 (GL:T (List AV)):(iy 3).all (tT GL 0)=true:=af
def hF1 (GL:T (List AV)):(iy 3).all (tT GL 1)=true:=af
def hF2 (GL:T (List AV)):(iy 3).all (tT GL 2)=true:=af
def aS4 (GL:T (List AV)):(((iy 3).drop 0).take 64).all (tT GL 3)=true:=af
def aS5 (GL:T (List AV)):(((iy 3).drop 64).take 64).all (tT GL 3)=true:=af
def aS6 (GL:T (List AV)):(((iy 3).drop 128).take 64).all (tT GL 3)=true:=af
def aS7 (GL:T (List AV)):(((iy 3).drop 192).take 64).all (tT GL 3)=true:=af
def aS8 (A:dY P X GL) {t:Tr} (ht:cA 3 t=true):Dp P X GL (Kf t):=by
 intro f a v hk h;unfold Kf at hk;rw[bu,rM] at hk;split at hk
 ·rename_i hf;subst hf;split at hk
  ·rename_i x;cases hq:cZ 64 x (eT t) with
   |true=>rw[hq] at hk;cases hk;rw[tv _ _ _ hq];exact(A t ht).chk h
   |false=>rw[hq] at hk;cases hk
  ·cases hk
 ·cases hk
def aS9 (GL:T (List AV)) {n:Nat} (hn:n<=3):∀t∈iy 3,tT GL n t=true:=by
 rcases(show n=0∨n=1∨n=2∨n=3 by omega) with rfl|rfl|rfl|rfl
 ·exact λt ht=>fX.1 (hF0 GL) t ht
 ·exact λt ht=>fX.1 (hF1 GL) t ht
 ·exact λt ht=>fX.1 (hF2 GL) t ht
 ·have e:iy 3=((iy 3).drop 0).take 64++(((iy 3).drop 64).take 64++(((iy 3).drop 128).take 64++((iy 3).drop 192).take 64)):=af;intro t ht;rw[e] at ht;simp only[fO] at ht;rcases ht with h|h|h|h
  ·exact fX.1 (aS4 GL) t h
  ·exact fX.1 (aS5 GL) t h
  ·exact fX.1 (aS6 GL) t h
  ·exact fX.1 (aS7 GL) t h
def Bw (A:dY P X GL) (F:gn ae) {n:Nat} {t:Tr} (hn:n<=3) (ht:sG n t) (h:AH):bP P X GL 287 [eT t,ι (n:Int)] h (.b true) h:=by
 refine dR S (n:=9) ?_ (by simp only[aL,jB,bZ,dH]) h;have:=aS9 GL hn t (ss ht.f);unfold tT at this;rw[ht.d] at this;exact hY (EH F) (aS8 A ht.f) this
def aT0 (F:gn ae) {i:Nat} (hi:i<3) (h:AH):bP P X GL 286 [.s [65+i]] h (.b true) h:=
 dR S (hY (EH F) iE (fX.1 (hI GL) i (mA.2 hi))) (n:=9) (by simp only[aL,bZ,oK]) h
def Kg (F:gn ae) {i:Nat} (hi:i=0∨i=9∨i=10) (h:AH):bP P X GL 185 [eR iF 5 true (jg i)] h (ι 0) h:=by
 refine dR S (hY (EH F) iE (n:=100000) ?_) (n:=9) (by simp only[aL,bZ,dA Eu]) h;rcases hi with rfl|rfl|rfl
 ·exact hP0 GL
 ·exact hP9 GL
 ·exact aS3 GL
def aT1 (F:gn ae) (hg:GL=mU) (h:AH):bP P X GL 96 [eR iF 5 true (jg 0),.s [120]] h (.b true) h:=
 dR S (hY (EH F) iE (by rw[hg];exact hM0)) (n:=9) (by simp only[aL,bZ,oK,dA Eu]) h
def aT2 (A:dY P X GL) (F:gn ae) {g:Gr} (G:ce g) (h:AH):bP P X GL 176 [aI g] h (ι 0) h:=by
 refine ku S (λn h=>rfl) ?_ h;refine bg.intro λC E=> ?_;have nc:=G.nc;have cl:(fz g.nc).length=g.nc:=by unfold fz;rw[jm];simp;omega
 have cf:∀h,bP P X GL 287 [.ag [cu (aE g.fam).1,ι ((aE g.fam).2:Int)],ι (g.nc:Int)] h (.b true) h:=λh=>Bw S A F nc G.fam h;have fr:(((aE g.fam).2:Int)=0)=False:=dQ (by have:=G.famr;omega);refine E.bS F.f176 (Y3 @RJ.eq_1 @aI.eq_1 @h0.eq_1 ?_);refine E.run (EF E F _ ?_);rintro⟨n1,v1,aQ⟩ dS dD nm1;have hn1':n1=3:=dS;subst hn1';have c0:cG (aQ.get 0)=some (ar g):=by rw[show aQ.get 0=_ from dD 0 (by show 0<1;omega)];exact U0
 have de:=c0;simp only[ar] at c0;refine Y2 c0 cl ?_;refine fj E.ok g.nc (λi τ h=>cG (h.oB.get 0)=some (ar g)/\ sK h 2 1 ([]::(fz g.nc).take i)/\ τ.get 1=some (.p 0 0)/\ τ.get 3=some (.f 409 [] [.p 2 0])/\ τ.get 8=some (eX (fz g.nc) (g.cx.map AV.s))/\ τ.get 9=some (ι (g.nc:Int))/\ τ.get 10=some (ι (i:Int))) ?_ ?_ _ _ ⟨de,nm1,?_,?_,?_,?_,?_⟩
 ·rintro i τ ⟨n2,v2,aJ⟩ hi ⟨d0,nm,t1,t3,t8,t9,t10⟩ ih;have hbi:=S6 hi nc;have es:=SA (ex:=g.cx.map AV.s) hbi;have ci:=λh=>aT0 S F (i:=i) ω h;have x1:(([65+i]:List Nat)=[116,114,117,101])=False:=dQ (by simp);have x2:(([65+i]:List Nat)=[102,97,108,115,101])=False:=dQ (by simp);have tk:=nY hbi;refine Y8 t1 t3 t8 t9 t10 cl @Sz es ?_;refine E.cN (ci _) (Y8 t1 t3 t8 t9 t10 cl x1 x2 ?_);refine E.run (EG E F nm ?_ _ ?_)
  ·intro hm;rcases ed.1 hm with h|h
   ·simp at h
   ·obtain⟨j,hj,he⟩:=sX.1 h;have bF:j<i:=by simp at hj;omega
    have h2:((fz g.nc).take i)[j]? =some [65+i]:=by rw[←he];exact cE hj
    rw[jZ,aF bF,S6 ω nc] at h2;simp at h2;omega
  rintro⟨n3,v3,cC⟩ hn3 old3 nm3;have e0:cG (cC.get 0)=some (ar g):=by rw[show cC.get 0=aJ.get 0 from old3 0 ω];exact d0
  refine Y6 t1 t3 t8 t9 t10 @bK ?_;refine ih _ _ ⟨e0,by rw[tk];exact nm3,?_,?_,?_,?_,?_⟩<;>exact U4 t1 t3 t8 t9
 ·rintro τ ⟨n2,v2,aJ⟩ ⟨d0,nm,t1,t3,t8,t9,t10⟩;simp only[ar] at d0;refine Y7 d0 t1 t3 t8 t9 t10 cl ?_;refine E.cN (cf _) (Y8 d0 t1 t3 t8 t9 t10 cl fr ?_);exact⟨1,rfl⟩
 all_goals exact U0
def aT3 (F:gn ae) {g:Gr} (G:ce g) (h:AH):bP P X GL 178 [aI g] h (ι 0) h:=by
 refine ku S (λn h=>rfl) ?_ h;refine bg.intro λC E=> ?_;have ntl:=G.ntl;refine E.bS F.f178 (Y3 @RO.eq_1 @aI.eq_1 @h0.eq_1 ?_);refine E.run (EF E F _ ?_);rintro⟨n1,v1,aQ⟩ dS dD nm1;have hn1':n1=3:=dS;subst hn1';have c0:cG (aQ.get 0)=some (ar g):=by rw[show aQ.get 0=_ from dD 0 (by show 0<1;omega)];exact U0
 have de:=c0;simp only[ar] at c0;refine Y1 c0 ?_;refine fj E.ok g.nT.length (λi τ h=>cG (h.oB.get 0)=some (ar g)/\ sK h 2 1 ([]::g.nT.take i)/\ τ.get 1=some (.p 0 0)/\ τ.get 3=some (.f 409 [] [.p 2 0])/\ τ.get 8=some (eX g.nT (g.nx.map AV.s))/\ τ.get 9=some (ι (g.nT.length:Int))/\ τ.get 10=some (ι (i:Int))) ?_ ?_ _ _ ⟨de,nm1,?_,?_,?_,?_,?_⟩
 ·rintro i τ ⟨n2,v2,aJ⟩ hi ⟨d0,nm,t1,t3,t8,t9,t10⟩ ih;have hbi:g.nT[i]? =some g.nT[i]:=cE hi;generalize hs:g.nT[i]=s at hbi;have es:=SA (ex:=g.nx.map AV.s) hbi;have tk:=nY hbi;refine Y7 t1 t3 t8 t9 t10 @Sz es ?_;refine E.run (EG E F nm ?_ _ ?_)
  ·intro hm;rcases ed.1 hm with h|h
   ·exact G.ntn _ (dI hbi) h
   ·obtain⟨j,hj,he⟩:=sX.1 h;have bF:j<i:=by simp at hj;omega
    have h2:(g.nT.take i)[j]? =some s:=by rw[←he];exact cE hj
    rw[jZ,aF bF] at h2;have:=G.ntd _ _ _ h2 hbi;omega
  rintro⟨n3,v3,cC⟩ hn3 old3 nm3;have e0:cG (cC.get 0)=some (ar g):=by rw[show cC.get 0=aJ.get 0 from old3 0 ω];exact d0
  refine Y6 t1 t3 t8 t9 t10 @bK ?_;refine ih _ _ ⟨e0,by rw[tk];exact nm3,?_,?_,?_,?_,?_⟩<;>exact U4 t1 t3 t8 t9
 ·rintro τ ⟨n2,v2,aJ⟩ ⟨d0,nm,t1,t3,t8,t9,t10⟩;simp only[ar] at d0;have s1:((g.st:Int)<0)=False:=av;have s2:((g.nT.length:Int)<=(g.st:Int))=False:=dQ (by have:=G.st;omega);refine Y8 d0 t1 t3 t8 t9 t10 s1 s2 ?_;exact⟨1,rfl⟩
 all_goals exact U0
def aT4 (F:gn ae) {g:Gr} (G:ce g) (h:AH):bP P X GL 175 [aI g] h (.b false) h:=by
 refine ku S (λn h=>rfl) ?_ h;refine bg.intro λC E=> ?_;have nc:=G.nc;have cl:(fz g.nc).length=g.nc:=by unfold fz;rw[jm];simp;omega
 have hz:g.tc.zipIdx.length=11:=by rw[ny,G.tcl]
 have ntl:=G.ntl;have pl:=G.pl;have ll:=G.ll;have fl:=G.fl;refine E.bS F.f175 (Y8 @RE.eq_1 @aI.eq_1 @ar.eq_1 @h0.eq_1 cl hz @aR8 @aR9 ?_);refine E.run (aS0 E F (L:=g.pR) (nl:=true) (f:=284) (ca:=[]) ω (λ_=>True) trivial ?_ _ ?_)
 ·intro p hp h' _ k' hk';have ok:=G.p p hp;have q1:=ok.len;have q2:=ok.layl;obtain⟨m,ver,ob⟩:=h';refine E.run ?_;refine E.bS F.f284 (Y3 @jP @RH.eq_1 @aM.eq_1 ?_);exact hk' _ trivial
 ·rintro h' _;refine Y0 ?_;exact⟨1,rfl⟩
def aT5:∀i,1<=i/\ i<=8 ->l7 i=0/\ jQ i≠[]/\ jg i=[]/\ wZ i=[]:=by
 intro i hi;rcases(show i=1∨i=2∨i=3∨i=4∨i=5∨i=6∨i=7∨i=8 by omega) with rfl|rfl|rfl|rfl|rfl|rfl|rfl|rfl<;>exact⟨rfl,by simp[jQ,kj],rfl,rfl⟩
def aT6 (A:dY P X GL) (F:gn ae) (hg:GL=mU) {g:Gr} (G:ce g) (h:AH):bP P X GL 177 [aI g] h (ι 0) h:=by
 refine ku S (λn h=>rfl) ?_ h;refine bg.intro λC E=> ?_;have nc:=G.nc;have cl:(fz g.nc).length=g.nc:=by unfold fz;rw[jm];simp;omega
 have tl:=G.tcl;have hz:g.tc.zipIdx.length=11:=by rw[ny,tl]
 have z11:((11:Nat):Int)=11:=rfl;refine E.bS F.f177 (Y3 @RN.eq_1 @aI.eq_1 @h0.eq_1 ?_);refine E.run (EF E F _ ?_);rintro⟨n1,v1,aQ⟩ dS dD nm1;have hn1':n1=3:=dS;subst hn1';have c0:cG (aQ.get 0)=some (ar g):=by rw[show aQ.get 0=_ from dD 0 (by show 0<1;omega)];exact U0
 have de:=c0;simp only[ar] at c0;refine Y3 c0 hz z11 ?_;refine fj E.ok 11 (λi τ h=>3<=h.next/\ cG (h.oB.get 0)=some (ar g)/\ sK h 2 1 ([]::(List.range i).map kj)/\ τ.get 1=some (.p 0 0)/\ τ.get 3=some (.f 409 [] [.p 2 0])/\ τ.get 9=some (eR dq 7 true g.tc.zipIdx)/\ τ.get 10=some (ι 11)/\ τ.get 11=some (ι (i:Int))) ?_ ?_ _ _ ⟨by show 3<=3;omega,de,nm1,?_,?_,?_,?_,?_⟩
 ·rintro i τ ⟨n2,v2,aJ⟩ hi ⟨hn2,d0,nm,t1,t3,t9,t10,bH⟩ ih;have hn2':3<=n2:=hn2;obtain⟨c,hc1,hc2⟩:=re (g:=g) tl (i:=i) hi;have ft:=G.tc c (dI hc1);have e7:sub (g.tc.zipIdx.flatMap dq) (i*7) 7=some (dq (c,i)):=cW qx hc2 (j:=0) (n:=7) ω;simp only[dq] at e7;have cf:∀h,bP P X GL 287 [.ag [cu (aE c).1,ι ((aE c).2:Int)],ι (g.nc:Int)] h (.b true) h:=λh=>Bw S A F nc ft h;have hi':((i:Int)<11)=True:=cJ;have tk:(List.range (i+1)).map kj=(List.range i).map kj++[kj i]:=by rw[zD,kE];rfl
  have d0':=d0;simp only[ar] at d0;have nm':sK ⟨n2+1,v2+1,(aJ.put n2 (.cells v2 [.s [],ι 0,.s [],.sn,.s [],.sn,ι 0])).put n2 (.cells (v2+1) (dq (c,i)))⟩ 2 1 ([]::(List.range i).map kj):=
   ⟨by have:=nm.cc;exact W0 this,by have:=nm.mm;exact W0 this,nm.ne,by have h1:=nm.lt.1;have h2:=nm.lt.2;exact⟨by show 1<n2+1;omega,by show 2<n2+1;omega⟩⟩
  simp only[dq] at nm';refine nS d0 t1 t3 t9 t10 bH @bG hz e7 hi' ?_;refine E.run (EG E F nm' ?_ _ ?_)
  ·intro hm;rcases ed.1 hm with h|h
   ·exact aP6 i h
   ·obtain⟨j,hj,he⟩:=sV.1 h;have bF:=mA.1 hj;have:=aP5 j i ω hi he;omega
  rintro⟨n3,v3,cC⟩ hn3 old3 nm3;have hn3':n3=n2+1:=hn3;have iN:∀j,j≠1 ->cC.get j=_:=old3;have f0:cG (cC.get 0)=some (ar g):=by rw[iN 0 ω];exact W0 d0'
  have f0':=f0;simp only[ar] at f0;have f5:cG (cC.get n2)=some (dq (c,i)):=by rw[iN n2 ω];exact U1 @dq.eq_1
  simp only[dq] at f5;have fin:∀(τ':T AV),τ'.get 1=some (.p 0 0) ->τ'.get 3=some (.f 409 [] [.p 2 0]) ->τ'.get 9=some (eR dq 7 true g.tc.zipIdx) ->τ'.get 10=some (ι 11) ->τ'.get 11=some (ι ((i+1:Nat):Int)) ->(3<=n3/\ cG (cC.get 0)=some (ar g)/\ sK ⟨n3,v3,cC⟩ 2 1 ([]::(List.range (i+1)).map kj)/\ τ'.get 1=some (.p 0 0)/\ τ'.get 3=some (.f 409 [] [.p 2 0])/\ τ'.get 9=some (eR dq 7 true g.tc.zipIdx)/\ τ'.get 10=some (ι 11)/\ τ'.get 11=some (ι ((i+1:Nat):Int))):=
   λτ' a1 a3 a9 a10 a11=>⟨by omega,f0',by rw[tk];exact nm3,a1,a3,a9,a10,a11⟩
  rcases(show i=0∨(1<=i/\ i<=8)∨i=9∨i=10 by omega) with rfl|h8|rfl|rfl
  ·have k0:((l7 0:Nat):Int)=0:=rfl;have l0:jQ 0=[]:=rfl;have s0:(([120]:List Nat)=[])=False:=dQ (by simp);have s1:wZ 0=[120]:=rfl;refine iU f0 f5 t1 t3 t9 t10 bH k0 l0 s0 s1 cl ?_;refine E.cN (cf _) (iU f0 f5 t1 t3 t9 t10 bH k0 l0 s0 s1 cl ?_);refine E.cN (Kg S F (.inl rfl) _) (iU f0 f5 t1 t3 t9 t10 bH k0 l0 s0 s1 cl ?_);refine E.cN (aT1 S F hg _) (iU f0 f5 t1 t3 t9 t10 bH k0 l0 s0 s1 cl ?_);refine ih _ _ (fin _ ?_ ?_ ?_ ?_ ?_)<;>simp only[T.get_put,Nat.reduceEqDiff,reduceIte,t1,t3,t9,t10];rfl
  ·obtain⟨k1,k2,k3,k4⟩:=aT5 i h8;have k0:((l7 i:Nat):Int)=0:=by rw[k1];rfl
   have k2':(jQ i=[])=False:=dQ k2;refine iU f0 f5 t1 t3 t9 t10 bH k0 k2' k3 k4 cl ?_;refine E.cN (cf _) (pm f0 f5 t1 t3 t9 t10 bH k0 k2' k3 k4 cl @bK ?_);refine ih _ _ (fin _ ?_ ?_ ?_ ?_ ?_)<;>exact U4 t1 t3 t9 t10
  ·have k0:((l7 9:Nat):Int)=1:=rfl;have l0:jQ 9=[]:=rfl;have s1:wZ 9=[]:=rfl;have a9:aY .add (ι ((9:Nat):Int)) (ι 1)=some (ι ((9+1:Nat):Int)):=rfl;refine jC f0 f5 t1 t3 t9 t10 bH k0 l0 s1 cl ?_;refine E.cN (cf _) (jC f0 f5 t1 t3 t9 t10 bH k0 l0 s1 cl ?_);refine E.cN (Kg S F (.inr (.inl rfl)) _) (iU f0 f5 t1 t3 t9 t10 bH k0 l0 s1 cl a9 ?_);refine ih _ _ (fin _ ?_ ?_ ?_ ?_ ?_)<;>exact U4 t1 t3 t9 t10
  ·have k0:((l7 10:Nat):Int)=2:=rfl;have l0:jQ 10=[]:=rfl;have s1:wZ 10=[]:=rfl;have a9:aY .add (ι ((10:Nat):Int)) (ι 1)=some (ι ((10+1:Nat):Int)):=rfl;refine jC f0 f5 t1 t3 t9 t10 bH k0 l0 s1 cl ?_;refine E.cN (cf _) (jC f0 f5 t1 t3 t9 t10 bH k0 l0 s1 cl ?_);refine E.cN (Kg S F (.inr (.inr rfl)) _) (iU f0 f5 t1 t3 t9 t10 bH k0 l0 s1 cl a9 ?_);refine ih _ _ (fin _ ?_ ?_ ?_ ?_ ?_)<;>exact U4 t1 t3 t9 t10
 ·rintro τ ⟨n2,v2,aJ⟩ ⟨hn2,d0,nm,t1,t3,t9,t10,bH⟩;refine Y6 t1 t3 t9 t10 bH z11 ?_;exact⟨1,rfl⟩
 all_goals exact U0
def aT7 (F:gn ae) {g:Gr} (G:ce g) {s:Bool×Nat} (hs:(s.1=true/\ s.2<9)∨(s.1=false/\ s.2<g.nT.length)) (h:AH):bP P X GL 289 [aI g,.ag (ba s)] h (.b true) h:=by
 refine ku S (λn h=>by simp only[aL,bZ,nX (yX s)]) ?_ h;refine bg.intro λC E=> ?_;have ntl:=G.ntl;have tl:=G.tcl;have hz:g.tc.zipIdx.length=11:=by rw[ny,tl]
 have z11:((11:Nat):Int)=11:=rfl;rw[E.cB F.f289];rcases hs with ⟨h1,h2⟩|⟨h1,h2⟩
 ·obtain⟨c,_,hz2⟩:=re (g:=g) tl (i:=s.2) ω;have e7:sub (g.tc.zipIdx.flatMap dq) (s.2*7+1) 1=some [ι 0]:=by
   have:=cW qx hz2 (j:=1) (n:=1) ω;simpa[dq,JZ h2] using this
  have aV:((s.2:Int)<11)=True:=cJ;refine jC @Ja.eq_1 @aI.eq_1 @ar.eq_1 @ba.eq_1 @h0.eq_1 h1 hz z11 @bG e7 aV ?_;exact⟨1,rfl⟩
 ·refine Y6 @Ja.eq_1 @aI.eq_1 @ar.eq_1 @ba.eq_1 @h0.eq_1 h1 ?_;exact⟨1,rfl⟩
def Ta (F:gn ae) {p:Pr} {kk v lo hi:Nat} (hk:Bu p kk v lo hi) (hl:p.right.length<=8) {h:AH} {q:Nat} (hq:cG (h.oB.get q)=some (aM p)) (k:AV ->AH ->Prop) (hk':k (.b true) h):
 du C 414 [ι (kk:Int),ι (v:Int),ι (lo:Int),ι (hi:Int),.p q 0] h k:=by
 obtain⟨m,ver,ob⟩:=h;dsimp only at hq;simp only[aM] at hq;rw[E.cB F.f414];rcases hk with ⟨h1,h2⟩|⟨h1,⟨j,hj⟩,h3,h4⟩
 ·subst h1;subst h2;refine Y1 @Jb.eq_1 ?_;exact hk'
 ·have aV:=(eC.1 hj).1;have e1:aY .sub (ι (kk:Int)) (ι 1)=some (ι ((kk-1:Nat):Int)):=qV (b:=1) ω;have e2:sub (p.right.flatMap ba) ((kk-1)*2) 1=some [.b true]:=by
   have:=cW gO hj (j:=0) (n:=1) ω;simpa[ba] using this
  refine Y5 @Jb.eq_1 hq @bG e1 e2 ?_;exact hk'
def aT8 (F:gn ae) {nc nt:Nat} {p:Pr} (ok:sH nc nt p) (h:AH):bP P X GL 291 [.ag (aM p)] h (.b true) h:=by
 refine ST S (λn h=>rfl) ?_ h;refine bg.intro λC E=> ?_;have hll:=ok.layl;have hlr:=ok.len;refine E.bS F.f291 (Y3 @RU.eq_1 @aM.eq_1 @h0.eq_1 ?_);refine fj E.ok p.lay.length (λi τ h=>1<=h.next/\ cG (h.oB.get 0)=some (aM p)/\ τ.get 1=some (.p 0 0)/\ τ.get 9=some (eR gH 3 p.ln p.lay)/\ τ.get 10=some (ι (p.lay.length:Int))/\ τ.get 11=some (ι (i:Int))) ?_ ?_ _ _ ⟨bB _,?_,?_,?_,?_,?_⟩
 ·rintro i τ ⟨n1,ver,ob⟩ hi ⟨hn,c0,t1,t9,t10,bH⟩ ih;have hn':1<=n1:=hn;have hbi:p.lay[i]? =some p.lay[i]:=cE hi;generalize hc:p.lay[i]=c at hbi;have e0:sub (p.lay.flatMap gH) (i*3) 3=some [ι (c.1:Int),ι (c.2.1:Int),ι (c.2.2:Int)]:=cW aO3 hbi (j:=0) (n:=3) ω;obtain⟨l1,l2,l3,l4,l5⟩:=ok.lay _ (dI hbi);have de:=c0;simp only[aM] at c0;have run21:∀(x:Nat) (ob':T bC) (n' v':Nat) (k':AV ->AH ->Prop),x<p.right.length ->cG (ob'.get 0)=some (aM p) ->k' (.b true) ⟨n',v',ob'⟩ ->hM C 413 [ι (x:Int),.p 0 0] ⟨n',v',ob'⟩ k':=by
   intro x ob' n' v' k' hx hc hk;simp only[aM] at hc;refine E.run ?_;refine E.bS F.f413 (Y2 @RV.eq_1 hc ?_);exact hk
  have frame:∀ob',ob'=(ob.put n1 (.cells ver [ι 0,ι 0,ι 0])).put n1 (.cells (ver+1) [ι (c.1:Int),ι (c.2.1:Int),ι (c.2.2:Int)]) ->cG (T.get ob' 0)=some (aM p):=by
   rintro ob' rfl;exact W0 de
  by_cases k1:c.1=1
  ·have k2:=l5 k1;refine Y7 c0 t1 t9 t10 bH @bG e0 ?_;refine run21 _ _ _ _ _ l3 (frame _ rfl) ?_;refine Y5 c0 t1 t9 t10 bH ?_;refine run21 _ _ _ _ _ l4 (frame _ rfl) ?_;refine Y6 c0 t1 t9 t10 bH @bK ?_;refine ih _ _ ⟨by show 1<=n1+1;omega,frame _ rfl,?_,?_,?_,?_⟩<;>exact U3 t1 t9 t10
  ·refine Y7 c0 t1 t9 t10 bH @bG e0 ?_;refine run21 _ _ _ _ _ l3 (frame _ rfl) ?_;refine Y5 c0 t1 t9 t10 bH ?_;refine run21 _ _ _ _ _ l4 (frame _ rfl) ?_;refine Y6 c0 t1 t9 t10 bH @bK ?_;refine ih _ _ ⟨by show 1<=n1+1;omega,frame _ rfl,?_,?_,?_,?_⟩<;>exact U3 t1 t9 t10
 ·rintro τ ⟨n1,ver,ob⟩ ⟨hn,c0,t1,t9,t10,bH⟩;have hn':1<=n1:=hn;have de:=c0;simp only[aM] at c0;refine Y5 c0 t1 t9 t10 bH ?_;refine E.run (Ta (lo:=1) (hi:=7) E F ok.dec hlr ?_ _ ?_)
  ·exact W0 de
  refine Y5 c0 t1 t9 t10 bH ?_;refine E.run (Ta (lo:=0) (hi:=255) E F ok.uses hlr ?_ _ ?_)
  ·exact W0 de
  cases hbr:p.br with
  |false=>
   refine Y6 c0 hbr t1 t9 t10 bH ?_;exact⟨1,rfl⟩
  |true=>
   obtain⟨b1,b2,b3,b4,b5,b6,b7,i,j,hr⟩:=ok.br hbr;have c3:((p.right.length:Nat):Int)=3:=by rw[hr];rfl
   have g3:p.right.length=3:=by rw[hr];rfl
   have g0:p.right[0]? =some (true,i):=by rw[hr];rfl
   have g1:p.right[1]? =some (false,p.left):=by rw[hr];rfl
   have g2:p.right[2]? =some (true,j):=by rw[hr];rfl
   have e0:sub (p.right.flatMap ba) 0 1=some [.b true]:=cW gO g0 (j:=0) (n:=1) ω;have e1:sub (p.right.flatMap ba) 2 2=some [.b false,ι (p.left:Int)]:=cW gO g1 (j:=0) (n:=2) ω;have e3:sub (p.right.flatMap ba) 4 1=some [.b true]:=cW gO g2 (j:=0) (n:=1) ω;have nc2:∀k,nice 64 (.dp (p.right.flatMap ba) k)=true:=λk=>by rw[fK,fE jE]
   have ne:nice 64 (eR ba 2 p.rn p.right)=true:=dg jE;have q1:eH 6 (.ag [(0,1,false,(.lf .b)),(1,1,false,(.lf .i))]) (.ag [.b false,ι (p.left:Int)]) (.ag [.b false,ι (p.left:Int)])=some true:=by
    show(match rP .i (ι (p.left:Int)) (ι (p.left:Int)) with|some true=>some true|r=>r)=_;have:rP .i (ι (p.left:Int)) (ι (p.left:Int))=some true:=by show(bif gZ .i64 .i64 then some (eO (p.left:Int) (p.left:Int)) else none)=_;rw[uN,fg];simp
    rw[this]
   have nl:p.lay.length=0:=by rw[b2];rfl
   refine Rm c0 hbr c3 g3 b1 b2 b3 b4 b5 b6 b7 @qv @y8 @bG e0 e1 e3 nc2 ne q1 t1 t9 t10 bH ?_;exact⟨1,rfl⟩
 ·exact U1 @aM.eq_1
 all_goals exact U0
def aT9 (A:dY P X GL) (F:gn ae) {g:Gr} (G:ce g) (h:AH):bP P X GL 179 [aI g] h (ι 0) h:=by
 refine ku S (λn h=>rfl) ?_ h;refine bg.intro λC E=> ?_;have nc:=G.nc;have pl:=G.pl;have cl:(fz g.nc).length=g.nc:=by unfold fz;rw[jm];simp;omega
 refine E.bS F.f179 (Y3 @RP.eq_1 @aI.eq_1 @h0.eq_1 ?_);refine E.run (EF E F _ ?_);rintro⟨n1,v1,aQ⟩ dS dD nm1;have hn1':n1=3:=dS;subst hn1';have c0:cG (aQ.get 0)=some (ar g):=by rw[show aQ.get 0=_ from dD 0 (by show 0<1;omega)];exact U0
 have de:=c0;simp only[ar] at c0;refine Y1 c0 ?_;refine fj E.ok g.pR.length (λi τ h=>3<=h.next/\ cG (h.oB.get 0)=some (ar g)/\ sK h 2 1 ([]::(g.pR.take i).map (·.name))/\ τ.get 1=some (.p 0 0)/\ τ.get 3=some (.f 409 [] [.p 2 0])/\ τ.get 9=some (eR aM 13 true g.pR)/\ τ.get 10=some (ι (g.pR.length:Int))/\ τ.get 11=some (ι (i:Int))) ?_ ?_ _ _ ⟨by show 3<=3;omega,de,nm1,?_,?_,?_,?_,?_⟩
 ·rintro i τ ⟨n2,v2,aJ⟩ hi ⟨hn2,d0,nm,t1,t3,t9,t10,bH⟩ ih;have hn2':3<=n2:=hn2;have hpi:g.pR[i]? =some g.pR[i]:=cE hi;generalize hp:g.pR[i]=p at hpi;have ok:=G.p p (dI hpi);have e13:sub (g.pR.flatMap aM) (i*13) 13=some (aM p):=cW kr hpi (j:=0) (n:=13) ω;simp only[aM] at e13;have cf:∀h,bP P X GL 287 [.ag [cu (aE p.cond).1,ι ((aE p.cond).2:Int)],ι (g.nc:Int)] h (.b true) h:=λh=>Bw S A F nc ok.cond h;have cd:∀h,bP P X GL 291 [.ag (aM p)] h (.b true) h:=λh=>aT8 S F ok h;simp only[aM] at cd;have rk1:(p.rank< -1)=False:=dQ (by have:=ok.rank;omega);have rk2:(1<p.rank)=False:=dQ (by have:=ok.rank;omega);have tk:(g.pR.take (i+1)).map (·.name)=(g.pR.take i).map (·.name)++[p.name]:=by rw[nY hpi,kE];rfl
  have d0':=d0;simp only[ar] at d0;have I0:∀(Iv:AH ->Prop),Iv=(λh'=>n2+1<=h'.next/\ (∀j,j<n2 ->h'.oB.get j=aJ.get j)/\ cG (h'.oB.get n2)=some (aM p)) ->∀s,((s.1=true/\ s.2<9)∨(s.1=false/\ s.2<g.nT.length)) ->∀h',Iv h' ->∀k',(∀h'',Iv h'' ->k' (.b false) h'') ->hM C 288 [.ag (ba s),.p 0 0] h' k':=by
   rintro Iv rfl s hs ⟨m3,v3,cC⟩ ⟨hm3,old3,hc3⟩ k' hk';have hm3':n2+1<=m3:=hm3;have iN:∀j,j<n2 ->cC.get j=aJ.get j:=old3;have zq0':cG (cC.get 0)=some (ar g):=by rw[iN 0 ω];exact d0'
   have cs:∀h,bP P X GL 289 [.ag (ar g),.ag (ba s)] h (.b true) h:=λh=>aT7 S F G hs h;simp only[ar,ba] at cs zq0';refine E.run ?_;refine E.bS F.f288 (Y3 @RQ.eq_1 @ba.eq_1 zq0' ?_);refine E.cN (cs _) (Y1 zq0' ?_);exact hk' _ ⟨by show n2+1<=m3+1;omega,λj hj=>(W0 (iN j hj)),(W0 hc3)⟩
  have I1:=I0 _ rfl;refine Y8 d0 t1 t3 t9 t10 bH @bG e13 ?_;refine I1 (false,p.left) (.inr ⟨rfl,ok.left⟩) _ ⟨by show n2+1<=n2+1;omega,λj hj=> ?_,?_⟩ _ ?_
  ·exact U0
  ·exact U1 @aM.eq_1
  rintro⟨m3,v3,cC⟩ ⟨hm3,old3,hc3⟩;have hm3':n2+1<=m3:=hm3;dsimp only at hc3;have hc3':=hc3;simp only[aM] at hc3;refine Y6 hc3 t1 t3 t9 t10 bH ?_;refine E.run (aS1 E F (L:=p.right) (nl:=p.rn) (f:=288) (ca:=[.p 0 0]) (by have:=ok.len;omega) (λh'=>n2+1<=h'.next/\ (∀j,j<n2 ->h'.oB.get j=aJ.get j)/\ cG (h'.oB.get n2)=some (aM p)) ⟨hm3,old3,hc3'⟩ (λs hs h' hI k' hk'=>I1 s (ok.sym s hs) h' hI k' hk') _ ?_);rintro⟨m4,v4,ob4⟩ ⟨hm4,old4,hc4⟩;have hm4':n2+1<=m4:=hm4;have old4':∀j,j<n2 ->ob4.get j=aJ.get j:=old4;dsimp only at hc4;have hc4':=hc4;simp only[aM] at hc4;have nm4:sK ⟨m4,v4,ob4⟩ 2 1 ([]::(g.pR.take i).map (·.name)):=
   ⟨by show cG (ob4.get 2)=_;rw[old4' 2 ω];exact nm.cc,by show mG (ob4.get 1)=_;rw[old4' 1 ω];exact nm.mm,nm.ne,⟨by show 1<m4;omega,by show 2<m4;omega⟩⟩
  refine Y6 hc4 t1 t3 t9 t10 bH ?_;refine E.run (EG E F nm4 ?_ _ ?_)
  ·intro hm;rcases ed.1 hm with h|h
   ·exact ok.name h
   ·obtain⟨q,hq,he⟩:=sV.1 h;obtain⟨j,hj,hjq⟩:=sX.1 hq;have bF:j<i:=by simp at hj;omega
    have h2:(g.pR.take i)[j]? =some q:=by rw[←hjq];exact cE hj
    rw[jZ,aF bF] at h2;have:=G.pd _ _ _ _ h2 hpi he;omega
  rintro⟨m5,v5,ob5⟩ hn5 old5 nm5;have hn5':m5=m4:=hn5;have old5':∀j,j≠1 ->ob5.get j=ob4.get j:=old5;have f0:cG (ob5.get 0)=some (ar g):=by rw[old5' 0 ω,old4' 0 ω];exact d0'
  have f0':=f0;simp only[ar] at f0;have f5:cG (ob5.get n2)=some (aM p):=by rw[old5' n2 ω];exact hc4'
  simp only[aM] at f5;refine Y8 f0 f5 cl t1 t3 t9 t10 bH ?_;refine E.cN (cf _) (nS f0 f5 cl rk1 rk2 t1 t3 t9 t10 bH ?_);refine E.cN (cd _) (Y9 f0 f5 cl t1 t3 t9 t10 bH @bK ?_);refine ih _ _ ⟨by show 3<=m5;omega,f0',by rw[tk];exact nm5,?_,?_,?_,?_,?_⟩<;>exact U4 t1 t3 t9 t10
 ·rintro τ ⟨n2,v2,aJ⟩ ⟨hn2,d0,nm,t1,t3,t9,t10,bH⟩;refine Y5 t1 t3 t9 t10 bH ?_;exact⟨1,rfl⟩
 all_goals exact U0
def Tb {s:Nat}:∀{L:List Nat},look s (L.map λs=>(s,true))=if s∈L then some true else none
 |[]=>rfl
 |a::L=>by
  simp only[jY,look,Tb (L:=L),ed];by_cases e:s=a<;>simp[e]
def aU0 (A:dY P X GL) (F:gn ae) {g:Gr} (G:ce g) (h:AH):bP P X GL 180 [aI g] h (ι 0) h:=by
 refine ku S (λn h=>rfl) ?_ h;refine bg.intro λC E=> ?_;have nc:=G.nc;have pl:=G.pl;have ll:=G.ll;have cl:(fz g.nc).length=g.nc:=by unfold fz;rw[jm];simp;omega
 refine E.bS F.f180 (Y4 @RW.eq_1 @aI.eq_1 @ar.eq_1 @h0.eq_1 ?_);refine fj E.ok g.lV.length (λi τ h=>cG (h.oB.get 0)=some (ar g)/\ mG (h.oB.get 1)=some (di (λn:Nat=>AV.i .i64 (n:Int)) AV.b 0 (((g.lV.take i).flatMap (·.pR)).map λs=>(s,true)),(((g.lV.take i).flatMap (·.pR)).map λs=>(s,true)).length)/\ 2<=h.next/\ τ.get 1=some (.p 0 0)/\ τ.get 3=some (.m 1)/\ τ.get 10=some (eR iK 4 true g.lV)/\ τ.get 11=some (ι (g.lV.length:Int))/\ τ.get 12=some (ι (i:Int))) ?_ ?_ _ _ ⟨?_,?_,?_,?_,?_,?_,?_,?_⟩
 ·rintro i τ ⟨n1,ver,ob⟩ hi ⟨c0,c1,hn,t1,t3,t10,bH,t12⟩ ih;have hn':2<=n1:=hn;have de:=c0;simp only[ar] at c0;dsimp only at c1;have hli:g.lV[i]? =some g.lV[i]:=cE hi;generalize hl:g.lV[i]=l at hli;obtain⟨l1,l2,l3⟩:=G.l l (dI hli);have e4:sub (g.lV.flatMap iK) (i*4) 4=some (iK l):=cW Ev hli (j:=0) (n:=4) ω;simp only[iK] at e4;have cf:∀h,bP P X GL 287 [.ag [cu (aE l.cond).1,ι ((aE l.cond).2:Int)],ι (g.nc:Int)] h (.b true) h:=λh=>Bw S A F nc l2 h;have hfl:(g.lV.take (i+1)).flatMap (·.pR)=(g.lV.take i).flatMap (·.pR)++l.pR:=by rw[nY hli,jl];simp
  have hall:g.lV.flatMap (·.pR)=(g.lV.take i).flatMap (·.pR)++(l.pR++(g.lV.drop (i+1)).flatMap (·.pR)):=by
   have h1:g.lV=g.lV.take (i+1)++g.lV.drop (i+1):=(vJ _ _).symm;rw[←nz,←hfl,←jl,←h1]
  refine Y9 c0 t1 t3 t10 bH t12 @bG e4 cl ?_;refine E.cN (cf _) (Y7 c0 t1 t3 t10 bH t12 cl ?_);refine fj E.ok l.pR.length (λk τ h=>cG (h.oB.get 0)=some (ar g)/\ mG (h.oB.get 1)=some (di (λn:Nat=>AV.i .i64 (n:Int)) AV.b 0 (((g.lV.take i).flatMap (·.pR)++l.pR.take k).map λs=>(s,true)),(((g.lV.take i).flatMap (·.pR)++l.pR.take k).map λs=>(s,true)).length)/\ 2<=h.next/\ τ.get 1=some (.p 0 0)/\ τ.get 3=some (.m 1)/\ τ.get 10=some (eR iK 4 true g.lV)/\ τ.get 11=some (ι (g.lV.length:Int))/\ τ.get 12=some (ι (i:Int))/\ τ.get 34=some (eR cI 1 true l.pR)/\ τ.get 35=some (ι (l.pR.length:Int))/\ τ.get 36=some (ι (k:Int))) ?_ ?_ _ _ ⟨?_,?_,?_,?_,?_,?_,?_,?_,?_,?_,?_⟩
  ·rintro k τ ⟨n2,v2,aJ⟩ hk ⟨d0,d1,dn,s1,s3,s10,s11,s12,s34,s35,s36⟩ ih2;have hki:l.pR[k]? =some l.pR[k]:=cE hk;generalize hx:l.pR[k]=x at hki;have e1:sub (l.pR.flatMap cI) k 1=some [ι (x:Int)]:=by
    have:=cW qw hki (j:=0) (n:=1) ω;simpa[cI] using this
   have hxm:x∈g.lV.flatMap (·.pR):=by rw[hall];simp[dI hki]
   have hxp:=G.lp x hxm;have hnd:=G.ld;rw[hall] at hnd;have hl2:l.pR=l.pR.take k++(x::l.pR.drop (k+1)):=by
    have hdk:l.pR.drop k=x::l.pR.drop (k+1):=by rw[Lr hk,hx]
    rw[←hdk,vJ]
   have hno:x∉(g.lV.take i).flatMap (·.pR)++l.pR.take k:=by
    intro hm;rw[hl2,nz,←nz] at hnd;exact(zE.1 hnd).2.2 x hm x (by simp) rfl
   generalize hD:(g.lV.take i).flatMap (·.pR)++l.pR.take k=D at*;have hD2:(g.lV.take i).flatMap (·.pR)++l.pR.take (k+1)=D++[x]:=by rw[nY hki,←nz,hD]
   have hlk:look x (D.map λs=>(s,true))=none:=by rw[Tb,aD hno]
   have hu:ups x true (D.map λs=>(s,true))=(D++[x]).map λs=>(s,true):=by rw[yg hlk,kE];rfl
   have lk:∀aA ob' (τ:T AV),mG (T.get ob' 1)=some (di (λn:Nat=>AV.i .i64 (n:Int)) AV.b 0 (D.map λs=>(s,true)),(D.map λs=>(s,true)).length) ->az C τ (.t 50)= .m 1 ->az C τ (.t 51)=ι (x:Int) ->
    step (az C τ) ⟨n2,aA,ob'⟩ (.look (.lf .i) (.t 50) (.t 51) (.b false) false)= .v (.b false) ⟨n2,aA,ob'⟩:=λaA ob' τ q1 q2 q3=>by
    have:=sd (k:=x) (z:= .b false) (en:=AV.b) lW (h:=⟨n2,aA,ob'⟩) (fT.2 q1) q2 q3;rw[hlk] at this;exact this
   have mu:∀aA ob' (τ:T AV),mG (T.get ob' 1)=some (di (λn:Nat=>AV.i .i64 (n:Int)) AV.b 0 (D.map λs=>(s,true)),(D.map λs=>(s,true)).length) ->az C τ (.t 54)= .m 1 ->az C τ (.t 55)=ι (x:Int) ->
    step (az C τ) ⟨n2,aA,ob'⟩ (.mupd (.lf .i) (.t 54) (.t 55) (.c (.b true)))= .v .un ⟨n2,aA+1,ob'.put 1 (.map (aA+1) (di (λn:Nat=>AV.i .i64 (n:Int)) AV.b 0 (ups x true (D.map λs=>(s,true)))) (ups x true (D.map λs=>(s,true))).length)⟩:=
    λaA ob' τ q1 q2 q3=>mL (k:=x) (v:=true) (en:=AV.b) lW (h:=⟨n2,aA,ob'⟩) (fT.2 q1) q2 q3 rfl
   rw[hu] at mu;have d0':=d0;simp only[ar] at d0;dsimp only at d1;refine wR d0 s1 s3 s10 s11 s12 s34 s35 s36 @bG e1 lk mu @bK ?_;refine ih2 _ _ ⟨?_,?_,dn,?_,?_,?_,?_,?_,?_,?_,?_⟩
   ·exact W0 d0'
   ·exact U1 hD2
   all_goals exact U7 s1 s3 s10 s11 s12 s34 s35
  ·rintro τ ⟨n2,v2,aJ⟩ ⟨d0,d1,dn,s1,s3,s10,s11,s12,s34,s35,s36⟩;rw[rL,←hfl] at d1;refine Y9 s1 s3 s10 s11 s12 s34 s35 s36 @bK ?_;refine ih _ _ ⟨d0,d1,dn,?_,?_,?_,?_,?_⟩<;>exact U4 s1 s3 s10 s11
  ·exact W0 de
  ·simp(disch:=omega) only[dh,T.get_put,bV,Cf,lG];exact c1
  ·show 2<=n1+1;omega
  all_goals exact U5 t1 t3 t10 bH t12
 ·rintro τ ⟨n1,ver,ob⟩ ⟨c0,c1,hn,t1,t3,t10,bH,t12⟩;refine Y5 t1 t3 t10 bH t12 ?_;exact⟨1,rfl⟩
 ·exact U1 @ar.eq_1
 ·exact U0
 ·show 2<=2;omega
 all_goals exact U0
def Kh (lit:Bool):Nat:=if lit then 293 else 292
def Ki (F:gn ae) {lit:Bool} {c:Tr} {x:Nat} (hx:x<9) (hl:lit=true ->1<=x) {h:AH} (k:AV ->AH ->Prop)
 (hk:∀h',h'.next=h.next+1 ->(∀j,j<h.next ->h'.oB.get j=h.oB.get j) ->k (.b true) h'):du C (Kh lit) [.ag (dq (c,x))] h k:=by
 obtain⟨m,ver,ob⟩:=h;have k0:((l7 x:Nat):Int)=0:=by rw[JZ hx];rfl
 cases lit with
 |false=>
  show du C 292 _ _ _;refine E.bS F.f292 (Y3 @RY.eq_1 @dq.eq_1 k0 ?_);refine hk _ rfl λj hj=> ?_;have bF:j<m:=hj;exact U0
 |true=>
  have kl:(jQ x=[])=False:=dQ (S3 x (hl rfl) hx);show du C 293 _ _ _;refine E.bS F.f293 (Y3 @Jc.eq_1 @dq.eq_1 kl ?_);refine hk _ rfl λj hj=> ?_;have bF:j<m:=hj;exact U0
def Tc (F:gn ae) {g:Gr} (G:ce g) {l:List Nat} {nl lit:Bool} (dc:l≠[]) (h9:∀t∈l,t<9/\ (lit=true ->1<=t)) (hasc:∀(i a b:Nat),l[i]? =some a ->l[i+1]? =some b ->a<b) (eQ:l.length<=16) {h:AH} (k:AV ->AH ->Prop)
 (hk:∀h',h.next<=h'.next ->(∀j,j<h.next ->h'.oB.get j=h.oB.get j) ->k (.b true) h'):du C 295 [aI g,eR cI 1 nl l,.f (Kh lit) [] []] h k:=by
 obtain⟨m,ver,ob⟩:=h;have tl:=G.tcl;have hz:g.tc.zipIdx.length=11:=by rw[ny,tl]
 have z11:((11:Nat):Int)=11:=rfl;have hlp:0<l.length:=xG.2 dc;refine E.bS F.f295 (Y3 @R0.eq_1 @aI.eq_1 @ar.eq_1 ?_);refine fj E.ok l.length (λi τ h=>m+1<=h.next/\ (∀j,j<m ->h.oB.get j=ob.get j)/\ cG (h.oB.get m)=some (ar g)/\ τ.get 1=some (eR cI 1 nl l)/\ τ.get 2=some (.f (Kh lit) [] [])/\ τ.get 3=some (.p m 0)/\ τ.get 9=some (eR cI 1 nl l)/\ τ.get 10=some (ι (l.length:Int))/\ τ.get 11=some (ι (i:Int))) ?_ ?_ _ _ ⟨bB _,?_,?_,?_,?_,?_,?_,?_,?_⟩
 ·rintro i τ ⟨n1,v1,aQ⟩ hi ⟨hn,old,c0,t1,t2,t3,t9,t10,bH⟩ ih;have hn':m+1<=n1:=hn;have gu:∀j,j<m ->aQ.get j=ob.get j:=old;have de:=c0;simp only[ar] at c0;have hli:l[i]? =some l[i]:=cE hi;generalize hx:l[i]=x at hli;obtain⟨x9,xl⟩:=h9 x (dI hli);obtain⟨c,_,hz2⟩:=re (g:=g) tl (i:=x) ω;have e1:sub (l.flatMap cI) i 1=some [ι (x:Int)]:=by
   have:=cW qw hli (j:=0) (n:=1) ω;simpa[cI] using this
  have e7:sub (g.tc.zipIdx.flatMap dq) (x*7) 7=some (dq (c,x)):=cW qx hz2 (j:=0) (n:=7) ω;have aV:((x:Int)<11)=True:=cJ;by_cases i0:i=0
  ·subst i0;refine pm c0 t1 t2 t3 t9 t10 bH @bG hz z11 aV e1 e7 ?_;refine E.run (Ki E F x9 xl _ ?_);rintro⟨n2,v2,aJ⟩ hn2 eG;have hn2':n2=n1+1:=hn2;have cQ:∀j,j<n1 ->aJ.get j=aQ.get j:=eG;refine Y6 t1 t2 t3 t9 t10 bH ?_;refine ih _ _ ⟨by show m+1<=n2;omega,λj hj=>(cQ j ω).trans (gu j hj),by show cG (aJ.get m)=_;rw[cQ m ω];exact de,?_,?_,?_,?_,?_,?_⟩<;>simp only[T.get_put,Nat.reduceEqDiff,reduceIte,t1,t2,t3,t9,t10];rfl
  ·have hlj:l[i-1]? =some l[i-1]:=cE ω;generalize hy:l[i-1]=y at hlj;have ej:sub (l.flatMap cI) (i-1) 1=some [ι (y:Int)]:=by
    have:=cW qw hlj (j:=0) (n:=1) ω;simpa[cI] using this
   have hlt2:y<x:=hasc (i-1) y x hlj (by rw[show i-1+1=i by omega];exact hli);have es:aY .sub (ι (i:Int)) (ι 1)=some (ι ((i-1:Nat):Int)):=qV (b:=1) ω;refine sB c0 t1 t2 t3 t9 t10 bH @bG hz z11 aV e1 e7 ej es ?_;refine E.run (Ki E F x9 xl _ ?_);rintro⟨n2,v2,aJ⟩ hn2 eG;have hn2':n2=n1+1:=hn2;have cQ:∀j,j<n1 ->aJ.get j=aQ.get j:=eG;refine Y7 t1 t2 t3 t9 t10 bH @bK ?_;refine ih _ _ ⟨by show m+1<=n2;omega,λj hj=>(cQ j ω).trans (gu j hj),by show cG (aJ.get m)=_;rw[cQ m ω];exact de,?_,?_,?_,?_,?_,?_⟩<;>exact U5 t1 t2 t3 t9 t10
 ·rintro τ ⟨n1,v1,aQ⟩ ⟨hn,old,c0,t1,t2,t3,t9,t10,bH⟩;have hn':m+1<=n1:=hn;refine Y6 t1 t2 t3 t9 t10 bH ?_;exact hk _ (by show m<=n1;omega) old
 ·intro j hj;exact U0
 ·exact U1 @ar.eq_1
 all_goals exact U0
def aU1 (F:gn ae) {g:Gr} (G:ce g) {f:Fi} {pp cp:Pr} (h4:g.pR[f.par]? =some pp) (h5:g.pR[f.child]? =some cp) (h6:pp.right[f.at_]? =some (false,cp.left)) (h:AH):
 bP P X GL 294 [aI g,.ag (eF f)] h (.b true) h:=by
 refine ku S (λn h=>by simp only[aL,bZ,nX (ju _)]) ?_ h;refine bg.intro λC E=> ?_;have hp:=(eC.1 h4).1;have hq:=(eC.1 h5).1;have ha:=(eC.1 h6).1;have okp:=G.p pp (dI h4);have okl:=okp.len;have pl:=G.pl;have e2:sub (g.pR.flatMap aM) (f.par*13+2) 1=some [eR ba 2 pp.rn pp.right]:=cW kr h4 (j:=2) (n:=1) ω;have e1:sub (g.pR.flatMap aM) (f.child*13+1) 1=some [ι (cp.left:Int)]:=cW kr h5 (j:=1) (n:=1) ω;have e3:sub (pp.right.flatMap ba) (f.at_*2) 2=some [.b false,ι (cp.left:Int)]:=cW gO h6 (j:=0) (n:=2) ω;have db:nice 64 (eR ba 2 pp.rn pp.right)=true:=dg jE;have dk:∀k,nice 64 (.dp (pp.right.flatMap ba) k)=true:=λk=>by rw[fK,fE jE]
 have nk3:∀k,nice 64 (.dp (g.pR.flatMap aM) k)=true:=λk=>by rw[fK,fE iV]
 have nk4:nice 64 (eR aM 13 true g.pR)=true:=dg iV;have q1:eH 6 (.ag [(0,1,false,(.lf .b)),(1,1,false,(.lf .i))]) (.ag [.b false,ι (cp.left:Int)]) (.ag [.b false,ι (cp.left:Int)])=some true:=by
  show(match rP .i (ι (cp.left:Int)) (ι (cp.left:Int)) with|some true=>some true|r=>r)=_;have:rP .i (ι (cp.left:Int)) (ι (cp.left:Int))=some true:=by show(bif gZ .i64 .i64 then some (eO (cp.left:Int) (cp.left:Int)) else none)=_;rw[uN,fg];simp
  rw[this]
 refine E.bS F.f294 (qk @RZ.eq_1 @aI.eq_1 @ar.eq_1 @eF.eq_1 @h0.eq_1 @bG e1 e2 e3 db dk nk3 nk4 q1 ?_);exact⟨1,rfl⟩
def aU2 (F:gn ae) {c:Tr} {h:AH} (k:AV ->AH ->Prop)
 (hk:∀h',h'.next=h.next+1 ->(∀j,j<h.next ->h'.oB.get j=h.oB.get j) ->k (.b false) h'):du C 293 [.ag (dq (c,0))] h k:=by
 obtain⟨m,ver,ob⟩:=h;have kl:jQ 0=[]:=rfl;refine E.bS F.f293 (Y3 @Jc.eq_1 @dq.eq_1 kl ?_);refine hk _ rfl λj hj=> ?_;have bF:j<m:=hj;exact U0
def aU3 (A:dY P X GL) (F:gn ae) {g:Gr} (G:ce g) (h:AH):bP P X GL 181 [aI g] h (ι 0) h:=by
 refine ku S (λn h=>rfl) ?_ h;refine bg.intro λC E=> ?_;have nc:=G.nc;have fl:=G.fl;have ntl:=G.ntl;have cl:(fz g.nc).length=g.nc:=by unfold fz;rw[jm];simp;omega
 have c1:((1:Nat):Int)=1:=rfl;have c2:((2:Nat):Int)=2:=rfl;have c3:((3:Nat):Int)=3:=rfl;have c4:((4:Nat):Int)=4:=rfl;have c5:((5:Nat):Int)=5:=rfl;refine E.bS F.f181 (Y4 @RX.eq_1 @aI.eq_1 @ar.eq_1 @h0.eq_1 ?_);refine fj E.ok g.fI.length (λi τ h=>cG (h.oB.get 0)=some (ar g)/\ 1<=h.next/\ τ.get 1=some (.p 0 0)/\ τ.get 3=some (.f 292 [] [])/\ τ.get 4=some (.f 293 [] [])/\ τ.get 10=some (eR eF 9 true g.fI)/\ τ.get 11=some (ι (g.fI.length:Int))/\ τ.get 12=some (ι (i:Int))) ?_ ?_ _ _ ⟨?_,?_,?_,?_,?_,?_,?_,?_⟩
 ·rintro i τ ⟨n1,ver,ob⟩ hi ⟨d0,hn,t1,t3,t4,t10,bH,t12⟩ ih;have hn':1<=n1:=hn;have d0':=d0;simp only[ar] at d0;have hbi:g.fI[i]? =some g.fI[i]:=cE hi;generalize hf:g.fI[i]=f at hbi;have ok:=G.f f (dI hbi);have tl:=ok.tl;have e9:sub (g.fI.flatMap eF) (i*9) 9=some (eF f):=cW JP hbi (j:=0) (n:=9) ω;simp only[eF] at e9;have cf:∀h,bP P X GL 287 [.ag [cu (aE f.cond).1,ι ((aE f.cond).2:Int)],ι (g.nc:Int)] h (.b true) h:=λh=>Bw S A F nc ok.cond h;refine nS d0 t1 t3 t4 t10 bH t12 @bG e9 cl ?_;refine E.cN (cf _) ?_;rcases ok.kinds with ⟨hk,h1,h2,h3,pp,cp,h4,h5,h6⟩|⟨hk,h1,h2,h3,h4,h5,h6,h7,h8⟩|⟨hk,h1,h2,h3,h4,h5,h6,h7,h8⟩
  ·have cpr:∀h,bP P X GL 294 [.ag (ar g),.ag (eF f)] h (.b true) h:=λh=>aU1 S F G h4 h5 h6 h;simp only[ar,eF] at cpr;rcases hk with hk|hk<;>
    (
     simp only[hk] at cpr;refine jC d0 t1 t3 t4 t10 bH t12 hk c1 c2 cl ?_;refine E.cN (cpr _) (sB d0 t1 t3 t4 t10 bH t12 hk h1 h2 h3 c1 c2 cl @bK ?_);refine ih _ _ ⟨?_,?_,?_,?_,?_,?_,?_,?_⟩
     ·exact W0 d0'
     ·show 1<=n1+1+1;omega
     all_goals exact U5 t1 t3 t4 t10 bH)
  ·rcases hk with hk|hk<;>
    (
     refine jC d0 t1 t3 t4 t10 bH t12 hk c3 c4 cl ?_;refine E.run (Tc E F (lit:=false) (nl:=f.tn) G h6 (λt ht=>⟨h7 t ht,λh=>by cases h⟩) h8 tl _ ?_);rintro⟨n2,v2,aJ⟩ hn2 eG;have hn2':n1+1+1<=n2:=hn2;have cQ:∀j,j<n1+1+1 ->aJ.get j=_:=eG;have g0:cG (aJ.get 0)=some (ar g):=by rw[cQ 0 ω];exact W0 d0'
     have g8':cG (aJ.get (n1+1))=some [ι 0,ι (f.par:Int),ι (f.at_:Int),ι (f.child:Int),ι 0,ι (f.tok:Int),.sn,.sn,ι 0]:=by
      rw[cQ (n1+1) ω];exact U0
     refine pq g8' t1 t3 t4 t10 bH t12 hk h1 h2 h3 h4 c3 c4 cl @bK ?_;refine ih _ _ ⟨g0,by show 1<=n2;omega,?_,?_,?_,?_,?_,?_⟩;all_goals exact U5 t1 t3 t4 t10 bH)
  ·have tcl:=G.tcl;have hz:g.tc.zipIdx.length=11:=by rw[ny,tcl]
   have z11:((11:Nat):Int)=11:=rfl;obtain⟨c,_,hz2⟩:=re (g:=g) tcl (i:=0) ω;have e7:sub (g.tc.zipIdx.flatMap dq) 0 7=some (dq (c,0)):=cW qx hz2 (j:=0) (n:=7) ω;refine jC d0 t1 t3 t4 t10 bH t12 hk h5 c5 cl ?_;refine E.run (Tc E F (lit:=true) (nl:=f.tn) G h6 (λt ht=>⟨(h7 t ht).2,λ_=>(h7 t ht).1⟩) h8 tl _ ?_);rintro⟨n2,v2,aJ⟩ hn2 eG;have hn2':n1+1+1<=n2:=hn2;have cQ:∀j,j<n1+1+1 ->aJ.get j=_:=eG;have g0:cG (aJ.get 0)=some (ar g):=by rw[cQ 0 ω];exact W0 d0'
   have g0':=g0;simp only[ar] at g0;have g6':cG (aJ.get n1)=some (eF f):=by
    rw[cQ n1 ω];exact U3 @eF.eq_1 hk h5
   have g8':cG (aJ.get (n1+1))=some [ι 0,ι (f.par:Int),ι (f.at_:Int),ι (f.child:Int),ι (f.left:Int),ι 0,.sn,.sn,ι 0]:=by
    rw[cQ (n1+1) ω];exact U0
   simp only[eF,h5] at g6';refine pm g0 g6' t1 t3 t4 t10 bH t12 h5 hz z11 @bG e7 ?_;refine E.run (Ki (lit:=false) (c:=c) (x:=0) E F ω (λh=>by cases h) _ ?_);rintro⟨n3,v3,cC⟩ hn3 old3;have hn3':n3=n2+1:=hn3;have iN:∀j,j<n2 ->cC.get j=aJ.get j:=old3;have i0:cG (cC.get 0)=some (ar g):=by rw[iN 0 ω];exact g0'
   have i0':=i0;simp only[ar] at i0;have i6:cG (cC.get n1)=some (eF f):=by rw[iN n1 ω];simp only[eF,h5];exact g6'
   simp only[eF,h5] at i6;have i8:cG (cC.get (n1+1))=some [ι 0,ι (f.par:Int),ι (f.at_:Int),ι (f.child:Int),ι (f.left:Int),ι 0,.sn,.sn,ι 0]:=by rw[iN (n1+1) ω];exact g8'
   refine pm i0 i6 t1 t3 t4 t10 bH t12 h5 hz z11 @bG e7 ?_;refine E.run (aU2 (c:=c) E F _ ?_);rintro⟨n4,v4,ob4⟩ hn4 old4;have hn4':n4=n3+1:=hn4;have old4':∀j,j<n3 ->ob4.get j=cC.get j:=old4;have j0:cG (ob4.get 0)=some (ar g):=by rw[old4' 0 ω];exact i0'
   have j8:cG (ob4.get (n1+1))=some [ι 0,ι (f.par:Int),ι (f.at_:Int),ι (f.child:Int),ι (f.left:Int),ι 0,.sn,.sn,ι 0]:=by rw[old4' (n1+1) ω];exact i8
   refine pm j8 t1 t3 t4 t10 bH t12 h1 h2 h3 h4 c5 @bK ?_;refine ih _ _ ⟨j0,by show 1<=n4;omega,?_,?_,?_,?_,?_,?_⟩;all_goals exact U5 t1 t3 t4 t10 bH
 ·rintro τ ⟨n1,ver,ob⟩ ⟨d0,hn,t1,t3,t4,t10,bH,t12⟩;refine Y6 t1 t3 t4 t10 bH t12 ?_;exact⟨1,rfl⟩
 ·exact U1 @ar.eq_1
 ·exact bB _
 all_goals exact U0
def Td (A:dY P X GL) (F:gn ae) (hg:GL=mU) {g:Gr} (G:ce g) (h:AH):bP P X GL 90 [aI g] h (ι 0) h:=by
 refine ku S (λn h=>rfl) ?_ h;refine bg.intro λC E=> ?_;have d0:∀h,bP P X GL 175 [.ag (ar g)] h (.b false) h:=λh=>aT4 S F G h;have d1:∀h,bP P X GL 176 [.ag (ar g)] h (ι 0) h:=λh=>aT2 S A F G h;have d2:∀h,bP P X GL 177 [.ag (ar g)] h (ι 0) h:=λh=>aT6 S A F hg G h;have d3:∀h,bP P X GL 178 [.ag (ar g)] h (ι 0) h:=λh=>aT3 S F G h;have d4:∀h,bP P X GL 179 [.ag (ar g)] h (ι 0) h:=λh=>aT9 S A F G h;have d5:∀h,bP P X GL 180 [.ag (ar g)] h (ι 0) h:=λh=>aU0 S A F G h;have d6:∀h,bP P X GL 181 [.ag (ar g)] h (ι 0) h:=λh=>aU3 S A F G h;have all:∀(i:Nat),i<6 ->∀h,bP P X GL (176+i) [.ag (ar g)] h (ι 0) h:=by
  intro i hi h;rcases(show i=0∨i=1∨i=2∨i=3∨i=4∨i=5 by omega) with rfl|rfl|rfl|rfl|rfl|rfl
  ·exact d1 h
  ·exact d2 h
  ·exact d3 h
  ·exact d4 h
  ·exact d5 h
  ·exact d6 h
 have z6:((6:Nat):Int)=6:=rfl;have fs:∀(i:Nat),i<6 ->sub [AV.f 176 [] [],.f 177 [] [],.f 178 [] [],.f 179 [] [],.f 180 [] [],.f 181 [] []] i 1=some [.f (176+i) [] []]:=by
  intro i hi;rcases(show i=0∨i=1∨i=2∨i=3∨i=4∨i=5 by omega) with rfl|rfl|rfl|rfl|rfl|rfl<;>rfl
 rw[E.cB F.f90];simp only[ar] at d0;refine Y5 @RD.eq_1 @aI.eq_1 @ar.eq_1 @h0.eq_1 z6 ?_;refine E.cN (d0 _) (Y1 z6 ?_);refine fj E.ok 6 (λi τ h=>cG (h.oB.get 0)=some (ar g)/\ cG (h.oB.get 1)=some [AV.f 176 [] [],.f 177 [] [],.f 178 [] [],.f 179 [] [],.f 180 [] [],.f 181 [] []]/\ τ.get 1=some (.p 0 0)/\ τ.get 10=some (.sl 1 0 6 (some 6) 1)/\ τ.get 11=some (ι 6)/\ τ.get 12=some (ι (i:Int))) ?_ ?_ _ _ ⟨?_,?_,?_,?_,?_,?_⟩
 ·rintro i τ ⟨n1,ver,ob⟩ hi ⟨c0,c1,t1,t10,bH,t12⟩ ih;have de:=c0;simp only[ar] at c0;dsimp only at c1;have hi':((i:Int)<6)=True:=cJ;have f1:=fs i hi;have a1:=all i hi;simp only[ar] at a1;refine Y8 c0 c1 t1 t10 bH t12 hi' f1 ?_;refine E.cN (a1 _) (Y7 c0 c1 t1 t10 bH t12 @bK ?_);refine ih _ _ ⟨de,c1,?_,?_,?_,?_⟩<;>exact U3 t1 t10 bH
 ·rintro τ ⟨n1,ver,ob⟩ ⟨c0,c1,t1,t10,bH,t12⟩;refine Y5 t1 t10 bH t12 z6 ?_;exact⟨1,rfl⟩
 ·exact U1 @ar.eq_1
 all_goals exact U0
end
end AM
