import Derived.Test.YtdmkaddihnnbaaaGreatDoorN19
set_option linter.all false
set_option maxHeartbeats 4000000
namespace AM
open Dg Go
noncomputable section
def m3 (h:AH):AV ->AV ->AV ->ay
 | .i .i64 a,.i .i64 b,.i .i64 c=> .v (ι (max (max a b) c)) h
 | .i k a,y,z=>dr h (jy (λx y=>fD y x) k [y,z] a)
 |_,_,_=> .bad
variable {h:AH}
def aR8 {ev x y z}:step ev h (.max [x,y,z])=m3 h (ev x) (ev y) (ev z):=by
 have u:step ev h (.max [x,y,z])=(match eE ev [x,y,z] with|some (.i k a::r)=>dr h (jy (λx y=>fD y x) k r a)|_=> .bad):=rfl;have j:∀(p q r:Int),jy (λx y=>fD y x) .i64 [ι q,ι r] p=(bif fD p q then (bif fD q r then some (ι r) else some (ι q)) else (bif fD p r then some (ι r) else some (ι p))):=λp q r=>rfl;rw[u];simp only[wC,wy,qH];cases ev x<;>try rfl
 rename_i k a;cases ev y<;>cases k<;>try rfl
 rename_i k' b;cases k'<;>try rfl
 cases ev z<;>try rfl
 rename_i k' c;cases k'<;>try rfl
 dsimp only;rw[j,mI,mI,mI,rM,rM,rM];simp only[m3];have q:∀x y:Int,x=y ->dr h (some (ι x))= .v (ι y) h:=λx y e=>by rw[e];rfl
 by_cases h1:a<b;rw[aF h1];by_cases h2:b<c;rw[aF h2];exact q _ _ ω;rw[aD h2];exact q _ _ ω;rw[aD h1];by_cases h2:a<c;rw[aF h2];exact q _ _ ω;rw[aD h2];exact q _ _ ω
def aR9 {a b c}:m3 h (ι a) (ι b) (ι c)= .v (ι (max (max a b) c)) h:=rfl
variable {P:Program} {X:aR} {GL:T (List AV)} {ae:T au}
structure sK (h:AH) (c o:Nat) (L:List (List Nat)):Prop where
 cc:cG (h.oB.get c)=some [.m o]
 mm:mG (h.oB.get o)=some (di AV.s AV.b 0 (L.map λs=>(s,true)),(L.map λs=>(s,true)).length)
 ne:c≠o
 lt:o<h.next/\ c<h.next
def S9 {s}:∀{L:List (List Nat)},look s (L.map λs=>(s,true))=if s∈L then some true else none
 |[]=>rfl
 |a::L=>by
  simp only[jY,look,S9 (L:=L),ed];by_cases e:s=a<;>simp[e]
variable (S:aT P X GL ae) {C:aK Prop} (E:Sem P X GL ae C)
variable (A:dY P X GL) (F:gn ae)
def EF k
 (D:∀h',h'.next=h.next+2 ->(∀j,j<h.next ->h'.oB.get j=h.oB.get j) ->sK h' (h.next+1) h.next [[]] ->k (.f 407 [] [.p (h.next+1) 0]) h'):du C 283 [] h k:=by
 obtain⟨m,ver,ob⟩:=h;have G:∀u ob' (τ:T AV),mG (T.get ob' m)=some ([],0) ->az C τ (.t 2)= .m m ->
  step (az C τ) ⟨m+1,u,ob'⟩ (.mupd (.lf .s) (.t 2) (.c (.s [])) (.c (.b true)))= .v .un ⟨m+1,u+1,ob'.put m (.map (u+1) (di AV.s AV.b 0 [([],true)]) 1)⟩:=
  λu ob' τ H I=>mL (k:=[]) (v:=true) (en:=AV.b) (l:=[]) Hc (h:=⟨m+1,u,ob'⟩) (fT.2 H) I rfl rfl
 refine E.bS F.f283 (Z1 G ?_);refine D _ (by rfl) (λj B=> ?_) ⟨?_,?_,by show m+1≠m;omega,⟨by show m<m+2;omega,by show m+1<m+2;omega⟩⟩;have J:j<m:=B;(iterate 3 exact U0)
def EG {c o L s} (nm:sK h c o L) (U:s∉L) k
 (O:∀h',h'.next=h.next ->(∀j,j≠o ->h'.oB.get j=h.oB.get j) ->sK h' c o (L++[s]) ->k (.b true) h'):du C 407 [.s s,.p c 0] h k:=by
 obtain⟨m,ver,ob⟩:=h;have B:=nm.cc;have R:=nm.mm;have Y:=nm.ne;have N:=nm.lt;dsimp only at B R;have I:look s (L.map λs=>(s,true))=none:=by rw[S9,aD U]
 have W:∀u ob' (τ:T AV),mG (T.get ob' o)=some (di AV.s AV.b 0 (L.map λs=>(s,true)),(L.map λs=>(s,true)).length) ->az C τ (.t 4)= .m o ->az C τ (.t 5)= .s s ->
  step (az C τ) ⟨m,u,ob'⟩ (.look (.lf .s) (.t 4) (.t 5) (.b false) false)= .v (.b false) ⟨m,u,ob'⟩:=λu ob' τ D G H=>by
  have:=sd (k:=s) (z:= .b false) (en:=AV.b) Hc (h:=⟨m,u,ob'⟩) (fT.2 D) G H;rw[I] at this;exact this
 have J:∀u ob' (τ:T AV),mG (T.get ob' o)=some (di AV.s AV.b 0 (L.map λs=>(s,true)),(L.map λs=>(s,true)).length) ->az C τ (.t 7)= .m o ->az C τ (.t 8)= .s s ->
  step (az C τ) ⟨m,u,ob'⟩ (.mupd (.lf .s) (.t 7) (.t 8) (.c (.b true)))= .v .un ⟨m,u+1,ob'.put o (.map (u+1) (di AV.s AV.b 0 (ups s true (L.map λs=>(s,true)))) (ups s true (L.map λs=>(s,true))).length)⟩:=
  λu ob' τ D G H=>mL (k:=s) (v:=true) (en:=AV.b) Hc (h:=⟨m,u,ob'⟩) (fT.2 D) G H rfl
 have V:ups s true (L.map λs=>(s,true))=(L++[s]).map λs=>(s,true):=by rw[yg I,kE];rfl
 rw[V] at J;refine E.bS F.f407 (Z3 B W J ?_);exact O _ rfl (λj Z=>U0) ⟨(W0 B),U0,Y,N⟩
def aS0 {L nl f ca} (R:L.length<=1000) (I:AH ->Prop) (hI:I h) (J:∀p∈L,∀h',I h' ->∀k',(∀u,I u ->k' (.b false) u) ->hM C f (.ag (aM p)::ca) h' k') k (N:∀h',I h' ->k (.b false) h'):
 du C 281 [eR aM 13 nl L,.f f [] ca] h k:=by
 refine E.bS F.f281 (Y0 ?_);refine E.run ?_;refine E.bS F.f406 (Y0 ?_);refine fj E.ok L.length (λi τ h=>I h/\ τ.get 0=some (eR aM 13 nl L)/\ τ.get 1=some (.f f [] ca)/\ τ.get 7=some (ι (L.length:Int))/\ τ.get 8=some (ι (i:Int))) ?_ ?_ _ _ ⟨hI,?_,?_,?_,?_⟩;rintro i τ h' hi ⟨B,t0,t1,t7,t8⟩ O;have D:L[i]? =some L[i]:=oc hi;generalize U:L[i]=p at D;have H:sub (L.flatMap aM) (i*13) 13=some (aM p):=cW kr D (j:=0) (n:=13) ω;refine Y5 t0 t1 t7 t8 H ?_;refine J p (dI D) h' B _ λu G=> ?_;refine Y1 t8 ?_;refine O _ _ ⟨G,?_,?_,?_,?_⟩<;>exact U3 t0 t1 t7;rintro τ h' ⟨B,t0,t1,t7,t8⟩;refine Y2 t7 t8 ?_;exact N h' B;all_goals exact U0
def aS1 {L nl f ca} (R:L.length<=1000) (I:AH ->Prop) (hI:I h) (J:∀p∈L,∀h',I h' ->∀k',(∀u,I u ->k' (.b false) u) ->hM C f (.ag (ba p)::ca) h' k') k (N:∀h',I h' ->k (.b false) h'):
 du C 288 [eR ba 2 nl L,.f f [] ca] h k:=by
 refine E.bS F.f288 (Y0 ?_);refine E.run ?_;refine E.bS F.f410 (Y0 ?_);refine fj E.ok L.length (λi τ h=>I h/\ τ.get 0=some (eR ba 2 nl L)/\ τ.get 1=some (.f f [] ca)/\ τ.get 7=some (ι (L.length:Int))/\ τ.get 8=some (ι (i:Int))) ?_ ?_ _ _ ⟨hI,?_,?_,?_,?_⟩;rintro i τ h' hi ⟨B,t0,t1,t7,t8⟩ O;have D:L[i]? =some L[i]:=oc hi;generalize U:L[i]=p at D;have H:sub (L.flatMap ba) (i*2) 2=some (ba p):=cW gO D (j:=0) (n:=2) ω;refine Y5 t0 t1 t7 t8 H ?_;refine J p (dI D) h' B _ λu G=> ?_;refine Y1 t8 ?_;refine O _ _ ⟨G,?_,?_,?_,?_⟩<;>exact U3 t0 t1 t7;rintro τ h' ⟨B,t0,t1,t7,t8⟩;refine Y2 t7 t8 ?_;exact N h' B;all_goals exact U0
def vd:T au:=(T.put (T.put (T.put (T.put (T.put (T.put (T.put (T.put (T.put (T.put (T.put (T.put (T.put (T.put (T.put (T.put (T.put (T.put (T.put (T.put (T.put .e 284 RH) 285 RK) 408 RI) 489 aK6) 409 RM) 187 bC8) 295 R0) 296 yE) 188 Jr) 297 Je) 299 Ji) 298 Jf) 300 Jk) 301 Jj) 302 Jl) 189 Zv) 303 Jm) 304 Jn) 190 bC9) 100 bD0) 413 RV)
def aS2:vd=(T.put (T.put (T.put (T.put (T.put (T.put (T.put (T.put (T.put (T.put (T.put (T.put (T.put (T.put (T.put (T.put (T.put (T.put (T.put (T.put (T.put .e 284 RH) 285 RK) 408 RI) 489 aK6) 409 RM) 187 bC8) 295 R0) 296 yE) 188 Jr) 297 Je) 299 Ji) 298 Jf) 300 Jk) 301 Jj) 302 Jl) 189 Zv) 303 Jm) 304 Jn) 190 bC9) 100 bD0) 413 RV):=rfl
def EH (FHasC:gn ae):∀f m,vd.get f=some m ->ae.get f=some m:=by
 rw[aS2];exact(gk (gk (gk (gk (gk (gk (gk (gk (gk (gk (gk (gk (gk (gk (gk (gk (gk (gk (gk (gk (gk AF FHasC.f284) FHasC.f285) FHasC.f408) FHasC.f489) FHasC.f409) FHasC.f187) FHasC.f295) FHasC.f296) FHasC.f188) FHasC.f297) FHasC.f299) FHasC.f298) FHasC.f300) FHasC.f301) FHasC.f302) FHasC.f189) FHasC.f303) FHasC.f304) FHasC.f190) FHasC.f100) FHasC.f413)
def mU:T (List AV):= .n (.n .e (some [.i .u8 0,.i .u8 1,.i .u8 56,.i .u8 2,.i .u8 57,.i .u8 49,.i .u8 28,.i .u8 3,.i .u8 61,.i .u8 58,.i .u8 42,.i .u8 50,.i .u8 38,.i .u8 29,.i .u8 17,.i .u8 4,.i .u8 62,.i .u8 47,.i .u8 59,.i .u8 36,.i .u8 45,.i .u8 43,.i .u8 51,.i .u8 22,.i .u8 53,.i .u8 39,.i .u8 33,.i .u8 30,.i .u8 24,.i .u8 18,.i .u8 12,.i .u8 5,.i .u8 63,.i .u8 55,.i .u8 48,.i .u8 27,.i .u8 60,.i .u8 41,.i .u8 37,.i .u8 16,.i .u8 46,.i .u8 35,.i .u8 44,.i .u8 21,.i .u8 52,.i .u8 32,.i .u8 23,.i .u8 11,.i .u8 54,.i .u8 26,.i .u8 40,.i .u8 15,.i .u8 34,.i .u8 20,.i .u8 31,.i .u8 10,.i .u8 25,.i .u8 14,.i .u8 19,.i .u8 9,.i .u8 13,.i .u8 8,.i .u8 7,.i .u8 6]) .e) none .e
def Kf (t:Tr) (f:Nat) (a:List AV):Option AV:=bif Nat.beq f 99 then (match a with
 |[x]=>bif cZ 64 x (eT t) then some (ι 0) else none
 |_=>none) else none
def Iu (GL:T (List AV)) (n:Nat) (t:Tr):Bool:=bif jq n t then gM GL vd (Kf t) 100000 285 [eT t,ι (.ofNat n)] (.b true) else true
def hI (GL:T (List AV)):(List.range 3).all (λi=>gM GL vd (λ_ _=>none) 100000 284 [.s [65+i]] (.b true))=true:=lR
def hP0 (GL:T (List AV)):gM GL vd (λ_ _=>none) 100000 187 [eR iF 5 true (jg 0)] (ι 0)=true:=lR
def hP9 (GL:T (List AV)):gM GL vd (λ_ _=>none) 100000 187 [eR iF 5 true (jg 9)] (ι 0)=true:=lR
def aS3 (GL:T (List AV)):gM GL vd (λ_ _=>none) 100000 187 [eR iF 5 true (jg 10)] (ι 0)=true:=lR
def hM0:gM mU vd (λ_ _=>none) 100000 100 [eR iF 5 true (jg 0),.s [120]] (.b true)=true:=lR
def hF0 (GL:T (List AV)):(iy 3).all (Iu GL 0)=true:=lR
def hF1 (GL:T (List AV)):(iy 3).all (Iu GL 1)=true:=lR
def hF2 (GL:T (List AV)):(iy 3).all (Iu GL 2)=true:=lR
def aS4 (GL:T (List AV)):(((iy 3).drop 0).take 64).all (Iu GL 3)=true:=lR
def aS5 (GL:T (List AV)):(((iy 3).drop 64).take 64).all (Iu GL 3)=true:=lR
def aS6 (GL:T (List AV)):(((iy 3).drop 128).take 64).all (Iu GL 3)=true:=lR
def aS7 (GL:T (List AV)):(((iy 3).drop 192).take 64).all (Iu GL 3)=true:=lR
def aS8 {t} (D:cA 3 t=true):Dp P X GL (Kf t):=by
 intro f a v j h;unfold Kf at j;rw[bu,rM] at j;split at j;rename_i B;subst B;split at j;rename_i x;cases u:cZ 64 x (eT t) with
 |true=>rw[u] at j;cases j;rw[HZ _ _ _ u];exact(A t D).chk h
 |false=>rw[u] at j;cases j
 cases j;cases j
def aS9 (GL:T (List AV)) {n} (u:n<=3):∀t∈iy 3,Iu GL n t=true:=by
 rcases(show n=0∨n=1∨n=2∨n=3 by omega) with rfl|rfl|rfl|rfl;exact λt j=>fX.1 (hF0 GL) t j;exact λt j=>fX.1 (hF1 GL) t j;exact λt j=>fX.1 (hF2 GL) t j;have e:iy 3=((iy 3).drop 0).take 64++(((iy 3).drop 64).take 64++(((iy 3).drop 128).take 64++((iy 3).drop 192).take 64)):=lR;intro t j;rw[e] at j;simp only[fO] at j;rcases j with h|h|h|h;exact fX.1 (aS4 GL) t h;exact fX.1 (aS5 GL) t h;exact fX.1 (aS6 GL) t h;exact fX.1 (aS7 GL) t h
def Bw {n t} (u:n<=3) (j:sG n t) h:bP P X GL 285 [eT t,ι (n)] h (.b true) h:=by
 refine dR S (n:=9) ?_ (by simp only[aL,jB,bZ,dH]) h;have:=aS9 GL u t (Ie j.f);unfold Iu at this;rw[j.d] at this;exact hY (EH F) (aS8 A j.f) this
def aT0 {i} (hi:i<3) h:bP P X GL 284 [.s [65+i]] h (.b true) h:=
 dR S (hY (EH F) iE (fX.1 (hI GL) i (mA.2 hi))) (n:=9) (by simp only[aL,bZ,oK]) h
def Kg {i} (hi:i=0∨i=9∨i=10) h:bP P X GL 187 [eR iF 5 true (jg i)] h (ι 0) h:=by
 refine dR S (hY (EH F) iE (n:=100000) ?_) (n:=9) (by simp only[aL,bZ,dA Eu]) h;rcases hi with rfl|rfl|rfl;exact hP0 GL;exact hP9 GL;exact aS3 GL
variable (hg:GL=mU)
def aT1 h:bP P X GL 100 [eR iF 5 true (jg 0),.s [120]] h (.b true) h:=
 dR S (hY (EH F) iE (by rw[hg];exact hM0)) (n:=9) (by simp only[aL,bZ,oK,dA Eu]) h
def aT2 {g} (G:oy g) h:bP P X GL 178 [aI g] h (ι 0) h:=by
 refine ku S (λn h=>rfl) ?_ h;refine bg.intro λC E=> ?_;have nc:=G.nc;have I:(fz g.nc).length=g.nc:=by unfold fz;rw[jm];simp;omega
 have L:∀h,bP P X GL 285 [.ag [tp (aE g.fam).1,ι ((aE g.fam).2:Int)],ι (g.nc:Int)] h (.b true) h:=λh=>Bw S A F nc G.fam h;have U:(((aE g.fam).2:Int)=0)=False:=dQ (by have:=G.famr;omega);refine E.bS F.f178 (Y1 @aI.eq_1 ?_);refine E.run (EF E F _ ?_);rintro⟨n1,v1,aQ⟩ dS dD nm1;have D:n1=3:=dS;subst D;have c0:cG (aQ.get 0)=some (ar g):=by rw[show aQ.get 0=_ from dD 0 (by show 0<1;omega)];exact U0
 have O:=c0;simp only[ar] at c0;refine Y2 c0 I ?_;refine fj E.ok g.nc (λi τ h=>cG (h.oB.get 0)=some (ar g)/\ sK h 2 1 ([]::(fz g.nc).take i)/\ τ.get 1=some (.p 0 0)/\ τ.get 3=some (.f 407 [] [.p 2 0])/\ τ.get 8=some (eX (fz g.nc) (g.cx.map AV.s))/\ τ.get 9=some (ι (g.nc:Int))/\ τ.get 10=some (ι (i:Int))) ?_ ?_ _ _ ⟨O,nm1,?_,?_,?_,?_,?_⟩;rintro i τ ⟨n2,v2,H⟩ hi ⟨u,nm,t1,t3,t8,t9,t10⟩ Y;have B:=S6 hi nc;have R:=SA (ex:=g.cx.map AV.s) B;have N:=λh=>aT0 S F (i:=i) ω h;have x1:(([65+i]:List Nat)=[116,114,117,101])=False:=dQ (by simp);have x2:(([65+i]:List Nat)=[102,97,108,115,101])=False:=dQ (by simp);have tk:=nY B;refine Y5 t8 t9 t10 @Sz R ?_;refine E.cN (N _) (Y3 t3 x1 x2 ?_);refine E.run (EG E F nm ?_ _ ?_);intro W;rcases ed.1 W with h|h;simp at h;obtain⟨j,J,V⟩:=sX.1 h;have Z:j<i:=by simp at J;omega
 have h2:((fz g.nc).take i)[j]? =some [65+i]:=by rw[←V];exact oc J
 rw[jZ,aF Z,S6 ω nc] at h2;simp at h2;omega;rintro⟨n3,v3,cC⟩ hn3 old3 nm3;have e0:cG (cC.get 0)=some (ar g):=by rw[show cC.get 0=H.get 0 from old3 0 ω];exact u
 refine Y1 t10 ?_;refine Y _ _ ⟨e0,by rw[tk];exact nm3,?_,?_,?_,?_,?_⟩<;>exact U4 t1 t3 t8 t9;rintro τ ⟨n2,v2,H⟩ ⟨u,nm,t1,t3,t8,t9,t10⟩;simp only[ar] at u;refine Y5 u t1 t9 t10 I ?_;refine E.cN (L _) (Y3 u t1 U ?_);exact⟨1,rfl⟩;all_goals exact U0
def aT3 {g} (G:oy g) h:bP P X GL 180 [aI g] h (ι 0) h:=by
 refine ku S (λn h=>rfl) ?_ h;refine bg.intro λC E=> ?_;have ntl:=G.ntl;refine E.bS F.f180 (Y1 @aI.eq_1 ?_);refine E.run (EF E F _ ?_);rintro⟨n1,v1,aQ⟩ dS dD nm1;have B:n1=3:=dS;subst B;have c0:cG (aQ.get 0)=some (ar g):=by rw[show aQ.get 0=_ from dD 0 (by show 0<1;omega)];exact U0
 have J:=c0;simp only[ar] at c0;refine Y1 c0 ?_;refine fj E.ok g.nT.length (λi τ h=>cG (h.oB.get 0)=some (ar g)/\ sK h 2 1 ([]::g.nT.take i)/\ τ.get 1=some (.p 0 0)/\ τ.get 3=some (.f 407 [] [.p 2 0])/\ τ.get 8=some (eX g.nT (g.nx.map AV.s))/\ τ.get 9=some (ι (g.nT.length:Int))/\ τ.get 10=some (ι (i:Int))) ?_ ?_ _ _ ⟨J,nm1,?_,?_,?_,?_,?_⟩;rintro i τ ⟨V,v2,H⟩ hi ⟨D,nm,t1,t3,t8,t9,t10⟩ R;have u:g.nT[i]? =some g.nT[i]:=oc hi;generalize Z:g.nT[i]=s at u;have L:=SA (ex:=g.nx.map AV.s) u;have tk:=nY u;refine Y6 t3 t8 t9 t10 @Sz L ?_;refine E.run (EG E F nm ?_ _ ?_);intro O;rcases ed.1 O with h|h;exact G.ntn _ (dI u) h;obtain⟨j,I,N⟩:=sX.1 h;have U:j<i:=by simp at I;omega
 have h2:(g.nT.take i)[j]? =some s:=by rw[←N];exact oc I
 rw[jZ,aF U] at h2;have:=G.ntd _ _ _ h2 u;omega;rintro⟨n3,v3,cC⟩ hn3 old3 nm3;have e0:cG (cC.get 0)=some (ar g):=by rw[show cC.get 0=H.get 0 from old3 0 ω];exact D
 refine Y1 t10 ?_;refine R _ _ ⟨e0,by rw[tk];exact nm3,?_,?_,?_,?_,?_⟩<;>exact U4 t1 t3 t8 t9;rintro τ ⟨V,v2,H⟩ ⟨D,nm,t1,t3,t8,t9,t10⟩;simp only[ar] at D;have W:((g.st:Int)<0)=False:=av;have Y:((g.nT.length:Int)<=(g.st:Int))=False:=dQ (by have:=G.st;omega);refine Y6 D t1 t9 t10 W Y ?_;exact⟨1,rfl⟩;all_goals exact U0
def aT4 {g} (G:oy g) h:bP P X GL 177 [aI g] h (.b false) h:=by
 refine ku S (λn h=>rfl) ?_ h;refine bg.intro λC E=> ?_;have nc:=G.nc;have u:(fz g.nc).length=g.nc:=by unfold fz;rw[jm];simp;omega
 have D:g.tc.zipIdx.length=11:=by rw[ny,G.tcl]
 have ntl:=G.ntl;have pl:=G.pl;have ll:=G.ll;have fl:=G.fl;refine E.bS F.f177 (Y6 @aI.eq_1 @ar.eq_1 u D @aR8 @aR9 ?_);refine E.run (aS0 E F (L:=g.pR) (nl:=true) (f:=282) (ca:=[]) ω (λ_=>True) trivial ?_ _ ?_);intro p B h' _ k' j;have ok:=G.p p B;have H:=ok.len;have I:=ok.layl;obtain⟨m,ver,ob⟩:=h';refine E.run ?_;refine E.bS F.f282 (Y2 @jP @aM.eq_1 ?_);exact j _ trivial;rintro h' _;refine Y0 ?_;exact⟨1,rfl⟩
def aT5:∀i,1<=i/\ i<=8 ->l7 i=0/\ jQ i≠[]/\ jg i=[]/\ wZ i=[]:=by
 intro i hi;rcases(show i=1∨i=2∨i=3∨i=4∨i=5∨i=6∨i=7∨i=8 by omega) with rfl|rfl|rfl|rfl|rfl|rfl|rfl|rfl<;>exact⟨rfl,by simp[jQ,kj],rfl,rfl⟩
def aT6 {g} (G:oy g) h:bP P X GL 179 [aI g] h (ι 0) h:=by
 refine ku S (λn h=>rfl) ?_ h;refine bg.intro λC E=> ?_;have nc:=G.nc;have L:(fz g.nc).length=g.nc:=by unfold fz;rw[jm];simp;omega
 have tl:=G.tcl;have hz:g.tc.zipIdx.length=11:=by rw[ny,tl]
 have U:((11:Nat):Int)=11:=rfl;refine E.bS F.f179 (Y1 @aI.eq_1 ?_);refine E.run (EF E F _ ?_);rintro⟨n1,v1,aQ⟩ dS dD nm1;have N:n1=3:=dS;subst N;have c0:cG (aQ.get 0)=some (ar g):=by rw[show aQ.get 0=_ from dD 0 (by show 0<1;omega)];exact U0
 have de:=c0;simp only[ar] at c0;refine Y3 c0 hz U ?_;refine fj E.ok 11 (λi τ h=>3<=h.next/\ cG (h.oB.get 0)=some (ar g)/\ sK h 2 1 ([]::(List.range i).map kj)/\ τ.get 1=some (.p 0 0)/\ τ.get 3=some (.f 407 [] [.p 2 0])/\ τ.get 9=some (eR dq 7 true g.tc.zipIdx)/\ τ.get 10=some (ι 11)/\ τ.get 11=some (ι (i:Int))) ?_ ?_ _ _ ⟨by show 3<=3;omega,de,nm1,?_,?_,?_,?_,?_⟩;rintro i τ ⟨J,v2,aJ⟩ hi ⟨O,Z,nm,t1,t3,t9,t10,I⟩ W;have b5:3<=J:=O;obtain⟨c,b2,b3⟩:=re (g:=g) tl (i:=i) hi;have ft:=G.tc c (dI b2);have e7:sub (g.tc.zipIdx.flatMap dq) (i*7) 7=some (dq (c,i)):=cW qx b3 (j:=0) (n:=7) ω;simp only[dq] at e7;have V:∀h,bP P X GL 285 [.ag [tp (aE c).1,ι ((aE c).2:Int)],ι (g.nc:Int)] h (.b true) h:=λh=>Bw S A F nc ft h;have tk:(List.range (i+1)).map kj=(List.range i).map kj++[kj i]:=by rw[zD,kE];rfl
 have b0:=Z;simp only[ar] at Z;have R:sK ⟨J+1,v2+1,(aJ.put J (.cells v2 [.s [],ι 0,.s [],.sn,.s [],.sn,ι 0])).put J (.cells (v2+1) (dq (c,i)))⟩ 2 1 ([]::(List.range i).map kj):=
  ⟨by have:=nm.cc;exact W0 this,by have:=nm.mm;exact W0 this,nm.ne,by have h1:=nm.lt.1;have h2:=nm.lt.2;exact⟨by show 1<J+1;omega,by show 2<J+1;omega⟩⟩
 simp only[dq] at R;refine Y5 t3 t9 t10 I e7 ?_;refine E.run (EG E F R ?_ _ ?_);intro hm;rcases ed.1 hm with h|h;exact aP6 i h;obtain⟨j,hj,he⟩:=sV.1 h;have m9:=mA.1 hj;have:=aP5 j i ω hi he;omega;rintro⟨n3,v3,cC⟩ hn3 old3 nm3;have b6:n3=J+1:=hn3;have iN:∀j,j≠1 ->cC.get j=_:=old3;have H:cG (cC.get 0)=some (ar g):=by rw[iN 0 ω];exact W0 b0
 have b1:=H;simp only[ar] at H;have f5:cG (cC.get J)=some (dq (c,i)):=by rw[iN J ω];exact U1 @dq.eq_1
 simp only[dq] at f5;have fin:∀(τ':T AV),τ'.get 1=some (.p 0 0) ->τ'.get 3=some (.f 407 [] [.p 2 0]) ->τ'.get 9=some (eR dq 7 true g.tc.zipIdx) ->τ'.get 10=some (ι 11) ->τ'.get 11=some (ι ((i+1:Nat):Int)) ->(3<=n3/\ cG (cC.get 0)=some (ar g)/\ sK ⟨n3,v3,cC⟩ 2 1 ([]::(List.range (i+1)).map kj)/\ τ'.get 1=some (.p 0 0)/\ τ'.get 3=some (.f 407 [] [.p 2 0])/\ τ'.get 9=some (eR dq 7 true g.tc.zipIdx)/\ τ'.get 10=some (ι 11)/\ τ'.get 11=some (ι ((i+1:Nat):Int))):=
  λτ' a1 a3 a9 a10 Y=>⟨by omega,b1,by rw[tk];exact nm3,a1,a3,a9,a10,Y⟩
 rcases(show i=0∨(1<=i/\ i<=8)∨i=9∨i=10 by omega) with rfl|h8|rfl|rfl;have u:((l7 0:Nat):Int)=0:=rfl;have B:jQ 0=[]:=rfl;have s0:(([120]:List Nat)=[])=False:=dQ (by simp);have D:wZ 0=[120]:=rfl;refine Y8 H f5 t1 I u B D L ?_;refine E.cN (V _) (Y8 H f5 t1 I u B D L ?_);refine E.cN (Kg S F (.inl rfl) _) (Y9 H f5 t1 I u B s0 D L ?_);refine E.cN (aT1 S F hg _) (Y8 H f5 t1 I u B D L ?_);refine W _ _ (fin _ ?_ ?_ ?_ ?_ ?_)<;>simp only[T.get_put,Nat.reduceEqDiff,reduceIte,t1,t3,t9,t10];rfl;obtain⟨k1,k2,k3,k4⟩:=aT5 i h8;have u:((l7 i:Nat):Int)=0:=by rw[k1];rfl
 have b4:(jQ i=[])=False:=dQ k2;refine Y7 H f5 t1 u k3 k4 L ?_;refine E.cN (V _) (Y7 f5 I u b4 k3 k4 @bK ?_);refine W _ _ (fin _ ?_ ?_ ?_ ?_ ?_)<;>exact U4 t1 t3 t9 t10;have u:((l7 9:Nat):Int)=1:=rfl;have B:jQ 9=[]:=rfl;have D:wZ 9=[]:=rfl;have a9:aY .add (ι ((9:Nat):Int)) (ι 1)=some (ι ((9+1:Nat):Int)):=rfl;refine Y7 H f5 t1 u B D L ?_;refine E.cN (V _) (Y7 H f5 t1 u B D L ?_);refine E.cN (Kg S F (.inr (.inl rfl)) _) (Y6 f5 I u B D a9 ?_);refine W _ _ (fin _ ?_ ?_ ?_ ?_ ?_)<;>exact U4 t1 t3 t9 t10;have u:((l7 10:Nat):Int)=2:=rfl;have B:jQ 10=[]:=rfl;have D:wZ 10=[]:=rfl;have a9:aY .add (ι ((10:Nat):Int)) (ι 1)=some (ι ((10+1:Nat):Int)):=rfl;refine Y7 H f5 t1 u B D L ?_;refine E.cN (V _) (Y7 H f5 t1 u B D L ?_);refine E.cN (Kg S F (.inr (.inr rfl)) _) (Y6 f5 I u B D a9 ?_);refine W _ _ (fin _ ?_ ?_ ?_ ?_ ?_)<;>exact U4 t1 t3 t9 t10;rintro τ ⟨J,v2,aJ⟩ ⟨O,Z,nm,t1,t3,t9,t10,I⟩;refine Y3 t10 I U ?_;exact⟨1,rfl⟩;all_goals exact U0
def aT7 {g} (G:oy g) {s} (D:(s.1=true/\ s.2<9)∨(s.1=false/\ s.2<g.nT.length)) h:bP P X GL 287 [aI g,.ag (ba s)] h (.b true) h:=by
 refine ku S (λn h=>by simp only[aL,bZ,nX (yX s)]) ?_ h;refine bg.intro λC E=> ?_;have ntl:=G.ntl;have tl:=G.tcl;have H:g.tc.zipIdx.length=11:=by rw[ny,tl]
 have B:((11:Nat):Int)=11:=rfl;rw[E.cB F.f287];rcases D with ⟨h1,h2⟩|⟨h1,h2⟩;obtain⟨c,_,u⟩:=re (g:=g) tl (i:=s.2) ω;have e7:sub (g.tc.zipIdx.flatMap dq) (s.2*7+1) 1=some [ι 0]:=by
  have:=cW qx u (j:=1) (n:=1) ω;simpa[dq,JZ h2] using this
 refine Y7 @aI.eq_1 @ar.eq_1 @ba.eq_1 h1 H B e7 ?_;exact⟨1,rfl⟩;refine Y4 @aI.eq_1 @ar.eq_1 @ba.eq_1 h1 ?_;exact⟨1,rfl⟩
def Ta {p kk v lo hi} (G:Bu p kk v lo hi) (L:p.right.length<=8) {q} (B:cG (h.oB.get q)=some (aM p)) k (u:k (.b true) h):
 du C 412 [ι (kk),ι (v),ι (lo),ι (hi),.p q 0] h k:=by
 obtain⟨m,ver,ob⟩:=h;dsimp only at B;simp only[aM] at B;rw[E.cB F.f412];rcases G with ⟨h1,h2⟩|⟨h1,⟨j,D⟩,I,J⟩;subst h1;subst h2;refine Y0 ?_;exact u;have H:=(eC.1 D).1;have e1:aY .sub (ι (kk:Int)) (ι 1)=some (ι ((kk-1:Nat):Int)):=qV (b:=1) ω;have e2:sub (p.right.flatMap ba) ((kk-1)*2) 1=some [.b true]:=by
  have:=cW gO D (j:=0) (n:=1) ω;simpa[ba] using this
 refine Y3 B e1 e2 ?_;exact u
def aT8 {nc nt p} (ok:sH nc nt p) h:bP P X GL 289 [.ag (aM p)] h (.b true) h:=by
 refine ST S (λn h=>rfl) ?_ h;refine bg.intro λC E=> ?_;have b0:=ok.layl;have I:=ok.len;refine E.bS F.f289 (Y1 @aM.eq_1 ?_);refine fj E.ok p.lay.length (λi τ h=>1<=h.next/\ cG (h.oB.get 0)=some (aM p)/\ τ.get 1=some (.p 0 0)/\ τ.get 9=some (eR gH 3 p.ln p.lay)/\ τ.get 10=some (ι (p.lay.length:Int))/\ τ.get 11=some (ι (i:Int))) ?_ ?_ _ _ ⟨bB _,?_,?_,?_,?_,?_⟩;rintro i τ ⟨n1,ver,ob⟩ hi ⟨O,c0,t1,t9,t10,D⟩ U;have R:1<=n1:=O;have G:p.lay[i]? =some p.lay[i]:=oc hi;generalize N:p.lay[i]=c at G;have e0:sub (p.lay.flatMap gH) (i*3) 3=some [ι (c.1:Int),ι (c.2.1:Int),ι (c.2.2:Int)]:=cW aO3 G (j:=0) (n:=3) ω;obtain⟨l1,l2,V,W,l5⟩:=ok.lay _ (dI G);have L:=c0;simp only[aM] at c0;have B:∀(x:Nat) (ob':T bC) (n' v':Nat) (k':AV ->AH ->Prop),x<p.right.length ->cG (ob'.get 0)=some (aM p) ->k' (.b true) ⟨n',v',ob'⟩ ->hM C 411 [ι (x:Int),.p 0 0] ⟨n',v',ob'⟩ k':=by
  intro x ob' n' v' k' hx N hk;simp only[aM] at N;refine E.run ?_;refine E.bS F.f411 (Y1 N ?_);exact hk
 have u:∀ob',ob'=(ob.put n1 (.cells ver [ι 0,ι 0,ι 0])).put n1 (.cells (ver+1) [ι (c.1:Int),ι (c.2.1:Int),ι (c.2.2:Int)]) ->cG (T.get ob' 0)=some (aM p):=by
  rintro ob' rfl;exact W0 L
 by_cases k1:c.1=1;have k2:=l5 k1;refine Y5 t1 t9 t10 D e0 ?_;refine B _ _ _ _ _ V (u _ rfl) ?_;refine Y4 c0 t1 t10 D ?_;refine B _ _ _ _ _ W (u _ rfl) ?_;refine Y1 D ?_;refine U _ _ ⟨by show 1<=n1+1;omega,u _ rfl,?_,?_,?_,?_⟩<;>exact U3 t1 t9 t10;refine Y5 t1 t9 t10 D e0 ?_;refine B _ _ _ _ _ V (u _ rfl) ?_;refine Y4 c0 t1 t10 D ?_;refine B _ _ _ _ _ W (u _ rfl) ?_;refine Y1 D ?_;refine U _ _ ⟨by show 1<=n1+1;omega,u _ rfl,?_,?_,?_,?_⟩<;>exact U3 t1 t9 t10;rintro τ ⟨n1,ver,ob⟩ ⟨O,c0,t1,t9,t10,D⟩;have R:1<=n1:=O;have L:=c0;simp only[aM] at c0;refine Y4 c0 t1 t10 D ?_;refine E.run (Ta (lo:=1) (hi:=7) E F ok.dec I ?_ _ ?_);exact W0 L;refine Y4 c0 t1 t10 D ?_;refine E.run (Ta (lo:=0) (hi:=255) E F ok.uses I ?_ _ ?_);exact W0 L;cases H:p.br;refine Y3 c0 H t1 ?_;exact⟨1,rfl⟩;obtain⟨Y,b2,b3,Z,b5,b6,b7,i,j,J⟩:=ok.br H;have c3:((p.right.length:Nat):Int)=3:=by rw[J];rfl
 have g3:p.right.length=3:=by rw[J];rfl
 have g0:p.right[0]? =some (true,i):=by rw[J];rfl
 have g1:p.right[1]? =some (false,p.left):=by rw[J];rfl
 have g2:p.right[2]? =some (true,j):=by rw[J];rfl
 have e0:sub (p.right.flatMap ba) 0 1=some [.b true]:=cW gO g0 (j:=0) (n:=1) ω;have e1:sub (p.right.flatMap ba) 2 2=some [.b false,ι (p.left:Int)]:=cW gO g1 (j:=0) (n:=2) ω;have e3:sub (p.right.flatMap ba) 4 1=some [.b true]:=cW gO g2 (j:=0) (n:=1) ω;have q1:eH 6 (.ag [(0,1,false,(.lf .b)),(1,1,false,(.lf .i))]) (.ag [.b false,ι (p.left:Int)]) (.ag [.b false,ι (p.left:Int)])=some true:=by
  show(match rP .i (ι (p.left:Int)) (ι (p.left:Int)) with|some true=>some true|r=>r)=_;have:rP .i (ι (p.left:Int)) (ι (p.left:Int))=some true:=by show(bif gZ .i64 .i64 then some (eO (p.left:Int) (p.left:Int)) else none)=_;rw[uN,A3];simp
  rw[this]
 have nl:p.lay.length=0:=by rw[b2];rfl
 refine pq c0 H g3 Y b2 b3 Z b5 b6 b7 @y8 e0 e1 e3 q1 t1 ?_;exact⟨1,rfl⟩;exact U1 @aM.eq_1;all_goals exact U0
def aT9 {g} (G:oy g) h:bP P X GL 181 [aI g] h (ι 0) h:=by
 refine ku S (λn h=>rfl) ?_ h;refine bg.intro λC E=> ?_;have nc:=G.nc;have pl:=G.pl;have cl:(fz g.nc).length=g.nc:=by unfold fz;rw[jm];simp;omega
 refine E.bS F.f181 (Y1 @aI.eq_1 ?_);refine E.run (EF E F _ ?_);rintro⟨n1,v1,aQ⟩ dS dD nm1;have b2:n1=3:=dS;subst b2;have c0:cG (aQ.get 0)=some (ar g):=by rw[show aQ.get 0=_ from dD 0 (by show 0<1;omega)];exact U0
 have de:=c0;simp only[ar] at c0;refine Y1 c0 ?_;refine fj E.ok g.pR.length (λi τ h=>3<=h.next/\ cG (h.oB.get 0)=some (ar g)/\ sK h 2 1 ([]::(g.pR.take i).map (·.name))/\ τ.get 1=some (.p 0 0)/\ τ.get 3=some (.f 407 [] [.p 2 0])/\ τ.get 9=some (eR aM 13 true g.pR)/\ τ.get 10=some (ι (g.pR.length:Int))/\ τ.get 11=some (ι (i:Int))) ?_ ?_ _ _ ⟨by show 3<=3;omega,de,nm1,?_,?_,?_,?_,?_⟩;rintro i τ ⟨u,v2,U⟩ hi ⟨b3,d0,nm,t1,t3,t9,t10,bH⟩ ih;have c7:3<=u:=b3;have H:g.pR[i]? =some g.pR[i]:=oc hi;generalize hp:g.pR[i]=p at H;have ok:=G.p p (dI H);have W:sub (g.pR.flatMap aM) (i*13) 13=some (aM p):=cW kr H (j:=0) (n:=13) ω;simp only[aM] at W;have cf:∀h,bP P X GL 285 [.ag [tp (aE p.cond).1,ι ((aE p.cond).2:Int)],ι (g.nc:Int)] h (.b true) h:=λh=>Bw S A F nc ok.cond h;have cd:∀h,bP P X GL 289 [.ag (aM p)] h (.b true) h:=λh=>aT8 S F ok h;simp only[aM] at cd;have b7:(p.rank< -1)=False:=dQ (by have:=ok.rank;omega);have b8:(1<p.rank)=False:=dQ (by have:=ok.rank;omega);have tk:(g.pR.take (i+1)).map (·.name)=(g.pR.take i).map (·.name)++[p.name]:=by rw[nY H,kE];rfl
 have V:=d0;simp only[ar] at d0;have I0:∀(Iv:AH ->Prop),Iv=(λh'=>u+1<=h'.next/\ (∀j,j<u ->h'.oB.get j=U.get j)/\ cG (h'.oB.get u)=some (aM p)) ->∀s,((s.1=true/\ s.2<9)∨(s.1=false/\ s.2<g.nT.length)) ->∀h',Iv h' ->∀k',(∀Y,Iv Y ->k' (.b false) Y) ->hM C 286 [.ag (ba s),.p 0 0] h' k':=by
  rintro Iv rfl s hs ⟨m3,v3,cC⟩ ⟨N,I,D⟩ k' R;have b1:u+1<=m3:=N;have iN:∀j,j<u ->cC.get j=U.get j:=I;have O:cG (cC.get 0)=some (ar g):=by rw[iN 0 ω];exact V
  have cs:∀h,bP P X GL 287 [.ag (ar g),.ag (ba s)] h (.b true) h:=λh=>aT7 S F G hs h;simp only[ar,ba] at cs O;refine E.run ?_;refine E.bS F.f286 (Y2 @ba.eq_1 O ?_);refine E.cN (cs _) (Y0 ?_);exact R _ ⟨by show u+1<=m3+1;omega,λj hj=>(W0 (iN j hj)),(W0 D)⟩
 have I1:=I0 _ rfl;refine Y5 t1 t9 t10 bH W ?_;refine I1 (false,p.left) (.inr ⟨rfl,ok.left⟩) _ ⟨by show u+1<=u+1;omega,λj hj=> ?_,?_⟩ _ ?_;exact U0;exact U1 @aM.eq_1;rintro⟨m3,v3,cC⟩ ⟨N,I,D⟩;have b1:u+1<=m3:=N;dsimp only at D;have Z:=D;simp only[aM] at D;refine Y1 D ?_;refine E.run (aS1 E F (L:=p.right) (nl:=p.rn) (f:=286) (ca:=[.p 0 0]) (by have:=ok.len;omega) (λh'=>u+1<=h'.next/\ (∀j,j<u ->h'.oB.get j=U.get j)/\ cG (h'.oB.get u)=some (aM p)) ⟨N,I,Z⟩ (λs hs h' hI k' R=>I1 s (ok.sym s hs) h' hI k' R) _ ?_);rintro⟨m4,v4,ob4⟩ ⟨hm4,old4,hc4⟩;have c6:u+1<=m4:=hm4;have B:∀j,j<u ->ob4.get j=U.get j:=old4;dsimp only at hc4;have b0:=hc4;simp only[aM] at hc4;have b6:sK ⟨m4,v4,ob4⟩ 2 1 ([]::(g.pR.take i).map (·.name)):=
  ⟨by show cG (ob4.get 2)=_;rw[B 2 ω];exact nm.cc,by show mG (ob4.get 1)=_;rw[B 1 ω];exact nm.mm,nm.ne,⟨by show 1<m4;omega,by show 2<m4;omega⟩⟩
 refine Y2 hc4 t3 ?_;refine E.run (EG E F b6 ?_ _ ?_);intro hm;rcases ed.1 hm with h|h;exact ok.name h;obtain⟨q,hq,he⟩:=sV.1 h;obtain⟨j,hj,b5⟩:=sX.1 hq;have m9:j<i:=by simp at hj;omega
 have h2:(g.pR.take i)[j]? =some q:=by rw[←b5];exact oc hj
 rw[jZ,aF m9] at h2;have:=G.pd _ _ _ _ h2 H he;omega;rintro⟨m5,v5,ob5⟩ hn5 old5 nm5;have d1:m5=m4:=hn5;have J:∀j,j≠1 ->ob5.get j=ob4.get j:=old5;have f0:cG (ob5.get 0)=some (ar g):=by rw[J 0 ω,B 0 ω];exact V
 have b4:=f0;simp only[ar] at f0;have f5:cG (ob5.get u)=some (aM p):=by rw[J u ω];exact b0
 simp only[aM] at f5;refine Y4 f0 f5 cl t1 ?_;refine E.cN (cf _) (Y3 f5 b7 b8 ?_);refine E.cN (cd _) (Y1 bH ?_);refine ih _ _ ⟨by show 3<=m5;omega,b4,by rw[tk];exact nm5,?_,?_,?_,?_,?_⟩<;>exact U4 t1 t3 t9 t10;rintro τ ⟨u,v2,U⟩ ⟨b3,d0,nm,t1,t3,t9,t10,bH⟩;refine Y2 t10 bH ?_;exact⟨1,rfl⟩;all_goals exact U0
def Tb {s}:∀{L:List Nat},look s (L.map λs=>(s,true))=if s∈L then some true else none
 |[]=>rfl
 |a::L=>by
  simp only[jY,look,Tb (L:=L),ed];by_cases e:s=a<;>simp[e]
def aU0 {g} (G:oy g) h:bP P X GL 182 [aI g] h (ι 0) h:=by
 refine ku S (λn h=>rfl) ?_ h;refine bg.intro λC E=> ?_;have nc:=G.nc;have pl:=G.pl;have ll:=G.ll;have cl:(fz g.nc).length=g.nc:=by unfold fz;rw[jm];simp;omega
 refine E.bS F.f182 (Y2 @aI.eq_1 @ar.eq_1 ?_);refine fj E.ok g.lV.length (λi τ h=>cG (h.oB.get 0)=some (ar g)/\ mG (h.oB.get 1)=some (di (λn:Nat=>AV.i .i64 (n:Int)) AV.b 0 (((g.lV.take i).flatMap (·.pR)).map λs=>(s,true)),(((g.lV.take i).flatMap (·.pR)).map λs=>(s,true)).length)/\ 2<=h.next/\ τ.get 1=some (.p 0 0)/\ τ.get 3=some (.m 1)/\ τ.get 10=some (eR iK 4 true g.lV)/\ τ.get 11=some (ι (g.lV.length:Int))/\ τ.get 12=some (ι (i:Int))) ?_ ?_ _ _ ⟨?_,?_,?_,?_,?_,?_,?_,?_⟩
 ·rintro i τ ⟨n1,ver,ob⟩ hi ⟨c0,c1,hn,t1,t3,t10,bH,J⟩ ih;have c6:2<=n1:=hn;have de:=c0;simp only[ar] at c0;dsimp only at c1;have H:g.lV[i]? =some g.lV[i]:=oc hi;generalize hl:g.lV[i]=l at H;obtain⟨l1,l2,l3⟩:=G.l l (dI H);have e4:sub (g.lV.flatMap iK) (i*4) 4=some (iK l):=cW Ev H (j:=0) (n:=4) ω;simp only[iK] at e4;have cf:∀h,bP P X GL 285 [.ag [tp (aE l.cond).1,ι ((aE l.cond).2:Int)],ι (g.nc:Int)] h (.b true) h:=λh=>Bw S A F nc l2 h;have b0:(g.lV.take (i+1)).flatMap (·.pR)=(g.lV.take i).flatMap (·.pR)++l.pR:=by rw[nY H,Bd];simp
  have L:g.lV.flatMap (·.pR)=(g.lV.take i).flatMap (·.pR)++(l.pR++(g.lV.drop (i+1)).flatMap (·.pR)):=by
   have h1:g.lV=g.lV.take (i+1)++g.lV.drop (i+1):=(vJ _ _).symm;rw[←nz,←b0,←Bd,←h1]
  refine Y7 c0 t1 t10 bH J e4 cl ?_;refine E.cN (cf _) (Y0 ?_);refine fj E.ok l.pR.length (λk τ h=>cG (h.oB.get 0)=some (ar g)/\ mG (h.oB.get 1)=some (di (λn:Nat=>AV.i .i64 (n:Int)) AV.b 0 (((g.lV.take i).flatMap (·.pR)++l.pR.take k).map λs=>(s,true)),(((g.lV.take i).flatMap (·.pR)++l.pR.take k).map λs=>(s,true)).length)/\ 2<=h.next/\ τ.get 1=some (.p 0 0)/\ τ.get 3=some (.m 1)/\ τ.get 10=some (eR iK 4 true g.lV)/\ τ.get 11=some (ι (g.lV.length:Int))/\ τ.get 12=some (ι (i:Int))/\ τ.get 34=some (eR cI 1 true l.pR)/\ τ.get 35=some (ι (l.pR.length:Int))/\ τ.get 36=some (ι (k:Int))) ?_ ?_ _ _ ⟨?_,?_,?_,?_,?_,?_,?_,?_,?_,?_,?_⟩
  ·rintro k τ ⟨O,v2,aJ⟩ hk ⟨Z,d1,dn,s1,s3,R,U,V,W,I,Y⟩ b8;have B:l.pR[k]? =some l.pR[k]:=oc hk;generalize hx:l.pR[k]=x at B;have e1:sub (l.pR.flatMap cI) k 1=some [ι (x:Int)]:=by
    have:=cW qw B (j:=0) (n:=1) ω;simpa[cI] using this
   have b7:x∈g.lV.flatMap (·.pR):=by rw[L];simp[dI B]
   have c7:=G.lp x b7;have N:=G.ld;rw[L] at N;have b5:l.pR=l.pR.take k++(x::l.pR.drop (k+1)):=by
    have b4:l.pR.drop k=x::l.pR.drop (k+1):=by rw[Lr hk,hx]
    rw[←b4,vJ]
   have b6:x∉(g.lV.take i).flatMap (·.pR)++l.pR.take k:=by
    intro hm;rw[b5,nz,←nz] at N;exact(zE.1 N).2.2 x hm x (by simp) rfl
   generalize hD:(g.lV.take i).flatMap (·.pR)++l.pR.take k=D at*;have b3:(g.lV.take i).flatMap (·.pR)++l.pR.take (k+1)=D++[x]:=by rw[nY B,←nz,hD]
   have b1:look x (D.map λs=>(s,true))=none:=by rw[Tb,aD b6]
   have hu:ups x true (D.map λs=>(s,true))=(D++[x]).map λs=>(s,true):=by rw[yg b1,kE];rfl
   have lk:∀u ob' (τ:T AV),mG (T.get ob' 1)=some (di (λn:Nat=>AV.i .i64 (n:Int)) AV.b 0 (D.map λs=>(s,true)),(D.map λs=>(s,true)).length) ->az C τ (.t 50)= .m 1 ->az C τ (.t 51)=ι (x:Int) ->
    step (az C τ) ⟨O,u,ob'⟩ (.look (.lf .i) (.t 50) (.t 51) (.b false) false)= .v (.b false) ⟨O,u,ob'⟩:=λu ob' τ q1 q2 q3=>by
    have:=sd (k:=x) (z:= .b false) (en:=AV.b) lW (h:=⟨O,u,ob'⟩) (fT.2 q1) q2 q3;rw[b1] at this;exact this
   have mu:∀u ob' (τ:T AV),mG (T.get ob' 1)=some (di (λn:Nat=>AV.i .i64 (n:Int)) AV.b 0 (D.map λs=>(s,true)),(D.map λs=>(s,true)).length) ->az C τ (.t 54)= .m 1 ->az C τ (.t 55)=ι (x:Int) ->
    step (az C τ) ⟨O,u,ob'⟩ (.mupd (.lf .i) (.t 54) (.t 55) (.c (.b true)))= .v .un ⟨O,u+1,ob'.put 1 (.map (u+1) (di (λn:Nat=>AV.i .i64 (n:Int)) AV.b 0 (ups x true (D.map λs=>(s,true)))) (ups x true (D.map λs=>(s,true))).length)⟩:=
    λu ob' τ q1 q2 q3=>mL (k:=x) (v:=true) (en:=AV.b) lW (h:=⟨O,u,ob'⟩) (fT.2 q1) q2 q3 rfl
   rw[hu] at mu;have b2:=Z;simp only[ar] at Z;dsimp only at d1;refine Z9 Z s1 s3 W I Y e1 lk mu ?_;refine b8 _ _ ⟨?_,?_,dn,?_,?_,?_,?_,?_,?_,?_,?_⟩;exact W0 b2;exact U1 b3;all_goals exact U7 s1 s3 R U V W I
  rintro τ ⟨O,v2,aJ⟩ ⟨Z,d1,dn,s1,s3,R,U,V,W,I,Y⟩;rw[rL,←b0] at d1;refine Y3 V I Y ?_;refine ih _ _ ⟨Z,d1,dn,?_,?_,?_,?_,?_⟩<;>exact U4 s1 s3 R U;exact W0 de;simp(disch:=omega) only[dh,T.get_put,bV,Cf,lG];exact c1;show 2<=n1+1;omega;all_goals exact U5 t1 t3 t10 bH J
 rintro τ ⟨n1,ver,ob⟩ ⟨c0,c1,hn,t1,t3,t10,bH,J⟩;refine Y2 bH J ?_;exact⟨1,rfl⟩;exact U1 @ar.eq_1;exact U0;show 2<=2;omega;all_goals exact U0
def Kh (lit:Bool):Nat:=if lit then 291 else 290
def Ki {lit c x} (D:x<9) (G:lit=true ->1<=x) k
 (B:∀h',h'.next=h.next+1 ->(∀j,j<h.next ->h'.oB.get j=h.oB.get j) ->k (.b true) h'):du C (Kh lit) [.ag (dq (c,x))] h k:=by
 obtain⟨m,ver,ob⟩:=h;have H:((l7 x:Nat):Int)=0:=by rw[JZ D];rfl
 cases lit;show du C 290 _ _ _;refine E.bS F.f290 (Y2 @dq.eq_1 H ?_);refine B _ rfl λj u=> ?_;have J:j<m:=u;exact U0;have I:(jQ x=[])=False:=dQ (S3 x (G rfl) D);show du C 291 _ _ _;refine E.bS F.f291 (Y2 @dq.eq_1 I ?_);refine B _ rfl λj u=> ?_;have J:j<m:=u;exact U0
def Tc {g} (G:oy g) {l nl lit} (xt:l≠[]) (h9:∀t∈l,t<9/\ (lit=true ->1<=t)) (I:∀i a b,l[i]? =some a ->l[i+1]? =some b ->a<b) (eQ:l.length<=16) k
 (hk:∀h',h.next<=h'.next ->(∀j,j<h.next ->h'.oB.get j=h.oB.get j) ->k (.b true) h'):du C 293 [aI g,eR cI 1 nl l,.f (Kh lit) [] []] h k:=by
 obtain⟨m,ver,ob⟩:=h;have tl:=G.tcl;have hz:g.tc.zipIdx.length=11:=by rw[ny,tl]
 have L:((11:Nat):Int)=11:=rfl;have b0:0<l.length:=xG.2 xt;refine E.bS F.f293 (Y2 @aI.eq_1 @ar.eq_1 ?_);refine fj E.ok l.length (λi τ h=>m+1<=h.next/\ (∀j,j<m ->h.oB.get j=ob.get j)/\ cG (h.oB.get m)=some (ar g)/\ τ.get 1=some (eR cI 1 nl l)/\ τ.get 2=some (.f (Kh lit) [] [])/\ τ.get 3=some (.p m 0)/\ τ.get 9=some (eR cI 1 nl l)/\ τ.get 10=some (ι (l.length:Int))/\ τ.get 11=some (ι (i:Int))) ?_ ?_ _ _ ⟨bB _,?_,?_,?_,?_,?_,?_,?_,?_⟩;rintro i τ ⟨n1,v1,N⟩ hi ⟨R,old,c0,t1,t2,t3,t9,t10,D⟩ ih;have U:m+1<=n1:=R;have Y:∀j,j<m ->N.get j=ob.get j:=old;have W:=c0;simp only[ar] at c0;have u:l[i]? =some l[i]:=oc hi;generalize hx:l[i]=x at u;obtain⟨x9,xl⟩:=h9 x (dI u);obtain⟨c,_,V⟩:=re (g:=g) tl (i:=x) ω;have e1:sub (l.flatMap cI) i 1=some [ι (x:Int)]:=by
  have:=cW qw u (j:=0) (n:=1) ω;simpa[cI] using this
 have e7:sub (g.tc.zipIdx.flatMap dq) (x*7) 7=some (dq (c,x)):=cW qx V (j:=0) (n:=7) ω;by_cases i0:i=0;subst i0;refine nS c0 t2 t3 t9 t10 D hz L e1 e7 ?_;refine E.run (Ki E F x9 xl _ ?_);rintro⟨n2,v2,aJ⟩ hn2 eG;have J:n2=n1+1:=hn2;have H:∀j,j<n1 ->aJ.get j=N.get j:=eG;refine Y3 t1 t10 D ?_;refine ih _ _ ⟨by show m+1<=n2;omega,λj O=>(H j ω).trans (Y j O),by show cG (aJ.get m)=_;rw[H m ω];exact W,?_,?_,?_,?_,?_,?_⟩<;>simp only[T.get_put,Nat.reduceEqDiff,reduceIte,t1,t2,t3,t9,t10];rfl;have B:l[i-1]? =some l[i-1]:=oc ω;generalize hy:l[i-1]=y at B;have ej:sub (l.flatMap cI) (i-1) 1=some [ι (y:Int)]:=by
  have:=cW qw B (j:=0) (n:=1) ω;simpa[cI] using this
 have Z:y<x:=I (i-1) y x B (by rw[show i-1+1=i by omega];exact u);have es:aY .sub (ι (i:Int)) (ι 1)=some (ι ((i-1:Nat):Int)):=qV (b:=1) ω;refine pm c0 t1 t2 t3 t9 t10 D hz L e1 e7 ej es ?_;refine E.run (Ki E F x9 xl _ ?_);rintro⟨n2,v2,aJ⟩ hn2 eG;have J:n2=n1+1:=hn2;have H:∀j,j<n1 ->aJ.get j=N.get j:=eG;refine Y1 D ?_;refine ih _ _ ⟨by show m+1<=n2;omega,λj O=>(H j ω).trans (Y j O),by show cG (aJ.get m)=_;rw[H m ω];exact W,?_,?_,?_,?_,?_,?_⟩<;>exact U5 t1 t2 t3 t9 t10;rintro τ ⟨n1,v1,N⟩ ⟨R,old,c0,t1,t2,t3,t9,t10,D⟩;have U:m+1<=n1:=R;refine Y3 t1 t10 D ?_;exact hk _ (by show m<=n1;omega) old;intro j O;exact U0;exact U1 @ar.eq_1;all_goals exact U0
def aU1 {g} (G:oy g) {f pp u} (B:g.pR[f.par]? =some pp) (H:g.pR[f.child]? =some u) (I:pp.right[f.at_]? =some (false,u.left)) h:
 bP P X GL 292 [aI g,.ag (eF f)] h (.b true) h:=by
 refine ku S (λn h=>by simp only[aL,bZ,nX (ju _)]) ?_ h;refine bg.intro λC E=> ?_;have O:=(eC.1 B).1;have R:=(eC.1 H).1;have N:=(eC.1 I).1;have D:=G.p pp (dI B);have J:=D.len;have pl:=G.pl;have e2:sub (g.pR.flatMap aM) (f.par*13+2) 1=some [eR ba 2 pp.rn pp.right]:=cW kr B (j:=2) (n:=1) ω;have e1:sub (g.pR.flatMap aM) (f.child*13+1) 1=some [ι (u.left:Int)]:=cW kr H (j:=1) (n:=1) ω;have e3:sub (pp.right.flatMap ba) (f.at_*2) 2=some [.b false,ι (u.left:Int)]:=cW gO I (j:=0) (n:=2) ω;have L:eH 6 (.ag [(0,1,false,(.lf .b)),(1,1,false,(.lf .i))]) (.ag [.b false,ι (u.left:Int)]) (.ag [.b false,ι (u.left:Int)])=some true:=by
  show(match rP .i (ι (u.left:Int)) (ι (u.left:Int)) with|some true=>some true|r=>r)=_;have:rP .i (ι (u.left:Int)) (ι (u.left:Int))=some true:=by show(bif gZ .i64 .i64 then some (eO (u.left:Int) (u.left:Int)) else none)=_;rw[uN,A3];simp
  rw[this]
 refine E.bS F.f292 (Y7 @aI.eq_1 @ar.eq_1 @eF.eq_1 e1 e2 e3 L ?_);exact⟨1,rfl⟩
def aU2 {c} k
 (B:∀h',h'.next=h.next+1 ->(∀j,j<h.next ->h'.oB.get j=h.oB.get j) ->k (.b false) h'):du C 291 [.ag (dq (c,0))] h k:=by
 obtain⟨m,ver,ob⟩:=h;have D:jQ 0=[]:=rfl;refine E.bS F.f291 (Y2 @dq.eq_1 D ?_);refine B _ rfl λj u=> ?_;have G:j<m:=u;exact U0
def aU3 {g} (G:oy g) h:bP P X GL 183 [aI g] h (ι 0) h:=by
 refine ku S (λn h=>rfl) ?_ h;refine bg.intro λC E=> ?_;have nc:=G.nc;have fl:=G.fl;have ntl:=G.ntl;have cl:(fz g.nc).length=g.nc:=by unfold fz;rw[jm];simp;omega
 have c1:((1:Nat):Int)=1:=rfl;have c2:((2:Nat):Int)=2:=rfl;have c3:((3:Nat):Int)=3:=rfl;have c4:((4:Nat):Int)=4:=rfl;have c5:((5:Nat):Int)=5:=rfl;refine E.bS F.f183 (Y2 @aI.eq_1 @ar.eq_1 ?_);refine fj E.ok g.fI.length (λi τ h=>cG (h.oB.get 0)=some (ar g)/\ 1<=h.next/\ τ.get 1=some (.p 0 0)/\ τ.get 3=some (.f 290 [] [])/\ τ.get 4=some (.f 291 [] [])/\ τ.get 10=some (eR eF 9 true g.fI)/\ τ.get 11=some (ι (g.fI.length:Int))/\ τ.get 12=some (ι (i:Int))) ?_ ?_ _ _ ⟨?_,?_,?_,?_,?_,?_,?_,?_⟩;rintro i τ ⟨n1,ver,ob⟩ hi ⟨J,hn,t1,t3,t4,t10,U,B⟩ ih;have b7:1<=n1:=hn;have L:=J;simp only[ar] at J;have R:g.fI[i]? =some g.fI[i]:=oc hi;generalize hf:g.fI[i]=f at R;have ok:=G.f f (dI R);have tl:=ok.tl;have e9:sub (g.fI.flatMap eF) (i*9) 9=some (eF f):=cW JP R (j:=0) (n:=9) ω;simp only[eF] at e9;have cf:∀h,bP P X GL 285 [.ag [tp (aE f.cond).1,ι ((aE f.cond).2:Int)],ι (g.nc:Int)] h (.b true) h:=λh=>Bw S A F nc ok.cond h;refine Y7 J t1 t10 U B e9 cl ?_;refine E.cN (cf _) ?_;rcases ok.kinds with ⟨u,h1,h2,Y,pp,cp,Z,H,h6⟩|⟨u,h1,h2,Y,Z,H,h6,h7,h8⟩|⟨u,h1,h2,Y,Z,H,h6,h7,h8⟩
 ·have I:∀h,bP P X GL 292 [.ag (ar g),.ag (eF f)] h (.b true) h:=λh=>aU1 S F G Z H h6 h;simp only[ar,eF] at I;rcases u with u|u<;>
   (
    simp only[u] at I;refine Y5 J t1 u c1 c2 ?_;refine E.cN (I _) (Y4 B h1 h2 Y ?_);refine ih _ _ ⟨?_,?_,?_,?_,?_,?_,?_,?_⟩;exact W0 L;show 1<=n1+1+1;omega;all_goals exact U5 t1 t3 t4 t10 U)
 ·rcases u with u|u<;>
   (
    refine Y6 J t1 t3 u c3 c4 ?_;refine E.run (Tc E F (lit:=false) (nl:=f.tn) G h6 (λt ht=>⟨h7 t ht,λh=>by cases h⟩) h8 tl _ ?_);rintro⟨n2,v2,aJ⟩ hn2 eG;have b0:n1+1+1<=n2:=hn2;have V:∀j,j<n1+1+1 ->aJ.get j=_:=eG;have W:cG (aJ.get 0)=some (ar g):=by rw[V 0 ω];exact W0 L
    have O:cG (aJ.get (n1+1))=some [ι 0,ι (f.par:Int),ι (f.at_:Int),ι (f.child:Int),ι 0,ι (f.tok:Int),.sn,.sn,ι 0]:=by
     rw[V (n1+1) ω];exact U0
    refine Y6 O B h1 h2 Y Z ?_;refine ih _ _ ⟨W,by show 1<=n2;omega,?_,?_,?_,?_,?_,?_⟩;all_goals exact U5 t1 t3 t4 t10 U)
 ·have tcl:=G.tcl;have hz:g.tc.zipIdx.length=11:=by rw[ny,tcl]
  have b4:((11:Nat):Int)=11:=rfl;obtain⟨c,_,b2⟩:=re (g:=g) tcl (i:=0) ω;have e7:sub (g.tc.zipIdx.flatMap dq) 0 7=some (dq (c,0)):=cW qx b2 (j:=0) (n:=7) ω;refine Y6 J t1 t4 u H c5 ?_;refine E.run (Tc E F (lit:=true) (nl:=f.tn) G h6 (λt ht=>⟨(h7 t ht).2,λ_=>(h7 t ht).1⟩) h8 tl _ ?_);rintro⟨n2,v2,aJ⟩ hn2 eG;have b0:n1+1+1<=n2:=hn2;have V:∀j,j<n1+1+1 ->aJ.get j=_:=eG;have W:cG (aJ.get 0)=some (ar g):=by rw[V 0 ω];exact W0 L
  have b1:=W;simp only[ar] at W;have N:cG (aJ.get n1)=some (eF f):=by
   rw[V n1 ω];exact U3 @eF.eq_1 u H
  have O:cG (aJ.get (n1+1))=some [ι 0,ι (f.par:Int),ι (f.at_:Int),ι (f.child:Int),ι (f.left:Int),ι 0,.sn,.sn,ι 0]:=by
   rw[V (n1+1) ω];exact U0
  simp only[eF,H] at N;refine Y7 W N t1 t3 hz b4 e7 ?_;refine E.run (Ki (lit:=false) (c:=c) (x:=0) E F ω (λh=>by cases h) _ ?_);rintro⟨n3,v3,cC⟩ hn3 old3;have b5:n3=n2+1:=hn3;have iN:∀j,j<n2 ->cC.get j=aJ.get j:=old3;have i0:cG (cC.get 0)=some (ar g):=by rw[iN 0 ω];exact b1
  have b3:=i0;simp only[ar] at i0;have i6:cG (cC.get n1)=some (eF f):=by rw[iN n1 ω];simp only[eF,H];exact N
  simp only[eF,H] at i6;have i8:cG (cC.get (n1+1))=some [ι 0,ι (f.par:Int),ι (f.at_:Int),ι (f.child:Int),ι (f.left:Int),ι 0,.sn,.sn,ι 0]:=by rw[iN (n1+1) ω];exact O
  refine Y5 i0 i6 t1 t4 e7 ?_;refine E.run (aU2 (c:=c) E F _ ?_);rintro⟨n4,v4,ob4⟩ hn4 old4;have b6:n4=n3+1:=hn4;have D:∀j,j<n3 ->ob4.get j=cC.get j:=old4;have j0:cG (ob4.get 0)=some (ar g):=by rw[D 0 ω];exact b3
  have j8:cG (ob4.get (n1+1))=some [ι 0,ι (f.par:Int),ι (f.at_:Int),ι (f.child:Int),ι (f.left:Int),ι 0,.sn,.sn,ι 0]:=by rw[D (n1+1) ω];exact i8
  refine Y6 j8 B h1 h2 Y Z ?_;refine ih _ _ ⟨j0,by show 1<=n4;omega,?_,?_,?_,?_,?_,?_⟩;all_goals exact U5 t1 t3 t4 t10 U
 rintro τ ⟨n1,ver,ob⟩ ⟨J,hn,t1,t3,t4,t10,U,B⟩;refine Y2 U B ?_;exact⟨1,rfl⟩;exact U1 @ar.eq_1;exact bB _;all_goals exact U0
def Td {g} (G:oy g) h:bP P X GL 94 [aI g] h (ι 0) h:=by
 refine ku S (λn h=>rfl) ?_ h;refine bg.intro λC E=> ?_;have B:∀h,bP P X GL 177 [.ag (ar g)] h (.b false) h:=λh=>aT4 S F G h;have H:∀h,bP P X GL 178 [.ag (ar g)] h (ι 0) h:=λh=>aT2 S A F G h;have I:∀h,bP P X GL 179 [.ag (ar g)] h (ι 0) h:=λh=>aT6 S A F hg G h;have J:∀h,bP P X GL 180 [.ag (ar g)] h (ι 0) h:=λh=>aT3 S F G h;have L:∀h,bP P X GL 181 [.ag (ar g)] h (ι 0) h:=λh=>aT9 S A F G h;have N:∀h,bP P X GL 182 [.ag (ar g)] h (ι 0) h:=λh=>aU0 S A F G h;have O:∀h,bP P X GL 183 [.ag (ar g)] h (ι 0) h:=λh=>aU3 S A F G h;have all:∀(i:Nat),i<6 ->∀h,bP P X GL (178+i) [.ag (ar g)] h (ι 0) h:=by
  intro i hi h;rcases(show i=0∨i=1∨i=2∨i=3∨i=4∨i=5 by omega) with rfl|rfl|rfl|rfl|rfl|rfl;exact H h;exact I h;exact J h;exact L h;exact N h;exact O h
 have D:((6:Nat):Int)=6:=rfl;have fs:∀(i:Nat),i<6 ->sub [AV.f 178 [] [],.f 179 [] [],.f 180 [] [],.f 181 [] [],.f 182 [] [],.f 183 [] []] i 1=some [.f (178+i) [] []]:=by
  intro i hi;rcases(show i=0∨i=1∨i=2∨i=3∨i=4∨i=5 by omega) with rfl|rfl|rfl|rfl|rfl|rfl<;>rfl
 rw[E.cB F.f94];simp only[ar] at B;refine Y2 @aI.eq_1 @ar.eq_1 ?_;refine E.cN (B _) (Y1 D ?_);refine fj E.ok 6 (λi τ h=>cG (h.oB.get 0)=some (ar g)/\ cG (h.oB.get 1)=some [AV.f 178 [] [],.f 179 [] [],.f 180 [] [],.f 181 [] [],.f 182 [] [],.f 183 [] []]/\ τ.get 1=some (.p 0 0)/\ τ.get 10=some (.sl 1 0 6 (some 6) 1)/\ τ.get 11=some (ι 6)/\ τ.get 12=some (ι (i:Int))) ?_ ?_ _ _ ⟨?_,?_,?_,?_,?_,?_⟩;rintro i τ ⟨n1,ver,ob⟩ hi ⟨c0,c1,t1,t10,u,j⟩ U;have R:=c0;simp only[ar] at c0;dsimp only at c1;have f1:=fs i hi;have a1:=all i hi;simp only[ar] at a1;refine Y7 c0 c1 t1 t10 u j f1 ?_;refine E.cN (a1 _) (Y1 j ?_);refine U _ _ ⟨R,c1,?_,?_,?_,?_⟩<;>exact U3 t1 t10 u;rintro τ ⟨n1,ver,ob⟩ ⟨c0,c1,t1,t10,u,j⟩;refine Y3 u j D ?_;exact⟨1,rfl⟩;exact U1 @ar.eq_1;all_goals exact U0
end
end AM
