import Derived.Test.YtdicmpmcdjdneaaGreatDoorN19
set_option linter.all false
set_option maxHeartbeats 4000000
namespace AM
open Dg Go
noncomputable section
def m3 (h:AH):AV ->AV ->AV ->da
 | .i .i64 a,.i .i64 b,.i .i64 c=> .v (ι (max (max a b) c)) h
 | .i k a,y,z=>dr h (jy (λx y=>fD y x) k [y,z] a)
 |_,_,_=> .bad
variable {h:AH}
def aR8 {ev x y z}:step ev h (.max [x,y,z])=m3 h (ev x) (ev y) (ev z):=by
 have B:step ev h (.max [x,y,z])=(match eE ev [x,y,z] with|some (.i k a::r)=>dr h (jy (λx y=>fD y x) k r a)|_=> .bad):=rfl;have j:∀(p q r:Int),jy (λx y=>fD y x) .i64 [ι q,ι r] p=(bif fD p q then (bif fD q r then some (ι r) else some (ι q)) else (bif fD p r then some (ι r) else some (ι p))):=λp q r=>rfl;rw[B];simp only[wC,DG,qH];cases ev x<;>try rfl
 rename_i k a;cases ev y<;>cases k<;>try rfl
 rename_i k' b;cases k'<;>try rfl
 cases ev z<;>try rfl
 rename_i k' c;cases k'<;>try rfl
 dsimp only;rw[j,mI,mI,mI,rM,rM,rM];simp only[m3];have q:∀x y:Int,x=y ->dr h (some (ι x))= .v (ι y) h:=λx y e=>by rw[e];rfl
 by_cases h1:a<b;rw[aF h1];by_cases h2:b<c;rw[aF h2];exact q _ _ ω;rw[aD h2];exact q _ _ ω;rw[aD h1];by_cases h2:a<c;rw[aF h2];exact q _ _ ω;rw[aD h2];exact q _ _ ω
def aR9 {a b c}:m3 h (ι a) (ι b) (ι c)= .v (ι (max (max a b) c)) h:=rfl
variable {P:Program} {X:aR} {GL:T (List AV)} {ae:T au}
structure sK (h:AH) (c o:Nat) (L:List (List Nat)):Prop where
 cc:cG (h.oB.get c)=some [.m o]
 mm:mG (h.oB.get o)=some (di AV.s AV.b 0 (L.map λs=>(s,true)),(L.map λs=>(s,true)).length)
 ne:c≠o
 lt:o<h.next/\ c<h.next
def S9 {s}:∀{L:List (List Nat)},look s (L.map λs=>(s,true))=if s∈L then some true else none
 |[]=>rfl
 |a::L=>by
  simp only[jY,look,S9 (L:=L),ey];by_cases e:s=a<;>simp[e]
variable (S:aT P X GL ae) {C:aK Prop} (E:Sem P X GL ae C)
variable (A:dY P X GL) (F:bz8 ae)
def EF k
 (G:∀h',h'.next=h.next+2 ->(∀j,j<h.next ->h'.oB.get j=h.oB.get j) ->sK h' (h.next+1) h.next [[]] ->k (.f 414 [] [.p (h.next+1) 0]) h'):du C 290 [] h k:=by
 obtain⟨m,ver,ob⟩:=h;have H:∀B ob' (τ:T AV),mG (T.get ob' m)=some ([],0) ->az C τ (.t 2)= .m m ->
  step (az C τ) ⟨m+1,B,ob'⟩ (.mupd (.lf .s) (.t 2) (.c (.s [])) (.c (.b true)))= .v .un ⟨m+1,B+1,ob'.put m (.map (B+1) (di AV.s AV.b 0 [([],true)]) 1)⟩:=
  λB ob' τ I J=>mL (k:=[]) (v:=true) (en:=AV.b) (l:=[]) Hc (h:=⟨m+1,B,ob'⟩) (fT.2 I) J rfl rfl
 refine E.bS (F.f 290) (Z1 H ?_);refine G _ (by rfl) (λj D=> ?_) ⟨?_,?_,by show m+1≠m;omega,⟨by show m<m+2;omega,by show m+1<m+2;omega⟩⟩;have L:j<m:=D;(iterate 3 exact U0)
def EG {c o L s} (nm:sK h c o L) (V:s∉L) k
 (R:∀h',h'.next=h.next ->(∀j,j≠o ->h'.oB.get j=h.oB.get j) ->sK h' c o (L++[s]) ->k (.b true) h'):du C 414 [.s s,.p c 0] h k:=by
 obtain⟨m,ver,ob⟩:=h;have D:=nm.cc;have U:=nm.mm;have Z:=nm.ne;have O:=nm.lt;dsimp only at D U;have J:look s (L.map λs=>(s,true))=none:=by rw[S9,aD V]
 have Y:∀B ob' (τ:T AV),mG (T.get ob' o)=some (di AV.s AV.b 0 (L.map λs=>(s,true)),(L.map λs=>(s,true)).length) ->az C τ (.t 4)= .m o ->az C τ (.t 5)= .s s ->
  step (az C τ) ⟨m,B,ob'⟩ (.look (.lf .s) (.t 4) (.t 5) (.b false) false)= .v (.b false) ⟨m,B,ob'⟩:=λB ob' τ G H I=>by
  have:=sd (k:=s) (z:= .b false) (en:=AV.b) Hc (h:=⟨m,B,ob'⟩) (fT.2 G) H I;rw[J] at this;exact this
 have N:∀B ob' (τ:T AV),mG (T.get ob' o)=some (di AV.s AV.b 0 (L.map λs=>(s,true)),(L.map λs=>(s,true)).length) ->az C τ (.t 7)= .m o ->az C τ (.t 8)= .s s ->
  step (az C τ) ⟨m,B,ob'⟩ (.mupd (.lf .s) (.t 7) (.t 8) (.c (.b true)))= .v .un ⟨m,B+1,ob'.put o (.map (B+1) (di AV.s AV.b 0 (ups s true (L.map λs=>(s,true)))) (ups s true (L.map λs=>(s,true))).length)⟩:=
  λB ob' τ G H I=>mL (k:=s) (v:=true) (en:=AV.b) Hc (h:=⟨m,B,ob'⟩) (fT.2 G) H I rfl
 have W:ups s true (L.map λs=>(s,true))=(L++[s]).map λs=>(s,true):=by rw[yg J,kE];rfl
 rw[W] at N;refine E.bS (F.f 414) (Z3 D Y N ?_);exact R _ rfl (λj hj=>U0) ⟨(W0 D),U0,Z,O⟩
def aS0 {L nl f ca} (U:L.length<=1000) (I:AH ->Prop) (hI:I h) (N:∀p∈L,∀h',I h' ->∀k',(∀B,I B ->k' (.b false) B) ->g9 C f (.ag (aM p)::ca) h' k') k (O:∀h',I h' ->k (.b false) h'):
 du C 288 [eR aM 13 nl L,.f f [] ca] h k:=by
 refine E.bS (F.f 288) (Y0 ?_);refine E.run ?_;refine E.bS (F.f 413) (Y0 ?_);refine fj E.ok L.length (λi τ h=>I h/\ τ.get 0=some (eR aM 13 nl L)/\ τ.get 1=some (.f f [] ca)/\ τ.get 7=some (ι (L.length:Int))/\ τ.get 8=some (ι (i:Int))) ?_ ?_ _ _ ⟨hI,?_,?_,?_,?_⟩;rintro i τ h' hi ⟨D,t0,t1,t7,t8⟩ R;have G:L[i]? =some L[i]:=ef hi;generalize V:L[i]=p at G;have J:sub (L.flatMap aM) (i*13) 13=some (aM p):=cW kr G (j:=0) (n:=13) ω;refine Y5 t0 t1 t7 t8 J ?_;refine N p (dI G) h' D _ λB H=> ?_;refine Y1 t8 ?_;refine R _ _ ⟨H,?_,?_,?_,?_⟩<;>exact U3 t0 t1 t7;rintro τ h' ⟨D,t0,t1,t7,t8⟩;refine Y2 t7 t8 ?_;exact O h' D;all_goals exact U0
def aS1 {L nl f ca} (U:L.length<=1000) (I:AH ->Prop) (hI:I h) (N:∀p∈L,∀h',I h' ->∀k',(∀B,I B ->k' (.b false) B) ->g9 C f (.ag (dO p)::ca) h' k') k (O:∀h',I h' ->k (.b false) h'):
 du C 295 [eR dO 2 nl L,.f f [] ca] h k:=by
 refine E.bS (F.f 295) (Y0 ?_);refine E.run ?_;refine E.bS (F.f 417) (Y0 ?_);refine fj E.ok L.length (λi τ h=>I h/\ τ.get 0=some (eR dO 2 nl L)/\ τ.get 1=some (.f f [] ca)/\ τ.get 7=some (ι (L.length:Int))/\ τ.get 8=some (ι (i:Int))) ?_ ?_ _ _ ⟨hI,?_,?_,?_,?_⟩;rintro i τ h' hi ⟨D,t0,t1,t7,t8⟩ R;have G:L[i]? =some L[i]:=ef hi;generalize V:L[i]=p at G;have J:sub (L.flatMap dO) (i*2) 2=some (dO p):=cW gO G (j:=0) (n:=2) ω;refine Y5 t0 t1 t7 t8 J ?_;refine N p (dI G) h' D _ λB H=> ?_;refine Y1 t8 ?_;refine R _ _ ⟨H,?_,?_,?_,?_⟩<;>exact U3 t0 t1 t7;rintro τ h' ⟨D,t0,t1,t7,t8⟩;refine Y2 t7 t8 ?_;exact O h' D;all_goals exact U0
def mU:T (List AV):= .n (.n .e (some [.i .u8 0,.i .u8 1,.i .u8 56,.i .u8 2,.i .u8 57,.i .u8 49,.i .u8 28,.i .u8 3,.i .u8 61,.i .u8 58,.i .u8 42,.i .u8 50,.i .u8 38,.i .u8 29,.i .u8 17,.i .u8 4,.i .u8 62,.i .u8 47,.i .u8 59,.i .u8 36,.i .u8 45,.i .u8 43,.i .u8 51,.i .u8 22,.i .u8 53,.i .u8 39,.i .u8 33,.i .u8 30,.i .u8 24,.i .u8 18,.i .u8 12,.i .u8 5,.i .u8 63,.i .u8 55,.i .u8 48,.i .u8 27,.i .u8 60,.i .u8 41,.i .u8 37,.i .u8 16,.i .u8 46,.i .u8 35,.i .u8 44,.i .u8 21,.i .u8 52,.i .u8 32,.i .u8 23,.i .u8 11,.i .u8 54,.i .u8 26,.i .u8 40,.i .u8 15,.i .u8 34,.i .u8 20,.i .u8 31,.i .u8 10,.i .u8 25,.i .u8 14,.i .u8 19,.i .u8 9,.i .u8 13,.i .u8 8,.i .u8 7,.i .u8 6]) .e) none .e
def Kf (t:Tr) (f:Nat) (a:List AV):Option AV:=bif Nat.beq f 104 then (match a with
 |[x]=>bif cZ 64 x (eT t) then some (ι 0) else none
 |_=>none) else none
def Iu (GL:T (List AV)) (n:Nat) (t:Tr):Bool:=bif jq n t then gM GL aG (Kf t) 100000 292 [eT t,ι (.ofNat n)] (.b true) else true
def hI (GL:T (List AV)):(List.range 3).all (λi=>gM GL aG (λ_ _=>none) 100000 291 [.s [65+i]] (.b true))=true:=lR
def hP (GL:T (List AV)):[0,9,10].all (λi=>gM GL aG (λ_ _=>none) 100000 194 [eR iF 5 true (jg i)] (ι 0))=true:=lR
def hM0:gM mU aG (λ_ _=>none) 100000 105 [eR iF 5 true (jg 0),.s [120]] (.b true)=true:=lR
def PR (GL:T (List AV)) (t:Tr):Bool:=(List.range 4).all λn=>Iu GL n t
def hF0 GL:qp (PR GL) 0=true:=lR
def hF1 GL:qp (PR GL) 1=true:=lR
def hF2 GL:qp (PR GL) 2=true:=lR
def hF3 GL:qp (PR GL) 3=true:=lR
def aS8 {t} (G:cA 3 t=true):Dp P X GL (Kf t):=by
 intro f a v j h;unfold Kf at j;rw[bu,rM] at j;split at j;rename_i D;subst D;split at j;rename_i x;cases B:cZ 64 x (eT t) with
 |true=>rw[B] at j;cases j;rw[HZ _ _ _ B];exact(A.dia G).chk h
 |false=>rw[B] at j;cases j
 cases j;cases j
def Bw {n t} (B:n<=3) (j:sG n t) h:bP P X GL 292 [eT t,ι (n)] h (.b true) h:=by
 refine dR S (n:=9) ?_ (by simp only[aL,jB,bZ,dH]) h;have:=fX.1 (RB (hF0 GL) (hF1 GL) (hF2 GL) (hF3 GL) j.f) n (mA.2 ω);unfold Iu at this;rw[j.d] at this;exact hY F (aS8 A j.f) this
def aT0 {i} (hi:i<3) h:bP P X GL 291 [.s [65+i]] h (.b true) h:=
 dR S (hY F iE (fX.1 (hI GL) i (mA.2 hi))) (n:=9) (by simp only[aL,bZ,oK]) h
def Kg {i} (hi:i=0∨i=9∨i=10) h:bP P X GL 194 [eR iF 5 true (jg i)] h (ι 0) h:=
 dR S (hY F iE (fX.1 (hP GL) i (by simpa using hi))) (n:=9) (by simp only[aL,bZ,eu Eu]) h
variable (hg:GL=mU)
def aT1 h:bP P X GL 105 [eR iF 5 true (jg 0),.s [120]] h (.b true) h:=
 dR S (hY F iE (by rw[hg];exact hM0)) (n:=9) (by simp only[aL,bZ,oK,eu Eu]) h
def aT2 {g} (G:oy g) h:bP P X GL 185 [aI g] h (ι 0) h:=by
 refine ku S (λn h=>rfl) ?_ h;refine bg.intro λC E=> ?_;have nc:=G.nc;have J:(fz g.nc).length=g.nc:=by unfold fz;rw[jm];simp;omega
 have N:∀h,bP P X GL 292 [.ag [tp (aE g.fam).1,ι ((aE g.fam).2:Int)],ι (g.nc:Int)] h (.b true) h:=λh=>Bw S A F nc G.fam h;have V:(((aE g.fam).2:Int)=0)=False:=dQ (by have:=G.famr;omega);refine E.bS (F.f 185) (Y1 @aI.eq_1 ?_);refine E.run (EF E F _ ?_);rintro⟨n1,v1,aQ⟩ dS dD nm1;have H:n1=3:=dS;subst H;have c0:cG (aQ.get 0)=some (bx g):=by rw[show aQ.get 0=_ from dD 0 (by show 0<1;omega)];exact U0
 have R:=c0;simp only[bx] at c0;refine Y2 c0 J ?_;refine fj E.ok g.nc (λi τ h=>cG (h.oB.get 0)=some (bx g)/\ sK h 2 1 ([]::(fz g.nc).take i)/\ τ.get 1=some (.p 0 0)/\ τ.get 3=some (.f 414 [] [.p 2 0])/\ τ.get 8=some (eX (fz g.nc) (g.cx.map AV.s))/\ τ.get 9=some (ι (g.nc:Int))/\ τ.get 10=some (ι (i:Int))) ?_ ?_ _ _ ⟨R,nm1,?_,?_,?_,?_,?_⟩;rintro i τ ⟨n2,v2,I⟩ hi ⟨B,nm,t1,t3,t8,t9,t10⟩ Z;have D:=S6 hi nc;have U:=SA (ex:=g.cx.map AV.s) D;have O:=λh=>aT0 S F (i:=i) ω h;have x1:(([65+i]:List Nat)=[116,114,117,101])=False:=dQ (by simp);have x2:(([65+i]:List Nat)=[102,97,108,115,101])=False:=dQ (by simp);have tk:=nY D;refine Y5 t8 t9 t10 @Sz U ?_;refine E.cN (O _) (Y3 t3 x1 x2 ?_);refine E.run (EG E F nm ?_ _ ?_);intro Y;rcases ey.1 Y with h|h;simp at h;obtain⟨j,L,W⟩:=sX.1 h;have m9:j<i:=by simp at L;omega
 have h2:((fz g.nc).take i)[j]? =some [65+i]:=by rw[←W];exact ef L
 rw[jZ,aF m9,S6 ω nc] at h2;simp at h2;omega;rintro⟨n3,v3,cC⟩ hn3 old3 nm3;have e0:cG (cC.get 0)=some (bx g):=by rw[show cC.get 0=I.get 0 from old3 0 ω];exact B
 refine Y1 t10 ?_;refine Z _ _ ⟨e0,by rw[tk];exact nm3,?_,?_,?_,?_,?_⟩<;>exact U4 t1 t3 t8 t9;rintro τ ⟨n2,v2,I⟩ ⟨B,nm,t1,t3,t8,t9,t10⟩;simp only[bx] at B;refine Y5 B t1 t9 t10 J ?_;refine E.cN (N _) (Y3 B t1 V ?_);exact⟨1,rfl⟩;all_goals exact U0
def aT3 {g} (G:oy g) h:bP P X GL 187 [aI g] h (ι 0) h:=by
 refine ku S (λn h=>rfl) ?_ h;refine bg.intro λC E=> ?_;have ntl:=G.ntl;refine E.bS (F.f 187) (Y1 @aI.eq_1 ?_);refine E.run (EF E F _ ?_);rintro⟨n1,v1,aQ⟩ dS dD nm1;have D:n1=3:=dS;subst D;have c0:cG (aQ.get 0)=some (bx g):=by rw[show aQ.get 0=_ from dD 0 (by show 0<1;omega)];exact U0
 have L:=c0;simp only[bx] at c0;refine Y1 c0 ?_;refine fj E.ok g.nT.length (λi τ h=>cG (h.oB.get 0)=some (bx g)/\ sK h 2 1 ([]::g.nT.take i)/\ τ.get 1=some (.p 0 0)/\ τ.get 3=some (.f 414 [] [.p 2 0])/\ τ.get 8=some (eX g.nT (g.nx.map AV.s))/\ τ.get 9=some (ι (g.nT.length:Int))/\ τ.get 10=some (ι (i:Int))) ?_ ?_ _ _ ⟨L,nm1,?_,?_,?_,?_,?_⟩;rintro i τ ⟨W,v2,I⟩ hi ⟨H,nm,t1,t3,t8,t9,t10⟩ U;have B:g.nT[i]? =some g.nT[i]:=ef hi;generalize hs:g.nT[i]=s at B;have N:=SA (ex:=g.nx.map AV.s) B;have tk:=nY B;refine Y6 t3 t8 t9 t10 @Sz N ?_;refine E.run (EG E F nm ?_ _ ?_);intro R;rcases ey.1 R with h|h;exact G.ntn _ (dI B) h;obtain⟨j,J,O⟩:=sX.1 h;have V:j<i:=by simp at J;omega
 have h2:(g.nT.take i)[j]? =some s:=by rw[←O];exact ef J
 rw[jZ,aF V] at h2;have:=G.ntd _ _ _ h2 B;omega;rintro⟨n3,v3,cC⟩ hn3 old3 nm3;have e0:cG (cC.get 0)=some (bx g):=by rw[show cC.get 0=I.get 0 from old3 0 ω];exact H
 refine Y1 t10 ?_;refine U _ _ ⟨e0,by rw[tk];exact nm3,?_,?_,?_,?_,?_⟩<;>exact U4 t1 t3 t8 t9;rintro τ ⟨W,v2,I⟩ ⟨H,nm,t1,t3,t8,t9,t10⟩;simp only[bx] at H;have Y:((g.st:Int)<0)=False:=cE;have Z:((g.nT.length:Int)<=(g.st:Int))=False:=dQ (by have:=G.st;omega);refine Y6 H t1 t9 t10 Y Z ?_;exact⟨1,rfl⟩;all_goals exact U0
def aT4 {g} (G:oy g) h:bP P X GL 184 [aI g] h (.b false) h:=by
 refine ku S (λn h=>rfl) ?_ h;refine bg.intro λC E=> ?_;have nc:=G.nc;have B:(fz g.nc).length=g.nc:=by unfold fz;rw[jm];simp;omega
 have H:g.tc.zipIdx.length=11:=by rw[ny,G.tcl]
 have ntl:=G.ntl;have pl:=G.pl;have ll:=G.ll;have fl:=G.fl;refine E.bS (F.f 184) (Y6 @aI.eq_1 @bx.eq_1 B H @aR8 @aR9 ?_);refine E.run (aS0 E F (L:=g.pR) (nl:=true) (f:=289) (ca:=[]) ω (λ_=>True) trivial ?_ _ ?_);intro p D h' _ k' j;have ok:=G.p p D;have I:=ok.len;have J:=ok.layl;obtain⟨m,ver,ob⟩:=h';refine E.run ?_;refine E.bS (F.f 289) (Y2 @jP @aM.eq_1 ?_);exact j _ trivial;rintro h' _;refine Y0 ?_;exact⟨1,rfl⟩
def aT5:∀i,1<=i/\ i<=8 ->l7 i=0/\ jQ i≠[]/\ jg i=[]/\ wZ i=[]:=by
 intro i hi;rcases(show i=1∨i=2∨i=3∨i=4∨i=5∨i=6∨i=7∨i=8 by omega) with rfl|rfl|rfl|rfl|rfl|rfl|rfl|rfl<;>exact⟨rfl,by simp[jQ,kj],rfl,rfl⟩
def aT6 {g} (G:oy g) h:bP P X GL 186 [aI g] h (ι 0) h:=by
 refine ku S (λn h=>rfl) ?_ h;refine bg.intro λC E=> ?_;have nc:=G.nc;have N:(fz g.nc).length=g.nc:=by unfold fz;rw[jm];simp;omega
 have tl:=G.tcl;have hz:g.tc.zipIdx.length=11:=by rw[ny,tl]
 have V:((11:Nat):Int)=11:=rfl;refine E.bS (F.f 186) (Y1 @aI.eq_1 ?_);refine E.run (EF E F _ ?_);rintro⟨n1,v1,aQ⟩ dS dD nm1;have O:n1=3:=dS;subst O;have c0:cG (aQ.get 0)=some (bx g):=by rw[show aQ.get 0=_ from dD 0 (by show 0<1;omega)];exact U0
 have de:=c0;simp only[bx] at c0;refine Y3 c0 hz V ?_;refine fj E.ok 11 (λi τ h=>3<=h.next/\ cG (h.oB.get 0)=some (bx g)/\ sK h 2 1 ([]::(List.range i).map kj)/\ τ.get 1=some (.p 0 0)/\ τ.get 3=some (.f 414 [] [.p 2 0])/\ τ.get 9=some (eR dq 7 true g.tc.zipIdx)/\ τ.get 10=some (ι 11)/\ τ.get 11=some (ι (i:Int))) ?_ ?_ _ _ ⟨by show 3<=3;omega,de,nm1,?_,?_,?_,?_,?_⟩;rintro i τ ⟨L,v2,aJ⟩ hi ⟨R,d0,nm,t1,t3,t9,t10,J⟩ Y;have b5:3<=L:=R;obtain⟨c,b2,b3⟩:=re (g:=g) tl (i:=i) hi;have ft:=G.tc c (dI b2);have e7:sub (g.tc.zipIdx.flatMap dq) (i*7) 7=some (dq (c,i)):=cW qx b3 (j:=0) (n:=7) ω;simp only[dq] at e7;have W:∀h,bP P X GL 292 [.ag [tp (aE c).1,ι ((aE c).2:Int)],ι (g.nc:Int)] h (.b true) h:=λh=>Bw S A F nc ft h;have tk:(List.range (i+1)).map kj=(List.range i).map kj++[kj i]:=by rw[zD,kE];rfl
 have b0:=d0;simp only[bx] at d0;have U:sK ⟨L+1,v2+1,(aJ.put L (.cells v2 [.s [],ι 0,.s [],.sn,.s [],.sn,ι 0])).put L (.cells (v2+1) (dq (c,i)))⟩ 2 1 ([]::(List.range i).map kj):=
  ⟨by have:=nm.cc;exact W0 this,by have:=nm.mm;exact W0 this,nm.ne,by have h1:=nm.lt.1;have h2:=nm.lt.2;exact⟨by show 1<L+1;omega,by show 2<L+1;omega⟩⟩
 simp only[dq] at U;refine Y5 t3 t9 t10 J e7 ?_;refine E.run (EG E F U ?_ _ ?_);intro hm;rcases ey.1 hm with h|h;exact aP6 i h;obtain⟨j,hj,he⟩:=sV.1 h;have m9:=mA.1 hj;have:=aP5 j i ω hi he;omega;rintro⟨n3,v3,cC⟩ hn3 old3 nm3;have b6:n3=L+1:=hn3;have iN:∀j,j≠1 ->cC.get j=_:=old3;have I:cG (cC.get 0)=some (bx g):=by rw[iN 0 ω];exact W0 b0
 have b1:=I;simp only[bx] at I;have f5:cG (cC.get L)=some (dq (c,i)):=by rw[iN L ω];exact U1 @dq.eq_1
 simp only[dq] at f5;have fin:∀(τ':T AV),τ'.get 1=some (.p 0 0) ->τ'.get 3=some (.f 414 [] [.p 2 0]) ->τ'.get 9=some (eR dq 7 true g.tc.zipIdx) ->τ'.get 10=some (ι 11) ->τ'.get 11=some (ι ((i+1:Nat):Int)) ->(3<=n3/\ cG (cC.get 0)=some (bx g)/\ sK ⟨n3,v3,cC⟩ 2 1 ([]::(List.range (i+1)).map kj)/\ τ'.get 1=some (.p 0 0)/\ τ'.get 3=some (.f 414 [] [.p 2 0])/\ τ'.get 9=some (eR dq 7 true g.tc.zipIdx)/\ τ'.get 10=some (ι 11)/\ τ'.get 11=some (ι ((i+1:Nat):Int))):=
  λτ' a1 a3 a9 a10 Z=>⟨by omega,b1,by rw[tk];exact nm3,a1,a3,a9,a10,Z⟩
 rcases(show i=0∨(1<=i/\ i<=8)∨i=9∨i=10 by omega) with rfl|h8|rfl|rfl;have B:((l7 0:Nat):Int)=0:=rfl;have D:jQ 0=[]:=rfl;have s0:(([120]:List Nat)=[])=False:=dQ (by simp);have H:wZ 0=[120]:=rfl;refine Y8 I f5 t1 J B D H N ?_;refine E.cN (W _) (Y8 I f5 t1 J B D H N ?_);refine E.cN (Kg S F (.inl rfl) _) (Y9 I f5 t1 J B D s0 H N ?_);refine E.cN (aT1 S F hg _) (Y8 I f5 t1 J B D H N ?_);refine Y _ _ (fin _ ?_ ?_ ?_ ?_ ?_)<;>simp only[T.get_put,Nat.reduceEqDiff,reduceIte,t1,t3,t9,t10];rfl;obtain⟨k1,k2,k3,k4⟩:=aT5 i h8;have B:((l7 i:Nat):Int)=0:=by rw[k1];rfl
 have b4:(jQ i=[])=False:=dQ k2;refine Y7 I f5 t1 B k3 k4 N ?_;refine E.cN (W _) (Y7 f5 J B b4 k3 k4 @bK ?_);refine Y _ _ (fin _ ?_ ?_ ?_ ?_ ?_)<;>exact U4 t1 t3 t9 t10;have B:((l7 9:Nat):Int)=1:=rfl;have D:jQ 9=[]:=rfl;have H:wZ 9=[]:=rfl;have a9:aY .add (ι ((9:Nat):Int)) (ι 1)=some (ι ((9+1:Nat):Int)):=rfl;refine Y7 I f5 t1 B D H N ?_;refine E.cN (W _) (Y7 I f5 t1 B D H N ?_);refine E.cN (Kg S F (.inr (.inl rfl)) _) (Y6 f5 J B D H a9 ?_);refine Y _ _ (fin _ ?_ ?_ ?_ ?_ ?_)<;>exact U4 t1 t3 t9 t10;have B:((l7 10:Nat):Int)=2:=rfl;have D:jQ 10=[]:=rfl;have H:wZ 10=[]:=rfl;have a9:aY .add (ι ((10:Nat):Int)) (ι 1)=some (ι ((10+1:Nat):Int)):=rfl;refine Y7 I f5 t1 B D H N ?_;refine E.cN (W _) (Y7 I f5 t1 B D H N ?_);refine E.cN (Kg S F (.inr (.inr rfl)) _) (Y6 f5 J B D H a9 ?_);refine Y _ _ (fin _ ?_ ?_ ?_ ?_ ?_)<;>exact U4 t1 t3 t9 t10;rintro τ ⟨L,v2,aJ⟩ ⟨R,d0,nm,t1,t3,t9,t10,J⟩;refine Y3 t10 J V ?_;exact⟨1,rfl⟩;all_goals exact U0
def aT7 {g} (G:oy g) {s} (H:(s.1=true/\ s.2<9)∨(s.1=false/\ s.2<g.nT.length)) h:bP P X GL 294 [aI g,.ag (dO s)] h (.b true) h:=by
 refine ku S (λn h=>by simp only[aL,bZ,nX (yX s)]) ?_ h;refine bg.intro λC E=> ?_;have ntl:=G.ntl;have tl:=G.tcl;have I:g.tc.zipIdx.length=11:=by rw[ny,tl]
 have D:((11:Nat):Int)=11:=rfl;rw[E.cB (F.f 294)];rcases H with ⟨h1,h2⟩|⟨h1,h2⟩;obtain⟨c,_,B⟩:=re (g:=g) tl (i:=s.2) ω;have e7:sub (g.tc.zipIdx.flatMap dq) (s.2*7+1) 1=some [ι 0]:=by
  have:=cW qx B (j:=1) (n:=1) ω;simpa[dq,JZ h2] using this
 refine Y7 @aI.eq_1 @bx.eq_1 @dO.eq_1 h1 I D e7 ?_;exact⟨1,rfl⟩;refine Y4 @aI.eq_1 @bx.eq_1 @dO.eq_1 h1 ?_;exact⟨1,rfl⟩
def Ta {p kk v lo hi} (H:Bu p kk v lo hi) (N:p.right.length<=8) {q} (D:cG (h.oB.get q)=some (aM p)) k (B:k (.b true) h):
 du C 419 [ι (kk),ι (v),ι (lo),ι (hi),.p q 0] h k:=by
 obtain⟨m,ver,ob⟩:=h;dsimp only at D;simp only[aM] at D;rw[E.cB (F.f 419)];rcases H with ⟨h1,h2⟩|⟨h1,⟨j,G⟩,J,L⟩;subst h1;subst h2;refine Y0 ?_;exact B;have I:=(eC.1 G).1;have e1:aY .sub (ι (kk:Int)) (ι 1)=some (ι ((kk-1:Nat):Int)):=qV (b:=1) ω;have e2:sub (p.right.flatMap dO) ((kk-1)*2) 1=some [.b true]:=by
  have:=cW gO G (j:=0) (n:=1) ω;simpa[dO] using this
 refine Y3 D e1 e2 ?_;exact B
def aT8 {nc nt p} (ok:sH nc nt p) h:bP P X GL 296 [.ag (aM p)] h (.b true) h:=by
 refine ST S (λn h=>rfl) ?_ h;refine bg.intro λC E=> ?_;have b0:=ok.layl;have J:=ok.len;refine E.bS (F.f 296) (Y1 @aM.eq_1 ?_);refine fj E.ok p.lay.length (λi τ h=>1<=h.next/\ cG (h.oB.get 0)=some (aM p)/\ τ.get 1=some (.p 0 0)/\ τ.get 9=some (eR gH 3 p.ln p.lay)/\ τ.get 10=some (ι (p.lay.length:Int))/\ τ.get 11=some (ι (i:Int))) ?_ ?_ _ _ ⟨bB _,?_,?_,?_,?_,?_⟩;rintro i τ ⟨n1,ver,ob⟩ hi ⟨R,c0,t1,t9,t10,G⟩ V;have U:1<=n1:=R;have H:p.lay[i]? =some p.lay[i]:=ef hi;generalize O:p.lay[i]=c at H;have e0:sub (p.lay.flatMap gH) (i*3) 3=some [ι (c.1:Int),ι (c.2.1:Int),ι (c.2.2:Int)]:=cW aO3 H (j:=0) (n:=3) ω;obtain⟨l1,l2,W,Y,l5⟩:=ok.lay _ (dI H);have N:=c0;simp only[aM] at c0;have D:∀(x:Nat) (ob':T bC) (n' v':Nat) (k':AV ->AH ->Prop),x<p.right.length ->cG (ob'.get 0)=some (aM p) ->k' (.b true) ⟨n',v',ob'⟩ ->g9 C 418 [ι (x:Int),.p 0 0] ⟨n',v',ob'⟩ k':=by
  intro x ob' n' v' k' hx O hk;simp only[aM] at O;refine E.run ?_;refine E.bS (F.f 418) (Y1 O ?_);exact hk
 have B:∀ob',ob'=(ob.put n1 (.cells ver [ι 0,ι 0,ι 0])).put n1 (.cells (ver+1) [ι (c.1:Int),ι (c.2.1:Int),ι (c.2.2:Int)]) ->cG (T.get ob' 0)=some (aM p):=by
  rintro ob' rfl;exact W0 N
 by_cases k1:c.1=1;have k2:=l5 k1;refine Y5 t1 t9 t10 G e0 ?_;refine D _ _ _ _ _ W (B _ rfl) ?_;refine Y4 c0 t1 t10 G ?_;refine D _ _ _ _ _ Y (B _ rfl) ?_;refine Y1 G ?_;refine V _ _ ⟨by show 1<=n1+1;omega,B _ rfl,?_,?_,?_,?_⟩<;>exact U3 t1 t9 t10;refine Y5 t1 t9 t10 G e0 ?_;refine D _ _ _ _ _ W (B _ rfl) ?_;refine Y4 c0 t1 t10 G ?_;refine D _ _ _ _ _ Y (B _ rfl) ?_;refine Y1 G ?_;refine V _ _ ⟨by show 1<=n1+1;omega,B _ rfl,?_,?_,?_,?_⟩<;>exact U3 t1 t9 t10;rintro τ ⟨n1,ver,ob⟩ ⟨R,c0,t1,t9,t10,G⟩;have U:1<=n1:=R;have N:=c0;simp only[aM] at c0;refine Y4 c0 t1 t10 G ?_;refine E.run (Ta (lo:=1) (hi:=7) E F ok.dec J ?_ _ ?_);exact W0 N;refine Y4 c0 t1 t10 G ?_;refine E.run (Ta (lo:=0) (hi:=255) E F ok.uses J ?_ _ ?_);exact W0 N;cases I:p.br;refine Y3 c0 I t1 ?_;exact⟨1,rfl⟩;obtain⟨Z,b2,b3,b4,b5,b6,b7,i,j,L⟩:=ok.br I;have c3:((p.right.length:Nat):Int)=3:=by rw[L];rfl
 have g3:p.right.length=3:=by rw[L];rfl
 have g0:p.right[0]? =some (true,i):=by rw[L];rfl
 have g1:p.right[1]? =some (false,p.left):=by rw[L];rfl
 have g2:p.right[2]? =some (true,j):=by rw[L];rfl
 have e0:sub (p.right.flatMap dO) 0 1=some [.b true]:=cW gO g0 (j:=0) (n:=1) ω;have e1:sub (p.right.flatMap dO) 2 2=some [.b false,ι (p.left:Int)]:=cW gO g1 (j:=0) (n:=2) ω;have e3:sub (p.right.flatMap dO) 4 1=some [.b true]:=cW gO g2 (j:=0) (n:=1) ω;have q1:eH 6 (.ag [(0,1,false,(.lf .b)),(1,1,false,(.lf .i))]) (.ag [.b false,ι (p.left:Int)]) (.ag [.b false,ι (p.left:Int)])=some true:=by
  show(match rP .i (ι (p.left:Int)) (ι (p.left:Int)) with|some true=>some true|r=>r)=_;have:rP .i (ι (p.left:Int)) (ι (p.left:Int))=some true:=by show(bif gZ .i64 .i64 then some (eO (p.left:Int) (p.left:Int)) else none)=_;rw[uN,A3];simp
  rw[this]
 have nl:p.lay.length=0:=by rw[b2];rfl
 refine pq c0 I g3 Z b2 b3 b4 b5 b6 b7 @y8 e0 e1 e3 q1 t1 ?_;exact⟨1,rfl⟩;exact U1 @aM.eq_1;all_goals exact U0
def aT9 {g} (G:oy g) h:bP P X GL 188 [aI g] h (ι 0) h:=by
 refine ku S (λn h=>rfl) ?_ h;refine bg.intro λC E=> ?_;have nc:=G.nc;have pl:=G.pl;have cl:(fz g.nc).length=g.nc:=by unfold fz;rw[jm];simp;omega
 refine E.bS (F.f 188) (Y1 @aI.eq_1 ?_);refine E.run (EF E F _ ?_);rintro⟨n1,v1,aQ⟩ dS dD nm1;have b3:n1=3:=dS;subst b3;have c0:cG (aQ.get 0)=some (bx g):=by rw[show aQ.get 0=_ from dD 0 (by show 0<1;omega)];exact U0
 have de:=c0;simp only[bx] at c0;refine Y1 c0 ?_;refine fj E.ok g.pR.length (λi τ h=>3<=h.next/\ cG (h.oB.get 0)=some (bx g)/\ sK h 2 1 ([]::(g.pR.take i).map (·.name))/\ τ.get 1=some (.p 0 0)/\ τ.get 3=some (.f 414 [] [.p 2 0])/\ τ.get 9=some (eR aM 13 true g.pR)/\ τ.get 10=some (ι (g.pR.length:Int))/\ τ.get 11=some (ι (i:Int))) ?_ ?_ _ _ ⟨by show 3<=3;omega,de,nm1,?_,?_,?_,?_,?_⟩;rintro i τ ⟨B,v2,V⟩ hi ⟨b4,d0,nm,t1,t3,t9,t10,bH⟩ ih;have d1:3<=B:=b4;have I:g.pR[i]? =some g.pR[i]:=ef hi;generalize hp:g.pR[i]=p at I;have ok:=G.p p (dI I);have Y:sub (g.pR.flatMap aM) (i*13) 13=some (aM p):=cW kr I (j:=0) (n:=13) ω;simp only[aM] at Y;have cf:∀h,bP P X GL 292 [.ag [tp (aE p.cond).1,ι ((aE p.cond).2:Int)],ι (g.nc:Int)] h (.b true) h:=λh=>Bw S A F nc ok.cond h;have cd:∀h,bP P X GL 296 [.ag (aM p)] h (.b true) h:=λh=>aT8 S F ok h;simp only[aM] at cd;have b8:(p.rank< -1)=False:=dQ (by have:=ok.rank;omega);have c6:(1<p.rank)=False:=dQ (by have:=ok.rank;omega);have tk:(g.pR.take (i+1)).map (·.name)=(g.pR.take i).map (·.name)++[p.name]:=by rw[nY I,kE];rfl
 have W:=d0;simp only[bx] at d0;have I0:∀(Iv:AH ->Prop),Iv=(λh'=>B+1<=h'.next/\ (∀j,j<B ->h'.oB.get j=V.get j)/\ cG (h'.oB.get B)=some (aM p)) ->∀s,((s.1=true/\ s.2<9)∨(s.1=false/\ s.2<g.nT.length)) ->∀h',Iv h' ->∀k',(∀Z,Iv Z ->k' (.b false) Z) ->g9 C 293 [.ag (dO s),.p 0 0] h' k':=by
  rintro Iv rfl s hs ⟨m3,v3,cC⟩ ⟨O,J,H⟩ k' U;have b2:B+1<=m3:=O;have iN:∀j,j<B ->cC.get j=V.get j:=J;have R:cG (cC.get 0)=some (bx g):=by rw[iN 0 ω];exact W
  have cs:∀h,bP P X GL 294 [.ag (bx g),.ag (dO s)] h (.b true) h:=λh=>aT7 S F G hs h;simp only[bx,dO] at cs R;refine E.run ?_;refine E.bS (F.f 293) (Y2 @dO.eq_1 R ?_);refine E.cN (cs _) (Y0 ?_);exact U _ ⟨by show B+1<=m3+1;omega,λj hj=>(W0 (iN j hj)),(W0 H)⟩
 have I1:=I0 _ rfl;refine Y5 t1 t9 t10 bH Y ?_;refine I1 (false,p.left) (.inr ⟨rfl,ok.left⟩) _ ⟨by show B+1<=B+1;omega,λj hj=> ?_,?_⟩ _ ?_;exact U0;exact U1 @aM.eq_1;rintro⟨m3,v3,cC⟩ ⟨O,J,H⟩;have b2:B+1<=m3:=O;dsimp only at H;have b0:=H;simp only[aM] at H;refine Y1 H ?_;refine E.run (aS1 E F (L:=p.right) (nl:=p.rn) (f:=293) (ca:=[.p 0 0]) (by have:=ok.len;omega) (λh'=>B+1<=h'.next/\ (∀j,j<B ->h'.oB.get j=V.get j)/\ cG (h'.oB.get B)=some (aM p)) ⟨O,J,b0⟩ (λs hs h' hI k' U=>I1 s (ok.sym s hs) h' hI k' U) _ ?_);rintro⟨m4,v4,ob4⟩ ⟨hm4,old4,hc4⟩;have c7:B+1<=m4:=hm4;have D:∀j,j<B ->ob4.get j=V.get j:=old4;dsimp only at hc4;have b1:=hc4;simp only[aM] at hc4;have b7:sK ⟨m4,v4,ob4⟩ 2 1 ([]::(g.pR.take i).map (·.name)):=
  ⟨by show cG (ob4.get 2)=_;rw[D 2 ω];exact nm.cc,by show mG (ob4.get 1)=_;rw[D 1 ω];exact nm.mm,nm.ne,⟨by show 1<m4;omega,by show 2<m4;omega⟩⟩
 refine Y2 hc4 t3 ?_;refine E.run (EG E F b7 ?_ _ ?_);intro hm;rcases ey.1 hm with h|h;exact ok.name h;obtain⟨q,hq,he⟩:=sV.1 h;obtain⟨j,hj,b6⟩:=sX.1 hq;have m9:j<i:=by simp at hj;omega
 have h2:(g.pR.take i)[j]? =some q:=by rw[←b6];exact ef hj
 rw[jZ,aF m9] at h2;have:=G.pd _ _ _ _ h2 I he;omega;rintro⟨m5,v5,ob5⟩ hn5 old5 nm5;have d2:m5=m4:=hn5;have N:∀j,j≠1 ->ob5.get j=ob4.get j:=old5;have f0:cG (ob5.get 0)=some (bx g):=by rw[N 0 ω,D 0 ω];exact W
 have b5:=f0;simp only[bx] at f0;have f5:cG (ob5.get B)=some (aM p):=by rw[N B ω];exact b1
 simp only[aM] at f5;refine Y4 f0 f5 cl t1 ?_;refine E.cN (cf _) (Y3 f5 b8 c6 ?_);refine E.cN (cd _) (Y1 bH ?_);refine ih _ _ ⟨by show 3<=m5;omega,b5,by rw[tk];exact nm5,?_,?_,?_,?_,?_⟩<;>exact U4 t1 t3 t9 t10;rintro τ ⟨B,v2,V⟩ ⟨b4,d0,nm,t1,t3,t9,t10,bH⟩;refine Y2 t10 bH ?_;exact⟨1,rfl⟩;all_goals exact U0
def Tb {s}:∀{L:List Nat},look s (L.map λs=>(s,true))=if s∈L then some true else none
 |[]=>rfl
 |a::L=>by
  simp only[jY,look,Tb (L:=L),ey];by_cases e:s=a<;>simp[e]
def aU0 {g} (G:oy g) h:bP P X GL 189 [aI g] h (ι 0) h:=by
 refine ku S (λn h=>rfl) ?_ h;refine bg.intro λC E=> ?_;have nc:=G.nc;have pl:=G.pl;have ll:=G.ll;have cl:(fz g.nc).length=g.nc:=by unfold fz;rw[jm];simp;omega
 refine E.bS (F.f 189) (Y2 @aI.eq_1 @bx.eq_1 ?_);refine fj E.ok g.lV.length (λi τ h=>cG (h.oB.get 0)=some (bx g)/\ mG (h.oB.get 1)=some (di (λn:Nat=>AV.i .i64 (n:Int)) AV.b 0 (((g.lV.take i).flatMap (·.pR)).map λs=>(s,true)),(((g.lV.take i).flatMap (·.pR)).map λs=>(s,true)).length)/\ 2<=h.next/\ τ.get 1=some (.p 0 0)/\ τ.get 3=some (.m 1)/\ τ.get 10=some (eR iK 4 true g.lV)/\ τ.get 11=some (ι (g.lV.length:Int))/\ τ.get 12=some (ι (i:Int))) ?_ ?_ _ _ ⟨?_,?_,?_,?_,?_,?_,?_,?_⟩
 ·rintro i τ ⟨n1,ver,ob⟩ hi ⟨c0,c1,hn,t1,t3,t10,bH,L⟩ ih;have c6:2<=n1:=hn;have de:=c0;simp only[bx] at c0;dsimp only at c1;have I:g.lV[i]? =some g.lV[i]:=ef hi;generalize hl:g.lV[i]=l at I;obtain⟨l1,l2,l3⟩:=G.l l (dI I);have e4:sub (g.lV.flatMap iK) (i*4) 4=some (iK l):=cW Ev I (j:=0) (n:=4) ω;simp only[iK] at e4;have cf:∀h,bP P X GL 292 [.ag [tp (aE l.cond).1,ι ((aE l.cond).2:Int)],ι (g.nc:Int)] h (.b true) h:=λh=>Bw S A F nc l2 h;have b0:(g.lV.take (i+1)).flatMap (·.pR)=(g.lV.take i).flatMap (·.pR)++l.pR:=by rw[nY I,Bd];simp
  have N:g.lV.flatMap (·.pR)=(g.lV.take i).flatMap (·.pR)++(l.pR++(g.lV.drop (i+1)).flatMap (·.pR)):=by
   have h1:g.lV=g.lV.take (i+1)++g.lV.drop (i+1):=(vJ _ _).symm;rw[←hZ,←b0,←Bd,←h1]
  refine Y7 c0 t1 t10 bH L e4 cl ?_;refine E.cN (cf _) (Y0 ?_);refine fj E.ok l.pR.length (λk τ h=>cG (h.oB.get 0)=some (bx g)/\ mG (h.oB.get 1)=some (di (λn:Nat=>AV.i .i64 (n:Int)) AV.b 0 (((g.lV.take i).flatMap (·.pR)++l.pR.take k).map λs=>(s,true)),(((g.lV.take i).flatMap (·.pR)++l.pR.take k).map λs=>(s,true)).length)/\ 2<=h.next/\ τ.get 1=some (.p 0 0)/\ τ.get 3=some (.m 1)/\ τ.get 10=some (eR iK 4 true g.lV)/\ τ.get 11=some (ι (g.lV.length:Int))/\ τ.get 12=some (ι (i:Int))/\ τ.get 34=some (eR cI 1 true l.pR)/\ τ.get 35=some (ι (l.pR.length:Int))/\ τ.get 36=some (ι (k:Int))) ?_ ?_ _ _ ⟨?_,?_,?_,?_,?_,?_,?_,?_,?_,?_,?_⟩
  ·rintro k τ ⟨R,v2,aJ⟩ hk ⟨d0,d1,dn,s1,s3,U,V,W,Y,J,Z⟩ b8;have H:l.pR[k]? =some l.pR[k]:=ef hk;generalize hx:l.pR[k]=x at H;have e1:sub (l.pR.flatMap cI) k 1=some [ι (x:Int)]:=by
    have:=cW qw H (j:=0) (n:=1) ω;simpa[cI] using this
   have b7:x∈g.lV.flatMap (·.pR):=by rw[N];simp[dI H]
   have c7:=G.lp x b7;have O:=G.ld;rw[N] at O;have b5:l.pR=l.pR.take k++(x::l.pR.drop (k+1)):=by
    have b4:l.pR.drop k=x::l.pR.drop (k+1):=by rw[Lr hk,hx]
    rw[←b4,vJ]
   have b6:x∉(g.lV.take i).flatMap (·.pR)++l.pR.take k:=by
    intro hm;rw[b5,hZ,←hZ] at O;exact(zE.1 O).2.2 x hm x (by simp) rfl
   generalize hD:(g.lV.take i).flatMap (·.pR)++l.pR.take k=D at*;have b3:(g.lV.take i).flatMap (·.pR)++l.pR.take (k+1)=D++[x]:=by rw[nY H,←hZ,hD]
   have b1:look x (D.map λs=>(s,true))=none:=by rw[Tb,aD b6]
   have hu:ups x true (D.map λs=>(s,true))=(D++[x]).map λs=>(s,true):=by rw[yg b1,kE];rfl
   have lk:∀B ob' (τ:T AV),mG (T.get ob' 1)=some (di (λn:Nat=>AV.i .i64 (n:Int)) AV.b 0 (D.map λs=>(s,true)),(D.map λs=>(s,true)).length) ->az C τ (.t 50)= .m 1 ->az C τ (.t 51)=ι (x:Int) ->
    step (az C τ) ⟨R,B,ob'⟩ (.look (.lf .i) (.t 50) (.t 51) (.b false) false)= .v (.b false) ⟨R,B,ob'⟩:=λB ob' τ q1 q2 q3=>by
    have:=sd (k:=x) (z:= .b false) (en:=AV.b) lW (h:=⟨R,B,ob'⟩) (fT.2 q1) q2 q3;rw[b1] at this;exact this
   have mu:∀B ob' (τ:T AV),mG (T.get ob' 1)=some (di (λn:Nat=>AV.i .i64 (n:Int)) AV.b 0 (D.map λs=>(s,true)),(D.map λs=>(s,true)).length) ->az C τ (.t 54)= .m 1 ->az C τ (.t 55)=ι (x:Int) ->
    step (az C τ) ⟨R,B,ob'⟩ (.mupd (.lf .i) (.t 54) (.t 55) (.c (.b true)))= .v .un ⟨R,B+1,ob'.put 1 (.map (B+1) (di (λn:Nat=>AV.i .i64 (n:Int)) AV.b 0 (ups x true (D.map λs=>(s,true)))) (ups x true (D.map λs=>(s,true))).length)⟩:=
    λB ob' τ q1 q2 q3=>mL (k:=x) (v:=true) (en:=AV.b) lW (h:=⟨R,B,ob'⟩) (fT.2 q1) q2 q3 rfl
   rw[hu] at mu;have b2:=d0;simp only[bx] at d0;dsimp only at d1;refine Z9 d0 s1 s3 Y J Z e1 lk mu ?_;refine b8 _ _ ⟨?_,?_,dn,?_,?_,?_,?_,?_,?_,?_,?_⟩;exact W0 b2;exact U1 b3;all_goals exact U7 s1 s3 U V W Y J
  rintro τ ⟨R,v2,aJ⟩ ⟨d0,d1,dn,s1,s3,U,V,W,Y,J,Z⟩;rw[mR,←b0] at d1;refine Y3 W J Z ?_;refine ih _ _ ⟨d0,d1,dn,?_,?_,?_,?_,?_⟩<;>exact U4 s1 s3 U V;exact W0 de;simp(disch:=omega) only[dh,T.get_put,bV,Cf,lG];exact c1;show 2<=n1+1;omega;all_goals exact U5 t1 t3 t10 bH L
 rintro τ ⟨n1,ver,ob⟩ ⟨c0,c1,hn,t1,t3,t10,bH,L⟩;refine Y2 bH L ?_;exact⟨1,rfl⟩;exact U1 @bx.eq_1;exact U0;show 2<=2;omega;all_goals exact U0
def Kh (lit:Bool):Nat:=if lit then 298 else 297
def Ki {lit c x} (G:x<9) (H:lit=true ->1<=x) k
 (D:∀h',h'.next=h.next+1 ->(∀j,j<h.next ->h'.oB.get j=h.oB.get j) ->k (.b true) h'):du C (Kh lit) [.ag (dq (c,x))] h k:=by
 obtain⟨m,ver,ob⟩:=h;have I:((l7 x:Nat):Int)=0:=by rw[JZ G];rfl
 cases lit;show du C 297 _ _ _;refine E.bS (F.f 297) (Y2 @dq.eq_1 I ?_);refine D _ rfl λj B=> ?_;have L:j<m:=B;exact U0;have J:(jQ x=[])=False:=dQ (S3 x (H rfl) G);show du C 298 _ _ _;refine E.bS (F.f 298) (Y2 @dq.eq_1 J ?_);refine D _ rfl λj B=> ?_;have L:j<m:=B;exact U0
def Tc {g} (G:oy g) {l nl lit} (xt:l≠[]) (h9:∀t∈l,t<9/\ (lit=true ->1<=t)) (J:∀i a b,l[i]? =some a ->l[i+1]? =some b ->a<b) (eQ:l.length<=16) k
 (hk:∀h',h.next<=h'.next ->(∀j,j<h.next ->h'.oB.get j=h.oB.get j) ->k (.b true) h'):du C 300 [aI g,eR cI 1 nl l,.f (Kh lit) [] []] h k:=by
 obtain⟨m,ver,ob⟩:=h;have tl:=G.tcl;have hz:g.tc.zipIdx.length=11:=by rw[ny,tl]
 have N:((11:Nat):Int)=11:=rfl;have b1:0<l.length:=xG.2 xt;refine E.bS (F.f 300) (Y2 @aI.eq_1 @bx.eq_1 ?_);refine fj E.ok l.length (λi τ h=>m+1<=h.next/\ (∀j,j<m ->h.oB.get j=ob.get j)/\ cG (h.oB.get m)=some (bx g)/\ τ.get 1=some (eR cI 1 nl l)/\ τ.get 2=some (.f (Kh lit) [] [])/\ τ.get 3=some (.p m 0)/\ τ.get 9=some (eR cI 1 nl l)/\ τ.get 10=some (ι (l.length:Int))/\ τ.get 11=some (ι (i:Int))) ?_ ?_ _ _ ⟨bB _,?_,?_,?_,?_,?_,?_,?_,?_⟩;rintro i τ ⟨n1,v1,O⟩ hi ⟨U,old,c0,t1,t2,t3,t9,t10,H⟩ ih;have V:m+1<=n1:=U;have Z:∀j,j<m ->O.get j=ob.get j:=old;have Y:=c0;simp only[bx] at c0;have B:l[i]? =some l[i]:=ef hi;generalize hx:l[i]=x at B;obtain⟨x9,xl⟩:=h9 x (dI B);obtain⟨c,_,W⟩:=re (g:=g) tl (i:=x) ω;have e1:sub (l.flatMap cI) i 1=some [ι (x:Int)]:=by
  have:=cW qw B (j:=0) (n:=1) ω;simpa[cI] using this
 have e7:sub (g.tc.zipIdx.flatMap dq) (x*7) 7=some (dq (c,x)):=cW qx W (j:=0) (n:=7) ω;by_cases i0:i=0;subst i0;refine nS c0 t2 t3 t9 t10 H hz N e1 e7 ?_;refine E.run (Ki E F x9 xl _ ?_);rintro⟨n2,v2,aJ⟩ hn2 eG;have L:n2=n1+1:=hn2;have I:∀j,j<n1 ->aJ.get j=O.get j:=eG;refine Y3 t1 t10 H ?_;refine ih _ _ ⟨by show m+1<=n2;omega,λj R=>(I j ω).trans (Z j R),by show cG (aJ.get m)=_;rw[I m ω];exact Y,?_,?_,?_,?_,?_,?_⟩<;>simp only[T.get_put,Nat.reduceEqDiff,reduceIte,t1,t2,t3,t9,t10];rfl;have D:l[i-1]? =some l[i-1]:=ef ω;generalize hy:l[i-1]=y at D;have ej:sub (l.flatMap cI) (i-1) 1=some [ι (y:Int)]:=by
  have:=cW qw D (j:=0) (n:=1) ω;simpa[cI] using this
 have b0:y<x:=J (i-1) y x D (by rw[show i-1+1=i by omega];exact B);have es:aY .sub (ι (i:Int)) (ι 1)=some (ι ((i-1:Nat):Int)):=qV (b:=1) ω;refine pm c0 t1 t2 t3 t9 t10 H hz N e1 e7 ej es ?_;refine E.run (Ki E F x9 xl _ ?_);rintro⟨n2,v2,aJ⟩ hn2 eG;have L:n2=n1+1:=hn2;have I:∀j,j<n1 ->aJ.get j=O.get j:=eG;refine Y1 H ?_;refine ih _ _ ⟨by show m+1<=n2;omega,λj R=>(I j ω).trans (Z j R),by show cG (aJ.get m)=_;rw[I m ω];exact Y,?_,?_,?_,?_,?_,?_⟩<;>exact U5 t1 t2 t3 t9 t10;rintro τ ⟨n1,v1,O⟩ ⟨U,old,c0,t1,t2,t3,t9,t10,H⟩;have V:m+1<=n1:=U;refine Y3 t1 t10 H ?_;exact hk _ (by show m<=n1;omega) old;intro j R;exact U0;exact U1 @bx.eq_1;all_goals exact U0
def aU1 {g} (G:oy g) {f pp B} (D:g.pR[f.par]? =some pp) (I:g.pR[f.child]? =some B) (J:pp.right[f.at_]? =some (false,B.left)) h:
 bP P X GL 299 [aI g,.ag (eF f)] h (.b true) h:=by
 refine ku S (λn h=>by simp only[aL,bZ,nX (ju _)]) ?_ h;refine bg.intro λC E=> ?_;have R:=(eC.1 D).1;have U:=(eC.1 I).1;have O:=(eC.1 J).1;have H:=G.p pp (dI D);have L:=H.len;have pl:=G.pl;have e2:sub (g.pR.flatMap aM) (f.par*13+2) 1=some [eR dO 2 pp.rn pp.right]:=cW kr D (j:=2) (n:=1) ω;have e1:sub (g.pR.flatMap aM) (f.child*13+1) 1=some [ι (B.left:Int)]:=cW kr I (j:=1) (n:=1) ω;have e3:sub (pp.right.flatMap dO) (f.at_*2) 2=some [.b false,ι (B.left:Int)]:=cW gO J (j:=0) (n:=2) ω;have N:eH 6 (.ag [(0,1,false,(.lf .b)),(1,1,false,(.lf .i))]) (.ag [.b false,ι (B.left:Int)]) (.ag [.b false,ι (B.left:Int)])=some true:=by
  show(match rP .i (ι (B.left:Int)) (ι (B.left:Int)) with|some true=>some true|r=>r)=_;have:rP .i (ι (B.left:Int)) (ι (B.left:Int))=some true:=by show(bif gZ .i64 .i64 then some (eO (B.left:Int) (B.left:Int)) else none)=_;rw[uN,A3];simp
  rw[this]
 refine E.bS (F.f 299) (Y7 @aI.eq_1 @bx.eq_1 @eF.eq_1 e1 e2 e3 N ?_);exact⟨1,rfl⟩
def aU2 {c} k
 (D:∀h',h'.next=h.next+1 ->(∀j,j<h.next ->h'.oB.get j=h.oB.get j) ->k (.b false) h'):du C 298 [.ag (dq (c,0))] h k:=by
 obtain⟨m,ver,ob⟩:=h;have G:jQ 0=[]:=rfl;refine E.bS (F.f 298) (Y2 @dq.eq_1 G ?_);refine D _ rfl λj B=> ?_;have H:j<m:=B;exact U0
def aU3 {g} (G:oy g) h:bP P X GL 190 [aI g] h (ι 0) h:=by
 refine ku S (λn h=>rfl) ?_ h;refine bg.intro λC E=> ?_;have nc:=G.nc;have fl:=G.fl;have ntl:=G.ntl;have cl:(fz g.nc).length=g.nc:=by unfold fz;rw[jm];simp;omega
 have c1:((1:Nat):Int)=1:=rfl;have c2:((2:Nat):Int)=2:=rfl;have c3:((3:Nat):Int)=3:=rfl;have c4:((4:Nat):Int)=4:=rfl;have c5:((5:Nat):Int)=5:=rfl;refine E.bS (F.f 190) (Y2 @aI.eq_1 @bx.eq_1 ?_);refine fj E.ok g.fI.length (λi τ h=>cG (h.oB.get 0)=some (bx g)/\ 1<=h.next/\ τ.get 1=some (.p 0 0)/\ τ.get 3=some (.f 297 [] [])/\ τ.get 4=some (.f 298 [] [])/\ τ.get 10=some (eR eF 9 true g.fI)/\ τ.get 11=some (ι (g.fI.length:Int))/\ τ.get 12=some (ι (i:Int))) ?_ ?_ _ _ ⟨?_,?_,?_,?_,?_,?_,?_,?_⟩;rintro i τ ⟨n1,ver,ob⟩ hi ⟨L,hn,t1,t3,t4,t10,V,D⟩ ih;have b7:1<=n1:=hn;have N:=L;simp only[bx] at L;have U:g.fI[i]? =some g.fI[i]:=ef hi;generalize hf:g.fI[i]=f at U;have ok:=G.f f (dI U);have tl:=ok.tl;have e9:sub (g.fI.flatMap eF) (i*9) 9=some (eF f):=cW JP U (j:=0) (n:=9) ω;simp only[eF] at e9;have cf:∀h,bP P X GL 292 [.ag [tp (aE f.cond).1,ι ((aE f.cond).2:Int)],ι (g.nc:Int)] h (.b true) h:=λh=>Bw S A F nc ok.cond h;refine Y7 L t1 t10 V D e9 cl ?_;refine E.cN (cf _) ?_;rcases ok.kinds with ⟨B,h1,h2,Z,pp,cp,h4,I,h6⟩|⟨B,h1,h2,Z,h4,I,h6,h7,h8⟩|⟨B,h1,h2,Z,h4,I,h6,h7,h8⟩
 ·have J:∀h,bP P X GL 299 [.ag (bx g),.ag (eF f)] h (.b true) h:=λh=>aU1 S F G h4 I h6 h;simp only[bx,eF] at J;rcases B with B|B<;>
   (
    simp only[B] at J;refine Y5 L t1 B c1 c2 ?_;refine E.cN (J _) (Y4 D h1 h2 Z ?_);refine ih _ _ ⟨?_,?_,?_,?_,?_,?_,?_,?_⟩;exact W0 N;show 1<=n1+1+1;omega;all_goals exact U5 t1 t3 t4 t10 V)
 ·rcases B with B|B<;>
   (
    refine Y6 L t1 t3 B c3 c4 ?_;refine E.run (Tc E F (lit:=false) (nl:=f.tn) G h6 (λt ht=>⟨h7 t ht,λh=>by cases h⟩) h8 tl _ ?_);rintro⟨n2,v2,aJ⟩ hn2 eG;have b0:n1+1+1<=n2:=hn2;have W:∀j,j<n1+1+1 ->aJ.get j=_:=eG;have Y:cG (aJ.get 0)=some (bx g):=by rw[W 0 ω];exact W0 N
    have R:cG (aJ.get (n1+1))=some [ι 0,ι (f.par:Int),ι (f.at_:Int),ι (f.child:Int),ι 0,ι (f.tok:Int),.sn,.sn,ι 0]:=by
     rw[W (n1+1) ω];exact U0
    refine Y6 R D h1 h2 Z h4 ?_;refine ih _ _ ⟨Y,by show 1<=n2;omega,?_,?_,?_,?_,?_,?_⟩;all_goals exact U5 t1 t3 t4 t10 V)
 ·have tcl:=G.tcl;have hz:g.tc.zipIdx.length=11:=by rw[ny,tcl]
  have b4:((11:Nat):Int)=11:=rfl;obtain⟨c,_,b2⟩:=re (g:=g) tcl (i:=0) ω;have e7:sub (g.tc.zipIdx.flatMap dq) 0 7=some (dq (c,0)):=cW qx b2 (j:=0) (n:=7) ω;refine Y6 L t1 t4 B I c5 ?_;refine E.run (Tc E F (lit:=true) (nl:=f.tn) G h6 (λt ht=>⟨(h7 t ht).2,λ_=>(h7 t ht).1⟩) h8 tl _ ?_);rintro⟨n2,v2,aJ⟩ hn2 eG;have b0:n1+1+1<=n2:=hn2;have W:∀j,j<n1+1+1 ->aJ.get j=_:=eG;have Y:cG (aJ.get 0)=some (bx g):=by rw[W 0 ω];exact W0 N
  have b1:=Y;simp only[bx] at Y;have O:cG (aJ.get n1)=some (eF f):=by
   rw[W n1 ω];exact U3 @eF.eq_1 B I
  have R:cG (aJ.get (n1+1))=some [ι 0,ι (f.par:Int),ι (f.at_:Int),ι (f.child:Int),ι (f.left:Int),ι 0,.sn,.sn,ι 0]:=by
   rw[W (n1+1) ω];exact U0
  simp only[eF,I] at O;refine Y7 Y O t1 t3 hz b4 e7 ?_;refine E.run (Ki (lit:=false) (c:=c) (x:=0) E F ω (λh=>by cases h) _ ?_);rintro⟨n3,v3,cC⟩ hn3 old3;have b5:n3=n2+1:=hn3;have iN:∀j,j<n2 ->cC.get j=aJ.get j:=old3;have i0:cG (cC.get 0)=some (bx g):=by rw[iN 0 ω];exact b1
  have b3:=i0;simp only[bx] at i0;have i6:cG (cC.get n1)=some (eF f):=by rw[iN n1 ω];simp only[eF,I];exact O
  simp only[eF,I] at i6;have i8:cG (cC.get (n1+1))=some [ι 0,ι (f.par:Int),ι (f.at_:Int),ι (f.child:Int),ι (f.left:Int),ι 0,.sn,.sn,ι 0]:=by rw[iN (n1+1) ω];exact R
  refine Y5 i0 i6 t1 t4 e7 ?_;refine E.run (aU2 (c:=c) E F _ ?_);rintro⟨n4,v4,ob4⟩ hn4 old4;have b6:n4=n3+1:=hn4;have H:∀j,j<n3 ->ob4.get j=cC.get j:=old4;have j0:cG (ob4.get 0)=some (bx g):=by rw[H 0 ω];exact b3
  have j8:cG (ob4.get (n1+1))=some [ι 0,ι (f.par:Int),ι (f.at_:Int),ι (f.child:Int),ι (f.left:Int),ι 0,.sn,.sn,ι 0]:=by rw[H (n1+1) ω];exact i8
  refine Y6 j8 D h1 h2 Z h4 ?_;refine ih _ _ ⟨j0,by show 1<=n4;omega,?_,?_,?_,?_,?_,?_⟩;all_goals exact U5 t1 t3 t4 t10 V
 rintro τ ⟨n1,ver,ob⟩ ⟨L,hn,t1,t3,t4,t10,V,D⟩;refine Y2 V D ?_;exact⟨1,rfl⟩;exact U1 @bx.eq_1;exact bB _;all_goals exact U0
def Td {g} (G:oy g) h:bP P X GL 99 [aI g] h (ι 0) h:=by
 refine ku S (λn h=>rfl) ?_ h;refine bg.intro λC E=> ?_;have D:∀h,bP P X GL 184 [.ag (bx g)] h (.b false) h:=λh=>aT4 S F G h;have I:∀h,bP P X GL 185 [.ag (bx g)] h (ι 0) h:=λh=>aT2 S A F G h;have J:∀h,bP P X GL 186 [.ag (bx g)] h (ι 0) h:=λh=>aT6 S A F hg G h;have L:∀h,bP P X GL 187 [.ag (bx g)] h (ι 0) h:=λh=>aT3 S F G h;have N:∀h,bP P X GL 188 [.ag (bx g)] h (ι 0) h:=λh=>aT9 S A F G h;have O:∀h,bP P X GL 189 [.ag (bx g)] h (ι 0) h:=λh=>aU0 S A F G h;have R:∀h,bP P X GL 190 [.ag (bx g)] h (ι 0) h:=λh=>aU3 S A F G h;have all:∀(i:Nat),i<6 ->∀h,bP P X GL (185+i) [.ag (bx g)] h (ι 0) h:=by
  intro i hi h;rcases(show i=0∨i=1∨i=2∨i=3∨i=4∨i=5 by omega) with rfl|rfl|rfl|rfl|rfl|rfl;exact I h;exact J h;exact L h;exact N h;exact O h;exact R h
 have H:((6:Nat):Int)=6:=rfl;have fs:∀(i:Nat),i<6 ->sub [AV.f 185 [] [],.f 186 [] [],.f 187 [] [],.f 188 [] [],.f 189 [] [],.f 190 [] []] i 1=some [.f (185+i) [] []]:=by
  intro i hi;rcases(show i=0∨i=1∨i=2∨i=3∨i=4∨i=5 by omega) with rfl|rfl|rfl|rfl|rfl|rfl<;>rfl
 rw[E.cB (F.f 99)];simp only[bx] at D;refine Y2 @aI.eq_1 @bx.eq_1 ?_;refine E.cN (D _) (Y1 H ?_);refine fj E.ok 6 (λi τ h=>cG (h.oB.get 0)=some (bx g)/\ cG (h.oB.get 1)=some [AV.f 185 [] [],.f 186 [] [],.f 187 [] [],.f 188 [] [],.f 189 [] [],.f 190 [] []]/\ τ.get 1=some (.p 0 0)/\ τ.get 10=some (.sl 1 0 6 (some 6) 1)/\ τ.get 11=some (ι 6)/\ τ.get 12=some (ι (i:Int))) ?_ ?_ _ _ ⟨?_,?_,?_,?_,?_,?_⟩;rintro i τ ⟨n1,ver,ob⟩ hi ⟨c0,c1,t1,t10,B,j⟩ V;have U:=c0;simp only[bx] at c0;dsimp only at c1;have f1:=fs i hi;have a1:=all i hi;simp only[bx] at a1;refine Y7 c0 c1 t1 t10 B j f1 ?_;refine E.cN (a1 _) (Y1 j ?_);refine V _ _ ⟨U,c1,?_,?_,?_,?_⟩<;>exact U3 t1 t10 B;rintro τ ⟨n1,ver,ob⟩ ⟨c0,c1,t1,t10,B,j⟩;refine Y3 B j H ?_;exact⟨1,rfl⟩;exact U1 @bx.eq_1;all_goals exact U0
end
end AM
