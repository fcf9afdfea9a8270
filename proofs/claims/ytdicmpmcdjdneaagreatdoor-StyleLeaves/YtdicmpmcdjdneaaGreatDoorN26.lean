import Derived.Test.YtdicmpmcdjdneaaGreatDoorN25
set_option linter.all false
set_option maxHeartbeats 8000000
namespace AM
open Dg Go
noncomputable section
variable {P:Program} {X:aR} {GL:T (List AV)} {ae:T au}
def xd {b n} (j:n<=3):sG n (xj b n):=⟨aP8 j,aP9 j⟩
variable (S:aT P X GL ae) {C:aK Prop} (E:Sem P X GL ae C)
variable (R:bz8 ae) (A:dY P X GL) (G:bz8 ae) (F:bz8 ae)
def aZ3 {g} (ok:oy g) (pn:1<=g.pR.length) {k a b c ii} (hk:k<256) (ha:a<256) (hb:b<256) (hc:c<256) (hi:ii<256) {D} (j: .ag (bx (lB g k a b c ii))=D) (k2:2<=k%8) (k7:k%8<7):du C 92 [aI g,.ag (qz k a b c ii)] h0 λx h=>∃n,deep n h x=some D:=by
 have b1:=ok.pl;have b0:=ok.fl;have Z:=ok.ntl;have W:=BD ok.nc;have r8:aY .rem (.i .u8 (k:Int)) (.i .u8 8)=some (.i .u8 ((k%8:Nat):Int)):=yD (c:=8) ω;have w8:dN .i64 ((k%8:Nat):Int)=((k%8:Nat):Int):=lj ω;have Y:dN .i64 (a:Int)=(a:Int):=lj ω;have wb:dN .i64 (b:Int)=(b:Int):=lj ω;have wc:dN .i64 (c:Int)=(c:Int):=lj ω;have ra:aY .rem (ι (a:Int)) (ι (g.pR.length:Int))=some (ι ((a%g.pR.length:Nat):Int)):=iA ω;have rb:aY .rem (ι (b:Int)) (ι (g.pR.length:Int))=some (ι ((b%g.pR.length:Nat):Int)):=iA ω;have rn:aY .rem (ι (a:Int)) (ι (g.nT.length:Int))=some (ι ((a%g.nT.length:Nat):Int)):=iA ω;have rc:aY .rem (ι (c:Int)) (ι 16)=some (ι ((c%16:Nat):Int)):=iA (c:=16) ω;have r9:aY .rem (ι (b:Int)) (ι 9)=some (ι ((b%9:Nat):Int)):=iA (c:=9) ω;have sp:=λh=>dR S (Ez (GL:=GL) S R A F (b:=ii) hi ok.nc) (n:=1) (by rfl) h;simp only[eT,eD] at sp;refine E.bS (F.f 92) (Z5 @aI.eq_1 @bx.eq_1 @qz.eq_1 @iL W ?_);refine E.cN (sp _) ?_;rw[lB,aD ω,aD ω] at j;have AP:=λ(h:g.fI≠[])=>Ko (nl:=true) (L:=g.fI) JP aZ0 h ω;have AP0:g.fI=[] ->∀h o,gU h 9 (.sl o 0 0 (some 0) 9) (eR eF 9 true g.fI)= .v (.sl o 0 0 (some 0) 9) h:=λB h o=>by rw[B];rfl
 have U:(g.fI.flatMap eF).length=g.fI.length*9:=kh JP g.fI;have H:=xd (b:=ii) ok.nc;have FK:∀{f:Fi},rd g f ->3<=f.kind ->∀{x:Nat},eR cI 1 f.tn f.tO= .ds [ι (x:Int)] 0 1 1 ->∀(h:AH) (o:Nat),cG (h.oB.get o)=some [ι (x:Int)] ->bP P X GL 176 [aI g,.ag [ι (f.kind:Int),ι (f.par:Int),ι (f.at_:Int),ι (f.child:Int),ι (f.left:Int),ι (f.tok:Int),.sl o 0 1 (some 1) 1,tp (aE f.cond).1,ι ((aE f.cond).2:Int)]] h (.b true) h:=λO k3 _ hx h o ho=>
  oE (n:=9) (m:=1) S (J8 (GL:=GL) S R A G ok O k3) (by rw[aL,aL,bZ,kq,nX (pF (n:=7) (by rw[hx];exact gA ho rfl))]) rfl
 have p1:aY .add (ι 1) (ι ((k%8:Nat):Int))=some (ι ((1+k%8:Nat):Int)):=oH (a:=1) ω;have q1:aY .sub (ι ((1+k%8:Nat):Int)) (ι 2)=some (ι ((k%8-1:Nat):Int)):=by rw[rX ω];congr 2;omega
 have p3:aY .add (ι 3) (ι ((k%8:Nat):Int))=some (ι ((3+k%8:Nat):Int)):=oH (a:=3) ω;have q3:aY .sub (ι ((3+k%8:Nat):Int)) (ι 4)=some (ι ((k%8-1:Nat):Int)):=by rw[rX ω];congr 2;omega
 by_cases J:k%8<4;have I:=λh=>S5 (GL:=GL) S R A G ok (f:=⟨k%8-1,a%g.pR.length,c%16,b%g.pR.length,0,0,[],true,xj ii g.nc⟩) H (by show k%8-1=1∨k%8-1=2;omega) rfl rfl rfl (jv _ ω) (jv _ ω) (by simp only;omega) h;simp only[aI,bx,eF,qv,qJ] at I;rw[mY,aF J] at j;rcases(show k%8=2∨k%8=3 by omega) with k0|k0<;>(
  refine qt @iL (ec Y wb) wc ra rb rn rc r9 r8 w8 p1 q1 J ?_;refine E.cN (I _) ?_;cases hp:pz g ⟨k%8-1,a%g.pR.length,c%16,b%g.pR.length,0,0,[],true,xj ii g.nc⟩;rw[aF ⟨J,hp⟩] at j;refine Z0 ?_;exact⟨9,by rw[←j];exact BC⟩;rw[aD (λh=>by rw[hp] at h;cases h.2)] at j;by_cases B:g.fI=[];refine Z2 @iB (AP0 B) ?_;refine⟨9,?_⟩;rw[←j,show∀f,g.fI++[f]=[]++[f] from λf=>by rw[B]];exact md (eu (n:=7) jD) (eu (n:=7) ko) (mZ (n:=7) (L:=[]) ju (pF (n:=6) rfl) rfl);refine Z3 @iB (AP B) U ?_;refine⟨9,?_⟩;rw[←j];exact md (eu (n:=7) jD) (eu (n:=7) ko) (mZ (n:=7) (L:=g.fI) ju (pF (n:=6) rfl) rfl))
 rw[mY,aD J,aD (λh=>J h.1)] at j;by_cases N:k%8<6;have I:=FK (f:=⟨k%8-1,0,0,0,a%g.nT.length,0,[b%9],true,xj ii g.nc⟩) { cond:=H,kinds:= .inr (.inl ⟨by show k%8-1=3∨k%8-1=4;omega,rfl,rfl,rfl,rfl,jv _ ω,by simp,λt V=>by rcases yC.1 V with rfl;omega,λi x y h1 h2=>by simp at h2⟩),tl:=by simp } (by show 3<=k%8-1;omega) rfl
 simp only[aI,bx,qJ] at I;rw[aF N] at j;rcases(show k%8=4∨k%8=5 by omega) with k0|k0<;>(
  refine qt @iL (ec Y wb) wc ra rb rn rc r9 r8 w8 p3 q3 N ?_;refine E.cN (I _ _ rfl) ?_;by_cases B:g.fI=[];refine Z2 @iB (AP0 B) ?_;refine⟨9,?_⟩;rw[←j,show∀f,g.fI++[f]=[]++[f] from λf=>by rw[B]];exact md (eu (n:=7) jD) (eu (n:=7) ko) (mZ (n:=7) (L:=[]) ju (pF (n:=6) (gA rfl rfl)) rfl);refine Z3 @iB (AP B) U ?_;refine⟨9,?_⟩;rw[←j];exact md (eu (n:=7) jD) (eu (n:=7) ko) (mZ (n:=7) (L:=g.fI) ju (pF (n:=6) (gA rfl rfl)) rfl))
 have I:=FK (f:=⟨5,0,0,0,0,0,[5],true,xj ii g.nc⟩) { cond:=H,kinds:= .inr (.inr ⟨rfl,rfl,rfl,rfl,rfl,rfl,by simp,λt V=>by rcases yC.1 V with rfl;omega,λi x y h1 h2=>by simp at h2⟩),tl:=by simp } (by show 3<=5;omega) rfl
 simp only[aI,bx,qJ] at I;rw[aD N] at j;refine Z5 Y ra r8 w8 N ?_;refine E.cN (I _ _ rfl) ?_;by_cases B:g.fI=[];refine Z2 @iB (AP0 B) ?_;refine⟨9,?_⟩;rw[←j,show∀f,g.fI++[f]=[]++[f] from λf=>by rw[B]];exact md (eu (n:=7) jD) (eu (n:=7) ko) (mZ (n:=7) (L:=[]) ju (pF (n:=6) (gA rfl rfl)) rfl);refine Z3 @iB (AP B) U ?_;refine⟨9,?_⟩;rw[←j];exact md (eu (n:=7) jD) (eu (n:=7) ko) (mZ (n:=7) (L:=g.fI) ju (pF (n:=6) (gA rfl rfl)) rfl)
variable {k ii:Nat}
def aZ4 {g} (ok:oy g) (pn:1<=g.pR.length) {a b c} (D:k<256) (j:a<256) (hb:b<256) (B:c<256) (hi:ii<256):bg P X GL ae 92 [aI g,.ag (qz k a b c ii)] (.ag (bx (lB g k a b c ii))):=by
 refine bg.intro λC E=> ?_;by_cases h1:k%8<2;exact aZ2 S E R A G F ok pn D j hb B hi rfl h1;by_cases H:k%8=7;exact aZ1 S E R A G F ok pn D j hb B hi rfl H;exact aZ3 S E R A G F ok pn D j hb B hi rfl ω ω
def tV (g:Gr):Prop:=∀p∈g.pR,∀c,p.name=[112,c] ->c<97+g.pR.length
variable {bs:List Nat}
def Tt {n}:(gP n bs).length<=4:=by
 unfold gP;rw[kU,jm];omega
def aZ5 {n} (B:1<=n):∀s∈gP n bs,(s.1=true/\ s.2<9)∨(s.1=false/\ s.2<n):=by
 intro s j;unfold gP at j;obtain⟨b,-,rfl⟩:=sV.1 j;unfold l9;split;exact .inl ⟨rfl,by assumption⟩;exact .inr ⟨rfl,jv _ B⟩
variable {left:Nat}
def aZ6 {g} (ok:oy g) {mk} (D:mk<256):sH g.nc g.nT.length (mW g left ii mk bs):=by
 have j:=ok.ntl.1;refine aQ5 D ⟨rfl,rfl,rfl,rfl,rfl,rfl,rfl,rfl,rfl,Tt⟩
  { name:=by simp[oO],left:=jv _ j,sym:=aZ5 j,len:=fJ Tt ω,lay:= ?_,layl:= ?_,cond:=xd ok.nc,rank:= ?_,dec:= .inl ⟨rfl,rfl⟩,uses:= .inl ⟨rfl,rfl⟩,br:= ?_ }
 intro c B;cases B;exact oi _;show(-1:Int)<=0/\ (0:Int)<=1;decide;intro h;cases h
def xe {g mk}:(mW g left ii mk bs).name=[112,97+g.pR.length]/\ (mW g left ii mk bs).left=left%g.nT.length/\ (mW g left ii mk bs).right=gP g.nT.length bs:=by
 unfold mW;exact aQ6
def rd.mono {g j f} (h:rd g f) (B:j.nc=g.nc) (D:j.nT=g.nT) (H:∀(i:Nat) p,g.pR[i]? =some p ->j.pR[i]? =some p):rd j f where
 cond:=by rw[B];exact h.cond
 kinds:=by
  rcases h.kinds with ⟨L,h1,h2,J,pp,I,e1,e2,e3⟩|h|h;exact .inl ⟨L,h1,h2,J,pp,I,H _ _ e1,H _ _ e2,e3⟩;exact .inr (.inl (by rw[D];exact h));exact .inr (.inr h)
 tl:=h.tl
variable {i:Nat}
def EX {α:Type} {L} {x y:α} (h:(L++[x])[i]? =some y):(L[i]? =some y/\ i<L.length)∨(i=L.length/\ y=x):=by
 by_cases hi:i<L.length;rw[pL hi] at h;exact .inl ⟨h,hi⟩;rw[rK ω] at h;have:i-L.length=0:=by
  rcases e:i-L.length with _|n;rfl;rw[e] at h;cases h
 rw[this] at h;exact .inr ⟨by omega,(gC h).symm⟩
def aZ7 {g} (ok:oy g) {p} (I:sH g.nc g.nT.length p) (N:g.pR.length<100) (hd:∀q∈g.pR,q.name≠p.name):oy { g with pR:=g.pR++[p] } where
 nc:=ok.nc
 fam:=ok.fam
 famr:=ok.famr
 tcl:=ok.tcl
 tc:=ok.tc
 ntl:=ok.ntl
 st:=ok.st
 ntn:=ok.ntn
 ntd:=ok.ntd
 pl:=by show(g.pR++[p]).length<=100;rw[dy,lF];omega
 p:=by
  intro q J;rcases fO.1 J with h|h;exact ok.p q h;rw[yC.1 h];exact I
 pd:=by
  intro i j q r hi D e;have hi:(g.pR++[p])[i]? =some q:=hi;have D:(g.pR++[p])[j]? =some r:=D;rcases EX hi with ⟨a1,-⟩|⟨a1,a2⟩<;>rcases EX D with ⟨B,-⟩|⟨B,b2⟩
  exact ok.pd i j q r a1 B e;rw[b2] at e;exact bh e (hd q (dI a1));rw[a2] at e;exact bh e.symm (hd r (dI B));omega
 ll:=ok.ll
 l:=ok.l
 lp:=λx L=>by
  have:=ok.lp x L;show x<(g.pR++[p]).length;rw[dy,lF];omega
 ld:=ok.ld
 fl:=ok.fl
 f:=λf H=>(ok.f f H).mono rfl rfl λi q h=>by
  show(g.pR++[p])[i]? =_;rw[pL (eC.1 h).1,h]
def aZ8 {g} (ok:oy g) (nm:tV g) (B:g.pR.length<100) {mk kn} (D:mk<256):oy (kN g left ii mk bs kn)/\ tV (kN g left ii mk bs kn)/\ g.pR.length<=(kN g left ii mk bs kn).pR.length/\ (kN g left ii mk bs kn).pR.length<=g.pR.length+1/\ (kN g left ii mk bs kn).nT=g.nT/\ (kN g left ii mk bs kn).lV=g.lV/\ (kN g left ii mk bs kn).fI=g.fI:=by
 unfold kN;split;exact⟨ok,nm,bB _,nD _,rfl,rfl,rfl⟩;refine⟨aZ7 ok (aZ6 ok D) B λq j e=> ?_,?_,?_,?_,rfl,rfl,rfl⟩;rw[xe.1] at e;have:=nm q j _ e;omega;intro q j c e;show c<97+(g.pR++[_]).length;rw[dy,lF];rcases fO.1 j with h|h;have:=nm q h c e;omega;rw[yC.1 h,xe.1] at e;injection e with _ e;injection e with e _;omega
 show _<=(g.pR++[_]).length;rw[dy];omega;show(g.pR++[_]).length<=_;rw[dy,lF];omega
def Tu {l} (h:tO l≠0):∃s∈l,s.1=true:=by
 unfold tO at h;rcases e:l.filter (·.1) with _|⟨s,t⟩;rw[e] at h;exact bh rfl h;have:s∈l.filter (·.1):=by rw[e];exact jG
 exact⟨s,(List.mem_filter.1 this).1,(List.mem_filter.1 this).2⟩
def aZ9 {g Z} (Y:iQ g Z) {mk kn} (L:kn=false ->∀i,Z i=false):iQ (kN g left ii mk bs kn) Z:=by
 unfold kN;split;exact Y;rename_i I;have tk:tO (gP g.nT.length bs)=0 ->kn=false/\ oP (left%g.nT.length) (gP g.nT.length bs)=true:=λh0=>by
  constructor;cases kn with|false=>rfl|true=>exact bh ⟨h0,.inl rfl⟩ I
  cases e:oP (left%g.nT.length) (gP g.nT.length bs) with|true=>rfl|false=>exact bh ⟨h0,.inr e⟩ I
 constructor;intro p D j;rcases fO.1 D with h|h;exact Y.z p h j;obtain rfl:=yC.1 h;rw[xe.2.1] at j;rw[xe.2.2];by_cases h0:tO (gP g.nT.length bs)=0;rw[L (tk h0).1] at j;cases j;obtain⟨s,H,h1⟩:=Tu h0;exact⟨s,H,.inl h1⟩;intro p D B i b hi;rcases fO.1 D with h|h;exact Y.st p h B i b hi;obtain rfl:=yC.1 h;rw[xe.2.2] at B hi;rw[xe.2.1,xe.2.2];by_cases h0:tO (gP g.nT.length bs)=0;have J:=(tk h0).2;have:=fX.1 J _ (dI hi);simp only[zC,aU] at this;exact .inl this;obtain⟨s,H,h1⟩:=Tu h0;rw[B s H] at h1;cases h1
def Kq {L p} (h:rh L p=false):∀x∈L.flatMap (·.pR),x≠p:=by
 intro x j e;obtain⟨l,B,j⟩:=Ll.1 j;have:rh L p=true:=qK.2 ⟨l,B,qK.2 ⟨x,j,by simpa using e⟩⟩;rw[h] at this;cases this
def Tv {g f} (h:pz g f=true):∃pp j,g.pR[f.par]? =some pp/\ g.pR[f.child]? =some j/\ pp.right[f.at_]? =some (false,j.left):=by
 unfold pz at h;split at h;rename_i pp j e1 e2;split at h;rename_i s e3;simp only[aB,jH,aU] at h;obtain⟨b,n⟩:=s;obtain⟨rfl,rfl⟩:=h;exact⟨pp,j,e1,e2,e3⟩;cases h;cases h
def ba0 {g} (ok:oy g) {a b c} (h:k%8<4 ->pz g (mY g k a b c ii)=true) (H:2<=k%8):rd g (mY g k a b c ii):=by
 have D:=ok.ntl.1;unfold mY at h ⊢;split;rename_i B;rw[aF B] at h;exact { cond:=xd ok.nc,kinds:= .inl ⟨by show k%8-1=1∨k%8-1=2;omega,rfl,rfl,rfl,Tv (h B)⟩,tl:=oi _ };split;exact { cond:=xd ok.nc,kinds:= .inr (.inl ⟨by show k%8-1=3∨k%8-1=4;omega,rfl,rfl,rfl,rfl,jv _ D,by simp,λt j=>by rcases yC.1 j with rfl;omega,λi x y h1 h2=>by simp at h2⟩),tl:=by simp }
 exact { cond:=xd ok.nc,kinds:= .inr (.inr ⟨rfl,rfl,rfl,rfl,rfl,rfl,by simp,λt j=>by rcases yC.1 j with rfl;omega,λi x y h1 h2=>by simp at h2⟩),tl:=by simp }
def Tw {g} (ok:oy g) (pn:1<=g.pR.length) (H:g.lV.length<100) (D:g.fI.length<100) {a b c}:oy (lB g k a b c ii)/\ (lB g k a b c ii).pR=g.pR/\ (lB g k a b c ii).lV.length<=g.lV.length+1/\ (lB g k a b c ii).fI.length<=g.fI.length+1:=by
 unfold lB;split;split;exact⟨ok,rfl,nD _,nD _⟩;rename_i h0;have h0:rh g.lV (a%g.pR.length)=false:=by simpa using h0
 refine⟨{ ok with ll:= ?_,l:= ?_,lp:= ?_,ld:= ?_,f:=λf D=>(ok.f f D).mono rfl rfl λ_ _ h=>h,p:=ok.p },rfl,?_,nD _⟩;show(g.lV++[_]).length<=100;rw[dy,lF];omega;intro l H;rcases fO.1 H with h|h;exact ok.l l h;obtain rfl:=yC.1 h;refine⟨?_,xd ok.nc,?_⟩;show c%4<=3;omega;unfold pE;dsimp only;split<;>simp;intro x j;show x<g.pR.length;have j:x∈(g.lV++[pE g a b c ii]).flatMap (·.pR):=j;rw[Bd,pO] at j;rcases fO.1 j with h|h;exact ok.lp x h;unfold pE at h;dsimp only at h;split at h;rcases ey.1 h with rfl|h;exact jv _ pn;rw[yC.1 h];exact jv _ pn;rw[yC.1 h];exact jv _ pn;show((g.lV++[pE g a b c ii]).flatMap (·.pR)).Nodup;rw[Bd,pO];refine zE.2 ⟨ok.ld,?_,?_⟩;unfold pE;dsimp only;split;rename_i h;simp only[FO,yC,List.not_mem_nil,not_false_eq_true,List.nodup_nil,and_true];exact λe=>h.1 e.symm;simp;intro x j y B;unfold pE at B;dsimp only at B;split at B;rename_i h;rcases ey.1 B with rfl|B;exact Kq h0 x j;rw[yC.1 B];exact Kq h.2 x j;rw[yC.1 B];exact Kq h0 x j;show(g.lV++[_]).length<=_;rw[dy,lF];omega;split;refine⟨{ ok with tcl:= ?_,tc:= ?_,f:=λf D=>(ok.f f D).mono rfl rfl λ_ _ h=>h,p:=ok.p },rfl,nD _,nD _⟩;show(g.tc.set _ _).length=11;rw[vK];exact ok.tcl;intro c J;rcases FF J with h|rfl;exact ok.tc c h;exact xd ok.nc;split;exact⟨ok,rfl,nD _,nD _⟩;rename_i h2 L I;refine⟨{ ok with fl:= ?_,f:= ?_,p:=ok.p },rfl,nD _,?_⟩;show(g.fI++[_]).length<=100;rw[dy,lF];omega;intro f D;have key:rd g f:=by
  rcases fO.1 D with h|h;exact ok.f f h;obtain rfl:=yC.1 h;exact ba0 ok (λh=>by cases e:pz g (mY g k a b c ii) with|true=>rfl|false=>exact bh ⟨h,e⟩ I) ω
 exact key.mono rfl rfl λ_ _ h=>h;show(g.fI++[_]).length<=_;rw[dy,lF];omega
def ba1 {g Z} (Y:iQ g Z) {a b c} (pn:1<=g.pR.length) (ok:oy g) (B:g.lV.length<100) (j:g.fI.length<100):iQ (lB g k a b c ii) Z:=by
 have e:=(Tw ok pn B j (k:=k) (a:=a) (b:=b) (c:=c) (ii:=ii)).2.1;exact⟨by rw[e];exact Y.z,by rw[e];exact Y.st⟩
def kP (nm:List Nat) (l:Nat) (r:List (Bool×Nat)):Pr:=oO nm l false r
def xf (nT:List (List Nat)) (ps:List Pr) (ls:List Lv) (fs:List Fi):Gr:=⟨2,[],yU true 3,List.replicate 11 (yU true 3),nT,[],ps,ls,fs,0⟩
def iZ:Nat ->Gr
 |0=>xf [[69]] [kP [97,100,100] 0 [(false,0),(true,1),(false,0)],kP [109,117,108] 0 [(false,0),(true,2),(false,0)],{ kP [98,114,97,99,107,101,116] 0 [(true,3),(false,0),(true,4)] with br:=true },kP [110,97,109,101] 0 [(true,0)],{ kP [112,111,119] 0 [(false,0),(true,8),(false,0)] with cond:=je 1 }] [⟨[4],2,yU true 3⟩,⟨[1],1,yU true 3⟩,⟨[0],1,Ey (je 0)⟩] []
 |1=>xf [[83],[67]] [kP [98,111,116,104] 0 [(true,5),(false,1),(false,0),(true,6),(false,0)],kP [116,104,101,110] 0 [(true,5),(false,1),(false,0)],kP [99,97,108,108] 0 [(false,1),(true,7)],{ kP [98,108,111,99,107] 0 [(true,3),(false,0),(true,4)] with br:=true },kP [119,111,114,100] 1 [(true,0)]] [] [⟨2,0,2,1,0,0,[],true,je 0⟩,⟨5,0,0,0,0,0,[5,6],true,je 1⟩]
 |2=>xf [[76],[73]] [kP [101,109,112,116,121] 0 [],kP [109,111,114,101] 0 [(false,0),(false,1)],{ kP [116,121,112,101] 1 [(true,1),(true,0),(true,7)] with dec:=2,kind:=1 },{ kP [112,111,105,110,116,101,114] 1 [(true,0),(true,2),(true,0),(true,7)] with dec:=3,kind:=2,uses:=1,allow:=2 },{ kP [112,114,111,100,117,99,116] 1 [(true,0),(true,2),(true,0),(true,7)] with uses:=1,allow:=5,rank:= -1 },{ kP [105,110,110,101,114] 1 [(true,3),(false,0),(true,4)] with opens:=true },{ kP [115,116,114,105,99,116] 1 [(true,0),(true,7)] with uses:=1,allow:=6,cond:=je 0 }] [] []
 |3=>xf [[66],[73]] [kP [111,110,101] 0 [(false,1)],{ kP [108,105,115,116] 0 [(false,0),(false,1)] with lay:=[(2,0,1)] },kP [119,111,114,100] 1 [(true,0)],{ kP [104,101,97,100] 1 [(true,5),(true,0),(false,0)] with lay:=[(3,0,2),(1,2,0)] },{ kP [108,105,110,101] 1 [(true,5),(false,0)] with lay:=[(4,0,1)],cond:=je 0 }] [] []
 |4=>xf [[83],[87],[86]] [kP [112,97,105,114] 0 [(false,1),(false,2)],{ kP [115,105,110,103,108,101] 1 [(true,0)] with rank:= -1 },kP [100,111,117,98,108,101] 1 [(true,0),(true,0)],kP [110,111,110,101] 2 [],kP [110,101,120,116] 2 [(true,0),(false,2)],{ kP [109,97,114,107] 2 [(true,1),(false,2)] with cond:=je 1 }] [] [⟨3,0,0,0,1,0,[0],true,je 0⟩,⟨4,0,0,0,2,0,[1],true,Ey (je 1)⟩]
 |_=>xf [[83],[79],[80]] [kP [97,108,108] 0 [(false,1),(true,0),(false,1),(false,2)],kP [110,111] 1 [],kP [121,101,115] 1 [(true,1)],kP [101,110,100] 2 [],{ kP [114,101,115,116] 2 [(true,1),(false,2)] with cond:=je 0 }] [] []
def Tx (k i:Nat):Bool:=(decide (k=2)||decide (k=3))&&decide (i=1)
def EY (p:Pr) (k v lo hi:Nat):Bool:=(decide (k=0)&&decide (v=0))||(decide (1<=k)&&(match p.right[k-1]? with|some s=>s.1|none=>false)&&decide (lo<=v)&&decide (v<=hi))
def Kr (p:Pr):Bool:=decide (p.rank=0)&&decide (p.lay=[])&& !p.opens&&decide (p.dec=0)&&decide (p.kind=0)&&decide (p.uses=0)&&decide (p.allow=0)&&(match p.right with|[(true,_),(false,l),(true,_)]=>decide (l=p.left)|_=>false)
def zf (n:Nat) (t:Tr):Bool:=cA 3 t&&jq n t
def Ks (nc j:Nat) (p:Pr):Bool:=
 decide (p.name≠[])&&decide (p.left<j)&&p.right.all (λs=>if s.1 then decide (s.2<9) else decide (s.2<j))&&decide (p.right.length<=8)&&
 p.lay.all (λc=>decide (1<=c.1/\ c.1<=4/\ c.2.1<p.right.length/\ c.2.2<p.right.length/\ (c.1=1 ->c.2.2=0)))&&decide (p.lay.length<=16)&&zf nc p.cond&&decide (-1<=p.rank/\ p.rank<=1)&&
 EY p p.dec p.kind 1 7&&EY p p.uses p.allow 0 255&&(!p.br||Kr p)
def BE {n t} (h:zf n t=true):sG n t:=by
 obtain⟨h1,h2⟩:=(aB _ _).mp h;exact⟨h1,h2⟩
def Ty {p v lo hi} (h:EY p k v lo hi=true):Bu p k v lo hi:=by
 unfold EY at h;simp only[ja,aB,aU] at h;rcases h with h|⟨⟨⟨h1,h2⟩,B⟩,D⟩;exact .inl h;refine .inr ⟨h1,?_,B,D⟩;split at h2;rename_i s e;obtain⟨b,j⟩:=s;obtain rfl:b=true:=h2;exact⟨j,e⟩;cases h2
def ba2 {nc I p} (h:Ks nc I p=true):sH nc I p:=by
 unfold Ks at h;simp only[aB,aU,fX] at h;obtain⟨⟨⟨⟨⟨⟨⟨⟨⟨⟨h1,h2⟩,V⟩,W⟩,Y⟩,Z⟩,h7⟩,h8⟩,h9⟩,H⟩,B⟩:=h;refine⟨h1,h2,λs hs=> ?_,W,Y,Z,BE h7,h8,Ty h9,Ty H,λhb=> ?_⟩;have:=V s hs;split at this;exact .inl ⟨by assumption,by simpa using this⟩;exact .inr ⟨by simpa using (by assumption:¬s.1=true),by simpa using this⟩;rw[hb] at B;have h:Kr p=true:=B;unfold Kr at h;simp only[aB,aU,jH] at h;obtain⟨⟨⟨⟨⟨⟨⟨g1,g2⟩,J⟩,L⟩,N⟩,O⟩,U⟩,D⟩:=h;refine⟨g1,g2,J,L,N,O,U,?_⟩;split at D;rename_i i l j e;have:l=p.left:=by simpa using D
 subst this;exact⟨i,j,e⟩;cases D
def Kt (g:Gr) (f:Fi):Bool:=zf g.nc f.cond&&decide (f.tO.length<=16)&&(
 (decide ((f.kind=1∨f.kind=2)/\ f.left=0/\ f.tok=0/\ f.tO=[])&&pz g f)||
 (decide ((f.kind=3∨f.kind=4)/\ f.par=0/\ f.at_=0/\ f.child=0/\ f.tok=0/\ f.left<g.nT.length)&&decide (f.tO.length=1)&&f.tO.all λt=>decide (t<9))||
 (decide (f.kind=5/\ f.par=0/\ f.at_=0/\ f.child=0/\ f.left=0/\ f.tok=0)&&decide (f.tO=[5,6])))
def ba3 {g f} (h:Kt g f=true):rd g f:=by
 unfold Kt at h;simp only[aB,aU,ja,fX] at h;obtain⟨⟨h1,h2⟩,h⟩:=h;refine⟨BE h1,?_,h2⟩;rcases h with (⟨⟨a,b,c,d⟩,e⟩|⟨⟨⟨a,b,c,d,e,i⟩,j⟩,k⟩)|⟨⟨a,b,c,d,e,i⟩,j⟩;exact .inl ⟨a,b,c,d,Tv e⟩;refine .inr (.inl ⟨a,b,c,d,e,i,?_,k,?_⟩);intro e;rw[e] at j;cases j;intro n x y _ e2;have:=(eC.1 e2).1;omega;refine .inr (.inr ⟨a,b,c,d,e,i,?_,?_,?_⟩);rw[j];simp;rw[j];decide;rw[j];intro n x y e1 e2
 match n with
 |0=>simp at e1 e2;omega
 |n+1=>simp at e2
def Tz (g:Gr):Bool:=decide (g.nc<=3)&&zf g.nc g.fam&&decide ((aE g.fam).2≠0)&&decide (g.tc.length=11)&&g.tc.all (zf g.nc)&&decide (1<=g.nT.length/\ g.nT.length<=4)&&
 g.nT.all (λs=>decide (s≠[]))&&decide g.nT.Nodup&&decide (g.pR.length<=100)&&g.pR.all (Ks g.nc g.nT.length)&&decide (g.pR.map (·.name)).Nodup&&decide (g.lV.length<=100)&&
 g.lV.all (λl=>decide (l.assoc<=3)&&zf g.nc l.cond&&decide (l.pR.length<=100))&&(g.lV.flatMap (·.pR)).all (λx=>decide (x<g.pR.length))&&decide (g.lV.flatMap (·.pR)).Nodup&&decide (g.fI.length<=100)&&g.fI.all (Kt g)&&decide (g.st<g.nT.length)
def TB {α:Type} {L:List α} (h:L.Nodup) {j:Nat} {x} (hi:L[i]? =some x) (B:L[j]? =some x):i=j:=
 (List.getElem?_inj (eC.1 hi).1 h).1 (hi.trans B.symm)
def TC {g} (h:Tz g=true):oy g:=by
 unfold Tz at h;simp only[aB,aU,fX] at h;obtain⟨⟨⟨⟨⟨⟨⟨⟨⟨⟨⟨⟨⟨⟨⟨⟨⟨h1,h2⟩,Y⟩,Z⟩,h5⟩,h6⟩,h7⟩,h8⟩,h9⟩,D⟩,H⟩,I⟩,B⟩,J⟩,L⟩,N⟩,O⟩,U⟩:=h;exact {
  st:=U,nc:=h1,fam:=BE h2,famr:=Y,tcl:=Z,tc:=λc hc=>BE (h5 c hc),ntl:=h6,ntn:=h7,ntd:=λi j s hi V=>TB h8 hi V,pl:=h9,p:=λp hp=>ba2 (D p hp),
  pd:=λi j p q hi V e=>TB H (by rw[oh,hi];rfl) (by rw[oh,V];exact congrArg some e.symm),ll:=I,l:=λl W=>⟨(B l W).1.1,BE (B l W).1.2,(B l W).2⟩,lp:=J,ld:=L,fl:=N,f:=λf hf=>ba3 (O f hf) }
def TD (g:Gr) (Z:Nat ->Bool):Bool:=g.pR.all λp=>(!Z p.left||p.right.any λs=>s.1||Z s.2)&&(p.right.any (·.1)||(match p.right with|[]=>true|[x]=>decide (p.left<x.2)|[x,y]=>(decide (p.left<x.2)||Z y.2)&&(decide (p.left<y.2)||Z x.2)|_=>false))
def TE {g Z} (h:TD g Z=true):iQ g Z:=by
 unfold TD at h;constructor;intro p B J;have:=fX.1 h p B;simp only[J,aB,jk,zC] at this;obtain⟨s,D,e⟩:=qK.1 this.1;exact⟨s,D,by simpa using e⟩;intro p B j i b hi;have:=(aB _ _▸fX.1 h p B).2;rw[ja] at this;rcases this with e|e;obtain⟨s,D,e⟩:=qK.1 e;rw[j s D] at e;cases e;split at e;rename_i q;rw[q] at hi;simp at hi;rename_i x q;rw[q] at hi
 match i with
 |0=>simp at hi;subst hi;exact .inl (by simpa using e)
 |i+1=>simp at hi
 rename_i x y q;rw[q] at hi j;have H:=j x (by simp);have I:=j y (by simp);simp only[aB,ja,aU] at e;obtain⟨L,x2⟩:=x;obtain⟨y1,N⟩:=y;obtain rfl:L=false:=H;obtain rfl:y1=false:=I;rw[q]
 match i with
 |0=>
  simp at hi;subst hi;rcases e.1 with e|e;exact .inl e;exact .inr ⟨1,N,by omega,rfl,e⟩
 |1=>
  simp at hi;subst hi;rcases e.2 with e|e;exact .inl e;exact .inr ⟨0,x2,by omega,rfl,e⟩
 |i+2=>simp at hi
 cases e
def ba4 (g:Gr):Bool:=g.pR.all λp=>decide (p.name.length≠2∨p.name.head?≠some 112)
def TF {g} (h:ba4 g=true):tV g:=by
 intro p j c e;have:=fX.1 h p j;rw[e] at this;simp at this
def TG (h:k<6):oy (iZ k)/\ iQ (iZ k) (Tx k)/\ tV (iZ k)/\ 1<=(iZ k).pR.length/\ (iZ k).pR.length<=7/\ (iZ k).lV.length<=3/\ (iZ k).fI.length<=3:=by
 rcases(show k=0∨k=1∨k=2∨k=3∨k=4∨k=5 by omega) with rfl|rfl|rfl|rfl|rfl|rfl<;>
  exact⟨TC (by decide+kernel),TE (by decide+kernel),TF (by decide+kernel),by decide,by decide,by decide,by decide⟩
def pG (n c:Nat):Gr:=⟨c,[[65],[66],[67]].drop c,yU true 3,List.replicate 11 (yU true 3),[[83],[80],[81]].take (n+1),[[83],[80],[81]].drop (n+1),[oO [102,105,114,115,116] 0 true [(true,0)]],[],[],0⟩
def ba5 {n c} (h:n<3) (j:c<4):oy (pG n c)/\ iQ (pG n c) (λ_=>false)/\ tV (pG n c):=by
 rcases(show n=0∨n=1∨n=2 by omega) with rfl|rfl|rfl<;>rcases(show c=0∨c=1∨c=2∨c=3 by omega) with rfl|rfl|rfl|rfl<;>
  exact⟨TC (by decide+kernel),TE (by decide+kernel),TF (by decide+kernel)⟩
def kw (g:Gr) (b:Option Nat):Gr:=match b with|some b=>if (aE (jR b g.nc)).2=0 then g else { g with fam:=jR b g.nc }|none=>g
def ba6 {g} (ok:oy g) {b}:oy (kw g b)/\ (kw g b).pR=g.pR/\ (kw g b).lV=g.lV/\ (kw g b).fI=g.fI:=by
 unfold kw;split;split;exact⟨ok,rfl,rfl,rfl⟩;exact⟨{ ok with fam:=⟨aK4 ok.nc,Ex _ _ _⟩,famr:=by assumption,f:=λf j=>(ok.f f j).mono rfl rfl λ_ _ h=>h,p:=ok.p },rfl,rfl,rfl⟩;exact⟨ok,rfl,rfl,rfl⟩
def cB (b:Nat):List AV:=[.i .u8 (b:Int)]
structure qA where
 left:Nat
 nl:Bool
 bs:List Nat
 ii:Nat
 mark:Nat
structure qB where
 k:Nat
 a:Nat
 b:Nat
 c:Nat
 ii:Nat
def n9 (x:qA):List AV:=xC x.left (eR cB 1 x.nl x.bs) x.ii x.mark
def oe (x:qB):List AV:=qz x.k x.a x.b x.c x.ii
structure qA.OK (x:qA):Prop where
 left:x.left<256
 bs:∀b∈x.bs,b<256
 ii:x.ii<256
 mark:x.mark<256
structure qB.OK (x:qB):Prop where
 k:x.k<256
 a:x.a<256
 b:x.b<256
 c:x.c<256
 ii:x.ii<256
structure fA where
 base:Nat
 n:Nat
 fnl:Bool
 fam:List Nat
 lnl:Bool
 lI:List qA
 rnl:Bool
 rU:List qB
structure fA.OK (x:fA):Prop where
 base:x.base<256
 n:x.n<256
 fam:∀b∈x.fam,b<256
 lI:∀l∈x.lI,l.OK
 rU:∀r∈x.rU,r.OK
def gI (x:fA):List AV:=[.i .u8 (x.base:Int),.i .u8 (x.n:Int),eR cB 1 x.fnl x.fam,eR n9 4 x.lnl x.lI,eR oe 5 x.rnl x.rU]
def vm (x:fA):AV:= .ag (gI x)
def fA.known (x:fA):Bool:=decide (x.base%8<6)
def fA.most (x:fA):Nat:=if x.known then 6 else 10
def PH (x:fA):Gr:=if x.known then iZ (x.base%8) else pG (x.n/4%3) (x.n%4)
def If (x:fA):Gr:=kw (PH x) x.fam.head?
def sO (kn:Bool) (g:Gr) (l:qA):Gr:=kN g l.left l.ii l.mark l.bs kn
def rt (g:Gr) (r:qB):Gr:=lB g r.k r.a r.b r.c r.ii
def lC (x:fA) (i:Nat):Gr:=(x.lI.take (min i x.most)).foldl (sO x.known) (If x)
def oU (x:fA) (i:Nat):Gr:=(x.rU.take (min i 6)).foldl rt (lC x x.most)
def fU (x:fA):Gr:=oU x 6
def zX (x:fA):Nat ->Bool:=if x.known then Tx (x.base%8) else λ_=>false
structure GI (x:fA) (i j:Nat) (g:Gr):Prop where
 ok:oy g
 ac:iQ g (zX x)
 nm:tV g
 p1:1<=g.pR.length
 pl:g.pR.length<=7+i
 ll:g.lV.length<=3+j
 fl:g.fI.length<=3+j
variable {x:fA}
def ba7:GI x 0 0 (If x):=by
 have key:∀g,oy g/\ iQ g (zX x)/\ tV g/\ 1<=g.pR.length/\ g.pR.length<=7/\ g.lV.length<=3/\ g.fI.length<=3 ->GI x 0 0 (kw g x.fam.head?):=by
  rintro g ⟨h1,h2,j,B,D,H,I⟩;obtain⟨f1,f2,f3,f4⟩:=ba6 h1 (b:=x.fam.head?);exact⟨f1,⟨by rw[f2];exact h2.z,by rw[f2];exact h2.st⟩,by unfold tV;rw[f2];exact j,by rw[f2];exact B,by rw[f2];exact D,by rw[f3];exact H,by rw[f4];exact I⟩
 refine key _ ?_;unfold PH zX;cases J:x.known with
 |true=>exact TG (by simpa[fA.known] using J)
 |false=>
  obtain⟨h1,h2,j⟩:=ba5 (n:=x.n/4%3) (c:=x.n%4) ω ω;exact⟨h1,h2,j,bB _,by show 1<=7;omega,by show 0<=3;omega,by show 0<=3;omega⟩
def TH {α:Type} {L:List α} {a} (h:L[i]? =some a):L.take (i+1)=L.take i++[a]:=by
 rw[List.take_add_one,h];rfl
def TJ {l} (hi:i<x.most) (h:x.lI[i]? =some l):lC x (i+1)=sO x.known (lC x i) l:=by
 unfold lC;rw[kF ω,kF ω,TH h,xH];rfl
def TK {l} (hi:i<6) (h:x.rU[i]? =some l):oU x (i+1)=rt (oU x i) l:=by
 unfold oU;rw[kF ω,kF ω,TH h,xH];rfl
def EZ:x.most<=10:=by unfold fA.most;split<;>omega
def Ku {x} (ok:x.OK):∀i,i<=min x.lI.length x.most ->GI x i 0 (lC x i)
 |0,_=>ba7
 |i+1,hi=>by
  have j:=Ku ok i ω;have O:=EZ (x:=x);have B:x.lI[i]? =some x.lI[i]:=ef ω;rw[TJ ω B];have lo:=ok.lI _ (dI B);have pl:=j.pl;obtain⟨h1,h2,D,H,N,I,J⟩:=aZ8 (left:=x.lI[i].left) (ii:=x.lI[i].ii) (bs:=x.lI[i].bs) (kn:=x.known) j.ok j.nm ω lo.mark;refine⟨h1,aZ9 j.ac λL i=> ?_,h2,fJ j.p1 D,fJ H ω,?_,?_⟩;unfold zX;rw[L];rfl;show(kN _ _ _ _ _ _).lV.length<=_;rw[I];exact j.ll;show(kN _ _ _ _ _ _).fI.length<=_;rw[J];exact j.fl
def TM (h:i=min x.lI.length x.most):lC x i=lC x x.most:=by
 unfold lC;rw[Cm,h];rcases zF x.lI.length x.most with q|q;rw[kF q,kF q,vM (bB _),vM q];rw[sY q,Cm]
def TN (h:i=min x.rU.length 6):oU x i=fU x:=by
 unfold fU oU;rw[Cm,h];rcases zF x.rU.length 6 with q|q;rw[kF q,kF q,vM (bB _),vM q];rw[sY q,Cm]
def Kv {x} (ok:x.OK):∀j,j<=min x.rU.length 6 ->GI x 10 j (oU x j)
 |0,_=>by
  have h:GI x (min x.lI.length x.most) 0 (lC x x.most):=by
   have:=Ku ok _ (bB (min x.lI.length x.most))
   rwa [TM rfl] at this
  have J:=EZ (x:=x);exact⟨h.ok,h.ac,h.nm,h.p1,fJ h.pl ω,h.ll,h.fl⟩
 |j+1,hj=>by
  have B:=Kv ok j ω;have I:x.rU[j]? =some x.rU[j]:=ef ω;rw[TK ω I];have ll:=B.ll;have fl:=B.fl;obtain⟨h1,h2,D,H⟩:=Tw (k:=x.rU[j].k) (a:=x.rU[j].a) (b:=x.rU[j].b) (c:=x.rU[j].c) (ii:=x.rU[j].ii) B.ok B.p1 ω ω;refine⟨h1,ba1 B.ac B.p1 B.ok ω ω,?_,?_,?_,fJ D ω,fJ H ω⟩;unfold tV rt;rw[h2];exact B.nm;show 1<=(lB _ _ _ _ _ _).pR.length;rw[h2];exact B.p1;show(lB _ _ _ _ _ _).pR.length<=_;rw[h2];exact B.pl
def Kw (ok:x.OK):oy (fU x)/\ iQ (fU x) (zX x)/\ 1<=(fU x).pR.length:=by
 have h:=Kv ok _ (bB (min x.rU.length 6));rw[TN rfl] at h;exact⟨h.ok,h.ac,h.p1⟩
def ba8 x:(n9 x).length=4:=rfl
def ba9 x:(oe x).length=5:=rfl
def zg {n h} b:bJ n h (cB b)=some (cB b):=by simp only[cB,aL,bZ,dH]
def TO {n h} x:bJ (n+1) h (n9 x)=some (n9 x):=by simp only[n9,xC,aL,bZ,dH,eu zg]
def TP {n h} x:bJ n h (oe x)=some (oe x):=by simp only[oe,qz,aL,bZ,dH]
def pH {n} b:nice.niceL n (cB b)=true:=by simp only[cB,Bg,iq,j9,A7]
def E0 {n} x:nice.niceL (n+1) (n9 x)=true:=by simp only[n9,xC,Bg,iq,j9,A4 pH,A7]
def E1 {n} x:nice.niceL n (oe x)=true:=by simp only[oe,qz,Bg,iq,j9,A7]
def bb0 {nl} (h:∀b∈bs,b<256):EA (eR cB 1 nl bs) bs:=by
 refine⟨h,?_⟩;rcases bs with _|⟨b,bs⟩;cases nl;exact .inr ⟨[],rfl,λi b hi=>by simp at hi⟩;exact .inl ⟨rfl,rfl⟩;refine .inr ⟨(b::bs).flatMap cB,rfl,λi x hi=> ?_⟩;have e:∀l:List Nat,l.flatMap cB=l.map λb:Nat=>AV.i .u8 (b:Int):=λl=>by
  induction l with
  |nil=>rfl
  |cons a l j=>rw[lE,j];rfl
 rw[e,oh,hi];rfl
def TQ {nl} (h:∀b∈bs,b<256):xa (eR cB 1 nl bs) (bs.head?.getD 0):=by
 rcases bs with _|⟨b,bs⟩;cases nl;exact .nil _;exact .sn;exact .ds _ bs.length b (h b jG) rfl
instance:Nc cB:=⟨λ_ _=>pH _⟩
attribute [go_sem] pH
instance:Nc n9:=⟨λ_ _=>E0 _⟩
attribute [go_sem] E0
instance:Nc oe:=⟨λ_ _=>E1 _⟩
attribute [go_sem] E1
def ZG:List AV:=[.sn,.sn,ι 0,.sn,.sn,.sn,ι 0,.sn,.sn]
structure E2 (h:AH) (g:Gr) (c:List AV):Prop where
 len:c.length=9
 simp:wV c=true
 frz:∃l,(∀o∈l,3<o)/\ bJ 8 (qT h l) c=some (bx g)
def bb1 g:wV (bx g)=true:=by
 simp only[bx,Ei,qR,JQ,tN,uZ];rfl
def E2.of h g:E2 h g (bx g):=⟨rfl,bb1 g,⟨[],(λo h=>by cases h),SB (n:=6) g⟩⟩
structure MI (x:fA) (g:Gr) (τ:T AV) (h:AH):Prop where
 c0:cG (h.oB.get 0)=some (gI x)
 c1:cG (h.oB.get 1)=some ZG
 c2:∃c,cG (h.oB.get 2)=some c/\ E2 h g c
 nx:4<=h.next
 t1:τ.get 1=some (.p 0 0)
 t2:τ.get 2=some (.p 1 0)
 t3:τ.get 3=some (.b x.known)
 t4:τ.get 4=some (.p 2 0)
 t5:τ.get 5=some (ι (x.most:Int))
def TS {h l} (j:∀o∈l,3<o) {o} (B:o<=3):(tE h l).oB.get o=h.oB.get o:=by
 show(qf h l h.oB).get o=_;rw[AL,aD (λq=>by have:=j o q.1;omega)]
def bb3 {x} (ok:x.OK) {i} (hi:i<min x.lI.length x.most) {S' K τ h}
 (L:MI x (lC x i) τ h) (t7:τ.get 7=some (ι (i))) (J:∀τ' h',MI x (lC x (i+1)) τ' h' ->τ'.get 7=some (ι ((i+1:Nat):Int)) ->df C (.loop PE) S' K τ' h'):df C PE (.s (.loop PE)::S') K τ h:=by
 obtain⟨n1,v1,ob⟩:=h;obtain⟨c0,c1,⟨c,c2,D⟩,nx,t1,t2,t3,t4,t5⟩:=L;dsimp only at c0 c1 c2;have I:x.lI[i]? =some x.lI[i]:=ef ω;rw[TJ ω I] at J;have lo:=ok.lI _ (dI I);generalize x.lI[i]=l at I lo J;have N:=Ku ok i ω;generalize lC x i=g at N D J;have b0:i<x.lI.length:=by omega
 have hm:=EZ (x:=x);have Z:i<10:=by omega
 have sc:sub c 0 9=some c:=mM D.len;have e4:sub (x.lI.flatMap n9) (i*4) 4=some (n9 l):=cW ba8 I (j:=0) (n:=4) ω;simp only[gI] at c0;simp only[n9,xC] at e4;refine Z9 c0 c2 t1 t3 t4 t5 t7 sc e4 ?_;obtain⟨fl,O,hd⟩:=D.frz;have B:∀o,o<=3 ->(qf ⟨n1,v1,ob⟩ fl ob).get o=ob.get o:=λo Y=>TS (h:=⟨n1,v1,ob⟩) O Y;have V:bP P X GL 91 [.ag c,.ag (n9 l),.b x.known] ⟨n1,v1,ob⟩ (.ag (bx (sO x.known g l))) ⟨n1,v1,qf ⟨n1,v1,ob⟩ fl ob⟩:=
  Dq S (aY4 (left:=l.left) (ii:=l.ii) (mk:=l.mark) (W:=eR cB 1 l.nl l.bs) S R A G F N.ok N.p1 (bb0 lo.bs) (A4 pH) lo.left lo.ii lo.mark) (n:=9) (l:=fl) (by
   have e1:deep 9 (qT ⟨n1,v1,ob⟩ fl) (.ag c)=some (aI g):=nX hd;rw[aL,aL,aL,bZ,e1,nX (n:=8) (TO (n:=7) l)];rfl)
 have nt:(sO x.known g l)=sO x.known g l:=rfl;generalize sO x.known g l=U at*;simp only[n9,xC] at V;generalize qf ⟨n1,v1,ob⟩ fl ob=ob' at*;have o0:=(congrArg cG (B 0 ω)).trans c0;have o1:=(congrArg cG (B 1 ω)).trans c1;have o2:=(congrArg cG (B 2 ω)).trans c2;refine E.cN V ?_;have ov:∀L:List AV,L.length=9 ->oZ L c=some L:=λL hL=>by rw[vV,aF (by rw[D.len,hL];exact bB _),FP (by rw[D.len,hL];exact bB _),lG]
 have H:=ov (bx U) rfl;simp only[bx] at H;refine Z5 @bx.eq_1 o2 t4 t7 H ?_;refine J _ _ { c0:= ?_,c1:= ?_,c2:=⟨bx U,?_,.of _ _⟩,nx:=nx,t1:= ?_,t2:= ?_,t3:= ?_,t4:= ?_,t5:= ?_ } ?_;any_goals simp only[T.get_put,Nat.reduceEqDiff,reduceIte,t1,t2,t3,t4,t5]
 exact o0;exact o1;rfl
def bb4 {x} (ok:x.OK) {i} (hi:i<min x.rU.length 6) {S' K τ h}
 (L:MI x (oU x i) τ h) (t8:τ.get 8=some (ι (i))) (J:∀τ' h',MI x (oU x (i+1)) τ' h' ->τ'.get 8=some (ι ((i+1:Nat):Int)) ->df C (.loop PI) S' K τ' h'):df C PI (.s (.loop PI)::S') K τ h:=by
 obtain⟨n1,v1,ob⟩:=h;obtain⟨c0,c1,⟨c,c2,D⟩,nx,t1,t2,t3,t4,t5⟩:=L;dsimp only at c0 c1 c2;have I:x.rU[i]? =some x.rU[i]:=ef ω;rw[TK ω I] at J;have lo:=ok.rU _ (dI I);generalize x.rU[i]=l at I lo J;have N:=Kv ok i ω;generalize oU x i=g at N D J;have Z:i<x.rU.length:=by omega
 have Y:i<10:=by omega
 have sc:sub c 0 9=some c:=mM D.len;have e4:sub (x.rU.flatMap oe) (i*5) 5=some (oe l):=cW ba9 I (j:=0) (n:=5) ω;simp only[gI] at c0;simp only[oe,qz] at e4;refine Z7 c0 c2 t1 t4 t8 sc e4 ?_;obtain⟨fl,O,hd⟩:=D.frz;have B:∀o,o<=3 ->(qf ⟨n1,v1,ob⟩ fl ob).get o=ob.get o:=λo W=>TS (h:=⟨n1,v1,ob⟩) O W;have V:bP P X GL 92 [.ag c,.ag (oe l)] ⟨n1,v1,ob⟩ (.ag (bx (rt g l))) ⟨n1,v1,qf ⟨n1,v1,ob⟩ fl ob⟩:=
  Dq S (aZ4 (k:=l.k) (a:=l.a) (b:=l.b) (c:=l.c) (ii:=l.ii) S R A G F N.ok N.p1 lo.k lo.a lo.b lo.c lo.ii) (n:=9) (l:=fl) (by
   have e1:deep 9 (qT ⟨n1,v1,ob⟩ fl) (.ag c)=some (aI g):=nX hd;rw[aL,aL,bZ,e1,nX (n:=8) (TP (n:=8) l)];rfl)
 have nt:(rt g l)=rt g l:=rfl;generalize rt g l=U at*;simp only[oe,qz] at V;generalize qf ⟨n1,v1,ob⟩ fl ob=ob' at*;have o0:=(congrArg cG (B 0 ω)).trans c0;have o1:=(congrArg cG (B 1 ω)).trans c1;have o2:=(congrArg cG (B 2 ω)).trans c2;refine E.cN V ?_;have ov:∀L:List AV,L.length=9 ->oZ L c=some L:=λL hL=>by rw[vV,aF (by rw[D.len,hL];exact bB _),FP (by rw[D.len,hL];exact bB _),lG]
 have H:=ov (bx U) rfl;simp only[bx] at H;refine Z5 @bx.eq_1 o2 t4 t8 H ?_;refine J _ _ { c0:= ?_,c1:= ?_,c2:=⟨bx U,?_,.of _ _⟩,nx:=nx,t1:= ?_,t2:= ?_,t3:= ?_,t4:= ?_,t5:= ?_ } ?_;any_goals simp only[T.get_put,Nat.reduceEqDiff,reduceIte,t1,t2,t3,t4,t5]
 exact o0;exact o1;rfl
def TT {x} (ok:x.OK) {D} (W: .ag (bx (fU x))=D) {τ h}
 (L:MI x (If x) τ h):df C (.seq PF (.seq HY (.seq Ii .ret))) [] (KF (λx h=>∃n,deep n h x=some D) [(2,some (9,true))]) τ h:=by
 have H:lC x 0=If x:=by unfold lC;rw[av5];rfl
 have I:oU x 0=lC x x.most:=by unfold oU;rw[av5];rfl
 refine Z0 ?_;refine fj E.ok (min x.lI.length x.most) (λi τ h=>MI x (lC x i) τ h/\ τ.get 7=some (ι (i:Int))) (λi τ h hi L ih=>bb3 S E R A G F ok hi L.1 L.2 λτ' h' L' t'=>ih τ' h' ⟨L',t'⟩) ?_ _ _ ⟨?_,U0⟩;rintro τ h ⟨L,t7⟩;rw[TM rfl] at L;have B:∀τ':T AV,τ'.get 1=τ.get 1 ->τ'.get 2=τ.get 2 ->τ'.get 3=τ.get 3 ->τ'.get 4=τ.get 4 ->τ'.get 5=τ.get 5 ->df C (.seq HY (.seq Ii .ret)) [] (KF (λx h=>∃n,deep n h x=some D) [(2,some (9,true))]) τ' h:=by
  intro τ' Z s2 s3 s4 s5;refine Z0 ?_;refine fj E.ok (min x.rU.length 6) (λi τ h=>MI x (oU x i) τ h/\ τ.get 8=some (ι (i:Int))) (λi τ h hi L ih=>bb4 S E R A G F ok hi L.1 L.2 λτ' h' L' t'=>ih τ' h' ⟨L',t'⟩) ?_ _ _ ⟨?_,U0⟩;rintro τ ⟨n1,v1,ob⟩ ⟨L,t8⟩;rw[TN rfl] at L;obtain⟨c0,c1,⟨c,c2,j⟩,nx,t1,t2,t3,t4,t5⟩:=L;dsimp only at c0 c1 c2;simp only[gI] at c0;have U:sub c 0 9=some c:=mM j.len;have ov:oZ c ZG=some c:=by rw[vV,aF (by rw[j.len];decide),FP (by rw[j.len];decide),lG]
  simp only[ZG] at c1 ov;have fin:∃n,deep n ⟨n1,v1+1,ob.put 1 (.cells (v1+1) c)⟩ (.ag c)=some D:=by
   obtain⟨fl,N,hd⟩:=j.frz;refine⟨9,?_⟩;rw[←W];refine nX ((BG (λo v l Y=> ?_) 8).2 _ _ hd);rcases Hj ⟨n1,v1,ob⟩ fl .e o _ Y with ⟨h1,-,V⟩|h;have:=N o h1;refine⟨v,?_⟩;show(ob.put 1 _).get o=_;rw[T.get_put,aD ω];exact V;have e:(T.e:T bC).get o=none:=rfl;rw[e] at h;cases h
  by_cases J:x.rU.length<=6;rw[kF J] at t8;refine sC c0 c1 c2 t1 t2 t4 t8 U ov j.simp j.len ?_;exact fin;rw[sY ω] at t8;have O:τ.get 8=some (ι 6):=t8;refine sC c0 c1 c2 t1 t2 t4 O U ov j.simp j.len ?_;exact fin;rw[I];exact { c0:=L.c0,c1:=L.c1,c2:=L.c2,nx:=L.nx,t1:=by exact U2 Z L.t1,t2:=by exact U2 s2 L.t2,t3:=by exact U2 s3 L.t3,t4:=by exact U2 s4 L.t4,t5:=by exact U2 s5 L.t5 }
 obtain⟨n1,v1,ob⟩:=h;obtain⟨c0,c1,⟨c,c2,j⟩,nx,t1,t2,t3,t4,t5⟩:=L;dsimp only at c0 c1 c2;simp only[gI] at c0;have hm:=EZ (x:=x);generalize hq:(aw.seq HY (.seq Ii .ret))=nxt at B ⊢;by_cases J:x.lI.length<=x.most;rw[kF J] at t7;refine Z3 c0 t1 t7 ?_;apply B<;>exact U0;rw[sY ω] at t7;refine Z4 c0 t1 t5 t7 ?_;apply B<;>exact U0;rw[H];exact { c0:=L.c0,c1:=L.c1,c2:=L.c2,nx:=L.nx,t1:=by exact U1 L.t1,t2:=by exact U1 L.t2,t3:=by exact U1 L.t3,t4:=by exact U1 L.t4,t5:=by exact U1 L.t5 }
end
end AM
