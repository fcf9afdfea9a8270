import Derived.Test.YtihgjngjidijaaaGreatDoorN25
set_option linter.all false
set_option maxHeartbeats 8000000
namespace AM
open Dg Go
noncomputable section
variable {P:Program} {X:aR} {GL:T (List AV)} {ae:T au}
def xd {b n:Nat} (hn:n<=3):sG n (da b n):=⟨aP8,aP9 hn⟩
variable (S:aT P X GL ae) {C:aK Prop} (E:Sem P X GL ae C)
def aZ3 (R:eL ae) (A:dY P X GL) (G:jf ae) (F:hZ ae) {g:Gr} (ok:ce g) (pn:1<=g.pR.length) {k a b c ii:Nat} (hk:k<256) (ha:a<256) (hb:b<256) (hc:c<256) (hi:ii<256) {D:AV} (hD: .ag (ar (lB g k a b c ii))=D) (k2:2<=k%8) (k7:k%8<7):du C 83 [aI g,.ag (qz k a b c ii)] h0 λx h=>∃n,deep n h x=some D:=by
 have hpl:=ok.pl;have hfl:=ok.fl;have hntl:=ok.ntl;have ncl:=BD ok.nc;have r8:aY .rem (.i .u8 (k:Int)) (.i .u8 8)=some (.i .u8 ((k%8:Nat):Int)):=tP (c:=8) ω;have w8:dN .i64 ((k%8:Nat):Int)=((k%8:Nat):Int):=lj ω;have wa:dN .i64 (a:Int)=(a:Int):=lj ω;have wb:dN .i64 (b:Int)=(b:Int):=lj ω;have wc:dN .i64 (c:Int)=(c:Int):=lj ω;have ra:aY .rem (ι (a:Int)) (ι (g.pR.length:Int))=some (ι ((a%g.pR.length:Nat):Int)):=iA ω;have rb:aY .rem (ι (b:Int)) (ι (g.pR.length:Int))=some (ι ((b%g.pR.length:Nat):Int)):=iA ω;have rn:aY .rem (ι (a:Int)) (ι (g.nT.length:Int))=some (ι ((a%g.nT.length:Nat):Int)):=iA ω;have rc:aY .rem (ι (c:Int)) (ι 16)=some (ι ((c%16:Nat):Int)):=iA (c:=16) ω;have r9:aY .rem (ι (b:Int)) (ι 9)=some (ι ((b%9:Nat):Int)):=iA (c:=9) ω;have sp:=λh=>dR S (Ez (GL:=GL) S R A F (b:=ii) hi ok.nc) (n:=1) (by rfl) h;simp only[eT,eD] at sp;refine E.bS F.f83 (sC @En.eq_1 @aI.eq_1 @ar.eq_1 @qz.eq_1 @iL @dw ncl wa ra r8 @h0.eq_1 ?_);refine E.cN (sp _) ?_;rw[lB,aD ω,aD ω] at hD;have AP:=λ(h:g.fI≠[])=>Ko (nl:=true) (L:=g.fI) JP aZ0 h ω;have AP0:g.fI=[] ->∀h o,gU h 9 (.sl o 0 0 (some 0) 9) (eR eF 9 true g.fI)= .v (.sl o 0 0 (some 0) 9) h:=λhf h o=>by rw[hf];rfl
 have hl:(g.fI.flatMap eF).length=g.fI.length*9:=kh JP g.fI;have fitS:=xd (b:=ii) ok.nc;rcases(show k%8=2∨k%8=3∨k%8=4∨k%8=5∨k%8=6 by omega) with k0|k0|k0|k0|k0
 ·rw[k0] at w8;have ef:mY g k a b c ii=⟨1,a%g.pR.length,c%16,b%g.pR.length,0,0,[],true,da ii g.nc⟩:=by unfold mY;rw[aF ω,k0]
  have p1:aY .add (ι 1) (ι ((2:Nat):Int))=some (ι 3):=rfl;have p2:aY .add (ι 1) (ι 2)=some (ι 3):=rfl;have q1:aY .sub (ι 3) (ι 2)=some (ι 1):=rfl;have fp:=λh=>S5 (GL:=GL) S R A G ok (f:=⟨1,a%g.pR.length,c%16,b%g.pR.length,0,0,[],true,da ii g.nc⟩) fitS (by first|exact .inl rfl|exact .inr rfl) rfl rfl rfl (jv _ ω) (jv _ ω) (by simp only;omega) h;simp only[aI,ar,eF,qv,qJ] at fp;rw[ef] at hD;refine wS @iL @dw ncl wa wb wc ra rb rn rc r9 r8 k0 w8 p1 p2 q1 @ec ?_;refine E.cN (fp _) ?_;cases hp:pz g ⟨1,a%g.pR.length,c%16,b%g.pR.length,0,0,[],true,da ii g.nc⟩ with
  |false=>
   rw[aF ⟨by omega,hp⟩] at hD;refine Z1 @ec ?_;exact⟨9,by rw[←hD];exact BC⟩
  |true=>
   rw[aD (λh=>by rw[hp] at h;cases h.2)] at hD;by_cases hf:g.fI=[]
   ·refine Z3 @ec @iB (AP0 hf) ?_;refine⟨9,?_⟩;rw[←hD,show∀f,g.fI++[f]=[]++[f] from λf=>by rw[hf]];exact md (dA (n:=7) jD) (dA (n:=7) ko) (mZ (n:=7) (L:=[]) ju (pF (n:=6) (f:=⟨1,a%g.pR.length,c%16,b%g.pR.length,0,0,[],true,da ii g.nc⟩) rfl) rfl)
   ·refine Z4 @ec @iB (AP hf) hl ?_;refine⟨9,?_⟩;rw[←hD];exact md (dA (n:=7) jD) (dA (n:=7) ko) (mZ (n:=7) (L:=g.fI) ju (pF (n:=6) (f:=⟨1,a%g.pR.length,c%16,b%g.pR.length,0,0,[],true,da ii g.nc⟩) rfl) rfl)
 ·rw[k0] at w8;have ef:mY g k a b c ii=⟨2,a%g.pR.length,c%16,b%g.pR.length,0,0,[],true,da ii g.nc⟩:=by unfold mY;rw[aF ω,k0]
  have p1:aY .add (ι 1) (ι ((3:Nat):Int))=some (ι 4):=rfl;have p2:aY .add (ι 1) (ι 3)=some (ι 4):=rfl;have q1:aY .sub (ι 4) (ι 2)=some (ι 2):=rfl;have fp:=λh=>S5 (GL:=GL) S R A G ok (f:=⟨2,a%g.pR.length,c%16,b%g.pR.length,0,0,[],true,da ii g.nc⟩) fitS (by first|exact .inl rfl|exact .inr rfl) rfl rfl rfl (jv _ ω) (jv _ ω) (by simp only;omega) h;simp only[aI,ar,eF,qv,qJ] at fp;rw[ef] at hD;refine wS @iL @dw ncl wa wb wc ra rb rn rc r9 r8 k0 w8 p1 p2 q1 @ec ?_;refine E.cN (fp _) ?_;cases hp:pz g ⟨2,a%g.pR.length,c%16,b%g.pR.length,0,0,[],true,da ii g.nc⟩ with
  |false=>
   rw[aF ⟨by omega,hp⟩] at hD;refine Z1 @ec ?_;exact⟨9,by rw[←hD];exact BC⟩
  |true=>
   rw[aD (λh=>by rw[hp] at h;cases h.2)] at hD;by_cases hf:g.fI=[]
   ·refine Z3 @ec @iB (AP0 hf) ?_;refine⟨9,?_⟩;rw[←hD,show∀f,g.fI++[f]=[]++[f] from λf=>by rw[hf]];exact md (dA (n:=7) jD) (dA (n:=7) ko) (mZ (n:=7) (L:=[]) ju (pF (n:=6) (f:=⟨2,a%g.pR.length,c%16,b%g.pR.length,0,0,[],true,da ii g.nc⟩) rfl) rfl)
   ·refine Z4 @ec @iB (AP hf) hl ?_;refine⟨9,?_⟩;rw[←hD];exact md (dA (n:=7) jD) (dA (n:=7) ko) (mZ (n:=7) (L:=g.fI) ju (pF (n:=6) (f:=⟨2,a%g.pR.length,c%16,b%g.pR.length,0,0,[],true,da ii g.nc⟩) rfl) rfl)
 ·rw[k0] at w8;have ef:mY g k a b c ii=⟨3,0,0,0,a%g.nT.length,0,[b%9],true,da ii g.nc⟩:=by unfold mY;rw[aD ω,aF ω,k0]
  have p1:aY .add (ι 3) (ι ((4:Nat):Int))=some (ι 7):=rfl;have p2:aY .add (ι 3) (ι 4)=some (ι 7):=rfl;have q1:aY .sub (ι 7) (ι 4)=some (ι 3):=rfl;have fok:rd g ⟨3,0,0,0,a%g.nT.length,0,[b%9],true,da ii g.nc⟩:={ cond:=fitS,kinds:= .inr (.inl ⟨by first|exact .inl rfl|exact .inr rfl,rfl,rfl,rfl,rfl,jv _ ω,by simp,λt ht=>by rcases fk.1 ht with rfl;omega,λi x y h1 h2=>by simp at h2⟩),tl:=by simp }
  have fp:∀(h:AH) (o:Nat),cG (h.oB.get o)=some [ι ((b%9:Nat):Int)] ->bP P X GL 167 [aI g,.ag [ι 3,ι 0,ι 0,ι 0,ι ((a%g.nT.length:Nat):Int),ι 0,.sl o 0 1 (some 1) 1,cu (aE (da ii g.nc)).1,ι ((aE (da ii g.nc)).2:Int)]] h (.b true) h:=λh o ho=>
   oE (n:=9) (m:=1) S (J8 (GL:=GL) S R A G ok fok (by simp)) (by
    have e1:∀l,deep 9 h (.ag l)=(match bJ 8 h l with|some l=>some (AV.ag l)|none=>none):=λ_=>rfl;have e2:=pF (n:=7) (h:=h) (f:=⟨3,0,0,0,a%g.nT.length,0,[b%9],true,da ii g.nc⟩) (V:= .sl o 0 1 (some 1) 1) (gA ho rfl);have e3:deep 9 h (.ag [ι 3,ι 0,ι 0,ι 0,ι ((a%g.nT.length:Nat):Int),ι 0,.sl o 0 1 (some 1) 1,cu (aE (da ii g.nc)).1,ι ((aE (da ii g.nc)).2:Int)])=some (.ag (eF ⟨3,0,0,0,a%g.nT.length,0,[b%9],true,da ii g.nc⟩)):=by
     rw[e1];exact congrArg (λo:Option (List AV)=>match o with|some l=>some (AV.ag l)|none=>none) e2
    rw[aL,aL,bZ,kq,e3]) rfl
  simp only[aI,ar] at fp;rw[ef,aD (λh=>by have:=h.1;omega)] at hD;refine wS @iL @dw ncl wa wb wc ra rb rn rc r9 r8 k0 w8 p1 p2 q1 @ec ?_;refine E.cN (fp _ _ rfl) ?_;by_cases hf:g.fI=[]
  ·refine Z3 @ec @iB (AP0 hf) ?_;refine⟨9,?_⟩;rw[←hD,show∀f,g.fI++[f]=[]++[f] from λf=>by rw[hf]];exact md (dA (n:=7) jD) (dA (n:=7) ko) (mZ (n:=7) (L:=[]) ju (pF (n:=6) (f:=⟨3,0,0,0,a%g.nT.length,0,[b%9],true,da ii g.nc⟩) (gA rfl rfl)) rfl)
  ·refine Z4 @ec @iB (AP hf) hl ?_;refine⟨9,?_⟩;rw[←hD];exact md (dA (n:=7) jD) (dA (n:=7) ko) (mZ (n:=7) (L:=g.fI) ju (pF (n:=6) (f:=⟨3,0,0,0,a%g.nT.length,0,[b%9],true,da ii g.nc⟩) (gA rfl rfl)) rfl)
 ·rw[k0] at w8;have ef:mY g k a b c ii=⟨4,0,0,0,a%g.nT.length,0,[b%9],true,da ii g.nc⟩:=by unfold mY;rw[aD ω,aF ω,k0]
  have p1:aY .add (ι 3) (ι ((5:Nat):Int))=some (ι 8):=rfl;have p2:aY .add (ι 3) (ι 5)=some (ι 8):=rfl;have q1:aY .sub (ι 8) (ι 4)=some (ι 4):=rfl;have fok:rd g ⟨4,0,0,0,a%g.nT.length,0,[b%9],true,da ii g.nc⟩:={ cond:=fitS,kinds:= .inr (.inl ⟨by first|exact .inl rfl|exact .inr rfl,rfl,rfl,rfl,rfl,jv _ ω,by simp,λt ht=>by rcases fk.1 ht with rfl;omega,λi x y h1 h2=>by simp at h2⟩),tl:=by simp }
  have fp:∀(h:AH) (o:Nat),cG (h.oB.get o)=some [ι ((b%9:Nat):Int)] ->bP P X GL 167 [aI g,.ag [ι 4,ι 0,ι 0,ι 0,ι ((a%g.nT.length:Nat):Int),ι 0,.sl o 0 1 (some 1) 1,cu (aE (da ii g.nc)).1,ι ((aE (da ii g.nc)).2:Int)]] h (.b true) h:=λh o ho=>
   oE (n:=9) (m:=1) S (J8 (GL:=GL) S R A G ok fok (by simp)) (by
    have e1:∀l,deep 9 h (.ag l)=(match bJ 8 h l with|some l=>some (AV.ag l)|none=>none):=λ_=>rfl;have e2:=pF (n:=7) (h:=h) (f:=⟨4,0,0,0,a%g.nT.length,0,[b%9],true,da ii g.nc⟩) (V:= .sl o 0 1 (some 1) 1) (gA ho rfl);have e3:deep 9 h (.ag [ι 4,ι 0,ι 0,ι 0,ι ((a%g.nT.length:Nat):Int),ι 0,.sl o 0 1 (some 1) 1,cu (aE (da ii g.nc)).1,ι ((aE (da ii g.nc)).2:Int)])=some (.ag (eF ⟨4,0,0,0,a%g.nT.length,0,[b%9],true,da ii g.nc⟩)):=by
     rw[e1];exact congrArg (λo:Option (List AV)=>match o with|some l=>some (AV.ag l)|none=>none) e2
    rw[aL,aL,bZ,kq,e3]) rfl
  simp only[aI,ar] at fp;rw[ef,aD (λh=>by have:=h.1;omega)] at hD;refine wS @iL @dw ncl wa wb wc ra rb rn rc r9 r8 k0 w8 p1 p2 q1 @ec ?_;refine E.cN (fp _ _ rfl) ?_;by_cases hf:g.fI=[]
  ·refine Z3 @ec @iB (AP0 hf) ?_;refine⟨9,?_⟩;rw[←hD,show∀f,g.fI++[f]=[]++[f] from λf=>by rw[hf]];exact md (dA (n:=7) jD) (dA (n:=7) ko) (mZ (n:=7) (L:=[]) ju (pF (n:=6) (f:=⟨4,0,0,0,a%g.nT.length,0,[b%9],true,da ii g.nc⟩) (gA rfl rfl)) rfl)
  ·refine Z4 @ec @iB (AP hf) hl ?_;refine⟨9,?_⟩;rw[←hD];exact md (dA (n:=7) jD) (dA (n:=7) ko) (mZ (n:=7) (L:=g.fI) ju (pF (n:=6) (f:=⟨4,0,0,0,a%g.nT.length,0,[b%9],true,da ii g.nc⟩) (gA rfl rfl)) rfl)
 ·rw[k0] at w8;have ef:mY g k a b c ii=⟨5,0,0,0,0,0,[5],true,da ii g.nc⟩:=by unfold mY;rw[aD ω,aD ω]
  have fok:rd g ⟨5,0,0,0,0,0,[5],true,da ii g.nc⟩:={ cond:=fitS,kinds:= .inr (.inr ⟨rfl,rfl,rfl,rfl,rfl,rfl,by simp,λt ht=>by rcases fk.1 ht with rfl;omega,λi x y h1 h2=>by simp at h2⟩),tl:=by simp }
  have fp:∀(h:AH) (o:Nat),cG (h.oB.get o)=some [ι (5)] ->bP P X GL 167 [aI g,.ag [ι 5,ι 0,ι 0,ι 0,ι 0,ι 0,.sl o 0 1 (some 1) 1,cu (aE (da ii g.nc)).1,ι ((aE (da ii g.nc)).2:Int)]] h (.b true) h:=λh o ho=>
   oE (n:=9) (m:=1) S (J8 (GL:=GL) S R A G ok fok (by simp)) (by
    have e1:∀l,deep 9 h (.ag l)=(match bJ 8 h l with|some l=>some (AV.ag l)|none=>none):=λ_=>rfl;have e2:=pF (n:=7) (h:=h) (f:=⟨5,0,0,0,0,0,[5],true,da ii g.nc⟩) (V:= .sl o 0 1 (some 1) 1) (gA ho rfl);have e3:deep 9 h (.ag [ι 5,ι 0,ι 0,ι 0,ι 0,ι 0,.sl o 0 1 (some 1) 1,cu (aE (da ii g.nc)).1,ι ((aE (da ii g.nc)).2:Int)])=some (.ag (eF ⟨5,0,0,0,0,0,[5],true,da ii g.nc⟩)):=by
     rw[e1];exact congrArg (λo:Option (List AV)=>match o with|some l=>some (AV.ag l)|none=>none) e2
    rw[aL,aL,bZ,kq,e3]) rfl
  simp only[aI,ar] at fp;rw[ef,aD (λh=>by have:=h.1;omega)] at hD;refine uX @iL @dw ncl wa wb wc ra rb rn rc r9 r8 k0 w8 @ec ?_;refine E.cN (fp _ _ rfl) ?_;by_cases hf:g.fI=[]
  ·refine Z3 @ec @iB (AP0 hf) ?_;refine⟨9,?_⟩;rw[←hD,show∀f,g.fI++[f]=[]++[f] from λf=>by rw[hf]];exact md (dA (n:=7) jD) (dA (n:=7) ko) (mZ (n:=7) (L:=[]) ju (pF (n:=6) (f:=⟨5,0,0,0,0,0,[5],true,da ii g.nc⟩) (gA rfl rfl)) rfl)
  ·refine Z4 @ec @iB (AP hf) hl ?_;refine⟨9,?_⟩;rw[←hD];exact md (dA (n:=7) jD) (dA (n:=7) ko) (mZ (n:=7) (L:=g.fI) ju (pF (n:=6) (f:=⟨5,0,0,0,0,0,[5],true,da ii g.nc⟩) (gA rfl rfl)) rfl)
def aZ4 (R:eL ae) (A:dY P X GL) (G:jf ae) (F:hZ ae) {g:Gr} (ok:ce g) (pn:1<=g.pR.length) {k a b c ii:Nat} (hk:k<256) (ha:a<256) (hb:b<256) (hc:c<256) (hi:ii<256):bg P X GL ae 83 [aI g,.ag (qz k a b c ii)] (.ag (ar (lB g k a b c ii))):=by
 refine bg.intro λC E=> ?_;by_cases h1:k%8<2
 ·exact aZ2 S E R A G F ok pn hk ha hb hc hi rfl h1
 ·by_cases h7:k%8=7
  ·exact aZ1 S E R A G F ok pn hk ha hb hc hi rfl h7
  ·exact aZ3 S E R A G F ok pn hk ha hb hc hi rfl ω ω
def tV (g:Gr):Prop:=∀p∈g.pR,∀c,p.name=[112,c] ->c<97+g.pR.length
def Tt {n:Nat} {bs:List Nat}:(gP n bs).length<=4:=by
 unfold gP;rw[kU,jm];omega
def aZ5 {n:Nat} (hn:1<=n) {bs:List Nat}:∀s∈gP n bs,(s.1=true/\ s.2<9)∨(s.1=false/\ s.2<n):=by
 intro s hs;unfold gP at hs;obtain⟨b,-,rfl⟩:=sV.1 hs;unfold l9;split
 ·exact .inl ⟨rfl,by assumption⟩
 ·exact .inr ⟨rfl,jv _ hn⟩
def aZ6 {g:Gr} (ok:ce g) {left ii mk:Nat} {bs:List Nat} (hm:mk<256):sH g.nc g.nT.length (mW g left ii mk bs):=by
 have hn:=ok.ntl.1;refine aQ5 hm ⟨rfl,rfl,rfl,rfl,rfl,rfl,rfl,rfl,rfl,Tt⟩
  { name:=by simp[oO],left:=jv _ hn,sym:=aZ5 hn,len:=fJ Tt ω,lay:= ?_,layl:= ?_,cond:=xd ok.nc,rank:= ?_,dec:= .inl ⟨rfl,rfl⟩,uses:= .inl ⟨rfl,rfl⟩,br:= ?_ }
 ·intro c hc;cases hc
 ·exact oi _
 ·show(-1:Int)<=0/\ (0:Int)<=1;decide
 ·intro h;cases h
def xe {g:Gr} {left ii mk:Nat} {bs:List Nat}:(mW g left ii mk bs).name=[112,97+g.pR.length]/\ (mW g left ii mk bs).left=left%g.nT.length/\ (mW g left ii mk bs).right=gP g.nT.length bs:=by
 unfold mW;exact aQ6
def rd.mono {g g':Gr} {f:Fi} (h:rd g f) (hnc:g'.nc=g.nc) (hnt:g'.nT=g.nT) (hp:∀(i:Nat) p,g.pR[i]? =some p ->g'.pR[i]? =some p):rd g' f where
 cond:=by rw[hnc];exact h.cond
 kinds:=by
  rcases h.kinds with ⟨hk,h1,h2,h3,pp,cp,e1,e2,e3⟩|h|h
  ·exact .inl ⟨hk,h1,h2,h3,pp,cp,hp _ _ e1,hp _ _ e2,e3⟩
  ·exact .inr (.inl (by rw[hnt];exact h))
  ·exact .inr (.inr h)
 tl:=h.tl
def EX {α:Type} {L:List α} {x y:α} {i:Nat} (h:(L++[x])[i]? =some y):(L[i]? =some y/\ i<L.length)∨(i=L.length/\ y=x):=by
 by_cases hi:i<L.length
 ·rw[pL hi] at h;exact .inl ⟨h,hi⟩
 ·rw[rK ω] at h;have:i-L.length=0:=by
   rcases e:i-L.length with _|n
   ·rfl
   ·rw[e] at h;cases h
  rw[this] at h;exact .inr ⟨by omega,(gC h).symm⟩
def aZ7 {g:Gr} (ok:ce g) {p:Pr} (hp:sH g.nc g.nT.length p) (hl:g.pR.length<100) (hd:∀q∈g.pR,q.name≠p.name):ce { g with pR:=g.pR++[p] } where
 nc:=ok.nc
 fam:=ok.fam
 famr:=ok.famr
 tcl:=ok.tcl
 tc:=ok.tc
 ntl:=ok.ntl
 st:=ok.st
 ntn:=ok.ntn
 ntd:=ok.ntd
 pl:=by show(g.pR++[p]).length<=100;rw[dy,lF];omega
 p:=by
  intro q hq;rcases fO.1 hq with h|h
  ·exact ok.p q h
  ·rw[fk.1 h];exact hp
 pd:=by
  intro i j q r hi hj e;have hi:(g.pR++[p])[i]? =some q:=hi;have hj:(g.pR++[p])[j]? =some r:=hj;rcases EX hi with ⟨a1,-⟩|⟨a1,a2⟩<;>rcases EX hj with ⟨b1,-⟩|⟨b1,b2⟩
  ·exact ok.pd i j q r a1 b1 e
  ·rw[b2] at e;exact bh e (hd q (dI a1))
  ·rw[a2] at e;exact bh e.symm (hd r (dI b1))
  ·omega
 ll:=ok.ll
 l:=ok.l
 lp:=λx hx=>by
  have:=ok.lp x hx;show x<(g.pR++[p]).length;rw[dy,lF];omega
 ld:=ok.ld
 fl:=ok.fl
 f:=λf hf=>(ok.f f hf).mono rfl rfl λi q h=>by
  show(g.pR++[p])[i]? =_;rw[pL (eC.1 h).1,h]
def aZ8 {g:Gr} (ok:ce g) (nm:tV g) (hl:g.pR.length<100) {left ii mk:Nat} {bs:List Nat} {kn:Bool} (hm:mk<256):ce (kN g left ii mk bs kn)/\ tV (kN g left ii mk bs kn)/\ g.pR.length<=(kN g left ii mk bs kn).pR.length/\ (kN g left ii mk bs kn).pR.length<=g.pR.length+1/\ (kN g left ii mk bs kn).nT=g.nT/\ (kN g left ii mk bs kn).lV=g.lV/\ (kN g left ii mk bs kn).fI=g.fI:=by
 unfold kN;split
 ·exact⟨ok,nm,bB _,nD _,rfl,rfl,rfl⟩
 ·refine⟨aZ7 ok (aZ6 ok hm) hl λq hq e=> ?_,?_,?_,?_,rfl,rfl,rfl⟩
  ·rw[xe.1] at e;have:=nm q hq _ e;omega
  ·intro q hq c e;show c<97+(g.pR++[_]).length;rw[dy,lF];rcases fO.1 hq with h|h
   ·have:=nm q h c e;omega
   ·rw[fk.1 h,xe.1] at e;injection e with _ e;injection e with e _;omega
  ·show _<=(g.pR++[_]).length;rw[dy];omega
  ·show(g.pR++[_]).length<=_;rw[dy,lF];omega
def Tu {l:List (Bool×Nat)} (h:tO l≠0):∃s∈l,s.1=true:=by
 unfold tO at h;cases e:l.filter (·.1) with
 |nil=>rw[e] at h;exact bh rfl h
 |cons s t=>
  have:s∈l.filter (·.1):=by rw[e];exact jG
  exact⟨s,(List.mem_filter.1 this).1,(List.mem_filter.1 this).2⟩
def aZ9 {g:Gr} {Z:Nat ->Bool} (Y:iQ g Z) {left ii mk:Nat} {bs:List Nat} {kn:Bool} (hz:kn=false ->∀i,Z i=false):iQ (kN g left ii mk bs kn) Z:=by
 unfold kN;split
 ·exact Y
 rename_i hc;have tk:tO (gP g.nT.length bs)=0 ->kn=false/\ oP (left%g.nT.length) (gP g.nT.length bs)=true:=λh0=>by
  constructor
  ·cases kn with|false=>rfl|true=>exact bh ⟨h0,.inl rfl⟩ hc
  ·cases e:oP (left%g.nT.length) (gP g.nT.length bs) with|true=>rfl|false=>exact bh ⟨h0,.inr e⟩ hc
 constructor
 ·intro p hp zl;rcases fO.1 hp with h|h
  ·exact Y.z p h zl
  ·obtain rfl:=fk.1 h;rw[xe.2.1] at zl;rw[xe.2.2];by_cases h0:tO (gP g.nT.length bs)=0
   ·rw[hz (tk h0).1] at zl;cases zl
   ·obtain⟨s,hs,h1⟩:=Tu h0;exact⟨s,hs,.inl h1⟩
 ·intro p hp ha i b hi;rcases fO.1 hp with h|h
  ·exact Y.st p h ha i b hi
  ·obtain rfl:=fk.1 h;rw[xe.2.2] at ha hi;rw[xe.2.1,xe.2.2];by_cases h0:tO (gP g.nT.length bs)=0
   ·have hl:=(tk h0).2;have:=fX.1 hl _ (dI hi);simp only[zC,aU] at this;exact .inl this
   ·obtain⟨s,hs,h1⟩:=Tu h0;rw[ha s hs] at h1;cases h1
def Kq {L:List Lv} {p:Nat} (h:rh L p=false):∀x∈L.flatMap (·.pR),x≠p:=by
 intro x hx e;obtain⟨l,hl,hx⟩:=Ll.1 hx;have:rh L p=true:=qK.2 ⟨l,hl,qK.2 ⟨x,hx,by simpa using e⟩⟩;rw[h] at this;cases this
def Tv {g:Gr} {f:Fi} (h:pz g f=true):∃pp cp,g.pR[f.par]? =some pp/\ g.pR[f.child]? =some cp/\ pp.right[f.at_]? =some (false,cp.left):=by
 unfold pz at h;split at h
 ·rename_i pp cp e1 e2;split at h
  ·rename_i s e3;simp only[aB,jH,aU] at h;obtain⟨b,n⟩:=s;obtain⟨rfl,rfl⟩:=h;exact⟨pp,cp,e1,e2,e3⟩
  ·cases h
 ·cases h
def ba0 {g:Gr} (ok:ce g) {k a b c ii:Nat} (h:k%8<4 ->pz g (mY g k a b c ii)=true) (k2:2<=k%8):rd g (mY g k a b c ii):=by
 have hn:=ok.ntl.1;unfold mY at h ⊢;split
 ·rename_i k4;rw[aF k4] at h;exact { cond:=xd ok.nc,kinds:= .inl ⟨by show k%8-1=1∨k%8-1=2;omega,rfl,rfl,rfl,Tv (h k4)⟩,tl:=oi _ }
 ·split
  ·exact { cond:=xd ok.nc,kinds:= .inr (.inl ⟨by show k%8-1=3∨k%8-1=4;omega,rfl,rfl,rfl,rfl,jv _ hn,by simp,λt ht=>by rcases fk.1 ht with rfl;omega,λi x y h1 h2=>by simp at h2⟩),tl:=by simp }
  ·exact { cond:=xd ok.nc,kinds:= .inr (.inr ⟨rfl,rfl,rfl,rfl,rfl,rfl,by simp,λt ht=>by rcases fk.1 ht with rfl;omega,λi x y h1 h2=>by simp at h2⟩),tl:=by simp }
def Tw {g:Gr} (ok:ce g) (pn:1<=g.pR.length) (hl:g.lV.length<100) (hf:g.fI.length<100) {k a b c ii:Nat}:ce (lB g k a b c ii)/\ (lB g k a b c ii).pR=g.pR/\ (lB g k a b c ii).lV.length<=g.lV.length+1/\ (lB g k a b c ii).fI.length<=g.fI.length+1:=by
 unfold lB;split
 ·split
  ·exact⟨ok,rfl,nD _,nD _⟩
  ·rename_i h0;have h0:rh g.lV (a%g.pR.length)=false:=by simpa using h0
   refine⟨{ ok with ll:= ?_,l:= ?_,lp:= ?_,ld:= ?_,f:=λf hf=>(ok.f f hf).mono rfl rfl λ_ _ h=>h,p:=ok.p },rfl,?_,nD _⟩
   ·show(g.lV++[_]).length<=100;rw[dy,lF];omega
   ·intro l hl;rcases fO.1 hl with h|h
    ·exact ok.l l h
    ·obtain rfl:=fk.1 h;refine⟨?_,xd ok.nc,?_⟩
     ·show c%4<=3;omega
     ·unfold pE;dsimp only;split<;>simp
   ·intro x hx;show x<g.pR.length;have hx:x∈(g.lV++[pE g a b c ii]).flatMap (·.pR):=hx;rw[jl,pO] at hx;rcases fO.1 hx with h|h
    ·exact ok.lp x h
    ·unfold pE at h;dsimp only at h;split at h
     ·rcases ed.1 h with rfl|h
      ·exact jv _ pn
      ·rw[fk.1 h];exact jv _ pn
     ·rw[fk.1 h];exact jv _ pn
   ·show((g.lV++[pE g a b c ii]).flatMap (·.pR)).Nodup;rw[jl,pO];refine zE.2 ⟨ok.ld,?_,?_⟩
    ·unfold pE;dsimp only;split
     ·rename_i h;simp only[FO,fk,List.not_mem_nil,not_false_eq_true,List.nodup_nil,and_true];exact λe=>h.1 e.symm
     ·simp
    ·intro x hx y hy;unfold pE at hy;dsimp only at hy;split at hy
     ·rename_i h;rcases ed.1 hy with rfl|hy
      ·exact Kq h0 x hx
      ·rw[fk.1 hy];exact Kq h.2 x hx
     ·rw[fk.1 hy];exact Kq h0 x hx
   ·show(g.lV++[_]).length<=_;rw[dy,lF];omega
 ·split
  ·refine⟨{ ok with tcl:= ?_,tc:= ?_,f:=λf hf=>(ok.f f hf).mono rfl rfl λ_ _ h=>h,p:=ok.p },rfl,nD _,nD _⟩
   ·show(g.tc.set _ _).length=11;rw[vK];exact ok.tcl
   ·intro c hc;rcases FF hc with h|rfl
    ·exact ok.tc c h
    ·exact xd ok.nc
  ·split
   ·exact⟨ok,rfl,nD _,nD _⟩
   ·rename_i h2 h7 h4;refine⟨{ ok with fl:= ?_,f:= ?_,p:=ok.p },rfl,nD _,?_⟩
    ·show(g.fI++[_]).length<=100;rw[dy,lF];omega
    ·intro f hf;have key:rd g f:=by
      rcases fO.1 hf with h|h
      ·exact ok.f f h
      ·obtain rfl:=fk.1 h;exact ba0 ok (λh=>by cases e:pz g (mY g k a b c ii) with|true=>rfl|false=>exact bh ⟨h,e⟩ h4) ω
     exact key.mono rfl rfl λ_ _ h=>h
    ·show(g.fI++[_]).length<=_;rw[dy,lF];omega
def ba1 {g:Gr} {Z:Nat ->Bool} (Y:iQ g Z) {k a b c ii:Nat} (pn:1<=g.pR.length) (ok:ce g) (hl:g.lV.length<100) (hf:g.fI.length<100):iQ (lB g k a b c ii) Z:=by
 have e:=(Tw ok pn hl hf (k:=k) (a:=a) (b:=b) (c:=c) (ii:=ii)).2.1;exact⟨by rw[e];exact Y.z,by rw[e];exact Y.st⟩
def kP (nm:List Nat) (l:Nat) (r:List (Bool×Nat)):Pr:=oO nm l false r
def xf (nT:List (List Nat)) (ps:List Pr) (ls:List Lv) (fs:List Fi):Gr:=⟨2,[],eu true 3,List.replicate 11 (eu true 3),nT,[],ps,ls,fs,0⟩
def iZ:Nat ->Gr
 |0=>xf [[69]] [kP [97,100,100] 0 [(false,0),(true,1),(false,0)],kP [109,117,108] 0 [(false,0),(true,2),(false,0)],{ kP [98,114,97,99,107,101,116] 0 [(true,3),(false,0),(true,4)] with br:=true },kP [110,97,109,101] 0 [(true,0)],{ kP [112,111,119] 0 [(false,0),(true,8),(false,0)] with cond:=je 1 }] [⟨[4],2,eu true 3⟩,⟨[1],1,eu true 3⟩,⟨[0],1,Ey (je 0)⟩] []
 |1=>xf [[83],[67]] [kP [98,111,116,104] 0 [(true,5),(false,1),(false,0),(true,6),(false,0)],kP [116,104,101,110] 0 [(true,5),(false,1),(false,0)],kP [99,97,108,108] 0 [(false,1),(true,7)],{ kP [98,108,111,99,107] 0 [(true,3),(false,0),(true,4)] with br:=true },kP [119,111,114,100] 1 [(true,0)]] [] [⟨2,0,2,1,0,0,[],true,je 0⟩,⟨5,0,0,0,0,0,[5,6],true,je 1⟩]
 |2=>xf [[76],[73]] [kP [101,109,112,116,121] 0 [],kP [109,111,114,101] 0 [(false,0),(false,1)],{ kP [116,121,112,101] 1 [(true,1),(true,0),(true,7)] with dec:=2,kind:=1 },{ kP [112,111,105,110,116,101,114] 1 [(true,0),(true,2),(true,0),(true,7)] with dec:=3,kind:=2,uses:=1,allow:=2 },{ kP [112,114,111,100,117,99,116] 1 [(true,0),(true,2),(true,0),(true,7)] with uses:=1,allow:=5,rank:= -1 },{ kP [105,110,110,101,114] 1 [(true,3),(false,0),(true,4)] with opens:=true },{ kP [115,116,114,105,99,116] 1 [(true,0),(true,7)] with uses:=1,allow:=6,cond:=je 0 }] [] []
 |3=>xf [[66],[73]] [kP [111,110,101] 0 [(false,1)],{ kP [108,105,115,116] 0 [(false,0),(false,1)] with lay:=[(2,0,1)] },kP [119,111,114,100] 1 [(true,0)],{ kP [104,101,97,100] 1 [(true,5),(true,0),(false,0)] with lay:=[(3,0,2),(1,2,0)] },{ kP [108,105,110,101] 1 [(true,5),(false,0)] with lay:=[(4,0,1)],cond:=je 0 }] [] []
 |4=>xf [[83],[87],[86]] [kP [112,97,105,114] 0 [(false,1),(false,2)],{ kP [115,105,110,103,108,101] 1 [(true,0)] with rank:= -1 },kP [100,111,117,98,108,101] 1 [(true,0),(true,0)],kP [110,111,110,101] 2 [],kP [110,101,120,116] 2 [(true,0),(false,2)],{ kP [109,97,114,107] 2 [(true,1),(false,2)] with cond:=je 1 }] [] [⟨3,0,0,0,1,0,[0],true,je 0⟩,⟨4,0,0,0,2,0,[1],true,Ey (je 1)⟩]
 |_=>xf [[83],[79],[80]] [kP [97,108,108] 0 [(false,1),(true,0),(false,1),(false,2)],kP [110,111] 1 [],kP [121,101,115] 1 [(true,1)],kP [101,110,100] 2 [],{ kP [114,101,115,116] 2 [(true,1),(false,2)] with cond:=je 0 }] [] []
def Tx (k i:Nat):Bool:=(decide (k=2)||decide (k=3))&&decide (i=1)
def EY (p:Pr) (k v lo hi:Nat):Bool:=(decide (k=0)&&decide (v=0))||(decide (1<=k)&&(match p.right[k-1]? with|some s=>s.1|none=>false)&&decide (lo<=v)&&decide (v<=hi))
def Kr (p:Pr):Bool:=decide (p.rank=0)&&decide (p.lay=[])&& !p.opens&&decide (p.dec=0)&&decide (p.kind=0)&&decide (p.uses=0)&&decide (p.allow=0)&&(match p.right with|[(true,_),(false,l),(true,_)]=>decide (l=p.left)|_=>false)
def zf (n:Nat) (t:Tr):Bool:=cA 3 t&&jq n t
def Ks (nc nt:Nat) (p:Pr):Bool:=
 decide (p.name≠[])&&decide (p.left<nt)&&p.right.all (λs=>if s.1 then decide (s.2<9) else decide (s.2<nt))&&decide (p.right.length<=8)&&
 p.lay.all (λc=>decide (1<=c.1/\ c.1<=4/\ c.2.1<p.right.length/\ c.2.2<p.right.length/\ (c.1=1 ->c.2.2=0)))&&decide (p.lay.length<=16)&&zf nc p.cond&&decide (-1<=p.rank/\ p.rank<=1)&&
 EY p p.dec p.kind 1 7&&EY p p.uses p.allow 0 255&&(!p.br||Kr p)
def BE {n:Nat} {t:Tr} (h:zf n t=true):sG n t:=by
 obtain⟨h1,h2⟩:=(aB _ _).mp h;exact⟨h1,h2⟩
def Ty {p:Pr} {k v lo hi:Nat} (h:EY p k v lo hi=true):Bu p k v lo hi:=by
 unfold EY at h;simp only[ja,aB,aU] at h;rcases h with h|⟨⟨⟨h1,h2⟩,h3⟩,h4⟩
 ·exact .inl h
 ·refine .inr ⟨h1,?_,h3,h4⟩;split at h2
  ·rename_i s e;obtain⟨b,j⟩:=s;obtain rfl:b=true:=h2;exact⟨j,e⟩
  ·cases h2
def ba2 {nc nt:Nat} {p:Pr} (h:Ks nc nt p=true):sH nc nt p:=by
 unfold Ks at h;simp only[aB,aU,fX] at h;obtain⟨⟨⟨⟨⟨⟨⟨⟨⟨⟨h1,h2⟩,h3⟩,h4⟩,h5⟩,h6⟩,h7⟩,h8⟩,h9⟩,h10⟩,h11⟩:=h;refine⟨h1,h2,λs hs=> ?_,h4,h5,h6,BE h7,h8,Ty h9,Ty h10,λhb=> ?_⟩
 ·have:=h3 s hs;split at this
  ·exact .inl ⟨by assumption,by simpa using this⟩
  ·exact .inr ⟨by simpa using (by assumption:¬s.1=true),by simpa using this⟩
 ·rw[hb] at h11;have h:Kr p=true:=h11;unfold Kr at h;simp only[aB,aU,jH] at h;obtain⟨⟨⟨⟨⟨⟨⟨g1,g2⟩,g3⟩,g4⟩,g5⟩,g6⟩,g7⟩,g8⟩:=h;refine⟨g1,g2,g3,g4,g5,g6,g7,?_⟩;split at g8
  ·rename_i i l j e;have:l=p.left:=by simpa using g8
   subst this;exact⟨i,j,e⟩
  ·cases g8
def Kt (g:Gr) (f:Fi):Bool:=zf g.nc f.cond&&decide (f.tO.length<=16)&&(
 (decide ((f.kind=1∨f.kind=2)/\ f.left=0/\ f.tok=0/\ f.tO=[])&&pz g f)||
 (decide ((f.kind=3∨f.kind=4)/\ f.par=0/\ f.at_=0/\ f.child=0/\ f.tok=0/\ f.left<g.nT.length)&&decide (f.tO.length=1)&&f.tO.all λt=>decide (t<9))||
 (decide (f.kind=5/\ f.par=0/\ f.at_=0/\ f.child=0/\ f.left=0/\ f.tok=0)&&decide (f.tO=[5,6])))
def ba3 {g:Gr} {f:Fi} (h:Kt g f=true):rd g f:=by
 unfold Kt at h;simp only[aB,aU,ja,fX] at h;obtain⟨⟨h1,h2⟩,h⟩:=h;refine⟨BE h1,?_,h2⟩;rcases h with (⟨⟨a,b,c,d⟩,e⟩|⟨⟨⟨a,b,c,d,e,i⟩,j⟩,k⟩)|⟨⟨a,b,c,d,e,i⟩,j⟩
 ·exact .inl ⟨a,b,c,d,Tv e⟩
 ·refine .inr (.inl ⟨a,b,c,d,e,i,?_,k,?_⟩)
  ·intro e;rw[e] at j;cases j
  ·intro n x y _ e2;have:=(eC.1 e2).1;omega
 ·refine .inr (.inr ⟨a,b,c,d,e,i,?_,?_,?_⟩)
  ·rw[j];simp
  ·rw[j];decide
  ·rw[j];intro n x y e1 e2
   match n with
   |0=>simp at e1 e2;omega
   |n+1=>simp at e2
def Tz (g:Gr):Bool:=decide (g.nc<=3)&&zf g.nc g.fam&&decide ((aE g.fam).2≠0)&&decide (g.tc.length=11)&&g.tc.all (zf g.nc)&&decide (1<=g.nT.length/\ g.nT.length<=4)&&
 g.nT.all (λs=>decide (s≠[]))&&decide g.nT.Nodup&&decide (g.pR.length<=100)&&g.pR.all (Ks g.nc g.nT.length)&&decide (g.pR.map (·.name)).Nodup&&decide (g.lV.length<=100)&&
 g.lV.all (λl=>decide (l.assoc<=3)&&zf g.nc l.cond&&decide (l.pR.length<=100))&&(g.lV.flatMap (·.pR)).all (λx=>decide (x<g.pR.length))&&decide (g.lV.flatMap (·.pR)).Nodup&&decide (g.fI.length<=100)&&g.fI.all (Kt g)&&decide (g.st<g.nT.length)
def TB {α:Type} {L:List α} (h:L.Nodup) {i j:Nat} {x:α} (hi:L[i]? =some x) (hj:L[j]? =some x):i=j:=
 (List.getElem?_inj (eC.1 hi).1 h).1 (hi.trans hj.symm)
def TC {g:Gr} (h:Tz g=true):ce g:=by
 unfold Tz at h;simp only[aB,aU,fX] at h;obtain⟨⟨⟨⟨⟨⟨⟨⟨⟨⟨⟨⟨⟨⟨⟨⟨⟨h1,h2⟩,h3⟩,h4⟩,h5⟩,h6⟩,h7⟩,h8⟩,h9⟩,h10⟩,h11⟩,h12⟩,h13⟩,h14⟩,h15⟩,h16⟩,h17⟩,h18⟩:=h;exact {
  st:=h18,nc:=h1,fam:=BE h2,famr:=h3,tcl:=h4,tc:=λc hc=>BE (h5 c hc),ntl:=h6,ntn:=h7,ntd:=λi j s hi hj=>TB h8 hi hj,pl:=h9,p:=λp hp=>ba2 (h10 p hp),
  pd:=λi j p q hi hj e=>TB h11 (by rw[oh,hi];rfl) (by rw[oh,hj];exact congrArg some e.symm),ll:=h12,l:=λl hl=>⟨(h13 l hl).1.1,BE (h13 l hl).1.2,(h13 l hl).2⟩,lp:=h14,ld:=h15,fl:=h16,f:=λf hf=>ba3 (h17 f hf) }
def TD (g:Gr) (Z:Nat ->Bool):Bool:=g.pR.all λp=>(!Z p.left||p.right.any λs=>s.1||Z s.2)&&(p.right.any (·.1)||(match p.right with|[]=>true|[x]=>decide (p.left<x.2)|[x,y]=>(decide (p.left<x.2)||Z y.2)&&(decide (p.left<y.2)||Z x.2)|_=>false))
def TE {g:Gr} {Z:Nat ->Bool} (h:TD g Z=true):iQ g Z:=by
 unfold TD at h;constructor
 ·intro p hp hz;have:=fX.1 h p hp;simp only[hz,aB,jk,zC] at this;obtain⟨s,hs,e⟩:=qK.1 this.1;exact⟨s,hs,by simpa using e⟩
 ·intro p hp ha i b hi;have:=(aB _ _▸fX.1 h p hp).2;rw[ja] at this;rcases this with e|e
  ·obtain⟨s,hs,e⟩:=qK.1 e;rw[ha s hs] at e;cases e
  ·split at e
   ·rename_i q;rw[q] at hi;simp at hi
   ·rename_i x q;rw[q] at hi
    match i with
    |0=>simp at hi;subst hi;exact .inl (by simpa using e)
    |i+1=>simp at hi
   ·rename_i x y q;rw[q] at hi ha;have hx:=ha x (by simp);have hy:=ha y (by simp);simp only[aB,ja,aU] at e;obtain⟨x1,x2⟩:=x;obtain⟨y1,y2⟩:=y;obtain rfl:x1=false:=hx;obtain rfl:y1=false:=hy;rw[q]
    match i with
    |0=>
     simp at hi;subst hi;rcases e.1 with e|e
     ·exact .inl e
     ·exact .inr ⟨1,y2,by omega,rfl,e⟩
    |1=>
     simp at hi;subst hi;rcases e.2 with e|e
     ·exact .inl e
     ·exact .inr ⟨0,x2,by omega,rfl,e⟩
    |i+2=>simp at hi
   ·cases e
def ba4 (g:Gr):Bool:=g.pR.all λp=>decide (p.name.length≠2∨p.name.head?≠some 112)
def TF {g:Gr} (h:ba4 g=true):tV g:=by
 intro p hp c e;have:=fX.1 h p hp;rw[e] at this;simp at this
def TG {k:Nat} (h:k<6):ce (iZ k)/\ iQ (iZ k) (Tx k)/\ tV (iZ k)/\ 1<=(iZ k).pR.length/\ (iZ k).pR.length<=7/\ (iZ k).lV.length<=3/\ (iZ k).fI.length<=3:=by
 rcases(show k=0∨k=1∨k=2∨k=3∨k=4∨k=5 by omega) with rfl|rfl|rfl|rfl|rfl|rfl<;>
  exact⟨TC (by decide+kernel),TE (by decide+kernel),TF (by decide+kernel),by decide,by decide,by decide,by decide⟩
def pG (n c:Nat):Gr:=⟨c,[[65],[66],[67]].drop c,eu true 3,List.replicate 11 (eu true 3),[[83],[80],[81]].take (n+1),[[83],[80],[81]].drop (n+1),[oO [102,105,114,115,116] 0 true [(true,0)]],[],[],0⟩
def ba5 {n c:Nat} (h:n<3) (hc:c<4):ce (pG n c)/\ iQ (pG n c) (λ_=>false)/\ tV (pG n c):=by
 rcases(show n=0∨n=1∨n=2 by omega) with rfl|rfl|rfl<;>rcases(show c=0∨c=1∨c=2∨c=3 by omega) with rfl|rfl|rfl|rfl<;>
  exact⟨TC (by decide+kernel),TE (by decide+kernel),TF (by decide+kernel)⟩
def kw (g:Gr) (b:Option Nat):Gr:=match b with|some b=>if (aE (jR b g.nc 0 0)).2=0 then g else { g with fam:=jR b g.nc 0 0 }|none=>g
def ba6 {g:Gr} (ok:ce g) {b:Option Nat}:ce (kw g b)/\ (kw g b).pR=g.pR/\ (kw g b).lV=g.lV/\ (kw g b).fI=g.fI:=by
 unfold kw;split
 ·split
  ·exact⟨ok,rfl,rfl,rfl⟩
  ·exact⟨{ ok with fam:=⟨sI _ _ _,Ex ok.nc _ _ _ ω⟩,famr:=by assumption,f:=λf hf=>(ok.f f hf).mono rfl rfl λ_ _ h=>h,p:=ok.p },rfl,rfl,rfl⟩
 ·exact⟨ok,rfl,rfl,rfl⟩
def cB (b:Nat):List AV:=[.i .u8 (b:Int)]
structure qA where
 left:Nat
 nl:Bool
 bs:List Nat
 ii:Nat
 mark:Nat
structure qB where
 k:Nat
 a:Nat
 b:Nat
 c:Nat
 ii:Nat
def n9 (x:qA):List AV:=xC x.left (eR cB 1 x.nl x.bs) x.ii x.mark
def oe (x:qB):List AV:=qz x.k x.a x.b x.c x.ii
structure qA.OK (x:qA):Prop where
 left:x.left<256
 bs:∀b∈x.bs,b<256
 ii:x.ii<256
 mark:x.mark<256
structure qB.OK (x:qB):Prop where
 k:x.k<256
 a:x.a<256
 b:x.b<256
 c:x.c<256
 ii:x.ii<256
structure fA where
 base:Nat
 n:Nat
 fnl:Bool
 fam:List Nat
 lnl:Bool
 lI:List qA
 rnl:Bool
 rU:List qB
structure fA.OK (x:fA):Prop where
 base:x.base<256
 n:x.n<256
 fam:∀b∈x.fam,b<256
 lI:∀l∈x.lI,l.OK
 rU:∀r∈x.rU,r.OK
def gI (x:fA):List AV:=[.i .u8 (x.base:Int),.i .u8 (x.n:Int),eR cB 1 x.fnl x.fam,eR n9 4 x.lnl x.lI,eR oe 5 x.rnl x.rU]
def vm (x:fA):AV:= .ag (gI x)
def fA.known (x:fA):Bool:=decide (x.base%8<6)
def fA.most (x:fA):Nat:=if x.known then 6 else 10
def xg (x:fA):Gr:=if x.known then iZ (x.base%8) else pG (x.n/4%3) (x.n%4)
def sN (x:fA):Gr:=kw (xg x) x.fam.head?
def sO (kn:Bool) (g:Gr) (l:qA):Gr:=kN g l.left l.ii l.mark l.bs kn
def rt (g:Gr) (r:qB):Gr:=lB g r.k r.a r.b r.c r.ii
def lC (x:fA) (i:Nat):Gr:=(x.lI.take (min i x.most)).foldl (sO x.known) (sN x)
def oU (x:fA) (i:Nat):Gr:=(x.rU.take (min i 6)).foldl rt (lC x x.most)
def fU (x:fA):Gr:=oU x 6
def zX (x:fA):Nat ->Bool:=if x.known then Tx (x.base%8) else λ_=>false
structure GI (x:fA) (i j:Nat) (g:Gr):Prop where
 ok:ce g
 ac:iQ g (zX x)
 nm:tV g
 p1:1<=g.pR.length
 pl:g.pR.length<=7+i
 ll:g.lV.length<=3+j
 fl:g.fI.length<=3+j
def ba7 {x:fA}:GI x 0 0 (sN x):=by
 have key:∀g,ce g/\ iQ g (zX x)/\ tV g/\ 1<=g.pR.length/\ g.pR.length<=7/\ g.lV.length<=3/\ g.fI.length<=3 ->GI x 0 0 (kw g x.fam.head?):=by
  rintro g ⟨h1,h2,h3,h4,h5,h6,h7⟩;obtain⟨f1,f2,f3,f4⟩:=ba6 h1 (b:=x.fam.head?);exact⟨f1,⟨by rw[f2];exact h2.z,by rw[f2];exact h2.st⟩,by unfold tV;rw[f2];exact h3,by rw[f2];exact h4,by rw[f2];exact h5,by rw[f3];exact h6,by rw[f4];exact h7⟩
 refine key _ ?_;unfold xg zX;cases hk:x.known with
 |true=>exact TG (by simpa[fA.known] using hk)
 |false=>
  obtain⟨h1,h2,h3⟩:=ba5 (n:=x.n/4%3) (c:=x.n%4) ω ω;exact⟨h1,h2,h3,bB _,by show 1<=7;omega,by show 0<=3;omega,by show 0<=3;omega⟩
def TH {α:Type} {L:List α} {i:Nat} {a:α} (h:L[i]? =some a):L.take (i+1)=L.take i++[a]:=by
 rw[List.take_add_one,h];rfl
def TJ {x:fA} {i:Nat} {l:qA} (hi:i<x.most) (h:x.lI[i]? =some l):lC x (i+1)=sO x.known (lC x i) l:=by
 unfold lC;rw[kF ω,kF ω,TH h,xH];rfl
def TK {x:fA} {i:Nat} {l:qB} (hi:i<6) (h:x.rU[i]? =some l):oU x (i+1)=rt (oU x i) l:=by
 unfold oU;rw[kF ω,kF ω,TH h,xH];rfl
def EZ {x:fA}:x.most<=10:=by unfold fA.most;split<;>omega
def Ku {x:fA} (ok:x.OK):∀i,i<=min x.lI.length x.most ->GI x i 0 (lC x i)
 |0,_=>ba7
 |i+1,hi=>by
  have ih:=Ku ok i ω;have hm:=EZ (x:=x);have hl:x.lI[i]? =some x.lI[i]:=cE ω;rw[TJ ω hl];have lo:=ok.lI _ (dI hl);have pl:=ih.pl;obtain⟨h1,h2,h3,h4,h5,h6,h7⟩:=aZ8 (left:=x.lI[i].left) (ii:=x.lI[i].ii) (bs:=x.lI[i].bs) (kn:=x.known) ih.ok ih.nm ω lo.mark;refine⟨h1,aZ9 ih.ac λhk i=> ?_,h2,fJ ih.p1 h3,fJ h4 ω,?_,?_⟩
  ·unfold zX;rw[hk];rfl
  ·show(kN _ _ _ _ _ _).lV.length<=_;rw[h6];exact ih.ll
  ·show(kN _ _ _ _ _ _).fI.length<=_;rw[h7];exact ih.fl
def TM {x:fA} {i:Nat} (h:i=min x.lI.length x.most):lC x i=lC x x.most:=by
 unfold lC;rw[Cm,h];rcases zF x.lI.length x.most with q|q
 ·rw[kF q,kF q,vM (bB _),vM q]
 ·rw[sY q,Cm]
def TN {x:fA} {i:Nat} (h:i=min x.rU.length 6):oU x i=fU x:=by
 unfold fU oU;rw[Cm,h];rcases zF x.rU.length 6 with q|q
 ·rw[kF q,kF q,vM (bB _),vM q]
 ·rw[sY q,Cm]
def Kv {x:fA} (ok:x.OK):∀j,j<=min x.rU.length 6 ->GI x 10 j (oU x j)
 |0,_=>by
  have h:GI x (min x.lI.length x.most) 0 (lC x x.most):=by
   have:=Ku ok _ (bB (min x.lI.length x.most))
   rwa [TM rfl] at this
  have hm:=EZ (x:=x);exact⟨h.ok,h.ac,h.nm,h.p1,fJ h.pl ω,h.ll,h.fl⟩
 |j+1,hj=>by
  have ih:=Kv ok j ω;have hl:x.rU[j]? =some x.rU[j]:=cE ω;rw[TK ω hl];have ll:=ih.ll;have fl:=ih.fl;obtain⟨h1,h2,h3,h4⟩:=Tw (k:=x.rU[j].k) (a:=x.rU[j].a) (b:=x.rU[j].b) (c:=x.rU[j].c) (ii:=x.rU[j].ii) ih.ok ih.p1 ω ω;refine⟨h1,ba1 ih.ac ih.p1 ih.ok ω ω,?_,?_,?_,fJ h3 ω,fJ h4 ω⟩
  ·unfold tV rt;rw[h2];exact ih.nm
  ·show 1<=(lB _ _ _ _ _ _).pR.length;rw[h2];exact ih.p1
  ·show(lB _ _ _ _ _ _).pR.length<=_;rw[h2];exact ih.pl
def Kw {x:fA} (ok:x.OK):ce (fU x)/\ iQ (fU x) (zX x)/\ 1<=(fU x).pR.length:=by
 have h:=Kv ok _ (bB (min x.rU.length 6));rw[TN rfl] at h;exact⟨h.ok,h.ac,h.p1⟩
def ba8 (x:qA):(n9 x).length=4:=rfl
def ba9 (x:qB):(oe x).length=5:=rfl
def zg {n h} (b:Nat):bJ n h (cB b)=some (cB b):=by simp only[cB,aL,bZ,dH]
def TO {n h} (x:qA):bJ (n+1) h (n9 x)=some (n9 x):=by simp only[n9,xC,aL,bZ,dH,dA zg]
def TP {n h} (x:qB):bJ n h (oe x)=some (oe x):=by simp only[oe,qz,aL,bZ,dH]
def pH {n} (b:Nat):nice.niceL n (cB b)=true:=by simp only[cB,iu,iq,j9,g9]
def E0 {n} (x:qA):nice.niceL (n+1) (n9 x)=true:=by simp only[n9,xC,iu,iq,j9,dg pH,g9]
def E1 {n} (x:qB):nice.niceL n (oe x)=true:=by simp only[oe,qz,iu,iq,j9,g9]
def bb0 {nl:Bool} {bs:List Nat} (h:∀b∈bs,b<256):EA (eR cB 1 nl bs) bs:=by
 refine⟨h,?_⟩;cases bs with
 |nil=>
  cases nl
  ·exact .inr ⟨[],rfl,λi b hi=>by simp at hi⟩
  ·exact .inl ⟨rfl,rfl⟩
 |cons b bs=>
  refine .inr ⟨(b::bs).flatMap cB,rfl,λi x hi=> ?_⟩;have e:∀l:List Nat,l.flatMap cB=l.map λb:Nat=>AV.i .u8 (b:Int):=λl=>by
   induction l with
   |nil=>rfl
   |cons a l ih=>rw[lE,ih];rfl
  rw[e,oh,hi];rfl
def TQ {nl:Bool} {bs:List Nat} (h:∀b∈bs,b<256):xa (eR cB 1 nl bs) (bs.head?.getD 0):=by
 cases bs with
 |nil=>
  cases nl
  ·exact .nil _
  ·exact .sn
 |cons b bs=>exact .ds _ bs.length b (h b jG) rfl
def BG {h1 h2:AH} (hs:∀o v l,h1.oB.get o=some (.cells v l) ->∃v',h2.oB.get o=some (.cells v' l)):∀(n:Nat),
 (∀a d,deep n h1 a=some d ->deep n h2 a=some d)/\ (∀l d,bJ n h1 l=some d ->bJ n h2 l=some d):=by
 have lst:∀n,(∀a d,deep n h1 a=some d ->deep n h2 a=some d) ->∀l d,bJ n h1 l=some d ->bJ n h2 l=some d:=by
  intro n one l;induction l with
  |nil=>intro d hd;rw[bZ] at hd ⊢;exact hd
  |cons a l ih=>
   intro d hd;rw[aL] at hd ⊢;split at hd
   ·rename_i x y e1 e2;rw[one _ _ e1,ih _ e2];exact hd
   ·cases hd
 intro n;induction n with
 |zero=>
  refine⟨?_,lst 0 ?_⟩<;>(intro a d hd;cases a<;>first|exact hd|(simp only[deep] at hd;cases hd))
 |succ n ih=>
  obtain⟨ih1,ihL⟩:=ih;have one:∀a d,deep (n+1) h1 a=some d ->deep (n+1) h2 a=some d:=by
   intro a d hd;cases a with
   |p o off=>
    simp only[deep] at hd ⊢;split at hd
    ·rename_i ver l hg;obtain⟨v',e⟩:=hs _ _ _ hg;rw[e];split at hd
     ·rename_i l' hl;dsimp only;rw[show eM (deep n h2) l=some l' from ihL _ _ hl];exact hd
     ·cases hd
    ·cases hd
   |sl o off len c e=>
    simp only[deep] at hd ⊢;split at hd
    ·rename_i ver l hg;obtain⟨v',e⟩:=hs _ _ _ hg;rw[e];split at hd
     ·rename_i l' hl;dsimp only;rw[show eM (deep n h2) l=some l' from ihL _ _ hl];exact hd
     ·cases hd
    ·cases hd
   |dp l off=>
    simp only[deep] at hd ⊢;split at hd
    ·rename_i l' hl;rw[show eM (deep n h2) l=some l' from ihL _ _ hl];exact hd
    ·cases hd
   |ds l off k e=>
    simp only[deep] at hd ⊢;split at hd
    ·rename_i l' hl;rw[show eM (deep n h2) l=some l' from ihL _ _ hl];exact hd
    ·cases hd
   |f fn x y=>
    simp only[deep] at hd ⊢;split at hd
    ·rename_i x' y' e1 e2;rw[show eM (deep n h2) x=some x' from ihL _ _ e1,show eM (deep n h2) y=some y' from ihL _ _ e2];exact hd
    ·cases hd
   |ifc t v=>
    simp only[deep] at hd ⊢;split at hd
    ·rename_i v' e;rw[ih1 _ _ e];exact hd
    ·cases hd
   |ag l=>
    simp only[deep] at hd ⊢;split at hd
    ·rename_i l' hl;rw[show eM (deep n h2) l=some l' from ihL _ _ hl];exact hd
    ·cases hd
   |tu l=>
    simp only[deep] at hd ⊢;split at hd
    ·rename_i l' hl;rw[show eM (deep n h2) l=some l' from ihL _ _ hl];exact hd
    ·cases hd
   |_=>first|exact hd|(simp only[deep] at hd;cases hd)
  exact⟨one,lst (n+1) one⟩
def ZG:List AV:=[.sn,.sn,ι 0,.sn,.sn,.sn,ι 0,.sn,.sn]
structure E2 (h:AH) (g:Gr) (c:List AV):Prop where
 len:c.length=9
 simp:cF c=true
 frz:∃l,(∀o∈l,3<o)/\ bJ 8 (qT h l) c=some (ar g)
def bb1 (g:Gr):cF (ar g)=true:=by
 simp only[ar,lT,qR,JQ,tN,uZ];rfl
def E2.of (h:AH) (g:Gr):E2 h g (ar g):=⟨rfl,bb1 g,⟨[],(λo h=>by cases h),SB (n:=6) g⟩⟩
structure MI (x:fA) (g:Gr) (τ:T AV) (h:AH):Prop where
 c0:cG (h.oB.get 0)=some (gI x)
 c1:cG (h.oB.get 1)=some ZG
 c2:∃c,cG (h.oB.get 2)=some c/\ E2 h g c
 nx:4<=h.next
 t1:τ.get 1=some (.p 0 0)
 t2:τ.get 2=some (.p 1 0)
 t3:τ.get 3=some (.b x.known)
 t4:τ.get 4=some (.p 2 0)
 t5:τ.get 5=some (ι (x.most:Int))
def BH {n:Nat} {h:AH} {l d:List AV} (e:bJ n h l=some d):deep (n+1) h (.ag l)=some (.ag d):=by
 have e1:deep (n+1) h (.ag l)=(match bJ n h l with|some l=>some (AV.ag l)|none=>none):=rfl;rw[e1,e]
def TS {h:AH} {l:List Nat} (hl:∀o∈l,3<o) {o:Nat} (ho:o<=3):(tE h l).oB.get o=h.oB.get o:=by
 show(qf h l h.oB).get o=_;rw[AL,aD (λq=>by have:=hl o q.1;omega)]
def bb3 (R:eL ae) (A:dY P X GL) (G:jf ae) (F:hZ ae) {x:fA} (ok:x.OK) {i:Nat} (hi:i<min x.lI.length x.most) {S':List Fr} {K:K Prop} {τ:T AV} {h:AH}
 (L:MI x (lC x i) τ h) (t7:τ.get 7=some (ι (i:Int))) (ih:∀τ' h',MI x (lC x (i+1)) τ' h' ->τ'.get 7=some (ι ((i+1:Nat):Int)) ->df C (.loop Ef) S' K τ' h'):df C Ef (.s (.loop Ef)::S') K τ h:=by
 obtain⟨n1,v1,ob⟩:=h;obtain⟨c0,c1,⟨c,c2,gc⟩,nx,t1,t2,t3,t4,t5⟩:=L;dsimp only at c0 c1 c2;have hl:x.lI[i]? =some x.lI[i]:=cE ω;rw[TJ ω hl] at ih;have lo:=ok.lI _ (dI hl);generalize x.lI[i]=l at hl lo ih;have gi:=Ku ok i ω;generalize lC x i=g at gi gc ih;have lp:((i:Int)<(x.lI.length:Int))=True:=cJ;have lm:((i:Int)<(x.most:Int))=True:=cJ;have lp':i<x.lI.length:=by omega
 have hm:=EZ (x:=x);have i10:i<10:=by omega
 have sc:sub c 0 9=some c:=mM gc.len;have e4:sub (x.lI.flatMap n9) (i*4) 4=some (n9 l):=cW ba8 hl (j:=0) (n:=4) ω;simp only[gI] at c0;simp only[n9,xC] at e4;have nxn:nice 64 (eR n9 4 x.lnl x.lI)=true:=dg E0;refine sD c0 c1 c2 t1 t2 t3 t4 t5 t7 lp lm lp' sc @bG e4 nxn ?_;obtain⟨fl,hfl,hd⟩:=gc.frz;have hob:∀o,o<=3 ->(qf ⟨n1,v1,ob⟩ fl ob).get o=ob.get o:=λo ho=>TS (h:=⟨n1,v1,ob⟩) hfl ho;have lc:bP P X GL 82 [.ag c,.ag (n9 l),.b x.known] ⟨n1,v1,ob⟩ (.ag (ar (sO x.known g l))) ⟨n1,v1,qf ⟨n1,v1,ob⟩ fl ob⟩:=
  Dq S (aY4 (left:=l.left) (ii:=l.ii) (mk:=l.mark) (W:=eR cB 1 l.nl l.bs) S R A G F gi.ok gi.p1 (bb0 lo.bs) (dg pH) lo.left lo.ii lo.mark) (n:=9) (l:=fl) (by
   have e1:deep 9 (qT ⟨n1,v1,ob⟩ fl) (.ag c)=some (aI g):=BH hd;rw[aL,aL,aL,bZ,e1,nX (n:=8) (TO (n:=7) l)];rfl)
 have nt:(sO x.known g l)=sO x.known g l:=rfl;generalize sO x.known g l=g' at*;simp only[n9,xC] at lc;generalize qf ⟨n1,v1,ob⟩ fl ob=ob' at*;have o0:=(congrArg cG (hob 0 ω)).trans c0;have o1:=(congrArg cG (hob 1 ω)).trans c1;have o2:=(congrArg cG (hob 2 ω)).trans c2;refine E.cN lc ?_;have ov:∀L:List AV,L.length=9 ->oZ L c=some L:=λL hL=>by rw[vV,aF (by rw[gc.len,hL];exact bB _),FP (by rw[gc.len,hL];exact bB _),lG]
 have ov':=ov (ar g') rfl;simp only[ar] at ov';refine lX @ar.eq_1 o0 o1 o2 t1 t2 t3 t4 t5 t7 ov' @bK ?_;refine ih _ _ { c0:= ?_,c1:= ?_,c2:=⟨ar g',?_,.of _ _⟩,nx:=nx,t1:= ?_,t2:= ?_,t3:= ?_,t4:= ?_,t5:= ?_ } ?_;any_goals simp only[T.get_put,Nat.reduceEqDiff,reduceIte,t1,t2,t3,t4,t5]
 ·exact o0
 ·exact o1
 ·rfl
def bb4 (R:eL ae) (A:dY P X GL) (G:jf ae) (F:hZ ae) {x:fA} (ok:x.OK) {i:Nat} (hi:i<min x.rU.length 6) {S':List Fr} {K:K Prop} {τ:T AV} {h:AH}
 (L:MI x (oU x i) τ h) (t8:τ.get 8=some (ι (i:Int))) (ih:∀τ' h',MI x (oU x (i+1)) τ' h' ->τ'.get 8=some (ι ((i+1:Nat):Int)) ->df C (.loop Eh) S' K τ' h'):df C Eh (.s (.loop Eh)::S') K τ h:=by
 obtain⟨n1,v1,ob⟩:=h;obtain⟨c0,c1,⟨c,c2,gc⟩,nx,t1,t2,t3,t4,t5⟩:=L;dsimp only at c0 c1 c2;have hl:x.rU[i]? =some x.rU[i]:=cE ω;rw[TK ω hl] at ih;have lo:=ok.rU _ (dI hl);generalize x.rU[i]=l at hl lo ih;have gi:=Kv ok i ω;generalize oU x i=g at gi gc ih;have lp:((i:Int)<(x.rU.length:Int))=True:=cJ;have lm:((i:Int)<6)=True:=cJ;have lp':i<x.rU.length:=by omega
 have i10:i<10:=by omega
 have sc:sub c 0 9=some c:=mM gc.len;have e4:sub (x.rU.flatMap oe) (i*5) 5=some (oe l):=cW ba9 hl (j:=0) (n:=5) ω;simp only[gI] at c0;simp only[oe,qz] at e4;have nxn:nice 64 (eR oe 4 x.rnl x.rU)=true:=dg E1;refine sD c0 c1 c2 t1 t2 t3 t4 t5 t8 lp lm lp' sc @bG e4 nxn ?_;obtain⟨fl,hfl,hd⟩:=gc.frz;have hob:∀o,o<=3 ->(qf ⟨n1,v1,ob⟩ fl ob).get o=ob.get o:=λo ho=>TS (h:=⟨n1,v1,ob⟩) hfl ho;have lc:bP P X GL 83 [.ag c,.ag (oe l)] ⟨n1,v1,ob⟩ (.ag (ar (rt g l))) ⟨n1,v1,qf ⟨n1,v1,ob⟩ fl ob⟩:=
  Dq S (aZ4 (k:=l.k) (a:=l.a) (b:=l.b) (c:=l.c) (ii:=l.ii) S R A G F gi.ok gi.p1 lo.k lo.a lo.b lo.c lo.ii) (n:=9) (l:=fl) (by
   have e1:deep 9 (qT ⟨n1,v1,ob⟩ fl) (.ag c)=some (aI g):=BH hd;rw[aL,aL,bZ,e1,nX (n:=8) (TP (n:=8) l)];rfl)
 have nt:(rt g l)=rt g l:=rfl;generalize rt g l=g' at*;simp only[oe,qz] at lc;generalize qf ⟨n1,v1,ob⟩ fl ob=ob' at*;have o0:=(congrArg cG (hob 0 ω)).trans c0;have o1:=(congrArg cG (hob 1 ω)).trans c1;have o2:=(congrArg cG (hob 2 ω)).trans c2;refine E.cN lc ?_;have ov:∀L:List AV,L.length=9 ->oZ L c=some L:=λL hL=>by rw[vV,aF (by rw[gc.len,hL];exact bB _),FP (by rw[gc.len,hL];exact bB _),lG]
 have ov':=ov (ar g') rfl;simp only[ar] at ov';refine lX @ar.eq_1 o0 o1 o2 t1 t2 t3 t4 t5 t8 ov' @bK ?_;refine ih _ _ { c0:= ?_,c1:= ?_,c2:=⟨ar g',?_,.of _ _⟩,nx:=nx,t1:= ?_,t2:= ?_,t3:= ?_,t4:= ?_,t5:= ?_ } ?_;any_goals simp only[T.get_put,Nat.reduceEqDiff,reduceIte,t1,t2,t3,t4,t5]
 ·exact o0
 ·exact o1
 ·rfl
def TT (R:eL ae) (A:dY P X GL) (G:jf ae) (F:hZ ae) {x:fA} (ok:x.OK) {D:AV} (hD: .ag (ar (fU x))=D) {τ:T AV} {h:AH}
 (L:MI x (sN x) τ h):df C (.seq Eg (.seq yU (.seq yV .ret))) [] (KF (λx h=>∃n,deep n h x=some D) [(2,some (9,true))]) τ h:=by
 have g20:lC x 0=sN x:=by unfold lC;rw[FN];rfl
 have g30:oU x 0=lC x x.most:=by unfold oU;rw[FN];rfl
 refine Z0 ?_;refine fj E.ok (min x.lI.length x.most) (λi τ h=>MI x (lC x i) τ h/\ τ.get 7=some (ι (i:Int))) (λi τ h hi L ih=>bb3 S E R A G F ok hi L.1 L.2 λτ' h' L' t'=>ih τ' h' ⟨L',t'⟩) ?_ _ _ ⟨?_,U0⟩
 ·rintro τ h ⟨L,t7⟩;rw[TM rfl] at L;have nx2:∀τ':T AV,τ'.get 1=τ.get 1 ->τ'.get 2=τ.get 2 ->τ'.get 3=τ.get 3 ->τ'.get 4=τ.get 4 ->τ'.get 5=τ.get 5 ->df C (.seq yU (.seq yV .ret)) [] (KF (λx h=>∃n,deep n h x=some D) [(2,some (9,true))]) τ' h:=by
   intro τ' s1 s2 s3 s4 s5;refine Z0 ?_;refine fj E.ok (min x.rU.length 6) (λi τ h=>MI x (oU x i) τ h/\ τ.get 8=some (ι (i:Int))) (λi τ h hi L ih=>bb4 S E R A G F ok hi L.1 L.2 λτ' h' L' t'=>ih τ' h' ⟨L',t'⟩) ?_ _ _ ⟨?_,U0⟩
   ·rintro τ ⟨n1,v1,ob⟩ ⟨L,t8⟩;rw[TN rfl] at L;obtain⟨c0,c1,⟨c,c2,gc⟩,nx,t1,t2,t3,t4,t5⟩:=L;dsimp only at c0 c1 c2;simp only[gI] at c0;have sc:sub c 0 9=some c:=mM gc.len;have ov:oZ c ZG=some c:=by rw[vV,aF (by rw[gc.len];decide),FP (by rw[gc.len];decide),lG]
    simp only[ZG] at c1 ov;have fin:∃n,deep n ⟨n1,v1+1,ob.put 1 (.cells (v1+1) c)⟩ (.ag c)=some D:=by
     obtain⟨fl,hfl,hd⟩:=gc.frz;refine⟨9,?_⟩;rw[←hD];refine BH ((BG (λo v l hg=> ?_) 8).2 _ _ hd);rcases Hj ⟨n1,v1,ob⟩ fl .e o _ hg with ⟨h1,-,h3⟩|h
     ·have:=hfl o h1;refine⟨v,?_⟩;show(ob.put 1 _).get o=_;rw[T.get_put,aD ω];exact h3
     ·have e:(T.e:T bC).get o=none:=rfl;rw[e] at h;cases h
    by_cases h6:x.rU.length<=6
    ·rw[kF h6] at t8;have hz:((x.rU.length:Int)<(x.rU.length:Int))=False:=av;refine wR c0 c1 c2 t1 t2 t3 t4 t5 t8 hz sc ov gc.simp gc.len ?_;exact fin
    ·rw[sY ω] at t8;have hz:((6:Int)<(x.rU.length:Int))=True:=cJ;have t8':τ.get 8=some (ι 6):=t8;refine wR c0 c1 c2 t1 t2 t3 t4 t5 t8' hz sc ov gc.simp gc.len ?_;exact fin
   ·rw[g30];exact { c0:=L.c0,c1:=L.c1,c2:=L.c2,nx:=L.nx,t1:=by exact U2 s1 L.t1,t2:=by exact U2 s2 L.t2,t3:=by exact U2 s3 L.t3,t4:=by exact U2 s4 L.t4,t5:=by exact U2 s5 L.t5 }
  obtain⟨n1,v1,ob⟩:=h;obtain⟨c0,c1,⟨c,c2,gc⟩,nx,t1,t2,t3,t4,t5⟩:=L;dsimp only at c0 c1 c2;simp only[gI] at c0;have hm:=EZ (x:=x);generalize hq:(aw.seq yU (.seq yV .ret))=nxt at nx2 ⊢;by_cases h6:x.lI.length<=x.most
  ·rw[kF h6] at t7;have hz:((x.lI.length:Int)<(x.lI.length:Int))=False:=av;refine qX c0 c1 c2 t1 t2 t3 t4 t5 t7 hz ?_;apply nx2<;>exact U0
  ·rw[sY ω] at t7;have hz:((x.most:Int)<(x.lI.length:Int))=True:=cJ;have hz2:((x.most:Int)<(x.most:Int))=False:=av;refine sC c0 c1 c2 t1 t2 t3 t4 t5 t7 hz hz2 ?_;apply nx2<;>exact U0
 ·rw[g20];exact { c0:=L.c0,c1:=L.c1,c2:=L.c2,nx:=L.nx,t1:=by exact U1 L.t1,t2:=by exact U1 L.t2,t3:=by exact U1 L.t3,t4:=by exact U1 L.t4,t5:=by exact U1 L.t5 }
end
end AM
