import Derived.Test.YtcpcjocnnclcmaaGreatDoorN29
set_option linter.all false
namespace AM
open Dg Go
noncomputable section
section
variable {P:Program} {X:dy} {GL:T (List AV)} {fns:T aR}
def sN {b n:Nat} (hn:n<=3):yB n (gT b n):=⟨Sm,So hn⟩
set_option maxHeartbeats 8000000 in
def Xq {C:cQ Prop} (S:aw P X GL fns) (E:gW P X GL fns C) (R:dr fns) (A:bh P X GL) (G:gf fns) (F:jM fns) {g:Gr} (ok:cM g) (pn:1<=g.prods.length) {k a b c ii:Nat} (hk:k<256) (ha:a<256) (hb:b<256) (hc:c<256) (hi:ii<256) {D:AV} (hD: .ag (aL (kJ g k a b c ii))=D) (k2:2<=k%8) (k7:k%8<7):bZ C 18 [b9 g,.ag (Lg k a b c ii)] h0 fun x h=>∃n,aH n h x=some D:=by
 have hpl:=ok.pl;have hfl:=ok.fl;have hntl:=ok.ntl;have ncl:=mI ok.nc;have r8:aV .rem (.i .u8 (k:Int)) (.i .u8 8)=some (.i .u8 ((k%8:Nat):Int)):=oO (c:=8) ω;have w8:bT .i64 ((k%8:Nat):Int)=((k%8:Nat):Int):=fJ ω;have wa:bT .i64 (a:Int)=(a:Int):=fJ ω;have wb:bT .i64 (b:Int)=(b:Int):=fJ ω;have wc:bT .i64 (c:Int)=(c:Int):=fJ ω;have ra:aV .rem (ι (a:Int)) (ι (g.prods.length:Int))=some (ι ((a%g.prods.length:Nat):Int)):=dm ω;have rb:aV .rem (ι (b:Int)) (ι (g.prods.length:Int))=some (ι ((b%g.prods.length:Nat):Int)):=dm ω;have rn:aV .rem (ι (a:Int)) (ι (g.nts.length:Int))=some (ι ((a%g.nts.length:Nat):Int)):=dm ω;have rc:aV .rem (ι (c:Int)) (ι 16)=some (ι ((c%16:Nat):Int)):=dm (c:=16) ω;have r9:aV .rem (ι (b:Int)) (ι 9)=some (ι ((b%9:Nat):Int)):=dm (c:=9) ω;have sp:=fun h=>aE S (uc (GL:=GL) S R A F (b:=ii) hi ok.nc) (n:=1) (by rfl) h
 simp only[eT,eD] at sp;rw[aA E.ok (E.get F.f18)];refine WE @Sh.eq_1 @b9.eq_1 @aL.eq_1 @Lg.eq_1 @dv @bV ncl wa ra r8 @h0.eq_1 ?_;refine E.con (sp _) ?_;rw[kJ,if_neg ω,if_neg ω] at hD;have AP:=fun (h:g.fis≠[])=>P7 (nl:=true) (L:=g.fis) wL Qa h ω
 have AP0:g.fis=[] ->∀h o,pS h 9 (.sl o 0 0 (some 0) 9) (eR jx 9 true g.fis)= .v (.sl o 0 0 (some 0) 9) h:=fun hf h o=>by rw[hf];rfl
 have hl:(g.fis.flatMap jx).length=g.fis.length*9:=dG wL g.fis;have fitS:=sN (b:=ii) ok.nc;rcases(show k%8=2∨k%8=3∨k%8=4∨k%8=5∨k%8=6 by omega) with k0|k0|k0|k0|k0
 ·rw[k0] at w8;have ef:E4 g k a b c ii=⟨1,a%g.prods.length,c%16,b%g.prods.length,0,0,[],true,gT ii g.nc⟩:=by unfold E4;rw[if_pos ω,k0]
  have p1:aV .add (ι 1) (ι ((2:Nat):Int))=some (ι 3):=rfl;have p2:aV .add (ι 1) (ι 2)=some (ι 3):=rfl;have q1:aV .sub (ι 3) (ι 2)=some (ι 1):=rfl;have fp:=fun h=>vh (GL:=GL) S R A G ok (f:=⟨1,a%g.prods.length,c%16,b%g.prods.length,0,0,[],true,gT ii g.nc⟩) fitS (by first|exact .inl rfl|exact .inr rfl) rfl rfl rfl (jy _ ω) (jy _ ω) (by simp only;omega) h
  simp only[b9,aL,jx,jW,po] at fp;rw[ef] at hD;refine WF @dv @bV ncl wa wb wc ra rb rn rc r9 r8 k0 w8 p1 p2 q1 @aD ?_;refine E.con (fp _) ?_;cases hp:mF g ⟨1,a%g.prods.length,c%16,b%g.prods.length,0,0,[],true,gT ii g.nc⟩ with
  |false=>
   rw[if_pos ⟨by omega,hp⟩] at hD;refine Z1 @aD ?_;exact⟨9,by rw[←hD];exact EJ⟩
  |true=>
   rw[if_neg (fun h=>by rw[hp] at h;cases h.2)] at hD;by_cases hf:g.fis=[]
   ·refine Z3 @aD @nz (AP0 hf) ?_;refine⟨9,?_⟩;rw[←hD,show∀f,g.fis++[f]=[]++[f] from fun f=>by rw[hf]];exact eQ (aM (n:=7) dz) (aM (n:=7) dR) (dS (n:=7) (L:=[]) da (iK (n:=6) (f:=⟨1,a%g.prods.length,c%16,b%g.prods.length,0,0,[],true,gT ii g.nc⟩) rfl) rfl)
   ·refine Z4 @aD @nz (AP hf) hl ?_;refine⟨9,?_⟩;rw[←hD];exact eQ (aM (n:=7) dz) (aM (n:=7) dR) (dS (n:=7) (L:=g.fis) da (iK (n:=6) (f:=⟨1,a%g.prods.length,c%16,b%g.prods.length,0,0,[],true,gT ii g.nc⟩) rfl) rfl)
 ·rw[k0] at w8;have ef:E4 g k a b c ii=⟨2,a%g.prods.length,c%16,b%g.prods.length,0,0,[],true,gT ii g.nc⟩:=by unfold E4;rw[if_pos ω,k0]
  have p1:aV .add (ι 1) (ι ((3:Nat):Int))=some (ι 4):=rfl;have p2:aV .add (ι 1) (ι 3)=some (ι 4):=rfl;have q1:aV .sub (ι 4) (ι 2)=some (ι 2):=rfl;have fp:=fun h=>vh (GL:=GL) S R A G ok (f:=⟨2,a%g.prods.length,c%16,b%g.prods.length,0,0,[],true,gT ii g.nc⟩) fitS (by first|exact .inl rfl|exact .inr rfl) rfl rfl rfl (jy _ ω) (jy _ ω) (by simp only;omega) h
  simp only[b9,aL,jx,jW,po] at fp;rw[ef] at hD;refine WF @dv @bV ncl wa wb wc ra rb rn rc r9 r8 k0 w8 p1 p2 q1 @aD ?_;refine E.con (fp _) ?_;cases hp:mF g ⟨2,a%g.prods.length,c%16,b%g.prods.length,0,0,[],true,gT ii g.nc⟩ with
  |false=>
   rw[if_pos ⟨by omega,hp⟩] at hD;refine Z1 @aD ?_;exact⟨9,by rw[←hD];exact EJ⟩
  |true=>
   rw[if_neg (fun h=>by rw[hp] at h;cases h.2)] at hD;by_cases hf:g.fis=[]
   ·refine Z3 @aD @nz (AP0 hf) ?_;refine⟨9,?_⟩;rw[←hD,show∀f,g.fis++[f]=[]++[f] from fun f=>by rw[hf]];exact eQ (aM (n:=7) dz) (aM (n:=7) dR) (dS (n:=7) (L:=[]) da (iK (n:=6) (f:=⟨2,a%g.prods.length,c%16,b%g.prods.length,0,0,[],true,gT ii g.nc⟩) rfl) rfl)
   ·refine Z4 @aD @nz (AP hf) hl ?_;refine⟨9,?_⟩;rw[←hD];exact eQ (aM (n:=7) dz) (aM (n:=7) dR) (dS (n:=7) (L:=g.fis) da (iK (n:=6) (f:=⟨2,a%g.prods.length,c%16,b%g.prods.length,0,0,[],true,gT ii g.nc⟩) rfl) rfl)
 ·rw[k0] at w8;have ef:E4 g k a b c ii=⟨3,0,0,0,a%g.nts.length,0,[b%9],true,gT ii g.nc⟩:=by unfold E4;rw[if_neg ω,if_pos ω,k0]
  have p1:aV .add (ι 3) (ι ((4:Nat):Int))=some (ι 7):=rfl;have p2:aV .add (ι 3) (ι 4)=some (ι 7):=rfl;have q1:aV .sub (ι 7) (ι 4)=some (ι 3):=rfl;have fok:vY g ⟨3,0,0,0,a%g.nts.length,0,[b%9],true,gT ii g.nc⟩:={ cond:=fitS,kinds:= .inr (.inl ⟨by first|exact .inl rfl|exact .inr rfl,rfl,rfl,rfl,rfl,jy _ ω,by simp,fun t ht=>by rcases dY.1 ht with rfl;omega,fun i x y h1 h2=>by simp at h2⟩),tl:=by simp }
  have fp:∀(h:AH) (o:Nat),cG (h.objs.get o)=some [.i .i64 ((b%9:Nat):Int)] ->dq P X GL 44 [b9 g,.ag [.i .i64 3,.i .i64 0,.i .i64 0,.i .i64 0,.i .i64 ((a%g.nts.length:Nat):Int),.i .i64 0,.sl o 0 1 (some 1) 1,fG (ax (gT ii g.nc)).1,.i .i64 ((ax (gT ii g.nc)).2:Int)]] h (.b true) h:=fun h o ho=>
   fP (n:=9) (m:=1) S (qg (GL:=GL) S R A G ok fok (by simp)) (by
    have e1:∀l,aH 9 h (.ag l)=(match aK 8 h l with|some l=>some (AV.ag l)|none=>none):=fun _=>rfl
    have e2:=iK (n:=7) (h:=h) (f:=⟨3,0,0,0,a%g.nts.length,0,[b%9],true,gT ii g.nc⟩) (V:= .sl o 0 1 (some 1) 1) (dw ho rfl);have e3:aH 9 h (.ag [.i .i64 3,.i .i64 0,.i .i64 0,.i .i64 0,.i .i64 ((a%g.nts.length:Nat):Int),.i .i64 0,.sl o 0 1 (some 1) 1,fG (ax (gT ii g.nc)).1,.i .i64 ((ax (gT ii g.nc)).2:Int)])=some (.ag (jx ⟨3,0,0,0,a%g.nts.length,0,[b%9],true,gT ii g.nc⟩)):=by
     rw[e1];exact congrArg (fun o:Option (List AV)=>match o with|some l=>some (AV.ag l)|none=>none) e2
    rw[af,af,ay,i7,e3]) rfl
  simp only[b9,aL] at fp;rw[ef,if_neg (fun h=>by have:=h.1;omega)] at hD;refine WF @dv @bV ncl wa wb wc ra rb rn rc r9 r8 k0 w8 p1 p2 q1 @aD ?_;refine E.con (fp _ _ rfl) ?_;by_cases hf:g.fis=[]
  ·refine Z3 @aD @nz (AP0 hf) ?_;refine⟨9,?_⟩;rw[←hD,show∀f,g.fis++[f]=[]++[f] from fun f=>by rw[hf]];exact eQ (aM (n:=7) dz) (aM (n:=7) dR) (dS (n:=7) (L:=[]) da (iK (n:=6) (f:=⟨3,0,0,0,a%g.nts.length,0,[b%9],true,gT ii g.nc⟩) (dw rfl rfl)) rfl)
  ·refine Z4 @aD @nz (AP hf) hl ?_;refine⟨9,?_⟩;rw[←hD];exact eQ (aM (n:=7) dz) (aM (n:=7) dR) (dS (n:=7) (L:=g.fis) da (iK (n:=6) (f:=⟨3,0,0,0,a%g.nts.length,0,[b%9],true,gT ii g.nc⟩) (dw rfl rfl)) rfl)
 ·rw[k0] at w8;have ef:E4 g k a b c ii=⟨4,0,0,0,a%g.nts.length,0,[b%9],true,gT ii g.nc⟩:=by unfold E4;rw[if_neg ω,if_pos ω,k0]
  have p1:aV .add (ι 3) (ι ((5:Nat):Int))=some (ι 8):=rfl;have p2:aV .add (ι 3) (ι 5)=some (ι 8):=rfl;have q1:aV .sub (ι 8) (ι 4)=some (ι 4):=rfl;have fok:vY g ⟨4,0,0,0,a%g.nts.length,0,[b%9],true,gT ii g.nc⟩:={ cond:=fitS,kinds:= .inr (.inl ⟨by first|exact .inl rfl|exact .inr rfl,rfl,rfl,rfl,rfl,jy _ ω,by simp,fun t ht=>by rcases dY.1 ht with rfl;omega,fun i x y h1 h2=>by simp at h2⟩),tl:=by simp }
  have fp:∀(h:AH) (o:Nat),cG (h.objs.get o)=some [.i .i64 ((b%9:Nat):Int)] ->dq P X GL 44 [b9 g,.ag [.i .i64 4,.i .i64 0,.i .i64 0,.i .i64 0,.i .i64 ((a%g.nts.length:Nat):Int),.i .i64 0,.sl o 0 1 (some 1) 1,fG (ax (gT ii g.nc)).1,.i .i64 ((ax (gT ii g.nc)).2:Int)]] h (.b true) h:=fun h o ho=>
   fP (n:=9) (m:=1) S (qg (GL:=GL) S R A G ok fok (by simp)) (by
    have e1:∀l,aH 9 h (.ag l)=(match aK 8 h l with|some l=>some (AV.ag l)|none=>none):=fun _=>rfl
    have e2:=iK (n:=7) (h:=h) (f:=⟨4,0,0,0,a%g.nts.length,0,[b%9],true,gT ii g.nc⟩) (V:= .sl o 0 1 (some 1) 1) (dw ho rfl);have e3:aH 9 h (.ag [.i .i64 4,.i .i64 0,.i .i64 0,.i .i64 0,.i .i64 ((a%g.nts.length:Nat):Int),.i .i64 0,.sl o 0 1 (some 1) 1,fG (ax (gT ii g.nc)).1,.i .i64 ((ax (gT ii g.nc)).2:Int)])=some (.ag (jx ⟨4,0,0,0,a%g.nts.length,0,[b%9],true,gT ii g.nc⟩)):=by
     rw[e1];exact congrArg (fun o:Option (List AV)=>match o with|some l=>some (AV.ag l)|none=>none) e2
    rw[af,af,ay,i7,e3]) rfl
  simp only[b9,aL] at fp;rw[ef,if_neg (fun h=>by have:=h.1;omega)] at hD;refine WF @dv @bV ncl wa wb wc ra rb rn rc r9 r8 k0 w8 p1 p2 q1 @aD ?_;refine E.con (fp _ _ rfl) ?_;by_cases hf:g.fis=[]
  ·refine Z3 @aD @nz (AP0 hf) ?_;refine⟨9,?_⟩;rw[←hD,show∀f,g.fis++[f]=[]++[f] from fun f=>by rw[hf]];exact eQ (aM (n:=7) dz) (aM (n:=7) dR) (dS (n:=7) (L:=[]) da (iK (n:=6) (f:=⟨4,0,0,0,a%g.nts.length,0,[b%9],true,gT ii g.nc⟩) (dw rfl rfl)) rfl)
  ·refine Z4 @aD @nz (AP hf) hl ?_;refine⟨9,?_⟩;rw[←hD];exact eQ (aM (n:=7) dz) (aM (n:=7) dR) (dS (n:=7) (L:=g.fis) da (iK (n:=6) (f:=⟨4,0,0,0,a%g.nts.length,0,[b%9],true,gT ii g.nc⟩) (dw rfl rfl)) rfl)
 ·rw[k0] at w8;have ef:E4 g k a b c ii=⟨5,0,0,0,0,0,[5],true,gT ii g.nc⟩:=by unfold E4;rw[if_neg ω,if_neg ω]
  have fok:vY g ⟨5,0,0,0,0,0,[5],true,gT ii g.nc⟩:={ cond:=fitS,kinds:= .inr (.inr ⟨rfl,rfl,rfl,rfl,rfl,rfl,by simp,fun t ht=>by rcases dY.1 ht with rfl;omega,fun i x y h1 h2=>by simp at h2⟩),tl:=by simp }
  have fp:∀(h:AH) (o:Nat),cG (h.objs.get o)=some [.i .i64 (5)] ->dq P X GL 44 [b9 g,.ag [.i .i64 5,.i .i64 0,.i .i64 0,.i .i64 0,.i .i64 0,.i .i64 0,.sl o 0 1 (some 1) 1,fG (ax (gT ii g.nc)).1,.i .i64 ((ax (gT ii g.nc)).2:Int)]] h (.b true) h:=fun h o ho=>
   fP (n:=9) (m:=1) S (qg (GL:=GL) S R A G ok fok (by simp)) (by
    have e1:∀l,aH 9 h (.ag l)=(match aK 8 h l with|some l=>some (AV.ag l)|none=>none):=fun _=>rfl
    have e2:=iK (n:=7) (h:=h) (f:=⟨5,0,0,0,0,0,[5],true,gT ii g.nc⟩) (V:= .sl o 0 1 (some 1) 1) (dw ho rfl);have e3:aH 9 h (.ag [.i .i64 5,.i .i64 0,.i .i64 0,.i .i64 0,.i .i64 0,.i .i64 0,.sl o 0 1 (some 1) 1,fG (ax (gT ii g.nc)).1,.i .i64 ((ax (gT ii g.nc)).2:Int)])=some (.ag (jx ⟨5,0,0,0,0,0,[5],true,gT ii g.nc⟩)):=by
     rw[e1];exact congrArg (fun o:Option (List AV)=>match o with|some l=>some (AV.ag l)|none=>none) e2
    rw[af,af,ay,i7,e3]) rfl
  simp only[b9,aL] at fp;rw[ef,if_neg (fun h=>by have:=h.1;omega)] at hD;refine TP @dv @bV ncl wa wb wc ra rb rn rc r9 r8 k0 w8 @aD ?_;refine E.con (fp _ _ rfl) ?_;by_cases hf:g.fis=[]
  ·refine Z3 @aD @nz (AP0 hf) ?_;refine⟨9,?_⟩;rw[←hD,show∀f,g.fis++[f]=[]++[f] from fun f=>by rw[hf]];exact eQ (aM (n:=7) dz) (aM (n:=7) dR) (dS (n:=7) (L:=[]) da (iK (n:=6) (f:=⟨5,0,0,0,0,0,[5],true,gT ii g.nc⟩) (dw rfl rfl)) rfl)
  ·refine Z4 @aD @nz (AP hf) hl ?_;refine⟨9,?_⟩;rw[←hD];exact eQ (aM (n:=7) dz) (aM (n:=7) dR) (dS (n:=7) (L:=g.fis) da (iK (n:=6) (f:=⟨5,0,0,0,0,0,[5],true,gT ii g.nc⟩) (dw rfl rfl)) rfl)
def Hu (S:aw P X GL fns) (R:dr fns) (A:bh P X GL) (G:gf fns) (F:jM fns) {g:Gr} (ok:cM g) (pn:1<=g.prods.length) {k a b c ii:Nat} (hk:k<256) (ha:a<256) (hb:b<256) (hc:c<256) (hi:ii<256):aZ P X GL fns 18 [b9 g,.ag (Lg k a b c ii)] (.ag (aL (kJ g k a b c ii))):=by
 refine aZ.intro fun C E=> ?_
 by_cases h1:k%8<2
 ·exact Xp S E R A G F ok pn hk ha hb hc hi rfl h1
 ·by_cases h7:k%8=7
  ·exact ac2 S E R A G F ok pn hk ha hb hc hi rfl h7
  ·exact Xq S E R A G F ok pn hk ha hb hc hi rfl ω ω
end
def uo (g:Gr):Prop:=∀p∈g.prods,∀c,p.name=[112,c] ->c<97+g.prods.length
def AQ {n:Nat} {bs:List Nat}:(du n bs).length<=4:=by
 unfold du;rw[j9,fO];omega
def KX {n:Nat} (hn:1<=n) {bs:List Nat}:∀s∈du n bs,(s.1=true/\ s.2<9)∨(s.1=false/\ s.2<n):=by
 intro s hs;unfold du at hs;obtain⟨b,-,rfl⟩:=sS.1 hs;unfold Ei;split
 ·exact .inl ⟨rfl,by assumption⟩
 ·exact .inr ⟨rfl,jy _ hn⟩
def SS {g:Gr} (ok:cM g) {left ii mk:Nat} {bs:List Nat} (hm:mk<256):zh g.nc g.nts.length (qX g left ii mk bs):=by
 have hn:=ok.ntl.1;refine Kx hm ⟨rfl,rfl,rfl,rfl,rfl,rfl,rfl,rfl,rfl,AQ⟩
  { name:=by simp[mV],left:=jy _ hn,sym:=KX hn,len:=fq AQ ω,lay:= ?_,layl:= ?_,cond:=sN ok.nc,rank:= ?_,dec:= .inl ⟨rfl,rfl⟩,uses:= .inl ⟨rfl,rfl⟩,br:= ?_ }
 ·intro c hc;cases hc
 ·exact Bk _
 ·show(-1:Int)<=0/\ (0:Int)<=1;decide
 ·intro h;cases h
def jX {g:Gr} {left ii mk:Nat} {bs:List Nat}:(qX g left ii mk bs).name=[112,97+g.prods.length]/\ (qX g left ii mk bs).left=left%g.nts.length/\ (qX g left ii mk bs).right=du g.nts.length bs:=by
 unfold qX;exact G1
def vY.mono {g g':Gr} {f:Fi} (h:vY g f) (hnc:g'.nc=g.nc) (hnt:g'.nts=g.nts) (hp:∀(i:Nat) p,g.prods[i]? =some p ->g'.prods[i]? =some p):vY g' f where
 cond:=by rw[hnc];exact h.cond
 kinds:=by
  rcases h.kinds with ⟨hk,h1,h2,h3,pp,cp,e1,e2,e3⟩|h|h
  ·exact .inl ⟨hk,h1,h2,h3,pp,cp,hp _ _ e1,hp _ _ e2,e3⟩
  ·exact .inr (.inl (by rw[hnt];exact h))
  ·exact .inr (.inr h)
 tl:=h.tl
def Jg {α:Type} {L:List α} {x y:α} {i:Nat} (h:(L++[x])[i]? =some y):(L[i]? =some y/\ i<L.length)∨(i=L.length/\ y=x):=by
 by_cases hi:i<L.length
 ·rw[oZ hi] at h;exact .inl ⟨h,hi⟩
 ·rw[vE ω] at h;have:i-L.length=0:=by
   rcases e:i-L.length with _|n
   ·rfl
   ·rw[e] at h;cases h
  rw[this] at h;exact .inr ⟨by omega,(Option.some.inj h).symm⟩
def Xr {g:Gr} (ok:cM g) {p:Pr} (hp:zh g.nc g.nts.length p) (hl:g.prods.length<100) (hd:∀q∈g.prods,q.name≠p.name):cM { g with prods:=g.prods++[p] } where
 nc:=ok.nc
 fam:=ok.fam
 famr:=ok.famr
 tcl:=ok.tcl
 tc:=ok.tc
 ntl:=ok.ntl
 ntn:=ok.ntn
 ntd:=ok.ntd
 pl:=by show(g.prods++[p]).length<=100;rw[cX,pq];omega
 p:=by
  intro q hq;rcases eV.1 hq with h|h
  ·exact ok.p q h
  ·rw[dY.1 h];exact hp
 pd:=by
  intro i j q r hi hj e;have hi:(g.prods++[p])[i]? =some q:=hi;have hj:(g.prods++[p])[j]? =some r:=hj;rcases Jg hi with ⟨a1,-⟩|⟨a1,a2⟩<;>rcases Jg hj with ⟨b1,-⟩|⟨b1,b2⟩
  ·exact ok.pd i j q r a1 b1 e
  ·rw[b2] at e;exact absurd e (hd q (bJ a1))
  ·rw[a2] at e;exact absurd e.symm (hd r (bJ b1))
  ·omega
 ll:=ok.ll
 l:=ok.l
 lp:=fun x hx=>by
  have:=ok.lp x hx;show x<(g.prods++[p]).length;rw[cX,pq];omega
 ld:=ok.ld
 fl:=ok.fl
 f:=fun f hf=>(ok.f f hf).mono rfl rfl fun i q h=>by
  show(g.prods++[p])[i]? =_;rw[oZ (cW.1 h).1,h]
def ST {g:Gr} (ok:cM g) (nm:uo g) (hl:g.prods.length<100) {left ii mk:Nat} {bs:List Nat} {kn:Bool} (hm:mk<256):cM (jN g left ii mk bs kn)/\ uo (jN g left ii mk bs kn)/\ g.prods.length<=(jN g left ii mk bs kn).prods.length/\ (jN g left ii mk bs kn).prods.length<=g.prods.length+1/\ (jN g left ii mk bs kn).nts=g.nts/\ (jN g left ii mk bs kn).lvs=g.lvs/\ (jN g left ii mk bs kn).fis=g.fis:=by
 unfold jN;split
 ·exact⟨ok,nm,bK _,jP _,rfl,rfl,rfl⟩
 ·refine⟨Xr ok (SS ok hm) hl fun q hq e=> ?_,?_,?_,?_,rfl,rfl,rfl⟩
  ·rw[jX.1] at e;have:=nm q hq _ e;omega
  ·intro q hq c e;show c<97+(g.prods++[_]).length;rw[cX,pq];rcases eV.1 hq with h|h
   ·have:=nm q h c e;omega
   ·rw[dY.1 h,jX.1] at e;injection e with _ e;injection e with e _;omega
  ·show _<=(g.prods++[_]).length;rw[cX];omega
  ·show(g.prods++[_]).length<=_;rw[cX,pq];omega
def EM {l:List (Bool×Nat)} (h:toks l≠0):∃s∈l,s.1=true:=by
 unfold toks at h;cases e:l.filter (·.1) with
 |nil=>rw[e] at h;exact absurd rfl h
 |cons s t=>
  have:s∈l.filter (·.1):=by rw[e];exact ij
  exact⟨s,(List.mem_filter.1 this).1,(List.mem_filter.1 this).2⟩
def Qb {g:Gr} {Z:Nat ->Bool} (Y:yG g Z) {left ii mk:Nat} {bs:List Nat} {kn:Bool} (hz:kn=false ->∀i,Z i=false):yG (jN g left ii mk bs kn) Z:=by
 unfold jN;split
 ·exact Y
 rename_i hc;have tk:toks (du g.nts.length bs)=0 ->kn=false/\ jI (left%g.nts.length) (du g.nts.length bs)=true:=fun h0=>by
  constructor
  ·cases kn with|false=>rfl|true=>exact absurd ⟨h0,.inl rfl⟩ hc
  ·cases e:jI (left%g.nts.length) (du g.nts.length bs) with|true=>rfl|false=>exact absurd ⟨h0,.inr e⟩ hc
 constructor
 ·intro p hp zl;rcases eV.1 hp with h|h
  ·exact Y.z p h zl
  ·obtain rfl:=dY.1 h;rw[jX.2.1] at zl;rw[jX.2.2];by_cases h0:toks (du g.nts.length bs)=0
   ·rw[hz (tk h0).1] at zl;cases zl
   ·obtain⟨s,hs,h1⟩:=EM h0;exact⟨s,hs,.inl h1⟩
 ·intro p hp ha i b hi;rcases eV.1 hp with h|h
  ·exact Y.st p h ha i b hi
  ·obtain rfl:=dY.1 h;rw[jX.2.2] at ha hi;rw[jX.2.1,jX.2.2];by_cases h0:toks (du g.nts.length bs)=0
   ·have hl:=(tk h0).2;have:=fK.1 hl _ (bJ hi);simp only[zx,decide_eq_true_eq] at this;exact .inl this
   ·obtain⟨s,hs,h1⟩:=EM h0;rw[ha s hs] at h1;cases h1
def sO {L:List Lv} {p:Nat} (h:yD L p=false):∀x∈L.flatMap (·.prods),x≠p:=by
 intro x hx e;obtain⟨l,hl,hx⟩:=Tq.1 hx;have:yD L p=true:=re.2 ⟨l,hl,re.2 ⟨x,hx,by simpa using e⟩⟩;rw[h] at this;cases this
def AR {g:Gr} {f:Fi} (h:mF g f=true):∃pp cp,g.prods[f.par]? =some pp/\ g.prods[f.child]? =some cp/\ pp.right[f.at_]? =some (false,cp.left):=by
 unfold mF at h;split at h
 ·rename_i pp cp e1 e2;split at h
  ·rename_i s e3;simp only[av,iS,decide_eq_true_eq] at h;obtain⟨b,n⟩:=s;obtain⟨rfl,rfl⟩:=h;exact⟨pp,cp,e1,e2,e3⟩
  ·cases h
 ·cases h
def ac3 {g:Gr} (ok:cM g) {k a b c ii:Nat} (h:k%8<4 ->mF g (E4 g k a b c ii)=true) (k2:2<=k%8):vY g (E4 g k a b c ii):=by
 have hn:=ok.ntl.1;unfold E4 at h ⊢;split
 ·rename_i k4;rw[if_pos k4] at h;exact { cond:=sN ok.nc,kinds:= .inl ⟨by show k%8-1=1∨k%8-1=2;omega,rfl,rfl,rfl,AR (h k4)⟩,tl:=Bk _ }
 ·split
  ·exact { cond:=sN ok.nc,kinds:= .inr (.inl ⟨by show k%8-1=3∨k%8-1=4;omega,rfl,rfl,rfl,rfl,jy _ hn,by simp,fun t ht=>by rcases dY.1 ht with rfl;omega,fun i x y h1 h2=>by simp at h2⟩),tl:=by simp }
  ·exact { cond:=sN ok.nc,kinds:= .inr (.inr ⟨rfl,rfl,rfl,rfl,rfl,rfl,by simp,fun t ht=>by rcases dY.1 ht with rfl;omega,fun i x y h1 h2=>by simp at h2⟩),tl:=by simp }
def Ji {g:Gr} (ok:cM g) (pn:1<=g.prods.length) (hl:g.lvs.length<100) (hf:g.fis.length<100) {k a b c ii:Nat}:cM (kJ g k a b c ii)/\ (kJ g k a b c ii).prods=g.prods/\ (kJ g k a b c ii).lvs.length<=g.lvs.length+1/\ (kJ g k a b c ii).fis.length<=g.fis.length+1:=by
 unfold kJ;split
 ·split
  ·exact⟨ok,rfl,jP _,jP _⟩
  ·rename_i h0;have h0:yD g.lvs (a%g.prods.length)=false:=by simpa using h0
   refine⟨{ ok with ll:= ?_,l:= ?_,lp:= ?_,ld:= ?_,f:=fun f hf=>(ok.f f hf).mono rfl rfl fun _ _ h=>h,p:=ok.p },rfl,?_,jP _⟩
   ·show(g.lvs++[_]).length<=100;rw[cX,pq];omega
   ·intro l hl;rcases eV.1 hl with h|h
    ·exact ok.l l h
    ·obtain rfl:=dY.1 h;refine⟨?_,sN ok.nc,?_⟩
     ·show c%4<=3;omega
     ·unfold KW;dsimp only;split<;>simp
   ·intro x hx;show x<g.prods.length;have hx:x∈(g.lvs++[KW g a b c ii]).flatMap (·.prods):=hx;rw[ik,w7] at hx;rcases eV.1 hx with h|h
    ·exact ok.lp x h
    ·unfold KW at h;dsimp only at h;split at h
     ·rcases bY.1 h with rfl|h
      ·exact jy _ pn
      ·rw[dY.1 h];exact jy _ pn
     ·rw[dY.1 h];exact jy _ pn
   ·show((g.lvs++[KW g a b c ii]).flatMap (·.prods)).Nodup;rw[ik,w7];refine uy.2 ⟨ok.ld,?_,?_⟩
    ·unfold KW;dsimp only;split
     ·rename_i h;simp only[Fk,dY,List.not_mem_nil,not_false_eq_true,List.nodup_nil,and_true];exact fun e=>h.1 e.symm
     ·simp
    ·intro x hx y hy;unfold KW at hy;dsimp only at hy;split at hy
     ·rename_i h;rcases bY.1 hy with rfl|hy
      ·exact sO h0 x hx
      ·rw[dY.1 hy];exact sO h.2 x hx
     ·rw[dY.1 hy];exact sO h0 x hx
   ·show(g.lvs++[_]).length<=_;rw[cX,pq];omega
 ·split
  ·refine⟨{ ok with tcl:= ?_,tc:= ?_,f:=fun f hf=>(ok.f f hf).mono rfl rfl fun _ _ h=>h,p:=ok.p },rfl,jP _,jP _⟩
   ·show(g.tc.set _ _).length=11;rw[Fa];exact ok.tcl
   ·intro c hc;rcases Fb hc with h|rfl
    ·exact ok.tc c h
    ·exact sN ok.nc
  ·split
   ·exact⟨ok,rfl,jP _,jP _⟩
   ·rename_i h2 h7 h4;refine⟨{ ok with fl:= ?_,f:= ?_,p:=ok.p },rfl,jP _,?_⟩
    ·show(g.fis++[_]).length<=100;rw[cX,pq];omega
    ·intro f hf;have key:vY g f:=by
      rcases eV.1 hf with h|h
      ·exact ok.f f h
      ·obtain rfl:=dY.1 h;exact ac3 ok (fun h=>by cases e:mF g (E4 g k a b c ii) with|true=>rfl|false=>exact absurd ⟨h,e⟩ h4) ω
     exact key.mono rfl rfl fun _ _ h=>h
    ·show(g.fis++[_]).length<=_;rw[cX,pq];omega
def Qc {g:Gr} {Z:Nat ->Bool} (Y:yG g Z) {k a b c ii:Nat} (pn:1<=g.prods.length) (ok:cM g) (hl:g.lvs.length<100) (hf:g.fis.length<100):yG (kJ g k a b c ii) Z:=by
 have e:=(Ji ok pn hl hf (k:=k) (a:=a) (b:=b) (c:=c) (ii:=ii)).2.1;exact⟨by rw[e];exact Y.z,by rw[e];exact Y.st⟩
def kP (nm:List Nat) (l:Nat) (r:List (Bool×Nat)):Pr:=mV nm l false r
def Yy (nts:List (List Nat)) (ps:List Pr) (ls:List Lv) (fs:List Fi):Gr:=⟨2,[],dQ true 3,List.replicate 11 (dQ true 3),nts,[],ps,ls,fs⟩
def zo:Nat ->Gr
 |0=>Yy [[69]] [kP [97,100,100] 0 [(false,0),(true,1),(false,0)],kP [109,117,108] 0 [(false,0),(true,2),(false,0)],{ kP [98,114,97,99,107,101,116] 0 [(true,3),(false,0),(true,4)] with br:=true },kP [110,97,109,101] 0 [(true,0)],{ kP [112,111,119] 0 [(false,0),(true,8),(false,0)] with cond:=lI 1 }] [⟨[4],2,dQ true 3⟩,⟨[1],1,dQ true 3⟩,⟨[0],1,Sl (lI 0)⟩] []
 |1=>Yy [[83],[67]] [kP [98,111,116,104] 0 [(true,5),(false,1),(false,0),(true,6),(false,0)],kP [116,104,101,110] 0 [(true,5),(false,1),(false,0)],kP [99,97,108,108] 0 [(false,1),(true,7)],{ kP [98,108,111,99,107] 0 [(true,3),(false,0),(true,4)] with br:=true },kP [119,111,114,100] 1 [(true,0)]] [] [⟨2,0,2,1,0,0,[],true,lI 0⟩,⟨5,0,0,0,0,0,[5,6],true,lI 1⟩]
 |2=>Yy [[76],[73]] [kP [101,109,112,116,121] 0 [],kP [109,111,114,101] 0 [(false,0),(false,1)],{ kP [116,121,112,101] 1 [(true,1),(true,0),(true,7)] with dec:=2,kind:=1 },{ kP [112,111,105,110,116,101,114] 1 [(true,0),(true,2),(true,0),(true,7)] with dec:=3,kind:=2,uses:=1,allow:=2 },{ kP [112,114,111,100,117,99,116] 1 [(true,0),(true,2),(true,0),(true,7)] with uses:=1,allow:=5,rank:= -1 },{ kP [105,110,110,101,114] 1 [(true,3),(false,0),(true,4)] with opens:=true },{ kP [115,116,114,105,99,116] 1 [(true,0),(true,7)] with uses:=1,allow:=6,cond:=lI 0 }] [] []
 |3=>Yy [[66],[73]] [kP [111,110,101] 0 [(false,1)],{ kP [108,105,115,116] 0 [(false,0),(false,1)] with lay:=[(2,0,1)] },kP [119,111,114,100] 1 [(true,0)],{ kP [104,101,97,100] 1 [(true,5),(true,0),(false,0)] with lay:=[(3,0,2),(1,2,0)] },{ kP [108,105,110,101] 1 [(true,5),(false,0)] with lay:=[(4,0,1)],cond:=lI 0 }] [] []
 |4=>Yy [[83],[87],[86]] [kP [112,97,105,114] 0 [(false,1),(false,2)],{ kP [115,105,110,103,108,101] 1 [(true,0)] with rank:= -1 },kP [100,111,117,98,108,101] 1 [(true,0),(true,0)],kP [110,111,110,101] 2 [],kP [110,101,120,116] 2 [(true,0),(false,2)],{ kP [109,97,114,107] 2 [(true,1),(false,2)] with cond:=lI 1 }] [] [⟨3,0,0,0,1,0,[0],true,lI 0⟩,⟨4,0,0,0,2,0,[1],true,Sl (lI 1)⟩]
 |_=>Yy [[83],[79],[80]] [kP [97,108,108] 0 [(false,1),(true,0),(false,1),(false,2)],kP [110,111] 1 [],kP [121,101,115] 1 [(true,1)],kP [101,110,100] 2 [],{ kP [114,101,115,116] 2 [(true,1),(false,2)] with cond:=lI 0 }] [] []
def knZ (k i:Nat):Bool:=(decide (k=2)||decide (k=3))&&decide (i=1)
def SU (p:Pr) (k v lo hi:Nat):Bool:=(decide (k=0)&&decide (v=0))||(decide (1<=k)&&(match p.right[k-1]? with|some s=>s.1|none=>false)&&decide (lo<=v)&&decide (v<=hi))
def Xs (p:Pr):Bool:=decide (p.rank=0)&&decide (p.lay=[])&& !p.opens&&decide (p.dec=0)&&decide (p.kind=0)&&decide (p.uses=0)&&decide (p.allow=0)&&(match p.right with|[(true,_),(false,l),(true,_)]=>decide (l=p.left)|_=>false)
def KY (n:Nat) (t:Tr):Bool:=ew 3 t&&zg n t
def Qd (nc nt:Nat) (p:Pr):Bool:=
 decide (p.name≠[])&&decide (p.left<nt)&&p.right.all (fun s=>if s.1 then decide (s.2<9) else decide (s.2<nt))&&decide (p.right.length<=16)&&
 p.lay.all (fun c=>decide (1<=c.1/\ c.1<=4/\ c.2.1<p.right.length/\ c.2.2<p.right.length/\ (c.1=1 ->c.2.2=0)))&&decide (p.lay.length<=16)&&KY nc p.cond&&decide (-1<=p.rank/\ p.rank<=1)&&
 SU p p.dec p.kind 1 7&&SU p p.uses p.allow 0 255&&(!p.br||Xs p)
def uq {n:Nat} {t:Tr} (h:KY n t=true):yB n t:=by
 obtain⟨h1,h2⟩:=(av _ _).mp h;exact⟨h1,h2⟩
def Jj {p:Pr} {k v lo hi:Nat} (h:SU p k v lo hi=true):V7 p k v lo hi:=by
 unfold SU at h;simp only[g9,av,decide_eq_true_eq] at h;rcases h with h|⟨⟨⟨h1,h2⟩,h3⟩,h4⟩
 ·exact .inl h
 ·refine .inr ⟨h1,?_,h3,h4⟩;split at h2
  ·rename_i s e;obtain⟨b,j⟩:=s;obtain rfl:b=true:=h2;exact⟨j,e⟩
  ·cases h2
def Qe {nc nt:Nat} {p:Pr} (h:Qd nc nt p=true):zh nc nt p:=by
 unfold Qd at h;simp only[av,decide_eq_true_eq,fK] at h;obtain⟨⟨⟨⟨⟨⟨⟨⟨⟨⟨h1,h2⟩,h3⟩,h4⟩,h5⟩,h6⟩,h7⟩,h8⟩,h9⟩,h10⟩,h11⟩:=h;refine⟨h1,h2,fun s hs=> ?_,h4,h5,h6,uq h7,h8,Jj h9,Jj h10,fun hb=> ?_⟩
 ·have:=h3 s hs;split at this
  ·exact .inl ⟨by assumption,by simpa using this⟩
  ·exact .inr ⟨by simpa using (by assumption:¬s.1=true),by simpa using this⟩
 ·rw[hb] at h11;have h:Xs p=true:=h11;unfold Xs at h;simp only[av,decide_eq_true_eq,iS] at h;obtain⟨⟨⟨⟨⟨⟨⟨g1,g2⟩,g3⟩,g4⟩,g5⟩,g6⟩,g7⟩,g8⟩:=h;refine⟨g1,g2,g3,g4,g5,g6,g7,?_⟩;split at g8
  ·rename_i i l j e;have:l=p.left:=by simpa using g8
   subst this;exact⟨i,j,e⟩
  ·cases g8
def Qf (g:Gr) (f:Fi):Bool:=KY g.nc f.cond&&decide (f.toks.length<=16)&&(
 (decide ((f.kind=1∨f.kind=2)/\ f.left=0/\ f.tok=0/\ f.toks=[])&&mF g f)||
 (decide ((f.kind=3∨f.kind=4)/\ f.par=0/\ f.at_=0/\ f.child=0/\ f.tok=0/\ f.left<g.nts.length)&&decide (f.toks.length=1)&&f.toks.all fun t=>decide (t<9))||
 (decide (f.kind=5/\ f.par=0/\ f.at_=0/\ f.child=0/\ f.left=0/\ f.tok=0)&&decide (f.toks=[5,6])))
def Qg {g:Gr} {f:Fi} (h:Qf g f=true):vY g f:=by
 unfold Qf at h;simp only[av,decide_eq_true_eq,g9,fK] at h;obtain⟨⟨h1,h2⟩,h⟩:=h;refine⟨uq h1,?_,h2⟩;rcases h with (⟨⟨a,b,c,d⟩,e⟩|⟨⟨⟨a,b,c,d,e,i⟩,j⟩,k⟩)|⟨⟨a,b,c,d,e,i⟩,j⟩
 ·exact .inl ⟨a,b,c,d,AR e⟩
 ·refine .inr (.inl ⟨a,b,c,d,e,i,?_,k,?_⟩)
  ·intro e;rw[e] at j;cases j
  ·intro n x y _ e2;have:=(cW.1 e2).1;omega
 ·refine .inr (.inr ⟨a,b,c,d,e,i,?_,?_,?_⟩)
  ·rw[j];simp
  ·rw[j];decide
  ·rw[j];intro n x y e1 e2
   match n with
   |0=>simp at e1 e2;omega
   |n+1=>simp at e2
def Vc (g:Gr):Bool:=decide (g.nc<=3)&&KY g.nc g.fam&&decide ((ax g.fam).2≠0)&&decide (g.tc.length=11)&&g.tc.all (KY g.nc)&&decide (1<=g.nts.length/\ g.nts.length<=3)&&
 g.nts.all (fun s=>decide (s≠[]))&&decide g.nts.Nodup&&decide (g.prods.length<=100)&&g.prods.all (Qd g.nc g.nts.length)&&decide (g.prods.map (·.name)).Nodup&&decide (g.lvs.length<=100)&&
 g.lvs.all (fun l=>decide (l.assoc<=3)&&KY g.nc l.cond&&decide (l.prods.length<=100))&&(g.lvs.flatMap (·.prods)).all (fun x=>decide (x<g.prods.length))&&decide (g.lvs.flatMap (·.prods)).Nodup&&decide (g.fis.length<=100)&&g.fis.all (Qf g)
def EN {α:Type} {L:List α} (h:L.Nodup) {i j:Nat} {x:α} (hi:L[i]? =some x) (hj:L[j]? =some x):i=j:=
 (List.getElem?_inj (cW.1 hi).1 h).1 (hi.trans hj.symm)
def EO {g:Gr} (h:Vc g=true):cM g:=by
 unfold Vc at h;simp only[av,decide_eq_true_eq,fK] at h;obtain⟨⟨⟨⟨⟨⟨⟨⟨⟨⟨⟨⟨⟨⟨⟨⟨h1,h2⟩,h3⟩,h4⟩,h5⟩,h6⟩,h7⟩,h8⟩,h9⟩,h10⟩,h11⟩,h12⟩,h13⟩,h14⟩,h15⟩,h16⟩,h17⟩:=h;exact {
  nc:=h1,fam:=uq h2,famr:=h3,tcl:=h4,tc:=fun c hc=>uq (h5 c hc),ntl:=h6,ntn:=h7,ntd:=fun i j s hi hj=>EN h8 hi hj,pl:=h9,p:=fun p hp=>Qe (h10 p hp),
  pd:=fun i j p q hi hj e=>EN h11 (by rw[lX,hi];rfl) (by rw[lX,hj];exact congrArg some e.symm),ll:=h12,l:=fun l hl=>⟨(h13 l hl).1.1,uq (h13 l hl).1.2,(h13 l hl).2⟩,lp:=h14,ld:=h15,fl:=h16,f:=fun f hf=>Qg (h17 f hf) }
def ac4 (g:Gr) (Z:Nat ->Bool):Bool:=g.prods.all fun p=>(!Z p.left||p.right.any fun s=>s.1||Z s.2)&&(p.right.any (·.1)||(match p.right with|[]=>true|[x]=>decide (p.left<x.2)|[x,y]=>(decide (p.left<x.2)||Z y.2)&&(decide (p.left<y.2)||Z x.2)|_=>false))
def Jk {g:Gr} {Z:Nat ->Bool} (h:ac4 g Z=true):yG g Z:=by
 unfold ac4 at h;constructor
 ·intro p hp hz;have:=fK.1 h p hp;simp only[hz,av,gU,zx] at this;obtain⟨s,hs,e⟩:=re.1 this.1;exact⟨s,hs,by simpa using e⟩
 ·intro p hp ha i b hi;have:=(av _ _▸fK.1 h p hp).2;rw[g9] at this;rcases this with e|e
  ·obtain⟨s,hs,e⟩:=re.1 e;rw[ha s hs] at e;cases e
  ·split at e
   ·rename_i q;rw[q] at hi;simp at hi
   ·rename_i x q;rw[q] at hi
    match i with
    |0=>simp at hi;subst hi;exact .inl (by simpa using e)
    |i+1=>simp at hi
   ·rename_i x y q;rw[q] at hi ha;have hx:=ha x (by simp);have hy:=ha y (by simp);simp only[av,g9,decide_eq_true_eq] at e;obtain⟨x1,x2⟩:=x;obtain⟨y1,y2⟩:=y;obtain rfl:x1=false:=hx;obtain rfl:y1=false:=hy;rw[q]
    match i with
    |0=>
     simp at hi;subst hi;rcases e.1 with e|e
     ·exact .inl e
     ·exact .inr ⟨1,y2,by omega,rfl,e⟩
    |1=>
     simp at hi;subst hi;rcases e.2 with e|e
     ·exact .inl e
     ·exact .inr ⟨0,x2,by omega,rfl,e⟩
    |i+2=>simp at hi
   ·cases e
def ac5 (g:Gr):Bool:=g.prods.all fun p=>decide (p.name.length≠2∨p.name.head?≠some 112)
def EP {g:Gr} (h:ac5 g=true):uo g:=by
 intro p hp c e;have:=fK.1 h p hp;rw[e] at this;simp at this
def Vd {k:Nat} (h:k<6):cM (zo k)/\ yG (zo k) (knZ k)/\ uo (zo k)/\ 1<=(zo k).prods.length/\ (zo k).prods.length<=7/\ (zo k).lvs.length<=3/\ (zo k).fis.length<=3:=by
 rcases(show k=0∨k=1∨k=2∨k=3∨k=4∨k=5 by omega) with rfl|rfl|rfl|rfl|rfl|rfl<;>
  exact⟨EO (by decide+kernel),Jk (by decide+kernel),EP (by decide+kernel),by decide,by decide,by decide,by decide⟩
def Lh (n c:Nat):Gr:=⟨c,[[65],[66],[67]].drop c,dQ true 3,List.replicate 11 (dQ true 3),[[83],[80],[81]].take (n+1),[[83],[80],[81]].drop (n+1),[mV [102,105,114,115,116] 0 true [(true,0)]],[],[]⟩
def ac6 {n c:Nat} (h:n<3) (hc:c<4):cM (Lh n c)/\ yG (Lh n c) (fun _=>false)/\ uo (Lh n c):=by
 rcases(show n=0∨n=1∨n=2 by omega) with rfl|rfl|rfl<;>rcases(show c=0∨c=1∨c=2∨c=3 by omega) with rfl|rfl|rfl|rfl<;>
  exact⟨EO (by decide+kernel),Jk (by decide+kernel),EP (by decide+kernel)⟩
def oX (g:Gr) (b:Option Nat):Gr:=match b with|some b=>if (ax (nB b g.nc 0 0)).2=0 then g else { g with fam:=nB b g.nc 0 0 }|none=>g
def Xt {g:Gr} (ok:cM g) {b:Option Nat}:cM (oX g b)/\ (oX g b).prods=g.prods/\ (oX g b).lvs=g.lvs/\ (oX g b).fis=g.fis:=by
 unfold oX;split
 ·split
  ·exact⟨ok,rfl,rfl,rfl⟩
  ·exact⟨{ ok with fam:=⟨j6 _ _ _,wM ok.nc _ _ _ ω⟩,famr:=by assumption,f:=fun f hf=>(ok.f f hf).mono rfl rfl fun _ _ h=>h,p:=ok.p },rfl,rfl,rfl⟩
 ·exact⟨ok,rfl,rfl,rfl⟩
def cB (b:Nat):List AV:=[.i .u8 (b:Int)]
structure Qh where
 left:Nat
 nl:Bool
 bs:List Nat
 ii:Nat
 mark:Nat
structure Qi where
 k:Nat
 a:Nat
 b:Nat
 c:Nat
 ii:Nat
def Hv (x:Qh):List AV:=xC x.left (eR cB 1 x.nl x.bs) x.ii x.mark
def Hw (x:Qi):List AV:=Lg x.k x.a x.b x.c x.ii
structure Qh.OK (x:Qh):Prop where
 left:x.left<256
 bs:∀b∈x.bs,b<256
 ii:x.ii<256
 mark:x.mark<256
structure Qi.OK (x:Qi):Prop where
 k:x.k<256
 a:x.a<256
 b:x.b<256
 c:x.c<256
 ii:x.ii<256
structure gx where
 base:Nat
 n:Nat
 fnl:Bool
 fam:List Nat
 lnl:Bool
 lines:List Qh
 rnl:Bool
 rules:List Qi
structure gx.OK (x:gx):Prop where
 base:x.base<256
 n:x.n<256
 fam:∀b∈x.fam,b<256
 lines:∀l∈x.lines,l.OK
 rules:∀r∈x.rules,r.OK
def jK (x:gx):List AV:=[.i .u8 (x.base:Int),.i .u8 (x.n:Int),eR cB 1 x.fnl x.fam,eR Hv 4 x.lnl x.lines,eR Hw 5 x.rnl x.rules]
def sP (x:gx):AV:= .ag (jK x)
def gx.known (x:gx):Bool:=decide (x.base%8<6)
def gx.most (x:gx):Nat:=if x.known then 6 else 10
def g0X (x:gx):Gr:=if x.known then zo (x.base%8) else Lh (x.n/4%3) (x.n%4)
def Ve (x:gx):Gr:=oX (g0X x) x.fam.head?
def AT (kn:Bool) (g:Gr) (l:Qh):Gr:=jN g l.left l.ii l.mark l.bs kn
def yN (g:Gr) (r:Qi):Gr:=kJ g r.k r.a r.b r.c r.ii
def E5 (x:gx) (i:Nat):Gr:=(x.lines.take (min i x.most)).foldl (AT x.known) (Ve x)
def KZ (x:gx) (i:Nat):Gr:=(x.rules.take (min i 6)).foldl yN (E5 x x.most)
def rI (x:gx):Gr:=KZ x 6
def zX (x:gx):Nat ->Bool:=if x.known then knZ (x.base%8) else fun _=>false
structure GI (x:gx) (i j:Nat) (g:Gr):Prop where
 ok:cM g
 ac:yG g (zX x)
 nm:uo g
 p1:1<=g.prods.length
 pl:g.prods.length<=7+i
 ll:g.lvs.length<=3+j
 fl:g.fis.length<=3+j
def ac7 {x:gx}:GI x 0 0 (Ve x):=by
 have key:∀g,cM g/\ yG g (zX x)/\ uo g/\ 1<=g.prods.length/\ g.prods.length<=7/\ g.lvs.length<=3/\ g.fis.length<=3 ->GI x 0 0 (oX g x.fam.head?):=by
  rintro g ⟨h1,h2,h3,h4,h5,h6,h7⟩;obtain⟨f1,f2,f3,f4⟩:=Xt h1 (b:=x.fam.head?);exact⟨f1,⟨by rw[f2];exact h2.z,by rw[f2];exact h2.st⟩,by unfold uo;rw[f2];exact h3,by rw[f2];exact h4,by rw[f2];exact h5,by rw[f3];exact h6,by rw[f4];exact h7⟩
 refine key _ ?_;unfold g0X zX;cases hk:x.known with
 |true=>exact Vd (by simpa[gx.known] using hk)
 |false=>
  obtain⟨h1,h2,h3⟩:=ac6 (n:=x.n/4%3) (c:=x.n%4) ω ω;exact⟨h1,h2,h3,bK _,by show 1<=7;omega,by show 0<=3;omega,by show 0<=3;omega⟩
def ur {α:Type} {L:List α} {i:Nat} {a:α} (h:L[i]? =some a):L.take (i+1)=L.take i++[a]:=by
 rw[List.take_add_one,h];rfl
def Jl {x:gx} {i:Nat} {l:Qh} (hi:i<x.most) (h:x.lines[i]? =some l):E5 x (i+1)=AT x.known (E5 x i) l:=by
 unfold E5;rw[jp ω,jp ω,ur h,uz];rfl
def Jm {x:gx} {i:Nat} {l:Qi} (hi:i<6) (h:x.rules[i]? =some l):KZ x (i+1)=yN (KZ x i) l:=by
 unfold KZ;rw[jp ω,jp ω,ur h,uz];rfl
def wT {x:gx}:x.most<=10:=by unfold gx.most;split<;>omega
def Qj {x:gx} (ok:x.OK):∀i,i<=min x.lines.length x.most ->GI x i 0 (E5 x i)
 |0,_=>ac7
 |i+1,hi=>by
  have ih:=Qj ok i ω;have hm:=wT (x:=x);have hl:x.lines[i]? =some x.lines[i]:=ba ω;rw[Jl ω hl];have lo:=ok.lines _ (bJ hl);have pl:=ih.pl;obtain⟨h1,h2,h3,h4,h5,h6,h7⟩:=ST (left:=x.lines[i].left) (ii:=x.lines[i].ii) (bs:=x.lines[i].bs) (kn:=x.known) ih.ok ih.nm ω lo.mark;refine⟨h1,Qb ih.ac fun hk i=> ?_,h2,fq ih.p1 h3,fq h4 ω,?_,?_⟩
  ·unfold zX;rw[hk];rfl
  ·show(jN _ _ _ _ _ _).lvs.length<=_;rw[h6];exact ih.ll
  ·show(jN _ _ _ _ _ _).fis.length<=_;rw[h7];exact ih.fl
def Qk {x:gx} {i:Nat} (h:i=min x.lines.length x.most):E5 x i=E5 x x.most:=by
 unfold E5;rw[Bl,h];rcases Fh x.lines.length x.most with q|q
 ·rw[jp q,jp q,ow (bK _),ow q]
 ·rw[rM q,Bl]
def Ql {x:gx} {i:Nat} (h:i=min x.rules.length 6):KZ x i=rI x:=by
 unfold rI KZ;rw[Bl,h];rcases Fh x.rules.length 6 with q|q
 ·rw[jp q,jp q,ow (bK _),ow q]
 ·rw[rM q,Bl]
def Qm {x:gx} (ok:x.OK):∀j,j<=min x.rules.length 6 ->GI x 10 j (KZ x j)
 |0,_=>by
  have h:GI x (min x.lines.length x.most) 0 (E5 x x.most):=by
   have:=Qj ok _ (bK (min x.lines.length x.most))
   rwa [Qk rfl] at this
  have hm:=wT (x:=x);exact⟨h.ok,h.ac,h.nm,h.p1,fq h.pl ω,h.ll,h.fl⟩
 |j+1,hj=>by
  have ih:=Qm ok j ω;have hl:x.rules[j]? =some x.rules[j]:=ba ω;rw[Jm ω hl];have ll:=ih.ll;have fl:=ih.fl;obtain⟨h1,h2,h3,h4⟩:=Ji (k:=x.rules[j].k) (a:=x.rules[j].a) (b:=x.rules[j].b) (c:=x.rules[j].c) (ii:=x.rules[j].ii) ih.ok ih.p1 ω ω;refine⟨h1,Qc ih.ac ih.p1 ih.ok ω ω,?_,?_,?_,fq h3 ω,fq h4 ω⟩
  ·unfold uo yN;rw[h2];exact ih.nm
  ·show 1<=(kJ _ _ _ _ _ _).prods.length;rw[h2];exact ih.p1
  ·show(kJ _ _ _ _ _ _).prods.length<=_;rw[h2];exact ih.pl
def SV {x:gx} (ok:x.OK):cM (rI x)/\ yG (rI x) (zX x)/\ 1<=(rI x).prods.length:=by
 have h:=Qm ok _ (bK (min x.rules.length 6));rw[Ql rfl] at h;exact⟨h.ok,h.ac,h.p1⟩
def SW (x:Qh):(Hv x).length=4:=rfl
def SX (x:Qi):(Hw x).length=5:=rfl
def qO {n h} (b:Nat):aK n h (cB b)=some (cB b):=by simp only[cB,af,ay,dc]
def EQ {n h} (x:Qh):aK (n+1) h (Hv x)=some (Hv x):=by simp only[Hv,xC,af,ay,dc,aM qO]
def ER {n h} (x:Qi):aK n h (Hw x)=some (Hw x):=by simp only[Hw,Lg,af,ay,dc]
def j7 {n} (b:Nat):aJ.niceL n (cB b)=true:=by simp only[cB,bP,cA,gN,fW]
def ut {n} (x:Qh):aJ.niceL (n+1) (Hv x)=true:=by simp only[Hv,xC,bP,cA,gN,aT j7,fW]
def uu {n} (x:Qi):aJ.niceL n (Hw x)=true:=by simp only[Hw,Lg,bP,cA,gN,fW]
def Xu {nl:Bool} {bs:List Nat} (h:∀b∈bs,b<256):Su (eR cB 1 nl bs) bs:=by
 refine⟨h,?_⟩;cases bs with
 |nil=>
  cases nl
  ·exact .inr ⟨[],rfl,fun i b hi=>by simp at hi⟩
  ·exact .inl ⟨rfl,rfl⟩
 |cons b bs=>
  refine .inr ⟨(b::bs).flatMap cB,rfl,fun i x hi=> ?_⟩;have e:∀l:List Nat,l.flatMap cB=l.map fun b:Nat=>AV.i .u8 (b:Int):=fun l=>by
   induction l with
   |nil=>rfl
   |cons a l ih=>rw[nD,ih];rfl
  rw[e,lX,hi];rfl
def Qn {nl:Bool} {bs:List Nat} (h:∀b∈bs,b<256):WU (eR cB 1 nl bs) (bs.head?.getD 0):=by
 cases bs with
 |nil=>
  cases nl
  ·exact .nil _
  ·exact .sn
 |cons b bs=>exact .ds _ bs.length b (h b ij) rfl
section
variable {P:Program} {X:dy} {GL:T (List AV)} {fns:T aR}
def K0 {h1 h2:AH} (hs:∀o v l,h1.objs.get o=some (.cells v l) ->∃v',h2.objs.get o=some (.cells v' l)):∀(n:Nat),
 (∀a d,aH n h1 a=some d ->aH n h2 a=some d)/\ (∀l d,aK n h1 l=some d ->aK n h2 l=some d):=by
 have lst:∀n,(∀a d,aH n h1 a=some d ->aH n h2 a=some d) ->∀l d,aK n h1 l=some d ->aK n h2 l=some d:=by
  intro n one l;induction l with
  |nil=>intro d hd;rw[ay] at hd ⊢;exact hd
  |cons a l ih=>
   intro d hd;rw[af] at hd ⊢;split at hd
   ·rename_i x y e1 e2;rw[one _ _ e1,ih _ e2];exact hd
   ·cases hd
 intro n;induction n with
 |zero=>
  refine⟨?_,lst 0 ?_⟩<;>(intro a d hd;cases a<;>first|exact hd|(simp only[aH] at hd;cases hd))
 |succ n ih=>
  obtain⟨ih1,ihL⟩:=ih;have one:∀a d,aH (n+1) h1 a=some d ->aH (n+1) h2 a=some d:=by
   intro a d hd;cases a with
   |p o off=>
    simp only[aH] at hd ⊢;split at hd
    ·rename_i ver l hg;obtain⟨v',e⟩:=hs _ _ _ hg;rw[e];split at hd
     ·rename_i l' hl;dsimp only;rw[show fC (aH n h2) l=some l' from ihL _ _ hl];exact hd
     ·cases hd
    ·cases hd
   |sl o off len c e=>
    simp only[aH] at hd ⊢;split at hd
    ·rename_i ver l hg;obtain⟨v',e⟩:=hs _ _ _ hg;rw[e];split at hd
     ·rename_i l' hl;dsimp only;rw[show fC (aH n h2) l=some l' from ihL _ _ hl];exact hd
     ·cases hd
    ·cases hd
   |dp l off=>
    simp only[aH] at hd ⊢;split at hd
    ·rename_i l' hl;rw[show fC (aH n h2) l=some l' from ihL _ _ hl];exact hd
    ·cases hd
   |ds l off k e=>
    simp only[aH] at hd ⊢;split at hd
    ·rename_i l' hl;rw[show fC (aH n h2) l=some l' from ihL _ _ hl];exact hd
    ·cases hd
   |f fn x y=>
    simp only[aH] at hd ⊢;split at hd
    ·rename_i x' y' e1 e2;rw[show fC (aH n h2) x=some x' from ihL _ _ e1,show fC (aH n h2) y=some y' from ihL _ _ e2];exact hd
    ·cases hd
   |ifc t v=>
    simp only[aH] at hd ⊢;split at hd
    ·rename_i v' e;rw[ih1 _ _ e];exact hd
    ·cases hd
   |ag l=>
    simp only[aH] at hd ⊢;split at hd
    ·rename_i l' hl;rw[show fC (aH n h2) l=some l' from ihL _ _ hl];exact hd
    ·cases hd
   |tu l=>
    simp only[aH] at hd ⊢;split at hd
    ·rename_i l' hl;rw[show fC (aH n h2) l=some l' from ihL _ _ hl];exact hd
    ·cases hd
   |_=>first|exact hd|(simp only[aH] at hd;cases hd)
  exact⟨one,lst (n+1) one⟩
def ZG:List AV:=[.sn,.sn,.i .i64 0,.sn,.sn,.sn,.i .i64 0,.sn,.sn]
structure GAt (h:AH) (g:Gr) (c:List AV):Prop where
 len:c.length=9
 simp:cE c=true
 frz:∃l,(∀o∈l,3<o)/\ aK 8 (pZ h l) c=some (aL g)
def Qo (g:Gr):cE (aL g)=true:=by
 simp only[aL,gM,kw,uX,fz,iH];rfl
def GAt.of (h:AH) (g:Gr):GAt h g (aL g):=⟨rfl,Qo g,⟨[],(fun o h=>by cases h),D7 (n:=6) g⟩⟩
structure MI (x:gx) (g:Gr) (τ:T AV) (h:AH):Prop where
 c0:cG (h.objs.get 0)=some (jK x)
 c1:cG (h.objs.get 1)=some ZG
 c2:∃c,cG (h.objs.get 2)=some c/\ GAt h g c
 nx:4<=h.next
 t1:τ.get 1=some (.p 0 0)
 t2:τ.get 2=some (.p 1 0)
 t3:τ.get 3=some (.b x.known)
 t4:τ.get 4=some (.p 2 0)
 t5:τ.get 5=some (ι (x.most:Int))
def vu {n:Nat} {h:AH} {l d:List AV} (e:aK n h l=some d):aH (n+1) h (.ag l)=some (.ag d):=by
 have e1:aH (n+1) h (.ag l)=(match aK n h l with|some l=>some (AV.ag l)|none=>none):=rfl;rw[e1,e]
def Jn {h:AH} {l:List Nat} (hl:∀o∈l,3<o) {o:Nat} (ho:o<=3):(Cr h l).objs.get o=h.objs.get o:=by
 show(vX h l h.objs).get o=_;rw[qb,if_neg (fun q=>by have:=hl o q.1;omega)]
set_option maxHeartbeats 4000000 in
def K1 {C:cQ Prop} (S:aw P X GL fns) (E:gW P X GL fns C) (R:dr fns) (A:bh P X GL) (G:gf fns) (F:jM fns) {x:gx} (ok:x.OK) {i:Nat} (hi:i<min x.lines.length x.most) {S':List Fr} {K:K Prop} {τ:T AV} {h:AH}
 (L:MI x (E5 x i) τ h) (t7:τ.get 7=some (ι (i:Int))) (ih:∀τ' h',MI x (E5 x (i+1)) τ' h' ->τ'.get 7=some (ι ((i+1:Nat):Int)) ->dk C (.loop IX) S' K τ' h'):dk C IX (.s (.loop IX)::S') K τ h:=by
 obtain⟨n1,v1,ob⟩:=h;obtain⟨c0,c1,⟨c,c2,gc⟩,nx,t1,t2,t3,t4,t5⟩:=L;dsimp only at c0 c1 c2;have hl:x.lines[i]? =some x.lines[i]:=ba ω;rw[Jl ω hl] at ih;have lo:=ok.lines _ (bJ hl);generalize x.lines[i]=l at hl lo ih;have gi:=Qj ok i ω;generalize E5 x i=g at gi gc ih;have lp:((i:Int)<(x.lines.length:Int))=True:=eq_true ω;have lm:((i:Int)<(x.most:Int))=True:=eq_true ω;have lp':i<x.lines.length:=by omega
 have hm:=wT (x:=x);have i10:i<10:=by omega
 have sc:sub c 0 9=some c:=gI gc.len;have e4:sub (x.lines.flatMap Hv) (i*4) 4=some (Hv l):=aB SW hl (j:=0) (n:=4) ω;simp only[jK] at c0;simp only[Hv,xC] at e4;have nxn:aJ 64 (eR Hv 4 x.lnl x.lines)=true:=aT ut;refine TQ c0 c1 c2 t1 t2 t3 t4 t5 t7 lp lm lp' sc @aF e4 nxn ?_;obtain⟨fl,hfl,hd⟩:=gc.frz;have hob:∀o,o<=3 ->(vX ⟨n1,v1,ob⟩ fl ob).get o=ob.get o:=fun o ho=>Jn (h:=⟨n1,v1,ob⟩) hfl ho
 have lc:dq P X GL 17 [.ag c,.ag (Hv l),.b x.known] ⟨n1,v1,ob⟩ (.ag (aL (AT x.known g l))) ⟨n1,v1,vX ⟨n1,v1,ob⟩ fl ob⟩:=
  oQ S (KV (left:=l.left) (ii:=l.ii) (mk:=l.mark) (W:=eR cB 1 l.nl l.bs) S R A G F gi.ok gi.p1 (Xu lo.bs) (aT j7) lo.left lo.ii lo.mark) (n:=9) (l:=fl) (by
   have e1:aH 9 (pZ ⟨n1,v1,ob⟩ fl) (.ag c)=some (b9 g):=vu hd;rw[af,af,af,ay,e1,eO (n:=8) (EQ (n:=7) l)];rfl)
 have nt:(AT x.known g l)=AT x.known g l:=rfl;generalize AT x.known g l=g' at*;simp only[Hv,xC] at lc;generalize vX ⟨n1,v1,ob⟩ fl ob=ob' at*;have o0:=(congrArg cG (hob 0 ω)).trans c0;have o1:=(congrArg cG (hob 1 ω)).trans c1;have o2:=(congrArg cG (hob 2 ω)).trans c2;refine E.con lc ?_;have ov:∀L:List AV,L.length=9 ->sT L c=some L:=fun L hL=>by rw[ox,if_pos (by rw[gc.len,hL];exact bK _),Fl (by rw[gc.len,hL];exact bK _),ip]
 have ov':=ov (aL g') rfl;simp only[aL] at ov';refine F5 @aL.eq_1 o0 o1 o2 t1 t2 t3 t4 t5 t7 ov' @ar ?_;refine ih _ _ { c0:= ?_,c1:= ?_,c2:=⟨aL g',?_,.of _ _⟩,nx:=nx,t1:= ?_,t2:= ?_,t3:= ?_,t4:= ?_,t5:= ?_ } ?_;any_goals simp only[T.get_put,Nat.reduceEqDiff,reduceIte,t1,t2,t3,t4,t5]
 ·exact o0
 ·exact o1
 ·rfl
set_option maxHeartbeats 4000000 in
def K2 {C:cQ Prop} (S:aw P X GL fns) (E:gW P X GL fns C) (R:dr fns) (A:bh P X GL) (G:gf fns) (F:jM fns) {x:gx} (ok:x.OK) {i:Nat} (hi:i<min x.rules.length 6) {S':List Fr} {K:K Prop} {τ:T AV} {h:AH}
 (L:MI x (KZ x i) τ h) (t8:τ.get 8=some (ι (i:Int))) (ih:∀τ' h',MI x (KZ x (i+1)) τ' h' ->τ'.get 8=some (ι ((i+1:Nat):Int)) ->dk C (.loop IZ) S' K τ' h'):dk C IZ (.s (.loop IZ)::S') K τ h:=by
 obtain⟨n1,v1,ob⟩:=h;obtain⟨c0,c1,⟨c,c2,gc⟩,nx,t1,t2,t3,t4,t5⟩:=L;dsimp only at c0 c1 c2;have hl:x.rules[i]? =some x.rules[i]:=ba ω;rw[Jm ω hl] at ih;have lo:=ok.rules _ (bJ hl);generalize x.rules[i]=l at hl lo ih;have gi:=Qm ok i ω;generalize KZ x i=g at gi gc ih;have lp:((i:Int)<(x.rules.length:Int))=True:=eq_true ω;have lm:((i:Int)<6)=True:=eq_true ω;have lp':i<x.rules.length:=by omega
 have i10:i<10:=by omega
 have sc:sub c 0 9=some c:=gI gc.len;have e4:sub (x.rules.flatMap Hw) (i*5) 5=some (Hw l):=aB SX hl (j:=0) (n:=5) ω;simp only[jK] at c0;simp only[Hw,Lg] at e4;have nxn:aJ 64 (eR Hw 4 x.rnl x.rules)=true:=aT uu;refine TQ c0 c1 c2 t1 t2 t3 t4 t5 t8 lp lm lp' sc @aF e4 nxn ?_;obtain⟨fl,hfl,hd⟩:=gc.frz;have hob:∀o,o<=3 ->(vX ⟨n1,v1,ob⟩ fl ob).get o=ob.get o:=fun o ho=>Jn (h:=⟨n1,v1,ob⟩) hfl ho
 have lc:dq P X GL 18 [.ag c,.ag (Hw l)] ⟨n1,v1,ob⟩ (.ag (aL (yN g l))) ⟨n1,v1,vX ⟨n1,v1,ob⟩ fl ob⟩:=
  oQ S (Hu (k:=l.k) (a:=l.a) (b:=l.b) (c:=l.c) (ii:=l.ii) S R A G F gi.ok gi.p1 lo.k lo.a lo.b lo.c lo.ii) (n:=9) (l:=fl) (by
   have e1:aH 9 (pZ ⟨n1,v1,ob⟩ fl) (.ag c)=some (b9 g):=vu hd;rw[af,af,ay,e1,eO (n:=8) (ER (n:=8) l)];rfl)
 have nt:(yN g l)=yN g l:=rfl;generalize yN g l=g' at*;simp only[Hw,Lg] at lc;generalize vX ⟨n1,v1,ob⟩ fl ob=ob' at*;have o0:=(congrArg cG (hob 0 ω)).trans c0;have o1:=(congrArg cG (hob 1 ω)).trans c1;have o2:=(congrArg cG (hob 2 ω)).trans c2;refine E.con lc ?_;have ov:∀L:List AV,L.length=9 ->sT L c=some L:=fun L hL=>by rw[ox,if_pos (by rw[gc.len,hL];exact bK _),Fl (by rw[gc.len,hL];exact bK _),ip]
 have ov':=ov (aL g') rfl;simp only[aL] at ov';refine F5 @aL.eq_1 o0 o1 o2 t1 t2 t3 t4 t5 t8 ov' @ar ?_;refine ih _ _ { c0:= ?_,c1:= ?_,c2:=⟨aL g',?_,.of _ _⟩,nx:=nx,t1:= ?_,t2:= ?_,t3:= ?_,t4:= ?_,t5:= ?_ } ?_;any_goals simp only[T.get_put,Nat.reduceEqDiff,reduceIte,t1,t2,t3,t4,t5]
 ·exact o0
 ·exact o1
 ·rfl
set_option maxHeartbeats 4000000 in
def AU {C:cQ Prop} (S:aw P X GL fns) (E:gW P X GL fns C) (R:dr fns) (A:bh P X GL) (G:gf fns) (F:jM fns) {x:gx} (ok:x.OK) {D:AV} (hD: .ag (aL (rI x))=D) {τ:T AV} {h:AH}
 (L:MI x (Ve x) τ h):dk C (.seq IY (.seq Ar (.seq As .ret))) [] (KF (fun x h=>∃n,aH n h x=some D) [(2,some (9,true))]) τ h:=by
 have g20:E5 x 0=Ve x:=by unfold E5;rw[Fj];rfl
 have g30:KZ x 0=E5 x x.most:=by unfold KZ;rw[Fj];rfl
 refine Z0 ?_;refine aX E.ok (min x.lines.length x.most) (fun i τ h=>MI x (E5 x i) τ h/\ τ.get 7=some (ι (i:Int))) (fun i τ h hi L ih=>K1 S E R A G F ok hi L.1 L.2 fun τ' h' L' t'=>ih τ' h' ⟨L',t'⟩) ?_ _ _ ⟨?_,U0⟩
 ·rintro τ h ⟨L,t7⟩;rw[Qk rfl] at L;have nx2:∀τ':T AV,τ'.get 1=τ.get 1 ->τ'.get 2=τ.get 2 ->τ'.get 3=τ.get 3 ->τ'.get 4=τ.get 4 ->τ'.get 5=τ.get 5 ->dk C (.seq Ar (.seq As .ret)) [] (KF (fun x h=>∃n,aH n h x=some D) [(2,some (9,true))]) τ' h:=by
   intro τ' s1 s2 s3 s4 s5;refine Z0 ?_;refine aX E.ok (min x.rules.length 6) (fun i τ h=>MI x (KZ x i) τ h/\ τ.get 8=some (ι (i:Int))) (fun i τ h hi L ih=>K2 S E R A G F ok hi L.1 L.2 fun τ' h' L' t'=>ih τ' h' ⟨L',t'⟩) ?_ _ _ ⟨?_,U0⟩
   ·rintro τ ⟨n1,v1,ob⟩ ⟨L,t8⟩;rw[Ql rfl] at L;obtain⟨c0,c1,⟨c,c2,gc⟩,nx,t1,t2,t3,t4,t5⟩:=L;dsimp only at c0 c1 c2;simp only[jK] at c0;have sc:sub c 0 9=some c:=gI gc.len;have ov:sT c ZG=some c:=by rw[ox,if_pos (by rw[gc.len];decide),Fl (by rw[gc.len];decide),ip]
    simp only[ZG] at c1 ov;have fin:∃n,aH n ⟨n1,v1+1,ob.put 1 (.cells (v1+1) c)⟩ (.ag c)=some D:=by
     obtain⟨fl,hfl,hd⟩:=gc.frz;refine⟨9,?_⟩;rw[←hD];refine vu ((K0 (fun o v l hg=> ?_) 8).2 _ _ hd);rcases uZ ⟨n1,v1,ob⟩ fl .e o _ hg with ⟨h1,-,h3⟩|h
     ·have:=hfl o h1;refine⟨v,?_⟩;show(ob.put 1 _).get o=_;rw[T.get_put,if_neg ω];exact h3
     ·have e:(T.e:T aU).get o=none:=rfl;rw[e] at h;cases h
    by_cases h6:x.rules.length<=6
    ·rw[jp h6] at t8;have hz:((x.rules.length:Int)<(x.rules.length:Int))=False:=eq_false ω;refine Yq c0 c1 c2 t1 t2 t3 t4 t5 t8 hz sc ov gc.simp gc.len ?_;exact fin
    ·rw[rM ω] at t8;have hz:((6:Int)<(x.rules.length:Int))=True:=eq_true ω;have t8':τ.get 8=some (ι 6):=t8;refine Yq c0 c1 c2 t1 t2 t3 t4 t5 t8' hz sc ov gc.simp gc.len ?_;exact fin
   ·rw[g30];exact { c0:=L.c0,c1:=L.c1,c2:=L.c2,nx:=L.nx,t1:=by exact U2 s1 L.t1,t2:=by exact U2 s2 L.t2,t3:=by exact U2 s3 L.t3,t4:=by exact U2 s4 L.t4,t5:=by exact U2 s5 L.t5 }
  obtain⟨n1,v1,ob⟩:=h;obtain⟨c0,c1,⟨c,c2,gc⟩,nx,t1,t2,t3,t4,t5⟩:=L;dsimp only at c0 c1 c2;simp only[jK] at c0;have hm:=wT (x:=x);generalize hq:(ap.seq Ar (.seq As .ret))=nxt at nx2 ⊢;by_cases h6:x.lines.length<=x.most
  ·rw[jp h6] at t7;have hz:((x.lines.length:Int)<(x.lines.length:Int))=False:=eq_false ω;refine RV c0 c1 c2 t1 t2 t3 t4 t5 t7 hz ?_;apply nx2<;>exact U0
  ·rw[rM ω] at t7;have hz:((x.most:Int)<(x.lines.length:Int))=True:=eq_true ω;have hz2:((x.most:Int)<(x.most:Int))=False:=eq_false ω;refine WE c0 c1 c2 t1 t2 t3 t4 t5 t7 hz hz2 ?_;apply nx2<;>exact U0
 ·rw[g20];exact { c0:=L.c0,c1:=L.c1,c2:=L.c2,nx:=L.nx,t1:=by exact U1 L.t1,t2:=by exact U1 L.t2,t3:=by exact U1 L.t3,t4:=by exact U1 L.t4,t5:=by exact U1 L.t5 }
end
end
end AM
