import Derived.Test.YtdicmpmcdjdneaaGreatDoorN30
set_option linter.all false
set_option maxHeartbeats 8000000
namespace AM
open Go
noncomputable section
section
variable {P:Program} {X:aR} {GL:T (List AV)} {ae:T au}
def FrC (h:AH) (a d:AV):Prop:=(a= .sn/\ d= .sn)∨∃q n esz cells,a= .sl q 0 n none esz/\ cG (h.oB.get q)=some cells/\ kI.flatL 0 cells=true/\ d= .ds cells 0 n esz
def PV (p:AV×AH) (y:AV):Prop:=∃a d e,p.1= .tu [a,.i .i64 e]/\ FrC p.2 a d/\ y= .tu [d,.i .i64 e]
open Classical in
def PW (K:AV ->Prop) (p:AV×AH):AV:=if h:∃y,K y/\ PV p y then h.choose else .un
def bT1 {K p} (h:∃y,K y/\ PV p y):K (PW K p)/\ PV p (PW K p):=by
 grind[PW]
def bX9 (S:aT P X GL ae) {f args j h n} (ha:bJ n h args=some j) {Q} (R:du (tD P X GL ae) f j h0 Q) {K:AV ->Prop} (Y:∀x h1,Q x h1 ->∃y,K y/\ PV (x,h1) y):
 ∃l:List (AV×AH),(∀p∈l,K p.1/\ p.2=h)/\ P7 P X GL f args h l:=by
 obtain⟨n0,U⟩:=R;obtain⟨l,hl,U⟩:=(Nd Dm (n:=n0) (λc τ h α f O=>ya Dm n0 c τ h O) f j h0).fin (λp=>Q p.1 p.2) U;refine⟨l.map λp=>(PW K p,h),λp R=> ?_,λc w vs r gl hv=> ?_⟩;obtain⟨q,hq,rfl⟩:=sV.1 R;exact⟨(bT1 (Y q.1 q.2 (hl q hq))).1,rfl⟩;have r0:RS (dJ X) (c.only (fL w) GL) h0 w:=r.only gl S.gl (λb row hb=>Dl hb) (λb row hb=>by obtain⟨t,W,e⟩:=r.im b row hb;exact qS e);have I:bX (c.only (fL w) GL) j vs:=
  (yf (CR:=dJ X) (c:=c) (h:=h) (w:=w) (c2:=c.only (fL w) GL) (λo ver l hh=>r.obj _ _ hh) (λb row hb=>by obtain⟨t,W,e⟩:=r.im b row hb;exact qS e)
   (λo ver l hh row t W gY=>qS gY) n).2 _ _ _ ha hv
 obtain⟨fn,b,e1,e2,e3,e4⟩:=Db S.sound (Qh S.sound n0).1 U r0 (λg l h=>h) I;rw[Da e1 e2 e3];refine vN e4 λe w' Z=> ?_;cases e with
 |returned v'=>
  obtain⟨x,h1,c1,hm,G,J⟩:=Z;refine⟨_,sV.2 ⟨(x,h1),hm,rfl⟩,c.fix w w',Hb r G.keep.size (λb hb=>Ha G hb) G.keep.io,?_⟩;obtain⟨a,d,e,q1,q2,q3⟩:=(bT1 (Y x h1 (hl _ hm))).2;dsimp only at q1 q2;rw[q3];rw[q1] at J;cases J with
  |tu _ b1 V=>
   cases V with
   |cons _ _ va b2 g1 g2=>
    cases g2 with
    |cons _ _ vb b3 g3 g4=>
     cases g4;cases g3;refine .tu _ _ (.cons _ _ _ _ ?_ (.cons _ _ _ _ (.i _ _) .nil));rcases q2 with ⟨rfl,rfl⟩|⟨q,m,esz,cells,rfl,H,O,rfl⟩;cases g1;exact .sn
     ·cases g1 with
      |sl _ _ _ _ _ A k hdom hcap hle haa hz=>
       obtain⟨ver,hg⟩:∃ver,h1.oB.get q=some (.cells ver cells):=by
        revert H
        rcases h1.oB.get q with _|(_|_|_|_|_)<;>intro H<;>simp only[cG] at H;all_goals first|(cases H;done)|(injection H with H;subst H;exact⟨_,rfl⟩)
       have hh:dU c1 h1 q (.cells ver cells):=⟨hg,rfl,hdom⟩;obtain⟨row,t,lo,hi,vs,r1,r2,r3,r4,r5,r6⟩:=G.rs.obj _ _ hh;refine .ds cells 0 m esz _ _ k A row vs ?_ r5 ((OG 0).2 _ _ O r4) hle (λxt=>haa ω);show(match c.im (c1.ρ q).1 with|some row=>some row|none=>if w.heap.size<=(c1.ρ q).1 then fL w' (c1.ρ q).1 else none)=some row;rcases G.keep.new q _ hh with e|⟨o',ob',bT,_⟩;have hn:c.im (c1.ρ q).1=none:=by
        rcases H:c.im (c1.ρ q).1 with _|b0;rfl;have:=r.im_lt H;omega
       rw[hn];dsimp only;rw[aF e];exact qS r1;exact(rY bT).elim
 |_=>exact Z.elim
end
end
end AM
namespace AM
open Dg Go
noncomputable section
def DU (k:Nat):Nat:=if k<=2 then 0 else if k=3 then 2 else 1
def Ig (u:Nat ->Bool) (a:Nat):Nat ->Bool:=λj=>if j=a then true else u j
def RW (d:Dn) (i:Nat) (u j:Nat ->Bool):Prop:=d.k<=6/\ (d.s=[]∨d.k<=1)/\ (d.n=0∨d.k=4)/\ d.n<=1000/\
 ((
  DU d.k=0/\ d.a=0/\ d.b=0/\ j=u)∨(DU d.k=1/\ d.a<i/\ u d.a=false/\ d.b=0/\ j=Ig u d.a)∨
  (DU d.k=2/\ d.a<i/\ u d.a=false/\ d.b<i/\ Ig u d.a d.b=false/\ j=Ig (Ig u d.a) d.b))
def chk:List Dn ->Nat ->(Nat ->Bool) ->(Nat ->Bool) ->Prop
 |[],_,u,v=>u=v
 |d::D,i,u,v=>∃j,RW d i u j/\ chk D (i+1) j v
def am4:∀{A B i u v w},chk A i u v ->chk B (i+A.length) v w ->chk (A++B) i u w
 |[],B,i,u,v,w,h,h'=>by cases h;exact h'
 |d::A,B,i,u,v,w,⟨u1,h1,h2⟩,h'=>⟨u1,h1,am4 h2 (by rw[show i+1+A.length=i+(d::A).length by simp;omega];exact h')⟩
def Eg (u:Nat ->Bool) (b c:Nat):Nat ->Bool:=λj=>u j||decide (b<=j/\ j<c)
def bF9 {u b}:Eg u b b=u:=by funext j;unfold Eg;rw[ot ω];simp
def bG0 (x:Dt) b u (h:chk (x.po b) b u (Eg u b (b+x.sz-1))) (J:∀j,b<=j ->j<b+x.sz ->u j=false) d (I:DU d.k=1) (H:d.a=b+x.sz-1) (hb:d.b=0) (G:d.k<=6/\ (d.s=[]∨d.k<=1)/\ (d.n=0∨d.k=4)/\ d.n<=1000):chk (x.po b++[d]) b u (Eg u b (b+x.sz)):=by
 have O:=x.sz_pos;refine am4 h ?_;rw[Dt.po_len];refine⟨_,⟨G.1,G.2.1,G.2.2.1,G.2.2.2,.inr (.inl ⟨I,by omega,?_,hb,rfl⟩)⟩,?_⟩;rw[H];unfold Eg;rw[J _ ω ω,ot ω];rfl;rw[H];funext j;unfold Ig Eg;by_cases h1:j=b+x.sz-1;rw[aF h1,zG (p:=b<=j/\ j<b+x.sz) ω];simp;rw[aD h1];congr 1;exact decide_eq_decide.2 ω
def Qr {A}:∀(T:Dt) (b) (u),T.fit A ->(∀j,b<=j ->j<b+T.sz ->u j=false) ->chk (T.po b) b u (Eg u b (b+T.sz-1))
 | .tx s,b,u,_,hu=>⟨u,⟨by show(0:Nat)<=6;omega,.inr (by show(0:Nat)<=1;omega),.inl rfl,by show(0:Nat)<=1000;omega,.inl ⟨rfl,rfl,rfl,rfl⟩⟩,by show u=Eg u b b;rw[bF9]⟩
 | .ln s,b,u,_,hu=>⟨u,⟨by show(1:Nat)<=6;omega,.inr (bB _),.inl rfl,by show(0:Nat)<=1000;omega,.inl ⟨rfl,rfl,rfl,rfl⟩⟩,by show u=Eg u b b;rw[bF9]⟩
 | .hd,b,u,_,hu=>⟨u,⟨by show(2:Nat)<=6;omega,.inl rfl,.inl rfl,by show(0:Nat)<=1000;omega,.inl ⟨rfl,rfl,rfl,rfl⟩⟩,by show u=Eg u b b;rw[bF9]⟩
 | .sq x y,b,u,hf,hu=>by
  have G:=x.sz_pos;have H:=y.sz_pos;simp only[Dt.sz] at hu;refine am4 (v:=Eg (Eg u b (b+x.sz-1)) (b+x.sz) (b+x.sz+y.sz-1)) (am4 (Qr x b u hf.1 λj h1 h2=>hu j h1 ω) ?_) ?_;rw[Dt.po_len];refine Qr y (b+x.sz) _ hf.2 λj h1 h2=> ?_;unfold Eg;rw[hu j ω ω,ot ω];rfl;rw[dy,Dt.po_len,Dt.po_len];refine⟨_,⟨by show(3:Nat)<=6;omega,.inl rfl,.inl rfl,by show(0:Nat)<=1000;omega,.inr (.inr ⟨rfl,by show b+x.sz-1<_;omega,?_,by show b+x.sz+y.sz-1<_;omega,?_,rfl⟩)⟩,?_⟩;unfold Eg;dsimp only;rw[hu _ ω ω,ot ω,ot ω];rfl;unfold Ig Eg;dsimp only;rw[aD ω,hu _ ω ω,ot ω,ot ω];rfl;rw[show(Dt.sq x y).sz=x.sz+y.sz+1 from rfl];funext j;unfold Ig Eg;dsimp only;by_cases h1:j=b+x.sz+y.sz-1;rw[aF h1,zG (p:=b<=j/\ j<b+(x.sz+y.sz+1)-1) ω];simp;rw[aD h1];by_cases h2:j=b+x.sz-1;rw[aF h2,zG (p:=b<=j/\ j<b+(x.sz+y.sz+1)-1) ω];simp;rw[aD h2,Bool.or_assoc];congr 1;rw[←Bool.decide_or];exact decide_eq_decide.2 ω
 | .ne n x,b,u,hf,hu=>bG0 x b u (Qr x b u hf.2 λj h1 h2=>hu j h1 (by simp only[Dt.sz];omega)) (λj h1 h2=>hu j h1 (by simp only[Dt.sz];omega)) _ rfl rfl rfl ⟨by show(4:Nat)<=6;omega,.inl rfl,.inr rfl,hf.1⟩
 | .al x,b,u,hf,hu=>bG0 x b u (Qr x b u hf λj h1 h2=>hu j h1 (by simp only[Dt.sz];omega)) (λj h1 h2=>hu j h1 (by simp only[Dt.sz];omega)) _ rfl rfl rfl ⟨by show(5:Nat)<=6;omega,.inl rfl,.inl rfl,by show(0:Nat)<=1000;omega⟩
 | .gp x,b,u,hf,hu=>bG0 x b u (Qr x b u hf λj h1 h2=>hu j h1 (by simp only[Dt.sz];omega)) (λj h1 h2=>hu j h1 (by simp only[Dt.sz];omega)) _ rfl rfl rfl ⟨by show(6:Nat)<=6;omega,.inl rfl,.inl rfl,by show(0:Nat)<=1000;omega⟩
def QP {A} (h0:A []):∀(T:Dt) (b),T.fit A ->∀d∈T.po b,A d.s
 | .tx s,b,h,d,hd=>by rw[yC.1 hd];exact h
 | .ln s,b,h,d,hd=>by rw[yC.1 hd];exact h.1
 | .hd,b,h,d,hd=>by rw[yC.1 hd];exact h0
 | .sq x y,b,h,d,hd=>by
  rcases fO.1 hd with hd|hd;rcases fO.1 hd with hd|hd;exact QP h0 x b h.1 d hd;exact QP h0 y _ h.2 d hd;rw[yC.1 hd];exact h0
 | .ne n x,b,h,d,hd=>by
  rcases fO.1 hd with hd|hd;exact QP h0 x b h.2 d hd;rw[yC.1 hd];exact h0
 | .al x,b,h,d,hd| .gp x,b,h,d,hd=>by
  rcases fO.1 hd with hd|hd;exact QP h0 x b h d hd;rw[yC.1 hd];exact h0
def SL (b:Nat) (h:AH) (v:AV) (n esz:Nat) (cs:List AV):Prop:=(n=0/\ v= .sn/\ cs=[])∨∃q,v= .sl q 0 n none esz/\ b<=q/\ q<h.next/\ cG (h.oB.get q)=some cs/\ cs.length=n*esz
variable {h:AH} {n b esz:Nat}
def SL.up {h' v cs} (H:SL b h v n esz cs) (O:h.next<=h'.next) (old:∀j,b<=j ->j<h.next ->h'.oB.get j=h.oB.get j):SL b h' v n esz cs:=by
 rcases H with H|⟨q,h1,h2,G,I,J⟩;exact .inl H;exact .inr ⟨q,h1,h2,by omega,by rw[old q h2 G];exact I,J⟩
def SL.nice {v cs} (H:SL b h v n esz cs):AM.nice 64 v=true/\ ew v=true/\ cellsOf v=[v]/\ cellsO v=some [v]/\∀h,kg h v= .v (ι (n)) h:=by
 rcases H with ⟨rfl,rfl,rfl⟩|⟨q,rfl,-⟩;exact⟨rfl,rfl,rfl,rfl,λ_=>rfl⟩;exact⟨rfl,rfl,rfl,rfl,λ_=>rfl⟩
def SL.ne {v cs} (H:SL b h v n esz cs) {j} (G:j<b):∀n c,v≠.sl j 0 n c esz:=λm c e=>by
 rcases H with ⟨-,h,-⟩|⟨q,h,h2,-⟩;rw[h] at e;cases e;rw[h] at e;cases e;omega
def SL.push {v o2 cs new} (H:SL b h v n esz cs) (hb:b<=h.next) (c2:cG (h.oB.get o2)=some new) (G:new.length=esz) (J:wV new=true) (U:n+1<=1048576):
 ∃h',gU h esz v (.sl o2 0 1 (some 1) esz)= .v (.sl h.next 0 (n+1) none esz) h'/\ h'.next=h.next+1/\ SL b h' (.sl h.next 0 (n+1) none esz) (n+1) esz (cs++new)/\∀j,j<h.next ->(∀n c,v≠.sl j 0 n c esz) ->h'.oB.get j=h.oB.get j:=by
 rcases H with ⟨rfl,rfl,rfl⟩|⟨q,rfl,h2,W,O,I⟩;refine⟨_,by rw[IE,c2,IF,aF ⟨G,J⟩],rfl,.inr ⟨h.next,rfl,hb,qI _,?_,by simp[G]⟩,λj R _=> ?_⟩;show cG ((h.oB.put h.next _).get h.next)=_;rw[T.get_put,aF rfl];rfl;show(h.oB.put h.next _).get j=_;rw[T.get_put,aD ω];refine⟨_,by rw[IE,c2,Ra,aF ⟨G,J⟩,O,Rb,aF ⟨I,U⟩],rfl,.inr ⟨h.next,rfl,hb,qI _,?_,by rw[dy,I,G,vE]⟩,λj R V=> ?_⟩;show cG (((h.oB.put q _).put h.next _).get h.next)=_;rw[T.get_put,aF rfl];rfl;show((h.oB.put q _).put h.next _).get j=_;rw[T.get_put,aD ω,T.get_put,aD (λe=>V n none (by rw[e]))]
def A8 (dv bp:AV) (g:Gr) (nv gv:AV) (a l:Nat) (mk:AV):List AV:=dv::bp::(bx g++[nv,gv,.i .i64 (a:Int),.i .i64 (l:Int),mk])
structure BX where
 m0:Nat
 o:Nat
 ob0:T bC
 bp:AV
 g:Gr
 nv:AV
 gv:AV
 mv:AV
 pr:Nat ->Option (List AV)
structure yx (x:BX) (h:AH) (D:List Dn) (a l:Nat):Prop where
 lo:x.o<x.m0
 nx:x.m0<=h.next
 ob:∃dv,SL x.m0 h dv D.length 5 (D.flatMap yV)/\ cG (h.oB.get x.o)=some (A8 dv x.bp x.g x.nv x.gv a l x.mv)/\∀j cs,x.pr j=some cs ->x.m0<=j/\ j<h.next/\ cG (h.oB.get j)=some cs/\∀n c,dv≠.sl j 0 n c 5
 old:∀j,j<x.m0 ->j≠x.o ->h.oB.get j=x.ob0.get j
def bY0 {n} d:nice.niceL n (yV d)=true:=by simp only[yV,Bg,iq,j9,ye,A7]
section
variable {P:Program} {X:aR} {GL:T (List AV)} {ae:T au} {C:aK Prop} (E:Sem P X GL ae C) (F:bz8 ae) {x:BX} {h:AH} {D:List Dn} {a l:Nat}
include E F
theorem I2 (H:yx x h D a l) (hD:D.length+1<=1048576) {d} k (hk:∀h',yx x h' (D++[d]) a l ->k (ι (D.length:Int)) h'):du C 66 [.p x.o 0,.ag (yV d)] h k:=by
 obtain⟨lo,nx,⟨dv,hd,R,pk⟩,old⟩:=H;obtain⟨n0,v0,ob⟩:=h;dsimp only at nx R old pk;obtain⟨r1,r2,r3,r4,-⟩:=hd.nice;have Y:(x.o=n0)=False:=cE;have Z:(x.o=n0+1)=False:=cE;have bT:=R;obtain⟨h2,pe,pn,b0,I⟩:=SL.push (o2:=n0+1) (new:=yV d) (hd.up (h':=⟨n0+1+1,v0+1,(ob.put n0 (.cells v0 (yV d))).put (n0+1) (.cells v0 (yV d))⟩) (by show n0<=n0+1+1;omega) λj _ G=>(by
  have m9:j<n0:=G;have U:(j=n0)=False:=cE;have V:(j=n0+1)=False:=cE;exact U0)) (by show x.m0<=n0+1+1;omega) (by exact U0) rfl rfl hD
 obtain⟨W,v2,O⟩:=h2;have b1:W=n0+1+1+1:=pn;have c2:cG (O.get x.o)=some (A8 dv x.bp x.g x.nv x.gv a l x.mv):=by
  rw[show O.get x.o=_ from I x.o (by show x.o<n0+1+1;omega) (hd.ne lo)];exact wW (ec Y Z) bT
 simp only[A8,bx,gw,gx] at R c2;simp only[yV] at pe;have s1:aY .sub (ι ((D.length+1:Nat):Int)) (ι 1)=some (ι (D.length:Int)):=qV (a:=D.length+1) (b:=1) ω;refine E.bS (F.f 66) (Y6 @yV.eq_1 R @tM pe c2 s1 ?_);refine hk _ ⟨lo,?_,⟨.sl (n0+1+1) 0 (D.length+1) none 5,?_,?_,λj cs G=> ?_⟩,λj G J=> ?_⟩;show x.m0<=W;omega;rw[dy,lF,Bd,pO];refine b0.up (bB _) λj G _=> ?_;have w:(j=x.o)=False:=cE;exact U0;simp only[A8,bx,gw,gx];exact U0;obtain⟨j1,j2,j3,j4⟩:=pk j cs G;have w:(j=x.o)=False:=cE;have U:(j=n0)=False:=cE;have V:(j=n0+1)=False:=cE;refine⟨j1,by show j<W;omega,?_,λn c e=>by cases e;omega⟩;have e:cG (O.get j)=some cs:=by
  rw[show O.get j=_ from I j (by show j<n0+1+1;omega) j4];exact wW (ec U V) j3
 exact wW w e;have w:(j=x.o)=False:=dQ J;have U:(j=n0)=False:=cE;have V:(j=n0+1)=False:=cE;refine wW w ((I j (by show j<n0+1+1;omega) (hd.ne G)).trans ?_);exact wW (ec U V) (old j G J)
end
instance:Nc yV:=⟨λ_ _=>bY0 _⟩
attribute [go_sem] bY0
def DL:Nat ->Option Dt
 |0=>none
 |n+1=>jn (DL n) (some .hd)
def bT2:∀n,uT (DL n)<=2*n
 |0=>bB _
 |n+1=>by have:=HH (DL n) (some .hd);have:=bT2 n;simp only[DL,uT,Dt.sz] at*;omega
variable {i:Nat}
def bG1 {T}:(A9 i (some T)<0)=False:=dQ (by show¬(((i+T.sz-1:Nat):Int)<0);omega)
section
variable {P:Program} {X:aR} {GL:T (List AV)} {ae:T au} {C:aK Prop} (E:Sem P X GL ae C) (F:bz8 ae) {x:BX} {h:AH} {D:List Dn} {a l:Nat}
include E F
theorem Qt (H:yx x h D a l) (j:D.length+1<=1048576) {s} k (G:∀h',yx x h' (D++yz D.length (some (.tx s))) a l ->k (ι (A9 D.length (some (.tx s)))) h'):du C 32 [.p x.o 0,.s s] h k:=by
 refine E.bS (F.f 32) (Y0 ?_);refine E.run (I2 E F H j (d:=⟨0,s,0,0,0⟩) _ λh' H'=> ?_);refine Y0 ?_;exact G h' H'
theorem bT3 (H:yx x h D a l) (j:D.length+1<=1048576) {s} k (G:∀h',yx x h' (D++yz D.length (some (.ln s))) a l ->k (ι (A9 D.length (some (.ln s)))) h'):du C 64 [.p x.o 0,.s s] h k:=by
 refine E.bS (F.f 64) (Y0 ?_);refine E.run (I2 E F H j (d:=⟨1,s,0,0,0⟩) _ λh' H'=> ?_);refine Y0 ?_;exact G h' H'
theorem I3 {i A B} (H:yx x h (D++yz i A++yz (i+uT A) B) a l) (hi:D.length=i) (G:i+uT A+uT B+1<=1048576) k (j:∀h',yx x h' (D++yz i (jn A B)) a l ->k (ι (A9 i (jn A B))) h'):du C 30 [.p x.o 0,.i .i64 (A9 i A),.i .i64 (A9 (i+uT A) B)] h k:=by
 rw[E.cB (F.f 30)];rcases A with _|A;refine Y0 ?_;refine j h ?_;simpa[yz,uT,jn] using H;rcases B with _|B;refine Y1 (@bG1 i A) ?_;refine j h ?_;simpa[yz,uT,jn] using H;refine Y2 (@bG1 i A) (@bG1 (i+uT (some A)) B) ?_;have e:(D++yz i (some A)++yz (i+uT (some A)) (some B)).length=i+A.sz+B.sz:=by simp only[dy,yz,uT,Dt.po_len];omega
 refine E.run (I2 E F H (by rw[e];exact G) (d:=⟨3,[],0,i+A.sz-1,i+A.sz+B.sz-1⟩) _ λh' H'=> ?_);rw[e];refine Y0 ?_;have e2:A9 i (jn (some A) (some B))=((i+A.sz+B.sz:Nat):Int):=by show((i+(A.sz+B.sz+1)-1:Nat):Int)=_;omega
 rw[e2] at j;exact j h' (by simp only[jn,yz,Dt.po,←hZ];exact H')
theorem an5 {n} (H:yx x h D a l) (I:D.length+2*n+1<=1048576) k (j:∀h',yx x h' (D++yz D.length (DL n)) a l ->k (ι (A9 D.length (DL n))) h'):du C 31 [.p x.o 0,.i .i64 (n)] h k:=by
 refine E.bS (F.f 31) (Y0 ?_);refine fj E.ok n (λi τ h=>τ.get 0=some (.p x.o 0)/\ τ.get 5=some (ι (A9 D.length (DL i)))/\ τ.get 6=some (ι (n:Int))/\ τ.get 7=some (ι (i:Int))/\ yx x h (D++yz D.length (DL i)) a l) ?_ ?_ _ _ ⟨?_,?_,?_,?_,?_⟩;rintro i τ h hi ⟨t0,t5,t6,t7,H⟩ G;have sz:=bT2 i;have le:(D++yz D.length (DL i)).length=D.length+uT (DL i):=by
  rw[dy];cases DL i with
  |none=>rfl
  |some T=>show _+(T.po _).length=_;rw[Dt.po_len];rfl
 refine Y4 t0 t5 t6 t7 ?_;refine E.run (I2 E F H (by rw[le];omega) (d:=⟨2,[],0,0,0⟩) _ λh' H'=> ?_);rw[le];refine Y4 t0 t5 t6 t7 ?_;refine E.run (I3 E F (D:=D) (A:=DL i) (B:=some .hd) H' rfl (by show D.length+uT (DL i)+1+1<=_;omega) _ λh2 H2=> ?_);refine Y1 t7 ?_;refine G _ _ ⟨?_,?_,?_,?_,H2⟩;exact U1 t0;(iterate 3 exact U1 t6);rintro τ h ⟨t0,t5,t6,t7,H⟩;refine Y3 t5 t6 t7 ?_;exact j h H;(iterate 4 exact U0);simpa[DL,yz] using H
end
def yx.up {x h h' D a l} (H:yx x h D a l) (O:h.next<=h'.next) (old:∀j,j<h.next ->h'.oB.get j=h.oB.get j):yx x h' D a l:=by
 obtain⟨lo,nx,⟨dv,hd,R,Z⟩,J⟩:=H;exact⟨lo,by omega,⟨dv,hd.up O λj _ G=>old j G,by rw[old x.o ω];exact R,λj cs G=>by obtain⟨U,V,W,Y⟩:=Z j cs G;exact⟨U,by omega,by rw[old j V];exact W,Y⟩⟩,λj G I=>by rw[old j ω];exact J j G I⟩
def yx.box {x n v ob D a l} (H:yx x ⟨n,v,ob⟩ D a l) cs:yx x ⟨n+1,v,ob.put n cs⟩ D a l:=
 H.up (nD n) λj G=>by
  have I:j<n:=G;exact U0
def bG2 (s:List Nat):Prop:=s=[]∨s=[32]
structure I8 (T:Option Dt):Prop where
 f:DP bG2 T
 g:DH T=[]
 w:jf T<=1
 z:uT T<=8
def bT4:∀{n},n<=4 ->I8 (DL n)
 |0,_=>⟨trivial,rfl,by decide,by decide⟩
 |1,_=>⟨trivial,rfl,by decide,by decide⟩
 |2,_=>⟨⟨trivial,trivial⟩,rfl,by decide,by decide⟩
 |3,_=>⟨⟨⟨trivial,trivial⟩,trivial⟩,rfl,by decide,by decide⟩
 |4,_=>⟨⟨⟨⟨trivial,trivial⟩,trivial⟩,trivial⟩,rfl,by decide,by decide⟩
 |n+5,h=>by omega
section
variable {P:Program} {X:aR} {GL:T (List AV)} {ae:T au} {C:aK Prop} (E:Sem P X GL ae C) (F:bz8 ae) {x:BX} {h:AH} {D:List Dn} {a l:Nat}
include E F
theorem bY1 (H:yx x h D a l) (J:D.length+10<=1048576) {r s} (G:bG2 s) {f} (I:f=24∨f=25∨f=26∨f=27∨f=28/\ 0<=r.n/\ r.n<=3) k
 (j:∀T h',I8 T ->yx x h' (D++yz D.length T) a l ->k (ι (A9 D.length T)) h'):du C f [.p x.o 0,.ag (uC r),.s s] h k:=by
 obtain⟨n0,v0,ob⟩:=h;have H1:=H.box (.cells v0 (uC r));simp only[uC] at H1;rcases I with rfl|rfl|rfl|rfl|⟨rfl,r0,r3⟩;rw[E.cB (F.f 24)];have e0:aY .eql (.s []) (.s [])=some (.b true):=rfl;have e1:aY .eql (.s [32]) (.s [])=some (.b false):=rfl;rcases G with rfl|rfl;refine Y2 @uC.eq_1 e0 ?_;exact j none _ ⟨trivial,rfl,by decide,by decide⟩ (by simpa[yz] using H1);refine Y2 @uC.eq_1 e1 ?_;refine E.run (Qt E F H1 ω _ λh' H'=> ?_);refine Y0 ?_;exact j (some (.tx [32])) h' ⟨.inr rfl,rfl,by decide,by decide⟩ H';refine E.bS (F.f 25) (Y1 @uC.eq_1 ?_);refine E.run (Qt E F H1 ω _ λh' H'=> ?_);refine Y0 ?_;exact j (some (.tx [32])) h' ⟨.inr rfl,rfl,by decide,by decide⟩ H';refine E.bS (F.f 26) (Y1 @uC.eq_1 ?_);refine E.run (bT3 E F H1 ω _ λh' H'=> ?_);refine Y0 ?_;exact j (some (.ln s)) h' ⟨⟨G,by rcases G with rfl|rfl<;>rfl⟩,rfl,by rcases G with rfl|rfl<;>decide,by show(1:Nat)<=8;omega⟩ H';refine E.bS (F.f 27) (Y1 @uC.eq_1 ?_);refine E.run (bT3 E F H1 ω _ λh' H'=> ?_);refine Y0 ?_;exact j (some (.ln [32])) h' ⟨⟨.inr rfl,rfl⟩,rfl,by decide,by decide⟩ H';rw[E.cB (F.f 28)];obtain⟨p,v,O,n⟩:=r;dsimp only at*;obtain⟨m,rfl⟩:∃m:Nat,n=(m:Int):=⟨n.toNat,by omega⟩;refine Y1 @uC.eq_1 ?_;refine E.run (an5 E F (n:=m+1) H1 ω _ λh' H'=> ?_);refine Y0 ?_;exact j _ h' (bT4 ω) H'
end
def Jb (o:Nat):List (Int×AV):=[(0,.f 24 [.p o 0] []),(1,.f 25 [.p o 0] []),(2,.f 26 [.p o 0] []),(3,.f 27 [.p o 0] []),(4,.f 28 [.p o 0] []),(5,.f 28 [.p o 0] [])]
structure Ia (x:BX) (L:List Ru) (N:List Tn) (Gp:List Bool):Prop where
 g:oy x.g
 nv:x.nv=eR fG 4 true N
 nl:1<=N.length/\ N.length<=40
 gv:∃go,x.gv= .sl go 0 Gp.length (some Gp.length) 1/\ go<x.m0/\ go≠x.o/\ cG (x.ob0.get go)=some (Gp.map .b)
 gl:Gp.length=Fo.nlv N
 rv:∀r∈L,eP x.g r=true
 bk:∃b Sp Ns Al Ke,kM L Sp Ns Al Ke/\ x.bp= .p (b+5) 0/\ b+6<=x.m0/\ (∀j,j<=5 ->b+j≠x.o)/\ cG (x.ob0.get (b+5))=some [.m (b+1),.m (b+2),.m (b+3),.m (b+4)]/\
  mG (x.ob0.get (b+1))=mX eJ nC Sp/\ mG (x.ob0.get (b+2))=mX eJ kK Ns/\ mG (x.ob0.get (b+3))=mX kK AV.b Al/\ mG (x.ob0.get (b+4))=mX kK AV.b Ke
 mv:∃mo,x.mv= .m mo/\ mo<x.m0/\ mo≠x.o/\ mG (x.ob0.get mo)=mX kK id (Jb x.o)
def HK {α:Type} {l:List α} {a r} (h:l.drop i=a::r):l[i]? =some a:=by
 have:=congrArg (λl=>l[0]?) h;simpa using this
def HP {α:Type} {l:List α} {a r} (h:l.drop i=a::r):l.drop (i+1)=r:=by
 rw[←ud,h];rfl
section
variable {P:Program} {X:aR} {GL:T (List AV)} {ae:T au} {C:aK Prop} (E:Sem P X GL ae C) (F:bz8 ae) {x:BX} {h:AH} {D:List Dn} {a l:Nat} {L:List Ru} {N:List Tn} {Gp:List Bool} (B:Ia x L N Gp)
include E F B
theorem bY2 (H:yx x h D a l) (Z:a<=N.length) k (V:∀b h',h.next<=h'.next ->(∀j,j<h.next ->h'.oB.get j=h.oB.get j) ->k (.b b) h'):du C 211 [.p x.o 0] h k:=by
 obtain⟨-,-,⟨dv,-,U,-⟩,-⟩:=id H;rw[B.nv] at U;have nl:=B.nl;simp only[A8,bx,gw,gx] at U;have hs:∀(τ:T AV) h,az C τ (.t 8)=eR fG 4 true N ->az C τ (.t 12)= .i .i64 (a:Int) ->step (az C τ) h (.slc 4 (.t 8) (some (.t 12)) none none)= .v (.ds (N.flatMap fG) (0+a*4) (N.length-a) 4) h:=λτ h h1 h2=>by
  refine SU (k:=a) ?_ (by rw[h2];exact tC) Z;rw[h1];exact BL (λe=>by rw[e] at nl;simp at nl)
 refine E.bS (F.f 211) (Z2 U hs ?_);refine fj E.ok (N.length-a) (λi τ h'=>(h.next<=h'.next/\∀j,j<h.next ->h'.oB.get j=h.oB.get j)/\ τ.get 13=some (.ds (N.flatMap fG) (0+a*4) (N.length-a) 4)/\ τ.get 14=some (ι ((N.length-a:Nat):Int))/\ τ.get 15=some (ι (i:Int))) ?_ ?_ _ _ ⟨⟨bB _,λ_ _=>rfl⟩,?_,?_,?_⟩;rintro i τ ⟨n0,v0,ob⟩ hi ⟨⟨R,old⟩,I,G,J⟩ ih;have Y:N[a+i]? =some N[a+i]:=ef ω;generalize N[a+i]=t at Y;have e4:sub (N.flatMap fG) (a*4+i*4) 4=some (fG t):=by
  have:=cW Uo Y (j:=0) (n:=4) ω;rw[show a*4+i*4=(a+i)*4+0 by omega];exact this
 simp only[fG] at e4;dsimp only at R old;have H2:∀j,j<h.next ->((ob.put n0 (.cells v0 [.i .i64 0,.i .i64 0,.s [],.sn])).put n0 (.cells (v0+1) (fG t))).get j=h.oB.get j:=λj hj=>by
  have w:(j=n0)=False:=cE;exact wW w (old j hj)
 simp only[fG] at H2;by_cases W:t.prod<0;have O:(t.prod<0)=True:=fq W;refine Z5 I G J e4 O ?_;exact V _ _ (Nat.le_succ_of_le R) H2;have O:(t.prod<0)=False:=dQ W;refine Z5 I G J e4 O ?_;refine ih _ _ ⟨⟨Nat.le_succ_of_le R,H2⟩,?_,?_,?_⟩;exact U1 I;exact U1 G;exact U0;rintro τ h' ⟨⟨R,old⟩,I,G,J⟩;refine Y2 G J ?_;exact V _ _ R old;(iterate 3 exact U0)
theorem bY3 (H:yx x h D a l) {q k:Nat} {p} (O:x.g.pR[q]? =some p) (b0:k<=p.right.length) {f} (hf:Fo.ok x.g (p.right.drop k) f) {R} (hN:N.drop a=f.fl++R) K (Z:K (.b (decide (0<f.lv))) h):du C 110 [.p x.o 0,.i .i64 (q),.i .i64 (k)] h K:=by
 obtain⟨-,-,⟨dv,-,W,-⟩,-⟩:=id H;rw[B.nv] at W;obtain⟨n0,v0,ob⟩:=h;dsimp only at W;have pl:=B.g.pl;have e2:∀{q:Nat} {p:Pr},x.g.pR[q]? =some p ->sub (x.g.pR.flatMap aM) (q*13+2) 1=some [eR dO 2 p.rn p.right]:=λO=>cW kr O (j:=2) (n:=1) ω;have el:=λ{q:Nat} {p:Pr} (O:x.g.pR[q]? =some p)=>(eC.1 O).1;have r8:=λ{q:Nat} {p:Pr} (O:x.g.pR[q]? =some p)=>(B.g.p p (dI O)).len;have sb:aY .sub (ι (p.right.length:Int)) (ι (k:Int))=some (ι ((p.right.length-k:Nat):Int)):=qV ⟨b0,by have:=r8 O;omega⟩;have s1:=e2 O;have s2:=el O;simp only[A8,bx,gw,gx] at W;have nl:=B.nl;refine E.bS (F.f 110) (Z3 W s1 sb ?_);refine fj E.ok f.fl.length (λi τ h'=>h'=⟨n0,v0,ob⟩/\ τ.get 0=some (.p x.o 0)/\∃G U,Fo.ok x.g G U/\ N.drop (a+i)=U.fl++R/\ τ.get 7=some (ι (G.length:Int))/\ τ.get 8=some (ι ((a+i:Nat):Int))/\ U.lv=f.lv/\ U.fl.length+i=f.fl.length/\ G.length+i*8<=8+i*16) ?_ ?_ _ _ ⟨rfl,?_,p.right.drop k,f,hf,hN,?_,?_,rfl,rfl,by have:=r8 O;rw[sU];omega⟩;rintro i τ _ hi ⟨rfl,t0,G,U,I,V,t7,t8,hl,hi',J⟩ ih;cases U with
 |nil=>simp[Fo.fl] at hi';omega
 |lf t r=>
  rcases G with _|⟨s,G⟩;exact I.elim;have Y:N[a+i]? =some t:=HK V;have aV:=(eC.1 Y).1;have e1:sub (N.flatMap fG) ((a+i)*4) 1=some [.i .i64 t.prod]:=by
   have:=cW Uo Y (j:=0) (n:=1) ω;simpa[fG] using this
  have hp:(t.prod<0)=True:=fq (by have:=I.1.1;omega);have c0:((0:Int)<((s::G).length:Int))=True:=fq (by simp);have c1:aY .sub (ι ((s::G).length:Int)) (ι 1)=some (ι (G.length:Int)):=qV (a:=G.length+1) (b:=1) (by simp at J;omega);refine Z9 t0 t7 t8 W c0 c1 e1 hp @bG ?_;have:decide (0<f.lv)=true:=zG (by rw[←hl];simp only[Fo.lv];omega);rw[this] at Z;exact Z
 |nd t kd r=>
  rcases G with _|⟨s,G⟩;exact I.elim;obtain⟨⟨q',p',h1,h2,h3,h4,-⟩,h5⟩:=I;have Y:N[a+i]? =some t:=HK V;have aV:=(eC.1 Y).1;have e1:sub (N.flatMap fG) ((a+i)*4) 1=some [.i .i64 (q':Int)]:=by
   have:=cW Uo Y (j:=0) (n:=1) ω;simpa[fG,h1] using this
  have hp:((q':Int)<0)=False:=cE;have c0:((0:Int)<((s::G).length:Int))=True:=fq (by simp);have c1:aY .sub (ι ((s::G).length:Int)) (ι 1)=some (ι (G.length:Int)):=qV (a:=G.length+1) (b:=1) (by simp at J;omega);have f1:=e2 h2;have f2:=el h2;have f3:=r8 h2;have c2:aY .add (ι (G.length:Int)) (ι (p'.right.length:Int))=some (ι ((G.length+p'.right.length:Nat):Int)):=oH (by simp at J;omega);refine qt t0 t7 t8 W c0 c1 e1 hp f1 c2 @bG @dw @bK ?_;refine ih _ _ ⟨rfl,?_,p'.right++G,.app kd r,Fo.ok_app h4 h5,?_,?_,?_,by rw[←hl,Fo.lv_app];rfl,?_,by rw[dy];simp at J;omega⟩;exact U1 t0;rw[Fo.fl_app];exact HP (i:=a+i) V;rw[dy,Nat.add_comm p'.right.length];exact U0;exact U0;simp only[Fo.fl,gJ,dy] at hi';rw[Fo.fl_app,dy];omega
 rintro τ _ ⟨rfl,t0,G,U,I,V,t7,t8,hl,hi',J⟩;have e0:U.fl=[]:=pM ω;cases U with
 |nil=>
  cases G with
  |cons s G=>exact I.elim
  |nil=>
   refine Y1 t7 ?_;have:decide (0<f.lv)=false:=ot (by rw[←hl];simp only[Fo.lv];omega);rw[this] at Z;exact Z
 |lf t r=>cases e0
 |nd t kd r=>cases e0
 exact U0;rw[sU];exact U0;exact U0
end
def w8 (w:Nat):List AV:=[.i .u64 (w:Int),.i .u64 0,.i .u64 0,.i .u64 0,.i .u64 0,.i .u64 0,.i .u64 0,.i .u64 0]
def bY4 {n} w:nice.niceL n (w8 w)=true:=by simp only[w8,Bg,iq,j9,A7]
section
variable {P:Program} {X:aR} {GL:T (List AV)} {ae:T au} {C:aK Prop} (E:Sem P X GL ae C) (F:bz8 ae)
include E F
theorem bY5 {h} {o j r H:Nat} (V:j<64) (G:cG (h.oB.get o)=some (w8 r)) (J:aY .or (.i .u64 (r)) (.i .u64 ((2^j:Nat):Int))=some (.i .u64 (H))) (O:aY .shl (.i .u64 1) (ι (j))=some (.i .u64 ((2^j:Nat):Int))) k
 (I:∀h',h'.next=h.next ->cG (h'.oB.get o)=some (w8 H) ->(∀i,i≠o ->h'.oB.get i=h.oB.get i) ->k (.tu []) h'):du C 309 [.p o 0,.i .i64 (j)] h k:=by
 obtain⟨n0,v0,ob⟩:=h;dsimp only at G;have R:aY .quo (ι (j:Int)) (ι 64)=some (ι 0):=by
  have:=Rj (a:=j) (c:=64) ⟨by omega,by omega⟩;rw[show j/64=0 by omega] at this;exact this
 have U:aY .rem (ι (j:Int)) (ι 64)=some (ι (j:Int)):=by
  have:=iA (a:=j) (c:=64) ω;rw[show j%64=j by omega] at this;exact this
 simp only[w8] at G;refine E.bS (F.f 309) (Y5 G R U O J ?_);refine I _ rfl ?_ λi hi=> ?_;simp only[w8];exact U0;have w:(i=o)=False:=dQ hi;exact U1 w
def wx (i y m:Nat):List AV:=w8 (if i=0 then y else m)
theorem bY6 {h} {o y m:Nat} (lo:o<h.next) (O:cG (h.oB.get o)=some (w8 y)) (W:aY .or (.i .u64 (y)) (.i .u64 (m))=some (.i .u64 (m))) k
 (V:∀h',h.next<=h'.next ->cG (h'.oB.get o)=some (w8 m) ->(∀i,i<h.next ->i≠o ->h'.oB.get i=h.oB.get i) ->k (.tu []) h'):du C 307 [.p o 0,.ag (w8 m)] h k:=by
 obtain⟨n0,v0,ob⟩:=h;dsimp only at O lo;have z0:aY .or (.i .u64 0) (.i .u64 0)=some (.i .u64 0):=rfl;refine E.bS (F.g 307 bS2) (Y2 @bS2.eq_1 @w8.eq_1 ?_);refine fj E.ok 8 (λi τ h=>τ.get 0=some (.p o 0)/\ τ.get 3=some (.p n0 0)/\ τ.get 5=some (ι (i:Int))/\ n0<h.next/\ cG (h.oB.get n0)=some (w8 m)/\ cG (h.oB.get o)=some (wx i y m)/\∀j,j<n0 ->j≠o ->h.oB.get j=ob.get j) ?_ ?_ _ _ ⟨?_,?_,?_,qI _,?_,?_,λj H G=> ?_⟩
 ·rintro i τ ⟨n1,v1,J⟩ hi ⟨t0,t3,t5,I,c0,c1,old⟩ Y;dsimp only at I c0 c1 old;have U:(o=n0)=False:=cE;have fin:∀(τ':T AV) (v':Nat) (ob':T bC),τ'.get 0=some (.p o 0) ->τ'.get 3=some (.p n0 0) ->τ'.get 5=some (ι ((i+1:Nat):Int)) ->cG (ob'.get o)=some (wx (i+1) y m) ->(∀j,j≠o ->ob'.get j=J.get j) ->df C _ _ _ τ' ⟨n1,v',ob'⟩:=λτ' v' ob' Z u3 u5 uo R=>
   Y τ' ⟨n1,v',ob'⟩ ⟨Z,u3,u5,I,by show cG (ob'.get n0)=_;rw[R n0 ω];exact c0,uo,λj H G=>(R j G).trans (old j H G)⟩
  have ad:aY .add (ι (i:Int)) (ι 1)=some (ι ((i+1:Nat):Int)):=bK ω;rcases(show i=0∨i=1∨i=2∨i=3∨i=4∨i=5∨i=6∨i=7 by omega) with rfl|rfl|rfl|rfl|rfl|rfl|rfl|rfl;all_goals
   simp only[w8,wx] at c0 c1;refine Y9 t0 t3 t5 c0 c1 W z0 ad aP2 ?_;refine fin _ _ _ ?_ ?_ ?_ ?_ λj H=> ?_;exact U1 t0;exact U1 t3;exact U0;simp only[w8,wx];exact U0;have w:(j=o)=False:=dQ H;exact U1 w
 rintro τ ⟨n1,v1,J⟩ ⟨t0,t3,t5,I,c0,c1,old⟩;refine Y3 t0 t3 t5 ?_;exact V _ (Im I) c1 old;(iterate 4 exact U0);have U:(o=n0)=False:=cE;exact wW U O;have w:(j=n0)=False:=cE;exact U1 w
end
def PT (P:Program) (X:aR) (GL:T (List AV)):Nat ->List Nat ->Prop
 |w,[]=>w=0
 |w,j::ls=>w≠0/\ j<64/\ (∀h,bP P X GL 420 [.i .u64 (w:Int)] h (ι (j:Int)) h)/\∃H G:Nat,aY .sub (.i .u64 (w:Int)) (.i .u64 1)=some (.i .u64 (H:Int))/\ aY .and (.i .u64 (w:Int)) (.i .u64 (H:Int))=some (.i .u64 (G:Int))/\ PT P X GL G ls
section
variable {P:Program} {X:aR} {GL:T (List AV)} {ae:T au} {C:aK Prop} (E:Sem P X GL ae C) (F:bz8 ae)
include E F
theorem bY7 {h} {o r m x:Nat} (j:cG (h.oB.get o)=some (w8 r)) (lo:o<h.next) (H:aY .and (.i .u64 (r)) (.i .u64 (m))=some (.i .u64 (x))) (I:x≠0) k
 (G:∀h',h.next<=h'.next ->(∀i,i<h.next ->h'.oB.get i=h.oB.get i) ->k (.b true) h'):du C 311 [.p o 0,.ag (w8 m)] h k:=by
 obtain⟨n0,v0,ob⟩:=h;dsimp only at j lo;simp only[w8] at j;refine E.bS (F.f 311) (Y1 @w8.eq_1 ?_);rw[qj E.ok];refine Y2 j H ?_;refine G _ (nD n0) λi hi=> ?_;have hi':i<n0:=hi;exact U0
theorem bY8 (J:List Nat ->AH ->Prop) {o w ls caps} (hw:PT P X GL w ls) (Jo:∀d h,J d h ->cG (h.oB.get o)=some (w8 w))
 (step:∀d j h k,J d h ->j∈ls ->(∀h',J (d++[j]) h' ->k (.tu []) h') ->du C 310 (ι (j)::caps) h k) (h) (H:J [] h) (k) (hk:∀h',J ls h' ->k (.tu []) h'):
 du C 305 [.p o 0,.f 310 [] caps] h k:=by
 refine E.bS (F.f 305) (Y0 ?_);refine fj E.ok 8 (λi τ h=>τ.get 1=some (.f 310 [] caps)/\ τ.get 6=some (.p o 0)/\ τ.get 7=some (ι (i:Int))/\ ((i=0/\ J [] h)∨(1<=i/\ J ls h))) ?_ ?_ _ _ ⟨?_,?_,?_,.inl ⟨rfl,H⟩⟩;rintro i τ h hi ⟨t1,t6,t7,V⟩ Z;have ad:aY .add (ι (i:Int)) (ι 1)=some (ι ((i+1:Nat):Int)):=bK ω;rcases V with ⟨rfl,H⟩|⟨h1,H⟩;have R:=Jo _ _ H;simp only[w8] at R;refine Y3 t6 t7 R ?_;refine fj E.ok ls.length (λi τ h=>τ.get 1=some (.f 310 [] caps)/\ τ.get 6=some (.p o 0)/\ τ.get 7=some (ι 0)/\ τ.get 4=some (ι 0)/\∃d G O,ls=d++G/\ d.length=i/\ PT P X GL O G/\ J d h/\ τ.get 5=some (.i .u64 (O:Int))) ?_ ?_ _ _ ⟨?_,?_,?_,?_,[],ls,w,rfl,rfl,hw,H,?_⟩;rintro i τ h hi ⟨t1,t6,t7,t4,d,G,O,e1,e2,I,H,t5⟩ Y;rcases G with _|⟨j,G⟩;rw[e1,dy] at hi;simp at hi;omega;obtain⟨w0,b0,tz,w1,w2,b1,b2,W⟩:=I;have a0:aY .mul (ι 64) (ι 0)=some (ι 0):=rfl;refine Y4 t1 t4 t5 a0 ?_;refine E.cN (tz _) ?_;have a1:aY .add (ι 0) (ι (j:Int))=some (ι (j:Int)):=by
  have:=oH (a:=0) (b:=j) ω;rw[gB] at this;exact this
 refine Y1 a1 ?_;refine E.run (step d j h _ H (by rw[e1];simp) λh' U=> ?_);refine Y3 t5 b1 b2 ?_;refine Y _ _ ⟨?_,?_,?_,?_,d++[j],G,w2,by rw[e1];simp,by simp[e2],W,U,?_⟩;exact U1 t1;exact U1 t6;exact U1 t7;exact U1 t4;exact U0;rintro τ h ⟨t1,t6,t7,t4,d,G,O,e1,e2,I,H,t5⟩;have e3:G=[]:=by
  have:=congrArg List.length e1;rw[dy,e2] at this;exact pM ω
 subst e3;obtain rfl:O=0:=I;refine Y3 t5 t7 aP2 ?_;refine Z _ _ ⟨?_,?_,?_,.inr ⟨bB _,by rw[e1,lG];exact H⟩⟩;exact U1 t1;exact U1 t6;exact U0;exact U1 t1;exact U1 t6;(iterate 3 exact U1 t7);have R:=Jo _ _ H;have e0:sub (w8 w) i 1=some [.i .u64 0]:=by
  rcases(show i=1∨i=2∨i=3∨i=4∨i=5∨i=6∨i=7 by omega) with rfl|rfl|rfl|rfl|rfl|rfl|rfl<;>rfl
 refine Y4 t6 t7 R e0 ?_;rw[qj E.ok];refine Y2 t7 ad ?_;refine Z _ _ ⟨?_,?_,?_,.inr ⟨by omega,H⟩⟩;exact U1 t1;exact U1 t6;exact U0;rintro τ h ⟨t1,t6,t7,V⟩;refine Y1 t7 ?_;rcases V with ⟨h1,-⟩|⟨-,H⟩;cases h1;exact hk _ H;(iterate 3 exact U0)
end
structure PD where
 p:List PN
 F:Nat
 M:Nat
 Ls:Nat
 fol:List Nat
 bF:List Nat
 bM:List Nat
def DQ (d:PD):List AV:=eR iF 5 true d.p::(w8 d.F++(w8 d.Ls++[.ds (d.fol.flatMap w8) 0 d.fol.length 8,.b false]))
def DN:Nat ->PD
 |0=>⟨jg 0,1,2,3,[2,2,0,0],[0],[1]⟩
 |9=>⟨jg 9,3,24,27,[24,24,0,24,24,0,0,0],[0,1],[3,4]⟩
 |_=>⟨jg 10,1,6,7,[6,6,6,0,0,0],[0],[1,2]⟩
def Mr (i:Nat):Prop:=i=0∨i=9∨i=10
def QR (d:PD) (j b:Nat):Prop:=∃q:PN,d.p[j]? =some q/\ q.2.1<=b/\ b<=q.2.2.1
def bT5 q:(iF q).length=5:=rfl
def hC0:gM mU aG (λ_ _=>none) 100000 195 [eR iF 5 true (jg 0)] (.dp (DQ (DN 0)) 0)=true:=lR
def hC9:gM mU aG (λ_ _=>none) 100000 195 [eR iF 5 true (jg 9)] (.dp (DQ (DN 9)) 0)=true:=lR
def bY9:gM mU aG (λ_ _=>none) 100000 195 [eR iF 5 true (jg 10)] (.dp (DQ (DN 10)) 0)=true:=lR
def hTz:([(1,0),(2,1),(3,0),(4,2),(6,1),(16,4),(24,3)]:List (Nat×Nat)).all (λe=>gM mU aG (λ_ _=>none) 1000 420 [.i .u64 (.ofNat e.1)] (ι (.ofNat e.2)))=true:=lR
variable {P:Program} {X:aR} {GL:T (List AV)} {ae:T au}
def bZ0 (S:aT P X GL ae) (F:bz8 ae) (hg:GL=mU) {w j} (G:(w,j)∈([(1,0),(2,1),(3,0),(4,2),(6,1),(16,4),(24,3)]:List (Nat×Nat))) h:bP P X GL 420 [.i .u64 (w)] h (ι (j)) h:=
 dR S (hY F iE (by rw[hg];exact fX.1 hTz _ G)) (n:=9) (by simp only[aL,bZ,dH]) h
def bT6 (S:aT P X GL ae) (F:bz8 ae) (hg:GL=mU) (hi:Mr i) h:bP P X GL 195 [eR iF 5 true (jg i)] h (.dp (DQ (DN i)) 0) h:=by
 refine dR S (hY F iE (n:=100000) ?_) (n:=9) (by simp only[aL,bZ,eu Eu]) h;rw[hg];rcases hi with rfl|rfl|rfl;exact hC0;exact hC9;exact bY9
def bT7 (S:aT P X GL ae) (F:bz8 ae) (hg:GL=mU) (hi:Mr i):PT P X GL (DN i).F (DN i).bF/\ PT P X GL (DN i).M (DN i).bM:=by
 have G:=λ{w j:Nat} hw h=>bZ0 S F hg (w:=w) (j:=j) hw h;rcases hi with rfl|rfl|rfl;exact⟨⟨by decide,by decide,λh=>G (by decide) h,0,0,rfl,rfl,rfl⟩,⟨by decide,by decide,λh=>G (by decide) h,1,0,rfl,rfl,rfl⟩⟩;exact⟨⟨by decide,by decide,λh=>G (by decide) h,2,2,rfl,rfl,by decide,by decide,λh=>G (by decide) h,1,0,rfl,rfl,rfl⟩,⟨by decide,by decide,λh=>G (by decide) h,23,16,rfl,rfl,by decide,by decide,λh=>G (by decide) h,15,0,rfl,rfl,rfl⟩⟩;exact⟨⟨by decide,by decide,λh=>G (by decide) h,0,0,rfl,rfl,rfl⟩,⟨by decide,by decide,λh=>G (by decide) h,5,4,rfl,rfl,by decide,by decide,λh=>G (by decide) h,3,0,rfl,rfl,rfl⟩⟩
def bZ1 {r j} (I:r<32) (H:j<5):∃G:Nat,G=(r|||2^j)/\ G<32/\ G≠0/\ aY .or (.i .u64 (r)) (.i .u64 ((2^j:Nat):Int))=some (.i .u64 (G)):=by
 have h:∀r:Fin 32,∀j:Fin 5,(r.val|||2^j.val)<32/\ (r.val|||2^j.val)≠0:=by decide
 obtain⟨h1,h2⟩:=h ⟨r,I⟩ ⟨j,H⟩;have J:2^j<=16:=rJ (n:=2) ω (show j<=4 by omega);refine⟨r|||2^j,rfl,h1,h2,?_⟩;show(bif Nat.ble r 18446744073709551615&&Nat.ble (2^j) 18446744073709551615 then ri .u64 (Int.ofNat (r|||2^j)) else _)=_;have a1:Nat.ble r 18446744073709551615=true:=by rw[wX];simp;omega
 have a2:Nat.ble (2^j) 18446744073709551615=true:=by rw[wX];simp;omega
 rw[a1,a2];exact wP
def bZ2 {a:Nat} (j:a<=1000) (hb:b<=1000):aY .and (.i .u64 (a)) (.i .u64 (b))=some (.i .u64 ((a&&&b):Int)):=by
 show(bif Nat.ble a 18446744073709551615&&Nat.ble b 18446744073709551615 then ri .u64 (Int.ofNat (a&&&b)) else _)=_;have a1:Nat.ble a 18446744073709551615=true:=by rw[wX];simp;omega
 have a2:Nat.ble b 18446744073709551615=true:=by rw[wX];simp;omega
 rw[a1,a2];exact wP
def bZ3 {r x l} (h:x&&&l≠0):(r|||x)&&&l≠0:=by
 rw[Nat.and_or_distrib_right];intro e;exact h (Nat.or_eq_zero_iff.1 e).2
def bZ4 {ev x i s} (h1:ev x= .s s) (h2:ev i= .i .i64 (n)) (hb:s[n]? =some b):step ev h (.idxs x i)= .v (.i .u8 (b)) h:=by
 show(match ff (ev i),ev x with
  |some k,.s l=>(match sw l k with|some b=>da.v (.i .u8 (.ofNat b)) h|none=> .bad)
  |_,_=> .bad)=_
 rw[h1,h2];show(match sw s n with|some b=>da.v (.i .u8 (.ofNat b)) h|none=> .bad)=_;rw[Cw,hb];rfl
structure PDOK (d:PD):Prop where
 j5:∀j,j∈d.bF∨j∈d.bM ->j<5/\ 2^j&&&d.Ls≠0/\ d.fol[j]? =some d.M/\∃q,d.p[j]? =some q
 or0:aY .or (.i .u64 ((0:Nat):Int)) (.i .u64 (d.M:Int))=some (.i .u64 (d.M:Int))
 orM:aY .or (.i .u64 (d.M:Int)) (.i .u64 (d.M:Int))=some (.i .u64 (d.M:Int))
 pl:d.p≠[]/\ d.Ls<=1000
def bZ5 (hi:Mr i):PDOK (DN i):=by
 rcases hi with rfl|rfl|rfl;refine⟨λj h=> ?_,rfl,rfl,by simp[DN,jg],by decide⟩;rcases(show j=0∨j=1 by simp[DN] at h;omega) with rfl|rfl<;>exact⟨by decide,by decide,rfl,_,rfl⟩;refine⟨λj h=> ?_,rfl,rfl,by simp[DN,jg],by decide⟩;rcases(show j=0∨j=1∨j=3∨j=4 by simp[DN] at h;omega) with rfl|rfl|rfl|rfl<;>exact⟨by decide,by decide,rfl,_,rfl⟩;refine⟨λj h=> ?_,rfl,rfl,by simp[DN,jg],by decide⟩;rcases(show j=0∨j=1∨j=2 by simp[DN] at h;omega) with rfl|rfl|rfl<;>exact⟨by decide,by decide,rfl,_,rfl⟩
structure RJ (d:PD) (s:List Nat) (n m1 sb nb mb ro no:Nat) (obr:T bC) (b:Nat) (dn:List Nat) (h:AH):Prop where
 nx:m1<=h.next
 old:∀j,j<m1 ->j≠ro ->j≠no ->h.oB.get j=obr.get j
 st:∃r y:Nat,cG (h.oB.get ro)=some (w8 r)/\ cG (h.oB.get no)=some (w8 y)/\ r<32/\ (r≠0 ->r&&&d.Ls≠0)/\ ((r=0/\ y=0)∨(r≠0/\ y=d.M))/\ (r≠0↔∃j∈dn,QR d j b)
section
variable {P:Program} {X:aR} {GL:T (List AV)} {ae:T au} {C:aK Prop} (E:Sem P X GL ae C) (F:bz8 ae)
include E F
theorem bZ6 {d} (K:PDOK d) {s} {n R V nb O ro H:Nat} {G b} (hb:s[n]? =some b) (b8:b<256) (c1:cG (G.get V)=some [.s s]) (c2:cG (G.get nb)=some [.i .i64 (n)]) (c3:cG (G.get O)=some [.dp (DQ d) 0])
 (ne:ro≠H/\ V≠ro/\ V≠H/\ nb≠ro/\ nb≠H/\ O≠ro/\ O≠H) (lt:V<R/\ nb<R/\ O<R/\ ro<R/\ H<R) {dn j} (hj:j∈d.bF∨j∈d.bM) {h} (J:RJ d s n R V nb O ro H G b dn h) (k)
 (hk:∀h',RJ d s n R V nb O ro H G b (dn++[j]) h' ->k (.tu []) h'):du C 310 [.i .i64 (j),.p V 0,.p nb 0,.p O 0,.p ro 0,.p H 0] h k:=by
 obtain⟨nx,old,r,y,cr,cy,r32,rl,ry,hr⟩:=J;obtain⟨n0,v0,ob⟩:=h;dsimp only at nx old cr cy;obtain⟨j5,b2,hf,q,hq⟩:=K.j5 j hj;obtain⟨e1,e2,e3,e4,e5,e6,e7⟩:=ne;obtain⟨l1,l2,l3,l4,l5⟩:=lt;have d1:cG (ob.get V)=some [.s s]:=by rw[old V l1 e2 e3];exact c1
 have d2:cG (ob.get nb)=some [.i .i64 (n:Int)]:=by rw[old nb l2 e4 e5];exact c2
 have d3:cG (ob.get O)=some [.dp (DQ d) 0]:=by rw[old O l3 e6 e7];exact c3
 have fl:=dI hf;have p1:sub (d.p.flatMap iF) (j*5+1) 1=some [.i .i64 (q.2.1:Int)]:=by
  have:=cW bT5 hq (j:=1) (n:=1) ω;simpa[iF] using this
 have p2:sub (d.p.flatMap iF) (j*5+2) 1=some [.i .i64 (q.2.2.1:Int)]:=by
  have:=cW bT5 hq (j:=2) (n:=1) ω;simpa[iF] using this
 have p3:sub (d.fol.flatMap w8) (j*8) 8=some (w8 d.M):=cW (enc:=w8) (k:=8) (λ_=>rfl) hf (j:=0) (n:=8) ω;have jl:=(eC.1 hf).1;have jp:=(eC.1 hq).1;have dk:∀k,nice 64 (.dp (DQ d) k)=true:=λk=>by
  rw[fK];have f:nice 63 (.ds (d.fol.flatMap w8) 0 d.fol.length 8)=true:=by rw[nN];exact fE bY4 _
  simp only[DQ,w8,gw,gx,Bg,iq,j9,G7,A4 aN9,f,A7]
 have hx:∀(τ:T AV) h,az C τ (.t 8)= .s s ->az C τ (.t 9)= .i .i64 (n:Int) ->step (az C τ) h (.idxs (.t 8) (.t 9))= .v (.i .u8 (b:Int)) h:=λτ h h1 h2=>bZ4 h1 h2 hb;have cv:ri .i64 (dN .i64 (b:Int))=some (ι (b:Int)):=by rw[lj ω];exact wP
 have keep:∀h':AH,R<=h'.next ->(∀i,i<R ->i≠ro ->i≠H ->h'.oB.get i=ob.get i) ->∀i,i<R ->i≠ro ->i≠H ->h'.oB.get i=G.get i:=λh' _ hh i a1 a2 a3=>(hh i a1 a2 a3).trans (old i a1 a2 a3);simp only[DQ,w8,gw,gx] at d3 dk p3;have I:¬QR d j b ->∀h',h'=(⟨n0,v0,ob⟩:AH) ->RJ d s n R V nb O ro H G b (dn++[j]) h':=λhh h' e=>by
  subst e;refine⟨nx,old,r,y,cr,cy,r32,rl,ry,hr.trans ⟨λ⟨i,a,b⟩=>⟨i,xI _ a,b⟩,λ⟨i,a,b⟩=> ?_⟩⟩;rcases fO.1 a with a|a;exact⟨i,a,b⟩;rw[yC.1 a] at b;exact bh b hh
 rw[E.cB (F.f 310)];by_cases h1:q.2.1<=b;have W:((q.2.1:Int)<=(b:Int))=True:=cJ;by_cases h2:b<=q.2.2.1;have Z:((b:Int)<=(q.2.2.1:Int))=True:=cJ;have hh:QR d j b:=⟨q,hq,h1,h2⟩;obtain⟨r',r0,r1,r2,r3⟩:=bZ1 r32 j5;have sh:aY .shl (.i .u64 1) (ι (j:Int))=some (.i .u64 ((2^j:Nat):Int)):=by
  rcases(show j=0∨j=1∨j=2∨j=3∨j=4 by omega) with rfl|rfl|rfl|rfl|rfl<;>rfl
 refine Z9 d1 d2 d3 p1 p2 hx cv W Z ?_;refine E.run (bY5 E F ω cr r3 sh _ λh2 n2 b0 eG=> ?_);obtain⟨U,v2,aJ⟩:=h2;obtain rfl:U=n0:=n2;dsimp only at b0 eG;have g3:cG (aJ.get O)=some [.dp (DQ d) 0]:=by rw[eG O e6,old O l3 e6 e7];exact c3
 simp only[DQ,w8,gw,gx] at g3;refine Z2 g3 p3 ?_;refine E.run (bY6 (y:=y) E F (by show H<U;omega) (by show cG (aJ.get H)=_;rw[eG H (λe=>e1 e.symm)];exact cy) (by rcases ry with ⟨-,e⟩|⟨-,e⟩<;>rw[e];exact K.or0;exact K.orM) _ λh3 n3 b1 Y=> ?_);refine Y0 ?_;have b3:U<=h3.next:=n3;refine hk _ ⟨by omega,λi a1 a2 a3=>((Y i (by show i<U;omega) a3).trans (eG i a2)).trans (old i a1 a2 a3),r',d.M,by rw[Y ro (by show ro<U;omega) e1];exact b0,b1,r1,λ_=>by rw[r0];exact bZ3 b2,.inr ⟨r2,rfl⟩,⟨λ_=>⟨j,by simp,hh⟩,λ_=>r2⟩⟩;have Z:((b:Int)<=(q.2.2.1:Int))=False:=cE;refine Z9 d1 d2 d3 p1 p2 hx cv W Z ?_;exact hk _ (I (λ⟨q',a,b',c⟩=>by rw[hq] at a;cases a;omega) _ rfl);have W:((q.2.1:Int)<=(b:Int))=False:=cE;refine Z7 d1 d2 d3 p1 hx cv W ?_;exact hk _ (I (λ⟨q',a,b',c⟩=>by rw[hq] at a;cases a;omega) _ rfl)
end
def HQ (d:PD):List Nat ->List Nat ->Nat
 |_,[]=>0
 |ls,b::s=> @ite _ (∃j∈ls,QR d j b) (Classical.propDecidable _) (1+HQ d d.bM s) 0
structure PD2 (P:Program) (X:aR) (GL:T (List AV)) (d:PD):Prop extends PDOK d where
 cF:PT P X GL d.F d.bF
 cM:PT P X GL d.M d.bM
section
variable {P:Program} {X:aR} {GL:T (List AV)} {ae:T au} {C:aK Prop} (E:Sem P X GL ae C) (F:bz8 ae) (FN:bz8 ae)
include E F FN
theorem bZ7 {h} {o n x:Nat} (j:cG (h.oB.get o)=some [.i .i64 (x)]) k (G:∀h',h'.next=h.next ->cG (h'.oB.get o)=some [.i .i64 (n)] ->(∀i,i≠o ->h'.oB.get i=h.oB.get i) ->k (.b true) h'):
 du C 312 [.i .i64 (n),.b true,.p o 0] h k:=by
 obtain⟨n0,v0,ob⟩:=h;dsimp only at j;refine E.bS (FN.f 312) (Y1 j ?_);refine G _ rfl ?_ λi hi=> ?_;exact U0;have w:(i=o)=False:=dQ hi;exact U1 w
theorem bZ8 {r} (h:r≠0):eH 6 (.ag [(0,1,false,.lf .i),(1,1,false,.lf .i),(2,1,false,.lf .i),(3,1,false,.lf .i),(4,1,false,.lf .i),(5,1,false,.lf .i),(6,1,false,.lf .i),(7,1,false,.lf .i)]) (.ag (w8 r)) (.ag [.i .u64 0,.i .u64 0,.i .u64 0,.i .u64 0,.i .u64 0,.i .u64 0,.i .u64 0,.i .u64 0])=some false:=by
 show(match (some (eO (r:Int) 0):Option Bool) with|some true=>_|o=>o)=_;have:eO (r:Int) 0=false:=by rw[A3];simp;omega
 rw[this]
theorem bZ9 {d} (K:PD2 P X GL d) {s} (s8:∀b∈s,b<256) (sl:s.length<1000000000) {bb h} (cb:cG (h.oB.get bb)=some [.i .i64 0]) (lb:bb<h.next) k
 (hk:∀h',cG (h'.oB.get bb)=some [.i .i64 (HQ d d.bF s)] ->k (.tu []) h'):du C 196 [.dp (DQ d) 0,.s s,.f 312 [] [.p bb 0]] h k:=by
 obtain⟨n0,v0,ob⟩:=h;dsimp only at cb lb;have q1:sub (DQ d) 1 8=some (w8 d.F):=rfl;have q2:sub (DQ d) 9 8=some (w8 d.Ls):=rfl;have z1:(bb=n0)=False:=cE;have z2:(bb=n0+1)=False:=cE;have z3:(bb=n0+1+1)=False:=cE;have cd:cellsO (.dp (DQ d) 0)=some [.dp (DQ d) 0]:=rfl;have ls:((List.length s:Nat):Int)=(s.length:Int):=rfl;simp only[w8] at q1 q2;refine E.bS (F.f 196) (Y2 q1 cd ?_);refine fj E.ok s.length (λi τ h=>τ.get 2=some (.f 312 [] [.p bb 0])/\ τ.get 3=some (.p n0 0)/\ τ.get 4=some (.p (n0+1) 0)/\ τ.get 6=some (.p (n0+2) 0)/\ τ.get 15=some (ι (s.length:Int))/\ τ.get 16=some (ι (i:Int))/\ n0+3<=h.next/\
  cG (h.oB.get n0)=some [.dp (DQ d) 0]/\ cG (h.oB.get (n0+1))=some [.s s]/\ cG (h.oB.get (n0+2))=some (w8 (if i=0 then d.F else d.M))/\ cG (h.oB.get bb)=some [.i .i64 (i:Int)]/\ HQ d d.bF s=i+HQ d (if i=0 then d.bF else d.bM) (s.drop i)) ?_ ?_ _ _ ⟨?_,?_,?_,?_,?_,?_,?_,?_,?_,?_,?_,?_⟩
 rintro i τ ⟨m,v,aQ⟩ hi ⟨t2,t3,t4,t6,V,W,hn,c0,c1,c2,cb,hl⟩ ih;dsimp only at hn c0 c1 c2 cb;have hb:s[i]? =some s[i]:=ef hi;have b8:=s8 _ (List.getElem_mem hi);generalize s[i]=b at hb b8;refine Y5 t3 t4 t6 V W ?_;have U:∀j,j<m ->((((aQ.put m (.cells v [.i .i64 0])).put m (.cells (v+1) [.i .i64 (i:Int)])).put (m+1) (.cells (v+1) (w8 0))).put (m+1+1) (.cells (v+1) (w8 0))).get j=aQ.get j:=λj hj=>by
  exact U0
 obtain⟨O,H⟩:∃O,O=((((aQ.put m (.cells v [.i .i64 0])).put m (.cells (v+1) [.i .i64 (i:Int)])).put (m+1) (.cells (v+1) (w8 0))).put (m+1+1) (.cells (v+1) (w8 0))):=⟨_,rfl⟩;have g0:cG (O.get n0)=some [.dp (DQ d) 0]:=by rw[H,U n0 ω];exact c0
 have g1:cG (O.get (n0+1))=some [.s s]:=by rw[H,U (n0+1) ω];exact c1
 have g2:cG (O.get (n0+2))=some (w8 (if i=0 then d.F else d.M)):=by rw[H,U (n0+2) ω];exact c2
 have gb:cG (O.get bb)=some [.i .i64 (i:Int)]:=by rw[H,U bb ω];exact cb
 have gm:cG (O.get m)=some [.i .i64 (i:Int)]:=by rw[H];exact U0
 have b2:∀j,j∈(if i=0 then d.bF else d.bM) ->j∈d.bF∨j∈d.bM:=λj hj=>by split at hj;exact .inl hj;exact .inr hj
 refine E.run (bY8 (w:=if i=0 then d.F else d.M) (ls:=if i=0 then d.bF else d.bM) E F (RJ d s i (m+3) (n0+1) m n0 (m+1) (m+2) O b) (by split;exact K.cF;exact K.cM) (λdn h J=> ?_) (λdn j h k J hj b1=>bZ6 E F K.toPDOK hb b8 g1 gm g0 ⟨by omega,by omega,by omega,by omega,by omega,by omega,by omega⟩ ⟨by omega,by omega,by omega,by omega,by omega⟩ (b2 j hj) J k b1) _ ⟨bB _,λj _ _ _=> ?_,0,0,?_,?_,by omega,λh=>bh rfl h,.inl ⟨rfl,rfl⟩,⟨λh=>bh rfl h,λ⟨j,h,_⟩=>by cases h⟩⟩ _ λh' J=> ?_);rw[J.old (n0+2) ω ω ω];exact g2;rw[H];rfl;exact U0;exact U0;obtain⟨nx,old,r,y,cr,cy,r32,rl,ry,hr⟩:=J;obtain⟨m2,v2,Z⟩:=h';dsimp only at nx old cr cy;have k0:cG (Z.get n0)=some [.dp (DQ d) 0]:=by rw[old n0 ω ω ω];exact g0
 have k1:cG (Z.get (n0+1))=some [.s s]:=by rw[old (n0+1) ω ω ω];exact g1
 have k2:cG (Z.get (n0+2))=some (w8 (if i=0 then d.F else d.M)):=by rw[old (n0+2) ω ω ω];exact g2
 have kb:cG (Z.get bb)=some [.i .i64 (i:Int)]:=by rw[old bb ω ω ω];exact gb
 have km:cG (Z.get m)=some [.i .i64 (i:Int)]:=by rw[old m ω ω ω];exact gm
 have hd:s.drop i=b::s.drop (i+1):=by rw[Lr hi];congr 1;have:=ef hi;rw[hb] at this;exact(gC this).symm
 have ad:aY .add (ι (i:Int)) (ι 1)=some (ι ((i+1:Nat):Int)):=bK ω;by_cases h0:r=0;subst h0;have nh:¬∃j∈(if i=0 then d.bF else d.bM),QR d j b:=λh=>hr.2 h rfl;have e8:eH 6 (.ag [(0,1,false,.lf .i),(1,1,false,.lf .i),(2,1,false,.lf .i),(3,1,false,.lf .i),(4,1,false,.lf .i),(5,1,false,.lf .i),(6,1,false,.lf .i),(7,1,false,.lf .i)]) (.ag [.i .u64 0,.i .u64 0,.i .u64 0,.i .u64 0,.i .u64 0,.i .u64 0,.i .u64 0,.i .u64 0]) (.ag [.i .u64 0,.i .u64 0,.i .u64 0,.i .u64 0,.i .u64 0,.i .u64 0,.i .u64 0,.i .u64 0])=some true:=rfl;simp only[w8] at cr;refine Y2 cr e8 ?_;have e:HQ d d.bF s=i:=by rw[hl,hd,HQ,aD nh];rfl
 rw[e] at hk;exact hk ⟨m2,v2,Z⟩ kb;have e8:=bZ8 E F FN h0;have b0:=cr;have yM:y=d.M:=by rcases ry with ⟨h,-⟩|⟨-,h⟩;exact bh h h0;exact h
 subst yM;simp only[w8] at cr e8 cy;refine Y8 t2 t3 k0 km cr e8 q2 ad ?_;refine E.run (bY7 E F b0 (by show m+1<m2;omega) (bZ2 ω K.pl.2) (rl h0) _ λh3 n3 G=> ?_);obtain⟨m3,v3,Y⟩:=h3;have b5:m2<=m3:=n3;dsimp only at G;have u0:cG (Y.get n0)=some [.dp (DQ d) 0]:=by rw[G n0 ω];exact k0
 have u1:cG (Y.get (n0+1))=some [.s s]:=by rw[G (n0+1) ω];exact k1
 have u2:cG (Y.get (n0+2))=some (w8 (if i=0 then d.F else d.M)):=by rw[G (n0+2) ω];exact k2
 have ub:cG (Y.get bb)=some [.i .i64 (i:Int)]:=by rw[G bb ω];exact kb
 have um:cG (Y.get m)=some [.i .i64 (i:Int)]:=by rw[G m ω];exact km
 have u8:cG (Y.get (m+1))=some (w8 r):=by rw[G (m+1) ω];exact b0
 have u9:cG (Y.get (m+2))=some (w8 d.M):=by rw[G (m+2) ω];simp only[w8];exact cy
 have b3:=u9;simp only[w8] at u8 u9;refine Y3 t2 um ad ?_;refine E.run (bZ7 E F FN (n:=i+1) ub _ λh4 n4 b4 I=> ?_);obtain⟨m4,v4,R⟩:=h4;obtain rfl:m4=m3:=n4;dsimp only at b4 I;have x0:cG (R.get n0)=some [.dp (DQ d) 0]:=by rw[I n0 ω];exact u0
 have x1:cG (R.get (n0+1))=some [.s s]:=by rw[I (n0+1) ω];exact u1
 have x2:cG (R.get (n0+2))=some (w8 (if i=0 then d.F else d.M)):=by rw[I (n0+2) ω];exact u2
 have x8:cG (R.get (m+1))=some (w8 r):=by rw[I (m+1) ω];exact u8
 have x9:cG (R.get (m+2))=some (w8 d.M):=by rw[I (m+2) ω];exact b3
 have b6:=x2;simp only[w8] at x8 x9 x2;refine Y5 t6 W x2 x9 ad ?_;refine ih _ _ ⟨?_,?_,?_,?_,?_,?_,by show n0+3<=m4;omega,?_,?_,?_,?_,?_⟩;exact U1 t2;exact U1 t3;exact U1 t4;exact U1 t6;exact U1 V;exact U0;have w:(n0=n0+2)=False:=cE;exact wW w x0;have w:(n0+1=n0+2)=False:=cE;exact wW w x1;simp only[w8];exact U0;have w:(bb=n0+2)=False:=cE;exact wW w b4;rw[hl,hd,HQ,aF (hr.1 h0),aD ω];omega;rintro τ ⟨m,v,aQ⟩ ⟨t2,t3,t4,t6,V,W,hn,c0,c1,c2,cb,hl⟩;refine Y2 V W ?_;refine hk ⟨m,v,aQ⟩ ?_;rw[hl,List.drop_length];have:HQ d (if s.length=0 then d.bF else d.bM) []=0:=by unfold HQ;rfl
 rw[this];exact cb;(iterate 6 exact U0);show n0+3<=n0+1+1+1;omega;exact U0;exact U0;simp only[w8];exact U0;exact wW (ec z1 (ec z2 z3)) cb;rw[aF rfl,List.drop_zero];omega
end
def ca0 (S:aT P X GL ae) (F:bz8 ae) (hg:GL=mU) (hi:Mr i):PD2 P X GL (DN i):=
 { bZ5 hi with cF:=(bT7 S F hg hi).1,cM:=(bT7 S F hg hi).2 }
def ca3 {ev x a s} (h1:ev x= .s s) (h2:ev a= .i .i64 0):step ev h (.slcs x (some a) none)= .v (.s s) h:=by
 have j:ff (ev a)=some 0:=by rw[h2];rfl
 have e:d7 (len s) (len s) (nO ev (some a)) (nO ev none) none=some (0,len s,len s):=by
  rw[uO,uP,j];show(bif Nat.ble (len s) (len s)&&Nat.ble (len s) (len s)&&Nat.ble 0 (len s) then some (0,len s,len s) else none)=_;have G:Nat.ble (len s) (len s)=true:=by rw[wX];simp
  have H:Nat.ble 0 (len s)=true:=by rw[wX];simp
  rw[G,H];rfl
 show(match ev x with
  | .s s=>(match d7 (len s) (len s) (nO ev (some a)) (nO ev none) none with
   |some (l,r,_)=>(match sub s l (r-l) with|some t=>da.v (.s t) h|none=> .bad)
   |none=> .bad)
  |_=> .bad)=_
 rw[h1];dsimp only;rw[e];have e2:sub s 0 (len s-0)=some s:=by rw[nH,kZ,aF ω];simp
 dsimp only;rw[e2]
def ca4 (S:aT P X GL ae) (F:bz8 ae) (FN:bz8 ae) (hg:GL=mU) (hi:Mr i) {s} (H:∀b∈s,b<256) (sl:s.length<1000000000) h:
 bP P X GL 199 [eR iF 5 true (jg i),.s s,.i .i64 0] h (.tu [.i .i64 (HQ (DN i) (DN i).bF s:Int),.b (decide ((0:Int)<(HQ (DN i) (DN i).bF s:Int)))]) h:=by
 refine dR S (n:=9) ?_ (by simp only[aL,bZ,dH,oK,eu Eu]) h;refine bg.intro λC E=> ?_;have gp:=λh=>Kg S F (i:=i) hi h;have cc:=λh=>bT6 S F hg hi h;have Ff:nice 64 (eR iF 5 true (jg i))=true:=A4 aN9;have j:∀(τ:T AV) h,az C τ (.t 24)= .s s ->az C τ (.t 25)= .i .i64 0 ->step (az C τ) h (.slcs (.t 24) (some (.t 25)) none)= .v (.s s) h:=λτ h h1 h2=>ca3 h1 h2;have G:((s.length:Int)<0)=False:=cE;refine E.bS (FN.g 199 bR8) (Y2 @bR8.eq_1 Ff ?_);refine E.cN (gp _) (Z4 @bR8.eq_1 Ff j G ?_);refine E.cN (cc _) (Z2 Ff j ?_);refine E.run (bZ9 E F FN (ca0 S F hg hi) H sl (bb:=0) ?_ (qI _) _ λh' hb=> ?_);exact U0;refine Y1 hb ?_;exact⟨2,by simp only[AM.deep,lJ,tg]⟩
def Qv s:(jT s).length=1:=rfl
def ca5 {ev h x l j s} (h1:ev x= .dp l j) (h2:sub l j 1=some [.s s]):step ev h (.tld x 1 false)= .v (.s s) h:=by
 show(match ev x with
  | .p o j=>(match h.rows o with|some l=>(match sub l j 1 with|some c=>dr h (dB false c)|none=>da.bad)|none=> .bad)
  | .dp l j=>(match sub l j 1 with|some c=>dr h (dB false c)|none=> .bad)
  |_=> .bad)=_
 rw[h1];dsimp only;rw[h2];rfl
abbrev PX {α} (v:AV) (L:List α) (fid:Nat) (dc:List AV) (B:α ->Bool) (i:Nat) (τ:T AV) (h:AH):Prop:=h=h0/\ τ.get 0=some v/\ τ.get 1=some (.f fid [] dc)/\ τ.get 7=some (ι (L.length:Int))/\ τ.get 8=some (ι (i:Int))/\ L.any B=(L.drop i).any B
def PY {h x y fid} {c d:List AV} (e:∀n≥10,bJ n h c=some d) (ex:deep 12 h x=some y):bJ 12 h [x,.f fid [] c]=some [y,.f fid [] d]:=by
 have e2:deep 12 h (.f fid [] c)=some (.f fid [] d):=by
  show(match eM (deep 11 h) [],eM (deep 11 h) c with|some a,some b=>some (AV.f fid a b)|_,_=>none)=_;rw[show eM (deep 11 h) c=some d from e 11 ω];rfl
 rw[aL,aL,bZ,e2,ex]
def QS {α:Type} {L:List α} {B i a} (h:L[i]? =some a) (j:L.any B=(L.drop i).any B):(B a=true ->L.any B=true)/\ (B a=false ->L.any B=(L.drop (i+1)).any B):=by
 have hi:=(eC.1 h).1;have e:L.drop i=a::L.drop (i+1):=by rw[Lr hi];congr 1;exact(eC.1 h).2
 rw[j,e,qL];exact⟨λh=>by rw[h];rfl,λh=>by rw[h];rfl⟩
section
variable {P:Program} {X:aR} {GL:T (List AV)} {ae:T au} (S:aT P X GL ae) (F:bz8 ae)
include S F
theorem bT8 {v L nl B} (W:L.length<=1000000) {fid caps dcaps h} (U:∀n≥10,deep n h v=some (eR jT 1 nl L)) (hd:∀n≥10,bJ n h caps=some dcaps) (R:∀n≥10,bJ n h0 dcaps=some dcaps) (O:∀a∈L,∀h,bP P X GL fid (AV.s a::dcaps) h (.b (B a)) h):bP P X GL 21 [v,.f fid [] caps] h (.b (L.any B)) h:=by
 refine oE S (m:=0) ?_ (PY hd (U 12 ω)) rfl;refine bg.intro λC E=> ?_;refine E.bS (F.f 21) (Y0 ?_);refine E.run ?_;refine E.bS (F.f 62) (Y0 ?_);refine fj E.ok L.length (PX (eR jT 1 nl L) L fid dcaps B) ?_ ?_ _ _ ⟨rfl,?_,?_,?_,?_,by rw[List.drop_zero]⟩;rintro i τ _ hi ⟨rfl,t0,t1,t7,t8,I⟩ V;have H:L[i]? =some L[i]:=ef hi;have J:=List.getElem_mem hi;generalize L[i]=a at H J;have G:sub (L.flatMap jT) i 1=some (jT a):=by have:=cW Qv H (j:=0) (n:=1) ω;rwa [vH] at this
 have ad:=QS H I;have Y:∀(τ:T AV) h,az C τ (.t 14)= .dp (L.flatMap jT) i ->step (az C τ) h (.tld (.t 14) 1 false)= .v (.s a) h:=λτ h h1=>ca5 h1 G;have cc:=O a J;simp only[jT] at G cc;refine Z5 t0 t1 t7 t8 G ?_;refine E.cN (cc _) ?_;cases hb:B a with
 |true=>
  refine Y0 ?_;exact⟨1,by rw[ad.1 hb];rfl⟩
 |false=>
  refine Y1 t8 ?_;refine V _ _ ⟨rfl,?_,?_,?_,?_,ad.2 hb⟩;exact U1 t0;exact U1 t1;exact U1 t7;exact U0
 rintro τ _ ⟨rfl,t0,t1,t7,t8,I⟩;refine Y2 t7 t8 ?_;exact⟨1,by rw[I,List.drop_length];rfl⟩;(iterate 4 exact U0)
theorem ca6 {L nl B} (G:L.length<=1000000) {fid caps dcaps h} (hd:∀n≥10,bJ n h caps=some dcaps) (j:∀n≥10,bJ n h0 dcaps=some dcaps) (H:∀a∈L,∀h,bP P X GL fid (AV.s a::dcaps) h (.b (B a)) h):bP P X GL 21 [eR jT 1 nl L,.f fid [] caps] h (.b (L.any B)) h:=
 bT8 S F G (λn I=>by obtain⟨m,rfl⟩:∃m,n=m+2:=⟨n-2,by omega⟩;exact eu (n:=m+1) (λs=>by simp only[jT,aL,bZ,oK])) hd j H
theorem ca7 {L nl B} (V:L.length<=1000000) {fid caps dcaps h} (hd:∀n≥10,bJ n h caps=some dcaps) (R:∀n≥10,bJ n h0 dcaps=some dcaps) (O:∀a∈L,∀h,bP P X GL fid ((λa=>AV.ag (dq a)) a::dcaps) h (.b (B a)) h):bP P X GL 57 [eR dq 7 nl L,.f fid [] caps] h (.b (L.any B)) h:=by
 refine oE S (m:=0) ?_ (PY hd (eu (n:=11) jD)) rfl;refine bg.intro λC E=> ?_;refine E.bS (F.f 57) (Y0 ?_);refine E.run ?_;refine E.bS (F.f 103) (Y0 ?_);refine fj E.ok L.length (PX (eR dq 7 nl L) L fid dcaps B) ?_ ?_ _ _ ⟨rfl,?_,?_,?_,?_,by rw[List.drop_zero]⟩;rintro i τ _ hi ⟨rfl,t0,t1,t7,t8,H⟩ U;have G:L[i]? =some L[i]:=ef hi;have J:=List.getElem_mem hi;generalize L[i]=a at G J;have I:sub (L.flatMap dq) (i*7) 7=some (dq a):=cW qx G (j:=0) (n:=7) ω;have ad:=QS G H;have cc:=O a J;simp only[dq] at I cc;refine Z5 t0 t1 t7 t8 I ?_;refine E.cN (cc _) ?_;cases hb:B a with
 |true=>
  refine Y0 ?_;exact⟨1,by rw[ad.1 hb];rfl⟩
 |false=>
  refine Y1 t8 ?_;refine U _ _ ⟨rfl,?_,?_,?_,?_,ad.2 hb⟩;exact U1 t0;exact U1 t1;exact U1 t7;exact U0
 rintro τ _ ⟨rfl,t0,t1,t7,t8,H⟩;refine Y2 t7 t8 ?_;exact⟨1,by rw[H,List.drop_length];rfl⟩;(iterate 4 exact U0)
theorem ca8 {L nl B} (V:L.length<=1000000) {fid caps dcaps h} (hd:∀n≥10,bJ n h caps=some dcaps) (R:∀n≥10,bJ n h0 dcaps=some dcaps) (O:∀a∈L,∀h,bP P X GL fid ((λa=>AV.ag (eF a)) a::dcaps) h (.b (B a)) h):bP P X GL 203 [eR eF 9 nl L,.f fid [] caps] h (.b (L.any B)) h:=by
 refine oE S (m:=0) ?_ (PY hd (eu (n:=11) ju)) rfl;refine bg.intro λC E=> ?_;refine E.bS (F.f 203) (Y0 ?_);refine E.run ?_;refine E.bS (F.f 315) (Y0 ?_);refine fj E.ok L.length (PX (eR eF 9 nl L) L fid dcaps B) ?_ ?_ _ _ ⟨rfl,?_,?_,?_,?_,by rw[List.drop_zero]⟩;rintro i τ _ hi ⟨rfl,t0,t1,t7,t8,H⟩ U;have G:L[i]? =some L[i]:=ef hi;have J:=List.getElem_mem hi;generalize L[i]=a at G J;have I:sub (L.flatMap eF) (i*9) 9=some (eF a):=cW JP G (j:=0) (n:=9) ω;have ad:=QS G H;have cc:=O a J;simp only[eF] at I cc;refine Z5 t0 t1 t7 t8 I ?_;refine E.cN (cc _) ?_;cases hb:B a with
 |true=>
  refine Y0 ?_;exact⟨1,by rw[ad.1 hb];rfl⟩
 |false=>
  refine Y1 t8 ?_;refine U _ _ ⟨rfl,?_,?_,?_,?_,ad.2 hb⟩;exact U1 t0;exact U1 t1;exact U1 t7;exact U0
 rintro τ _ ⟨rfl,t0,t1,t7,t8,H⟩;refine Y2 t7 t8 ?_;exact⟨1,by rw[H,List.drop_length];rfl⟩;(iterate 4 exact U0)
theorem ca9 {L nl B} (V:L.length<=1000000) {fid caps dcaps h} (hd:∀n≥10,bJ n h caps=some dcaps) (R:∀n≥10,bJ n h0 dcaps=some dcaps) (O:∀a∈L,∀h,bP P X GL fid ((λa:Nat=>AV.i .i64 (a)) a::dcaps) h (.b (B a)) h):bP P X GL 205 [eR cI 1 nl L,.f fid [] caps] h (.b (L.any B)) h:=by
 refine oE S (m:=0) ?_ (PY hd (eu (n:=11) yZ)) rfl;refine bg.intro λC E=> ?_;refine E.bS (F.f 205) (Y0 ?_);refine E.run ?_;refine E.bS (F.f 228) (Y0 ?_);refine fj E.ok L.length (PX (eR cI 1 nl L) L fid dcaps B) ?_ ?_ _ _ ⟨rfl,?_,?_,?_,?_,by rw[List.drop_zero]⟩;rintro i τ _ hi ⟨rfl,t0,t1,t7,t8,H⟩ U;have G:L[i]? =some L[i]:=ef hi;have J:=List.getElem_mem hi;generalize L[i]=a at G J;have I:sub (L.flatMap cI) i 1=some (cI a):=by have:=cW qw G (j:=0) (n:=1) ω;rwa [vH] at this
 have ad:=QS G H;have cc:=O a J;simp only[cI] at I cc;refine Z5 t0 t1 t7 t8 I ?_;refine E.cN (cc _) ?_;cases hb:B a with
 |true=>
  refine Y0 ?_;exact⟨1,by rw[ad.1 hb];rfl⟩
 |false=>
  refine Y1 t8 ?_;refine U _ _ ⟨rfl,?_,?_,?_,?_,ad.2 hb⟩;exact U1 t0;exact U1 t1;exact U1 t7;exact U0
 rintro τ _ ⟨rfl,t0,t1,t7,t8,H⟩;refine Y2 t7 t8 ?_;exact⟨1,by rw[H,List.drop_length];rfl⟩;(iterate 4 exact U0)
end
def DV:List (List Nat):=[[],[43],[42],[40],[41],[105,102],[101,108,115,101],[59],[94],[120],[121],[97,98],[122],[37],[37,97],[37,98,32,99]]
def bT9 {s} (hi:i<9) (h:bF6 i s):s∈DV:=by
 rcases h with rfl|rfl|⟨k,j,rfl⟩;rcases(show i=0∨i=1∨i=2∨i=3∨i=4∨i=5∨i=6∨i=7∨i=8 by omega) with rfl|rfl|rfl|rfl|rfl|rfl|rfl|rfl|rfl<;>decide
 decide
 rcases(show k=0∨k=1∨k=2∨k=3∨k=4∨k=5 by omega) with rfl|rfl|rfl|rfl|rfl|rfl<;>decide
def bG3 {k} (j:k<3):tY k∈DV:=by
 rcases(show k=0∨k=1∨k=2 by omega) with rfl|rfl|rfl<;>decide
def cb0:(DV.all λs=>decide (s.length<=4)&&s.all λb=>decide (b<256)&&decide (b≠10))=true:=by decide
def bU0 {s} (h:s∈DV):s.length<=4/\∀b∈s,b<256/\ b≠10:=by
 have:=fX.1 cb0 s h;rw[aB,fX,aU] at this;exact⟨this.1,λb hb=>by have:=this.2 b hb;rw[aB,aU,aU] at this;exact this⟩
def RX (f:Nat) (a:List AV):Option AV:=bif Nat.beq f 316 then (match a with
 |[.s s,.i .u8 (.ofNat 10)]=>bif List.rec (motive:=λ_=>Bool) true (λb _ j=>bif Nat.beq b 10 then false else j) s then some (ι (.negSucc 0)) else none
 |_=>none) else none
def hCt (GL:T (List AV)):((DV++[[32],[]]).all λs=>gM GL aG RX 1000 23 [.s s,.s [10]] (.b false))=true:=lR
def RY (i:Nat) (f:Nat) (a:List AV):Option AV:=bif Nat.beq f 194 then (match a with|[x]=>bif cZ 64 x (eR iF 5 true (jg i)) then some (ι 0) else none|_=>none)
 else bif Nat.beq f 195 then (match a with|[x]=>bif cZ 64 x (eR iF 5 true (jg i)) then some (.dp (DQ (DN i)) 0) else none|_=>none) else none
def PU (i:Nat) (s:List Nat) (b:Bool):Bool:=gM mU aG (RY i) 10000 105 [eR iF 5 true (jg i),.s s] (.b b)
def cb5:(DV.all λs=>PU 0 s true||PU 0 s false)=true:=lR
def cb6:(DV.all λs=>PU 10 s true||PU 10 s false)=true:=lR
def ao1 {α:Type} {L:List α} {p:α ->Bool ->Prop} (h:∀a∈L,∃b,p a b):∃B:α ->Bool,∀a∈L,p a (B a):=by
 classical
 exact⟨λa=>if q:a∈L then (h a q).choose else false,λa j=>by dsimp only;rw[dif_pos j];exact(h a j).choose_spec⟩
def bG4 (h:1<=i/\ i<9):jQ i≠[]:=by
 rcases(show i=1∨i=2∨i=3∨i=4∨i=5∨i=6∨i=7∨i=8 by omega) with rfl|rfl|rfl|rfl|rfl|rfl|rfl|rfl<;>simp[jQ,kj]
def Jt (P:Program) (X:aR) (GL:T (List AV)) (f:Nat) (a:List AV):Prop:=∃b,∀h,bP P X GL f a h (.b b) h
def Ib (P:Program) (X:aR) (GL:T (List AV)):Prop:=∀(s:List Nat) (h:AH),10∉s ->bP P X GL 316 [.s s,.i .u8 10] h (ι (-1)) h
section
variable {P:Program} {X:aR} {GL:T (List AV)} {ae:T au} (S:aT P X GL ae)
include S
theorem cb7 (I:Ib P X GL):Dp P X GL RX:=λf a v h hh=>by
 unfold RX at h;rw[fv] at h;split at h;rename_i G;rw[bu,aU] at G;subst G;split at h;rename_i s;rw[fv] at h;split at h;rename_i J;cases h;refine I s hh λH=> ?_;clear hh;induction s with
 |nil=>cases H
 |cons b s O=>
  have j:(bif Nat.beq b 10 then false else _)=true:=J;rw[fv] at j;split at j;cases j;rename_i hb;rcases ey.1 H with e|e;rw[←e] at hb;exact hb rfl;exact O j e
 cases h;cases h;cases h
theorem bU1 (F:bz8 ae) (I:Ib P X GL) {s} (j:s∈DV++[[32],[]]) h:bP P X GL 23 [.s s,.s [10]] h (.b false) h:=
 dR S (hY F (cb7 S I) (fX.1 (hCt GL) s j)) (n:=9) (by simp only[aL,bZ,oK]) h
theorem cb8 (F:bz8 ae) (hg:GL=mU) {i} (hi:Mr i):Dp P X GL (RY i):=λf a v h hh=>by
 unfold RY at h;rw[fv] at h;split at h;rename_i j;rw[bu,aU] at j;subst j;split at h;rename_i x;rw[fv] at h;split at h;rename_i G;cases h;rw[HZ 64 x _ G];exact Kg S F hi hh;cases h;cases h;rw[fv] at h;split at h;rename_i j;rw[bu,aU] at j;subst j;split at h;rename_i x;rw[fv] at h;split at h;rename_i G;cases h;rw[HZ 64 x _ G];exact bT6 S F hg hi hh;cases h;cases h;cases h
theorem bU2 (F:bz8 ae) (hg:GL=mU) {i} (hi:i=0∨i=10) {s} (j:s∈DV):Jt P X GL 105 [eR iF 5 true (jg i),.s s]:=by
 have key:(PU i s true||PU i s false)=true:=by
  rcases hi with rfl|rfl;exact fX.1 cb5 s j;exact fX.1 cb6 s j
 have G:Mr i:=by unfold Mr;omega
 have one:∀b,PU i s b=true ->∀h,bP P X GL 105 [eR iF 5 true (jg i),.s s] h (.b b) h:=λb hb h=>
  dR S (hY F (cb8 S F hg G) (by rw[hg];exact hb)) (n:=9) (by simp only[aL,bZ,oK,eu Eu]) h
 rcases Bool.or_eq_true_iff.1 key with k|k;exact⟨true,one _ k⟩;exact⟨false,one _ k⟩
theorem bU3 (FC:bz8 ae) (F:bz8 ae) (hg:GL=mU) {t i} (hi:i<9∨i=10) {s} (H:s∈DV):Jt P X GL 60 [.ag (dq (t,i)),.s s]:=by
 have dp:bJ 11 h0 [.ag (dq (t,i)),.s s]=some [.ag (dq (t,i)),.s s]:=by rw[aL,aL,bZ,oK,nX (n:=10) (jD (n:=9) (t,i))]
 by_cases G:jQ i=[];have j:(jQ i=[])=True:=fq G;have hi':i=0∨i=10:=by
  rcases hi with hi|hi;by_cases e:i=0;exact .inl e;exact bh G (bG4 ω);exact .inr hi
 obtain⟨b,hb⟩:=bU2 S FC hg hi' H;refine⟨b,λh=>dR S (bg.intro λC E=> ?_) dp h⟩;refine E.bS (F.f 60) (Y2 @dq.eq_1 j ?_);refine E.cN (hb _) (Y0 ?_);exact⟨1,rfl⟩;have j:(jQ i=[])=False:=dQ G;refine⟨decide (jQ i=s),λh=>dR S (bg.intro λC E=> ?_) dp h⟩;refine E.bS (F.f 60) (Y3 @dq.eq_1 j @aP0 ?_);exact⟨1,rfl⟩
end
def Od {o v l d} (e:h.oB.get o=some (.cells v l)) (e2:bJ n h l=some d):deep (n+1) h (.p o 0)=some (.dp d 0):=by
 show(match h.oB.get o with
  |some (.cells _ l)=>(match eM (deep n h) l with|some l=>some (AV.dp l 0)|none=>none)
  |_=>none)=_
 rw[e];dsimp only;rw[show eM (deep n h) l=some d from e2]
def BN {k l d} (e2:bJ n h l=some d):deep (n+1) h (.dp l k)=some (.dp d k):=by
 show(match eM (deep n h) l with|some l=>some (AV.dp l k)|none=>none)=_;rw[show eM (deep n h) l=some d from e2]
section
variable {P:Program} {X:aR} {GL:T (List AV)} {ae:T au} (S:aT P X GL ae) (A:dY P X GL) (FC:bz8 ae) (F:bz8 ae) (FE:bz8 ae) (hg:GL=mU)
include S A FC F FE hg
theorem cb9 {t} (O:cA 3 t=true) {i} (hi:i<11) {c:Nat} (I:c<8) {s} (J:s∈DV):Jt P X GL 58 [.ag (dq (t,i)),.dp [.i .u64 (c)] 0,.dp [.s s] 0]:=by
 have j:nice 64 (.ag (dq (t,i)))=true:=by rw[qe,oM]
 have dp:bJ 12 h0 [.ag (dq (t,i)),.dp [.i .u64 (c:Int)] 0,.dp [.s s] 0]=some [.ag (dq (t,i)),.dp [.i .u64 (c:Int)] 0,.dp [.s s] 0]:=by
  rw[aL,aL,aL,bZ,nX (n:=11) (jD (n:=10) (t,i))];rfl
 have hh:=λh=>bi7 S A FE O I h;simp only[eT,eD] at hh;simp only[dq] at j;by_cases h1:i=10;subst h1;obtain⟨b,hb⟩:=bU3 S FC F hg (t:=t) (i:=10) (.inr rfl) J;have H:(((l7 10:Nat):Int)=2)=True:=fq rfl;simp only[dq] at hb;cases G:mf t c;rw[G] at hh;refine⟨false,λh=>dR S (bg.intro λC E=> ?_) dp h⟩;refine E.bS (F.f 58) (Y1 @dq.eq_1 ?_);refine E.cN (hh _) (Y0 ?_);exact⟨1,rfl⟩;rw[G] at hh;refine⟨b,λh=>dR S (bg.intro λC E=> ?_) dp h⟩;refine E.bS (F.f 58) (Y1 @dq.eq_1 ?_);refine E.cN (hh _) (Y0 ?_);refine E.cN (hb _) (Y0 ?_);exact⟨1,rfl⟩;have H:(((l7 i:Nat):Int)=2)=False:=dQ (by unfold l7;split<;>omega);refine⟨false,λh=>dR S (bg.intro λC E=> ?_) dp h⟩;refine E.bS (F.f 58) (Y3 @dq.eq_1 @h0.eq_1 H ?_);exact⟨1,rfl⟩
theorem cc0 {g} (G:oy g) {c:Nat} (V:c<8) {s} (Y:s∈DV):Jt P X GL 56 [.s s,.dp (bx g) 0,.dp [.i .u64 (c)] 0]:=by
 have H:∀k,nice 64 (.dp (bx g) k)=true:=λk=>by rw[fK,aO2]
 have dp:bJ 12 h0 [.s s,.dp (bx g) 0,.dp [.i .u64 (c:Int)] 0]=some [.s s,.dp (bx g) 0,.dp [.i .u64 (c:Int)] 0]:=by
  have e:deep 12 h0 (.dp (bx g) 0)=some (.dp (bx g) 0):=by
   show(match eM (deep 11 h0) (bx g) with|some l=>some (AV.dp l 0)|none=>none)=_;rw[show eM (deep 11 h0) (bx g)=some (bx g) from SB (n:=9) g]
  rw[aL,aL,aL,bZ,e];rfl
 obtain⟨B,U⟩:=ao1 (L:=g.tc.zipIdx) (p:=λa b=>∀h,bP P X GL 58 [.ag (dq a),.dp [.i .u64 (c:Int)] 0,.dp [.s s] 0] h (.b b) h) λa I=>by
  obtain⟨t,i⟩:=a;have h1:=List.mem_zipIdx I;have h2:=G.tcl;have O:i<11:=by have:=h1.2.1;omega
  have R:t∈g.tc:=by rw[h1.2.2];exact List.getElem_mem _
  exact cb9 S A FC F FE hg (G.tc t R).f O V Y
 have J:=λh d=>ca7 S F (L:=g.tc.zipIdx) (nl:=true) (B:=B) (by rw[ny,G.tcl];omega) (h:=h) (fid:=58) (caps:=[.dp [.i .u64 (c:Int)] 0,.p 0 0]) (dcaps:=[.dp [.i .u64 (c:Int)] 0,.dp [.s s] 0]) d (λn W=>by
  obtain⟨m,rfl⟩:∃m,n=m+1:=⟨n-1,by omega⟩;rw[aL,aL,bZ,BN (l:=[.i .u64 (c:Int)]) (by rw[aL,bZ,dH]),BN (l:=[.s s]) (by rw[aL,bZ,oK])]) λa I h=>U a I h
 by_cases h1:s=[];have j:(s=[])=True:=fq h1;refine⟨true,λh=>dR S (bg.intro λC E=> ?_) dp h⟩;simp only[bx] at H;refine E.bS (F.f 56) (Y2 @bx.eq_1 j ?_);exact⟨1,rfl⟩;have j:(s=[])=False:=dQ h1;refine⟨!g.tc.zipIdx.any B,λh=>dR S (bg.intro λC E=> ?_) dp h⟩;simp only[bx] at H;refine E.bS (F.f 56) (Y2 @bx.eq_1 j ?_);refine E.cN (J _ λn W=> ?_) ?_;obtain⟨m,rfl⟩:∃m,n=m+1:=⟨n-1,by omega⟩;rw[aL,aL,bZ,BN (l:=[.i .u64 (c:Int)]) (by rw[aL,bZ,dH]),Od (v:=0) (l:=[.s s]) U0 (by rw[aL,bZ,oK])];refine Y0 ?_;exact⟨1,rfl⟩
end
end
end AM
