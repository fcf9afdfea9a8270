import Derived.Test.YtdmkaddihnnbaaaGreatDoorN30
set_option linter.all false
set_option maxHeartbeats 8000000
namespace AM
open Go
noncomputable section
section
variable {P:Program} {X:aR} {GL:T (List AV)} {ae:T au}
def FrC (h:AH) (a d:AV):Prop:=(a= .sn/\ d= .sn)∨∃q n esz cells,a= .sl q 0 n none esz/\ cG (h.oB.get q)=some cells/\ kI.flatL 0 cells=true/\ d= .ds cells 0 n esz
def qr (p:AV×AH) (y:AV):Prop:=∃a d e,p.1= .tu [a,.i .i64 e]/\ FrC p.2 a d/\ y= .tu [d,.i .i64 e]
open Classical in
def sw (K:AV ->Prop) (p:AV×AH):AV:=if h:∃y,K y/\ qr p y then h.choose else .un
def bT1 {K p} (h:∃y,K y/\ qr p y):K (sw K p)/\ qr p (sw K p):=by
 grind[sw]
def bX9 (S:aT P X GL ae) {f args dargs h n} (ha:bJ n h args=some dargs) {Q} (O:du (tD P X GL ae) f dargs h0 Q) {K:AV ->Prop} (Y:∀x h1,Q x h1 ->∃y,K y/\ qr (x,h1) y):
 ∃l:List (AV×AH),(∀p∈l,K p.1/\ p.2=h)/\ P7 P X GL f args h l:=by
 obtain⟨n0,R⟩:=O;obtain⟨l,hl,R⟩:=(Nd Dm (n:=n0) (λc τ h α f J=>ya Dm n0 c τ h J) f dargs h0).fin (λp=>Q p.1 p.2) R;refine⟨l.map λp=>(sw K p,h),λp O=> ?_,λc w vs r gl hv=> ?_⟩;obtain⟨q,hq,rfl⟩:=sV.1 O;exact⟨(bT1 (Y q.1 q.2 (hl q hq))).1,rfl⟩;have r0:RS (dJ X) (c.only (fL w) GL) h0 w:=r.only gl S.gl (λb row hb=>Dl hb) (λb row hb=>by obtain⟨t,V,e⟩:=r.im b row hb;exact qS e);have G:bX (c.only (fL w) GL) dargs vs:=
  (yf (CR:=dJ X) (c:=c) (h:=h) (w:=w) (c2:=c.only (fL w) GL) (λo ver l H=>r.obj _ _ H) (λb row hb=>by obtain⟨t,V,e⟩:=r.im b row hb;exact qS e)
   (λo ver l H row t V gY=>qS gY) n).2 _ _ _ ha hv
 obtain⟨fn,b,e1,e2,e3,e4⟩:=Db S.sound (wS S.sound n0).1 R r0 (λg l h=>h) G;rw[Da e1 e2 e3];refine vN e4 λe w' Z=> ?_;cases e with
 |returned v'=>
  obtain⟨x,h1,c1,hm,j,I⟩:=Z;refine⟨_,sV.2 ⟨(x,h1),hm,rfl⟩,c.fix w w',Hb r j.keep.size (λb hb=>Ha j hb) j.keep.io,?_⟩;obtain⟨a,d,e,q1,q2,q3⟩:=(bT1 (Y x h1 (hl _ hm))).2;dsimp only at q1 q2;rw[q3];rw[q1] at I;cases I with
  |tu _ b1 U=>
   cases U with
   |cons _ _ va b2 W g2=>
    cases g2 with
    |cons _ _ vb b3 g3 g4=>
     cases g4;cases g3;refine .tu _ _ (.cons _ _ _ _ ?_ (.cons _ _ _ _ (.i _ _) .nil));rcases q2 with ⟨rfl,rfl⟩|⟨q,m,esz,cells,rfl,u,J,rfl⟩;cases W;exact .sn
     ·cases W with
      |sl _ _ _ _ _ A k hdom hcap hle haa hz=>
       obtain⟨ver,hg⟩:∃ver,h1.oB.get q=some (.cells ver cells):=by
        revert u
        rcases h1.oB.get q with _|(_|_|_|_|_)<;>intro u<;>simp only[cG] at u;all_goals first|(cases u;done)|(injection u with u;subst u;exact⟨_,rfl⟩)
       have H:dU c1 h1 q (.cells ver cells):=⟨hg,rfl,hdom⟩;obtain⟨row,t,lo,hi,vs,r1,r2,r3,r4,r5,r6⟩:=j.rs.obj _ _ H;refine .ds cells 0 m esz _ _ k A row vs ?_ r5 ((OG 0).2 _ _ J r4) hle (λxt=>haa ω);show(match c.im (c1.ρ q).1 with|some row=>some row|none=>if w.heap.size<=(c1.ρ q).1 then fL w' (c1.ρ q).1 else none)=some row;rcases j.keep.new q _ H with e|⟨o',ob',bT,_⟩;have hn:c.im (c1.ρ q).1=none:=by
        rcases u:c.im (c1.ρ q).1 with _|b0;rfl;have:=r.im_lt u;omega
       rw[hn];dsimp only;rw[aF e];exact qS r1;exact(rY bT).elim
 |_=>exact Z.elim
end
end
end AM
namespace AM
open Dg Go
noncomputable section
def DU (k:Nat):Nat:=if k<=2 then 0 else if k=3 then 2 else 1
def Ig (u:Nat ->Bool) (a:Nat):Nat ->Bool:=λj=>if j=a then true else u j
def stU (d:Dn) (i:Nat) (u j:Nat ->Bool):Prop:=d.k<=6/\ (d.s=[]∨d.k<=1)/\ (d.n=0∨d.k=4)/\ d.n<=1000/\
 ((
  DU d.k=0/\ d.a=0/\ d.b=0/\ j=u)∨(DU d.k=1/\ d.a<i/\ u d.a=false/\ d.b=0/\ j=Ig u d.a)∨
  (DU d.k=2/\ d.a<i/\ u d.a=false/\ d.b<i/\ Ig u d.a d.b=false/\ j=Ig (Ig u d.a) d.b))
def chk:List Dn ->Nat ->(Nat ->Bool) ->(Nat ->Bool) ->Prop
 |[],_,u,v=>u=v
 |d::D,i,u,v=>∃j,stU d i u j/\ chk D (i+1) j v
def am4:∀{A B i u v w},chk A i u v ->chk B (i+A.length) v w ->chk (A++B) i u w
 |[],B,i,u,v,w,h,h'=>by cases h;exact h'
 |d::A,B,i,u,v,w,⟨u1,h1,h2⟩,h'=>⟨u1,h1,am4 h2 (by rw[show i+1+A.length=i+(d::A).length by simp;omega];exact h')⟩
def Eg (u:Nat ->Bool) (b c:Nat):Nat ->Bool:=λj=>u j||decide (b<=j/\ j<c)
variable {b:Nat}
def bF9 {u}:Eg u b b=u:=by funext j;unfold Eg;rw[ot ω];simp
def bG0 (x:Dt) b u (h:chk (x.po b) b u (Eg u b (b+x.sz-1))) (J:∀j,b<=j ->j<b+x.sz ->u j=false) d (I:DU d.k=1) (H:d.a=b+x.sz-1) (hb:d.b=0) (G:d.k<=6/\ (d.s=[]∨d.k<=1)/\ (d.n=0∨d.k=4)/\ d.n<=1000):chk (x.po b++[d]) b u (Eg u b (b+x.sz)):=by
 have O:=x.sz_pos;refine am4 h ?_;rw[Dt.po_len];refine⟨_,⟨G.1,G.2.1,G.2.2.1,G.2.2.2,.inr (.inl ⟨I,by omega,?_,hb,rfl⟩)⟩,?_⟩;rw[H];unfold Eg;rw[J _ ω ω,ot ω];rfl;rw[H];funext j;unfold Ig Eg;by_cases h1:j=b+x.sz-1;rw[aF h1,zG (p:=b<=j/\ j<b+x.sz) ω];simp;rw[aD h1];congr 1;exact decide_eq_decide.2 ω
def Qr {A}:∀(T:Dt) (b) (u),T.fit A ->(∀j,b<=j ->j<b+T.sz ->u j=false) ->chk (T.po b) b u (Eg u b (b+T.sz-1))
 | .tx s,b,u,_,hu=>⟨u,⟨by show(0:Nat)<=6;omega,.inr (by show(0:Nat)<=1;omega),.inl rfl,by show(0:Nat)<=1000;omega,.inl ⟨rfl,rfl,rfl,rfl⟩⟩,by show u=Eg u b b;rw[bF9]⟩
 | .ln s,b,u,_,hu=>⟨u,⟨by show(1:Nat)<=6;omega,.inr (bB _),.inl rfl,by show(0:Nat)<=1000;omega,.inl ⟨rfl,rfl,rfl,rfl⟩⟩,by show u=Eg u b b;rw[bF9]⟩
 | .hd,b,u,_,hu=>⟨u,⟨by show(2:Nat)<=6;omega,.inl rfl,.inl rfl,by show(0:Nat)<=1000;omega,.inl ⟨rfl,rfl,rfl,rfl⟩⟩,by show u=Eg u b b;rw[bF9]⟩
 | .sq x y,b,u,hf,hu=>by
  have G:=x.sz_pos;have H:=y.sz_pos;simp only[Dt.sz] at hu;refine am4 (v:=Eg (Eg u b (b+x.sz-1)) (b+x.sz) (b+x.sz+y.sz-1)) (am4 (Qr x b u hf.1 λj h1 h2=>hu j h1 ω) ?_) ?_;rw[Dt.po_len];refine Qr y (b+x.sz) _ hf.2 λj h1 h2=> ?_;unfold Eg;rw[hu j ω ω,ot ω];rfl;rw[dy,Dt.po_len,Dt.po_len];refine⟨_,⟨by show(3:Nat)<=6;omega,.inl rfl,.inl rfl,by show(0:Nat)<=1000;omega,.inr (.inr ⟨rfl,by show b+x.sz-1<_;omega,?_,by show b+x.sz+y.sz-1<_;omega,?_,rfl⟩)⟩,?_⟩;unfold Eg;dsimp only;rw[hu _ ω ω,ot ω,ot ω];rfl;unfold Ig Eg;dsimp only;rw[aD ω,hu _ ω ω,ot ω,ot ω];rfl;rw[show(Dt.sq x y).sz=x.sz+y.sz+1 from rfl];funext j;unfold Ig Eg;dsimp only;by_cases h1:j=b+x.sz+y.sz-1;rw[aF h1,zG (p:=b<=j/\ j<b+(x.sz+y.sz+1)-1) ω];simp;rw[aD h1];by_cases h2:j=b+x.sz-1;rw[aF h2,zG (p:=b<=j/\ j<b+(x.sz+y.sz+1)-1) ω];simp;rw[aD h2,Bool.or_assoc];congr 1;rw[←Bool.decide_or];exact decide_eq_decide.2 ω
 | .ne n x,b,u,hf,hu=>bG0 x b u (Qr x b u hf.2 λj h1 h2=>hu j h1 (by simp only[Dt.sz];omega)) (λj h1 h2=>hu j h1 (by simp only[Dt.sz];omega)) _ rfl rfl rfl ⟨by show(4:Nat)<=6;omega,.inl rfl,.inr rfl,hf.1⟩
 | .al x,b,u,hf,hu=>bG0 x b u (Qr x b u hf λj h1 h2=>hu j h1 (by simp only[Dt.sz];omega)) (λj h1 h2=>hu j h1 (by simp only[Dt.sz];omega)) _ rfl rfl rfl ⟨by show(5:Nat)<=6;omega,.inl rfl,.inl rfl,by show(0:Nat)<=1000;omega⟩
 | .gp x,b,u,hf,hu=>bG0 x b u (Qr x b u hf λj h1 h2=>hu j h1 (by simp only[Dt.sz];omega)) (λj h1 h2=>hu j h1 (by simp only[Dt.sz];omega)) _ rfl rfl rfl ⟨by show(6:Nat)<=6;omega,.inl rfl,.inl rfl,by show(0:Nat)<=1000;omega⟩
def QP {A} (h0:A []):∀(T:Dt) (b),T.fit A ->∀d∈T.po b,A d.s
 | .tx s,b,h,d,hd=>by rw[yC.1 hd];exact h
 | .ln s,b,h,d,hd=>by rw[yC.1 hd];exact h
 | .hd,b,h,d,hd=>by rw[yC.1 hd];exact h0
 | .sq x y,b,h,d,hd=>by
  rcases fO.1 hd with hd|hd;rcases fO.1 hd with hd|hd;exact QP h0 x b h.1 d hd;exact QP h0 y _ h.2 d hd;rw[yC.1 hd];exact h0
 | .ne n x,b,h,d,hd=>by
  rcases fO.1 hd with hd|hd;exact QP h0 x b h.2 d hd;rw[yC.1 hd];exact h0
 | .al x,b,h,d,hd| .gp x,b,h,d,hd=>by
  rcases fO.1 hd with hd|hd;exact QP h0 x b h d hd;rw[yC.1 hd];exact h0
def SL (b:Nat) (h:AH) (v:AV) (n esz:Nat) (cs:List AV):Prop:=(n=0/\ v= .sn/\ cs=[])∨∃q,v= .sl q 0 n none esz/\ b<=q/\ q<h.next/\ cG (h.oB.get q)=some cs/\ cs.length=n*esz
variable {h:AH} {n esz:Nat}
def SL.up {h' v cs} (H:SL b h v n esz cs) (J:h.next<=h'.next) (old:∀j,b<=j ->j<h.next ->h'.oB.get j=h.oB.get j):SL b h' v n esz cs:=by
 rcases H with H|⟨q,h1,h2,u,G,I⟩;exact .inl H;exact .inr ⟨q,h1,h2,by omega,by rw[old q h2 u];exact G,I⟩
def SL.nice {v cs} (H:SL b h v n esz cs):AM.nice 64 v=true/\ ew v=true/\ cellsOf v=[v]/\ cellsO v=some [v]/\∀h,kg h v= .v (ι (n)) h:=by
 rcases H with ⟨rfl,rfl,rfl⟩|⟨q,rfl,-⟩;exact⟨rfl,rfl,rfl,rfl,λ_=>rfl⟩;exact⟨rfl,rfl,rfl,rfl,λ_=>rfl⟩
def SL.ne {v cs} (H:SL b h v n esz cs) {j} (u:j<b):∀n c,v≠.sl j 0 n c esz:=λm c e=>by
 rcases H with ⟨-,h,-⟩|⟨q,h,h2,-⟩;rw[h] at e;cases e;rw[h] at e;cases e;omega
def SL.push {v o2 cs new} (H:SL b h v n esz cs) (hb:b<=h.next) (c2:cG (h.oB.get o2)=some new) (u:new.length=esz) (I:wV new=true) (R:n+1<=1048576):
 ∃h',gU h esz v (.sl o2 0 1 (some 1) esz)= .v (.sl h.next 0 (n+1) none esz) h'/\ h'.next=h.next+1/\ SL b h' (.sl h.next 0 (n+1) none esz) (n+1) esz (cs++new)/\∀j,j<h.next ->(∀n c,v≠.sl j 0 n c esz) ->h'.oB.get j=h.oB.get j:=by
 rcases H with ⟨rfl,rfl,rfl⟩|⟨q,rfl,h2,V,J,G⟩;refine⟨_,by rw[IE,c2,IF,aF ⟨u,I⟩],rfl,.inr ⟨h.next,rfl,hb,qI _,?_,by simp[u]⟩,λj O _=> ?_⟩;show cG ((h.oB.put h.next _).get h.next)=_;rw[T.get_put,aF rfl];rfl;show(h.oB.put h.next _).get j=_;rw[T.get_put,aD ω];refine⟨_,by rw[IE,c2,Ra,aF ⟨u,I⟩,J,Rb,aF ⟨G,R⟩],rfl,.inr ⟨h.next,rfl,hb,qI _,?_,by rw[dy,G,u,vE]⟩,λj O U=> ?_⟩;show cG (((h.oB.put q _).put h.next _).get h.next)=_;rw[T.get_put,aF rfl];rfl;show((h.oB.put q _).put h.next _).get j=_;rw[T.get_put,aD ω,T.get_put,aD (λe=>U n none (by rw[e]))]
def A8 (dv bp:AV) (g:Gr) (nv gv:AV) (a l:Nat) (mk:AV):List AV:=dv::bp::(ar g++[nv,gv,.i .i64 (a:Int),.i .i64 (l:Int),mk])
structure BX where
 m0:Nat
 o:Nat
 ob0:T bC
 bp:AV
 g:Gr
 nv:AV
 gv:AV
 mv:AV
 pr:Nat ->Option (List AV)
structure yx (x:BX) (h:AH) (D:List Dn) (a l:Nat):Prop where
 lo:x.o<x.m0
 nx:x.m0<=h.next
 ob:∃dv,SL x.m0 h dv D.length 5 (D.flatMap yV)/\ cG (h.oB.get x.o)=some (A8 dv x.bp x.g x.nv x.gv a l x.mv)/\∀j cs,x.pr j=some cs ->x.m0<=j/\ j<h.next/\ cG (h.oB.get j)=some cs/\∀n c,dv≠.sl j 0 n c 5
 old:∀j,j<x.m0 ->j≠x.o ->h.oB.get j=x.ob0.get j
def bY0 {n} d:nice.niceL n (yV d)=true:=by simp only[yV,Bg,iq,j9,ye,A7]
section
variable {P:Program} {X:aR} {GL:T (List AV)} {ae:T au} {C:aK Prop} (E:Sem P X GL ae C) (F:A5 ae) {x:BX} {h:AH} {D:List Dn} {a l:Nat}
include E F
theorem I2 (H:yx x h D a l) (hD:D.length+1<=1048576) {d} k (hk:∀h',yx x h' (D++[d]) a l ->k (ι (D.length:Int)) h'):du C 64 [.p x.o 0,.ag (yV d)] h k:=by
 obtain⟨lo,nx,⟨dv,hd,O,pk⟩,old⟩:=H;obtain⟨n0,v0,ob⟩:=h;dsimp only at nx O old pk;obtain⟨r1,r2,r3,r4,-⟩:=hd.nice;have W:(x.o=n0)=False:=av;have Y:(x.o=n0+1)=False:=av;have bT:=O;obtain⟨h2,pe,pn,Z,G⟩:=SL.push (o2:=n0+1) (new:=yV d) (hd.up (h':=⟨n0+1+1,v0+1,(ob.put n0 (.cells v0 (yV d))).put (n0+1) (.cells v0 (yV d))⟩) (by show n0<=n0+1+1;omega) λj _ u=>(by
  have m9:j<n0:=u;have R:(j=n0)=False:=av;have U:(j=n0+1)=False:=av;exact U0)) (by show x.m0<=n0+1+1;omega) (by exact U0) rfl rfl hD
 obtain⟨V,v2,J⟩:=h2;have b0:V=n0+1+1+1:=pn;have c2:cG (J.get x.o)=some (A8 dv x.bp x.g x.nv x.gv a l x.mv):=by
  rw[show J.get x.o=_ from G x.o (by show x.o<n0+1+1;omega) (hd.ne lo)];exact wW (ec W Y) bT
 simp only[A8,ar,gw,gx] at O c2;simp only[yV] at pe;have s1:aY .sub (ι ((D.length+1:Nat):Int)) (ι 1)=some (ι (D.length:Int)):=qV (a:=D.length+1) (b:=1) ω;refine E.bS F.f64 (Y6 @yV.eq_1 O @tM pe c2 s1 ?_);refine hk _ ⟨lo,?_,⟨.sl (n0+1+1) 0 (D.length+1) none 5,?_,?_,λj cs u=> ?_⟩,λj u I=> ?_⟩;show x.m0<=V;omega;rw[dy,lF,Bd,pO];refine Z.up (bB _) λj u _=> ?_;have w:(j=x.o)=False:=av;exact U0;simp only[A8,ar,gw,gx];exact U0;obtain⟨j1,j2,j3,j4⟩:=pk j cs u;have w:(j=x.o)=False:=av;have R:(j=n0)=False:=av;have U:(j=n0+1)=False:=av;refine⟨j1,by show j<V;omega,?_,λn c e=>by cases e;omega⟩;have e:cG (J.get j)=some cs:=by
  rw[show J.get j=_ from G j (by show j<n0+1+1;omega) j4];exact wW (ec R U) j3
 exact wW w e;have w:(j=x.o)=False:=dQ I;have R:(j=n0)=False:=av;have U:(j=n0+1)=False:=av;refine wW w ((G j (by show j<n0+1+1;omega) (hd.ne u)).trans ?_);exact wW (ec R U) (old j u I)
end
instance:Nc yV:=⟨λ_ _=>bY0 _⟩
attribute [go_sem] bY0
def DL:Nat ->Option Dt
 |0=>none
 |n+1=>jn (DL n) (some .hd)
def bT2:∀n,uT (DL n)<=2*n
 |0=>bB _
 |n+1=>by have:=HH (DL n) (some .hd);have:=bT2 n;simp only[DL,uT,Dt.sz] at*;omega
variable {i:Nat}
def bG1 {T}:(A9 i (some T)<0)=False:=dQ (by show¬(((i+T.sz-1:Nat):Int)<0);omega)
section
variable {P:Program} {X:aR} {GL:T (List AV)} {ae:T au} {C:aK Prop} (E:Sem P X GL ae C) (F:A5 ae) {x:BX} {h:AH} {D:List Dn} {a l:Nat}
include E F
theorem Qt (H:yx x h D a l) (j:D.length+1<=1048576) {s} k (u:∀h',yx x h' (D++yz D.length (some (.tx s))) a l ->k (ι (A9 D.length (some (.tx s)))) h'):du C 30 [.p x.o 0,.s s] h k:=by
 refine E.bS F.f30 (Y0 ?_);refine E.run (I2 E F H j (d:=⟨0,s,0,0,0⟩) _ λh' H'=> ?_);refine Y0 ?_;exact u h' H'
theorem bT3 (H:yx x h D a l) (j:D.length+1<=1048576) {s} k (u:∀h',yx x h' (D++yz D.length (some (.ln s))) a l ->k (ι (A9 D.length (some (.ln s)))) h'):du C 62 [.p x.o 0,.s s] h k:=by
 refine E.bS F.f62 (Y0 ?_);refine E.run (I2 E F H j (d:=⟨1,s,0,0,0⟩) _ λh' H'=> ?_);refine Y0 ?_;exact u h' H'
theorem I3 {i A B} (H:yx x h (D++yz i A++yz (i+uT A) B) a l) (hi:D.length=i) (u:i+uT A+uT B+1<=1048576) k (j:∀h',yx x h' (D++yz i (jn A B)) a l ->k (ι (A9 i (jn A B))) h'):du C 28 [.p x.o 0,.i .i64 (A9 i A),.i .i64 (A9 (i+uT A) B)] h k:=by
 rw[E.cB F.f28];rcases A with _|A;refine Y0 ?_;refine j h ?_;simpa[yz,uT,jn] using H;rcases B with _|B;refine Y1 (@bG1 i A) ?_;refine j h ?_;simpa[yz,uT,jn] using H;refine Y2 (@bG1 i A) (@bG1 (i+uT (some A)) B) ?_;have e:(D++yz i (some A)++yz (i+uT (some A)) (some B)).length=i+A.sz+B.sz:=by simp only[dy,yz,uT,Dt.po_len];omega
 refine E.run (I2 E F H (by rw[e];exact u) (d:=⟨3,[],0,i+A.sz-1,i+A.sz+B.sz-1⟩) _ λh' H'=> ?_);rw[e];refine Y0 ?_;have e2:A9 i (jn (some A) (some B))=((i+A.sz+B.sz:Nat):Int):=by show((i+(A.sz+B.sz+1)-1:Nat):Int)=_;omega
 rw[e2] at j;exact j h' (by simp only[jn,yz,Dt.po,←nz];exact H')
theorem an5 {n} (H:yx x h D a l) (G:D.length+2*n+1<=1048576) k (j:∀h',yx x h' (D++yz D.length (DL n)) a l ->k (ι (A9 D.length (DL n))) h'):du C 29 [.p x.o 0,.i .i64 (n)] h k:=by
 refine E.bS F.f29 (Y0 ?_);refine fj E.ok n (λi τ h=>τ.get 0=some (.p x.o 0)/\ τ.get 5=some (ι (A9 D.length (DL i)))/\ τ.get 6=some (ι (n:Int))/\ τ.get 7=some (ι (i:Int))/\ yx x h (D++yz D.length (DL i)) a l) ?_ ?_ _ _ ⟨?_,?_,?_,?_,?_⟩;rintro i τ h hi ⟨t0,t5,t6,t7,H⟩ u;have sz:=bT2 i;have le:(D++yz D.length (DL i)).length=D.length+uT (DL i):=by
  rw[dy];cases DL i with
  |none=>rfl
  |some T=>show _+(T.po _).length=_;rw[Dt.po_len];rfl
 refine Y4 t0 t5 t6 t7 ?_;refine E.run (I2 E F H (by rw[le];omega) (d:=⟨2,[],0,0,0⟩) _ λh' H'=> ?_);rw[le];refine Y4 t0 t5 t6 t7 ?_;refine E.run (I3 E F (D:=D) (A:=DL i) (B:=some .hd) H' rfl (by show D.length+uT (DL i)+1+1<=_;omega) _ λh2 H2=> ?_);refine Y1 t7 ?_;refine u _ _ ⟨?_,?_,?_,?_,H2⟩;exact U1 t0;(iterate 3 exact U1 t6);rintro τ h ⟨t0,t5,t6,t7,H⟩;refine Y3 t5 t6 t7 ?_;exact j h H;(iterate 4 exact U0);simpa[DL,yz] using H
end
def yx.up {x h' D a l} (H:yx x h D a l) (J:h.next<=h'.next) (old:∀j,j<h.next ->h'.oB.get j=h.oB.get j):yx x h' D a l:=by
 obtain⟨lo,nx,⟨dv,hd,O,Y⟩,I⟩:=H;exact⟨lo,by omega,⟨dv,hd.up J λj _ u=>old j u,by rw[old x.o ω];exact O,λj cs u=>by obtain⟨R,U,V,W⟩:=Y j cs u;exact⟨R,by omega,by rw[old j U];exact V,W⟩⟩,λj u G=>by rw[old j ω];exact I j u G⟩
def yx.box {x v ob D a l} (H:yx x ⟨n,v,ob⟩ D a l) cs:yx x ⟨n+1,v,ob.put n cs⟩ D a l:=
 H.up (nD n) λj u=>by
  have G:j<n:=u;exact U0
def bG2 (s:List Nat):Prop:=s=[]∨s=[32]
structure I8 (T:Option Dt):Prop where
 f:DP bG2 T
 g:DH T=0
 z:uT T<=8
def bT4:∀{n},n<=4 ->I8 (DL n)
 |0,_=>⟨trivial,rfl,by decide⟩
 |1,_=>⟨trivial,rfl,by decide⟩
 |2,_=>⟨⟨trivial,trivial⟩,rfl,by decide⟩
 |3,_=>⟨⟨⟨trivial,trivial⟩,trivial⟩,rfl,by decide⟩
 |4,_=>⟨⟨⟨⟨trivial,trivial⟩,trivial⟩,trivial⟩,rfl,by decide⟩
 |n+5,h=>by omega
section
variable {P:Program} {X:aR} {GL:T (List AV)} {ae:T au} {C:aK Prop} (E:Sem P X GL ae C) (F:A5 ae) {x:BX} {h:AH} {D:List Dn} {a l:Nat}
include E F
theorem bY1 (H:yx x h D a l) (I:D.length+10<=1048576) {r s} (u:bG2 s) {f} (G:f=22∨f=23∨f=24∨f=25∨f=26/\ 0<=r.n/\ r.n<=3) k
 (j:∀T h',I8 T ->yx x h' (D++yz D.length T) a l ->k (ι (A9 D.length T)) h'):du C f [.p x.o 0,.ag (uC r),.s s] h k:=by
 obtain⟨n0,v0,ob⟩:=h;have H1:=H.box (.cells v0 (uC r));simp only[uC] at H1;rcases G with rfl|rfl|rfl|rfl|⟨rfl,r0,r3⟩;rw[E.cB F.f22];have e0:aY .eql (.s []) (.s [])=some (.b true):=rfl;have e1:aY .eql (.s [32]) (.s [])=some (.b false):=rfl;rcases u with rfl|rfl;refine Y2 @uC.eq_1 e0 ?_;exact j none _ ⟨trivial,rfl,by decide⟩ (by simpa[yz] using H1);refine Y2 @uC.eq_1 e1 ?_;refine E.run (Qt E F H1 ω _ λh' H'=> ?_);refine Y0 ?_;exact j (some (.tx [32])) h' ⟨.inr rfl,rfl,by decide⟩ H';refine E.bS F.f23 (Y1 @uC.eq_1 ?_);refine E.run (Qt E F H1 ω _ λh' H'=> ?_);refine Y0 ?_;exact j (some (.tx [32])) h' ⟨.inr rfl,rfl,by decide⟩ H';refine E.bS F.f24 (Y1 @uC.eq_1 ?_);refine E.run (bT3 E F H1 ω _ λh' H'=> ?_);refine Y0 ?_;exact j (some (.ln s)) h' ⟨u,rfl,by show(1:Nat)<=8;omega⟩ H';refine E.bS F.f25 (Y1 @uC.eq_1 ?_);refine E.run (bT3 E F H1 ω _ λh' H'=> ?_);refine Y0 ?_;exact j (some (.ln [32])) h' ⟨.inr rfl,rfl,by decide⟩ H';rw[E.cB F.f26];obtain⟨p,v,J,n⟩:=r;dsimp only at*;obtain⟨m,rfl⟩:∃m:Nat,n=(m:Int):=⟨n.toNat,by omega⟩;refine Y1 @uC.eq_1 ?_;refine E.run (an5 E F (n:=m+1) H1 ω _ λh' H'=> ?_);refine Y0 ?_;exact j _ h' (bT4 ω) H'
end
def Jb (o:Nat):List (Int×AV):=[(0,.f 22 [.p o 0] []),(1,.f 23 [.p o 0] []),(2,.f 24 [.p o 0] []),(3,.f 25 [.p o 0] []),(4,.f 26 [.p o 0] []),(5,.f 26 [.p o 0] [])]
structure Ia (x:BX) (L:List Ru) (N:List Tn) (Gp:List Bool):Prop where
 g:oy x.g
 nv:x.nv=eR fG 4 true N
 nl:1<=N.length/\ N.length<=40
 gv:∃go,x.gv= .sl go 0 Gp.length (some Gp.length) 1/\ go<x.m0/\ go≠x.o/\ cG (x.ob0.get go)=some (Gp.map .b)
 gl:Gp.length=Fo.nlv N
 rv:∀r∈L,eP x.g r=true
 bk:∃b Sp Ns Al Ke,kM L Sp Ns Al Ke/\ x.bp= .p (b+5) 0/\ b+6<=x.m0/\ (∀j,j<=5 ->b+j≠x.o)/\ cG (x.ob0.get (b+5))=some [.m (b+1),.m (b+2),.m (b+3),.m (b+4)]/\
  mG (x.ob0.get (b+1))=mX eJ sL Sp/\ mG (x.ob0.get (b+2))=mX eJ kK Ns/\ mG (x.ob0.get (b+3))=mX kK AV.b Al/\ mG (x.ob0.get (b+4))=mX kK AV.b Ke
 mv:∃mo,x.mv= .m mo/\ mo<x.m0/\ mo≠x.o/\ mG (x.ob0.get mo)=mX kK id (Jb x.o)
def HK {α:Type} {l:List α} {a r} (h:l.drop i=a::r):l[i]? =some a:=by
 have:=congrArg (λl=>l[0]?) h;simpa using this
def HP {α:Type} {l:List α} {a r} (h:l.drop i=a::r):l.drop (i+1)=r:=by
 rw[←ud,h];rfl
section
variable {P:Program} {X:aR} {GL:T (List AV)} {ae:T au} {C:aK Prop} (E:Sem P X GL ae C) (F:A5 ae) {x:BX} {h:AH} {D:List Dn} {a l:Nat} {L:List Ru} {N:List Tn} {Gp:List Bool} (B:Ia x L N Gp)
include E F B
theorem bY2 (H:yx x h D a l) (Y:a<=N.length) k (U:∀b h',h.next<=h'.next ->(∀j,j<h.next ->h'.oB.get j=h.oB.get j) ->k (.b b) h'):du C 204 [.p x.o 0] h k:=by
 obtain⟨-,-,⟨dv,-,R,-⟩,-⟩:=id H;rw[B.nv] at R;have nl:=B.nl;simp only[A8,ar,gw,gx] at R;have hs:∀(τ:T AV) h,az C τ (.t 8)=eR fG 4 true N ->az C τ (.t 12)= .i .i64 (a:Int) ->step (az C τ) h (.slc 4 (.t 8) (some (.t 12)) none none)= .v (.ds (N.flatMap fG) (0+a*4) (N.length-a) 4) h:=λτ h h1 h2=>by
  refine SU (k:=a) ?_ (by rw[h2];exact tC) Y;rw[h1];exact BL (λe=>by rw[e] at nl;simp at nl)
 refine E.bS F.f204 (Z2 R hs ?_);refine fj E.ok (N.length-a) (λi τ h'=>(h.next<=h'.next/\∀j,j<h.next ->h'.oB.get j=h.oB.get j)/\ τ.get 13=some (.ds (N.flatMap fG) (0+a*4) (N.length-a) 4)/\ τ.get 14=some (ι ((N.length-a:Nat):Int))/\ τ.get 15=some (ι (i:Int))) ?_ ?_ _ _ ⟨⟨bB _,λ_ _=>rfl⟩,?_,?_,?_⟩;rintro i τ ⟨n0,v0,ob⟩ hi ⟨⟨O,old⟩,G,u,I⟩ ih;have W:N[a+i]? =some N[a+i]:=oc ω;generalize N[a+i]=t at W;have e4:sub (N.flatMap fG) (a*4+i*4) 4=some (fG t):=by
  have:=cW Uo W (j:=0) (n:=4) ω;rw[show a*4+i*4=(a+i)*4+0 by omega];exact this
 simp only[fG] at e4;dsimp only at O old;have H2:∀j,j<h.next ->((ob.put n0 (.cells v0 [.i .i64 0,.i .i64 0,.s [],.sn])).put n0 (.cells (v0+1) (fG t))).get j=h.oB.get j:=λj Z=>by
  have w:(j=n0)=False:=av;exact wW w (old j Z)
 simp only[fG] at H2;by_cases V:t.prod<0;have J:(t.prod<0)=True:=fq V;refine Z5 G u I e4 J ?_;exact U _ _ (Nat.le_succ_of_le O) H2;have J:(t.prod<0)=False:=dQ V;refine Z5 G u I e4 J ?_;refine ih _ _ ⟨⟨Nat.le_succ_of_le O,H2⟩,?_,?_,?_⟩;exact U1 G;exact U1 u;exact U0;rintro τ h' ⟨⟨O,old⟩,G,u,I⟩;refine Y2 u I ?_;exact U _ _ O old;(iterate 3 exact U0)
theorem bY3 (H:yx x h D a l) {q k:Nat} {p} (J:x.g.pR[q]? =some p) (b0:k<=p.right.length) {f} (hf:Fo.ok x.g (p.right.drop k) f) {R} (hN:N.drop a=f.fl++R) K (Y:K (.b (decide (0<f.lv))) h):du C 105 [.p x.o 0,.i .i64 (q),.i .i64 (k)] h K:=by
 obtain⟨-,-,⟨dv,-,V,-⟩,-⟩:=id H;rw[B.nv] at V;obtain⟨n0,v0,ob⟩:=h;dsimp only at V;have pl:=B.g.pl;have e2:∀{q:Nat} {p:Pr},x.g.pR[q]? =some p ->sub (x.g.pR.flatMap aM) (q*13+2) 1=some [eR ba 2 p.rn p.right]:=λJ=>cW kr J (j:=2) (n:=1) ω;have el:=λ{q:Nat} {p:Pr} (J:x.g.pR[q]? =some p)=>(eC.1 J).1;have r8:=λ{q:Nat} {p:Pr} (J:x.g.pR[q]? =some p)=>(B.g.p p (dI J)).len;have sb:aY .sub (ι (p.right.length:Int)) (ι (k:Int))=some (ι ((p.right.length-k:Nat):Int)):=qV ⟨b0,by have:=r8 J;omega⟩;have s1:=e2 J;have s2:=el J;simp only[A8,ar,gw,gx] at V;have nl:=B.nl;refine E.bS F.f105 (Z3 V s1 sb ?_);refine fj E.ok f.fl.length (λi τ h'=>h'=⟨n0,v0,ob⟩/\ τ.get 0=some (.p x.o 0)/\∃u O,Fo.ok x.g u O/\ N.drop (a+i)=O.fl++R/\ τ.get 7=some (ι (u.length:Int))/\ τ.get 8=some (ι ((a+i:Nat):Int))/\ O.lv=f.lv/\ O.fl.length+i=f.fl.length/\ u.length+i*8<=8+i*16) ?_ ?_ _ _ ⟨rfl,?_,p.right.drop k,f,hf,hN,?_,?_,rfl,rfl,by have:=r8 J;rw[sW];omega⟩;rintro i τ _ hi ⟨rfl,t0,u,O,G,U,t7,t8,Z,hi',I⟩ ih;cases O with
 |nil=>simp[Fo.fl] at hi';omega
 |lf t r=>
  rcases u with _|⟨s,u⟩;exact G.elim;have W:N[a+i]? =some t:=HK U;have aV:=(eC.1 W).1;have e1:sub (N.flatMap fG) ((a+i)*4) 1=some [.i .i64 t.prod]:=by
   have:=cW Uo W (j:=0) (n:=1) ω;simpa[fG] using this
  have hp:(t.prod<0)=True:=fq (by have:=G.1.1;omega);have c0:((0:Int)<((s::u).length:Int))=True:=fq (by simp);have c1:aY .sub (ι ((s::u).length:Int)) (ι 1)=some (ι (u.length:Int)):=qV (a:=u.length+1) (b:=1) (by simp at I;omega);refine Z9 t0 t7 t8 V c0 c1 e1 hp @bG ?_;have:decide (0<f.lv)=true:=zG (by rw[←Z];simp only[Fo.lv];omega);rw[this] at Y;exact Y
 |nd t kd r=>
  rcases u with _|⟨s,u⟩;exact G.elim;obtain⟨⟨q',p',h1,h2,h3,h4,-⟩,h5⟩:=G;have W:N[a+i]? =some t:=HK U;have aV:=(eC.1 W).1;have e1:sub (N.flatMap fG) ((a+i)*4) 1=some [.i .i64 (q':Int)]:=by
   have:=cW Uo W (j:=0) (n:=1) ω;simpa[fG,h1] using this
  have hp:((q':Int)<0)=False:=av;have c0:((0:Int)<((s::u).length:Int))=True:=fq (by simp);have c1:aY .sub (ι ((s::u).length:Int)) (ι 1)=some (ι (u.length:Int)):=qV (a:=u.length+1) (b:=1) (by simp at I;omega);have f1:=e2 h2;have f2:=el h2;have f3:=r8 h2;have c2:aY .add (ι (u.length:Int)) (ι (p'.right.length:Int))=some (ι ((u.length+p'.right.length:Nat):Int)):=oH (by simp at I;omega);refine qt t0 t7 t8 V c0 c1 e1 hp f1 c2 @bG @dw @bK ?_;refine ih _ _ ⟨rfl,?_,p'.right++u,.app kd r,Fo.ok_app h4 h5,?_,?_,?_,by rw[←Z,Fo.lv_app];rfl,?_,by rw[dy];simp at I;omega⟩;exact U1 t0;rw[Fo.fl_app];exact HP (i:=a+i) U;rw[dy,Nat.add_comm p'.right.length];exact U0;exact U0;simp only[Fo.fl,gJ,dy] at hi';rw[Fo.fl_app,dy];omega
 rintro τ _ ⟨rfl,t0,u,O,G,U,t7,t8,Z,hi',I⟩;have e0:O.fl=[]:=pM ω;cases O with
 |nil=>
  cases u with
  |cons s u=>exact G.elim
  |nil=>
   refine Y1 t7 ?_;have:decide (0<f.lv)=false:=ot (by rw[←Z];simp only[Fo.lv];omega);rw[this] at Y;exact Y
 |lf t r=>cases e0
 |nd t kd r=>cases e0
 exact U0;rw[sW];exact U0;exact U0
end
def w8 (w:Nat):List AV:=[.i .u64 (w:Int),.i .u64 0,.i .u64 0,.i .u64 0,.i .u64 0,.i .u64 0,.i .u64 0,.i .u64 0]
def bY4 {n} w:nice.niceL n (w8 w)=true:=by simp only[w8,Bg,iq,j9,A7]
section
variable {P:Program} {X:aR} {GL:T (List AV)} {ae:T au} {C:aK Prop} (E:Sem P X GL ae C) (F:gn ae)
include E F
theorem bY5 {h} {o j r G:Nat} (U:j<64) (u:cG (h.oB.get o)=some (w8 r)) (I:aY .or (.i .u64 (r)) (.i .u64 ((2^j:Nat):Int))=some (.i .u64 (G))) (J:aY .shl (.i .u64 1) (ι (j))=some (.i .u64 ((2^j:Nat):Int))) k
 (H:∀h',h'.next=h.next ->cG (h'.oB.get o)=some (w8 G) ->(∀i,i≠o ->h'.oB.get i=h.oB.get i) ->k (.tu []) h'):du C 302 [.p o 0,.i .i64 (j)] h k:=by
 obtain⟨n0,v0,ob⟩:=h;dsimp only at u;have O:aY .quo (ι (j:Int)) (ι 64)=some (ι 0):=by
  have:=Rj (a:=j) (c:=64) ⟨by omega,by omega⟩;rw[show j/64=0 by omega] at this;exact this
 have R:aY .rem (ι (j:Int)) (ι 64)=some (ι (j:Int)):=by
  have:=iA (a:=j) (c:=64) ω;rw[show j%64=j by omega] at this;exact this
 simp only[w8] at u;refine E.bS F.f302 (Y5 u O R J I ?_);refine H _ rfl ?_ λi hi=> ?_;simp only[w8];exact U0;have w:(i=o)=False:=dQ hi;exact U1 w
def wx (i y m:Nat):List AV:=w8 (if i=0 then y else m)
theorem bY6 {h} {o y m:Nat} (lo:o<h.next) (J:cG (h.oB.get o)=some (w8 y)) (W:aY .or (.i .u64 (y)) (.i .u64 (m))=some (.i .u64 (m))) k
 (V:∀h',h.next<=h'.next ->cG (h'.oB.get o)=some (w8 m) ->(∀i,i<h.next ->i≠o ->h'.oB.get i=h.oB.get i) ->k (.tu []) h'):du C 300 [.p o 0,.ag (w8 m)] h k:=by
 obtain⟨n0,v0,ob⟩:=h;dsimp only at J lo;have z0:aY .or (.i .u64 0) (.i .u64 0)=some (.i .u64 0):=rfl;refine E.bS F.f300 (Y2 @Jk.eq_1 @w8.eq_1 ?_);refine fj E.ok 8 (λi τ h=>τ.get 0=some (.p o 0)/\ τ.get 3=some (.p n0 0)/\ τ.get 5=some (ι (i:Int))/\ n0<h.next/\ cG (h.oB.get n0)=some (w8 m)/\ cG (h.oB.get o)=some (wx i y m)/\∀j,j<n0 ->j≠o ->h.oB.get j=ob.get j) ?_ ?_ _ _ ⟨?_,?_,?_,qI _,?_,?_,λj G u=> ?_⟩
 ·rintro i τ ⟨n1,v1,I⟩ hi ⟨t0,t3,t5,H,c0,c1,old⟩ Y;dsimp only at H c0 c1 old;have R:(o=n0)=False:=av;have fin:∀(τ':T AV) (v':Nat) (ob':T bC),τ'.get 0=some (.p o 0) ->τ'.get 3=some (.p n0 0) ->τ'.get 5=some (ι ((i+1:Nat):Int)) ->cG (ob'.get o)=some (wx (i+1) y m) ->(∀j,j≠o ->ob'.get j=I.get j) ->df C _ _ _ τ' ⟨n1,v',ob'⟩:=λτ' v' ob' Z u3 u5 uo O=>
   Y τ' ⟨n1,v',ob'⟩ ⟨Z,u3,u5,H,by show cG (ob'.get n0)=_;rw[O n0 ω];exact c0,uo,λj G u=>(O j u).trans (old j G u)⟩
  have U:aY .add (ι (i:Int)) (ι 1)=some (ι ((i+1:Nat):Int)):=bK ω;rcases(show i=0∨i=1∨i=2∨i=3∨i=4∨i=5∨i=6∨i=7 by omega) with rfl|rfl|rfl|rfl|rfl|rfl|rfl|rfl;all_goals
   simp only[w8,wx] at c0 c1;refine Y9 t0 t3 t5 c0 c1 W z0 U aP2 ?_;refine fin _ _ _ ?_ ?_ ?_ ?_ λj G=> ?_;exact U1 t0;exact U1 t3;exact U0;simp only[w8,wx];exact U0;have w:(j=o)=False:=dQ G;exact U1 w
 rintro τ ⟨n1,v1,I⟩ ⟨t0,t3,t5,H,c0,c1,old⟩;refine Y3 t0 t3 t5 ?_;exact V _ (FL H) c1 old;(iterate 4 exact U0);have R:(o=n0)=False:=av;exact wW R J;have w:(j=n0)=False:=av;exact U1 w
end
def PT (P:Program) (X:aR) (GL:T (List AV)):Nat ->List Nat ->Prop
 |w,[]=>w=0
 |w,j::ls=>w≠0/\ j<64/\ (∀h,bP P X GL 413 [.i .u64 (w:Int)] h (ι (j:Int)) h)/\∃G u:Nat,aY .sub (.i .u64 (w:Int)) (.i .u64 1)=some (.i .u64 (G:Int))/\ aY .and (.i .u64 (w:Int)) (.i .u64 (G:Int))=some (.i .u64 (u:Int))/\ PT P X GL u ls
section
variable {P:Program} {X:aR} {GL:T (List AV)} {ae:T au} {C:aK Prop} (E:Sem P X GL ae C) (F:gn ae)
include E F
theorem bY7 {h} {o r m x:Nat} (j:cG (h.oB.get o)=some (w8 r)) (lo:o<h.next) (G:aY .and (.i .u64 (r)) (.i .u64 (m))=some (.i .u64 (x))) (H:x≠0) k
 (u:∀h',h.next<=h'.next ->(∀i,i<h.next ->h'.oB.get i=h.oB.get i) ->k (.b true) h'):du C 304 [.p o 0,.ag (w8 m)] h k:=by
 obtain⟨n0,v0,ob⟩:=h;dsimp only at j lo;simp only[w8] at j;refine E.bS F.f304 (Y1 @w8.eq_1 ?_);rw[qj E.ok];refine Y2 j G ?_;refine u _ (nD n0) λi hi=> ?_;have hi':i<n0:=hi;exact U0
theorem bY8 (J:List Nat ->AH ->Prop) {o w ls caps} (hw:PT P X GL w ls) (Jo:∀d h,J d h ->cG (h.oB.get o)=some (w8 w))
 (step:∀d j h k,J d h ->j∈ls ->(∀h',J (d++[j]) h' ->k (.tu []) h') ->du C 303 (ι (j)::caps) h k) (h) (G:J [] h) (k) (hk:∀h',J ls h' ->k (.tu []) h'):
 du C 298 [.p o 0,.f 303 [] caps] h k:=by
 refine E.bS F.f298 (Y0 ?_);refine fj E.ok 8 (λi τ h=>τ.get 1=some (.f 303 [] caps)/\ τ.get 6=some (.p o 0)/\ τ.get 7=some (ι (i:Int))/\ ((i=0/\ J [] h)∨(1<=i/\ J ls h))) ?_ ?_ _ _ ⟨?_,?_,?_,.inl ⟨rfl,G⟩⟩;rintro i τ h hi ⟨t1,t6,t7,U⟩ Y;have Z:aY .add (ι (i:Int)) (ι 1)=some (ι ((i+1:Nat):Int)):=bK ω;rcases U with ⟨rfl,G⟩|⟨h1,G⟩;have O:=Jo _ _ G;simp only[w8] at O;refine Y3 t6 t7 O ?_;refine fj E.ok ls.length (λi τ h=>τ.get 1=some (.f 303 [] caps)/\ τ.get 6=some (.p o 0)/\ τ.get 7=some (ι 0)/\ τ.get 4=some (ι 0)/\∃d u I,ls=d++u/\ d.length=i/\ PT P X GL I u/\ J d h/\ τ.get 5=some (.i .u64 (I:Int))) ?_ ?_ _ _ ⟨?_,?_,?_,?_,[],ls,w,rfl,rfl,hw,G,?_⟩;rintro i τ h hi ⟨t1,t6,t7,t4,d,u,I,e1,e2,H,G,t5⟩ W;rcases u with _|⟨j,u⟩;rw[e1,dy] at hi;simp at hi;omega;obtain⟨w0,b0,tz,w1,w2,b1,b2,V⟩:=H;have a0:aY .mul (ι 64) (ι 0)=some (ι 0):=rfl;refine Y4 t1 t4 t5 a0 ?_;refine E.cN (tz _) ?_;have a1:aY .add (ι 0) (ι (j:Int))=some (ι (j:Int)):=by
  have:=oH (a:=0) (b:=j) ω;rw[gB] at this;exact this
 refine Y1 a1 ?_;refine E.run (step d j h _ G (by rw[e1];simp) λh' R=> ?_);refine Y3 t5 b1 b2 ?_;refine W _ _ ⟨?_,?_,?_,?_,d++[j],u,w2,by rw[e1];simp,by simp[e2],V,R,?_⟩;exact U1 t1;exact U1 t6;exact U1 t7;exact U1 t4;exact U0;rintro τ h ⟨t1,t6,t7,t4,d,u,I,e1,e2,H,G,t5⟩;have e3:u=[]:=by
  have:=congrArg List.length e1;rw[dy,e2] at this;exact pM ω
 subst e3;obtain rfl:I=0:=H;refine Y3 t5 t7 aP2 ?_;refine Y _ _ ⟨?_,?_,?_,.inr ⟨bB _,by rw[e1,lG];exact G⟩⟩;exact U1 t1;exact U1 t6;exact U0;exact U1 t1;exact U1 t6;(iterate 3 exact U1 t7);have O:=Jo _ _ G;have e0:sub (w8 w) i 1=some [.i .u64 0]:=by
  rcases(show i=1∨i=2∨i=3∨i=4∨i=5∨i=6∨i=7 by omega) with rfl|rfl|rfl|rfl|rfl|rfl|rfl<;>rfl
 refine Y4 t6 t7 O e0 ?_;rw[qj E.ok];refine Y2 t7 Z ?_;refine Y _ _ ⟨?_,?_,?_,.inr ⟨by omega,G⟩⟩;exact U1 t1;exact U1 t6;exact U0;rintro τ h ⟨t1,t6,t7,U⟩;refine Y1 t7 ?_;rcases U with ⟨h1,-⟩|⟨-,G⟩;cases h1;exact hk _ G;(iterate 3 exact U0)
end
structure PD where
 p:List PN
 F:Nat
 M:Nat
 Ls:Nat
 fol:List Nat
 bF:List Nat
 bM:List Nat
def DQ (d:PD):List AV:=eR iF 5 true d.p::(w8 d.F++(w8 d.Ls++[.ds (d.fol.flatMap w8) 0 d.fol.length 8,.b false]))
def DN:Nat ->PD
 |0=>⟨jg 0,1,2,3,[2,2,0,0],[0],[1]⟩
 |9=>⟨jg 9,3,24,27,[24,24,0,24,24,0,0,0],[0,1],[3,4]⟩
 |_=>⟨jg 10,1,6,7,[6,6,6,0,0,0],[0],[1,2]⟩
def Mr (i:Nat):Prop:=i=0∨i=9∨i=10
def QR (d:PD) (j b:Nat):Prop:=∃q:PN,d.p[j]? =some q/\ q.2.1<=b/\ b<=q.2.2.1
def bT5 q:(iF q).length=5:=rfl
def hC0:gM mU vd (λ_ _=>none) 100000 188 [eR iF 5 true (jg 0)] (.dp (DQ (DN 0)) 0)=true:=lR
def hC9:gM mU vd (λ_ _=>none) 100000 188 [eR iF 5 true (jg 9)] (.dp (DQ (DN 9)) 0)=true:=lR
def bY9:gM mU vd (λ_ _=>none) 100000 188 [eR iF 5 true (jg 10)] (.dp (DQ (DN 10)) 0)=true:=lR
def hTz:([(1,0),(2,1),(3,0),(4,2),(6,1),(16,4),(24,3)]:List (Nat×Nat)).all (λe=>gM mU vd (λ_ _=>none) 1000 413 [.i .u64 (.ofNat e.1)] (ι (.ofNat e.2)))=true:=lR
variable {P:Program} {X:aR} {GL:T (List AV)} {ae:T au}
def bZ0 (S:aT P X GL ae) (F:gn ae) (hg:GL=mU) {w j} (u:(w,j)∈([(1,0),(2,1),(3,0),(4,2),(6,1),(16,4),(24,3)]:List (Nat×Nat))) h:bP P X GL 413 [.i .u64 (w)] h (ι (j)) h:=
 dR S (hY (EH F) iE (by rw[hg];exact fX.1 hTz _ u)) (n:=9) (by simp only[aL,bZ,dH]) h
def bT6 (S:aT P X GL ae) (F:gn ae) (hg:GL=mU) (hi:Mr i) h:bP P X GL 188 [eR iF 5 true (jg i)] h (.dp (DQ (DN i)) 0) h:=by
 refine dR S (hY (EH F) iE (n:=100000) ?_) (n:=9) (by simp only[aL,bZ,dA Eu]) h;rw[hg];rcases hi with rfl|rfl|rfl;exact hC0;exact hC9;exact bY9
def bT7 (S:aT P X GL ae) (F:gn ae) (hg:GL=mU) (hi:Mr i):PT P X GL (DN i).F (DN i).bF/\ PT P X GL (DN i).M (DN i).bM:=by
 have u:=λ{w j:Nat} hw h=>bZ0 S F hg (w:=w) (j:=j) hw h;rcases hi with rfl|rfl|rfl;exact⟨⟨by decide,by decide,λh=>u (by decide) h,0,0,rfl,rfl,rfl⟩,⟨by decide,by decide,λh=>u (by decide) h,1,0,rfl,rfl,rfl⟩⟩;exact⟨⟨by decide,by decide,λh=>u (by decide) h,2,2,rfl,rfl,by decide,by decide,λh=>u (by decide) h,1,0,rfl,rfl,rfl⟩,⟨by decide,by decide,λh=>u (by decide) h,23,16,rfl,rfl,by decide,by decide,λh=>u (by decide) h,15,0,rfl,rfl,rfl⟩⟩;exact⟨⟨by decide,by decide,λh=>u (by decide) h,0,0,rfl,rfl,rfl⟩,⟨by decide,by decide,λh=>u (by decide) h,5,4,rfl,rfl,by decide,by decide,λh=>u (by decide) h,3,0,rfl,rfl,rfl⟩⟩
def bZ1 {r j} (H:r<32) (G:j<5):∃u:Nat,u=(r|||2^j)/\ u<32/\ u≠0/\ aY .or (.i .u64 (r)) (.i .u64 ((2^j:Nat):Int))=some (.i .u64 (u)):=by
 have h:∀r:Fin 32,∀j:Fin 5,(r.val|||2^j.val)<32/\ (r.val|||2^j.val)≠0:=by decide
 obtain⟨h1,h2⟩:=h ⟨r,H⟩ ⟨j,G⟩;have I:2^j<=16:=rJ (n:=2) ω (show j<=4 by omega);refine⟨r|||2^j,rfl,h1,h2,?_⟩;show(bif Nat.ble r 18446744073709551615&&Nat.ble (2^j) 18446744073709551615 then ri .u64 (Int.ofNat (r|||2^j)) else _)=_;have a1:Nat.ble r 18446744073709551615=true:=by rw[wX];simp;omega
 have a2:Nat.ble (2^j) 18446744073709551615=true:=by rw[wX];simp;omega
 rw[a1,a2];exact wP
def bZ2 {a:Nat} (j:a<=1000) (hb:b<=1000):aY .and (.i .u64 (a)) (.i .u64 (b))=some (.i .u64 ((a&&&b):Int)):=by
 show(bif Nat.ble a 18446744073709551615&&Nat.ble b 18446744073709551615 then ri .u64 (Int.ofNat (a&&&b)) else _)=_;have a1:Nat.ble a 18446744073709551615=true:=by rw[wX];simp;omega
 have a2:Nat.ble b 18446744073709551615=true:=by rw[wX];simp;omega
 rw[a1,a2];exact wP
def bZ3 {r x l} (h:x&&&l≠0):(r|||x)&&&l≠0:=by
 rw[Nat.and_or_distrib_right];intro e;exact h (Nat.or_eq_zero_iff.1 e).2
def bZ4 {ev x i s} (h1:ev x= .s s) (h2:ev i= .i .i64 (n)) (hb:s[n]? =some b):step ev h (.idxs x i)= .v (.i .u8 (b)) h:=by
 show(match fP (ev i),ev x with
  |some k,.s l=>(match lH l k with|some b=>ay.v (.i .u8 (.ofNat b)) h|none=> .bad)
  |_,_=> .bad)=_
 rw[h1,h2];show(match lH s n with|some b=>ay.v (.i .u8 (.ofNat b)) h|none=> .bad)=_;rw[Cw,hb];rfl
structure PDOK (d:PD):Prop where
 j5:∀j,j∈d.bF∨j∈d.bM ->j<5/\ 2^j&&&d.Ls≠0/\ d.fol[j]? =some d.M/\∃q,d.p[j]? =some q
 or0:aY .or (.i .u64 ((0:Nat):Int)) (.i .u64 (d.M:Int))=some (.i .u64 (d.M:Int))
 orM:aY .or (.i .u64 (d.M:Int)) (.i .u64 (d.M:Int))=some (.i .u64 (d.M:Int))
 pl:d.p≠[]/\ d.Ls<=1000
def bZ5 (hi:Mr i):PDOK (DN i):=by
 rcases hi with rfl|rfl|rfl;refine⟨λj h=> ?_,rfl,rfl,by simp[DN,jg],by decide⟩;rcases(show j=0∨j=1 by simp[DN] at h;omega) with rfl|rfl<;>exact⟨by decide,by decide,rfl,_,rfl⟩;refine⟨λj h=> ?_,rfl,rfl,by simp[DN,jg],by decide⟩;rcases(show j=0∨j=1∨j=3∨j=4 by simp[DN] at h;omega) with rfl|rfl|rfl|rfl<;>exact⟨by decide,by decide,rfl,_,rfl⟩;refine⟨λj h=> ?_,rfl,rfl,by simp[DN,jg],by decide⟩;rcases(show j=0∨j=1∨j=2 by simp[DN] at h;omega) with rfl|rfl|rfl<;>exact⟨by decide,by decide,rfl,_,rfl⟩
structure RJ (d:PD) (s:List Nat) (n m1 sb nb mb ro no:Nat) (obr:T bC) (b:Nat) (dn:List Nat) (h:AH):Prop where
 nx:m1<=h.next
 old:∀j,j<m1 ->j≠ro ->j≠no ->h.oB.get j=obr.get j
 st:∃r y:Nat,cG (h.oB.get ro)=some (w8 r)/\ cG (h.oB.get no)=some (w8 y)/\ r<32/\ (r≠0 ->r&&&d.Ls≠0)/\ ((r=0/\ y=0)∨(r≠0/\ y=d.M))/\ (r≠0↔∃j∈dn,QR d j b)
section
variable {P:Program} {X:aR} {GL:T (List AV)} {ae:T au} {C:aK Prop} (E:Sem P X GL ae C) (F:gn ae)
include E F
theorem bZ6 {d} (K:PDOK d) {s} {n O U nb I ro G:Nat} {u b} (hb:s[n]? =some b) (b8:b<256) (c1:cG (u.get U)=some [.s s]) (c2:cG (u.get nb)=some [.i .i64 (n)]) (c3:cG (u.get I)=some [.dp (DQ d) 0])
 (ne:ro≠G/\ U≠ro/\ U≠G/\ nb≠ro/\ nb≠G/\ I≠ro/\ I≠G) (lt:U<O/\ nb<O/\ I<O/\ ro<O/\ G<O) {dn j} (hj:j∈d.bF∨j∈d.bM) {h} (J:RJ d s n O U nb I ro G u b dn h) (k)
 (hk:∀h',RJ d s n O U nb I ro G u b (dn++[j]) h' ->k (.tu []) h'):du C 303 [.i .i64 (j),.p U 0,.p nb 0,.p I 0,.p ro 0,.p G 0] h k:=by
 obtain⟨nx,old,r,y,cr,cy,r32,rl,ry,hr⟩:=J;obtain⟨n0,v0,ob⟩:=h;dsimp only at nx old cr cy;obtain⟨j5,b2,hf,q,Z⟩:=K.j5 j hj;obtain⟨e1,e2,e3,e4,e5,e6,e7⟩:=ne;obtain⟨l1,l2,l3,l4,l5⟩:=lt;have d1:cG (ob.get U)=some [.s s]:=by rw[old U l1 e2 e3];exact c1
 have d2:cG (ob.get nb)=some [.i .i64 (n:Int)]:=by rw[old nb l2 e4 e5];exact c2
 have d3:cG (ob.get I)=some [.dp (DQ d) 0]:=by rw[old I l3 e6 e7];exact c3
 have fl:=dI hf;have p1:sub (d.p.flatMap iF) (j*5+1) 1=some [.i .i64 (q.2.1:Int)]:=by
  have:=cW bT5 Z (j:=1) (n:=1) ω;simpa[iF] using this
 have p2:sub (d.p.flatMap iF) (j*5+2) 1=some [.i .i64 (q.2.2.1:Int)]:=by
  have:=cW bT5 Z (j:=2) (n:=1) ω;simpa[iF] using this
 have p3:sub (d.fol.flatMap w8) (j*8) 8=some (w8 d.M):=cW (enc:=w8) (k:=8) (λ_=>rfl) hf (j:=0) (n:=8) ω;have jl:=(eC.1 hf).1;have jp:=(eC.1 Z).1;have dk:∀k,nice 64 (.dp (DQ d) k)=true:=λk=>by
  rw[fK];have f:nice 63 (.ds (d.fol.flatMap w8) 0 d.fol.length 8)=true:=by rw[nN];exact fE bY4 _
  simp only[DQ,w8,gw,gx,Bg,iq,j9,G7,A4 aN9,f,A7]
 have hx:∀(τ:T AV) h,az C τ (.t 8)= .s s ->az C τ (.t 9)= .i .i64 (n:Int) ->step (az C τ) h (.idxs (.t 8) (.t 9))= .v (.i .u8 (b:Int)) h:=λτ h h1 h2=>bZ4 h1 h2 hb;have cv:ri .i64 (dN .i64 (b:Int))=some (ι (b:Int)):=by rw[lj ω];exact wP
 have keep:∀h':AH,O<=h'.next ->(∀i,i<O ->i≠ro ->i≠G ->h'.oB.get i=ob.get i) ->∀i,i<O ->i≠ro ->i≠G ->h'.oB.get i=u.get i:=λh' _ hh i a1 a2 a3=>(hh i a1 a2 a3).trans (old i a1 a2 a3);simp only[DQ,w8,gw,gx] at d3 dk p3;have H:¬QR d j b ->∀h',h'=(⟨n0,v0,ob⟩:AH) ->RJ d s n O U nb I ro G u b (dn++[j]) h':=λhh h' e=>by
  subst e;refine⟨nx,old,r,y,cr,cy,r32,rl,ry,hr.trans ⟨λ⟨i,a,b⟩=>⟨i,xI _ a,b⟩,λ⟨i,a,b⟩=> ?_⟩⟩;rcases fO.1 a with a|a;exact⟨i,a,b⟩;rw[yC.1 a] at b;exact bh b hh
 rw[E.cB F.f303];by_cases h1:q.2.1<=b;have V:((q.2.1:Int)<=(b:Int))=True:=cJ;by_cases h2:b<=q.2.2.1;have Y:((b:Int)<=(q.2.2.1:Int))=True:=cJ;have hh:QR d j b:=⟨q,Z,h1,h2⟩;obtain⟨r',r0,r1,r2,r3⟩:=bZ1 r32 j5;have sh:aY .shl (.i .u64 1) (ι (j:Int))=some (.i .u64 ((2^j:Nat):Int)):=by
  rcases(show j=0∨j=1∨j=2∨j=3∨j=4 by omega) with rfl|rfl|rfl|rfl|rfl<;>rfl
 refine Z9 d1 d2 d3 p1 p2 hx cv V Y ?_;refine E.run (bY5 E F ω cr r3 sh _ λh2 n2 b0 eG=> ?_);obtain⟨R,v2,aJ⟩:=h2;obtain rfl:R=n0:=n2;dsimp only at b0 eG;have g3:cG (aJ.get I)=some [.dp (DQ d) 0]:=by rw[eG I e6,old I l3 e6 e7];exact c3
 simp only[DQ,w8,gw,gx] at g3;refine Z2 g3 p3 ?_;refine E.run (bY6 (y:=y) E F (by show G<R;omega) (by show cG (aJ.get G)=_;rw[eG G (λe=>e1 e.symm)];exact cy) (by rcases ry with ⟨-,e⟩|⟨-,e⟩<;>rw[e];exact K.or0;exact K.orM) _ λh3 n3 b1 W=> ?_);refine Y0 ?_;have b3:R<=h3.next:=n3;refine hk _ ⟨by omega,λi a1 a2 a3=>((W i (by show i<R;omega) a3).trans (eG i a2)).trans (old i a1 a2 a3),r',d.M,by rw[W ro (by show ro<R;omega) e1];exact b0,b1,r1,λ_=>by rw[r0];exact bZ3 b2,.inr ⟨r2,rfl⟩,⟨λ_=>⟨j,by simp,hh⟩,λ_=>r2⟩⟩;have Y:((b:Int)<=(q.2.2.1:Int))=False:=av;refine Z9 d1 d2 d3 p1 p2 hx cv V Y ?_;exact hk _ (H (λ⟨q',a,b',c⟩=>by rw[Z] at a;cases a;omega) _ rfl);have V:((q.2.1:Int)<=(b:Int))=False:=av;refine Z7 d1 d2 d3 p1 hx cv V ?_;exact hk _ (H (λ⟨q',a,b',c⟩=>by rw[Z] at a;cases a;omega) _ rfl)
end
def HQ (d:PD):List Nat ->List Nat ->Nat
 |_,[]=>0
 |ls,b::s=> @ite _ (∃j∈ls,QR d j b) (Classical.propDecidable _) (1+HQ d d.bM s) 0
structure PD2 (P:Program) (X:aR) (GL:T (List AV)) (d:PD):Prop extends PDOK d where
 cF:PT P X GL d.F d.bF
 cM:PT P X GL d.M d.bM
section
variable {P:Program} {X:aR} {GL:T (List AV)} {ae:T au} {C:aK Prop} (E:Sem P X GL ae C) (F:gn ae) (FN:A5 ae)
include E F FN
theorem bZ7 {h} {o n x:Nat} (j:cG (h.oB.get o)=some [.i .i64 (x)]) k (u:∀h',h'.next=h.next ->cG (h'.oB.get o)=some [.i .i64 (n)] ->(∀i,i≠o ->h'.oB.get i=h.oB.get i) ->k (.b true) h'):
 du C 305 [.i .i64 (n),.b true,.p o 0] h k:=by
 obtain⟨n0,v0,ob⟩:=h;dsimp only at j;refine E.bS FN.f305 (Y1 j ?_);refine u _ rfl ?_ λi hi=> ?_;exact U0;have w:(i=o)=False:=dQ hi;exact U1 w
theorem bZ8 {r} (h:r≠0):eH 6 (.ag [(0,1,false,.lf .i),(1,1,false,.lf .i),(2,1,false,.lf .i),(3,1,false,.lf .i),(4,1,false,.lf .i),(5,1,false,.lf .i),(6,1,false,.lf .i),(7,1,false,.lf .i)]) (.ag (w8 r)) (.ag [.i .u64 0,.i .u64 0,.i .u64 0,.i .u64 0,.i .u64 0,.i .u64 0,.i .u64 0,.i .u64 0])=some false:=by
 show(match (some (eO (r:Int) 0):Option Bool) with|some true=>_|o=>o)=_;have:eO (r:Int) 0=false:=by rw[A3];simp;omega
 rw[this]
theorem bZ9 {d} (K:PD2 P X GL d) {s} (s8:∀b∈s,b<256) (sl:s.length<1000000000) {bb h} (cb:cG (h.oB.get bb)=some [.i .i64 0]) (lb:bb<h.next) k
 (hk:∀h',cG (h'.oB.get bb)=some [.i .i64 (HQ d d.bF s)] ->k (.tu []) h'):du C 189 [.dp (DQ d) 0,.s s,.f 305 [] [.p bb 0]] h k:=by
 obtain⟨n0,v0,ob⟩:=h;dsimp only at cb lb;have q1:sub (DQ d) 1 8=some (w8 d.F):=rfl;have q2:sub (DQ d) 9 8=some (w8 d.Ls):=rfl;have z1:(bb=n0)=False:=av;have z2:(bb=n0+1)=False:=av;have z3:(bb=n0+1+1)=False:=av;have cd:cellsO (.dp (DQ d) 0)=some [.dp (DQ d) 0]:=rfl;have ls:((List.length s:Nat):Int)=(s.length:Int):=rfl;simp only[w8] at q1 q2;refine E.bS F.f189 (Y2 q1 cd ?_);refine fj E.ok s.length (λi τ h=>τ.get 2=some (.f 305 [] [.p bb 0])/\ τ.get 3=some (.p n0 0)/\ τ.get 4=some (.p (n0+1) 0)/\ τ.get 6=some (.p (n0+2) 0)/\ τ.get 15=some (ι (s.length:Int))/\ τ.get 16=some (ι (i:Int))/\ n0+3<=h.next/\
  cG (h.oB.get n0)=some [.dp (DQ d) 0]/\ cG (h.oB.get (n0+1))=some [.s s]/\ cG (h.oB.get (n0+2))=some (w8 (if i=0 then d.F else d.M))/\ cG (h.oB.get bb)=some [.i .i64 (i:Int)]/\ HQ d d.bF s=i+HQ d (if i=0 then d.bF else d.bM) (s.drop i)) ?_ ?_ _ _ ⟨?_,?_,?_,?_,?_,?_,?_,?_,?_,?_,?_,?_⟩
 rintro i τ ⟨m,v,aQ⟩ hi ⟨t2,t3,t4,t6,U,V,hn,c0,c1,c2,cb,hl⟩ ih;dsimp only at hn c0 c1 c2 cb;have hb:s[i]? =some s[i]:=oc hi;have b8:=s8 _ (List.getElem_mem hi);generalize s[i]=b at hb b8;refine Y5 t3 t4 t6 U V ?_;have R:∀j,j<m ->((((aQ.put m (.cells v [.i .i64 0])).put m (.cells (v+1) [.i .i64 (i:Int)])).put (m+1) (.cells (v+1) (w8 0))).put (m+1+1) (.cells (v+1) (w8 0))).get j=aQ.get j:=λj hj=>by
  exact U0
 obtain⟨I,G⟩:∃I,I=((((aQ.put m (.cells v [.i .i64 0])).put m (.cells (v+1) [.i .i64 (i:Int)])).put (m+1) (.cells (v+1) (w8 0))).put (m+1+1) (.cells (v+1) (w8 0))):=⟨_,rfl⟩;have g0:cG (I.get n0)=some [.dp (DQ d) 0]:=by rw[G,R n0 ω];exact c0
 have g1:cG (I.get (n0+1))=some [.s s]:=by rw[G,R (n0+1) ω];exact c1
 have g2:cG (I.get (n0+2))=some (w8 (if i=0 then d.F else d.M)):=by rw[G,R (n0+2) ω];exact c2
 have gb:cG (I.get bb)=some [.i .i64 (i:Int)]:=by rw[G,R bb ω];exact cb
 have gm:cG (I.get m)=some [.i .i64 (i:Int)]:=by rw[G];exact U0
 have b2:∀j,j∈(if i=0 then d.bF else d.bM) ->j∈d.bF∨j∈d.bM:=λj hj=>by split at hj;exact .inl hj;exact .inr hj
 refine E.run (bY8 (w:=if i=0 then d.F else d.M) (ls:=if i=0 then d.bF else d.bM) E F (RJ d s i (m+3) (n0+1) m n0 (m+1) (m+2) I b) (by split;exact K.cF;exact K.cM) (λdn h J=> ?_) (λdn j h k J hj b1=>bZ6 E F K.toPDOK hb b8 g1 gm g0 ⟨by omega,by omega,by omega,by omega,by omega,by omega,by omega⟩ ⟨by omega,by omega,by omega,by omega,by omega⟩ (b2 j hj) J k b1) _ ⟨bB _,λj _ _ _=> ?_,0,0,?_,?_,by omega,λh=>bh rfl h,.inl ⟨rfl,rfl⟩,⟨λh=>bh rfl h,λ⟨j,h,_⟩=>by cases h⟩⟩ _ λh' J=> ?_);rw[J.old (n0+2) ω ω ω];exact g2;rw[G];rfl;exact U0;exact U0;obtain⟨nx,old,r,y,Z,cy,r32,rl,ry,hr⟩:=J;obtain⟨m2,v2,Y⟩:=h';dsimp only at nx old Z cy;have k0:cG (Y.get n0)=some [.dp (DQ d) 0]:=by rw[old n0 ω ω ω];exact g0
 have k1:cG (Y.get (n0+1))=some [.s s]:=by rw[old (n0+1) ω ω ω];exact g1
 have k2:cG (Y.get (n0+2))=some (w8 (if i=0 then d.F else d.M)):=by rw[old (n0+2) ω ω ω];exact g2
 have kb:cG (Y.get bb)=some [.i .i64 (i:Int)]:=by rw[old bb ω ω ω];exact gb
 have km:cG (Y.get m)=some [.i .i64 (i:Int)]:=by rw[old m ω ω ω];exact gm
 have hd:s.drop i=b::s.drop (i+1):=by rw[Lr hi];congr 1;have:=oc hi;rw[hb] at this;exact(gC this).symm
 have ad:aY .add (ι (i:Int)) (ι 1)=some (ι ((i+1:Nat):Int)):=bK ω;by_cases h0:r=0;subst h0;have nh:¬∃j∈(if i=0 then d.bF else d.bM),QR d j b:=λh=>hr.2 h rfl;have e8:eH 6 (.ag [(0,1,false,.lf .i),(1,1,false,.lf .i),(2,1,false,.lf .i),(3,1,false,.lf .i),(4,1,false,.lf .i),(5,1,false,.lf .i),(6,1,false,.lf .i),(7,1,false,.lf .i)]) (.ag [.i .u64 0,.i .u64 0,.i .u64 0,.i .u64 0,.i .u64 0,.i .u64 0,.i .u64 0,.i .u64 0]) (.ag [.i .u64 0,.i .u64 0,.i .u64 0,.i .u64 0,.i .u64 0,.i .u64 0,.i .u64 0,.i .u64 0])=some true:=rfl;simp only[w8] at Z;refine Y2 Z e8 ?_;have e:HQ d d.bF s=i:=by rw[hl,hd,HQ,aD nh];rfl
 rw[e] at hk;exact hk ⟨m2,v2,Y⟩ kb;have e8:=bZ8 E F FN h0;have b0:=Z;have yM:y=d.M:=by rcases ry with ⟨h,-⟩|⟨-,h⟩;exact bh h h0;exact h
 subst yM;simp only[w8] at Z e8 cy;refine Y8 t2 t3 k0 km Z e8 q2 ad ?_;refine E.run (bY7 E F b0 (by show m+1<m2;omega) (bZ2 ω K.pl.2) (rl h0) _ λh3 n3 u=> ?_);obtain⟨m3,v3,W⟩:=h3;have b5:m2<=m3:=n3;dsimp only at u;have u0:cG (W.get n0)=some [.dp (DQ d) 0]:=by rw[u n0 ω];exact k0
 have u1:cG (W.get (n0+1))=some [.s s]:=by rw[u (n0+1) ω];exact k1
 have u2:cG (W.get (n0+2))=some (w8 (if i=0 then d.F else d.M)):=by rw[u (n0+2) ω];exact k2
 have ub:cG (W.get bb)=some [.i .i64 (i:Int)]:=by rw[u bb ω];exact kb
 have um:cG (W.get m)=some [.i .i64 (i:Int)]:=by rw[u m ω];exact km
 have u8:cG (W.get (m+1))=some (w8 r):=by rw[u (m+1) ω];exact b0
 have u9:cG (W.get (m+2))=some (w8 d.M):=by rw[u (m+2) ω];simp only[w8];exact cy
 have b3:=u9;simp only[w8] at u8 u9;refine Y3 t2 um ad ?_;refine E.run (bZ7 E F FN (n:=i+1) ub _ λh4 n4 b4 H=> ?_);obtain⟨m4,v4,O⟩:=h4;obtain rfl:m4=m3:=n4;dsimp only at b4 H;have x0:cG (O.get n0)=some [.dp (DQ d) 0]:=by rw[H n0 ω];exact u0
 have x1:cG (O.get (n0+1))=some [.s s]:=by rw[H (n0+1) ω];exact u1
 have x2:cG (O.get (n0+2))=some (w8 (if i=0 then d.F else d.M)):=by rw[H (n0+2) ω];exact u2
 have x8:cG (O.get (m+1))=some (w8 r):=by rw[H (m+1) ω];exact u8
 have x9:cG (O.get (m+2))=some (w8 d.M):=by rw[H (m+2) ω];exact b3
 have b6:=x2;simp only[w8] at x8 x9 x2;refine Y5 t6 V x2 x9 ad ?_;refine ih _ _ ⟨?_,?_,?_,?_,?_,?_,by show n0+3<=m4;omega,?_,?_,?_,?_,?_⟩;exact U1 t2;exact U1 t3;exact U1 t4;exact U1 t6;exact U1 U;exact U0;have w:(n0=n0+2)=False:=av;exact wW w x0;have w:(n0+1=n0+2)=False:=av;exact wW w x1;simp only[w8];exact U0;have w:(bb=n0+2)=False:=av;exact wW w b4;rw[hl,hd,HQ,aF (hr.1 h0),aD ω];omega;rintro τ ⟨m,v,aQ⟩ ⟨t2,t3,t4,t6,U,V,hn,c0,c1,c2,cb,hl⟩;refine Y2 U V ?_;refine hk ⟨m,v,aQ⟩ ?_;rw[hl,List.drop_length];have:HQ d (if s.length=0 then d.bF else d.bM) []=0:=by unfold HQ;rfl
 rw[this];exact cb;(iterate 6 exact U0);show n0+3<=n0+1+1+1;omega;exact U0;exact U0;simp only[w8];exact U0;exact wW (ec z1 (ec z2 z3)) cb;rw[aF rfl,List.drop_zero];omega
end
def ca0 (S:aT P X GL ae) (F:gn ae) (hg:GL=mU) (hi:Mr i):PD2 P X GL (DN i):=
 { bZ5 hi with cF:=(bT7 S F hg hi).1,cM:=(bT7 S F hg hi).2 }
def ca3 {ev x a s} (h1:ev x= .s s) (h2:ev a= .i .i64 0):step ev h (.slcs x (some a) none)= .v (.s s) h:=by
 have j:fP (ev a)=some 0:=by rw[h2];rfl
 have e:d7 (len s) (len s) (nO ev (some a)) (nO ev none) none=some (0,len s,len s):=by
  rw[uO,uP,j];show(bif Nat.ble (len s) (len s)&&Nat.ble (len s) (len s)&&Nat.ble 0 (len s) then some (0,len s,len s) else none)=_;have u:Nat.ble (len s) (len s)=true:=by rw[wX];simp
  have G:Nat.ble 0 (len s)=true:=by rw[wX];simp
  rw[u,G];rfl
 show(match ev x with
  | .s s=>(match d7 (len s) (len s) (nO ev (some a)) (nO ev none) none with
   |some (l,r,_)=>(match sub s l (r-l) with|some t=>ay.v (.s t) h|none=> .bad)
   |none=> .bad)
  |_=> .bad)=_
 rw[h1];dsimp only;rw[e];have e2:sub s 0 (len s-0)=some s:=by rw[nH,kZ,aF ω];simp
 dsimp only;rw[e2]
def ca4 (S:aT P X GL ae) (F:gn ae) (FN:A5 ae) (hg:GL=mU) (hi:Mr i) {s} (G:∀b∈s,b<256) (sl:s.length<1000000000) h:
 bP P X GL 192 [eR iF 5 true (jg i),.s s,.i .i64 0] h (.tu [.i .i64 (HQ (DN i) (DN i).bF s:Int),.b (decide ((0:Int)<(HQ (DN i) (DN i).bF s:Int)))]) h:=by
 refine dR S (n:=9) ?_ (by simp only[aL,bZ,dH,oK,dA Eu]) h;refine bg.intro λC E=> ?_;have gp:=λh=>Kg S F (i:=i) hi h;have cc:=λh=>bT6 S F hg hi h;have Ff:nice 64 (eR iF 5 true (jg i))=true:=A4 aN9;have j:∀(τ:T AV) h,az C τ (.t 24)= .s s ->az C τ (.t 25)= .i .i64 0 ->step (az C τ) h (.slcs (.t 24) (some (.t 25)) none)= .v (.s s) h:=λτ h h1 h2=>ca3 h1 h2;have u:((s.length:Int)<0)=False:=av;refine E.bS FN.f192 (Y2 @bF5.eq_1 Ff ?_);refine E.cN (gp _) (Z4 @bF5.eq_1 Ff j u ?_);refine E.cN (cc _) (Z2 Ff j ?_);refine E.run (bZ9 E F FN (ca0 S F hg hi) G sl (bb:=0) ?_ (qI _) _ λh' hb=> ?_);exact U0;refine Y1 hb ?_;exact⟨2,by simp only[AM.deep,lJ,tg]⟩
def Qv s:(jT s).length=1:=rfl
def ca5 {ev x l j s} (h1:ev x= .dp l j) (h2:sub l j 1=some [.s s]):step ev h (.tld x 1 false)= .v (.s s) h:=by
 show(match ev x with
  | .p o j=>(match h.rows o with|some l=>(match sub l j 1 with|some c=>dr h (dB false c)|none=>ay.bad)|none=> .bad)
  | .dp l j=>(match sub l j 1 with|some c=>dr h (dB false c)|none=> .bad)
  |_=> .bad)=_
 rw[h1];dsimp only;rw[h2];rfl
def QS {α:Type} {L:List α} {B a} (h:L[i]? =some a) (j:L.any B=(L.drop i).any B):(B a=true ->L.any B=true)/\ (B a=false ->L.any B=(L.drop (i+1)).any B):=by
 have hi:=(eC.1 h).1;have e:L.drop i=a::L.drop (i+1):=by rw[Lr hi];congr 1;exact(eC.1 h).2
 rw[j,e,qL];exact⟨λh=>by rw[h];rfl,λh=>by rw[h];rfl⟩
section
variable {P:Program} {X:aR} {GL:T (List AV)} {ae:T au} (S:aT P X GL ae) (F:A5 ae)
include S F
variable {h:AH} {caps dcaps:List AV} {nl:Bool} {fid:Nat}
theorem bT8 {v L B} (Y:L.length<=1000000) (V:∀n≥10,deep n h v=some (eR jT 1 nl L)) (hd:∀n≥10,bJ n h caps=some dcaps) (U:∀n≥10,bJ n h0 dcaps=some dcaps) (R:∀a∈L,∀h,bP P X GL fid (AV.s a::dcaps) h (.b (B a)) h):bP P X GL 19 [v,.f fid [] caps] h (.b (L.any B)) h:=by
 have O:bJ 12 h [v,.f fid [] caps]=some [eR jT 1 nl L,.f fid [] dcaps]:=by
  have e2:deep 12 h (.f fid [] caps)=some (.f fid [] dcaps):=by
   show(match eM (deep 11 h) [],eM (deep 11 h) caps with|some a,some b=>some (AV.f fid a b)|_,_=>none)=_;rw[show eM (deep 11 h) caps=some dcaps from hd 11 ω];rfl
  rw[aL,aL,bZ,e2,V 12 ω]
 refine oE S (dargs:=[eR jT 1 nl L,.f fid [] dcaps]) (m:=0) ?_ O rfl;refine bg.intro λC E=> ?_;refine E.bS F.f19 (Y0 ?_);refine E.run ?_;refine E.bS F.f60 (Y0 ?_);refine fj E.ok L.length (λi τ h=>h=h0/\ τ.get 0=some (eR jT 1 nl L)/\ τ.get 1=some (.f fid [] dcaps)/\ τ.get 7=some (ι (L.length:Int))/\ τ.get 8=some (ι (i:Int))/\ L.any B=(L.drop i).any B) ?_ ?_ _ _ ⟨rfl,?_,?_,?_,?_,by rw[List.drop_zero]⟩;rintro i τ _ hi ⟨rfl,t0,t1,t7,t8,H⟩ W;have G:L[i]? =some L[i]:=oc hi;have J:=List.getElem_mem hi;generalize L[i]=a at G J;have u:sub (L.flatMap jT) i 1=some (jT a):=by have:=cW Qv G (j:=0) (n:=1) ω;rwa [vH] at this
 have I:=QS G H;have Z:∀(τ:T AV) h,az C τ (.t 14)= .dp (L.flatMap jT) i ->step (az C τ) h (.tld (.t 14) 1 false)= .v (.s a) h:=λτ h h1=>ca5 h1 u;have cc:=R a J;simp only[jT] at u cc;refine Z5 t0 t1 t7 t8 u ?_;refine E.cN (cc _) ?_;cases hb:B a with
 |true=>
  refine Y0 ?_;exact⟨1,by rw[I.1 hb];rfl⟩
 |false=>
  refine Y1 t8 ?_;refine W _ _ ⟨rfl,?_,?_,?_,?_,I.2 hb⟩;exact U1 t0;exact U1 t1;exact U1 t7;exact U0
 rintro τ _ ⟨rfl,t0,t1,t7,t8,H⟩;refine Y2 t7 t8 ?_;exact⟨1,by rw[H,List.drop_length];rfl⟩;(iterate 4 exact U0)
theorem ca6 {L B} (u:L.length<=1000000) (hd:∀n≥10,bJ n h caps=some dcaps) (j:∀n≥10,bJ n h0 dcaps=some dcaps) (G:∀a∈L,∀h,bP P X GL fid (AV.s a::dcaps) h (.b (B a)) h):bP P X GL 19 [eR jT 1 nl L,.f fid [] caps] h (.b (L.any B)) h:=
 bT8 S F u (λn H=>by obtain⟨m,rfl⟩:∃m,n=m+2:=⟨n-2,by omega⟩;exact dA (n:=m+1) (λs=>by simp only[jT,aL,bZ,oK])) hd j G
theorem ca7 {L B} (W:L.length<=1000000) (hd:∀n≥10,bJ n h caps=some dcaps) (U:∀n≥10,bJ n h0 dcaps=some dcaps) (R:∀a∈L,∀h,bP P X GL fid ((λa=>AV.ag (dq a)) a::dcaps) h (.b (B a)) h):bP P X GL 55 [eR dq 7 nl L,.f fid [] caps] h (.b (L.any B)) h:=by
 have O:∀{h:AH} {c:List AV},(∀n≥10,bJ n h c=some dcaps) ->bJ 12 h [eR dq 7 nl L,.f fid [] c]=some [eR dq 7 nl L,.f fid [] dcaps]:=λ{h c} e=>by
  have e2:deep 12 h (.f fid [] c)=some (.f fid [] dcaps):=by
   show(match eM (deep 11 h) [],eM (deep 11 h) c with|some a,some b=>some (AV.f fid a b)|_,_=>none)=_;rw[show eM (deep 11 h) c=some dcaps from e 11 ω];rfl
  rw[aL,aL,bZ,e2,dA (n:=11) jD]
 refine oE S (dargs:=[eR dq 7 nl L,.f fid [] dcaps]) (m:=0) ?_ (O hd) rfl;refine bg.intro λC E=> ?_;refine E.bS F.f55 (Y0 ?_);refine E.run ?_;refine E.bS F.f98 (Y0 ?_);refine fj E.ok L.length (λi τ h=>h=h0/\ τ.get 0=some (eR dq 7 nl L)/\ τ.get 1=some (.f fid [] dcaps)/\ τ.get 7=some (ι (L.length:Int))/\ τ.get 8=some (ι (i:Int))/\ L.any B=(L.drop i).any B) ?_ ?_ _ _ ⟨rfl,?_,?_,?_,?_,by rw[List.drop_zero]⟩;rintro i τ _ hi ⟨rfl,t0,t1,t7,t8,G⟩ V;have u:L[i]? =some L[i]:=oc hi;have J:=List.getElem_mem hi;generalize L[i]=a at u J;have I:sub (L.flatMap dq) (i*7) 7=some (dq a):=cW qx u (j:=0) (n:=7) ω;have H:=QS u G;have cc:=R a J;simp only[dq] at I cc;refine Z5 t0 t1 t7 t8 I ?_;refine E.cN (cc _) ?_;cases hb:B a with
 |true=>
  refine Y0 ?_;exact⟨1,by rw[H.1 hb];rfl⟩
 |false=>
  refine Y1 t8 ?_;refine V _ _ ⟨rfl,?_,?_,?_,?_,H.2 hb⟩;exact U1 t0;exact U1 t1;exact U1 t7;exact U0
 rintro τ _ ⟨rfl,t0,t1,t7,t8,G⟩;refine Y2 t7 t8 ?_;exact⟨1,by rw[G,List.drop_length];rfl⟩;(iterate 4 exact U0)
theorem ca8 {L B} (W:L.length<=1000000) (hd:∀n≥10,bJ n h caps=some dcaps) (U:∀n≥10,bJ n h0 dcaps=some dcaps) (R:∀a∈L,∀h,bP P X GL fid ((λa=>AV.ag (eF a)) a::dcaps) h (.b (B a)) h):bP P X GL 196 [eR eF 9 nl L,.f fid [] caps] h (.b (L.any B)) h:=by
 have O:∀{h:AH} {c:List AV},(∀n≥10,bJ n h c=some dcaps) ->bJ 12 h [eR eF 9 nl L,.f fid [] c]=some [eR eF 9 nl L,.f fid [] dcaps]:=λ{h c} e=>by
  have e2:deep 12 h (.f fid [] c)=some (.f fid [] dcaps):=by
   show(match eM (deep 11 h) [],eM (deep 11 h) c with|some a,some b=>some (AV.f fid a b)|_,_=>none)=_;rw[show eM (deep 11 h) c=some dcaps from e 11 ω];rfl
  rw[aL,aL,bZ,e2,dA (n:=11) ju]
 refine oE S (dargs:=[eR eF 9 nl L,.f fid [] dcaps]) (m:=0) ?_ (O hd) rfl;refine bg.intro λC E=> ?_;refine E.bS F.f196 (Y0 ?_);refine E.run ?_;refine E.bS F.f308 (Y0 ?_);refine fj E.ok L.length (λi τ h=>h=h0/\ τ.get 0=some (eR eF 9 nl L)/\ τ.get 1=some (.f fid [] dcaps)/\ τ.get 7=some (ι (L.length:Int))/\ τ.get 8=some (ι (i:Int))/\ L.any B=(L.drop i).any B) ?_ ?_ _ _ ⟨rfl,?_,?_,?_,?_,by rw[List.drop_zero]⟩;rintro i τ _ hi ⟨rfl,t0,t1,t7,t8,G⟩ V;have u:L[i]? =some L[i]:=oc hi;have J:=List.getElem_mem hi;generalize L[i]=a at u J;have I:sub (L.flatMap eF) (i*9) 9=some (eF a):=cW JP u (j:=0) (n:=9) ω;have H:=QS u G;have cc:=R a J;simp only[eF] at I cc;refine Z5 t0 t1 t7 t8 I ?_;refine E.cN (cc _) ?_;cases hb:B a with
 |true=>
  refine Y0 ?_;exact⟨1,by rw[H.1 hb];rfl⟩
 |false=>
  refine Y1 t8 ?_;refine V _ _ ⟨rfl,?_,?_,?_,?_,H.2 hb⟩;exact U1 t0;exact U1 t1;exact U1 t7;exact U0
 rintro τ _ ⟨rfl,t0,t1,t7,t8,G⟩;refine Y2 t7 t8 ?_;exact⟨1,by rw[G,List.drop_length];rfl⟩;(iterate 4 exact U0)
theorem ca9 {L B} (W:L.length<=1000000) (hd:∀n≥10,bJ n h caps=some dcaps) (U:∀n≥10,bJ n h0 dcaps=some dcaps) (R:∀a∈L,∀h,bP P X GL fid ((λa:Nat=>AV.i .i64 (a)) a::dcaps) h (.b (B a)) h):bP P X GL 198 [eR cI 1 nl L,.f fid [] caps] h (.b (L.any B)) h:=by
 have O:∀{h:AH} {c:List AV},(∀n≥10,bJ n h c=some dcaps) ->bJ 12 h [eR cI 1 nl L,.f fid [] c]=some [eR cI 1 nl L,.f fid [] dcaps]:=λ{h c} e=>by
  have e2:deep 12 h (.f fid [] c)=some (.f fid [] dcaps):=by
   show(match eM (deep 11 h) [],eM (deep 11 h) c with|some a,some b=>some (AV.f fid a b)|_,_=>none)=_;rw[show eM (deep 11 h) c=some dcaps from e 11 ω];rfl
  rw[aL,aL,bZ,e2,dA (n:=11) yZ]
 refine oE S (dargs:=[eR cI 1 nl L,.f fid [] dcaps]) (m:=0) ?_ (O hd) rfl;refine bg.intro λC E=> ?_;refine E.bS F.f198 (Y0 ?_);refine E.run ?_;refine E.bS F.f221 (Y0 ?_);refine fj E.ok L.length (λi τ h=>h=h0/\ τ.get 0=some (eR cI 1 nl L)/\ τ.get 1=some (.f fid [] dcaps)/\ τ.get 7=some (ι (L.length:Int))/\ τ.get 8=some (ι (i:Int))/\ L.any B=(L.drop i).any B) ?_ ?_ _ _ ⟨rfl,?_,?_,?_,?_,by rw[List.drop_zero]⟩;rintro i τ _ hi ⟨rfl,t0,t1,t7,t8,G⟩ V;have u:L[i]? =some L[i]:=oc hi;have J:=List.getElem_mem hi;generalize L[i]=a at u J;have I:sub (L.flatMap cI) i 1=some (cI a):=by have:=cW qw u (j:=0) (n:=1) ω;rwa [vH] at this
 have H:=QS u G;have cc:=R a J;simp only[cI] at I cc;refine Z5 t0 t1 t7 t8 I ?_;refine E.cN (cc _) ?_;cases hb:B a with
 |true=>
  refine Y0 ?_;exact⟨1,by rw[H.1 hb];rfl⟩
 |false=>
  refine Y1 t8 ?_;refine V _ _ ⟨rfl,?_,?_,?_,?_,H.2 hb⟩;exact U1 t0;exact U1 t1;exact U1 t7;exact U0
 rintro τ _ ⟨rfl,t0,t1,t7,t8,G⟩;refine Y2 t7 t8 ?_;exact⟨1,by rw[G,List.drop_length];rfl⟩;(iterate 4 exact U0)
end
def DV:List (List Nat):=[[],[43],[42],[40],[41],[105,102],[101,108,115,101],[59],[94],[120],[121],[97,98],[122],[37],[37,97],[37,98,32,99]]
def bT9 {s} (hi:i<9) (h:bF6 i s):s∈DV:=by
 rcases h with rfl|rfl|⟨k,j,rfl⟩;rcases(show i=0∨i=1∨i=2∨i=3∨i=4∨i=5∨i=6∨i=7∨i=8 by omega) with rfl|rfl|rfl|rfl|rfl|rfl|rfl|rfl|rfl<;>decide
 decide
 rcases(show k=0∨k=1∨k=2∨k=3∨k=4∨k=5 by omega) with rfl|rfl|rfl|rfl|rfl|rfl<;>decide
def bG3 {k} (j:k<3):tY k∈DV:=by
 rcases(show k=0∨k=1∨k=2 by omega) with rfl|rfl|rfl<;>decide
def cb0:(DV.all λs=>decide (s.length<=4)&&s.all λb=>decide (b<256)&&decide (b≠10))=true:=by decide
def bU0 {s} (h:s∈DV):s.length<=4/\∀b∈s,b<256/\ b≠10:=by
 have:=fX.1 cb0 s h;rw[aB,fX,aU] at this;exact⟨this.1,λb hb=>by have:=this.2 b hb;rw[aB,aU,aU] at this;exact this⟩
def btN:T au:=T.put (T.put (T.put (T.put .e 21 bP6) 61 bQ7) 104 bR1) 200 bR9
def cb4 (F:A5 ae):∀f m,btN.get f=some m ->ae.get f=some m:=gk (gk (gk (gk AF F.f21) F.f61) F.f104) F.f200
def yO (f:Nat) (a:List AV):Option AV:=bif Nat.beq f 309 then (match a with
 |[.s s,.i .u8 (.ofNat 10)]=>bif List.rec (motive:=λ_=>Bool) true (λb _ j=>bif Nat.beq b 10 then false else j) s then some (ι (.negSucc 0)) else none
 |_=>none) else none
def hCt (GL:T (List AV)):((DV++[[32],[]]).all λs=>gM GL btN yO 1000 21 [.s s,.s [10]] (.b false))=true:=lR
def Bn (i:Nat) (f:Nat) (a:List AV):Option AV:=bif Nat.beq f 187 then (match a with|[x]=>bif cZ 64 x (eR iF 5 true (jg i)) then some (ι 0) else none|_=>none)
 else bif Nat.beq f 188 then (match a with|[x]=>bif cZ 64 x (eR iF 5 true (jg i)) then some (.dp (DQ (DN i)) 0) else none|_=>none) else none
def PU (i:Nat) (s:List Nat) (b:Bool):Bool:=gM mU vd (Bn i) 10000 100 [eR iF 5 true (jg i),.s s] (.b b)
def cb5:(DV.all λs=>PU 0 s true||PU 0 s false)=true:=lR
def cb6:(DV.all λs=>PU 10 s true||PU 10 s false)=true:=lR
def ao1 {α:Type} {L:List α} {p:α ->Bool ->Prop} (h:∀a∈L,∃b,p a b):∃B:α ->Bool,∀a∈L,p a (B a):=by
 classical
 exact⟨λa=>if q:a∈L then (h a q).choose else false,λa j=>by dsimp only;rw[dif_pos j];exact(h a j).choose_spec⟩
def bG4 (h:1<=i/\ i<9):jQ i≠[]:=by
 rcases(show i=1∨i=2∨i=3∨i=4∨i=5∨i=6∨i=7∨i=8 by omega) with rfl|rfl|rfl|rfl|rfl|rfl|rfl|rfl<;>simp[jQ,kj]
def Jt (P:Program) (X:aR) (GL:T (List AV)) (f:Nat) (a:List AV):Prop:=∃b,∀h,bP P X GL f a h (.b b) h
def Ib (P:Program) (X:aR) (GL:T (List AV)):Prop:=∀(s:List Nat) (h:AH),10∉s ->bP P X GL 309 [.s s,.i .u8 10] h (ι (-1)) h
section
variable {P:Program} {X:aR} {GL:T (List AV)} {ae:T au} (S:aT P X GL ae)
include S
theorem cb7 (I:Ib P X GL):Dp P X GL yO:=λf a v h G=>by
 unfold yO at h;rw[fv] at h;split at h;rename_i u;rw[bu,aU] at u;subst u;split at h;rename_i s;rw[fv] at h;split at h;rename_i J;cases h;refine I s G λH=> ?_;clear G;induction s with
 |nil=>cases H
 |cons b s O=>
  have j:(bif Nat.beq b 10 then false else _)=true:=J;rw[fv] at j;split at j;cases j;rename_i hb;rcases ed.1 H with e|e;rw[←e] at hb;exact hb rfl;exact O j e
 cases h;cases h;cases h
theorem bU1 (F:A5 ae) (I:Ib P X GL) {s} (j:s∈DV++[[32],[]]) h:bP P X GL 21 [.s s,.s [10]] h (.b false) h:=
 dR S (hY (cb4 F) (cb7 S I) (fX.1 (hCt GL) s j)) (n:=9) (by simp only[aL,bZ,oK]) h
theorem cb8 (F:gn ae) (hg:GL=mU) {i} (hi:Mr i):Dp P X GL (Bn i):=λf a v h G=>by
 unfold Bn at h;rw[fv] at h;split at h;rename_i j;rw[bu,aU] at j;subst j;split at h;rename_i x;rw[fv] at h;split at h;rename_i u;cases h;rw[HZ 64 x _ u];exact Kg S F hi G;cases h;cases h;rw[fv] at h;split at h;rename_i j;rw[bu,aU] at j;subst j;split at h;rename_i x;rw[fv] at h;split at h;rename_i u;cases h;rw[HZ 64 x _ u];exact bT6 S F hg hi G;cases h;cases h;cases h
theorem bU2 (F:gn ae) (hg:GL=mU) {i} (hi:i=0∨i=10) {s} (j:s∈DV):Jt P X GL 100 [eR iF 5 true (jg i),.s s]:=by
 have key:(PU i s true||PU i s false)=true:=by
  rcases hi with rfl|rfl;exact fX.1 cb5 s j;exact fX.1 cb6 s j
 have u:Mr i:=by unfold Mr;omega
 have one:∀b,PU i s b=true ->∀h,bP P X GL 100 [eR iF 5 true (jg i),.s s] h (.b b) h:=λb hb h=>
  dR S (hY (EH F) (cb8 S F hg u) (by rw[hg];exact hb)) (n:=9) (by simp only[aL,bZ,oK,dA Eu]) h
 rcases Bool.or_eq_true_iff.1 key with k|k;exact⟨true,one _ k⟩;exact⟨false,one _ k⟩
theorem bU3 (FC:gn ae) (F:A5 ae) (hg:GL=mU) {t i} (hi:i<9∨i=10) {s} (G:s∈DV):Jt P X GL 58 [.ag (dq (t,i)),.s s]:=by
 have dp:bJ 11 h0 [.ag (dq (t,i)),.s s]=some [.ag (dq (t,i)),.s s]:=by rw[aL,aL,bZ,oK,nX (n:=10) (jD (n:=9) (t,i))]
 by_cases u:jQ i=[];have j:(jQ i=[])=True:=fq u;have hi':i=0∨i=10:=by
  rcases hi with hi|hi;by_cases e:i=0;exact .inl e;exact bh u (bG4 ω);exact .inr hi
 obtain⟨b,hb⟩:=bU2 S FC hg hi' G;refine⟨b,λh=>dR S (bg.intro λC E=> ?_) dp h⟩;refine E.bS F.f58 (Y2 @dq.eq_1 j ?_);refine E.cN (hb _) (Y0 ?_);exact⟨1,rfl⟩;have j:(jQ i=[])=False:=dQ u;refine⟨decide (jQ i=s),λh=>dR S (bg.intro λC E=> ?_) dp h⟩;refine E.bS F.f58 (Y3 @dq.eq_1 j @aP0 ?_);exact⟨1,rfl⟩
end
def Od {o v l d} (e:h.oB.get o=some (.cells v l)) (e2:bJ n h l=some d):deep (n+1) h (.p o 0)=some (.dp d 0):=by
 show(match h.oB.get o with
  |some (.cells _ l)=>(match eM (deep n h) l with|some l=>some (AV.dp l 0)|none=>none)
  |_=>none)=_
 rw[e];dsimp only;rw[show eM (deep n h) l=some d from e2]
def BN {k l d} (e2:bJ n h l=some d):deep (n+1) h (.dp l k)=some (.dp d k):=by
 show(match eM (deep n h) l with|some l=>some (AV.dp l k)|none=>none)=_;rw[show eM (deep n h) l=some d from e2]
section
variable {P:Program} {X:aR} {GL:T (List AV)} {ae:T au} (S:aT P X GL ae) (A:dY P X GL) (FC:gn ae) (F:A5 ae) (FE:fu ae) (hg:GL=mU)
include S A FC F FE hg
theorem cb9 {t} (O:cA 3 t=true) {i} (hi:i<11) {c:Nat} (I:c<8) {s} (J:s∈DV):Jt P X GL 56 [.ag (dq (t,i)),.dp [.i .u64 (c)] 0,.dp [.s s] 0]:=by
 have u:nice 64 (.ag (dq (t,i)))=true:=by rw[qe,oM]
 have dp:bJ 12 h0 [.ag (dq (t,i)),.dp [.i .u64 (c:Int)] 0,.dp [.s s] 0]=some [.ag (dq (t,i)),.dp [.i .u64 (c:Int)] 0,.dp [.s s] 0]:=by
  rw[aL,aL,aL,bZ,nX (n:=11) (jD (n:=10) (t,i))];rfl
 have j:=λh=>bi7 S A FE O I h;simp only[eT,eD] at j;simp only[dq] at u;by_cases h1:i=10;subst h1;obtain⟨b,hb⟩:=bU3 S FC F hg (t:=t) (i:=10) (.inr rfl) J;have H:(((l7 10:Nat):Int)=2)=True:=fq rfl;simp only[dq] at hb;cases G:mf t c;rw[G] at j;refine⟨false,λh=>dR S (bg.intro λC E=> ?_) dp h⟩;refine E.bS F.f56 (Y1 @dq.eq_1 ?_);refine E.cN (j _) (Y0 ?_);exact⟨1,rfl⟩;rw[G] at j;refine⟨b,λh=>dR S (bg.intro λC E=> ?_) dp h⟩;refine E.bS F.f56 (Y1 @dq.eq_1 ?_);refine E.cN (j _) (Y0 ?_);refine E.cN (hb _) (Y0 ?_);exact⟨1,rfl⟩;have H:(((l7 i:Nat):Int)=2)=False:=dQ (by unfold l7;split<;>omega);refine⟨false,λh=>dR S (bg.intro λC E=> ?_) dp h⟩;refine E.bS F.f56 (Y3 @dq.eq_1 @h0.eq_1 H ?_);exact⟨1,rfl⟩
theorem cc0 {g} (G:oy g) {c:Nat} (U:c<8) {s} (W:s∈DV):Jt P X GL 54 [.s s,.dp (ar g) 0,.dp [.i .u64 (c)] 0]:=by
 have u:∀k,nice 64 (.dp (ar g) k)=true:=λk=>by rw[fK,aO2]
 have dp:bJ 12 h0 [.s s,.dp (ar g) 0,.dp [.i .u64 (c:Int)] 0]=some [.s s,.dp (ar g) 0,.dp [.i .u64 (c:Int)] 0]:=by
  have e:deep 12 h0 (.dp (ar g) 0)=some (.dp (ar g) 0):=by
   show(match eM (deep 11 h0) (ar g) with|some l=>some (AV.dp l 0)|none=>none)=_;rw[show eM (deep 11 h0) (ar g)=some (ar g) from SB (n:=9) g]
  rw[aL,aL,aL,bZ,e];rfl
 obtain⟨B,R⟩:=ao1 (L:=g.tc.zipIdx) (p:=λa b=>∀h,bP P X GL 56 [.ag (dq a),.dp [.i .u64 (c:Int)] 0,.dp [.s s] 0] h (.b b) h) λa H=>by
  obtain⟨t,i⟩:=a;have h1:=List.mem_zipIdx H;have h2:=G.tcl;have J:i<11:=by have:=h1.2.1;omega
  have O:t∈g.tc:=by rw[h1.2.2];exact List.getElem_mem _
  exact cb9 S A FC F FE hg (G.tc t O).f J U W
 have I:=λh d=>ca7 S F (L:=g.tc.zipIdx) (nl:=true) (B:=B) (by rw[ny,G.tcl];omega) (h:=h) (fid:=56) (caps:=[.dp [.i .u64 (c:Int)] 0,.p 0 0]) (dcaps:=[.dp [.i .u64 (c:Int)] 0,.dp [.s s] 0]) d (λn V=>by
  obtain⟨m,rfl⟩:∃m,n=m+1:=⟨n-1,by omega⟩;rw[aL,aL,bZ,BN (l:=[.i .u64 (c:Int)]) (by rw[aL,bZ,dH]),BN (l:=[.s s]) (by rw[aL,bZ,oK])]) λa H h=>R a H h
 by_cases h1:s=[];have j:(s=[])=True:=fq h1;refine⟨true,λh=>dR S (bg.intro λC E=> ?_) dp h⟩;simp only[ar] at u;refine E.bS F.f54 (Y2 @ar.eq_1 j ?_);exact⟨1,rfl⟩;have j:(s=[])=False:=dQ h1;refine⟨!g.tc.zipIdx.any B,λh=>dR S (bg.intro λC E=> ?_) dp h⟩;simp only[ar] at u;refine E.bS F.f54 (Y2 @ar.eq_1 j ?_);refine E.cN (I _ λn V=> ?_) ?_;obtain⟨m,rfl⟩:∃m,n=m+1:=⟨n-1,by omega⟩;rw[aL,aL,bZ,BN (l:=[.i .u64 (c:Int)]) (by rw[aL,bZ,dH]),Od (v:=0) (l:=[.s s]) U0 (by rw[aL,bZ,oK])];refine Y0 ?_;exact⟨1,rfl⟩
end
end
end AM
