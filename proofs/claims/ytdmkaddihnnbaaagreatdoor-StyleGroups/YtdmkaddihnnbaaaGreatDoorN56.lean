import Derived.Test.YtdmkaddihnnbaaaGreatDoorN55
set_option linter.all false
set_option maxHeartbeats 16000000
namespace AM
open Dg Go
noncomputable section
def cc3 s:eH 6 (.ag [(0,1,false,(.lf .b)),(1,1,false,(.lf .i))]) (.ag (ba s)) (.ag (ba s))=some true:=by
 obtain⟨a,i⟩:=s;have e:eO (i:Int) (i:Int)=true:=by rw[A3];simp
 have h:eH 6 (.ag [(0,1,false,(.lf .b)),(1,1,false,(.lf .i))]) (.ag (ba (a,i))) (.ag (ba (a,i)))=(match (some (eO (i:Int) (i:Int)):Option Bool) with|some true=>some true|o=>o):=by cases a<;>rfl
 rw[h,e]
def PV (P:Program) (X:aR) (GL:T (List AV)) (g:Gr) (N:List Tn) (at_ e:Nat):Prop:=∀h,bP P X GL 8 [aI g,eR fG 4 true N,.i .i64 (at_:Int)] h (ι (e:Int)) h
def Pt (Cn:Nat ->Nat ->Prop):Fo ->Nat ->Prop
 | .nil,_=>True
 | .lf _ r,a=>Cn a (a+1)/\ Pt Cn r (a+1)
 | .nd _ k r,a=>Cn a (a+1+k.fl.length)/\ Pt Cn k (a+1)/\ Pt Cn r (a+1+k.fl.length)
variable {n:Nat} {h:AH}
def Ju t:bJ (n+3) h (fG t)=some (fG t):=by
 have j:∀{n h} (s:List Nat),bJ (n+1) h (jT s)=some (jT s):=λs=>by simp only[jT,aL,bZ,oK]
 simp only[fG,aL,bZ,dH,oK,dA (n:=n+2) j]
section
variable {P:Program} {X:aR} {GL:T (List AV)} {ae:T au} (S:aT P X GL ae) (F:A5 ae) {g:Gr} (G:oy g)
include S F G
theorem ao9 {t W s} f (U:(∃r,f= .lf t r)∨∃k r,f= .nd t k r) (I:Fo.ok g (s::W) f) (V:s.1=true ->s.2<9):(∀h,bP P X GL 34 [aI g,.ag (fG t)] h (.b true) h)/\∀h,bP P X GL 35 [aI g,.ag (fG t)] h (.ag (ba s)) h:=by
 have dp:bJ 12 h0 [aI g,.ag (fG t)]=some [aI g,.ag (fG t)]:=by rw[aL,aL,bZ,kq (n:=9),nX (n:=11) (Ju (n:=8) t)]
 have A:g.tc.zipIdx.length=11:=by rw[ny,G.tcl]
 have pl:=G.pl;rcases U with ⟨r,rfl⟩|⟨k,r,rfl⟩;obtain⟨⟨h1,h2,u,-⟩,-⟩:=I;have Z:=V u;have p1:(t.prod= -1)=True:=fq h1;have H:((11:Nat):Int)=11:=rfl;refine⟨λh=>dR S (bg.intro λC E=> ?_) dp h,λh=>dR S (bg.intro λC E=> ?_) dp h⟩;refine E.bS F.f34 (Z5 @aI.eq_1 @ar.eq_1 @fG.eq_1 A H ?_);exact⟨1,rfl⟩;refine E.bS F.f35 (Z3 @aI.eq_1 @ar.eq_1 @fG.eq_1 ?_);obtain⟨b,i⟩:=s;dsimp only at h2 u;subst u;rw[h2];exact⟨1,rfl⟩;obtain⟨⟨q,p,h1,h2,u,-,Y,O,R⟩,-⟩:=I;have hq:=(eC.1 h2).1;have p1:(t.prod= -1)=False:=av;have e1:AM.sub (g.pR.flatMap aM) (q*13+1) 1=some [.i .i64 (p.left:Int)]:=by
  have:=cW kr h2 (j:=1) (n:=1) ω;simpa[aM] using this
 have J:∀h,kg h (eR jT 1 true t.rem)= .v (ι 0) h:=λh=>by rw[R];rfl
 refine⟨λh=>dR S (bg.intro λC E=> ?_) dp h,λh=>dR S (bg.intro λC E=> ?_) dp h⟩;rw[E.cB F.f34];have e6:aY .eql (.s t.text) (.s [])=some (.b true):=by rw[O];rfl
 refine Z5 @aI.eq_1 @ar.eq_1 @fG.eq_1 e6 J ?_;exact⟨1,rfl⟩;rw[E.cB F.f35];rw[h1] at p1;refine Z5 @aI.eq_1 @ar.eq_1 @fG.eq_1 h1 e1 ?_;rw[u];exact⟨1,rfl⟩
theorem cc4 {N f s V a R} (u:Fo.ok g (s::V) f) (I:Pt (PV P X GL g N) f a) (J:N.drop a=f.fl++R) (U:s.1=true ->s.2<9):
 ∃t e H,N[a]? =some t/\ PV P X GL g N a e/\ (∀h,bP P X GL 35 [aI g,.ag (fG t)] h (.ag (ba s)) h)/\ Fo.ok g V H/\ Pt (PV P X GL g N) H e/\ N.drop e=H.fl++R/\ e+H.fl.length=a+f.fl.length:=by
 cases f with
 |nil=>exact u.elim
 |lf t r=>
  obtain⟨-,j⟩:=ao9 S F G _ (.inl ⟨r,rfl⟩) u U;exact⟨t,a+1,r,HK J,I.1,j,u.2,I.2,HP J,by simp only[Fo.fl,gJ];omega⟩
 |nd t k r=>
  obtain⟨-,j⟩:=ao9 S F G _ (.inr ⟨k,r,rfl⟩) u U;have A:N.drop a=t::(k.fl++(r.fl++R)):=by rw[J];simp[Fo.fl]
  have O:N.drop (a+1)=k.fl++(r.fl++R):=HP A;exact⟨t,a+1+k.fl.length,r,HK A,I.1,j,u.2,I.2.2,by rw[←ud,O,List.drop_left],by simp only[Fo.fl,gJ,dy];omega⟩
theorem cc5 {N} (c6:N.length<=40):∀f A a R,Fo.ok g A f ->(∀s∈A,s.1=true ->s.2<9) ->N.drop a=f.fl++R ->Pt (PV P X GL g N) f a:=by
 have bq:=iW (g:=g);have dp:∀a:Nat,bJ 12 h0 [aI g,eR fG 4 true N,.i .i64 (a:Int)]=some [aI g,eR fG 4 true N,.i .i64 (a:Int)]:=λa=>by rw[aL,aL,aL,bZ,kq (n:=9),dH,dA (n:=11) (Ju (n:=8))]
 have pl:=G.pl;simp only[ar] at bq;intro f;induction f with
 |nil=>exact λ_ _ _ _ _ _=>trivial
 |lf t r ih=>
  intro A a R aC h9 hN;rcases A with _|⟨s,A⟩;exact aC.elim;refine⟨λh=>dR S (bg.intro λC E=> ?_) (dp a) h,ih A (a+1) R aC.2 (λs H=>h9 s (by simp[H])) (HP hN)⟩;obtain⟨u,-⟩:=ao9 S F G _ (.inl ⟨r,rfl⟩) aC (h9 s (by simp));have O:N[a]? =some t:=HK hN;have b4:=(eC.1 O).1;have e4:AM.sub (N.flatMap fG) (a*4) 4=some (fG t):=cW Uo O (j:=0) (n:=4) ω;have e1:AM.sub (N.flatMap fG) (a*4) 1=some [.i .i64 t.prod]:=by
   have:=cW Uo O (j:=0) (n:=1) ω;simpa[fG] using this
  have U:nice 64 (.ag (fG t))=true:=by rw[qe,ua]
  have p1:(t.prod<0)=True:=fq (by have:=aC.1.1;omega);simp only[aI,ar] at u;simp only[fG] at e4 u U;refine E.bS F.f8 (Z3 @aI.eq_1 @ar.eq_1 e4 ?_);refine E.cN (u _) (Z4 e1 p1 @bG @bK ?_);exact⟨1,rfl⟩
 |nd t kd r b5 b6=>
  intro A a R aC h9 hN;cases A with
  |nil=>exact aC.elim
  |cons s A=>
   obtain⟨u,-⟩:=ao9 S F G _ (.inr ⟨kd,r,rfl⟩) aC (h9 s (by simp));obtain⟨⟨q,p,h1,h2,h3,h4,-⟩,h6⟩:=aC;have Y:N.drop a=t::(kd.fl++(r.fl++R)):=by rw[hN];simp[Fo.fl]
   have J:N.drop (a+1)=kd.fl++(r.fl++R):=HP Y;have b3:N.drop (a+1+kd.fl.length)=r.fl++R:=by rw[←ud,J,List.drop_left]
   have s9:∀s∈p.right,s.1=true ->s.2<9:=λs H h=>by
    rcases(G.p p (dI h2)).sym s H with h|h;exact h.2;rename_i h';rw[h.1] at h';cases h'
   have ek:=b5 p.right (a+1) _ h4 s9 J;refine⟨λh=>dR S (bg.intro λC E=> ?_) (dp a) h,ek,b6 A _ R h6 (λs H=>h9 s (by simp[H])) b3⟩;have O:N[a]? =some t:=HK Y;have b4:=(eC.1 O).1;have d0:=(eC.1 h2).1;have e4:AM.sub (N.flatMap fG) (a*4) 4=some (fG t):=cW Uo O (j:=0) (n:=4) ω;have e1:AM.sub (N.flatMap fG) (a*4) 1=some [.i .i64 (q:Int)]:=by
    have:=cW Uo O (j:=0) (n:=1) ω;simpa[fG,h1] using this
   have e2:AM.sub (g.pR.flatMap aM) (q*13+2) 1=some [eR ba 2 p.rn p.right]:=cW kr h2 (j:=2) (n:=1) ω;have U:nice 64 (.ag (fG t))=true:=by rw[qe,ua]
   have b7:nice 64 (eR ba 2 p.rn p.right)=true:=A4 jE;simp only[aI,ar] at u;simp only[fG] at e4 u U;refine E.bS F.f8 (Z3 @aI.eq_1 @ar.eq_1 e4 ?_);refine E.cN (u _) (Z2 e1 e2 ?_);refine fj E.ok p.right.length (λi τ h=>h=⟨1,0,T.e.put 0 (.cells 0 (ar g))⟩/\ τ.get 1=some (eR fG 4 true N)/\ τ.get 3=some (.p 0 0)/\ τ.get 8=some (eR ba 2 p.rn p.right)/\ τ.get 9=some (ι (i:Int))/\∃(b:Nat) (I:Fo) (R':List Tn),τ.get 7=some (ι (b:Int))/\ Fo.ok g (p.right.drop i) I/\ Pt (PV P X GL g N) I b/\ N.drop b=I.fl++R'/\ b+I.fl.length=a+1+kd.fl.length) ?_ ?_ _ _
    ⟨by simp only[ar],?_,?_,?_,?_,a+1,kd,_,?_,by rw[List.drop_zero];exact h4,ek,J,rfl⟩
   rintro i τ _ hi ⟨rfl,t1,t3,t8,t9,b,I,R',t7,V,k2,k3,k4⟩ ih;have H:p.right[i]? =some p.right[i]:=oc hi;have Z:=List.getElem_mem hi;generalize p.right[i]=s' at H Z;have hd:p.right.drop i=s'::p.right.drop (i+1):=by rw[Lr hi];congr 1;exact(eC.1 H).2
   rw[hd] at V;obtain⟨t',e,b2,m1,m2,m3,m4,m5,m6,m7⟩:=cc4 S F G V k2 k3 (s9 s' Z);have c7:=(eC.1 m1).1;have W:AM.sub (N.flatMap fG) (b*4) 4=some (fG t'):=cW Uo m1 (j:=0) (n:=4) ω;have e3:AM.sub (p.right.flatMap ba) (i*2) 2=some (ba s'):=cW gO H (j:=0) (n:=2) ω;have b1:nice 64 (.ag (fG t'))=true:=by rw[qe,ua]
   have b0:nice 64 (.ag (ba s'))=true:=by rw[qe,jE]
   have b8:∀k,nice 64 (.dp (p.right.flatMap ba) k)=true:=λk=>by rw[fK,fE jE]
   have e0:((e:Int)<0)=False:=av;have vq:=cc3 s';have ia:aY .add (ι (i:Int)) (ι 1)=some (ι ((i+1:Nat):Int)):=bK (by have:=(G.p p (dI h2)).len;omega);unfold PV at m2;simp only[aI,ar] at m2 m3;simp only[fG] at W m3 b1;simp only[ba] at e3 m3 b0 vq;refine Z6 t1 t3 t7 t8 t9 @ar.eq_1 ?_;refine E.cN (m2 _) (Z7 t1 t3 t7 t8 t9 W e3 ?_);refine E.cN (m3 _) (Z9 t8 t9 b7 b8 b0 e3 vq ia @bG ?_);refine ih _ _ ⟨?_,?_,?_,?_,?_,e,b2,R',?_,m4,m5,m6,by omega⟩;rfl;exact U1 t1;exact U1 t3;(iterate 3 exact U1 t8);rintro τ _ ⟨rfl,t1,t3,t8,t9,b,I,R',t7,V,k2,k3,k4⟩;rw[List.drop_length] at V;have e0:I= .nil:=by cases I with
    |nil=>rfl
    |lf _ _=>exact V.elim
    |nd _ _ _=>exact V.elim
   subst e0;refine Z3 t7 t8 t9 ?_;exact⟨1,by rw[←k4];rfl⟩;all_goals exact U0
end
def cc6 {o}:oF sL (.ag [.i .i64 0,.i .i64 0,.i .i64 0,.i .i64 0]) o= .ag [.i .i64 (EQ o).p,.i .i64 (EQ o).s,.i .i64 (EQ o).k,.i .i64 (EQ o).n]:=by cases o<;>rfl
def cc7 {o k} (h0:0<=k) (j:k<=5):∃f,look k (Jb o)=some (.f f [.p o 0] [])/\ (f=22∨f=23∨f=24∨f=25∨f=26):=by
 rcases(show k=0∨k=1∨k=2∨k=3∨k=4∨k=5 by omega) with rfl|rfl|rfl|rfl|rfl|rfl;exact⟨22,rfl,by omega⟩;exact⟨23,rfl,by omega⟩;exact⟨24,rfl,by omega⟩;exact⟨25,rfl,by omega⟩;exact⟨26,rfl,by omega⟩;exact⟨26,rfl,by omega⟩
section
variable {P:Program} {X:aR} {GL:T (List AV)} {ae:T au} {C:aK Prop} (E:Sem P X GL ae C) (F:A5 ae) {x:BX} {h:AH} {D:List Dn} {a l:Nat} {L:List Ru} {N:List Tn} {Gp:List Bool} (B:Ia x L N Gp)
include E F B
theorem cc8 {Sp Ns Al Ke} (bk:kM L Sp Ns Al Ke) {k}:0<=(EQ (look k Sp)).k/\ (EQ (look k Sp)).k<=5/\ 0<=(EQ (look k Sp)).n/\ (EQ (look k Sp)).n<=3:=by
 rcases e:look k Sp with _|r;exact⟨by decide,by decide,by decide,by decide⟩;obtain⟨h1,h2⟩:=bk.f5 k r e;have u:=B.rv r h1;unfold oT at h2;unfold eP at u;simp only[aB,aU] at h2 u;show 0<=r.k/\ r.k<=5/\ 0<=r.n/\ r.n<=3;have A:=u.2;rw[aD ω] at A;simp only[aB] at A;have j:=A.1.1;by_cases e5:r.k=5;rw[aF e5] at j;simp only[aB,aU] at j;omega;rw[aD e5,aD ω] at j;simp only[aU] at j;omega
theorem cc9 (H:yx x h D a l) (hD:D.length+20<=1048576) (ha:a<=N.length) (hl:1<=l/\ l<=Gp.length) {p s} k (hk:∀T h',I8 T ->yx x h' (D++yz D.length T) a l ->k (ι (A9 D.length T)) h'):
 du C 106 [.p x.o 0,.ag [.i .i64 p,.i .i64 s]] h k:=by
 obtain⟨b,Sp,Ns,Al,Ke,bk,b1,c6,b0,c5,m1,m2,m3,m4⟩:=B.bk;obtain⟨go,b5,c7,b3,cg⟩:=B.gv;obtain⟨mo,b7,d0,b6,cm⟩:=B.mv;obtain⟨n0,v0,ob⟩:=h;obtain⟨lo,nx,⟨dv,-,Z,-⟩,old⟩:=id H;dsimp only at nx Z old;have fr:∀{obx:T bC},(∀j,j<n0 ->obx.get j=ob.get j) ->cG (obx.get (b+5))=some [.m (b+1),.m (b+2),.m (b+3),.m (b+4)]/\ mG (obx.get (b+1))=mX eJ sL Sp:=λ{obx} hx=>by
  refine⟨?_,?_⟩;rw[hx (b+5) ω,old (b+5) ω (b0 5 ω)];exact c5;rw[hx (b+1) ω,old (b+1) ω (b0 1 ω)];exact m1
 obtain⟨d5,Y⟩:=fr (obx:=ob) λ_ _=>rfl;have rk:=cc8 E F B bk (k:=(p,s));rw[b1,b5,b7] at Z;simp only[A8,ar,gw,gx] at Z;have V:∀O J ob' (τ:T AV),mG (T.get ob' (b+1))=mX eJ sL Sp ->az C τ (.t 13)= .m (b+1) ->az C τ (.t 14)=eJ (p,s) ->
  step (az C τ) ⟨O,J,ob'⟩ (.look (.ag [(0,1,false,.lf .i),(1,1,false,.lf .i)]) (.t 13) (.t 14) (.ag [.i .i64 0,.i .i64 0,.i .i64 0,.i .i64 0]) false)= .v (oF sL (.ag [.i .i64 0,.i .i64 0,.i .i64 0,.i .i64 0]) (look (p,s) Sp)) ⟨O,J,ob'⟩:=
  λO J ob' τ q1 q2 q3=>sd (k:=(p,s)) (z:= .ag [.i .i64 0,.i .i64 0,.i .i64 0,.i .i64 0]) (en:=sL) EP (h:=⟨O,J,ob'⟩) (fT.2 q1) q2 q3
 simp only[cc6,eJ] at V;have sg:aY .sub (ι (l:Int)) (ι 1)=some (ι ((l-1:Nat):Int)):=qV ⟨hl.1,by have:=B.nl;have:=B.gl;have h8:Fo.nlv N<=N.length:=List.length_filter_le _ _;omega⟩;obtain⟨gb,b4⟩:∃gb,Gp[l-1]? =some gb:=⟨_,oc ω⟩;have eg:sub (Gp.map AV.b) (l-1) 1=some [.b gb]:=qY (by rw[oh,b4];rfl);obtain⟨f,hf,b2⟩:=cc7 (o:=x.o) rk.1 rk.2.1;have I:∀O J ob' (τ:T AV),mG (T.get ob' mo)=mX kK id (Jb x.o) ->az C τ (.t 41)= .m mo ->az C τ (.t 43)=kK (EQ (look (p,s) Sp)).k ->
  step (az C τ) ⟨O,J,ob'⟩ (.look (.lf .i) (.t 41) (.t 43) .fnil false)= .v (oF id .fnil (look (EQ (look (p,s) Sp)).k (Jb x.o))) ⟨O,J,ob'⟩:=
  λO J ob' τ q1 q2 q3=>sd (k:=(EQ (look (p,s) Sp)).k) (z:= .fnil) (en:=id) Az (h:=⟨O,J,ob'⟩) (fT.2 q1) q2 q3
 have b8:oF id .fnil (look (EQ (look (p,s) Sp)).k (Jb x.o))= .f f [.p x.o 0] []:=by rw[hf];rfl
 rw[b8] at I;simp only[kK] at I;have dg:cG (ob.get go)=some (Gp.map .b):=by rw[old go ω b3];exact cg
 have dm:mG (ob.get mo)=mX kK id (Jb x.o):=by rw[old mo ω b6];exact cm
 have fin:∀(sp:List Nat) (h2:AH) (K:AV ->AH ->Prop),bG2 sp ->n0+2<=h2.next ->(∀j,j<n0 ->h2.oB.get j=ob.get j) ->(∀v h',k v h' ->K v h') ->
  du C f [.p x.o 0,.ag [.i .i64 (EQ (look (p,s) Sp)).p,.i .i64 (EQ (look (p,s) Sp)).s,.i .i64 (EQ (look (p,s) Sp)).k,.i .i64 (EQ (look (p,s) Sp)).n],.s sp] h2 K:=λsp h2 K hs hn u hK=>
  bY1 E F (H.up (by show n0<=_;omega) u) ω (r:=EQ (look (p,s) Sp)) hs (by rcases b2 with h|h|h|h|h<;>simp[h];exact rk.2.2) K λT h' hT hB=>hK _ _ (hk T h' hT hB)
 rw[E.cB F.f106];by_cases k5:(EQ (look (p,s) Sp)).k=5;have U:((EQ (look (p,s) Sp)).k=5)=True:=fq k5;cases gb with
 |true=>
  refine qX Z d5 Y V U sg eg I dg dm ?_;refine E.run (fin [32] _ _ (.inr rfl) (bB _) (λj W=> ?_) λv h' hv=> ?_);have w1:(j=n0)=False:=av;exact U0;refine Y0 ?_;exact hv
 |false=>
  refine qX Z d5 Y V U sg eg I dg dm ?_;refine E.run (fin [] _ _ (.inl rfl) (bB _) (λj W=> ?_) λv h' hv=> ?_);have w1:(j=n0)=False:=av;exact U0;refine Y0 ?_;exact hv
 have U:((EQ (look (p,s) Sp)).k=5)=False:=dQ k5;refine Z5 Z d5 Y V U ?_;refine E.run (bY2 (D:=D) (a:=a) (l:=l) E F B (H.up (by show n0<=n0+1+1;omega) λj W=> ?_) ha _ λrb h2 R A=> ?_);have m9:j<n0:=W;exact U0;obtain⟨n2,v2,aJ⟩:=h2;have R:n0+2<=n2:=R;dsimp only at A;have u:∀j,j<n0 ->aJ.get j=ob.get j:=λj W=>by
  refine(A j (by show j<n0+1+1;omega)).trans ?_;exact U0
 have e1:=(congrArg cG (u x.o ω)).trans Z;have e3:cG (aJ.get (n0+1))=some [.i .i64 (EQ (look (p,s) Sp)).p,.i .i64 (EQ (look (p,s) Sp)).s,.i .i64 (EQ (look (p,s) Sp)).k,.i .i64 (EQ (look (p,s) Sp)).n]:=by
  rw[A (n0+1) (by show n0+1<n0+1+1;omega)];exact U0
 have e4:cG (aJ.get go)=some (Gp.map .b):=by rw[u go ω];exact dg
 have e6:mG (aJ.get mo)=mX kK id (Jb x.o):=by rw[u mo ω];exact dm
 have e5:=e3;have H2:yx x ⟨n2,v2,aJ⟩ D a l:=H.up (by show n0<=n2;omega) u;cases rb with
 |true=>
  refine Z0 ?_;refine E.run (an5 E F (n:=1) H2 ω _ λh' H'=> ?_);refine Y0 ?_;exact hk _ h' (bT4 ω) H'
 |false=>
  cases gb with
  |true=>
   refine Z6 e1 e5 sg eg I e4 ?_;refine E.run (fin [32] _ _ (.inr rfl) R (λj W=> ?_) λv h' hv=> ?_);exact u j W;refine Y0 ?_;exact hv
  |false=>
   refine Z6 e1 e5 sg eg I e4 ?_;refine E.run (fin [] _ _ (.inl rfl) R (λj W=> ?_) λv h' hv=> ?_);exact u j W;refine Y0 ?_;exact hv
end
def A6 (s:List Nat):Prop:=s∈DV++[[32],[]]
def Cv (L:List Ru) (p:Int):Bool:=L.any λr=>decide (r.p=p)&&decide (r.k=8)
structure HT (L:List Ru) (f:Fo) (T:Option Dt):Prop where
 n:T=none↔f.lv=0
 g:DH T=f.cnt (Cv L)
 ft:DP A6 T
 z:uT T<=f.wt
def HT.nil L:HT L .nil none:=⟨⟨λ_=>rfl,λ_=>rfl⟩,rfl,trivial,bB _⟩
def QT {A B} (h:∀s,A s ->B s):∀(T:Dt),T.fit A ->T.fit B
 | .tx s,k| .ln s,k=>h s k
 | .hd,_=>trivial
 | .sq a b,k=>⟨QT h a k.1,QT h b k.2⟩
 | .ne n a,k=>⟨k.1,QT h a k.2⟩
 | .al a,k| .gp a,k=>QT h a k
def cd0 {T} (h:I8 T):DP A6 T:=by
 rcases T with _|T;trivial;exact QT (λs j=>by unfold A6;rcases j with rfl|rfl<;>simp) T h.f
def HF (n:Nat):Option Dt ->Option Dt
 |none=>none
 |some T=>if n=0 then some T else some (.ne n T)
def Eo (R:List (List Nat)):Option Dt:=R.foldl (λT r=>jn (jn T (some (.tx r))) (some .hd)) none
def Pv (t:Tn):Option Dt:=jn (Eo t.rem) (some (.tx t.text))
variable {b:Nat}
def bG5 {a b}:jn a b=none↔a=none/\ b=none:=by cases a<;>cases b<;>simp[jn]
def cd1 {R:List (List Nat)} (u:∀s∈R,A6 s):∀{T m},DH T=0 ->DP A6 T ->uT T<=4*m ->DH (R.foldl (λT r=>jn (jn T (some (.tx r))) (some .hd)) T)=0/\ DP A6 (R.foldl (λT r=>jn (jn T (some (.tx r))) (some .hd)) T)/\ uT (R.foldl (λT r=>jn (jn T (some (.tx r))) (some .hd)) T)<=4*(m+R.length):=by
 induction R with
 |nil=>exact λh1 h2 j=>⟨h1,h2,j⟩
 |cons r R ih=>
  intro T m h1 h2 j;have H:=HH T (some (.tx r));have I:=HH (jn T (some (.tx r))) (some .hd);have e1:uT (some (Dt.tx r))=1:=rfl;have e2:uT (some Dt.hd)=1:=rfl;have:=ih (λs A=>u s (by simp[A])) (T:=jn (jn T (some (.tx r))) (some .hd)) (m:=m+1) (by rw[JC,JC,h1];rfl) (JD (JD h2 (u r (by simp))) trivial) ω;rw[zH,gJ];exact⟨this.1,this.2.1,by have:=this.2.2;omega⟩
def cd2 {t} (H:A6 t.text) (A:∀s∈t.rem,A6 s):Pv t≠none/\ DH (Pv t)=0/\ DP A6 (Pv t)/\ uT (Pv t)<=4*t.rem.length+2:=by
 obtain⟨h1,h2,j⟩:=cd1 A (T:=none) (m:=0) rfl trivial (bB _);have q:=HH (Eo t.rem) (some (.tx t.text));have e1:uT (some (Dt.tx t.text))=1:=rfl;have u:uT (Eo t.rem)<=4*(0+t.rem.length):=j;refine⟨λh=>(by cases (bG5.1 h).2),?_,JD h2 H,by unfold Pv;omega⟩;show DH (jn _ _)=0;rw[JC];exact congrArg (·+0) h1
def cd3 {T} (u:n<=16) (j:DP A6 T):(HF n T=none↔T=none)/\ DH (HF n T)=DH T/\ DP A6 (HF n T)/\ uT (HF n T)<=uT T+1:=by
 rcases T with _|T;exact⟨Iff.rfl,rfl,trivial,by show 0<=1;omega⟩;unfold HF;dsimp only;split;exact⟨Iff.rfl,rfl,j,nD _⟩;exact⟨⟨λh=>(by cases h),λh=>(by cases h)⟩,rfl,⟨by omega,j⟩,bB _⟩
def HT.join {L} {f r:Fo} {g o s b} (j:HT L r b) (u:I8 s) (hb:b=none ->s=none) (A:n<=16) (R:o=none↔f.lv=0) (O:DH o=f.cnt (Cv L)) (of:DP A6 o) (oz:uT o+11<=f.wt) (e1:g.lv=f.lv+r.lv) (e2:g.cnt (Cv L)=f.cnt (Cv L)+r.cnt (Cv L)) (e3:g.wt=f.wt+r.wt):HT L g (jn o (HF n (jn s b))):=by
 obtain⟨H,I,J,U⟩:=cd3 A (T:=jn s b) (JD (cd0 u) j.ft);have V:=HH o (HF n (jn s b));have W:=HH s b;have z3:=u.z;have z4:=j.z;refine⟨?_,?_,JD of J,by omega⟩;rw[bG5,H,bG5,R,e1];constructor;rintro⟨h1,-,h2⟩;rw[h1,j.n.1 h2];intro h;have h2:=j.n.2 ω;exact⟨by omega,hb h2,h2⟩;rw[JC,I,JC,u.g,O,j.g,e2];omega
def Jv (al kp:Bool):Option Dt ->Option Dt
 |none=>none
 |some T=>let U:=if al then Dt.al T else T;some (if kp then .gp U else U)
def cd4 {al kp T} (u:DP A6 T):(Jv al kp T=none↔T=none)/\ DH (Jv al kp T)=DH T+(if T=none then 0 else if kp then 1 else 0)/\ DP A6 (Jv al kp T)/\ uT (Jv al kp T)<=uT T+2:=by
 rcases T with _|T;exact⟨Iff.rfl,rfl,trivial,by show 0<=2;omega⟩;have j:T.fit A6:=u;cases al<;>cases kp<;>refine⟨⟨λh=>(by cases h),λh=>(by cases h)⟩,?_,?_,?_⟩<;>simp[Jv,DH,uT,Dt.gs,Dt.sz,DP,Dt.fit,j]
def HU {i} T:(yz i T).length=uT T:=by
 rcases T with _|T;rfl;exact Dt.po_len T i
def take_add {α:Type} {l F R:List α} {a} (h:l.drop a=F++R):l.take (a+F.length)=l.take a++F:=by
 rw[List.take_add,h,List.take_left]
def Ba (RL:List Ru) (p:Int):Nat:=(RL.filter λr=>decide (r.k=8)&&decide (r.p=p)).length
def bU4 {g L} (h:iG g L=true) {i r} (hi:L[i]? =some r):eP g r=true/\∀q∈L.take i,iY r q=false:=by
 have:=fX.1 h i (mA.2 (eC.1 hi).1);unfold rj at this;rw[hi] at this;dsimp only at this;rw[aB,fX] at this;exact⟨this.1,λq j=>by simpa using this.2 q j⟩
def bG6 {g L} (h:iG g L=true):∀r∈L,eP g r=true:=λr j=>by
 obtain⟨i,hi⟩:=List.mem_iff_getElem?.1 j;exact(bU4 h hi).1
def bU5 {g L} (h:iG g L=true) p:Ba L p=if Cv L p then 1 else 0:=by
 have key:∀n,n<=L.length ->Ba (L.take n) p=if Cv (L.take n) p then 1 else 0:=by
  intro n;induction n with
  |zero=>exact λ_=>rfl
  |succ n A=>
   intro J;have hi:L[n]? =some L[n]:=oc ω;obtain⟨v1,v2⟩:=bU4 h hi;generalize L[n]=r at hi v1 v2;have A:=A ω;rw[List.take_succ,hi];show Ba (L.take n++[r]) p=if Cv (L.take n++[r]) p then 1 else 0
   unfold Ba Cv at*;rw[List.filter_append,dy,mV,A];by_cases j:r.k=8/\ r.p=p;have e1:(L.take n).any (λr=>decide (r.p=p)&&decide (r.k=8))=false:=by
    rw[P6];intro q H u;rw[aB,aU,aU] at u;have I:=bG6 h q (List.mem_of_mem_take H);have c:=v2 q H;unfold iY at c;rw[eW (show r.p=q.p by rw[j.2,u.1]),eW (show r.s=q.s by rw[EU v1 (.inr j.1),EU I (.inr u.2)]),eW (show r.k=q.k by rw[j.1,u.2])] at c;simp at c
   rw[e1];simp[j.1,j.2];have e2:(decide (r.p=p)&&decide (r.k=8))=false:=by
    by_cases a:r.p=p;have:¬r.k=8:=λb=>j ⟨b,a⟩;simp[this];simp[a]
   have e3:(decide (r.k=8)&&decide (r.p=p))=false:=by rw[Bool.and_comm];exact e2
   rw[e2,Bool.or_false];simp[Fx,e3]
 have:=key L.length (bB _)
 rwa [rL] at this
def cd5 {g L} (h:iG g L=true):Ba L (-1)=0:=by
 rw[bU5 h];have:Cv L (-1)=false:=by
  unfold Cv;rw[P6];intro r u j;rw[aB,aU] at j;have:=bG6 h r u;unfold eP at this;simp only[aB,aU] at this;omega
 rw[this];rfl
def cd6 {L:List Ru} {r i p} (hi:L[i]? =some r):Ba (L.take (i+1)) p=Ba (L.take i) p+(if r.k=8/\ r.p=p then 1 else 0):=by
 rw[List.take_succ,hi];show Ba (L.take i++[r]) p=_;unfold Ba;rw[List.filter_append,dy];by_cases j:r.k=8/\ r.p=p;rw[aF j];simp[j.1,j.2];rw[aD j];by_cases a:r.k=8;have:¬r.p=p:=λb=>j ⟨a,b⟩;simp[this];simp[a]
def bU6 {L p}:Ba L p<=L.length:=List.length_filter_le _ _
def Fo.dat:Fo ->List (Int×Nat×Nat)
 |nil=>[]
 |lf t r=>(t.prod,1,1)::dat r
 |nd t k r=>(t.prod,1+k.fl.length,lv k)::(dat k++dat r)
def Fo.dat_len:∀f:Fo,f.dat.length=f.fl.length
 | .nil=>rfl
 | .lf t r=>by simp only[dat,fl,gJ,dat_len r]
 | .nd t k r=>by simp only[dat,fl,gJ,dy,dat_len k,dat_len r]
def DG (K:Int ->Nat):List (Int×Nat×Nat) ->Nat
 |[]=>0
 |x::l=>(if x.2.2=0 then 0 else K x.1)+DG K l
def bG7 {K}:∀{a b},DG K (a++b)=DG K a+DG K b
 |[],b=>by simp[DG]
 |x::a,b=>by rw[gw,DG,DG,bG7];omega
def cd7 {K} {l:List (Int×Nat×Nat)} {i x} (h:l[i]? =some x):DG K (l.take (i+1))=DG K (l.take i)+(if x.2.2=0 then 0 else K x.1):=by
 rw[List.take_succ,h,bG7];simp[DG]
def bU7 {K m} (j:∀p,K p<=m):∀l,DG K l<=m*l.length
 |[]=>oi _
 |x::l=>by
  have:=bU7 j l;have h1:=j x.1;rw[DG,gJ,Nat.mul_succ];split<;>omega
def aq3 {g RL} (h:iG g RL=true):∀{f ss},Fo.ok g ss f ->DG (Ba RL) f.dat=f.cnt (Cv RL)
 | .nil,[],_=>rfl
 | .lf t r,s::ss,hk=>by
  have e:=aq3 h hk.2;have p:=hk.1.1;simp only[Fo.dat,DG,Fo.cnt,p,cd5 h,e];simp
 | .nd t k r,s::ss,hk=>by
  obtain⟨⟨q,x,h1,-,-,j,-⟩,h2⟩:=hk;have e1:=aq3 h j;have e2:=aq3 h h2;simp only[Fo.dat,DG,Fo.cnt,bG7,e1,e2,bU5 h];omega
 | .nil,_::_,h=>h.elim
 | .lf _ _,[],h=>h.elim
 | .nd _ _ _,[],h=>h.elim
def cd8 {g} {N:List Tn} {Cn}:∀f u a R,Fo.ok g u f ->Pt Cn f a ->N.drop a=f.fl++R ->∀i x,f.dat[i]? =some x ->
 ∃t,N[a+i]? =some t/\ t.prod=x.1/\ Cn (a+i) (a+i+x.2.1)/\ 1<=x.2.1/\ a+i+x.2.1<=N.length/\ Fo.nlv ((N.drop (a+i)).take x.2.1)=x.2.2:=by
 intro f;induction f with
 |nil=>intro u a R _ _ _ i x j;cases j
 |lf t r W=>
  intro u a R hk he hN i x j;rcases u with _|⟨s,u⟩;exact hk.elim;rcases i with _|i;cases j;have J:=congrArg List.length hN;simp only[Fo.fl,sW,dy,gJ] at J;refine⟨t,HK hN,rfl,he.1,bB _,by show a+0+1<=N.length;omega,?_⟩;show Fo.nlv ((N.drop a).take 1)=1;rw[hN];have:decide (t.prod<0)=true:=eW (by rw[hk.1.1];decide);simp[Fo.fl,Fo.nlv,this];have:=W u (a+1) R hk.2 he.2 (HP hN) i x j
  rwa [show a+1+i=a+(i+1) by omega] at this
 |nd t k r O U=>
  intro u a R hk he hN i x j;rcases u with _|⟨s,u⟩;exact hk.elim;obtain⟨⟨q,y,h1,-,-,V,-⟩,h2⟩:=hk;have A:N.drop a=t::(k.fl++(r.fl++R)):=by rw[hN];simp[Fo.fl]
  have H:N.drop (a+1)=k.fl++(r.fl++R):=HP A;have I:N.drop (a+1+k.fl.length)=r.fl++R:=by rw[←ud,H,List.drop_left]
  rcases i with _|i;cases j;have J:=congrArg List.length A;simp only[sW,dy,gJ] at J;refine⟨t,HK A,rfl,by have:=he.1;rwa [pK] at this,xJ _ _,by show a+0+(1+k.fl.length)<=N.length;omega,?_⟩;show Fo.nlv ((N.drop a).take (1+k.fl.length))=k.lv;rw[A,Nat.add_comm,List.take_succ_cons,List.take_left,←Fo.lv_eq V];have:decide (t.prod<0)=false:=fe (by rw[h1];omega);simp[Fo.nlv,this];have j:(k.dat++r.dat)[i]? =some x:=j;by_cases hi:i<k.fl.length;rw[pL (by rw[Fo.dat_len];exact hi)] at j;have:=O y.right (a+1) (r.fl++R) V he.2.1 H i x j
  rwa [show a+1+i=a+(i+1) by omega] at this
  rw[rK (by rw[Fo.dat_len];omega),Fo.dat_len] at j;have:=U u (a+1+k.fl.length) R h2 he.2.2 I (i-k.fl.length) x j
  rwa [show a+1+k.fl.length+(i-k.fl.length)=a+(i+1) by omega] at this
variable {P:Program} {X:aR} {GL:T (List AV)} {ae:T au}
def cd9 (S:aT P X GL ae) {f args dargs d} (R:∀h,bP P X GL f dargs h d h) {m} (O:bJ n h args=some dargs) (hd:kI m d=true):bP P X GL f args h d h:=by
 intro c w vs r gl U;have r0:RS (dJ X) (c.only (fL w) GL) h0 w:=r.only gl S.gl (λb row hb=>Dl hb) (λb row hb=>by obtain⟨t,H,e⟩:=r.im b row hb;exact qS e);have j:bX (c.only (fL w) GL) dargs vs:=
  (yf (CR:=dJ X) (c:=c) (h:=h) (w:=w) (c2:=c.only (fL w) GL) (λo ver l I=>r.obj _ _ I) (λb row hb=>by obtain⟨t,H,e⟩:=r.im b row hb;exact qS e)
   (λo ver l I row t H J=>qS J) n).2 _ _ _ O U
 refine mJ.mono (R h0 _ w vs r0 (λg l h=>h) j) ?_;rintro v' V ⟨c1,u,A⟩;exact⟨c.fix w V,Hb r u.keep.size (λb hb=>Ha u hb) u.keep.io,(OG m).1 _ _ hd A⟩
def ce0:T au:=T.put .e 33 bQ3
def h33 (GL:T (List AV)):(List.range 7).all (λk=>gM GL ce0 (λ_ _=>none) 1000 33 [.i .i64 (.ofNat k)] (ι (.ofNat (bif Nat.ble k 2 then 0 else bif Nat.beq k 3 then 2 else 1))))=true:=lR
def uB (n:Nat) (u:Nat ->Bool):List AV:=(List.range n).map λj=> .b (u j)
def bU8 {u j} (h:j<n):AM.sub (uB n u) j 1=some [.b (u j)]:=qY (by unfold uB;rw[oh,List.getElem?_range h];rfl)
def bU9 {u j} (h:j<n):dW [.b true] (uB n u) j=some (uB n (Ig u j)):=by
 rw[Rr (by unfold uB;rw[kU,List.length_range];exact h)];congr 1;refine xz λi=> ?_;unfold uB;rw[xF,kU,List.length_range,oh,oh];by_cases e:j=i;subst e;rw[aF rfl,aF h,List.getElem?_range h];show _=some (AV.b (if j=j then true else u j));rw[aF rfl];rw[aD e];by_cases hi:i<n;rw[List.getElem?_range hi];show _=some (AV.b (if i=j then true else u i));rw[aD λq=>e q.symm];rfl;rw[rI (by rw[List.length_range];omega)];rfl
section
variable {P:Program} {X:aR} {GL:T (List AV)} {ae:T au} (S:aT P X GL ae) (F:A5 ae)
def bV0 (S:aT P X GL ae) (F:A5 ae) {k:Nat} (j:k<=6) h:bP P X GL 33 [.i .i64 (k)] h (ι (DU k)) h:=by
 have:=fX.1 (h33 GL) k (mA.2 ω);refine dR S (hY (gk AF F.f33) iE (n:=1000) ?_) (n:=9) (by simp only[aL,bZ,dH]) h;rcases(show k=0∨k=1∨k=2∨k=3∨k=4∨k=5∨k=6 by omega) with rfl|rfl|rfl|rfl|rfl|rfl|rfl<;>exact this
def ce1 (S:aT P X GL ae) (F:A5 ae) (I:Ib P X GL) {d} (h1:d.s=[]∨d.k<=1) (h2:d.n=0∨d.k=4) (J:d.n<=1000) (A:A6 d.s) h:bP P X GL 66 [.ag (yV d)] h (.b true) h:=by
 obtain⟨k,s,n,a,b⟩:=d;dsimp only at h1 h2 J A;refine dR S (n:=9) ?_ (by simp only[aL,bZ];rfl) h;refine bg.intro λC E=> ?_;have cc:=λh=>bU1 S F I A h;rw[E.cB F.f66];have sE:∀{s:List Nat},s=[] ->aY .neq (.s s) (.s [])=some (.b false):=λh=>by rw[h];rfl
 have H:∀{s:List Nat},s≠[] ->aY .neq (.s s) (.s [])=some (.b true):=λh=>by rw[aP1,ot h];rfl
 by_cases R:k=0;have V:((k:Int)=0)=True:=cJ;have u:((n:Int)=0)=True:=cJ;by_cases j:s=[];have e:=sE j;refine Z2 @yV.eq_1 e ?_;refine E.cN (cc _) (Z0 ?_);exact⟨1,rfl⟩;have e:=H j;refine Z2 @yV.eq_1 e ?_;refine E.cN (cc _) (Z0 ?_);exact⟨1,rfl⟩;by_cases U:k=1;have W:((k:Int)=1)=True:=cJ;have u:((n:Int)=0)=True:=cJ;by_cases j:s=[];have e:=sE j;refine Z2 @yV.eq_1 e ?_;refine E.cN (cc _) (Z0 ?_);exact⟨1,rfl⟩;have e:=H j;refine Z2 @yV.eq_1 e ?_;refine E.cN (cc _) (Z0 ?_);exact⟨1,rfl⟩;have e:=sE (h1.resolve_right ω);rcases vF n with O|O;have u:((n:Int)=0)=True:=cJ;refine Z2 @yV.eq_1 e ?_;refine E.cN (cc _) (Z0 ?_);exact⟨1,rfl⟩;have u:((n:Int)=0)=False:=av;refine Z2 @yV.eq_1 e ?_;refine E.cN (cc _) (Z0 ?_);exact⟨1,rfl⟩
variable {C:aK Prop} (E:Sem P X GL ae C)
include E F
theorem bG8 {h I A n i a u} (c1:cG (h.oB.get I)=some [.sl A 0 n (some n) 1]) (c2:cG (h.oB.get A)=some (uB n u)) (U:a<i) (H:a<n) (R:u a=false) k (O:∀h',h'.next=h.next ->cG (h'.oB.get A)=some (uB n (Ig u a)) ->(∀j,j≠A ->h'.oB.get j=h.oB.get j) ->k (.b true) h'):
 du C 65 [.b true,.i .i64 (a),.i .i64 (i),.p I 0] h k:=by
 obtain⟨n0,v0,ob⟩:=h;dsimp only at c1 c2;have e1:=bU8 (u:=u) H;rw[R] at e1;have e2:=bU9 (u:=u) H;refine E.bS F.f65 (Z5 c1 c2 e1 e2 H ?_);refine O _ rfl ?_ λj J=> ?_;exact U0;have w:(j=A)=False:=dQ J;exact U1 w
theorem bG9 {h} {j u n i x:Nat} (H:x=0) (c1:cG (h.oB.get j)=some [.sl u 0 n (some n) 1]) k (A:k (.b true) h):du C 65 [.b false,.i .i64 (x),.i .i64 (i),.p j 0] h k:=by
 obtain⟨n0,v0,ob⟩:=h;dsimp only at c1;refine E.bS F.f65 (Z0 ?_);exact A
end
def bV1 n:(List.replicate n [AV.b false]).flatten=uB n λ_=>false:=by
 unfold uB;rw[List.map_const',List.length_range];induction n with
 |zero=>rfl
 |succ n j=>rw[uc,vD,j,uc];rfl
def ce2 {D:List Dn} {i d u v} (hd:D[i]? =some d) (h:chk (D.drop i) i u v):∃j,stU d i u j/\ chk (D.drop (i+1)) (i+1) j v:=by
 have hi:=(eC.1 hd).1;have e:D.drop i=d::D.drop (i+1):=by rw[Lr hi];congr 1;exact(eC.1 hd).2
 rw[e] at h;exact h
def ce3 (S:aT P X GL ae) (F:A5 ae) (I:Ib P X GL) {W:Dt} (hT:W.fit A6) (hz:W.sz<=65536) {nl} h:bP P X GL 31 [eR yV 5 nl (W.po 0)] h (ι 0) h:=by
 have cd:∀{n:Nat} {h:AH} (d:Dn),bJ n h (yV d)=some (yV d):=λd=>by simp only[yV,aL,bZ,dH,oK]
 refine dR S (n:=9) ?_ (by simp only[aL,bZ,dA (n:=8) cd]) h;refine bg.intro λC E=> ?_;have lD:=W.po_len 0;have b7:=Qr W 0 (λ_=>false) hT λ_ _ _=>rfl;have c6:=QP (A:=A6) (by unfold A6;simp) W 0 hT;generalize W.po 0=D at*;have zp:=W.sz_pos;generalize hv:Eg (λ_=>false) 0 (0+W.sz-1)=v at b7;have vt:∀j,j<D.length-1 ->v j=true:=λj hj=>by
  rw[←hv];show(false||decide (0<=j/\ j<0+W.sz-1))=true;rw[zG ω];rfl
 have ds:aY .sub (ι (D.length:Int)) (ι 1)=some (ι ((D.length-1:Nat):Int)):=qV (a:=D.length) (b:=1) ω;refine E.bS F.f31 (Z1 @bV1 ?_);refine fj E.ok D.length (λi τ h=>∃u,chk (D.drop i) i u v/\ 2<=h.next/\ cG (h.oB.get 1)=some [.sl 0 0 D.length (some D.length) 1]/\ cG (h.oB.get 0)=some (uB D.length u)/\ τ.get 0=some (eR yV 5 nl D)/\ τ.get 3=some (.p 1 0)/\ τ.get 4=some (.f 65 [] [.p 1 0])/\ τ.get 16=some (eR yV 5 nl D)/\ τ.get 17=some (ι (D.length:Int))/\ τ.get 18=some (ι (i:Int))) ?_ ?_ _ _
  ⟨λ_=>false,by rw[List.drop_zero];exact b7,bB _,?_,?_,?_,?_,?_,?_,?_,?_⟩
 rintro i τ ⟨n1,v1,ob⟩ hi ⟨u,hc,hn,c1,c0,t0,t3,t4,V,J,O⟩ ih;dsimp only at hn c1 c0;have hd:D[i]? =some D[i]:=oc hi;generalize D[i]=d at hd;obtain⟨u1,⟨k6,s1,n4,b3,hu⟩,b8⟩:=ce2 hd hc;have e5:AM.sub (D.flatMap yV) (i*5) 5=some (yV d):=cW bS6 hd (j:=0) (n:=5) ω;have ac:=λh=>bV0 S F k6 h;have fc:=λh=>ce1 S F I s1 n4 b3 (c6 d (dI hd)) h;simp only[yV] at e5 fc;refine Z4 V J O e5 ?_;refine E.cN (ac _) (Z0 ?_);refine E.cN (fc _) ?_;have w1:(1=n1)=False:=av;have w0:(0=n1)=False:=av;have d1:i<D.length:=hi;have b1:cG (((ob.put n1 (.cells v1 [.i .i64 0,.s [],.i .i64 0,.i .i64 0,.i .i64 0])).put n1 (.cells (v1+1) [.i .i64 (d.k:Int),.s d.s,.i .i64 (d.n:Int),.i .i64 (d.a:Int),.i .i64 (d.b:Int)])).get 1)=some [.sl 0 0 D.length (some D.length) 1]:=wW w1 c1;have b0:cG (((ob.put n1 (.cells v1 [.i .i64 0,.s [],.i .i64 0,.i .i64 0,.i .i64 0])).put n1 (.cells (v1+1) [.i .i64 (d.k:Int),.s d.s,.i .i64 (d.n:Int),.i .i64 (d.a:Int),.i .i64 (d.b:Int)])).get 0)=some (uB D.length u):=wW w0 c0;have fin:∀(τ':T AV) (h':AH),2<=h'.next ->cG (h'.oB.get 1)=some [.sl 0 0 D.length (some D.length) 1] ->cG (h'.oB.get 0)=some (uB D.length u1) ->τ'.get 0=some (eR yV 5 nl D) ->τ'.get 3=some (.p 1 0) ->τ'.get 4=some (.f 65 [] [.p 1 0]) ->τ'.get 16=some (eR yV 5 nl D) ->τ'.get 17=some (ι (D.length:Int)) ->τ'.get 18=some (ι ((i+1:Nat):Int)) ->df C _ _ _ τ' h':=λτ' h' h1 h2 h3 h4 h5 h6 h7 h8 h9=>ih τ' h' ⟨u1,b8,h1,h2,h3,h4,h5,h6,h7,h8,h9⟩;rcases hu with ⟨k0,ha,hb,rfl⟩|⟨k1,ha,b2,hb,rfl⟩|⟨k2,ha,b2,hb,c7,rfl⟩;have p0:(0<(DU d.k:Int))=False:=av;refine Z2 t4 p0 ?_;refine E.run (bG9 F E ha b1 _ ?_);refine Z1 t4 ?_;refine E.run (bG9 F E hb b1 _ ?_);refine Z1 O ?_;refine fin _ _ (Nat.le_succ_of_le hn) b1 b0 ?_ ?_ ?_ ?_ ?_ ?_;exact U1 t0;exact U1 t3;exact U1 t4;exact U1 V;exact U1 J;exact U0;have p0:(0<(DU d.k:Int))=True:=cJ;refine Z2 t4 p0 ?_;refine E.run (bG8 F E b1 b0 ha ω b2 _ λh2 n2 R H=> ?_);obtain⟨m2,v2,aJ⟩:=h2;dsimp only at R H;have d0:m2=n1+1:=n2;have U:cG (aJ.get 1)=some [.sl 0 0 D.length (some D.length) 1]:=by rw[H 1 ω];exact b1
 have bd:cG (aJ.get n1)=some [.i .i64 (d.k:Int),.s d.s,.i .i64 (d.n:Int),.i .i64 (d.a:Int),.i .i64 (d.b:Int)]:=by rw[H n1 ω];exact U0
 refine Z2 t4 bd ?_;refine E.run (bG9 F E hb U _ ?_);refine Z1 O ?_;refine fin _ _ (by show 2<=m2;omega) U R ?_ ?_ ?_ ?_ ?_ ?_;exact U1 t0;exact U1 t3;exact U1 t4;exact U1 V;exact U1 J;exact U0;have p0:(0<(DU d.k:Int))=True:=cJ;refine Z2 t4 p0 ?_;refine E.run (bG8 F E b1 b0 ha ω b2 _ λh2 n2 R H=> ?_);obtain⟨m2,v2,aJ⟩:=h2;dsimp only at R H;have d0:m2=n1+1:=n2;have U:cG (aJ.get 1)=some [.sl 0 0 D.length (some D.length) 1]:=by rw[H 1 ω];exact b1
 have bd:cG (aJ.get n1)=some [.i .i64 (d.k:Int),.s d.s,.i .i64 (d.n:Int),.i .i64 (d.a:Int),.i .i64 (d.b:Int)]:=by rw[H n1 ω];exact U0
 refine Z2 t4 bd ?_;refine E.run (bG8 F E U R hb ω c7 _ λh3 n3 Z b6=> ?_);obtain⟨m3,v3,cC⟩:=h3;dsimp only at Z b6;have d2:m3=m2:=n3;have b5:cG (cC.get 1)=some [.sl 0 0 D.length (some D.length) 1]:=by rw[b6 1 ω];exact U
 refine Z1 O ?_;refine fin _ _ (by show 2<=m3;omega) b5 Z ?_ ?_ ?_ ?_ ?_ ?_;exact U1 t0;exact U1 t3;exact U1 t4;exact U1 V;exact U1 J;exact U0;rintro τ ⟨n1,v1,ob⟩ ⟨u,hc,hn,c1,c0,t0,t3,t4,V,J,O⟩;dsimp only at hn c1 c0;rw[List.drop_length] at hc;obtain rfl:u=v:=hc;refine Z4 t0 J O ds ?_;refine fj E.ok (D.length-1) (λi τ h=>h=⟨n1,v1,ob⟩/\ τ.get 0=some (eR yV 5 nl D)/\ τ.get 3=some (.p 1 0)/\ τ.get 56=some (ι ((D.length-1:Nat):Int))/\ τ.get 57=some (ι (i:Int))) ?_ ?_ _ _ ⟨rfl,?_,?_,?_,?_⟩;rintro i τ _ hi ⟨rfl,t0,t3,Y,b4⟩ ih;have e1:=bU8 (u:=u) (show i<D.length by omega);rw[vt i hi] at e1;refine Z6 t3 Y b4 c1 c0 e1 ?_;refine ih _ _ ⟨rfl,?_,?_,?_,?_⟩;exact U1 t0;exact U1 t3;exact U1 Y;exact U0;rintro τ _ ⟨rfl,t0,t3,Y,b4⟩;refine Z3 t0 Y b4 ?_;exact⟨1,rfl⟩;exact U1 t0;(iterate 3 exact U1 t3);all_goals exact U0
def Jw (D:List Dn) (b:Nat) (W:List Dn):Prop:=∀j,j<W.length ->D[b+j]? =W[j]?
def Jw.l {D A B} (h:Jw D b (A++B)):Jw D b A:=λj u=>by
 rw[h j (by rw[dy];omega),pL u]
def Jw.r {D A B} (h:Jw D b (A++B)):Jw D (b+A.length) B:=λj u=>by
 rw[pK,h (A.length+j) (by rw[dy];omega),rK ω,Nat.add_sub_cancel_left]
def Jw.one {D A d} (h:Jw D b (A++[d])):D[b+A.length]? =some d:=by
 have:=h.r 0 (by simp);simpa using this
def aq6:aw:=eg (sE 32 7)
abbrev QU:au:=(λy=>eg (bE (pg 32) λo=>pt 7 y o)) aq6
def ce4:bE7=QU:=by unfold bE7 QU aq6;rfl
structure GX where
 m0:Nat
 db:Nat
 oo:Nat
 wo:Nat
 ob0:T bC
 pr:Nat ->Option (List AV)
structure Pw (x:GX) (D:List Dn) (nl:Bool):Prop where
 lt:x.db<x.m0/\ x.oo<x.m0/\ x.wo<x.m0/\ x.db≠x.oo/\ x.wo≠x.oo
 c1:cG (x.ob0.get x.db)=some [eR yV 5 nl D]
 c2:cG (x.ob0.get x.wo)=some [.f 32 [] [.p x.db 0,.p x.oo 0,.p x.wo 0]]
structure GS (x:GX) (h:AH) (n:Nat):Prop where
 nx:x.m0<=h.next
 old:∀j,j<x.m0 ->j≠x.oo ->h.oB.get j=x.ob0.get j
 ob:∃ov cs,SL x.m0 h ov n 1 cs/\ cG (h.oB.get x.oo)=some [ov]/\∀j c,x.pr j=some c ->x.m0<=j/\ j<h.next/\ cG (h.oB.get j)=some c/\∀n c,ov≠.sl j 0 n c 1
def GX.prot (x:GX) (n:Nat) (cs:List AV):GX:={ x with pr:=λj=>if j=n then some cs else x.pr j }
section
variable {x:GX} {n m n' v v':Nat} {ob ob':T bC}
def GS.prot (H:GS x ⟨n,v,ob⟩ m) {cs} (hx:x.oo<x.m0) (Z:n<n') (Y:cG (ob'.get n)=some cs) (old:∀j,j<n ->ob'.get j=ob.get j):GS (x.prot n cs) ⟨n',v',ob'⟩ m:=by
 obtain⟨nx,U,ov,I,R,O,V⟩:=H;dsimp only at nx U O V;refine⟨by show x.m0<=n';omega,λj u J=>(old j (by have A:j<x.m0:=u;omega)).trans (U j u J),ov,I,R.up (by show n<=n';omega) (λj _ u=>old j u),(congrArg cG (old x.oo ω)).trans O,λj c u=> ?_⟩;have A:(if j=n then some cs else x.pr j)=some c:=u;split at A;rename_i e;cases A;subst e;refine⟨nx,Z,Y,λm c e=> ?_⟩;rcases R with ⟨-,h,-⟩|⟨q,h,h2,W,-⟩;rw[h] at e;cases e;rw[h] at e;cases e;exact Nat.lt_irrefl _ W;obtain⟨j1,j2,j3,j4⟩:=V j c A;exact⟨j1,by show j<n';omega,by rw[show(AH.mk n' v' ob').oB.get j=ob.get j from old j j2];exact j3,j4⟩
def GS.unp {cs h} (H:GS (x.prot n cs) h m) (J:∀cs,x.pr n≠some cs):GS x h m/\ cG (h.oB.get n)=some cs:=by
 obtain⟨nx,U,ov,u,R,O,I⟩:=H;refine⟨⟨nx,U,ov,u,R,O,λj c A=>I j c ?_⟩,(I n cs ?_).2.2.1⟩;show(if j=n then some cs else x.pr j)=some c;rw[aD λe=>J c (by rw[←e];exact A)];exact A;show(if n=n then some cs else x.pr n)=some cs;rw[aF rfl]
def GS.fresh (H:GS x ⟨n,v,ob⟩ m):∀cs,x.pr n≠some cs:=λcs e=>by
 obtain⟨-,-,ov,j,-,-,u⟩:=H;exact Nat.lt_irrefl _ (u n cs e).2.1
end
section
variable {P:Program} {X:aR} {GL:T (List AV)} {ae:T au} {C:aK Prop} (S:aT P X GL ae) (E:Sem P X GL ae C) (F:A5 ae)
include S E F
theorem ce5 {x D nl} (G:Pw x D nl) {n0 n d} h k J U (k6:d.k<=6) (H:GS (x.prot n0 (yV d)) h n) (O:∀cs,x.pr n0≠some cs) {τ} (t3:τ.get 3=some (.p x.wo 0)) (t5:τ.get 5=some (.p n0 0))
 (r1:∀(y) h' K,Pw y D nl ->y.db=x.db ->y.oo=x.oo ->y.wo=x.wo ->1<=DU d.k ->GS y h' n ->(∀h2,GS y h2 (n+J) ->K (.tu []) h2) ->du C 32 [.i .i64 (d.a:Int),.p x.db 0,.p x.oo 0,.p x.wo 0] h' K)
 (r2:∀(y) h' K,Pw y D nl ->y.db=x.db ->y.oo=x.oo ->y.wo=x.wo ->DU d.k=2 ->GS y h' (n+J) ->(∀h2,GS y h2 (n+J+U) ->K (.tu []) h2) ->du C 32 [.i .i64 (d.b:Int),.p x.db 0,.p x.oo 0,.p x.wo 0] h' K)
 (A:∀h',GS x h' (n+(if DU d.k=0 then 0 else J)+(if DU d.k=2 then U else 0)) ->k (.tu []) h'):df C aq6 [] (KF k []) τ h:=by
 have ac:=λh=>bV0 S F k6 h;obtain⟨⟨l1,l2,V,l4,W⟩,q1,Y⟩:=id G;have Gp:Pw (x.prot n0 (yV d)) D nl:=⟨⟨l1,l2,V,l4,W⟩,q1,Y⟩;have j:∀{n v:Nat} {ob:T bC} {m:Nat},GS (x.prot n0 (yV d)) ⟨n,v,ob⟩ m ->cG (ob.get x.wo)=some [.f 32 [] [.p x.db 0,.p x.oo 0,.p x.wo 0]]/\ cG (ob.get n0)=some [.i .i64 (d.k:Int),.s d.s,.i .i64 (d.n:Int),.i .i64 (d.a:Int),.i .i64 (d.b:Int)]:=λH=>
  ⟨(congrArg cG (H.old x.wo V W)).trans Y,(H.unp O).2⟩
 obtain⟨m,v,ob⟩:=h;obtain⟨c2,I⟩:=j H;unfold aq6;refine Z2 t5 I ?_;refine E.cN (ac _) ?_;rcases(show DU d.k=0∨DU d.k=1∨DU d.k=2 by unfold DU;split;exact .inl rfl;split;exact .inr (.inr rfl);exact .inr (.inl rfl)) with h0|h0|h0;rw[h0] at A ⊢;refine Z2 t5 I ?_;refine E.cN (ac _) ?_;rw[h0];refine Z0 ?_;exact A _ (by simpa using (H.unp O).1);rw[h0] at A ⊢;refine Z4 t3 t5 I c2 ?_;refine E.run (r1 _ _ _ Gp rfl rfl rfl ω H λh2 H2=> ?_);obtain⟨m2,v2,Z⟩:=h2;obtain⟨-,u⟩:=j H2;refine Z2 t5 u ?_;refine E.cN (ac _) ?_;rw[h0];refine Z0 ?_;exact A _ (by simpa using (H2.unp O).1);rw[h0] at A ⊢;refine Z4 t3 t5 I c2 ?_;refine E.run (r1 _ _ _ Gp rfl rfl rfl ω H λh2 H2=> ?_);obtain⟨m2,v2,Z⟩:=h2;obtain⟨R,u⟩:=j H2;refine Z2 t5 u ?_;refine E.cN (ac _) ?_;rw[h0];refine Z4 t3 t5 u R ?_;refine E.run (r2 _ _ _ Gp rfl rfl rfl h0 H2 λh3 H3=> ?_);refine Y0 ?_;exact A _ (by simpa using (H3.unp O).1)
theorem P4 {x D nl} (G:Pw x D nl) (i n:Nat) d h k R g2 (hd:D[i]? =some d) (k6:d.k<=6) (hn:n+1<=1000000) (H:GS x h n)
 (r1:∀(y) h' K,Pw y D nl ->y.db=x.db ->y.oo=x.oo ->y.wo=x.wo ->1<=DU d.k ->GS y h' (n+if d.k=6 then 1 else 0) ->(∀h2,GS y h2 ((n+if d.k=6 then 1 else 0)+R) ->K (.tu []) h2) ->du C 32 [.i .i64 (d.a:Int),.p x.db 0,.p x.oo 0,.p x.wo 0] h' K)
 (r2:∀(y) h' K,Pw y D nl ->y.db=x.db ->y.oo=x.oo ->y.wo=x.wo ->DU d.k=2 ->GS y h' ((n+if d.k=6 then 1 else 0)+R) ->(∀h2,GS y h2 ((n+if d.k=6 then 1 else 0)+R+g2) ->K (.tu []) h2) ->du C 32 [.i .i64 (d.b:Int),.p x.db 0,.p x.oo 0,.p x.wo 0] h' K)
 (J:∀h',GS x h' ((n+if d.k=6 then 1 else 0)+(if DU d.k=0 then 0 else R)+(if DU d.k=2 then g2 else 0)) ->k (.tu []) h'):du C 32 [.i .i64 (i),.p x.db 0,.p x.oo 0,.p x.wo 0] h k:=by
 have f32:ae.get 32=some QU:=by rw[←ce4];exact F.f32
 have hi:=(eC.1 hd).1;have e5:AM.sub (D.flatMap yV) (i*5) 5=some (yV d):=cW bS6 hd (j:=0) (n:=5) ω;obtain⟨⟨l1,l2,l3,l4,l5⟩,q1,q2⟩:=id G;obtain⟨n0,v0,ob⟩:=h;have pf:=H.fresh;have H1:GS (x.prot n0 (yV d)) ⟨n0+1,v0+1,(ob.put n0 (.cells v0 [.i .i64 0,.s [],.i .i64 0,.i .i64 0,.i .i64 0])).put n0 (.cells (v0+1) (yV d))⟩ n:=H.prot l2 (qI _) U0 λj u=>by
  have w:(j=n0)=False:=av;exact U0
 have c1:cG (ob.get x.db)=some [eR yV 5 nl D]:=(congrArg cG (H.old x.db l1 l4)).trans q1;obtain⟨nx,old,ov,cs,V,ho,pk⟩:=H;dsimp only at nx ho old pk;have Z:=λ{h n} (H:GS (x.prot n0 (yV d)) h n) r1 r2 J {τ} t3 t5=>ce5 S E F G h k R g2 k6 H pf (τ:=τ) t3 t5 r1 r2 J;simp only[yV] at e5 H1;rw[yN E.ok (E.get f32)];by_cases W:d.k=6;have kk:((d.k:Int)=6)=True:=cJ;rw[aF W] at r1 r2 J;have on:(x.oo=n0)=False:=av;have b1:(x.oo=n0+1)=False:=av;obtain⟨b4,b5,b6,b7,-⟩:=V.nice;obtain⟨h2,pe,pn,b2,A⟩:=SL.push (o2:=n0+1) (new:=[.i .i64 (i:Int)]) (V.up (h':=⟨n0+1+1,v0+1,((ob.put n0 (.cells v0 [.i .i64 0,.s [],.i .i64 0,.i .i64 0,.i .i64 0])).put n0 (.cells (v0+1) [.i .i64 (d.k:Int),.s d.s,.i .i64 (d.n:Int),.i .i64 (d.a:Int),.i .i64 (d.b:Int)])).put (n0+1) (.cells (v0+1) [.i .i64 (i:Int)])⟩) (by show n0<=n0+1+1;omega) λj _ u=>(by
  have I:j<n0:=u;have Z:(j=n0+1)=False:=av;exact U0)) (by show x.m0<=n0+1+1;omega) (by exact U0) rfl rfl ω
 obtain⟨Y,v2,O⟩:=h2;have b3:Y=n0+1+1+1:=pn;dsimp only at A;have c3:cG (O.get x.oo)=some [ov]:=by
  rw[A x.oo ω (V.ne l2)];exact wW (ec on b1) ho
 have key:∀j,j<n0 ->(∀n c,ov≠.sl j 0 n c 1) ->O.get j=ob.get j:=λj u hv=>by
  have Z:(j=n0+1)=False:=av;refine(A j ω hv).trans ?_;exact U0
 have b0:∀n c,ov≠.sl n0 0 n c 1:=λn c e=>by
  rcases V with ⟨-,h,-⟩|⟨q,h,h2,h3,-⟩;rw[h] at e;cases e;rw[h] at e;cases e;exact Nat.lt_irrefl _ h3
 have cn:cG (O.get n0)=some (yV d):=by
  rw[A n0 ω b0];have Z:(n0=n0+1)=False:=av;simp only[yV];exact U0
 have HS:GS (x.prot n0 (yV d)) ⟨Y,v2+1,O.put x.oo (.cells (v2+1) [.sl (n0+1+1) 0 (n+1) none 1])⟩ (n+1):=by
  refine⟨by show x.m0<=Y;omega,λj u U=> ?_,_,_,b2.up (bB _) λj u _=> ?_,?_,λj c u=> ?_⟩;have w:(j=x.oo)=False:=dQ U;have I:j<x.m0:=u;exact wW w ((key j ω (V.ne I)).trans (old j u U));have I:x.m0<=j:=u;have w:(j=x.oo)=False:=av;exact U0;show cG ((O.put x.oo _).get x.oo)=_;exact U0;have I:(if j=n0 then some (yV d) else x.pr j)=some c:=u;split at I;rename_i e;cases I;subst e;have w:(j=x.oo)=False:=av;refine⟨nx,by show j<Y;omega,?_,λn c e=>by injection e with e1;have e2:j+1+1=j:=e1;omega⟩;exact wW w cn;obtain⟨j1,j2,j3,j4⟩:=pk j c I;have w:(j=x.oo)=False:=av;refine⟨j1,by show j<Y;omega,?_,λn c e=>by injection e with e1;have e2:n0+1+1=j:=e1;omega⟩;exact wW w ((congrArg cG (key j j2 j4)).trans j3)
 refine Z7 c1 e5 kk ho @tM pe c3 ?_;refine Z HS r1 r2 J ?_ ?_<;>exact U0;have kk:((d.k:Int)=6)=False:=av;rw[aD W] at r1 r2 J;refine Z3 c1 e5 kk ?_;refine Z H1 r1 r2 J ?_ ?_<;>exact U0
theorem bj8 {D nl}:∀(W:Dt) (x) (b n) (h) (k),Pw x D nl ->Jw D b (W.po b) ->n+W.gs+1<=1000000 ->GS x h n ->(∀h',GS x h' (n+W.gs) ->k (.tu []) h') ->du C 32 [.i .i64 ((b+W.sz-1:Nat):Int),.p x.db 0,.p x.oo 0,.p x.wo 0] h k:=by
 intro W;induction W with
 |tx s=>exact λx b n h k G sg hn H hk=>P4 S E F G b n (⟨0,s,0,0,0⟩) h k 0 0 (by have:=sg 0 (by simp[Dt.po]);simpa[Dt.po] using this) (by show(0:Nat)<=6;omega) ω H (λ_ _ _ _ _ _ _ q=>by cases q) (λ_ _ _ _ _ _ _ q=>by cases q) hk
 |ln s=>exact λx b n h k G sg hn H hk=>P4 S E F G b n (⟨1,s,0,0,0⟩) h k 0 0 (by have:=sg 0 (by simp[Dt.po]);simpa[Dt.po] using this) (by show(1:Nat)<=6;omega) ω H (λ_ _ _ _ _ _ _ q=>by cases q) (λ_ _ _ _ _ _ _ q=>by cases q) hk
 |hd=>exact λx b n h k G sg hn H hk=>P4 S E F G b n (⟨2,[],0,0,0⟩) h k 0 0 (by have:=sg 0 (by simp[Dt.po]);simpa[Dt.po] using this) (by show(2:Nat)<=6;omega) ω H (λ_ _ _ _ _ _ _ q=>by cases q) (λ_ _ _ _ _ _ _ q=>by cases q) hk
 |sq u w j I=>
  intro x b n h k G sg hn H hk;have h1:=sg.one;rw[dy,Dt.po_len,Dt.po_len,←pK] at h1;have h2:=sg.l.l;have A:=sg.l.r;rw[Dt.po_len] at A;simp only[Dt.gs] at hn;rw[show b+(u.sq w).sz-1=b+u.sz+w.sz by simp only[Dt.sz];omega];refine P4 S E F G _ n ⟨3,[],0,b+u.sz-1,b+u.sz+w.sz-1⟩ h k u.gs w.gs h1 (by show(3:Nat)<=6;omega) ω H (λy h' K Gy e1 e2 e3 _ Hy hK=> ?_) (λy h' K Gy e1 e2 e3 _ Hy hK=> ?_) λh' H'=>hk h' (by show GS x h' (n+(u.gs+w.gs));rw[←pK];exact H');have:=j y b n h' K Gy h2 ω Hy hK;rw[e1,e2,e3] at this;exact this;have:=I y (b+u.sz) (n+u.gs) h' K Gy A ω Hy hK;rw[e1,e2,e3] at this;exact this
 |ne m u j=>
  intro x b n h k G sg hn H hk;have h1:=sg.one;rw[Dt.po_len] at h1;simp only[Dt.gs] at hn;refine P4 S E F G _ n ⟨4,[],m,b+u.sz-1,0⟩ h k u.gs 0 h1 (by show(4:Nat)<=6;omega) ω H (λy h' K Gy e1 e2 e3 _ Hy hK=> ?_) (λ_ _ _ _ _ _ _ q=>by cases q) hk;have:=j y b n h' K Gy sg.l ω Hy hK;rw[e1,e2,e3] at this;exact this
 |al u j=>
  intro x b n h k G sg hn H hk;have h1:=sg.one;rw[Dt.po_len] at h1;simp only[Dt.gs] at hn;refine P4 S E F G _ n ⟨5,[],0,b+u.sz-1,0⟩ h k u.gs 0 h1 (by show(5:Nat)<=6;omega) ω H (λy h' K Gy e1 e2 e3 _ Hy hK=> ?_) (λ_ _ _ _ _ _ _ q=>by cases q) hk;have:=j y b n h' K Gy sg.l ω Hy hK;rw[e1,e2,e3] at this;exact this
 |gp u j=>
  intro x b n h k G sg hn H hk;have h1:=sg.one;rw[Dt.po_len] at h1;simp only[Dt.gs] at hn;refine P4 S E F G _ n ⟨6,[],0,b+u.sz-1,0⟩ h k u.gs 0 h1 (by show(6:Nat)<=6;omega) ω H (λy h' K Gy e1 e2 e3 _ Hy hK=> ?_) (λ_ _ _ _ _ _ _ q=>by cases q) λh' H'=>hk h' (by show GS x h' (n+(u.gs+1));rw[show n+(u.gs+1)=n+1+u.gs by omega];exact H');have:=j y b (n+1) h' K Gy sg.l ω Hy hK;rw[e1,e2,e3] at this;exact this
theorem bj9 (I:Ib P X GL) {W:Dt} (U:W.fit A6) (Z:W.sz<=65536) (hg:W.gs+1<=1000000) {nl h} k (u:∀ov h',(AM.nice 64 ov=true/\∀h,kg h ov= .v (ι (W.gs:Int)) h) ->h.next<=h'.next ->(∀j,j<h.next ->h'.oB.get j=h.oB.get j) ->k (.tu [ov,.i .i64 0]) h'):
 du C 7 [eR yV 5 nl (W.po 0)] h k:=by
 obtain⟨n0,v0,ob⟩:=h;have cc:=λh=>ce3 (nl:=nl) S F I U Z h;have lD:=W.po_len 0;have zp:=W.sz_pos;have V:∀h,kg h (eR yV 5 nl (W.po 0))= .v (ι (W.sz:Int)) h:=λh=>by rw[dw,lD]
 have ds:aY .sub (ι (W.sz:Int)) (ι 1)=some (ι ((0+W.sz-1:Nat):Int)):=by rw[gB];exact qV (a:=W.sz) (b:=1) ω
 have R:cellsO (eR yV 5 nl (W.po 0))=some [eR yV 5 nl (W.po 0)]:=Ry;have wk:=λx h k G H u=>bj8 S E F (D:=W.po 0) (nl:=nl) W x 0 0 h k G (λj A=>by rw[gB]) ω H u;refine E.bS F.f7 (Z1 R ?_);refine E.cN (cc _) (Z2 V ds ?_);simp only[gB] at wk;refine E.run (wk ⟨n0+3,n0,n0+1,n0+2,_,λ_=>none⟩ _ _ ⟨⟨by show n0<n0+3;omega,by show n0+1<n0+3;omega,by show n0+2<n0+3;omega,by show n0≠n0+1;omega,by show n0+2≠n0+1;omega⟩,?_,?_⟩ ⟨bB _,λ_ _ _=>rfl,.sn,[],.inl ⟨rfl,rfl,rfl⟩,?_,λ_ _ q=>by cases q⟩ λh' H'=> ?_);(iterate 3 exact U0);obtain⟨nx,old,ov,cs,Y,J,-⟩:=H';obtain⟨O,v2,aJ⟩:=h';have bQ:n0+3<=O:=nx;dsimp only at old J;obtain⟨r1,-,-,-,r5⟩:=Y.nice;refine Z1 J ?_;refine u ov _ ⟨r1,r5⟩ (by show n0<=O;omega) λj A=> ?_;have m9:j<n0:=A;refine(old j ω ω).trans ?_;exact U0
end
def bV2 {n h}:∀{l l'},bJ n h l=some l' ->∀{k:Nat} {y},l'[k]? =some y ->∃x,l[k]? =some x/\ deep n h x=some y
 |[],l',e,k,y,hk=>by
  rw[bZ] at e;cases e;cases hk
 |a::l,l',e,k,y,hk=>by
  rw[aL] at e;split at e;rename_i H j u A;cases e;rcases k with _|k;cases hk;exact⟨a,rfl,u⟩;exact bV2 A hk;cases e
def ce6 {x k m} (e:deep (n+1) h x=some (.i k m)):x= .i k m:=by
 cases x<;>simp only[deep] at e;all_goals first|(cases e;rfl)|(cases e;done)|(split at e<;>first|cases e|(split at e<;>cases e))
def mq.pR {ov rv N R} (A:mq b h ov rv N R) (H:N≠[]):∃oo l,ov= .sl oo 0 N.length none 4/\ b<=oo/\ oo<h.next/\ cG (h.oB.get oo)=some l/\∀(i) t,N[i]? =some t ->AM.sub l (i*4) 1=some [.i .i64 t.prod]:=by
 obtain⟨h1,-,tt,J,u,-⟩:=A;rcases h1 with ⟨h1,-⟩|⟨oo,rfl⟩;exact bh h1 H;rw[BL H] at u;simp only[AM.deep] at u;split at u;rename_i ver l O;split at u;rename_i l' U;injection u with u
 injection u with hq
 obtain⟨a1,a2,a3⟩:=J _ _ _ O;refine⟨oo,l,rfl,a1,a2,by rw[a3];rfl,λi t V=> ?_⟩;have e:=cW Uo V (j:=0) (n:=1) ω;have e2:(N.flatMap fG)[i*4]? =some (ι t.prod):=by
  rw[nH] at e;split at e;injection e with e
  have:=congrArg (λl=>l[0]?) e;simpa[mB,fG] using this;cases e
 obtain⟨x,I,hd⟩:=bV2 U (by rw[hq];exact e2);rw[ce6 (n:=7) hd] at I;exact qY I;cases u;cases u
def aq7:aw:=eg (sE 3 127)
abbrev Fj:au:=(λy=>eg (bE (pg 3) λo=>pt 127 y o)) aq7
def bj7:JK=Fj:=by unfold JK Fj aq7;rfl
def Dt.gs_le:∀W:Dt,W.gs<=W.sz
 | .tx _| .ln _| .hd=>oi _
 | .sq a b=>by have:=gs_le a;have:=gs_le b;simp only[gs,sz];omega
 | .ne _ a| .al a| .gp a=>by have:=gs_le a;simp only[gs,sz];omega
def mq.deepO {ov rv N R} (A:mq b h ov rv N R):AM.deep 9 h ov=some (eR fG 4 true N):=by
 obtain⟨-,-,tt,u,H,-⟩:=A;exact(BG (h1:=tt) (h2:=h) (λj v l I=>⟨v,(u j v l I).2.2⟩) 9).1 _ _ H
def ce7 {N:List Tn} {a j t} (h:N[a+j]? =some t):Fo.nlv ((N.drop a).take (j+1))=Fo.nlv ((N.drop a).take j)+(if t.prod<0 then 1 else 0):=by
 rw[List.take_succ,mB,h,Fo.nlv_app];by_cases u:t.prod<0;rw[aF u];simp[Fo.nlv,u];rw[aD u];simp[Fo.nlv,u]
def ce8 {C:aK Prop} (S:aT P X GL ae) (E:Sem P X GL ae C) (FN:A5 ae) (I:Ib P X GL) {g} (G:oy g) {N R RL t kd m} (hf:N=(Fo.nd t kd .nil).fl) (aC:Fo.ok g [(false,m)] (.nd t kd .nil)) (hN:N.length<=40) (b8:RL.length<=12) (hV:iG g RL=true)
 {W:Dt} (wf:W.fit A6) (wg:W.gs=(Fo.nd t kd .nil).cnt (Cv RL)) (wz:W.sz<=5000) {n1 ov rv v τ} (l1:n1+1<h.next) (c6:cG (h.oB.get n1)=some (ar g)) (c8:cG (h.oB.get (n1+1))=some [ov,rv]) (TA:mq b h ov rv N R) (RA:rq h RL v)
 (t3:τ.get 3=some (.b true)) (t4:τ.get 4=some (.p n1 0)) (t6:τ.get 6=some (.p (n1+1) 0)) (t7:τ.get 7=some v) (t9:τ.get 9=some (eR yV 5 true (W.po 0))):df C aq7 [] (KF (λx h=>∃n,AM.deep n h x=some (.b true)) [(2,none)]) τ h:=by
 have N0:N≠[]:=by rw[hf];simp[Fo.fl]
 have fl:(Fo.nd t kd .nil).dat.length=N.length:=by rw[hf,Fo.dat_len]
 have en:=cc5 S FN G hN (.nd t kd .nil) [(false,m)] 0 [] aC (λs hs h=>by rw[yC.1 hs] at h;cases h) (by rw[hf];simp);have da:=cd8 (N:=N) (.nd t kd .nil) [(false,m)] 0 [] aC en (by rw[hf];simp);have ce:=aq3 hV aC;have gr:=λh k hk=>bj9 (C:=C) S E FN I wf ω (by have:W.gs<=5000:=fJ W.gs_le wz;omega) (nl:=true) (h:=h) k hk;obtain⟨n0,v0,ob0⟩:=h;dsimp only at l1 c6 c8;unfold aq7;refine Z1 t9 ?_;refine E.run (gr _ _ λgv h2 ⟨y1,y2⟩ hn2 eG=> ?_);obtain⟨n2,v2,aJ⟩:=h2;have d2:n0<=n2:=hn2;dsimp only at eG;have c6:cG (aJ.get n1)=some (ar g):=by rw[eG _ (by show n1<n0;omega)];exact c6
 have c8:cG (aJ.get (n1+1))=some [ov,rv]:=by rw[eG _ l1];exact c8
 have TA:=TA.mono (h':=⟨n2,v2,aJ⟩) hn2 λj _ hj=>eG j hj;have dO:=TA.deepO;obtain⟨oo,cs,rfl,-,-,co,cp⟩:=TA.pR N0;have lv:∀h,kg h v= .v (ι (RL.length:Int)) h:=λh=>by
  rcases RA with ⟨rfl,rfl⟩|⟨o,n,e1,rfl,-⟩;rfl;rw[e1];rfl
 have cE:∀a e:Nat,PV P X GL g N a e ->bP P X GL 8 [aI g,.sl oo 0 N.length none 4,.i .i64 (a:Int)] ⟨n2,v2,aJ⟩ (ι (e:Int)) ⟨n2,v2,aJ⟩:=λa e he=>cd9 S he (n:=9) (m:=0) (by rw[aL,aL,aL,bZ,kq (n:=6),dH,dO]) rfl;simp only[aI,ar] at cE c6;refine Z0 ?_;generalize d1:(Fo.nd t kd .nil).dat=dat at*;have sb:∀l,l.length<=40 ->DG (Ba RL) l<=480:=λl hl=>fJ (bU7 (λp=>fJ bU6 b8) l) ω;refine fj E.ok N.length (λi τ h=>h=⟨n2,v2,aJ⟩/\ τ.get 3=some (.b true)/\ τ.get 4=some (.p n1 0)/\ τ.get 6=some (.p (n1+1) 0)/\ τ.get 7=some v/\ τ.get 11=some gv/\ τ.get 12=some (ι 0)/\ τ.get 14=some (ι (i:Int))/\ τ.get 13=some (ι (DG (Ba RL) (dat.take i):Int))) ?_ ?_ _ _ ⟨rfl,?_,?_,?_,?_,?_,?_,?_,?_⟩;rintro i τ _ hi ⟨rfl,t3,t4,t6,t7,bH,J,O,A⟩ ih;have hx:dat[i]? =some dat[i]:=oc ω;generalize dat[i]=x at hx;obtain⟨p,s,lc⟩:=x;obtain⟨u,hu,hp,hE,s1,s2,b5⟩:=da i _ hx;rw[gB] at hu hE s2 b5;dsimp only at hp hE s1 s2 b5;have hE:=cE _ _ hE;have es:=cd7 (K:=Ba RL) hx;dsimp only at es;have ts:=ec t3 (ec t4 (ec t6 (ec t7 (ec bH (ec J O)))));have b0:DG (Ba RL) (dat.take i)<=480:=sb _ (by rw[jm];omega);refine Z2 ts c8 ?_;refine fj E.ok s (λj τ h=>h=⟨n2,v2,aJ⟩/\ τ.get 3=some (.b true)/\ τ.get 4=some (.p n1 0)/\ τ.get 6=some (.p (n1+1) 0)/\ τ.get 7=some v/\ τ.get 11=some gv/\ τ.get 12=some (ι 0)/\ τ.get 14=some (ι (i:Int))/\ τ.get 13=some (ι (DG (Ba RL) (dat.take i):Int))/\ τ.get 16=some (ι ((i+j:Nat):Int))/\ τ.get 15=some (ι (Fo.nlv ((N.drop i).take j):Int))) ?_ ?_ _ _ ⟨rfl,?_,?_,?_,?_,?_,?_,?_,?_,?_,?_⟩;rintro j τ _ hj ⟨rfl,t3,t4,t6,t7,bH,J,O,A,Z,H⟩ V;have hz:N[i+j]? =some N[i+j]:=oc ω;generalize N[i+j]=z at hz;have ns:=ce7 hz;have nb:Fo.nlv ((N.drop i).take j)<=40:=fJ (List.length_filter_le _ _) (by rw[jm];omega);have ez:=cp _ _ hz;have tx:=ec t3 (ec t4 (ec t6 (ec t7 (ec bH (ec J O)))));have hn:i+j<N.length:=by omega
 refine Z3 tx Z (ec c6 c8) ?_;refine E.cN hE ?_;by_cases Y:z.prod<0;have U:(z.prod<0)=True:=fq Y;refine Z8 tx Z H (ec c6 c8) co ez hn U ?_;refine V _ _ ⟨rfl,?_,?_,?_,?_,?_,?_,?_,?_,?_,?_⟩;(iterate 7 exact U1 tx);exact U1 A;exact U0;rw[ns,aF Y];exact U0;have U:(z.prod<0)=False:=dQ Y;refine Z8 tx Z H (ec c6 c8) co ez hn U ?_;refine V _ _ ⟨rfl,?_,?_,?_,?_,?_,?_,?_,?_,?_,?_⟩;(iterate 7 exact U1 tx);exact U1 A;exact U0;rw[ns,aD Y,vG];exact U1 H;rintro τ _ ⟨rfl,t3,t4,t6,t7,bH,J,O,A,Z,H⟩;rw[b5] at H;have tx:=ec t3 (ec t4 (ec t6 (ec t7 (ec bH (ec J O)))));refine Z3 tx Z (ec c6 c8) ?_;refine E.cN hE (Z3 tx Z (ec c6 c8) ?_);refine fj E.ok RL.length (λj τ h=>h=⟨n2,v2,aJ⟩/\ τ.get 3=some (.b true)/\ τ.get 4=some (.p n1 0)/\ τ.get 6=some (.p (n1+1) 0)/\ τ.get 7=some v/\ τ.get 11=some gv/\ τ.get 12=some (ι 0)/\ τ.get 14=some (ι (i:Int))/\ τ.get 13=some (ι ((DG (Ba RL) (dat.take i)+(if lc=0 then 0 else Ba (RL.take j) p):Nat):Int))/\ τ.get 15=some (ι (lc:Int))/\ τ.get 17=some (ι (j:Int))) ?_ ?_ _ _ ⟨rfl,?_,?_,?_,?_,?_,?_,?_,?_,?_,?_⟩;rintro j τ _ hj ⟨rfl,t3,t4,t6,t7,bH,J,O,A,H,b1⟩ V;have hr:RL[j]? =some RL[j]:=oc hj;generalize RL[j]=r at hr;have ks:=cd6 (p:=p) hr;have kl:Ba (RL.take j) p<=12:=fJ bU6 (by rw[jm];omega);rcases RA with ⟨rfl,-⟩|⟨ro,rn,d3,rfl,d0,c7⟩;simp at hj;have b7:ro<n0:=d0;have cr:cG (aJ.get ro)=some (RL.flatMap uC):=by rw[eG _ b7];exact c7
 have ek:AM.sub (RL.flatMap uC) (j*4+2) 1=some [.i .i64 r.k]:=by have:=cW Qm hr (j:=2) (n:=1) ω;simpa[uC] using this
 have ep:AM.sub (RL.flatMap uC) (j*4) 1=some [.i .i64 r.p]:=by have:=cW Qm hr (j:=0) (n:=1) ω;simpa[uC] using this
 have eu:=cp i u hu;rw[hp] at eu;have b3:j<rn+1:=by omega
 have tx:=ec t3 (ec t4 (ec t6 (ec t7 (ec bH (ec J O)))));by_cases k8:r.k=8;have b2:(r.k=8)=True:=fq k8;by_cases pe:r.p=p;have b4:(r.p=p)=True:=fq pe;rw[aF ⟨k8,pe⟩] at ks;by_cases l0:lc=0;have b6:(0<(lc:Int))=False:=av;refine sD tx A b1 H (ec c6 c8) lv b3 co cr ek ep eu b2 b4 b6 hi ?_;refine V _ _ ⟨rfl,?_,?_,?_,?_,?_,?_,?_,?_,?_,?_⟩;(iterate 7 exact U1 tx);rw[show(DG (Ba RL) (dat.take i)+if lc=0 then 0 else Ba (RL.take (j+1)) p)=(DG (Ba RL) (dat.take i)+if lc=0 then 0 else Ba (RL.take j) p) from by rw[aF l0,aF l0]];exact U1 A;exact U1 H;exact U0;have b6:(0<(lc:Int))=True:=cJ;refine sD tx A b1 H (ec c6 c8) lv b3 co cr ek ep eu b2 b4 b6 hi ?_;refine V _ _ ⟨rfl,?_,?_,?_,?_,?_,?_,?_,?_,?_,?_⟩;(iterate 7 exact U1 tx);rw[show(DG (Ba RL) (dat.take i)+if lc=0 then 0 else Ba (RL.take (j+1)) p)=DG (Ba RL) (dat.take i)+Ba (RL.take j) p+1 from by rw[aD l0,ks];omega];(iterate 3 exact U1 H);have b4:(r.p=p)=False:=dQ pe;rw[aD λh=>pe h.2] at ks;refine qt tx b1 (ec c6 c8) lv b3 co cr ek ep eu b2 b4 hi ?_;refine V _ _ ⟨rfl,?_,?_,?_,?_,?_,?_,?_,?_,?_,?_⟩;(iterate 7 exact U1 tx);rw[ks,vG];exact U1 A;exact U1 H;exact U0;have b2:(r.k=8)=False:=dQ k8;rw[aD λh=>k8 h.1] at ks;refine Z7 tx b1 lv b3 cr ek b2 ?_;refine V _ _ ⟨rfl,?_,?_,?_,?_,?_,?_,?_,?_,?_,?_⟩;(iterate 7 exact U1 tx);rw[ks,vG];exact U1 A;exact U1 H;exact U0;rintro τ _ ⟨rfl,t3,t4,t6,t7,bH,J,O,A,H,b1⟩;rw[rL] at A;have tx:=ec t3 (ec t4 (ec t6 (ec t7 (ec bH (ec J O)))));refine Z3 tx b1 lv ?_;refine ih _ _ ⟨rfl,?_,?_,?_,?_,?_,?_,?_,?_⟩;(iterate 7 exact U1 tx);rw[es];exact U1 A;(iterate 7 exact U1 tx);rw[show(DG (Ba RL) (dat.take i)+if lc=0 then 0 else Ba (RL.take 0) p)=DG (Ba RL) (dat.take i) from by simp[Ba]];exact U1 A;exact U1 H;(iterate 8 exact U1 ts);exact U1 A;exact U0;rw[show Fo.nlv ((N.drop i).take 0)=0 from rfl];exact U0;rintro τ _ ⟨rfl,t3,t4,t6,t7,bH,J,O,A⟩;rw[←fl,rL,ce,←wg] at A;refine Z8 t3 t6 bH J O A c8 y2 ?_;exact⟨1,rfl⟩;exact U1 t3;exact U1 t4;exact U1 t6;(iterate 5 exact U1 t7)
end
end AM
