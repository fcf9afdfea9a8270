import Derived.Test.YtdicmpmcdjdneaaGreatDoorN29
set_option linter.all false
set_option maxHeartbeats 8000000
namespace AM
open Dg Go
noncomputable section
def Uo t:(fG t).length=4:=rfl
def zi {n} s:nice.niceL n (jT s)=true:=by simp only[jT,Bg,iq,ye,A7]
def ua {n} t:nice.niceL (n+1) (fG t)=true:=by simp only[fG,Bg,iq,j9,ye,A4 zi,A7]
def zk (g:Gr) (p q:Int):Prop:=(p= -1/\∃j:Nat,q=(j:Int)/\ j<11)∨∃(i:Nat) (x:Pr),p=(i:Int)/\ g.pR[i]? =some x
variable {P:Program} {X:aR} {GL:T (List AV)} {ae:T au}
variable (S:aT P X GL ae) {C:aK Prop} (E:Sem P X GL ae C)
variable {rv:AV} {h:AH}
variable (A:dY P X GL) (F:bz8 ae)
def bg9 {g} (G:oy g) {N} {i b2 b3:Nat} {t} (ht:N[i]? =some t) (hN:N.length<=40) (c2:cG (h.oB.get b2)=some (bx g)) (c3:cG (h.oB.get b3)=some [eR fG 4 true N,rv]) (l2:b2<h.next) (l3:b3<h.next) k
 (R:∀p q ok h',(ok=true ->p=t.prod/\ zk g p q) ->h.next<=h'.next ->(∀j,j<h.next ->h'.oB.get j=h.oB.get j) ->k (.tu [ι p,ι q,.b ok]) h'):
 du C 101 [ι (i),.p b3 0,.p b2 0] h k:=by
 have hi:=(eC.1 ht).1;obtain⟨n0,v0,ob0⟩:=h;dsimp only at c2 c3 l2 l3;have e4:sub (N.flatMap fG) (i*4) 4=some (fG t):=cW Uo ht (j:=0) (n:=4) ω;have Y:g.tc.zipIdx.length=11:=by rw[ny,G.tcl]
 have Z:((11:Nat):Int)=11:=rfl;simp only[fG] at e4;simp only[bx] at c2;have O:∀(v:Nat) (x y:List AV),∀j,j<n0 ->(((ob0.put n0 (.cells v0 x)).put n0 (.cells v y))).get j=ob0.get j:=λv x y j D=>by
  exact U0
 rw[E.cB (F.f 101)];by_cases h1:t.prod= -1;have B:(t.prod= -1)=True:=fq h1;by_cases a1:0<=t.tok;have L:(0<=t.tok)=True:=fq a1;by_cases a2:t.tok<11;have V:(t.tok<11)=True:=fq a2;refine Y8 c2 c3 e4 Y Z B L V ?_;exact R _ _ _ _ (λe=>⟨h1.symm,.inl ⟨rfl,t.tok.toNat,by omega,by omega⟩⟩) (by show n0<=n0+1;omega) (λj D=>O _ _ _ j D);have V:(t.tok<11)=False:=dQ a2;refine Y8 c2 c3 e4 Y Z B L V ?_;exact R _ _ _ _ (λe=>by cases e) (by show n0<=n0+1;omega) (λj D=>O _ _ _ j D);have L:(0<=t.tok)=False:=dQ a1;refine Y4 c3 e4 B L ?_;exact R _ _ _ _ (λe=>by cases e) (by show n0<=n0+1;omega) (λj D=>O _ _ _ j D);have B:(t.prod= -1)=False:=dQ h1;by_cases q1:0<=t.prod;have H:(0<=t.prod)=True:=fq q1;by_cases q2:t.prod<(g.pR.length:Int);have I:(t.prod<(g.pR.length:Int))=True:=fq q2;by_cases q3:t.tok= -1;have J:(t.tok= -1)=True:=fq q3;by_cases q4:t.text=[];have U:(t.text=[])=True:=fq q4;by_cases q5:(t.rem.length:Int)=0;have W:((t.rem.length:Int)=0)=True:=fq q5;refine Y9 c2 c3 e4 B H I J U W ?_;exact R _ _ _ _ (λe=>⟨rfl,.inr ⟨t.prod.toNat,g.pR[t.prod.toNat]'ω,by omega,ef ω⟩⟩) (by show n0<=n0+1;omega) (λj D=>O _ _ _ j D);have W:((t.rem.length:Int)=0)=False:=dQ q5;refine Y9 c2 c3 e4 B H I J U W ?_;exact R _ _ _ _ (λe=>by cases e) (by show n0<=n0+1;omega) (λj D=>O _ _ _ j D);have U:(t.text=[])=False:=dQ q4;refine Y8 c2 c3 e4 B H I J U ?_;exact R _ _ _ _ (λe=>by cases e) (by show n0<=n0+1;omega) (λj D=>O _ _ _ j D);have J:(t.tok= -1)=False:=dQ q3;refine Y7 c2 c3 e4 B H I J ?_;exact R _ _ _ _ (λe=>by cases e) (by show n0<=n0+1;omega) (λj D=>O _ _ _ j D);have I:(t.prod<(g.pR.length:Int))=False:=dQ q2;refine Y6 c2 c3 e4 B H I ?_;exact R _ _ _ _ (λe=>by cases e) (by show n0<=n0+1;omega) (λj D=>O _ _ _ j D);have H:(0<=t.prod)=False:=dQ q1;refine Y4 c3 e4 B H ?_;exact R _ _ _ _ (λe=>by cases e) (by show n0<=n0+1;omega) (λj D=>O _ _ _ j D)
def bh0 {g} (G:oy g) {p q} (D:zk g p q):∃s:Bool×Int,∀h,bP P X GL 191 [aI g,ι p,ι q] h (.ag [.b s.1,ι s.2]) h:=by
 rcases D with ⟨rfl,j,rfl,H⟩|⟨i,x,rfl,B⟩;refine⟨(true,j),λh=>dR S (n:=9) ?_ (by rw[aL,aL,aL,bZ,kq (n:=6),dH,dH]) h⟩;refine bg.intro λC E=> ?_;refine E.bS (F.f 191) (Y2 @aI.eq_1 @bx.eq_1 ?_);exact⟨2,rfl⟩;refine⟨(false,x.left),λh=>dR S (n:=9) ?_ (by rw[aL,aL,aL,bZ,kq (n:=6),dH,dH]) h⟩;refine bg.intro λC E=> ?_;have hi:=(eC.1 B).1;have pl:=G.pl;have e1:sub (g.pR.flatMap aM) (i*13+1) 1=some [ι (x.left:Int)]:=by
  have:=cW kr B (j:=1) (n:=1) ω;simpa[aM] using this
 refine E.bS (F.f 191) (Y3 @aI.eq_1 @bx.eq_1 e1 ?_);exact⟨2,rfl⟩
instance:Nc jT:=⟨λ_ _=>zi _⟩
attribute [go_sem] zi
instance:Nc fG:=⟨λ_ _=>ua _⟩
attribute [go_sem] ua
def BM:aw:=eg (sE 102 2093871)
def Fd:aw:=(λx=>eg (pt 15 x (sE 102 258863))) BM
abbrev bc8:au:=(λy=>eg (bE (pg 102) λo=>pt 258863 y o)) Fd
def wg (v:AV) (r:List (Bool×Nat)):Prop:=(r=[]/\ v= .sn)∨∃p:List (Bool×Nat),∃k,v= .ds (p.flatMap dO) (k*2) (p.length-k) 2/\ k<=p.length/\ r=p.drop k/\ p.length<=8
def wg.nice {v:AV} {r:List (Bool×Nat)} (H:wg v r):nice 64 v=true/\ ew v=true/\ cellsOf v=[v]/\ cellsO v=some [v]/\ r.length<=8/\∀h,kg h v= .v (ι (r.length:Int)) h:=by
 rcases H with ⟨rfl,rfl⟩|⟨p,k,rfl,B,rfl,j⟩;exact⟨rfl,rfl,rfl,rfl,by simp,λ_=>rfl⟩;refine⟨by rw[nN];exact fE jE p,rfl,rfl,rfl,by rw[sU];omega,λh=> ?_⟩;show da.v (ι ((p.length-k:Nat):Int)) h=_;rw[sU]
def wg.cons {v s r} (H:wg v (s::r)):∃c B n,v= .ds c B (n+1) 2/\ sub c B 2=some (dO s)/\ wg (.ds c (B+1*2) n 2) r:=by
 rcases H with ⟨h,-⟩|⟨p,k,rfl,I,e,D⟩;cases h;have J:k<p.length:=by
  have:=congrArg List.length e;rw[sU,gJ] at this;omega
 have G:p[k]? =some s:=by
  have:=congrArg (λl=>l[0]?) e;simp only[Lp,mB,vG] at this;exact this.symm
 refine⟨p.flatMap dO,k*2,p.length-k-1,by rw[show p.length-k-1+1=p.length-k by omega],cW gO G (j:=0) (n:=2) ω,.inr ⟨p,k+1,by rw[show(k+1)*2=k*2+1*2 by omega,show p.length-(k+1)=p.length-k-1 by omega],by omega,?_,D⟩⟩;have:=congrArg (List.drop 1) e;rw[ud] at this;exact this
def bh2 {rn p} (h:p.length<=8):wg (eR dO 2 rn p) p:=by
 rcases p with _|⟨a,p⟩;cases rn;exact .inr ⟨[],0,rfl,oi _,rfl,h⟩;exact .inl ⟨rfl,rfl⟩;exact .inr ⟨a::p,0,rfl,oi _,rfl,h⟩
def pJ (e:Nat×AV):List AV:=[ι (e.1:Int),e.2]
def Fe e:(pJ e).length=2:=rfl
def rB (b:Nat) (h:AH) (v:AV) (K:List (Nat×AV)):Prop:=(K=[]/\ v= .sn)∨∃j junk,v= .sl j 0 K.length none 2/\ b<=j/\ j<h.next/\ cG (h.oB.get j)=some (K.flatMap pJ++junk)
def Up {K e junk}:sub ((K++[e]).flatMap pJ++junk) (K.length*2) 1=some [ι (e.1:Int)]/\ sub ((K++[e]).flatMap pJ++junk) (K.length*2+1) 1=some [e.2]/\∀v,eL [v] ((K++[e]).flatMap pJ++junk) (K.length*2+1)=some ((K++[(e.1,v)]).flatMap pJ++junk):=by
 have e1:(K++[e]).flatMap pJ++junk=K.flatMap pJ++(ι (e.1:Int)::e.2::junk):=by
  rw[Bd,pO,hZ];rfl
 have j:(K.flatMap pJ).length=K.length*2:=kh Fe K;rw[e1];refine⟨qY ?_,qY ?_,λv=> ?_⟩;rw[rK ω,j,Nat.sub_self];rfl;rw[rK ω,j,show K.length*2+1-K.length*2=1 by omega];rfl;rw[←j,Ka,Bd,pO,hZ];rfl
def bh3 {j m o2 old junk new} (h1:cG (h.oB.get j)=some (old++junk)) (H:old.length=m*2) (h2:cG (h.oB.get o2)=some new) (L:new.length=2) (I:wV new=true) (hb:m+1<=1048576):
 gU h 2 (.sl j 0 m none 2) (.sl o2 0 1 (some 1) 2)= .v (.sl h.next 0 (m+1) none 2) ⟨h.next+1,h.ver+1,(h.oB.put j .gone).put h.next (.cells (h.ver+1) (old++new))⟩:=by
 have G:eI h 2 (.sl o2 0 1 (some 1) 2)=some new:=wH h2 (mM ω);have e0:gU h 2 (.sl j 0 m none 2) (.sl o2 0 1 (some 1) 2)=gD h (.sl j 0 m none 2) 1 new 2:=by unfold gU;rw[G];rfl
 rw[e0];have e:gD h (.sl j 0 m none 2) 1 new 2=(match h.cells j with
  |none=>da.bad
  |some l=>fN (m+1) λB=>bif !(Nat.beq 2 2&&(Nat.ble B 1048576&&wV new)) then da.bad else
   match sub l 0 (m*2) with
    |some old=>match fy old new with
     |some l=>h.put j .gone λh=>h.new (.cells h.ver l) λo h=> .v (.sl o 0 B none 2) h
     |none=> .bad
    |none=> .bad):=rfl
 have D:h.cells j=some (old++junk):=h1;have J:sub (old++junk) 0 (m*2)=some old:=by rw[nH,aF (by rw[dy];omega),List.drop_zero,←H,List.take_left]
 rw[e,D];simp only[dT,bu,wX,hb,I,mC,A7,jk,eU,J,jz,AH.put_eq,AH.new_eq]
def bh4 {ev x b B m k} (h1:ev x= .sl B 0 m none 2) (h2:ff (ev b)=some k) (D:k<=m):step ev h (.slc 2 x none (some b) none)= .v (.sl B 0 k none 2) h:=by
 show(match ev x with
  | .sl o j n cap esz=>bif !(Nat.beq esz 2) then da.bad else match cap with
   |some c=>match d7 n c (nO ev none) (nO ev (some b)) (nO ev none) with
    |some (l,r,m)=>fN (j+l*esz) λj=>fN (r-l) λn=>fN (m-l) λc=>da.v (.sl o j n (some c) esz) h
    |none=>da.bad
   |none=>match d7 n n (nO ev none) (nO ev (some b)) none with
    |some (l,r,_)=>fN (j+l*esz) λj=>fN (r-l) λn=>da.v (.sl o j n none esz) h
    |none=>da.bad
  | .ds c j n esz=>bif !(Nat.beq esz 2) then da.bad else match d7 n n (nO ev none) (nO ev (some b)) none with
   |some (l,r,_)=>fN (j+l*esz) λj=>fN (r-l) λn=>da.v (.ds c j n esz) h
   |none=>da.bad
  | .sn=>match d7 0 0 (nO ev none) (nO ev (some b)) (nO ev none) with|some _=>da.v .sn h|none=>da.bad
  |_=>da.bad)=_
 rw[h1];have e:d7 m m (nO ev none) (nO ev (some b)) none=some (0,k,m):=by
  rw[uO,uP,h2];show(bif Nat.ble m m&&Nat.ble k m&&Nat.ble 0 k then some (0,k,m) else none)=_;have G:Nat.ble m m=true:=by rw[wX];simp
  have H:Nat.ble k m=true:=by rw[wX];simpa using D
  have I:Nat.ble 0 k=true:=rfl;rw[G,H,I];rfl
 simp only[e,dT];simp
def zm (n:Nat) (K:List (Nat×AV)):Prop:=∀e∈K,e.1<n/\∃r,wg e.2 r
def KI (K:List (Nat×AV)):Prop:=K=[]∨∃K' e s r,K=K'++[e]/\ wg e.2 (s::r)
def Uq {α:Type} (K:List α):K=[]∨∃K' e,K=K'++[e]:=by
 rcases List.eq_nil_or_concat K with h|⟨a,b,h⟩;exact .inl h;exact .inr ⟨a,b,by rw[h,List.concat_eq_append]⟩
def bh5 (E:Sem P X GL ae C) {n i oo b:Nat} (hi:i<n) (hn:n<=40) (lb:oo<b) {S:List Fr} {KK:K Prop} {τ:T AV} {K:List (Nat×AV)} {sv:AV} {L:List Nat} (t3:τ.get 3=some (.sl oo 0 n (some n) 1)) (t4:τ.get 4=some sv) (t5:τ.get 5=some (ι (i:Int)))
 (hL:L.length=n) (co:cG (h.oB.get oo)=some (L.flatMap cI)) (hS:rB b h sv K) (hE:zm n K) (hK:K.length<=41)
 (fin:∀(τ':T AV) (h':AH) (G:AV) (K':List (Nat×AV)) (L':List Nat),(∀j,j<=90 ->j≠4 ->τ'.get j=τ.get j) ->τ'.get 4=some G ->L'.length=n ->cG (h'.oB.get oo)=some (L'.flatMap cI) ->rB b h' G K' ->zm n K' ->KI K' ->K'.length<=K.length ->h'.next=h.next ->(∀j,j≠oo ->h'.oB.get j=h.oB.get j) ->gV C .normal S KK τ' h'):
 df C BM S KK τ h:=by
 unfold BM;refine Y0 ?_;refine Qo E.ok (λx:List (Nat×AV)=>x.length) (λK' τ' h'=>(∀j,j<=90 ->j≠4 ->τ'.get j=τ.get j)/\ (∃G,τ'.get 4=some G/\ rB b h' G K')/\ (∃L',L'.length=n/\ cG (h'.oB.get oo)=some (L'.flatMap cI))/\ zm n K'/\ K'.length<=K.length/\ h'.next=h.next/\∀j,j≠oo ->h'.oB.get j=h.oB.get j) ?_ K _ _ ⟨λ_ _ _=>rfl,⟨sv,t4,hS⟩,⟨L,hL,co⟩,hE,bB _,rfl,λ_ _=>rfl⟩;rintro K1 τ1 ⟨n1,v1,ob⟩ ⟨tt,⟨N,W,U⟩,⟨L1,R,H⟩,I,Y,J,old⟩ ih;have u3:=(tt 3 ω ω).trans t3;have u5:=(tt 5 ω ω).trans t5;dsimp only at H J;rcases Uq K1 with rfl|⟨K2,e,rfl⟩;have e0:(N= .sn)∨∃D,N= .sl D 0 0 none 2:=by
  rcases U with ⟨-,h⟩|⟨D,junk,h,-⟩;exact .inl h;exact .inr ⟨D,h⟩
 have l0:∀h,kg h N= .v (ι 0) h:=λh=>by rcases e0 with rfl|⟨D,rfl⟩<;>rfl
 refine Y2 W l0 ?_;refine fin _ _ N [] L1 (λj O B=> ?_) ?_ R H U I (.inl rfl) (oi _) J old;exact W0 (tt j O B);exact U1 W;rcases U with ⟨h,-⟩|⟨D,junk,rfl,s1,s2,V⟩;simp at h;obtain⟨eN,r,hr⟩:=I e (by simp);obtain⟨q1,q2,q3⟩:=Up (K:=K2) (e:=e) (junk:=junk);obtain⟨r1,r2,r3,r4,r5,r6⟩:=hr.nice;have b0:(K2++[e]).length=K2.length+1:=by simp
 have b3:K2.length+1<=K.length:=by rw[←b0];exact Y
 have sm:aY .sub (ι ((K2.length+1:Nat):Int)) (ι 1)=some (ι (K2.length:Int)):=qV (a:=K2.length+1) (b:=1) ω;have lK:(K2++[e]).length=K2.length+1:=by simp
 rw[lK] at W;have b2:K2.length+1<=K.length:=by rw[←lK];exact Y
 dsimp only at V;rcases r with _|⟨s,r⟩;have b1:∀h,kg h e.2= .v (ι 0) h:=r6;have Z:∀(τ:T AV) h,az C τ (.t 116)= .sl D 0 (K2.length+1) none 2 ->az C τ (.t 119)=ι (K2.length:Int) ->step (az C τ) h (.slc 2 (.t 116) none (some (.t 119)) none)= .v (.sl D 0 K2.length none 2) h:=λτ h h1 h2=>bh4 h1 (by rw[h2];exact tC) ω;have ov:eL [AV.i .i64 ((i+1:Nat):Int)] (L1.flatMap cI) e.1=some ((L1.set e.1 (i+1)).flatMap cI):=E5 ω;have p4:(D=oo)=False:=cE;refine sC u3 W u5 V H sm q1 q2 b1 Z ov ?_;have hm:∀x∈K2,x∈K2++[e]:=λx hx=>xI _ hx;refine ih K2 _ _ (by show K2.length<(K2++[e]).length;omega) ⟨λj O B=>W0 (tt j O B),⟨_,U0,.inr ⟨D,pJ e++junk,rfl,s1,s2,?_⟩⟩,⟨L1.set e.1 (i+1),by rw[vK,R],U0⟩,λx hx=>I x (hm x hx),by omega,J,λj O=> ?_⟩;rw[Bd,pO,hZ] at V;exact wW p4 V;have w:(j=oo)=False:=dQ O;exact wW w (old j O);refine Y5 W V sm q2 r6 ?_;refine fin _ _ (.sl D 0 (K2.length+1) none 2) (K2++[e]) L1 (λj O B=>W0 (tt j O B)) (U1 W) R H (.inr ⟨D,junk,by rw[lK],s1,s2,V⟩) I (.inr ⟨K2,e,s,r,rfl,hr⟩) ω J old
def qE (g:Gr) (n b2 b3:Nat):List AV:=bx g++[ι (n:Int),.f 101 [] [.p b3 0,.p b2 0]]
def Ur {b sv K i} (hS:rB b h sv K) (hb:b<=h.next) (L:K.length<=1000) (H:ew rv=true) {o2} (c2:cG (h.oB.get o2)=some (pJ (i,rv))):
 ∃h',gU h 2 sv (.sl o2 0 1 (some 1) 2)= .v (.sl h.next 0 (K.length+1) none 2) h'/\ h'.next=h.next+1/\ rB b h' (.sl h.next 0 (K.length+1) none 2) (K++[(i,rv)])/\∀j,j<b ->h'.oB.get j=h.oB.get j:=by
 have B:wV (pJ (i,rv))=true:=by unfold pJ;rw[Ei,Ei,qR,H];rfl
 have I:(K++[(i,rv)]).length=K.length+1:=by simp
 rcases hS with ⟨rfl,rfl⟩|⟨D,junk,rfl,N,O,J⟩;refine⟨_,by rw[IE,c2,IF,aF ⟨Fe _,B⟩];rfl,rfl,.inr ⟨h.next,[],rfl,hb,qI _,?_⟩,λj G=> ?_⟩;show cG ((h.oB.put h.next _).get h.next)=_;rw[T.get_put,aF rfl];rfl;show(h.oB.put h.next _).get j=_;rw[T.get_put,aD ω];refine⟨_,bh3 J (kh Fe K) c2 (Fe _) B ω,rfl,.inr ⟨h.next,[],by rw[I],hb,qI _,?_⟩,λj G=> ?_⟩;show cG (((h.oB.put D _).put h.next _).get h.next)=_;rw[T.get_put,aF rfl,Bd,pO,lG];rfl;show((h.oB.put D _).put h.next _).get j=_;rw[T.get_put,aD ω,T.get_put,aD ω]
def Us (E:Sem P X GL ae C) {g:Gr} (G:oy g) {p q:Int} (hg:zk g p q) {n i n0 b b2 b3:Nat} (hi:i<n) (hn:n<=40) (b1:n0<b) (lb:n0+1<b) {S:List Fr} {KK:K Prop} {τ:T AV} {K:List (Nat×AV)} {sv:AV} {L:List Nat} (t1:τ.get 1=some (.p n0 0)) (t3:τ.get 3=some (.sl (n0+1) 0 n (some n) 1)) (t4:τ.get 4=some sv) (t5:τ.get 5=some (ι (i:Int))) (t6:τ.get 6=some (ι p))
 (c1:cG (h.oB.get n0)=some (qE g n b2 b3)) (hL:L.length=n) (co:cG (h.oB.get (n0+1))=some (L.flatMap cI)) (hS:rB b h sv K) (hb:b<=h.next) (hE:zm n K) (hK:K.length<=i)
 (fin:∀(τ':T AV) (h':AH) (H:AV) (K':List (Nat×AV)) (L':List Nat),τ'.get 1=some (.p n0 0) ->τ'.get 3=some (.sl (n0+1) 0 n (some n) 1) ->τ'.get 24=τ.get 24 ->τ'.get 25=τ.get 25 ->τ'.get 4=some H ->L'.length=n ->cG (h'.oB.get (n0+1))=some (L'.flatMap cI) ->rB b h' H K' ->zm n K' ->KI K' ->K'.length<=i+1 ->h.next<=h'.next ->(∀j,j<b ->j≠n0+1 ->h'.oB.get j=h.oB.get j) ->gV C .normal S KK τ' h'):
 df C Fd S KK τ h:=by
 obtain⟨m,v,ob⟩:=h;dsimp only at c1 co hb;simp only[qE,bx,gw,gx] at c1;have pl:=G.pl;have st:∀(rv:AV) h,h=(⟨m+1,v,ob.put m (.cells v [ι (i:Int),rv])⟩:AH) ->rB b h sv K:=λrv h e=>by
  subst e;rcases hS with h|⟨Z,junk,h1,h2,R,h4⟩;exact .inl h;have U:Z<m:=R;exact .inr ⟨Z,junk,h1,h2,ui U,by have w:(Z=m)=False:=cE;exact wW w h4⟩
 have I:∀(rv:AV) (r:List (Bool×Nat)) (τ2:T AV) (h2:AH),wg rv r ->(∀j,j<=60 ->j≠4 ->j≠11 ->τ2.get j=τ.get j) ->τ2.get 4=some (.sl (m+1) 0 (K.length+1) none 2) ->h2.next=m+1+1 ->rB b h2 (.sl (m+1) 0 (K.length+1) none 2) (K++[(i,rv)]) ->(∀j,j<b ->h2.oB.get j=(ob.put m (.cells v [ι (i:Int),rv])).get j) ->df C BM S KK τ2 h2:=λrv r τ2 h2 O tt u4 pn D B=>by
  have fr:∀j,j<b ->h2.oB.get j=ob.get j:=λj N=>by
   rw[B j N];exact U0
  refine bh5 (b:=b) (oo:=n0+1) (K:=K++[(i,rv)]) (L:=L) E hi hn lb ((tt 3 ω ω ω).trans t3) u4 ((tt 5 ω ω ω).trans t5) hL (by rw[fr (n0+1) lb];exact co) D (λe J=> ?_) (by rw[dy,lF];omega) λτ' h' H K' L' tt2 w4 hL' co' hS' hE' hT' hK' hn' fr'=> ?_;rcases fO.1 J with J|J;exact hE e J;rw[yC.1 J];exact⟨hi,r,O⟩;rw[dy,lF] at hK';exact fin τ' h' H K' L' ((tt2 1 ω ω).trans ((tt 1 ω ω ω).trans t1)) ((tt2 3 ω ω).trans ((tt 3 ω ω ω).trans t3)) ((tt2 24 ω ω).trans (tt 24 ω ω ω)) ((tt2 25 ω ω).trans (tt 25 ω ω ω)) w4 hL' co' hS' hE' hT' ω (by rw[hn',pn];show m<=m+1+1;omega) λj N V=>(fr' j V).trans (fr j N)
 unfold Fd;rcases hg with ⟨rfl,j,rfl,N⟩|⟨pi,x,rfl,W⟩;obtain⟨h2,Y,pn,D,B⟩:=Ur (i:=i) (rv:= .sn) (o2:=m) (st _ _ rfl) (by show b<=m+1;omega) ω rfl (by show cG ((ob.put m _).get m)=_;rw[T.get_put,aF rfl];rfl);refine Y5 t4 t5 t6 @tM Y ?_;exact I .sn [] _ h2 (.inl ⟨rfl,rfl⟩) (λj h1 h2 R=>U0) U0 pn D B;have b0:=(eC.1 W).1;have x8:=(G.p x (dI W)).len;have O:wg (eR dO 2 x.rn x.right) x.right:=bh2 x8;obtain⟨r1,r2,r3,r4,-,-⟩:=O.nice;have e2:sub (g.pR.flatMap aM) (pi*13+2) 1=some [eR dO 2 x.rn x.right]:=cW kr W (j:=2) (n:=1) ω;obtain⟨h2,Y,pn,D,B⟩:=Ur (i:=i) (rv:=eR dO 2 x.rn x.right) (o2:=m) (st _ _ rfl) (by show b<=m+1;omega) ω r2 (by show cG ((ob.put m _).get m)=_;rw[T.get_put,aF rfl];rfl);refine Y8 t1 t4 t5 t6 c1 @tM Y e2 ?_;exact I _ _ _ h2 O (λj h1 h2 R=>U0) U0 pn D B
def bh6 a b x y:∃r,eH 6 (.ag [(0,1,false,(.lf .b)),(1,1,false,(.lf .i))]) (.ag [.b a,ι x]) (.ag [.b b,ι y])=some r:=by
 have h:eH 6 (.ag [(0,1,false,(.lf .b)),(1,1,false,(.lf .i))]) (.ag [.b a,ι x]) (.ag [.b b,ι y])=(match (some (a==b):Option Bool) with
  |some true=>(match (some (eO x y):Option Bool) with|some true=>some true|o=>o)
  |o=>o):=by cases a<;>cases b<;>rfl
 rw[h];cases (a==b)<;>cases eO x y<;>exact⟨_,rfl⟩
def bh7 {g} (G:oy g) {N} (hN:N.length<=40) {b2 b3} (c2:cG (h.oB.get b2)=some (bx g)) (c3:cG (h.oB.get b3)=some [eR fG 4 true N,rv]) (l2:b2<h.next) (l3:b3<h.next) k
 (O:∀h',h.next<=h'.next ->(∀j,j<h.next ->h'.oB.get j=h.oB.get j) ->k .sn h')
 (d4:∀t o h',N[0]? =some t ->(∃q,zk g t.prod q) ->h.next<=h'.next ->(∀j,j<h.next ->h'.oB.get j=h.oB.get j) ->k (.sl o 0 N.length (some N.length) 1) h'):
 du C 102 [.ag (qE g N.length b2 b3)] h k:=by
 have d0:=F.g 102 bc8;obtain⟨n0,v0,ob0⟩:=h;dsimp only at c2 c3 l2 l3;have bq:=iW (g:=g);simp only[bx] at bq;rw[yN E.ok (E.get d0)];rcases vF N.length with hz|hz;have z0:((N.length:Int)=0)=True:=cJ;refine Y2 @qE.eq_1 @bx.eq_1 ?_;refine O _ (by show n0<=n0+1;omega) λj H=> ?_;have m9:j<n0:=H;have w:(j=n0)=False:=cE;exact U0;refine Y3 @qE.eq_1 @bx.eq_1 @Uc ?_;refine fj E.ok N.length (λi τ h=>τ.get 1=some (.p n0 0)/\ τ.get 3=some (.sl (n0+1) 0 N.length (some N.length) 1)/\ τ.get 24=some (ι (N.length:Int))/\ τ.get 25=some (ι (i:Int))/\ n0+2<=h.next/\ (∀j,j<n0 ->h.oB.get j=ob0.get j)/\ cG (h.oB.get n0)=some (qE g N.length b2 b3)/\
  (∃L:List Nat,L.length=N.length/\ cG (h.oB.get (n0+1))=some (L.flatMap cI))/\ (∃sv K,τ.get 4=some sv/\ rB (n0+2) h sv K/\ zm N.length K/\ KI K/\ K.length<=i)/\ (1<=i ->∃t,N[0]? =some t/\∃q,zk g t.prod q)) ?_ ?_ _ _ ⟨?_,?_,?_,?_,bB _,λj H=> ?_,?_,⟨List.replicate N.length 0,Cs,?_⟩,⟨.sn,[],?_,.inl ⟨rfl,rfl⟩,λe he=>(by cases he),.inl rfl,bB _⟩,λh=>by omega⟩
 rintro i τ ⟨m,v,ob⟩ hi ⟨t1,t3,I,J,hn,old,c1,⟨L,hL,co⟩,⟨sv,K,t4,hS,hE,hT,hK⟩,h1⟩ ih;dsimp only at c1 co old hn;have c6:=c1;simp only[qE,bx,gw,gx] at c1;have ht:N[i]? =some N[i]:=ef hi;generalize N[i]=t at ht;refine Y4 t1 I J c1 ?_;refine E.run (bg9 E F G ht hN (by rw[old b2 l2];exact c2) (by rw[old b3 l3];exact c3) (by show b2<m;omega) (by show b3<m;omega) _ λp q ok h2 aC d5 eG=> ?_);obtain⟨D,v2,U⟩:=h2;have f7:m<=D:=d5;dsimp only at eG;have d1:cG (U.get n0)=some (qE g N.length b2 b3):=by rw[eG n0 ω];exact c6
 have V:=d1;simp only[qE,bx,gw,gx] at d1;have fr:∀j,j<n0 ->U.get j=ob0.get j:=λj H=>(eG j ω).trans (old j H);cases ok;refine Y0 ?_;exact O _ (by show n0<=D;omega) fr;obtain⟨hp,W⟩:=aC rfl;subst hp;obtain⟨s,hs⟩:=bh0 S F G W;simp only[aI,bx] at hs;have b5:1<=i+1 ->∃t,N[0]? =some t/\∃q,zk g t.prod q:=λ_=>by
  rcases vF i with e|e;subst e;exact⟨t,ht,q,W⟩;exact h1 e
 have b4:cG (U.get (n0+1))=some (L.flatMap cI):=by rw[eG (n0+1) ω];exact co
 have b6:rB (n0+2) ⟨D,v2,U⟩ sv K:=by
  rcases hS with h|⟨B,junk,e1,e2,e3,e4⟩;exact .inl h;have c7:B<m:=e3;exact .inr ⟨B,junk,e1,e2,by show B<D;omega,by rw[show U.get B=ob.get B from eG B ω];exact e4⟩
 rcases Uq K with rfl|⟨K2,e,rfl⟩;have e0:(sv= .sn)∨∃B,sv= .sl B 0 0 none 2:=by
  rcases hS with ⟨-,h⟩|⟨B,junk,h,-⟩;exact .inl h;exact .inr ⟨B,h⟩
 have l0:∀h,kg h sv= .v (ι 0) h:=λh=>by rcases e0 with rfl|⟨B,rfl⟩<;>rfl
 have s1:aY .sub (ι 0) (ι 1)=some (ι (-1)):=rfl;rcases vF i with d3|d3;have i0:((0:Int)<(i:Int))=False:=cE;refine Y3 t1 d1 i0 ?_;refine E.cN (hs _) (Y3 t4 l0 s1 ?_);refine Us (b:=n0+2) (K:=[]) (L:=L) (b2:=b2) (b3:=b3) (sv:=sv) (n0:=n0) E G W hi hN ω ω ?_ ?_ ?_ ?_ ?_ ?_ hL ?_ ?_ (by show n0+2<=D+1;omega) (λe he=>by cases he) (oi _) λτ' h' sv' K' L' w1 w3 w24 w25 w4 hL' co' hS' hE' hT' hK' hn' fr'=> ?_;exact U1 t1;exact U1 t3;(iterate 3 exact U1 t4);have w:(n0=D)=False:=cE;exact wW w V;have w:(n0+1=D)=False:=cE;exact wW w b4;rcases b6 with h|⟨B,junk,e1,e2,e3,e4⟩;exact .inl h;have c7:B<D:=e3;have w:(B=D)=False:=cE;exact .inr ⟨B,junk,e1,e2,by show B<D+1;omega,wW w e4⟩;obtain⟨n3,v3,cC⟩:=h';have d6:D+1<=n3:=hn';have b0:τ'.get 24=some (ι (N.length:Int)):=w24.trans (U1 I);have b1:τ'.get 25=some (ι (i:Int)):=w25.trans (U1 J);have f3:∀j,j<n0+2 ->j≠n0+1 ->cC.get j=U.get j:=λj H Y=>(fr' j H Y).trans (by
  have w:(j=D)=False:=cE;exact U0)
 refine Y1 b1 ?_;refine ih _ _ ⟨?_,?_,?_,?_,by show n0+2<=n3;omega,λj H=>(f3 j ω ω).trans (fr j H),(by rw[show(AH.mk n3 v3 cC).oB.get n0=U.get n0 from f3 n0 ω ω];exact V),⟨L',hL',co'⟩,⟨sv',K',?_,hS',hE',hT',hK'⟩,b5⟩;exact U1 w1;exact U1 w3;exact U1 b0;exact U0;exact U1 w4;have i0:((0:Int)<(i:Int))=True:=cJ;refine Y3 t4 i0 l0 ?_;exact O _ (by show n0<=D;omega) fr;rcases b6 with ⟨h,-⟩|⟨B,junk,rfl,e1,e2,e3⟩;simp at h;obtain⟨s',r',hr⟩:∃s' r',wg e.2 (s'::r'):=by
  rcases hT with h|⟨K',e',s',r',h,hr⟩;simp at h;obtain⟨-,h⟩:=List.append_inj' h rfl;injection h with h;subst h;exact⟨s',r',hr⟩
 obtain⟨cs,R,n',he,Z,tL⟩:=hr.cons;obtain⟨r1,r2,r3,r4,r5,r6⟩:=hr.nice;obtain⟨x1,x2,x3,x4,-,-⟩:=tL.nice;obtain⟨q1,q2,q3⟩:=Up (K:=K2) (e:=e) (junk:=junk);have f8:B<D:=e2;have lK:(K2++[e]).length=K2.length+1:=by simp
 rw[lK] at t4;dsimp only at e3;have sm:aY .sub (ι ((K2.length+1:Nat):Int)) (ι 1)=some (ι (K2.length:Int)):=qV (a:=K2.length+1) (b:=1) ω;obtain⟨rr,b7⟩:=bh6 s.1 s'.1 s.2 (s'.2:Int);simp only[dO] at Z;have d8:∀(τ:T AV) h,az C τ (.t 72)= .ds cs R (n'+1) 2 ->step (az C τ) h (.slc 2 (.t 72) (some (.c (ι 1))) none none)= .v (.ds cs (R+1*2) n' 2) h:=λτ h h1=>SU (k:=1) h1 rfl ω;rw[he] at q2;by_cases i0:(0:Int)<(i:Int);have f0:((0:Int)<(i:Int))=True:=fq i0;refine Y4 t1 t4 d1 f0 ?_;refine E.cN (hs _) ?_;cases rr with
 |true=>
  have ov:=q3 (.ds cs (R+1*2) n' 2);have y1:ew (.ds cs (R+1*2) n' 2)=true:=rfl;refine Z9 t4 e3 sm q2 Z b7 d8 ov y1 ?_;refine Us (b:=n0+2) (K:=K2++[(e.1,.ds cs (R+2) n' 2)]) (L:=L) (b2:=b2) (b3:=b3) (sv:= .sl B 0 (K2.length+1) none 2) (n0:=n0) E G W hi hN ω ω ?_ ?_ ?_ ?_ ?_ ?_ hL ?_ (.inr ⟨B,junk,by simp,e1,by show B<D+1;omega,?_⟩) (by show n0+2<=D+1;omega) (λe' d2=> ?_) (by rw[dy,lF];rw[lK] at hK;omega) λτ' h' sv' K' L' w1 w3 w24 w25 w4 hL' co' hS' hE' hT' hK' hn' fr'=> ?_;exact U1 t1;exact U1 t3;(iterate 3 exact U1 t4);have w:(n0=D)=False:=cE;have w':(n0=B)=False:=cE;exact wW (ec w w') V;have w:(n0+1=D)=False:=cE;have w':(n0+1=B)=False:=cE;exact wW (ec w w') b4;exact U0;rcases fO.1 d2 with h|h;exact hE e' (xI _ h);rw[yC.1 h];exact⟨(hE e (by simp)).1,r',tL⟩;obtain⟨n3,v3,cC⟩:=h';have d6:D+1<=n3:=hn';have b0:τ'.get 24=some (ι (N.length:Int)):=w24.trans (U1 I);have b1:τ'.get 25=some (ι (i:Int)):=w25.trans (U1 J);have f3:∀j,j<n0+2 ->j≠n0+1 ->cC.get j=U.get j:=λj H Y=>(fr' j H Y).trans (by
   have w:(j=D)=False:=cE;exact U0)
  refine Y1 b1 ?_;refine ih _ _ ⟨?_,?_,?_,?_,by show n0+2<=n3;omega,λj H=>(f3 j ω ω).trans (fr j H),(by rw[show(AH.mk n3 v3 cC).oB.get n0=U.get n0 from f3 n0 ω ω];exact V),⟨L',hL',co'⟩,⟨sv',K',?_,hS',hE',hT',hK'⟩,b5⟩;exact U1 w1;exact U1 w3;exact U1 b0;exact U0;exact U1 w4
 |false=>
  refine Z6 t4 e3 sm q2 Z b7 ?_;refine O _ (by show n0<=D+1;omega) λj H=> ?_;have m9:j<n0:=H;have w:(j=D)=False:=cE;exact wW w (fr j m9)
 exfalso;rw[lK] at hK;omega;rintro τ ⟨m,v,ob⟩ ⟨t1,t3,I,J,hn,old,c1,⟨L,hL,co⟩,⟨sv,K,t4,hS,hE,hT,hK⟩,h1⟩;dsimp only at c1 co old hn;have b8:∀h,kg h sv= .v (ι (K.length:Int)) h:=λh=>by rcases hS with ⟨rfl,rfl⟩|⟨B,junk,rfl,-⟩<;>rfl
 rcases vF K.length with hk|hk;have k0:((0:Int)<(K.length:Int))=False:=cE;refine Y6 t3 t4 I J b8 k0 ?_;obtain⟨t,ht,hq⟩:=h1 hz;exact d4 t _ _ ht hq (by show n0<=m;omega) old;have k0:((0:Int)<(K.length:Int))=True:=cJ;refine Y6 t3 t4 I J b8 k0 ?_;exact O _ (by show n0<=m;omega) old;(iterate 4 exact U0);have w1:(j=n0)=False:=cE;exact U1 w1;exact U1 @qE.eq_1;exact U0;exact U0
def ckH (GL:T (List AV)) (t:Tr) (c:Nat):Bool:=gM GL aG (Kf t) 1000 59 [eT t,.i .u64 (c:Nat)] (.b (mf t c))
def mw (GL:T (List AV)) (t:Tr):Bool:=(List.range 8).all λc=>ckH GL t c
def hh0 GL:qp (mw GL) 0=true:=lR
def hh1 GL:qp (mw GL) 1=true:=lR
def hh2 GL:qp (mw GL) 2=true:=lR
def hh3 GL:qp (mw GL) 3=true:=lR
def bi7 {t} (j:cA 3 t=true) {c:Nat} (B:c<8) h:bP P X GL 59 [eT t,.i .u64 (c)] h (.b (mf t c)) h:=
 dR S (hY F (aS8 A j) (fX.1 (RB (hh0 GL) (hh1 GL) (hh2 GL) (hh3 GL) j) c (mA.2 B))) (n:=9) (by simp only[aL,jB,bZ,dH]) h
def bi8 {c k:Nat} (j:c<8) (B:k<=3):aY .shr (.i .u64 (c)) (ι (k))=some (.i .u64 ((c/2^k:Nat):Int)):=by
 rcases(show c=0∨c=1∨c=2∨c=3∨c=4∨c=5∨c=6∨c=7 by omega) with rfl|rfl|rfl|rfl|rfl|rfl|rfl|rfl<;>
  rcases(show k=0∨k=1∨k=2∨k=3 by omega) with rfl|rfl|rfl|rfl<;>rfl
def Uu {g} (G:oy g) {c:Nat} (D:c<8) h:bP P X GL 100 [aI g,.i .u64 (c)] h (.b (kS g c)) h:=by
 refine ku S (λn h=>by simp only[aL,bZ,dH]) ?_ h;refine bg.intro λC E=> ?_;have nc:=G.nc;have sh:=bi8 D nc;have I:=λh=>bi7 S A F G.fam.f D h;have B:(fz g.nc).length=g.nc:=by unfold fz;rw[jm];simp;omega
 simp only[eT,eD] at I;rw[E.cB (F.f 100)];by_cases H:c/2^g.nc=0;have j:(((c/2^g.nc:Nat):Int)=0)=True:=cJ;refine Y5 @aI.eq_1 @bx.eq_1 B sh j ?_;refine E.cN (I _) (Y0 ?_);exact⟨1,by simp only[kS,H];rfl⟩;have j:(((c/2^g.nc:Nat):Int)=0)=False:=cE;refine Y5 @aI.eq_1 @bx.eq_1 B sh j ?_;have hb:Nat.beq (c/2^g.nc) 0=false:=by
  cases e:Nat.beq (c/2^g.nc) 0;rfl;exact bh (qG e) H
 exact⟨1,by simp only[kS,hb];rfl⟩
def oW (P:Program) (X:aR) (GL:T (List AV)) (g:Gr) (c:Int) (b:Bool):Prop:=∀h,bP P X GL 100 [aI g,.i .u64 c] h (.b b) h
def Uv (Q:bz8 ae) (F:bz8 ae) (H:GL=mU) {g} (G:oy g) {c b} (I:oW P X GL g c b) h:bP P X GL 53 [aI g,.i .u64 c] h (.b b) h:=by
 refine ku S (λn h=>by simp only[aL,bZ,dH]) ?_ h;refine bg.intro λC E=> ?_;have j:=λh=>Td S A Q H G h;have B:=λh=>I h;have D:=iW (g:=g);simp only[bx] at D;simp only[aI,bx] at j B;refine E.bS (F.f 53) (Y2 @aI.eq_1 @bx.eq_1 ?_);refine E.cN (j _) (Y0 ?_);refine E.cN (B _) (Y0 ?_);exact⟨1,rfl⟩
def bj0 (D:bz8 ae) (FA:bz8 ae) (Q:bz8 ae) (F:bz8 ae) (B:GL=mU) {g} (G:oy g) {Z} (Y:iQ g Z) (pn:1<=g.pR.length) {c} (I:oW P X GL g c true) h:bP P X GL 54 [aI g,.i .u64 c] h (ι 0) h:=by
 refine ku S (λn h=>by simp only[aL,bZ,dH]) ?_ h;refine bg.intro λC E=> ?_;have j:=λh=>bF7 S A D FA Q B G Y pn h;have H:=λh=>Uv S A Q F B G I h;have J:=iW (g:=g);simp only[bx] at J;simp only[aI,bx] at j H;refine E.bS (F.f 54) (Y2 @aI.eq_1 @bx.eq_1 ?_);refine E.cN (j _) (Y0 ?_);refine E.cN (H _) (Y0 ?_);exact⟨1,rfl⟩
def jV (g:Gr) (b:Bool) (L:List Ru):Nat:=if b then (if iG g L then 0 else 270) else 1
def Uw (D:bz8 ae) (FA:bz8 ae) (Q:bz8 ae) (FS:bz8 ae) (F:bz8 ae) (J:GL=mU) {g} (G:oy g) {Z} (Y:iQ g Z) (pn:1<=g.pR.length) {c b} (I:oW P X GL g c b) {L nl} (R:L.length<=1000) h k
 (B:∀v h',(jV g b L=0 ->(h.next<=h'.next/\∀j,j<h.next ->h'.oB.get j=h.oB.get j)/\ bF8 g L (h.next+1) h' v) ->k (.tu [v,ι (jV g b L)]) h'):du C 17 [aI g,.i .u64 c,eR uC 4 nl L] h k:=by
 have H:=λh=>bF7 S A D FA Q J G Y pn h;have N:=λh=>Uv S A Q F J G I h;have op:=λh k B=>aX3 (C:=C) (nl:=nl) E FS G R h k B;have O:=iW (g:=g);simp only[bx] at O;simp only[aI,bx] at H N op;obtain⟨n0,v0,ob0⟩:=h;refine E.bS (F.f 17) (Y2 @aI.eq_1 @bx.eq_1 ?_);refine E.cN (H _) (Y0 ?_);refine E.cN (N _) ?_;cases b;refine Y0 ?_;exact B _ _ λe=>by cases e
 refine Y0 ?_;refine E.run (op _ _ λv h' W=> ?_);cases hb:iG g L;have e1:jV g true L=270:=by unfold jV;rw[hb];rfl
 rw[e1] at B;refine Y0 ?_;exact B _ _ λe=>by cases e
 have e1:jV g true L=0:=by unfold jV;rw[hb];rfl
 rw[e1] at B;obtain⟨⟨V,old⟩,bk⟩:=W hb;refine Y0 ?_;refine B _ _ λ_=>⟨⟨fJ (nD n0) V,λj U=> ?_⟩,bk⟩;have m9:j<n0:=U;rw[old j (ui m9)];exact U0
def ky (N:List Tn) (R:List (List Nat)):List AV:=[eR fG 4 true N,eR jT 1 true R]
def bj2 {g} (G:oy g) {N} (hN:N.length<=40) {R} h k
 (H:∀h',h.next<=h'.next ->(∀j,j<h.next ->h'.oB.get j=h.oB.get j) ->k .sn h')
 (L:∀t o h',N[0]? =some t ->(∃Y x,t.prod=((Y:Nat):Int)/\ g.pR[Y]? =some x) ->h.next<=h'.next ->(∀j,j<h.next ->h'.oB.get j=h.oB.get j) ->k (.sl o 0 N.length (some N.length) 1) h'):
 du C 55 [aI g,.ag (ky N R)] h k:=by
 obtain⟨n0,v0,ob0⟩:=h;have bq:=iW (g:=g);simp only[bx] at bq;rw[E.cB (F.f 55)];have fin:∀(I:∀t,N[0]? =some t ->0<=t.prod),∀K:AV ->AH ->Prop,(∀v h',k v h' ->K v h') ->du C 102 [.ag (qE g N.length n0 (n0+1))] ⟨n0+1+1,v0,(ob0.put n0 (.cells v0 (bx g))).put (n0+1) (.cells v0 (ky N R))⟩ K:=λI K hK=>by
  refine bh7 S E F G hN (b2:=n0) (b3:=n0+1) (rv:=eR jT 1 true R) ?_ ?_ (by show n0<n0+1+1;omega) (by show n0+1<n0+1+1;omega) K (λh' O old=>hK _ _ (H h' (by show n0<=_;have h:n0+1+1<=h'.next:=O;omega) λj D=> ?_)) (λt o h' V J O old=>hK _ _ (L t o h' V ?_ (by show n0<=_;have h:n0+1+1<=h'.next:=O;omega) λj D=> ?_));have w:(n0=n0+1)=False:=cE;exact U1 w;exact U1 @ky.eq_1;have W:j<n0:=D;refine(old j (by show j<n0+1+1;omega)).trans ?_;exact U0;obtain⟨q,J⟩:=J;rcases J with ⟨h,-⟩|J;have:=I t V;omega;exact J;have W:j<n0:=D;refine(old j (by show j<n0+1+1;omega)).trans ?_;exact U0
 have Z:(n0=n0+1)=False:=cE;simp only[qE,bx,ky,gw,gx] at fin;rcases N with _|⟨t,N⟩;have l0:((([]:List Tn).length:Nat):Int)=0:=rfl;refine Y3 @aI.eq_1 @bx.eq_1 @ky.eq_1 ?_;refine E.run (fin (λt h=>by cases h) _ λv h' U=> ?_);refine Y0 ?_;exact U;have lp:((0:Int)<(((t::N).length:Nat):Int))=True:=fq (by simp);have e0:sub ((t::N).flatMap fG) 0 1=some [ι t.prod]:=rfl;have z:∀h,nU h 4 0 (eR fG 4 true (t::N))= .v (.dp ((t::N).flatMap fG) 0) h:=λh=>(bG (i:=0) (by simp)).trans (by rw[ue]);by_cases I:t.prod<0;have B:(t.prod<0)=True:=fq I;refine Y9 @aI.eq_1 @bx.eq_1 @ky.eq_1 Z lp e0 z B @dw ?_;refine H _ (by show n0<=n0+1+1;omega) λj D=> ?_;have W:j<n0:=D;exact U0;have B:(t.prod<0)=False:=dQ I;refine Y9 @aI.eq_1 @bx.eq_1 @ky.eq_1 Z lp e0 z B @dw ?_;refine E.run (fin (λt' h=>by cases h;omega) _ λv h' U=> ?_);refine Y0 ?_;exact U
def mq.deep {b h' ov N R} (A:mq b h ov rv N R) (old:∀j v l,b<=j ->j<h.next ->h.oB.get j=some (.cells v l) ->∃v',h'.oB.get j=some (.cells v' l)):AM.deep 10 h' (.ag [ov,rv])=some (.ag (ky N R)):=by
 obtain⟨-,-,tt,B,D,G⟩:=A;have k:=BG (h1:=tt) (h2:=h') (λj v l H=>by obtain⟨a,b,c⟩:=B j v l H;exact old j v l a b c) 9;refine nX (n:=9) ?_;rw[aL,aL,bZ,k.1 _ _ D,k.1 _ _ G];rfl
end
end AM
