import Derived.Test.YtdmkaddihnnbaaaGreatDoorN29
set_option linter.all false
set_option maxHeartbeats 8000000
namespace AM
open Dg Go
noncomputable section
def Uo t:(fG t).length=4:=rfl
def zi {n} s:nice.niceL n (jT s)=true:=by simp only[jT,Bg,iq,ye,A7]
def ua {n} t:nice.niceL (n+1) (fG t)=true:=by simp only[fG,Bg,iq,j9,ye,A4 zi,A7]
def zk (g:Gr) (p q:Int):Prop:=(p= -1/\∃j:Nat,q=(j:Int)/\ j<11)∨∃(i:Nat) (x:Pr),p=(i:Int)/\ g.pR[i]? =some x
variable {P:Program} {X:aR} {GL:T (List AV)} {ae:T au}
variable (S:aT P X GL ae) {C:aK Prop} (E:Sem P X GL ae C)
variable {rv:AV} {h:AH}
variable (A:dY P X GL) (F:fu ae)
def bg9 {g} (G:oy g) {N} {i b2 b3:Nat} {t} (Z:N[i]? =some t) (hN:N.length<=40) (c2:cG (h.oB.get b2)=some (ar g)) (c3:cG (h.oB.get b3)=some [eR fG 4 true N,rv]) (l2:b2<h.next) (l3:b3<h.next) k
 (O:∀p q ok h',(ok=true ->p=t.prod/\ zk g p q) ->h.next<=h'.next ->(∀j,j<h.next ->h'.oB.get j=h.oB.get j) ->k (.tu [ι p,ι q,.b ok]) h'):
 du C 96 [ι (i),.p b3 0,.p b2 0] h k:=by
 have hi:=(eC.1 Z).1;obtain⟨n0,v0,ob0⟩:=h;dsimp only at c2 c3 l2 l3;have e4:sub (N.flatMap fG) (i*4) 4=some (fG t):=cW Uo Z (j:=0) (n:=4) ω;have W:g.tc.zipIdx.length=11:=by rw[ny,G.tcl]
 have Y:((11:Nat):Int)=11:=rfl;simp only[fG] at e4;simp only[ar] at c2;have L:∀(v:Nat) (x y:List AV),∀j,j<n0 ->(((ob0.put n0 (.cells v0 x)).put n0 (.cells v y))).get j=ob0.get j:=λv x y j B=>by
  exact U0
 rw[E.cB F.f96];by_cases h1:t.prod= -1;have u:(t.prod= -1)=True:=fq h1;by_cases a1:0<=t.tok;have J:(0<=t.tok)=True:=fq a1;by_cases a2:t.tok<11;have U:(t.tok<11)=True:=fq a2;refine Y8 c2 c3 e4 W Y u J U ?_;exact O _ _ _ _ (λe=>⟨h1.symm,.inl ⟨rfl,t.tok.toNat,by omega,by omega⟩⟩) (by show n0<=n0+1;omega) (λj B=>L _ _ _ j B);have U:(t.tok<11)=False:=dQ a2;refine Y8 c2 c3 e4 W Y u J U ?_;exact O _ _ _ _ (λe=>by cases e) (by show n0<=n0+1;omega) (λj B=>L _ _ _ j B);have J:(0<=t.tok)=False:=dQ a1;refine Y4 c3 e4 u J ?_;exact O _ _ _ _ (λe=>by cases e) (by show n0<=n0+1;omega) (λj B=>L _ _ _ j B);have u:(t.prod= -1)=False:=dQ h1;by_cases q1:0<=t.prod;have D:(0<=t.prod)=True:=fq q1;by_cases q2:t.prod<(g.pR.length:Int);have H:(t.prod<(g.pR.length:Int))=True:=fq q2;by_cases q3:t.tok= -1;have I:(t.tok= -1)=True:=fq q3;by_cases q4:t.text=[];have R:(t.text=[])=True:=fq q4;by_cases q5:(t.rem.length:Int)=0;have V:((t.rem.length:Int)=0)=True:=fq q5;refine Y9 c2 c3 e4 u D H I R V ?_;exact O _ _ _ _ (λe=>⟨rfl,.inr ⟨t.prod.toNat,g.pR[t.prod.toNat]'ω,by omega,oc ω⟩⟩) (by show n0<=n0+1;omega) (λj B=>L _ _ _ j B);have V:((t.rem.length:Int)=0)=False:=dQ q5;refine Y9 c2 c3 e4 u D H I R V ?_;exact O _ _ _ _ (λe=>by cases e) (by show n0<=n0+1;omega) (λj B=>L _ _ _ j B);have R:(t.text=[])=False:=dQ q4;refine Y8 c2 c3 e4 u D H I R ?_;exact O _ _ _ _ (λe=>by cases e) (by show n0<=n0+1;omega) (λj B=>L _ _ _ j B);have I:(t.tok= -1)=False:=dQ q3;refine Y7 c2 c3 e4 u D H I ?_;exact O _ _ _ _ (λe=>by cases e) (by show n0<=n0+1;omega) (λj B=>L _ _ _ j B);have H:(t.prod<(g.pR.length:Int))=False:=dQ q2;refine Y6 c2 c3 e4 u D H ?_;exact O _ _ _ _ (λe=>by cases e) (by show n0<=n0+1;omega) (λj B=>L _ _ _ j B);have D:(0<=t.prod)=False:=dQ q1;refine Y4 c3 e4 u D ?_;exact O _ _ _ _ (λe=>by cases e) (by show n0<=n0+1;omega) (λj B=>L _ _ _ j B)
def bh0 {g} (G:oy g) {p q} (B:zk g p q):∃s:Bool×Int,∀h,bP P X GL 184 [aI g,ι p,ι q] h (.ag [.b s.1,ι s.2]) h:=by
 rcases B with ⟨rfl,j,rfl,D⟩|⟨i,x,rfl,u⟩;refine⟨(true,j),λh=>dR S (n:=9) ?_ (by rw[aL,aL,aL,bZ,kq (n:=6),dH,dH]) h⟩;refine bg.intro λC E=> ?_;refine E.bS F.f184 (Y2 @aI.eq_1 @ar.eq_1 ?_);exact⟨2,rfl⟩;refine⟨(false,x.left),λh=>dR S (n:=9) ?_ (by rw[aL,aL,aL,bZ,kq (n:=6),dH,dH]) h⟩;refine bg.intro λC E=> ?_;have hi:=(eC.1 u).1;have pl:=G.pl;have e1:sub (g.pR.flatMap aM) (i*13+1) 1=some [ι (x.left:Int)]:=by
  have:=cW kr u (j:=1) (n:=1) ω;simpa[aM] using this
 refine E.bS F.f184 (Y3 @aI.eq_1 @ar.eq_1 e1 ?_);exact⟨2,rfl⟩
instance:Nc jT:=⟨λ_ _=>zi _⟩
attribute [go_sem] zi
instance:Nc fG:=⟨λ_ _=>ua _⟩
attribute [go_sem] ua
def BM:aw:=eg (sE 97 2093871)
def Fd:aw:=(λx=>eg (pt 15 x (sE 97 258863))) BM
abbrev QO:au:=(λy=>eg (bE (pg 97) λo=>pt 258863 y o)) Fd
def bh1:bE2=QO:=by unfold bE2 QO Fd BM;rfl
def H0 (v:AV) (r:List (Bool×Nat)):Prop:=(r=[]/\ v= .sn)∨∃p:List (Bool×Nat),∃k,v= .ds (p.flatMap ba) (k*2) (p.length-k) 2/\ k<=p.length/\ r=p.drop k/\ p.length<=8
def H0.nice {v:AV} {r:List (Bool×Nat)} (H:H0 v r):nice 64 v=true/\ ew v=true/\ cellsOf v=[v]/\ cellsO v=some [v]/\ r.length<=8/\∀h,kg h v= .v (ι (r.length:Int)) h:=by
 rcases H with ⟨rfl,rfl⟩|⟨p,k,rfl,u,rfl,j⟩;exact⟨rfl,rfl,rfl,rfl,by simp,λ_=>rfl⟩;refine⟨by rw[nN];exact fE jE p,rfl,rfl,rfl,by rw[sW];omega,λh=> ?_⟩;show ay.v (ι ((p.length-k:Nat):Int)) h=_;rw[sW]
def H0.cons {v s r} (H:H0 v (s::r)):∃c u n,v= .ds c u (n+1) 2/\ sub c u 2=some (ba s)/\ H0 (.ds c (u+1*2) n 2) r:=by
 rcases H with ⟨h,-⟩|⟨p,k,rfl,G,e,B⟩;cases h;have I:k<p.length:=by
  have:=congrArg List.length e;rw[sW,gJ] at this;omega
 have D:p[k]? =some s:=by
  have:=congrArg (λl=>l[0]?) e;simp only[Lp,mB,vG] at this;exact this.symm
 refine⟨p.flatMap ba,k*2,p.length-k-1,by rw[show p.length-k-1+1=p.length-k by omega],cW gO D (j:=0) (n:=2) ω,.inr ⟨p,k+1,by rw[show(k+1)*2=k*2+1*2 by omega,show p.length-(k+1)=p.length-k-1 by omega],by omega,?_,B⟩⟩;have:=congrArg (List.drop 1) e;rw[ud] at this;exact this
def bh2 {rn p} (h:p.length<=8):H0 (eR ba 2 rn p) p:=by
 rcases p with _|⟨a,p⟩;cases rn;exact .inr ⟨[],0,rfl,oi _,rfl,h⟩;exact .inl ⟨rfl,rfl⟩;exact .inr ⟨a::p,0,rfl,oi _,rfl,h⟩
def pJ (e:Nat×AV):List AV:=[ι (e.1:Int),e.2]
def Fe e:(pJ e).length=2:=rfl
def rB (b:Nat) (h:AH) (v:AV) (K:List (Nat×AV)):Prop:=(K=[]/\ v= .sn)∨∃j junk,v= .sl j 0 K.length none 2/\ b<=j/\ j<h.next/\ cG (h.oB.get j)=some (K.flatMap pJ++junk)
def Up {K e junk}:sub ((K++[e]).flatMap pJ++junk) (K.length*2) 1=some [ι (e.1:Int)]/\ sub ((K++[e]).flatMap pJ++junk) (K.length*2+1) 1=some [e.2]/\∀v,dW [v] ((K++[e]).flatMap pJ++junk) (K.length*2+1)=some ((K++[(e.1,v)]).flatMap pJ++junk):=by
 have e1:(K++[e]).flatMap pJ++junk=K.flatMap pJ++(ι (e.1:Int)::e.2::junk):=by
  rw[Bd,pO,nz];rfl
 have j:(K.flatMap pJ).length=K.length*2:=kh Fe K;rw[e1];refine⟨qY ?_,qY ?_,λv=> ?_⟩;rw[rK ω,j,Nat.sub_self];rfl;rw[rK ω,j,show K.length*2+1-K.length*2=1 by omega];rfl;rw[←j,Ka,Bd,pO,nz];rfl
def bh3 {j m o2 old junk new} (h1:cG (h.oB.get j)=some (old++junk)) (G:old.length=m*2) (h2:cG (h.oB.get o2)=some new) (J:new.length=2) (H:wV new=true) (hb:m+1<=1048576):
 gU h 2 (.sl j 0 m none 2) (.sl o2 0 1 (some 1) 2)= .v (.sl h.next 0 (m+1) none 2) ⟨h.next+1,h.ver+1,(h.oB.put j .gone).put h.next (.cells (h.ver+1) (old++new))⟩:=by
 have D:eI h 2 (.sl o2 0 1 (some 1) 2)=some new:=wH h2 (mM ω);have e0:gU h 2 (.sl j 0 m none 2) (.sl o2 0 1 (some 1) 2)=gD h (.sl j 0 m none 2) 1 new 2:=by unfold gU;rw[D];rfl
 rw[e0];have e:gD h (.sl j 0 m none 2) 1 new 2=(match h.cells j with
  |none=>ay.bad
  |some l=>fN (m+1) λu=>bif !(Nat.beq 2 2&&(Nat.ble u 1048576&&wV new)) then ay.bad else
   match sub l 0 (m*2) with
    |some old=>match fy old new with
     |some l=>h.put j .gone λh=>h.new (.cells h.ver l) λo h=> .v (.sl o 0 u none 2) h
     |none=> .bad
    |none=> .bad):=rfl
 have B:h.cells j=some (old++junk):=h1;have I:sub (old++junk) 0 (m*2)=some old:=by rw[nH,aF (by rw[dy];omega),List.drop_zero,←G,List.take_left]
 rw[e,B];simp only[dT,bu,wX,hb,H,mC,A7,jk,eU,I,jz,AH.put_eq,AH.new_eq]
def bh4 {ev x b u m k} (h1:ev x= .sl u 0 m none 2) (h2:fP (ev b)=some k) (B:k<=m):step ev h (.slc 2 x none (some b) none)= .v (.sl u 0 k none 2) h:=by
 show(match ev x with
  | .sl o j n cap esz=>bif !(Nat.beq esz 2) then ay.bad else match cap with
   |some c=>match d7 n c (nO ev none) (nO ev (some b)) (nO ev none) with
    |some (l,r,m)=>fN (j+l*esz) λj=>fN (r-l) λn=>fN (m-l) λc=>ay.v (.sl o j n (some c) esz) h
    |none=>ay.bad
   |none=>match d7 n n (nO ev none) (nO ev (some b)) none with
    |some (l,r,_)=>fN (j+l*esz) λj=>fN (r-l) λn=>ay.v (.sl o j n none esz) h
    |none=>ay.bad
  | .ds c j n esz=>bif !(Nat.beq esz 2) then ay.bad else match d7 n n (nO ev none) (nO ev (some b)) none with
   |some (l,r,_)=>fN (j+l*esz) λj=>fN (r-l) λn=>ay.v (.ds c j n esz) h
   |none=>ay.bad
  | .sn=>match d7 0 0 (nO ev none) (nO ev (some b)) (nO ev none) with|some _=>ay.v .sn h|none=>ay.bad
  |_=>ay.bad)=_
 rw[h1];have e:d7 m m (nO ev none) (nO ev (some b)) none=some (0,k,m):=by
  rw[uO,uP,h2];show(bif Nat.ble m m&&Nat.ble k m&&Nat.ble 0 k then some (0,k,m) else none)=_;have D:Nat.ble m m=true:=by rw[wX];simp
  have G:Nat.ble k m=true:=by rw[wX];simpa using B
  have H:Nat.ble 0 k=true:=rfl;rw[D,G,H];rfl
 simp only[e,dT];simp
def zm (n:Nat) (K:List (Nat×AV)):Prop:=∀e∈K,e.1<n/\∃r,H0 e.2 r
def KI (K:List (Nat×AV)):Prop:=K=[]∨∃K' e s r,K=K'++[e]/\ H0 e.2 (s::r)
def Uq {α:Type} (K:List α):K=[]∨∃K' e,K=K'++[e]:=by
 rcases List.eq_nil_or_concat K with h|⟨a,b,h⟩;exact .inl h;exact .inr ⟨a,b,by rw[h,List.concat_eq_append]⟩
def bh5 (E:Sem P X GL ae C) {n i oo b:Nat} (hi:i<n) (hn:n<=40) (lb:oo<b) {S:List Fr} {KK:K Prop} {τ:T AV} {K:List (Nat×AV)} {sv:AV} {L:List Nat} (t3:τ.get 3=some (.sl oo 0 n (some n) 1)) (t4:τ.get 4=some sv) (t5:τ.get 5=some (ι (i:Int)))
 (hL:L.length=n) (co:cG (h.oB.get oo)=some (L.flatMap cI)) (hS:rB b h sv K) (hE:zm n K) (hK:K.length<=41)
 (fin:∀(τ':T AV) (h':AH) (D:AV) (K':List (Nat×AV)) (L':List Nat),(∀j,j<=90 ->j≠4 ->τ'.get j=τ.get j) ->τ'.get 4=some D ->L'.length=n ->cG (h'.oB.get oo)=some (L'.flatMap cI) ->rB b h' D K' ->zm n K' ->KI K' ->K'.length<=K.length ->h'.next=h.next ->(∀j,j≠oo ->h'.oB.get j=h.oB.get j) ->gV C .normal S KK τ' h'):
 df C BM S KK τ h:=by
 unfold BM;refine Y0 ?_;refine Qo E.ok (λx:List (Nat×AV)=>x.length) (λK' τ' h'=>(∀j,j<=90 ->j≠4 ->τ'.get j=τ.get j)/\ (∃D,τ'.get 4=some D/\ rB b h' D K')/\ (∃L',L'.length=n/\ cG (h'.oB.get oo)=some (L'.flatMap cI))/\ zm n K'/\ K'.length<=K.length/\ h'.next=h.next/\∀j,j≠oo ->h'.oB.get j=h.oB.get j) ?_ K _ _ ⟨λ_ _ _=>rfl,⟨sv,t4,hS⟩,⟨L,hL,co⟩,hE,bB _,rfl,λ_ _=>rfl⟩;rintro K1 τ1 ⟨n1,v1,ob⟩ ⟨tt,⟨J,V,R⟩,⟨L1,O,G⟩,H,W,I,old⟩ ih;have u3:=(tt 3 ω ω).trans t3;have u5:=(tt 5 ω ω).trans t5;dsimp only at G I;rcases Uq K1 with rfl|⟨K2,e,rfl⟩;have e0:(J= .sn)∨∃B,J= .sl B 0 0 none 2:=by
  rcases R with ⟨-,h⟩|⟨B,junk,h,-⟩;exact .inl h;exact .inr ⟨B,h⟩
 have l0:∀h,kg h J= .v (ι 0) h:=λh=>by rcases e0 with rfl|⟨B,rfl⟩<;>rfl
 refine Y2 V l0 ?_;refine fin _ _ J [] L1 (λj N u=> ?_) ?_ O G R H (.inl rfl) (oi _) I old;exact W0 (tt j N u);exact U1 V;rcases R with ⟨h,-⟩|⟨B,junk,rfl,s1,s2,U⟩;simp at h;obtain⟨eN,r,hr⟩:=H e (by simp);obtain⟨q1,q2,q3⟩:=Up (K:=K2) (e:=e) (junk:=junk);obtain⟨r1,r2,r3,r4,r5,r6⟩:=hr.nice;have b0:(K2++[e]).length=K2.length+1:=by simp
 have b3:K2.length+1<=K.length:=by rw[←b0];exact W
 have sm:aY .sub (ι ((K2.length+1:Nat):Int)) (ι 1)=some (ι (K2.length:Int)):=qV (a:=K2.length+1) (b:=1) ω;have lK:(K2++[e]).length=K2.length+1:=by simp
 rw[lK] at V;have b2:K2.length+1<=K.length:=by rw[←lK];exact W
 dsimp only at U;rcases r with _|⟨s,r⟩;have b1:∀h,kg h e.2= .v (ι 0) h:=r6;have Y:∀(τ:T AV) h,az C τ (.t 116)= .sl B 0 (K2.length+1) none 2 ->az C τ (.t 119)=ι (K2.length:Int) ->step (az C τ) h (.slc 2 (.t 116) none (some (.t 119)) none)= .v (.sl B 0 K2.length none 2) h:=λτ h h1 h2=>bh4 h1 (by rw[h2];exact tC) ω;have ov:dW [AV.i .i64 ((i+1:Nat):Int)] (L1.flatMap cI) e.1=some ((L1.set e.1 (i+1)).flatMap cI):=E5 ω;have p4:(B=oo)=False:=av;refine sC u3 V u5 U G sm q1 q2 b1 Y ov ?_;have hm:∀x∈K2,x∈K2++[e]:=λx Z=>xI _ Z;refine ih K2 _ _ (by show K2.length<(K2++[e]).length;omega) ⟨λj N u=>W0 (tt j N u),⟨_,U0,.inr ⟨B,pJ e++junk,rfl,s1,s2,?_⟩⟩,⟨L1.set e.1 (i+1),by rw[vK,O],U0⟩,λx Z=>H x (hm x Z),by omega,I,λj N=> ?_⟩;rw[Bd,pO,nz] at U;exact wW p4 U;have w:(j=oo)=False:=dQ N;exact wW w (old j N);refine Y5 V U sm q2 r6 ?_;refine fin _ _ (.sl B 0 (K2.length+1) none 2) (K2++[e]) L1 (λj N u=>W0 (tt j N u)) (U1 V) O G (.inr ⟨B,junk,by rw[lK],s1,s2,U⟩) H (.inr ⟨K2,e,s,r,rfl,hr⟩) ω I old
def qE (g:Gr) (n b2 b3:Nat):List AV:=ar g++[ι (n:Int),.f 96 [] [.p b3 0,.p b2 0]]
def Ur {b sv K i} (hS:rB b h sv K) (hb:b<=h.next) (J:K.length<=1000) (G:ew rv=true) {o2} (c2:cG (h.oB.get o2)=some (pJ (i,rv))):
 ∃h',gU h 2 sv (.sl o2 0 1 (some 1) 2)= .v (.sl h.next 0 (K.length+1) none 2) h'/\ h'.next=h.next+1/\ rB b h' (.sl h.next 0 (K.length+1) none 2) (K++[(i,rv)])/\∀j,j<b ->h'.oB.get j=h.oB.get j:=by
 have u:wV (pJ (i,rv))=true:=by unfold pJ;rw[Ei,Ei,qR,G];rfl
 have H:(K++[(i,rv)]).length=K.length+1:=by simp
 rcases hS with ⟨rfl,rfl⟩|⟨B,junk,rfl,L,N,I⟩;refine⟨_,by rw[IE,c2,IF,aF ⟨Fe _,u⟩];rfl,rfl,.inr ⟨h.next,[],rfl,hb,qI _,?_⟩,λj D=> ?_⟩;show cG ((h.oB.put h.next _).get h.next)=_;rw[T.get_put,aF rfl];rfl;show(h.oB.put h.next _).get j=_;rw[T.get_put,aD ω];refine⟨_,bh3 I (kh Fe K) c2 (Fe _) u ω,rfl,.inr ⟨h.next,[],by rw[H],hb,qI _,?_⟩,λj D=> ?_⟩;show cG (((h.oB.put B _).put h.next _).get h.next)=_;rw[T.get_put,aF rfl,Bd,pO,lG];rfl;show((h.oB.put B _).put h.next _).get j=_;rw[T.get_put,aD ω,T.get_put,aD ω]
def Us (E:Sem P X GL ae C) {g:Gr} (G:oy g) {p q:Int} (hg:zk g p q) {n i n0 b b2 b3:Nat} (hi:i<n) (hn:n<=40) (b1:n0<b) (lb:n0+1<b) {S:List Fr} {KK:K Prop} {τ:T AV} {K:List (Nat×AV)} {sv:AV} {L:List Nat} (t1:τ.get 1=some (.p n0 0)) (t3:τ.get 3=some (.sl (n0+1) 0 n (some n) 1)) (t4:τ.get 4=some sv) (t5:τ.get 5=some (ι (i:Int))) (t6:τ.get 6=some (ι p))
 (c1:cG (h.oB.get n0)=some (qE g n b2 b3)) (hL:L.length=n) (Z:cG (h.oB.get (n0+1))=some (L.flatMap cI)) (hS:rB b h sv K) (hb:b<=h.next) (hE:zm n K) (hK:K.length<=i)
 (fin:∀(τ':T AV) (h':AH) (D:AV) (K':List (Nat×AV)) (L':List Nat),τ'.get 1=some (.p n0 0) ->τ'.get 3=some (.sl (n0+1) 0 n (some n) 1) ->τ'.get 24=τ.get 24 ->τ'.get 25=τ.get 25 ->τ'.get 4=some D ->L'.length=n ->cG (h'.oB.get (n0+1))=some (L'.flatMap cI) ->rB b h' D K' ->zm n K' ->KI K' ->K'.length<=i+1 ->h.next<=h'.next ->(∀j,j<b ->j≠n0+1 ->h'.oB.get j=h.oB.get j) ->gV C .normal S KK τ' h'):
 df C Fd S KK τ h:=by
 obtain⟨m,v,ob⟩:=h;dsimp only at c1 Z hb;simp only[qE,ar,gw,gx] at c1;have pl:=G.pl;have st:∀(rv:AV) h,h=(⟨m+1,v,ob.put m (.cells v [ι (i:Int),rv])⟩:AH) ->rB b h sv K:=λrv h e=>by
  subst e;rcases hS with h|⟨Y,junk,h1,h2,O,h4⟩;exact .inl h;have R:Y<m:=O;exact .inr ⟨Y,junk,h1,h2,ui R,by have w:(Y=m)=False:=av;exact wW w h4⟩
 have H:∀(rv:AV) (r:List (Bool×Nat)) (τ2:T AV) (h2:AH),H0 rv r ->(∀j,j<=60 ->j≠4 ->j≠11 ->τ2.get j=τ.get j) ->τ2.get 4=some (.sl (m+1) 0 (K.length+1) none 2) ->h2.next=m+1+1 ->rB b h2 (.sl (m+1) 0 (K.length+1) none 2) (K++[(i,rv)]) ->(∀j,j<b ->h2.oB.get j=(ob.put m (.cells v [ι (i:Int),rv])).get j) ->df C BM S KK τ2 h2:=λrv r τ2 h2 N tt u4 pn B u=>by
  have fr:∀j,j<b ->h2.oB.get j=ob.get j:=λj J=>by
   rw[u j J];exact U0
  refine bh5 (b:=b) (oo:=n0+1) (K:=K++[(i,rv)]) (L:=L) E hi hn lb ((tt 3 ω ω ω).trans t3) u4 ((tt 5 ω ω ω).trans t5) hL (by rw[fr (n0+1) lb];exact Z) B (λe I=> ?_) (by rw[dy,lF];omega) λτ' h' D K' L' tt2 w4 hL' co' hS' hE' hT' hK' hn' fr'=> ?_;rcases fO.1 I with I|I;exact hE e I;rw[yC.1 I];exact⟨hi,r,N⟩;rw[dy,lF] at hK';exact fin τ' h' D K' L' ((tt2 1 ω ω).trans ((tt 1 ω ω ω).trans t1)) ((tt2 3 ω ω).trans ((tt 3 ω ω ω).trans t3)) ((tt2 24 ω ω).trans (tt 24 ω ω ω)) ((tt2 25 ω ω).trans (tt 25 ω ω ω)) w4 hL' co' hS' hE' hT' ω (by rw[hn',pn];show m<=m+1+1;omega) λj J U=>(fr' j U).trans (fr j J)
 unfold Fd;rcases hg with ⟨rfl,j,rfl,J⟩|⟨pi,x,rfl,V⟩;obtain⟨h2,W,pn,B,u⟩:=Ur (i:=i) (rv:= .sn) (o2:=m) (st _ _ rfl) (by show b<=m+1;omega) ω rfl (by show cG ((ob.put m _).get m)=_;rw[T.get_put,aF rfl];rfl);refine Y5 t4 t5 t6 @tM W ?_;exact H .sn [] _ h2 (.inl ⟨rfl,rfl⟩) (λj h1 h2 O=>U0) U0 pn B u;have b0:=(eC.1 V).1;have x8:=(G.p x (dI V)).len;have N:H0 (eR ba 2 x.rn x.right) x.right:=bh2 x8;obtain⟨r1,r2,r3,r4,-,-⟩:=N.nice;have e2:sub (g.pR.flatMap aM) (pi*13+2) 1=some [eR ba 2 x.rn x.right]:=cW kr V (j:=2) (n:=1) ω;obtain⟨h2,W,pn,B,u⟩:=Ur (i:=i) (rv:=eR ba 2 x.rn x.right) (o2:=m) (st _ _ rfl) (by show b<=m+1;omega) ω r2 (by show cG ((ob.put m _).get m)=_;rw[T.get_put,aF rfl];rfl);refine Y8 t1 t4 t5 t6 c1 @tM W e2 ?_;exact H _ _ _ h2 N (λj h1 h2 O=>U0) U0 pn B u
def bh6 a b x y:∃r,eH 6 (.ag [(0,1,false,(.lf .b)),(1,1,false,(.lf .i))]) (.ag [.b a,ι x]) (.ag [.b b,ι y])=some r:=by
 have h:eH 6 (.ag [(0,1,false,(.lf .b)),(1,1,false,(.lf .i))]) (.ag [.b a,ι x]) (.ag [.b b,ι y])=(match (some (a==b):Option Bool) with
  |some true=>(match (some (eO x y):Option Bool) with|some true=>some true|o=>o)
  |o=>o):=by cases a<;>cases b<;>rfl
 rw[h];cases (a==b)<;>cases eO x y<;>exact⟨_,rfl⟩
def bh7 {g} (G:oy g) {N} (hN:N.length<=40) {b2 b3} (c2:cG (h.oB.get b2)=some (ar g)) (c3:cG (h.oB.get b3)=some [eR fG 4 true N,rv]) (l2:b2<h.next) (l3:b3<h.next) k
 (J:∀h',h.next<=h'.next ->(∀j,j<h.next ->h'.oB.get j=h.oB.get j) ->k .sn h')
 (d3:∀t o h',N[0]? =some t ->(∃q,zk g t.prod q) ->h.next<=h'.next ->(∀j,j<h.next ->h'.oB.get j=h.oB.get j) ->k (.sl o 0 N.length (some N.length) 1) h'):
 du C 97 [.ag (qE g N.length b2 b3)] h k:=by
 have f93:ae.get 97=some QO:=by rw[←bh1];exact F.f97
 obtain⟨n0,v0,ob0⟩:=h;dsimp only at c2 c3 l2 l3;have bq:=iW (g:=g);simp only[ar] at bq;rw[yN E.ok (E.get f93)];rcases vF N.length with hz|hz;have z0:((N.length:Int)=0)=True:=cJ;refine Y2 @qE.eq_1 @ar.eq_1 ?_;refine J _ (by show n0<=n0+1;omega) λj D=> ?_;have m9:j<n0:=D;have w:(j=n0)=False:=av;exact U0;refine Y3 @qE.eq_1 @ar.eq_1 @Uc ?_;refine fj E.ok N.length (λi τ h=>τ.get 1=some (.p n0 0)/\ τ.get 3=some (.sl (n0+1) 0 N.length (some N.length) 1)/\ τ.get 24=some (ι (N.length:Int))/\ τ.get 25=some (ι (i:Int))/\ n0+2<=h.next/\ (∀j,j<n0 ->h.oB.get j=ob0.get j)/\ cG (h.oB.get n0)=some (qE g N.length b2 b3)/\
  (∃L:List Nat,L.length=N.length/\ cG (h.oB.get (n0+1))=some (L.flatMap cI))/\ (∃sv K,τ.get 4=some sv/\ rB (n0+2) h sv K/\ zm N.length K/\ KI K/\ K.length<=i)/\ (1<=i ->∃t,N[0]? =some t/\∃q,zk g t.prod q)) ?_ ?_ _ _ ⟨?_,?_,?_,?_,bB _,λj D=> ?_,?_,⟨List.replicate N.length 0,Cs,?_⟩,⟨.sn,[],?_,.inl ⟨rfl,rfl⟩,λe he=>(by cases he),.inl rfl,bB _⟩,λh=>by omega⟩
 rintro i τ ⟨m,v,ob⟩ hi ⟨t1,t3,H,I,hn,old,c1,⟨L,hL,co⟩,⟨sv,K,t4,hS,hE,hT,hK⟩,h1⟩ ih;dsimp only at c1 co old hn;have c6:=c1;simp only[qE,ar,gw,gx] at c1;have ht:N[i]? =some N[i]:=oc hi;generalize N[i]=t at ht;refine Y4 t1 H I c1 ?_;refine E.run (bg9 E F G ht hN (by rw[old b2 l2];exact c2) (by rw[old b3 l3];exact c3) (by show b2<m;omega) (by show b3<m;omega) _ λp q ok h2 aC d4 eG=> ?_);obtain⟨B,v2,R⟩:=h2;have f0:m<=B:=d4;dsimp only at eG;have d1:cG (R.get n0)=some (qE g N.length b2 b3):=by rw[eG n0 ω];exact c6
 have U:=d1;simp only[qE,ar,gw,gx] at d1;have fr:∀j,j<n0 ->R.get j=ob0.get j:=λj D=>(eG j ω).trans (old j D);cases ok;refine Y0 ?_;exact J _ (by show n0<=B;omega) fr;obtain⟨hp,V⟩:=aC rfl;subst hp;obtain⟨s,hs⟩:=bh0 S F G V;simp only[aI,ar] at hs;have b5:1<=i+1 ->∃t,N[0]? =some t/\∃q,zk g t.prod q:=λ_=>by
  rcases vF i with e|e;subst e;exact⟨t,ht,q,V⟩;exact h1 e
 have b4:cG (R.get (n0+1))=some (L.flatMap cI):=by rw[eG (n0+1) ω];exact co
 have b6:rB (n0+2) ⟨B,v2,R⟩ sv K:=by
  rcases hS with h|⟨u,junk,e1,e2,e3,e4⟩;exact .inl h;have c7:u<m:=e3;exact .inr ⟨u,junk,e1,e2,by show u<B;omega,by rw[show R.get u=ob.get u from eG u ω];exact e4⟩
 rcases Uq K with rfl|⟨K2,e,rfl⟩;have e0:(sv= .sn)∨∃u,sv= .sl u 0 0 none 2:=by
  rcases hS with ⟨-,h⟩|⟨u,junk,h,-⟩;exact .inl h;exact .inr ⟨u,h⟩
 have l0:∀h,kg h sv= .v (ι 0) h:=λh=>by rcases e0 with rfl|⟨u,rfl⟩<;>rfl
 have s1:aY .sub (ι 0) (ι 1)=some (ι (-1)):=rfl;rcases vF i with d2|d2;have i0:((0:Int)<(i:Int))=False:=av;refine Y3 t1 d1 i0 ?_;refine E.cN (hs _) (Y3 t4 l0 s1 ?_);refine Us (b:=n0+2) (K:=[]) (L:=L) (b2:=b2) (b3:=b3) (sv:=sv) (n0:=n0) E G V hi hN ω ω ?_ ?_ ?_ ?_ ?_ ?_ hL ?_ ?_ (by show n0+2<=B+1;omega) (λe he=>by cases he) (oi _) λτ' h' sv' K' L' w1 w3 w24 w25 w4 hL' co' hS' hE' hT' hK' hn' fr'=> ?_;exact U1 t1;exact U1 t3;(iterate 3 exact U1 t4);have w:(n0=B)=False:=av;exact wW w U;have w:(n0+1=B)=False:=av;exact wW w b4;rcases b6 with h|⟨u,junk,e1,e2,e3,e4⟩;exact .inl h;have c7:u<B:=e3;have w:(u=B)=False:=av;exact .inr ⟨u,junk,e1,e2,by show u<B+1;omega,wW w e4⟩;obtain⟨Z,v3,cC⟩:=h';have d5:B+1<=Z:=hn';have b0:τ'.get 24=some (ι (N.length:Int)):=w24.trans (U1 H);have b1:τ'.get 25=some (ι (i:Int)):=w25.trans (U1 I);have f3:∀j,j<n0+2 ->j≠n0+1 ->cC.get j=R.get j:=λj D W=>(fr' j D W).trans (by
  have w:(j=B)=False:=av;exact U0)
 refine Y1 b1 ?_;refine ih _ _ ⟨?_,?_,?_,?_,by show n0+2<=Z;omega,λj D=>(f3 j ω ω).trans (fr j D),(by rw[show(AH.mk Z v3 cC).oB.get n0=R.get n0 from f3 n0 ω ω];exact U),⟨L',hL',co'⟩,⟨sv',K',?_,hS',hE',hT',hK'⟩,b5⟩;exact U1 w1;exact U1 w3;exact U1 b0;exact U0;exact U1 w4;have i0:((0:Int)<(i:Int))=True:=cJ;refine Y3 t4 i0 l0 ?_;exact J _ (by show n0<=B;omega) fr;rcases b6 with ⟨h,-⟩|⟨u,junk,rfl,e1,e2,e3⟩;simp at h;obtain⟨s',r',hr⟩:∃s' r',H0 e.2 (s'::r'):=by
  rcases hT with h|⟨K',e',s',r',h,hr⟩;simp at h;obtain⟨-,h⟩:=List.append_inj' h rfl;injection h with h;subst h;exact⟨s',r',hr⟩
 obtain⟨cs,O,n',he,Y,tL⟩:=hr.cons;obtain⟨r1,r2,r3,r4,r5,r6⟩:=hr.nice;obtain⟨x1,x2,x3,x4,-,-⟩:=tL.nice;obtain⟨q1,q2,q3⟩:=Up (K:=K2) (e:=e) (junk:=junk);have f9:u<B:=e2;have lK:(K2++[e]).length=K2.length+1:=by simp
 rw[lK] at t4;dsimp only at e3;have sm:aY .sub (ι ((K2.length+1:Nat):Int)) (ι 1)=some (ι (K2.length:Int)):=qV (a:=K2.length+1) (b:=1) ω;obtain⟨rr,b7⟩:=bh6 s.1 s'.1 s.2 (s'.2:Int);simp only[ba] at Y;have d6:∀(τ:T AV) h,az C τ (.t 72)= .ds cs O (n'+1) 2 ->step (az C τ) h (.slc 2 (.t 72) (some (.c (ι 1))) none none)= .v (.ds cs (O+1*2) n' 2) h:=λτ h h1=>SU (k:=1) h1 rfl ω;rw[he] at q2;by_cases i0:(0:Int)<(i:Int);have d8:((0:Int)<(i:Int))=True:=fq i0;refine Y4 t1 t4 d1 d8 ?_;refine E.cN (hs _) ?_;cases rr with
 |true=>
  have ov:=q3 (.ds cs (O+1*2) n' 2);have y1:ew (.ds cs (O+1*2) n' 2)=true:=rfl;refine Z9 t4 e3 sm q2 Y b7 d6 ov y1 ?_;refine Us (b:=n0+2) (K:=K2++[(e.1,.ds cs (O+2) n' 2)]) (L:=L) (b2:=b2) (b3:=b3) (sv:= .sl u 0 (K2.length+1) none 2) (n0:=n0) E G V hi hN ω ω ?_ ?_ ?_ ?_ ?_ ?_ hL ?_ (.inr ⟨u,junk,by simp,e1,by show u<B+1;omega,?_⟩) (by show n0+2<=B+1;omega) (λe' d0=> ?_) (by rw[dy,lF];rw[lK] at hK;omega) λτ' h' sv' K' L' w1 w3 w24 w25 w4 hL' co' hS' hE' hT' hK' hn' fr'=> ?_;exact U1 t1;exact U1 t3;(iterate 3 exact U1 t4);have w:(n0=B)=False:=av;have w':(n0=u)=False:=av;exact wW (ec w w') U;have w:(n0+1=B)=False:=av;have w':(n0+1=u)=False:=av;exact wW (ec w w') b4;exact U0;rcases fO.1 d0 with h|h;exact hE e' (xI _ h);rw[yC.1 h];exact⟨(hE e (by simp)).1,r',tL⟩;obtain⟨Z,v3,cC⟩:=h';have d5:B+1<=Z:=hn';have b0:τ'.get 24=some (ι (N.length:Int)):=w24.trans (U1 H);have b1:τ'.get 25=some (ι (i:Int)):=w25.trans (U1 I);have f3:∀j,j<n0+2 ->j≠n0+1 ->cC.get j=R.get j:=λj D W=>(fr' j D W).trans (by
   have w:(j=B)=False:=av;exact U0)
  refine Y1 b1 ?_;refine ih _ _ ⟨?_,?_,?_,?_,by show n0+2<=Z;omega,λj D=>(f3 j ω ω).trans (fr j D),(by rw[show(AH.mk Z v3 cC).oB.get n0=R.get n0 from f3 n0 ω ω];exact U),⟨L',hL',co'⟩,⟨sv',K',?_,hS',hE',hT',hK'⟩,b5⟩;exact U1 w1;exact U1 w3;exact U1 b0;exact U0;exact U1 w4
 |false=>
  refine Z6 t4 e3 sm q2 Y b7 ?_;refine J _ (by show n0<=B+1;omega) λj D=> ?_;have m9:j<n0:=D;have w:(j=B)=False:=av;exact wW w (fr j m9)
 exfalso;rw[lK] at hK;omega;rintro τ ⟨m,v,ob⟩ ⟨t1,t3,H,I,hn,old,c1,⟨L,hL,co⟩,⟨sv,K,t4,hS,hE,hT,hK⟩,h1⟩;dsimp only at c1 co old hn;have b8:∀h,kg h sv= .v (ι (K.length:Int)) h:=λh=>by rcases hS with ⟨rfl,rfl⟩|⟨u,junk,rfl,-⟩<;>rfl
 rcases vF K.length with hk|hk;have k0:((0:Int)<(K.length:Int))=False:=av;refine Y6 t3 t4 H I b8 k0 ?_;obtain⟨t,ht,hq⟩:=h1 hz;exact d3 t _ _ ht hq (by show n0<=m;omega) old;have k0:((0:Int)<(K.length:Int))=True:=cJ;refine Y6 t3 t4 H I b8 k0 ?_;exact J _ (by show n0<=m;omega) old;(iterate 4 exact U0);have w1:(j=n0)=False:=av;exact U1 w1;exact U1 @qE.eq_1;exact U0;exact U0
def Ut:T au:=T.put .e 57 bP2
def bh8:∀f m,Ut.get f=some m ->ae.get f=some m:=gk AF F.f57
def KJ (t:Tr) (f:Nat) (a:List AV):Option AV:=match a with
 |[x]=>bif Nat.beq f 99&&cZ 64 x (eT t) then some (ι 0) else none
 |_=>none
def ckH (GL:T (List AV)) (t:Tr) (c:Nat):Bool:=gM GL Ut (KJ t) 1000 57 [eT t,.i .u64 (c:Nat)] (.b (mf t c))
def mw (GL:T (List AV)) (t:Tr):Bool:=(List.range 8).all λc=>ckH GL t c
def hh0 (GL:T (List AV)):(dC 0).all (mw GL)=true:=lR
def hh1 (GL:T (List AV)):(dC 1).all (mw GL)=true:=lR
def hh2 (GL:T (List AV)):(dC 2).all (mw GL)=true:=lR
def hh3 (GL:T (List AV)):(dC 3).all (mw GL)=true:=lR
def hh4 (GL:T (List AV)):(dC 4).all (mw GL)=true:=lR
def hh5 (GL:T (List AV)):(dC 5).all (mw GL)=true:=lR
def hh6 (GL:T (List AV)):(dC 6).all (mw GL)=true:=lR
def hh7 (GL:T (List AV)):(dC 7).all (mw GL)=true:=lR
def hh8 (GL:T (List AV)):(dC 8).all (mw GL)=true:=lR
def hh9 (GL:T (List AV)):(dC 9).all (mw GL)=true:=lR
def bh9 (GL:T (List AV)):(dC 10).all (mw GL)=true:=lR
def bi0 (GL:T (List AV)):(dC 11).all (mw GL)=true:=lR
def bi1 (GL:T (List AV)):(dC 12).all (mw GL)=true:=lR
def bi2 (GL:T (List AV)):(dC 13).all (mw GL)=true:=lR
def bi3 (GL:T (List AV)):(dC 14).all (mw GL)=true:=lR
def bi4 (GL:T (List AV)):(dC 15).all (mw GL)=true:=lR
def bi5 (GL:T (List AV)):∀t∈iy 3,mw GL t=true:=Et λi hi=>by
 rcases(show i=0∨i=1∨i=2∨i=3∨i=4∨i=5∨i=6∨i=7∨i=8∨i=9∨i=10∨i=11∨i=12∨i=13∨i=14∨i=15 by omega) with rfl|rfl|rfl|rfl|rfl|rfl|rfl|rfl|rfl|rfl|rfl|rfl|rfl|rfl|rfl|rfl;exact hh0 GL;exact hh1 GL;exact hh2 GL;exact hh3 GL;exact hh4 GL;exact hh5 GL;exact hh6 GL;exact hh7 GL;exact hh8 GL;exact hh9 GL;exact bh9 GL;exact bi0 GL;exact bi1 GL;exact bi2 GL;exact bi3 GL;exact bi4 GL
def bi6 {t} (u:cA 3 t=true):Dp P X GL (KJ t):=λf a v h j=>by
 unfold KJ at h;split at h;rename_i x;cases e:(Nat.beq f 99&&cZ 64 x (eT t));rw[e] at h;cases h;rw[e] at h;obtain⟨e1,e2⟩:=(aB _ _).mp e;obtain rfl:=qG e1;obtain rfl:=HZ _ _ _ e2;cases h;exact(A t u).chk j;cases h
def bi7 {t} (j:cA 3 t=true) {c:Nat} (u:c<8) h:bP P X GL 57 [eT t,.i .u64 (c)] h (.b (mf t c)) h:=
 dR S (hY (bh8 F) (bi6 A j) (fX.1 (bi5 GL t (Ie j)) c (mA.2 u))) (n:=9) (by simp only[aL,jB,bZ,dH]) h
def bi8 {c k:Nat} (j:c<8) (u:k<=3):aY .shr (.i .u64 (c)) (ι (k))=some (.i .u64 ((c/2^k:Nat):Int)):=by
 rcases(show c=0∨c=1∨c=2∨c=3∨c=4∨c=5∨c=6∨c=7 by omega) with rfl|rfl|rfl|rfl|rfl|rfl|rfl|rfl<;>
  rcases(show k=0∨k=1∨k=2∨k=3 by omega) with rfl|rfl|rfl|rfl<;>rfl
def Uu {g} (G:oy g) {c:Nat} (B:c<8) h:bP P X GL 95 [aI g,.i .u64 (c)] h (.b (kS g c)) h:=by
 refine ku S (λn h=>by simp only[aL,bZ,dH]) ?_ h;refine bg.intro λC E=> ?_;have nc:=G.nc;have sh:=bi8 B nc;have H:=λh=>bi7 S A F G.fam.f B h;have u:(fz g.nc).length=g.nc:=by unfold fz;rw[jm];simp;omega
 simp only[eT,eD] at H;rw[E.cB F.f95];by_cases D:c/2^g.nc=0;have j:(((c/2^g.nc:Nat):Int)=0)=True:=cJ;refine Y5 @aI.eq_1 @ar.eq_1 u sh j ?_;refine E.cN (H _) (Y0 ?_);exact⟨1,by simp only[kS,D];rfl⟩;have j:(((c/2^g.nc:Nat):Int)=0)=False:=av;refine Y5 @aI.eq_1 @ar.eq_1 u sh j ?_;have hb:Nat.beq (c/2^g.nc) 0=false:=by
  cases e:Nat.beq (c/2^g.nc) 0;rfl;exact bh (qG e) D
 exact⟨1,by simp only[kS,hb];rfl⟩
def oW (P:Program) (X:aR) (GL:T (List AV)) (g:Gr) (c:Int) (b:Bool):Prop:=∀h,bP P X GL 95 [aI g,.i .u64 c] h (.b b) h
def Uv (Q:gn ae) (F:fu ae) (D:GL=mU) {g} (G:oy g) {c b} (I:oW P X GL g c b) h:bP P X GL 51 [aI g,.i .u64 c] h (.b b) h:=by
 refine ku S (λn h=>by simp only[aL,bZ,dH]) ?_ h;refine bg.intro λC E=> ?_;have j:=λh=>Td S A Q D G h;have u:=λh=>I h;have B:=iW (g:=g);simp only[ar] at B;simp only[aI,ar] at j u;refine E.bS F.f51 (Y2 @aI.eq_1 @ar.eq_1 ?_);refine E.cN (j _) (Y0 ?_);refine E.cN (u _) (Y0 ?_);exact⟨1,rfl⟩
def bj0 (D:eV ae) (FA:DT ae) (Q:gn ae) (F:fu ae) (u:GL=mU) {g} (G:oy g) {Z} (Y:iQ g Z) (pn:1<=g.pR.length) {c} (I:oW P X GL g c true) h:bP P X GL 52 [aI g,.i .u64 c] h (ι 0) h:=by
 refine ku S (λn h=>by simp only[aL,bZ,dH]) ?_ h;refine bg.intro λC E=> ?_;have j:=λh=>bF7 S A D FA Q u G Y pn h;have B:=λh=>Uv S A Q F u G I h;have H:=iW (g:=g);simp only[ar] at H;simp only[aI,ar] at j B;refine E.bS F.f52 (Y2 @aI.eq_1 @ar.eq_1 ?_);refine E.cN (j _) (Y0 ?_);refine E.cN (B _) (Y0 ?_);exact⟨1,rfl⟩
def jV (g:Gr) (b:Bool) (L:List Ru):Nat:=if b then (if iG g L then 0 else 270) else 1
def Uw (D:eV ae) (FA:DT ae) (Q:gn ae) (FS:li ae) (F:fu ae) (H:GL=mU) {g} (G:oy g) {Z} (Y:iQ g Z) (pn:1<=g.pR.length) {c b} (I:oW P X GL g c b) {L nl} (O:L.length<=1000) h k
 (u:∀v h',(jV g b L=0 ->(h.next<=h'.next/\∀j,j<h.next ->h'.oB.get j=h.oB.get j)/\ bF8 g L (h.next+1) h' v) ->k (.tu [v,ι (jV g b L)]) h'):du C 15 [aI g,.i .u64 c,eR uC 4 nl L] h k:=by
 have B:=λh=>bF7 S A D FA Q H G Y pn h;have J:=λh=>Uv S A Q F H G I h;have op:=λh k u=>aX3 (C:=C) (nl:=nl) E FS G O h k u;have N:=iW (g:=g);simp only[ar] at N;simp only[aI,ar] at B J op;obtain⟨n0,v0,ob0⟩:=h;refine E.bS F.f15 (Y2 @aI.eq_1 @ar.eq_1 ?_);refine E.cN (B _) (Y0 ?_);refine E.cN (J _) ?_;cases b;refine Y0 ?_;exact u _ _ λe=>by cases e
 refine Y0 ?_;refine E.run (op _ _ λv h' V=> ?_);cases hb:iG g L;have e1:jV g true L=270:=by unfold jV;rw[hb];rfl
 rw[e1] at u;refine Y0 ?_;exact u _ _ λe=>by cases e
 have e1:jV g true L=0:=by unfold jV;rw[hb];rfl
 rw[e1] at u;obtain⟨⟨U,old⟩,bk⟩:=V hb;refine Y0 ?_;refine u _ _ λ_=>⟨⟨fJ (nD n0) U,λj R=> ?_⟩,bk⟩;have W:j<n0:=R;rw[old j (ui W)];exact U0
def ky (N:List Tn) (R:List (List Nat)):List AV:=[eR fG 4 true N,eR jT 1 true R]
def bj2 {g} (G:oy g) {N} (hN:N.length<=40) {R} h k
 (D:∀h',h.next<=h'.next ->(∀j,j<h.next ->h'.oB.get j=h.oB.get j) ->k .sn h')
 (J:∀t o h',N[0]? =some t ->(∃W x,t.prod=((W:Nat):Int)/\ g.pR[W]? =some x) ->h.next<=h'.next ->(∀j,j<h.next ->h'.oB.get j=h.oB.get j) ->k (.sl o 0 N.length (some N.length) 1) h'):
 du C 53 [aI g,.ag (ky N R)] h k:=by
 obtain⟨n0,v0,ob0⟩:=h;have Z:=iW (g:=g);simp only[ar] at Z;rw[E.cB F.f53];have fin:∀(H:∀t,N[0]? =some t ->0<=t.prod),∀K:AV ->AH ->Prop,(∀v h',k v h' ->K v h') ->du C 97 [.ag (qE g N.length n0 (n0+1))] ⟨n0+1+1,v0,(ob0.put n0 (.cells v0 (ar g))).put (n0+1) (.cells v0 (ky N R))⟩ K:=λH K hK=>by
  refine bh7 S E F G hN (b2:=n0) (b3:=n0+1) (rv:=eR jT 1 true R) ?_ ?_ (by show n0<n0+1+1;omega) (by show n0+1<n0+1+1;omega) K (λh' L old=>hK _ _ (D h' (by show n0<=_;have h:n0+1+1<=h'.next:=L;omega) λj B=> ?_)) (λt o h' U I L old=>hK _ _ (J t o h' U ?_ (by show n0<=_;have h:n0+1+1<=h'.next:=L;omega) λj B=> ?_));have w:(n0=n0+1)=False:=av;exact U1 w;exact U1 @ky.eq_1;have V:j<n0:=B;refine(old j (by show j<n0+1+1;omega)).trans ?_;exact U0;obtain⟨q,I⟩:=I;rcases I with ⟨h,-⟩|I;have:=H t U;omega;exact I;have V:j<n0:=B;refine(old j (by show j<n0+1+1;omega)).trans ?_;exact U0
 have Y:(n0=n0+1)=False:=av;simp only[qE,ar,ky,gw,gx] at fin;rcases N with _|⟨t,N⟩;have l0:((([]:List Tn).length:Nat):Int)=0:=rfl;refine Y3 @aI.eq_1 @ar.eq_1 @ky.eq_1 ?_;refine E.run (fin (λt h=>by cases h) _ λv h' O=> ?_);refine Y0 ?_;exact O;have lp:((0:Int)<(((t::N).length:Nat):Int))=True:=fq (by simp);have e0:sub ((t::N).flatMap fG) 0 1=some [ι t.prod]:=rfl;have z:∀h,nU h 4 0 (eR fG 4 true (t::N))= .v (.dp ((t::N).flatMap fG) 0) h:=λh=>(bG (i:=0) (by simp)).trans (by rw[ue]);by_cases H:t.prod<0;have u:(t.prod<0)=True:=fq H;refine Y9 @aI.eq_1 @ar.eq_1 @ky.eq_1 Y lp e0 z u @dw ?_;refine D _ (by show n0<=n0+1+1;omega) λj B=> ?_;have V:j<n0:=B;exact U0;have u:(t.prod<0)=False:=dQ H;refine Y9 @aI.eq_1 @ar.eq_1 @ky.eq_1 Y lp e0 z u @dw ?_;refine E.run (fin (λt' h=>by cases h;omega) _ λv h' O=> ?_);refine Y0 ?_;exact O
def mq.deep {b h' ov N R} (A:mq b h ov rv N R) (old:∀j v l,b<=j ->j<h.next ->h.oB.get j=some (.cells v l) ->∃v',h'.oB.get j=some (.cells v' l)):AM.deep 10 h' (.ag [ov,rv])=some (.ag (ky N R)):=by
 obtain⟨-,-,tt,u,B,D⟩:=A;have k:=BG (h1:=tt) (h2:=h') (λj v l G=>by obtain⟨a,b,c⟩:=u j v l G;exact old j v l a b c) 9;refine BH (n:=9) ?_;rw[aL,aL,bZ,k.1 _ _ B,k.1 _ _ D];rfl
end
end AM
