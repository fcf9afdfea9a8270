import Derived.Test.YtihgjngjidijaaaGreatDoorN29
set_option linter.all false
set_option maxHeartbeats 16000000
namespace AM
open Dg Go
noncomputable section
def Uo (t:Tn):(fG t).length=4:=rfl
def zi {n} (s:List Nat):nice.niceL n (jT s)=true:=by simp only[jT,iu,iq,ye,g9]
def ua {n} (t:Tn):nice.niceL (n+1) (fG t)=true:=by simp only[fG,iu,iq,j9,ye,dg zi,g9]
def zk (g:Gr) (p q:Int):Prop:=(p= -1/\∃j:Nat,q=(j:Int)/\ j<11)∨∃(i:Nat) (x:Pr),p=(i:Int)/\ g.pR[i]? =some x
variable {P:Program} {X:aR} {GL:T (List AV)} {ae:T au}
variable (S:aT P X GL ae) {C:aK Prop} (E:Sem P X GL ae C)
def bg9 (F:fu ae) {g:Gr} (G:ce g) {N:List Tn} {i b2 b3:Nat} {t:Tn} (ht:N[i]? =some t) (hN:N.length<=40) {rv:AV} {h:AH} (c2:cG (h.oB.get b2)=some (ar g)) (c3:cG (h.oB.get b3)=some [eR fG 4 true N,rv]) (l2:b2<h.next) (l3:b3<h.next) (k:AV ->AH ->Prop)
 (hk:∀p q ok h',(ok=true ->p=t.prod/\ zk g p q) ->h.next<=h'.next ->(∀j,j<h.next ->h'.oB.get j=h.oB.get j) ->k (.tu [ι p,ι q,.b ok]) h'):
 du C 92 [ι (i:Int),.p b3 0,.p b2 0] h k:=by
 have hi:=(eC.1 ht).1;obtain⟨n0,v0,ob0⟩:=h;dsimp only at c2 c3 l2 l3;have e4:sub (N.flatMap fG) (i*4) 4=some (fG t):=cW Uo ht (j:=0) (n:=4) ω;have db:nice 64 (eR fG 4 true N)=true:=dg ua;have dk:∀k,nice 64 (.dp (N.flatMap fG) k)=true:=λk=>by rw[fK,fE ua]
 have nkS:nice 64 (eR jT 1 true t.rem)=true:=dg zi;have nkT:nice 64 (eR dq 7 true g.tc.zipIdx)=true:=dg oM;have nkP:nice 64 (eR aM 13 true g.pR)=true:=dg iV;have hzl:g.tc.zipIdx.length=11:=by rw[ny,G.tcl]
 have z11:((11:Nat):Int)=11:=rfl;simp only[fG] at e4;simp only[ar] at c2;have z2:(b2=n0)=False:=av;have z3:(b3=n0)=False:=av;have fr:∀(v:Nat) (x y:List AV),∀j,j<n0 ->(((ob0.put n0 (.cells v0 x)).put n0 (.cells v y))).get j=ob0.get j:=λv x y j hj=>by
  have w:(j=n0)=False:=av;exact U1 w
 rw[E.cB F.f92];by_cases h1:t.prod= -1
 ·have h1':(t.prod= -1)=True:=fq h1;by_cases a1:0<=t.tok
  ·have a1':(0<=t.tok)=True:=fq a1;by_cases a2:t.tok<11
   ·have a2':(t.tok<11)=True:=fq a2;refine kJ @sF.eq_1 c2 c3 @bG @dw e4 db dk nkS nkT nkP hzl z11 z2 z3 h1' a1' a2' ?_;exact hk _ _ _ _ (λe=>⟨h1.symm,.inl ⟨rfl,t.tok.toNat,by omega,by omega⟩⟩) (by show n0<=n0+1;omega) (λj hj=>fr _ _ _ j hj)
   ·have a2':(t.tok<11)=False:=dQ a2;refine kJ @sF.eq_1 c2 c3 @bG @dw e4 db dk nkS nkT nkP hzl z11 z2 z3 h1' a1' a2' ?_;exact hk _ _ _ _ (λe=>by cases e) (by show n0<=n0+1;omega) (λj hj=>fr _ _ _ j hj)
  ·have a1':(0<=t.tok)=False:=dQ a1;refine qp @sF.eq_1 c2 c3 @bG @dw e4 db dk nkS nkT nkP hzl z11 z2 z3 h1' a1' ?_;exact hk _ _ _ _ (λe=>by cases e) (by show n0<=n0+1;omega) (λj hj=>fr _ _ _ j hj)
 ·have h1':(t.prod= -1)=False:=dQ h1;by_cases q1:0<=t.prod
  ·have q1':(0<=t.prod)=True:=fq q1;by_cases q2:t.prod<(g.pR.length:Int)
   ·have q2':(t.prod<(g.pR.length:Int))=True:=fq q2;by_cases q3:t.tok= -1
    ·have q3':(t.tok= -1)=True:=fq q3;by_cases q4:t.text=[]
     ·have q4':(t.text=[])=True:=fq q4;by_cases q5:(t.rem.length:Int)=0
      ·have q5':((t.rem.length:Int)=0)=True:=fq q5;refine Bm @sF.eq_1 c2 c3 @bG @dw e4 db dk nkS nkT nkP hzl z11 z2 z3 h1' q1' q2' q3' q4' q5' ?_;exact hk _ _ _ _ (λe=>⟨rfl,.inr ⟨t.prod.toNat,g.pR[t.prod.toNat]'ω,by omega,cE ω⟩⟩) (by show n0<=n0+1;omega) (λj hj=>fr _ _ _ j hj)
      ·have q5':((t.rem.length:Int)=0)=False:=dQ q5;refine Bm @sF.eq_1 c2 c3 @bG @dw e4 db dk nkS nkT nkP hzl z11 z2 z3 h1' q1' q2' q3' q4' q5' ?_;exact hk _ _ _ _ (λe=>by cases e) (by show n0<=n0+1;omega) (λj hj=>fr _ _ _ j hj)
     ·have q4':(t.text=[])=False:=dQ q4;refine qr @sF.eq_1 c2 c3 @bG @dw e4 db dk nkS nkT nkP hzl z11 z2 z3 h1' q1' q2' q3' q4' ?_;exact hk _ _ _ _ (λe=>by cases e) (by show n0<=n0+1;omega) (λj hj=>fr _ _ _ j hj)
    ·have q3':(t.tok= -1)=False:=dQ q3;refine qq @sF.eq_1 c2 c3 @bG @dw e4 db dk nkS nkT nkP hzl z11 z2 z3 h1' q1' q2' q3' ?_;exact hk _ _ _ _ (λe=>by cases e) (by show n0<=n0+1;omega) (λj hj=>fr _ _ _ j hj)
   ·have q2':(t.prod<(g.pR.length:Int))=False:=dQ q2;refine kJ @sF.eq_1 c2 c3 @bG @dw e4 db dk nkS nkT nkP hzl z11 z2 z3 h1' q1' q2' ?_;exact hk _ _ _ _ (λe=>by cases e) (by show n0<=n0+1;omega) (λj hj=>fr _ _ _ j hj)
  ·have q1':(0<=t.prod)=False:=dQ q1;refine qp @sF.eq_1 c2 c3 @bG @dw e4 db dk nkS nkT nkP hzl z11 z2 z3 h1' q1' ?_;exact hk _ _ _ _ (λe=>by cases e) (by show n0<=n0+1;omega) (λj hj=>fr _ _ _ j hj)
def bh0 (F:fu ae) {g:Gr} (G:ce g) {p q:Int} (hg:zk g p q):∃s:Bool×Int,∀h,bP P X GL 182 [aI g,ι p,ι q] h (.ag [.b s.1,ι s.2]) h:=by
 rcases hg with ⟨rfl,j,rfl,hj⟩|⟨i,x,rfl,hx⟩
 ·refine⟨(true,j),λh=>dR S (n:=9) ?_ (by rw[aL,aL,aL,bZ,kq (n:=6),dH,dH]) h⟩;refine bg.intro λC E=> ?_;refine E.bS F.f182 (Y4 @JN.eq_1 @aI.eq_1 @ar.eq_1 @h0.eq_1 ?_);exact⟨2,rfl⟩
 ·refine⟨(false,x.left),λh=>dR S (n:=9) ?_ (by rw[aL,aL,aL,bZ,kq (n:=6),dH,dH]) h⟩;refine bg.intro λC E=> ?_;have hi:=(eC.1 hx).1;have pl:=G.pl;have e1:sub (g.pR.flatMap aM) (i*13+1) 1=some [ι (x.left:Int)]:=by
   have:=cW kr hx (j:=1) (n:=1) ω;simpa[aM] using this
  have n0:((i:Int)<0)=False:=av;refine E.bS F.f182 (Y7 @JN.eq_1 @aI.eq_1 @ar.eq_1 @h0.eq_1 @bG e1 n0 ?_);exact⟨2,rfl⟩
def BM:aw:=eg (sE 93 2093871)
def Fd:aw:=(λx=>eg (pt 15 x (sE 93 258863))) BM
abbrev BN:au:=(λy=>eg (bE (pg 93) λo=>pt 258863 y o)) Fd
def bh1:JM=BN:=by unfold JM BN Fd BM;rfl
def ry (v:AV) (r:List (Bool×Nat)):Prop:=(r=[]/\ v= .sn)∨∃p:List (Bool×Nat),∃k,v= .ds (p.flatMap ba) (k*2) (p.length-k) 2/\ k<=p.length/\ r=p.drop k/\ p.length<=8
def ry.nice {v:AV} {r:List (Bool×Nat)} (H:ry v r):nice 64 v=true/\ ew v=true/\ cellsOf v=[v]/\ cellsO v=some [v]/\ r.length<=8/\∀h,kg h v= .v (ι (r.length:Int)) h:=by
 rcases H with ⟨rfl,rfl⟩|⟨p,k,rfl,hk,rfl,h8⟩
 ·exact⟨rfl,rfl,rfl,rfl,by simp,λ_=>rfl⟩
 ·refine⟨by rw[nN];exact fE jE p,rfl,rfl,rfl,by rw[sW];omega,λh=> ?_⟩;show ay.v (ι ((p.length-k:Nat):Int)) h=_;rw[sW]
def ry.cons {v:AV} {s:Bool×Nat} {r:List (Bool×Nat)} (H:ry v (s::r)):∃c off n,v= .ds c off (n+1) 2/\ sub c off 2=some (ba s)/\ ry (.ds c (off+1*2) n 2) r:=by
 rcases H with ⟨h,-⟩|⟨p,k,rfl,hk,e,h8⟩
 ·cases h
 ·have hl:k<p.length:=by
   have:=congrArg List.length e;rw[sW,gJ] at this;omega
  have hp:p[k]? =some s:=by
   have:=congrArg (λl=>l[0]?) e;simp only[Lp,mB,vG] at this;exact this.symm
  refine⟨p.flatMap ba,k*2,p.length-k-1,by rw[show p.length-k-1+1=p.length-k by omega],cW gO hp (j:=0) (n:=2) ω,.inr ⟨p,k+1,by rw[show(k+1)*2=k*2+1*2 by omega,show p.length-(k+1)=p.length-k-1 by omega],by omega,?_,h8⟩⟩;have:=congrArg (List.drop 1) e;rw[ud] at this;exact this
def bh2 {rn:Bool} {p:List (Bool×Nat)} (h:p.length<=8):ry (eR ba 2 rn p) p:=by
 cases p with
 |nil=>
  cases rn
  ·exact .inr ⟨[],0,rfl,oi _,rfl,h⟩
  ·exact .inl ⟨rfl,rfl⟩
 |cons a p=>exact .inr ⟨a::p,0,rfl,oi _,rfl,h⟩
def pJ (e:Nat×AV):List AV:=[ι (e.1:Int),e.2]
def Fe (e:Nat×AV):(pJ e).length=2:=rfl
def rB (b:Nat) (h:AH) (v:AV) (K:List (Nat×AV)):Prop:=(K=[]/\ v= .sn)∨∃so junk,v= .sl so 0 K.length none 2/\ b<=so/\ so<h.next/\ cG (h.oB.get so)=some (K.flatMap pJ++junk)
def Up {K:List (Nat×AV)} {e:Nat×AV} {junk:List AV}:sub ((K++[e]).flatMap pJ++junk) (K.length*2) 1=some [ι (e.1:Int)]/\ sub ((K++[e]).flatMap pJ++junk) (K.length*2+1) 1=some [e.2]/\∀v,dW [v] ((K++[e]).flatMap pJ++junk) (K.length*2+1)=some ((K++[(e.1,v)]).flatMap pJ++junk):=by
 have e1:(K++[e]).flatMap pJ++junk=K.flatMap pJ++(ι (e.1:Int)::e.2::junk):=by
  rw[jl,pO,nz];rfl
 have hl:(K.flatMap pJ).length=K.length*2:=kh Fe K;rw[e1];refine⟨qY ?_,qY ?_,λv=> ?_⟩
 ·rw[rK ω,hl,Nat.sub_self];rfl
 ·rw[rK ω,hl,show K.length*2+1-K.length*2=1 by omega];rfl
 ·rw[←hl,Ka,jl,pO,nz];rfl
def bh3 {h:AH} {so m o2:Nat} {old junk new:List AV} (h1:cG (h.oB.get so)=some (old++junk)) (hl:old.length=m*2) (h2:cG (h.oB.get o2)=some new) (hn:new.length=2) (hs:cF new=true) (hb:m+1<=1048576):
 gU h 2 (.sl so 0 m none 2) (.sl o2 0 1 (some 1) 2)= .v (.sl h.next 0 (m+1) none 2) ⟨h.next+1,h.ver+1,(h.oB.put so .gone).put h.next (.cells (h.ver+1) (old++new))⟩:=by
 have el:eI h 2 (.sl o2 0 1 (some 1) 2)=some new:=wH h2 (mM ω);have e0:gU h 2 (.sl so 0 m none 2) (.sl o2 0 1 (some 1) 2)=gD h (.sl so 0 m none 2) 1 new 2:=by unfold gU;rw[el];rfl
 rw[e0];have e:gD h (.sl so 0 m none 2) 1 new 2=(match h.cells so with
  |none=>ay.bad
  |some l=>fN (m+1) λneed=>bif !(Nat.beq 2 2&&(Nat.ble need 1048576&&cF new)) then ay.bad else
   match sub l 0 (m*2) with
    |some old=>match fy old new with
     |some l=>h.put so .gone λh=>h.new (.cells h.ver l) λo h=> .v (.sl o 0 need none 2) h
     |none=> .bad
    |none=> .bad):=rfl
 have h1':h.cells so=some (old++junk):=h1;have sb:sub (old++junk) 0 (m*2)=some old:=by rw[nH,aF (by rw[dy];omega),List.drop_zero,←hl,List.take_left]
 rw[e,h1'];simp only[dT,bu,dm,hb,hs,mC,g9,jk,eU,sb,jz,AH.put_eq,AH.new_eq]
def bh4 {ev:MA ->AV} {h:AH} {x b:MA} {so m k:Nat} (h1:ev x= .sl so 0 m none 2) (h2:fP (ev b)=some k) (hk:k<=m):step ev h (.slc 2 x none (some b) none)= .v (.sl so 0 k none 2) h:=by
 show(match ev x with
  | .sl o off n cap esz=>bif !(Nat.beq esz 2) then ay.bad else match cap with
   |some c=>match d7 n c (nO ev none) (nO ev (some b)) (nO ev none) with
    |some (l,r,m)=>fN (off+l*esz) λoff=>fN (r-l) λn=>fN (m-l) λc=>ay.v (.sl o off n (some c) esz) h
    |none=>ay.bad
   |none=>match d7 n n (nO ev none) (nO ev (some b)) none with
    |some (l,r,_)=>fN (off+l*esz) λoff=>fN (r-l) λn=>ay.v (.sl o off n none esz) h
    |none=>ay.bad
  | .ds c off n esz=>bif !(Nat.beq esz 2) then ay.bad else match d7 n n (nO ev none) (nO ev (some b)) none with
   |some (l,r,_)=>fN (off+l*esz) λoff=>fN (r-l) λn=>ay.v (.ds c off n esz) h
   |none=>ay.bad
  | .sn=>match d7 0 0 (nO ev none) (nO ev (some b)) (nO ev none) with|some _=>ay.v .sn h|none=>ay.bad
  |_=>ay.bad)=_
 rw[h1];have e:d7 m m (nO ev none) (nO ev (some b)) none=some (0,k,m):=by
  rw[uO,uP,h2];show(bif Nat.ble m m&&Nat.ble k m&&Nat.ble 0 k then some (0,k,m) else none)=_;have q1:Nat.ble m m=true:=by rw[dm];simp
  have q2:Nat.ble k m=true:=by rw[dm];simpa using hk
  have q3:Nat.ble 0 k=true:=rfl;rw[q1,q2,q3];rfl
 simp only[e,dT];simp
def zm (n:Nat) (K:List (Nat×AV)):Prop:=∀e∈K,e.1<n/\∃r,ry e.2 r
def KI (K:List (Nat×AV)):Prop:=K=[]∨∃K' e s r,K=K'++[e]/\ ry e.2 (s::r)
def Uq {α:Type} (K:List α):K=[]∨∃K' e,K=K'++[e]:=by
 rcases List.eq_nil_or_concat K with h|⟨a,b,h⟩
 ·exact .inl h
 ·exact .inr ⟨a,b,by rw[h,List.concat_eq_append]⟩
def bh5 {C:aK Prop} (E:Sem P X GL ae C) {n i oo b:Nat} (hi:i<n) (hn:n<=40) (lb:oo<b) {S:List Fr} {KK:K Prop} {τ:T AV} {h:AH} {K:List (Nat×AV)} {sv:AV} {L:List Nat} (t3:τ.get 3=some (.sl oo 0 n (some n) 1)) (t4:τ.get 4=some sv) (t5:τ.get 5=some (ι (i:Int)))
 (hL:L.length=n) (co:cG (h.oB.get oo)=some (L.flatMap cI)) (hS:rB b h sv K) (hE:zm n K) (hK:K.length<=41)
 (fin:∀(τ':T AV) (h':AH) (sv':AV) (K':List (Nat×AV)) (L':List Nat),(∀j,j<=90 ->j≠4 ->τ'.get j=τ.get j) ->τ'.get 4=some sv' ->L'.length=n ->cG (h'.oB.get oo)=some (L'.flatMap cI) ->rB b h' sv' K' ->zm n K' ->KI K' ->K'.length<=K.length ->h'.next=h.next ->(∀j,j≠oo ->h'.oB.get j=h.oB.get j) ->gV C .normal S KK τ' h'):
 df C BM S KK τ h:=by
 unfold BM;refine Y3 t3 t4 t5 ?_;refine za E.ok (λx:List (Nat×AV)=>x.length) (λK' τ' h'=>(∀j,j<=90 ->j≠4 ->τ'.get j=τ.get j)/\ (∃sv',τ'.get 4=some sv'/\ rB b h' sv' K')/\ (∃L',L'.length=n/\ cG (h'.oB.get oo)=some (L'.flatMap cI))/\ zm n K'/\ K'.length<=K.length/\ h'.next=h.next/\∀j,j≠oo ->h'.oB.get j=h.oB.get j) ?_ K _ _ ⟨λ_ _ _=>rfl,⟨sv,t4,hS⟩,⟨L,hL,co⟩,hE,bB _,rfl,λ_ _=>rfl⟩;rintro K1 τ1 ⟨n1,v1,ob⟩ ⟨tt,⟨sv1,u4,hS1⟩,⟨L1,hL1,co1⟩,hE1,hK1,hnx,old⟩ ih;have u3:=(tt 3 ω ω).trans t3;have u5:=(tt 5 ω ω).trans t5;dsimp only at co1 hnx;rcases Uq K1 with rfl|⟨K2,e,rfl⟩
 ·have e0:(sv1= .sn)∨∃so,sv1= .sl so 0 0 none 2:=by
   rcases hS1 with ⟨-,h⟩|⟨so,junk,h,-⟩
   ·exact .inl h
   ·exact .inr ⟨so,h⟩
  have l0:∀h,kg h sv1= .v (ι 0) h:=λh=>by rcases e0 with rfl|⟨so,rfl⟩<;>rfl
  refine Y4 u3 u4 u5 l0 ?_;refine fin _ _ sv1 [] L1 (λj hj hj4=> ?_) ?_ hL1 co1 hS1 hE1 (.inl rfl) (oi _) hnx old
  ·exact W0 (tt j hj hj4)
  ·exact U1 u4
 ·rcases hS1 with ⟨h,-⟩|⟨so,junk,rfl,s1,s2,s3⟩
  ·simp at h
  obtain⟨eN,r,hr⟩:=hE1 e (by simp);obtain⟨q1,q2,q3⟩:=Up (K:=K2) (e:=e) (junk:=junk);obtain⟨r1,r2,r3,r4,r5,r6⟩:=hr.nice;have lK0:(K2++[e]).length=K2.length+1:=by simp
  have hK0:K2.length+1<=K.length:=by rw[←lK0];exact hK1
  have sm:aY .sub (ι ((K2.length+1:Nat):Int)) (ι 1)=some (ι (K2.length:Int)):=qV (a:=K2.length+1) (b:=1) ω;have lK:(K2++[e]).length=K2.length+1:=by simp
  rw[lK] at u4;have hK1':K2.length+1<=K.length:=by rw[←lK];exact hK1
  dsimp only at s3;have p1:((0:Int)<((K2.length+1:Nat):Int))=True:=cJ;have p2:(K2.length<K2.length+1)=True:=cJ;cases r with
  |nil=>
   have r6':∀h,kg h e.2= .v (ι 0) h:=r6;have hs1:∀(τ:T AV) h,az C τ (.t 116)= .sl so 0 (K2.length+1) none 2 ->az C τ (.t 119)=ι (K2.length:Int) ->step (az C τ) h (.slc 2 (.t 116) none (some (.t 119)) none)= .v (.sl so 0 K2.length none 2) h:=λτ h h1 h2=>bh4 h1 (by rw[h2];exact tC) ω;have ov:dW [AV.i .i64 ((i+1:Nat):Int)] (L1.flatMap cI) e.1=some ((L1.set e.1 (i+1)).flatMap cI):=E5 ω;have p3:(e.1<n)=True:=fq eN;have p4:(so=oo)=False:=av;refine sD u3 u4 u5 s3 co1 sm p1 p2 q1 q2 r6' hs1 ov p3 p4 @bK ?_;have hm:∀x∈K2,x∈K2++[e]:=λx hx=>xI _ hx;refine ih K2 _ _ (by show K2.length<(K2++[e]).length;omega) ⟨λj hj hj4=>W0 (tt j hj hj4),⟨_,U0,.inr ⟨so,pJ e++junk,rfl,s1,s2,?_⟩⟩,⟨L1.set e.1 (i+1),by rw[vK,hL1],U0⟩,λx hx=>hE1 x (hm x hx),by omega,hnx,λj hj=> ?_⟩
   ·rw[jl,pO,nz] at s3;exact wW p4 s3
   ·have w:(j=oo)=False:=dQ hj;exact wW w (old j hj)
  |cons s r=>
   have r7:(((s::r).length:Int)=0)=False:=dQ (by simp;omega);refine iU u3 u4 u5 s3 co1 sm p1 p2 q1 q2 r6 r7 ?_;refine fin _ _ (.sl so 0 (K2.length+1) none 2) (K2++[e]) L1 (λj hj hj4=>W0 (tt j hj hj4)) (U1 u4) hL1 co1 (.inr ⟨so,junk,by rw[lK],s1,s2,s3⟩) hE1 (.inr ⟨K2,e,s,r,rfl,hr⟩) ω hnx old
def qE (g:Gr) (n b2 b3:Nat):List AV:=ar g++[ι (n:Int),.f 92 [] [.p b3 0,.p b2 0]]
def Ur {b:Nat} {h:AH} {sv:AV} {K:List (Nat×AV)} {i:Nat} {rv:AV} (hS:rB b h sv K) (hb:b<=h.next) (hK:K.length<=1000) (hr:ew rv=true) {o2:Nat} (c2:cG (h.oB.get o2)=some (pJ (i,rv))):
 ∃h',gU h 2 sv (.sl o2 0 1 (some 1) 2)= .v (.sl h.next 0 (K.length+1) none 2) h'/\ h'.next=h.next+1/\ rB b h' (.sl h.next 0 (K.length+1) none 2) (K++[(i,rv)])/\∀j,j<b ->h'.oB.get j=h.oB.get j:=by
 have hs:cF (pJ (i,rv))=true:=by unfold pJ;rw[lT,lT,qR,hr];rfl
 have lK:(K++[(i,rv)]).length=K.length+1:=by simp
 rcases hS with ⟨rfl,rfl⟩|⟨so,junk,rfl,s1,s2,s3⟩
 ·refine⟨_,by rw[IE,c2,IF,aF ⟨Fe _,hs⟩];rfl,rfl,.inr ⟨h.next,[],rfl,hb,qI _,?_⟩,λj hj=> ?_⟩
  ·show cG ((h.oB.put h.next _).get h.next)=_;rw[T.get_put,aF rfl];rfl
  ·show(h.oB.put h.next _).get j=_;rw[T.get_put,aD ω]
 ·refine⟨_,bh3 s3 (kh Fe K) c2 (Fe _) hs ω,rfl,.inr ⟨h.next,[],by rw[lK],hb,qI _,?_⟩,λj hj=> ?_⟩
  ·show cG (((h.oB.put so _).put h.next _).get h.next)=_;rw[T.get_put,aF rfl,jl,pO,lG];rfl
  ·show((h.oB.put so _).put h.next _).get j=_;rw[T.get_put,aD ω,T.get_put,aD ω]
def Us {C:aK Prop} (E:Sem P X GL ae C) {g:Gr} (G:ce g) {p q:Int} (hg:zk g p q) {n i n0 b b2 b3:Nat} (hi:i<n) (hn:n<=40) (lb0:n0<b) (lb:n0+1<b) {S:List Fr} {KK:K Prop} {τ:T AV} {h:AH} {K:List (Nat×AV)} {sv:AV} {L:List Nat} (t1:τ.get 1=some (.p n0 0)) (t3:τ.get 3=some (.sl (n0+1) 0 n (some n) 1)) (t4:τ.get 4=some sv) (t5:τ.get 5=some (ι (i:Int))) (t6:τ.get 6=some (ι p))
 (c1:cG (h.oB.get n0)=some (qE g n b2 b3)) (hL:L.length=n) (co:cG (h.oB.get (n0+1))=some (L.flatMap cI)) (hS:rB b h sv K) (hb:b<=h.next) (hE:zm n K) (hK:K.length<=i)
 (fin:∀(τ':T AV) (h':AH) (sv':AV) (K':List (Nat×AV)) (L':List Nat),τ'.get 1=some (.p n0 0) ->τ'.get 3=some (.sl (n0+1) 0 n (some n) 1) ->τ'.get 24=τ.get 24 ->τ'.get 25=τ.get 25 ->τ'.get 4=some sv' ->L'.length=n ->cG (h'.oB.get (n0+1))=some (L'.flatMap cI) ->rB b h' sv' K' ->zm n K' ->KI K' ->K'.length<=i+1 ->h.next<=h'.next ->(∀j,j<b ->j≠n0+1 ->h'.oB.get j=h.oB.get j) ->gV C .normal S KK τ' h'):
 df C Fd S KK τ h:=by
 obtain⟨m,v,ob⟩:=h;dsimp only at c1 co hb;simp only[qE,ar,gw,gx] at c1;have pl:=G.pl;have db:nice 64 sv=true:=by rcases hS with ⟨-,rfl⟩|⟨so,junk,rfl,-⟩<;>rfl
 have st:∀(rv:AV) h,h=(⟨m+1,v,ob.put m (.cells v [ι (i:Int),rv])⟩:AH) ->rB b h sv K:=λrv h e=>by
  subst e;rcases hS with h|⟨so,junk,h1,h2,h3,h4⟩
  ·exact .inl h
  ·have h3':so<m:=h3;exact .inr ⟨so,junk,h1,h2,ui h3',by have w:(so=m)=False:=av;exact wW w h4⟩
 have tail:∀(rv:AV) (r:List (Bool×Nat)) (τ2:T AV) (h2:AH),ry rv r ->(∀j,j<=60 ->j≠4 ->j≠11 ->τ2.get j=τ.get j) ->τ2.get 4=some (.sl (m+1) 0 (K.length+1) none 2) ->h2.next=m+1+1 ->rB b h2 (.sl (m+1) 0 (K.length+1) none 2) (K++[(i,rv)]) ->(∀j,j<b ->h2.oB.get j=(ob.put m (.cells v [ι (i:Int),rv])).get j) ->df C BM S KK τ2 h2:=λrv r τ2 h2 hr tt u4 pn pst pfr=>by
  have fr:∀j,j<b ->h2.oB.get j=ob.get j:=λj hj=>by
   rw[pfr j hj];have w:(j=m)=False:=av;exact U1 w
  refine bh5 (b:=b) (oo:=n0+1) (K:=K++[(i,rv)]) (L:=L) E hi hn lb ((tt 3 ω ω ω).trans t3) u4 ((tt 5 ω ω ω).trans t5) hL (by rw[fr (n0+1) lb];exact co) pst (λe he=> ?_) (by rw[dy,lF];omega) λτ' h' sv' K' L' tt2 w4 hL' co' hS' hE' hT' hK' hn' fr'=> ?_
  ·rcases fO.1 he with he|he
   ·exact hE e he
   ·rw[fk.1 he];exact⟨hi,r,hr⟩
  ·rw[dy,lF] at hK';exact fin τ' h' sv' K' L' ((tt2 1 ω ω).trans ((tt 1 ω ω ω).trans t1)) ((tt2 3 ω ω).trans ((tt 3 ω ω ω).trans t3)) ((tt2 24 ω ω).trans (tt 24 ω ω ω)) ((tt2 25 ω ω).trans (tt 25 ω ω ω)) w4 hL' co' hS' hE' hT' ω (by rw[hn',pn];show m<=m+1+1;omega) λj hj hj1=>(fr' j hj1).trans (fr j hj)
 unfold Fd;rcases hg with ⟨rfl,j,rfl,hj⟩|⟨pi,x,rfl,hx⟩
 ·obtain⟨h2,pe,pn,pst,pfr⟩:=Ur (i:=i) (rv:= .sn) (o2:=m) (st _ _ rfl) (by show b<=m+1;omega) ω rfl (by show cG ((ob.put m _).get m)=_;rw[T.get_put,aF rfl];rfl);refine Y8 t1 t3 t4 t5 t6 c1 @tM pe ?_;exact tail .sn [] _ h2 (.inl ⟨rfl,rfl⟩) (λj h1 h2 h3=>U0) U0 pn pst pfr
 ·have hpi:=(eC.1 hx).1;have x8:=(G.p x (dI hx)).len;have hr:ry (eR ba 2 x.rn x.right) x.right:=bh2 x8;obtain⟨r1,r2,r3,r4,-,-⟩:=hr.nice;have e2:sub (g.pR.flatMap aM) (pi*13+2) 1=some [eR ba 2 x.rn x.right]:=cW kr hx (j:=2) (n:=1) ω;have nkP:nice 64 (eR aM 13 true g.pR)=true:=dg iV;have nkQ:∀k,nice 64 (.dp (g.pR.flatMap aM) k)=true:=λk=>by rw[fK,fE iV]
  have p0:(0<=(pi:Int))=True:=cJ;obtain⟨h2,pe,pn,pst,pfr⟩:=Ur (i:=i) (rv:=eR ba 2 x.rn x.right) (o2:=m) (st _ _ rfl) (by show b<=m+1;omega) ω r2 (by show cG ((ob.put m _).get m)=_;rw[T.get_put,aF rfl];rfl);refine qk t1 t3 t4 t5 t6 c1 @tM pe @bG e2 nkP nkQ p0 r1 ?_;exact tail _ _ _ h2 hr (λj h1 h2 h3=>U0) U0 pn pst pfr
def bh6 (a b:Bool) (x y:Int):∃r,eH 6 (.ag [(0,1,false,(.lf .b)),(1,1,false,(.lf .i))]) (.ag [.b a,ι x]) (.ag [.b b,ι y])=some r:=by
 have h:eH 6 (.ag [(0,1,false,(.lf .b)),(1,1,false,(.lf .i))]) (.ag [.b a,ι x]) (.ag [.b b,ι y])=(match (some (a==b):Option Bool) with
  |some true=>(match (some (eO x y):Option Bool) with|some true=>some true|o=>o)
  |o=>o):=by cases a<;>cases b<;>rfl
 rw[h];cases (a==b)<;>cases eO x y<;>exact⟨_,rfl⟩
def bh7 (F:fu ae) {g:Gr} (G:ce g) {N:List Tn} (hN:N.length<=40) {b2 b3:Nat} {rv:AV} {h:AH} (c2:cG (h.oB.get b2)=some (ar g)) (c3:cG (h.oB.get b3)=some [eR fG 4 true N,rv]) (l2:b2<h.next) (l3:b3<h.next) (k:AV ->AH ->Prop)
 (hk0:∀h',h.next<=h'.next ->(∀j,j<h.next ->h'.oB.get j=h.oB.get j) ->k .sn h')
 (hk1:∀t o h',N[0]? =some t ->(∃q,zk g t.prod q) ->h.next<=h'.next ->(∀j,j<h.next ->h'.oB.get j=h.oB.get j) ->k (.sl o 0 N.length (some N.length) 1) h'):
 du C 93 [.ag (qE g N.length b2 b3)] h k:=by
 have f93:ae.get 93=some BN:=by rw[←bh1];exact F.f93
 obtain⟨n0,v0,ob0⟩:=h;dsimp only at c2 c3 l2 l3;have bq:=iW (g:=g);simp only[ar] at bq;rw[yN E.ok (E.get f93)];rcases vF N.length with hz|hz
 ·have z0:((N.length:Int)=0)=True:=cJ;refine Y5 @BN.eq_1 @qE.eq_1 @ar.eq_1 bq z0 ?_;refine hk0 _ (by show n0<=n0+1;omega) λj hj=> ?_;have bF:j<n0:=hj;have w:(j=n0)=False:=av;exact U1 w
 have z0:((N.length:Int)=0)=False:=av;have z1:((2000000:Int)<(N.length:Int))=False:=av;have z2:(N.length<=1048576)=True:=cJ;refine Y8 @BN.eq_1 @qE.eq_1 @ar.eq_1 bq z0 z1 z2 @Uc ?_;refine fj E.ok N.length (λi τ h=>τ.get 1=some (.p n0 0)/\ τ.get 3=some (.sl (n0+1) 0 N.length (some N.length) 1)/\ τ.get 24=some (ι (N.length:Int))/\ τ.get 25=some (ι (i:Int))/\ n0+2<=h.next/\ (∀j,j<n0 ->h.oB.get j=ob0.get j)/\ cG (h.oB.get n0)=some (qE g N.length b2 b3)/\
  (∃L:List Nat,L.length=N.length/\ cG (h.oB.get (n0+1))=some (L.flatMap cI))/\ (∃sv K,τ.get 4=some sv/\ rB (n0+2) h sv K/\ zm N.length K/\ KI K/\ K.length<=i)/\ (1<=i ->∃t,N[0]? =some t/\∃q,zk g t.prod q)) ?_ ?_ _ _ ⟨?_,?_,?_,?_,bB _,λj hj=> ?_,?_,⟨List.replicate N.length 0,Cs,?_⟩,⟨.sn,[],?_,.inl ⟨rfl,rfl⟩,λe he=>(by cases he),.inl rfl,bB _⟩,λh=>by omega⟩
 ·rintro i τ ⟨m,v,ob⟩ hi ⟨t1,t3,t24,t25,hn,old,c1,⟨L,hL,co⟩,⟨sv,K,t4,hS,hE,hT,hK⟩,h1⟩ ih;dsimp only at c1 co old hn;have c1':=c1;simp only[qE,ar,gw,gx] at c1;have ht:N[i]? =some N[i]:=cE hi;generalize N[i]=t at ht;have hii:((i:Int)<(N.length:Int))=True:=cJ;refine Y7 t1 t3 t4 t24 t25 c1 hii ?_;refine E.run (bg9 E F G ht hN (by rw[old b2 l2];exact c2) (by rw[old b3 l3];exact c3) (by show b2<m;omega) (by show b3<m;omega) _ λp q ok h2 aC hn2 eG=> ?_);obtain⟨n2,v2,aJ⟩:=h2;have hn2':m<=n2:=hn2;dsimp only at eG;have d1:cG (aJ.get n0)=some (qE g N.length b2 b3):=by rw[eG n0 ω];exact c1'
  have d1':=d1;simp only[qE,ar,gw,gx] at d1;have fr:∀j,j<n0 ->aJ.get j=ob0.get j:=λj hj=>(eG j ω).trans (old j hj);cases ok with
  |false=>
   refine Y6 t1 t3 t4 t24 t25 d1 ?_;exact hk0 _ (by show n0<=n2;omega) fr
  |true=>
   obtain⟨hp,hgt⟩:=aC rfl;subst hp;obtain⟨s,hs⟩:=bh0 S F G hgt;simp only[aI,ar] at hs;have h1':1<=i+1 ->∃t,N[0]? =some t/\∃q,zk g t.prod q:=λ_=>by
    rcases vF i with e|e
    ·subst e;exact⟨t,ht,q,hgt⟩
    ·exact h1 e
   have co2:cG (aJ.get (n0+1))=some (L.flatMap cI):=by rw[eG (n0+1) ω];exact co
   have hS2:rB (n0+2) ⟨n2,v2,aJ⟩ sv K:=by
    rcases hS with h|⟨so,junk,e1,e2,e3,e4⟩
    ·exact .inl h
    ·have e3':so<m:=e3;exact .inr ⟨so,junk,e1,e2,by show so<n2;omega,by rw[show aJ.get so=ob.get so from eG so ω];exact e4⟩
   rcases Uq K with rfl|⟨K2,e,rfl⟩
   ·have e0:(sv= .sn)∨∃so,sv= .sl so 0 0 none 2:=by
     rcases hS with ⟨-,h⟩|⟨so,junk,h,-⟩
     ·exact .inl h
     ·exact .inr ⟨so,h⟩
    have l0:∀h,kg h sv= .v (ι 0) h:=λh=>by rcases e0 with rfl|⟨so,rfl⟩<;>rfl
    have s1:aY .sub (ι 0) (ι 1)=some (ι (-1)):=rfl;rcases vF i with hi0|hi0
    ·have i0:((0:Int)<(i:Int))=False:=av;refine Y8 t1 t3 t4 t24 t25 d1 bq i0 ?_;refine E.cN (hs _) (Y8 t1 t3 t4 t24 t25 d1 l0 s1 ?_);refine Us (b:=n0+2) (K:=[]) (L:=L) (b2:=b2) (b3:=b3) (sv:=sv) (n0:=n0) E G hgt hi hN ω ω ?_ ?_ ?_ ?_ ?_ ?_ hL ?_ ?_ (by show n0+2<=n2+1;omega) (λe he=>by cases he) (oi _) λτ' h' sv' K' L' w1 w3 w24 w25 w4 hL' co' hS' hE' hT' hK' hn' fr'=> ?_
     ·exact U1 t1
     ·exact U1 t3
     ·exact U1 t4
     ·exact U0
     ·exact U0
     ·have w:(n0=n2)=False:=av;exact wW w d1'
     ·have w:(n0+1=n2)=False:=av;exact wW w co2
     ·rcases hS2 with h|⟨so,junk,e1,e2,e3,e4⟩
      ·exact .inl h
      ·have e3':so<n2:=e3;have w:(so=n2)=False:=av;exact .inr ⟨so,junk,e1,e2,by show so<n2+1;omega,wW w e4⟩
     ·obtain⟨n3,v3,cC⟩:=h';have hn3:n2+1<=n3:=hn';have u24:τ'.get 24=some (ι (N.length:Int)):=w24.trans (U1 t24);have u25:τ'.get 25=some (ι (i:Int)):=w25.trans (U1 t25);have f3:∀j,j<n0+2 ->j≠n0+1 ->cC.get j=aJ.get j:=λj hj hj1=>(fr' j hj hj1).trans (by
       have w:(j=n2)=False:=av;exact U1 w)
      refine Y6 w1 w3 w4 u24 u25 @bK ?_;refine ih _ _ ⟨?_,?_,?_,?_,by show n0+2<=n3;omega,λj hj=>(f3 j ω ω).trans (fr j hj),(by rw[show(AH.mk n3 v3 cC).oB.get n0=aJ.get n0 from f3 n0 ω ω];exact d1'),⟨L',hL',co'⟩,⟨sv',K',?_,hS',hE',hT',hK'⟩,h1'⟩
      ·exact U1 w1
      ·exact U1 w3
      ·exact U1 u24
      ·exact U0
      ·exact U1 w4
    ·have i0:((0:Int)<(i:Int))=True:=cJ;refine Y9 t1 t3 t4 t24 t25 d1 bq i0 l0 ?_;exact hk0 _ (by show n0<=n2;omega) fr
   ·rcases hS2 with ⟨h,-⟩|⟨so,junk,rfl,e1,e2,e3⟩
    ·simp at h
    obtain⟨s',r',hr⟩:∃s' r',ry e.2 (s'::r'):=by
     rcases hT with h|⟨K',e',s',r',h,hr⟩
     ·simp at h
     ·obtain⟨-,h⟩:=List.append_inj' h rfl;injection h with h;subst h;exact⟨s',r',hr⟩
    obtain⟨cs,off,n',he,hsb,cy⟩:=hr.cons;obtain⟨r1,r2,r3,r4,r5,r6⟩:=hr.nice;obtain⟨x1,x2,x3,x4,-,-⟩:=cy.nice;obtain⟨q1,q2,q3⟩:=Up (K:=K2) (e:=e) (junk:=junk);have e2':so<n2:=e2;have lK:(K2++[e]).length=K2.length+1:=by simp
    rw[lK] at t4;dsimp only at e3;have sm:aY .sub (ι ((K2.length+1:Nat):Int)) (ι 1)=some (ι (K2.length:Int)):=qV (a:=K2.length+1) (b:=1) ω;have p1:((0:Int)<=(K2.length:Int))=True:=cJ;have p2:(K2.length<K2.length+1)=True:=cJ;have p3:(((K2.length+1:Nat):Int)=0)=False:=av;obtain⟨rr,hrr⟩:=bh6 s.1 s'.1 s.2 (s'.2:Int);simp only[ba] at hsb;have nc:nice 64 (.dp cs off)=true:=by
     rw[he,nN] at r1;rw[fK];exact r1
    have p4:(so=n2)=False:=av;have p5:∀n',(0<n'+1)=True:=λn'=>cJ;have hs1:∀(τ:T AV) h,az C τ (.t 72)= .ds cs off (n'+1) 2 ->step (az C τ) h (.slc 2 (.t 72) (some (.c (ι 1))) none none)= .v (.ds cs (off+1*2) n' 2) h:=λτ h h1=>SU (k:=1) h1 rfl ω;rw[he] at q2;by_cases i0:(0:Int)<(i:Int)
    ·have i0':((0:Int)<(i:Int))=True:=fq i0;refine Y9 t1 t3 t4 t24 t25 d1 bq i0' p3 ?_;refine E.cN (hs _) ?_;cases rr with
     |true=>
      have ov:=q3 (.ds cs (off+1*2) n' 2);have y1:ew (.ds cs (off+1*2) n' 2)=true:=rfl;refine Bn t1 t3 t4 t24 t25 d1 e3 sm p1 p2 q1 q2 hsb hrr nc p4 p5 hs1 ov y1 ?_;refine Us (b:=n0+2) (K:=K2++[(e.1,.ds cs (off+2) n' 2)]) (L:=L) (b2:=b2) (b3:=b3) (sv:= .sl so 0 (K2.length+1) none 2) (n0:=n0) E G hgt hi hN ω ω ?_ ?_ ?_ ?_ ?_ ?_ hL ?_ (.inr ⟨so,junk,by simp,e1,by show so<n2+1;omega,?_⟩) (by show n0+2<=n2+1;omega) (λe' he'=> ?_) (by rw[dy,lF];rw[lK] at hK;omega) λτ' h' sv' K' L' w1 w3 w24 w25 w4 hL' co' hS' hE' hT' hK' hn' fr'=> ?_
      ·exact U1 t1
      ·exact U1 t3
      ·exact U1 t4
      ·exact U0
      ·exact U0
      ·have w:(n0=n2)=False:=av;have w':(n0=so)=False:=av;exact wW (ap w w') d1'
      ·have w:(n0+1=n2)=False:=av;have w':(n0+1=so)=False:=av;exact wW (ap w w') co2
      ·exact U0
      ·rcases fO.1 he' with h|h
       ·exact hE e' (xI _ h)
       ·rw[fk.1 h];exact⟨(hE e (by simp)).1,r',cy⟩
      ·obtain⟨n3,v3,cC⟩:=h';have hn3:n2+1<=n3:=hn';have u24:τ'.get 24=some (ι (N.length:Int)):=w24.trans (U1 t24);have u25:τ'.get 25=some (ι (i:Int)):=w25.trans (U1 t25);have f3:∀j,j<n0+2 ->j≠n0+1 ->cC.get j=aJ.get j:=λj hj hj1=>(fr' j hj hj1).trans (by
        have w:(j=n2)=False:=av;have w':(j=so)=False:=av;exact U2 w w')
       refine Y6 w1 w3 w4 u24 u25 @bK ?_;refine ih _ _ ⟨?_,?_,?_,?_,by show n0+2<=n3;omega,λj hj=>(f3 j ω ω).trans (fr j hj),(by rw[show(AH.mk n3 v3 cC).oB.get n0=aJ.get n0 from f3 n0 ω ω];exact d1'),⟨L',hL',co'⟩,⟨sv',K',?_,hS',hE',hT',hK'⟩,h1'⟩
       ·exact U1 w1
       ·exact U1 w3
       ·exact U1 u24
       ·exact U0
       ·exact U1 w4
     |false=>
      refine yO t1 t3 t4 t24 t25 d1 e3 sm p1 p2 q1 q2 hsb hrr nc p4 p5 ?_;refine hk0 _ (by show n0<=n2+1;omega) λj hj=> ?_;have bF:j<n0:=hj;have w:(j=n2)=False:=av;exact wW w (fr j bF)
    ·exfalso;rw[lK] at hK;omega
 ·rintro τ ⟨m,v,ob⟩ ⟨t1,t3,t24,t25,hn,old,c1,⟨L,hL,co⟩,⟨sv,K,t4,hS,hE,hT,hK⟩,h1⟩;dsimp only at c1 co old hn;have lsv:∀h,kg h sv= .v (ι (K.length:Int)) h:=λh=>by rcases hS with ⟨rfl,rfl⟩|⟨so,junk,rfl,-⟩<;>rfl
  rcases vF K.length with hk|hk
  ·have k0:((0:Int)<(K.length:Int))=False:=av;refine Y7 t1 t3 t4 t24 t25 lsv k0 ?_;obtain⟨t,ht,hq⟩:=h1 hz;exact hk1 t _ _ ht hq (by show n0<=m;omega) old
  ·have k0:((0:Int)<(K.length:Int))=True:=cJ;refine Y7 t1 t3 t4 t24 t25 lsv k0 ?_;exact hk0 _ (by show n0<=m;omega) old
 ·exact U0
 ·exact U0
 ·exact U0
 ·exact U0
 ·have w1:(j=n0)=False:=av;have w2:(j=n0+1)=False:=av;exact U2 w1 w2
 ·exact U1 @qE.eq_1
 ·exact U0
 ·exact U0
def Ut:T au:=T.put .e 53 Su
def bh8 {ae:T au} (F:fu ae):∀f m,Ut.get f=some m ->ae.get f=some m:=gk AF F.f53
def KJ (t:Tr) (f:Nat) (a:List AV):Option AV:=match a with
 |[x]=>bif Nat.beq f 95&&cZ 64 x (eT t) then some (ι 0) else none
 |_=>none
def ckH (GL:T (List AV)) (t:Tr) (c:Nat):Bool:=gM GL Ut (KJ t) 1000 53 [eT t,.i .u64 (c:Nat)] (.b (mf t c))
def mw (GL:T (List AV)) (t:Tr):Bool:=(List.range 8).all λc=>ckH GL t c
def hh0 (GL:T (List AV)):(dC 0).all (mw GL)=true:=af
def hh1 (GL:T (List AV)):(dC 1).all (mw GL)=true:=af
def hh2 (GL:T (List AV)):(dC 2).all (mw GL)=true:=af
def hh3 (GL:T (List AV)):(dC 3).all (mw GL)=true:=af
def hh4 (GL:T (List AV)):(dC 4).all (mw GL)=true:=af
def hh5 (GL:T (List AV)):(dC 5).all (mw GL)=true:=af
def hh6 (GL:T (List AV)):(dC 6).all (mw GL)=true:=af
def hh7 (GL:T (List AV)):(dC 7).all (mw GL)=true:=af
def hh8 (GL:T (List AV)):(dC 8).all (mw GL)=true:=af
def hh9 (GL:T (List AV)):(dC 9).all (mw GL)=true:=af
def bh9 (GL:T (List AV)):(dC 10).all (mw GL)=true:=af
def bi0 (GL:T (List AV)):(dC 11).all (mw GL)=true:=af
def bi1 (GL:T (List AV)):(dC 12).all (mw GL)=true:=af
def bi2 (GL:T (List AV)):(dC 13).all (mw GL)=true:=af
def bi3 (GL:T (List AV)):(dC 14).all (mw GL)=true:=af
def bi4 (GL:T (List AV)):(dC 15).all (mw GL)=true:=af
def bi5 (GL:T (List AV)):∀t∈iy 3,mw GL t=true:=Et λi hi=>by
 rcases(show i=0∨i=1∨i=2∨i=3∨i=4∨i=5∨i=6∨i=7∨i=8∨i=9∨i=10∨i=11∨i=12∨i=13∨i=14∨i=15 by omega) with rfl|rfl|rfl|rfl|rfl|rfl|rfl|rfl|rfl|rfl|rfl|rfl|rfl|rfl|rfl|rfl
 ·exact hh0 GL
 ·exact hh1 GL
 ·exact hh2 GL
 ·exact hh3 GL
 ·exact hh4 GL
 ·exact hh5 GL
 ·exact hh6 GL
 ·exact hh7 GL
 ·exact hh8 GL
 ·exact hh9 GL
 ·exact bh9 GL
 ·exact bi0 GL
 ·exact bi1 GL
 ·exact bi2 GL
 ·exact bi3 GL
 ·exact bi4 GL
def bi6 (A:dY P X GL) {t:Tr} (ht:cA 3 t=true):Dp P X GL (KJ t):=λf a v h hh=>by
 unfold KJ at h;split at h
 ·rename_i x;cases e:(Nat.beq f 95&&cZ 64 x (eT t)) with
  |false=>rw[e] at h;cases h
  |true=>
   rw[e] at h;obtain⟨e1,e2⟩:=(aB _ _).mp e;obtain rfl:=qG e1;obtain rfl:=tv _ _ _ e2;cases h;exact(A t ht).chk hh
 ·cases h
def bi7 (A:dY P X GL) (F:fu ae) {t:Tr} (ht:cA 3 t=true) {c:Nat} (hc:c<8) (h:AH):bP P X GL 53 [eT t,.i .u64 (c:Int)] h (.b (mf t c)) h:=
 dR S (hY (bh8 F) (bi6 A ht) (fX.1 (bi5 GL t (ss ht)) c (mA.2 hc))) (n:=9) (by simp only[aL,jB,bZ,dH]) h
def bi8 {c k:Nat} (hc:c<8) (hk:k<=3):aY .shr (.i .u64 (c:Int)) (ι (k:Int))=some (.i .u64 ((c/2^k:Nat):Int)):=by
 rcases(show c=0∨c=1∨c=2∨c=3∨c=4∨c=5∨c=6∨c=7 by omega) with rfl|rfl|rfl|rfl|rfl|rfl|rfl|rfl<;>
  rcases(show k=0∨k=1∨k=2∨k=3 by omega) with rfl|rfl|rfl|rfl<;>rfl
def Uu (A:dY P X GL) (F:fu ae) {g:Gr} (G:ce g) {c:Nat} (hc:c<8) (h:AH):bP P X GL 91 [aI g,.i .u64 (c:Int)] h (.b (kS g c)) h:=by
 refine ku S (λn h=>by simp only[aL,bZ,dH]) ?_ h;refine bg.intro λC E=> ?_;have nc:=G.nc;have sh:=bi8 hc nc;have ic:=λh=>bi7 S A F G.fam.f hc h;have cl:(fz g.nc).length=g.nc:=by unfold fz;rw[jm];simp;omega
 simp only[eT,eD] at ic;rw[E.cB F.f91];by_cases hz:c/2^g.nc=0
 ·have hz':(((c/2^g.nc:Nat):Int)=0)=True:=cJ;refine Y7 @Er.eq_1 @aI.eq_1 @ar.eq_1 @h0.eq_1 cl sh hz' ?_;refine E.cN (ic _) (Y0 ?_);exact⟨1,by simp only[kS,hz];rfl⟩
 ·have hz':(((c/2^g.nc:Nat):Int)=0)=False:=av;refine Y7 @Er.eq_1 @aI.eq_1 @ar.eq_1 @h0.eq_1 cl sh hz' ?_;have hb:Nat.beq (c/2^g.nc) 0=false:=by
   cases e:Nat.beq (c/2^g.nc) 0 with
   |false=>rfl
   |true=>exact bh (qG e) hz
  exact⟨1,by simp only[kS,hb];rfl⟩
def bi9 (F:fu ae) {g:Gr} (G:ce g) (h:AH):bP P X GL 91 [aI g,.i .u64 1073741824] h (.b false) h:=by
 refine ku S (λn h=>by simp only[aL,bZ,dH]) ?_ h;refine bg.intro λC E=> ?_;have nc:=G.nc;have cl:(fz g.nc).length=g.nc:=by unfold fz;rw[jm];simp;omega
 obtain⟨x,sh,hx⟩:∃x:Int,aY .shr (.i .u64 1073741824) (ι (g.nc:Int))=some (.i .u64 x)/\ x≠0:=by
  rcases(show g.nc=0∨g.nc=1∨g.nc=2∨g.nc=3 by omega) with e|e|e|e<;>rw[e]<;>exact⟨_,rfl,by decide⟩
 have hx':(x=0)=False:=dQ hx;refine E.bS F.f91 (Y7 @Er.eq_1 @aI.eq_1 @ar.eq_1 @h0.eq_1 cl sh hx' ?_);exact⟨1,rfl⟩
def oW (P:Program) (X:aR) (GL:T (List AV)) (g:Gr) (c:Int) (b:Bool):Prop:=∀h,bP P X GL 91 [aI g,.i .u64 c] h (.b b) h
def Uv (A:dY P X GL) (Q:gn ae) (F:fu ae) (hg:GL=mU) {g:Gr} (G:ce g) {c:Int} {b:Bool} (I:oW P X GL g c b) (h:AH):bP P X GL 47 [aI g,.i .u64 c] h (.b b) h:=by
 refine ku S (λn h=>by simp only[aL,bZ,dH]) ?_ h;refine bg.intro λC E=> ?_;have gc:=λh=>Td S A Q hg G h;have wc:=λh=>I h;have bq:=iW (g:=g);simp only[ar] at bq;simp only[aI,ar] at gc wc;refine E.bS F.f47 (Y5 @Sq.eq_1 @aI.eq_1 @ar.eq_1 @h0.eq_1 bq ?_);refine E.cN (gc _) (Y1 bq ?_);refine E.cN (wc _) (Y1 bq ?_);exact⟨1,rfl⟩
def bj0 (A:dY P X GL) (D:eV ae) (FA:jr ae) (Q:gn ae) (F:fu ae) (hg:GL=mU) {g:Gr} (G:ce g) {Z:Nat ->Bool} (Y:iQ g Z) (pn:1<=g.pR.length) {c:Int} (I:oW P X GL g c true) (h:AH):bP P X GL 48 [aI g,.i .u64 c] h (ι 0) h:=by
 refine ku S (λn h=>by simp only[aL,bZ,dH]) ?_ h;refine bg.intro λC E=> ?_;have fc:=λh=>Tk S A D FA Q hg G Y pn h;have wc:=λh=>Uv S A Q F hg G I h;have bq:=iW (g:=g);simp only[ar] at bq;simp only[aI,ar] at fc wc;refine E.bS F.f48 (Y5 @Sr.eq_1 @aI.eq_1 @ar.eq_1 @h0.eq_1 bq ?_);refine E.cN (fc _) (Y1 bq ?_);refine E.cN (wc _) (Y1 bq ?_);exact⟨1,rfl⟩
def jV (g:Gr) (b:Bool) (L:List Ru):Nat:=if b then (if iG g L then 0 else 270) else 1
def Uw (A:dY P X GL) (D:eV ae) (FA:jr ae) (Q:gn ae) (FS:li ae) (F:fu ae) (hg:GL=mU) {g:Gr} (G:ce g) {Z:Nat ->Bool} (Y:iQ g Z) (pn:1<=g.pR.length) {c:Int} {b:Bool} (I:oW P X GL g c b) {L:List Ru} {nl:Bool} (hL:L.length<=1000) (h:AH) (k:AV ->AH ->Prop)
 (hk:∀v h',(jV g b L=0 ->h.next<=h'.next/\∀j,j<h.next ->h'.oB.get j=h.oB.get j) ->k (.tu [v,ι (jV g b L:Int)]) h'):du C 14 [aI g,.i .u64 c,eR cM 4 nl L] h k:=by
 have fc:=λh=>Tk S A D FA Q hg G Y pn h;have wc:=λh=>Uv S A Q F hg G I h;have op:=λh k hk=>aX3 (C:=C) (nl:=nl) E FS G hL h k hk;have db:nice 64 (eR cM 4 nl L)=true:=dg BA;have bq:=iW (g:=g);simp only[ar] at bq;simp only[aI,ar] at fc wc op;obtain⟨n0,v0,ob0⟩:=h;refine E.bS F.f14 (Y4 @Sl.eq_1 @aI.eq_1 @ar.eq_1 bq ?_);refine E.cN (fc _) (Y1 bq ?_);refine E.cN (wc _) ?_;cases b with
 |false=>
  refine Y1 bq ?_;exact hk _ _ λe=>by cases e
 |true=>
  refine Y2 bq db ?_;refine E.run (op _ _ λv h' hv=> ?_);cases hb:iG g L with
  |false=>
   have e1:jV g true L=270:=by unfold jV;rw[hb];rfl
   rw[e1] at hk;refine Y1 bq ?_;exact hk _ _ λe=>by cases e
  |true=>
   have e1:jV g true L=0:=by unfold jV;rw[hb];rfl
   rw[e1] at hk;obtain⟨hn,old⟩:=hv hb;refine Y1 bq ?_;refine hk _ _ λ_=>⟨fJ (nD n0) hn,λj hj=> ?_⟩;have bF:j<n0:=hj;rw[old j (ui bF)];have w:(j=n0)=False:=av;exact U1 w
def ky (N:List Tn) (R:List (List Nat)):List AV:=[eR fG 4 true N,eR jT 1 true R]
def bj1 {n:Nat} {h:AH} (N:List Tn) (R:List (List Nat)):deep (n+5) h (.ag (ky N R))=some (.ag (ky N R)):=by
 have d1:∀{n h} (s:List Nat),bJ (n+1) h (jT s)=some (jT s):=λs=>by simp only[jT,aL,bZ,oK]
 have d2:∀(t:Tn),bJ (n+3) h (fG t)=some (fG t):=λt=>by simp only[fG,aL,bZ,dH,oK,dA (n:=n+2) d1]
 refine nX (n:=n+4) ?_;simp only[ky,aL,bZ,dA (n:=n+3) d2,dA (n:=n+3) d1]
def bj2 (F:fu ae) {g:Gr} (G:ce g) {N:List Tn} (hN:N.length<=40) {R:List (List Nat)} (h:AH) (k:AV ->AH ->Prop)
 (hk0:∀h',h.next<=h'.next ->(∀j,j<h.next ->h'.oB.get j=h.oB.get j) ->k .sn h')
 (hk1:∀t o h',N[0]? =some t ->(∃pi x,t.prod=((pi:Nat):Int)/\ g.pR[pi]? =some x) ->h.next<=h'.next ->(∀j,j<h.next ->h'.oB.get j=h.oB.get j) ->k (.sl o 0 N.length (some N.length) 1) h'):
 du C 49 [aI g,.ag (ky N R)] h k:=by
 obtain⟨n0,v0,ob0⟩:=h;have bq:=iW (g:=g);have db:nice 64 (eR fG 4 true N)=true:=dg ua;have dk:∀k,nice 64 (.dp (N.flatMap fG) k)=true:=λk=>by rw[fK,fE ua]
 simp only[ar] at bq;rw[E.cB F.f49];have fin:∀(hp:∀t,N[0]? =some t ->0<=t.prod),∀K:AV ->AH ->Prop,(∀v h',k v h' ->K v h') ->du C 93 [.ag (qE g N.length n0 (n0+1))] ⟨n0+1+1,v0,(ob0.put n0 (.cells v0 (ar g))).put (n0+1) (.cells v0 (ky N R))⟩ K:=λhp K hK=>by
  refine bh7 S E F G hN (b2:=n0) (b3:=n0+1) (rv:=eR jT 1 true R) ?_ ?_ (by show n0<n0+1+1;omega) (by show n0+1<n0+1+1;omega) K (λh' hn old=>hK _ _ (hk0 h' (by show n0<=_;have h:n0+1+1<=h'.next:=hn;omega) λj hj=> ?_)) (λt o h' ht hq hn old=>hK _ _ (hk1 t o h' ht ?_ (by show n0<=_;have h:n0+1+1<=h'.next:=hn;omega) λj hj=> ?_))
  ·have w:(n0=n0+1)=False:=av;exact U1 w
  ·exact U1 @ky.eq_1
  ·have bF:j<n0:=hj;have w1:(j=n0)=False:=av;have w2:(j=n0+1)=False:=av;refine(old j (by show j<n0+1+1;omega)).trans ?_;exact U2 w1 w2
  ·obtain⟨q,hq⟩:=hq;rcases hq with ⟨h,-⟩|hq
   ·have:=hp t ht;omega
   ·exact hq
  ·have bF:j<n0:=hj;have w1:(j=n0)=False:=av;have w2:(j=n0+1)=False:=av;refine(old j (by show j<n0+1+1;omega)).trans ?_;exact U2 w1 w2
 have wn:(n0=n0+1)=False:=av;simp only[qE,ar,ky,gw,gx] at fin;cases N with
 |nil=>
  have l0:((([]:List Tn).length:Nat):Int)=0:=rfl;refine nS @Es.eq_1 @aI.eq_1 @ar.eq_1 @ky.eq_1 bq db dk wn l0 @dw ?_;refine E.run (fin (λt h=>by cases h) _ λv h' hv=> ?_);refine Y1 bq ?_;exact hv
 |cons t N=>
  have lp:((0:Int)<(((t::N).length:Nat):Int))=True:=fq (by simp);have e0:sub ((t::N).flatMap fG) 0 1=some [ι t.prod]:=rfl;have z:∀h,nU h 4 0 (eR fG 4 true (t::N))= .v (.dp ((t::N).flatMap fG) 0) h:=λh=>(bG (i:=0) (by simp)).trans (by rw[ue]);by_cases hp:t.prod<0
  ·have hp':(t.prod<0)=True:=fq hp;refine pm @Es.eq_1 @aI.eq_1 @ar.eq_1 @ky.eq_1 bq db dk wn lp e0 z hp' @dw ?_;refine hk0 _ (by show n0<=n0+1+1;omega) λj hj=> ?_;have bF:j<n0:=hj;have w1:(j=n0)=False:=av;have w2:(j=n0+1)=False:=av;exact U2 w1 w2
  ·have hp':(t.prod<0)=False:=dQ hp;refine pm @Es.eq_1 @aI.eq_1 @ar.eq_1 @ky.eq_1 bq db dk wn lp e0 z hp' @dw ?_;refine E.run (fin (λt' h=>by cases h;omega) _ λv h' hv=> ?_);refine Y1 bq ?_;exact hv
def bj3 (A:dY P X GL) (D:eV ae) (FA:jr ae) (Q:gn ae) (F:fu ae) (hg:GL=mU) {g:Gr} (G:ce g) {Z:Nat ->Bool} (Y:iQ g Z) (pn:1<=g.pR.length) {c:Int} (I:oW P X GL g c true) {N:List Tn} (hN:N.length<=40) {R:List (List Nat)} (hs:∀p∈g.pR,p.left≠g.st) (h:AH):
 bP P X GL 15 [aI g,.i .u64 c,ι (g.st:Int),.ag (ky N R)] h (ι 91) h:=by
 refine dR S (n:=9) ?_ (by rw[aL,aL,aL,aL,bZ,kq (n:=6),dH,dH,bj1 (n:=4)]) h;refine bg.intro λC E=> ?_;have mc:=λh=>bj0 S A D FA Q F hg G Y pn I h;have tr:=λh k h0 h1=>bj2 (C:=C) (R:=R) S E F G hN h k h0 h1;have bq:=iW (g:=g);have db:nice 64 (eR fG 4 true N)=true:=dg ua;have nk5:nice 64 (eR jT 1 true R)=true:=dg zi;have nkt:nice 64 (.ag [eR fG 4 true N,eR jT 1 true R])=true:=by rw[qe];simp only[iu,iq,dg ua,dg zi];rfl
 have dk:∀k,nice 64 (.dp (N.flatMap fG) k)=true:=λk=>by rw[fK,fE ua]
 have nk3:nice 64 (eR aM 13 true g.pR)=true:=dg iV;have nk4:∀k,nice 64 (.dp (g.pR.flatMap aM) k)=true:=λk=>by rw[fK,fE iV]
 simp only[ar] at bq;simp only[aI,ar,ky] at mc tr;have s1:((g.st:Int)<0)=False:=av;have s2:((g.nT.length:Int)<=(g.st:Int))=False:=dQ (by have:=G.st;omega);have s3:((2000000:Int)<(N.length:Int))=False:=av;refine E.bS F.f15 (Y6 @Ss.eq_1 @aI.eq_1 @ar.eq_1 @ky.eq_1 @h0.eq_1 bq ?_);refine E.cN (mc _) (Y7 bq nkt s1 s2 s3 @dw @iL ?_);refine E.run (tr _ _ (λh' hn old=> ?_) λt o h' ht hq hn old=> ?_)
 ·obtain⟨n1,v1,ob⟩:=h';dsimp only at old;have d0:cG (ob.get 0)=some (ar g):=by rw[old 0 (by show 0<3;omega)];simp only[ar];exact U0
  have d2:cG (ob.get 2)=some [eR fG 4 true N,eR jT 1 true R]:=by rw[old 2 (by show 2<3;omega)];exact U0
  simp only[ar] at d0;have vq:eH 6 (.lf .sl) .sn .sn=some true:=rfl;refine Y7 d0 d2 bq nkt db nk3 vq ?_;exact⟨1,rfl⟩
 ·obtain⟨n1,v1,ob⟩:=h';dsimp only at old;have d0:cG (ob.get 0)=some (ar g):=by rw[old 0 (by show 0<3;omega)];simp only[ar];exact U0
  have d2:cG (ob.get 2)=some [eR fG 4 true N,eR jT 1 true R]:=by rw[old 2 (by show 2<3;omega)];exact U0
  simp only[ar] at d0;have vq:eH 6 (.lf .sl) (.sl o 0 N.length (some N.length) 1) .sn=some false:=rfl;obtain⟨pi,x,hp,hx⟩:=hq;have hi:=(eC.1 hx).1;have hl:=(eC.1 ht).1;have e0:sub (N.flatMap fG) 0 1=some [ι (pi:Int)]:=by
   have:=cW Uo ht (j:=0) (n:=1) ω;simpa[fG,hp] using this
  have z:∀h,nU h 4 0 (eR fG 4 true N)= .v (.dp (N.flatMap fG) 0) h:=λh=>(bG (i:=0) hl).trans (by rw[ue]);have e1:sub (g.pR.flatMap aM) (pi*13+1) 1=some [ι (x.left:Int)]:=by
   have:=cW kr hx (j:=1) (n:=1) ω;simpa[aM] using this
  have ne:((x.left:Int)=(g.st:Int))=False:=dQ (by have:=hs x (dI hx);omega);refine qk d0 d2 bq nkt db dk nk3 nk4 vq e0 z e1 ne @bG ?_;exact⟨1,rfl⟩
def Ff (A:dY P X GL) (D:eV ae) (FA:jr ae) (Q:gn ae) (FS:li ae) (F:fu ae) (hg:GL=mU) {g:Gr} (G:ce g) {Z:Nat ->Bool} (Y:iQ g Z) (pn:1<=g.pR.length) {c:Int} {b:Bool} (I:oW P X GL g c b) {L:List Ru} {nl:Bool} (hL:L.length<=1000) {w:Int} {N:List Tn} (hN:N.length<=40) {R:List (List Nat)} {e:Nat}
 (he:(jV g b L=e/\ e≠0)∨(jV g b L=0/\ (w<0∨1000<w)/\ e=1)∨(jV g b L=0/\ b=true/\ (0<=w/\ w<=1000)/\ (∀p∈g.pR,p.left≠g.st)/\ e=91)):
 bg P X GL ae 6 [aI g,.i .u64 c,eR cM 4 nl L,ι w,.ag (ky N R)] (.tu [.s [],ι (e:Int)]):=by
 refine bg.intro λC E=> ?_;have ch:=λh k hk=>Uw (C:=C) (nl:=nl) S E A D FA Q FS F hg G Y pn I hL h k hk;have bq:=iW (g:=g);have nkt:nice 64 (.ag [eR fG 4 true N,eR jT 1 true R])=true:=by rw[qe];simp only[iu,iq,dg ua,dg zi];rfl
 simp only[ar] at bq;simp only[aI,ar] at ch;refine E.bS F.f6 (Y7 @Sm.eq_1 @aI.eq_1 @ar.eq_1 @ky.eq_1 @h0.eq_1 bq nkt ?_);refine E.run (ch _ _ λv h' hv=> ?_);rcases he with ⟨e1,e2⟩|⟨e1,e2,rfl⟩|⟨e1,rfl,e2,e3,rfl⟩
 ·have e':(((jV g b L:Nat):Int)=0)=False:=av;refine Y3 bq nkt e' ?_;exact⟨2,by rw[e1];rfl⟩
 ·have e':(((jV g b L:Nat):Int)=0)=True:=cJ;by_cases w1:w<0
  ·have w1':(w<0)=True:=fq w1;refine Y4 bq nkt e' w1' ?_;exact⟨2,rfl⟩
  ·have w1':(w<0)=False:=dQ w1;have w2':(1000<w)=True:=cJ;refine Y5 bq nkt e' w1' w2' ?_;exact⟨2,rfl⟩
 ·have e':(((jV g true L:Nat):Int)=0)=True:=cJ;obtain⟨hn,old⟩:=hv e1;obtain⟨n1,v1,ob⟩:=h';dsimp only at old;have d0:cG (ob.get 0)=some (ar g):=by rw[old 0 (by show 0<2;omega)];simp only[ar];exact U0
  have d1:cG (ob.get 1)=some [eR fG 4 true N,eR jT 1 true R]:=by rw[old 1 (by show 1<2;omega)];exact U0
  simp only[ar] at d0;have oc:=λh=>bj3 (R:=R) S A D FA Q F hg G Y pn I hN e3 h;simp only[aI,ar,ky] at oc;have w1':(w<0)=False:=av;have w2':(1000<w)=False:=av;have w3':((2000000:Int)<(N.length:Int))=False:=av;refine Y9 bq nkt e' w1' w2' w3' d0 d1 @dw ?_;refine E.cN (oc _) (Y2 bq nkt ?_);exact⟨2,rfl⟩
def bj4 (A:dY P X GL) (D:eV ae) (FA:jr ae) (Q:gn ae) (FS:li ae) (F:fu ae) (hg:GL=mU) {g:Gr} (G:ce g) {Z:Nat ->Bool} (Y:iQ g Z) (pn:1<=g.pR.length) {c:Int} {b:Bool} (I:oW P X GL g c b) {L:List Ru} {nl:Bool} (hL:L.length<=1000) {N:List Tn} {R:List (List Nat)} {e:Nat}
 (he:jV g b L=e/\ e≠0):
 bg P X GL ae 7 [aI g,.i .u64 c,eR cM 4 nl L,.ag (ky N R)] (.tu [.sn,ι (e:Int)]):=by
 refine bg.intro λC E=> ?_;have ch:=λh k hk=>Uw (C:=C) (nl:=nl) S E A D FA Q FS F hg G Y pn I hL h k hk;have bq:=iW (g:=g);have nkt:nice 64 (.ag [eR fG 4 true N,eR jT 1 true R])=true:=by rw[qe];simp only[iu,iq,dg ua,dg zi];rfl
 simp only[ar] at bq;simp only[aI,ar] at ch;obtain⟨e1,e2⟩:=he;refine E.bS F.f7 (Y7 @So.eq_1 @aI.eq_1 @ar.eq_1 @ky.eq_1 @h0.eq_1 bq nkt ?_);refine E.run (ch _ _ λv h' hv=> ?_);have e':(((jV g b L:Nat):Int)=0)=False:=av;refine Y3 bq nkt e' ?_;exact⟨2,by rw[e1];rfl⟩
def m9 (g:Gr):Gr:={ g with nT:=g.nT++[[111,116,104,101,114]],nx:=[],st:=g.nT.length }
def sH.more {nc n n':Nat} {p:Pr} (h:sH nc n p) (hn:n<=n'):sH nc n' p:=
 { h with left:=iR h.left hn,sym:=λs hs=>(h.sym s hs).imp id λ⟨a,b⟩=>⟨a,iR b hn⟩ }
def Ux {g:Gr} (G:ce g) (n3:g.nT.length<=3) (n1:∀s∈g.nT,s.length=1):ce (m9 g):=by
 have ln:(m9 g).nT.length=g.nT.length+1:=by unfold m9;simp
 have ne:∀s∈g.nT,s≠[111,116,104,101,114]:=λs hs e=>by have:=n1 s hs;rw[e] at this;cases this
 refine { G with ntl:=by rw[ln];omega,st:=by rw[ln];show g.nT.length<_;omega,ntn:=λs hs=> ?_,ntd:=λi j s hi hj=> ?_,p:=λp hp=>by rw[ln];exact(G.p p hp).more (nD _),f:=λf hf=> ?_ }
 ·rcases fO.1 hs with h|h
  ·exact G.ntn s h
  ·rw[fk.1 h];simp
 ·have hi:(g.nT++[[111,116,104,101,114]])[i]? =some s:=hi;have hj:(g.nT++[[111,116,104,101,114]])[j]? =some s:=hj;rcases EX hi with ⟨a1,-⟩|⟨a1,a2⟩<;>rcases EX hj with ⟨b1,-⟩|⟨b1,b2⟩
  ·exact G.ntd i j s a1 b1
  ·exact bh b2 (ne s (dI a1))
  ·exact bh a2 (ne s (dI b1))
  ·omega
 ·have h:=G.f f hf;refine⟨h.cond,?_,h.tl⟩;rcases h.kinds with ⟨hk,h1,h2,h3,pp,cp,e1,e2,e3⟩|⟨h1,h2,h3,h4,h5,h6,h7⟩|h
  ·exact .inl ⟨hk,h1,h2,h3,pp,cp,e1,e2,e3⟩
  ·exact .inr (.inl ⟨h1,h2,h3,h4,h5,by rw[ln];omega,h7⟩)
  ·exact .inr (.inr h)
def Uy {g:Gr} {Z:Nat ->Bool} (Y:iQ g Z):iQ (m9 g) Z:=⟨Y.z,Y.st⟩
def bj5 {g:Gr} {L:List Ru}:iG (m9 g) L=iG g L:=rfl
def oX (g:Gr):Ru:=⟨(g.pR.length:Int),0,8,0⟩
def bj6 {g:Gr} {L:List Ru}:iG g (L++[oX g])=false:=by
 refine Bz (i:=L.length) (by simp) ?_;have e:(L++[oX g])[L.length]? =some (oX g):=by rw[rK (bB _),Nat.sub_self];rfl
 unfold rj;rw[e];dsimp only;have:eP g (oX g)=false:=by
  unfold eP oX;dsimp only;rw[fe (show¬((g.pR.length:Int)<(g.pR.length:Int)) by omega)];simp
 rw[this];rfl
def mq.deep {b:Nat} {h h':AH} {ov rv:AV} {N:List Tn} {R:List (List Nat)} (A:mq b h ov rv N R) (old:∀j v l,b<=j ->j<h.next ->h.oB.get j=some (.cells v l) ->∃v',h'.oB.get j=some (.cells v' l)):AM.deep 10 h' (.ag [ov,rv])=some (.ag (ky N R)):=by
 obtain⟨-,-,tt,h3,h4,h5⟩:=A;have k:=BG (h1:=tt) (h2:=h') (λj v l hj=>by obtain⟨a,b,c⟩:=h3 j v l hj;exact old j v l a b c) 9;refine BH (n:=9) ?_;rw[aL,aL,bZ,k.1 _ _ h4,k.1 _ _ h5];rfl
def Fg:aw:=eg (sE 3 1023)
def Fh:aw:=(λx=>eg (pt 31 x (sE 3 63))) Fg
abbrev Fj:au:=(λy=>eg (bE (pg 3) λo=>pt 63 y o)) Fh
def bj7:JK=Fj:=by unfold JK Fj Fh Fg;rfl
structure Uz (g:Gr) (n1 nx:Nat) (h:AH) (ov rv v bad:AV) (N:List Tn) (R:List (List Nat)) (RL:List Ru):Prop where
 t:∀h':AH,(∀j,j<nx ->j≠n1 ->h'.oB.get j=h.oB.get j) ->deep 10 h' (.ag [ov,rv])=some (.ag (ky N R))
 dv:∀h':AH,(∀j,j<nx ->j≠n1 ->h'.oB.get j=h.oB.get j) ->deep 10 h' v=some (eR cM 4 true RL)
 b:∀h':AH,(∀j,j<nx ->j≠n1 ->h'.oB.get j=h.oB.get j) ->deep 10 h' bad=some (eR cM 4 true (RL++[oX g]))
 co:nice 63 ov=true/\ nice 63 rv=true/\ nice 64 v=true/\ nice 64 bad=true
def bj8 (F:fu ae) (gop:bg P X GL ae 74 [ι 0] (ι 0)) {h:AH} {q:Nat} (lq:q<h.next) (hq:cG (h.oB.get q)=some [ι 0,.s [],ι 0,ι 0,ι 0]) (k:AV ->AH ->Prop) (hk:∀o h',k (.sl o 0 0 (some 0) 1) h'):du C 34 [.sl q 0 1 (some 1) 5,ι 0] h k:=by
 obtain⟨m,ver,ob⟩:=h;dsimp only at hq lq;have po:∀h',bP P X GL 74 [ι 0] h' (ι 0) h':=λh'=>dR S gop (n:=1) (by rfl) h';rw[E.cB F.f34];have ia:∀h,nU h 5 0 (.sl q 0 1 (some 1) 5)= .v (.p q 0) h:=λh=>rfl;have y1:(q=m)=False:=av;refine Z4 @Sw.eq_1 hq ia y1 ?_;refine E.cN (po _) (Z3 hq ia y1 ?_);refine E.cN (po _) (Z3 hq ia y1 ?_);exact hk _ _
def bj9 (F:fu ae) (gck:bg P X GL ae 33 [.ds [ι 0,.s [],ι 0,ι 0,ι 0] 0 1 5] (ι 0)) (gop:bg P X GL ae 74 [ι 0] (ι 0)) {h:AH} {q:Nat} (lq:q<h.next) (hq:cG (h.oB.get q)=some [ι 0,.s [],ι 0,ι 0,ι 0]) (k:AV ->AH ->Prop) (hk:∀o h',k (.tu [.sl o 0 0 (some 0) 1,ι 0]) h'):du C 8 [.sl q 0 1 (some 1) 5] h k:=by
 have pc:bP P X GL 33 [.sl q 0 1 (some 1) 5] h (ι 0) h:=oE S gck (n:=9) (m:=2) (by
  rw[aL,bZ,gA (n:=8) hq (l':=[ι 0,.s [],ι 0,ι 0,ι 0]) (by simp only[aL,bZ,dH,oK])]) rfl
 refine E.bS F.f8 (Y2 @Sv.eq_1 hq ?_);refine E.cN pc ?_;have sb:aY .sub (ι ((1:Nat):Int)) (ι 1)=some (ι 0):=rfl;refine Y2 hq sb ?_;refine E.run (bj8 S E F gop lq hq _ ?_);intro o h';refine Y0 ?_;exact hk _ _
def KL (A:dY P X GL) (HD:eV ae) (HA:jr ae) (HC:gn ae) (HS:li ae) (F:fu ae) (hg:GL=mU)
 (gck:bg P X GL ae 33 [.ds [ι 0,.s [],ι 0,ι 0,ι 0] 0 1 5] (ι 0)) (gop:bg P X GL ae 74 [ι 0] (ι 0)) {g:Gr} (G:ce g) (n3:g.nT.length<=3) (gl1:∀s∈g.nT,s.length=1) {Z:Nat ->Bool} (Y:iQ g Z) (pn:1<=g.pR.length) {c:Nat} (I1:oW P X GL g (c:Int) true) (I3:oW P X GL (m9 g) (c:Int) true)
 {N:List Tn} (hN:N.length<=40) {R:List (List Nat)} {RL:List Ru} (hRL:RL.length<=12) (hV:iG g RL=true) {ov rv v bad:AV} {n1:Nat} {τ:T AV} {h:AH} (L:Uz g n1 h.next h ov rv v bad N R RL) (l1:n1+1<h.next) (c6:cG (h.oB.get n1)=some (ar g)) (c8:cG (h.oB.get (n1+1))=some [ov,rv]) {w:Int} (hw:w<0∨1000<w)
 (t1:τ.get 1=some (ι w)) (t5:τ.get 5=some (.b true)) (t6:τ.get 6=some (.p n1 0)) (t7:τ.get 7=some (.i .u64 (c:Int))) (t8:τ.get 8=some (.p (n1+1) 0)) (t9:τ.get 9=some v)
 (t13:τ.get 13=some (ι 1)) (t15:τ.get 15=some (ι 270)) (t17:τ.get 17=some (ι 270)):df C Fg [] (KF (λx h=>∃n,deep n h x=some (.b true)) [(4,none)]) τ h:=by
 obtain⟨m,ver,ob⟩:=h;dsimp only at c6 c8 l1;have bq:=iW (g:=g);obtain⟨k1,k2,k3,k4⟩:=L.co;have nkt:nice 64 (.ag [ov,rv])=true:=by rw[qe];simp only[iu,iq,k1,k2];rfl
 have c6':=c6;simp only[ar] at c6 bq;have e0:jV g true RL=0:=by unfold jV;rw[hV];rfl
 have p4:∀h':AH,(∀j,j<m ->j≠n1 ->h'.oB.get j=ob.get j) ->bP P X GL 6 [aI g,.i .u64 (c:Int),v,ι w,.ag [ov,rv]] h' (.tu [.s [],ι 1]) h':=λh' e=>oE S (Ff (nl:=true) (e:=1) (R:=R) S A HD HA HC HS F hg G Y pn I1 (L:=RL) ω (w:=w) hN (.inr (.inl ⟨e0,hw,rfl⟩))) (n:=10) (m:=2) (by
  rw[aL,aL,aL,aL,aL,bZ,kq (n:=7),dH,dH,L.dv h' e,L.t h' e]) rfl
 unfold Fg;simp only[aI,ar] at p4;refine qX t1 t5 t6 t7 t8 t9 c6 c8 bq nkt ?_;refine E.cN (p4 _ λ_ _ _=>rfl) ?_;obtain⟨n',hn'⟩:∃n',g.nT.length=n'+1:=⟨g.nT.length-1,by have:=G.ntl;omega⟩;have sb:sub (g.nT.map AV.s++g.nx.map AV.s) 0 ((n'+1)*1)=some (g.nT.map AV.s):=by
  rw[nH,aF (by rw[dy,kU];omega),List.drop_zero,List.take_left' (by rw[kU];omega)]
 have sa:cF (g.nT.map AV.s)=true:=by
  have:∀L:List (List Nat),cF (L.map AV.s)=true:=λL=>by
   induction L with
   |nil=>rfl
   |cons a L ih=>rw[jY,lT,ih];rfl
  exact this _
 have A2:∀o v t,cG (T.get t o)=some [] ->gU ⟨o+1,v,t⟩ 1 (.sl o 0 0 (some 0) 1) (eX g.nT (g.nx.map AV.s))= .v (.sl (o+1) 0 g.nT.length none 1) ⟨o+1+1,v,t.put (o+1) (.cells v (g.nT.map AV.s))⟩:=λo v t ht=>by unfold eX;rw[hn'];exact Bv sb sa ht ω
 have ml:(g.nT.map AV.s).length=g.nT.length*1:=by rw[kU,vH]
 have l8:(g.nT.length+1<=1048576)=True:=cJ;have sm:aY .sub (ι ((g.nT.length+1:Nat):Int)) (ι 1)=some (ι (g.nT.length:Int)):=qV (a:=g.nT.length+1) (b:=1) ω;have e0':jV (m9 g) true RL=0:=by unfold jV;rw[bj5,hV];rfl
 have G':=Ux G n3 gl1;have p5:∀(h':AH) (q:Nat),(∀j,j<m ->j≠n1 ->h'.oB.get j=ob.get j) ->cG (h'.oB.get q)=some (g.nT.map AV.s++[.s [111,116,104,101,114]]) ->bP P X GL 6 [.ag [eX (fz g.nc) (g.cx.map AV.s),cu (aE g.fam).1,ι ((aE g.fam).2:Int),eR dq 7 true g.tc.zipIdx,.sl q 0 (g.nT.length+1) none 1,eR aM 13 true g.pR,ι (g.nT.length:Int),eR iK 4 true g.lV,eR eF 9 true g.fI],.i .u64 (c:Int),v,ι 80,.ag [ov,rv]] h' (.tu [.s [],ι 91]) h':=λh' q e hq=>
  oE S (Ff (nl:=true) (e:=91) (R:=R) (w:=80) (N:=N) (L:=RL) S A HD HA HC HS F hg G' (Uy Y) pn I3 ω hN (.inr (.inr ⟨e0',rfl,by omega,λp hp=>Nat.ne_of_lt (G.p p hp).left,rfl⟩))) (n:=10) (m:=2) (by
   have en:deep 9 h' (.sl q 0 (g.nT.length+1) none 1)=some (eX (m9 g).nT []):=by
    rw[gA (n:=8) hq (l':=(m9 g).nT.map AV.s) (by rw[show g.nT.map AV.s++[.s [111,116,104,101,114]]=(m9 g).nT.map AV.s by unfold m9;rw[kE];rfl];exact Bs _)];unfold eX m9;rw[lG,dy];rfl
   have eg:deep 10 h' (.ag [eX (fz g.nc) (g.cx.map AV.s),cu (aE g.fam).1,ι ((aE g.fam).2:Int),eR dq 7 true g.tc.zipIdx,.sl q 0 (g.nT.length+1) none 1,eR aM 13 true g.pR,ι (g.nT.length:Int),eR iK 4 true g.lV,eR eF 9 true g.fI])=some (aI (m9 g)):=by
    refine BH (n:=9) ?_;simp only[aL,bZ,dH,en,nW (n:=8),Bt (n:=8),dA (n:=8) jD,dA (n:=8) y7,dA (n:=8) ko,dA (n:=8) ju];rfl
   rw[aL,aL,aL,aL,aL,bZ,eg,dH,dH,L.dv h' e,L.t h' e]) rfl
 refine uX t1 t5 t6 t7 t8 t9 c6 c8 bq nkt @iP A2 ml l8 sm ?_;refine E.cN (p5 _ (m+1+1+1) (λj hj hjn=> ?_) ?_) ?_
 ·have y1:(j=m)=False:=av;have y2:(j=m+1)=False:=av;have y3:(j=m+1+1)=False:=av;have y4:(j=m+1+1+1)=False:=av;have y5:(j=n1)=False:=dQ hjn;exact U5 y1 y2 y3 y4 y5
 ·have y5:(m+1+1+1=n1)=False:=av;exact U1 y5
 refine qX t1 t5 t6 t7 t8 t9 c6 c8 bq nkt ?_;refine E.run (bj9 S E F gck gop ?_ ?_ _ ?_)
 ·exact U0
 ·exact U0
 intro o h';refine sC t1 t5 t6 t7 t8 t9 t13 t15 t17 bq nkt ?_;exact⟨1,rfl⟩
def UA (A:dY P X GL) (HD:eV ae) (HA:jr ae) (HC:gn ae) (HS:li ae) (F:fu ae) (hg:GL=mU)
 (gck:bg P X GL ae 33 [.ds [ι 0,.s [],ι 0,ι 0,ι 0] 0 1 5] (ι 0)) (gop:bg P X GL ae 74 [ι 0] (ι 0)) {g:Gr} (G:ce g) (n3:g.nT.length<=3) (gl1:∀s∈g.nT,s.length=1) {Z:Nat ->Bool} (Y:iQ g Z) (pn:1<=g.pR.length) {c:Nat} (I1:oW P X GL g (c:Int) true) (I2:oW P X GL g 1073741824 false) (I3:oW P X GL (m9 g) (c:Int) true)
 {N:List Tn} (hN:N.length<=40) {R:List (List Nat)} {RL:List Ru} (hRL:RL.length<=12) (hV:iG g RL=true) {ov rv v bad:AV} {n1:Nat} {τ:T AV} {h:AH} (L:Uz g n1 h.next h ov rv v bad N R RL) (l1:n1+1<h.next) (c6:cG (h.oB.get n1)=some (ar g)) (c8:cG (h.oB.get (n1+1))=some [ov,rv]) {w:Int} (hw: -9223372036854775808<=w/\ w<=9223372036854775807)
 (t1:τ.get 1=some (ι w)) (t5:τ.get 5=some (.b true)) (t6:τ.get 6=some (.p n1 0)) (t7:τ.get 7=some (.i .u64 (c:Int))) (t8:τ.get 8=some (.p (n1+1) 0)) (t9:τ.get 9=some v) (bH:τ.get 11=some bad):df C Fh [] (KF (λx h=>∃n,deep n h x=some (.b true)) [(4,none)]) τ h:=by
 have L':=L;have c6':=c6;obtain⟨m,ver,ob⟩:=h;dsimp only at c6 c8 l1;have bq:=iW (g:=g);obtain⟨k1,k2,k3,k4⟩:=L.co;have nkt:nice 64 (.ag [ov,rv])=true:=by rw[qe];simp only[iu,iq,k1,k2];rfl
 simp only[ar] at c6 bq;have lb:(RL++[oX g]).length<=1000:=by rw[dy,lF];omega
 have e1:jV g false (RL++[oX g])=1:=rfl;have e2:jV g true (RL++[oX g])=270:=by unfold jV;rw[bj6];rfl
 have p1:bP P X GL 6 [aI g,.i .u64 1073741824,bad,ι w,.ag [ov,rv]] ⟨m,ver,ob⟩ (.tu [.s [],ι 1]) ⟨m,ver,ob⟩:=oE S (Ff (nl:=true) (e:=1) (R:=R) S A HD HA HC HS F hg G Y pn I2 lb (w:=w) hN (.inl ⟨e1,by omega⟩)) (n:=10) (m:=2) (by
  rw[aL,aL,aL,aL,aL,bZ,kq (n:=7),dH,dH,L.b _ (λ_ _ _=>rfl),L.t _ (λ_ _ _=>rfl)]) rfl
 have p2:bP P X GL 6 [aI g,.i .u64 (c:Int),bad,ι w,.ag [ov,rv]] ⟨m,ver,ob⟩ (.tu [.s [],ι 270]) ⟨m,ver,ob⟩:=oE S (Ff (nl:=true) (e:=270) (R:=R) S A HD HA HC HS F hg G Y pn I1 lb (w:=w) hN (.inl ⟨e2,by omega⟩)) (n:=10) (m:=2) (by
  rw[aL,aL,aL,aL,aL,bZ,kq (n:=7),dH,dH,L.b _ (λ_ _ _=>rfl),L.t _ (λ_ _ _=>rfl)]) rfl
 have p3:bP P X GL 7 [aI g,.i .u64 (c:Int),bad,.ag [ov,rv]] ⟨m,ver,ob⟩ (.tu [.sn,ι 270]) ⟨m,ver,ob⟩:=oE S (bj4 (nl:=true) (e:=270) (N:=N) (R:=R) S A HD HA HC HS F hg G Y pn I1 lb ⟨e2,by omega⟩) (n:=10) (m:=2) (by
  rw[aL,aL,aL,aL,bZ,kq (n:=7),dH,L.b _ (λ_ _ _=>rfl),L.t _ (λ_ _ _=>rfl)]) rfl
 simp only[aI,ar] at p1 p2 p3;unfold Fh;refine sC t1 t5 t6 t7 t8 t9 bH c6 c8 bq nkt ?_;refine E.cN p1 (sC t1 t5 t6 t7 t8 t9 bH c6 c8 bq nkt ?_);refine E.cN p2 (sC t1 t5 t6 t7 t8 t9 bH c6 c8 bq nkt ?_);refine E.cN p3 ?_;by_cases w0:0<=w
 ·have w0':(0<=w)=True:=fq w0;by_cases w1:w<=1000
  ·have w1':(w<=1000)=True:=fq w1;have sb:aY .sub (ι (-1)) (ι w)=some (ι (-1-w)):=rX ω;refine wR t1 t5 t6 t7 t8 t9 bH c6 c8 bq nkt w0' w1' sb ?_;refine KL (w:= -1-w) S E A HD HA HC HS F hg gck gop G n3 gl1 Y pn I1 I3 hN hRL hV L' l1 c6' c8 (.inl ω) ?_ ?_ ?_ ?_ ?_ ?_ ?_ ?_ ?_
   ·exact U0
   ·exact U1 t5
   ·exact U1 t6
   ·exact U1 t7
   ·exact U1 t8
   ·exact U1 t9
   all_goals exact U0
  ·have w1':(w<=1000)=False:=dQ w1;refine qt t1 t5 t6 t7 t8 t9 bH c6 c8 bq nkt w0' w1' ?_;refine KL (w:=w) S E A HD HA HC HS F hg gck gop G n3 gl1 Y pn I1 I3 hN hRL hV L' l1 c6' c8 (.inr ω) ?_ ?_ ?_ ?_ ?_ ?_ ?_ ?_ ?_
   ·exact U1 t1
   ·exact U1 t5
   ·exact U1 t6
   ·exact U1 t7
   ·exact U1 t8
   ·exact U1 t9
   all_goals exact U0
 ·have w0':(0<=w)=False:=dQ w0;refine lX t1 t5 t6 t7 t8 t9 bH c6 c8 bq nkt w0' ?_;refine KL (w:=w) S E A HD HA HC HS F hg gck gop G n3 gl1 Y pn I1 I3 hN hRL hV L' l1 c6' c8 (.inl ω) ?_ ?_ ?_ ?_ ?_ ?_ ?_ ?_ ?_
  ·exact U1 t1
  ·exact U1 t5
  ·exact U1 t6
  ·exact U1 t7
  ·exact U1 t8
  ·exact U1 t9
  all_goals exact U0
def bk0 (R:eL ae) (A:dY P X GL) (HD:eV ae) (HA:jr ae) (HC:gn ae) (HS:li ae) (HG:jf ae) (HM:hZ ae) (F:fu ae) (hg:GL=mU) (KB:xi P X GL ae) (M:tZ P X GL ae) (sane:bg P X GL ae 4 [] (.b true))
 (gck:bg P X GL ae 33 [.ds [ι 0,.s [],ι 0,ι 0,ι 0] 0 1 5] (ι 0)) (gop:bg P X GL ae 74 [ι 0] (ι 0)) {i:sT} (ok:i.OK) {w:Int} (hw: -9223372036854775808<=w/\ w<=9223372036854775807):bg P X GL ae 3 [.ag (m8 i),ι w] (.b true):=by
 refine bg.intro λC E=> ?_;have sc:=λh=>dR S sane (n:=1) (by rfl) h;have mr:=λh k h0 h1=>bg8 (C:=C) S R A HG HM HS KB E F M ok h k h0 h1;obtain⟨gok,gac,gp⟩:=Kw ok.i.x;obtain⟨n3,n1l,gst⟩:=Um i.i.x;obtain⟨c8,chas⟩:=T0 gok i.i.cfg;have gok':=Ux gok n3 n1l;have gac':=Uy gac;have I1:oW P X GL (fU i.i.x) (lD (fU i.i.x) i.i.cfg:Int) true:=λh=>by have:=Uu S A F gok c8 h;rw[chas] at this;exact this
 have I2:oW P X GL (fU i.i.x) 1073741824 false:=λh=>bi9 S F gok h;have I3:oW P X GL (m9 (fU i.i.x)) (lD (fU i.i.x) i.i.cfg:Int) true:=λh=>by have:=Uu S A F gok' c8 h;rw[show kS (m9 (fU i.i.x)) _=kS (fU i.i.x) _ from rfl,chas] at this;exact this
 generalize lD (fU i.i.x) i.i.cfg=c at*;generalize fU i.i.x=g at*;have nkI:nice 64 (.ag (m8 i))=true:=by
  rw[qe];simp only[m8,rx,gI,gw,gx,iu,iq,j9,dg pH,dg E0,dg E1,g9]
 have bq:=iW (g:=g);simp only[m8,rx,gI,gw,gx] at nkI mr;simp only[ar] at bq mr;have f3:ae.get 3=some Fj:=by rw[←bj7];exact F.f3
 rw[yN E.ok (E.get f3)];refine Z6 @Fj.eq_1 @m8.eq_1 @rx.eq_1 @gI.eq_1 @h0.eq_1 nkI ?_;refine E.cN (sc _) (Z1 nkI ?_);refine E.run (mr _ _ (λov rv h' ⟨co1,co2,co3⟩ ⟨cr1,cr2,cr3⟩=> ?_) λN R' ov rv RL v h' hN TA hRL hV hRu low hn old=> ?_)
 ·obtain⟨n1,v1,aQ⟩:=h';refine Z8 nkI bq co1 co2 co3 cr1 cr2 cr3 ?_;exact⟨1,rfl⟩
 ·obtain⟨n1,v1,aQ⟩:=h';have hn':1<=n1:=hn;dsimp only at old;obtain⟨ro,rr⟩:=ap TA.o TA.r;have co:cellsOf ov=[ov]/\ cellsO ov=some [ov]/\ ew ov=true/\ nice 63 ov=true:=by rcases ro with ⟨-,rfl⟩|⟨oo,rfl⟩<;>exact⟨rfl,rfl,rfl,rfl⟩
  have cr:cellsOf rv=[rv]/\ cellsO rv=some [rv]/\ ew rv=true/\ nice 63 rv=true:=by rcases rr with ⟨-,rfl⟩|⟨oo,rfl⟩<;>exact⟨rfl,rfl,rfl,rfl⟩
  obtain⟨co1,co2,co3,co4⟩:=co;obtain⟨cr1,cr2,cr3,cr4⟩:=cr;have pl:=gok.pl;have nkp:nice 64 (eR aM 13 true g.pR)=true:=dg iV;rcases hRu with ⟨rfl,rfl⟩|⟨ro,rn,hRn,rfl,rlo,rco⟩
  ·have A1:∀h' n,gU h' 4 (.sl n 0 0 (some 0) 4) .sn= .v (.sl n 0 0 (some 0) 4) h':=λh' n=>rfl;refine sD nkI bq nkp co1 co2 co3 co4 cr1 cr2 cr3 cr4 @dw @iP A1 @JT @JU ?_;refine UA (n1:=n1) (N:=N) (R:=R') (RL:=[]) (ov:=ov) (rv:=rv) (v:= .sn) (bad:= .sl (n1+1+1+2) 0 1 none 4) S E A HD HA HC HS F hg gck gop gok n3 n1l gac gp I1 I2 I3 hN (by simp) hV ⟨λh' e=> ?_,λh' e=>rfl,λh' e=> ?_,co4,cr4,rfl,rfl⟩ ?_ ?_ ?_ hw ?_ ?_ ?_ ?_ ?_ ?_ ?_
   ·refine mq.deep TA λj v l hj1 hj2 hj=> ?_;have hj2':j<n1:=hj2;have y1:(j=n1)=False:=av;have y2:(j=n1+1)=False:=av;have y3:(j=n1+2)=False:=av;have y4:(j=n1+1+1+1)=False:=av;have y5:(j=n1+1+1+2)=False:=av;refine⟨v,(e j (by show j<n1+1+1+2+1;omega) ω).trans ?_⟩;exact wW (ap y1 (ap y2 (ap y3 (ap y4 y5)))) hj
   ·refine(gA (n:=9) (l:=cM (oX g)) (l':=cM (oX g)) ?_ (BB _)).trans rfl;rw[e (n1+1+1+2) (by show n1+1+1+2<n1+1+1+2+1;omega) ω];exact U0
   ·show n1+1<n1+1+1+2+1;omega
   ·simp only[ar];exact U0
   ·exact U0
   all_goals exact U0
  ·have rlo':ro<n1:=rlo;have A1:∀nx ver t n,cG (T.get t ro)=some (RL.flatMap cM) ->cG (T.get t n)=some [] ->gU ⟨nx,ver,t⟩ 4 (.sl n 0 0 (some 0) 4) (.sl ro 0 (rn+1) none 4)= .v (.sl nx 0 (rn+1) none 4) ⟨nx+1,ver,t.put nx (.cells ver (RL.flatMap cM))⟩:=λnx ver t n h1 h2=>To h1 (by rw[kh zc,hRn]) (w7 Tp RL) h2 ω;dsimp only at rco;have hl:(RL.flatMap cM).length=(rn+1)*4:=by rw[kh zc,hRn]
   have l8:(rn+1+1<=1048576)=True:=cJ;refine yO nkI bq nkp co1 co2 co3 co4 cr1 cr2 cr3 cr4 @dw @iP A1 rco hl l8 ?_;have lR:(RL++[oX g]).length=rn+1+1:=by rw[dy,hRn];rfl
   have neR:RL≠[]:=λe=>by rw[e] at hRn;cases hRn
   refine UA (n1:=n1) (N:=N) (R:=R') (RL:=RL) (ov:=ov) (rv:=rv) (v:= .sl ro 0 (rn+1) none 4) (bad:= .sl (n1+1+1+2+1) 0 (rn+1+1) none 4) S E A HD HA HC HS F hg gck gop gok n3 n1l gac gp I1 I2 I3 hN hRL hV ⟨λh' e=> ?_,λh' e=> ?_,λh' e=> ?_,co4,cr4,rfl,rfl⟩ ?_ ?_ ?_ hw ?_ ?_ ?_ ?_ ?_ ?_ ?_
   ·refine mq.deep TA λj v l hj1 hj2 hj=> ?_;have hj2':j<n1:=hj2;have y1:(j=n1)=False:=av;have y2:(j=n1+1)=False:=av;have y3:(j=n1+2)=False:=av;have y4:(j=n1+1+1+1)=False:=av;have y5:(j=n1+1+1+2)=False:=av;have y6:(j=n1+1+1+2+1)=False:=av;refine⟨v,(e j (by show j<n1+1+1+2+1+1;omega) ω).trans ?_⟩;exact wW (ap y1 (ap y2 (ap y3 (ap y4 (ap y5 y6))))) hj
   ·rw[gA (n:=9) (l:=RL.flatMap cM) (l':=RL.flatMap cM) ?_ (qZ BB RL),sM neR,hRn];rw[e ro (by show ro<n1+1+1+2+1+1;omega) ω];have y1:(ro=n1)=False:=av;have y2:(ro=n1+1)=False:=av;have y3:(ro=n1+2)=False:=av;have y4:(ro=n1+1+1+1)=False:=av;have y5:(ro=n1+1+1+2)=False:=av;have y6:(ro=n1+1+1+2+1)=False:=av;exact wW (ap y1 (ap y2 (ap y3 (ap y4 (ap y5 y6))))) rco
   ·rw[gA (n:=9) (l:=(RL++[oX g]).flatMap cM) (l':=(RL++[oX g]).flatMap cM) ?_ (qZ BB _),sM (by simp),lR];rw[e (n1+1+1+2+1) (by show n1+1+1+2+1<n1+1+1+2+1+1;omega) ω,jl,pO];exact U0
   ·show n1+1<n1+1+1+2+1+1;omega
   ·simp only[ar];exact U0
   ·exact U0
   all_goals exact U0
end
end AM
