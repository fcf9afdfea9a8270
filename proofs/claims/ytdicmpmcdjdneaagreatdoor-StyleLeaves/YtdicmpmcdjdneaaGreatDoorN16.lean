import Derived.Test.YtdicmpmcdjdneaaGreatDoorN10
import Derived.Test.YtdicmpmcdjdneaaGreatDoorN11
set_option linter.all false
set_option maxHeartbeats 1000000
namespace AM
open Dg Go
noncomputable section
def str (s:String):List Nat:=s.toUTF8.toList.map (·.toNat)
def dO (s:Bool×Nat):List AV:=[.b s.1,ι (s.2:Int)]
def cI (n:Nat):List AV:=[ι (n:Int)]
def eX (L:List (List Nat)) (ex:List AV):AV:= .ds (L.map AV.s++ex) 0 L.length 1
structure Pr where
 name:List Nat
 left:Nat
 right:List (Bool×Nat)
 rn:Bool
 cond:Tr
 br:Bool
 rank:Int
 lay:List Br
 ln:Bool
 opens:Bool
 dec:Nat
 kind:Nat
 uses:Nat
 allow:Nat
structure Lv where
 pR:List Nat
 assoc:Nat
 cond:Tr
structure Fi where
 kind:Nat
 par:Nat
 at_:Nat
 child:Nat
 left:Nat
 tok:Nat
 tO:List Nat
 tn:Bool
 cond:Tr
structure Gr where
 nc:Nat
 cx:List (List Nat)
 fam:Tr
 tc:List Tr
 nT:List (List Nat)
 nx:List (List Nat)
 pR:List Pr
 lV:List Lv
 fI:List Fi
 st:Nat:=0
def aM (p:Pr):List AV:=[.s p.name,ι (p.left:Int),eR dO 2 p.rn p.right,tp (aE p.cond).1,ι ((aE p.cond).2:Int),.b p.br,ι p.rank,eR gH 3 p.ln p.lay,.b p.opens,ι (p.dec:Int),ι (p.kind:Int),ι (p.uses:Int),ι (p.allow:Int)]
def iK (l:Lv):List AV:=[eR cI 1 true l.pR,ι (l.assoc:Int),tp (aE l.cond).1,ι ((aE l.cond).2:Int)]
def eF (f:Fi):List AV:=[ι (f.kind:Int),ι (f.par:Int),ι (f.at_:Int),ι (f.child:Int),ι (f.left:Int),ι (f.tok:Int),eR cI 1 f.tn f.tO,tp (aE f.cond).1,ι ((aE f.cond).2:Int)]
def kj:Nat ->List Nat
 |0=>[105,100]
 |1=>[43]
 |2=>[42]
 |3=>[40]
 |4=>[41]
 |5=>[105,102]
 |6=>[101,108,115,101]
 |7=>[59]
 |8=>[94]
 |9=>[115,112,97,99,101]
 |_=>[114,101,109,97,114,107]
def jQ (i:Nat):List Nat:=if 1<=i/\ i<=8 then kj i else []
def l7 (i:Nat):Nat:=if i<9 then 0 else i-8
def wZ (i:Nat):List Nat:=if i=0 then [120] else []
abbrev PN:=Nat×Nat×Nat×Nat×Nat
def iF (p:PN):List AV:=[ι (p.1:Int),ι (p.2.1:Int),ι (p.2.2.1:Int),ι (p.2.2.2.1:Int),ι (p.2.2.2.2:Int)]
def jg:Nat ->List PN
 |0=>[(1,97,122,0,0),(1,97,122,0,0),(4,0,0,1,0),(2,0,0,0,2)]
 |9=>[(1,9,10,0,0),(1,32,32,0,0),(3,0,0,0,1),(1,9,10,0,0),(1,32,32,0,0),(3,0,0,3,4),(4,0,0,5,0),(2,0,0,2,6)]
 |10=>[(1,37,37,0,0),(1,97,122,0,0),(1,32,32,0,0),(3,0,0,1,2),(4,0,0,3,0),(2,0,0,0,4)]
 |_=>[]
def dq (x:Tr×Nat):List AV:=[.s (kj x.2),ι (l7 x.2:Int),.s (jQ x.2),eR iF 5 true (jg x.2),.s (wZ x.2),tp (aE x.1).1,ι ((aE x.1).2:Int)]
def fz (n:Nat):List (List Nat):=[[65],[66],[67]].take n
def bx (g:Gr):List AV:=[eX (fz g.nc) (g.cx.map AV.s),tp (aE g.fam).1,ι ((aE g.fam).2:Int),eR dq 7 true g.tc.zipIdx,eX g.nT (g.nx.map AV.s),eR aM 13 true g.pR,ι (g.st:Int),eR iK 4 true g.lV,eR eF 9 true g.fI]
def aI (g:Gr):AV:= .ag (bx g)
def iL {h L ex}:kg h (eX L ex)= .v (ι (L.length:Int)) h:=rfl
def Sz {h L ex i} (hi:i<L.length):nU h 1 i (eX L ex)= .v (.dp (L.map AV.s++ex) (i*1)) h:=by
 unfold eX;rw[yR,aF ⟨rfl,hi⟩,gB]
def SA {L:List (List Nat)} {ex i s} (h:L[i]? =some s):sub (L.map AV.s++ex) i 1=some [.s s]:=by
 have j:=(eC.1 h).1;refine qY ?_;rw[pL (by simpa using j),oh,h];rfl
def ad5 {n h}:∀L:List (List Nat),bJ n h (L.map AV.s)=some (L.map AV.s)
 |[]=>rfl
 |a::L=>by
  have e:deep n h (.s a)=some (.s a):=by cases n<;>rfl
  rw[jY,aL,e,ad5 L]
def Bt {n h} {L ex:List (List Nat)}:deep (n+1) h (eX L (ex.map AV.s))=some (eX L (ex.map AV.s)):=by
 have e:deep (n+1) h (.ds (L.map AV.s++ex.map AV.s) 0 L.length 1)=(match bJ n h (L.map AV.s++ex.map AV.s) with|some l=>some (.ds l 0 L.length 1)|none=>none):=rfl;unfold eX;rw[e,←kE,ad5]
def dH {n h k x}:deep n h (.i k x)=some (.i k x):=by cases n<;>rfl
def yW {n h x}:deep n h (.b x)=some (.b x):=by cases n<;>rfl
def oK {n h x}:deep n h (.s x)=some (.s x):=by cases n<;>rfl
def nW {n h B}:deep (n+1) h (tp B)=some (tp B):=by
 rcases B with _|⟨b,B⟩;rfl;have e:deep (n+1) h (.ds (dK (b::B)) 0 (b::B).length 3)=(match bJ n h (dK (b::B)) with|some l=>some (.ds l 0 (b::B).length 3)|none=>none):=rfl;show deep (n+1) h (.ds _ _ _ _)=_;rw[e,YR];rfl
def yX {n h} a:bJ n h (dO a)=some (dO a):=by simp only[dO,aL,bZ,dH,yW]
def yZ {n h} a:bJ n h (cI a)=some (cI a):=by simp only[cI,aL,bZ,dH]
def aN7 {n h} a:bJ n h (gH a)=some (gH a):=by simp only[gH,aL,bZ,dH]
def Eu {n h} a:bJ n h (iF a)=some (iF a):=by simp only[iF,aL,bZ,dH]
def y7 {n h} p:bJ (n+1) h (aM p)=some (aM p):=by
 simp only[aM,aL,bZ,dH,yW,oK,nW,eu yX,eu aN7]
def ko {n h} p:bJ (n+1) h (iK p)=some (iK p):=by
 simp only[iK,aL,bZ,dH,nW,eu yZ]
def ju {n h} p:bJ (n+1) h (eF p)=some (eF p):=by
 simp only[eF,aL,bZ,dH,nW,eu yZ]
def jD {n h} p:bJ (n+1) h (dq p)=some (dq p):=by
 simp only[dq,aL,bZ,dH,oK,nW,eu Eu]
def SB {n h} g:bJ (n+2) h (bx g)=some (bx g):=by
 simp only[bx,aL,bZ,dH,nW,Bt,eu jD,eu y7,eu ko,eu ju]
def nX {n h l d} (e:bJ n h l=some d):deep (n+1) h (.ag l)=some (.ag d):=by
 have e1:deep (n+1) h (.ag l)=(match bJ n h l with|some l=>some (AV.ag l)|none=>none):=rfl;rw[e1,e]
def kq {n h} g:deep (n+3) h (aI g)=some (aI g):=nX (SB g)
def SD {n}:∀{a b},nice.niceL n a=true ->nice.niceL n b=true ->nice.niceL n (a++b)=true
 |[],_,_,h=>h
 |x::a,b,h1,h2=>by
  rw[Bg,aB] at h1;rw[gw,Bg,aB];exact⟨h1.1,SD h1.2 h2⟩
def fE {α:Type} {enc n} (j:∀a,nice.niceL n (enc a)=true):∀L:List α,nice.niceL n (L.flatMap enc)=true
 |[]=>iq
 |a::L=>by rw[lE];exact SD (j a) (fE j L)
def A4 {α enc k n} (j:∀a,nice.niceL n (enc a)=true) {nl} {L:List α}:nice (n+1) (eR enc k nl L)=true:=by
 rcases L with _|⟨a,L⟩;cases nl;rw[IZ,nN,iq];exact Dk;rw[yT,nN,fE j]
def SE {n}:∀L:List (List Nat),nice.niceL n (L.map AV.s)=true
 |[]=>iq
 |a::L=>by rw[jY,Bg,ye,SE L];rfl
def aN8 {n} {L ex:List (List Nat)}:nice (n+1) (eX L (ex.map AV.s))=true:=by
 unfold eX;rw[nN,←kE,SE]
def jE {n} a:nice.niceL n (dO a)=true:=by simp only[dO,Bg,iq,G7,j9,A7]
def tS {n} a:nice.niceL n (cI a)=true:=by simp only[cI,Bg,iq,j9,A7]
def SF {n} a:nice.niceL n (gH a)=true:=by simp only[gH,Bg,iq,j9,A7]
def aN9 {n} a:nice.niceL n (iF a)=true:=by simp only[iF,Bg,iq,j9,A7]
def RV {n} p:nice.niceL (n+1) (aM p)=true:=by
 simp only[aM,Bg,iq,j9,G7,ye,yF,A4 jE,A4 SF,A7]
def aO0 {n} p:nice.niceL (n+1) (iK p)=true:=by
 simp only[iK,Bg,iq,j9,yF,A4 tS,A7]
def aO1 {n} p:nice.niceL (n+1) (eF p)=true:=by
 simp only[eF,Bg,iq,j9,yF,A4 tS,A7]
def oM {n} p:nice.niceL (n+1) (dq p)=true:=by
 simp only[dq,Bg,iq,j9,ye,yF,A4 aN9,A7]
def aO2 {n} g:nice.niceL (n+2) (bx g)=true:=by
 simp only[bx,Bg,iq,j9,yF,aN8,A4 oM,A4 RV,A4 aO0,A4 aO1,A7]
def iW {g}:nice 64 (.ag (bx g))=true:=by rw[qe,aO2]
def gO a:(dO a).length=2:=rfl
def qw a:(cI a).length=1:=rfl
def aO3 a:(gH a).length=3:=rfl
def kr a:(aM a).length=13:=rfl
def Ev a:(iK a).length=4:=rfl
def JP a:(eF a).length=9:=rfl
def qx a:(dq a).length=7:=rfl
def JQ {L ex}:ew (eX L ex)=true:=rfl
def aO4 {L ex}:cellsO (eX L ex)=some [eX L ex]:=rfl
def aO5 {L ex}:cellsOf (eX L ex)=[eX L ex]:=rfl
def aO6 {B}:cellsO (tp B)=some [tp B]:=by cases B<;>rfl
def aO7 {B}:cellsOf (tp B)=[tp B]:=by cases B<;>rfl
def fj {C:aK Prop} (A:lQ C) {c} {S:List Fr} {K} n (I:Nat ->T AV ->AH ->Prop)
 (step:∀i τ h,i<n ->I i τ h ->(∀τ' h',I (i+1) τ' h' ->df C (.loop c) S K τ' h') ->df C c (.s (.loop c)::S) K τ h)
 (j:∀τ h,I n τ h ->df C c (.s (.loop c)::S) K τ h):∀τ h,I 0 τ h ->df C (.loop c) S K τ h:=by
 have key:∀d i,i+d=n ->∀τ h,I i τ h ->df C (.loop c) S K τ h:=by
  intro d;induction d with
  |zero=>
   intro i hi τ h hI;rw[qj A];obtain rfl:i=n:=by omega
   exact j τ h hI
  |succ d B=>
   intro i hi τ h hI;rw[qj A];exact step i τ h ω hI (B (i+1) ω)
 exact key n 0 ω
def syX:=ec @iL<|ec @JQ<|ec @aO4<|ec @aO5<|ec @aO6 @aO7
class Nc {α:Type} (enc:α ->List AV):Prop where
 h:∀n a,nice.niceL (n+2) (enc a)=true
instance:Nc dO:=⟨λ_ _=>jE _⟩
instance:Nc cI:=⟨λ_ _=>tS _⟩
instance:Nc gH:=⟨λ_ _=>SF _⟩
instance:Nc iF:=⟨λ_ _=>aN9 _⟩
instance:Nc aM:=⟨λ_ _=>RV _⟩
instance:Nc iK:=⟨λ_ _=>aO0 _⟩
instance:Nc eF:=⟨λ_ _=>aO1 _⟩
instance:Nc dq:=⟨λ_ _=>oM _⟩
def aS9 {α:Type} {enc:α ->List AV} [i:Nc enc] {k n nl} {L:List α}:nice (n+3) (eR enc k nl L)=true:=A4 (i.h n)
def bc6 {α:Type} {enc:α ->List AV} [i:Nc enc] {k n} {L:List α}:nice (n+3) (.dp (L.flatMap enc) k)=true:=by rw[fK,fE (i.h n)]
attribute [go_sem] syX aS9 bc6 qe Bg iq j9 ye G7 jE tS SF aN9 RV aO0 aO1 oM aO2 bG dw aS7
structure Tn where
 prod:Int
 tok:Int
 text:List Nat
 rem:List (List Nat)
def jT (s:List Nat):List AV:=[.s s]
def fG (t:Tn):List AV:=[.i .i64 t.prod,.i .i64 t.tok,.s t.text,eR jT 1 true t.rem]
structure Ru where
 p:Int
 s:Int
 k:Int
 n:Int
def uC (r:Ru):List AV:=[.i .i64 r.p,.i .i64 r.s,.i .i64 r.k,.i .i64 r.n]
def Qm r:(uC r).length=4:=rfl
def sS:Nat ->List Nat
 |0=>[120]
 |1=>[121]
 |2=>[97,98]
 |3=>[105,102]
 |4=>[122]
 |_=>[101,108,115,101]
def tY:Nat ->List Nat
 |0=>[37]
 |1=>[37,97]
 |_=>[37,98,32,99]
def PG (R:List (List Nat)):Prop:=R.length<=2/\∀x∈R,∃k,k<3/\ x=tY k
def bF6 (i:Nat) (s:List Nat):Prop:=s=jQ i∨s=[120]∨∃k,k<6/\ s=sS k
def bS4 {R k} (h:∀x∈R,∃k,k<3/\ x=tY k) (A:k<3):∀x∈R++[tY k],∃k,k<3/\ x=tY k:=λx j=>by
 rcases fO.1 j with j|j;exact h x j;exact⟨k,A,yC.1 j⟩
end
end AM
namespace AM
open Go
noncomputable section
section
variable {κ ν:Type} {ek:κ ->AV} {en:ν ->AV}
def SH {n}:∀l:List Nat,Bf n l=decide (n∈l)
 |[]=>rfl
 |a::l=>by
  show(Nat.beq a n||Bf n l)=_;rw[SH l,bu];by_cases h:a=n;simp[h];have:¬n=a:=λe=>h e.symm;simp[h,this]
def oN (ek:κ ->AV) (en:ν ->AV) (seen:List Nat):Nat ->List (κ×ν) ->List (AV×AV×Nat)
 |_,[]=>[]
 |i,(k,v)::r=>if i∈seen then oN ek en seen (i+1) r else (ek k,en v,i)::oN ek en seen (i+1) r
def SI seen:∀l i,vQ seen (di ek en i l)=some (oN ek en seen i l)
 |[],_=>rfl
 |(k,v)::r,i=>by
  show(bif Bf i seen then vQ seen (di ek en (i+1) r) else match vQ seen (di ek en (i+1) r) with|some t=>some ((ek k,en v,i)::t)|none=>none)=_;rw[SI seen r (i+1),SH];by_cases h:i∈seen<;>simp[oN,h]
def Ew {seen e}:∀{l i},e∈oN ek en seen i l ->∃j k v,l[j]? =some (k,v)/\ e=(ek k,en v,i+j)/\ i+j∉seen
 |[],i,h=>by simp[oN] at h
 |(k,v)::r,i,h=>by
  simp only[oN] at h;split at h;obtain⟨j,k',v',h1,h2,A⟩:=Ew h;exact⟨j+1,k',v',by simpa using h1,by rw[h2];simp;omega,by rw[show i+(j+1)=i+1+j by omega];exact A⟩;rename_i hi;rcases ey.1 h with rfl|h;exact⟨0,k,v,rfl,rfl,hi⟩;obtain⟨j,k',v',h1,h2,A⟩:=Ew h;exact⟨j+1,k',v',by simpa using h1,by rw[h2];simp;omega,by rw[show i+(j+1)=i+1+j by omega];exact A⟩
def SJ {seen}:∀{l i},oN ek en seen i l=[] ->∀j,j<l.length ->i+j∈seen
 |[],i,_,j,hj=>by simp at hj
 |(k,v)::r,i,h,j,hj=>by
  simp only[oN] at h;split at h;rename_i hi;rcases j with _|j;exact hi;rw[show i+(j+1)=i+1+j by omega];exact SJ h j (by simpa using hj);cases h
def SK {seen:List Nat} {n}:∀l,(∀e∈l,e.2.2<n) ->vR n l=true
 |[],_=>rfl
 |e::l,h=>by
  show(Nat.ble (Nat.succ e.2.2) n&&vR n l)=true;have h1:Nat.ble (Nat.succ e.2.2) n=true:=by rw[wX];simp;have:=h e (by simp);omega
  rw[h1,SK (seen:=seen) l λA j=>h A (by simp[j])];rfl
def bS5 {b}:∀{l i j k v},l[j]? =some (k,v) ->b=i+j ->pU b (di ek en i l)=some (ek k,en v,b)
 |[],i,j,k,v,h,_=>by simp at h
 |(k',v')::r,i,0,k,v,h,hb=>by
  simp at h;obtain⟨rfl,rfl⟩:=h;show(bif Nat.beq i b then some (ek k',en v',i) else pU b (di ek en (i+1) r))=_;rw[bu];simp[hb]
 |(k',v')::r,i,j+1,k,v,h,hb=>by
  simp at h;show(bif Nat.beq i b then some (ek k',en v',i) else pU b (di ek en (i+1) r))=_;have A:¬i=b:=by omega
  rw[bu,ot A,eU];exact bS5 h ω
def SM b:∀s x,(List.rec (motive:=λ_=>Option Nat ->Option Nat) (λr=>r) (λa _ j _=>j (some a)) (s++[b]) x:Option Nat)=some b
 |[],x=>rfl
 |a::s,x=>SM b s (some a)
variable {C:aK Prop}
def SN (A:lQ C) {f}:∀{l},l≠[] ->(∀e∈l,f e.1 e.2) ->gQ C f l
 |[],h,_=>bh rfl h
 |[e],_,h=>h e (by simp)
 |e::b::r,_,h=>by
  show C.both (f e.1 e.2) (gQ C f (b::r));rw[A.both];exact⟨h e (by simp),SN A (by simp) λB j=>h B (by simp[j])⟩
def SO (R:lQ C) {l o m ver seen h τ x d ops} {S:List Fr} {K} (U:h.oB.get m=some (.map ver (di ek en 0 l) l.length)) (V:h.oB.get o=some (.mit (some m) l.length seen l.length)) (W:az C τ x= .p o 0)
 (D:(∀i,i<l.length ->i∈seen) ->lu C ops S K (τ.put d (.tu [.b false])) h)
 (A:∀(i) k v,l[i]? =some (k,v) ->i∉seen ->lu C ops S K (τ.put d (.tu [.b true,ek k,en v])) ⟨h.next,h.ver+1,h.oB.put o (.mit (some m) l.length (seen++[i]) l.length)⟩):
 lu C (⟨some d,.nxt x false,none⟩::ops) S K τ h:=by
 rw[D9];have e1:step (az C τ) h (.nxt x false)=vS h o false:=by
  show(match az C τ x with
  | .p o off=>bif Nat.beq off 0 then vS h o false else .bad
  |_=> .bad)=_
  rw[W];rfl
 have I:zN seen l.length (di ek en 0 l)=true:=by
  unfold zN;rcases seen with _|⟨a,s⟩;rfl;rcases l with _|⟨e,r⟩;rfl;show Nat.ble (Nat.succ 0) _=true;rw[wX];simp
 have E:vR l.length (oN ek en seen 0 l)=true:=SK (seen:=seen) _ λe B=>by
  obtain⟨j,k,v,h1,h2,_⟩:=Ew B;have:=(eC.1 h1).1;rw[h2];dsimp only;omega
 have N:h.get o=some (.mit (some m) l.length seen l.length):=V;have H:h.get m=some (.map ver (di ek en 0 l) l.length):=U;have e2:vS h o false=(match oN ek en seen 0 l with
  |[]=> .v (.tu [.b false]) h
  |[e]=> .v (.tu [.b true,e.1,e.2.1]) ⟨h.next,h.ver+1,h.oB.put o (.mit (some m) l.length (seen++[e.2.2]) l.length)⟩
  |q=> .alts (q.map λe=>(AV.tu [.b true,e.1,e.2.1],⟨h.next,h.ver+1,h.oB.put o (.mit (some m) l.length (seen++[e.2.2]) l.length)⟩))):=by
  unfold vS;rw[N];dsimp only;rw[eU,H];dsimp only;rw[I,jk,eU,SI];dsimp only;rw[E,fC];have Z:∀q:List (AV×AV×Nat),eM (λe:AV×AV×Nat=>some (AV.tu [.b true,e.1,e.2.1],(⟨h.next,h.ver.succ,h.oB.put o (.mit (some m) l.length (seen++[e.2.2]) l.length)⟩:AH))) q=some (q.map λe=>(AV.tu [.b true,e.1,e.2.1],⟨h.next,h.ver+1,h.oB.put o (.mit (some m) l.length (seen++[e.2.2]) l.length)⟩)):=by
   intro q;induction q with
   |nil=>rfl
   |cons a q Y=>rw[lJ,Y];rfl
  rcases oN ek en seen 0 l with _|⟨e,_|⟨b,r⟩⟩;rfl;simp only[jz,AH.put_eq];have:=Z (e::b::r);simp only[jz,AH.put_eq];rw[this]
 have st:∀e∈oN ek en seen 0 l,lu C ops S K (τ.put d (.tu [.b true,e.1,e.2.1])) ⟨h.next,h.ver+1,h.oB.put o (.mit (some m) l.length (seen++[e.2.2]) l.length)⟩:=by
  intro e B;obtain⟨j,k,v,h1,h2,J⟩:=Ew B;rw[h2];simp only[gB] at J ⊢;exact A j k v h1 J
 rw[e1,e2];rcases L:oN ek en seen 0 l with _|⟨a,r⟩;rw[IM];exact D λi hi=>by have:=SJ L i hi;simpa using this
 rw[L] at st;rcases r with _|⟨b,r⟩;rw[IM];exact st a (by simp);show gQ C (λx h=>lu C ops S K (τ.put d x) h) ((a::b::r).map λe=>(AV.tu [.b true,e.1,e.2.1],(⟨h.next,h.ver+1,h.oB.put o (.mit (some m) l.length (seen++[e.2.2]) l.length)⟩:AH)));refine SN R (by simp) λe B=> ?_;obtain⟨O,G,rfl⟩:=sV.1 B;exact st O G
def SP {l o m ver i seen h ev x k v} (B:h.oB.get m=some (.map ver (di ek en 0 l) l.length)) (D:h.oB.get o=some (.mit (some m) l.length (seen++[i]) l.length)) (E:ev x= .p o 0) (hi:l[i]? =some (k,v)):step ev h (.ent x)= .v (.tu [ek k,en v]) h:=by
 have e1:step ev h (.ent x)=vT h o:=by
  show(match ev x with
  | .p o off=>bif Nat.beq off 0 then vT h o else .bad
  |_=> .bad)=_
  rw[E];rfl
 have A:h.get o=some (.mit (some m) l.length (seen++[i]) l.length):=D;have j:h.get m=some (.map ver (di ek en 0 l) l.length):=B;rw[e1];unfold vT;rw[A];dsimp only;rw[j];dsimp only;rw[SM];dsimp only;rw[bS5 hi ω,bu];simp
def SQ {l m ver h ev x} (A:h.oB.get m=some (.map ver (di ek en 0 l) l.length)) (B:ev x= .m m):step ev h (.rng x false)= .v (.p h.next 0) ⟨h.next+1,h.ver,h.oB.put h.next (.mit (some m) l.length [] l.length)⟩:=by
 have j:h.get m=some (.map ver (di ek en 0 l) l.length):=A;show(match ev x with
  | .s l=>bif false then h.new (.sit l 0) λo h=>da.v (.p o 0) h else da.bad
  | .mn=>bif false then da.bad else h.new (.mit none 0 [] 0) λo h=>da.v (.p o 0) h
  | .m o=>bif false then da.bad else match h.get o with
   |some (.map _ _ cl)=>h.new (.mit (some o) cl [] cl) λo h=>da.v (.p o 0) h
   |_=>da.bad
  |_=>da.bad)=_
 rw[B];dsimp only;rw[eU,j];dsimp only;rw[AH.new_eq]
end
end
end AM
namespace AM
open Dg Go
noncomputable section
def aO8:((List.range 4).all λn=>(iy 3).all λt=> !jq n t||(aE t).1.all λb=>decide (b.1<n))=true:=lR
def aO9 {n t} (A:n<=3) (j:cA 3 t=true) (hd:jq n t=true):∀b∈(aE t).1,b.1<n:=by
 have h:=fX.1 aO8 n (mA.2 ω);have h2:=fX.1 h t (Ie j);simp only[hd,jk,zC,fX,aU] at h2;exact h2
structure sG (n:Nat) (t:Tr):Prop where
 f:cA 3 t=true
 d:jq n t=true
variable {P:Program} {X:aR} {GL:T (List AV)} {ae:T au}
variable (S:aT P X GL ae)
def SR (R:bz8 ae) (A:dY P X GL) (F:bz8 ae) {n t} (D:n<=3) (B:sG n t) h:bP P X GL 283 [eT t,ι (n)] h (.b true) h:=by
 refine dR S (n:=9) ?_ (by simp only[aL,jB,bZ,dH]) h;refine bg.intro λC E=> ?_;have G:=aO9 D B.f B.d;have J:=(A.dia B.f).len;refine E.bS (F.f 283) (Y2 @eT.eq_1 @eD.eq_1 ?_);refine E.cN (A.rc B.f _) (Y0 ?_);refine fj E.ok (aE t).1.length (λi τ h=>cG (h.oB.get 0)=some [tp (aE t).1,ι ((aE t).2:Int)]/\ τ.get 1=some (ι (n:Int))/\ τ.get 2=some (.p 0 0)/\ τ.get 5=some (ι (i:Int))) ?_ ?_ _ _ ⟨?_,?_,?_,?_⟩;rintro i τ ⟨n1,ver,ob⟩ hi ⟨c0,t1,t2,t5⟩ H;have j:(aE t).1[i]? =some (aE t).1[i]:=ef hi;have e0:sub (dK (aE t).1) (i*3) 1=some [ι (((aE t).1[i]).1:Int)]:=by have:=nQ j 0 1 ω;simpa[gH] using this
 have I:=G _ (dI j);dsimp only at c0;refine Y6 c0 t1 t2 t5 @I4 e0 ?_;refine H _ _ ⟨c0,?_,?_,?_⟩<;>exact U2 t1 t2;rintro τ ⟨n1,ver,ob⟩ ⟨c0,t1,t2,t5⟩;dsimp only at c0;refine Y3 c0 t2 t5 ?_;exact⟨1,rfl⟩;all_goals exact U0
def Bu (p:Pr) (k v lo hi:Nat):Prop:=(k=0/\ v=0)∨(1<=k/\ (∃j,p.right[k-1]? =some (true,j))/\ lo<=v/\ v<=hi)
def SS (p:Pr):Prop:=p.rank=0/\ p.lay=[]/\ p.opens=false/\ p.dec=0/\ p.kind=0/\ p.uses=0/\ p.allow=0/\∃i j,p.right=[(true,i),(false,p.left),(true,j)]
structure sH (nc nt:Nat) (p:Pr):Prop where
 name:p.name≠[]
 left:p.left<nt
 sym:∀s∈p.right,(s.1=true/\ s.2<9)∨(s.1=false/\ s.2<nt)
 len:p.right.length<=8
 lay:∀c∈p.lay,1<=c.1/\ c.1<=4/\ c.2.1<p.right.length/\ c.2.2<p.right.length/\ (c.1=1 ->c.2.2=0)
 layl:p.lay.length<=16
 cond:sG nc p.cond
 rank: -1<=p.rank/\ p.rank<=1
 dec:Bu p p.dec p.kind 1 7
 uses:Bu p p.uses p.allow 0 255
 br:p.br=true ->SS p
def ST {f p r d} (A:∀n h,bJ n h r=some r) (j:bg P X GL ae f (.ag (aM p)::r) d) h:bP P X GL f (.ag (aM p)::r) h d h:=
 dR S j (n:=9) (by rw[aL,nX (n:=8) (y7 (n:=7) p),A]) h
end
end AM
namespace AM
open Go
noncomputable section
def aP0 {a b}:aY .eql (.s a) (.s b)=some (.b (decide (a=b))):=by
 show rb (nF a b)=_;unfold rb;rw[rR,mH]
def aP1 {a b}:aY .neq (.s a) (.s b)=some (.b (!decide (a=b))):=by
 show rb (!(nF a b))=_;unfold rb;rw[rR,mH]
def aP2:aY .add (ι 0) (ι 1)=some (ι 1):=rfl
def JR (h:AH) (esz o n:Nat) (new:List AV):da:=gD h (.sl o 0 n (some n) esz) 1 new esz
def JS (h:AH) (esz o n:Nat) (new:List AV):Option (List AV) ->da
 |some L=>if L.length=n*esz/\ n+1<=1048576 then .v (.sl h.next 0 (n+1) none esz) ⟨h.next+1,h.ver,h.oB.put h.next (.cells h.ver (L++new))⟩ else JR h esz o n new
 |none=>JR h esz o n new
variable {h:AH}
def JT {esz o n o2 new}:Qj h esz (.sl o 0 n (some n) esz) o2 (some new)=if new.length=esz/\ wV new=true then JS h esz o n new (cG (h.oB.get o)) else yL h esz (.sl o 0 n (some n) esz) o2:=by
 show(if new.length=esz/\ wV new=true then ID h esz (.sl o 0 n (some n) esz) new else yL h esz (.sl o 0 n (some n) esz) o2)=_;by_cases A:new.length=esz/\ wV new=true;rw[aF A,aF A];rcases E:cG (h.oB.get o) with _|L;rfl;unfold JS;dsimp only;by_cases B:L.length=n*esz/\ n+1<=1048576;rw[aF B];have G:h.cells o=some L:=E;have e:gD h (.sl o 0 n (some n) esz) 1 new esz=(match h.cells o with
  |none=>da.bad
  |some l=>fN (n+1) λj=>bif !(Nat.beq esz esz&&(Nat.ble j 1048576&&wV new)) then .bad else
   bif Nat.ble j n then
    match eL new l (0+n*esz) with
    |some l'=>h.put o (.cells (Nat.succ h.ver) l') λh=> .v (.sl o 0 j (some n) esz) h
    |none=> .bad
   else match sub l 0 (n*esz) with
    |some old=>match fy old new with
     |some l=>h.new (.cells h.ver l) λo h=> .v (.sl o 0 j none esz) h
     |none=> .bad
    |none=> .bad):=rfl
 show gD h (.sl o 0 n (some n) esz) 1 new esz=_;rw[e,G];have hb:Nat.ble (n+1) n=false:=by rw[wX];simp
 simp only[dT,bu,wX,B.2,A.2,mC,A7,jk,eU,mM B.1,jz,AH.new_eq];have D:decide (n+1<=n)=false:=by simp
 simp only[D,eU];rw[aD B];rfl;rw[aD A,aD A]
def JU {esz o n new L}:JS h esz o n new (some L)=if L.length=n*esz/\ n+1<=1048576 then .v (.sl h.next 0 (n+1) none esz) ⟨h.next+1,h.ver,h.oB.put h.next (.cells h.ver (L++new))⟩ else JR h esz o n new:=rfl
def iB:=ec @tM<|ec @IE<|ec @IF<|ec @Ra<|ec @Rb<|ec @JT @JU
attribute [go_sem] aP0 aP1 aP2
def JV {ev A x b l j n k} (h1:ev x= .ds l j n A) (h2:ff (ev b)=some k) (B:k<=n):step ev h (.slc A x none (some b) none)= .v (.ds l j k A) h:=by
 rw[Oi h1,aF rfl];have e:d7 n n (nO ev none) (nO ev (some b)) none=some (0,k,n):=by
  rw[uO,uP,h2];show(bif Nat.ble n n&&Nat.ble k n&&Nat.ble 0 k then some (0,k,n) else none)=_;have D:Nat.ble n n=true:=by rw[wX];simp
  have E:Nat.ble k n=true:=by rw[wX];simpa using B
  have G:Nat.ble 0 k=true:=rfl;rw[D,E,G];rfl
 rw[e];simp
def SU {ev A x a l j n k} (h1:ev x= .ds l j n A) (h2:ff (ev a)=some k) (B:k<=n):step ev h (.slc A x (some a) none none)= .v (.ds l (j+k*A) (n-k) A) h:=by
 rw[Oi h1,aF rfl];have e:d7 n n (nO ev (some a)) (nO ev none) none=some (k,n,n):=by
  rw[uO,uP,h2];show(bif Nat.ble n n&&Nat.ble n n&&Nat.ble k n then some (k,n,n) else none)=_;have D:Nat.ble n n=true:=by rw[wX];simp
  have E:Nat.ble k n=true:=by rw[wX];simpa using B
  rw[D,E];rfl
 rw[e]
def JW {l j n esz r} (e:sub l j (n*esz)=some r):eI h esz (.ds l j n esz)=some r:=by
 show(bif Nat.beq esz esz then sub l j (n*esz) else none)=_;rw[bu];simpa using e
def JX {esz o a n c e l j} (A:sub l j 0=some []):gU h esz (.sl o a n c e) (.ds l j 0 esz)= .v (.sl o a n c e) h:=by
 have e1:eI h esz (.ds l j 0 esz)=some []:=JW (by rw[ue];exact A);show(match ij (.ds l j 0 esz),eI h esz (.ds l j 0 esz) with|some n',some l=>gD h (.sl o a n c e) n' l esz|_,_=> .bad)=_;rw[e1];rfl
def Bv {esz o l A n new} (E:sub l A ((n+1)*esz)=some new) (H:wV new=true) (D:cG (h.oB.get o)=some []) (G:n+1<=1048576):gU h esz (.sl o 0 0 (some 0) esz) (.ds l A (n+1) esz)= .v (.sl h.next 0 (n+1) none esz) ⟨h.next+1,h.ver,h.oB.put h.next (.cells h.ver new)⟩:=by
 have e1:eI h esz (.ds l A (n+1) esz)=some new:=JW E;show(match ij (.ds l A (n+1) esz),eI h esz (.ds l A (n+1) esz) with|some n',some l=>gD h (.sl o 0 0 (some 0) esz) n' l esz|_,_=> .bad)=_;rw[e1];show gD h (.sl o 0 0 (some 0) esz) (n+1) new esz=_;have e:gD h (.sl o 0 0 (some 0) esz) (n+1) new esz=(match h.cells o with
  |none=>da.bad
  |some l=>fN (0+(n+1)) λj=>bif !(Nat.beq esz esz&&(Nat.ble j 1048576&&wV new)) then .bad else
   bif Nat.ble j 0 then
    match eL new l (0+0*esz) with
    |some l'=>h.put o (.cells (Nat.succ h.ver) l') λh=> .v (.sl o 0 j (some 0) esz) h
    |none=> .bad
   else match sub l 0 (0*esz) with
    |some old=>match fy old new with
     |some l=>h.new (.cells h.ver l) λo h=> .v (.sl o 0 j none esz) h
     |none=> .bad
    |none=> .bad):=rfl
 have B:h.cells o=some []:=D;have z:sub ([]:List AV) 0 0=some []:=rfl;rw[e,B];simp only[dT,bu,wX,gB,G,H,mC,A7,jk,eU,ue,z,jz,gx,AH.new_eq];have q:decide (n+1<=0)=false:=by simp
 simp only[q,eU]
def aP3 {esz o k l j n new L} (G:sub l j ((n+1)*esz)=some new) (I:wV new=true) (E:cG (h.oB.get o)=some L) (D:L.length=k*esz) (H:k+(n+1)<=1048576):gU h esz (.sl o 0 k none esz) (.ds l j (n+1) esz)= .v (.sl h.next 0 (k+(n+1)) none esz) ⟨h.next+1,h.ver+1,(h.oB.put o .gone).put h.next (.cells (h.ver+1) (L++new))⟩:=by
 have e1:eI h esz (.ds l j (n+1) esz)=some new:=JW G;show(match ij (.ds l j (n+1) esz),eI h esz (.ds l j (n+1) esz) with|some n',some l=>gD h (.sl o 0 k none esz) n' l esz|_,_=> .bad)=_;rw[e1];show gD h (.sl o 0 k none esz) (n+1) new esz=_;have e:gD h (.sl o 0 k none esz) (n+1) new esz=(match h.cells o with
  |none=>da.bad
  |some l=>fN (k+(n+1)) λA=>bif !(Nat.beq esz esz&&(Nat.ble A 1048576&&wV new)) then .bad else
   match sub l 0 (k*esz) with
   |some old=>match fy old new with
    |some l=>h.put o .gone λh=>h.new (.cells h.ver l) λo h=> .v (.sl o 0 A none esz) h
    |none=> .bad
   |none=> .bad):=rfl
 have B:h.cells o=some L:=E;rw[e,B];simp only[dT,bu,wX,H,I,mC,A7,jk,eU,mM D,jz,AH.put_eq,AH.new_eq]
def w7 {α:Type} {enc} (j:∀a,wV (enc a)=true):∀L:List α,wV (L.flatMap enc)=true
 |[]=>rfl
 |a::L=>by
  have app:∀x y:List AV,wV x=true ->wV y=true ->wV (x++y)=true:=by
   intro x;induction x with
   |nil=>intro y _ h;exact h
   |cons b x A=>intro y h1 h2;rw[Ei,aB] at h1;rw[gw,Ei,h1.1,A y h1.2 h2];rfl
  rw[lE];exact app _ _ (j a) (w7 j L)
def JY {α:Type} {enc:α ->List AV} {k} (j:∀a,(enc a).length=k) {L:List α} {i n} (h:i+n<=L.length):sub (L.flatMap enc) (i*k) (n*k)=some (((L.drop i).take n).flatMap enc):=by
 have h2:(i+n)*k<=L.length*k:=ni k h;rw[nq] at h2;rw[nH,aF (by rw[kh j];omega)];congr 1;have e:L.flatMap enc=(L.take i).flatMap enc++(((L.drop i).take n).flatMap enc++((L.drop i).drop n).flatMap enc):=by
  rw[←Bd,←Bd,vJ,vJ]
 have A:((L.take i).flatMap enc).length=i*k:=by rw[kh j,jm,kF ω]
 have B:(((L.drop i).take n).flatMap enc).length=n*k:=by rw[kh j,jm,sU,kF ω]
 rw[e,←A,List.drop_left,←B,List.take_left]
end
end AM
namespace AM
open Dg Go
noncomputable section
structure rd (g:Gr) (f:Fi):Prop where
 cond:sG g.nc f.cond
 kinds:((f.kind=1∨f.kind=2)/\ f.left=0/\ f.tok=0/\ f.tO=[]/\ (∃pp cp,g.pR[f.par]? =some pp/\ g.pR[f.child]? =some cp/\ pp.right[f.at_]? =some (false,cp.left)))∨
  ((f.kind=3∨f.kind=4)/\ f.par=0/\ f.at_=0/\ f.child=0/\ f.tok=0/\ f.left<g.nT.length/\ f.tO≠[]/\ (∀t∈f.tO,t<9)/\ (∀(i a b:Nat),f.tO[i]? =some a ->f.tO[i+1]? =some b ->a<b))∨
  (f.kind=5/\ f.par=0/\ f.at_=0/\ f.child=0/\ f.left=0/\ f.tok=0/\ f.tO≠[]/\ (∀t∈f.tO,1<=t/\ t<9)/\ (∀(i a b:Nat),f.tO[i]? =some a ->f.tO[i+1]? =some b ->a<b))
 tl:f.tO.length<=16
structure oy (g:Gr):Prop where
 nc:g.nc<=3
 fam:sG g.nc g.fam
 famr:(aE g.fam).2≠0
 tcl:g.tc.length=11
 tc:∀c∈g.tc,sG g.nc c
 ntl:1<=g.nT.length/\ g.nT.length<=4
 st:g.st<g.nT.length
 ntn:∀s∈g.nT,s≠[]
 ntd:∀(i j:Nat) (s:List Nat),g.nT[i]? =some s ->g.nT[j]? =some s ->i=j
 pl:g.pR.length<=100
 p:∀p∈g.pR,sH g.nc g.nT.length p
 pd:∀(i j:Nat) (p q:Pr),g.pR[i]? =some p ->g.pR[j]? =some q ->p.name=q.name ->i=j
 ll:g.lV.length<=100
 l:∀l∈g.lV,l.assoc<=3/\ sG g.nc l.cond/\ l.pR.length<=100
 lp:∀x∈g.lV.flatMap (·.pR),x<g.pR.length
 ld:(g.lV.flatMap (·.pR)).Nodup
 fl:g.fI.length<=100
 f:∀f∈g.fI,rd g f
variable {P:Program} {X:aR} {GL:T (List AV)} {ae:T au}
variable (S:aT P X GL ae)
def ku {f g r d} (A:∀n h,bJ (n+3) h r=some r) (j:bg P X GL ae f (aI g::r) d) h:bP P X GL f (aI g::r) h d h:=
 dR S j (n:=9) (by rw[aL,kq (n:=6),A 6]) h
def re {g:Gr} (tl:g.tc.length=11) {i} (hi:i<11):∃c,g.tc[i]? =some c/\ g.tc.zipIdx[i]? =some (c,i):=by
 have j:i<g.tc.length:=by omega
 exact⟨g.tc[i],ef j,by simp[Cd,ef j]⟩
def JZ {i} (h:i<9):l7 i=0:=by simp[l7,h]
def u7 (p:Pr):Bool:=match p.right with
 |[s0,s1,s2]=>s0.1&&(s2.1&&(!s1.1&&decide (s1.2=p.left)))
 |_=>false
def y8:eH 6 (.ag [(0,1,false,(.lf .b)),(1,1,false,(.lf .i)),(2,1,false,(.lf .i)),(3,1,false,(.lf .i)),(4,1,false,(.lf .i))]) (.ag [.b false,ι 0,ι 0,ι 0,ι 0]) (.ag [.b false,ι 0,ι 0,ι 0,ι 0])=some true:=rfl
def aP4 (F:bz8 ae) {p} (h1:p.rank=0) (h2:p.lay=[]) (L:p.opens=false) (N:p.dec=0) (O:p.kind=0) (R:p.uses=0) (U:p.allow=0) (hl:p.right.length<=8) h:bP P X GL 282 [.ag (aM p)] h (.b (u7 p)) h:=by
 refine ST S (λn h=>rfl) ?_ h;refine bg.intro λC E=> ?_;rw[E.cB (F.f 282)];by_cases h0:p.right.length=3;obtain⟨I,B,J,H⟩:∃I B J,p.right=[I,B,J]:=by
  rcases Z:p.right with _|⟨a,_|⟨b,_|⟨c,_|_⟩⟩⟩<;>simp[Z] at h0 ⊢
 have Y:p.right[0]? =some I:=by rw[H];rfl
 have g1:p.right[1]? =some B:=by rw[H];rfl
 have g2:p.right[2]? =some J:=by rw[H];rfl
 have e0:sub (p.right.flatMap dO) 0 1=some [.b I.1]:=cW gO Y (j:=0) (n:=1) ω;have e1:sub (p.right.flatMap dO) 2 1=some [.b B.1]:=cW gO g1 (j:=0) (n:=1) ω;have e2:sub (p.right.flatMap dO) 3 1=some [ι (B.2:Int)]:=cW gO g1 (j:=1) (n:=1) ω;have e3:sub (p.right.flatMap dO) 4 1=some [.b J.1]:=cW gO g2 (j:=0) (n:=1) ω;have e4:u7 p=(I.1&&(J.1&&(!B.1&&decide (B.2=p.left)))):=by unfold u7;rw[H]
 rw[e4];have c3:((3:Nat):Int)=3:=rfl;have z3:(3:Int)=3:=rfl;have A:∀k,nice 64 (.dp (p.right.flatMap dO) k)=true:=λk=>by rw[fK,fE jE]
 have ne:nice 64 (eR dO 2 p.rn p.right)=true:=A4 jE;by_cases G:I.1=true;by_cases b2:J.1=true;by_cases V:B.1=true;refine qk @aM.eq_1 h0 c3 h1 h2 L N O R U @y8 e0 e1 (ec e2<|ec e3<|ec G<|ec V<|ec b2<|ec A<|ne) ?_;exact⟨1,rfl⟩;simp only[Ce] at V;by_cases b3:B.2=p.left;have D:((B.2:Int)=(p.left:Int))=True:=cJ;refine qk @aM.eq_1 h0 c3 h1 h2 L N O R U @y8 e0 e1 (ec e2<|ec e3<|ec G<|ec V<|ec b2<|ec D<|ec A<|ne) ?_;exact⟨1,by simp[deep]⟩;have D:((B.2:Int)=(p.left:Int))=False:=cE;refine qk @aM.eq_1 h0 c3 h1 h2 L N O R U @y8 e0 e1 (ec e2<|ec e3<|ec G<|ec V<|ec b2<|ec D<|ec A<|ne) ?_;exact⟨1,by simp[deep]⟩;simp only[Ce] at b2;refine qk @aM.eq_1 h0 c3 h1 h2 L N O R U @y8 e0 e1 (ec e2<|ec e3<|ec G<|ec b2<|ec A<|ne) ?_;exact⟨1,rfl⟩;simp only[Ce] at G;refine qk @aM.eq_1 h0 c3 h1 h2 L N O R U @y8 e0 e1 (ec e2<|ec e3<|ec G<|ec A<|ne) ?_;exact⟨1,rfl⟩;have W:((p.right.length:Int)=3)=False:=cE;have e4:u7 p=false:=by
  unfold u7;split;rename_i H;rw[H] at h0;simp at h0;rfl
 rw[e4];refine Y2 @aM.eq_1 W ?_;exact⟨1,rfl⟩
def aP5:∀i j,i<11 ->j<11 ->kj i=kj j ->i=j:=by
 have h:(List.range 11).all (λi=>(List.range 11).all λj=>decide (kj i=kj j ->i=j))=true:=lR;intro i j hi A e;have:=fX.1 (fX.1 h i (mA.2 hi)) j (mA.2 A);exact decide_eq_true_eq.mp this e
def aP6:∀i,kj i≠[]:=by
 intro i;unfold kj;split<;>simp
def nY {α:Type} {L:List α} {i a} (h:L[i]? =some a):L.take (i+1)=L.take i++[a]:=by
 rw[List.take_add_one,h];rfl
end
end AM
