import Derived.Test.YtihgjngjidijaaaGreatDoorN10
import Derived.Test.YtihgjngjidijaaaGreatDoorN11
import Derived.Test.YtihgjngjidijaaaGreatDoorN12
import Derived.Test.YtihgjngjidijaaaGreatDoorN13
import Derived.Test.YtihgjngjidijaaaGreatDoorN14
import Derived.Test.YtihgjngjidijaaaGreatDoorN15
set_option linter.all false
set_option maxHeartbeats 1000000
namespace AM
open Dg Go
noncomputable section
def Et {p:Tr ->Bool} (h:∀i,i<16 ->(dC i).all p=true):∀t∈iy 3,p t=true:=by
 have e:iy 3=(List.range 16).flatMap dC:=af;intro t ht;rw[e,Ll] at ht;obtain⟨i,hi,hm⟩:=ht;exact fX.1 (h i (mA.1 hi)) t hm
def aN2:(iy 3).all Pg=true:=af
def aN3 (GL:T (List AV)):∀t∈iy 3,lY GL t=true:=Et λi hi=>by
 rcases(show i=0∨i=1∨i=2∨i=3∨i=4∨i=5∨i=6∨i=7∨i=8∨i=9∨i=10∨i=11∨i=12∨i=13∨i=14∨i=15 by omega) with rfl|rfl|rfl|rfl|rfl|rfl|rfl|rfl|rfl|rfl|rfl|rfl|rfl|rfl|rfl|rfl
 ·exact dA0 GL
 ·exact dA1 GL
 ·exact dA2 GL
 ·exact dA3 GL
 ·exact dA4 GL
 ·exact dA5 GL
 ·exact dA6 GL
 ·exact dA7 GL
 ·exact dA8 GL
 ·exact dA9 GL
 ·exact aM0 GL
 ·exact aM1 GL
 ·exact aM2 GL
 ·exact aM3 GL
 ·exact aM4 GL
 ·exact aM5 GL
def aN4 (GL:T (List AV)):∀t∈iy 3,lZ GL t=true:=Et λi hi=>by
 rcases(show i=0∨i=1∨i=2∨i=3∨i=4∨i=5∨i=6∨i=7∨i=8∨i=9∨i=10∨i=11∨i=12∨i=13∨i=14∨i=15 by omega) with rfl|rfl|rfl|rfl|rfl|rfl|rfl|rfl|rfl|rfl|rfl|rfl|rfl|rfl|rfl|rfl
 ·exact dB0 GL
 ·exact dB1 GL
 ·exact dB2 GL
 ·exact dB3 GL
 ·exact dB4 GL
 ·exact dB5 GL
 ·exact dB6 GL
 ·exact dB7 GL
 ·exact dB8 GL
 ·exact dB9 GL
 ·exact aM6 GL
 ·exact aM7 GL
 ·exact aM8 GL
 ·exact aM9 GL
 ·exact aN0 GL
 ·exact aN1 GL
variable {P:Program} {X:aR} {GL:T (List AV)} {ae:T au}
variable (S:aT P X GL ae)
def aN5 (F:eV ae):dY P X GL:=λt ht=>by
 have hm:=ss ht;have hb:=fX.1 aN2 t hm;unfold Pg at hb;simp only[aB,aU] at hb;obtain⟨⟨⟨h1,h2⟩,h3⟩,h4⟩:=hb;refine⟨at9 h1,h2,h3,h4,λh=> ?_⟩;exact dR S (hY (aI9 F) iE (aN3 GL t hm)) (n:=9) (by simp only[aL,jB,bZ]) h
def aN6 (F:eL ae) {t:Tr} (ht:cA 3 t=true) (h:AH):bP P X GL 404 [eT t] h (ι 0) h:=
 dR S (hY (aJ1 F) iE (aN4 GL t (ss ht))) (n:=9) (by simp only[aL,jB,bZ]) h
def str (s:String):List Nat:=s.toUTF8.toList.map (·.toNat)
def ba (s:Bool×Nat):List AV:=[.b s.1,ι (s.2:Int)]
def cI (n:Nat):List AV:=[ι (n:Int)]
def eX (L:List (List Nat)) (ex:List AV):AV:= .ds (L.map AV.s++ex) 0 L.length 1
structure Pr where
 name:List Nat
 left:Nat
 right:List (Bool×Nat)
 rn:Bool
 cond:Tr
 br:Bool
 rank:Int
 lay:List Br
 ln:Bool
 opens:Bool
 dec:Nat
 kind:Nat
 uses:Nat
 allow:Nat
structure Lv where
 pR:List Nat
 assoc:Nat
 cond:Tr
structure Fi where
 kind:Nat
 par:Nat
 at_:Nat
 child:Nat
 left:Nat
 tok:Nat
 tO:List Nat
 tn:Bool
 cond:Tr
structure Gr where
 nc:Nat
 cx:List (List Nat)
 fam:Tr
 tc:List Tr
 nT:List (List Nat)
 nx:List (List Nat)
 pR:List Pr
 lV:List Lv
 fI:List Fi
 st:Nat:=0
def aM (p:Pr):List AV:=[.s p.name,ι (p.left:Int),eR ba 2 p.rn p.right,cu (aE p.cond).1,ι ((aE p.cond).2:Int),.b p.br,ι p.rank,eR gH 3 p.ln p.lay,.b p.opens,ι (p.dec:Int),ι (p.kind:Int),ι (p.uses:Int),ι (p.allow:Int)]
def iK (l:Lv):List AV:=[eR cI 1 true l.pR,ι (l.assoc:Int),cu (aE l.cond).1,ι ((aE l.cond).2:Int)]
def eF (f:Fi):List AV:=[ι (f.kind:Int),ι (f.par:Int),ι (f.at_:Int),ι (f.child:Int),ι (f.left:Int),ι (f.tok:Int),eR cI 1 f.tn f.tO,cu (aE f.cond).1,ι ((aE f.cond).2:Int)]
def kj:Nat ->List Nat
 |0=>[105,100]
 |1=>[43]
 |2=>[42]
 |3=>[40]
 |4=>[41]
 |5=>[105,102]
 |6=>[101,108,115,101]
 |7=>[59]
 |8=>[94]
 |9=>[115,112,97,99,101]
 |_=>[114,101,109,97,114,107]
def jQ (i:Nat):List Nat:=if 1<=i/\ i<=8 then kj i else []
def l7 (i:Nat):Nat:=if i<9 then 0 else i-8
def wZ (i:Nat):List Nat:=if i=0 then [120] else []
abbrev PN:=Nat×Nat×Nat×Nat×Nat
def iF (p:PN):List AV:=[ι (p.1:Int),ι (p.2.1:Int),ι (p.2.2.1:Int),ι (p.2.2.2.1:Int),ι (p.2.2.2.2:Int)]
def jg:Nat ->List PN
 |0=>[(1,97,122,0,0),(1,97,122,0,0),(4,0,0,1,0),(2,0,0,0,2)]
 |9=>[(1,9,10,0,0),(1,32,32,0,0),(3,0,0,0,1),(1,9,10,0,0),(1,32,32,0,0),(3,0,0,3,4),(4,0,0,5,0),(2,0,0,2,6)]
 |10=>[(1,37,37,0,0),(1,97,122,0,0),(1,32,32,0,0),(3,0,0,1,2),(4,0,0,3,0),(2,0,0,0,4)]
 |_=>[]
def dq (x:Tr×Nat):List AV:=[.s (kj x.2),ι (l7 x.2:Int),.s (jQ x.2),eR iF 5 true (jg x.2),.s (wZ x.2),cu (aE x.1).1,ι ((aE x.1).2:Int)]
def fz (n:Nat):List (List Nat):=[[65],[66],[67]].take n
def ar (g:Gr):List AV:=[eX (fz g.nc) (g.cx.map AV.s),cu (aE g.fam).1,ι ((aE g.fam).2:Int),eR dq 7 true g.tc.zipIdx,eX g.nT (g.nx.map AV.s),eR aM 13 true g.pR,ι (g.st:Int),eR iK 4 true g.lV,eR eF 9 true g.fI]
def aI (g:Gr):AV:= .ag (ar g)
def iL {h L ex}:kg h (eX L ex)= .v (ι (L.length:Int)) h:=rfl
def Sz {h L ex} {i:Nat} (hi:i<L.length):nU h 1 i (eX L ex)= .v (.dp (L.map AV.s++ex) (i*1)) h:=by
 unfold eX;rw[yR,aF ⟨rfl,hi⟩,gB]
def SA {L:List (List Nat)} {ex:List AV} {i:Nat} {s:List Nat} (h:L[i]? =some s):sub (L.map AV.s++ex) i 1=some [.s s]:=by
 have hl:=(eC.1 h).1;refine qY ?_;rw[pL (by simpa using hl),oh,h];rfl
def Bs {n:Nat} {h:AH}:∀L:List (List Nat),bJ n h (L.map AV.s)=some (L.map AV.s)
 |[]=>rfl
 |a::L=>by
  have e:deep n h (.s a)=some (.s a):=by cases n<;>rfl
  rw[jY,aL,e,Bs L]
def Bt {n:Nat} {h:AH} {L ex:List (List Nat)}:deep (n+1) h (eX L (ex.map AV.s))=some (eX L (ex.map AV.s)):=by
 have e:deep (n+1) h (.ds (L.map AV.s++ex.map AV.s) 0 L.length 1)=(match bJ n h (L.map AV.s++ex.map AV.s) with|some l=>some (.ds l 0 L.length 1)|none=>none):=rfl;unfold eX;rw[e,←kE,Bs]
def dH {n h k x}:deep n h (.i k x)=some (.i k x):=by cases n<;>rfl
def yW {n h x}:deep n h (.b x)=some (.b x):=by cases n<;>rfl
def oK {n h x}:deep n h (.s x)=some (.s x):=by cases n<;>rfl
def nW {n h} {B:List Br}:deep (n+1) h (cu B)=some (cu B):=by
 cases B with
 |nil=>rfl
 |cons b B=>
  have e:deep (n+1) h (.ds (dK (b::B)) 0 (b::B).length 3)=(match bJ n h (dK (b::B)) with|some l=>some (.ds l 0 (b::B).length 3)|none=>none):=rfl;show deep (n+1) h (.ds _ _ _ _)=_;rw[e,D0];rfl
def yX {n h} (a:Bool×Nat):bJ n h (ba a)=some (ba a):=by simp only[ba,aL,bZ,dH,yW]
def yZ {n h} (a:Nat):bJ n h (cI a)=some (cI a):=by simp only[cI,aL,bZ,dH]
def aN7 {n h} (a:Br):bJ n h (gH a)=some (gH a):=by simp only[gH,aL,bZ,dH]
def Eu {n h} (a:PN):bJ n h (iF a)=some (iF a):=by simp only[iF,aL,bZ,dH]
def y7 {n h} (p:Pr):bJ (n+1) h (aM p)=some (aM p):=by
 simp only[aM,aL,bZ,dH,yW,oK,nW,dA yX,dA aN7]
def ko {n h} (p:Lv):bJ (n+1) h (iK p)=some (iK p):=by
 simp only[iK,aL,bZ,dH,nW,dA yZ]
def ju {n h} (p:Fi):bJ (n+1) h (eF p)=some (eF p):=by
 simp only[eF,aL,bZ,dH,nW,dA yZ]
def jD {n h} (p:Tr×Nat):bJ (n+1) h (dq p)=some (dq p):=by
 simp only[dq,aL,bZ,dH,oK,nW,dA Eu]
def SB {n h} (g:Gr):bJ (n+2) h (ar g)=some (ar g):=by
 simp only[ar,aL,bZ,dH,nW,Bt,dA jD,dA y7,dA ko,dA ju]
def nX {n h l} (e:bJ n h l=some l):deep (n+1) h (.ag l)=some (.ag l):=by
 have e1:deep (n+1) h (.ag l)=(match bJ n h l with|some l=>some (AV.ag l)|none=>none):=rfl;rw[e1,e]
def kq {n h} (g:Gr):deep (n+3) h (aI g)=some (aI g):=nX (SB g)
def SD {n:Nat}:∀{a b:List AV},nice.niceL n a=true ->nice.niceL n b=true ->nice.niceL n (a++b)=true
 |[],_,_,h=>h
 |x::a,b,h1,h2=>by
  rw[iu,aB] at h1;rw[gw,iu,aB];exact⟨h1.1,SD h1.2 h2⟩
def fE {α:Type} {enc:α ->List AV} {n:Nat} (hn:∀a,nice.niceL n (enc a)=true):∀L:List α,nice.niceL n (L.flatMap enc)=true
 |[]=>iq
 |a::L=>by rw[lE];exact SD (hn a) (fE hn L)
def dg {α:Type} {enc:α ->List AV} {k n:Nat} (hn:∀a,nice.niceL n (enc a)=true) {nl} {L:List α}:nice (n+1) (eR enc k nl L)=true:=by
 cases L with
 |nil=>
  cases nl
  ·rw[IZ,nN,iq]
  ·exact Dk
 |cons a L=>rw[yT,nN,fE hn]
def SE {n:Nat}:∀L:List (List Nat),nice.niceL n (L.map AV.s)=true
 |[]=>iq
 |a::L=>by rw[jY,iu,ye,SE L];rfl
def aN8 {n:Nat} {L ex:List (List Nat)}:nice (n+1) (eX L (ex.map AV.s))=true:=by
 unfold eX;rw[nN,←kE,SE]
def jE {n} (a:Bool×Nat):nice.niceL n (ba a)=true:=by simp only[ba,iu,iq,G7,j9,g9]
def tS {n} (a:Nat):nice.niceL n (cI a)=true:=by simp only[cI,iu,iq,j9,g9]
def SF {n} (a:Br):nice.niceL n (gH a)=true:=by simp only[gH,iu,iq,j9,g9]
def aN9 {n} (a:PN):nice.niceL n (iF a)=true:=by simp only[iF,iu,iq,j9,g9]
def iV {n} (p:Pr):nice.niceL (n+1) (aM p)=true:=by
 simp only[aM,iu,iq,j9,G7,ye,yF,dg jE,dg SF,g9]
def aO0 {n} (p:Lv):nice.niceL (n+1) (iK p)=true:=by
 simp only[iK,iu,iq,j9,yF,dg tS,g9]
def aO1 {n} (p:Fi):nice.niceL (n+1) (eF p)=true:=by
 simp only[eF,iu,iq,j9,yF,dg tS,g9]
def oM {n} (p:Tr×Nat):nice.niceL (n+1) (dq p)=true:=by
 simp only[dq,iu,iq,j9,ye,yF,dg aN9,g9]
def aO2 {n} (g:Gr):nice.niceL (n+2) (ar g)=true:=by
 simp only[ar,iu,iq,j9,yF,aN8,dg oM,dg iV,dg aO0,dg aO1,g9]
def iW {g:Gr}:nice 64 (.ag (ar g))=true:=by rw[qe,aO2]
def gO (a:Bool×Nat):(ba a).length=2:=rfl
def qw (a:Nat):(cI a).length=1:=rfl
def aO3 (a:Br):(gH a).length=3:=rfl
def kr (a:Pr):(aM a).length=13:=rfl
def Ev (a:Lv):(iK a).length=4:=rfl
def JP (a:Fi):(eF a).length=9:=rfl
def qx (a:Tr×Nat):(dq a).length=7:=rfl
def JQ {L ex}:ew (eX L ex)=true:=rfl
def aO4 {L ex}:cellsO (eX L ex)=some [eX L ex]:=rfl
def aO5 {L ex}:cellsOf (eX L ex)=[eX L ex]:=rfl
def aO6 {B:List Br}:cellsO (cu B)=some [cu B]:=by cases B<;>rfl
def aO7 {B:List Br}:cellsOf (cu B)=[cu B]:=by cases B<;>rfl
def fj {C:aK Prop} (hC:lQ C) {c:aw} {S:List Fr} {K:K Prop} (n:Nat) (I:Nat ->T AV ->AH ->Prop)
 (step:∀i τ h,i<n ->I i τ h ->(∀τ' h',I (i+1) τ' h' ->df C (.loop c) S K τ' h') ->df C c (.s (.loop c)::S) K τ h)
 (last:∀τ h,I n τ h ->df C c (.s (.loop c)::S) K τ h):∀τ h,I 0 τ h ->df C (.loop c) S K τ h:=by
 have key:∀d i,i+d=n ->∀τ h,I i τ h ->df C (.loop c) S K τ h:=by
  intro d;induction d with
  |zero=>
   intro i hi τ h hI;rw[qj hC];obtain rfl:i=n:=by omega
   exact last τ h hI
  |succ d ih=>
   intro i hi τ h hI;rw[qj hC];exact step i τ h ω hI (ih (i+1) ω)
 exact key n 0 ω
def syX:=ap @iL<|ap @JQ<|ap @aO4<|ap @aO5<|ap @aO6 @aO7
attribute [go_sem] syX
end
end AM
namespace AM
open Go
noncomputable section
section
variable {κ ν:Type} {ek:κ ->AV} {en:ν ->AV}
def SH {n:Nat}:∀l:List Nat,vP n l=decide (n∈l)
 |[]=>rfl
 |a::l=>by
  show(Nat.beq a n||vP n l)=_;rw[SH l,bu];by_cases h:a=n
  ·simp[h]
  ·have:¬n=a:=λe=>h e.symm;simp[h,this]
def oN (ek:κ ->AV) (en:ν ->AV) (seen:List Nat):Nat ->List (κ×ν) ->List (AV×AV×Nat)
 |_,[]=>[]
 |i,(k,v)::r=>if i∈seen then oN ek en seen (i+1) r else (ek k,en v,i)::oN ek en seen (i+1) r
def SI (seen:List Nat):∀(l:List (κ×ν)) (i:Nat),vQ seen (di ek en i l)=some (oN ek en seen i l)
 |[],_=>rfl
 |(k,v)::r,i=>by
  show(bif vP i seen then vQ seen (di ek en (i+1) r) else match vQ seen (di ek en (i+1) r) with|some t=>some ((ek k,en v,i)::t)|none=>none)=_;rw[SI seen r (i+1),SH];by_cases h:i∈seen<;>simp[oN,h]
def Ew {seen:List Nat} {e:AV×AV×Nat}:∀{l:List (κ×ν)} {i:Nat},e∈oN ek en seen i l ->∃j k v,l[j]? =some (k,v)/\ e=(ek k,en v,i+j)/\ i+j∉seen
 |[],i,h=>by simp[oN] at h
 |(k,v)::r,i,h=>by
  simp only[oN] at h;split at h
  ·obtain⟨j,k',v',h1,h2,h3⟩:=Ew h;exact⟨j+1,k',v',by simpa using h1,by rw[h2];simp;omega,by rw[show i+(j+1)=i+1+j by omega];exact h3⟩
  ·rename_i hi;rcases ed.1 h with rfl|h
   ·exact⟨0,k,v,rfl,rfl,hi⟩
   ·obtain⟨j,k',v',h1,h2,h3⟩:=Ew h;exact⟨j+1,k',v',by simpa using h1,by rw[h2];simp;omega,by rw[show i+(j+1)=i+1+j by omega];exact h3⟩
def SJ {seen:List Nat}:∀{l:List (κ×ν)} {i:Nat},oN ek en seen i l=[] ->∀j,j<l.length ->i+j∈seen
 |[],i,_,j,hj=>by simp at hj
 |(k,v)::r,i,h,j,hj=>by
  simp only[oN] at h;split at h
  ·rename_i hi;cases j with
   |zero=>exact hi
   |succ j=>rw[show i+(j+1)=i+1+j by omega];exact SJ h j (by simpa using hj)
  ·cases h
def SK {seen:List Nat} {n:Nat}:∀(l:List (AV×AV×Nat)),(∀e∈l,e.2.2<n) ->vR n l=true
 |[],_=>rfl
 |e::l,h=>by
  show(Nat.ble (Nat.succ e.2.2) n&&vR n l)=true;have h1:Nat.ble (Nat.succ e.2.2) n=true:=by rw[dm];simp;have:=h e (by simp);omega
  rw[h1,SK (seen:=seen) l λe' he'=>h e' (by simp[he'])];rfl
def SL {b:Nat}:∀{l:List (κ×ν)} {i j:Nat} {k:κ} {v:ν},l[j]? =some (k,v) ->b=i+j ->pU b (di ek en i l)=some (ek k,en v,b)
 |[],i,j,k,v,h,_=>by simp at h
 |(k',v')::r,i,0,k,v,h,hb=>by
  simp at h;obtain⟨rfl,rfl⟩:=h;show(bif Nat.beq i b then some (ek k',en v',i) else pU b (di ek en (i+1) r))=_;rw[bu];simp[hb]
 |(k',v')::r,i,j+1,k,v,h,hb=>by
  simp at h;show(bif Nat.beq i b then some (ek k',en v',i) else pU b (di ek en (i+1) r))=_;have dc:¬i=b:=by omega
  rw[bu,ot dc,eU];exact SL h ω
def SM (b:Nat):∀(s:List Nat) (x:Option Nat),(List.rec (motive:=λ_=>Option Nat ->Option Nat) (λr=>r) (λa _ ih _=>ih (some a)) (s++[b]) x:Option Nat)=some b
 |[],x=>rfl
 |a::s,x=>SM b s (some a)
variable {C:aK Prop}
def SN (hC:lQ C) {f:AV ->AH ->Prop}:∀{l:List (AV×AH)},l≠[] ->(∀e∈l,f e.1 e.2) ->gQ C f l
 |[],h,_=>bh rfl h
 |[e],_,h=>h e (by simp)
 |e::b::r,_,h=>by
  show C.both (f e.1 e.2) (gQ C f (b::r));rw[hC.both];exact⟨h e (by simp),SN hC (by simp) λe' he'=>h e' (by simp[he'])⟩
def SO (hC:lQ C) {l:List (κ×ν)} {o m ver:Nat} {seen:List Nat} {h:AH} {τ:T AV} {x:MA} {d:Nat} {ops:List MG} {S:List Fr} {K:K Prop} (hm:h.oB.get m=some (.map ver (di ek en 0 l) l.length)) (ho:h.oB.get o=some (.mit (some m) l.length seen l.length)) (hx:az C τ x= .p o 0)
 (hend:(∀i,i<l.length ->i∈seen) ->lu C ops S K (τ.put d (.tu [.b false])) h)
 (hstep:∀(i:Nat) k v,l[i]? =some (k,v) ->i∉seen ->lu C ops S K (τ.put d (.tu [.b true,ek k,en v])) ⟨h.next,h.ver+1,h.oB.put o (.mit (some m) l.length (seen++[i]) l.length)⟩):
 lu C (⟨some d,.nxt x false,none⟩::ops) S K τ h:=by
 rw[D9];have e1:step (az C τ) h (.nxt x false)=vS h o false:=by
  show(match az C τ x with
  | .p o off=>bif Nat.beq off 0 then vS h o false else .bad
  |_=> .bad)=_
  rw[hx];rfl
 have hos:zN seen l.length (di ek en 0 l)=true:=by
  unfold zN;cases seen with
  |nil=>rfl
  |cons a s=>
   cases l with
   |nil=>rfl
   |cons e r=>show Nat.ble (Nat.succ 0) _=true;rw[dm];simp
 have hold:vR l.length (oN ek en seen 0 l)=true:=SK (seen:=seen) _ λe he=>by
  obtain⟨j,k,v,h1,h2,_⟩:=Ew he;have:=(eC.1 h1).1;rw[h2];dsimp only;omega
 have bT:h.get o=some (.mit (some m) l.length seen l.length):=ho;have hm':h.get m=some (.map ver (di ek en 0 l) l.length):=hm;have e2:vS h o false=(match oN ek en seen 0 l with
  |[]=> .v (.tu [.b false]) h
  |[e]=> .v (.tu [.b true,e.1,e.2.1]) ⟨h.next,h.ver+1,h.oB.put o (.mit (some m) l.length (seen++[e.2.2]) l.length)⟩
  |q=> .alts (q.map λe=>(AV.tu [.b true,e.1,e.2.1],⟨h.next,h.ver+1,h.oB.put o (.mit (some m) l.length (seen++[e.2.2]) l.length)⟩))):=by
  unfold vS;rw[bT];dsimp only;rw[eU,hm'];dsimp only;rw[hos,jk,eU,SI];dsimp only;rw[hold,fC];have mp:∀q:List (AV×AV×Nat),eM (λe:AV×AV×Nat=>some (AV.tu [.b true,e.1,e.2.1],(⟨h.next,h.ver.succ,h.oB.put o (.mit (some m) l.length (seen++[e.2.2]) l.length)⟩:AH))) q=some (q.map λe=>(AV.tu [.b true,e.1,e.2.1],⟨h.next,h.ver+1,h.oB.put o (.mit (some m) l.length (seen++[e.2.2]) l.length)⟩)):=by
   intro q;induction q with
   |nil=>rfl
   |cons a q ih=>rw[lJ,ih];rfl
  rcases oN ek en seen 0 l with _|⟨e,_|⟨b,r⟩⟩
  ·rfl
  ·simp only[jz,AH.put_eq]
  ·have:=mp (e::b::r);simp only[jz,AH.put_eq];rw[this]
 have st:∀e∈oN ek en seen 0 l,lu C ops S K (τ.put d (.tu [.b true,e.1,e.2.1])) ⟨h.next,h.ver+1,h.oB.put o (.mit (some m) l.length (seen++[e.2.2]) l.length)⟩:=by
  intro e he;obtain⟨j,k,v,h1,h2,h3⟩:=Ew he;rw[h2];simp only[gB] at h3 ⊢;exact hstep j k v h1 h3
 rw[e1,e2];cases hq:oN ek en seen 0 l with
 |nil=>
  rw[IM];exact hend λi hi=>by have:=SJ hq i hi;simpa using this
 |cons a r=>
  rw[hq] at st;cases r with
  |nil=>rw[IM];exact st a (by simp)
  |cons b r=>
   show gQ C (λx h=>lu C ops S K (τ.put d x) h) ((a::b::r).map λe=>(AV.tu [.b true,e.1,e.2.1],(⟨h.next,h.ver+1,h.oB.put o (.mit (some m) l.length (seen++[e.2.2]) l.length)⟩:AH)));refine SN hC (by simp) λe he=> ?_;obtain⟨e',he',rfl⟩:=sV.1 he;exact st e' he'
def SP {l:List (κ×ν)} {o m ver i:Nat} {seen:List Nat} {h:AH} {ev:MA ->AV} {x:MA} {k:κ} {v:ν} (hm:h.oB.get m=some (.map ver (di ek en 0 l) l.length)) (ho:h.oB.get o=some (.mit (some m) l.length (seen++[i]) l.length)) (hx:ev x= .p o 0) (hi:l[i]? =some (k,v)):step ev h (.ent x)= .v (.tu [ek k,en v]) h:=by
 have e1:step ev h (.ent x)=vT h o:=by
  show(match ev x with
  | .p o off=>bif Nat.beq off 0 then vT h o else .bad
  |_=> .bad)=_
  rw[hx];rfl
 have bT:h.get o=some (.mit (some m) l.length (seen++[i]) l.length):=ho;have hm':h.get m=some (.map ver (di ek en 0 l) l.length):=hm;rw[e1];unfold vT;rw[bT];dsimp only;rw[hm'];dsimp only;rw[SM];dsimp only;rw[SL hi ω,bu];simp
def SQ {l:List (κ×ν)} {m ver:Nat} {h:AH} {ev:MA ->AV} {x:MA} (hm:h.oB.get m=some (.map ver (di ek en 0 l) l.length)) (hx:ev x= .m m):step ev h (.rng x false)= .v (.p h.next 0) ⟨h.next+1,h.ver,h.oB.put h.next (.mit (some m) l.length [] l.length)⟩:=by
 have hm':h.get m=some (.map ver (di ek en 0 l) l.length):=hm;show(match ev x with
  | .s l=>bif false then h.new (.sit l 0) λo h=>ay.v (.p o 0) h else ay.bad
  | .mn=>bif false then ay.bad else h.new (.mit none 0 [] 0) λo h=>ay.v (.p o 0) h
  | .m o=>bif false then ay.bad else match h.get o with
   |some (.map _ _ cl)=>h.new (.mit (some o) cl [] cl) λo h=>ay.v (.p o 0) h
   |_=>ay.bad
  |_=>ay.bad)=_
 rw[hx];dsimp only;rw[eU,hm'];dsimp only;rw[AH.new_eq]
end
end
end AM
namespace AM
open Dg Go
noncomputable section
def aO8:((List.range 4).all λn=>(iy 3).all λt=> !jq n t||(aE t).1.all λb=>decide (b.1<n))=true:=af
def aO9 {n:Nat} {t:Tr} (hn:n<=3) (h3:cA 3 t=true) (hd:jq n t=true):∀b∈(aE t).1,b.1<n:=by
 have h:=fX.1 aO8 n (mA.2 ω);have h2:=fX.1 h t (ss h3);simp only[hd,jk,zC,fX,aU] at h2;exact h2
structure sG (n:Nat) (t:Tr):Prop where
 f:cA 3 t=true
 d:jq n t=true
variable {P:Program} {X:aR} {GL:T (List AV)} {ae:T au}
variable (S:aT P X GL ae)
def SR (R:eL ae) (A:dY P X GL) (F:jf ae) {n:Nat} {t:Tr} (hn:n<=3) (ht:sG n t) (h:AH):bP P X GL 278 [eT t,ι (n:Int)] h (.b true) h:=by
 refine dR S (n:=9) ?_ (by simp only[aL,jB,bZ,dH]) h;refine bg.intro λC E=> ?_;have hv:=aO9 hn ht.f ht.d;have hl:=(A t ht.f).len;refine E.bS F.f278 (Y4 @R1.eq_1 @eT.eq_1 @eD.eq_1 @h0.eq_1 ?_);refine E.cN (aN6 S R ht.f _) (Y0 ?_);refine fj E.ok (aE t).1.length (λi τ h=>cG (h.oB.get 0)=some [cu (aE t).1,ι ((aE t).2:Int)]/\ τ.get 1=some (ι (n:Int))/\ τ.get 2=some (.p 0 0)/\ τ.get 5=some (ι (i:Int))) ?_ ?_ _ _ ⟨?_,?_,?_,?_⟩
 ·rintro i τ ⟨n1,ver,ob⟩ hi ⟨c0,t1,t2,t5⟩ ih;have hbi:(aE t).1[i]? =some (aE t).1[i]:=cE hi;have e0:sub (dK (aE t).1) (i*3) 1=some [ι (((aE t).1[i]).1:Int)]:=by have:=nQ hbi 0 1 ω;simpa[gH] using this
  have aV:=hv _ (dI hbi);dsimp only at c0;refine Y7 c0 t1 t2 t5 @I4 e0 @bK ?_;refine ih _ _ ⟨c0,?_,?_,?_⟩<;>exact U2 t1 t2
 ·rintro τ ⟨n1,ver,ob⟩ ⟨c0,t1,t2,t5⟩;dsimp only at c0;refine Y4 c0 t1 t2 t5 ?_;exact⟨1,rfl⟩
 all_goals exact U0
def Bu (p:Pr) (k v lo hi:Nat):Prop:=(k=0/\ v=0)∨(1<=k/\ (∃j,p.right[k-1]? =some (true,j))/\ lo<=v/\ v<=hi)
def SS (p:Pr):Prop:=p.rank=0/\ p.lay=[]/\ p.opens=false/\ p.dec=0/\ p.kind=0/\ p.uses=0/\ p.allow=0/\∃i j,p.right=[(true,i),(false,p.left),(true,j)]
structure sH (nc nt:Nat) (p:Pr):Prop where
 name:p.name≠[]
 left:p.left<nt
 sym:∀s∈p.right,(s.1=true/\ s.2<9)∨(s.1=false/\ s.2<nt)
 len:p.right.length<=8
 lay:∀c∈p.lay,1<=c.1/\ c.1<=4/\ c.2.1<p.right.length/\ c.2.2<p.right.length/\ (c.1=1 ->c.2.2=0)
 layl:p.lay.length<=16
 cond:sG nc p.cond
 rank: -1<=p.rank/\ p.rank<=1
 dec:Bu p p.dec p.kind 1 7
 uses:Bu p p.uses p.allow 0 255
 br:p.br=true ->SS p
def ST {f:Nat} {p:Pr} {r:List AV} {d:AV} (hr:∀n h,bJ n h r=some r) (hp:bg P X GL ae f (.ag (aM p)::r) d) (h:AH):bP P X GL f (.ag (aM p)::r) h d h:=
 dR S hp (n:=9) (by rw[aL,nX (n:=8) (y7 (n:=7) p),hr]) h
end
end AM
namespace AM
open Go
noncomputable section
def aP0 {a b:List Nat}:aY .eql (.s a) (.s b)=some (.b (decide (a=b))):=by
 show rb (nF a b)=_;unfold rb;rw[rR,mH]
def aP1 {a b:List Nat}:aY .neq (.s a) (.s b)=some (.b (!decide (a=b))):=by
 show rb (!(nF a b))=_;unfold rb;rw[rR,mH]
def aP2:aY .add (ι 0) (ι 1)=some (ι 1):=rfl
def JR (h:AH) (esz o n:Nat) (new:List AV):ay:=gD h (.sl o 0 n (some n) esz) 1 new esz
def JS (h:AH) (esz o n:Nat) (new:List AV):Option (List AV) ->ay
 |some L=>if L.length=n*esz/\ n+1<=1048576 then .v (.sl h.next 0 (n+1) none esz) ⟨h.next+1,h.ver,h.oB.put h.next (.cells h.ver (L++new))⟩ else JR h esz o n new
 |none=>JR h esz o n new
def JT {h:AH} {esz o n o2:Nat} {new:List AV}:yM h esz (.sl o 0 n (some n) esz) o2 (some new)=if new.length=esz/\ cF new=true then JS h esz o n new (cG (h.oB.get o)) else yL h esz (.sl o 0 n (some n) esz) o2:=by
 show(if new.length=esz/\ cF new=true then ID h esz (.sl o 0 n (some n) esz) new else yL h esz (.sl o 0 n (some n) esz) o2)=_;by_cases hn:new.length=esz/\ cF new=true
 ·rw[aF hn,aF hn];cases hL:cG (h.oB.get o) with
  |none=>rfl
  |some L=>
   unfold JS;dsimp only;by_cases hl:L.length=n*esz/\ n+1<=1048576
   ·rw[aF hl];have hc:h.cells o=some L:=hL;have e:gD h (.sl o 0 n (some n) esz) 1 new esz=(match h.cells o with
     |none=>ay.bad
     |some l=>fN (n+1) λneed=>bif !(Nat.beq esz esz&&(Nat.ble need 1048576&&cF new)) then .bad else
      bif Nat.ble need n then
       match dW new l (0+n*esz) with
       |some l'=>h.put o (.cells (Nat.succ h.ver) l') λh=> .v (.sl o 0 need (some n) esz) h
       |none=> .bad
      else match sub l 0 (n*esz) with
       |some old=>match fy old new with
        |some l=>h.new (.cells h.ver l) λo h=> .v (.sl o 0 need none esz) h
        |none=> .bad
       |none=> .bad):=rfl
    show gD h (.sl o 0 n (some n) esz) 1 new esz=_;rw[e,hc];have hb:Nat.ble (n+1) n=false:=by rw[dm];simp
    simp only[dT,bu,dm,hl.2,hn.2,mC,g9,jk,eU,mM hl.1,jz,AH.new_eq];have hb2:decide (n+1<=n)=false:=by simp
    simp only[hb2,eU]
   ·rw[aD hl];rfl
 ·rw[aD hn,aD hn]
def JU {h:AH} {esz o n:Nat} {new L:List AV}:JS h esz o n new (some L)=if L.length=n*esz/\ n+1<=1048576 then .v (.sl h.next 0 (n+1) none esz) ⟨h.next+1,h.ver,h.oB.put h.next (.cells h.ver (L++new))⟩ else JR h esz o n new:=rfl
def iB:=ap @tM<|ap @IE<|ap @IF<|ap @Ra<|ap @Rb<|ap @JT @JU
attribute [go_sem] aP0 aP1 aP2
def JV {ev:MA ->AV} {h:AH} {es x b l off n k} (h1:ev x= .ds l off n es) (h2:fP (ev b)=some k) (hk:k<=n):step ev h (.slc es x none (some b) none)= .v (.ds l off k es) h:=by
 rw[Oi h1,aF rfl];have e:d7 n n (nO ev none) (nO ev (some b)) none=some (0,k,n):=by
  rw[uO,uP,h2];show(bif Nat.ble n n&&Nat.ble k n&&Nat.ble 0 k then some (0,k,n) else none)=_;have q1:Nat.ble n n=true:=by rw[dm];simp
  have q2:Nat.ble k n=true:=by rw[dm];simpa using hk
  have q3:Nat.ble 0 k=true:=rfl;rw[q1,q2,q3];rfl
 rw[e];simp
def SU {ev:MA ->AV} {h:AH} {es x a l off n k} (h1:ev x= .ds l off n es) (h2:fP (ev a)=some k) (hk:k<=n):step ev h (.slc es x (some a) none none)= .v (.ds l (off+k*es) (n-k) es) h:=by
 rw[Oi h1,aF rfl];have e:d7 n n (nO ev (some a)) (nO ev none) none=some (k,n,n):=by
  rw[uO,uP,h2];show(bif Nat.ble n n&&Nat.ble n n&&Nat.ble k n then some (k,n,n) else none)=_;have q1:Nat.ble n n=true:=by rw[dm];simp
  have q2:Nat.ble k n=true:=by rw[dm];simpa using hk
  rw[q1,q2];rfl
 rw[e]
def JW {h:AH} {l off n esz r} (e:sub l off (n*esz)=some r):eI h esz (.ds l off n esz)=some r:=by
 show(bif Nat.beq esz esz then sub l off (n*esz) else none)=_;rw[bu];simpa using e
def JX {h:AH} {esz o a n c e l off} (hl:sub l off 0=some []):gU h esz (.sl o a n c e) (.ds l off 0 esz)= .v (.sl o a n c e) h:=by
 have e1:eI h esz (.ds l off 0 esz)=some []:=JW (by rw[ue];exact hl);show(match ij (.ds l off 0 esz),eI h esz (.ds l off 0 esz) with|some n',some l=>gD h (.sl o a n c e) n' l esz|_,_=> .bad)=_;rw[e1];rfl
def Bv {h:AH} {esz o l off n new} (hl:sub l off ((n+1)*esz)=some new) (hs:cF new=true) (hc:cG (h.oB.get o)=some []) (hn:n+1<=1048576):gU h esz (.sl o 0 0 (some 0) esz) (.ds l off (n+1) esz)= .v (.sl h.next 0 (n+1) none esz) ⟨h.next+1,h.ver,h.oB.put h.next (.cells h.ver new)⟩:=by
 have e1:eI h esz (.ds l off (n+1) esz)=some new:=JW hl;show(match ij (.ds l off (n+1) esz),eI h esz (.ds l off (n+1) esz) with|some n',some l=>gD h (.sl o 0 0 (some 0) esz) n' l esz|_,_=> .bad)=_;rw[e1];show gD h (.sl o 0 0 (some 0) esz) (n+1) new esz=_;have e:gD h (.sl o 0 0 (some 0) esz) (n+1) new esz=(match h.cells o with
  |none=>ay.bad
  |some l=>fN (0+(n+1)) λneed=>bif !(Nat.beq esz esz&&(Nat.ble need 1048576&&cF new)) then .bad else
   bif Nat.ble need 0 then
    match dW new l (0+0*esz) with
    |some l'=>h.put o (.cells (Nat.succ h.ver) l') λh=> .v (.sl o 0 need (some 0) esz) h
    |none=> .bad
   else match sub l 0 (0*esz) with
    |some old=>match fy old new with
     |some l=>h.new (.cells h.ver l) λo h=> .v (.sl o 0 need none esz) h
     |none=> .bad
    |none=> .bad):=rfl
 have hc':h.cells o=some []:=hc;have z:sub ([]:List AV) 0 0=some []:=rfl;rw[e,hc'];simp only[dT,bu,dm,gB,hn,hs,mC,g9,jk,eU,ue,z,jz,gx,AH.new_eq];have q:decide (n+1<=0)=false:=by simp
 simp only[q,eU]
def aP3 {h:AH} {esz o k l off n new L} (hl:sub l off ((n+1)*esz)=some new) (hs:cF new=true) (hc:cG (h.oB.get o)=some L) (hL:L.length=k*esz) (hn:k+(n+1)<=1048576):gU h esz (.sl o 0 k none esz) (.ds l off (n+1) esz)= .v (.sl h.next 0 (k+(n+1)) none esz) ⟨h.next+1,h.ver+1,(h.oB.put o .gone).put h.next (.cells (h.ver+1) (L++new))⟩:=by
 have e1:eI h esz (.ds l off (n+1) esz)=some new:=JW hl;show(match ij (.ds l off (n+1) esz),eI h esz (.ds l off (n+1) esz) with|some n',some l=>gD h (.sl o 0 k none esz) n' l esz|_,_=> .bad)=_;rw[e1];show gD h (.sl o 0 k none esz) (n+1) new esz=_;have e:gD h (.sl o 0 k none esz) (n+1) new esz=(match h.cells o with
  |none=>ay.bad
  |some l=>fN (k+(n+1)) λneed=>bif !(Nat.beq esz esz&&(Nat.ble need 1048576&&cF new)) then .bad else
   match sub l 0 (k*esz) with
   |some old=>match fy old new with
    |some l=>h.put o .gone λh=>h.new (.cells h.ver l) λo h=> .v (.sl o 0 need none esz) h
    |none=> .bad
   |none=> .bad):=rfl
 have hc':h.cells o=some L:=hc;rw[e,hc'];simp only[dT,bu,dm,hn,hs,mC,g9,jk,eU,mM hL,jz,AH.put_eq,AH.new_eq]
def w7 {α:Type} {enc:α ->List AV} (hs:∀a,cF (enc a)=true):∀L:List α,cF (L.flatMap enc)=true
 |[]=>rfl
 |a::L=>by
  have app:∀x y:List AV,cF x=true ->cF y=true ->cF (x++y)=true:=by
   intro x;induction x with
   |nil=>intro y _ h;exact h
   |cons b x ih=>intro y h1 h2;rw[lT,aB] at h1;rw[gw,lT,h1.1,ih y h1.2 h2];rfl
  rw[lE];exact app _ _ (hs a) (w7 hs L)
def JY {α:Type} {enc:α ->List AV} {k:Nat} (hk:∀a,(enc a).length=k) {L:List α} {i n:Nat} (h:i+n<=L.length):sub (L.flatMap enc) (i*k) (n*k)=some (((L.drop i).take n).flatMap enc):=by
 have h2:(i+n)*k<=L.length*k:=ni k h;rw[nq] at h2;rw[nH,aF (by rw[kh hk];omega)];congr 1;have e:L.flatMap enc=(L.take i).flatMap enc++(((L.drop i).take n).flatMap enc++((L.drop i).drop n).flatMap enc):=by
  rw[←jl,←jl,vJ,vJ]
 have l1:((L.take i).flatMap enc).length=i*k:=by rw[kh hk,jm,kF ω]
 have l2:(((L.drop i).take n).flatMap enc).length=n*k:=by rw[kh hk,jm,sW,kF ω]
 rw[e,←l1,List.drop_left,←l2,List.take_left]
end
end AM
namespace AM
open Dg Go
noncomputable section
structure rd (g:Gr) (f:Fi):Prop where
 cond:sG g.nc f.cond
 kinds:((f.kind=1∨f.kind=2)/\ f.left=0/\ f.tok=0/\ f.tO=[]/\ (∃pp cp,g.pR[f.par]? =some pp/\ g.pR[f.child]? =some cp/\ pp.right[f.at_]? =some (false,cp.left)))∨
  ((f.kind=3∨f.kind=4)/\ f.par=0/\ f.at_=0/\ f.child=0/\ f.tok=0/\ f.left<g.nT.length/\ f.tO≠[]/\ (∀t∈f.tO,t<9)/\ (∀(i a b:Nat),f.tO[i]? =some a ->f.tO[i+1]? =some b ->a<b))∨
  (f.kind=5/\ f.par=0/\ f.at_=0/\ f.child=0/\ f.left=0/\ f.tok=0/\ f.tO≠[]/\ (∀t∈f.tO,1<=t/\ t<9)/\ (∀(i a b:Nat),f.tO[i]? =some a ->f.tO[i+1]? =some b ->a<b))
 tl:f.tO.length<=16
structure ce (g:Gr):Prop where
 nc:g.nc<=3
 fam:sG g.nc g.fam
 famr:(aE g.fam).2≠0
 tcl:g.tc.length=11
 tc:∀c∈g.tc,sG g.nc c
 ntl:1<=g.nT.length/\ g.nT.length<=4
 st:g.st<g.nT.length
 ntn:∀s∈g.nT,s≠[]
 ntd:∀(i j:Nat) (s:List Nat),g.nT[i]? =some s ->g.nT[j]? =some s ->i=j
 pl:g.pR.length<=100
 p:∀p∈g.pR,sH g.nc g.nT.length p
 pd:∀(i j:Nat) (p q:Pr),g.pR[i]? =some p ->g.pR[j]? =some q ->p.name=q.name ->i=j
 ll:g.lV.length<=100
 l:∀l∈g.lV,l.assoc<=3/\ sG g.nc l.cond/\ l.pR.length<=100
 lp:∀x∈g.lV.flatMap (·.pR),x<g.pR.length
 ld:(g.lV.flatMap (·.pR)).Nodup
 fl:g.fI.length<=100
 f:∀f∈g.fI,rd g f
variable {P:Program} {X:aR} {GL:T (List AV)} {ae:T au}
variable (S:aT P X GL ae)
def ku {f:Nat} {g:Gr} {r:List AV} {d:AV} (hr:∀n h,bJ (n+3) h r=some r) (hp:bg P X GL ae f (aI g::r) d) (h:AH):bP P X GL f (aI g::r) h d h:=
 dR S hp (n:=9) (by rw[aL,kq (n:=6),hr 6]) h
def re {g:Gr} (tl:g.tc.length=11) {i:Nat} (hi:i<11):∃c,g.tc[i]? =some c/\ g.tc.zipIdx[i]? =some (c,i):=by
 have aV:i<g.tc.length:=by omega
 exact⟨g.tc[i],cE aV,by simp[Cd,cE aV]⟩
def JZ {i:Nat} (h:i<9):l7 i=0:=by simp[l7,h]
def u7 (p:Pr):Bool:=match p.right with
 |[s0,s1,s2]=>s0.1&&(s2.1&&(!s1.1&&decide (s1.2=p.left)))
 |_=>false
def y8:eH 6 (.ag [(0,1,false,(.lf .b)),(1,1,false,(.lf .i)),(2,1,false,(.lf .i)),(3,1,false,(.lf .i)),(4,1,false,(.lf .i))]) (.ag [.b false,ι 0,ι 0,ι 0,ι 0]) (.ag [.b false,ι 0,ι 0,ι 0,ι 0])=some true:=rfl
def aP4 (F:jf ae) {p:Pr} (h1:p.rank=0) (h2:p.lay=[]) (h3:p.opens=false) (h4:p.dec=0) (h5:p.kind=0) (h6:p.uses=0) (h7:p.allow=0) (hl:p.right.length<=8) (h:AH):bP P X GL 277 [.ag (aM p)] h (.b (u7 p)) h:=by
 refine ST S (λn h=>rfl) ?_ h;refine bg.intro λC E=> ?_;rw[E.cB F.f277];by_cases h0:p.right.length=3
 ·obtain⟨s0,s1,s2,hr⟩:∃s0 s1 s2,p.right=[s0,s1,s2]:=by
   rcases hp:p.right with _|⟨a,_|⟨b,_|⟨c,_|_⟩⟩⟩<;>simp[hp] at h0 ⊢
  have g0:p.right[0]? =some s0:=by rw[hr];rfl
  have g1:p.right[1]? =some s1:=by rw[hr];rfl
  have g2:p.right[2]? =some s2:=by rw[hr];rfl
  have e0:sub (p.right.flatMap ba) 0 1=some [.b s0.1]:=cW gO g0 (j:=0) (n:=1) ω;have e1:sub (p.right.flatMap ba) 2 1=some [.b s1.1]:=cW gO g1 (j:=0) (n:=1) ω;have e2:sub (p.right.flatMap ba) 3 1=some [ι (s1.2:Int)]:=cW gO g1 (j:=1) (n:=1) ω;have e3:sub (p.right.flatMap ba) 4 1=some [.b s2.1]:=cW gO g2 (j:=0) (n:=1) ω;have e4:u7 p=(s0.1&&(s2.1&&(!s1.1&&decide (s1.2=p.left)))):=by unfold u7;rw[hr]
  rw[e4];have c3:((3:Nat):Int)=3:=rfl;have z3:(3:Int)=3:=rfl;have nc:nice 64 (.dp (p.right.flatMap ba) 0)=true:=by rw[fK,fE jE]
  have nc2:∀k,nice 64 (.dp (p.right.flatMap ba) k)=true:=λk=>by rw[fK,fE jE]
  have ne:nice 64 (eR ba 2 p.rn p.right)=true:=dg jE;by_cases b0:s0.1=true
  ·by_cases b2:s2.1=true
   ·by_cases b1:s1.1=true
    ·refine kJ @wU.eq_1 @aM.eq_1 @AM.h0.eq_1 h0 c3 h1 h2 h3 h4 h5 h6 h7 @qv @y8 @bG e0 e1 (ap e2<|ap e3<|ap b0<|ap b1<|ap b2<|ap nc2<|ne) ?_;exact⟨1,rfl⟩
    ·simp only[Ce] at b1;by_cases b3:s1.2=p.left
     ·have b3':((s1.2:Int)=(p.left:Int))=True:=cJ;refine kJ @wU.eq_1 @aM.eq_1 @AM.h0.eq_1 h0 c3 h1 h2 h3 h4 h5 h6 h7 @qv @y8 @bG e0 e1 (ap e2<|ap e3<|ap b0<|ap b1<|ap b2<|ap b3'<|ap nc2<|ne) ?_;exact⟨1,by simp[deep]⟩
     ·have b3':((s1.2:Int)=(p.left:Int))=False:=av;refine kJ @wU.eq_1 @aM.eq_1 @AM.h0.eq_1 h0 c3 h1 h2 h3 h4 h5 h6 h7 @qv @y8 @bG e0 e1 (ap e2<|ap e3<|ap b0<|ap b1<|ap b2<|ap b3'<|ap nc2<|ne) ?_;exact⟨1,by simp[deep]⟩
   ·simp only[Ce] at b2;refine kJ @wU.eq_1 @aM.eq_1 @AM.h0.eq_1 h0 c3 h1 h2 h3 h4 h5 h6 h7 @qv @y8 @bG e0 e1 (ap e2<|ap e3<|ap b0<|ap b2<|ap nc2<|ne) ?_;exact⟨1,rfl⟩
  ·simp only[Ce] at b0;refine kJ @wU.eq_1 @aM.eq_1 @AM.h0.eq_1 h0 c3 h1 h2 h3 h4 h5 h6 h7 @qv @y8 @bG e0 e1 (ap e2<|ap e3<|ap b0<|ap nc2<|ne) ?_;exact⟨1,rfl⟩
 ·have h0':((p.right.length:Int)=3)=False:=av;have e4:u7 p=false:=by
   unfold u7;split
   ·rename_i hr;rw[hr] at h0;simp at h0
   ·rfl
  rw[e4];refine Y4 @wU.eq_1 @aM.eq_1 @AM.h0.eq_1 h0' ?_;exact⟨1,rfl⟩
def aP5:∀i j,i<11 ->j<11 ->kj i=kj j ->i=j:=by
 have h:(List.range 11).all (λi=>(List.range 11).all λj=>decide (kj i=kj j ->i=j))=true:=af;intro i j hi hj e;have:=fX.1 (fX.1 h i (mA.2 hi)) j (mA.2 hj);exact decide_eq_true_eq.mp this e
def aP6:∀i,kj i≠[]:=by
 intro i;unfold kj;split<;>simp
def nY {α:Type} {L:List α} {i:Nat} {a:α} (h:L[i]? =some a):L.take (i+1)=L.take i++[a]:=by
 rw[List.take_add_one,h];rfl
end
end AM
