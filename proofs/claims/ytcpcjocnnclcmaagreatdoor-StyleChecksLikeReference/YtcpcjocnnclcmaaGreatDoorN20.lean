import Derived.Test.YtcpcjocnnclcmaaGreatDoorN10
import Derived.Test.YtcpcjocnnclcmaaGreatDoorN11
import Derived.Test.YtcpcjocnnclcmaaGreatDoorN12
import Derived.Test.YtcpcjocnnclcmaaGreatDoorN13
import Derived.Test.YtcpcjocnnclcmaaGreatDoorN14
import Derived.Test.YtcpcjocnnclcmaaGreatDoorN15
import Derived.Test.YtcpcjocnnclcmaaGreatDoorN16
import Derived.Test.YtcpcjocnnclcmaaGreatDoorN17
import Derived.Test.YtcpcjocnnclcmaaGreatDoorN18
import Derived.Test.YtcpcjocnnclcmaaGreatDoorN19
set_option linter.all false
namespace AM
open Dg Go
noncomputable section
def Ao {p:Tr ->Bool} (h:∀i,i<16 ->(fj i).all p=true):∀t∈kE 3,p t=true:=by
 have e:kE 3=(List.range 16).flatMap fj:=by kernel_rfl
 intro t ht;rw[e,Tq] at ht;obtain⟨i,hi,hm⟩:=ht;exact fK.1 (h i (pi.1 hi)) t hm
def OQ:(kE 3).all ZY=true:=by kernel_rfl
def Sc (GL:T (List AV)):∀t∈kE 3,D5 GL t=true:=Ao fun i hi=>by
 rcases(show i=0∨i=1∨i=2∨i=3∨i=4∨i=5∨i=6∨i=7∨i=8∨i=9∨i=10∨i=11∨i=12∨i=13∨i=14∨i=15 by omega) with rfl|rfl|rfl|rfl|rfl|rfl|rfl|rfl|rfl|rfl|rfl|rfl|rfl|rfl|rfl|rfl
 ·exact dA0 GL
 ·exact dA1 GL
 ·exact dA2 GL
 ·exact dA3 GL
 ·exact dA4 GL
 ·exact dA5 GL
 ·exact dA6 GL
 ·exact dA7 GL
 ·exact dA8 GL
 ·exact dA9 GL
 ·exact aw6 GL
 ·exact aw7 GL
 ·exact aw8 GL
 ·exact aw9 GL
 ·exact ax0 GL
 ·exact ax1 GL
def Sd (GL:T (List AV)):∀t∈kE 3,D6 GL t=true:=Ao fun i hi=>by
 rcases(show i=0∨i=1∨i=2∨i=3∨i=4∨i=5∨i=6∨i=7∨i=8∨i=9∨i=10∨i=11∨i=12∨i=13∨i=14∨i=15 by omega) with rfl|rfl|rfl|rfl|rfl|rfl|rfl|rfl|rfl|rfl|rfl|rfl|rfl|rfl|rfl|rfl
 ·exact dB0 GL
 ·exact dB1 GL
 ·exact dB2 GL
 ·exact dB3 GL
 ·exact dB4 GL
 ·exact dB5 GL
 ·exact dB6 GL
 ·exact dB7 GL
 ·exact dB8 GL
 ·exact dB9 GL
 ·exact ax2 GL
 ·exact ax3 GL
 ·exact ax4 GL
 ·exact ax5 GL
 ·exact ax6 GL
 ·exact ax7 GL
section
variable {P:Program} {X:dy} {GL:T (List AV)} {fns:T aR}
def WT (S:aw P X GL fns) (F:gD fns):bh P X GL:=fun t ht=>by
 have hm:=mA ht;have hb:=fK.1 OQ t hm;unfold ZY at hb;simp only[av,decide_eq_true_eq] at hb;obtain⟨⟨⟨h1,h2⟩,h3⟩,h4⟩:=hb;refine⟨WQ h1,h2,h3,h4,fun h=> ?_⟩;exact aE S (dH (R9 F) cJ (Sc GL t hm)) (n:=9) (by simp only[af,fg,ay]) h
def ax8 (S:aw P X GL fns) (F:dr fns) {t:Tr} (ht:ew 3 t=true) (h:AH):dq P X GL 167 [eT t] h (ι 0) h:=
 aE S (dH (Sb F) cJ (Sd GL t (mA ht))) (n:=9) (by simp only[af,fg,ay]) h
end
def str (s:String):List Nat:=s.toUTF8.toList.map (·.toNat)
def bS (s:Bool×Nat):List AV:=[.b s.1,.i .i64 (s.2:Int)]
def cI (n:Nat):List AV:=[.i .i64 (n:Int)]
def eX (L:List (List Nat)) (ex:List AV):AV:= .ds (L.map AV.s++ex) 0 L.length 1
structure Pr where
 name:List Nat
 left:Nat
 right:List (Bool×Nat)
 rn:Bool
 cond:Tr
 br:Bool
 rank:Int
 lay:List Br
 ln:Bool
 opens:Bool
 dec:Nat
 kind:Nat
 uses:Nat
 allow:Nat
structure Lv where
 prods:List Nat
 assoc:Nat
 cond:Tr
structure Fi where
 kind:Nat
 par:Nat
 at_:Nat
 child:Nat
 left:Nat
 tok:Nat
 toks:List Nat
 tn:Bool
 cond:Tr
structure Gr where
 nc:Nat
 cx:List (List Nat)
 fam:Tr
 tc:List Tr
 nts:List (List Nat)
 nx:List (List Nat)
 prods:List Pr
 lvs:List Lv
 fis:List Fi
def cC (p:Pr):List AV:=[.s p.name,.i .i64 (p.left:Int),eR bS 2 p.rn p.right,fG (ax p.cond).1,.i .i64 ((ax p.cond).2:Int),.b p.br,.i .i64 p.rank,eR oM 3 p.ln p.lay,.b p.opens,.i .i64 (p.dec:Int),.i .i64 (p.kind:Int),.i .i64 (p.uses:Int),.i .i64 (p.allow:Int)]
def qU (l:Lv):List AV:=[eR cI 1 true l.prods,.i .i64 (l.assoc:Int),fG (ax l.cond).1,.i .i64 ((ax l.cond).2:Int)]
def jx (f:Fi):List AV:=[.i .i64 (f.kind:Int),.i .i64 (f.par:Int),.i .i64 (f.at_:Int),.i .i64 (f.child:Int),.i .i64 (f.left:Int),.i .i64 (f.tok:Int),eR cI 1 f.tn f.toks,fG (ax f.cond).1,.i .i64 ((ax f.cond).2:Int)]
def fY:Nat ->List Nat
 |0=>[105,100]
 |1=>[43]
 |2=>[42]
 |3=>[40]
 |4=>[41]
 |5=>[105,102]
 |6=>[101,108,115,101]
 |7=>[59]
 |8=>[94]
 |9=>[115,112,97,99,101]
 |_=>[114,101,109,97,114,107]
def nX (i:Nat):List Nat:=if 1<=i/\ i<=8 then fY i else []
def iy (i:Nat):Nat:=if i<9 then 0 else i-8
def lJ (i:Nat):List Nat:=if i=0 then [120] else []
abbrev PN:=Nat×Nat×Nat×Nat×Nat
def CN (p:PN):List AV:=[.i .i64 (p.1:Int),.i .i64 (p.2.1:Int),.i .i64 (p.2.2.1:Int),.i .i64 (p.2.2.2.1:Int),.i .i64 (p.2.2.2.2:Int)]
def sD:Nat ->List PN
 |0=>[(1,97,122,0,0),(1,97,122,0,0),(4,0,0,1,0),(2,0,0,0,2)]
 |9=>[(1,9,10,0,0),(1,32,32,0,0),(3,0,0,0,1),(1,9,10,0,0),(1,32,32,0,0),(3,0,0,3,4),(4,0,0,5,0),(2,0,0,2,6)]
 |10=>[(1,37,37,0,0),(1,97,122,0,0),(1,32,32,0,0),(3,0,0,1,2),(4,0,0,3,0),(2,0,0,0,4)]
 |_=>[]
def iI (x:Tr×Nat):List AV:=[.s (fY x.2),.i .i64 (iy x.2:Int),.s (nX x.2),eR CN 5 true (sD x.2),.s (lJ x.2),fG (ax x.1).1,.i .i64 ((ax x.1).2:Int)]
def bW (n:Nat):List (List Nat):=[[65],[66],[67]].take n
def aL (g:Gr):List AV:=[eX (bW g.nc) (g.cx.map AV.s),fG (ax g.fam).1,.i .i64 ((ax g.fam).2:Int),eR iI 7 true g.tc.zipIdx,eX g.nts (g.nx.map AV.s),eR cC 13 true g.prods,.i .i64 0,eR qU 4 true g.lvs,eR jx 9 true g.fis]
def b9 (g:Gr):AV:= .ag (aL g)
def dv {h L ex}:sB h (eX L ex)= .v (ι (L.length:Int)) h:=rfl
def uV {h L ex} {i:Nat} (hi:i<L.length):OI h 1 i (eX L ex)= .v (.dp (L.map AV.s++ex) (i*1)) h:=by
 unfold eX;rw[yu,if_pos ⟨rfl,hi⟩,fL]
def yv {L:List (List Nat)} {ex:List AV} {i:Nat} {s:List Nat} (h:L[i]? =some s):sub (L.map AV.s++ex) i 1=some [.s s]:=by
 have hl:=(cW.1 h).1;refine j5 ?_;rw[oZ (by simpa using hl),lX,h];rfl
def yw {n:Nat} {h:AH}:∀L:List (List Nat),aK n h (L.map AV.s)=some (L.map AV.s)
 |[]=>rfl
 |a::L=>by
  have e:aH n h (.s a)=some (.s a):=by cases n<;>rfl
  rw[iR,af,e,yw L]
def qB {n:Nat} {h:AH} {L ex:List (List Nat)}:aH (n+1) h (eX L (ex.map AV.s))=some (eX L (ex.map AV.s)):=by
 have e:aH (n+1) h (.ds (L.map AV.s++ex.map AV.s) 0 L.length 1)=(match aK n h (L.map AV.s++ex.map AV.s) with|some l=>some (.ds l 0 L.length 1)|none=>none):=rfl;unfold eX;rw[e,←iT,yw]
def dc {n h k x}:aH n h (.i k x)=some (.i k x):=by cases n<;>rfl
def uW {n h x}:aH n h (.b x)=some (.b x):=by cases n<;>rfl
def oP {n h x}:aH n h (.s x)=some (.s x):=by cases n<;>rfl
def gw {n h} {B:List Br}:aH (n+1) h (fG B)=some (fG B):=by
 cases B with
 |nil=>rfl
 |cons b B=>
  have e:aH (n+1) h (.ds (iP (b::B)) 0 (b::B).length 3)=(match aK n h (iP (b::B)) with|some l=>some (.ds l 0 (b::B).length 3)|none=>none):=rfl;show aH (n+1) h (.ds _ _ _ _)=_;rw[e,tP];rfl
def nY {n h} (a:Bool×Nat):aK n h (bS a)=some (bS a):=by simp only[bS,af,ay,dc,uW]
def Ci {n h} (a:Nat):aK n h (cI a)=some (cI a):=by simp only[cI,af,ay,dc]
def OR {n h} (a:Br):aK n h (oM a)=some (oM a):=by simp only[oM,af,ay,dc]
def pY {n h} (a:PN):aK n h (CN a)=some (CN a):=by simp only[CN,af,ay,dc]
def nZ {n h} (p:Pr):aK (n+1) h (cC p)=some (cC p):=by
 simp only[cC,af,ay,dc,uW,oP,gw,aM nY,aM OR]
def dR {n h} (p:Lv):aK (n+1) h (qU p)=some (qU p):=by
 simp only[qU,af,ay,dc,gw,aM Ci]
def da {n h} (p:Fi):aK (n+1) h (jx p)=some (jx p):=by
 simp only[jx,af,ay,dc,gw,aM Ci]
def dz {n h} (p:Tr×Nat):aK (n+1) h (iI p)=some (iI p):=by
 simp only[iI,af,ay,dc,oP,gw,aM pY]
def D7 {n h} (g:Gr):aK (n+2) h (aL g)=some (aL g):=by
 simp only[aL,af,ay,dc,gw,qB,aM dz,aM nZ,aM dR,aM da]
def eO {n h l} (e:aK n h l=some l):aH (n+1) h (.ag l)=some (.ag l):=by
 have e1:aH (n+1) h (.ag l)=(match aK n h l with|some l=>some (AV.ag l)|none=>none):=rfl;rw[e1,e]
def i7 {n h} (g:Gr):aH (n+3) h (b9 g)=some (b9 g):=eO (D7 g)
def Ap {n:Nat}:∀{a b:List AV},aJ.niceL n a=true ->aJ.niceL n b=true ->aJ.niceL n (a++b)=true
 |[],_,_,h=>h
 |x::a,b,h1,h2=>by
  rw[bP,av] at h1;rw[nF,bP,av];exact⟨h1.1,Ap h1.2 h2⟩
def bu {α:Type} {enc:α ->List AV} {n:Nat} (hn:∀a,aJ.niceL n (enc a)=true):∀L:List α,aJ.niceL n (L.flatMap enc)=true
 |[]=>cA
 |a::L=>by rw[nD];exact Ap (hn a) (bu hn L)
def aT {α:Type} {enc:α ->List AV} {k n:Nat} (hn:∀a,aJ.niceL n (enc a)=true) {nl} {L:List α}:aJ (n+1) (eR enc k nl L)=true:=by
 cases L with
 |nil=>
  cases nl
  ·rw[GT,ja,cA]
  ·exact wx
 |cons a L=>rw[tT,ja,bu hn]
def D8 {n:Nat}:∀L:List (List Nat),aJ.niceL n (L.map AV.s)=true
 |[]=>cA
 |a::L=>by rw[iR,bP,BM,D8 L];rfl
def Se {n:Nat} {L ex:List (List Nat)}:aJ (n+1) (eX L (ex.map AV.s))=true:=by
 unfold eX;rw[ja,←iT,D8]
def de {n} (a:Bool×Nat):aJ.niceL n (bS a)=true:=by simp only[bS,bP,cA,F0,gN,fW]
def wK {n} (a:Nat):aJ.niceL n (cI a)=true:=by simp only[cI,bP,cA,gN,fW]
def D9 {n} (a:Br):aJ.niceL n (oM a)=true:=by simp only[oM,bP,cA,gN,fW]
def OS {n} (a:PN):aJ.niceL n (CN a)=true:=by simp only[CN,bP,cA,gN,fW]
def fD {n} (p:Pr):aJ.niceL (n+1) (cC p)=true:=by
 simp only[cC,bP,cA,gN,F0,BM,kB,aT de,aT D9,fW]
def OT {n} (p:Lv):aJ.niceL (n+1) (qU p)=true:=by
 simp only[qU,bP,cA,gN,kB,aT wK,fW]
def yx {n} (p:Fi):aJ.niceL (n+1) (jx p)=true:=by
 simp only[jx,bP,cA,gN,kB,aT wK,fW]
def iz {n} (p:Tr×Nat):aJ.niceL (n+1) (iI p)=true:=by
 simp only[iI,bP,cA,gN,BM,kB,aT OS,fW]
def gY {n} (g:Gr):aJ.niceL (n+2) (aL g)=true:=by
 simp only[aL,bP,cA,gN,kB,Se,aT iz,aT fD,aT OT,aT yx,fW]
def bz (a:Bool×Nat):(bS a).length=2:=rfl
def sF (a:Nat):(cI a).length=1:=rfl
def IV (a:Br):(oM a).length=3:=rfl
def eG (a:Pr):(cC a).length=13:=rfl
def tY (a:Lv):(qU a).length=4:=rfl
def wL (a:Fi):(jx a).length=9:=rfl
def ic (a:Tr×Nat):(iI a).length=7:=rfl
def uX {L ex}:bU (eX L ex)=true:=rfl
def Kt {L ex}:cellsO (eX L ex)=some [eX L ex]:=rfl
def GX {L ex}:cellsOf (eX L ex)=[eX L ex]:=rfl
def GY {B:List Br}:cellsO (fG B)=some [fG B]:=by cases B<;>rfl
def Ea {B:List Br}:cellsOf (fG B)=[fG B]:=by cases B<;>rfl
def aX {C:cQ Prop} (hC:pN C) {c:ap} {S:List Fr} {K:K Prop} (n:Nat) (I:Nat ->T AV ->AH ->Prop)
 (step:∀i τ h,i<n ->I i τ h ->(∀τ' h',I (i+1) τ' h' ->dk C (.loop c) S K τ' h') ->dk C c (.s (.loop c)::S) K τ h)
 (last:∀τ h,I n τ h ->dk C c (.s (.loop c)::S) K τ h):∀τ h,I 0 τ h ->dk C (.loop c) S K τ h:=by
 have key:∀d i,i+d=n ->∀τ h,I i τ h ->dk C (.loop c) S K τ h:=by
  intro d;induction d with
  |zero=>
   intro i hi τ h hI;rw[eZ hC];obtain rfl:i=n:=by omega
   exact last τ h hI
  |succ d ih=>
   intro i hi τ h hI;rw[eZ hC];exact step i τ h ω hI (ih (i+1) ω)
 exact key n 0 ω
def syX:=And.intro @dv<|And.intro @uX<|And.intro @Kt<|And.intro @GX<|And.intro @GY @Ea
attribute [go_sem] syX
end
end AM
namespace AM
open Go
noncomputable section
section
variable {κ ν:Type} {ek:κ ->AV} {en:ν ->AV}
def EC {n:Nat}:∀l:List Nat,xe n l=decide (n∈l)
 |[]=>rfl
 |a::l=>by
  show(Nat.beq a n||xe n l)=_;rw[EC l,az];by_cases h:a=n
  ·simp[h]
  ·have:¬n=a:=fun e=>h e.symm
   simp[h,this]
def m6 (ek:κ ->AV) (en:ν ->AV) (seen:List Nat):Nat ->List (κ×ν) ->List (AV×AV×Nat)
 |_,[]=>[]
 |i,(k,v)::r=>if i∈seen then m6 ek en seen (i+1) r else (ek k,en v,i)::m6 ek en seen (i+1) r
def Ay (seen:List Nat):∀(l:List (κ×ν)) (i:Nat),xf seen (cV ek en i l)=some (m6 ek en seen i l)
 |[],_=>rfl
 |(k,v)::r,i=>by
  show(bif xe i seen then xf seen (cV ek en (i+1) r) else match xf seen (cV ek en (i+1) r) with|some t=>some ((ek k,en v,i)::t)|none=>none)=_;rw[Ay seen r (i+1),EC];by_cases h:i∈seen<;>simp[m6,h]
def qK {seen:List Nat} {e:AV×AV×Nat}:∀{l:List (κ×ν)} {i:Nat},e∈m6 ek en seen i l ->∃j k v,l[j]? =some (k,v)/\ e=(ek k,en v,i+j)/\ i+j∉seen
 |[],i,h=>by simp[m6] at h
 |(k,v)::r,i,h=>by
  simp only[m6] at h;split at h
  ·obtain⟨j,k',v',h1,h2,h3⟩:=qK h;exact⟨j+1,k',v',by simpa using h1,by rw[h2];simp;omega,by rw[show i+(j+1)=i+1+j by omega];exact h3⟩
  ·rename_i hi;rcases bY.1 h with rfl|h
   ·exact⟨0,k,v,rfl,rfl,hi⟩
   ·obtain⟨j,k',v',h1,h2,h3⟩:=qK h;exact⟨j+1,k',v',by simpa using h1,by rw[h2];simp;omega,by rw[show i+(j+1)=i+1+j by omega];exact h3⟩
def Az {seen:List Nat}:∀{l:List (κ×ν)} {i:Nat},m6 ek en seen i l=[] ->∀j,j<l.length ->i+j∈seen
 |[],i,_,j,hj=>by simp at hj
 |(k,v)::r,i,h,j,hj=>by
  simp only[m6] at h;split at h
  ·rename_i hi;cases j with
   |zero=>exact hi
   |succ j=>rw[show i+(j+1)=i+1+j by omega];exact Az h j (by simpa using hj)
  ·cases h
def AE {seen:List Nat} {n:Nat}:∀(l:List (AV×AV×Nat)),(∀e∈l,e.2.2<n) ->Ft n l=true
 |[],_=>rfl
 |e::l,h=>by
  show(Nat.ble (Nat.succ e.2.2) n&&Ft n l)=true;have h1:Nat.ble (Nat.succ e.2.2) n=true:=by rw[aQ];simp;have:=h e (by simp);omega
  rw[h1,AE (seen:=seen) l fun e' he'=>h e' (by simp[he'])];rfl
def ED {b:Nat}:∀{l:List (κ×ν)} {i j:Nat} {k:κ} {v:ν},l[j]? =some (k,v) ->b=i+j ->sV b (cV ek en i l)=some (ek k,en v,b)
 |[],i,j,k,v,h,_=>by simp at h
 |(k',v')::r,i,0,k,v,h,hb=>by
  simp at h;obtain⟨rfl,rfl⟩:=h;show(bif Nat.beq i b then some (ek k',en v',i) else sV b (cV ek en (i+1) r))=_;rw[az];simp[hb]
 |(k',v')::r,i,j+1,k,v,h,hb=>by
  simp at h;show(bif Nat.beq i b then some (ek k',en v',i) else sV b (cV ek en (i+1) r))=_;have hne:¬i=b:=by omega
  rw[az,decide_eq_false hne,cond_false];exact ED h ω
def UY (b:Nat):∀(s:List Nat) (x:Option Nat),(List.rec (motive:=fun _=>Option Nat ->Option Nat) (fun r=>r) (fun a _ ih _=>ih (some a)) (s++[b]) x:Option Nat)=some b
 |[],x=>rfl
 |a::s,x=>UY b s (some a)
variable {C:cQ Prop}
def Ja (hC:pN C) {f:AV ->AH ->Prop}:∀{l:List (AV×AH)},l≠[] ->(∀e∈l,f e.1 e.2) ->iU C f l
 |[],h,_=>absurd rfl h
 |[e],_,h=>h e (by simp)
 |e::b::r,_,h=>by
  show C.both (f e.1 e.2) (iU C f (b::r));rw[hC.both];exact⟨h e (by simp),Ja hC (by simp) fun e' he'=>h e' (by simp[he'])⟩
def Jb (hC:pN C) {l:List (κ×ν)} {o m ver:Nat} {seen:List Nat} {h:AH} {τ:T AV} {x:MA} {d:Nat} {ops:List MG} {S:List Fr} {K:K Prop} (hm:h.objs.get m=some (.map ver (cV ek en 0 l) l.length)) (ho:h.objs.get o=some (.mit (some m) l.length seen l.length)) (hx:bp C τ x= .p o 0)
 (hend:(∀i,i<l.length ->i∈seen) ->ph C ops S K (τ.put d (.tu [.b false])) h)
 (hstep:∀(i:Nat) k v,l[i]? =some (k,v) ->i∉seen ->ph C ops S K (τ.put d (.tu [.b true,ek k,en v])) ⟨h.next,h.ver+1,h.objs.put o (.mit (some m) l.length (seen++[i]) l.length)⟩):
 ph C (⟨some d,.nxt x false,none⟩::ops) S K τ h:=by
 rw[BQ];have e1:step (bp C τ) h (.nxt x false)=Fu h o false:=by
  show(match bp C τ x with
  | .p o off=>bif Nat.beq off 0 then Fu h o false else .bad
  |_=> .bad)=_
  rw[hx];rfl
 have hos:xg seen l.length (cV ek en 0 l)=true:=by
  unfold xg;cases seen with
  |nil=>rfl
  |cons a s=>
   cases l with
   |nil=>rfl
   |cons e r=>show Nat.ble (Nat.succ 0) _=true;rw[aQ];simp
 have hold:Ft l.length (m6 ek en seen 0 l)=true:=AE (seen:=seen) _ fun e he=>by
  obtain⟨j,k,v,h1,h2,_⟩:=qK he;have:=(cW.1 h1).1;rw[h2];dsimp only;omega
 have ho':h.get o=some (.mit (some m) l.length seen l.length):=ho;have hm':h.get m=some (.map ver (cV ek en 0 l) l.length):=hm;have e2:Fu h o false=(match m6 ek en seen 0 l with
  |[]=> .v (.tu [.b false]) h
  |[e]=> .v (.tu [.b true,e.1,e.2.1]) ⟨h.next,h.ver+1,h.objs.put o (.mit (some m) l.length (seen++[e.2.2]) l.length)⟩
  |q=> .alts (q.map fun e=>(AV.tu [.b true,e.1,e.2.1],⟨h.next,h.ver+1,h.objs.put o (.mit (some m) l.length (seen++[e.2.2]) l.length)⟩))):=by
  unfold Fu;rw[ho'];dsimp only;rw[cond_false,hm'];dsimp only;rw[hos,gU,cond_false,Ay];dsimp only;rw[hold,cond_true];have mp:∀q:List (AV×AV×Nat),fC (fun e:AV×AV×Nat=>some (AV.tu [.b true,e.1,e.2.1],(⟨h.next,h.ver.succ,h.objs.put o (.mit (some m) l.length (seen++[e.2.2]) l.length)⟩:AH))) q=some (q.map fun e=>(AV.tu [.b true,e.1,e.2.1],⟨h.next,h.ver+1,h.objs.put o (.mit (some m) l.length (seen++[e.2.2]) l.length)⟩)):=by
   intro q;induction q with
   |nil=>rfl
   |cons a q ih=>rw[dF,ih];rfl
  rcases m6 ek en seen 0 l with _|⟨e,_|⟨b,r⟩⟩
  ·rfl
  ·simp only[dX,AH.put_eq]
  ·have:=mp (e::b::r);simp only[dX,AH.put_eq];rw[this]
 have st:∀e∈m6 ek en seen 0 l,ph C ops S K (τ.put d (.tu [.b true,e.1,e.2.1])) ⟨h.next,h.ver+1,h.objs.put o (.mit (some m) l.length (seen++[e.2.2]) l.length)⟩:=by
  intro e he;obtain⟨j,k,v,h1,h2,h3⟩:=qK he;rw[h2];simp only[fL] at h3 ⊢;exact hstep j k v h1 h3
 rw[e1,e2];cases hq:m6 ek en seen 0 l with
 |nil=>
  rw[Wy];exact hend fun i hi=>by have:=Az hq i hi;simpa using this
 |cons a r=>
  rw[hq] at st;cases r with
  |nil=>rw[Wy];exact st a (by simp)
  |cons b r=>
   show iU C (fun x h=>ph C ops S K (τ.put d x) h) ((a::b::r).map fun e=>(AV.tu [.b true,e.1,e.2.1],(⟨h.next,h.ver+1,h.objs.put o (.mit (some m) l.length (seen++[e.2.2]) l.length)⟩:AH)));refine Ja hC (by simp) fun e he=> ?_
   obtain⟨e',he',rfl⟩:=sS.1 he;exact st e' he'
def PS {l:List (κ×ν)} {o m ver i:Nat} {seen:List Nat} {h:AH} {ev:MA ->AV} {x:MA} {k:κ} {v:ν} (hm:h.objs.get m=some (.map ver (cV ek en 0 l) l.length)) (ho:h.objs.get o=some (.mit (some m) l.length (seen++[i]) l.length)) (hx:ev x= .p o 0) (hi:l[i]? =some (k,v)):step ev h (.ent x)= .v (.tu [ek k,en v]) h:=by
 have e1:step ev h (.ent x)=Fv h o:=by
  show(match ev x with
  | .p o off=>bif Nat.beq off 0 then Fv h o else .bad
  |_=> .bad)=_
  rw[hx];rfl
 have ho':h.get o=some (.mit (some m) l.length (seen++[i]) l.length):=ho;have hm':h.get m=some (.map ver (cV ek en 0 l) l.length):=hm;rw[e1];unfold Fv;rw[ho'];dsimp only;rw[hm'];dsimp only;rw[UY];dsimp only;rw[ED hi ω,az];simp
def PT {l:List (κ×ν)} {m ver:Nat} {h:AH} {ev:MA ->AV} {x:MA} (hm:h.objs.get m=some (.map ver (cV ek en 0 l) l.length)) (hx:ev x= .m m):step ev h (.rng x false)= .v (.p h.next 0) ⟨h.next+1,h.ver,h.objs.put h.next (.mit (some m) l.length [] l.length)⟩:=by
 have hm':h.get m=some (.map ver (cV ek en 0 l) l.length):=hm;show(match ev x with
  | .s l=>bif false then h.new (.sit l 0) fun o h=>bj.v (.p o 0) h else bj.bad
  | .mn=>bif false then bj.bad else h.new (.mit none 0 [] 0) fun o h=>bj.v (.p o 0) h
  | .m o=>bif false then bj.bad else match h.get o with
   |some (.map _ _ cl)=>h.new (.mit (some o) cl [] cl) fun o h=>bj.v (.p o 0) h
   |_=>bj.bad
  |_=>bj.bad)=_
 rw[hx];dsimp only;rw[cond_false,hm'];dsimp only;rw[AH.new_eq]
end
end
end AM
namespace AM
open Dg Go
noncomputable section
def Sq:((List.range 4).all fun n=>(kE 3).all fun t=> !zg n t||(ax t).1.all fun b=>decide (b.1<n))=true:=by kernel_rfl
def Pa {n:Nat} {t:Tr} (hn:n<=3) (h3:ew 3 t=true) (hd:zg n t=true):∀b∈(ax t).1,b.1<n:=by
 have h:=fK.1 Sq n (pi.2 ω);have h2:=fK.1 h t (mA h3);simp only[hd,gU,zx,fK,decide_eq_true_eq] at h2;exact h2
structure yB (n:Nat) (t:Tr):Prop where
 f:ew 3 t=true
 d:zg n t=true
section
variable {P:Program} {X:dy} {GL:T (List AV)} {fns:T aR}
def mC (S:aw P X GL fns) (R:dr fns) (A:bh P X GL) (F:gf fns) {n:Nat} {t:Tr} (hn:n<=3) (ht:yB n t) (h:AH):dq P X GL 94 [eT t,.i .i64 (n:Int)] h (.b true) h:=by
 refine aE S (n:=9) ?_ (by simp only[af,fg,ay,dc]) h;refine aZ.intro fun C E=> ?_
 have hv:=Pa hn ht.f ht.d;have hl:=(A t ht.f).len;rw[aA E.ok (E.get F.f94)];refine Y4 @aa6.eq_1 @eT.eq_1 @eD.eq_1 @h0.eq_1 ?_;refine E.con (ax8 S R ht.f _) ?_;refine Y0 ?_;refine aX E.ok (ax t).1.length (fun i τ h=>cG (h.objs.get 0)=some [fG (ax t).1,.i .i64 ((ax t).2:Int)]/\ τ.get 1=some (ι (n:Int))/\ τ.get 2=some (.p 0 0)/\ τ.get 5=some (ι (i:Int))) ?_ ?_ _ _ ⟨?_,?_,?_,?_⟩
 ·rintro i τ ⟨n1,ver,ob⟩ hi ⟨c0,t1,t2,t5⟩ ih;have hbi:(ax t).1[i]? =some (ax t).1[i]:=ba hi;have e0:sub (iP (ax t).1) (i*3) 1=some [.i .i64 (((ax t).1[i]).1:Int)]:=by have:=gu hbi 0 1 ω;simpa[oM] using this
  have hlt:=hv _ (bJ hbi);dsimp only at c0;refine Y7 c0 t1 t2 t5 @tU e0 @ar ?_;refine ih _ _ ⟨c0,?_,?_,?_⟩<;>exact U2 t1 t2
 ·rintro τ ⟨n1,ver,ob⟩ ⟨c0,t1,t2,t5⟩;dsimp only at c0;refine Y4 c0 t1 t2 t5 ?_;exact⟨1,rfl⟩
 all_goals exact U0
def V7 (p:Pr) (k v lo hi:Nat):Prop:=(k=0/\ v=0)∨(1<=k/\ (∃j,p.right[k-1]? =some (true,j))/\ lo<=v/\ v<=hi)
def W8 (p:Pr):Prop:=p.rank=0/\ p.lay=[]/\ p.opens=false/\ p.dec=0/\ p.kind=0/\ p.uses=0/\ p.allow=0/\∃i j,p.right=[(true,i),(false,p.left),(true,j)]
structure zh (nc nt:Nat) (p:Pr):Prop where
 name:p.name≠[]
 left:p.left<nt
 sym:∀s∈p.right,(s.1=true/\ s.2<9)∨(s.1=false/\ s.2<nt)
 len:p.right.length<=16
 lay:∀c∈p.lay,1<=c.1/\ c.1<=4/\ c.2.1<p.right.length/\ c.2.2<p.right.length/\ (c.1=1 ->c.2.2=0)
 layl:p.lay.length<=16
 cond:yB nc p.cond
 rank: -1<=p.rank/\ p.rank<=1
 dec:V7 p p.dec p.kind 1 7
 uses:V7 p p.uses p.allow 0 255
 br:p.br=true ->W8 p
def yC (S:aw P X GL fns) {f:Nat} {p:Pr} {r:List AV} {d:AV} (hr:∀n h,aK n h r=some r) (hp:aZ P X GL fns f (.ag (cC p)::r) d) (h:AH):dq P X GL f (.ag (cC p)::r) h d h:=
 aE S hp (n:=9) (by rw[af,eO (n:=8) (nZ (n:=7) p),hr]) h
def At (S:aw P X GL fns) (F:gf fns) {p:Pr} {k:Nat} (hk:k=0∨(1<=k/\∃j,p.right[k-1]? =some (true,j))) (hl:p.right.length<=16) (h:AH):dq P X GL 430 [.ag (cC p),.i .i64 (k:Int)] h (.b true) h:=by
 refine yC S (fun n h=>by simp only[af,ay,dc]) ?_ h;refine aZ.intro fun C E=> ?_
 rw[aA E.ok (E.get F.f430)];by_cases k0:k=0
 ·have k0':((k:Int)=0)=True:=eq_true ω;refine Y4 @O1.eq_1 @cC.eq_1 @h0.eq_1 k0' ?_;exact⟨1,rfl⟩
 ·rcases hk with hk|⟨h1,j,hj⟩
  ·exact absurd hk k0
  have hlt:=(cW.1 hj).1;have e1:aV .sub (ι (k:Int)) (ι 1)=some (ι ((k-1:Nat):Int)):=oK (b:=1) ω;have e2:sub (p.right.flatMap bS) ((k-1)*2) 1=some [.b true]:=by
   have:=aB bz hj (j:=0) (n:=1) ω;simpa[bS] using this
  refine Y6 @O1.eq_1 @cC.eq_1 @h0.eq_1 e1 e2 @aF ?_;exact⟨1,rfl⟩
def Kv (S:aw P X GL fns) (F:gf fns) {nc nt:Nat} {p:Pr} (ok:zh nc nt p) (h:AH):dq P X GL 300 [.ag (cC p)] h (.b true) h:=by
 refine yC S (fun n h=>rfl) ?_ h;refine aZ.intro fun C E=> ?_
 have c1:=fun h=>At (p:=p) (k:=p.dec) S F (ok.dec.imp (fun h=>h.1) (fun h=>⟨h.1,h.2.1⟩)) ok.len h
 have c2:=fun h=>At (p:=p) (k:=p.uses) S F (ok.uses.imp (fun h=>h.1) (fun h=>⟨h.1,h.2.1⟩)) ok.len h
 rw[aA E.ok (E.get F.f300)];simp only[cC] at c1 c2;refine Y3 @Um.eq_1 @cC.eq_1 @h0.eq_1 ?_;refine E.con (c1 _) ?_;refine Y0 ?_;refine E.con (c2 _) ?_;rcases ok.dec with ⟨d1,d2⟩|⟨d1,d2,d3,d4⟩<;>rcases ok.uses with ⟨u1,u2⟩|⟨u1,u2,u3,u4⟩<;>
  (
   refine Y0 ?_;exact⟨1,rfl⟩)
def Pb (S:aw P X GL fns) (F:gf fns) {nc nt:Nat} {p:Pr} (ok:zh nc nt p) (h:AH):dq P X GL 299 [.ag (cC p)] h (.b true) h:=by
 refine yC S (fun n h=>rfl) ?_ h;refine aZ.intro fun C E=> ?_
 have hll:=ok.layl;have hlr:=ok.len;rw[aA E.ok (E.get F.f299)];refine Y2 @Ul.eq_1 @h0.eq_1 ?_;refine aX E.ok p.lay.length (fun i τ h=>cG (h.objs.get 0)=some (cC p)/\ 1<=h.next/\ τ.get 1=some (.p 0 0)/\ τ.get 3=some (ι (i:Int))) ?_ ?_ _ _ ⟨?_,?_,?_,?_⟩
 ·rintro i τ ⟨n1,ver,ob⟩ hi ⟨c0,hn,t1,t3⟩ ih;have hbi:p.lay[i]? =some p.lay[i]:=ba hi;have e0:sub (p.lay.flatMap oM) (i*3) 3=some [.i .i64 ((p.lay[i]).1:Int),.i .i64 ((p.lay[i]).2.1:Int),.i .i64 ((p.lay[i]).2.2:Int)]:=by
   have:=aB IV hbi (j:=0) (n:=3) ω;simpa[oM] using this
  obtain⟨l1,l2,l3,l4,l5⟩:=ok.lay _ (bJ hbi);have hn':1<=n1:=hn;have c0':=c0;simp only[cC] at c0;by_cases k1:p.lay[i].1=1
  ·have k2:=l5 k1;refine Y6 c0 t1 t3 @aF e0 @ar ?_;refine ih _ _ ⟨?_,?_,?_,?_⟩
   ·exact W0 c0'
   ·show 1<=n1+1;omega
   all_goals exact U1 t1
  ·refine Y6 c0 t1 t3 @aF e0 @ar ?_;refine ih _ _ ⟨?_,?_,?_,?_⟩
   ·exact W0 c0'
   ·show 1<=n1+1;omega
   all_goals exact U1 t1
 ·rintro τ ⟨n1,ver,ob⟩ ⟨c0,hn,t1,t3⟩;simp only[cC] at c0;refine Y3 c0 t1 t3 ?_;exact⟨1,rfl⟩
 ·exact U0
 ·show 1<=1;omega
 all_goals exact U0
end
end
end AM
namespace AM
open Go
noncomputable section
def Sf {a b:List Nat}:aV .eql (.s a) (.s b)=some (.b (decide (a=b))):=by
 show rb (rN a b)=_;unfold rb;rw[rj,gF]
def Sg {a b:List Nat}:aV .neq (.s a) (.s b)=some (.b (!decide (a=b))):=by
 show rb (!(rN a b))=_;unfold rb;rw[rj,gF]
def aa0:aV .add (ι 0) (ι 1)=some (ι 1):=rfl
def apH (h:AH) (esz o n:Nat) (new:List AV):bj:=eH h (.sl o 0 n (some n) esz) 1 new esz
def ap4 (h:AH) (esz o n:Nat) (new:List AV):Option (List AV) ->bj
 |some L=>if L.length=n*esz/\ n+1<=1048576 then .v (.sl h.next 0 (n+1) none esz) ⟨h.next+1,h.ver,h.objs.put h.next (.cells h.ver (L++new))⟩ else apH h esz o n new
 |none=>apH h esz o n new
def Eb {h:AH} {esz o n o2:Nat} {new:List AV}:Yk h esz (.sl o 0 n (some n) esz) o2 (some new)=if new.length=esz/\ cE new=true then ap4 h esz o n new (cG (h.objs.get o)) else Yj h esz (.sl o 0 n (some n) esz) o2:=by
 show(if new.length=esz/\ cE new=true then ap2 h esz (.sl o 0 n (some n) esz) new else Yj h esz (.sl o 0 n (some n) esz) o2)=_;by_cases hn:new.length=esz/\ cE new=true
 ·rw[if_pos hn,if_pos hn];cases hL:cG (h.objs.get o) with
  |none=>rfl
  |some L=>
   unfold ap4;dsimp only;by_cases hl:L.length=n*esz/\ n+1<=1048576
   ·rw[if_pos hl];have hc:h.cells o=some L:=hL;have e:eH h (.sl o 0 n (some n) esz) 1 new esz=(match h.cells o with
     |none=>bj.bad
     |some l=>fN (n+1) fun need=>bif !(Nat.beq esz esz&&(Nat.ble need 1048576&&cE new)) then .bad else
      bif Nat.ble need n then
       match bD new l (0+n*esz) with
       |some l'=>h.put o (.cells (Nat.succ h.ver) l') fun h=> .v (.sl o 0 need (some n) esz) h
       |none=> .bad
      else match sub l 0 (n*esz) with
       |some old=>match gK old new with
        |some l=>h.new (.cells h.ver l) fun o h=> .v (.sl o 0 need none esz) h
        |none=> .bad
       |none=> .bad):=rfl
    show eH h (.sl o 0 n (some n) esz) 1 new esz=_;rw[e,hc];have hb:Nat.ble (n+1) n=false:=by rw[aQ];simp
    simp only[bR,az,aQ,hl.2,hn.2,decide_true,fW,gU,cond_false,hb,gI hl.1,dX,AH.new_eq];have hb2:decide (n+1<=n)=false:=by simp
    simp only[hb2,cond_false]
   ·rw[if_neg hl];rfl
 ·rw[if_neg hn,if_neg hn]
def Ua {h:AH} {esz o n:Nat} {new L:List AV}:ap4 h esz o n new (some L)=if L.length=n*esz/\ n+1<=1048576 then .v (.sl h.next 0 (n+1) none esz) ⟨h.next+1,h.ver,h.objs.put h.next (.cells h.ver (L++new))⟩ else apH h esz o n new:=rfl
def nz:=And.intro @kU<|And.intro @Iz<|And.intro @M7<|And.intro @M8<|And.intro @TM<|And.intro @Eb @Ua
attribute [go_sem] Sf Sg aa0
def Cj {ev:MA ->AV} {h:AH} {es x b l off n k} (h1:ev x= .ds l off n es) (h2:dI (ev b)=some k) (hk:k<=n):step ev h (.slc es x none (some b) none)= .v (.ds l off k es) h:=by
 rw[Ab h1,if_pos rfl];have e:bI n n (nO ev none) (nO ev (some b)) none=some (0,k,n):=by
  rw[oG,oH,h2];show(bif Nat.ble n n&&Nat.ble k n&&Nat.ble 0 k then some (0,k,n) else none)=_;have q1:Nat.ble n n=true:=by rw[aQ];simp
  have q2:Nat.ble k n=true:=by rw[aQ];simpa using hk
  have q3:Nat.ble 0 k=true:=rfl;rw[q1,q2,q3];rfl
 rw[e];simp
def OU {ev:MA ->AV} {h:AH} {es x a l off n k} (h1:ev x= .ds l off n es) (h2:dI (ev a)=some k) (hk:k<=n):step ev h (.slc es x (some a) none none)= .v (.ds l (off+k*es) (n-k) es) h:=by
 rw[Ab h1,if_pos rfl];have e:bI n n (nO ev (some a)) (nO ev none) none=some (k,n,n):=by
  rw[oG,oH,h2];show(bif Nat.ble n n&&Nat.ble n n&&Nat.ble k n then some (k,n,n) else none)=_;have q1:Nat.ble n n=true:=by rw[aQ];simp
  have q2:Nat.ble k n=true:=by rw[aQ];simpa using hk
  rw[q1,q2];rfl
 rw[e]
def tZ {h:AH} {l off n esz r} (e:sub l off (n*esz)=some r):cR h esz (.ds l off n esz)=some r:=by
 show(bif Nat.beq esz esz then sub l off (n*esz) else none)=_;rw[az];simpa using e
def qC {h:AH} {esz o a n c e l off} (hl:sub l off 0=some []):pS h esz (.sl o a n c e) (.ds l off 0 esz)= .v (.sl o a n c e) h:=by
 have e1:cR h esz (.ds l off 0 esz)=some []:=tZ (by rw[wZ];exact hl);show(match eI (.ds l off 0 esz),cR h esz (.ds l off 0 esz) with|some n',some l=>eH h (.sl o a n c e) n' l esz|_,_=> .bad)=_;rw[e1];rfl
def qD {h:AH} {esz o l off n new} (hl:sub l off ((n+1)*esz)=some new) (hs:cE new=true) (hc:cG (h.objs.get o)=some []) (hn:n+1<=1048576):pS h esz (.sl o 0 0 (some 0) esz) (.ds l off (n+1) esz)= .v (.sl h.next 0 (n+1) none esz) ⟨h.next+1,h.ver,h.objs.put h.next (.cells h.ver new)⟩:=by
 have e1:cR h esz (.ds l off (n+1) esz)=some new:=tZ hl;show(match eI (.ds l off (n+1) esz),cR h esz (.ds l off (n+1) esz) with|some n',some l=>eH h (.sl o 0 0 (some 0) esz) n' l esz|_,_=> .bad)=_;rw[e1];show eH h (.sl o 0 0 (some 0) esz) (n+1) new esz=_;have e:eH h (.sl o 0 0 (some 0) esz) (n+1) new esz=(match h.cells o with
  |none=>bj.bad
  |some l=>fN (0+(n+1)) fun need=>bif !(Nat.beq esz esz&&(Nat.ble need 1048576&&cE new)) then .bad else
   bif Nat.ble need 0 then
    match bD new l (0+0*esz) with
    |some l'=>h.put o (.cells (Nat.succ h.ver) l') fun h=> .v (.sl o 0 need (some 0) esz) h
    |none=> .bad
   else match sub l 0 (0*esz) with
    |some old=>match gK old new with
     |some l=>h.new (.cells h.ver l) fun o h=> .v (.sl o 0 need none esz) h
     |none=> .bad
    |none=> .bad):=rfl
 have hc':h.cells o=some []:=hc;have z:sub ([]:List AV) 0 0=some []:=rfl;rw[e,hc'];simp only[bR,az,aQ,fL,hn,hs,decide_true,fW,gU,cond_false,wZ,z,dX,lB,AH.new_eq];have q:decide (n+1<=0)=false:=by simp
 simp only[q,cond_false]
def IW {h:AH} {esz o k l off n new L} (hl:sub l off ((n+1)*esz)=some new) (hs:cE new=true) (hc:cG (h.objs.get o)=some L) (hL:L.length=k*esz) (hn:k+(n+1)<=1048576):pS h esz (.sl o 0 k none esz) (.ds l off (n+1) esz)= .v (.sl h.next 0 (k+(n+1)) none esz) ⟨h.next+1,h.ver+1,(h.objs.put o .gone).put h.next (.cells (h.ver+1) (L++new))⟩:=by
 have e1:cR h esz (.ds l off (n+1) esz)=some new:=tZ hl;show(match eI (.ds l off (n+1) esz),cR h esz (.ds l off (n+1) esz) with|some n',some l=>eH h (.sl o 0 k none esz) n' l esz|_,_=> .bad)=_;rw[e1];show eH h (.sl o 0 k none esz) (n+1) new esz=_;have e:eH h (.sl o 0 k none esz) (n+1) new esz=(match h.cells o with
  |none=>bj.bad
  |some l=>fN (k+(n+1)) fun need=>bif !(Nat.beq esz esz&&(Nat.ble need 1048576&&cE new)) then .bad else
   match sub l 0 (k*esz) with
   |some old=>match gK old new with
    |some l=>h.put o .gone fun h=>h.new (.cells h.ver l) fun o h=> .v (.sl o 0 need none esz) h
    |none=> .bad
   |none=> .bad):=rfl
 have hc':h.cells o=some L:=hc;rw[e,hc'];simp only[bR,az,aQ,hn,hs,decide_true,fW,gU,cond_false,gI hL,dX,AH.put_eq,AH.new_eq]
def iJ {α:Type} {enc:α ->List AV} (hs:∀a,cE (enc a)=true):∀L:List α,cE (L.flatMap enc)=true
 |[]=>rfl
 |a::L=>by
  have app:∀x y:List AV,cE x=true ->cE y=true ->cE (x++y)=true:=by
   intro x;induction x with
   |nil=>intro y _ h;exact h
   |cons b x ih=>intro y h1 h2;rw[gM,av] at h1;rw[nF,gM,h1.1,ih y h1.2 h2];rfl
  rw[nD];exact app _ _ (hs a) (iJ hs L)
def lU {α:Type} {enc:α ->List AV} {k:Nat} (hk:∀a,(enc a).length=k) {L:List α} {i n:Nat} (h:i+n<=L.length):sub (L.flatMap enc) (i*k) (n*k)=some (((L.drop i).take n).flatMap enc):=by
 have h2:(i+n)*k<=L.length*k:=nE k h;rw[lW] at h2;rw[jd,if_pos (by rw[dG hk];omega)];congr 1;have e:L.flatMap enc=(L.take i).flatMap enc++(((L.drop i).take n).flatMap enc++((L.drop i).drop n).flatMap enc):=by
  rw[←ik,←ik,pm,pm]
 have l1:((L.take i).flatMap enc).length=i*k:=by rw[dG hk,fO,jp ω]
 have l2:(((L.drop i).take n).flatMap enc).length=n*k:=by rw[dG hk,fO,qY,jp ω]
 rw[e,←l1,List.drop_left,←l2,List.take_left]
end
end AM
namespace AM
open Dg Go
noncomputable section
structure vY (g:Gr) (f:Fi):Prop where
 cond:yB g.nc f.cond
 kinds:((f.kind=1∨f.kind=2)/\ f.left=0/\ f.tok=0/\ f.toks=[]/\ (∃pp cp,g.prods[f.par]? =some pp/\ g.prods[f.child]? =some cp/\ pp.right[f.at_]? =some (false,cp.left)))∨
  ((f.kind=3∨f.kind=4)/\ f.par=0/\ f.at_=0/\ f.child=0/\ f.tok=0/\ f.left<g.nts.length/\ f.toks≠[]/\ (∀t∈f.toks,t<9)/\ (∀(i a b:Nat),f.toks[i]? =some a ->f.toks[i+1]? =some b ->a<b))∨
  (f.kind=5/\ f.par=0/\ f.at_=0/\ f.child=0/\ f.left=0/\ f.tok=0/\ f.toks≠[]/\ (∀t∈f.toks,1<=t/\ t<9)/\ (∀(i a b:Nat),f.toks[i]? =some a ->f.toks[i+1]? =some b ->a<b))
 tl:f.toks.length<=16
structure cM (g:Gr):Prop where
 nc:g.nc<=3
 fam:yB g.nc g.fam
 famr:(ax g.fam).2≠0
 tcl:g.tc.length=11
 tc:∀c∈g.tc,yB g.nc c
 ntl:1<=g.nts.length/\ g.nts.length<=3
 ntn:∀s∈g.nts,s≠[]
 ntd:∀(i j:Nat) (s:List Nat),g.nts[i]? =some s ->g.nts[j]? =some s ->i=j
 pl:g.prods.length<=100
 p:∀p∈g.prods,zh g.nc g.nts.length p
 pd:∀(i j:Nat) (p q:Pr),g.prods[i]? =some p ->g.prods[j]? =some q ->p.name=q.name ->i=j
 ll:g.lvs.length<=100
 l:∀l∈g.lvs,l.assoc<=3/\ yB g.nc l.cond/\ l.prods.length<=100
 lp:∀x∈g.lvs.flatMap (·.prods),x<g.prods.length
 ld:(g.lvs.flatMap (·.prods)).Nodup
 fl:g.fis.length<=100
 f:∀f∈g.fis,vY g f
section
variable {P:Program} {X:dy} {GL:T (List AV)} {fns:T aR}
def ez (S:aw P X GL fns) {f:Nat} {g:Gr} {r:List AV} {d:AV} (hr:∀n h,aK (n+3) h r=some r) (hp:aZ P X GL fns f (b9 g::r) d) (h:AH):dq P X GL f (b9 g::r) h d h:=
 aE S hp (n:=9) (by rw[af,i7 (n:=6),hr 6]) h
def sI (F:gf fns) {L:List (List Nat)} {ex:List AV} {n:Nat} {s:List Nat} (hl:L.length<=1000) (hs:L[n]? =some s) (hne:s≠[]) (hd:∀j:Nat,j<n ->L[j]?≠some s):aZ P X GL fns 296 [eX L ex,.i .i64 (n:Int)] (.b true):=by
 refine aZ.intro fun C E=> ?_
 have hn:=(cW.1 hs).1;have en:=yv (ex:=ex) hs;rw[aA E.ok (E.get F.f296)];refine Y2 @Uj.eq_1 @h0.eq_1 ?_;refine aX E.ok n (fun i τ h=>τ.get 0=some (eX L ex)/\ τ.get 1=some (ι (n:Int))/\ τ.get 5=some (ι (i:Int))) ?_ ?_ _ _ ⟨?_,?_,?_⟩
 ·rintro i τ ⟨n1,ver,ob⟩ hi ⟨t0,t1,t5⟩ ih;have hlt:i<L.length:=by omega
  have hli:L[i]? =some L[i]:=ba hlt;have ei:=yv (ex:=ex) hli;have hne2:(L[i]=s)=False:=eq_false fun h=>hd i hi (by rw[hli,h])
  refine Y8 t0 t1 t5 @uV ei en hne2 @ar ?_;refine ih _ _ ⟨?_,?_,?_⟩<;>exact U2 t0 t1
 ·rintro τ ⟨n1,ver,ob⟩ ⟨t0,t1,t5⟩;refine Y6 t0 t1 t5 @uV en hne ?_;exact⟨1,rfl⟩
 all_goals exact U0
def mD {g:Gr} (tl:g.tc.length=11) {i:Nat} (hi:i<11):∃c,g.tc[i]? =some c/\ g.tc.zipIdx[i]? =some (c,i):=by
 have hlt:i<g.tc.length:=by omega
 exact⟨g.tc[i],ba hlt,by simp[HT,ba hlt]⟩
def qE {i:Nat} (h:i<9):iy i=0:=by simp[iy,h]
def Ee (S:aw P X GL fns) (F:gf fns) {g:Gr} {p:Pr} (G:cM g) (ok:zh g.nc g.nts.length p) (h:AH):dq P X GL 298 [b9 g,.ag (cC p)] h (.b true) h:=by
 refine ez S (fun n h=>by simp only[af,ay,eO (nZ p)]) ?_ h;refine aZ.intro fun C E=> ?_
 have hlr:=ok.len;have hll:=ok.left;have tl:=G.tcl;have ntl:=G.ntl;rw[aA E.ok (E.get F.f298)];refine Y3 @Uk.eq_1 @b9.eq_1 @h0.eq_1 ?_;refine aX E.ok p.right.length (fun i τ h=>cG (h.objs.get 0)=some (aL g)/\ cG (h.objs.get 1)=some (cC p)/\ 2<=h.next/\ τ.get 2=some (.p 0 0)/\ τ.get 3=some (.p 1 0)/\ τ.get 5=some (ι (i:Int))) ?_ ?_ _ _ ⟨?_,?_,?_,?_,?_,?_⟩
 ·rintro i τ ⟨n1,ver,ob⟩ hi ⟨c0,c1,hn,t2,t3,t5⟩ ih;have hbi:p.right[i]? =some p.right[i]:=ba hi;have e0:sub (p.right.flatMap bS) (i*2) 2=some [.b (p.right[i]).1,.i .i64 ((p.right[i]).2:Int)]:=by
   have:=aB bz hbi (j:=0) (n:=2) ω;simpa[bS] using this
  have hn':2<=n1:=hn;have c0':=c0;have c1':=c1;simp only[aL] at c0;simp only[cC] at c1;have hz:g.tc.zipIdx.length=11:=by rw[lC,tl]
  rcases ok.sym _ (bJ hbi) with ⟨s1,s2⟩|⟨s1,s2⟩
  ·obtain⟨c,_,hz2⟩:=mD (g:=g) tl (i:=p.right[i].2) ω;have e7:sub (g.tc.zipIdx.flatMap iI) (p.right[i].2*7+1) 1=some [.i .i64 0]:=by
    have:=aB ic hz2 (j:=1) (n:=1) ω;simpa[iI,qE s2] using this
   rw[s1] at e0;refine CM c0 c1 t2 t3 t5 @aF e0 e7 hz @ar ?_;refine ih _ _ ⟨?_,?_,?_,?_,?_,?_⟩
   ·exact W0 c0'
   ·exact W0 c1'
   ·show 2<=n1+1;omega
   all_goals exact U2 t2 t3
  ·rw[s1] at e0;refine Y8 c0 c1 t2 t3 t5 @aF e0 @ar ?_;refine ih _ _ ⟨?_,?_,?_,?_,?_,?_⟩
   ·exact W0 c0'
   ·exact W0 c1'
   ·show 2<=n1+1;omega
   all_goals exact U2 t2 t3
 ·rintro τ ⟨n1,ver,ob⟩ ⟨c0,c1,hn,t2,t3,t5⟩;simp only[aL] at c0;simp only[cC] at c1;refine Y5 c0 c1 t2 t3 t5 ?_;exact⟨1,rfl⟩
 ·exact U0
 ·exact U0
 ·show 2<=2;omega
 all_goals exact U0
def Ef (S:aw P X GL fns) (F:gf fns) {g:Gr} (G:cM g) (h:AH):dq P X GL 184 [b9 g] h (.b true) h:=by
 refine ez S (fun n h=>rfl) ?_ h;refine aZ.intro fun C E=> ?_
 have ntl:=G.ntl;rw[aA E.ok (E.get F.f184)];refine Y3 @Uf.eq_1 @b9.eq_1 @h0.eq_1 ?_;refine aX E.ok g.nts.length (fun i τ h=>cG (h.objs.get 0)=some (aL g)/\ τ.get 1=some (.p 0 0)/\ τ.get 3=some (ι (i:Int))) ?_ ?_ _ _ ⟨?_,?_,?_⟩
 ·rintro i τ ⟨n1,ver,ob⟩ hi ⟨c0,t1,t3⟩ ih;have hbi:g.nts[i]? =some g.nts[i]:=ba hi;have c0':=c0;simp only[aL] at c0;have cn:=fun h=>aE S (sI F (L:=g.nts) (ex:=g.nx.map AV.s) (n:=i) ω hbi (G.ntn _ (bJ hbi)) (fun j hj he=>by have:=G.ntd i j _ hbi he;omega)) (n:=9) (by simp only[af,ay,dc,qB]) h
  refine Y3 c0 t1 t3 ?_;refine E.con (cn _) ?_;refine Y4 c0 t1 t3 @ar ?_;refine ih _ _ ⟨c0',?_,?_⟩<;>exact U1 t1
 ·rintro τ ⟨n1,ver,ob⟩ ⟨c0,t1,t3⟩;simp only[aL] at c0;refine Y3 c0 t1 t3 ?_;exact⟨1,rfl⟩
 ·exact U0
 all_goals exact U0
end
def QX (p:Pr):Bool:=match p.right with
 |[s0,s1,s2]=>s0.1&&(s2.1&&(!s1.1&&decide (s1.2=p.left)))
 |_=>false
section
variable {P:Program} {X:dy} {GL:T (List AV)} {fns:T aR}
def vd:fS 6 (.ag [(0,1,false,(.lf .b)),(1,1,false,(.lf .i)),(2,1,false,(.lf .i)),(3,1,false,(.lf .i)),(4,1,false,(.lf .i))]) (.ag [.b false,.i .i64 0,.i .i64 0,.i .i64 0,.i .i64 0]) (.ag [.b false,.i .i64 0,.i .i64 0,.i .i64 0,.i .i64 0])=some true:=rfl
set_option maxHeartbeats 1000000 in
def vQ (S:aw P X GL fns) (F:gf fns) {p:Pr} (h1:p.rank=0) (h2:p.lay=[]) (h3:p.opens=false) (h4:p.dec=0) (h5:p.kind=0) (h6:p.uses=0) (h7:p.allow=0) (hl:p.right.length<=16) (h:AH):dq P X GL 93 [.ag (cC p)] h (.b (QX p)) h:=by
 refine yC S (fun n h=>rfl) ?_ h;refine aZ.intro fun C E=> ?_
 rw[aA E.ok (E.get F.f93)];by_cases h0:p.right.length=3
 ·obtain⟨s0,s1,s2,hr⟩:∃s0 s1 s2,p.right=[s0,s1,s2]:=by
   rcases hp:p.right with _|⟨a,_|⟨b,_|⟨c,_|_⟩⟩⟩<;>simp[hp] at h0 ⊢
  have g0:p.right[0]? =some s0:=by rw[hr];rfl
  have g1:p.right[1]? =some s1:=by rw[hr];rfl
  have g2:p.right[2]? =some s2:=by rw[hr];rfl
  have e0:sub (p.right.flatMap bS) 0 1=some [.b s0.1]:=aB bz g0 (j:=0) (n:=1) ω;have e1:sub (p.right.flatMap bS) 2 1=some [.b s1.1]:=aB bz g1 (j:=0) (n:=1) ω;have e2:sub (p.right.flatMap bS) 3 1=some [.i .i64 (s1.2:Int)]:=aB bz g1 (j:=1) (n:=1) ω;have e3:sub (p.right.flatMap bS) 4 1=some [.b s2.1]:=aB bz g2 (j:=0) (n:=1) ω;have e4:QX p=(s0.1&&(s2.1&&(!s1.1&&decide (s1.2=p.left)))):=by unfold QX;rw[hr]
  rw[e4];have c3:((3:Nat):Int)=3:=rfl;have z3:(3:Int)=3:=rfl;have nc:aJ 64 (.dp (p.right.flatMap bS) 0)=true:=by rw[di,bu de]
  have nc2:∀k,aJ 64 (.dp (p.right.flatMap bS) k)=true:=fun k=>by rw[di,bu de]
  have ne:aJ 64 (eR bS 2 p.rn p.right)=true:=aT de;by_cases b0:s0.1=true
  ·by_cases b2:s2.1=true
   ·by_cases b1:s1.1=true
    ·simp(disch:=omega) only[G0,cC,AM.h0,h0,c3,h1,h2,h3,h4,h5,h6,h7,jW,vd,aF,e0,e1,e2,e3,b0,b1,b2,nc2,ne,jL,↓ky E.ok,Nat.reduceEqDiff,Nat.reduceAdd,Nat.reduceMul,Nat.reduceLT,Nat.reduceShiftRight,Nat.reduceAnd,Nat.reduceBneDiff,↓reduceIte,Int.reduceLT,Int.reduceLE,Int.reduceEq,go_sem];exact⟨1,rfl⟩
    ·simp only[HU] at b1;by_cases b3:s1.2=p.left
     ·have b3':((s1.2:Int)=(p.left:Int))=True:=eq_true ω;simp(disch:=omega) only[G0,cC,AM.h0,h0,c3,h1,h2,h3,h4,h5,h6,h7,jW,vd,aF,e0,e1,e2,e3,b0,b1,b2,b3',nc2,ne,jL,↓ky E.ok,Nat.reduceEqDiff,Nat.reduceAdd,Nat.reduceMul,Nat.reduceLT,Nat.reduceShiftRight,Nat.reduceAnd,Nat.reduceBneDiff,↓reduceIte,Int.reduceLT,Int.reduceLE,Int.reduceEq,go_sem];exact⟨1,by simp[aH,b3]⟩
     ·have b3':((s1.2:Int)=(p.left:Int))=False:=eq_false ω;simp(disch:=omega) only[G0,cC,AM.h0,h0,c3,h1,h2,h3,h4,h5,h6,h7,jW,vd,aF,e0,e1,e2,e3,b0,b1,b2,b3',nc2,ne,jL,↓ky E.ok,Nat.reduceEqDiff,Nat.reduceAdd,Nat.reduceMul,Nat.reduceLT,Nat.reduceShiftRight,Nat.reduceAnd,Nat.reduceBneDiff,↓reduceIte,Int.reduceLT,Int.reduceLE,Int.reduceEq,go_sem];exact⟨1,by simp[aH,b3]⟩
   ·simp only[HU] at b2;simp(disch:=omega) only[G0,cC,AM.h0,h0,c3,h1,h2,h3,h4,h5,h6,h7,jW,vd,aF,e0,e1,e2,e3,b0,b2,nc2,ne,jL,↓ky E.ok,Nat.reduceEqDiff,Nat.reduceAdd,Nat.reduceMul,Nat.reduceLT,Nat.reduceShiftRight,Nat.reduceAnd,Nat.reduceBneDiff,↓reduceIte,Int.reduceLT,Int.reduceLE,Int.reduceEq,go_sem];exact⟨1,rfl⟩
  ·simp only[HU] at b0;simp(disch:=omega) only[G0,cC,AM.h0,h0,c3,h1,h2,h3,h4,h5,h6,h7,jW,vd,aF,e0,e1,e2,e3,b0,nc2,ne,jL,↓ky E.ok,Nat.reduceEqDiff,Nat.reduceAdd,Nat.reduceMul,Nat.reduceLT,Nat.reduceShiftRight,Nat.reduceAnd,Nat.reduceBneDiff,↓reduceIte,Int.reduceLT,Int.reduceLE,Int.reduceEq,go_sem];exact⟨1,rfl⟩
 ·have h0':((p.right.length:Int)=3)=False:=eq_false ω;have e4:QX p=false:=by
   unfold QX;split
   ·rename_i hr;rw[hr] at h0;simp at h0
   ·rfl
  rw[e4];simp(disch:=omega) only[G0,cC,AM.h0,h0',↓ky E.ok,Nat.reduceEqDiff,Nat.reduceAdd,Nat.reduceMul,Nat.reduceLT,Nat.reduceShiftRight,Nat.reduceAnd,Nat.reduceBneDiff,↓reduceIte,Int.reduceLT,Int.reduceLE,Int.reduceEq,go_sem];exact⟨1,rfl⟩
def W9 {p:Pr} (b:W8 p):QX p=true:=by
 obtain⟨_,_,_,_,_,_,_,i,j,hr⟩:=b;unfold QX;rw[hr];simp
end
def Xd:T aR:=(.n (.n (.n (.n .e none (.n (.n .e none (.n (.n (.n .e (some O0) .e) none .e) none .e)) none (.n .e none (.n .e none (.n .e none (.n .e (some O8) .e)))))) none (.n .e none (.n (.n .e none (.n (.n .e none (.n .e (some O2) .e)) none .e)) none .e))) none (.n .e none (.n (.n .e none (.n .e none (.n .e none (.n .e none (.n .e (some O6) .e))))) none (.n (.n .e none (.n (.n .e none (.n .e (some O4) .e)) none .e)) none (.n .e none (.n (.n (.n (.n .e (some O9) .e) none .e) none .e) none .e)))))) none (.n (.n .e none (.n (.n .e none (.n .e none (.n .e none (.n .e none (.n .e (some O5) .e))))) none (.n (.n .e none (.n (.n .e none (.n .e (some O3) .e)) none .e)) none .e))) none (.n .e none (.n (.n .e none (.n .e none (.n .e none (.n .e none (.n .e (some O7) .e))))) none .e))))
def Sy:Xd=(T.put (T.put (T.put (T.put (T.put (T.put (T.put (T.put (T.put .e 295 O0) 427 O2) 428 O3) 429 O4) 500 O5) 501 O6) 502 O7) 503 O8) 573 O9):=rfl
def Ct {fns:T aR} (FHasG:gf fns):∀f m,Xd.get f=some m ->fns.get f=some m:=by
 rw[Sy];exact(bG (bG (bG (bG (bG (bG (bG (bG (bG IU FHasG.f295) FHasG.f427) FHasG.f428) FHasG.f429) FHasG.f500) FHasG.f501) FHasG.f502) FHasG.f503) FHasG.f573)
section
variable {P:Program} {X:dy} {GL:T (List AV)} {fns:T aR}
def kI (GL:T (List AV)):(List.range 3).all (fun i=>fA GL Xd (fun _ _=>none) 100000 295 [.s [65+i]] (.b true))=true:=by kernel_rfl
def kP0 (GL:T (List AV)):fA GL Xd (fun _ _=>none) 100000 428 [eR CN 5 true (sD 0)] (ι 0)=true:=by kernel_rfl
def kP9 (GL:T (List AV)):fA GL Xd (fun _ _=>none) 100000 428 [eR CN 5 true (sD 9)] (ι 0)=true:=by kernel_rfl
def ay2 (GL:T (List AV)):fA GL Xd (fun _ _=>none) 100000 428 [eR CN 5 true (sD 10)] (ι 0)=true:=by kernel_rfl
def kM0 (GL:T (List AV)):fA GL Xd (fun _ _=>none) 100000 429 [eR CN 5 true (sD 0),.s [120]] (.b true)=true:=by kernel_rfl
def Kz (S:aw P X GL fns) (F:gf fns) {i:Nat} (hi:i<3) (h:AH):dq P X GL 295 [.s [65+i]] h (.b true) h:=
 aE S (dH (Ct F) cJ (fK.1 (kI GL) i (pi.2 hi))) (n:=9) (by simp only[af,ay,oP]) h
def Cu (S:aw P X GL fns) (F:gf fns) {i:Nat} (hi:i=0∨i=9∨i=10) (h:AH):dq P X GL 428 [eR CN 5 true (sD i)] h (ι 0) h:=by
 refine aE S (dH (Ct F) cJ (n:=100000) ?_) (n:=9) (by simp only[af,ay,aM pY]) h;rcases hi with rfl|rfl|rfl
 ·exact kP0 GL
 ·exact kP9 GL
 ·exact ay2 GL
def KA (S:aw P X GL fns) (F:gf fns) (h:AH):dq P X GL 429 [eR CN 5 true (sD 0),.s [120]] h (.b true) h:=
 aE S (dH (Ct F) cJ (kM0 GL)) (n:=9) (by simp only[af,ay,oP,aM pY]) h
def KB (S:aw P X GL fns) (R:dr fns) (A:bh P X GL) (F:gf fns) {n i:Nat} {c:Tr} (hn:n<=3) (hi:i<11) (hc:yB n c) (h:AH):dq P X GL 297 [.ag (iI (c,i)),.i .i64 (n:Int)] h (.b true) h:=by
 refine aE S (n:=9) ?_ (by simp only[af,ay,dc,eO (dz _)]) h;refine aZ.intro fun C E=> ?_
 have cf:=fun h=>mC S R A F hn hc h
 simp only[eT,eD] at cf;rw[aA E.ok (E.get F.f297)];rcases(show i=0∨(1<=i/\ i<=8)∨i=9∨i=10 by omega) with rfl|h8|rfl|rfl
 ·have c0:((iy 0:Nat):Int)=0:=rfl;have l0:nX 0=[]:=rfl;have s0:(([120]:List Nat)=[])=False:=eq_false (by simp);have s1:lJ 0=[120]:=rfl;refine Y6 @Ed.eq_1 @iI.eq_1 @h0.eq_1 c0 l0 s1 ?_;refine E.con (cf _) ?_;refine Y3 c0 l0 s1 ?_;refine E.con (Cu S F (.inl rfl) _) ?_;refine Y4 c0 l0 s0 s1 ?_;refine E.con (KA S F _) ?_;refine Y0 ?_;exact⟨1,rfl⟩
 ·have hk:∀i,1<=i/\ i<=8 ->iy i=0/\ nX i≠[]/\ sD i=[]/\ lJ i=[]:=by
   intro i hi;rcases(show i=1∨i=2∨i=3∨i=4∨i=5∨i=6∨i=7∨i=8 by omega) with rfl|rfl|rfl|rfl|rfl|rfl|rfl|rfl<;>exact⟨rfl,by simp[nX,fY],rfl,rfl⟩
  obtain⟨k1,k2,k3,k4⟩:=hk i h8;have c0:((iy i:Nat):Int)=0:=by rw[k1];rfl
  have k2':(nX i=[])=False:=eq_false k2;refine Y6 @Ed.eq_1 @iI.eq_1 @h0.eq_1 c0 k3 k4 ?_;refine E.con (cf _) ?_;refine Y5 c0 k2' k3 k4 @jW ?_;exact⟨1,rfl⟩
 ·have c0:((iy 9:Nat):Int)=1:=rfl;have l0:nX 9=[]:=rfl;have s1:lJ 9=[]:=rfl;refine Y6 @Ed.eq_1 @iI.eq_1 @h0.eq_1 c0 l0 s1 ?_;refine E.con (cf _) ?_;refine Y3 c0 l0 s1 ?_;refine E.con (Cu S F (.inr (.inl rfl)) _) ?_;refine Y3 c0 l0 s1 ?_;exact⟨1,rfl⟩
 ·have c0:((iy 10:Nat):Int)=2:=rfl;have l0:nX 10=[]:=rfl;have s1:lJ 10=[]:=rfl;refine Y6 @Ed.eq_1 @iI.eq_1 @h0.eq_1 c0 l0 s1 ?_;refine E.con (cf _) ?_;refine Y3 c0 l0 s1 ?_;refine E.con (Cu S F (.inr (.inr rfl)) _) ?_;refine Y3 c0 l0 s1 ?_;exact⟨1,rfl⟩
def Sz (h:AH) (v:AV) (L:List (List Nat)):Prop:=∃o,1<=o/\ o<h.next/\ cG (h.objs.get o)=some (L.map AV.s)/\ ((L=[]/\ v= .sl o 0 0 (some 0) 1)∨(L≠[]/\ v= .sl o 0 L.length none 1))
def SA {h:AH} {o:Nat} {L:List (List Nat)} (hc:cG (h.objs.get o)=some (L.map AV.s)) {c:Option Nat}:aH 9 h (.sl o 0 L.length c 1)=some (eX L []):=by
 have e1:aH 9 h (.sl o 0 L.length c 1)=(match h.objs.get o with
  |some (.cells _ l)=>match aK 8 h l with|some l=>some (.ds l 0 L.length 1)|none=>none
  |_=>none):=rfl
 rw[e1];generalize h.objs.get o=x at hc
 match x with
 |some (.cells v l)=>
  rw[dB] at hc;cases hc;dsimp only;rw[yw];unfold eX;simp
 |none=>cases hc
 |some (.map _ _ _)=>cases hc
 |some .gone=>cases hc
def Au:∀i j,i<11 ->j<11 ->fY i=fY j ->i=j:=by
 have h:(List.range 11).all (fun i=>(List.range 11).all fun j=>decide (fY i=fY j ->i=j))=true:=by kernel_rfl
 intro i j hi hj e;have:=fK.1 (fK.1 h i (pi.2 hi)) j (pi.2 hj);exact decide_eq_true_eq.mp this e
def Ej:∀i,fY i≠[]:=by
 intro i;unfold fY;split<;>simp
def yE (S:aw P X GL fns) (F:gf fns) {h:AH} {o n:Nat} {c:Option Nat} {L:List (List Nat)} {s:List Nat} (hc:cG (h.objs.get o)=some (L.map AV.s)) (hl:L.length<=1000) (hs:L[n]? =some s) (hne:s≠[]) (hd:∀j:Nat,j<n ->L[j]?≠some s):dq P X GL 296 [.sl o 0 L.length c 1,.i .i64 (n:Int)] h (.b true) h:=
 fP S (sI F (ex:=[]) hl hs hne hd) (n:=9) (m:=1) (by simp only[af,ay,dc,SA hc]) rfl
def eP {α:Type} {L:List α} {i:Nat} {a:α} (h:L[i]? =some a):L.take (i+1)=L.take i++[a]:=by
 rw[List.take_add_one,h];rfl
set_option maxHeartbeats 1000000 in
def G2 (S:aw P X GL fns) (R:dr fns) (A:bh P X GL) (F:gf fns) {g:Gr} (G:cM g) (h:AH):dq P X GL 183 [b9 g] h (.b true) h:=by
 refine ez S (fun n h=>rfl) ?_ h;refine aZ.intro fun C E=> ?_
 have tl:=G.tcl;have hz:g.tc.zipIdx.length=11:=by rw[lC,tl]
 have nc:=G.nc;have cl:(bW g.nc).length=g.nc:=by unfold bW;rw[fO];simp;omega
 rw[aA E.ok (E.get F.f183)];refine Y3 @Ue.eq_1 @b9.eq_1 @h0.eq_1 ?_;refine aX E.ok 11 (fun i τ h=>cG (h.objs.get 0)=some (aL g)/\ (∃v,τ.get 3=some v/\ Sz h v ((List.range i).map fY))/\ τ.get 1=some (.p 0 0)/\ τ.get 4=some (ι (i:Int))) ?_ ?_ _ _ ⟨?_,⟨_,?_,1,?_,?_,?_,.inl ⟨rfl,rfl⟩⟩,?_,?_⟩
 ·rintro i τ ⟨n1,ver,ob⟩ hi ⟨c0,⟨v,t3,o,o1,o2,hco,hv⟩,t1,t4⟩ ih;obtain⟨c,hc1,hc2⟩:=mD (g:=g) tl (i:=i) hi;have o2':o<n1:=o2;have c0':=c0;simp only[aL] at c0;dsimp only at hco;have e0:sub (g.tc.zipIdx.flatMap iI) (i*7) 1=some [.s (fY i)]:=aB ic hc2 (j:=0) (n:=1) ω;have e7:sub (g.tc.zipIdx.flatMap iI) (i*7) 7=some (iI (c,i)):=aB ic hc2 (j:=0) (n:=7) ω;have ct:=fun h=>KB S R A F (n:=g.nc) (i:=i) (c:=c) nc hi (G.tc c (bJ hc1)) h
  have hzz:((g.tc.zipIdx.length:Nat):Int)=11:=by rw[hz];rfl
  have hi':((i:Int)<11)=True:=eq_true ω;have hr:(List.range (i+1)).map fY=(List.range i).map fY++[fY i]:=by rw[zB,iT];rfl
  have hll:((List.range i).map fY).length=i:=by simp
  have nk:aJ 64 (.ag (iI (c,i)))=true:=by rw[fH,iz]
  have nk2:∀k,aJ 64 (.dp (g.tc.zipIdx.flatMap iI) k)=true:=fun k=>by rw[di,bu iz]
  have nk3:aJ 64 (eR iI 7 true g.tc.zipIdx)=true:=aT iz;have new:∀(ob':T aU) (n':Nat),cG (ob'.get n')=some (((List.range (i+1)).map fY).map AV.s) ->∀nx vv:Nat,dq P X GL 296 [.sl n' 0 (i+1) none 1,.i .i64 (i:Int)] ⟨nx,vv,ob'⟩ (.b true) ⟨nx,vv,ob'⟩:=by
   intro ob' n' hc nx vv;have:=yE S F (h:=⟨nx,vv,ob'⟩) (o:=n') (n:=i) (c:=none) (L:=(List.range (i+1)).map fY) (s:=fY i) hc (by simp;omega) (by simp) (Ej i) (fun j hj he=>by
    rw[lX,List.getElem?_range ω] at he;have:=Au j i ω ω (Option.some.inj he);omega)
   simpa using this
  have nm:∀(ob':T aU) (n' nx vv:Nat),cG (ob'.get n')=some (((List.range (i+1)).map fY).map AV.s) ->1<=n' ->n'<nx ->Sz ⟨nx,vv,ob'⟩ (.sl n' 0 (i+1) none 1) ((List.range (i+1)).map fY):=
   fun ob' n' nx vv hc h1 h2=>⟨n',h1,h2,hc,.inr ⟨by simp,by simp⟩⟩
  rcases hv with ⟨hL,rfl⟩|⟨hL,rfl⟩
  ·rw[hL] at hco hr;have i0:i=0:=by simpa using congrArg List.length hL
   subst i0;refine CM @nz c0 t1 t3 t4 @aF hz hzz hco e0 ?_;refine E.con (new _ (n1+1) ?_ _ _) ?_
   ·exact U0
   refine y5 c0 t1 t3 t4 @aF hz e7 nk nk2 nk3 cl ?_;refine E.con (ct _) ?_;refine y5 c0 t1 t3 t4 @aF hz e7 nk nk2 nk3 cl ?_;refine ih _ _ ⟨?_,⟨_,?_,nm _ (n1+1) _ _ ?_ ω ?_⟩,?_,?_⟩
   ·exact W0 c0'
   ·exact U0
   ·exact U0
   ·omega
   all_goals exact U1 t1
   all_goals rfl
  ·have hlm:((List.range i).map fY).length=i:=hll;rw[hlm] at t3;have hlm2:(((List.range i).map fY).map AV.s).length=i:=by simp
   have hi2:i+1<=1048576:=by omega
   refine IA @nz c0 t1 t3 t4 @aF hz hzz hi' hco hlm2 hi2 e0 ?_;refine E.con (new _ (n1+1) ?_ _ _) ?_
   ·exact U1 hr
   refine y5 c0 t1 t3 t4 @aF hz e7 nk nk2 nk3 cl ?_;refine E.con (ct _) ?_;refine BR c0 t1 t3 t4 @aF hz e7 nk nk2 nk3 cl @ar ?_;refine ih _ _ ⟨?_,⟨_,?_,nm _ (n1+1) _ _ ?_ ω ?_⟩,?_,?_⟩
   ·exact W0 c0'
   ·exact U0
   ·exact U1 hr
   ·omega
   all_goals exact U1 t1
 ·rintro τ ⟨n1,ver,ob⟩ ⟨c0,_,t1,t4⟩;simp only[aL] at c0;have hzz:((g.tc.zipIdx.length:Nat):Int)=11:=by rw[hz];rfl
  have z11:((11:Nat):Int)=11:=rfl;refine Y5 c0 t1 t4 hzz z11 ?_;exact⟨1,rfl⟩
 ·exact U0
 ·exact U0
 ·omega
 ·show 1<2;omega
 ·exact U0
 all_goals exact U0
set_option maxHeartbeats 2000000 in
def KC (S:aw P X GL fns) (R:dr fns) (A:bh P X GL) (F:gf fns) {g:Gr} (G:cM g) (h:AH):dq P X GL 185 [b9 g] h (ι 0) h:=by
 refine ez S (fun n h=>rfl) ?_ h;refine aZ.intro fun C E=> ?_
 have nc:=G.nc;have pl:=G.pl;have cl:(bW g.nc).length=g.nc:=by unfold bW;rw[fO];simp;omega
 rw[aA E.ok (E.get F.f185)];refine Y3 @Ug.eq_1 @b9.eq_1 @h0.eq_1 ?_;refine aX E.ok g.prods.length (fun i τ h=>cG (h.objs.get 0)=some (aL g)/\ (∃v,τ.get 3=some v/\ Sz h v ((g.prods.take i).map (·.name)))/\ τ.get 1=some (.p 0 0)/\ τ.get 4=some (ι (i:Int))) ?_ ?_ _ _ ⟨?_,⟨_,?_,1,?_,?_,?_,.inl ⟨rfl,rfl⟩⟩,?_,?_⟩
 ·rintro i τ ⟨n1,ver,ob⟩ hi ⟨c0,⟨v,t3,o,o1,o2,hco,hv⟩,t1,t4⟩ ih;have o2':o<n1:=o2;have c0':=c0;simp only[aL] at c0;dsimp only at hco;have hpi:g.prods[i]? =some g.prods[i]:=ba hi;generalize hp:g.prods[i]=p at hpi;have ok:=G.p p (bJ hpi);have e13:sub (g.prods.flatMap cC) (i*13) 13=some (cC p):=aB eG hpi (j:=0) (n:=13) ω;have hi':((i:Int)<(g.prods.length:Int))=True:=eq_true ω;have hr:(g.prods.take (i+1)).map (·.name)=(g.prods.take i).map (·.name)++[p.name]:=by rw[eP hpi,iT];rfl
  have hll:((g.prods.take i).map (·.name)).length=i:=by simp;omega
  have hll2:((g.prods.take (i+1)).map (·.name)).length=i+1:=by simp;omega
  have new:∀(ob':T aU) (n':Nat),cG (ob'.get n')=some (((g.prods.take (i+1)).map (·.name)).map AV.s) ->∀nx vv:Nat,dq P X GL 296 [.sl n' 0 (i+1) none 1,.i .i64 (i:Int)] ⟨nx,vv,ob'⟩ (.b true) ⟨nx,vv,ob'⟩:=by
   intro ob' n' hc nx vv;have:=yE S F (h:=⟨nx,vv,ob'⟩) (o:=n') (n:=i) (c:=none) (L:=(g.prods.take (i+1)).map (·.name)) (s:=p.name) hc ω (by rw[hr,vE ω,hll];simp) ok.name (fun j hj he=>by
    rw[lX,iL,if_pos ω] at he;cases hq:g.prods[j]? with
    |none=>rw[hq] at he;cases he
    |some q=>
     rw[hq] at he;have:=G.pd j i q p hq hpi (Option.some.inj he);omega)
   rw[hll2] at this;exact this
  have nm:∀(ob':T aU) (n' nx vv:Nat),cG (ob'.get n')=some (((g.prods.take (i+1)).map (·.name)).map AV.s) ->1<=n' ->n'<nx ->Sz ⟨nx,vv,ob'⟩ (.sl n' 0 (i+1) none 1) ((g.prods.take (i+1)).map (·.name)):=
   fun ob' n' nx vv hc h1 h2=>⟨n',h1,h2,hc,.inr ⟨by rw[hr];simp,by rw[hll2]⟩⟩
  have cs:∀h,dq P X GL 298 [.ag (aL g),.ag (cC p)] h (.b true) h:=fun h=>Ee S F G ok h
  have cc:∀h,dq P X GL 299 [.ag (cC p)] h (.b true) h:=fun h=>Pb S F ok h
  have cp:∀h,dq P X GL 300 [.ag (cC p)] h (.b true) h:=fun h=>Kv S F ok h
  have cb:p.br=true ->∀h,dq P X GL 93 [.ag (cC p)] h (.b true) h:=fun hb h=>by
   have b:=ok.br hb;have:=vQ (p:=p) S F b.1 b.2.1 b.2.2.1 b.2.2.2.1 b.2.2.2.2.1 b.2.2.2.2.2.1 b.2.2.2.2.2.2.1 ok.len h
   rwa [W9 b] at this
  have cf:∀h,dq P X GL 94 [.ag [fG (ax p.cond).1,.i .i64 ((ax p.cond).2:Int)],.i .i64 (g.nc:Int)] h (.b true) h:=fun h=>mC S R A F nc ok.cond h
  simp only[aL] at cs;simp only[cC] at cs cc cp cb e13;have rk1:(p.rank< -1)=False:=eq_false (by have:=ok.rank;omega);have rk2:(1<p.rank)=False:=eq_false (by have:=ok.rank;omega);rcases hbr:p.br with _|_
  ·simp only[hbr] at cs cc cp cb e13;rcases hv with ⟨hL,rfl⟩|⟨hL,rfl⟩
   ·rw[hL] at hco hr;have i0:i=0:=by rw[hL] at hll;simpa using hll.symm
    subst i0;refine Y8 @nz c0 t1 t3 t4 @aF hco e13 ?_;refine E.con (cs _) ?_;refine Y6 @nz c0 t1 t3 t4 hco ?_;refine E.con (new _ (n1+1+1) ?_ _ _) ?_
    ·exact U1 hr
    refine Y5 c0 t1 t3 t4 cl ?_;refine E.con (cf _) ?_;refine Y7 c0 t1 t3 t4 cl rk1 rk2 ?_;refine E.con (cc _) ?_;refine Y5 c0 t1 t3 t4 cl ?_;refine E.con (cp _) ?_;refine Y5 c0 t1 t3 t4 cl ?_;refine ih _ _ ⟨?_,⟨_,?_,nm _ (n1+1+1) _ _ ?_ ω ?_⟩,?_,?_⟩
    ·exact W0 c0'
    ·exact U0
    ·exact U1 hr
    ·omega
    all_goals simp only[T.get_put,Nat.reduceEqDiff,reduceIte,t1]
    rfl
   ·rw[hll] at t3;have hlm2:(((g.prods.take i).map (·.name)).map AV.s).length=i:=by rw[j9];exact hll
    have hi2:i+1<=1048576:=by omega
    refine CM @nz c0 t1 t3 t4 @aF hco hlm2 hi2 e13 ?_;refine E.con (cs _) ?_;refine Y8 @nz c0 t1 t3 t4 hco hlm2 hi2 ?_;refine E.con (new _ (n1+1+1) ?_ _ _) ?_
    ·exact U1 hr
    refine Y5 c0 t1 t3 t4 cl ?_;refine E.con (cf _) ?_;refine Y7 c0 t1 t3 t4 cl rk1 rk2 ?_;refine E.con (cc _) ?_;refine Y5 c0 t1 t3 t4 cl ?_;refine E.con (cp _) ?_;refine Y6 c0 t1 t3 t4 cl @ar ?_;refine ih _ _ ⟨?_,⟨_,?_,nm _ (n1+1+1) _ _ ?_ ω ?_⟩,?_,?_⟩
    ·exact W0 c0'
    ·exact U0
    ·exact U1 hr
    ·omega
    all_goals exact U1 t1
  ·simp only[hbr] at cs cc cp cb e13;rcases hv with ⟨hL,rfl⟩|⟨hL,rfl⟩
   ·rw[hL] at hco hr;have i0:i=0:=by rw[hL] at hll;simpa using hll.symm
    subst i0;refine Y8 @nz c0 t1 t3 t4 @aF hco e13 ?_;refine E.con (cs _) ?_;refine Y6 @nz c0 t1 t3 t4 hco ?_;refine E.con (new _ (n1+1+1) ?_ _ _) ?_
    ·exact U1 hr
    refine Y5 c0 t1 t3 t4 cl ?_;refine E.con (cf _) ?_;refine Y7 c0 t1 t3 t4 cl rk1 rk2 ?_;refine E.con (cc _) ?_;refine Y5 c0 t1 t3 t4 cl ?_;refine E.con (cp _) ?_;refine Y5 c0 t1 t3 t4 cl ?_;refine E.con (cb trivial _) ?_;refine Y4 c0 t1 t3 t4 ?_;refine ih _ _ ⟨?_,⟨_,?_,nm _ (n1+1+1) _ _ ?_ ω ?_⟩,?_,?_⟩
    ·exact W0 c0'
    ·exact U0
    ·exact U1 hr
    ·omega
    all_goals simp only[T.get_put,Nat.reduceEqDiff,reduceIte,t1]
    rfl
   ·rw[hll] at t3;have hlm2:(((g.prods.take i).map (·.name)).map AV.s).length=i:=by rw[j9];exact hll
    have hi2:i+1<=1048576:=by omega
    refine CM @nz c0 t1 t3 t4 @aF hco hlm2 hi2 e13 ?_;refine E.con (cs _) ?_;refine Y8 @nz c0 t1 t3 t4 hco hlm2 hi2 ?_;refine E.con (new _ (n1+1+1) ?_ _ _) ?_
    ·exact U1 hr
    refine Y5 c0 t1 t3 t4 cl ?_;refine E.con (cf _) ?_;refine Y7 c0 t1 t3 t4 cl rk1 rk2 ?_;refine E.con (cc _) ?_;refine Y5 c0 t1 t3 t4 cl ?_;refine E.con (cp _) ?_;refine Y6 c0 t1 t3 t4 cl @ar ?_;refine E.con (cb trivial _) ?_;refine Y5 c0 t1 t3 t4 @ar ?_;refine ih _ _ ⟨?_,⟨_,?_,nm _ (n1+1+1) _ _ ?_ ω ?_⟩,?_,?_⟩
    ·exact W0 c0'
    ·exact U0
    ·exact U1 hr
    ·omega
    all_goals exact U1 t1
 ·rintro τ ⟨n1,ver,ob⟩ ⟨c0,_,t1,t4⟩;simp only[aL] at c0;refine Y3 c0 t1 t4 ?_;exact⟨1,rfl⟩
 ·exact U0
 ·exact U0
 ·omega
 ·show 1<2;omega
 ·exact U0
 all_goals exact U0
end
def mE (D:List Nat) (n:Nat):List AV:=(List.range n).map fun i=>AV.b (decide (i∈D))
def n9 {D n}:(mE D n).length=n:=by simp[mE]
def vg {D:List Nat} {n i:Nat} (h:i<n):(mE D n)[i]? =some (.b (decide (i∈D))):=by simp[mE,h]
def KD {D:List Nat} {n x:Nat}:(mE D n).set x (.b true)=mE (D++[x]) n:=by
 apply y6;intro j;rw[pu];by_cases hj:j<n
 ·rw[vg hj,vg hj];by_cases e:x=j
  ·subst e;simp[n9,hj]
  ·have:¬j=x:=fun h=>e h.symm
   simp[e,this]
 ·rw[sR (l:=mE D n) (by rw[n9];omega),sR (l:=mE (D++[x]) n) (by rw[n9];omega),n9];split
  ·rename_i e;subst e;rw[if_neg hj]
  ·rfl
def KE {n:Nat}:(List.replicate n [AV.b false]).flatten=mE [] n:=by
 unfold mE;induction n with
 |zero=>rfl
 |succ n ih=>
  rw[List.replicate_succ',List.flatten_append,ih,zB,iT];simp
section
variable {P:Program} {X:dy} {GL:T (List AV)} {fns:T aR}
set_option maxHeartbeats 2000000 in
def G3 (S:aw P X GL fns) (R:dr fns) (A:bh P X GL) (F:gf fns) {g:Gr} (G:cM g) (h:AH):dq P X GL 186 [b9 g] h (.b true) h:=by
 refine ez S (fun n h=>rfl) ?_ h;refine aZ.intro fun C E=> ?_
 have nc:=G.nc;have pl:=G.pl;have ll:=G.ll;have cl:(bW g.nc).length=g.nc:=by unfold bW;rw[fO];simp;omega
 have pl2:g.prods.length<=1048576:=by omega
 rw[aA E.ok (E.get F.f186)];refine Y7 @Uh.eq_1 @b9.eq_1 @aL.eq_1 @h0.eq_1 pl2 @bK @KE ?_;refine aX E.ok g.lvs.length (fun i τ h=>cG (h.objs.get 0)=some (aL g)/\ cG (h.objs.get 1)=some (mE ((g.lvs.take i).flatMap (·.prods)) g.prods.length)/\ 2<=h.next/\ τ.get 1=some (.p 0 0)/\ τ.get 3=some (.sl 1 0 g.prods.length (some g.prods.length) 1)/\ τ.get 4=some (ι (i:Int))) ?_ ?_ _ _ ⟨?_,?_,?_,?_,?_,?_⟩
 ·rintro i τ ⟨n1,ver,ob⟩ hi ⟨c0,c1,hn,t1,t3,t4⟩ ih;have hn':2<=n1:=hn;have c0':=c0;simp only[aL] at c0;have hli:g.lvs[i]? =some g.lvs[i]:=ba hi;generalize hl:g.lvs[i]=l at hli;obtain⟨l1,l2,l3⟩:=G.l l (bJ hli);have e4:sub (g.lvs.flatMap qU) (i*4) 4=some (qU l):=aB tY hli (j:=0) (n:=4) ω;simp only[qU] at e4;have cf:∀h,dq P X GL 94 [.ag [fG (ax l.cond).1,.i .i64 ((ax l.cond).2:Int)],.i .i64 (g.nc:Int)] h (.b true) h:=fun h=>mC S R A F nc l2 h
  have hfl:(g.lvs.take (i+1)).flatMap (·.prods)=(g.lvs.take i).flatMap (·.prods)++l.prods:=by rw[eP hli,ik];simp
  have hall:g.lvs.flatMap (·.prods)=(g.lvs.take i).flatMap (·.prods)++(l.prods++(g.lvs.drop (i+1)).flatMap (·.prods)):=by
   have h1:g.lvs=g.lvs.take (i+1)++g.lvs.drop (i+1):=(pm _ _).symm;rw[←jO,←hfl,←ik,←h1]
  refine Y7 c0 t1 t3 t4 @aF e4 cl ?_;refine E.con (cf _) ?_;refine Y5 c0 t1 t3 t4 cl ?_;refine aX E.ok l.prods.length (fun k τ h=>cG (h.objs.get 0)=some (aL g)/\ cG (h.objs.get 1)=some (mE ((g.lvs.take i).flatMap (·.prods)++l.prods.take k) g.prods.length)/\ (∃v,h.objs.get n1=some (.cells v (qU l)))/\ n1+1<=h.next/\ τ.get 1=some (.p 0 0)/\ τ.get 3=some (.sl 1 0 g.prods.length (some g.prods.length) 1)/\ τ.get 4=some (ι (i:Int))/\ τ.get 5=some (.p n1 0)/\ τ.get 6=some (ι (k:Int))) ?_ ?_ _ _ ⟨?_,?_,?_,?_,?_,?_,?_,?_,?_⟩
  ·rintro k τ ⟨n2,ver2,ob2⟩ hk ⟨d0,d1,⟨v,d5⟩,dn,s1,s3,s4,s5,s6⟩ ih2;have dn':n1+1<=n2:=dn;have d5':cG (ob2.get n1)=some (qU l):=by dsimp only at d5;rw[d5];rfl
   simp only[qU] at d5';have hki:l.prods[k]? =some l.prods[k]:=ba hk;generalize hx:l.prods[k]=x at hki;have e1:sub (l.prods.flatMap cI) k 1=some [.i .i64 (x:Int)]:=by
    have:=aB sF hki (j:=0) (n:=1) ω;simpa[cI] using this
   have hxm:x∈g.lvs.flatMap (·.prods):=by rw[hall];simp[bJ hki]
   have hxp:=G.lp x hxm;have hnd:=G.ld;rw[hall] at hnd;have hl2:l.prods=l.prods.take k++(x::l.prods.drop (k+1)):=by
    have hdk:l.prods.drop k=x::l.prods.drop (k+1):=by rw[Ba hk,hx]
    rw[←hdk,pm]
   have hno:x∉(g.lvs.take i).flatMap (·.prods)++l.prods.take k:=by
    intro hm;rw[hl2,jO,←jO] at hnd;have:=(uy.1 hnd).2.2 x hm x (by simp);exact this rfl
   have e2:sub (mE ((g.lvs.take i).flatMap (·.prods)++l.prods.take k) g.prods.length) x 1=some [.b false]:=by
    have:=j5 (vg (D:=(g.lvs.take i).flatMap (·.prods)++l.prods.take k) hxp)
    rwa [decide_eq_false hno] at this
   have e3:bD [.b true] (mE ((g.lvs.take i).flatMap (·.prods)++l.prods.take k) g.prods.length) x=some (mE ((g.lvs.take i).flatMap (·.prods)++l.prods.take (k+1)) g.prods.length):=by
    rw[sm (by rw[n9];exact hxp),KD,eP hki,jO]
   have d0':=d0;simp only[aL] at d0;dsimp only at d1;refine IA d0 d1 d5' s1 s3 s4 s5 s6 @aF e1 e2 e3 @ar ?_;refine ih2 _ _ ⟨?_,?_,⟨v,?_⟩,dn,?_,?_,?_,?_,?_⟩
   ·exact W0 d0'
   ·exact U0
   ·exact W0 d5
   all_goals exact U4 s1 s3 s4 s5
  ·rintro τ ⟨n2,ver2,ob2⟩ ⟨d0,d1,⟨v,d5⟩,dn,s1,s3,s4,s5,s6⟩;have d5':cG (ob2.get n1)=some (qU l):=by dsimp only at d5;rw[d5];rfl
   simp only[qU] at d5';have dn':n1+1<=n2:=dn;dsimp only at d1;rw[m8,←hfl] at d1;refine Y7 d5' s1 s3 s4 s5 s6 @ar ?_;refine ih _ _ ⟨d0,d1,by show 2<=n2;omega,?_,?_,?_⟩<;>exact U2 s1 s3
  ·exact W0 c0'
  ·simp(disch:=omega) only[cF,T.get_put,if_false,pz,ip];exact c1
  ·exact⟨ver+1,by exact U0⟩
  ·exact bK _
  all_goals exact U3 t1 t3 t4
 ·rintro τ ⟨n1,ver,ob⟩ ⟨c0,c1,hn,t1,t3,t4⟩;simp only[aL] at c0;refine Y3 c0 t1 t4 ?_;exact⟨1,rfl⟩
 ·exact U1 @aL.eq_1
 ·exact U0
 ·show 2<=2;omega
 all_goals exact U0
end
end
end AM
