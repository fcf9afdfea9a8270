import Derived.Test.YtcpcjocnnclcmaaGreatDoorN6
import Derived.Test.YtcpcjocnnclcmaaGreatDoorN8
set_option linter.all false
namespace AM
open Go
noncomputable section
inductive Fr where
 |s (b:ap)
 |b (i:Nat)
section
variable (C:cQ Prop)
def M9 (K:K Prop):List Fr ->AM.K Prop
 |[]=>K
 | .s b::S=>fun e τ h=>match e with| .normal=>qt C b (M9 K S) τ h|e=>M9 K S e τ h
 | .b i::S=>fun e τ h=>match e with| .exit j=>(bif Nat.beq j i then M9 K S .normal τ h else M9 K S (.exit j) τ h)|e=>M9 K S e τ h
def dk (c:ap) (S:List Fr) (K:K Prop) (τ:T AV) (h:AH):Prop:=qt C c (M9 C K S) τ h
def iZ (e:JA) (S:List Fr) (K:K Prop) (τ:T AV) (h:AH):Prop:=M9 C K S e τ h
def nxt (S:List Fr) (K:K Prop):T AV ->AH ->Prop:=fun τ h=>M9 C K S .normal τ h
def ph (l:List MG) (S:List Fr) (K:K Prop) (τ:T AV) (h:AH):Prop:=bg C (fX C) (tD C) (nxt C S K) l τ h
def Na (l:List MG) (S:List Fr) (K:K Prop) (d:Option Nat) (τ:T AV):AV ->AH ->Prop:=fun x h=>ph C l S K (bM τ d x) h
def oS (l:List MG) (S:List Fr) (K:K Prop) (d:Option Nat) (τ:T AV) (r:bj):Prop:=kO C (fX C) (tD C) (nxt C S K) l d τ r
def gS (l:List MG) (S:List Fr) (K:K Prop) (d:Option Nat) (op:xc) (w:Bool) (τ:T AV) (h:AH) (r:Option AV):Prop:=kG C (fX C) (tD C) (nxt C S K) l d op w τ h r
def cS (a b:ap) (S:List Fr) (K:K Prop) (τ:T AV) (h:AH) (r:AV):Prop:=kC C (M9 C K S) a b τ h r
def Ka (base:Nat) (l:List DI) (ls:List (Nat×MG)) (pd:List (Nat×Nat×aU)) (S:List Fr) (K:K Prop) (τ:T AV) (h:AH):Prop:=aC C (fX C) (tD C) base (nxt C S K) l ls pd τ h
def lS (base:Nat) (i:Nat) (g:MG) (l:List DI) (ls:List (Nat×MG)) (pd:List (Nat×Nat×aU)) (S:List Fr) (K:K Prop) (τ:T AV) (h:AH) (r:Option AV):Prop:=kL C (fX C) (tD C) base (nxt C S K) i g l ls pd τ h r
def rS (base i id:Nat) (d:Option Nat) (l:List DI) (ls:List (Nat×MG)) (pd:List (Nat×Nat×aU)) (S:List Fr) (K:K Prop) (τ:T AV) (h:AH) (r:bj):Prop:=kR C (fX C) (tD C) base (nxt C S K) i id d l ls pd τ h r
def YZ (base i id:Nat) (x:AV) (d:Option Nat) (l:List DI) (ls:List (Nat×MG)) (pd:List (Nat×Nat×aU)) (S:List Fr) (K:K Prop) (τ:T AV) (h:AH) (r:Option aU):Prop:=ZP C (fX C) (tD C) base (nxt C S K) i id x d l ls pd τ h r
def yS (base:Nat) (l:List DI) (ls:List (Nat×MG)) (pd:List (Nat×Nat×aU)) (S:List Fr) (K:K Prop) (τ:T AV) (h:AH) (r:Option (Nat×aU)):Prop:=kY C (fX C) (tD C) base (nxt C S K) l ls pd τ h r
def aS (base mask:Nat) (l:List DI) (ls:List (Nat×MG)) (pd:List (Nat×Nat×aU)) (S:List Fr) (K:K Prop) (τ:T AV) (h:AH) (ch:List (Nat×MG)):Prop:=kA C (fX C) (tD C) base (nxt C S K) mask l ls pd τ h ch
def Nb (base mask:Nat) (d:Option Nat) (l:List DI) (ls:List (Nat×MG)) (pd:List (Nat×Nat×aU)) (S:List Fr) (K:K Prop) (τ:T AV):AV ->AH ->Prop:=fun x h=>aS C base mask l ls pd S K (bM τ d x) h ls
def TN (base mask:Nat) (l:List DI) (ls:List (Nat×MG)) (pd:List (Nat×Nat×aU)) (S:List Fr) (K:K Prop) (τ:T AV) (h:AH) (ch:List (Nat×MG)) (y x:Option AV):Prop:=match x with
 |some x=>(match y with
  |some y=>if cU 64 x y=true then aS C base mask l ls pd S K τ h ch else C.fail
  |none=>C.fail)
 |none=>C.fail
def hS (base mask:Nat) (d:Option Nat) (l:List DI) (ls:List (Nat×MG)) (pd:List (Nat×Nat×aU)) (S:List Fr) (K:K Prop) (τ:T AV) (r:bj):Prop:=kH C (fX C) (tD C) base (nxt C S K) mask d l ls pd τ r
def Wo (base mask:Nat) (d:Option Nat) (op:xc) (w:Bool) (l:List DI) (ls:List (Nat×MG)) (pd:List (Nat×Nat×aU)) (S:List Fr) (K:K Prop) (τ:T AV) (h:AH) (r:Option AV):Prop:=YV C (fX C) (tD C) base (nxt C S K) mask d op w l ls pd τ h r
def KF (k:AV ->AH ->Prop) (res:List (Nat×Option (Nat×Bool))):K Prop:=fun e τ h=>match e with
 | .exit _=>False
 |_=>kQ k h (aP τ h res)
end
section
variable {C:cQ Prop} (hC:pN C) {S:List Fr} {K:K Prop} {τ:T AV} {h:AH}
include hC
theorem Kb:dk C .skip S K τ h↔iZ C .normal S K τ h:=Dq hC
theorem Kc {i:Nat}:dk C (.exit i) S K τ h↔iZ C (.exit i) S K τ h:=Dr hC
theorem Nc:dk C .ret S K τ h↔iZ C .ret S K τ h:=Ib hC
theorem DF {a b:ap}:dk C (.seq a b) S K τ h↔dk C a (.s b::S) K τ h:=Ic hC
theorem F3 {i:Nat} {a:ap}:dk C (.block i a) S K τ h↔dk C a (.b i::S) K τ h:=zW hC
theorem eZ {a:ap}:dk C (.loop a) S K τ h↔dk C a (.s (.loop a)::S) K τ h:=kr hC
theorem Kd {x:MA} {a b:ap}:dk C (.cond x a b) S K τ h↔cS C a b S K τ h (bp C τ x):=TH hC
theorem Nd {l:List MG}:dk C (.ops l) S K τ h↔ph C l S K τ h:=Id hC
theorem Kf {z:Nat} {l:List DI}:dk C (.draw z l) S K τ h↔Ka C h.next l [] [] S K τ ⟨h.next+z,h.ver,h.objs⟩:=Dt hC
theorem aA {f:Nat} {args:List AV} {k:AV ->AH ->Prop} {fn:aR} (hf:C.fns.get f=some fn):bZ C f args h k↔dk C fn.body [] (KF k fn.res) (pe args 0 .e) h:=eY hC hf
end
section
variable {C:cQ Prop} {S:List Fr} {K:K Prop} {τ:T AV} {h:AH}
def Wp {b}:iZ C .normal (.s b::S) K τ h=dk C b S K τ h:=rfl
def Wq {i}:iZ C .normal (.b i::S) K τ h=iZ C .normal S K τ h:=rfl
def Wr {j b}:iZ C (.exit j) (.s b::S) K τ h=iZ C (.exit j) S K τ h:=rfl
def Ws {j i}:iZ C (.exit j) (.b i::S) K τ h=if j=i then iZ C .normal S K τ h else iZ C (.exit j) S K τ h:=by
 show(bif Nat.beq j i then _ else _)=_;rw[az,m9];rfl
def Wt {b}:iZ C .ret (.s b::S) K τ h=iZ C .ret S K τ h:=rfl
def Wu {i}:iZ C .ret (.b i::S) K τ h=iZ C .ret S K τ h:=rfl
def Wv {k res}:iZ C .normal [] (KF k res) τ h=kQ k h (aP τ h res):=rfl
def Ww {k res}:iZ C .ret [] (KF k res) τ h=kQ k h (aP τ h res):=rfl
def Nf:ph C [] S K τ h=iZ C .normal S K τ h:=rfl
def BQ {d op l}:ph C (⟨d,op,none⟩::l) S K τ h=oS C l S K d τ (step (bp C τ) h op):=op0
def Wx {d op l t w}:ph C (⟨d,op,some (t,w)⟩::l) S K τ h=gS C l S K d op w τ h (τ.get t):=op1
def Wy {l d x}:oS C l S K (some d) τ (.v x h)=ph C l S K (τ.put d x) h:=rfl
def at8 {l x}:oS C l S K none τ (.v x h)=ph C l S K τ h:=rfl
def at9 {l d f a}:oS C l S K d τ (.call f a h)=fX C f a h (Na C l S K d τ):=rfl
def RN {l d x}:Na C l S K (some d) τ x h=ph C l S K (τ.put d x) h:=rfl
def RO {l x}:Na C l S K none τ x h=ph C l S K τ h:=rfl
def au0 {l d op w x}:gS C l S K (some d) op w τ h (some (.b x))=if x=w then oS C l S K (some d) τ (step (bp C τ) h op) else ph C l S K (τ.put d (.tu [])) h:=rfl
def au1 {l op w x}:gS C l S K none op w τ h (some (.b x))=if x=w then oS C l S K none τ (step (bp C τ) h op) else ph C l S K τ h:=rfl
def Za {l d op w}:gS C l S K (some d) op w τ h (some (.tu []))=ph C l S K (τ.put d (.tu [])) h:=rfl
def Zb {l op w}:gS C l S K none op w τ h (some (.tu []))=ph C l S K τ h:=rfl
def au2 {a b t}:cS C a b S K τ h (.b t)=if t=true then dk C a S K τ h else dk C b S K τ h:=rfl
def RP {base ls pd}:Ka C base [] ls pd S K τ h=iZ C .normal S K τ h:=rfl
def Zc {base i g l ls pd}:Ka C base (.light i g::l) ls pd S K τ h=lS C base i g l ls pd S K τ h (bB C τ h g):=Ir
def Zd {base i n g l ls pd}:Ka C base (.resv i n g::l) ls pd S K τ h=rS C base i (base+n) g.dst l ls pd S K τ h (step (bp C τ) ⟨base+n,h.ver,.e⟩ g.op):=MW
def Ze {base i l ls pd}:Ka C base (.lay i::l) ls pd S K τ h=yS C base l ls pd S K τ h (gB i pd):=TK
def Zf {base i d op mask l ls pd}:Ka C base (.heavy i ⟨d,op,none⟩ mask::l) ls pd S K τ h=hS C base mask d l ls pd S K τ (step (bp C τ) h op):=DC
def Zg {base i d op t w mask l ls pd}:Ka C base (.heavy i ⟨d,op,some (t,w)⟩ mask::l) ls pd S K τ h=Wo C base mask d op w l ls pd S K τ h (τ.get t):=DD
def au3 {base i d op gd l ls pd x}:lS C base i ⟨some d,op,gd⟩ l ls pd S K τ h (some x)=Ka C base l ((i,⟨some d,op,gd⟩)::ls) pd S K (τ.put d x) h:=rfl
def au4 {base i op gd l ls pd x}:lS C base i ⟨none,op,gd⟩ l ls pd S K τ h (some x)=Ka C base l ((i,⟨none,op,gd⟩)::ls) pd S K τ h:=rfl
def au5 {base i id d l ls pd x h'}:rS C base i id d l ls pd S K τ h (.v x h')=YZ C base i id x d l ls pd S K τ h (h'.objs.get id):=rfl
def Zh {base i id x d l ls pd ob}:YZ C base i id x (some d) l ls pd S K τ h (some ob)=Ka C base l ls ((i,id,ob)::pd) S K (τ.put d x) h:=rfl
def Zi {base i id x l ls pd ob}:YZ C base i id x none l ls pd S K τ h (some ob)=Ka C base l ls ((i,id,ob)::pd) S K τ h:=rfl
def au6 {base l ls pd id ob} {n v:Nat} {t:T aU}:yS C base l ls pd S K τ ⟨n,v,t⟩ (some (id,ob))=Ka C base l ls pd S K τ ⟨n,v+1,t.put id ob⟩:=rfl
def au7 {base mask d l ls pd x}:hS C base mask (some d) l ls pd S K τ (.v x h)=aS C base mask l ls pd S K (τ.put d x) h ls:=rfl
def au8 {base mask l ls pd x}:hS C base mask none l ls pd S K τ (.v x h)=aS C base mask l ls pd S K τ h ls:=rfl
def au9 {base mask d l ls pd f a}:hS C base mask d l ls pd S K τ (.call f a h)=fX C f a h (Nb C base mask d l ls pd S K τ):=rfl
def RQ {base mask d l ls pd x}:Nb C base mask (some d) l ls pd S K τ x h=aS C base mask l ls pd S K (τ.put d x) h ls:=rfl
def RR {base mask l ls pd x}:Nb C base mask none l ls pd S K τ x h=aS C base mask l ls pd S K τ h ls:=rfl
def Zj {base mask d op w l ls pd x}:Wo C base mask (some d) op w l ls pd S K τ h (some (.b x))=if x=w then hS C base mask (some d) l ls pd S K τ (step (bp C τ) h op) else aS C base mask l ls pd S K (τ.put d (.tu [])) h ls:=rfl
def Zk {base mask op w l ls pd x}:Wo C base mask none op w l ls pd S K τ h (some (.b x))=if x=w then hS C base mask none l ls pd S K τ (step (bp C τ) h op) else aS C base mask l ls pd S K τ h ls:=rfl
def Wz {base mask d op w l ls pd}:Wo C base mask (some d) op w l ls pd S K τ h (some (.tu []))=aS C base mask l ls pd S K (τ.put d (.tu [])) h ls:=rfl
def WA {base mask op w l ls pd}:Wo C base mask none op w l ls pd S K τ h (some (.tu []))=aS C base mask l ls pd S K τ h ls:=rfl
def WB {base mask l ls pd}:aS C base mask l ls pd S K τ h []=Ka C base l ls pd S K τ h:=rfl
def av0 {base mask l ls pd i d op gd ch}:aS C base mask l ls pd S K τ h ((i,⟨some d,op,gd⟩)::ch)=if Nat.testBit mask i=true then aS C base mask l ls pd S K τ h ch else TN C base mask l ls pd S K τ h ch (τ.get d) (bB C τ h ⟨some d,op,gd⟩):=by
 show kA .. =_;rw[Is];split
 ·rfl
 ·unfold ZS TN;cases bB C τ h ⟨some d,op,gd⟩<;>rfl
def Zl {base mask l ls pd ch x}:TN C base mask l ls pd S K τ h ch (some x) (some x)=if aJ 64 x=true then aS C base mask l ls pd S K τ h ch else TN C base mask l ls pd S K τ h ch (some x) (some x):=by
 split
 ·rename_i hn;show(if cU 64 x x=true then _ else _)=_;rw[if_pos (z7 64 x hn)]
 ·rfl
def a2F (C:cQ Prop) (base mask:Nat) (l:List DI) (ls:List (Nat×MG)) (pd:List (Nat×Nat×aU)) (S:List Fr) (K:AM.K Prop) (τ:T AV) (h:AH) (ch:List (Nat×MG)) (y x:Option AV):Prop:=TN C base mask l ls pd S K τ h ch y x
def Zm {base mask l ls pd ch x}:TN C base mask l ls pd S K τ h ch (some x) (some x)=if aJ 64 x=true then aS C base mask l ls pd S K τ h ch else a2F C base mask l ls pd S K τ h ch (some x) (some x):=Zl
@[congr] def Zn {l d r r'} (e:r=r'):oS C l S K d τ r=oS C l S K d τ r':=by rw[e]
@[congr] def Zo {l d op w r r'} (e:r=r'):gS C l S K d op w τ h r=gS C l S K d op w τ h r':=by rw[e]
@[congr] def Zp {a b r r'} (e:r=r'):cS C a b S K τ h r=cS C a b S K τ h r':=by rw[e]
@[congr] def Zq {base i g l ls pd r r'} (e:r=r'):lS C base i g l ls pd S K τ h r=lS C base i g l ls pd S K τ h r':=by rw[e]
@[congr] def Zr {base i id id' d l ls pd r r'} (e0:id=id') (e:r=r'):rS C base i id d l ls pd S K τ h r=rS C base i id' d l ls pd S K τ h r':=by rw[e0,e]
@[congr] def Yl {base i id x d l ls pd r r'} (e:r=r'):YZ C base i id x d l ls pd S K τ h r=YZ C base i id x d l ls pd S K τ h r':=by rw[e]
@[congr] def Zs {base l ls pd h' r r'} (e0:h=h') (e:r=r'):yS C base l ls pd S K τ h r=yS C base l ls pd S K τ h' r':=by rw[e0,e]
@[congr] def Zt {base mask d l ls pd r r'} (e:r=r'):hS C base mask d l ls pd S K τ r=hS C base mask d l ls pd S K τ r':=by rw[e]
@[congr] def Ym {base mask d op w l ls pd r r'} (e:r=r'):Wo C base mask d op w l ls pd S K τ h r=Wo C base mask d op w l ls pd S K τ h r':=by rw[e]
@[congr] def Yn {base mask l ls pd ch y y' x x'} (e0:y=y') (e:x=x'):TN C base mask l ls pd S K τ h ch y x=TN C base mask l ls pd S K τ h ch y' x':=by rw[e0,e]
@[congr] def Yo {k h r r'} (e:r=r'):kQ k h r=kQ k h r':=by rw[e]
@[congr] def Yp {τ h op w r r'} (e:r=r'):kW C τ h op w r=kW C τ h op w r':=by rw[e]
end
section
def rO:Option (List AV) ->Option AV
 |some [v]=>some v
 |some l=>some (.tu l)
 |none=>none
def rC:Option AV ->Option (List AV) ->Option (List AV)
 |some a,some l=>some (a::l)
 |_,_=>none
def rD (n:Nat) (agg:Bool) (off:Nat):Option (List AV) ->Option AV
 |some c=>(match sub c off n with|some c=>iQ agg c|none=>none)
 |none=>none
def rE (n:Nat) (agg:Bool) (h:AH):Option AV ->Option AV
 |some (.p o off)=>rD n agg off (cG (h.objs.get o))
 |_=>none
def RT {τ h l}:aP τ h l=rO (aH9 τ h l):=rfl
def RU {τ h}:aH9 τ h []=some []:=rfl
def Zu {τ h t l}:aH9 τ h ((t,none)::l)=rC (τ.get t) (aH9 τ h l):=by
 unfold aH9;rw[dF];dsimp only;generalize fC _ l=y;cases τ.get t<;>cases y<;>rfl
def Zv {τ h t n agg l}:aH9 τ h ((t,some (n,agg))::l)=rC (rE n agg h (τ.get t)) (aH9 τ h l):=by
 unfold aH9;rw[dF];dsimp only;generalize fC _ l=y;cases τ.get t with
 |none=>cases y<;>rfl
 |some v=>
  cases v with
  |p o off=>
   have e:cG (h.objs.get o)=h.cells o:=rfl;simp only[rE,e];cases h.cells o with
   |none=>cases y<;>rfl
   |some c=>
    simp only[rD];cases sub c off n with
    |none=>cases y<;>rfl
    |some c=>dsimp only;cases iQ agg c<;>cases y<;>rfl
  |_=>cases y<;>rfl
def av1 {v}:rO (some [v])=some v:=rfl
def av2 {a b l}:rO (some (a::b::l))=some (.tu (a::b::l)):=rfl
def av3 {a l}:rC (some a) (some l)=some (a::l):=rfl
def av4 {n agg h o off}:rE n agg h (some (.p o off))=rD n agg off (cG (h.objs.get o)):=rfl
def rF (agg:Bool):Option (List AV) ->Option AV
 |some c=>iQ agg c
 |none=>none
def av5 {n agg off c}:rD n agg off (some c)=rF agg (sub c off n):=by show(match sub c off n with|some c=>iQ agg c|none=>none)=_;cases sub c off n<;>rfl
def av6 {agg c}:rF agg (some c)=iQ agg c:=rfl
def syT:=And.intro @RT<|And.intro @RU<|And.intro @Zu<|And.intro @Zv<|And.intro @av1<|And.intro @av2<|And.intro @av3<|And.intro @av4<|And.intro @av5 @av6
end
section
variable {C:cQ Prop}
def ky (hC:pN C):=And.intro (@Kb C hC)<|And.intro (@Kc C hC)<|And.intro (@Nc C hC)<|And.intro (@DF C hC)<|And.intro (@F3 C hC)<|And.intro (@Kd C hC)<|And.intro (@Nd C hC) (@Kf C hC)
def syP:=And.intro (@Wp C)<|And.intro (@Wq C)<|And.intro (@Wr C)<|And.intro (@Ws C)<|And.intro (@Wt C)<|And.intro (@Wu C)<|And.intro (@Wv C)<|And.intro (@Ww C)<|And.intro (@Nf C)<|And.intro (@BQ C)<|And.intro (@Wx C)<|
 And.intro (@RN C)<|And.intro (@RO C)<|And.intro (@RP C)<|And.intro (@Zc C)<|And.intro (@Zd C)<|And.intro (@Ze C)<|And.intro (@Zf C)<|And.intro (@Zg C)<|And.intro (@RQ C)<|And.intro (@RR C)<|And.intro (@WB C)<|And.intro (@av0 C)<|
 And.intro (@mR C)<|And.intro (@tF C)<|And.intro (@lV0 C) (@lV1 C)
def syK:=And.intro (@Wy C)<|And.intro (@at8 C)<|And.intro (@at9 C)<|And.intro (@au0 C)<|And.intro (@au1 C)<|And.intro (@Za C)<|And.intro (@Zb C)<|And.intro (@au2 C)<|And.intro (@au3 C)<|And.intro (@au4 C)<|And.intro (@au5 C)<|And.intro (@Zh C)<|And.intro (@Zi C)<|And.intro (@au6 C)<|
 And.intro (@au7 C)<|And.intro (@au8 C)<|And.intro (@au9 C)<|And.intro (@Zj C)<|And.intro (@Zk C)<|And.intro (@Wz C)<|And.intro (@WA C)<|And.intro (@Zm C)<|And.intro (@YR C) (@TJ C)
end
def syG:=And.intro (@T.get_put AV)<|And.intro (@T.get_put aU)<|And.intro (@jA) (@dF)
attribute [go_sem ↓] syP syG
attribute [go_sem] syK syT
end
end AM
namespace AM
open Go
section
variable {f p q:Prop}
def yY(h:f)(e:f->p=q:=by have o:=gW.ok (by assumption:gW _ _ _ _ _);intro f;simp(disch:=omega) only[f,↓ky o,jL,pA,Nat.reduceEqDiff,Nat.reduceAdd,Nat.reduceMul,Nat.reduceLT,Nat.reduceShiftRight,Nat.reduceAnd,Nat.reduceBneDiff,↓reduceIte,Int.reduceLT,Int.reduceLE,Int.reduceEq,go_sem]<;>exact rfl):p=q:=e h
def zZ(h:f)(e:f->p=q:=by have o:=gW.ok (by assumption:gW _ _ _ _ _);intro f;simp(disch:=first|omega|(simp(disch:=omega) only[f,cF,mR,tF,T.get_put,dB,tJ,o9,Nat.reduceEqDiff,reduceIte])) only[f,↓ky o,jL,pA,Nat.reduceEqDiff,Nat.reduceAdd,Nat.reduceMul,Nat.reduceLT,Nat.reduceShiftRight,Nat.reduceAnd,Nat.reduceBneDiff,↓reduceIte,Int.reduceLT,Int.reduceLE,Int.reduceEq,go_sem]<;>exact rfl):p=q:=e h
def uU(h:f)(e:f->p:=by intro f;simp(disch:=omega) only[f,cF,mR,tF,T.get_put,dB,tJ,o9,Nat.reduceEqDiff,reduceIte,if_false,if_true,pe,Nat.reduceAdd,fL,Wn,iT,iR,pA]<;>rfl):p:=e h
def wW(h:f)(k:q)(e:f->q->p:=by intro f k;simp(disch:=omega) only[f,cF,mR,tF,T.get_put,dB,tJ,o9,Nat.reduceEqDiff,reduceIte,if_false,if_true,pe,Nat.reduceAdd,fL,Wn,iT,iR,pA];exact k):p:=e h k
def Y0(k:q)(e:True->p=q:=by intro f;exact yY @f):p:=(e ⟨⟩).mpr k
def Y1{A:Prop}(a:A)(k:q)(e:A->p=q:=by intro f;exact yY @f):p:=(e a).mpr k
def Y2{A B:Prop}(a:A)(b:B)(k:q)(e:A/\B->p=q:=by intro f;exact yY @f):p:=(e ⟨a,b⟩).mpr k
def Y3{A B C:Prop}(a:A)(b:B)(c:C)(k:q)(e:A/\B/\C->p=q:=by intro f;exact yY @f):p:=(e ⟨a,b,c⟩).mpr k
def Y4{A B C D:Prop}(a:A)(b:B)(c:C)(d:D)(k:q)(e:A/\B/\C/\D->p=q:=by intro f;exact yY @f):p:=(e ⟨a,b,c,d⟩).mpr k
def Y5{A B C D G:Prop}(a:A)(b:B)(c:C)(d:D)(g:G)(k:q)(e:A/\B/\C/\D/\G->p=q:=by intro f;exact yY @f):p:=(e ⟨a,b,c,d,g⟩).mpr k
def Y6{A B C D G H:Prop}(a:A)(b:B)(c:C)(d:D)(g:G)(h:H)(k:q)(e:A/\B/\C/\D/\G/\H->p=q:=by intro f;exact yY @f):p:=(e ⟨a,b,c,d,g,h⟩).mpr k
def Y7{A B C D G H I:Prop}(a:A)(b:B)(c:C)(d:D)(g:G)(h:H)(i:I)(k:q)(e:A/\B/\C/\D/\G/\H/\I->p=q:=by intro f;exact yY @f):p:=(e ⟨a,b,c,d,g,h,i⟩).mpr k
def Y8{A B C D G H I J:Prop}(a:A)(b:B)(c:C)(d:D)(g:G)(h:H)(i:I)(j:J)(k:q)(e:A/\B/\C/\D/\G/\H/\I/\J->p=q:=by intro f;exact yY @f):p:=(e ⟨a,b,c,d,g,h,i,j⟩).mpr k
def Y9{A B C D G H I J L:Prop}(a:A)(b:B)(c:C)(d:D)(g:G)(h:H)(i:I)(j:J)(l:L)(k:q)(e:A/\B/\C/\D/\G/\H/\I/\J/\L->p=q:=by intro f;exact yY @f):p:=(e ⟨a,b,c,d,g,h,i,j,l⟩).mpr k
def CM{A B C D G H I J L M:Prop}(a:A)(b:B)(c:C)(d:D)(g:G)(h:H)(i:I)(j:J)(l:L)(m:M)(k:q)(e:A/\B/\C/\D/\G/\H/\I/\J/\L/\M->p=q:=by intro f;exact yY @f):p:=(e ⟨a,b,c,d,g,h,i,j,l,m⟩).mpr k
def y5{A B C D G H I J L M N:Prop}(a:A)(b:B)(c:C)(d:D)(g:G)(h:H)(i:I)(j:J)(l:L)(m:M)(n:N)(k:q)(e:A/\B/\C/\D/\G/\H/\I/\J/\L/\M/\N->p=q:=by intro f;exact yY @f):p:=(e ⟨a,b,c,d,g,h,i,j,l,m,n⟩).mpr k
def BR{A B C D G H I J L M N O:Prop}(a:A)(b:B)(c:C)(d:D)(g:G)(h:H)(i:I)(j:J)(l:L)(m:M)(n:N)(o:O)(k:q)(e:A/\B/\C/\D/\G/\H/\I/\J/\L/\M/\N/\O->p=q:=by intro f;exact yY @f):p:=(e ⟨a,b,c,d,g,h,i,j,l,m,n,o⟩).mpr k
def IA{A B C D G H I J L M N O R:Prop}(a:A)(b:B)(c:C)(d:D)(g:G)(h:H)(i:I)(j:J)(l:L)(m:M)(n:N)(o:O)(r:R)(k:q)(e:A/\B/\C/\D/\G/\H/\I/\J/\L/\M/\N/\O/\R->p=q:=by intro f;exact yY @f):p:=(e ⟨a,b,c,d,g,h,i,j,l,m,n,o,r⟩).mpr k
def TO{A B C D G H I J L M N O R S:Prop}(a:A)(b:B)(c:C)(d:D)(g:G)(h:H)(i:I)(j:J)(l:L)(m:M)(n:N)(o:O)(r:R)(s:S)(k:q)(e:A/\B/\C/\D/\G/\H/\I/\J/\L/\M/\N/\O/\R/\S->p=q:=by intro f;exact yY @f):p:=(e ⟨a,b,c,d,g,h,i,j,l,m,n,o,r,s⟩).mpr k
def WC{A B C D G H I J L M N O R S T:Prop}(a:A)(b:B)(c:C)(d:D)(g:G)(h:H)(i:I)(j:J)(l:L)(m:M)(n:N)(o:O)(r:R)(s:S)(t:T)(k:q)(e:A/\B/\C/\D/\G/\H/\I/\J/\L/\M/\N/\O/\R/\S/\T->p=q:=by intro f;exact yY @f):p:=(e ⟨a,b,c,d,g,h,i,j,l,m,n,o,r,s,t⟩).mpr k
def QT{A B C D G H I J L M N O R S T U:Prop}(a:A)(b:B)(c:C)(d:D)(g:G)(h:H)(i:I)(j:J)(l:L)(m:M)(n:N)(o:O)(r:R)(s:S)(t:T)(u:U)(k:q)(e:A/\B/\C/\D/\G/\H/\I/\J/\L/\M/\N/\O/\R/\S/\T/\U->p=q:=by intro f;exact yY @f):p:=(e ⟨a,b,c,d,g,h,i,j,l,m,n,o,r,s,t,u⟩).mpr k
def Zw{A B C D G H I J L M N O R S T U V:Prop}(a:A)(b:B)(c:C)(d:D)(g:G)(h:H)(i:I)(j:J)(l:L)(m:M)(n:N)(o:O)(r:R)(s:S)(t:T)(u:U)(v:V)(k:q)(e:A/\B/\C/\D/\G/\H/\I/\J/\L/\M/\N/\O/\R/\S/\T/\U/\V->p=q:=by intro f;exact yY @f):p:=(e ⟨a,b,c,d,g,h,i,j,l,m,n,o,r,s,t,u,v⟩).mpr k
def WD{A B C D G H I J L M N O R S T U V W:Prop}(a:A)(b:B)(c:C)(d:D)(g:G)(h:H)(i:I)(j:J)(l:L)(m:M)(n:N)(o:O)(r:R)(s:S)(t:T)(u:U)(v:V)(w:W)(k:q)(e:A/\B/\C/\D/\G/\H/\I/\J/\L/\M/\N/\O/\R/\S/\T/\U/\V/\W->p=q:=by intro f;exact yY @f):p:=(e ⟨a,b,c,d,g,h,i,j,l,m,n,o,r,s,t,u,v,w⟩).mpr k
def F4{A B C D G H I J L M N O R S T U V W X:Prop}(a:A)(b:B)(c:C)(d:D)(g:G)(h:H)(i:I)(j:J)(l:L)(m:M)(n:N)(o:O)(r:R)(s:S)(t:T)(u:U)(v:V)(w:W)(x:X)(k:q)(e:A/\B/\C/\D/\G/\H/\I/\J/\L/\M/\N/\O/\R/\S/\T/\U/\V/\W/\X->p=q:=by intro f;exact yY @f):p:=(e ⟨a,b,c,d,g,h,i,j,l,m,n,o,r,s,t,u,v,w,x⟩).mpr k
def QU{A B C D G H I J L M N O R S T U V W X Y:Prop}(a:A)(b:B)(c:C)(d:D)(g:G)(h:H)(i:I)(j:J)(l:L)(m:M)(n:N)(o:O)(r:R)(s:S)(t:T)(u:U)(v:V)(w:W)(x:X)(y:Y)(k:q)(e:A/\B/\C/\D/\G/\H/\I/\J/\L/\M/\N/\O/\R/\S/\T/\U/\V/\W/\X/\Y->p=q:=by intro f;exact yY @f):p:=(e ⟨a,b,c,d,g,h,i,j,l,m,n,o,r,s,t,u,v,w,x,y⟩).mpr k
def Y21{A B C D G H I J L M N O R S T U V W X Y Z:Prop}(a:A)(b:B)(c:C)(d:D)(g:G)(h:H)(i:I)(j:J)(l:L)(m:M)(n:N)(o:O)(r:R)(s:S)(t:T)(u:U)(v:V)(w:W)(x:X)(y:Y)(z:Z)(k:q)(e:A/\B/\C/\D/\G/\H/\I/\J/\L/\M/\N/\O/\R/\S/\T/\U/\V/\W/\X/\Y/\Z->p=q:=by intro f;exact yY @f):p:=(e ⟨a,b,c,d,g,h,i,j,l,m,n,o,r,s,t,u,v,w,x,y,z⟩).mpr k
def Y22{A B C D G H I J L M N O R S T U V W X Y Z AA:Prop}(a:A)(b:B)(c:C)(d:D)(g:G)(h:H)(i:I)(j:J)(l:L)(m:M)(n:N)(o:O)(r:R)(s:S)(t:T)(u:U)(v:V)(w:W)(x:X)(y:Y)(z:Z)(aa:AA)(k:q)(e:A/\B/\C/\D/\G/\H/\I/\J/\L/\M/\N/\O/\R/\S/\T/\U/\V/\W/\X/\Y/\Z/\AA->p=q:=by intro f;exact yY @f):p:=(e ⟨a,b,c,d,g,h,i,j,l,m,n,o,r,s,t,u,v,w,x,y,z,aa⟩).mpr k
def Y24{A B C D G H I J L M N O R S T U V W X Y Z AA AB AC:Prop}(a:A)(b:B)(c:C)(d:D)(g:G)(h:H)(i:I)(j:J)(l:L)(m:M)(n:N)(o:O)(r:R)(s:S)(t:T)(u:U)(v:V)(w:W)(x:X)(y:Y)(z:Z)(aa:AA)(ab:AB)(ac:AC)(k:q)(e:A/\B/\C/\D/\G/\H/\I/\J/\L/\M/\N/\O/\R/\S/\T/\U/\V/\W/\X/\Y/\Z/\AA/\AB/\AC->p=q:=by intro f;exact yY @f):p:=(e ⟨a,b,c,d,g,h,i,j,l,m,n,o,r,s,t,u,v,w,x,y,z,aa,ab,ac⟩).mpr k
def Z0(k:q)(e:True->p=q:=by intro f;exact zZ @f):p:=(e ⟨⟩).mpr k
def Z1{A:Prop}(a:A)(k:q)(e:A->p=q:=by intro f;exact zZ @f):p:=(e a).mpr k
def Z2{A B:Prop}(a:A)(b:B)(k:q)(e:A/\B->p=q:=by intro f;exact zZ @f):p:=(e ⟨a,b⟩).mpr k
def Z3{A B C:Prop}(a:A)(b:B)(c:C)(k:q)(e:A/\B/\C->p=q:=by intro f;exact zZ @f):p:=(e ⟨a,b,c⟩).mpr k
def Z4{A B C D:Prop}(a:A)(b:B)(c:C)(d:D)(k:q)(e:A/\B/\C/\D->p=q:=by intro f;exact zZ @f):p:=(e ⟨a,b,c,d⟩).mpr k
def Z5{A B C D G:Prop}(a:A)(b:B)(c:C)(d:D)(g:G)(k:q)(e:A/\B/\C/\D/\G->p=q:=by intro f;exact zZ @f):p:=(e ⟨a,b,c,d,g⟩).mpr k
def Z6{A B C D G H:Prop}(a:A)(b:B)(c:C)(d:D)(g:G)(h:H)(k:q)(e:A/\B/\C/\D/\G/\H->p=q:=by intro f;exact zZ @f):p:=(e ⟨a,b,c,d,g,h⟩).mpr k
def Z7{A B C D G H I:Prop}(a:A)(b:B)(c:C)(d:D)(g:G)(h:H)(i:I)(k:q)(e:A/\B/\C/\D/\G/\H/\I->p=q:=by intro f;exact zZ @f):p:=(e ⟨a,b,c,d,g,h,i⟩).mpr k
def Z8{A B C D G H I J:Prop}(a:A)(b:B)(c:C)(d:D)(g:G)(h:H)(i:I)(j:J)(k:q)(e:A/\B/\C/\D/\G/\H/\I/\J->p=q:=by intro f;exact zZ @f):p:=(e ⟨a,b,c,d,g,h,i,j⟩).mpr k
def Z9{A B C D G H I J L:Prop}(a:A)(b:B)(c:C)(d:D)(g:G)(h:H)(i:I)(j:J)(l:L)(k:q)(e:A/\B/\C/\D/\G/\H/\I/\J/\L->p=q:=by intro f;exact zZ @f):p:=(e ⟨a,b,c,d,g,h,i,j,l⟩).mpr k
def RV{A B C D G H I J L M:Prop}(a:A)(b:B)(c:C)(d:D)(g:G)(h:H)(i:I)(j:J)(l:L)(m:M)(k:q)(e:A/\B/\C/\D/\G/\H/\I/\J/\L/\M->p=q:=by intro f;exact zZ @f):p:=(e ⟨a,b,c,d,g,h,i,j,l,m⟩).mpr k
def WE{A B C D G H I J L M N:Prop}(a:A)(b:B)(c:C)(d:D)(g:G)(h:H)(i:I)(j:J)(l:L)(m:M)(n:N)(k:q)(e:A/\B/\C/\D/\G/\H/\I/\J/\L/\M/\N->p=q:=by intro f;exact zZ @f):p:=(e ⟨a,b,c,d,g,h,i,j,l,m,n⟩).mpr k
def F5{A B C D G H I J L M N O:Prop}(a:A)(b:B)(c:C)(d:D)(g:G)(h:H)(i:I)(j:J)(l:L)(m:M)(n:N)(o:O)(k:q)(e:A/\B/\C/\D/\G/\H/\I/\J/\L/\M/\N/\O->p=q:=by intro f;exact zZ @f):p:=(e ⟨a,b,c,d,g,h,i,j,l,m,n,o⟩).mpr k
def QV{A B C D G H I J L M N O R:Prop}(a:A)(b:B)(c:C)(d:D)(g:G)(h:H)(i:I)(j:J)(l:L)(m:M)(n:N)(o:O)(r:R)(k:q)(e:A/\B/\C/\D/\G/\H/\I/\J/\L/\M/\N/\O/\R->p=q:=by intro f;exact zZ @f):p:=(e ⟨a,b,c,d,g,h,i,j,l,m,n,o,r⟩).mpr k
def Yq{A B C D G H I J L M N O R S:Prop}(a:A)(b:B)(c:C)(d:D)(g:G)(h:H)(i:I)(j:J)(l:L)(m:M)(n:N)(o:O)(r:R)(s:S)(k:q)(e:A/\B/\C/\D/\G/\H/\I/\J/\L/\M/\N/\O/\R/\S->p=q:=by intro f;exact zZ @f):p:=(e ⟨a,b,c,d,g,h,i,j,l,m,n,o,r,s⟩).mpr k
def TP{A B C D G H I J L M N O R S T:Prop}(a:A)(b:B)(c:C)(d:D)(g:G)(h:H)(i:I)(j:J)(l:L)(m:M)(n:N)(o:O)(r:R)(s:S)(t:T)(k:q)(e:A/\B/\C/\D/\G/\H/\I/\J/\L/\M/\N/\O/\R/\S/\T->p=q:=by intro f;exact zZ @f):p:=(e ⟨a,b,c,d,g,h,i,j,l,m,n,o,r,s,t⟩).mpr k
def TQ{A B C D G H I J L M N O R S T U:Prop}(a:A)(b:B)(c:C)(d:D)(g:G)(h:H)(i:I)(j:J)(l:L)(m:M)(n:N)(o:O)(r:R)(s:S)(t:T)(u:U)(k:q)(e:A/\B/\C/\D/\G/\H/\I/\J/\L/\M/\N/\O/\R/\S/\T/\U->p=q:=by intro f;exact zZ @f):p:=(e ⟨a,b,c,d,g,h,i,j,l,m,n,o,r,s,t,u⟩).mpr k
def Z17{A B C D G H I J L M N O R S T U V:Prop}(a:A)(b:B)(c:C)(d:D)(g:G)(h:H)(i:I)(j:J)(l:L)(m:M)(n:N)(o:O)(r:R)(s:S)(t:T)(u:U)(v:V)(k:q)(e:A/\B/\C/\D/\G/\H/\I/\J/\L/\M/\N/\O/\R/\S/\T/\U/\V->p=q:=by intro f;exact zZ @f):p:=(e ⟨a,b,c,d,g,h,i,j,l,m,n,o,r,s,t,u,v⟩).mpr k
def WF{A B C D G H I J L M N O R S T U V W:Prop}(a:A)(b:B)(c:C)(d:D)(g:G)(h:H)(i:I)(j:J)(l:L)(m:M)(n:N)(o:O)(r:R)(s:S)(t:T)(u:U)(v:V)(w:W)(k:q)(e:A/\B/\C/\D/\G/\H/\I/\J/\L/\M/\N/\O/\R/\S/\T/\U/\V/\W->p=q:=by intro f;exact zZ @f):p:=(e ⟨a,b,c,d,g,h,i,j,l,m,n,o,r,s,t,u,v,w⟩).mpr k
def Z19{A B C D G H I J L M N O R S T U V W X:Prop}(a:A)(b:B)(c:C)(d:D)(g:G)(h:H)(i:I)(j:J)(l:L)(m:M)(n:N)(o:O)(r:R)(s:S)(t:T)(u:U)(v:V)(w:W)(x:X)(k:q)(e:A/\B/\C/\D/\G/\H/\I/\J/\L/\M/\N/\O/\R/\S/\T/\U/\V/\W/\X->p=q:=by intro f;exact zZ @f):p:=(e ⟨a,b,c,d,g,h,i,j,l,m,n,o,r,s,t,u,v,w,x⟩).mpr k
def Z20{A B C D G H I J L M N O R S T U V W X Y:Prop}(a:A)(b:B)(c:C)(d:D)(g:G)(h:H)(i:I)(j:J)(l:L)(m:M)(n:N)(o:O)(r:R)(s:S)(t:T)(u:U)(v:V)(w:W)(x:X)(y:Y)(k:q)(e:A/\B/\C/\D/\G/\H/\I/\J/\L/\M/\N/\O/\R/\S/\T/\U/\V/\W/\X/\Y->p=q:=by intro f;exact zZ @f):p:=(e ⟨a,b,c,d,g,h,i,j,l,m,n,o,r,s,t,u,v,w,x,y⟩).mpr k
def Z22{A B C D G H I J L M N O R S T U V W X Y Z AA:Prop}(a:A)(b:B)(c:C)(d:D)(g:G)(h:H)(i:I)(j:J)(l:L)(m:M)(n:N)(o:O)(r:R)(s:S)(t:T)(u:U)(v:V)(w:W)(x:X)(y:Y)(z:Z)(aa:AA)(k:q)(e:A/\B/\C/\D/\G/\H/\I/\J/\L/\M/\N/\O/\R/\S/\T/\U/\V/\W/\X/\Y/\Z/\AA->p=q:=by intro f;exact zZ @f):p:=(e ⟨a,b,c,d,g,h,i,j,l,m,n,o,r,s,t,u,v,w,x,y,z,aa⟩).mpr k
def Z23{A B C D G H I J L M N O R S T U V W X Y Z AA AB:Prop}(a:A)(b:B)(c:C)(d:D)(g:G)(h:H)(i:I)(j:J)(l:L)(m:M)(n:N)(o:O)(r:R)(s:S)(t:T)(u:U)(v:V)(w:W)(x:X)(y:Y)(z:Z)(aa:AA)(ab:AB)(k:q)(e:A/\B/\C/\D/\G/\H/\I/\J/\L/\M/\N/\O/\R/\S/\T/\U/\V/\W/\X/\Y/\Z/\AA/\AB->p=q:=by intro f;exact zZ @f):p:=(e ⟨a,b,c,d,g,h,i,j,l,m,n,o,r,s,t,u,v,w,x,y,z,aa,ab⟩).mpr k
def Z24{A B C D G H I J L M N O R S T U V W X Y Z AA AB AC:Prop}(a:A)(b:B)(c:C)(d:D)(g:G)(h:H)(i:I)(j:J)(l:L)(m:M)(n:N)(o:O)(r:R)(s:S)(t:T)(u:U)(v:V)(w:W)(x:X)(y:Y)(z:Z)(aa:AA)(ab:AB)(ac:AC)(k:q)(e:A/\B/\C/\D/\G/\H/\I/\J/\L/\M/\N/\O/\R/\S/\T/\U/\V/\W/\X/\Y/\Z/\AA/\AB/\AC->p=q:=by intro f;exact zZ @f):p:=(e ⟨a,b,c,d,g,h,i,j,l,m,n,o,r,s,t,u,v,w,x,y,z,aa,ab,ac⟩).mpr k
def Z26{A B C D G H I J L M N O R S T U V W X Y Z AA AB AC AD AG:Prop}(a:A)(b:B)(c:C)(d:D)(g:G)(h:H)(i:I)(j:J)(l:L)(m:M)(n:N)(o:O)(r:R)(s:S)(t:T)(u:U)(v:V)(w:W)(x:X)(y:Y)(z:Z)(aa:AA)(ab:AB)(ac:AC)(ad:AD)(ag:AG)(k:q)(e:A/\B/\C/\D/\G/\H/\I/\J/\L/\M/\N/\O/\R/\S/\T/\U/\V/\W/\X/\Y/\Z/\AA/\AB/\AC/\AD/\AG->p=q:=by intro f;exact zZ @f):p:=(e ⟨a,b,c,d,g,h,i,j,l,m,n,o,r,s,t,u,v,w,x,y,z,aa,ab,ac,ad,ag⟩).mpr k
def Z27{A B C D G H I J L M N O R S T U V W X Y Z AA AB AC AD AG AH:Prop}(a:A)(b:B)(c:C)(d:D)(g:G)(h:H)(i:I)(j:J)(l:L)(m:M)(n:N)(o:O)(r:R)(s:S)(t:T)(u:U)(v:V)(w:W)(x:X)(y:Y)(z:Z)(aa:AA)(ab:AB)(ac:AC)(ad:AD)(ag:AG)(ah:AH)(k:q)(e:A/\B/\C/\D/\G/\H/\I/\J/\L/\M/\N/\O/\R/\S/\T/\U/\V/\W/\X/\Y/\Z/\AA/\AB/\AC/\AD/\AG/\AH->p=q:=by intro f;exact zZ @f):p:=(e ⟨a,b,c,d,g,h,i,j,l,m,n,o,r,s,t,u,v,w,x,y,z,aa,ab,ac,ad,ag,ah⟩).mpr k
def Z28{A B C D G H I J L M N O R S T U V W X Y Z AA AB AC AD AG AH AI:Prop}(a:A)(b:B)(c:C)(d:D)(g:G)(h:H)(i:I)(j:J)(l:L)(m:M)(n:N)(o:O)(r:R)(s:S)(t:T)(u:U)(v:V)(w:W)(x:X)(y:Y)(z:Z)(aa:AA)(ab:AB)(ac:AC)(ad:AD)(ag:AG)(ah:AH)(ai:AI)(k:q)(e:A/\B/\C/\D/\G/\H/\I/\J/\L/\M/\N/\O/\R/\S/\T/\U/\V/\W/\X/\Y/\Z/\AA/\AB/\AC/\AD/\AG/\AH/\AI->p=q:=by intro f;exact zZ @f):p:=(e ⟨a,b,c,d,g,h,i,j,l,m,n,o,r,s,t,u,v,w,x,y,z,aa,ab,ac,ad,ag,ah,ai⟩).mpr k
def Z29{A B C D G H I J L M N O R S T U V W X Y Z AA AB AC AD AG AH AI AJ:Prop}(a:A)(b:B)(c:C)(d:D)(g:G)(h:H)(i:I)(j:J)(l:L)(m:M)(n:N)(o:O)(r:R)(s:S)(t:T)(u:U)(v:V)(w:W)(x:X)(y:Y)(z:Z)(aa:AA)(ab:AB)(ac:AC)(ad:AD)(ag:AG)(ah:AH)(ai:AI)(aj:AJ)(k:q)(e:A/\B/\C/\D/\G/\H/\I/\J/\L/\M/\N/\O/\R/\S/\T/\U/\V/\W/\X/\Y/\Z/\AA/\AB/\AC/\AD/\AG/\AH/\AI/\AJ->p=q:=by intro f;exact zZ @f):p:=(e ⟨a,b,c,d,g,h,i,j,l,m,n,o,r,s,t,u,v,w,x,y,z,aa,ab,ac,ad,ag,ah,ai,aj⟩).mpr k
def U0(e:True->p:=by intro f;exact uU @f):p:=e ⟨⟩
def U1{A:Prop}(a:A)(e:A->p:=by intro f;exact uU @f):p:=e a
def U2{A B:Prop}(a:A)(b:B)(e:A/\B->p:=by intro f;exact uU @f):p:=e ⟨a,b⟩
def U3{A B C:Prop}(a:A)(b:B)(c:C)(e:A/\B/\C->p:=by intro f;exact uU @f):p:=e ⟨a,b,c⟩
def U4{A B C D:Prop}(a:A)(b:B)(c:C)(d:D)(e:A/\B/\C/\D->p:=by intro f;exact uU @f):p:=e ⟨a,b,c,d⟩
def U5{A B C D G:Prop}(a:A)(b:B)(c:C)(d:D)(g:G)(e:A/\B/\C/\D/\G->p:=by intro f;exact uU @f):p:=e ⟨a,b,c,d,g⟩
def U6{A B C D G H:Prop}(a:A)(b:B)(c:C)(d:D)(g:G)(h:H)(e:A/\B/\C/\D/\G/\H->p:=by intro f;exact uU @f):p:=e ⟨a,b,c,d,g,h⟩
def U7{A B C D G H I:Prop}(a:A)(b:B)(c:C)(d:D)(g:G)(h:H)(i:I)(e:A/\B/\C/\D/\G/\H/\I->p:=by intro f;exact uU @f):p:=e ⟨a,b,c,d,g,h,i⟩
def Zx{A B C D G H I J L M:Prop}(a:A)(b:B)(c:C)(d:D)(g:G)(h:H)(i:I)(j:J)(l:L)(m:M)(e:A/\B/\C/\D/\G/\H/\I/\J/\L/\M->p:=by intro f;exact uU @f):p:=e ⟨a,b,c,d,g,h,i,j,l,m⟩
def U11{A B C D G H I J L M N:Prop}(a:A)(b:B)(c:C)(d:D)(g:G)(h:H)(i:I)(j:J)(l:L)(m:M)(n:N)(e:A/\B/\C/\D/\G/\H/\I/\J/\L/\M/\N->p:=by intro f;exact uU @f):p:=e ⟨a,b,c,d,g,h,i,j,l,m,n⟩
def W0(k:q)(e:True->q->p:=by intro f k;exact wW @f k):p:=e ⟨⟩ k
end
end AM
namespace AM
open Dg Go
noncomputable section
section
variable {P:Program} {X:dy} {GL:T (List AV)} {fns:T aR}
def Yu (a b:Br):fS 6 (.ag [(0,1,false,(.lf .i)),(1,1,false,(.lf .i)),(2,1,false,(.lf .i))]) (.ag [.i .i64 (a.1:Int),.i .i64 (a.2.1:Int),.i .i64 (a.2.2:Int)]) (.ag [.i .i64 (b.1:Int),.i .i64 (b.2.1:Int),.i .i64 (b.2.2:Int)])=some (decide (a=b)):=Kh.eq a b
def yr {B:List Br}:(iP B).length=B.length*3:=wH B
def ce.cG {g:Nat ->Option aU} {o:Nat} {B:List Br} {a:AV} (n:ce g o B a) (hb:B≠[]):cG (g o)=some (iP B)/\ a= .sl o 0 B.length none 3:=by
 rcases n with ⟨h,_⟩|⟨_,h1,v,h2⟩
 ·exact absurd h hb
 ·rw[h2];exact⟨rfl,h1⟩
def ce.of {g:Nat ->Option aU} {o:Nat} {B:List Br} (hb:B≠[]) (h:AM.cG (g o)=some (iP B)):ce g o B (.sl o 0 B.length none 3):=by
 refine .inr ⟨hb,rfl,?_⟩;generalize g o=x at h
 match x with
 |some (.cells v l)=>exact⟨v,by rw[dB] at h;cases h;rfl⟩
 |none=>cases h
 |some (.map _ _ _)=>cases h
 |some .gone=>cases h
def OD {C:cQ Prop} (E:gW P X GL fns C) {o n:Nat} {B:List Br} {b:Br} {h:AH} (hB:cG (h.objs.get o)=some (iP B)) (hb:cG (h.objs.get n)=some [.i .i64 (b.1:Int),.i .i64 (b.2.1:Int),.i .i64 (b.2.2:Int)]) (hlen:B.length+1<=1000000) (S₀:List Fr) (K:K Prop)
 (found:∀(j:Nat) τ,B[j]? =some b ->τ.get 4=some (.sl o 0 B.length none 3) ->τ.get 5=some (ι ((j+2:Nat):Int)) ->iZ C .ret S₀ K τ h)
 (nope:∀τ,(∀j:Nat,B[j]?≠some b) ->τ.get 0=some (.sl o 0 B.length none 3) ->τ.get 3=some (.p n 0) ->iZ C (.exit 0) S₀ K τ h):
 ∀(d i:Nat),i+d=B.length ->(∀j:Nat,j<i ->B[j]?≠some b) ->∀τ:T AV,τ.get 0=some (.sl o 0 B.length none 3) ->τ.get 3=some (.p n 0) ->τ.get 6=some (ι (i:Int)) ->dk C (.loop Nq) S₀ K τ h:=by
 intro d;obtain⟨n1,ver,ob⟩:=h;dsimp only at hB hb;induction d with
 |zero=>
  intro i hi hno τ t0 t3 t6;have hi':((i:Int)<(B.length:Int))=False:=eq_false ω;rw[eZ E.ok];refine Y5 t0 t3 t6 hi' @bw ?_;refine nope _ (fun j=> ?_) (U1 t0) (U1 t3)
  ·by_cases hj:j<i
   ·exact hno j hj
   ·rw[sR ω];simp
 |succ d ih=>
  intro i hi hno τ t0 t3 t6;have hi':((i:Int)<(B.length:Int))=True:=eq_true ω;have hlt:i<B.length:=by omega
  have hbi:B[i]? =some B[i]:=ba hlt;have e4:sub (iP B) (i*3) 3=some [.i .i64 (B[i].1:Int),.i .i64 (B[i].2.1:Int),.i .i64 (B[i].2.2:Int)]:=by have:=gu hbi 0 3 ω;simpa[oM] using this
  rw[eZ E.ok];by_cases e:B[i]=b
  ·have ad:aV .add (ι (i:Int)) (ι 2)=some (ι ((i+2:Nat):Int)):=hY (b:=2) ω;refine F5 t0 t3 t6 hi' hB hb e4 @Yu e hlt ad @bw ?_;refine found i _ (by rw[hbi,e]) ?_ ?_<;>exact U0
  ·refine F5 t0 t3 t6 hi' hB hb e4 @Yu e hlt @ar @bw ?_;refine ih (i+1) ω (fun j hj=> ?_) _ ?_ ?_ ?_
   ·by_cases hj2:j<i
    ·exact hno j hj2
    ·have:j=i:=by omega
     subst this;rw[hbi];simpa using e
   all_goals exact U2 t0 t3
def Ca {v l hh:Nat} {B:List Br}:iP B++[.i .i64 (v:Int),.i .i64 (l:Int),.i .i64 (hh:Int)]=iP (B++[(v,l,hh)]):=by rw[si];rfl
def GO {C:cQ Prop} (E:gW P X GL fns C) (F:dr fns) {o:Nat} {B:List Br} {a:AV} {h:AH} (na:ce h.objs.get o B a) (ho:B≠[] ->o<h.next) {v l hh:Nat} (hlen:B.length+1<=100000) (k:AV ->AH ->Prop)
 (hk:∀r B' o' a' h',ce h'.objs.get o' B' a' ->h.next<=h'.next ->(∀j,j<h.next ->(B≠[] ->j≠o) ->h'.objs.get j=h.objs.get j) ->(B'≠[] ->(B≠[]/\ o'=o)∨h.next<=o') ->(B'≠[] ->o'<h'.next) ->
  (l=hh/\ r=l/\ B'=B)∨(l≠hh/\∃i:Nat,r=i+2/\ B'[i]? =some (v,l,hh)/\ (B'=B∨(B'=B++[(v,l,hh)]/\∀j:Nat,B[j]?≠some (v,l,hh)))) ->k (.tu [a',.i .i64 (r:Int)]) h'):
 bZ C 413 [a,.ag [.i .i64 (v:Int),.i .i64 (l:Int),.i .i64 (hh:Int)]] h k:=by
 obtain⟨n,ver,ob⟩:=h;have ho':B≠[] ->o<n:=ho;rw[aA E.ok (E.get F.f413)];by_cases e:l=hh
 ·have e':((l:Int)=(hh:Int))=True:=eq_true ω;have sa:aJ 64 a=true:=by rcases na with ⟨_,rfl⟩|⟨_,rfl,_⟩<;>rfl
  refine Y4 @ID.eq_1 e' sa @bw ?_;refine hk l B o a _ ?_ (by show n<=n+1;omega) (fun j hj _=> ?_) (fun hb=> .inl ⟨hb,rfl⟩) (fun hb=>by have:=ho' hb;show o<n+1;omega) (.inl ⟨e,rfl,rfl⟩)
  ·refine na.mono fun hb=> ?_
   have:=ho' hb;exact U0
  ·have hj':j<n:=hj;exact U0
 ·have e':((l:Int)=(hh:Int))=False:=eq_false ω;by_cases hB:B=[]
  ·subst hB;have ha:a= .sn:=by
    rcases na with ⟨_,h⟩|⟨h,_⟩;·exact h
    ·exact absurd rfl h
   subst ha;have sl:∀(τ:T AV) x h,bp C τ x= .sn ->step (bp C τ) h (.len .slice x)= .v (ι 0) h:=fun τ x h e=>by rw[lT,e]
   have zz:((0:Int)<0)=False:=eq_false ω;refine Y3 @ID.eq_1 e' @bw ?_;rw[eZ E.ok];refine Z6 @zd e' zz sl @ar @bw ?_;refine hk 2 [(v,l,hh)] (n+1+1) _ _ (ce.of (B:=[(v,l,hh)]) (by simp) U0) (by show n<=n+1+1+1;omega) (fun j hj _=> ?_) (fun _=> .inr (by show n<=n+1+1;omega)) (fun _=>by show n+1+1<n+1+1+1;omega) (.inr ⟨e,0,rfl,rfl,.inr ⟨rfl,fun j=>by simp⟩⟩)
   ·have hj':j<n:=hj;exact U0
  ·obtain⟨hc,ha⟩:=na.cG hB;have hon:=ho' hB;subst ha;dsimp only at hc;refine Y3 @ID.eq_1 e' @bw ?_;refine OD E (b:=(v,l,hh)) (n:=n) (o:=o) (B:=B) ?_ ?_ ω _ _ ?_ ?_ B.length 0 ω (fun j hj=>by omega) _ ?_ ?_ ?_
   ·exact U1 hc
   ·exact U0
   ·intro j τ hj t4 t5;refine Y3 t4 t5 @bw ?_;refine hk (j+2) B o _ _ (ce.of hB (U1 hc)) (by show n<=n+1;omega) (fun i hi hio=> ?_) (fun hb=> .inl ⟨hb,rfl⟩) (fun hb=>by show o<n+1;omega) (.inr ⟨e,j,rfl,hj,.inl rfl⟩)
    ·have hi':i<n:=hi;exact U0
   ·intro τ hno t0 t3;have hB1:B.length+1<=1048576:=by omega
    refine Z8 @zd t0 t3 hc hB1 @ar @yr @bw ?_;have hl:B.length+1=(B++[(v,l,hh)]).length:=by simp
    rw[show AV.sl (n+1+1) 0 (B.length+1) none 3= .sl (n+1+1) 0 (B++[(v,l,hh)]).length none 3 by rw[hl]];refine hk (B.length+1+1) (B++[(v,l,hh)]) (n+1+1) _ _ (ce.of (by simp) (U1 @Ca)) (by show n<=n+1+1+1;omega) (fun j hj hjo=> ?_) (fun _=> .inr (by show n<=n+1+1;omega)) (fun _=>by show n+1+1<n+1+1+1;omega) (.inr ⟨e,B.length,rfl,by simp,.inr ⟨rfl,hno⟩⟩)
    ·have hj':j<n:=hj;have hjo':=hjo hB;exact U0
   all_goals exact U0
def IP:Nat ->Bool ->Bool ->Bool
 |0=>fun x y=>x&&y
 |1=>fun x y=>x||y
 |_=>fun x y=>x !=y
def bN (b:Bool):Nat:=if b then 1 else 0
def Cb {C:cQ Prop} (E:gW P X GL fns C) (F:dr fns) {p op:Nat} (hop:op<3) {A:List AV} {a0 a1 a2 a3 a5 a6:AV} {h:AH} (hc:cG (h.objs.get p)=some [a0,a1,a2,a3,.i .i64 (op:Int),a5,a6]) (x y:Bool) (k:AV ->AH ->Prop)
 (hk:k (ι (bN (IP op x y):Int)) h):bZ C 410 [.p p 0,.i .i64 (bN x:Int),.i .i64 (bN y:Int)] h k:=by
 obtain⟨n,ver,ob⟩:=h;dsimp only at hc;have m00:aV .mul (ι 0) (ι 0)=some (ι 0):=rfl;have m01:aV .mul (ι 0) (ι 1)=some (ι 0):=rfl;have m10:aV .mul (ι 1) (ι 0)=some (ι 0):=rfl;have m11:aV .mul (ι 1) (ι 1)=some (ι 1):=rfl;have a00:aV .add (ι 0) (ι 0)=some (ι 0):=rfl;have a01:aV .add (ι 0) (ι 1)=some (ι 1):=rfl;have a10:aV .add (ι 1) (ι 0)=some (ι 1):=rfl;have a11:aV .add (ι 1) (ι 1)=some (ι 2):=rfl;have r0:aV .rem (ι 0) (ι 2)=some (ι 0):=rfl;have r1:aV .rem (ι 1) (ι 2)=some (ι 1):=rfl;have r2:aV .rem (ι 2) (ι 2)=some (ι 0):=rfl;have i1:((1:Int)=0)=False:=eq_false ω;have i2:((2:Int)=0)=False:=eq_false ω;have i3:((2:Int)=1)=False:=eq_false ω;have i4:((0:Int)=1)=False:=eq_false ω;have c1:((1:Nat):Int)=1:=rfl;have c2:((2:Nat):Int)=2:=rfl;rw[aA E.ok (E.get F.f410)];have:op=0∨op=1∨op=2:=by omega
 rcases this with rfl|rfl|rfl<;>cases x<;>cases y<;>
  (
   simp only[bN,IP,lu,if_false,if_true,fW,Ff,kM,Bool.or_self,Bool.or_true,Bool.true_or,zx,bne_self_eq_false] at hk ⊢;refine Y21 @pU @TT.eq_1 hc c1 c2 m00 m01 m10 m11 a00 a01 a10 a11 r0 r1 r2 i1 i2 i3 i4 @bw ?_;exact hk)
set_option maxHeartbeats 4000000 in
def OE {C:cQ Prop} (E:gW P X GL fns C) {p q x y:Nat} {S:List Br} {a0 a1 a2 a3 a4 a5:AV} {h:AH} (hc:cG (h.objs.get p)=some [a0,a1,a2,a3,a4,a5,.sl q 0 S.length none 3]) (hq:cG (h.objs.get q)=some (iP S)) (hlen:S.length+1<=1000000) (S₀:List Fr) (K:K Prop)
 (found:∀(j r:Nat) τ,S[j]? =some (x,y,r) ->τ.get 6=some (ι (r:Int)) ->iZ C .ret S₀ K τ h)
 (nope:∀τ,τ.get 0=some (.p p 0) ->τ.get 1=some (ι (x:Int)) ->τ.get 2=some (ι (y:Int)) ->iZ C (.exit 0) S₀ K τ h):
 ∀(d i:Nat),i+d=S.length ->∀τ:T AV,τ.get 0=some (.p p 0) ->τ.get 1=some (ι (x:Int)) ->τ.get 2=some (ι (y:Int)) ->τ.get 7=some (ι (i:Int)) ->dk C (.loop Nj) S₀ K τ h:=by
 intro d;obtain⟨n1,ver,ob⟩:=h;dsimp only at hc hq;induction d with
 |zero=>
  intro i hi τ t0 t1 t2 t7;have hi':((i:Int)<(S.length:Int))=False:=eq_false ω;rw[eZ E.ok];refine Y7 t0 t1 t2 t7 hc hi' @bw ?_;refine nope _ ?_ ?_ ?_<;>exact U3 t0 t1 t2
 |succ d ih=>
  intro i hi τ t0 t1 t2 t7;have hi':((i:Int)<(S.length:Int))=True:=eq_true ω;have hlt:i<S.length:=by omega
  have hbi:S[i]? =some S[i]:=ba hlt;have e0:sub (iP S) (i*3) 1=some [.i .i64 (S[i].1:Int)]:=by have:=gu hbi 0 1 ω;simpa[oM] using this
  have e1:sub (iP S) (i*3+1) 1=some [.i .i64 (S[i].2.1:Int)]:=by have:=gu hbi 1 1 ω;simpa[oM] using this
  have e2:sub (iP S) (i*3+2) 1=some [.i .i64 (S[i].2.2:Int)]:=by have:=gu hbi 2 1 ω;simpa[oM] using this
  have l3:(0<3)=True:=eq_true ω;have l31:(1<3)=True:=eq_true ω;have l32:(2<3)=True:=eq_true ω;rw[eZ E.ok];by_cases ex:S[i].1=x
  ·by_cases ey:S[i].2.1=y
   ·have ex':((S[i].1:Int)=(x:Int))=True:=eq_true ω;have ey':((S[i].2.1:Int)=(y:Int))=True:=eq_true ω;refine Z17 t0 t1 t2 t7 hi' hc hq e0 e1 e2 ex' ey' hlt l3 l31 l32 @bw ?_;refine found i S[i].2.2 _ (by rw[hbi,←ex,←ey]) ?_;exact U0
   ·have ex':((S[i].1:Int)=(x:Int))=True:=eq_true ω;have ey':((S[i].2.1:Int)=(y:Int))=False:=eq_false ω;refine WF @ar t0 t1 t2 t7 hi' hc hq e0 e1 e2 ex' ey' hlt l3 l31 l32 @bw ?_;refine ih (i+1) ω _ ?_ ?_ ?_ ?_<;>exact U3 t0 t1 t2
  ·have ex':((S[i].1:Int)=(x:Int))=False:=eq_false ω;refine Z17 @ar t0 t1 t2 t7 hi' hc hq e0 e1 e2 ex' hlt l3 l31 l32 @bw ?_;refine ih (i+1) ω _ ?_ ?_ ?_ ?_<;>exact U3 t0 t1 t2
structure AS (NA NB:List Br) (ra rb op p:Nat) (B:List Br) (o:Nat) (Sn:List Br) (q:Nat) (h:AH):Prop where
 c:∃a s,cG (h.objs.get p)=some [fG NA,.i .i64 (ra:Int),fG NB,.i .i64 (rb:Int),.i .i64 (op:Int),a,s]/\ ce h.objs.get o B a/\ ce h.objs.get q Sn s
 lp:p<h.next
 lo:B≠[] ->p<o/\ o<h.next
 lq:Sn≠[] ->p<q/\ q<h.next
 oq:B≠[] ->Sn≠[] ->o≠q
def GP (g:Bool ->Bool ->Bool) (NA NB B Sn:List Br):Prop:=∀x y r:Nat,(x,y,r)∈Sn ->In NA x ->In NB y ->GG g NA NB B x y r
def OF {B:List Br} {n:Nat} (ok:OK B) (h:In B n):(n<2/\ pl B n=64/\ dV B n=3)∨(¬n<2/\ pl B n=dV B n/\ dV B n<3):=by
 rcases h.cases with h1|⟨i,b,rfl,hb⟩
 ·exact .inl ⟨h1,by simp[pl,h1],fe h1⟩
 ·refine .inr ⟨by omega,by simp[pl,show¬(i+2<2) by omega],?_⟩;rw[bH hb];exact ok.v _ _ hb
def Kl {g:Bool ->Bool ->Bool} {NA NB B:List Br} (x y:Bool):GG g NA NB B (bN x) (bN y) (bN (g x y)):=by
 have b2:∀b,bN b<2:=by intro b;cases b<;>simp[bN]
 refine⟨In.small (b2 _),fun k h1 h2 h3=> ?_⟩;rw[fe (b2 _)];refine⟨by omega,?_⟩;have key:∀(j:Nat) (B':List Br) (z:Nat),z<2 ->tr B' (j+1) z= .n (tr B' j z) (tr B' j z):=fun j B' z hz=>by simp only[tr];rw[jF hz,jG hz]
 clear h1 h2 h3;induction k with
 |zero=>
  have e:∀b,(bN b==1)=b:=by intro b;cases b<;>rfl
  simp only[tr,eF,e]
 |succ j ih=>rw[key j B _ (b2 _),key j NA _ (b2 _),key j NB _ (b2 _),ih];rfl
def IQ {x:Nat} (h:x<2):∃b,x=bN b:=by
 rcases(show x=0∨x=1 by omega) with rfl|rfl
 ·exact⟨false,rfl⟩
 ·exact⟨true,rfl⟩
set_option maxHeartbeats 4000000 in
def RZ {C:cQ Prop} (S:aw P X GL fns) (E:gW P X GL fns C) (F:dr fns) {NA NB:List Br} {ra rb op p:Nat} (hop:op<3) (aW:OK NA) (okB:OK NB) (la:NA.length<=4096) (lb:NB.length<=4096):
 ∀(d x y:Nat) (B:List Br) (o:Nat) (Sn:List Br) (q:Nat) (h:AH) (k:AV ->AH ->Prop),d=3-min (dV NA x) (dV NB y) ->In NA x ->In NB y ->AS NA NB ra rb op p B o Sn q h ->OK B ->GP (IP op) NA NB B Sn ->B.length+2^d<=50000 ->Sn.length+2^d<=50000 ->
  (∀r B' o' Sn' q' h',AS NA NB ra rb op p B' o' Sn' q' h' ->OK B' ->GP (IP op) NA NB B' Sn' ->(∃D,B'=B++D) ->B'.length+1<=B.length+2^d ->Sn'.length+1<=Sn.length+2^d ->(∀j,j<p ->h'.objs.get j=h.objs.get j) ->h.next<=h'.next ->GG (IP op) NA NB B' x y r ->k (ι (r:Int)) h') ->
  bZ C 274 [.p p 0,.i .i64 (x:Int),.i .i64 (y:Int)] h k:=by
 intro d;induction d using Nat.strongRecOn with
 |ind d IH=>
 intro x y B o Sn q h k hd hx hy a_ okb so hb1 hb2 hk;have hpow:1<=2^d:=Bn;obtain⟨n,ver,ob⟩:=h;obtain⟨a,s,hc,na,ns⟩:=a_.c;have lp:p<n:=a_.lp;dsimp only at hc;rw[aA E.ok (E.get F.f274)];by_cases hs:x<2/\ y<2
 ·obtain⟨bx,rfl⟩:=IQ hs.1;obtain⟨by',rfl⟩:=IQ hs.2;have x2:(((bN bx:Nat):Int)<2)=True:=eq_true (by have:=hs.1;omega);have y2:(((bN by':Nat):Int)<2)=True:=eq_true (by have:=hs.2;omega);refine Y4 @Nk.eq_1 x2 y2 @bw ?_;refine E.run (Cb E F hop (p:=p) (A:=[]) hc bx by' _ ?_);refine Y1 @bw ?_;exact hk (bN (IP op bx by')) B o Sn q _ a_ okb so ⟨[],by simp⟩ ω ω (fun _ _=>rfl) (bK _) (Kl bx by')
 ·have lvx:=nq aW hx;have lvy:=nq okB hy;have px:=OF aW hx;have py:=OF okB hy;obtain⟨v,hvv⟩:∃v,min (dV NA x) (dV NB y)=v:=⟨_,rfl⟩;have hv3:v<3:=by omega
  have mn:(if (pl NB y:Int)<(pl NA x:Int) then (pl NB y:Int) else (pl NA x:Int))=(v:Int):=by split<;>omega
  have ca:dq P X GL 411 [eD (NA,ra),.i .i64 (x:Int)] ⟨n,ver,ob⟩ (ι (pl NA x:Int)) ⟨n,ver,ob⟩:=sk S F hx la _;have cb:dq P X GL 411 [eD (NB,rb),.i .i64 (y:Int)] ⟨n,ver,ob⟩ (ι (pl NB y:Int)) ⟨n,ver,ob⟩:=sk S F hy lb _;have tail:∀τ:T AV,τ.get 0=some (.p p 0) ->τ.get 1=some (ι (x:Int)) ->τ.get 2=some (ι (y:Int)) ->
   dk C (.seq BV wD) [] (KF k [(6,none)]) τ ⟨n,ver,ob⟩:=by
   intro τ t0 t1 t2;refine Y5 t0 t1 t2 hc @bw ?_;refine E.con ca ?_;refine Y5 t0 t1 t2 hc @bw ?_;refine E.con cb ?_;refine Y7 @pU mn t0 t1 t2 hc @bw ?_;refine E.con (yq (r:=ra) S F hx la ω _) ?_;refine Y5 t0 t1 t2 hc @bw ?_;refine E.con (yq (r:=rb) S F hy lb ω _) ?_;refine Y5 t0 t1 t2 hc @bw ?_;have lx:=nr aW (v:=v) hx ω hv3;have ly:=nr okB (v:=v) hy ω hv3;have mx:=ny aW (v:=v) hx ω hv3;have my:=ny okB (v:=v) hy ω hv3;have hd0:1<=d:=by omega
   have pw:2^d=2*2^(d-1):=by rw[←Bo];congr 1;omega
   have pw1:2^(3-min (dV NA (lo NA x v)) (dV NB (lo NB y v)))<=2^(d-1):=y7 ω ω;have pw2:2^(3-min (dV NA (hi NA x v)) (dV NB (hi NB y v)))<=2^(d-1):=y7 ω ω;refine E.run (IH (3-min (dV NA (lo NA x v)) (dV NB (lo NB y v))) ω (lo NA x v) (lo NB y v) B o Sn q _ _ rfl (yi aW hx) (yi okB hy) a_ okb so ω ω ?_);rintro r1 B1 o1 S1 q1 h1 as1 ok1 so1 ⟨D1,rfl⟩ len1 sen1 old1 nx1 rel1;refine Y4 t0 t1 t2 @bw ?_;refine E.run (IH (3-min (dV NA (hi NA x v)) (dV NB (hi NB y v))) ω (hi NA x v) (hi NB y v) (B++D1) o1 S1 q1 h1 _ rfl (yj aW hx) (yj okB hy) as1 ok1 so1 ω ω ?_);rintro r2 B2 o2 S2 q2 ⟨n2,ver2,ob2⟩ as2 ok2 so2 ⟨D2,rfl⟩ len2 sen2 old2 nx2 rel2;obtain⟨a2,s2,hc2,na2,ns2⟩:=as2.c;dsimp only at hc2;refine Y5 t0 t1 t2 hc2 @bw ?_;refine E.run (GO E F na2 (fun hb=>(as2.lo hb).2) (by simp only[cX] at*;omega) _ ?_);rintro r B' o' a' ⟨n3,ver3,ob3⟩ na3 nx3 same3 new3 lt3 spec;have lp2:p<n2:=as2.lp;have nx3':n2<=n3:=nx3;have hc3:cG (ob3.get p)=some [fG NA,.i .i64 (ra:Int),fG NB,.i .i64 (rb:Int),.i .i64 (op:Int),a2,s2]:=by
    rw[show ob3.get p=ob2.get p from same3 p lp2 (fun hb=>by have:=(as2.lo hb).1;omega)];exact hc2
   obtain⟨ok4,rel4,pre4,len4⟩:=DM aW okB ok2 hx hy hvv hv3 (rel1.ext ok1 D2) rel2 spec;have mo4:∀Sn',(∀t∈Sn',t∈S2∨t=(x,y,r)) ->GP (IP op) NA NB B' Sn':=by
    intro Sn' hS x' y' r' hm hx' hy';rcases hS _ hm with h1|h1
    ·obtain⟨D,rfl⟩:=pre4;exact(so2 x' y' r' h1 hx' hy').ext ok2 D
    ·simp only[Prod.mk.injEq] at h1;obtain⟨rfl,rfl,rfl⟩:=h1;exact rel4
   have preA:∃D,B'=B++D:=by obtain⟨D,rfl⟩:=pre4;exact⟨D1++D2++D,by simp[jO]⟩
   have lenA:B'.length+1<=B.length+2^d:=by simp only[cX] at*;omega
   have nxA:n<=n3:=by have e1:n<=h1.next:=nx1;have e2:h1.next<=n2:=nx2;omega
   have oldA:∀j,j<p ->ob3.get j=ob.get j:=fun j hj=>by
    rw[show ob3.get j=ob2.get j from same3 j (by show j<n2;omega) (fun hb=>by have:=(as2.lo hb).1;omega),show ob2.get j=_ from old2 j hj];exact old1 j hj
   have lo3:B'≠[] ->p<o'/\ o'<n3:=fun hb=>⟨by
    rcases new3 hb with ⟨h1,rfl⟩|h1
    ·exact(as2.lo h1).1
    ·have h2:n2<=o':=h1;omega,lt3 hb⟩
   have sa:bU a'=true:=by rcases na3 with ⟨_,rfl⟩|⟨_,rfl,_⟩<;>rfl
   have ca':cellsO a'=some [a']:=by rcases na3 with ⟨_,rfl⟩|⟨_,rfl,_⟩<;>rfl
   have cf':cellsOf a'=[a']:=by rcases na3 with ⟨_,rfl⟩|⟨_,rfl,_⟩<;>rfl
   have np:(p=n3)=False:=eq_false ω;by_cases hS:S2=[]
   ·subst hS;have hs:s2= .sn:=by
     rcases ns2 with ⟨_,h⟩|⟨h,_⟩;·exact h
     ·exact absurd rfl h
    subst hs;refine Y9 @zd t0 t1 t2 hc3 sa ca' cf' @bw ?_;refine hk r B' o' [(x,y,r)] (n3+1) _ ⟨⟨a',.sl (n3+1) 0 1 none 3,?_,na3.mono fun hb=> ?_,ce.of (B:=[(x,y,r)]) (by simp) ?_⟩,by show p<n3+1+1;omega,fun hb=>⟨(lo3 hb).1,by have:=(lo3 hb).2;show o'<n3+1+1;omega⟩,fun _=>⟨by omega,by show n3+1<n3+1+1;omega⟩,fun hb _=>by have:=(lo3 hb).2;omega⟩
     ok4 (mo4 _ fun t ht=> .inr (by simpa using ht)) preA lenA (by simp only[fM,jL] at*;omega) (fun j hj=> ?_) (by show n<=n3+1+1;omega) rel4
    ·exact U0
    ·have:=lo3 hb;exact U0
    ·exact U0
    ·exact W0 (oldA j hj)
   ·obtain⟨hq,hs⟩:=ns2.cG hS;subst hs;have lq2:=as2.lq hS;have lq2':q2<n2:=lq2.2;have hq3:cG (ob3.get q2)=some (iP S2):=by
     rw[show ob3.get q2=ob2.get q2 from same3 q2 lq2' (fun hb h=>as2.oq hb hS h.symm)];exact hq
    have qo:B'≠[] ->q2≠o':=fun hb=>by
     rcases new3 hb with ⟨h1,rfl⟩|h1
     ·exact fun h=>as2.oq h1 hS h.symm
     ·have h2:n2<=o':=h1;omega
    have sl:S2.length+1<=1048576:=by omega
    refine BR @zd t0 t1 t2 hc3 hq3 sl sa ca' cf' @yr @bw ?_;have hl:S2.length+1=(S2++[(x,y,r)]).length:=by simp
    rw[show AV.sl (n3+1) 0 (S2.length+1) none 3= .sl (n3+1) 0 (S2++[(x,y,r)]).length none 3 by rw[hl]];refine hk r B' o' (S2++[(x,y,r)]) (n3+1) _ ⟨⟨a',.sl (n3+1) 0 (S2++[(x,y,r)]).length none 3,?_,na3.mono fun hb=> ?_,ce.of (by simp) ?_⟩,by show p<n3+1+1;omega,fun hb=>⟨(lo3 hb).1,by have:=(lo3 hb).2;show o'<n3+1+1;omega⟩,fun _=>⟨by omega,by show n3+1<n3+1+1;omega⟩,fun hb _=>by have:=(lo3 hb).2;omega⟩
     ok4 (mo4 _ fun t ht=>by simpa using ht) preA lenA (by simp only[cX,fM,jL] at*;omega) (fun j hj=> ?_) (by show n<=n3+1+1;omega) rel4
    ·exact U0
    ·have:=lo3 hb;have:=qo hb;exact U0
    ·exact U1 @Ca
    ·exact W0 (oldA j hj)
  have fnd:∀(j r:Nat),Sn[j]? =some (x,y,r) ->k (ι (r:Int)) ⟨n,ver,ob⟩:=fun j r hj=>
   hk r B o Sn q _ a_ okb so ⟨[],by simp⟩ ω ω (fun _ _=>rfl) (bK _) (so x y r (bJ hj) hx hy)
  have head:∀R:ap,(∀τ:T AV,τ.get 0=some (.p p 0) ->τ.get 1=some (ι (x:Int)) ->τ.get 2=some (ι (y:Int)) ->dk C R [] (KF k [(6,none)]) τ ⟨n,ver,ob⟩) ->
   ∀τ:T AV,τ.get 0=some (.p p 0) ->τ.get 1=some (ι (x:Int)) ->τ.get 2=some (ι (y:Int)) ->dk C BU [.s R] (KF k [(6,none)]) τ ⟨n,ver,ob⟩:=by
   intro R hR τ t0 t1 t2;by_cases hS:Sn=[]
   ·subst hS;have hs:s= .sn:=by
     rcases ns with ⟨_,h⟩|⟨h,_⟩;·exact h
     ·exact absurd rfl h
    subst hs;have zz:((0:Int)<0)=False:=eq_false ω;refine Y1 @bw ?_;rw[eZ E.ok];refine Y6 t0 t1 t2 hc zz @bw ?_;refine hR _ ?_ ?_ ?_<;>exact U3 t0 t1 t2
   ·obtain⟨hq,hs⟩:=ns.cG hS;subst hs;refine Y1 @bw ?_;refine OE E (p:=p) (q:=q) (x:=x) (y:=y) (S:=Sn) hc hq ω _ _ ?_ ?_ Sn.length 0 ω _ ?_ ?_ ?_ ?_
    ·intro j r τ hj t6;refine Y2 t6 @bw ?_;exact fnd j r hj
    ·intro τ t0 t1 t2;refine Y1 @bw ?_;exact hR τ t0 t1 t2
    all_goals exact U3 t0 t1 t2
  have hd:=head _ tail;have fb:Nk=⟨137,[(6,none)],.seq (.ops [⟨some 6,.mv (.c (ι 0)),none⟩]) (.seq (.seq Nh (.cond (.t 22) (.seq Ni .ret) .skip)) (.seq BU (.seq BV wD)))⟩:=rfl;rw[fb];generalize (ap.seq BV wD)=R at hd ⊢;generalize BU=H at hd ⊢;by_cases x2:x<2
  ·have x2':((x:Int)<2)=True:=eq_true ω;have y2':((y:Int)<2)=False:=eq_false ω;refine Y3 x2' y2' @bw ?_;refine hd _ ?_ ?_ ?_<;>exact U0
  ·have x2':((x:Int)<2)=False:=eq_false ω;refine Y2 x2' @bw ?_;refine hd _ ?_ ?_ ?_<;>exact U0
def qT (V:List Nat) (n:Nat):List AV:=(List.range n).map fun i=>AV.i .i64 ((if i+2∈V then nb V (i+2) else 0:Nat):Int)
def nU {V n}:(qT V n).length=n:=by simp[qT]
def tS {V:List Nat} {n i:Nat} (h:i<n):(qT V n)[i]? =some (ι ((if i+2∈V then nb V (i+2) else 0:Nat):Int)):=by
 simp[qT,h]
def j5 {l:List AV} {i:Nat} {x:AV} (h:l[i]? =some x):sub l i 1=some [x]:=by
 have hl:=(cW.1 h).1;rw[jd,if_pos ω];congr 1;rw[Ba hl];simp[(cW.1 h).2]
def sm {x:AV}:∀{l:List AV} {i:Nat},i<l.length ->bD [x] l i=some (l.set i x)
 |[],i,h=>by simp at h
 |a::l,0,h=>by simp[tH,qu,xR]
 |a::l,i+1,h=>by
  rw[tI,sm (by simpa using h)];rfl
def OG {V:List Nat} {n i:Nat} (hV:i+2∉V):(qT V n).set i (ι ((V.length+2:Nat):Int))=qT (V++[i+2]) n:=by
 apply y6;intro j;rw[pu];by_cases hj:j<n
 ·rw[tS hj,tS hj];by_cases e:i=j
  ·subst e;simp only[if_true,nU,hj,eV,dY,or_true,GK (show 2<=i+2 by omega) hV]
  ·have e2:¬j+2=i+2:=by omega
   by_cases hm:j+2∈V
   ·simp only[e,if_false,eV,hm,true_or,if_true,sj (.inr hm:j+2<2∨j+2∈V)]
   ·simp only[e,if_false,eV,hm,dY,e2,or_self]
 ·rw[sR (l:=qT V n) (by rw[nU];omega),sR (l:=qT (V++[i+2]) n) (by rw[nU];omega),nU];split
  ·rename_i e;subst e;rw[if_neg hj]
  ·rfl
structure WS (w q o:Nat) (a:AV) (B:List Br) (V:List Nat) (oo:Nat) (h:AH):Prop where
 c:∃b,cG (h.objs.get w)=some [a,.sl q 0 B.length (some B.length) 1,b]/\ ce h.objs.get oo (mw B V) b
 na:ce h.objs.get o B a
 cq:cG (h.objs.get q)=some (qT V B.length)
 lw:q<w/\ w<h.next
 lo:B≠[] ->o<q
 lv:V≠[] ->w<oo/\ oo<h.next
structure RF (w q:Nat) (V:List Nat) (oo:Nat) (h:AH) (V':List Nat) (oo':Nat) (h':AH):Prop where
 next:h.next<=h'.next
 same:∀j,j<h.next ->j≠w ->j≠q ->(V≠[] ->j≠oo) ->h'.objs.get j=h.objs.get j
 new:V'≠[] ->(V≠[]/\ oo'=oo)∨h.next<=oo'
def RF.refl {w q V oo h}:RF w q V oo h V oo h:=⟨bK _,fun _ _ _ _ _=>rfl,fun h=> .inl ⟨h,rfl⟩⟩
def RF.trans {w q oo oo' oo'':Nat} {V V' V'':List Nat} {h h' h'':AH} (a:RF w q V oo h V' oo' h') (b:RF w q V' oo' h' V'' oo'' h''):RF w q V oo h V'' oo'' h'':=
 ⟨fq a.next b.next,fun j h1 h2 h3 h4=>by
  have h7:V'≠[] ->j≠oo':=fun hv=>by
   rcases a.new hv with ⟨h5,h6⟩|h5
   ·rw[h6];exact h4 h5
   ·omega
  rw[b.same j (il h1 a.next) h2 h3 h7,a.same j h1 h2 h3 h4],fun hv=>by
  have:=a.next;rcases b.new hv with ⟨h5,h6⟩|h5
  ·rcases a.new h5 with ⟨h7,h8⟩|h7
   ·exact .inl ⟨h7,h6.trans h8⟩
   ·exact .inr ω
  ·exact .inr ω⟩
def WS.mono {w q o oo n n' v v':Nat} {a:AV} {B:List Br} {V:List Nat} {t t':T aU} (s:WS w q o a B V oo ⟨n,v,t⟩) (hn:n<=n') (e:∀j,(j<=w∨(V≠[]/\ j=oo)) ->t'.get j=t.get j):WS w q o a B V oo ⟨n',v',t'⟩ where
 c:=by
  obtain⟨b,h1,h2⟩:=s.c;exact⟨b,by show cG (t'.get w)=_;rw[e w (.inl (bK _))];exact h1,h2.mono fun h=>e oo (.inr ⟨fun hv=>h (by rw[hv];rfl),rfl⟩)⟩
 na:=s.na.mono fun h=>e o (.inl (by have:=s.lo h;have:=s.lw.1;omega))
 cq:=by show cG (t'.get q)=_;rw[e q (.inl (by have:=s.lw.1;omega))];exact s.cq
 lw:=⟨s.lw.1,il s.lw.2 hn⟩
 lo:=s.lo
 lv:=fun h=>⟨(s.lv h).1,il (s.lv h).2 hn⟩
set_option maxHeartbeats 4000000 in
def GQ {C:cQ Prop} (E:gW P X GL fns C) (F:dr fns) {w q o:Nat} {a:AV} {B:List Br} (ok:OK B) (hl:B.length<=50000):
 ∀(d n:Nat) (V:List Nat) (oo:Nat) (h:AH) (k:AV ->AH ->Prop),3-dV B n<=d ->In B n ->Cl B V ->V.length+2^d<=50000 ->WS w q o a B V oo h ->
  (∀oo' h',WS w q o a B (dP B d n V) oo' h' ->RF w q V oo h (dP B d n V) oo' h' ->(dP B d n V).length+1<=V.length+2^d ->k (ι (nb (dP B d n V) n:Int)) h') ->
  bZ C 414 [.p w 0,.i .i64 (n:Int)] h k:=by
 intro d;induction d with
 |zero=>
  intro n V oo h k hd hn cl hlen s hk;have n2:n<2:=by
   rcases hn.cases with h|⟨i,b,rfl,hb⟩
   ·exact h
   ·rw[bH hb] at hd;have:=ok.v _ _ hb;omega
  have n2':((n:Int)<2)=True:=eq_true ω;rw[aA E.ok (E.get F.f414)];refine Y3 @xW.eq_1 n2' @bw ?_;have:=hk oo h s RF.refl (by simp[dP]);rw[show nb (dP B 0 n V) n=n by simp[nb,n2]] at this;exact this
 |succ d ih=>
  intro n V oo h k hd hn cl hlen s hk;have pw:2^(d+1)=2*2^d:=Bo;have pw1:1<=2^d:=Bn;rw[aA E.ok (E.get F.f414)];by_cases n2:n<2
  ·have n2':((n:Int)<2)=True:=eq_true ω;refine Y3 @xW.eq_1 n2' @bw ?_;have e:dP B (d+1) n V=V:=by simp only[dP,if_pos (Or.inl n2:n<2∨n∈V)]
   rw[e] at hk;have:=hk oo h s RF.refl ω;rw[show nb V n=n by simp[nb,n2]] at this;exact this
  ·have n2':((n:Int)<2)=False:=eq_false ω;rcases hn.cases with h1|⟨i,b,rfl,hb⟩
   ·exact absurd h1 n2
   obtain⟨nx,ver,ob⟩:=h;obtain⟨ub,hc,nu⟩:=s.c;have hcq:=s.cq;have hlt:i<B.length:=(cW.1 hb).1;have es:aV .sub (ι ((i+2:Nat):Int)) (ι 2)=some (ι (i:Int)):=by rw[lF ω];congr 2;omega
   have sn:=j5 (tS (V:=V) hlt);dsimp only at hc hcq;by_cases hin:i+2∈V
   ·rw[if_pos hin] at sn;have g0:((0:Int)<((nb V (i+2):Nat):Int))=True:=eq_true (by simp only[nb,n2,if_false];omega);refine Y9 @xW.eq_1 n2' es hc hcq hlt sn g0 @bw ?_;have e:dP B (d+1) (i+2) V=V:=by simp only[dP,if_pos (Or.inr hin:i+2<2∨i+2∈V)]
    rw[e] at hk;exact hk oo _ s RF.refl ω
   ·rw[if_neg hin] at sn;have e4:sub (iP B) (i*3) 3=some [.i .i64 (b.1:Int),.i .i64 (b.2.1:Int),.i .i64 (b.2.2:Int)]:=by have:=gu hb 0 3 ω;simpa[oM] using this
    have hB:B≠[]:=fun h=>by rw[h] at hlt;simp at hlt
    obtain⟨hcB,ha⟩:=s.na.cG hB;dsimp only at hcB;have lw:=s.lw;have lw2:w<nx:=lw.2;have lo:=s.lo hB;rw[ha] at hc;refine CM @xW.eq_1 n2' es hc hcq hcB hlt sn e4 @bw ?_;have e:dP B (d+1) (i+2) V=dP B d b.2.2 (dP B d b.2.1 V)++[i+2]:=by simp only[dP,n2,hin,or_self,if_false,show i+2-2=i by omega,hb]
    rw[e] at hk;rw[bH hb] at hd;have l1:=ok.l _ _ hb;have l2:=ok.h _ _ hb;have hi:=In.of hb;have i1:In B b.2.1:=by unfold In at*;omega
    have i2:In B b.2.2:=by unfold In at*;omega
    have s0:WS w q o a B V oo ⟨nx+1,ver+1,(ob.put nx (.cells ver [.i .i64 0,.i .i64 0,.i .i64 0])).put nx (.cells (ver+1) [.i .i64 (b.1:Int),.i .i64 (b.2.1:Int),.i .i64 (b.2.2:Int)])⟩:=
     s.mono ω fun j hj=>by
      have hj':¬j=nx:=by
       rcases hj with h|⟨h,rfl⟩
       ·omega
       ·have:=(s.lv h).2;have h2:j<nx:=this;omega
      simp only[T.get_put,if_neg hj']
    have f0:RF w q V oo ⟨nx,ver,ob⟩ V oo ⟨nx+1,ver+1,(ob.put nx (.cells ver [.i .i64 0,.i .i64 0,.i .i64 0])).put nx (.cells (ver+1) [.i .i64 (b.1:Int),.i .i64 (b.2.1:Int),.i .i64 (b.2.2:Int)])⟩:=
     ⟨by show nx<=nx+1;omega,fun j h1 _ _ _=>by have h1':j<nx:=h1;exact U0,fun h=> .inl ⟨h,rfl⟩⟩
    refine E.run (ih b.2.1 V oo _ _ ω i1 cl ω s0 ?_);rintro oo1 ⟨n1,ver1,ob1⟩ s1 f1 len1;have cl1:=qy ok d b.2.1 V cl i1 ω;have nx1:nx+1<=n1:=f1.next;have lv1:=s1.lv;have c1b:cG (ob1.get nx)=some [.i .i64 (b.1:Int),.i .i64 (b.2.1:Int),.i .i64 (b.2.2:Int)]:=by
     rw[show ob1.get nx=_ from f1.same nx (by show nx<nx+1;omega) ω ω (fun h=>by have:=(s.lv h).2;have h2:oo<nx:=this;omega)];exact U0
    refine Y2 c1b @bw ?_;refine E.run (ih b.2.2 _ oo1 _ _ ω i2 cl1.1 ω s1 ?_);rintro oo2 ⟨n2',ver2,ob2⟩ s2 f2 len2;have cl2:=qy ok d b.2.2 _ cl1.1 i2 ω;have nx2:n1<=n2':=f2.next;have c2b:cG (ob2.get nx)=some [.i .i64 (b.1:Int),.i .i64 (b.2.1:Int),.i .i64 (b.2.2:Int)]:=by
     rw[show ob2.get nx=_ from f2.same nx (by show nx<n1;omega) ω ω (fun h=>by
      rcases f1.new h with ⟨h1,rfl⟩|h1
      ·have:=(s.lv h1).2;have h2:oo1<nx:=this;omega
      ·have h2:nx+1<=oo1:=h1;omega)]
     exact c1b
    obtain⟨ub2,hc2,nu2⟩:=s2.c;have hcq2:=s2.cq;have hnot:=DP ok (d:=d) hb hin;have lw3:w<n2':=s2.lw.2;obtain⟨W2,hW2⟩:=tQ (B:=B) d b.2.2 (dP B d b.2.1 V);generalize hV2:dP B d b.2.2 (dP B d b.2.1 V)=V2 at*;generalize hV1:dP B d b.2.1 V=V1 at*;have nl:nb V2 b.2.1=nb V1 b.2.1:=by rw[hW2];exact sj cl1.2
    have inl:b.2.1<2∨b.2.1∈V2:=cl1.2.imp id fun h=>by rw[hW2];exact Bd _ h
    have ho:=DN cl2.1 (n:=i+2) (b:=b) (by simpa using hb) inl cl2.2;have hset:=OG (n:=B.length) hnot;have hov:=sm (x:= .i .i64 ((V2.length+2:Nat):Int)) (l:=qT V2 B.length) (i:=i) (by rw[nU];exact hlt);rw[hset] at hov;have hnew:=GK (V:=V2) (n:=i+2) ω hnot;have v2l:V2.length+2<=1000000:=by omega
    have ff:RF w q V oo ⟨nx,ver,ob⟩ V2 oo2 ⟨n2',ver2,ob2⟩:=(f0.trans f1).trans f2;have lv2:=s2.lv;have ho2l:(mw B V2).length=V2.length:=kD;dsimp only at hc2 hcq2;by_cases hV:V2=[]
    ·subst hV;have hu:ub2= .sn:=by
      rcases nu2 with ⟨_,h⟩|⟨h,_⟩;·exact h
      ·exact absurd rfl h
     subst hu;have hov':bD [.i .i64 ((2:Nat):Int)] (qT [] B.length) i=some (qT ([]++[i+2]) B.length):=hov;refine Y9 @zd es hc2 hcq2 c2b hlt @ar hov' @bw ?_;rw[hnew] at hk;refine hk (n2'+1) _ ⟨⟨.sl (n2'+1) 0 1 none 3,?_,?_⟩,s2.na.mono fun hb=> ?_,?_,⟨lw.1,by show w<n2'+2;omega⟩,s.lo,fun _=>⟨by omega,by show n2'+1<n2'+2;omega⟩⟩
      (ff.trans ⟨by show n2'<=n2'+2;omega,fun j h1 h2 h3 h4=> ?_,fun _=> .inr (by show n2'<=n2'+1;omega)⟩) (by simp only[cX,fM,jL] at*;omega)
     ·exact U0
     ·rw[ho,show mw B []=[] from rfl,nl];refine ce.of (B:=[(b.1,nb V1 b.2.1,nb [] b.2.2)]) (by simp) ?_;exact U0
     ·exact U0
     ·exact U0
     ·have h1':j<n2':=h1;exact U0
    ·have hoB:mw B V2≠[]:=fun h=>hV (by rw[←Fm,←ho2l,h];rfl)
     obtain⟨hcu,hu⟩:=nu2.cG hoB;rw[ho2l] at hu;subst hu;dsimp only at hcu;have hov':bD [.i .i64 ((V2.length+1+1:Nat):Int)] (qT V2 B.length) i=some (qT (V2++[i+2]) B.length):=hov;have lvv:=lv2 hV;have lvo:oo2<n2':=lvv.2;refine BR @zd es hc2 hcq2 c2b hlt @ar hov' hcu @yr ho2l @bw ?_;rw[hnew] at hk;have hl:V2.length+1=(mw B V2++[(b.1,nb V2 b.2.1,nb V2 b.2.2)]).length:=by simp[ho2l]
     refine hk (n2'+1) _ ⟨⟨.sl (n2'+1) 0 (V2.length+1) none 3,?_,?_⟩,s2.na.mono fun hb=> ?_,?_,⟨lw.1,by show w<n2'+2;omega⟩,s.lo,fun _=>⟨by omega,by show n2'+1<n2'+2;omega⟩⟩
      (ff.trans ⟨by show n2'<=n2'+2;omega,fun j h1 h2 h3 h4=> ?_,fun _=> .inr (by show n2'<=n2'+1;omega)⟩) (by simp only[cX,fM,jL] at*;omega)
     ·exact U0
     ·rw[ho,hl,nl];refine ce.of (by simp) ?_;exact U1 @Ca
     ·exact U0
     ·exact U0
     ·have h1':j<n2':=h1;have h4':=h4 hV;exact U0
def OH {n:Nat}:qT [] n=List.replicate n (ι 0):=by
 apply y6;intro j;by_cases hj:j<n
 ·rw[tS hj];simp[hj]
 ·rw[sR (by rw[nU];omega),sR (by simp;omega)]
set_option maxHeartbeats 4000000 in
def Cc {C:cQ Prop} (E:gW P X GL fns C) (F:dr fns) {o m ver r:Nat} {B:List Br} {ob:T aU} {a:AV} (ok:OK B) (hl:B.length<=50000) (hr:In B r) (na:ce ob.get o B a) (ho:B≠[] ->o<m)
 (k:AV ->AH ->Prop) (hk:∀a oo h',ce h'.objs.get oo (ax (tr B 3 r)).1 a ->m<=h'.next ->(∀j,j<m ->h'.objs.get j=ob.get j) ->(ax (tr B 3 r)).1.length<=7 ->(a= .sn∨(m<=oo/\ oo<h'.next)) ->k (.ag [a,.i .i64 ((ax (tr B 3 r)).2:Int)]) h'):
 bZ C 275 [a,.i .i64 (r:Int)] ⟨m,ver,ob⟩ k:=by
 have hb:B.length<=1048576:=by omega
 have rp:(List.replicate B.length [AV.i .i64 0]).flatten=qT [] B.length:=by
  rw[OH];generalize B.length=n;induction n with
  |zero=>rfl
  |succ n ih=>rw[Jy,Jz,ih];rfl
 have ca:cellsO a=some [a]:=by rcases na with ⟨_,rfl⟩|⟨_,rfl,_⟩<;>rfl
 have sa:bU a=true:=by rcases na with ⟨_,rfl⟩|⟨_,rfl,_⟩<;>rfl
 have ln:∀(τ:T AV) h,bp C τ (.t 8)=a ->step (bp C τ) h (.len .slice (.t 8))= .v (ι (B.length:Int)) h:=by
  intro τ h e;rcases na with ⟨h1,rfl⟩|⟨_,rfl,_⟩
  ·rw[lT,e,h1];rfl
  ·rw[lT,e]
 rw[aA E.ok (E.get F.f275)];refine Z8 @IE.eq_1 ln ca sa hb @bK rp @bw ?_;refine E.run (GQ (w:=m+1+1) (q:=m+1) (o:=o) (a:=a) (B:=B) E F ok hl 3 r [] 0 _ _ ω hr Cl.nil (by simp) ⟨⟨.sn,?_,.inl ⟨rfl,rfl⟩⟩,na.mono fun h=> ?_,?_,⟨by omega,by show m+1+1<m+1+1+1;omega⟩,fun h=>by have:=ho h;omega,fun h=>absurd rfl h⟩ ?_)
 ·exact U0
 ·have:=ho h;exact U0
 ·exact U0
 rintro oo ⟨n2,ver2,ob2⟩ s2 f2 len2;obtain⟨b,c2,nA⟩:=s2.c;have hn2:m+1+1+1<=n2:=f2.next;have hcan:=ym ok hr (d:=3) ω;have b1:cG (ob2.get m)=some [.sn,.i .i64 0]:=by
  rw[show ob2.get m=_ from f2.same m (by show m<m+1+1+1;omega) ω ω (fun h=>absurd rfl h)];exact U0
 dsimp only at c2;have sb:bU b=true:=by rcases nA with ⟨_,rfl⟩|⟨_,rfl,_⟩<;>rfl
 have cb:cellsO b=some [b]:=by rcases nA with ⟨_,rfl⟩|⟨_,rfl,_⟩<;>rfl
 refine Y5 c2 b1 sb cb @bw ?_;have e1:mw B (dP B 3 r [])=(ax (tr B 3 r)).1:=congrArg Prod.fst hcan;have e2:nb (dP B 3 r []) r=(ax (tr B 3 r)).2:=congrArg Prod.snd hcan;rw[e2];have hoo:b= .sn∨(m<=oo/\ oo<n2):=by
  rcases nA with ⟨_,h⟩|⟨h,_⟩
  ·exact .inl h
  ·have h2:m+1+1<oo/\ oo<n2:=s2.lv (fun hv=>h (by rw[hv];rfl));exact .inr ω
 rw[e1] at nA;refine hk b oo _ (nA.mono fun h=> ?_) (by show m<=n2;omega) (fun j hj=> ?_) (by rw[←e1,kD];have:(dP B 3 r []).length+1<=0+2^3:=len2;omega) hoo
 ·have hno:m+1+1<oo:=(s2.lv (fun hv=>h (by rw[←e1,hv];rfl))).1;exact U0
 ·simp(disch:=omega) only[cF,T.get_put,if_false];rw[show ob2.get j=_ from f2.same j (by show j<m+1+1+1;omega) ω ω (fun h=>absurd rfl h)];exact U0
def R0 {h:AH} {o:Nat} {d:List Br×Nat} {a:AV} (na:ce h.objs.get o d.1 a):aH 9 h (.ag [a,.i .i64 (d.2:Int)])=some (eD d):=by
 have e2:aH 9 h (.ag [a,.i .i64 (d.2:Int)])=(match aK 8 h [a,.i .i64 (d.2:Int)] with|some l=>some (AV.ag l)|none=>none):=rfl;have e3:aH 8 h (ι (d.2:Int))=some (ι (d.2:Int)):=rfl;simp only[af,ay,e2,e3,yo na,eD]
def zf (S:aw P X GL fns) (F:dr fns) {op:Nat} (hop:op<3) {s t:Tr} (ds:vW P X GL s) (dt:vW P X GL t):aZ P X GL fns 166 [eT s,eT t,.i .i64 (op:Int)] (eT (eF (IP op) s t)):=by
 refine aZ.intro fun C E=> ?_
 rw[aA E.ok (E.get F.f166)];refine Y5 @TV.eq_1 @eT.eq_1 @eD.eq_1 @h0.eq_1 @bw ?_;refine E.run (RZ (NA:=(ax s).1) (NB:=(ax t).1) (ra:=(ax s).2) (rb:=(ax t).2) (op:=op) (p:=3) S E F hop ds.ok dt.ok (by have:=ds.len;omega) (by have:=dt.len;omega) _ (ax s).2 (ax t).2 [] 0 [] 0 _ _ rfl ds.in_ dt.in_ ⟨⟨.sn,.sn,?_,.inl ⟨rfl,rfl⟩,.inl ⟨rfl,rfl⟩⟩,by show 3<4;omega,fun h=>absurd rfl h,fun h=>absurd rfl h,fun h=>absurd rfl h⟩
  ⟨by simp,by simp,by simp,by simp,by simp⟩ (fun x y r h=>by simp at h) ?_ ?_ ?_)
 ·exact U0
 ·have hpw:2^(3-min (dV (ax s).1 (ax s).2) (dV (ax t).1 (ax t).2))<=2^3:=y7 ω ω;simp only[jL];omega
 ·have hpw:2^(3-min (dV (ax s).1 (ax s).2) (dV (ax t).1 (ax t).2))<=2^3:=y7 ω ω;simp only[jL];omega
 rintro r B o Sn q ⟨n1,ver1,ob1⟩ a_ okB so _ lenB _ old nx rel;have hpw:2^(3-min (dV (ax s).1 (ax s).2) (dV (ax t).1 (ax t).2))<=2^3:=y7 ω ω;obtain⟨a1,s1,hc,na,_⟩:=a_.c;dsimp only at hc;have htr:tr B 3 r=eF (IP op) s t:=by
  have:=(rel.2 3 ω ω ω).2;rw[this,ds.tr,dt.tr]
 have n3:3<n1:=a_.lp;have lo:=a_.lo;refine Y2 hc @bw ?_;refine E.run (Cc (o:=o) (B:=B) E F okB (by simp only[jL] at lenB;omega) rel.1 na (fun h=>(lo h).2) _ ?_);rw[htr];rintro a oo ⟨n2,ver2,ob2⟩ nb hn2 same len7 hoo;have b2:cG (ob2.get 2)=some [.sn,.i .i64 0]:=by
  rw[show ob2.get 2=ob1.get 2 from same 2 (by show 2<n1;omega),show ob1.get 2=_ from old 2 ω];exact U0
 have sa:bU a=true:=by rcases nb with ⟨_,rfl⟩|⟨_,rfl,_⟩<;>rfl
 have ca:cellsO a=some [a]:=by rcases nb with ⟨_,rfl⟩|⟨_,rfl,_⟩<;>rfl
 refine Y4 b2 sa ca @bw ?_;refine⟨9,R0 (d:=ax (eF (IP op) s t)) (nb.mono fun h=> ?_)⟩;rcases hoo with rfl|⟨h1,_⟩
 ·rcases nb with ⟨h1,_⟩|⟨_,h1,_⟩
  ·exact absurd h1 h
  ·cases h1
 ·have h2:n1<=oo:=h1;exact U0
def oN (S:aw P X GL fns) (F:dr fns) {op:Nat} (hop:op<3) {s t:Tr} (ds:vW P X GL s) (dt:vW P X GL t) (h:AH):dq P X GL 166 [eT s,eT t,.i .i64 (op:Int)] h (eT (eF (IP op) s t)) h:=
 aE S (zf S F hop ds dt) (n:=9) (by simp only[af,fg,ay,aH]) h
def ZV:IP 0=fun x y=>x&&y:=rfl
def ZW:IP 1=fun x y=>x||y:=rfl
def ZX:IP 2=fun x y=>x !=y:=rfl
def aD {B:List Br}:cellsO (fG B)=some [fG B]:=by cases B<;>rfl
def Km (S:aw P X GL fns) (F:dr fns) {s t:Tr} (ds:vW P X GL s) (dt:vW P X GL t):aZ P X GL fns 91 [eT s,eT t] (eT (eF (fun x y=>x&&y) s t)):=by
 refine aZ.intro fun C E=> ?_
 rw[aA E.ok (E.get F.f91)];refine Y5 @ZJ.eq_1 @eT.eq_1 @eD.eq_1 @h0.eq_1 @bw ?_;refine E.con (oN S F (op:=0) ω ds dt _) ?_;refine Y5 @eT.eq_1 @eD.eq_1 @aD @ZV @bw ?_;exact⟨9,iF _ _⟩
def Kn (S:aw P X GL fns) (F:dr fns) {s t:Tr} (ds:vW P X GL s) (dt:vW P X GL t):aZ P X GL fns 90 [eT s,eT t] (eT (eF (fun x y=>x||y) s t)):=by
 refine aZ.intro fun C E=> ?_
 rw[aA E.ok (E.get F.f90)];refine Y5 @ZK.eq_1 @eT.eq_1 @eD.eq_1 @h0.eq_1 @bw ?_;refine E.con (oN S F (op:=1) ω ds dt _) ?_;refine Y5 @eT.eq_1 @eD.eq_1 @aD @ZW @bw ?_;exact⟨9,iF _ _⟩
def nW (S:aw P X GL fns) (F:dr fns) {s t:Tr} (ds:vW P X GL s) (dt:vW P X GL t) (h:AH):dq P X GL 91 [eT s,eT t] h (eT (eF (fun x y=>x&&y) s t)) h:=
 aE S (Km S F ds dt) (n:=9) (by simp only[af,fg,ay]) h
def DV (S:aw P X GL fns) (F:dr fns) {s t:Tr} (ds:vW P X GL s) (dt:vW P X GL t) (h:AH):dq P X GL 90 [eT s,eT t] h (eT (eF (fun x y=>x||y) s t)) h:=
 aE S (Kn S F ds dt) (n:=9) (by simp only[af,fg,ay]) h
def bh (P:Program) (X:dy) (GL:T (List AV)):Prop:=∀t,ew 3 t=true ->vW P X GL t
def cH {g:Bool ->Bool ->Bool}:∀{k:Nat} {s t:Tr},ew k s=true ->ew k t=true ->ew k (eF g s t)=true
 |0,.c _,.c _,_,_=>rfl
 |0,.n _ _,_,h,_=>by simp[ew] at h
 |0,.c _,.n _ _,_,h=>by simp[ew] at h
 |k+1,.c _,_,h,_=>by simp[ew] at h
 |k+1,.n _ _,.c _,_,h=>by simp[ew] at h
 |k+1,.n a b,.n c d,h1,h2=>by
  simp only[ew,av] at h1 h2;simp only[eF,ew,av];exact⟨cH h1.1 h2.1,cH h1.2 h2.2⟩
def mU {g:Bool ->Bool ->Bool}:∀{k n:Nat} {s t:Tr},ew k s=true ->ew k t=true ->zg n s=true ->zg n t=true ->zg n (eF g s t)=true
 |0,0,.c _,.c _,_,_,_,_=>rfl
 |0,_+1,.c _,.c _,_,_,_,_=>rfl
 |0,_,.n _ _,_,h,_,_,_=>by simp[ew] at h
 |0,_,.c _,.n _ _,_,h,_,_=>by simp[ew] at h
 |k+1,_,.c _,_,h,_,_,_=>by simp[ew] at h
 |k+1,_,.n _ _,.c _,_,h,_,_=>by simp[ew] at h
 |k+1,0,.n a b,.n c d,h1,h2,h3,h4=>by
  simp only[ew,av] at h1 h2;simp only[zg,av,decide_eq_true_eq] at h3 h4;simp only[eF,zg,av,decide_eq_true_eq];obtain⟨rfl,h3⟩:=h3;obtain⟨rfl,h4⟩:=h4;exact⟨rfl,mU h1.1 h2.1 h3 h4⟩
 |k+1,n+1,.n a b,.n c d,h1,h2,h3,h4=>by
  simp only[ew,av] at h1 h2;simp only[zg,av] at h3 h4;simp only[eF,zg,av];exact⟨mU h1.1 h2.1 h3.1 h4.1,mU h1.2 h2.2 h3.2 h4.2⟩
def qA {b:Bool}:∀k n,zg n (dQ b k)=true
 |0,0=>rfl
 |0,_+1=>rfl
 |k+1,0=>by simp[dQ,zg,qA k 0]
 |k+1,n+1=>by simp[dQ,zg,qA k n]
def uR (b:Bool):ax (dQ b 3)=([],bN b):=by cases b<;>rfl
def lI:Nat ->Tr
 |0=> .n (dQ false 2) (dQ true 2)
 |1=> .n (.n (dQ false 1) (dQ true 1)) (.n (dQ false 1) (dQ true 1))
 |_=> .n (.n (.n (.c false) (.c true)) (.n (.c false) (.c true))) (.n (.n (.c false) (.c true)) (.n (.c false) (.c true)))
def Ko {v:Nat} (h:v<3):ax (lI v)=([(v,0,1)],2):=by
 rcases(show v=0∨v=1∨v=2 by omega) with rfl|rfl|rfl<;>rfl
def jb {v:Nat}:ew 3 (lI v)=true:=by
 match v with
 |0=>rfl
 |1=>rfl
 |n+2=>rfl
def Ce {v n:Nat} (h:v<n) (h3:n<=3):zg n (lI v)=true:=by
 rcases(show n=1∨n=2∨n=3 by omega) with rfl|rfl|rfl
 ·obtain rfl:v=0:=by omega
  rfl
 ·rcases(show v=0∨v=1 by omega) with rfl|rfl<;>rfl
 ·rcases(show v=0∨v=1∨v=2 by omega) with rfl|rfl|rfl<;>rfl
def DX (F:dr fns) (b:Bool):aZ P X GL fns 23 [.b b] (eT (dQ b 3)):=by
 refine aZ.intro fun C E=> ?_
 rw[aA E.ok (E.get F.f23)];cases b<;>
  (
   refine Y3 @ZN.eq_1 @h0.eq_1 @bw ?_;exact⟨1,rfl⟩)
def DY (F:gD fns) (b:Bool):aZ P X GL fns 104 [.b b] (eT (dQ b 3)):=by
 refine aZ.intro fun C E=> ?_
 rw[aA E.ok (E.get F.f104)];cases b<;>
  (
   refine Y6 @T8.eq_1 @Ov.eq_1 @Ow.eq_1 @Ox.eq_1 @h0.eq_1 @bw ?_;exact⟨1,rfl⟩)
def Kp (F:dr fns) {v:Nat} (h:v<3):aZ P X GL fns 89 [.i .i64 (v:Int)] (.tu [eT (lI v),.i .i64 0]):=by
 refine aZ.intro fun C E=> ?_
 rw[aA E.ok (E.get F.f89)];refine Y3 @ZO.eq_1 @h0.eq_1 @bw ?_;refine⟨4,?_⟩;unfold eT eD;rw[Ko h];rfl
def jl (S:aw P X GL fns) (F:dr fns) (b:Bool) (h:AH):dq P X GL 23 [.b b] h (eT (dQ b 3)) h:=aE S (DX F b) (n:=1) (by rfl) h
def sA (S:aw P X GL fns) (F:gD fns) (b:Bool) (h:AH):dq P X GL 104 [.b b] h (eT (dQ b 3)) h:=aE S (DY F b) (n:=1) (by rfl) h
def DZ (S:aw P X GL fns) (F:dr fns) {v:Nat} (hv:v<3) (h:AH):dq P X GL 89 [.i .i64 (v:Int)] h (.tu [eT (lI v),.i .i64 0]) h:=aE S (Kp F hv) (n:=1) (by rfl) h
def GR (S:aw P X GL fns) (F:dr fns) (A:bh P X GL) {s:Tr} (hs:ew 3 s=true):aZ P X GL fns 86 [eT s] (eT (eF (fun x y=>x !=y) s (dQ true 3))):=by
 refine aZ.intro fun C E=> ?_
 have c1:=fun h=>oN S F (op:=2) ω (A s hs) (A _ (iG (b:=true) 3)) h
 simp only[eT,eD,ZX] at c1;rw[aA E.ok (E.get F.f86)];refine Y5 @ZM.eq_1 @eT.eq_1 @eD.eq_1 @h0.eq_1 @bw ?_;refine E.con (jl S F true _) ?_;refine Y3 @eT.eq_1 @eD.eq_1 @bw ?_;refine E.con (c1 _) ?_;refine Y4 @eT.eq_1 @eD.eq_1 @aD @bw ?_;exact⟨9,iF _ _⟩
def Aj (S:aw P X GL fns) (F:dr fns) (A:bh P X GL) {s:Tr} (hs:ew 3 s=true) (h:AH):dq P X GL 86 [eT s] h (eT (eF (fun x y=>x !=y) s (dQ true 3))) h:=
 aE S (GR S F A hs) (n:=9) (by simp only[af,fg,ay]) h
def GS (S:aw P X GL fns) (F:dr fns) (A:bh P X GL) {s t:Tr} (hs:ew 3 s=true) (ht:ew 3 t=true):aZ P X GL fns 92 [eT s,eT t] (eT (eF (fun x y=>x&&y) s (eF (fun x y=>x !=y) t (dQ true 3)))):=by
 refine aZ.intro fun C E=> ?_
 have c1:=fun h=>Aj S F A ht h
 have c2:=fun h=>nW S F (A s hs) (A _ (cH (g:=fun x y=>x !=y) ht (iG (b:=true) 3))) h
 simp only[eT,eD] at c1 c2;rw[aA E.ok (E.get F.f92)];refine Y5 @ZL.eq_1 @eT.eq_1 @eD.eq_1 @h0.eq_1 @bw ?_;refine E.con (c1 _) ?_;refine Y3 @eT.eq_1 @eD.eq_1 @bw ?_;refine E.con (c2 _) ?_;refine Y4 @eT.eq_1 @eD.eq_1 @aD @bw ?_;exact⟨9,iF _ _⟩
def Kq (S:aw P X GL fns) (F:dr fns) (A:bh P X GL) {s t:Tr} (hs:ew 3 s=true) (ht:ew 3 t=true) (h:AH):dq P X GL 92 [eT s,eT t] h (eT (eF (fun x y=>x&&y) s (eF (fun x y=>x !=y) t (dQ true 3)))) h:=
 aE S (GS S F A hs ht) (n:=9) (by simp only[af,fg,ay]) h
end
def btD:T aR:=(.n (.n (.n .e none (.n (.n (.n (.n .e none (.n .e (some DH) .e)) none .e) none .e) none .e)) none (.n .e none (.n (.n .e none (.n .e none (.n .e (some Oq) .e))) none (.n (.n .e none (.n (.n (.n .e (some Ah) .e) none .e) (some DK) .e)) none .e)))) none (.n (.n .e none (.n (.n (.n (.n .e none (.n .e (some II) .e)) none .e) none (.n .e none (.n (.n .e (some DL) .e) none .e))) none .e)) none .e))
def R8:btD=(T.put (T.put (T.put (T.put (T.put (T.put .e 117 Oq) 109 DK) 195 DH) 196 II) 180 DL) 301 Ah):=rfl
def R9 {fns:T aR} (FHasD:gD fns):∀f m,btD.get f=some m ->fns.get f=some m:=by
 rw[R8];exact(bG (bG (bG (bG (bG (bG IU FHasD.f117) FHasD.f109) FHasD.f195) FHasD.f196) FHasD.f180) FHasD.f301)
def btR:T aR:=(.n (.n (.n (.n (.n (.n .e none (.n (.n .e none (.n .e (some Nw) .e)) none .e)) none .e) none (.n (.n .e none (.n (.n .e (some Nu) .e) none .e)) none .e)) none (.n (.n .e none (.n (.n (.n (.n .e (some IE) .e) none .e) none .e) none .e)) none (.n .e none (.n (.n (.n .e none (.n .e (some DG) .e)) none .e) none .e)))) none (.n (.n (.n (.n (.n .e none (.n .e (some Af) .e)) none .e) none .e) none .e) none .e)) none (.n (.n .e none (.n (.n .e none (.n (.n (.n (.n .e (some Nv) .e) none .e) none .e) none .e)) none .e)) none (.n .e none (.n .e none (.n .e none (.n (.n (.n .e none (.n .e (some xW) .e)) none .e) none .e))))))
def Sa:btR=(T.put (T.put (T.put (T.put (T.put (T.put (T.put .e 167 Nu) 276 Nv) 193 Af) 275 IE) 415 Nw) 411 DG) 414 xW):=rfl
def Sb {fns:T aR} (FHasR:dr fns):∀f m,btR.get f=some m ->fns.get f=some m:=by
 rw[Sa];exact(bG (bG (bG (bG (bG (bG (bG IU FHasR.f167) FHasR.f276) FHasR.f193) FHasR.f275) FHasR.f415) FHasR.f411) FHasR.f414)
def fj (i:Nat):List Tr:=(((kE 3).drop (16*i)).take 16)
def D5 (GL:T (List AV)) (t:Tr):Bool:=fA GL btD (fun _ _=>none) 100000 117 [eT t] (ι 0)
def D6 (GL:T (List AV)) (t:Tr):Bool:=fA GL btR (fun _ _=>none) 100000 167 [eT t] (ι 0)
end
end AM
