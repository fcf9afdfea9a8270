import Derived.Test.YtihgjngjidijaaaGreatDoorN6
import Derived.Test.YtihgjngjidijaaaGreatDoorN8
set_option linter.all false
set_option maxHeartbeats 4000000
namespace AM
open Go
noncomputable section
inductive Fr where
 |s (b:aw)
 |b (i:Nat)
section
variable (C:aK Prop)
def qW (K:K Prop):List Fr ->AM.K Prop
 |[]=>K
 | .s b::S=>λe τ h=>match e with| .normal=>gG C b (qW K S) τ h|e=>qW K S e τ h
 | .b i::S=>λe τ h=>match e with| .exit j=>(bif Nat.beq j i then qW K S .normal τ h else qW K S (.exit j) τ h)|e=>qW K S e τ h
def df (c:aw) (S:List Fr) (K:K Prop) (τ:T AV) (h:AH):Prop:=gG C c (qW C K S) τ h
def gV (e:pS) (S:List Fr) (K:K Prop) (τ:T AV) (h:AH):Prop:=qW C K S e τ h
def nxt (S:List Fr) (K:K Prop):T AV ->AH ->Prop:=λτ h=>qW C K S .normal τ h
def lu (l:List MG) (S:List Fr) (K:K Prop) (τ:T AV) (h:AH):Prop:=dO C (hM C) (oC C) (nxt C S K) l τ h
def IJ (l:List MG) (S:List Fr) (K:K Prop) (d:Option Nat) (τ:T AV):AV ->AH ->Prop:=λx h=>lu C l S K (cj τ d x) h
def oS (l:List MG) (S:List Fr) (K:K Prop) (d:Option Nat) (τ:T AV) (r:ay):Prop:=kO C (hM C) (oC C) (nxt C S K) l d τ r
def gS (l:List MG) (S:List Fr) (K:K Prop) (d:Option Nat) (op:jn) (w:Bool) (τ:T AV) (h:AH) (r:Option AV):Prop:=kG C (hM C) (oC C) (nxt C S K) l d op w τ h r
def cS (a b:aw) (S:List Fr) (K:K Prop) (τ:T AV) (h:AH) (r:AV):Prop:=kC C (qW C K S) a b τ h r
def pj (base:Nat) (l:List DI) (ls:List (Nat×MG)) (pd:List (Nat×Nat×bC)) (S:List Fr) (K:K Prop) (τ:T AV) (h:AH):Prop:=bW C (hM C) (oC C) base (nxt C S K) l ls pd τ h
def lS (base:Nat) (i:Nat) (g:MG) (l:List DI) (ls:List (Nat×MG)) (pd:List (Nat×Nat×bC)) (S:List Fr) (K:K Prop) (τ:T AV) (h:AH) (r:Option AV):Prop:=kL C (hM C) (oC C) base (nxt C S K) i g l ls pd τ h r
def rS (base i id:Nat) (d:Option Nat) (l:List DI) (ls:List (Nat×MG)) (pd:List (Nat×Nat×bC)) (S:List Fr) (K:K Prop) (τ:T AV) (h:AH) (r:ay):Prop:=kR C (hM C) (oC C) base (nxt C S K) i id d l ls pd τ h r
def Bl (base i id:Nat) (x:AV) (d:Option Nat) (l:List DI) (ls:List (Nat×MG)) (pd:List (Nat×Nat×bC)) (S:List Fr) (K:K Prop) (τ:T AV) (h:AH) (r:Option bC):Prop:=Di C (hM C) (oC C) base (nxt C S K) i id x d l ls pd τ h r
def yS (base:Nat) (l:List DI) (ls:List (Nat×MG)) (pd:List (Nat×Nat×bC)) (S:List Fr) (K:K Prop) (τ:T AV) (h:AH) (r:Option (Nat×bC)):Prop:=kY C (hM C) (oC C) base (nxt C S K) l ls pd τ h r
def aS (base mask:Nat) (l:List DI) (ls:List (Nat×MG)) (pd:List (Nat×Nat×bC)) (S:List Fr) (K:K Prop) (τ:T AV) (h:AH) (ch:List (Nat×MG)):Prop:=kA C (hM C) (oC C) base (nxt C S K) mask l ls pd τ h ch
def IK (base mask:Nat) (d:Option Nat) (l:List DI) (ls:List (Nat×MG)) (pd:List (Nat×Nat×bC)) (S:List Fr) (K:K Prop) (τ:T AV):AV ->AH ->Prop:=λx h=>aS C base mask l ls pd S K (cj τ d x) h ls
def uW (base mask:Nat) (l:List DI) (ls:List (Nat×MG)) (pd:List (Nat×Nat×bC)) (S:List Fr) (K:K Prop) (τ:T AV) (h:AH) (ch:List (Nat×MG)) (y x:Option AV):Prop:=match x with
 |some x=>(match y with
  |some y=>if cZ 64 x y=true then aS C base mask l ls pd S K τ h ch else C.fail
  |none=>C.fail)
 |none=>C.fail
def hS (base mask:Nat) (d:Option Nat) (l:List DI) (ls:List (Nat×MG)) (pd:List (Nat×Nat×bC)) (S:List Fr) (K:K Prop) (τ:T AV) (r:ay):Prop:=kH C (hM C) (oC C) base (nxt C S K) mask d l ls pd τ r
def wQ (base mask:Nat) (d:Option Nat) (op:jn) (w:Bool) (l:List DI) (ls:List (Nat×MG)) (pd:List (Nat×Nat×bC)) (S:List Fr) (K:K Prop) (τ:T AV) (h:AH) (r:Option AV):Prop:=Ax C (hM C) (oC C) base (nxt C S K) mask d op w l ls pd τ h r
def KF (k:AV ->AH ->Prop) (res:List (Nat×Option (Nat×Bool))):K Prop:=λe τ h=>match e with
 | .exit _=>False
 |_=>kQ k h (eZ τ h res)
end
section
variable {C:aK Prop} (hC:lQ C) {S:List Fr} {K:K Prop} {τ:T AV} {h:AH}
include hC
theorem aA2:df C .skip S K τ h↔gV C .normal S K τ h:=Nn hC
theorem aA3 {i:Nat}:df C (.exit i) S K τ h↔gV C (.exit i) S K τ h:=No hC
theorem aA4:df C .ret S K τ h↔gV C .ret S K τ h:=Np hC
theorem Rk {a b:aw}:df C (.seq a b) S K τ h↔df C a (.s b::S) K τ h:=Nr hC
theorem aA5 {i:Nat} {a:aw}:df C (.block i a) S K τ h↔df C a (.b i::S) K τ h:=Nt hC
theorem qj {a:aw}:df C (.loop a) S K τ h↔df C a (.s (.loop a)::S) K τ h:=uM hC
theorem aA6 {x:MA} {a b:aw}:df C (.cond x a b) S K τ h↔cS C a b S K τ h (az C τ x):=Ou hC
theorem aA7 {l:List MG}:df C (.ops l) S K τ h↔lu C l S K τ h:=Nu hC
theorem aA8 {z:Nat} {l:List DI}:df C (.draw z l) S K τ h↔pj C h.next l [] [] S K τ ⟨h.next+z,h.ver,h.oB⟩:=Nv hC
theorem yN {f:Nat} {args:List AV} {k:AV ->AH ->Prop} {fn:au} (hf:C.ae.get f=some fn):du C f args h k↔df C fn.body [] (KF k fn.res) (oA args 0 .e) h:=ke hC hf
end
section
variable {C:aK Prop} {S:List Fr} {K:K Prop} {τ:T AV} {h:AH}
def aA9 {b}:gV C .normal (.s b::S) K τ h=df C b S K τ h:=rfl
def aB0 {i}:gV C .normal (.b i::S) K τ h=gV C .normal S K τ h:=rfl
def aB1 {j b}:gV C (.exit j) (.s b::S) K τ h=gV C (.exit j) S K τ h:=rfl
def aB2 {j i}:gV C (.exit j) (.b i::S) K τ h=if j=i then gV C .normal S K τ h else gV C (.exit j) S K τ h:=by
 show(bif Nat.beq j i then _ else _)=_;rw[bu,rM];rfl
def aB3 {b}:gV C .ret (.s b::S) K τ h=gV C .ret S K τ h:=rfl
def aB4 {i}:gV C .ret (.b i::S) K τ h=gV C .ret S K τ h:=rfl
def aB5 {k res}:gV C .normal [] (KF k res) τ h=kQ k h (eZ τ h res):=rfl
def aB6 {k res}:gV C .ret [] (KF k res) τ h=kQ k h (eZ τ h res):=rfl
def aB7:lu C [] S K τ h=gV C .normal S K τ h:=rfl
def D9 {d op l}:lu C (⟨d,op,none⟩::l) S K τ h=oS C l S K d τ (step (az C τ) h op):=G6
def aB8 {d op l t w}:lu C (⟨d,op,some (t,w)⟩::l) S K τ h=gS C l S K d op w τ h (τ.get t):=Ot
def IM {l d x}:oS C l S K (some d) τ (.v x h)=lu C l S K (τ.put d x) h:=rfl
def aB9 {l x}:oS C l S K none τ (.v x h)=lu C l S K τ h:=rfl
def aC0 {l d f a}:oS C l S K d τ (.call f a h)=hM C f a h (IJ C l S K d τ):=rfl
def aC1 {l d x}:IJ C l S K (some d) τ x h=lu C l S K (τ.put d x) h:=rfl
def aC2 {l x}:IJ C l S K none τ x h=lu C l S K τ h:=rfl
def aC3 {l d op w x}:gS C l S K (some d) op w τ h (some (.b x))=if x=w then oS C l S K (some d) τ (step (az C τ) h op) else lu C l S K (τ.put d (.tu [])) h:=rfl
def aC4 {l op w x}:gS C l S K none op w τ h (some (.b x))=if x=w then oS C l S K none τ (step (az C τ) h op) else lu C l S K τ h:=rfl
def aC5 {l d op w}:gS C l S K (some d) op w τ h (some (.tu []))=lu C l S K (τ.put d (.tu [])) h:=rfl
def aC6 {l op w}:gS C l S K none op w τ h (some (.tu []))=lu C l S K τ h:=rfl
def aC7 {a b t}:cS C a b S K τ h (.b t)=if t=true then df C a S K τ h else df C b S K τ h:=rfl
def aC8 {base ls pd}:pj C base [] ls pd S K τ h=gV C .normal S K τ h:=rfl
def aC9 {base i g l ls pd}:pj C base (.light i g::l) ls pd S K τ h=lS C base i g l ls pd S K τ h (ez C τ h g):=Ov
def aD0 {base i n g l ls pd}:pj C base (.resv i n g::l) ls pd S K τ h=rS C base i (base+n) g.dst l ls pd S K τ h (step (az C τ) ⟨base+n,h.ver,.e⟩ g.op):=OB
def aD1 {base i l ls pd}:pj C base (.lay i::l) ls pd S K τ h=yS C base l ls pd S K τ h (iC i pd):=OC
def aD2 {base i d op mask l ls pd}:pj C base (.heavy i ⟨d,op,none⟩ mask::l) ls pd S K τ h=hS C base mask d l ls pd S K τ (step (az C τ) h op):=OE
def aD3 {base i d op t w mask l ls pd}:pj C base (.heavy i ⟨d,op,some (t,w)⟩ mask::l) ls pd S K τ h=wQ C base mask d op w l ls pd S K τ h (τ.get t):=OF
def aD4 {base i d op gd l ls pd x}:lS C base i ⟨some d,op,gd⟩ l ls pd S K τ h (some x)=pj C base l ((i,⟨some d,op,gd⟩)::ls) pd S K (τ.put d x) h:=rfl
def aD5 {base i op gd l ls pd x}:lS C base i ⟨none,op,gd⟩ l ls pd S K τ h (some x)=pj C base l ((i,⟨none,op,gd⟩)::ls) pd S K τ h:=rfl
def aD6 {base i id d l ls pd x h'}:rS C base i id d l ls pd S K τ h (.v x h')=Bl C base i id x d l ls pd S K τ h (h'.oB.get id):=rfl
def aD7 {base i id x d l ls pd ob}:Bl C base i id x (some d) l ls pd S K τ h (some ob)=pj C base l ls ((i,id,ob)::pd) S K (τ.put d x) h:=rfl
def aD8 {base i id x l ls pd ob}:Bl C base i id x none l ls pd S K τ h (some ob)=pj C base l ls ((i,id,ob)::pd) S K τ h:=rfl
def aD9 {base l ls pd id ob} {n v:Nat} {t:T bC}:yS C base l ls pd S K τ ⟨n,v,t⟩ (some (id,ob))=pj C base l ls pd S K τ ⟨n,v+1,t.put id ob⟩:=rfl
def aE0 {base mask d l ls pd x}:hS C base mask (some d) l ls pd S K τ (.v x h)=aS C base mask l ls pd S K (τ.put d x) h ls:=rfl
def aE1 {base mask l ls pd x}:hS C base mask none l ls pd S K τ (.v x h)=aS C base mask l ls pd S K τ h ls:=rfl
def aE2 {base mask d l ls pd f a}:hS C base mask d l ls pd S K τ (.call f a h)=hM C f a h (IK C base mask d l ls pd S K τ):=rfl
def aE3 {base mask d l ls pd x}:IK C base mask (some d) l ls pd S K τ x h=aS C base mask l ls pd S K (τ.put d x) h ls:=rfl
def aE4 {base mask l ls pd x}:IK C base mask none l ls pd S K τ x h=aS C base mask l ls pd S K τ h ls:=rfl
def aE5 {base mask d op w l ls pd x}:wQ C base mask (some d) op w l ls pd S K τ h (some (.b x))=if x=w then hS C base mask (some d) l ls pd S K τ (step (az C τ) h op) else aS C base mask l ls pd S K (τ.put d (.tu [])) h ls:=rfl
def aE6 {base mask op w l ls pd x}:wQ C base mask none op w l ls pd S K τ h (some (.b x))=if x=w then hS C base mask none l ls pd S K τ (step (az C τ) h op) else aS C base mask l ls pd S K τ h ls:=rfl
def aE7 {base mask d op w l ls pd}:wQ C base mask (some d) op w l ls pd S K τ h (some (.tu []))=aS C base mask l ls pd S K (τ.put d (.tu [])) h ls:=rfl
def aE8 {base mask op w l ls pd}:wQ C base mask none op w l ls pd S K τ h (some (.tu []))=aS C base mask l ls pd S K τ h ls:=rfl
def aE9 {base mask l ls pd}:aS C base mask l ls pd S K τ h []=pj C base l ls pd S K τ h:=rfl
def aF0 {base mask l ls pd i d op gd ch}:aS C base mask l ls pd S K τ h ((i,⟨some d,op,gd⟩)::ch)=if Nat.testBit mask i=true then aS C base mask l ls pd S K τ h ch else uW C base mask l ls pd S K τ h ch (τ.get d) (ez C τ h ⟨some d,op,gd⟩):=by
 show kA .. =_;rw[OD];split
 ·rfl
 ·unfold Dj uW;cases ez C τ h ⟨some d,op,gd⟩<;>rfl
def aF1 {base mask l ls pd ch x}:uW C base mask l ls pd S K τ h ch (some x) (some x)=if nice 64 x=true then aS C base mask l ls pd S K τ h ch else uW C base mask l ls pd S K τ h ch (some x) (some x):=by
 split
 ·rename_i hn;show(if cZ 64 x x=true then _ else _)=_;rw[aF (NU 64 x hn)]
 ·rfl
def a2F (C:aK Prop) (base mask:Nat) (l:List DI) (ls:List (Nat×MG)) (pd:List (Nat×Nat×bC)) (S:List Fr) (K:AM.K Prop) (τ:T AV) (h:AH) (ch:List (Nat×MG)) (y x:Option AV):Prop:=uW C base mask l ls pd S K τ h ch y x
def aF2 {base mask l ls pd ch x}:uW C base mask l ls pd S K τ h ch (some x) (some x)=if nice 64 x=true then aS C base mask l ls pd S K τ h ch else a2F C base mask l ls pd S K τ h ch (some x) (some x):=aF1
@[congr] def bz9 {l d r r'} (e:r=r'):oS C l S K d τ r=oS C l S K d τ r':=by rw[e]
@[congr] def bA0 {l d op w r r'} (e:r=r'):gS C l S K d op w τ h r=gS C l S K d op w τ h r':=by rw[e]
@[congr] def bA1 {a b r r'} (e:r=r'):cS C a b S K τ h r=cS C a b S K τ h r':=by rw[e]
@[congr] def bA2 {base i g l ls pd r r'} (e:r=r'):lS C base i g l ls pd S K τ h r=lS C base i g l ls pd S K τ h r':=by rw[e]
@[congr] def bA3 {base i id id' d l ls pd r r'} (e0:id=id') (e:r=r'):rS C base i id d l ls pd S K τ h r=rS C base i id' d l ls pd S K τ h r':=by rw[e0,e]
@[congr] def bA4 {base i id x d l ls pd r r'} (e:r=r'):Bl C base i id x d l ls pd S K τ h r=Bl C base i id x d l ls pd S K τ h r':=by rw[e]
@[congr] def bA5 {base l ls pd h' r r'} (e0:h=h') (e:r=r'):yS C base l ls pd S K τ h r=yS C base l ls pd S K τ h' r':=by rw[e0,e]
@[congr] def bA6 {base mask d l ls pd r r'} (e:r=r'):hS C base mask d l ls pd S K τ r=hS C base mask d l ls pd S K τ r':=by rw[e]
@[congr] def bA7 {base mask d op w l ls pd r r'} (e:r=r'):wQ C base mask d op w l ls pd S K τ h r=wQ C base mask d op w l ls pd S K τ h r':=by rw[e]
@[congr] def bA8 {base mask l ls pd ch y y' x x'} (e0:y=y') (e:x=x'):uW C base mask l ls pd S K τ h ch y x=uW C base mask l ls pd S K τ h ch y' x':=by rw[e0,e]
@[congr] def bA9 {k h r r'} (e:r=r'):kQ k h r=kQ k h r':=by rw[e]
@[congr] def bB0 {τ h op w r r'} (e:r=r'):kW C τ h op w r=kW C τ h op w r':=by rw[e]
end
section
def rO:Option (List AV) ->Option AV
 |some [v]=>some v
 |some l=>some (.tu l)
 |none=>none
def rC:Option AV ->Option (List AV) ->Option (List AV)
 |some a,some l=>some (a::l)
 |_,_=>none
def rD (n:Nat) (agg:Bool) (off:Nat):Option (List AV) ->Option AV
 |some c=>(match sub c off n with|some c=>dB agg c|none=>none)
 |none=>none
def rE (n:Nat) (agg:Bool) (h:AH):Option AV ->Option AV
 |some (.p o off)=>rD n agg off (cG (h.oB.get o))
 |_=>none
def aF3 {τ h l}:eZ τ h l=rO (fY τ h l):=rfl
def aF4 {τ h}:fY τ h []=some []:=rfl
def aF5 {τ h t l}:fY τ h ((t,none)::l)=rC (τ.get t) (fY τ h l):=by
 unfold fY;rw[lJ];dsimp only;generalize eM _ l=y;cases τ.get t<;>cases y<;>rfl
def aF6 {τ h t n agg l}:fY τ h ((t,some (n,agg))::l)=rC (rE n agg h (τ.get t)) (fY τ h l):=by
 unfold fY;rw[lJ];dsimp only;generalize eM _ l=y;cases τ.get t with
 |none=>cases y<;>rfl
 |some v=>
  cases v with
  |p o off=>
   have e:cG (h.oB.get o)=h.cells o:=rfl;simp only[rE,e];cases h.cells o with
   |none=>cases y<;>rfl
   |some c=>
    simp only[rD];cases sub c off n with
    |none=>cases y<;>rfl
    |some c=>dsimp only;cases dB agg c<;>cases y<;>rfl
  |_=>cases y<;>rfl
def aF7 {v}:rO (some [v])=some v:=rfl
def aF8 {a b l}:rO (some (a::b::l))=some (.tu (a::b::l)):=rfl
def aF9 {a l}:rC (some a) (some l)=some (a::l):=rfl
def aG0 {n agg h o off}:rE n agg h (some (.p o off))=rD n agg off (cG (h.oB.get o)):=rfl
def rF (agg:Bool):Option (List AV) ->Option AV
 |some c=>dB agg c
 |none=>none
def aG1 {n agg off c}:rD n agg off (some c)=rF agg (sub c off n):=by show(match sub c off n with|some c=>dB agg c|none=>none)=_;cases sub c off n<;>rfl
def aG2 {agg c}:rF agg (some c)=dB agg c:=rfl
def syT:=ap @aF3<|ap @aF4<|ap @aF5<|ap @aF6<|ap @aF7<|ap @aF8<|ap @aF9<|ap @aG0<|ap @aG1 @aG2
end
section
variable {C:aK Prop}
def sA (hC:lQ C):=ap (@aA2 C hC)<|ap (@aA3 C hC)<|ap (@aA4 C hC)<|ap (@Rk C hC)<|ap (@aA5 C hC)<|ap (@aA6 C hC)<|ap (@aA7 C hC) (@aA8 C hC)
def syP:=ap (@aA9 C)<|ap (@aB0 C)<|ap (@aB1 C)<|ap (@aB2 C)<|ap (@aB3 C)<|ap (@aB4 C)<|ap (@aB5 C)<|ap (@aB6 C)<|ap (@aB7 C)<|ap (@D9 C)<|ap (@aB8 C)<|
 ap (@aC1 C)<|ap (@aC2 C)<|ap (@aC8 C)<|ap (@aC9 C)<|ap (@aD0 C)<|ap (@aD1 C)<|ap (@aD2 C)<|ap (@aD3 C)<|ap (@aE3 C)<|ap (@aE4 C)<|ap (@aE9 C)<|ap (@aF0 C)<|
 ap (@oD C)<|ap (@tB C)<|ap (@Oy C) (@Oz C)
def syK:=ap (@IM C)<|ap (@aB9 C)<|ap (@aC0 C)<|ap (@aC3 C)<|ap (@aC4 C)<|ap (@aC5 C)<|ap (@aC6 C)<|ap (@aC7 C)<|ap (@aD4 C)<|ap (@aD5 C)<|ap (@aD6 C)<|ap (@aD7 C)<|ap (@aD8 C)<|ap (@aD9 C)<|
 ap (@aE0 C)<|ap (@aE1 C)<|ap (@aE2 C)<|ap (@aE5 C)<|ap (@aE6 C)<|ap (@aE7 C)<|ap (@aE8 C)<|ap (@aF2 C)<|ap (@Ow C) (@Ox C)
end
def syG:=ap (@T.get_put AV)<|ap (@T.get_put bC)<|ap (@tg) (@lJ)
attribute [go_sem ↓] syP syG
attribute [go_sem] syK syT
end
end AM
namespace AM
open Go
def Sem.bS {P:Program} {X:aR} {GL:T (List AV)} {ae:T au} {C:aK Prop} (E:Sem P X GL ae C) {f:Nat} {args:List AV} {h:AH} {k:AV ->AH ->Prop} {fn:au} (hf:ae.get f=some fn) (r:df C fn.body [] (KF k fn.res) (oA args 0 .e) h):du C f args h k:=(yN E.ok (E.get hf)).2 r
def Sem.cB {P:Program} {X:aR} {GL:T (List AV)} {ae:T au} {C:aK Prop} (E:Sem P X GL ae C) {f:Nat} {args:List AV} {h:AH} {k:AV ->AH ->Prop} {fn:au} (hf:ae.get f=some fn):du C f args h k↔df C fn.body [] (KF k fn.res) (oA args 0 .e) h:=yN E.ok (E.get hf)
section
variable {f p q:Prop}
def yY(h:f)(e:f->p=q:=by have o:=Sem.ok (by assumption:Sem _ _ _ _ _);intro f;simp(disch:=omega) only[f,↓sA o,ji,uf,Nat.reduceEqDiff,Nat.reduceAdd,Nat.reduceMul,Nat.reduceLT,Nat.reduceShiftRight,Nat.reduceAnd,Nat.reduceBneDiff,↓reduceIte,Int.reduceLT,Int.reduceLE,Int.reduceEq,go_sem]<;>exact rfl):p=q:=e h
def zZ(h:f)(e:f->p=q:=by have o:=Sem.ok (by assumption:Sem _ _ _ _ _);intro f;simp(disch:=first|omega|(simp(disch:=omega) only[f,dh,oD,tB,T.get_put,d9,oI,pN,Nat.reduceEqDiff,reduceIte])) only[f,↓sA o,ji,uf,Nat.reduceEqDiff,Nat.reduceAdd,Nat.reduceMul,Nat.reduceLT,Nat.reduceShiftRight,Nat.reduceAnd,Nat.reduceBneDiff,↓reduceIte,Int.reduceLT,Int.reduceLE,Int.reduceEq,go_sem]<;>exact rfl):p=q:=e h
def uU(h:f)(e:f->p:=by intro f;simp(disch:=omega) only[f,dh,oD,tB,T.get_put,d9,oI,pN,Nat.reduceEqDiff,reduceIte,bV,dZ,oA,Nat.reduceAdd,gB,yJ,kE,jY,uf]<;>rfl):p:=e h
def wW(h:f)(k:q)(e:f->q->p:=by intro f k;simp(disch:=omega) only[f,dh,oD,tB,T.get_put,d9,oI,pN,Nat.reduceEqDiff,reduceIte,bV,dZ,oA,Nat.reduceAdd,gB,yJ,kE,jY,uf];exact k):p:=e h k
def Y0(k:q)(e:True->p=q:=by intro f;exact yY @f):p:=(e ⟨⟩).mpr k
def Y1{A:Prop}(a:A)(k:q)(e:A->p=q:=by intro f;exact yY @f):p:=(e a).mpr k
def Y2{A B:Prop}(a:A)(b:B)(k:q)(e:A/\B->p=q:=by intro f;exact yY @f):p:=(e ⟨a,b⟩).mpr k
def Y3{A B C:Prop}(a:A)(b:B)(c:C)(k:q)(e:A/\B/\C->p=q:=by intro f;exact yY @f):p:=(e ⟨a,b,c⟩).mpr k
def Y4{A B C D:Prop}(a:A)(b:B)(c:C)(d:D)(k:q)(e:A/\B/\C/\D->p=q:=by intro f;exact yY @f):p:=(e ⟨a,b,c,d⟩).mpr k
def Y5{A B C D G:Prop}(a:A)(b:B)(c:C)(d:D)(g:G)(k:q)(e:A/\B/\C/\D/\G->p=q:=by intro f;exact yY @f):p:=(e ⟨a,b,c,d,g⟩).mpr k
def Y6{A B C D G H:Prop}(a:A)(b:B)(c:C)(d:D)(g:G)(h:H)(k:q)(e:A/\B/\C/\D/\G/\H->p=q:=by intro f;exact yY @f):p:=(e ⟨a,b,c,d,g,h⟩).mpr k
def Y7{A B C D G H I:Prop}(a:A)(b:B)(c:C)(d:D)(g:G)(h:H)(i:I)(k:q)(e:A/\B/\C/\D/\G/\H/\I->p=q:=by intro f;exact yY @f):p:=(e ⟨a,b,c,d,g,h,i⟩).mpr k
def Y8{A B C D G H I J:Prop}(a:A)(b:B)(c:C)(d:D)(g:G)(h:H)(i:I)(j:J)(k:q)(e:A/\B/\C/\D/\G/\H/\I/\J->p=q:=by intro f;exact yY @f):p:=(e ⟨a,b,c,d,g,h,i,j⟩).mpr k
def Y9{A B C D G H I J L:Prop}(a:A)(b:B)(c:C)(d:D)(g:G)(h:H)(i:I)(j:J)(l:L)(k:q)(e:A/\B/\C/\D/\G/\H/\I/\J/\L->p=q:=by intro f;exact yY @f):p:=(e ⟨a,b,c,d,g,h,i,j,l⟩).mpr k
def nS{A B C D G H I J L M:Prop}(a:A)(b:B)(c:C)(d:D)(g:G)(h:H)(i:I)(j:J)(l:L)(m:M)(k:q)(e:A/\B/\C/\D/\G/\H/\I/\J/\L/\M->p=q:=by intro f;exact yY @f):p:=(e ⟨a,b,c,d,g,h,i,j,l,m⟩).mpr k
def jC{A B C D G H I J L M N:Prop}(a:A)(b:B)(c:C)(d:D)(g:G)(h:H)(i:I)(j:J)(l:L)(m:M)(n:N)(k:q)(e:A/\B/\C/\D/\G/\H/\I/\J/\L/\M/\N->p=q:=by intro f;exact yY @f):p:=(e ⟨a,b,c,d,g,h,i,j,l,m,n⟩).mpr k
def iU{A B C D G H I J L M N O:Prop}(a:A)(b:B)(c:C)(d:D)(g:G)(h:H)(i:I)(j:J)(l:L)(m:M)(n:N)(o:O)(k:q)(e:A/\B/\C/\D/\G/\H/\I/\J/\L/\M/\N/\O->p=q:=by intro f;exact yY @f):p:=(e ⟨a,b,c,d,g,h,i,j,l,m,n,o⟩).mpr k
def pm{A B C D G H I J L M N O R:Prop}(a:A)(b:B)(c:C)(d:D)(g:G)(h:H)(i:I)(j:J)(l:L)(m:M)(n:N)(o:O)(r:R)(k:q)(e:A/\B/\C/\D/\G/\H/\I/\J/\L/\M/\N/\O/\R->p=q:=by intro f;exact yY @f):p:=(e ⟨a,b,c,d,g,h,i,j,l,m,n,o,r⟩).mpr k
def qk{A B C D G H I J L M N O R S:Prop}(a:A)(b:B)(c:C)(d:D)(g:G)(h:H)(i:I)(j:J)(l:L)(m:M)(n:N)(o:O)(r:R)(s:S)(k:q)(e:A/\B/\C/\D/\G/\H/\I/\J/\L/\M/\N/\O/\R/\S->p=q:=by intro f;exact yY @f):p:=(e ⟨a,b,c,d,g,h,i,j,l,m,n,o,r,s⟩).mpr k
def sB{A B C D G H I J L M N O R S T:Prop}(a:A)(b:B)(c:C)(d:D)(g:G)(h:H)(i:I)(j:J)(l:L)(m:M)(n:N)(o:O)(r:R)(s:S)(t:T)(k:q)(e:A/\B/\C/\D/\G/\H/\I/\J/\L/\M/\N/\O/\R/\S/\T->p=q:=by intro f;exact yY @f):p:=(e ⟨a,b,c,d,g,h,i,j,l,m,n,o,r,s,t⟩).mpr k
def pq{A B C D G H I J L M N O R S T U:Prop}(a:A)(b:B)(c:C)(d:D)(g:G)(h:H)(i:I)(j:J)(l:L)(m:M)(n:N)(o:O)(r:R)(s:S)(t:T)(u:U)(k:q)(e:A/\B/\C/\D/\G/\H/\I/\J/\L/\M/\N/\O/\R/\S/\T/\U->p=q:=by intro f;exact yY @f):p:=(e ⟨a,b,c,d,g,h,i,j,l,m,n,o,r,s,t,u⟩).mpr k
def qp{A B C D G H I J L M N O R S T U V:Prop}(a:A)(b:B)(c:C)(d:D)(g:G)(h:H)(i:I)(j:J)(l:L)(m:M)(n:N)(o:O)(r:R)(s:S)(t:T)(u:U)(v:V)(k:q)(e:A/\B/\C/\D/\G/\H/\I/\J/\L/\M/\N/\O/\R/\S/\T/\U/\V->p=q:=by intro f;exact yY @f):p:=(e ⟨a,b,c,d,g,h,i,j,l,m,n,o,r,s,t,u,v⟩).mpr k
def kJ{A B C D G H I J L M N O R S T U V W:Prop}(a:A)(b:B)(c:C)(d:D)(g:G)(h:H)(i:I)(j:J)(l:L)(m:M)(n:N)(o:O)(r:R)(s:S)(t:T)(u:U)(v:V)(w:W)(k:q)(e:A/\B/\C/\D/\G/\H/\I/\J/\L/\M/\N/\O/\R/\S/\T/\U/\V/\W->p=q:=by intro f;exact yY @f):p:=(e ⟨a,b,c,d,g,h,i,j,l,m,n,o,r,s,t,u,v,w⟩).mpr k
def qq{A B C D G H I J L M N O R S T U V W X:Prop}(a:A)(b:B)(c:C)(d:D)(g:G)(h:H)(i:I)(j:J)(l:L)(m:M)(n:N)(o:O)(r:R)(s:S)(t:T)(u:U)(v:V)(w:W)(x:X)(k:q)(e:A/\B/\C/\D/\G/\H/\I/\J/\L/\M/\N/\O/\R/\S/\T/\U/\V/\W/\X->p=q:=by intro f;exact yY @f):p:=(e ⟨a,b,c,d,g,h,i,j,l,m,n,o,r,s,t,u,v,w,x⟩).mpr k
def qr{A B C D G H I J L M N O R S T U V W X Y:Prop}(a:A)(b:B)(c:C)(d:D)(g:G)(h:H)(i:I)(j:J)(l:L)(m:M)(n:N)(o:O)(r:R)(s:S)(t:T)(u:U)(v:V)(w:W)(x:X)(y:Y)(k:q)(e:A/\B/\C/\D/\G/\H/\I/\J/\L/\M/\N/\O/\R/\S/\T/\U/\V/\W/\X/\Y->p=q:=by intro f;exact yY @f):p:=(e ⟨a,b,c,d,g,h,i,j,l,m,n,o,r,s,t,u,v,w,x,y⟩).mpr k
def Bm{A B C D G H I J L M N O R S T U V W X Y Z:Prop}(a:A)(b:B)(c:C)(d:D)(g:G)(h:H)(i:I)(j:J)(l:L)(m:M)(n:N)(o:O)(r:R)(s:S)(t:T)(u:U)(v:V)(w:W)(x:X)(y:Y)(z:Z)(k:q)(e:A/\B/\C/\D/\G/\H/\I/\J/\L/\M/\N/\O/\R/\S/\T/\U/\V/\W/\X/\Y/\Z->p=q:=by intro f;exact yY @f):p:=(e ⟨a,b,c,d,g,h,i,j,l,m,n,o,r,s,t,u,v,w,x,y,z⟩).mpr k
def Y22{A B C D G H I J L M N O R S T U V W X Y Z AA:Prop}(a:A)(b:B)(c:C)(d:D)(g:G)(h:H)(i:I)(j:J)(l:L)(m:M)(n:N)(o:O)(r:R)(s:S)(t:T)(u:U)(v:V)(w:W)(x:X)(y:Y)(z:Z)(aa:AA)(k:q)(e:A/\B/\C/\D/\G/\H/\I/\J/\L/\M/\N/\O/\R/\S/\T/\U/\V/\W/\X/\Y/\Z/\AA->p=q:=by intro f;exact yY @f):p:=(e ⟨a,b,c,d,g,h,i,j,l,m,n,o,r,s,t,u,v,w,x,y,z,aa⟩).mpr k
def Rl{A B C D G H I J L M N O R S T U V W X Y Z AA AB:Prop}(a:A)(b:B)(c:C)(d:D)(g:G)(h:H)(i:I)(j:J)(l:L)(m:M)(n:N)(o:O)(r:R)(s:S)(t:T)(u:U)(v:V)(w:W)(x:X)(y:Y)(z:Z)(aa:AA)(ab:AB)(k:q)(e:A/\B/\C/\D/\G/\H/\I/\J/\L/\M/\N/\O/\R/\S/\T/\U/\V/\W/\X/\Y/\Z/\AA/\AB->p=q:=by intro f;exact yY @f):p:=(e ⟨a,b,c,d,g,h,i,j,l,m,n,o,r,s,t,u,v,w,x,y,z,aa,ab⟩).mpr k
def Rm{A B C D G H I J L M N O R S T U V W X Y Z AA AB AC:Prop}(a:A)(b:B)(c:C)(d:D)(g:G)(h:H)(i:I)(j:J)(l:L)(m:M)(n:N)(o:O)(r:R)(s:S)(t:T)(u:U)(v:V)(w:W)(x:X)(y:Y)(z:Z)(aa:AA)(ab:AB)(ac:AC)(k:q)(e:A/\B/\C/\D/\G/\H/\I/\J/\L/\M/\N/\O/\R/\S/\T/\U/\V/\W/\X/\Y/\Z/\AA/\AB/\AC->p=q:=by intro f;exact yY @f):p:=(e ⟨a,b,c,d,g,h,i,j,l,m,n,o,r,s,t,u,v,w,x,y,z,aa,ab,ac⟩).mpr k
def Z0(k:q)(e:True->p=q:=by intro f;exact zZ @f):p:=(e ⟨⟩).mpr k
def Z1{A:Prop}(a:A)(k:q)(e:A->p=q:=by intro f;exact zZ @f):p:=(e a).mpr k
def Z2{A B:Prop}(a:A)(b:B)(k:q)(e:A/\B->p=q:=by intro f;exact zZ @f):p:=(e ⟨a,b⟩).mpr k
def Z3{A B C:Prop}(a:A)(b:B)(c:C)(k:q)(e:A/\B/\C->p=q:=by intro f;exact zZ @f):p:=(e ⟨a,b,c⟩).mpr k
def Z4{A B C D:Prop}(a:A)(b:B)(c:C)(d:D)(k:q)(e:A/\B/\C/\D->p=q:=by intro f;exact zZ @f):p:=(e ⟨a,b,c,d⟩).mpr k
def Z5{A B C D G:Prop}(a:A)(b:B)(c:C)(d:D)(g:G)(k:q)(e:A/\B/\C/\D/\G->p=q:=by intro f;exact zZ @f):p:=(e ⟨a,b,c,d,g⟩).mpr k
def Z6{A B C D G H:Prop}(a:A)(b:B)(c:C)(d:D)(g:G)(h:H)(k:q)(e:A/\B/\C/\D/\G/\H->p=q:=by intro f;exact zZ @f):p:=(e ⟨a,b,c,d,g,h⟩).mpr k
def Z7{A B C D G H I:Prop}(a:A)(b:B)(c:C)(d:D)(g:G)(h:H)(i:I)(k:q)(e:A/\B/\C/\D/\G/\H/\I->p=q:=by intro f;exact zZ @f):p:=(e ⟨a,b,c,d,g,h,i⟩).mpr k
def Z8{A B C D G H I J:Prop}(a:A)(b:B)(c:C)(d:D)(g:G)(h:H)(i:I)(j:J)(k:q)(e:A/\B/\C/\D/\G/\H/\I/\J->p=q:=by intro f;exact zZ @f):p:=(e ⟨a,b,c,d,g,h,i,j⟩).mpr k
def Z9{A B C D G H I J L:Prop}(a:A)(b:B)(c:C)(d:D)(g:G)(h:H)(i:I)(j:J)(l:L)(k:q)(e:A/\B/\C/\D/\G/\H/\I/\J/\L->p=q:=by intro f;exact zZ @f):p:=(e ⟨a,b,c,d,g,h,i,j,l⟩).mpr k
def qX{A B C D G H I J L M:Prop}(a:A)(b:B)(c:C)(d:D)(g:G)(h:H)(i:I)(j:J)(l:L)(m:M)(k:q)(e:A/\B/\C/\D/\G/\H/\I/\J/\L/\M->p=q:=by intro f;exact zZ @f):p:=(e ⟨a,b,c,d,g,h,i,j,l,m⟩).mpr k
def sC{A B C D G H I J L M N:Prop}(a:A)(b:B)(c:C)(d:D)(g:G)(h:H)(i:I)(j:J)(l:L)(m:M)(n:N)(k:q)(e:A/\B/\C/\D/\G/\H/\I/\J/\L/\M/\N->p=q:=by intro f;exact zZ @f):p:=(e ⟨a,b,c,d,g,h,i,j,l,m,n⟩).mpr k
def lX{A B C D G H I J L M N O:Prop}(a:A)(b:B)(c:C)(d:D)(g:G)(h:H)(i:I)(j:J)(l:L)(m:M)(n:N)(o:O)(k:q)(e:A/\B/\C/\D/\G/\H/\I/\J/\L/\M/\N/\O->p=q:=by intro f;exact zZ @f):p:=(e ⟨a,b,c,d,g,h,i,j,l,m,n,o⟩).mpr k
def qt{A B C D G H I J L M N O R:Prop}(a:A)(b:B)(c:C)(d:D)(g:G)(h:H)(i:I)(j:J)(l:L)(m:M)(n:N)(o:O)(r:R)(k:q)(e:A/\B/\C/\D/\G/\H/\I/\J/\L/\M/\N/\O/\R->p=q:=by intro f;exact zZ @f):p:=(e ⟨a,b,c,d,g,h,i,j,l,m,n,o,r⟩).mpr k
def wR{A B C D G H I J L M N O R S:Prop}(a:A)(b:B)(c:C)(d:D)(g:G)(h:H)(i:I)(j:J)(l:L)(m:M)(n:N)(o:O)(r:R)(s:S)(k:q)(e:A/\B/\C/\D/\G/\H/\I/\J/\L/\M/\N/\O/\R/\S->p=q:=by intro f;exact zZ @f):p:=(e ⟨a,b,c,d,g,h,i,j,l,m,n,o,r,s⟩).mpr k
def uX{A B C D G H I J L M N O R S T:Prop}(a:A)(b:B)(c:C)(d:D)(g:G)(h:H)(i:I)(j:J)(l:L)(m:M)(n:N)(o:O)(r:R)(s:S)(t:T)(k:q)(e:A/\B/\C/\D/\G/\H/\I/\J/\L/\M/\N/\O/\R/\S/\T->p=q:=by intro f;exact zZ @f):p:=(e ⟨a,b,c,d,g,h,i,j,l,m,n,o,r,s,t⟩).mpr k
def sD{A B C D G H I J L M N O R S T U:Prop}(a:A)(b:B)(c:C)(d:D)(g:G)(h:H)(i:I)(j:J)(l:L)(m:M)(n:N)(o:O)(r:R)(s:S)(t:T)(u:U)(k:q)(e:A/\B/\C/\D/\G/\H/\I/\J/\L/\M/\N/\O/\R/\S/\T/\U->p=q:=by intro f;exact zZ @f):p:=(e ⟨a,b,c,d,g,h,i,j,l,m,n,o,r,s,t,u⟩).mpr k
def yO{A B C D G H I J L M N O R S T U V:Prop}(a:A)(b:B)(c:C)(d:D)(g:G)(h:H)(i:I)(j:J)(l:L)(m:M)(n:N)(o:O)(r:R)(s:S)(t:T)(u:U)(v:V)(k:q)(e:A/\B/\C/\D/\G/\H/\I/\J/\L/\M/\N/\O/\R/\S/\T/\U/\V->p=q:=by intro f;exact zZ @f):p:=(e ⟨a,b,c,d,g,h,i,j,l,m,n,o,r,s,t,u,v⟩).mpr k
def wS{A B C D G H I J L M N O R S T U V W:Prop}(a:A)(b:B)(c:C)(d:D)(g:G)(h:H)(i:I)(j:J)(l:L)(m:M)(n:N)(o:O)(r:R)(s:S)(t:T)(u:U)(v:V)(w:W)(k:q)(e:A/\B/\C/\D/\G/\H/\I/\J/\L/\M/\N/\O/\R/\S/\T/\U/\V/\W->p=q:=by intro f;exact zZ @f):p:=(e ⟨a,b,c,d,g,h,i,j,l,m,n,o,r,s,t,u,v,w⟩).mpr k
def IN{A B C D G H I J L M N O R S T U V W X:Prop}(a:A)(b:B)(c:C)(d:D)(g:G)(h:H)(i:I)(j:J)(l:L)(m:M)(n:N)(o:O)(r:R)(s:S)(t:T)(u:U)(v:V)(w:W)(x:X)(k:q)(e:A/\B/\C/\D/\G/\H/\I/\J/\L/\M/\N/\O/\R/\S/\T/\U/\V/\W/\X->p=q:=by intro f;exact zZ @f):p:=(e ⟨a,b,c,d,g,h,i,j,l,m,n,o,r,s,t,u,v,w,x⟩).mpr k
def Bn{A B C D G H I J L M N O R S T U V W X Y:Prop}(a:A)(b:B)(c:C)(d:D)(g:G)(h:H)(i:I)(j:J)(l:L)(m:M)(n:N)(o:O)(r:R)(s:S)(t:T)(u:U)(v:V)(w:W)(x:X)(y:Y)(k:q)(e:A/\B/\C/\D/\G/\H/\I/\J/\L/\M/\N/\O/\R/\S/\T/\U/\V/\W/\X/\Y->p=q:=by intro f;exact zZ @f):p:=(e ⟨a,b,c,d,g,h,i,j,l,m,n,o,r,s,t,u,v,w,x,y⟩).mpr k
def IP{A B C D G H I J L M N O R S T U V W X Y Z AA:Prop}(a:A)(b:B)(c:C)(d:D)(g:G)(h:H)(i:I)(j:J)(l:L)(m:M)(n:N)(o:O)(r:R)(s:S)(t:T)(u:U)(v:V)(w:W)(x:X)(y:Y)(z:Z)(aa:AA)(k:q)(e:A/\B/\C/\D/\G/\H/\I/\J/\L/\M/\N/\O/\R/\S/\T/\U/\V/\W/\X/\Y/\Z/\AA->p=q:=by intro f;exact zZ @f):p:=(e ⟨a,b,c,d,g,h,i,j,l,m,n,o,r,s,t,u,v,w,x,y,z,aa⟩).mpr k
def Rn{A B C D G H I J L M N O R S T U V W X Y Z AA AB:Prop}(a:A)(b:B)(c:C)(d:D)(g:G)(h:H)(i:I)(j:J)(l:L)(m:M)(n:N)(o:O)(r:R)(s:S)(t:T)(u:U)(v:V)(w:W)(x:X)(y:Y)(z:Z)(aa:AA)(ab:AB)(k:q)(e:A/\B/\C/\D/\G/\H/\I/\J/\L/\M/\N/\O/\R/\S/\T/\U/\V/\W/\X/\Y/\Z/\AA/\AB->p=q:=by intro f;exact zZ @f):p:=(e ⟨a,b,c,d,g,h,i,j,l,m,n,o,r,s,t,u,v,w,x,y,z,aa,ab⟩).mpr k
def Ea{A B C D G H I J L M N O R S T U V W X Y Z AA AB AC:Prop}(a:A)(b:B)(c:C)(d:D)(g:G)(h:H)(i:I)(j:J)(l:L)(m:M)(n:N)(o:O)(r:R)(s:S)(t:T)(u:U)(v:V)(w:W)(x:X)(y:Y)(z:Z)(aa:AA)(ab:AB)(ac:AC)(k:q)(e:A/\B/\C/\D/\G/\H/\I/\J/\L/\M/\N/\O/\R/\S/\T/\U/\V/\W/\X/\Y/\Z/\AA/\AB/\AC->p=q:=by intro f;exact zZ @f):p:=(e ⟨a,b,c,d,g,h,i,j,l,m,n,o,r,s,t,u,v,w,x,y,z,aa,ab,ac⟩).mpr k
def Eb{A B C D G H I J L M N O R S T U V W X Y Z AA AB AC AD AG:Prop}(a:A)(b:B)(c:C)(d:D)(g:G)(h:H)(i:I)(j:J)(l:L)(m:M)(n:N)(o:O)(r:R)(s:S)(t:T)(u:U)(v:V)(w:W)(x:X)(y:Y)(z:Z)(aa:AA)(ab:AB)(ac:AC)(ad:AD)(ag:AG)(k:q)(e:A/\B/\C/\D/\G/\H/\I/\J/\L/\M/\N/\O/\R/\S/\T/\U/\V/\W/\X/\Y/\Z/\AA/\AB/\AC/\AD/\AG->p=q:=by intro f;exact zZ @f):p:=(e ⟨a,b,c,d,g,h,i,j,l,m,n,o,r,s,t,u,v,w,x,y,z,aa,ab,ac,ad,ag⟩).mpr k
def Ro{A B C D G H I J L M N O R S T U V W X Y Z AA AB AC AD AG AH:Prop}(a:A)(b:B)(c:C)(d:D)(g:G)(h:H)(i:I)(j:J)(l:L)(m:M)(n:N)(o:O)(r:R)(s:S)(t:T)(u:U)(v:V)(w:W)(x:X)(y:Y)(z:Z)(aa:AA)(ab:AB)(ac:AC)(ad:AD)(ag:AG)(ah:AH)(k:q)(e:A/\B/\C/\D/\G/\H/\I/\J/\L/\M/\N/\O/\R/\S/\T/\U/\V/\W/\X/\Y/\Z/\AA/\AB/\AC/\AD/\AG/\AH->p=q:=by intro f;exact zZ @f):p:=(e ⟨a,b,c,d,g,h,i,j,l,m,n,o,r,s,t,u,v,w,x,y,z,aa,ab,ac,ad,ag,ah⟩).mpr k
def Ec{A B C D G H I J L M N O R S T U V W X Y Z AA AB AC AD AG AH AI:Prop}(a:A)(b:B)(c:C)(d:D)(g:G)(h:H)(i:I)(j:J)(l:L)(m:M)(n:N)(o:O)(r:R)(s:S)(t:T)(u:U)(v:V)(w:W)(x:X)(y:Y)(z:Z)(aa:AA)(ab:AB)(ac:AC)(ad:AD)(ag:AG)(ah:AH)(ai:AI)(k:q)(e:A/\B/\C/\D/\G/\H/\I/\J/\L/\M/\N/\O/\R/\S/\T/\U/\V/\W/\X/\Y/\Z/\AA/\AB/\AC/\AD/\AG/\AH/\AI->p=q:=by intro f;exact zZ @f):p:=(e ⟨a,b,c,d,g,h,i,j,l,m,n,o,r,s,t,u,v,w,x,y,z,aa,ab,ac,ad,ag,ah,ai⟩).mpr k
def Z29{A B C D G H I J L M N O R S T U V W X Y Z AA AB AC AD AG AH AI AJ:Prop}(a:A)(b:B)(c:C)(d:D)(g:G)(h:H)(i:I)(j:J)(l:L)(m:M)(n:N)(o:O)(r:R)(s:S)(t:T)(u:U)(v:V)(w:W)(x:X)(y:Y)(z:Z)(aa:AA)(ab:AB)(ac:AC)(ad:AD)(ag:AG)(ah:AH)(ai:AI)(aj:AJ)(k:q)(e:A/\B/\C/\D/\G/\H/\I/\J/\L/\M/\N/\O/\R/\S/\T/\U/\V/\W/\X/\Y/\Z/\AA/\AB/\AC/\AD/\AG/\AH/\AI/\AJ->p=q:=by intro f;exact zZ @f):p:=(e ⟨a,b,c,d,g,h,i,j,l,m,n,o,r,s,t,u,v,w,x,y,z,aa,ab,ac,ad,ag,ah,ai,aj⟩).mpr k
def U0(e:True->p:=by intro f;exact uU @f):p:=e ⟨⟩
def U1{A:Prop}(a:A)(e:A->p:=by intro f;exact uU @f):p:=e a
def U2{A B:Prop}(a:A)(b:B)(e:A/\B->p:=by intro f;exact uU @f):p:=e ⟨a,b⟩
def U3{A B C:Prop}(a:A)(b:B)(c:C)(e:A/\B/\C->p:=by intro f;exact uU @f):p:=e ⟨a,b,c⟩
def U4{A B C D:Prop}(a:A)(b:B)(c:C)(d:D)(e:A/\B/\C/\D->p:=by intro f;exact uU @f):p:=e ⟨a,b,c,d⟩
def U5{A B C D G:Prop}(a:A)(b:B)(c:C)(d:D)(g:G)(e:A/\B/\C/\D/\G->p:=by intro f;exact uU @f):p:=e ⟨a,b,c,d,g⟩
def U6{A B C D G H:Prop}(a:A)(b:B)(c:C)(d:D)(g:G)(h:H)(e:A/\B/\C/\D/\G/\H->p:=by intro f;exact uU @f):p:=e ⟨a,b,c,d,g,h⟩
def U7{A B C D G H I:Prop}(a:A)(b:B)(c:C)(d:D)(g:G)(h:H)(i:I)(e:A/\B/\C/\D/\G/\H/\I->p:=by intro f;exact uU @f):p:=e ⟨a,b,c,d,g,h,i⟩
def Bo{A B C D G H I J L M:Prop}(a:A)(b:B)(c:C)(d:D)(g:G)(h:H)(i:I)(j:J)(l:L)(m:M)(e:A/\B/\C/\D/\G/\H/\I/\J/\L/\M->p:=by intro f;exact uU @f):p:=e ⟨a,b,c,d,g,h,i,j,l,m⟩
def U11{A B C D G H I J L M N:Prop}(a:A)(b:B)(c:C)(d:D)(g:G)(h:H)(i:I)(j:J)(l:L)(m:M)(n:N)(e:A/\B/\C/\D/\G/\H/\I/\J/\L/\M/\N->p:=by intro f;exact uU @f):p:=e ⟨a,b,c,d,g,h,i,j,l,m,n⟩
def W0(k:q)(e:True->q->p:=by intro f k;exact wW @f k):p:=e ⟨⟩ k
end
end AM
namespace AM
open Dg Go
noncomputable section
variable {P:Program} {X:aR} {GL:T (List AV)} {ae:T au}
def Ed (a b:Br):eH 6 (.ag [(0,1,false,(.lf .i)),(1,1,false,(.lf .i)),(2,1,false,(.lf .i))]) (.ag [ι (a.1:Int),ι (a.2.1:Int),ι (a.2.2:Int)]) (.ag [ι (b.1:Int),ι (b.2.1:Int),ι (b.2.2:Int)])=some (decide (a=b)):=yG.eq a b
def IQ {B:List Br}:(dK B).length=B.length*3:=DZ B
def gN.cG {g:Nat ->Option bC} {o:Nat} {B:List Br} {a:AV} (n:gN g o B a) (hb:B≠[]):cG (g o)=some (dK B)/\ a= .sl o 0 B.length none 3:=by
 rcases n with ⟨h,_⟩|⟨_,h1,v,h2⟩
 ·exact bh h hb
 ·rw[h2];exact⟨rfl,h1⟩
def gN.of {g:Nat ->Option bC} {o:Nat} {B:List Br} (hb:B≠[]) (h:AM.cG (g o)=some (dK B)):gN g o B (.sl o 0 B.length none 3):=by
 refine .inr ⟨hb,rfl,?_⟩;generalize g o=x at h
 match x with
 |some (.cells v l)=>exact⟨v,by rw[d9] at h;cases h;rfl⟩
 |none=>cases h
 |some (.map _ _ _)=>cases h
 |some .gone=>cases h
variable (S:aT P X GL ae) {C:aK Prop} (E:Sem P X GL ae C)
def aG3 {o n:Nat} {B:List Br} {b:Br} {h:AH} (hB:cG (h.oB.get o)=some (dK B)) (hb:cG (h.oB.get n)=some [ι (b.1:Int),ι (b.2.1:Int),ι (b.2.2:Int)]) (eQ:B.length+1<=1000000) (S₀:List Fr) (K:K Prop)
 (found:∀(j:Nat) τ,B[j]? =some b ->τ.get 4=some (.sl o 0 B.length none 3) ->τ.get 5=some (ι ((j+2:Nat):Int)) ->gV C .ret S₀ K τ h)
 (nope:∀τ,(∀j:Nat,B[j]?≠some b) ->τ.get 0=some (.sl o 0 B.length none 3) ->τ.get 3=some (.p n 0) ->gV C (.exit 0) S₀ K τ h):
 ∀(d i:Nat),i+d=B.length ->(∀j:Nat,j<i ->B[j]?≠some b) ->∀τ:T AV,τ.get 0=some (.sl o 0 B.length none 3) ->τ.get 3=some (.p n 0) ->τ.get 6=some (ι (i:Int)) ->df C (.loop QY) S₀ K τ h:=by
 intro d;obtain⟨n1,ver,ob⟩:=h;dsimp only at hB hb;induction d with
 |zero=>
  intro i hi hno τ t0 t3 t6;have hi':((i:Int)<(B.length:Int))=False:=av;rw[qj E.ok];refine Y5 t0 t3 t6 hi' @bI ?_;refine nope _ (λj=> ?_) (U1 t0) (U1 t3)
  ·by_cases hj:j<i
   ·exact hno j hj
   ·rw[rI ω];simp
 |succ d ih=>
  intro i hi hno τ t0 t3 t6;have hi':((i:Int)<(B.length:Int))=True:=cJ;have aV:i<B.length:=by omega
  have hbi:B[i]? =some B[i]:=cE aV;have e4:sub (dK B) (i*3) 3=some [ι (B[i].1:Int),ι (B[i].2.1:Int),ι (B[i].2.2:Int)]:=by have:=nQ hbi 0 3 ω;simpa[gH] using this
  rw[qj E.ok];by_cases e:B[i]=b
  ·have ad:aY .add (ι (i:Int)) (ι 2)=some (ι ((i+2:Nat):Int)):=oH (b:=2) ω;refine lX t0 t3 t6 hi' hB hb e4 @Ed e aV ad @bI ?_;refine found i _ (by rw[hbi,e]) ?_ ?_<;>exact U0
  ·refine lX t0 t3 t6 hi' hB hb e4 @Ed e aV @bK @bI ?_;refine ih (i+1) ω (λj hj=> ?_) _ ?_ ?_ ?_
   ·by_cases hj2:j<i
    ·exact hno j hj2
    ·have:j=i:=by omega
     subst this;rw[hbi];simpa using e
   all_goals exact U2 t0 t3
def IR {v l hh:Nat} {B:List Br}:dK B++[ι (v:Int),ι (l:Int),ι (hh:Int)]=dK (B++[(v,l,hh)]):=by rw[Ix];rfl
def aG4 (F:eL ae) {o:Nat} {B:List Br} {a:AV} {h:AH} (na:gN h.oB.get o B a) (ho:B≠[] ->o<h.next) {v l hh:Nat} (eQ:B.length+1<=100000) (k:AV ->AH ->Prop)
 (hk:∀r B' o' a' h',gN h'.oB.get o' B' a' ->h.next<=h'.next ->(∀j,j<h.next ->(B≠[] ->j≠o) ->h'.oB.get j=h.oB.get j) ->(B'≠[] ->(B≠[]/\ o'=o)∨h.next<=o') ->(B'≠[] ->o'<h'.next) ->
  (l=hh/\ r=l/\ B'=B)∨(l≠hh/\∃i:Nat,r=i+2/\ B'[i]? =some (v,l,hh)/\ (B'=B∨(B'=B++[(v,l,hh)]/\∀j:Nat,B[j]?≠some (v,l,hh)))) ->k (.tu [a',ι (r:Int)]) h'):
 du C 564 [a,.ag [ι (v:Int),ι (l:Int),ι (hh:Int)]] h k:=by
 obtain⟨n,ver,ob⟩:=h;have bT:B≠[] ->o<n:=ho;rw[E.cB F.f564];by_cases e:l=hh
 ·have e':((l:Int)=(hh:Int))=True:=cJ;have sa:nice 64 a=true:=by rcases na with ⟨_,rfl⟩|⟨_,rfl,_⟩<;>rfl
  refine Y4 @DX.eq_1 e' sa @bI ?_;refine hk l B o a _ ?_ (by show n<=n+1;omega) (λj hj _=> ?_) (λhb=> .inl ⟨hb,rfl⟩) (λhb=>by have:=bT hb;show o<n+1;omega) (.inl ⟨e,rfl,rfl⟩)
  ·refine na.mono λhb=> ?_;have:=bT hb;exact U0
  ·have bF:j<n:=hj;exact U0
 ·have e':((l:Int)=(hh:Int))=False:=av;by_cases hB:B=[]
  ·subst hB;have ha:a= .sn:=by
    rcases na with ⟨_,h⟩|⟨h,_⟩;·exact h
    ·exact bh rfl h
   subst ha;have sl:∀(τ:T AV) x h,az C τ x= .sn ->step (az C τ) h (.len .slice x)= .v (ι 0) h:=λτ x h e=>by rw[yd,e]
   have zz:((0:Int)<0)=False:=av;refine Y3 @DX.eq_1 e' @bI ?_;rw[qj E.ok];refine Z6 @iP e' zz sl @bK @bI ?_;refine hk 2 [(v,l,hh)] (n+1+1) _ _ (gN.of (B:=[(v,l,hh)]) (by simp) U0) (by show n<=n+1+1+1;omega) (λj hj _=> ?_) (λ_=> .inr (by show n<=n+1+1;omega)) (λ_=>by show n+1+1<n+1+1+1;omega) (.inr ⟨e,0,rfl,rfl,.inr ⟨rfl,λj=>by simp⟩⟩)
   ·have bF:j<n:=hj;exact U0
  ·obtain⟨hc,ha⟩:=na.cG hB;have hon:=bT hB;subst ha;dsimp only at hc;refine Y3 @DX.eq_1 e' @bI ?_;refine aG3 E (b:=(v,l,hh)) (n:=n) (o:=o) (B:=B) ?_ ?_ ω _ _ ?_ ?_ B.length 0 ω (λj hj=>by omega) _ ?_ ?_ ?_
   ·exact U1 hc
   ·exact U0
   ·intro j τ hj t4 t5;refine Y3 t4 t5 @bI ?_;refine hk (j+2) B o _ _ (gN.of hB (U1 hc)) (by show n<=n+1;omega) (λi hi hio=> ?_) (λhb=> .inl ⟨hb,rfl⟩) (λhb=>by show o<n+1;omega) (.inr ⟨e,j,rfl,hj,.inl rfl⟩)
    ·have hi':i<n:=hi;exact U0
   ·intro τ hno t0 t3;have hB1:B.length+1<=1048576:=by omega
    refine Z8 @iP t0 t3 hc hB1 @bK @IQ @bI ?_;have hl:B.length+1=(B++[(v,l,hh)]).length:=by simp
    rw[show AV.sl (n+1+1) 0 (B.length+1) none 3= .sl (n+1+1) 0 (B++[(v,l,hh)]).length none 3 by rw[hl]];refine hk (B.length+1+1) (B++[(v,l,hh)]) (n+1+1) _ _ (gN.of (by simp) (U1 @IR)) (by show n<=n+1+1+1;omega) (λj hj hjo=> ?_) (λ_=> .inr (by show n<=n+1+1;omega)) (λ_=>by show n+1+1<n+1+1+1;omega) (.inr ⟨e,B.length,rfl,by simp,.inr ⟨rfl,hno⟩⟩)
    ·have bF:j<n:=hj;have hjo':=hjo hB;exact U0
   all_goals exact U0
def oJ:Nat ->Bool ->Bool ->Bool
 |0=>λx y=>x&&y
 |1=>λx y=>x||y
 |_=>λx y=>x !=y
def bN (b:Bool):Nat:=if b then 1 else 0
def aG5 (F:eL ae) {p op:Nat} (hop:op<3) {A:List AV} {a0 a1 a2 a3 a5 a6:AV} {h:AH} (hc:cG (h.oB.get p)=some [a0,a1,a2,a3,ι (op:Int),a5,a6]) (x y:Bool) (k:AV ->AH ->Prop)
 (hk:k (ι (bN (oJ op x y):Int)) h):du C 561 [.p p 0,ι (bN x:Int),ι (bN y:Int)] h k:=by
 obtain⟨n,ver,ob⟩:=h;dsimp only at hc;have m00:aY .mul (ι 0) (ι 0)=some (ι 0):=rfl;have m01:aY .mul (ι 0) (ι 1)=some (ι 0):=rfl;have m10:aY .mul (ι 1) (ι 0)=some (ι 0):=rfl;have m11:aY .mul (ι 1) (ι 1)=some (ι 1):=rfl;have a00:aY .add (ι 0) (ι 0)=some (ι 0):=rfl;have a01:aY .add (ι 0) (ι 1)=some (ι 1):=rfl;have a10:aY .add (ι 1) (ι 0)=some (ι 1):=rfl;have a11:aY .add (ι 1) (ι 1)=some (ι 2):=rfl;have r0:aY .rem (ι 0) (ι 2)=some (ι 0):=rfl;have r1:aY .rem (ι 1) (ι 2)=some (ι 1):=rfl;have r2:aY .rem (ι 2) (ι 2)=some (ι 0):=rfl;have i1:((1:Int)=0)=False:=av;have i2:((2:Int)=0)=False:=av;have i3:((2:Int)=1)=False:=av;have i4:((0:Int)=1)=False:=av;have c1:((1:Nat):Int)=1:=rfl;have c2:((2:Nat):Int)=2:=rfl;rw[E.cB F.f561];have:op=0∨op=1∨op=2:=by omega
 rcases this with rfl|rfl|rfl<;>cases x<;>cases y<;>
  (
   simp only[bN,oJ,nr,bV,dZ,g9,FK,pP,Bool.or_self,Bool.or_true,Bool.true_or,bne_self_eq_false] at hk ⊢;refine Bm @jP @QW.eq_1 hc c1 c2 m00 m01 m10 m11 a00 a01 a10 a11 r0 r1 r2 i1 i2 i3 i4 @bI ?_;exact hk)
def aG6 {C:aK Prop} (E:Sem P X GL ae C) {p q x y:Nat} {S:List Br} {a0 a1 a2 a3 a4 a5:AV} {h:AH} (hc:cG (h.oB.get p)=some [a0,a1,a2,a3,a4,a5,.sl q 0 S.length none 3]) (hq:cG (h.oB.get q)=some (dK S)) (eQ:S.length+1<=1000000) (S₀:List Fr) (K:K Prop)
 (found:∀(j r:Nat) τ,S[j]? =some (x,y,r) ->τ.get 6=some (ι (r:Int)) ->gV C .ret S₀ K τ h)
 (nope:∀τ,τ.get 0=some (.p p 0) ->τ.get 1=some (ι (x:Int)) ->τ.get 2=some (ι (y:Int)) ->gV C (.exit 0) S₀ K τ h):
 ∀(d i:Nat),i+d=S.length ->∀τ:T AV,τ.get 0=some (.p p 0) ->τ.get 1=some (ι (x:Int)) ->τ.get 2=some (ι (y:Int)) ->τ.get 7=some (ι (i:Int)) ->df C (.loop QV) S₀ K τ h:=by
 intro d;obtain⟨n1,ver,ob⟩:=h;dsimp only at hc hq;induction d with
 |zero=>
  intro i hi τ t0 t1 t2 t7;have hi':((i:Int)<(S.length:Int))=False:=av;rw[qj E.ok];refine Y7 t0 t1 t2 t7 hc hi' @bI ?_;refine nope _ ?_ ?_ ?_<;>exact U3 t0 t1 t2
 |succ d ih=>
  intro i hi τ t0 t1 t2 t7;have hi':((i:Int)<(S.length:Int))=True:=cJ;have aV:i<S.length:=by omega
  have hbi:S[i]? =some S[i]:=cE aV;have e0:sub (dK S) (i*3) 1=some [ι (S[i].1:Int)]:=by have:=nQ hbi 0 1 ω;simpa[gH] using this
  have e1:sub (dK S) (i*3+1) 1=some [ι (S[i].2.1:Int)]:=by have:=nQ hbi 1 1 ω;simpa[gH] using this
  have e2:sub (dK S) (i*3+2) 1=some [ι (S[i].2.2:Int)]:=by have:=nQ hbi 2 1 ω;simpa[gH] using this
  have l3:(0<3)=True:=cJ;have l31:(1<3)=True:=cJ;have l32:(2<3)=True:=cJ;rw[qj E.ok];by_cases ex:S[i].1=x
  ·by_cases ey:S[i].2.1=y
   ·have ex':((S[i].1:Int)=(x:Int))=True:=cJ;have ey':((S[i].2.1:Int)=(y:Int))=True:=cJ;refine yO t0 t1 t2 t7 hi' hc hq e0 e1 e2 ex' ey' aV l3 l31 l32 @bI ?_;refine found i S[i].2.2 _ (by rw[hbi,←ex,←ey]) ?_;exact U0
   ·have ex':((S[i].1:Int)=(x:Int))=True:=cJ;have ey':((S[i].2.1:Int)=(y:Int))=False:=av;refine wS @bK t0 t1 t2 t7 hi' hc hq e0 e1 e2 ex' ey' aV l3 l31 l32 @bI ?_;refine ih (i+1) ω _ ?_ ?_ ?_ ?_<;>exact U3 t0 t1 t2
  ·have ex':((S[i].1:Int)=(x:Int))=False:=av;refine yO @bK t0 t1 t2 t7 hi' hc hq e0 e1 e2 ex' aV l3 l31 l32 @bI ?_;refine ih (i+1) ω _ ?_ ?_ ?_ ?_<;>exact U3 t0 t1 t2
structure AS (NA NB:List Br) (ra rb op p:Nat) (B:List Br) (o:Nat) (Sn:List Br) (q:Nat) (h:AH):Prop where
 c:∃a s,cG (h.oB.get p)=some [cu NA,ι (ra:Int),cu NB,ι (rb:Int),ι (op:Int),a,s]/\ gN h.oB.get o B a/\ gN h.oB.get q Sn s
 lp:p<h.next
 lo:B≠[] ->p<o/\ o<h.next
 lq:Sn≠[] ->p<q/\ q<h.next
 oq:B≠[] ->Sn≠[] ->o≠q
def IS (g:Bool ->Bool ->Bool) (NA NB B Sn:List Br):Prop:=∀x y r:Nat,(x,y,r)∈Sn ->In NA x ->In NB y ->nR g NA NB B x y r
def Rp {B:List Br} {n:Nat} (ok:OK B) (h:In B n):(n<2/\ pl B n=64/\ bR B n=3)∨(¬n<2/\ pl B n=bR B n/\ bR B n<3):=by
 rcases h.cases with h1|⟨i,b,rfl,hb⟩
 ·exact .inl ⟨h1,by simp[pl,h1],oG h1⟩
 ·refine .inr ⟨by omega,by simp[pl,show¬(i+2<2) by omega],?_⟩;rw[gy hb];exact ok.v _ _ hb
def aG7 {g:Bool ->Bool ->Bool} {NA NB B:List Br} (x y:Bool):nR g NA NB B (bN x) (bN y) (bN (g x y)):=by
 have b2:∀b,bN b<2:=by intro b;cases b<;>simp[bN]
 refine⟨In.small (b2 _),λk h1 h2 h3=> ?_⟩;rw[oG (b2 _)];refine⟨by omega,?_⟩;have key:∀(j:Nat) (B':List Br) (z:Nat),z<2 ->tr B' (j+1) z= .n (tr B' j z) (tr B' j z):=λj B' z hz=>by simp only[tr];rw[tF hz,tG hz]
 clear h1 h2 h3;induction k with
 |zero=>
  have e:∀b,(bN b==1)=b:=by intro b;cases b<;>rfl
  simp only[tr,cY,e]
 |succ j ih=>rw[key j B _ (b2 _),key j NA _ (b2 _),key j NB _ (b2 _),ih];rfl
def Rq {x:Nat} (h:x<2):∃b,x=bN b:=by
 rcases(show x=0∨x=1 by omega) with rfl|rfl
 ·exact⟨false,rfl⟩
 ·exact⟨true,rfl⟩
def aG8 {C:aK Prop} (S:aT P X GL ae) (E:Sem P X GL ae C) (F:eL ae) {NA NB:List Br} {ra rb op p:Nat} (hop:op<3) (ax:OK NA) (okB:OK NB) (la:NA.length<=4096) (lb:NB.length<=4096):
 ∀(d x y:Nat) (B:List Br) (o:Nat) (Sn:List Br) (q:Nat) (h:AH) (k:AV ->AH ->Prop),d=3-min (bR NA x) (bR NB y) ->In NA x ->In NB y ->AS NA NB ra rb op p B o Sn q h ->OK B ->IS (oJ op) NA NB B Sn ->B.length+2^d<=50000 ->Sn.length+2^d<=50000 ->
  (∀r B' o' Sn' q' h',AS NA NB ra rb op p B' o' Sn' q' h' ->OK B' ->IS (oJ op) NA NB B' Sn' ->(∃D,B'=B++D) ->B'.length+1<=B.length+2^d ->Sn'.length+1<=Sn.length+2^d ->(∀j,j<p ->h'.oB.get j=h.oB.get j) ->h.next<=h'.next ->nR (oJ op) NA NB B' x y r ->k (ι (r:Int)) h') ->
  du C 485 [.p p 0,ι (x:Int),ι (y:Int)] h k:=by
 intro d;induction d using Nat.strongRecOn with
 |ind d IH=>
 intro x y B o Sn q h k hd hx hy a_ okb so hb1 hb2 hk;have hpow:1<=2^d:=Co;obtain⟨n,ver,ob⟩:=h;obtain⟨a,s,hc,na,ns⟩:=a_.c;have lp:p<n:=a_.lp;dsimp only at hc;rw[E.cB F.f485];by_cases hs:x<2/\ y<2
 ·obtain⟨bx,rfl⟩:=Rq hs.1;obtain⟨by',rfl⟩:=Rq hs.2;have x2:(((bN bx:Nat):Int)<2)=True:=fq (by have:=hs.1;omega);have y2:(((bN by':Nat):Int)<2)=True:=fq (by have:=hs.2;omega);refine Y4 @Io.eq_1 x2 y2 @bI ?_;refine E.run (aG5 E F hop (p:=p) (A:=[]) hc bx by' _ ?_);refine Y1 @bI ?_;exact hk (bN (oJ op bx by')) B o Sn q _ a_ okb so ⟨[],by simp⟩ ω ω (λ_ _=>rfl) (bB _) (aG7 bx by')
 ·have lvx:=sg ax hx;have lvy:=sg okB hy;have px:=Rp ax hx;have py:=Rp okB hy;obtain⟨v,hvv⟩:∃v,min (bR NA x) (bR NB y)=v:=⟨_,rfl⟩;have hv3:v<3:=by omega
  have mn:(if (pl NB y:Int)<(pl NA x:Int) then (pl NB y:Int) else (pl NA x:Int))=(v:Int):=by split<;>omega
  have ca:bP P X GL 562 [eD (NA,ra),ι (x:Int)] ⟨n,ver,ob⟩ (ι (pl NA x:Int)) ⟨n,ver,ob⟩:=II S F hx la _;have cb:bP P X GL 562 [eD (NB,rb),ι (y:Int)] ⟨n,ver,ob⟩ (ι (pl NB y:Int)) ⟨n,ver,ob⟩:=II S F hy lb _;have tail:∀τ:T AV,τ.get 0=some (.p p 0) ->τ.get 1=some (ι (x:Int)) ->τ.get 2=some (ι (y:Int)) ->
   df C (.seq DV DW) [] (KF k [(6,none)]) τ ⟨n,ver,ob⟩:=by
   intro τ t0 t1 t2;refine Y5 t0 t1 t2 hc @bI ?_;refine E.cN ca (Y5 t0 t1 t2 hc @bI ?_);refine E.cN cb (Y7 @jP mn t0 t1 t2 hc @bI ?_);refine E.cN (Rg (r:=ra) S F hx la ω _) (Y5 t0 t1 t2 hc @bI ?_);refine E.cN (Rg (r:=rb) S F hy lb ω _) (Y5 t0 t1 t2 hc @bI ?_);have lx:=si ax (v:=v) hx ω hv3;have ly:=si okB (v:=v) hy ω hv3;have mx:=sj ax (v:=v) hx ω hv3;have my:=sj okB (v:=v) hy ω hv3;have hd0:1<=d:=by omega
   have pw:2^d=2*2^(d-1):=by rw[←Cq];congr 1;omega
   have pw1:2^(3-min (bR NA (lo NA x v)) (bR NB (lo NB y v)))<=2^(d-1):=rJ ω ω;have pw2:2^(3-min (bR NA (hi NA x v)) (bR NB (hi NB y v)))<=2^(d-1):=rJ ω ω;refine E.run (IH (3-min (bR NA (lo NA x v)) (bR NB (lo NB y v))) ω (lo NA x v) (lo NB y v) B o Sn q _ _ rfl (wK ax hx) (wK okB hy) a_ okb so ω ω ?_);rintro r1 B1 o1 S1 q1 h1 as1 ok1 so1 ⟨D1,rfl⟩ len1 sen1 dD nx1 rel1;refine Y4 t0 t1 t2 @bI ?_;refine E.run (IH (3-min (bR NA (hi NA x v)) (bR NB (hi NB y v))) ω (hi NA x v) (hi NB y v) (B++D1) o1 S1 q1 h1 _ rfl (wL ax hx) (wL okB hy) as1 ok1 so1 ω ω ?_);rintro r2 B2 o2 S2 q2 ⟨n2,ver2,aJ⟩ as2 ok2 so2 ⟨D2,rfl⟩ len2 sen2 eG nx2 rel2;obtain⟨a2,s2,hc2,na2,ns2⟩:=as2.c;dsimp only at hc2;refine Y5 t0 t1 t2 hc2 @bI ?_;refine E.run (aG4 E F na2 (λhb=>(as2.lo hb).2) (by simp only[dy] at*;omega) _ ?_);rintro r B' o' a' ⟨n3,ver3,cC⟩ na3 nx3 same3 new3 lt3 spec;have lp2:p<n2:=as2.lp;have nx3':n2<=n3:=nx3;have hc3:cG (cC.get p)=some [cu NA,ι (ra:Int),cu NB,ι (rb:Int),ι (op:Int),a2,s2]:=by
    rw[show cC.get p=aJ.get p from same3 p lp2 (λhb=>by have:=(as2.lo hb).1;omega)];exact hc2
   obtain⟨ok4,rel4,pre4,len4⟩:=Q8 ax okB ok2 hx hy hvv hv3 (rel1.ext ok1 D2) rel2 spec;have mo4:∀Sn',(∀t∈Sn',t∈S2∨t=(x,y,r)) ->IS (oJ op) NA NB B' Sn':=by
    intro Sn' hS x' y' r' hm hx' hy';rcases hS _ hm with h1|h1
    ·obtain⟨D,rfl⟩:=pre4;exact(so2 x' y' r' h1 hx' hy').ext ok2 D
    ·simp only[xK] at h1;obtain⟨rfl,rfl,rfl⟩:=h1;exact rel4
   have preA:∃D,B'=B++D:=by obtain⟨D,rfl⟩:=pre4;exact⟨D1++D2++D,by simp[nz]⟩
   have lenA:B'.length+1<=B.length+2^d:=by simp only[dy] at*;omega
   have nxA:n<=n3:=by have e1:n<=h1.next:=nx1;have e2:h1.next<=n2:=nx2;omega
   have oldA:∀j,j<p ->cC.get j=ob.get j:=λj hj=>by
    rw[show cC.get j=aJ.get j from same3 j (by show j<n2;omega) (λhb=>by have:=(as2.lo hb).1;omega),show aJ.get j=_ from eG j hj];exact dD j hj
   have lo3:B'≠[] ->p<o'/\ o'<n3:=λhb=>⟨by
    rcases new3 hb with ⟨h1,rfl⟩|h1
    ·exact(as2.lo h1).1
    ·have h2:n2<=o':=h1;omega,lt3 hb⟩
   have sa:ew a'=true:=by rcases na3 with ⟨_,rfl⟩|⟨_,rfl,_⟩<;>rfl
   have ca':cellsO a'=some [a']:=by rcases na3 with ⟨_,rfl⟩|⟨_,rfl,_⟩<;>rfl
   have cf':cellsOf a'=[a']:=by rcases na3 with ⟨_,rfl⟩|⟨_,rfl,_⟩<;>rfl
   have np:(p=n3)=False:=av;by_cases hS:S2=[]
   ·subst hS;have hs:s2= .sn:=by
     rcases ns2 with ⟨_,h⟩|⟨h,_⟩;·exact h
     ·exact bh rfl h
    subst hs;refine Y9 @iP t0 t1 t2 hc3 sa ca' cf' @bI ?_;refine hk r B' o' [(x,y,r)] (n3+1) _ ⟨⟨a',.sl (n3+1) 0 1 none 3,?_,na3.mono λhb=> ?_,gN.of (B:=[(x,y,r)]) (by simp) ?_⟩,by show p<n3+1+1;omega,λhb=>⟨(lo3 hb).1,by have:=(lo3 hb).2;show o'<n3+1+1;omega⟩,λ_=>⟨by omega,by show n3+1<n3+1+1;omega⟩,λhb _=>by have:=(lo3 hb).2;omega⟩
     ok4 (mo4 _ λt ht=> .inr (by simpa using ht)) preA lenA (by simp only[gJ,ji] at*;omega) (λj hj=> ?_) (by show n<=n3+1+1;omega) rel4
    ·exact U0
    ·have:=lo3 hb;exact U0
    ·exact U0
    ·exact W0 (oldA j hj)
   ·obtain⟨hq,hs⟩:=ns2.cG hS;subst hs;have lq2:=as2.lq hS;have lq2':q2<n2:=lq2.2;have hq3:cG (cC.get q2)=some (dK S2):=by
     rw[show cC.get q2=aJ.get q2 from same3 q2 lq2' (λhb h=>as2.oq hb hS h.symm)];exact hq
    have qo:B'≠[] ->q2≠o':=λhb=>by
     rcases new3 hb with ⟨h1,rfl⟩|h1
     ·exact λh=>as2.oq h1 hS h.symm
     ·have h2:n2<=o':=h1;omega
    have sl:S2.length+1<=1048576:=by omega
    refine iU @iP t0 t1 t2 hc3 hq3 sl sa ca' cf' @IQ @bI ?_;have hl:S2.length+1=(S2++[(x,y,r)]).length:=by simp
    rw[show AV.sl (n3+1) 0 (S2.length+1) none 3= .sl (n3+1) 0 (S2++[(x,y,r)]).length none 3 by rw[hl]];refine hk r B' o' (S2++[(x,y,r)]) (n3+1) _ ⟨⟨a',.sl (n3+1) 0 (S2++[(x,y,r)]).length none 3,?_,na3.mono λhb=> ?_,gN.of (by simp) ?_⟩,by show p<n3+1+1;omega,λhb=>⟨(lo3 hb).1,by have:=(lo3 hb).2;show o'<n3+1+1;omega⟩,λ_=>⟨by omega,by show n3+1<n3+1+1;omega⟩,λhb _=>by have:=(lo3 hb).2;omega⟩
     ok4 (mo4 _ λt ht=>by simpa using ht) preA lenA (by simp only[dy,gJ,ji] at*;omega) (λj hj=> ?_) (by show n<=n3+1+1;omega) rel4
    ·exact U0
    ·have:=lo3 hb;have:=qo hb;exact U0
    ·exact U1 @IR
    ·exact W0 (oldA j hj)
  have fnd:∀(j r:Nat),Sn[j]? =some (x,y,r) ->k (ι (r:Int)) ⟨n,ver,ob⟩:=λj r hj=>
   hk r B o Sn q _ a_ okb so ⟨[],by simp⟩ ω ω (λ_ _=>rfl) (bB _) (so x y r (dI hj) hx hy)
  have head:∀R:aw,(∀τ:T AV,τ.get 0=some (.p p 0) ->τ.get 1=some (ι (x:Int)) ->τ.get 2=some (ι (y:Int)) ->df C R [] (KF k [(6,none)]) τ ⟨n,ver,ob⟩) ->
   ∀τ:T AV,τ.get 0=some (.p p 0) ->τ.get 1=some (ι (x:Int)) ->τ.get 2=some (ι (y:Int)) ->df C DU [.s R] (KF k [(6,none)]) τ ⟨n,ver,ob⟩:=by
   intro R hR τ t0 t1 t2;by_cases hS:Sn=[]
   ·subst hS;have hs:s= .sn:=by
     rcases ns with ⟨_,h⟩|⟨h,_⟩;·exact h
     ·exact bh rfl h
    subst hs;have zz:((0:Int)<0)=False:=av;refine Y1 @bI ?_;rw[qj E.ok];refine Y6 t0 t1 t2 hc zz @bI ?_;refine hR _ ?_ ?_ ?_<;>exact U3 t0 t1 t2
   ·obtain⟨hq,hs⟩:=ns.cG hS;subst hs;refine Y1 @bI ?_;refine aG6 E (p:=p) (q:=q) (x:=x) (y:=y) (S:=Sn) hc hq ω _ _ ?_ ?_ Sn.length 0 ω _ ?_ ?_ ?_ ?_
    ·intro j r τ hj t6;refine Y2 t6 @bI ?_;exact fnd j r hj
    ·intro τ t0 t1 t2;refine Y1 @bI ?_;exact hR τ t0 t1 t2
    all_goals exact U3 t0 t1 t2
  have hd:=head _ tail;have fb:Io=⟨137,[(6,none)],.seq (.ops [⟨some 6,.mv (.c (ι 0)),none⟩]) (.seq (.seq QT (.cond (.t 22) (.seq QU .ret) .skip)) (.seq DU (.seq DV DW)))⟩:=rfl;rw[fb];generalize (aw.seq DV DW)=R at hd ⊢;generalize DU=H at hd ⊢;by_cases x2:x<2
  ·have x2':((x:Int)<2)=True:=cJ;have y2':((y:Int)<2)=False:=av;refine Y3 x2' y2' @bI ?_;refine hd _ ?_ ?_ ?_<;>exact U0
  ·have x2':((x:Int)<2)=False:=av;refine Y2 x2' @bI ?_;refine hd _ ?_ ?_ ?_<;>exact U0
def mR (V:List Nat) (n:Nat):List AV:=(List.range n).map λi=>AV.i .i64 ((if i+2∈V then nb V (i+2) else 0:Nat):Int)
def yP {V n}:(mR V n).length=n:=by simp[mR]
def Ee {V:List Nat} {n i:Nat} (h:i<n):(mR V n)[i]? =some (ι ((if i+2∈V then nb V (i+2) else 0:Nat):Int)):=by
 simp[mR,h]
def qY {l:List AV} {i:Nat} {x:AV} (h:l[i]? =some x):sub l i 1=some [x]:=by
 have hl:=(eC.1 h).1;rw[nH,aF ω];congr 1;rw[Lr hl];simp[(eC.1 h).2]
def Rr {x:AV}:∀{l:List AV} {i:Nat},i<l.length ->dW [x] l i=some (l.set i x)
 |[],i,h=>by simp at h
 |a::l,0,h=>by simp[G5,G4,G3]
 |a::l,i+1,h=>by
  rw[Aw,Rr (by simpa using h)];rfl
def aG9 {V:List Nat} {n i:Nat} (hV:i+2∉V):(mR V n).set i (ι ((V.length+2:Nat):Int))=mR (V++[i+2]) n:=by
 apply xz;intro j;rw[xF];by_cases hj:j<n
 ·rw[Ee hj,Ee hj];by_cases e:i=j
  ·subst e;simp only[dZ,yP,hj,fO,fk,or_true,Ht (show 2<=i+2 by omega) hV]
  ·have e2:¬j+2=i+2:=by omega
   by_cases hm:j+2∈V
   ·simp only[e,bV,fO,hm,true_or,dZ,wM (.inr hm:j+2<2∨j+2∈V)]
   ·simp only[e,bV,fO,hm,fk,e2,or_self]
 ·rw[rI (l:=mR V n) (by rw[yP];omega),rI (l:=mR (V++[i+2]) n) (by rw[yP];omega),yP];split
  ·rename_i e;subst e;rw[aD hj]
  ·rfl
structure WS (w q o:Nat) (a:AV) (B:List Br) (V:List Nat) (oo:Nat) (h:AH):Prop where
 c:∃b,cG (h.oB.get w)=some [a,.sl q 0 B.length (some B.length) 1,b]/\ gN h.oB.get oo (jp B V) b
 na:gN h.oB.get o B a
 cq:cG (h.oB.get q)=some (mR V B.length)
 lw:q<w/\ w<h.next
 lo:B≠[] ->o<q
 lv:V≠[] ->w<oo/\ oo<h.next
structure RF (w q:Nat) (V:List Nat) (oo:Nat) (h:AH) (V':List Nat) (oo':Nat) (h':AH):Prop where
 next:h.next<=h'.next
 same:∀j,j<h.next ->j≠w ->j≠q ->(V≠[] ->j≠oo) ->h'.oB.get j=h.oB.get j
 new:V'≠[] ->(V≠[]/\ oo'=oo)∨h.next<=oo'
def RF.refl {w q V oo h}:RF w q V oo h V oo h:=⟨bB _,λ_ _ _ _ _=>rfl,λh=> .inl ⟨h,rfl⟩⟩
def RF.trans {w q oo oo' oo'':Nat} {V V' V'':List Nat} {h h' h'':AH} (a:RF w q V oo h V' oo' h') (b:RF w q V' oo' h' V'' oo'' h''):RF w q V oo h V'' oo'' h'':=
 ⟨fJ a.next b.next,λj h1 h2 h3 h4=>by
  have h7:V'≠[] ->j≠oo':=λhv=>by
   rcases a.new hv with ⟨h5,h6⟩|h5
   ·rw[h6];exact h4 h5
   ·omega
  rw[b.same j (iR h1 a.next) h2 h3 h7,a.same j h1 h2 h3 h4],λhv=>by
  have:=a.next;rcases b.new hv with ⟨h5,h6⟩|h5
  ·rcases a.new h5 with ⟨h7,h8⟩|h7
   ·exact .inl ⟨h7,h6.trans h8⟩
   ·exact .inr ω
  ·exact .inr ω⟩
def WS.mono {w q o oo n n' v v':Nat} {a:AV} {B:List Br} {V:List Nat} {t t':T bC} (s:WS w q o a B V oo ⟨n,v,t⟩) (hn:n<=n') (e:∀j,(j<=w∨(V≠[]/\ j=oo)) ->t'.get j=t.get j):WS w q o a B V oo ⟨n',v',t'⟩ where
 c:=by
  obtain⟨b,h1,h2⟩:=s.c;exact⟨b,by show cG (t'.get w)=_;rw[e w (.inl (bB _))];exact h1,h2.mono λh=>e oo (.inr ⟨λhv=>h (by rw[hv];rfl),rfl⟩)⟩
 na:=s.na.mono λh=>e o (.inl (by have:=s.lo h;have:=s.lw.1;omega))
 cq:=by show cG (t'.get q)=_;rw[e q (.inl (by have:=s.lw.1;omega))];exact s.cq
 lw:=⟨s.lw.1,iR s.lw.2 hn⟩
 lo:=s.lo
 lv:=λh=>⟨(s.lv h).1,iR (s.lv h).2 hn⟩
def aH0 (F:eL ae) {w q o:Nat} {a:AV} {B:List Br} (ok:OK B) (hl:B.length<=50000):
 ∀(d n:Nat) (V:List Nat) (oo:Nat) (h:AH) (k:AV ->AH ->Prop),3-bR B n<=d ->In B n ->Cl B V ->V.length+2^d<=50000 ->WS w q o a B V oo h ->
  (∀oo' h',WS w q o a B (dV B d n V) oo' h' ->RF w q V oo h (dV B d n V) oo' h' ->(dV B d n V).length+1<=V.length+2^d ->k (ι (nb (dV B d n V) n:Int)) h') ->
  du C 565 [.p w 0,ι (n:Int)] h k:=by
 intro d;induction d with
 |zero=>
  intro n V oo h k hd hn cl eQ s hk;have n2:n<2:=by
   rcases hn.cases with h|⟨i,b,rfl,hb⟩
   ·exact h
   ·rw[gy hb] at hd;have:=ok.v _ _ hb;omega
  have n2':((n:Int)<2)=True:=cJ;refine E.bS F.f565 (Y3 @wN.eq_1 n2' @bI ?_);have:=hk oo h s RF.refl (by simp[dV]);rw[show nb (dV B 0 n V) n=n by simp[nb,n2]] at this;exact this
 |succ d ih=>
  intro n V oo h k hd hn cl eQ s hk;have pw:2^(d+1)=2*2^d:=Cq;have pw1:1<=2^d:=Co;rw[E.cB F.f565];by_cases n2:n<2
  ·have n2':((n:Int)<2)=True:=cJ;refine Y3 @wN.eq_1 n2' @bI ?_;have e:dV B (d+1) n V=V:=by simp only[dV,aF (Or.inl n2:n<2∨n∈V)]
   rw[e] at hk;have:=hk oo h s RF.refl ω;rw[show nb V n=n by simp[nb,n2]] at this;exact this
  ·have n2':((n:Int)<2)=False:=av;rcases hn.cases with h1|⟨i,b,rfl,hb⟩
   ·exact bh h1 n2
   obtain⟨nx,ver,ob⟩:=h;obtain⟨ub,hc,nu⟩:=s.c;have hcq:=s.cq;have aV:i<B.length:=(eC.1 hb).1;have es:aY .sub (ι ((i+2:Nat):Int)) (ι 2)=some (ι (i:Int)):=by rw[rX ω];congr 2;omega
   have sn:=qY (Ee (V:=V) aV);dsimp only at hc hcq;by_cases hin:i+2∈V
   ·rw[aF hin] at sn;have g0:((0:Int)<((nb V (i+2):Nat):Int))=True:=fq (by simp only[nb,n2,bV];omega);refine Y9 @wN.eq_1 n2' es hc hcq aV sn g0 @bI ?_;have e:dV B (d+1) (i+2) V=V:=by simp only[dV,aF (Or.inr hin:i+2<2∨i+2∈V)]
    rw[e] at hk;exact hk oo _ s RF.refl ω
   ·rw[aD hin] at sn;have e4:sub (dK B) (i*3) 3=some [ι (b.1:Int),ι (b.2.1:Int),ι (b.2.2:Int)]:=by have:=nQ hb 0 3 ω;simpa[gH] using this
    have hB:B≠[]:=λh=>by rw[h] at aV;simp at aV
    obtain⟨hcB,ha⟩:=s.na.cG hB;dsimp only at hcB;have lw:=s.lw;have lw2:w<nx:=lw.2;have lo:=s.lo hB;rw[ha] at hc;refine nS @wN.eq_1 n2' es hc hcq hcB aV sn e4 @bI ?_;have e:dV B (d+1) (i+2) V=dV B d b.2.2 (dV B d b.2.1 V)++[i+2]:=by simp only[dV,n2,hin,or_self,bV,show i+2-2=i by omega,hb]
    rw[e] at hk;rw[gy hb] at hd;have l1:=ok.l _ _ hb;have l2:=ok.h _ _ hb;have hi:=In.of hb;have i1:In B b.2.1:=by unfold In at*;omega
    have i2:In B b.2.2:=by unfold In at*;omega
    have s0:WS w q o a B V oo ⟨nx+1,ver+1,(ob.put nx (.cells ver [ι 0,ι 0,ι 0])).put nx (.cells (ver+1) [ι (b.1:Int),ι (b.2.1:Int),ι (b.2.2:Int)])⟩:=
     s.mono ω λj hj=>by
      have bF:¬j=nx:=by
       rcases hj with h|⟨h,rfl⟩
       ·omega
       ·have:=(s.lv h).2;have h2:j<nx:=this;omega
      simp only[T.get_put,aD bF]
    have f0:RF w q V oo ⟨nx,ver,ob⟩ V oo ⟨nx+1,ver+1,(ob.put nx (.cells ver [ι 0,ι 0,ι 0])).put nx (.cells (ver+1) [ι (b.1:Int),ι (b.2.1:Int),ι (b.2.2:Int)])⟩:=
     ⟨by show nx<=nx+1;omega,λj h1 _ _ _=>by have h1':j<nx:=h1;exact U0,λh=> .inl ⟨h,rfl⟩⟩
    refine E.run (ih b.2.1 V oo _ _ ω i1 cl ω s0 ?_);rintro oo1 ⟨n1,ver1,aQ⟩ s1 f1 len1;have cl1:=yq ok d b.2.1 V cl i1 ω;have nx1:nx+1<=n1:=f1.next;have lv1:=s1.lv;have c1b:cG (aQ.get nx)=some [ι (b.1:Int),ι (b.2.1:Int),ι (b.2.2:Int)]:=by
     rw[show aQ.get nx=_ from f1.same nx (by show nx<nx+1;omega) ω ω (λh=>by have:=(s.lv h).2;have h2:oo<nx:=this;omega)];exact U0
    refine Y2 c1b @bI ?_;refine E.run (ih b.2.2 _ oo1 _ _ ω i2 cl1.1 ω s1 ?_);rintro oo2 ⟨n2',ver2,aJ⟩ s2 f2 len2;have cl2:=yq ok d b.2.2 _ cl1.1 i2 ω;have nx2:n1<=n2':=f2.next;have c2b:cG (aJ.get nx)=some [ι (b.1:Int),ι (b.2.1:Int),ι (b.2.2:Int)]:=by
     rw[show aJ.get nx=_ from f2.same nx (by show nx<n1;omega) ω ω (λh=>by
      rcases f1.new h with ⟨h1,rfl⟩|h1
      ·have:=(s.lv h1).2;have h2:oo1<nx:=this;omega
      ·have h2:nx+1<=oo1:=h1;omega)]
     exact c1b
    obtain⟨ub2,hc2,nu2⟩:=s2.c;have hcq2:=s2.cq;have hnot:=Pb ok (d:=d) hb hin;have lw3:w<n2':=s2.lw.2;obtain⟨W2,hW2⟩:=Dy (B:=B) d b.2.2 (dV B d b.2.1 V);generalize hV2:dV B d b.2.2 (dV B d b.2.1 V)=V2 at*;generalize hV1:dV B d b.2.1 V=V1 at*;have nl:nb V2 b.2.1=nb V1 b.2.1:=by rw[hW2];exact wM cl1.2
    have inl:b.2.1<2∨b.2.1∈V2:=cl1.2.imp id λh=>by rw[hW2];exact xI _ h
    have ho:=O9 cl2.1 (n:=i+2) (b:=b) (by simpa using hb) inl cl2.2;have hset:=aG9 (n:=B.length) hnot;have hov:=Rr (x:=ι ((V2.length+2:Nat):Int)) (l:=mR V2 B.length) (i:=i) (by rw[yP];exact aV);rw[hset] at hov;have hnew:=Ht (V:=V2) (n:=i+2) ω hnot;have v2l:V2.length+2<=1000000:=by omega
    have ff:RF w q V oo ⟨nx,ver,ob⟩ V2 oo2 ⟨n2',ver2,aJ⟩:=(f0.trans f1).trans f2;have lv2:=s2.lv;have ho2l:(jp B V2).length=V2.length:=uV;dsimp only at hc2 hcq2;by_cases hV:V2=[]
    ·subst hV;have hu:ub2= .sn:=by
      rcases nu2 with ⟨_,h⟩|⟨h,_⟩;·exact h
      ·exact bh rfl h
     subst hu;have hov':dW [ι ((2:Nat):Int)] (mR [] B.length) i=some (mR ([]++[i+2]) B.length):=hov;refine Y9 @iP es hc2 hcq2 c2b aV @bK hov' @bI ?_;rw[hnew] at hk;refine hk (n2'+1) _ ⟨⟨.sl (n2'+1) 0 1 none 3,?_,?_⟩,s2.na.mono λhb=> ?_,?_,⟨lw.1,by show w<n2'+2;omega⟩,s.lo,λ_=>⟨by omega,by show n2'+1<n2'+2;omega⟩⟩
      (ff.trans ⟨by show n2'<=n2'+2;omega,λj h1 h2 h3 h4=> ?_,λ_=> .inr (by show n2'<=n2'+1;omega)⟩) (by simp only[dy,gJ,ji] at*;omega)
     ·exact U0
     ·rw[ho,show jp B []=[] from rfl,nl];refine gN.of (B:=[(b.1,nb V1 b.2.1,nb [] b.2.2)]) (by simp) ?_;exact U0
     ·exact U0
     ·exact U0
     ·have h1':j<n2':=h1;exact U0
    ·have hoB:jp B V2≠[]:=λh=>hV (by rw[←FQ,←ho2l,h];rfl);obtain⟨hcu,hu⟩:=nu2.cG hoB;rw[ho2l] at hu;subst hu;dsimp only at hcu;have hov':dW [ι ((V2.length+1+1:Nat):Int)] (mR V2 B.length) i=some (mR (V2++[i+2]) B.length):=hov;have lvv:=lv2 hV;have lvo:oo2<n2':=lvv.2;refine iU @iP es hc2 hcq2 c2b aV @bK hov' hcu @IQ ho2l @bI ?_;rw[hnew] at hk;have hl:V2.length+1=(jp B V2++[(b.1,nb V2 b.2.1,nb V2 b.2.2)]).length:=by simp[ho2l]
     refine hk (n2'+1) _ ⟨⟨.sl (n2'+1) 0 (V2.length+1) none 3,?_,?_⟩,s2.na.mono λhb=> ?_,?_,⟨lw.1,by show w<n2'+2;omega⟩,s.lo,λ_=>⟨by omega,by show n2'+1<n2'+2;omega⟩⟩
      (ff.trans ⟨by show n2'<=n2'+2;omega,λj h1 h2 h3 h4=> ?_,λ_=> .inr (by show n2'<=n2'+1;omega)⟩) (by simp only[dy,gJ,ji] at*;omega)
     ·exact U0
     ·rw[ho,hl,nl];refine gN.of (by simp) ?_;exact U1 @IR
     ·exact U0
     ·exact U0
     ·have h1':j<n2':=h1;have h4':=h4 hV;exact U0
def aH1 {n:Nat}:mR [] n=List.replicate n (ι 0):=by
 apply xz;intro j;by_cases hj:j<n
 ·rw[Ee hj];simp[hj]
 ·rw[rI (by rw[yP];omega),rI (by simp;omega)]
def aH2 (F:eL ae) {o m ver r:Nat} {B:List Br} {ob:T bC} {a:AV} (ok:OK B) (hl:B.length<=50000) (hr:In B r) (na:gN ob.get o B a) (ho:B≠[] ->o<m)
 (k:AV ->AH ->Prop) (hk:∀a oo h',gN h'.oB.get oo (aE (tr B 3 r)).1 a ->m<=h'.next ->(∀j,j<m ->h'.oB.get j=ob.get j) ->(aE (tr B 3 r)).1.length<=7 ->(a= .sn∨(m<=oo/\ oo<h'.next)) ->k (.ag [a,ι ((aE (tr B 3 r)).2:Int)]) h'):
 du C 486 [a,ι (r:Int)] ⟨m,ver,ob⟩ k:=by
 have hb:B.length<=1048576:=by omega
 have rp:(List.replicate B.length [AV.i .i64 0]).flatten=mR [] B.length:=by
  rw[aH1];generalize B.length=n;induction n with
  |zero=>rfl
  |succ n ih=>rw[uc,vD,ih];rfl
 have ca:cellsO a=some [a]:=by rcases na with ⟨_,rfl⟩|⟨_,rfl,_⟩<;>rfl
 have sa:ew a=true:=by rcases na with ⟨_,rfl⟩|⟨_,rfl,_⟩<;>rfl
 have ln:∀(τ:T AV) h,az C τ (.t 8)=a ->step (az C τ) h (.len .slice (.t 8))= .v (ι (B.length:Int)) h:=by
  intro τ h e;rcases na with ⟨h1,rfl⟩|⟨_,rfl,_⟩
  ·rw[yd,e,h1];rfl
  ·rw[yd,e]
 refine E.bS F.f486 (Z8 @DY.eq_1 ln ca sa hb @bB rp @bI ?_);refine E.run (aH0 (w:=m+1+1) (q:=m+1) (o:=o) (a:=a) (B:=B) E F ok hl 3 r [] 0 _ _ ω hr Cl.nil (by simp) ⟨⟨.sn,?_,.inl ⟨rfl,rfl⟩⟩,na.mono λh=> ?_,?_,⟨by omega,by show m+1+1<m+1+1+1;omega⟩,λh=>by have:=ho h;omega,λh=>bh rfl h⟩ ?_)
 ·exact U0
 ·have:=ho h;exact U0
 ·exact U0
 rintro oo ⟨n2,ver2,aJ⟩ s2 f2 len2;obtain⟨b,c2,nA⟩:=s2.c;have hn2:m+1+1+1<=n2:=f2.next;have hcan:=Pe ok hr (d:=3) ω;have b1:cG (aJ.get m)=some [.sn,ι 0]:=by
  rw[show aJ.get m=_ from f2.same m (by show m<m+1+1+1;omega) ω ω (λh=>bh rfl h)];exact U0
 dsimp only at c2;have sb:ew b=true:=by rcases nA with ⟨_,rfl⟩|⟨_,rfl,_⟩<;>rfl
 have cb:cellsO b=some [b]:=by rcases nA with ⟨_,rfl⟩|⟨_,rfl,_⟩<;>rfl
 refine Y5 c2 b1 sb cb @bI ?_;have e1:jp B (dV B 3 r [])=(aE (tr B 3 r)).1:=congrArg Prod.fst hcan;have e2:nb (dV B 3 r []) r=(aE (tr B 3 r)).2:=congrArg Prod.snd hcan;rw[e2];have hoo:b= .sn∨(m<=oo/\ oo<n2):=by
  rcases nA with ⟨_,h⟩|⟨h,_⟩
  ·exact .inl h
  ·have h2:m+1+1<oo/\ oo<n2:=s2.lv (λhv=>h (by rw[hv];rfl));exact .inr ω
 rw[e1] at nA;refine hk b oo _ (nA.mono λh=> ?_) (by show m<=n2;omega) (λj hj=> ?_) (by rw[←e1,uV];have:(dV B 3 r []).length+1<=0+2^3:=len2;omega) hoo
 ·have hno:m+1+1<oo:=(s2.lv (λhv=>h (by rw[←e1,hv];rfl))).1;exact U0
 ·simp(disch:=omega) only[dh,T.get_put,bV];rw[show aJ.get j=_ from f2.same j (by show j<m+1+1+1;omega) ω ω (λh=>bh rfl h)];exact U0
def aH3 {h:AH} {o:Nat} {d:List Br×Nat} {a:AV} (na:gN h.oB.get o d.1 a):deep 9 h (.ag [a,ι (d.2:Int)])=some (eD d):=by
 have e2:deep 9 h (.ag [a,ι (d.2:Int)])=(match bJ 8 h [a,ι (d.2:Int)] with|some l=>some (AV.ag l)|none=>none):=rfl;have e3:deep 8 h (ι (d.2:Int))=some (ι (d.2:Int)):=rfl;simp only[aL,bZ,e2,e3,Re na,eD]
def aH4 (F:eL ae) {op:Nat} (hop:op<3) {s t:Tr} (ds:jt P X GL s) (dt:jt P X GL t):bg P X GL ae 403 [eT s,eT t,ι (op:Int)] (eT (cY (oJ op) s t)):=by
 refine bg.intro λC E=> ?_;refine E.bS F.f403 (Y5 @QZ.eq_1 @eT.eq_1 @eD.eq_1 @h0.eq_1 @bI ?_);refine E.run (aG8 (NA:=(aE s).1) (NB:=(aE t).1) (ra:=(aE s).2) (rb:=(aE t).2) (op:=op) (p:=3) S E F hop ds.ok dt.ok (by have:=ds.len;omega) (by have:=dt.len;omega) _ (aE s).2 (aE t).2 [] 0 [] 0 _ _ rfl ds.in_ dt.in_ ⟨⟨.sn,.sn,?_,.inl ⟨rfl,rfl⟩,.inl ⟨rfl,rfl⟩⟩,by show 3<4;omega,λh=>bh rfl h,λh=>bh rfl h,λh=>bh rfl h⟩
  ⟨by simp,by simp,by simp,by simp,by simp⟩ (λx y r h=>by simp at h) ?_ ?_ ?_)
 ·exact U0
 ·have hpw:2^(3-min (bR (aE s).1 (aE s).2) (bR (aE t).1 (aE t).2))<=2^3:=rJ ω ω;simp only[ji];omega
 ·have hpw:2^(3-min (bR (aE s).1 (aE s).2) (bR (aE t).1 (aE t).2))<=2^3:=rJ ω ω;simp only[ji];omega
 rintro r B o Sn q ⟨n1,ver1,aQ⟩ a_ okB so _ lenB _ old nx rel;have hpw:2^(3-min (bR (aE s).1 (aE s).2) (bR (aE t).1 (aE t).2))<=2^3:=rJ ω ω;obtain⟨a1,s1,hc,na,_⟩:=a_.c;dsimp only at hc;have htr:tr B 3 r=cY (oJ op) s t:=by
  have:=(rel.2 3 ω ω ω).2;rw[this,ds.tr,dt.tr]
 have n3:3<n1:=a_.lp;have lo:=a_.lo;refine Y2 hc @bI ?_;refine E.run (aH2 (o:=o) (B:=B) E F okB (by simp only[ji] at lenB;omega) rel.1 na (λh=>(lo h).2) _ ?_);rw[htr];rintro a oo ⟨n2,ver2,aJ⟩ nb hn2 same len7 hoo;have b2:cG (aJ.get 2)=some [.sn,ι 0]:=by
  rw[show aJ.get 2=aQ.get 2 from same 2 (by show 2<n1;omega),show aQ.get 2=_ from old 2 ω];exact U0
 have sa:ew a=true:=by rcases nb with ⟨_,rfl⟩|⟨_,rfl,_⟩<;>rfl
 have ca:cellsO a=some [a]:=by rcases nb with ⟨_,rfl⟩|⟨_,rfl,_⟩<;>rfl
 refine Y4 b2 sa ca @bI ?_;refine⟨9,aH3 (d:=aE (cY (oJ op) s t)) (nb.mono λh=> ?_)⟩;rcases hoo with rfl|⟨h1,_⟩
 ·rcases nb with ⟨h1,_⟩|⟨_,h1,_⟩
  ·exact bh h1 h
  ·cases h1
 ·have h2:n1<=oo:=h1;exact U0
def IT (F:eL ae) {op:Nat} (hop:op<3) {s t:Tr} (ds:jt P X GL s) (dt:jt P X GL t) (h:AH):bP P X GL 403 [eT s,eT t,ι (op:Int)] h (eT (cY (oJ op) s t)) h:=
 dR S (aH4 S F hop ds dt) (n:=9) (by simp only[aL,jB,bZ,deep]) h
def aH5:oJ 0=λx y=>x&&y:=rfl
def aH6:oJ 1=λx y=>x||y:=rfl
def aH7:oJ 2=λx y=>x !=y:=rfl
def ec {B:List Br}:cellsO (cu B)=some [cu B]:=by cases B<;>rfl
def aH8 (F:eL ae) {s t:Tr} (ds:jt P X GL s) (dt:jt P X GL t):bg P X GL ae 275 [eT s,eT t] (eT (cY (λx y=>x&&y) s t)):=by
 refine bg.intro λC E=> ?_;refine E.bS F.f275 (Y5 @Q0.eq_1 @eT.eq_1 @eD.eq_1 @h0.eq_1 @bI ?_);refine E.cN (IT S F (op:=0) ω ds dt _) (Y5 @eT.eq_1 @eD.eq_1 @ec @aH5 @bI ?_);exact⟨9,qU _ _⟩
def aH9 (F:eL ae) {s t:Tr} (ds:jt P X GL s) (dt:jt P X GL t):bg P X GL ae 274 [eT s,eT t] (eT (cY (λx y=>x||y) s t)):=by
 refine bg.intro λC E=> ?_;refine E.bS F.f274 (Y5 @Q1.eq_1 @eT.eq_1 @eD.eq_1 @h0.eq_1 @bI ?_);refine E.cN (IT S F (op:=1) ω ds dt _) (Y5 @eT.eq_1 @eD.eq_1 @ec @aH6 @bI ?_);exact⟨9,qU _ _⟩
def Rs (F:eL ae) {s t:Tr} (ds:jt P X GL s) (dt:jt P X GL t) (h:AH):bP P X GL 275 [eT s,eT t] h (eT (cY (λx y=>x&&y) s t)) h:=
 dR S (aH8 S F ds dt) (n:=9) (by simp only[aL,jB,bZ]) h
def aI0 (F:eL ae) {s t:Tr} (ds:jt P X GL s) (dt:jt P X GL t) (h:AH):bP P X GL 274 [eT s,eT t] h (eT (cY (λx y=>x||y) s t)) h:=
 dR S (aH9 S F ds dt) (n:=9) (by simp only[aL,jB,bZ]) h
def dY (P:Program) (X:aR) (GL:T (List AV)):Prop:=∀t,cA 3 t=true ->jt P X GL t
def jd {g:Bool ->Bool ->Bool}:∀{k:Nat} {s t:Tr},cA k s=true ->cA k t=true ->cA k (cY g s t)=true
 |0,.c _,.c _,_,_=>rfl
 |0,.n _ _,_,h,_=>by simp[cA] at h
 |0,.c _,.n _ _,_,h=>by simp[cA] at h
 |k+1,.c _,_,h,_=>by simp[cA] at h
 |k+1,.n _ _,.c _,_,h=>by simp[cA] at h
 |k+1,.n a b,.n c d,h1,h2=>by
  simp only[cA,aB] at h1 h2;simp only[cY,cA,aB];exact⟨jd h1.1 h2.1,jd h1.2 h2.2⟩
def uY {g:Bool ->Bool ->Bool}:∀{k n:Nat} {s t:Tr},cA k s=true ->cA k t=true ->jq n s=true ->jq n t=true ->jq n (cY g s t)=true
 |0,0,.c _,.c _,_,_,_,_=>rfl
 |0,_+1,.c _,.c _,_,_,_,_=>rfl
 |0,_,.n _ _,_,h,_,_,_=>by simp[cA] at h
 |0,_,.c _,.n _ _,_,h,_,_=>by simp[cA] at h
 |k+1,_,.c _,_,h,_,_,_=>by simp[cA] at h
 |k+1,_,.n _ _,.c _,_,h,_,_=>by simp[cA] at h
 |k+1,0,.n a b,.n c d,h1,h2,h3,h4=>by
  simp only[cA,aB] at h1 h2;simp only[jq,aB,aU] at h3 h4;simp only[cY,jq,aB,aU];obtain⟨rfl,h3⟩:=h3;obtain⟨rfl,h4⟩:=h4;exact⟨rfl,uY h1.1 h2.1 h3 h4⟩
 |k+1,n+1,.n a b,.n c d,h1,h2,h3,h4=>by
  simp only[cA,aB] at h1 h2;simp only[jq,aB] at h3 h4;simp only[cY,jq,aB];exact⟨uY h1.1 h2.1 h3.1 h4.1,uY h1.2 h2.2 h3.2 h4.2⟩
def yQ {b:Bool}:∀k n,jq n (eu b k)=true
 |0,0=>rfl
 |0,_+1=>rfl
 |k+1,0=>by simp[eu,jq,yQ k 0]
 |k+1,n+1=>by simp[eu,jq,yQ k n]
def IU (b:Bool):aE (eu b 3)=([],bN b):=by cases b<;>rfl
def je:Nat ->Tr
 |0=> .n (eu false 2) (eu true 2)
 |1=> .n (.n (eu false 1) (eu true 1)) (.n (eu false 1) (eu true 1))
 |_=> .n (.n (.n (.c false) (.c true)) (.n (.c false) (.c true))) (.n (.n (.c false) (.c true)) (.n (.c false) (.c true)))
def aI1 {v:Nat} (h:v<3):aE (je v)=([(v,0,1)],2):=by
 rcases(show v=0∨v=1∨v=2 by omega) with rfl|rfl|rfl<;>rfl
def qu {v:Nat}:cA 3 (je v)=true:=by
 match v with
 |0=>rfl
 |1=>rfl
 |n+2=>rfl
def IV {v n:Nat} (h:v<n) (h3:n<=3):jq n (je v)=true:=by
 rcases(show n=1∨n=2∨n=3 by omega) with rfl|rfl|rfl
 ·obtain rfl:v=0:=by omega
  rfl
 ·rcases(show v=0∨v=1 by omega) with rfl|rfl<;>rfl
 ·rcases(show v=0∨v=1∨v=2 by omega) with rfl|rfl|rfl<;>rfl
def aI2 (F:eL ae) (b:Bool):bg P X GL ae 36 [.b b] (eT (eu b 3)):=by
 refine bg.intro λC E=> ?_;rw[E.cB F.f36];cases b<;>
  (
   refine Y3 @Q4.eq_1 @h0.eq_1 @bI ?_;exact⟨1,rfl⟩)
def aI3 (F:eV ae) (b:Bool):bg P X GL ae 125 [.b b] (eT (eu b 3)):=by
 refine bg.intro λC E=> ?_;rw[E.cB F.f125];cases b<;>
  (
   refine Y6 @QS.eq_1 @QO.eq_1 @QP.eq_1 @QR.eq_1 @h0.eq_1 @bI ?_;exact⟨1,rfl⟩)
def aI4 (F:eL ae) {v:Nat} (h:v<3):bg P X GL ae 273 [ι (v:Int)] (.tu [eT (je v),ι 0]):=by
 refine bg.intro λC E=> ?_;refine E.bS F.f273 (Y3 @Q5.eq_1 @h0.eq_1 @bI ?_);refine⟨4,?_⟩;unfold eT eD;rw[aI1 h];rfl
def Bp (F:eL ae) (b:Bool) (h:AH):bP P X GL 36 [.b b] h (eT (eu b 3)) h:=dR S (aI2 F b) (n:=1) (by rfl) h
def IW (F:eV ae) (b:Bool) (h:AH):bP P X GL 125 [.b b] h (eT (eu b 3)) h:=dR S (aI3 F b) (n:=1) (by rfl) h
def Rt (F:eL ae) {v:Nat} (hv:v<3) (h:AH):bP P X GL 273 [ι (v:Int)] h (.tu [eT (je v),ι 0]) h:=dR S (aI4 F hv) (n:=1) (by rfl) h
def aI5 (F:eL ae) (A:dY P X GL) {s:Tr} (hs:cA 3 s=true):bg P X GL ae 272 [eT s] (eT (cY (λx y=>x !=y) s (eu true 3))):=by
 refine bg.intro λC E=> ?_;have c1:=λh=>IT S F (op:=2) ω (A s hs) (A _ (ph (b:=true) 3)) h;simp only[eT,eD,aH7] at c1;refine E.bS F.f272 (Y5 @Q3.eq_1 @eT.eq_1 @eD.eq_1 @h0.eq_1 @bI ?_);refine E.cN (Bp S F true _) (Y3 @eT.eq_1 @eD.eq_1 @bI ?_);refine E.cN (c1 _) (Y4 @eT.eq_1 @eD.eq_1 @ec @bI ?_);exact⟨9,qU _ _⟩
def Rv (F:eL ae) (A:dY P X GL) {s:Tr} (hs:cA 3 s=true) (h:AH):bP P X GL 272 [eT s] h (eT (cY (λx y=>x !=y) s (eu true 3))) h:=
 dR S (aI5 S F A hs) (n:=9) (by simp only[aL,jB,bZ]) h
def aI6 (F:eL ae) (A:dY P X GL) {s t:Tr} (hs:cA 3 s=true) (ht:cA 3 t=true):bg P X GL ae 276 [eT s,eT t] (eT (cY (λx y=>x&&y) s (cY (λx y=>x !=y) t (eu true 3)))):=by
 refine bg.intro λC E=> ?_;have c1:=λh=>Rv S F A ht h;have c2:=λh=>Rs S F (A s hs) (A _ (jd (g:=λx y=>x !=y) ht (ph (b:=true) 3))) h;simp only[eT,eD] at c1 c2;refine E.bS F.f276 (Y5 @Q2.eq_1 @eT.eq_1 @eD.eq_1 @h0.eq_1 @bI ?_);refine E.cN (c1 _) (Y3 @eT.eq_1 @eD.eq_1 @bI ?_);refine E.cN (c2 _) (Y4 @eT.eq_1 @eD.eq_1 @ec @bI ?_);exact⟨9,qU _ _⟩
def aI7 (F:eL ae) (A:dY P X GL) {s t:Tr} (hs:cA 3 s=true) (ht:cA 3 t=true) (h:AH):bP P X GL 276 [eT s,eT t] h (eT (cY (λx y=>x&&y) s (cY (λx y=>x !=y) t (eu true 3)))) h:=
 dR S (aI6 S F A hs ht) (n:=9) (by simp only[aL,jB,bZ]) h
def IX:T au:=(T.put (T.put (T.put (T.put (T.put (T.put .e 95 H7) 156 Bf) 183 A0) 184 DO) 270 Bh) 296 yE)
def aI8:IX=(T.put (T.put (T.put (T.put (T.put (T.put .e 95 H7) 156 Bf) 183 A0) 184 DO) 270 Bh) 296 yE):=rfl
def aI9 {ae:T au} (FHasD:eV ae):∀f m,IX.get f=some m ->ae.get f=some m:=by
 rw[aI8];exact(gk (gk (gk (gk (gk (gk AF FHasD.f95) FHasD.f156) FHasD.f183) FHasD.f184) FHasD.f270) FHasD.f296)
def IY:T au:=(T.put (T.put (T.put (T.put (T.put (T.put (T.put .e 404 Is) 487 It) 567 Iq) 486 DY) 566 Iu) 562 Ip) 565 wN)
def aJ0:IY=(T.put (T.put (T.put (T.put (T.put (T.put (T.put .e 404 Is) 487 It) 567 Iq) 486 DY) 566 Iu) 562 Ip) 565 wN):=rfl
def aJ1 {ae:T au} (FHasR:eL ae):∀f m,IY.get f=some m ->ae.get f=some m:=by
 rw[aJ0];exact(gk (gk (gk (gk (gk (gk (gk AF FHasR.f404) FHasR.f487) FHasR.f567) FHasR.f486) FHasR.f566) FHasR.f562) FHasR.f565)
def dC (i:Nat):List Tr:=(((iy 3).drop (16*i)).take 16)
def lY (GL:T (List AV)) (t:Tr):Bool:=gM GL IX (λ_ _=>none) 100000 95 [eT t] (ι 0)
def lZ (GL:T (List AV)) (t:Tr):Bool:=gM GL IY (λ_ _=>none) 100000 404 [eT t] (ι 0)
end
end AM
