import Derived.Test.YtdmkaddihnnbaaaGreatDoorN6
import Derived.Test.YtdmkaddihnnbaaaGreatDoorN8
set_option linter.all false
set_option maxHeartbeats 4000000
namespace AM
open Go
noncomputable section
inductive Fr where
 |s (b:aw)
 |b (i:Nat)
section
variable (C:aK Prop)
def qW (K:K Prop):List Fr ->AM.K Prop
 |[]=>K
 | .s b::S=>λe τ h=>match e with| .normal=>gG C b (qW K S) τ h|e=>qW K S e τ h
 | .b i::S=>λe τ h=>match e with| .exit j=>(bif Nat.beq j i then qW K S .normal τ h else qW K S (.exit j) τ h)|e=>qW K S e τ h
def df (c:aw) (S:List Fr) (K:K Prop) (τ:T AV) (h:AH):Prop:=gG C c (qW C K S) τ h
def gV (e:pS) (S:List Fr) (K:K Prop) (τ:T AV) (h:AH):Prop:=qW C K S e τ h
def nxt (S:List Fr) (K:K Prop):T AV ->AH ->Prop:=λτ h=>qW C K S .normal τ h
def lu (l:List MG) (S:List Fr) (K:K Prop) (τ:T AV) (h:AH):Prop:=AY C (hM C) (oC C) (nxt C S K) l τ h
def IJ (l:List MG) (S:List Fr) (K:K Prop) (d:Option Nat) (τ:T AV):AV ->AH ->Prop:=λx h=>lu C l S K (cj τ d x) h
def oS (l:List MG) (S:List Fr) (K:K Prop) (d:Option Nat) (τ:T AV) (r:ay):Prop:=kO C (hM C) (oC C) (nxt C S K) l d τ r
def gS (l:List MG) (S:List Fr) (K:K Prop) (d:Option Nat) (op:Eb) (w:Bool) (τ:T AV) (h:AH) (r:Option AV):Prop:=kG C (hM C) (oC C) (nxt C S K) l d op w τ h r
def cS (a b:aw) (S:List Fr) (K:K Prop) (τ:T AV) (h:AH) (r:AV):Prop:=kC C (qW C K S) a b τ h r
def pj (base:Nat) (l:List DI) (ls:List (Nat×MG)) (pd:List (Nat×Nat×bC)) (S:List Fr) (K:K Prop) (τ:T AV) (h:AH):Prop:=bW C (hM C) (oC C) base (nxt C S K) l ls pd τ h
def lS (base:Nat) (i:Nat) (g:MG) (l:List DI) (ls:List (Nat×MG)) (pd:List (Nat×Nat×bC)) (S:List Fr) (K:K Prop) (τ:T AV) (h:AH) (r:Option AV):Prop:=kL C (hM C) (oC C) base (nxt C S K) i g l ls pd τ h r
def rS (base i id:Nat) (d:Option Nat) (l:List DI) (ls:List (Nat×MG)) (pd:List (Nat×Nat×bC)) (S:List Fr) (K:K Prop) (τ:T AV) (h:AH) (r:ay):Prop:=kR C (hM C) (oC C) base (nxt C S K) i id d l ls pd τ h r
def Bl (base i id:Nat) (x:AV) (d:Option Nat) (l:List DI) (ls:List (Nat×MG)) (pd:List (Nat×Nat×bC)) (S:List Fr) (K:K Prop) (τ:T AV) (h:AH) (r:Option bC):Prop:=Di C (hM C) (oC C) base (nxt C S K) i id x d l ls pd τ h r
def yS (base:Nat) (l:List DI) (ls:List (Nat×MG)) (pd:List (Nat×Nat×bC)) (S:List Fr) (K:K Prop) (τ:T AV) (h:AH) (r:Option (Nat×bC)):Prop:=kY C (hM C) (oC C) base (nxt C S K) l ls pd τ h r
def aS (base mask:Nat) (l:List DI) (ls:List (Nat×MG)) (pd:List (Nat×Nat×bC)) (S:List Fr) (K:K Prop) (τ:T AV) (h:AH) (ch:List (Nat×MG)):Prop:=kA C (hM C) (oC C) base (nxt C S K) mask l ls pd τ h ch
def IK (base mask:Nat) (d:Option Nat) (l:List DI) (ls:List (Nat×MG)) (pd:List (Nat×Nat×bC)) (S:List Fr) (K:K Prop) (τ:T AV):AV ->AH ->Prop:=λx h=>aS C base mask l ls pd S K (cj τ d x) h ls
def uW (base mask:Nat) (l:List DI) (ls:List (Nat×MG)) (pd:List (Nat×Nat×bC)) (S:List Fr) (K:K Prop) (τ:T AV) (h:AH) (ch:List (Nat×MG)) (y x:Option AV):Prop:=match x with
 |some x=>(match y with
  |some y=>if cZ 64 x y=true then aS C base mask l ls pd S K τ h ch else C.fail
  |none=>C.fail)
 |none=>C.fail
def hS (base mask:Nat) (d:Option Nat) (l:List DI) (ls:List (Nat×MG)) (pd:List (Nat×Nat×bC)) (S:List Fr) (K:K Prop) (τ:T AV) (r:ay):Prop:=kH C (hM C) (oC C) base (nxt C S K) mask d l ls pd τ r
def wQ (base mask:Nat) (d:Option Nat) (op:Eb) (w:Bool) (l:List DI) (ls:List (Nat×MG)) (pd:List (Nat×Nat×bC)) (S:List Fr) (K:K Prop) (τ:T AV) (h:AH) (r:Option AV):Prop:=Ax C (hM C) (oC C) base (nxt C S K) mask d op w l ls pd τ h r
def KF (k:AV ->AH ->Prop) (res:List (Nat×Option (Nat×Bool))):K Prop:=λe τ h=>match e with
 | .exit _=>False
 |_=>kQ k h (eZ τ h res)
end
section
variable {C:aK Prop} (hC:lQ C) {S:List Fr} {K:K Prop} {τ:T AV} {h:AH}
include hC
theorem aA2:df C .skip S K τ h↔gV C .normal S K τ h:=Nn hC
theorem aA3 {i}:df C (.exit i) S K τ h↔gV C (.exit i) S K τ h:=No hC
theorem aA4:df C .ret S K τ h↔gV C .ret S K τ h:=Np hC
theorem Rk {a b}:df C (.seq a b) S K τ h↔df C a (.s b::S) K τ h:=Nr hC
theorem aA5 {i a}:df C (.block i a) S K τ h↔df C a (.b i::S) K τ h:=Nt hC
theorem qj {a}:df C (.loop a) S K τ h↔df C a (.s (.loop a)::S) K τ h:=uM hC
theorem aA6 {x a b}:df C (.cond x a b) S K τ h↔cS C a b S K τ h (az C τ x):=Ou hC
theorem aA7 {l}:df C (.ops l) S K τ h↔lu C l S K τ h:=Nu hC
theorem aA8 {z l}:df C (.draw z l) S K τ h↔pj C h.next l [] [] S K τ ⟨h.next+z,h.ver,h.oB⟩:=Nv hC
theorem yN {f args k fn} (hf:C.ae.get f=some fn):du C f args h k↔df C fn.body [] (KF k fn.res) (oA args 0 .e) h:=ke hC hf
end
section
variable {C:aK Prop} {S:List Fr} {K:K Prop} {τ:T AV} {h:AH}
def aA9 {b}:gV C .normal (.s b::S) K τ h=df C b S K τ h:=rfl
def aB0 {i}:gV C .normal (.b i::S) K τ h=gV C .normal S K τ h:=rfl
def aB1 {j b}:gV C (.exit j) (.s b::S) K τ h=gV C (.exit j) S K τ h:=rfl
def aB2 {j i}:gV C (.exit j) (.b i::S) K τ h=if j=i then gV C .normal S K τ h else gV C (.exit j) S K τ h:=by
 show(bif Nat.beq j i then _ else _)=_;rw[bu,rM];rfl
def aB3 {b}:gV C .ret (.s b::S) K τ h=gV C .ret S K τ h:=rfl
def aB4 {i}:gV C .ret (.b i::S) K τ h=gV C .ret S K τ h:=rfl
def aB5 {k res}:gV C .normal [] (KF k res) τ h=kQ k h (eZ τ h res):=rfl
def aB6 {k res}:gV C .ret [] (KF k res) τ h=kQ k h (eZ τ h res):=rfl
def aB7:lu C [] S K τ h=gV C .normal S K τ h:=rfl
def D9 {d op l}:lu C (⟨d,op,none⟩::l) S K τ h=oS C l S K d τ (step (az C τ) h op):=G6
def aB8 {d op l t w}:lu C (⟨d,op,some (t,w)⟩::l) S K τ h=gS C l S K d op w τ h (τ.get t):=Ot
def IM {l d x}:oS C l S K (some d) τ (.v x h)=lu C l S K (τ.put d x) h:=rfl
def aB9 {l x}:oS C l S K none τ (.v x h)=lu C l S K τ h:=rfl
def aC0 {l d f a}:oS C l S K d τ (.call f a h)=hM C f a h (IJ C l S K d τ):=rfl
def aC1 {l d x}:IJ C l S K (some d) τ x h=lu C l S K (τ.put d x) h:=rfl
def aC2 {l x}:IJ C l S K none τ x h=lu C l S K τ h:=rfl
def aC3 {l d op w x}:gS C l S K (some d) op w τ h (some (.b x))=if x=w then oS C l S K (some d) τ (step (az C τ) h op) else lu C l S K (τ.put d (.tu [])) h:=rfl
def aC4 {l op w x}:gS C l S K none op w τ h (some (.b x))=if x=w then oS C l S K none τ (step (az C τ) h op) else lu C l S K τ h:=rfl
def aC5 {l d op w}:gS C l S K (some d) op w τ h (some (.tu []))=lu C l S K (τ.put d (.tu [])) h:=rfl
def aC6 {l op w}:gS C l S K none op w τ h (some (.tu []))=lu C l S K τ h:=rfl
def aC7 {a b t}:cS C a b S K τ h (.b t)=if t=true then df C a S K τ h else df C b S K τ h:=rfl
def aC8 {base ls pd}:pj C base [] ls pd S K τ h=gV C .normal S K τ h:=rfl
def aC9 {base i g l ls pd}:pj C base (.light i g::l) ls pd S K τ h=lS C base i g l ls pd S K τ h (y6 C τ h g):=Ov
def aD0 {base i n g l ls pd}:pj C base (.resv i n g::l) ls pd S K τ h=rS C base i (base+n) g.dst l ls pd S K τ h (step (az C τ) ⟨base+n,h.ver,.e⟩ g.op):=OB
def aD1 {base i l ls pd}:pj C base (.lay i::l) ls pd S K τ h=yS C base l ls pd S K τ h (iC i pd):=OC
def aD2 {base i d op mask l ls pd}:pj C base (.heavy i ⟨d,op,none⟩ mask::l) ls pd S K τ h=hS C base mask d l ls pd S K τ (step (az C τ) h op):=OE
def aD3 {base i d op t w mask l ls pd}:pj C base (.heavy i ⟨d,op,some (t,w)⟩ mask::l) ls pd S K τ h=wQ C base mask d op w l ls pd S K τ h (τ.get t):=OF
def aD4 {base i d op gd l ls pd x}:lS C base i ⟨some d,op,gd⟩ l ls pd S K τ h (some x)=pj C base l ((i,⟨some d,op,gd⟩)::ls) pd S K (τ.put d x) h:=rfl
def aD5 {base i op gd l ls pd x}:lS C base i ⟨none,op,gd⟩ l ls pd S K τ h (some x)=pj C base l ((i,⟨none,op,gd⟩)::ls) pd S K τ h:=rfl
def aD6 {base i id d l ls pd x h'}:rS C base i id d l ls pd S K τ h (.v x h')=Bl C base i id x d l ls pd S K τ h (h'.oB.get id):=rfl
def aD7 {base i id x d l ls pd ob}:Bl C base i id x (some d) l ls pd S K τ h (some ob)=pj C base l ls ((i,id,ob)::pd) S K (τ.put d x) h:=rfl
def aD8 {base i id x l ls pd ob}:Bl C base i id x none l ls pd S K τ h (some ob)=pj C base l ls ((i,id,ob)::pd) S K τ h:=rfl
def aD9 {base l ls pd id ob n v t}:yS C base l ls pd S K τ ⟨n,v,t⟩ (some (id,ob))=pj C base l ls pd S K τ ⟨n,v+1,t.put id ob⟩:=rfl
def aE0 {base mask d l ls pd x}:hS C base mask (some d) l ls pd S K τ (.v x h)=aS C base mask l ls pd S K (τ.put d x) h ls:=rfl
def aE1 {base mask l ls pd x}:hS C base mask none l ls pd S K τ (.v x h)=aS C base mask l ls pd S K τ h ls:=rfl
def aE2 {base mask d l ls pd f a}:hS C base mask d l ls pd S K τ (.call f a h)=hM C f a h (IK C base mask d l ls pd S K τ):=rfl
def aE3 {base mask d l ls pd x}:IK C base mask (some d) l ls pd S K τ x h=aS C base mask l ls pd S K (τ.put d x) h ls:=rfl
def aE4 {base mask l ls pd x}:IK C base mask none l ls pd S K τ x h=aS C base mask l ls pd S K τ h ls:=rfl
def aE5 {base mask d op w l ls pd x}:wQ C base mask (some d) op w l ls pd S K τ h (some (.b x))=if x=w then hS C base mask (some d) l ls pd S K τ (step (az C τ) h op) else aS C base mask l ls pd S K (τ.put d (.tu [])) h ls:=rfl
def aE6 {base mask op w l ls pd x}:wQ C base mask none op w l ls pd S K τ h (some (.b x))=if x=w then hS C base mask none l ls pd S K τ (step (az C τ) h op) else aS C base mask l ls pd S K τ h ls:=rfl
def aE7 {base mask d op w l ls pd}:wQ C base mask (some d) op w l ls pd S K τ h (some (.tu []))=aS C base mask l ls pd S K (τ.put d (.tu [])) h ls:=rfl
def aE8 {base mask op w l ls pd}:wQ C base mask none op w l ls pd S K τ h (some (.tu []))=aS C base mask l ls pd S K τ h ls:=rfl
def aE9 {base mask l ls pd}:aS C base mask l ls pd S K τ h []=pj C base l ls pd S K τ h:=rfl
def aF0 {base mask l ls pd i d op gd ch}:aS C base mask l ls pd S K τ h ((i,⟨some d,op,gd⟩)::ch)=if Nat.testBit mask i=true then aS C base mask l ls pd S K τ h ch else uW C base mask l ls pd S K τ h ch (τ.get d) (y6 C τ h ⟨some d,op,gd⟩):=by
 show kA .. =_;rw[OD];split;rfl;unfold Dj uW;cases y6 C τ h ⟨some d,op,gd⟩<;>rfl
def aF1 {base mask l ls pd ch x}:uW C base mask l ls pd S K τ h ch (some x) (some x)=if nice 64 x=true then aS C base mask l ls pd S K τ h ch else uW C base mask l ls pd S K τ h ch (some x) (some x):=by
 split;rename_i hn;show(if cZ 64 x x=true then _ else _)=_;rw[aF (NU 64 x hn)];rfl
def a2F (C:aK Prop) (base mask:Nat) (l:List DI) (ls:List (Nat×MG)) (pd:List (Nat×Nat×bC)) (S:List Fr) (K:AM.K Prop) (τ:T AV) (h:AH) (ch:List (Nat×MG)) (y x:Option AV):Prop:=uW C base mask l ls pd S K τ h ch y x
def aF2 {base mask l ls pd ch x}:uW C base mask l ls pd S K τ h ch (some x) (some x)=if nice 64 x=true then aS C base mask l ls pd S K τ h ch else a2F C base mask l ls pd S K τ h ch (some x) (some x):=aF1
@[congr] def bz9 {l d r r'} (e:r=r'):oS C l S K d τ r=oS C l S K d τ r':=by rw[e]
@[congr] def bA0 {l d op w r r'} (e:r=r'):gS C l S K d op w τ h r=gS C l S K d op w τ h r':=by rw[e]
@[congr] def bA1 {a b r r'} (e:r=r'):cS C a b S K τ h r=cS C a b S K τ h r':=by rw[e]
@[congr] def bA2 {base i g l ls pd r r'} (e:r=r'):lS C base i g l ls pd S K τ h r=lS C base i g l ls pd S K τ h r':=by rw[e]
@[congr] def bA3 {base i id b0 d l ls pd r r'} (e0:id=b0) (e:r=r'):rS C base i id d l ls pd S K τ h r=rS C base i b0 d l ls pd S K τ h r':=by rw[e0,e]
@[congr] def bA4 {base i id x d l ls pd r r'} (e:r=r'):Bl C base i id x d l ls pd S K τ h r=Bl C base i id x d l ls pd S K τ h r':=by rw[e]
@[congr] def bA5 {base l ls pd h' r r'} (e0:h=h') (e:r=r'):yS C base l ls pd S K τ h r=yS C base l ls pd S K τ h' r':=by rw[e0,e]
@[congr] def bA6 {base mask d l ls pd r r'} (e:r=r'):hS C base mask d l ls pd S K τ r=hS C base mask d l ls pd S K τ r':=by rw[e]
@[congr] def bA7 {base mask d op w l ls pd r r'} (e:r=r'):wQ C base mask d op w l ls pd S K τ h r=wQ C base mask d op w l ls pd S K τ h r':=by rw[e]
@[congr] def bA8 {base mask l ls pd ch y y' x x'} (e0:y=y') (e:x=x'):uW C base mask l ls pd S K τ h ch y x=uW C base mask l ls pd S K τ h ch y' x':=by rw[e0,e]
@[congr] def bA9 {k h r r'} (e:r=r'):kQ k h r=kQ k h r':=by rw[e]
@[congr] def bB0 {τ h op w r r'} (e:r=r'):kW C τ h op w r=kW C τ h op w r':=by rw[e]
end
section
def rO:Option (List AV) ->Option AV
 |some [v]=>some v
 |some l=>some (.tu l)
 |none=>none
def rC:Option AV ->Option (List AV) ->Option (List AV)
 |some a,some l=>some (a::l)
 |_,_=>none
def rD (n:Nat) (agg:Bool) (b0:Nat):Option (List AV) ->Option AV
 |some c=>(match sub c b0 n with|some c=>dB agg c|none=>none)
 |none=>none
def rE (n:Nat) (agg:Bool) (h:AH):Option AV ->Option AV
 |some (.p o off)=>rD n agg off (cG (h.oB.get o))
 |_=>none
def aF3 {τ h l}:eZ τ h l=rO (fY τ h l):=rfl
def aF4 {τ h}:fY τ h []=some []:=rfl
def aF5 {τ h t l}:fY τ h ((t,none)::l)=rC (τ.get t) (fY τ h l):=by
 unfold fY;rw[lJ];dsimp only;generalize eM _ l=y;cases τ.get t<;>cases y<;>rfl
def aF6 {τ h t n agg l}:fY τ h ((t,some (n,agg))::l)=rC (rE n agg h (τ.get t)) (fY τ h l):=by
 unfold fY;rw[lJ];dsimp only;generalize eM _ l=y;rcases τ.get t with _|v;cases y<;>rfl;cases v with
 |p o b0=>
  have e:cG (h.oB.get o)=h.cells o:=rfl;simp only[rE,e];rcases h.cells o with _|c;cases y<;>rfl;simp only[rD];rcases sub c b0 n with _|c;cases y<;>rfl;dsimp only;cases dB agg c<;>cases y<;>rfl
 |_=>cases y<;>rfl
def aF7 {v}:rO (some [v])=some v:=rfl
def aF8 {a b l}:rO (some (a::b::l))=some (.tu (a::b::l)):=rfl
def aF9 {a l}:rC (some a) (some l)=some (a::l):=rfl
def aG0 {n agg h o b0}:rE n agg h (some (.p o b0))=rD n agg b0 (cG (h.oB.get o)):=rfl
def rF (agg:Bool):Option (List AV) ->Option AV
 |some c=>dB agg c
 |none=>none
def aG1 {n agg b0 c}:rD n agg b0 (some c)=rF agg (sub c b0 n):=by show(match sub c b0 n with|some c=>dB agg c|none=>none)=_;cases sub c b0 n<;>rfl
def aG2 {agg c}:rF agg (some c)=dB agg c:=rfl
def syT:=ec @aF3<|ec @aF4<|ec @aF5<|ec @aF6<|ec @aF7<|ec @aF8<|ec @aF9<|ec @aG0<|ec @aG1 @aG2
end
section
variable {C:aK Prop}
def sA (hC:lQ C):=ec (@aA2 C hC)<|ec (@aA3 C hC)<|ec (@aA4 C hC)<|ec (@Rk C hC)<|ec (@aA5 C hC)<|ec (@aA6 C hC)<|ec (@aA7 C hC) (@aA8 C hC)
def syP:=ec (@aA9 C)<|ec (@aB0 C)<|ec (@aB1 C)<|ec (@aB2 C)<|ec (@aB3 C)<|ec (@aB4 C)<|ec (@aB5 C)<|ec (@aB6 C)<|ec (@aB7 C)<|ec (@D9 C)<|ec (@aB8 C)<|
 ec (@aC1 C)<|ec (@aC2 C)<|ec (@aC8 C)<|ec (@aC9 C)<|ec (@aD0 C)<|ec (@aD1 C)<|ec (@aD2 C)<|ec (@aD3 C)<|ec (@aE3 C)<|ec (@aE4 C)<|ec (@aE9 C)<|ec (@aF0 C)<|
 ec (@oD C)<|ec (@tB C)<|ec (@Oy C) (@Oz C)
def syK:=ec (@IM C)<|ec (@aB9 C)<|ec (@aC0 C)<|ec (@aC3 C)<|ec (@aC4 C)<|ec (@aC5 C)<|ec (@aC6 C)<|ec (@aC7 C)<|ec (@aD4 C)<|ec (@aD5 C)<|ec (@aD6 C)<|ec (@aD7 C)<|ec (@aD8 C)<|ec (@aD9 C)<|
 ec (@aE0 C)<|ec (@aE1 C)<|ec (@aE2 C)<|ec (@aE5 C)<|ec (@aE6 C)<|ec (@aE7 C)<|ec (@aE8 C)<|ec (@aF2 C)<|ec (@Ow C) (@Ox C)
end
def syG:=ec (@T.get_put AV)<|ec (@T.get_put bC)<|ec (@tg) (@lJ)
attribute [go_sem ↓] syP syG
attribute [go_sem] syK syT
end
end AM
namespace AM
open Go
def Sem.bS {P:Program} {X:aR} {GL:T (List AV)} {ae:T au} {C:aK Prop} (E:Sem P X GL ae C) {f:Nat} {args:List AV} {h:AH} {k:AV ->AH ->Prop} {fn:au} (hf:ae.get f=some fn) (r:df C fn.body [] (KF k fn.res) (oA args 0 .e) h):du C f args h k:=(yN E.ok (E.get hf)).2 r
def Sem.cB {P:Program} {X:aR} {GL:T (List AV)} {ae:T au} {C:aK Prop} (E:Sem P X GL ae C) {f:Nat} {args:List AV} {h:AH} {k:AV ->AH ->Prop} {fn:au} (hf:ae.get f=some fn):du C f args h k↔df C fn.body [] (KF k fn.res) (oA args 0 .e) h:=yN E.ok (E.get hf)
section
variable {f p q:Prop}
variable {a b:Int}
def QI{a b:Nat}(h:¬a=b):(a=b)=False:=dQ h
def Zd (h:¬a=b):(a=b)=False:=dQ h
def Ze (h:a=b):(a=b)=True:=fq h
def Zp (h:¬a<b):(a<b)=False:=dQ h
def Zu (h:a<b):(a<b)=True:=fq h
def ZB (h:¬a<=b):(a<=b)=False:=dQ h
def ZE (h:a<=b):(a<=b)=True:=fq h
def zkF{a b:Nat}(h:¬a<b):(a<b)=False:=dQ h
def zkT{a b:Nat}(h:a<b):(a<b)=True:=fq h
def yY(h:f)(e:f->p=q:=by have o:=Sem.ok (by assumption:Sem _ _ _ _ _);intro f;simp(disch:=omega) only[f,QI,Zd,Ze,Zp,Zu,ZB,ZE,zkF,zkT,h0,bK,oH,qV,bO3,↓sA o,ji,uf,Nat.reduceEqDiff,Nat.reduceAdd,Nat.reduceMul,Nat.reduceLT,Nat.reduceShiftRight,Nat.reduceAnd,Nat.reduceBneDiff,↓reduceIte,Int.reduceLT,Int.reduceLE,Int.reduceEq,go_sem]<;>exact rfl):p=q:=e h
def zZ(h:f)(e:f->p=q:=by have o:=Sem.ok (by assumption:Sem _ _ _ _ _);intro f;simp(disch:=first|omega|(simp(disch:=omega) only[f,QI,dh,oD,tB,T.get_put,d9,oI,pN,Nat.reduceEqDiff,reduceIte])) only[f,QI,Zd,Ze,Zp,Zu,ZB,ZE,zkF,zkT,h0,bK,oH,qV,bO3,↓sA o,ji,uf,Nat.reduceEqDiff,Nat.reduceAdd,Nat.reduceMul,Nat.reduceLT,Nat.reduceShiftRight,Nat.reduceAnd,Nat.reduceBneDiff,↓reduceIte,Int.reduceLT,Int.reduceLE,Int.reduceEq,go_sem]<;>exact rfl):p=q:=e h
def uU(h:f)(e:f->p:=by intro f;simp(disch:=omega) only[f,QI,dh,oD,tB,T.get_put,d9,oI,pN,Nat.reduceEqDiff,reduceIte,bV,dZ,oA,Nat.reduceAdd,gB,yJ,kE,jY,uf]<;>rfl):p:=e h
def wW(h:f)(k:q)(e:f->q->p:=by intro f k;simp(disch:=omega) only[f,QI,dh,oD,tB,T.get_put,d9,oI,pN,Nat.reduceEqDiff,reduceIte,bV,dZ,oA,Nat.reduceAdd,gB,yJ,kE,jY,uf];exact k):p:=e h k
variable {A B C D G H I J L M N O R S T U V W X Y Z AA AB AC AD AG AH AI AJ:Prop} (a:A) (b:B) (c:C) (d:D) (g:G) (h:H) (i:I) (j:J) (l:L) (m:M) (n:N) (o:O) (r:R) (s:S) (t:T) (u:U) (v:V) (w:W) (x:X) (y:Y) (z:Z) (aa:AA) (ab:AB) (ac:AC) (ad:AD) (ag:AG) (ah:AH) (ai:AI) (aj:AJ)
variable (k:q)
def Y0(e:True->p=q:=by intro f;exact yY @f):p:=(e ⟨⟩).mpr k
def Y1(e:A->p=q:=by intro f;exact yY @f):p:=(e a).mpr k
def Y2(e:A/\B->p=q:=by intro f;exact yY @f):p:=(e ⟨a,b⟩).mpr k
def Y3(e:A/\B/\C->p=q:=by intro f;exact yY @f):p:=(e ⟨a,b,c⟩).mpr k
def Y4(e:A/\B/\C/\D->p=q:=by intro f;exact yY @f):p:=(e ⟨a,b,c,d⟩).mpr k
def Y5(e:A/\B/\C/\D/\G->p=q:=by intro f;exact yY @f):p:=(e ⟨a,b,c,d,g⟩).mpr k
def Y6(e:A/\B/\C/\D/\G/\H->p=q:=by intro f;exact yY @f):p:=(e ⟨a,b,c,d,g,h⟩).mpr k
def Y7(e:A/\B/\C/\D/\G/\H/\I->p=q:=by intro f;exact yY @f):p:=(e ⟨a,b,c,d,g,h,i⟩).mpr k
def Y8(e:A/\B/\C/\D/\G/\H/\I/\J->p=q:=by intro f;exact yY @f):p:=(e ⟨a,b,c,d,g,h,i,j⟩).mpr k
def Y9(e:A/\B/\C/\D/\G/\H/\I/\J/\L->p=q:=by intro f;exact yY @f):p:=(e ⟨a,b,c,d,g,h,i,j,l⟩).mpr k
def nS(e:A/\B/\C/\D/\G/\H/\I/\J/\L/\M->p=q:=by intro f;exact yY @f):p:=(e ⟨a,b,c,d,g,h,i,j,l,m⟩).mpr k
def jC(e:A/\B/\C/\D/\G/\H/\I/\J/\L/\M/\N->p=q:=by intro f;exact yY @f):p:=(e ⟨a,b,c,d,g,h,i,j,l,m,n⟩).mpr k
def iU(e:A/\B/\C/\D/\G/\H/\I/\J/\L/\M/\N/\O->p=q:=by intro f;exact yY @f):p:=(e ⟨a,b,c,d,g,h,i,j,l,m,n,o⟩).mpr k
def pm(e:A/\B/\C/\D/\G/\H/\I/\J/\L/\M/\N/\O/\R->p=q:=by intro f;exact yY @f):p:=(e ⟨a,b,c,d,g,h,i,j,l,m,n,o,r⟩).mpr k
def qk(e:A/\B/\C/\D/\G/\H/\I/\J/\L/\M/\N/\O/\R/\S->p=q:=by intro f;exact yY @f):p:=(e ⟨a,b,c,d,g,h,i,j,l,m,n,o,r,s⟩).mpr k
def sB(e:A/\B/\C/\D/\G/\H/\I/\J/\L/\M/\N/\O/\R/\S/\T->p=q:=by intro f;exact yY @f):p:=(e ⟨a,b,c,d,g,h,i,j,l,m,n,o,r,s,t⟩).mpr k
def pq(e:A/\B/\C/\D/\G/\H/\I/\J/\L/\M/\N/\O/\R/\S/\T/\U->p=q:=by intro f;exact yY @f):p:=(e ⟨a,b,c,d,g,h,i,j,l,m,n,o,r,s,t,u⟩).mpr k
def Bm(e:A/\B/\C/\D/\G/\H/\I/\J/\L/\M/\N/\O/\R/\S/\T/\U/\V/\W/\X/\Y/\Z->p=q:=by intro f;exact yY @f):p:=(e ⟨a,b,c,d,g,h,i,j,l,m,n,o,r,s,t,u,v,w,x,y,z⟩).mpr k
def Y22(e:A/\B/\C/\D/\G/\H/\I/\J/\L/\M/\N/\O/\R/\S/\T/\U/\V/\W/\X/\Y/\Z/\AA->p=q:=by intro f;exact yY @f):p:=(e ⟨a,b,c,d,g,h,i,j,l,m,n,o,r,s,t,u,v,w,x,y,z,aa⟩).mpr k
def Z0(e:True->p=q:=by intro f;exact zZ @f):p:=(e ⟨⟩).mpr k
def Z1(e:A->p=q:=by intro f;exact zZ @f):p:=(e a).mpr k
def Z2(e:A/\B->p=q:=by intro f;exact zZ @f):p:=(e ⟨a,b⟩).mpr k
def Z3(e:A/\B/\C->p=q:=by intro f;exact zZ @f):p:=(e ⟨a,b,c⟩).mpr k
def Z4(e:A/\B/\C/\D->p=q:=by intro f;exact zZ @f):p:=(e ⟨a,b,c,d⟩).mpr k
def Z5(e:A/\B/\C/\D/\G->p=q:=by intro f;exact zZ @f):p:=(e ⟨a,b,c,d,g⟩).mpr k
def Z6(e:A/\B/\C/\D/\G/\H->p=q:=by intro f;exact zZ @f):p:=(e ⟨a,b,c,d,g,h⟩).mpr k
def Z7(e:A/\B/\C/\D/\G/\H/\I->p=q:=by intro f;exact zZ @f):p:=(e ⟨a,b,c,d,g,h,i⟩).mpr k
def Z8(e:A/\B/\C/\D/\G/\H/\I/\J->p=q:=by intro f;exact zZ @f):p:=(e ⟨a,b,c,d,g,h,i,j⟩).mpr k
def Z9(e:A/\B/\C/\D/\G/\H/\I/\J/\L->p=q:=by intro f;exact zZ @f):p:=(e ⟨a,b,c,d,g,h,i,j,l⟩).mpr k
def qX(e:A/\B/\C/\D/\G/\H/\I/\J/\L/\M->p=q:=by intro f;exact zZ @f):p:=(e ⟨a,b,c,d,g,h,i,j,l,m⟩).mpr k
def sC(e:A/\B/\C/\D/\G/\H/\I/\J/\L/\M/\N->p=q:=by intro f;exact zZ @f):p:=(e ⟨a,b,c,d,g,h,i,j,l,m,n⟩).mpr k
def lX(e:A/\B/\C/\D/\G/\H/\I/\J/\L/\M/\N/\O->p=q:=by intro f;exact zZ @f):p:=(e ⟨a,b,c,d,g,h,i,j,l,m,n,o⟩).mpr k
def qt(e:A/\B/\C/\D/\G/\H/\I/\J/\L/\M/\N/\O/\R->p=q:=by intro f;exact zZ @f):p:=(e ⟨a,b,c,d,g,h,i,j,l,m,n,o,r⟩).mpr k
def wR(e:A/\B/\C/\D/\G/\H/\I/\J/\L/\M/\N/\O/\R/\S->p=q:=by intro f;exact zZ @f):p:=(e ⟨a,b,c,d,g,h,i,j,l,m,n,o,r,s⟩).mpr k
def sD(e:A/\B/\C/\D/\G/\H/\I/\J/\L/\M/\N/\O/\R/\S/\T/\U->p=q:=by intro f;exact zZ @f):p:=(e ⟨a,b,c,d,g,h,i,j,l,m,n,o,r,s,t,u⟩).mpr k
def IN(e:A/\B/\C/\D/\G/\H/\I/\J/\L/\M/\N/\O/\R/\S/\T/\U/\V/\W/\X->p=q:=by intro f;exact zZ @f):p:=(e ⟨a,b,c,d,g,h,i,j,l,m,n,o,r,s,t,u,v,w,x⟩).mpr k
def IP(e:A/\B/\C/\D/\G/\H/\I/\J/\L/\M/\N/\O/\R/\S/\T/\U/\V/\W/\X/\Y/\Z/\AA->p=q:=by intro f;exact zZ @f):p:=(e ⟨a,b,c,d,g,h,i,j,l,m,n,o,r,s,t,u,v,w,x,y,z,aa⟩).mpr k
def Rn(e:A/\B/\C/\D/\G/\H/\I/\J/\L/\M/\N/\O/\R/\S/\T/\U/\V/\W/\X/\Y/\Z/\AA/\AB->p=q:=by intro f;exact zZ @f):p:=(e ⟨a,b,c,d,g,h,i,j,l,m,n,o,r,s,t,u,v,w,x,y,z,aa,ab⟩).mpr k
def W0(e:True->q->p:=by intro f k;exact wW @f k):p:=e ⟨⟩ k
def U0(e:True->p:=by intro f;exact uU @f):p:=e ⟨⟩
def U1(e:A->p:=by intro f;exact uU @f):p:=e a
def U2(e:A/\B->p:=by intro f;exact uU @f):p:=e ⟨a,b⟩
def U3(e:A/\B/\C->p:=by intro f;exact uU @f):p:=e ⟨a,b,c⟩
def U4(e:A/\B/\C/\D->p:=by intro f;exact uU @f):p:=e ⟨a,b,c,d⟩
def U5(e:A/\B/\C/\D/\G->p:=by intro f;exact uU @f):p:=e ⟨a,b,c,d,g⟩
def U6(e:A/\B/\C/\D/\G/\H->p:=by intro f;exact uU @f):p:=e ⟨a,b,c,d,g,h⟩
def U7(e:A/\B/\C/\D/\G/\H/\I->p:=by intro f;exact uU @f):p:=e ⟨a,b,c,d,g,h,i⟩
def Bo(e:A/\B/\C/\D/\G/\H/\I/\J/\L/\M->p:=by intro f;exact uU @f):p:=e ⟨a,b,c,d,g,h,i,j,l,m⟩
def U11(e:A/\B/\C/\D/\G/\H/\I/\J/\L/\M/\N->p:=by intro f;exact uU @f):p:=e ⟨a,b,c,d,g,h,i,j,l,m,n⟩
end
end AM
namespace AM
open Dg Go
noncomputable section
variable {P:Program} {X:aR} {GL:T (List AV)} {ae:T au}
def Ed (a b:Br):eH 6 (.ag [(0,1,false,(.lf .i)),(1,1,false,(.lf .i)),(2,1,false,(.lf .i))]) (.ag [ι (a.1:Int),ι (a.2.1:Int),ι (a.2.2:Int)]) (.ag [ι (b.1:Int),ι (b.2.1:Int),ι (b.2.2:Int)])=some (decide (a=b)):=yG.eq a b
variable {B:List Br}
def IQ:(dK B).length=B.length*3:=DZ B
def gN.cG {g:Nat ->Option bC} {o:Nat} {B:List Br} {a:AV} (n:gN g o B a) (hb:B≠[]):cG (g o)=some (dK B)/\ a= .sl o 0 B.length none 3:=by
 rcases n with ⟨h,_⟩|⟨_,h1,v,h2⟩;exact bh h hb;rw[h2];exact⟨rfl,h1⟩
variable {o:Nat}
def gN.of {g} (hb:B≠[]) (h:AM.cG (g o)=some (dK B)):gN g o B (.sl o 0 B.length none 3):=by
 refine .inr ⟨hb,rfl,?_⟩;generalize g o=x at h
 match x with
 |some (.cells v l)=>exact⟨v,by rw[d9] at h;cases h;rfl⟩
 |none=>cases h
 |some (.map _ _ _)=>cases h
 |some .gone=>cases h
variable (S:aT P X GL ae) {C:aK Prop} (E:Sem P X GL ae C)
variable {n:Nat} {h:AH}
def aG3 {b} (hB:cG (h.oB.get o)=some (dK B)) (hb:cG (h.oB.get n)=some [ι (b.1:Int),ι (b.2.1:Int),ι (b.2.2:Int)]) (eQ:B.length+1<=1000000) S₀ K
 (b0:∀(j) τ,B[j]? =some b ->τ.get 4=some (.sl o 0 B.length none 3) ->τ.get 5=some (ι ((j+2:Nat):Int)) ->gV C .ret S₀ K τ h)
 (b3:∀τ,(∀j:Nat,B[j]?≠some b) ->τ.get 0=some (.sl o 0 B.length none 3) ->τ.get 3=some (.p n 0) ->gV C (.exit 0) S₀ K τ h):
 ∀d i,i+d=B.length ->(∀j:Nat,j<i ->B[j]?≠some b) ->∀τ:T AV,τ.get 0=some (.sl o 0 B.length none 3) ->τ.get 3=some (.p n 0) ->τ.get 6=some (ι (i)) ->df C (.loop bO2) S₀ K τ h:=by
 intro d;obtain⟨n1,ver,ob⟩:=h;dsimp only at hB hb;induction d with
 |zero=>
  intro i hi b2 τ t0 t3 t6;rw[qj E.ok];refine Y3 t0 t6 @bI ?_;refine b3 _ (λj=> ?_) (U1 t0) (U1 t3);by_cases hj:j<i;exact b2 j hj;rw[rI ω];simp
 |succ d ih=>
  intro i hi b2 τ t0 t3 t6;have aV:i<B.length:=by omega
  have b1:B[i]? =some B[i]:=oc aV;have e4:sub (dK B) (i*3) 3=some [ι (B[i].1:Int),ι (B[i].2.1:Int),ι (B[i].2.2:Int)]:=by have:=nQ b1 0 3 ω;simpa[gH] using this
  rw[qj E.ok];by_cases e:B[i]=b;have ad:aY .add (ι (i:Int)) (ι 2)=some (ι ((i+2:Nat):Int)):=oH (b:=2) ω;refine sC t0 t3 t6 hB hb e4 @Ed e aV ad @bI ?_;refine b0 i _ (by rw[b1,e]) ?_ ?_<;>exact U0
  ·refine qX t0 t3 t6 hB hb e4 @Ed e aV @bI ?_;refine ih (i+1) ω (λj hj=> ?_) _ ?_ ?_ ?_;by_cases b4:j<i;exact b2 j b4;have:j=i:=by omega
   subst this;rw[b1];simpa using e;all_goals exact U2 t0 t3
variable {v:Nat}
def IR {l hh:Nat}:dK B++[ι (v:Int),ι (l:Int),ι (hh:Int)]=dK (B++[(v,l,hh)]):=by rw[Ix];rfl
variable {a:AV}
variable (F:eL ae)
def aG4 (na:gN h.oB.get o B a) (ho:B≠[] ->o<h.next) {l hh} (eQ:B.length+1<=100000) k
 (hk:∀r B' o' a' h',gN h'.oB.get o' B' a' ->h.next<=h'.next ->(∀j,j<h.next ->(B≠[] ->j≠o) ->h'.oB.get j=h.oB.get j) ->(B'≠[] ->(B≠[]/\ o'=o)∨h.next<=o') ->(B'≠[] ->o'<h'.next) ->
  (l=hh/\ r=l/\ B'=B)∨(l≠hh/\∃i:Nat,r=i+2/\ B'[i]? =some (v,l,hh)/\ (B'=B∨(B'=B++[(v,l,hh)]/\∀j:Nat,B[j]?≠some (v,l,hh)))) ->k (.tu [a',ι (r)]) h'):
 du C 562 [a,.ag [ι (v),ι (l),ι (hh)]] h k:=by
 obtain⟨n,ver,ob⟩:=h;have bT:B≠[] ->o<n:=ho;rw[E.cB F.f562];by_cases e:l=hh;have e':((l:Int)=(hh:Int))=True:=cJ;have sa:nice 64 a=true:=by rcases na with ⟨_,rfl⟩|⟨_,rfl,_⟩<;>rfl
 refine Y4 @Ip.eq_1 e' sa @bI ?_;refine hk l B o a _ ?_ (by show n<=n+1;omega) (λj hj _=> ?_) (λhb=> .inl ⟨hb,rfl⟩) (λhb=>by have:=bT hb;show o<n+1;omega) (.inl ⟨e,rfl,rfl⟩);refine na.mono λhb=> ?_;have:=bT hb;exact U0;have m9:j<n:=hj;exact U0;have e':((l:Int)=(hh:Int))=False:=av;by_cases hB:B=[];subst hB;have ha:a= .sn:=by
  rcases na with ⟨_,h⟩|⟨h,_⟩;exact h;exact bh rfl h
 subst ha;have sl:∀(τ:T AV) x h,az C τ x= .sn ->step (az C τ) h (.len .slice x)= .v (ι 0) h:=λτ x h e=>by rw[yd,e]
 have zz:((0:Int)<0)=False:=av;refine Y3 @Ip.eq_1 e' @bI ?_;rw[qj E.ok];refine Z6 @iP e' zz sl @bK @bI ?_;refine hk 2 [(v,l,hh)] (n+1+1) _ _ (gN.of (B:=[(v,l,hh)]) (by simp) U0) (by show n<=n+1+1+1;omega) (λj hj _=> ?_) (λ_=> .inr (by show n<=n+1+1;omega)) (λ_=>by show n+1+1<n+1+1+1;omega) (.inr ⟨e,0,rfl,rfl,.inr ⟨rfl,λj=>by simp⟩⟩);have m9:j<n:=hj;exact U0
 ·obtain⟨hc,ha⟩:=na.cG hB;have b5:=bT hB;subst ha;dsimp only at hc;refine Y3 @Ip.eq_1 e' @bI ?_;refine aG3 E (b:=(v,l,hh)) (n:=n) (o:=o) (B:=B) ?_ ?_ ω _ _ ?_ ?_ B.length 0 ω (λj hj=>by omega) _ ?_ ?_ ?_;exact U1 hc;exact U0;intro j τ hj t4 t5;refine Y3 t4 t5 @bI ?_;refine hk (j+2) B o _ _ (gN.of hB (U1 hc)) (by show n<=n+1;omega) (λi hi b4=> ?_) (λhb=> .inl ⟨hb,rfl⟩) (λhb=>by show o<n+1;omega) (.inr ⟨e,j,rfl,hj,.inl rfl⟩);have hi':i<n:=hi;exact U0;intro τ b2 t0 t3;have b0:B.length+1<=1048576:=by omega
  refine Z8 @iP t0 t3 hc b0 @bK @IQ @bI ?_;have hl:B.length+1=(B++[(v,l,hh)]).length:=by simp
  rw[show AV.sl (n+1+1) 0 (B.length+1) none 3= .sl (n+1+1) 0 (B++[(v,l,hh)]).length none 3 by rw[hl]];refine hk (B.length+1+1) (B++[(v,l,hh)]) (n+1+1) _ _ (gN.of (by simp) (U1 @IR)) (by show n<=n+1+1+1;omega) (λj hj b1=> ?_) (λ_=> .inr (by show n<=n+1+1;omega)) (λ_=>by show n+1+1<n+1+1+1;omega) (.inr ⟨e,B.length,rfl,by simp,.inr ⟨rfl,b2⟩⟩);have m9:j<n:=hj;have b3:=b1 hB;exact U0;all_goals exact U0
def oJ:Nat ->Bool ->Bool ->Bool
 |0=>λx y=>x&&y
 |1=>λx y=>x||y
 |_=>λx y=>x !=y
def bN (b:Bool):Nat:=if b then 1 else 0
def aG5 {p op:Nat} (b7:op<3) {A:List AV} {a0 a1 a2 a3 a5 a6} (hc:cG (h.oB.get p)=some [a0,a1,a2,a3,ι (op),a5,a6]) x y k
 (hk:k (ι (bN (oJ op x y):Int)) h):du C 559 [.p p 0,ι (bN x),ι (bN y)] h k:=by
 obtain⟨n,ver,ob⟩:=h;dsimp only at hc;have b3:aY .mul (ι 0) (ι 0)=some (ι 0):=rfl;have b4:aY .mul (ι 0) (ι 1)=some (ι 0):=rfl;have b5:aY .mul (ι 1) (ι 0)=some (ι 0):=rfl;have b6:aY .mul (ι 1) (ι 1)=some (ι 1):=rfl;have b0:aY .add (ι 0) (ι 0)=some (ι 0):=rfl;have b1:aY .add (ι 0) (ι 1)=some (ι 1):=rfl;have a10:aY .add (ι 1) (ι 0)=some (ι 1):=rfl;have b2:aY .add (ι 1) (ι 1)=some (ι 2):=rfl;have r0:aY .rem (ι 0) (ι 2)=some (ι 0):=rfl;have r1:aY .rem (ι 1) (ι 2)=some (ι 1):=rfl;have r2:aY .rem (ι 2) (ι 2)=some (ι 0):=rfl;have c1:((1:Nat):Int)=1:=rfl;have c2:((2:Nat):Int)=2:=rfl;rw[E.cB F.f559];have:op=0∨op=1∨op=2:=by omega
 rcases this with rfl|rfl|rfl<;>cases x<;>cases y<;>
  (
   simp only[bN,oJ,nr,bV,dZ,A7,FK,pP,Bool.or_self,Bool.or_true,Bool.true_or,bne_self_eq_false] at hk ⊢;refine pq @jP hc c1 c2 b3 b4 b5 b6 b0 b1 a10 b2 r0 r1 r2 @bI ?_;exact hk)
def aG6 (E:Sem P X GL ae C) {p q x y} {S:List Br} {a0 a1 a2 a3 a4 a5} (hc:cG (h.oB.get p)=some [a0,a1,a2,a3,a4,a5,.sl q 0 S.length none 3]) (hq:cG (h.oB.get q)=some (dK S)) (eQ:S.length+1<=1000000) S₀ K
 (b2:∀(j r:Nat) τ,S[j]? =some (x,y,r) ->τ.get 6=some (ι (r)) ->gV C .ret S₀ K τ h)
 (b3:∀τ,τ.get 0=some (.p p 0) ->τ.get 1=some (ι (x)) ->τ.get 2=some (ι (y)) ->gV C (.exit 0) S₀ K τ h):
 ∀d i,i+d=S.length ->∀τ:T AV,τ.get 0=some (.p p 0) ->τ.get 1=some (ι (x)) ->τ.get 2=some (ι (y)) ->τ.get 7=some (ι (i)) ->df C (.loop bN9) S₀ K τ h:=by
 intro d;obtain⟨n1,ver,ob⟩:=h;dsimp only at hc hq;induction d with
 |zero=>
  intro i hi τ t0 t1 t2 t7;rw[qj E.ok];refine Y4 t0 t7 hc @bI ?_;refine b3 _ ?_ ?_ ?_<;>exact U3 t0 t1 t2
 |succ d ih=>
  intro i hi τ t0 t1 t2 t7;have aV:i<S.length:=by omega
  have b1:S[i]? =some S[i]:=oc aV;have e0:sub (dK S) (i*3) 1=some [ι (S[i].1:Int)]:=by have:=nQ b1 0 1 ω;simpa[gH] using this
  have e1:sub (dK S) (i*3+1) 1=some [ι (S[i].2.1:Int)]:=by have:=nQ b1 1 1 ω;simpa[gH] using this
  have e2:sub (dK S) (i*3+2) 1=some [ι (S[i].2.2:Int)]:=by have:=nQ b1 2 1 ω;simpa[gH] using this
  rw[qj E.ok];by_cases ex:S[i].1=x;by_cases ey:S[i].2.1=y;have b0:((S[i].1:Int)=(x:Int))=True:=cJ;refine lX t0 t1 t2 t7 hc hq e0 e1 e2 b0 aV @bI ?_;refine b2 i S[i].2.2 _ (by rw[b1,←ex,←ey]) ?_;exact U0;have b0:((S[i].1:Int)=(x:Int))=True:=cJ;refine sC t0 t1 t2 t7 hc hq e0 e1 b0 aV @bI ?_;refine ih (i+1) ω _ ?_ ?_ ?_ ?_<;>exact U3 t0 t1 t2;have b0:((S[i].1:Int)=(x:Int))=False:=av;refine Z9 t0 t1 t7 hc hq e0 b0 aV @bI ?_;refine ih (i+1) ω _ ?_ ?_ ?_ ?_<;>exact U3 t0 t1 t2
structure AS (NA NB:List Br) (ra rb op p:Nat) (B:List Br) (o:Nat) (Sn:List Br) (q:Nat) (h:AH):Prop where
 c:∃a s,cG (h.oB.get p)=some [tp NA,ι (ra:Int),tp NB,ι (rb:Int),ι (op:Int),a,s]/\ gN h.oB.get o B a/\ gN h.oB.get q Sn s
 lp:p<h.next
 lo:B≠[] ->p<o/\ o<h.next
 lq:Sn≠[] ->p<q/\ q<h.next
 oq:B≠[] ->Sn≠[] ->o≠q
def IS (g:Bool ->Bool ->Bool) (NA NB B Sn:List Br):Prop:=∀x y r:Nat,(x,y,r)∈Sn ->In NA x ->In NB y ->nR g NA NB B x y r
def Rp (ok:OK B) (h:In B n):(n<2/\ pl B n=64/\ bR B n=3)∨(¬n<2/\ pl B n=bR B n/\ bR B n<3):=by
 rcases h.cases with h1|⟨i,b,rfl,hb⟩;exact .inl ⟨h1,by simp[pl,h1],oG h1⟩;refine .inr ⟨by omega,by simp[pl,show¬(i+2<2) by omega],?_⟩;rw[gy hb];exact ok.v _ _ hb
def aG7 {g NA NB} x y:nR g NA NB B (bN x) (bN y) (bN (g x y)):=by
 have b2:∀b,bN b<2:=by intro b;cases b<;>simp[bN]
 refine⟨In.small (b2 _),λk h1 h2 h3=> ?_⟩;rw[oG (b2 _)];refine⟨by omega,?_⟩;have key:∀(j:Nat) (B':List Br) (z:Nat),z<2 ->tr B' (j+1) z= .n (tr B' j z) (tr B' j z):=λj B' z hz=>by simp only[tr];rw[tF hz,tG hz]
 clear h1 h2 h3;induction k with
 |zero=>
  have e:∀b,(bN b==1)=b:=by intro b;cases b<;>rfl
  simp only[tr,cY,e]
 |succ j ih=>rw[key j B _ (b2 _),key j NA _ (b2 _),key j NB _ (b2 _),ih];rfl
def Rq {x} (h:x<2):∃b,x=bN b:=by
 rcases(show x=0∨x=1 by omega) with rfl|rfl;exact⟨false,rfl⟩;exact⟨true,rfl⟩
def aG8 (S:aT P X GL ae) (E:Sem P X GL ae C) (F:eL ae) {NA NB ra rb op p} (h3:op<3) (ax:OK NA) (b2:OK NB) (la:NA.length<=4096) (lb:NB.length<=4096):
 ∀d x y B o Sn q h k,d=3-min (bR NA x) (bR NB y) ->In NA x ->In NB y ->AS NA NB ra rb op p B o Sn q h ->OK B ->IS (oJ op) NA NB B Sn ->B.length+2^d<=50000 ->Sn.length+2^d<=50000 ->
  (∀r B' o' Sn' q' h',AS NA NB ra rb op p B' o' Sn' q' h' ->OK B' ->IS (oJ op) NA NB B' Sn' ->(∃D,B'=B++D) ->B'.length+1<=B.length+2^d ->Sn'.length+1<=Sn.length+2^d ->(∀j,j<p ->h'.oB.get j=h.oB.get j) ->h.next<=h'.next ->nR (oJ op) NA NB B' x y r ->k (ι (r)) h') ->
  du C 483 [.p p 0,ι (x),ι (y)] h k:=by
 intro d;induction d using Nat.strongRecOn with
 |ind d IH=>
 intro x y B o Sn q h k hd hx hy a_ okb so hb1 hb2 hk;have i6:1<=2^d:=Co;obtain⟨n,ver,ob⟩:=h;obtain⟨a,s,hc,na,ns⟩:=a_.c;have lp:p<n:=a_.lp;dsimp only at hc;rw[E.cB F.f483];by_cases hs:x<2/\ y<2;obtain⟨bx,rfl⟩:=Rq hs.1;obtain⟨b7,rfl⟩:=Rq hs.2;have x2:(((bN bx:Nat):Int)<2)=True:=fq (by have:=hs.1;omega);have y2:(((bN b7:Nat):Int)<2)=True:=fq (by have:=hs.2;omega);refine Y4 @PW.eq_1 x2 y2 @bI ?_;refine E.run (aG5 E F h3 (p:=p) (A:=[]) hc bx b7 _ ?_);refine Y1 @bI ?_;exact hk (bN (oJ op bx b7)) B o Sn q _ a_ okb so ⟨[],by simp⟩ ω ω (λ_ _=>rfl) (bB _) (aG7 bx b7);have k1:=Id ax hx;have k2:=Id b2 hy;have px:=Rp ax hx;have py:=Rp b2 hy;obtain⟨v,h5⟩:∃v,min (bR NA x) (bR NB y)=v:=⟨_,rfl⟩;have b4:v<3:=by omega
 have mn:(if (pl NB y:Int)<(pl NA x:Int) then (pl NB y:Int) else (pl NA x:Int))=(v:Int):=by split<;>omega
 have ca:bP P X GL 560 [eD (NA,ra),ι (x:Int)] ⟨n,ver,ob⟩ (ι (pl NA x:Int)) ⟨n,ver,ob⟩:=II S F hx la _;have cb:bP P X GL 560 [eD (NB,rb),ι (y:Int)] ⟨n,ver,ob⟩ (ι (pl NB y:Int)) ⟨n,ver,ob⟩:=II S F hy lb _;have g6:∀τ:T AV,τ.get 0=some (.p p 0) ->τ.get 1=some (ι (x:Int)) ->τ.get 2=some (ι (y:Int)) ->
  df C (.seq YK YL) [] (KF k [(6,none)]) τ ⟨n,ver,ob⟩:=by
  intro τ t0 t1 t2;refine Y5 t0 t1 t2 hc @bI ?_;refine E.cN ca (Y5 t0 t1 t2 hc @bI ?_);refine E.cN cb (Y7 @jP mn t0 t1 t2 hc @bI ?_);refine E.cN (Rg (r:=ra) S F hx la ω _) (Y5 t0 t1 t2 hc @bI ?_);refine E.cN (Rg (r:=rb) S F hy lb ω _) (Y5 t0 t1 t2 hc @bI ?_);have lx:=si ax (v:=v) hx ω b4;have ly:=si b2 (v:=v) hy ω b4;have mx:=sj ax (v:=v) hx ω b4;have my:=sj b2 (v:=v) hy ω b4;have k0:1<=d:=by omega
  have pw:2^d=2*2^(d-1):=by rw[←Cq];congr 1;omega
  have k4:2^(3-min (bR NA (lo NA x v)) (bR NB (lo NB y v)))<=2^(d-1):=rJ ω ω;have k5:2^(3-min (bR NA (hi NA x v)) (bR NB (hi NB y v)))<=2^(d-1):=rJ ω ω;refine E.run (IH (3-min (bR NA (lo NA x v)) (bR NB (lo NB y v))) ω (lo NA x v) (lo NB y v) B o Sn q _ _ rfl (wK ax hx) (wK b2 hy) a_ okb so ω ω ?_);rintro r1 B1 o1 S1 q1 h1 g7 g1 i3 ⟨D1,rfl⟩ i8 j2 dD i0 g4;refine Y4 t0 t1 t2 @bI ?_;refine E.run (IH (3-min (bR NA (hi NA x v)) (bR NB (hi NB y v))) ω (hi NA x v) (hi NB y v) (B++D1) o1 S1 q1 h1 _ rfl (wL ax hx) (wL b2 hy) g7 g1 i3 ω ω ?_);rintro r2 B2 o2 S2 q2 ⟨n2,j4,aJ⟩ b0 g2 i4 ⟨D2,rfl⟩ i9 j3 eG i1 g5;obtain⟨a2,s2,d2,h9,g0⟩:=b0.c;dsimp only at d2;refine Y5 t0 t1 t2 d2 @bI ?_;refine E.run (aG4 E F h9 (λhb=>(b0.lo hb).2) (by simp only[dy] at*;omega) _ ?_);rintro r B' o' a' ⟨n3,j8,cC⟩ b5 i2 b3 c6 h8 spec;have h6:p<n2:=b0.lp;have j1:n2<=n3:=i2;have d6:cG (cC.get p)=some [tp NA,ι (ra:Int),tp NB,ι (rb:Int),ι (op:Int),a2,s2]:=by
   rw[show cC.get p=aJ.get p from b3 p h6 (λhb=>by have:=(b0.lo hb).1;omega)];exact d2
  obtain⟨g3,b6,d0,j0⟩:=Q8 ax b2 g2 hx hy h5 b4 (g4.ext g1 D2) g5 spec;have f9:∀Sn',(∀t∈Sn',t∈S2∨t=(x,y,r)) ->IS (oJ op) NA NB B' Sn':=by
   intro Sn' hS x' y' r' hm hx' hy';rcases hS _ hm with h1|h1;obtain⟨D,rfl⟩:=d0;exact(i4 x' y' r' h1 hx' hy').ext g2 D;simp only[xK] at h1;obtain⟨rfl,rfl,rfl⟩:=h1;exact b6
  have d1:∃D,B'=B++D:=by obtain⟨D,rfl⟩:=d0;exact⟨D1++D2++D,by simp[nz]⟩
  have b8:B'.length+1<=B.length+2^d:=by simp only[dy] at*;omega
  have k3:n<=n3:=by have e1:n<=h1.next:=i0;have e2:h1.next<=n2:=i1;omega
  have c7:∀j,j<p ->cC.get j=ob.get j:=λj hj=>by
   rw[show cC.get j=aJ.get j from b3 j (by show j<n2;omega) (λhb=>by have:=(b0.lo hb).1;omega),show aJ.get j=_ from eG j hj];exact dD j hj
  have b1:B'≠[] ->p<o'/\ o'<n3:=λhb=>⟨by
   rcases c6 hb with ⟨h1,rfl⟩|h1;exact(b0.lo h1).1;have h2:n2<=o':=h1;omega,h8 hb⟩
  have sa:ew a'=true:=by rcases b5 with ⟨_,rfl⟩|⟨_,rfl,_⟩<;>rfl
  have d4:cellsO a'=some [a']:=by rcases b5 with ⟨_,rfl⟩|⟨_,rfl,_⟩<;>rfl
  have d5:cellsOf a'=[a']:=by rcases b5 with ⟨_,rfl⟩|⟨_,rfl,_⟩<;>rfl
  have np:(p=n3)=False:=av;by_cases hS:S2=[];subst hS;have hs:s2= .sn:=by
   rcases g0 with ⟨_,h⟩|⟨h,_⟩;exact h;exact bh rfl h
  subst hs;refine Y9 @iP t0 t1 t2 d6 sa d4 d5 @bI ?_;refine hk r B' o' [(x,y,r)] (n3+1) _ ⟨⟨a',.sl (n3+1) 0 1 none 3,?_,b5.mono λhb=> ?_,gN.of (B:=[(x,y,r)]) (by simp) ?_⟩,by show p<n3+1+1;omega,λhb=>⟨(b1 hb).1,by have:=(b1 hb).2;show o'<n3+1+1;omega⟩,λ_=>⟨by omega,by show n3+1<n3+1+1;omega⟩,λhb _=>by have:=(b1 hb).2;omega⟩
   g3 (f9 _ λt ht=> .inr (by simpa using ht)) d1 b8 (by simp only[gJ,ji] at*;omega) (λj hj=> ?_) (by show n<=n3+1+1;omega) b6
  exact U0;have:=b1 hb;exact U0;exact U0;exact W0 (c7 j hj);obtain⟨hq,hs⟩:=g0.cG hS;subst hs;have h7:=b0.lq hS;have f0:q2<n2:=h7.2;have h4:cG (cC.get q2)=some (dK S2):=by
   rw[show cC.get q2=aJ.get q2 from b3 q2 f0 (λhb h=>b0.oq hb hS h.symm)];exact hq
  have qo:B'≠[] ->q2≠o':=λhb=>by
   rcases c6 hb with ⟨h1,rfl⟩|h1;exact λh=>b0.oq h1 hS h.symm;have h2:n2<=o':=h1;omega
  have sl:S2.length+1<=1048576:=by omega
  refine iU @iP t0 t1 t2 d6 h4 sl sa d4 d5 @IQ @bI ?_;have hl:S2.length+1=(S2++[(x,y,r)]).length:=by simp
  rw[show AV.sl (n3+1) 0 (S2.length+1) none 3= .sl (n3+1) 0 (S2++[(x,y,r)]).length none 3 by rw[hl]];refine hk r B' o' (S2++[(x,y,r)]) (n3+1) _ ⟨⟨a',.sl (n3+1) 0 (S2++[(x,y,r)]).length none 3,?_,b5.mono λhb=> ?_,gN.of (by simp) ?_⟩,by show p<n3+1+1;omega,λhb=>⟨(b1 hb).1,by have:=(b1 hb).2;show o'<n3+1+1;omega⟩,λ_=>⟨by omega,by show n3+1<n3+1+1;omega⟩,λhb _=>by have:=(b1 hb).2;omega⟩
   g3 (f9 _ λt ht=>by simpa using ht) d1 b8 (by simp only[dy,gJ,ji] at*;omega) (λj hj=> ?_) (by show n<=n3+1+1;omega) b6
  exact U0;have:=b1 hb;have:=qo hb;exact U0;exact U1 @IR;exact W0 (c7 j hj)
 have g8:∀(j r:Nat),Sn[j]? =some (x,y,r) ->k (ι (r:Int)) ⟨n,ver,ob⟩:=λj r hj=>
  hk r B o Sn q _ a_ okb so ⟨[],by simp⟩ ω ω (λ_ _=>rfl) (bB _) (so x y r (dI hj) hx hy)
 have d8:∀R:aw,(∀τ:T AV,τ.get 0=some (.p p 0) ->τ.get 1=some (ι (x:Int)) ->τ.get 2=some (ι (y:Int)) ->df C R [] (KF k [(6,none)]) τ ⟨n,ver,ob⟩) ->
  ∀τ:T AV,τ.get 0=some (.p p 0) ->τ.get 1=some (ι (x:Int)) ->τ.get 2=some (ι (y:Int)) ->df C YB [.s R] (KF k [(6,none)]) τ ⟨n,ver,ob⟩:=by
  intro R hR τ t0 t1 t2;by_cases hS:Sn=[];subst hS;have hs:s= .sn:=by
   rcases ns with ⟨_,h⟩|⟨h,_⟩;exact h;exact bh rfl h
  subst hs;have zz:((0:Int)<0)=False:=av;refine Y1 @bI ?_;rw[qj E.ok];refine Y6 t0 t1 t2 hc zz @bI ?_;refine hR _ ?_ ?_ ?_<;>exact U3 t0 t1 t2
  ·obtain⟨hq,hs⟩:=ns.cG hS;subst hs;refine Y1 @bI ?_;refine aG6 E (p:=p) (q:=q) (x:=x) (y:=y) (S:=Sn) hc hq ω _ _ ?_ ?_ Sn.length 0 ω _ ?_ ?_ ?_ ?_;intro j r τ hj t6;refine Y2 t6 @bI ?_;exact g8 j r hj;intro τ t0 t1 t2;refine Y1 @bI ?_;exact hR τ t0 t1 t2;all_goals exact U3 t0 t1 t2
 have hd:=d8 _ g6;have fb:PW=⟨137,[(6,none)],.seq (.ops [⟨some 6,.mv (.c (ι 0)),none⟩]) (.seq (.seq PR (.cond (.t 22) (.seq PS .ret) .skip)) (.seq YB (.seq YK YL)))⟩:=rfl;rw[fb];generalize (aw.seq YK YL)=R at hd ⊢;generalize YB=H at hd ⊢;by_cases x2:x<2;have d3:((x:Int)<2)=True:=cJ;have i5:((y:Int)<2)=False:=av;refine Y3 d3 i5 @bI ?_;refine hd _ ?_ ?_ ?_<;>exact U0;have d3:((x:Int)<2)=False:=av;refine Y2 d3 @bI ?_;refine hd _ ?_ ?_ ?_<;>exact U0
def mR (V:List Nat) (n:Nat):List AV:=(List.range n).map λi=>AV.i .i64 ((if i+2∈V then nb V (i+2) else 0:Nat):Int)
def yP {V n}:(mR V n).length=n:=by simp[mR]
def Ee {V i} (h:i<n):(mR V n)[i]? =some (ι ((if i+2∈V then nb V (i+2) else 0:Nat):Int)):=by
 simp[mR,h]
def qY {l i} {x:AV} (h:l[i]? =some x):sub l i 1=some [x]:=by
 have hl:=(eC.1 h).1;rw[nH,aF ω];congr 1;rw[Lr hl];simp[(eC.1 h).2]
def Rr {x:AV}:∀{l i},i<l.length ->dW [x] l i=some (l.set i x)
 |[],i,h=>by simp at h
 |a::l,0,h=>by simp[G5,G4,G3]
 |a::l,i+1,h=>by
  rw[Aw,Rr (by simpa using h)];rfl
def aG9 {V i} (hV:i+2∉V):(mR V n).set i (ι ((V.length+2:Nat):Int))=mR (V++[i+2]) n:=by
 apply xz;intro j;rw[xF];by_cases hj:j<n;rw[Ee hj,Ee hj];by_cases e:i=j;subst e;simp only[dZ,yP,hj,fO,yC,or_true,Ht (show 2<=i+2 by omega) hV];have e2:¬j+2=i+2:=by omega
 by_cases hm:j+2∈V;simp only[e,bV,fO,hm,true_or,dZ,wM (.inr hm:j+2<2∨j+2∈V)];simp only[e,bV,fO,hm,yC,e2,or_self];rw[rI (l:=mR V n) (by rw[yP];omega),rI (l:=mR (V++[i+2]) n) (by rw[yP];omega),yP];split;rename_i e;subst e;rw[aD hj];rfl
structure WS (w q o:Nat) (a:AV) (B:List Br) (V:List Nat) (oo:Nat) (h:AH):Prop where
 c:∃b,cG (h.oB.get w)=some [a,.sl q 0 B.length (some B.length) 1,b]/\ gN h.oB.get oo (DM B V) b
 na:gN h.oB.get o B a
 cq:cG (h.oB.get q)=some (mR V B.length)
 lw:q<w/\ w<h.next
 lo:B≠[] ->o<q
 lv:V≠[] ->w<oo/\ oo<h.next
structure RF (w q:Nat) (V:List Nat) (oo:Nat) (h:AH) (V':List Nat) (oo':Nat) (h':AH):Prop where
 next:h.next<=h'.next
 same:∀j,j<h.next ->j≠w ->j≠q ->(V≠[] ->j≠oo) ->h'.oB.get j=h.oB.get j
 new:V'≠[] ->(V≠[]/\ oo'=oo)∨h.next<=oo'
def RF.refl {w q V oo h}:RF w q V oo h V oo h:=⟨bB _,λ_ _ _ _ _=>rfl,λh=> .inl ⟨h,rfl⟩⟩
def RF.trans {w q oo b1 b0 V V' V'' h' b2} (a:RF w q V oo h V' b1 h') (b:RF w q V' b1 h' V'' b0 b2):RF w q V oo h V'' b0 b2:=
 ⟨fJ a.next b.next,λj h1 h2 h3 h4=>by
  have h7:V'≠[] ->j≠b1:=λhv=>by
   rcases a.new hv with ⟨h5,h6⟩|h5;rw[h6];exact h4 h5;omega
  rw[b.same j (iR h1 a.next) h2 h3 h7,a.same j h1 h2 h3 h4],λhv=>by
  have:=a.next;rcases b.new hv with ⟨h5,h6⟩|h5;rcases a.new h5 with ⟨h7,h8⟩|h7;exact .inl ⟨h7,h6.trans h8⟩;exact .inr ω;exact .inr ω⟩
variable {t:Tr}
def WS.mono {w q oo n' v' V t t'} (s:WS w q o a B V oo ⟨n,v,t⟩) (hn:n<=n') (e:∀j,(j<=w∨(V≠[]/\ j=oo)) ->t'.get j=t.get j):WS w q o a B V oo ⟨n',v',t'⟩ where
 c:=by
  obtain⟨b,h1,h2⟩:=s.c;exact⟨b,by show cG (t'.get w)=_;rw[e w (.inl (bB _))];exact h1,h2.mono λh=>e oo (.inr ⟨λhv=>h (by rw[hv];rfl),rfl⟩)⟩
 na:=s.na.mono λh=>e o (.inl (by have:=s.lo h;have:=s.lw.1;omega))
 cq:=by show cG (t'.get q)=_;rw[e q (.inl (by have:=s.lw.1;omega))];exact s.cq
 lw:=⟨s.lw.1,iR s.lw.2 hn⟩
 lo:=s.lo
 lv:=λh=>⟨(s.lv h).1,iR (s.lv h).2 hn⟩
def aH0 {w q} (ok:OK B) (hl:B.length<=50000):
 ∀d n V oo h k,3-bR B n<=d ->In B n ->Cl B V ->V.length+2^d<=50000 ->WS w q o a B V oo h ->
  (∀g2 h',WS w q o a B (dV B d n V) g2 h' ->RF w q V oo h (dV B d n V) g2 h' ->(dV B d n V).length+1<=V.length+2^d ->k (ι (nb (dV B d n V) n:Int)) h') ->
  du C 563 [.p w 0,ι (n)] h k:=by
 intro d;induction d with
 |zero=>
  intro n V oo h k hd hn cl eQ s hk;have n2:n<2:=by
   rcases hn.cases with h|⟨i,b,rfl,hb⟩;exact h;rw[gy hb] at hd;have:=ok.v _ _ hb;omega
  have b0:((n:Int)<2)=True:=cJ;refine E.bS F.f563 (Y3 @aw1.eq_1 b0 @bI ?_);have:=hk oo h s RF.refl (by simp[dV]);rw[show nb (dV B 0 n V) n=n by simp[nb,n2]] at this;exact this
 |succ d ih=>
  intro n V oo h k hd hn cl eQ s hk;have pw:2^(d+1)=2*2^d:=Cq;have j0:1<=2^d:=Co;rw[E.cB F.f563];by_cases n2:n<2;have b0:((n:Int)<2)=True:=cJ;refine Y3 @aw1.eq_1 b0 @bI ?_;have e:dV B (d+1) n V=V:=by simp only[dV,aF (Or.inl n2:n<2∨n∈V)]
  rw[e] at hk;have:=hk oo h s RF.refl ω;rw[show nb V n=n by simp[nb,n2]] at this;exact this;have b0:((n:Int)<2)=False:=av;rcases hn.cases with h1|⟨i,b,rfl,hb⟩;exact bh h1 n2;obtain⟨nx,ver,ob⟩:=h;obtain⟨ub,hc,nu⟩:=s.c;have c6:=s.cq;have aV:i<B.length:=(eC.1 hb).1;have es:aY .sub (ι ((i+2:Nat):Int)) (ι 2)=some (ι (i:Int)):=by rw[rX ω];congr 2;omega
  have sn:=qY (Ee (V:=V) aV);dsimp only at hc c6;by_cases b3:i+2∈V;rw[aF b3] at sn;have g0:((0:Int)<((nb V (i+2):Nat):Int))=True:=fq (by simp only[nb,n2,bV];omega);refine Y9 @aw1.eq_1 b0 es hc c6 aV sn g0 @bI ?_;have e:dV B (d+1) (i+2) V=V:=by simp only[dV,aF (Or.inr b3:i+2<2∨i+2∈V)]
  rw[e] at hk;exact hk oo _ s RF.refl ω;rw[aD b3] at sn;have e4:sub (dK B) (i*3) 3=some [ι (b.1:Int),ι (b.2.1:Int),ι (b.2.2:Int)]:=by have:=nQ hb 0 3 ω;simpa[gH] using this
  have hB:B≠[]:=λh=>by rw[h] at aV;simp at aV
  obtain⟨d6,ha⟩:=s.na.cG hB;dsimp only at d6;have lw:=s.lw;have i5:w<nx:=lw.2;have lo:=s.lo hB;rw[ha] at hc;refine nS @aw1.eq_1 b0 es hc c6 d6 aV sn e4 @bI ?_;have e:dV B (d+1) (i+2) V=dV B d b.2.2 (dV B d b.2.1 V)++[i+2]:=by simp only[dV,n2,b3,or_self,bV,show i+2-2=i by omega,hb]
  rw[e] at hk;rw[gy hb] at hd;have l1:=ok.l _ _ hb;have l2:=ok.h _ _ hb;have hi:=In.of hb;have i1:In B b.2.1:=by unfold In at*;omega
  have i2:In B b.2.2:=by unfold In at*;omega
  have s0:WS w q o a B V oo ⟨nx+1,ver+1,(ob.put nx (.cells ver [ι 0,ι 0,ι 0])).put nx (.cells (ver+1) [ι (b.1:Int),ι (b.2.1:Int),ι (b.2.2:Int)])⟩:=
   s.mono ω λj hj=>by
    have m9:¬j=nx:=by
     rcases hj with h|⟨h,rfl⟩;omega;have:=(s.lv h).2;have h2:j<nx:=this;omega
    simp only[T.get_put,aD m9]
  have f0:RF w q V oo ⟨nx,ver,ob⟩ V oo ⟨nx+1,ver+1,(ob.put nx (.cells ver [ι 0,ι 0,ι 0])).put nx (.cells (ver+1) [ι (b.1:Int),ι (b.2.1:Int),ι (b.2.2:Int)])⟩:=
   ⟨by show nx<=nx+1;omega,λj h1 _ _ _=>by have d4:j<nx:=h1;exact U0,λh=> .inl ⟨h,rfl⟩⟩
  refine E.run (ih b.2.1 V oo _ _ ω i1 cl ω s0 ?_);rintro d0 ⟨n1,h7,aQ⟩ s1 f1 h5;have b5:=yq ok d b.2.1 V cl i1 ω;have i8:nx+1<=n1:=f1.next;have i3:=s1.lv;have d1:cG (aQ.get nx)=some [ι (b.1:Int),ι (b.2.1:Int),ι (b.2.2:Int)]:=by
   rw[show aQ.get nx=_ from f1.same nx (by show nx<nx+1;omega) ω ω (λh=>by have:=(s.lv h).2;have h2:oo<nx:=this;omega)];exact U0
  refine Y2 d1 @bI ?_;refine E.run (ih b.2.2 _ d0 _ _ ω i2 b5.1 ω s1 ?_);rintro g3 ⟨b0,g4,aJ⟩ s2 f2 h6;have d3:=yq ok d b.2.2 _ b5.1 i2 ω;have i9:n1<=b0:=f2.next;have d2:cG (aJ.get nx)=some [ι (b.1:Int),ι (b.2.1:Int),ι (b.2.2:Int)]:=by
   rw[show aJ.get nx=_ from f2.same nx (by show nx<n1;omega) ω ω (λh=>by
    rcases f1.new h with ⟨h1,rfl⟩|h1;have:=(s.lv h1).2;have h2:d0<nx:=this;omega;have h2:nx+1<=d0:=h1;omega)]
   exact d1
  obtain⟨g8,b8,g1⟩:=s2.c;have b2:=s2.cq;have b7:=Pb ok (d:=d) hb b3;have i6:w<b0:=s2.lw.2;obtain⟨W2,d5⟩:=Dy (B:=B) d b.2.2 (dV B d b.2.1 V);generalize i0:dV B d b.2.2 (dV B d b.2.1 V)=V2 at*;generalize h9:dV B d b.2.1 V=V1 at*;have nl:nb V2 b.2.1=nb V1 b.2.1:=by rw[d5];exact wM b5.2
  have inl:b.2.1<2∨b.2.1∈V2:=b5.2.imp id λh=>by rw[d5];exact xI _ h
  have ho:=O9 d3.1 (n:=i+2) (b:=b) (by simpa using hb) inl d3.2;have f9:=aG9 (n:=B.length) b7;have c7:=Rr (x:=ι ((V2.length+2:Nat):Int)) (l:=mR V2 B.length) (i:=i) (by rw[yP];exact aV);rw[f9] at c7;have b6:=Ht (V:=V2) (n:=i+2) ω b7;have j1:V2.length+2<=1000000:=by omega
  have ff:RF w q V oo ⟨nx,ver,ob⟩ V2 g3 ⟨b0,g4,aJ⟩:=(f0.trans f1).trans f2;have g6:=s2.lv;have b1:(DM B V2).length=V2.length:=uV;dsimp only at b8 b2;by_cases hV:V2=[];subst hV;have hu:g8= .sn:=by
   rcases g1 with ⟨_,h⟩|⟨h,_⟩;exact h;exact bh rfl h
  subst hu;have b4:dW [ι ((2:Nat):Int)] (mR [] B.length) i=some (mR ([]++[i+2]) B.length):=c7;refine Y9 @iP es b8 b2 d2 aV @bK b4 @bI ?_;rw[b6] at hk;refine hk (b0+1) _ ⟨⟨.sl (b0+1) 0 1 none 3,?_,?_⟩,s2.na.mono λhb=> ?_,?_,⟨lw.1,by show w<b0+2;omega⟩,s.lo,λ_=>⟨by omega,by show b0+1<b0+2;omega⟩⟩
   (ff.trans ⟨by show b0<=b0+2;omega,λj h1 h2 h3 h4=> ?_,λ_=> .inr (by show b0<=b0+1;omega)⟩) (by simp only[dy,gJ,ji] at*;omega)
  exact U0;rw[ho,show DM B []=[] from rfl,nl];refine gN.of (B:=[(b.1,nb V1 b.2.1,nb [] b.2.2)]) (by simp) ?_;(iterate 3 exact U0);have d4:j<b0:=h1;exact U0;have g5:DM B V2≠[]:=λh=>hV (by rw[←FQ,←b1,h];rfl);obtain⟨d8,hu⟩:=g1.cG g5;rw[b1] at hu;subst hu;dsimp only at d8;have b4:dW [ι ((V2.length+1+1:Nat):Int)] (mR V2 B.length) i=some (mR (V2++[i+2]) B.length):=c7;have g7:=g6 hV;have i4:g3<b0:=g7.2;refine iU @iP es b8 b2 d2 aV @bK b4 d8 @IQ b1 @bI ?_;rw[b6] at hk;have hl:V2.length+1=(DM B V2++[(b.1,nb V2 b.2.1,nb V2 b.2.2)]).length:=by simp[b1]
  refine hk (b0+1) _ ⟨⟨.sl (b0+1) 0 (V2.length+1) none 3,?_,?_⟩,s2.na.mono λhb=> ?_,?_,⟨lw.1,by show w<b0+2;omega⟩,s.lo,λ_=>⟨by omega,by show b0+1<b0+2;omega⟩⟩
   (ff.trans ⟨by show b0<=b0+2;omega,λj h1 h2 h3 h4=> ?_,λ_=> .inr (by show b0<=b0+1;omega)⟩) (by simp only[dy,gJ,ji] at*;omega)
  exact U0;rw[ho,hl,nl];refine gN.of (by simp) ?_;exact U1 @IR;exact U0;exact U0;have d4:j<b0:=h1;have h8:=h4 hV;exact U0
def aH1:mR [] n=List.replicate n (ι 0):=by
 apply xz;intro j;by_cases hj:j<n;rw[Ee hj];simp[hj];rw[rI (by rw[yP];omega),rI (by simp;omega)]
def aH2 {m ver r ob} (ok:OK B) (hl:B.length<=50000) (hr:In B r) (na:gN ob.get o B a) (ho:B≠[] ->o<m)
 (k) (hk:∀a oo h',gN h'.oB.get oo (aE (tr B 3 r)).1 a ->m<=h'.next ->(∀j,j<m ->h'.oB.get j=ob.get j) ->(aE (tr B 3 r)).1.length<=7 ->(a= .sn∨(m<=oo/\ oo<h'.next)) ->k (.ag [a,ι ((aE (tr B 3 r)).2:Int)]) h'):
 du C 484 [a,ι (r)] ⟨m,ver,ob⟩ k:=by
 have hb:B.length<=1048576:=by omega
 have rp:(List.replicate B.length [AV.i .i64 0]).flatten=mR [] B.length:=by
  rw[aH1];generalize B.length=n;induction n with
  |zero=>rfl
  |succ n ih=>rw[uc,vD,ih];rfl
 have ca:cellsO a=some [a]:=by rcases na with ⟨_,rfl⟩|⟨_,rfl,_⟩<;>rfl
 have ln:∀(τ:T AV) h,az C τ (.t 8)=a ->step (az C τ) h (.len .slice (.t 8))= .v (ι (B.length:Int)) h:=by
  intro τ h e;rcases na with ⟨h1,rfl⟩|⟨_,rfl,_⟩;rw[yd,e,h1];rfl;rw[yd,e]
 refine E.bS F.f484 (Z6 ln ca hb @bB rp @bI ?_);refine E.run (aH0 (w:=m+1+1) (q:=m+1) (o:=o) (a:=a) (B:=B) E F ok hl 3 r [] 0 _ _ ω hr Cl.nil (by simp) ⟨⟨.sn,?_,.inl ⟨rfl,rfl⟩⟩,na.mono λh=> ?_,?_,⟨by omega,by show m+1+1<m+1+1+1;omega⟩,λh=>by have:=ho h;omega,λh=>bh rfl h⟩ ?_);exact U0;have:=ho h;exact U0;exact U0;rintro oo ⟨n2,b4,aJ⟩ s2 f2 b2;obtain⟨b,c2,nA⟩:=s2.c;have b5:m+1+1+1<=n2:=f2.next;have b0:=Pe ok hr (d:=3) ω;have b1:cG (aJ.get m)=some [.sn,ι 0]:=by
  rw[show aJ.get m=_ from f2.same m (by show m<m+1+1+1;omega) ω ω (λh=>bh rfl h)];exact U0
 dsimp only at c2;have sb:ew b=true:=by rcases nA with ⟨_,rfl⟩|⟨_,rfl,_⟩<;>rfl
 have cb:cellsO b=some [b]:=by rcases nA with ⟨_,rfl⟩|⟨_,rfl,_⟩<;>rfl
 refine Y5 c2 b1 sb cb @bI ?_;have e1:DM B (dV B 3 r [])=(aE (tr B 3 r)).1:=congrArg Prod.fst b0;have e2:nb (dV B 3 r []) r=(aE (tr B 3 r)).2:=congrArg Prod.snd b0;rw[e2];have b3:b= .sn∨(m<=oo/\ oo<n2):=by
  rcases nA with ⟨_,h⟩|⟨h,_⟩;exact .inl h;have h2:m+1+1<oo/\ oo<n2:=s2.lv (λhv=>h (by rw[hv];rfl));exact .inr ω
 rw[e1] at nA;refine hk b oo _ (nA.mono λh=> ?_) (by show m<=n2;omega) (λj hj=> ?_) (by rw[←e1,uV];have:(dV B 3 r []).length+1<=0+2^3:=b2;omega) b3;have b6:m+1+1<oo:=(s2.lv (λhv=>h (by rw[←e1,hv];rfl))).1;exact U0;simp(disch:=omega) only[dh,T.get_put,bV];rw[show aJ.get j=_ from f2.same j (by show j<m+1+1+1;omega) ω ω (λh=>bh rfl h)];exact U0
def aH3 {d} (na:gN h.oB.get o d.1 a):deep 9 h (.ag [a,ι (d.2:Int)])=some (eD d):=by
 have e2:deep 9 h (.ag [a,ι (d.2:Int)])=(match bJ 8 h [a,ι (d.2:Int)] with|some l=>some (AV.ag l)|none=>none):=rfl;have e3:deep 8 h (ι (d.2:Int))=some (ι (d.2:Int)):=rfl;simp only[aL,bZ,e2,e3,Re na,eD]
variable {s:Tr}
def aH4 {op:Nat} (b5:op<3) (ds:jt P X GL s) (dt:jt P X GL t):bg P X GL ae 401 [eT s,eT t,ι (op)] (eT (cY (oJ op) s t)):=by
 refine bg.intro λC E=> ?_;refine E.bS F.f401 (Y3 @eT.eq_1 @eD.eq_1 @bI ?_);refine E.run (aG8 (NA:=(aE s).1) (NB:=(aE t).1) (ra:=(aE s).2) (rb:=(aE t).2) (op:=op) (p:=3) S E F b5 ds.ok dt.ok (by have:=ds.len;omega) (by have:=dt.len;omega) _ (aE s).2 (aE t).2 [] 0 [] 0 _ _ rfl ds.in_ dt.in_ ⟨⟨.sn,.sn,?_,.inl ⟨rfl,rfl⟩,.inl ⟨rfl,rfl⟩⟩,by show 3<4;omega,λh=>bh rfl h,λh=>bh rfl h,λh=>bh rfl h⟩
  ⟨by simp,by simp,by simp,by simp,by simp⟩ (λx y r h=>by simp at h) ?_ ?_ ?_)
 exact U0;have b0:2^(3-min (bR (aE s).1 (aE s).2) (bR (aE t).1 (aE t).2))<=2^3:=rJ ω ω;simp only[ji];omega;have b0:2^(3-min (bR (aE s).1 (aE s).2) (bR (aE t).1 (aE t).2))<=2^3:=rJ ω ω;simp only[ji];omega;rintro r B o Sn q ⟨n1,c6,aQ⟩ a_ b7 so _ b1 _ old nx b3;have b0:2^(3-min (bR (aE s).1 (aE s).2) (bR (aE t).1 (aE t).2))<=2^3:=rJ ω ω;obtain⟨a1,s1,hc,na,_⟩:=a_.c;dsimp only at hc;have b6:tr B 3 r=cY (oJ op) s t:=by
  have:=(b3.2 3 ω ω ω).2;rw[this,ds.tr,dt.tr]
 have n3:3<n1:=a_.lp;have lo:=a_.lo;refine Y2 hc @bI ?_;refine E.run (aH2 (o:=o) (B:=B) E F b7 (by simp only[ji] at b1;omega) b3.1 na (λh=>(lo h).2) _ ?_);rw[b6];rintro a oo ⟨n2,c7,aJ⟩ nb d0 same b8 b4;have b2:cG (aJ.get 2)=some [.sn,ι 0]:=by
  rw[show aJ.get 2=aQ.get 2 from same 2 (by show 2<n1;omega),show aQ.get 2=_ from old 2 ω];exact U0
 have sa:ew a=true:=by rcases nb with ⟨_,rfl⟩|⟨_,rfl,_⟩<;>rfl
 refine Y3 b2 sa @bI ?_;refine⟨9,aH3 (d:=aE (cY (oJ op) s t)) (nb.mono λh=> ?_)⟩;rcases b4 with rfl|⟨h1,_⟩;rcases nb with ⟨h1,_⟩|⟨_,h1,_⟩;exact bh h1 h;cases h1;have h2:n1<=oo:=h1;exact U0
def IT {op:Nat} (b0:op<3) (ds:jt P X GL s) (dt:jt P X GL t) h:bP P X GL 401 [eT s,eT t,ι (op)] h (eT (cY (oJ op) s t)) h:=
 dR S (aH4 S F b0 ds dt) (n:=9) (by simp only[aL,jB,bZ,deep]) h
def aH5:oJ 0=λx y=>x&&y:=rfl
def aH6:oJ 1=λx y=>x||y:=rfl
def aH7:oJ 2=λx y=>x !=y:=rfl
def ck6:cellsO (tp B)=some [tp B]:=by cases B<;>rfl
def aH8 (ds:jt P X GL s) (dt:jt P X GL t):bg P X GL ae 273 [eT s,eT t] (eT (cY (λx y=>x&&y) s t)):=by
 refine bg.intro λC E=> ?_;refine E.bS F.f273 (Y3 @eT.eq_1 @eD.eq_1 @bI ?_);refine E.cN (IT S F (op:=0) ω ds dt _) (Y4 @eT.eq_1 @eD.eq_1 @aH5 @bI ?_);exact⟨9,qU _ _⟩
def aH9 (ds:jt P X GL s) (dt:jt P X GL t):bg P X GL ae 272 [eT s,eT t] (eT (cY (λx y=>x||y) s t)):=by
 refine bg.intro λC E=> ?_;refine E.bS F.f272 (Y3 @eT.eq_1 @eD.eq_1 @bI ?_);refine E.cN (IT S F (op:=1) ω ds dt _) (Y4 @eT.eq_1 @eD.eq_1 @aH6 @bI ?_);exact⟨9,qU _ _⟩
def Rs (ds:jt P X GL s) (dt:jt P X GL t) h:bP P X GL 273 [eT s,eT t] h (eT (cY (λx y=>x&&y) s t)) h:=
 dR S (aH8 S F ds dt) (n:=9) (by simp only[aL,jB,bZ]) h
def aI0 (ds:jt P X GL s) (dt:jt P X GL t) h:bP P X GL 272 [eT s,eT t] h (eT (cY (λx y=>x||y) s t)) h:=
 dR S (aH9 S F ds dt) (n:=9) (by simp only[aL,jB,bZ]) h
def dY (P:Program) (X:aR) (GL:T (List AV)):Prop:=∀t,cA 3 t=true ->jt P X GL t
def jd {g}:∀{k s t},cA k s=true ->cA k t=true ->cA k (cY g s t)=true
 |0,.c _,.c _,_,_=>rfl
 |0,.n _ _,_,h,_=>by simp[cA] at h
 |0,.c _,.n _ _,_,h=>by simp[cA] at h
 |k+1,.c _,_,h,_=>by simp[cA] at h
 |k+1,.n _ _,.c _,_,h=>by simp[cA] at h
 |k+1,.n a b,.n c d,h1,h2=>by
  simp only[cA,aB] at h1 h2;simp only[cY,cA,aB];exact⟨jd h1.1 h2.1,jd h1.2 h2.2⟩
def uY {g}:∀{k n s t},cA k s=true ->cA k t=true ->jq n s=true ->jq n t=true ->jq n (cY g s t)=true
 |0,0,.c _,.c _,_,_,_,_=>rfl
 |0,_+1,.c _,.c _,_,_,_,_=>rfl
 |0,_,.n _ _,_,h,_,_,_=>by simp[cA] at h
 |0,_,.c _,.n _ _,_,h,_,_=>by simp[cA] at h
 |k+1,_,.c _,_,h,_,_,_=>by simp[cA] at h
 |k+1,_,.n _ _,.c _,_,h,_,_=>by simp[cA] at h
 |k+1,0,.n a b,.n c d,h1,h2,h3,h4=>by
  simp only[cA,aB] at h1 h2;simp only[jq,aB,aU] at h3 h4;simp only[cY,jq,aB,aU];obtain⟨rfl,h3⟩:=h3;obtain⟨rfl,h4⟩:=h4;exact⟨rfl,uY h1.1 h2.1 h3 h4⟩
 |k+1,n+1,.n a b,.n c d,h1,h2,h3,h4=>by
  simp only[cA,aB] at h1 h2;simp only[jq,aB] at h3 h4;simp only[cY,jq,aB];exact⟨uY h1.1 h2.1 h3.1 h4.1,uY h1.2 h2.2 h3.2 h4.2⟩
def yQ {b}:∀k n,jq n (yU b k)=true
 |0,0=>rfl
 |0,_+1=>rfl
 |k+1,0=>by simp[yU,jq,yQ k 0]
 |k+1,n+1=>by simp[yU,jq,yQ k n]
def IU b:aE (yU b 3)=([],bN b):=by cases b<;>rfl
def je:Nat ->Tr
 |0=> .n (yU false 2) (yU true 2)
 |1=> .n (.n (yU false 1) (yU true 1)) (.n (yU false 1) (yU true 1))
 |_=> .n (.n (.n (.c false) (.c true)) (.n (.c false) (.c true))) (.n (.n (.c false) (.c true)) (.n (.c false) (.c true)))
def aI1 (h:v<3):aE (je v)=([(v,0,1)],2):=by
 rcases(show v=0∨v=1∨v=2 by omega) with rfl|rfl|rfl<;>rfl
def qu:cA 3 (je v)=true:=by
 match v with
 |0=>rfl
 |1=>rfl
 |n+2=>rfl
def IV (h:v<n) (h3:n<=3):jq n (je v)=true:=by
 rcases(show n=1∨n=2∨n=3 by omega) with rfl|rfl|rfl;obtain rfl:v=0:=by omega
 rfl;rcases(show v=0∨v=1 by omega) with rfl|rfl<;>rfl;rcases(show v=0∨v=1∨v=2 by omega) with rfl|rfl|rfl<;>rfl
def aI2 b:bg P X GL ae 37 [.b b] (eT (yU b 3)):=by
 refine bg.intro λC E=> ?_;rw[E.cB F.f37];cases b<;>
  (
   refine Y1 @bI ?_;exact⟨1,rfl⟩)
def aI3 (F:eV ae) b:bg P X GL ae 135 [.b b] (eT (yU b 3)):=by
 refine bg.intro λC E=> ?_;rw[E.cB F.f135];cases b<;>
  (
   refine Y5 @bN8.eq_1 @bN5.eq_1 @bN6.eq_1 @bN7.eq_1 @bI ?_;exact⟨1,rfl⟩)
def aI4 (h:v<3):bg P X GL ae 271 [ι (v)] (.tu [eT (je v),ι 0]):=by
 refine bg.intro λC E=> ?_;refine E.bS F.f271 (Y1 @bI ?_);refine⟨4,?_⟩;unfold eT eD;rw[aI1 h];rfl
def Bp b h:bP P X GL 37 [.b b] h (eT (yU b 3)) h:=dR S (aI2 F b) (n:=1) (by rfl) h
def IW (F:eV ae) b h:bP P X GL 135 [.b b] h (eT (yU b 3)) h:=dR S (aI3 F b) (n:=1) (by rfl) h
def Rt (hv:v<3) h:bP P X GL 271 [ι (v)] h (.tu [eT (je v),ι 0]) h:=dR S (aI4 F hv) (n:=1) (by rfl) h
def aI5 (A:dY P X GL) (hs:cA 3 s=true):bg P X GL ae 270 [eT s] (eT (cY (λx y=>x !=y) s (yU true 3))):=by
 refine bg.intro λC E=> ?_;have c1:=λh=>IT S F (op:=2) ω (A s hs) (A _ (ph (b:=true) 3)) h;simp only[eT,eD,aH7] at c1;refine E.bS F.f270 (Y3 @eT.eq_1 @eD.eq_1 @bI ?_);refine E.cN (Bp S F true _) (Y3 @eT.eq_1 @eD.eq_1 @bI ?_);refine E.cN (c1 _) (Y1 @bI ?_);exact⟨9,qU _ _⟩
def Rv (A:dY P X GL) (hs:cA 3 s=true) h:bP P X GL 270 [eT s] h (eT (cY (λx y=>x !=y) s (yU true 3))) h:=
 dR S (aI5 S F A hs) (n:=9) (by simp only[aL,jB,bZ]) h
def aI6 (A:dY P X GL) (hs:cA 3 s=true) (ht:cA 3 t=true):bg P X GL ae 274 [eT s,eT t] (eT (cY (λx y=>x&&y) s (cY (λx y=>x !=y) t (yU true 3)))):=by
 refine bg.intro λC E=> ?_;have c1:=λh=>Rv S F A ht h;have c2:=λh=>Rs S F (A s hs) (A _ (jd (g:=λx y=>x !=y) ht (ph (b:=true) 3))) h;simp only[eT,eD] at c1 c2;refine E.bS F.f274 (Y3 @eT.eq_1 @eD.eq_1 @bI ?_);refine E.cN (c1 _) (Y1 @bI ?_);refine E.cN (c2 _) (Y1 @bI ?_);exact⟨9,qU _ _⟩
def aI7 (A:dY P X GL) (hs:cA 3 s=true) (ht:cA 3 t=true) h:bP P X GL 274 [eT s,eT t] h (eT (cY (λx y=>x&&y) s (cY (λx y=>x !=y) t (yU true 3)))) h:=
 dR S (aI6 S F A hs ht) (n:=9) (by simp only[aL,jB,bZ]) h
def IX:T au:=(T.put (T.put (T.put (T.put (T.put (T.put .e 99 bB1) 158 QG) 185 Jd) 186 Jg) 268 PQ) 294 RZ)
def aI8:IX=(T.put (T.put (T.put (T.put (T.put (T.put .e 99 bB1) 158 QG) 185 Jd) 186 Jg) 268 PQ) 294 RZ):=rfl
def aI9 (FHasD:eV ae):∀f m,IX.get f=some m ->ae.get f=some m:=by
 rw[aI8];exact(gk (gk (gk (gk (gk (gk AF FHasD.f99) FHasD.f158) FHasD.f185) FHasD.f186) FHasD.f268) FHasD.f294)
def IY:T au:=(T.put (T.put (T.put (T.put (T.put (T.put (T.put .e 402 HR) 485 Io) 565 wN) 484 Be) 564 DX) 560 bC7) 563 aw1)
def aJ0:IY=(T.put (T.put (T.put (T.put (T.put (T.put (T.put .e 402 HR) 485 Io) 565 wN) 484 Be) 564 DX) 560 bC7) 563 aw1):=rfl
def aJ1 (FHasR:eL ae):∀f m,IY.get f=some m ->ae.get f=some m:=by
 rw[aJ0];exact(gk (gk (gk (gk (gk (gk (gk AF FHasR.f402) FHasR.f485) FHasR.f565) FHasR.f484) FHasR.f564) FHasR.f560) FHasR.f563)
def dC (i:Nat):List Tr:=(((iy 3).drop (16*i)).take 16)
def lY (GL:T (List AV)) (t:Tr):Bool:=gM GL IX (λ_ _=>none) 100000 99 [eT t] (ι 0)
def lZ (GL:T (List AV)) (t:Tr):Bool:=gM GL IY (λ_ _=>none) 100000 402 [eT t] (ι 0)
end
end AM
