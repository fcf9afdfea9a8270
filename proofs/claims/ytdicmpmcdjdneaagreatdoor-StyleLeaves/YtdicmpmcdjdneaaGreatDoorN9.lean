import Derived.Test.YtdicmpmcdjdneaaGreatDoorN8
set_option linter.all false
namespace AM
open Go
noncomputable section
inductive Fr where
 |s (b:aw)
 |b (i:Nat)
section
variable (C:aK Prop)
def qW (K:K Prop):List Fr ->AM.K Prop
 |[]=>K
 | .s b::S=>λe τ h=>match e with| .normal=>gG C b (qW K S) τ h|e=>qW K S e τ h
 | .b i::S=>λe τ h=>match e with| .exit j=>(bif Nat.beq j i then qW K S .normal τ h else qW K S (.exit j) τ h)|e=>qW K S e τ h
def df (c:aw) (S:List Fr) (K:K Prop) (τ:T AV) (h:AH):Prop:=gG C c (qW C K S) τ h
def gV (e:pS) (S:List Fr) (K:K Prop) (τ:T AV) (h:AH):Prop:=qW C K S e τ h
def nxt (S:List Fr) (K:K Prop):T AV ->AH ->Prop:=λτ h=>qW C K S .normal τ h
def lu (l:List MG) (S:List Fr) (K:K Prop) (τ:T AV) (h:AH):Prop:=AY C (g9 C) (oC C) (nxt C S K) l τ h
def IJ (l:List MG) (S:List Fr) (K:K Prop) (d:Option Nat) (τ:T AV):AV ->AH ->Prop:=λx h=>lu C l S K (cj τ d x) h
def oS (l:List MG) (S:List Fr) (K:K Prop) (d:Option Nat) (τ:T AV) (r:da):Prop:=kO C (g9 C) (oC C) (nxt C S K) l d τ r
def gS (l:List MG) (S:List Fr) (K:K Prop) (d:Option Nat) (op:Eb) (w:Bool) (τ:T AV) (h:AH) (r:Option AV):Prop:=kG C (g9 C) (oC C) (nxt C S K) l d op w τ h r
def cS (a b:aw) (S:List Fr) (K:K Prop) (τ:T AV) (h:AH) (r:AV):Prop:=kC C (qW C K S) a b τ h r
def pj (base:Nat) (l:List DI) (ls:List (Nat×MG)) (pd:List (Nat×Nat×bC)) (S:List Fr) (K:K Prop) (τ:T AV) (h:AH):Prop:=bW C (g9 C) (oC C) base (nxt C S K) l ls pd τ h
def lS (base:Nat) (i:Nat) (g:MG) (l:List DI) (ls:List (Nat×MG)) (pd:List (Nat×Nat×bC)) (S:List Fr) (K:K Prop) (τ:T AV) (h:AH) (r:Option AV):Prop:=kL C (g9 C) (oC C) base (nxt C S K) i g l ls pd τ h r
def rS (base i id:Nat) (d:Option Nat) (l:List DI) (ls:List (Nat×MG)) (pd:List (Nat×Nat×bC)) (S:List Fr) (K:K Prop) (τ:T AV) (h:AH) (r:da):Prop:=kR C (g9 C) (oC C) base (nxt C S K) i id d l ls pd τ h r
def Bl (base i id:Nat) (x:AV) (d:Option Nat) (l:List DI) (ls:List (Nat×MG)) (pd:List (Nat×Nat×bC)) (S:List Fr) (K:K Prop) (τ:T AV) (h:AH) (r:Option bC):Prop:=Di C (g9 C) (oC C) base (nxt C S K) i id x d l ls pd τ h r
def yS (base:Nat) (l:List DI) (ls:List (Nat×MG)) (pd:List (Nat×Nat×bC)) (S:List Fr) (K:K Prop) (τ:T AV) (h:AH) (r:Option (Nat×bC)):Prop:=kY C (g9 C) (oC C) base (nxt C S K) l ls pd τ h r
def aS (base mask:Nat) (l:List DI) (ls:List (Nat×MG)) (pd:List (Nat×Nat×bC)) (S:List Fr) (K:K Prop) (τ:T AV) (h:AH) (E:List (Nat×MG)):Prop:=kA C (g9 C) (oC C) base (nxt C S K) mask l ls pd τ h E
def IK (base mask:Nat) (d:Option Nat) (l:List DI) (ls:List (Nat×MG)) (pd:List (Nat×Nat×bC)) (S:List Fr) (K:K Prop) (τ:T AV):AV ->AH ->Prop:=λx h=>aS C base mask l ls pd S K (cj τ d x) h ls
def uW (base mask:Nat) (l:List DI) (ls:List (Nat×MG)) (pd:List (Nat×Nat×bC)) (S:List Fr) (K:K Prop) (τ:T AV) (h:AH) (E:List (Nat×MG)) (y x:Option AV):Prop:=match x with
 |some x=>(match y with
  |some y=>if cZ 64 x y=true then aS C base mask l ls pd S K τ h E else C.fail
  |none=>C.fail)
 |none=>C.fail
def hS (base mask:Nat) (d:Option Nat) (l:List DI) (ls:List (Nat×MG)) (pd:List (Nat×Nat×bC)) (S:List Fr) (K:K Prop) (τ:T AV) (r:da):Prop:=kH C (g9 C) (oC C) base (nxt C S K) mask d l ls pd τ r
def wQ (base mask:Nat) (d:Option Nat) (op:Eb) (w:Bool) (l:List DI) (ls:List (Nat×MG)) (pd:List (Nat×Nat×bC)) (S:List Fr) (K:K Prop) (τ:T AV) (h:AH) (r:Option AV):Prop:=Ax C (g9 C) (oC C) base (nxt C S K) mask d op w l ls pd τ h r
def KF (k:AV ->AH ->Prop) (res:List (Nat×Option (Nat×Bool))):K Prop:=λe τ h=>match e with
 | .exit _=>False
 |_=>kQ k h (eZ τ h res)
end
section
variable {C:aK Prop} (hC:lQ C) {S:List Fr} {K:K Prop} {τ:T AV} {h:AH}
include hC
theorem aA2:df C .skip S K τ h↔gV C .normal S K τ h:=Nn hC
theorem aA3 {i}:df C (.exit i) S K τ h↔gV C (.exit i) S K τ h:=No hC
theorem aA4:df C .ret S K τ h↔gV C .ret S K τ h:=Np hC
theorem Rk {a b}:df C (.seq a b) S K τ h↔df C a (.s b::S) K τ h:=Nr hC
theorem aA5 {i a}:df C (.block i a) S K τ h↔df C a (.b i::S) K τ h:=Nt hC
theorem qj {a}:df C (.loop a) S K τ h↔df C a (.s (.loop a)::S) K τ h:=uM hC
theorem aA6 {x a b}:df C (.cond x a b) S K τ h↔cS C a b S K τ h (az C τ x):=Ou hC
theorem aA7 {l}:df C (.ops l) S K τ h↔lu C l S K τ h:=Nu hC
theorem aA8 {z l}:df C (.draw z l) S K τ h↔pj C h.next l [] [] S K τ ⟨h.next+z,h.ver,h.oB⟩:=Nv hC
theorem yN {f args k fn} (E:C.ae.get f=some fn):du C f args h k↔df C fn.body [] (KF k fn.res) (oA args 0 .e) h:=ke hC E
end
section
variable {C:aK Prop} {S:List Fr} {K:K Prop} {τ:T AV} {h:AH}
def aA9 {b}:gV C .normal (.s b::S) K τ h=df C b S K τ h:=rfl
def aB0 {i}:gV C .normal (.b i::S) K τ h=gV C .normal S K τ h:=rfl
def aB1 {j b}:gV C (.exit j) (.s b::S) K τ h=gV C (.exit j) S K τ h:=rfl
def aB2 {j i}:gV C (.exit j) (.b i::S) K τ h=if j=i then gV C .normal S K τ h else gV C (.exit j) S K τ h:=by
 show(bif Nat.beq j i then _ else _)=_;rw[bu,rM];rfl
def aB3 {b}:gV C .ret (.s b::S) K τ h=gV C .ret S K τ h:=rfl
def aB4 {i}:gV C .ret (.b i::S) K τ h=gV C .ret S K τ h:=rfl
def aB5 {k res}:gV C .normal [] (KF k res) τ h=kQ k h (eZ τ h res):=rfl
def aB6 {k res}:gV C .ret [] (KF k res) τ h=kQ k h (eZ τ h res):=rfl
def aB7:lu C [] S K τ h=gV C .normal S K τ h:=rfl
def D9 {d op l}:lu C (⟨d,op,none⟩::l) S K τ h=oS C l S K d τ (step (az C τ) h op):=G6
def aB8 {d op l t w}:lu C (⟨d,op,some (t,w)⟩::l) S K τ h=gS C l S K d op w τ h (τ.get t):=Ot
def IM {l d x}:oS C l S K (some d) τ (.v x h)=lu C l S K (τ.put d x) h:=rfl
def aB9 {l x}:oS C l S K none τ (.v x h)=lu C l S K τ h:=rfl
def aC0 {l d f a}:oS C l S K d τ (.call f a h)=g9 C f a h (IJ C l S K d τ):=rfl
def aC1 {l d x}:IJ C l S K (some d) τ x h=lu C l S K (τ.put d x) h:=rfl
def aC2 {l x}:IJ C l S K none τ x h=lu C l S K τ h:=rfl
def aC3 {l d op w x}:gS C l S K (some d) op w τ h (some (.b x))=if x=w then oS C l S K (some d) τ (step (az C τ) h op) else lu C l S K (τ.put d (.tu [])) h:=rfl
def aC4 {l op w x}:gS C l S K none op w τ h (some (.b x))=if x=w then oS C l S K none τ (step (az C τ) h op) else lu C l S K τ h:=rfl
def aC5 {l d op w}:gS C l S K (some d) op w τ h (some (.tu []))=lu C l S K (τ.put d (.tu [])) h:=rfl
def aC6 {l op w}:gS C l S K none op w τ h (some (.tu []))=lu C l S K τ h:=rfl
def aC7 {a b t}:cS C a b S K τ h (.b t)=if t=true then df C a S K τ h else df C b S K τ h:=rfl
def aC8 {base ls pd}:pj C base [] ls pd S K τ h=gV C .normal S K τ h:=rfl
def aC9 {base i g l ls pd}:pj C base (.light i g::l) ls pd S K τ h=lS C base i g l ls pd S K τ h (y6 C τ h g):=Ov
def aD0 {base i n g l ls pd}:pj C base (.resv i n g::l) ls pd S K τ h=rS C base i (base+n) g.dst l ls pd S K τ h (step (az C τ) ⟨base+n,h.ver,.e⟩ g.op):=OB
def aD1 {base i l ls pd}:pj C base (.lay i::l) ls pd S K τ h=yS C base l ls pd S K τ h (iC i pd):=OC
def aD2 {base i d op mask l ls pd}:pj C base (.heavy i ⟨d,op,none⟩ mask::l) ls pd S K τ h=hS C base mask d l ls pd S K τ (step (az C τ) h op):=OE
def aD3 {base i d op t w mask l ls pd}:pj C base (.heavy i ⟨d,op,some (t,w)⟩ mask::l) ls pd S K τ h=wQ C base mask d op w l ls pd S K τ h (τ.get t):=OF
def aD4 {base i d op gd l ls pd x}:lS C base i ⟨some d,op,gd⟩ l ls pd S K τ h (some x)=pj C base l ((i,⟨some d,op,gd⟩)::ls) pd S K (τ.put d x) h:=rfl
def aD5 {base i op gd l ls pd x}:lS C base i ⟨none,op,gd⟩ l ls pd S K τ h (some x)=pj C base l ((i,⟨none,op,gd⟩)::ls) pd S K τ h:=rfl
def aD6 {base i id d l ls pd x h'}:rS C base i id d l ls pd S K τ h (.v x h')=Bl C base i id x d l ls pd S K τ h (h'.oB.get id):=rfl
def aD7 {base i id x d l ls pd ob}:Bl C base i id x (some d) l ls pd S K τ h (some ob)=pj C base l ls ((i,id,ob)::pd) S K (τ.put d x) h:=rfl
def aD8 {base i id x l ls pd ob}:Bl C base i id x none l ls pd S K τ h (some ob)=pj C base l ls ((i,id,ob)::pd) S K τ h:=rfl
def aD9 {base l ls pd id ob n v t}:yS C base l ls pd S K τ ⟨n,v,t⟩ (some (id,ob))=pj C base l ls pd S K τ ⟨n,v+1,t.put id ob⟩:=rfl
def aE0 {base mask d l ls pd x}:hS C base mask (some d) l ls pd S K τ (.v x h)=aS C base mask l ls pd S K (τ.put d x) h ls:=rfl
def aE1 {base mask l ls pd x}:hS C base mask none l ls pd S K τ (.v x h)=aS C base mask l ls pd S K τ h ls:=rfl
def aE2 {base mask d l ls pd f a}:hS C base mask d l ls pd S K τ (.call f a h)=g9 C f a h (IK C base mask d l ls pd S K τ):=rfl
def aE3 {base mask d l ls pd x}:IK C base mask (some d) l ls pd S K τ x h=aS C base mask l ls pd S K (τ.put d x) h ls:=rfl
def aE4 {base mask l ls pd x}:IK C base mask none l ls pd S K τ x h=aS C base mask l ls pd S K τ h ls:=rfl
def aE5 {base mask d op w l ls pd x}:wQ C base mask (some d) op w l ls pd S K τ h (some (.b x))=if x=w then hS C base mask (some d) l ls pd S K τ (step (az C τ) h op) else aS C base mask l ls pd S K (τ.put d (.tu [])) h ls:=rfl
def aE6 {base mask op w l ls pd x}:wQ C base mask none op w l ls pd S K τ h (some (.b x))=if x=w then hS C base mask none l ls pd S K τ (step (az C τ) h op) else aS C base mask l ls pd S K τ h ls:=rfl
def aE7 {base mask d op w l ls pd}:wQ C base mask (some d) op w l ls pd S K τ h (some (.tu []))=aS C base mask l ls pd S K (τ.put d (.tu [])) h ls:=rfl
def aE8 {base mask op w l ls pd}:wQ C base mask none op w l ls pd S K τ h (some (.tu []))=aS C base mask l ls pd S K τ h ls:=rfl
def aE9 {base mask l ls pd}:aS C base mask l ls pd S K τ h []=pj C base l ls pd S K τ h:=rfl
def aF0 {base mask l ls pd i d op gd E}:aS C base mask l ls pd S K τ h ((i,⟨some d,op,gd⟩)::E)=if Nat.testBit mask i=true then aS C base mask l ls pd S K τ h E else uW C base mask l ls pd S K τ h E (τ.get d) (y6 C τ h ⟨some d,op,gd⟩):=by
 show kA .. =_;rw[OD];split;rfl;unfold Dj uW;cases y6 C τ h ⟨some d,op,gd⟩<;>rfl
def aF1 {base mask l ls pd E x}:uW C base mask l ls pd S K τ h E (some x) (some x)=if nice 64 x=true then aS C base mask l ls pd S K τ h E else uW C base mask l ls pd S K τ h E (some x) (some x):=by
 split;rename_i hn;show(if cZ 64 x x=true then _ else _)=_;rw[aF (NU 64 x hn)];rfl
def a2F (C:aK Prop) (base mask:Nat) (l:List DI) (ls:List (Nat×MG)) (pd:List (Nat×Nat×bC)) (S:List Fr) (K:AM.K Prop) (τ:T AV) (h:AH) (E:List (Nat×MG)) (y x:Option AV):Prop:=uW C base mask l ls pd S K τ h E y x
def aF2 {base mask l ls pd E x}:uW C base mask l ls pd S K τ h E (some x) (some x)=if nice 64 x=true then aS C base mask l ls pd S K τ h E else a2F C base mask l ls pd S K τ h E (some x) (some x):=aF1
@[congr] def bz9 {l d r E} (e:r=E):oS C l S K d τ r=oS C l S K d τ E:=by rw[e]
@[congr] def bA0 {l d op w r E} (e:r=E):gS C l S K d op w τ h r=gS C l S K d op w τ h E:=by rw[e]
@[congr] def bA1 {a b r E} (e:r=E):cS C a b S K τ h r=cS C a b S K τ h E:=by rw[e]
@[congr] def bA2 {base i g l ls pd r E} (e:r=E):lS C base i g l ls pd S K τ h r=lS C base i g l ls pd S K τ h E:=by rw[e]
@[congr] def bA3 {base i id E d l ls pd r r'} (e0:id=E) (e:r=r'):rS C base i id d l ls pd S K τ h r=rS C base i E d l ls pd S K τ h r':=by rw[e0,e]
@[congr] def bA4 {base i id x d l ls pd r E} (e:r=E):Bl C base i id x d l ls pd S K τ h r=Bl C base i id x d l ls pd S K τ h E:=by rw[e]
@[congr] def bA5 {base l ls pd h' r E} (e0:h=h') (e:r=E):yS C base l ls pd S K τ h r=yS C base l ls pd S K τ h' E:=by rw[e0,e]
@[congr] def bA6 {base mask d l ls pd r E} (e:r=E):hS C base mask d l ls pd S K τ r=hS C base mask d l ls pd S K τ E:=by rw[e]
@[congr] def bA7 {base mask d op w l ls pd r E} (e:r=E):wQ C base mask d op w l ls pd S K τ h r=wQ C base mask d op w l ls pd S K τ h E:=by rw[e]
@[congr] def bA8 {base mask l ls pd E y y' x x'} (e0:y=y') (e:x=x'):uW C base mask l ls pd S K τ h E y x=uW C base mask l ls pd S K τ h E y' x':=by rw[e0,e]
@[congr] def bA9 {k h r E} (e:r=E):kQ k h r=kQ k h E:=by rw[e]
@[congr] def bB0 {τ h op w r E} (e:r=E):kW C τ h op w r=kW C τ h op w E:=by rw[e]
end
section
def rO:Option (List AV) ->Option AV
 |some [v]=>some v
 |some l=>some (.tu l)
 |none=>none
def rC:Option AV ->Option (List AV) ->Option (List AV)
 |some a,some l=>some (a::l)
 |_,_=>none
def rD (n:Nat) (agg:Bool) (E:Nat):Option (List AV) ->Option AV
 |some c=>(match sub c E n with|some c=>dB agg c|none=>none)
 |none=>none
def rE (n:Nat) (agg:Bool) (h:AH):Option AV ->Option AV
 |some (.p o off)=>rD n agg off (cG (h.oB.get o))
 |_=>none
def aF3 {τ h l}:eZ τ h l=rO (fY τ h l):=rfl
def aF4 {τ h}:fY τ h []=some []:=rfl
def aF5 {τ h t l}:fY τ h ((t,none)::l)=rC (τ.get t) (fY τ h l):=by
 unfold fY;rw[lJ];dsimp only;generalize eM _ l=y;cases τ.get t<;>cases y<;>rfl
def aF6 {τ h t n agg l}:fY τ h ((t,some (n,agg))::l)=rC (rE n agg h (τ.get t)) (fY τ h l):=by
 unfold fY;rw[lJ];dsimp only;generalize eM _ l=y;rcases τ.get t with _|v;cases y<;>rfl;cases v with
 |p o E=>
  have e:cG (h.oB.get o)=h.cells o:=rfl;simp only[rE,e];rcases h.cells o with _|c;cases y<;>rfl;simp only[rD];rcases sub c E n with _|c;cases y<;>rfl;dsimp only;cases dB agg c<;>cases y<;>rfl
 |_=>cases y<;>rfl
def aF7 {v}:rO (some [v])=some v:=rfl
def aF8 {a b l}:rO (some (a::b::l))=some (.tu (a::b::l)):=rfl
def aF9 {a l}:rC (some a) (some l)=some (a::l):=rfl
def aG0 {n agg h o E}:rE n agg h (some (.p o E))=rD n agg E (cG (h.oB.get o)):=rfl
def rF (agg:Bool):Option (List AV) ->Option AV
 |some c=>dB agg c
 |none=>none
def aG1 {n agg E c}:rD n agg E (some c)=rF agg (sub c E n):=by show(match sub c E n with|some c=>dB agg c|none=>none)=_;cases sub c E n<;>rfl
def aG2 {agg c}:rF agg (some c)=dB agg c:=rfl
def syT:=ec @aF3<|ec @aF4<|ec @aF5<|ec @aF6<|ec @aF7<|ec @aF8<|ec @aF9<|ec @aG0<|ec @aG1 @aG2
end
section
variable {C:aK Prop}
def sA (hC:lQ C):=ec (@aA2 C hC)<|ec (@aA3 C hC)<|ec (@aA4 C hC)<|ec (@Rk C hC)<|ec (@aA5 C hC)<|ec (@aA6 C hC)<|ec (@aA7 C hC) (@aA8 C hC)
def syP:=ec (@aA9 C)<|ec (@aB0 C)<|ec (@aB1 C)<|ec (@aB2 C)<|ec (@aB3 C)<|ec (@aB4 C)<|ec (@aB5 C)<|ec (@aB6 C)<|ec (@aB7 C)<|ec (@D9 C)<|ec (@aB8 C)<|
 ec (@aC1 C)<|ec (@aC2 C)<|ec (@aC8 C)<|ec (@aC9 C)<|ec (@aD0 C)<|ec (@aD1 C)<|ec (@aD2 C)<|ec (@aD3 C)<|ec (@aE3 C)<|ec (@aE4 C)<|ec (@aE9 C)<|ec (@aF0 C)<|
 ec (@oD C)<|ec (@tB C)<|ec (@Oy C) (@Oz C)
def syK:=ec (@IM C)<|ec (@aB9 C)<|ec (@aC0 C)<|ec (@aC3 C)<|ec (@aC4 C)<|ec (@aC5 C)<|ec (@aC6 C)<|ec (@aC7 C)<|ec (@aD4 C)<|ec (@aD5 C)<|ec (@aD6 C)<|ec (@aD7 C)<|ec (@aD8 C)<|ec (@aD9 C)<|
 ec (@aE0 C)<|ec (@aE1 C)<|ec (@aE2 C)<|ec (@aE5 C)<|ec (@aE6 C)<|ec (@aE7 C)<|ec (@aE8 C)<|ec (@aF2 C)<|ec (@Ow C) (@Ox C)
end
def syG:=ec (@T.get_put AV)<|ec (@T.get_put bC)<|ec (@tg) (@lJ)
attribute [go_sem ↓] syP syG
attribute [go_sem] syK syT
end
end AM
namespace AM
open Go
def Sem.bS {P:Program} {X:aR} {GL:T (List AV)} {ae:T au} {C:aK Prop} (E:Sem P X GL ae C) {f:Nat} {args:List AV} {h:AH} {k:AV ->AH ->Prop} {fn:au} (hf:ae.get f=some fn) (r:df C fn.body [] (KF k fn.res) (oA args 0 .e) h):du C f args h k:=(yN E.ok (E.get hf)).2 r
def Sem.cB {P:Program} {X:aR} {GL:T (List AV)} {ae:T au} {C:aK Prop} (E:Sem P X GL ae C) {f:Nat} {args:List AV} {h:AH} {k:AV ->AH ->Prop} {fn:au} (hf:ae.get f=some fn):du C f args h k↔df C fn.body [] (KF k fn.res) (oA args 0 .e) h:=yN E.ok (E.get hf)
section
variable {f p q:Prop}
variable {a b:Int}
def QI{a b:Nat}(h:¬a=b):(a=b)=False:=dQ h
def ziF (h:¬a=b):(a=b)=False:=dQ h
def ziT (h:a=b):(a=b)=True:=fq h
def zlF (h:¬a<b):(a<b)=False:=dQ h
def zlT (h:a<b):(a<b)=True:=fq h
def zmF (h:¬a<=b):(a<=b)=False:=dQ h
def zmT (h:a<=b):(a<=b)=True:=fq h
def zkF{a b:Nat}(h:¬a<b):(a<b)=False:=dQ h
def zkT{a b:Nat}(h:a<b):(a<b)=True:=fq h
def yY(h:f)(e:f->p=q:=by have o:=Sem.ok (by assumption:Sem _ _ _ _ _);intro f;simp(disch:=omega) only[f,QI,ziF,ziT,zlF,zlT,zmF,zmT,zkF,zkT,h0,bK,oH,qV,bO3,↓sA o,ji,uf,Nat.reduceEqDiff,Nat.reduceAdd,Nat.reduceMul,Nat.reduceLT,Nat.reduceShiftRight,Nat.reduceAnd,Nat.reduceBneDiff,↓reduceIte,Int.reduceLT,Int.reduceLE,Int.reduceEq,go_sem]<;>exact rfl):p=q:=e h
def zZ(h:f)(e:f->p=q:=by have o:=Sem.ok (by assumption:Sem _ _ _ _ _);intro f;simp(disch:=first|omega|(simp(disch:=omega) only[f,QI,dh,oD,tB,T.get_put,d9,oI,pN,Nat.reduceEqDiff,reduceIte])) only[f,QI,ziF,ziT,zlF,zlT,zmF,zmT,zkF,zkT,h0,bK,oH,qV,bO3,↓sA o,ji,uf,Nat.reduceEqDiff,Nat.reduceAdd,Nat.reduceMul,Nat.reduceLT,Nat.reduceShiftRight,Nat.reduceAnd,Nat.reduceBneDiff,↓reduceIte,Int.reduceLT,Int.reduceLE,Int.reduceEq,go_sem]<;>exact rfl):p=q:=e h
def uU(h:f)(e:f->p:=by intro f;simp(disch:=omega) only[f,QI,dh,oD,tB,T.get_put,d9,oI,pN,Nat.reduceEqDiff,reduceIte,bV,dZ,oA,Nat.reduceAdd,gB,yJ,kE,jY,uf]<;>rfl):p:=e h
def wW(h:f)(k:q)(e:f->q->p:=by intro f k;simp(disch:=omega) only[f,QI,dh,oD,tB,T.get_put,d9,oI,pN,Nat.reduceEqDiff,reduceIte,bV,dZ,oA,Nat.reduceAdd,gB,yJ,kE,jY,uf];exact k):p:=e h k
variable {A B C D G H I J L M N O R S T U V W X Y Z AA AB AC AD AG AH AI AJ:Prop} (a:A) (b:B) (c:C) (d:D) (g:G) (h:H) (i:I) (j:J) (l:L) (m:M) (n:N) (o:O) (r:R) (s:S) (t:T) (u:U) (v:V) (w:W) (x:X) (y:Y) (z:Z) (aa:AA) (ab:AB) (ac:AC) (ad:AD) (ag:AG) (ah:AH) (ai:AI) (aj:AJ)
variable (k:q)
def Y0(e:True->p=q:=by intro f;exact yY @f):p:=(e ⟨⟩).mpr k
def Y1(e:A->p=q:=by intro f;exact yY @f):p:=(e a).mpr k
def Y2(e:A/\B->p=q:=by intro f;exact yY @f):p:=(e ⟨a,b⟩).mpr k
def Y3(e:A/\B/\C->p=q:=by intro f;exact yY @f):p:=(e ⟨a,b,c⟩).mpr k
def Y4(e:A/\B/\C/\D->p=q:=by intro f;exact yY @f):p:=(e ⟨a,b,c,d⟩).mpr k
def Y5(e:A/\B/\C/\D/\G->p=q:=by intro f;exact yY @f):p:=(e ⟨a,b,c,d,g⟩).mpr k
def Y6(e:A/\B/\C/\D/\G/\H->p=q:=by intro f;exact yY @f):p:=(e ⟨a,b,c,d,g,h⟩).mpr k
def Y7(e:A/\B/\C/\D/\G/\H/\I->p=q:=by intro f;exact yY @f):p:=(e ⟨a,b,c,d,g,h,i⟩).mpr k
def Y8(e:A/\B/\C/\D/\G/\H/\I/\J->p=q:=by intro f;exact yY @f):p:=(e ⟨a,b,c,d,g,h,i,j⟩).mpr k
def Y9(e:A/\B/\C/\D/\G/\H/\I/\J/\L->p=q:=by intro f;exact yY @f):p:=(e ⟨a,b,c,d,g,h,i,j,l⟩).mpr k
def nS(e:A/\B/\C/\D/\G/\H/\I/\J/\L/\M->p=q:=by intro f;exact yY @f):p:=(e ⟨a,b,c,d,g,h,i,j,l,m⟩).mpr k
def jC(e:A/\B/\C/\D/\G/\H/\I/\J/\L/\M/\N->p=q:=by intro f;exact yY @f):p:=(e ⟨a,b,c,d,g,h,i,j,l,m,n⟩).mpr k
def iU(e:A/\B/\C/\D/\G/\H/\I/\J/\L/\M/\N/\O->p=q:=by intro f;exact yY @f):p:=(e ⟨a,b,c,d,g,h,i,j,l,m,n,o⟩).mpr k
def pm(e:A/\B/\C/\D/\G/\H/\I/\J/\L/\M/\N/\O/\R->p=q:=by intro f;exact yY @f):p:=(e ⟨a,b,c,d,g,h,i,j,l,m,n,o,r⟩).mpr k
def qk(e:A/\B/\C/\D/\G/\H/\I/\J/\L/\M/\N/\O/\R/\S->p=q:=by intro f;exact yY @f):p:=(e ⟨a,b,c,d,g,h,i,j,l,m,n,o,r,s⟩).mpr k
def sB(e:A/\B/\C/\D/\G/\H/\I/\J/\L/\M/\N/\O/\R/\S/\T->p=q:=by intro f;exact yY @f):p:=(e ⟨a,b,c,d,g,h,i,j,l,m,n,o,r,s,t⟩).mpr k
def pq(e:A/\B/\C/\D/\G/\H/\I/\J/\L/\M/\N/\O/\R/\S/\T/\U->p=q:=by intro f;exact yY @f):p:=(e ⟨a,b,c,d,g,h,i,j,l,m,n,o,r,s,t,u⟩).mpr k
def Bm(e:A/\B/\C/\D/\G/\H/\I/\J/\L/\M/\N/\O/\R/\S/\T/\U/\V/\W/\X/\Y/\Z->p=q:=by intro f;exact yY @f):p:=(e ⟨a,b,c,d,g,h,i,j,l,m,n,o,r,s,t,u,v,w,x,y,z⟩).mpr k
def Y22(e:A/\B/\C/\D/\G/\H/\I/\J/\L/\M/\N/\O/\R/\S/\T/\U/\V/\W/\X/\Y/\Z/\AA->p=q:=by intro f;exact yY @f):p:=(e ⟨a,b,c,d,g,h,i,j,l,m,n,o,r,s,t,u,v,w,x,y,z,aa⟩).mpr k
def Z0(e:True->p=q:=by intro f;exact zZ @f):p:=(e ⟨⟩).mpr k
def Z1(e:A->p=q:=by intro f;exact zZ @f):p:=(e a).mpr k
def Z2(e:A/\B->p=q:=by intro f;exact zZ @f):p:=(e ⟨a,b⟩).mpr k
def Z3(e:A/\B/\C->p=q:=by intro f;exact zZ @f):p:=(e ⟨a,b,c⟩).mpr k
def Z4(e:A/\B/\C/\D->p=q:=by intro f;exact zZ @f):p:=(e ⟨a,b,c,d⟩).mpr k
def Z5(e:A/\B/\C/\D/\G->p=q:=by intro f;exact zZ @f):p:=(e ⟨a,b,c,d,g⟩).mpr k
def Z6(e:A/\B/\C/\D/\G/\H->p=q:=by intro f;exact zZ @f):p:=(e ⟨a,b,c,d,g,h⟩).mpr k
def Z7(e:A/\B/\C/\D/\G/\H/\I->p=q:=by intro f;exact zZ @f):p:=(e ⟨a,b,c,d,g,h,i⟩).mpr k
def Z8(e:A/\B/\C/\D/\G/\H/\I/\J->p=q:=by intro f;exact zZ @f):p:=(e ⟨a,b,c,d,g,h,i,j⟩).mpr k
def Z9(e:A/\B/\C/\D/\G/\H/\I/\J/\L->p=q:=by intro f;exact zZ @f):p:=(e ⟨a,b,c,d,g,h,i,j,l⟩).mpr k
def qX(e:A/\B/\C/\D/\G/\H/\I/\J/\L/\M->p=q:=by intro f;exact zZ @f):p:=(e ⟨a,b,c,d,g,h,i,j,l,m⟩).mpr k
def sC(e:A/\B/\C/\D/\G/\H/\I/\J/\L/\M/\N->p=q:=by intro f;exact zZ @f):p:=(e ⟨a,b,c,d,g,h,i,j,l,m,n⟩).mpr k
def lX(e:A/\B/\C/\D/\G/\H/\I/\J/\L/\M/\N/\O->p=q:=by intro f;exact zZ @f):p:=(e ⟨a,b,c,d,g,h,i,j,l,m,n,o⟩).mpr k
def qt(e:A/\B/\C/\D/\G/\H/\I/\J/\L/\M/\N/\O/\R->p=q:=by intro f;exact zZ @f):p:=(e ⟨a,b,c,d,g,h,i,j,l,m,n,o,r⟩).mpr k
def uX(e:A/\B/\C/\D/\G/\H/\I/\J/\L/\M/\N/\O/\R/\S/\T->p=q:=by intro f;exact zZ @f):p:=(e ⟨a,b,c,d,g,h,i,j,l,m,n,o,r,s,t⟩).mpr k
def sD(e:A/\B/\C/\D/\G/\H/\I/\J/\L/\M/\N/\O/\R/\S/\T/\U->p=q:=by intro f;exact zZ @f):p:=(e ⟨a,b,c,d,g,h,i,j,l,m,n,o,r,s,t,u⟩).mpr k
def yO(e:A/\B/\C/\D/\G/\H/\I/\J/\L/\M/\N/\O/\R/\S/\T/\U/\V->p=q:=by intro f;exact zZ @f):p:=(e ⟨a,b,c,d,g,h,i,j,l,m,n,o,r,s,t,u,v⟩).mpr k
def wS(e:A/\B/\C/\D/\G/\H/\I/\J/\L/\M/\N/\O/\R/\S/\T/\U/\V/\W->p=q:=by intro f;exact zZ @f):p:=(e ⟨a,b,c,d,g,h,i,j,l,m,n,o,r,s,t,u,v,w⟩).mpr k
def IN(e:A/\B/\C/\D/\G/\H/\I/\J/\L/\M/\N/\O/\R/\S/\T/\U/\V/\W/\X->p=q:=by intro f;exact zZ @f):p:=(e ⟨a,b,c,d,g,h,i,j,l,m,n,o,r,s,t,u,v,w,x⟩).mpr k
def Bn(e:A/\B/\C/\D/\G/\H/\I/\J/\L/\M/\N/\O/\R/\S/\T/\U/\V/\W/\X/\Y->p=q:=by intro f;exact zZ @f):p:=(e ⟨a,b,c,d,g,h,i,j,l,m,n,o,r,s,t,u,v,w,x,y⟩).mpr k
def IP(e:A/\B/\C/\D/\G/\H/\I/\J/\L/\M/\N/\O/\R/\S/\T/\U/\V/\W/\X/\Y/\Z/\AA->p=q:=by intro f;exact zZ @f):p:=(e ⟨a,b,c,d,g,h,i,j,l,m,n,o,r,s,t,u,v,w,x,y,z,aa⟩).mpr k
def Rn(e:A/\B/\C/\D/\G/\H/\I/\J/\L/\M/\N/\O/\R/\S/\T/\U/\V/\W/\X/\Y/\Z/\AA/\AB->p=q:=by intro f;exact zZ @f):p:=(e ⟨a,b,c,d,g,h,i,j,l,m,n,o,r,s,t,u,v,w,x,y,z,aa,ab⟩).mpr k
def W0(e:True->q->p:=by intro f k;exact wW @f k):p:=e ⟨⟩ k
def U0(e:True->p:=by intro f;exact uU @f):p:=e ⟨⟩
def U1(e:A->p:=by intro f;exact uU @f):p:=e a
def U2(e:A/\B->p:=by intro f;exact uU @f):p:=e ⟨a,b⟩
def U3(e:A/\B/\C->p:=by intro f;exact uU @f):p:=e ⟨a,b,c⟩
def U4(e:A/\B/\C/\D->p:=by intro f;exact uU @f):p:=e ⟨a,b,c,d⟩
def U5(e:A/\B/\C/\D/\G->p:=by intro f;exact uU @f):p:=e ⟨a,b,c,d,g⟩
def U6(e:A/\B/\C/\D/\G/\H->p:=by intro f;exact uU @f):p:=e ⟨a,b,c,d,g,h⟩
def U7(e:A/\B/\C/\D/\G/\H/\I->p:=by intro f;exact uU @f):p:=e ⟨a,b,c,d,g,h,i⟩
def Bo(e:A/\B/\C/\D/\G/\H/\I/\J/\L/\M->p:=by intro f;exact uU @f):p:=e ⟨a,b,c,d,g,h,i,j,l,m⟩
def U11(e:A/\B/\C/\D/\G/\H/\I/\J/\L/\M/\N->p:=by intro f;exact uU @f):p:=e ⟨a,b,c,d,g,h,i,j,l,m,n⟩
end
end AM
namespace AM
open Dg Go
noncomputable section
variable {P:Program} {X:aR} {GL:T (List AV)} {ae:T au}
def Ed (a b:Br):eH 6 (.ag [(0,1,false,(.lf .i)),(1,1,false,(.lf .i)),(2,1,false,(.lf .i))]) (.ag [ι (a.1:Int),ι (a.2.1:Int),ι (a.2.2:Int)]) (.ag [ι (b.1:Int),ι (b.2.1:Int),ι (b.2.2:Int)])=some (decide (a=b)):=yG.eq a b
def qY {l i} {x:AV} (h:l[i]? =some x):sub l i 1=some [x]:=by
 have E:=(eC.1 h).1;rw[nH,aF ω];congr 1;rw[Lr E];simp[(eC.1 h).2]
def Rr {x:AV}:∀{l i},i<l.length ->eL [x] l i=some (l.set i x)
 |[],i,h=>by simp at h
 |a::l,0,h=>by simp[G5,G4,G3]
 |a::l,i+1,h=>by
  rw[Aw,Rr (by simpa using h)];rfl
def bN (b:Bool):Nat:=if b then 1 else 0
def jd {g}:∀{k s t},cA k s=true ->cA k t=true ->cA k (cY g s t)=true
 |0,.c _,.c _,_,_=>rfl
 |0,.n _ _,_,h,_=>by simp[cA] at h
 |0,.c _,.n _ _,_,h=>by simp[cA] at h
 |k+1,.c _,_,h,_=>by simp[cA] at h
 |k+1,.n _ _,.c _,_,h=>by simp[cA] at h
 |k+1,.n a b,.n c d,h1,h2=>by
  simp only[cA,aB] at h1 h2;simp only[cY,cA,aB];exact⟨jd h1.1 h2.1,jd h1.2 h2.2⟩
def yQ {b}:∀k n,jq n (yU b k)=true
 |0,0=>rfl
 |0,_+1=>rfl
 |k+1,0=>by simp[yU,jq,yQ k 0]
 |k+1,n+1=>by simp[yU,jq,yQ k n]
def IU b:aE (yU b 3)=([],bN b):=by cases b<;>rfl
def je:Nat ->Tr
 |0=> .n (yU false 2) (yU true 2)
 |1=> .n (.n (yU false 1) (yU true 1)) (.n (yU false 1) (yU true 1))
 |_=> .n (.n (.n (.c false) (.c true)) (.n (.c false) (.c true))) (.n (.n (.c false) (.c true)) (.n (.c false) (.c true)))
def aI1 {v} (h:v<3):aE (je v)=([(v,0,1)],2):=by
 rcases(show v=0∨v=1∨v=2 by omega) with rfl|rfl|rfl<;>rfl
def qu {v}:cA 3 (je v)=true:=by
 match v with
 |0=>rfl
 |1=>rfl
 |n+2=>rfl
def IV {v n} (h:v<n) (E:n<=3):jq n (je v)=true:=by
 rcases(show n=1∨n=2∨n=3 by omega) with rfl|rfl|rfl;obtain rfl:v=0:=by omega
 rfl;rcases(show v=0∨v=1 by omega) with rfl|rfl<;>rfl;rcases(show v=0∨v=1∨v=2 by omega) with rfl|rfl|rfl<;>rfl
def aS7 {B}:cellsO (tp B)=some [tp B]:=by cases B<;>rfl
def qp (p:Tr ->Bool) (i:Nat):Bool:=(((iy 3).drop (64*i)).take 64).all p
def RB {p:Tr ->Bool} (q0:qp p 0=true) (q1:qp p 1=true) (q2:qp p 2=true) (q3:qp p 3=true) {t} (E:cA 3 t=true):p t=true:=by
 have e:iy 3=((iy 3).drop 0).take 64++(((iy 3).drop 64).take 64++(((iy 3).drop 128).take 64++((iy 3).drop 192).take 64)):=lR;have m:=Ie E;rw[e] at m;simp only[fO] at m;rcases m with m|m|m|m;exact fX.1 q0 t m;exact fX.1 q1 t m;exact fX.1 q2 t m;exact fX.1 q3 t m
def Ey (t:Tr):Tr:=cY (λx y=>x !=y) t (yU true 3)
def m7:Nat ->Tr ->Tr
 |0,t=>t
 |n+1,t=> .n (m7 n t) (m7 n t)
structure dY (P:Program) (X:aR) (GL:T (List AV)):Prop where
 dia:∀{t},cA 3 t=true ->jt P X GL t
 rc:∀{t},cA 3 t=true ->∀h,bP P X GL 409 [eT t] h (ι 0) h
 i:∀{v a},v<3 ->cA (2-v) a=true ->∀h,bP P X GL 280 [eT (je v),eT (m7 (v+1) a)] h (eT (m7 v (.n (yU false (2-v)) a))) h
 m:∀{v a},v<3 ->cA (2-v) a=true ->∀h,bP P X GL 281 [eT (m7 (v+1) a),eT (je v)] h (eT (m7 v (.n a (yU false (2-v))))) h
 u:∀{v a b},v<3 ->cA (2-v) a=true ->cA (2-v) b=true ->∀h,bP P X GL 279 [eT (m7 v (.n (yU false (2-v)) a)),eT (m7 v (.n b (yU false (2-v))))] h (eT (m7 v (.n b a))) h
 c:∀{v},v<3 ->∀h,bP P X GL 277 [eT (je v)] h (eT (Ey (je v))) h
variable (F:bz8 ae)
def aI2 b:bg P X GL ae 39 [.b b] (eT (yU b 3)):=by
 refine bg.intro λC E=> ?_;rw[E.cB (F.f 39)];cases b<;>
  (
   refine Y1 @bI ?_;exact⟨1,rfl⟩)
def aI3 b:bg P X GL ae 142 [.b b] (eT (yU b 3)):=by
 refine bg.intro λC E=> ?_;rw[E.cB (F.g 142 aH3)];cases b<;>
  (
   refine Y5 @aH3.eq_1 @aH0.eq_1 @aH1.eq_1 @aH2.eq_1 @bI ?_;exact⟨1,rfl⟩)
def aI4 {v:Nat} (h:v<3):bg P X GL ae 278 [ι (v)] (.tu [eT (je v),ι 0]):=by
 refine bg.intro λC E=> ?_;refine E.bS (F.f 278) (Y1 @bI ?_);refine⟨4,?_⟩;unfold eT eD;rw[aI1 h];rfl
variable (S:aT P X GL ae)
def Bp (F:bz8 ae) b h:bP P X GL 39 [.b b] h (eT (yU b 3)) h:=dR S (aI2 F b) (n:=1) (by rfl) h
def IW (F:bz8 ae) b h:bP P X GL 142 [.b b] h (eT (yU b 3)) h:=dR S (aI3 F b) (n:=1) (by rfl) h
def Rt (F:bz8 ae) {v:Nat} (E:v<3) h:bP P X GL 278 [ι (v)] h (.tu [eT (je v),ι 0]) h:=dR S (aI4 F E) (n:=1) (by rfl) h
end
end AM
