import Derived.DefersIn
import Derived.RangeFuncLeaves
import Derived.Test.YtdicmpmcdjdneaaGreatDoorN2
set_option linter.all false
namespace AM
open Go
noncomputable section
structure aR where
 ty:T TI
 mt:List (String×List (Nat×Nat))
 sq:List Nat
 bn:List Nat
 vw:List (Nat×List (Nat×Nat×Nat))
structure j7 (P:Program) (X:aR):Prop where
 ty:lN P X.ty
 mt:∀e∈X.mt,CV P e.1 e.2
 eg:∀t∈X.sq,P.eqGuardType P.depth t=false
 vw:∀e∈X.vw,∀q∈e.2,liesAt P P.depth q.1 (q.2.1/P.cellsOf q.1) q.2.2 e.1 1=true
def QD (a b:BinOp):Bool:=decide (a=b)
def Gn (a b:UnOp):Bool:=decide (a=b)
def bH5 (a b:List (Nat×Nat)):Bool:=decide (a=b)
def Mu (a b:List (Nat×Nat×Nat)):Bool:=decide (a=b)
def uw (i:TI) (z:AV):Bool:=match z with
 | .ag l=>i.kd.isRow&&jJ l i.zs
 |z=> !i.kd.isRow&&jJ [z] i.zs
def Gq {i z} (h:uw i z=true):(i.kd.isRow=true/\ z= .ag i.zs)∨(i.kd.isRow=false/\ [z]=i.zs):=by
 unfold uw at h;split at h;simp only[aB] at h;exact .inl ⟨h.1,by rw[nI h.2]⟩;simp only[aB,jH] at h;exact .inr ⟨h.1,nI h.2⟩
section
variable (X:aR)
def iH (t:TypeId):Option TypeDesc:=(X.ty.get t).map (·.kd)
def fZ (t:TypeId):Option TI:=match X.ty.get t with
 |some i=>match i.kd with| .slice e=>X.ty.get e|_=>none
 |none=>none
def jb (t:TypeId):Bool:=match X.ty.get t with|some i=>(match i.kd with| .string=>true|_=>false)|none=>false
def qP (t:TypeId):Option (Nat×TI):=match X.ty.get t with
 |some i=>match i.kd with| .array n e=>(X.ty.get e).map λj=>(n,j)|_=>none
 |none=>none
def jA (t:TypeId):Option (TypeId×TI):=match X.ty.get t with
 |some i=>match i.kd with| .map k e=>(match X.ty.get k,X.ty.get e with|some _,some j=>some (k,j)|_,_=>none)|_=>none
 |none=>none
def ux (t:TypeId):Option (Array Field):=match X.ty.get t with
 |some i=>match i.kd with| .struct fs=>some fs|_=>none
 |none=>none
def Gs (T t esz:Nat):Bool:=match X.ty.get t with
 |some j=>match j.kd with
  | .slice e=>match X.ty.get e with
   |some i=>Nat.beq T e&&Nat.beq esz i.size&&Nat.beq i.zs.length i.size&&Nat.ble i.bytes 1048576
   |none=>false
  |_=>false
 |none=>false
def CW (oo:Op) (m:Eb):Bool:=match m with
 | .mv a=>match oo with| .move x=>dC a x| .assign x=>dC a x|_=>false
 | .pick c a b=>match oo with| .pick x y z=>dC c x&&dC a y&&dC b z|_=>false
 | .alloc z=>match oo with| .alloc t=>(match X.ty.get t with|some i=>jJ z i.zs|none=>false)|_=>false
 | .box a _=>match oo with| .box _ x=>dC a x|_=>false
 | .build z ps=>match oo with
  | .build t parts=>match X.ty.get t with
   |some i=>jJ z i.zs&&(match i.kd with
    | .struct fs=>z7 X.ty fs.toList&&pa (uv X.ty fs.toList) ps parts.toList
    | .array _ e=>(match X.ty.get e with|some j=>pa (λk=>some (k*j.size,j.size)) ps parts.toList|none=>false)
    |_=>false)
   |none=>false
  |_=>false
 | .bslice z n esz ps=>match oo with
  | .buildSlice t len parts=>match fZ X t with
   |some i=>Nat.beq n len&&jJ z (List.replicate n i.zs).flatten&&Nat.beq esz i.size&&Nat.beq i.zs.length i.size&&Nat.ble (n*esz) 16777216&&pa (λk=>some (k*i.size,i.size)) ps parts.toList
   |none=>false
  |_=>false
 | .load a n agg=>match oo with| .load t x=>(match X.ty.get t with|some i=>dC a x&&Nat.beq n i.size&&(agg==i.kd.isRow)|none=>false)|_=>false
 | .store a v n=>match oo with| .store t x y=>(match X.ty.get t with|some i=>dC a x&&dC v y&&Nat.beq n i.size|none=>false)|_=>false
 | .nilc a=>match oo with| .nilCheck x=>dC a x|_=>false
 | .bin op a b=>match oo with| .binOp op' _ x y _=>QD op' op&&dC a x&&dC b y|_=>false
 | .eqv ne e a b=>match oo with
  | .binOp op t x y _=>(bif ne then QD op .neq else QD op .eql)&&gF X.ty true 6 t e&&xT e x y&&dC a x&&dC b y&&(match e with| .ag _=>X.sq.any (Nat.beq t)|_=>true)
  |_=>false
 | .un op a=>match oo with| .unOp op' _ x=>Gn op' op&&dC a x|_=>false
 | .cvi k a=>match oo with
  | .convert s t x=>(match iH X s,iH X t with|some (.int _),some (.int k')=>gZ k k'&&dC a x|_,_=>false)
  |_=>false
 | .s2b a=>match oo with
  | .convert s t x=>jb X s&&(match fZ X t with|some i=>(match i.kd with| .int .u8=>true|_=>false)|none=>false)&&dC a x
  |_=>false
 | .b2s a=>match oo with
  | .convert s t x=>jb X t&&(match fZ X s with|some i=>(match i.kd with| .int .u8=>true|_=>false)|none=>false)&&dC a x
  |_=>false
 | .mif t a=>match oo with| .makeInterface t' x=>Nat.beq t t'&&(match iH X t' with|some (.interface _)=>false|some _=>true|none=>false)&&dC a x|_=>false
 | .mfn f a b=>match oo with| .makeFunc (.func g) x y=>Nat.beq f g&&jo a x.toList&&jo b y.toList|_=>false
 | .mmap r=>match oo with| .makeMap t x=>gK r x&&(r.isNone||(jA X t).isSome)|_=>false
 | .mslice z esz _ a b=>match oo with
  | .makeSlice t x y=>(match fZ X t with|some i=>jJ z i.zs&&Nat.beq esz i.size&&Nat.beq z.length esz&&Nat.ble i.bytes 1048576|none=>false)&&dC a x&&dC b y
  |_=>false
 | .slc esz a lo hi mx=>match oo with
  | .slice t x l h m=>(match fZ X t with|some i=>Nat.beq esz i.size|none=>false)&&dC a x&&gK lo l&&gK hi h&&gK mx m&&(mx.isNone||hi.isSome)
  |_=>false
 | .slcs a lo hi=>match oo with| .slice t x l h none=>jb X t&&dC a x&&gK lo l&&gK hi h|_=>false
 | .fadr a off=>match oo with
  | .fieldAddr s x k=>(match ux X s with|some fs=>(match fs[k]? with|some f=>Nat.beq off f.offset&&(match X.ty.get f.type with|some i=> !(Nat.beq i.size 0)|none=>false)|none=>false)|none=>false)&&dC a x
  |_=>false
 | .fld a off n agg=>match oo with
  | .field s x k=>(match ux X s with|some fs=>(match fs[k]? with|some f=>Nat.beq off f.offset&&(match X.ty.get f.type with|some i=>Nat.beq n i.size&&(agg==i.kd.isRow)|none=>false)|none=>false)|none=>false)&&dC a x
  |_=>false
 | .iadr esz a b=>match oo with| .indexAddr t x y=>(match fZ X t with|some i=>Nat.beq esz i.size|none=>false)&&dC a x&&dC b y|_=>false
 | .iadra n esz a b=>match oo with| .indexAddr t x y=>(match qP X t with|some (k,i)=>Nat.beq n k&&Nat.beq esz i.size|none=>false)&&dC a x&&dC b y|_=>false
 | .idxs a b=>match oo with| .index t x y=>jb X t&&dC a x&&dC b y|_=>false
 | .look e a b z ok=>match oo with| .lookup t x y ok'=>(match jA X t with|some (k,j)=>gF X.ty false 6 k e&&uw j z|none=>false)&&(ok==ok')&&dC a x&&dC b y|_=>false
 | .mupd e a b d=>match oo with
  | .mapUpdate t x y u=>(match jA X t with|some (k,_)=>gF X.ty false 6 k e|none=>false)&&dC a x&&dC b y&&dC d u
  | .insert t x y u=>(match jA X t with|some (k,_)=>gF X.ty false 6 k e|none=>false)&&dC a x&&dC b y&&dC d u
  |_=>false
 | .ment e a b z=>match oo with| .mapEntry t x y=>(match jA X t with|some (k,j)=>gF X.ty false 6 k e&&uw j z|none=>false)&&dC a x&&dC b y|_=>false
 | .mest a s b=>match oo with| .entryStore _ x y u=>dC a x&&dC s y&&dC b u|_=>false
 | .rng a str=>match oo with| .range t x=>(bif str then jb X t else (jA X t).isSome)&&dC a x|_=>false
 | .nxt a str=>match oo with| .next x s=>dC a x&&(str==s)|_=>false
 | .ent a=>match oo with| .entry x=>dC a x|_=>false
 | .ext a n=>match oo with| .extract x k=>dC a x&&Nat.beq n k|_=>false
 | .call f args=>match oo with| .call cl=>(match cl.callee with| .value (.func g)=>Nat.beq f g&&jo args cl.args.toList|_=>false)|_=>false
 | .callv f args=>match oo with| .call cl=>(match cl.callee with| .value g=>dC f g&&jo args cl.args.toList|_=>false)|_=>false
 | .calli r tbl args=>match oo with| .call cl=>(match cl.callee with| .invoke x name=>dC r x&&jo args cl.args.toList&&X.mt.any (λe=>decide (e.1=name)&&bH5 e.2 tbl)|_=>false)|_=>false
 | .app a b esz _=>match oo with
  | .call cl=>(match cl.callee,cl.args.toList,cl.argTypes.toList with
   | .builtin .append,[x,y],[t,tx]=>(match fZ X t with|some i=>Nat.beq esz i.size&&Nat.beq i.zs.length i.size&&Nat.ble i.bytes 1048576|none=>false)&&((fZ X tx).isSome||jb X tx)&&dC a x&&dC b y
   |_,_,_=>false)
  |_=>false
 | .len k a=>match oo with
  | .call cl=>(match cl.callee,cl.args.toList,cl.argTypes.toList with
   | .builtin .len,[x],[t]=>dC a x&&(match k with
    | .str=>jb X t
    | .arr n=>(match X.ty.get t with
     |some i=>(match i.kd with
      | .array n' _=>Nat.beq n n'
      | .pointer p=>(match X.ty.get p with|some j=>(match j.kd with| .array n' _=>Nat.beq n n'|_=>false)|none=>false)
      |_=>false)
     |none=>false)
    | .slice=>(match iH X t with|some (.slice _)=>true|_=>false)
    | .map=>(match iH X t with|some (.map _ _)=>true|_=>false))
   |_,_,_=>false)
  |_=>false
 | .cap a=>match oo with
  | .call cl=>(match cl.callee,cl.args.toList,cl.argTypes.toList with
   | .builtin .cap,[x],[t]=>dC a x&&(match iH X t with|some (.slice _)=>true|_=>false)
   |_,_,_=>false)
  |_=>false
 | .min l=>match oo with| .call cl=>(match cl.callee with| .builtin .min=>jo l cl.args.toList|_=>false)|_=>false
 | .max l=>match oo with| .call cl=>(match cl.callee with| .builtin .max=>jo l cl.args.toList|_=>false)|_=>false
 | .tbx T a=>match oo with| .box t x=>Nat.beq T t&&dC a x|_=>false
 | .tst a v n=>match oo with| .store t x y=>(match X.ty.get t with|some i=>dC a x&&dC v y&&Nat.beq n i.size|none=>false)|_=>false
 | .tld a n agg=>match oo with| .load t x=>(match X.ty.get t with|some i=>dC a x&&Nat.beq n i.size&&(agg==i.kd.isRow)|none=>false)|_=>false
 | .appz a b esz _ z=>match oo with
  | .call cl=>(match cl.callee,cl.args.toList,cl.argTypes.toList with
   | .builtin .append,[x,y],[t,tx]=>(match fZ X t with|some i=>jJ z i.zs&&Nat.beq esz i.size&&Nat.beq z.length esz&&Nat.ble 1 esz&&Nat.ble i.bytes 1048576|none=>false)&&(match iH X tx with|some (.int _)=>true|_=>false)&&dC a x&&dC b y
   |_,_,_=>false)
  |_=>false
 | .tap T a b esz _=>match oo with
  | .call cl=>(match cl.callee,cl.args.toList,cl.argTypes.toList with
   | .builtin .append,[x,y],[t,tx]=>Gs X T t esz&&((fZ X tx).isSome||jb X tx)&&dC a x&&dC b y
   |_,_,_=>false)
  |_=>false
 | .cvp a=>match oo with
  | .convert s t x=>(match iH X s,iH X t with|some (.pointer k),some .unsafePointer=>(match X.ty.get k with|some j=> !(Nat.beq j.size 0)|none=>false)|_,_=>false)&&dC a x
  |_=>false
 | .cvu tbl a=>match oo with
  | .convert s t x=>(match iH X s,iH X t with
   |some .unsafePointer,some (.pointer u)=>(X.ty.get u).isSome&&X.vw.any (λe=>Nat.beq e.1 u&&Mu e.2 tbl)
   |_,_=>false)&&dC a x
  |_=>false
 | .usd a=>match oo with
  | .call cl=>(match cl.callee,cl.args.toList with| .builtin .unsafeSliceData,[x]=>dC a x|_,_=>false)
  |_=>false
 | .ust T a b=>match oo with
  | .call cl=>(match cl.callee,cl.args.toList,cl.argTypes.toList with
   | .builtin .unsafeString,[x,y],[pt,_]=>(match iH X pt with|some (.pointer e)=>Nat.beq T e&&(match X.ty.get e with|some j=>Nat.beq j.size 1|none=>false)|_=>false)&&dC a x&&dC b y
   |_,_,_=>false)
  |_=>false
 | .bad _=>match oo with| .defer _=>false|_=>true
end
def Ab:Eb ->Bool
 | .alloc _| .box .. | .bslice .. | .mmap _| .mslice .. | .tbx .. =>true
 |_=>false
section
variable {P:Program} {CR:Nat ->Code ->aw ->Prop}
variable {c:CE} {h:AH} {w:World} {ev:MA ->AV} {ρ:Operand ->Value} {o:Oper} {C:aR}
variable {t:TypeId}
variable (hC:j7 P C)
def pZ {d} (h:iH C t=some d):P.underlying t=some d:=by
 unfold iH at h;rcases j:C.ty.get t with _|i;rw[j] at h;cases h;rw[j] at h;cases h;exact(hC.ty t i j).und
def qb {i} (h:fZ C t=some i):∃e,P.underlying t=some (.slice e)/\ C.ty.get e=some i/\ gT P e i:=by
 unfold fZ at h;repeat' (first|(cases h;done)|split at h)
 rename_i j _ D _ e B;exact⟨e,B▸(hC.ty t _ D).und,h,hC.ty e i h⟩
def rT (h:jb C t=true):P.underlying t=some .string:=by
 unfold jb at h;repeat' (first|(cases h;done)|split at h)
 rename_i B _ j;exact j▸(hC.ty t _ B).und
def Gt {n i} (h:qP C t=some (n,i)):∃e,P.underlying t=some (.array n e)/\ gT P e i:=by
 unfold qP at h;repeat' (first|(cases h;done)|split at h)
 rename_i D _ _ e B;cases j:C.ty.get e<;>rw[j] at h<;>cases h;exact⟨e,B▸(hC.ty t _ D).und,hC.ty e _ j⟩
def wi {k j} (h:jA C t=some (k,j)):∃e kd,P.underlying t=some (.map k e)/\ C.ty.get k=some kd/\ C.ty.get e=some j:=by
 unfold jA at h;repeat' (first|(cases h;done)|split at h)
 rename_i G _ _ e B _ _ _ _ E D;cases h;exact⟨e,_,B▸(hC.ty t _ G).und,E,D⟩
def bH6 (h:(jA C t).isSome=true):∃k e,P.underlying t=some (.map k e):=by
 obtain⟨q,B⟩:=Option.isSome_iff_exists.1 h;obtain⟨e,_,e1,_⟩:=wi hC (k:=q.1) (j:=q.2) B;exact⟨_,e,e1⟩
def Mv {fs} (h:ux C t=some fs):P.underlying t=some (.struct fs):=by
 unfold ux at h;repeat' (first|(cases h;done)|split at h)
 rename_i B _ _ j;cases h;exact j▸(hC.ty t _ B).und
def HX {j:Call} {b a t} (h1:j.callee= .builtin b) (h2:j.args.toList=a) (B:j.argTypes.toList=t):j=⟨.builtin b,a.toArray,t.toArray⟩:=by
 obtain⟨_,_,_⟩:=j;subst h1 h2 B;rfl
def bH7 {ne op} (h:(bif ne then QD op .neq else QD op .eql)=true):(op= .eql/\ ne=false)∨(op= .neq/\ ne=true):=by
 cases ne;exact .inl ⟨qM h,rfl⟩;exact .inr ⟨qM h,rfl⟩
def Sm (h:((fZ C t).isSome||jb C t)=true):(∃e,P.underlying t=some (.slice e))∨P.underlying t=some .string:=by
 rcases Bool.or_eq_true_iff.1 h with h|h;obtain⟨q,j⟩:=Option.isSome_iff_exists.1 h;obtain⟨e,e1,_⟩:=qb hC j;exact .inl ⟨e,e1⟩;exact .inr (rT hC h)
def ZO (CR:Nat ->Code ->aw ->Prop) (c:CE) (w:World) (ev:MA ->AV) (m:Eb) (r:Result Next):Prop:=
 (∃obj val,(∀H,step ev H m=H.new (obj H.ver) λo h=> .v (val o) h)/\ (∀v,live (obj v)=true)/\ nJ CR c w obj val r)∨∀H,step ev H m= .bad
def ZP (X:Cx CR c h w ev ρ) {m} (W:Ab m=true) (j:CW C o.op m=true):ZO CR c w ev m ((execOp ρ o).run P w):=by
 generalize E:o.op=oo at j;cases m<;>first|(cases W;done)|skip
 all_goals (unfold CW at j;dsimp only at j;repeat' (first|(cases j;done)|split at j))
 all_goals (try simp only[aB,bu,wX,aU] at j)
 exact .inl ⟨λv=> .cells v _,λo=> .p o 0,λ_=>rfl,λ_=>rfl,LE (hC.ty _ _ ‹_›) E (nI j)⟩;rename_i a _ _ _ _;rcases B:cellsO (ev a) with _|l;exact .inr λH=>by simp only[step,AR,al4,B]
 exact .inl ⟨λv=> .cells v l,λo=> .p o 0,λH=>by simp only[step,AR,al4,B],λ_=>rfl,LF X E j B⟩;rename_i z _ esz ps _ _ n _ _ _ _;obtain⟨⟨⟨⟨⟨rfl,h2⟩,O⟩,S⟩,U⟩,V⟩:=j;obtain⟨e,e1,e2,e3⟩:=qb hC ‹_›;rcases L:ik ev ps z with _|l;exact .inr λH=>by simp only[step,AR,al6,L]
 exact .inl ⟨λv=> .cells v l,λo=> .sl o 0 _ (some _) esz,λH=>by simp only[step,AR,al6,L],λ_=>rfl,Mp hC.ty X e1 e2 (nI h2) O S U E V L⟩;rename_i r _ t _;have Y:r=none∨∃a b,P.underlying t=some (.map a b):=by
  rcases Bool.or_eq_true_iff.1 j.2 with h1|h1
  simp_all
  exact .inr (bH6 hC h1)
 by_cases I:xS ev r=true
 ·refine .inl ⟨λv=> .map v [] 0,λo=> .m o,λH=> ?_,λ_=>rfl,CM X j.1 Y E I⟩;cases r with
  |none=>rfl
  |some a=>simp only[step,AR,am9];cases J:ev a<;>first|rfl|(simp[xS,J] at I;done)
 ·refine .inr λH=> ?_;cases r with
  |none=>exact bh rfl I
  |some a=>simp only[step,AR,am9];cases J:ev a<;>first|rfl|(simp[xS,J] at I;done)
 rename_i z esz _ a b _ _ _ _ _ _ _;obtain⟨e,e1,e2,e3⟩:=qb hC ‹_›;rcases G:nA ev a with _|l;exact .inr λH=>by simp only[step,AR,an0,G]
 rcases D:nA ev b with _|k;exact .inr λH=>by simp only[step,AR,an0,G,D]
 by_cases B:l<=k/\ k<=1048576;exact .inl ⟨λv=> .cells v (List.replicate k z).flatten,λo=> .sl o 0 l (some k) esz,λH=>by simp[step,AR,an0,G,D,wX,B,zP],λ_=>rfl,
  LR e3 X e1 E j.1.2 j.2 (nI j.1.1.1.1.1) j.1.1.1.1.2 j.1.1.1.2 j.1.1.2 G D B⟩
 exact .inr λH=>by simp only[step,AR,an0,G,D,wX,←Bool.decide_and,B,decide_false,eU]
 rename_i a _ _ _;obtain⟨rfl,j⟩:=j;rcases B:cellsO (ev a) with _|l;exact .inr λH=>by simp only[step,AR,aq8,B]
 exact .inl ⟨λ_=> .tc _ true l,λo=> .p o 0,λH=>by simp only[step,AR,aq8,B],λ_=>rfl,Ms X E j B⟩
def ZI (X:Cx CR c h w ev ρ) (Y:∀f,ρ (.func f)= .func (.func f) #[] #[]) {m} (B:CW C o.op m=true):bD P CR c h w (step ev h m) ((execOp ρ o).run P w):=by
 cases ha:Ab m with
 |true=>
  rcases ZP hC X ha B with ⟨obj,val,e,-,g⟩|e;rw[e];exact g.good X.rs;rw[e];trivial
 |false=>
 generalize D:o.op=oo at B;cases m<;>first|(cases ha;done)|skip
 all_goals (unfold CW at B;dsimp only at B;repeat' (first|(cases B;done)|split at B))
 all_goals (try simp only[aB,bu,wX,aU,mD,jH,Cr,nr,and_false,false_and,and_true,true_and] at B)
 exact LD X (.inl D) B;exact LD X (.inr D) B;exact Yc X D B.1.1 B.1.2 B.2;exact Zn hC.ty X ‹_› ‹_› B.2.1 (nI B.1) D B.2.2;exact Zo hC.ty X (by assumption) (by assumption) (by assumption) (nI B.1) D B.2;exact Yf (hC.ty _ _ ‹_›) X D B.1.1 B.1.2 B.2;exact Yh (hC.ty _ _ ‹_›) X D B.1.1 B.1.2 B.2;exact Yi X D B;cases qM B.1.1;exact YS X D B.1.2 B.2;refine YX hC.ty X D (bH7 B.1.1.1.1.1) B.1.1.1.1.2 B.1.1.1.2 (λ_=> ?_) B.1.1.2 B.1.2;obtain⟨t',h7,h8⟩:=qK.1 B.2;simp only[bu,aU] at h8;exact h8▸hC.eg _ h7;rename_i W;exact YX hC.ty X D (bH7 B.1.1.1.1) B.1.1.1.2 B.1.1.2 (λ⟨l,e⟩=>(W l e).elim) B.1.2 B.2;cases qM B.1;exact Yn X D B.2;cases zV B.1;exact Ys (pZ hC ‹_›) (pZ hC ‹_›) X D B.2;rename_i L _ G;obtain⟨e,e1,e2,e3⟩:=qb hC L;exact Zk X (rT hC B.1) e1 (G▸e3.und) D B.2;rename_i L _ G;obtain⟨e,e1,e2,e3⟩:=qb hC L;exact Zl X e1 (G▸e3.und) (rT hC B.1) D B.2;rename_i W hd;obtain⟨rfl,B⟩:=B;exact Yp X (pZ hC hd) W D B;obtain⟨⟨rfl,h2⟩,E⟩:=B;exact YF X D h2 E;obtain⟨e,e1,e2,e3⟩:=qb hC ‹_›;exact Yz e3 X e1 D B.1.1.1.1.2 B.1.1.1.2 B.1.1.2 B.1.2 (by simpa[Option.isSome_iff_ne_none] using B.2) B.1.1.1.1.1;exact YA X (rT hC B.1.1.1) D B.1.1.2 B.1.2 B.2;obtain⟨⟨rfl,E⟩,h2⟩:=B;obtain⟨b0,zv,Z,i2,_⟩:=(hC.ty _ _ ‹_›).info;exact Yr X (Mv hC ‹_›) ‹_› Z (by rw[i2];exact E) D h2;obtain⟨⟨rfl,E⟩,h2⟩:=B;exact Yu (hC.ty _ _ ‹_›) X (Mv hC ‹_›) ‹_› D h2 E.1 E.2;obtain⟨e,e1,e2,e3⟩:=qb hC ‹_›;exact Yv e3 X e1 D B.1.2 B.2 B.1.1;obtain⟨e,e1,e3⟩:=Gt hC ‹_›;obtain⟨⟨⟨rfl,rfl⟩,h2⟩,E⟩:=B;exact Yw e3 X e1 D h2 E rfl;exact Yx X (rT hC B.1.1) D B.1.2 B.2;obtain⟨S,kd,e1,e2,e3⟩:=wi hC ‹_›;obtain⟨⟨⟨h1,rfl⟩,h2⟩,E⟩:=B;exact Zc hC.ty X e1 h1.1 e3 (Gq h1.2) e2 D h2 E;obtain⟨S,kd,e1,e2,e3⟩:=wi hC ‹_›;exact Mg hC.ty X e1 B.1.1.1 e2 (.inl D) B.1.1.2 B.1.2 B.2;obtain⟨S,kd,e1,e2,e3⟩:=wi hC ‹_›;exact Mg hC.ty X e1 B.1.1.1 e2 (.inr D) B.1.1.2 B.1.2 B.2;obtain⟨S,kd,e1,e2,e3⟩:=wi hC ‹_›;exact Zq hC.ty X e1 B.1.1.1 e2 e3 (Gq B.1.1.2) D B.1.2 B.2;exact Zr X D B.1.1 B.1.2 B.2;rename_i str _ _ _;refine YM X D B.2 ?_;cases str with
 |true=>exact .inl ⟨rfl,rT hC B.1⟩
 |false=>exact .inr ⟨rfl,bH6 hC B.1⟩
 obtain⟨h1,rfl⟩:=B;exact YP X D h1;exact YQ X D B;obtain⟨h1,rfl⟩:=B;exact Yq X D h1;obtain⟨rfl,h2⟩:=B;exact YG X ‹_› (Y _) D h2;exact YH X ‹_› B.1 D B.2;obtain⟨e,h4,U⟩:=qK.1 B.2;simp only[aB,aU,bH5] at U;have:=hC.mt e h4;rw[U.1,U.2] at this;exact Zt X this ‹_› B.1.1 D B.1.2;obtain⟨e,e1,e2,e3⟩:=qb hC ‹_›;rename_i h1 h2 E _ _ _;exact Zf (bs:=0) e3 X e1 (Sm hC B.1.1.2) (by rw[D,HX h1 h2 E]) B.1.2 B.2 B.1.1.1.1.1 B.1.1.1.1.2 B.1.1.1.2;rename_i h1 h2 E _ _ L _ _ V;obtain⟨e,e1,e2,e3⟩:=qb hC L;exact ZD (bs:=0) e3 X e1 (pZ hC V) (by rw[D,HX h1 h2 E]) B.1.2 B.2 (nI B.1.1.1.1.1.1) B.1.1.1.1.1.2 B.1.1.1.1.2 B.1.1.1.2 B.1.1.2;rename_i h1 h2 E _;rw[HX h1 h2 E] at D;exact YC X rfl (rT hC B.2) D B.1;rename_i h1 h2 E _ _ _ _ O _ _ _ G;rw[HX h1 h2 E] at D;obtain⟨_,rfl⟩:=B;exact LN X rfl (.inl ⟨_,G▸(hC.ty _ _ O).und⟩) D;rename_i h1 h2 E _ _ _ _ O _ _ hp _ _ J _ _ _ G;rw[HX h1 h2 E] at D;obtain⟨_,rfl⟩:=B;exact LN X rfl (.inr ⟨_,_,hp▸(hC.ty _ _ O).und,G▸(hC.ty _ _ J).und⟩) D;rename_i h1 h2 E _ _ _ G;rw[HX h1 h2 E] at D;exact YD X rfl (pZ hC G) D B;rename_i h1 h2 E _ _ _ _ G;rw[HX h1 h2 E] at D;exact Zg X rfl (pZ hC G) D B;rename_i h1 h2 E _ _ G;rw[HX h1 h2 E] at D;exact YE X rfl (pZ hC G) D B;rename_i I _ h1;obtain⟨_,_,_⟩:=I;cases h1;exact Zh X D B;rename_i I _ h1;obtain⟨_,_,_⟩:=I;cases h1;exact Zi X D B;exact Zw (hC.ty _ _ ‹_›) X D B.1.1 B.1.2 B.2;exact Yg (hC.ty _ _ ‹_›) X D B.1.1 B.1.2 B.2
 ·rename_i h1 h2 E;have H:=B.1.1.1;unfold Gs at H;repeat' (first|(cases H;done)|split at H)
  simp only[aB,bu,wX,aU] at H;rename_i O _ _ G _ _ hi;exact ZF (bs:=0) (hC.ty _ _ hi) X (G▸(hC.ty _ _ O).und) (Sm hC B.1.1.2) (by rw[D,HX h1 h2 E]) B.1.2 B.2 H.1.1.2 H.1.2 H.2 H.1.1.1
 exact Zx (pZ hC ‹_›) (hC.ty _ _ ‹_›) B.1 (pZ hC ‹_›) X D B.2;obtain⟨⟨k3,k4⟩,k2⟩:=B;obtain⟨q,k4,k5⟩:=qK.1 k4;simp only[aB,aU,Mu] at k5;obtain⟨j,J⟩:=Option.isSome_iff_exists.1 k3;refine Zy (pZ hC ‹_›) (pZ hC ‹_›) (hC.ty _ j J) (λz hz=> ?_) X D k2;rw[←k5.1];exact hC.vw q k4 z (k5.2▸hz);rename_i I _ _ _ h1 h2;exact Zz X (ts:=I.argTypes) (by rw[D,HX h1 h2 rfl]) B;rename_i h1 h2 E _ _ G _ _ J;obtain⟨b0,zv,Z,i2,_⟩:=(hC.ty _ _ J).info;exact ZA (pZ hC G) (by simp[Program.cellsOf,Z,i2,B.1.1.2]) X (by rw[D,HX h1 h2 E]) B.1.2 B.2 B.1.1.1;trivial
end
def fw (ro:Option Nat):Fence:={ Fence.wide with round:=ro }
def Mw {ro j n} {P:Program} {f args w R} (h:CallsIn (fw ro) n P f args w R):CallsIn (fw j) n P f args w R:=h
def ZJ {ro j n} {P:Program} {l f tmps a b w R}
 (h:RoundIn (fw ro) n P l f tmps a b w R):RoundIn (fw j) n P l f tmps a b w R:=h
def mJ (P:Program) (r:Result Next) (K:Value ->World ->Prop):Prop:=
 match r with
 | .ok (.value v) w=>K v w
 | .ok (.enter f args) w=>CallsIn (fw none) 0 P f args w λe j=>match e with| .returned v=>K v j|_=>False
 | .ok (.round l f tmps a b) w=>RoundIn (fw none) 0 P l f tmps a b w λe j=>match e with| .returned v=>K v j|_=>False
 |_=>False
def mJ.mono {P:Program} {r K K'} (h:mJ P r K) (j:∀v w,K v w ->K' v w):mJ P r K':=by
 unfold mJ at*;split at h;exact j _ _ h;exact vN h λe B=>by cases e<;>simp;exact j _ _
 exact RoundIn.mono h λe B=>by cases e<;>simp;exact j _ _
 exact h.elim
def mJ.upon {P:Program} {ro} {o:Oper} {a next Q r}
 (h:mJ P r λv w=>next (a.put o.dst v) w):o.uponIn (fw ro) 0 P a next Q r:=by
 unfold mJ at h;split at h;exact h;refine⟨λh=>(by cases h),?_⟩;refine vN (Mw h) λe j=> ?_;cases e<;>simp;refine⟨λh=>(by cases h),?_⟩;refine RoundIn.mono (ZJ h) λe j=> ?_;cases e<;>simp;exact h.elim
def Mx {P:Program} {ro} {o:Oper} {a w next Q} (hd:∀c,o.op≠.defer c)
 (h:o.uponIn (fw ro) 0 P a next Q ((execOp a.eval o).run P w)):o.wpIn (fw ro) 0 P a w next Q:=
 ⟨λ_ _=>trivial,by rw[Oper.semAt_eq _ _ _ hd];exact h⟩
structure CX (P:Program) (f:Nat):Prop where
 body:∃fn b,P.funcs[f]? =some fn/\ (fn.name== "runtime.NumGoroutine")=false/\ fn.body=some b
 run:∀args w,CallsDIn (fw none) 0 P f args .returning w λe u w'=>(∃v,e= .returned v)/\ u= .returning/\ w'=w
def CY (P:Program) (s:Nat) (c:CE) (h:AH) (w:World) (d:Deferred):Prop:=
 (∃r,d.target= .collected r/\ s<=r/\ r<w.heap.size/\ w.heap[r]? =some (.deferred (some []))/\∀o obj,dU c h o obj ->(c.ρ o).1≠r)∨
 (∃g j,d.target= .fn (.func g) j/\ CX P g)
section
variable {P:Program} {CR:Nat ->Code ->aw ->Prop}
structure lO (P:Program) (s:Nat) (c:CE) (h:AH) (w:World) (l:List Deferred):Prop where
 all:∀d∈l,CY P s c h w d
 apart:l.Pairwise (λd e=>∀r,d.target= .collected r ->e.target≠.collected r)
variable {c:CE}
def lO.nil {s h w}:lO P s c h w []:=⟨λ_ h=>(by cases h),.nil⟩
variable {c':CE}
def CY.evo {s h h' w E d} (m:CY P s c h w d) (e:j6 c h w c' h' E):CY P s c' h' E d:=by
 rcases m with ⟨r,h1,h2,B,G,H⟩|m
 case inr=>exact .inr m
 refine .inl ⟨r,h1,h2,iR B e.size,by rw[e.same r B H];exact G,λo obj J O=> ?_⟩;rcases e.new o obj J with I|⟨D,j,I,L⟩;omega
 grind
def lO.evo {s h h' w j l} (m:lO P s c h w l) (e:j6 c h w c' h' j):lO P s c' h' j l:=
 ⟨λd hd=>(m.all d hd).evo e,m.apart⟩
structure St (P:Program) (CR:Nat ->Code ->aw ->Prop) (GL:T (List AV)) (N s:Nat) (c:CE) (h:AH) (w:World) (τ:T AV) (a:Act):Prop where
 rs:RS CR c h w
 gl:∀g l,GL.get g=some l ->c.gl g=some l
 tr:TR c τ a.tmps
 sz:N<=a.tmps.size
 marks:lO P s c h w a.defers
def z8 {GL:T (List AV)} (j:∀g l,GL.get g=some l ->c.gl g=some l) (e:gE c c'):∀g l,GL.get g=some l ->c'.gl g=some l:=
 λg l B=>by rw[e.gl];exact j g l B
def cj (τ:T AV) (d:Option Nat) (v:AV):T AV:=match d with|none=>τ|some d=>τ.put d v
def TR.put {τ} {a:Act} (h:TR c τ a.tmps) {d} (hd:∀t,d=some t ->t<a.tmps.size) {x v} (D:VR c x v):TR c (cj τ d x) (a.put d v).tmps:=by
 rcases d with _|t;exact h;intro k y j;replace j:(τ.put t x).get k=some y:=j;rw[T.get_put] at j;have B:(a.put (some t) v).tmps=a.tmps.setIfInBounds t v:=rfl;rw[B];by_cases e:k=t
 grind
 rw[aD e] at j;obtain⟨v',h1,h2⟩:=h k y j;exact⟨v',by rw[Fz (λq=>e q.symm)];exact h1,h2⟩
def iI {R} τ d v (k:T AV ->R):eh τ d v k=k (cj τ d v):=by
 rcases d with _|d;rfl;show τ.setK d v k=_;rw[T.setK_put];rfl
def St.step {GL:T (List AV)} {N s h h' w j τ a} (S:St P CR GL N s c h w τ a) (e:cH CR c h w c' h' j)
 {d} (hd:∀t,d=some t ->t<N) {x v} (D:VR c' x v):St P CR GL N s c' h' j (cj τ d x) (a.put d v):=
 ⟨e.rs,z8 S.gl e.ext,TR.put (S.tr.mono e.ext) (λt B=>iR (hd t B) S.sz) D,
  by cases d<;>simp[Act.put]<;>exact S.sz,by cases d<;>exact S.marks.evo e.keep⟩
end
def Gv (N:Nat):Option Nat ->Option Nat ->Bool
 |none,none=>true
 |some a,some b=>Nat.beq a b&&Nat.ble (Nat.succ a) N
 |_,_=>false
def My (ops:Array Oper):Option (Nat×Bool) ->Option (Nat×Bool) ->Bool
 |none,none=>true
 |some (j,w),some (t,w')=>(w==w')&&(match ops[j]? with|some o=>(match o.dst with|some d=>Nat.beq d t|none=>false)|none=>false)
 |_,_=>false
def lP (X:aR) (N:Nat) (ops:Array Oper) (o:Oper) (g:MG):Bool:=
 CW X o.op g.op&&(Gv N o.dst g.dst&&My ops o.guard g.guard)
def Gw (X:aR) (N:Nat) (ops:Array Oper) (l:List MG):List Oper ->Bool:=
 List.rec (motive:=λ_=>List Oper ->Bool) (λv=>List.isEmpty v) (λg _ j v=>match v with|[]=>false|o::r=>lP X N ops o g&&j r) l
def uy {N a b} (h:Gv N a b=true):a=b/\∀t,b=some t ->t<N:=by
 unfold Gv at h;split at h
 grind
 simp only[aB,bu,wX,aU] at h;obtain⟨rfl,h⟩:=h;exact⟨rfl,λt j=>by cases j;exact h⟩;cases h
def Mz {X:aR} {oo m} (h:CW X oo m=true):∀c,oo≠.defer c:=by
 intro c e;subst e;cases m<;>cases h
def Aa (P:Program) (CR:Nat ->Code ->aw ->Prop) (k:AV ->AH ->Prop) (c:CE) (h:AH) (w:World) (r:Result Next):Prop:=
 mJ P r λv j=>∃x h' c',k x h'/\ cH CR c h w c' h' j/\ VR c' x v
section
variable {P:Program} {CR:Nat ->Code ->aw ->Prop} {X:aR} {C:aK Prop}
structure CfgOK (C:aK Prop):Prop where
 fail:C.fail=False
 both:∀p q,C.both p q=(p/\ q)
def ZK (hC:CfgOK C) {f}:∀{l},gQ C f l ->∀e∈l,f e.1 e.2:=by
 intro l;induction l with
 |nil=>intro _ e j;cases j
 |cons a t B=>
  intro h e j;rcases t with _|⟨b,r⟩;have h':f a.1 a.2:=h;rcases ey.1 j with rfl|j;exact h';cases j;have h':C.both (f a.1 a.2) (gQ C f (b::r)):=h;rw[hC.both] at h';rcases ey.1 j with rfl|j;exact h'.1;exact B h'.2 e j
def uz (P:Program) (CR:Nat ->Code ->aw ->Prop) (GL:T (List AV)) (j:Nat ->List AV ->AH ->(AV ->AH ->Prop) ->Prop):Prop:=
 ∀f args h k,j f args h k ->∀c w vs,RS CR c h w ->(∀g l,GL.get g=some l ->c.gl g=some l) ->bX c args vs ->Aa P CR k c h w ((callFunc f vs.toArray).run P w)
def uA (P:Program) (CR:Nat ->Code ->aw ->Prop) (GL:T (List AV)) (j:Nat ->List AV ->AH ->(AV ->AH ->Prop) ->Prop):Prop:=
 ∀l args h k,j l args h k ->∀c w vs,RS CR c h w ->(∀g l,GL.get g=some l ->c.gl g=some l) ->c.dM l ->bX c args vs ->Aa P CR k c h w ((Instr.yield (c.ρ l).1 vs.toArray).run P w)
def MB {ro N s c h w τ a} {GL:T (List AV)} (S:St P CR GL N s c h w τ a) {k r} (H:Aa P CR k c h w r)
 {o:Oper} {d} (hd:o.dst=d/\∀t,d=some t ->t<N) {next Q}
 (D:∀x h' c' j B,k x h' ->cH CR c h w c' h' j ->St P CR GL N s c' h' j (cj τ d x) B ->next B j):o.uponIn (fw ro) 0 P a next Q r:=by
 refine mJ.upon (mJ.mono H λv j=> ?_);rintro⟨x,h',c',h1,h2,h3⟩;refine D x h' c' j _ h1 h2 ?_;rw[hd.1];exact S.step h2 hd.2 h3
def CZ (hX:j7 P X) (hC:CfgOK C) {nL bA} (U:uz P CR C.gL nL) (b0:uA P CR C.gL bA)
 {ro N s ops Q i o g} (aC:ops[i]? =some o) (hk:lP X N ops o g=true)
 {τ h c w a k} (hr:eY C nL bA g τ h k) (S:St P CR C.gL N s c h w τ a) {K}
 (hn:∀x h' c' Z a',k x h' ->cH CR c h w c' h' Z ->St P CR C.gL N s c' h' Z (cj τ g.dst x) a' ->K a' Z):wpOpIn (fw ro) 0 P ops Q i K a w:=by
 simp only[aB,lP] at hk;obtain⟨k1,k2,W⟩:=hk;have L:=uy k2;obtain⟨dst,op,guard⟩:=g;dsimp only at*;have B:(match step (az C τ) h op with
  | .v x h=>k x h
  | .call f args h=>nL f args h k
  | .yld l args h=>bA l args h k
  | .alts l=>gQ C k l
  | .bad=>C.fail) ->o.wpIn (fw ro) 0 P a w K Q:=by
  intro B;refine Mx (Mz k1) ?_;have O:Cx CR c h w (az C τ) a.eval:=⟨S.rs,λm x hm=>zT C S.tr S.gl S.rs.gl hm⟩;have SG:=ZI hX O (o:=o) (λf=>rfl) k1;generalize b2:step (az C τ) h op=res at B SG;generalize (execOp a.eval o).run P w=b1 at SG;have E:∀x h',cV CR c h w x h' b1 ->k x h' ->o.uponIn (fw ro) 0 P a K Q b1:=by
   intro x h' G O;obtain⟨c',Z,nx,rfl,e,h3⟩:=G;rcases h3 with ⟨v,rfl,h3⟩|⟨rfl,rfl⟩;rw[Oper.uponIn_value,L.1];exact hn x h' c' Z _ O e (S.step e L.2 h3);rw[Oper.uponIn_skip,L.1];exact hn .un h' c' Z _ O e (S.step e L.2 (.un _))
  cases res with
  |v x h'=>exact E x h' SG B
  |call f args h'=>
   dsimp only at B;obtain⟨rfl,vs,h2,rfl⟩:=SG;exact MB S (U _ _ _ _ B c w vs S.rs S.gl h2) L hn
  |yld l args h'=>
   dsimp only at B;obtain⟨rfl,h1,vs,h2,rfl⟩:=SG;exact MB S (b0 _ _ _ _ B c w vs S.rs S.gl h1 h2) L hn
  |alts l=>
   dsimp only at B;obtain⟨e,he,G⟩:=SG;exact E _ _ G (ZK hC B e he)
  |bad=>rw[hC.fail] at B;exact B.elim
 have H:k (.tu []) h ->K (a.put o.dst undef) w:=by
  intro hs;rw[L.1];exact hn (.tu []) h c w _ hs (cH.refl S.rs) (S.step (cH.refl S.rs) L.2 (.tu [] [] .nil))
 unfold wpOpIn;simp only[aC];rcases guard with _|q;cases V:o.guard with
 |some q=>rw[V] at W;cases W
 |none=>
  have hw:Region.wanted o (yielded ops a.tmps)=true:=by simp[Region.wanted,V]
  simp only[hw,dZ];exact B hr
 obtain⟨t,b3⟩:=q;rcases V:o.guard with _|q';rw[V] at W;cases W;obtain⟨j,D⟩:=q';rw[V] at W;simp only[My,aB,mD] at W;obtain⟨rfl,J⟩:=W;rcases hj:ops[j]? with _|oj;rw[hj] at J;cases J;rw[hj] at J;dsimp only at J;rcases I:oj.dst with _|d;rw[I] at J;cases J;rw[I] at J;simp only[bu,aU] at J;subst J;have Y:(match τ.get d with
  |some (.b x)=>(Bool.rec (k (.tu []) h) (match step (az C τ) h op with
   | .v x h=>k x h
   | .call f args h=>nL f args h k
   | .yld l args h=>bA l args h k
   | .alts l=>gQ C k l
   | .bad=>C.fail) (bif x then D else !D):Prop)
  |some (.tu [])=>k (.tu []) h
  |_=>C.fail):=hr
 split at Y;rename_i x O;obtain⟨v',e1,e2⟩:=S.tr d _ O;cases e2;have hy:yielded ops a.tmps j=some x:=by simp[yielded,hj,I,e1]
 have hw:Region.wanted o (yielded ops a.tmps)=(bif x then D else !D):=by
  simp only[Region.wanted,V,hy];cases x<;>cases D<;>rfl
 rw[hw];cases hb:(bif x then D else !D) with
 |true=>rw[hb] at Y;simp only[dZ];exact B Y
 |false=>
  rw[hb] at Y;simp only[nr,bV];exact⟨λ_ _=>trivial,H Y⟩
 rename_i O;obtain⟨v',e1,e2⟩:=S.tr d _ O;cases e2 with
 |tu _ vs e3=>
  cases e3;have hy:yielded ops a.tmps j=none:=by simp[yielded,hj,I,e1]
  have hw:Region.wanted o (yielded ops a.tmps)=false:=by
   simp_all [Region.wanted,V,hy]
  rw[hw];simp only[nr,bV];exact⟨λ_ _=>trivial,H Y⟩
 grind[hC.fail]
def ZL (hX:j7 P X) (hC:CfgOK C) {U L} (D:uz P CR C.gL U) (H:uA P CR C.gL L)
 {ro N s ops Q K}:∀B l k,(∀j o,l[j]? =some o ->ops[k+j]? =some o) ->Gw X N ops B l=true ->
 ∀τ h c w a,AY C U L K B τ h ->St P CR C.gL N s c h w τ a ->
  (∀c' h' I τ' J,K τ' h' ->cH CR c h w c' h' I ->St P CR C.gL N s c' h' I τ' J ->Q .normal J I) ->wpOpsIn (fw ro) 0 P ops Q (List.range' k l.length) a w:=by
 intro B;induction B with
 |nil=>
  intro l k V O τ h c w a G S hQ;rcases l with _|⟨o,r⟩;exact hQ c h w τ a G (cH.refl S.rs) S;cases O
 |cons g B ih=>
  intro l k V O τ h c w a G S hQ;rcases l with _|⟨o,r⟩;cases O;have E:(lP X N ops o g&&Gw X N ops B r)=true:=O;simp only[aB] at E;have Y:ops[k]? =some o:=by simpa using V 0 o rfl
  replace G:eY C U L g τ h (λx h=>eh τ g.dst x λτ=>AY C U L K B τ h):=G;rw[show(o::r).length=r.length+1 from rfl,Cc,wpOpsIn_cons];refine CZ hX hC D H Y E.1 G S λx h' c' I J h1 h2 h3=> ?_;rw[iI] at h1;refine ih r (k+1) (λj o' hj=> ?_) E.2 _ _ c' I J h1 h3 λZ b0 b1 τ'' W q1 q2 q3=>hQ _ _ _ _ _ q1 (h2.trans q2) q3;have:=V (j+1) o' hj;rw[←this];congr 1;omega
end
def cX:Eb ->List MA
 | .mv a=>[a]| .pick c a b=>[c,a,b]| .alloc _=>[]| .box a _=>[a]
 | .build _ ps=>ps.map (·.2.2)| .bslice _ _ _ ps=>ps.map (·.2.2)
 | .load a _ _=>[a]| .store a v _=>[a,v]| .nilc a=>[a]| .bin _ x y=>[x,y]| .eqv _ _ x y=>[x,y]| .un _ x=>[x]
 | .cvi _ x=>[x]| .s2b x=>[x]| .b2s x=>[x]| .mif _ x=>[x]| .mfn _ fi ca=>fi++ca
 | .mmap r=>r.toList| .mslice _ _ _ l c=>[l,c]
 | .slc _ x lo hi mx=>x::(lo.toList++(hi.toList++mx.toList))| .slcs x lo hi=>x::(lo.toList++hi.toList)
 | .fadr x _=>[x]| .fld x _ _ _=>[x]| .iadr _ x i=>[x,i]| .iadra _ _ x i=>[x,i]| .idxs x i=>[x,i]
 | .look _ m k _ _=>[m,k]| .mupd _ m k v=>[m,k,v]| .ment _ m k _=>[m,k]| .mest m s v=>[m,s,v]
 | .rng x _=>[x]| .nxt x _=>[x]| .ent x=>[x]| .ext x _=>[x]
 | .call _ l=>l| .callv f l=>f::l| .calli r _ l=>r::l
 | .app s x _ _=>[s,x]| .appz s x _ _ _=>[s,x]| .len _ x=>[x]| .cap x=>[x]
 | .min l=>l| .max l=>l| .bad _=>[]
 | .tbx _ a=>[a]| .tst a v _=>[a,v]| .tld a _ _=>[a]| .tap _ s x _ _=>[s,x]| .cvp x=>[x]| .cvu _ x=>[x]| .usd x=>[x]| .ust _ p n=>[p,n]
section
variable {ev ev':MA ->AV}
def Jz:∀{l},(∀m∈l,ev m=ev' m) ->eE ev l=eE ev' l
 |[],_=>rfl
 |a::t,h=>by
  have e1:eE ev (a::t)=(Option.rec none (λb=>Option.rec none (λt=>some (b::t)) (eE ev t)) (fV (ev a) some):Option (List AV)):=rfl;have e2:eE ev' (a::t)=(Option.rec none (λb=>Option.rec none (λt=>some (b::t)) (eE ev' t)) (fV (ev' a) some):Option (List AV)):=rfl;rw[e1,e2,h a jG,Jz λm j=>h m (jw _ j)]
def Gx:∀{ps},(∀m∈ps.map (·.2.2),ev m=ev' m) ->ik ev ps=ik ev' ps
 |[],_=>rfl
 |p::t,h=>by
  have B:=Gx (ps:=t) λm j=>h m (jw _ j);have e:=h p.2.2 jG;funext l;have e1:ik ev (p::t) l=(match cellsO (ev p.2.2) with
   |some c=>bif Nat.beq (len c) p.2.1 then (match eL c l p.1 with|some l=>ik ev t l|none=>none) else none
   |none=>none):=rfl
  have e2:ik ev' (p::t) l=(match cellsO (ev' p.2.2) with
   |some c=>bif Nat.beq (len c) p.2.1 then (match eL c l p.1 with|some l=>ik ev' t l|none=>none) else none
   |none=>none):=rfl
  rw[e1,e2,e,B]
def PA {h op} (H:∀m∈cX op,ev m=ev' m):step ev h op=step ev' h op:=by
 cases op with
 |build z ps=>exact congrArg (λf=>match f z with|some l=>da.v (.ag l) h|none=> .bad) (Gx H)
 |bslice z n e ps=>show(match ik ev ps z with|some l=>_|none=>_)=_;rw[Gx H];rfl
 |mfn f a b=>show(match eE ev a,eE ev b with|some a,some b=>_|_,_=>_)=_;rw[Jz λm j=>H m (xI _ j),Jz λm j=>H m (FI _ j)];rfl
 |call f l=>show(match eE ev l with|some l=>_|none=>_)=_;rw[Jz (l:=l) H];rfl
 |min l=>show(match eE ev l with|some (.i k a::r)=>_|_=>_)=_;rw[Jz (l:=l) H];rfl
 |max l=>show(match eE ev l with|some (.i k a::r)=>_|_=>_)=_;rw[Jz (l:=l) H];rfl
 |callv f l=>have e:=Jz λm j=>H m (jw _ j);have e2:=H f jG;simp only[step,AR,R6,e,e2]
 |calli r t l=>have e:=Jz λm j=>H m (jw _ j);have e2:=H r jG;simp only[step,AR,ap8,e,e2]
 |slc B x lo hi mx=>cases lo<;>cases hi<;>cases mx<;>simp[cX] at H<;>simp[step,AR,an3,nO,nA,H]
 |slcs x lo hi=>cases lo<;>cases hi<;>simp[cX] at H<;>simp[step,AR,an4,nO,nA,H]
 |mmap r=>cases r<;>simp[cX] at H<;>simp[step,AR,am9,H]
 |len k x=>cases k<;>simp[cX] at H<;>simp[step,AR,aq1,H]
 |_=>simp[cX] at H<;>simp[step,AR,nA,H,al1,Ip,al3,al4,al7,al8,al9,am0,am1,am2,am3,am5,am6,am7,an0,an6,an7,an8,an9,ao0,ao2,ao3,ao4,ao5,ao6,ao7,ao8,QC,ap9,aq0,aq2,aq8,aq9,ar0,ar1,ar2,ar3,ar4,ar5,ar6]
end
def xX:Eb ->Bool
 | .mv _| .pick .. | .build .. | .load .. | .nilc _| .bin .. | .eqv .. | .un .. | .cvi .. | .b2s _| .mif .. | .mfn .. | .slc .. | .slcs .. | .fadr .. | .fld ..
 | .iadr .. | .iadra .. | .idxs .. | .look .. | .ent _| .ext .. | .len .. | .cap _| .min _| .max _| .tld .. | .cvp _| .cvu .. | .usd _=>true
 |_=>false
def C0 {c} {r s:da} {x h'} (e:(bif c then r else s)= .v x h'):r= .v x h'∨s= .v x h':=by
 grind
def C1 {c r s x h'} (e:(Bool.rec r s c:da)= .v x h'):r= .v x h'∨s= .v x h':=by
 cases c;exact .inl e;exact .inr e
def ZM {ev h h' op x} (j:xX op=true) (e:step ev h op= .v x h'):h'=h:=by
 cases op<;>first|(cases j;done)|skip
 case pick=>
  simp only[step,AR,Ip,jK] at e;split at e;rcases C1 e with e|e<;>(cases e;rfl);cases e
 case look=>
  simp only[step,AR,ao2] at e;rcases C0 e with e|e;cases e;split at e;rcases C1 e with e|e<;>(cases e;rfl);rcases C1 e with e|e<;>(cases e;rfl);cases e
 case nilc=>simp only[step,AR,al9] at e;split at e<;>(cases e;try rfl)
 all_goals
  simp only[step,AR,al1,al5,al7,am0,am1,am2,am3,am6,am7,am8,an3,an4,an6,an7,an8,an9,ao0,ao8,QC,aq1,aq2,aq4,aq5,ar0,ar2,ar3,ar4,jK,dT,dr,fv] at e
 all_goals (try unfold vT at e)
 all_goals (try simp only[fv] at e)
 all_goals (repeat' (first|(cases e;rfl)|(cases e;done)|split at e))
def wm {f} (j:∀x y,f x y=true ->x=y):∀{l m},cZ.avEqs f l m=true ->l=m
 |[],[],_=>rfl
 |[],_::_,h=>by cases h
 |a::t,[],h=>by cases h
 |a::t,b::r,h=>by
  have h':(f a b&&cZ.avEqs f t r)=true:=h;simp only[aB] at h';rw[j a b h'.1,wm j h'.2]
def HZ:∀n x y,cZ n x y=true ->x=y:=by
 intro n;induction n with
 |zero=>
  intro x y h;cases x<;>cases y<;>first|rfl|(simp[cZ] at h;done)|skip
  case b.b p q=>cases p<;>cases q<;>first|rfl|cases h
  case i.i k n k' n'=>
   simp only[cZ,aB,A3] at h;have h1:=zV h.1;subst h1;rw[qM h.2]
  case s.s=>simp only[cZ,mH,aU] at h;rw[h]
  case p.p=>simp only[cZ,aB,bu,aU] at h;rw[h.1,h.2]
  case sl.sl o a n cap e o' a' n' cap' e'=>
   cases cap<;>cases cap'<;>simp only[cZ,aB,bu,aU] at h;obtain⟨rfl,rfl,rfl,rfl⟩:=h;rfl;cases h;cases h;obtain⟨rfl,rfl,rfl,rfl,rfl⟩:=h;rfl
  case m.m=>simp only[cZ,bu,aU] at h;rw[h]
  case y.y=>simp only[cZ,bu,aU] at h;rw[h]
 |succ n j=>
  intro x y h;cases x<;>cases y<;>first|rfl|(simp[cZ] at h;done)|skip
  case b.b p q=>cases p<;>cases q<;>first|rfl|cases h
  case i.i k n k' n'=>
   simp only[cZ,aB,A3] at h;have h1:=zV h.1;subst h1;rw[qM h.2]
  case s.s=>simp only[cZ,mH,aU] at h;rw[h]
  case p.p=>simp only[cZ,aB,bu,aU] at h;rw[h.1,h.2]
  case sl.sl o a n cap e o' a' n' cap' e'=>
   cases cap<;>cases cap'<;>simp only[cZ,aB,bu,aU] at h;obtain⟨rfl,rfl,rfl,rfl⟩:=h;rfl;cases h;cases h;obtain⟨rfl,rfl,rfl,rfl,rfl⟩:=h;rfl
  case m.m=>simp only[cZ,bu,aU] at h;rw[h]
  case y.y=>simp only[cZ,bu,aU] at h;rw[h]
  case dp.dp=>simp only[cZ,aB,bu,aU] at h;rw[h.1,wm j h.2]
  case ds.ds=>simp only[cZ,aB,bu,aU] at h;rw[h.1,h.2.1,h.2.2.1,wm j h.2.2.2]
  case f.f=>simp only[cZ,aB,bu,aU] at h;rw[h.1,wm j h.2.1,wm j h.2.2]
  case ifc.ifc=>simp only[cZ,aB,bu,aU] at h;rw[h.1,j _ _ h.2]
  case ag.ag=>simp only[cZ] at h;rw[wm j h]
  case tu.tu=>simp only[cZ] at h;rw[wm j h]
def qc (g:MG):List Nat:=(cX g.op).filterMap (λm=>match m with| .t n=>some n|_=>none)++(match g.guard with|some q=>[q.1]|none=>[])
section
variable {R:Type} (C:aK R)
def Cn {τ τ' g} (h:∀t∈qc g,τ.get t=τ'.get t):∀m∈cX g.op,az C τ m=az C τ' m:=by
 intro m j;cases m with
 |t n=>
  have:τ.get n=τ'.get n:=h n (xI _ (List.mem_filterMap.2 ⟨.t n,j,rfl⟩));show(Option.rec .un (λv=>v) (τ.get n):AV)=Option.rec .un (λv=>v) (τ'.get n);rw[this]
 |c v=>rfl
 |g n=>rfl
def MD {B j τ τ' g} (h:∀t∈qc g,τ.get t=τ'.get t) H k:eY C B j g τ H k=eY C B j g τ' H k:=by
 have e:=PA (h:=H) (Cn C h);obtain⟨dst,op,guard⟩:=g;unfold eY;dsimp only at e ⊢;rw[e];rcases guard with _|q;rfl;obtain⟨t,w⟩:=q;have:τ.get t=τ'.get t:=h t (FI _ (by simp));dsimp only;rw[this]
def av7 {τ τ' g} (h:∀t∈qc g,τ.get t=τ'.get t) H:y6 C τ H g=y6 C τ' H g:=by
 have e:=PA (h:=H) (Cn C h);obtain⟨dst,op,guard⟩:=g;unfold y6;dsimp only at e ⊢;rw[e];rcases guard with _|q;rfl;obtain⟨t,w⟩:=q;have:τ.get t=τ'.get t:=h t (FI _ (by simp));dsimp only;rw[this]
def ZN {I E τ g} (J:xX g.op=true) {H x} (e:y6 C τ H g=some x) k:eY C I E g τ H k=k x H:=by
 obtain⟨dst,op,guard⟩:=g;have j:∀y,(match step (az C τ) H op with| .v x _=>some x|_=>none)=some y ->(match step (az C τ) H op with
  | .v x h=>k x h
  | .call f args h=>I f args h k
  | .yld l args h=>E l args h k
  | .alts l=>gQ C k l
  | .bad=>C.fail)=k y H:=by
  intro y B;cases D:step (az C τ) H op with
  |v x h'=>rw[D] at B;cases B;rw[ZM J D]
  |_=>rw[D] at B;cases B
 unfold y6 at e;unfold eY;dsimp only at e ⊢;rcases guard with _|q;exact j x e;obtain⟨t,w⟩:=q;dsimp only at e ⊢;rcases G:τ.get t with _|v;rw[G] at e;cases e;rw[G] at e;cases v with
 |b y=>
  dsimp only at e ⊢;cases hb:(bif y then w else !w) with
  |true=>rw[hb] at e;exact j x e
  |false=>rw[hb] at e;cases e;rfl
 |tu l=>
  rcases l with _|⟨a,r⟩;cases e;rfl;cases e
 |_=>cases e
end
def bY (m i:Nat):Bool:=Nat.testBit m i
def ip (m i:Nat):Nat:=Nat.lor m (Nat.pow 2 i)
theorem nK m i j:bY (ip m i) j=(bY m j||decide (i=j)):=by
 show Nat.testBit (m|||2^i) j=_;rw[FD,Nat.testBit_two_pow];rfl
def uD (A:List Nat) (B:List Edge):Nat:=
 List.rec (motive:=λ_=>Nat) 0 (λe _ j=>bif Region.binds .any e then Nat.lor (ip (A.getD e.on 0) e.on) j else j) B
def ME (i v:Nat) (l:List Nat):List Nat:=List.rec (motive:=λ_=>Nat ->List Nat) (λ_=>[]) (λa r j k=>bif Nat.beq k 0 then v::r else a::j (Nat.pred k)) l i
def Gz (l:List Oper) (A:List Nat):List Nat:=List.rec (motive:=λ_=>Nat ->List Nat ->List Nat) (λ_ A=>A) (λo _ ih i A=>ih (Nat.succ i) (ME i (uD A o.after.toList) A)) l 0 A
def MF (l:List Oper):List Nat:=List.rec (motive:=λ_=>List Nat) [] (λ_ _ j=>0::j) l
def Ac (l:List Oper):List Nat:=Gz l (Gz l (Gz l (MF l)))
def ZQ (R:List Nat) (B:List Edge):Nat:=
 List.rec (motive:=λ_=>Nat) 0 (λe _ j=>bif Region.binds .any e then Nat.succ (Nat.add (R.getD e.on 0) j) else j) B
def GA (l:List Oper) (R:List Nat):List Nat:=List.rec (motive:=λ_=>Nat ->List Nat ->List Nat) (λ_ R=>R) (λo _ ih i R=>ih (Nat.succ i) (ME i (ZQ R o.after.toList) R)) l 0 R
def GB (l:List Oper):List Nat:=GA l (GA l (GA l (MF l)))
def GC {A j}:∀{es},bY (uD A es) j=true ->∃e∈es,Region.binds .any e=true/\ (e.on=j∨bY (A.getD e.on 0) j=true)
 |[],h=>by
  have:Nat.testBit 0 j=true:=h;simp at this
 |e::es,h=>by
  have h':bY (bif Region.binds .any e then Nat.lor (ip (A.getD e.on 0) e.on) (uD A es) else uD A es) j=true:=h;cases hb:Region.binds .any e;rw[hb] at h';obtain⟨B,h1,h2⟩:=GC h';exact⟨B,jw _ h1,h2⟩;rw[hb] at h';replace h':Nat.testBit (ip (A.getD e.on 0) e.on|||uD A es) j=true:=h';rw[FD,ja] at h';rcases h' with h'|h';replace h':bY (ip (A.getD e.on 0) e.on) j=true:=h';rw[nK,ja,aU] at h';exact⟨e,jG,hb,h'.symm⟩;obtain⟨B,h1,h2⟩:=GC h';exact⟨B,jw _ h1,h2⟩
def GD (m k:Nat):Bool:=Nat.beq (Nat.land m k) m
def ZR {m k} (h:GD m k=true):∀i,bY m i=true ->bY k i=true:=by
 intro i hi;have h':m&&&k=m:=by
  have:decide (Nat.land m k=m)=true:=by rw[←bu];exact h
  exact qM this
 have hi':Nat.testBit m i=true:=hi;rw[←h',Cg,aB] at hi';exact hi'.2
def C2 (n:Nat) (R:List Nat) (r:Nat) (j:List Edge):Bool:=
 List.rec (motive:=λ_=>Bool) true (λe _ B=>(bif Region.binds .any e then Nat.ble (Nat.succ (R.getD e.on 0)) r&&Nat.ble (Nat.succ e.on) n else true)&&B) j
def MH {n r R}:∀{es},C2 n R r es=true ->∀e∈es,Region.binds .any e=true ->R.getD e.on 0<r/\ e.on<n
 |[],_,e,j=>by cases j
 |x::xs,h,e,j=>by
  have h':((bif Region.binds .any x then Nat.ble (Nat.succ (R.getD x.on 0)) r&&Nat.ble (Nat.succ x.on) n else true)&&C2 n R r xs)=true:=h;rw[aB] at h';intro hb;rcases ey.1 j with rfl|j;have h1:=h'.1;rw[hb,fC] at h1;simp only[aB,wX,aU] at h1;exact h1;exact MH h'.2 e j hb
def C3 (n:Nat) (A R:List Nat) (ops:List Oper) (i:Nat):Bool:=
 List.rec (motive:=λ_=>Nat ->Bool) (λ_=>true) (λo _ j i=>C2 n R (R.getD i 0) o.after.toList&&(GD (A.getD i 0) (uD A o.after.toList)&&j (Nat.succ i))) ops i
def MJ {m A R}:∀{l n},C3 m A R l n=true ->∀k o,l[k]? =some o ->
 (∀e∈o.after,Region.binds .any e=true ->R.getD e.on 0<R.getD (n+k) 0/\ e.on<m)/\ (∀j,bY (A.getD (n+k) 0) j=true ->bY (uD A o.after.toList) j=true)
 |[],n,_,k,o,h=>by simp at h
 |a::r,n,h,k,o,hk=>by
  have h':(C2 m R (R.getD n 0) a.after.toList&&(GD (A.getD n 0) (uD A a.after.toList)&&C3 m A R r (Nat.succ n)))=true:=h;rw[aB,aB] at h';rcases k with _|k;simp at hk;subst hk;refine⟨λe B=> ?_,ZR h'.2.1⟩;exact MH h'.1 e (by simpa using B);have:=MJ h'.2.2 k o (by simpa using hk)
  rwa [show n+(k+1)=Nat.succ n+k by omega]
def GE (t:Nat) (m:Nat) (ops:List Oper) (j:Nat):Bool:=
 List.rec (motive:=λ_=>Nat ->Bool) (λ_=>true) (λo _ B j=>(match o.dst with|some d=>bif Nat.beq d t then bY m j else true|none=>true)&&B (Nat.succ j)) ops j
def MK {t m}:∀{l n},GE t m l n=true ->∀k o,l[k]? =some o ->o.dst=some t ->bY m (n+k)=true
 |[],n,_,k,o,h,_=>by simp at h
 |a::r,n,h,k,o,hk,hd=>by
  have h':((match a.dst with|some d=>bif Nat.beq d t then bY m n else true|none=>true)&&GE t m r (Nat.succ n))=true:=h;rw[aB] at h';rcases k with _|k;simp at hk;subst hk;have h1:=h'.1;rw[hd] at h1;have hb:Nat.beq t t=true:=by rw[bu];simp
  simp only[hb,fC] at h1;exact h1;have:=MK h'.2 k o (by simpa using hk) hd
  rwa [show n+(k+1)=Nat.succ n+k by omega]
def C4 (f:Nat ->Bool) (l:List Nat):Bool:=List.rec (motive:=λ_=>Bool) true (λa _ j=>f a&&j) l
def GF {f}:∀{l},C4 f l=true ->∀a∈l,f a=true
 |[],_,a,j=>by cases j
 |b::t,h,a,j=>by
  have h':(f b&&C4 f t)=true:=h;rw[aB] at h';rcases ey.1 j with rfl|j;exact h'.1;exact GF h'.2 a j
def C5 (t:Nat) (l:List Oper):Bool:=List.rec (motive:=λ_=>Bool) true (λo _ j=>(match o.dst with|some d=> !(Nat.beq d t)|none=>true)&&j) l
def uniq (l:List Oper):Bool:=List.rec (motive:=λ_=>Bool) true (λo r j=>(match o.dst with|some d=>C5 d r|none=>true)&&j) l
def GG {t}:∀{l},C5 t l=true ->∀(k:Nat) (o),l[k]? =some o ->o.dst≠some t
 |[],_,k,o,h=>by simp at h
 |a::r,h,k,o,hk=>by
  have h':((match a.dst with|some d=> !(Nat.beq d t)|none=>true)&&C5 t r)=true:=h;rw[aB] at h';rcases k with _|k;simp at hk;subst hk;intro hd;have h1:=h'.1;rw[hd] at h1;have hb:Nat.beq t t=true:=by rw[bu];simp
  simp[] at h1;exact GG h'.2 k o (by simpa using hk)
def ML:∀{l},uniq l=true ->∀(i j:Nat) (a b) (t),l[i]? =some a ->l[j]? =some b ->a.dst=some t ->b.dst=some t ->i=j
 |[],_,i,j,a,b,t,h,_,_,_=>by simp at h
 |x::r,h,i,j,a,b,t,hi,hj,ha,hb=>by
  have h':((match x.dst with|some d=>C5 d r|none=>true)&&uniq r)=true:=h;rw[aB] at h';rcases i with _|i;rcases j with _|j;rfl;simp at hi hj;subst hi;have h1:=h'.1;rw[ha] at h1;exact bh hb (GG h1 j b hj);rcases j with _|j;simp at hi hj;subst hj;have h1:=h'.1;rw[hb] at h1;exact bh ha (GG h1 i a hi);simp at hi hj;rw[ML h'.2 i j a b t hi hj ha hb]
section
variable (X:aR) (N:Nat) (ops:Array Oper) (A:List Nat) (n:Nat)
def GH (A:List Nat) (HV i:Nat) (t:Nat) (m:Nat) (ops:List Oper) (j:Nat):Bool:=
 List.rec (motive:=λ_=>Nat ->Bool) (λ_=>true) (λo _ B j=>(match o.dst with|some d=>bif Nat.beq d t then bY m j||(bY HV j&&(Nat.beq i j||bY (A.getD j 0) i)) else true|none=>true)&&B (Nat.succ j)) ops j
def MM {A HV i t m}:∀{l n},GH A HV i t m l n=true ->∀k o,l[k]? =some o ->o.dst=some t ->bY m (n+k)=true∨(bY HV (n+k)=true/\ (i=n+k∨bY (A.getD (n+k) 0) i=true))
 |[],n,_,k,o,h,_=>by simp at h
 |a::r,n,h,k,o,hk,hd=>by
  have h':((match a.dst with|some d=>bif Nat.beq d t then bY m n||(bY HV n&&(Nat.beq i n||bY (A.getD n 0) i)) else true|none=>true)&&GH A HV i t m r (Nat.succ n))=true:=h;rw[aB] at h';rcases k with _|k;simp at hk;subst hk;have h1:=h'.1;rw[hd] at h1;have hb:Nat.beq t t=true:=by rw[bu];simp
  simp only[hb,fC,ja,aB,bu,aU] at h1;exact h1;have:=MM h'.2 k o (by simpa using hk) hd
  rwa [show n+(k+1)=Nat.succ n+k by omega]
def Ad (done i:Nat) (g:MG):Bool:=match ops[i]? with
 |some o=>lP X N ops o g&&(!(bY done i)&&C4 (λt=>GE t (Nat.land (A.getD i 0) done) ops.toList 0) (qc g))
 |none=>false
def uE (HV done i:Nat) (g:MG):Bool:=match ops[i]? with
 |some o=>lP X N ops o g&&(!(bY done i)&&C4 (λt=>GH A HV i t (Nat.land (A.getD i 0) done) ops.toList 0) (qc g))
 |none=>false
def tw (last:Option Nat) (i:Nat):Bool:=match last with|some l=>bY (A.getD i 0) l|none=>true
def ws (m k:Nat):Bool:=Nat.beq (Nat.land m k) m
def Ae (i:Nat) (l:List (Nat×Nat)):Bool:=List.rec (motive:=λ_=>Bool) false (λe _ j=>Nat.beq e.1 i||j) l
def Af (k:Nat) (l:List (Nat×Nat)):Bool:=List.rec (motive:=λ_=>Bool) true (λe _ j=> !(Nat.beq e.2 k)&&j) l
def MN (m:Nat) (l:List (Nat×Nat)):Bool:=List.rec (motive:=λ_=>Bool) true (λe _ j=>bY m e.1&&j) l
def MO (l:List DI):Nat:=List.rec (motive:=λ_=>Nat) 0 (λd _ j=>match d with| .heavy i _ _=>ip j i|_=>j) l
variable (HV:Nat)
def iT (l:List DI):Bool ->Nat ->Option Nat ->Nat ->List (Nat×Nat) ->Bool:=
 List.rec (motive:=λ_=>Bool ->Nat ->Option Nat ->Nat ->List (Nat×Nat) ->Bool)
  (λ_ done _ laid bU=>Nat.beq (Nat.succ done) (Nat.pow 2 ops.size)&&MN laid bU)
  (λd _ j fl done last laid bU=>match d with
   | .light i g=> !fl&&(uE X N ops A HV done i g&&(!(bY HV i)&&xX g.op&&(tw A last i&&j false (ip done i) last laid bU)))
   | .resv i k g=> !fl&&(Ad X N ops A done i g&&(!(bY HV i)&&Ab g.op&&(g.guard.isNone&&(tw A last i&&(Nat.ble (Nat.succ k) n&&(Af k bU&&j false (ip done i) last laid ((i,k)::bU)))))))
   | .lay i=>Ae i bU&&(!(bY laid i)&&j true done last (ip laid i) bU)
   | .heavy i g mask=>uE X N ops A HV done i g&&(tw A last i&&(ws mask (A.getD i 0)&&(ws laid (A.getD i 0)&&j false (ip done i) (some i) laid bU)))) l
end
def GJ (X:aR) (N:Nat) (ops:Array Oper) (n:Nat) (l:List DI):Bool:=
 C3 ops.size (Ac ops.toList) (GB ops.toList) ops.toList 0&&(uniq ops.toList&&iT X N ops (Ac ops.toList) n (MO l) l false 0 none 0 [])
def MP {m k} (h:ws m k=true):∀i,bY m i=true ->bY k i=true:=by
 intro i hi;have h':m&&&k=m:=by
  have:decide (Nat.land m k=m)=true:=by rw[←bu];exact h
  exact qM this
 have hi':Nat.testBit m i=true:=hi;rw[←h',Cg,aB] at hi';exact hi'.2
def cD (listed:Array Bool) (i:Nat):Prop:=listed.getD i false=true
def qd (listed:Array Bool) (o:Oper):Prop:=∀e∈o.after,Region.binds .any e=true ->cD listed e.on
structure uF (ops:Array Oper) (listed:Array Bool):Prop where
 sz:listed.size=ops.size
 down:∀(i:Nat) o,ops[i]? =some o ->cD listed i ->qd listed o
def cD.lt {listed i} (h:cD listed i):i<listed.size:=by
 unfold cD at h;by_cases hi:i<listed.size;exact hi;simp[Array.getD,hi] at h
def MQ {ops listed i} (h:i∈Region.ready .any ops listed):¬cD listed i/\∃o,ops[i]? =some o/\ qd listed o:=by
 obtain⟨h1,o,h2,D⟩:=mem_ready.1 h;refine⟨λj=> ?_,o,h2,λe E hb=>D e E hb⟩;have B:=j.lt;unfold cD at j;simp[Array.getD,B] at h1 j;rw[h1] at j;cases j
structure nM (ops:Array Oper) (A:List Nat):Prop where
 edges:∃rk:Nat ->Nat,∀(i:Nat) o,ops[i]? =some o ->∀e∈o.after,Region.binds .any e=true ->rk e.on<rk i/\ e.on<ops.size
 uniq:∀(i j:Nat) (a b:Oper) (t:Nat),ops[i]? =some a ->ops[j]? =some b ->a.dst=some t ->b.dst=some t ->i=j
 anc:∀(i:Nat) o j,ops[i]? =some o ->bY (A.getD i 0) j=true ->∃e∈o.after,Region.binds .any e=true/\ (e.on=j∨bY (A.getD e.on 0) j=true)
def ZS {ops} (h1:C3 ops.size (Ac ops.toList) (GB ops.toList) ops.toList 0=true) (h2:uniq ops.toList=true):nM ops (Ac ops.toList):=by
 have G:=λ(i:Nat) (o:Oper) (B:ops[i]? =some o)=>MJ h1 i o (by simpa using B);refine⟨⟨λi=>(GB ops.toList).getD i 0,λi o B e I hb=> ?_⟩,λi j a b t hi H E hb=>ML h2 i j a b t (by simpa using hi) (by simpa using H) E hb,λi o j B hb=> ?_⟩
 grind
 have D:=(G i o B).2 j;rw[gB] at D;obtain⟨e,e1,e2,e3⟩:=GC (D hb);exact⟨e,by simpa using e1,e2,e3⟩
section
variable {ops:Array Oper} {A:List Nat} {listed:Array Bool}
def tA (S:nM ops A) (D:uF ops listed):∀i o,ops[i]? =some o ->qd listed o ->∀j,bY (A.getD i 0) j=true ->cD listed j:=by
 obtain⟨J,E⟩:=S.edges
 suffices H:∀n i,J i=n ->∀(o:Oper),ops[i]? =some o ->qd listed o ->∀j,bY (A.getD i 0) j=true ->cD listed j from λi=>H _ i rfl
 intro n;induction n using Nat.strongRecOn with
 |_ n V=>
  intro i U o I hE j O;obtain⟨e,e1,e2,e3⟩:=S.anc i o j I O;have G:=hE e e1 e2;rcases e3 with rfl|e3;exact G;obtain⟨L,B⟩:=E i o I e e1 e2;exact V (J e.on) (U▸L) e.on rfl _ (tJ B) (D.down _ _ (tJ B) G) j e3
variable {i:Nat}
def cD.set {j} (hi:i<listed.size):cD (listed.setIfInBounds i true) j↔i=j∨cD listed j:=by
 unfold cD;by_cases e:i=j
 simp_all
 simp_all
def uF.set (D:uF ops listed) {o} (H:ops[i]? =some o) (hE:qd listed o):uF ops (listed.setIfInBounds i true):=by
 have hi:i<listed.size:=by rw[D.sz];exact(jX.1 H).1
 refine⟨by simpa using D.sz,λj I B E e G hb=> ?_⟩;rcases(cD.set hi).1 E with rfl|E;rw[H] at B;cases B;exact(cD.set hi).2 (.inr (hE e G hb));exact(cD.set hi).2 (.inr (D.down j I B E e G hb))
def ZT (S:nM ops A) (D:uF ops listed) (O:Region.ready .any ops listed=[]):∀i,i<ops.size ->cD listed i:=by
 obtain⟨G,B⟩:=S.edges
 suffices H:∀n i,G i=n ->i<ops.size ->cD listed i from λi=>H _ i rfl
 intro n;induction n using Nat.strongRecOn with
 |_ n V=>
  intro i L hi;refine uk λj=> ?_;have:i∈Region.ready .any ops listed:=by
   refine mem_ready.2 ⟨?_,ops[i],tJ hi,λe J hb=> ?_⟩;have U:i<listed.size:=by rw[D.sz];exact hi
   unfold cD at j;simp[Array.getD,U] at j ⊢;exact j;obtain⟨I,E⟩:=B i ops[i] (tJ hi) e J hb;exact V (G e.on) (L▸I) e.on rfl E
  rw[O] at this;cases this
def uG:List DI ->List Nat
 |[]=>[]
 | .light i _::r=>i::uG r
 | .resv i _ _::r=>i::uG r
 | .lay _::r=>uG r
 | .heavy i _ _::r=>i::uG r
def fh:List DI ->Option Nat
 | .lay _::r=>fh r
 | .heavy i _ _::_=>some i
 |_=>none
def uH (X:aR) (N:Nat) (ops:Array Oper) (A:List Nat) (done i:Nat) (g:MG):Prop:=
 ∃o,ops[i]? =some o/\ lP X N ops o g=true/\∀t∈qc g,∀(j:Nat) o',ops[j]? =some o' ->o'.dst=some t ->bY (A.getD i 0) j=true/\ bY done j=true
variable {X:aR} {N n:Nat}
variable {done:Nat}
def ZU {g} (h:Ad X N ops A done i g=true):uH X N ops A done i g/\ bY done i=false:=by
 unfold Ad at h;cases D:ops[i]? with
 |none=>rw[D] at h;cases h
 |some o=>
  rw[D] at h;simp only[aB,jH] at h;refine⟨⟨o,D,h.1,λt G j H E hd=> ?_⟩,h.2.1⟩;have:=MK (GF h.2.2 t G) j H (by simpa using E) hd;rw[gB] at this;have B:Nat.testBit (A.getD i 0&&&done) j=true:=this;rw[Cg,aB] at B;exact B
def AS (X:aR) (N:Nat) (ops:Array Oper) (A:List Nat) (HV done i:Nat) (g:MG):Prop:=
 ∃o,ops[i]? =some o/\ lP X N ops o g=true/\∀t∈qc g,∀(j:Nat) o',ops[j]? =some o' ->o'.dst=some t ->(bY (A.getD i 0) j=true/\ bY done j=true)∨(bY HV j=true/\ (i=j∨bY (A.getD j 0) i=true))
def C6 {HV g} (h:uE X N ops A HV done i g=true):AS X N ops A HV done i g/\ bY done i=false:=by
 unfold uE at h;cases D:ops[i]? with
 |none=>rw[D] at h;cases h
 |some o=>
  rw[D] at h;simp only[aB,jH] at h;refine⟨⟨o,D,h.1,λt G j H E hd=> ?_⟩,h.2.1⟩;have:=MM (GF h.2.2 t G) j H (by simpa using E) hd;rw[gB] at this;refine this.imp (λthis=> ?_) id;have B:Nat.testBit (A.getD i 0&&&done) j=true:=this;rw[Cg,aB] at B;exact B
def AS.mono {HV B g} (h:AS X N ops A HV done i g) (hd:∀j,bY done j=true ->bY B j=true):AS X N ops A HV B i g:=by
 obtain⟨o,h1,h2,D⟩:=h;exact⟨o,h1,h2,λt H j I E G=>(D t H j I E G).imp (λq=>⟨q.1,hd j q.2⟩) id⟩
def uH.mono {B g} (h:uH X N ops A done i g) (hd:∀j,bY done j=true ->bY B j=true):uH X N ops A B i g:=by
 obtain⟨o,h1,h2,D⟩:=h;exact⟨o,h1,h2,λt H j I E G=>⟨(D t H j I E G).1,hd j (D t H j I E G).2⟩⟩
section cases
variable {HV:Nat} {fl:Bool} {done laid:Nat} {last:Option Nat} {bU:List (Nat×Nat)} {r:List DI}
def Ag {i g} (h:iT X N ops A n HV (.light i g::r) fl done last laid bU=true):
 fl=false/\ uE X N ops A HV done i g=true/\ (bY HV i=false/\ xX g.op=true)/\ tw A last i=true/\ iT X N ops A n HV r false (ip done i) last laid bU=true:=by
 have h':(!fl&&(uE X N ops A HV done i g&&(!(bY HV i)&&xX g.op&&(tw A last i&&iT X N ops A n HV r false (ip done i) last laid bU))))=true:=h;simpa only[aB,jH] using h'
def Ah {i k g} (h:iT X N ops A n HV (.resv i k g::r) fl done last laid bU=true):
 fl=false/\ Ad X N ops A done i g=true/\ (bY HV i=false/\ Ab g.op=true)/\ g.guard.isNone=true/\ tw A last i=true/\ k<n/\ Af k bU=true/\ iT X N ops A n HV r false (ip done i) last laid ((i,k)::bU)=true:=by
 have h':(!fl&&(Ad X N ops A done i g&&(!(bY HV i)&&Ab g.op&&(g.guard.isNone&&(tw A last i&&(Nat.ble (Nat.succ k) n&&(Af k bU&&iT X N ops A n HV r false (ip done i) last laid ((i,k)::bU))))))))=true:=h;simp only[aB,jH,wX,aU] at h';exact h'
def Ai {i} (h:iT X N ops A n HV (.lay i::r) fl done last laid bU=true):Ae i bU=true/\ bY laid i=false/\ iT X N ops A n HV r true done last (ip laid i) bU=true:=by
 have h':(Ae i bU&&(!(bY laid i)&&iT X N ops A n HV r true done last (ip laid i) bU))=true:=h;simpa only[aB,jH] using h'
def wv {i mask g} (h:iT X N ops A n HV (.heavy i g mask::r) fl done last laid bU=true):
 uE X N ops A HV done i g=true/\ tw A last i=true/\ ws mask (A.getD i 0)=true/\ ws laid (A.getD i 0)=true/\ iT X N ops A n HV r false (ip done i) (some i) laid bU=true:=by
 have h':(uE X N ops A HV done i g&&(tw A last i&&(ws mask (A.getD i 0)&&(ws laid (A.getD i 0)&&iT X N ops A n HV r false (ip done i) (some i) laid bU))))=true:=h;simpa only[aB] using h'
def ZV (h:iT X N ops A n HV [] fl done last laid bU=true):∀i,i<ops.size ->bY done i=true:=by
 have h':(Nat.beq (Nat.succ done) (Nat.pow 2 ops.size)&&MN laid bU)=true:=h;simp only[aB,bu,aU] at h';intro i hi;have hd:done=2^ops.size-1:=by
  have:done.succ=2^ops.size:=h'.1;omega
 show Nat.testBit done i=true;rw[hd,Nat.testBit_two_pow_sub_one];simpa using hi
end cases
def Cv {m j} (h:bY m j=true):bY (ip m i) j=true:=by rw[nK,h];rfl
theorem uJ m i:bY (ip m i) i=true:=by rw[nK];simp
variable {HV:Nat}
def Aj:∀l fl done last laid bU,iT X N ops A n HV l fl done last laid bU=true ->∀i,i<ops.size ->bY done i=true∨i∈uG l
 |[],fl,done,last,laid,bU,h,i,hi=> .inl (ZV h i hi)
 | .light j g::r,fl,done,last,laid,bU,h,i,hi=>by
  rcases Aj r _ _ _ _ _ (Ag h).2.2.2.2 i hi with h1|h1;rw[nK,ja,aU] at h1;rcases h1 with h1|rfl;exact .inl h1;exact .inr jG;exact .inr (jw _ h1)
 | .resv j k g::r,fl,done,last,laid,bU,h,i,hi=>by
  rcases Aj r _ _ _ _ _ (Ah h).2.2.2.2.2.2.2 i hi with h1|h1;rw[nK,ja,aU] at h1;rcases h1 with h1|rfl;exact .inl h1;exact .inr jG;exact .inr (jw _ h1)
 | .lay j::r,fl,done,last,laid,bU,h,i,hi=>Aj r _ _ _ _ _ (Ai h).2.2 i hi
 | .heavy j g m::r,fl,done,last,laid,bU,h,i,hi=>by
  rcases Aj r _ _ _ _ _ (wv h).2.2.2.2 i hi with h1|h1;rw[nK,ja,aU] at h1;rcases h1 with h1|rfl;exact .inl h1;exact .inr jG;exact .inr (jw _ h1)
def Ak (S:nM ops A) (D:uF ops listed):∀l fl done H laid bU,iT X N ops A n HV l fl done (some H) laid bU=true ->
 ∀i∈uG l,∀o,ops[i]? =some o ->qd listed o ->cD listed H
 |[],fl,done,H,laid,bU,h,i,hi,_,_,_=>by cases hi
 | .light j g::r,fl,done,H,laid,bU,h,i,hi,o,ho,hE=>by
  obtain⟨_,_,_,E,B⟩:=Ag h;rcases ey.1 hi with rfl|hi;exact tA S D i o ho hE H E;exact Ak S D r _ _ _ _ _ B i hi o ho hE
 | .resv j k g::r,fl,done,H,laid,bU,h,i,hi,o,ho,hE=>by
  obtain⟨_,_,_,_,E,_,_,B⟩:=Ah h;rcases ey.1 hi with rfl|hi;exact tA S D i o ho hE H E;exact Ak S D r _ _ _ _ _ B i hi o ho hE
 | .lay j::r,fl,done,H,laid,bU,h,i,hi,o,ho,hE=>Ak S D r _ _ _ _ _ (Ai h).2.2 i hi o ho hE
 | .heavy j g m::r,fl,done,H,laid,bU,h,i,hi,o,ho,hE=>by
  obtain⟨_,h2,_,_,B⟩:=wv h;rcases ey.1 hi with rfl|hi;exact tA S D i o ho hE H h2;have I:=Ak S D r _ _ _ _ _ B i hi o ho hE;have G:j<ops.size:=by rw[←D.sz];exact I.lt
  exact tA S D j _ (tJ G) (D.down _ _ (tJ G) I) H h2
def Am (fl:Bool) (l:List DI):Prop:=fl=true∨match l with| .light .. ::_=>False| .resv .. ::_=>False|_=>True
def MR (S:nM ops A) (D:uF ops listed):∀l fl done last laid bU,iT X N ops A n HV l fl done last laid bU=true ->Am fl l ->
 ∀i∈uG l,∀o,ops[i]? =some o ->qd listed o ->∃H,fh l=some H/\ (i=H∨cD listed H)
 |[],fl,done,last,laid,bU,h,_,i,hi,_,_,_=>by cases hi
 | .light j g::r,fl,done,last,laid,bU,h,hh,i,hi,o,ho,hE=>by
  rcases hh with hh|hh;rw[(Ag h).1] at hh;cases hh;exact hh.elim
 | .resv j k g::r,fl,done,last,laid,bU,h,hh,i,hi,o,ho,hE=>by
  rcases hh with hh|hh;rw[(Ah h).1] at hh;cases hh;exact hh.elim
 | .lay j::r,fl,done,last,laid,bU,h,hh,i,hi,o,ho,hE=>MR S D r _ _ _ _ _ (Ai h).2.2 (.inl rfl) i hi o ho hE
 | .heavy j g m::r,fl,done,last,laid,bU,h,hh,i,hi,o,ho,hE=>by
  refine⟨j,rfl,?_⟩;rcases ey.1 hi with rfl|hi;exact .inl rfl;exact .inr (Ak S D r _ _ _ _ _ (wv h).2.2.2.2 i hi o ho hE)
def GK:∀l fl done last laid bU H,iT X N ops A n HV l fl done last laid bU=true ->fh l=some H ->bY done H=false/\∀j,bY laid j=true ->bY (A.getD H 0) j=true
 |[],_,_,_,_,_,_,_,h=>by cases h
 | .light .. ::_,_,_,_,_,_,_,_,h=>by cases h
 | .resv .. ::_,_,_,_,_,_,_,_,h=>by cases h
 | .lay i::r,fl,done,last,laid,bU,H,h,hf=>by
  have:=GK r _ _ _ _ _ H (Ai h).2.2 hf;exact⟨this.1,λj D=>this.2 j (Cv D)⟩
 | .heavy i g m::r,fl,done,last,laid,bU,H,h,hf=>by
  cases hf;obtain⟨h1,_,_,B,_⟩:=wv h;exact⟨(C6 h1).2,MP B⟩
end
end
end AM
