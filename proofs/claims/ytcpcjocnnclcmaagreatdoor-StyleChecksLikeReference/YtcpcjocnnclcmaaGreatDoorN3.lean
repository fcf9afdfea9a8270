import Derived.DefersIn
import Derived.RangeFuncLeaves
import Derived.Test.YtcpcjocnnclcmaaGreatDoorN2
set_option linter.all false
namespace AM
open Go
noncomputable section
structure dy where
 ty:T TI
 mt:List (String×List (Nat×Nat))
 sq:List Nat
 bn:List Nat
 vw:List (Nat×List (Nat×Nat×Nat))
structure jt (P:Program) (X:dy):Prop where
 ty:pE P X.ty
 mt:∀e∈X.mt,Bx P e.1 e.2
 eg:∀t∈X.sq,P.eqGuardType P.depth t=false
 vw:∀e∈X.vw,∀q∈e.2,liesAt P P.depth q.1 (q.2.1/P.cellsOf q.1) q.2.2 e.1 1=true
def FI (a b:BinOp):Bool:=decide (a=b)
def VZ (a b:UnOp):Bool:=decide (a=b)
def LV (a b:List (Nat×Nat)):Bool:=decide (a=b)
def YI (a b:List (Nat×Nat×Nat)):Bool:=decide (a=b)
def Tx (i:TI) (z:AV):Bool:=match z with
 | .ag l=>i.kd.isRow&&eE l i.zs
 |z=> !i.kd.isRow&&eE [z] i.zs
def xA {i:TI} {z:AV} (h:Tx i z=true):(i.kd.isRow=true/\ z= .ag i.zs)∨(i.kd.isRow=false/\ [z]=i.zs):=by
 unfold Tx at h;split at h
 ·simp only[av] at h;exact .inl ⟨h.1,by rw[dE h.2]⟩
 ·simp only[av,iS] at h;exact .inr ⟨h.1,dE h.2⟩
section
variable (X:dy)
def eu (t:TypeId):Option TypeDesc:=(X.ty.get t).map (·.kd)
def eA (t:TypeId):Option TI:=match X.ty.get t with
 |some i=>match i.kd with| .slice e=>X.ty.get e|_=>none
 |none=>none
def hM (t:TypeId):Bool:=match X.ty.get t with|some i=>(match i.kd with| .string=>true|_=>false)|none=>false
def pG (t:TypeId):Option (Nat×TI):=match X.ty.get t with
 |some i=>match i.kd with| .array n e=>(X.ty.get e).map fun j=>(n,j)|_=>none
 |none=>none
def iN (t:TypeId):Option (TypeId×TI):=match X.ty.get t with
 |some i=>match i.kd with| .map k e=>(match X.ty.get k,X.ty.get e with|some _,some j=>some (k,j)|_,_=>none)|_=>none
 |none=>none
def kj (t:TypeId):Option (Array Field):=match X.ty.get t with
 |some i=>match i.kd with| .struct fs=>some fs|_=>none
 |none=>none
def LW (T t esz:Nat):Bool:=match X.ty.get t with
 |some j=>match j.kd with
  | .slice e=>match X.ty.get e with
   |some i=>Nat.beq T e&&Nat.beq esz i.size&&Nat.beq i.zs.length i.size&&Nat.ble i.bytes 1048576
   |none=>false
  |_=>false
 |none=>false
def Rn (oo:Op) (m:xc):Bool:=match m with
 | .mv a=>match oo with| .move x=>aW a x| .assign x=>aW a x|_=>false
 | .pick c a b=>match oo with| .pick x y z=>aW c x&&aW a y&&aW b z|_=>false
 | .alloc z=>match oo with| .alloc t=>(match X.ty.get t with|some i=>eE z i.zs|none=>false)|_=>false
 | .box a _=>match oo with| .box _ x=>aW a x|_=>false
 | .build z ps=>match oo with
  | .build t parts=>match X.ty.get t with
   |some i=>eE z i.zs&&(match i.kd with
    | .struct fs=>Dd X.ty fs.toList&&iC (kh X.ty fs.toList) ps parts.toList
    | .array _ e=>(match X.ty.get e with|some j=>iC (fun k=>some (k*j.size,j.size)) ps parts.toList|none=>false)
    |_=>false)
   |none=>false
  |_=>false
 | .bslice z n esz ps=>match oo with
  | .buildSlice t len parts=>match eA X t with
   |some i=>Nat.beq n len&&eE z (List.replicate n i.zs).flatten&&Nat.beq esz i.size&&Nat.beq i.zs.length i.size&&Nat.ble (n*esz) 16777216&&iC (fun k=>some (k*i.size,i.size)) ps parts.toList
   |none=>false
  |_=>false
 | .load a n agg=>match oo with| .load t x=>(match X.ty.get t with|some i=>aW a x&&Nat.beq n i.size&&(agg==i.kd.isRow)|none=>false)|_=>false
 | .store a v n=>match oo with| .store t x y=>(match X.ty.get t with|some i=>aW a x&&aW v y&&Nat.beq n i.size|none=>false)|_=>false
 | .nilc a=>match oo with| .nilCheck x=>aW a x|_=>false
 | .bin op a b=>match oo with| .binOp op' _ x y _=>FI op' op&&aW a x&&aW b y|_=>false
 | .eqv ne e a b=>match oo with
  | .binOp op t x y _=>(bif ne then FI op .neq else FI op .eql)&&iB X.ty true 6 t e&&zK e x y&&aW a x&&aW b y&&(match e with| .ag _=>X.sq.any (Nat.beq t)|_=>true)
  |_=>false
 | .un op a=>match oo with| .unOp op' _ x=>VZ op' op&&aW a x|_=>false
 | .cvi k a=>match oo with
  | .convert s t x=>(match eu X s,eu X t with|some (.int _),some (.int k')=>rP k k'&&aW a x|_,_=>false)
  |_=>false
 | .cvs a=>match oo with| .convert s t x=>hM X s&&hM X t&&aW a x|_=>false
 | .s2b a=>match oo with
  | .convert s t x=>hM X s&&(match eA X t with|some i=>(match i.kd with| .int .u8=>true|_=>false)|none=>false)&&aW a x
  |_=>false
 | .b2s a=>match oo with
  | .convert s t x=>hM X t&&(match eA X s with|some i=>(match i.kd with| .int .u8=>true|_=>false)|none=>false)&&aW a x
  |_=>false
 | .mif t a=>match oo with| .makeInterface t' x=>Nat.beq t t'&&(match eu X t' with|some (.interface _)=>false|some _=>true|none=>false)&&aW a x|_=>false
 | .mfn f a b=>match oo with| .makeFunc (.func g) x y=>Nat.beq f g&&l9 a x.toList&&l9 b y.toList|_=>false
 | .mmap r=>match oo with| .makeMap t x=>qQ r x&&(r.isNone||(iN X t).isSome)|_=>false
 | .mslice z esz _ a b=>match oo with
  | .makeSlice t x y=>(match eA X t with|some i=>eE z i.zs&&Nat.beq esz i.size&&Nat.beq z.length esz&&Nat.ble i.bytes 1048576|none=>false)&&aW a x&&aW b y
  |_=>false
 | .slc esz a lo hi mx=>match oo with
  | .slice t x l h m=>(match eA X t with|some i=>Nat.beq esz i.size|none=>false)&&aW a x&&qQ lo l&&qQ hi h&&qQ mx m&&(mx.isNone||hi.isSome)
  |_=>false
 | .slcs a lo hi=>match oo with| .slice t x l h none=>hM X t&&aW a x&&qQ lo l&&qQ hi h|_=>false
 | .slca n esz a lo hi mx=>match oo with
  | .slice t x l h m=>(match pG X t with|some (k,i)=>Nat.beq n k&&Nat.beq esz i.size|none=>false)&&aW a x&&qQ lo l&&qQ hi h&&qQ mx m&&(mx.isNone||hi.isSome)
  |_=>false
 | .fadr a off=>match oo with
  | .fieldAddr s x k=>(match kj X s with|some fs=>(match fs[k]? with|some f=>Nat.beq off f.offset&&(match X.ty.get f.type with|some i=> !(Nat.beq i.size 0)|none=>false)|none=>false)|none=>false)&&aW a x
  |_=>false
 | .fld a off n agg=>match oo with
  | .field s x k=>(match kj X s with|some fs=>(match fs[k]? with|some f=>Nat.beq off f.offset&&(match X.ty.get f.type with|some i=>Nat.beq n i.size&&(agg==i.kd.isRow)|none=>false)|none=>false)|none=>false)&&aW a x
  |_=>false
 | .iadr esz a b=>match oo with| .indexAddr t x y=>(match eA X t with|some i=>Nat.beq esz i.size|none=>false)&&aW a x&&aW b y|_=>false
 | .iadra n esz a b=>match oo with| .indexAddr t x y=>(match pG X t with|some (k,i)=>Nat.beq n k&&Nat.beq esz i.size|none=>false)&&aW a x&&aW b y|_=>false
 | .idxs a b=>match oo with| .index t x y=>hM X t&&aW a x&&aW b y|_=>false
 | .idxa n esz agg a b=>match oo with| .index t x y=>(match pG X t with|some (k,i)=>Nat.beq n k&&Nat.beq esz i.size&&(agg==i.kd.isRow)|none=>false)&&aW a x&&aW b y|_=>false
 | .look e a b z ok=>match oo with| .lookup t x y ok'=>(match iN X t with|some (k,j)=>iB X.ty false 6 k e&&Tx j z|none=>false)&&(ok==ok')&&aW a x&&aW b y|_=>false
 | .mupd e a b d=>match oo with
  | .mapUpdate t x y u=>(match iN X t with|some (k,_)=>iB X.ty false 6 k e|none=>false)&&aW a x&&aW b y&&aW d u
  | .insert t x y u=>(match iN X t with|some (k,_)=>iB X.ty false 6 k e|none=>false)&&aW a x&&aW b y&&aW d u
  |_=>false
 | .ment e a b z=>match oo with| .mapEntry t x y=>(match iN X t with|some (k,j)=>iB X.ty false 6 k e&&Tx j z|none=>false)&&aW a x&&aW b y|_=>false
 | .mest a s b=>match oo with| .entryStore _ x y u=>aW a x&&aW s y&&aW b u|_=>false
 | .rng a str=>match oo with| .range t x=>(bif str then hM X t else (iN X t).isSome)&&aW a x|_=>false
 | .nxt a str=>match oo with| .next x s=>aW a x&&(str==s)|_=>false
 | .ent a=>match oo with| .entry x=>aW a x|_=>false
 | .tas a t ok z=>match oo with
  | .typeAssert x _ t' ok'=>Nat.beq t t'&&(ok==ok')&&aW a x&&(match X.ty.get t' with|some i=>(match i.kd with| .interface _=>false|_=>true)&&(!ok||Tx i z)|none=>false)
  |_=>false
 | .ext a n=>match oo with| .extract x k=>aW a x&&Nat.beq n k|_=>false
 | .call f args=>match oo with| .call cl=>(match cl.callee with| .value (.func g)=>Nat.beq f g&&l9 args cl.args.toList|_=>false)|_=>false
 | .callv f args=>match oo with| .call cl=>(match cl.callee with| .value g=>aW f g&&l9 args cl.args.toList|_=>false)|_=>false
 | .calli r tbl args=>match oo with| .call cl=>(match cl.callee with| .invoke x name=>aW r x&&l9 args cl.args.toList&&X.mt.any (fun e=>decide (e.1=name)&&LV e.2 tbl)|_=>false)|_=>false
 | .app a b esz _=>match oo with
  | .call cl=>(match cl.callee,cl.args.toList,cl.argTypes.toList with
   | .builtin .append,[x,y],[t,tx]=>(match eA X t with|some i=>Nat.beq esz i.size&&Nat.beq i.zs.length i.size&&Nat.ble i.bytes 1048576|none=>false)&&((eA X tx).isSome||hM X tx)&&aW a x&&aW b y
   |_,_,_=>false)
  |_=>false
 | .len k a=>match oo with
  | .call cl=>(match cl.callee,cl.args.toList,cl.argTypes.toList with
   | .builtin .len,[x],[t]=>aW a x&&(match k with
    | .str=>hM X t
    | .arr n=>(match X.ty.get t with
     |some i=>(match i.kd with
      | .array n' _=>Nat.beq n n'
      | .pointer p=>(match X.ty.get p with|some j=>(match j.kd with| .array n' _=>Nat.beq n n'|_=>false)|none=>false)
      |_=>false)
     |none=>false)
    | .slice=>(match eu X t with|some (.slice _)=>true|_=>false)
    | .map=>(match eu X t with|some (.map _ _)=>true|_=>false))
   |_,_,_=>false)
  |_=>false
 | .cap a=>match oo with
  | .call cl=>(match cl.callee,cl.args.toList,cl.argTypes.toList with
   | .builtin .cap,[x],[t]=>aW a x&&(match eu X t with|some (.slice _)=>true|_=>false)
   |_,_,_=>false)
  |_=>false
 | .min l=>match oo with| .call cl=>(match cl.callee with| .builtin .min=>l9 l cl.args.toList|_=>false)|_=>false
 | .max l=>match oo with| .call cl=>(match cl.callee with| .builtin .max=>l9 l cl.args.toList|_=>false)|_=>false
 | .tal T z=>match oo with| .alloc t=>(match X.ty.get t with|some i=>Nat.beq T t&&eE z i.zs|none=>false)|_=>false
 | .tbx T a=>match oo with| .box t x=>Nat.beq T t&&aW a x|_=>false
 | .tst a v n=>match oo with| .store t x y=>(match X.ty.get t with|some i=>aW a x&&aW v y&&Nat.beq n i.size|none=>false)|_=>false
 | .tld a n agg=>match oo with| .load t x=>(match X.ty.get t with|some i=>aW a x&&Nat.beq n i.size&&(agg==i.kd.isRow)|none=>false)|_=>false
 | .appz a b esz _ z=>match oo with
  | .call cl=>(match cl.callee,cl.args.toList,cl.argTypes.toList with
   | .builtin .append,[x,y],[t,tx]=>(match eA X t with|some i=>eE z i.zs&&Nat.beq esz i.size&&Nat.beq z.length esz&&Nat.ble 1 esz&&Nat.ble i.bytes 1048576|none=>false)&&(match eu X tx with|some (.int _)=>true|_=>false)&&aW a x&&aW b y
   |_,_,_=>false)
  |_=>false
 | .tap T a b esz _=>match oo with
  | .call cl=>(match cl.callee,cl.args.toList,cl.argTypes.toList with
   | .builtin .append,[x,y],[t,tx]=>LW X T t esz&&((eA X tx).isSome||hM X tx)&&aW a x&&aW b y
   |_,_,_=>false)
  |_=>false
 | .cvp a=>match oo with
  | .convert s t x=>(match eu X s,eu X t with|some (.pointer k),some .unsafePointer=>(match X.ty.get k with|some j=> !(Nat.beq j.size 0)|none=>false)|_,_=>false)&&aW a x
  |_=>false
 | .cvu tbl a=>match oo with
  | .convert s t x=>(match eu X s,eu X t with
   |some .unsafePointer,some (.pointer u)=>(X.ty.get u).isSome&&X.vw.any (fun e=>Nat.beq e.1 u&&YI e.2 tbl)
   |_,_=>false)&&aW a x
  |_=>false
 | .usd a=>match oo with
  | .call cl=>(match cl.callee,cl.args.toList with| .builtin .unsafeSliceData,[x]=>aW a x|_,_=>false)
  |_=>false
 | .ust T a b=>match oo with
  | .call cl=>(match cl.callee,cl.args.toList,cl.argTypes.toList with
   | .builtin .unsafeString,[x,y],[pt,_]=>(match eu X pt with|some (.pointer e)=>Nat.beq T e&&(match X.ty.get e with|some j=>Nat.beq j.size 1|none=>false)|_=>false)&&aW a x&&aW b y
   |_,_,_=>false)
  |_=>false
 | .bad _=>match oo with| .defer _=>false|_=>true
 |_=>false
end
section
variable {P:Program} {CR:Nat ->Code ->ap ->Prop}
variable {c:CE} {h:AH} {w:World} {ev:MA ->AV} {ρ:Operand ->Value} {o:Oper} {C:dy}
def dT (hC:jt P C) {t:TypeId} {d:TypeDesc} (h:eu C t=some d):P.underlying t=some d:=by
 unfold eu at h;cases ht:C.ty.get t with
 |none=>rw[ht] at h;cases h
 |some i=>rw[ht] at h;cases h;exact(hC.ty t i ht).und
def fy (hC:jt P C) {t:TypeId} {i:TI} (h:eA C t=some i):∃e,P.underlying t=some (.slice e)/\ C.ty.get e=some i/\ rq P e i:=by
 unfold eA at h;cases ht:C.ty.get t with
 |none=>rw[ht] at h;cases h
 |some j=>
  rw[ht] at h;dsimp only at h;split at h
  ·rename_i e he;exact⟨e,by rw[←he];exact(hC.ty t j ht).und,h,hC.ty e i h⟩
  ·cases h
def gy (hC:jt P C) {t:TypeId} (h:hM C t=true):P.underlying t=some .string:=by
 unfold hM at h;cases ht:C.ty.get t with
 |none=>rw[ht] at h;cases h
 |some j=>
  rw[ht] at h;dsimp only at h;split at h
  ·rename_i he;rw[←he];exact(hC.ty t j ht).und
  ·cases h
def rY (hC:jt P C) {t:TypeId} {n:Nat} {i:TI} (h:pG C t=some (n,i)):∃e,P.underlying t=some (.array n e)/\ rq P e i:=by
 unfold pG at h;cases ht:C.ty.get t with
 |none=>rw[ht] at h;cases h
 |some j=>
  rw[ht] at h;dsimp only at h;split at h
  ·rename_i n' e he;cases hj:C.ty.get e with
   |none=>rw[hj] at h;cases h
   |some k=>
    rw[hj] at h;cases h;exact⟨e,by rw[←he];exact(hC.ty t j ht).und,hC.ty e _ hj⟩
  ·cases h
def jg (hC:jt P C) {t k:TypeId} {j:TI} (h:iN C t=some (k,j)):∃e kd,P.underlying t=some (.map k e)/\ C.ty.get k=some kd/\ C.ty.get e=some j:=by
 unfold iN at h;cases ht:C.ty.get t with
 |none=>rw[ht] at h;cases h
 |some i=>
  rw[ht] at h;dsimp only at h;split at h
  ·rename_i k' e he;cases hk:C.ty.get k' with
   |none=>rw[hk] at h;cases h
   |some kd=>
    cases hj:C.ty.get e with
    |none=>rw[hk,hj] at h;cases h
    |some j'=>
     rw[hk,hj] at h;cases h;exact⟨e,kd,by rw[←he];exact(hC.ty t i ht).und,hk,hj⟩
  ·cases h
def ry (hC:jt P C) {t:TypeId} {fs:Array Field} (h:kj C t=some fs):P.underlying t=some (.struct fs):=by
 unfold kj at h;cases ht:C.ty.get t with
 |none=>rw[ht] at h;cases h
 |some i=>
  rw[ht] at h;dsimp only at h;split at h
  ·rename_i fs' he;cases h;rw[←he];exact(hC.ty t i ht).und
  ·cases h
def By {a b:BinOp} (h:FI a b=true):a=b:=of_decide_eq_true h
def Ro {a b:UnOp} (h:VZ a b=true):a=b:=of_decide_eq_true h
def Rp (hC:jt P C) (X:Cx CR c h w ev ρ) (hρ:∀f,ρ (.func f)= .func (.func f) #[] #[]) {m:xc} (hk:Rn C o.op m=true):aI P CR c h w (step ev h m) ((execOp ρ o).run P w):=by
 generalize ho:o.op=oo at hk;cases m with
 |mv a=>
  replace hk:(match (generalizing:=false) oo with| .move x=>aW a x| .assign x=>aW a x|_=>false)=true:=hk;split at hk
  ·exact Tv X (.inl ho) hk
  ·exact Tv X (.inr ho) hk
  ·cases hk
 |pick a b d=>
  replace hk:(match (generalizing:=false) oo with| .pick x y z=>aW a x&&aW b y&&aW d z|_=>false)=true:=hk;split at hk
  ·simp only[av] at hk;exact Q4 X ho hk.1.1 hk.1.2 hk.2
  ·cases hk
 |alloc z=>
  replace hk:(match (generalizing:=false) oo with| .alloc t=>(match (generalizing:=false) C.ty.get t with|some i=>eE z i.zs|none=>false)|_=>false)=true:=hk;split at hk
  ·rename_i t;cases ht:C.ty.get t with
   |none=>rw[ht] at hk;cases hk
   |some i=>rw[ht] at hk;exact LG (hC.ty t i ht) X ho (dE hk)
  ·cases hk
 |box a n=>
  replace hk:(match (generalizing:=false) oo with| .box _ x=>aW a x|_=>false)=true:=hk;split at hk
  ·exact Vp X ho hk
  ·cases hk
 |build z ps=>
  replace hk:(match (generalizing:=false) oo with
   | .build t parts=>match (generalizing:=false) C.ty.get t with
    |some i=>eE z i.zs&&(match (generalizing:=false) i.kd with
     | .struct fs=>Dd C.ty fs.toList&&iC (kh C.ty fs.toList) ps parts.toList
     | .array _ e=>(match (generalizing:=false) C.ty.get e with|some j=>iC (fun k=>some (k*j.size,j.size)) ps parts.toList|none=>false)
     |_=>false)
    |none=>false
   |_=>false)=true:=hk
  split at hk
  ·rename_i t parts;cases ht:C.ty.get t with
   |none=>rw[ht] at hk;cases hk
   |some i=>
    rw[ht] at hk;simp only[av] at hk;obtain⟨h1,h2⟩:=hk;split at h2
    ·rename_i fs he;simp only[av] at h2;exact vV hC.ty X ht he h2.1 (dE h1) ho h2.2
    ·rename_i n e he;cases hj:C.ty.get e with
     |none=>rw[hj] at h2;cases h2
     |some j=>rw[hj] at h2;exact xy hC.ty X ht he hj (dE h1) ho h2
    ·cases h2
  ·cases hk
 |bslice z n esz ps=>
  replace hk:(match (generalizing:=false) oo with
   | .buildSlice t len parts=>match (generalizing:=false) eA C t with
    |some i=>Nat.beq n len&&eE z (List.replicate n i.zs).flatten&&Nat.beq esz i.size&&Nat.beq i.zs.length i.size&&Nat.ble (n*esz) 16777216&&iC (fun k=>some (k*i.size,i.size)) ps parts.toList
    |none=>false
   |_=>false)=true:=hk
  split at hk
  ·rename_i t len parts;cases ht:eA C t with
   |none=>rw[ht] at hk;cases hk
   |some i=>
    rw[ht] at hk;simp only[av,az,aQ,decide_eq_true_eq] at hk;obtain⟨⟨⟨⟨⟨h1,h2⟩,h3⟩,h4⟩,h5⟩,h6⟩:=hk;subst h1;obtain⟨e,e1,e2,e3⟩:=fy hC ht;exact JH hC.ty X e1 e2 (dE h2) h3 h4 h5 ho h6
  ·cases hk
 |load a n agg=>
  replace hk:(match (generalizing:=false) oo with| .load t x=>(match (generalizing:=false) C.ty.get t with|some i=>aW a x&&Nat.beq n i.size&&(agg==i.kd.isRow)|none=>false)|_=>false)=true:=hk;split at hk
  ·rename_i t x;cases ht:C.ty.get t with
   |none=>rw[ht] at hk;cases hk
   |some i=>
    rw[ht] at hk;simp only[av,az,decide_eq_true_eq,beq_iff_eq] at hk;exact Q5 (hC.ty t i ht) X ho hk.1.1 hk.1.2 hk.2
  ·cases hk
 |store a v n=>
  replace hk:(match (generalizing:=false) oo with| .store t x y=>(match (generalizing:=false) C.ty.get t with|some i=>aW a x&&aW v y&&Nat.beq n i.size|none=>false)|_=>false)=true:=hk;split at hk
  ·rename_i t x y;cases ht:C.ty.get t with
   |none=>rw[ht] at hk;cases hk
   |some i=>
    rw[ht] at hk;simp only[av,az,decide_eq_true_eq] at hk;exact LJ (hC.ty t i ht) X ho hk.1.1 hk.1.2 hk.2
  ·cases hk
 |nilc a=>
  replace hk:(match (generalizing:=false) oo with| .nilCheck x=>aW a x|_=>false)=true:=hk;split at hk
  ·exact Q6 X ho hk
  ·cases hk
 |bin op a b=>
  replace hk:(match (generalizing:=false) oo with| .binOp op' _ x y _=>FI op' op&&aW a x&&aW b y|_=>false)=true:=hk;split at hk
  ·simp only[av] at hk;have:=By hk.1.1;subst this;exact VD X ho hk.1.2 hk.2
  ·cases hk
 |eqv ne e a b=>
  replace hk:(match (generalizing:=false) oo with
   | .binOp op t x y _=>(bif ne then FI op .neq else FI op .eql)&&iB C.ty true 6 t e&&zK e x y&&aW a x&&aW b y&&(match (generalizing:=false) e with| .ag _=>C.sq.any (Nat.beq t)|_=>true)
   |_=>false)=true:=hk
  split at hk
  ·rename_i op t x y yt;simp only[av] at hk;obtain⟨⟨⟨⟨⟨h1,h2⟩,h3⟩,h4⟩,h5⟩,h6⟩:=hk;refine VG hC.ty X ho ?_ h2 h3 ?_ h4 h5
   ·cases ne with
    |true=>exact .inr ⟨By h1,rfl⟩
    |false=>exact .inl ⟨By h1,rfl⟩
   ·rintro⟨l,rfl⟩;dsimp only at h6;rw[re] at h6;obtain⟨t',h7,h8⟩:=h6;simp only[az,decide_eq_true_eq] at h8;subst h8;exact hC.eg _ h7
  ·cases hk
 |un op a=>
  replace hk:(match (generalizing:=false) oo with| .unOp op' _ x=>VZ op' op&&aW a x|_=>false)=true:=hk;split at hk
  ·simp only[av] at hk;have:=Ro hk.1;subst this;exact YG X ho hk.2
  ·cases hk
 |cvi k a=>
  replace hk:(match (generalizing:=false) oo with
   | .convert s t x=>(match (generalizing:=false) eu C s,eu C t with|some (.int _),some (.int k')=>rP k k'&&aW a x|_,_=>false)
   |_=>false)=true:=hk
  split at hk
  ·rename_i s t x;split at hk
   ·rename_i ks kt h1 h2;simp only[av] at hk;have:=xn hk.1;subst this;exact Vu (dT hC h2) (dT hC h1) X ho hk.2
   ·cases hk
  ·cases hk
 |cvs a=>
  replace hk:(match (generalizing:=false) oo with| .convert s t x=>hM C s&&hM C t&&aW a x|_=>false)=true:=hk;split at hk
  ·simp only[av] at hk;exact Vr X (gy hC hk.1.1) (gy hC hk.1.2) ho hk.2
  ·cases hk
 |s2b a=>
  replace hk:(match (generalizing:=false) oo with
   | .convert s t x=>hM C s&&(match (generalizing:=false) eA C t with|some i=>(match (generalizing:=false) i.kd with| .int .u8=>true|_=>false)|none=>false)&&aW a x
   |_=>false)=true:=hk
  split at hk
  ·rename_i s t x;simp only[av] at hk;obtain⟨⟨h1,h2⟩,h3⟩:=hk;cases ht:eA C t with
   |none=>rw[ht] at h2;cases h2
   |some i=>
    rw[ht] at h2;dsimp only at h2;split at h2
    ·rename_i he;obtain⟨e,e1,e2,e3⟩:=fy hC ht;exact VM X (gy hC h1) e1 (by rw[←he];exact e3.und) ho h3
    ·cases h2
  ·cases hk
 |b2s a=>
  replace hk:(match (generalizing:=false) oo with
   | .convert s t x=>hM C t&&(match (generalizing:=false) eA C s with|some i=>(match (generalizing:=false) i.kd with| .int .u8=>true|_=>false)|none=>false)&&aW a x
   |_=>false)=true:=hk
  split at hk
  ·rename_i s t x;simp only[av] at hk;obtain⟨⟨h1,h2⟩,h3⟩:=hk;cases ht:eA C s with
   |none=>rw[ht] at h2;cases h2
   |some i=>
    rw[ht] at h2;dsimp only at h2;split at h2
    ·rename_i he;obtain⟨e,e1,e2,e3⟩:=fy hC ht;exact VN X e1 (by rw[←he];exact e3.und) (gy hC h1) ho h3
    ·cases h2
  ·cases hk
 |mif t a=>
  replace hk:(match (generalizing:=false) oo with| .makeInterface t' x=>Nat.beq t t'&&(match (generalizing:=false) eu C t' with|some (.interface _)=>false|some _=>true|none=>false)&&aW a x|_=>false)=true:=hk;split at hk
  ·rename_i t' x;simp only[av,az,decide_eq_true_eq] at hk;obtain⟨⟨h1,h2⟩,h3⟩:=hk;subst h1;cases hd:eu C t with
   |none=>rw[hd] at h2;cases h2
   |some d=>
    rw[hd] at h2;exact Vs X (dT hC hd) (fun ms e=>by subst e;cases h2) ho h3
  ·cases hk
 |mfn f a b=>
  replace hk:(match (generalizing:=false) oo with| .makeFunc (.func g) x y=>Nat.beq f g&&l9 a x.toList&&l9 b y.toList|_=>false)=true:=hk;split at hk
  ·simp only[av,az,decide_eq_true_eq] at hk;obtain⟨⟨h1,h2⟩,h3⟩:=hk;subst h1;exact Vy X ho h2 h3
  ·cases hk
 |mmap r=>
  replace hk:(match (generalizing:=false) oo with| .makeMap t x=>qQ r x&&(r.isNone||(iN C t).isSome)|_=>false)=true:=hk;split at hk
  ·rename_i t x;simp only[av,g9] at hk;refine Rg X hk.1 ?_ ho;rcases hk.2 with h1|h1
   ·cases r with
    |none=>exact .inl rfl
    |some _=>cases h1
   ·cases hm:iN C t with
    |none=>rw[hm] at h1;cases h1
    |some q=>obtain⟨e,kd,e1,_⟩:=jg hC (k:=q.1) (j:=q.2) hm;exact .inr ⟨_,_,e1⟩
  ·cases hk
 |mslice z esz bs a b=>
  replace hk:(match (generalizing:=false) oo with
   | .makeSlice t x y=>(match (generalizing:=false) eA C t with|some i=>eE z i.zs&&Nat.beq esz i.size&&Nat.beq z.length esz&&Nat.ble i.bytes 1048576|none=>false)&&aW a x&&aW b y
   |_=>false)=true:=hk
  split at hk
  ·rename_i t x y;simp only[av] at hk;obtain⟨⟨h1,h2⟩,h3⟩:=hk;cases ht:eA C t with
   |none=>rw[ht] at h1;cases h1
   |some i=>
    rw[ht] at h1;simp only[av,az,aQ,decide_eq_true_eq] at h1;obtain⟨e,e1,e2,e3⟩:=fy hC ht;exact JC e3 X e1 ho h2 h3 (dE h1.1.1.1) h1.1.1.2 h1.1.2 h1.2
  ·cases hk
 |slc esz a lo hi mx=>
  replace hk:(match (generalizing:=false) oo with
   | .slice t x l h m=>(match (generalizing:=false) eA C t with|some i=>Nat.beq esz i.size|none=>false)&&aW a x&&qQ lo l&&qQ hi h&&qQ mx m&&(mx.isNone||hi.isSome)
   |_=>false)=true:=hk
  split at hk
  ·rename_i t x l h' m;simp only[av] at hk;obtain⟨⟨⟨⟨⟨h1,h2⟩,h3⟩,h4⟩,h5⟩,h6⟩:=hk;cases ht:eA C t with
   |none=>rw[ht] at h1;cases h1
   |some i=>
    rw[ht] at h1;simp only[az,decide_eq_true_eq] at h1;obtain⟨e,e1,e2,e3⟩:=fy hC ht;exact Vw e3 X e1 ho h2 h3 h4 h5 (by cases mx<;>cases hi<;>simp at h6 ⊢) h1
  ·cases hk
 |slcs a lo hi=>
  replace hk:(match (generalizing:=false) oo with| .slice t x l h none=>hM C t&&aW a x&&qQ lo l&&qQ hi h|_=>false)=true:=hk;split at hk
  ·simp only[av] at hk;exact Rd X (gy hC hk.1.1.1) ho hk.1.1.2 hk.1.2 hk.2
  ·cases hk
 |slca n esz a lo hi mx=>
  replace hk:(match (generalizing:=false) oo with
   | .slice t x l h m=>(match (generalizing:=false) pG C t with|some (k,i)=>Nat.beq n k&&Nat.beq esz i.size|none=>false)&&aW a x&&qQ lo l&&qQ hi h&&qQ mx m&&(mx.isNone||hi.isSome)
   |_=>false)=true:=hk
  split at hk
  ·rename_i t x l h' m;simp only[av] at hk;obtain⟨⟨⟨⟨⟨h1,h2⟩,h3⟩,h4⟩,h5⟩,h6⟩:=hk;cases ht:pG C t with
   |none=>rw[ht] at h1;cases h1
   |some q=>
    obtain⟨k,i⟩:=q;rw[ht] at h1;simp only[av,az,decide_eq_true_eq] at h1;obtain⟨e,e1,e3⟩:=rY hC ht;obtain⟨rfl,rfl⟩:=h1;exact Re e3 X e1 ho h2 h3 h4 h5 (by cases mx<;>cases hi<;>simp at h6 ⊢) rfl
  ·cases hk
 |fadr a off=>
  replace hk:(match (generalizing:=false) oo with
   | .fieldAddr s x k=>(match (generalizing:=false) kj C s with|some fs=>(match (generalizing:=false) fs[k]? with|some f=>Nat.beq off f.offset&&(match (generalizing:=false) C.ty.get f.type with|some i=> !(Nat.beq i.size 0)|none=>false)|none=>false)|none=>false)&&aW a x
   |_=>false)=true:=hk
  split at hk
  ·rename_i s x k;simp only[av] at hk;obtain⟨h1,h2⟩:=hk;cases hs:kj C s with
   |none=>rw[hs] at h1;cases h1
   |some fs=>
    rw[hs] at h1;dsimp only at h1;cases hf:fs[k]? with
    |none=>rw[hf] at h1;cases h1
    |some f=>
     rw[hf] at h1;simp only[av,az,decide_eq_true_eq] at h1;obtain⟨rfl,h3⟩:=h1;cases ht:C.ty.get f.type with
     |none=>rw[ht] at h3;cases h3
     |some i=>
      rw[ht] at h3;simp only[iS,decide_eq_false_iff_not] at h3;obtain⟨inf,zv,i1,i2,_⟩:=(hC.ty _ _ ht).info;exact Q9 X (ry hC hs) hf i1 (by rw[i2];exact h3) ho h2
  ·cases hk
 |fld a off n agg=>
  replace hk:(match (generalizing:=false) oo with
   | .field s x k=>(match (generalizing:=false) kj C s with|some fs=>(match (generalizing:=false) fs[k]? with|some f=>Nat.beq off f.offset&&(match (generalizing:=false) C.ty.get f.type with|some i=>Nat.beq n i.size&&(agg==i.kd.isRow)|none=>false)|none=>false)|none=>false)&&aW a x
   |_=>false)=true:=hk
  split at hk
  ·rename_i s x k;simp only[av] at hk;obtain⟨h1,h2⟩:=hk;cases hs:kj C s with
   |none=>rw[hs] at h1;cases h1
   |some fs=>
    rw[hs] at h1;dsimp only at h1;cases hf:fs[k]? with
    |none=>rw[hf] at h1;cases h1
    |some f=>
     rw[hf] at h1;simp only[av,az,decide_eq_true_eq] at h1;obtain⟨rfl,h3⟩:=h1;cases ht:C.ty.get f.type with
     |none=>rw[ht] at h3;cases h3
     |some i=>
      rw[ht] at h3;simp only[av,beq_iff_eq,decide_eq_true_eq] at h3;exact Vv (hC.ty _ _ ht) X (ry hC hs) hf ho h2 h3.1 h3.2
  ·cases hk
 |iadr esz a b=>
  replace hk:(match (generalizing:=false) oo with| .indexAddr t x y=>(match (generalizing:=false) eA C t with|some i=>Nat.beq esz i.size|none=>false)&&aW a x&&aW b y|_=>false)=true:=hk;split at hk
  ·rename_i t x y;simp only[av] at hk;obtain⟨⟨h1,h2⟩,h3⟩:=hk;cases ht:eA C t with
   |none=>rw[ht] at h1;cases h1
   |some i=>
    rw[ht] at h1;simp only[az,decide_eq_true_eq] at h1;obtain⟨e,e1,e2,e3⟩:=fy hC ht;exact Ra e3 X e1 ho h2 h3 h1
  ·cases hk
 |iadra n esz a b=>
  replace hk:(match (generalizing:=false) oo with| .indexAddr t x y=>(match (generalizing:=false) pG C t with|some (k,i)=>Nat.beq n k&&Nat.beq esz i.size|none=>false)&&aW a x&&aW b y|_=>false)=true:=hk;split at hk
  ·rename_i t x y;simp only[av] at hk;obtain⟨⟨h1,h2⟩,h3⟩:=hk;cases ht:pG C t with
   |none=>rw[ht] at h1;cases h1
   |some q=>
    obtain⟨k,i⟩:=q;rw[ht] at h1;simp only[av,az,decide_eq_true_eq] at h1;obtain⟨e,e1,e3⟩:=rY hC ht;obtain⟨rfl,rfl⟩:=h1;exact LM e3 X e1 ho h2 h3 rfl
  ·cases hk
 |idxs a b=>
  replace hk:(match (generalizing:=false) oo with| .index t x y=>hM C t&&aW a x&&aW b y|_=>false)=true:=hk;split at hk
  ·simp only[av] at hk;exact Rb X (gy hC hk.1.1) ho hk.1.2 hk.2
  ·cases hk
 |idxa n esz agg a b=>
  replace hk:(match (generalizing:=false) oo with| .index t x y=>(match (generalizing:=false) pG C t with|some (k,i)=>Nat.beq n k&&Nat.beq esz i.size&&(agg==i.kd.isRow)|none=>false)&&aW a x&&aW b y|_=>false)=true:=hk;split at hk
  ·rename_i t x y;simp only[av] at hk;obtain⟨⟨h1,h2⟩,h3⟩:=hk;cases ht:pG C t with
   |none=>rw[ht] at h1;cases h1
   |some q=>
    obtain⟨k,i⟩:=q;rw[ht] at h1;simp only[av,az,decide_eq_true_eq,beq_iff_eq] at h1;obtain⟨e,e1,e3⟩:=rY hC ht;obtain⟨⟨rfl,rfl⟩,h4⟩:=h1;exact Rc e3 X e1 ho h2 h3 rfl h4
  ·cases hk
 |look e a b z ok=>
  replace hk:(match (generalizing:=false) oo with| .lookup t x y ok'=>(match (generalizing:=false) iN C t with|some (k,j)=>iB C.ty false 6 k e&&Tx j z|none=>false)&&(ok==ok')&&aW a x&&aW b y|_=>false)=true:=hk;split at hk
  ·rename_i t x y ok';simp only[av,beq_iff_eq] at hk;obtain⟨⟨⟨h1,rfl⟩,h2⟩,h3⟩:=hk;cases ht:iN C t with
   |none=>rw[ht] at h1;cases h1
   |some q=>
    obtain⟨k,j⟩:=q;rw[ht] at h1;simp only[av] at h1;obtain⟨e',kd,e1,e2,e3⟩:=jg hC ht;exact Rh hC.ty X e1 h1.1 e3 (xA h1.2) e2 ho h2 h3
  ·cases hk
 |mupd e a b d=>
  replace hk:(match (generalizing:=false) oo with
   | .mapUpdate t x y u=>(match (generalizing:=false) iN C t with|some (k,_)=>iB C.ty false 6 k e|none=>false)&&aW a x&&aW b y&&aW d u
   | .insert t x y u=>(match (generalizing:=false) iN C t with|some (k,_)=>iB C.ty false 6 k e|none=>false)&&aW a x&&aW b y&&aW d u
   |_=>false)=true:=hk
  split at hk
  ·rename_i t x y u;simp only[av] at hk;obtain⟨⟨⟨h1,h2⟩,h3⟩,h4⟩:=hk;cases ht:iN C t with
   |none=>rw[ht] at h1;cases h1
   |some q=>
    obtain⟨k,j⟩:=q;rw[ht] at h1;obtain⟨e',kd,e1,e2,e3⟩:=jg hC ht;exact H2 hC.ty X e1 h1 e2 (.inl ho) h2 h3 h4
  ·rename_i t x y u;simp only[av] at hk;obtain⟨⟨⟨h1,h2⟩,h3⟩,h4⟩:=hk;cases ht:iN C t with
   |none=>rw[ht] at h1;cases h1
   |some q=>
    obtain⟨k,j⟩:=q;rw[ht] at h1;obtain⟨e',kd,e1,e2,e3⟩:=jg hC ht;exact H2 hC.ty X e1 h1 e2 (.inr ho) h2 h3 h4
  ·cases hk
 |ment e a b z=>
  replace hk:(match (generalizing:=false) oo with| .mapEntry t x y=>(match (generalizing:=false) iN C t with|some (k,j)=>iB C.ty false 6 k e&&Tx j z|none=>false)&&aW a x&&aW b y|_=>false)=true:=hk;split at hk
  ·rename_i t x y;simp only[av] at hk;obtain⟨⟨h1,h2⟩,h3⟩:=hk;cases ht:iN C t with
   |none=>rw[ht] at h1;cases h1
   |some q=>
    obtain⟨k,j⟩:=q;rw[ht] at h1;simp only[av] at h1;obtain⟨e',kd,e1,e2,e3⟩:=jg hC ht;exact Ri hC.ty X e1 h1.1 e2 e3 (xA h1.2) ho h2 h3
  ·cases hk
 |mest a s b=>
  replace hk:(match (generalizing:=false) oo with| .entryStore _ x y u=>aW a x&&aW s y&&aW b u|_=>false)=true:=hk;split at hk
  ·simp only[av] at hk;exact Rj X ho hk.1.1 hk.1.2 hk.2
  ·cases hk
 |rng a str=>
  replace hk:(match (generalizing:=false) oo with| .range t x=>(bif str then hM C t else (iN C t).isSome)&&aW a x|_=>false)=true:=hk;split at hk
  ·rename_i t x;simp only[av] at hk;refine Vz X ho hk.2 ?_;cases str with
   |true=>exact .inl ⟨rfl,gy hC hk.1⟩
   |false=>
    cases hm:iN C t with
    |none=>have:=hk.1;rw[hm] at this;cases this
    |some q=>obtain⟨e,kd,e1,_⟩:=jg hC (k:=q.1) (j:=q.2) hm;exact .inr ⟨rfl,_,_,e1⟩
  ·cases hk
 |nxt a str=>
  replace hk:(match (generalizing:=false) oo with| .next x s=>aW a x&&(str==s)|_=>false)=true:=hk;split at hk
  ·simp only[av,beq_iff_eq] at hk;obtain⟨h1,rfl⟩:=hk;exact VA X ho h1
  ·cases hk
 |ent a=>
  replace hk:(match (generalizing:=false) oo with| .entry x=>aW a x|_=>false)=true:=hk;split at hk
  ·exact VB X ho hk
  ·cases hk
 |tas a t ok z=>
  replace hk:(match (generalizing:=false) oo with
   | .typeAssert x _ t' ok'=>Nat.beq t t'&&(ok==ok')&&aW a x&&(match (generalizing:=false) C.ty.get t' with|some i=>(match (generalizing:=false) i.kd with| .interface _=>false|_=>true)&&(!ok||Tx i z)|none=>false)
   |_=>false)=true:=hk
  split at hk
  ·rename_i x xt t' ok';simp only[av,az,decide_eq_true_eq,beq_iff_eq] at hk;obtain⟨⟨⟨rfl,rfl⟩,h2⟩,h3⟩:=hk;cases ht:C.ty.get t with
   |none=>rw[ht] at h3;cases h3
   |some i=>
    rw[ht] at h3;simp only[av,g9,iS] at h3;refine VC (hC.ty t i ht) X ho h2 (fun q e=> ?_) (fun hok=> ?_)
    ·rw[e] at h3;exact absurd h3.1 (by simp)
    ·rcases h3.2 with h4|h4
     ·rw[hok] at h4;cases h4
     ·exact xA h4
  ·cases hk
 |ext a n=>
  replace hk:(match (generalizing:=false) oo with| .extract x k=>aW a x&&Nat.beq n k|_=>false)=true:=hk;split at hk
  ·simp only[av,az,decide_eq_true_eq] at hk;obtain⟨h1,rfl⟩:=hk;exact Vt X ho h1
  ·cases hk
 |call f args=>
  replace hk:(match (generalizing:=false) oo with| .call cl=>(match (generalizing:=false) cl.callee with| .value (.func g)=>Nat.beq f g&&l9 args cl.args.toList|_=>false)|_=>false)=true:=hk;split at hk
  ·rename_i cl;split at hk
   ·rename_i g hg;simp only[av,az,decide_eq_true_eq] at hk;obtain⟨rfl,h2⟩:=hk;exact Rf X hg (hρ f) ho h2
   ·cases hk
  ·cases hk
 |callv f args=>
  replace hk:(match (generalizing:=false) oo with| .call cl=>(match (generalizing:=false) cl.callee with| .value g=>aW f g&&l9 args cl.args.toList|_=>false)|_=>false)=true:=hk;split at hk
  ·rename_i cl;split at hk
   ·rename_i g hg;simp only[av] at hk;exact LN X hg hk.1 ho hk.2
   ·cases hk
  ·cases hk
 |calli r tbl args=>
  replace hk:(match (generalizing:=false) oo with| .call cl=>(match (generalizing:=false) cl.callee with| .invoke x name=>aW r x&&l9 args cl.args.toList&&C.mt.any (fun e=>decide (e.1=name)&&LV e.2 tbl)|_=>false)|_=>false)=true:=hk;split at hk
  ·rename_i cl;split at hk
   ·rename_i x name hg;simp only[av] at hk;obtain⟨⟨h1,h2⟩,h3⟩:=hk;rw[re] at h3;obtain⟨e,h4,h5⟩:=h3;simp only[av,decide_eq_true_eq,LV] at h5;have:=hC.mt e h4;rw[h5.1,h5.2] at this;exact LR X this hg h1 ho h2
   ·cases hk
  ·cases hk
 |app a b esz bs=>
  replace hk:(match (generalizing:=false) oo with
   | .call cl=>(match (generalizing:=false) cl.callee,cl.args.toList,cl.argTypes.toList with
    | .builtin .append,[x,y],[t,tx]=>(match (generalizing:=false) eA C t with|some i=>Nat.beq esz i.size&&Nat.beq i.zs.length i.size&&Nat.ble i.bytes 1048576|none=>false)&&((eA C tx).isSome||hM C tx)&&aW a x&&aW b y
    |_,_,_=>false)
   |_=>false)=true:=hk
  split at hk
  ·rename_i cl;split at hk
   ·rename_i x y t tx h1 h2 h3;simp only[av] at hk;obtain⟨⟨⟨k1,k2⟩,k3⟩,k4⟩:=hk;cases ht:eA C t with
    |none=>rw[ht] at k1;cases k1
    |some i=>
     rw[ht] at k1;simp only[av,az,aQ,decide_eq_true_eq] at k1;obtain⟨e,e1,e2,e3⟩:=fy hC ht;have hcl:cl={ callee:= .builtin .append,args:=#[x,y],argTypes:=#[t,tx] }:=by
      obtain⟨cc,ca,ct⟩:=cl;simp only at h1 h2 h3;subst h1;have e4:ca=#[x,y]:=by apply jn;simpa using h2
      have e5:ct=#[t,tx]:=by apply jn;simpa using h3
      rw[e4,e5]
     refine VH e3 X e1 ?_ (by rw[ho,hcl]) k3 k4 k1.1.1 k1.1.2 k1.2;simp only[g9] at k2;rcases k2 with k2|k2
     ·cases hx:eA C tx with
      |none=>rw[hx] at k2;cases k2
      |some j=>obtain⟨e',e1',_⟩:=fy hC hx;exact .inl ⟨e',e1'⟩
     ·exact .inr (gy hC k2)
   ·cases hk
  ·cases hk
 |len k a=>
  replace hk:(match (generalizing:=false) oo with
   | .call cl=>(match (generalizing:=false) cl.callee,cl.args.toList,cl.argTypes.toList with
    | .builtin .len,[x],[t]=>aW a x&&(match (generalizing:=false) k with
     | .str=>hM C t
     | .arr n=>(match (generalizing:=false) C.ty.get t with
      |some i=>(match (generalizing:=false) i.kd with
       | .array n' _=>Nat.beq n n'
       | .pointer p=>(match (generalizing:=false) C.ty.get p with|some j=>(match (generalizing:=false) j.kd with| .array n' _=>Nat.beq n n'|_=>false)|none=>false)
       |_=>false)
      |none=>false)
     | .slice=>(match (generalizing:=false) eu C t with|some (.slice _)=>true|_=>false)
     | .map=>(match (generalizing:=false) eu C t with|some (.map _ _)=>true|_=>false))
    |_,_,_=>false)
   |_=>false)=true:=hk
  split at hk
  ·rename_i cl;split at hk
   ·rename_i x t h1 h2 h3;simp only[av] at hk;obtain⟨k1,k2⟩:=hk;have hcl:cl={ callee:= .builtin .len,args:=#[x],argTypes:=#[t] }:=by
     obtain⟨cc,ca,ct⟩:=cl;simp only at h1 h2 h3;subst h1;have e4:ca=#[x]:=by apply jn;simpa using h2
     have e5:ct=#[t]:=by apply jn;simpa using h3
     rw[e4,e5]
    rw[hcl] at ho;cases k with
    |str=>exact Fz X (t:=t) rfl (gy hC k2) ho k1
    |arr n=>
     dsimp only at k2;cases ht:C.ty.get t with
     |none=>rw[ht] at k2;cases k2
     |some i=>
      rw[ht] at k2;dsimp only at k2;have hu:=(hC.ty t i ht).und;split at k2
      ·rename_i n' e he;simp only[az,decide_eq_true_eq] at k2;subst k2;exact xo X (t:=t) rfl (.inl ⟨e,by rw[←he];exact hu⟩) ho
      ·rename_i p he;cases hp:C.ty.get p with
       |none=>rw[hp] at k2;cases k2
       |some j=>
        rw[hp] at k2;dsimp only at k2;split at k2
        ·rename_i n' e he';simp only[az,decide_eq_true_eq] at k2;subst k2;exact xo X (t:=t) rfl (.inr ⟨p,e,by rw[←he];exact hu,by rw[←he'];exact(hC.ty p j hp).und⟩) ho
        ·cases k2
      ·cases k2
    |slice=>
     dsimp only at k2;split at k2
     ·rename_i e he;exact Bt X (t:=t) rfl (dT hC he) ho k1
     ·cases k2
    |map=>
     dsimp only at k2;split at k2
     ·rename_i k' e he;exact FG X (t:=t) rfl (dT hC he) ho k1
     ·cases k2
   ·cases hk
  ·cases hk
 |cap a=>
  replace hk:(match (generalizing:=false) oo with
   | .call cl=>(match (generalizing:=false) cl.callee,cl.args.toList,cl.argTypes.toList with
    | .builtin .cap,[x],[t]=>aW a x&&(match (generalizing:=false) eu C t with|some (.slice _)=>true|_=>false)
    |_,_,_=>false)
   |_=>false)=true:=hk
  split at hk
  ·rename_i cl;split at hk
   ·rename_i x t h1 h2 h3;simp only[av] at hk;obtain⟨k1,k2⟩:=hk;have hcl:cl={ callee:= .builtin .cap,args:=#[x],argTypes:=#[t] }:=by
     obtain⟨cc,ca,ct⟩:=cl;simp only at h1 h2 h3;subst h1;have e4:ca=#[x]:=by apply jn;simpa using h2
     have e5:ct=#[t]:=by apply jn;simpa using h3
     rw[e4,e5]
    rw[hcl] at ho;split at k2
    ·rename_i e he;exact Vx X (t:=t) rfl (dT hC he) ho k1
    ·cases k2
   ·cases hk
  ·cases hk
 |min l=>
  replace hk:(match (generalizing:=false) oo with| .call cl=>(match (generalizing:=false) cl.callee with| .builtin .min=>l9 l cl.args.toList|_=>false)|_=>false)=true:=hk;split at hk
  ·rename_i cl;split at hk
   ·rename_i h1;obtain⟨cc,ca,ct⟩:=cl;simp only at h1 hk;subst h1;exact VI X ho hk
   ·cases hk
  ·cases hk
 |max l=>
  replace hk:(match (generalizing:=false) oo with| .call cl=>(match (generalizing:=false) cl.callee with| .builtin .max=>l9 l cl.args.toList|_=>false)|_=>false)=true:=hk;split at hk
  ·rename_i cl;split at hk
   ·rename_i h1;obtain⟨cc,ca,ct⟩:=cl;simp only at h1 hk;subst h1;exact VJ X ho hk
   ·cases hk
  ·cases hk
 |tal T z=>
  replace hk:(match (generalizing:=false) oo with| .alloc t=>(match (generalizing:=false) C.ty.get t with|some i=>Nat.beq T t&&eE z i.zs|none=>false)|_=>false)=true:=hk;split at hk
  ·rename_i t;cases ht:C.ty.get t with
   |none=>rw[ht] at hk;cases hk
   |some i=>
    rw[ht] at hk;simp only[av,az,decide_eq_true_eq] at hk;exact VO (hC.ty t i ht) X hk.1 ho (dE hk.2)
  ·cases hk
 |tbx T a=>
  replace hk:(match (generalizing:=false) oo with| .box t x=>Nat.beq T t&&aW a x|_=>false)=true:=hk;split at hk
  ·simp only[av,az,decide_eq_true_eq] at hk;exact VP X hk.1 ho hk.2
  ·cases hk
 |tst a v n=>
  replace hk:(match (generalizing:=false) oo with| .store t x y=>(match (generalizing:=false) C.ty.get t with|some i=>aW a x&&aW v y&&Nat.beq n i.size|none=>false)|_=>false)=true:=hk;split at hk
  ·rename_i t x y;cases ht:C.ty.get t with
   |none=>rw[ht] at hk;cases hk
   |some i=>
    rw[ht] at hk;simp only[av,az,decide_eq_true_eq] at hk;exact VQ (hC.ty t i ht) X ho hk.1.1 hk.1.2 hk.2
  ·cases hk
 |tld a n agg=>
  replace hk:(match (generalizing:=false) oo with| .load t x=>(match (generalizing:=false) C.ty.get t with|some i=>aW a x&&Nat.beq n i.size&&(agg==i.kd.isRow)|none=>false)|_=>false)=true:=hk;split at hk
  ·rename_i t x;cases ht:C.ty.get t with
   |none=>rw[ht] at hk;cases hk
   |some i=>
    rw[ht] at hk;simp only[av,az,decide_eq_true_eq,beq_iff_eq] at hk;exact Vq (hC.ty t i ht) X ho hk.1.1 hk.1.2 hk.2
  ·cases hk
 |appz a b esz bs z=>
  replace hk:(match (generalizing:=false) oo with
   | .call cl=>(match (generalizing:=false) cl.callee,cl.args.toList,cl.argTypes.toList with
    | .builtin .append,[x,y],[t,tx]=>(match (generalizing:=false) eA C t with|some i=>eE z i.zs&&Nat.beq esz i.size&&Nat.beq z.length esz&&Nat.ble 1 esz&&Nat.ble i.bytes 1048576|none=>false)&&(match (generalizing:=false) eu C tx with|some (.int _)=>true|_=>false)&&aW a x&&aW b y
    |_,_,_=>false)
   |_=>false)=true:=hk
  split at hk
  ·rename_i cl;split at hk
   ·rename_i x y t tx h1 h2 h3;simp only[av] at hk;obtain⟨⟨⟨k1,k2⟩,k3⟩,k4⟩:=hk;cases ht:eA C t with
    |none=>rw[ht] at k1;cases k1
    |some i=>
     rw[ht] at k1;simp only[av,az,aQ,decide_eq_true_eq] at k1;obtain⟨e,e1,e2,e3⟩:=fy hC ht;have hcl:cl={ callee:= .builtin .append,args:=#[x,y],argTypes:=#[t,tx] }:=by
      obtain⟨cc,ca,ct⟩:=cl;simp only at h1 h2 h3;subst h1;have e4:ca=#[x,y]:=by apply jn;simpa using h2
      have e5:ct=#[t,tx]:=by apply jn;simpa using h3
      rw[e4,e5]
     split at k2
     ·rename_i kn hkn;exact Rm e3 X e1 (dT hC hkn) (by rw[ho,hcl]) k3 k4 (dE k1.1.1.1.1) k1.1.1.1.2 k1.1.1.2 k1.1.2 k1.2
     ·cases k2
   ·cases hk
  ·cases hk
 |tap T a b esz bs=>
  replace hk:(match (generalizing:=false) oo with
   | .call cl=>(match (generalizing:=false) cl.callee,cl.args.toList,cl.argTypes.toList with
    | .builtin .append,[x,y],[t,tx]=>LW C T t esz&&((eA C tx).isSome||hM C tx)&&aW a x&&aW b y
    |_,_,_=>false)
   |_=>false)=true:=hk
  split at hk
  ·rename_i cl;split at hk
   ·rename_i x y t tx h1 h2 h3;simp only[av] at hk;obtain⟨⟨⟨k1,k2⟩,k3⟩,k4⟩:=hk;unfold LW at k1;cases ht:C.ty.get t with
    |none=>rw[ht] at k1;cases k1
    |some j=>
     rw[ht] at k1;dsimp only at k1;split at k1
     ·rename_i e he;cases hi:C.ty.get e with
      |none=>rw[hi] at k1;cases k1
      |some i=>
       rw[hi] at k1;simp only[av,az,aQ,decide_eq_true_eq] at k1;have hcl:cl={ callee:= .builtin .append,args:=#[x,y],argTypes:=#[t,tx] }:=by
        obtain⟨cc,ca,ct⟩:=cl;simp only at h1 h2 h3;subst h1;have e4:ca=#[x,y]:=by apply jn;simpa using h2
        have e5:ct=#[t,tx]:=by apply jn;simpa using h3
        rw[e4,e5]
       refine VY (hC.ty e i hi) X (by rw[←he];exact(hC.ty t j ht).und) ?_ (by rw[ho,hcl]) k3 k4 k1.1.1.2 k1.1.2 k1.2 k1.1.1.1;simp only[g9] at k2;rcases k2 with k2|k2
       ·cases hx:eA C tx with
        |none=>rw[hx] at k2;cases k2
        |some j=>obtain⟨e',e1',_⟩:=fy hC hx;exact .inl ⟨e',e1'⟩
       ·exact .inr (gy hC k2)
     ·cases k1
   ·cases hk
  ·cases hk
 |cvp a=>
  replace hk:(match (generalizing:=false) oo with
   | .convert s t x=>(match (generalizing:=false) eu C s,eu C t with|some (.pointer k),some .unsafePointer=>(match (generalizing:=false) C.ty.get k with|some j=> !(Nat.beq j.size 0)|none=>false)|_,_=>false)&&aW a x
   |_=>false)=true:=hk
  split at hk
  ·rename_i s t x;simp only[av] at hk;obtain⟨k1,k2⟩:=hk;split at k1
   ·rename_i k e1 e2;cases hj:C.ty.get k with
    |none=>rw[hj] at k1;cases k1
    |some j=>
     rw[hj] at k1;simp only[iS,az,decide_eq_false_iff_not] at k1;exact VU (dT hC e1) (hC.ty k j hj) k1 (dT hC e2) X ho k2
   ·cases k1
  ·cases hk
 |cvu tbl a=>
  replace hk:(match (generalizing:=false) oo with
   | .convert s t x=>(match (generalizing:=false) eu C s,eu C t with
    |some .unsafePointer,some (.pointer u)=>(C.ty.get u).isSome&&C.vw.any (fun e=>Nat.beq e.1 u&&YI e.2 tbl)
    |_,_=>false)&&aW a x
   |_=>false)=true:=hk
  split at hk
  ·rename_i s t x;simp only[av] at hk;obtain⟨k1,k2⟩:=hk;split at k1
   ·rename_i u e1 e2;simp only[av,re,az,decide_eq_true_eq] at k1;obtain⟨k3,q,k4,k5,k6⟩:=k1;cases hj:C.ty.get u with
    |none=>rw[hj] at k3;cases k3
    |some j=>
     refine VV (dT hC e1) (dT hC e2) (hC.ty u j hj) (fun z hz=> ?_) X ho k2;have e3:q.2=tbl:=of_decide_eq_true k6;rw[←k5];exact hC.vw q k4 z (by rw[e3];exact hz)
   ·cases k1
  ·cases hk
 |usd a=>
  replace hk:(match (generalizing:=false) oo with
   | .call cl=>(match (generalizing:=false) cl.callee,cl.args.toList with| .builtin .unsafeSliceData,[x]=>aW a x|_,_=>false)
   |_=>false)=true:=hk
  split at hk
  ·rename_i cl;split at hk
   ·rename_i x h1 h2;have hcl:cl={ callee:= .builtin .unsafeSliceData,args:=#[x],argTypes:=cl.argTypes }:=by
     obtain⟨cc,ca,ct⟩:=cl;simp only at h1 h2;subst h1;have e4:ca=#[x]:=by apply jn;simpa using h2
     rw[e4]
    exact VW X (ts:=cl.argTypes) (by rw[ho,←hcl]) hk
   ·cases hk
  ·cases hk
 |ust T a b=>
  replace hk:(match (generalizing:=false) oo with
   | .call cl=>(match (generalizing:=false) cl.callee,cl.args.toList,cl.argTypes.toList with
    | .builtin .unsafeString,[x,y],[pt,_]=>(match (generalizing:=false) eu C pt with|some (.pointer e)=>Nat.beq T e&&(match (generalizing:=false) C.ty.get e with|some j=>Nat.beq j.size 1|none=>false)|_=>false)&&aW a x&&aW b y
    |_,_,_=>false)
   |_=>false)=true:=hk
  split at hk
  ·rename_i cl;split at hk
   ·rename_i x y pt it h1 h2 h3;simp only[av] at hk;obtain⟨⟨k1,k2⟩,k3⟩:=hk;have hcl:cl={ callee:= .builtin .unsafeString,args:=#[x,y],argTypes:=#[pt,it] }:=by
     obtain⟨cc,ca,ct⟩:=cl;simp only at h1 h2 h3;subst h1;have e4:ca=#[x,y]:=by apply jn;simpa using h2
     have e5:ct=#[pt,it]:=by apply jn;simpa using h3
     rw[e4,e5]
    split at k1
    ·rename_i e e1;simp only[av,az,decide_eq_true_eq] at k1;cases hj:C.ty.get e with
     |none=>rw[hj] at k1;cases k1.2
     |some j=>
      rw[hj] at k1;simp only[decide_eq_true_eq] at k1;obtain⟨inf,zv,i1,i2,_⟩:=(hC.ty e j hj).info;refine VX (dT hC e1) ?_ X (by rw[ho,hcl]) k2 k3 k1.1;simp[Program.cellsOf,i1,i2,k1.2]
    ·cases k1
   ·cases hk
  ·cases hk
 |bad n=>exact trivial
 |_=>cases hk
end
def fw (ro:Option Nat):Fence:={ Fence.wide with round:=ro }
def xB {ro ro':Option Nat} {n:Nat} {P:Program} {f:FuncId} {args:Array Value} {w:World} {R:Ending ->World ->Prop} (h:CallsIn (fw ro) n P f args w R):CallsIn (fw ro') n P f args w R:=h
def FJ {ro ro':Option Nat} {n:Nat} {P:Program} {l:Nat} {f:FuncId} {tmps:Array Value} {a b:Code} {w:World} {R:Ending ->World ->Prop}
 (h:RoundIn (fw ro) n P l f tmps a b w R):RoundIn (fw ro') n P l f tmps a b w R:=h
def lD (P:Program) (r:Result Next) (K:Value ->World ->Prop):Prop:=
 match r with
 | .ok (.value v) w=>K v w
 | .ok (.enter f args) w=>CallsIn (fw none) 0 P f args w fun e w'=>match e with| .returned v=>K v w'|_=>False
 | .ok (.round l f tmps a b) w=>RoundIn (fw none) 0 P l f tmps a b w fun e w'=>match e with| .returned v=>K v w'|_=>False
 |_=>False
def lD.mono {P:Program} {r:Result Next} {K K':Value ->World ->Prop} (h:lD P r K) (hk:∀v w,K v w ->K' v w):lD P r K':=by
 unfold lD at*;split at h
 ·exact hk _ _ h
 ·exact CallsIn.mono h fun e w'=>by cases e<;>simp;exact hk _ _
 ·exact RoundIn.mono h fun e w'=>by cases e<;>simp;exact hk _ _
 ·exact h.elim
def lD.upon {P:Program} {ro:Option Nat} {o:Oper} {a:Act} {next:Act ->World ->Prop} {Q:Exit ->Act ->World ->Prop} {r:Result Next}
 (h:lD P r fun v w=>next (a.put o.dst v) w):o.uponIn (fw ro) 0 P a next Q r:=by
 unfold lD at h;split at h
 ·exact h
 ·refine⟨fun h=>(by cases h),?_⟩;refine CallsIn.mono (xB h) fun e w'=> ?_
  cases e<;>simp
 ·refine⟨fun h=>(by cases h),?_⟩;refine RoundIn.mono (FJ h) fun e w'=> ?_
  cases e<;>simp
 ·exact h.elim
def tg {P:Program} {ro:Option Nat} {o:Oper} {a:Act} {w:World} {next:Act ->World ->Prop} {Q:Exit ->Act ->World ->Prop} (hd:∀c,o.op≠.defer c)
 (h:o.uponIn (fw ro) 0 P a next Q ((execOp a.eval o).run P w)):o.wpIn (fw ro) 0 P a w next Q:=
 ⟨fun _ _=>trivial,by rw[Oper.semAt_eq _ _ _ hd];exact h⟩
structure Bz (P:Program) (f:Nat):Prop where
 body:∃fn b,P.funcs[f]? =some fn/\ (fn.name== "runtime.NumGoroutine")=false/\ fn.body=some b
 run:∀args w,CallsDIn (fw none) 0 P f args .returning w fun e u w'=>(∃v,e= .returned v)/\ u= .returning/\ w'=w
def BA (P:Program) (s:Nat) (c:CE) (h:AH) (w:World) (d:Deferred):Prop:=
 (∃r,d.target= .collected r/\ s<=r/\ r<w.heap.size/\ w.heap[r]? =some (.deferred (some []))/\∀o obj,jB c h o obj ->(c.ρ o).1≠r)∨
 (∃g va,d.target= .fn (.func g) va/\ Bz P g)
section
variable {P:Program} {CR:Nat ->Code ->ap ->Prop}
structure ko (P:Program) (s:Nat) (c:CE) (h:AH) (w:World) (l:List Deferred):Prop where
 all:∀d∈l,BA P s c h w d
 apart:l.Pairwise (fun d e=>∀r,d.target= .collected r ->e.target≠.collected r)
def ko.nil {s:Nat} {c:CE} {h:AH} {w:World}:ko P s c h w []:=⟨fun _ h=>(by cases h),.nil⟩
def BA.evo {s:Nat} {c c':CE} {h h':AH} {w w':World} {d:Deferred} (m:BA P s c h w d) (e:nJ c h w c' h' w'):BA P s c' h' w' d:=by
 rcases m with ⟨r,h1,h2,h3,h4,h5⟩|m
 case inr=>exact .inr m
 refine .inl ⟨r,h1,h2,il h3 e.size,by rw[e.same r h3 h5];exact h4,fun o obj ho hr=> ?_⟩;rcases e.new o obj ho with h6|⟨o₀,obj₀,h6,h7⟩
 ·omega
 ·exact h5 o₀ obj₀ h6 (h7.trans hr)
def ko.evo {s:Nat} {c c':CE} {h h':AH} {w w':World} {l:List Deferred} (m:ko P s c h w l) (e:nJ c h w c' h' w'):ko P s c' h' w' l:=
 ⟨fun d hd=>(m.all d hd).evo e,m.apart⟩
structure St (P:Program) (CR:Nat ->Code ->ap ->Prop) (GL:T (List AV)) (N s:Nat) (c:CE) (h:AH) (w:World) (τ:T AV) (a:Act):Prop where
 rs:RS CR c h w
 gl:∀g l,GL.get g=some l ->c.gl g=some l
 tr:TR c τ a.tmps
 sz:N<=a.tmps.size
 marks:ko P s c h w a.defers
def xD {GL:T (List AV)} {c c':CE} (hg:∀g l,GL.get g=some l ->c.gl g=some l) (e:qj c c'):∀g l,GL.get g=some l ->c'.gl g=some l:=
 fun g l hl=>by rw[e.gl];exact hg g l hl
def bM (τ:T AV) (d:Option Nat) (v:AV):T AV:=match d with|none=>τ|some d=>τ.put d v
def TR.put {c:CE} {τ:T AV} {a:Act} (h:TR c τ a.tmps) {d:Option Nat} (hd:∀t,d=some t ->t<a.tmps.size) {x:AV} {v:Value} (hv:VR c x v):TR c (bM τ d x) (a.put d v).tmps:=by
 cases d with
 |none=>exact h
 |some t=>
  intro k y hy;replace hy:(τ.put t x).get k=some y:=hy;rw[T.get_put] at hy;have hs:(a.put (some t) v).tmps=a.tmps.setIfInBounds t v:=rfl;rw[hs];by_cases e:k=t
  ·subst e;rw[if_pos rfl] at hy;cases hy;exact⟨v,by simp[hd k rfl],hv⟩
  ·rw[if_neg e] at hy;obtain⟨v',h1,h2⟩:=h k y hy;exact⟨v',by rw[Lp (fun q=>e q.symm)];exact h1,h2⟩
def dh {R:Type} (τ:T AV) (d:Option Nat) (v:AV) (k:T AV ->R):dZ τ d v k=k (bM τ d v):=by
 cases d with
 |none=>rfl
 |some d=>show τ.setK d v k=_;rw[T.setK_put];rfl
def St.step {GL:T (List AV)} {N s:Nat} {c c':CE} {h h':AH} {w w':World} {τ:T AV} {a:Act} (S:St P CR GL N s c h w τ a) (e:gC CR c h w c' h' w')
 {d:Option Nat} (hd:∀t,d=some t ->t<N) {x:AV} {v:Value} (hv:VR c' x v):St P CR GL N s c' h' w' (bM τ d x) (a.put d v):=
 ⟨e.rs,xD S.gl e.ext,TR.put (S.tr.mono e.ext) (fun t ht=>il (hd t ht) S.sz) hv,
  by cases d<;>simp[Act.put]<;>exact S.sz,by cases d<;>exact S.marks.evo e.keep⟩
end
def LX (N:Nat):Option Nat ->Option Nat ->Bool
 |none,none=>true
 |some a,some b=>Nat.beq a b&&Nat.ble (Nat.succ a) N
 |_,_=>false
def H3 (ops:Array Oper):Option (Nat×Bool) ->Option (Nat×Bool) ->Bool
 |none,none=>true
 |some (j,w),some (t,w')=>(w==w')&&(match ops[j]? with|some o=>(match o.dst with|some d=>Nat.beq d t|none=>false)|none=>false)
 |_,_=>false
def De (X:dy) (N:Nat) (ops:Array Oper) (o:Oper) (g:MG):Bool:=
 Rn X o.op g.op&&(LX N o.dst g.dst&&H3 ops o.guard g.guard)
def V0 (X:dy) (N:Nat) (ops:Array Oper) (l:List MG):List Oper ->Bool:=
 List.rec (motive:=fun _=>List Oper ->Bool) (fun v=>List.isEmpty v) (fun g _ ih v=>match v with|[]=>false|o::r=>De X N ops o g&&ih r) l
def iq {N:Nat} {a b:Option Nat} (h:LX N a b=true):a=b/\∀t,b=some t ->t<N:=by
 unfold LX at h;split at h
 ·exact⟨rfl,fun t ht=>by cases ht⟩
 ·simp only[av,az,aQ,decide_eq_true_eq] at h;obtain⟨rfl,h⟩:=h;exact⟨rfl,fun t ht=>by cases ht;exact h⟩
 ·cases h
def xE {X:dy} {oo:Op} {m:xc} (h:Rn X oo m=true):∀c,oo≠.defer c:=by
 intro c e;subst e;cases m<;>cases h
def Df (P:Program) (CR:Nat ->Code ->ap ->Prop) (k:AV ->AH ->Prop) (c:CE) (h:AH) (w:World) (r:Result Next):Prop:=
 lD P r fun v w'=>∃x h' c',k x h'/\ gC CR c h w c' h' w'/\ VR c' x v
section
variable {P:Program} {CR:Nat ->Code ->ap ->Prop} {X:dy} {C:cQ Prop}
structure CfgOK (C:cQ Prop):Prop where
 fail:C.fail=False
 both:∀p q,C.both p q=(p/\ q)
def LY (hC:CfgOK C) {f:AV ->AH ->Prop}:∀{l:List (AV×AH)},iU C f l ->∀e∈l,f e.1 e.2:=by
 intro l;induction l with
 |nil=>intro _ e he;cases he
 |cons a t ih=>
  intro h e he;cases t with
  |nil=>
   have h':f a.1 a.2:=h;rcases bY.1 he with rfl|he
   ·exact h'
   ·cases he
  |cons b r=>
   have h':C.both (f a.1 a.2) (iU C f (b::r)):=h;rw[hC.both] at h';rcases bY.1 he with rfl|he
   ·exact h'.1
   ·exact ih h'.2 e he
def pH (P:Program) (CR:Nat ->Code ->ap ->Prop) (GL:T (List AV)) (callK:Nat ->List AV ->AH ->(AV ->AH ->Prop) ->Prop):Prop:=
 ∀f args h k,callK f args h k ->∀c w vs,RS CR c h w ->(∀g l,GL.get g=some l ->c.gl g=some l) ->ed c args vs ->Df P CR k c h w ((callFunc f vs.toArray).run P w)
def vL (P:Program) (CR:Nat ->Code ->ap ->Prop) (GL:T (List AV)) (yldK:Nat ->List AV ->AH ->(AV ->AH ->Prop) ->Prop):Prop:=
 ∀l args h k,yldK l args h k ->∀c w vs,RS CR c h w ->(∀g l,GL.get g=some l ->c.gl g=some l) ->c.dom l ->ed c args vs ->Df P CR k c h w ((Instr.yield (c.ρ l).1 vs.toArray).run P w)
def xF {ro:Option Nat} {N s:Nat} {c:CE} {h:AH} {w:World} {τ:T AV} {a:Act} {GL:T (List AV)} (S:St P CR GL N s c h w τ a) {k:AV ->AH ->Prop} {r:Result Next} (H:Df P CR k c h w r)
 {o:Oper} {d:Option Nat} (hd:o.dst=d/\∀t,d=some t ->t<N) {next:Act ->World ->Prop} {Q:Exit ->Act ->World ->Prop}
 (hn:∀x h' c' w' a',k x h' ->gC CR c h w c' h' w' ->St P CR GL N s c' h' w' (bM τ d x) a' ->next a' w'):o.uponIn (fw ro) 0 P a next Q r:=by
 refine lD.upon (lD.mono H fun v w'=> ?_);rintro⟨x,h',c',h1,h2,h3⟩;refine hn x h' c' w' _ h1 h2 ?_;rw[hd.1];exact S.step h2 hd.2 h3
def th (hX:jt P X) (hC:CfgOK C) {callK yldK:Nat ->List AV ->AH ->(AV ->AH ->Prop) ->Prop} (hcall:pH P CR C.glob callK) (hyld:vL P CR C.glob yldK)
 {ro:Option Nat} {N s:Nat} {ops:Array Oper} {Q:Exit ->Act ->World ->Prop} {i:Nat} {o:Oper} {g:MG} (hok:ops[i]? =some o) (hk:De X N ops o g=true)
 {τ:T AV} {h:AH} {c:CE} {w:World} {a:Act} {k:AV ->AH ->Prop} (hr:dg C callK yldK g τ h k) (S:St P CR C.glob N s c h w τ a) {K:Act ->World ->Prop}
 (hn:∀x h' c' w' a',k x h' ->gC CR c h w c' h' w' ->St P CR C.glob N s c' h' w' (bM τ g.dst x) a' ->K a' w'):wpOpIn (fw ro) 0 P ops Q i K a w:=by
 simp only[av,De] at hk;obtain⟨k1,k2,k3⟩:=hk;have hdst:=iq k2;obtain⟨dst,op,guard⟩:=g;dsimp only at*;have hact:(match step (bp C τ) h op with
  | .v x h=>k x h
  | .call f args h=>callK f args h k
  | .yld l args h=>yldK l args h k
  | .alts l=>iU C k l
  | .bad=>C.fail) ->o.wpIn (fw ro) 0 P a w K Q:=by
  intro hact;refine tg (xE k1) ?_;have hx:Cx CR c h w (bp C τ) a.eval:=⟨S.rs,fun m x hm=>xj C S.tr S.gl S.rs.gl hm⟩;have SG:=Rp hX hx (o:=o) (fun f=>rfl) k1;generalize hres:step (bp C τ) h op=res at hact SG;generalize (execOp a.eval o).run P w=out at SG;have hgood:∀x h',cy CR c h w x h' out ->k x h' ->o.uponIn (fw ro) 0 P a K Q out:=by
   intro x h' G hx;obtain⟨c',w',nx,rfl,e,h3⟩:=G;rcases h3 with ⟨v,rfl,h3⟩|⟨rfl,rfl⟩
   ·rw[Oper.uponIn_value,hdst.1];exact hn x h' c' w' _ hx e (S.step e hdst.2 h3)
   ·rw[Oper.uponIn_skip,hdst.1];exact hn .un h' c' w' _ hx e (S.step e hdst.2 (.un _))
  cases res with
  |v x h'=>exact hgood x h' SG hact
  |call f args h'=>
   dsimp only at hact;obtain⟨rfl,vs,h2,rfl⟩:=SG;exact xF S (hcall _ _ _ _ hact c w vs S.rs S.gl h2) hdst hn
  |yld l args h'=>
   dsimp only at hact;obtain⟨rfl,h1,vs,h2,rfl⟩:=SG;exact xF S (hyld _ _ _ _ hact c w vs S.rs S.gl h1 h2) hdst hn
  |alts l=>
   dsimp only at hact;obtain⟨e,he,G⟩:=SG;exact hgood _ _ G (LY hC hact e he)
  |bad=>rw[hC.fail] at hact;exact hact.elim
 have hskip:k (.tu []) h ->K (a.put o.dst undef) w:=by
  intro hs;rw[hdst.1];exact hn (.tu []) h c w _ hs (gC.refl S.rs) (S.step (gC.refl S.rs) hdst.2 (.tu [] [] .nil))
 unfold wpOpIn;simp only[hok];cases guard with
 |none=>
  cases hg:o.guard with
  |some q=>rw[hg] at k3;cases k3
  |none=>
   have hw:Region.wanted o (yielded ops a.tmps)=true:=by simp[Region.wanted,hg]
   simp only[hw,if_true];exact hact hr
 |some q=>
  obtain⟨t,want⟩:=q;cases hg:o.guard with
  |none=>rw[hg] at k3;cases k3
  |some q'=>
   obtain⟨j,want'⟩:=q';rw[hg] at k3;simp only[H3,av,beq_iff_eq] at k3;obtain⟨rfl,k5⟩:=k3;cases hj:ops[j]? with
   |none=>rw[hj] at k5;cases k5
   |some oj=>
    rw[hj] at k5;dsimp only at k5;cases hdj:oj.dst with
    |none=>rw[hdj] at k5;cases k5
    |some d=>
     rw[hdj] at k5;simp only[az,decide_eq_true_eq] at k5;subst k5;have hr':(match τ.get d with
      |some (.b x)=>(Bool.rec (k (.tu []) h) (match step (bp C τ) h op with
       | .v x h=>k x h
       | .call f args h=>callK f args h k
       | .yld l args h=>yldK l args h k
       | .alts l=>iU C k l
       | .bad=>C.fail) (bif x then want' else !want'):Prop)
      |some (.tu [])=>k (.tu []) h
      |_=>C.fail):=hr
     split at hr'
     ·rename_i x hx;obtain⟨v',e1,e2⟩:=S.tr d _ hx;cases e2;have hy:yielded ops a.tmps j=some x:=by simp[yielded,hj,hdj,e1]
      have hw:Region.wanted o (yielded ops a.tmps)=(bif x then want' else !want'):=by
       simp only[Region.wanted,hg,hy];cases x<;>cases want'<;>rfl
      rw[hw];cases hb:(bif x then want' else !want') with
      |true=>rw[hb] at hr';simp only[if_true];exact hact hr'
      |false=>
       rw[hb] at hr';simp only[lu,if_false];exact⟨fun _ _=>trivial,hskip hr'⟩
     ·rename_i hx;obtain⟨v',e1,e2⟩:=S.tr d _ hx;cases e2 with
      |tu _ vs e3=>
       cases e3;have hy:yielded ops a.tmps j=none:=by simp[yielded,hj,hdj,e1]
       have hw:Region.wanted o (yielded ops a.tmps)=false:=by
        simp only[Region.wanted,hg,hy];cases want'<;>rfl
       rw[hw];simp only[lu,if_false];exact⟨fun _ _=>trivial,hskip hr'⟩
     ·rw[hC.fail] at hr';exact hr'.elim
def JI (hX:jt P X) (hC:CfgOK C) {callK yldK:Nat ->List AV ->AH ->(AV ->AH ->Prop) ->Prop} (hcall:pH P CR C.glob callK) (hyld:vL P CR C.glob yldK)
 {ro:Option Nat} {N s:Nat} {ops:Array Oper} {Q:Exit ->Act ->World ->Prop} {K:T AV ->AH ->Prop}:∀(gs:List MG) (l:List Oper) (k:Nat),(∀j o,l[j]? =some o ->ops[k+j]? =some o) ->V0 X N ops gs l=true ->
 ∀(τ:T AV) (h:AH) (c:CE) (w:World) (a:Act),bg C callK yldK K gs τ h ->St P CR C.glob N s c h w τ a ->
  (∀c' h' w' τ' a',K τ' h' ->gC CR c h w c' h' w' ->St P CR C.glob N s c' h' w' τ' a' ->Q .normal a' w') ->wpOpsIn (fw ro) 0 P ops Q (List.range' k l.length) a w:=by
 intro gs;induction gs with
 |nil=>
  intro l k hl hk τ h c w a hr S hQ;cases l with
  |nil=>exact hQ c h w τ a hr (gC.refl S.rs) S
  |cons o r=>cases hk
 |cons g gs ih=>
  intro l k hl hk τ h c w a hr S hQ;cases l with
  |nil=>cases hk
  |cons o r=>
   have hk':(De X N ops o g&&V0 X N ops gs r)=true:=hk;simp only[av] at hk';have hok:ops[k]? =some o:=by simpa using hl 0 o rfl
   replace hr:dg C callK yldK g τ h (fun x h=>dZ τ g.dst x fun τ=>bg C callK yldK K gs τ h):=hr;rw[show(o::r).length=r.length+1 from rfl,HQ,wpOpsIn_cons];refine th hX hC hcall hyld hok hk'.1 hr S fun x h' c' w' a' h1 h2 h3=> ?_
   rw[dh] at h1;refine ih r (k+1) (fun j o' hj=> ?_) hk'.2 _ _ c' w' a' h1 h3 fun c'' h'' w'' τ'' a'' q1 q2 q3=>hQ _ _ _ _ _ q1 (h2.trans q2) q3
   have:=hl (j+1) o' hj;rw[←this];congr 1;omega
end
def bq:xc ->List MA
 | .mv a=>[a]| .pick c a b=>[c,a,b]| .alloc _=>[]| .box a _=>[a]
 | .build _ ps=>ps.map (·.2.2)| .bslice _ _ _ ps=>ps.map (·.2.2)
 | .load a _ _=>[a]| .store a v _=>[a,v]| .nilc a=>[a]| .bin _ x y=>[x,y]| .eqv _ _ x y=>[x,y]| .un _ x=>[x]
 | .cvi _ x=>[x]| .cvs x=>[x]| .s2b x=>[x]| .b2s x=>[x]| .mif _ x=>[x]| .mfn _ fi ca=>fi++ca
 | .mmap r=>r.toList| .mslice _ _ _ l c=>[l,c]
 | .slc _ x lo hi mx=>x::(lo.toList++(hi.toList++mx.toList))| .slcs x lo hi=>x::(lo.toList++hi.toList)
 | .slca _ _ x lo hi mx=>x::(lo.toList++(hi.toList++mx.toList))
 | .fadr x _=>[x]| .fld x _ _ _=>[x]| .iadr _ x i=>[x,i]| .iadra _ _ x i=>[x,i]| .idxs x i=>[x,i]| .idxa _ _ _ x i=>[x,i]
 | .look _ m k _ _=>[m,k]| .mupd _ m k v=>[m,k,v]| .ment _ m k _=>[m,k]| .mest m s v=>[m,s,v]
 | .rng x _=>[x]| .nxt x _=>[x]| .ent x=>[x]| .tas x _ _ _=>[x]| .ext x _=>[x]
 | .call _ l=>l| .callv f l=>f::l| .calli r _ l=>r::l
 | .app s x _ _=>[s,x]| .appz s x _ _ _=>[s,x]| .len _ x=>[x]| .cap x=>[x]| .copy d s _=>[d,s]
 | .min l=>l| .max l=>l| .del _ m k=>[m,k]| .bad _=>[]
 | .tal .. =>[]| .tbx _ a=>[a]| .tst a v _=>[a,v]| .tld a _ _=>[a]| .tap _ s x _ _=>[s,x]| .cvp x=>[x]| .cvu _ x=>[x]| .usd x=>[x]| .ust _ p n=>[p,n]
section
variable {ev ev':MA ->AV}
def jq:∀{l:List MA},(∀m∈l,ev m=ev' m) ->kK ev l=kK ev' l
 |[],_=>rfl
 |a::t,h=>by
  have e1:kK ev (a::t)=(Option.rec none (fun b=>Option.rec none (fun t=>some (b::t)) (kK ev t)) (fV (ev a) some):Option (List AV)):=rfl;have e2:kK ev' (a::t)=(Option.rec none (fun b=>Option.rec none (fun t=>some (b::t)) (kK ev' t)) (fV (ev' a) some):Option (List AV)):=rfl;rw[e1,e2,h a ij,jq fun m hm=>h m (gZ _ hm)]
def pD:∀{ps:List (Nat×Nat×MA)},(∀m∈ps.map (·.2.2),ev m=ev' m) ->gk ev ps=gk ev' ps
 |[],_=>rfl
 |p::t,h=>by
  have ih:=pD (ps:=t) fun m hm=>h m (gZ _ hm)
  have e:=h p.2.2 ij;funext l;have e1:gk ev (p::t) l=(match cellsO (ev p.2.2) with
   |some c=>bif Nat.beq (len c) p.2.1 then (match bD c l p.1 with|some l=>gk ev t l|none=>none) else none
   |none=>none):=rfl
  have e2:gk ev' (p::t) l=(match cellsO (ev' p.2.2) with
   |some c=>bif Nat.beq (len c) p.2.1 then (match bD c l p.1 with|some l=>gk ev' t l|none=>none) else none
   |none=>none):=rfl
  rw[e1,e2,e,ih]
def jz {a:MA} (h:ev a=ev' a):nA ev a=nA ev' a:=by unfold nA;rw[h]
def ke {a:Option MA} (h:∀m∈a.toList,ev m=ev' m):nO ev a=nO ev' a:=by
 cases a with
 |none=>rfl
 |some a=>unfold nO;dsimp only;rw[jz (h a (by simp))]
def jc {h:AH} {op:xc} (H:∀m∈bq op,ev m=ev' m):step ev h op=step ev' h op:=by
 cases op with
 |build z ps=>unfold step;dsimp only;rw[pD H]
 |bslice z n e ps=>unfold step;dsimp only;rw[pD H]
 |mfn f a b=>unfold step;dsimp only;rw[jq fun m hm=>H m (Bd _ hm),jq fun m hm=>H m (Fe _ hm)]
 |mmap r=>cases r with
  |none=>rfl
  |some a=>unfold step;dsimp only;rw[H a (by simp[bq])]
 |mslice z e b l c=>unfold step;dsimp only;rw[jz (H l (by simp[bq])),jz (H c (by simp[bq]))]
 |slc es x lo hi mx=>
  have h1:=H x (by simp[bq]);have h2:=ke (a:=lo) fun m hm=>H m (by simp only[bq,bY,eV];exact .inr (.inl hm))
  have h3:=ke (a:=hi) fun m hm=>H m (by simp only[bq,bY,eV];exact .inr (.inr (.inl hm)))
  have h4:=ke (a:=mx) fun m hm=>H m (by simp only[bq,bY,eV];exact .inr (.inr (.inr hm)))
  unfold step;cases mx with
  |none=>dsimp only;rw[h1,h2,h3,h4]
  |some mz=>dsimp only;rw[h1,h2,h3,h4]
 |slcs x lo hi=>
  unfold step;dsimp only;rw[H x (by simp[bq]),ke (a:=lo) fun m hm=>H m (by simp only[bq,bY,eV];exact .inr (.inl hm)),ke (a:=hi) fun m hm=>H m (by simp only[bq,bY,eV];exact .inr (.inr hm))]
 |slca n es x lo hi mx=>
  unfold step;dsimp only;rw[H x (by simp[bq]),ke (a:=lo) fun m hm=>H m (by simp only[bq,bY,eV];exact .inr (.inl hm)),ke (a:=hi) fun m hm=>H m (by simp only[bq,bY,eV];exact .inr (.inr (.inl hm))),
   ke (a:=mx) fun m hm=>H m (by simp only[bq,bY,eV];exact .inr (.inr (.inr hm)))]
 |call f l=>unfold step;dsimp only;rw[jq (l:=l) H]
 |callv f l=>unfold step;dsimp only;rw[jq fun m hm=>H m (gZ _ hm),H f ij]
 |calli r t l=>unfold step;dsimp only;rw[jq fun m hm=>H m (gZ _ hm),H r ij]
 |min l=>unfold step;dsimp only;rw[jq (l:=l) H]
 |max l=>unfold step;dsimp only;rw[jq (l:=l) H]
 |alloc z=>rfl
 |bad w=>rfl
 |tal T z=>rfl
 |tbx T a=>unfold step;dsimp only;rw[H a (by simp[bq])]
 |tst a v n=>unfold step;dsimp only;rw[H a (by simp[bq]),H v (by simp[bq])]
 |tld a n g=>unfold step;dsimp only;rw[H a (by simp[bq])]
 |tap T s x e b=>unfold step;dsimp only;rw[H s (by simp[bq]),H x (by simp[bq])]
 |cvp x=>unfold step;dsimp only;rw[H x (by simp[bq])]
 |cvu t x=>unfold step;dsimp only;rw[H x (by simp[bq])]
 |usd x=>unfold step;dsimp only;rw[H x (by simp[bq])]
 |ust T p n=>unfold step;dsimp only;rw[H p (by simp[bq]),H n (by simp[bq])]
 |pick c a b=>unfold step;dsimp only;rw[H c (by simp[bq]),H a (by simp[bq]),H b (by simp[bq])]
 |store a v n=>unfold step;dsimp only;rw[H a (by simp[bq]),H v (by simp[bq])]
 |bin o x y=>unfold step;dsimp only;rw[H x (by simp[bq]),H y (by simp[bq])]
 |eqv o e x y=>unfold step;dsimp only;rw[H x (by simp[bq]),H y (by simp[bq])]
 |iadr e x y=>unfold step;dsimp only;rw[H x (by simp[bq]),jz (H y (by simp[bq]))]
 |iadra n e x y=>unfold step;dsimp only;rw[H x (by simp[bq]),jz (H y (by simp[bq]))]
 |idxs x y=>unfold step;dsimp only;rw[H x (by simp[bq]),jz (H y (by simp[bq]))]
 |idxa n e g x y=>unfold step;dsimp only;rw[H x (by simp[bq]),jz (H y (by simp[bq]))]
 |look e m k z ok=>unfold step;dsimp only;rw[H m (by simp[bq]),H k (by simp[bq])]
 |mupd e m k v=>unfold step;dsimp only;rw[H m (by simp[bq]),H k (by simp[bq]),H v (by simp[bq])]
 |ment e m k z=>unfold step;dsimp only;rw[H m (by simp[bq]),H k (by simp[bq])]
 |mest m s v=>unfold step;dsimp only;rw[H m (by simp[bq]),jz (H s (by simp[bq])),H v (by simp[bq])]
 |app s x e b=>unfold step;dsimp only;rw[H s (by simp[bq]),H x (by simp[bq])]
 |appz s x e b z=>unfold step;dsimp only;rw[H s (by simp[bq]),jz (H x (by simp[bq]))]
 |copy d s e=>unfold step;dsimp only;rw[H d (by simp[bq]),H s (by simp[bq])]
 |del e m k=>unfold step;dsimp only;rw[H m (by simp[bq]),H k (by simp[bq])]
 |len k x=>cases k<;>(unfold step;dsimp only;try rw[H x (by simp[bq])])
 |mv a=>unfold step;dsimp only;rw[H a (by simp[bq])]
 |box a n=>unfold step;dsimp only;rw[H a (by simp[bq])]
 |load a n g=>unfold step;dsimp only;rw[H a (by simp[bq])]
 |nilc a=>unfold step;dsimp only;rw[H a (by simp[bq])]
 |un o x=>unfold step;dsimp only;rw[H x (by simp[bq])]
 |cvi k x=>unfold step;dsimp only;rw[H x (by simp[bq])]
 |cvs x=>unfold step;dsimp only;rw[H x (by simp[bq])]
 |s2b x=>unfold step;dsimp only;rw[H x (by simp[bq])]
 |b2s x=>unfold step;dsimp only;rw[H x (by simp[bq])]
 |mif t x=>unfold step;dsimp only;rw[H x (by simp[bq])]
 |fadr x o=>unfold step;dsimp only;rw[H x (by simp[bq])]
 |fld x o n g=>unfold step;dsimp only;rw[H x (by simp[bq])]
 |rng x s=>unfold step;dsimp only;rw[H x (by simp[bq])]
 |nxt x s=>unfold step;dsimp only;rw[H x (by simp[bq])]
 |ent x=>unfold step;dsimp only;rw[H x (by simp[bq])]
 |tas x t ok z=>unfold step;dsimp only;rw[H x (by simp[bq])]
 |ext x i=>unfold step;dsimp only;rw[H x (by simp[bq])]
 |cap x=>unfold step;dsimp only;rw[H x (by simp[bq])]
end
def qq:xc ->Bool
 | .mv _| .pick .. | .build .. | .load .. | .nilc _| .bin .. | .eqv .. | .un .. | .cvi .. | .cvs _| .b2s _| .mif .. | .mfn .. | .slc .. | .slcs .. | .slca .. | .fadr .. | .fld ..
 | .iadr .. | .iadra .. | .idxs .. | .idxa .. | .look .. | .ent _| .tas .. | .ext .. | .len .. | .cap _| .min _| .max _| .tld .. | .cvp _| .cvu .. | .usd _=>true
 |_=>false
def BB {c:Bool} {r s:bj} {x:AV} {h':AH} (e:(bif c then r else s)= .v x h'):r= .v x h'∨s= .v x h':=by
 cases c
 ·exact .inr e
 ·exact .inl e
def BC {c:Bool} {r s:bj} {x:AV} {h':AH} (e:(Bool.rec r s c:bj)= .v x h'):r= .v x h'∨s= .v x h':=by
 cases c
 ·exact .inl e
 ·exact .inr e
def FK {ev:MA ->AV} {h h':AH} {op:xc} {x:AV} (hl:qq op=true) (e:step ev h op= .v x h'):h'=h:=by
 cases op<;>first|(cases hl;done)|skip
 case pick=>
  unfold step at e;dsimp only at e;simp only[iW] at e;split at e
  ·rcases BC e with e|e<;>(cases e;rfl)
  ·cases e
 case look=>
  unfold step at e;dsimp only at e;rcases BB e with e|e
  ·cases e
  ·split at e
   ·rcases BC e with e|e<;>(cases e;rfl)
   ·rcases BC e with e|e<;>(cases e;rfl)
   ·cases e
 case tas=>
  unfold step at e;dsimp only at e;split at e
  ·rcases BB e with e|e
   ·rcases BC e with e|e<;>(cases e;rfl)
   ·rcases BB e with e|e<;>(cases e;try rfl)
  ·rcases BB e with e|e<;>(cases e;try rfl)
  ·cases e
 case nilc=>unfold step at e;dsimp only at e;split at e<;>(cases e;try rfl)
 all_goals
  unfold step at e;dsimp only at e;try simp only[iW,bR,ig,dD] at e
 all_goals (try unfold Fv at e)
 all_goals (try simp only[dD] at e)
 all_goals (repeat' (first|(cases e;rfl)|(cases e;done)|split at e))
def jh {f:AV ->AV ->Bool} (hf:∀x y,f x y=true ->x=y):∀{l m:List AV},cU.avEqs f l m=true ->l=m
 |[],[],_=>rfl
 |[],_::_,h=>by cases h
 |a::t,[],h=>by cases h
 |a::t,b::r,h=>by
  have h':(f a b&&cU.avEqs f t r)=true:=h;simp only[av] at h';rw[hf a b h'.1,jh hf h'.2]
def ju:∀(n:Nat) (x y:AV),cU n x y=true ->x=y:=by
 intro n;induction n with
 |zero=>
  intro x y h;cases x<;>cases y<;>first|rfl|(simp[cU] at h;done)|skip
  case b.b p q=>cases p<;>cases q<;>first|rfl|cases h
  case i.i k n k' n'=>
   simp only[cU,av,bF] at h;have h1:=xn h.1;subst h1;rw[of_decide_eq_true h.2]
  case s.s=>simp only[cU,gF,decide_eq_true_eq] at h;rw[h]
  case p.p=>simp only[cU,av,az,decide_eq_true_eq] at h;rw[h.1,h.2]
  case sl.sl o a n cap e o' a' n' cap' e'=>
   cases cap<;>cases cap'<;>simp only[cU,av,az,decide_eq_true_eq] at h
   ·obtain⟨rfl,rfl,rfl,rfl⟩:=h;rfl
   ·cases h
   ·cases h
   ·obtain⟨rfl,rfl,rfl,rfl,rfl⟩:=h;rfl
  case m.m=>simp only[cU,az,decide_eq_true_eq] at h;rw[h]
  case y.y=>simp only[cU,az,decide_eq_true_eq] at h;rw[h]
 |succ n ih=>
  intro x y h;cases x<;>cases y<;>first|rfl|(simp[cU] at h;done)|skip
  case b.b p q=>cases p<;>cases q<;>first|rfl|cases h
  case i.i k n k' n'=>
   simp only[cU,av,bF] at h;have h1:=xn h.1;subst h1;rw[of_decide_eq_true h.2]
  case s.s=>simp only[cU,gF,decide_eq_true_eq] at h;rw[h]
  case p.p=>simp only[cU,av,az,decide_eq_true_eq] at h;rw[h.1,h.2]
  case sl.sl o a n cap e o' a' n' cap' e'=>
   cases cap<;>cases cap'<;>simp only[cU,av,az,decide_eq_true_eq] at h
   ·obtain⟨rfl,rfl,rfl,rfl⟩:=h;rfl
   ·cases h
   ·cases h
   ·obtain⟨rfl,rfl,rfl,rfl,rfl⟩:=h;rfl
  case m.m=>simp only[cU,az,decide_eq_true_eq] at h;rw[h]
  case y.y=>simp only[cU,az,decide_eq_true_eq] at h;rw[h]
  case dp.dp=>simp only[cU,av,az,decide_eq_true_eq] at h;rw[h.1,jh ih h.2]
  case ds.ds=>simp only[cU,av,az,decide_eq_true_eq] at h;rw[h.1,h.2.1,h.2.2.1,jh ih h.2.2.2]
  case f.f=>simp only[cU,av,az,decide_eq_true_eq] at h;rw[h.1,jh ih h.2.1,jh ih h.2.2]
  case ifc.ifc=>simp only[cU,av,az,decide_eq_true_eq] at h;rw[h.1,ih _ _ h.2]
  case ag.ag=>simp only[cU] at h;rw[jh ih h]
  case tu.tu=>simp only[cU] at h;rw[jh ih h]
def pc (g:MG):List Nat:=(bq g.op).filterMap (fun m=>match m with| .t n=>some n|_=>none)++(match g.guard with|some q=>[q.1]|none=>[])
section
variable {R:Type} (C:cQ R)
def jS {τ τ':T AV} {g:MG} (h:∀t∈pc g,τ.get t=τ'.get t):∀m∈bq g.op,bp C τ m=bp C τ' m:=by
 intro m hm;cases m with
 |t n=>
  have:τ.get n=τ'.get n:=h n (Bd _ (List.mem_filterMap.2 ⟨.t n,hm,rfl⟩));show(Option.rec .un (fun v=>v) (τ.get n):AV)=Option.rec .un (fun v=>v) (τ'.get n);rw[this]
 |c v=>rfl
 |g n=>rfl
def vM {callK yldK:Nat ->List AV ->AH ->(AV ->AH ->R) ->R} {τ τ':T AV} {g:MG} (h:∀t∈pc g,τ.get t=τ'.get t) (H:AH) (k:AV ->AH ->R):dg C callK yldK g τ H k=dg C callK yldK g τ' H k:=by
 have e:=jc (h:=H) (jS C h);obtain⟨dst,op,guard⟩:=g;unfold dg;dsimp only at e ⊢;rw[e];cases guard with
 |none=>rfl
 |some q=>
  obtain⟨t,w⟩:=q;have:τ.get t=τ'.get t:=h t (Fe _ (by simp));dsimp only;rw[this]
def oB {τ τ':T AV} {g:MG} (h:∀t∈pc g,τ.get t=τ'.get t) (H:AH):bB C τ H g=bB C τ' H g:=by
 have e:=jc (h:=H) (jS C h);obtain⟨dst,op,guard⟩:=g;unfold bB;dsimp only at e ⊢;rw[e];cases guard with
 |none=>rfl
 |some q=>
  obtain⟨t,w⟩:=q;have:τ.get t=τ'.get t:=h t (Fe _ (by simp));dsimp only;rw[this]
def aH8 {callK yldK:Nat ->List AV ->AH ->(AV ->AH ->R) ->R} {τ:T AV} {g:MG} (hl:qq g.op=true) {H:AH} {x:AV} (e:bB C τ H g=some x) (k:AV ->AH ->R):dg C callK yldK g τ H k=k x H:=by
 obtain⟨dst,op,guard⟩:=g;have hact:∀y,(match step (bp C τ) H op with| .v x _=>some x|_=>none)=some y ->(match step (bp C τ) H op with
  | .v x h=>k x h
  | .call f args h=>callK f args h k
  | .yld l args h=>yldK l args h k
  | .alts l=>iU C k l
  | .bad=>C.fail)=k y H:=by
  intro y hy;cases hs:step (bp C τ) H op with
  |v x h'=>rw[hs] at hy;cases hy;rw[FK hl hs]
  |_=>rw[hs] at hy;cases hy
 unfold bB at e;unfold dg;dsimp only at e ⊢;cases guard with
 |none=>exact hact x e
 |some q=>
  obtain⟨t,w⟩:=q;dsimp only at e ⊢;cases ht:τ.get t with
  |none=>rw[ht] at e;cases e
  |some v=>
   rw[ht] at e;cases v with
   |b y=>
    dsimp only at e ⊢;cases hb:(bif y then w else !w) with
    |true=>rw[hb] at e;exact hact x e
    |false=>rw[hb] at e;cases e;rfl
   |tu l=>
    cases l with
    |nil=>cases e;rfl
    |cons a r=>cases e
   |_=>cases e
end
def tj:xc ->Bool
 | .alloc _| .box .. | .bslice .. | .mmap _| .mslice .. | .tal .. | .tbx .. =>true
 |_=>false
section
variable {P:Program} {CR:Nat ->Code ->ap ->Prop}
variable {c:CE} {h:AH} {w:World} {ev:MA ->AV} {ρ:Operand ->Value} {o:Oper} {C:dy}
def V3 (CR:Nat ->Code ->ap ->Prop) (c:CE) (w:World) (ev:MA ->AV) (m:xc) (r:Result Next):Prop:=
 (∃obj val,(∀H,step ev H m=H.new (obj H.ver) fun o h=> .v (val o) h)/\ (∀v,live (obj v)=true)/\ je CR c w obj val r)∨∀H,step ev H m= .bad
def LZ (hC:jt P C) (X:Cx CR c h w ev ρ) {m:xc} (ha:tj m=true) (hk:Rn C o.op m=true):V3 CR c w ev m ((execOp ρ o).run P w):=by
 generalize ho:o.op=oo at hk;cases m with
 |alloc z=>
  replace hk:(match (generalizing:=false) oo with| .alloc t=>(match (generalizing:=false) C.ty.get t with|some i=>eE z i.zs|none=>false)|_=>false)=true:=hk;split at hk
  ·rename_i t;cases ht:C.ty.get t with
   |none=>rw[ht] at hk;cases hk
   |some i=>
    rw[ht] at hk;exact .inl ⟨fun ver=> .cells ver z,fun o=> .p o 0,fun H=>rfl,fun _=>rfl,CZ (hC.ty t i ht) ho (dE hk)⟩
  ·cases hk
 |tal T z=>
  replace hk:(match (generalizing:=false) oo with| .alloc t=>(match (generalizing:=false) C.ty.get t with|some i=>Nat.beq T t&&eE z i.zs|none=>false)|_=>false)=true:=hk;split at hk
  ·rename_i t;cases ht:C.ty.get t with
   |none=>rw[ht] at hk;cases hk
   |some i=>
    rw[ht] at hk;simp only[av,az,decide_eq_true_eq] at hk;obtain⟨rfl,hk⟩:=hk;exact .inl ⟨fun _=> .tc T true z,fun o=> .p o 0,fun H=>rfl,fun _=>rfl,LS (hC.ty T i ht) ho (dE hk)⟩
  ·cases hk
 |tbx T a=>
  replace hk:(match (generalizing:=false) oo with| .box t x=>Nat.beq T t&&aW a x|_=>false)=true:=hk;split at hk
  ·simp only[av,az,decide_eq_true_eq] at hk;obtain⟨rfl,hk⟩:=hk;cases hc:cellsO (ev a) with
   |none=>right;intro H;unfold step;dsimp only;rw[hc]
   |some l=>exact .inl ⟨fun _=> .tc T true l,fun o=> .p o 0,fun H=>by unfold step;dsimp only;rw[hc],fun _=>rfl,LT X ho hk hc⟩
  ·cases hk
 |box a n=>
  replace hk:(match (generalizing:=false) oo with| .box _ x=>aW a x|_=>false)=true:=hk;split at hk
  ·cases hc:cellsO (ev a) with
   |none=>right;intro H;unfold step;dsimp only;rw[hc]
   |some l=>exact .inl ⟨fun ver=> .cells ver l,fun o=> .p o 0,fun H=>by unfold step;dsimp only;rw[hc],fun _=>rfl,LH X ho hk hc⟩
  ·cases hk
 |bslice z n esz ps=>
  replace hk:(match (generalizing:=false) oo with
   | .buildSlice t len parts=>match (generalizing:=false) eA C t with
    |some i=>Nat.beq n len&&eE z (List.replicate n i.zs).flatten&&Nat.beq esz i.size&&Nat.beq i.zs.length i.size&&Nat.ble (n*esz) 16777216&&iC (fun k=>some (k*i.size,i.size)) ps parts.toList
    |none=>false
   |_=>false)=true:=hk
  split at hk
  ·rename_i t len parts;cases ht:eA C t with
   |none=>rw[ht] at hk;cases hk
   |some i=>
    rw[ht] at hk;simp only[av,az,aQ,decide_eq_true_eq] at hk;obtain⟨⟨⟨⟨⟨h1,h2⟩,h3⟩,h4⟩,h5⟩,h6⟩:=hk;subst h1;obtain⟨e,e1,e2,e3⟩:=fy hC ht;cases hf:gk ev ps z with
    |none=>right;intro H;unfold step;dsimp only;rw[hf]
    |some l=>exact .inl ⟨fun ver=> .cells ver l,fun o=> .sl o 0 n (some n) esz,fun H=>by unfold step;dsimp only;rw[hf],fun _=>rfl,zN hC.ty X e1 e2 (dE h2) h3 h4 h5 ho h6 hf⟩
  ·cases hk
 |mmap r=>
  replace hk:(match (generalizing:=false) oo with| .makeMap t x=>qQ r x&&(r.isNone||(iN C t).isSome)|_=>false)=true:=hk;split at hk
  ·rename_i t x;simp only[av,g9] at hk;have ht:r=none∨∃a b,P.underlying t=some (.map a b):=by
    rcases hk.2 with h1|h1
    ·cases r with
     |none=>exact .inl rfl
     |some _=>cases h1
    ·cases hm:iN C t with
     |none=>rw[hm] at h1;cases h1
     |some q=>obtain⟨e,kd,e1,_⟩:=jg hC (k:=q.1) (j:=q.2) hm;exact .inr ⟨_,_,e1⟩
   cases r with
   |none=>exact .inl ⟨fun ver=> .map ver [] 0,fun o=> .m o,fun H=>rfl,fun _=>rfl,wp X hk.1 ht ho rfl⟩
   |some a=>
    by_cases hq:JB ev (some a)=true
    ·refine .inl ⟨fun ver=> .map ver [] 0,fun o=> .m o,fun H=> ?_,fun _=>rfl,wp X hk.1 ht ho hq⟩;unfold step;dsimp only;cases he:ev a<;>first|rfl|(simp[JB,he] at hq;done)
    ·right;intro H;unfold step;dsimp only;cases he:ev a<;>first|rfl|(simp[JB,he] at hq;done)
  ·cases hk
 |mslice z esz bs a b=>
  replace hk:(match (generalizing:=false) oo with
   | .makeSlice t x y=>(match (generalizing:=false) eA C t with|some i=>eE z i.zs&&Nat.beq esz i.size&&Nat.beq z.length esz&&Nat.ble i.bytes 1048576|none=>false)&&aW a x&&aW b y
   |_=>false)=true:=hk
  split at hk
  ·rename_i t x y;simp only[av] at hk;obtain⟨⟨h1,h2⟩,h3⟩:=hk;cases ht:eA C t with
   |none=>rw[ht] at h1;cases h1
   |some i=>
    rw[ht] at h1;simp only[av,az,aQ,decide_eq_true_eq] at h1;obtain⟨e,e1,e2,e3⟩:=fy hC ht;cases hl:nA ev a with
    |none=>right;intro H;unfold step;dsimp only;rw[hl]
    |some l=>
     cases hk':nA ev b with
     |none=>right;intro H;unfold step;dsimp only;rw[hl,hk']
     |some k=>
      by_cases hc:(Nat.ble l k&&Nat.ble k 1048576)=true
      ·have hc':l<=k/\ k<=1048576:=by simpa[aQ] using hc
       exact .inl ⟨fun ver=> .cells ver (List.replicate k z).flatten,fun o=> .sl o 0 l (some k) esz,
        fun H=>by unfold step;dsimp only;rw[hl,hk'];dsimp only;rw[hc,sX];simp only[cond_true,bR],fun _=>rfl,zI e3 X e1 ho h2 h3 (dE h1.1.1.1) h1.1.1.2 h1.1.2 h1.2 hl hk' hc'⟩
      ·right;intro H;unfold step;dsimp only;rw[hl,hk'];dsimp only;rw[HU] at hc;rw[hc];rfl
  ·cases hk
 |_=>cases ha
end
def eU (m i:Nat):Bool:=Nat.testBit m i
def jD (m i:Nat):Nat:=Nat.lor m (Nat.pow 2 i)
def fT (m i j:Nat):eU (jD m i) j=(eU m j||decide (i=j)):=by
 show Nat.testBit (m|||2^i) j=_;rw[E9,Nat.testBit_two_pow];rfl
def vN (A:List Nat) (es:List Edge):Nat:=
 List.rec (motive:=fun _=>Nat) 0 (fun e _ ih=>bif Region.binds .any e then Nat.lor (jD (A.getD e.on 0) e.on) ih else ih) es
def Ty (i v:Nat) (l:List Nat):List Nat:=List.rec (motive:=fun _=>Nat ->List Nat) (fun _=>[]) (fun a r ih k=>bif Nat.beq k 0 then v::r else a::ih (Nat.pred k)) l i
def V4 (l:List Oper) (A:List Nat):List Nat:=List.rec (motive:=fun _=>Nat ->List Nat ->List Nat) (fun _ A=>A) (fun o _ ih i A=>ih (Nat.succ i) (Ty i (vN A o.after.toList) A)) l 0 A
def zrs (l:List Oper):List Nat:=List.rec (motive:=fun _=>List Nat) [] (fun _ _ ih=>0::ih) l
def Ma (l:List Oper):List Nat:=V4 l (V4 l (V4 l (zrs l)))
def aq6 (R:List Nat) (es:List Edge):Nat:=
 List.rec (motive:=fun _=>Nat) 0 (fun e _ ih=>bif Region.binds .any e then Nat.succ (Nat.add (R.getD e.on 0) ih) else ih) es
def rkP (l:List Oper) (R:List Nat):List Nat:=List.rec (motive:=fun _=>Nat ->List Nat ->List Nat) (fun _ R=>R) (fun o _ ih i R=>ih (Nat.succ i) (Ty i (aq6 R o.after.toList) R)) l 0 R
def rks (l:List Oper):List Nat:=rkP l (rkP l (rkP l (zrs l)))
def uD {A:List Nat} {j:Nat}:∀{es:List Edge},eU (vN A es) j=true ->∃e∈es,Region.binds .any e=true/\ (e.on=j∨eU (A.getD e.on 0) j=true)
 |[],h=>by
  have:Nat.testBit 0 j=true:=h;simp at this
 |e::es,h=>by
  have h':eU (bif Region.binds .any e then Nat.lor (jD (A.getD e.on 0) e.on) (vN A es) else vN A es) j=true:=h;cases hb:Region.binds .any e with
  |false=>
   rw[hb] at h';obtain⟨e',h1,h2⟩:=uD h';exact⟨e',gZ _ h1,h2⟩
  |true=>
   rw[hb] at h';replace h':Nat.testBit (jD (A.getD e.on 0) e.on|||vN A es) j=true:=h';rw[E9,g9] at h';rcases h' with h'|h'
   ·replace h':eU (jD (A.getD e.on 0) e.on) j=true:=h';rw[fT,g9,decide_eq_true_eq] at h';exact⟨e,ij,hb,h'.symm⟩
   ·obtain⟨e',h1,h2⟩:=uD h';exact⟨e',gZ _ h1,h2⟩
def V5 (m k:Nat):Bool:=Nat.beq (Nat.land m k) m
def JJ {m k:Nat} (h:V5 m k=true):∀i,eU m i=true ->eU k i=true:=by
 intro i hi;have h':m&&&k=m:=by
  have:decide (Nat.land m k=m)=true:=by rw[←az];exact h
  exact of_decide_eq_true this
 have hi':Nat.testBit m i=true:=hi;rw[←h',Be,av] at hi';exact hi'.2
def Rq (n:Nat) (R:List Nat) (r:Nat) (es:List Edge):Bool:=
 List.rec (motive:=fun _=>Bool) true (fun e _ ih=>(bif Region.binds .any e then Nat.ble (Nat.succ (R.getD e.on 0)) r&&Nat.ble (Nat.succ e.on) n else true)&&ih) es
def zO {n r:Nat} {R:List Nat}:∀{es:List Edge},Rq n R r es=true ->∀e∈es,Region.binds .any e=true ->R.getD e.on 0<r/\ e.on<n
 |[],_,e,he=>by cases he
 |x::xs,h,e,he=>by
  have h':((bif Region.binds .any x then Nat.ble (Nat.succ (R.getD x.on 0)) r&&Nat.ble (Nat.succ x.on) n else true)&&Rq n R r xs)=true:=h;rw[av] at h';intro hb;rcases bY.1 he with rfl|he
  ·have h1:=h'.1;rw[hb,cond_true] at h1;simp only[av,aQ,decide_eq_true_eq] at h1;exact h1
  ·exact zO h'.2 e he hb
def ww (n:Nat) (A R:List Nat) (ops:List Oper) (i:Nat):Bool:=
 List.rec (motive:=fun _=>Nat ->Bool) (fun _=>true) (fun o _ ih i=>Rq n R (R.getD i 0) o.after.toList&&(V5 (A.getD i 0) (vN A o.after.toList)&&ih (Nat.succ i))) ops i
def aI0 {m:Nat} {A R:List Nat}:∀{l:List Oper} {n:Nat},ww m A R l n=true ->∀(k:Nat) (o:Oper),l[k]? =some o ->
 (∀e∈o.after,Region.binds .any e=true ->R.getD e.on 0<R.getD (n+k) 0/\ e.on<m)/\ (∀j,eU (A.getD (n+k) 0) j=true ->eU (vN A o.after.toList) j=true)
 |[],n,_,k,o,h=>by simp at h
 |a::r,n,h,k,o,hk=>by
  have h':(Rq m R (R.getD n 0) a.after.toList&&(V5 (A.getD n 0) (vN A a.after.toList)&&ww m A R r (Nat.succ n)))=true:=h;rw[av,av] at h';cases k with
  |zero=>
   simp at hk;subst hk;refine⟨fun e he=> ?_,JJ h'.2.1⟩;exact zO h'.1 e (by simpa using he)
  |succ k=>
   have:=aI0 h'.2.2 k o (by simpa using hk)
   rwa [show n+(k+1)=Nat.succ n+k by omega]
def V6 (t:Nat) (m:Nat) (ops:List Oper) (j:Nat):Bool:=
 List.rec (motive:=fun _=>Nat ->Bool) (fun _=>true) (fun o _ ih j=>(match o.dst with|some d=>bif Nat.beq d t then eU m j else true|none=>true)&&ih (Nat.succ j)) ops j
def zP {t m:Nat}:∀{l:List Oper} {n:Nat},V6 t m l n=true ->∀(k:Nat) (o:Oper),l[k]? =some o ->o.dst=some t ->eU m (n+k)=true
 |[],n,_,k,o,h,_=>by simp at h
 |a::r,n,h,k,o,hk,hd=>by
  have h':((match a.dst with|some d=>bif Nat.beq d t then eU m n else true|none=>true)&&V6 t m r (Nat.succ n))=true:=h;rw[av] at h';cases k with
  |zero=>
   simp at hk;subst hk;have h1:=h'.1;rw[hd] at h1;have hb:Nat.beq t t=true:=by rw[az];simp
   simp only[hb,cond_true] at h1;exact h1
  |succ k=>
   have:=zP h'.2 k o (by simpa using hk) hd
   rwa [show n+(k+1)=Nat.succ n+k by omega]
def Rs (f:Nat ->Bool) (l:List Nat):Bool:=List.rec (motive:=fun _=>Bool) true (fun a _ ih=>f a&&ih) l
def uE {f:Nat ->Bool}:∀{l:List Nat},Rs f l=true ->∀a∈l,f a=true
 |[],_,a,ha=>by cases ha
 |b::t,h,a,ha=>by
  have h':(f b&&Rs f t)=true:=h;rw[av] at h';rcases bY.1 ha with rfl|ha
  ·exact h'.1
  ·exact uE h'.2 a ha
def H4 (t:Nat) (l:List Oper):Bool:=List.rec (motive:=fun _=>Bool) true (fun o _ ih=>(match o.dst with|some d=> !(Nat.beq d t)|none=>true)&&ih) l
def uniq (l:List Oper):Bool:=List.rec (motive:=fun _=>Bool) true (fun o r ih=>(match o.dst with|some d=>H4 d r|none=>true)&&ih) l
def rZ {t:Nat}:∀{l:List Oper},H4 t l=true ->∀(k:Nat) (o:Oper),l[k]? =some o ->o.dst≠some t
 |[],_,k,o,h=>by simp at h
 |a::r,h,k,o,hk=>by
  have h':((match a.dst with|some d=> !(Nat.beq d t)|none=>true)&&H4 t r)=true:=h;rw[av] at h';cases k with
  |zero=>
   simp at hk;subst hk;intro hd;have h1:=h'.1;rw[hd] at h1;have hb:Nat.beq t t=true:=by rw[az];simp
   simp[hb] at h1
  |succ k=>exact rZ h'.2 k o (by simpa using hk)
def zQ:∀{l:List Oper},uniq l=true ->∀(i j:Nat) (a b:Oper) (t:Nat),l[i]? =some a ->l[j]? =some b ->a.dst=some t ->b.dst=some t ->i=j
 |[],_,i,j,a,b,t,h,_,_,_=>by simp at h
 |x::r,h,i,j,a,b,t,hi,hj,ha,hb=>by
  have h':((match x.dst with|some d=>H4 d r|none=>true)&&uniq r)=true:=h;rw[av] at h';cases i with
  |zero=>
   cases j with
   |zero=>rfl
   |succ j=>
    simp at hi hj;subst hi;have h1:=h'.1;rw[ha] at h1;exact absurd hb (rZ h1 j b hj)
  |succ i=>
   cases j with
   |zero=>
    simp at hi hj;subst hj;have h1:=h'.1;rw[hb] at h1;exact absurd ha (rZ h1 i a hi)
   |succ j=>
    simp at hi hj;rw[zQ h'.2 i j a b t hi hj ha hb]
section
variable (X:dy) (N:Nat) (ops:Array Oper) (A:List Nat) (n:Nat)
def Mb (A:List Nat) (HV i:Nat) (t:Nat) (m:Nat) (ops:List Oper) (j:Nat):Bool:=
 List.rec (motive:=fun _=>Nat ->Bool) (fun _=>true) (fun o _ ih j=>(match o.dst with|some d=>bif Nat.beq d t then eU m j||(eU HV j&&(Nat.beq i j||eU (A.getD j 0) i)) else true|none=>true)&&ih (Nat.succ j)) ops j
def xG {A:List Nat} {HV i t m:Nat}:∀{l:List Oper} {n:Nat},Mb A HV i t m l n=true ->∀(k:Nat) (o:Oper),l[k]? =some o ->o.dst=some t ->eU m (n+k)=true∨(eU HV (n+k)=true/\ (i=n+k∨eU (A.getD (n+k) 0) i=true))
 |[],n,_,k,o,h,_=>by simp at h
 |a::r,n,h,k,o,hk,hd=>by
  have h':((match a.dst with|some d=>bif Nat.beq d t then eU m n||(eU HV n&&(Nat.beq i n||eU (A.getD n 0) i)) else true|none=>true)&&Mb A HV i t m r (Nat.succ n))=true:=h;rw[av] at h';cases k with
  |zero=>
   simp at hk;subst hk;have h1:=h'.1;rw[hd] at h1;have hb:Nat.beq t t=true:=by rw[az];simp
   simp only[hb,cond_true,g9,av,az,decide_eq_true_eq] at h1;exact h1
  |succ k=>
   have:=xG h'.2 k o (by simpa using hk) hd
   rwa [show n+(k+1)=Nat.succ n+k by omega]
def YJ (done i:Nat) (g:MG):Bool:=match ops[i]? with
 |some o=>De X N ops o g&&(!(eU done i)&&Rs (fun t=>V6 t (Nat.land (A.getD i 0) done) ops.toList 0) (pc g))
 |none=>false
def Tz (HV done i:Nat) (g:MG):Bool:=match ops[i]? with
 |some o=>De X N ops o g&&(!(eU done i)&&Rs (fun t=>Mb A HV i t (Nat.land (A.getD i 0) done) ops.toList 0) (pc g))
 |none=>false
def oC (last:Option Nat) (i:Nat):Bool:=match last with|some l=>eU (A.getD i 0) l|none=>true
def FL (m k:Nat):Bool:=Nat.beq (Nat.land m k) m
def Md (i:Nat) (l:List (Nat×Nat)):Bool:=List.rec (motive:=fun _=>Bool) false (fun e _ ih=>Nat.beq e.1 i||ih) l
def Me (k:Nat) (l:List (Nat×Nat)):Bool:=List.rec (motive:=fun _=>Bool) true (fun e _ ih=> !(Nat.beq e.2 k)&&ih) l
def YK (m:Nat) (l:List (Nat×Nat)):Bool:=List.rec (motive:=fun _=>Bool) true (fun e _ ih=>eU m e.1&&ih) l
def hvM (l:List DI):Nat:=List.rec (motive:=fun _=>Nat) 0 (fun d _ ih=>match d with| .heavy i _ _=>jD ih i|_=>ih) l
variable (HV:Nat)
def kS (l:List DI):Bool ->Nat ->Option Nat ->Nat ->List (Nat×Nat) ->Bool:=
 List.rec (motive:=fun _=>Bool ->Nat ->Option Nat ->Nat ->List (Nat×Nat) ->Bool)
  (fun _ done _ laid rsv=>Nat.beq (Nat.succ done) (Nat.pow 2 ops.size)&&YK laid rsv)
  (fun d _ ih fl done last laid rsv=>match d with
   | .light i g=> !fl&&(Tz X N ops A HV done i g&&(!(eU HV i)&&qq g.op&&(oC A last i&&ih false (jD done i) last laid rsv)))
   | .resv i k g=> !fl&&(YJ X N ops A done i g&&(!(eU HV i)&&tj g.op&&(g.guard.isNone&&(oC A last i&&(Nat.ble (Nat.succ k) n&&(Me k rsv&&ih false (jD done i) last laid ((i,k)::rsv)))))))
   | .lay i=>Md i rsv&&(!(eU laid i)&&ih true done last (jD laid i) rsv)
   | .heavy i g mask=>Tz X N ops A HV done i g&&(oC A last i&&(FL mask (A.getD i 0)&&(FL laid (A.getD i 0)&&ih false (jD done i) (some i) laid rsv)))) l
end
def FM (X:dy) (N:Nat) (ops:Array Oper) (n:Nat) (l:List DI):Bool:=
 ww ops.size (Ma ops.toList) (rks ops.toList) ops.toList 0&&(uniq ops.toList&&kS X N ops (Ma ops.toList) n (hvM l) l false 0 none 0 [])
def zR {m k:Nat} (h:FL m k=true):∀i,eU m i=true ->eU k i=true:=by
 intro i hi;have h':m&&&k=m:=by
  have:decide (Nat.land m k=m)=true:=by rw[←az];exact h
  exact of_decide_eq_true this
 have hi':Nat.testBit m i=true:=hi;rw[←h',Be,av] at hi';exact hi'.2
def gn (listed:Array Bool) (i:Nat):Prop:=listed.getD i false=true
def kT (listed:Array Bool) (o:Oper):Prop:=∀e∈o.after,Region.binds .any e=true ->gn listed e.on
structure Dh (ops:Array Oper) (listed:Array Bool):Prop where
 sz:listed.size=ops.size
 down:∀(i:Nat) o,ops[i]? =some o ->gn listed i ->kT listed o
def gn.lt {listed:Array Bool} {i:Nat} (h:gn listed i):i<listed.size:=by
 unfold gn at h;by_cases hi:i<listed.size
 ·exact hi
 ·simp[Array.getD,hi] at h
def zS {ops:Array Oper} {listed:Array Bool} {i:Nat} (h:i∈Region.ready .any ops listed):¬gn listed i/\∃o,ops[i]? =some o/\ kT listed o:=by
 obtain⟨h1,o,h2,h3⟩:=mem_ready.1 h;refine⟨fun hl=> ?_,o,h2,fun e he hb=>h3 e he hb⟩;have hlt:=hl.lt;unfold gn at hl;simp[Array.getD,hlt] at h1 hl;rw[h1] at hl;cases hl
structure sd (ops:Array Oper) (A:List Nat):Prop where
 edges:∃rk:Nat ->Nat,∀(i:Nat) o,ops[i]? =some o ->∀e∈o.after,Region.binds .any e=true ->rk e.on<rk i/\ e.on<ops.size
 uniq:∀(i j:Nat) (a b:Oper) (t:Nat),ops[i]? =some a ->ops[j]? =some b ->a.dst=some t ->b.dst=some t ->i=j
 anc:∀(i:Nat) o j,ops[i]? =some o ->eU (A.getD i 0) j=true ->∃e∈o.after,Region.binds .any e=true/\ (e.on=j∨eU (A.getD e.on 0) j=true)
def Rt {ops:Array Oper} (h1:ww ops.size (Ma ops.toList) (rks ops.toList) ops.toList 0=true) (h2:uniq ops.toList=true):sd ops (Ma ops.toList):=by
 have he:=fun (i:Nat) (o:Oper) (ho:ops[i]? =some o)=>aI0 h1 i o (by simpa using ho)
 refine⟨⟨fun i=>(rks ops.toList).getD i 0,fun i o ho e hm hb=> ?_⟩,fun i j a b t hi hj ha hb=>zQ h2 i j a b t (by simpa using hi) (by simpa using hj) ha hb,fun i o j ho hb=> ?_⟩
 ·have:=(he i o ho).1 e hm hb
  rwa [fL] at this
 ·have h3:=(he i o ho).2 j;rw[fL] at h3;obtain⟨e,e1,e2,e3⟩:=uD (h3 hb);exact⟨e,by simpa using e1,e2,e3⟩
section
variable {ops:Array Oper} {A:List Nat} {listed:Array Bool}
def gR (S:sd ops A) (D:Dh ops listed):∀(i:Nat) (o:Oper),ops[i]? =some o ->kT listed o ->∀j,eU (A.getD i 0) j=true ->gn listed j:=by
 obtain⟨rk,hrk⟩:=S.edges
 suffices H:∀n i,rk i=n ->∀(o:Oper),ops[i]? =some o ->kT listed o ->∀j,eU (A.getD i 0) j=true ->gn listed j from fun i=>H _ i rfl
 intro n;induction n using Nat.strongRecOn with
 |_ n ih=>
  intro i hn o ho hE j hj;obtain⟨e,e1,e2,e3⟩:=S.anc i o j ho hj;have hl:=hE e e1 e2;rcases e3 with rfl|e3
  ·exact hl
  ·obtain⟨hlt,hsz⟩:=hrk i o ho e e1 e2;exact ih (rk e.on) (hn▸hlt) e.on rfl _ (mL hsz) (D.down _ _ (mL hsz) hl) j e3
def gn.set {i j:Nat} (hi:i<listed.size):gn (listed.setIfInBounds i true) j↔i=j∨gn listed j:=by
 unfold gn;by_cases e:i=j
 ·subst e;simp[Array.getD,hi]
 ·simp only[e,false_or];by_cases hj:j<listed.size
  ·simp[Array.getD,hj,Array.getElem_setIfInBounds,e]
  ·simp[Array.getD,hj]
def Dh.set (D:Dh ops listed) {i:Nat} {o:Oper} (ho:ops[i]? =some o) (hE:kT listed o):Dh ops (listed.setIfInBounds i true):=by
 have hi:i<listed.size:=by rw[D.sz];exact(jo.1 ho).1
 refine⟨by simpa using D.sz,fun j o' ho' hj e he hb=> ?_⟩;rcases(gn.set hi).1 hj with rfl|hj
 ·rw[ho] at ho';cases ho';exact(gn.set hi).2 (.inr (hE e he hb))
 ·exact(gn.set hi).2 (.inr (D.down j o' ho' hj e he hb))
def FN (S:sd ops A) (D:Dh ops listed) (hr:Region.ready .any ops listed=[]):∀i,i<ops.size ->gn listed i:=by
 obtain⟨rk,hrk⟩:=S.edges
 suffices H:∀n i,rk i=n ->i<ops.size ->gn listed i from fun i=>H _ i rfl
 intro n;induction n using Nat.strongRecOn with
 |_ n ih=>
  intro i hn hi;refine Classical.byContradiction fun hnl=> ?_
  have:i∈Region.ready .any ops listed:=by
   refine mem_ready.2 ⟨?_,ops[i],mL hi,fun e he hb=> ?_⟩
   ·have hs:i<listed.size:=by rw[D.sz];exact hi
    unfold gn at hnl;simp[Array.getD,hs] at hnl ⊢;exact hnl
   ·obtain⟨hlt,hsz⟩:=hrk i ops[i] (mL hi) e he hb;exact ih (rk e.on) (hn▸hlt) e.on rfl hsz
  rw[hr] at this;cases this
def TA:List DI ->List Nat
 |[]=>[]
 | .light i _::r=>i::TA r
 | .resv i _ _::r=>i::TA r
 | .lay _::r=>TA r
 | .heavy i _ _::r=>i::TA r
def fh:List DI ->Option Nat
 | .lay _::r=>fh r
 | .heavy i _ _::_=>some i
 |_=>none
def TB (X:dy) (N:Nat) (ops:Array Oper) (A:List Nat) (done i:Nat) (g:MG):Prop:=
 ∃o,ops[i]? =some o/\ De X N ops o g=true/\∀t∈pc g,∀(j:Nat) o',ops[j]? =some o' ->o'.dst=some t ->eU (A.getD i 0) j=true/\ eU done j=true
variable {X:dy} {N n:Nat}
def Mf {done i:Nat} {g:MG} (h:YJ X N ops A done i g=true):TB X N ops A done i g/\ eU done i=false:=by
 unfold YJ at h;cases ho:ops[i]? with
 |none=>rw[ho] at h;cases h
 |some o=>
  rw[ho] at h;simp only[av,iS] at h;refine⟨⟨o,ho,h.1,fun t ht j o' hj hd=> ?_⟩,h.2.1⟩;have:=zP (uE h.2.2 t ht) j o' (by simpa using hj) hd;rw[fL] at this;have this':Nat.testBit (A.getD i 0&&&done) j=true:=this;rw[Be,av] at this';exact this'
def TC (X:dy) (N:Nat) (ops:Array Oper) (A:List Nat) (HV done i:Nat) (g:MG):Prop:=
 ∃o,ops[i]? =some o/\ De X N ops o g=true/\∀t∈pc g,∀(j:Nat) o',ops[j]? =some o' ->o'.dst=some t ->(eU (A.getD i 0) j=true/\ eU done j=true)∨(eU HV j=true/\ (i=j∨eU (A.getD j 0) i=true))
def tp {HV done i:Nat} {g:MG} (h:Tz X N ops A HV done i g=true):TC X N ops A HV done i g/\ eU done i=false:=by
 unfold Tz at h;cases ho:ops[i]? with
 |none=>rw[ho] at h;cases h
 |some o=>
  rw[ho] at h;simp only[av,iS] at h;refine⟨⟨o,ho,h.1,fun t ht j o' hj hd=> ?_⟩,h.2.1⟩;have:=xG (uE h.2.2 t ht) j o' (by simpa using hj) hd;rw[fL] at this;refine this.imp (fun this=> ?_) id;have this':Nat.testBit (A.getD i 0&&&done) j=true:=this;rw[Be,av] at this';exact this'
def TC.mono {HV done done' i:Nat} {g:MG} (h:TC X N ops A HV done i g) (hd:∀j,eU done j=true ->eU done' j=true):TC X N ops A HV done' i g:=by
 obtain⟨o,h1,h2,h3⟩:=h;exact⟨o,h1,h2,fun t ht j o' hj ho=>(h3 t ht j o' hj ho).imp (fun q=>⟨q.1,hd j q.2⟩) id⟩
def TB.mono {done done' i:Nat} {g:MG} (h:TB X N ops A done i g) (hd:∀j,eU done j=true ->eU done' j=true):TB X N ops A done' i g:=by
 obtain⟨o,h1,h2,h3⟩:=h;exact⟨o,h1,h2,fun t ht j o' hj ho=>⟨(h3 t ht j o' hj ho).1,hd j (h3 t ht j o' hj ho).2⟩⟩
section cases
variable {HV:Nat} {fl:Bool} {done laid:Nat} {last:Option Nat} {rsv:List (Nat×Nat)} {r:List DI}
def mf {i:Nat} {g:MG} (h:kS X N ops A n HV (.light i g::r) fl done last laid rsv=true):
 fl=false/\ Tz X N ops A HV done i g=true/\ (eU HV i=false/\ qq g.op=true)/\ oC A last i=true/\ kS X N ops A n HV r false (jD done i) last laid rsv=true:=by
 have h':(!fl&&(Tz X N ops A HV done i g&&(!(eU HV i)&&qq g.op&&(oC A last i&&kS X N ops A n HV r false (jD done i) last laid rsv))))=true:=h;simpa only[av,iS] using h'
def nN {i k:Nat} {g:MG} (h:kS X N ops A n HV (.resv i k g::r) fl done last laid rsv=true):
 fl=false/\ YJ X N ops A done i g=true/\ (eU HV i=false/\ tj g.op=true)/\ g.guard.isNone=true/\ oC A last i=true/\ k<n/\ Me k rsv=true/\ kS X N ops A n HV r false (jD done i) last laid ((i,k)::rsv)=true:=by
 have h':(!fl&&(YJ X N ops A done i g&&(!(eU HV i)&&tj g.op&&(g.guard.isNone&&(oC A last i&&(Nat.ble (Nat.succ k) n&&(Me k rsv&&kS X N ops A n HV r false (jD done i) last laid ((i,k)::rsv))))))))=true:=h;simp only[av,iS,aQ,decide_eq_true_eq] at h';exact h'
def pI {i:Nat} (h:kS X N ops A n HV (.lay i::r) fl done last laid rsv=true):Md i rsv=true/\ eU laid i=false/\ kS X N ops A n HV r true done last (jD laid i) rsv=true:=by
 have h':(Md i rsv&&(!(eU laid i)&&kS X N ops A n HV r true done last (jD laid i) rsv))=true:=h;simpa only[av,iS] using h'
def ji {i mask:Nat} {g:MG} (h:kS X N ops A n HV (.heavy i g mask::r) fl done last laid rsv=true):
 Tz X N ops A HV done i g=true/\ oC A last i=true/\ FL mask (A.getD i 0)=true/\ FL laid (A.getD i 0)=true/\ kS X N ops A n HV r false (jD done i) (some i) laid rsv=true:=by
 have h':(Tz X N ops A HV done i g&&(oC A last i&&(FL mask (A.getD i 0)&&(FL laid (A.getD i 0)&&kS X N ops A n HV r false (jD done i) (some i) laid rsv))))=true:=h;simpa only[av] using h'
def Mg (h:kS X N ops A n HV [] fl done last laid rsv=true):∀i,i<ops.size ->eU done i=true:=by
 have h':(Nat.beq (Nat.succ done) (Nat.pow 2 ops.size)&&YK laid rsv)=true:=h;simp only[av,az,decide_eq_true_eq] at h';intro i hi;have hd:done=2^ops.size-1:=by
  have:done.succ=2^ops.size:=h'.1;omega
 show Nat.testBit done i=true;rw[hd,Nat.testBit_two_pow_sub_one];simpa using hi
end cases
def jT {m i j:Nat} (h:eU m j=true):eU (jD m i) j=true:=by rw[fT,h];rfl
def jv (m i:Nat):eU (jD m i) i=true:=by rw[fT];simp
variable {HV:Nat}
def tq:∀(l:List DI) (fl:Bool) (done:Nat) (last:Option Nat) (laid:Nat) (rsv:List (Nat×Nat)),kS X N ops A n HV l fl done last laid rsv=true ->∀i,i<ops.size ->eU done i=true∨i∈TA l
 |[],fl,done,last,laid,rsv,h,i,hi=> .inl (Mg h i hi)
 | .light j g::r,fl,done,last,laid,rsv,h,i,hi=>by
  rcases tq r _ _ _ _ _ (mf h).2.2.2.2 i hi with h1|h1
  ·rw[fT,g9,decide_eq_true_eq] at h1;rcases h1 with h1|rfl
   ·exact .inl h1
   ·exact .inr ij
  ·exact .inr (gZ _ h1)
 | .resv j k g::r,fl,done,last,laid,rsv,h,i,hi=>by
  rcases tq r _ _ _ _ _ (nN h).2.2.2.2.2.2.2 i hi with h1|h1
  ·rw[fT,g9,decide_eq_true_eq] at h1;rcases h1 with h1|rfl
   ·exact .inl h1
   ·exact .inr ij
  ·exact .inr (gZ _ h1)
 | .lay j::r,fl,done,last,laid,rsv,h,i,hi=>tq r _ _ _ _ _ (pI h).2.2 i hi
 | .heavy j g m::r,fl,done,last,laid,rsv,h,i,hi=>by
  rcases tq r _ _ _ _ _ (ji h).2.2.2.2 i hi with h1|h1
  ·rw[fT,g9,decide_eq_true_eq] at h1;rcases h1 with h1|rfl
   ·exact .inl h1
   ·exact .inr ij
  ·exact .inr (gZ _ h1)
def mg (S:sd ops A) (D:Dh ops listed):∀(l:List DI) (fl:Bool) (done H laid:Nat) (rsv:List (Nat×Nat)),kS X N ops A n HV l fl done (some H) laid rsv=true ->
 ∀i∈TA l,∀o,ops[i]? =some o ->kT listed o ->gn listed H
 |[],fl,done,H,laid,rsv,h,i,hi,_,_,_=>by cases hi
 | .light j g::r,fl,done,H,laid,rsv,h,i,hi,o,ho,hE=>by
  obtain⟨_,_,_,h4,h5⟩:=mf h;rcases bY.1 hi with rfl|hi
  ·exact gR S D i o ho hE H h4
  ·exact mg S D r _ _ _ _ _ h5 i hi o ho hE
 | .resv j k g::r,fl,done,H,laid,rsv,h,i,hi,o,ho,hE=>by
  obtain⟨_,_,_,_,h4,_,_,h5⟩:=nN h;rcases bY.1 hi with rfl|hi
  ·exact gR S D i o ho hE H h4
  ·exact mg S D r _ _ _ _ _ h5 i hi o ho hE
 | .lay j::r,fl,done,H,laid,rsv,h,i,hi,o,ho,hE=>mg S D r _ _ _ _ _ (pI h).2.2 i hi o ho hE
 | .heavy j g m::r,fl,done,H,laid,rsv,h,i,hi,o,ho,hE=>by
  obtain⟨_,h2,_,_,h5⟩:=ji h;rcases bY.1 hi with rfl|hi
  ·exact gR S D i o ho hE H h2
  ·have hj:=mg S D r _ _ _ _ _ h5 i hi o ho hE;have hlt:j<ops.size:=by rw[←D.sz];exact hj.lt
   exact gR S D j _ (mL hlt) (D.down _ _ (mL hlt) hj) H h2
def xH (fl:Bool) (l:List DI):Prop:=fl=true∨match l with| .light .. ::_=>False| .resv .. ::_=>False|_=>True
def Mh (S:sd ops A) (D:Dh ops listed):∀(l:List DI) (fl:Bool) (done:Nat) (last:Option Nat) (laid:Nat) (rsv:List (Nat×Nat)),kS X N ops A n HV l fl done last laid rsv=true ->xH fl l ->
 ∀i∈TA l,∀o,ops[i]? =some o ->kT listed o ->∃H,fh l=some H/\ (i=H∨gn listed H)
 |[],fl,done,last,laid,rsv,h,_,i,hi,_,_,_=>by cases hi
 | .light j g::r,fl,done,last,laid,rsv,h,hh,i,hi,o,ho,hE=>by
  rcases hh with hh|hh
  ·rw[(mf h).1] at hh;cases hh
  ·exact hh.elim
 | .resv j k g::r,fl,done,last,laid,rsv,h,hh,i,hi,o,ho,hE=>by
  rcases hh with hh|hh
  ·rw[(nN h).1] at hh;cases hh
  ·exact hh.elim
 | .lay j::r,fl,done,last,laid,rsv,h,hh,i,hi,o,ho,hE=>Mh S D r _ _ _ _ _ (pI h).2.2 (.inl rfl) i hi o ho hE
 | .heavy j g m::r,fl,done,last,laid,rsv,h,hh,i,hi,o,ho,hE=>by
  refine⟨j,rfl,?_⟩;rcases bY.1 hi with rfl|hi
  ·exact .inl rfl
  ·exact .inr (mg S D r _ _ _ _ _ (ji h).2.2.2.2 i hi o ho hE)
def BD:∀(l:List DI) (fl:Bool) (done:Nat) (last:Option Nat) (laid:Nat) (rsv:List (Nat×Nat)) (H:Nat),kS X N ops A n HV l fl done last laid rsv=true ->fh l=some H ->eU done H=false/\∀j,eU laid j=true ->eU (A.getD H 0) j=true
 |[],_,_,_,_,_,_,_,h=>by cases h
 | .light .. ::_,_,_,_,_,_,_,_,h=>by cases h
 | .resv .. ::_,_,_,_,_,_,_,_,h=>by cases h
 | .lay i::r,fl,done,last,laid,rsv,H,h,hf=>by
  have:=BD r _ _ _ _ _ H (pI h).2.2 hf;exact⟨this.1,fun j hj=>this.2 j (jT hj)⟩
 | .heavy i g m::r,fl,done,last,laid,rsv,H,h,hf=>by
  cases hf;obtain⟨h1,_,_,h4,_⟩:=ji h;exact⟨(tp h1).2,zR h4⟩
end
end
end AM
