import Derived.DefersIn
import Derived.RangeFuncLeaves
import Derived.Test.YtihgjngjidijaaaGreatDoorN2
set_option linter.all false
namespace AM
open Go
noncomputable section
structure aR where
 ty:T TI
 mt:List (String×List (Nat×Nat))
 sq:List Nat
 bn:List Nat
 vw:List (Nat×List (Nat×Nat×Nat))
structure j7 (P:Program) (X:aR):Prop where
 ty:lN P X.ty
 mt:∀e∈X.mt,CV P e.1 e.2
 eg:∀t∈X.sq,P.eqGuardType P.depth t=false
 vw:∀e∈X.vw,∀q∈e.2,liesAt P P.depth q.1 (q.2.1/P.cellsOf q.1) q.2.2 e.1 1=true
def wg (a b:BinOp):Bool:=decide (a=b)
def Gn (a b:UnOp):Bool:=decide (a=b)
def Gp (a b:List (Nat×Nat)):Bool:=decide (a=b)
def Mu (a b:List (Nat×Nat×Nat)):Bool:=decide (a=b)
def uw (i:TI) (z:AV):Bool:=match z with
 | .ag l=>i.kd.isRow&&jJ l i.zs
 |z=> !i.kd.isRow&&jJ [z] i.zs
def Gq {i:TI} {z:AV} (h:uw i z=true):(i.kd.isRow=true/\ z= .ag i.zs)∨(i.kd.isRow=false/\ [z]=i.zs):=by
 unfold uw at h;split at h
 ·simp only[aB] at h;exact .inl ⟨h.1,by rw[nI h.2]⟩
 ·simp only[aB,jH] at h;exact .inr ⟨h.1,nI h.2⟩
section
variable (X:aR)
def iH (t:TypeId):Option TypeDesc:=(X.ty.get t).map (·.kd)
def fZ (t:TypeId):Option TI:=match X.ty.get t with
 |some i=>match i.kd with| .slice e=>X.ty.get e|_=>none
 |none=>none
def jb (t:TypeId):Bool:=match X.ty.get t with|some i=>(match i.kd with| .string=>true|_=>false)|none=>false
def qP (t:TypeId):Option (Nat×TI):=match X.ty.get t with
 |some i=>match i.kd with| .array n e=>(X.ty.get e).map λj=>(n,j)|_=>none
 |none=>none
def jA (t:TypeId):Option (TypeId×TI):=match X.ty.get t with
 |some i=>match i.kd with| .map k e=>(match X.ty.get k,X.ty.get e with|some _,some j=>some (k,j)|_,_=>none)|_=>none
 |none=>none
def ux (t:TypeId):Option (Array Field):=match X.ty.get t with
 |some i=>match i.kd with| .struct fs=>some fs|_=>none
 |none=>none
def Gs (T t esz:Nat):Bool:=match X.ty.get t with
 |some j=>match j.kd with
  | .slice e=>match X.ty.get e with
   |some i=>Nat.beq T e&&Nat.beq esz i.size&&Nat.beq i.zs.length i.size&&Nat.ble i.bytes 1048576
   |none=>false
  |_=>false
 |none=>false
def CW (oo:Op) (m:jn):Bool:=match m with
 | .mv a=>match oo with| .move x=>ax a x| .assign x=>ax a x|_=>false
 | .pick c a b=>match oo with| .pick x y z=>ax c x&&ax a y&&ax b z|_=>false
 | .alloc z=>match oo with| .alloc t=>(match X.ty.get t with|some i=>jJ z i.zs|none=>false)|_=>false
 | .box a _=>match oo with| .box _ x=>ax a x|_=>false
 | .build z ps=>match oo with
  | .build t parts=>match X.ty.get t with
   |some i=>jJ z i.zs&&(match i.kd with
    | .struct fs=>z7 X.ty fs.toList&&pa (uv X.ty fs.toList) ps parts.toList
    | .array _ e=>(match X.ty.get e with|some j=>pa (λk=>some (k*j.size,j.size)) ps parts.toList|none=>false)
    |_=>false)
   |none=>false
  |_=>false
 | .bslice z n esz ps=>match oo with
  | .buildSlice t len parts=>match fZ X t with
   |some i=>Nat.beq n len&&jJ z (List.replicate n i.zs).flatten&&Nat.beq esz i.size&&Nat.beq i.zs.length i.size&&Nat.ble (n*esz) 16777216&&pa (λk=>some (k*i.size,i.size)) ps parts.toList
   |none=>false
  |_=>false
 | .load a n agg=>match oo with| .load t x=>(match X.ty.get t with|some i=>ax a x&&Nat.beq n i.size&&(agg==i.kd.isRow)|none=>false)|_=>false
 | .store a v n=>match oo with| .store t x y=>(match X.ty.get t with|some i=>ax a x&&ax v y&&Nat.beq n i.size|none=>false)|_=>false
 | .nilc a=>match oo with| .nilCheck x=>ax a x|_=>false
 | .bin op a b=>match oo with| .binOp op' _ x y _=>wg op' op&&ax a x&&ax b y|_=>false
 | .eqv ne e a b=>match oo with
  | .binOp op t x y _=>(bif ne then wg op .neq else wg op .eql)&&gF X.ty true 6 t e&&xT e x y&&ax a x&&ax b y&&(match e with| .ag _=>X.sq.any (Nat.beq t)|_=>true)
  |_=>false
 | .un op a=>match oo with| .unOp op' _ x=>Gn op' op&&ax a x|_=>false
 | .cvi k a=>match oo with
  | .convert s t x=>(match iH X s,iH X t with|some (.int _),some (.int k')=>gZ k k'&&ax a x|_,_=>false)
  |_=>false
 | .cvs a=>match oo with| .convert s t x=>jb X s&&jb X t&&ax a x|_=>false
 | .s2b a=>match oo with
  | .convert s t x=>jb X s&&(match fZ X t with|some i=>(match i.kd with| .int .u8=>true|_=>false)|none=>false)&&ax a x
  |_=>false
 | .b2s a=>match oo with
  | .convert s t x=>jb X t&&(match fZ X s with|some i=>(match i.kd with| .int .u8=>true|_=>false)|none=>false)&&ax a x
  |_=>false
 | .mif t a=>match oo with| .makeInterface t' x=>Nat.beq t t'&&(match iH X t' with|some (.interface _)=>false|some _=>true|none=>false)&&ax a x|_=>false
 | .mfn f a b=>match oo with| .makeFunc (.func g) x y=>Nat.beq f g&&jo a x.toList&&jo b y.toList|_=>false
 | .mmap r=>match oo with| .makeMap t x=>gK r x&&(r.isNone||(jA X t).isSome)|_=>false
 | .mslice z esz _ a b=>match oo with
  | .makeSlice t x y=>(match fZ X t with|some i=>jJ z i.zs&&Nat.beq esz i.size&&Nat.beq z.length esz&&Nat.ble i.bytes 1048576|none=>false)&&ax a x&&ax b y
  |_=>false
 | .slc esz a lo hi mx=>match oo with
  | .slice t x l h m=>(match fZ X t with|some i=>Nat.beq esz i.size|none=>false)&&ax a x&&gK lo l&&gK hi h&&gK mx m&&(mx.isNone||hi.isSome)
  |_=>false
 | .slcs a lo hi=>match oo with| .slice t x l h none=>jb X t&&ax a x&&gK lo l&&gK hi h|_=>false
 | .slca n esz a lo hi mx=>match oo with
  | .slice t x l h m=>(match qP X t with|some (k,i)=>Nat.beq n k&&Nat.beq esz i.size|none=>false)&&ax a x&&gK lo l&&gK hi h&&gK mx m&&(mx.isNone||hi.isSome)
  |_=>false
 | .fadr a off=>match oo with
  | .fieldAddr s x k=>(match ux X s with|some fs=>(match fs[k]? with|some f=>Nat.beq off f.offset&&(match X.ty.get f.type with|some i=> !(Nat.beq i.size 0)|none=>false)|none=>false)|none=>false)&&ax a x
  |_=>false
 | .fld a off n agg=>match oo with
  | .field s x k=>(match ux X s with|some fs=>(match fs[k]? with|some f=>Nat.beq off f.offset&&(match X.ty.get f.type with|some i=>Nat.beq n i.size&&(agg==i.kd.isRow)|none=>false)|none=>false)|none=>false)&&ax a x
  |_=>false
 | .iadr esz a b=>match oo with| .indexAddr t x y=>(match fZ X t with|some i=>Nat.beq esz i.size|none=>false)&&ax a x&&ax b y|_=>false
 | .iadra n esz a b=>match oo with| .indexAddr t x y=>(match qP X t with|some (k,i)=>Nat.beq n k&&Nat.beq esz i.size|none=>false)&&ax a x&&ax b y|_=>false
 | .idxs a b=>match oo with| .index t x y=>jb X t&&ax a x&&ax b y|_=>false
 | .idxa n esz agg a b=>match oo with| .index t x y=>(match qP X t with|some (k,i)=>Nat.beq n k&&Nat.beq esz i.size&&(agg==i.kd.isRow)|none=>false)&&ax a x&&ax b y|_=>false
 | .look e a b z ok=>match oo with| .lookup t x y ok'=>(match jA X t with|some (k,j)=>gF X.ty false 6 k e&&uw j z|none=>false)&&(ok==ok')&&ax a x&&ax b y|_=>false
 | .mupd e a b d=>match oo with
  | .mapUpdate t x y u=>(match jA X t with|some (k,_)=>gF X.ty false 6 k e|none=>false)&&ax a x&&ax b y&&ax d u
  | .insert t x y u=>(match jA X t with|some (k,_)=>gF X.ty false 6 k e|none=>false)&&ax a x&&ax b y&&ax d u
  |_=>false
 | .ment e a b z=>match oo with| .mapEntry t x y=>(match jA X t with|some (k,j)=>gF X.ty false 6 k e&&uw j z|none=>false)&&ax a x&&ax b y|_=>false
 | .mest a s b=>match oo with| .entryStore _ x y u=>ax a x&&ax s y&&ax b u|_=>false
 | .rng a str=>match oo with| .range t x=>(bif str then jb X t else (jA X t).isSome)&&ax a x|_=>false
 | .nxt a str=>match oo with| .next x s=>ax a x&&(str==s)|_=>false
 | .ent a=>match oo with| .entry x=>ax a x|_=>false
 | .tas a t ok z=>match oo with
  | .typeAssert x _ t' ok'=>Nat.beq t t'&&(ok==ok')&&ax a x&&(match X.ty.get t' with|some i=>(match i.kd with| .interface _=>false|_=>true)&&(!ok||uw i z)|none=>false)
  |_=>false
 | .ext a n=>match oo with| .extract x k=>ax a x&&Nat.beq n k|_=>false
 | .call f args=>match oo with| .call cl=>(match cl.callee with| .value (.func g)=>Nat.beq f g&&jo args cl.args.toList|_=>false)|_=>false
 | .callv f args=>match oo with| .call cl=>(match cl.callee with| .value g=>ax f g&&jo args cl.args.toList|_=>false)|_=>false
 | .calli r tbl args=>match oo with| .call cl=>(match cl.callee with| .invoke x name=>ax r x&&jo args cl.args.toList&&X.mt.any (λe=>decide (e.1=name)&&Gp e.2 tbl)|_=>false)|_=>false
 | .app a b esz _=>match oo with
  | .call cl=>(match cl.callee,cl.args.toList,cl.argTypes.toList with
   | .builtin .append,[x,y],[t,tx]=>(match fZ X t with|some i=>Nat.beq esz i.size&&Nat.beq i.zs.length i.size&&Nat.ble i.bytes 1048576|none=>false)&&((fZ X tx).isSome||jb X tx)&&ax a x&&ax b y
   |_,_,_=>false)
  |_=>false
 | .len k a=>match oo with
  | .call cl=>(match cl.callee,cl.args.toList,cl.argTypes.toList with
   | .builtin .len,[x],[t]=>ax a x&&(match k with
    | .str=>jb X t
    | .arr n=>(match X.ty.get t with
     |some i=>(match i.kd with
      | .array n' _=>Nat.beq n n'
      | .pointer p=>(match X.ty.get p with|some j=>(match j.kd with| .array n' _=>Nat.beq n n'|_=>false)|none=>false)
      |_=>false)
     |none=>false)
    | .slice=>(match iH X t with|some (.slice _)=>true|_=>false)
    | .map=>(match iH X t with|some (.map _ _)=>true|_=>false))
   |_,_,_=>false)
  |_=>false
 | .cap a=>match oo with
  | .call cl=>(match cl.callee,cl.args.toList,cl.argTypes.toList with
   | .builtin .cap,[x],[t]=>ax a x&&(match iH X t with|some (.slice _)=>true|_=>false)
   |_,_,_=>false)
  |_=>false
 | .min l=>match oo with| .call cl=>(match cl.callee with| .builtin .min=>jo l cl.args.toList|_=>false)|_=>false
 | .max l=>match oo with| .call cl=>(match cl.callee with| .builtin .max=>jo l cl.args.toList|_=>false)|_=>false
 | .tal T z=>match oo with| .alloc t=>(match X.ty.get t with|some i=>Nat.beq T t&&jJ z i.zs|none=>false)|_=>false
 | .tbx T a=>match oo with| .box t x=>Nat.beq T t&&ax a x|_=>false
 | .tst a v n=>match oo with| .store t x y=>(match X.ty.get t with|some i=>ax a x&&ax v y&&Nat.beq n i.size|none=>false)|_=>false
 | .tld a n agg=>match oo with| .load t x=>(match X.ty.get t with|some i=>ax a x&&Nat.beq n i.size&&(agg==i.kd.isRow)|none=>false)|_=>false
 | .appz a b esz _ z=>match oo with
  | .call cl=>(match cl.callee,cl.args.toList,cl.argTypes.toList with
   | .builtin .append,[x,y],[t,tx]=>(match fZ X t with|some i=>jJ z i.zs&&Nat.beq esz i.size&&Nat.beq z.length esz&&Nat.ble 1 esz&&Nat.ble i.bytes 1048576|none=>false)&&(match iH X tx with|some (.int _)=>true|_=>false)&&ax a x&&ax b y
   |_,_,_=>false)
  |_=>false
 | .tap T a b esz _=>match oo with
  | .call cl=>(match cl.callee,cl.args.toList,cl.argTypes.toList with
   | .builtin .append,[x,y],[t,tx]=>Gs X T t esz&&((fZ X tx).isSome||jb X tx)&&ax a x&&ax b y
   |_,_,_=>false)
  |_=>false
 | .cvp a=>match oo with
  | .convert s t x=>(match iH X s,iH X t with|some (.pointer k),some .unsafePointer=>(match X.ty.get k with|some j=> !(Nat.beq j.size 0)|none=>false)|_,_=>false)&&ax a x
  |_=>false
 | .cvu tbl a=>match oo with
  | .convert s t x=>(match iH X s,iH X t with
   |some .unsafePointer,some (.pointer u)=>(X.ty.get u).isSome&&X.vw.any (λe=>Nat.beq e.1 u&&Mu e.2 tbl)
   |_,_=>false)&&ax a x
  |_=>false
 | .usd a=>match oo with
  | .call cl=>(match cl.callee,cl.args.toList with| .builtin .unsafeSliceData,[x]=>ax a x|_,_=>false)
  |_=>false
 | .ust T a b=>match oo with
  | .call cl=>(match cl.callee,cl.args.toList,cl.argTypes.toList with
   | .builtin .unsafeString,[x,y],[pt,_]=>(match iH X pt with|some (.pointer e)=>Nat.beq T e&&(match X.ty.get e with|some j=>Nat.beq j.size 1|none=>false)|_=>false)&&ax a x&&ax b y
   |_,_,_=>false)
  |_=>false
 | .bad _=>match oo with| .defer _=>false|_=>true
 |_=>false
end
section
variable {P:Program} {CR:Nat ->Code ->aw ->Prop}
variable {c:CE} {h:AH} {w:World} {ev:MA ->AV} {ρ:Operand ->Value} {o:Oper} {C:aR}
def pZ (hC:j7 P C) {t:TypeId} {d:TypeDesc} (h:iH C t=some d):P.underlying t=some d:=by
 unfold iH at h;cases ht:C.ty.get t with
 |none=>rw[ht] at h;cases h
 |some i=>rw[ht] at h;cases h;exact(hC.ty t i ht).und
def qb (hC:j7 P C) {t:TypeId} {i:TI} (h:fZ C t=some i):∃e,P.underlying t=some (.slice e)/\ C.ty.get e=some i/\ gT P e i:=by
 unfold fZ at h;cases ht:C.ty.get t with
 |none=>rw[ht] at h;cases h
 |some j=>
  rw[ht] at h;dsimp only at h;split at h
  ·rename_i e he;exact⟨e,by rw[←he];exact(hC.ty t j ht).und,h,hC.ty e i h⟩
  ·cases h
def rT (hC:j7 P C) {t:TypeId} (h:jb C t=true):P.underlying t=some .string:=by
 unfold jb at h;cases ht:C.ty.get t with
 |none=>rw[ht] at h;cases h
 |some j=>
  rw[ht] at h;dsimp only at h;split at h
  ·rename_i he;rw[←he];exact(hC.ty t j ht).und
  ·cases h
def Gt (hC:j7 P C) {t:TypeId} {n:Nat} {i:TI} (h:qP C t=some (n,i)):∃e,P.underlying t=some (.array n e)/\ gT P e i:=by
 unfold qP at h;cases ht:C.ty.get t with
 |none=>rw[ht] at h;cases h
 |some j=>
  rw[ht] at h;dsimp only at h;split at h
  ·rename_i n' e he;cases hj:C.ty.get e with
   |none=>rw[hj] at h;cases h
   |some k=>
    rw[hj] at h;cases h;exact⟨e,by rw[←he];exact(hC.ty t j ht).und,hC.ty e _ hj⟩
  ·cases h
def wi (hC:j7 P C) {t k:TypeId} {j:TI} (h:jA C t=some (k,j)):∃e kd,P.underlying t=some (.map k e)/\ C.ty.get k=some kd/\ C.ty.get e=some j:=by
 unfold jA at h;cases ht:C.ty.get t with
 |none=>rw[ht] at h;cases h
 |some i=>
  rw[ht] at h;dsimp only at h;split at h
  ·rename_i k' e he;cases hk:C.ty.get k' with
   |none=>rw[hk] at h;cases h
   |some kd=>
    cases hj:C.ty.get e with
    |none=>rw[hk,hj] at h;cases h
    |some j'=>
     rw[hk,hj] at h;cases h;exact⟨e,kd,by rw[←he];exact(hC.ty t i ht).und,hk,hj⟩
  ·cases h
def Mv (hC:j7 P C) {t:TypeId} {fs:Array Field} (h:ux C t=some fs):P.underlying t=some (.struct fs):=by
 unfold ux at h;cases ht:C.ty.get t with
 |none=>rw[ht] at h;cases h
 |some i=>
  rw[ht] at h;dsimp only at h;split at h
  ·rename_i fs' he;cases h;rw[←he];exact(hC.ty t i ht).und
  ·cases h
def Gu {a b:BinOp} (h:wg a b=true):a=b:=qM h
def ZH {a b:UnOp} (h:Gn a b=true):a=b:=qM h
def ZI (hC:j7 P C) (X:Cx CR c h w ev ρ) (hρ:∀f,ρ (.func f)= .func (.func f) #[] #[]) {m:jn} (hk:CW C o.op m=true):bD P CR c h w (step ev h m) ((execOp ρ o).run P w):=by
 generalize ho:o.op=oo at hk;cases m with
 |mv a=>
  replace hk:(match (generalizing:=false) oo with| .move x=>ax a x| .assign x=>ax a x|_=>false)=true:=hk;split at hk
  ·exact LD X (.inl ho) hk
  ·exact LD X (.inr ho) hk
  ·cases hk
 |pick a b d=>
  replace hk:(match (generalizing:=false) oo with| .pick x y z=>ax a x&&ax b y&&ax d z|_=>false)=true:=hk;split at hk
  ·simp only[aB] at hk;exact Yc X ho hk.1.1 hk.1.2 hk.2
  ·cases hk
 |alloc z=>
  replace hk:(match (generalizing:=false) oo with| .alloc t=>(match (generalizing:=false) C.ty.get t with|some i=>jJ z i.zs|none=>false)|_=>false)=true:=hk;split at hk
  ·rename_i t;cases ht:C.ty.get t with
   |none=>rw[ht] at hk;cases hk
   |some i=>rw[ht] at hk;exact Yd (hC.ty t i ht) X ho (nI hk)
  ·cases hk
 |box a n=>
  replace hk:(match (generalizing:=false) oo with| .box _ x=>ax a x|_=>false)=true:=hk;split at hk
  ·exact Ye X ho hk
  ·cases hk
 |build z ps=>
  replace hk:(match (generalizing:=false) oo with
   | .build t parts=>match (generalizing:=false) C.ty.get t with
    |some i=>jJ z i.zs&&(match (generalizing:=false) i.kd with
     | .struct fs=>z7 C.ty fs.toList&&pa (uv C.ty fs.toList) ps parts.toList
     | .array _ e=>(match (generalizing:=false) C.ty.get e with|some j=>pa (λk=>some (k*j.size,j.size)) ps parts.toList|none=>false)
     |_=>false)
    |none=>false
   |_=>false)=true:=hk
  split at hk
  ·rename_i t parts;cases ht:C.ty.get t with
   |none=>rw[ht] at hk;cases hk
   |some i=>
    rw[ht] at hk;simp only[aB] at hk;obtain⟨h1,h2⟩:=hk;split at h2
    ·rename_i fs he;simp only[aB] at h2;exact Zn hC.ty X ht he h2.1 (nI h1) ho h2.2
    ·rename_i n e he;cases hj:C.ty.get e with
     |none=>rw[hj] at h2;cases h2
     |some j=>rw[hj] at h2;exact Zo hC.ty X ht he hj (nI h1) ho h2
    ·cases h2
  ·cases hk
 |bslice z n esz ps=>
  replace hk:(match (generalizing:=false) oo with
   | .buildSlice t len parts=>match (generalizing:=false) fZ C t with
    |some i=>Nat.beq n len&&jJ z (List.replicate n i.zs).flatten&&Nat.beq esz i.size&&Nat.beq i.zs.length i.size&&Nat.ble (n*esz) 16777216&&pa (λk=>some (k*i.size,i.size)) ps parts.toList
    |none=>false
   |_=>false)=true:=hk
  split at hk
  ·rename_i t len parts;cases ht:fZ C t with
   |none=>rw[ht] at hk;cases hk
   |some i=>
    rw[ht] at hk;simp only[aB,bu,dm,aU] at hk;obtain⟨⟨⟨⟨⟨h1,h2⟩,h3⟩,h4⟩,h5⟩,h6⟩:=hk;subst h1;obtain⟨e,e1,e2,e3⟩:=qb hC ht;exact Zp hC.ty X e1 e2 (nI h2) h3 h4 h5 ho h6
  ·cases hk
 |load a n agg=>
  replace hk:(match (generalizing:=false) oo with| .load t x=>(match (generalizing:=false) C.ty.get t with|some i=>ax a x&&Nat.beq n i.size&&(agg==i.kd.isRow)|none=>false)|_=>false)=true:=hk;split at hk
  ·rename_i t x;cases ht:C.ty.get t with
   |none=>rw[ht] at hk;cases hk
   |some i=>
    rw[ht] at hk;simp only[aB,bu,aU,mD] at hk;exact Yf (hC.ty t i ht) X ho hk.1.1 hk.1.2 hk.2
  ·cases hk
 |store a v n=>
  replace hk:(match (generalizing:=false) oo with| .store t x y=>(match (generalizing:=false) C.ty.get t with|some i=>ax a x&&ax v y&&Nat.beq n i.size|none=>false)|_=>false)=true:=hk;split at hk
  ·rename_i t x y;cases ht:C.ty.get t with
   |none=>rw[ht] at hk;cases hk
   |some i=>
    rw[ht] at hk;simp only[aB,bu,aU] at hk;exact Yh (hC.ty t i ht) X ho hk.1.1 hk.1.2 hk.2
  ·cases hk
 |nilc a=>
  replace hk:(match (generalizing:=false) oo with| .nilCheck x=>ax a x|_=>false)=true:=hk;split at hk
  ·exact Yi X ho hk
  ·cases hk
 |bin op a b=>
  replace hk:(match (generalizing:=false) oo with| .binOp op' _ x y _=>wg op' op&&ax a x&&ax b y|_=>false)=true:=hk;split at hk
  ·simp only[aB] at hk;have:=Gu hk.1.1;subst this;exact YS X ho hk.1.2 hk.2
  ·cases hk
 |eqv ne e a b=>
  replace hk:(match (generalizing:=false) oo with
   | .binOp op t x y _=>(bif ne then wg op .neq else wg op .eql)&&gF C.ty true 6 t e&&xT e x y&&ax a x&&ax b y&&(match (generalizing:=false) e with| .ag _=>C.sq.any (Nat.beq t)|_=>true)
   |_=>false)=true:=hk
  split at hk
  ·rename_i op t x y yt;simp only[aB] at hk;obtain⟨⟨⟨⟨⟨h1,h2⟩,h3⟩,h4⟩,h5⟩,h6⟩:=hk;refine YX hC.ty X ho ?_ h2 h3 ?_ h4 h5
   ·cases ne with
    |true=>exact .inr ⟨Gu h1,rfl⟩
    |false=>exact .inl ⟨Gu h1,rfl⟩
   ·rintro⟨l,rfl⟩;dsimp only at h6;rw[qK] at h6;obtain⟨t',h7,h8⟩:=h6;simp only[bu,aU] at h8;subst h8;exact hC.eg _ h7
  ·cases hk
 |un op a=>
  replace hk:(match (generalizing:=false) oo with| .unOp op' _ x=>Gn op' op&&ax a x|_=>false)=true:=hk;split at hk
  ·simp only[aB] at hk;have:=ZH hk.1;subst this;exact Yn X ho hk.2
  ·cases hk
 |cvi k a=>
  replace hk:(match (generalizing:=false) oo with
   | .convert s t x=>(match (generalizing:=false) iH C s,iH C t with|some (.int _),some (.int k')=>gZ k k'&&ax a x|_,_=>false)
   |_=>false)=true:=hk
  split at hk
  ·rename_i s t x;split at hk
   ·rename_i ks kt h1 h2;simp only[aB] at hk;have:=zV hk.1;subst this;exact Ys (pZ hC h2) (pZ hC h1) X ho hk.2
   ·cases hk
  ·cases hk
 |cvs a=>
  replace hk:(match (generalizing:=false) oo with| .convert s t x=>jb C s&&jb C t&&ax a x|_=>false)=true:=hk;split at hk
  ·simp only[aB] at hk;exact Yo X (rT hC hk.1.1) (rT hC hk.1.2) ho hk.2
  ·cases hk
 |s2b a=>
  replace hk:(match (generalizing:=false) oo with
   | .convert s t x=>jb C s&&(match (generalizing:=false) fZ C t with|some i=>(match (generalizing:=false) i.kd with| .int .u8=>true|_=>false)|none=>false)&&ax a x
   |_=>false)=true:=hk
  split at hk
  ·rename_i s t x;simp only[aB] at hk;obtain⟨⟨h1,h2⟩,h3⟩:=hk;cases ht:fZ C t with
   |none=>rw[ht] at h2;cases h2
   |some i=>
    rw[ht] at h2;dsimp only at h2;split at h2
    ·rename_i he;obtain⟨e,e1,e2,e3⟩:=qb hC ht;exact Zk X (rT hC h1) e1 (by rw[←he];exact e3.und) ho h3
    ·cases h2
  ·cases hk
 |b2s a=>
  replace hk:(match (generalizing:=false) oo with
   | .convert s t x=>jb C t&&(match (generalizing:=false) fZ C s with|some i=>(match (generalizing:=false) i.kd with| .int .u8=>true|_=>false)|none=>false)&&ax a x
   |_=>false)=true:=hk
  split at hk
  ·rename_i s t x;simp only[aB] at hk;obtain⟨⟨h1,h2⟩,h3⟩:=hk;cases ht:fZ C s with
   |none=>rw[ht] at h2;cases h2
   |some i=>
    rw[ht] at h2;dsimp only at h2;split at h2
    ·rename_i he;obtain⟨e,e1,e2,e3⟩:=qb hC ht;exact Zl X e1 (by rw[←he];exact e3.und) (rT hC h1) ho h3
    ·cases h2
  ·cases hk
 |mif t a=>
  replace hk:(match (generalizing:=false) oo with| .makeInterface t' x=>Nat.beq t t'&&(match (generalizing:=false) iH C t' with|some (.interface _)=>false|some _=>true|none=>false)&&ax a x|_=>false)=true:=hk;split at hk
  ·rename_i t' x;simp only[aB,bu,aU] at hk;obtain⟨⟨h1,h2⟩,h3⟩:=hk;subst h1;cases hd:iH C t with
   |none=>rw[hd] at h2;cases h2
   |some d=>
    rw[hd] at h2;exact Yp X (pZ hC hd) (λms e=>by subst e;cases h2) ho h3
  ·cases hk
 |mfn f a b=>
  replace hk:(match (generalizing:=false) oo with| .makeFunc (.func g) x y=>Nat.beq f g&&jo a x.toList&&jo b y.toList|_=>false)=true:=hk;split at hk
  ·simp only[aB,bu,aU] at hk;obtain⟨⟨h1,h2⟩,h3⟩:=hk;subst h1;exact YF X ho h2 h3
  ·cases hk
 |mmap r=>
  replace hk:(match (generalizing:=false) oo with| .makeMap t x=>gK r x&&(r.isNone||(jA C t).isSome)|_=>false)=true:=hk;split at hk
  ·rename_i t x;simp only[aB,ja] at hk;refine YK X hk.1 ?_ ho;rcases hk.2 with h1|h1
   ·cases r with
    |none=>exact .inl rfl
    |some _=>cases h1
   ·cases hm:jA C t with
    |none=>rw[hm] at h1;cases h1
    |some q=>obtain⟨e,kd,e1,_⟩:=wi hC (k:=q.1) (j:=q.2) hm;exact .inr ⟨_,_,e1⟩
  ·cases hk
 |mslice z esz bs a b=>
  replace hk:(match (generalizing:=false) oo with
   | .makeSlice t x y=>(match (generalizing:=false) fZ C t with|some i=>jJ z i.zs&&Nat.beq esz i.size&&Nat.beq z.length esz&&Nat.ble i.bytes 1048576|none=>false)&&ax a x&&ax b y
   |_=>false)=true:=hk
  split at hk
  ·rename_i t x y;simp only[aB] at hk;obtain⟨⟨h1,h2⟩,h3⟩:=hk;cases ht:fZ C t with
   |none=>rw[ht] at h1;cases h1
   |some i=>
    rw[ht] at h1;simp only[aB,bu,dm,aU] at h1;obtain⟨e,e1,e2,e3⟩:=qb hC ht;exact YL e3 X e1 ho h2 h3 (nI h1.1.1.1) h1.1.1.2 h1.1.2 h1.2
  ·cases hk
 |slc esz a lo hi mx=>
  replace hk:(match (generalizing:=false) oo with
   | .slice t x l h m=>(match (generalizing:=false) fZ C t with|some i=>Nat.beq esz i.size|none=>false)&&ax a x&&gK lo l&&gK hi h&&gK mx m&&(mx.isNone||hi.isSome)
   |_=>false)=true:=hk
  split at hk
  ·rename_i t x l h' m;simp only[aB] at hk;obtain⟨⟨⟨⟨⟨h1,h2⟩,h3⟩,h4⟩,h5⟩,h6⟩:=hk;cases ht:fZ C t with
   |none=>rw[ht] at h1;cases h1
   |some i=>
    rw[ht] at h1;simp only[bu,aU] at h1;obtain⟨e,e1,e2,e3⟩:=qb hC ht;exact Yz e3 X e1 ho h2 h3 h4 h5 (by cases mx<;>cases hi<;>simp at h6 ⊢) h1
  ·cases hk
 |slcs a lo hi=>
  replace hk:(match (generalizing:=false) oo with| .slice t x l h none=>jb C t&&ax a x&&gK lo l&&gK hi h|_=>false)=true:=hk;split at hk
  ·simp only[aB] at hk;exact YA X (rT hC hk.1.1.1) ho hk.1.1.2 hk.1.2 hk.2
  ·cases hk
 |slca n esz a lo hi mx=>
  replace hk:(match (generalizing:=false) oo with
   | .slice t x l h m=>(match (generalizing:=false) qP C t with|some (k,i)=>Nat.beq n k&&Nat.beq esz i.size|none=>false)&&ax a x&&gK lo l&&gK hi h&&gK mx m&&(mx.isNone||hi.isSome)
   |_=>false)=true:=hk
  split at hk
  ·rename_i t x l h' m;simp only[aB] at hk;obtain⟨⟨⟨⟨⟨h1,h2⟩,h3⟩,h4⟩,h5⟩,h6⟩:=hk;cases ht:qP C t with
   |none=>rw[ht] at h1;cases h1
   |some q=>
    obtain⟨k,i⟩:=q;rw[ht] at h1;simp only[aB,bu,aU] at h1;obtain⟨e,e1,e3⟩:=Gt hC ht;obtain⟨rfl,rfl⟩:=h1;exact YB e3 X e1 ho h2 h3 h4 h5 (by cases mx<;>cases hi<;>simp at h6 ⊢) rfl
  ·cases hk
 |fadr a off=>
  replace hk:(match (generalizing:=false) oo with
   | .fieldAddr s x k=>(match (generalizing:=false) ux C s with|some fs=>(match (generalizing:=false) fs[k]? with|some f=>Nat.beq off f.offset&&(match (generalizing:=false) C.ty.get f.type with|some i=> !(Nat.beq i.size 0)|none=>false)|none=>false)|none=>false)&&ax a x
   |_=>false)=true:=hk
  split at hk
  ·rename_i s x k;simp only[aB] at hk;obtain⟨h1,h2⟩:=hk;cases hs:ux C s with
   |none=>rw[hs] at h1;cases h1
   |some fs=>
    rw[hs] at h1;dsimp only at h1;cases hf:fs[k]? with
    |none=>rw[hf] at h1;cases h1
    |some f=>
     rw[hf] at h1;simp only[aB,bu,aU] at h1;obtain⟨rfl,h3⟩:=h1;cases ht:C.ty.get f.type with
     |none=>rw[ht] at h3;cases h3
     |some i=>
      rw[ht] at h3;simp only[jH,Cr] at h3;obtain⟨inf,zv,i1,i2,_⟩:=(hC.ty _ _ ht).info;exact Yr X (Mv hC hs) hf i1 (by rw[i2];exact h3) ho h2
  ·cases hk
 |fld a off n agg=>
  replace hk:(match (generalizing:=false) oo with
   | .field s x k=>(match (generalizing:=false) ux C s with|some fs=>(match (generalizing:=false) fs[k]? with|some f=>Nat.beq off f.offset&&(match (generalizing:=false) C.ty.get f.type with|some i=>Nat.beq n i.size&&(agg==i.kd.isRow)|none=>false)|none=>false)|none=>false)&&ax a x
   |_=>false)=true:=hk
  split at hk
  ·rename_i s x k;simp only[aB] at hk;obtain⟨h1,h2⟩:=hk;cases hs:ux C s with
   |none=>rw[hs] at h1;cases h1
   |some fs=>
    rw[hs] at h1;dsimp only at h1;cases hf:fs[k]? with
    |none=>rw[hf] at h1;cases h1
    |some f=>
     rw[hf] at h1;simp only[aB,bu,aU] at h1;obtain⟨rfl,h3⟩:=h1;cases ht:C.ty.get f.type with
     |none=>rw[ht] at h3;cases h3
     |some i=>
      rw[ht] at h3;simp only[aB,mD,aU] at h3;exact Yu (hC.ty _ _ ht) X (Mv hC hs) hf ho h2 h3.1 h3.2
  ·cases hk
 |iadr esz a b=>
  replace hk:(match (generalizing:=false) oo with| .indexAddr t x y=>(match (generalizing:=false) fZ C t with|some i=>Nat.beq esz i.size|none=>false)&&ax a x&&ax b y|_=>false)=true:=hk;split at hk
  ·rename_i t x y;simp only[aB] at hk;obtain⟨⟨h1,h2⟩,h3⟩:=hk;cases ht:fZ C t with
   |none=>rw[ht] at h1;cases h1
   |some i=>
    rw[ht] at h1;simp only[bu,aU] at h1;obtain⟨e,e1,e2,e3⟩:=qb hC ht;exact Yv e3 X e1 ho h2 h3 h1
  ·cases hk
 |iadra n esz a b=>
  replace hk:(match (generalizing:=false) oo with| .indexAddr t x y=>(match (generalizing:=false) qP C t with|some (k,i)=>Nat.beq n k&&Nat.beq esz i.size|none=>false)&&ax a x&&ax b y|_=>false)=true:=hk;split at hk
  ·rename_i t x y;simp only[aB] at hk;obtain⟨⟨h1,h2⟩,h3⟩:=hk;cases ht:qP C t with
   |none=>rw[ht] at h1;cases h1
   |some q=>
    obtain⟨k,i⟩:=q;rw[ht] at h1;simp only[aB,bu,aU] at h1;obtain⟨e,e1,e3⟩:=Gt hC ht;obtain⟨rfl,rfl⟩:=h1;exact Yw e3 X e1 ho h2 h3 rfl
  ·cases hk
 |idxs a b=>
  replace hk:(match (generalizing:=false) oo with| .index t x y=>jb C t&&ax a x&&ax b y|_=>false)=true:=hk;split at hk
  ·simp only[aB] at hk;exact Yx X (rT hC hk.1.1) ho hk.1.2 hk.2
  ·cases hk
 |idxa n esz agg a b=>
  replace hk:(match (generalizing:=false) oo with| .index t x y=>(match (generalizing:=false) qP C t with|some (k,i)=>Nat.beq n k&&Nat.beq esz i.size&&(agg==i.kd.isRow)|none=>false)&&ax a x&&ax b y|_=>false)=true:=hk;split at hk
  ·rename_i t x y;simp only[aB] at hk;obtain⟨⟨h1,h2⟩,h3⟩:=hk;cases ht:qP C t with
   |none=>rw[ht] at h1;cases h1
   |some q=>
    obtain⟨k,i⟩:=q;rw[ht] at h1;simp only[aB,bu,aU,mD] at h1;obtain⟨e,e1,e3⟩:=Gt hC ht;obtain⟨⟨rfl,rfl⟩,h4⟩:=h1;exact Yy e3 X e1 ho h2 h3 rfl h4
  ·cases hk
 |look e a b z ok=>
  replace hk:(match (generalizing:=false) oo with| .lookup t x y ok'=>(match (generalizing:=false) jA C t with|some (k,j)=>gF C.ty false 6 k e&&uw j z|none=>false)&&(ok==ok')&&ax a x&&ax b y|_=>false)=true:=hk;split at hk
  ·rename_i t x y ok';simp only[aB,mD] at hk;obtain⟨⟨⟨h1,rfl⟩,h2⟩,h3⟩:=hk;cases ht:jA C t with
   |none=>rw[ht] at h1;cases h1
   |some q=>
    obtain⟨k,j⟩:=q;rw[ht] at h1;simp only[aB] at h1;obtain⟨e',kd,e1,e2,e3⟩:=wi hC ht;exact Zc hC.ty X e1 h1.1 e3 (Gq h1.2) e2 ho h2 h3
  ·cases hk
 |mupd e a b d=>
  replace hk:(match (generalizing:=false) oo with
   | .mapUpdate t x y u=>(match (generalizing:=false) jA C t with|some (k,_)=>gF C.ty false 6 k e|none=>false)&&ax a x&&ax b y&&ax d u
   | .insert t x y u=>(match (generalizing:=false) jA C t with|some (k,_)=>gF C.ty false 6 k e|none=>false)&&ax a x&&ax b y&&ax d u
   |_=>false)=true:=hk
  split at hk
  ·rename_i t x y u;simp only[aB] at hk;obtain⟨⟨⟨h1,h2⟩,h3⟩,h4⟩:=hk;cases ht:jA C t with
   |none=>rw[ht] at h1;cases h1
   |some q=>
    obtain⟨k,j⟩:=q;rw[ht] at h1;obtain⟨e',kd,e1,e2,e3⟩:=wi hC ht;exact Mg hC.ty X e1 h1 e2 (.inl ho) h2 h3 h4
  ·rename_i t x y u;simp only[aB] at hk;obtain⟨⟨⟨h1,h2⟩,h3⟩,h4⟩:=hk;cases ht:jA C t with
   |none=>rw[ht] at h1;cases h1
   |some q=>
    obtain⟨k,j⟩:=q;rw[ht] at h1;obtain⟨e',kd,e1,e2,e3⟩:=wi hC ht;exact Mg hC.ty X e1 h1 e2 (.inr ho) h2 h3 h4
  ·cases hk
 |ment e a b z=>
  replace hk:(match (generalizing:=false) oo with| .mapEntry t x y=>(match (generalizing:=false) jA C t with|some (k,j)=>gF C.ty false 6 k e&&uw j z|none=>false)&&ax a x&&ax b y|_=>false)=true:=hk;split at hk
  ·rename_i t x y;simp only[aB] at hk;obtain⟨⟨h1,h2⟩,h3⟩:=hk;cases ht:jA C t with
   |none=>rw[ht] at h1;cases h1
   |some q=>
    obtain⟨k,j⟩:=q;rw[ht] at h1;simp only[aB] at h1;obtain⟨e',kd,e1,e2,e3⟩:=wi hC ht;exact Zq hC.ty X e1 h1.1 e2 e3 (Gq h1.2) ho h2 h3
  ·cases hk
 |mest a s b=>
  replace hk:(match (generalizing:=false) oo with| .entryStore _ x y u=>ax a x&&ax s y&&ax b u|_=>false)=true:=hk;split at hk
  ·simp only[aB] at hk;exact Zr X ho hk.1.1 hk.1.2 hk.2
  ·cases hk
 |rng a str=>
  replace hk:(match (generalizing:=false) oo with| .range t x=>(bif str then jb C t else (jA C t).isSome)&&ax a x|_=>false)=true:=hk;split at hk
  ·rename_i t x;simp only[aB] at hk;refine YM X ho hk.2 ?_;cases str with
   |true=>exact .inl ⟨rfl,rT hC hk.1⟩
   |false=>
    cases hm:jA C t with
    |none=>have:=hk.1;rw[hm] at this;cases this
    |some q=>obtain⟨e,kd,e1,_⟩:=wi hC (k:=q.1) (j:=q.2) hm;exact .inr ⟨rfl,_,_,e1⟩
  ·cases hk
 |nxt a str=>
  replace hk:(match (generalizing:=false) oo with| .next x s=>ax a x&&(str==s)|_=>false)=true:=hk;split at hk
  ·simp only[aB,mD] at hk;obtain⟨h1,rfl⟩:=hk;exact YP X ho h1
  ·cases hk
 |ent a=>
  replace hk:(match (generalizing:=false) oo with| .entry x=>ax a x|_=>false)=true:=hk;split at hk
  ·exact YQ X ho hk
  ·cases hk
 |tas a t ok z=>
  replace hk:(match (generalizing:=false) oo with
   | .typeAssert x _ t' ok'=>Nat.beq t t'&&(ok==ok')&&ax a x&&(match (generalizing:=false) C.ty.get t' with|some i=>(match (generalizing:=false) i.kd with| .interface _=>false|_=>true)&&(!ok||uw i z)|none=>false)
   |_=>false)=true:=hk
  split at hk
  ·rename_i x xt t' ok';simp only[aB,bu,aU,mD] at hk;obtain⟨⟨⟨rfl,rfl⟩,h2⟩,h3⟩:=hk;cases ht:C.ty.get t with
   |none=>rw[ht] at h3;cases h3
   |some i=>
    rw[ht] at h3;simp only[aB,ja,jH] at h3;refine YR (hC.ty t i ht) X ho h2 (λq e=> ?_) (λaC=> ?_)
    ·rw[e] at h3;exact bh h3.1 (by simp)
    ·rcases h3.2 with h4|h4
     ·rw[aC] at h4;cases h4
     ·exact Gq h4
  ·cases hk
 |ext a n=>
  replace hk:(match (generalizing:=false) oo with| .extract x k=>ax a x&&Nat.beq n k|_=>false)=true:=hk;split at hk
  ·simp only[aB,bu,aU] at hk;obtain⟨h1,rfl⟩:=hk;exact Yq X ho h1
  ·cases hk
 |call f args=>
  replace hk:(match (generalizing:=false) oo with| .call cl=>(match (generalizing:=false) cl.callee with| .value (.func g)=>Nat.beq f g&&jo args cl.args.toList|_=>false)|_=>false)=true:=hk;split at hk
  ·rename_i cl;split at hk
   ·rename_i g hg;simp only[aB,bu,aU] at hk;obtain⟨rfl,h2⟩:=hk;exact YG X hg (hρ f) ho h2
   ·cases hk
  ·cases hk
 |callv f args=>
  replace hk:(match (generalizing:=false) oo with| .call cl=>(match (generalizing:=false) cl.callee with| .value g=>ax f g&&jo args cl.args.toList|_=>false)|_=>false)=true:=hk;split at hk
  ·rename_i cl;split at hk
   ·rename_i g hg;simp only[aB] at hk;exact YH X hg hk.1 ho hk.2
   ·cases hk
  ·cases hk
 |calli r tbl args=>
  replace hk:(match (generalizing:=false) oo with| .call cl=>(match (generalizing:=false) cl.callee with| .invoke x name=>ax r x&&jo args cl.args.toList&&C.mt.any (λe=>decide (e.1=name)&&Gp e.2 tbl)|_=>false)|_=>false)=true:=hk;split at hk
  ·rename_i cl;split at hk
   ·rename_i x name hg;simp only[aB] at hk;obtain⟨⟨h1,h2⟩,h3⟩:=hk;rw[qK] at h3;obtain⟨e,h4,h5⟩:=h3;simp only[aB,aU,Gp] at h5;have:=hC.mt e h4;rw[h5.1,h5.2] at this;exact Zt X this hg h1 ho h2
   ·cases hk
  ·cases hk
 |app a b esz bs=>
  replace hk:(match (generalizing:=false) oo with
   | .call cl=>(match (generalizing:=false) cl.callee,cl.args.toList,cl.argTypes.toList with
    | .builtin .append,[x,y],[t,tx]=>(match (generalizing:=false) fZ C t with|some i=>Nat.beq esz i.size&&Nat.beq i.zs.length i.size&&Nat.ble i.bytes 1048576|none=>false)&&((fZ C tx).isSome||jb C tx)&&ax a x&&ax b y
    |_,_,_=>false)
   |_=>false)=true:=hk
  split at hk
  ·rename_i cl;split at hk
   ·rename_i x y t tx h1 h2 h3;simp only[aB] at hk;obtain⟨⟨⟨k1,k2⟩,k3⟩,k4⟩:=hk;cases ht:fZ C t with
    |none=>rw[ht] at k1;cases k1
    |some i=>
     rw[ht] at k1;simp only[aB,bu,dm,aU] at k1;obtain⟨e,e1,e2,e3⟩:=qb hC ht;have hcl:cl={ callee:= .builtin .append,args:=#[x,y],argTypes:=#[t,tx] }:=by
      obtain⟨cc,ca,ct⟩:=cl;simp only at h1 h2 h3;subst h1;have e4:ca=#[x,y]:=by apply jW;simpa using h2
      have e5:ct=#[t,tx]:=by apply jW;simpa using h3
      rw[e4,e5]
     refine Zf e3 X e1 ?_ (by rw[ho,hcl]) k3 k4 k1.1.1 k1.1.2 k1.2;simp only[ja] at k2;rcases k2 with k2|k2
     ·cases hx:fZ C tx with
      |none=>rw[hx] at k2;cases k2
      |some j=>obtain⟨e',e1',_⟩:=qb hC hx;exact .inl ⟨e',e1'⟩
     ·exact .inr (rT hC k2)
   ·cases hk
  ·cases hk
 |len k a=>
  replace hk:(match (generalizing:=false) oo with
   | .call cl=>(match (generalizing:=false) cl.callee,cl.args.toList,cl.argTypes.toList with
    | .builtin .len,[x],[t]=>ax a x&&(match (generalizing:=false) k with
     | .str=>jb C t
     | .arr n=>(match (generalizing:=false) C.ty.get t with
      |some i=>(match (generalizing:=false) i.kd with
       | .array n' _=>Nat.beq n n'
       | .pointer p=>(match (generalizing:=false) C.ty.get p with|some j=>(match (generalizing:=false) j.kd with| .array n' _=>Nat.beq n n'|_=>false)|none=>false)
       |_=>false)
      |none=>false)
     | .slice=>(match (generalizing:=false) iH C t with|some (.slice _)=>true|_=>false)
     | .map=>(match (generalizing:=false) iH C t with|some (.map _ _)=>true|_=>false))
    |_,_,_=>false)
   |_=>false)=true:=hk
  split at hk
  ·rename_i cl;split at hk
   ·rename_i x t h1 h2 h3;simp only[aB] at hk;obtain⟨k1,k2⟩:=hk;have hcl:cl={ callee:= .builtin .len,args:=#[x],argTypes:=#[t] }:=by
     obtain⟨cc,ca,ct⟩:=cl;simp only at h1 h2 h3;subst h1;have e4:ca=#[x]:=by apply jW;simpa using h2
     have e5:ct=#[t]:=by apply jW;simpa using h3
     rw[e4,e5]
    rw[hcl] at ho;cases k with
    |str=>exact YC X (t:=t) rfl (rT hC k2) ho k1
    |arr n=>
     dsimp only at k2;cases ht:C.ty.get t with
     |none=>rw[ht] at k2;cases k2
     |some i=>
      rw[ht] at k2;dsimp only at k2;have hu:=(hC.ty t i ht).und;split at k2
      ·rename_i n' e he;simp only[bu,aU] at k2;subst k2;exact LN X (t:=t) rfl (.inl ⟨e,by rw[←he];exact hu⟩) ho
      ·rename_i p he;cases hp:C.ty.get p with
       |none=>rw[hp] at k2;cases k2
       |some j=>
        rw[hp] at k2;dsimp only at k2;split at k2
        ·rename_i n' e he';simp only[bu,aU] at k2;subst k2;exact LN X (t:=t) rfl (.inr ⟨p,e,by rw[←he];exact hu,by rw[←he'];exact(hC.ty p j hp).und⟩) ho
        ·cases k2
      ·cases k2
    |slice=>
     dsimp only at k2;split at k2
     ·rename_i e he;exact YD X (t:=t) rfl (pZ hC he) ho k1
     ·cases k2
    |map=>
     dsimp only at k2;split at k2
     ·rename_i k' e he;exact Zg X (t:=t) rfl (pZ hC he) ho k1
     ·cases k2
   ·cases hk
  ·cases hk
 |cap a=>
  replace hk:(match (generalizing:=false) oo with
   | .call cl=>(match (generalizing:=false) cl.callee,cl.args.toList,cl.argTypes.toList with
    | .builtin .cap,[x],[t]=>ax a x&&(match (generalizing:=false) iH C t with|some (.slice _)=>true|_=>false)
    |_,_,_=>false)
   |_=>false)=true:=hk
  split at hk
  ·rename_i cl;split at hk
   ·rename_i x t h1 h2 h3;simp only[aB] at hk;obtain⟨k1,k2⟩:=hk;have hcl:cl={ callee:= .builtin .cap,args:=#[x],argTypes:=#[t] }:=by
     obtain⟨cc,ca,ct⟩:=cl;simp only at h1 h2 h3;subst h1;have e4:ca=#[x]:=by apply jW;simpa using h2
     have e5:ct=#[t]:=by apply jW;simpa using h3
     rw[e4,e5]
    rw[hcl] at ho;split at k2
    ·rename_i e he;exact YE X (t:=t) rfl (pZ hC he) ho k1
    ·cases k2
   ·cases hk
  ·cases hk
 |min l=>
  replace hk:(match (generalizing:=false) oo with| .call cl=>(match (generalizing:=false) cl.callee with| .builtin .min=>jo l cl.args.toList|_=>false)|_=>false)=true:=hk;split at hk
  ·rename_i cl;split at hk
   ·rename_i h1;obtain⟨cc,ca,ct⟩:=cl;simp only at h1 hk;subst h1;exact Zh X ho hk
   ·cases hk
  ·cases hk
 |max l=>
  replace hk:(match (generalizing:=false) oo with| .call cl=>(match (generalizing:=false) cl.callee with| .builtin .max=>jo l cl.args.toList|_=>false)|_=>false)=true:=hk;split at hk
  ·rename_i cl;split at hk
   ·rename_i h1;obtain⟨cc,ca,ct⟩:=cl;simp only at h1 hk;subst h1;exact Zi X ho hk
   ·cases hk
  ·cases hk
 |tal T z=>
  replace hk:(match (generalizing:=false) oo with| .alloc t=>(match (generalizing:=false) C.ty.get t with|some i=>Nat.beq T t&&jJ z i.zs|none=>false)|_=>false)=true:=hk;split at hk
  ·rename_i t;cases ht:C.ty.get t with
   |none=>rw[ht] at hk;cases hk
   |some i=>
    rw[ht] at hk;simp only[aB,bu,aU] at hk;exact Zu (hC.ty t i ht) X hk.1 ho (nI hk.2)
  ·cases hk
 |tbx T a=>
  replace hk:(match (generalizing:=false) oo with| .box t x=>Nat.beq T t&&ax a x|_=>false)=true:=hk;split at hk
  ·simp only[aB,bu,aU] at hk;exact Zv X hk.1 ho hk.2
  ·cases hk
 |tst a v n=>
  replace hk:(match (generalizing:=false) oo with| .store t x y=>(match (generalizing:=false) C.ty.get t with|some i=>ax a x&&ax v y&&Nat.beq n i.size|none=>false)|_=>false)=true:=hk;split at hk
  ·rename_i t x y;cases ht:C.ty.get t with
   |none=>rw[ht] at hk;cases hk
   |some i=>
    rw[ht] at hk;simp only[aB,bu,aU] at hk;exact Zw (hC.ty t i ht) X ho hk.1.1 hk.1.2 hk.2
  ·cases hk
 |tld a n agg=>
  replace hk:(match (generalizing:=false) oo with| .load t x=>(match (generalizing:=false) C.ty.get t with|some i=>ax a x&&Nat.beq n i.size&&(agg==i.kd.isRow)|none=>false)|_=>false)=true:=hk;split at hk
  ·rename_i t x;cases ht:C.ty.get t with
   |none=>rw[ht] at hk;cases hk
   |some i=>
    rw[ht] at hk;simp only[aB,bu,aU,mD] at hk;exact Yg (hC.ty t i ht) X ho hk.1.1 hk.1.2 hk.2
  ·cases hk
 |appz a b esz bs z=>
  replace hk:(match (generalizing:=false) oo with
   | .call cl=>(match (generalizing:=false) cl.callee,cl.args.toList,cl.argTypes.toList with
    | .builtin .append,[x,y],[t,tx]=>(match (generalizing:=false) fZ C t with|some i=>jJ z i.zs&&Nat.beq esz i.size&&Nat.beq z.length esz&&Nat.ble 1 esz&&Nat.ble i.bytes 1048576|none=>false)&&(match (generalizing:=false) iH C tx with|some (.int _)=>true|_=>false)&&ax a x&&ax b y
    |_,_,_=>false)
   |_=>false)=true:=hk
  split at hk
  ·rename_i cl;split at hk
   ·rename_i x y t tx h1 h2 h3;simp only[aB] at hk;obtain⟨⟨⟨k1,k2⟩,k3⟩,k4⟩:=hk;cases ht:fZ C t with
    |none=>rw[ht] at k1;cases k1
    |some i=>
     rw[ht] at k1;simp only[aB,bu,dm,aU] at k1;obtain⟨e,e1,e2,e3⟩:=qb hC ht;have hcl:cl={ callee:= .builtin .append,args:=#[x,y],argTypes:=#[t,tx] }:=by
      obtain⟨cc,ca,ct⟩:=cl;simp only at h1 h2 h3;subst h1;have e4:ca=#[x,y]:=by apply jW;simpa using h2
      have e5:ct=#[t,tx]:=by apply jW;simpa using h3
      rw[e4,e5]
     split at k2
     ·rename_i kn hkn;exact ZD e3 X e1 (pZ hC hkn) (by rw[ho,hcl]) k3 k4 (nI k1.1.1.1.1) k1.1.1.1.2 k1.1.1.2 k1.1.2 k1.2
     ·cases k2
   ·cases hk
  ·cases hk
 |tap T a b esz bs=>
  replace hk:(match (generalizing:=false) oo with
   | .call cl=>(match (generalizing:=false) cl.callee,cl.args.toList,cl.argTypes.toList with
    | .builtin .append,[x,y],[t,tx]=>Gs C T t esz&&((fZ C tx).isSome||jb C tx)&&ax a x&&ax b y
    |_,_,_=>false)
   |_=>false)=true:=hk
  split at hk
  ·rename_i cl;split at hk
   ·rename_i x y t tx h1 h2 h3;simp only[aB] at hk;obtain⟨⟨⟨k1,k2⟩,k3⟩,k4⟩:=hk;unfold Gs at k1;cases ht:C.ty.get t with
    |none=>rw[ht] at k1;cases k1
    |some j=>
     rw[ht] at k1;dsimp only at k1;split at k1
     ·rename_i e he;cases hi:C.ty.get e with
      |none=>rw[hi] at k1;cases k1
      |some i=>
       rw[hi] at k1;simp only[aB,bu,dm,aU] at k1;have hcl:cl={ callee:= .builtin .append,args:=#[x,y],argTypes:=#[t,tx] }:=by
        obtain⟨cc,ca,ct⟩:=cl;simp only at h1 h2 h3;subst h1;have e4:ca=#[x,y]:=by apply jW;simpa using h2
        have e5:ct=#[t,tx]:=by apply jW;simpa using h3
        rw[e4,e5]
       refine ZF (hC.ty e i hi) X (by rw[←he];exact(hC.ty t j ht).und) ?_ (by rw[ho,hcl]) k3 k4 k1.1.1.2 k1.1.2 k1.2 k1.1.1.1;simp only[ja] at k2;rcases k2 with k2|k2
       ·cases hx:fZ C tx with
        |none=>rw[hx] at k2;cases k2
        |some j=>obtain⟨e',e1',_⟩:=qb hC hx;exact .inl ⟨e',e1'⟩
       ·exact .inr (rT hC k2)
     ·cases k1
   ·cases hk
  ·cases hk
 |cvp a=>
  replace hk:(match (generalizing:=false) oo with
   | .convert s t x=>(match (generalizing:=false) iH C s,iH C t with|some (.pointer k),some .unsafePointer=>(match (generalizing:=false) C.ty.get k with|some j=> !(Nat.beq j.size 0)|none=>false)|_,_=>false)&&ax a x
   |_=>false)=true:=hk
  split at hk
  ·rename_i s t x;simp only[aB] at hk;obtain⟨k1,k2⟩:=hk;split at k1
   ·rename_i k e1 e2;cases hj:C.ty.get k with
    |none=>rw[hj] at k1;cases k1
    |some j=>
     rw[hj] at k1;simp only[jH,bu,Cr] at k1;exact Zx (pZ hC e1) (hC.ty k j hj) k1 (pZ hC e2) X ho k2
   ·cases k1
  ·cases hk
 |cvu tbl a=>
  replace hk:(match (generalizing:=false) oo with
   | .convert s t x=>(match (generalizing:=false) iH C s,iH C t with
    |some .unsafePointer,some (.pointer u)=>(C.ty.get u).isSome&&C.vw.any (λe=>Nat.beq e.1 u&&Mu e.2 tbl)
    |_,_=>false)&&ax a x
   |_=>false)=true:=hk
  split at hk
  ·rename_i s t x;simp only[aB] at hk;obtain⟨k1,k2⟩:=hk;split at k1
   ·rename_i u e1 e2;simp only[aB,qK,bu,aU] at k1;obtain⟨k3,q,k4,k5,k6⟩:=k1;cases hj:C.ty.get u with
    |none=>rw[hj] at k3;cases k3
    |some j=>
     refine Zy (pZ hC e1) (pZ hC e2) (hC.ty u j hj) (λz hz=> ?_) X ho k2;have e3:q.2=tbl:=qM k6;rw[←k5];exact hC.vw q k4 z (by rw[e3];exact hz)
   ·cases k1
  ·cases hk
 |usd a=>
  replace hk:(match (generalizing:=false) oo with
   | .call cl=>(match (generalizing:=false) cl.callee,cl.args.toList with| .builtin .unsafeSliceData,[x]=>ax a x|_,_=>false)
   |_=>false)=true:=hk
  split at hk
  ·rename_i cl;split at hk
   ·rename_i x h1 h2;have hcl:cl={ callee:= .builtin .unsafeSliceData,args:=#[x],argTypes:=cl.argTypes }:=by
     obtain⟨cc,ca,ct⟩:=cl;simp only at h1 h2;subst h1;have e4:ca=#[x]:=by apply jW;simpa using h2
     rw[e4]
    exact Zz X (ts:=cl.argTypes) (by rw[ho,←hcl]) hk
   ·cases hk
  ·cases hk
 |ust T a b=>
  replace hk:(match (generalizing:=false) oo with
   | .call cl=>(match (generalizing:=false) cl.callee,cl.args.toList,cl.argTypes.toList with
    | .builtin .unsafeString,[x,y],[pt,_]=>(match (generalizing:=false) iH C pt with|some (.pointer e)=>Nat.beq T e&&(match (generalizing:=false) C.ty.get e with|some j=>Nat.beq j.size 1|none=>false)|_=>false)&&ax a x&&ax b y
    |_,_,_=>false)
   |_=>false)=true:=hk
  split at hk
  ·rename_i cl;split at hk
   ·rename_i x y pt it h1 h2 h3;simp only[aB] at hk;obtain⟨⟨k1,k2⟩,k3⟩:=hk;have hcl:cl={ callee:= .builtin .unsafeString,args:=#[x,y],argTypes:=#[pt,it] }:=by
     obtain⟨cc,ca,ct⟩:=cl;simp only at h1 h2 h3;subst h1;have e4:ca=#[x,y]:=by apply jW;simpa using h2
     have e5:ct=#[pt,it]:=by apply jW;simpa using h3
     rw[e4,e5]
    split at k1
    ·rename_i e e1;simp only[aB,bu,aU] at k1;cases hj:C.ty.get e with
     |none=>rw[hj] at k1;cases k1.2
     |some j=>
      rw[hj] at k1;simp only[aU] at k1;obtain⟨inf,zv,i1,i2,_⟩:=(hC.ty e j hj).info;refine ZA (pZ hC e1) ?_ X (by rw[ho,hcl]) k2 k3 k1.1;simp[Program.cellsOf,i1,i2,k1.2]
    ·cases k1
   ·cases hk
  ·cases hk
 |bad n=>exact trivial
 |_=>cases hk
end
def fw (ro:Option Nat):Fence:={ Fence.wide with round:=ro }
def Mw {ro ro':Option Nat} {n:Nat} {P:Program} {f:FuncId} {args:Array Value} {w:World} {R:Ending ->World ->Prop} (h:CallsIn (fw ro) n P f args w R):CallsIn (fw ro') n P f args w R:=h
def ZJ {ro ro':Option Nat} {n:Nat} {P:Program} {l:Nat} {f:FuncId} {tmps:Array Value} {a b:Code} {w:World} {R:Ending ->World ->Prop}
 (h:RoundIn (fw ro) n P l f tmps a b w R):RoundIn (fw ro') n P l f tmps a b w R:=h
def mJ (P:Program) (r:Result Next) (K:Value ->World ->Prop):Prop:=
 match r with
 | .ok (.value v) w=>K v w
 | .ok (.enter f args) w=>CallsIn (fw none) 0 P f args w λe w'=>match e with| .returned v=>K v w'|_=>False
 | .ok (.round l f tmps a b) w=>RoundIn (fw none) 0 P l f tmps a b w λe w'=>match e with| .returned v=>K v w'|_=>False
 |_=>False
def mJ.mono {P:Program} {r:Result Next} {K K':Value ->World ->Prop} (h:mJ P r K) (hk:∀v w,K v w ->K' v w):mJ P r K':=by
 unfold mJ at*;split at h
 ·exact hk _ _ h
 ·exact vN h λe w'=>by cases e<;>simp;exact hk _ _
 ·exact RoundIn.mono h λe w'=>by cases e<;>simp;exact hk _ _
 ·exact h.elim
def mJ.upon {P:Program} {ro:Option Nat} {o:Oper} {a:Act} {next:Act ->World ->Prop} {Q:Exit ->Act ->World ->Prop} {r:Result Next}
 (h:mJ P r λv w=>next (a.put o.dst v) w):o.uponIn (fw ro) 0 P a next Q r:=by
 unfold mJ at h;split at h
 ·exact h
 ·refine⟨λh=>(by cases h),?_⟩;refine vN (Mw h) λe w'=> ?_;cases e<;>simp
 ·refine⟨λh=>(by cases h),?_⟩;refine RoundIn.mono (ZJ h) λe w'=> ?_;cases e<;>simp
 ·exact h.elim
def Mx {P:Program} {ro:Option Nat} {o:Oper} {a:Act} {w:World} {next:Act ->World ->Prop} {Q:Exit ->Act ->World ->Prop} (hd:∀c,o.op≠.defer c)
 (h:o.uponIn (fw ro) 0 P a next Q ((execOp a.eval o).run P w)):o.wpIn (fw ro) 0 P a w next Q:=
 ⟨λ_ _=>trivial,by rw[Oper.semAt_eq _ _ _ hd];exact h⟩
structure CX (P:Program) (f:Nat):Prop where
 body:∃fn b,P.funcs[f]? =some fn/\ (fn.name== "runtime.NumGoroutine")=false/\ fn.body=some b
 run:∀args w,CallsDIn (fw none) 0 P f args .returning w λe u w'=>(∃v,e= .returned v)/\ u= .returning/\ w'=w
def CY (P:Program) (s:Nat) (c:CE) (h:AH) (w:World) (d:Deferred):Prop:=
 (∃r,d.target= .collected r/\ s<=r/\ r<w.heap.size/\ w.heap[r]? =some (.deferred (some []))/\∀o obj,dU c h o obj ->(c.ρ o).1≠r)∨
 (∃g va,d.target= .fn (.func g) va/\ CX P g)
section
variable {P:Program} {CR:Nat ->Code ->aw ->Prop}
structure lO (P:Program) (s:Nat) (c:CE) (h:AH) (w:World) (l:List Deferred):Prop where
 all:∀d∈l,CY P s c h w d
 apart:l.Pairwise (λd e=>∀r,d.target= .collected r ->e.target≠.collected r)
def lO.nil {s:Nat} {c:CE} {h:AH} {w:World}:lO P s c h w []:=⟨λ_ h=>(by cases h),.nil⟩
def CY.evo {s:Nat} {c c':CE} {h h':AH} {w w':World} {d:Deferred} (m:CY P s c h w d) (e:j6 c h w c' h' w'):CY P s c' h' w' d:=by
 rcases m with ⟨r,h1,h2,h3,h4,h5⟩|m
 case inr=>exact .inr m
 refine .inl ⟨r,h1,h2,iR h3 e.size,by rw[e.same r h3 h5];exact h4,λo obj ho hr=> ?_⟩;rcases e.new o obj ho with h6|⟨o₀,obj₀,h6,h7⟩
 ·omega
 ·exact h5 o₀ obj₀ h6 (h7.trans hr)
def lO.evo {s:Nat} {c c':CE} {h h':AH} {w w':World} {l:List Deferred} (m:lO P s c h w l) (e:j6 c h w c' h' w'):lO P s c' h' w' l:=
 ⟨λd hd=>(m.all d hd).evo e,m.apart⟩
structure St (P:Program) (CR:Nat ->Code ->aw ->Prop) (GL:T (List AV)) (N s:Nat) (c:CE) (h:AH) (w:World) (τ:T AV) (a:Act):Prop where
 rs:RS CR c h w
 gl:∀g l,GL.get g=some l ->c.gl g=some l
 tr:TR c τ a.tmps
 sz:N<=a.tmps.size
 marks:lO P s c h w a.defers
def z8 {GL:T (List AV)} {c c':CE} (hg:∀g l,GL.get g=some l ->c.gl g=some l) (e:gE c c'):∀g l,GL.get g=some l ->c'.gl g=some l:=
 λg l hl=>by rw[e.gl];exact hg g l hl
def cj (τ:T AV) (d:Option Nat) (v:AV):T AV:=match d with|none=>τ|some d=>τ.put d v
def TR.put {c:CE} {τ:T AV} {a:Act} (h:TR c τ a.tmps) {d:Option Nat} (hd:∀t,d=some t ->t<a.tmps.size) {x:AV} {v:Value} (hv:VR c x v):TR c (cj τ d x) (a.put d v).tmps:=by
 cases d with
 |none=>exact h
 |some t=>
  intro k y hy;replace hy:(τ.put t x).get k=some y:=hy;rw[T.get_put] at hy;have hs:(a.put (some t) v).tmps=a.tmps.setIfInBounds t v:=rfl;rw[hs];by_cases e:k=t
  ·subst e;rw[aF rfl] at hy;cases hy;exact⟨v,by simp[hd k rfl],hv⟩
  ·rw[aD e] at hy;obtain⟨v',h1,h2⟩:=h k y hy;exact⟨v',by rw[Fz (λq=>e q.symm)];exact h1,h2⟩
def iI {R:Type} (τ:T AV) (d:Option Nat) (v:AV) (k:T AV ->R):eh τ d v k=k (cj τ d v):=by
 cases d with
 |none=>rfl
 |some d=>show τ.setK d v k=_;rw[T.setK_put];rfl
def St.step {GL:T (List AV)} {N s:Nat} {c c':CE} {h h':AH} {w w':World} {τ:T AV} {a:Act} (S:St P CR GL N s c h w τ a) (e:cH CR c h w c' h' w')
 {d:Option Nat} (hd:∀t,d=some t ->t<N) {x:AV} {v:Value} (hv:VR c' x v):St P CR GL N s c' h' w' (cj τ d x) (a.put d v):=
 ⟨e.rs,z8 S.gl e.ext,TR.put (S.tr.mono e.ext) (λt ht=>iR (hd t ht) S.sz) hv,
  by cases d<;>simp[Act.put]<;>exact S.sz,by cases d<;>exact S.marks.evo e.keep⟩
end
def Gv (N:Nat):Option Nat ->Option Nat ->Bool
 |none,none=>true
 |some a,some b=>Nat.beq a b&&Nat.ble (Nat.succ a) N
 |_,_=>false
def My (ops:Array Oper):Option (Nat×Bool) ->Option (Nat×Bool) ->Bool
 |none,none=>true
 |some (j,w),some (t,w')=>(w==w')&&(match ops[j]? with|some o=>(match o.dst with|some d=>Nat.beq d t|none=>false)|none=>false)
 |_,_=>false
def lP (X:aR) (N:Nat) (ops:Array Oper) (o:Oper) (g:MG):Bool:=
 CW X o.op g.op&&(Gv N o.dst g.dst&&My ops o.guard g.guard)
def Gw (X:aR) (N:Nat) (ops:Array Oper) (l:List MG):List Oper ->Bool:=
 List.rec (motive:=λ_=>List Oper ->Bool) (λv=>List.isEmpty v) (λg _ ih v=>match v with|[]=>false|o::r=>lP X N ops o g&&ih r) l
def uy {N:Nat} {a b:Option Nat} (h:Gv N a b=true):a=b/\∀t,b=some t ->t<N:=by
 unfold Gv at h;split at h
 ·exact⟨rfl,λt ht=>by cases ht⟩
 ·simp only[aB,bu,dm,aU] at h;obtain⟨rfl,h⟩:=h;exact⟨rfl,λt ht=>by cases ht;exact h⟩
 ·cases h
def Mz {X:aR} {oo:Op} {m:jn} (h:CW X oo m=true):∀c,oo≠.defer c:=by
 intro c e;subst e;cases m<;>cases h
def Aa (P:Program) (CR:Nat ->Code ->aw ->Prop) (k:AV ->AH ->Prop) (c:CE) (h:AH) (w:World) (r:Result Next):Prop:=
 mJ P r λv w'=>∃x h' c',k x h'/\ cH CR c h w c' h' w'/\ VR c' x v
section
variable {P:Program} {CR:Nat ->Code ->aw ->Prop} {X:aR} {C:aK Prop}
structure CfgOK (C:aK Prop):Prop where
 fail:C.fail=False
 both:∀p q,C.both p q=(p/\ q)
def ZK (hC:CfgOK C) {f:AV ->AH ->Prop}:∀{l:List (AV×AH)},gQ C f l ->∀e∈l,f e.1 e.2:=by
 intro l;induction l with
 |nil=>intro _ e he;cases he
 |cons a t ih=>
  intro h e he;cases t with
  |nil=>
   have h':f a.1 a.2:=h;rcases ed.1 he with rfl|he
   ·exact h'
   ·cases he
  |cons b r=>
   have h':C.both (f a.1 a.2) (gQ C f (b::r)):=h;rw[hC.both] at h';rcases ed.1 he with rfl|he
   ·exact h'.1
   ·exact ih h'.2 e he
def uz (P:Program) (CR:Nat ->Code ->aw ->Prop) (GL:T (List AV)) (bz:Nat ->List AV ->AH ->(AV ->AH ->Prop) ->Prop):Prop:=
 ∀f args h k,bz f args h k ->∀c w vs,RS CR c h w ->(∀g l,GL.get g=some l ->c.gl g=some l) ->bX c args vs ->Aa P CR k c h w ((callFunc f vs.toArray).run P w)
def uA (P:Program) (CR:Nat ->Code ->aw ->Prop) (GL:T (List AV)) (bA:Nat ->List AV ->AH ->(AV ->AH ->Prop) ->Prop):Prop:=
 ∀l args h k,bA l args h k ->∀c w vs,RS CR c h w ->(∀g l,GL.get g=some l ->c.gl g=some l) ->c.dM l ->bX c args vs ->Aa P CR k c h w ((Instr.yield (c.ρ l).1 vs.toArray).run P w)
def MB {ro:Option Nat} {N s:Nat} {c:CE} {h:AH} {w:World} {τ:T AV} {a:Act} {GL:T (List AV)} (S:St P CR GL N s c h w τ a) {k:AV ->AH ->Prop} {r:Result Next} (H:Aa P CR k c h w r)
 {o:Oper} {d:Option Nat} (hd:o.dst=d/\∀t,d=some t ->t<N) {next:Act ->World ->Prop} {Q:Exit ->Act ->World ->Prop}
 (hn:∀x h' c' w' a',k x h' ->cH CR c h w c' h' w' ->St P CR GL N s c' h' w' (cj τ d x) a' ->next a' w'):o.uponIn (fw ro) 0 P a next Q r:=by
 refine mJ.upon (mJ.mono H λv w'=> ?_);rintro⟨x,h',c',h1,h2,h3⟩;refine hn x h' c' w' _ h1 h2 ?_;rw[hd.1];exact S.step h2 hd.2 h3
def CZ (hX:j7 P X) (hC:CfgOK C) {bz bA:Nat ->List AV ->AH ->(AV ->AH ->Prop) ->Prop} (hcall:uz P CR C.gL bz) (hyld:uA P CR C.gL bA)
 {ro:Option Nat} {N s:Nat} {ops:Array Oper} {Q:Exit ->Act ->World ->Prop} {i:Nat} {o:Oper} {g:MG} (aC:ops[i]? =some o) (hk:lP X N ops o g=true)
 {τ:T AV} {h:AH} {c:CE} {w:World} {a:Act} {k:AV ->AH ->Prop} (hr:eY C bz bA g τ h k) (S:St P CR C.gL N s c h w τ a) {K:Act ->World ->Prop}
 (hn:∀x h' c' w' a',k x h' ->cH CR c h w c' h' w' ->St P CR C.gL N s c' h' w' (cj τ g.dst x) a' ->K a' w'):wpOpIn (fw ro) 0 P ops Q i K a w:=by
 simp only[aB,lP] at hk;obtain⟨k1,k2,k3⟩:=hk;have fH:=uy k2;obtain⟨dst,op,guard⟩:=g;dsimp only at*;have hact:(match step (az C τ) h op with
  | .v x h=>k x h
  | .call f args h=>bz f args h k
  | .yld l args h=>bA l args h k
  | .alts l=>gQ C k l
  | .bad=>C.fail) ->o.wpIn (fw ro) 0 P a w K Q:=by
  intro hact;refine Mx (Mz k1) ?_;have hx:Cx CR c h w (az C τ) a.eval:=⟨S.rs,λm x hm=>zT C S.tr S.gl S.rs.gl hm⟩;have SG:=ZI hX hx (o:=o) (λf=>rfl) k1;generalize hres:step (az C τ) h op=res at hact SG;generalize (execOp a.eval o).run P w=out at SG;have hgood:∀x h',cV CR c h w x h' out ->k x h' ->o.uponIn (fw ro) 0 P a K Q out:=by
   intro x h' G hx;obtain⟨c',w',nx,rfl,e,h3⟩:=G;rcases h3 with ⟨v,rfl,h3⟩|⟨rfl,rfl⟩
   ·rw[Oper.uponIn_value,fH.1];exact hn x h' c' w' _ hx e (S.step e fH.2 h3)
   ·rw[Oper.uponIn_skip,fH.1];exact hn .un h' c' w' _ hx e (S.step e fH.2 (.un _))
  cases res with
  |v x h'=>exact hgood x h' SG hact
  |call f args h'=>
   dsimp only at hact;obtain⟨rfl,vs,h2,rfl⟩:=SG;exact MB S (hcall _ _ _ _ hact c w vs S.rs S.gl h2) fH hn
  |yld l args h'=>
   dsimp only at hact;obtain⟨rfl,h1,vs,h2,rfl⟩:=SG;exact MB S (hyld _ _ _ _ hact c w vs S.rs S.gl h1 h2) fH hn
  |alts l=>
   dsimp only at hact;obtain⟨e,he,G⟩:=SG;exact hgood _ _ G (ZK hC hact e he)
  |bad=>rw[hC.fail] at hact;exact hact.elim
 have hskip:k (.tu []) h ->K (a.put o.dst undef) w:=by
  intro hs;rw[fH.1];exact hn (.tu []) h c w _ hs (cH.refl S.rs) (S.step (cH.refl S.rs) fH.2 (.tu [] [] .nil))
 unfold wpOpIn;simp only[aC];cases guard with
 |none=>
  cases hg:o.guard with
  |some q=>rw[hg] at k3;cases k3
  |none=>
   have hw:Region.wanted o (yielded ops a.tmps)=true:=by simp[Region.wanted,hg]
   simp only[hw,dZ];exact hact hr
 |some q=>
  obtain⟨t,want⟩:=q;cases hg:o.guard with
  |none=>rw[hg] at k3;cases k3
  |some q'=>
   obtain⟨j,want'⟩:=q';rw[hg] at k3;simp only[My,aB,mD] at k3;obtain⟨rfl,k5⟩:=k3;cases hj:ops[j]? with
   |none=>rw[hj] at k5;cases k5
   |some oj=>
    rw[hj] at k5;dsimp only at k5;cases hdj:oj.dst with
    |none=>rw[hdj] at k5;cases k5
    |some d=>
     rw[hdj] at k5;simp only[bu,aU] at k5;subst k5;have cy:(match τ.get d with
      |some (.b x)=>(Bool.rec (k (.tu []) h) (match step (az C τ) h op with
       | .v x h=>k x h
       | .call f args h=>bz f args h k
       | .yld l args h=>bA l args h k
       | .alts l=>gQ C k l
       | .bad=>C.fail) (bif x then want' else !want'):Prop)
      |some (.tu [])=>k (.tu []) h
      |_=>C.fail):=hr
     split at cy
     ·rename_i x hx;obtain⟨v',e1,e2⟩:=S.tr d _ hx;cases e2;have hy:yielded ops a.tmps j=some x:=by simp[yielded,hj,hdj,e1]
      have hw:Region.wanted o (yielded ops a.tmps)=(bif x then want' else !want'):=by
       simp only[Region.wanted,hg,hy];cases x<;>cases want'<;>rfl
      rw[hw];cases hb:(bif x then want' else !want') with
      |true=>rw[hb] at cy;simp only[dZ];exact hact cy
      |false=>
       rw[hb] at cy;simp only[nr,bV];exact⟨λ_ _=>trivial,hskip cy⟩
     ·rename_i hx;obtain⟨v',e1,e2⟩:=S.tr d _ hx;cases e2 with
      |tu _ vs e3=>
       cases e3;have hy:yielded ops a.tmps j=none:=by simp[yielded,hj,hdj,e1]
       have hw:Region.wanted o (yielded ops a.tmps)=false:=by
        simp only[Region.wanted,hg,hy];cases want'<;>rfl
       rw[hw];simp only[nr,bV];exact⟨λ_ _=>trivial,hskip cy⟩
     ·rw[hC.fail] at cy;exact cy.elim
def ZL (hX:j7 P X) (hC:CfgOK C) {bz bA:Nat ->List AV ->AH ->(AV ->AH ->Prop) ->Prop} (hcall:uz P CR C.gL bz) (hyld:uA P CR C.gL bA)
 {ro:Option Nat} {N s:Nat} {ops:Array Oper} {Q:Exit ->Act ->World ->Prop} {K:T AV ->AH ->Prop}:∀(gs:List MG) (l:List Oper) (k:Nat),(∀j o,l[j]? =some o ->ops[k+j]? =some o) ->Gw X N ops gs l=true ->
 ∀(τ:T AV) (h:AH) (c:CE) (w:World) (a:Act),dO C bz bA K gs τ h ->St P CR C.gL N s c h w τ a ->
  (∀c' h' w' τ' a',K τ' h' ->cH CR c h w c' h' w' ->St P CR C.gL N s c' h' w' τ' a' ->Q .normal a' w') ->wpOpsIn (fw ro) 0 P ops Q (List.range' k l.length) a w:=by
 intro gs;induction gs with
 |nil=>
  intro l k hl hk τ h c w a hr S hQ;cases l with
  |nil=>exact hQ c h w τ a hr (cH.refl S.rs) S
  |cons o r=>cases hk
 |cons g gs ih=>
  intro l k hl hk τ h c w a hr S hQ;cases l with
  |nil=>cases hk
  |cons o r=>
   have hk':(lP X N ops o g&&Gw X N ops gs r)=true:=hk;simp only[aB] at hk';have aC:ops[k]? =some o:=by simpa using hl 0 o rfl
   replace hr:eY C bz bA g τ h (λx h=>eh τ g.dst x λτ=>dO C bz bA K gs τ h):=hr;rw[show(o::r).length=r.length+1 from rfl,Cc,wpOpsIn_cons];refine CZ hX hC hcall hyld aC hk'.1 hr S λx h' c' w' a' h1 h2 h3=> ?_;rw[iI] at h1;refine ih r (k+1) (λj o' hj=> ?_) hk'.2 _ _ c' w' a' h1 h3 λc'' h'' w'' τ'' a'' q1 q2 q3=>hQ _ _ _ _ _ q1 (h2.trans q2) q3;have:=hl (j+1) o' hj;rw[←this];congr 1;omega
end
def cX:jn ->List MA
 | .mv a=>[a]| .pick c a b=>[c,a,b]| .alloc _=>[]| .box a _=>[a]
 | .build _ ps=>ps.map (·.2.2)| .bslice _ _ _ ps=>ps.map (·.2.2)
 | .load a _ _=>[a]| .store a v _=>[a,v]| .nilc a=>[a]| .bin _ x y=>[x,y]| .eqv _ _ x y=>[x,y]| .un _ x=>[x]
 | .cvi _ x=>[x]| .cvs x=>[x]| .s2b x=>[x]| .b2s x=>[x]| .mif _ x=>[x]| .mfn _ fi ca=>fi++ca
 | .mmap r=>r.toList| .mslice _ _ _ l c=>[l,c]
 | .slc _ x lo hi mx=>x::(lo.toList++(hi.toList++mx.toList))| .slcs x lo hi=>x::(lo.toList++hi.toList)
 | .slca _ _ x lo hi mx=>x::(lo.toList++(hi.toList++mx.toList))
 | .fadr x _=>[x]| .fld x _ _ _=>[x]| .iadr _ x i=>[x,i]| .iadra _ _ x i=>[x,i]| .idxs x i=>[x,i]| .idxa _ _ _ x i=>[x,i]
 | .look _ m k _ _=>[m,k]| .mupd _ m k v=>[m,k,v]| .ment _ m k _=>[m,k]| .mest m s v=>[m,s,v]
 | .rng x _=>[x]| .nxt x _=>[x]| .ent x=>[x]| .tas x _ _ _=>[x]| .ext x _=>[x]
 | .call _ l=>l| .callv f l=>f::l| .calli r _ l=>r::l
 | .app s x _ _=>[s,x]| .appz s x _ _ _=>[s,x]| .len _ x=>[x]| .cap x=>[x]| .copy d s _=>[d,s]
 | .min l=>l| .max l=>l| .del _ m k=>[m,k]| .bad _=>[]
 | .tal .. =>[]| .tbx _ a=>[a]| .tst a v _=>[a,v]| .tld a _ _=>[a]| .tap _ s x _ _=>[s,x]| .cvp x=>[x]| .cvu _ x=>[x]| .usd x=>[x]| .ust _ p n=>[p,n]
section
variable {ev ev':MA ->AV}
def uB:∀{l:List MA},(∀m∈l,ev m=ev' m) ->eE ev l=eE ev' l
 |[],_=>rfl
 |a::t,h=>by
  have e1:eE ev (a::t)=(Option.rec none (λb=>Option.rec none (λt=>some (b::t)) (eE ev t)) (fV (ev a) some):Option (List AV)):=rfl;have e2:eE ev' (a::t)=(Option.rec none (λb=>Option.rec none (λt=>some (b::t)) (eE ev' t)) (fV (ev' a) some):Option (List AV)):=rfl;rw[e1,e2,h a jG,uB λm hm=>h m (jw _ hm)]
def Gx:∀{ps:List (Nat×Nat×MA)},(∀m∈ps.map (·.2.2),ev m=ev' m) ->ik ev ps=ik ev' ps
 |[],_=>rfl
 |p::t,h=>by
  have ih:=Gx (ps:=t) λm hm=>h m (jw _ hm);have e:=h p.2.2 jG;funext l;have e1:ik ev (p::t) l=(match cellsO (ev p.2.2) with
   |some c=>bif Nat.beq (len c) p.2.1 then (match dW c l p.1 with|some l=>ik ev t l|none=>none) else none
   |none=>none):=rfl
  have e2:ik ev' (p::t) l=(match cellsO (ev' p.2.2) with
   |some c=>bif Nat.beq (len c) p.2.1 then (match dW c l p.1 with|some l=>ik ev' t l|none=>none) else none
   |none=>none):=rfl
  rw[e1,e2,e,ih]
def tp {a:MA} (h:ev a=ev' a):nA ev a=nA ev' a:=by unfold nA;rw[h]
def uC {a:Option MA} (h:∀m∈a.toList,ev m=ev' m):nO ev a=nO ev' a:=by
 cases a with
 |none=>rfl
 |some a=>unfold nO;dsimp only;rw[tp (h a (by simp))]
def wj {h:AH} {op:jn} (H:∀m∈cX op,ev m=ev' m):step ev h op=step ev' h op:=by
 cases op with
 |build z ps=>unfold step;dsimp only;rw[Gx H]
 |bslice z n e ps=>unfold step;dsimp only;rw[Gx H]
 |mfn f a b=>unfold step;dsimp only;rw[uB λm hm=>H m (xI _ hm),uB λm hm=>H m (FI _ hm)]
 |mmap r=>cases r with
  |none=>rfl
  |some a=>unfold step;dsimp only;rw[H a (by simp[cX])]
 |mslice z e b l c=>unfold step;dsimp only;rw[tp (H l (by simp[cX])),tp (H c (by simp[cX]))]
 |slc es x lo hi mx=>
  have h1:=H x (by simp[cX]);have h2:=uC (a:=lo) λm hm=>H m (by simp only[cX,ed,fO];exact .inr (.inl hm));have h3:=uC (a:=hi) λm hm=>H m (by simp only[cX,ed,fO];exact .inr (.inr (.inl hm)));have h4:=uC (a:=mx) λm hm=>H m (by simp only[cX,ed,fO];exact .inr (.inr (.inr hm)));unfold step;cases mx with
  |none=>dsimp only;rw[h1,h2,h3,h4]
  |some mz=>dsimp only;rw[h1,h2,h3,h4]
 |slcs x lo hi=>
  unfold step;dsimp only;rw[H x (by simp[cX]),uC (a:=lo) λm hm=>H m (by simp only[cX,ed,fO];exact .inr (.inl hm)),uC (a:=hi) λm hm=>H m (by simp only[cX,ed,fO];exact .inr (.inr hm))]
 |slca n es x lo hi mx=>
  unfold step;dsimp only;rw[H x (by simp[cX]),uC (a:=lo) λm hm=>H m (by simp only[cX,ed,fO];exact .inr (.inl hm)),uC (a:=hi) λm hm=>H m (by simp only[cX,ed,fO];exact .inr (.inr (.inl hm))),
   uC (a:=mx) λm hm=>H m (by simp only[cX,ed,fO];exact .inr (.inr (.inr hm)))]
 |call f l=>unfold step;dsimp only;rw[uB (l:=l) H]
 |callv f l=>unfold step;dsimp only;rw[uB λm hm=>H m (jw _ hm),H f jG]
 |calli r t l=>unfold step;dsimp only;rw[uB λm hm=>H m (jw _ hm),H r jG]
 |min l=>unfold step;dsimp only;rw[uB (l:=l) H]
 |max l=>unfold step;dsimp only;rw[uB (l:=l) H]
 |alloc z=>rfl
 |bad w=>rfl
 |tal T z=>rfl
 |tbx T a=>unfold step;dsimp only;rw[H a (by simp[cX])]
 |tst a v n=>unfold step;dsimp only;rw[H a (by simp[cX]),H v (by simp[cX])]
 |tld a n g=>unfold step;dsimp only;rw[H a (by simp[cX])]
 |tap T s x e b=>unfold step;dsimp only;rw[H s (by simp[cX]),H x (by simp[cX])]
 |cvp x=>unfold step;dsimp only;rw[H x (by simp[cX])]
 |cvu t x=>unfold step;dsimp only;rw[H x (by simp[cX])]
 |usd x=>unfold step;dsimp only;rw[H x (by simp[cX])]
 |ust T p n=>unfold step;dsimp only;rw[H p (by simp[cX]),H n (by simp[cX])]
 |pick c a b=>unfold step;dsimp only;rw[H c (by simp[cX]),H a (by simp[cX]),H b (by simp[cX])]
 |store a v n=>unfold step;dsimp only;rw[H a (by simp[cX]),H v (by simp[cX])]
 |bin o x y=>unfold step;dsimp only;rw[H x (by simp[cX]),H y (by simp[cX])]
 |eqv o e x y=>unfold step;dsimp only;rw[H x (by simp[cX]),H y (by simp[cX])]
 |iadr e x y=>unfold step;dsimp only;rw[H x (by simp[cX]),tp (H y (by simp[cX]))]
 |iadra n e x y=>unfold step;dsimp only;rw[H x (by simp[cX]),tp (H y (by simp[cX]))]
 |idxs x y=>unfold step;dsimp only;rw[H x (by simp[cX]),tp (H y (by simp[cX]))]
 |idxa n e g x y=>unfold step;dsimp only;rw[H x (by simp[cX]),tp (H y (by simp[cX]))]
 |look e m k z ok=>unfold step;dsimp only;rw[H m (by simp[cX]),H k (by simp[cX])]
 |mupd e m k v=>unfold step;dsimp only;rw[H m (by simp[cX]),H k (by simp[cX]),H v (by simp[cX])]
 |ment e m k z=>unfold step;dsimp only;rw[H m (by simp[cX]),H k (by simp[cX])]
 |mest m s v=>unfold step;dsimp only;rw[H m (by simp[cX]),tp (H s (by simp[cX])),H v (by simp[cX])]
 |app s x e b=>unfold step;dsimp only;rw[H s (by simp[cX]),H x (by simp[cX])]
 |appz s x e b z=>unfold step;dsimp only;rw[H s (by simp[cX]),tp (H x (by simp[cX]))]
 |copy d s e=>unfold step;dsimp only;rw[H d (by simp[cX]),H s (by simp[cX])]
 |del e m k=>unfold step;dsimp only;rw[H m (by simp[cX]),H k (by simp[cX])]
 |len k x=>cases k<;>(unfold step;dsimp only;try rw[H x (by simp[cX])])
 |mv a=>unfold step;dsimp only;rw[H a (by simp[cX])]
 |box a n=>unfold step;dsimp only;rw[H a (by simp[cX])]
 |load a n g=>unfold step;dsimp only;rw[H a (by simp[cX])]
 |nilc a=>unfold step;dsimp only;rw[H a (by simp[cX])]
 |un o x=>unfold step;dsimp only;rw[H x (by simp[cX])]
 |cvi k x=>unfold step;dsimp only;rw[H x (by simp[cX])]
 |cvs x=>unfold step;dsimp only;rw[H x (by simp[cX])]
 |s2b x=>unfold step;dsimp only;rw[H x (by simp[cX])]
 |b2s x=>unfold step;dsimp only;rw[H x (by simp[cX])]
 |mif t x=>unfold step;dsimp only;rw[H x (by simp[cX])]
 |fadr x o=>unfold step;dsimp only;rw[H x (by simp[cX])]
 |fld x o n g=>unfold step;dsimp only;rw[H x (by simp[cX])]
 |rng x s=>unfold step;dsimp only;rw[H x (by simp[cX])]
 |nxt x s=>unfold step;dsimp only;rw[H x (by simp[cX])]
 |ent x=>unfold step;dsimp only;rw[H x (by simp[cX])]
 |tas x t ok z=>unfold step;dsimp only;rw[H x (by simp[cX])]
 |ext x i=>unfold step;dsimp only;rw[H x (by simp[cX])]
 |cap x=>unfold step;dsimp only;rw[H x (by simp[cX])]
end
def xX:jn ->Bool
 | .mv _| .pick .. | .build .. | .load .. | .nilc _| .bin .. | .eqv .. | .un .. | .cvi .. | .cvs _| .b2s _| .mif .. | .mfn .. | .slc .. | .slcs .. | .slca .. | .fadr .. | .fld ..
 | .iadr .. | .iadra .. | .idxs .. | .idxa .. | .look .. | .ent _| .tas .. | .ext .. | .len .. | .cap _| .min _| .max _| .tld .. | .cvp _| .cvu .. | .usd _=>true
 |_=>false
def C0 {c:Bool} {r s:ay} {x:AV} {h':AH} (e:(bif c then r else s)= .v x h'):r= .v x h'∨s= .v x h':=by
 cases c
 ·exact .inr e
 ·exact .inl e
def C1 {c:Bool} {r s:ay} {x:AV} {h':AH} (e:(Bool.rec r s c:ay)= .v x h'):r= .v x h'∨s= .v x h':=by
 cases c
 ·exact .inl e
 ·exact .inr e
def ZM {ev:MA ->AV} {h h':AH} {op:jn} {x:AV} (hl:xX op=true) (e:step ev h op= .v x h'):h'=h:=by
 cases op<;>first|(cases hl;done)|skip
 case pick=>
  unfold step at e;dsimp only at e;simp only[jK] at e;split at e
  ·rcases C1 e with e|e<;>(cases e;rfl)
  ·cases e
 case look=>
  unfold step at e;dsimp only at e;rcases C0 e with e|e
  ·cases e
  ·split at e
   ·rcases C1 e with e|e<;>(cases e;rfl)
   ·rcases C1 e with e|e<;>(cases e;rfl)
   ·cases e
 case tas=>
  unfold step at e;dsimp only at e;split at e
  ·rcases C0 e with e|e
   ·rcases C1 e with e|e<;>(cases e;rfl)
   ·rcases C0 e with e|e<;>(cases e;try rfl)
  ·rcases C0 e with e|e<;>(cases e;try rfl)
  ·cases e
 case nilc=>unfold step at e;dsimp only at e;split at e<;>(cases e;try rfl)
 all_goals
  unfold step at e;dsimp only at e;try simp only[jK,dT,dr,fv] at e
 all_goals (try unfold vT at e)
 all_goals (try simp only[fv] at e)
 all_goals (repeat' (first|(cases e;rfl)|(cases e;done)|split at e))
def wm {f:AV ->AV ->Bool} (hf:∀x y,f x y=true ->x=y):∀{l m:List AV},cZ.avEqs f l m=true ->l=m
 |[],[],_=>rfl
 |[],_::_,h=>by cases h
 |a::t,[],h=>by cases h
 |a::t,b::r,h=>by
  have h':(f a b&&cZ.avEqs f t r)=true:=h;simp only[aB] at h';rw[hf a b h'.1,wm hf h'.2]
def tv:∀(n:Nat) (x y:AV),cZ n x y=true ->x=y:=by
 intro n;induction n with
 |zero=>
  intro x y h;cases x<;>cases y<;>first|rfl|(simp[cZ] at h;done)|skip
  case b.b p q=>cases p<;>cases q<;>first|rfl|cases h
  case i.i k n k' n'=>
   simp only[cZ,aB,fg] at h;have h1:=zV h.1;subst h1;rw[qM h.2]
  case s.s=>simp only[cZ,mH,aU] at h;rw[h]
  case p.p=>simp only[cZ,aB,bu,aU] at h;rw[h.1,h.2]
  case sl.sl o a n cap e o' a' n' cap' e'=>
   cases cap<;>cases cap'<;>simp only[cZ,aB,bu,aU] at h
   ·obtain⟨rfl,rfl,rfl,rfl⟩:=h;rfl
   ·cases h
   ·cases h
   ·obtain⟨rfl,rfl,rfl,rfl,rfl⟩:=h;rfl
  case m.m=>simp only[cZ,bu,aU] at h;rw[h]
  case y.y=>simp only[cZ,bu,aU] at h;rw[h]
 |succ n ih=>
  intro x y h;cases x<;>cases y<;>first|rfl|(simp[cZ] at h;done)|skip
  case b.b p q=>cases p<;>cases q<;>first|rfl|cases h
  case i.i k n k' n'=>
   simp only[cZ,aB,fg] at h;have h1:=zV h.1;subst h1;rw[qM h.2]
  case s.s=>simp only[cZ,mH,aU] at h;rw[h]
  case p.p=>simp only[cZ,aB,bu,aU] at h;rw[h.1,h.2]
  case sl.sl o a n cap e o' a' n' cap' e'=>
   cases cap<;>cases cap'<;>simp only[cZ,aB,bu,aU] at h
   ·obtain⟨rfl,rfl,rfl,rfl⟩:=h;rfl
   ·cases h
   ·cases h
   ·obtain⟨rfl,rfl,rfl,rfl,rfl⟩:=h;rfl
  case m.m=>simp only[cZ,bu,aU] at h;rw[h]
  case y.y=>simp only[cZ,bu,aU] at h;rw[h]
  case dp.dp=>simp only[cZ,aB,bu,aU] at h;rw[h.1,wm ih h.2]
  case ds.ds=>simp only[cZ,aB,bu,aU] at h;rw[h.1,h.2.1,h.2.2.1,wm ih h.2.2.2]
  case f.f=>simp only[cZ,aB,bu,aU] at h;rw[h.1,wm ih h.2.1,wm ih h.2.2]
  case ifc.ifc=>simp only[cZ,aB,bu,aU] at h;rw[h.1,ih _ _ h.2]
  case ag.ag=>simp only[cZ] at h;rw[wm ih h]
  case tu.tu=>simp only[cZ] at h;rw[wm ih h]
def qc (g:MG):List Nat:=(cX g.op).filterMap (λm=>match m with| .t n=>some n|_=>none)++(match g.guard with|some q=>[q.1]|none=>[])
section
variable {R:Type} (C:aK R)
def wp {τ τ':T AV} {g:MG} (h:∀t∈qc g,τ.get t=τ'.get t):∀m∈cX g.op,az C τ m=az C τ' m:=by
 intro m hm;cases m with
 |t n=>
  have:τ.get n=τ'.get n:=h n (xI _ (List.mem_filterMap.2 ⟨.t n,hm,rfl⟩));show(Option.rec .un (λv=>v) (τ.get n):AV)=Option.rec .un (λv=>v) (τ'.get n);rw[this]
 |c v=>rfl
 |g n=>rfl
def MD {bz bA:Nat ->List AV ->AH ->(AV ->AH ->R) ->R} {τ τ':T AV} {g:MG} (h:∀t∈qc g,τ.get t=τ'.get t) (H:AH) (k:AV ->AH ->R):eY C bz bA g τ H k=eY C bz bA g τ' H k:=by
 have e:=wj (h:=H) (wp C h);obtain⟨dst,op,guard⟩:=g;unfold eY;dsimp only at e ⊢;rw[e];cases guard with
 |none=>rfl
 |some q=>
  obtain⟨t,w⟩:=q;have:τ.get t=τ'.get t:=h t (FI _ (by simp));dsimp only;rw[this]
def Gy {τ τ':T AV} {g:MG} (h:∀t∈qc g,τ.get t=τ'.get t) (H:AH):ez C τ H g=ez C τ' H g:=by
 have e:=wj (h:=H) (wp C h);obtain⟨dst,op,guard⟩:=g;unfold ez;dsimp only at e ⊢;rw[e];cases guard with
 |none=>rfl
 |some q=>
  obtain⟨t,w⟩:=q;have:τ.get t=τ'.get t:=h t (FI _ (by simp));dsimp only;rw[this]
def ZN {bz bA:Nat ->List AV ->AH ->(AV ->AH ->R) ->R} {τ:T AV} {g:MG} (hl:xX g.op=true) {H:AH} {x:AV} (e:ez C τ H g=some x) (k:AV ->AH ->R):eY C bz bA g τ H k=k x H:=by
 obtain⟨dst,op,guard⟩:=g;have hact:∀y,(match step (az C τ) H op with| .v x _=>some x|_=>none)=some y ->(match step (az C τ) H op with
  | .v x h=>k x h
  | .call f args h=>bz f args h k
  | .yld l args h=>bA l args h k
  | .alts l=>gQ C k l
  | .bad=>C.fail)=k y H:=by
  intro y hy;cases hs:step (az C τ) H op with
  |v x h'=>rw[hs] at hy;cases hy;rw[ZM hl hs]
  |_=>rw[hs] at hy;cases hy
 unfold ez at e;unfold eY;dsimp only at e ⊢;cases guard with
 |none=>exact hact x e
 |some q=>
  obtain⟨t,w⟩:=q;dsimp only at e ⊢;cases ht:τ.get t with
  |none=>rw[ht] at e;cases e
  |some v=>
   rw[ht] at e;cases v with
   |b y=>
    dsimp only at e ⊢;cases hb:(bif y then w else !w) with
    |true=>rw[hb] at e;exact hact x e
    |false=>rw[hb] at e;cases e;rfl
   |tu l=>
    cases l with
    |nil=>cases e;rfl
    |cons a r=>cases e
   |_=>cases e
end
def Ab:jn ->Bool
 | .alloc _| .box .. | .bslice .. | .mmap _| .mslice .. | .tal .. | .tbx .. =>true
 |_=>false
section
variable {P:Program} {CR:Nat ->Code ->aw ->Prop}
variable {c:CE} {h:AH} {w:World} {ev:MA ->AV} {ρ:Operand ->Value} {o:Oper} {C:aR}
def ZO (CR:Nat ->Code ->aw ->Prop) (c:CE) (w:World) (ev:MA ->AV) (m:jn) (r:Result Next):Prop:=
 (∃obj val,(∀H,step ev H m=H.new (obj H.ver) λo h=> .v (val o) h)/\ (∀v,live (obj v)=true)/\ nJ CR c w obj val r)∨∀H,step ev H m= .bad
def ZP (hC:j7 P C) (X:Cx CR c h w ev ρ) {m:jn} (ha:Ab m=true) (hk:CW C o.op m=true):ZO CR c w ev m ((execOp ρ o).run P w):=by
 generalize ho:o.op=oo at hk;cases m with
 |alloc z=>
  replace hk:(match (generalizing:=false) oo with| .alloc t=>(match (generalizing:=false) C.ty.get t with|some i=>jJ z i.zs|none=>false)|_=>false)=true:=hk;split at hk
  ·rename_i t;cases ht:C.ty.get t with
   |none=>rw[ht] at hk;cases hk
   |some i=>
    rw[ht] at hk;exact .inl ⟨λver=> .cells ver z,λo=> .p o 0,λH=>rfl,λ_=>rfl,LE (hC.ty t i ht) ho (nI hk)⟩
  ·cases hk
 |tal T z=>
  replace hk:(match (generalizing:=false) oo with| .alloc t=>(match (generalizing:=false) C.ty.get t with|some i=>Nat.beq T t&&jJ z i.zs|none=>false)|_=>false)=true:=hk;split at hk
  ·rename_i t;cases ht:C.ty.get t with
   |none=>rw[ht] at hk;cases hk
   |some i=>
    rw[ht] at hk;simp only[aB,bu,aU] at hk;obtain⟨rfl,hk⟩:=hk;exact .inl ⟨λ_=> .tc T true z,λo=> .p o 0,λH=>rfl,λ_=>rfl,Mr (hC.ty T i ht) ho (nI hk)⟩
  ·cases hk
 |tbx T a=>
  replace hk:(match (generalizing:=false) oo with| .box t x=>Nat.beq T t&&ax a x|_=>false)=true:=hk;split at hk
  ·simp only[aB,bu,aU] at hk;obtain⟨rfl,hk⟩:=hk;cases hc:cellsO (ev a) with
   |none=>right;intro H;unfold step;dsimp only;rw[hc]
   |some l=>exact .inl ⟨λ_=> .tc T true l,λo=> .p o 0,λH=>by unfold step;dsimp only;rw[hc],λ_=>rfl,Ms X ho hk hc⟩
  ·cases hk
 |box a n=>
  replace hk:(match (generalizing:=false) oo with| .box _ x=>ax a x|_=>false)=true:=hk;split at hk
  ·cases hc:cellsO (ev a) with
   |none=>right;intro H;unfold step;dsimp only;rw[hc]
   |some l=>exact .inl ⟨λver=> .cells ver l,λo=> .p o 0,λH=>by unfold step;dsimp only;rw[hc],λ_=>rfl,LF X ho hk hc⟩
  ·cases hk
 |bslice z n esz ps=>
  replace hk:(match (generalizing:=false) oo with
   | .buildSlice t len parts=>match (generalizing:=false) fZ C t with
    |some i=>Nat.beq n len&&jJ z (List.replicate n i.zs).flatten&&Nat.beq esz i.size&&Nat.beq i.zs.length i.size&&Nat.ble (n*esz) 16777216&&pa (λk=>some (k*i.size,i.size)) ps parts.toList
    |none=>false
   |_=>false)=true:=hk
  split at hk
  ·rename_i t len parts;cases ht:fZ C t with
   |none=>rw[ht] at hk;cases hk
   |some i=>
    rw[ht] at hk;simp only[aB,bu,dm,aU] at hk;obtain⟨⟨⟨⟨⟨h1,h2⟩,h3⟩,h4⟩,h5⟩,h6⟩:=hk;subst h1;obtain⟨e,e1,e2,e3⟩:=qb hC ht;cases hf:ik ev ps z with
    |none=>right;intro H;unfold step;dsimp only;rw[hf]
    |some l=>exact .inl ⟨λver=> .cells ver l,λo=> .sl o 0 n (some n) esz,λH=>by unfold step;dsimp only;rw[hf],λ_=>rfl,Mp hC.ty X e1 e2 (nI h2) h3 h4 h5 ho h6 hf⟩
  ·cases hk
 |mmap r=>
  replace hk:(match (generalizing:=false) oo with| .makeMap t x=>gK r x&&(r.isNone||(jA C t).isSome)|_=>false)=true:=hk;split at hk
  ·rename_i t x;simp only[aB,ja] at hk;have ht:r=none∨∃a b,P.underlying t=some (.map a b):=by
    rcases hk.2 with h1|h1
    ·cases r with
     |none=>exact .inl rfl
     |some _=>cases h1
    ·cases hm:jA C t with
     |none=>rw[hm] at h1;cases h1
     |some q=>obtain⟨e,kd,e1,_⟩:=wi hC (k:=q.1) (j:=q.2) hm;exact .inr ⟨_,_,e1⟩
   cases r with
   |none=>exact .inl ⟨λver=> .map ver [] 0,λo=> .m o,λH=>rfl,λ_=>rfl,CM X hk.1 ht ho rfl⟩
   |some a=>
    by_cases hq:xS ev (some a)=true
    ·refine .inl ⟨λver=> .map ver [] 0,λo=> .m o,λH=> ?_,λ_=>rfl,CM X hk.1 ht ho hq⟩;unfold step;dsimp only;cases he:ev a<;>first|rfl|(simp[xS,he] at hq;done)
    ·right;intro H;unfold step;dsimp only;cases he:ev a<;>first|rfl|(simp[xS,he] at hq;done)
  ·cases hk
 |mslice z esz bs a b=>
  replace hk:(match (generalizing:=false) oo with
   | .makeSlice t x y=>(match (generalizing:=false) fZ C t with|some i=>jJ z i.zs&&Nat.beq esz i.size&&Nat.beq z.length esz&&Nat.ble i.bytes 1048576|none=>false)&&ax a x&&ax b y
   |_=>false)=true:=hk
  split at hk
  ·rename_i t x y;simp only[aB] at hk;obtain⟨⟨h1,h2⟩,h3⟩:=hk;cases ht:fZ C t with
   |none=>rw[ht] at h1;cases h1
   |some i=>
    rw[ht] at h1;simp only[aB,bu,dm,aU] at h1;obtain⟨e,e1,e2,e3⟩:=qb hC ht;cases hl:nA ev a with
    |none=>right;intro H;unfold step;dsimp only;rw[hl]
    |some l=>
     cases hk':nA ev b with
     |none=>right;intro H;unfold step;dsimp only;rw[hl,hk']
     |some k=>
      by_cases hc:(Nat.ble l k&&Nat.ble k 1048576)=true
      ·have hc':l<=k/\ k<=1048576:=by simpa[dm] using hc
       exact .inl ⟨λver=> .cells ver (List.replicate k z).flatten,λo=> .sl o 0 l (some k) esz,
        λH=>by unfold step;dsimp only;rw[hl,hk'];dsimp only;rw[hc,zP];simp only[fC],λ_=>rfl,LR e3 X e1 ho h2 h3 (nI h1.1.1.1) h1.1.1.2 h1.1.2 h1.2 hl hk' hc'⟩
      ·right;intro H;unfold step;dsimp only;rw[hl,hk'];dsimp only;rw[Ce] at hc;rw[hc];rfl
  ·cases hk
 |_=>cases ha
end
def bY (m i:Nat):Bool:=Nat.testBit m i
def ip (m i:Nat):Nat:=Nat.lor m (Nat.pow 2 i)
def nK (m i j:Nat):bY (ip m i) j=(bY m j||decide (i=j)):=by
 show Nat.testBit (m|||2^i) j=_;rw[FD,Nat.testBit_two_pow];rfl
def uD (A:List Nat) (es:List Edge):Nat:=
 List.rec (motive:=λ_=>Nat) 0 (λe _ ih=>bif Region.binds .any e then Nat.lor (ip (A.getD e.on 0) e.on) ih else ih) es
def ME (i v:Nat) (l:List Nat):List Nat:=List.rec (motive:=λ_=>Nat ->List Nat) (λ_=>[]) (λa r ih k=>bif Nat.beq k 0 then v::r else a::ih (Nat.pred k)) l i
def Gz (l:List Oper) (A:List Nat):List Nat:=List.rec (motive:=λ_=>Nat ->List Nat ->List Nat) (λ_ A=>A) (λo _ ih i A=>ih (Nat.succ i) (ME i (uD A o.after.toList) A)) l 0 A
def MF (l:List Oper):List Nat:=List.rec (motive:=λ_=>List Nat) [] (λ_ _ ih=>0::ih) l
def Ac (l:List Oper):List Nat:=Gz l (Gz l (Gz l (MF l)))
def ZQ (R:List Nat) (es:List Edge):Nat:=
 List.rec (motive:=λ_=>Nat) 0 (λe _ ih=>bif Region.binds .any e then Nat.succ (Nat.add (R.getD e.on 0) ih) else ih) es
def GA (l:List Oper) (R:List Nat):List Nat:=List.rec (motive:=λ_=>Nat ->List Nat ->List Nat) (λ_ R=>R) (λo _ ih i R=>ih (Nat.succ i) (ME i (ZQ R o.after.toList) R)) l 0 R
def GB (l:List Oper):List Nat:=GA l (GA l (GA l (MF l)))
def GC {A:List Nat} {j:Nat}:∀{es:List Edge},bY (uD A es) j=true ->∃e∈es,Region.binds .any e=true/\ (e.on=j∨bY (A.getD e.on 0) j=true)
 |[],h=>by
  have:Nat.testBit 0 j=true:=h;simp at this
 |e::es,h=>by
  have h':bY (bif Region.binds .any e then Nat.lor (ip (A.getD e.on 0) e.on) (uD A es) else uD A es) j=true:=h;cases hb:Region.binds .any e with
  |false=>
   rw[hb] at h';obtain⟨e',h1,h2⟩:=GC h';exact⟨e',jw _ h1,h2⟩
  |true=>
   rw[hb] at h';replace h':Nat.testBit (ip (A.getD e.on 0) e.on|||uD A es) j=true:=h';rw[FD,ja] at h';rcases h' with h'|h'
   ·replace h':bY (ip (A.getD e.on 0) e.on) j=true:=h';rw[nK,ja,aU] at h';exact⟨e,jG,hb,h'.symm⟩
   ·obtain⟨e',h1,h2⟩:=GC h';exact⟨e',jw _ h1,h2⟩
def GD (m k:Nat):Bool:=Nat.beq (Nat.land m k) m
def ZR {m k:Nat} (h:GD m k=true):∀i,bY m i=true ->bY k i=true:=by
 intro i hi;have h':m&&&k=m:=by
  have:decide (Nat.land m k=m)=true:=by rw[←bu];exact h
  exact qM this
 have hi':Nat.testBit m i=true:=hi;rw[←h',Cg,aB] at hi';exact hi'.2
def C2 (n:Nat) (R:List Nat) (r:Nat) (es:List Edge):Bool:=
 List.rec (motive:=λ_=>Bool) true (λe _ ih=>(bif Region.binds .any e then Nat.ble (Nat.succ (R.getD e.on 0)) r&&Nat.ble (Nat.succ e.on) n else true)&&ih) es
def MH {n r:Nat} {R:List Nat}:∀{es:List Edge},C2 n R r es=true ->∀e∈es,Region.binds .any e=true ->R.getD e.on 0<r/\ e.on<n
 |[],_,e,he=>by cases he
 |x::xs,h,e,he=>by
  have h':((bif Region.binds .any x then Nat.ble (Nat.succ (R.getD x.on 0)) r&&Nat.ble (Nat.succ x.on) n else true)&&C2 n R r xs)=true:=h;rw[aB] at h';intro hb;rcases ed.1 he with rfl|he
  ·have h1:=h'.1;rw[hb,fC] at h1;simp only[aB,dm,aU] at h1;exact h1
  ·exact MH h'.2 e he hb
def C3 (n:Nat) (A R:List Nat) (ops:List Oper) (i:Nat):Bool:=
 List.rec (motive:=λ_=>Nat ->Bool) (λ_=>true) (λo _ ih i=>C2 n R (R.getD i 0) o.after.toList&&(GD (A.getD i 0) (uD A o.after.toList)&&ih (Nat.succ i))) ops i
def MJ {m:Nat} {A R:List Nat}:∀{l:List Oper} {n:Nat},C3 m A R l n=true ->∀(k:Nat) (o:Oper),l[k]? =some o ->
 (∀e∈o.after,Region.binds .any e=true ->R.getD e.on 0<R.getD (n+k) 0/\ e.on<m)/\ (∀j,bY (A.getD (n+k) 0) j=true ->bY (uD A o.after.toList) j=true)
 |[],n,_,k,o,h=>by simp at h
 |a::r,n,h,k,o,hk=>by
  have h':(C2 m R (R.getD n 0) a.after.toList&&(GD (A.getD n 0) (uD A a.after.toList)&&C3 m A R r (Nat.succ n)))=true:=h;rw[aB,aB] at h';cases k with
  |zero=>
   simp at hk;subst hk;refine⟨λe he=> ?_,ZR h'.2.1⟩;exact MH h'.1 e (by simpa using he)
  |succ k=>
   have:=MJ h'.2.2 k o (by simpa using hk)
   rwa [show n+(k+1)=Nat.succ n+k by omega]
def GE (t:Nat) (m:Nat) (ops:List Oper) (j:Nat):Bool:=
 List.rec (motive:=λ_=>Nat ->Bool) (λ_=>true) (λo _ ih j=>(match o.dst with|some d=>bif Nat.beq d t then bY m j else true|none=>true)&&ih (Nat.succ j)) ops j
def MK {t m:Nat}:∀{l:List Oper} {n:Nat},GE t m l n=true ->∀(k:Nat) (o:Oper),l[k]? =some o ->o.dst=some t ->bY m (n+k)=true
 |[],n,_,k,o,h,_=>by simp at h
 |a::r,n,h,k,o,hk,hd=>by
  have h':((match a.dst with|some d=>bif Nat.beq d t then bY m n else true|none=>true)&&GE t m r (Nat.succ n))=true:=h;rw[aB] at h';cases k with
  |zero=>
   simp at hk;subst hk;have h1:=h'.1;rw[hd] at h1;have hb:Nat.beq t t=true:=by rw[bu];simp
   simp only[hb,fC] at h1;exact h1
  |succ k=>
   have:=MK h'.2 k o (by simpa using hk) hd
   rwa [show n+(k+1)=Nat.succ n+k by omega]
def C4 (f:Nat ->Bool) (l:List Nat):Bool:=List.rec (motive:=λ_=>Bool) true (λa _ ih=>f a&&ih) l
def GF {f:Nat ->Bool}:∀{l:List Nat},C4 f l=true ->∀a∈l,f a=true
 |[],_,a,ha=>by cases ha
 |b::t,h,a,ha=>by
  have h':(f b&&C4 f t)=true:=h;rw[aB] at h';rcases ed.1 ha with rfl|ha
  ·exact h'.1
  ·exact GF h'.2 a ha
def C5 (t:Nat) (l:List Oper):Bool:=List.rec (motive:=λ_=>Bool) true (λo _ ih=>(match o.dst with|some d=> !(Nat.beq d t)|none=>true)&&ih) l
def uniq (l:List Oper):Bool:=List.rec (motive:=λ_=>Bool) true (λo r ih=>(match o.dst with|some d=>C5 d r|none=>true)&&ih) l
def GG {t:Nat}:∀{l:List Oper},C5 t l=true ->∀(k:Nat) (o:Oper),l[k]? =some o ->o.dst≠some t
 |[],_,k,o,h=>by simp at h
 |a::r,h,k,o,hk=>by
  have h':((match a.dst with|some d=> !(Nat.beq d t)|none=>true)&&C5 t r)=true:=h;rw[aB] at h';cases k with
  |zero=>
   simp at hk;subst hk;intro hd;have h1:=h'.1;rw[hd] at h1;have hb:Nat.beq t t=true:=by rw[bu];simp
   simp[] at h1
  |succ k=>exact GG h'.2 k o (by simpa using hk)
def ML:∀{l:List Oper},uniq l=true ->∀(i j:Nat) (a b:Oper) (t:Nat),l[i]? =some a ->l[j]? =some b ->a.dst=some t ->b.dst=some t ->i=j
 |[],_,i,j,a,b,t,h,_,_,_=>by simp at h
 |x::r,h,i,j,a,b,t,hi,hj,ha,hb=>by
  have h':((match x.dst with|some d=>C5 d r|none=>true)&&uniq r)=true:=h;rw[aB] at h';cases i with
  |zero=>
   cases j with
   |zero=>rfl
   |succ j=>
    simp at hi hj;subst hi;have h1:=h'.1;rw[ha] at h1;exact bh hb (GG h1 j b hj)
  |succ i=>
   cases j with
   |zero=>
    simp at hi hj;subst hj;have h1:=h'.1;rw[hb] at h1;exact bh ha (GG h1 i a hi)
   |succ j=>
    simp at hi hj;rw[ML h'.2 i j a b t hi hj ha hb]
section
variable (X:aR) (N:Nat) (ops:Array Oper) (A:List Nat) (n:Nat)
def GH (A:List Nat) (HV i:Nat) (t:Nat) (m:Nat) (ops:List Oper) (j:Nat):Bool:=
 List.rec (motive:=λ_=>Nat ->Bool) (λ_=>true) (λo _ ih j=>(match o.dst with|some d=>bif Nat.beq d t then bY m j||(bY HV j&&(Nat.beq i j||bY (A.getD j 0) i)) else true|none=>true)&&ih (Nat.succ j)) ops j
def MM {A:List Nat} {HV i t m:Nat}:∀{l:List Oper} {n:Nat},GH A HV i t m l n=true ->∀(k:Nat) (o:Oper),l[k]? =some o ->o.dst=some t ->bY m (n+k)=true∨(bY HV (n+k)=true/\ (i=n+k∨bY (A.getD (n+k) 0) i=true))
 |[],n,_,k,o,h,_=>by simp at h
 |a::r,n,h,k,o,hk,hd=>by
  have h':((match a.dst with|some d=>bif Nat.beq d t then bY m n||(bY HV n&&(Nat.beq i n||bY (A.getD n 0) i)) else true|none=>true)&&GH A HV i t m r (Nat.succ n))=true:=h;rw[aB] at h';cases k with
  |zero=>
   simp at hk;subst hk;have h1:=h'.1;rw[hd] at h1;have hb:Nat.beq t t=true:=by rw[bu];simp
   simp only[hb,fC,ja,aB,bu,aU] at h1;exact h1
  |succ k=>
   have:=MM h'.2 k o (by simpa using hk) hd
   rwa [show n+(k+1)=Nat.succ n+k by omega]
def Ad (done i:Nat) (g:MG):Bool:=match ops[i]? with
 |some o=>lP X N ops o g&&(!(bY done i)&&C4 (λt=>GE t (Nat.land (A.getD i 0) done) ops.toList 0) (qc g))
 |none=>false
def uE (HV done i:Nat) (g:MG):Bool:=match ops[i]? with
 |some o=>lP X N ops o g&&(!(bY done i)&&C4 (λt=>GH A HV i t (Nat.land (A.getD i 0) done) ops.toList 0) (qc g))
 |none=>false
def tw (last:Option Nat) (i:Nat):Bool:=match last with|some l=>bY (A.getD i 0) l|none=>true
def ws (m k:Nat):Bool:=Nat.beq (Nat.land m k) m
def Ae (i:Nat) (l:List (Nat×Nat)):Bool:=List.rec (motive:=λ_=>Bool) false (λe _ ih=>Nat.beq e.1 i||ih) l
def Af (k:Nat) (l:List (Nat×Nat)):Bool:=List.rec (motive:=λ_=>Bool) true (λe _ ih=> !(Nat.beq e.2 k)&&ih) l
def MN (m:Nat) (l:List (Nat×Nat)):Bool:=List.rec (motive:=λ_=>Bool) true (λe _ ih=>bY m e.1&&ih) l
def MO (l:List DI):Nat:=List.rec (motive:=λ_=>Nat) 0 (λd _ ih=>match d with| .heavy i _ _=>ip ih i|_=>ih) l
variable (HV:Nat)
def iT (l:List DI):Bool ->Nat ->Option Nat ->Nat ->List (Nat×Nat) ->Bool:=
 List.rec (motive:=λ_=>Bool ->Nat ->Option Nat ->Nat ->List (Nat×Nat) ->Bool)
  (λ_ done _ laid bU=>Nat.beq (Nat.succ done) (Nat.pow 2 ops.size)&&MN laid bU)
  (λd _ ih fl done last laid bU=>match d with
   | .light i g=> !fl&&(uE X N ops A HV done i g&&(!(bY HV i)&&xX g.op&&(tw A last i&&ih false (ip done i) last laid bU)))
   | .resv i k g=> !fl&&(Ad X N ops A done i g&&(!(bY HV i)&&Ab g.op&&(g.guard.isNone&&(tw A last i&&(Nat.ble (Nat.succ k) n&&(Af k bU&&ih false (ip done i) last laid ((i,k)::bU)))))))
   | .lay i=>Ae i bU&&(!(bY laid i)&&ih true done last (ip laid i) bU)
   | .heavy i g mask=>uE X N ops A HV done i g&&(tw A last i&&(ws mask (A.getD i 0)&&(ws laid (A.getD i 0)&&ih false (ip done i) (some i) laid bU)))) l
end
def GJ (X:aR) (N:Nat) (ops:Array Oper) (n:Nat) (l:List DI):Bool:=
 C3 ops.size (Ac ops.toList) (GB ops.toList) ops.toList 0&&(uniq ops.toList&&iT X N ops (Ac ops.toList) n (MO l) l false 0 none 0 [])
def MP {m k:Nat} (h:ws m k=true):∀i,bY m i=true ->bY k i=true:=by
 intro i hi;have h':m&&&k=m:=by
  have:decide (Nat.land m k=m)=true:=by rw[←bu];exact h
  exact qM this
 have hi':Nat.testBit m i=true:=hi;rw[←h',Cg,aB] at hi';exact hi'.2
def cD (listed:Array Bool) (i:Nat):Prop:=listed.getD i false=true
def qd (listed:Array Bool) (o:Oper):Prop:=∀e∈o.after,Region.binds .any e=true ->cD listed e.on
structure uF (ops:Array Oper) (listed:Array Bool):Prop where
 sz:listed.size=ops.size
 down:∀(i:Nat) o,ops[i]? =some o ->cD listed i ->qd listed o
def cD.lt {listed:Array Bool} {i:Nat} (h:cD listed i):i<listed.size:=by
 unfold cD at h;by_cases hi:i<listed.size
 ·exact hi
 ·simp[Array.getD,hi] at h
def MQ {ops:Array Oper} {listed:Array Bool} {i:Nat} (h:i∈Region.ready .any ops listed):¬cD listed i/\∃o,ops[i]? =some o/\ qd listed o:=by
 obtain⟨h1,o,h2,h3⟩:=mem_ready.1 h;refine⟨λhl=> ?_,o,h2,λe he hb=>h3 e he hb⟩;have aV:=hl.lt;unfold cD at hl;simp[Array.getD,aV] at h1 hl;rw[h1] at hl;cases hl
structure nM (ops:Array Oper) (A:List Nat):Prop where
 edges:∃rk:Nat ->Nat,∀(i:Nat) o,ops[i]? =some o ->∀e∈o.after,Region.binds .any e=true ->rk e.on<rk i/\ e.on<ops.size
 uniq:∀(i j:Nat) (a b:Oper) (t:Nat),ops[i]? =some a ->ops[j]? =some b ->a.dst=some t ->b.dst=some t ->i=j
 anc:∀(i:Nat) o j,ops[i]? =some o ->bY (A.getD i 0) j=true ->∃e∈o.after,Region.binds .any e=true/\ (e.on=j∨bY (A.getD e.on 0) j=true)
def ZS {ops:Array Oper} (h1:C3 ops.size (Ac ops.toList) (GB ops.toList) ops.toList 0=true) (h2:uniq ops.toList=true):nM ops (Ac ops.toList):=by
 have he:=λ(i:Nat) (o:Oper) (ho:ops[i]? =some o)=>MJ h1 i o (by simpa using ho);refine⟨⟨λi=>(GB ops.toList).getD i 0,λi o ho e hm hb=> ?_⟩,λi j a b t hi hj ha hb=>ML h2 i j a b t (by simpa using hi) (by simpa using hj) ha hb,λi o j ho hb=> ?_⟩
 ·have:=(he i o ho).1 e hm hb
  rwa [gB] at this
 ·have h3:=(he i o ho).2 j;rw[gB] at h3;obtain⟨e,e1,e2,e3⟩:=GC (h3 hb);exact⟨e,by simpa using e1,e2,e3⟩
section
variable {ops:Array Oper} {A:List Nat} {listed:Array Bool}
def tA (S:nM ops A) (D:uF ops listed):∀(i:Nat) (o:Oper),ops[i]? =some o ->qd listed o ->∀j,bY (A.getD i 0) j=true ->cD listed j:=by
 obtain⟨rk,hrk⟩:=S.edges
 suffices H:∀n i,rk i=n ->∀(o:Oper),ops[i]? =some o ->qd listed o ->∀j,bY (A.getD i 0) j=true ->cD listed j from λi=>H _ i rfl
 intro n;induction n using Nat.strongRecOn with
 |_ n ih=>
  intro i hn o ho hE j hj;obtain⟨e,e1,e2,e3⟩:=S.anc i o j ho hj;have hl:=hE e e1 e2;rcases e3 with rfl|e3
  ·exact hl
  ·obtain⟨aV,hsz⟩:=hrk i o ho e e1 e2;exact ih (rk e.on) (hn▸aV) e.on rfl _ (og hsz) (D.down _ _ (og hsz) hl) j e3
def cD.set {i j:Nat} (hi:i<listed.size):cD (listed.setIfInBounds i true) j↔i=j∨cD listed j:=by
 unfold cD;by_cases e:i=j
 ·subst e;simp[Array.getD,hi]
 ·simp only[e,false_or];by_cases hj:j<listed.size
  ·simp[Array.getD,hj,e]
  ·simp[Array.getD,hj]
def uF.set (D:uF ops listed) {i:Nat} {o:Oper} (ho:ops[i]? =some o) (hE:qd listed o):uF ops (listed.setIfInBounds i true):=by
 have hi:i<listed.size:=by rw[D.sz];exact(jX.1 ho).1
 refine⟨by simpa using D.sz,λj o' bT hj e he hb=> ?_⟩;rcases(cD.set hi).1 hj with rfl|hj
 ·rw[ho] at bT;cases bT;exact(cD.set hi).2 (.inr (hE e he hb))
 ·exact(cD.set hi).2 (.inr (D.down j o' bT hj e he hb))
def ZT (S:nM ops A) (D:uF ops listed) (hr:Region.ready .any ops listed=[]):∀i,i<ops.size ->cD listed i:=by
 obtain⟨rk,hrk⟩:=S.edges
 suffices H:∀n i,rk i=n ->i<ops.size ->cD listed i from λi=>H _ i rfl
 intro n;induction n using Nat.strongRecOn with
 |_ n ih=>
  intro i hn hi;refine uk λhnl=> ?_;have:i∈Region.ready .any ops listed:=by
   refine mem_ready.2 ⟨?_,ops[i],og hi,λe he hb=> ?_⟩
   ·have hs:i<listed.size:=by rw[D.sz];exact hi
    unfold cD at hnl;simp[Array.getD,hs] at hnl ⊢;exact hnl
   ·obtain⟨aV,hsz⟩:=hrk i ops[i] (og hi) e he hb;exact ih (rk e.on) (hn▸aV) e.on rfl hsz
  rw[hr] at this;cases this
def uG:List DI ->List Nat
 |[]=>[]
 | .light i _::r=>i::uG r
 | .resv i _ _::r=>i::uG r
 | .lay _::r=>uG r
 | .heavy i _ _::r=>i::uG r
def fh:List DI ->Option Nat
 | .lay _::r=>fh r
 | .heavy i _ _::_=>some i
 |_=>none
def uH (X:aR) (N:Nat) (ops:Array Oper) (A:List Nat) (done i:Nat) (g:MG):Prop:=
 ∃o,ops[i]? =some o/\ lP X N ops o g=true/\∀t∈qc g,∀(j:Nat) o',ops[j]? =some o' ->o'.dst=some t ->bY (A.getD i 0) j=true/\ bY done j=true
variable {X:aR} {N n:Nat}
def ZU {done i:Nat} {g:MG} (h:Ad X N ops A done i g=true):uH X N ops A done i g/\ bY done i=false:=by
 unfold Ad at h;cases ho:ops[i]? with
 |none=>rw[ho] at h;cases h
 |some o=>
  rw[ho] at h;simp only[aB,jH] at h;refine⟨⟨o,ho,h.1,λt ht j o' hj hd=> ?_⟩,h.2.1⟩;have:=MK (GF h.2.2 t ht) j o' (by simpa using hj) hd;rw[gB] at this;have this':Nat.testBit (A.getD i 0&&&done) j=true:=this;rw[Cg,aB] at this';exact this'
def uI (X:aR) (N:Nat) (ops:Array Oper) (A:List Nat) (HV done i:Nat) (g:MG):Prop:=
 ∃o,ops[i]? =some o/\ lP X N ops o g=true/\∀t∈qc g,∀(j:Nat) o',ops[j]? =some o' ->o'.dst=some t ->(bY (A.getD i 0) j=true/\ bY done j=true)∨(bY HV j=true/\ (i=j∨bY (A.getD j 0) i=true))
def C6 {HV done i:Nat} {g:MG} (h:uE X N ops A HV done i g=true):uI X N ops A HV done i g/\ bY done i=false:=by
 unfold uE at h;cases ho:ops[i]? with
 |none=>rw[ho] at h;cases h
 |some o=>
  rw[ho] at h;simp only[aB,jH] at h;refine⟨⟨o,ho,h.1,λt ht j o' hj hd=> ?_⟩,h.2.1⟩;have:=MM (GF h.2.2 t ht) j o' (by simpa using hj) hd;rw[gB] at this;refine this.imp (λthis=> ?_) id;have this':Nat.testBit (A.getD i 0&&&done) j=true:=this;rw[Cg,aB] at this';exact this'
def uI.mono {HV done done' i:Nat} {g:MG} (h:uI X N ops A HV done i g) (hd:∀j,bY done j=true ->bY done' j=true):uI X N ops A HV done' i g:=by
 obtain⟨o,h1,h2,h3⟩:=h;exact⟨o,h1,h2,λt ht j o' hj ho=>(h3 t ht j o' hj ho).imp (λq=>⟨q.1,hd j q.2⟩) id⟩
def uH.mono {done done' i:Nat} {g:MG} (h:uH X N ops A done i g) (hd:∀j,bY done j=true ->bY done' j=true):uH X N ops A done' i g:=by
 obtain⟨o,h1,h2,h3⟩:=h;exact⟨o,h1,h2,λt ht j o' hj ho=>⟨(h3 t ht j o' hj ho).1,hd j (h3 t ht j o' hj ho).2⟩⟩
section cases
variable {HV:Nat} {fl:Bool} {done laid:Nat} {last:Option Nat} {bU:List (Nat×Nat)} {r:List DI}
def Ag {i:Nat} {g:MG} (h:iT X N ops A n HV (.light i g::r) fl done last laid bU=true):
 fl=false/\ uE X N ops A HV done i g=true/\ (bY HV i=false/\ xX g.op=true)/\ tw A last i=true/\ iT X N ops A n HV r false (ip done i) last laid bU=true:=by
 have h':(!fl&&(uE X N ops A HV done i g&&(!(bY HV i)&&xX g.op&&(tw A last i&&iT X N ops A n HV r false (ip done i) last laid bU))))=true:=h;simpa only[aB,jH] using h'
def Ah {i k:Nat} {g:MG} (h:iT X N ops A n HV (.resv i k g::r) fl done last laid bU=true):
 fl=false/\ Ad X N ops A done i g=true/\ (bY HV i=false/\ Ab g.op=true)/\ g.guard.isNone=true/\ tw A last i=true/\ k<n/\ Af k bU=true/\ iT X N ops A n HV r false (ip done i) last laid ((i,k)::bU)=true:=by
 have h':(!fl&&(Ad X N ops A done i g&&(!(bY HV i)&&Ab g.op&&(g.guard.isNone&&(tw A last i&&(Nat.ble (Nat.succ k) n&&(Af k bU&&iT X N ops A n HV r false (ip done i) last laid ((i,k)::bU))))))))=true:=h;simp only[aB,jH,dm,aU] at h';exact h'
def Ai {i:Nat} (h:iT X N ops A n HV (.lay i::r) fl done last laid bU=true):Ae i bU=true/\ bY laid i=false/\ iT X N ops A n HV r true done last (ip laid i) bU=true:=by
 have h':(Ae i bU&&(!(bY laid i)&&iT X N ops A n HV r true done last (ip laid i) bU))=true:=h;simpa only[aB,jH] using h'
def wv {i mask:Nat} {g:MG} (h:iT X N ops A n HV (.heavy i g mask::r) fl done last laid bU=true):
 uE X N ops A HV done i g=true/\ tw A last i=true/\ ws mask (A.getD i 0)=true/\ ws laid (A.getD i 0)=true/\ iT X N ops A n HV r false (ip done i) (some i) laid bU=true:=by
 have h':(uE X N ops A HV done i g&&(tw A last i&&(ws mask (A.getD i 0)&&(ws laid (A.getD i 0)&&iT X N ops A n HV r false (ip done i) (some i) laid bU))))=true:=h;simpa only[aB] using h'
def ZV (h:iT X N ops A n HV [] fl done last laid bU=true):∀i,i<ops.size ->bY done i=true:=by
 have h':(Nat.beq (Nat.succ done) (Nat.pow 2 ops.size)&&MN laid bU)=true:=h;simp only[aB,bu,aU] at h';intro i hi;have hd:done=2^ops.size-1:=by
  have:done.succ=2^ops.size:=h'.1;omega
 show Nat.testBit done i=true;rw[hd,Nat.testBit_two_pow_sub_one];simpa using hi
end cases
def ww {m i j:Nat} (h:bY m j=true):bY (ip m i) j=true:=by rw[nK,h];rfl
def uJ (m i:Nat):bY (ip m i) i=true:=by rw[nK];simp
variable {HV:Nat}
def Aj:∀(l:List DI) (fl:Bool) (done:Nat) (last:Option Nat) (laid:Nat) (bU:List (Nat×Nat)),iT X N ops A n HV l fl done last laid bU=true ->∀i,i<ops.size ->bY done i=true∨i∈uG l
 |[],fl,done,last,laid,bU,h,i,hi=> .inl (ZV h i hi)
 | .light j g::r,fl,done,last,laid,bU,h,i,hi=>by
  rcases Aj r _ _ _ _ _ (Ag h).2.2.2.2 i hi with h1|h1
  ·rw[nK,ja,aU] at h1;rcases h1 with h1|rfl
   ·exact .inl h1
   ·exact .inr jG
  ·exact .inr (jw _ h1)
 | .resv j k g::r,fl,done,last,laid,bU,h,i,hi=>by
  rcases Aj r _ _ _ _ _ (Ah h).2.2.2.2.2.2.2 i hi with h1|h1
  ·rw[nK,ja,aU] at h1;rcases h1 with h1|rfl
   ·exact .inl h1
   ·exact .inr jG
  ·exact .inr (jw _ h1)
 | .lay j::r,fl,done,last,laid,bU,h,i,hi=>Aj r _ _ _ _ _ (Ai h).2.2 i hi
 | .heavy j g m::r,fl,done,last,laid,bU,h,i,hi=>by
  rcases Aj r _ _ _ _ _ (wv h).2.2.2.2 i hi with h1|h1
  ·rw[nK,ja,aU] at h1;rcases h1 with h1|rfl
   ·exact .inl h1
   ·exact .inr jG
  ·exact .inr (jw _ h1)
def Ak (S:nM ops A) (D:uF ops listed):∀(l:List DI) (fl:Bool) (done H laid:Nat) (bU:List (Nat×Nat)),iT X N ops A n HV l fl done (some H) laid bU=true ->
 ∀i∈uG l,∀o,ops[i]? =some o ->qd listed o ->cD listed H
 |[],fl,done,H,laid,bU,h,i,hi,_,_,_=>by cases hi
 | .light j g::r,fl,done,H,laid,bU,h,i,hi,o,ho,hE=>by
  obtain⟨_,_,_,h4,h5⟩:=Ag h;rcases ed.1 hi with rfl|hi
  ·exact tA S D i o ho hE H h4
  ·exact Ak S D r _ _ _ _ _ h5 i hi o ho hE
 | .resv j k g::r,fl,done,H,laid,bU,h,i,hi,o,ho,hE=>by
  obtain⟨_,_,_,_,h4,_,_,h5⟩:=Ah h;rcases ed.1 hi with rfl|hi
  ·exact tA S D i o ho hE H h4
  ·exact Ak S D r _ _ _ _ _ h5 i hi o ho hE
 | .lay j::r,fl,done,H,laid,bU,h,i,hi,o,ho,hE=>Ak S D r _ _ _ _ _ (Ai h).2.2 i hi o ho hE
 | .heavy j g m::r,fl,done,H,laid,bU,h,i,hi,o,ho,hE=>by
  obtain⟨_,h2,_,_,h5⟩:=wv h;rcases ed.1 hi with rfl|hi
  ·exact tA S D i o ho hE H h2
  ·have hj:=Ak S D r _ _ _ _ _ h5 i hi o ho hE;have aV:j<ops.size:=by rw[←D.sz];exact hj.lt
   exact tA S D j _ (og aV) (D.down _ _ (og aV) hj) H h2
def Am (fl:Bool) (l:List DI):Prop:=fl=true∨match l with| .light .. ::_=>False| .resv .. ::_=>False|_=>True
def MR (S:nM ops A) (D:uF ops listed):∀(l:List DI) (fl:Bool) (done:Nat) (last:Option Nat) (laid:Nat) (bU:List (Nat×Nat)),iT X N ops A n HV l fl done last laid bU=true ->Am fl l ->
 ∀i∈uG l,∀o,ops[i]? =some o ->qd listed o ->∃H,fh l=some H/\ (i=H∨cD listed H)
 |[],fl,done,last,laid,bU,h,_,i,hi,_,_,_=>by cases hi
 | .light j g::r,fl,done,last,laid,bU,h,hh,i,hi,o,ho,hE=>by
  rcases hh with hh|hh
  ·rw[(Ag h).1] at hh;cases hh
  ·exact hh.elim
 | .resv j k g::r,fl,done,last,laid,bU,h,hh,i,hi,o,ho,hE=>by
  rcases hh with hh|hh
  ·rw[(Ah h).1] at hh;cases hh
  ·exact hh.elim
 | .lay j::r,fl,done,last,laid,bU,h,hh,i,hi,o,ho,hE=>MR S D r _ _ _ _ _ (Ai h).2.2 (.inl rfl) i hi o ho hE
 | .heavy j g m::r,fl,done,last,laid,bU,h,hh,i,hi,o,ho,hE=>by
  refine⟨j,rfl,?_⟩;rcases ed.1 hi with rfl|hi
  ·exact .inl rfl
  ·exact .inr (Ak S D r _ _ _ _ _ (wv h).2.2.2.2 i hi o ho hE)
def GK:∀(l:List DI) (fl:Bool) (done:Nat) (last:Option Nat) (laid:Nat) (bU:List (Nat×Nat)) (H:Nat),iT X N ops A n HV l fl done last laid bU=true ->fh l=some H ->bY done H=false/\∀j,bY laid j=true ->bY (A.getD H 0) j=true
 |[],_,_,_,_,_,_,_,h=>by cases h
 | .light .. ::_,_,_,_,_,_,_,_,h=>by cases h
 | .resv .. ::_,_,_,_,_,_,_,_,h=>by cases h
 | .lay i::r,fl,done,last,laid,bU,H,h,hf=>by
  have:=GK r _ _ _ _ _ H (Ai h).2.2 hf;exact⟨this.1,λj hj=>this.2 j (ww hj)⟩
 | .heavy i g m::r,fl,done,last,laid,bU,H,h,hf=>by
  cases hf;obtain⟨h1,_,_,h4,_⟩:=wv h;exact⟨(C6 h1).2,MP h4⟩
end
end
end AM
