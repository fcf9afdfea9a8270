import Derived.Deep.AppendSrc
import Derived.Deep.MidRow
import Derived.Great.BuildSlice
import Derived.IntWalk
import Derived.Laws.MakeOwn
import Derived.Laws.Sem
import Derived.Laws.StructEq
import Derived.LoopNIn
import Derived.OrdersIn
import Derived.RangeFuncIn
import GoSem.Step
set_option linter.all false
namespace AM
open Go
def ω{p:Prop}(h:p:=by omega):p:=h
def y6:=@List.ext_getElem?
def sR:=@List.getElem?_eq_none
def Jy:=@List.replicate_succ
def Jz:=@List.flatten_cons
def bK:=@Nat.le_refl
def y7:=@Nat.pow_le_pow_right
def jL:=@List.length_nil
def Q0:=@Nat.lt_of_le_of_lt
def Vk:=@Nat.div_le_self
def Vl:=@Nat.and_one_is_mod
def av:=@Bool.and_eq_true
def Tq:=@List.mem_flatMap
def sS:=@List.mem_map
def cW:=@List.getElem?_eq_some_iff
def fK:=@List.all_eq_true
def pi:=@List.mem_range
def fL:=@Nat.zero_add
def nD:=@List.flatMap_cons
def cX:=@List.length_append
def fM:=@List.length_cons
def zr:=@Nat.succ_mul
def wV:=@List.drop_drop
def nE:=@Nat.mul_le_mul_right
def Ts:=@List.drop_append_of_le_length
def Lj:=@List.take_append_of_le_length
def qY:=@List.length_drop
def nF:=@List.cons_append
def Lk:=@List.flatMap_def
def ba:=@List.getElem?_eq_getElem
def lV:=@Bool.and_eq_true_iff
def fW:=@Bool.and_self
def gU:=@Bool.not_true
def wX:=@Nat.eq_of_beq_eq_true
def Ll:=@List.getElem?_cons_succ
def lj:=@List.getElem?_drop
def dD:=@Bool.cond_eq_ite
def oY:=@Nat.add_assoc
def lW:=@Nat.add_mul
def Lm:=@Option.isNone_none
def j9:=@List.length_map
def jn:=@Array.ext'
def oZ:=@List.getElem?_append_left
def HP:=@Nat.mod_eq_of_lt
def vE:=@List.getElem?_append_right
def zt:=@List.length_flatten
def Ln:=@Nat.eq_zero_or_pos
def jy:=@Nat.mod_lt
def CO:=@List.size_toArray
def CP:=@Nat.mul_le_mul
def bY:=@List.mem_cons
def ij:=@List.mem_cons_self
def gZ:=@List.mem_cons_of_mem
def Lo:=@List.filter_cons
def vF:=@Bool.not_false
def lu:=@Bool.false_eq_true
def mL:=@Array.getElem?_eq_getElem
def pj:=@Option.map_some
def Lp:=@Array.getElem?_setIfInBounds_ne
def jo:=@Array.getElem?_eq_some_iff
def lX:=@List.getElem?_map
def zu:=@Nat.add_zero
def bQ:=@Result.andThen_ok
def dY:=@List.mem_singleton
def iR:=@List.map_cons
def zw:=@Bool.eq_iff_iff
def iS:=@Bool.not_eq_true'
def CQ:=@List.range_eq_range'
def HQ:=@List.range'_succ
def zx:=@Bool.false_or
def zy:=@List.pairwise_cons
def YD:=@List.getElem?_cons_zero
def bJ:=@List.mem_of_getElem?
def eV:=@List.mem_append
def qZ:=@Nat.lt_succ_self
def HR:=@Nat.mul_one
def iL:=@List.getElem?_take
def lA:=@List.eq_nil_of_length_eq_zero
def Lr:=@List.getElem?_toArray
def lB:=@List.nil_append
def wY:=@Array.getElem?_toList
def g9:=@Bool.or_eq_true
def zA:=@List.all_cons
def o9:=@Option.getD_some
def iT:=@List.map_append
def wZ:=@Nat.zero_mul
def ik:=@List.flatMap_append
def pm:=@List.take_append_drop
def fO:=@List.length_take
def jp:=@Nat.min_eq_left
def il:=@Nat.lt_of_lt_of_le
def po:=@Int.natCast_zero
def HT:=@List.getElem?_zipIdx
def lC:=@List.length_zipIdx
def HU:=@Bool.not_eq_true
def rd:=@List.getD_eq_getElem?_getD
def pq:=@List.length_singleton
def re:=@List.any_eq_true
def Lt:=@List.any_eq_false
def w7:=@List.flatMap_singleton
def zB:=@List.range_succ
def pu:=@List.getElem?_set
def jO:=@List.append_assoc
def Ba:=@List.drop_eq_getElem_cons
def uy:=@List.nodup_append
def m8:=@List.take_length
def pz:=@List.take_zero
def ip:=@List.append_nil
def E7:=@List.length_pos_iff
def uz:=@List.foldl_append
def E8:=@List.foldl_nil
def Bb:=@List.sum_cons
def E9:=@Nat.testBit_or
def Lu:=@List.map_map
def Fa:=@List.length_set
def Fb:=@List.mem_or_eq_of_mem_set
def Bc:=@List.eq_of_mem_replicate
def ow:=@List.take_of_length_le
def Lx:=@List.map_congr_left
def rL:=@List.mem_iff_getElem
def m9:=@Bool.cond_decide
def Fc:=@List.sum_append
def pA:=@List.map_nil
def Fd:=@Array.getElem?_modify
def kM:=@Bool.and_false
def Bd:=@List.mem_append_left
def Fe:=@List.mem_append_right
def Be:=@Nat.testBit_and
def Bf:=@Array.getElem?_push_lt
def fq:=@Nat.le_trans
def Bg:=@Nat.succ_le_iff
def iO:=@Int.ofNat_eq_natCast
def Ff:=@Bool.and_true
def uA:=@Nat.lt_or_ge
def Fg:=@Nat.le_of_lt
def xa:=@Nat.le_add_right
def Bh:=@Bool.or_eq_false_iff
def Bi:=@Nat.le_max_left
def Bj:=@Nat.le_max_right
def Fh:=@Nat.le_total
def rM:=@Nat.min_eq_right
def Fj:=@Nat.zero_min
def Bk:=@Nat.zero_le
def jP:=@Nat.le_succ
def Fk:=@List.nodup_cons
def Bl:=@Nat.min_self
def Fl:=@List.drop_of_length_le
def Bm:=@Nat.min_le_left
def Fm:=@List.length_eq_zero_iff
def kN:=@Bool.false_and
def pB:=@Bool.true_and
def lY:=@List.any_cons
def Bn:=@Nat.one_le_two_pow
def Bo:=@Nat.pow_succ'
def Vm:=@List.idxOf_cons
def Fn:=@Nat.ble_eq_true_of_le
def Fo:=@Nat.le_of_ble_eq_true
def xb:=@Nat.lt_succ_of_lt
def Ly:=@Array.size_eq_zero_iff
def pC:=@List.any_nil
def Fp:=@List.all_nil
inductive T (α:Type) where
 |e:T α
 |n (l:T α) (v:Option α) (r:T α):T α
 deriving Inhabited
namespace T
variable {α:Type}
noncomputable def get (t:T α):Nat ->Option α:=
 T.rec (motive:=fun _=>Nat ->Option α) (fun _=>none)
  (fun _ v _ gl gr k=>Bool.rec (Bool.rec (gr (Nat.sub (Nat.div k 2) 1)) (gl (Nat.div k 2)) (Nat.beq (Nat.mod k 2) 1)) v (Nat.beq k 0)) t
noncomputable def one (x:α) (f:Nat):Nat ->T α:=
 Nat.rec (motive:=fun _=>Nat ->T α) (fun _=> .e)
  (fun _ ih k=>Bool.rec (Bool.rec (.n .e none (ih (Nat.sub (Nat.div k 2) 1))) (.n (ih (Nat.div k 2)) none .e) (Nat.beq (Nat.mod k 2) 1)) (.n .e (some x) .e) (Nat.beq k 0)) f
noncomputable def setK {R:Type} (t:T α):Nat ->α ->(T α ->R) ->R:=
 T.rec (motive:=fun _=>Nat ->α ->(T α ->R) ->R) (fun k x c=>c (one x (Nat.succ k) k))
  (fun l v r sl sr k x c=>Bool.rec (Bool.rec (sr (Nat.sub (Nat.div k 2) 1) x fun r'=>c (.n l v r')) (sl (Nat.div k 2) x fun l'=>c (.n l' v r)) (Nat.beq (Nat.mod k 2) 1)) (c (.n l (some x) r)) (Nat.beq k 0)) t
end T
inductive AV where
 |b (x:Bool)
 |i (k:IntKind) (n:Int)
 |s (l:List Nat)
 |p (o off:Nat)
 |pn
 |dp (l:List AV) (off:Nat)
 |sl (o off len:Nat) (cap:Option Nat) (esz:Nat)
 |sn
 |ds (l:List AV) (off len esz:Nat)
 |m (o:Nat)
 |mn
 |f (fn:Nat) (fi ca:List AV)
 |y (l:Nat)
 |fnil
 |ifc (t:TypeId) (v:AV)
 |ifn
 |ag (l:List AV)
 |tu (l:List AV)
 |un
 deriving Inhabited
abbrev ι(n:Int):AV:=.i .i64 n
inductive MA where
 |t (n:Nat)
 |c (v:AV)
 |g (n:Nat)
 deriving Inhabited
inductive YE where
 |str|arr (n:Nat)|slice|map
 deriving Inhabited
inductive EK where
 |b|i|s|p|sl|m|f|ifc
 deriving Inhabited
inductive ET where
 |lf (k:EK)
 |ag (l:List (Nat×Nat×Bool×ET))
 deriving Inhabited
inductive xc where
 |mv (a:MA)
 |pick (c a b:MA)
 |alloc (z:List AV)
 |box (a:MA) (n:Nat)
 |build (z:List AV) (ps:List (Nat×Nat×MA))
 |bslice (z:List AV) (len esz:Nat) (ps:List (Nat×Nat×MA))
 |load (a:MA) (n:Nat) (agg:Bool)
 |store (a v:MA) (n:Nat)
 |nilc (a:MA)
 |bin (op:BinOp) (x y:MA)
 |eqv (ne:Bool) (e:ET) (x y:MA)
 |un (op:UnOp) (x:MA)
 |cvi (k:IntKind) (x:MA)
 |cvs (x:MA)
 |s2b (x:MA)|b2s (x:MA)
 |mif (t:TypeId) (x:MA)
 |mfn (fn:Nat) (fi ca:List MA)
 |mmap (r:Option MA)
 |mslice (z:List AV) (esz bytes:Nat) (l c:MA)
 |slc (esz:Nat) (x:MA) (lo hi mx:Option MA)
 |slcs (x:MA) (lo hi:Option MA)
 |slca (n esz:Nat) (x:MA) (lo hi mx:Option MA)
 |fadr (x:MA) (off:Nat)
 |fld (x:MA) (off n:Nat) (agg:Bool)
 |iadr (esz:Nat) (x i:MA)
 |iadra (n esz:Nat) (x i:MA)
 |idxs (x i:MA)
 |idxa (len esz:Nat) (agg:Bool) (x i:MA)
 |look (e:ET) (m k:MA) (z:AV) (ok:Bool)
 |mupd (e:ET) (m k v:MA)
 |ment (e:ET) (m k:MA) (z:AV)
 |mest (m s v:MA)
 |rng (x:MA) (str:Bool)
 |nxt (x:MA) (isStr:Bool)
 |ent (x:MA)
 |tas (x:MA) (t:TypeId) (ok:Bool) (z:AV)
 |ext (x:MA) (i:Nat)
 |call (f:Nat) (args:List MA)
 |callv (f:MA) (args:List MA)
 |calli (r:MA) (tbl:List (Nat×Nat)) (args:List MA)
 |app (s x:MA) (esz bytes:Nat)
 |appz (s x:MA) (esz bytes:Nat) (z:List AV)
 |len (k:YE) (x:MA)
 |cap (x:MA)
 |copy (d s:MA) (esz:Nat)
 |min (l:List MA)|max (l:List MA)
 |del (e:ET) (m k:MA)
 |tal (T:Nat) (z:List AV)
 |tbx (T:Nat) (a:MA)
 |tst (a v:MA) (n:Nat)
 |tld (a:MA) (n:Nat) (agg:Bool)
 |tap (T:Nat) (s x:MA) (esz bytes:Nat)
 |cvp (x:MA)
 |cvu (tbl:List (Nat×Nat×Nat)) (x:MA)
 |usd (x:MA)
 |ust (T:Nat) (p n:MA)
 |bad (why:Nat)
 deriving Inhabited
structure MG where
 dst:Option Nat
 op:xc
 guard:Option (Nat×Bool)
 deriving Inhabited
inductive DI where
 |light (i:Nat) (g:MG)
 |resv (i k:Nat) (g:MG)
 |lay (i:Nat)
 |heavy (i:Nat) (g:MG) (mask:Nat)
 deriving Inhabited
inductive ap where
 |skip
 |ops (l:List MG)
 |draw (n:Nat) (l:List DI)
 |dfr (l:List MG) (x:MA) (fn:Nat)
 |seq (a b:ap)
 |cond (c:MA) (a b:ap)
 |block (id:Nat) (c:ap)
 |loop (c:ap)
 |rfun (f:MA) (params:List Nat) (assign body:ap)
 |exit (id:Nat)
 |ret
 |bad (why:Nat)
 deriving Inhabited
structure aR where
 ntmps:Nat
 res:List (Nat×Option (Nat×Bool))
 body:ap
 deriving Inhabited
inductive aU where
 |cells (ver:Nat) (l:List AV)
 |tc (T:Nat) (whole:Bool) (l:List AV)
 |map (ver:Nat) (es:List (AV×AV×Nat)) (clock:Nat)
 |sit (l:List Nat) (pos:Nat)
 |mit (m:Option Nat) (since:Nat) (seen:List Nat) (stepped:Nat)
 |loop (params:List Nat) (assign body:ap) (env:T AV) (st:Nat) (pend:Option (Option Nat))
 |gone
 deriving Inhabited
structure AH where
 next:Nat
 ver:Nat
 objs:T aU
 deriving Inhabited
inductive JA where
 |normal
 |exit (id:Nat)
 |ret
 deriving Inhabited
inductive bj where
 |v (x:AV) (h:AH)
 |call (f:Nat) (args:List AV) (h:AH)
 |yld (l:Nat) (args:List AV) (h:AH)
 |alts (l:List (AV×AH))
 |bad
 deriving Inhabited
end AM
namespace AM
open Go
noncomputable section
section force
variable {R:Type}
def fN (n:Nat) (k:Nat ->R):R:=Nat.rec (motive:=fun _=>R) (k 0) (fun m _=>k (Nat.succ m)) n
def fB (b:Bool) (k:Bool ->R):R:=Bool.rec (motive:=fun _=>R) (k false) (k true) b
def fI (n:Int) (k:Int ->R):R:=Int.rec (motive:=fun _=>R) (fun a=>fN a fun a=>k (.ofNat a)) (fun a=>fN a fun a=>k (.negSucc a)) n
def fV (v:AV) (k:AV ->R):R:=
 match v with
 | .b x=>k (.b x)| .i q n=>k (.i q n)| .s l=>k (.s l)| .p o a=>k (.p o a)| .pn=>k .pn| .dp l a=>k (.dp l a)
 | .sl o a n c e=>k (.sl o a n c e)| .sn=>k .sn| .ds l a n e=>k (.ds l a n e)| .m o=>k (.m o)| .mn=>k .mn| .f g a b=>k (.f g a b)
 | .y l=>k (.y l)| .fnil=>k .fnil| .ifc t v=>k (.ifc t v)| .ifn=>k .ifn| .ag l=>k (.ag l)| .tu l=>k (.tu l)| .un=>k .un
end force
section lists
variable {α β:Type}
def CT (l:List α):Nat ->Option α:=
 List.rec (motive:=fun _=>Nat ->Option α) (fun _=>none) (fun a _ ih n=>Nat.rec (motive:=fun _=>Option α) (some a) (fun m _=>ih m) n) l
def len (l:List α):Nat:=List.rec (motive:=fun _=>Nat ->Nat) (fun n=>n) (fun _ _ ih n=>fN n fun n=>ih (Nat.succ n)) l 0
def gK (l m:List α):Option (List α):=List.rec (motive:=fun _=>Option (List α)) (some m) (fun a _ ih=>Option.rec (motive:=fun _=>Option (List α)) none (fun t=>some (a::t)) ih) l
def fC (f:α ->Option β) (l:List α):Option (List β):=
 List.rec (motive:=fun _=>Option (List β)) (some []) (fun a _ ih=>Option.rec (motive:=fun _=>Option (List β)) none (fun b=>Option.rec (motive:=fun _=>Option (List β)) none (fun t=>some (b::t)) ih) (f a)) l
def Lz (l:List α):Nat ->Option (List α):=
 List.rec (motive:=fun _=>Nat ->Option (List α)) (fun n=>Nat.rec (motive:=fun _=>Option (List α)) (some []) (fun _ _=>none) n)
  (fun a t ih n=>Nat.rec (motive:=fun _=>Option (List α)) (some (a::t)) (fun m _=>ih m) n) l
def zC (l:List α):Nat ->Option (List α):=
 List.rec (motive:=fun _=>Nat ->Option (List α)) (fun n=>Nat.rec (motive:=fun _=>Option (List α)) (some []) (fun _ _=>none) n)
  (fun a _ ih n=>Nat.rec (motive:=fun _=>Option (List α)) (some []) (fun m _=>Option.rec (motive:=fun _=>Option (List α)) none (fun t=>some (a::t)) (ih m)) n) l
def sub (l:List α) (off n:Nat):Option (List α):=
 Option.rec (motive:=fun _=>Option (List α)) none (fun t=>zC t n) (Lz l off)
def sT (c:List α):List α ->Option (List α):=
 List.rec (motive:=fun _=>List α ->Option (List α)) (fun l=>some l)
  (fun x _ ih l=>List.casesOn (motive:=fun _=>Option (List α)) l none fun _ t=>Option.rec (motive:=fun _=>Option (List α)) none (fun r=>some (x::r)) (ih t)) c
def bD (c:List α) (l:List α):Nat ->Option (List α):=
 List.rec (motive:=fun _=>Nat ->Option (List α)) (fun n=>Nat.rec (motive:=fun _=>Option (List α)) (sT c []) (fun _ _=>none) n)
  (fun a t ih n=>Nat.rec (motive:=fun _=>Option (List α)) (sT c (a::t)) (fun m _=>Option.rec (motive:=fun _=>Option (List α)) none (fun r=>some (a::r)) (ih m)) n) l
def y8 (z:List α) (n:Nat):Option (List α):=Nat.rec (motive:=fun _=>Option (List α)) (some []) (fun _ ih=>Option.rec (motive:=fun _=>Option (List α)) none (fun t=>gK z t) ih) n
end lists
def rN (x:List Nat):List Nat ->Bool:=
 List.rec (motive:=fun _=>List Nat ->Bool) (fun y=>List.casesOn (motive:=fun _=>Bool) y true fun _ _=>false)
  (fun a _ ih y=>List.casesOn (motive:=fun _=>Bool) y false fun b t=>Bool.rec false (ih t) (Nat.beq a b)) x
def Tt (x:List Nat):List Nat ->Bool:=
 List.rec (motive:=fun _=>List Nat ->Bool) (fun y=>List.casesOn (motive:=fun _=>Bool) y false fun _ _=>true)
  (fun a _ ih y=>List.casesOn (motive:=fun _=>Bool) y false fun b t=>Bool.rec (Bool.rec false (ih t) (Nat.beq a b)) true (Nat.ble (Nat.succ a) b)) x
def fQ:Int ->Int ->Bool
 | .ofNat a,.ofNat b=>Nat.beq a b
 | .negSucc a,.negSucc b=>Nat.beq a b
 |_,_=>false
def gO:Int ->Int ->Bool
 | .ofNat a,.ofNat b=>Nat.ble (Nat.succ a) b
 | .negSucc a,.negSucc b=>Nat.ble (Nat.succ b) a
 | .negSucc _,.ofNat _=>true
 | .ofNat _,.negSucc _=>false
def bT (k:IntKind) (n:Int):Int:=
 match n with
 | .ofNat a=>match k with
  | .i64=>bif Nat.ble a 9223372036854775807 then .ofNat a else k.wrap (.ofNat a)
  | .u64=>bif Nat.ble a 18446744073709551615 then .ofNat a else k.wrap (.ofNat a)
  | .u8=>bif Nat.ble a 255 then .ofNat a else k.wrap (.ofNat a)
  |_=>k.wrap (.ofNat a)
 | .negSucc a=>match k with
  | .i64=>bif Nat.ble a 9223372036854775807 then .negSucc a else k.wrap (.negSucc a)
  |_=>k.wrap (.negSucc a)
def dI:AV ->Option Nat
 | .i _ (.ofNat n)=>some n
 |_=>none
def cellsOf:AV ->List AV
 | .ag l=>l
 |v=>[v]
def cellsO:AV ->Option (List AV)
 | .ag l=>some l
 | .tu _=>none
 | .un=>none
 |v=>some [v]
def bU:AV ->Bool
 | .ag _=>false
 | .tu _=>false
 | .un=>false
 |_=>true
def cE (l:List AV):Bool:=List.rec (motive:=fun _=>Bool) true (fun a _ ih=>Bool.rec (motive:=fun _=>Bool) false ih (bU a)) l
def iQ (agg:Bool) (l:List AV):Option AV:=
 bif agg then some (.ag l) else match l with|[v]=>some v|_=>none
def ri (k:IntKind) (n:Int):Option AV:=fI n fun n=>some (.i k n)
def rb (b:Bool):Option AV:=fB b fun b=>some (.b b)
def sU:IntKind ->Nat
 | .i8=>127| .i16=>32767| .i32=>2147483647| .i64=>9223372036854775807
 | .u8=>255| .u16=>65535| .u32=>4294967295| .u64=>18446744073709551615
def rP:IntKind ->IntKind ->Bool
 | .i64,.i64=>true| .u64,.u64=>true| .u8,.u8=>true| .i32,.i32=>true| .u32,.u32=>true| .u16,.u16=>true| .i16,.i16=>true| .i8,.i8=>true
 |_,_=>false
def bits (k:IntKind) (f:Nat ->Nat ->Nat) (g:BitVec k.bits ->BitVec k.bits ->BitVec k.bits):Int ->Int ->Option AV
 | .ofNat m,.ofNat n=>bif Nat.ble m (sU k)&&Nat.ble n (sU k) then ri k (Int.ofNat (f m n)) else ri k (k.wrap (g (BitVec.ofInt k.bits (.ofNat m)) (BitVec.ofInt k.bits (.ofNat n))).toNat)
 |a,b=>ri k (k.wrap (g (BitVec.ofInt k.bits a) (BitVec.ofInt k.bits b)).toNat)
def Q1 (k:IntKind) (n:Nat):Nat:=Nat.pow 2 (bif Nat.ble n k.bits then n else k.bits)
def LA (op:BinOp) (k k':IntKind) (a b:Int):Option AV:=
 match op with
 | .shl=>match b with
  | .ofNat n=>ri k (bT k (Int.mul a (Int.ofNat (Q1 k n))))
  |_=>none
 | .shr=>match b,a with
  | .ofNat n,.ofNat m=>ri k (Int.ofNat (Nat.div m (Q1 k n)))
  | .ofNat n,a=>ri k (a.fdiv (Int.ofNat (Q1 k n)))
  |_,_=>none
 |op=>bif rP k k' then (match op with
  | .add=>ri k (bT k (Int.add a b))
  | .sub=>ri k (bT k (Int.sub a b))
  | .mul=>ri k (bT k (Int.mul a b))
  | .eql=>rb (fQ a b)
  | .neq=>rb (!(fQ a b))
  | .lss=>rb (gO a b)
  | .leq=>rb (!(gO b a))
  | .gtr=>rb (gO b a)
  | .geq=>rb (!(gO a b))
  | .quo=>bif fQ b 0 then none else ri k (bT k (a.tdiv b))
  | .rem=>bif fQ b 0 then none else ri k (a.tmod b)
  | .and=>bits k Nat.land (fun x y=>x&&&y) a b
  | .or=>bits k Nat.lor (fun x y=>x|||y) a b
  | .xor=>bits k Nat.xor (fun x y=>x^^^y) a b
  | .andNot=>ri k (k.wrap (BitVec.ofInt k.bits a&&&~~~(BitVec.ofInt k.bits b)).toNat)
  |_=>none) else none
def LB (op:BinOp) (a b:List Nat):Option AV:=
 match op with
 | .add=>bif Nat.ble (len a) 1048576&&Nat.ble (len b) 1048576 then (match gK a b with|some l=>some (.s l)|none=>none) else none
 | .eql=>rb (rN a b)
 | .neq=>rb (!(rN a b))
 | .lss=>rb (Tt a b)
 | .leq=>rb (Tt a b||rN a b)
 | .gtr=>rb (!(Tt a b||rN a b))
 | .geq=>rb (!(Tt a b))
 |_=>none
def aV (op:BinOp) (x y:AV):Option AV:=
 match x,y with
 | .i k a,.i k' b=>LA op k k' a b
 | .s a,.s b=>LB op a b
 |_,_=>none
def rh:EK ->AV ->AV ->Option Bool
 | .b,.b x,.b y=>some (bif x then y else !y)
 | .i,.i k x,.i k' y=>bif rP k k' then some (fQ x y) else none
 | .s,.s x,.s y=>some (rN x y)
 | .p,.p o a,.p o' a'=>bif Nat.beq o o' then some (Nat.beq a a') else none
 | .p,.pn,.pn=>some true
 | .p,.p _ _,.pn=>some false
 | .p,.pn,.p _ _=>some false
 | .p,.dp _ _,.pn=>some false
 | .p,.pn,.dp _ _=>some false
 | .sl,.sn,.sn=>some true
 | .sl,.sl ..,.sn=>some false
 | .sl,.sn,.sl .. =>some false
 | .sl,.ds ..,.sn=>some false
 | .sl,.sn,.ds .. =>some false
 | .m,.mn,.mn=>some true
 | .m,.m _,.mn=>some false
 | .m,.mn,.m _=>some false
 | .f,.fnil,.fnil=>some true
 | .f,.f ..,.fnil=>some false
 | .f,.fnil,.f .. =>some false
 | .ifc,.ifn,.ifn=>some true
 | .ifc,.ifc ..,.ifn=>some false
 | .ifc,.ifn,.ifc .. =>some false
 |_,_,_=>none
def fS:Nat ->ET ->AV ->AV ->Option Bool
 |_,.lf k,x,y=>rh k x y
 |n+1,.ag l,.ag x,.ag y=>List.rec (motive:=fun _=>Option Bool) (some true) (fun f _ ih=>
  match sub x f.1 f.2.1,sub y f.1 f.2.1 with
  |some a,some b=>match iQ f.2.2.1 a,iQ f.2.2.1 b with
   |some a,some b=>match fS n f.2.2.2 a b with
    |some true=>ih
    |r=>r
   |_,_=>none
  |_,_=>none) l
 |_,_,_,_=>none
def Tu (op:UnOp) (x:AV):Option AV:=
 match op,x with
 | .neg,.i k n=>ri k (bT k (Int.sub 0 n))
 | .not,.b b=>rb (!b)
 | .xor,.i k n=>ri k (k.wrap (BitVec.ofInt k.bits (if k.signed then -1 else k.max)^^^BitVec.ofInt k.bits n).toNat)
 |_,_=>none
namespace AH
def get (h:AH) (o:Nat):Option aU:=h.objs.get o
def new {R:Type} (h:AH) (o:aU) (c:Nat ->AH ->R):R:=
 match h with
 |⟨next,ver,objs⟩=>objs.setK next o fun t=>fN next fun m=>c m ⟨Nat.succ m,ver,t⟩
def put {R:Type} (h:AH) (n:Nat) (o:aU) (c:AH ->R):R:=
 match h with
 |⟨next,ver,objs⟩=>objs.setK n o fun t=>fN ver fun ver=>c ⟨next,Nat.succ ver,t⟩
def cells (h:AH) (o:Nat):Option (List AV):=
 match h.get o with|some (.cells _ l)=>some l|_=>none
def rows (h:AH) (o:Nat):Option (List AV):=
 match h.get o with|some (.cells _ l)=>some l|some (.tc _ _ l)=>some l|_=>none
end AH
def cR (h:AH) (esz:Nat):AV ->Option (List AV)
 | .sl o off n _ e=>bif Nat.beq e esz then (match h.cells o with|some l=>sub l off (n*esz)|none=>none) else none
 | .ds l off n e=>bif Nat.beq e esz then sub l off (n*esz) else none
 | .sn=>some []
 | .s l=>bif Nat.beq esz 1 then fC (fun b=>some (.i .u8 (.ofNat b))) l else none
 |_=>none
def eI:AV ->Option Nat
 | .sl _ _ n _ _=>some n
 | .ds _ _ n _=>some n
 | .sn=>some 0
 | .s l=>some (len l)
 |_=>none
def uB:AV ->Option Nat
 | .i .u8 (.ofNat n)=>bif Nat.ble n 255 then some n else none
 |_=>none
def gE (l:List AV):Option (List Nat):=fC uB l
def iM (t:ET) (k:AV) (l:List (AV×AV×Nat)):Option (Option (AV×AV×Nat)):=
 List.rec (motive:=fun _=>Option (Option (AV×AV×Nat))) (some none) (fun e _ ih=>match fS 6 t k e.1 with
  |some true=>some (some e)
  |some false=>ih
  |none=>none) l
def bI (len cap:Nat) (lo hi mx:Option (Option Nat)):Option (Nat×Nat×Nat):=
 match (match mx with|none=>some cap|some r=>r),(match hi with|none=>some len|some r=>r),(match lo with|none=>some 0|some r=>r) with
 |some m,some h,some l=>bif Nat.ble m cap&&Nat.ble h m&&Nat.ble l h then some (l,h,m) else none
 |_,_,_=>none
def eH (h:AH) (s:AV) (n:Nat) (new:List AV) (esz:Nat):bj:=
 Nat.rec (motive:=fun _=>bj) (match s with| .sn=> .v .sn h| .sl o a n c e=> .v (.sl o a n c e) h| .ds l a n e=> .v (.ds l a n e) h|_=> .bad) (fun _ _=>
 match s with
 | .sn=>bif Nat.ble n 1048576&&cE new then h.new (.cells h.ver new) fun o h=>fN n fun n=> .v (.sl o 0 n none esz) h else .bad
 | .sl o off ln cap e=>
  match h.cells o with
  |none=> .bad
  |some l=>fN (ln+n) fun need=>bif !(Nat.beq e esz&&(Nat.ble need 1048576&&cE new)) then .bad else
   match cap with
   |some c=>
    bif Nat.ble need c then
     match bD new l (off+ln*esz) with
     |some l'=>h.put o (.cells (Nat.succ h.ver) l') fun h=> .v (.sl o off need cap esz) h
     |none=> .bad
    else match sub l off (ln*esz) with
     |some old=>match gK old new with
      |some l=>h.new (.cells h.ver l) fun o h=> .v (.sl o 0 need none esz) h
      |none=> .bad
     |none=> .bad
   |none=>match sub l off (ln*esz) with
    |some old=>match gK old new with
     |some l=>h.put o .gone fun h=>h.new (.cells h.ver l) fun o h=> .v (.sl o 0 need none esz) h
     |none=> .bad
    |none=> .bad
 |_=> .bad) n
def Fq (h:AH) (T:Nat) (s:AV) (n:Nat) (new:List AV) (esz:Nat):bj:=
 Nat.rec (motive:=fun _=>bj) (match s with| .sn=> .v .sn h| .sl o a n c e=> .v (.sl o a n c e) h| .ds l a n e=> .v (.ds l a n e) h|_=> .bad) (fun _ _=>
 match s with
 | .sn=>bif Nat.ble n 1048576&&cE new then h.new (.tc T false new) fun o h=>fN n fun n=> .v (.sl o 0 n none esz) h else .bad
 | .sl o 0 ln none e=>
  match h.get o with
  |some (.tc T' _ l)=>fN (ln+n) fun need=>bif !(Nat.beq T' T&&(Nat.beq e esz&&(Nat.ble need 1048576&&cE new))) then .bad else
   match sub l 0 (ln*esz) with
   |some old=>match gK old new with
    |some l=>h.put o .gone fun h=>h.new (.tc T false l) fun o h=> .v (.sl o 0 need none esz) h
    |none=> .bad
   |none=> .bad
  |_=> .bad
 |_=> .bad) n
def CU (T n off:Nat) (l:List (Nat×Nat×Nat)):Bool:=List.rec (motive:=fun _=>Bool) false (fun e _ ih=>Nat.beq e.1 T&&(Nat.beq e.2.1 n&&Nat.beq e.2.2 off)||ih) l
def gk (ev:MA ->AV) (ps:List (Nat×Nat×MA)):List AV ->Option (List AV):=
 List.rec (motive:=fun _=>List AV ->Option (List AV)) (fun l=>some l)
  (fun p _ ih l=>match cellsO (ev p.2.2) with
   |some c=>bif Nat.beq (len c) p.2.1 then (match bD c l p.1 with|some l=>ih l|none=>none) else none
   |none=>none) ps
def ig (h:AH) (r:Option AV):bj:=match r with|some x=> .v x h|none=> .bad
def mJ (lt:Int ->Int ->Bool) (k:IntKind) (l:List AV):Int ->Option AV:=
 List.rec (motive:=fun _=>Int ->Option AV) (fun a=>some (.i k a)) (fun x _ ih a=>match x with| .i _ b=>bif lt b a then ih b else ih a|_=>none) l
def nG (et:ET) (k:AV):Bool:=match et with
 | .lf _=>true
 | .ag l=>match fS 6 (.ag l) k k with|some true=>true|_=>false
def xd:AV ->AV ->Bool
 | .b x,.b y=>x==y
 | .i k n,.i k' n'=>rP k k'&&fQ n n'
 | .s x,.s y=>rN x y
 | .p o a,.p o' a'=>Nat.beq o o'&&Nat.beq a a'
 | .pn,.pn=>true
 | .sn,.sn=>true
 | .mn,.mn=>true
 | .fnil,.fnil=>true
 | .ifn,.ifn=>true
 |_,_=>false
def eE (l:List AV):List AV ->Bool:=
 List.rec (motive:=fun _=>List AV ->Bool) (fun v=>List.isEmpty v) (fun a _ ih v=>match v with|[]=>false|u::r=>xd a u&&ih r) l
def nH:AV ->AV ->Bool
 | .ag x,.ag y=>eE x y
 |x,y=>xd x y
def qP (b:Nat) (x y:AV) (l:List (AV×AV×Nat)):Option (List (AV×AV×Nat)):=
 List.rec (motive:=fun _=>Option (List (AV×AV×Nat))) none
  (fun e t ih=>bif Nat.beq e.2.2 b then some ((x,y,e.2.2)::t) else match ih with|some t=>some (e::t)|none=>none) l
def YF (b:Nat) (l:List (AV×AV×Nat)):Option (List (AV×AV×Nat)):=
 List.rec (motive:=fun _=>Option (List (AV×AV×Nat))) none
  (fun e t ih=>bif Nat.beq e.2.2 b then some t else match ih with|some t=>some (e::t)|none=>none) l
def xe (n:Nat) (l:List Nat):Bool:=List.rec (motive:=fun _=>Bool) false (fun a _ ih=>Nat.beq a n||ih) l
def xf (seen:List Nat) (l:List (AV×AV×Nat)):Option (List (AV×AV×Nat)):=
 List.rec (motive:=fun _=>Option (List (AV×AV×Nat))) (some []) (fun e _ ih=>bif xe e.2.2 seen then ih else match ih with|some t=>some (e::t)|none=>none) l
def Ft (since:Nat) (l:List (AV×AV×Nat)):Bool:=List.rec (motive:=fun _=>Bool) true (fun e _ ih=>Nat.ble (Nat.succ e.2.2) since&&ih) l
def xg (seen:List Nat) (stepped:Nat) (es:List (AV×AV×Nat)):Bool:=match seen,es with
 |[],_=>true
 |_::_,[]=>true
 |_::_,e::_=>Nat.ble (Nat.succ e.2.2) stepped
def sV (b:Nat) (l:List (AV×AV×Nat)):Option (AV×AV×Nat):=
 List.rec (motive:=fun _=>Option (AV×AV×Nat)) none (fun e _ ih=>bif Nat.beq e.2.2 b then some e else ih) l
def zD (t:Nat) (l:List (Nat×Nat)):Option Nat:=List.rec (motive:=fun _=>Option Nat) none (fun e _ ih=>bif Nat.beq e.1 t then some e.2 else ih) l
def Fu (h:AH) (o:Nat) (isStr:Bool):bj:=match h.get o with
 |some (.sit l pos)=>bif isStr then (match CT l pos with
  |some b=>bif Nat.ble b 127 then (fN pos fun pos=>h.put o (.sit l (Nat.succ pos)) fun h=> .v (.tu [.b true,.i .i64 (.ofNat pos),.i .i32 (.ofNat b)]) h) else .bad
  |none=> .v (.tu [.b false]) h) else .bad
 |some (.mit none _ _ _)=>bif isStr then .bad else .v (.tu [.b false]) h
 |some (.mit (some m) since seen stepped)=>bif isStr then .bad else match h.get m with
  |some (.map _ es cl)=>bif !(xg seen stepped es) then .bad else match xf seen es with
   |some left=>bif Ft since left then (match left with
    |[]=> .v (.tu [.b false]) h
    |[e]=>match gK seen [e.2.2] with
     |some seen=>h.put o (.mit (some m) since seen cl) fun h=> .v (.tu [.b true,e.1,e.2.1]) h
     |none=> .bad
    |l=>match fC (fun (e:AV×AV×Nat)=>match gK seen [e.2.2] with
     |some seen=>h.put o (.mit (some m) since seen cl) fun h=>some (AV.tu [.b true,e.1,e.2.1],h)
     |none=>none) l with
     |some l=> .alts l
     |none=> .bad) else .bad
   |none=> .bad
  |_=> .bad
 |_=> .bad
def Fv (h:AH) (o:Nat):bj:=match h.get o with
 |some (.mit (some m) _ seen stepped)=>match h.get m with
  |some (.map _ es cl)=>match List.rec (motive:=fun _=>Option Nat ->Option Nat) (fun r=>r) (fun a _ ih _=>ih (some a)) seen none with
   |some b=>bif Nat.beq cl stepped then (match sV b es with|some e=> .v (.tu [e.1,e.2.1]) h|none=> .bad) else .bad
   |none=> .bad
  |_=> .bad
 |_=> .bad
section
variable (ev:MA ->AV)
def kK (l:List MA):Option (List AV):=fC (fun a=>fV (ev a) some) l
def nA (a:MA):Option Nat:=dI (ev a)
def nO:Option MA ->Option (Option Nat)
 |none=>none
 |some a=>some (nA ev a)
def step (h:AH) (op:xc):bj:=
 match op with
 | .mv a=>fV (ev a) fun x=> .v x h
 | .pick c a b=>match ev c with| .b x=>Bool.rec (motive:=fun _=>bj) (fV (ev b) fun x=> .v x h) (fV (ev a) fun x=> .v x h) x|_=> .bad
 | .alloc z=>h.new (.cells h.ver z) fun o h=> .v (.p o 0) h
 | .box a _=>match cellsO (ev a) with|some l=>h.new (.cells h.ver l) fun o h=> .v (.p o 0) h|none=> .bad
 | .build z ps=>match gk ev ps z with|some l=> .v (.ag l) h|none=> .bad
 | .bslice z n esz ps=>match gk ev ps z with
  |some l=>h.new (.cells h.ver l) fun o h=> .v (.sl o 0 n (some n) esz) h
  |none=> .bad
 | .load a n agg=>match ev a with
  | .p o off=>match h.cells o with
   |some l=>match sub l off n with|some c=>ig h (iQ agg c)|none=> .bad
   |none=> .bad
  | .dp l off=>match sub l off n with|some c=>ig h (iQ agg c)|none=> .bad
  |_=> .bad
 | .store a x n=>match ev a with
  | .p o off=>match h.cells o with
   |some l=>fV (ev x) fun x=>match bD (cellsOf x) l off with
    |some l'=>bif cE (cellsOf x)&&Nat.beq (len (cellsOf x)) n then h.put o (.cells (Nat.succ h.ver) l') fun h=> .v .un h else .bad
    |none=> .bad
   |none=> .bad
  |_=> .bad
 | .tal T z=>h.new (.tc T true z) fun o h=> .v (.p o 0) h
 | .tbx T a=>match cellsO (ev a) with|some l=>h.new (.tc T true l) fun o h=> .v (.p o 0) h|none=> .bad
 | .tst a x n=>match ev a with
  | .p o off=>match h.get o with
   |some (.tc T wh l)=>fV (ev x) fun x=>match bD (cellsOf x) l off with
    |some l'=>bif cE (cellsOf x)&&Nat.beq (len (cellsOf x)) n then h.put o (.tc T wh l') fun h=> .v .un h else .bad
    |none=> .bad
   |some (.cells _ l)=>fV (ev x) fun x=>match bD (cellsOf x) l off with
    |some l'=>bif cE (cellsOf x)&&Nat.beq (len (cellsOf x)) n then h.put o (.cells 0 l') fun h=> .v .un h else .bad
    |none=> .bad
   |_=> .bad
  |_=> .bad
 | .tld a n agg=>match ev a with
  | .p o off=>match h.rows o with
   |some l=>match sub l off n with|some c=>ig h (iQ agg c)|none=> .bad
   |none=> .bad
  | .dp l off=>match sub l off n with|some c=>ig h (iQ agg c)|none=> .bad
  |_=> .bad
 | .cvp x=>match ev x with
  | .p o off=>match h.get o with
   |some (.tc _ _ l)=>bif Nat.ble (Nat.succ off) (len l) then .v (.p o off) h else .bad
   |_=> .bad
  |_=> .bad
 | .cvu tbl x=>match ev x with
  | .p o off=>match h.get o with
   |some (.tc T true l)=>bif CU T (len l) off tbl then .v (.p o off) h else .bad
   |_=> .bad
  |_=> .bad
 | .usd x=>match ev x with
  | .sn=> .v .pn h
  | .sl o off (n+1) c e=> .v (.p o off) h
  |_=> .bad
 | .ust T p n=>match ev n with
  | .i .i64 (.ofNat 0)=>(match ev p with| .pn=> .v (.s []) h|_=> .bad)
  | .i .i64 (.ofNat (n+1))=>(match ev p with
   | .p o 0=>match h.get o with
    |some (.tc T' _ l)=>bif Nat.beq T' T&&Nat.ble n 1048576 then (match sub l 0 (Nat.succ n) with
     |some c=>match gE c with
      |some b=>h.put o .gone fun h=> .v (.s b) h
      |none=> .bad
     |none=> .bad) else .bad
    |_=> .bad
   |_=> .bad)
  |_=> .bad
 | .nilc a=>match ev a with
  | .p o a=> .v (.p o a) h
  | .dp l a=> .v (.dp l a) h
  | .f g a b=> .v (.f g a b) h
  | .y l=> .v (.y l) h
  | .ifc t v=> .v (.ifc t v) h
  | .m o=> .v (.m o) h
  |_=> .bad
 | .bin op x y=>ig h (aV op (ev x) (ev y))
 | .eqv ne e x y=>match fS 6 e (ev x) (ev y) with|some r=> .v (.b (bif ne then !r else r)) h|none=> .bad
 | .un op x=>ig h (Tu op (ev x))
 | .cvi k x=>match ev x with| .i _ n=>ig h (ri k (bT k n))|_=> .bad
 | .cvs x=>match ev x with| .s l=> .v (.s l) h|_=> .bad
 | .s2b x=>match ev x with
  | .s l=>match fC (fun b=>some (AV.i .u8 (.ofNat b))) l with
   |some c=>fN (len l) fun n=>h.new (.cells h.ver c) fun o h=> .v (.sl o 0 n none 1) h
   |none=> .bad
  |_=> .bad
 | .b2s x=>match ev x with
  | .s _=> .bad
  |y=>match cR h 1 y with
   |some l=>match gE l with|some b=> .v (.s b) h|none=> .bad
   |none=> .bad
 | .mif t x=>fV (ev x) fun x=> .v (.ifc t x) h
 | .mfn fn a b=>match kK ev a,kK ev b with|some a,some b=> .v (.f fn a b) h|_,_=> .bad
 | .mmap r=>match r with
  |none=>h.new (.map h.ver [] 0) fun o h=> .v (.m o) h
  |some a=>match ev a with| .i _ _=>h.new (.map h.ver [] 0) fun o h=> .v (.m o) h|_=> .bad
 | .mslice z esz _ l c=>match nA ev l,nA ev c with
  |some l,some c=>bif Nat.ble l c&&Nat.ble c 1048576 then (match y8 z c with
   |some r=>h.new (.cells h.ver r) fun o h=> .v (.sl o 0 l (some c) esz) h
   |none=> .bad) else .bad
  |_,_=> .bad
 | .slc es x lo hi mx=>
  match ev x with
  | .sl o off n cap esz=>bif !(Nat.beq esz es) then .bad else match cap with
   |some c=>match bI n c (nO ev lo) (nO ev hi) (nO ev mx) with
    |some (l,r,m)=>fN (off+l*esz) fun off=>fN (r-l) fun n=>fN (m-l) fun c=> .v (.sl o off n (some c) esz) h
    |none=> .bad
   |none=>match mx with
    |none=>match bI n n (nO ev lo) (nO ev hi) none with
     |some (l,r,_)=>fN (off+l*esz) fun off=>fN (r-l) fun n=> .v (.sl o off n none esz) h
     |none=> .bad
    |some mx=>match bI n n (nO ev lo) (nO ev hi) (nO ev (some mx)) with
     |some (l,r,m)=>fN (off+l*esz) fun off=>fN (r-l) fun n=>fN (m-l) fun c=> .v (.sl o off n (some c) esz) h
     |none=> .bad
  | .ds c off n esz=>bif !(Nat.beq esz es) then .bad else match mx with
   |none=>match bI n n (nO ev lo) (nO ev hi) none with
    |some (l,r,_)=>fN (off+l*esz) fun off=>fN (r-l) fun n=> .v (.ds c off n esz) h
    |none=> .bad
   |some _=> .bad
  | .sn=>match bI 0 0 (nO ev lo) (nO ev hi) (nO ev mx) with|some _=> .v .sn h|none=> .bad
  |_=> .bad
 | .slcs x lo hi=>
  match ev x with
  | .s s=>match bI (len s) (len s) (nO ev lo) (nO ev hi) none with
   |some (l,r,_)=>match sub s l (r-l) with|some t=> .v (.s t) h|none=> .bad
   |none=> .bad
  |_=> .bad
 | .slca n esz x lo hi mx=>
  match bI n n (nO ev lo) (nO ev hi) (nO ev mx) with
  |some (l,r,m)=>match ev x with
   | .p o off=>match h.cells o with
    |some cs=>match sub cs off (n*esz) with
     |some _=>fN (off+l*esz) fun off=>fN (r-l) fun n=>fN (m-l) fun c=> .v (.sl o off n (some c) esz) h
     |none=> .bad
    |none=> .bad
   | .dp c off=>fN (off+l*esz) fun off=>fN (r-l) fun n=> .v (.ds c off n esz) h
   |_=> .bad
  |none=> .bad
 | .fadr x off=>match ev x with
  | .p o a=>fN (a+off) fun a=> .v (.p o a) h
  | .dp l a=>fN (a+off) fun a=> .v (.dp l a) h
  |_=> .bad
 | .fld x off n agg=>match ev x with
  | .ag l=>match sub l off n with|some c=>ig h (iQ agg c)|none=> .bad
  |_=> .bad
 | .iadr es x i=>match nA ev i with
  |some k=>match ev x with
   | .sl o off n _ esz=>bif Nat.beq esz es&&Nat.ble (Nat.succ k) n then fN (off+k*esz) fun a=> .v (.p o a) h else .bad
   | .ds l off n esz=>bif Nat.beq esz es&&Nat.ble (Nat.succ k) n then fN (off+k*esz) fun a=> .v (.dp l a) h else .bad
   |_=> .bad
  |none=> .bad
 | .iadra n esz x i=>match nA ev i with
  |some k=>bif Nat.ble (Nat.succ k) n then (match ev x with
   | .p o off=>fN (off+k*esz) fun a=> .v (.p o a) h
   | .dp l off=>fN (off+k*esz) fun a=> .v (.dp l a) h
   |_=> .bad) else .bad
  |none=> .bad
 | .idxs x i=>match nA ev i,ev x with
  |some k,.s l=>match CT l k with|some b=> .v (.i .u8 (.ofNat b)) h|none=> .bad
  |_,_=> .bad
 | .idxa n esz agg x i=>match nA ev i,ev x with
  |some k,.ag l=>bif Nat.ble (Nat.succ k) n then (match sub l (k*esz) esz with|some c=>ig h (iQ agg c)|none=> .bad) else .bad
  |_,_=> .bad
 | .look et m k z ok=>bif !(nG et (ev k)) then .bad else
  match (match ev m with
   | .mn=>some none
   | .m o=>match h.get o with|some (.map _ es _)=>iM et (ev k) es|_=>none
   |_=>none) with
  |some (some e)=>Bool.rec (motive:=fun _=>bj) (.v e.2.1 h) (.v (.tu [e.2.1,.b true]) h) ok
  |some none=>Bool.rec (motive:=fun _=>bj) (.v z h) (.v (.tu [z,.b false]) h) ok
  |none=> .bad
 | .mupd et m k x=>bif !(nG et (ev k)) then .bad else match ev m with
  | .m o=>match h.get o with
   |some (.map _ es cl)=>fV (ev k) fun k=>fV (ev x) fun x=>match iM et k es with
    |some (some e)=>bif nH k e.1 then (match qP e.2.2 k x es with
     |some es=>h.put o (.map (Nat.succ h.ver) es cl) fun h=> .v .un h
     |none=> .bad) else .bad
    |some none=>match gK es [(k,x,cl)] with
     |some es=>fN cl fun cl=>h.put o (.map (Nat.succ h.ver) es (Nat.succ cl)) fun h=> .v .un h
     |none=> .bad
    |none=> .bad
   |_=> .bad
  |_=> .bad
 | .ment et m k z=>bif !(nG et (ev k)) then .bad else match ev m with
  | .m o=>match h.get o with
   |some (.map _ es cl)=>fV (ev k) fun k=>match iM et k es with
    |some (some e)=>bif nH k e.1 then (match qP e.2.2 k e.2.1 es with
     |some es=>h.put o (.map (Nat.succ h.ver) es cl) fun h=> .v (.tu [e.2.1,.i .i64 (.ofNat e.2.2)]) h
     |none=> .bad) else .bad
    |some none=>match gK es [(k,z,cl)] with
     |some es=>fN cl fun cl=>h.put o (.map (Nat.succ h.ver) es (Nat.succ cl)) fun h=> .v (.tu [z,.i .i64 (.ofNat cl)]) h
     |none=> .bad
    |none=> .bad
   |_=> .bad
  |_=> .bad
 | .mest m s x=>match ev m,nA ev s with
  | .m o,some b=>match h.get o with
   |some (.map _ es cl)=>fV (ev x) fun x=>match sV b es with
    |some e=>match qP b e.1 x es with
     |some es=>h.put o (.map (Nat.succ h.ver) es cl) fun h=> .v .un h
     |none=> .bad
    |none=> .bad
   |_=> .bad
  |_,_=> .bad
 | .rng x str=>match ev x with
  | .s l=>bif str then h.new (.sit l 0) fun o h=> .v (.p o 0) h else .bad
  | .mn=>bif str then .bad else h.new (.mit none 0 [] 0) fun o h=> .v (.p o 0) h
  | .m o=>bif str then .bad else match h.get o with
   |some (.map _ _ cl)=>h.new (.mit (some o) cl [] cl) fun o h=> .v (.p o 0) h
   |_=> .bad
  |_=> .bad
 | .nxt x isStr=>match ev x with
  | .p o off=>bif Nat.beq off 0 then Fu h o isStr else .bad
  |_=> .bad
 | .ent x=>match ev x with
  | .p o off=>bif Nat.beq off 0 then Fv h o else .bad
  |_=> .bad
 | .tas x t ok z=>match ev x with
  | .ifc u y=>bif Nat.beq u t then Bool.rec (motive:=fun _=>bj) (.v y h) (.v (.tu [y,.b true]) h) ok else bif ok then .v (.tu [z,.b false]) h else .bad
  | .ifn=>bif ok then .v (.tu [z,.b false]) h else .bad
  |_=> .bad
 | .ext x i=>match ev x with| .tu l=>ig h (CT l i)|_=> .bad
 | .call f args=>match kK ev args with|some l=> .call f l h|none=> .bad
 | .callv f args=>match kK ev args with
  |some l=>match ev f with
   | .f g fi ca=>match gK l ca with
    |some l=>match gK fi l with|some l=> .call g l h|none=> .bad
    |none=> .bad
   | .y o=> .yld o l h
   |_=> .bad
  |none=> .bad
 | .calli r tbl args=>match ev r,kK ev args with
  | .ifc t x,some l=>match zD t tbl with|some f=> .call f (x::l) h|none=> .bad
  |_,_=> .bad
 | .app s x esz _=>match eI (ev x),cR h esz (ev x) with
  |some n,some l=>eH h (ev s) n l esz
  |_,_=> .bad
 | .tap T s x esz _=>match eI (ev x),cR h esz (ev x) with
  |some n,some l=>Fq h T (ev s) n l esz
  |_,_=> .bad
 | .appz s x esz _ z=>match ev s,nA ev x with
  | .sn,some (n+1)=>bif Nat.ble n 1000000 then (match y8 z (Nat.succ n) with
   |some r=>h.new (.cells h.ver r) fun o h=> .v (.sl o 0 (Nat.succ n) none esz) h
   |none=> .bad) else .bad
  |_,_=> .bad
 | .len k x=>match k with
  | .str=>match ev x with| .s l=>fN (len l) fun n=> .v (ι (.ofNat n)) h|_=> .bad
  | .arr n=> .v (ι (.ofNat n)) h
  | .slice=>match ev x with
   | .s _=> .bad
   |y=>match eI y with|some n=> .v (ι (.ofNat n)) h|none=> .bad
  | .map=>match ev x with
   | .mn=> .v (ι (.ofNat 0)) h
   | .m o=>match h.get o with|some (.map _ es _)=>fN (len es) fun n=> .v (ι (.ofNat n)) h|_=> .bad
   |_=> .bad
 | .cap x=>match ev x with
  | .sn=> .v (ι (.ofNat 0)) h
  | .sl _ _ _ (some c) _=> .v (ι (.ofNat c)) h
  |_=> .bad
 | .copy d s esz=>match eI (ev s) with
  |some b=>match ev d with
   | .sl o off a _ _=>match cR h esz (ev s),h.cells o with
    |some l,some cs=>fN (bif Nat.ble a b then a else b) fun n=>
     match zC l (n*esz) with
     |some c=>match bD c cs off with
      |some cs'=>bif cE c then h.put o (.cells (Nat.succ h.ver) cs') fun h=> .v (ι (.ofNat n)) h else .bad
      |none=> .bad
     |_=> .bad
    |_,_=> .bad
   | .sn=> .v (ι (.ofNat 0)) h
   |_=> .bad
  |_=> .bad
 | .min l=>match kK ev l with|some (.i k a::r)=>ig h (mJ gO k r a)|_=> .bad
 | .max l=>match kK ev l with|some (.i k a::r)=>ig h (mJ (fun x y=>gO y x) k r a)|_=> .bad
 | .del et m k=>bif !(nG et (ev k)) then .bad else match ev m with
  | .mn=> .v (.tu []) h
  | .m o=>match h.get o with
   |some (.map _ es cl)=>match iM et (ev k) es with
    |some (some e)=>match YF e.2.2 es with
     |some es=>h.put o (.map (Nat.succ h.ver) es cl) fun h=> .v (.tu []) h
     |none=> .bad
    |some none=> .v (.tu []) h
    |none=> .bad
   |_=> .bad
  |_=> .bad
 | .bad _=> .bad
end
structure cQ (R:Type) where
 fns:T aR
 glob:T (List AV)
 spec:Nat ->List AV ->AH ->(AV ->AH ->R) ->R ->R
 fail:R
 both:R ->R ->R
section
variable {R:Type} (C:cQ R)
def bp (τ:T AV) (a:MA):AV:=
 MA.rec (motive:=fun _=>AV) (fun n=>Option.rec (motive:=fun _=>AV) .un (fun v=>v) (τ.get n)) (fun v=>v)
  (fun n=>Option.rec (motive:=fun _=>AV) .un (fun l=> .dp l 0) (C.glob.get n)) a
def dZ (τ:T AV) (d:Option Nat) (v:AV) (k:T AV ->R):R:=
 Option.rec (motive:=fun _=>R) (k τ) (fun d=>τ.setK d v k) d
def iU (f:AV ->AH ->R) (l:List (AV×AH)):R:=
 List.rec (motive:=fun _=>R) C.fail (fun e t ih=>List.casesOn (motive:=fun _=>R) t (f e.1 e.2) fun _ _=>C.both (f e.1 e.2) ih) l
def dg (callK:Nat ->List AV ->AH ->(AV ->AH ->R) ->R) (yldK:Nat ->List AV ->AH ->(AV ->AH ->R) ->R) (g:MG) (τ:T AV) (h:AH) (k:AV ->AH ->R):R:=
 let act:R:=match step (bp C τ) h g.op with
  | .v x h=>k x h
  | .call f args h=>callK f args h k
  | .yld l args h=>yldK l args h k
  | .alts l=>iU C k l
  | .bad=>C.fail
 match g.guard with
 |none=>act
 |some (t,w)=>match τ.get t with
  |some (.b x)=>Bool.rec (motive:=fun _=>R) (k (.tu []) h) act (bif x then w else !w)
  |some (.tu [])=>k (.tu []) h
  |_=>C.fail
def bg (callK:Nat ->List AV ->AH ->(AV ->AH ->R) ->R) (yldK:Nat ->List AV ->AH ->(AV ->AH ->R) ->R)
 (k:T AV ->AH ->R) (l:List MG):T AV ->AH ->R:=
 List.rec (motive:=fun _=>T AV ->AH ->R) k (fun g _ ih τ h=>dg C callK yldK g τ h fun x h=>dZ τ g.dst x fun τ=>ih τ h) l
def bB (τ:T AV) (h:AH) (g:MG):Option AV:=
 let act:Option AV:=match step (bp C τ) h g.op with| .v x _=>some x|_=>none
 match g.guard with
 |none=>act
 |some (t,w)=>match τ.get t with
  |some (.b x)=>Bool.rec (motive:=fun _=>Option AV) (some (.tu [])) act (bif x then w else !w)
  |some (.tu [])=>some (.tu [])
  |_=>none
def cU:Nat ->AV ->AV ->Bool
 |_,.b x,.b y=>bif x then y else !y
 |_,.i k n,.i k' n'=>rP k k'&&fQ n n'
 |_,.s x,.s y=>rN x y
 |_,.p o a,.p o' a'=>Nat.beq o o'&&Nat.beq a a'
 |_,.pn,.pn=>true
 |_,.sl o a n none e,.sl o' a' n' none e'=>Nat.beq o o'&&(Nat.beq a a'&&(Nat.beq n n'&&Nat.beq e e'))
 |_,.sl o a n (some c) e,.sl o' a' n' (some c') e'=>Nat.beq o o'&&(Nat.beq a a'&&(Nat.beq n n'&&(Nat.beq e e'&&Nat.beq c c')))
 |_,.sn,.sn=>true
 |_,.m o,.m o'=>Nat.beq o o'
 |_,.mn,.mn=>true
 |_,.y o,.y o'=>Nat.beq o o'
 |_,.fnil,.fnil=>true
 |_,.ifn,.ifn=>true
 |n+1,.dp l a,.dp l' a'=>Nat.beq a a'&&avEqs (cU n) l l'
 |n+1,.ds l a k e,.ds l' a' k' e'=>Nat.beq a a'&&(Nat.beq k k'&&(Nat.beq e e'&&avEqs (cU n) l l'))
 |n+1,.f g x y,.f g' x' y'=>Nat.beq g g'&&(avEqs (cU n) x x'&&avEqs (cU n) y y')
 |n+1,.ifc t v,.ifc t' v'=>Nat.beq t t'&&cU n v v'
 |n+1,.ag l,.ag l'=>avEqs (cU n) l l'
 |n+1,.tu l,.tu l'=>avEqs (cU n) l l'
 |_,_,_=>false
 where avEqs (f:AV ->AV ->Bool) (l:List AV):List AV ->Bool:=
 List.rec (motive:=fun _=>List AV ->Bool) (fun v=>List.isEmpty v) (fun a _ ih v=>List.casesOn (motive:=fun _=>Bool) v false fun b r=>f a b&&ih r) l
def cj (τ:T AV) (h:AH) (mask:Nat) (ls:List (Nat×MG)) (k:R):R:=
 List.rec (motive:=fun _=>R) k (fun p _ ih=>bif Nat.testBit mask p.1 then ih else match bB C τ h p.2 with
  |some x=>match p.2.dst with
   |none=>ih
   |some d=>match τ.get d with
    |some y=>bif cU 64 x y then ih else C.fail
    |none=>C.fail
  |none=>C.fail) ls
def gB (i:Nat) (l:List (Nat×Nat×aU)):Option (Nat×aU):=List.rec (motive:=fun _=>Option (Nat×aU)) none (fun e _ ih=>bif Nat.beq e.1 i then some e.2 else ih) l
def aC (callK:Nat ->List AV ->AH ->(AV ->AH ->R) ->R) (yldK:Nat ->List AV ->AH ->(AV ->AH ->R) ->R) (base:Nat)
 (k:T AV ->AH ->R) (l:List DI):List (Nat×MG) ->List (Nat×Nat×aU) ->T AV ->AH ->R:=
 List.rec (motive:=fun _=>List (Nat×MG) ->List (Nat×Nat×aU) ->T AV ->AH ->R) (fun _ _=>k) (fun d _ ih ls pd τ h=>match d with
  | .light i g=>match bB C τ h g with
   |some x=>dZ τ g.dst x fun τ=>ih ((i,g)::ls) pd τ h
   |none=>C.fail
  | .resv i n g=>fN (base+n) fun id=>match step (bp C τ) ⟨id,h.ver,.e⟩ g.op with
   | .v x h'=>match h'.objs.get id with
    |some ob=>dZ τ g.dst x fun τ=>ih ls ((i,id,ob)::pd) τ h
    |none=>C.fail
   |_=>C.fail
  | .lay i=>match gB i pd with
   |some (id,ob)=>h.put id ob fun h=>ih ls pd τ h
   |none=>C.fail
  | .heavy _ g mask=>dg C callK yldK g τ h fun x h=>dZ τ g.dst x fun τ=>cj C τ h mask ls (ih ls pd τ h)) l
def Bp (l:List AV):Nat ->T AV ->(T AV ->R) ->R:=
 List.rec (motive:=fun _=>Nat ->T AV ->(T AV ->R) ->R) (fun _ τ k=>k τ) (fun a _ ih n τ k=>τ.setK n a fun τ=>fN n fun n=>ih (Nat.succ n) τ k) l
def aH9 (τ:T AV) (h:AH) (l:List (Nat×Option (Nat×Bool))):Option (List AV):=
 fC (fun e=>match e.2 with
  |none=>τ.get e.1
  |some (n,agg)=>match τ.get e.1 with
   |some (.p o off)=>match h.cells o with
    |some c=>match sub c off n with
     |some c=>iQ agg c
     |none=>none
    |none=>none
   |_=>none) l
def aP (τ:T AV) (h:AH) (l:List (Nat×Option (Nat×Bool))):Option AV:=
 match aH9 τ h l with|some [v]=>some v|some l=>some (.tu l)|none=>none
abbrev K (R:Type):=JA ->T AV ->AH ->R
def iV (run:ap ->K R ->T AV ->AH ->R) (f:Nat) (args:List AV) (h:AH) (k:AV ->AH ->R):R:=
 match C.fns.get f with
 |none=>C.fail
 |some fn=>Bp args 0 .e fun τ=>run fn.body (fun e τ h=>match e with
  | .exit _=>C.fail
  |_=>match aP τ h fn.res with|some v=>k v h|none=>C.fail) τ h
def gV (run:ap ->K R ->T AV ->AH ->R) (f:Nat) (args:List AV) (h:AH) (k:AV ->AH ->R):R:=
 C.spec f args h k (iV C run f args h k)
def eh (l:List Nat):List AV ->T AV ->(T AV ->R) ->R:=
 List.rec (motive:=fun _=>List AV ->T AV ->(T AV ->R) ->R) (fun a τ k=>List.casesOn (motive:=fun _=>R) a (k τ) fun _ _=>C.fail)
  (fun p _ ih a τ k=>List.casesOn (motive:=fun _=>R) a C.fail fun x t=>τ.setK p x fun τ=>ih t τ k) l
def gh (h:AH) (l:Nat) (k:AH ->R):R:=
 match h.get l with
 |some (.loop ps assign body env 0 p)=>h.put l (.loop ps assign body env 1 p) k
 |_=>C.fail
def eW (h:AH) (l st:Nat) (p:Option (Option Nat)) (k:AH ->R):R:=
 match h.get l with
 |some (.loop ps assign body env _ _)=>h.put l (.loop ps assign body env st p) k
 |_=>C.fail
def dU (run:ap ->K R ->T AV ->AH ->R) (l:Nat) (args:List AV) (h:AH) (k:AV ->AH ->R):R:=
 match h.get l with
 |some (.loop ps assign body env _ _)=>
  eh C ps args env fun τ=>run assign (fun e τ h=>match e with
   | .normal=>gh C h l fun h=>run body (fun e _ h=>match e with
    | .normal=>eW C h l 0 none fun h=>k (.b true) h
    | .exit i=>eW C h l 2 (some (some i)) fun h=>k (.b false) h
    | .ret=>eW C h l 2 (some none) fun h=>k (.b false) h) τ h
   |_=>C.fail) τ h
 |_=>C.fail
def run (n:Nat):ap ->K R ->T AV ->AH ->R:=
 Nat.rec (motive:=fun _=>ap ->K R ->T AV ->AH ->R) (fun _ _ _ _=>C.fail) (fun _ ih c k τ h=>
  match c with
  | .skip=>k .normal τ h
  | .ops l=>bg C (gV C ih) (dU C ih) (fun τ h=>k .normal τ h) l τ h
  | .draw n l=>fN (h.next+n) fun nx=>aC C (gV C ih) (dU C ih) h.next (fun τ h=>k .normal τ h) l [] [] τ ⟨nx,h.ver,h.objs⟩
  | .dfr l x fn=>bg C (gV C ih) (dU C ih) (fun τ h=>match bp C τ x with
   | .f g _ _=>bif Nat.beq g fn then k .normal τ h else C.fail
   |_=>C.fail) l τ h
  | .seq a b=>ih a (fun e τ h=>match e with| .normal=>ih b k τ h|e=>k e τ h) τ h
  | .cond c a b=>match bp C τ c with
   | .b x=>Bool.rec (motive:=fun _=>R) (ih b k τ h) (ih a k τ h) x
   |_=>C.fail
  | .block id c=>ih c (fun e τ h=>match e with| .exit i=>bif Nat.beq i id then k .normal τ h else k (.exit i) τ h|e=>k e τ h) τ h
  | .loop c=>ih c (fun e τ h=>match e with| .normal=>ih (.loop c) k τ h|e=>k e τ h) τ h
  | .rfun f ps assign body=>h.new (.loop ps assign body τ 0 none) fun l h=>
   let fin:AV ->AH ->R:=fun _ h=>match h.get l with
    |some (.loop _ _ _ _ 0 none)=>h.put l .gone fun h=>k .normal τ h
    |some (.loop _ _ _ _ 2 (some (some i)))=>h.put l .gone fun h=>k (.exit i) τ h
    |some (.loop _ _ _ _ 2 (some none))=>h.put l .gone fun h=>k .ret τ h
    |_=>C.fail
   match bp C τ f with
   | .f g fi ca=>match gK fi (.y l::ca) with
    |some l=>iV C ih g l h fin
    |none=>C.fail
   |_=>C.fail
  | .exit id=>k (.exit id) τ h
  | .ret=>k .ret τ h
  | .bad _=>C.fail) n
end
end
end AM
namespace AM
def QS {a b:Nat} (h:¬a=b):Nat.beq a b=false:=by
 cases e:Nat.beq a b with
 |false=>rfl
 |true=>exact absurd (wX e) h
def Vn {a b:Nat} (h:a=b):Nat.beq a b=true:=by subst h;exact Nat.beq_refl a
namespace T
variable {α R:Type}
noncomputable def put (t:T α) (n:Nat) (x:α):T α:=t.setK n x fun t=>t
def HW (k:Nat):(T.e:T α).get k=none:=rfl
def sW (l r:T α) (v:Option α) (k:Nat):
 (T.n l v r).get k=if k=0 then v else if k%2=1 then l.get (k/2) else r.get (k/2-1):=by
 show(Bool.rec (Bool.rec (r.get (k/2-1)) (l.get (k/2)) (Nat.beq (k%2) 1)) v (Nat.beq k 0):Option α)=_;by_cases h:k=0
 ·subst h;rfl
 ·have h1:Nat.beq k 0=false:=QS h;rw[h1,if_neg h];by_cases h2:k%2=1
  ·have:Nat.beq (k%2) 1=true:=Vn h2;rw[this,if_pos h2]
  ·have:Nat.beq (k%2) 1=false:=QS h2;rw[this,if_neg h2]
def Fw (l r:T α) (v:Option α) (k:Nat) (x:α) (c:T α ->R):
 (T.n l v r).setK k x c=if k=0 then c (.n l (some x) r) else if k%2=1 then l.setK (k/2) x fun l'=>c (.n l' v r) else r.setK (k/2-1) x fun r'=>c (.n l v r'):=by
 show(Bool.rec (Bool.rec (r.setK (k/2-1) x fun r'=>c (.n l v r')) (l.setK (k/2) x fun l'=>c (.n l' v r)) (Nat.beq (k%2) 1)) (c (.n l (some x) r)) (Nat.beq k 0):R)=_;by_cases h:k=0
 ·subst h;rfl
 ·have h1:Nat.beq k 0=false:=QS h;rw[h1,if_neg h];by_cases h2:k%2=1
  ·have:Nat.beq (k%2) 1=true:=Vn h2;rw[this,if_pos h2]
  ·have:Nat.beq (k%2) 1=false:=QS h2;rw[this,if_neg h2]
def setK_put (t:T α):∀{R:Type} (k:Nat) (x:α) (c:T α ->R),t.setK k x c=c (t.put k x):=by
 induction t with
 |e=>intro R k x c;rfl
 |n l v r ihl ihr=>
  intro R k x c;unfold put;rw[Fw,Fw];split
  ·rfl
  ·split
   ·rw[ihl,ihl]
   ·rw[ihr,ihr]
def Q2 (x:α):∀(f k m:Nat),k<f ->(T.one x f k).get m=if m=k then some x else none:=by
 intro f;induction f with
 |zero=>intro k m h;omega
 |succ f ih=>
  intro k m h;show(Bool.rec (Bool.rec (.n .e none (T.one x f (k/2-1))) (.n (T.one x f (k/2)) none .e) (Nat.beq (k%2) 1)) (.n .e (some x) .e) (Nat.beq k 0):T α).get m=_;by_cases h0:k=0
  ·subst h0;show(T.n .e (some x) .e:T α).get m=_;rw[sW];by_cases hm:m=0
   ·simp[hm]
   ·simp[hm,HW]
  ·have h1:Nat.beq k 0=false:=QS h0;rw[h1];by_cases h2:k%2=1
   ·have:Nat.beq (k%2) 1=true:=Vn h2;rw[this];show(T.n (T.one x f (k/2)) none .e:T α).get m=_;rw[sW,ih _ _ ω];by_cases hm:m=0
    ·simp[hm];omega
    ·by_cases hm2:m%2=1
     ·simp only[hm,hm2,if_false,if_true];by_cases e:m=k
      ·simp[e]
      ·rw[if_neg ω,if_neg e]
     ·simp only[hm,hm2,if_false,HW];rw[if_neg (by intro e;subst e;exact hm2 h2)]
   ·have:Nat.beq (k%2) 1=false:=QS h2;rw[this];show(T.n .e none (T.one x f (k/2-1)):T α).get m=_;rw[sW,ih _ _ ω];by_cases hm:m=0
    ·simp[hm];omega
    ·by_cases hm2:m%2=1
     ·simp only[hm,hm2,if_false,if_true,HW];rw[if_neg (by intro e;subst e;exact h2 hm2)]
     ·simp only[hm,hm2,if_false];by_cases e:m=k
      ·simp[e]
      ·rw[if_neg ω,if_neg e]
def get_put (t:T α):∀(k m:Nat) (x:α),(t.put k x).get m=if m=k then some x else t.get m:=by
 induction t with
 |e=>
  intro k m x;show(T.one x (Nat.succ k) k).get m=_;rw[Q2 x _ _ _ (qZ k),HW]
 |n l v r ihl ihr=>
  intro k m x;unfold put;rw[Fw];by_cases h0:k=0
  ·subst h0;rw[if_pos rfl,sW,sW];by_cases hm:m=0<;>simp[hm]
  ·rw[if_neg h0];by_cases h2:k%2=1
   ·rw[if_pos h2,setK_put,sW,sW,ihl];by_cases hm:m=0
    ·simp only[hm,if_true];rw[if_neg ω]
    ·by_cases hm2:m%2=1
     ·simp only[hm,hm2,if_false,if_true];by_cases e:m=k
      ·simp[e]
      ·rw[if_neg ω,if_neg e]
     ·simp only[hm,hm2,if_false];rw[if_neg (by intro e;subst e;exact hm2 h2)]
   ·rw[if_neg h2,setK_put,sW,sW,ihr];by_cases hm:m=0
    ·simp only[hm,if_true];rw[if_neg ω]
    ·by_cases hm2:m%2=1
     ·simp only[hm,hm2,if_false,if_true];rw[if_neg (by intro e;subst e;exact h2 hm2)]
     ·simp only[hm,hm2,if_false];by_cases e:m=k
      ·simp[e]
      ·rw[if_neg ω,if_neg e]
end T
end AM
namespace AM
open Go
structure CE where
 dom:Nat ->Prop
 ρ:Nat ->Nat×Nat
 sz:Nat ->Nat
 im:Nat ->Option (Array Value)
 gl:Nat ->Option (List AV)
def CE.addr (c:CE) (o off:Nat):Addr:=⟨(c.ρ o).1,(c.ρ o).2+off,none⟩
def zE (row:Array Value) (b:Nat) (vs:List Value):Prop:=∀i v,vs[i]? =some v ->row[b+i]? =some v
mutual
inductive VR (c:CE):AV ->Value ->Prop
 |b (x:Bool):VR c (.b x) (.bool x)
 |i (k:IntKind) (n:Int):VR c (.i k n) (.int k n)
 |s (l:List Nat) (bs:ByteArray) (h:bs.data.toList.map UInt8.toNat=l):VR c (.s l) (.string bs)
 |p (o off:Nat) (h:c.dom o):VR c (.p o off) (.pointer (some (c.addr o off)))
 |pn:VR c .pn (.pointer none)
 |dp (l:List AV) (off blk base:Nat) (row:Array Value) (vs:List Value) (him:c.im blk=some row) (hrow:zE row base vs) (hs:ed c l vs):
  VR c (.dp l off) (.pointer (some ⟨blk,base+off,none⟩))
 |sl (o off len esz:Nat) (cap:Option Nat) (a:Addr) (n:Nat) (h:c.dom o) (hcap:∀k,cap=some k ->n=k) (hl:len<=n)
  (ha:n≠0 ->a=c.addr o off) (hz:(c.ρ o).2+off+n*esz<=c.sz o):VR c (.sl o off len cap esz) (.slice (some a) len n)
 |sn:VR c .sn (.slice none 0 0)
 |ds (l:List AV) (off len esz blk base n:Nat) (a:Addr) (row:Array Value) (vs:List Value) (him:c.im blk=some row) (hrow:zE row base vs) (hs:ed c l vs)
  (hl:len<=n) (ha:len≠0 ->a=⟨blk,base+off,none⟩):VR c (.ds l off len esz) (.slice (some a) len n)
 |m (o:Nat) (h:c.dom o):VR c (.m o) (.map (some (c.ρ o).1))
 |mn:VR c .mn (.map none)
 |f (fn:Nat) (fi ca:List AV) (vi va:List Value) (hi:ed c fi vi) (ha:ed c ca va):VR c (.f fn fi ca) (.func (.func fn) vi.toArray va.toArray)
 |y (l:Nat) (h:c.dom l):VR c (.y l) (.func (.yield (c.ρ l).1) #[] #[])
 |fnil:VR c .fnil .nilFunc
 |ifc (t:TypeId) (v:AV) (v':Value) (h:VR c v v'):VR c (.ifc t v) (.iface t v')
 |ifn:VR c .ifn .nilIface
 |ag (l:List AV) (vs:List Value) (h:ed c l vs):VR c (.ag l) (.agg vs.toArray)
 |tu (l:List AV) (vs:List Value) (h:ed c l vs):VR c (.tu l) (.tuple vs.toArray)
 |un (v:Value):VR c .un v
inductive ed (c:CE):List AV ->List Value ->Prop
 |nil:ed c [] []
 |cons (a:AV) (l:List AV) (v:Value) (vs:List Value) (h:VR c a v) (hs:ed c l vs):ed c (a::l) (v::vs)
end
structure qj (c c':CE):Prop where
 dom:∀o,c.dom o ->c'.dom o
 ρ:∀o,c.dom o ->c'.ρ o=c.ρ o
 sz:∀o,c.dom o ->c'.sz o=c.sz o
 im:∀b row,c.im b=some row ->c'.im b=some row
 gl:c'.gl=c.gl
def qj.refl (c:CE):qj c c:=⟨fun _ h=>h,fun _ _=>rfl,fun _ _=>rfl,fun _ _ h=>h,rfl⟩
def qj.trans {a b c:CE} (h:qj a b) (k:qj b c):qj a c:=
 ⟨fun o ho=>k.dom o (h.dom o ho),fun o ho=>(k.ρ o (h.dom o ho)).trans (h.ρ o ho),fun o ho=>(k.sz o (h.dom o ho)).trans (h.sz o ho),
  fun b r hb=>k.im b r (h.im b r hb),k.gl.trans h.gl⟩
def qj.addr {c c':CE} (e:qj c c') {o:Nat} (h:c.dom o) (off:Nat):c'.addr o off=c.addr o off:=by
 unfold CE.addr;rw[e.ρ o h]
mutual
def VR.mono {c c':CE} (e:qj c c'):∀{v:AV} {v':Value},VR c v v' ->VR c' v v'
 |_,_,.b x=> .b x
 |_,_,.i k n=> .i k n
 |_,_,.s l bs h=> .s l bs h
 |_,_,.p o off h=>by rw[←e.addr h];exact .p o off (e.dom _ h)
 |_,_,.pn=> .pn
 |_,_,.dp l off blk base row vs him hrow hs=> .dp l off blk base row vs (e.im _ _ him) hrow (ed.mono e hs)
 |_,_,.sl o off len esz cap a n h hcap hl ha hz=> .sl o off len esz cap a n (e.dom _ h) hcap hl (fun hn=>by rw[e.addr h];exact ha hn) (by rw[e.ρ o h,e.sz o h];exact hz)
 |_,_,.sn=> .sn
 |_,_,.ds l off len esz blk base n a row vs him hrow hs hl ha=> .ds l off len esz blk base n a row vs (e.im _ _ him) hrow (ed.mono e hs) hl ha
 |_,_,.m o h=>by rw[←e.ρ o h];exact .m o (e.dom _ h)
 |_,_,.mn=> .mn
 |_,_,.f fn fi ca vi va hi ha=> .f fn fi ca vi va (ed.mono e hi) (ed.mono e ha)
 |_,_,.y l h=>by rw[←e.ρ l h];exact .y l (e.dom _ h)
 |_,_,.fnil=> .fnil
 |_,_,.ifc t v v' h=> .ifc t v v' (VR.mono e h)
 |_,_,.ifn=> .ifn
 |_,_,.ag l vs h=> .ag l vs (ed.mono e h)
 |_,_,.tu l vs h=> .tu l vs (ed.mono e h)
 |_,_,.un v=> .un v
def ed.mono {c c':CE} (e:qj c c'):∀{l:List AV} {vs:List Value},ed c l vs ->ed c' l vs
 |_,_,.nil=> .nil
 |_,_,.cons a l v vs h hs=> .cons a l v vs (VR.mono e h) (ed.mono e hs)
end
section force
variable {R:Type}
@[simp] def bR (n:Nat) (k:Nat ->R):fN n k=k n:=by cases n<;>rfl
@[simp] def rj (b:Bool) (k:Bool ->R):fB b k=k b:=by cases b<;>rfl
@[simp] def CV (n:Int) (k:Int ->R):fI n k=k n:=by cases n<;>simp[fI]
@[simp] def iW (v:AV) (k:AV ->R):fV v k=k v:=by cases v<;>rfl
end force
section lists
variable {α β:Type}
def Bq (l:List α):∀n,CT l n=l[n]? :=by
 induction l with
 |nil=>intro n;rfl
 |cons a t ih=>
  intro n;cases n with
  |zero=>rfl
  |succ n=>show CT t n=_;rw[ih];simp
def Q3 (l:List α):∀k,(List.rec (motive:=fun _=>Nat ->Nat) (fun n=>n) (fun _ _ ih n=>fN n fun n=>ih (Nat.succ n)) l k:Nat)=k+l.length:=by
 induction l with
 |nil=>intro k;rfl
 |cons a t ih=>
  intro k;show fN k (fun n=>(List.rec (motive:=fun _=>Nat ->Nat) (fun n=>n) (fun _ _ ih n=>fN n fun n=>ih (Nat.succ n)) t (Nat.succ n):Nat))=_;rw[bR,ih];simp;omega
def gP (l:List α):len l=l.length:=by unfold len;rw[Q3];omega
def dX (l m:List α):gK l m=some (l++m):=by
 induction l with
 |nil=>rfl
 |cons a t ih=>
  show(Option.rec (motive:=fun _=>Option (List α)) none (fun t=>some (a::t)) (gK t m))=_;rw[ih];rfl
def jA (f:α ->Option β):fC f []=some []:=rfl
def dF (f:α ->Option β) (a:α) (t:List α):
 fC f (a::t)=match f a with|none=>none|some b=>match fC f t with|none=>none|some r=>some (b::r):=by
 show(Option.rec (motive:=fun _=>Option (List β)) none (fun b=>Option.rec (motive:=fun _=>Option (List β)) none (fun t=>some (b::t)) (fC f t)) (f a))=_;cases f a with
 |none=>rfl
 |some b=>cases fC f t<;>rfl
def LC (l:List α):∀n,Lz l n=if n<=l.length then some (l.drop n) else none:=by
 induction l with
 |nil=>intro n;cases n<;>rfl
 |cons a t ih=>
  intro n;cases n with
  |zero=>rfl
  |succ n=>show Lz t n=_;rw[ih];simp
def LD (l:List α):∀n,zC l n=if n<=l.length then some (l.take n) else none:=by
 induction l with
 |nil=>intro n;cases n<;>rfl
 |cons a t ih=>
  intro n;cases n with
  |zero=>rfl
  |succ n=>
   show(Option.rec (motive:=fun _=>Option (List α)) none (fun t=>some (a::t)) (zC t n))=_;rw[ih];by_cases h:n<=t.length
   ·rw[if_pos h,if_pos (by simpa using h)];rfl
   ·rw[if_neg h,if_neg (by simpa using h)]
def jd (l:List α) (off n:Nat):sub l off n=if off<=l.length/\ off+n<=l.length then some ((l.drop off).take n) else none:=by
 unfold sub;rw[LC];by_cases h:off<=l.length
 ·rw[if_pos h];show zC (l.drop off) n=_;rw[LD];by_cases h2:off+n<=l.length
  ·rw[if_pos (by simp;omega),if_pos ⟨h,h2⟩]
  ·rw[if_neg (by simp;omega),if_neg (fun h=>h2 h.2)]
 ·rw[if_neg h,if_neg (fun k=>h k.1)]
def eL {l:List α} {off n:Nat} {c:List α} (h:sub l off n=some c):off+n<=l.length/\ c=(l.drop off).take n:=by
 rw[jd] at h;split at h
 ·rename_i hc;exact⟨hc.2,(Option.some.inj h).symm⟩
 ·cases h
def ox (c:List α):∀l,sT c l=if c.length<=l.length then some (c++l.drop c.length) else none:=by
 induction c with
 |nil=>intro l;show some l=_;simp
 |cons x c ih=>
  intro l;cases l with
  |nil=>rfl
  |cons a t=>
   show(Option.rec (motive:=fun _=>Option (List α)) none (fun r=>some (x::r)) (sT c t))=_;rw[ih];by_cases h:c.length<=t.length
   ·rw[if_pos h,if_pos (by simpa using h)];rfl
   ·rw[if_neg h,if_neg (by simpa using h)]
def lP (c l:List α):∀n,bD c l n=if n+c.length<=l.length then some (l.take n++c++l.drop (n+c.length)) else none:=by
 induction l with
 |nil=>
  intro n;cases n with
  |zero=>show sT c []=_;rw[ox];simp
  |succ n=>show none=_;rw[if_neg (by simp<;>omega)]
 |cons a t ih=>
  intro n;cases n with
  |zero=>show sT c (a::t)=_;rw[ox];simp
  |succ n=>
   show(Option.rec (motive:=fun _=>Option (List α)) none (fun r=>some (a::r)) (bD c t n))=_;rw[ih];by_cases h:n+c.length<=t.length
   ·rw[if_pos h,if_pos (by simp;omega)];have e:n+1+c.length=(n+c.length)+1:=by omega
    simp[e]
   ·rw[if_neg h,if_neg (by simp;omega)]
def jr {c l r:List α} {n:Nat} (h:bD c l n=some r):n+c.length<=l.length/\ r=l.take n++c++l.drop (n+c.length):=by
 rw[lP] at h;split at h
 ·rename_i hc;exact⟨hc,(Option.some.inj h).symm⟩
 ·cases h
def y9 {c l r:List α} {n:Nat} (h:bD c l n=some r):r.length=l.length:=by
 obtain⟨h1,rfl⟩:=jr h;simp;omega
def xi {c l r:List α} {n:Nat} (h:bD c l n=some r) (i:Nat):
 r[i]? =if n<=i/\ i<n+c.length then c[i-n]? else l[i]? :=by
 obtain⟨h1,rfl⟩:=jr h;by_cases h2:n<=i/\ i<n+c.length
 ·rw[if_pos h2,jO,vE (by simp<;>omega)];have:i-(l.take n).length=i-n:=by simp<;>omega
  rw[this,oZ ω]
 ·rw[if_neg h2];by_cases h3:i<n
  ·rw[jO,oZ (by simp<;>omega),iL,if_pos h3]
  ·rw[vE (by simp<;>omega),lj];congr 1;simp;omega
def sX (z:List α) (n:Nat):y8 z n=some (List.replicate n z).flatten:=by
 induction n with
 |zero=>rfl
 |succ n ih=>
  show(Option.rec (motive:=fun _=>Option (List α)) none (fun t=>gK z t) (y8 z n))=_;rw[ih];show gK z _=_;rw[dX,Jy,Jz]
end lists
def gF (x:List Nat):∀y,rN x y=decide (x=y):=by
 induction x with
 |nil=>intro y;cases y<;>rfl
 |cons a t ih=>
  intro y;cases y with
  |nil=>rfl
  |cons b s=>
   show(Bool.rec false (rN t s) (Nat.beq a b):Bool)=_;by_cases h:a=b
   ·rw[Vn h];show rN t s=_;rw[ih];simp[h]
   ·rw[QS h];simp[h]
def bF (a b:Int):fQ a b=decide (a=b):=by
 cases a<;>cases b<;>simp[fQ]
 ·rename_i a b;by_cases h:a=b
  ·rw[Vn h];simp[h]
  ·rw[QS h];simp;omega
 ·rename_i a b;by_cases h:a=b
  ·rw[Vn h];simp[h]
  ·rw[QS h];simp[h]
def gG (a b:Int):gO a b=decide (a<b):=by
 cases a<;>cases b<;>simp only[gO]
 ·rename_i a b;by_cases h:a<b
  ·rw[Fn (show Nat.succ a<=b from h)];simp;omega
  ·have:Nat.ble (Nat.succ a) b=false:=by
    cases e:Nat.ble (Nat.succ a) b with
    |false=>rfl
    |true=>exact absurd (Fo e) ω
   rw[this];simp;omega
 ·rename_i a b;exact(decide_eq_false (by simp only[iO];omega)).symm
 ·rename_i a b;exact(decide_eq_true (by simp only[iO];omega)).symm
 ·rename_i a b;by_cases h:b<a
  ·rw[Fn (show Nat.succ b<=a from h)];have:Int.negSucc a<Int.negSucc b:=by omega
   simp[this]
  ·have e:Nat.ble (Nat.succ b) a=false:=by
    cases e:Nat.ble (Nat.succ b) a with
    |false=>rfl
    |true=>exact absurd (Fo e) ω
   have:¬Int.negSucc a<Int.negSucc b:=by omega
   rw[e];simp[this]
def aQ (a b:Nat):Nat.ble a b=decide (a<=b):=by
 by_cases h:a<=b
 ·rw[Fn h];simp[h]
 ·have e:Nat.ble a b=false:=by
   cases e:Nat.ble a b with
   |false=>rfl
   |true=>exact absurd (Fo e) h
  rw[e];simp[h]
def az (a b:Nat):Nat.beq a b=decide (a=b):=by
 by_cases h:a=b
 ·rw[Vn h];simp[h]
 ·rw[QS h];simp[h]
def AH.new_eq {R:Type} (h:AH) (o:aU) (c:Nat ->AH ->R):h.new o c=c h.next ⟨Nat.succ h.next,h.ver,h.objs.put h.next o⟩:=by
 obtain⟨next,ver,objs⟩:=h;simp only[AH.new,T.setK_put,bR]
def AH.put_eq {R:Type} (h:AH) (n:Nat) (o:aU) (c:AH ->R):h.put n o c=c ⟨h.next,Nat.succ h.ver,h.objs.put n o⟩:=by
 obtain⟨next,ver,objs⟩:=h;simp only[AH.put,T.setK_put,bR]
def live:aU ->Bool
 | .gone=>false
 |_=>true
def TR (c:CE) (τ:T AV) (tmps:Array Value):Prop:=∀t v,τ.get t=some v ->∃v',tmps[t]? =some v'/\ VR c v v'
def TR.mono {c c':CE} (e:qj c c') {τ:T AV} {tmps:Array Value} (h:TR c τ tmps):TR c' τ tmps:=
 fun t v hv=>let ⟨v',h1,h2⟩:=h t v hv;⟨v',h1,h2.mono e⟩
def ot (c:CE):List (AV×AV×Nat) ->List MapEntry ->Prop
 |[],[]=>True
 |(k,v,b)::r,e::r'=>VR c k e.key/\ VR c v e.val/\ e.born=b/\ ot c r r'
 |_,_=>False
def ot.mono {c c':CE} (e:qj c c'):∀{l:List (AV×AV×Nat)} {l':List MapEntry},ot c l l' ->ot c' l l'
 |[],[],_=>trivial
 |(_,_,_)::_,_::_,h=>⟨h.1.mono e,h.2.1.mono e,h.2.2.1,ot.mono e h.2.2.2⟩
 |[],_::_,h=>h.elim
 |_::_,[],h=>h.elim
def LE:Option (Option Nat) ->Option Code ->Prop
 |none,none=>True
 |some none,some .ret=>True
 |some (some i),some (.exit j)=>i=j
 |_,_=>False
def StR:Nat ->LoopState ->Prop
 |0,.ready=>True
 |1,.busy=>True
 |2,.done=>True
 |_,_=>False
section
variable (CR:Nat ->Code ->ap ->Prop)
def Vo (c:CE) (w:World) (o:Nat) (l:List AV) (T:Option Nat) (wh:Bool):Prop:=
 ∃row t lo hi vs,w.heap[(c.ρ o).1]? =some (.cells row t (lo,hi))/\ row.size=c.sz o/\ (∀j,j<row.size ->¬(lo<=j/\ j<hi))/\ ed c l vs/\ zE row (c.ρ o).2 vs/\ (c.ρ o).2+vs.length<=row.size/\
  (∀k,T=some k ->t=k/\ (c.ρ o).2=0)/\ (wh=true ->row.size=vs.length)
def iX (c:CE) (w:World) (o:Nat):aU ->Prop
 | .cells _ l=>∃row t lo hi vs,w.heap[(c.ρ o).1]? =some (.cells row t (lo,hi))/\ row.size=c.sz o/\ (∀j,j<row.size ->¬(lo<=j/\ j<hi))/\ ed c l vs/\ zE row (c.ρ o).2 vs/\ (c.ρ o).2+vs.length<=row.size
 | .tc T wh l=>Vo c w o l (some T) wh
 | .map _ es cl=>∃es',w.heap[(c.ρ o).1]? =some (.map es' cl)/\ ot c es es'.toList/\ es.Pairwise (fun x y=>x.2.2<y.2.2)/\∀e∈es,e.2.2<cl
 | .sit l pos=>(c.ρ o).2=0/\∃bs:ByteArray,w.heap[(c.ρ o).1]? =some (.stringIter bs pos)/\ bs.data.toList.map UInt8.toNat=l
 | .mit m since seen stepped=>(∀k,m=some k ->c.dom k)/\ (c.ρ o).2=0/\ w.heap[(c.ρ o).1]? =some (.mapIter (m.map fun k=>(c.ρ k).1) since seen.toArray stepped)
 | .loop ps assign body env st pend=>∃(r:Loop) (N:Nat),w.heap[(c.ρ o).1]? =some (.loop r)/\ r.params.toList=ps/\ CR N r.assign assign/\ CR N r.body body/\ N<=r.tmps.size/\ (∀p∈ps,p<N)/\
  TR c env r.tmps/\ StR st r.state/\ LE pend r.pending
 | .gone=>True
variable {CR}
def iX.mono {c c':CE} (e:qj c c') {w w':World} {o:Nat} (ho:c.dom o) (hw:w'.heap[(c.ρ o).1]? =w.heap[(c.ρ o).1]?) {obj:aU} (h:iX CR c w o obj):iX CR c' w' o obj:=by
 cases obj with
 |cells v l=>
  obtain⟨row,t,lo,hi,vs,h1,h2,h3,h4,h5,h6⟩:=h;exact⟨row,t,lo,hi,vs,by rw[e.ρ o ho,hw];exact h1,by rw[e.sz o ho];exact h2,h3,h4.mono e,by rw[e.ρ o ho];exact h5,by rw[e.ρ o ho];exact h6⟩
 |tc T wh l=>
  obtain⟨row,t,lo,hi,vs,h1,h2,h3,h4,h5,h6,h7,h8⟩:=h;exact⟨row,t,lo,hi,vs,by rw[e.ρ o ho,hw];exact h1,by rw[e.sz o ho];exact h2,h3,h4.mono e,by rw[e.ρ o ho];exact h5,by rw[e.ρ o ho];exact h6,by rw[e.ρ o ho];exact h7,h8⟩
 |map v es cl=>
  obtain⟨es',h1,h2,h3,h4⟩:=h;exact⟨es',by rw[e.ρ o ho,hw];exact h1,h2.mono e,h3,h4⟩
 |sit l pos=>
  obtain⟨h0,bs,h1,h2⟩:=h;exact⟨by rw[e.ρ o ho];exact h0,bs,by rw[e.ρ o ho,hw];exact h1,h2⟩
 |mit m since seen stepped=>
  obtain⟨h1,h2,h3⟩:=h;refine⟨fun k hk=>e.dom k (h1 k hk),by rw[e.ρ o ho];exact h2,?_⟩;rw[e.ρ o ho,hw,h3];cases m with
  |none=>rfl
  |some k=>simp[e.ρ k (h1 k rfl)]
 |loop ps assign body env st pend=>
  obtain⟨r,N,h1,h2,h3,h4,h5,h6,h7,h8,h9⟩:=h;exact⟨r,N,by rw[e.ρ o ho,hw];exact h1,h2,h3,h4,h5,h6,h7.mono e,h8,h9⟩
 |gone=>trivial
def CW {h:AH} {o:Nat} {l:List AV} (hl:h.rows o=some l):∃ob,h.objs.get o=some ob/\ live ob=true/\∀(c:CE) (w:World),iX CR c w o ob ->iX CR c w o (.cells 0 l):=by
 unfold AH.rows AH.get at hl;split at hl
 ·rename_i ver l' e;cases hl;exact⟨_,e,rfl,fun _ _ h=>h⟩
 ·rename_i T wh l' e;cases hl;refine⟨_,e,rfl,fun _ _ h=> ?_⟩;obtain⟨row,t,lo,hi,vs,h1,h2,h3,h4,h5,h6,_⟩:=h;exact⟨row,t,lo,hi,vs,h1,h2,h3,h4,h5,h6⟩
 ·cases hl
def nf {h:AH} {o:Nat} {l:List AV} (hl:h.cells o=some l):h.rows o=some l:=by
 unfold AH.cells AH.get at hl;unfold AH.rows AH.get;split at hl
 ·rename_i ver l' e;rw[e];exact hl
 ·cases hl
def nI {h:AH} {o:Nat} {l:List AV} (hl:h.cells o=some l):∃ob,h.objs.get o=some ob/\ live ob=true/\∀(c:CE) (w:World),iX CR c w o ob ->iX CR c w o (.cells 0 l):=CW (nf hl)
def iX.lt {c:CE} {w:World} {o:Nat} {obj:aU} (h:iX CR c w o obj) (hl:live obj=true):(c.ρ o).1<w.heap.size:=by
 have key:∀ob,w.heap[(c.ρ o).1]? =some ob ->(c.ρ o).1<w.heap.size:=fun ob hb=>(jo.1 hb).1
 cases obj with
 |cells v l=>obtain⟨row,t,lo,hi,vs,h1,_⟩:=h;exact key _ h1
 |tc T wh l=>obtain⟨row,t,lo,hi,vs,h1,_⟩:=h;exact key _ h1
 |map v es cl=>obtain⟨es',h1,_⟩:=h;exact key _ h1
 |sit l pos=>obtain⟨_,bs,h1,_⟩:=h;exact key _ h1
 |mit m since seen stepped=>exact key _ h.2.2
 |loop ps assign body env st pend=>obtain⟨r,N,h1,_⟩:=h;exact key _ h1
 |gone=>cases hl
variable (CR)
structure jB (c:CE) (h:AH) (o:Nat) (obj:aU):Prop where
 get:h.objs.get o=some obj
 live:live obj=true
 dom:c.dom o
structure RS (c:CE) (h:AH) (w:World):Prop where
 nx:∀o,c.dom o ->o<h.next
 lt:∀o obj,h.objs.get o=some obj ->o<h.next
 obj:∀o obj,jB c h o obj ->iX CR c w o obj
 inj:∀o o' obj obj',jB c h o obj ->jB c h o' obj' ->(c.ρ o).1=(c.ρ o').1 ->o=o'
 im:∀b row,c.im b=some row ->∃t fr,w.heap[b]? =some (.cells row t fr)
 dj:∀o obj,jB c h o obj ->c.im (c.ρ o).1=none
 gl:∀g l,c.gl g=some l ->∃row vs,c.im g=some row/\ zE row 0 vs/\ ed c l vs
def LF (h:AH) (o:Nat):Prop:=∀ob,h.objs.get o=some ob ->live ob=false
structure nJ (c:CE) (h:AH) (w:World) (c':CE) (h':AH) (w':World):Prop where
 size:w.heap.size<=w'.heap.size
 same:∀b,b<w.heap.size ->(∀o obj,jB c h o obj ->(c.ρ o).1≠b) ->w'.heap[b]? =w.heap[b]?
 new:∀o obj,jB c' h' o obj ->w.heap.size<=(c'.ρ o).1∨∃o₀ obj₀,jB c h o₀ obj₀/\ (c.ρ o₀).1=(c'.ρ o).1
 dom:∀o,c'.dom o ->c.dom o∨h.next<=o
 nxt:h.next<=h'.next
 im:∀b row,c'.im b=some row ->c.im b=some row∨w.heap.size<=b∨∃o obj,jB c h o obj/\ (c.ρ o).1=b
 dead:∀o,o<h.next ->LF h o ->LF h' o
 io:w'.os=w.os/\ w'.output=w.output
structure gC (c:CE) (h:AH) (w:World) (c':CE) (h':AH) (w':World):Prop where
 ext:qj c c'
 rs:RS CR c' h' w'
 keep:nJ c h w c' h' w'
variable {CR}
def nJ.refl (c:CE) (h:AH) (w:World):nJ c h w c h w:=
 ⟨bK _,fun _ _ _=>rfl,fun o obj ho=> .inr ⟨o,obj,ho,rfl⟩,fun _ h=> .inl h,bK _,fun _ _ h=> .inl h,fun _ _ h=>h,⟨rfl,rfl⟩⟩
def nJ.trans {c c' c'':CE} {h h' h'':AH} {w w' w'':World} (a:nJ c h w c' h' w') (b:nJ c' h' w' c'' h'' w''):nJ c h w c'' h'' w'':=by
 refine⟨fq a.size b.size,fun k hk hn=> ?_,fun o obj ho=> ?_,fun o ho=> ?_,fq a.nxt b.nxt,fun k row hk=> ?_,fun o ho hd=>b.dead o (il ho a.nxt) (a.dead o ho hd),⟨b.io.1.trans a.io.1,b.io.2.trans a.io.2⟩⟩
 ·rw[b.same k (il hk a.size) ?_,a.same k hk hn];intro o obj ho e;rcases a.new o obj ho with h1|⟨o₀,obj₀,h1,h3⟩
  ·omega
  ·exact hn o₀ obj₀ h1 (h3.trans e)
 ·rcases b.new o obj ho with h1|⟨o₀,obj₀,h1,h3⟩
  ·exact .inl (fq a.size h1)
  ·rcases a.new o₀ obj₀ h1 with h4|⟨o₁,obj₁,h4,h6⟩
   ·exact .inl (h3▸h4)
   ·exact .inr ⟨o₁,obj₁,h4,h6.trans h3⟩
 ·rcases b.dom o ho with h1|h1
  ·exact a.dom o h1
  ·exact .inr (fq a.nxt h1)
 ·rcases b.im k row hk with h1|h1|⟨o,obj,h1,h2⟩
  ·exact a.im k row h1
  ·exact .inr (.inl (fq a.size h1))
  ·rcases a.new o obj h1 with h3|⟨o₀,obj₀,h3,h4⟩
   ·exact .inr (.inl (h2▸h3))
   ·exact .inr (.inr ⟨o₀,obj₀,h3,h4.trans h2⟩)
def gC.refl {c:CE} {h:AH} {w:World} (r:RS CR c h w):gC CR c h w c h w:=⟨qj.refl c,r,nJ.refl c h w⟩
def gC.trans {c c' c'':CE} {h h' h'':AH} {w w' w'':World} (a:gC CR c h w c' h' w') (b:gC CR c' h' w' c'' h'' w''):gC CR c h w c'' h'' w'':=
 ⟨a.ext.trans b.ext,b.rs,a.keep.trans b.keep⟩
def RS.heap {c:CE} {h:AH} {w w':World} (r:RS CR c h w) (hw:w'.heap=w.heap):RS CR c h w':=
 ⟨r.nx,r.lt,fun o obj ho=>(r.obj o obj ho).mono (qj.refl c) ho.dom (by rw[hw]),r.inj,fun b row hb=>by rw[hw];exact r.im b row hb,r.dj,r.gl⟩
def gC.heap {c:CE} {h:AH} {w w':World} (r:RS CR c h w) (hw:w'.heap=w.heap) (hq:w'.os=w.os/\ w'.output=w.output:=by exact⟨rfl,rfl⟩):gC CR c h w c h w':=
 ⟨qj.refl c,r.heap hw,⟨by rw[hw];exact bK _,fun b _ _=>by rw[hw],fun o obj ho=> .inr ⟨o,obj,ho,rfl⟩,fun _ h=> .inl h,bK _,fun _ _ h=> .inl h,fun _ _ h=>h,hq⟩⟩
def RS.push {c:CE} {h:AH} {w w':World} (r:RS CR c h w) (hw:∀b,b<w.heap.size ->w'.heap[b]? =w.heap[b]?):RS CR c h w':=
 ⟨r.nx,r.lt,fun o obj ho=>by
  by_cases hl:live obj=true
  ·exact(r.obj o obj ho).mono (qj.refl c) ho.dom (hw _ ((r.obj o obj ho).lt hl))
  ·exact absurd ho.live hl,
  r.inj,fun b row hb=>by
   obtain⟨t,fr,h1⟩:=r.im b row hb;exact⟨t,fr,by rw[hw b (jo.1 h1).1];exact h1⟩,r.dj,r.gl⟩
def CE.add (c:CE) (id blk base n:Nat):CE:=
 { c with dom:=fun o=>c.dom o∨o=id,ρ:=fun o=>if o=id then (blk,base) else c.ρ o,sz:=fun o=>if o=id then n else c.sz o }
def CE.add_ext (c:CE) {id:Nat} (hi:¬c.dom id) (blk base n:Nat):qj c (c.add id blk base n):=
 ⟨fun _ h=> .inl h,fun o ho=>by simp[CE.add,show o≠id from fun e=>hi (e▸ho)],fun o ho=>by simp[CE.add,show o≠id from fun e=>hi (e▸ho)],fun _ _ h=>h,rfl⟩
@[simp] def CE.add_ρ (c:CE) (id blk base n:Nat):(c.add id blk base n).ρ id=(blk,base):=by simp[CE.add]
@[simp] def CE.add_sz (c:CE) (id blk base n:Nat):(c.add id blk base n).sz id=n:=by simp[CE.add]
@[simp] def CE.add_dom (c:CE) (id blk base n:Nat):(c.add id blk base n).dom id:= .inr rfl
@[simp] def CE.add_im (c:CE) (id blk base n:Nat):(c.add id blk base n).im=c.im:=rfl
def RS.im_lt {c:CE} {h:AH} {w:World} (r:RS CR c h w) {b:Nat} {row:Array Value} (hb:c.im b=some row):b<w.heap.size:=by
 obtain⟨t,fr,h1⟩:=r.im b row hb;exact(jo.1 h1).1
def RS.fresh {c:CE} {h:AH} {w:World} (r:RS CR c h w):¬c.dom h.next:=fun k=>Nat.lt_irrefl _ (r.nx _ k)
def gC.come {c:CE} {h:AH} {w w':World} (r:RS CR c h w) {id:Nat} (hid:¬c.dom id) (hlt:id<h.next) {obj:aU} (hget:h.objs.get id=some obj)
 (hold:∀b,b<w.heap.size ->w'.heap[b]? =w.heap[b]?) (blk n:Nat) (him:c.im blk=none) (hfr:∀o ob,jB c h o ob ->(c.ρ o).1≠blk)
 (hob:iX CR (c.add id blk 0 n) w' id obj):qj c (c.add id blk 0 n)/\ RS CR (c.add id blk 0 n) h w':=by
 have hx:=CE.add_ext c hid blk 0 n;have hh:∀o ob',jB (c.add id blk 0 n) h o ob' ->(o=id/\ ob'=obj)∨(o≠id/\ jB c h o ob'):=by
  intro o ob' ho;by_cases e:o=id
  ·subst e;exact .inl ⟨rfl,Option.some.inj (ho.get.symm.trans hget)⟩
  ·exact .inr ⟨e,ho.get,ho.live,ho.dom.resolve_right e⟩
 have hρ:∀o,o≠id ->(c.add id blk 0 n).ρ o=c.ρ o:=fun o e=>by simp[CE.add,e]
 refine⟨hx,⟨?_,r.lt,?_,?_,?_,?_,?_⟩⟩
 ·intro o ho;rcases ho with ho|rfl
  ·exact r.nx o ho
  ·exact hlt
 ·intro o ob' ho;rcases hh o ob' ho with ⟨rfl,rfl⟩|⟨e,e'⟩
  ·exact hob
  ·exact(r.obj o ob' e').mono hx e'.dom (hold _ ((r.obj o ob' e').lt e'.live))
 ·intro o o' ob₁ ob₂ ho ho' he;rcases hh o ob₁ ho with ⟨rfl,rfl⟩|⟨e,e'⟩<;>rcases hh o' ob₂ ho' with ⟨rfl,rfl⟩|⟨f,f'⟩
  ·rfl
  ·rw[CE.add_ρ,hρ o' f] at he;exact absurd he.symm (hfr o' ob₂ f')
  ·rw[CE.add_ρ,hρ o e] at he;exact absurd he (hfr o ob₁ e')
  ·rw[hρ o e,hρ o' f] at he;exact r.inj o o' ob₁ ob₂ e' f' he
 ·intro b row hb;obtain⟨t,fr,h1⟩:=r.im b row hb;exact⟨t,fr,by rw[hold b (r.im_lt hb)];exact h1⟩
 ·intro o ob' ho;rcases hh o ob' ho with ⟨rfl,rfl⟩|⟨e,e'⟩
  ·rw[CE.add_ρ];exact him
  ·rw[hρ o e];exact r.dj o ob' e'
 ·intro g l hg;obtain⟨row,vs,h1,h2,h3⟩:=r.gl g l hg;exact⟨row,vs,h1,h2,h3.mono hx⟩
def RS.lay {c:CE} {h:AH} {w:World} (r:RS CR c h w) (obj:aU):RS CR c ⟨Nat.succ h.next,h.ver,h.objs.put h.next obj⟩ w:=by
 have hh:∀o ob',jB c ⟨Nat.succ h.next,h.ver,h.objs.put h.next obj⟩ o ob' ->jB c h o ob':=by
  intro o ob' ho;have hn:o≠h.next:=fun e=>r.fresh (e▸ho.dom)
  have:=ho.get;rw[T.get_put,if_neg hn] at this;exact⟨this,ho.live,ho.dom⟩
 refine⟨fun o ho=>xb (r.nx o ho),?_,fun o ob' ho=>r.obj o ob' (hh o ob' ho),fun o o' a b ho ho'=>r.inj o o' a b (hh o a ho) (hh o' b ho'),r.im,fun o ob' ho=>r.dj o ob' (hh o ob' ho),r.gl⟩;intro o ob' ho;rw[T.get_put] at ho;by_cases e:o=h.next
 ·subst e;exact qZ _
 ·rw[if_neg e] at ho;exact xb (r.lt o ob' ho)
def gC.alloc {c:CE} {h:AH} {w w':World} (r:RS CR c h w) {obj:aU} {ob:Obj} (hw:w'.heap=w.heap.push ob) (n:Nat)
 (hob:iX CR (c.add h.next w.heap.size 0 n) w' h.next obj) (hq:w'.os=w.os/\ w'.output=w.output:=by exact⟨rfl,rfl⟩):
 gC CR c h w (c.add h.next w.heap.size 0 n) ⟨Nat.succ h.next,h.ver,h.objs.put h.next obj⟩ w':=by
 have hold:∀b,b<w.heap.size ->w'.heap[b]? =w.heap[b]? :=fun b hb=>by rw[hw,Bf hb];exact(mL hb).symm
 have r1:=r.lay obj;have h1:=gC.come r1 r.fresh (qZ _) (obj:=obj) (by rw[T.get_put,if_pos rfl]) hold w.heap.size n
  (by cases h2:c.im w.heap.size with|none=>rfl|some row=>have:=r.im_lt h2;simp at this)
  (fun o ob' ho=>by
   have hn:o≠h.next:=fun e=>r.fresh (e▸ho.dom)
   have hg:=ho.get;rw[T.get_put,if_neg hn] at hg;exact Nat.ne_of_lt ((r.obj o ob' ⟨hg,ho.live,ho.dom⟩).lt ho.live)) hob
 refine⟨h1.1,h1.2,⟨by rw[hw];simp,fun b hb _=>hold b hb,?_,fun o ho=>ho.elim .inl fun e=> .inr (Nat.le_of_eq e.symm),jP _,fun _ _ h=> .inl h,fun o ho hd ob hg=> ?_,hq⟩⟩;intro o ob' ho;by_cases e:o=h.next
 ·subst e;left;rw[CE.add_ρ];exact bK _
 ·right;have hg:=ho.get;rw[T.get_put,if_neg e] at hg;exact⟨o,ob',⟨hg,ho.live,ho.dom.resolve_right e⟩,by simp[CE.add,e]⟩
 rw[T.get_put,if_neg (show o≠h.next by omega)] at hg;exact hd ob hg
def gC.write {c:CE} {h:AH} {w w':World} (r:RS CR c h w) {o:Nat} {obj obj':aU} (ho:jB c h o obj)
 (hsz:w'.heap.size=w.heap.size) (hw:∀b,b≠(c.ρ o).1 ->w'.heap[b]? =w.heap[b]?) (hob:iX CR c w' o obj') (ver:Nat) (hq:w'.os=w.os/\ w'.output=w.output:=by exact⟨rfl,rfl⟩):
 gC CR c h w c ⟨h.next,ver,h.objs.put o obj'⟩ w':=by
 have hh:∀o' ob',jB c ⟨h.next,ver,h.objs.put o obj'⟩ o' ob' ->(o'=o/\ ob'=obj')∨(o'≠o/\ jB c h o' ob'):=by
  intro o' ob' ho';have hg:=ho'.get;rw[T.get_put] at hg;by_cases e:o'=o
  ·rw[if_pos e] at hg;exact .inl ⟨e,(Option.some.inj hg).symm⟩
  ·rw[if_neg e] at hg;exact .inr ⟨e,hg,ho'.live,ho'.dom⟩
 refine⟨qj.refl c,⟨r.nx,?_,?_,?_,?_,?_,r.gl⟩,⟨by rw[hsz];exact bK _,fun b _ hn=>hw b fun e=>hn o obj ho e.symm,?_,fun _ h=> .inl h,bK _,fun _ _ h=> .inl h,fun o' _ hd ob hg=> ?_,hq⟩⟩
 ·intro o' ob' ho';rw[T.get_put] at ho';by_cases e:o'=o
  ·subst e;exact r.lt _ obj ho.get
  ·rw[if_neg e] at ho';exact r.lt _ _ ho'
 ·intro o' ob' ho';rcases hh o' ob' ho' with ⟨rfl,rfl⟩|⟨e,e'⟩
  ·exact hob
  ·exact(r.obj o' ob' e').mono (qj.refl c) e'.dom (hw _ fun k=>e (r.inj o' o ob' obj e' ho k))
 ·intro o₁ o₂ ob₁ ob₂ h1 h2 he;rcases hh o₁ ob₁ h1 with ⟨e,_⟩|⟨e,e'⟩<;>rcases hh o₂ ob₂ h2 with ⟨f,_⟩|⟨f,f'⟩
  ·rw[e,f]
  ·rw[e] at he;exact absurd (r.inj o₂ o ob₂ obj f' ho he.symm) f
  ·rw[f] at he;exact absurd (r.inj o₁ o ob₁ obj e' ho he) e
  ·exact r.inj o₁ o₂ ob₁ ob₂ e' f' he
 ·intro b row hb;obtain⟨t,fr,h1⟩:=r.im b row hb;refine⟨t,fr,?_⟩;rw[hw b ?_];exact h1;intro e;have:=r.dj o obj ho;rw[←e,hb] at this;cases this
 ·intro o' ob' ho';rcases hh o' ob' ho' with ⟨e,_⟩|⟨_,e⟩
  ·subst e;exact r.dj _ obj ho
  ·exact r.dj _ _ e
 ·intro o' ob' ho';rcases hh o' ob' ho' with ⟨e,_⟩|⟨_,e⟩
  ·subst e;exact .inr ⟨_,obj,ho,rfl⟩
  ·exact .inr ⟨o',ob',e,rfl⟩
 ·have hg':(h.objs.put o obj').get o'=some ob:=hg;rw[T.get_put] at hg';by_cases e:o'=o
  ·subst e;have:=hd obj ho.get;rw[ho.live] at this;cases this
  ·rw[if_neg e] at hg';exact hd ob hg'
end
section
variable {CR:Nat ->Code ->ap ->Prop}
def gC.drop {c:CE} {h:AH} {w:World} (r:RS CR c h w) (o ver:Nat) (hon:o<h.next):gC CR c h w c ⟨h.next,ver,h.objs.put o .gone⟩ w:=by
 have hh:∀o' ob',jB c ⟨h.next,ver,h.objs.put o .gone⟩ o' ob' ->o'≠o/\ jB c h o' ob':=by
  intro o' ob' ho';have hg:=ho'.get;rw[T.get_put] at hg;by_cases e:o'=o
  ·rw[if_pos e] at hg;have:=ho'.live;rw[←Option.some.inj hg] at this;cases this
  ·rw[if_neg e] at hg;exact⟨e,hg,ho'.live,ho'.dom⟩
 refine⟨qj.refl c,⟨r.nx,?_,fun o' ob' ho'=>r.obj _ _ (hh o' ob' ho').2,fun o₁ o₂ a b h1 h2=>r.inj _ _ _ _ (hh o₁ a h1).2 (hh o₂ b h2).2,r.im,fun o' ob' ho'=>r.dj _ _ (hh o' ob' ho').2,r.gl⟩,
  ⟨bK _,fun _ _ _=>rfl,fun o' ob' ho'=> .inr ⟨o',ob',(hh o' ob' ho').2,rfl⟩,fun _ h=> .inl h,bK _,fun _ _ h=> .inl h,fun o' _ hd ob hg=> ?_,⟨rfl,rfl⟩⟩⟩
 intro o' ob' ho';rw[T.get_put] at ho';by_cases e:o'=o
 ·subst e;exact hon
 ·rw[if_neg e] at ho';exact r.lt _ _ ho'
 replace hg:(h.objs.put o .gone).get o'=some ob:=hg;rw[T.get_put] at hg;by_cases e:o'=o
 ·rw[if_pos e] at hg;rw[←Option.some.inj hg];rfl
 ·rw[if_neg e] at hg;exact hd ob hg
def gC.move {c:CE} {h:AH} {w w':World} (r:RS CR c h w) {o:Nat} {obj obj':aU} (ho:jB c h o obj)
 (hsz:w'.heap.size=w.heap.size) (hw:∀b,b≠(c.ρ o).1 ->w'.heap[b]? =w.heap[b]?) (base n ver:Nat)
 (hob:iX CR (c.add h.next (c.ρ o).1 base n) w' h.next obj') (hq:w'.os=w.os/\ w'.output=w.output:=by exact⟨rfl,rfl⟩):
 gC CR c h w (c.add h.next (c.ρ o).1 base n) ⟨Nat.succ h.next,ver,(h.objs.put o .gone).put h.next obj'⟩ w':=by
 have hx:=CE.add_ext c r.fresh (c.ρ o).1 base n;have hon:o<h.next:=r.lt o obj ho.get;have hh:∀o' ob',jB (c.add h.next (c.ρ o).1 base n) ⟨Nat.succ h.next,ver,(h.objs.put o .gone).put h.next obj'⟩ o' ob' ->(o'=h.next/\ ob'=obj')∨(o'≠o/\ o'≠h.next/\ jB c h o' ob'):=by
  intro o' ob' ho';have hg:=ho'.get;rw[T.get_put,T.get_put] at hg;by_cases e:o'=h.next
  ·rw[if_pos e] at hg;exact .inl ⟨e,(Option.some.inj hg).symm⟩
  ·rw[if_neg e] at hg;by_cases e2:o'=o
   ·rw[if_pos e2] at hg;have:=ho'.live;rw[←Option.some.inj hg] at this;cases this
   ·rw[if_neg e2] at hg;exact .inr ⟨e2,e,hg,ho'.live,ho'.dom.resolve_right e⟩
 have hρ:∀o',o'≠h.next ->(c.add h.next (c.ρ o).1 base n).ρ o'=c.ρ o':=fun o' h1=>by simp[CE.add,h1]
 have hnew:(c.add h.next (c.ρ o).1 base n).ρ h.next=((c.ρ o).1,base):=by simp
 refine⟨hx,⟨?_,?_,?_,?_,?_,?_,?_⟩,⟨by rw[hsz];exact bK _,fun b _ hn=>hw b fun e=>hn o obj ho e.symm,?_,fun o ho=>ho.elim .inl fun e=> .inr (Nat.le_of_eq e.symm),jP _,fun _ _ h=> .inl h,?_,hq⟩⟩
 ·intro o' ho';rcases ho' with ho'|rfl
  ·exact xb (r.nx o' ho')
  ·exact qZ _
 ·intro o' ob' ho';rw[T.get_put,T.get_put] at ho';by_cases e:o'=h.next
  ·subst e;exact qZ _
  ·rw[if_neg e] at ho';by_cases e2:o'=o
   ·subst e2;exact xb hon
   ·rw[if_neg e2] at ho';exact xb (r.lt _ _ ho')
 ·intro o' ob' ho';rcases hh o' ob' ho' with ⟨rfl,rfl⟩|⟨e,e2,e'⟩
  ·exact hob
  ·exact(r.obj o' ob' e').mono hx e'.dom (hw _ fun k=>e (r.inj o' o ob' obj e' ho k))
 ·intro o₁ o₂ ob₁ ob₂ h1 h2 he;rcases hh o₁ ob₁ h1 with ⟨e,e'⟩|⟨e,e2,e'⟩<;>rcases hh o₂ ob₂ h2 with ⟨f,f'⟩|⟨f,f2,f'⟩
  ·rw[e,f]
  ·rw[e,hnew,hρ o₂ f2] at he;exact absurd (r.inj o₂ o ob₂ obj f' ho he.symm) f
  ·rw[f,hnew,hρ o₁ e2] at he;exact absurd (r.inj o₁ o ob₁ obj e' ho he) e
  ·rw[hρ o₁ e2,hρ o₂ f2] at he;exact r.inj o₁ o₂ ob₁ ob₂ e' f' he
 ·intro b row hb;obtain⟨t,fr,h1⟩:=r.im b row hb;refine⟨t,fr,?_⟩;rw[hw b ?_];exact h1;intro e;have h2:=r.dj o obj ho;have h3:c.im b=some row:=hb;rw[←e,h3] at h2;cases h2
 ·intro o' ob' ho';rcases hh o' ob' ho' with ⟨e,_⟩|⟨_,e2,e'⟩
  ·subst e;rw[hnew];exact r.dj o obj ho
  ·rw[hρ o' e2];exact r.dj o' ob' e'
 ·intro g l hg;obtain⟨row,vs,h1,h2,h3⟩:=r.gl g l hg;exact⟨row,vs,h1,h2,h3.mono hx⟩
 ·intro o' ob' ho';rcases hh o' ob' ho' with ⟨e,_⟩|⟨_,e2,e'⟩
  ·subst e;exact .inr ⟨o,obj,ho,by rw[hnew]⟩
  ·exact .inr ⟨o',ob',e',by rw[hρ o' e2]⟩
 ·intro o' ho' hd ob hg;replace hg:((h.objs.put o .gone).put h.next obj').get o'=some ob:=hg;rw[T.get_put,if_neg (show o'≠h.next by omega),T.get_put] at hg;by_cases e:o'=o
  ·rw[if_pos e] at hg;rw[←Option.some.inj hg];rfl
  ·rw[if_neg e] at hg;exact hd ob hg
def gC.leave {c:CE} {h:AH} {w w':World} (r:RS CR c h w) {o:Nat} {obj':aU} (hon:o<h.next) {ob:Obj}
 (hw:w'.heap=w.heap.push ob) (n ver:Nat) (hob:iX CR (c.add h.next w.heap.size 0 n) w' h.next obj') (hq:w'.os=w.os/\ w'.output=w.output:=by exact⟨rfl,rfl⟩):
 gC CR c h w (c.add h.next w.heap.size 0 n) ⟨Nat.succ h.next,ver,(h.objs.put o .gone).put h.next obj'⟩ w':=
 (gC.drop r o ver hon).trans (gC.alloc (gC.drop r o ver hon).rs hw n hob hq)
end
def lZ (row:Array Value):Nat ->List Value ->Array Value
 |_,[]=>row
 |o,v::r=>lZ (row.setIfInBounds o v) (o+1) r
def eM:∀(vs:List Value) (row:Array Value) (o:Nat),(lZ row o vs).size=row.size
 |[],_,_=>rfl
 |v::r,row,o=>by rw[lZ,eM r];simp
def l7:∀(vs:List Value) (row:Array Value) (o:Nat),o+vs.length<=row.size ->∀i,(lZ row o vs)[i]? =if o<=i/\ i<o+vs.length then vs[i-o]? else row[i]?
 |[],row,o,_,i=>by
  simp only[lZ,jL,zu];rw[if_neg ω]
 |v::r,row,o,h,i=>by
  simp only[fM] at h;rw[lZ,l7 r _ (o+1) (by simp;omega)];simp only[fM];by_cases h1:o+1<=i/\ i<o+1+r.length
  ·rw[if_pos h1,if_pos ω];have:i-o=(i-(o+1))+1:=by omega
   rw[this];simp
  ·rw[if_neg h1];by_cases h2:i=o
   ·subst h2;rw[if_pos ω];simp[show i<row.size by omega]
   ·rw[if_neg ω,Lp (fun e=>h2 e.symm)]
def rQ (w:World) (a:Addr) (v:Value) {b:Nat} (h:b≠a.block):(w.setCell a v).heap[b]? =w.heap[b]? :=by
 simp only[World.setCell];rw[Fd,if_neg (fun e=>h e.symm)]
def sY (w:World) (b o:Nat) (v:Value) {row:Array Value} {t:TypeId} {fr:Nat×Nat} (h:w.heap[b]? =some (.cells row t fr)):
 (w.setCell ⟨b,o,none⟩ v).heap[b]? =some (.cells (row.setIfInBounds o v) t fr):=by
 simp only[World.setCell];rw[Fd,if_pos rfl,h];rfl
def jY (b:Nat):∀(vs:List Value) (o:Nat) (w:World),(w.setCells b o vs).heap.size=w.heap.size
 |[],_,_=>rfl
 |v::r,o,w=>by rw[World.setCells,jY b r];simp
def mM (b:Nat):∀(vs:List Value) (o:Nat) (w:World),(w.setCells b o vs).os=w.os/\ (w.setCells b o vs).output=w.output
 |[],_,_=>⟨rfl,rfl⟩
 |v::r,o,w=>by rw[World.setCells];exact mM b r _ _
def jC (b:Nat):∀(vs:List Value) (o:Nat) (w:World) {b':Nat},b'≠b ->(w.setCells b o vs).heap[b']? =w.heap[b']?
 |[],_,_,_,_=>rfl
 |v::r,o,w,b',h=>by rw[World.setCells,jC b r _ _ h,rQ _ _ _ h]
def jZ (b:Nat):∀(vs:List Value) (o:Nat) (w:World) {row:Array Value} {t:TypeId} {fr:Nat×Nat},w.heap[b]? =some (.cells row t fr) ->
 (w.setCells b o vs).heap[b]? =some (.cells (lZ row o vs) t fr)
 |[],_,_,_,_,_,h=>h
 |v::r,o,w,_,_,_,h=>jZ b r (o+1) _ (sY w b o v h)
def dA {w:World} {b i:Nat} {row:Array Value} {t:TypeId} {fr:Nat×Nat} (h:w.heap[b]? =some (.cells row t fr)):w.cell? ⟨b,i,none⟩=row[i]? :=by
 simp[World.cell?,h]
def l8 {w:World} {b i:Nat} {row:Array Value} {t:TypeId} {lo hi:Nat} (h:w.heap[b]? =some (.cells row t (lo,hi))) (hn:¬(lo<=i/\ i<hi)):w.frozen? ⟨b,i,none⟩=false:=by
 simp only[World.frozen?,h];simp only[Bool.and_eq_false_iff,decide_eq_false_iff_not];omega
section vrs
variable {c:CE}
def ed.length {l:List AV} {vs:List Value} (h:ed c l vs):vs.length=l.length:=by
 induction l generalizing vs with
 |nil=>cases h;rfl
 |cons a t ih=>cases h with|cons _ _ v r h hs=>simp[ih hs]
def ed.get {l:List AV} {vs:List Value} (h:ed c l vs) (i:Nat) {a:AV} (ha:l[i]? =some a):∃v,vs[i]? =some v/\ VR c a v:=by
 induction l generalizing vs i with
 |nil=>simp at ha
 |cons b t ih=>
  cases h with
  |cons _ _ v r h hs=>
   cases i with
   |zero=>simp at ha;subst ha;exact⟨v,rfl,h⟩
   |succ i=>simp at ha;simpa using ih hs i ha
def ed.append {l m:List AV} {vs us:List Value} (h:ed c l vs) (k:ed c m us):ed c (l++m) (vs++us):=by
 induction l generalizing vs with
 |nil=>cases h;exact k
 |cons a t ih=>cases h with|cons _ _ v r h hs=>exact .cons _ _ _ _ h (ih hs)
def ed.take {l:List AV} {vs:List Value} (h:ed c l vs) (n:Nat):ed c (l.take n) (vs.take n):=by
 induction l generalizing vs n with
 |nil=>cases h;simp;exact .nil
 |cons a t ih=>
  cases h with
  |cons _ _ v r h hs=>
   cases n with
   |zero=>exact .nil
   |succ n=>exact .cons _ _ _ _ h (ih hs n)
def ed.drop {l:List AV} {vs:List Value} (h:ed c l vs) (n:Nat):ed c (l.drop n) (vs.drop n):=by
 induction l generalizing vs n with
 |nil=>cases h;simp;exact .nil
 |cons a t ih=>
  cases h with
  |cons _ _ v r h hs=>
   cases n with
   |zero=>exact .cons _ _ _ _ h hs
   |succ n=>exact ih hs n
def ed.replicate {z:List AV} {zs:List Value} (h:ed c z zs) (n:Nat):ed c (List.replicate n z).flatten (List.replicate n zs).flatten:=by
 induction n with
 |zero=>exact .nil
 |succ n ih=>rw[Jy,Jy,Jz,Jz];exact h.append ih
def VR.cells {x:AV} {v:Value} (h:VR c x v) (hu:bU x=true∨∃l,x= .ag l):∃vs,v.cells=vs.toArray/\ ed c (cellsOf x) vs:=by
 cases h with
 |ag l vs h=>exact⟨vs,rfl,h⟩
 |un v=>rcases hu with hu|⟨l,hu⟩<;>cases hu
 |tu l vs h=>rcases hu with hu|⟨l,hu⟩<;>cases hu
 |dp l off blk base row vs him hrow hs=>exact⟨[_],rfl,.cons _ _ _ _ (.dp l off blk base row vs him hrow hs) .nil⟩
 |_=>first|exact⟨[_],rfl,.cons _ _ _ _ (by constructor<;>assumption) .nil⟩|skip
def VR.oneCell {x:AV} {v:Value} (h:VR c x v) (hu:bU x=true):v.oneCell'=true:=by
 cases h<;>first|rfl|cases hu
def ed.oneCell {l:List AV} {vs:List Value} (h:ed c l vs) (hu:cE l=true):∀v∈vs,v.oneCell'=true:=by
 induction l generalizing vs with
 |nil=>cases h;intro v hv;cases hv
 |cons a t ih=>
  cases h with
  |cons _ _ v r h hs=>
   have h1:bU a=true/\ cE t=true:=by
    cases hs:bU a with
    |true=>exact⟨rfl,by have:cE (a::t)=(Bool.rec false (cE t) (bU a):Bool):=rfl;rw[this,hs] at hu;exact hu⟩
    |false=>have:cE (a::t)=(Bool.rec false (cE t) (bU a):Bool):=rfl;rw[this,hs] at hu;cases hu
   intro u hu';rcases bY.1 hu' with e|e
   ·subst e;exact h.oneCell h1.1
   ·exact ih hs h1.2 u e
end vrs
end AM
namespace AM
open Go
noncomputable section
def CX {x:AV} {l:List AV} (h:cellsO x=some l):cellsOf x=l/\ (bU x=true∨∃l,x= .ag l):=by
 cases x<;>simp[cellsO] at h<;>simp[cellsOf,bU,h]
def VR.cellsO {c:CE} {x:AV} {v:Value} (h:VR c x v) {l:List AV} (hl:cellsO x=some l):∃vs,v.cells=vs.toArray/\ ed c l vs:=by
 obtain⟨h1,h2⟩:=CX hl;rw[←h1];exact h.cells h2
def kv:Nat ->AV ->Value ->Bool
 |_,.b x,.bool y=>x==y
 |_,.i k n,.int k' n'=>decide (k=k')&&fQ n n'
 |_,.s l,.string bs=>rN (bs.data.toList.map UInt8.toNat) l
 |_,.pn,.pointer none=>true
 |_,.sn,.slice none a b=>Nat.beq a 0&&Nat.beq b 0
 |_,.mn,.map none=>true
 |_,.fnil,.nilFunc=>true
 |_,.ifn,.nilIface=>true
 |_,.un,_=>true
 |_,.f g [] [],.func (.func g') a b=>Nat.beq g g'&&Nat.beq a.size 0&&Nat.beq b.size 0
 |n+1,.ifc t v,.iface t' v'=>Nat.beq t t'&&kv n v v'
 |n+1,.ag l,.agg vs=>List.rec (motive:=fun _=>List Value ->Bool) (fun v=>List.isEmpty v) (fun a _ ih v=>match v with|[]=>false|u::r=>kv n a u&&ih r) l vs.toList
 |n+1,.tu l,.tuple vs=>List.rec (motive:=fun _=>List Value ->Bool) (fun v=>List.isEmpty v) (fun a _ ih v=>match v with|[]=>false|u::r=>kv n a u&&ih r) l vs.toList
 |_,_,_=>false
def YX (n:Nat) (l:List AV):List Value ->Bool:=
 List.rec (motive:=fun _=>List Value ->Bool) (fun v=>List.isEmpty v) (fun a _ ih v=>match v with|[]=>false|u::r=>kv n a u&&ih r) l
def wj {n:Nat} (ih:∀a v,kv n a v=true ->∀c,VR c a v) (c:CE):∀{l:List AV} {vs:List Value},YX n l vs=true ->ed c l vs
 |[],[],_=> .nil
 |[],_::_,h=>by cases h
 |a::t,[],h=>by cases h
 |a::t,v::r,h=>by
  have h':(kv n a v&&YX n t r)=true:=h;simp only[av] at h';exact .cons _ _ _ _ (ih a v h'.1 c) (wj ih c h'.2)
def HX:∀(n:Nat) (a:AV) (v:Value),kv n a v=true ->∀c,VR c a v:=by
 intro n;induction n with
 |zero=>
  intro a v h c;unfold kv at h;split at h
  ·simp at h;subst h;exact .b _
  ·simp only[av,decide_eq_true_eq,bF] at h;obtain⟨rfl,rfl⟩:=h;exact .i _ _
  ·simp only[gF,decide_eq_true_eq] at h;exact .s _ _ h
  ·exact .pn
  ·simp only[av,az,decide_eq_true_eq] at h;obtain⟨rfl,rfl⟩:=h;exact .sn
  ·exact .mn
  ·exact .fnil
  ·exact .ifn
  ·exact .un _
  ·simp only[av,az,decide_eq_true_eq] at h;obtain⟨⟨rfl,h1⟩,h2⟩:=h;rw[Ly] at h1 h2;subst h1 h2;exact .f _ [] [] [] [] .nil .nil
  all_goals first|omega|(exact absurd h (by simp))
 |succ n ih=>
  intro a v h c;unfold kv at h;split at h
  ·simp at h;subst h;exact .b _
  ·simp only[av,decide_eq_true_eq,bF] at h;obtain⟨rfl,rfl⟩:=h;exact .i _ _
  ·simp only[gF,decide_eq_true_eq] at h;exact .s _ _ h
  ·exact .pn
  ·simp only[av,az,decide_eq_true_eq] at h;obtain⟨rfl,rfl⟩:=h;exact .sn
  ·exact .mn
  ·exact .fnil
  ·exact .ifn
  ·exact .un _
  ·simp only[av,az,decide_eq_true_eq] at h;obtain⟨⟨rfl,h1⟩,h2⟩:=h;rw[Ly] at h1 h2;subst h1 h2;exact .f _ [] [] [] [] .nil .nil
  ·rename_i hn;simp only[av,az,decide_eq_true_eq] at h;obtain⟨rfl,h2⟩:=h;cases hn;exact .ifc _ _ _ (ih _ _ h2 c)
  ·rename_i vs hn;cases hn;have:=wj ih c (vs:=vs.toList) h;exact(by simpa using VR.ag _ _ this)
  ·rename_i vs hn;cases hn;have:=wj ih c (vs:=vs.toList) h;exact(by simpa using VR.tu _ _ this)
  ·exact absurd h (by simp)
structure TI where
 kd:TypeDesc
 size:Nat
 bytes:Nat
 zs:List AV
 sh:Bool
def zF {a b:AV} (h:xd a b=true):a=b:=by
 unfold xd at h;split at h
 ·simpa using h
 ·simp only[av,decide_eq_true_eq,bF] at h;have hk:∀k k':IntKind,rP k k'=true ->k'=k:=by intro k k';cases k<;>cases k'<;>intro h<;>first|rfl|cases h
  rw[h.2,hk _ _ h.1]
 ·simp only[gF,decide_eq_true_eq] at h;rw[h]
 ·simp only[av,az,decide_eq_true_eq] at h;rw[h.1,h.2]
 all_goals first|rfl|cases h
def dE:∀{l m:List AV},eE l m=true ->l=m
 |[],[],_=>rfl
 |[],_::_,h=>by cases h
 |a::t,[],h=>by cases h
 |a::t,v::r,h=>by
  have h':(xd a v&&eE t r)=true:=h;simp only[av] at h';rw[zF h'.1,dE h'.2]
structure rq (P:Program) (t:TypeId) (i:TI):Prop where
 und:P.underlying t=some i.kd
 info:∃inf zv,P.info? t=some inf/\ inf.size=i.size/\ inf.bytes=i.bytes/\ inf.zero=some zv/\
  ((i.kd.isRow=true/\∃vs,zv= .agg vs/\ YX 2 i.zs vs.toList=true)∨(i.kd.isRow=false/\∃z,i.zs=[z]/\ kv 2 z zv=true/\ bU z=true))
 sh:P.stoodInHeld t=i.sh
def pE (P:Program) (ty:T TI):Prop:=∀t i,ty.get t=some i ->rq P t i
def rq.zero {P:Program} {t:TypeId} {i:TI} (h:rq P t i) (c:CE):∃inf zv vs,P.info? t=some inf/\ inf.size=i.size/\ inf.bytes=i.bytes/\ inf.zero=some zv/\ zv.cells=vs.toArray/\ ed c i.zs vs/\
 (i.kd.isRow=true ->VR c (.ag i.zs) zv)/\ (i.kd.isRow=false ->∃z,i.zs=[z]/\ VR c z zv/\ bU z=true):=by
 obtain⟨inf,zv,h1,h2,h3,h4,h5⟩:=h.info;rcases h5 with ⟨h5,vs,rfl,h6⟩|⟨h5,z,h6,h7,h8⟩
 ·have hv:=wj (HX 2) c h6;exact⟨inf,_,vs.toList,h1,h2,h3,h4,by simp[Value.cells],hv,fun _=>by simpa using VR.ag _ _ hv,fun k=>absurd (h5.symm.trans k) (by simp)⟩
 ·have hz:=HX 2 z zv h7 c;obtain⟨vs,h9,h10⟩:=hz.cells (.inl h8);have:cellsOf z=[z]:=by cases z<;>first|rfl|cases h8
  rw[this] at h10;have h11:ed c i.zs vs:=by rw[h6];exact h10
  exact⟨inf,zv,vs,h1,h2,h3,h4,h9,h11,fun k=>absurd (h5.symm.trans k) (by simp),fun _=>⟨z,h6,hz,h8⟩⟩
def aW:MA ->Operand ->Bool
 | .t n,.tmp m=>Nat.beq n m
 | .c v,.const x=>kv 8 v x
 | .c v,.func g=>kv 8 v (.func (.func g) #[] #[])
 | .g n,.global m=>Nat.beq n m
 |_,_=>false
def l9 (l:List MA):List Operand ->Bool:=
 List.rec (motive:=fun _=>List Operand ->Bool) (fun v=>List.isEmpty v) (fun a _ ih v=>match v with|[]=>false|u::r=>aW a u&&ih r) l
def qQ:Option MA ->Option Operand ->Bool
 |none,none=>true
 |some a,some x=>aW a x
 |_,_=>false
section
variable {R:Type} (C:cQ R)
def xj {c:CE} {τ:T AV} {a:Act} (ht:TR c τ a.tmps) (hg:∀g l,C.glob.get g=some l ->c.gl g=some l)
 (hgl:∀g l,c.gl g=some l ->∃row vs,c.im g=some row/\ zE row 0 vs/\ ed c l vs) {m:MA} {x:Operand} (h:aW m x=true):VR c (bp C τ m) (a.eval x):=by
 unfold aW at h;split at h
 ·rename_i n k;simp only[az,decide_eq_true_eq] at h;subst h;show VR c (Option.rec .un (fun v=>v) (τ.get n)) (a.tmps.getD n undef);cases hn:τ.get n with
  |none=>exact .un _
  |some v=>
   obtain⟨v',h1,h2⟩:=ht n v hn;have:a.tmps.getD n undef=v':=by simp[h1]
   rw[this];exact h2
 ·exact HX _ _ _ h c
 ·exact HX _ _ _ h c
 ·rename_i n k;simp only[az,decide_eq_true_eq] at h;subst h;show VR c (Option.rec .un (fun l=> .dp l 0) (C.glob.get n)) (.pointer (some ⟨n,0,none⟩));cases hn:C.glob.get n with
  |none=>exact .un _
  |some l=>
   obtain⟨row,vs,h1,h2,h3⟩:=hgl n l (hg n l hn);exact .dp l 0 n 0 row vs h1 h2 h3
 ·cases h
end
section
variable (P:Program) (CR:Nat ->Code ->ap ->Prop)
def cy (c:CE) (h:AH) (w:World) (x:AV) (h':AH) (r:Result Next):Prop:=
 ∃c' w' nx,r= .ok nx w'/\ gC CR c h w c' h' w'/\ ((∃v,nx= .value v/\ VR c' x v)∨(nx= .skip/\ x= .un))
def aI (c:CE) (h:AH) (w:World):bj ->Result Next ->Prop
 | .v x h',r=>cy CR c h w x h' r
 | .call f args h',r=>h'=h/\∃vs,ed c args vs/\ r=(callFunc f vs.toArray).run P w
 | .yld l args h',r=>h'=h/\ c.dom l/\∃vs,ed c args vs/\ r=(Instr.yield (c.ρ l).1 vs.toArray).run P w
 | .alts l,r=>∃e∈l,cy CR c h w e.1 e.2 r
 | .bad,_=>True
structure Cx (c:CE) (h:AH) (w:World) (ev:MA ->AV) (ρ:Operand ->Value):Prop where
 rs:RS CR c h w
 hE:∀m x,aW m x=true ->VR c (ev m) (ρ x)
variable {P CR}
variable {c:CE} {h:AH} {w:World} {ev:MA ->AV} {ρ:Operand ->Value} {o:Oper} {t:TypeId} {i:TI}
def cy.same (r:RS CR c h w) {x:AV} {v:Value} (hv:VR c x v):cy CR c h w x h (.ok (.value v) w):=
 ⟨c,w,_,rfl,gC.refl r,.inl ⟨v,rfl,hv⟩⟩
def d9 {s:Sem Value} {v:Value} {w':World} (hs:s.run P w= .ok v w'):((do pure (Next.value (←s))):Sem Next).run P w= .ok (.value v) w':=by
 simp only[Sem.run_bind,hs,bQ,Sem.run_pure]
def CY {s:Sem Unit} {w':World} (hs:s.run P w= .ok () w'):((do s;pure Next.skip):Sem Next).run P w= .ok .skip w':=by
 simp only[Sem.run_bind,hs,bQ,Sem.run_pure]
def Tv (X:Cx CR c h w ev ρ) {a:MA} {x:Operand} (ho:o.op= .move x∨o.op= .assign x) (ha:aW a x=true):aI P CR c h w (step ev h (.mv a)) ((execOp ρ o).run P w):=by
 have e:(execOp ρ o).run P w= .ok (.value (ρ x)) w:=by rcases ho with ho|ho<;>simp only[execOp,ho]<;>rfl
 rw[e];show aI P CR c h w (fV (ev a) fun x=> .v x h) _;rw[iW];exact cy.same X.rs (X.hE _ _ ha)
def Q4 (X:Cx CR c h w ev ρ) {a b d:MA} {x y z:Operand} (ho:o.op= .pick x y z) (h1:aW a x=true) (h2:aW b y=true) (h3:aW d z=true):
 aI P CR c h w (step ev h (.pick a b d)) ((execOp ρ o).run P w):=by
 have hc:=X.hE _ _ h1;show aI P CR c h w (match ev a with| .b x=>Bool.rec (motive:=fun _=>bj) (fV (ev d) fun x=> .v x h) (fV (ev b) fun x=> .v x h) x|_=> .bad) _;cases hx:ev a with
 |b t=>
  rw[hx] at hc;cases hr:ρ x with
  |bool t'=>
   rw[hr] at hc;cases hc;have e:(execOp ρ o).run P w= .ok (.value (if t then ρ y else ρ z)) w:=by
    simp only[execOp,ho,hr,asBool,Sem.run_bind,Sem.run_pure,bQ]
   rw[e];cases t with
   |true=>simp only[iW];exact cy.same X.rs (X.hE _ _ h2)
   |false=>simp only[iW];exact cy.same X.rs (X.hE _ _ h3)
  |_=>rw[hr] at hc;cases hc
 |_=>trivial
def je (CR:Nat ->Code ->ap ->Prop) (c:CE) (w:World) (obj:Nat ->aU) (val:Nat ->AV) (r:Result Next):Prop:=
 ∃v w' ob n,r= .ok (.value v) w'/\ (w'.heap=w.heap.push ob/\ w'.os=w.os/\ w'.output=w.output)/\
  ∀c' w'' id ver,qj c c' ->c'.dom id ->c'.ρ id=(w.heap.size,0) ->c'.sz id=n ->w''.heap[w.heap.size]? =some ob ->iX CR c' w'' id (obj ver)/\ VR c' (val id) v
def je.good {obj:Nat ->aU} {val:Nat ->AV} {r:Result Next} (hs:RS CR c h w) (a:je CR c w obj val r):
 aI P CR c h w (h.new (obj h.ver) fun o h=> .v (val o) h) r:=by
 obtain⟨v,w',ob,n,rfl,⟨h2,hq⟩,h3⟩:=a;rw[AH.new_eq];have h4:=h3 (c.add h.next w.heap.size 0 n) w' h.next h.ver (CE.add_ext c hs.fresh _ _ _) (by simp) (by simp) (by simp) (by rw[h2];simp);exact⟨_,_,_,rfl,gC.alloc hs h2 n h4.1 hq,.inl ⟨_,rfl,h4.2⟩⟩
def uC {l:List AV} {vs:List Value} (hv:ed c l vs) (t:TypeId) {w':World} (extra:List Value) (fr:Nat×Nat)
 (hfr:∀j,j<vs.length+extra.length ->¬(fr.1<=j/\ j<fr.2)) (hw:w'.heap=w.heap.push (.cells (vs++extra).toArray t fr)) (val:Nat ->AV) (v:Value)
 (hval:∀c' id,c'.dom id ->c'.ρ id=(w.heap.size,0) ->c'.sz id=vs.length+extra.length ->VR c' (val id) v) (hq:w'.os=w.os/\ w'.output=w.output:=by exact⟨rfl,rfl⟩):
 je CR c w (fun ver=> .cells ver l) val (.ok (.value v) w'):=by
 refine⟨v,w',_,vs.length+extra.length,rfl,⟨hw,hq⟩,fun c' w'' id ver hx hd hρ hz hb=>⟨⟨(vs++extra).toArray,t,fr.1,fr.2,vs,by rw[hρ];exact hb,by rw[hz];simp,?_,hv.mono hx,?_,by rw[hρ];simp⟩,hval c' id hd hρ hz⟩⟩
 ·intro j hj;exact hfr j (by simpa using hj)
 ·intro i v hi;rw[hρ];simp only[fL,Lr];rw[oZ (cW.1 hi).1];exact hi
def oy {l:List AV} {vs:List Value} (hv:ed c l vs) (t:TypeId) {w':World} (hw:w'.heap=w.heap.push (.cells vs.toArray t)) (val:Nat ->AV) (v:Value)
 (hval:∀c' id,c'.dom id ->c'.ρ id=(w.heap.size,0) ->c'.sz id=vs.length ->VR c' (val id) v) (hq:w'.os=w.os/\ w'.output=w.output:=by exact⟨rfl,rfl⟩):
 je CR c w (fun ver=> .cells ver l) val (.ok (.value v) w'):=
 uC hv t [] (0,0) (fun j _=>by simp) (by simpa using hw) val v (by simpa using hval) hq
def VR.new {c':CE} {id b:Nat} (hd:c'.dom id) (hρ:c'.ρ id=(b,0)) (k:Nat):VR c' (.p id k) (.pointer (some ⟨b,k,none⟩)):=by
 have:(⟨b,k,none⟩:Addr)=c'.addr id k:=by unfold CE.addr;rw[hρ];simp
 rw[this];exact .p _ _ hd
def CZ (hty:rq P t i) {z:List AV} (ho:o.op= .alloc t) (hz:z=i.zs):je CR c w (fun ver=> .cells ver z) (fun o=> .p o 0) ((execOp ρ o).run P w):=by
 subst hz;obtain⟨inf,zv,vs,h1,h2,h3,h4,h5,h6,_,_⟩:=hty.zero c;have e:(execOp ρ o).run P w= .ok (.value (.pointer (some ⟨w.heap.size,0,none⟩))) { w with heap:=w.heap.push (.cells vs.toArray t) }:=by
  simp only[execOp,ho];refine d9 ?_;simp[Instr.alloc,zeroValue,typeInfo,h1,h4,newVar,newRow,h5]
 rw[e];exact oy h6 t rfl _ _ fun c' id hd hρ _=>VR.new hd hρ 0
def LG (hty:rq P t i) (X:Cx CR c h w ev ρ) {z:List AV} (ho:o.op= .alloc t) (hz:z=i.zs):aI P CR c h w (step ev h (.alloc z)) ((execOp ρ o).run P w):=
 (CZ hty ho hz).good X.rs
def LH (X:Cx CR c h w ev ρ) {a:MA} {x:Operand} (ho:o.op= .box t x) (ha:aW a x=true) {l:List AV} (hc:cellsO (ev a)=some l):
 je CR c w (fun ver=> .cells ver l) (fun o=> .p o 0) ((execOp ρ o).run P w):=by
 obtain⟨vs,h1,h2⟩:=(X.hE _ _ ha).cellsO hc;have e:(execOp ρ o).run P w= .ok (.value (.pointer (some ⟨w.heap.size,0,none⟩))) { w with heap:=w.heap.push (.cells vs.toArray t) }:=by
  simp only[execOp,ho];refine d9 ?_;simp[Instr.box,newVar,newRow,h1]
 rw[e];exact oy h2 t rfl _ _ fun c' id hd hρ _=>VR.new hd hρ 0
def Vp (X:Cx CR c h w ev ρ) {a:MA} {n:Nat} {x:Operand} (ho:o.op= .box t x) (ha:aW a x=true):aI P CR c h w (step ev h (.box a n)) ((execOp ρ o).run P w):=by
 show aI P CR c h w (match cellsO (ev a) with|some l=>h.new (.cells h.ver l) fun o h=> .v (.p o 0) h|none=> .bad) _;cases hc:cellsO (ev a) with
 |none=>trivial
 |some l=>exact(LH X ho ha hc).good X.rs
def zG (r:RS CR c h w) {x:AV} {v:Value} (hv:VR c x v) {n:Nat} {cs:List AV}
 (hx:(∃o off l,x= .p o off/\ h.rows o=some l/\ sub l off n=some cs)∨(∃l off,x= .dp l off/\ sub l off n=some cs)):
 ∃b k vs,v= .pointer (some ⟨b,k,none⟩)/\ ed c cs vs/\ vs.length=n/\ w.rangeAt b k vs:=by
 rcases hx with ⟨o,off,l,rfl,hl,hs⟩|⟨l,off,rfl,hs⟩
 ·cases hv with
  |p _ _ hd=>
   have hg:=CW (CR:=CR) hl;obtain⟨ob,hg,hlv,hob⟩:=hg;obtain⟨row,t,lo,hi,vs,h1,h2,h3,h4,h5,_⟩:=hob c w (r.obj o _ ⟨hg,hlv,hd⟩);obtain⟨h6,rfl⟩:=eL hs;refine⟨_,_,(vs.drop off).take n,rfl,(h4.drop off).take n,?_,?_⟩
   ·have:=h4.length;simp;omega
   ·intro j u hj;rw[dA h1];have hj':j<n:=by
     have:=(cW.1 hj).1;simp at this;omega
    rw[iL,if_pos hj',lj] at hj;have:=h5 _ _ hj;rw[←this];congr 1;omega
 ·cases hv with
  |dp _ _ blk base row vs him hrow hss=>
   obtain⟨t,fr,h1⟩:=r.im _ _ him;obtain⟨h6,rfl⟩:=eL hs;refine⟨_,_,(vs.drop off).take n,rfl,(hss.drop off).take n,?_,?_⟩
   ·have:=hss.length;simp;omega
   ·intro j u hj;rw[dA h1];have hj':j<n:=by
     have:=(cW.1 hj).1;simp at this;omega
    rw[iL,if_pos hj',lj] at hj;have:=hrow _ _ hj;rw[←this];congr 1;omega
def xk {agg:Bool} {l:List AV} {x:AV} (h:iQ agg l=some x):(agg=true/\ x= .ag l)∨(agg=false/\ l=[x]):=by
 unfold iQ at h;cases agg with
 |true=>simp at h;exact .inl ⟨rfl,h.symm⟩
 |false=>
  simp only[cond_false] at h;split at h
  ·cases h;exact .inr ⟨rfl,rfl⟩
  ·cases h
def C0 (hty:rq P t i) (X:Cx CR c h w ev ρ) {a:MA} {x:Operand} (ho:o.op= .load t x) (ha:aW a x=true) {n:Nat} {agg:Bool} (hn:n=i.size) (hg:agg=i.kd.isRow):
 ∀cs y,((∃o off l,ev a= .p o off/\ h.rows o=some l/\ sub l off n=some cs)∨(∃l off,ev a= .dp l off/\ sub l off n=some cs)) ->iQ agg cs=some y ->
  aI P CR c h w (.v y h) ((execOp ρ o).run P w):=by
 have hv:=X.hE _ _ ha;intro cs y hx hy;obtain⟨b,k,vs,e1,e2,e3,e4⟩:=zG X.rs hv hx;obtain⟨inf,zv,i1,i2,i3,i4,i5⟩:=hty.info;rcases xk hy with ⟨g,rfl⟩|⟨g,rfl⟩
 ·have e:(execOp ρ o).run P w= .ok (.value (.agg vs.toArray)) w:=by
   simp only[execOp,ho];refine d9 ?_;rw[e1];exact run_loadAt_mid w b k t vs i.kd e4 hty.und (by rw[←hg];exact g) (by rw[i1];simp;omega)
  rw[e];exact cy.same X.rs (.ag _ _ e2)
 ·cases e2 with
  |cons _ _ u us hu hus=>
   cases hus;have hc:w.cell? ⟨b,k,none⟩=some u:=e4 0 u rfl;have hagg:(isAgg t).run P w= .ok false w:=by
    unfold isAgg;rw[Sem.run_bind,run_underlying hty.und w];have:i.kd.isRow=false:=by rw[←hg];exact g
    cases hk:i.kd<;>rw[hk] at this<;>first|rfl|cases this
   have e:(execOp ρ o).run P w= .ok (.value u) w:=by
    simp only[execOp,ho];refine d9 ?_;rw[e1];simp[Instr.loadAt,Instr.sureAddr,loadVar,hagg,hc]
   rw[e];exact cy.same X.rs hu
def Q5 (hty:rq P t i) (X:Cx CR c h w ev ρ) {a:MA} {x:Operand} (ho:o.op= .load t x) (ha:aW a x=true) {n:Nat} {agg:Bool} (hn:n=i.size) (hg:agg=i.kd.isRow):
 aI P CR c h w (step ev h (.load a n agg)) ((execOp ρ o).run P w):=by
 have key:=C0 hty X ho ha hn hg;show aI P CR c h w (match ev a with
  | .p o off=>match h.cells o with
   |some l=>match sub l off n with|some c=>ig h (iQ agg c)|none=> .bad
   |none=> .bad
  | .dp l off=>match sub l off n with|some c=>ig h (iQ agg c)|none=> .bad
  |_=> .bad) _
 cases hx:ev a with
 |p o' off=>
  dsimp only;cases hl:h.cells o' with
  |none=>trivial
  |some l=>
   dsimp only;cases hs:sub l off n with
   |none=>trivial
   |some cs=>
    dsimp only;unfold ig;cases hy:iQ agg cs with
    |none=>trivial
    |some y=>exact key cs y (.inl ⟨o',off,l,hx,nf hl,hs⟩) hy
 |dp l off=>
  dsimp only;cases hs:sub l off n with
  |none=>trivial
  |some cs=>
   dsimp only;unfold ig;cases hy:iQ agg cs with
   |none=>trivial
   |some y=>exact key cs y (.inr ⟨l,off,hx,hs⟩) hy
 |_=>trivial
def Vq (hty:rq P t i) (X:Cx CR c h w ev ρ) {a:MA} {x:Operand} (ho:o.op= .load t x) (ha:aW a x=true) {n:Nat} {agg:Bool} (hn:n=i.size) (hg:agg=i.kd.isRow):
 aI P CR c h w (step ev h (.tld a n agg)) ((execOp ρ o).run P w):=by
 have key:=C0 hty X ho ha hn hg;show aI P CR c h w (match ev a with
  | .p o off=>match h.rows o with
   |some l=>match sub l off n with|some c=>ig h (iQ agg c)|none=> .bad
   |none=> .bad
  | .dp l off=>match sub l off n with|some c=>ig h (iQ agg c)|none=> .bad
  |_=> .bad) _
 cases hx:ev a with
 |p o' off=>
  dsimp only;cases hl:h.rows o' with
  |none=>trivial
  |some l=>
   dsimp only;cases hs:sub l off n with
   |none=>trivial
   |some cs=>
    dsimp only;unfold ig;cases hy:iQ agg cs with
    |none=>trivial
    |some y=>exact key cs y (.inl ⟨o',off,l,hx,hl,hs⟩) hy
 |dp l off=>
  dsimp only;cases hs:sub l off n with
  |none=>trivial
  |some cs=>
   dsimp only;unfold ig;cases hy:iQ agg cs with
   |none=>trivial
   |some y=>exact key cs y (.inr ⟨l,off,hx,hs⟩) hy
 |_=>trivial
end
section
variable {P:Program} {CR:Nat ->Code ->ap ->Prop}
variable {c:CE} {h:AH} {w:World} {ev:MA ->AV} {ρ:Operand ->Value} {o:Oper} {t:TypeId} {i:TI}
def vG (r:RS CR c h w) {k:Nat} {l l' new:List AV} {news:List Value} {off:Nat} {ob ob':aU} (hH:jB c h k ob) (hn:ed c new news) (ho:bD new l off=some l') {T:Option Nat} {wh:Bool}
 (hR:Vo c w k l T wh) (hR':∀w',Vo c w' k l' T wh ->iX CR c w' k ob') (ver':Nat):
 w.there (c.ρ k).1 ((c.ρ k).2+off) news.length/\
 gC CR c h w c ⟨h.next,ver',h.objs.put k ob'⟩ (w.setCells (c.ρ k).1 ((c.ρ k).2+off) news):=by
 obtain⟨row,t,lo,hi,vs,h1,h2,h3,h4,h5,h6,h7,h8⟩:=hR;have hlen:=(jr ho).1;have hln:=hn.length;have hlv:=h4.length;refine⟨fun j hj=> ?_,?_⟩
 ·rw[dA h1];exact⟨by rw[mL ω];rfl,l8 h1 (h3 _ ω)⟩
 ·refine gC.write r hH (jY _ _ _ _) (fun b hb=>jC _ _ _ _ hb) (hR' _ ?_) ver' (mM _ _ _ _);refine⟨_,t,lo,hi,vs.take off++news++vs.drop (off+news.length),jZ _ _ _ _ h1,by rw[eM];exact h2,?_,?_,?_,?_,h7,?_⟩
  ·intro j hj;rw[eM] at hj;exact h3 j hj
  ·have:=(jr ho).2;rw[this,←hln];exact((h4.take off).append hn).append (h4.drop _)
  ·intro j u hj;rw[l7 _ _ _ ω];have hl2:(vs.take off++news++vs.drop (off+news.length))[j]? =if off<=j/\ j<off+news.length then news[j-off]? else vs[j]? :=by
    refine xi (c:=news) (l:=vs) (n:=off) ?_ j;rw[lP,if_pos ω]
   rw[hl2] at hj;by_cases hc:off<=j/\ j<off+news.length
   ·rw[if_pos hc] at hj;rw[if_pos ω];rw[←hj];congr 1;omega
   ·rw[if_neg hc] at hj;rw[if_neg ω];exact h5 j u hj
  ·rw[eM];simp;omega
  ·intro hw;have:=h8 hw;rw[eM];simp;omega
def rR (r:RS CR c h w) {k:Nat} {l l' new:List AV} {news:List Value} {off:Nat} (hd:c.dom k) (hl:h.cells k=some l) (hn:ed c new news) (ho:bD new l off=some l') (ver ver':Nat):
 w.there (c.ρ k).1 ((c.ρ k).2+off) news.length/\
 gC CR c h w c ⟨h.next,ver',h.objs.put k (.cells ver l')⟩ (w.setCells (c.ρ k).1 ((c.ρ k).2+off) news):=by
 obtain⟨ob,hg,hlv,hob⟩:=nI (CR:=CR) hl;obtain⟨row,t,lo,hi,vs,h1,h2,h3,h4,h5,h6⟩:=hob c w (r.obj k _ ⟨hg,hlv,hd⟩);refine vG r ⟨hg,hlv,hd⟩ hn ho (T:=none) (wh:=false) ⟨row,t,lo,hi,vs,h1,h2,h3,h4,h5,h6,fun _ h=>(by cases h),fun h=>(by cases h)⟩ (fun w' hw=> ?_) ver';obtain⟨row,t,lo,hi,vs,h1,h2,h3,h4,h5,h6,_⟩:=hw;exact⟨row,t,lo,hi,vs,h1,h2,h3,h4,h5,h6⟩
def rT {c:CE} {x:AV} {v:Value} (h:VR c x v) (ha:cE (cellsOf x)=true):∃vs,v.cells=vs.toArray/\ ed c (cellsOf x) vs/\∀u∈vs,u.oneCell'=true:=by
 have hu:bU x=true∨∃l,x= .ag l:=by
  cases x with
  |ag l=>exact .inr ⟨l,rfl⟩
  |tu l=>exact absurd (show false=true from ha) (by simp)
  |un=>exact absurd (show false=true from ha) (by simp)
  |_=>exact .inl rfl
 obtain⟨vs,h1,h2⟩:=h.cells hu;exact⟨vs,h1,h2,h2.oneCell ha⟩
def jf (t:TypeId) {inf:TypeInfo} (hi:P.info? t=some inf) (b k:Nat) (v:Value) (vs:List Value) (hv:v.cells=vs.toArray) (hn:vs.length=inf.size) (h1:∀u∈vs,u.oneCell'=true) (ht:w.there b k vs.length):
 (storeVar t ⟨b,k,none⟩ v).run P w= .ok () (w.setCells b k vs):=by
 have:=run_storeCells_cells (P:=P) b k vs 0 w (fun j hj=>by simpa using (ht j hj).1) (fun j hj=>by simpa using (ht j hj).2) h1;simp only[zu] at this;simp[storeVar,Go.sizeOf,typeInfo,hi,hv,hn,this]
def LJ (hty:rq P t i) (X:Cx CR c h w ev ρ) {a y:MA} {x z:Operand} (ho:o.op= .store t x z) (ha:aW a x=true) (hy:aW y z=true) {n:Nat} (hn:n=i.size):
 aI P CR c h w (step ev h (.store a y n)) ((execOp ρ o).run P w):=by
 show aI P CR c h w (match ev a with
  | .p o off=>match h.cells o with
   |some l=>fV (ev y) fun x=>match bD (cellsOf x) l off with
    |some l'=>bif cE (cellsOf x)&&Nat.beq (len (cellsOf x)) n then h.put o (.cells (Nat.succ h.ver) l') fun h=> .v .un h else .bad
    |none=> .bad
   |none=> .bad
  |_=> .bad) _
 have hv:=X.hE _ _ ha;have hv2:=X.hE _ _ hy;cases hx:ev a with
 |p o' off=>
  dsimp only;cases hl:h.cells o' with
  |none=>trivial
  |some l=>
   dsimp only;rw[iW];cases hs:bD (cellsOf (ev y)) l off with
   |none=>trivial
   |some l'=>
    dsimp only;cases hc:(cE (cellsOf (ev y))&&Nat.beq (len (cellsOf (ev y))) n) with
    |false=>trivial
    |true=>
     simp only[av,az,decide_eq_true_eq,gP] at hc;obtain⟨vs,e1,e2,e3⟩:=rT hv2 hc.1;rw[hx] at hv;generalize hr:ρ x=vx at hv;cases hv with
     |p _ _ hlt=>
      obtain⟨h1,h2⟩:=rR X.rs hlt hl e2 hs (Nat.succ h.ver) (Nat.succ h.ver);obtain⟨inf,zv,i1,i2,_⟩:=hty.info;have e:(execOp ρ o).run P w= .ok .skip (w.setCells (c.ρ o').1 ((c.ρ o').2+off) vs):=by
       simp only[execOp,ho];refine CY ?_;rw[hr];simp only[Instr.storeAt,Instr.sureAddr,Sem.run_bind,Sem.run_pure,bQ];exact jf t i1 _ _ _ vs e1 (by rw[e2.length,hc.2,i2];exact hn) e3 h1
      rw[e];simp only[cond_true,AH.put_eq];exact⟨_,_,_,rfl,h2,.inr ⟨rfl,rfl⟩⟩
 |_=>trivial
def Q6 (X:Cx CR c h w ev ρ) {a:MA} {x:Operand} (ho:o.op= .nilCheck x) (ha:aW a x=true):aI P CR c h w (step ev h (.nilc a)) ((execOp ρ o).run P w):=by
 show aI P CR c h w (match ev a with
  | .p o a=> .v (.p o a) h
  | .dp l a=> .v (.dp l a) h
  | .f g a b=> .v (.f g a b) h
  | .y l=> .v (.y l) h
  | .ifc t v=> .v (.ifc t v) h
  | .m o=> .v (.m o) h
  |_=> .bad) _
 have hv:=X.hE _ _ ha;have key:∀v,ρ x=v ->(execOp ρ o).run P w= .ok (.value v) w ->VR c (ev a) v ->cy CR c h w (ev a) h ((execOp ρ o).run P w):=by
  intro v _ e hv;rw[e];exact cy.same X.rs hv
 cases hx:ev a with
 |p o' off=>
  rw[hx] at hv key;generalize hr:ρ x=vx at hv key;cases hv with|p _ _ hlt=>exact key _ rfl (by simp only[execOp,ho,hr];rfl) (.p _ _ hlt)
 |dp l off=>
  rw[hx] at hv key;generalize hr:ρ x=vx at hv key;cases hv with|dp _ _ b1 b2 row vs q1 q2 q3=>exact key _ rfl (by simp only[execOp,ho,hr];rfl) (.dp _ _ _ _ row vs q1 q2 q3)
 |f g fi ca=>
  rw[hx] at hv key;generalize hr:ρ x=vx at hv key;cases hv with|f _ _ _ vi va q1 q2=>exact key _ rfl (by simp only[execOp,ho,hr];rfl) (.f _ _ _ _ _ q1 q2)
 |y l=>
  rw[hx] at hv key;generalize hr:ρ x=vx at hv key;cases hv with|y _ q=>exact key _ rfl (by simp only[execOp,ho,hr];rfl) (.y _ q)
 |ifc t v=>
  rw[hx] at hv key;generalize hr:ρ x=vx at hv key;cases hv with|ifc _ _ v' q=>exact key _ rfl (by simp only[execOp,ho,hr];rfl) (.ifc _ _ _ q)
 |m o'=>
  rw[hx] at hv key;generalize hr:ρ x=vx at hv key;cases hv with|m _ q=>exact key _ rfl (by simp only[execOp,ho,hr];rfl) (.m _ q)
 |_=>trivial
def wm {α:Type} (a n:Nat) (x y:α):(bif Nat.ble a n then x else y)=if a<=n then x else y:=by
 rw[aQ];by_cases h:a<=n<;>simp[h]
def pF (k:IntKind) (n:Int):bT k n=k.wrap n:=by
 cases n with
 |ofNat a=>
  cases k with
  |i64=>
   have e:bT .i64 (Int.ofNat a)=bif Nat.ble a 9223372036854775807 then .ofNat a else IntKind.wrap .i64 (.ofNat a):=by simp only[bT]
   rw[e,wm];split
   ·exact(IntWalk.i64_in (Int.ofNat a) ⟨by simp only[iO];omega,by simp only[iO];omega⟩).symm
   ·exact Eq.refl _
  |u64=>
   have e:bT .u64 (Int.ofNat a)=bif Nat.ble a 18446744073709551615 then .ofNat a else IntKind.wrap .u64 (.ofNat a):=by simp only[bT]
   rw[e,wm];split
   ·exact(IntWalk.u64_in (Int.ofNat a) ⟨by simp only[iO];omega,by simp only[iO];omega⟩).symm
   ·exact Eq.refl _
  |u8=>
   have e:bT .u8 (Int.ofNat a)=bif Nat.ble a 255 then .ofNat a else IntKind.wrap .u8 (.ofNat a):=by simp only[bT]
   rw[e,wm];split
   ·exact(IntWalk.u8_in (Int.ofNat a) ⟨by simp only[iO];omega,by simp only[iO];omega⟩).symm
   ·exact Eq.refl _
  |i8=>simp only[bT]
  |i16=>simp only[bT]
  |i32=>simp only[bT]
  |u16=>simp only[bT]
  |u32=>simp only[bT]
 |negSucc a=>
  cases k with
  |i64=>
   have e:bT .i64 (Int.negSucc a)=bif Nat.ble a 9223372036854775807 then .negSucc a else IntKind.wrap .i64 (.negSucc a):=by simp only[bT]
   rw[e,wm];split
   ·exact(IntWalk.i64_in (Int.negSucc a) ⟨by omega,by omega⟩).symm
   ·exact Eq.refl _
  |i8=>simp only[bT]
  |i16=>simp only[bT]
  |i32=>simp only[bT]
  |u8=>simp only[bT]
  |u16=>simp only[bT]
  |u32=>simp only[bT]
  |u64=>simp only[bT]
def pa (k:IntKind) (n:Int):ri k n=some (.i k n):=by unfold ri;rw[CV]
def vH (b:Bool):rb b=some (.b b):=by unfold rb;rw[rj]
def xn {k k':IntKind} (h:rP k k'=true):k'=k:=by
 cases k<;>cases k'<;>first|rfl|cases h
def Fx (k:IntKind) (n:Nat):Q1 k n=2^(min n k.bits):=by
 unfold Q1;rw[aQ];by_cases h:n<=k.bits
 ·simp[h,jp h]
 ·simp[h,rM (Nat.le_of_not_le h)]
def HY (k:IntKind) (m:Nat) (h:m<=sU k):m<2^k.bits:=by
 cases k<;>simp only[sU,IntKind.bits] at* <;>omega
def LK (k:IntKind) (m:Nat) (h:m<=sU k):k.wrap (m:Int)=m:=by
 cases k<;>simp only[sU] at h
 ·exact IntWalk.i8_in _ ω
 ·exact IntWalk.i16_in _ ω
 ·exact IntWalk.i32_in _ ω
 ·exact IntWalk.i64_in _ ω
 ·exact IntWalk.u8_in _ ω
 ·exact IntWalk.u16_in _ ω
 ·exact IntWalk.u32_in _ ω
 ·exact IntWalk.u64_in _ ω
def LL (k:IntKind):∃e,sU k+1=2^e:=by
 cases k
 ·exact⟨7,rfl⟩
 ·exact⟨15,rfl⟩
 ·exact⟨31,rfl⟩
 ·exact⟨63,rfl⟩
 ·exact⟨8,rfl⟩
 ·exact⟨16,rfl⟩
 ·exact⟨32,rfl⟩
 ·exact⟨64,rfl⟩
def Bs (k:IntKind) (f:Nat ->Nat ->Nat) (g:BitVec k.bits ->BitVec k.bits ->BitVec k.bits)
 (hfg:∀x y:BitVec k.bits,(g x y).toNat=f x.toNat y.toNat) (hf:∀m n e,m<2^e ->n<2^e ->f m n<2^e) (a b:Int):
 bits k f g a b=some (.i k (k.wrap (g (BitVec.ofInt k.bits a) (BitVec.ofInt k.bits b)).toNat)):=by
 unfold bits;split
 ·rename_i m n;cases hc:(Nat.ble m (sU k)&&Nat.ble n (sU k)) with
  |false=>simp only[cond_false,pa]
  |true=>
   simp only[av,aQ,decide_eq_true_eq] at hc;simp only[cond_true,pa];congr 2;have e1:(BitVec.ofInt k.bits (Int.ofNat m)).toNat=m:=by
    simp only[iO,BitVec.ofInt_natCast,BitVec.toNat_ofNat];exact HP (HY k m hc.1)
   have e2:(BitVec.ofInt k.bits (Int.ofNat n)).toNat=n:=by
    simp only[iO,BitVec.ofInt_natCast,BitVec.toNat_ofNat];exact HP (HY k n hc.2)
   rw[hfg,e1,e2];obtain⟨e,he⟩:=LL k;have:=hf m n e ω ω;rw[LK k _ ω];rfl
 ·rw[pa]
def Q7 {op:BinOp} {k k':IntKind} {a b:Int} {x:AV} (t:TypeId) (hx:LA op k k' a b=some x):∃v,(binOp op t (.int k a) (.int k' b)).run P w= .ok v w/\ VR c x v:=by
 unfold LA at hx;split at hx
 ·split at hx
  ·rename_i n;rw[pa,pF,Fx] at hx;cases hx;refine⟨_,?_,.i _ _⟩;simp only[binOp,Op.shift];rw[if_neg (by simp only[iO];omega)];simp
  ·cases hx
 ·split at hx
  ·rename_i n m;rw[pa,Fx] at hx;cases hx;refine⟨_,?_,.i _ _⟩;simp only[binOp,Op.shift];rw[if_neg (by simp only[iO];omega)];simp only[Sem.run_pure];have e:(Int.ofNat m).fdiv (2^(min (Int.ofNat n).toNat k.bits))=Int.ofNat (Nat.div m (2^min n k.bits)):=by
    simp only[iO,Int.toNat_natCast];rw[Int.fdiv_eq_ediv_of_nonneg _ (by exact Int.le_of_lt (Int.pow_pos (by decide)))];rw[show((2:Int)^min n k.bits)=((2^min n k.bits:Nat):Int) from by simp];rw[←Int.natCast_ediv];rfl
   rw[e]
  ·rename_i n _;rw[pa,Fx] at hx;cases hx;refine⟨_,?_,.i _ _⟩;simp only[binOp,Op.shift];rw[if_neg (by simp only[iO];omega)];simp
  ·cases hx
 ·rename_i n1 n2;cases hk:rP k k' with
  |false=>rw[hk] at hx;cases hx
  |true=>
   rw[hk] at hx;have:=xn hk;subst this;simp only[cond_true] at hx;split at hx;all_goals (try rw[pa] at hx)
   all_goals (try rw[vH] at hx)
   all_goals (try rw[pF] at hx)
   ·cases hx;exact⟨.int k' (k'.wrap (a+b)),by simp[binOp,Op.intArith],.i _ _⟩
   ·cases hx;exact⟨.int k' (k'.wrap (a-b)),by simp[binOp,Op.intArith],.i _ _⟩
   ·cases hx;exact⟨.int k' (k'.wrap (a*b)),by simp[binOp,Op.intArith],.i _ _⟩
   ·cases hx;refine⟨.bool (a==b),by simp[binOp,Op.intCmp],?_⟩;rw[bF];exact .b _
   ·cases hx;refine⟨.bool (a !=b),by simp[binOp,Op.intCmp],?_⟩;rw[bF];exact .b _
   ·cases hx;refine⟨.bool (decide (a<b)),by simp[binOp,Op.intCmp],?_⟩;rw[gG];exact .b _
   ·cases hx;refine⟨.bool (decide (a<=b)),by simp[binOp,Op.intCmp],?_⟩;rw[gG,show(!(decide (b<a)))=decide (a<=b) from by rw[←decide_not];simp];exact .b _
   ·cases hx;refine⟨.bool (decide (a>b)),by simp[binOp,Op.intCmp],?_⟩;rw[gG];exact .b _
   ·cases hx;refine⟨.bool (decide (a>=b)),by simp[binOp,Op.intCmp],?_⟩;rw[gG,show(!(decide (a<b)))=decide (a>=b) from by rw[←decide_not];simp];exact .b _
   ·cases hb:fQ b 0 with
    |true=>rw[hb] at hx;cases hx
    |false=>
     rw[hb] at hx;simp only[cond_false] at hx;cases hx;rw[bF] at hb;exact⟨.int k' (k'.wrap (a.tdiv b)),by simp[binOp,Op.intDiv,of_decide_eq_false hb],.i _ _⟩
   ·cases hb:fQ b 0 with
    |true=>rw[hb] at hx;cases hx
    |false=>
     rw[hb] at hx;simp only[cond_false] at hx;cases hx;rw[bF] at hb;exact⟨.int k' (a.tmod b),by simp[binOp,Op.intDiv,of_decide_eq_false hb],.i _ _⟩
   ·rw[Bs k' Nat.land (fun x y=>x&&&y) (fun x y=>BitVec.toNat_and x y) (fun m n e h1 _=>Q0 Nat.and_le_left h1)] at hx;cases hx;exact⟨.int k' (k'.wrap (BitVec.ofInt k'.bits a&&&BitVec.ofInt k'.bits b).toNat),by simp only[binOp,Op.intBits,ne_eq,not_true_eq_false,if_false,Sem.run_pure],.i _ _⟩
   ·rw[Bs k' Nat.lor (fun x y=>x|||y) (fun x y=>BitVec.toNat_or x y) (fun m n e h1 h2=>Nat.or_lt_two_pow h1 h2)] at hx;cases hx;exact⟨.int k' (k'.wrap (BitVec.ofInt k'.bits a|||BitVec.ofInt k'.bits b).toNat),by simp only[binOp,Op.intBits,ne_eq,not_true_eq_false,if_false,Sem.run_pure],.i _ _⟩
   ·rw[Bs k' Nat.xor (fun x y=>x^^^y) (fun x y=>BitVec.toNat_xor x y) (fun m n e h1 h2=>Nat.xor_lt_two_pow h1 h2)] at hx;cases hx;exact⟨.int k' (k'.wrap (BitVec.ofInt k'.bits a^^^BitVec.ofInt k'.bits b).toNat),by simp only[binOp,Op.intBits,ne_eq,not_true_eq_false,if_false,Sem.run_pure],.i _ _⟩
   ·cases hx;exact⟨.int k' (k'.wrap (BitVec.ofInt k'.bits a&&&~~~(BitVec.ofInt k'.bits b)).toNat),by simp only[binOp,Op.intBits,ne_eq,not_true_eq_false,if_false,Sem.run_pure],.i _ _⟩
   ·cases hx
def VR.int_inv {c:CE} {k:IntKind} {n:Int} {v:Value} (h:VR c (.i k n) v):v= .int k n:=by cases h;rfl
def VR.str_inv {c:CE} {l:List Nat} {v:Value} (h:VR c (.s l) v):∃bs,v= .string bs/\ bs.data.toList.map UInt8.toNat=l:=by cases h with|s _ bs e=>exact⟨bs,rfl,e⟩
def sZ:∀(x y:List UInt8),Op.bytesLess x y=Tt (x.map UInt8.toNat) (y.map UInt8.toNat)
 |_,[]=>by cases ‹List UInt8›<;>rfl
 |[],_::_=>rfl
 |a::x,b::y=>by
  have e:Tt ((a::x).map UInt8.toNat) ((b::y).map UInt8.toNat)=(Bool.rec (Bool.rec false (Tt (x.map UInt8.toNat) (y.map UInt8.toNat)) (Nat.beq a.toNat b.toNat)) true (Nat.ble (Nat.succ a.toNat) b.toNat):Bool):=rfl;rw[e,←sZ x y,aQ,az];simp only[Op.bytesLess];by_cases h1:a<b
  ·have:Nat.succ a.toNat<=b.toNat:=h1;simp[h1,this]
  ·have:¬Nat.succ a.toNat<=b.toNat:=h1;by_cases h2:a=b
   ·subst h2;rw[decide_eq_false this];simp[h1]
   ·have h3:¬a.toNat=b.toNat:=fun k=>h2 (UInt8.toNat_inj.1 k)
    simp[h1,this,h2,h3]
def mP (b:ByteArray):b.toList=b.data.toList:=ByteArray.toList_eq b
def za {x y:List UInt8}:x.map UInt8.toNat=y.map UInt8.toNat↔x=y:=
 ⟨fun h=>(List.map_inj_right (fun _ _ k=>UInt8.toNat_inj.1 k)).1 h,fun h=>by rw[h]⟩
def Q8 {op:BinOp} {a b:List Nat} {x:AV} {u v:ByteArray} (hu:u.data.toList.map UInt8.toNat=a) (hv:v.data.toList.map UInt8.toNat=b) (hx:LB op a b=some x):
 ∃r,(Op.stringOp op u v).run P w= .ok r w/\ VR c x r:=by
 have heq:(u.toList==v.toList)=decide (a=b):=by
  rw[mP,mP,←hu,←hv];by_cases e:u.data.toList=v.data.toList
  ·rw[e];simp
  ·rw[decide_eq_false (fun k=>e (za.1 k))];exact beq_false_of_ne e
 have hlt:Op.bytesLess u.toList v.toList=Tt a b:=by rw[mP,mP,sZ,hu,hv]
 unfold LB at hx;split at hx
 ·cases hc:(Nat.ble (len a) 1048576&&Nat.ble (len b) 1048576) with
  |false=>rw[hc] at hx;cases hx
  |true=>
   rw[hc] at hx;simp only[cond_true,dX] at hx;cases hx;simp only[av,aQ,decide_eq_true_eq,gP] at hc;have h1:u.size=a.length:=by rw[←hu,j9];rfl
   have h2:v.size=b.length:=by rw[←hv,j9];rfl
   refine⟨.string (u++v),?_,.s _ _ ?_⟩
   ·simp only[Op.stringOp];rw[if_neg ?_];rfl;have:IntKind.i64.max=9223372036854775807:=by decide
    rw[this];omega
   ·rw[ByteArray.data_append,Array.toList_append,iT,hu,hv]
 ·rw[vH] at hx;cases hx;exact⟨_,rfl,by simp only[heq,gF];exact .b _⟩
 ·rw[vH] at hx;cases hx;exact⟨_,rfl,by simp only[heq,gF];exact .b _⟩
 ·rw[vH] at hx;cases hx;exact⟨_,rfl,by simp only[hlt];exact .b _⟩
 ·rw[vH] at hx;cases hx;exact⟨_,rfl,by simp only[heq,hlt,gF];exact .b _⟩
 ·rw[vH] at hx;cases hx;exact⟨_,rfl,by simp only[heq,hlt,gF];exact .b _⟩
 ·rw[vH] at hx;cases hx;exact⟨_,rfl,by simp only[hlt];exact .b _⟩
 ·cases hx
def wn {op:BinOp} {t yt:TypeId} {x y:Operand} {v:Value} (ho:o.op= .binOp op t x y yt) (hg:(eqGuard op t x y (ρ x) (ρ y)).run P w= .ok () w) (hb:(binOp op t (ρ x) (ρ y)).run P w= .ok v w):
 (execOp ρ o).run P w= .ok (.value v) w:=by
 simp only[execOp,ho];refine d9 ?_;simp only[Sem.run_bind,hg,bQ,hb]
def zH (X:Cx CR c h w ev ρ) {op:BinOp} {t yt:TypeId} {a b:MA} {x y:Operand} (ho:o.op= .binOp op t x y yt) (ha:aW a x=true) (hb:aW b y=true)
 (hk:(∃k n k' m,ev a= .i k n/\ ev b= .i k' m)∨(∃l m,ev a= .s l/\ ev b= .s m)):
 aI P CR c h w (step ev h (.bin op a b)) ((execOp ρ o).run P w):=by
 show aI P CR c h w (ig h (aV op (ev a) (ev b))) _;have hva:=X.hE _ _ ha;have hvb:=X.hE _ _ hb;rcases hk with ⟨k,n,k',m,e1,e2⟩|⟨l,m,e1,e2⟩
 ·rw[e1] at hva ⊢;rw[e2] at hvb ⊢;have r1:=hva.int_inv;have r2:=hvb.int_inv;show aI P CR c h w (ig h (LA op k k' n m)) _;cases hx:LA op k k' n m with
  |none=>trivial
  |some z=>
   obtain⟨v,h1,h2⟩:=Q7 (P:=P) (c:=c) (w:=w) t hx;rw[wn (v:=v) ho (by rw[r1,eqGuard_at_int];rfl) (by rw[r1,r2];exact h1)];exact cy.same X.rs h2
 ·rw[e1] at hva ⊢;rw[e2] at hvb ⊢;obtain⟨u,r1,q1⟩:=hva.str_inv;obtain⟨v,r2,q2⟩:=hvb.str_inv;show aI P CR c h w (ig h (LB op l m)) _;cases hx:LB op l m with
  |none=>trivial
  |some z=>
   obtain⟨r,h1,h2⟩:=Q8 (P:=P) (c:=c) (w:=w) q1 q2 hx;rw[wn (v:=r) ho (by rw[r1,eqGuard_at_string];rfl) (by rw[r1,r2];cases op<;>exact h1)];exact cy.same X.rs h2
def YG (X:Cx CR c h w ev ρ) {op:UnOp} {t:TypeId} {a:MA} {x:Operand} (ho:o.op= .unOp op t x) (ha:aW a x=true):aI P CR c h w (step ev h (.un op a)) ((execOp ρ o).run P w):=by
 show aI P CR c h w (ig h (Tu op (ev a))) _;have hv:=X.hE _ _ ha;have key:∀z v,(Op.unary op (ρ x)).run P w= .ok v w ->VR c z v ->aI P CR c h w (.v z h) ((execOp ρ o).run P w):=by
  intro z v h1 h2;have e:(execOp ρ o).run P w= .ok (.value v) w:=by
   simp only[execOp,ho];exact d9 h1
  rw[e];exact cy.same X.rs h2
 cases hx:ev a with
 |i k n=>
  rw[hx] at hv;have r1:=hv.int_inv;cases op with
  |neg=>
   simp only[Tu,pa,pF,ig];exact key _ (.int k (k.wrap (0-n))) (by rw[r1];rfl) (.i _ _)
  |xor=>
   simp only[Tu,pa,ig];exact key _ _ (by rw[r1];rfl) (.i _ _)
  |_=>trivial
 |b z=>
  rw[hx] at hv;generalize hr:ρ x=vx at hv;cases hv;cases op with
  |not=>simp only[Tu,vH,ig];exact key _ (.bool (!z)) (by rw[hr];rfl) (.b _)
  |_=>trivial
 |_=>cases op<;>trivial
def Vr (X:Cx CR c h w ev ρ) {s t:TypeId} (hs:P.underlying s=some .string) (ht:P.underlying t=some .string) {a:MA} {x:Operand} (ho:o.op= .convert s t x) (ha:aW a x=true):
 aI P CR c h w (step ev h (.cvs a)) ((execOp ρ o).run P w):=by
 show aI P CR c h w (match ev a with| .s l=> .v (.s l) h|_=> .bad) _;have hv:=X.hE _ _ ha;cases hx:ev a with
 |s l=>
  rw[hx] at hv;obtain⟨u,r1,q1⟩:=hv.str_inv;have e:(execOp ρ o).run P w= .ok (.value (.string u)) w:=by
   simp only[execOp,ho];refine d9 ?_;rw[r1];simp[convert,run_underlying hs,run_underlying ht]
  rw[e];exact cy.same X.rs (.s _ _ q1)
 |_=>trivial
def Vs (X:Cx CR c h w ev ρ) {t:TypeId} {d:TypeDesc} (ht:P.underlying t=some d) (hd:∀ms,d≠.interface ms) {a:MA} {x:Operand} (ho:o.op= .makeInterface t x) (ha:aW a x=true):
 aI P CR c h w (step ev h (.mif t a)) ((execOp ρ o).run P w):=by
 show aI P CR c h w (fV (ev a) fun x=> .v (.ifc t x) h) _;rw[iW];have e:(execOp ρ o).run P w= .ok (.value (.iface t (ρ x))) w:=by
  simp only[execOp,ho];refine d9 ?_;simp only[Instr.makeInterface,Sem.run_bind,run_underlying ht,bQ];cases d<;>first|rfl|exact absurd rfl (hd _)
 rw[e];exact cy.same X.rs (.ifc _ _ _ (X.hE _ _ ha))
def Vt (X:Cx CR c h w ev ρ) {a:MA} {x:Operand} {n:Nat} (ho:o.op= .extract x n) (ha:aW a x=true):aI P CR c h w (step ev h (.ext a n)) ((execOp ρ o).run P w):=by
 show aI P CR c h w (match ev a with| .tu l=>ig h (CT l n)|_=> .bad) _;have hv:=X.hE _ _ ha;cases hx:ev a with
 |tu l=>
  rw[hx] at hv;generalize hr:ρ x=vx at hv;cases hv with
  |tu _ vs hs=>
   dsimp only;rw[Bq];cases hn:l[n]? with
   |none=>trivial
   |some z=>
    obtain⟨u,h1,h2⟩:=hs.get n hn;have e:(execOp ρ o).run P w= .ok (.value u) w:=by
     simp only[execOp,ho];refine d9 ?_;rw[hr];simp[Instr.extract,h1]
    rw[e];exact cy.same X.rs h2
 |_=>trivial
def Q9 (X:Cx CR c h w ev ρ) {s:TypeId} {fs:Array Field} {n:Nat} {f:Field} (hs:P.underlying s=some (.struct fs)) (hf:fs[n]? =some f) {inf:TypeInfo} (hi:P.info? f.type=some inf) (hz:inf.size≠0)
 {a:MA} {x:Operand} (ho:o.op= .fieldAddr s x n) (ha:aW a x=true):aI P CR c h w (step ev h (.fadr a f.offset)) ((execOp ρ o).run P w):=by
 show aI P CR c h w (match ev a with
  | .p o a=>fN (a+f.offset) fun a=> .v (.p o a) h
  | .dp l a=>fN (a+f.offset) fun a=> .v (.dp l a) h
  |_=> .bad) _
 have hv:=X.hE _ _ ha;have key:∀b k,ρ x= .pointer (some ⟨b,k,none⟩) ->(execOp ρ o).run P w= .ok (.value (.pointer (some ⟨b,k+f.offset,none⟩))) w:=by
  intro b k hr;simp only[execOp,ho];refine d9 ?_;rw[hr];simp[Instr.fieldAt,run_underlying hs,hf,Instr.sureAddr,fieldPlace,Go.sizeOf,typeInfo,hi,hz,Addr.add_mid]
 cases hx:ev a with
 |p o' off=>
  rw[hx] at hv;generalize hr:ρ x=vx at hv;cases hv with
  |p _ _ hlt=>
   simp only[bR];rw[key _ _ hr];refine cy.same X.rs ?_;have:(⟨(c.ρ o').1,(c.ρ o').2+off+f.offset,none⟩:Addr)=c.addr o' (off+f.offset):=by simp[CE.addr,oY]
   rw[this];exact .p _ _ hlt
 |dp l off=>
  rw[hx] at hv;generalize hr:ρ x=vx at hv;cases hv with
  |dp _ _ b1 b2 row vs q1 q2 q3=>
   simp only[bR];rw[key _ _ hr,oY];exact cy.same X.rs (.dp _ _ _ _ row vs q1 q2 q3)
 |_=>trivial
def Vu {k:IntKind} (hd:P.underlying t=some (.int k)) {s:TypeId} {k':IntKind} (hs:P.underlying s=some (.int k')) (X:Cx CR c h w ev ρ) {a:MA} {x:Operand} (ho:o.op= .convert s t x) (ha:aW a x=true):
 aI P CR c h w (step ev h (.cvi k a)) ((execOp ρ o).run P w):=by
 show aI P CR c h w (match ev a with| .i _ n=>ig h (ri k (bT k n))|_=> .bad) _;have hv:=X.hE _ _ ha;cases hx:ev a with
 |i q n=>
  rw[hx] at hv;generalize hr:ρ x=vx at hv;cases hv;simp only[pa,ig,pF];have e:(execOp ρ o).run P w= .ok (.value (.int k (k.wrap n))) w:=by
   simp only[execOp,ho];refine d9 ?_;rw[hr];simp[convert,run_underlying hs,run_underlying hd,Conv.intToInt]
  rw[e];exact cy.same X.rs (.i _ _)
 |_=>trivial
def Fy {v:AV} {n:Nat} (h:dI v=some n):∃k,v= .i k (Int.ofNat n):=by
 unfold dI at h;split at h
 ·cases h;exact⟨_,rfl⟩
 ·cases h
def oz (X:Cx CR c h w ev ρ) {a:MA} {x:Operand} (ha:aW a x=true) {n:Nat} (hn:nA ev a=some n):∃k,ρ x= .int k (n:Int):=by
 obtain⟨k,e⟩:=Fy hn;have:=X.hE _ _ ha;rw[e] at this;exact⟨k,this.int_inv⟩
def mQ (hty:rq P t i) {l cs:List AV} {vs:List Value} (hs:ed c l vs) {off n:Nat} (hsub:sub l off n=some cs) (hn:n=i.size) {y:AV} (hy:iQ i.kd.isRow cs=some y):
 ∃v,(part t vs.toArray off).run P w= .ok v w/\ VR c y v:=by
 obtain⟨h6,rfl⟩:=eL hsub;have hl:=hs.length;obtain⟨inf,zv,i1,i2,_⟩:=hty.info;have hcs:=(hs.drop off).take n;rcases xk hy with ⟨g,rfl⟩|⟨g,e⟩
 ·have hagg:(isAgg t).run P w= .ok true w:=by
   unfold isAgg;rw[Sem.run_bind,run_underlying hty.und w];cases hk:i.kd<;>rw[hk] at g<;>first|rfl|cases g
  refine⟨.agg ((vs.drop off).take n).toArray,?_,.ag _ _ hcs⟩;simp[part,hagg,Go.sizeOf,typeInfo,i1,i2,←hn]
 ·rw[e] at hcs;cases hcs':(vs.drop off).take n with
  |nil=>rw[hcs'] at hcs;cases hcs
  |cons u us=>
   rw[hcs'] at hcs;cases hcs with
   |cons _ _ _ _ hu hus=>
    have hagg:(isAgg t).run P w= .ok false w:=by
     unfold isAgg;rw[Sem.run_bind,run_underlying hty.und w];cases hk:i.kd<;>rw[hk] at g<;>first|rfl|cases g
    have hu0:vs[off]? =some u:=by
     have:((vs.drop off).take n)[0]? =some u:=by rw[hcs'];rfl
     rw[iL] at this;split at this
     ·simpa using this
     ·cases this
    refine⟨u,?_,hu⟩;simp[part,hagg,hu0]
def Vv {f:Field} (hty:rq P f.type i) (X:Cx CR c h w ev ρ) {s:TypeId} {fs:Array Field} {k:Nat} (hs:P.underlying s=some (.struct fs)) (hf:fs[k]? =some f)
 {a:MA} {x:Operand} (ho:o.op= .field s x k) (ha:aW a x=true) {n:Nat} (hn:n=i.size) {agg:Bool} (hg:agg=i.kd.isRow):
 aI P CR c h w (step ev h (.fld a f.offset n agg)) ((execOp ρ o).run P w):=by
 show aI P CR c h w (match ev a with
  | .ag l=>match sub l f.offset n with|some c=>ig h (iQ agg c)|none=> .bad
  |_=> .bad) _
 have hv:=X.hE _ _ ha;cases hx:ev a with
 |ag l=>
  rw[hx] at hv;generalize hr:ρ x=vx at hv;cases hv with
  |ag _ vs hvs=>
   dsimp only;cases hsub:sub l f.offset n with
   |none=>trivial
   |some cs=>
    dsimp only;unfold ig;cases hy:iQ agg cs with
    |none=>trivial
    |some y=>
     rw[hg] at hy;obtain⟨v,h1,h2⟩:=mQ (w:=w) hty hvs hsub hn hy;have e:(execOp ρ o).run P w= .ok (.value v) w:=by
      simp only[execOp,ho];refine d9 ?_;rw[hr];simp[Instr.field,run_underlying hs,hf,asAgg,h1]
     rw[e];exact cy.same X.rs h2
 |_=>trivial
def Ra {e:TypeId} (hty:rq P e i) (X:Cx CR c h w ev ρ) {t:TypeId} (ht:P.underlying t=some (.slice e)) {a b:MA} {x y:Operand} (ho:o.op= .indexAddr t x y) (ha:aW a x=true) (hb:aW b y=true) {es:Nat} (hes:es=i.size):
 aI P CR c h w (step ev h (.iadr es a b)) ((execOp ρ o).run P w):=by
 show aI P CR c h w (match nA ev b with
  |some k=>match ev a with
   | .sl o off n _ esz=>bif Nat.beq esz es&&Nat.ble (Nat.succ k) n then fN (off+k*esz) fun a=> .v (.p o a) h else .bad
   | .ds l off n esz=>bif Nat.beq esz es&&Nat.ble (Nat.succ k) n then fN (off+k*esz) fun a=> .v (.dp l a) h else .bad
   |_=> .bad
  |none=> .bad) _
 have hv:=X.hE _ _ ha;obtain⟨inf,zv,i1,i2,_⟩:=hty.info;cases hn:nA ev b with
 |none=>trivial
 |some k=>
  obtain⟨q,hk⟩:=oz X hb hn;have key:∀(A:Addr) (n cap bl k0:Nat),ρ x= .slice (some A) n cap ->k<n ->A=⟨bl,k0,none⟩ ->(execOp ρ o).run P w= .ok (.value (.pointer (some ⟨bl,k0+k*es,none⟩))) w:=by
   intro A n cap bl k0 hr hlt hA;subst hA;simp only[execOp,ho];refine d9 ?_;rw[hr,hk];simp[Instr.indexAt,asIntOf,run_underlying ht,Go.sizeOf,typeInfo,i1,i2,hes,hlt,Addr.add_mid]
  dsimp only;cases hx:ev a with
  |sl o' off n cap esz=>
   rw[hx] at hv;generalize hr:ρ x=vx at hv;cases hv with
   |sl _ _ _ _ _ A cp q1 q2 q3 q4 q5=>
    dsimp only;cases hc:(Nat.beq esz es&&Nat.ble (Nat.succ k) n) with
    |false=>trivial
    |true=>
     simp only[av,az,aQ,decide_eq_true_eq] at hc;obtain⟨rfl,hlt⟩:=hc;simp only[cond_true,bR];rw[key A n cp _ _ hr hlt (q4 ω)];refine cy.same X.rs ?_;have:(⟨(c.ρ o').1,(c.ρ o').2+off+k*esz,none⟩:Addr)=c.addr o' (off+k*esz):=by simp[CE.addr,oY]
     rw[this];exact .p _ _ q1
  |ds l off n esz=>
   rw[hx] at hv;generalize hr:ρ x=vx at hv;cases hv with
   |ds _ _ _ _ b1 b2 cp A row vs q1 q2 q3 q4 q5=>
    dsimp only;cases hc:(Nat.beq esz es&&Nat.ble (Nat.succ k) n) with
    |false=>trivial
    |true=>
     simp only[av,az,aQ,decide_eq_true_eq] at hc;obtain⟨rfl,hlt⟩:=hc;simp only[cond_true,bR];rw[key A n cp _ _ hr hlt (q5 ω),oY];exact cy.same X.rs (.dp _ _ _ _ row vs q1 q2 q3)
  |_=>trivial
def LM {e:TypeId} (hty:rq P e i) (X:Cx CR c h w ev ρ) {t:TypeId} {n:Nat} (ht:P.underlying t=some (.array n e)) {a b:MA} {x y:Operand} (ho:o.op= .indexAddr t x y) (ha:aW a x=true) (hb:aW b y=true) {es:Nat} (hes:es=i.size):
 aI P CR c h w (step ev h (.iadra n es a b)) ((execOp ρ o).run P w):=by
 show aI P CR c h w (match nA ev b with
  |some k=>bif Nat.ble (Nat.succ k) n then (match ev a with
   | .p o off=>fN (off+k*es) fun a=> .v (.p o a) h
   | .dp l off=>fN (off+k*es) fun a=> .v (.dp l a) h
   |_=> .bad) else .bad
  |none=> .bad) _
 have hv:=X.hE _ _ ha;obtain⟨inf,zv,i1,i2,_⟩:=hty.info;cases hn:nA ev b with
 |none=>trivial
 |some k=>
  obtain⟨q,hk⟩:=oz X hb hn;dsimp only;cases hc:Nat.ble (Nat.succ k) n with
  |false=>trivial
  |true=>
   rw[aQ] at hc;have hlt:k<n:=of_decide_eq_true hc;simp only[cond_true];have key:∀(bl k0:Nat),ρ x= .pointer (some ⟨bl,k0,none⟩) ->(execOp ρ o).run P w= .ok (.value (.pointer (some ⟨bl,k0+k*es,none⟩))) w:=by
    intro bl k0 hr;simp only[execOp,ho];refine d9 ?_;rw[hr,hk];simp[Instr.indexAt,asIntOf,run_underlying ht,Instr.sureAddr,Go.sizeOf,typeInfo,i1,i2,hes,hlt,Addr.add_mid]
   cases hx:ev a with
   |p o' off=>
    rw[hx] at hv;generalize hr:ρ x=vx at hv;cases hv with
    |p _ _ q1=>
     simp only[bR];rw[key _ _ hr];refine cy.same X.rs ?_;have:(⟨(c.ρ o').1,(c.ρ o').2+off+k*es,none⟩:Addr)=c.addr o' (off+k*es):=by simp[CE.addr,oY]
     rw[this];exact .p _ _ q1
   |dp l off=>
    rw[hx] at hv;generalize hr:ρ x=vx at hv;cases hv with
    |dp _ _ b1 b2 row vs q1 q2 q3=>
     simp only[bR];rw[key _ _ hr,oY];exact cy.same X.rs (.dp _ _ _ _ row vs q1 q2 q3)
   |_=>trivial
def Rb (X:Cx CR c h w ev ρ) {t:TypeId} (ht:P.underlying t=some .string) {a b:MA} {x y:Operand} (ho:o.op= .index t x y) (ha:aW a x=true) (hb:aW b y=true):
 aI P CR c h w (step ev h (.idxs a b)) ((execOp ρ o).run P w):=by
 show aI P CR c h w (match nA ev b,ev a with
  |some k,.s l=>match CT l k with|some b=> .v (.i .u8 (.ofNat b)) h|none=> .bad
  |_,_=> .bad) _
 have hv:=X.hE _ _ ha;cases hn:nA ev b with
 |none=>trivial
 |some k=>
  obtain⟨q,hk⟩:=oz X hb hn;cases hx:ev a with
  |s l=>
   rw[hx] at hv;obtain⟨bs,hr,hbs⟩:=hv.str_inv;dsimp only;rw[Bq];cases hl:l[k]? with
   |none=>trivial
   |some u=>
    dsimp only;have h1:∃u8,bs[k]? =some u8/\ u8.toNat=u:=by
     rw[←hbs,lX] at hl;cases hz:bs.data.toList[k]? with
     |none=>rw[hz] at hl;cases hl
     |some u8=>
      rw[hz] at hl;refine⟨u8,?_,by simpa using hl⟩;have hlt:=(cW.1 hz).1;have:k<bs.size:=by simpa using hlt
      rw[getElem?_pos bs k this];have e2:=(cW.1 hz).2;rw[←e2];rfl
    obtain⟨u8,h2,rfl⟩:=h1;have e:(execOp ρ o).run P w= .ok (.value (.int .u8 (u8.toNat:Int))) w:=by
     simp only[execOp,ho];refine d9 ?_;rw[hr,hk];simp[Instr.index,asIntOf,run_underlying ht,h2]
    rw[e];exact cy.same X.rs (.i _ _)
  |_=>trivial
def Rc {e:TypeId} (hty:rq P e i) (X:Cx CR c h w ev ρ) {t:TypeId} {n:Nat} (ht:P.underlying t=some (.array n e)) {a b:MA} {x y:Operand} (ho:o.op= .index t x y) (ha:aW a x=true) (hb:aW b y=true) {es:Nat} (hes:es=i.size) {agg:Bool} (hg:agg=i.kd.isRow):
 aI P CR c h w (step ev h (.idxa n es agg a b)) ((execOp ρ o).run P w):=by
 show aI P CR c h w (match nA ev b,ev a with
  |some k,.ag l=>bif Nat.ble (Nat.succ k) n then (match sub l (k*es) es with|some c=>ig h (iQ agg c)|none=> .bad) else .bad
  |_,_=> .bad) _
 have hv:=X.hE _ _ ha;obtain⟨inf,zv,i1,i2,_⟩:=hty.info;cases hn:nA ev b with
 |none=>trivial
 |some k=>
  obtain⟨q,hk⟩:=oz X hb hn;cases hx:ev a with
  |ag l=>
   rw[hx] at hv;generalize hr:ρ x=vx at hv;cases hv with
   |ag _ vs hvs=>
    dsimp only;cases hc:Nat.ble (Nat.succ k) n with
    |false=>trivial
    |true=>
     rw[aQ] at hc;have hlt:k<n:=of_decide_eq_true hc;simp only[cond_true];cases hsub:sub l (k*es) es with
     |none=>trivial
     |some cs=>
      dsimp only;unfold ig;cases hy:iQ agg cs with
      |none=>trivial
      |some z=>
       rw[hg] at hy;obtain⟨v,h1,h2⟩:=mQ (w:=w) hty hvs hsub hes hy;have e:(execOp ρ o).run P w= .ok (.value v) w:=by
        simp only[execOp,ho];refine d9 ?_;rw[hr,hk];rw[hes] at h1;simp[Instr.index,asIntOf,run_underlying ht,Go.sizeOf,typeInfo,i1,i2,hlt,h1]
       rw[e];exact cy.same X.rs h2
  |_=>trivial
end
end
end AM
