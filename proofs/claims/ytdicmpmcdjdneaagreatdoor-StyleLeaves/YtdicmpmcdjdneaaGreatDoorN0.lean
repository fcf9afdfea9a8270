import Derived.Deep.AppendSrc
import Derived.Deep.MidRow
import Derived.Great.BuildSlice
import Derived.IntWalk
import Derived.KernelRfl
import Derived.Laws.MakeOwn
import Derived.Laws.Sem
import Derived.Laws.StructEq
import Derived.LoopNIn
import Derived.OrdersIn
import Derived.RangeFuncIn
import GoSem.Step
set_option linter.all false
namespace AM
open Go
def ω{p:Prop}(h:p:=by omega):p:=h
def xz:=@List.ext_getElem?
def rI:=@List.getElem?_eq_none
def uc:=@List.replicate_succ
def vD:=@List.flatten_cons
def bB:=@Nat.le_refl
def rJ:=@Nat.pow_le_pow_right
def ji:=@List.length_nil
def Ca:=@Nat.lt_of_le_of_lt
def Ft:=@Nat.div_le_self
def Fu:=@Nat.and_one_is_mod
def aB:=@Bool.and_eq_true
def Ll:=@List.mem_flatMap
def sV:=@List.mem_map
def eC:=@List.getElem?_eq_some_iff
def fX:=@List.all_eq_true
def mA:=@List.mem_range
def gB:=@Nat.zero_add
def lE:=@List.flatMap_cons
def dy:=@List.length_append
def gJ:=@List.length_cons
def vE:=@Nat.succ_mul
def ud:=@List.drop_drop
def ni:=@Nat.mul_le_mul_right
def Lm:=@List.drop_append_of_le_length
def Ln:=@List.take_append_of_le_length
def sU:=@List.length_drop
def gw:=@List.cons_append
def Lo:=@List.flatMap_def
def ef:=@List.getElem?_eq_getElem
def nj:=@Bool.and_eq_true_iff
def A7:=@Bool.and_self
def jk:=@Bool.not_true
def qG:=@Nat.eq_of_beq_eq_true
def Fv:=@List.getElem?_cons_succ
def mB:=@List.getElem?_drop
def fv:=@Bool.cond_eq_ite
def pK:=@Nat.add_assoc
def nq:=@Nat.add_mul
def Fw:=@Option.isNone_none
def kU:=@List.length_map
def jW:=@Array.ext'
def pL:=@List.getElem?_append_left
def Cb:=@Nat.mod_eq_of_lt
def rK:=@List.getElem?_append_right
def xA:=@List.length_flatten
def vF:=@Nat.eq_zero_or_pos
def jv:=@Nat.mod_lt
def zy:=@List.size_toArray
def zA:=@Nat.mul_le_mul
def ey:=@List.mem_cons
def jG:=@List.mem_cons_self
def jw:=@List.mem_cons_of_mem
def Fx:=@List.filter_cons
def Fy:=@Bool.not_false
def nr:=@Bool.false_eq_true
def tJ:=@Array.getElem?_eq_getElem
def qH:=@Option.map_some
def Fz:=@Array.getElem?_setIfInBounds_ne
def jX:=@Array.getElem?_eq_some_iff
def oh:=@List.getElem?_map
def vG:=@Nat.add_zero
def ez:=@Result.andThen_ok
def yC:=@List.mem_singleton
def jY:=@List.map_cons
def xB:=@Bool.eq_iff_iff
def jH:=@Bool.not_eq_true'
def zB:=@List.range_eq_range'
def Cc:=@List.range'_succ
def zC:=@Bool.false_or
def xD:=@List.pairwise_cons
def Lp:=@List.getElem?_cons_zero
def dI:=@List.mem_of_getElem?
def fO:=@List.mem_append
def qI:=@Nat.lt_succ_self
def vH:=@Nat.mul_one
def jZ:=@List.getElem?_take
def pM:=@List.eq_nil_of_length_eq_zero
def FB:=@List.getElem?_toArray
def gx:=@List.nil_append
def vI:=@Array.getElem?_toList
def ja:=@Bool.or_eq_true
def xE:=@List.all_cons
def pN:=@Option.getD_some
def kE:=@List.map_append
def ue:=@Nat.zero_mul
def Bd:=@List.flatMap_append
def vJ:=@List.take_append_drop
def jm:=@List.length_take
def kF:=@Nat.min_eq_left
def iR:=@Nat.lt_of_lt_of_le
def qJ:=@Int.natCast_zero
def Cd:=@List.getElem?_zipIdx
def ny:=@List.length_zipIdx
def Ce:=@Bool.not_eq_true
def kX:=@List.getD_eq_getElem?_getD
def lF:=@List.length_singleton
def qK:=@List.any_eq_true
def P6:=@List.any_eq_false
def pO:=@List.flatMap_singleton
def zD:=@List.range_succ
def xF:=@List.getElem?_set
def hZ:=@List.append_assoc
def Lr:=@List.drop_eq_getElem_cons
def zE:=@List.nodup_append
def mR:=@List.take_length
def Cf:=@List.take_zero
def lG:=@List.append_nil
def xG:=@List.length_pos_iff
def xH:=@List.foldl_append
def bH3:=@List.foldl_nil
def Lt:=@List.sum_cons
def FD:=@Nat.testBit_or
def Lu:=@List.map_map
def vK:=@List.length_set
def FF:=@List.mem_or_eq_of_mem_set
def vM:=@List.take_of_length_le
def X2:=@List.map_congr_left
def sX:=@List.mem_iff_getElem
def rM:=@Bool.cond_decide
def FG:=@List.sum_append
def uf:=@List.map_nil
def FH:=@Array.getElem?_modify
def pP:=@Bool.and_false
def xI:=@List.mem_append_left
def FI:=@List.mem_append_right
def Cg:=@Nat.testBit_and
def Ch:=@Array.getElem?_push_lt
def fJ:=@Nat.le_trans
def FJ:=@Nat.succ_le_iff
def nB:=@Int.ofNat_eq_natCast
def Si:=@Bool.and_true
def iO:=@Nat.lt_or_ge
def Im:=@Nat.le_of_lt
def xJ:=@Nat.le_add_right
def Ci:=@Bool.or_eq_false_iff
def Cj:=@Nat.le_max_left
def Ck:=@Nat.le_max_right
def zF:=@Nat.le_total
def sY:=@Nat.min_eq_right
def av5:=@Nat.zero_min
def oi:=@Nat.zero_le
def nD:=@Nat.le_succ
def FO:=@List.nodup_cons
def Cm:=@Nat.min_self
def FP:=@List.drop_of_length_le
def Ro:=@Nat.min_le_left
def FQ:=@List.length_eq_zero_iff
def pQ:=@Bool.false_and
def uh:=@Bool.true_and
def qL:=@List.any_cons
def Co:=@Nat.one_le_two_pow
def Cq:=@Nat.pow_succ'
def X3:=@List.idxOf_cons
def FR:=@Nat.ble_eq_true_of_le
def FT:=@Nat.le_of_ble_eq_true
def ui:=@Nat.lt_succ_of_lt
def Lx:=@Array.size_eq_zero_iff
def uj:=@List.any_nil
def FU:=@List.all_nil
def lR{α:Sort _}{a b:α}(h:a=b:=by kernel_rfl):a=b:=h
def cE{p:Prop}(h:¬p:=by omega):p=False:=eq_false h
def cJ{p:Prop}(h:p:=by omega):p=True:=eq_true h
def aU:=@decide_eq_true_eq
def ec:=@And.intro
def aD:=@if_neg
def aF:=@if_pos
def dQ:=@eq_false
def fq:=@eq_true
def bV:=@if_false
def dZ:=@if_true
def bh:=@absurd
def eU:=@cond_false
def fC:=@cond_true
def gC:=@Option.some.inj
def ot:=@decide_eq_false
def zG:=@decide_eq_true
def Cr:=@decide_eq_false_iff_not
def dz:=@Go.Sem.run_bind
def ig:=@Go.Sem.run_pure
def dL:=@Go.run_underlying
def nE:=@Go.Addr.add_mid
def qM:=@of_decide_eq_true
def jI:=@Option.some.injEq
def mC:=@decide_true
def mD:=@beq_iff_eq
def Cs:=@List.length_replicate
def zH:=@List.foldl_cons
def uk:=@Classical.byContradiction
def xK:=@Prod.mk.injEq
def zI:=@Nat.min_le_right
def vN:=@Go.CallsIn.mono
def sZ:=@Go.wpIn_mono
def Ct:=@Go.run_firstCells_some
def Cu:=@Go.run_firstCells_none
inductive T (α:Type) where
 |e:T α
 |n (l:T α) (v:Option α) (r:T α):T α
 deriving Inhabited
namespace T
variable {α:Type}
noncomputable def get (t:T α):Nat ->Option α:=
 T.rec (motive:=λ_=>Nat ->Option α) (λ_=>none)
  (λ_ v _ gl gr k=>Bool.rec (Bool.rec (gr (Nat.sub (Nat.div k 2) 1)) (gl (Nat.div k 2)) (Nat.beq (Nat.mod k 2) 1)) v (Nat.beq k 0)) t
noncomputable def one (x:α) (f:Nat):Nat ->T α:=
 Nat.rec (motive:=λ_=>Nat ->T α) (λ_=> .e)
  (λ_ ih k=>Bool.rec (Bool.rec (.n .e none (ih (Nat.sub (Nat.div k 2) 1))) (.n (ih (Nat.div k 2)) none .e) (Nat.beq (Nat.mod k 2) 1)) (.n .e (some x) .e) (Nat.beq k 0)) f
noncomputable def setK {R:Type} (t:T α):Nat ->α ->(T α ->R) ->R:=
 T.rec (motive:=λ_=>Nat ->α ->(T α ->R) ->R) (λk x c=>c (one x (Nat.succ k) k))
  (λl v r sl sr k x c=>Bool.rec (Bool.rec (sr (Nat.sub (Nat.div k 2) 1) x λr'=>c (.n l v r')) (sl (Nat.div k 2) x λl'=>c (.n l' v r)) (Nat.beq (Nat.mod k 2) 1)) (c (.n l (some x) r)) (Nat.beq k 0)) t
end T
inductive AV where
 |b (x:Bool)
 |i (k:IntKind) (n:Int)
 |s (l:List Nat)
 |p (o off:Nat)
 |pn
 |dp (l:List AV) (off:Nat)
 |sl (o off len:Nat) (cap:Option Nat) (esz:Nat)
 |sn
 |ds (l:List AV) (off len esz:Nat)
 |m (o:Nat)
 |mn
 |f (fn:Nat) (fi ca:List AV)
 |y (l:Nat)
 |fnil
 |ifc (t:TypeId) (v:AV)
 |ifn
 |ag (l:List AV)
 |tu (l:List AV)
 |un
 deriving Inhabited
abbrev ι(n:Int):AV:=.i .i64 n
inductive MA where
 |t (n:Nat)
 |c (v:AV)
 |g (n:Nat)
 deriving Inhabited
inductive Ly where
 |str|arr (n:Nat)|slice|map
 deriving Inhabited
inductive EK where
 |b|i|s|p|sl|m|f|ifc
 deriving Inhabited
inductive ET where
 |lf (k:EK)
 |ag (l:List (Nat×Nat×Bool×ET))
 deriving Inhabited
inductive Eb where
 |mv (a:MA)
 |pick (c a b:MA)
 |alloc (z:List AV)
 |box (a:MA) (n:Nat)
 |build (z:List AV) (ps:List (Nat×Nat×MA))
 |bslice (z:List AV) (len esz:Nat) (ps:List (Nat×Nat×MA))
 |load (a:MA) (n:Nat) (agg:Bool)
 |store (a v:MA) (n:Nat)
 |nilc (a:MA)
 |bin (op:BinOp) (x y:MA)
 |eqv (ne:Bool) (e:ET) (x y:MA)
 |un (op:UnOp) (x:MA)
 |cvi (k:IntKind) (x:MA)
 |s2b (x:MA)|b2s (x:MA)
 |mif (t:TypeId) (x:MA)
 |mfn (fn:Nat) (fi ca:List MA)
 |mmap (r:Option MA)
 |mslice (z:List AV) (esz bytes:Nat) (l c:MA)
 |slc (esz:Nat) (x:MA) (lo hi mx:Option MA)
 |slcs (x:MA) (lo hi:Option MA)
 |fadr (x:MA) (off:Nat)
 |fld (x:MA) (off n:Nat) (agg:Bool)
 |iadr (esz:Nat) (x i:MA)
 |iadra (n esz:Nat) (x i:MA)
 |idxs (x i:MA)
 |look (e:ET) (m k:MA) (z:AV) (ok:Bool)
 |mupd (e:ET) (m k v:MA)
 |ment (e:ET) (m k:MA) (z:AV)
 |mest (m s v:MA)
 |rng (x:MA) (str:Bool)
 |nxt (x:MA) (isStr:Bool)
 |ent (x:MA)
 |ext (x:MA) (i:Nat)
 |call (f:Nat) (args:List MA)
 |callv (f:MA) (args:List MA)
 |calli (r:MA) (tbl:List (Nat×Nat)) (args:List MA)
 |app (s x:MA) (esz bytes:Nat)
 |appz (s x:MA) (esz bytes:Nat) (z:List AV)
 |len (k:Ly) (x:MA)
 |cap (x:MA)
 |min (l:List MA)|max (l:List MA)
 |tbx (T:Nat) (a:MA)
 |tst (a v:MA) (n:Nat)
 |tld (a:MA) (n:Nat) (agg:Bool)
 |tap (T:Nat) (s x:MA) (esz bytes:Nat)
 |cvp (x:MA)
 |cvu (tbl:List (Nat×Nat×Nat)) (x:MA)
 |usd (x:MA)
 |ust (T:Nat) (p n:MA)
 |bad (why:Nat)
 deriving Inhabited
structure MG where
 dst:Option Nat
 op:Eb
 guard:Option (Nat×Bool)
 deriving Inhabited
inductive DI where
 |light (i:Nat) (g:MG)
 |resv (i k:Nat) (g:MG)
 |lay (i:Nat)
 |heavy (i:Nat) (g:MG) (mask:Nat)
 deriving Inhabited
inductive aw where
 |skip
 |ops (l:List MG)
 |draw (n:Nat) (l:List DI)
 |dfr (l:List MG) (x:MA) (fn:Nat)
 |seq (a b:aw)
 |cond (c:MA) (a b:aw)
 |block (id:Nat) (c:aw)
 |loop (c:aw)
 |rfun (f:MA) (params:List Nat) (assign body:aw)
 |exit (id:Nat)
 |ret
 |bad (why:Nat)
 deriving Inhabited
structure au where
 ntmps:Nat
 res:List (Nat×Option (Nat×Bool))
 body:aw
 deriving Inhabited
inductive bC where
 |cells (ver:Nat) (l:List AV)
 |tc (T:Nat) (whole:Bool) (l:List AV)
 |map (ver:Nat) (es:List (AV×AV×Nat)) (clock:Nat)
 |sit (l:List Nat) (pos:Nat)
 |mit (m:Option Nat) (since:Nat) (seen:List Nat) (stepped:Nat)
 |loop (params:List Nat) (assign body:aw) (env:T AV) (st:Nat) (pend:Option (Option Nat))
 |gone
 deriving Inhabited
structure AH where
 next:Nat
 ver:Nat
 oB:T bC
 deriving Inhabited
inductive pS where
 |normal
 |exit (id:Nat)
 |ret
 deriving Inhabited
inductive da where
 |v (x:AV) (h:AH)
 |call (f:Nat) (args:List AV) (h:AH)
 |yld (l:Nat) (args:List AV) (h:AH)
 |alts (l:List (AV×AH))
 |bad
 deriving Inhabited
end AM
namespace AM
open Go
noncomputable section
section force
variable {R:Type}
def fN (n:Nat) (k:Nat ->R):R:=Nat.rec (motive:=λ_=>R) (k 0) (λm _=>k (Nat.succ m)) n
def fB (b:Bool) (k:Bool ->R):R:=Bool.rec (motive:=λ_=>R) (k false) (k true) b
def fI (n:Int) (k:Int ->R):R:=Int.rec (motive:=λ_=>R) (λa=>fN a λa=>k (.ofNat a)) (λa=>fN a λa=>k (.negSucc a)) n
def fV (v:AV) (k:AV ->R):R:=
 match v with
 | .b x=>k (.b x)| .i q n=>k (.i q n)| .s l=>k (.s l)| .p o a=>k (.p o a)| .pn=>k .pn| .dp l a=>k (.dp l a)
 | .sl o a n c e=>k (.sl o a n c e)| .sn=>k .sn| .ds l a n e=>k (.ds l a n e)| .m o=>k (.m o)| .mn=>k .mn| .f g a b=>k (.f g a b)
 | .y l=>k (.y l)| .fnil=>k .fnil| .ifc t v=>k (.ifc t v)| .ifn=>k .ifn| .ag l=>k (.ag l)| .tu l=>k (.tu l)| .un=>k .un
end force
section lists
variable {α β:Type}
def sw (l:List α):Nat ->Option α:=
 List.rec (motive:=λ_=>Nat ->Option α) (λ_=>none) (λa _ j n=>Nat.rec (motive:=λ_=>Option α) (some a) (λm _=>j m) n) l
def len (l:List α):Nat:=List.rec (motive:=λ_=>Nat ->Nat) (λn=>n) (λ_ _ j n=>fN n λn=>j (Nat.succ n)) l 0
def fy (l m:List α):Option (List α):=List.rec (motive:=λ_=>Option (List α)) (some m) (λa _ j=>Option.rec (motive:=λ_=>Option (List α)) none (λt=>some (a::t)) j) l
def eM (f:α ->Option β) (l:List α):Option (List β):=
 List.rec (motive:=λ_=>Option (List β)) (some []) (λa _ j=>Option.rec (motive:=λ_=>Option (List β)) none (λb=>Option.rec (motive:=λ_=>Option (List β)) none (λt=>some (b::t)) j) (f a)) l
def FV (l:List α):Nat ->Option (List α):=
 List.rec (motive:=λ_=>Nat ->Option (List α)) (λn=>Nat.rec (motive:=λ_=>Option (List α)) (some []) (λ_ _=>none) n)
  (λa t j n=>Nat.rec (motive:=λ_=>Option (List α)) (some (a::t)) (λm _=>j m) n) l
def xL (l:List α):Nat ->Option (List α):=
 List.rec (motive:=λ_=>Nat ->Option (List α)) (λn=>Nat.rec (motive:=λ_=>Option (List α)) (some []) (λ_ _=>none) n)
  (λa _ j n=>Nat.rec (motive:=λ_=>Option (List α)) (some []) (λm _=>Option.rec (motive:=λ_=>Option (List α)) none (λt=>some (a::t)) (j m)) n) l
def sub (l:List α) (j n:Nat):Option (List α):=
 Option.rec (motive:=λ_=>Option (List α)) none (λt=>xL t n) (FV l j)
def oZ (c:List α):List α ->Option (List α):=
 List.rec (motive:=λ_=>List α ->Option (List α)) (λl=>some l)
  (λx _ j l=>List.casesOn (motive:=λ_=>Option (List α)) l none λ_ t=>Option.rec (motive:=λ_=>Option (List α)) none (λr=>some (x::r)) (j t)) c
def eL (c:List α) (l:List α):Nat ->Option (List α):=
 List.rec (motive:=λ_=>Nat ->Option (List α)) (λn=>Nat.rec (motive:=λ_=>Option (List α)) (oZ c []) (λ_ _=>none) n)
  (λa t j n=>Nat.rec (motive:=λ_=>Option (List α)) (oZ c (a::t)) (λm _=>Option.rec (motive:=λ_=>Option (List α)) none (λr=>some (a::r)) (j m)) n) l
def rN (z:List α) (n:Nat):Option (List α):=Nat.rec (motive:=λ_=>Option (List α)) (some []) (λ_ j=>Option.rec (motive:=λ_=>Option (List α)) none (λt=>fy z t) j) n
end lists
def nF (x:List Nat):List Nat ->Bool:=
 List.rec (motive:=λ_=>List Nat ->Bool) (λy=>List.casesOn (motive:=λ_=>Bool) y true λ_ _=>false)
  (λa _ j y=>List.casesOn (motive:=λ_=>Bool) y false λb t=>Bool.rec false (j t) (Nat.beq a b)) x
def ul (x:List Nat):List Nat ->Bool:=
 List.rec (motive:=λ_=>List Nat ->Bool) (λy=>List.casesOn (motive:=λ_=>Bool) y false λ_ _=>true)
  (λa _ j y=>List.casesOn (motive:=λ_=>Bool) y false λb t=>Bool.rec (Bool.rec false (j t) (Nat.beq a b)) true (Nat.ble (Nat.succ a) b)) x
def eO:Int ->Int ->Bool
 | .ofNat a,.ofNat b=>Nat.beq a b
 | .negSucc a,.negSucc b=>Nat.beq a b
 |_,_=>false
def fD:Int ->Int ->Bool
 | .ofNat a,.ofNat b=>Nat.ble (Nat.succ a) b
 | .negSucc a,.negSucc b=>Nat.ble (Nat.succ b) a
 | .negSucc _,.ofNat _=>true
 | .ofNat _,.negSucc _=>false
def dN (k:IntKind) (n:Int):Int:=
 match n with
 | .ofNat a=>match k with
  | .i64=>bif Nat.ble a 9223372036854775807 then .ofNat a else k.wrap (.ofNat a)
  | .u64=>bif Nat.ble a 18446744073709551615 then .ofNat a else k.wrap (.ofNat a)
  | .u8=>bif Nat.ble a 255 then .ofNat a else k.wrap (.ofNat a)
  |_=>k.wrap (.ofNat a)
 | .negSucc a=>match k with
  | .i64=>bif Nat.ble a 9223372036854775807 then .negSucc a else k.wrap (.negSucc a)
  |_=>k.wrap (.negSucc a)
def ff:AV ->Option Nat
 | .i _ (.ofNat n)=>some n
 |_=>none
def cellsOf:AV ->List AV
 | .ag l=>l
 |v=>[v]
def cellsO:AV ->Option (List AV)
 | .ag l=>some l
 | .tu _=>none
 | .un=>none
 |v=>some [v]
def ew:AV ->Bool
 | .ag _=>false
 | .tu _=>false
 | .un=>false
 |_=>true
def wV (l:List AV):Bool:=List.rec (motive:=λ_=>Bool) true (λa _ j=>Bool.rec (motive:=λ_=>Bool) false j (ew a)) l
def dB (agg:Bool) (l:List AV):Option AV:=
 bif agg then some (.ag l) else match l with|[v]=>some v|_=>none
def ri (k:IntKind) (n:Int):Option AV:=fI n λn=>some (.i k n)
def rb (b:Bool):Option AV:=fB b λb=>some (.b b)
def m6:IntKind ->Nat
 | .i8=>127| .i16=>32767| .i32=>2147483647| .i64=>9223372036854775807
 | .u8=>255| .u16=>65535| .u32=>4294967295| .u64=>18446744073709551615
def gZ:IntKind ->IntKind ->Bool
 | .i64,.i64=>true| .u64,.u64=>true| .u8,.u8=>true| .i32,.i32=>true| .u32,.u32=>true| .u16,.u16=>true| .i16,.i16=>true| .i8,.i8=>true
 |_,_=>false
def bits (k:IntKind) (f:Nat ->Nat ->Nat) (g:BitVec k.bits ->BitVec k.bits ->BitVec k.bits):Int ->Int ->Option AV
 | .ofNat m,.ofNat n=>bif Nat.ble m (m6 k)&&Nat.ble n (m6 k) then ri k (Int.ofNat (f m n)) else ri k (k.wrap (g (BitVec.ofInt k.bits (.ofNat m)) (BitVec.ofInt k.bits (.ofNat n))).toNat)
 |a,b=>ri k (k.wrap (g (BitVec.ofInt k.bits a) (BitVec.ofInt k.bits b)).toNat)
def Ih (k:IntKind) (n:Nat):Nat:=Nat.pow 2 (bif Nat.ble n k.bits then n else k.bits)
def zJ (op:BinOp) (k k':IntKind) (a b:Int):Option AV:=
 match op with
 | .shl=>match b with
  | .ofNat n=>ri k (dN k (Int.mul a (Int.ofNat (Ih k n))))
  |_=>none
 | .shr=>match b,a with
  | .ofNat n,.ofNat m=>ri k (Int.ofNat (Nat.div m (Ih k n)))
  | .ofNat n,a=>ri k (a.fdiv (Int.ofNat (Ih k n)))
  |_,_=>none
 |op=>bif gZ k k' then (match op with
  | .add=>ri k (dN k (Int.add a b))
  | .sub=>ri k (dN k (Int.sub a b))
  | .mul=>ri k (dN k (Int.mul a b))
  | .eql=>rb (eO a b)
  | .neq=>rb (!(eO a b))
  | .lss=>rb (fD a b)
  | .leq=>rb (!(fD b a))
  | .gtr=>rb (fD b a)
  | .geq=>rb (!(fD a b))
  | .quo=>bif eO b 0 then none else ri k (dN k (a.tdiv b))
  | .rem=>bif eO b 0 then none else ri k (a.tmod b)
  | .and=>bits k Nat.land (λx y=>x&&&y) a b
  | .or=>bits k Nat.lor (λx y=>x|||y) a b
  | .xor=>bits k Nat.xor (λx y=>x^^^y) a b
  | .andNot=>ri k (k.wrap (BitVec.ofInt k.bits a&&&~~~(BitVec.ofInt k.bits b)).toNat)
  |_=>none) else none
def zK (op:BinOp) (a b:List Nat):Option AV:=
 match op with
 | .add=>bif Nat.ble (len a) 1048576&&Nat.ble (len b) 1048576 then (match fy a b with|some l=>some (.s l)|none=>none) else none
 | .eql=>rb (nF a b)
 | .neq=>rb (!(nF a b))
 | .lss=>rb (ul a b)
 | .leq=>rb (ul a b||nF a b)
 | .gtr=>rb (!(ul a b||nF a b))
 | .geq=>rb (!(ul a b))
 |_=>none
def aY (op:BinOp) (x y:AV):Option AV:=
 match x,y with
 | .i k a,.i k' b=>zJ op k k' a b
 | .s a,.s b=>zK op a b
 |_,_=>none
def rP:EK ->AV ->AV ->Option Bool
 | .b,.b x,.b y=>some (bif x then y else !y)
 | .i,.i k x,.i k' y=>bif gZ k k' then some (eO x y) else none
 | .s,.s x,.s y=>some (nF x y)
 | .p,.p o a,.p o' a'=>bif Nat.beq o o' then some (Nat.beq a a') else none
 | .p,.pn,.pn=>some true
 | .p,.p _ _,.pn=>some false
 | .p,.pn,.p _ _=>some false
 | .p,.dp _ _,.pn=>some false
 | .p,.pn,.dp _ _=>some false
 | .sl,.sn,.sn=>some true
 | .sl,.sl ..,.sn=>some false
 | .sl,.sn,.sl .. =>some false
 | .sl,.ds ..,.sn=>some false
 | .sl,.sn,.ds .. =>some false
 | .m,.mn,.mn=>some true
 | .m,.m _,.mn=>some false
 | .m,.mn,.m _=>some false
 | .f,.fnil,.fnil=>some true
 | .f,.f ..,.fnil=>some false
 | .f,.fnil,.f .. =>some false
 | .ifc,.ifn,.ifn=>some true
 | .ifc,.ifc ..,.ifn=>some false
 | .ifc,.ifn,.ifc .. =>some false
 |_,_,_=>none
def eH:Nat ->ET ->AV ->AV ->Option Bool
 |_,.lf k,x,y=>rP k x y
 |n+1,.ag l,.ag x,.ag y=>List.rec (motive:=λ_=>Option Bool) (some true) (λf _ j=>
  match sub x f.1 f.2.1,sub y f.1 f.2.1 with
  |some a,some b=>match dB f.2.2.1 a,dB f.2.2.1 b with
   |some a,some b=>match eH n f.2.2.2 a b with
    |some true=>j
    |r=>r
   |_,_=>none
  |_,_=>none) l
 |_,_,_,_=>none
def Pz (op:UnOp) (x:AV):Option AV:=
 match op,x with
 | .neg,.i k n=>ri k (dN k (Int.sub 0 n))
 | .not,.b b=>rb (!b)
 | .xor,.i k n=>ri k (k.wrap (BitVec.ofInt k.bits (if k.signed then -1 else k.max)^^^BitVec.ofInt k.bits n).toNat)
 |_,_=>none
namespace AH
def get (h:AH) (o:Nat):Option bC:=h.oB.get o
def new {R:Type} (h:AH) (o:bC) (c:Nat ->AH ->R):R:=
 match h with
 |⟨next,ver,oB⟩=>oB.setK next o λt=>fN next λm=>c m ⟨Nat.succ m,ver,t⟩
def put {R:Type} (h:AH) (n:Nat) (o:bC) (c:AH ->R):R:=
 match h with
 |⟨next,ver,oB⟩=>oB.setK n o λt=>fN ver λver=>c ⟨next,Nat.succ ver,t⟩
def cells (h:AH) (o:Nat):Option (List AV):=
 match h.get o with|some (.cells _ l)=>some l|_=>none
def rows (h:AH) (o:Nat):Option (List AV):=
 match h.get o with|some (.cells _ l)=>some l|some (.tc _ _ l)=>some l|_=>none
end AH
def eI (h:AH) (esz:Nat):AV ->Option (List AV)
 | .sl o off n _ e=>bif Nat.beq e esz then (match h.cells o with|some l=>sub l off (n*esz)|none=>none) else none
 | .ds l off n e=>bif Nat.beq e esz then sub l off (n*esz) else none
 | .sn=>some []
 | .s l=>bif Nat.beq esz 1 then eM (λb=>some (.i .u8 (.ofNat b))) l else none
 |_=>none
def ij:AV ->Option Nat
 | .sl _ _ n _ _=>some n
 | .ds _ _ n _=>some n
 | .sn=>some 0
 | .s l=>some (len l)
 |_=>none
def xM:AV ->Option Nat
 | .i .u8 (.ofNat n)=>bif Nat.ble n 255 then some n else none
 |_=>none
def mE (l:List AV):Option (List Nat):=eM xM l
def jx (t:ET) (k:AV) (l:List (AV×AV×Nat)):Option (Option (AV×AV×Nat)):=
 List.rec (motive:=λ_=>Option (Option (AV×AV×Nat))) (some none) (λe _ j=>match eH 6 t k e.1 with
  |some true=>some (some e)
  |some false=>j
  |none=>none) l
def d7 (len cap:Nat) (lo hi mx:Option (Option Nat)):Option (Nat×Nat×Nat):=
 match (match mx with|none=>some cap|some r=>r),(match hi with|none=>some len|some r=>r),(match lo with|none=>some 0|some r=>r) with
 |some m,some h,some l=>bif Nat.ble m cap&&Nat.ble h m&&Nat.ble l h then some (l,h,m) else none
 |_,_,_=>none
def Io (T:Option Nat) (ver:Nat) (l:List AV):bC:=match T with|none=> .cells ver l|some T=> .tc T false l
def Be (h:AH) (T:Option Nat) (o j:Nat):Option (List AV):=match T with
 |none=>h.cells o
 |some T=>match h.get o with|some (.tc T' _ l)=>bif Nat.beq T' T&&Nat.beq j 0 then some l else none|_=>none
def AF (h:AH) (T:Option Nat) (s:AV) (n:Nat) (new:List AV) (esz:Nat):da:=
 Nat.rec (motive:=λ_=>da) (match s with| .sn=> .v .sn h| .sl o a n c e=> .v (.sl o a n c e) h| .ds l a n e=> .v (.ds l a n e) h|_=> .bad) (λ_ _=>
 match s with
 | .sn=>bif Nat.ble n 1048576&&wV new then h.new (Io T h.ver new) λo h=>fN n λn=> .v (.sl o 0 n none esz) h else .bad
 | .sl o off ln cap e=>
  match Be h T o off with
  |none=> .bad
  |some l=>fN (ln+n) λj=>bif !(Nat.beq e esz&&(Nat.ble j 1048576&&wV new)) then .bad else
   match cap with
   |some c=>match T with
    |some _=> .bad
    |none=>bif Nat.ble j c then
     match eL new l (off+ln*esz) with
     |some l'=>h.put o (.cells (Nat.succ h.ver) l') λh=> .v (.sl o off j cap esz) h
     |none=> .bad
    else match sub l off (ln*esz) with
     |some old=>match fy old new with
      |some l=>h.new (.cells h.ver l) λo h=> .v (.sl o 0 j none esz) h
      |none=> .bad
     |none=> .bad
   |none=>match sub l off (ln*esz) with
    |some old=>match fy old new with
     |some l=>h.put o .gone λh=>h.new (Io T h.ver l) λo h=> .v (.sl o 0 j none esz) h
     |none=> .bad
    |none=> .bad
 |_=> .bad) n
def gD (h:AH) (s:AV) (n:Nat) (new:List AV) (esz:Nat):da:=AF h none s n new esz
def zL (T n j:Nat) (l:List (Nat×Nat×Nat)):Bool:=List.rec (motive:=λ_=>Bool) false (λe _ A=>Nat.beq e.1 T&&(Nat.beq e.2.1 n&&Nat.beq e.2.2 j)||A) l
def ik (ev:MA ->AV) (ps:List (Nat×Nat×MA)):List AV ->Option (List AV):=
 List.rec (motive:=λ_=>List AV ->Option (List AV)) (λl=>some l)
  (λp _ j l=>match cellsO (ev p.2.2) with
   |some c=>bif Nat.beq (len c) p.2.1 then (match eL c l p.1 with|some l=>j l|none=>none) else none
   |none=>none) ps
def dr (h:AH) (r:Option AV):da:=match r with|some x=> .v x h|none=> .bad
def jy (lt:Int ->Int ->Bool) (k:IntKind) (l:List AV):Int ->Option AV:=
 List.rec (motive:=λ_=>Int ->Option AV) (λa=>some (.i k a)) (λx _ j a=>match x with| .i _ b=>bif lt b a then j b else j a|_=>none) l
def En (et:ET) (k:AV):Bool:=match et with
 | .lf _=>true
 | .ag l=>match eH 6 (.ag l) k k with|some true=>true|_=>false
def zM:AV ->AV ->Bool
 | .b x,.b y=>x==y
 | .i k n,.i k' n'=>gZ k k'&&eO n n'
 | .s x,.s y=>nF x y
 | .p o a,.p o' a'=>Nat.beq o o'&&Nat.beq a a'
 | .pn,.pn=>true
 | .sn,.sn=>true
 | .mn,.mn=>true
 | .fnil,.fnil=>true
 | .ifn,.ifn=>true
 |_,_=>false
def jJ (l:List AV):List AV ->Bool:=
 List.rec (motive:=λ_=>List AV ->Bool) (λv=>List.isEmpty v) (λa _ j v=>match v with|[]=>false|u::r=>zM a u&&j r) l
def o9:AV ->AV ->Bool
 | .ag x,.ag y=>jJ x y
 |x,y=>zM x y
def mF (b:Nat) (x y:AV) (l:List (AV×AV×Nat)):Option (List (AV×AV×Nat)):=
 List.rec (motive:=λ_=>Option (List (AV×AV×Nat))) none
  (λe t j=>bif Nat.beq e.2.2 b then some ((x,y,e.2.2)::t) else match j with|some t=>some (e::t)|none=>none) l
def Bf (n:Nat) (l:List Nat):Bool:=List.rec (motive:=λ_=>Bool) false (λa _ j=>Nat.beq a n||j) l
def vQ (seen:List Nat) (l:List (AV×AV×Nat)):Option (List (AV×AV×Nat)):=
 List.rec (motive:=λ_=>Option (List (AV×AV×Nat))) (some []) (λe _ j=>bif Bf e.2.2 seen then j else match j with|some t=>some (e::t)|none=>none) l
def vR (j:Nat) (l:List (AV×AV×Nat)):Bool:=List.rec (motive:=λ_=>Bool) true (λe _ A=>Nat.ble (Nat.succ e.2.2) j&&A) l
def zN (seen:List Nat) (j:Nat) (A:List (AV×AV×Nat)):Bool:=match seen,A with
 |[],_=>true
 |_::_,[]=>true
 |_::_,e::_=>Nat.ble (Nat.succ e.2.2) j
def pU (b:Nat) (l:List (AV×AV×Nat)):Option (AV×AV×Nat):=
 List.rec (motive:=λ_=>Option (AV×AV×Nat)) none (λe _ j=>bif Nat.beq e.2.2 b then some e else j) l
def xN (t:Nat) (l:List (Nat×Nat)):Option Nat:=List.rec (motive:=λ_=>Option Nat) none (λe _ j=>bif Nat.beq e.1 t then some e.2 else j) l
def vS (h:AH) (o:Nat) (j:Bool):da:=match h.get o with
 |some (.sit l A)=>bif j then (match sw l A with
  |some b=>bif Nat.ble b 127 then (fN A λA=>h.put o (.sit l (Nat.succ A)) λh=> .v (.tu [.b true,.i .i64 (.ofNat A),.i .i32 (.ofNat b)]) h) else .bad
  |none=> .v (.tu [.b false]) h) else .bad
 |some (.mit none _ _ _)=>bif j then .bad else .v (.tu [.b false]) h
 |some (.mit (some m) since seen stepped)=>bif j then .bad else match h.get m with
  |some (.map _ es cl)=>bif !(zN seen stepped es) then .bad else match vQ seen es with
   |some left=>bif vR since left then (match left with
    |[]=> .v (.tu [.b false]) h
    |[e]=>match fy seen [e.2.2] with
     |some seen=>h.put o (.mit (some m) since seen cl) λh=> .v (.tu [.b true,e.1,e.2.1]) h
     |none=> .bad
    |l=>match eM (λ(e:AV×AV×Nat)=>match fy seen [e.2.2] with
     |some seen=>h.put o (.mit (some m) since seen cl) λh=>some (AV.tu [.b true,e.1,e.2.1],h)
     |none=>none) l with
     |some l=> .alts l
     |none=> .bad) else .bad
   |none=> .bad
  |_=> .bad
 |_=> .bad
def vT (h:AH) (o:Nat):da:=match h.get o with
 |some (.mit (some m) _ seen stepped)=>match h.get m with
  |some (.map _ es cl)=>match List.rec (motive:=λ_=>Option Nat ->Option Nat) (λr=>r) (λa _ j _=>j (some a)) seen none with
   |some b=>bif Nat.beq cl stepped then (match pU b es with|some e=> .v (.tu [e.1,e.2.1]) h|none=> .bad) else .bad
   |none=> .bad
  |_=> .bad
 |_=> .bad
section
variable (ev:MA ->AV)
def eE (l:List MA):Option (List AV):=eM (λa=>fV (ev a) some) l
def nA (a:MA):Option Nat:=ff (ev a)
def nO:Option MA ->Option (Option Nat)
 |none=>none
 |some a=>some (nA ev a)
def al1 (a:MA) (ev:MA ->AV) (h:AH):da:=fV (ev a) λx=> .v x h
def Ip (c a b:MA) (ev:MA ->AV) (h:AH):da:=match ev c with| .b x=>Bool.rec (motive:=λ_=>da) (fV (ev b) λx=> .v x h) (fV (ev a) λx=> .v x h) x|_=> .bad
def al3 (z:List AV) (ev:MA ->AV) (h:AH):da:=h.new (.cells h.ver z) λo h=> .v (.p o 0) h
def al4 (a:MA) (j:Nat) (ev:MA ->AV) (h:AH):da:=match cellsO (ev a) with|some l=>h.new (.cells h.ver l) λo h=> .v (.p o 0) h|none=> .bad
def al5 (z:List AV) (ps:List (Nat×Nat×MA)) (ev:MA ->AV) (h:AH):da:=match ik ev ps z with|some l=> .v (.ag l) h|none=> .bad
def al6 (z:List AV) (n esz:Nat) (ps:List (Nat×Nat×MA)) (ev:MA ->AV) (h:AH):da:=match ik ev ps z with
 |some l=>h.new (.cells h.ver l) λo h=> .v (.sl o 0 n (some n) esz) h
 |none=> .bad
def al7 (a:MA) (n:Nat) (agg:Bool) (ev:MA ->AV) (h:AH):da:=match ev a with
 | .p o off=>match h.cells o with
  |some l=>match sub l off n with|some c=>dr h (dB agg c)|none=> .bad
  |none=> .bad
 | .dp l off=>match sub l off n with|some c=>dr h (dB agg c)|none=> .bad
 |_=> .bad
def al8 (a x:MA) (n:Nat) (ev:MA ->AV) (h:AH):da:=match ev a with
 | .p o off=>match h.cells o with
  |some l=>fV (ev x) λx=>match eL (cellsOf x) l off with
   |some l'=>bif wV (cellsOf x)&&Nat.beq (len (cellsOf x)) n then h.put o (.cells (Nat.succ h.ver) l') λh=> .v .un h else .bad
   |none=> .bad
  |none=> .bad
 |_=> .bad
def al9 (a:MA) (ev:MA ->AV) (h:AH):da:=match ev a with
 | .p o a=> .v (.p o a) h
 | .dp l a=> .v (.dp l a) h
 | .f g a b=> .v (.f g a b) h
 | .y l=> .v (.y l) h
 | .ifc t v=> .v (.ifc t v) h
 | .m o=> .v (.m o) h
 |_=> .bad
def am0 (op:BinOp) (x y:MA) (ev:MA ->AV) (h:AH):da:=dr h (aY op (ev x) (ev y))
def am1 (ne:Bool) (e:ET) (x y:MA) (ev:MA ->AV) (h:AH):da:=match eH 6 e (ev x) (ev y) with|some r=> .v (.b (bif ne then !r else r)) h|none=> .bad
def am2 (op:UnOp) (x:MA) (ev:MA ->AV) (h:AH):da:=dr h (Pz op (ev x))
def am3 (k:IntKind) (x:MA) (ev:MA ->AV) (h:AH):da:=match ev x with| .i _ n=>dr h (ri k (dN k n))|_=> .bad
def am5 (x:MA) (ev:MA ->AV) (h:AH):da:=match ev x with
 | .s l=>match eM (λb=>some (AV.i .u8 (.ofNat b))) l with
  |some c=>fN (len l) λn=>h.new (.cells h.ver c) λo h=> .v (.sl o 0 n none 1) h
  |none=> .bad
 |_=> .bad
def am6 (x:MA) (ev:MA ->AV) (h:AH):da:=match ev x with
 | .s _=> .bad
 |y=>match eI h 1 y with
  |some l=>match mE l with|some b=> .v (.s b) h|none=> .bad
  |none=> .bad
def am7 (t:TypeId) (x:MA) (ev:MA ->AV) (h:AH):da:=fV (ev x) λx=> .v (.ifc t x) h
def am8 (fn:Nat) (a b:List MA) (ev:MA ->AV) (h:AH):da:=match eE ev a,eE ev b with|some a,some b=> .v (.f fn a b) h|_,_=> .bad
def am9 (r:Option MA) (ev:MA ->AV) (h:AH):da:=match r with
 |none=>h.new (.map h.ver [] 0) λo h=> .v (.m o) h
 |some a=>match ev a with| .i _ _=>h.new (.map h.ver [] 0) λo h=> .v (.m o) h|_=> .bad
def an0 (z:List AV) (esz j:Nat) (l c:MA) (ev:MA ->AV) (h:AH):da:=match nA ev l,nA ev c with
 |some l,some c=>bif Nat.ble l c&&Nat.ble c 1048576 then (match rN z c with
  |some r=>h.new (.cells h.ver r) λo h=> .v (.sl o 0 l (some c) esz) h
  |none=> .bad) else .bad
 |_,_=> .bad
def an3 (A:Nat) (x:MA) (lo hi mx:Option MA) (ev:MA ->AV) (h:AH):da:=match ev x with
 | .sl o j n cap esz=>bif !(Nat.beq esz A) then .bad else match cap with
  |some c=>match d7 n c (nO ev lo) (nO ev hi) (nO ev mx) with
   |some (l,r,m)=>fN (j+l*esz) λj=>fN (r-l) λn=>fN (m-l) λc=> .v (.sl o j n (some c) esz) h
   |none=> .bad
  |none=>match mx with
   |none=>match d7 n n (nO ev lo) (nO ev hi) none with
    |some (l,r,_)=>fN (j+l*esz) λj=>fN (r-l) λn=> .v (.sl o j n none esz) h
    |none=> .bad
   |some mx=>match d7 n n (nO ev lo) (nO ev hi) (nO ev (some mx)) with
    |some (l,r,m)=>fN (j+l*esz) λj=>fN (r-l) λn=>fN (m-l) λc=> .v (.sl o j n (some c) esz) h
    |none=> .bad
 | .ds c j n esz=>bif !(Nat.beq esz A) then .bad else match mx with
  |none=>match d7 n n (nO ev lo) (nO ev hi) none with
   |some (l,r,_)=>fN (j+l*esz) λj=>fN (r-l) λn=> .v (.ds c j n esz) h
   |none=> .bad
  |some _=> .bad
 | .sn=>match d7 0 0 (nO ev lo) (nO ev hi) (nO ev mx) with|some _=> .v .sn h|none=> .bad
 |_=> .bad
def an4 (x:MA) (lo hi:Option MA) (ev:MA ->AV) (h:AH):da:=match ev x with
 | .s s=>match d7 (len s) (len s) (nO ev lo) (nO ev hi) none with
  |some (l,r,_)=>match sub s l (r-l) with|some t=> .v (.s t) h|none=> .bad
  |none=> .bad
 |_=> .bad
def an6 (x:MA) (j:Nat) (ev:MA ->AV) (h:AH):da:=match ev x with
 | .p o a=>fN (a+j) λa=> .v (.p o a) h
 | .dp l a=>fN (a+j) λa=> .v (.dp l a) h
 |_=> .bad
def an7 (x:MA) (j n:Nat) (agg:Bool) (ev:MA ->AV) (h:AH):da:=match ev x with
 | .ag l=>match sub l j n with|some c=>dr h (dB agg c)|none=> .bad
 |_=> .bad
def an8 (j:Nat) (x i:MA) (ev:MA ->AV) (h:AH):da:=match nA ev i with
 |some k=>match ev x with
  | .sl o off n _ esz=>bif Nat.beq esz j&&Nat.ble (Nat.succ k) n then fN (off+k*esz) λa=> .v (.p o a) h else .bad
  | .ds l off n esz=>bif Nat.beq esz j&&Nat.ble (Nat.succ k) n then fN (off+k*esz) λa=> .v (.dp l a) h else .bad
  |_=> .bad
 |none=> .bad
def an9 (n esz:Nat) (x i:MA) (ev:MA ->AV) (h:AH):da:=match nA ev i with
 |some k=>bif Nat.ble (Nat.succ k) n then (match ev x with
  | .p o off=>fN (off+k*esz) λa=> .v (.p o a) h
  | .dp l off=>fN (off+k*esz) λa=> .v (.dp l a) h
  |_=> .bad) else .bad
 |none=> .bad
def ao0 (x i:MA) (ev:MA ->AV) (h:AH):da:=match nA ev i,ev x with
 |some k,.s l=>match sw l k with|some b=> .v (.i .u8 (.ofNat b)) h|none=> .bad
 |_,_=> .bad
def ao2 (et:ET) (m k:MA) (z:AV) (ok:Bool) (ev:MA ->AV) (h:AH):da:=bif !(En et (ev k)) then .bad else
 match (match ev m with
  | .mn=>some none
  | .m o=>match h.get o with|some (.map _ es _)=>jx et (ev k) es|_=>none
  |_=>none) with
 |some (some e)=>Bool.rec (motive:=λ_=>da) (.v e.2.1 h) (.v (.tu [e.2.1,.b true]) h) ok
 |some none=>Bool.rec (motive:=λ_=>da) (.v z h) (.v (.tu [z,.b false]) h) ok
 |none=> .bad
def ao3 (et:ET) (m k x:MA) (ev:MA ->AV) (h:AH):da:=bif !(En et (ev k)) then .bad else match ev m with
 | .m o=>match h.get o with
  |some (.map _ j A)=>fV (ev k) λk=>fV (ev x) λx=>match jx et k j with
   |some (some e)=>bif o9 k e.1 then (match mF e.2.2 k x j with
    |some j=>h.put o (.map (Nat.succ h.ver) j A) λh=> .v .un h
    |none=> .bad) else .bad
   |some none=>match fy j [(k,x,A)] with
    |some j=>fN A λA=>h.put o (.map (Nat.succ h.ver) j (Nat.succ A)) λh=> .v .un h
    |none=> .bad
   |none=> .bad
  |_=> .bad
 |_=> .bad
def ao4 (et:ET) (m k:MA) (z:AV) (ev:MA ->AV) (h:AH):da:=bif !(En et (ev k)) then .bad else match ev m with
 | .m o=>match h.get o with
  |some (.map _ j A)=>fV (ev k) λk=>match jx et k j with
   |some (some e)=>bif o9 k e.1 then (match mF e.2.2 k e.2.1 j with
    |some j=>h.put o (.map (Nat.succ h.ver) j A) λh=> .v (.tu [e.2.1,.i .i64 (.ofNat e.2.2)]) h
    |none=> .bad) else .bad
   |some none=>match fy j [(k,z,A)] with
    |some j=>fN A λA=>h.put o (.map (Nat.succ h.ver) j (Nat.succ A)) λh=> .v (.tu [z,.i .i64 (.ofNat A)]) h
    |none=> .bad
   |none=> .bad
  |_=> .bad
 |_=> .bad
def ao5 (m s x:MA) (ev:MA ->AV) (h:AH):da:=match ev m,nA ev s with
 | .m o,some b=>match h.get o with
  |some (.map _ j cl)=>fV (ev x) λx=>match pU b j with
   |some e=>match mF b e.1 x j with
    |some j=>h.put o (.map (Nat.succ h.ver) j cl) λh=> .v .un h
    |none=> .bad
   |none=> .bad
  |_=> .bad
 |_,_=> .bad
def ao6 (x:MA) (str:Bool) (ev:MA ->AV) (h:AH):da:=match ev x with
 | .s l=>bif str then h.new (.sit l 0) λo h=> .v (.p o 0) h else .bad
 | .mn=>bif str then .bad else h.new (.mit none 0 [] 0) λo h=> .v (.p o 0) h
 | .m o=>bif str then .bad else match h.get o with
  |some (.map _ _ cl)=>h.new (.mit (some o) cl [] cl) λo h=> .v (.p o 0) h
  |_=> .bad
 |_=> .bad
def ao7 (x:MA) (j:Bool) (ev:MA ->AV) (h:AH):da:=match ev x with
 | .p o off=>bif Nat.beq off 0 then vS h o j else .bad
 |_=> .bad
def ao8 (x:MA) (ev:MA ->AV) (h:AH):da:=match ev x with
 | .p o off=>bif Nat.beq off 0 then vT h o else .bad
 |_=> .bad
def QC (x:MA) (i:Nat) (ev:MA ->AV) (h:AH):da:=match ev x with| .tu l=>dr h (sw l i)|_=> .bad
def av6 (f:Nat) (args:List MA) (ev:MA ->AV) (h:AH):da:=match eE ev args with|some l=> .call f l h|none=> .bad
def R6 (f:MA) (args:List MA) (ev:MA ->AV) (h:AH):da:=match eE ev args with
 |some l=>match ev f with
  | .f g fi ca=>match fy l ca with
   |some l=>match fy fi l with|some l=> .call g l h|none=> .bad
   |none=> .bad
  | .y o=> .yld o l h
  |_=> .bad
 |none=> .bad
def ap8 (r:MA) (j:List (Nat×Nat)) (args:List MA) (ev:MA ->AV) (h:AH):da:=match ev r,eE ev args with
 | .ifc t x,some l=>match xN t j with|some f=> .call f (x::l) h|none=> .bad
 |_,_=> .bad
def ap9 (s x:MA) (esz j:Nat) (ev:MA ->AV) (h:AH):da:=match ij (ev x),eI h esz (ev x) with
 |some n,some l=>gD h (ev s) n l esz
 |_,_=> .bad
def aq0 (s x:MA) (esz j:Nat) (z:List AV) (ev:MA ->AV) (h:AH):da:=match ev s,nA ev x with
 | .sn,some (n+1)=>bif Nat.ble n 1000000 then (match rN z (Nat.succ n) with
  |some r=>h.new (.cells h.ver r) λo h=> .v (.sl o 0 (Nat.succ n) none esz) h
  |none=> .bad) else .bad
 |_,_=> .bad
def aq1 (k:Ly) (x:MA) (ev:MA ->AV) (h:AH):da:=match k with
 | .str=>match ev x with| .s l=>fN (len l) λn=> .v (ι (.ofNat n)) h|_=> .bad
 | .arr n=> .v (ι (.ofNat n)) h
 | .slice=>match ev x with
  | .s _=> .bad
  |y=>match ij y with|some n=> .v (ι (.ofNat n)) h|none=> .bad
 | .map=>match ev x with
  | .mn=> .v (ι (.ofNat 0)) h
  | .m o=>match h.get o with|some (.map _ es _)=>fN (len es) λn=> .v (ι (.ofNat n)) h|_=> .bad
  |_=> .bad
def aq2 (x:MA) (ev:MA ->AV) (h:AH):da:=match ev x with
 | .sn=> .v (ι (.ofNat 0)) h
 | .sl _ _ _ (some c) _=> .v (ι (.ofNat c)) h
 |_=> .bad
def aq4 (l:List MA) (ev:MA ->AV) (h:AH):da:=match eE ev l with|some (.i k a::r)=>dr h (jy fD k r a)|_=> .bad
def aq5 (l:List MA) (ev:MA ->AV) (h:AH):da:=match eE ev l with|some (.i k a::r)=>dr h (jy (λx y=>fD y x) k r a)|_=> .bad
def aq8 (T:Nat) (a:MA) (ev:MA ->AV) (h:AH):da:=match cellsO (ev a) with|some l=>h.new (.tc T true l) λo h=> .v (.p o 0) h|none=> .bad
def aq9 (a x:MA) (n:Nat) (ev:MA ->AV) (h:AH):da:=match ev a with
 | .p o off=>match h.get o with
  |some (.tc T wh l)=>fV (ev x) λx=>match eL (cellsOf x) l off with
   |some l'=>bif wV (cellsOf x)&&Nat.beq (len (cellsOf x)) n then h.put o (.tc T wh l') λh=> .v .un h else .bad
   |none=> .bad
  |some (.cells _ l)=>fV (ev x) λx=>match eL (cellsOf x) l off with
   |some l'=>bif wV (cellsOf x)&&Nat.beq (len (cellsOf x)) n then h.put o (.cells 0 l') λh=> .v .un h else .bad
   |none=> .bad
  |_=> .bad
 |_=> .bad
def ar0 (a:MA) (n:Nat) (agg:Bool) (ev:MA ->AV) (h:AH):da:=match ev a with
 | .p o off=>match h.rows o with
  |some l=>match sub l off n with|some c=>dr h (dB agg c)|none=> .bad
  |none=> .bad
 | .dp l off=>match sub l off n with|some c=>dr h (dB agg c)|none=> .bad
 |_=> .bad
def ar1 (T:Nat) (s x:MA) (esz j:Nat) (ev:MA ->AV) (h:AH):da:=match ij (ev x),eI h esz (ev x) with
 |some n,some l=>AF h (some T) (ev s) n l esz
 |_,_=> .bad
def ar2 (x:MA) (ev:MA ->AV) (h:AH):da:=match ev x with
 | .p o off=>match h.get o with
  |some (.tc _ _ l)=>bif Nat.ble (Nat.succ off) (len l) then .v (.p o off) h else .bad
  |_=> .bad
 |_=> .bad
def ar3 (j:List (Nat×Nat×Nat)) (x:MA) (ev:MA ->AV) (h:AH):da:=match ev x with
 | .p o off=>match h.get o with
  |some (.tc T true l)=>bif zL T (len l) off j then .v (.p o off) h else .bad
  |_=> .bad
 |_=> .bad
def ar4 (x:MA) (ev:MA ->AV) (h:AH):da:=match ev x with
 | .sn=> .v .pn h
 | .sl o off (n+1) c e=> .v (.p o off) h
 |_=> .bad
def ar5 (T:Nat) (p n:MA) (ev:MA ->AV) (h:AH):da:=match ev n with
 | .i .i64 (.ofNat 0)=>(match ev p with| .pn=> .v (.s []) h|_=> .bad)
 | .i .i64 (.ofNat (n+1))=>(match ev p with
  | .p o 0=>match h.get o with
   |some (.tc T' _ l)=>bif Nat.beq T' T&&Nat.ble n 1048576 then (match sub l 0 (Nat.succ n) with
    |some c=>match mE c with
     |some b=>h.put o .gone λh=> .v (.s b) h
     |none=> .bad
    |none=> .bad) else .bad
   |_=> .bad
  |_=> .bad)
 |_=> .bad
def ar6 (j:Nat) (ev:MA ->AV) (h:AH):da:= .bad
def AR (op:Eb):(MA ->AV) ->AH ->da:=Eb.rec (motive:=λ_=>(MA ->AV) ->AH ->da) al1 Ip al3 al4 al5 al6 al7 al8 al9 am0 am1 am2 am3 am5 am6 am7 am8 am9 an0 an3 an4 an6 an7 an8 an9 ao0 ao2 ao3 ao4 ao5 ao6 ao7 ao8 QC av6 R6 ap8 ap9 aq0 aq1 aq2 aq4 aq5 aq8 aq9 ar0 ar1 ar2 ar3 ar4 ar5 ar6 op
def step (h:AH) (op:Eb):da:=AR op ev h
end
structure aK (R:Type) where
 ae:T au
 gL:T (List AV)
 spec:Nat ->List AV ->AH ->(AV ->AH ->R) ->R ->R
 fail:R
 both:R ->R ->R
section
variable {R:Type} (C:aK R)
def az (τ:T AV) (a:MA):AV:=
 MA.rec (motive:=λ_=>AV) (λn=>Option.rec (motive:=λ_=>AV) .un (λv=>v) (τ.get n)) (λv=>v)
  (λn=>Option.rec (motive:=λ_=>AV) .un (λl=> .dp l 0) (C.gL.get n)) a
def eh (τ:T AV) (d:Option Nat) (v:AV) (k:T AV ->R):R:=
 Option.rec (motive:=λ_=>R) (k τ) (λd=>τ.setK d v k) d
def gQ (f:AV ->AH ->R) (l:List (AV×AH)):R:=
 List.rec (motive:=λ_=>R) C.fail (λe t j=>List.casesOn (motive:=λ_=>R) t (f e.1 e.2) λ_ _=>C.both (f e.1 e.2) j) l
def eY (A:Nat ->List AV ->AH ->(AV ->AH ->R) ->R) (j:Nat ->List AV ->AH ->(AV ->AH ->R) ->R) (g:MG) (τ:T AV) (h:AH) (k:AV ->AH ->R):R:=
 let act:R:=match step (az C τ) h g.op with
  | .v x h=>k x h
  | .call f args h=>A f args h k
  | .yld l args h=>j l args h k
  | .alts l=>gQ C k l
  | .bad=>C.fail
 match g.guard with
 |none=>act
 |some (t,w)=>match τ.get t with
  |some (.b x)=>Bool.rec (motive:=λ_=>R) (k (.tu []) h) act (bif x then w else !w)
  |some (.tu [])=>k (.tu []) h
  |_=>C.fail
def AY (B:Nat ->List AV ->AH ->(AV ->AH ->R) ->R) (j:Nat ->List AV ->AH ->(AV ->AH ->R) ->R)
 (k:T AV ->AH ->R) (l:List MG):T AV ->AH ->R:=
 List.rec (motive:=λ_=>T AV ->AH ->R) k (λg _ A τ h=>eY C B j g τ h λx h=>eh τ g.dst x λτ=>A τ h) l
def y6 (τ:T AV) (h:AH) (g:MG):Option AV:=
 let act:Option AV:=match step (az C τ) h g.op with| .v x _=>some x|_=>none
 match g.guard with
 |none=>act
 |some (t,w)=>match τ.get t with
  |some (.b x)=>Bool.rec (motive:=λ_=>Option AV) (some (.tu [])) act (bif x then w else !w)
  |some (.tu [])=>some (.tu [])
  |_=>none
def cZ:Nat ->AV ->AV ->Bool
 |_,.b x,.b y=>bif x then y else !y
 |_,.i k n,.i k' n'=>gZ k k'&&eO n n'
 |_,.s x,.s y=>nF x y
 |_,.p o a,.p o' a'=>Nat.beq o o'&&Nat.beq a a'
 |_,.pn,.pn=>true
 |_,.sl o a n none e,.sl o' a' n' none e'=>Nat.beq o o'&&(Nat.beq a a'&&(Nat.beq n n'&&Nat.beq e e'))
 |_,.sl o a n (some c) e,.sl o' a' n' (some c') e'=>Nat.beq o o'&&(Nat.beq a a'&&(Nat.beq n n'&&(Nat.beq e e'&&Nat.beq c c')))
 |_,.sn,.sn=>true
 |_,.m o,.m o'=>Nat.beq o o'
 |_,.mn,.mn=>true
 |_,.y o,.y o'=>Nat.beq o o'
 |_,.fnil,.fnil=>true
 |_,.ifn,.ifn=>true
 |n+1,.dp l a,.dp l' a'=>Nat.beq a a'&&avEqs (cZ n) l l'
 |n+1,.ds l a k e,.ds l' a' k' e'=>Nat.beq a a'&&(Nat.beq k k'&&(Nat.beq e e'&&avEqs (cZ n) l l'))
 |n+1,.f g x y,.f g' x' y'=>Nat.beq g g'&&(avEqs (cZ n) x x'&&avEqs (cZ n) y y')
 |n+1,.ifc t v,.ifc t' v'=>Nat.beq t t'&&cZ n v v'
 |n+1,.ag l,.ag l'=>avEqs (cZ n) l l'
 |n+1,.tu l,.tu l'=>avEqs (cZ n) l l'
 |_,_,_=>false
 where avEqs (f:AV ->AV ->Bool) (l:List AV):List AV ->Bool:=
 List.rec (motive:=λ_=>List AV ->Bool) (λv=>List.isEmpty v) (λa _ j v=>List.casesOn (motive:=λ_=>Bool) v false λb r=>f a b&&j r) l
def eA (τ:T AV) (h:AH) (mask:Nat) (ls:List (Nat×MG)) (k:R):R:=
 List.rec (motive:=λ_=>R) k (λp _ j=>bif Nat.testBit mask p.1 then j else match y6 C τ h p.2 with
  |some x=>match p.2.dst with
   |none=>j
   |some d=>match τ.get d with
    |some y=>bif cZ 64 x y then j else C.fail
    |none=>C.fail
  |none=>C.fail) ls
def iC (i:Nat) (l:List (Nat×Nat×bC)):Option (Nat×bC):=List.rec (motive:=λ_=>Option (Nat×bC)) none (λe _ j=>bif Nat.beq e.1 i then some e.2 else j) l
def bW (B:Nat ->List AV ->AH ->(AV ->AH ->R) ->R) (A:Nat ->List AV ->AH ->(AV ->AH ->R) ->R) (base:Nat)
 (k:T AV ->AH ->R) (l:List DI):List (Nat×MG) ->List (Nat×Nat×bC) ->T AV ->AH ->R:=
 List.rec (motive:=λ_=>List (Nat×MG) ->List (Nat×Nat×bC) ->T AV ->AH ->R) (λ_ _=>k) (λd _ j ls pd τ h=>match d with
  | .light i g=>match y6 C τ h g with
   |some x=>eh τ g.dst x λτ=>j ((i,g)::ls) pd τ h
   |none=>C.fail
  | .resv i n g=>fN (base+n) λid=>match step (az C τ) ⟨id,h.ver,.e⟩ g.op with
   | .v x h'=>match h'.oB.get id with
    |some ob=>eh τ g.dst x λτ=>j ls ((i,id,ob)::pd) τ h
    |none=>C.fail
   |_=>C.fail
  | .lay i=>match iC i pd with
   |some (id,ob)=>h.put id ob λh=>j ls pd τ h
   |none=>C.fail
  | .heavy _ g mask=>eY C B A g τ h λx h=>eh τ g.dst x λτ=>eA C τ h mask ls (j ls pd τ h)) l
def Qg (l:List AV):Nat ->T AV ->(T AV ->R) ->R:=
 List.rec (motive:=λ_=>Nat ->T AV ->(T AV ->R) ->R) (λ_ τ k=>k τ) (λa _ j n τ k=>τ.setK n a λτ=>fN n λn=>j (Nat.succ n) τ k) l
def fY (τ:T AV) (h:AH) (l:List (Nat×Option (Nat×Bool))):Option (List AV):=
 eM (λe=>match e.2 with
  |none=>τ.get e.1
  |some (n,agg)=>match τ.get e.1 with
   |some (.p o off)=>match h.cells o with
    |some c=>match sub c off n with
     |some c=>dB agg c
     |none=>none
    |none=>none
   |_=>none) l
def eZ (τ:T AV) (h:AH) (l:List (Nat×Option (Nat×Bool))):Option AV:=
 match fY τ h l with|some [v]=>some v|some l=>some (.tu l)|none=>none
abbrev K (R:Type):=pS ->T AV ->AH ->R
def DR (run:aw ->K R ->T AV ->AH ->R) (f:Nat) (args:List AV) (h:AH) (k:AV ->AH ->R):R:=
 match C.ae.get f with
 |none=>C.fail
 |some fn=>Qg args 0 .e λτ=>run fn.body (λe τ h=>match e with
  | .exit _=>C.fail
  |_=>match eZ τ h fn.res with|some v=>k v h|none=>C.fail) τ h
def iS (run:aw ->K R ->T AV ->AH ->R) (f:Nat) (args:List AV) (h:AH) (k:AV ->AH ->R):R:=
 C.spec f args h k (DR C run f args h k)
def nG (l:List Nat):List AV ->T AV ->(T AV ->R) ->R:=
 List.rec (motive:=λ_=>List AV ->T AV ->(T AV ->R) ->R) (λa τ k=>List.casesOn (motive:=λ_=>R) a (k τ) λ_ _=>C.fail)
  (λp _ j a τ k=>List.casesOn (motive:=λ_=>R) a C.fail λx t=>τ.setK p x λτ=>j t τ k) l
def pV (h:AH) (l:Nat) (k:AH ->R):R:=
 match h.get l with
 |some (.loop ps assign body env 0 p)=>h.put l (.loop ps assign body env 1 p) k
 |_=>C.fail
def DS (h:AH) (l st:Nat) (p:Option (Option Nat)) (k:AH ->R):R:=
 match h.get l with
 |some (.loop ps assign body env _ _)=>h.put l (.loop ps assign body env st p) k
 |_=>C.fail
def iD (run:aw ->K R ->T AV ->AH ->R) (l:Nat) (args:List AV) (h:AH) (k:AV ->AH ->R):R:=
 match h.get l with
 |some (.loop ps assign body env _ _)=>
  nG C ps args env λτ=>run assign (λe τ h=>match e with
   | .normal=>pV C h l λh=>run body (λe _ h=>match e with
    | .normal=>DS C h l 0 none λh=>k (.b true) h
    | .exit i=>DS C h l 2 (some (some i)) λh=>k (.b false) h
    | .ret=>DS C h l 2 (some none) λh=>k (.b false) h) τ h
   |_=>C.fail) τ h
 |_=>C.fail
def run (n:Nat):aw ->K R ->T AV ->AH ->R:=
 Nat.rec (motive:=λ_=>aw ->K R ->T AV ->AH ->R) (λ_ _ _ _=>C.fail) (λ_ j c k τ h=>
  match c with
  | .skip=>k .normal τ h
  | .ops l=>AY C (iS C j) (iD C j) (λτ h=>k .normal τ h) l τ h
  | .draw n l=>fN (h.next+n) λnx=>bW C (iS C j) (iD C j) h.next (λτ h=>k .normal τ h) l [] [] τ ⟨nx,h.ver,h.oB⟩
  | .dfr l x fn=>AY C (iS C j) (iD C j) (λτ h=>match az C τ x with
   | .f g _ _=>bif Nat.beq g fn then k .normal τ h else C.fail
   |_=>C.fail) l τ h
  | .seq a b=>j a (λe τ h=>match e with| .normal=>j b k τ h|e=>k e τ h) τ h
  | .cond c a b=>match az C τ c with
   | .b x=>Bool.rec (motive:=λ_=>R) (j b k τ h) (j a k τ h) x
   |_=>C.fail
  | .block id c=>j c (λe τ h=>match e with| .exit i=>bif Nat.beq i id then k .normal τ h else k (.exit i) τ h|e=>k e τ h) τ h
  | .loop c=>j c (λe τ h=>match e with| .normal=>j (.loop c) k τ h|e=>k e τ h) τ h
  | .rfun f ps assign body=>h.new (.loop ps assign body τ 0 none) λl h=>
   let fin:AV ->AH ->R:=λ_ h=>match h.get l with
    |some (.loop _ _ _ _ 0 none)=>h.put l .gone λh=>k .normal τ h
    |some (.loop _ _ _ _ 2 (some (some i)))=>h.put l .gone λh=>k (.exit i) τ h
    |some (.loop _ _ _ _ 2 (some none))=>h.put l .gone λh=>k .ret τ h
    |_=>C.fail
   match az C τ f with
   | .f g fi ca=>match fy fi (.y l::ca) with
    |some l=>DR C j g l h fin
    |none=>C.fail
   |_=>C.fail
  | .exit id=>k (.exit id) τ h
  | .ret=>k .ret τ h
  | .bad _=>C.fail) n
end
end
end AM
namespace AM
def rQ {a b} (h:¬a=b):Nat.beq a b=false:=by
 cases e:Nat.beq a b;rfl;exact bh (qG e) h
def vU {a b} (h:a=b):Nat.beq a b=true:=by subst h;exact Nat.beq_refl a
namespace T
variable {α R:Type}
noncomputable def put (t:T α) (n:Nat) (x:α):T α:=t.setK n x λt=>t
def get_e k:(T.e:T α).get k=none:=rfl
def te (l r:T α) v k:
 (T.n l v r).get k=if k=0 then v else if k%2=1 then l.get (k/2) else r.get (k/2-1):=by
 show(Bool.rec (Bool.rec (r.get (k/2-1)) (l.get (k/2)) (Nat.beq (k%2) 1)) v (Nat.beq k 0):Option α)=_;by_cases h:k=0;subst h;rfl;have h1:Nat.beq k 0=false:=rQ h;rw[h1,aD h];by_cases h2:k%2=1;have:Nat.beq (k%2) 1=true:=vU h2;rw[this,aF h2];have:Nat.beq (k%2) 1=false:=rQ h2;rw[this,aD h2]
def FX l r v k x (c:T α ->R):
 (T.n l v r).setK k x c=if k=0 then c (.n l (some x) r) else if k%2=1 then l.setK (k/2) x λl'=>c (.n l' v r) else r.setK (k/2-1) x λj=>c (.n l v j):=by
 show(Bool.rec (Bool.rec (r.setK (k/2-1) x λj=>c (.n l v j)) (l.setK (k/2) x λl'=>c (.n l' v r)) (Nat.beq (k%2) 1)) (c (.n l (some x) r)) (Nat.beq k 0):R)=_;by_cases h:k=0;subst h;rfl;have h1:Nat.beq k 0=false:=rQ h;rw[h1,aD h];by_cases h2:k%2=1;have:Nat.beq (k%2) 1=true:=vU h2;rw[this,aF h2];have:Nat.beq (k%2) 1=false:=rQ h2;rw[this,aD h2]
def setK_put (t:T α):∀{R} (k) (x) (c:T α ->R),t.setK k x c=c (t.put k x):=by
 induction t with
 |e=>intro R k x c;rfl
 |n l v r j A=>
  intro R k x c;unfold put;rw[FX,FX];split;rfl
  grind
def X4 (x:α):∀f k m,k<f ->(T.one x f k).get m=if m=k then some x else none:=by
 intro f;induction f with
 |zero=>intro k m h;omega
 |succ f B=>
  intro k m h;show(Bool.rec (Bool.rec (.n .e none (T.one x f (k/2-1))) (.n (T.one x f (k/2)) none .e) (Nat.beq (k%2) 1)) (.n .e (some x) .e) (Nat.beq k 0):T α).get m=_;by_cases h0:k=0;subst h0;show(T.n .e (some x) .e:T α).get m=_;rw[te];by_cases A:m=0;simp[A];simp[A,get_e];have h1:Nat.beq k 0=false:=rQ h0;rw[h1];by_cases h2:k%2=1;have:Nat.beq (k%2) 1=true:=vU h2;rw[this];show(T.n (T.one x f (k/2)) none .e:T α).get m=_;rw[te,B _ _ ω];by_cases A:m=0;simp[A];omega;by_cases j:m%2=1
  grind
  simp only[A,j,bV,get_e];rw[aD (by intro e;subst e;exact j h2)];have:Nat.beq (k%2) 1=false:=rQ h2;rw[this];show(T.n .e none (T.one x f (k/2-1)):T α).get m=_;rw[te,B _ _ ω];by_cases A:m=0;simp[A];omega;by_cases j:m%2=1;simp only[A,j,bV,dZ,get_e];rw[aD (by intro e;subst e;exact h2 j)]
  grind
def get_put (t:T α):∀k m x,(t.put k x).get m=if m=k then some x else t.get m:=by
 induction t with
 |e=>
  intro k m x;show(T.one x (Nat.succ k) k).get m=_;rw[X4 x _ _ _ (qI k),get_e]
 |n l v r A B=>
  intro k m x;unfold put;rw[FX];by_cases h0:k=0;subst h0;rw[aF rfl,te,te];by_cases j:m=0<;>simp[j];rw[aD h0];by_cases h2:k%2=1;rw[aF h2,setK_put,te,te,A];by_cases j:m=0;simp only[j,dZ];rw[aD ω]
  grind
  rw[aD h2,setK_put,te,te,B];by_cases j:m=0;simp only[j,dZ];rw[aD ω]
  grind
end T
end AM
namespace AM
open Go
structure CE where
 dM:Nat ->Prop
 ρ:Nat ->Nat×Nat
 sz:Nat ->Nat
 im:Nat ->Option (Array Value)
 gl:Nat ->Option (List AV)
def CE.addr (c:CE) (o j:Nat):Addr:=⟨(c.ρ o).1,(c.ρ o).2+j,none⟩
def xO (row:Array Value) (b:Nat) (vs:List Value):Prop:=∀i v,vs[i]? =some v ->row[b+i]? =some v
mutual
inductive VR (c:CE):AV ->Value ->Prop
 |b (x:Bool):VR c (.b x) (.bool x)
 |i (k:IntKind) (n:Int):VR c (.i k n) (.int k n)
 |s (l:List Nat) (bs:ByteArray) (h:bs.data.toList.map UInt8.toNat=l):VR c (.s l) (.string bs)
 |p (o off:Nat) (h:c.dM o):VR c (.p o off) (.pointer (some (c.addr o off)))
 |pn:VR c .pn (.pointer none)
 |dp (l:List AV) (off blk base:Nat) (row:Array Value) (vs:List Value) (him:c.im blk=some row) (gY:xO row base vs) (hs:bX c l vs):
  VR c (.dp l off) (.pointer (some ⟨blk,base+off,none⟩))
 |sl (o off len esz:Nat) (cap:Option Nat) (a:Addr) (n:Nat) (h:c.dM o) (hcap:∀k,cap=some k ->n=k) (hl:len<=n)
  (ha:n≠0 ->a=c.addr o off) (hz:(c.ρ o).2+off+n*esz<=c.sz o):VR c (.sl o off len cap esz) (.slice (some a) len n)
 |sn:VR c .sn (.slice none 0 0)
 |ds (l:List AV) (off len esz blk base n:Nat) (a:Addr) (row:Array Value) (vs:List Value) (him:c.im blk=some row) (gY:xO row base vs) (hs:bX c l vs)
  (hl:len<=n) (ha:len≠0 ->a=⟨blk,base+off,none⟩):VR c (.ds l off len esz) (.slice (some a) len n)
 |m (o:Nat) (h:c.dM o):VR c (.m o) (.map (some (c.ρ o).1))
 |mn:VR c .mn (.map none)
 |f (fn:Nat) (fi ca:List AV) (vi va:List Value) (hi:bX c fi vi) (ha:bX c ca va):VR c (.f fn fi ca) (.func (.func fn) vi.toArray va.toArray)
 |y (l:Nat) (h:c.dM l):VR c (.y l) (.func (.yield (c.ρ l).1) #[] #[])
 |fnil:VR c .fnil .nilFunc
 |ifc (t:TypeId) (v:AV) (v':Value) (h:VR c v v'):VR c (.ifc t v) (.iface t v')
 |ifn:VR c .ifn .nilIface
 |ag (l:List AV) (vs:List Value) (h:bX c l vs):VR c (.ag l) (.agg vs.toArray)
 |tu (l:List AV) (vs:List Value) (h:bX c l vs):VR c (.tu l) (.tuple vs.toArray)
 |un (v:Value):VR c .un v
inductive bX (c:CE):List AV ->List Value ->Prop
 |nil:bX c [] []
 |cons (a:AV) (l:List AV) (v:Value) (vs:List Value) (h:VR c a v) (hs:bX c l vs):bX c (a::l) (v::vs)
end
structure gE (c c':CE):Prop where
 dM:∀o,c.dM o ->c'.dM o
 ρ:∀o,c.dM o ->c'.ρ o=c.ρ o
 sz:∀o,c.dM o ->c'.sz o=c.sz o
 im:∀b row,c.im b=some row ->c'.im b=some row
 gl:c'.gl=c.gl
def gE.refl c:gE c c:=⟨λ_ h=>h,λ_ _=>rfl,λ_ _=>rfl,λ_ _ h=>h,rfl⟩
variable {c:CE}
def gE.trans {a b} (h:gE a b) (k:gE b c):gE a c:=
 ⟨λo j=>k.dM o (h.dM o j),λo j=>(k.ρ o (h.dM o j)).trans (h.ρ o j),λo j=>(k.sz o (h.dM o j)).trans (h.sz o j),
  λb r hb=>k.im b r (h.im b r hb),k.gl.trans h.gl⟩
variable {c':CE}
def gE.addr (e:gE c c') {o} (h:c.dM o) j:c'.addr o j=c.addr o j:=by
 unfold CE.addr;rw[e.ρ o h]
mutual
def VR.mono (e:gE c c'):∀{v:AV} {v':Value},VR c v v' ->VR c' v v'
 |_,_,.b x=> .b x
 |_,_,.i k n=> .i k n
 |_,_,.s l bs h=> .s l bs h
 |_,_,.p o off h=>by rw[←e.addr h];exact .p o off (e.dM _ h)
 |_,_,.pn=> .pn
 |_,_,.dp l off blk base row vs him gY hs=> .dp l off blk base row vs (e.im _ _ him) gY (bX.mono e hs)
 |_,_,.sl o off len esz cap a n h hcap hl ha hz=> .sl o off len esz cap a n (e.dM _ h) hcap hl (λj=>by rw[e.addr h];exact ha j) (by rw[e.ρ o h,e.sz o h];exact hz)
 |_,_,.sn=> .sn
 |_,_,.ds l off len esz blk base n a row vs him gY hs hl ha=> .ds l off len esz blk base n a row vs (e.im _ _ him) gY (bX.mono e hs) hl ha
 |_,_,.m o h=>by rw[←e.ρ o h];exact .m o (e.dM _ h)
 |_,_,.mn=> .mn
 |_,_,.f fn fi ca vi va hi ha=> .f fn fi ca vi va (bX.mono e hi) (bX.mono e ha)
 |_,_,.y l h=>by rw[←e.ρ l h];exact .y l (e.dM _ h)
 |_,_,.fnil=> .fnil
 |_,_,.ifc t v v' h=> .ifc t v v' (VR.mono e h)
 |_,_,.ifn=> .ifn
 |_,_,.ag l vs h=> .ag l vs (bX.mono e h)
 |_,_,.tu l vs h=> .tu l vs (bX.mono e h)
 |_,_,.un v=> .un v
def bX.mono (e:gE c c'):∀{l:List AV} {vs:List Value},bX c l vs ->bX c' l vs
 |_,_,.nil=> .nil
 |_,_,.cons a l v vs h hs=> .cons a l v vs (VR.mono e h) (bX.mono e hs)
end
section force
variable {R:Type}
@[simp] def dT (n) (k:Nat ->R):fN n k=k n:=by cases n<;>rfl
@[simp] def rR (b) (k:Bool ->R):fB b k=k b:=by cases b<;>rfl
@[simp] def zO (n) (k:Int ->R):fI n k=k n:=by cases n<;>simp[fI]
@[simp] def jK (v) (k:AV ->R):fV v k=k v:=by cases v<;>rfl
end force
section lists
variable {α β:Type}
def Cw (l:List α):∀n,sw l n=l[n]? :=by
 induction l with
 |nil=>intro n;rfl
 |cons a t j=>
  intro n;rcases n with _|n;rfl;show sw t n=_;rw[j];simp
def X5 (l:List α):∀k,(List.rec (motive:=λ_=>Nat ->Nat) (λn=>n) (λ_ _ j n=>fN n λn=>j (Nat.succ n)) l k:Nat)=k+l.length:=by
 induction l with
 |nil=>intro k;rfl
 |cons a t j=>
  intro k;show fN k (λn=>(List.rec (motive:=λ_=>Nat ->Nat) (λn=>n) (λ_ _ j n=>fN n λn=>j (Nat.succ n)) t (Nat.succ n):Nat))=_;rw[dT,j];simp;omega
def kZ (l:List α):len l=l.length:=by unfold len;rw[X5];omega
def jz (l m:List α):fy l m=some (l++m):=by
 induction l with
 |nil=>rfl
 |cons a t j=>
  show(Option.rec (motive:=λ_=>Option (List α)) none (λt=>some (a::t)) (fy t m))=_;rw[j];rfl
def tg (f:α ->Option β):eM f []=some []:=rfl
def lJ (f:α ->Option β) a t:
 eM f (a::t)=match f a with|none=>none|some b=>match eM f t with|none=>none|some r=>some (b::r):=by
 show(Option.rec (motive:=λ_=>Option (List β)) none (λb=>Option.rec (motive:=λ_=>Option (List β)) none (λt=>some (b::t)) (eM f t)) (f a))=_;rcases f a with _|b;rfl;cases eM f t<;>rfl
def X6 (l:List α):∀n,FV l n=if n<=l.length then some (l.drop n) else none:=by
 induction l with
 |nil=>intro n;cases n<;>rfl
 |cons a t j=>
  intro n;rcases n with _|n;rfl;show FV t n=_;rw[j];simp
def X7 (l:List α):∀n,xL l n=if n<=l.length then some (l.take n) else none:=by
 induction l with
 |nil=>intro n;cases n<;>rfl
 |cons a t j=>
  intro n;rcases n with _|n;rfl;show(Option.rec (motive:=λ_=>Option (List α)) none (λt=>some (a::t)) (xL t n))=_;rw[j];by_cases h:n<=t.length;rw[aF h,aF (by simpa using h)];rfl;rw[aD h,aD (by simpa using h)]
theorem nH (l:List α) j n:sub l j n=if j<=l.length/\ j+n<=l.length then some ((l.drop j).take n) else none:=by
 unfold sub;rw[X6];by_cases h:j<=l.length;rw[aF h];show xL (l.drop j) n=_;rw[X7];by_cases h2:j+n<=l.length
 grind
 grind
 rw[aD h,aD (λk=>h k.1)]
def lM {l:List α} {j n c} (h:sub l j n=some c):j+n<=l.length/\ c=(l.drop j).take n:=by
 grind[nH]
theorem vV (c:List α):∀l,oZ c l=if c.length<=l.length then some (c++l.drop c.length) else none:=by
 induction c with
 |nil=>intro l;show some l=_;simp
 |cons x c j=>
  intro l;rcases l with _|⟨a,t⟩;rfl;show(Option.rec (motive:=λ_=>Option (List α)) none (λr=>some (x::r)) (oZ c t))=_;rw[j];by_cases h:c.length<=t.length;rw[aF h,aF (by simpa using h)];rfl;rw[aD h,aD (by simpa using h)]
theorem xP (c l:List α):∀n,eL c l n=if n+c.length<=l.length then some (l.take n++c++l.drop (n+c.length)) else none:=by
 induction l with
 |nil=>
  intro n;rcases n with _|n;show oZ c []=_;rw[vV];simp;show none=_;rw[aD (by simp<;>omega)]
 |cons a t j=>
  intro n;rcases n with _|n;show oZ c (a::t)=_;rw[vV];simp;show(Option.rec (motive:=λ_=>Option (List α)) none (λr=>some (a::r)) (eL c t n))=_;rw[j];by_cases h:n+c.length<=t.length;rw[aF h,aF (by simp;omega)];have e:n+1+c.length=(n+c.length)+1:=by omega
  simp[e];rw[aD h,aD (by simp;omega)]
def xQ {c l r:List α} {n} (h:eL c l n=some r):n+c.length<=l.length/\ r=l.take n++c++l.drop (n+c.length):=by
 grind[xP]
def X8 {c l r:List α} {n} (h:eL c l n=some r):r.length=l.length:=by
 obtain⟨h1,rfl⟩:=xQ h;simp;omega
def LA {c l r:List α} {n} (h:eL c l n=some r) i:
 r[i]? =if n<=i/\ i<n+c.length then c[i-n]? else l[i]? :=by
 obtain⟨h1,rfl⟩:=xQ h;by_cases h2:n<=i/\ i<n+c.length
 grind
 rw[aD h2];by_cases j:i<n
 grind
 grind
def zP (z:List α) n:rN z n=some (List.replicate n z).flatten:=by
 induction n with
 |zero=>rfl
 |succ n j=>
  show(Option.rec (motive:=λ_=>Option (List α)) none (λt=>fy z t) (rN z n))=_;rw[j];show fy z _=_;rw[jz,uc,vD]
end lists
def mH x:∀y,nF x y=decide (x=y):=by
 induction x with
 |nil=>intro y;cases y<;>rfl
 |cons a t j=>
  intro y;rcases y with _|⟨b,s⟩;rfl;show(Bool.rec false (nF t s) (Nat.beq a b):Bool)=_;by_cases h:a=b
  simp_all
  rw[rQ h];simp[h]
def A3 a b:eO a b=decide (a=b):=by
 cases a<;>cases b<;>simp[eO];rename_i a b;by_cases h:a=b;rw[vU h];simp[h];rw[rQ h];simp;omega;rename_i a b;by_cases h:a=b;rw[vU h];simp[h];rw[rQ h];simp[h]
def mI a b:fD a b=decide (a<b):=by
 cases a<;>cases b<;>simp only[fD];rename_i a b;by_cases h:a<b;rw[FR (show Nat.succ a<=b from h)];simp;omega;have:Nat.ble (Nat.succ a) b=false:=by
  cases e:Nat.ble (Nat.succ a) b;rfl;exact bh (FT e) ω
 rw[this];simp;omega
 grind
 grind
 rename_i a b;by_cases h:b<a;rw[FR (show Nat.succ b<=a from h)];have:Int.negSucc a<Int.negSucc b:=by omega
 simp[this];have e:Nat.ble (Nat.succ b) a=false:=by
  cases e:Nat.ble (Nat.succ b) a;rfl;exact bh (FT e) ω
 have:¬Int.negSucc a<Int.negSucc b:=by omega
 rw[e];simp[this]
def wX a b:Nat.ble a b=decide (a<=b):=by
 by_cases h:a<=b
 simp_all
 have e:Nat.ble a b=false:=by
  cases e:Nat.ble a b;rfl;exact bh (FT e) h
 rw[e];simp[h]
def bu a b:Nat.beq a b=decide (a=b):=by
 by_cases h:a=b;rw[vU h];simp[h];rw[rQ h];simp[h]
def AH.new_eq {R} (h:AH) o (c:Nat ->AH ->R):h.new o c=c h.next ⟨Nat.succ h.next,h.ver,h.oB.put h.next o⟩:=by
 simp_all [AH.new,T.setK_put,dT]
def AH.put_eq {R} (h:AH) n o (c:AH ->R):h.put n o c=c ⟨h.next,Nat.succ h.ver,h.oB.put n o⟩:=by
 simp_all [AH.put,T.setK_put,dT]
def live:bC ->Bool
 | .gone=>false
 |_=>true
def TR (c:CE) (τ:T AV) (tmps:Array Value):Prop:=∀t v,τ.get t=some v ->∃v',tmps[t]? =some v'/\ VR c v v'
def TR.mono (e:gE c c') {τ tmps} (h:TR c τ tmps):TR c' τ tmps:=
 λt v j=>let ⟨v',h1,h2⟩:=h t v j;⟨v',h1,h2.mono e⟩
def fQ (c:CE):List (AV×AV×Nat) ->List MapEntry ->Prop
 |[],[]=>True
 |(k,v,b)::r,e::r'=>VR c k e.key/\ VR c v e.val/\ e.born=b/\ fQ c r r'
 |_,_=>False
def fQ.mono (e:gE c c'):∀{l l'},fQ c l l' ->fQ c' l l'
 |[],[],_=>trivial
 |(_,_,_)::_,_::_,h=>⟨h.1.mono e,h.2.1.mono e,h.2.2.1,fQ.mono e h.2.2.2⟩
 |[],_::_,h=>h.elim
 |_::_,[],h=>h.elim
def FY:Option (Option Nat) ->Option Code ->Prop
 |none,none=>True
 |some none,some .ret=>True
 |some (some i),some (.exit j)=>i=j
 |_,_=>False
def FZ:Nat ->LoopState ->Prop
 |0,.ready=>True
 |1,.busy=>True
 |2,.done=>True
 |_,_=>False
section
variable (CR:Nat ->Code ->aw ->Prop)
def F0 (c:CE) (w:World) (o:Nat) (l:List AV) (T:Option Nat) (wh:Bool):Prop:=
 ∃row t lo hi vs,w.heap[(c.ρ o).1]? =some (.cells row t (lo,hi))/\ row.size=c.sz o/\ (∀j,j<row.size ->¬(lo<=j/\ j<hi))/\ bX c l vs/\ xO row (c.ρ o).2 vs/\ (c.ρ o).2+vs.length<=row.size/\
  (∀k,T=some k ->t=k/\ (c.ρ o).2=0)/\ (wh=true ->row.size=vs.length)
def gR (c:CE) (w:World) (o:Nat):bC ->Prop
 | .cells _ l=>∃row t lo hi vs,w.heap[(c.ρ o).1]? =some (.cells row t (lo,hi))/\ row.size=c.sz o/\ (∀j,j<row.size ->¬(lo<=j/\ j<hi))/\ bX c l vs/\ xO row (c.ρ o).2 vs/\ (c.ρ o).2+vs.length<=row.size
 | .tc T wh l=>F0 c w o l (some T) wh
 | .map _ es cl=>∃A,w.heap[(c.ρ o).1]? =some (.map A cl)/\ fQ c es A.toList/\ es.Pairwise (λx y=>x.2.2<y.2.2)/\∀e∈es,e.2.2<cl
 | .sit l pos=>(c.ρ o).2=0/\∃bs:ByteArray,w.heap[(c.ρ o).1]? =some (.stringIter bs pos)/\ bs.data.toList.map UInt8.toNat=l
 | .mit m since seen stepped=>(∀k,m=some k ->c.dM k)/\ (c.ρ o).2=0/\ w.heap[(c.ρ o).1]? =some (.mapIter (m.map λk=>(c.ρ k).1) since seen.toArray stepped)
 | .loop ps assign body env st pend=>∃(r:Loop) (N:Nat),w.heap[(c.ρ o).1]? =some (.loop r)/\ r.params.toList=ps/\ CR N r.assign assign/\ CR N r.body body/\ N<=r.tmps.size/\ (∀p∈ps,p<N)/\
  TR c env r.tmps/\ FZ st r.state/\ FY pend r.pending
 | .gone=>True
variable {CR}
variable {c:CE} {o:Nat} {w w':World} {obj:bC}
def gR.mono {c'} (e:gE c c') (j:c.dM o) (D:w'.heap[(c.ρ o).1]? =w.heap[(c.ρ o).1]?) (h:gR CR c w o obj):gR CR c' w' o obj:=by
 cases obj with
 |cells v l=>
  obtain⟨row,t,lo,hi,vs,h1,h2,A,B,E,G⟩:=h;exact⟨row,t,lo,hi,vs,by rw[e.ρ o j,D];exact h1,by rw[e.sz o j];exact h2,A,B.mono e,by rw[e.ρ o j];exact E,by rw[e.ρ o j];exact G⟩
 |tc T wh l=>
  obtain⟨row,t,lo,hi,vs,h1,h2,A,B,E,G,J,L⟩:=h;exact⟨row,t,lo,hi,vs,by rw[e.ρ o j,D];exact h1,by rw[e.sz o j];exact h2,A,B.mono e,by rw[e.ρ o j];exact E,by rw[e.ρ o j];exact G,by rw[e.ρ o j];exact J,L⟩
 |map v Z Y=>
  obtain⟨I,h1,h2,A,B⟩:=h;exact⟨I,by rw[e.ρ o j,D];exact h1,h2.mono e,A,B⟩
 |sit l X=>
  obtain⟨h0,bs,h1,h2⟩:=h;exact⟨by rw[e.ρ o j];exact h0,bs,by rw[e.ρ o j,D];exact h1,h2⟩
 |mit m O seen H=>
  obtain⟨h1,h2,A⟩:=h;refine⟨λk W=>e.dM k (h1 k W),by rw[e.ρ o j];exact h2,?_⟩;rw[e.ρ o j,D,A];rcases m with _|k;rfl;simp[e.ρ k (h1 k rfl)]
 |loop ps assign body U st S=>
  obtain⟨r,N,h1,h2,A,B,E,G,J,L,V⟩:=h;exact⟨r,N,by rw[e.ρ o j,D];exact h1,h2,A,B,E,G,J.mono e,L,V⟩
 |gone=>trivial
variable {h:AH}
def LB {l} (j:h.rows o=some l):∃ob,h.oB.get o=some ob/\ live ob=true/\∀c w,gR CR c w o ob ->gR CR c w o (.cells 0 l):=by
 unfold AH.rows AH.get at j;split at j;rename_i ver l' e;cases j;exact⟨_,e,rfl,λ_ _ h=>h⟩;rename_i T wh l' e;cases j;refine⟨_,e,rfl,λ_ _ h=> ?_⟩;obtain⟨row,t,lo,hi,vs,h1,h2,A,B,D,E,_⟩:=h;exact⟨row,t,lo,hi,vs,h1,h2,A,B,D,E⟩;cases j
def F1 {l} (j:h.cells o=some l):h.rows o=some l:=by
 grind[AH.cells,AH.get,AH.rows]
def zQ {l} (j:h.cells o=some l):∃ob,h.oB.get o=some ob/\ live ob=true/\∀c w,gR CR c w o ob ->gR CR c w o (.cells 0 l):=LB (F1 j)
def gR.lt (h:gR CR c w o obj) (G:live obj=true):(c.ρ o).1<w.heap.size:=by
 have key:∀ob,w.heap[(c.ρ o).1]? =some ob ->(c.ρ o).1<w.heap.size:=λob hb=>(jX.1 hb).1;cases obj with
 |cells v l=>obtain⟨row,t,lo,hi,vs,h1,_⟩:=h;exact key _ h1
 |tc T wh l=>obtain⟨row,t,lo,hi,vs,h1,_⟩:=h;exact key _ h1
 |map v J I=>obtain⟨E,h1,_⟩:=h;exact key _ h1
 |sit l H=>obtain⟨_,bs,h1,_⟩:=h;exact key _ h1
 |mit m A seen j=>exact key _ h.2.2
 |loop ps assign body D st B=>obtain⟨r,N,h1,_⟩:=h;exact key _ h1
 |gone=>cases G
variable (CR)
structure dU (c:CE) (h:AH) (o:Nat) (obj:bC):Prop where
 get:h.oB.get o=some obj
 live:live obj=true
 dM:c.dM o
structure RS (c:CE) (h:AH) (w:World):Prop where
 nx:∀o,c.dM o ->o<h.next
 lt:∀o obj,h.oB.get o=some obj ->o<h.next
 obj:∀o obj,dU c h o obj ->gR CR c w o obj
 inj:∀o o' obj obj',dU c h o obj ->dU c h o' obj' ->(c.ρ o).1=(c.ρ o').1 ->o=o'
 im:∀b row,c.im b=some row ->∃t fr,w.heap[b]? =some (.cells row t fr)
 dj:∀o obj,dU c h o obj ->c.im (c.ρ o).1=none
 gl:∀g l,c.gl g=some l ->∃row vs,c.im g=some row/\ xO row 0 vs/\ bX c l vs
def zR (h:AH) (o:Nat):Prop:=∀ob,h.oB.get o=some ob ->live ob=false
structure j6 (c:CE) (h:AH) (w:World) (c':CE) (h':AH) (w':World):Prop where
 size:w.heap.size<=w'.heap.size
 same:∀b,b<w.heap.size ->(∀o obj,dU c h o obj ->(c.ρ o).1≠b) ->w'.heap[b]? =w.heap[b]?
 new:∀o obj,dU c' h' o obj ->w.heap.size<=(c'.ρ o).1∨∃o₀ obj₀,dU c h o₀ obj₀/\ (c.ρ o₀).1=(c'.ρ o).1
 dM:∀o,c'.dM o ->c.dM o∨h.next<=o
 nxt:h.next<=h'.next
 im:∀b row,c'.im b=some row ->c.im b=some row∨w.heap.size<=b∨∃o obj,dU c h o obj/\ (c.ρ o).1=b
 dead:∀o,o<h.next ->zR h o ->zR h' o
 io:w'.os=w.os/\ w'.output=w.output
structure cH (c:CE) (h:AH) (w:World) (c':CE) (h':AH) (w':World):Prop where
 ext:gE c c'
 rs:RS CR c' h' w'
 keep:j6 c h w c' h' w'
variable {CR}
def j6.refl c h w:j6 c h w c h w:=
 ⟨bB _,λ_ _ _=>rfl,λo obj j=> .inr ⟨o,obj,j,rfl⟩,λ_ h=> .inl h,bB _,λ_ _ h=> .inl h,λ_ _ h=>h,⟨rfl,rfl⟩⟩
def j6.trans {c' D h' E H} (a:j6 c h w c' h' w') (b:j6 c' h' w' D E H):j6 c h w D E H:=by
 refine⟨fJ a.size b.size,λk I O=> ?_,λo obj B=> ?_,λo B=> ?_,fJ a.nxt b.nxt,λk row I=> ?_,λo B hd=>b.dead o (iR B a.nxt) (a.dead o B hd),⟨b.io.1.trans a.io.1,b.io.2.trans a.io.2⟩⟩;rw[b.same k (iR I a.size) ?_,a.same k I O];intro o obj B e;rcases a.new o obj B with h1|⟨A,j,h1,G⟩;omega
 grind
 rcases b.new o obj B with h1|⟨A,j,h1,G⟩;exact .inl (fJ a.size h1);rcases a.new A j h1 with L|⟨N,J,L,S⟩;exact .inl (G▸L)
 grind
 rcases b.dM o B with h1|h1;exact a.dM o h1;exact .inr (fJ a.nxt h1);rcases b.im k row I with h1|h1|⟨o,obj,h1,h2⟩;exact a.im k row h1;exact .inr (.inl (fJ a.size h1));rcases a.new o obj h1 with G|⟨A,j,G,L⟩;exact .inr (.inl (h2▸G))
 grind
def cH.refl (r:RS CR c h w):cH CR c h w c h w:=⟨gE.refl c,r,j6.refl c h w⟩
def cH.trans {c' j h' A B} (a:cH CR c h w c' h' w') (b:cH CR c' h' w' j A B):cH CR c h w j A B:=
 ⟨a.ext.trans b.ext,b.rs,a.keep.trans b.keep⟩
def RS.heap (r:RS CR c h w) (A:w'.heap=w.heap):RS CR c h w':=
 ⟨r.nx,r.lt,λo obj j=>(r.obj o obj j).mono (gE.refl c) j.dM (by rw[A]),r.inj,λb row hb=>by rw[A];exact r.im b row hb,r.dj,r.gl⟩
def cH.heap (r:RS CR c h w) (j:w'.heap=w.heap) (B:w'.os=w.os/\ w'.output=w.output:=by exact⟨rfl,rfl⟩):cH CR c h w c h w':=
 ⟨gE.refl c,r.heap j,⟨by rw[j];exact bB _,λb _ _=>by rw[j],λo obj A=> .inr ⟨o,obj,A,rfl⟩,λ_ h=> .inl h,bB _,λ_ _ h=> .inl h,λ_ _ h=>h,B⟩⟩
def RS.push (r:RS CR c h w) (B:∀b,b<w.heap.size ->w'.heap[b]? =w.heap[b]?):RS CR c h w':=
 ⟨r.nx,r.lt,λo obj j=>by
  by_cases A:live obj=true;exact(r.obj o obj j).mono (gE.refl c) j.dM (B _ ((r.obj o obj j).lt A));exact bh j.live A,
  r.inj,λb row hb=>by
   obtain⟨t,D,h1⟩:=r.im b row hb;exact⟨t,D,by rw[B b (jX.1 h1).1];exact h1⟩,r.dj,r.gl⟩
def CE.add (c:CE) (id j base n:Nat):CE:=
 { c with dM:=λo=>c.dM o∨o=id,ρ:=λo=>if o=id then (j,base) else c.ρ o,sz:=λo=>if o=id then n else c.sz o }
def CE.add_ext c {id} (hi:¬c.dM id) j base n:gE c (c.add id j base n):=
 ⟨λ_ h=> .inl h,λo A=>by simp[CE.add,show o≠id from λe=>hi (e▸A)],λo A=>by simp[CE.add,show o≠id from λe=>hi (e▸A)],λ_ _ h=>h,rfl⟩
@[simp] theorem CE.add_ρ (c:CE) (id j base n):(c.add id j base n).ρ id=(j,base):=by simp[CE.add]
@[simp] def CE.add_sz (c:CE) (id j base n):(c.add id j base n).sz id=n:=by simp[CE.add]
@[simp] def CE.add_dom (c:CE) (id j base n):(c.add id j base n).dM id:= .inr rfl
@[simp] def CE.add_im (c:CE) (id j base n):(c.add id j base n).im=c.im:=rfl
def RS.im_lt (r:RS CR c h w) {b row} (hb:c.im b=some row):b<w.heap.size:=by
 obtain⟨t,j,h1⟩:=r.im b row hb;exact(jX.1 h1).1
def RS.fresh (r:RS CR c h w):¬c.dM h.next:=λk=>Nat.lt_irrefl _ (r.nx _ k)
def cH.come (r:RS CR c h w) {id} (I:¬c.dM id) (V:id<h.next) (H:h.oB.get id=some obj)
 (E:∀b,b<w.heap.size ->w'.heap[b]? =w.heap[b]?) (j n) (J:c.im j=none) (b0:∀o ob,dU c h o ob ->(c.ρ o).1≠j)
 (L:gR CR (c.add id j 0 n) w' id obj):gE c (c.add id j 0 n)/\ RS CR (c.add id j 0 n) h w':=by
 have N:=CE.add_ext c I j 0 n;have hh:∀o ob',dU (c.add id j 0 n) h o ob' ->(o=id/\ ob'=obj)∨(o≠id/\ dU c h o ob'):=by
  intro o ob' A;by_cases e:o=id;subst e;exact .inl ⟨rfl,gC (A.get.symm.trans H)⟩;exact .inr ⟨e,A.get,A.live,A.dM.resolve_right e⟩
 have G:∀o,o≠id ->(c.add id j 0 n).ρ o=c.ρ o:=λo e=>by simp[CE.add,e]
 refine⟨N,⟨?_,r.lt,?_,?_,?_,?_,?_⟩⟩;intro o A;rcases A with A|rfl;exact r.nx o A;exact V;intro o ob' A;rcases hh o ob' A with ⟨rfl,rfl⟩|⟨e,D⟩;exact L;exact(r.obj o ob' D).mono N D.dM (E _ ((r.obj o ob' D).lt D.live));intro o O U B A W S;rcases hh o U A with ⟨rfl,rfl⟩|⟨e,D⟩<;>rcases hh O B W with ⟨rfl,rfl⟩|⟨f,X⟩
 rfl
 grind[CE.add_ρ]
 grind[CE.add_ρ]
 rw[G o e,G O f] at S;exact r.inj o O U B D X S;intro b row hb;obtain⟨t,Y,h1⟩:=r.im b row hb;exact⟨t,Y,by rw[E b (r.im_lt hb)];exact h1⟩;intro o ob' A;rcases hh o ob' A with ⟨rfl,rfl⟩|⟨e,D⟩;rw[CE.add_ρ];exact J;rw[G o e];exact r.dj o ob' D;intro g l hg;obtain⟨row,vs,h1,h2,Z⟩:=r.gl g l hg;exact⟨row,vs,h1,h2,Z.mono N⟩
def RS.lay (r:RS CR c h w) obj:RS CR c ⟨Nat.succ h.next,h.ver,h.oB.put h.next obj⟩ w:=by
 have hh:∀o ob',dU c ⟨Nat.succ h.next,h.ver,h.oB.put h.next obj⟩ o ob' ->dU c h o ob':=by
  intro o ob' j;have D:o≠h.next:=λe=>r.fresh (e▸j.dM);have:=j.get;rw[T.get_put,aD D] at this;exact⟨this,j.live,j.dM⟩
 refine⟨λo j=>ui (r.nx o j),?_,λo ob' j=>r.obj o ob' (hh o ob' j),λo A a b j B=>r.inj o A a b (hh o a j) (hh A b B),r.im,λo ob' j=>r.dj o ob' (hh o ob' j),r.gl⟩;intro o ob' j;rw[T.get_put] at j;by_cases e:o=h.next
 grind
 rw[aD e] at j;exact ui (r.lt o ob' j)
def cH.alloc (r:RS CR c h w) {ob} (E:w'.heap=w.heap.push ob) n
 (D:gR CR (c.add h.next w.heap.size 0 n) w' h.next obj) (H:w'.os=w.os/\ w'.output=w.output:=by exact⟨rfl,rfl⟩):
 cH CR c h w (c.add h.next w.heap.size 0 n) ⟨Nat.succ h.next,h.ver,h.oB.put h.next obj⟩ w':=by
 have B:∀b,b<w.heap.size ->w'.heap[b]? =w.heap[b]? :=λb hb=>by rw[E,Ch hb];exact(tJ hb).symm
 have r1:=r.lay obj;have h1:=cH.come r1 r.fresh (qI _) (obj:=obj) (by rw[T.get_put,aF rfl]) B w.heap.size n
  (by cases h2:c.im w.heap.size with|none=>rfl|some row=>have:=r.im_lt h2;simp at this)
  (λo ob' j=>by
   have G:o≠h.next:=λe=>r.fresh (e▸j.dM);have A:=j.get;rw[T.get_put,aD G] at A;exact Nat.ne_of_lt ((r.obj o ob' ⟨A,j.live,j.dM⟩).lt j.live)) D
 refine⟨h1.1,h1.2,⟨by rw[E];simp,λb hb _=>B b hb,?_,λo j=>j.elim .inl λe=> .inr (Nat.le_of_eq e.symm),nD _,λ_ _ h=> .inl h,λo j hd ob A=> ?_,H⟩⟩;intro o ob' j;by_cases e:o=h.next
 simp_all
 right;have A:=j.get;rw[T.get_put,aD e] at A;exact⟨o,ob',⟨A,j.live,j.dM.resolve_right e⟩,by simp[CE.add,e]⟩;rw[T.get_put,aD (show o≠h.next by omega)] at A;exact hd ob A
def cH.write (r:RS CR c h w) {obj'} (G:dU c h o obj)
 (O:w'.heap.size=w.heap.size) (S:∀b,b≠(c.ρ o).1 ->w'.heap[b]? =w.heap[b]?) (N:gR CR c w' o obj') (ver) (Y:w'.os=w.os/\ w'.output=w.output:=by exact⟨rfl,rfl⟩):
 cH CR c h w c ⟨h.next,ver,h.oB.put o obj'⟩ w':=by
 have hh:∀j ob',dU c ⟨h.next,ver,h.oB.put o obj'⟩ j ob' ->(j=o/\ ob'=obj')∨(j≠o/\ dU c h j ob'):=by
  intro j ob' B;have L:=B.get;rw[T.get_put] at L;by_cases e:j=o
  grind
  rw[aD e] at L;exact .inr ⟨e,L,B.live,B.dM⟩
 refine⟨gE.refl c,⟨r.nx,?_,?_,?_,?_,?_,r.gl⟩,⟨by rw[O];exact bB _,λb _ X=>S b λe=>X o obj G e.symm,?_,λ_ h=> .inl h,bB _,λ_ _ h=> .inl h,λj _ hd ob L=> ?_,Y⟩⟩;intro j ob' B;rw[T.get_put] at B;by_cases e:j=o;subst e;exact r.lt _ obj G.get;rw[aD e] at B;exact r.lt _ _ B;intro j ob' B;rcases hh j ob' B with ⟨rfl,rfl⟩|⟨e,I⟩;exact N;exact(r.obj j ob' I).mono (gE.refl c) I.dM (S _ λk=>e (r.inj j o ob' obj I G k));intro D E U A h1 h2 J;rcases hh D U h1 with ⟨e,_⟩|⟨e,I⟩<;>rcases hh E A h2 with ⟨f,_⟩|⟨f,V⟩
 rw[e,f];rw[e] at J;exact bh (r.inj E o A obj V G J.symm) f;rw[f] at J;exact bh (r.inj D o U obj I G J) e;exact r.inj D E U A I V J;intro b row hb;obtain⟨t,W,h1⟩:=r.im b row hb;refine⟨t,W,?_⟩;rw[S b ?_];exact h1;intro e;have:=r.dj o obj G;rw[←e,hb] at this;cases this;intro j ob' B;rcases hh j ob' B with ⟨e,_⟩|⟨_,e⟩;subst e;exact r.dj _ obj G;exact r.dj _ _ e
 grind
 have H:(h.oB.put o obj').get j=some ob:=L;rw[T.get_put] at H;by_cases e:j=o;subst e;have:=hd obj G.get;rw[G.live] at this;cases this;rw[aD e] at H;exact hd ob H
end
section
variable {CR:Nat ->Code ->aw ->Prop}
def cH.drop {c h w} (r:RS CR c h w) o ver (G:o<h.next):cH CR c h w c ⟨h.next,ver,h.oB.put o .gone⟩ w:=by
 have hh:∀j ob',dU c ⟨h.next,ver,h.oB.put o .gone⟩ j ob' ->j≠o/\ dU c h j ob':=by
  intro j ob' A;have B:=A.get;rw[T.get_put] at B;by_cases e:j=o;rw[aF e] at B;have:=A.live;rw[←gC B] at this;cases this;rw[aD e] at B;exact⟨e,B,A.live,A.dM⟩
 refine⟨gE.refl c,⟨r.nx,?_,λj ob' A=>r.obj _ _ (hh j ob' A).2,λD E a b h1 h2=>r.inj _ _ _ _ (hh D a h1).2 (hh E b h2).2,r.im,λj ob' A=>r.dj _ _ (hh j ob' A).2,r.gl⟩,
  ⟨bB _,λ_ _ _=>rfl,λj ob' A=> .inr ⟨j,ob',(hh j ob' A).2,rfl⟩,λ_ h=> .inl h,bB _,λ_ _ h=> .inl h,λj _ hd ob B=> ?_,⟨rfl,rfl⟩⟩⟩
 intro j ob' A;rw[T.get_put] at A;by_cases e:j=o;subst e;exact G;rw[aD e] at A;exact r.lt _ _ A;replace B:(h.oB.put o .gone).get j=some ob:=B;rw[T.get_put] at B;by_cases e:j=o;rw[aF e] at B;rw[←gC B];rfl;rw[aD e] at B;exact hd ob B
def cH.move {c h w w'} (r:RS CR c h w) {o obj obj'} (L:dU c h o obj)
 (V:w'.heap.size=w.heap.size) (W:∀b,b≠(c.ρ o).1 ->w'.heap[b]? =w.heap[b]?) (base n ver)
 (U:gR CR (c.add h.next (c.ρ o).1 base n) w' h.next obj') (hq:w'.os=w.os/\ w'.output=w.output:=by exact⟨rfl,rfl⟩):
 cH CR c h w (c.add h.next (c.ρ o).1 base n) ⟨Nat.succ h.next,ver,(h.oB.put o .gone).put h.next obj'⟩ w':=by
 have X:=CE.add_ext c r.fresh (c.ρ o).1 base n;have b0:o<h.next:=r.lt o obj L.get;have hh:∀j ob',dU (c.add h.next (c.ρ o).1 base n) ⟨Nat.succ h.next,ver,(h.oB.put o .gone).put h.next obj'⟩ j ob' ->(j=h.next/\ ob'=obj')∨(j≠o/\ j≠h.next/\ dU c h j ob'):=by
  intro j ob' A;have E:=A.get;rw[T.get_put,T.get_put] at E;by_cases e:j=h.next
  grind
  rw[aD e] at E;by_cases e2:j=o;rw[aF e2] at E;have:=A.live;rw[←gC E] at this;cases this;rw[aD e2] at E;exact .inr ⟨e2,e,E,A.live,A.dM.resolve_right e⟩
 have I:∀j,j≠h.next ->(c.add h.next (c.ρ o).1 base n).ρ j=c.ρ j:=λj h1=>by simp[CE.add,h1]
 have H:(c.add h.next (c.ρ o).1 base n).ρ h.next=((c.ρ o).1,base):=by simp
 refine⟨X,⟨?_,?_,?_,?_,?_,?_,?_⟩,⟨by rw[V];exact bB _,λb _ hn=>W b λe=>hn o obj L e.symm,?_,λo L=>L.elim .inl λe=> .inr (Nat.le_of_eq e.symm),nD _,λ_ _ h=> .inl h,?_,hq⟩⟩;intro j A;rcases A with A|rfl;exact ui (r.nx j A);exact qI _;intro j ob' A;rw[T.get_put,T.get_put] at A;by_cases e:j=h.next
 grind
 rw[aD e] at A;by_cases e2:j=o
 grind
 rw[aD e2] at A;exact ui (r.lt _ _ A);intro j ob' A;rcases hh j ob' A with ⟨rfl,rfl⟩|⟨e,e2,J⟩;exact U;exact(r.obj j ob' J).mono X J.dM (W _ λk=>e (r.inj j o ob' obj J L k));intro B D Y G h1 h2 N;rcases hh B Y h1 with ⟨e,J⟩|⟨e,e2,J⟩<;>rcases hh D G h2 with ⟨f,O⟩|⟨f,f2,O⟩
 rw[e,f];rw[e,H,I D f2] at N;exact bh (r.inj D o G obj O L N.symm) f;rw[f,H,I B e2] at N;exact bh (r.inj B o Y obj J L N) e;rw[I B e2,I D f2] at N;exact r.inj B D Y G J O N;intro b row hb;obtain⟨t,Z,h1⟩:=r.im b row hb;refine⟨t,Z,?_⟩;rw[W b ?_];exact h1;intro e;have h2:=r.dj o obj L;have S:c.im b=some row:=hb;rw[←e,S] at h2;cases h2;intro j ob' A;rcases hh j ob' A with ⟨e,_⟩|⟨_,e2,J⟩;subst e;rw[H];exact r.dj o obj L;rw[I j e2];exact r.dj j ob' J;intro g l E;obtain⟨row,vs,h1,h2,S⟩:=r.gl g l E;exact⟨row,vs,h1,h2,S.mono X⟩
 grind
 intro j A hd ob E;replace E:((h.oB.put o .gone).put h.next obj').get j=some ob:=E;rw[T.get_put,aD (show j≠h.next by omega),T.get_put] at E;by_cases e:j=o;rw[aF e] at E;rw[←gC E];rfl;rw[aD e] at E;exact hd ob E
def cH.leave {c h w w'} (r:RS CR c h w) {o obj'} (j:o<h.next) {ob}
 (D:w'.heap=w.heap.push ob) (n ver) (A:gR CR (c.add h.next w.heap.size 0 n) w' h.next obj') (B:w'.os=w.os/\ w'.output=w.output:=by exact⟨rfl,rfl⟩):
 cH CR c h w (c.add h.next w.heap.size 0 n) ⟨Nat.succ h.next,ver,(h.oB.put o .gone).put h.next obj'⟩ w':=
 (cH.drop r o ver j).trans (cH.alloc (cH.drop r o ver j).rs D n A B)
end
def qN (row:Array Value):Nat ->List Value ->Array Value
 |_,[]=>row
 |o,v::r=>qN (row.setIfInBounds o v) (o+1) r
theorem qO:∀vs row o,(qN row o vs).size=row.size
 |[],_,_=>rfl
 |v::r,row,o=>by rw[qN,qO r];simp
def zS:∀vs row o,o+vs.length<=row.size ->∀i,(qN row o vs)[i]? =if o<=i/\ i<o+vs.length then vs[i-o]? else row[i]?
 |[],row,o,_,i=>by
  simp only[qN,ji,vG];rw[aD ω]
 |v::r,row,o,h,i=>by
  simp only[gJ] at h;rw[qN,zS r _ (o+1) (by simp;omega)];simp only[gJ];by_cases h1:o+1<=i/\ i<o+1+r.length
  grind
  grind
def X9 (w:World) a v {b} (h:b≠a.block):(w.setCell a v).heap[b]? =w.heap[b]? :=by
 grind[World.setCell]
def Ya (w:World) b o v {row t j} (h:w.heap[b]? =some (.cells row t j)):
 (w.setCell ⟨b,o,none⟩ v).heap[b]? =some (.cells (row.setIfInBounds o v) t j):=by
 grind[World.setCell]
def Cy b:∀vs o (w:World),(w.setCells b o vs).heap.size=w.heap.size
 |[],_,_=>rfl
 |v::r,o,w=>by rw[World.setCells,Cy b r];simp
def Cz b:∀vs o (w:World),(w.setCells b o vs).os=w.os/\ (w.setCells b o vs).output=w.output
 |[],_,_=>⟨rfl,rfl⟩
 |v::r,o,w=>by rw[World.setCells];exact Cz b r _ _
def CA b:∀vs o (w:World) {b'},b'≠b ->(w.setCells b o vs).heap[b']? =w.heap[b']?
 |[],_,_,_,_=>rfl
 |v::r,o,w,b',h=>by rw[World.setCells,CA b r _ _ h,X9 _ _ _ h]
def CB b:∀vs o (w:World) {row t fr},w.heap[b]? =some (.cells row t fr) ->
 (w.setCells b o vs).heap[b]? =some (.cells (qN row o vs) t fr)
 |[],_,_,_,_,_,h=>h
 |v::r,o,w,_,_,_,h=>CB b r (o+1) _ (Ya w b o v h)
def pW {w:World} {b i row t j} (h:w.heap[b]? =some (.cells row t j)):w.cell? ⟨b,i,none⟩=row[i]? :=by
 simp[World.cell?,h]
def F2 {w:World} {b i row t lo hi} (h:w.heap[b]? =some (.cells row t (lo,hi))) (j:¬(lo<=i/\ i<hi)):w.frozen? ⟨b,i,none⟩=false:=by
 grind[World.frozen?]
section vrs
variable {c:CE}
def bX.length {l vs} (h:bX c l vs):vs.length=l.length:=by
 induction l generalizing vs with
 |nil=>cases h;rfl
 |cons a t A=>cases h with|cons _ _ v r h j=>simp[A j]
theorem bX.get {l vs} (h:bX c l vs) (i:Nat) {a} (j:l[i]? =some a):∃v,vs[i]? =some v/\ VR c a v:=by
 induction l generalizing vs i with
 |nil=>simp at j
 |cons b t B=>
  cases h with
  |cons _ _ v r h A=>
   rcases i with _|i;simp at j;subst j;exact⟨v,rfl,h⟩;simp at j;simpa using B A i j
def bX.append {l m vs j} (h:bX c l vs) (k:bX c m j):bX c (l++m) (vs++j):=by
 induction l generalizing vs with
 |nil=>cases h;exact k
 |cons a t B=>cases h with|cons _ _ v r h A=>exact .cons _ _ _ _ h (B A)
def bX.take {l vs} (h:bX c l vs) n:bX c (l.take n) (vs.take n):=by
 induction l generalizing vs n with
 |nil=>cases h;simp;exact .nil
 |cons a t A=>
  cases h with
  |cons _ _ v r h j=>
   rcases n with _|n;exact .nil;exact .cons _ _ _ _ h (A j n)
def bX.drop {l vs} (h:bX c l vs) n:bX c (l.drop n) (vs.drop n):=by
 induction l generalizing vs n with
 |nil=>cases h;simp;exact .nil
 |cons a t A=>
  cases h with
  |cons _ _ v r h j=>
   rcases n with _|n;exact .cons _ _ _ _ h j;exact A j n
def bX.replicate {z zs} (h:bX c z zs) n:bX c (List.replicate n z).flatten (List.replicate n zs).flatten:=by
 induction n with
 |zero=>exact .nil
 |succ n j=>rw[uc,uc,vD,vD];exact h.append j
theorem VR.cells {x v} (h:VR c x v) (j:ew x=true∨∃l,x= .ag l):∃vs,v.cells=vs.toArray/\ bX c (cellsOf x) vs:=by
 cases h with
 |ag l vs h=>exact⟨vs,rfl,h⟩
 |un v=>rcases j with j|⟨l,j⟩<;>cases j
 |tu l vs h=>rcases j with j|⟨l,j⟩<;>cases j
 |dp l D A base row vs B E G=>exact⟨[_],rfl,.cons _ _ _ _ (.dp l D A base row vs B E G) .nil⟩
 |_=>first|exact⟨[_],rfl,.cons _ _ _ _ (by constructor<;>assumption) .nil⟩|skip
def VR.oneCell {x v} (h:VR c x v) (j:ew x=true):v.oneCell'=true:=by
 cases h<;>first|rfl|cases j
def bX.oneCell {l vs} (h:bX c l vs) (A:wV l=true):∀v∈vs,v.oneCell'=true:=by
 induction l generalizing vs with
 |nil=>cases h;intro v D;cases D
 |cons a t E=>
  cases h with
  |cons _ _ v r h j=>
   have h1:ew a=true/\ wV t=true:=by
    cases j:ew a with
    |true=>exact⟨rfl,by have:wV (a::t)=(Bool.rec false (wV t) (ew a):Bool):=rfl;rw[this,j] at A;exact A⟩
    |false=>have:wV (a::t)=(Bool.rec false (wV t) (ew a):Bool):=rfl;rw[this,j] at A;cases A
   intro u B;rcases ey.1 B with e|e;subst e;exact h.oneCell h1.1;exact E j h1.2 u e
end vrs
end AM
namespace AM
open Go
noncomputable section
def Yb {x l} (h:cellsO x=some l):cellsOf x=l/\ (ew x=true∨∃l,x= .ag l):=by
 cases x<;>simp[cellsO] at h<;>simp[cellsOf,ew,h]
def VR.cellsO {c:CE} {x:AV} {v:Value} (h:VR c x v) {l:List AV} (j:cellsO x=some l):∃vs,v.cells=vs.toArray/\ bX c l vs:=by
 obtain⟨h1,h2⟩:=Yb j;rw[←h1];exact h.cells h2
def kv:Nat ->AV ->Value ->Bool
 |_,.b x,.bool y=>x==y
 |_,.i k n,.int k' n'=>decide (k=k')&&eO n n'
 |_,.s l,.string bs=>nF (bs.data.toList.map UInt8.toNat) l
 |_,.pn,.pointer none=>true
 |_,.sn,.slice none a b=>Nat.beq a 0&&Nat.beq b 0
 |_,.mn,.map none=>true
 |_,.fnil,.nilFunc=>true
 |_,.ifn,.nilIface=>true
 |_,.un,_=>true
 |_,.f g [] [],.func (.func g') a b=>Nat.beq g g'&&Nat.beq a.size 0&&Nat.beq b.size 0
 |n+1,.ifc t v,.iface t' v'=>Nat.beq t t'&&kv n v v'
 |n+1,.ag l,.agg vs=>List.rec (motive:=λ_=>List Value ->Bool) (λv=>List.isEmpty v) (λa _ j v=>match v with|[]=>false|u::r=>kv n a u&&j r) l vs.toList
 |n+1,.tu l,.tuple vs=>List.rec (motive:=λ_=>List Value ->Bool) (λv=>List.isEmpty v) (λa _ j v=>match v with|[]=>false|u::r=>kv n a u&&j r) l vs.toList
 |_,_,_=>false
def CC (n:Nat) (l:List AV):List Value ->Bool:=
 List.rec (motive:=λ_=>List Value ->Bool) (λv=>List.isEmpty v) (λa _ j v=>match v with|[]=>false|u::r=>kv n a u&&j r) l
def CD {n} (j:∀a v,kv n a v=true ->∀c,VR c a v) c:∀{l vs},CC n l vs=true ->bX c l vs
 |[],[],_=> .nil
 |[],_::_,h=>by cases h
 |a::t,[],h=>by cases h
 |a::t,v::r,h=>by
  have h':(kv n a v&&CC n t r)=true:=h;simp only[aB] at h';exact .cons _ _ _ _ (j a v h'.1 c) (CD j c h'.2)
def CG:∀n a v,kv n a v=true ->∀c,VR c a v:=by
 intro n;induction n with
 |zero=>
  intro a v h c;unfold kv at h;split at h;simp at h;subst h;exact .b _;simp only[aB,aU,A3] at h;obtain⟨rfl,rfl⟩:=h;exact .i _ _;simp only[mH,aU] at h;exact .s _ _ h;exact .pn;simp only[aB,bu,aU] at h;obtain⟨rfl,rfl⟩:=h;exact .sn;exact .mn;exact .fnil;exact .ifn;exact .un _;simp only[aB,bu,aU] at h;obtain⟨⟨rfl,h1⟩,h2⟩:=h;rw[Lx] at h1 h2;subst h1 h2;exact .f _ [] [] [] [] .nil .nil;all_goals first|omega|(exact bh h (by simp))
 |succ n A=>
  intro a v h c;unfold kv at h;split at h;simp at h;subst h;exact .b _;simp only[aB,aU,A3] at h;obtain⟨rfl,rfl⟩:=h;exact .i _ _;simp only[mH,aU] at h;exact .s _ _ h;exact .pn;simp only[aB,bu,aU] at h;obtain⟨rfl,rfl⟩:=h;exact .sn;exact .mn;exact .fnil;exact .ifn;exact .un _;simp only[aB,bu,aU] at h;obtain⟨⟨rfl,h1⟩,h2⟩:=h;rw[Lx] at h1 h2;subst h1 h2;exact .f _ [] [] [] [] .nil .nil;rename_i j;simp only[aB,bu,aU] at h;obtain⟨rfl,h2⟩:=h;cases j;exact .ifc _ _ _ (A _ _ h2 c);rename_i vs j;cases j;have:=CD A c (vs:=vs.toList) h;exact(by simpa using VR.ag _ _ this);rename_i vs j;cases j;have:=CD A c (vs:=vs.toList) h;exact(by simpa using VR.tu _ _ this);exact bh h (by simp)
structure TI where
 kd:TypeDesc
 size:Nat
 bytes:Nat
 zs:List AV
 sh:Bool
def LC {a b} (h:zM a b=true):a=b:=by
 unfold zM at h;split at h;simpa using h;simp only[aB,aU,A3] at h;have j:∀k k':IntKind,gZ k k'=true ->k'=k:=by intro k k';cases k<;>cases k'<;>intro h<;>first|rfl|cases h
 rw[h.2,j _ _ h.1]
 simp_all [mH,aU]
 simp_all
 all_goals first|rfl|cases h
def nI:∀{l m},jJ l m=true ->l=m
 |[],[],_=>rfl
 |[],_::_,h=>by cases h
 |a::t,[],h=>by cases h
 |a::t,v::r,h=>by
  have h':(zM a v&&jJ t r)=true:=h;simp only[aB] at h';rw[LC h'.1,nI h'.2]
structure gT (P:Program) (t:TypeId) (i:TI):Prop where
 und:P.underlying t=some i.kd
 info:∃inf zv,P.info? t=some inf/\ inf.size=i.size/\ inf.bytes=i.bytes/\ inf.zero=some zv/\
  ((i.kd.isRow=true/\∃vs,zv= .agg vs/\ CC 2 i.zs vs.toList=true)∨(i.kd.isRow=false/\∃z,i.zs=[z]/\ kv 2 z zv=true/\ ew z=true))
 sh:P.stoodInHeld t=i.sh
def lN (P:Program) (ty:T TI):Prop:=∀t i,ty.get t=some i ->gT P t i
def gT.zero {P:Program} {t i} (h:gT P t i) c:∃j A vs,P.info? t=some j/\ j.size=i.size/\ j.bytes=i.bytes/\ j.zero=some A/\ A.cells=vs.toArray/\ bX c i.zs vs/\
 (i.kd.isRow=true ->VR c (.ag i.zs) A)/\ (i.kd.isRow=false ->∃z,i.zs=[z]/\ VR c z A/\ ew z=true):=by
 obtain⟨j,A,h1,h2,I,J,D⟩:=h.info;rcases D with ⟨D,vs,rfl,E⟩|⟨D,z,E,O,H⟩;have L:=CD (CG 2) c E;exact⟨j,_,vs.toList,h1,h2,I,J,by simp[Value.cells],L,λ_=>by simpa using VR.ag _ _ L,λk=>bh (D.symm.trans k) (by simp)⟩;have N:=CG 2 z A O c;obtain⟨vs,S,B⟩:=N.cells (.inl H);have:cellsOf z=[z]:=by cases z<;>first|rfl|cases H
 rw[this] at B;have G:bX c i.zs vs:=by rw[E];exact B
 exact⟨j,A,vs,h1,h2,I,J,S,G,λk=>bh (D.symm.trans k) (by simp),λ_=>⟨z,E,N,H⟩⟩
def dC:MA ->Operand ->Bool
 | .t n,.tmp m=>Nat.beq n m
 | .c v,.const x=>kv 8 v x
 | .c v,.func g=>kv 8 v (.func (.func g) #[] #[])
 | .g n,.global m=>Nat.beq n m
 |_,_=>false
def jo (l:List MA):List Operand ->Bool:=
 List.rec (motive:=λ_=>List Operand ->Bool) (λv=>List.isEmpty v) (λa _ j v=>match v with|[]=>false|u::r=>dC a u&&j r) l
def gK:Option MA ->Option Operand ->Bool
 |none,none=>true
 |some a,some x=>dC a x
 |_,_=>false
section
variable {R:Type} (C:aK R)
def zT {c τ} {a:Act} (E:TR c τ a.tmps) (D:∀g l,C.gL.get g=some l ->c.gl g=some l)
 (j:∀g l,c.gl g=some l ->∃row vs,c.im g=some row/\ xO row 0 vs/\ bX c l vs) {m x} (h:dC m x=true):VR c (az C τ m) (a.eval x):=by
 unfold dC at h;split at h;rename_i n k;simp only[bu,aU] at h;subst h;show VR c (Option.rec .un (λv=>v) (τ.get n)) (a.tmps.getD n undef);rcases A:τ.get n with _|v;exact .un _;obtain⟨v',h1,h2⟩:=E n v A;have:a.tmps.getD n undef=v':=by simp[h1]
 rw[this];exact h2;exact CG _ _ _ h c;exact CG _ _ _ h c;rename_i n k;simp only[bu,aU] at h;subst h;show VR c (Option.rec .un (λl=> .dp l 0) (C.gL.get n)) (.pointer (some ⟨n,0,none⟩));rcases A:C.gL.get n with _|l;exact .un _;obtain⟨row,vs,h1,h2,B⟩:=j n l (D n l A);exact .dp l 0 n 0 row vs h1 h2 B;cases h
end
section
variable (P:Program) (CR:Nat ->Code ->aw ->Prop)
def cV (c:CE) (h:AH) (w:World) (x:AV) (h':AH) (r:Result Next):Prop:=
 ∃c' w' nx,r= .ok nx w'/\ cH CR c h w c' h' w'/\ ((∃v,nx= .value v/\ VR c' x v)∨(nx= .skip/\ x= .un))
def bD (c:CE) (h:AH) (w:World):da ->Result Next ->Prop
 | .v x h',r=>cV CR c h w x h' r
 | .call f args h',r=>h'=h/\∃vs,bX c args vs/\ r=(callFunc f vs.toArray).run P w
 | .yld l args h',r=>h'=h/\ c.dM l/\∃vs,bX c args vs/\ r=(Instr.yield (c.ρ l).1 vs.toArray).run P w
 | .alts l,r=>∃e∈l,cV CR c h w e.1 e.2 r
 | .bad,_=>True
structure Cx (c:CE) (h:AH) (w:World) (ev:MA ->AV) (ρ:Operand ->Value):Prop where
 rs:RS CR c h w
 hE:∀m x,dC m x=true ->VR c (ev m) (ρ x)
variable {P CR}
variable {c:CE} {h:AH} {w:World} {ev:MA ->AV} {ρ:Operand ->Value} {o:Oper} {t:TypeId} {i:TI}
def cV.same (r:RS CR c h w) {x v} (j:VR c x v):cV CR c h w x h (.ok (.value v) w):=
 ⟨c,w,_,rfl,cH.refl r,.inl ⟨v,rfl,j⟩⟩
def fS {s v w'} (j:s.run P w= .ok v w'):((do pure (Next.value (←s))):Sem Next).run P w= .ok (.value v) w':=by
 simp only[dz,j,ez,ig]
def zU {s w'} (j:s.run P w= .ok () w'):((do s;pure Next.skip):Sem Next).run P w= .ok .skip w':=by
 simp only[dz,j,ez,ig]
variable {a:MA}
def LD (X:Cx CR c h w ev ρ) {x} (j:o.op= .move x∨o.op= .assign x) (A:dC a x=true):bD P CR c h w (step ev h (.mv a)) ((execOp ρ o).run P w):=by
 have e:(execOp ρ o).run P w= .ok (.value (ρ x)) w:=by rcases j with j|j<;>simp only[execOp,j]<;>rfl
 rw[e];show bD P CR c h w (fV (ev a) λx=> .v x h) _;rw[jK];exact cV.same X.rs (X.hE _ _ A)
def Yc (X:Cx CR c h w ev ρ) {b d x y z} (D:o.op= .pick x y z) (h1:dC a x=true) (h2:dC b y=true) (B:dC d z=true):
 bD P CR c h w (Ip a b d ev h) ((execOp ρ o).run P w):=by
 have j:=X.hE _ _ h1;unfold Ip;cases E:ev a with
 |b t=>
  rw[E] at j;cases A:ρ x with
  |bool G=>
   rw[A] at j;cases j;have e:(execOp ρ o).run P w= .ok (.value (if t then ρ y else ρ z)) w:=by
    simp_all [execOp,D,A,asBool,dz,ig,ez]
   rw[e];cases t with
   |true=>simp only[jK];exact cV.same X.rs (X.hE _ _ h2)
   |false=>simp only[jK];exact cV.same X.rs (X.hE _ _ B)
  |_=>rw[A] at j;cases j
 |_=>trivial
def nJ (CR:Nat ->Code ->aw ->Prop) (c:CE) (w:World) (obj:Nat ->bC) (val:Nat ->AV) (r:Result Next):Prop:=
 ∃v w' ob n,r= .ok (.value v) w'/\ (w'.heap=w.heap.push ob/\ w'.os=w.os/\ w'.output=w.output)/\
  ∀c' j id ver,gE c c' ->c'.dM id ->c'.ρ id=(w.heap.size,0) ->c'.sz id=n ->j.heap[w.heap.size]? =some ob ->gR CR c' j id (obj ver)/\ VR c' (val id) v
def nJ.good {obj val r} (A:RS CR c h w) (a:nJ CR c w obj val r):
 bD P CR c h w (h.new (obj h.ver) λo h=> .v (val o) h) r:=by
 obtain⟨v,w',ob,n,rfl,⟨h2,D⟩,B⟩:=a;rw[AH.new_eq];have j:=B (c.add h.next w.heap.size 0 n) w' h.next h.ver (CE.add_ext c A.fresh _ _ _) (by simp) (by simp) (by simp) (by rw[h2];simp);exact⟨_,_,_,rfl,cH.alloc A h2 n j.1 D,.inl ⟨_,rfl,j.2⟩⟩
def F3 {l vs} (J:bX c l vs) t {w'} A D
 (H:∀j,j<vs.length+A.length ->¬(D.1<=j/\ j<D.2)) (L:w'.heap=w.heap.push (.cells (vs++A).toArray t D)) (val) (v)
 (E:∀c' id,c'.dM id ->c'.ρ id=(w.heap.size,0) ->c'.sz id=vs.length+A.length ->VR c' (val id) v) (I:w'.os=w.os/\ w'.output=w.output:=by exact⟨rfl,rfl⟩):
 nJ CR c w (λver=> .cells ver l) val (.ok (.value v) w'):=by
 refine⟨v,w',_,vs.length+A.length,rfl,⟨L,I⟩,λc' O id ver N hd B G hb=>⟨⟨(vs++A).toArray,t,D.1,D.2,vs,by rw[B];exact hb,by rw[G];simp,?_,J.mono N,?_,by rw[B];simp⟩,E c' id hd B G⟩⟩
 grind
 intro i v hi;rw[B];simp only[gB,FB];rw[pL (eC.1 hi).1];exact hi
def CH {l vs} (D:bX c l vs) t {w'} (E:w'.heap=w.heap.push (.cells vs.toArray t)) val v
 (A:∀c' id,c'.dM id ->c'.ρ id=(w.heap.size,0) ->c'.sz id=vs.length ->VR c' (val id) v) (B:w'.os=w.os/\ w'.output=w.output:=by exact⟨rfl,rfl⟩):
 nJ CR c w (λver=> .cells ver l) val (.ok (.value v) w'):=
 F3 D t [] (0,0) (λj _=>by simp) (by simpa using E) val v (by simpa using A) B
def VR.new {c' id b} (hd:c'.dM id) (j:c'.ρ id=(b,0)) k:VR c' (.p id k) (.pointer (some ⟨b,k,none⟩)):=by
 have:(⟨b,k,none⟩:Addr)=c'.addr id k:=by unfold CE.addr;rw[j];simp
 rw[this];exact .p _ _ hd
def LE (G:gT P t i) {z} (B:o.op= .alloc t) (D:z=i.zs):nJ CR c w (λver=> .cells ver z) (λo=> .p o 0) ((execOp ρ o).run P w):=by
 subst D;obtain⟨E,L,vs,h1,h2,H,I,J,A,_,_⟩:=G.zero c;have e:(execOp ρ o).run P w= .ok (.value (.pointer (some ⟨w.heap.size,0,none⟩))) { w with heap:=w.heap.push (.cells vs.toArray t) }:=by
  simp_all [execOp,B,Instr.alloc,zeroValue,typeInfo,newVar,newRow]
 rw[e];exact CH A t rfl _ _ λc' id hd j _=>VR.new hd j 0
def LF (X:Cx CR c h w ev ρ) {x} (D:o.op= .box t x) (A:dC a x=true) {l} (B:cellsO (ev a)=some l):
 nJ CR c w (λver=> .cells ver l) (λo=> .p o 0) ((execOp ρ o).run P w):=by
 obtain⟨vs,h1,h2⟩:=(X.hE _ _ A).cellsO B;have e:(execOp ρ o).run P w= .ok (.value (.pointer (some ⟨w.heap.size,0,none⟩))) { w with heap:=w.heap.push (.cells vs.toArray t) }:=by
  simp_all [execOp,D,Instr.box,newVar,newRow]
 rw[e];exact CH h2 t rfl _ _ λc' id hd j _=>VR.new hd j 0
def LG (r:RS CR c h w) {x v} (O:VR c x v) {n cs}
 (Y:(∃o A l,x= .p o A/\ h.rows o=some l/\ sub l A n=some cs)∨(∃l A,x= .dp l A/\ sub l A n=some cs)):
 ∃b k vs,v= .pointer (some ⟨b,k,none⟩)/\ bX c cs vs/\ vs.length=n/\ w.rangeAt b k vs:=by
 rcases Y with ⟨o,A,l,rfl,X,J⟩|⟨l,A,rfl,J⟩;cases O with
 |p _ _ hd=>
  have E:=LB (CR:=CR) X;obtain⟨ob,E,H,I⟩:=E;obtain⟨row,t,lo,hi,vs,h1,h2,h3,N,V,_⟩:=I c w (r.obj o _ ⟨E,H,hd⟩);obtain⟨W,rfl⟩:=lM J;refine⟨_,_,(vs.drop A).take n,rfl,(N.drop A).take n,?_,?_⟩;have:=N.length;simp;omega;intro j u B;rw[pW h1];have L:j<n:=by
   have:=(eC.1 B).1;simp at this;omega
  rw[jZ,aF L,mB] at B;have:=V _ _ B;rw[←this];congr 1;omega
 cases O with
 |dp _ _ S base row vs G U D=>
  obtain⟨t,Z,h1⟩:=r.im _ _ G;obtain⟨W,rfl⟩:=lM J;refine⟨_,_,(vs.drop A).take n,rfl,(D.drop A).take n,?_,?_⟩;have:=D.length;simp;omega;intro j u B;rw[pW h1];have L:j<n:=by
   have:=(eC.1 B).1;simp at this;omega
  rw[jZ,aF L,mB] at B;have:=U _ _ B;rw[←this];congr 1;omega
def F4 {agg l x} (h:dB agg l=some x):(agg=true/\ x= .ag l)∨(agg=false/\ l=[x]):=by
 unfold dB at h;cases agg with
 |true=>simp at h;exact .inl ⟨rfl,h.symm⟩
 |false=>
  simp only[eU] at h;split at h
  grind
  cases h
def LH (D:gT P t i) (X:Cx CR c h w ev ρ) {x} (G:o.op= .load t x) (H:dC a x=true) {n agg} (W:n=i.size) (E:agg=i.kd.isRow):
 ∀cs y,((∃o j l,ev a= .p o j/\ h.rows o=some l/\ sub l j n=some cs)∨(∃l j,ev a= .dp l j/\ sub l j n=some cs)) ->dB agg cs=some y ->
  bD P CR c h w (.v y h) ((execOp ρ o).run P w):=by
 have N:=X.hE _ _ H;intro cs y O S;obtain⟨b,k,vs,e1,e2,e3,e4⟩:=LG X.rs N O;obtain⟨V,zv,U,Y,Z,i4,i5⟩:=D.info;rcases F4 S with ⟨g,rfl⟩|⟨g,rfl⟩;have e:(execOp ρ o).run P w= .ok (.value (.agg vs.toArray)) w:=by
  simp only[execOp,G];refine fS ?_;rw[e1];exact run_loadAt_mid w b k t vs i.kd e4 D.und (by rw[←E];exact g) (by rw[U];simp;omega)
 rw[e];exact cV.same X.rs (.ag _ _ e2);cases e2 with
 |cons _ _ u us L B=>
  cases B;have I:w.cell? ⟨b,k,none⟩=some u:=e4 0 u rfl;have A:(isAgg t).run P w= .ok false w:=by
   unfold isAgg;rw[dz,dL D.und w];have:i.kd.isRow=false:=by rw[←E];exact g
   cases J:i.kd<;>rw[J] at this<;>first|rfl|cases this
  have e:(execOp ρ o).run P w= .ok (.value u) w:=by
   simp_all [execOp,G,Instr.loadAt,Instr.sureAddr,loadVar,A,I]
  rw[e];exact cV.same X.rs L
def Yf (N:gT P t i) (X:Cx CR c h w ev ρ) {x} (L:o.op= .load t x) (G:dC a x=true) {n agg} (J:n=i.size) (H:agg=i.kd.isRow):
 bD P CR c h w (al7 a n agg ev h) ((execOp ρ o).run P w):=by
 have key:=LH N X L G J H;unfold al7;cases D:ev a with
 |p E j=>
  dsimp only;rcases I:h.cells E with _|l;trivial;dsimp only;rcases A:sub l j n with _|cs;trivial;dsimp only;unfold dr;rcases B:dB agg cs with _|y;trivial;exact key cs y (.inl ⟨E,j,l,D,F1 I,A⟩) B
 |dp l j=>
  dsimp only;rcases A:sub l j n with _|cs;trivial;dsimp only;unfold dr;rcases B:dB agg cs with _|y;trivial;exact key cs y (.inr ⟨l,j,D,A⟩) B
 |_=>trivial
def Yg (N:gT P t i) (X:Cx CR c h w ev ρ) {x} (L:o.op= .load t x) (G:dC a x=true) {n agg} (J:n=i.size) (H:agg=i.kd.isRow):
 bD P CR c h w (ar0 a n agg ev h) ((execOp ρ o).run P w):=by
 have key:=LH N X L G J H;unfold ar0;cases D:ev a with
 |p E j=>
  dsimp only;rcases I:h.rows E with _|l;trivial;dsimp only;rcases A:sub l j n with _|cs;trivial;dsimp only;unfold dr;rcases B:dB agg cs with _|y;trivial;exact key cs y (.inl ⟨E,j,l,D,I,A⟩) B
 |dp l j=>
  dsimp only;rcases A:sub l j n with _|cs;trivial;dsimp only;unfold dr;rcases B:dB agg cs with _|y;trivial;exact key cs y (.inr ⟨l,j,D,A⟩) B
 |_=>trivial
end
section
variable {P:Program} {CR:Nat ->Code ->aw ->Prop}
variable {c:CE} {h:AH} {w:World} {ev:MA ->AV} {ρ:Operand ->Value} {o:Oper} {t:TypeId} {i:TI}
def LJ (r:RS CR c h w) {k l l' new A B ob ob'} (V:dU c h k ob) (L:bX c new A) (N:eL new l B=some l') {T wh}
 (W:F0 c w k l T wh) (G:∀w',F0 c w' k l' T wh ->gR CR c w' k ob') (J):
 w.there (c.ρ k).1 ((c.ρ k).2+B) A.length/\
 cH CR c h w c ⟨h.next,J,h.oB.put k ob'⟩ (w.setCells (c.ρ k).1 ((c.ρ k).2+B) A):=by
 obtain⟨row,t,lo,hi,vs,h1,h2,O,E,S,h6,U,h8⟩:=W;have Z:=(xQ N).1;have I:=L.length;have Y:=E.length;refine⟨λj D=> ?_,?_⟩;rw[pW h1];exact⟨by rw[tJ ω];rfl,F2 h1 (O _ ω)⟩;refine cH.write r V (Cy _ _ _ _) (λb hb=>CA _ _ _ _ hb) (G _ ?_) J (Cz _ _ _ _);refine⟨_,t,lo,hi,vs.take B++A++vs.drop (B+A.length),CB _ _ _ _ h1,by rw[qO];exact h2,?_,?_,?_,?_,U,?_⟩
 grind[qO]
 have:=(xQ N).2;rw[this,←I];exact((E.take B).append L).append (E.drop _);intro j u D;rw[zS _ _ _ ω];have H:(vs.take B++A++vs.drop (B+A.length))[j]? =if B<=j/\ j<B+A.length then A[j-B]? else vs[j]? :=by
  refine LA (c:=A) (l:=vs) (n:=B) ?_ j;rw[xP,aF ω]
 rw[H] at D;by_cases X:B<=j/\ j<B+A.length
 grind
 rw[aD X] at D;rw[aD ω];exact S j u D
 grind[qO]
 grind[qO]
def F5 (r:RS CR c h w) {k l l' new j A} (hd:c.dM k) (N:h.cells k=some l) (O:bX c new j) (S:eL new l A=some l') ver J:
 w.there (c.ρ k).1 ((c.ρ k).2+A) j.length/\
 cH CR c h w c ⟨h.next,J,h.oB.put k (.cells ver l')⟩ (w.setCells (c.ρ k).1 ((c.ρ k).2+A) j):=by
 obtain⟨ob,L,B,I⟩:=zQ (CR:=CR) N;obtain⟨row,t,lo,hi,vs,h1,h2,D,E,G,H⟩:=I c w (r.obj k _ ⟨L,B,hd⟩);refine LJ r ⟨L,B,hd⟩ O S (T:=none) (wh:=false) ⟨row,t,lo,hi,vs,h1,h2,D,E,G,H,λ_ h=>(by cases h),λh=>(by cases h)⟩ (λw' U=> ?_) J;obtain⟨row,t,lo,hi,vs,h1,h2,D,E,G,H,_⟩:=U;exact⟨row,t,lo,hi,vs,h1,h2,D,E,G,H⟩
variable {x:Operand}
def F6 {x v} (h:VR c x v) (j:wV (cellsOf x)=true):∃vs,v.cells=vs.toArray/\ bX c (cellsOf x) vs/\∀u∈vs,u.oneCell'=true:=by
 have A:ew x=true∨∃l,x= .ag l:=by
  cases x with
  |ag l=>exact .inr ⟨l,rfl⟩
  |tu l=>exact bh (show false=true from j) (by simp)
  |un=>exact bh (show false=true from j) (by simp)
  |_=>exact .inl rfl
 obtain⟨vs,h1,h2⟩:=h.cells A;exact⟨vs,h1,h2,h2.oneCell j⟩
def F7 t {A} (hi:P.info? t=some A) b k v vs (G:v.cells=vs.toArray) (E:vs.length=A.size) (h1:∀u∈vs,u.oneCell'=true) (D:w.there b k vs.length):
 (storeVar t ⟨b,k,none⟩ v).run P w= .ok () (w.setCells b k vs):=by
 have:=run_storeCells_cells (P:=P) b k vs 0 w (λj B=>by simpa using (D j B).1) (λj B=>by simpa using (D j B).2) h1;simp only[vG] at this;simp[storeVar,Go.sizeOf,typeInfo,hi,G,E,this]
variable {a:MA} {n:Nat}
def Yh (Z:gT P t i) (X:Cx CR c h w ev ρ) {y z} (L:o.op= .store t x z) (H:dC a x=true) (U:dC y z=true) (J:n=i.size):
 bD P CR c h w (al8 a y n ev h) ((execOp ρ o).run P w):=by
 unfold al8;have B:=X.hE _ _ H;have D:=X.hE _ _ U;cases S:ev a with
 |p E j=>
  dsimp only;rcases I:h.cells E with _|l;trivial;dsimp only;rw[jK];rcases O:eL (cellsOf (ev y)) l j with _|l';trivial;dsimp only;cases A:(wV (cellsOf (ev y))&&Nat.beq (len (cellsOf (ev y))) n);trivial;simp only[aB,bu,aU,kZ] at A;obtain⟨vs,e1,e2,e3⟩:=F6 D A.1;rw[S] at B;generalize N:ρ x=vx at B;cases B with
  |p _ _ G=>
   obtain⟨h1,h2⟩:=F5 X.rs G I e2 O (Nat.succ h.ver) (Nat.succ h.ver);obtain⟨Y,zv,V,W,_⟩:=Z.info;have e:(execOp ρ o).run P w= .ok .skip (w.setCells (c.ρ E).1 ((c.ρ E).2+j) vs):=by
    simp only[execOp,L];refine zU ?_;rw[N];simp only[Instr.storeAt,Instr.sureAddr,dz,ig,ez];exact F7 t V _ _ _ vs e1 (by rw[e2.length,A.2,W];exact J) e3 h1
   rw[e];simp only[fC,AH.put_eq];exact⟨_,_,_,rfl,h2,.inr ⟨rfl,rfl⟩⟩
 |_=>trivial
def Yi (X:Cx CR c h w ev ρ) (B:o.op= .nilCheck x) (L:dC a x=true):bD P CR c h w (al9 a ev h) ((execOp ρ o).run P w):=by
 unfold al9;have j:=X.hE _ _ L;have key:∀v,ρ x=v ->(execOp ρ o).run P w= .ok (.value v) w ->VR c (ev a) v ->cV CR c h w (ev a) h ((execOp ρ o).run P w):=by
  intro v _ e j;rw[e];exact cV.same X.rs j
 cases D:ev a with
 |p N G=>
  rw[D] at j key;generalize A:ρ x=E at j key;cases j with|p _ _ J=>exact key _ rfl (by simp only[execOp,B,A];rfl) (.p _ _ J)
 |dp l G=>
  rw[D] at j key;generalize A:ρ x=E at j key;cases j with|dp _ _ S b2 row vs H I O=>exact key _ rfl (by simp only[execOp,B,A];rfl) (.dp _ _ _ _ row vs H I O)
 |f g U ca=>
  rw[D] at j key;generalize A:ρ x=E at j key;cases j with|f _ _ _ W V H I=>exact key _ rfl (by simp only[execOp,B,A];rfl) (.f _ _ _ _ _ H I)
 |y l=>
  rw[D] at j key;generalize A:ρ x=E at j key;cases j with|y _ q=>exact key _ rfl (by simp only[execOp,B,A];rfl) (.y _ q)
 |ifc t v=>
  rw[D] at j key;generalize A:ρ x=E at j key;cases j with|ifc _ _ v' q=>exact key _ rfl (by simp only[execOp,B,A];rfl) (.ifc _ _ _ q)
 |m N=>
  rw[D] at j key;generalize A:ρ x=E at j key;cases j with|m _ q=>exact key _ rfl (by simp only[execOp,B,A];rfl) (.m _ q)
 |_=>trivial
def CI {α:Type} a n (x y:α):(bif Nat.ble a n then x else y)=if a<=n then x else y:=by
 simp_all
def vW k n:dN k n=k.wrap n:=by
 cases n with
 |ofNat a=>
  cases k with
  |i64=>
   have e:dN .i64 (Int.ofNat a)=bif Nat.ble a 9223372036854775807 then .ofNat a else IntKind.wrap .i64 (.ofNat a):=by simp only[dN]
   rw[e,CI];split;exact(IntWalk.i64_in (Int.ofNat a) ⟨by simp only[nB];omega,by simp only[nB];omega⟩).symm;exact Eq.refl _
  |u64=>
   have e:dN .u64 (Int.ofNat a)=bif Nat.ble a 18446744073709551615 then .ofNat a else IntKind.wrap .u64 (.ofNat a):=by simp only[dN]
   rw[e,CI];split;exact(IntWalk.u64_in (Int.ofNat a) ⟨by simp only[nB];omega,by simp only[nB];omega⟩).symm;exact Eq.refl _
  |u8=>
   have e:dN .u8 (Int.ofNat a)=bif Nat.ble a 255 then .ofNat a else IntKind.wrap .u8 (.ofNat a):=by simp only[dN]
   rw[e,CI];split;exact(IntWalk.u8_in (Int.ofNat a) ⟨by simp only[nB];omega,by simp only[nB];omega⟩).symm;exact Eq.refl _
  |i8=>simp only[dN]
  |i16=>simp only[dN]
  |i32=>simp only[dN]
  |u16=>simp only[dN]
  |u32=>simp only[dN]
 |negSucc a=>
  cases k with
  |i64=>
   have e:dN .i64 (Int.negSucc a)=bif Nat.ble a 9223372036854775807 then .negSucc a else IntKind.wrap .i64 (.negSucc a):=by simp only[dN]
   rw[e,CI];split;exact(IntWalk.i64_in (Int.negSucc a) ⟨by omega,by omega⟩).symm;exact Eq.refl _
  |i8=>simp only[dN]
  |i16=>simp only[dN]
  |i32=>simp only[dN]
  |u8=>simp only[dN]
  |u16=>simp only[dN]
  |u32=>simp only[dN]
  |u64=>simp only[dN]
def pY k n:ri k n=some (.i k n):=by unfold ri;rw[zO]
def Jy b:rb b=some (.b b):=by unfold rb;rw[rR]
def zV {k k'} (h:gZ k k'=true):k'=k:=by
 cases k<;>cases k'<;>first|rfl|cases h
def F8 k n:Ih k n=2^(min n k.bits):=by
 unfold Ih;rw[wX];by_cases h:n<=k.bits;simp[h,kF h];simp[h,sY (Nat.le_of_not_le h)]
def LK k m (h:m<=m6 k):m<2^k.bits:=by
 cases k<;>simp only[m6,IntKind.bits] at* <;>omega
def F9 k m (h:m<=m6 k):k.wrap (m)=m:=by
 cases k<;>simp only[m6] at h;exact IntWalk.i8_in _ ω;exact IntWalk.i16_in _ ω;exact IntWalk.i32_in _ ω;exact IntWalk.i64_in _ ω;exact IntWalk.u8_in _ ω;exact IntWalk.u16_in _ ω;exact IntWalk.u32_in _ ω;exact IntWalk.u64_in _ ω
def Yj k:∃e,m6 k+1=2^e:=by
 cases k;exact⟨7,rfl⟩;exact⟨15,rfl⟩;exact⟨31,rfl⟩;exact⟨63,rfl⟩;exact⟨8,rfl⟩;exact⟨16,rfl⟩;exact⟨32,rfl⟩;exact⟨64,rfl⟩
def Ga k f g
 (A:∀x y:BitVec k.bits,(g x y).toNat=f x.toNat y.toNat) (B:∀m n e,m<2^e ->n<2^e ->f m n<2^e) (a b):
 bits k f g a b=some (.i k (k.wrap (g (BitVec.ofInt k.bits a) (BitVec.ofInt k.bits b)).toNat)):=by
 unfold bits;split;rename_i m n;cases j:(Nat.ble m (m6 k)&&Nat.ble n (m6 k));simp only[eU,pY];simp only[aB,wX,aU] at j;simp only[fC,pY];congr 2;have e1:(BitVec.ofInt k.bits (Int.ofNat m)).toNat=m:=by
  simp only[nB,BitVec.ofInt_natCast,BitVec.toNat_ofNat];exact Cb (LK k m j.1)
 have e2:(BitVec.ofInt k.bits (Int.ofNat n)).toNat=n:=by
  simp only[nB,BitVec.ofInt_natCast,BitVec.toNat_ofNat];exact Cb (LK k n j.2)
 rw[A,e1,e2];obtain⟨e,D⟩:=Yj k;have:=B m n e ω ω;rw[F9 k _ ω];rfl;rw[pY]
def Yk {op k k' a b x} t (j:zJ op k k' a b=some x):∃v,(binOp op t (.int k a) (.int k' b)).run P w= .ok v w/\ VR c x v:=by
 unfold zJ at j;split at j;split at j;rename_i n;rw[pY,vW,F8] at j;cases j;refine⟨_,?_,.i _ _⟩;simp only[binOp,Op.shift];rw[aD (by simp only[nB];omega)];simp;cases j;split at j;rename_i n m;rw[pY,F8] at j;cases j;refine⟨_,?_,.i _ _⟩;simp only[binOp,Op.shift];rw[aD (by simp only[nB];omega)];simp only[ig];have e:(Int.ofNat m).fdiv (2^(min (Int.ofNat n).toNat k.bits))=Int.ofNat (Nat.div m (2^min n k.bits)):=by
  simp only[nB,Int.toNat_natCast];rw[Int.fdiv_eq_ediv_of_nonneg _ (by exact Int.le_of_lt (Int.pow_pos (by decide)))];rw[show((2:Int)^min n k.bits)=((2^min n k.bits:Nat):Int) from by simp];rw[←Int.natCast_ediv];rfl
 rw[e];rename_i n _;rw[pY,F8] at j;cases j;refine⟨_,?_,.i _ _⟩;simp only[binOp,Op.shift];rw[aD (by simp only[nB];omega)];simp;cases j
 ·rename_i n1 B;cases A:gZ k k' with
  |false=>rw[A] at j;cases j
  |true=>
   rw[A] at j;have:=zV A;subst this;simp only[fC] at j;split at j;all_goals (try rw[pY] at j)
   all_goals (try rw[Jy] at j)
   all_goals (try rw[vW] at j)
   cases j;exact⟨.int k' (k'.wrap (a+b)),by simp[binOp,Op.intArith],.i _ _⟩;cases j;exact⟨.int k' (k'.wrap (a-b)),by simp[binOp,Op.intArith],.i _ _⟩;cases j;exact⟨.int k' (k'.wrap (a*b)),by simp[binOp,Op.intArith],.i _ _⟩;cases j;refine⟨.bool (a==b),by simp[binOp,Op.intCmp],?_⟩;rw[A3];exact .b _;cases j;refine⟨.bool (a !=b),by simp[binOp,Op.intCmp],?_⟩;rw[A3];exact .b _;cases j;refine⟨.bool (decide (a<b)),by simp[binOp,Op.intCmp],?_⟩;rw[mI];exact .b _;cases j;refine⟨.bool (decide (a<=b)),by simp[binOp,Op.intCmp],?_⟩;rw[mI,show(!(decide (b<a)))=decide (a<=b) from by rw[←decide_not];simp];exact .b _;cases j;refine⟨.bool (decide (a>b)),by simp[binOp,Op.intCmp],?_⟩;rw[mI];exact .b _;cases j;refine⟨.bool (decide (a>=b)),by simp[binOp,Op.intCmp],?_⟩;rw[mI,show(!(decide (a<b)))=decide (a>=b) from by rw[←decide_not];simp];exact .b _;cases hb:eO b 0 with
   |true=>rw[hb] at j;cases j
   |false=>
    rw[hb] at j;simp only[eU] at j;cases j;rw[A3] at hb;exact⟨.int k' (k'.wrap (a.tdiv b)),by simp[binOp,Op.intDiv,of_decide_eq_false hb],.i _ _⟩
   cases hb:eO b 0 with
   |true=>rw[hb] at j;cases j
   |false=>
    rw[hb] at j;simp only[eU] at j;cases j;rw[A3] at hb;exact⟨.int k' (a.tmod b),by simp[binOp,Op.intDiv,of_decide_eq_false hb],.i _ _⟩
   rw[Ga k' Nat.land (λx y=>x&&&y) (λx y=>BitVec.toNat_and x y) (λm n e h1 _=>Ca Nat.and_le_left h1)] at j;cases j;exact⟨.int k' (k'.wrap (BitVec.ofInt k'.bits a&&&BitVec.ofInt k'.bits b).toNat),by simp only[binOp,Op.intBits,ne_eq,not_true_eq_false,bV,ig],.i _ _⟩;rw[Ga k' Nat.lor (λx y=>x|||y) (λx y=>BitVec.toNat_or x y) (λm n e h1 h2=>Nat.or_lt_two_pow h1 h2)] at j;cases j;exact⟨.int k' (k'.wrap (BitVec.ofInt k'.bits a|||BitVec.ofInt k'.bits b).toNat),by simp only[binOp,Op.intBits,ne_eq,not_true_eq_false,bV,ig],.i _ _⟩;rw[Ga k' Nat.xor (λx y=>x^^^y) (λx y=>BitVec.toNat_xor x y) (λm n e h1 h2=>Nat.xor_lt_two_pow h1 h2)] at j;cases j;exact⟨.int k' (k'.wrap (BitVec.ofInt k'.bits a^^^BitVec.ofInt k'.bits b).toNat),by simp only[binOp,Op.intBits,ne_eq,not_true_eq_false,bV,ig],.i _ _⟩;cases j;exact⟨.int k' (k'.wrap (BitVec.ofInt k'.bits a&&&~~~(BitVec.ofInt k'.bits b)).toNat),by simp only[binOp,Op.intBits,ne_eq,not_true_eq_false,bV,ig],.i _ _⟩;cases j
def VR.int_inv {k n v} (h:VR c (.i k n) v):v= .int k n:=by cases h;rfl
def VR.str_inv {l v} (h:VR c (.s l) v):∃bs,v= .string bs/\ bs.data.toList.map UInt8.toNat=l:=by cases h with|s _ bs e=>exact⟨bs,rfl,e⟩
def LL:∀x y,Op.bytesLess x y=ul (x.map UInt8.toNat) (y.map UInt8.toNat)
 |_,[]=>by cases ‹List UInt8›<;>rfl
 |[],_::_=>rfl
 |a::x,b::y=>by
  have e:ul ((a::x).map UInt8.toNat) ((b::y).map UInt8.toNat)=(Bool.rec (Bool.rec false (ul (x.map UInt8.toNat) (y.map UInt8.toNat)) (Nat.beq a.toNat b.toNat)) true (Nat.ble (Nat.succ a.toNat) b.toNat):Bool):=rfl;rw[e,←LL x y,wX,bu];simp only[Op.bytesLess];by_cases h1:a<b;have:Nat.succ a.toNat<=b.toNat:=h1;simp[h1,this];have:¬Nat.succ a.toNat<=b.toNat:=h1;by_cases h2:a=b;subst h2;rw[ot this];simp[h1];have j:¬a.toNat=b.toNat:=λk=>h2 (UInt8.toNat_inj.1 k);simp[h1,this,h2,j]
def CJ (b:ByteArray):b.toList=b.data.toList:=ByteArray.toList_eq b
def Yl {x y:List UInt8}:x.map UInt8.toNat=y.map UInt8.toNat↔x=y:=
 ⟨λh=>(List.map_inj_right (λ_ _ k=>UInt8.toNat_inj.1 k)).1 h,λh=>by rw[h]⟩
def Ym {op a b x u v} (E:u.data.toList.map UInt8.toNat=a) (G:v.data.toList.map UInt8.toNat=b) (j:zK op a b=some x):
 ∃r,(Op.stringOp op u v).run P w= .ok r w/\ VR c x r:=by
 have A:(u.toList==v.toList)=decide (a=b):=by
  rw[CJ,CJ,←E,←G];by_cases e:u.data.toList=v.data.toList;rw[e];simp;rw[ot (λk=>e (Yl.1 k))];exact beq_false_of_ne e
 have B:Op.bytesLess u.toList v.toList=ul a b:=by rw[CJ,CJ,LL,E,G]
 unfold zK at j;split at j;cases D:(Nat.ble (len a) 1048576&&Nat.ble (len b) 1048576);rw[D] at j;cases j;rw[D] at j;simp only[fC,jz] at j;cases j;simp only[aB,wX,aU,kZ] at D;have h1:u.size=a.length:=by rw[←E,kU];rfl
 have h2:v.size=b.length:=by rw[←G,kU];rfl
 refine⟨.string (u++v),?_,.s _ _ ?_⟩;simp only[Op.stringOp];rw[aD ?_];rfl;have:IntKind.i64.max=9223372036854775807:=by decide
 rw[this];omega
 simp_all
 rw[Jy] at j;cases j;exact⟨_,rfl,by simp only[A,mH];exact .b _⟩;rw[Jy] at j;cases j;exact⟨_,rfl,by simp only[A,mH];exact .b _⟩;rw[Jy] at j;cases j;exact⟨_,rfl,by simp only[B];exact .b _⟩;rw[Jy] at j;cases j;exact⟨_,rfl,by simp only[A,B,mH];exact .b _⟩;rw[Jy] at j;cases j;exact⟨_,rfl,by simp only[A,B,mH];exact .b _⟩;rw[Jy] at j;cases j;exact⟨_,rfl,by simp only[B];exact .b _⟩;cases j
def CK {op B y v} (A:o.op= .binOp op t x y B) (j:(eqGuard op t x y (ρ x) (ρ y)).run P w= .ok () w) (hb:(binOp op t (ρ x) (ρ y)).run P w= .ok v w):
 (execOp ρ o).run P w= .ok (.value v) w:=by
 simp_all [execOp,A,dz,j,ez,hb]
def LM (X:Cx CR c h w ev ρ) {op J b y} (D:o.op= .binOp op t x y J) (E:dC a x=true) (hb:dC b y=true)
 (G:(∃k n k' m,ev a= .i k n/\ ev b= .i k' m)∨(∃l m,ev a= .s l/\ ev b= .s m)):
 bD P CR c h w (step ev h (.bin op a b)) ((execOp ρ o).run P w):=by
 show bD P CR c h w (dr h (aY op (ev a) (ev b))) _;have j:=X.hE _ _ E;have A:=X.hE _ _ hb;rcases G with ⟨k,n,k',m,e1,e2⟩|⟨l,m,e1,e2⟩;rw[e1] at j ⊢;rw[e2] at A ⊢;have r1:=j.int_inv;have r2:=A.int_inv;show bD P CR c h w (dr h (zJ op k k' n m)) _;rcases B:zJ op k k' n m with _|z;trivial;obtain⟨v,h1,h2⟩:=Yk (P:=P) (c:=c) (w:=w) t B;rw[CK (v:=v) D (by rw[r1,eqGuard_at_int];rfl) (by rw[r1,r2];exact h1)];exact cV.same X.rs h2;rw[e1] at j ⊢;rw[e2] at A ⊢;obtain⟨u,r1,H⟩:=j.str_inv;obtain⟨v,r2,I⟩:=A.str_inv;show bD P CR c h w (dr h (zK op l m)) _;rcases B:zK op l m with _|z;trivial;obtain⟨r,h1,h2⟩:=Ym (P:=P) (c:=c) (w:=w) H I B;rw[CK (v:=r) D (by rw[r1,eqGuard_at_string];rfl) (by rw[r1,r2];cases op<;>exact h1)];exact cV.same X.rs h2
def Yn (X:Cx CR c h w ev ρ) {op} (D:o.op= .unOp op t x) (B:dC a x=true):bD P CR c h w (step ev h (.un op a)) ((execOp ρ o).run P w):=by
 show bD P CR c h w (dr h (Pz op (ev a))) _;have j:=X.hE _ _ B;have key:∀z v,(Op.unary op (ρ x)).run P w= .ok v w ->VR c z v ->bD P CR c h w (.v z h) ((execOp ρ o).run P w):=by
  intro z v h1 h2;have e:(execOp ρ o).run P w= .ok (.value v) w:=by
   simp_all [execOp,D]
  rw[e];exact cV.same X.rs h2
 cases A:ev a with
 |i k n=>
  rw[A] at j;have r1:=j.int_inv;cases op with
  |neg=>
   simp only[Pz,pY,vW,dr];exact key _ (.int k (k.wrap (0-n))) (by rw[r1];rfl) (.i _ _)
  |xor=>
   simp only[Pz,pY,dr];exact key _ _ (by rw[r1];rfl) (.i _ _)
  |_=>trivial
 |b z=>
  rw[A] at j;generalize E:ρ x=G at j;cases j;cases op with
  |not=>simp only[Pz,Jy,dr];exact key _ (.bool (!z)) (by rw[E];rfl) (.b _)
  |_=>trivial
 |_=>cases op<;>trivial
def Yp (X:Cx CR c h w ev ρ) {d} (B:P.underlying t=some d) (hd:∀D,d≠.interface D) (A:o.op= .makeInterface t x) (j:dC a x=true):
 bD P CR c h w (step ev h (.mif t a)) ((execOp ρ o).run P w):=by
 show bD P CR c h w (fV (ev a) λx=> .v (.ifc t x) h) _;rw[jK];have e:(execOp ρ o).run P w= .ok (.value (.iface t (ρ x))) w:=by
  simp only[execOp,A];refine fS ?_;simp only[Instr.makeInterface,dz,dL B,ez];cases d<;>first|rfl|exact bh rfl (hd _)
 rw[e];exact cV.same X.rs (.ifc _ _ _ (X.hE _ _ j))
def Yq (X:Cx CR c h w ev ρ) (D:o.op= .extract x n) (A:dC a x=true):bD P CR c h w (QC a n ev h) ((execOp ρ o).run P w):=by
 unfold QC;have j:=X.hE _ _ A;cases H:ev a with
 |tu l=>
  rw[H] at j;generalize E:ρ x=I at j;cases j with
  |tu _ vs G=>
   dsimp only;rw[Cw];rcases B:l[n]? with _|z;trivial;obtain⟨u,h1,h2⟩:=G.get n B;have e:(execOp ρ o).run P w= .ok (.value u) w:=by
    simp_all [execOp,D,E,Instr.extract]
   rw[e];exact cV.same X.rs h2
 |_=>trivial
def Yr (X:Cx CR c h w ev ρ) {s fs f} (N:P.underlying s=some (.struct fs)) (J:fs[n]? =some f) {D} (hi:P.info? f.type=some D) (O:D.size≠0) (L:o.op= .fieldAddr s x n) (I:dC a x=true):bD P CR c h w (an6 a f.offset ev h) ((execOp ρ o).run P w):=by
 unfold an6;have A:=X.hE _ _ I;have key:∀b k,ρ x= .pointer (some ⟨b,k,none⟩) ->(execOp ρ o).run P w= .ok (.value (.pointer (some ⟨b,k+f.offset,none⟩))) w:=by
  intro b k B;simp only[execOp,L];refine fS ?_;rw[B];simp[Instr.fieldAt,dL N,J,Instr.sureAddr,fieldPlace,Go.sizeOf,typeInfo,hi,O,nE]
 cases G:ev a with
 |p E j=>
  rw[G] at A;generalize B:ρ x=W at A;cases A with
  |p _ _ H=>
   simp only[dT];rw[key _ _ B];refine cV.same X.rs ?_;have:(⟨(c.ρ E).1,(c.ρ E).2+j+f.offset,none⟩:Addr)=c.addr E (j+f.offset):=by simp[CE.addr,pK]
   rw[this];exact .p _ _ H
 |dp l j=>
  rw[G] at A;generalize B:ρ x=W at A;cases A with
  |dp _ _ Y b2 row vs S U V=>
   simp only[dT];rw[key _ _ B,pK];exact cV.same X.rs (.dp _ _ _ _ row vs S U V)
 |_=>trivial
def Ys {k} (hd:P.underlying t=some (.int k)) {s k'} (E:P.underlying s=some (.int k')) (X:Cx CR c h w ev ρ) (B:o.op= .convert s t x) (A:dC a x=true):
 bD P CR c h w (am3 k a ev h) ((execOp ρ o).run P w):=by
 unfold am3;have j:=X.hE _ _ A;cases G:ev a with
 |i q n=>
  rw[G] at j;generalize D:ρ x=H at j;cases j;simp only[pY,dr,vW];have e:(execOp ρ o).run P w= .ok (.value (.int k (k.wrap n))) w:=by
   simp only[execOp,B];refine fS ?_;rw[D];simp[convert,dL E,dL hd,Conv.intToInt]
  rw[e];exact cV.same X.rs (.i _ _)
 |_=>trivial
def Yt {v} (h:ff v=some n):∃k,v= .i k (Int.ofNat n):=by
 unfold ff at h;split at h;cases h;exact⟨_,rfl⟩;cases h
def th (X:Cx CR c h w ev ρ) (j:dC a x=true) (A:nA ev a=some n):∃k,ρ x= .int k (n):=by
 obtain⟨k,e⟩:=Yt A;have:=X.hE _ _ j;rw[e] at this;exact⟨k,this.int_inv⟩
def uq (I:gT P t i) {l cs vs} (J:bX c l vs) {j} (E:sub l j n=some cs) (L:n=i.size) {y} (S:dB i.kd.isRow cs=some y):
 ∃v,(part t vs.toArray j).run P w= .ok v w/\ VR c y v:=by
 obtain⟨X,rfl⟩:=lM E;have Y:=J.length;obtain⟨W,zv,U,V,_⟩:=I.info;have A:=(J.drop j).take n;rcases F4 S with ⟨g,rfl⟩|⟨g,e⟩;have B:(isAgg t).run P w= .ok true w:=by
  unfold isAgg;rw[dz,dL I.und w];cases G:i.kd<;>rw[G] at g<;>first|rfl|cases g
 refine⟨.agg ((vs.drop j).take n).toArray,?_,.ag _ _ A⟩;simp[part,B,Go.sizeOf,typeInfo,U,V,←L];rw[e] at A;rcases D:(vs.drop j).take n with _|⟨u,Z⟩;rw[D] at A;cases A;rw[D] at A;cases A with
 |cons _ _ _ _ N O=>
  have B:(isAgg t).run P w= .ok false w:=by
   unfold isAgg;rw[dz,dL I.und w];cases G:i.kd<;>rw[G] at g<;>first|rfl|cases g
  have H:vs[j]? =some u:=by
   have:((vs.drop j).take n)[0]? =some u:=by rw[D];rfl
   rw[jZ] at this;split at this;simpa using this;cases this
  refine⟨u,?_,N⟩;simp[part,B,H]
def Yu {f} (S:gT P f.type i) (X:Cx CR c h w ev ρ) {s fs k} (N:P.underlying s=some (.struct fs)) (G:fs[k]? =some f) (J:o.op= .field s x k) (E:dC a x=true) (I:n=i.size) {agg} (H:agg=i.kd.isRow):
 bD P CR c h w (an7 a f.offset n agg ev h) ((execOp ρ o).run P w):=by
 unfold an7;have A:=X.hE _ _ E;cases O:ev a with
 |ag l=>
  rw[O] at A;generalize L:ρ x=U at A;cases A with
  |ag _ vs B=>
   dsimp only;rcases j:sub l f.offset n with _|cs;trivial;dsimp only;unfold dr;rcases D:dB agg cs with _|y;trivial;rw[H] at D;obtain⟨v,h1,h2⟩:=uq (w:=w) S B j I D;have e:(execOp ρ o).run P w= .ok (.value v) w:=by
    simp only[execOp,J];refine fS ?_;rw[L];simp[Instr.field,dL N,G,asAgg,h1]
   rw[e];exact cV.same X.rs h2
 |_=>trivial
def Yv {e} (oX:gT P e i) (X:Cx CR c h w ev ρ) (Y:P.underlying t=some (.slice e)) {b y} (W:o.op= .indexAddr t x y) (S:dC a x=true) (hb:dC b y=true) {E} (J:E=i.size):
 bD P CR c h w (an8 E a b ev h) ((execOp ρ o).run P w):=by
 unfold an8;have B:=X.hE _ _ S;obtain⟨b0,zv,Z,i2,_⟩:=oX.info;rcases V:nA ev b with _|k;trivial;obtain⟨q,U⟩:=th X hb V;have key:∀(A:Addr) (n cap I L:Nat),ρ x= .slice (some A) n cap ->k<n ->A=⟨I,L,none⟩ ->(execOp ρ o).run P w= .ok (.value (.pointer (some ⟨I,L+k*E,none⟩))) w:=by
  intro A n cap I L H D hA;subst hA;simp only[execOp,W];refine fS ?_;rw[H,U];simp[Instr.indexAt,asIntOf,dL Y,Go.sizeOf,typeInfo,Z,i2,J,D,nE]
 dsimp only;cases O:ev a with
 |sl N j n cap esz=>
  rw[O] at B;generalize H:ρ x=vx at B;cases B with
  |sl _ _ _ _ _ A cp q1 q2 q3 q4 q5=>
   dsimp only;cases G:(Nat.beq esz E&&Nat.ble (Nat.succ k) n);trivial;simp only[aB,bu,wX,aU] at G;obtain⟨rfl,D⟩:=G;simp only[fC,dT];rw[key A n cp _ _ H D (q4 ω)];refine cV.same X.rs ?_;have:(⟨(c.ρ N).1,(c.ρ N).2+j+k*esz,none⟩:Addr)=c.addr N (j+k*esz):=by simp[CE.addr,pK]
   rw[this];exact .p _ _ q1
 |ds l j n esz=>
  rw[O] at B;generalize H:ρ x=vx at B;cases B with
  |ds _ _ _ _ b1 b2 cp A row vs q1 q2 q3 q4 q5=>
   dsimp only;cases G:(Nat.beq esz E&&Nat.ble (Nat.succ k) n);trivial;simp only[aB,bu,wX,aU] at G;obtain⟨rfl,D⟩:=G;simp only[fC,dT];rw[key A n cp _ _ H D (q5 ω),pK];exact cV.same X.rs (.dp _ _ _ _ row vs q1 q2 q3)
 |_=>trivial
def Yw {e} (oX:gT P e i) (X:Cx CR c h w ev ρ) (Y:P.underlying t=some (.array n e)) {b y} (W:o.op= .indexAddr t x y) (S:dC a x=true) (hb:dC b y=true) {B} (G:B=i.size):
 bD P CR c h w (an9 n B a b ev h) ((execOp ρ o).run P w):=by
 unfold an9;have A:=X.hE _ _ S;obtain⟨b0,zv,Z,i2,_⟩:=oX.info;rcases V:nA ev b with _|k;trivial;obtain⟨q,U⟩:=th X hb V;dsimp only;cases L:Nat.ble (Nat.succ k) n;trivial;rw[wX] at L;have O:k<n:=qM L;simp only[fC];have key:∀(E H:Nat),ρ x= .pointer (some ⟨E,H,none⟩) ->(execOp ρ o).run P w= .ok (.value (.pointer (some ⟨E,H+k*B,none⟩))) w:=by
  intro E H D;simp only[execOp,W];refine fS ?_;rw[D,U];simp[Instr.indexAt,asIntOf,dL Y,Instr.sureAddr,Go.sizeOf,typeInfo,Z,i2,G,O,nE]
 cases N:ev a with
 |p I j=>
  rw[N] at A;generalize D:ρ x=vx at A;cases A with
  |p _ _ J=>
   simp only[dT];rw[key _ _ D];refine cV.same X.rs ?_;have:(⟨(c.ρ I).1,(c.ρ I).2+j+k*B,none⟩:Addr)=c.addr I (j+k*B):=by simp[CE.addr,pK]
   rw[this];exact .p _ _ J
 |dp l j=>
  rw[N] at A;generalize D:ρ x=vx at A;cases A with
  |dp _ _ b1 b2 row vs J q2 q3=>
   simp only[dT];rw[key _ _ D,pK];exact cV.same X.rs (.dp _ _ _ _ row vs J q2 q3)
 |_=>trivial
def Yx (X:Cx CR c h w ev ρ) (O:P.underlying t=some .string) {b y} (L:o.op= .index t x y) (H:dC a x=true) (hb:dC b y=true):
 bD P CR c h w (ao0 a b ev h) ((execOp ρ o).run P w):=by
 unfold ao0;have E:=X.hE _ _ H;rcases J:nA ev b with _|k;trivial;obtain⟨q,I⟩:=th X hb J;cases S:ev a with
 |s l=>
  rw[S] at E;obtain⟨bs,N,D⟩:=E.str_inv;dsimp only;rw[Cw];rcases A:l[k]? with _|u;trivial;dsimp only;have h1:∃j,bs[k]? =some j/\ j.toNat=u:=by
   rw[←D,oh] at A;rcases B:bs.data.toList[k]? with _|j;rw[B] at A;cases A;rw[B] at A;refine⟨j,?_,by simpa using A⟩;have G:=(eC.1 B).1;have:k<bs.size:=by simpa using G
   rw[getElem?_pos bs k this];have e2:=(eC.1 B).2;rw[←e2];rfl
  obtain⟨j,h2,rfl⟩:=h1;have e:(execOp ρ o).run P w= .ok (.value (.int .u8 (j.toNat:Int))) w:=by
   simp only[execOp,L];refine fS ?_;rw[N,I];simp[Instr.index,asIntOf,dL O,h2]
  rw[e];exact cV.same X.rs (.i _ _)
 |_=>trivial
end
end
end AM
