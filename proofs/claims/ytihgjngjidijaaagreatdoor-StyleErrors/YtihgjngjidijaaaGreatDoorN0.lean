import Derived.Deep.AppendSrc
import Derived.Deep.MidRow
import Derived.Great.BuildSlice
import Derived.IntWalk
import Derived.KernelRfl
import Derived.Laws.MakeOwn
import Derived.Laws.Sem
import Derived.Laws.StructEq
import Derived.LoopNIn
import Derived.OrdersIn
import Derived.RangeFuncIn
import GoSem.Step
set_option linter.all false
namespace AM
open Go
def ω{p:Prop}(h:p:=by omega):p:=h
def xz:=@List.ext_getElem?
def rI:=@List.getElem?_eq_none
def uc:=@List.replicate_succ
def vD:=@List.flatten_cons
def bB:=@Nat.le_refl
def rJ:=@Nat.pow_le_pow_right
def ji:=@List.length_nil
def Ca:=@Nat.lt_of_le_of_lt
def Ft:=@Nat.div_le_self
def Fu:=@Nat.and_one_is_mod
def aB:=@Bool.and_eq_true
def Ll:=@List.mem_flatMap
def sV:=@List.mem_map
def eC:=@List.getElem?_eq_some_iff
def fX:=@List.all_eq_true
def mA:=@List.mem_range
def gB:=@Nat.zero_add
def lE:=@List.flatMap_cons
def dy:=@List.length_append
def gJ:=@List.length_cons
def vE:=@Nat.succ_mul
def ud:=@List.drop_drop
def ni:=@Nat.mul_le_mul_right
def Lm:=@List.drop_append_of_le_length
def Ln:=@List.take_append_of_le_length
def sW:=@List.length_drop
def gw:=@List.cons_append
def Lo:=@List.flatMap_def
def cE:=@List.getElem?_eq_getElem
def nj:=@Bool.and_eq_true_iff
def g9:=@Bool.and_self
def jk:=@Bool.not_true
def qG:=@Nat.eq_of_beq_eq_true
def Fv:=@List.getElem?_cons_succ
def mB:=@List.getElem?_drop
def fv:=@Bool.cond_eq_ite
def pK:=@Nat.add_assoc
def nq:=@Nat.add_mul
def Fw:=@Option.isNone_none
def kU:=@List.length_map
def jW:=@Array.ext'
def pL:=@List.getElem?_append_left
def Cb:=@Nat.mod_eq_of_lt
def rK:=@List.getElem?_append_right
def xA:=@List.length_flatten
def vF:=@Nat.eq_zero_or_pos
def jv:=@Nat.mod_lt
def zy:=@List.size_toArray
def zA:=@Nat.mul_le_mul
def ed:=@List.mem_cons
def jG:=@List.mem_cons_self
def jw:=@List.mem_cons_of_mem
def Fx:=@List.filter_cons
def Fy:=@Bool.not_false
def nr:=@Bool.false_eq_true
def og:=@Array.getElem?_eq_getElem
def qH:=@Option.map_some
def Fz:=@Array.getElem?_setIfInBounds_ne
def jX:=@Array.getElem?_eq_some_iff
def oh:=@List.getElem?_map
def vG:=@Nat.add_zero
def dP:=@Result.andThen_ok
def fk:=@List.mem_singleton
def jY:=@List.map_cons
def xB:=@Bool.eq_iff_iff
def jH:=@Bool.not_eq_true'
def zB:=@List.range_eq_range'
def Cc:=@List.range'_succ
def zC:=@Bool.false_or
def xD:=@List.pairwise_cons
def Lp:=@List.getElem?_cons_zero
def dI:=@List.mem_of_getElem?
def fO:=@List.mem_append
def qI:=@Nat.lt_succ_self
def vH:=@Nat.mul_one
def jZ:=@List.getElem?_take
def pM:=@List.eq_nil_of_length_eq_zero
def FB:=@List.getElem?_toArray
def gx:=@List.nil_append
def vI:=@Array.getElem?_toList
def ja:=@Bool.or_eq_true
def xE:=@List.all_cons
def pN:=@Option.getD_some
def kE:=@List.map_append
def ue:=@Nat.zero_mul
def jl:=@List.flatMap_append
def vJ:=@List.take_append_drop
def jm:=@List.length_take
def kF:=@Nat.min_eq_left
def iR:=@Nat.lt_of_lt_of_le
def qJ:=@Int.natCast_zero
def Cd:=@List.getElem?_zipIdx
def ny:=@List.length_zipIdx
def Ce:=@Bool.not_eq_true
def kX:=@List.getD_eq_getElem?_getD
def lF:=@List.length_singleton
def qK:=@List.any_eq_true
def FC:=@List.any_eq_false
def pO:=@List.flatMap_singleton
def zD:=@List.range_succ
def xF:=@List.getElem?_set
def nz:=@List.append_assoc
def Lr:=@List.drop_eq_getElem_cons
def zE:=@List.nodup_append
def rL:=@List.take_length
def Cf:=@List.take_zero
def lG:=@List.append_nil
def xG:=@List.length_pos_iff
def xH:=@List.foldl_append
def Ls:=@List.foldl_nil
def Lt:=@List.sum_cons
def FD:=@Nat.testBit_or
def Lu:=@List.map_map
def vK:=@List.length_set
def FF:=@List.mem_or_eq_of_mem_set
def vM:=@List.take_of_length_le
def X2:=@List.map_congr_left
def sX:=@List.mem_iff_getElem
def rM:=@Bool.cond_decide
def FG:=@List.sum_append
def uf:=@List.map_nil
def FH:=@Array.getElem?_modify
def pP:=@Bool.and_false
def xI:=@List.mem_append_left
def FI:=@List.mem_append_right
def Cg:=@Nat.testBit_and
def Ch:=@Array.getElem?_push_lt
def fJ:=@Nat.le_trans
def FJ:=@Nat.succ_le_iff
def nB:=@Int.ofNat_eq_natCast
def FK:=@Bool.and_true
def iO:=@Nat.lt_or_ge
def FL:=@Nat.le_of_lt
def xJ:=@Nat.le_add_right
def Ci:=@Bool.or_eq_false_iff
def Cj:=@Nat.le_max_left
def Ck:=@Nat.le_max_right
def zF:=@Nat.le_total
def sY:=@Nat.min_eq_right
def FN:=@Nat.zero_min
def oi:=@Nat.zero_le
def nD:=@Nat.le_succ
def FO:=@List.nodup_cons
def Cm:=@Nat.min_self
def FP:=@List.drop_of_length_le
def Cn:=@Nat.min_le_left
def FQ:=@List.length_eq_zero_iff
def pQ:=@Bool.false_and
def uh:=@Bool.true_and
def qL:=@List.any_cons
def Co:=@Nat.one_le_two_pow
def Cq:=@Nat.pow_succ'
def X3:=@List.idxOf_cons
def FR:=@Nat.ble_eq_true_of_le
def FT:=@Nat.le_of_ble_eq_true
def ui:=@Nat.lt_succ_of_lt
def Lx:=@Array.size_eq_zero_iff
def uj:=@List.any_nil
def FU:=@List.all_nil
def af{α:Sort _}{a b:α}(h:a=b:=by kernel_rfl):a=b:=h
def av{p:Prop}(h:¬p:=by omega):p=False:=eq_false h
def cJ{p:Prop}(h:p:=by omega):p=True:=eq_true h
def aU:=@decide_eq_true_eq
def ap:=@And.intro
def aD:=@if_neg
def aF:=@if_pos
def dQ:=@eq_false
def fq:=@eq_true
def bV:=@if_false
def dZ:=@if_true
def bh:=@absurd
def eU:=@cond_false
def fC:=@cond_true
def gC:=@Option.some.inj
def ot:=@decide_eq_false
def zG:=@decide_eq_true
def Cr:=@decide_eq_false_iff_not
def dz:=@Go.Sem.run_bind
def ig:=@Go.Sem.run_pure
def dL:=@Go.run_underlying
def nE:=@Go.Addr.add_mid
def qM:=@of_decide_eq_true
def jI:=@Option.some.injEq
def mC:=@decide_true
def mD:=@beq_iff_eq
def Cs:=@List.length_replicate
def zH:=@List.foldl_cons
def uk:=@Classical.byContradiction
def xK:=@Prod.mk.injEq
def zI:=@Nat.min_le_right
def vN:=@Go.CallsIn.mono
def sZ:=@Go.wpIn_mono
def Ct:=@Go.run_firstCells_some
def Cu:=@Go.run_firstCells_none
inductive T (α:Type) where
 |e:T α
 |n (l:T α) (v:Option α) (r:T α):T α
 deriving Inhabited
namespace T
variable {α:Type}
noncomputable def get (t:T α):Nat ->Option α:=
 T.rec (motive:=λ_=>Nat ->Option α) (λ_=>none)
  (λ_ v _ gl gr k=>Bool.rec (Bool.rec (gr (Nat.sub (Nat.div k 2) 1)) (gl (Nat.div k 2)) (Nat.beq (Nat.mod k 2) 1)) v (Nat.beq k 0)) t
noncomputable def one (x:α) (f:Nat):Nat ->T α:=
 Nat.rec (motive:=λ_=>Nat ->T α) (λ_=> .e)
  (λ_ ih k=>Bool.rec (Bool.rec (.n .e none (ih (Nat.sub (Nat.div k 2) 1))) (.n (ih (Nat.div k 2)) none .e) (Nat.beq (Nat.mod k 2) 1)) (.n .e (some x) .e) (Nat.beq k 0)) f
noncomputable def setK {R:Type} (t:T α):Nat ->α ->(T α ->R) ->R:=
 T.rec (motive:=λ_=>Nat ->α ->(T α ->R) ->R) (λk x c=>c (one x (Nat.succ k) k))
  (λl v r sl sr k x c=>Bool.rec (Bool.rec (sr (Nat.sub (Nat.div k 2) 1) x λr'=>c (.n l v r')) (sl (Nat.div k 2) x λl'=>c (.n l' v r)) (Nat.beq (Nat.mod k 2) 1)) (c (.n l (some x) r)) (Nat.beq k 0)) t
end T
inductive AV where
 |b (x:Bool)
 |i (k:IntKind) (n:Int)
 |s (l:List Nat)
 |p (o off:Nat)
 |pn
 |dp (l:List AV) (off:Nat)
 |sl (o off len:Nat) (cap:Option Nat) (esz:Nat)
 |sn
 |ds (l:List AV) (off len esz:Nat)
 |m (o:Nat)
 |mn
 |f (fn:Nat) (fi ca:List AV)
 |y (l:Nat)
 |fnil
 |ifc (t:TypeId) (v:AV)
 |ifn
 |ag (l:List AV)
 |tu (l:List AV)
 |un
 deriving Inhabited
abbrev ι(n:Int):AV:=.i .i64 n
inductive MA where
 |t (n:Nat)
 |c (v:AV)
 |g (n:Nat)
 deriving Inhabited
inductive Ly where
 |str|arr (n:Nat)|slice|map
 deriving Inhabited
inductive EK where
 |b|i|s|p|sl|m|f|ifc
 deriving Inhabited
inductive ET where
 |lf (k:EK)
 |ag (l:List (Nat×Nat×Bool×ET))
 deriving Inhabited
inductive jn where
 |mv (a:MA)
 |pick (c a b:MA)
 |alloc (z:List AV)
 |box (a:MA) (n:Nat)
 |build (z:List AV) (ps:List (Nat×Nat×MA))
 |bslice (z:List AV) (len esz:Nat) (ps:List (Nat×Nat×MA))
 |load (a:MA) (n:Nat) (agg:Bool)
 |store (a v:MA) (n:Nat)
 |nilc (a:MA)
 |bin (op:BinOp) (x y:MA)
 |eqv (ne:Bool) (e:ET) (x y:MA)
 |un (op:UnOp) (x:MA)
 |cvi (k:IntKind) (x:MA)
 |cvs (x:MA)
 |s2b (x:MA)|b2s (x:MA)
 |mif (t:TypeId) (x:MA)
 |mfn (fn:Nat) (fi ca:List MA)
 |mmap (r:Option MA)
 |mslice (z:List AV) (esz bytes:Nat) (l c:MA)
 |slc (esz:Nat) (x:MA) (lo hi mx:Option MA)
 |slcs (x:MA) (lo hi:Option MA)
 |slca (n esz:Nat) (x:MA) (lo hi mx:Option MA)
 |fadr (x:MA) (off:Nat)
 |fld (x:MA) (off n:Nat) (agg:Bool)
 |iadr (esz:Nat) (x i:MA)
 |iadra (n esz:Nat) (x i:MA)
 |idxs (x i:MA)
 |idxa (len esz:Nat) (agg:Bool) (x i:MA)
 |look (e:ET) (m k:MA) (z:AV) (ok:Bool)
 |mupd (e:ET) (m k v:MA)
 |ment (e:ET) (m k:MA) (z:AV)
 |mest (m s v:MA)
 |rng (x:MA) (str:Bool)
 |nxt (x:MA) (isStr:Bool)
 |ent (x:MA)
 |tas (x:MA) (t:TypeId) (ok:Bool) (z:AV)
 |ext (x:MA) (i:Nat)
 |call (f:Nat) (args:List MA)
 |callv (f:MA) (args:List MA)
 |calli (r:MA) (tbl:List (Nat×Nat)) (args:List MA)
 |app (s x:MA) (esz bytes:Nat)
 |appz (s x:MA) (esz bytes:Nat) (z:List AV)
 |len (k:Ly) (x:MA)
 |cap (x:MA)
 |copy (d s:MA) (esz:Nat)
 |min (l:List MA)|max (l:List MA)
 |del (e:ET) (m k:MA)
 |tal (T:Nat) (z:List AV)
 |tbx (T:Nat) (a:MA)
 |tst (a v:MA) (n:Nat)
 |tld (a:MA) (n:Nat) (agg:Bool)
 |tap (T:Nat) (s x:MA) (esz bytes:Nat)
 |cvp (x:MA)
 |cvu (tbl:List (Nat×Nat×Nat)) (x:MA)
 |usd (x:MA)
 |ust (T:Nat) (p n:MA)
 |bad (why:Nat)
 deriving Inhabited
structure MG where
 dst:Option Nat
 op:jn
 guard:Option (Nat×Bool)
 deriving Inhabited
inductive DI where
 |light (i:Nat) (g:MG)
 |resv (i k:Nat) (g:MG)
 |lay (i:Nat)
 |heavy (i:Nat) (g:MG) (mask:Nat)
 deriving Inhabited
inductive aw where
 |skip
 |ops (l:List MG)
 |draw (n:Nat) (l:List DI)
 |dfr (l:List MG) (x:MA) (fn:Nat)
 |seq (a b:aw)
 |cond (c:MA) (a b:aw)
 |block (id:Nat) (c:aw)
 |loop (c:aw)
 |rfun (f:MA) (params:List Nat) (assign body:aw)
 |exit (id:Nat)
 |ret
 |bad (why:Nat)
 deriving Inhabited
structure au where
 ntmps:Nat
 res:List (Nat×Option (Nat×Bool))
 body:aw
 deriving Inhabited
inductive bC where
 |cells (ver:Nat) (l:List AV)
 |tc (T:Nat) (whole:Bool) (l:List AV)
 |map (ver:Nat) (es:List (AV×AV×Nat)) (clock:Nat)
 |sit (l:List Nat) (pos:Nat)
 |mit (m:Option Nat) (since:Nat) (seen:List Nat) (stepped:Nat)
 |loop (params:List Nat) (assign body:aw) (env:T AV) (st:Nat) (pend:Option (Option Nat))
 |gone
 deriving Inhabited
structure AH where
 next:Nat
 ver:Nat
 oB:T bC
 deriving Inhabited
inductive pS where
 |normal
 |exit (id:Nat)
 |ret
 deriving Inhabited
inductive ay where
 |v (x:AV) (h:AH)
 |call (f:Nat) (args:List AV) (h:AH)
 |yld (l:Nat) (args:List AV) (h:AH)
 |alts (l:List (AV×AH))
 |bad
 deriving Inhabited
end AM
namespace AM
open Go
noncomputable section
section force
variable {R:Type}
def fN (n:Nat) (k:Nat ->R):R:=Nat.rec (motive:=λ_=>R) (k 0) (λm _=>k (Nat.succ m)) n
def fB (b:Bool) (k:Bool ->R):R:=Bool.rec (motive:=λ_=>R) (k false) (k true) b
def fI (n:Int) (k:Int ->R):R:=Int.rec (motive:=λ_=>R) (λa=>fN a λa=>k (.ofNat a)) (λa=>fN a λa=>k (.negSucc a)) n
def fV (v:AV) (k:AV ->R):R:=
 match v with
 | .b x=>k (.b x)| .i q n=>k (.i q n)| .s l=>k (.s l)| .p o a=>k (.p o a)| .pn=>k .pn| .dp l a=>k (.dp l a)
 | .sl o a n c e=>k (.sl o a n c e)| .sn=>k .sn| .ds l a n e=>k (.ds l a n e)| .m o=>k (.m o)| .mn=>k .mn| .f g a b=>k (.f g a b)
 | .y l=>k (.y l)| .fnil=>k .fnil| .ifc t v=>k (.ifc t v)| .ifn=>k .ifn| .ag l=>k (.ag l)| .tu l=>k (.tu l)| .un=>k .un
end force
section lists
variable {α β:Type}
def lH (l:List α):Nat ->Option α:=
 List.rec (motive:=λ_=>Nat ->Option α) (λ_=>none) (λa _ ih n=>Nat.rec (motive:=λ_=>Option α) (some a) (λm _=>ih m) n) l
def len (l:List α):Nat:=List.rec (motive:=λ_=>Nat ->Nat) (λn=>n) (λ_ _ ih n=>fN n λn=>ih (Nat.succ n)) l 0
def fy (l m:List α):Option (List α):=List.rec (motive:=λ_=>Option (List α)) (some m) (λa _ ih=>Option.rec (motive:=λ_=>Option (List α)) none (λt=>some (a::t)) ih) l
def eM (f:α ->Option β) (l:List α):Option (List β):=
 List.rec (motive:=λ_=>Option (List β)) (some []) (λa _ ih=>Option.rec (motive:=λ_=>Option (List β)) none (λb=>Option.rec (motive:=λ_=>Option (List β)) none (λt=>some (b::t)) ih) (f a)) l
def FV (l:List α):Nat ->Option (List α):=
 List.rec (motive:=λ_=>Nat ->Option (List α)) (λn=>Nat.rec (motive:=λ_=>Option (List α)) (some []) (λ_ _=>none) n)
  (λa t ih n=>Nat.rec (motive:=λ_=>Option (List α)) (some (a::t)) (λm _=>ih m) n) l
def xL (l:List α):Nat ->Option (List α):=
 List.rec (motive:=λ_=>Nat ->Option (List α)) (λn=>Nat.rec (motive:=λ_=>Option (List α)) (some []) (λ_ _=>none) n)
  (λa _ ih n=>Nat.rec (motive:=λ_=>Option (List α)) (some []) (λm _=>Option.rec (motive:=λ_=>Option (List α)) none (λt=>some (a::t)) (ih m)) n) l
def sub (l:List α) (off n:Nat):Option (List α):=
 Option.rec (motive:=λ_=>Option (List α)) none (λt=>xL t n) (FV l off)
def oZ (c:List α):List α ->Option (List α):=
 List.rec (motive:=λ_=>List α ->Option (List α)) (λl=>some l)
  (λx _ ih l=>List.casesOn (motive:=λ_=>Option (List α)) l none λ_ t=>Option.rec (motive:=λ_=>Option (List α)) none (λr=>some (x::r)) (ih t)) c
def dW (c:List α) (l:List α):Nat ->Option (List α):=
 List.rec (motive:=λ_=>Nat ->Option (List α)) (λn=>Nat.rec (motive:=λ_=>Option (List α)) (oZ c []) (λ_ _=>none) n)
  (λa t ih n=>Nat.rec (motive:=λ_=>Option (List α)) (oZ c (a::t)) (λm _=>Option.rec (motive:=λ_=>Option (List α)) none (λr=>some (a::r)) (ih m)) n) l
def rN (z:List α) (n:Nat):Option (List α):=Nat.rec (motive:=λ_=>Option (List α)) (some []) (λ_ ih=>Option.rec (motive:=λ_=>Option (List α)) none (λt=>fy z t) ih) n
end lists
def nF (x:List Nat):List Nat ->Bool:=
 List.rec (motive:=λ_=>List Nat ->Bool) (λy=>List.casesOn (motive:=λ_=>Bool) y true λ_ _=>false)
  (λa _ ih y=>List.casesOn (motive:=λ_=>Bool) y false λb t=>Bool.rec false (ih t) (Nat.beq a b)) x
def ul (x:List Nat):List Nat ->Bool:=
 List.rec (motive:=λ_=>List Nat ->Bool) (λy=>List.casesOn (motive:=λ_=>Bool) y false λ_ _=>true)
  (λa _ ih y=>List.casesOn (motive:=λ_=>Bool) y false λb t=>Bool.rec (Bool.rec false (ih t) (Nat.beq a b)) true (Nat.ble (Nat.succ a) b)) x
def eO:Int ->Int ->Bool
 | .ofNat a,.ofNat b=>Nat.beq a b
 | .negSucc a,.negSucc b=>Nat.beq a b
 |_,_=>false
def fD:Int ->Int ->Bool
 | .ofNat a,.ofNat b=>Nat.ble (Nat.succ a) b
 | .negSucc a,.negSucc b=>Nat.ble (Nat.succ b) a
 | .negSucc _,.ofNat _=>true
 | .ofNat _,.negSucc _=>false
def dN (k:IntKind) (n:Int):Int:=
 match n with
 | .ofNat a=>match k with
  | .i64=>bif Nat.ble a 9223372036854775807 then .ofNat a else k.wrap (.ofNat a)
  | .u64=>bif Nat.ble a 18446744073709551615 then .ofNat a else k.wrap (.ofNat a)
  | .u8=>bif Nat.ble a 255 then .ofNat a else k.wrap (.ofNat a)
  |_=>k.wrap (.ofNat a)
 | .negSucc a=>match k with
  | .i64=>bif Nat.ble a 9223372036854775807 then .negSucc a else k.wrap (.negSucc a)
  |_=>k.wrap (.negSucc a)
def fP:AV ->Option Nat
 | .i _ (.ofNat n)=>some n
 |_=>none
def cellsOf:AV ->List AV
 | .ag l=>l
 |v=>[v]
def cellsO:AV ->Option (List AV)
 | .ag l=>some l
 | .tu _=>none
 | .un=>none
 |v=>some [v]
def ew:AV ->Bool
 | .ag _=>false
 | .tu _=>false
 | .un=>false
 |_=>true
def cF (l:List AV):Bool:=List.rec (motive:=λ_=>Bool) true (λa _ ih=>Bool.rec (motive:=λ_=>Bool) false ih (ew a)) l
def dB (agg:Bool) (l:List AV):Option AV:=
 bif agg then some (.ag l) else match l with|[v]=>some v|_=>none
def ri (k:IntKind) (n:Int):Option AV:=fI n λn=>some (.i k n)
def rb (b:Bool):Option AV:=fB b λb=>some (.b b)
def ow:IntKind ->Nat
 | .i8=>127| .i16=>32767| .i32=>2147483647| .i64=>9223372036854775807
 | .u8=>255| .u16=>65535| .u32=>4294967295| .u64=>18446744073709551615
def gZ:IntKind ->IntKind ->Bool
 | .i64,.i64=>true| .u64,.u64=>true| .u8,.u8=>true| .i32,.i32=>true| .u32,.u32=>true| .u16,.u16=>true| .i16,.i16=>true| .i8,.i8=>true
 |_,_=>false
def bits (k:IntKind) (f:Nat ->Nat ->Nat) (g:BitVec k.bits ->BitVec k.bits ->BitVec k.bits):Int ->Int ->Option AV
 | .ofNat m,.ofNat n=>bif Nat.ble m (ow k)&&Nat.ble n (ow k) then ri k (Int.ofNat (f m n)) else ri k (k.wrap (g (BitVec.ofInt k.bits (.ofNat m)) (BitVec.ofInt k.bits (.ofNat n))).toNat)
 |a,b=>ri k (k.wrap (g (BitVec.ofInt k.bits a) (BitVec.ofInt k.bits b)).toNat)
def td (k:IntKind) (n:Nat):Nat:=Nat.pow 2 (bif Nat.ble n k.bits then n else k.bits)
def zJ (op:BinOp) (k k':IntKind) (a b:Int):Option AV:=
 match op with
 | .shl=>match b with
  | .ofNat n=>ri k (dN k (Int.mul a (Int.ofNat (td k n))))
  |_=>none
 | .shr=>match b,a with
  | .ofNat n,.ofNat m=>ri k (Int.ofNat (Nat.div m (td k n)))
  | .ofNat n,a=>ri k (a.fdiv (Int.ofNat (td k n)))
  |_,_=>none
 |op=>bif gZ k k' then (match op with
  | .add=>ri k (dN k (Int.add a b))
  | .sub=>ri k (dN k (Int.sub a b))
  | .mul=>ri k (dN k (Int.mul a b))
  | .eql=>rb (eO a b)
  | .neq=>rb (!(eO a b))
  | .lss=>rb (fD a b)
  | .leq=>rb (!(fD b a))
  | .gtr=>rb (fD b a)
  | .geq=>rb (!(fD a b))
  | .quo=>bif eO b 0 then none else ri k (dN k (a.tdiv b))
  | .rem=>bif eO b 0 then none else ri k (a.tmod b)
  | .and=>bits k Nat.land (λx y=>x&&&y) a b
  | .or=>bits k Nat.lor (λx y=>x|||y) a b
  | .xor=>bits k Nat.xor (λx y=>x^^^y) a b
  | .andNot=>ri k (k.wrap (BitVec.ofInt k.bits a&&&~~~(BitVec.ofInt k.bits b)).toNat)
  |_=>none) else none
def zK (op:BinOp) (a b:List Nat):Option AV:=
 match op with
 | .add=>bif Nat.ble (len a) 1048576&&Nat.ble (len b) 1048576 then (match fy a b with|some l=>some (.s l)|none=>none) else none
 | .eql=>rb (nF a b)
 | .neq=>rb (!(nF a b))
 | .lss=>rb (ul a b)
 | .leq=>rb (ul a b||nF a b)
 | .gtr=>rb (!(ul a b||nF a b))
 | .geq=>rb (!(ul a b))
 |_=>none
def aY (op:BinOp) (x y:AV):Option AV:=
 match x,y with
 | .i k a,.i k' b=>zJ op k k' a b
 | .s a,.s b=>zK op a b
 |_,_=>none
def rP:EK ->AV ->AV ->Option Bool
 | .b,.b x,.b y=>some (bif x then y else !y)
 | .i,.i k x,.i k' y=>bif gZ k k' then some (eO x y) else none
 | .s,.s x,.s y=>some (nF x y)
 | .p,.p o a,.p o' a'=>bif Nat.beq o o' then some (Nat.beq a a') else none
 | .p,.pn,.pn=>some true
 | .p,.p _ _,.pn=>some false
 | .p,.pn,.p _ _=>some false
 | .p,.dp _ _,.pn=>some false
 | .p,.pn,.dp _ _=>some false
 | .sl,.sn,.sn=>some true
 | .sl,.sl ..,.sn=>some false
 | .sl,.sn,.sl .. =>some false
 | .sl,.ds ..,.sn=>some false
 | .sl,.sn,.ds .. =>some false
 | .m,.mn,.mn=>some true
 | .m,.m _,.mn=>some false
 | .m,.mn,.m _=>some false
 | .f,.fnil,.fnil=>some true
 | .f,.f ..,.fnil=>some false
 | .f,.fnil,.f .. =>some false
 | .ifc,.ifn,.ifn=>some true
 | .ifc,.ifc ..,.ifn=>some false
 | .ifc,.ifn,.ifc .. =>some false
 |_,_,_=>none
def eH:Nat ->ET ->AV ->AV ->Option Bool
 |_,.lf k,x,y=>rP k x y
 |n+1,.ag l,.ag x,.ag y=>List.rec (motive:=λ_=>Option Bool) (some true) (λf _ ih=>
  match sub x f.1 f.2.1,sub y f.1 f.2.1 with
  |some a,some b=>match dB f.2.2.1 a,dB f.2.2.1 b with
   |some a,some b=>match eH n f.2.2.2 a b with
    |some true=>ih
    |r=>r
   |_,_=>none
  |_,_=>none) l
 |_,_,_,_=>none
def um (op:UnOp) (x:AV):Option AV:=
 match op,x with
 | .neg,.i k n=>ri k (dN k (Int.sub 0 n))
 | .not,.b b=>rb (!b)
 | .xor,.i k n=>ri k (k.wrap (BitVec.ofInt k.bits (if k.signed then -1 else k.max)^^^BitVec.ofInt k.bits n).toNat)
 |_,_=>none
namespace AH
def get (h:AH) (o:Nat):Option bC:=h.oB.get o
def new {R:Type} (h:AH) (o:bC) (c:Nat ->AH ->R):R:=
 match h with
 |⟨next,ver,oB⟩=>oB.setK next o λt=>fN next λm=>c m ⟨Nat.succ m,ver,t⟩
def put {R:Type} (h:AH) (n:Nat) (o:bC) (c:AH ->R):R:=
 match h with
 |⟨next,ver,oB⟩=>oB.setK n o λt=>fN ver λver=>c ⟨next,Nat.succ ver,t⟩
def cells (h:AH) (o:Nat):Option (List AV):=
 match h.get o with|some (.cells _ l)=>some l|_=>none
def rows (h:AH) (o:Nat):Option (List AV):=
 match h.get o with|some (.cells _ l)=>some l|some (.tc _ _ l)=>some l|_=>none
end AH
def eI (h:AH) (esz:Nat):AV ->Option (List AV)
 | .sl o off n _ e=>bif Nat.beq e esz then (match h.cells o with|some l=>sub l off (n*esz)|none=>none) else none
 | .ds l off n e=>bif Nat.beq e esz then sub l off (n*esz) else none
 | .sn=>some []
 | .s l=>bif Nat.beq esz 1 then eM (λb=>some (.i .u8 (.ofNat b))) l else none
 |_=>none
def ij:AV ->Option Nat
 | .sl _ _ n _ _=>some n
 | .ds _ _ n _=>some n
 | .sn=>some 0
 | .s l=>some (len l)
 |_=>none
def xM:AV ->Option Nat
 | .i .u8 (.ofNat n)=>bif Nat.ble n 255 then some n else none
 |_=>none
def mE (l:List AV):Option (List Nat):=eM xM l
def jx (t:ET) (k:AV) (l:List (AV×AV×Nat)):Option (Option (AV×AV×Nat)):=
 List.rec (motive:=λ_=>Option (Option (AV×AV×Nat))) (some none) (λe _ ih=>match eH 6 t k e.1 with
  |some true=>some (some e)
  |some false=>ih
  |none=>none) l
def d7 (len cap:Nat) (lo hi mx:Option (Option Nat)):Option (Nat×Nat×Nat):=
 match (match mx with|none=>some cap|some r=>r),(match hi with|none=>some len|some r=>r),(match lo with|none=>some 0|some r=>r) with
 |some m,some h,some l=>bif Nat.ble m cap&&Nat.ble h m&&Nat.ble l h then some (l,h,m) else none
 |_,_,_=>none
def gD (h:AH) (s:AV) (n:Nat) (new:List AV) (esz:Nat):ay:=
 Nat.rec (motive:=λ_=>ay) (match s with| .sn=> .v .sn h| .sl o a n c e=> .v (.sl o a n c e) h| .ds l a n e=> .v (.ds l a n e) h|_=> .bad) (λ_ _=>
 match s with
 | .sn=>bif Nat.ble n 1048576&&cF new then h.new (.cells h.ver new) λo h=>fN n λn=> .v (.sl o 0 n none esz) h else .bad
 | .sl o off ln cap e=>
  match h.cells o with
  |none=> .bad
  |some l=>fN (ln+n) λneed=>bif !(Nat.beq e esz&&(Nat.ble need 1048576&&cF new)) then .bad else
   match cap with
   |some c=>
    bif Nat.ble need c then
     match dW new l (off+ln*esz) with
     |some l'=>h.put o (.cells (Nat.succ h.ver) l') λh=> .v (.sl o off need cap esz) h
     |none=> .bad
    else match sub l off (ln*esz) with
     |some old=>match fy old new with
      |some l=>h.new (.cells h.ver l) λo h=> .v (.sl o 0 need none esz) h
      |none=> .bad
     |none=> .bad
   |none=>match sub l off (ln*esz) with
    |some old=>match fy old new with
     |some l=>h.put o .gone λh=>h.new (.cells h.ver l) λo h=> .v (.sl o 0 need none esz) h
     |none=> .bad
    |none=> .bad
 |_=> .bad) n
def vO (h:AH) (T:Nat) (s:AV) (n:Nat) (new:List AV) (esz:Nat):ay:=
 Nat.rec (motive:=λ_=>ay) (match s with| .sn=> .v .sn h| .sl o a n c e=> .v (.sl o a n c e) h| .ds l a n e=> .v (.ds l a n e) h|_=> .bad) (λ_ _=>
 match s with
 | .sn=>bif Nat.ble n 1048576&&cF new then h.new (.tc T false new) λo h=>fN n λn=> .v (.sl o 0 n none esz) h else .bad
 | .sl o 0 ln none e=>
  match h.get o with
  |some (.tc T' _ l)=>fN (ln+n) λneed=>bif !(Nat.beq T' T&&(Nat.beq e esz&&(Nat.ble need 1048576&&cF new))) then .bad else
   match sub l 0 (ln*esz) with
   |some old=>match fy old new with
    |some l=>h.put o .gone λh=>h.new (.tc T false l) λo h=> .v (.sl o 0 need none esz) h
    |none=> .bad
   |none=> .bad
  |_=> .bad
 |_=> .bad) n
def zL (T n off:Nat) (l:List (Nat×Nat×Nat)):Bool:=List.rec (motive:=λ_=>Bool) false (λe _ ih=>Nat.beq e.1 T&&(Nat.beq e.2.1 n&&Nat.beq e.2.2 off)||ih) l
def ik (ev:MA ->AV) (ps:List (Nat×Nat×MA)):List AV ->Option (List AV):=
 List.rec (motive:=λ_=>List AV ->Option (List AV)) (λl=>some l)
  (λp _ ih l=>match cellsO (ev p.2.2) with
   |some c=>bif Nat.beq (len c) p.2.1 then (match dW c l p.1 with|some l=>ih l|none=>none) else none
   |none=>none) ps
def dr (h:AH) (r:Option AV):ay:=match r with|some x=> .v x h|none=> .bad
def jy (lt:Int ->Int ->Bool) (k:IntKind) (l:List AV):Int ->Option AV:=
 List.rec (motive:=λ_=>Int ->Option AV) (λa=>some (.i k a)) (λx _ ih a=>match x with| .i _ b=>bif lt b a then ih b else ih a|_=>none) l
def j3 (et:ET) (k:AV):Bool:=match et with
 | .lf _=>true
 | .ag l=>match eH 6 (.ag l) k k with|some true=>true|_=>false
def zM:AV ->AV ->Bool
 | .b x,.b y=>x==y
 | .i k n,.i k' n'=>gZ k k'&&eO n n'
 | .s x,.s y=>nF x y
 | .p o a,.p o' a'=>Nat.beq o o'&&Nat.beq a a'
 | .pn,.pn=>true
 | .sn,.sn=>true
 | .mn,.mn=>true
 | .fnil,.fnil=>true
 | .ifn,.ifn=>true
 |_,_=>false
def jJ (l:List AV):List AV ->Bool:=
 List.rec (motive:=λ_=>List AV ->Bool) (λv=>List.isEmpty v) (λa _ ih v=>match v with|[]=>false|u::r=>zM a u&&ih r) l
def o9:AV ->AV ->Bool
 | .ag x,.ag y=>jJ x y
 |x,y=>zM x y
def mF (b:Nat) (x y:AV) (l:List (AV×AV×Nat)):Option (List (AV×AV×Nat)):=
 List.rec (motive:=λ_=>Option (List (AV×AV×Nat))) none
  (λe t ih=>bif Nat.beq e.2.2 b then some ((x,y,e.2.2)::t) else match ih with|some t=>some (e::t)|none=>none) l
def Lz (b:Nat) (l:List (AV×AV×Nat)):Option (List (AV×AV×Nat)):=
 List.rec (motive:=λ_=>Option (List (AV×AV×Nat))) none
  (λe t ih=>bif Nat.beq e.2.2 b then some t else match ih with|some t=>some (e::t)|none=>none) l
def vP (n:Nat) (l:List Nat):Bool:=List.rec (motive:=λ_=>Bool) false (λa _ ih=>Nat.beq a n||ih) l
def vQ (seen:List Nat) (l:List (AV×AV×Nat)):Option (List (AV×AV×Nat)):=
 List.rec (motive:=λ_=>Option (List (AV×AV×Nat))) (some []) (λe _ ih=>bif vP e.2.2 seen then ih else match ih with|some t=>some (e::t)|none=>none) l
def vR (since:Nat) (l:List (AV×AV×Nat)):Bool:=List.rec (motive:=λ_=>Bool) true (λe _ ih=>Nat.ble (Nat.succ e.2.2) since&&ih) l
def zN (seen:List Nat) (stepped:Nat) (es:List (AV×AV×Nat)):Bool:=match seen,es with
 |[],_=>true
 |_::_,[]=>true
 |_::_,e::_=>Nat.ble (Nat.succ e.2.2) stepped
def pU (b:Nat) (l:List (AV×AV×Nat)):Option (AV×AV×Nat):=
 List.rec (motive:=λ_=>Option (AV×AV×Nat)) none (λe _ ih=>bif Nat.beq e.2.2 b then some e else ih) l
def xN (t:Nat) (l:List (Nat×Nat)):Option Nat:=List.rec (motive:=λ_=>Option Nat) none (λe _ ih=>bif Nat.beq e.1 t then some e.2 else ih) l
def vS (h:AH) (o:Nat) (isStr:Bool):ay:=match h.get o with
 |some (.sit l pos)=>bif isStr then (match lH l pos with
  |some b=>bif Nat.ble b 127 then (fN pos λpos=>h.put o (.sit l (Nat.succ pos)) λh=> .v (.tu [.b true,.i .i64 (.ofNat pos),.i .i32 (.ofNat b)]) h) else .bad
  |none=> .v (.tu [.b false]) h) else .bad
 |some (.mit none _ _ _)=>bif isStr then .bad else .v (.tu [.b false]) h
 |some (.mit (some m) since seen stepped)=>bif isStr then .bad else match h.get m with
  |some (.map _ es cl)=>bif !(zN seen stepped es) then .bad else match vQ seen es with
   |some left=>bif vR since left then (match left with
    |[]=> .v (.tu [.b false]) h
    |[e]=>match fy seen [e.2.2] with
     |some seen=>h.put o (.mit (some m) since seen cl) λh=> .v (.tu [.b true,e.1,e.2.1]) h
     |none=> .bad
    |l=>match eM (λ(e:AV×AV×Nat)=>match fy seen [e.2.2] with
     |some seen=>h.put o (.mit (some m) since seen cl) λh=>some (AV.tu [.b true,e.1,e.2.1],h)
     |none=>none) l with
     |some l=> .alts l
     |none=> .bad) else .bad
   |none=> .bad
  |_=> .bad
 |_=> .bad
def vT (h:AH) (o:Nat):ay:=match h.get o with
 |some (.mit (some m) _ seen stepped)=>match h.get m with
  |some (.map _ es cl)=>match List.rec (motive:=λ_=>Option Nat ->Option Nat) (λr=>r) (λa _ ih _=>ih (some a)) seen none with
   |some b=>bif Nat.beq cl stepped then (match pU b es with|some e=> .v (.tu [e.1,e.2.1]) h|none=> .bad) else .bad
   |none=> .bad
  |_=> .bad
 |_=> .bad
section
variable (ev:MA ->AV)
def eE (l:List MA):Option (List AV):=eM (λa=>fV (ev a) some) l
def nA (a:MA):Option Nat:=fP (ev a)
def nO:Option MA ->Option (Option Nat)
 |none=>none
 |some a=>some (nA ev a)
def step (h:AH) (op:jn):ay:=
 match op with
 | .mv a=>fV (ev a) λx=> .v x h
 | .pick c a b=>match ev c with| .b x=>Bool.rec (motive:=λ_=>ay) (fV (ev b) λx=> .v x h) (fV (ev a) λx=> .v x h) x|_=> .bad
 | .alloc z=>h.new (.cells h.ver z) λo h=> .v (.p o 0) h
 | .box a _=>match cellsO (ev a) with|some l=>h.new (.cells h.ver l) λo h=> .v (.p o 0) h|none=> .bad
 | .build z ps=>match ik ev ps z with|some l=> .v (.ag l) h|none=> .bad
 | .bslice z n esz ps=>match ik ev ps z with
  |some l=>h.new (.cells h.ver l) λo h=> .v (.sl o 0 n (some n) esz) h
  |none=> .bad
 | .load a n agg=>match ev a with
  | .p o off=>match h.cells o with
   |some l=>match sub l off n with|some c=>dr h (dB agg c)|none=> .bad
   |none=> .bad
  | .dp l off=>match sub l off n with|some c=>dr h (dB agg c)|none=> .bad
  |_=> .bad
 | .store a x n=>match ev a with
  | .p o off=>match h.cells o with
   |some l=>fV (ev x) λx=>match dW (cellsOf x) l off with
    |some l'=>bif cF (cellsOf x)&&Nat.beq (len (cellsOf x)) n then h.put o (.cells (Nat.succ h.ver) l') λh=> .v .un h else .bad
    |none=> .bad
   |none=> .bad
  |_=> .bad
 | .tal T z=>h.new (.tc T true z) λo h=> .v (.p o 0) h
 | .tbx T a=>match cellsO (ev a) with|some l=>h.new (.tc T true l) λo h=> .v (.p o 0) h|none=> .bad
 | .tst a x n=>match ev a with
  | .p o off=>match h.get o with
   |some (.tc T wh l)=>fV (ev x) λx=>match dW (cellsOf x) l off with
    |some l'=>bif cF (cellsOf x)&&Nat.beq (len (cellsOf x)) n then h.put o (.tc T wh l') λh=> .v .un h else .bad
    |none=> .bad
   |some (.cells _ l)=>fV (ev x) λx=>match dW (cellsOf x) l off with
    |some l'=>bif cF (cellsOf x)&&Nat.beq (len (cellsOf x)) n then h.put o (.cells 0 l') λh=> .v .un h else .bad
    |none=> .bad
   |_=> .bad
  |_=> .bad
 | .tld a n agg=>match ev a with
  | .p o off=>match h.rows o with
   |some l=>match sub l off n with|some c=>dr h (dB agg c)|none=> .bad
   |none=> .bad
  | .dp l off=>match sub l off n with|some c=>dr h (dB agg c)|none=> .bad
  |_=> .bad
 | .cvp x=>match ev x with
  | .p o off=>match h.get o with
   |some (.tc _ _ l)=>bif Nat.ble (Nat.succ off) (len l) then .v (.p o off) h else .bad
   |_=> .bad
  |_=> .bad
 | .cvu tbl x=>match ev x with
  | .p o off=>match h.get o with
   |some (.tc T true l)=>bif zL T (len l) off tbl then .v (.p o off) h else .bad
   |_=> .bad
  |_=> .bad
 | .usd x=>match ev x with
  | .sn=> .v .pn h
  | .sl o off (n+1) c e=> .v (.p o off) h
  |_=> .bad
 | .ust T p n=>match ev n with
  | .i .i64 (.ofNat 0)=>(match ev p with| .pn=> .v (.s []) h|_=> .bad)
  | .i .i64 (.ofNat (n+1))=>(match ev p with
   | .p o 0=>match h.get o with
    |some (.tc T' _ l)=>bif Nat.beq T' T&&Nat.ble n 1048576 then (match sub l 0 (Nat.succ n) with
     |some c=>match mE c with
      |some b=>h.put o .gone λh=> .v (.s b) h
      |none=> .bad
     |none=> .bad) else .bad
    |_=> .bad
   |_=> .bad)
  |_=> .bad
 | .nilc a=>match ev a with
  | .p o a=> .v (.p o a) h
  | .dp l a=> .v (.dp l a) h
  | .f g a b=> .v (.f g a b) h
  | .y l=> .v (.y l) h
  | .ifc t v=> .v (.ifc t v) h
  | .m o=> .v (.m o) h
  |_=> .bad
 | .bin op x y=>dr h (aY op (ev x) (ev y))
 | .eqv ne e x y=>match eH 6 e (ev x) (ev y) with|some r=> .v (.b (bif ne then !r else r)) h|none=> .bad
 | .un op x=>dr h (um op (ev x))
 | .cvi k x=>match ev x with| .i _ n=>dr h (ri k (dN k n))|_=> .bad
 | .cvs x=>match ev x with| .s l=> .v (.s l) h|_=> .bad
 | .s2b x=>match ev x with
  | .s l=>match eM (λb=>some (AV.i .u8 (.ofNat b))) l with
   |some c=>fN (len l) λn=>h.new (.cells h.ver c) λo h=> .v (.sl o 0 n none 1) h
   |none=> .bad
  |_=> .bad
 | .b2s x=>match ev x with
  | .s _=> .bad
  |y=>match eI h 1 y with
   |some l=>match mE l with|some b=> .v (.s b) h|none=> .bad
   |none=> .bad
 | .mif t x=>fV (ev x) λx=> .v (.ifc t x) h
 | .mfn fn a b=>match eE ev a,eE ev b with|some a,some b=> .v (.f fn a b) h|_,_=> .bad
 | .mmap r=>match r with
  |none=>h.new (.map h.ver [] 0) λo h=> .v (.m o) h
  |some a=>match ev a with| .i _ _=>h.new (.map h.ver [] 0) λo h=> .v (.m o) h|_=> .bad
 | .mslice z esz _ l c=>match nA ev l,nA ev c with
  |some l,some c=>bif Nat.ble l c&&Nat.ble c 1048576 then (match rN z c with
   |some r=>h.new (.cells h.ver r) λo h=> .v (.sl o 0 l (some c) esz) h
   |none=> .bad) else .bad
  |_,_=> .bad
 | .slc es x lo hi mx=>
  match ev x with
  | .sl o off n cap esz=>bif !(Nat.beq esz es) then .bad else match cap with
   |some c=>match d7 n c (nO ev lo) (nO ev hi) (nO ev mx) with
    |some (l,r,m)=>fN (off+l*esz) λoff=>fN (r-l) λn=>fN (m-l) λc=> .v (.sl o off n (some c) esz) h
    |none=> .bad
   |none=>match mx with
    |none=>match d7 n n (nO ev lo) (nO ev hi) none with
     |some (l,r,_)=>fN (off+l*esz) λoff=>fN (r-l) λn=> .v (.sl o off n none esz) h
     |none=> .bad
    |some mx=>match d7 n n (nO ev lo) (nO ev hi) (nO ev (some mx)) with
     |some (l,r,m)=>fN (off+l*esz) λoff=>fN (r-l) λn=>fN (m-l) λc=> .v (.sl o off n (some c) esz) h
     |none=> .bad
  | .ds c off n esz=>bif !(Nat.beq esz es) then .bad else match mx with
   |none=>match d7 n n (nO ev lo) (nO ev hi) none with
    |some (l,r,_)=>fN (off+l*esz) λoff=>fN (r-l) λn=> .v (.ds c off n esz) h
    |none=> .bad
   |some _=> .bad
  | .sn=>match d7 0 0 (nO ev lo) (nO ev hi) (nO ev mx) with|some _=> .v .sn h|none=> .bad
  |_=> .bad
 | .slcs x lo hi=>
  match ev x with
  | .s s=>match d7 (len s) (len s) (nO ev lo) (nO ev hi) none with
   |some (l,r,_)=>match sub s l (r-l) with|some t=> .v (.s t) h|none=> .bad
   |none=> .bad
  |_=> .bad
 | .slca n esz x lo hi mx=>
  match d7 n n (nO ev lo) (nO ev hi) (nO ev mx) with
  |some (l,r,m)=>match ev x with
   | .p o off=>match h.cells o with
    |some cs=>match sub cs off (n*esz) with
     |some _=>fN (off+l*esz) λoff=>fN (r-l) λn=>fN (m-l) λc=> .v (.sl o off n (some c) esz) h
     |none=> .bad
    |none=> .bad
   | .dp c off=>fN (off+l*esz) λoff=>fN (r-l) λn=> .v (.ds c off n esz) h
   |_=> .bad
  |none=> .bad
 | .fadr x off=>match ev x with
  | .p o a=>fN (a+off) λa=> .v (.p o a) h
  | .dp l a=>fN (a+off) λa=> .v (.dp l a) h
  |_=> .bad
 | .fld x off n agg=>match ev x with
  | .ag l=>match sub l off n with|some c=>dr h (dB agg c)|none=> .bad
  |_=> .bad
 | .iadr es x i=>match nA ev i with
  |some k=>match ev x with
   | .sl o off n _ esz=>bif Nat.beq esz es&&Nat.ble (Nat.succ k) n then fN (off+k*esz) λa=> .v (.p o a) h else .bad
   | .ds l off n esz=>bif Nat.beq esz es&&Nat.ble (Nat.succ k) n then fN (off+k*esz) λa=> .v (.dp l a) h else .bad
   |_=> .bad
  |none=> .bad
 | .iadra n esz x i=>match nA ev i with
  |some k=>bif Nat.ble (Nat.succ k) n then (match ev x with
   | .p o off=>fN (off+k*esz) λa=> .v (.p o a) h
   | .dp l off=>fN (off+k*esz) λa=> .v (.dp l a) h
   |_=> .bad) else .bad
  |none=> .bad
 | .idxs x i=>match nA ev i,ev x with
  |some k,.s l=>match lH l k with|some b=> .v (.i .u8 (.ofNat b)) h|none=> .bad
  |_,_=> .bad
 | .idxa n esz agg x i=>match nA ev i,ev x with
  |some k,.ag l=>bif Nat.ble (Nat.succ k) n then (match sub l (k*esz) esz with|some c=>dr h (dB agg c)|none=> .bad) else .bad
  |_,_=> .bad
 | .look et m k z ok=>bif !(j3 et (ev k)) then .bad else
  match (match ev m with
   | .mn=>some none
   | .m o=>match h.get o with|some (.map _ es _)=>jx et (ev k) es|_=>none
   |_=>none) with
  |some (some e)=>Bool.rec (motive:=λ_=>ay) (.v e.2.1 h) (.v (.tu [e.2.1,.b true]) h) ok
  |some none=>Bool.rec (motive:=λ_=>ay) (.v z h) (.v (.tu [z,.b false]) h) ok
  |none=> .bad
 | .mupd et m k x=>bif !(j3 et (ev k)) then .bad else match ev m with
  | .m o=>match h.get o with
   |some (.map _ es cl)=>fV (ev k) λk=>fV (ev x) λx=>match jx et k es with
    |some (some e)=>bif o9 k e.1 then (match mF e.2.2 k x es with
     |some es=>h.put o (.map (Nat.succ h.ver) es cl) λh=> .v .un h
     |none=> .bad) else .bad
    |some none=>match fy es [(k,x,cl)] with
     |some es=>fN cl λcl=>h.put o (.map (Nat.succ h.ver) es (Nat.succ cl)) λh=> .v .un h
     |none=> .bad
    |none=> .bad
   |_=> .bad
  |_=> .bad
 | .ment et m k z=>bif !(j3 et (ev k)) then .bad else match ev m with
  | .m o=>match h.get o with
   |some (.map _ es cl)=>fV (ev k) λk=>match jx et k es with
    |some (some e)=>bif o9 k e.1 then (match mF e.2.2 k e.2.1 es with
     |some es=>h.put o (.map (Nat.succ h.ver) es cl) λh=> .v (.tu [e.2.1,.i .i64 (.ofNat e.2.2)]) h
     |none=> .bad) else .bad
    |some none=>match fy es [(k,z,cl)] with
     |some es=>fN cl λcl=>h.put o (.map (Nat.succ h.ver) es (Nat.succ cl)) λh=> .v (.tu [z,.i .i64 (.ofNat cl)]) h
     |none=> .bad
    |none=> .bad
   |_=> .bad
  |_=> .bad
 | .mest m s x=>match ev m,nA ev s with
  | .m o,some b=>match h.get o with
   |some (.map _ es cl)=>fV (ev x) λx=>match pU b es with
    |some e=>match mF b e.1 x es with
     |some es=>h.put o (.map (Nat.succ h.ver) es cl) λh=> .v .un h
     |none=> .bad
    |none=> .bad
   |_=> .bad
  |_,_=> .bad
 | .rng x str=>match ev x with
  | .s l=>bif str then h.new (.sit l 0) λo h=> .v (.p o 0) h else .bad
  | .mn=>bif str then .bad else h.new (.mit none 0 [] 0) λo h=> .v (.p o 0) h
  | .m o=>bif str then .bad else match h.get o with
   |some (.map _ _ cl)=>h.new (.mit (some o) cl [] cl) λo h=> .v (.p o 0) h
   |_=> .bad
  |_=> .bad
 | .nxt x isStr=>match ev x with
  | .p o off=>bif Nat.beq off 0 then vS h o isStr else .bad
  |_=> .bad
 | .ent x=>match ev x with
  | .p o off=>bif Nat.beq off 0 then vT h o else .bad
  |_=> .bad
 | .tas x t ok z=>match ev x with
  | .ifc u y=>bif Nat.beq u t then Bool.rec (motive:=λ_=>ay) (.v y h) (.v (.tu [y,.b true]) h) ok else bif ok then .v (.tu [z,.b false]) h else .bad
  | .ifn=>bif ok then .v (.tu [z,.b false]) h else .bad
  |_=> .bad
 | .ext x i=>match ev x with| .tu l=>dr h (lH l i)|_=> .bad
 | .call f args=>match eE ev args with|some l=> .call f l h|none=> .bad
 | .callv f args=>match eE ev args with
  |some l=>match ev f with
   | .f g fi ca=>match fy l ca with
    |some l=>match fy fi l with|some l=> .call g l h|none=> .bad
    |none=> .bad
   | .y o=> .yld o l h
   |_=> .bad
  |none=> .bad
 | .calli r tbl args=>match ev r,eE ev args with
  | .ifc t x,some l=>match xN t tbl with|some f=> .call f (x::l) h|none=> .bad
  |_,_=> .bad
 | .app s x esz _=>match ij (ev x),eI h esz (ev x) with
  |some n,some l=>gD h (ev s) n l esz
  |_,_=> .bad
 | .tap T s x esz _=>match ij (ev x),eI h esz (ev x) with
  |some n,some l=>vO h T (ev s) n l esz
  |_,_=> .bad
 | .appz s x esz _ z=>match ev s,nA ev x with
  | .sn,some (n+1)=>bif Nat.ble n 1000000 then (match rN z (Nat.succ n) with
   |some r=>h.new (.cells h.ver r) λo h=> .v (.sl o 0 (Nat.succ n) none esz) h
   |none=> .bad) else .bad
  |_,_=> .bad
 | .len k x=>match k with
  | .str=>match ev x with| .s l=>fN (len l) λn=> .v (ι (.ofNat n)) h|_=> .bad
  | .arr n=> .v (ι (.ofNat n)) h
  | .slice=>match ev x with
   | .s _=> .bad
   |y=>match ij y with|some n=> .v (ι (.ofNat n)) h|none=> .bad
  | .map=>match ev x with
   | .mn=> .v (ι (.ofNat 0)) h
   | .m o=>match h.get o with|some (.map _ es _)=>fN (len es) λn=> .v (ι (.ofNat n)) h|_=> .bad
   |_=> .bad
 | .cap x=>match ev x with
  | .sn=> .v (ι (.ofNat 0)) h
  | .sl _ _ _ (some c) _=> .v (ι (.ofNat c)) h
  |_=> .bad
 | .copy d s esz=>match ij (ev s) with
  |some b=>match ev d with
   | .sl o off a _ _=>match eI h esz (ev s),h.cells o with
    |some l,some cs=>fN (bif Nat.ble a b then a else b) λn=>
     match xL l (n*esz) with
     |some c=>match dW c cs off with
      |some cs'=>bif cF c then h.put o (.cells (Nat.succ h.ver) cs') λh=> .v (ι (.ofNat n)) h else .bad
      |none=> .bad
     |_=> .bad
    |_,_=> .bad
   | .sn=> .v (ι (.ofNat 0)) h
   |_=> .bad
  |_=> .bad
 | .min l=>match eE ev l with|some (.i k a::r)=>dr h (jy fD k r a)|_=> .bad
 | .max l=>match eE ev l with|some (.i k a::r)=>dr h (jy (λx y=>fD y x) k r a)|_=> .bad
 | .del et m k=>bif !(j3 et (ev k)) then .bad else match ev m with
  | .mn=> .v (.tu []) h
  | .m o=>match h.get o with
   |some (.map _ es cl)=>match jx et (ev k) es with
    |some (some e)=>match Lz e.2.2 es with
     |some es=>h.put o (.map (Nat.succ h.ver) es cl) λh=> .v (.tu []) h
     |none=> .bad
    |some none=> .v (.tu []) h
    |none=> .bad
   |_=> .bad
  |_=> .bad
 | .bad _=> .bad
end
structure aK (R:Type) where
 ae:T au
 gL:T (List AV)
 spec:Nat ->List AV ->AH ->(AV ->AH ->R) ->R ->R
 fail:R
 both:R ->R ->R
section
variable {R:Type} (C:aK R)
def az (τ:T AV) (a:MA):AV:=
 MA.rec (motive:=λ_=>AV) (λn=>Option.rec (motive:=λ_=>AV) .un (λv=>v) (τ.get n)) (λv=>v)
  (λn=>Option.rec (motive:=λ_=>AV) .un (λl=> .dp l 0) (C.gL.get n)) a
def eh (τ:T AV) (d:Option Nat) (v:AV) (k:T AV ->R):R:=
 Option.rec (motive:=λ_=>R) (k τ) (λd=>τ.setK d v k) d
def gQ (f:AV ->AH ->R) (l:List (AV×AH)):R:=
 List.rec (motive:=λ_=>R) C.fail (λe t ih=>List.casesOn (motive:=λ_=>R) t (f e.1 e.2) λ_ _=>C.both (f e.1 e.2) ih) l
def eY (bz:Nat ->List AV ->AH ->(AV ->AH ->R) ->R) (bA:Nat ->List AV ->AH ->(AV ->AH ->R) ->R) (g:MG) (τ:T AV) (h:AH) (k:AV ->AH ->R):R:=
 let act:R:=match step (az C τ) h g.op with
  | .v x h=>k x h
  | .call f args h=>bz f args h k
  | .yld l args h=>bA l args h k
  | .alts l=>gQ C k l
  | .bad=>C.fail
 match g.guard with
 |none=>act
 |some (t,w)=>match τ.get t with
  |some (.b x)=>Bool.rec (motive:=λ_=>R) (k (.tu []) h) act (bif x then w else !w)
  |some (.tu [])=>k (.tu []) h
  |_=>C.fail
def dO (bz:Nat ->List AV ->AH ->(AV ->AH ->R) ->R) (bA:Nat ->List AV ->AH ->(AV ->AH ->R) ->R)
 (k:T AV ->AH ->R) (l:List MG):T AV ->AH ->R:=
 List.rec (motive:=λ_=>T AV ->AH ->R) k (λg _ ih τ h=>eY C bz bA g τ h λx h=>eh τ g.dst x λτ=>ih τ h) l
def ez (τ:T AV) (h:AH) (g:MG):Option AV:=
 let act:Option AV:=match step (az C τ) h g.op with| .v x _=>some x|_=>none
 match g.guard with
 |none=>act
 |some (t,w)=>match τ.get t with
  |some (.b x)=>Bool.rec (motive:=λ_=>Option AV) (some (.tu [])) act (bif x then w else !w)
  |some (.tu [])=>some (.tu [])
  |_=>none
def cZ:Nat ->AV ->AV ->Bool
 |_,.b x,.b y=>bif x then y else !y
 |_,.i k n,.i k' n'=>gZ k k'&&eO n n'
 |_,.s x,.s y=>nF x y
 |_,.p o a,.p o' a'=>Nat.beq o o'&&Nat.beq a a'
 |_,.pn,.pn=>true
 |_,.sl o a n none e,.sl o' a' n' none e'=>Nat.beq o o'&&(Nat.beq a a'&&(Nat.beq n n'&&Nat.beq e e'))
 |_,.sl o a n (some c) e,.sl o' a' n' (some c') e'=>Nat.beq o o'&&(Nat.beq a a'&&(Nat.beq n n'&&(Nat.beq e e'&&Nat.beq c c')))
 |_,.sn,.sn=>true
 |_,.m o,.m o'=>Nat.beq o o'
 |_,.mn,.mn=>true
 |_,.y o,.y o'=>Nat.beq o o'
 |_,.fnil,.fnil=>true
 |_,.ifn,.ifn=>true
 |n+1,.dp l a,.dp l' a'=>Nat.beq a a'&&avEqs (cZ n) l l'
 |n+1,.ds l a k e,.ds l' a' k' e'=>Nat.beq a a'&&(Nat.beq k k'&&(Nat.beq e e'&&avEqs (cZ n) l l'))
 |n+1,.f g x y,.f g' x' y'=>Nat.beq g g'&&(avEqs (cZ n) x x'&&avEqs (cZ n) y y')
 |n+1,.ifc t v,.ifc t' v'=>Nat.beq t t'&&cZ n v v'
 |n+1,.ag l,.ag l'=>avEqs (cZ n) l l'
 |n+1,.tu l,.tu l'=>avEqs (cZ n) l l'
 |_,_,_=>false
 where avEqs (f:AV ->AV ->Bool) (l:List AV):List AV ->Bool:=
 List.rec (motive:=λ_=>List AV ->Bool) (λv=>List.isEmpty v) (λa _ ih v=>List.casesOn (motive:=λ_=>Bool) v false λb r=>f a b&&ih r) l
def eA (τ:T AV) (h:AH) (mask:Nat) (ls:List (Nat×MG)) (k:R):R:=
 List.rec (motive:=λ_=>R) k (λp _ ih=>bif Nat.testBit mask p.1 then ih else match ez C τ h p.2 with
  |some x=>match p.2.dst with
   |none=>ih
   |some d=>match τ.get d with
    |some y=>bif cZ 64 x y then ih else C.fail
    |none=>C.fail
  |none=>C.fail) ls
def iC (i:Nat) (l:List (Nat×Nat×bC)):Option (Nat×bC):=List.rec (motive:=λ_=>Option (Nat×bC)) none (λe _ ih=>bif Nat.beq e.1 i then some e.2 else ih) l
def bW (bz:Nat ->List AV ->AH ->(AV ->AH ->R) ->R) (bA:Nat ->List AV ->AH ->(AV ->AH ->R) ->R) (base:Nat)
 (k:T AV ->AH ->R) (l:List DI):List (Nat×MG) ->List (Nat×Nat×bC) ->T AV ->AH ->R:=
 List.rec (motive:=λ_=>List (Nat×MG) ->List (Nat×Nat×bC) ->T AV ->AH ->R) (λ_ _=>k) (λd _ ih ls pd τ h=>match d with
  | .light i g=>match ez C τ h g with
   |some x=>eh τ g.dst x λτ=>ih ((i,g)::ls) pd τ h
   |none=>C.fail
  | .resv i n g=>fN (base+n) λid=>match step (az C τ) ⟨id,h.ver,.e⟩ g.op with
   | .v x h'=>match h'.oB.get id with
    |some ob=>eh τ g.dst x λτ=>ih ls ((i,id,ob)::pd) τ h
    |none=>C.fail
   |_=>C.fail
  | .lay i=>match iC i pd with
   |some (id,ob)=>h.put id ob λh=>ih ls pd τ h
   |none=>C.fail
  | .heavy _ g mask=>eY C bz bA g τ h λx h=>eh τ g.dst x λτ=>eA C τ h mask ls (ih ls pd τ h)) l
def FW (l:List AV):Nat ->T AV ->(T AV ->R) ->R:=
 List.rec (motive:=λ_=>Nat ->T AV ->(T AV ->R) ->R) (λ_ τ k=>k τ) (λa _ ih n τ k=>τ.setK n a λτ=>fN n λn=>ih (Nat.succ n) τ k) l
def fY (τ:T AV) (h:AH) (l:List (Nat×Option (Nat×Bool))):Option (List AV):=
 eM (λe=>match e.2 with
  |none=>τ.get e.1
  |some (n,agg)=>match τ.get e.1 with
   |some (.p o off)=>match h.cells o with
    |some c=>match sub c off n with
     |some c=>dB agg c
     |none=>none
    |none=>none
   |_=>none) l
def eZ (τ:T AV) (h:AH) (l:List (Nat×Option (Nat×Bool))):Option AV:=
 match fY τ h l with|some [v]=>some v|some l=>some (.tu l)|none=>none
abbrev K (R:Type):=pS ->T AV ->AH ->R
def j4 (run:aw ->K R ->T AV ->AH ->R) (f:Nat) (args:List AV) (h:AH) (k:AV ->AH ->R):R:=
 match C.ae.get f with
 |none=>C.fail
 |some fn=>FW args 0 .e λτ=>run fn.body (λe τ h=>match e with
  | .exit _=>C.fail
  |_=>match eZ τ h fn.res with|some v=>k v h|none=>C.fail) τ h
def iS (run:aw ->K R ->T AV ->AH ->R) (f:Nat) (args:List AV) (h:AH) (k:AV ->AH ->R):R:=
 C.spec f args h k (j4 C run f args h k)
def nG (l:List Nat):List AV ->T AV ->(T AV ->R) ->R:=
 List.rec (motive:=λ_=>List AV ->T AV ->(T AV ->R) ->R) (λa τ k=>List.casesOn (motive:=λ_=>R) a (k τ) λ_ _=>C.fail)
  (λp _ ih a τ k=>List.casesOn (motive:=λ_=>R) a C.fail λx t=>τ.setK p x λτ=>ih t τ k) l
def pV (h:AH) (l:Nat) (k:AH ->R):R:=
 match h.get l with
 |some (.loop ps assign body env 0 p)=>h.put l (.loop ps assign body env 1 p) k
 |_=>C.fail
def j5 (h:AH) (l st:Nat) (p:Option (Option Nat)) (k:AH ->R):R:=
 match h.get l with
 |some (.loop ps assign body env _ _)=>h.put l (.loop ps assign body env st p) k
 |_=>C.fail
def iD (run:aw ->K R ->T AV ->AH ->R) (l:Nat) (args:List AV) (h:AH) (k:AV ->AH ->R):R:=
 match h.get l with
 |some (.loop ps assign body env _ _)=>
  nG C ps args env λτ=>run assign (λe τ h=>match e with
   | .normal=>pV C h l λh=>run body (λe _ h=>match e with
    | .normal=>j5 C h l 0 none λh=>k (.b true) h
    | .exit i=>j5 C h l 2 (some (some i)) λh=>k (.b false) h
    | .ret=>j5 C h l 2 (some none) λh=>k (.b false) h) τ h
   |_=>C.fail) τ h
 |_=>C.fail
def run (n:Nat):aw ->K R ->T AV ->AH ->R:=
 Nat.rec (motive:=λ_=>aw ->K R ->T AV ->AH ->R) (λ_ _ _ _=>C.fail) (λ_ ih c k τ h=>
  match c with
  | .skip=>k .normal τ h
  | .ops l=>dO C (iS C ih) (iD C ih) (λτ h=>k .normal τ h) l τ h
  | .draw n l=>fN (h.next+n) λnx=>bW C (iS C ih) (iD C ih) h.next (λτ h=>k .normal τ h) l [] [] τ ⟨nx,h.ver,h.oB⟩
  | .dfr l x fn=>dO C (iS C ih) (iD C ih) (λτ h=>match az C τ x with
   | .f g _ _=>bif Nat.beq g fn then k .normal τ h else C.fail
   |_=>C.fail) l τ h
  | .seq a b=>ih a (λe τ h=>match e with| .normal=>ih b k τ h|e=>k e τ h) τ h
  | .cond c a b=>match az C τ c with
   | .b x=>Bool.rec (motive:=λ_=>R) (ih b k τ h) (ih a k τ h) x
   |_=>C.fail
  | .block id c=>ih c (λe τ h=>match e with| .exit i=>bif Nat.beq i id then k .normal τ h else k (.exit i) τ h|e=>k e τ h) τ h
  | .loop c=>ih c (λe τ h=>match e with| .normal=>ih (.loop c) k τ h|e=>k e τ h) τ h
  | .rfun f ps assign body=>h.new (.loop ps assign body τ 0 none) λl h=>
   let fin:AV ->AH ->R:=λ_ h=>match h.get l with
    |some (.loop _ _ _ _ 0 none)=>h.put l .gone λh=>k .normal τ h
    |some (.loop _ _ _ _ 2 (some (some i)))=>h.put l .gone λh=>k (.exit i) τ h
    |some (.loop _ _ _ _ 2 (some none))=>h.put l .gone λh=>k .ret τ h
    |_=>C.fail
   match az C τ f with
   | .f g fi ca=>match fy fi (.y l::ca) with
    |some l=>j4 C ih g l h fin
    |none=>C.fail
   |_=>C.fail
  | .exit id=>k (.exit id) τ h
  | .ret=>k .ret τ h
  | .bad _=>C.fail) n
end
end
end AM
namespace AM
def rQ {a b:Nat} (h:¬a=b):Nat.beq a b=false:=by
 cases e:Nat.beq a b with
 |false=>rfl
 |true=>exact bh (qG e) h
def vU {a b:Nat} (h:a=b):Nat.beq a b=true:=by subst h;exact Nat.beq_refl a
namespace T
variable {α R:Type}
noncomputable def put (t:T α) (n:Nat) (x:α):T α:=t.setK n x λt=>t
def Cv (k:Nat):(T.e:T α).get k=none:=rfl
def te (l r:T α) (v:Option α) (k:Nat):
 (T.n l v r).get k=if k=0 then v else if k%2=1 then l.get (k/2) else r.get (k/2-1):=by
 show(Bool.rec (Bool.rec (r.get (k/2-1)) (l.get (k/2)) (Nat.beq (k%2) 1)) v (Nat.beq k 0):Option α)=_;by_cases h:k=0
 ·subst h;rfl
 ·have h1:Nat.beq k 0=false:=rQ h;rw[h1,aD h];by_cases h2:k%2=1
  ·have:Nat.beq (k%2) 1=true:=vU h2;rw[this,aF h2]
  ·have:Nat.beq (k%2) 1=false:=rQ h2;rw[this,aD h2]
def FX (l r:T α) (v:Option α) (k:Nat) (x:α) (c:T α ->R):
 (T.n l v r).setK k x c=if k=0 then c (.n l (some x) r) else if k%2=1 then l.setK (k/2) x λl'=>c (.n l' v r) else r.setK (k/2-1) x λr'=>c (.n l v r'):=by
 show(Bool.rec (Bool.rec (r.setK (k/2-1) x λr'=>c (.n l v r')) (l.setK (k/2) x λl'=>c (.n l' v r)) (Nat.beq (k%2) 1)) (c (.n l (some x) r)) (Nat.beq k 0):R)=_;by_cases h:k=0
 ·subst h;rfl
 ·have h1:Nat.beq k 0=false:=rQ h;rw[h1,aD h];by_cases h2:k%2=1
  ·have:Nat.beq (k%2) 1=true:=vU h2;rw[this,aF h2]
  ·have:Nat.beq (k%2) 1=false:=rQ h2;rw[this,aD h2]
def setK_put (t:T α):∀{R:Type} (k:Nat) (x:α) (c:T α ->R),t.setK k x c=c (t.put k x):=by
 induction t with
 |e=>intro R k x c;rfl
 |n l v r ihl ihr=>
  intro R k x c;unfold put;rw[FX,FX];split
  ·rfl
  ·split
   ·rw[ihl,ihl]
   ·rw[ihr,ihr]
def X4 (x:α):∀(f k m:Nat),k<f ->(T.one x f k).get m=if m=k then some x else none:=by
 intro f;induction f with
 |zero=>intro k m h;omega
 |succ f ih=>
  intro k m h;show(Bool.rec (Bool.rec (.n .e none (T.one x f (k/2-1))) (.n (T.one x f (k/2)) none .e) (Nat.beq (k%2) 1)) (.n .e (some x) .e) (Nat.beq k 0):T α).get m=_;by_cases h0:k=0
  ·subst h0;show(T.n .e (some x) .e:T α).get m=_;rw[te];by_cases hm:m=0
   ·simp[hm]
   ·simp[hm,Cv]
  ·have h1:Nat.beq k 0=false:=rQ h0;rw[h1];by_cases h2:k%2=1
   ·have:Nat.beq (k%2) 1=true:=vU h2;rw[this];show(T.n (T.one x f (k/2)) none .e:T α).get m=_;rw[te,ih _ _ ω];by_cases hm:m=0
    ·simp[hm];omega
    ·by_cases hm2:m%2=1
     ·simp only[hm,hm2,bV,dZ];by_cases e:m=k
      ·simp[e]
      ·rw[aD ω,aD e]
     ·simp only[hm,hm2,bV,Cv];rw[aD (by intro e;subst e;exact hm2 h2)]
   ·have:Nat.beq (k%2) 1=false:=rQ h2;rw[this];show(T.n .e none (T.one x f (k/2-1)):T α).get m=_;rw[te,ih _ _ ω];by_cases hm:m=0
    ·simp[hm];omega
    ·by_cases hm2:m%2=1
     ·simp only[hm,hm2,bV,dZ,Cv];rw[aD (by intro e;subst e;exact h2 hm2)]
     ·simp only[hm,hm2,bV];by_cases e:m=k
      ·simp[e]
      ·rw[aD ω,aD e]
def get_put (t:T α):∀(k m:Nat) (x:α),(t.put k x).get m=if m=k then some x else t.get m:=by
 induction t with
 |e=>
  intro k m x;show(T.one x (Nat.succ k) k).get m=_;rw[X4 x _ _ _ (qI k),Cv]
 |n l v r ihl ihr=>
  intro k m x;unfold put;rw[FX];by_cases h0:k=0
  ·subst h0;rw[aF rfl,te,te];by_cases hm:m=0<;>simp[hm]
  ·rw[aD h0];by_cases h2:k%2=1
   ·rw[aF h2,setK_put,te,te,ihl];by_cases hm:m=0
    ·simp only[hm,dZ];rw[aD ω]
    ·by_cases hm2:m%2=1
     ·simp only[hm,hm2,bV,dZ];by_cases e:m=k
      ·simp[e]
      ·rw[aD ω,aD e]
     ·simp only[hm,hm2,bV];rw[aD (by intro e;subst e;exact hm2 h2)]
   ·rw[aD h2,setK_put,te,te,ihr];by_cases hm:m=0
    ·simp only[hm,dZ];rw[aD ω]
    ·by_cases hm2:m%2=1
     ·simp only[hm,hm2,bV,dZ];rw[aD (by intro e;subst e;exact h2 hm2)]
     ·simp only[hm,hm2,bV];by_cases e:m=k
      ·simp[e]
      ·rw[aD ω,aD e]
end T
end AM
namespace AM
open Go
structure CE where
 dM:Nat ->Prop
 ρ:Nat ->Nat×Nat
 sz:Nat ->Nat
 im:Nat ->Option (Array Value)
 gl:Nat ->Option (List AV)
def CE.addr (c:CE) (o off:Nat):Addr:=⟨(c.ρ o).1,(c.ρ o).2+off,none⟩
def xO (row:Array Value) (b:Nat) (vs:List Value):Prop:=∀i v,vs[i]? =some v ->row[b+i]? =some v
mutual
inductive VR (c:CE):AV ->Value ->Prop
 |b (x:Bool):VR c (.b x) (.bool x)
 |i (k:IntKind) (n:Int):VR c (.i k n) (.int k n)
 |s (l:List Nat) (bs:ByteArray) (h:bs.data.toList.map UInt8.toNat=l):VR c (.s l) (.string bs)
 |p (o off:Nat) (h:c.dM o):VR c (.p o off) (.pointer (some (c.addr o off)))
 |pn:VR c .pn (.pointer none)
 |dp (l:List AV) (off blk base:Nat) (row:Array Value) (vs:List Value) (him:c.im blk=some row) (gY:xO row base vs) (hs:bX c l vs):
  VR c (.dp l off) (.pointer (some ⟨blk,base+off,none⟩))
 |sl (o off len esz:Nat) (cap:Option Nat) (a:Addr) (n:Nat) (h:c.dM o) (hcap:∀k,cap=some k ->n=k) (hl:len<=n)
  (ha:n≠0 ->a=c.addr o off) (hz:(c.ρ o).2+off+n*esz<=c.sz o):VR c (.sl o off len cap esz) (.slice (some a) len n)
 |sn:VR c .sn (.slice none 0 0)
 |ds (l:List AV) (off len esz blk base n:Nat) (a:Addr) (row:Array Value) (vs:List Value) (him:c.im blk=some row) (gY:xO row base vs) (hs:bX c l vs)
  (hl:len<=n) (ha:len≠0 ->a=⟨blk,base+off,none⟩):VR c (.ds l off len esz) (.slice (some a) len n)
 |m (o:Nat) (h:c.dM o):VR c (.m o) (.map (some (c.ρ o).1))
 |mn:VR c .mn (.map none)
 |f (fn:Nat) (fi ca:List AV) (vi va:List Value) (hi:bX c fi vi) (ha:bX c ca va):VR c (.f fn fi ca) (.func (.func fn) vi.toArray va.toArray)
 |y (l:Nat) (h:c.dM l):VR c (.y l) (.func (.yield (c.ρ l).1) #[] #[])
 |fnil:VR c .fnil .nilFunc
 |ifc (t:TypeId) (v:AV) (v':Value) (h:VR c v v'):VR c (.ifc t v) (.iface t v')
 |ifn:VR c .ifn .nilIface
 |ag (l:List AV) (vs:List Value) (h:bX c l vs):VR c (.ag l) (.agg vs.toArray)
 |tu (l:List AV) (vs:List Value) (h:bX c l vs):VR c (.tu l) (.tuple vs.toArray)
 |un (v:Value):VR c .un v
inductive bX (c:CE):List AV ->List Value ->Prop
 |nil:bX c [] []
 |cons (a:AV) (l:List AV) (v:Value) (vs:List Value) (h:VR c a v) (hs:bX c l vs):bX c (a::l) (v::vs)
end
structure gE (c c':CE):Prop where
 dM:∀o,c.dM o ->c'.dM o
 ρ:∀o,c.dM o ->c'.ρ o=c.ρ o
 sz:∀o,c.dM o ->c'.sz o=c.sz o
 im:∀b row,c.im b=some row ->c'.im b=some row
 gl:c'.gl=c.gl
def gE.refl (c:CE):gE c c:=⟨λ_ h=>h,λ_ _=>rfl,λ_ _=>rfl,λ_ _ h=>h,rfl⟩
def gE.trans {a b c:CE} (h:gE a b) (k:gE b c):gE a c:=
 ⟨λo ho=>k.dM o (h.dM o ho),λo ho=>(k.ρ o (h.dM o ho)).trans (h.ρ o ho),λo ho=>(k.sz o (h.dM o ho)).trans (h.sz o ho),
  λb r hb=>k.im b r (h.im b r hb),k.gl.trans h.gl⟩
def gE.addr {c c':CE} (e:gE c c') {o:Nat} (h:c.dM o) (off:Nat):c'.addr o off=c.addr o off:=by
 unfold CE.addr;rw[e.ρ o h]
mutual
def VR.mono {c c':CE} (e:gE c c'):∀{v:AV} {v':Value},VR c v v' ->VR c' v v'
 |_,_,.b x=> .b x
 |_,_,.i k n=> .i k n
 |_,_,.s l bs h=> .s l bs h
 |_,_,.p o off h=>by rw[←e.addr h];exact .p o off (e.dM _ h)
 |_,_,.pn=> .pn
 |_,_,.dp l off blk base row vs him gY hs=> .dp l off blk base row vs (e.im _ _ him) gY (bX.mono e hs)
 |_,_,.sl o off len esz cap a n h hcap hl ha hz=> .sl o off len esz cap a n (e.dM _ h) hcap hl (λhn=>by rw[e.addr h];exact ha hn) (by rw[e.ρ o h,e.sz o h];exact hz)
 |_,_,.sn=> .sn
 |_,_,.ds l off len esz blk base n a row vs him gY hs hl ha=> .ds l off len esz blk base n a row vs (e.im _ _ him) gY (bX.mono e hs) hl ha
 |_,_,.m o h=>by rw[←e.ρ o h];exact .m o (e.dM _ h)
 |_,_,.mn=> .mn
 |_,_,.f fn fi ca vi va hi ha=> .f fn fi ca vi va (bX.mono e hi) (bX.mono e ha)
 |_,_,.y l h=>by rw[←e.ρ l h];exact .y l (e.dM _ h)
 |_,_,.fnil=> .fnil
 |_,_,.ifc t v v' h=> .ifc t v v' (VR.mono e h)
 |_,_,.ifn=> .ifn
 |_,_,.ag l vs h=> .ag l vs (bX.mono e h)
 |_,_,.tu l vs h=> .tu l vs (bX.mono e h)
 |_,_,.un v=> .un v
def bX.mono {c c':CE} (e:gE c c'):∀{l:List AV} {vs:List Value},bX c l vs ->bX c' l vs
 |_,_,.nil=> .nil
 |_,_,.cons a l v vs h hs=> .cons a l v vs (VR.mono e h) (bX.mono e hs)
end
section force
variable {R:Type}
@[simp] def dT (n:Nat) (k:Nat ->R):fN n k=k n:=by cases n<;>rfl
@[simp] def rR (b:Bool) (k:Bool ->R):fB b k=k b:=by cases b<;>rfl
@[simp] def zO (n:Int) (k:Int ->R):fI n k=k n:=by cases n<;>simp[fI]
@[simp] def jK (v:AV) (k:AV ->R):fV v k=k v:=by cases v<;>rfl
end force
section lists
variable {α β:Type}
def Cw (l:List α):∀n,lH l n=l[n]? :=by
 induction l with
 |nil=>intro n;rfl
 |cons a t ih=>
  intro n;cases n with
  |zero=>rfl
  |succ n=>show lH t n=_;rw[ih];simp
def X5 (l:List α):∀k,(List.rec (motive:=λ_=>Nat ->Nat) (λn=>n) (λ_ _ ih n=>fN n λn=>ih (Nat.succ n)) l k:Nat)=k+l.length:=by
 induction l with
 |nil=>intro k;rfl
 |cons a t ih=>
  intro k;show fN k (λn=>(List.rec (motive:=λ_=>Nat ->Nat) (λn=>n) (λ_ _ ih n=>fN n λn=>ih (Nat.succ n)) t (Nat.succ n):Nat))=_;rw[dT,ih];simp;omega
def kZ (l:List α):len l=l.length:=by unfold len;rw[X5];omega
def jz (l m:List α):fy l m=some (l++m):=by
 induction l with
 |nil=>rfl
 |cons a t ih=>
  show(Option.rec (motive:=λ_=>Option (List α)) none (λt=>some (a::t)) (fy t m))=_;rw[ih];rfl
def tg (f:α ->Option β):eM f []=some []:=rfl
def lJ (f:α ->Option β) (a:α) (t:List α):
 eM f (a::t)=match f a with|none=>none|some b=>match eM f t with|none=>none|some r=>some (b::r):=by
 show(Option.rec (motive:=λ_=>Option (List β)) none (λb=>Option.rec (motive:=λ_=>Option (List β)) none (λt=>some (b::t)) (eM f t)) (f a))=_;cases f a with
 |none=>rfl
 |some b=>cases eM f t<;>rfl
def X6 (l:List α):∀n,FV l n=if n<=l.length then some (l.drop n) else none:=by
 induction l with
 |nil=>intro n;cases n<;>rfl
 |cons a t ih=>
  intro n;cases n with
  |zero=>rfl
  |succ n=>show FV t n=_;rw[ih];simp
def X7 (l:List α):∀n,xL l n=if n<=l.length then some (l.take n) else none:=by
 induction l with
 |nil=>intro n;cases n<;>rfl
 |cons a t ih=>
  intro n;cases n with
  |zero=>rfl
  |succ n=>
   show(Option.rec (motive:=λ_=>Option (List α)) none (λt=>some (a::t)) (xL t n))=_;rw[ih];by_cases h:n<=t.length
   ·rw[aF h,aF (by simpa using h)];rfl
   ·rw[aD h,aD (by simpa using h)]
def nH (l:List α) (off n:Nat):sub l off n=if off<=l.length/\ off+n<=l.length then some ((l.drop off).take n) else none:=by
 unfold sub;rw[X6];by_cases h:off<=l.length
 ·rw[aF h];show xL (l.drop off) n=_;rw[X7];by_cases h2:off+n<=l.length
  ·rw[aF (by simp;omega),aF ⟨h,h2⟩]
  ·rw[aD (by simp;omega),aD (λh=>h2 h.2)]
 ·rw[aD h,aD (λk=>h k.1)]
def lM {l:List α} {off n:Nat} {c:List α} (h:sub l off n=some c):off+n<=l.length/\ c=(l.drop off).take n:=by
 rw[nH] at h;split at h
 ·rename_i hc;exact⟨hc.2,(gC h).symm⟩
 ·cases h
def vV (c:List α):∀l,oZ c l=if c.length<=l.length then some (c++l.drop c.length) else none:=by
 induction c with
 |nil=>intro l;show some l=_;simp
 |cons x c ih=>
  intro l;cases l with
  |nil=>rfl
  |cons a t=>
   show(Option.rec (motive:=λ_=>Option (List α)) none (λr=>some (x::r)) (oZ c t))=_;rw[ih];by_cases h:c.length<=t.length
   ·rw[aF h,aF (by simpa using h)];rfl
   ·rw[aD h,aD (by simpa using h)]
def xP (c l:List α):∀n,dW c l n=if n+c.length<=l.length then some (l.take n++c++l.drop (n+c.length)) else none:=by
 induction l with
 |nil=>
  intro n;cases n with
  |zero=>show oZ c []=_;rw[vV];simp
  |succ n=>show none=_;rw[aD (by simp<;>omega)]
 |cons a t ih=>
  intro n;cases n with
  |zero=>show oZ c (a::t)=_;rw[vV];simp
  |succ n=>
   show(Option.rec (motive:=λ_=>Option (List α)) none (λr=>some (a::r)) (dW c t n))=_;rw[ih];by_cases h:n+c.length<=t.length
   ·rw[aF h,aF (by simp;omega)];have e:n+1+c.length=(n+c.length)+1:=by omega
    simp[e]
   ·rw[aD h,aD (by simp;omega)]
def xQ {c l r:List α} {n:Nat} (h:dW c l n=some r):n+c.length<=l.length/\ r=l.take n++c++l.drop (n+c.length):=by
 rw[xP] at h;split at h
 ·rename_i hc;exact⟨hc,(gC h).symm⟩
 ·cases h
def X8 {c l r:List α} {n:Nat} (h:dW c l n=some r):r.length=l.length:=by
 obtain⟨h1,rfl⟩:=xQ h;simp;omega
def LA {c l r:List α} {n:Nat} (h:dW c l n=some r) (i:Nat):
 r[i]? =if n<=i/\ i<n+c.length then c[i-n]? else l[i]? :=by
 obtain⟨h1,rfl⟩:=xQ h;by_cases h2:n<=i/\ i<n+c.length
 ·rw[aF h2,nz,rK (by simp<;>omega)];have:i-(l.take n).length=i-n:=by simp<;>omega
  rw[this,pL ω]
 ·rw[aD h2];by_cases h3:i<n
  ·rw[nz,pL (by simp<;>omega),jZ,aF h3]
  ·rw[rK (by simp<;>omega),mB];congr 1;simp;omega
def zP (z:List α) (n:Nat):rN z n=some (List.replicate n z).flatten:=by
 induction n with
 |zero=>rfl
 |succ n ih=>
  show(Option.rec (motive:=λ_=>Option (List α)) none (λt=>fy z t) (rN z n))=_;rw[ih];show fy z _=_;rw[jz,uc,vD]
end lists
def mH (x:List Nat):∀y,nF x y=decide (x=y):=by
 induction x with
 |nil=>intro y;cases y<;>rfl
 |cons a t ih=>
  intro y;cases y with
  |nil=>rfl
  |cons b s=>
   show(Bool.rec false (nF t s) (Nat.beq a b):Bool)=_;by_cases h:a=b
   ·rw[vU h];show nF t s=_;rw[ih];simp[h]
   ·rw[rQ h];simp[h]
def fg (a b:Int):eO a b=decide (a=b):=by
 cases a<;>cases b<;>simp[eO]
 ·rename_i a b;by_cases h:a=b
  ·rw[vU h];simp[h]
  ·rw[rQ h];simp;omega
 ·rename_i a b;by_cases h:a=b
  ·rw[vU h];simp[h]
  ·rw[rQ h];simp[h]
def mI (a b:Int):fD a b=decide (a<b):=by
 cases a<;>cases b<;>simp only[fD]
 ·rename_i a b;by_cases h:a<b
  ·rw[FR (show Nat.succ a<=b from h)];simp;omega
  ·have:Nat.ble (Nat.succ a) b=false:=by
    cases e:Nat.ble (Nat.succ a) b with
    |false=>rfl
    |true=>exact bh (FT e) ω
   rw[this];simp;omega
 ·rename_i a b;exact(ot (by simp only[nB];omega)).symm
 ·rename_i a b;exact(zG (by simp only[nB];omega)).symm
 ·rename_i a b;by_cases h:b<a
  ·rw[FR (show Nat.succ b<=a from h)];have:Int.negSucc a<Int.negSucc b:=by omega
   simp[this]
  ·have e:Nat.ble (Nat.succ b) a=false:=by
    cases e:Nat.ble (Nat.succ b) a with
    |false=>rfl
    |true=>exact bh (FT e) ω
   have:¬Int.negSucc a<Int.negSucc b:=by omega
   rw[e];simp[this]
def dm (a b:Nat):Nat.ble a b=decide (a<=b):=by
 by_cases h:a<=b
 ·rw[FR h];simp[h]
 ·have e:Nat.ble a b=false:=by
   cases e:Nat.ble a b with
   |false=>rfl
   |true=>exact bh (FT e) h
  rw[e];simp[h]
def bu (a b:Nat):Nat.beq a b=decide (a=b):=by
 by_cases h:a=b
 ·rw[vU h];simp[h]
 ·rw[rQ h];simp[h]
def AH.new_eq {R:Type} (h:AH) (o:bC) (c:Nat ->AH ->R):h.new o c=c h.next ⟨Nat.succ h.next,h.ver,h.oB.put h.next o⟩:=by
 obtain⟨next,ver,oB⟩:=h;simp only[AH.new,T.setK_put,dT]
def AH.put_eq {R:Type} (h:AH) (n:Nat) (o:bC) (c:AH ->R):h.put n o c=c ⟨h.next,Nat.succ h.ver,h.oB.put n o⟩:=by
 obtain⟨next,ver,oB⟩:=h;simp only[AH.put,T.setK_put,dT]
def live:bC ->Bool
 | .gone=>false
 |_=>true
def TR (c:CE) (τ:T AV) (tmps:Array Value):Prop:=∀t v,τ.get t=some v ->∃v',tmps[t]? =some v'/\ VR c v v'
def TR.mono {c c':CE} (e:gE c c') {τ:T AV} {tmps:Array Value} (h:TR c τ tmps):TR c' τ tmps:=
 λt v hv=>let ⟨v',h1,h2⟩:=h t v hv;⟨v',h1,h2.mono e⟩
def fQ (c:CE):List (AV×AV×Nat) ->List MapEntry ->Prop
 |[],[]=>True
 |(k,v,b)::r,e::r'=>VR c k e.key/\ VR c v e.val/\ e.born=b/\ fQ c r r'
 |_,_=>False
def fQ.mono {c c':CE} (e:gE c c'):∀{l:List (AV×AV×Nat)} {l':List MapEntry},fQ c l l' ->fQ c' l l'
 |[],[],_=>trivial
 |(_,_,_)::_,_::_,h=>⟨h.1.mono e,h.2.1.mono e,h.2.2.1,fQ.mono e h.2.2.2⟩
 |[],_::_,h=>h.elim
 |_::_,[],h=>h.elim
def FY:Option (Option Nat) ->Option Code ->Prop
 |none,none=>True
 |some none,some .ret=>True
 |some (some i),some (.exit j)=>i=j
 |_,_=>False
def FZ:Nat ->LoopState ->Prop
 |0,.ready=>True
 |1,.busy=>True
 |2,.done=>True
 |_,_=>False
section
variable (CR:Nat ->Code ->aw ->Prop)
def F0 (c:CE) (w:World) (o:Nat) (l:List AV) (T:Option Nat) (wh:Bool):Prop:=
 ∃row t lo hi vs,w.heap[(c.ρ o).1]? =some (.cells row t (lo,hi))/\ row.size=c.sz o/\ (∀j,j<row.size ->¬(lo<=j/\ j<hi))/\ bX c l vs/\ xO row (c.ρ o).2 vs/\ (c.ρ o).2+vs.length<=row.size/\
  (∀k,T=some k ->t=k/\ (c.ρ o).2=0)/\ (wh=true ->row.size=vs.length)
def gR (c:CE) (w:World) (o:Nat):bC ->Prop
 | .cells _ l=>∃row t lo hi vs,w.heap[(c.ρ o).1]? =some (.cells row t (lo,hi))/\ row.size=c.sz o/\ (∀j,j<row.size ->¬(lo<=j/\ j<hi))/\ bX c l vs/\ xO row (c.ρ o).2 vs/\ (c.ρ o).2+vs.length<=row.size
 | .tc T wh l=>F0 c w o l (some T) wh
 | .map _ es cl=>∃es',w.heap[(c.ρ o).1]? =some (.map es' cl)/\ fQ c es es'.toList/\ es.Pairwise (λx y=>x.2.2<y.2.2)/\∀e∈es,e.2.2<cl
 | .sit l pos=>(c.ρ o).2=0/\∃bs:ByteArray,w.heap[(c.ρ o).1]? =some (.stringIter bs pos)/\ bs.data.toList.map UInt8.toNat=l
 | .mit m since seen stepped=>(∀k,m=some k ->c.dM k)/\ (c.ρ o).2=0/\ w.heap[(c.ρ o).1]? =some (.mapIter (m.map λk=>(c.ρ k).1) since seen.toArray stepped)
 | .loop ps assign body env st pend=>∃(r:Loop) (N:Nat),w.heap[(c.ρ o).1]? =some (.loop r)/\ r.params.toList=ps/\ CR N r.assign assign/\ CR N r.body body/\ N<=r.tmps.size/\ (∀p∈ps,p<N)/\
  TR c env r.tmps/\ FZ st r.state/\ FY pend r.pending
 | .gone=>True
variable {CR}
def gR.mono {c c':CE} (e:gE c c') {w w':World} {o:Nat} (ho:c.dM o) (hw:w'.heap[(c.ρ o).1]? =w.heap[(c.ρ o).1]?) {obj:bC} (h:gR CR c w o obj):gR CR c' w' o obj:=by
 cases obj with
 |cells v l=>
  obtain⟨row,t,lo,hi,vs,h1,h2,h3,h4,h5,h6⟩:=h;exact⟨row,t,lo,hi,vs,by rw[e.ρ o ho,hw];exact h1,by rw[e.sz o ho];exact h2,h3,h4.mono e,by rw[e.ρ o ho];exact h5,by rw[e.ρ o ho];exact h6⟩
 |tc T wh l=>
  obtain⟨row,t,lo,hi,vs,h1,h2,h3,h4,h5,h6,h7,h8⟩:=h;exact⟨row,t,lo,hi,vs,by rw[e.ρ o ho,hw];exact h1,by rw[e.sz o ho];exact h2,h3,h4.mono e,by rw[e.ρ o ho];exact h5,by rw[e.ρ o ho];exact h6,by rw[e.ρ o ho];exact h7,h8⟩
 |map v es cl=>
  obtain⟨es',h1,h2,h3,h4⟩:=h;exact⟨es',by rw[e.ρ o ho,hw];exact h1,h2.mono e,h3,h4⟩
 |sit l pos=>
  obtain⟨h0,bs,h1,h2⟩:=h;exact⟨by rw[e.ρ o ho];exact h0,bs,by rw[e.ρ o ho,hw];exact h1,h2⟩
 |mit m since seen stepped=>
  obtain⟨h1,h2,h3⟩:=h;refine⟨λk hk=>e.dM k (h1 k hk),by rw[e.ρ o ho];exact h2,?_⟩;rw[e.ρ o ho,hw,h3];cases m with
  |none=>rfl
  |some k=>simp[e.ρ k (h1 k rfl)]
 |loop ps assign body env st pend=>
  obtain⟨r,N,h1,h2,h3,h4,h5,h6,h7,h8,h9⟩:=h;exact⟨r,N,by rw[e.ρ o ho,hw];exact h1,h2,h3,h4,h5,h6,h7.mono e,h8,h9⟩
 |gone=>trivial
def LB {h:AH} {o:Nat} {l:List AV} (hl:h.rows o=some l):∃ob,h.oB.get o=some ob/\ live ob=true/\∀(c:CE) (w:World),gR CR c w o ob ->gR CR c w o (.cells 0 l):=by
 unfold AH.rows AH.get at hl;split at hl
 ·rename_i ver l' e;cases hl;exact⟨_,e,rfl,λ_ _ h=>h⟩
 ·rename_i T wh l' e;cases hl;refine⟨_,e,rfl,λ_ _ h=> ?_⟩;obtain⟨row,t,lo,hi,vs,h1,h2,h3,h4,h5,h6,_⟩:=h;exact⟨row,t,lo,hi,vs,h1,h2,h3,h4,h5,h6⟩
 ·cases hl
def F1 {h:AH} {o:Nat} {l:List AV} (hl:h.cells o=some l):h.rows o=some l:=by
 unfold AH.cells AH.get at hl;unfold AH.rows AH.get;split at hl
 ·rename_i ver l' e;rw[e];exact hl
 ·cases hl
def zQ {h:AH} {o:Nat} {l:List AV} (hl:h.cells o=some l):∃ob,h.oB.get o=some ob/\ live ob=true/\∀(c:CE) (w:World),gR CR c w o ob ->gR CR c w o (.cells 0 l):=LB (F1 hl)
def gR.lt {c:CE} {w:World} {o:Nat} {obj:bC} (h:gR CR c w o obj) (hl:live obj=true):(c.ρ o).1<w.heap.size:=by
 have key:∀ob,w.heap[(c.ρ o).1]? =some ob ->(c.ρ o).1<w.heap.size:=λob hb=>(jX.1 hb).1;cases obj with
 |cells v l=>obtain⟨row,t,lo,hi,vs,h1,_⟩:=h;exact key _ h1
 |tc T wh l=>obtain⟨row,t,lo,hi,vs,h1,_⟩:=h;exact key _ h1
 |map v es cl=>obtain⟨es',h1,_⟩:=h;exact key _ h1
 |sit l pos=>obtain⟨_,bs,h1,_⟩:=h;exact key _ h1
 |mit m since seen stepped=>exact key _ h.2.2
 |loop ps assign body env st pend=>obtain⟨r,N,h1,_⟩:=h;exact key _ h1
 |gone=>cases hl
variable (CR)
structure dU (c:CE) (h:AH) (o:Nat) (obj:bC):Prop where
 get:h.oB.get o=some obj
 live:live obj=true
 dM:c.dM o
structure RS (c:CE) (h:AH) (w:World):Prop where
 nx:∀o,c.dM o ->o<h.next
 lt:∀o obj,h.oB.get o=some obj ->o<h.next
 obj:∀o obj,dU c h o obj ->gR CR c w o obj
 inj:∀o o' obj obj',dU c h o obj ->dU c h o' obj' ->(c.ρ o).1=(c.ρ o').1 ->o=o'
 im:∀b row,c.im b=some row ->∃t fr,w.heap[b]? =some (.cells row t fr)
 dj:∀o obj,dU c h o obj ->c.im (c.ρ o).1=none
 gl:∀g l,c.gl g=some l ->∃row vs,c.im g=some row/\ xO row 0 vs/\ bX c l vs
def zR (h:AH) (o:Nat):Prop:=∀ob,h.oB.get o=some ob ->live ob=false
structure j6 (c:CE) (h:AH) (w:World) (c':CE) (h':AH) (w':World):Prop where
 size:w.heap.size<=w'.heap.size
 same:∀b,b<w.heap.size ->(∀o obj,dU c h o obj ->(c.ρ o).1≠b) ->w'.heap[b]? =w.heap[b]?
 new:∀o obj,dU c' h' o obj ->w.heap.size<=(c'.ρ o).1∨∃o₀ obj₀,dU c h o₀ obj₀/\ (c.ρ o₀).1=(c'.ρ o).1
 dM:∀o,c'.dM o ->c.dM o∨h.next<=o
 nxt:h.next<=h'.next
 im:∀b row,c'.im b=some row ->c.im b=some row∨w.heap.size<=b∨∃o obj,dU c h o obj/\ (c.ρ o).1=b
 dead:∀o,o<h.next ->zR h o ->zR h' o
 io:w'.os=w.os/\ w'.output=w.output
structure cH (c:CE) (h:AH) (w:World) (c':CE) (h':AH) (w':World):Prop where
 ext:gE c c'
 rs:RS CR c' h' w'
 keep:j6 c h w c' h' w'
variable {CR}
def j6.refl (c:CE) (h:AH) (w:World):j6 c h w c h w:=
 ⟨bB _,λ_ _ _=>rfl,λo obj ho=> .inr ⟨o,obj,ho,rfl⟩,λ_ h=> .inl h,bB _,λ_ _ h=> .inl h,λ_ _ h=>h,⟨rfl,rfl⟩⟩
def j6.trans {c c' c'':CE} {h h' h'':AH} {w w' w'':World} (a:j6 c h w c' h' w') (b:j6 c' h' w' c'' h'' w''):j6 c h w c'' h'' w'':=by
 refine⟨fJ a.size b.size,λk hk hn=> ?_,λo obj ho=> ?_,λo ho=> ?_,fJ a.nxt b.nxt,λk row hk=> ?_,λo ho hd=>b.dead o (iR ho a.nxt) (a.dead o ho hd),⟨b.io.1.trans a.io.1,b.io.2.trans a.io.2⟩⟩
 ·rw[b.same k (iR hk a.size) ?_,a.same k hk hn];intro o obj ho e;rcases a.new o obj ho with h1|⟨o₀,obj₀,h1,h3⟩
  ·omega
  ·exact hn o₀ obj₀ h1 (h3.trans e)
 ·rcases b.new o obj ho with h1|⟨o₀,obj₀,h1,h3⟩
  ·exact .inl (fJ a.size h1)
  ·rcases a.new o₀ obj₀ h1 with h4|⟨o₁,obj₁,h4,h6⟩
   ·exact .inl (h3▸h4)
   ·exact .inr ⟨o₁,obj₁,h4,h6.trans h3⟩
 ·rcases b.dM o ho with h1|h1
  ·exact a.dM o h1
  ·exact .inr (fJ a.nxt h1)
 ·rcases b.im k row hk with h1|h1|⟨o,obj,h1,h2⟩
  ·exact a.im k row h1
  ·exact .inr (.inl (fJ a.size h1))
  ·rcases a.new o obj h1 with h3|⟨o₀,obj₀,h3,h4⟩
   ·exact .inr (.inl (h2▸h3))
   ·exact .inr (.inr ⟨o₀,obj₀,h3,h4.trans h2⟩)
def cH.refl {c:CE} {h:AH} {w:World} (r:RS CR c h w):cH CR c h w c h w:=⟨gE.refl c,r,j6.refl c h w⟩
def cH.trans {c c' c'':CE} {h h' h'':AH} {w w' w'':World} (a:cH CR c h w c' h' w') (b:cH CR c' h' w' c'' h'' w''):cH CR c h w c'' h'' w'':=
 ⟨a.ext.trans b.ext,b.rs,a.keep.trans b.keep⟩
def RS.heap {c:CE} {h:AH} {w w':World} (r:RS CR c h w) (hw:w'.heap=w.heap):RS CR c h w':=
 ⟨r.nx,r.lt,λo obj ho=>(r.obj o obj ho).mono (gE.refl c) ho.dM (by rw[hw]),r.inj,λb row hb=>by rw[hw];exact r.im b row hb,r.dj,r.gl⟩
def cH.heap {c:CE} {h:AH} {w w':World} (r:RS CR c h w) (hw:w'.heap=w.heap) (hq:w'.os=w.os/\ w'.output=w.output:=by exact⟨rfl,rfl⟩):cH CR c h w c h w':=
 ⟨gE.refl c,r.heap hw,⟨by rw[hw];exact bB _,λb _ _=>by rw[hw],λo obj ho=> .inr ⟨o,obj,ho,rfl⟩,λ_ h=> .inl h,bB _,λ_ _ h=> .inl h,λ_ _ h=>h,hq⟩⟩
def RS.push {c:CE} {h:AH} {w w':World} (r:RS CR c h w) (hw:∀b,b<w.heap.size ->w'.heap[b]? =w.heap[b]?):RS CR c h w':=
 ⟨r.nx,r.lt,λo obj ho=>by
  by_cases hl:live obj=true
  ·exact(r.obj o obj ho).mono (gE.refl c) ho.dM (hw _ ((r.obj o obj ho).lt hl))
  ·exact bh ho.live hl,
  r.inj,λb row hb=>by
   obtain⟨t,fr,h1⟩:=r.im b row hb;exact⟨t,fr,by rw[hw b (jX.1 h1).1];exact h1⟩,r.dj,r.gl⟩
def CE.add (c:CE) (id blk base n:Nat):CE:=
 { c with dM:=λo=>c.dM o∨o=id,ρ:=λo=>if o=id then (blk,base) else c.ρ o,sz:=λo=>if o=id then n else c.sz o }
def CE.add_ext (c:CE) {id:Nat} (hi:¬c.dM id) (blk base n:Nat):gE c (c.add id blk base n):=
 ⟨λ_ h=> .inl h,λo ho=>by simp[CE.add,show o≠id from λe=>hi (e▸ho)],λo ho=>by simp[CE.add,show o≠id from λe=>hi (e▸ho)],λ_ _ h=>h,rfl⟩
@[simp] def CE.add_ρ (c:CE) (id blk base n:Nat):(c.add id blk base n).ρ id=(blk,base):=by simp[CE.add]
@[simp] def CE.add_sz (c:CE) (id blk base n:Nat):(c.add id blk base n).sz id=n:=by simp[CE.add]
@[simp] def CE.add_dom (c:CE) (id blk base n:Nat):(c.add id blk base n).dM id:= .inr rfl
@[simp] def CE.add_im (c:CE) (id blk base n:Nat):(c.add id blk base n).im=c.im:=rfl
def RS.im_lt {c:CE} {h:AH} {w:World} (r:RS CR c h w) {b:Nat} {row:Array Value} (hb:c.im b=some row):b<w.heap.size:=by
 obtain⟨t,fr,h1⟩:=r.im b row hb;exact(jX.1 h1).1
def RS.fresh {c:CE} {h:AH} {w:World} (r:RS CR c h w):¬c.dM h.next:=λk=>Nat.lt_irrefl _ (r.nx _ k)
def cH.come {c:CE} {h:AH} {w w':World} (r:RS CR c h w) {id:Nat} (hid:¬c.dM id) (aV:id<h.next) {obj:bC} (hget:h.oB.get id=some obj)
 (hold:∀b,b<w.heap.size ->w'.heap[b]? =w.heap[b]?) (blk n:Nat) (him:c.im blk=none) (hfr:∀o ob,dU c h o ob ->(c.ρ o).1≠blk)
 (hob:gR CR (c.add id blk 0 n) w' id obj):gE c (c.add id blk 0 n)/\ RS CR (c.add id blk 0 n) h w':=by
 have hx:=CE.add_ext c hid blk 0 n;have hh:∀o ob',dU (c.add id blk 0 n) h o ob' ->(o=id/\ ob'=obj)∨(o≠id/\ dU c h o ob'):=by
  intro o ob' ho;by_cases e:o=id
  ·subst e;exact .inl ⟨rfl,gC (ho.get.symm.trans hget)⟩
  ·exact .inr ⟨e,ho.get,ho.live,ho.dM.resolve_right e⟩
 have hρ:∀o,o≠id ->(c.add id blk 0 n).ρ o=c.ρ o:=λo e=>by simp[CE.add,e]
 refine⟨hx,⟨?_,r.lt,?_,?_,?_,?_,?_⟩⟩
 ·intro o ho;rcases ho with ho|rfl
  ·exact r.nx o ho
  ·exact aV
 ·intro o ob' ho;rcases hh o ob' ho with ⟨rfl,rfl⟩|⟨e,e'⟩
  ·exact hob
  ·exact(r.obj o ob' e').mono hx e'.dM (hold _ ((r.obj o ob' e').lt e'.live))
 ·intro o o' i9 ob₂ ho bT he;rcases hh o i9 ho with ⟨rfl,rfl⟩|⟨e,e'⟩<;>rcases hh o' ob₂ bT with ⟨rfl,rfl⟩|⟨f,f'⟩
  ·rfl
  ·rw[CE.add_ρ,hρ o' f] at he;exact bh he.symm (hfr o' ob₂ f')
  ·rw[CE.add_ρ,hρ o e] at he;exact bh he (hfr o i9 e')
  ·rw[hρ o e,hρ o' f] at he;exact r.inj o o' i9 ob₂ e' f' he
 ·intro b row hb;obtain⟨t,fr,h1⟩:=r.im b row hb;exact⟨t,fr,by rw[hold b (r.im_lt hb)];exact h1⟩
 ·intro o ob' ho;rcases hh o ob' ho with ⟨rfl,rfl⟩|⟨e,e'⟩
  ·rw[CE.add_ρ];exact him
  ·rw[hρ o e];exact r.dj o ob' e'
 ·intro g l hg;obtain⟨row,vs,h1,h2,h3⟩:=r.gl g l hg;exact⟨row,vs,h1,h2,h3.mono hx⟩
def RS.lay {c:CE} {h:AH} {w:World} (r:RS CR c h w) (obj:bC):RS CR c ⟨Nat.succ h.next,h.ver,h.oB.put h.next obj⟩ w:=by
 have hh:∀o ob',dU c ⟨Nat.succ h.next,h.ver,h.oB.put h.next obj⟩ o ob' ->dU c h o ob':=by
  intro o ob' ho;have hn:o≠h.next:=λe=>r.fresh (e▸ho.dM);have:=ho.get;rw[T.get_put,aD hn] at this;exact⟨this,ho.live,ho.dM⟩
 refine⟨λo ho=>ui (r.nx o ho),?_,λo ob' ho=>r.obj o ob' (hh o ob' ho),λo o' a b ho bT=>r.inj o o' a b (hh o a ho) (hh o' b bT),r.im,λo ob' ho=>r.dj o ob' (hh o ob' ho),r.gl⟩;intro o ob' ho;rw[T.get_put] at ho;by_cases e:o=h.next
 ·subst e;exact qI _
 ·rw[aD e] at ho;exact ui (r.lt o ob' ho)
def cH.alloc {c:CE} {h:AH} {w w':World} (r:RS CR c h w) {obj:bC} {ob:Obj} (hw:w'.heap=w.heap.push ob) (n:Nat)
 (hob:gR CR (c.add h.next w.heap.size 0 n) w' h.next obj) (hq:w'.os=w.os/\ w'.output=w.output:=by exact⟨rfl,rfl⟩):
 cH CR c h w (c.add h.next w.heap.size 0 n) ⟨Nat.succ h.next,h.ver,h.oB.put h.next obj⟩ w':=by
 have hold:∀b,b<w.heap.size ->w'.heap[b]? =w.heap[b]? :=λb hb=>by rw[hw,Ch hb];exact(og hb).symm
 have r1:=r.lay obj;have h1:=cH.come r1 r.fresh (qI _) (obj:=obj) (by rw[T.get_put,aF rfl]) hold w.heap.size n
  (by cases h2:c.im w.heap.size with|none=>rfl|some row=>have:=r.im_lt h2;simp at this)
  (λo ob' ho=>by
   have hn:o≠h.next:=λe=>r.fresh (e▸ho.dM);have hg:=ho.get;rw[T.get_put,aD hn] at hg;exact Nat.ne_of_lt ((r.obj o ob' ⟨hg,ho.live,ho.dM⟩).lt ho.live)) hob
 refine⟨h1.1,h1.2,⟨by rw[hw];simp,λb hb _=>hold b hb,?_,λo ho=>ho.elim .inl λe=> .inr (Nat.le_of_eq e.symm),nD _,λ_ _ h=> .inl h,λo ho hd ob hg=> ?_,hq⟩⟩;intro o ob' ho;by_cases e:o=h.next
 ·subst e;left;rw[CE.add_ρ];exact bB _
 ·right;have hg:=ho.get;rw[T.get_put,aD e] at hg;exact⟨o,ob',⟨hg,ho.live,ho.dM.resolve_right e⟩,by simp[CE.add,e]⟩
 rw[T.get_put,aD (show o≠h.next by omega)] at hg;exact hd ob hg
def cH.write {c:CE} {h:AH} {w w':World} (r:RS CR c h w) {o:Nat} {obj obj':bC} (ho:dU c h o obj)
 (hsz:w'.heap.size=w.heap.size) (hw:∀b,b≠(c.ρ o).1 ->w'.heap[b]? =w.heap[b]?) (hob:gR CR c w' o obj') (ver:Nat) (hq:w'.os=w.os/\ w'.output=w.output:=by exact⟨rfl,rfl⟩):
 cH CR c h w c ⟨h.next,ver,h.oB.put o obj'⟩ w':=by
 have hh:∀o' ob',dU c ⟨h.next,ver,h.oB.put o obj'⟩ o' ob' ->(o'=o/\ ob'=obj')∨(o'≠o/\ dU c h o' ob'):=by
  intro o' ob' bT;have hg:=bT.get;rw[T.get_put] at hg;by_cases e:o'=o
  ·rw[aF e] at hg;exact .inl ⟨e,(gC hg).symm⟩
  ·rw[aD e] at hg;exact .inr ⟨e,hg,bT.live,bT.dM⟩
 refine⟨gE.refl c,⟨r.nx,?_,?_,?_,?_,?_,r.gl⟩,⟨by rw[hsz];exact bB _,λb _ hn=>hw b λe=>hn o obj ho e.symm,?_,λ_ h=> .inl h,bB _,λ_ _ h=> .inl h,λo' _ hd ob hg=> ?_,hq⟩⟩
 ·intro o' ob' bT;rw[T.get_put] at bT;by_cases e:o'=o
  ·subst e;exact r.lt _ obj ho.get
  ·rw[aD e] at bT;exact r.lt _ _ bT
 ·intro o' ob' bT;rcases hh o' ob' bT with ⟨rfl,rfl⟩|⟨e,e'⟩
  ·exact hob
  ·exact(r.obj o' ob' e').mono (gE.refl c) e'.dM (hw _ λk=>e (r.inj o' o ob' obj e' ho k))
 ·intro o₁ o₂ i9 ob₂ h1 h2 he;rcases hh o₁ i9 h1 with ⟨e,_⟩|⟨e,e'⟩<;>rcases hh o₂ ob₂ h2 with ⟨f,_⟩|⟨f,f'⟩
  ·rw[e,f]
  ·rw[e] at he;exact bh (r.inj o₂ o ob₂ obj f' ho he.symm) f
  ·rw[f] at he;exact bh (r.inj o₁ o i9 obj e' ho he) e
  ·exact r.inj o₁ o₂ i9 ob₂ e' f' he
 ·intro b row hb;obtain⟨t,fr,h1⟩:=r.im b row hb;refine⟨t,fr,?_⟩;rw[hw b ?_];exact h1;intro e;have:=r.dj o obj ho;rw[←e,hb] at this;cases this
 ·intro o' ob' bT;rcases hh o' ob' bT with ⟨e,_⟩|⟨_,e⟩
  ·subst e;exact r.dj _ obj ho
  ·exact r.dj _ _ e
 ·intro o' ob' bT;rcases hh o' ob' bT with ⟨e,_⟩|⟨_,e⟩
  ·subst e;exact .inr ⟨_,obj,ho,rfl⟩
  ·exact .inr ⟨o',ob',e,rfl⟩
 ·have hg':(h.oB.put o obj').get o'=some ob:=hg;rw[T.get_put] at hg';by_cases e:o'=o
  ·subst e;have:=hd obj ho.get;rw[ho.live] at this;cases this
  ·rw[aD e] at hg';exact hd ob hg'
end
section
variable {CR:Nat ->Code ->aw ->Prop}
def cH.drop {c:CE} {h:AH} {w:World} (r:RS CR c h w) (o ver:Nat) (hon:o<h.next):cH CR c h w c ⟨h.next,ver,h.oB.put o .gone⟩ w:=by
 have hh:∀o' ob',dU c ⟨h.next,ver,h.oB.put o .gone⟩ o' ob' ->o'≠o/\ dU c h o' ob':=by
  intro o' ob' bT;have hg:=bT.get;rw[T.get_put] at hg;by_cases e:o'=o
  ·rw[aF e] at hg;have:=bT.live;rw[←gC hg] at this;cases this
  ·rw[aD e] at hg;exact⟨e,hg,bT.live,bT.dM⟩
 refine⟨gE.refl c,⟨r.nx,?_,λo' ob' bT=>r.obj _ _ (hh o' ob' bT).2,λo₁ o₂ a b h1 h2=>r.inj _ _ _ _ (hh o₁ a h1).2 (hh o₂ b h2).2,r.im,λo' ob' bT=>r.dj _ _ (hh o' ob' bT).2,r.gl⟩,
  ⟨bB _,λ_ _ _=>rfl,λo' ob' bT=> .inr ⟨o',ob',(hh o' ob' bT).2,rfl⟩,λ_ h=> .inl h,bB _,λ_ _ h=> .inl h,λo' _ hd ob hg=> ?_,⟨rfl,rfl⟩⟩⟩
 intro o' ob' bT;rw[T.get_put] at bT;by_cases e:o'=o
 ·subst e;exact hon
 ·rw[aD e] at bT;exact r.lt _ _ bT
 replace hg:(h.oB.put o .gone).get o'=some ob:=hg;rw[T.get_put] at hg;by_cases e:o'=o
 ·rw[aF e] at hg;rw[←gC hg];rfl
 ·rw[aD e] at hg;exact hd ob hg
def cH.move {c:CE} {h:AH} {w w':World} (r:RS CR c h w) {o:Nat} {obj obj':bC} (ho:dU c h o obj)
 (hsz:w'.heap.size=w.heap.size) (hw:∀b,b≠(c.ρ o).1 ->w'.heap[b]? =w.heap[b]?) (base n ver:Nat)
 (hob:gR CR (c.add h.next (c.ρ o).1 base n) w' h.next obj') (hq:w'.os=w.os/\ w'.output=w.output:=by exact⟨rfl,rfl⟩):
 cH CR c h w (c.add h.next (c.ρ o).1 base n) ⟨Nat.succ h.next,ver,(h.oB.put o .gone).put h.next obj'⟩ w':=by
 have hx:=CE.add_ext c r.fresh (c.ρ o).1 base n;have hon:o<h.next:=r.lt o obj ho.get;have hh:∀o' ob',dU (c.add h.next (c.ρ o).1 base n) ⟨Nat.succ h.next,ver,(h.oB.put o .gone).put h.next obj'⟩ o' ob' ->(o'=h.next/\ ob'=obj')∨(o'≠o/\ o'≠h.next/\ dU c h o' ob'):=by
  intro o' ob' bT;have hg:=bT.get;rw[T.get_put,T.get_put] at hg;by_cases e:o'=h.next
  ·rw[aF e] at hg;exact .inl ⟨e,(gC hg).symm⟩
  ·rw[aD e] at hg;by_cases e2:o'=o
   ·rw[aF e2] at hg;have:=bT.live;rw[←gC hg] at this;cases this
   ·rw[aD e2] at hg;exact .inr ⟨e2,e,hg,bT.live,bT.dM.resolve_right e⟩
 have hρ:∀o',o'≠h.next ->(c.add h.next (c.ρ o).1 base n).ρ o'=c.ρ o':=λo' h1=>by simp[CE.add,h1]
 have hnew:(c.add h.next (c.ρ o).1 base n).ρ h.next=((c.ρ o).1,base):=by simp
 refine⟨hx,⟨?_,?_,?_,?_,?_,?_,?_⟩,⟨by rw[hsz];exact bB _,λb _ hn=>hw b λe=>hn o obj ho e.symm,?_,λo ho=>ho.elim .inl λe=> .inr (Nat.le_of_eq e.symm),nD _,λ_ _ h=> .inl h,?_,hq⟩⟩
 ·intro o' bT;rcases bT with bT|rfl
  ·exact ui (r.nx o' bT)
  ·exact qI _
 ·intro o' ob' bT;rw[T.get_put,T.get_put] at bT;by_cases e:o'=h.next
  ·subst e;exact qI _
  ·rw[aD e] at bT;by_cases e2:o'=o
   ·subst e2;exact ui hon
   ·rw[aD e2] at bT;exact ui (r.lt _ _ bT)
 ·intro o' ob' bT;rcases hh o' ob' bT with ⟨rfl,rfl⟩|⟨e,e2,e'⟩
  ·exact hob
  ·exact(r.obj o' ob' e').mono hx e'.dM (hw _ λk=>e (r.inj o' o ob' obj e' ho k))
 ·intro o₁ o₂ i9 ob₂ h1 h2 he;rcases hh o₁ i9 h1 with ⟨e,e'⟩|⟨e,e2,e'⟩<;>rcases hh o₂ ob₂ h2 with ⟨f,f'⟩|⟨f,f2,f'⟩
  ·rw[e,f]
  ·rw[e,hnew,hρ o₂ f2] at he;exact bh (r.inj o₂ o ob₂ obj f' ho he.symm) f
  ·rw[f,hnew,hρ o₁ e2] at he;exact bh (r.inj o₁ o i9 obj e' ho he) e
  ·rw[hρ o₁ e2,hρ o₂ f2] at he;exact r.inj o₁ o₂ i9 ob₂ e' f' he
 ·intro b row hb;obtain⟨t,fr,h1⟩:=r.im b row hb;refine⟨t,fr,?_⟩;rw[hw b ?_];exact h1;intro e;have h2:=r.dj o obj ho;have h3:c.im b=some row:=hb;rw[←e,h3] at h2;cases h2
 ·intro o' ob' bT;rcases hh o' ob' bT with ⟨e,_⟩|⟨_,e2,e'⟩
  ·subst e;rw[hnew];exact r.dj o obj ho
  ·rw[hρ o' e2];exact r.dj o' ob' e'
 ·intro g l hg;obtain⟨row,vs,h1,h2,h3⟩:=r.gl g l hg;exact⟨row,vs,h1,h2,h3.mono hx⟩
 ·intro o' ob' bT;rcases hh o' ob' bT with ⟨e,_⟩|⟨_,e2,e'⟩
  ·subst e;exact .inr ⟨o,obj,ho,by rw[hnew]⟩
  ·exact .inr ⟨o',ob',e',by rw[hρ o' e2]⟩
 ·intro o' bT hd ob hg;replace hg:((h.oB.put o .gone).put h.next obj').get o'=some ob:=hg;rw[T.get_put,aD (show o'≠h.next by omega),T.get_put] at hg;by_cases e:o'=o
  ·rw[aF e] at hg;rw[←gC hg];rfl
  ·rw[aD e] at hg;exact hd ob hg
def cH.leave {c:CE} {h:AH} {w w':World} (r:RS CR c h w) {o:Nat} {obj':bC} (hon:o<h.next) {ob:Obj}
 (hw:w'.heap=w.heap.push ob) (n ver:Nat) (hob:gR CR (c.add h.next w.heap.size 0 n) w' h.next obj') (hq:w'.os=w.os/\ w'.output=w.output:=by exact⟨rfl,rfl⟩):
 cH CR c h w (c.add h.next w.heap.size 0 n) ⟨Nat.succ h.next,ver,(h.oB.put o .gone).put h.next obj'⟩ w':=
 (cH.drop r o ver hon).trans (cH.alloc (cH.drop r o ver hon).rs hw n hob hq)
end
def qN (row:Array Value):Nat ->List Value ->Array Value
 |_,[]=>row
 |o,v::r=>qN (row.setIfInBounds o v) (o+1) r
def qO:∀(vs:List Value) (row:Array Value) (o:Nat),(qN row o vs).size=row.size
 |[],_,_=>rfl
 |v::r,row,o=>by rw[qN,qO r];simp
def zS:∀(vs:List Value) (row:Array Value) (o:Nat),o+vs.length<=row.size ->∀i,(qN row o vs)[i]? =if o<=i/\ i<o+vs.length then vs[i-o]? else row[i]?
 |[],row,o,_,i=>by
  simp only[qN,ji,vG];rw[aD ω]
 |v::r,row,o,h,i=>by
  simp only[gJ] at h;rw[qN,zS r _ (o+1) (by simp;omega)];simp only[gJ];by_cases h1:o+1<=i/\ i<o+1+r.length
  ·rw[aF h1,aF ω];have:i-o=(i-(o+1))+1:=by omega
   rw[this];simp
  ·rw[aD h1];by_cases h2:i=o
   ·subst h2;rw[aF ω];simp[show i<row.size by omega]
   ·rw[aD ω,Fz (λe=>h2 e.symm)]
def X9 (w:World) (a:Addr) (v:Value) {b:Nat} (h:b≠a.block):(w.setCell a v).heap[b]? =w.heap[b]? :=by
 simp only[World.setCell];rw[FH,aD (λe=>h e.symm)]
def Ya (w:World) (b o:Nat) (v:Value) {row:Array Value} {t:TypeId} {fr:Nat×Nat} (h:w.heap[b]? =some (.cells row t fr)):
 (w.setCell ⟨b,o,none⟩ v).heap[b]? =some (.cells (row.setIfInBounds o v) t fr):=by
 simp only[World.setCell];rw[FH,aF rfl,h];rfl
def Cy (b:Nat):∀(vs:List Value) (o:Nat) (w:World),(w.setCells b o vs).heap.size=w.heap.size
 |[],_,_=>rfl
 |v::r,o,w=>by rw[World.setCells,Cy b r];simp
def Cz (b:Nat):∀(vs:List Value) (o:Nat) (w:World),(w.setCells b o vs).os=w.os/\ (w.setCells b o vs).output=w.output
 |[],_,_=>⟨rfl,rfl⟩
 |v::r,o,w=>by rw[World.setCells];exact Cz b r _ _
def CA (b:Nat):∀(vs:List Value) (o:Nat) (w:World) {b':Nat},b'≠b ->(w.setCells b o vs).heap[b']? =w.heap[b']?
 |[],_,_,_,_=>rfl
 |v::r,o,w,b',h=>by rw[World.setCells,CA b r _ _ h,X9 _ _ _ h]
def CB (b:Nat):∀(vs:List Value) (o:Nat) (w:World) {row:Array Value} {t:TypeId} {fr:Nat×Nat},w.heap[b]? =some (.cells row t fr) ->
 (w.setCells b o vs).heap[b]? =some (.cells (qN row o vs) t fr)
 |[],_,_,_,_,_,h=>h
 |v::r,o,w,_,_,_,h=>CB b r (o+1) _ (Ya w b o v h)
def pW {w:World} {b i:Nat} {row:Array Value} {t:TypeId} {fr:Nat×Nat} (h:w.heap[b]? =some (.cells row t fr)):w.cell? ⟨b,i,none⟩=row[i]? :=by
 simp[World.cell?,h]
def F2 {w:World} {b i:Nat} {row:Array Value} {t:TypeId} {lo hi:Nat} (h:w.heap[b]? =some (.cells row t (lo,hi))) (hn:¬(lo<=i/\ i<hi)):w.frozen? ⟨b,i,none⟩=false:=by
 simp only[World.frozen?,h];simp only[Bool.and_eq_false_iff,Cr];omega
section vrs
variable {c:CE}
def bX.length {l:List AV} {vs:List Value} (h:bX c l vs):vs.length=l.length:=by
 induction l generalizing vs with
 |nil=>cases h;rfl
 |cons a t ih=>cases h with|cons _ _ v r h hs=>simp[ih hs]
def bX.get {l:List AV} {vs:List Value} (h:bX c l vs) (i:Nat) {a:AV} (ha:l[i]? =some a):∃v,vs[i]? =some v/\ VR c a v:=by
 induction l generalizing vs i with
 |nil=>simp at ha
 |cons b t ih=>
  cases h with
  |cons _ _ v r h hs=>
   cases i with
   |zero=>simp at ha;subst ha;exact⟨v,rfl,h⟩
   |succ i=>simp at ha;simpa using ih hs i ha
def bX.append {l m:List AV} {vs us:List Value} (h:bX c l vs) (k:bX c m us):bX c (l++m) (vs++us):=by
 induction l generalizing vs with
 |nil=>cases h;exact k
 |cons a t ih=>cases h with|cons _ _ v r h hs=>exact .cons _ _ _ _ h (ih hs)
def bX.take {l:List AV} {vs:List Value} (h:bX c l vs) (n:Nat):bX c (l.take n) (vs.take n):=by
 induction l generalizing vs n with
 |nil=>cases h;simp;exact .nil
 |cons a t ih=>
  cases h with
  |cons _ _ v r h hs=>
   cases n with
   |zero=>exact .nil
   |succ n=>exact .cons _ _ _ _ h (ih hs n)
def bX.drop {l:List AV} {vs:List Value} (h:bX c l vs) (n:Nat):bX c (l.drop n) (vs.drop n):=by
 induction l generalizing vs n with
 |nil=>cases h;simp;exact .nil
 |cons a t ih=>
  cases h with
  |cons _ _ v r h hs=>
   cases n with
   |zero=>exact .cons _ _ _ _ h hs
   |succ n=>exact ih hs n
def bX.replicate {z:List AV} {zs:List Value} (h:bX c z zs) (n:Nat):bX c (List.replicate n z).flatten (List.replicate n zs).flatten:=by
 induction n with
 |zero=>exact .nil
 |succ n ih=>rw[uc,uc,vD,vD];exact h.append ih
def VR.cells {x:AV} {v:Value} (h:VR c x v) (hu:ew x=true∨∃l,x= .ag l):∃vs,v.cells=vs.toArray/\ bX c (cellsOf x) vs:=by
 cases h with
 |ag l vs h=>exact⟨vs,rfl,h⟩
 |un v=>rcases hu with hu|⟨l,hu⟩<;>cases hu
 |tu l vs h=>rcases hu with hu|⟨l,hu⟩<;>cases hu
 |dp l off blk base row vs him gY hs=>exact⟨[_],rfl,.cons _ _ _ _ (.dp l off blk base row vs him gY hs) .nil⟩
 |_=>first|exact⟨[_],rfl,.cons _ _ _ _ (by constructor<;>assumption) .nil⟩|skip
def VR.oneCell {x:AV} {v:Value} (h:VR c x v) (hu:ew x=true):v.oneCell'=true:=by
 cases h<;>first|rfl|cases hu
def bX.oneCell {l:List AV} {vs:List Value} (h:bX c l vs) (hu:cF l=true):∀v∈vs,v.oneCell'=true:=by
 induction l generalizing vs with
 |nil=>cases h;intro v hv;cases hv
 |cons a t ih=>
  cases h with
  |cons _ _ v r h hs=>
   have h1:ew a=true/\ cF t=true:=by
    cases hs:ew a with
    |true=>exact⟨rfl,by have:cF (a::t)=(Bool.rec false (cF t) (ew a):Bool):=rfl;rw[this,hs] at hu;exact hu⟩
    |false=>have:cF (a::t)=(Bool.rec false (cF t) (ew a):Bool):=rfl;rw[this,hs] at hu;cases hu
   intro u hu';rcases ed.1 hu' with e|e
   ·subst e;exact h.oneCell h1.1
   ·exact ih hs h1.2 u e
end vrs
end AM
namespace AM
open Go
noncomputable section
def Yb {x:AV} {l:List AV} (h:cellsO x=some l):cellsOf x=l/\ (ew x=true∨∃l,x= .ag l):=by
 cases x<;>simp[cellsO] at h<;>simp[cellsOf,ew,h]
def VR.cellsO {c:CE} {x:AV} {v:Value} (h:VR c x v) {l:List AV} (hl:cellsO x=some l):∃vs,v.cells=vs.toArray/\ bX c l vs:=by
 obtain⟨h1,h2⟩:=Yb hl;rw[←h1];exact h.cells h2
def kv:Nat ->AV ->Value ->Bool
 |_,.b x,.bool y=>x==y
 |_,.i k n,.int k' n'=>decide (k=k')&&eO n n'
 |_,.s l,.string bs=>nF (bs.data.toList.map UInt8.toNat) l
 |_,.pn,.pointer none=>true
 |_,.sn,.slice none a b=>Nat.beq a 0&&Nat.beq b 0
 |_,.mn,.map none=>true
 |_,.fnil,.nilFunc=>true
 |_,.ifn,.nilIface=>true
 |_,.un,_=>true
 |_,.f g [] [],.func (.func g') a b=>Nat.beq g g'&&Nat.beq a.size 0&&Nat.beq b.size 0
 |n+1,.ifc t v,.iface t' v'=>Nat.beq t t'&&kv n v v'
 |n+1,.ag l,.agg vs=>List.rec (motive:=λ_=>List Value ->Bool) (λv=>List.isEmpty v) (λa _ ih v=>match v with|[]=>false|u::r=>kv n a u&&ih r) l vs.toList
 |n+1,.tu l,.tuple vs=>List.rec (motive:=λ_=>List Value ->Bool) (λv=>List.isEmpty v) (λa _ ih v=>match v with|[]=>false|u::r=>kv n a u&&ih r) l vs.toList
 |_,_,_=>false
def CC (n:Nat) (l:List AV):List Value ->Bool:=
 List.rec (motive:=λ_=>List Value ->Bool) (λv=>List.isEmpty v) (λa _ ih v=>match v with|[]=>false|u::r=>kv n a u&&ih r) l
def CD {n:Nat} (ih:∀a v,kv n a v=true ->∀c,VR c a v) (c:CE):∀{l:List AV} {vs:List Value},CC n l vs=true ->bX c l vs
 |[],[],_=> .nil
 |[],_::_,h=>by cases h
 |a::t,[],h=>by cases h
 |a::t,v::r,h=>by
  have h':(kv n a v&&CC n t r)=true:=h;simp only[aB] at h';exact .cons _ _ _ _ (ih a v h'.1 c) (CD ih c h'.2)
def CG:∀(n:Nat) (a:AV) (v:Value),kv n a v=true ->∀c,VR c a v:=by
 intro n;induction n with
 |zero=>
  intro a v h c;unfold kv at h;split at h
  ·simp at h;subst h;exact .b _
  ·simp only[aB,aU,fg] at h;obtain⟨rfl,rfl⟩:=h;exact .i _ _
  ·simp only[mH,aU] at h;exact .s _ _ h
  ·exact .pn
  ·simp only[aB,bu,aU] at h;obtain⟨rfl,rfl⟩:=h;exact .sn
  ·exact .mn
  ·exact .fnil
  ·exact .ifn
  ·exact .un _
  ·simp only[aB,bu,aU] at h;obtain⟨⟨rfl,h1⟩,h2⟩:=h;rw[Lx] at h1 h2;subst h1 h2;exact .f _ [] [] [] [] .nil .nil
  all_goals first|omega|(exact bh h (by simp))
 |succ n ih=>
  intro a v h c;unfold kv at h;split at h
  ·simp at h;subst h;exact .b _
  ·simp only[aB,aU,fg] at h;obtain⟨rfl,rfl⟩:=h;exact .i _ _
  ·simp only[mH,aU] at h;exact .s _ _ h
  ·exact .pn
  ·simp only[aB,bu,aU] at h;obtain⟨rfl,rfl⟩:=h;exact .sn
  ·exact .mn
  ·exact .fnil
  ·exact .ifn
  ·exact .un _
  ·simp only[aB,bu,aU] at h;obtain⟨⟨rfl,h1⟩,h2⟩:=h;rw[Lx] at h1 h2;subst h1 h2;exact .f _ [] [] [] [] .nil .nil
  ·rename_i hn;simp only[aB,bu,aU] at h;obtain⟨rfl,h2⟩:=h;cases hn;exact .ifc _ _ _ (ih _ _ h2 c)
  ·rename_i vs hn;cases hn;have:=CD ih c (vs:=vs.toList) h;exact(by simpa using VR.ag _ _ this)
  ·rename_i vs hn;cases hn;have:=CD ih c (vs:=vs.toList) h;exact(by simpa using VR.tu _ _ this)
  ·exact bh h (by simp)
structure TI where
 kd:TypeDesc
 size:Nat
 bytes:Nat
 zs:List AV
 sh:Bool
def LC {a b:AV} (h:zM a b=true):a=b:=by
 unfold zM at h;split at h
 ·simpa using h
 ·simp only[aB,aU,fg] at h;have hk:∀k k':IntKind,gZ k k'=true ->k'=k:=by intro k k';cases k<;>cases k'<;>intro h<;>first|rfl|cases h
  rw[h.2,hk _ _ h.1]
 ·simp only[mH,aU] at h;rw[h]
 ·simp only[aB,bu,aU] at h;rw[h.1,h.2]
 all_goals first|rfl|cases h
def nI:∀{l m:List AV},jJ l m=true ->l=m
 |[],[],_=>rfl
 |[],_::_,h=>by cases h
 |a::t,[],h=>by cases h
 |a::t,v::r,h=>by
  have h':(zM a v&&jJ t r)=true:=h;simp only[aB] at h';rw[LC h'.1,nI h'.2]
structure gT (P:Program) (t:TypeId) (i:TI):Prop where
 und:P.underlying t=some i.kd
 info:∃inf zv,P.info? t=some inf/\ inf.size=i.size/\ inf.bytes=i.bytes/\ inf.zero=some zv/\
  ((i.kd.isRow=true/\∃vs,zv= .agg vs/\ CC 2 i.zs vs.toList=true)∨(i.kd.isRow=false/\∃z,i.zs=[z]/\ kv 2 z zv=true/\ ew z=true))
 sh:P.stoodInHeld t=i.sh
def lN (P:Program) (ty:T TI):Prop:=∀t i,ty.get t=some i ->gT P t i
def gT.zero {P:Program} {t:TypeId} {i:TI} (h:gT P t i) (c:CE):∃inf zv vs,P.info? t=some inf/\ inf.size=i.size/\ inf.bytes=i.bytes/\ inf.zero=some zv/\ zv.cells=vs.toArray/\ bX c i.zs vs/\
 (i.kd.isRow=true ->VR c (.ag i.zs) zv)/\ (i.kd.isRow=false ->∃z,i.zs=[z]/\ VR c z zv/\ ew z=true):=by
 obtain⟨inf,zv,h1,h2,h3,h4,h5⟩:=h.info;rcases h5 with ⟨h5,vs,rfl,h6⟩|⟨h5,z,h6,h7,h8⟩
 ·have hv:=CD (CG 2) c h6;exact⟨inf,_,vs.toList,h1,h2,h3,h4,by simp[Value.cells],hv,λ_=>by simpa using VR.ag _ _ hv,λk=>bh (h5.symm.trans k) (by simp)⟩
 ·have hz:=CG 2 z zv h7 c;obtain⟨vs,h9,h10⟩:=hz.cells (.inl h8);have:cellsOf z=[z]:=by cases z<;>first|rfl|cases h8
  rw[this] at h10;have h11:bX c i.zs vs:=by rw[h6];exact h10
  exact⟨inf,zv,vs,h1,h2,h3,h4,h9,h11,λk=>bh (h5.symm.trans k) (by simp),λ_=>⟨z,h6,hz,h8⟩⟩
def ax:MA ->Operand ->Bool
 | .t n,.tmp m=>Nat.beq n m
 | .c v,.const x=>kv 8 v x
 | .c v,.func g=>kv 8 v (.func (.func g) #[] #[])
 | .g n,.global m=>Nat.beq n m
 |_,_=>false
def jo (l:List MA):List Operand ->Bool:=
 List.rec (motive:=λ_=>List Operand ->Bool) (λv=>List.isEmpty v) (λa _ ih v=>match v with|[]=>false|u::r=>ax a u&&ih r) l
def gK:Option MA ->Option Operand ->Bool
 |none,none=>true
 |some a,some x=>ax a x
 |_,_=>false
section
variable {R:Type} (C:aK R)
def zT {c:CE} {τ:T AV} {a:Act} (ht:TR c τ a.tmps) (hg:∀g l,C.gL.get g=some l ->c.gl g=some l)
 (hgl:∀g l,c.gl g=some l ->∃row vs,c.im g=some row/\ xO row 0 vs/\ bX c l vs) {m:MA} {x:Operand} (h:ax m x=true):VR c (az C τ m) (a.eval x):=by
 unfold ax at h;split at h
 ·rename_i n k;simp only[bu,aU] at h;subst h;show VR c (Option.rec .un (λv=>v) (τ.get n)) (a.tmps.getD n undef);cases hn:τ.get n with
  |none=>exact .un _
  |some v=>
   obtain⟨v',h1,h2⟩:=ht n v hn;have:a.tmps.getD n undef=v':=by simp[h1]
   rw[this];exact h2
 ·exact CG _ _ _ h c
 ·exact CG _ _ _ h c
 ·rename_i n k;simp only[bu,aU] at h;subst h;show VR c (Option.rec .un (λl=> .dp l 0) (C.gL.get n)) (.pointer (some ⟨n,0,none⟩));cases hn:C.gL.get n with
  |none=>exact .un _
  |some l=>
   obtain⟨row,vs,h1,h2,h3⟩:=hgl n l (hg n l hn);exact .dp l 0 n 0 row vs h1 h2 h3
 ·cases h
end
section
variable (P:Program) (CR:Nat ->Code ->aw ->Prop)
def cV (c:CE) (h:AH) (w:World) (x:AV) (h':AH) (r:Result Next):Prop:=
 ∃c' w' nx,r= .ok nx w'/\ cH CR c h w c' h' w'/\ ((∃v,nx= .value v/\ VR c' x v)∨(nx= .skip/\ x= .un))
def bD (c:CE) (h:AH) (w:World):ay ->Result Next ->Prop
 | .v x h',r=>cV CR c h w x h' r
 | .call f args h',r=>h'=h/\∃vs,bX c args vs/\ r=(callFunc f vs.toArray).run P w
 | .yld l args h',r=>h'=h/\ c.dM l/\∃vs,bX c args vs/\ r=(Instr.yield (c.ρ l).1 vs.toArray).run P w
 | .alts l,r=>∃e∈l,cV CR c h w e.1 e.2 r
 | .bad,_=>True
structure Cx (c:CE) (h:AH) (w:World) (ev:MA ->AV) (ρ:Operand ->Value):Prop where
 rs:RS CR c h w
 hE:∀m x,ax m x=true ->VR c (ev m) (ρ x)
variable {P CR}
variable {c:CE} {h:AH} {w:World} {ev:MA ->AV} {ρ:Operand ->Value} {o:Oper} {t:TypeId} {i:TI}
def cV.same (r:RS CR c h w) {x:AV} {v:Value} (hv:VR c x v):cV CR c h w x h (.ok (.value v) w):=
 ⟨c,w,_,rfl,cH.refl r,.inl ⟨v,rfl,hv⟩⟩
def fS {s:Sem Value} {v:Value} {w':World} (hs:s.run P w= .ok v w'):((do pure (Next.value (←s))):Sem Next).run P w= .ok (.value v) w':=by
 simp only[dz,hs,dP,ig]
def zU {s:Sem Unit} {w':World} (hs:s.run P w= .ok () w'):((do s;pure Next.skip):Sem Next).run P w= .ok .skip w':=by
 simp only[dz,hs,dP,ig]
def LD (X:Cx CR c h w ev ρ) {a:MA} {x:Operand} (ho:o.op= .move x∨o.op= .assign x) (ha:ax a x=true):bD P CR c h w (step ev h (.mv a)) ((execOp ρ o).run P w):=by
 have e:(execOp ρ o).run P w= .ok (.value (ρ x)) w:=by rcases ho with ho|ho<;>simp only[execOp,ho]<;>rfl
 rw[e];show bD P CR c h w (fV (ev a) λx=> .v x h) _;rw[jK];exact cV.same X.rs (X.hE _ _ ha)
def Yc (X:Cx CR c h w ev ρ) {a b d:MA} {x y z:Operand} (ho:o.op= .pick x y z) (h1:ax a x=true) (h2:ax b y=true) (h3:ax d z=true):
 bD P CR c h w (step ev h (.pick a b d)) ((execOp ρ o).run P w):=by
 have hc:=X.hE _ _ h1;show bD P CR c h w (match ev a with| .b x=>Bool.rec (motive:=λ_=>ay) (fV (ev d) λx=> .v x h) (fV (ev b) λx=> .v x h) x|_=> .bad) _;cases hx:ev a with
 |b t=>
  rw[hx] at hc;cases hr:ρ x with
  |bool t'=>
   rw[hr] at hc;cases hc;have e:(execOp ρ o).run P w= .ok (.value (if t then ρ y else ρ z)) w:=by
    simp only[execOp,ho,hr,asBool,dz,ig,dP]
   rw[e];cases t with
   |true=>simp only[jK];exact cV.same X.rs (X.hE _ _ h2)
   |false=>simp only[jK];exact cV.same X.rs (X.hE _ _ h3)
  |_=>rw[hr] at hc;cases hc
 |_=>trivial
def nJ (CR:Nat ->Code ->aw ->Prop) (c:CE) (w:World) (obj:Nat ->bC) (val:Nat ->AV) (r:Result Next):Prop:=
 ∃v w' ob n,r= .ok (.value v) w'/\ (w'.heap=w.heap.push ob/\ w'.os=w.os/\ w'.output=w.output)/\
  ∀c' w'' id ver,gE c c' ->c'.dM id ->c'.ρ id=(w.heap.size,0) ->c'.sz id=n ->w''.heap[w.heap.size]? =some ob ->gR CR c' w'' id (obj ver)/\ VR c' (val id) v
def nJ.good {obj:Nat ->bC} {val:Nat ->AV} {r:Result Next} (hs:RS CR c h w) (a:nJ CR c w obj val r):
 bD P CR c h w (h.new (obj h.ver) λo h=> .v (val o) h) r:=by
 obtain⟨v,w',ob,n,rfl,⟨h2,hq⟩,h3⟩:=a;rw[AH.new_eq];have h4:=h3 (c.add h.next w.heap.size 0 n) w' h.next h.ver (CE.add_ext c hs.fresh _ _ _) (by simp) (by simp) (by simp) (by rw[h2];simp);exact⟨_,_,_,rfl,cH.alloc hs h2 n h4.1 hq,.inl ⟨_,rfl,h4.2⟩⟩
def F3 {l:List AV} {vs:List Value} (hv:bX c l vs) (t:TypeId) {w':World} (extra:List Value) (fr:Nat×Nat)
 (hfr:∀j,j<vs.length+extra.length ->¬(fr.1<=j/\ j<fr.2)) (hw:w'.heap=w.heap.push (.cells (vs++extra).toArray t fr)) (val:Nat ->AV) (v:Value)
 (hval:∀c' id,c'.dM id ->c'.ρ id=(w.heap.size,0) ->c'.sz id=vs.length+extra.length ->VR c' (val id) v) (hq:w'.os=w.os/\ w'.output=w.output:=by exact⟨rfl,rfl⟩):
 nJ CR c w (λver=> .cells ver l) val (.ok (.value v) w'):=by
 refine⟨v,w',_,vs.length+extra.length,rfl,⟨hw,hq⟩,λc' w'' id ver hx hd hρ hz hb=>⟨⟨(vs++extra).toArray,t,fr.1,fr.2,vs,by rw[hρ];exact hb,by rw[hz];simp,?_,hv.mono hx,?_,by rw[hρ];simp⟩,hval c' id hd hρ hz⟩⟩
 ·intro j hj;exact hfr j (by simpa using hj)
 ·intro i v hi;rw[hρ];simp only[gB,FB];rw[pL (eC.1 hi).1];exact hi
def CH {l:List AV} {vs:List Value} (hv:bX c l vs) (t:TypeId) {w':World} (hw:w'.heap=w.heap.push (.cells vs.toArray t)) (val:Nat ->AV) (v:Value)
 (hval:∀c' id,c'.dM id ->c'.ρ id=(w.heap.size,0) ->c'.sz id=vs.length ->VR c' (val id) v) (hq:w'.os=w.os/\ w'.output=w.output:=by exact⟨rfl,rfl⟩):
 nJ CR c w (λver=> .cells ver l) val (.ok (.value v) w'):=
 F3 hv t [] (0,0) (λj _=>by simp) (by simpa using hw) val v (by simpa using hval) hq
def VR.new {c':CE} {id b:Nat} (hd:c'.dM id) (hρ:c'.ρ id=(b,0)) (k:Nat):VR c' (.p id k) (.pointer (some ⟨b,k,none⟩)):=by
 have:(⟨b,k,none⟩:Addr)=c'.addr id k:=by unfold CE.addr;rw[hρ];simp
 rw[this];exact .p _ _ hd
def LE (bM:gT P t i) {z:List AV} (ho:o.op= .alloc t) (hz:z=i.zs):nJ CR c w (λver=> .cells ver z) (λo=> .p o 0) ((execOp ρ o).run P w):=by
 subst hz;obtain⟨inf,zv,vs,h1,h2,h3,h4,h5,h6,_,_⟩:=bM.zero c;have e:(execOp ρ o).run P w= .ok (.value (.pointer (some ⟨w.heap.size,0,none⟩))) { w with heap:=w.heap.push (.cells vs.toArray t) }:=by
  simp only[execOp,ho];refine fS ?_;simp[Instr.alloc,zeroValue,typeInfo,h1,h4,newVar,newRow,h5]
 rw[e];exact CH h6 t rfl _ _ λc' id hd hρ _=>VR.new hd hρ 0
def Yd (bM:gT P t i) (X:Cx CR c h w ev ρ) {z:List AV} (ho:o.op= .alloc t) (hz:z=i.zs):bD P CR c h w (step ev h (.alloc z)) ((execOp ρ o).run P w):=
 (LE bM ho hz).good X.rs
def LF (X:Cx CR c h w ev ρ) {a:MA} {x:Operand} (ho:o.op= .box t x) (ha:ax a x=true) {l:List AV} (hc:cellsO (ev a)=some l):
 nJ CR c w (λver=> .cells ver l) (λo=> .p o 0) ((execOp ρ o).run P w):=by
 obtain⟨vs,h1,h2⟩:=(X.hE _ _ ha).cellsO hc;have e:(execOp ρ o).run P w= .ok (.value (.pointer (some ⟨w.heap.size,0,none⟩))) { w with heap:=w.heap.push (.cells vs.toArray t) }:=by
  simp only[execOp,ho];refine fS ?_;simp[Instr.box,newVar,newRow,h1]
 rw[e];exact CH h2 t rfl _ _ λc' id hd hρ _=>VR.new hd hρ 0
def Ye (X:Cx CR c h w ev ρ) {a:MA} {n:Nat} {x:Operand} (ho:o.op= .box t x) (ha:ax a x=true):bD P CR c h w (step ev h (.box a n)) ((execOp ρ o).run P w):=by
 show bD P CR c h w (match cellsO (ev a) with|some l=>h.new (.cells h.ver l) λo h=> .v (.p o 0) h|none=> .bad) _;cases hc:cellsO (ev a) with
 |none=>trivial
 |some l=>exact(LF X ho ha hc).good X.rs
def LG (r:RS CR c h w) {x:AV} {v:Value} (hv:VR c x v) {n:Nat} {cs:List AV}
 (hx:(∃o off l,x= .p o off/\ h.rows o=some l/\ sub l off n=some cs)∨(∃l off,x= .dp l off/\ sub l off n=some cs)):
 ∃b k vs,v= .pointer (some ⟨b,k,none⟩)/\ bX c cs vs/\ vs.length=n/\ w.rangeAt b k vs:=by
 rcases hx with ⟨o,off,l,rfl,hl,hs⟩|⟨l,off,rfl,hs⟩
 ·cases hv with
  |p _ _ hd=>
   have hg:=LB (CR:=CR) hl;obtain⟨ob,hg,hlv,hob⟩:=hg;obtain⟨row,t,lo,hi,vs,h1,h2,h3,h4,h5,_⟩:=hob c w (r.obj o _ ⟨hg,hlv,hd⟩);obtain⟨h6,rfl⟩:=lM hs;refine⟨_,_,(vs.drop off).take n,rfl,(h4.drop off).take n,?_,?_⟩
   ·have:=h4.length;simp;omega
   ·intro j u hj;rw[pW h1];have bF:j<n:=by
     have:=(eC.1 hj).1;simp at this;omega
    rw[jZ,aF bF,mB] at hj;have:=h5 _ _ hj;rw[←this];congr 1;omega
 ·cases hv with
  |dp _ _ blk base row vs him gY hss=>
   obtain⟨t,fr,h1⟩:=r.im _ _ him;obtain⟨h6,rfl⟩:=lM hs;refine⟨_,_,(vs.drop off).take n,rfl,(hss.drop off).take n,?_,?_⟩
   ·have:=hss.length;simp;omega
   ·intro j u hj;rw[pW h1];have bF:j<n:=by
     have:=(eC.1 hj).1;simp at this;omega
    rw[jZ,aF bF,mB] at hj;have:=gY _ _ hj;rw[←this];congr 1;omega
def F4 {agg:Bool} {l:List AV} {x:AV} (h:dB agg l=some x):(agg=true/\ x= .ag l)∨(agg=false/\ l=[x]):=by
 unfold dB at h;cases agg with
 |true=>simp at h;exact .inl ⟨rfl,h.symm⟩
 |false=>
  simp only[eU] at h;split at h
  ·cases h;exact .inr ⟨rfl,rfl⟩
  ·cases h
def LH (bM:gT P t i) (X:Cx CR c h w ev ρ) {a:MA} {x:Operand} (ho:o.op= .load t x) (ha:ax a x=true) {n:Nat} {agg:Bool} (hn:n=i.size) (hg:agg=i.kd.isRow):
 ∀cs y,((∃o off l,ev a= .p o off/\ h.rows o=some l/\ sub l off n=some cs)∨(∃l off,ev a= .dp l off/\ sub l off n=some cs)) ->dB agg cs=some y ->
  bD P CR c h w (.v y h) ((execOp ρ o).run P w):=by
 have hv:=X.hE _ _ ha;intro cs y hx hy;obtain⟨b,k,vs,e1,e2,e3,e4⟩:=LG X.rs hv hx;obtain⟨inf,zv,i1,i2,i3,i4,i5⟩:=bM.info;rcases F4 hy with ⟨g,rfl⟩|⟨g,rfl⟩
 ·have e:(execOp ρ o).run P w= .ok (.value (.agg vs.toArray)) w:=by
   simp only[execOp,ho];refine fS ?_;rw[e1];exact run_loadAt_mid w b k t vs i.kd e4 bM.und (by rw[←hg];exact g) (by rw[i1];simp;omega)
  rw[e];exact cV.same X.rs (.ag _ _ e2)
 ·cases e2 with
  |cons _ _ u us hu hus=>
   cases hus;have hc:w.cell? ⟨b,k,none⟩=some u:=e4 0 u rfl;have hagg:(isAgg t).run P w= .ok false w:=by
    unfold isAgg;rw[dz,dL bM.und w];have:i.kd.isRow=false:=by rw[←hg];exact g
    cases hk:i.kd<;>rw[hk] at this<;>first|rfl|cases this
   have e:(execOp ρ o).run P w= .ok (.value u) w:=by
    simp only[execOp,ho];refine fS ?_;rw[e1];simp[Instr.loadAt,Instr.sureAddr,loadVar,hagg,hc]
   rw[e];exact cV.same X.rs hu
def Yf (bM:gT P t i) (X:Cx CR c h w ev ρ) {a:MA} {x:Operand} (ho:o.op= .load t x) (ha:ax a x=true) {n:Nat} {agg:Bool} (hn:n=i.size) (hg:agg=i.kd.isRow):
 bD P CR c h w (step ev h (.load a n agg)) ((execOp ρ o).run P w):=by
 have key:=LH bM X ho ha hn hg;show bD P CR c h w (match ev a with
  | .p o off=>match h.cells o with
   |some l=>match sub l off n with|some c=>dr h (dB agg c)|none=> .bad
   |none=> .bad
  | .dp l off=>match sub l off n with|some c=>dr h (dB agg c)|none=> .bad
  |_=> .bad) _
 cases hx:ev a with
 |p o' off=>
  dsimp only;cases hl:h.cells o' with
  |none=>trivial
  |some l=>
   dsimp only;cases hs:sub l off n with
   |none=>trivial
   |some cs=>
    dsimp only;unfold dr;cases hy:dB agg cs with
    |none=>trivial
    |some y=>exact key cs y (.inl ⟨o',off,l,hx,F1 hl,hs⟩) hy
 |dp l off=>
  dsimp only;cases hs:sub l off n with
  |none=>trivial
  |some cs=>
   dsimp only;unfold dr;cases hy:dB agg cs with
   |none=>trivial
   |some y=>exact key cs y (.inr ⟨l,off,hx,hs⟩) hy
 |_=>trivial
def Yg (bM:gT P t i) (X:Cx CR c h w ev ρ) {a:MA} {x:Operand} (ho:o.op= .load t x) (ha:ax a x=true) {n:Nat} {agg:Bool} (hn:n=i.size) (hg:agg=i.kd.isRow):
 bD P CR c h w (step ev h (.tld a n agg)) ((execOp ρ o).run P w):=by
 have key:=LH bM X ho ha hn hg;show bD P CR c h w (match ev a with
  | .p o off=>match h.rows o with
   |some l=>match sub l off n with|some c=>dr h (dB agg c)|none=> .bad
   |none=> .bad
  | .dp l off=>match sub l off n with|some c=>dr h (dB agg c)|none=> .bad
  |_=> .bad) _
 cases hx:ev a with
 |p o' off=>
  dsimp only;cases hl:h.rows o' with
  |none=>trivial
  |some l=>
   dsimp only;cases hs:sub l off n with
   |none=>trivial
   |some cs=>
    dsimp only;unfold dr;cases hy:dB agg cs with
    |none=>trivial
    |some y=>exact key cs y (.inl ⟨o',off,l,hx,hl,hs⟩) hy
 |dp l off=>
  dsimp only;cases hs:sub l off n with
  |none=>trivial
  |some cs=>
   dsimp only;unfold dr;cases hy:dB agg cs with
   |none=>trivial
   |some y=>exact key cs y (.inr ⟨l,off,hx,hs⟩) hy
 |_=>trivial
end
section
variable {P:Program} {CR:Nat ->Code ->aw ->Prop}
variable {c:CE} {h:AH} {w:World} {ev:MA ->AV} {ρ:Operand ->Value} {o:Oper} {t:TypeId} {i:TI}
def LJ (r:RS CR c h w) {k:Nat} {l l' new:List AV} {news:List Value} {off:Nat} {ob ob':bC} (hH:dU c h k ob) (hn:bX c new news) (ho:dW new l off=some l') {T:Option Nat} {wh:Bool}
 (hR:F0 c w k l T wh) (hR':∀w',F0 c w' k l' T wh ->gR CR c w' k ob') (aA:Nat):
 w.there (c.ρ k).1 ((c.ρ k).2+off) news.length/\
 cH CR c h w c ⟨h.next,aA,h.oB.put k ob'⟩ (w.setCells (c.ρ k).1 ((c.ρ k).2+off) news):=by
 obtain⟨row,t,lo,hi,vs,h1,h2,h3,h4,h5,h6,h7,h8⟩:=hR;have eQ:=(xQ ho).1;have hln:=hn.length;have hlv:=h4.length;refine⟨λj hj=> ?_,?_⟩
 ·rw[pW h1];exact⟨by rw[og ω];rfl,F2 h1 (h3 _ ω)⟩
 ·refine cH.write r hH (Cy _ _ _ _) (λb hb=>CA _ _ _ _ hb) (hR' _ ?_) aA (Cz _ _ _ _);refine⟨_,t,lo,hi,vs.take off++news++vs.drop (off+news.length),CB _ _ _ _ h1,by rw[qO];exact h2,?_,?_,?_,?_,h7,?_⟩
  ·intro j hj;rw[qO] at hj;exact h3 j hj
  ·have:=(xQ ho).2;rw[this,←hln];exact((h4.take off).append hn).append (h4.drop _)
  ·intro j u hj;rw[zS _ _ _ ω];have hl2:(vs.take off++news++vs.drop (off+news.length))[j]? =if off<=j/\ j<off+news.length then news[j-off]? else vs[j]? :=by
    refine LA (c:=news) (l:=vs) (n:=off) ?_ j;rw[xP,aF ω]
   rw[hl2] at hj;by_cases hc:off<=j/\ j<off+news.length
   ·rw[aF hc] at hj;rw[aF ω];rw[←hj];congr 1;omega
   ·rw[aD hc] at hj;rw[aD ω];exact h5 j u hj
  ·rw[qO];simp;omega
  ·intro hw;have:=h8 hw;rw[qO];simp;omega
def F5 (r:RS CR c h w) {k:Nat} {l l' new:List AV} {news:List Value} {off:Nat} (hd:c.dM k) (hl:h.cells k=some l) (hn:bX c new news) (ho:dW new l off=some l') (ver aA:Nat):
 w.there (c.ρ k).1 ((c.ρ k).2+off) news.length/\
 cH CR c h w c ⟨h.next,aA,h.oB.put k (.cells ver l')⟩ (w.setCells (c.ρ k).1 ((c.ρ k).2+off) news):=by
 obtain⟨ob,hg,hlv,hob⟩:=zQ (CR:=CR) hl;obtain⟨row,t,lo,hi,vs,h1,h2,h3,h4,h5,h6⟩:=hob c w (r.obj k _ ⟨hg,hlv,hd⟩);refine LJ r ⟨hg,hlv,hd⟩ hn ho (T:=none) (wh:=false) ⟨row,t,lo,hi,vs,h1,h2,h3,h4,h5,h6,λ_ h=>(by cases h),λh=>(by cases h)⟩ (λw' hw=> ?_) aA;obtain⟨row,t,lo,hi,vs,h1,h2,h3,h4,h5,h6,_⟩:=hw;exact⟨row,t,lo,hi,vs,h1,h2,h3,h4,h5,h6⟩
def F6 {c:CE} {x:AV} {v:Value} (h:VR c x v) (ha:cF (cellsOf x)=true):∃vs,v.cells=vs.toArray/\ bX c (cellsOf x) vs/\∀u∈vs,u.oneCell'=true:=by
 have hu:ew x=true∨∃l,x= .ag l:=by
  cases x with
  |ag l=>exact .inr ⟨l,rfl⟩
  |tu l=>exact bh (show false=true from ha) (by simp)
  |un=>exact bh (show false=true from ha) (by simp)
  |_=>exact .inl rfl
 obtain⟨vs,h1,h2⟩:=h.cells hu;exact⟨vs,h1,h2,h2.oneCell ha⟩
def F7 (t:TypeId) {inf:TypeInfo} (hi:P.info? t=some inf) (b k:Nat) (v:Value) (vs:List Value) (hv:v.cells=vs.toArray) (hn:vs.length=inf.size) (h1:∀u∈vs,u.oneCell'=true) (ht:w.there b k vs.length):
 (storeVar t ⟨b,k,none⟩ v).run P w= .ok () (w.setCells b k vs):=by
 have:=run_storeCells_cells (P:=P) b k vs 0 w (λj hj=>by simpa using (ht j hj).1) (λj hj=>by simpa using (ht j hj).2) h1;simp only[vG] at this;simp[storeVar,Go.sizeOf,typeInfo,hi,hv,hn,this]
def Yh (bM:gT P t i) (X:Cx CR c h w ev ρ) {a y:MA} {x z:Operand} (ho:o.op= .store t x z) (ha:ax a x=true) (hy:ax y z=true) {n:Nat} (hn:n=i.size):
 bD P CR c h w (step ev h (.store a y n)) ((execOp ρ o).run P w):=by
 show bD P CR c h w (match ev a with
  | .p o off=>match h.cells o with
   |some l=>fV (ev y) λx=>match dW (cellsOf x) l off with
    |some l'=>bif cF (cellsOf x)&&Nat.beq (len (cellsOf x)) n then h.put o (.cells (Nat.succ h.ver) l') λh=> .v .un h else .bad
    |none=> .bad
   |none=> .bad
  |_=> .bad) _
 have hv:=X.hE _ _ ha;have hv2:=X.hE _ _ hy;cases hx:ev a with
 |p o' off=>
  dsimp only;cases hl:h.cells o' with
  |none=>trivial
  |some l=>
   dsimp only;rw[jK];cases hs:dW (cellsOf (ev y)) l off with
   |none=>trivial
   |some l'=>
    dsimp only;cases hc:(cF (cellsOf (ev y))&&Nat.beq (len (cellsOf (ev y))) n) with
    |false=>trivial
    |true=>
     simp only[aB,bu,aU,kZ] at hc;obtain⟨vs,e1,e2,e3⟩:=F6 hv2 hc.1;rw[hx] at hv;generalize hr:ρ x=vx at hv;cases hv with
     |p _ _ aV=>
      obtain⟨h1,h2⟩:=F5 X.rs aV hl e2 hs (Nat.succ h.ver) (Nat.succ h.ver);obtain⟨inf,zv,i1,i2,_⟩:=bM.info;have e:(execOp ρ o).run P w= .ok .skip (w.setCells (c.ρ o').1 ((c.ρ o').2+off) vs):=by
       simp only[execOp,ho];refine zU ?_;rw[hr];simp only[Instr.storeAt,Instr.sureAddr,dz,ig,dP];exact F7 t i1 _ _ _ vs e1 (by rw[e2.length,hc.2,i2];exact hn) e3 h1
      rw[e];simp only[fC,AH.put_eq];exact⟨_,_,_,rfl,h2,.inr ⟨rfl,rfl⟩⟩
 |_=>trivial
def Yi (X:Cx CR c h w ev ρ) {a:MA} {x:Operand} (ho:o.op= .nilCheck x) (ha:ax a x=true):bD P CR c h w (step ev h (.nilc a)) ((execOp ρ o).run P w):=by
 show bD P CR c h w (match ev a with
  | .p o a=> .v (.p o a) h
  | .dp l a=> .v (.dp l a) h
  | .f g a b=> .v (.f g a b) h
  | .y l=> .v (.y l) h
  | .ifc t v=> .v (.ifc t v) h
  | .m o=> .v (.m o) h
  |_=> .bad) _
 have hv:=X.hE _ _ ha;have key:∀v,ρ x=v ->(execOp ρ o).run P w= .ok (.value v) w ->VR c (ev a) v ->cV CR c h w (ev a) h ((execOp ρ o).run P w):=by
  intro v _ e hv;rw[e];exact cV.same X.rs hv
 cases hx:ev a with
 |p o' off=>
  rw[hx] at hv key;generalize hr:ρ x=vx at hv key;cases hv with|p _ _ aV=>exact key _ rfl (by simp only[execOp,ho,hr];rfl) (.p _ _ aV)
 |dp l off=>
  rw[hx] at hv key;generalize hr:ρ x=vx at hv key;cases hv with|dp _ _ b1 b2 row vs q1 q2 q3=>exact key _ rfl (by simp only[execOp,ho,hr];rfl) (.dp _ _ _ _ row vs q1 q2 q3)
 |f g fi ca=>
  rw[hx] at hv key;generalize hr:ρ x=vx at hv key;cases hv with|f _ _ _ vi va q1 q2=>exact key _ rfl (by simp only[execOp,ho,hr];rfl) (.f _ _ _ _ _ q1 q2)
 |y l=>
  rw[hx] at hv key;generalize hr:ρ x=vx at hv key;cases hv with|y _ q=>exact key _ rfl (by simp only[execOp,ho,hr];rfl) (.y _ q)
 |ifc t v=>
  rw[hx] at hv key;generalize hr:ρ x=vx at hv key;cases hv with|ifc _ _ v' q=>exact key _ rfl (by simp only[execOp,ho,hr];rfl) (.ifc _ _ _ q)
 |m o'=>
  rw[hx] at hv key;generalize hr:ρ x=vx at hv key;cases hv with|m _ q=>exact key _ rfl (by simp only[execOp,ho,hr];rfl) (.m _ q)
 |_=>trivial
def CI {α:Type} (a n:Nat) (x y:α):(bif Nat.ble a n then x else y)=if a<=n then x else y:=by
 rw[dm];by_cases h:a<=n<;>simp[h]
def vW (k:IntKind) (n:Int):dN k n=k.wrap n:=by
 cases n with
 |ofNat a=>
  cases k with
  |i64=>
   have e:dN .i64 (Int.ofNat a)=bif Nat.ble a 9223372036854775807 then .ofNat a else IntKind.wrap .i64 (.ofNat a):=by simp only[dN]
   rw[e,CI];split
   ·exact(IntWalk.i64_in (Int.ofNat a) ⟨by simp only[nB];omega,by simp only[nB];omega⟩).symm
   ·exact Eq.refl _
  |u64=>
   have e:dN .u64 (Int.ofNat a)=bif Nat.ble a 18446744073709551615 then .ofNat a else IntKind.wrap .u64 (.ofNat a):=by simp only[dN]
   rw[e,CI];split
   ·exact(IntWalk.u64_in (Int.ofNat a) ⟨by simp only[nB];omega,by simp only[nB];omega⟩).symm
   ·exact Eq.refl _
  |u8=>
   have e:dN .u8 (Int.ofNat a)=bif Nat.ble a 255 then .ofNat a else IntKind.wrap .u8 (.ofNat a):=by simp only[dN]
   rw[e,CI];split
   ·exact(IntWalk.u8_in (Int.ofNat a) ⟨by simp only[nB];omega,by simp only[nB];omega⟩).symm
   ·exact Eq.refl _
  |i8=>simp only[dN]
  |i16=>simp only[dN]
  |i32=>simp only[dN]
  |u16=>simp only[dN]
  |u32=>simp only[dN]
 |negSucc a=>
  cases k with
  |i64=>
   have e:dN .i64 (Int.negSucc a)=bif Nat.ble a 9223372036854775807 then .negSucc a else IntKind.wrap .i64 (.negSucc a):=by simp only[dN]
   rw[e,CI];split
   ·exact(IntWalk.i64_in (Int.negSucc a) ⟨by omega,by omega⟩).symm
   ·exact Eq.refl _
  |i8=>simp only[dN]
  |i16=>simp only[dN]
  |i32=>simp only[dN]
  |u8=>simp only[dN]
  |u16=>simp only[dN]
  |u32=>simp only[dN]
  |u64=>simp only[dN]
def pY (k:IntKind) (n:Int):ri k n=some (.i k n):=by unfold ri;rw[zO]
def uo (b:Bool):rb b=some (.b b):=by unfold rb;rw[rR]
def zV {k k':IntKind} (h:gZ k k'=true):k'=k:=by
 cases k<;>cases k'<;>first|rfl|cases h
def F8 (k:IntKind) (n:Nat):td k n=2^(min n k.bits):=by
 unfold td;rw[dm];by_cases h:n<=k.bits
 ·simp[h,kF h]
 ·simp[h,sY (Nat.le_of_not_le h)]
def LK (k:IntKind) (m:Nat) (h:m<=ow k):m<2^k.bits:=by
 cases k<;>simp only[ow,IntKind.bits] at* <;>omega
def F9 (k:IntKind) (m:Nat) (h:m<=ow k):k.wrap (m:Int)=m:=by
 cases k<;>simp only[ow] at h
 ·exact IntWalk.i8_in _ ω
 ·exact IntWalk.i16_in _ ω
 ·exact IntWalk.i32_in _ ω
 ·exact IntWalk.i64_in _ ω
 ·exact IntWalk.u8_in _ ω
 ·exact IntWalk.u16_in _ ω
 ·exact IntWalk.u32_in _ ω
 ·exact IntWalk.u64_in _ ω
def Yj (k:IntKind):∃e,ow k+1=2^e:=by
 cases k
 ·exact⟨7,rfl⟩
 ·exact⟨15,rfl⟩
 ·exact⟨31,rfl⟩
 ·exact⟨63,rfl⟩
 ·exact⟨8,rfl⟩
 ·exact⟨16,rfl⟩
 ·exact⟨32,rfl⟩
 ·exact⟨64,rfl⟩
def Ga (k:IntKind) (f:Nat ->Nat ->Nat) (g:BitVec k.bits ->BitVec k.bits ->BitVec k.bits)
 (hfg:∀x y:BitVec k.bits,(g x y).toNat=f x.toNat y.toNat) (hf:∀m n e,m<2^e ->n<2^e ->f m n<2^e) (a b:Int):
 bits k f g a b=some (.i k (k.wrap (g (BitVec.ofInt k.bits a) (BitVec.ofInt k.bits b)).toNat)):=by
 unfold bits;split
 ·rename_i m n;cases hc:(Nat.ble m (ow k)&&Nat.ble n (ow k)) with
  |false=>simp only[eU,pY]
  |true=>
   simp only[aB,dm,aU] at hc;simp only[fC,pY];congr 2;have e1:(BitVec.ofInt k.bits (Int.ofNat m)).toNat=m:=by
    simp only[nB,BitVec.ofInt_natCast,BitVec.toNat_ofNat];exact Cb (LK k m hc.1)
   have e2:(BitVec.ofInt k.bits (Int.ofNat n)).toNat=n:=by
    simp only[nB,BitVec.ofInt_natCast,BitVec.toNat_ofNat];exact Cb (LK k n hc.2)
   rw[hfg,e1,e2];obtain⟨e,he⟩:=Yj k;have:=hf m n e ω ω;rw[F9 k _ ω];rfl
 ·rw[pY]
def Yk {op:BinOp} {k k':IntKind} {a b:Int} {x:AV} (t:TypeId) (hx:zJ op k k' a b=some x):∃v,(binOp op t (.int k a) (.int k' b)).run P w= .ok v w/\ VR c x v:=by
 unfold zJ at hx;split at hx
 ·split at hx
  ·rename_i n;rw[pY,vW,F8] at hx;cases hx;refine⟨_,?_,.i _ _⟩;simp only[binOp,Op.shift];rw[aD (by simp only[nB];omega)];simp
  ·cases hx
 ·split at hx
  ·rename_i n m;rw[pY,F8] at hx;cases hx;refine⟨_,?_,.i _ _⟩;simp only[binOp,Op.shift];rw[aD (by simp only[nB];omega)];simp only[ig];have e:(Int.ofNat m).fdiv (2^(min (Int.ofNat n).toNat k.bits))=Int.ofNat (Nat.div m (2^min n k.bits)):=by
    simp only[nB,Int.toNat_natCast];rw[Int.fdiv_eq_ediv_of_nonneg _ (by exact Int.le_of_lt (Int.pow_pos (by decide)))];rw[show((2:Int)^min n k.bits)=((2^min n k.bits:Nat):Int) from by simp];rw[←Int.natCast_ediv];rfl
   rw[e]
  ·rename_i n _;rw[pY,F8] at hx;cases hx;refine⟨_,?_,.i _ _⟩;simp only[binOp,Op.shift];rw[aD (by simp only[nB];omega)];simp
  ·cases hx
 ·rename_i n1 n2;cases hk:gZ k k' with
  |false=>rw[hk] at hx;cases hx
  |true=>
   rw[hk] at hx;have:=zV hk;subst this;simp only[fC] at hx;split at hx;all_goals (try rw[pY] at hx)
   all_goals (try rw[uo] at hx)
   all_goals (try rw[vW] at hx)
   ·cases hx;exact⟨.int k' (k'.wrap (a+b)),by simp[binOp,Op.intArith],.i _ _⟩
   ·cases hx;exact⟨.int k' (k'.wrap (a-b)),by simp[binOp,Op.intArith],.i _ _⟩
   ·cases hx;exact⟨.int k' (k'.wrap (a*b)),by simp[binOp,Op.intArith],.i _ _⟩
   ·cases hx;refine⟨.bool (a==b),by simp[binOp,Op.intCmp],?_⟩;rw[fg];exact .b _
   ·cases hx;refine⟨.bool (a !=b),by simp[binOp,Op.intCmp],?_⟩;rw[fg];exact .b _
   ·cases hx;refine⟨.bool (decide (a<b)),by simp[binOp,Op.intCmp],?_⟩;rw[mI];exact .b _
   ·cases hx;refine⟨.bool (decide (a<=b)),by simp[binOp,Op.intCmp],?_⟩;rw[mI,show(!(decide (b<a)))=decide (a<=b) from by rw[←decide_not];simp];exact .b _
   ·cases hx;refine⟨.bool (decide (a>b)),by simp[binOp,Op.intCmp],?_⟩;rw[mI];exact .b _
   ·cases hx;refine⟨.bool (decide (a>=b)),by simp[binOp,Op.intCmp],?_⟩;rw[mI,show(!(decide (a<b)))=decide (a>=b) from by rw[←decide_not];simp];exact .b _
   ·cases hb:eO b 0 with
    |true=>rw[hb] at hx;cases hx
    |false=>
     rw[hb] at hx;simp only[eU] at hx;cases hx;rw[fg] at hb;exact⟨.int k' (k'.wrap (a.tdiv b)),by simp[binOp,Op.intDiv,of_decide_eq_false hb],.i _ _⟩
   ·cases hb:eO b 0 with
    |true=>rw[hb] at hx;cases hx
    |false=>
     rw[hb] at hx;simp only[eU] at hx;cases hx;rw[fg] at hb;exact⟨.int k' (a.tmod b),by simp[binOp,Op.intDiv,of_decide_eq_false hb],.i _ _⟩
   ·rw[Ga k' Nat.land (λx y=>x&&&y) (λx y=>BitVec.toNat_and x y) (λm n e h1 _=>Ca Nat.and_le_left h1)] at hx;cases hx;exact⟨.int k' (k'.wrap (BitVec.ofInt k'.bits a&&&BitVec.ofInt k'.bits b).toNat),by simp only[binOp,Op.intBits,ne_eq,not_true_eq_false,bV,ig],.i _ _⟩
   ·rw[Ga k' Nat.lor (λx y=>x|||y) (λx y=>BitVec.toNat_or x y) (λm n e h1 h2=>Nat.or_lt_two_pow h1 h2)] at hx;cases hx;exact⟨.int k' (k'.wrap (BitVec.ofInt k'.bits a|||BitVec.ofInt k'.bits b).toNat),by simp only[binOp,Op.intBits,ne_eq,not_true_eq_false,bV,ig],.i _ _⟩
   ·rw[Ga k' Nat.xor (λx y=>x^^^y) (λx y=>BitVec.toNat_xor x y) (λm n e h1 h2=>Nat.xor_lt_two_pow h1 h2)] at hx;cases hx;exact⟨.int k' (k'.wrap (BitVec.ofInt k'.bits a^^^BitVec.ofInt k'.bits b).toNat),by simp only[binOp,Op.intBits,ne_eq,not_true_eq_false,bV,ig],.i _ _⟩
   ·cases hx;exact⟨.int k' (k'.wrap (BitVec.ofInt k'.bits a&&&~~~(BitVec.ofInt k'.bits b)).toNat),by simp only[binOp,Op.intBits,ne_eq,not_true_eq_false,bV,ig],.i _ _⟩
   ·cases hx
def VR.int_inv {c:CE} {k:IntKind} {n:Int} {v:Value} (h:VR c (.i k n) v):v= .int k n:=by cases h;rfl
def VR.str_inv {c:CE} {l:List Nat} {v:Value} (h:VR c (.s l) v):∃bs,v= .string bs/\ bs.data.toList.map UInt8.toNat=l:=by cases h with|s _ bs e=>exact⟨bs,rfl,e⟩
def LL:∀(x y:List UInt8),Op.bytesLess x y=ul (x.map UInt8.toNat) (y.map UInt8.toNat)
 |_,[]=>by cases ‹List UInt8›<;>rfl
 |[],_::_=>rfl
 |a::x,b::y=>by
  have e:ul ((a::x).map UInt8.toNat) ((b::y).map UInt8.toNat)=(Bool.rec (Bool.rec false (ul (x.map UInt8.toNat) (y.map UInt8.toNat)) (Nat.beq a.toNat b.toNat)) true (Nat.ble (Nat.succ a.toNat) b.toNat):Bool):=rfl;rw[e,←LL x y,dm,bu];simp only[Op.bytesLess];by_cases h1:a<b
  ·have:Nat.succ a.toNat<=b.toNat:=h1;simp[h1,this]
  ·have:¬Nat.succ a.toNat<=b.toNat:=h1;by_cases h2:a=b
   ·subst h2;rw[ot this];simp[h1]
   ·have h3:¬a.toNat=b.toNat:=λk=>h2 (UInt8.toNat_inj.1 k);simp[h1,this,h2,h3]
def CJ (b:ByteArray):b.toList=b.data.toList:=ByteArray.toList_eq b
def Yl {x y:List UInt8}:x.map UInt8.toNat=y.map UInt8.toNat↔x=y:=
 ⟨λh=>(List.map_inj_right (λ_ _ k=>UInt8.toNat_inj.1 k)).1 h,λh=>by rw[h]⟩
def Ym {op:BinOp} {a b:List Nat} {x:AV} {u v:ByteArray} (hu:u.data.toList.map UInt8.toNat=a) (hv:v.data.toList.map UInt8.toNat=b) (hx:zK op a b=some x):
 ∃r,(Op.stringOp op u v).run P w= .ok r w/\ VR c x r:=by
 have heq:(u.toList==v.toList)=decide (a=b):=by
  rw[CJ,CJ,←hu,←hv];by_cases e:u.data.toList=v.data.toList
  ·rw[e];simp
  ·rw[ot (λk=>e (Yl.1 k))];exact beq_false_of_ne e
 have aV:Op.bytesLess u.toList v.toList=ul a b:=by rw[CJ,CJ,LL,hu,hv]
 unfold zK at hx;split at hx
 ·cases hc:(Nat.ble (len a) 1048576&&Nat.ble (len b) 1048576) with
  |false=>rw[hc] at hx;cases hx
  |true=>
   rw[hc] at hx;simp only[fC,jz] at hx;cases hx;simp only[aB,dm,aU,kZ] at hc;have h1:u.size=a.length:=by rw[←hu,kU];rfl
   have h2:v.size=b.length:=by rw[←hv,kU];rfl
   refine⟨.string (u++v),?_,.s _ _ ?_⟩
   ·simp only[Op.stringOp];rw[aD ?_];rfl;have:IntKind.i64.max=9223372036854775807:=by decide
    rw[this];omega
   ·rw[ByteArray.data_append,Array.toList_append,kE,hu,hv]
 ·rw[uo] at hx;cases hx;exact⟨_,rfl,by simp only[heq,mH];exact .b _⟩
 ·rw[uo] at hx;cases hx;exact⟨_,rfl,by simp only[heq,mH];exact .b _⟩
 ·rw[uo] at hx;cases hx;exact⟨_,rfl,by simp only[aV];exact .b _⟩
 ·rw[uo] at hx;cases hx;exact⟨_,rfl,by simp only[heq,aV,mH];exact .b _⟩
 ·rw[uo] at hx;cases hx;exact⟨_,rfl,by simp only[heq,aV,mH];exact .b _⟩
 ·rw[uo] at hx;cases hx;exact⟨_,rfl,by simp only[aV];exact .b _⟩
 ·cases hx
def CK {op:BinOp} {t yt:TypeId} {x y:Operand} {v:Value} (ho:o.op= .binOp op t x y yt) (hg:(eqGuard op t x y (ρ x) (ρ y)).run P w= .ok () w) (hb:(binOp op t (ρ x) (ρ y)).run P w= .ok v w):
 (execOp ρ o).run P w= .ok (.value v) w:=by
 simp only[execOp,ho];refine fS ?_;simp only[dz,hg,dP,hb]
def LM (X:Cx CR c h w ev ρ) {op:BinOp} {t yt:TypeId} {a b:MA} {x y:Operand} (ho:o.op= .binOp op t x y yt) (ha:ax a x=true) (hb:ax b y=true)
 (hk:(∃k n k' m,ev a= .i k n/\ ev b= .i k' m)∨(∃l m,ev a= .s l/\ ev b= .s m)):
 bD P CR c h w (step ev h (.bin op a b)) ((execOp ρ o).run P w):=by
 show bD P CR c h w (dr h (aY op (ev a) (ev b))) _;have hva:=X.hE _ _ ha;have hvb:=X.hE _ _ hb;rcases hk with ⟨k,n,k',m,e1,e2⟩|⟨l,m,e1,e2⟩
 ·rw[e1] at hva ⊢;rw[e2] at hvb ⊢;have r1:=hva.int_inv;have r2:=hvb.int_inv;show bD P CR c h w (dr h (zJ op k k' n m)) _;cases hx:zJ op k k' n m with
  |none=>trivial
  |some z=>
   obtain⟨v,h1,h2⟩:=Yk (P:=P) (c:=c) (w:=w) t hx;rw[CK (v:=v) ho (by rw[r1,eqGuard_at_int];rfl) (by rw[r1,r2];exact h1)];exact cV.same X.rs h2
 ·rw[e1] at hva ⊢;rw[e2] at hvb ⊢;obtain⟨u,r1,q1⟩:=hva.str_inv;obtain⟨v,r2,q2⟩:=hvb.str_inv;show bD P CR c h w (dr h (zK op l m)) _;cases hx:zK op l m with
  |none=>trivial
  |some z=>
   obtain⟨r,h1,h2⟩:=Ym (P:=P) (c:=c) (w:=w) q1 q2 hx;rw[CK (v:=r) ho (by rw[r1,eqGuard_at_string];rfl) (by rw[r1,r2];cases op<;>exact h1)];exact cV.same X.rs h2
def Yn (X:Cx CR c h w ev ρ) {op:UnOp} {t:TypeId} {a:MA} {x:Operand} (ho:o.op= .unOp op t x) (ha:ax a x=true):bD P CR c h w (step ev h (.un op a)) ((execOp ρ o).run P w):=by
 show bD P CR c h w (dr h (um op (ev a))) _;have hv:=X.hE _ _ ha;have key:∀z v,(Op.unary op (ρ x)).run P w= .ok v w ->VR c z v ->bD P CR c h w (.v z h) ((execOp ρ o).run P w):=by
  intro z v h1 h2;have e:(execOp ρ o).run P w= .ok (.value v) w:=by
   simp only[execOp,ho];exact fS h1
  rw[e];exact cV.same X.rs h2
 cases hx:ev a with
 |i k n=>
  rw[hx] at hv;have r1:=hv.int_inv;cases op with
  |neg=>
   simp only[um,pY,vW,dr];exact key _ (.int k (k.wrap (0-n))) (by rw[r1];rfl) (.i _ _)
  |xor=>
   simp only[um,pY,dr];exact key _ _ (by rw[r1];rfl) (.i _ _)
  |_=>trivial
 |b z=>
  rw[hx] at hv;generalize hr:ρ x=vx at hv;cases hv;cases op with
  |not=>simp only[um,uo,dr];exact key _ (.bool (!z)) (by rw[hr];rfl) (.b _)
  |_=>trivial
 |_=>cases op<;>trivial
def Yo (X:Cx CR c h w ev ρ) {s t:TypeId} (hs:P.underlying s=some .string) (ht:P.underlying t=some .string) {a:MA} {x:Operand} (ho:o.op= .convert s t x) (ha:ax a x=true):
 bD P CR c h w (step ev h (.cvs a)) ((execOp ρ o).run P w):=by
 show bD P CR c h w (match ev a with| .s l=> .v (.s l) h|_=> .bad) _;have hv:=X.hE _ _ ha;cases hx:ev a with
 |s l=>
  rw[hx] at hv;obtain⟨u,r1,q1⟩:=hv.str_inv;have e:(execOp ρ o).run P w= .ok (.value (.string u)) w:=by
   simp only[execOp,ho];refine fS ?_;rw[r1];simp[convert,dL hs,dL ht]
  rw[e];exact cV.same X.rs (.s _ _ q1)
 |_=>trivial
def Yp (X:Cx CR c h w ev ρ) {t:TypeId} {d:TypeDesc} (ht:P.underlying t=some d) (hd:∀ms,d≠.interface ms) {a:MA} {x:Operand} (ho:o.op= .makeInterface t x) (ha:ax a x=true):
 bD P CR c h w (step ev h (.mif t a)) ((execOp ρ o).run P w):=by
 show bD P CR c h w (fV (ev a) λx=> .v (.ifc t x) h) _;rw[jK];have e:(execOp ρ o).run P w= .ok (.value (.iface t (ρ x))) w:=by
  simp only[execOp,ho];refine fS ?_;simp only[Instr.makeInterface,dz,dL ht,dP];cases d<;>first|rfl|exact bh rfl (hd _)
 rw[e];exact cV.same X.rs (.ifc _ _ _ (X.hE _ _ ha))
def Yq (X:Cx CR c h w ev ρ) {a:MA} {x:Operand} {n:Nat} (ho:o.op= .extract x n) (ha:ax a x=true):bD P CR c h w (step ev h (.ext a n)) ((execOp ρ o).run P w):=by
 show bD P CR c h w (match ev a with| .tu l=>dr h (lH l n)|_=> .bad) _;have hv:=X.hE _ _ ha;cases hx:ev a with
 |tu l=>
  rw[hx] at hv;generalize hr:ρ x=vx at hv;cases hv with
  |tu _ vs hs=>
   dsimp only;rw[Cw];cases hn:l[n]? with
   |none=>trivial
   |some z=>
    obtain⟨u,h1,h2⟩:=hs.get n hn;have e:(execOp ρ o).run P w= .ok (.value u) w:=by
     simp only[execOp,ho];refine fS ?_;rw[hr];simp[Instr.extract,h1]
    rw[e];exact cV.same X.rs h2
 |_=>trivial
def Yr (X:Cx CR c h w ev ρ) {s:TypeId} {fs:Array Field} {n:Nat} {f:Field} (hs:P.underlying s=some (.struct fs)) (hf:fs[n]? =some f) {inf:TypeInfo} (hi:P.info? f.type=some inf) (hz:inf.size≠0)
 {a:MA} {x:Operand} (ho:o.op= .fieldAddr s x n) (ha:ax a x=true):bD P CR c h w (step ev h (.fadr a f.offset)) ((execOp ρ o).run P w):=by
 show bD P CR c h w (match ev a with
  | .p o a=>fN (a+f.offset) λa=> .v (.p o a) h
  | .dp l a=>fN (a+f.offset) λa=> .v (.dp l a) h
  |_=> .bad) _
 have hv:=X.hE _ _ ha;have key:∀b k,ρ x= .pointer (some ⟨b,k,none⟩) ->(execOp ρ o).run P w= .ok (.value (.pointer (some ⟨b,k+f.offset,none⟩))) w:=by
  intro b k hr;simp only[execOp,ho];refine fS ?_;rw[hr];simp[Instr.fieldAt,dL hs,hf,Instr.sureAddr,fieldPlace,Go.sizeOf,typeInfo,hi,hz,nE]
 cases hx:ev a with
 |p o' off=>
  rw[hx] at hv;generalize hr:ρ x=vx at hv;cases hv with
  |p _ _ aV=>
   simp only[dT];rw[key _ _ hr];refine cV.same X.rs ?_;have:(⟨(c.ρ o').1,(c.ρ o').2+off+f.offset,none⟩:Addr)=c.addr o' (off+f.offset):=by simp[CE.addr,pK]
   rw[this];exact .p _ _ aV
 |dp l off=>
  rw[hx] at hv;generalize hr:ρ x=vx at hv;cases hv with
  |dp _ _ b1 b2 row vs q1 q2 q3=>
   simp only[dT];rw[key _ _ hr,pK];exact cV.same X.rs (.dp _ _ _ _ row vs q1 q2 q3)
 |_=>trivial
def Ys {k:IntKind} (hd:P.underlying t=some (.int k)) {s:TypeId} {k':IntKind} (hs:P.underlying s=some (.int k')) (X:Cx CR c h w ev ρ) {a:MA} {x:Operand} (ho:o.op= .convert s t x) (ha:ax a x=true):
 bD P CR c h w (step ev h (.cvi k a)) ((execOp ρ o).run P w):=by
 show bD P CR c h w (match ev a with| .i _ n=>dr h (ri k (dN k n))|_=> .bad) _;have hv:=X.hE _ _ ha;cases hx:ev a with
 |i q n=>
  rw[hx] at hv;generalize hr:ρ x=vx at hv;cases hv;simp only[pY,dr,vW];have e:(execOp ρ o).run P w= .ok (.value (.int k (k.wrap n))) w:=by
   simp only[execOp,ho];refine fS ?_;rw[hr];simp[convert,dL hs,dL hd,Conv.intToInt]
  rw[e];exact cV.same X.rs (.i _ _)
 |_=>trivial
def Yt {v:AV} {n:Nat} (h:fP v=some n):∃k,v= .i k (Int.ofNat n):=by
 unfold fP at h;split at h
 ·cases h;exact⟨_,rfl⟩
 ·cases h
def th (X:Cx CR c h w ev ρ) {a:MA} {x:Operand} (ha:ax a x=true) {n:Nat} (hn:nA ev a=some n):∃k,ρ x= .int k (n:Int):=by
 obtain⟨k,e⟩:=Yt hn;have:=X.hE _ _ ha;rw[e] at this;exact⟨k,this.int_inv⟩
def uq (bM:gT P t i) {l cs:List AV} {vs:List Value} (hs:bX c l vs) {off n:Nat} (hsub:sub l off n=some cs) (hn:n=i.size) {y:AV} (hy:dB i.kd.isRow cs=some y):
 ∃v,(part t vs.toArray off).run P w= .ok v w/\ VR c y v:=by
 obtain⟨h6,rfl⟩:=lM hsub;have hl:=hs.length;obtain⟨inf,zv,i1,i2,_⟩:=bM.info;have hcs:=(hs.drop off).take n;rcases F4 hy with ⟨g,rfl⟩|⟨g,e⟩
 ·have hagg:(isAgg t).run P w= .ok true w:=by
   unfold isAgg;rw[dz,dL bM.und w];cases hk:i.kd<;>rw[hk] at g<;>first|rfl|cases g
  refine⟨.agg ((vs.drop off).take n).toArray,?_,.ag _ _ hcs⟩;simp[part,hagg,Go.sizeOf,typeInfo,i1,i2,←hn]
 ·rw[e] at hcs;cases hcs':(vs.drop off).take n with
  |nil=>rw[hcs'] at hcs;cases hcs
  |cons u us=>
   rw[hcs'] at hcs;cases hcs with
   |cons _ _ _ _ hu hus=>
    have hagg:(isAgg t).run P w= .ok false w:=by
     unfold isAgg;rw[dz,dL bM.und w];cases hk:i.kd<;>rw[hk] at g<;>first|rfl|cases g
    have hu0:vs[off]? =some u:=by
     have:((vs.drop off).take n)[0]? =some u:=by rw[hcs'];rfl
     rw[jZ] at this;split at this
     ·simpa using this
     ·cases this
    refine⟨u,?_,hu⟩;simp[part,hagg,hu0]
def Yu {f:Field} (bM:gT P f.type i) (X:Cx CR c h w ev ρ) {s:TypeId} {fs:Array Field} {k:Nat} (hs:P.underlying s=some (.struct fs)) (hf:fs[k]? =some f)
 {a:MA} {x:Operand} (ho:o.op= .field s x k) (ha:ax a x=true) {n:Nat} (hn:n=i.size) {agg:Bool} (hg:agg=i.kd.isRow):
 bD P CR c h w (step ev h (.fld a f.offset n agg)) ((execOp ρ o).run P w):=by
 show bD P CR c h w (match ev a with
  | .ag l=>match sub l f.offset n with|some c=>dr h (dB agg c)|none=> .bad
  |_=> .bad) _
 have hv:=X.hE _ _ ha;cases hx:ev a with
 |ag l=>
  rw[hx] at hv;generalize hr:ρ x=vx at hv;cases hv with
  |ag _ vs hvs=>
   dsimp only;cases hsub:sub l f.offset n with
   |none=>trivial
   |some cs=>
    dsimp only;unfold dr;cases hy:dB agg cs with
    |none=>trivial
    |some y=>
     rw[hg] at hy;obtain⟨v,h1,h2⟩:=uq (w:=w) bM hvs hsub hn hy;have e:(execOp ρ o).run P w= .ok (.value v) w:=by
      simp only[execOp,ho];refine fS ?_;rw[hr];simp[Instr.field,dL hs,hf,asAgg,h1]
     rw[e];exact cV.same X.rs h2
 |_=>trivial
def Yv {e:TypeId} (bM:gT P e i) (X:Cx CR c h w ev ρ) {t:TypeId} (ht:P.underlying t=some (.slice e)) {a b:MA} {x y:Operand} (ho:o.op= .indexAddr t x y) (ha:ax a x=true) (hb:ax b y=true) {es:Nat} (hes:es=i.size):
 bD P CR c h w (step ev h (.iadr es a b)) ((execOp ρ o).run P w):=by
 show bD P CR c h w (match nA ev b with
  |some k=>match ev a with
   | .sl o off n _ esz=>bif Nat.beq esz es&&Nat.ble (Nat.succ k) n then fN (off+k*esz) λa=> .v (.p o a) h else .bad
   | .ds l off n esz=>bif Nat.beq esz es&&Nat.ble (Nat.succ k) n then fN (off+k*esz) λa=> .v (.dp l a) h else .bad
   |_=> .bad
  |none=> .bad) _
 have hv:=X.hE _ _ ha;obtain⟨inf,zv,i1,i2,_⟩:=bM.info;cases hn:nA ev b with
 |none=>trivial
 |some k=>
  obtain⟨q,hk⟩:=th X hb hn;have key:∀(A:Addr) (n cap bl k0:Nat),ρ x= .slice (some A) n cap ->k<n ->A=⟨bl,k0,none⟩ ->(execOp ρ o).run P w= .ok (.value (.pointer (some ⟨bl,k0+k*es,none⟩))) w:=by
   intro A n cap bl k0 hr aV hA;subst hA;simp only[execOp,ho];refine fS ?_;rw[hr,hk];simp[Instr.indexAt,asIntOf,dL ht,Go.sizeOf,typeInfo,i1,i2,hes,aV,nE]
  dsimp only;cases hx:ev a with
  |sl o' off n cap esz=>
   rw[hx] at hv;generalize hr:ρ x=vx at hv;cases hv with
   |sl _ _ _ _ _ A cp q1 q2 q3 q4 q5=>
    dsimp only;cases hc:(Nat.beq esz es&&Nat.ble (Nat.succ k) n) with
    |false=>trivial
    |true=>
     simp only[aB,bu,dm,aU] at hc;obtain⟨rfl,aV⟩:=hc;simp only[fC,dT];rw[key A n cp _ _ hr aV (q4 ω)];refine cV.same X.rs ?_;have:(⟨(c.ρ o').1,(c.ρ o').2+off+k*esz,none⟩:Addr)=c.addr o' (off+k*esz):=by simp[CE.addr,pK]
     rw[this];exact .p _ _ q1
  |ds l off n esz=>
   rw[hx] at hv;generalize hr:ρ x=vx at hv;cases hv with
   |ds _ _ _ _ b1 b2 cp A row vs q1 q2 q3 q4 q5=>
    dsimp only;cases hc:(Nat.beq esz es&&Nat.ble (Nat.succ k) n) with
    |false=>trivial
    |true=>
     simp only[aB,bu,dm,aU] at hc;obtain⟨rfl,aV⟩:=hc;simp only[fC,dT];rw[key A n cp _ _ hr aV (q5 ω),pK];exact cV.same X.rs (.dp _ _ _ _ row vs q1 q2 q3)
  |_=>trivial
def Yw {e:TypeId} (bM:gT P e i) (X:Cx CR c h w ev ρ) {t:TypeId} {n:Nat} (ht:P.underlying t=some (.array n e)) {a b:MA} {x y:Operand} (ho:o.op= .indexAddr t x y) (ha:ax a x=true) (hb:ax b y=true) {es:Nat} (hes:es=i.size):
 bD P CR c h w (step ev h (.iadra n es a b)) ((execOp ρ o).run P w):=by
 show bD P CR c h w (match nA ev b with
  |some k=>bif Nat.ble (Nat.succ k) n then (match ev a with
   | .p o off=>fN (off+k*es) λa=> .v (.p o a) h
   | .dp l off=>fN (off+k*es) λa=> .v (.dp l a) h
   |_=> .bad) else .bad
  |none=> .bad) _
 have hv:=X.hE _ _ ha;obtain⟨inf,zv,i1,i2,_⟩:=bM.info;cases hn:nA ev b with
 |none=>trivial
 |some k=>
  obtain⟨q,hk⟩:=th X hb hn;dsimp only;cases hc:Nat.ble (Nat.succ k) n with
  |false=>trivial
  |true=>
   rw[dm] at hc;have aV:k<n:=qM hc;simp only[fC];have key:∀(bl k0:Nat),ρ x= .pointer (some ⟨bl,k0,none⟩) ->(execOp ρ o).run P w= .ok (.value (.pointer (some ⟨bl,k0+k*es,none⟩))) w:=by
    intro bl k0 hr;simp only[execOp,ho];refine fS ?_;rw[hr,hk];simp[Instr.indexAt,asIntOf,dL ht,Instr.sureAddr,Go.sizeOf,typeInfo,i1,i2,hes,aV,nE]
   cases hx:ev a with
   |p o' off=>
    rw[hx] at hv;generalize hr:ρ x=vx at hv;cases hv with
    |p _ _ q1=>
     simp only[dT];rw[key _ _ hr];refine cV.same X.rs ?_;have:(⟨(c.ρ o').1,(c.ρ o').2+off+k*es,none⟩:Addr)=c.addr o' (off+k*es):=by simp[CE.addr,pK]
     rw[this];exact .p _ _ q1
   |dp l off=>
    rw[hx] at hv;generalize hr:ρ x=vx at hv;cases hv with
    |dp _ _ b1 b2 row vs q1 q2 q3=>
     simp only[dT];rw[key _ _ hr,pK];exact cV.same X.rs (.dp _ _ _ _ row vs q1 q2 q3)
   |_=>trivial
def Yx (X:Cx CR c h w ev ρ) {t:TypeId} (ht:P.underlying t=some .string) {a b:MA} {x y:Operand} (ho:o.op= .index t x y) (ha:ax a x=true) (hb:ax b y=true):
 bD P CR c h w (step ev h (.idxs a b)) ((execOp ρ o).run P w):=by
 show bD P CR c h w (match nA ev b,ev a with
  |some k,.s l=>match lH l k with|some b=> .v (.i .u8 (.ofNat b)) h|none=> .bad
  |_,_=> .bad) _
 have hv:=X.hE _ _ ha;cases hn:nA ev b with
 |none=>trivial
 |some k=>
  obtain⟨q,hk⟩:=th X hb hn;cases hx:ev a with
  |s l=>
   rw[hx] at hv;obtain⟨bs,hr,hbs⟩:=hv.str_inv;dsimp only;rw[Cw];cases hl:l[k]? with
   |none=>trivial
   |some u=>
    dsimp only;have h1:∃u8,bs[k]? =some u8/\ u8.toNat=u:=by
     rw[←hbs,oh] at hl;cases hz:bs.data.toList[k]? with
     |none=>rw[hz] at hl;cases hl
     |some u8=>
      rw[hz] at hl;refine⟨u8,?_,by simpa using hl⟩;have aV:=(eC.1 hz).1;have:k<bs.size:=by simpa using aV
      rw[getElem?_pos bs k this];have e2:=(eC.1 hz).2;rw[←e2];rfl
    obtain⟨u8,h2,rfl⟩:=h1;have e:(execOp ρ o).run P w= .ok (.value (.int .u8 (u8.toNat:Int))) w:=by
     simp only[execOp,ho];refine fS ?_;rw[hr,hk];simp[Instr.index,asIntOf,dL ht,h2]
    rw[e];exact cV.same X.rs (.i _ _)
  |_=>trivial
def Yy {e:TypeId} (bM:gT P e i) (X:Cx CR c h w ev ρ) {t:TypeId} {n:Nat} (ht:P.underlying t=some (.array n e)) {a b:MA} {x y:Operand} (ho:o.op= .index t x y) (ha:ax a x=true) (hb:ax b y=true) {es:Nat} (hes:es=i.size) {agg:Bool} (hg:agg=i.kd.isRow):
 bD P CR c h w (step ev h (.idxa n es agg a b)) ((execOp ρ o).run P w):=by
 show bD P CR c h w (match nA ev b,ev a with
  |some k,.ag l=>bif Nat.ble (Nat.succ k) n then (match sub l (k*es) es with|some c=>dr h (dB agg c)|none=> .bad) else .bad
  |_,_=> .bad) _
 have hv:=X.hE _ _ ha;obtain⟨inf,zv,i1,i2,_⟩:=bM.info;cases hn:nA ev b with
 |none=>trivial
 |some k=>
  obtain⟨q,hk⟩:=th X hb hn;cases hx:ev a with
  |ag l=>
   rw[hx] at hv;generalize hr:ρ x=vx at hv;cases hv with
   |ag _ vs hvs=>
    dsimp only;cases hc:Nat.ble (Nat.succ k) n with
    |false=>trivial
    |true=>
     rw[dm] at hc;have aV:k<n:=qM hc;simp only[fC];cases hsub:sub l (k*es) es with
     |none=>trivial
     |some cs=>
      dsimp only;unfold dr;cases hy:dB agg cs with
      |none=>trivial
      |some z=>
       rw[hg] at hy;obtain⟨v,h1,h2⟩:=uq (w:=w) bM hvs hsub hes hy;have e:(execOp ρ o).run P w= .ok (.value v) w:=by
        simp only[execOp,ho];refine fS ?_;rw[hr,hk];rw[hes] at h1;simp[Instr.index,asIntOf,dL ht,Go.sizeOf,typeInfo,i1,i2,aV,h1]
       rw[e];exact cV.same X.rs h2
  |_=>trivial
end
end
end AM
