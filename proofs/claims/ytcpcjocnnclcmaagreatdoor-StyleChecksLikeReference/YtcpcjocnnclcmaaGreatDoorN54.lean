/- Proved: the law koinelaw27.StyleChecksLikeReference of the given program returns true, without a panic, for every input. Conditions: those of the given row and of its given card, no others. -/
import Derived.FnData
import Derived.OpenShut
import Derived.Test.YtcpcjocnnclcmaaGreatDoorCards
import Derived.WideKeyArgs
import Derived.Test.YtcpcjocnnclcmaaGreatDoorN31
import Derived.Test.YtcpcjocnnclcmaaGreatDoorN35
import Derived.Test.YtcpcjocnnclcmaaGreatDoorN36
import Derived.Test.YtcpcjocnnclcmaaGreatDoorN38
import Derived.Test.YtcpcjocnnclcmaaGreatDoorN40
import Derived.Test.YtcpcjocnnclcmaaGreatDoorN42
import Derived.Test.YtcpcjocnnclcmaaGreatDoorN43
import Derived.Test.YtcpcjocnnclcmaaGreatDoorN44
import Derived.Test.YtcpcjocnnclcmaaGreatDoorN45
import Derived.Test.YtcpcjocnnclcmaaGreatDoorN46
import Derived.Test.YtcpcjocnnclcmaaGreatDoorN47
import Derived.Test.YtcpcjocnnclcmaaGreatDoorN48
import Derived.Test.YtcpcjocnnclcmaaGreatDoorN49
import Derived.Test.YtcpcjocnnclcmaaGreatDoorN50
import Derived.Test.YtcpcjocnnclcmaaGreatDoorN51
import Derived.Test.YtcpcjocnnclcmaaGreatDoorN52
import Derived.Test.YtcpcjocnnclcmaaGreatDoorN53
set_option linter.all false
namespace AM
open Go Go.ChangeShapes Go.Proofs Go.Proofs.YtcpcjocnnclcmaaGreatDoor Go.RowKit
noncomputable section
section
variable {P:Program} {W:World} {c:CE} {H:Type} {enc:TypeId×Value ->H} {sp:Nat ->Bool} {hd:Bool}
def Qy {t e:TypeId} {k:IntKind} {ns:List Int} (ht:P.underlying t=some (.array ns.length e)) (he:P.underlying e=some (.int k)) (hc:P.cellsOf e=1) (hct:P.cellsOf t=ns.length)
 {n:Nat} {cs:List Value} {p:List MemPlace} (h:DataW.trod enc P W 0 sp hd n t cs=some (.agg (ns.map fun i=> .lit (.int k i)),p)):ed c (ns.map fun i=>AV.i k i) cs:=by
 obtain⟨xs,m,-,hx,hl,hn,hel⟩:=DataW.trod_array ht h;injection hx with hx1 hx2
 injection hx1 with hx1
 rw[hct] at hl;rw[hc] at hel;have e:cs=ns.map fun i=>Value.int k i:=by
  apply y6;intro i;by_cases hi:i<ns.length
  ·have h1:=hel i hi;have hxi:xs[i]? =some (xs[i]'ω):=ba _;rw[hxi] at h1;obtain⟨j,j1,j2,-⟩:=DataW.trod_int he h1;have h2:(xs.map (·.1))[i]? =(ns.map fun i=>DataW.lit (Lit.int k i))[i]? :=by rw[hx1]
   rw[lX,lX,hxi,ba hi,j2] at h2;have h3:(DataW.lit (Lit.int k j):DataW H)=DataW.lit (Lit.int k ns[i]):=Option.some.inj h2;injection h3 with h3
   injection h3 with _ h3
   rw[lX,ba hi,HR] at*;have hci:cs[i]? =some (Value.int k j):=by
    have:=congrArg (·[0]?) j1;simpa using this
   rw[hci,h3];rfl
  ·rw[sR ω,sR (by rw[j9];omega)]
 rw[e];clear e hel hx1 hl hn h ht hct;induction ns with
 |nil=>exact .nil
 |cons a l ih=>exact .cons _ _ _ _ (.i _ _) ih
end
def deB:List Int:=[0,1,56,2,57,49,28,3,61,58,42,50,38,29,17,4,62,47,59,36,45,43,51,22,53,39,33,30,24,18,12,5,63,55,48,27,60,41,37,16,46,35,44,21,52,32,23,11,54,26,40,15,34,20,31,10,25,14,19,9,13,8,7,6]
def Qz {H:Type}:(Rows.laid_math_bits_deBruijn64tab:DataW H)= .agg (deB.map fun i=> .lit (.int .u8 i)):=rfl
def co3:Tryz.prog.cellsOf 3=1:=by kernel_rfl
def YO:Tryz.prog.cellsOf 5=1:=by kernel_rfl
def ae1:Tryz.prog.cellsOf 22=1:=by kernel_rfl
def aA7:Tryz.prog.cellsOf 23=1:=by kernel_rfl
def aA8:Tryz.prog.cellsOf 24=1:=by kernel_rfl
def aA9:Tryz.prog.cellsOf 26=5:=by kernel_rfl
def ae2:Tryz.prog.cellsOf 54=4:=by kernel_rfl
def ae3:Tryz.prog.cellsOf 70=4:=by kernel_rfl
def ae4:Tryz.prog.cellsOf 73=5:=by kernel_rfl
def ae5:Tryz.prog.cellsOf 708=64:=by kernel_rfl
section
variable {W:World} {c:CE} {H:Type} {enc:TypeId×Value ->H} {sp:Nat ->Bool} {hd:Bool}
def ae6 {α:Type} {l:List α} (h:l.length=4):∃a b c d,l=[a,b,c,d]:=by
 match l,h with
 |[a,b,c,d],_=>exact⟨a,b,c,d,rfl⟩
def ae7 {α:Type} {l:List α} (h:l.length=5):∃a b c d e,l=[a,b,c,d,e]:=by
 match l,h with
 |[a,b,c,d,e],_=>exact⟨a,b,c,d,e,rfl⟩
def fk {a:AV} {v:Value} (h:ed c [a] [v]):VR c a v:=by cases h with|cons _ _ _ _ h _=>exact h
def yQ (him:∀b row,eC W b=some row ->c.im b=some row) {b0:Nat} {row0:Array Value} (h0:eC W b0=some row0) {n:Nat} {cs:List Value} {x:DataW H×List MemPlace} (h:DataW.trod enc Tryz.prog W 0 sp hd n 22 cs=some x):
 ∃(nl:Bool) (L:List Nat),(∀a∈L,a<256)/\ ed c [eR cB 1 nl L] cs:=
 uv him h0 Tryz.underlying22 YO ω (fun n cs x h=>qh Tryz.underlying5 h) h
def S6 (him:∀b row,eC W b=some row ->c.im b=some row) {b0:Nat} {row0:Array Value} (h0:eC W b0=some row0) {n:Nat} {cs:List Value} {x:DataW H×List MemPlace} (h:DataW.trod enc Tryz.prog W 0 sp hd n 70 cs=some x):
 ∃l:Qh,l.OK/\ ed c (Hv l) cs:=by
 obtain⟨hl,hf⟩:=uw Tryz.underlying70 h;rw[ae3] at hl;obtain⟨c0,c1,c2,c3,rfl⟩:=ae6 hl;obtain⟨_,_,g0⟩:=hf 0 _ rfl;obtain⟨_,_,g1⟩:=hf 1 _ rfl;obtain⟨_,_,g2⟩:=hf 2 _ rfl;obtain⟨_,_,g3⟩:=hf 3 _ rfl;simp only[YO,ae1] at g0 g1 g2 g3;obtain⟨l,l1,l2⟩:=qh (c:=c) Tryz.underlying5 g0;obtain⟨nl,bs,b1,b2⟩:=yQ him h0 g1;obtain⟨ii,i1,i2⟩:=qh (c:=c) Tryz.underlying5 g2;obtain⟨mk,m1,m2⟩:=qh (c:=c) Tryz.underlying5 g3;exact⟨⟨l,nl,bs,ii,mk⟩,⟨l1,b1,i1,m1⟩,.cons _ _ _ _ (fk l2) (.cons _ _ _ _ (fk b2) (.cons _ _ _ _ (fk i2) (.cons _ _ _ _ (fk m2) .nil)))⟩
def S7 {n:Nat} {cs:List Value} {x:DataW H×List MemPlace} (h:DataW.trod enc Tryz.prog W 0 sp hd n 73 cs=some x):∃l:Qi,l.OK/\ ed c (Hw l) cs:=by
 obtain⟨hl,hf⟩:=uw Tryz.underlying73 h;rw[ae4] at hl;obtain⟨c0,c1,c2,c3,c4,rfl⟩:=ae7 hl;obtain⟨_,_,g0⟩:=hf 0 _ rfl;obtain⟨_,_,g1⟩:=hf 1 _ rfl;obtain⟨_,_,g2⟩:=hf 2 _ rfl;obtain⟨_,_,g3⟩:=hf 3 _ rfl;obtain⟨_,_,g4⟩:=hf 4 _ rfl;simp only[YO] at g0 g1 g2 g3 g4;obtain⟨k,k1,k2⟩:=qh (c:=c) Tryz.underlying5 g0;obtain⟨a,a1,a2⟩:=qh (c:=c) Tryz.underlying5 g1;obtain⟨b,b1,b2⟩:=qh (c:=c) Tryz.underlying5 g2;obtain⟨cc,c1',c2'⟩:=qh (c:=c) Tryz.underlying5 g3;obtain⟨ii,i1,i2⟩:=qh (c:=c) Tryz.underlying5 g4;exact⟨⟨k,a,b,cc,ii⟩,⟨k1,a1,b1,c1',i1⟩,.cons _ _ _ _ (fk k2) (.cons _ _ _ _ (fk a2) (.cons _ _ _ _ (fk b2) (.cons _ _ _ _ (fk c2') (.cons _ _ _ _ (fk i2) .nil))))⟩
def ae8 {n:Nat} {cs:List Value} {x:DataW H×List MemPlace} (h:DataW.trod enc Tryz.prog W 0 sp hd n 54 cs=some x):∃l:Ru,True/\ ed c (dW l) cs:=by
 obtain⟨hl,hf⟩:=uw Tryz.underlying54 h;rw[ae2] at hl;obtain⟨c0,c1,c2,c3,rfl⟩:=ae6 hl;obtain⟨_,_,g0⟩:=hf 0 _ rfl;obtain⟨_,_,g1⟩:=hf 1 _ rfl;obtain⟨_,_,g2⟩:=hf 2 _ rfl;obtain⟨_,_,g3⟩:=hf 3 _ rfl;simp only[co3] at g0 g1 g2 g3;obtain⟨k,k2⟩:=CH (c:=c) Tryz.underlying3 g0;obtain⟨a,a2⟩:=CH (c:=c) Tryz.underlying3 g1;obtain⟨b,b2⟩:=CH (c:=c) Tryz.underlying3 g2;obtain⟨cc,c2'⟩:=CH (c:=c) Tryz.underlying3 g3;exact⟨⟨k,a,b,cc⟩,trivial,.cons _ _ _ _ (fk k2) (.cons _ _ _ _ (fk a2) (.cons _ _ _ _ (fk b2) (.cons _ _ _ _ (fk c2') .nil)))⟩
def Xy (him:∀b row,eC W b=some row ->c.im b=some row) {b0:Nat} {row0:Array Value} (h0:eC W b0=some row0) {n:Nat} {cs:List Value} {x:DataW H×List MemPlace} (h:DataW.trod enc Tryz.prog W 0 sp hd n 27 cs=some x):
 ∃(nl:Bool) (L:List Ru),(∀a∈L,True)/\ ed c [eR dW 4 nl L] cs:=
 uv him h0 Tryz.underlying27 ae2 ω (fun n cs x h=>ae8 h) h
def Xz (him:∀b row,eC W b=some row ->c.im b=some row) {b0:Nat} {row0:Array Value} (h0:eC W b0=some row0) {n:Nat} {cs:List Value} {x:DataW H×List MemPlace} (h:DataW.trod enc Tryz.prog W 0 sp hd n 26 cs=some x):
 ∃r:gx,r.OK/\ ed c (jK r) cs:=by
 obtain⟨hl,hf⟩:=uw Tryz.underlying26 h;rw[aA9] at hl;obtain⟨c0,c1,c2,c3,c4,rfl⟩:=ae7 hl;obtain⟨_,_,g0⟩:=hf 0 _ rfl;obtain⟨_,_,g1⟩:=hf 1 _ rfl;obtain⟨_,_,g2⟩:=hf 2 _ rfl;obtain⟨_,_,g3⟩:=hf 3 _ rfl;obtain⟨_,_,g4⟩:=hf 4 _ rfl;simp only[YO,ae1,aA7,aA8] at g0 g1 g2 g3 g4;obtain⟨b,b1,b2⟩:=qh (c:=c) Tryz.underlying5 g0;obtain⟨m,m1,m2⟩:=qh (c:=c) Tryz.underlying5 g1;obtain⟨fl,f,f1,f2⟩:=yQ him h0 g2;obtain⟨ll,l,l1,l2⟩:=uv (en:=Hv) (OK:=Qh.OK) him h0 Tryz.underlying23 ae3 ω (fun n cs x h=>S6 him h0 h) g3;obtain⟨rl,r,r1,r2⟩:=uv (en:=Hw) (OK:=Qi.OK) him h0 Tryz.underlying24 ae4 ω (fun n cs x h=>S7 h) g4;exact⟨⟨b,m,fl,f,ll,l,rl,r⟩,⟨b1,m1,f1,l1,r1⟩,.cons _ _ _ _ (fk b2) (.cons _ _ _ _ (fk m2) (.cons _ _ _ _ (fk f2) (.cons _ _ _ _ (fk l2) (.cons _ _ _ _ (fk r2) .nil))))⟩
def EX {P:Program} {r:Reach} {base:Nat} {t e:TypeId} {v:Value} (ht:P.underlying t=some (.slice e)) (h:Value.okWide P W r base t v):v.cells.toList=[v]:=by
 unfold Value.okWide at h;rw[ht] at h;unfold Cell.okWide at h;rw[ht] at h;unfold Cell.ok at h;rw[ht] at h;cases v<;>first|rfl|exact h.elim
end
def laidL:List (String×DataW Unit):=Rows.styleChecksLikeReferenceRow.laid
def EY (W:World) (G:T (List AV)):CE:={ dom:=fun _=>False,ρ:=fun _=>(0,0),sz:=fun _=>0,im:=eC W,gl:=G.get }
def HJ:List AV:=deB.map fun i=>AV.i .u8 i
def gDB:Tryz.prog.globalNamed "math/bits.deBruijn64tab" =some 1:=by kernel_rfl
def tDB:(Tryz.prog.globals[1]?).map (·.type)=some 708:=by kernel_rfl
def aB0:26<Tryz.prog.types.size:=by rw[Tryz.types_size];decide
def aB1:27<Tryz.prog.types.size:=by rw[Tryz.types_size];decide
def aB2:22<Tryz.prog.types.size:=by rw[Tryz.types_size];decide
def hnm:(laidL.all fun x=>x.2.handleName?.isNone)=true:=by kernel_rfl
def Jp {W:World} (h:laidMetH Tryz.prog laidL W) (c:CE):∃row,eC W 1=some row/\ ed c HJ row.toList:=by
 rw[MakeChecks.laidMetH_plain _ _ _ hnm] at h;obtain⟨ps,⟨g0,t0,cs0,f0,p0,q0,hg0,ht0,hv0,hd0,_⟩,_⟩:=h;obtain rfl:=Option.some.inj (gDB.symm.trans hg0);obtain rfl:=Option.some.inj (tDB.symm.trans ht0);refine⟨cs0,?_,?_⟩
 ·unfold World.var? at hv0;rw[gDB] at hv0;simp only[Option.bind_some] at hv0;unfold eC;split at hv0
  ·rename_i e;rw[e];exact hv0
  ·cases hv0
 ·rw[Qz] at hd0;exact Qy (ns:=deB) Tryz.underlying708 Tryz.underlying5 YO ae5 hd0
section
variable {X:dy} {GL:T (List AV)} {fns:T aR}
def QA {W:World} (hGL:∀g l,GL.get g=some l ->g=1/\ l=HJ) (hg:∃row,eC W 1=some row/\ ed (EY W GL) HJ row.toList):RS (iY X) (EY W GL) h0 W where
 nx:=fun o h=>h.elim
 lt:=fun o ob h=>by rw[F1] at h;cases h
 obj:=fun o ob h=>h.dom.elim
 inj:=fun o o' a b h=>h.dom.elim
 im:=fun b row hb=>oI hb
 dj:=fun o ob h=>h.dom.elim
 gl:=fun g l h=>by
  obtain⟨rfl,rfl⟩:=hGL g l h;obtain⟨row,r1,r2⟩:=hg;exact⟨row,row.toList,r1,fun i v hi=>by rw[fL,←wY];exact hi,r2⟩
def S8 {W w':World} (hs:∀b,b<W.heap.size ->w'.heap[b]? =W.heap[b]?) {p:MemPlace} (hp:p.block<W.heap.size):W.sameAt w' p:=by
 cases p with
 |cell b off=>
  show w'.cell? ⟨b,off,none⟩=W.cell? ⟨b,off,none⟩;unfold World.cell?;rw[hs b hp]
 |map b=>exact hs b hp
def S9 {W w':World} (hio:w'.os=W.os/\ w'.output=W.output) (hs:∀b,b<W.heap.size ->w'.heap[b]? =W.heap[b]?) (may:MemPlace ->Prop):W.keptBut w' may:=by
 refine⟨hio.1,hio.2,fun i hi=> ?_⟩;rw[hs i hi];cases W.heap[i]? with
 |none=>rfl
 |some o=>cases o<;>first|exact⟨rfl,rfl,rfl,fun _ _=>rfl⟩|exact .inr ⟨rfl,rfl⟩|rfl
set_option maxRecDepth 100000 in
def QB (S:aw Tryz.prog X GL fns) (hGL:∀g l,GL.get g=some l ->g=1/\ l=HJ)
 (law:∀{x:gx},x.OK ->∀{ls:List Ru} {lnl:Bool} {ms:List Nat} {mnl:Bool},(∀b∈ms,b<256) ->aZ Tryz.prog X GL fns 3 [sP x,eR dW 4 lnl ls,eR cB 1 mnl ms] (.b true))
 {H:Type} {enc:TypeId×Value ->H} (W:World) (base:Nat) (args:Array Value) (ds gs:List (DataW H)) (before:List MemPlace)
 (hval:∀(j:Nat) t v,Tryz.f3.params[j]? =some t ->args[j]? =some v ->Value.okWide Tryz.prog W .any base t v)
 (hW:DataW.Whole enc Tryz.prog Tryz.f3.params.toList Rows.styleChecksLikeReferenceSpec.vars false W args.toList ds gs before)
 (hL:laidMetH Tryz.prog laidL W):Calls Tryz.prog 3 args W fun e W'=>∃v,e= .returned v/\ Rows.styleChecksLikeReferenceSpec.post enc Tryz.prog Tryz.f3 false true false false W args v W':=by
 have hW':=hW;obtain⟨p,q,hA0,hV,rfl,hfz,hnd⟩:=hW;have hA:DataW.TrodAll enc Tryz.prog W 0 (fun _=>true) true Tryz.f3.params.toList args.toList ds p:=hA0;rw[Tryz.params3] at hA hval;obtain⟨v0,v1,v2,d0,d1,d2,p0,p1,p2,rfl,rfl,rfl,t0,t1,t2⟩:=trodAll_three hA;obtain⟨rfl,rfl⟩:=trodVars_none hV;have hb:=Jp hL (EY W GL);obtain⟨row,hr,-⟩:=hb;have him:∀b row,eC W b=some row ->(EY W GL).im b=some row:=fun _ _ h=>h
 have hlt:=fun p hp=>hW'.lt p hp
 have ok0:=hval 0 26 v0 rfl rfl;have ok1:=hval 1 27 v1 rfl rfl;have ok2:=hval 2 22 v2 rfl rfl;obtain⟨cs0,rfl⟩:∃cs,v0= .agg cs:=by
  unfold Value.okWide at ok0;rw[Tryz.underlying26] at ok0;obtain⟨cs,e,-⟩:=ok0;exact⟨cs,e⟩
 obtain⟨f0,t0'⟩:=id t0;obtain⟨f1,t1'⟩:=id t1;obtain⟨f2,t2'⟩:=id t2;rw[EX Tryz.underlying27 ok1] at t1';rw[EX Tryz.underlying22 ok2] at t2';obtain⟨x,okx,hx⟩:=Xz (c:=EY W GL) him hr t0';obtain⟨lnl,ls,-,hl⟩:=Xy (c:=EY W GL) him hr t1';obtain⟨mnl,ms,hm,hms⟩:=yQ (c:=EY W GL) him hr t2';have e0:Value.agg cs0=Value.agg cs0.toList.toArray:=by rw[Array.toArray_toList]
 have hargs:ed (EY W GL) [sP x,eR dW 4 lnl ls,eR cB 1 mnl ms] [.agg cs0,v1,v2]:=by
  rw[e0];exact .cons _ _ _ _ (.ag _ _ hx) (.cons _ _ _ _ (fk hl) (.cons _ _ _ _ (fk hms) .nil))
 refine Hy S (law okx hm) (QA hGL (Jp hL _)) (fun g l h=>h) hargs fun v' w' y h1 c1 n hd hev hvr=> ?_
 obtain rfl:=Hz hd;obtain rfl:v'= .bool true:=by cases hvr;rfl
 have hs:∀b,b<W.heap.size ->w'.heap[b]? =W.heap[b]? :=fun b hb=>hev.keep.same b hb fun o ob hh=>hh.dom.elim
 have st:∀{t:TypeId} {v:Value} {d:DataW H} {ps:List MemPlace},Tryz.prog.readableRec t=true ->t<Tryz.prog.types.size ->(∀p∈ps,p.block<W.heap.size) ->DataW.Trod enc Tryz.prog W 0 (fun _=>true) true t v d ps ->DataW.Trod enc Tryz.prog w' 0 (fun b=>decide (b<W.heap.size)) true t v d ps:=
  fun hr ht hp h=>WideElems.Trod_stays fa1 hr ht h (fun p h=>S8 hs (hp p h)) (fun p h=>by simpa using hp p h)
 refine⟨[d0,d1,d2],[],_,[],p0++p1++p2,[],hW',?_,?_,rfl,S9 hev.keep.io hs _,fun h=>by cases h⟩
 ·rw[EW];exact trodAll_mk1 (shut_bool Tryz.underlying4 true)
 ·rw[Tryz.params3];exact⟨p0,p1++p2,st ad2 aB0 (fun p hp=>hlt p (by simp[hp])) t0,⟨p1,p2,st ad3 aB1 (fun p hp=>hlt p (by simp[hp])) t1,⟨p2,[],st ad4 aB2 (fun p hp=>hlt p (by simp[hp])) t2,rfl,by simp⟩,rfl⟩,by simp⟩
end
end
end AM
namespace AM.V
open Go Go.Proofs
noncomputable section
def aG1:oJ.flatL 0 Jx=true:=by kernel_rfl
def QP:∀g l,b8.get g=some l ->oJ.flatL 0 l=true:=by
 intro g l h;have h':(T.e.put 1 Jx).get g=some l:=h;rw[T.get_put] at h';split at h'
 ·cases h';exact aG1
 ·cases h'
def YP:aw Tryz.prog pX b8 bX:=XE QP
def oi (l:List FE):Prop:=∀x∈l,rJ Tryz.prog pX b8 bX x.f x.e
def iA:oi []:=fun x h=>by cases h
def ae {f:Nat} {e:cD} {l:List FE} (h:rJ Tryz.prog pX b8 bX f e) (t:oi l):oi (⟨f,e⟩::l):=fun x hx=>by
 rcases bY.1 hx with rfl|hx
 ·exact h
 ·exact t x hx
def i9 {l m:List FE} (h:oi l) (t:oi m):oi (l++m):=fun x hx=>by
 rcases eV.1 hx with hx|hx
 ·exact h x hx
 ·exact t x hx
def yZ:∀{l:List FE},oi l ->Jr Tryz.prog pX b8 bX (aG l)
 |[],_=>fun f l h=>by cases h
 |x::l,ha=>by
  have ih:=yZ (l:=l) fun y hy=>ha y (gZ _ hy)
  intro f es h e he;have h':((aG l).put x.f (x.e::Option.rec (motive:=fun _=>List cD) [] (fun l=>l) ((aG l).get x.f))).get f=some es:=h;rw[T.get_put] at h';split at h'
  ·rename_i q;subst q;cases h';rcases bY.1 he with rfl|he
   ·exact ha x ij
   ·cases hg:(aG l).get x.f with
    |none=>rw[hg] at he;cases he
    |some es=>rw[hg] at he;exact ih x.f es hg e he
  ·exact ih f es h' e he
section
variable {P:Program} {X:dy} {GL:T (List AV)} {fns:T aR} {bi:Nat ->List AV ->AH ->Option (AV×AH)} {tb:T (List cD)}
def ap7 (S:aw P X GL fns) (hb:Jq P X GL bi) (ht:Jr P X GL fns tb) {n f:Nat} {e:cD} (r:au GL fns bi tb n f e []=true):rJ P X GL fns f e:=
 QE S (fun _ _ h=>h) hb ht (c:= .leaf) (by rw[←yX];exact r)
def ap8 (S:aw P X GL fns) (hb:Jq P X GL bi) (ht:Jr P X GL fns tb) {n f:Nat} {e:cD} (r:au GL fns bi tb n f e [true]=true) (q:au GL fns bi tb n f e [false]=true):rJ P X GL fns f e:=
 QE S (fun _ _ h=>h) hb ht (c:= .node .leaf .leaf) (by rw[←yX];exact⟨r,q⟩)
end
set_option maxRecDepth 1000000 in
def aY {l:List FE} (ha:oi l) {n f:Nat} {e:cD} (r:au b8 bX cY (aG l) n f e []=true):rJ Tryz.prog pX b8 bX f e:=ap7 YP QL (yZ ha) r
set_option maxRecDepth 1000000 in
def QQ {l:List FE} (ha:oi l) {n f:Nat} {e:cD} (r:au b8 bX cY (aG l) n f e [true]=true) (q:au b8 bX cY (aG l) n f e [false]=true):rJ Tryz.prog pX b8 bX f e:=ap8 YP QL (yZ ha) r q
def a0:oi L0:=iA
def a1:oi L1:=i9 (ae (aY a0 r0) (ae (aY a0 r2) (ae (aY a0 r3) (ae (aY a0 r5) (ae (aY a0 r6) (ae (aY a0 r8) (ae (aY a0 r9) (ae (aY a0 r12) (ae (aY a0 r20) (ae (aY a0 r21) (ae (aY a0 r24) (ae (aY a0 r36) (ae (aY a0 r40) (ae (aY a0 r48) (ae (aY a0 r57) (ae (aY a0 r62) (ae (aY a0 r69) (ae (aY a0 r78) (ae (aY a0 r86) (ae (aY a0 r90) (ae (aY a0 r99) (ae (aY a0 aG0) (ae (aY a0 aF9) (ae (aY a0 aC8) (ae (aY a0 aD5) (ae (aY a0 aD4) iA)))))))))))))))))))))))))) a0
def a2:oi L2:=i9 (ae (aY a1 r1) (ae (aY a1 r4) (ae (aY a1 r7) (ae (aY a1 r13) (ae (aY a1 r25) (ae (aY a1 r58) (ae (aY a1 r79) (ae (aY a1 r82) (ae (aY a1 aB8) (ae (aY a1 aE9) iA)))))))))) a1
def a3:oi L3:=i9 (ae (aY a2 r10) (ae (aY a2 r11) (ae (aY a2 r14) (ae (aY a2 r26) (ae (aY a2 r29) (ae (aY a2 r33) (ae (aY a2 r35) (ae (aY a2 r38) (ae (aY a2 r39) (ae (aY a2 r41) (ae (aY a2 r44) (ae (aY a2 r59) (ae (aY a2 r61) (ae (aY a2 r66) (ae (aY a2 r80) (ae (aY a2 r83) (ae (aY a2 r85) (ae (aY a2 aE0) (ae (aY a2 aF7) (ae (aY a2 aD9) (ae (aY a2 aF0) (ae (aY a2 aD6) (ae (aY a2 aF8) iA))))))))))))))))))))))) a2
def a4:oi L4:=i9 (ae (aY a3 r15) (ae (aY a3 r16) (ae (aY a3 r28) (ae (aY a3 r30) (ae (aY a3 r34) (ae (aY a3 r46) iA)))))) a3
def a5:oi L5:=i9 (ae (aY a4 r17) (ae (aY a4 r18) (ae (aY a4 r22) (ae (aY a4 r27) (ae (aY a4 r31) (ae (aY a4 r37) (ae (aY a4 r45) (ae (aY a4 r49) (ae (aY a4 r50) (ae (aY a4 r51) (ae (aY a4 r60) (ae (aY a4 r63) (ae (aY a4 r67) (ae (aY a4 r70) (ae (aY a4 r71) (ae (aY a4 r72) (ae (aY a4 r84) (ae (aY a4 r87) (ae (aY a4 r91) (ae (aY a4 r92) (ae (aY a4 r93) (ae (aY a4 aD7) (ae (aY a4 aF1) (ae (aY a4 aC2) (ae (aY a4 aC0) (ae (aY a4 aE8) (ae (aY a4 aD0) (ae (aY a4 aE7) (ae (aY a4 aE1) (ae (aY a4 aF4) (ae (aY a4 aC6) (ae (aY a4 aD8) (ae (aY a4 aD3) iA))))))))))))))))))))))))))))))))) a4
def a6:oi L6:=i9 (ae (aY a5 r19) (ae (aY a5 r23) (ae (aY a5 r32) (ae (QQ a5 aF2 aB7) (ae (aY a5 r47) (ae (aY a5 r56) (ae (QQ a5 aF6 aB9) (ae (aY a5 r68) (ae (aY a5 r77) (ae (QQ a5 aF3 aC5) (ae (aY a5 r98) (ae (QQ a5 ap6 ao8) (ae (aY a5 aC1) (ae (aY a5 aE2) (ae (QQ a5 ap5 ao9) (ae (aY a5 aC7) iA)))))))))))))))) a5
def a7:oi L7:=i9 (ae (aY a6 r43) (ae (aY a6 r52) (ae (aY a6 r65) (ae (aY a6 r73) (ae (aY a6 r89) (ae (aY a6 r94) (ae (aY a6 aE5) (ae (aY a6 aC3) (ae (aY a6 aE6) (ae (aY a6 aF5) iA)))))))))) a6
def a8:oi L8:=i9 (ae (aY a7 r53) (ae (aY a7 r74) (ae (aY a7 r95) (ae (aY a7 aE3) (ae (aY a7 aD1) iA))))) a7
def a9:oi L9:=i9 (ae (aY a8 r54) (ae (aY a8 r75) (ae (aY a8 r96) (ae (aY a8 aC9) (ae (aY a8 aD2) iA))))) a8
def a10:oi L10:=i9 (ae (aY a9 r55) (ae (aY a9 r76) (ae (aY a9 r81) (ae (aY a9 r97) (ae (aY a9 aE4) (ae (aY a9 aC4) iA)))))) a9
def Ld:aZ Tryz.prog pX b8 bX 4 [] (.b true):=(aY a10 rS).1
end
end AM.V
namespace AM
open Dg Go Go.Proofs
noncomputable section
def ap9:V.b8=SE:=by kernel_rfl
def aG2:bh Tryz.prog pX V.b8:=WT V.YP Vh
def kn0:fA V.b8 bX (fun _ _=>none) 100000 12 [.i .u8 (0:Nat)] (b9 (zo 0))=true:=by kernel_rfl
def kn1:fA V.b8 bX (fun _ _=>none) 100000 12 [.i .u8 (1:Nat)] (b9 (zo 1))=true:=by kernel_rfl
def kn2:fA V.b8 bX (fun _ _=>none) 100000 12 [.i .u8 (2:Nat)] (b9 (zo 2))=true:=by kernel_rfl
def kn3:fA V.b8 bX (fun _ _=>none) 100000 12 [.i .u8 (3:Nat)] (b9 (zo 3))=true:=by kernel_rfl
def kn4:fA V.b8 bX (fun _ _=>none) 100000 12 [.i .u8 (4:Nat)] (b9 (zo 4))=true:=by kernel_rfl
def kn5:fA V.b8 bX (fun _ _=>none) 100000 12 [.i .u8 (5:Nat)] (b9 (zo 5))=true:=by kernel_rfl
def kn6:fA V.b8 bX (fun _ _=>none) 100000 12 [.i .u8 (6:Nat)] (b9 (zo 0))=true:=by kernel_rfl
def kn7:fA V.b8 bX (fun _ _=>none) 100000 12 [.i .u8 (7:Nat)] (b9 (zo 1))=true:=by kernel_rfl
def br0:fA V.b8 bX (fun _ _=>none) 100000 13 [.ds [.s [83],.s [80],.s [81]] 0 1 1] (b9 (ES 0))=true:=by kernel_rfl
def br1:fA V.b8 bX (fun _ _=>none) 100000 13 [.ds [.s [83],.s [80],.s [81]] 0 2 1] (b9 (ES 1))=true:=by kernel_rfl
def br2:fA V.b8 bX (fun _ _=>none) 100000 13 [.ds [.s [83],.s [80],.s [81]] 0 3 1] (b9 (ES 2))=true:=by kernel_rfl
def knB:JD Tryz.prog pX V.b8 bX where
 kn:=fun k hk=>by
  rcases(show k=0∨k=1∨k=2∨k=3∨k=4∨k=5∨k=6∨k=7 by omega) with rfl|rfl|rfl|rfl|rfl|rfl|rfl|rfl
  ·exact dH (fun _ _ h=>h) cJ kn0
  ·exact dH (fun _ _ h=>h) cJ kn1
  ·exact dH (fun _ _ h=>h) cJ kn2
  ·exact dH (fun _ _ h=>h) cJ kn3
  ·exact dH (fun _ _ h=>h) cJ kn4
  ·exact dH (fun _ _ h=>h) cJ kn5
  ·exact dH (fun _ _ h=>h) cJ kn6
  ·exact dH (fun _ _ h=>h) cJ kn7
 bare:=fun n hn=>by
  rcases(show n=0∨n=1∨n=2 by omega) with rfl|rfl|rfl
  ·exact dH (fun _ _ h=>h) cJ br0
  ·exact dH (fun _ _ h=>h) cJ br1
  ·exact dH (fun _ _ h=>h) cJ br2
def QR {x:gx} (ok:x.OK) {ls:List Ru} {lnl:Bool} {ms:List Nat} {mnl:Bool} (hb:∀b∈ms,b<256):aZ Tryz.prog pX V.b8 bX 3 [sP x,eR dW 4 lnl ls,eR cB 1 mnl ms] (.b true):=
 Qq V.YP af4 aG2 Vh af0 af1 ae9 af2 af3 af5 ap9 knB V.Ld ok hb
end
end AM
namespace AM
open Go Go.Proofs Go.Proofs.YtcpcjocnnclcmaaGreatDoor
def met (os:Os):laidMetH Tryz.prog laidL (wWi os).memory:=by
 rw[MakeChecks.laidMetH_plain _ _ _ hnm];exact wi6 os
section
variable {X:dy} {GL:T (List AV)} {fns:T aR}
set_option maxRecDepth 100000 in
def lifted (S:aw Tryz.prog X GL fns) (hGL:∀g l,GL.get g=some l ->g=1/\ l=HJ)
 (law:∀{x:gx},x.OK ->∀{ls:List Ru} {lnl:Bool} {ms:List Nat} {mnl:Bool},(∀b∈ms,b<256) ->aZ Tryz.prog X GL fns 3 [sP x,eR dW 4 lnl ls,eR cB 1 mnl ms] (.b true))
 (os:Os) (started:os.Started) (H:Type) (enc:TypeId×Value ->H):
 ReturnsInHanded {} Tryz.checked os 3 .any (fun w args=>(Rows.styleChecksLikeReferenceSpec.pre enc Tryz.prog Tryz.f3 [] false w args/\ laidMetH Tryz.prog laidL w)/\ sizedMet enc Tryz.prog Tryz.f3 (OpenSpec.ofChange Rows.styleChecksLikeReferenceSpec) false w args)
  (Rows.styleChecksLikeReferenceSpec.post enc Tryz.prog Tryz.f3 false true false false):=by
 refine returnsInHanded_of_change_and (C:=Tryz.checked) (X:=fun w _=>laidMetH Tryz.prog laidL w) (fun _ _ _ hh h=>h.of_heap hh) cf9 started aG3 Tryz.func3
  (ChangeSpec.witness_shaped (enc:=enc) (C:=Tryz.checked) (os:=os) (X:=fun w _=>laidMetH Tryz.prog laidL w) false (World.laidAll Tryz.prog os laidL) wA 8 (World.laidAll_os _ _ _) (wi1 os) (wi3 os) (wi4 os enc) (wi5 os enc) (met os)) ?_
 intro W base args ds gs before hval hW _ _ hL _;exact QB S hGL law W base args ds gs before hval hW hL
set_option maxRecDepth 100000 in
def Yf (S:aw Tryz.prog X GL fns) (hGL:∀g l,GL.get g=some l ->g=1/\ l=HJ)
 (law:∀{x:gx},x.OK ->∀{ls:List Ru} {lnl:Bool} {ms:List Nat} {mnl:Bool},(∀b∈ms,b<256) ->aZ Tryz.prog X GL fns 3 [sP x,eR dW 4 lnl ls,eR cB 1 mnl ms] (.b true)):Rows.StyleChecksLikeReferenceSaid:=
 OpenClaim.holds_of_wide 3 Tryz.f3 rfl rfl rfl rfl rfl rfl rfl ⟨rfl,rfl,rfl,rfl,rfl⟩ rfl rfl rfl rfl rfl cf7 Tryz.func3 Xx aG4 aG5
  (fun os started H enc _=>lifted S hGL law os started H enc)
end
def aq1:Tryz.pinned.checked.prog.listedFits Rows.styleChecksLikeReferenceRow.laid=true:=by
 unfold Program.listedFits;rw[Ye,aG6];rfl
def tie:Tryz.prog.laidByTextLater Le [.data,.data,.data,.data] true:=
 Program.laidByTextLater_by_run 400 8 ti1 ti2 ti3 ti4 ti5 ti6 ti7 ti8 ti9
def To:Rows.styleChecksLikeReferenceRow.laidByTextAt .later Tryz.pinned [.data,.pinned,.data,.data,.data] true:=
 OpenClaim.laidByTextAt_pinned rfl rfl tie rfl rfl rfl rfl (fun y hy _e=>by
  simp only[Rows.styleChecksLikeReferenceRow,List.zip_cons_cons,List.zip_nil_right,bY,List.mem_nil_iff,or_false] at hy;rcases hy with rfl|rfl|rfl|rfl|rfl
  ·cases _e
  ·exact⟨Yd,by kernel_rfl⟩
  ·cases _e
  ·cases _e
  ·cases _e) aq1
def Tp (h:Rows.StyleChecksLikeReferenceSaid):Rows.StyleChecksLikeReferenceCardSaid:=
 Claim7.holds_tied_plain_at .later [] [.data,.pinned,.data,.data,.data] true (true, "ab3654f7ebc4861af1819c46600f9810cdbb15afda3d487277c27623d76635e6") true
  h (fun _ h=>by cases h) cf1 (fun _ h=>by cases h) To rfl ⟨rfl,rfl⟩ cf2 rfl
  (fun f fn hf hfn=>by
   obtain rfl:f=3:=Option.some.inj (cf7.symm.trans hf)|>.symm;obtain rfl:fn=Tryz.f3:=(Option.some.inj (Tryz.func3.symm.trans hfn)).symm;exact⟨cf3.symm,fun j t ht=>by
    rw[Tryz.params3] at ht;have hm:t∈[26,27,22]:=by simpa using Array.mem_of_getElem? ht
    exact(show Tryz.prog.wantsStandIn t=false by simpa using fK.1 cf4 t hm)⟩)
  cf5
def Yg:∀g l,V.b8.get g=some l ->g=1/\ l=HJ:=fun g l h=>by
 have h':(T.e.put 1 V.Jx).get g=some l:=h;rw[T.get_put] at h';split at h'
 ·rename_i e;cases h';exact⟨e,rfl⟩
 ·cases h'
def styleChecks_card:Rows.StyleChecksLikeReferenceCardSaid:=Tp (Yf V.YP Yg QR)
end AM
namespace Go.Proofs.YtcpcjocnnclcmaaGreatDoor
/-- The given statement. -/
theorem styleChecks_holds : Rows.StyleChecksLikeReferenceCardSaid := AM.styleChecks_card
end Go.Proofs.YtcpcjocnnclcmaaGreatDoor
