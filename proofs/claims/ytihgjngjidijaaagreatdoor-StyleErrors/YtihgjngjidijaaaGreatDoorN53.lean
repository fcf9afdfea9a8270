/- Proved: the law koinelaw27.StyleErrors of the given program returns true, without a panic, for every input. Conditions: those of the given row and of its given card, no others. -/
import Derived.FnData
import Derived.OpenShut
import Derived.Test.YtihgjngjidijaaaGreatDoorCards
import Derived.WideKeyArgs
import Derived.Test.YtihgjngjidijaaaGreatDoorN30
import Derived.Test.YtihgjngjidijaaaGreatDoorN34
import Derived.Test.YtihgjngjidijaaaGreatDoorN35
import Derived.Test.YtihgjngjidijaaaGreatDoorN36
import Derived.Test.YtihgjngjidijaaaGreatDoorN37
import Derived.Test.YtihgjngjidijaaaGreatDoorN39
import Derived.Test.YtihgjngjidijaaaGreatDoorN41
import Derived.Test.YtihgjngjidijaaaGreatDoorN42
import Derived.Test.YtihgjngjidijaaaGreatDoorN43
import Derived.Test.YtihgjngjidijaaaGreatDoorN44
import Derived.Test.YtihgjngjidijaaaGreatDoorN45
import Derived.Test.YtihgjngjidijaaaGreatDoorN46
import Derived.Test.YtihgjngjidijaaaGreatDoorN47
import Derived.Test.YtihgjngjidijaaaGreatDoorN48
import Derived.Test.YtihgjngjidijaaaGreatDoorN49
import Derived.Test.YtihgjngjidijaaaGreatDoorN50
import Derived.Test.YtihgjngjidijaaaGreatDoorN51
import Derived.Test.YtihgjngjidijaaaGreatDoorN52
set_option linter.all false
set_option maxRecDepth 1000000
namespace AM
open Go Go.ChangeShapes Go.Proofs Go.Proofs.YtihgjngjidijaaaGreatDoor Go.RowKit
noncomputable section
section
variable {P:Program} {W:World} {c:CE} {H:Type} {enc:TypeId×Value ->H} {sp:Nat ->Bool} {hd:Bool}
def bw5 {t e:TypeId} {k:IntKind} {ns:List Int} (ht:P.underlying t=some (.array ns.length e)) (he:P.underlying e=some (.int k)) (hc:P.cellsOf e=1) (hct:P.cellsOf t=ns.length)
 {n:Nat} {cs:List Value} {p:List MemPlace} (h:DataW.trod enc P W 0 sp hd n t cs=some (.agg (ns.map λi=> .lit (.int k i)),p)):bX c (ns.map λi=>AV.i k i) cs:=by
 obtain⟨xs,m,-,hx,hl,hn,hel⟩:=DataW.trod_array ht h;injection hx with hx1 hx2
 injection hx1 with hx1
 rw[hct] at hl;rw[hc] at hel;have e:cs=ns.map λi=>Value.int k i:=by
  apply xz;intro i;by_cases hi:i<ns.length
  ·have h1:=hel i hi;have hxi:xs[i]? =some (xs[i]'ω):=cE _;rw[hxi] at h1;obtain⟨j,j1,j2,-⟩:=DataW.trod_int he h1;have h2:(xs.map (·.1))[i]? =(ns.map λi=>DataW.lit (Lit.int k i))[i]? :=by rw[hx1]
   rw[oh,oh,hxi,cE hi,j2] at h2;have h3:(DataW.lit (Lit.int k j):DataW H)=DataW.lit (Lit.int k ns[i]):=gC h2;injection h3 with h3
   injection h3 with _ h3
   rw[oh,cE hi,vH] at*;have hci:cs[i]? =some (Value.int k j):=by
    have:=congrArg (·[0]?) j1;simpa using this
   rw[hci,h3];rfl
  ·rw[rI ω,rI (by rw[kU];omega)]
 rw[e];clear e hel hx1 hl hn h ht hct;induction ns with
 |nil=>exact .nil
 |cons a l ih=>exact .cons _ _ _ _ (.i _ _) ih
end
def Lj:List Int:=[0,1,56,2,57,49,28,3,61,58,42,50,38,29,17,4,62,47,59,36,45,43,51,22,53,39,33,30,24,18,12,5,63,55,48,27,60,41,37,16,46,35,44,21,52,32,23,11,54,26,40,15,34,20,31,10,25,14,19,9,13,8,7,6]
def bw6 {H:Type}:(Rows.laid_math_bits_deBruijn64tab:DataW H)= .agg (Lj.map λi=> .lit (.int .u8 i)):=rfl
def xx:Tryz.prog.cellsOf 5=1:=af
def Fq:Tryz.prog.cellsOf 22=1:=af
def bw7:Tryz.prog.cellsOf 23=1:=af
def bw8:Tryz.prog.cellsOf 24=1:=af
def XU:Tryz.prog.cellsOf 26=5:=af
def XV:Tryz.prog.cellsOf 28=8:=af
def bw9:Tryz.prog.cellsOf 30=10:=af
def XW:Tryz.prog.cellsOf 189=4:=af
def XX:Tryz.prog.cellsOf 192=5:=af
def bx0:Tryz.prog.cellsOf 713=64:=af
section
variable {W:World} {c:CE} {H:Type} {enc:TypeId×Value ->H} {sp:Nat ->Bool} {hd:Bool}
def bx1 {α:Type} {l:List α} (h:l.length=4):∃a b c d,l=[a,b,c,d]:=by
 match l,h with
 |[a,b,c,d],_=>exact⟨a,b,c,d,rfl⟩
def XY {α:Type} {l:List α} (h:l.length=5):∃a b c d e,l=[a,b,c,d,e]:=by
 match l,h with
 |[a,b,c,d,e],_=>exact⟨a,b,c,d,e,rfl⟩
def kT {a:AV} {v:Value} (h:bX c [a] [v]):VR c a v:=by cases h with|cons _ _ _ _ h _=>exact h
def B7 (him:∀b row,fL W b=some row ->c.im b=some row) {b0:Nat} {row0:Array Value} (h0:fL W b0=some row0) {n:Nat} {cs:List Value} {x:DataW H×List MemPlace} (h:DataW.trod enc Tryz.prog W 0 sp hd n 22 cs=some x):
 ∃(nl:Bool) (L:List Nat),(∀a∈L,a<256)/\ bX c [eR cB 1 nl L] cs:=
 Ky him h0 Tryz.underlying22 xx ω (λn cs x h=>pI Tryz.underlying5 h) h
def bx2 (him:∀b row,fL W b=some row ->c.im b=some row) {b0:Nat} {row0:Array Value} (h0:fL W b0=some row0) {n:Nat} {cs:List Value} {x:DataW H×List MemPlace} (h:DataW.trod enc Tryz.prog W 0 sp hd n 189 cs=some x):
 ∃l:qA,l.OK/\ bX c (n9 l) cs:=by
 obtain⟨hl,hf⟩:=BJ Tryz.underlying189 h;rw[XW] at hl;obtain⟨c0,c1,c2,c3,rfl⟩:=bx1 hl;obtain⟨_,_,g0⟩:=hf 0 _ rfl;obtain⟨_,_,g1⟩:=hf 1 _ rfl;obtain⟨_,_,g2⟩:=hf 2 _ rfl;obtain⟨_,_,g3⟩:=hf 3 _ rfl;simp only[xx,Fq] at g0 g1 g2 g3;obtain⟨l,l1,l2⟩:=pI (c:=c) Tryz.underlying5 g0;obtain⟨nl,bs,b1,b2⟩:=B7 him h0 g1;obtain⟨ii,i1,i2⟩:=pI (c:=c) Tryz.underlying5 g2;obtain⟨mk,m1,m2⟩:=pI (c:=c) Tryz.underlying5 g3;exact⟨⟨l,nl,bs,ii,mk⟩,⟨l1,b1,i1,m1⟩,.cons _ _ _ _ (kT l2) (.cons _ _ _ _ (kT b2) (.cons _ _ _ _ (kT i2) (.cons _ _ _ _ (kT m2) .nil)))⟩
def bx3 {n:Nat} {cs:List Value} {x:DataW H×List MemPlace} (h:DataW.trod enc Tryz.prog W 0 sp hd n 192 cs=some x):∃l:qB,l.OK/\ bX c (oe l) cs:=by
 obtain⟨hl,hf⟩:=BJ Tryz.underlying192 h;rw[XX] at hl;obtain⟨c0,c1,c2,c3,c4,rfl⟩:=XY hl;obtain⟨_,_,g0⟩:=hf 0 _ rfl;obtain⟨_,_,g1⟩:=hf 1 _ rfl;obtain⟨_,_,g2⟩:=hf 2 _ rfl;obtain⟨_,_,g3⟩:=hf 3 _ rfl;obtain⟨_,_,g4⟩:=hf 4 _ rfl;simp only[xx] at g0 g1 g2 g3 g4;obtain⟨k,k1,k2⟩:=pI (c:=c) Tryz.underlying5 g0;obtain⟨a,a1,a2⟩:=pI (c:=c) Tryz.underlying5 g1;obtain⟨b,b1,b2⟩:=pI (c:=c) Tryz.underlying5 g2;obtain⟨cc,c1',c2'⟩:=pI (c:=c) Tryz.underlying5 g3;obtain⟨ii,i1,i2⟩:=pI (c:=c) Tryz.underlying5 g4;exact⟨⟨k,a,b,cc,ii⟩,⟨k1,a1,b1,c1',i1⟩,.cons _ _ _ _ (kT k2) (.cons _ _ _ _ (kT a2) (.cons _ _ _ _ (kT b2) (.cons _ _ _ _ (kT c2') (.cons _ _ _ _ (kT i2) .nil))))⟩
def bx4 (him:∀b row,fL W b=some row ->c.im b=some row) {b0:Nat} {row0:Array Value} (h0:fL W b0=some row0) {n:Nat} {cs:List Value} {x:DataW H×List MemPlace} (h:DataW.trod enc Tryz.prog W 0 sp hd n 26 cs=some x):
 ∃r:fA,r.OK/\ bX c (gI r) cs:=by
 obtain⟨hl,hf⟩:=BJ Tryz.underlying26 h;rw[XU] at hl;obtain⟨c0,c1,c2,c3,c4,rfl⟩:=XY hl;obtain⟨_,_,g0⟩:=hf 0 _ rfl;obtain⟨_,_,g1⟩:=hf 1 _ rfl;obtain⟨_,_,g2⟩:=hf 2 _ rfl;obtain⟨_,_,g3⟩:=hf 3 _ rfl;obtain⟨_,_,g4⟩:=hf 4 _ rfl;simp only[xx,Fq,bw7,bw8] at g0 g1 g2 g3 g4;obtain⟨b,b1,b2⟩:=pI (c:=c) Tryz.underlying5 g0;obtain⟨m,m1,m2⟩:=pI (c:=c) Tryz.underlying5 g1;obtain⟨fl,f,f1,f2⟩:=B7 him h0 g2;obtain⟨ll,l,l1,l2⟩:=Ky (en:=n9) (OK:=qA.OK) him h0 Tryz.underlying23 XW ω (λn cs x h=>bx2 him h0 h) g3;obtain⟨rl,r,r1,r2⟩:=Ky (en:=oe) (OK:=qB.OK) him h0 Tryz.underlying24 XX ω (λn cs x h=>bx3 h) g4;exact⟨⟨b,m,fl,f,ll,l,rl,r⟩,⟨b1,m1,f1,l1,r1⟩,.cons _ _ _ _ (kT b2) (.cons _ _ _ _ (kT m2) (.cons _ _ _ _ (kT f2) (.cons _ _ _ _ (kT l2) (.cons _ _ _ _ (kT r2) .nil))))⟩
def bx5 {α:Type} {l:List α} (h:l.length=8):∃a b c d e f g k,l=[a,b,c,d,e,f,g,k]:=by
 match l,h with
 |[a,b,c,d,e,f,g,k],_=>exact⟨a,b,c,d,e,f,g,k,rfl⟩
def bx6 {α:Type} {l:List α} (h:l.length=10):∃a b c d e f g k m n,l=[a,b,c,d,e,f,g,k,m,n]:=by
 match l,h with
 |[a,b,c,d,e,f,g,k,m,n],_=>exact⟨a,b,c,d,e,f,g,k,m,n,rfl⟩
def bx7 (him:∀b row,fL W b=some row ->c.im b=some row) {b0:Nat} {row0:Array Value} (h0:fL W b0=some row0) {n:Nat} {cs:List Value} {x:DataW H×List MemPlace} (h:DataW.trod enc Tryz.prog W 0 sp hd n 28 cs=some x):
 ∃r:zh,r.OK/\ bX c (rx r) cs:=by
 obtain⟨hl,hf⟩:=BJ Tryz.underlying28 h;rw[XV] at hl;obtain⟨c0,c1,c2,c3,c4,c5,c6,c7,rfl⟩:=bx5 hl;obtain⟨_,_,g0⟩:=hf 0 _ rfl;obtain⟨_,_,g1⟩:=hf 1 _ rfl;obtain⟨_,_,g2⟩:=hf 2 _ rfl;obtain⟨_,_,g3⟩:=hf 3 _ rfl;simp only[xx,Fq,XU] at g0 g1 g2 g3;obtain⟨x,x1,x2⟩:=bx4 (c:=c) him h0 g0;obtain⟨b,b1,b2⟩:=pI (c:=c) Tryz.underlying5 g1;obtain⟨ll,l,l1,l2⟩:=B7 him h0 g2;obtain⟨sl,s,s1,s2⟩:=B7 him h0 g3;exact⟨⟨x,b,ll,l,sl,s⟩,⟨x1,b1,l1⟩,TX x2 (.cons _ _ _ _ (kT b2) (.cons _ _ _ _ (kT l2) (.cons _ _ _ _ (kT s2) .nil)))⟩
def bx8 (him:∀b row,fL W b=some row ->c.im b=some row) {b0:Nat} {row0:Array Value} (h0:fL W b0=some row0) {n:Nat} {cs:List Value} {x:DataW H×List MemPlace} (h:DataW.trod enc Tryz.prog W 0 sp hd n 30 cs=some x):
 ∃r:sT,r.OK/\ bX c (m8 r) cs:=by
 obtain⟨hl,hf⟩:=BJ Tryz.underlying30 h;rw[bw9] at hl;obtain⟨c0,c1,c2,c3,c4,c5,c6,c7,c8,c9,rfl⟩:=bx6 hl;obtain⟨_,_,g0⟩:=hf 0 _ rfl;obtain⟨_,_,g1⟩:=hf 1 _ rfl;obtain⟨_,_,g2⟩:=hf 2 _ rfl;simp only[xx,Fq,XV] at g0 g1 g2;obtain⟨x,x1,x2⟩:=bx7 (c:=c) him h0 g0;obtain⟨rl,r,r1,r2⟩:=B7 him h0 g1;obtain⟨w,w1,w2⟩:=pI (c:=c) Tryz.underlying5 g2;exact⟨⟨x,rl,r,w⟩,⟨x1,r1⟩,TX x2 (.cons _ _ _ _ (kT r2) (.cons _ _ _ _ (kT w2) .nil))⟩
end
def laidL:List (String×DataW Unit):=Rows.styleErrorsRow.laid
def zx (W:World) (G:T (List AV)):CE:={ dM:=λ_=>False,ρ:=λ_=>(0,0),sz:=λ_=>0,im:=fL W,gl:=G.get }
def xy:List AV:=Lj.map λi=>AV.i .u8 i
def XZ:Tryz.prog.globalNamed "math/bits.deBruijn64tab" =some 1:=af
def tDB:(Tryz.prog.globals[1]?).map (·.type)=some 713:=af
def bx9:30<Tryz.prog.types.size:=by rw[Tryz.types_size];decide
def sz3:3<Tryz.prog.types.size:=by rw[Tryz.types_size];decide
def X0:(laidL.all λx=>x.2.handleName?.isNone)=true:=af
def X1 {W:World} (h:laidMetH Tryz.prog laidL W) (c:CE):∃row,fL W 1=some row/\ bX c xy row.toList:=by
 rw[MakeChecks.laidMetH_plain _ _ _ X0] at h;obtain⟨ps,⟨g0,t0,cs0,f0,p0,q0,hg0,ht0,hv0,hd0,_⟩,_⟩:=h;obtain rfl:=gC (XZ.symm.trans hg0);obtain rfl:=gC (tDB.symm.trans ht0);refine⟨cs0,?_,?_⟩
 ·unfold World.var? at hv0;rw[XZ] at hv0;simp only[Option.bind_some] at hv0;unfold fL;split at hv0
  ·rename_i e;rw[e];exact hv0
  ·cases hv0
 ·rw[bw6] at hd0;exact bw5 (ns:=Lj) Tryz.underlying713 Tryz.underlying5 xx bx0 hd0
section
variable {X:aR} {GL:T (List AV)} {ae:T au}
def by0 {W:World} (hGL:∀g l,GL.get g=some l ->g=1/\ l=xy) (hg:∃row,fL W 1=some row/\ bX (zx W GL) xy row.toList):RS (dJ X) (zx W GL) h0 W where
 nx:=λo h=>h.elim
 lt:=λo ob h=>by rw[G8] at h;cases h
 obj:=λo ob h=>h.dM.elim
 inj:=λo o' a b h=>h.dM.elim
 im:=λb row hb=>Dl hb
 dj:=λo ob h=>h.dM.elim
 gl:=λg l h=>by
  obtain⟨rfl,rfl⟩:=hGL g l h;obtain⟨row,r1,r2⟩:=hg;exact⟨row,row.toList,r1,λi v hi=>by rw[gB,←vI];exact hi,r2⟩
def by1 {W w':World} (hs:∀b,b<W.heap.size ->w'.heap[b]? =W.heap[b]?) {p:MemPlace} (hp:p.block<W.heap.size):W.sameAt w' p:=by
 cases p with
 |cell b off=>
  show w'.cell? ⟨b,off,none⟩=W.cell? ⟨b,off,none⟩;unfold World.cell?;rw[hs b hp]
 |map b=>exact hs b hp
def by2 {W w':World} (hio:w'.os=W.os/\ w'.output=W.output) (hs:∀b,b<W.heap.size ->w'.heap[b]? =W.heap[b]?) (may:MemPlace ->Prop):W.keptBut w' may:=by
 refine⟨hio.1,hio.2,λi hi=> ?_⟩;rw[hs i hi];cases W.heap[i]? with
 |none=>rfl
 |some o=>cases o<;>first|exact⟨rfl,rfl,rfl,λ_ _=>rfl⟩|exact .inr ⟨rfl,rfl⟩|rfl
def by3 {P:Program} {W:World} {r:Reach} {base:Nat} {t:TypeId} {v:Value} (ht:P.underlying t=some (.int .i64)) (h:Value.okWide P W r base t v):∃w:Int,v= .int .i64 w/\ (-9223372036854775808<=w/\ w<=9223372036854775807):=by
 simp only[Value.okWide,ht,Cell.okWide] at h;cases v<;>simp_all [Cell.ok,IntKind.has];exact h.2.1
def by4 (S:aT Tryz.prog X GL ae) (hGL:∀g l,GL.get g=some l ->g=1/\ l=xy)
 (law:∀{i:sT},i.OK ->∀{w:Int},-9223372036854775808<=w/\ w<=9223372036854775807 ->bg Tryz.prog X GL ae 3 [.ag (m8 i),ι w] (.b true))
 {H:Type} {enc:TypeId×Value ->H} (W:World) (base:Nat) (args:Array Value) (ds gs:List (DataW H)) (before:List MemPlace)
 (hval:∀(j:Nat) t v,Tryz.f3.params[j]? =some t ->args[j]? =some v ->Value.okWide Tryz.prog W .any base t v)
 (hW:DataW.Whole enc Tryz.prog Tryz.f3.params.toList Rows.styleErrorsSpec.vars false W args.toList ds gs before)
 (hL:laidMetH Tryz.prog laidL W):Calls Tryz.prog 3 args W λe W'=>∃v,e= .returned v/\ Rows.styleErrorsSpec.post enc Tryz.prog Tryz.f3 false true false false W args v W':=by
 have hW':=hW;obtain⟨p,q,hA0,hV,rfl,hfz,hnd⟩:=hW;have hA:DataW.TrodAll enc Tryz.prog W 0 (λ_=>true) true Tryz.f3.params.toList args.toList ds p:=hA0;rw[Tryz.params3] at hA hval;obtain⟨v0,v1,d0,d1,p0,p1,rfl,rfl,rfl,t0,t1⟩:=trodAll_two hA;obtain⟨rfl,rfl⟩:=trodVars_none hV;have hb:=X1 hL (zx W GL);obtain⟨row,hr,-⟩:=hb;have him:∀b row,fL W b=some row ->(zx W GL).im b=some row:=λ_ _ h=>h;have aV:=λp hp=>hW'.lt p hp;have ok0:=hval 0 30 v0 rfl rfl;have ok1:=hval 1 3 v1 rfl rfl;obtain⟨cs0,rfl⟩:∃cs,v0= .agg cs:=by
  unfold Value.okWide at ok0;rw[Tryz.underlying30] at ok0;obtain⟨cs,e,-⟩:=ok0;exact⟨cs,e⟩
 obtain⟨w,rfl,hw⟩:=by3 Tryz.underlying3 ok1;obtain⟨f0,t0'⟩:=id t0;obtain⟨x,okx,hx⟩:=bx8 (c:=zx W GL) him hr t0';have e0:Value.agg cs0=Value.agg cs0.toList.toArray:=by rw[Array.toArray_toList]
 have hargs:bX (zx W GL) [.ag (m8 x),ι w] [.agg cs0,.int .i64 w]:=by
  rw[e0];exact .cons _ _ _ _ (.ag _ _ hx) (.cons _ _ _ _ (.i _ _) .nil)
 refine bc2 S (law okx hw) (by0 hGL (X1 hL _)) (λg l h=>h) hargs λv' w' y h1 c1 n hd hev hvr=> ?_;obtain rfl:=bc3 hd;obtain rfl:v'= .bool true:=by cases hvr;rfl
 have hs:∀b,b<W.heap.size ->w'.heap[b]? =W.heap[b]? :=λb hb=>hev.keep.same b hb λo ob hh=>hh.dM.elim;have st:∀{t:TypeId} {v:Value} {d:DataW H} {ps:List MemPlace},Tryz.prog.readableRec t=true ->t<Tryz.prog.types.size ->(∀p∈ps,p.block<W.heap.size) ->DataW.Trod enc Tryz.prog W 0 (λ_=>true) true t v d ps ->DataW.Trod enc Tryz.prog w' 0 (λb=>decide (b<W.heap.size)) true t v d ps:=
  λhr ht hp h=>WideElems.Trod_stays UO hr ht h (λp h=>by1 hs (hp p h)) (λp h=>by simpa using hp p h)
 refine⟨[d0,d1],[],_,[],p0++p1,[],hW',?_,?_,rfl,by2 hev.keep.io hs _,λh=>by cases h⟩
 ·rw[vz];exact trodAll_mk1 (shut_bool Tryz.underlying4 true)
 ·rw[Tryz.params3];exact⟨p0,p1,st UP bx9 (λp hp=>aV p (by simp[hp])) t0,⟨p1,[],st UQ sz3 (λp hp=>aV p (by simp[hp])) t1,rfl,by simp⟩,rfl⟩
end
end
end AM
namespace AM.V
open Go Go.Proofs
noncomputable section
def by5:kI.flatL 0 Fp=true:=af
def by6:∀g l,aH.get g=some l ->kI.flatL 0 l=true:=by
 intro g l h;have h':(T.e.put 1 Fp).get g=some l:=h;rw[T.get_put] at h';split at h'
 ·cases h';exact by5
 ·cases h'
def B8:aT Tryz.prog pX aH aG:=br4 by6
def kD (l:List FE):Prop:=∀x∈l,sf Tryz.prog pX aH aG x.f x.e
def rH:kD []:=λx h=>by cases h
def bp {f:Nat} {e:aP} {l:List FE} (h:sf Tryz.prog pX aH aG f e) (t:kD l):kD (⟨f,e⟩::l):=λx hx=>by
 rcases ed.1 hx with rfl|hx
 ·exact h
 ·exact t x hx
def sU {l m:List FE} (h:kD l) (t:kD m):kD (l++m):=λx hx=>by
 rcases fO.1 hx with hx|hx
 ·exact h x hx
 ·exact t x hx
def Lk:∀{l:List FE},kD l ->Du Tryz.prog pX aH aG (aX l)
 |[],_=>λf l h=>by cases h
 |x::l,ha=>by
  have ih:=Lk (l:=l) λy hy=>ha y (jw _ hy);intro f es h e he;have h':((aX l).put x.f (x.e::Option.rec (motive:=λ_=>List aP) [] (λl=>l) ((aX l).get x.f))).get f=some es:=h;rw[T.get_put] at h';split at h'
  ·rename_i q;subst q;cases h';rcases ed.1 he with rfl|he
   ·exact ha x jG
   ·cases hg:(aX l).get x.f with
    |none=>rw[hg] at he;cases he
    |some es=>rw[hg] at he;exact ih x.f es hg e he
  ·exact ih f es h' e he
section
variable {P:Program} {X:aR} {GL:T (List AV)} {ae:T au} {bi:Nat ->List AV ->AH ->Option (AV×AH)} {tb:T (List aP)}
def by7 (S:aT P X GL ae) (hb:Dt P X GL bi) (ht:Du P X GL ae tb) {n f:Nat} {e:aP} (r:aW GL ae bi tb n f e []=true):sf P X GL ae f e:=
 OZ S (λ_ _ h=>h) hb ht (c:= .leaf) (by rw[←O8];exact r)
def by8 (S:aT P X GL ae) (hb:Dt P X GL bi) (ht:Du P X GL ae tb) {n f:Nat} {e:aP} (r:aW GL ae bi tb n f e [true]=true) (q:aW GL ae bi tb n f e [false]=true):sf P X GL ae f e:=
 OZ S (λ_ _ h=>h) hb ht (c:= .node .leaf .leaf) (by rw[←O8];exact⟨r,q⟩)
end
def bw {l:List FE} (ha:kD l) {n f:Nat} {e:aP} (r:aW aH aG aZ (aX l) n f e []=true):sf Tryz.prog pX aH aG f e:=by7 B8 UW (Lk ha) r
def B9 {l:List FE} (ha:kD l) {n f:Nat} {e:aP} (r:aW aH aG aZ (aX l) n f e [true]=true) (q:aW aH aG aZ (aX l) n f e [false]=true):sf Tryz.prog pX aH aG f e:=by8 B8 UW (Lk ha) r q
def a0:kD L0:=rH
def a1:kD L1:=sU (bp (bw a0 r0) (bp (bw a0 r2) (bp (bw a0 r3) (bp (bw a0 r5) (bp (bw a0 r6) (bp (bw a0 r8) (bp (bw a0 r9) (bp (bw a0 r12) (bp (bw a0 r20) (bp (bw a0 r21) (bp (bw a0 r24) (bp (bw a0 r36) (bp (bw a0 r40) (bp (bw a0 r48) (bp (bw a0 r57) (bp (bw a0 r62) (bp (bw a0 r69) (bp (bw a0 r78) (bp (bw a0 r86) (bp (bw a0 r90) (bp (bw a0 r99) (bp (bw a0 bw4) (bp (bw a0 bw3) (bp (bw a0 bs8) (bp (bw a0 bt7) (bp (bw a0 bt6) rH)))))))))))))))))))))))))) a0
def a2:kD L2:=sU (bp (bw a1 r1) (bp (bw a1 r4) (bp (bw a1 r7) (bp (bw a1 r13) (bp (bw a1 r25) (bp (bw a1 r58) (bp (bw a1 r79) (bp (bw a1 r82) (bp (bw a1 br7) (bp (bw a1 bv2) rH)))))))))) a1
def a3:kD L3:=sU (bp (bw a2 r10) (bp (bw a2 r11) (bp (bw a2 r14) (bp (bw a2 r26) (bp (bw a2 r29) (bp (bw a2 r33) (bp (bw a2 r35) (bp (bw a2 r38) (bp (bw a2 r39) (bp (bw a2 r41) (bp (bw a2 r44) (bp (bw a2 r59) (bp (bw a2 r61) (bp (bw a2 r66) (bp (bw a2 r80) (bp (bw a2 r83) (bp (bw a2 r85) (bp (bw a2 bu3) (bp (bw a2 bw1) (bp (bw a2 bu2) (bp (bw a2 bv3) (bp (bw a2 bt9) (bp (bw a2 bw2) rH))))))))))))))))))))))) a2
def a4:kD L4:=sU (bp (bw a3 r15) (bp (bw a3 r16) (bp (bw a3 r28) (bp (bw a3 r30) (bp (bw a3 r34) (bp (bw a3 r46) rH)))))) a3
def a5:kD L5:=sU (bp (bw a4 r17) (bp (bw a4 r18) (bp (bw a4 r22) (bp (bw a4 r27) (bp (bw a4 r31) (bp (bw a4 r37) (bp (bw a4 r45) (bp (bw a4 r49) (bp (bw a4 r50) (bp (bw a4 r51) (bp (bw a4 r60) (bp (bw a4 r63) (bp (bw a4 r67) (bp (bw a4 r70) (bp (bw a4 r71) (bp (bw a4 r72) (bp (bw a4 r84) (bp (bw a4 r87) (bp (bw a4 r91) (bp (bw a4 r92) (bp (bw a4 r93) (bp (bw a4 bu0) (bp (bw a4 bv4) (bp (bw a4 bs1) (bp (bw a4 br9) (bp (bw a4 bv1) (bp (bw a4 bt1) (bp (bw a4 bv0) (bp (bw a4 bu4) (bp (bw a4 bv7) (bp (bw a4 bs6) (bp (bw a4 bu1) (bp (bw a4 bt5) rH))))))))))))))))))))))))))))))))) a4
def a6:kD L6:=sU (bp (bw a5 r19) (bp (bw a5 r23) (bp (bw a5 r32) (bp (B9 a5 bv5 br6) (bp (bw a5 r47) (bp (bw a5 r56) (bp (B9 a5 bv9 br8) (bp (bw a5 r68) (bp (bw a5 r77) (bp (B9 a5 bv6 bs5) (bp (bw a5 r98) (bp (B9 a5 bw0 bs9) (bp (bw a5 bs0) (bp (bw a5 bu5) (bp (B9 a5 bt8 bt3) (bp (bw a5 bs7) rH)))))))))))))))) a5
def a7:kD L7:=sU (bp (bw a6 r43) (bp (bw a6 r52) (bp (bw a6 r65) (bp (bw a6 r73) (bp (bw a6 r89) (bp (bw a6 r94) (bp (bw a6 bu8) (bp (bw a6 bs2) (bp (bw a6 bu9) (bp (bw a6 bv8) rH)))))))))) a6
def a8:kD L8:=sU (bp (bw a7 r53) (bp (bw a7 r74) (bp (bw a7 r95) (bp (bw a7 bu6) (bp (bw a7 bt2) rH))))) a7
def a9:kD L9:=sU (bp (bw a8 r54) (bp (bw a8 r75) (bp (bw a8 r96) (bp (bw a8 bt0) (bp (bw a8 bt4) rH))))) a8
def a10:kD XT:=sU (bp (bw a9 r55) (bp (bw a9 r76) (bp (bw a9 r81) (bp (bw a9 r97) (bp (bw a9 bu7) (bp (bw a9 bs3) rH)))))) a9
def by9:bg Tryz.prog pX aH aG 4 [] (.b true):=(bw a10 rS).1
end
end AM.V
namespace AM
open Dg Go Go.Proofs
noncomputable section
def bz0:V.aH=mU:=af
def bz1:dY Tryz.prog pX V.aH:=aN5 V.B8 Sy
def kn0:gM V.aH aG (λ_ _=>none) 100000 79 [.i .u8 (0:Nat)] (aI (iZ 0))=true:=af
def kn1:gM V.aH aG (λ_ _=>none) 100000 79 [.i .u8 (1:Nat)] (aI (iZ 1))=true:=af
def kn2:gM V.aH aG (λ_ _=>none) 100000 79 [.i .u8 (2:Nat)] (aI (iZ 2))=true:=af
def kn3:gM V.aH aG (λ_ _=>none) 100000 79 [.i .u8 (3:Nat)] (aI (iZ 3))=true:=af
def kn4:gM V.aH aG (λ_ _=>none) 100000 79 [.i .u8 (4:Nat)] (aI (iZ 4))=true:=af
def kn5:gM V.aH aG (λ_ _=>none) 100000 79 [.i .u8 (5:Nat)] (aI (iZ 5))=true:=af
def kn6:gM V.aH aG (λ_ _=>none) 100000 79 [.i .u8 (6:Nat)] (aI (iZ 0))=true:=af
def kn7:gM V.aH aG (λ_ _=>none) 100000 79 [.i .u8 (7:Nat)] (aI (iZ 1))=true:=af
def br0:gM V.aH aG (λ_ _=>none) 100000 35 [.ds [.s [83],.s [80],.s [81]] 0 1 1] (aI (BI 0))=true:=af
def br1:gM V.aH aG (λ_ _=>none) 100000 35 [.ds [.s [83],.s [80],.s [81]] 0 2 1] (aI (BI 1))=true:=af
def br2:gM V.aH aG (λ_ _=>none) 100000 35 [.ds [.s [83],.s [80],.s [81]] 0 3 1] (aI (BI 2))=true:=af
def knB:xi Tryz.prog pX V.aH aG where
 kn:=λk hk=>by
  rcases(show k=0∨k=1∨k=2∨k=3∨k=4∨k=5∨k=6∨k=7 by omega) with rfl|rfl|rfl|rfl|rfl|rfl|rfl|rfl
  ·exact hY (λ_ _ h=>h) iE kn0
  ·exact hY (λ_ _ h=>h) iE kn1
  ·exact hY (λ_ _ h=>h) iE kn2
  ·exact hY (λ_ _ h=>h) iE kn3
  ·exact hY (λ_ _ h=>h) iE kn4
  ·exact hY (λ_ _ h=>h) iE kn5
  ·exact hY (λ_ _ h=>h) iE kn6
  ·exact hY (λ_ _ h=>h) iE kn7
 bare:=λn hn=>by
  rcases(show n=0∨n=1∨n=2 by omega) with rfl|rfl|rfl
  ·exact hY (λ_ _ h=>h) iE br0
  ·exact hY (λ_ _ h=>h) iE br1
  ·exact hY (λ_ _ h=>h) iE br2
def mi0:gM V.aH aG (λ_ _=>none) 100000 282 [eR iF 5 true (jg 0),.s (sS 0)] (.b true)=true:=af
def mi1:gM V.aH aG (λ_ _=>none) 100000 282 [eR iF 5 true (jg 0),.s (sS 1)] (.b true)=true:=af
def mi2:gM V.aH aG (λ_ _=>none) 100000 282 [eR iF 5 true (jg 0),.s (sS 2)] (.b true)=true:=af
def mi3:gM V.aH aG (λ_ _=>none) 100000 282 [eR iF 5 true (jg 0),.s (sS 3)] (.b true)=true:=af
def mi4:gM V.aH aG (λ_ _=>none) 100000 282 [eR iF 5 true (jg 0),.s (sS 4)] (.b true)=true:=af
def mi5:gM V.aH aG (λ_ _=>none) 100000 282 [eR iF 5 true (jg 0),.s (sS 5)] (.b true)=true:=af
def mr0:gM V.aH aG (λ_ _=>none) 100000 282 [eR iF 5 true (jg 10),.s (tY 0)] (.b true)=true:=af
def mr1:gM V.aH aG (λ_ _=>none) 100000 282 [eR iF 5 true (jg 10),.s (tY 1)] (.b true)=true:=af
def mr2:gM V.aH aG (λ_ _=>none) 100000 282 [eR iF 5 true (jg 10),.s (tY 2)] (.b true)=true:=af
def gck:gM V.aH aG (λ_ _=>none) 100000 33 [.ds [ι 0,.s [],ι 0,ι 0,ι 0] 0 1 5] (ι 0)=true:=af
def gop:gM V.aH aG (λ_ _=>none) 100000 74 [ι 0] (ι 0)=true:=af
def mtB:tZ Tryz.prog pX V.aH aG where
 id:=λk hk=>by
  rcases(show k=0∨k=1∨k=2∨k=3∨k=4∨k=5 by omega) with rfl|rfl|rfl|rfl|rfl|rfl
  ·exact⟨_,hY (λ_ _ h=>h) iE mi0⟩
  ·exact⟨_,hY (λ_ _ h=>h) iE mi1⟩
  ·exact⟨_,hY (λ_ _ h=>h) iE mi2⟩
  ·exact⟨_,hY (λ_ _ h=>h) iE mi3⟩
  ·exact⟨_,hY (λ_ _ h=>h) iE mi4⟩
  ·exact⟨_,hY (λ_ _ h=>h) iE mi5⟩
 rm:=λk hk=>by
  rcases(show k=0∨k=1∨k=2 by omega) with rfl|rfl|rfl
  ·exact⟨_,hY (λ_ _ h=>h) iE mr0⟩
  ·exact⟨_,hY (λ_ _ h=>h) iE mr1⟩
  ·exact⟨_,hY (λ_ _ h=>h) iE mr2⟩
def bz2 {i:sT} (ok:i.OK) {w:Int} (hw: -9223372036854775808<=w/\ w<=9223372036854775807):bg Tryz.prog pX V.aH aG 3 [.ag (m8 i),ι w] (.b true):=
 bk0 V.B8 aL7 bz1 Sy aL4 aL5 aL3 aL6 aL8 aL9 bz0 knB mtB V.by9 (hY (λ_ _ h=>h) iE gck) (hY (λ_ _ h=>h) iE gop) ok hw
end
end AM
namespace AM
open Go Go.Proofs Go.Proofs.YtihgjngjidijaaaGreatDoor
def met (os:Os):laidMetH Tryz.prog laidL (zt os).memory:=by
 rw[MakeChecks.laidMetH_plain _ _ _ X0];exact wi6 os
section
variable {X:aR} {GL:T (List AV)} {ae:T au}
def lifted (S:aT Tryz.prog X GL ae) (hGL:∀g l,GL.get g=some l ->g=1/\ l=xy)
 (law:∀{i:sT},i.OK ->∀{w:Int},-9223372036854775808<=w/\ w<=9223372036854775807 ->bg Tryz.prog X GL ae 3 [.ag (m8 i),ι w] (.b true))
 (os:Os) (started:os.Started) (H:Type) (enc:TypeId×Value ->H):
 ReturnsInHanded {} Tryz.checked os 3 .any (λw args=>(Rows.styleErrorsSpec.pre enc Tryz.prog Tryz.f3 [] false w args/\ laidMetH Tryz.prog laidL w)/\ sizedMet enc Tryz.prog Tryz.f3 (OpenSpec.ofChange Rows.styleErrorsSpec) false w args)
  (Rows.styleErrorsSpec.post enc Tryz.prog Tryz.f3 false true false false):=by
 refine returnsInHanded_of_change_and (C:=Tryz.checked) (X:=λw _=>laidMetH Tryz.prog laidL w) (λ_ _ _ hh h=>h.of_heap hh) cf9 started bn9 Tryz.func3
  (ChangeSpec.witness_shaped (enc:=enc) (C:=Tryz.checked) (os:=os) (X:=λw _=>laidMetH Tryz.prog laidL w) false (World.laidAll Tryz.prog os laidL) wA 8 (World.laidAll_os _ _ _) (wi1 os) (wi3 os) (wi4 os enc) (wi5 os enc) (met os)) ?_
 intro W base args ds gs before hval hW _ _ hL _;exact by4 S hGL law W base args ds gs before hval hW hL
def bz3 (S:aT Tryz.prog X GL ae) (hGL:∀g l,GL.get g=some l ->g=1/\ l=xy)
 (law:∀{i:sT},i.OK ->∀{w:Int},-9223372036854775808<=w/\ w<=9223372036854775807 ->bg Tryz.prog X GL ae 3 [.ag (m8 i),ι w] (.b true)):Rows.StyleErrorsSaid:=
 OpenClaim.holds_of_wide 3 Tryz.f3 rfl rfl rfl rfl rfl rfl rfl ⟨rfl,rfl,rfl,rfl,rfl⟩ rfl rfl rfl rfl rfl KO Tryz.func3 bn8 bo0 bo1
  (λos started H enc _=>lifted S hGL law os started H enc)
end
def bz4:Tryz.pinned.checked.prog.listedFits Rows.styleErrorsRow.laid=true:=by
 unfold Program.listedFits;rw[bm2,bo2];rfl
def tie:Tryz.prog.laidByTextLater zq [.data,.data,.data,.data] true:=
 Program.laidByTextLater_by_run 400 8 ti1 ti2 ti3 ti4 ti5 ti6 ti7 ti8 ti9
def bz5:Rows.styleErrorsRow.laidByTextAt .later Tryz.pinned [.data,.pinned,.data,.data,.data] true:=
 OpenClaim.laidByTextAt_pinned rfl rfl tie rfl rfl rfl rfl (λy hy _e=>by
  simp only[Rows.styleErrorsRow,List.zip_cons_cons,List.zip_nil_right,ed,List.mem_nil_iff,or_false] at hy;rcases hy with rfl|rfl|rfl|rfl|rfl
  ·cases _e
  ·exact⟨bm1,af⟩
  ·cases _e
  ·cases _e
  ·cases _e) bz4
def bz6 (h:Rows.StyleErrorsSaid):Rows.StyleErrorsCardSaid:=
 Claim7.holds_tied_plain_at .later [] [.data,.pinned,.data,.data,.data] true (true, "3423c1be53ddda6dccc77cf420bf2599c658d19a9ed169bd98d20a534d85f529") true
  h (λ_ h=>by cases h) cf1 (λ_ h=>by cases h) bz5 rfl ⟨rfl,rfl⟩ cf2 rfl
  (λf fn hf hfn=>by
   obtain rfl:f=3:=gC (KO.symm.trans hf)|>.symm;obtain rfl:fn=Tryz.f3:=(gC (Tryz.func3.symm.trans hfn)).symm;exact⟨cf3.symm,λj t ht=>by
    rw[Tryz.params3] at ht;have hm:t∈[30,3]:=by simpa using Array.mem_of_getElem? ht
    exact(show Tryz.prog.wantsStandIn t=false by simpa using fX.1 cf4 t hm)⟩)
  cf5
def bz7:∀g l,V.aH.get g=some l ->g=1/\ l=xy:=λg l h=>by
 have h':(T.e.put 1 V.Fp).get g=some l:=h;rw[T.get_put] at h';split at h'
 ·rename_i e;cases h';exact⟨e,rfl⟩
 ·cases h'
def styleErrors_card:Rows.StyleErrorsCardSaid:=bz6 (bz3 V.B8 bz7 bz2)
end AM
namespace Go.Proofs.YtihgjngjidijaaaGreatDoor
/-- The given statement. -/
theorem styleErrors_holds : Rows.StyleErrorsCardSaid := AM.styleErrors_card
end Go.Proofs.YtihgjngjidijaaaGreatDoor
