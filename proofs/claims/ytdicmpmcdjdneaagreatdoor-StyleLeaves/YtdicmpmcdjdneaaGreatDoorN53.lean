/- Proved: the law koinelaw27.StyleLeaves of the given program returns true, without a panic, for every input. Conditions: those of the given row and of its given card, no others. -/
import Derived.FnData
import Derived.OpenShut
import Derived.Test.YtdicmpmcdjdneaaGreatDoorCards
import Derived.WideKeyArgs
import Derived.Test.YtdicmpmcdjdneaaGreatDoorN13
import Derived.Test.YtdicmpmcdjdneaaGreatDoorN57
import Derived.Test.YtdicmpmcdjdneaaGreatDoorN34
import Derived.Test.YtdicmpmcdjdneaaGreatDoorN35
import Derived.Test.YtdicmpmcdjdneaaGreatDoorN37
import Derived.Test.YtdicmpmcdjdneaaGreatDoorN39
import Derived.Test.YtdicmpmcdjdneaaGreatDoorN41
import Derived.Test.YtdicmpmcdjdneaaGreatDoorN42
import Derived.Test.YtdicmpmcdjdneaaGreatDoorN43
import Derived.Test.YtdicmpmcdjdneaaGreatDoorN44
import Derived.Test.YtdicmpmcdjdneaaGreatDoorN45
import Derived.Test.YtdicmpmcdjdneaaGreatDoorN46
import Derived.Test.YtdicmpmcdjdneaaGreatDoorN47
import Derived.Test.YtdicmpmcdjdneaaGreatDoorN48
import Derived.Test.YtdicmpmcdjdneaaGreatDoorN49
import Derived.Test.YtdicmpmcdjdneaaGreatDoorN50
import Derived.Test.YtdicmpmcdjdneaaGreatDoorN51
import Derived.Test.YtdicmpmcdjdneaaGreatDoorN52
set_option linter.all false
set_option maxRecDepth 1000000
namespace AM
open Go Go.ChangeShapes Go.Proofs Go.Proofs.YtdicmpmcdjdneaaGreatDoor Go.RowKit
noncomputable section
section
variable {P:Program} {W:World} {c:CE} {H:Type} {enc:TypeId×Value ->H} {sp:Nat ->Bool} {hd:Bool}
def bw5 {t e:TypeId} {k:IntKind} {ns:List Int} (J:P.underlying t=some (.array ns.length e)) (N:P.underlying e=some (.int k)) (L:P.cellsOf e=1) (C:P.cellsOf t=ns.length)
 {n:Nat} {cs:List Value} {p:List MemPlace} (h:DataW.trod enc P W 0 sp hd n t cs=some (.agg (ns.map λi=> .lit (.int k i)),p)):bX c (ns.map λi=>AV.i k i) cs:=by
 obtain⟨G,m,-,R,I,O,A⟩:=DataW.trod_array J h;injection R with hx1 hx2
 injection hx1 with hx1
 rw[C] at I;rw[L] at A;have e:cs=ns.map λi=>Value.int k i:=by
  apply xz;intro i;by_cases hi:i<ns.length;have h1:=A i hi;have D:G[i]? =some (G[i]'ω):=ef _;rw[D] at h1;obtain⟨j,V,Y,-⟩:=DataW.trod_int N h1;have h2:(G.map (·.1))[i]? =(ns.map λi=>DataW.lit (Lit.int k i))[i]? :=by rw[hx1]
  rw[oh,oh,D,ef hi,Y] at h2;have B:(DataW.lit (Lit.int k j):DataW H)=DataW.lit (Lit.int k ns[i]):=gC h2;injection B with B
  injection B with _ B
  rw[oh,ef hi,vH] at*;have E:cs[i]? =some (Value.int k j):=by
   have:=congrArg (·[0]?) V;simpa using this
  rw[E,B];rfl;rw[rI ω,rI (by rw[kU];omega)]
 rw[e];clear e A hx1 I O h J C;induction ns with
 |nil=>exact .nil
 |cons a l U=>exact .cons _ _ _ _ (.i _ _) U
end
def Lj:List Int:=[0,1,56,2,57,49,28,3,61,58,42,50,38,29,17,4,62,47,59,36,45,43,51,22,53,39,33,30,24,18,12,5,63,55,48,27,60,41,37,16,46,35,44,21,52,32,23,11,54,26,40,15,34,20,31,10,25,14,19,9,13,8,7,6]
def bw6 {H:Type}:(Rows.laid_math_bits_deBruijn64tab:DataW H)= .agg (Lj.map λi=> .lit (.int .u8 i)):=rfl
def xx:Tryz.prog.cellsOf 5=1:=lR
def Fq:Tryz.prog.cellsOf 22=1:=lR
def bw7:Tryz.prog.cellsOf 23=1:=lR
def bw8:Tryz.prog.cellsOf 24=1:=lR
def XU:Tryz.prog.cellsOf 26=5:=lR
def XV:Tryz.prog.cellsOf 28=8:=lR
def bw9:Tryz.prog.cellsOf 30=10:=lR
def aR7:Tryz.prog.cellsOf 223=4:=lR
def aS2:Tryz.prog.cellsOf 226=5:=lR
def bD6:Tryz.prog.cellsOf 718=64:=lR
section
variable {W:World} {c:CE} {H:Type} {enc:TypeId×Value ->H} {sp:Nat ->Bool} {hd:Bool}
def bx1 {α:Type} {l:List α} (h:l.length=4):∃a b c d,l=[a,b,c,d]:=by
 match l,h with
 |[a,b,c,d],_=>exact⟨a,b,c,d,rfl⟩
def XY {α:Type} {l:List α} (h:l.length=5):∃a b c d e,l=[a,b,c,d,e]:=by
 match l,h with
 |[a,b,c,d,e],_=>exact⟨a,b,c,d,e,rfl⟩
def kT {a:AV} {v:Value} (h:bX c [a] [v]):VR c a v:=by cases h with|cons _ _ _ _ h _=>exact h
variable {n b0:Nat} {row0:Array Value}
def B7 (j:∀b row,fL W b=some row ->c.im b=some row) (h0:fL W b0=some row0) {cs:List Value} {x:DataW H×List MemPlace} (h:DataW.trod enc Tryz.prog W 0 sp hd n 22 cs=some x):
 ∃(nl:Bool) (L:List Nat),(∀a∈L,a<256)/\ bX c [eR cB 1 nl L] cs:=
 Ky j h0 Tryz.underlying22 xx ω (λn cs x h=>pI Tryz.underlying5 h) h
def bx2 (A:∀b row,fL W b=some row ->c.im b=some row) (h0:fL W b0=some row0) {cs:List Value} {x:DataW H×List MemPlace} (h:DataW.trod enc Tryz.prog W 0 sp hd n 223 cs=some x):
 ∃l:qA,l.OK/\ bX c (n9 l) cs:=by
 obtain⟨D,j⟩:=BJ Tryz.underlying223 h;rw[aR7] at D;obtain⟨c0,c1,c2,c3,rfl⟩:=bx1 D;obtain⟨_,_,B⟩:=j 0 _ rfl;obtain⟨_,_,g1⟩:=j 1 _ rfl;obtain⟨_,_,g2⟩:=j 2 _ rfl;obtain⟨_,_,C⟩:=j 3 _ rfl;simp only[xx,Fq] at B g1 g2 C;obtain⟨l,J,L⟩:=pI (c:=c) Tryz.underlying5 B;obtain⟨nl,bs,E,b2⟩:=B7 A h0 g1;obtain⟨ii,G,I⟩:=pI (c:=c) Tryz.underlying5 g2;obtain⟨mk,N,m2⟩:=pI (c:=c) Tryz.underlying5 C;exact⟨⟨l,nl,bs,ii,mk⟩,⟨J,E,G,N⟩,.cons _ _ _ _ (kT L) (.cons _ _ _ _ (kT b2) (.cons _ _ _ _ (kT I) (.cons _ _ _ _ (kT m2) .nil)))⟩
def bx3 {cs:List Value} {x:DataW H×List MemPlace} (h:DataW.trod enc Tryz.prog W 0 sp hd n 226 cs=some x):∃l:qB,l.OK/\ bX c (oe l) cs:=by
 obtain⟨G,j⟩:=BJ Tryz.underlying226 h;rw[aS2] at G;obtain⟨c0,c1,c2,c3,c4,rfl⟩:=XY G;obtain⟨_,_,C⟩:=j 0 _ rfl;obtain⟨_,_,g1⟩:=j 1 _ rfl;obtain⟨_,_,g2⟩:=j 2 _ rfl;obtain⟨_,_,D⟩:=j 3 _ rfl;obtain⟨_,_,E⟩:=j 4 _ rfl;simp only[xx] at C g1 g2 D E;obtain⟨k,N,O⟩:=pI (c:=c) Tryz.underlying5 C;obtain⟨a,a1,a2⟩:=pI (c:=c) Tryz.underlying5 g1;obtain⟨b,I,b2⟩:=pI (c:=c) Tryz.underlying5 g2;obtain⟨cc,A,B⟩:=pI (c:=c) Tryz.underlying5 D;obtain⟨ii,J,L⟩:=pI (c:=c) Tryz.underlying5 E;exact⟨⟨k,a,b,cc,ii⟩,⟨N,a1,I,A,J⟩,.cons _ _ _ _ (kT O) (.cons _ _ _ _ (kT a2) (.cons _ _ _ _ (kT b2) (.cons _ _ _ _ (kT B) (.cons _ _ _ _ (kT L) .nil))))⟩
def bx4 (j:∀b row,fL W b=some row ->c.im b=some row) (h0:fL W b0=some row0) {cs:List Value} {x:DataW H×List MemPlace} (h:DataW.trod enc Tryz.prog W 0 sp hd n 26 cs=some x):
 ∃r:fA,r.OK/\ bX c (gI r) cs:=by
 obtain⟨E,A⟩:=BJ Tryz.underlying26 h;rw[XU] at E;obtain⟨c0,c1,c2,c3,c4,rfl⟩:=XY E;obtain⟨_,_,B⟩:=A 0 _ rfl;obtain⟨_,_,g1⟩:=A 1 _ rfl;obtain⟨_,_,g2⟩:=A 2 _ rfl;obtain⟨_,_,C⟩:=A 3 _ rfl;obtain⟨_,_,D⟩:=A 4 _ rfl;simp only[xx,Fq,bw7,bw8] at B g1 g2 C D;obtain⟨b,G,b2⟩:=pI (c:=c) Tryz.underlying5 B;obtain⟨m,L,m2⟩:=pI (c:=c) Tryz.underlying5 g1;obtain⟨fl,f,f1,f2⟩:=B7 j h0 g2;obtain⟨ll,l,I,J⟩:=Ky (en:=n9) (OK:=qA.OK) j h0 Tryz.underlying23 aR7 ω (λn cs x h=>bx2 j h0 h) C;obtain⟨N,r,r1,r2⟩:=Ky (en:=oe) (OK:=qB.OK) j h0 Tryz.underlying24 aS2 ω (λn cs x h=>bx3 h) D;exact⟨⟨b,m,fl,f,ll,l,N,r⟩,⟨G,L,f1,I,r1⟩,.cons _ _ _ _ (kT b2) (.cons _ _ _ _ (kT m2) (.cons _ _ _ _ (kT f2) (.cons _ _ _ _ (kT J) (.cons _ _ _ _ (kT r2) .nil))))⟩
def bx5 {α:Type} {l:List α} (h:l.length=8):∃a b c d e f g k,l=[a,b,c,d,e,f,g,k]:=by
 match l,h with
 |[a,b,c,d,e,f,g,k],_=>exact⟨a,b,c,d,e,f,g,k,rfl⟩
def bx6 {α:Type} {l:List α} (h:l.length=10):∃a b c d e f g k m n,l=[a,b,c,d,e,f,g,k,m,n]:=by
 match l,h with
 |[a,b,c,d,e,f,g,k,m,n],_=>exact⟨a,b,c,d,e,f,g,k,m,n,rfl⟩
def bx7 (j:∀b row,fL W b=some row ->c.im b=some row) (h0:fL W b0=some row0) {cs:List Value} {x:DataW H×List MemPlace} (h:DataW.trod enc Tryz.prog W 0 sp hd n 28 cs=some x):
 ∃r:zh,r.OK/\ bX c (rx r) cs:=by
 obtain⟨D,A⟩:=BJ Tryz.underlying28 h;rw[XV] at D;obtain⟨c0,c1,c2,c3,c4,c5,N,O,rfl⟩:=bx5 D;obtain⟨_,_,B⟩:=A 0 _ rfl;obtain⟨_,_,g1⟩:=A 1 _ rfl;obtain⟨_,_,g2⟩:=A 2 _ rfl;obtain⟨_,_,C⟩:=A 3 _ rfl;simp only[xx,Fq,XU] at B g1 g2 C;obtain⟨x,L,x2⟩:=bx4 (c:=c) j h0 B;obtain⟨b,E,b2⟩:=pI (c:=c) Tryz.underlying5 g1;obtain⟨ll,l,G,I⟩:=B7 j h0 g2;obtain⟨sl,s,R,J⟩:=B7 j h0 C;exact⟨⟨x,b,ll,l,sl,s⟩,⟨L,E,G⟩,TX x2 (.cons _ _ _ _ (kT b2) (.cons _ _ _ _ (kT I) (.cons _ _ _ _ (kT J) .nil)))⟩
def bx8 (j:∀b row,fL W b=some row ->c.im b=some row) (h0:fL W b0=some row0) {cs:List Value} {x:DataW H×List MemPlace} (h:DataW.trod enc Tryz.prog W 0 sp hd n 30 cs=some x):
 ∃r:sT,r.OK/\ bX c (m8 r) cs:=by
 obtain⟨C,A⟩:=BJ Tryz.underlying30 h;rw[bw9] at C;obtain⟨c0,c1,c2,c3,c4,c5,I,J,c8,c9,rfl⟩:=bx6 C;obtain⟨_,_,B⟩:=A 0 _ rfl;obtain⟨_,_,g1⟩:=A 1 _ rfl;obtain⟨_,_,g2⟩:=A 2 _ rfl;simp only[xx,Fq,XV] at B g1 g2;obtain⟨x,G,x2⟩:=bx7 (c:=c) j h0 B;obtain⟨D,r,r1,r2⟩:=B7 j h0 g1;obtain⟨w,L,E⟩:=pI (c:=c) Tryz.underlying5 g2;exact⟨⟨x,D,r,w⟩,⟨G,r1⟩,TX x2 (.cons _ _ _ _ (kT r2) (.cons _ _ _ _ (kT E) .nil))⟩
end
def laidL:List (String×DataW Unit):=Rows.styleLeavesRow.laid
def zx (W:World) (G:T (List AV)):CE:={ dM:=λ_=>False,ρ:=λ_=>(0,0),sz:=λ_=>0,im:=fL W,gl:=G.get }
def xy:List AV:=Lj.map λi=>AV.i .u8 i
def XZ:Tryz.prog.globalNamed "math/bits.deBruijn64tab" =some 1:=lR
def tDB:(Tryz.prog.globals[1]?).map (·.type)=some 718:=lR
def bx9:30<Tryz.prog.types.size:=by rw[Tryz.types_size];decide
def bD7:31<Tryz.prog.types.size:=by rw[Tryz.types_size];decide
def X0:(laidL.all λx=>x.2.handleName?.isNone)=true:=lR
def X1 {W:World} (h:laidMetH Tryz.prog laidL W) (c:CE):∃row,fL W 1=some row/\ bX c xy row.toList:=by
 rw[MakeChecks.laidMetH_plain _ _ _ X0] at h;obtain⟨ps,⟨G,t0,B,E,I,J,C,D,j,A,_⟩,_⟩:=h;obtain rfl:=gC (XZ.symm.trans C);obtain rfl:=gC (tDB.symm.trans D);refine⟨B,?_,?_⟩;unfold World.var? at j;rw[XZ] at j;simp only[Option.bind_some] at j;unfold fL;split at j;rename_i e;rw[e];exact j;cases j;rw[bw6] at A;exact bw5 (ns:=Lj) Tryz.underlying718 Tryz.underlying5 xx bD6 A
section
variable {X:aR} {GL:T (List AV)} {ae:T au}
def by0 {W:World} (j:∀g l,GL.get g=some l ->g=1/\ l=xy) (A:∃row,fL W 1=some row/\ bX (zx W GL) xy row.toList):RS (dJ X) (zx W GL) h0 W where
 nx:=λo h=>h.elim
 lt:=λo ob h=>by rw[G8] at h;cases h
 obj:=λo ob h=>h.dM.elim
 inj:=λo B a b h=>h.dM.elim
 im:=λb row hb=>Dl hb
 dj:=λo ob h=>h.dM.elim
 gl:=λg l h=>by
  obtain⟨rfl,rfl⟩:=j g l h;obtain⟨row,r1,r2⟩:=A;exact⟨row,row.toList,r1,λi v hi=>by rw[gB,←vI];exact hi,r2⟩
def by1 {W A:World} (C:∀b,b<W.heap.size ->A.heap[b]? =W.heap[b]?) {p:MemPlace} (B:p.block<W.heap.size):W.sameAt A p:=by
 cases p with
 |cell b j=>
  show A.cell? ⟨b,j,none⟩=W.cell? ⟨b,j,none⟩;unfold World.cell?;rw[C b B]
 |map b=>exact C b B
def by2 {W A:World} (j:A.os=W.os/\ A.output=W.output) (C:∀b,b<W.heap.size ->A.heap[b]? =W.heap[b]?) (B:MemPlace ->Prop):W.keptBut A B:=by
 refine⟨j.1,j.2,λi hi=> ?_⟩;rw[C i hi];rcases W.heap[i]? with _|o;rfl;cases o<;>first|exact⟨rfl,rfl,rfl,λ_ _=>rfl⟩|exact .inr ⟨rfl,rfl⟩|rfl
def bD8 {P:Program} {W:World} {r:Reach} {base:Nat} {t:TypeId} {v:Value} (j:P.underlying t=some (.int .u16)) (h:Value.okWide P W r base t v):∃w:Nat,v= .int .u16 (w:Int)/\ w<65536:=by
 have key:∃w:Int,v= .int .u16 w/\ (0<=w/\ w<=65535):=by
  simp only[Value.okWide,j,Cell.okWide] at h;cases v<;>simp_all [Cell.ok,IntKind.has];exact h.2
 obtain⟨w,rfl,h1,h2⟩:=key;exact⟨w.toNat,by rw[Int.toNat_of_nonneg h1],by omega⟩
def by4 (S:aT Tryz.prog X GL ae) (N:∀g l,GL.get g=some l ->g=1/\ l=xy)
 (V:∀{i:sT},i.OK ->∀{w:Nat},w<65536 ->bg Tryz.prog X GL ae 3 [.ag (m8 i),.i .u16 (w:Int)] (.b true))
 {H:Type} {enc:TypeId×Value ->H} (W:World) (base:Nat) (args:Array Value) (ds gs:List (DataW H)) (B:List MemPlace)
 (A:∀(j:Nat) t v,Tryz.f3.params[j]? =some t ->args[j]? =some v ->Value.okWide Tryz.prog W .any base t v)
 (hW:DataW.Whole enc Tryz.prog Tryz.f3.params.toList Rows.styleLeavesSpec.vars false W args.toList ds gs B)
 (hL:laidMetH Tryz.prog laidL W):Calls Tryz.prog 3 args W λe W'=>∃v,e= .returned v/\ Rows.styleLeavesSpec.post enc Tryz.prog Tryz.f3 false true false false W args v W':=by
 have I:=hW;obtain⟨p,q,L,hV,rfl,b2,b3⟩:=hW;have hA:DataW.TrodAll enc Tryz.prog W 0 (λ_=>true) true Tryz.f3.params.toList args.toList ds p:=L;rw[Tryz.params3] at hA A;obtain⟨v0,v1,d0,d1,p0,p1,rfl,rfl,rfl,t0,t1⟩:=trodAll_two hA;obtain⟨rfl,rfl⟩:=trodVars_none hV;have hb:=X1 hL (zx W GL);obtain⟨row,R,-⟩:=hb;have O:∀b row,fL W b=some row ->(zx W GL).im b=some row:=λ_ _ h=>h;have aV:=λp C=>I.lt p C;have G:=A 0 30 v0 rfl rfl;have Y:=A 1 31 v1 rfl rfl;obtain⟨D,rfl⟩:∃cs,v0= .agg cs:=by
  unfold Value.okWide at G;rw[Tryz.underlying30] at G;obtain⟨cs,e,-⟩:=G;exact⟨cs,e⟩
 obtain⟨w,rfl,hw⟩:=bD8 Tryz.underlying31 Y;obtain⟨f0,b1⟩:=id t0;obtain⟨x,Z,hx⟩:=bx8 (c:=zx W GL) O R b1;have e0:Value.agg D=Value.agg D.toList.toArray:=by rw[Array.toArray_toList]
 have E:bX (zx W GL) [.ag (m8 x),.i .u16 (w:Int)] [.agg D,.int .u16 (w:Int)]:=by
  rw[e0];exact .cons _ _ _ _ (.ag _ _ hx) (.cons _ _ _ _ (.i _ _) .nil)
 refine bc2 S (V Z hw) (by0 N (X1 hL _)) (λg l h=>h) E λv' w' y h1 c1 n hd J U=> ?_;obtain rfl:=bc3 hd;obtain rfl:v'= .bool true:=by cases U;rfl
 have hs:∀b,b<W.heap.size ->w'.heap[b]? =W.heap[b]? :=λb hb=>J.keep.same b hb λo ob hh=>hh.dM.elim;have st:∀{t:TypeId} {v:Value} {d:DataW H} {ps:List MemPlace},Tryz.prog.readableRec t=true ->t<Tryz.prog.types.size ->(∀p∈ps,p.block<W.heap.size) ->DataW.Trod enc Tryz.prog W 0 (λ_=>true) true t v d ps ->DataW.Trod enc Tryz.prog w' 0 (λb=>decide (b<W.heap.size)) true t v d ps:=
  λR ht C h=>WideElems.Trod_stays UO R ht h (λp h=>by1 hs (C p h)) (λp h=>by simpa using C p h)
 refine⟨[d0,d1],[],_,[],p0++p1,[],I,?_,?_,rfl,by2 J.keep.io hs _,λh=>by cases h⟩;rw[Py];exact trodAll_mk1 (shut_bool Tryz.underlying4 true);rw[Tryz.params3];exact⟨p0,p1,st UP bx9 (λp C=>aV p (by simp[C])) t0,⟨p1,[],st aN6 bD7 (λp C=>aV p (by simp[C])) t1,rfl,by simp⟩,rfl⟩
end
end
end AM
namespace AM.V
open Go Go.Proofs
noncomputable section
def by5:kI.flatL 0 Fp=true:=lR
def by6:∀g l,aH.get g=some l ->kI.flatL 0 l=true:=by
 intro g l h;have h':(T.e.put 1 Fp).get g=some l:=h;rw[T.get_put] at h';split at h';cases h';exact by5;cases h'
def B8:aT Tryz.prog pX aH aG:=br4 by6
def kD (l:List FE):Prop:=∀x∈l,xk Tryz.prog pX aH aG x.f x.e
def Lk:∀{l:List FE},kD l ->Du Tryz.prog pX aH aG (aX l)
 |[],_=>λf l h=>by cases h
 |x::l,ha=>by
  have C:=Lk (l:=l) λy D=>ha y (jw _ D);intro f A h e j;have h':((aX l).put x.f (x.e::Option.rec (motive:=λ_=>List aP) [] (λl=>l) ((aX l).get x.f))).get f=some A:=h;rw[T.get_put] at h';split at h';rename_i q;subst q;cases h';rcases ey.1 j with rfl|j;exact ha x jG;rcases B:(aX l).get x.f with _|A;rw[B] at j;cases j;rw[B] at j;exact C x.f A B e j;exact C f A h' e j
section
variable {P:Program} {X:aR} {GL:T (List AV)} {ae:T au} {bi:Nat ->List AV ->AH ->Option (AV×AH)} {tb:T (List aP)}
variable (S:aT P X GL ae)
def by7 (hb:Sd P X GL bi) (j:Du P X GL ae tb) {n f:Nat} {e:aP} (r:aW GL ae bi tb n f e []=true):xk P X GL ae f e:=
 OZ S (λ_ _ h=>h) hb j (c:= .leaf) (by rw[←O8];exact r)
def by8 (hb:Sd P X GL bi) (j:Du P X GL ae tb) {n f:Nat} {e:aP} (r:aW GL ae bi tb n f e [true]=true) (q:aW GL ae bi tb n f e [false]=true):xk P X GL ae f e:=
 OZ S (λ_ _ h=>h) hb j (c:= .node .leaf .leaf) (by rw[←O8];exact⟨r,q⟩)
end
def aS3 {l:List FE} (j:kD l):∀{x},rU l x [] ->xk Tryz.prog pX aH aG x.f x.e
 |⟨_,_⟩,r=>by7 B8 UW (Lk j) r
def B9 {l:List FE} (j:kD l):∀{x},rU l x [true] ->rU l x [false] ->xk Tryz.prog pX aH aG x.f x.e
 |⟨_,_⟩,r,q=>by8 B8 UW (Lk j) r q
abbrev bD9 (l n:List FE):Prop:=List.rec (motive:=λ_=>Prop) True (λx _ ih=>rU l x []/\ ih) n
def al {l m:List FE} (j:kD l) (A:kD m):∀{n},bD9 l n ->kD (n++m)
 |[],_=>A
 |_::_,h=>λ_ B=>(ey.1 B).elim (λe=>e▸aS3 j h.1) (al j A h.2 _)
def Js {l m:List FE} {x} (j:kD l) (A:kD m) (r:rU l x [true]) (q:rU l x [false]):kD (x::m):=λ_ B=>(ey.1 B).elim (λe=>e▸B9 j r q) (A _)
def a0:kD L0:=λ_ h=>by cases h
def a1:kD L1:=al a0 a0 ⟨r0,r2,r3,r5,r6,r8,r9,r12,r20,r21,r24,r36,r40,r48,r57,r62,r69,r78,r86,r90,r99,bw4,bw3,bs8,bt7,bt6,trivial⟩
def a2:kD L2:=al a1 a1 ⟨r1,r4,r7,r13,r25,r58,r79,r82,br7,bD4,trivial⟩
def a3:kD L3:=al a2 a2 ⟨r10,r11,r14,r26,r29,r33,r35,r38,r39,r41,r44,r59,r61,r66,r80,r83,r85,bu3,bw1,bu2,bv3,bt9,bw2,trivial⟩
def a4:kD L4:=al a3 a3 ⟨r15,r16,r28,r30,r34,r46,trivial⟩
def a5:kD L5:=al a4 a4 ⟨r17,r18,r22,r27,r31,r37,r45,r49,r50,r51,r60,r63,r67,r70,r71,r72,r84,r87,r91,r92,r93,bu0,bD5,bs1,br9,bD3,bt1,bv0,bu4,bv7,bs6,bu1,bt5,trivial⟩
def a6:kD L6:=al a5 (Js a5 (Js a5 (Js a5 (Js a5 (Js a5 a5 bt8 bt3) bw0 bs9) bv6 bs5) bv9 br8) bv5 br6) ⟨r19,r23,r32,r47,r56,r68,r77,r98,bs0,bu5,bs7,trivial⟩
def a7:kD L7:=al a6 a6 ⟨r43,r52,r65,r73,r89,r94,bu8,bs2,bu9,bv8,trivial⟩
def a8:kD L8:=al a7 a7 ⟨r53,r74,r95,bu6,bt2,trivial⟩
def a9:kD L9:=al a8 a8 ⟨r54,r75,r96,bt0,bt4,trivial⟩
def a10:kD XT:=al a9 a9 ⟨r55,r76,r81,r97,bu7,bs3,trivial⟩
def by9:bg Tryz.prog pX aH aG 4 [] (.b true):=(aS3 a10 rS).1
end
end AM.V
namespace AM
open Dg Go
noncomputable section
def aN2:(iy 3).all Pg=true:=lR
def dW GL:(List.range 3).all (ckW GL)=true:=lR
def dA GL:∀i,i<16 ->nu GL i=true
 |0,_=>dA0 _
 |1,_=>dA1 _
 |2,_=>dA2 _
 |3,_=>dA3 _
 |4,_=>dA4 _
 |5,_=>dA5 _
 |6,_=>dA6 _
 |7,_=>dA7 _
 |8,_=>dA8 _
 |9,_=>dA9 _
 |10,_=>aM0 _
 |11,_=>aM1 _
 |12,_=>aM2 _
 |13,_=>aM3 _
 |14,_=>aM4 _
 |15,_=>aM5 _
 |_+16,h=>by omega
def aS4 {GL a b} (j:cA 2 a=true) (hb:cA 2 b=true):ckA GL a b=true:=by
 obtain⟨i,hi⟩:=List.mem_iff_getElem?.1 (Ie j);have h:=dA GL i (eC.1 hi).1;unfold nu at h;rw[hi] at h;exact fX.1 h b (Ie hb)
section
variable {P:Program} {X:aR} {GL:T (List AV)}
variable (S:aT P X GL aG)
def Il {f a d} (h:wN GL f a d=true) hh:bP P X GL f (a.map eT) hh d hh:=
 dR S (hY (λ_ _ h=>h) iE (by unfold wN at h;rwa [O7] at h)) (n:=9) (by
  clear h;induction a with
  |nil=>rfl
  |cons a l j=>rw[jY,aL,jB,j]) hh
def aN5:dY P X GL:=by
 have W:∀v,v<3 ->ckW GL v=true:=λv j=>fX.1 (dW GL) v (mA.2 j);have I:∀{v a},v<3 ->cA (2-v) a=true ->ckJ GL v a=true:=λ{v a} j A=>fX.1 (nj.1 (W v j)).2 a (Ie A);have N:∀{t},cA 3 t=true ->wN GL 104 [t] (ι 0)=true/\ wN GL 409 [t] (ι 0)=true:=λ{t} B=>by
  cases t with
  |c _=>cases B
  |n a b=>
   have q:=nj.1 (show(cA 2 a&&cA 2 b)=true from B);have h:=nj.1 (aS4 (GL:=GL) q.1 q.2);exact⟨h.1,(nj.1 h.2).1⟩
 refine⟨λB=> ?_,λB=>Il S (N B).2,λj A=>Il S (nj.1 (I j A)).1,λj A=>Il S (nj.1 (nj.1 (I j A)).2).1,λ{v a b} j A hb=> ?_,λ{v} j=>Il S (nj.1 (W v j)).1⟩;have hb:=fX.1 aN2 _ (Ie B);unfold Pg at hb;simp only[aB,aU] at hb;obtain⟨⟨⟨h1,h2⟩,C⟩,D⟩:=hb;exact⟨at9 h1,h2,C,D,Il S (N B).1⟩;have h:RU GL v a b=true:=by
  rcases v with _|v;exact(nj.1 (nj.1 (aS4 A hb)).2).2;exact fX.1 (nj.1 (nj.1 (I j A)).2).2 b (Ie hb)
 exact Il S h
end
end
end AM
namespace AM
open Dg Go Go.Proofs
noncomputable section
def bz0:V.aH=mU:=lR
def bz1:dY Tryz.prog pX V.aH:=aN5 V.B8
def knA:(List.range 8).all (λk=>gM V.aH aG (λ_ _=>none) 100000 88 [.i .u8 (k:Nat)] (aI (iZ (k%6))))=true:=lR
def brA:(List.range 3).all (λn=>gM V.aH aG (λ_ _=>none) 100000 38 [.ds [.s [83],.s [80],.s [81]] 0 (n+1) 1] (aI (BI n)))=true:=lR
def miA:(List.range 6).all (λk=>gM V.aH aG (λ_ _=>none) 100000 287 [eR iF 5 true (jg 0),.s (sS k)] (.b true))=true:=lR
def mrA:(List.range 3).all (λk=>gM V.aH aG (λ_ _=>none) 100000 287 [eR iF 5 true (jg 10),.s (tY k)] (.b true))=true:=lR
def Qf {n f} {a:Nat ->List AV} {d:Nat ->AV} (h:(List.range n).all (λk=>gM V.aH aG (λ_ _=>none) 100000 f (a k) (d k))=true):∀k,k<n ->bg Tryz.prog pX V.aH aG f (a k) (d k):=λk j=>hY (λ_ _ h=>h) iE (fX.1 h k (mA.2 j))
def knB:xi Tryz.prog pX V.aH aG:=⟨Qf knA,Qf brA⟩
def mtB:tZ Tryz.prog pX V.aH aG:=⟨λk j=>⟨_,Qf miA k j⟩,λk j=>⟨_,Qf mrA k j⟩⟩
def bW5 {c:Nat}:∀{l:List Nat} {n:Nat},c∉l ->Bq c l n= .negSucc 0
 |[],_,_=>rfl
 |a::l,n,h=>by
  rw[ey,not_or] at h;show(bif Nat.beq a c then .ofNat n else Bq c l (Nat.succ n))=_;rw[show Nat.beq a c=false from by rw[bu];simpa using λe=>h.1 e.symm];exact bW5 h.2
def bE0 (s:List Nat) (h:AH):aZ 316 [.s s,.i .u8 10] h=fI (Bq 10 s 0) (λn=>some (AV.i .i64 n,h)):=lR
def ck4:Ib Tryz.prog pX V.aH:=λs h j=>by
 have e:aZ 316 [.s s,.i .u8 10] h=some (ι (-1),h):=by
  rw[bE0,bW5 j,zO];rfl
 have b:Sd Tryz.prog pX V.aH aZ:=UW;exact b 316 _ _ _ _ e
def bE1:DX Tryz.prog pX V.aH:=λo h=>by
 have e:aZ 498 [.p o 0] h=some (.p o 0,h):=lR;have b:Sd Tryz.prog pX V.aH aZ:=UW;exact b 498 _ _ _ _ e
def bE3 (n:Nat) (h:AH):aZ 224 [.s [32],ι (.ofNat n)] h=bif Nat.ble n 2000&&Nat.ble (len [32]) 1000 then (match rN [32] n with|some r=>some (.s r,h)|none=>none) else none:=lR
def bE4:Jg Tryz.prog pX V.aH:=λn h j=>by
 have e:aZ 224 [.s [32],ι (.ofNat n)] h=some (.s (List.replicate n 32),h):=by
  have h1:Nat.ble n 2000=true:=by rw[wX];simpa using j
  rw[bE3,h1,zP];show some (AV.s (List.replicate n [32]).flatten,h)=_;simp
 have b:Sd Tryz.prog pX V.aH aZ:=UW;exact b 224 _ _ _ _ e
def bz2 {i:sT} (ok:i.OK) {w:Nat} (j:w<65536):bg Tryz.prog pX V.aH aG 3 [.ag (m8 i),.i .u16 (w:Int)] (.b true):=
 bC2 V.B8 vd bz1 vd vd vd vd vd vd vd vd vd vd ck4 bE1 bE4 bz0 knB mtB V.by9 ok j
end
end AM
namespace AM
open Go Go.Proofs Go.Proofs.YtdicmpmcdjdneaaGreatDoor
def met (os:Os):laidMetH Tryz.prog laidL (zt os).memory:=by
 rw[MakeChecks.laidMetH_plain _ _ _ X0];exact wi6 os
section
variable {X:aR} {GL:T (List AV)} {ae:T au}
variable (S:aT Tryz.prog X GL ae)
def lifted (A:∀g l,GL.get g=some l ->g=1/\ l=xy)
 (B:∀{i:sT},i.OK ->∀{w:Nat},w<65536 ->bg Tryz.prog X GL ae 3 [.ag (m8 i),.i .u16 (w:Int)] (.b true))
 (os:Os) (j:os.Started) (H:Type) (enc:TypeId×Value ->H):
 ReturnsInHanded {} Tryz.checked os 3 .any (λw args=>(Rows.styleLeavesSpec.pre enc Tryz.prog Tryz.f3 [] false w args/\ laidMetH Tryz.prog laidL w)/\ sizedMet enc Tryz.prog Tryz.f3 (OpenSpec.ofChange Rows.styleLeavesSpec) false w args)
  (Rows.styleLeavesSpec.post enc Tryz.prog Tryz.f3 false true false false):=by
 refine returnsInHanded_of_change_and (C:=Tryz.checked) (X:=λw _=>laidMetH Tryz.prog laidL w) (λ_ _ _ hh h=>h.of_heap hh) cf9 j bn9 Tryz.func3
  (ChangeSpec.witness_shaped (enc:=enc) (C:=Tryz.checked) (os:=os) (X:=λw _=>laidMetH Tryz.prog laidL w) false (World.laidAll Tryz.prog os laidL) wA 8 (World.laidAll_os _ _ _) (wi1 os) (wi3 os) (wi4 os enc) (wi5 os enc) (met os)) ?_
 intro W base args ds gs before hval hW _ _ hL _;exact by4 S A B W base args ds gs before hval hW hL
def bz3 (j:∀g l,GL.get g=some l ->g=1/\ l=xy)
 (A:∀{i:sT},i.OK ->∀{w:Nat},w<65536 ->bg Tryz.prog X GL ae 3 [.ag (m8 i),.i .u16 (w:Int)] (.b true)):Rows.StyleLeavesSaid:=
 OpenClaim.holds_of_wide 3 Tryz.f3 rfl rfl rfl rfl rfl rfl rfl ⟨rfl,rfl,rfl,rfl,rfl⟩ rfl rfl rfl rfl rfl KO Tryz.func3 bn8 bo0 bo1
  (λos started H enc _=>lifted S j A os started H enc)
end
def bz4:Tryz.pinned.checked.prog.listedFits Rows.styleLeavesRow.laid=true:=by
 unfold Program.listedFits;rw[bm2,bo2];rfl
def tie:Tryz.prog.laidByTextLater zq [.data,.data,.data,.data] true:=
 Program.laidByTextLater_by_run 400 8 ti1 ti2 ti3 ti4 ti5 ti6 ti7 ti8 ti9
def bz5:Rows.styleLeavesRow.laidByTextAt .later Tryz.pinned [.data,.pinned,.data,.data,.data] true:=
 OpenClaim.laidByTextAt_pinned rfl rfl tie rfl rfl rfl rfl (λy j _e=>by
  simp only[Rows.styleLeavesRow,List.zip_cons_cons,List.zip_nil_right,ey,List.mem_nil_iff,or_false] at j;rcases j with rfl|rfl|rfl|rfl|rfl;cases _e;exact⟨bm1,lR⟩;cases _e;cases _e;cases _e) bz4
def bz6 (h:Rows.StyleLeavesSaid):Rows.StyleLeavesCardSaid:=
 Claim7.holds_tied_plain_at .later [] [.data,.pinned,.data,.data,.data] true (true, "883985334d3ce920f90968e2cb724b252be0e844bee74c9fc03986cffec30b5e") true
  h (λ_ h=>by cases h) cf1 (λ_ h=>by cases h) bz5 rfl ⟨rfl,rfl⟩ cf2 rfl
  (λf fn C A=>by
   obtain rfl:f=3:=gC (KO.symm.trans C)|>.symm;obtain rfl:fn=Tryz.f3:=(gC (Tryz.func3.symm.trans A)).symm;exact⟨cf3.symm,λj t B=>by
    rw[Tryz.params3] at B;have D:t∈[30,31]:=by simpa using Array.mem_of_getElem? B
    exact(show Tryz.prog.wantsStandIn t=false by simpa using fX.1 cf4 t D)⟩)
  cf5
def bz7:∀g l,V.aH.get g=some l ->g=1/\ l=xy:=λg l h=>by
 have h':(T.e.put 1 V.Fp).get g=some l:=h;rw[T.get_put] at h';split at h';rename_i e;cases h';exact⟨e,rfl⟩;cases h'
def styleLeaves_card:Rows.StyleLeavesCardSaid:=bz6 (bz3 V.B8 bz7 bz2)
end AM
namespace Go.Proofs.YtdicmpmcdjdneaaGreatDoor
/-- The given statement. -/
theorem styleLeaves_holds : Rows.StyleLeavesCardSaid := AM.styleLeaves_card
end Go.Proofs.YtdicmpmcdjdneaaGreatDoor
