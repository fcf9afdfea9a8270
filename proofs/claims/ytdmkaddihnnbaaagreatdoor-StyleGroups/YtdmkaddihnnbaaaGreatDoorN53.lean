/- Proved: the law koinelaw27.StyleGroups of the given program returns true, without a panic, for every input. Conditions: those of the given row and of its given card, no others. -/
import Derived.FnData
import Derived.OpenShut
import Derived.Test.YtdmkaddihnnbaaaGreatDoorCards
import Derived.WideKeyArgs
import Derived.Test.YtdmkaddihnnbaaaGreatDoorN57
import Derived.Test.YtdmkaddihnnbaaaGreatDoorN34
import Derived.Test.YtdmkaddihnnbaaaGreatDoorN35
import Derived.Test.YtdmkaddihnnbaaaGreatDoorN37
import Derived.Test.YtdmkaddihnnbaaaGreatDoorN39
import Derived.Test.YtdmkaddihnnbaaaGreatDoorN41
import Derived.Test.YtdmkaddihnnbaaaGreatDoorN42
import Derived.Test.YtdmkaddihnnbaaaGreatDoorN43
import Derived.Test.YtdmkaddihnnbaaaGreatDoorN44
import Derived.Test.YtdmkaddihnnbaaaGreatDoorN45
import Derived.Test.YtdmkaddihnnbaaaGreatDoorN46
import Derived.Test.YtdmkaddihnnbaaaGreatDoorN47
import Derived.Test.YtdmkaddihnnbaaaGreatDoorN48
import Derived.Test.YtdmkaddihnnbaaaGreatDoorN49
import Derived.Test.YtdmkaddihnnbaaaGreatDoorN50
import Derived.Test.YtdmkaddihnnbaaaGreatDoorN51
import Derived.Test.YtdmkaddihnnbaaaGreatDoorN52
set_option linter.all false
set_option maxRecDepth 1000000
namespace AM
open Go Go.ChangeShapes Go.Proofs Go.Proofs.YtdmkaddihnnbaaaGreatDoor Go.RowKit
noncomputable section
section
variable {P:Program} {W:World} {c:CE} {H:Type} {enc:TypeId×Value ->H} {sp:Nat ->Bool} {hd:Bool}
def bw5 {t e:TypeId} {k:IntKind} {ns:List Int} (I:P.underlying t=some (.array ns.length e)) (L:P.underlying e=some (.int k)) (J:P.cellsOf e=1) (B:P.cellsOf t=ns.length)
 {n:Nat} {cs:List Value} {p:List MemPlace} (h:DataW.trod enc P W 0 sp hd n t cs=some (.agg (ns.map λi=> .lit (.int k i)),p)):bX c (ns.map λi=>AV.i k i) cs:=by
 obtain⟨E,m,-,O,G,N,u⟩:=DataW.trod_array I h;injection O with hx1 hx2
 injection hx1 with hx1
 rw[B] at G;rw[J] at u;have e:cs=ns.map λi=>Value.int k i:=by
  apply xz;intro i;by_cases hi:i<ns.length;have h1:=u i hi;have C:E[i]? =some (E[i]'ω):=oc _;rw[C] at h1;obtain⟨j,U,V,-⟩:=DataW.trod_int L h1;have h2:(E.map (·.1))[i]? =(ns.map λi=>DataW.lit (Lit.int k i))[i]? :=by rw[hx1]
  rw[oh,oh,C,oc hi,V] at h2;have A:(DataW.lit (Lit.int k j):DataW H)=DataW.lit (Lit.int k ns[i]):=gC h2;injection A with A
  injection A with _ A
  rw[oh,oc hi,vH] at*;have D:cs[i]? =some (Value.int k j):=by
   have:=congrArg (·[0]?) U;simpa using this
  rw[D,A];rfl;rw[rI ω,rI (by rw[kU];omega)]
 rw[e];clear e u hx1 G N h I B;induction ns with
 |nil=>exact .nil
 |cons a l R=>exact .cons _ _ _ _ (.i _ _) R
end
def Lj:List Int:=[0,1,56,2,57,49,28,3,61,58,42,50,38,29,17,4,62,47,59,36,45,43,51,22,53,39,33,30,24,18,12,5,63,55,48,27,60,41,37,16,46,35,44,21,52,32,23,11,54,26,40,15,34,20,31,10,25,14,19,9,13,8,7,6]
def bw6 {H:Type}:(Rows.laid_math_bits_deBruijn64tab:DataW H)= .agg (Lj.map λi=> .lit (.int .u8 i)):=rfl
def xx:Tryz.prog.cellsOf 5=1:=lR
def Fq:Tryz.prog.cellsOf 22=1:=lR
def bw7:Tryz.prog.cellsOf 23=1:=lR
def bw8:Tryz.prog.cellsOf 24=1:=lR
def XU:Tryz.prog.cellsOf 26=5:=lR
def XV:Tryz.prog.cellsOf 28=8:=lR
def bw9:Tryz.prog.cellsOf 30=10:=lR
def bW3:Tryz.prog.cellsOf 193=4:=lR
def bW4:Tryz.prog.cellsOf 196=5:=lR
def ck3:Tryz.prog.cellsOf 714=64:=lR
section
variable {W:World} {c:CE} {H:Type} {enc:TypeId×Value ->H} {sp:Nat ->Bool} {hd:Bool}
def bx1 {α:Type} {l:List α} (h:l.length=4):∃a b c d,l=[a,b,c,d]:=by
 match l,h with
 |[a,b,c,d],_=>exact⟨a,b,c,d,rfl⟩
def XY {α:Type} {l:List α} (h:l.length=5):∃a b c d e,l=[a,b,c,d,e]:=by
 match l,h with
 |[a,b,c,d,e],_=>exact⟨a,b,c,d,e,rfl⟩
def kT {a:AV} {v:Value} (h:bX c [a] [v]):VR c a v:=by cases h with|cons _ _ _ _ h _=>exact h
variable {n b0:Nat} {row0:Array Value}
def B7 (j:∀b row,fL W b=some row ->c.im b=some row) (h0:fL W b0=some row0) {cs:List Value} {x:DataW H×List MemPlace} (h:DataW.trod enc Tryz.prog W 0 sp hd n 22 cs=some x):
 ∃(nl:Bool) (L:List Nat),(∀a∈L,a<256)/\ bX c [eR cB 1 nl L] cs:=
 Ky j h0 Tryz.underlying22 xx ω (λn cs x h=>pI Tryz.underlying5 h) h
def bx2 (u:∀b row,fL W b=some row ->c.im b=some row) (h0:fL W b0=some row0) {cs:List Value} {x:DataW H×List MemPlace} (h:DataW.trod enc Tryz.prog W 0 sp hd n 193 cs=some x):
 ∃l:qA,l.OK/\ bX c (n9 l) cs:=by
 obtain⟨E,j⟩:=BJ Tryz.underlying193 h;rw[bW3] at E;obtain⟨c0,c1,c2,c3,rfl⟩:=bx1 E;obtain⟨_,_,A⟩:=j 0 _ rfl;obtain⟨_,_,B⟩:=j 1 _ rfl;obtain⟨_,_,C⟩:=j 2 _ rfl;obtain⟨_,_,D⟩:=j 3 _ rfl;simp only[xx,Fq] at A B C D;obtain⟨l,L,N⟩:=pI (c:=c) Tryz.underlying5 A;obtain⟨nl,bs,G,b2⟩:=B7 u h0 B;obtain⟨ii,I,J⟩:=pI (c:=c) Tryz.underlying5 C;obtain⟨mk,O,m2⟩:=pI (c:=c) Tryz.underlying5 D;exact⟨⟨l,nl,bs,ii,mk⟩,⟨L,G,I,O⟩,.cons _ _ _ _ (kT N) (.cons _ _ _ _ (kT b2) (.cons _ _ _ _ (kT J) (.cons _ _ _ _ (kT m2) .nil)))⟩
def bx3 {cs:List Value} {x:DataW H×List MemPlace} (h:DataW.trod enc Tryz.prog W 0 sp hd n 196 cs=some x):∃l:qB,l.OK/\ bX c (oe l) cs:=by
 obtain⟨I,j⟩:=BJ Tryz.underlying196 h;rw[bW4] at I;obtain⟨c0,c1,c2,c3,c4,rfl⟩:=XY I;obtain⟨_,_,B⟩:=j 0 _ rfl;obtain⟨_,_,C⟩:=j 1 _ rfl;obtain⟨_,_,D⟩:=j 2 _ rfl;obtain⟨_,_,E⟩:=j 3 _ rfl;obtain⟨_,_,G⟩:=j 4 _ rfl;simp only[xx] at B C D E G;obtain⟨k,O,R⟩:=pI (c:=c) Tryz.underlying5 B;obtain⟨a,a1,a2⟩:=pI (c:=c) Tryz.underlying5 C;obtain⟨b,J,b2⟩:=pI (c:=c) Tryz.underlying5 D;obtain⟨cc,u,A⟩:=pI (c:=c) Tryz.underlying5 E;obtain⟨ii,L,N⟩:=pI (c:=c) Tryz.underlying5 G;exact⟨⟨k,a,b,cc,ii⟩,⟨O,a1,J,u,L⟩,.cons _ _ _ _ (kT R) (.cons _ _ _ _ (kT a2) (.cons _ _ _ _ (kT b2) (.cons _ _ _ _ (kT A) (.cons _ _ _ _ (kT N) .nil))))⟩
def bx4 (j:∀b row,fL W b=some row ->c.im b=some row) (h0:fL W b0=some row0) {cs:List Value} {x:DataW H×List MemPlace} (h:DataW.trod enc Tryz.prog W 0 sp hd n 26 cs=some x):
 ∃r:fA,r.OK/\ bX c (gI r) cs:=by
 obtain⟨G,u⟩:=BJ Tryz.underlying26 h;rw[XU] at G;obtain⟨c0,c1,c2,c3,c4,rfl⟩:=XY G;obtain⟨_,_,A⟩:=u 0 _ rfl;obtain⟨_,_,B⟩:=u 1 _ rfl;obtain⟨_,_,C⟩:=u 2 _ rfl;obtain⟨_,_,D⟩:=u 3 _ rfl;obtain⟨_,_,E⟩:=u 4 _ rfl;simp only[xx,Fq,bw7,bw8] at A B C D E;obtain⟨b,I,b2⟩:=pI (c:=c) Tryz.underlying5 A;obtain⟨m,N,m2⟩:=pI (c:=c) Tryz.underlying5 B;obtain⟨fl,f,f1,f2⟩:=B7 j h0 C;obtain⟨ll,l,J,L⟩:=Ky (en:=n9) (OK:=qA.OK) j h0 Tryz.underlying23 bW3 ω (λn cs x h=>bx2 j h0 h) D;obtain⟨O,r,r1,r2⟩:=Ky (en:=oe) (OK:=qB.OK) j h0 Tryz.underlying24 bW4 ω (λn cs x h=>bx3 h) E;exact⟨⟨b,m,fl,f,ll,l,O,r⟩,⟨I,N,f1,J,r1⟩,.cons _ _ _ _ (kT b2) (.cons _ _ _ _ (kT m2) (.cons _ _ _ _ (kT f2) (.cons _ _ _ _ (kT L) (.cons _ _ _ _ (kT r2) .nil))))⟩
def bx5 {α:Type} {l:List α} (h:l.length=8):∃a b c d e f g k,l=[a,b,c,d,e,f,g,k]:=by
 match l,h with
 |[a,b,c,d,e,f,g,k],_=>exact⟨a,b,c,d,e,f,g,k,rfl⟩
def bx6 {α:Type} {l:List α} (h:l.length=10):∃a b c d e f g k m n,l=[a,b,c,d,e,f,g,k,m,n]:=by
 match l,h with
 |[a,b,c,d,e,f,g,k,m,n],_=>exact⟨a,b,c,d,e,f,g,k,m,n,rfl⟩
def bx7 (j:∀b row,fL W b=some row ->c.im b=some row) (h0:fL W b0=some row0) {cs:List Value} {x:DataW H×List MemPlace} (h:DataW.trod enc Tryz.prog W 0 sp hd n 28 cs=some x):
 ∃r:zh,r.OK/\ bX c (rx r) cs:=by
 obtain⟨E,u⟩:=BJ Tryz.underlying28 h;rw[XV] at E;obtain⟨c0,c1,c2,c3,c4,c5,O,R,rfl⟩:=bx5 E;obtain⟨_,_,A⟩:=u 0 _ rfl;obtain⟨_,_,B⟩:=u 1 _ rfl;obtain⟨_,_,C⟩:=u 2 _ rfl;obtain⟨_,_,D⟩:=u 3 _ rfl;simp only[xx,Fq,XU] at A B C D;obtain⟨x,N,x2⟩:=bx4 (c:=c) j h0 A;obtain⟨b,G,b2⟩:=pI (c:=c) Tryz.underlying5 B;obtain⟨ll,l,I,J⟩:=B7 j h0 C;obtain⟨sl,s,U,L⟩:=B7 j h0 D;exact⟨⟨x,b,ll,l,sl,s⟩,⟨N,G,I⟩,TX x2 (.cons _ _ _ _ (kT b2) (.cons _ _ _ _ (kT J) (.cons _ _ _ _ (kT L) .nil)))⟩
def bx8 (j:∀b row,fL W b=some row ->c.im b=some row) (h0:fL W b0=some row0) {cs:List Value} {x:DataW H×List MemPlace} (h:DataW.trod enc Tryz.prog W 0 sp hd n 30 cs=some x):
 ∃r:sT,r.OK/\ bX c (m8 r) cs:=by
 obtain⟨D,u⟩:=BJ Tryz.underlying30 h;rw[bw9] at D;obtain⟨c0,c1,c2,c3,c4,c5,J,L,c8,c9,rfl⟩:=bx6 D;obtain⟨_,_,A⟩:=u 0 _ rfl;obtain⟨_,_,B⟩:=u 1 _ rfl;obtain⟨_,_,C⟩:=u 2 _ rfl;simp only[xx,Fq,XV] at A B C;obtain⟨x,I,x2⟩:=bx7 (c:=c) j h0 A;obtain⟨E,r,r1,r2⟩:=B7 j h0 B;obtain⟨w,N,G⟩:=pI (c:=c) Tryz.underlying5 C;exact⟨⟨x,E,r,w⟩,⟨I,r1⟩,TX x2 (.cons _ _ _ _ (kT r2) (.cons _ _ _ _ (kT G) .nil))⟩
end
def laidL:List (String×DataW Unit):=Rows.styleGroupsRow.laid
def zx (W:World) (G:T (List AV)):CE:={ dM:=λ_=>False,ρ:=λ_=>(0,0),sz:=λ_=>0,im:=fL W,gl:=G.get }
def xy:List AV:=Lj.map λi=>AV.i .u8 i
def XZ:Tryz.prog.globalNamed "math/bits.deBruijn64tab" =some 1:=lR
def tDB:(Tryz.prog.globals[1]?).map (·.type)=some 714:=lR
def bx9:30<Tryz.prog.types.size:=by rw[Tryz.types_size];decide
def X0:(laidL.all λx=>x.2.handleName?.isNone)=true:=lR
def X1 {W:World} (h:laidMetH Tryz.prog laidL W) (c:CE):∃row,fL W 1=some row/\ bX c xy row.toList:=by
 rw[MakeChecks.laidMetH_plain _ _ _ X0] at h;obtain⟨ps,⟨E,t0,A,D,G,I,B,C,j,u,_⟩,_⟩:=h;obtain rfl:=gC (XZ.symm.trans B);obtain rfl:=gC (tDB.symm.trans C);refine⟨A,?_,?_⟩;unfold World.var? at j;rw[XZ] at j;simp only[Option.bind_some] at j;unfold fL;split at j;rename_i e;rw[e];exact j;cases j;rw[bw6] at u;exact bw5 (ns:=Lj) Tryz.underlying714 Tryz.underlying5 xx ck3 u
section
variable {X:aR} {GL:T (List AV)} {ae:T au}
def by0 {W:World} (j:∀g l,GL.get g=some l ->g=1/\ l=xy) (u:∃row,fL W 1=some row/\ bX (zx W GL) xy row.toList):RS (dJ X) (zx W GL) h0 W where
 nx:=λo h=>h.elim
 lt:=λo ob h=>by rw[G8] at h;cases h
 obj:=λo ob h=>h.dM.elim
 inj:=λo A a b h=>h.dM.elim
 im:=λb row hb=>Dl hb
 dj:=λo ob h=>h.dM.elim
 gl:=λg l h=>by
  obtain⟨rfl,rfl⟩:=j g l h;obtain⟨row,r1,r2⟩:=u;exact⟨row,row.toList,r1,λi v hi=>by rw[gB,←vI];exact hi,r2⟩
def by1 {W u:World} (B:∀b,b<W.heap.size ->u.heap[b]? =W.heap[b]?) {p:MemPlace} (A:p.block<W.heap.size):W.sameAt u p:=by
 cases p with
 |cell b j=>
  show u.cell? ⟨b,j,none⟩=W.cell? ⟨b,j,none⟩;unfold World.cell?;rw[B b A]
 |map b=>exact B b A
def by2 {W u:World} (j:u.os=W.os/\ u.output=W.output) (B:∀b,b<W.heap.size ->u.heap[b]? =W.heap[b]?) (A:MemPlace ->Prop):W.keptBut u A:=by
 refine⟨j.1,j.2,λi hi=> ?_⟩;rw[B i hi];rcases W.heap[i]? with _|o;rfl;cases o<;>first|exact⟨rfl,rfl,rfl,λ_ _=>rfl⟩|exact .inr ⟨rfl,rfl⟩|rfl
def by4 (S:aT Tryz.prog X GL ae) (L:∀g l,GL.get g=some l ->g=1/\ l=xy)
 (U:∀{i:sT},i.OK ->bg Tryz.prog X GL ae 3 [.ag (m8 i)] (.b true))
 {H:Type} {enc:TypeId×Value ->H} (W:World) (base:Nat) (args:Array Value) (ds gs:List (DataW H)) (u:List MemPlace)
 (A:∀(j:Nat) t v,Tryz.f3.params[j]? =some t ->args[j]? =some v ->Value.okWide Tryz.prog W .any base t v)
 (hW:DataW.Whole enc Tryz.prog Tryz.f3.params.toList Rows.styleGroupsSpec.vars false W args.toList ds gs u)
 (hL:laidMetH Tryz.prog laidL W):Calls Tryz.prog 3 args W λe W'=>∃v,e= .returned v/\ Rows.styleGroupsSpec.post enc Tryz.prog Tryz.f3 false true false false W args v W':=by
 have G:=hW;obtain⟨p,q,J,hV,rfl,b1,b2⟩:=hW;have Z:DataW.TrodAll enc Tryz.prog W 0 (λ_=>true) true Tryz.f3.params.toList args.toList ds p:=J;rw[Tryz.params3] at Z A;obtain⟨v0,d0,rfl,rfl,t0⟩:=trodAll_one Z;obtain⟨rfl,rfl⟩:=trodVars_none hV;have hb:=X1 hL (zx W GL);obtain⟨row,O,-⟩:=hb;have N:∀b row,fL W b=some row ->(zx W GL).im b=some row:=λ_ _ h=>h;have aV:=λp E=>G.lt p E;have D:=A 0 30 v0 rfl rfl;obtain⟨B,rfl⟩:∃cs,v0= .agg cs:=by
  unfold Value.okWide at D;rw[Tryz.underlying30] at D;obtain⟨cs,e,-⟩:=D;exact⟨cs,e⟩
 obtain⟨f0,Y⟩:=id t0;obtain⟨x,V,hx⟩:=bx8 (c:=zx W GL) N O Y;have e0:Value.agg B=Value.agg B.toList.toArray:=by rw[Array.toArray_toList]
 have C:bX (zx W GL) [.ag (m8 x)] [.agg B]:=by
  rw[e0];exact .cons _ _ _ _ (.ag _ _ hx) .nil
 refine bc2 S (U V) (by0 L (X1 hL _)) (λg l h=>h) C λv' w' y h1 c1 n hd I R=> ?_;obtain rfl:=bc3 hd;obtain rfl:v'= .bool true:=by cases R;rfl
 have hs:∀b,b<W.heap.size ->w'.heap[b]? =W.heap[b]? :=λb hb=>I.keep.same b hb λo ob hh=>hh.dM.elim;have st:∀{t:TypeId} {v:Value} {d:DataW H} {ps:List MemPlace},Tryz.prog.readableRec t=true ->t<Tryz.prog.types.size ->(∀p∈ps,p.block<W.heap.size) ->DataW.Trod enc Tryz.prog W 0 (λ_=>true) true t v d ps ->DataW.Trod enc Tryz.prog w' 0 (λb=>decide (b<W.heap.size)) true t v d ps:=
  λO ht E h=>WideElems.Trod_stays UO O ht h (λp h=>by1 hs (E p h)) (λp h=>by simpa using E p h)
 refine⟨[d0],[],_,[],p,[],G,?_,?_,rfl,by2 I.keep.io hs _,λh=>by cases h⟩;rw[Py];exact trodAll_mk1 (shut_bool Tryz.underlying4 true);rw[Tryz.params3];exact⟨p,[],st UP bx9 (λp' E=>aV p' (by simp[E])) t0,rfl,by simp⟩
end
end
end AM
namespace AM.V
open Go Go.Proofs
noncomputable section
def by5:kI.flatL 0 Fp=true:=lR
def by6:∀g l,aH.get g=some l ->kI.flatL 0 l=true:=by
 intro g l h;have h':(T.e.put 1 Fp).get g=some l:=h;rw[T.get_put] at h';split at h';cases h';exact by5;cases h'
def B8:aT Tryz.prog pX aH aG:=br4 by6
def kD (l:List FE):Prop:=∀x∈l,sf Tryz.prog pX aH aG x.f x.e
def rH:kD []:=λx h=>by cases h
def nC {f:Nat} {e:aP} {l:List FE} (h:sf Tryz.prog pX aH aG f e) (t:kD l):kD (⟨f,e⟩::l):=λx j=>by
 rcases ed.1 j with rfl|j;exact h;exact t x j
def sU {l m:List FE} (h:kD l) (t:kD m):kD (l++m):=λx j=>by
 rcases fO.1 j with j|j;exact h x j;exact t x j
def Lk:∀{l:List FE},kD l ->Du Tryz.prog pX aH aG (aX l)
 |[],_=>λf l h=>by cases h
 |x::l,ha=>by
  have B:=Lk (l:=l) λy C=>ha y (jw _ C);intro f u h e j;have h':((aX l).put x.f (x.e::Option.rec (motive:=λ_=>List aP) [] (λl=>l) ((aX l).get x.f))).get f=some u:=h;rw[T.get_put] at h';split at h';rename_i q;subst q;cases h';rcases ed.1 j with rfl|j;exact ha x jG;rcases A:(aX l).get x.f with _|u;rw[A] at j;cases j;rw[A] at j;exact B x.f u A e j;exact B f u h' e j
section
variable {P:Program} {X:aR} {GL:T (List AV)} {ae:T au} {bi:Nat ->List AV ->AH ->Option (AV×AH)} {tb:T (List aP)}
variable (S:aT P X GL ae)
def by7 (hb:Sd P X GL bi) (j:Du P X GL ae tb) {n f:Nat} {e:aP} (r:aW GL ae bi tb n f e []=true):sf P X GL ae f e:=
 OZ S (λ_ _ h=>h) hb j (c:= .leaf) (by rw[←O8];exact r)
def by8 (hb:Sd P X GL bi) (j:Du P X GL ae tb) {n f:Nat} {e:aP} (r:aW GL ae bi tb n f e [true]=true) (q:aW GL ae bi tb n f e [false]=true):sf P X GL ae f e:=
 OZ S (λ_ _ h=>h) hb j (c:= .node .leaf .leaf) (by rw[←O8];exact⟨r,q⟩)
end
def bw {l:List FE} (j:kD l) {n f:Nat} {e:aP} (r:aW aH aG aZ (aX l) n f e []=true):sf Tryz.prog pX aH aG f e:=by7 B8 UW (Lk j) r
def B9 {l:List FE} (j:kD l) {n f:Nat} {e:aP} (r:aW aH aG aZ (aX l) n f e [true]=true) (q:aW aH aG aZ (aX l) n f e [false]=true):sf Tryz.prog pX aH aG f e:=by8 B8 UW (Lk j) r q
def a0:kD L0:=rH
def a1:kD L1:=sU (nC (bw a0 r0) (nC (bw a0 r2) (nC (bw a0 r3) (nC (bw a0 r5) (nC (bw a0 r6) (nC (bw a0 r8) (nC (bw a0 r9) (nC (bw a0 r12) (nC (bw a0 r20) (nC (bw a0 r21) (nC (bw a0 r24) (nC (bw a0 r36) (nC (bw a0 r40) (nC (bw a0 r48) (nC (bw a0 r57) (nC (bw a0 r62) (nC (bw a0 r69) (nC (bw a0 r78) (nC (bw a0 r86) (nC (bw a0 r90) (nC (bw a0 r99) (nC (bw a0 bw4) (nC (bw a0 bw3) (nC (bw a0 bs8) (nC (bw a0 bt7) (nC (bw a0 bt6) rH)))))))))))))))))))))))))) a0
def a2:kD L2:=sU (nC (bw a1 r1) (nC (bw a1 r4) (nC (bw a1 r7) (nC (bw a1 r13) (nC (bw a1 r25) (nC (bw a1 r58) (nC (bw a1 r79) (nC (bw a1 r82) (nC (bw a1 br7) (nC (bw a1 bv2) rH)))))))))) a1
def a3:kD L3:=sU (nC (bw a2 r10) (nC (bw a2 r11) (nC (bw a2 r14) (nC (bw a2 r26) (nC (bw a2 r29) (nC (bw a2 r33) (nC (bw a2 r35) (nC (bw a2 r38) (nC (bw a2 r39) (nC (bw a2 r41) (nC (bw a2 r44) (nC (bw a2 r59) (nC (bw a2 r61) (nC (bw a2 r66) (nC (bw a2 r80) (nC (bw a2 r83) (nC (bw a2 r85) (nC (bw a2 bu3) (nC (bw a2 bw1) (nC (bw a2 bu2) (nC (bw a2 bv3) (nC (bw a2 bt9) (nC (bw a2 bw2) rH))))))))))))))))))))))) a2
def a4:kD L4:=sU (nC (bw a3 r15) (nC (bw a3 r16) (nC (bw a3 r28) (nC (bw a3 r30) (nC (bw a3 r34) (nC (bw a3 r46) rH)))))) a3
def a5:kD L5:=sU (nC (bw a4 r17) (nC (bw a4 r18) (nC (bw a4 r22) (nC (bw a4 r27) (nC (bw a4 r31) (nC (bw a4 r37) (nC (bw a4 r45) (nC (bw a4 r49) (nC (bw a4 r50) (nC (bw a4 r51) (nC (bw a4 r60) (nC (bw a4 r63) (nC (bw a4 r67) (nC (bw a4 r70) (nC (bw a4 r71) (nC (bw a4 r72) (nC (bw a4 r84) (nC (bw a4 r87) (nC (bw a4 r91) (nC (bw a4 r92) (nC (bw a4 r93) (nC (bw a4 bu0) (nC (bw a4 bv4) (nC (bw a4 bs1) (nC (bw a4 br9) (nC (bw a4 bv1) (nC (bw a4 bt1) (nC (bw a4 bv0) (nC (bw a4 bu4) (nC (bw a4 bv7) (nC (bw a4 bs6) (nC (bw a4 bu1) (nC (bw a4 bt5) rH))))))))))))))))))))))))))))))))) a4
def a6:kD L6:=sU (nC (bw a5 r19) (nC (bw a5 r23) (nC (bw a5 r32) (nC (B9 a5 bv5 br6) (nC (bw a5 r47) (nC (bw a5 r56) (nC (B9 a5 bv9 br8) (nC (bw a5 r68) (nC (bw a5 r77) (nC (B9 a5 bv6 bs5) (nC (bw a5 r98) (nC (B9 a5 bw0 bs9) (nC (bw a5 bs0) (nC (bw a5 bu5) (nC (B9 a5 bt8 bt3) (nC (bw a5 bs7) rH)))))))))))))))) a5
def a7:kD L7:=sU (nC (bw a6 r43) (nC (bw a6 r52) (nC (bw a6 r65) (nC (bw a6 r73) (nC (bw a6 r89) (nC (bw a6 r94) (nC (bw a6 bu8) (nC (bw a6 bs2) (nC (bw a6 bu9) (nC (bw a6 bv8) rH)))))))))) a6
def a8:kD L8:=sU (nC (bw a7 r53) (nC (bw a7 r74) (nC (bw a7 r95) (nC (bw a7 bu6) (nC (bw a7 bt2) rH))))) a7
def a9:kD L9:=sU (nC (bw a8 r54) (nC (bw a8 r75) (nC (bw a8 r96) (nC (bw a8 bt0) (nC (bw a8 bt4) rH))))) a8
def a10:kD XT:=sU (nC (bw a9 r55) (nC (bw a9 r76) (nC (bw a9 r81) (nC (bw a9 r97) (nC (bw a9 bu7) (nC (bw a9 bs3) rH)))))) a9
def by9:bg Tryz.prog pX aH aG 4 [] (.b true):=(bw a10 rS).1
end
end AM.V
namespace AM
open Dg Go Go.Proofs
noncomputable section
def bz0:V.aH=mU:=lR
def bz1:dY Tryz.prog pX V.aH:=aN5 V.B8 Sy
def kn0:gM V.aH aG (λ_ _=>none) 100000 83 [.i .u8 (0:Nat)] (aI (iZ 0))=true:=lR
def kn1:gM V.aH aG (λ_ _=>none) 100000 83 [.i .u8 (1:Nat)] (aI (iZ 1))=true:=lR
def kn2:gM V.aH aG (λ_ _=>none) 100000 83 [.i .u8 (2:Nat)] (aI (iZ 2))=true:=lR
def kn3:gM V.aH aG (λ_ _=>none) 100000 83 [.i .u8 (3:Nat)] (aI (iZ 3))=true:=lR
def kn4:gM V.aH aG (λ_ _=>none) 100000 83 [.i .u8 (4:Nat)] (aI (iZ 4))=true:=lR
def kn5:gM V.aH aG (λ_ _=>none) 100000 83 [.i .u8 (5:Nat)] (aI (iZ 5))=true:=lR
def kn6:gM V.aH aG (λ_ _=>none) 100000 83 [.i .u8 (6:Nat)] (aI (iZ 0))=true:=lR
def kn7:gM V.aH aG (λ_ _=>none) 100000 83 [.i .u8 (7:Nat)] (aI (iZ 1))=true:=lR
def br0:gM V.aH aG (λ_ _=>none) 100000 36 [.ds [.s [83],.s [80],.s [81]] 0 1 1] (aI (BI 0))=true:=lR
def br1:gM V.aH aG (λ_ _=>none) 100000 36 [.ds [.s [83],.s [80],.s [81]] 0 2 1] (aI (BI 1))=true:=lR
def br2:gM V.aH aG (λ_ _=>none) 100000 36 [.ds [.s [83],.s [80],.s [81]] 0 3 1] (aI (BI 2))=true:=lR
def knB:xi Tryz.prog pX V.aH aG where
 kn:=λk j=>by
  rcases(show k=0∨k=1∨k=2∨k=3∨k=4∨k=5∨k=6∨k=7 by omega) with rfl|rfl|rfl|rfl|rfl|rfl|rfl|rfl;exact hY (λ_ _ h=>h) iE kn0;exact hY (λ_ _ h=>h) iE kn1;exact hY (λ_ _ h=>h) iE kn2;exact hY (λ_ _ h=>h) iE kn3;exact hY (λ_ _ h=>h) iE kn4;exact hY (λ_ _ h=>h) iE kn5;exact hY (λ_ _ h=>h) iE kn6;exact hY (λ_ _ h=>h) iE kn7
 bare:=λn u=>by
  rcases(show n=0∨n=1∨n=2 by omega) with rfl|rfl|rfl;exact hY (λ_ _ h=>h) iE br0;exact hY (λ_ _ h=>h) iE br1;exact hY (λ_ _ h=>h) iE br2
def mi0:gM V.aH aG (λ_ _=>none) 100000 280 [eR iF 5 true (jg 0),.s (sS 0)] (.b true)=true:=lR
def mi1:gM V.aH aG (λ_ _=>none) 100000 280 [eR iF 5 true (jg 0),.s (sS 1)] (.b true)=true:=lR
def mi2:gM V.aH aG (λ_ _=>none) 100000 280 [eR iF 5 true (jg 0),.s (sS 2)] (.b true)=true:=lR
def mi3:gM V.aH aG (λ_ _=>none) 100000 280 [eR iF 5 true (jg 0),.s (sS 3)] (.b true)=true:=lR
def mi4:gM V.aH aG (λ_ _=>none) 100000 280 [eR iF 5 true (jg 0),.s (sS 4)] (.b true)=true:=lR
def mi5:gM V.aH aG (λ_ _=>none) 100000 280 [eR iF 5 true (jg 0),.s (sS 5)] (.b true)=true:=lR
def mr0:gM V.aH aG (λ_ _=>none) 100000 280 [eR iF 5 true (jg 10),.s (tY 0)] (.b true)=true:=lR
def mr1:gM V.aH aG (λ_ _=>none) 100000 280 [eR iF 5 true (jg 10),.s (tY 1)] (.b true)=true:=lR
def mr2:gM V.aH aG (λ_ _=>none) 100000 280 [eR iF 5 true (jg 10),.s (tY 2)] (.b true)=true:=lR
def mtB:tZ Tryz.prog pX V.aH aG where
 id:=λk j=>by
  rcases(show k=0∨k=1∨k=2∨k=3∨k=4∨k=5 by omega) with rfl|rfl|rfl|rfl|rfl|rfl;exact⟨_,hY (λ_ _ h=>h) iE mi0⟩;exact⟨_,hY (λ_ _ h=>h) iE mi1⟩;exact⟨_,hY (λ_ _ h=>h) iE mi2⟩;exact⟨_,hY (λ_ _ h=>h) iE mi3⟩;exact⟨_,hY (λ_ _ h=>h) iE mi4⟩;exact⟨_,hY (λ_ _ h=>h) iE mi5⟩
 rm:=λk j=>by
  rcases(show k=0∨k=1∨k=2 by omega) with rfl|rfl|rfl;exact⟨_,hY (λ_ _ h=>h) iE mr0⟩;exact⟨_,hY (λ_ _ h=>h) iE mr1⟩;exact⟨_,hY (λ_ _ h=>h) iE mr2⟩
def bW5 {c:Nat}:∀{l:List Nat} {n:Nat},c∉l ->Bq c l n= .negSucc 0
 |[],_,_=>rfl
 |a::l,n,h=>by
  rw[ed,not_or] at h;show(bif Nat.beq a c then .ofNat n else Bq c l (Nat.succ n))=_;rw[show Nat.beq a c=false from by rw[bu];simpa using λe=>h.1 e.symm];exact bW5 h.2
def ck9 (s:List Nat) (h:AH):aZ 309 [.s s,.i .u8 10] h=fI (Bq 10 s 0) (λn=>some (AV.i .i64 n,h)):=lR
def ck4:Ib Tryz.prog pX V.aH:=λs h j=>by
 have e:aZ 309 [.s s,.i .u8 10] h=some (ι (-1),h):=by
  rw[ck9,bW5 j,zO];rfl
 have b:Sd Tryz.prog pX V.aH aZ:=UW;exact b 309 _ _ _ _ e
def bz2 {i:sT} (ok:i.OK):bg Tryz.prog pX V.aH aG 3 [.ag (m8 i)] (.b true):=
 cj2 V.B8 aL7 bz1 Sy aL4 aL5 aL3 aL6 aL8 aL9 bX8 ck4 bz0 knB mtB V.by9 ok
end
end AM
namespace AM
open Go Go.Proofs Go.Proofs.YtdmkaddihnnbaaaGreatDoor
def met (os:Os):laidMetH Tryz.prog laidL (zt os).memory:=by
 rw[MakeChecks.laidMetH_plain _ _ _ X0];exact wi6 os
section
variable {X:aR} {GL:T (List AV)} {ae:T au}
variable (S:aT Tryz.prog X GL ae)
def lifted (u:∀g l,GL.get g=some l ->g=1/\ l=xy)
 (A:∀{i:sT},i.OK ->bg Tryz.prog X GL ae 3 [.ag (m8 i)] (.b true))
 (os:Os) (j:os.Started) (H:Type) (enc:TypeId×Value ->H):
 ReturnsInHanded {} Tryz.checked os 3 .any (λw args=>(Rows.styleGroupsSpec.pre enc Tryz.prog Tryz.f3 [] false w args/\ laidMetH Tryz.prog laidL w)/\ sizedMet enc Tryz.prog Tryz.f3 (OpenSpec.ofChange Rows.styleGroupsSpec) false w args)
  (Rows.styleGroupsSpec.post enc Tryz.prog Tryz.f3 false true false false):=by
 refine returnsInHanded_of_change_and (C:=Tryz.checked) (X:=λw _=>laidMetH Tryz.prog laidL w) (λ_ _ _ B h=>h.of_heap B) cf9 j bn9 Tryz.func3
  (ChangeSpec.witness_shaped (enc:=enc) (C:=Tryz.checked) (os:=os) (X:=λw _=>laidMetH Tryz.prog laidL w) false (World.laidAll Tryz.prog os laidL) wA 8 (World.laidAll_os _ _ _) (wi1 os) (wi3 os) (wi4 os enc) (wi5 os enc) (met os)) ?_
 intro W base args ds gs before hval hW _ _ hL _;exact by4 S u A W base args ds gs before hval hW hL
def bz3 (j:∀g l,GL.get g=some l ->g=1/\ l=xy)
 (u:∀{i:sT},i.OK ->bg Tryz.prog X GL ae 3 [.ag (m8 i)] (.b true)):Rows.StyleGroupsSaid:=
 OpenClaim.holds_of_wide 3 Tryz.f3 rfl rfl rfl rfl rfl rfl rfl ⟨rfl,rfl,rfl,rfl,rfl⟩ rfl rfl rfl rfl rfl KO Tryz.func3 bn8 bo0 bo1
  (λos started H enc _=>lifted S j u os started H enc)
end
def bz4:Tryz.pinned.checked.prog.listedFits Rows.styleGroupsRow.laid=true:=by
 unfold Program.listedFits;rw[bm2,bo2];rfl
def tie:Tryz.prog.laidByTextLater zq [.data,.data,.data,.data] true:=
 Program.laidByTextLater_by_run 400 8 ti1 ti2 ti3 ti4 ti5 ti6 ti7 ti8 ti9
def bz5:Rows.styleGroupsRow.laidByTextAt .later Tryz.pinned [.data,.pinned,.data,.data,.data] true:=
 OpenClaim.laidByTextAt_pinned rfl rfl tie rfl rfl rfl rfl (λy j _e=>by
  simp only[Rows.styleGroupsRow,List.zip_cons_cons,List.zip_nil_right,ed,List.mem_nil_iff,or_false] at j;rcases j with rfl|rfl|rfl|rfl|rfl;cases _e;exact⟨bm1,lR⟩;cases _e;cases _e;cases _e) bz4
def bz6 (h:Rows.StyleGroupsSaid):Rows.StyleGroupsCardSaid:=
 Claim7.holds_tied_plain_at .later [] [.data,.pinned,.data,.data,.data] true (true, "908ef88904c7dcc2ba989ca48a6f628a7930bd25cdbeee945937b36883bb07bf") true
  h (λ_ h=>by cases h) cf1 (λ_ h=>by cases h) bz5 rfl ⟨rfl,rfl⟩ cf2 rfl
  (λf fn B u=>by
   obtain rfl:f=3:=gC (KO.symm.trans B)|>.symm;obtain rfl:fn=Tryz.f3:=(gC (Tryz.func3.symm.trans u)).symm;exact⟨cf3.symm,λj t A=>by
    rw[Tryz.params3] at A;have C:t∈[30]:=by simpa using Array.mem_of_getElem? A
    exact(show Tryz.prog.wantsStandIn t=false by simpa using fX.1 cf4 t (xI [3] C))⟩)
  cf5
def bz7:∀g l,V.aH.get g=some l ->g=1/\ l=xy:=λg l h=>by
 have h':(T.e.put 1 V.Fp).get g=some l:=h;rw[T.get_put] at h';split at h';rename_i e;cases h';exact⟨e,rfl⟩;cases h'
def styleGroups_card:Rows.StyleGroupsCardSaid:=bz6 (bz3 V.B8 bz7 bz2)
end AM
namespace Go.Proofs.YtdmkaddihnnbaaaGreatDoor
/-- The given statement. -/
theorem styleGroups_holds : Rows.StyleGroupsCardSaid := AM.styleGroups_card
end Go.Proofs.YtdmkaddihnnbaaaGreatDoor
