import Derived.ChangeKeysEq
import Derived.Laws.Cover3
import Derived.Laws.Pointers
import Derived.MapKept
import Derived.WideMake
import Derived.Test.YtdicmpmcdjdneaaGreatDoorN0
set_option linter.all false
namespace AM
open Go
noncomputable section
section
variable {P:Program} {CR:Nat ->Code ->aw ->Prop}
variable {c:CE} {h:AH} {w:World} {ev:MA ->AV} {ρ:Operand ->Value} {o:Oper} {t:TypeId} {i:TI}
variable {a:MA} {x:Operand} {n:Nat}
def xR (X:Cx CR c h w ev ρ) (j:dC a x=true) (B:nA ev a=some n) {y} (C:n<=y) code:(Instr.sliceBound (ρ x) y code).run P w= .ok n w:=by
 obtain⟨k,A⟩:=th X j B;rw[A];simp[Instr.sliceBound,asIntOf,C]
def vX {a x} (h:gK a x=true):(a=none/\ x=none)∨∃j A,a=some j/\ x=some A/\ dC j A=true:=by
 cases a<;>cases x<;>first|exact .inl ⟨rfl,rfl⟩|exact .inr ⟨_,_,rfl,rfl,h⟩|cases h
def vY (X:Cx CR c h w ev ρ) H {ln cap j lo hi mx G hi' mx'} (h1:gK lo G=true) (h2:gK hi hi'=true) (O:gK mx mx'=true) (R:mx=none∨hi≠none)
 {l r m} (hb:d7 ln cap (nO ev lo) (nO ev hi) (nO ev mx)=some (l,r,m)) (J:cap<=j):
 (Instr.sliceBounds H ln j (G.map ρ) (hi'.map ρ) (mx'.map ρ)).run P w= .ok (l,r,if mx.isNone then j else m) w/\ l<=r/\ r<=m/\ m<=cap/\ (mx=none ->m=cap):=by
 unfold d7 at hb;split at hb;rename_i V h' l' e1 e2 e3;rw[fv] at hb;split at hb;rename_i B;simp only[aB,wX,aU] at B;cases hb;rcases vX O with ⟨rfl,rfl⟩|⟨U,W,rfl,rfl,I⟩;simp only[nO] at e1;cases e1;refine⟨?_,B.2,B.1.2,B.1.1,λ_=>rfl⟩;rcases vX h2 with ⟨rfl,rfl⟩|⟨N,S,rfl,rfl,D⟩;simp only[nO] at e2;cases e2;rcases vX h1 with ⟨rfl,rfl⟩|⟨al,L,rfl,rfl,A⟩
 simp_all [nO,Instr.sliceBounds]
 simp only[nO] at e3;have:=xR (P:=P) X A e3 B.2;simp[Instr.sliceBounds,this];simp only[nO] at e2;have hh:=λC=>xR (P:=P) X D e2 (y:=j) ω C;rcases vX h1 with ⟨rfl,rfl⟩|⟨al,L,rfl,rfl,A⟩
 simp_all [nO,Instr.sliceBounds,hh]
 simp only[nO] at e3;have:=xR (P:=P) X A e3 B.2;simp[Instr.sliceBounds,hh,this];simp only[nO] at e1;have E:=λC=>xR (P:=P) X I e1 (y:=j) ω C;refine⟨?_,B.2,B.1.2,B.1.1,λk=>by cases k⟩;rcases vX h2 with ⟨rfl,rfl⟩|⟨N,S,rfl,rfl,D⟩
 grind
 simp only[nO] at e2;have hh:=λC=>xR (P:=P) X D e2 (y:=m) ω C;rcases vX h1 with ⟨rfl,rfl⟩|⟨al,L,rfl,rfl,A⟩
 simp_all [nO,Instr.sliceBounds,hh,E]
 simp only[nO] at e3;have:=λC=>xR (P:=P) X A e3 (y:=r) B.2 C;simp[Instr.sliceBounds,hh,E,this];cases hb;cases hb
def Yz {e} (oX:gT P e i) (X:Cx CR c h w ev ρ) (ht:P.underlying t=some (.slice e)) {lo hi mx J hi' mx'}
 (ho:o.op= .slice t x J hi' mx') (ha:dC a x=true) (h1:gK lo J=true) (h2:gK hi hi'=true) (L:gK mx mx'=true) (I:mx=none∨hi≠none) {E} (S:E=i.size):
 bD P CR c h w (an3 E a lo hi mx ev h) ((execOp ρ o).run P w):=by
 unfold an3;have D:=X.hE _ _ ha;obtain⟨b0,zv,i1,i2,_⟩:=oX.info;have key:∀(A:Option Addr) (n cap l r m:Nat),ρ x= .slice A n cap ->(Instr.sliceBounds true n cap (J.map ρ) (hi'.map ρ) (mx'.map ρ)).run P w= .ok (l,r,m) w ->
  (execOp ρ o).run P w= .ok (.value (.slice (if m=l then A else A.map (·.add (l*E))) (r-l) (m-l))) w:=by
  intro A n cap l r m C hbd;simp only[execOp,ho];refine fS ?_;rw[C];simp[Instr.sliceAt,Instr.slice,dL ht,hbd,Go.sizeOf,typeInfo,i1,i2,S]
 cases V:ev a with
 |sl o' W n cap esz=>
  rw[V] at D;generalize C:ρ x=vx at D;cases D with
  |sl _ _ _ _ _ A cp q1 q2 q3 q4 q5=>
   dsimp only;cases N:(!(Nat.beq esz E)) with
   |true=>trivial
   |false=>
    have G:esz=E:=by rw[bu] at N;simpa using N
    subst G;simp only[eU];have addr:∀l m,l<=m ->m<=cp ->(if m=l then some A else (some A).map (·.add (l*esz)))=some (if m=l then A else A.add (l*esz)):=by
     intro l m _ _;split<;>rfl
    cases cap with
    |some k=>
     have H:=q2 k rfl;subst H;dsimp only;rcases hb:d7 n cp (nO ev lo) (nO ev hi) (nO ev mx) with _|j;trivial;obtain⟨l,r,m⟩:=j;obtain⟨B,b2,b3,R,b5⟩:=vY (P:=P) X true h1 h2 L I hb (bB _);simp only[dT];have O:(if mx.isNone then cp else m)=m:=by
      rcases mx with _|_;simp[b5 rfl];rfl
     rw[O] at B;rw[key _ _ _ l r m C B,addr l m ω R];refine cV.same X.rs (.sl _ _ _ _ _ _ _ q1 (λk H=>by cases H;rfl) ω ?_ ?_);intro Y;rw[aD ω,q4 ω];simp[CE.addr,nE,pK];have:l*esz+(m-l)*esz=m*esz:=by rw[←nq];congr 1;omega
     have h6:m*esz<=cp*esz:=ni _ R;omega
    |none=>
     dsimp only;cases mx with
     |some Z=>
      dsimp only;rcases hb:d7 n n (nO ev lo) (nO ev hi) (nO ev (some Z)) with _|j;trivial;obtain⟨l,r,m⟩:=j;obtain⟨B,b2,b3,R,b5⟩:=vY (P:=P) X true h1 h2 L I hb q3;simp only[dT];have O:(if (some Z).isNone then cp else m)=m:=rfl;rw[O] at B;rw[key _ _ _ l r m C B,addr l m ω ω];refine cV.same X.rs (.sl _ _ _ _ _ _ _ q1 (λk H=>by cases H;rfl) ω ?_ ?_);intro Y;rw[aD ω,q4 ω];simp[CE.addr,nE,pK];have:l*esz+(m-l)*esz=m*esz:=by rw[←nq];congr 1;omega
      have h6:m*esz<=cp*esz:=ni _ ω;omega
     |none=>
      dsimp only;rcases hb:d7 n n (nO ev lo) (nO ev hi) none with _|j;trivial;obtain⟨l,r,m⟩:=j;obtain⟨B,b2,b3,R,b5⟩:=vY (P:=P) (mx:=none) (mx':=mx') X true h1 h2 L (.inl rfl) hb q3;simp only[dT];simp only[Fw,dZ] at B;rw[key _ _ _ l r cp C B,addr l cp ω (bB _)];refine cV.same X.rs (.sl _ _ _ _ _ _ _ q1 (λk H=>by cases H) ω ?_ ?_);intro Y;rw[aD ω,q4 ω];simp[CE.addr,nE,pK];have:l*esz+(cp-l)*esz=cp*esz:=by rw[←nq];congr 1;omega
      omega
 |ds l0 W n esz=>
  rw[V] at D;generalize C:ρ x=vx at D;cases D with
  |ds _ _ _ _ B b2 cp A row vs q1 q2 q3 q4 q5=>
   dsimp only;cases N:(!(Nat.beq esz E)) with
   |true=>trivial
   |false=>
    have G:esz=E:=by rw[bu] at N;simpa using N
    subst G;simp only[eU];cases mx with
    |some _=>trivial
    |none=>
     dsimp only;rcases hb:d7 n n (nO ev lo) (nO ev hi) none with _|j;trivial;obtain⟨l,r,m⟩:=j;obtain⟨c1,c2,c3,c4,c5⟩:=vY (P:=P) (mx:=none) (mx':=mx') X true h1 h2 L (.inl rfl) hb q4;simp only[dT];simp only[Fw,dZ] at c1;rw[key _ _ _ l r cp C c1];have e:(if cp=l then some A else (some A).map (·.add (l*esz)))=some (if cp=l then A else A.add (l*esz)):=by split<;>rfl
     rw[e];refine cV.same X.rs (.ds _ _ _ _ B b2 _ _ row vs q1 q2 q3 ω ?_);intro Y;rw[aD ω,q5 ω];simp[nE,pK]
 |sn=>
  rw[V] at D;generalize C:ρ x=vx at D;cases D;dsimp only;rcases hb:d7 0 0 (nO ev lo) (nO ev hi) (nO ev mx) with _|j;trivial;obtain⟨l,r,m⟩:=j;obtain⟨c1,c2,c3,c4,c5⟩:=vY (P:=P) X true h1 h2 L I hb (bB _);dsimp only;have:m=0:=by omega
  subst this;have O:(if mx.isNone then 0 else 0)=0:=by split<;>rfl
  rw[O] at c1;rw[key _ _ _ l r 0 C c1];have hl:l=0:=by omega
  have U:r=0:=by omega
  subst hl U;exact cV.same X.rs .sn
 |_=>trivial
def YA (X:Cx CR c h w ev ρ) (L:P.underlying t=some .string) {lo hi A hi'}
 (H:o.op= .slice t x A hi' none) (G:dC a x=true) (h1:gK lo A=true) (h2:gK hi hi'=true):
 bD P CR c h w (an4 a lo hi ev h) ((execOp ρ o).run P w):=by
 unfold an4;have E:=X.hE _ _ G;cases N:ev a with
 |s B=>
  rw[N] at E;obtain⟨bs,I,j⟩:=E.str_inv;dsimp only;rw[kZ];rcases hb:d7 B.length B.length (nO ev lo) (nO ev hi) none with _|D;trivial;obtain⟨l,r,m⟩:=D;obtain⟨c1,c2,c3,c4,c5⟩:=vY (P:=P) (mx:=none) (mx':=none) X false h1 h2 rfl (.inl rfl) hb (bB _);dsimp only;rcases J:sub B l (r-l) with _|tt;trivial;obtain⟨_,rfl⟩:=lM J;have C:bs.size=B.length:=by rw[←j,kU];rfl
  simp only[Fw,dZ,Option.map_none] at c1;have e:(execOp ρ o).run P w= .ok (.value (.string (bs.extract l r))) w:=by
   simp only[execOp,H];refine fS ?_;rw[I];rw[←C] at c1;simp[Instr.sliceAt,Instr.slice,dL L,c1]
  rw[e];refine cV.same X.rs (.s _ _ ?_);rw[ByteArray.data_extract,Array.toList_extract,List.extract_eq_take_drop,List.map_take,List.map_drop,j]
 |_=>trivial
def YC (X:Cx CR c h w ev ρ) {ts} (B:ts[0]? =some t) (H:P.underlying t=some .string) (E:o.op= .call { callee:= .builtin .len,args:=#[x],argTypes:=ts }) (D:dC a x=true):
 bD P CR c h w (aq1 .str a ev h) ((execOp ρ o).run P w):=by
 unfold aq1;have C:=X.hE _ _ D;cases I:ev a with
 |s l=>
  rw[I] at C;obtain⟨bs,G,j⟩:=C.str_inv;simp only[dT,kZ];have A:bs.size=l.length:=by rw[←j,kU];rfl
  have e:(execOp ρ o).run P w= .ok (.value (.int .i64 (l.length:Int))) w:=by
   simp only[execOp,E];simp[resolve,invoke,builtin,Builtin.len_,B,dL H,G,goInt,A]
  rw[e];exact cV.same X.rs (.i _ _)
 |_=>trivial
def LN (X:Cx CR c h w ev ρ) {ts} (A:ts[0]? =some t) (j:(∃e,P.underlying t=some (.array n e))∨∃p e,P.underlying t=some (.pointer p)/\ P.underlying p=some (.array n e))
 (B:o.op= .call { callee:= .builtin .len,args:=#[x],argTypes:=ts }):bD P CR c h w (step ev h (.len (.arr n) a)) ((execOp ρ o).run P w):=by
 show bD P CR c h w (.v (ι (.ofNat n)) h) _;have e:(execOp ρ o).run P w= .ok (.value (.int .i64 (n:Int))) w:=by
  simp only[execOp,B];rcases j with ⟨e,j⟩|⟨p,e,j,C⟩;simp[resolve,invoke,builtin,Builtin.len_,A,dL j,goInt];simp[resolve,invoke,builtin,Builtin.len_,A,dL j,dL C,goInt]
 rw[e];exact cV.same X.rs (.i _ _)
def YD (X:Cx CR c h w ev ρ) {ts} (C:ts[0]? =some t) {e} (J:P.underlying t=some (.slice e)) (I:o.op= .call { callee:= .builtin .len,args:=#[x],argTypes:=ts }) (H:dC a x=true):
 bD P CR c h w (aq1 .slice a ev h) ((execOp ρ o).run P w):=by
 unfold aq1;have j:=X.hE _ _ H;have key:∀A n cp,ρ x= .slice A n cp ->(execOp ρ o).run P w= .ok (.value (.int .i64 (n:Int))) w:=by
  intro A n cp B;simp only[execOp,I];simp[resolve,invoke,builtin,Builtin.len_,C,dL J,B,goInt]
 cases D:ev a with
 |sl L E n cap esz=>
  rw[D] at j;generalize B:ρ x=G at j;cases j;rw[key _ _ _ B];exact cV.same X.rs (.i _ _)
 |ds l E n esz=>
  rw[D] at j;generalize B:ρ x=G at j;cases j;rw[key _ _ _ B];exact cV.same X.rs (.i _ _)
 |sn=>
  rw[D] at j;generalize B:ρ x=G at j;cases j;rw[key _ _ _ B];exact cV.same X.rs (.i _ _)
 |_=>trivial
def YE (X:Cx CR c h w ev ρ) {ts} (C:ts[0]? =some t) {e} (H:P.underlying t=some (.slice e)) (G:o.op= .call { callee:= .builtin .cap,args:=#[x],argTypes:=ts }) (E:dC a x=true):
 bD P CR c h w (aq2 a ev h) ((execOp ρ o).run P w):=by
 unfold aq2;have j:=X.hE _ _ E;have key:∀A n cp,ρ x= .slice A n cp ->(execOp ρ o).run P w= .ok (.value (.int .i64 (cp:Int))) w:=by
  intro A n cp B;simp only[execOp,G];simp[resolve,invoke,builtin,Builtin.cap_,C,dL H,B,goInt]
 cases D:ev a with
 |sl L I n cap esz=>
  rcases cap with _|k;trivial;rw[D] at j;generalize B:ρ x=J at j;cases j with
  |sl _ _ _ _ _ A cp q1 q2 q3 q4 q5=>
   have:=q2 k rfl;subst this;rw[key _ _ _ B];exact cV.same X.rs (.i _ _)
 |sn=>
  rw[D] at j;generalize B:ρ x=J at j;cases j;rw[key _ _ _ B];exact cV.same X.rs (.i _ _)
 |_=>trivial
def ur (X:Cx CR c h w ev ρ):∀{l xs},jo l xs=true ->∀{r},eE ev l=some r ->bX c r (xs.map ρ)
 |[],[],_,r,hr=>by cases hr;exact .nil
 |[],_::_,aC,_,_=>by cases aC
 |_::_,[],aC,_,_=>by cases aC
 |a::l,x::xs,aC,r,hr=>by
  have h':(dC a x&&jo l xs)=true:=aC;simp only[aB] at h';unfold eE at hr;rw[lJ] at hr;simp only[jK] at hr;rcases j:eM (λa=>fV (ev a) some) l with _|t;simp only[jK] at j;rw[j] at hr;cases hr;have A:=j;simp only[jK] at j;rw[j] at hr;cases hr;exact .cons _ _ _ _ (X.hE _ _ h'.1) (ur X h'.2 A)
variable {b:AV}
def YF (X:Cx CR c h w ev ρ) {fn a b x y} (A:o.op= .makeFunc (.func fn) x y) (j:jo a x.toList=true) (hb:jo b y.toList=true):
 bD P CR c h w (am8 fn a b ev h) ((execOp ρ o).run P w):=by
 unfold am8;rcases h1:eE ev a with _|B;trivial;rcases h2:eE ev b with _|C;trivial;have e:(execOp ρ o).run P w= .ok (.value (.func (.func fn) (x.map ρ) (y.map ρ))) w:=by
  simp only[execOp,A];exact fS rfl
 rw[e];have:=VR.f fn B C _ _ (ur X j h1) (ur X hb h2);refine cV.same X.rs ?_;have e1:∀z:Array Operand,z.map ρ=(z.toList.map ρ).toArray:=λz=>by apply jW;simp
 rw[e1 x,e1 y];exact this
def CL (z:Array Operand):z.map ρ=(z.toList.map ρ).toArray:=by apply jW;simp
def YG (X:Cx CR c h w ev ρ) {f args j} (C:j.callee= .value (.func f)) (A:ρ (.func f)= .func (.func f) #[] #[]) (D:o.op= .call j) (B:jo args j.args.toList=true):
 bD P CR c h w (av6 f args ev h) ((execOp ρ o).run P w):=by
 unfold av6;rcases h1:eE ev args with _|l;trivial;refine⟨rfl,_,ur X B h1,?_⟩;simp only[execOp,D,resolve,C,A,CL];simp[Deferred.ofValue,invoke]
def YH (X:Cx CR c h w ev ρ) {f g args A} (C:A.callee= .value g) (I:dC f g=true) (E:o.op= .call A) (H:jo args A.args.toList=true):
 bD P CR c h w (R6 f args ev h) ((execOp ρ o).run P w):=by
 unfold R6;have j:=X.hE _ _ I;rcases h1:eE ev args with _|l;trivial;have D:=ur X H h1;dsimp only;cases G:ev f with
 |f U S ca=>
  rw[G] at j;generalize B:ρ g=R at j;cases j with
  |f _ _ _ O N J L=>
   simp only[jz];refine⟨rfl,O++(A.args.toList.map ρ++N),J.append (D.append L),?_⟩;simp only[execOp,E,resolve,C,B,CL];simp[Deferred.ofValue,invoke]
 |y l'=>
  rw[G] at j;generalize B:ρ g=R at j;cases j with
  |y _ q=>
   dsimp only;refine⟨rfl,q,_,D,?_⟩;simp only[execOp,E,resolve,C,B,CL];simp[Deferred.ofValue,invoke]
 |_=>trivial
def LO {α:Type} (vs:List α):∀n i,i<n*vs.length ->(List.replicate n vs).flatten[i]? =vs[i%vs.length]?
 |0,i,h=>by simp at h
 |n+1,i,h=>by
  rw[uc,vD];by_cases hi:i<vs.length;rw[pL hi,Cb hi];have h2:i-vs.length<n*vs.length:=by rw[vE] at h;omega
  rw[rK ω,LO vs n _ h2];congr 1;exact(Nat.mod_eq_sub_mod ω).symm
def Gb vs n:madeCells vs.toArray (n*vs.length)=(List.replicate n vs).flatten.toArray:=by
 have B:(List.replicate n vs).flatten.length=n*vs.length:=by simp[xA]
 apply Array.ext
 simp_all [size_madeCells,B]
 intro i h1 h2;rw[size_madeCells] at h1;have j:0<vs.length:=by
  grind
 have A:i%vs.length<vs.length:=jv _ j;have:=LO vs n i h1;rw[ef ω,ef A] at this;simp only[jI] at this;simp only[madeCells,Array.getElem_map,Array.getElem_range,List.getElem_toArray,zy];rw[this];simp[A]
def VR.newSl {j id b} (hd:j.dM id) (A:j.ρ id=(b,0)) (D:j.sz id=n) l k esz cap (C:l<=k) (B:∀m,cap=some m ->k=m) (E:k*esz<=n):
 VR j (.sl id 0 l cap esz) (.slice (some ⟨b,0,none⟩) l k):=by
 refine .sl _ _ _ _ _ _ _ hd B C (λ_=> ?_) ?_;unfold CE.addr;rw[A]
 grind
def tj {r A j} (hb:w.heap[r]? =some (.map A j)):(getObj r).run P w= .ok (.map A j) w:=by simp[getObj,Sem.run,hb]
def LP {r s j} (hb:w.heap[r]? =some (.stringIter s j)):(getObj r).run P w= .ok (.stringIter s j) w:=by simp[getObj,Sem.run,hb]
def LQ {r m a b d} (hb:w.heap[r]? =some (.mapIter m a b d)):(getObj r).run P w= .ok (.mapIter m a b d) w:=by simp[getObj,Sem.run,hb]
def zW {r A j} ob (hb:w.heap[r]? =some (.map A j)):(setObj r ob).run P w= .ok () { w with heap:=w.heap.setIfInBounds r ob }:=by simp[setObj,Sem.run,hb]
def YI {r s j} ob (hb:w.heap[r]? =some (.stringIter s j)):(setObj r ob).run P w= .ok () { w with heap:=w.heap.setIfInBounds r ob }:=by simp[setObj,Sem.run,hb]
def YJ {r m a b d} ob (hb:w.heap[r]? =some (.mapIter m a b d)):(setObj r ob).run P w= .ok () { w with heap:=w.heap.setIfInBounds r ob }:=by simp[setObj,Sem.run,hb]
def xS (ev:MA ->AV):Option MA ->Bool
 |none=>true
 |some a=>match ev a with| .i _ _=>true|_=>false
def CM (X:Cx CR c h w ev ρ) {m r} (H:gK m r=true) (B:m=none∨∃a b,P.underlying t=some (.map a b)) (D:o.op= .makeMap t r) (I:xS ev m=true):
 nJ CR c w (λver=> .map ver [] 0) (λo=> .m o) ((execOp ρ o).run P w):=by
 have fin:(execOp ρ o).run P w= .ok (.value (.map (some w.heap.size))) { w with heap:=w.heap.push (.map #[] 0) } ->
  nJ CR c w (λver=> .map ver [] 0) (λo=> .m o) ((execOp ρ o).run P w):=by
  intro e;rw[e];refine⟨_,_,_,0,rfl,⟨rfl,rfl,rfl⟩,λC L id ver G hd j N hb=>⟨⟨#[],by rw[j];exact hb,trivial,.nil,λe A=>by cases A⟩,?_⟩⟩;have e2:VR C (.m id) (.map (some (C.ρ id).1)):= .m _ hd;rw[j] at e2;exact e2
 rcases vX H with ⟨rfl,rfl⟩|⟨a,x,rfl,rfl,G⟩;apply fin;simp only[execOp,D];exact fS (run_makeMap_plain (P:=P) w t);have E:=X.hE _ _ G;obtain⟨O,R,B⟩:=B.resolve_left (by simp);cases A:ev a with
 |i k n=>
  rw[A] at E;have J:=E.int_inv;apply fin;simp only[execOp,D];refine fS ?_;simp[Instr.makeMap,dL B,J,asInt,asIntOf]
 |_=>simp[xS,A] at I
def LR {e} (oX:gT P e i) (X:Cx CR c h w ev ρ) (V:P.underlying t=some (.slice e)) {b y} (S:o.op= .makeSlice t x y) (J:dC a x=true) (hb:dC b y=true)
 {z A} (W:z=i.zs) (N:A=i.size) (O:z.length=A) (L:i.bytes<=1048576) {l k} (h1:nA ev a=some l) (h2:nA ev b=some k) (H:l<=k/\ k<=1048576):
 nJ CR c w (λver=> .cells ver (List.replicate k z).flatten) (λo=> .sl o 0 l (some k) A) ((execOp ρ o).run P w):=by
 subst W;obtain⟨q,U⟩:=th X J h1;obtain⟨q',C⟩:=th X hb h2;obtain⟨j,zv,vs,Y,i2,i3,Z,i5,I,_⟩:=oX.zero c;have E:vs.length=A:=by rw[I.length];exact O
 have B:(j.bytes:Int)*(k:Int)<=281474976710656:=by
  have:j.bytes*k<=1048576*1048576:=zA ω H.2;have h':((j.bytes*k:Nat):Int)<=281474976710656:=by omega
  rwa [Int.natCast_mul] at h'
 have e:(execOp ρ o).run P w= .ok (.value (.slice (some ⟨w.heap.size,0,none⟩) l k)) { w with heap:=w.heap.push (.cells (List.replicate k vs).flatten.toArray e) }:=by
  simp only[execOp,S];refine fS ?_;rw[U,C];have:=run_make (P:=P) w t e j zv V Y Z q q' (l:Int) (k:Int) ω ω B ω;simp only[Int.toNat_natCast,i5] at this;rw[show j.size=vs.length by omega,Gb] at this;exact this
 rw[e];have eQ:(List.replicate k vs).flatten.length=k*A:=by simp[xA,E]
 exact CH (I.replicate k) _ rfl _ _ λc' id hd G D=>VR.newSl hd G D _ _ _ _ H.1 (λm R=>gC R) ω
def YM (X:Cx CR c h w ev ρ) {str} (I:o.op= .range t x) (S:dC a x=true) (j:(str=true/\ P.underlying t=some .string)∨(str=false/\∃k e,P.underlying t=some (.map k e))):
 bD P CR c h w (ao6 a str ev h) ((execOp ρ o).run P w):=by
 unfold ao6;have A:=X.hE _ _ S;have fin:∀(ob:bC) (B:Obj),gR CR (c.add h.next w.heap.size 0 0) { w with heap:=w.heap.push B } h.next ob ->
  (execOp ρ o).run P w= .ok (.value (.pointer (some ⟨w.heap.size,0,none⟩))) { w with heap:=w.heap.push B } ->
  bD P CR c h w (h.new ob λo h=> .v (.p o 0) h) ((execOp ρ o).run P w):=by
  intro ob B J e;rw[e,AH.new_eq];exact⟨_,_,_,rfl,cH.alloc X.rs rfl 0 J,.inl ⟨_,rfl,VR.new (by simp) (by simp) _⟩⟩
 have push:∀B:Obj,(w.heap.push B)[((c.add h.next w.heap.size 0 0).ρ h.next).1]? =some B:=λB=>by rw[CE.add_ρ];simp
 cases L:ev a with
 |s l=>
  rw[L] at A;obtain⟨bs,C,G⟩:=A.str_inv;rcases j with ⟨rfl,j⟩|⟨rfl,_⟩;refine fin _ (.stringIter bs 0) ⟨by rw[CE.add_ρ],bs,push _,G⟩ ?_;simp only[execOp,I];refine fS ?_;simp[Instr.range,dL j,C];trivial
 |mn=>
  rw[L] at A;generalize C:ρ x=V at A;cases A;rcases j with ⟨rfl,_⟩|⟨rfl,k,e,j⟩;trivial;refine fin _ (.mapIter none 0 #[] 0) ⟨λk H=>(by cases H),by rw[CE.add_ρ],push _⟩ ?_;simp only[execOp,I];refine fS ?_;simp[Instr.range,dL j,C]
 |m E=>
  rw[L] at A;generalize C:ρ x=V at A;cases A with
  |m _ N=>
   rcases j with ⟨rfl,_⟩|⟨rfl,k,e,j⟩;trivial;simp only[eU];rcases U:h.get E with _|ob;trivial;cases ob with
   |map ver W O=>
    dsimp only;obtain⟨R,h1,_⟩:=X.rs.obj E _ ⟨U,rfl,N⟩;have D:=CE.add_ext c X.rs.fresh w.heap.size 0 0;refine fin _ (.mapIter (some (c.ρ E).1) O #[] O) ⟨λk H=> ?_,by rw[CE.add_ρ],?_⟩ ?_;cases H;exact D.dM _ N;rw[push];simp[D.ρ E N];simp only[execOp,I];refine fS ?_;simp[Instr.range,dL j,C,tj (P:=P) h1]
   |_=>trivial
 |_=>trivial
def LS {α β} {f:α ->Option β}:∀{l r},eM f l=some r ->∀x∈l,∃y∈r,f x=some y
 |[],_,_,x,j=>by cases j
 |a::t,r,h,x,j=>by
  rw[lJ] at h;rcases B:f a with _|b;rw[B] at h;cases h;rw[B] at h;dsimp only at h;rcases A:eM f t with _|C;rw[A] at h;cases h;rw[A] at h;cases h;rcases ey.1 j with rfl|j
  grind
  obtain⟨y,h1,h2⟩:=LS A x j;exact⟨y,jw _ h1,h2⟩
def LT n:∀l:List Nat,Bf n l=l.contains n
 |[]=>rfl
 |a::r=>by
  show(Nat.beq a n||Bf n r)=_;rw[LT n r,bu,List.contains_cons];congr 1;by_cases e:a=n;subst e;simp;simp[e,Ne.symm e]
def LU seen:∀l:List (AV×AV×Nat),vQ seen l=some (l.filter λe=> !seen.contains e.2.2)
 |[]=>rfl
 |e::r=>by
  show(bif Bf e.2.2 seen then vQ seen r else match vQ seen r with|some t=>some (e::t)|none=>none)=_;rw[LT,LU seen r];cases j:seen.contains e.2.2<;>simp only[j,fC,eU,Fx,jk,Fy,dZ,nr,bV]
def bH4 j:∀l:List (AV×AV×Nat),vR j l=true ->∀e∈l,e.2.2<j
 |[],_,e,A=>by cases A
 |a::r,hh,e,A=>by
  have h':(Nat.ble (Nat.succ a.2.2) j&&vR j r)=true:=hh;simp only[aB,wX,aU] at h';rcases ey.1 A with rfl|A;exact h'.1;exact bH4 j r h'.2 e A
def fQ.filter (q:Nat ->Bool):∀{l l'},fQ c l l' ->fQ c (l.filter λe=>q e.2.2) (l'.filter λe=>q e.born)
 |[],[],_=>trivial
 |(k,v,b)::r,e::r',hh=>by
  obtain⟨h1,h2,j,B⟩:=hh;have A:=fQ.filter q B;rw[Fx,Fx];simp only[j];split;exact⟨h1,h2,j,A⟩;exact A
 |[],_::_,hh=>hh.elim
 |_::_,[],hh=>hh.elim
def fQ.length:∀{l l'},fQ c l l' ->l'.length=l.length
 |[],[],_=>rfl
 |(k,v,b)::r,e::r',hh=>by simp[fQ.length hh.2.2.2]
 |[],_::_,hh=>hh.elim
 |_::_,[],hh=>hh.elim
def fQ.mem:∀{l l'},fQ c l l' ->∀e∈l',∃x∈l,VR c x.1 e.key/\ VR c x.2.1 e.val/\ e.born=x.2.2
 |[],[],_,e,j=>by cases j
 |(k,v,b)::r,e'::r',hh,e,j=>by
  obtain⟨h1,h2,A,B⟩:=hh;rcases ey.1 j with rfl|j;exact⟨_,jG,h1,h2,A⟩;obtain⟨x,C,D⟩:=fQ.mem B e j;exact⟨x,jw _ C,D⟩
 |[],_::_,hh,_,_=>hh.elim
 |_::_,[],hh,_,_=>hh.elim
def YN ty r N A E seen G C
 (V:w.heap[r]? =some (.mapIter (some N) A seen E)) (hb:w.heap[N]? =some (.map G C)) (H:(!seen.isEmpty&& !G.isEmpty&&G.all (·.born>=E))=false)
 (J:∀x∈G.toList.filter (λe=> !seen.contains e.born),x.born<A):
 (G.toList.filter (λe=> !seen.contains e.born)=[]/\ (Instr.next (.pointer (some ⟨r,0,none⟩)) false ty).run P w= .ok (.tuple #[.bool false]) w)∨
 ∃e∈G.toList.filter (λe=> !seen.contains e.born),∃B:World,(B.heap=w.heap/\ B.os=w.os/\ B.output=w.output)/\ (Instr.next (.pointer (some ⟨r,0,none⟩)) false ty).run P w= .ok (.tuple #[.bool true,e.key,e.val]) { B with heap:=B.heap.setIfInBounds r (.mapIter (some N) A (seen.push e.born) C) }:=by
 simp only[Instr.next,getObj,dz,Sem.run,V,hb,Result.andThen,H,nr,bV];have D:∀x∈(Array.filter (λe=> !seen.contains e.born) G).toList,x.born<A:=λx O=>J x (by rw[Array.toList_filter] at O;exact O);rw[←Array.toList_filter];generalize Array.filter (λe=> !seen.contains e.born) G=L at D ⊢;have e1:L.filter (λx=>decide (x.born<A))=L:=Array.filter_eq_self.2 (λx O=>by simpa using D x (by simpa using O));have e2:L.filter (λx=>decide (x.born>=A))=#[]:=by
  simp_all
 simp only[e1,e2,Array.append_empty];by_cases h0:L.size=0
 simp_all [choose,Sem.run,Question.forced]
 right;have Y:L.isEmpty=false:=by simp[Array.isEmpty,h0]
 simp only[Y,nr,bV,Array.empty_append,Array.size_map];have R:∃(j:Nat) (B:World),j<L.size/\ (B.heap=w.heap/\ B.os=w.os/\ B.output=w.output)/\ (choose (Question.mapNext L.size)).run P w= .ok j B:=by
  by_cases U:L.size<=1;exact⟨0,w,by omega,⟨rfl,rfl,rfl⟩,by simp[choose,Sem.run,Question.forced,U]⟩;exact⟨_,{ w with drawn:=w.drawn+1 },jv _ ω,⟨rfl,rfl,rfl⟩,by
   simp only[choose,Sem.run,Question.forced,aU,U,bV,Question.cut];rfl⟩
 obtain⟨j,B,X,I,W⟩:=R;refine⟨L[j],by simp,B,I,?_⟩;have S:B.heap[r]? =some (.mapIter (some N) A seen E):=by rw[I.1];exact V
 simp only[W,Array.getElem?_map,tJ X,qH,dz,YJ _ S,Result.andThen];rfl
def vZ {α:Type} {a:Array α} {r b x} (h:b≠r):(a.setIfInBounds r x)[b]? =a[b]? :=Fz (λe=>h e.symm)
def BH {α:Type} {a:Array α} {r x y} (h:a[r]? =some y):(a.setIfInBounds r x)[r]? =some x:=by
 grind
def YO {seen A B j} (h:zN seen A B=true) (C:fQ c B j):
 (!seen.toArray.isEmpty&& !j.toArray.isEmpty&&j.toArray.all (·.born>=A))=false:=by
 rcases seen with _|⟨s,r⟩;simp;rcases B with _|⟨e,H⟩;cases j with
  |nil=>simp
  |cons _ _=>exact C.elim
 rcases j with _|⟨G,E⟩;exact C.elim;obtain⟨k,v,b⟩:=e;obtain⟨_,_,D,_⟩:=C;have h':Nat.ble (Nat.succ b) A=true:=h;rw[wX,aU] at h';simp[D];intro hh;omega
def LW {a d x y z} (h1:VR c a x) (h2:VR c b y) (j:VR c d z):VR c (.tu [a,b,d]) (.tuple #[x,y,z]):=
 .tu _ [x,y,z] (.cons _ _ _ _ h1 (.cons _ _ _ _ h2 (.cons _ _ _ _ j .nil)))
def ut {a x y} (h1:VR c a x) (h2:VR c b y):VR c (.tu [a,b]) (.tuple #[x,y]):=
 .tu _ [x,y] (.cons _ _ _ _ h1 (.cons _ _ _ _ h2 .nil))
def Gc {a x} (h1:VR c a x):VR c (.tu [a]) (.tuple #[x]):= .tu _ [x] (.cons _ _ _ _ h1 .nil)
def YP (X:Cx CR c h w ev ρ) {str} (ho:o.op= .next x str) (ha:dC a x=true):
 bD P CR c h w (ao7 a str ev h) ((execOp ρ o).run P w):=by
 have hv:=X.hE _ _ ha;unfold ao7;cases hx:ev a with
 |p B b4=>
  dsimp only;rw[bu];by_cases R:b4=0;subst R;simp only[mC,fC];unfold vS;rw[hx] at hv;generalize hr:ρ x=vx at hv;cases hv with
  |p _ _ Y=>
   have b7:(execOp ρ o).run P w=((Instr.next (.pointer (some (c.addr B 0))) str o.type).run P w).andThen λv Z=> .ok (.value v) Z:=by
    simp_all [execOp,ho,hr,dz,ig]
   have fin:∀v Z,(Instr.next (.pointer (some (c.addr B 0))) str o.type).run P w= .ok v Z ->(execOp ρ o).run P w= .ok (.value v) Z:=by
    simp_all
   rcases W:h.get B with _|ob;trivial;cases ob with
   |sit l A=>
    obtain⟨m2,bs,m3,m4⟩:=X.rs.obj B _ ⟨W,rfl,Y⟩;have D:c.addr B 0=⟨(c.ρ B).1,0,none⟩:=by simp[CE.addr,m2]
    rw[D] at fin;have b8:bs.size=l.length:=by rw[←m4,kU];rfl
    dsimp only;cases str;trivial;simp only[fC,Cw];rcases hb:l[A]? with _|b;have b0:¬A<bs.size:=by
     grind
    have e:=fin (.tuple #[.bool false]) w (by
     simp only[Instr.next,dz];rw[LP m3];simp[b0])
    rw[e];exact cV.same X.rs (Gc (.b _));dsimp only;cases hc:Nat.ble b 127;trivial;rw[wX,aU] at hc;have aV:A<bs.size:=by
     grind
    have O:(bs.get! A).toNat=b:=by
     have h1:bs.data.size=bs.size:=rfl;rw[←m4,oh] at hb;rw[ef (by simp;omega)] at hb;simp only[qH,jI,Array.getElem_toList] at hb;rw[←hb];show(bs.data[A]!).toNat=_;rw[getElem!_pos bs.data A ω]
    have N:Utf8.decode bs A=(b,1):=by
     unfold Utf8.decode;simp only[vG,O];rw[aF ω]
    have e:=fin (.tuple #[.bool true,goInt A,.int .i32 b]) { w with heap:=w.heap.setIfInBounds (c.ρ B).1 (.stringIter bs (A+1)) } (by
     simp only[Instr.next,dz];rw[LP m3];simp only[ez,aF aV,N,dz];rw[YI _ m3];rfl)
    rw[e];simp only[fC,dT,AH.put_eq];have G:gR CR c { w with heap:=w.heap.setIfInBounds (c.ρ B).1 (.stringIter bs (A+1)) } B (.sit l (Nat.succ A)):=⟨m2,bs,BH m3,m4⟩
    exact⟨c,_,_,rfl,cH.write X.rs ⟨W,rfl,Y⟩ (by simp) (λb hb=>vZ hb) G _,.inl ⟨_,rfl,LW (.b _) (.i _ _) (.i _ _)⟩⟩
   |mit m j seen C=>
    obtain⟨m1,m2,m3⟩:=X.rs.obj B _ ⟨W,rfl,Y⟩;have D:c.addr B 0=⟨(c.ρ B).1,0,none⟩:=by simp[CE.addr,m2]
    rw[D] at fin;rcases m with _|m;dsimp only;cases str with
    |true=>trivial
    |false=>
     have e:=fin (.tuple #[.bool false]) w (by
      simp only[Instr.next,dz];simp only[Option.map_none] at m3;rw[LQ m3];rfl)
     rw[e];exact cV.same X.rs (Gc (.b _))
    dsimp only;cases str with
    |true=>trivial
    |false=>
     simp only[eU];rcases hm:h.get m with _|b3;trivial;cases b3 with
     |map ver es H=>
      dsimp only;obtain⟨I,n1,n2,n3,n4⟩:=X.rs.obj m _ ⟨hm,rfl,m1 m rfl⟩;cases hk:zN seen C es;trivial;simp only[jk,eU,LU];cases S:vR j (es.filter λe=> !seen.contains e.2.2);trivial;simp only[fC];have hE:=fQ.filter (λb=> !seen.contains b) n2;have J:∀b,seen.toArray.contains b=seen.contains b:=λb=>by simp
      simp only[qH] at m3;have E:=YN (P:=P) o.type (c.ρ B).1 (c.ρ m).1 j C seen.toArray I H m3 n1 (by simpa using YO (c:=c) hk n2) (by
       intro e he;simp only[J] at he;obtain⟨y,y1,_,_,y4⟩:=hE.mem e he;rw[y4];exact bH4 _ _ S y y1)
      simp only[J] at E;generalize hL:(es.filter λe=> !seen.contains e.2.2)=L at hE E S ⊢;generalize b6:(I.toList.filter λe=> !seen.contains e.born)=L' at hE E;rcases E with ⟨k1,U⟩|⟨e',k1,w1,⟨U,b2⟩,k3⟩;subst k1;cases L with
      |cons _ _=>exact hE.elim
      |nil=>
       rw[fin _ _ U];exact cV.same X.rs (Gc (.b _))
      obtain⟨y,y1,y2,y3,y4⟩:=hE.mem e' k1;have V:=m3;rw[←U] at V;have good:∀ver,cV CR c h w (.tu [.b true,y.1,y.2.1]) ⟨h.next,ver,h.oB.put B (.mit (some m) j (seen++[y.2.2]) H)⟩ ((execOp ρ o).run P w):=by
       intro ver;rw[fin _ _ k3];have G:gR CR c { w1 with heap:=w1.heap.setIfInBounds (c.ρ B).1 (.mapIter (some (c.ρ m).1) j (seen.toArray.push e'.born) H) } B (.mit (some m) j (seen++[y.2.2]) H):=by
        refine⟨m1,m2,?_⟩;rw[y4];have:(seen++[y.2.2]).toArray=seen.toArray.push y.2.2:=by simp
        rw[this];exact BH V
       exact⟨c,_,_,rfl,cH.write X.rs ⟨W,rfl,Y⟩ (by simp[U]) (λb hb=>by rw[←U];exact vZ hb) G ver b2,.inl ⟨_,rfl,LW (.b _) y2 y3⟩⟩
      rcases L with _|⟨z,zs⟩;cases y1;rcases zs with _|⟨z2,zs⟩;simp only[yC] at y1;subst y1;simp only[jz,AH.put_eq];exact good _;dsimp only;cases b1:eM (λ(e:AV×AV×Nat)=>match fy seen [e.2.2] with
       |some seen=>h.put B (.mit (some m) j seen H) λh=>some (AV.tu [.b true,e.1,e.2.1],h)
       |none=>none) (z::z2::zs) with
      |none=>trivial
      |some r=>
       obtain⟨q,b5,q2⟩:=LS b1 y y1;simp only[jz,AH.put_eq,jI] at q2;subst q2;exact⟨_,b5,good _⟩
     |_=>trivial
   |_=>trivial
  rw[ot R];trivial
 |_=>trivial
def fQ.ent {b}:∀{l l'},fQ c l l' ->∀{x},pU b l=some x ->∃e,l'.find? (·.born==b)=some e/\ VR c x.1 e.key/\ VR c x.2.1 e.val/\ e.born=x.2.2
 |[],[],_,x,hh=>by cases hh
 |(k,v,b')::r,e::r',hE,x,hh=>by
  obtain⟨h1,h2,B,C⟩:=hE;have h':(bif Nat.beq b' b then some (k,v,b') else pU b r)=some x:=hh;rw[bu] at h';by_cases j:b'=b
  grind
  simp only[j,decide_false,eU] at h';obtain⟨A,D,E⟩:=fQ.ent C h';exact⟨A,by rw[List.find?_cons_of_neg (by simp[B,j])];exact D,E⟩
 |[],_::_,hE,_,_=>hE.elim
 |_::_,[],hE,_,_=>hE.elim
def LX:∀l d,(List.rec (motive:=λ_=>Option Nat ->Option Nat) (λr=>r) (λa _ j _=>j (some a)) l d:Option Nat)=(l.getLast?).or d
 |[],d=>by simp
 |a::r,d=>by
  show(List.rec (motive:=λ_=>Option Nat ->Option Nat) (λr=>r) (λa _ j _=>j (some a)) r (some a):Option Nat)=_;rw[LX r (some a)];rcases r with _|⟨b,r⟩;rfl;rw[List.getLast?_cons_cons];rcases hh:(b::r).getLast? with _|x;simp at hh;rfl
def YQ (X:Cx CR c h w ev ρ) (ho:o.op= .entry x) (S:dC a x=true):
 bD P CR c h w (ao8 a ev h) ((execOp ρ o).run P w):=by
 have I:=X.hE _ _ S;unfold ao8;cases hx:ev a with
 |p C L=>
  dsimp only;rw[bu];by_cases B:L=0;subst B;simp only[mC,fC];unfold vT;rw[hx] at I;generalize hr:ρ x=vx at I;cases I with
  |p _ _ q1=>
   rcases W:h.get C with _|ob;trivial;cases ob with
   |mit m N seen j=>
    obtain⟨m1,m2,m3⟩:=X.rs.obj C _ ⟨W,rfl,q1⟩;have A:c.addr C 0=⟨(c.ρ C).1,0,none⟩:=by simp[CE.addr,m2]
    rcases m with _|m;trivial;dsimp only;rcases Z:h.get m with _|J;trivial;cases J with
    |map ver R O=>
     dsimp only;obtain⟨E,n1,n2,n3,n4⟩:=X.rs.obj m _ ⟨Z,rfl,m1 m rfl⟩;rw[LX,Option.or_none];rcases Y:seen.getLast? with _|b;trivial;dsimp only;rw[bu];by_cases H:O=j;simp only[H,mC,fC];rcases U:pU b R with _|e;trivial;obtain⟨D,k1,k2,k3,k4⟩:=n2.ent U;have ex:(execOp ρ o).run P w= .ok (.value (.tuple #[D.key,D.val])) w:=by
      simp only[execOp,ho];refine fS ?_;rw[hr,A];simp only[Instr.entry,dz];simp only[qH] at m3;rw[LQ m3];have G:seen.toArray.back? =some b:=by simp[Y]
      simp only[ez,G,dz];rw[tj n1];have V:E.find? (·.born==b)=some D:=by rw[←Array.find?_toList];exact k1
      simp only[ez,H,bne_self_eq_false,nr,bV,V];rfl
     rw[ex];exact cV.same X.rs (ut k2 k3);rw[ot H];trivial
    |_=>trivial
   |_=>trivial
  rw[ot B];trivial
 |_=>trivial
def YS (X:Cx CR c h w ev ρ) {op B b y} (A:o.op= .binOp op t x y B) (j:dC a x=true) (hb:dC b y=true):
 bD P CR c h w (step ev h (.bin op a b)) ((execOp ρ o).run P w):=by
 cases e1:ev a with
 |i k n=>
  cases e2:ev b with
  |i k' m=>exact LM X A j hb (.inl ⟨k,n,k',m,e1,e2⟩)
  |_=>show bD P CR c h w (dr h (aY op (ev a) (ev b))) _;rw[e1,e2];trivial
 |s l=>
  cases e2:ev b with
  |s m=>exact LM X A j hb (.inr ⟨l,m,e1,e2⟩)
  |_=>show bD P CR c h w (dr h (aY op (ev a) (ev b))) _;rw[e1,e2];trivial
 |_=>show bD P CR c h w (dr h (aY op (ev a) (ev b))) _;rw[e1];cases ev b<;>trivial
def CN (kd:TypeDesc) (sz:TypeId ->Option Nat):EK ->Bool
 | .b=>match kd with| .bool=>true|_=>false
 | .i=>match kd with| .int _=>true|_=>false
 | .s=>match kd with| .string=>true|_=>false
 | .p=>match kd with| .pointer e=>(match sz e with|some n=>Nat.ble 1 n|none=>false)|_=>false
 | .sl=>match kd with| .slice _=>true|_=>false
 | .m=>match kd with| .map _ _=>true|_=>false
 | .f=>match kd with| .func _ _ _=>true|_=>false
 | .ifc=>match kd with| .interface _=>true|_=>false
def Gd (one:TypeId ->ET ->Bool) (ty:T TI) (l:List (Nat×Nat×Bool×ET)):List Field ->Bool:=
 List.rec (motive:=λ_=>List Field ->Bool) (λfs=>List.isEmpty fs) (λa _ j fs=>match fs with
  |[]=>false
  |f::r=>(decide (f.name≠ "_")&&(match ty.get f.type with
   |some i=>Nat.beq a.1 f.offset&&Nat.beq a.2.1 i.size&&(a.2.2.1==i.kd.isRow)&&one f.type a.2.2.2
   |none=>false))&&j r) l
def zY (one:ET ->Bool) (sz:Nat) (row:Bool) (n:Nat) (l:List (Nat×Nat×Bool×ET)):Nat ->Bool:=
 List.rec (motive:=λ_=>Nat ->Bool) (λk=>Nat.beq k n) (λa _ j k=>(Nat.beq a.1 (k*sz)&&Nat.beq a.2.1 sz&&(a.2.2.1==row)&&one a.2.2.2)&&j (k+1)) l
def Ge {one sz n row}:∀{l s},zY one sz row n l s=true ->s+l.length=n
 |[],s,h=>by have h':Nat.beq s n=true:=h;rw[bu,aU] at h';simpa using h'
 |f::l,s,h=>by
  have h':((Nat.beq f.1 (s*sz)&&Nat.beq f.2.1 sz&&(f.2.2.1==row)&&one f.2.2.2)&&zY one sz row n l (s+1))=true:=h;rw[aB] at h';have:=Ge h'.2;simp only[gJ];omega
def gF (ty:T TI) (A:Bool):Nat ->TypeId ->ET ->Bool
 |_,t,.lf k=>match ty.get t with
  |some i=>CN i.kd (λe=>(ty.get e).map (·.size)) k&&(A||(match k with| .ifc=>false|_=>true))
  |none=>false
 |n+1,t,.ag l=>match ty.get t with
  |some i=>match i.kd with
   | .struct fs=> !i.sh&&Gd (λt e=>gF ty false n t e) ty l fs.toList
   | .array k e=>(match ty.get e with|some j=>zY (λx=>gF ty false n e x) j.size j.kd.isRow k l 0|none=>false)
   |_=>false
  |none=>false
 |0,_,.ag _=>false
def LY:∀{l m:List UInt8},l.map UInt8.toNat=m.map UInt8.toNat ->l=m
 |[],[],_=>rfl
 |[],_::_,h=>by simp at h
 |_::_,[],h=>by simp at h
 |a::l,b::m,h=>by
  simp only[jY,List.cons.injEq] at h;rw[UInt8.toNat_inj.1 h.1,LY h.2]
variable {ty:T TI}
variable (oX:lN P ty)
def LZ {k b0} (N:gF ty b0 n t (.lf k)=true) {a v u r} (G:rP k a b=some r) (L:VR c a v) (J:VR c b u) d:
 (Op.equalIn (d+1) t v u).run P w= .ok r w:=by
 have S:∃i,ty.get t=some i/\ CN i.kd (λe=>(ty.get e).map (·.size)) k=true:=by
  unfold gF at N;split at N<;>first|(rename_i i hi;simp only[aB] at N;first|exact⟨i,‹_›,N.1⟩|cases N)|cases N
 obtain⟨i,hi,C⟩:=S;have I:=(oX t i hi).und;clear N;have kb:k= .b ->P.underlying t=some .bool:=by
  intro e;subst e;revert I;cases hd:i.kd<;>rw[hd] at C<;>first|exact id|cases C
 have ki:k= .i ->∃q,P.underlying t=some (.int q):=by
  intro e;subst e;revert I;cases hd:i.kd<;>rw[hd] at C<;>first|exact λh=>⟨_,h⟩|cases C
 have ks:k= .s ->P.underlying t=some .string:=by
  intro e;subst e;revert I;cases hd:i.kd<;>rw[hd] at C<;>first|exact id|cases C
 have Z:k= .sl ->∃q,P.underlying t=some (.slice q):=by
  intro e;subst e;revert I;cases hd:i.kd<;>rw[hd] at C<;>first|exact λh=>⟨_,h⟩|cases C
 have km:k= .m ->∃q W,P.underlying t=some (.map q W):=by
  intro e;subst e;revert I;cases hd:i.kd<;>rw[hd] at C<;>first|exact λh=>⟨_,_,h⟩|cases C
 have kf:k= .f ->∃q W X,P.underlying t=some (.func q W X):=by
  intro e;subst e;revert I;cases hd:i.kd<;>rw[hd] at C<;>first|exact λh=>⟨_,_,_,h⟩|cases C
 have V:k= .ifc ->∃q,P.underlying t=some (.interface q):=by
  intro e;subst e;revert I;cases hd:i.kd<;>rw[hd] at C<;>first|exact λh=>⟨_,h⟩|cases C
 have kp:k= .p ->∃e D,P.underlying t=some (.pointer e)/\ P.info? e=some D/\ D.size≠0:=by
  intro e;subst e;revert I;cases hd:i.kd<;>rw[hd] at C<;>try (cases C;done)
  rename_i q;intro I;unfold CN at C;dsimp only at C;rcases E:ty.get q with _|j;rw[E] at C;cases C;rw[E] at C;simp only[qH,wX,aU] at C;obtain⟨D,zv,i1,i2,_⟩:=(oX q j E).info;exact⟨q,D,I,i1,by omega⟩
 unfold rP at G;split at G;all_goals first|cases G|skip
 cases L;cases J;rw[run_equalIn_bool (h:=kb rfl)];rename_i x y;cases x<;>cases y<;>rfl;cases L;cases J;obtain⟨q,E⟩:=ki rfl;rename_i H x O y;rw[fv] at G;split at G;rename_i Y;have:=zV Y;subst this;rw[run_equalIn_int (h:=E)];simp only[jI] at G;rw[←G];congr 1;rw[A3];by_cases e:x=y<;>simp[e];cases G;cases L with
 |s _ bs e1=>
  cases J with
  |s _ cs e2=>
   rw[run_equalIn_string (h:=ks rfl)];rw[mH,←e1,←e2];congr 1;rw[ByteArray.toList_eq,ByteArray.toList_eq];rw[xB];simp only[mD,aU];constructor;intro e;rw[e];intro e;exact LY e
 obtain⟨e,D,H,O,R⟩:=kp rfl;have key:∀A B:Addr,A.block=B.block ->(Op.equalIn (d+1) t (.pointer (some A)) (.pointer (some B))).run P w= .ok (A==B) w:=by
  intro A B hAB;simp[Op.equalIn,dL H,Go.sizeOf,typeInfo,O,R,sameAddr,hAB]
 cases L;cases J;rename_i o1 a1 o2 a2 q1 q2;rw[fv] at G;split at G;rename_i U;rw[bu,aU] at U;subst U;rw[key (c.addr o1 a1) (c.addr o1 a2) rfl];simp only[jI] at G;rw[←G,bu];congr 1;rw[xB];simp[CE.addr];cases G;cases L;cases J;obtain⟨e,D,H,O,R⟩:=kp rfl;simp[Op.equalIn,dL H];cases L;cases J;obtain⟨e,D,H,O,R⟩:=kp rfl;simp[Op.equalIn,dL H];cases L;cases J;obtain⟨e,D,H,O,R⟩:=kp rfl;simp[Op.equalIn,dL H];cases L;cases J;obtain⟨e,D,H,O,R⟩:=kp rfl;simp[Op.equalIn,dL H];cases L;cases J;obtain⟨e,D,H,O,R⟩:=kp rfl;simp[Op.equalIn,dL H];all_goals cases L;cases J
 all_goals first
  |(obtain⟨q,E⟩:=Z rfl;simp only[Op.equalIn,dz,dL E,ez];rfl)
  |(obtain⟨q,W,E⟩:=km rfl;simp only[Op.equalIn,dz,dL E,ez];rfl)
  |(obtain⟨q,W,X,E⟩:=kf rfl;simp only[Op.equalIn,dz,dL E,ez];rfl)
  |(obtain⟨q,E⟩:=V rfl;simp only[Op.equalIn,dz,dL E,ez];rfl)
def Ma:∀n m t et X a b v u r d,gF ty X m t et=true ->eH n et a b=some r ->VR c a v ->VR c b u ->n<d ->(Op.equalIn d t v u).run P w= .ok r w:=by
 intro n;induction n with
 |zero=>
  intro m t et X a b v u r d B C hv hu hd;obtain⟨d,rfl⟩:∃d',d=d'+1:=⟨d-1,by omega⟩;cases et with
  |lf k=>exact LZ oX B C hv hu d
  |ag l=>unfold eH at C;cases C
 |succ n Z=>
  intro m t et X a b v u r d B C hv hu hd;obtain⟨d,rfl⟩:∃d',d=d'+1:=⟨d-1,by omega⟩;cases et with
  |lf k=>exact LZ oX B C hv hu d
  |ag l=>
   rcases m with _|m;cases B;unfold gF at B;rcases hi:ty.get t with _|i;rw[hi] at B;cases B;rw[hi] at B;dsimp only at B;cases R:i.kd with
   |struct fs=>
    rw[R] at B;simp only[aB,jH] at B;obtain⟨b2,H⟩:=B;have hT:=oX t i hi;have J:=hT.und;rw[R] at J;cases a with
    |ag x=>
     cases b with
     |ag y=>
      cases hv with
      |ag _ vs U=>
       cases hu with
       |ag _ us S=>
        have hf:P.fieldsOf t=fs:=by simp[Program.fieldsOf,J]
        rw[run_equalIn_struct w d t _ _ (by rw[hf];exact J) (by rw[hT.sh];exact b2),hf];generalize fs.toList=F at H;clear hf J R;unfold eH at C
        revert C
        induction l generalizing F with
        |nil=>
         intro C;rcases F with _|⟨_,_⟩;cases C;rfl;cases H
        |cons f l V=>
         intro C;rcases F with _|⟨Y,F⟩;cases H;have L:((decide (Y.name≠ "_")&&(match ty.get Y.type with
          |some i=>Nat.beq f.1 Y.offset&&Nat.beq f.2.1 i.size&&(f.2.2.1==i.kd.isRow)&&gF ty false m Y.type f.2.2.2
          |none=>false))&&Gd (λt e=>gF ty false m t e) ty l F)=true:=H
         simp only[aB,aU] at L;obtain⟨⟨b1,hq⟩,D⟩:=L;rcases O:ty.get Y.type with _|j;rw[O] at hq;cases hq;rw[O] at hq;simp only[aB,bu,aU,mD] at hq;obtain⟨⟨⟨q1,q2⟩,q3⟩,q4⟩:=hq;have A:(match sub x f.1 f.2.1,sub y f.1 f.2.1 with
          |some a,some b=>match dB f.2.2.1 a,dB f.2.2.1 b with
           |some a,some b=>match eH n f.2.2.2 a b with
            |some true=>(List.rec (motive:=λ_=>Option Bool) (some true) (λf _ Z=>
             match sub x f.1 f.2.1,sub y f.1 f.2.1 with
             |some a,some b=>match dB f.2.2.1 a,dB f.2.2.1 b with
              |some a,some b=>match eH n f.2.2.2 a b with
               |some true=>Z
               |r=>r
              |_,_=>none
             |_,_=>none) l:Option Bool)
            |r=>r
           |_,_=>none
          |_,_=>none)=some r:=C
         rcases I:sub x f.1 f.2.1 with _|c1;rw[I] at A;cases A;rcases W:sub y f.1 f.2.1 with _|c2;rw[I,W] at A;cases A;rw[I,W] at A;dsimp only at A;rcases G:dB f.2.2.1 c1 with _|a1;rw[G] at A;cases A;rcases m2:dB f.2.2.1 c2 with _|a2;rw[G,m2] at A;cases A;rw[G,m2] at A;dsimp only at A;rw[q3] at G m2;obtain⟨va,p1,p2⟩:=uq (w:=w) (oX _ _ O) U I q2 G;obtain⟨vb,p3,p4⟩:=uq (w:=w) (oX _ _ O) S W q2 m2;rw[q1] at p1 p3;rcases E:eH n f.2.2.2 a1 a2 with _|rr;rw[E] at A;cases A;have he:=Z m Y.type f.2.2.2 false a1 a2 va vb rr d q4 E p2 p4 ω;unfold Op.eqFields;rw[aF b1];simp only[dz,p1,p3,ez,he];rw[E] at A;cases rr;cases A;rfl;exact V F D A
     |_=>unfold eH at C;cases C
    |_=>unfold eH at C;cases C
   |array N e=>
    rw[R] at B;dsimp only at B;rcases O:ty.get e with _|j;rw[O] at B;cases B;rw[O] at B;dsimp only at B;have hT:=oX t i hi;have J:=hT.und;rw[R] at J;have hJ:=oX e j O;obtain⟨b3,zv,i1,i2,_⟩:=hJ.info;have b0:P.cellsOf e=j.size:=by simp[Program.cellsOf,i1,i2]
    cases a with
    |ag x=>
     cases b with
     |ag y=>
      cases hv with
      |ag _ vs U=>
       cases hu with
       |ag _ us S=>
        rw[run_equalIn_array w d _ _ J i1,b0,zB];have eQ:=Ge B;rw[gB] at eQ;rw[←eQ];unfold eH at C
        revert C B
        generalize (0:Nat)=s;clear eQ R J;induction l generalizing s with
        |nil=>intro B C;cases C;simp[Op.eqItems]
        |cons f l V=>
         intro B C;have h':((Nat.beq f.1 (s*j.size)&&Nat.beq f.2.1 j.size&&(f.2.2.1==j.kd.isRow)&&gF ty false m e f.2.2.2)&&zY (λx=>gF ty false m e x) j.size j.kd.isRow N l (s+1))=true:=B;simp only[aB,bu,aU,mD] at h';obtain⟨⟨⟨⟨q1,q2⟩,q3⟩,q4⟩,D⟩:=h';have A:(match sub x f.1 f.2.1,sub y f.1 f.2.1 with
          |some a,some b=>match dB f.2.2.1 a,dB f.2.2.1 b with
           |some a,some b=>match eH n f.2.2.2 a b with
            |some true=>(List.rec (motive:=λ_=>Option Bool) (some true) (λf _ Z=>
             match sub x f.1 f.2.1,sub y f.1 f.2.1 with
             |some a,some b=>match dB f.2.2.1 a,dB f.2.2.1 b with
              |some a,some b=>match eH n f.2.2.2 a b with
               |some true=>Z
               |r=>r
              |_,_=>none
             |_,_=>none) l:Option Bool)
            |r=>r
           |_,_=>none
          |_,_=>none)=some r:=C
         rcases I:sub x f.1 f.2.1 with _|c1;rw[I] at A;cases A;rcases W:sub y f.1 f.2.1 with _|c2;rw[I,W] at A;cases A;rw[I,W] at A;dsimp only at A;rcases G:dB f.2.2.1 c1 with _|a1;rw[G] at A;cases A;rcases m2:dB f.2.2.1 c2 with _|a2;rw[G,m2] at A;cases A;rw[G,m2] at A;dsimp only at A;rw[q3] at G m2;obtain⟨va,p1,p2⟩:=uq (w:=w) hJ U I q2 G;obtain⟨vb,p3,p4⟩:=uq (w:=w) hJ S W q2 m2;rw[q1] at p1 p3;rcases E:eH n f.2.2.2 a1 a2 with _|rr;rw[E] at A;cases A;have he:=Z m e f.2.2.2 false a1 a2 va vb rr d q4 E p2 p4 ω;rw[gJ,Cc];unfold Op.eqItems;simp only[dz,p1,p3,ez,he];rw[E] at A;cases rr;cases A;rfl;exact V (s+1) D A
     |_=>unfold eH at C;cases C
    |_=>unfold eH at C;cases C
   |_=>rw[R] at B;cases B
def CO:Value ->Bool
 | .int _ _| .string _| .float _ _| .complex _ _ _=>false
 |_=>true
def YT {v u} (j:CO v=true):binOp .eql t v u=(do pure (.bool (←Op.equal t v u))):=by
 cases v<;>first|rfl|(cases j;done)|(cases u<;>first|rfl|cases j)
def YU {v u} (j:CO v=true):binOp .neq t v u=(do pure (.bool (!(←Op.equal t v u)))):=by
 cases v<;>first|rfl|(cases j;done)|(cases u<;>first|rfl|cases j)
def xT (et:ET) (x y:Operand):Bool:=match et with
 | .lf .i=>false
 | .lf .s=>false
 | .lf .ifc=>(match x,y with| .const _,_=>true|_,.const _=>true|_,_=>false)
 |_=>true
def YV {k} (B:xT (.lf k) (.const .nilIface) (.const .nilIface)=true) {a r} (j:rP k a b=some r) {v} (C:VR c a v):CO v=true/\ (k≠.ifc ->v≠.nilIface)/\∀A,v≠.agg A:=by
 unfold rP at j;split at j;all_goals first|(cases B;done)|(cases j;done)|skip
 all_goals (cases C<;>refine⟨rfl,λe=> ?_,λA e=> ?_⟩<;>first|(cases e;done)|(intro e;cases e;done)|(exact bh rfl e))
def Mb:Operand ->Bool
 | .const _=>true
 |_=>false
def YW {y} (j:xT (.lf .ifc) x y=true):(Mb x||Mb y)=true:=by
 cases x<;>cases y<;>first|rfl|(cases j;done)
def YX (X:Cx CR c h w ev ρ) {et op ne m Y b y} (J:o.op= .binOp op t x y Y) (A:(op= .eql/\ ne=false)∨(op= .neq/\ ne=true))
 (O:gF ty true m t et=true) (L:xT et x y=true) (S:(∃l,et= .ag l) ->P.eqGuardType P.depth t=false) (R:dC a x=true) (hb:dC b y=true):
 bD P CR c h w (step ev h (.eqv ne et a b)) ((execOp ρ o).run P w):=by
 show bD P CR c h w (match eH 6 et (ev a) (ev b) with|some r=> .v (.b (bif ne then !r else r)) h|none=> .bad) _;have j:=X.hE _ _ R;have C:=X.hE _ _ hb;cases D:eH 6 et (ev a) (ev b) with
 |none=>trivial
 |some r=>
  have I:(Op.equal t (ρ x) (ρ y)).run P w= .ok r w:=Ma oX 6 m t et true _ _ _ _ r Op.maxDepth O D j C (by decide);have B:CO (ρ x)=true/\ (eqGuard op t x y (ρ x) (ρ y)).run P w= .ok () w:=by
   have h0:(op== .eql||op== .neq)=true:=by rcases A with ⟨rfl,_⟩|⟨rfl,_⟩<;>rfl
   have h1:(match op with| .eql| .neq=>true|_=>false)=true:=by rcases A with ⟨rfl,_⟩|⟨rfl,_⟩<;>rfl
   cases et with
   |lf k=>
    have W:rP k (ev a) (ev b)=some r:=D;have U:xT (.lf k) (.const .nilIface) (.const .nilIface)=true:=by cases k<;>first|rfl|exact L
    obtain⟨V,q2,q3⟩:=YV U W j;refine⟨V,?_⟩;unfold eqGuard;rcases A with ⟨rfl,_⟩|⟨rfl,_⟩;all_goals
     simp only[jk,nr,bV];split;rename_i e1 e2;have G:k= .ifc:=by
      grind
     subst G;refine(congrArg (λs=>Sem.run P s w) (aF ?_)).trans rfl;exact YW L
     grind
     rfl
   |ag l=>
    have E:=S ⟨l,rfl⟩;cases H:ev a with
    |ag Z=>
     cases N:ev b with
     |ag l2=>
      rw[H] at j;rw[N] at C;generalize ρ x=v at j ⊢;generalize ρ y=u at C ⊢;cases j;cases C;exact⟨rfl,run_eqGuard_agg w op t x y _ _ E⟩
     |_=>rw[H,N] at D;unfold eH at D;cases D
    |_=>rw[H] at D;unfold eH at D;cases D
  rcases A with ⟨rfl,rfl⟩|⟨rfl,rfl⟩;rw[CK (v:= .bool r) J B.2 (by rw[YT B.1];simp only[dz,I,ez,ig])];exact cV.same X.rs (.b _);rw[CK (v:= .bool (!r)) J B.2 (by rw[YU B.1];simp only[dz,I,ez,ig])];exact cV.same X.rs (.b _)
def YY {d} (hd:P.underlying t=some d) {k k' b} (j:Instr.sameNow d k k'=some b):(Op.equal t k k').run P w= .ok b w:=by
 unfold Instr.sameNow at j;split at j;split at j;rename_i e;subst e;cases j;exact run_equalIn_int w 9999 t _ _ _ _ hd;cases j;cases j;exact(run_equalIn_string w 9999 t _ _ hd).trans (by rw[beq_toListBytes]);cases j;exact run_equalIn_bool w 9999 t _ _ hd;cases j
def Mc {d} (hd:P.underlying t=some d) {k}:∀l n {r},Instr.findNow d k l n=some r ->(Instr.findAsking t k l n).run P w= .ok r w
 |[],n,r,hr=>by cases hr;rfl
 |e::es,n,r,hr=>by
  unfold Instr.findNow at hr;unfold Instr.findAsking;rcases j:Instr.sameNow d k e.key with _|b;rw[j] at hr;cases hr;rw[j] at hr;simp only[dz,YY hd j,ez];cases b with
  |true=>cases hr;rfl
  |false=>exact Mc hd es (n+1) hr
def xU {d} (hd:P.underlying t=some d) {k l r} (j:(Instr.findAsking t k l).run P w= .ok r w):(Instr.findKey t k l).run P w= .ok r w:=by
 unfold Instr.findKey;simp only[dz,dL hd,ez];rcases A:Instr.findNow d k l 0 with _|B;exact j;have:=Mc (w:=w) hd l 0 A;rw[this] at j;cases j;rfl
def CP {ty} (oX:lN P ty) {m et D} (J:gF ty D m t et=true) {C k} (L:VR c C k):
 ∀{l l'},fQ c l l' ->∀n {q},jx et C l=some q ->
  (q=none/\ (Instr.findAsking t k l' n).run P w= .ok none w)∨
  ∃e j B,q=some e/\ l[j]? =some e/\ l'[j]? =some B/\ VR c e.1 B.key/\ VR c e.2.1 B.val/\ B.born=e.2.2/\ (Instr.findAsking t k l' n).run P w= .ok (some (n+j,B.val)) w
 |[],[],_,n,q,hq=>by cases hq;exact .inl ⟨rfl,rfl⟩
 |(a,v,b)::r,B::r',hE,n,q,hq=>by
  obtain⟨h1,h2,N,O⟩:=hE;have A:(match eH 6 et C a with|some true=>some (some (a,v,b))|some false=>jx et C r|none=>none)=some q:=hq;rcases G:eH 6 et C a with _|bb;rw[G] at A;cases A;rw[G] at A;have R:(Op.equal t k B.key).run P w= .ok bb w:=Ma oX 6 m t et D _ _ _ _ bb Op.maxDepth J G L h1 (by decide);unfold Instr.findAsking;simp only[dz,R,ez];cases bb with
  |true=>
   cases A;exact .inr ⟨_,0,B,rfl,rfl,rfl,h1,h2,N,rfl⟩
  |false=>
   rcases CP oX J L O (n+1) A with ⟨H,I⟩|⟨e,j,E,H,I,S,U,V,W,X⟩;exact .inl ⟨H,I⟩;refine .inr ⟨e,j+1,E,H,by simpa using I,by simpa using S,U,V,W,?_⟩;rw[show n+(j+1)=n+1+j by omega];exact X
 |[],_::_,hE,_,_,_=>hE.elim
 |_::_,[],hE,_,_,_=>hE.elim
def Md {k} (j:gF ty false n t (.lf k)=true) C v d:
 (Instr.checkKey C (d+1) t v).run P w= .ok () w:=by
 have A:∃i,ty.get t=some i/\ CN i.kd (λe=>(ty.get e).map (·.size)) k=true/\ k≠.ifc:=by
  unfold gF at j;split at j<;>first|(rename_i i hi;simp only[aB,zC] at j;exact⟨i,‹_›,j.1,by rintro rfl;simp at j⟩)|cases j
 obtain⟨i,hi,B,E⟩:=A;have D:=(oX t i hi).und;unfold Instr.checkKey;simp only[dz,dL D,ez];cases hd:i.kd<;>rw[hd] at B<;>first|rfl|(exfalso;cases k<;>first|(cases B;done)|exact E rfl)
def xV (j:Bool) (d:Nat) (A:Array Value):List Field ->Sem Unit
 |[]=>pure ()
 |f::fs=>if f.name≠ "_" then do
  let a←part f.type A f.offset
  Instr.checkKey j d f.type a
  xV j d A fs
  else xV j d A fs
def YZ j d t A {fs} (B:P.underlying t=some (.struct fs)):
 (Instr.checkKey j (d+1) t (.agg A)).run P w=(xV j d A fs.toList).run P w:=by
 simp only[Instr.checkKey,dz,dL B,ez];rw[←Array.forIn_toList];generalize fs.toList=l;clear B;induction l generalizing w with
 |nil=>simp[xV]
 |cons f l D=>
  simp only[List.forIn_cons,xV,dz,Sem.run_ite];split;generalize (part f.type A f.offset).run P w=r1;cases r1 with
  |ok a C=>
   simp only[ez];generalize (Instr.checkKey j d f.type a).run P C=r2;cases r2 with
   |ok b E=>
    simp only[ez,ig];exact D
   |halt x E=>simp[Result.andThen]
  |halt x C=>simp[Result.andThen]
  simp_all
def xW (j:Bool) (d:Nat) (e:TypeId) (c:Nat) (A:Array Value):List Nat ->Sem Unit
 |[]=>pure ()
 |i::is=>do
  let a←part e A (i*c)
  Instr.checkKey j d e a
  xW j d e c A is
def Za A d {e i} C (I:P.underlying t=some (.array n e)) (hi:P.info? e=some i):
 (Instr.checkKey A (d+1) t (.agg C)).run P w=(xW A d e (P.cellsOf e) C (List.range n)).run P w:=by
 simp only[Instr.checkKey,dz,dL I,ez];simp only[Std.Legacy.Range.forIn_eq_forIn_range',Std.Legacy.Range.size,Nat.sub_zero,Nat.add_one_sub_one,Nat.div_one,zB];generalize List.range' 0 n=D;generalize B:w=E;clear B;induction D generalizing E with
 |nil=>simp[xW]
 |cons j D J=>
  simp only[List.forIn_cons,xW,dz,run_sizeOf _ hi,ez];generalize (part e C (j*P.cellsOf e)).run P E=r1;cases r1 with
  |ok a G=>
   simp only[ez];generalize (Instr.checkKey A d e a).run P G=r2;cases r2 with
   |ok b H=>
    simp only[ez,ig];exact J H
   |halt x H=>simp[Result.andThen]
  |halt x G=>simp[Result.andThen]
def Zb X:∀n m t et a v d,gF ty false m t et=true ->(∀l,et= .ag l ->eH n et a a=some true) ->VR c a v ->n<d ->(Instr.checkKey X d t v).run P w= .ok () w:=by
 intro n;induction n with
 |zero=>
  intro m t et a v d B C hv hd;obtain⟨d,rfl⟩:∃Z,d=Z+1:=⟨d-1,by omega⟩;cases et with
  |lf k=>exact Md oX B X v d
  |ag l=>have:=C l rfl;unfold eH at this;cases this
 |succ n W=>
  intro m t et a v d B C hv hd;obtain⟨d,rfl⟩:∃Z,d=Z+1:=⟨d-1,by omega⟩;cases et with
  |lf k=>exact Md oX B X v d
  |ag l=>
   replace C:=C l rfl;rcases m with _|m;cases B;unfold gF at B;rcases hi:ty.get t with _|i;rw[hi] at B;cases B;rw[hi] at B;dsimp only at B;cases O:i.kd with
   |struct fs=>
    rw[O] at B;simp only[aB,jH] at B;obtain⟨b2,G⟩:=B;have hT:=oX t i hi;have J:=hT.und;rw[O] at J;cases a with
    |ag x=>
     cases hv with
     |ag _ vs R=>
      rw[YZ X d t _ J];generalize fs.toList=F at G;clear J O;unfold eH at C
      revert C
      induction l generalizing F with
      |nil=>
       intro C;rcases F with _|⟨_,_⟩;rfl;cases G
      |cons f l S=>
       intro C;rcases F with _|⟨V,F⟩;cases G;have I:((decide (V.name≠ "_")&&(match ty.get V.type with
        |some i=>Nat.beq f.1 V.offset&&Nat.beq f.2.1 i.size&&(f.2.2.1==i.kd.isRow)&&gF ty false m V.type f.2.2.2
        |none=>false))&&Gd (λt e=>gF ty false m t e) ty l F)=true:=G
       simp only[aB,aU] at I;obtain⟨⟨b1,Y⟩,D⟩:=I;rcases L:ty.get V.type with _|j;rw[L] at Y;cases Y;rw[L] at Y;simp only[aB,bu,aU,mD] at Y;obtain⟨⟨⟨q1,q2⟩,q3⟩,q4⟩:=Y;have A:(match sub x f.1 f.2.1,sub x f.1 f.2.1 with
        |some a,some b=>match dB f.2.2.1 a,dB f.2.2.1 b with
         |some a,some b=>match eH n f.2.2.2 a b with
          |some true=>(List.rec (motive:=λ_=>Option Bool) (some true) (λf _ W=>
           match sub x f.1 f.2.1,sub x f.1 f.2.1 with
           |some a,some b=>match dB f.2.2.1 a,dB f.2.2.1 b with
            |some a,some b=>match eH n f.2.2.2 a b with
             |some true=>W
             |r=>r
            |_,_=>none
           |_,_=>none) l:Option Bool)
          |r=>r
         |_,_=>none
        |_,_=>none)=some true:=C
       rcases U:sub x f.1 f.2.1 with _|c1;rw[U] at A;cases A;rw[U] at A;dsimp only at A;rcases H:dB f.2.2.1 c1 with _|a1;rw[H] at A;cases A;rw[H] at A;dsimp only at A;rw[q3] at H;obtain⟨va,p1,p2⟩:=uq (w:=w) (oX _ _ L) R U q2 H;rw[q1] at p1;rcases E:eH n f.2.2.2 a1 a1 with _|rr;rw[E] at A;cases A;rw[E] at A;cases rr;cases A;have he:=W m V.type f.2.2.2 a1 va d q4 (λ_ _=>E) p2 ω;unfold xV;rw[aF b1];simp only[dz,p1,ez,he];exact S F D A
    |_=>unfold eH at C;cases C
   |array N e=>
    rw[O] at B;dsimp only at B;rcases L:ty.get e with _|j;rw[L] at B;cases B;rw[L] at B;dsimp only at B;have J:=(oX t i hi).und;rw[O] at J;have hJ:=oX e j L;obtain⟨b3,zv,i1,i2,_⟩:=hJ.info;have b0:P.cellsOf e=j.size:=by simp[Program.cellsOf,i1,i2]
    cases a with
    |ag x=>
     cases hv with
     |ag _ vs R=>
      rw[Za X d _ J i1,b0,zB];have eQ:=Ge B;rw[gB] at eQ;rw[←eQ];unfold eH at C
      revert C B
      generalize (0:Nat)=s;clear eQ O J;induction l generalizing s with
      |nil=>intro B C;simp[xW]
      |cons f l S=>
       intro B C;have h':((Nat.beq f.1 (s*j.size)&&Nat.beq f.2.1 j.size&&(f.2.2.1==j.kd.isRow)&&gF ty false m e f.2.2.2)&&zY (λx=>gF ty false m e x) j.size j.kd.isRow N l (s+1))=true:=B;simp only[aB,bu,aU,mD] at h';obtain⟨⟨⟨⟨q1,q2⟩,q3⟩,q4⟩,D⟩:=h';have A:(match sub x f.1 f.2.1,sub x f.1 f.2.1 with
        |some a,some b=>match dB f.2.2.1 a,dB f.2.2.1 b with
         |some a,some b=>match eH n f.2.2.2 a b with
          |some true=>(List.rec (motive:=λ_=>Option Bool) (some true) (λf _ W=>
           match sub x f.1 f.2.1,sub x f.1 f.2.1 with
           |some a,some b=>match dB f.2.2.1 a,dB f.2.2.1 b with
            |some a,some b=>match eH n f.2.2.2 a b with
             |some true=>W
             |r=>r
            |_,_=>none
           |_,_=>none) l:Option Bool)
          |r=>r
         |_,_=>none
        |_,_=>none)=some true:=C
       rcases U:sub x f.1 f.2.1 with _|c1;rw[U] at A;cases A;rw[U] at A;dsimp only at A;rcases H:dB f.2.2.1 c1 with _|a1;rw[H] at A;cases A;rw[H] at A;dsimp only at A;rw[q3] at H;obtain⟨va,p1,p2⟩:=uq (w:=w) hJ R U q2 H;rw[q1] at p1;rcases E:eH n f.2.2.2 a1 a1 with _|rr;rw[E] at A;cases A;rw[E] at A;cases rr;cases A;have he:=W m e f.2.2.2 a1 va d q4 (λ_ _=>E) p2 ω;rw[gJ,Cc];unfold xW;simp only[dz,p1,ez,he];exact S (s+1) D A
    |_=>unfold eH at C;cases C
   |_=>rw[O] at B;cases B
def Gf {m et} (B:gF ty false m t et=true) {a v} (j:En et a=true) (C:VR c a v) A:(Instr.checkKey A 10000 t v).run P w= .ok () w:=by
 refine Zb oX A 6 m t et a v 10000 B (λl e=> ?_) C (by decide);subst e;unfold En at j;dsimp only at j;split at j;assumption;cases j
def Zc (X:Cx CR c h w ev ρ) {L R} (ht:P.underlying t=some (.map L R)) {m et} (V:gF ty false m L et=true) {j} (hj:ty.get R=some j)
 {b y z ok} (hz:(j.kd.isRow=true/\ z= .ag j.zs)∨(j.kd.isRow=false/\ [z]=j.zs)) {kd} (U:ty.get L=some kd)
 (ho:o.op= .lookup t x y ok) (ha:dC a x=true) (hb:dC b y=true):
 bD P CR c h w (ao2 et a b z ok ev h) ((execOp ρ o).run P w):=by
 have A:=X.hE _ _ ha;have J:=X.hE _ _ hb;unfold ao2;cases hq:En et (ev b);trivial;simp only[jk,eU];have D:∃E,(zeroValue R).run P w= .ok E w/\ VR c z E:=by
  obtain⟨b0,E,vs,h1,h2,h3,h4,h5,h6,h7,h8⟩:=(oX R j hj).zero c;refine⟨E,by simp[zeroValue,typeInfo,h1,h4],?_⟩;rcases hz with ⟨k1,rfl⟩|⟨k1,k2⟩;exact h7 k1
  grind
 have C:=λem=>Gf (w:=w) oX V hq J em;have Y:=(oX L kd U).und;have fin:∀(G:List (AV×AV×Nat)) (B:Array MapEntry) (q:Option (AV×AV×Nat)),fQ c G B.toList ->jx et (ev b) G=some q ->
  ((ρ x= .map none/\ B=#[])∨∃r N,ρ x= .map (some r)/\ w.heap[r]? =some (.map B N)) ->
  bD P CR c h w (match q with
   |some e=>Bool.rec (motive:=λ_=>da) (.v e.2.1 h) (.v (.tu [e.2.1,.b true]) h) ok
   |none=>Bool.rec (motive:=λ_=>da) (.v z h) (.v (.tu [z,.b false]) h) ok) ((execOp ρ o).run P w):=by
  intro G B q hE S hm;obtain⟨E,z1,z2⟩:=D;have W:∀r v bb,(Instr.findKey L (ρ y) B.toList).run P w= .ok r w ->((r=none/\ v=E/\ bb=false)∨∃k,r=some (k,v)/\ bb=true) ->
   (execOp ρ o).run P w= .ok (.value (if ok then .tuple #[v,.bool bb] else v)) w:=by
   intro r v bb H I;simp only[execOp,ho,Instr.lookup,dz,dL ht,ez];rcases hm with ⟨e1,e2⟩|⟨r',N,e1,e2⟩;rw[e1];subst e2;simp only[dz,ig,ez,C,H];rcases I with ⟨rfl,rfl,rfl⟩|⟨k,rfl,rfl⟩;simp only[dz,z1,ez,ig];simp only[dz,ez,ig];rw[e1];simp only[dz];rw[tj e2];simp only[dz,ig,ez,C,H];rcases I with ⟨rfl,rfl,rfl⟩|⟨k,rfl,rfl⟩;simp only[dz,z1,ez,ig];simp only[dz,ez,ig]
  rcases CP oX V J hE 0 S with ⟨e1,e2⟩|⟨e,n,e',e1,e2,e3,e4,e5,e6,e7⟩;subst e1;rw[W _ E false (xU Y e2) (.inl ⟨rfl,rfl,rfl⟩)];cases ok with
  |true=>exact cV.same X.rs (ut z2 (.b _))
  |false=>exact cV.same X.rs z2
  subst e1;rw[W _ e'.val true (xU Y e7) (.inr ⟨_,rfl,rfl⟩)];cases ok with
  |true=>exact cV.same X.rs (ut e5 (.b _))
  |false=>exact cV.same X.rs e5
 cases Z:ev a with
 |mn=>
  rw[Z] at A;have H:ρ x= .map none:=by generalize ρ x=vx at A;cases A;rfl
  exact fin [] #[] none trivial rfl (.inl ⟨H,rfl⟩)
 |m O=>
  rw[Z] at A;have H:ρ x= .map (some (c.ρ O).1):=by generalize ρ x=vx at A;cases A;rfl
  have q1:c.dM O:=by generalize ρ x=vx at A;cases A;assumption
  dsimp only;rcases hg:h.get O with _|ob;trivial;cases ob with
  |map ver G N=>
   dsimp only;obtain⟨B,n1,n2,n3,n4⟩:=X.rs.obj O _ ⟨hg,rfl,q1⟩;rcases S:jx et (ev b) G with _|q;trivial;have:=fin G B q n2 S (.inr ⟨_,N,H,n1⟩);cases q<;>exact this
  |_=>trivial
 |_=>trivial
def fQ.upd {b k x B J} (H:VR c k B) (I:VR c x J):∀{l l'},fQ c l l' ->l.Pairwise (λx y=>x.2.2<y.2.2) ->∀{j e},l[j]? =some e ->e.2.2=b ->
 ∀{L},mF b k x l=some L ->fQ c L (l'.modify j λe=>{ e with key:=B,val:=J })/\ L.map (·.2.2)=l.map (·.2.2)
 |[],_,_,_,j,e,hj,_,_,_=>by simp at hj
 |(a,v,b')::r,[],hE,_,_,_,_,_,_,_=>hE.elim
 |(a,v,b')::r,e'::r',hE,hp,j,e,hj,hb,L,hL=>by
  obtain⟨h1,h2,E,G⟩:=hE;have A:(bif Nat.beq b' b then some ((k,x,b')::r) else match mF b k x r with|some t=>some ((a,v,b')::t)|none=>none)=some L:=hL;rw[bu] at A;rw[xD] at hp;rcases j with _|j;simp only[Lp,jI] at hj;subst hj;have C:b'=b:=hb;subst C;simp only[mC,fC,jI] at A;subst A;exact⟨⟨H,I,E,G⟩,by simp⟩;simp only[Fv] at hj;have N:=hp.1 e (dI hj);have S:b'≠b:=by simp only at N;omega
  simp only[S,decide_false,eU] at A;rcases D:mF b k x r with _|t;rw[D] at A;cases A;rw[D] at A;cases A;obtain⟨O,R⟩:=fQ.upd H I G hp.2 hj hb D;refine⟨?_,by simp[R]⟩;show fQ c _ (e'::r'.modify j _);exact⟨h1,h2,E,O⟩
def Me {a} (h:o9 a b=true):a=b:=by
 unfold o9 at h;split at h;rw[nI h];exact LC h
def fQ.push {l l'} (h:fQ c l l') {k x j A} (B:VR c k j) (C:VR c x A):fQ c (l++[(k,x,n)]) (l'++[{ key:=j,val:=A,born:=n }]):=by
 induction l generalizing l' with
 |nil=>cases l' with
  |nil=>exact⟨B,C,rfl,trivial⟩
  |cons _ _=>exact h.elim
 |cons a r D=>
  obtain⟨q,v,b⟩:=a;rcases l' with _|⟨e,E⟩;exact h.elim;exact⟨h.1,h.2.1,h.2.2.1,D h.2.2.2⟩
def Mf old new:∃v j,(Instr.keyThatStays old new).run P w= .ok v j/\ (v=old∨v=new)/\ j.heap=w.heap/\ j.os=w.os/\ j.output=w.output:=by
 unfold Instr.keyThatStays;split;exact⟨new,w,rfl,.inr rfl,rfl,rfl,rfl⟩;simp only[dz,run_choose];split;simp only[ez,ig];exact⟨_,w,rfl,by simp,rfl,rfl,rfl⟩;simp only[ez,ig];refine⟨_,_,rfl,?_,rfl,rfl,rfl⟩;split;exact .inr rfl;exact .inl rfl
def Gg {L l:List (AV×AV×Nat)} (h:L.map (·.2.2)=l.map (·.2.2)) (j:l.Pairwise (λx y=>x.2.2<y.2.2)):L.Pairwise (λx y=>x.2.2<y.2.2):=by
 have h1:(l.map (·.2.2)).Pairwise (·< ·):=List.pairwise_map.2 j;rw[←h] at h1;exact List.pairwise_map.1 h1
def Gh {L l:List (AV×AV×Nat)} (h:L.map (·.2.2)=l.map (·.2.2)) (B:∀e∈l,e.2.2<n):∀e∈L,e.2.2<n:=by
 intro e A;have:e.2.2∈L.map (·.2.2):=List.mem_map_of_mem A;rw[h] at this;obtain⟨j,C,D⟩:=sV.1 this;rw[←D];exact B j C
def CQ {l} {k x:AV} (A:l.Pairwise (λx y=>x.2.2<y.2.2)) (j:∀e∈l,e.2.2<n):(l++[(k,x,n)]).Pairwise (λx y=>x.2.2<y.2.2)/\∀e∈l++[(k,x,n)],e.2.2<n+1:=by
 grind
def Gi {α:Type} (a:Array α) j f:(a.modify j f).toList=a.toList.modify j f:=by
 simp
def Mg (X:Cx CR c h w ev ρ) {O vt} (ht:P.underlying t=some (.map O vt)) {m et} (aC:gF ty false m O et=true)
 {b d y u kd} (Y:ty.get O=some kd)
 (N:o.op= .mapUpdate t x y u∨o.op= .insert t x y u) (ha:dC a x=true) (hb:dC b y=true) (hd:dC d u=true):
 bD P CR c h w (ao3 et a b d ev h) ((execOp ρ o).run P w):=by
 have A:=X.hE _ _ ha;have G:=X.hE _ _ hb;have J:=X.hE _ _ hd;unfold ao3;cases hq:En et (ev b);trivial;simp only[jk,eU];have D:=λem=>Gf (w:=w) oX aC hq G em;have fM:=(oX O kd Y).und;have I:∀w',(Instr.mapUpdate t (ρ x) (ρ y) (ρ u)).run P w= .ok () w' ->(execOp ρ o).run P w= .ok .skip w':=by
  intro w' e;rcases N with N|N<;>simp only[execOp,N]<;>exact zU e
 cases hx:ev a with
 |m B=>
  rw[hx] at A;have hr:ρ x= .map (some (c.ρ B).1):=by generalize ρ x=vx at A;cases A;rfl
  have q1:c.dM B:=by generalize ρ x=vx at A;cases A;assumption
  dsimp only;rcases V:h.get B with _|ob;trivial;cases ob with
  |map ver U C=>
   simp only[jK];obtain⟨j,n1,n2,R,n4⟩:=X.rs.obj B _ ⟨V,rfl,q1⟩;rcases hf:jx et (ev b) U with _|q;trivial;rcases CP oX aC G n2 0 hf with ⟨e1,e2⟩|⟨e,n,e',e1,e2,e3,e4,e5,e6,e7⟩;subst e1;simp only[jz,dT,AH.put_eq];have e:=I { w with heap:=w.heap.setIfInBounds (c.ρ B).1 (.map (j.push { key:=ρ y,val:=ρ u,born:=C }) (C+1)) } (by
    simp only[Instr.mapUpdate,dz,dL ht,ez,hr];rw[tj n1];simp only[ez,dz,D];rw[xU fM e2];exact zW _ n1)
   rw[e];have E:gR CR c { w with heap:=w.heap.setIfInBounds (c.ρ B).1 (.map (j.push { key:=ρ y,val:=ρ u,born:=C }) (C+1)) } B (.map (Nat.succ h.ver) (U++[(ev b,ev d,C)]) (Nat.succ C)):=by
    refine⟨_,BH n1,?_,(CQ R n4).1,(CQ R n4).2⟩;rw[Array.toList_push];exact n2.push G J
   exact⟨c,_,_,rfl,cH.write X.rs ⟨V,rfl,q1⟩ (by simp) (λb hb=>vZ hb) E _,.inr ⟨rfl,rfl⟩⟩;subst e1;dsimp only;cases W:o9 (ev b) e.1;trivial;have b1:=Me W;simp only[fC];rcases hu:mF e.2.2 (ev b) (ev d) U with _|L;trivial;simp only[AH.put_eq];obtain⟨kk,S,s1,s2,s3,b0⟩:=Mf (P:=P) (w:=w) (((j[n]?).map (·.key)).getD (ρ y)) (ρ y);have Z:VR c (ev b) kk:=by
    grind
   have H:=n1;rw[←s3] at H;have ee:=I { S with heap:=S.heap.setIfInBounds (c.ρ B).1 (.map (j.modify n λe=>{ e with key:=kk,val:=ρ u }) C) } (by
    simp only[Instr.mapUpdate,dz,dL ht,ez,hr];rw[tj n1];simp only[ez,dz,D];rw[xU fM e7];simp only[ez,dz,gB,s1];exact zW _ H)
   rw[ee];obtain⟨u1,u2⟩:=fQ.upd Z J n2 R e2 rfl hu;have E:gR CR c { S with heap:=S.heap.setIfInBounds (c.ρ B).1 (.map (j.modify n λe=>{ e with key:=kk,val:=ρ u }) C) } B (.map (Nat.succ h.ver) L C):=by
    refine⟨_,BH H,?_,Gg u2 R,Gh u2 n4⟩;rw[Gi];exact u1
   exact⟨c,_,_,rfl,cH.write X.rs ⟨V,rfl,q1⟩ (by simp[s3]) (λb hb=>by rw[←s3];exact vZ hb) E _ b0,.inr ⟨rfl,rfl⟩⟩
  |_=>trivial
 |_=>trivial
end
end
end AM
