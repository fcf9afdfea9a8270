import Derived.ChangeKeysEq
import Derived.Laws.Cover3
import Derived.Laws.Pointers
import Derived.MapKept
import Derived.WideMake
import Derived.Test.YtdmkaddihnnbaaaGreatDoorN0
set_option linter.all false
namespace AM
open Go
noncomputable section
section
variable {P:Program} {CR:Nat ->Code ->aw ->Prop}
variable {c:CE} {h:AH} {w:World} {ev:MA ->AV} {ρ:Operand ->Value} {o:Oper} {t:TypeId} {i:TI}
variable {a:MA} {x:Operand} {n:Nat}
def xR (X:Cx CR c h w ev ρ) (j:ax a x=true) (A:nA ev a=some n) {y} (B:n<=y) code:(Instr.sliceBound (ρ x) y code).run P w= .ok n w:=by
 obtain⟨k,u⟩:=th X j A;rw[u];simp[Instr.sliceBound,asIntOf,B]
def vX {a x} (h:gK a x=true):(a=none/\ x=none)∨∃j u,a=some j/\ x=some u/\ ax j u=true:=by
 cases a<;>cases x<;>first|exact .inl ⟨rfl,rfl⟩|exact .inr ⟨_,_,rfl,rfl,h⟩|cases h
def vY (X:Cx CR c h w ev ρ) H {ln cap j lo hi mx G hi' mx'} (h1:gK lo G=true) (h2:gK hi hi'=true) (O:gK mx mx'=true) (R:mx=none∨hi≠none)
 {l r m} (hb:d7 ln cap (nO ev lo) (nO ev hi) (nO ev mx)=some (l,r,m)) (J:cap<=j):
 (Instr.sliceBounds H ln j (G.map ρ) (hi'.map ρ) (mx'.map ρ)).run P w= .ok (l,r,if mx.isNone then j else m) w/\ l<=r/\ r<=m/\ m<=cap/\ (mx=none ->m=cap):=by
 unfold d7 at hb;split at hb;rename_i V h' l' e1 e2 e3;rw[fv] at hb;split at hb;rename_i A;simp only[aB,wX,aU] at A;cases hb;rcases vX O with ⟨rfl,rfl⟩|⟨U,W,rfl,rfl,I⟩;simp only[nO] at e1;cases e1;refine⟨?_,A.2,A.1.2,A.1.1,λ_=>rfl⟩;rcases vX h2 with ⟨rfl,rfl⟩|⟨N,S,rfl,rfl,C⟩;simp only[nO] at e2;cases e2;rcases vX h1 with ⟨rfl,rfl⟩|⟨al,L,rfl,rfl,u⟩
 simp_all [nO,Instr.sliceBounds]
 simp only[nO] at e3;have:=xR (P:=P) X u e3 A.2;simp[Instr.sliceBounds,this];simp only[nO] at e2;have D:=λB=>xR (P:=P) X C e2 (y:=j) ω B;rcases vX h1 with ⟨rfl,rfl⟩|⟨al,L,rfl,rfl,u⟩
 simp_all [nO,Instr.sliceBounds,D]
 simp only[nO] at e3;have:=xR (P:=P) X u e3 A.2;simp[Instr.sliceBounds,D,this];simp only[nO] at e1;have E:=λB=>xR (P:=P) X I e1 (y:=j) ω B;refine⟨?_,A.2,A.1.2,A.1.1,λk=>by cases k⟩;rcases vX h2 with ⟨rfl,rfl⟩|⟨N,S,rfl,rfl,C⟩
 grind
 simp only[nO] at e2;have D:=λB=>xR (P:=P) X C e2 (y:=m) ω B;rcases vX h1 with ⟨rfl,rfl⟩|⟨al,L,rfl,rfl,u⟩
 simp_all [nO,Instr.sliceBounds,D,E]
 simp only[nO] at e3;have:=λB=>xR (P:=P) X u e3 (y:=r) A.2 B;simp[Instr.sliceBounds,D,E,this];cases hb;cases hb
def Yz {e} (oX:gT P e i) (X:Cx CR c h w ev ρ) (ht:P.underlying t=some (.slice e)) {lo hi mx I hi' mx'}
 (ho:o.op= .slice t x I hi' mx') (ha:ax a x=true) (h1:gK lo I=true) (h2:gK hi hi'=true) (J:gK mx mx'=true) (H:mx=none∨hi≠none) {D} (R:D=i.size):
 bD P CR c h w (an3 D a lo hi mx ev h) ((execOp ρ o).run P w):=by
 unfold an3;have C:=X.hE _ _ ha;obtain⟨b0,zv,i1,i2,_⟩:=oX.info;have key:∀(A:Option Addr) (n cap l r m:Nat),ρ x= .slice A n cap ->(Instr.sliceBounds true n cap (I.map ρ) (hi'.map ρ) (mx'.map ρ)).run P w= .ok (l,r,m) w ->
  (execOp ρ o).run P w= .ok (.value (.slice (if m=l then A else A.map (·.add (l*D))) (r-l) (m-l))) w:=by
  intro A n cap l r m B hbd;simp only[execOp,ho];refine fS ?_;rw[B];simp[Instr.sliceAt,Instr.slice,dL ht,hbd,Go.sizeOf,typeInfo,i1,i2,R]
 cases U:ev a with
 |sl o' V n cap esz=>
  rw[U] at C;generalize B:ρ x=Z at C;cases C with
  |sl _ _ _ _ _ A cp q1 q2 q3 q4 q5=>
   dsimp only;cases L:(!(Nat.beq esz D)) with
   |true=>trivial
   |false=>
    have E:esz=D:=by rw[bu] at L;simpa using L
    subst E;simp only[eU];have addr:∀l m,l<=m ->m<=cp ->(if m=l then some A else (some A).map (·.add (l*esz)))=some (if m=l then A else A.add (l*esz)):=by
     intro l m _ _;split<;>rfl
    cases cap with
    |some k=>
     have G:=q2 k rfl;subst G;dsimp only;rcases hb:d7 n cp (nO ev lo) (nO ev hi) (nO ev mx) with _|j;trivial;obtain⟨l,r,m⟩:=j;obtain⟨u,b2,b3,O,b5⟩:=vY (P:=P) X true h1 h2 J H hb (bB _);simp only[dT];have N:(if mx.isNone then cp else m)=m:=by
      rcases mx with _|_;simp[b5 rfl];rfl
     rw[N] at u;rw[key _ _ _ l r m B u,addr l m ω O];refine cV.same X.rs (.sl _ _ _ _ _ _ _ q1 (λk G=>by cases G;rfl) ω ?_ ?_);intro W;rw[aD ω,q4 ω];simp[CE.addr,nE,pK];have:l*esz+(m-l)*esz=m*esz:=by rw[←nq];congr 1;omega
     have h6:m*esz<=cp*esz:=ni _ O;omega
    |none=>
     dsimp only;cases mx with
     |some Y=>
      dsimp only;rcases hb:d7 n n (nO ev lo) (nO ev hi) (nO ev (some Y)) with _|j;trivial;obtain⟨l,r,m⟩:=j;obtain⟨u,b2,b3,O,b5⟩:=vY (P:=P) X true h1 h2 J H hb q3;simp only[dT];have N:(if (some Y).isNone then cp else m)=m:=rfl;rw[N] at u;rw[key _ _ _ l r m B u,addr l m ω ω];refine cV.same X.rs (.sl _ _ _ _ _ _ _ q1 (λk G=>by cases G;rfl) ω ?_ ?_);intro W;rw[aD ω,q4 ω];simp[CE.addr,nE,pK];have:l*esz+(m-l)*esz=m*esz:=by rw[←nq];congr 1;omega
      have h6:m*esz<=cp*esz:=ni _ ω;omega
     |none=>
      dsimp only;rcases hb:d7 n n (nO ev lo) (nO ev hi) none with _|j;trivial;obtain⟨l,r,m⟩:=j;obtain⟨u,b2,b3,O,b5⟩:=vY (P:=P) (mx:=none) (mx':=mx') X true h1 h2 J (.inl rfl) hb q3;simp only[dT];simp only[Fw,dZ] at u;rw[key _ _ _ l r cp B u,addr l cp ω (bB _)];refine cV.same X.rs (.sl _ _ _ _ _ _ _ q1 (λk G=>by cases G) ω ?_ ?_);intro W;rw[aD ω,q4 ω];simp[CE.addr,nE,pK];have:l*esz+(cp-l)*esz=cp*esz:=by rw[←nq];congr 1;omega
      omega
 |ds l0 V n esz=>
  rw[U] at C;generalize B:ρ x=Z at C;cases C with
  |ds _ _ _ _ u b2 cp A row vs q1 q2 q3 q4 q5=>
   dsimp only;cases L:(!(Nat.beq esz D)) with
   |true=>trivial
   |false=>
    have E:esz=D:=by rw[bu] at L;simpa using L
    subst E;simp only[eU];cases mx with
    |some _=>trivial
    |none=>
     dsimp only;rcases hb:d7 n n (nO ev lo) (nO ev hi) none with _|j;trivial;obtain⟨l,r,m⟩:=j;obtain⟨c1,c2,c3,c4,c5⟩:=vY (P:=P) (mx:=none) (mx':=mx') X true h1 h2 J (.inl rfl) hb q4;simp only[dT];simp only[Fw,dZ] at c1;rw[key _ _ _ l r cp B c1];have e:(if cp=l then some A else (some A).map (·.add (l*esz)))=some (if cp=l then A else A.add (l*esz)):=by split<;>rfl
     rw[e];refine cV.same X.rs (.ds _ _ _ _ u b2 _ _ row vs q1 q2 q3 ω ?_);intro W;rw[aD ω,q5 ω];simp[nE,pK]
 |sn=>
  rw[U] at C;generalize B:ρ x=Z at C;cases C;dsimp only;rcases hb:d7 0 0 (nO ev lo) (nO ev hi) (nO ev mx) with _|j;trivial;obtain⟨l,r,m⟩:=j;obtain⟨c1,c2,c3,c4,c5⟩:=vY (P:=P) X true h1 h2 J H hb (bB _);dsimp only;have:m=0:=by omega
  subst this;have N:(if mx.isNone then 0 else 0)=0:=by split<;>rfl
  rw[N] at c1;rw[key _ _ _ l r 0 B c1];have hl:l=0:=by omega
  have S:r=0:=by omega
  subst hl S;exact cV.same X.rs .sn
 |_=>trivial
def YA (X:Cx CR c h w ev ρ) (J:P.underlying t=some .string) {lo hi u hi'}
 (G:o.op= .slice t x u hi' none) (E:ax a x=true) (h1:gK lo u=true) (h2:gK hi hi'=true):
 bD P CR c h w (an4 a lo hi ev h) ((execOp ρ o).run P w):=by
 unfold an4;have D:=X.hE _ _ E;cases L:ev a with
 |s A=>
  rw[L] at D;obtain⟨bs,H,j⟩:=D.str_inv;dsimp only;rw[kZ];rcases hb:d7 A.length A.length (nO ev lo) (nO ev hi) none with _|C;trivial;obtain⟨l,r,m⟩:=C;obtain⟨c1,c2,c3,c4,c5⟩:=vY (P:=P) (mx:=none) (mx':=none) X false h1 h2 rfl (.inl rfl) hb (bB _);dsimp only;rcases I:sub A l (r-l) with _|tt;trivial;obtain⟨_,rfl⟩:=lM I;have B:bs.size=A.length:=by rw[←j,kU];rfl
  simp only[Fw,dZ,Option.map_none] at c1;have e:(execOp ρ o).run P w= .ok (.value (.string (bs.extract l r))) w:=by
   simp only[execOp,G];refine fS ?_;rw[H];rw[←B] at c1;simp[Instr.sliceAt,Instr.slice,dL J,c1]
  rw[e];refine cV.same X.rs (.s _ _ ?_);rw[ByteArray.data_extract,Array.toList_extract,List.extract_eq_take_drop,List.map_take,List.map_drop,j]
 |_=>trivial
def YC (X:Cx CR c h w ev ρ) {ts} (A:ts[0]? =some t) (G:P.underlying t=some .string) (D:o.op= .call { callee:= .builtin .len,args:=#[x],argTypes:=ts }) (C:ax a x=true):
 bD P CR c h w (aq1 .str a ev h) ((execOp ρ o).run P w):=by
 unfold aq1;have B:=X.hE _ _ C;cases H:ev a with
 |s l=>
  rw[H] at B;obtain⟨bs,E,j⟩:=B.str_inv;simp only[dT,kZ];have u:bs.size=l.length:=by rw[←j,kU];rfl
  have e:(execOp ρ o).run P w= .ok (.value (.int .i64 (l.length:Int))) w:=by
   simp only[execOp,D];simp[resolve,invoke,builtin,Builtin.len_,A,dL G,E,goInt,u]
  rw[e];exact cV.same X.rs (.i _ _)
 |_=>trivial
def LN (X:Cx CR c h w ev ρ) {ts} (u:ts[0]? =some t) (j:(∃e,P.underlying t=some (.array n e))∨∃p e,P.underlying t=some (.pointer p)/\ P.underlying p=some (.array n e))
 (A:o.op= .call { callee:= .builtin .len,args:=#[x],argTypes:=ts }):bD P CR c h w (step ev h (.len (.arr n) a)) ((execOp ρ o).run P w):=by
 show bD P CR c h w (.v (ι (.ofNat n)) h) _;have e:(execOp ρ o).run P w= .ok (.value (.int .i64 (n:Int))) w:=by
  simp only[execOp,A];rcases j with ⟨e,j⟩|⟨p,e,j,B⟩;simp[resolve,invoke,builtin,Builtin.len_,u,dL j,goInt];simp[resolve,invoke,builtin,Builtin.len_,u,dL j,dL B,goInt]
 rw[e];exact cV.same X.rs (.i _ _)
def YD (X:Cx CR c h w ev ρ) {ts} (B:ts[0]? =some t) {e} (I:P.underlying t=some (.slice e)) (H:o.op= .call { callee:= .builtin .len,args:=#[x],argTypes:=ts }) (G:ax a x=true):
 bD P CR c h w (aq1 .slice a ev h) ((execOp ρ o).run P w):=by
 unfold aq1;have j:=X.hE _ _ G;have key:∀A n cp,ρ x= .slice A n cp ->(execOp ρ o).run P w= .ok (.value (.int .i64 (n:Int))) w:=by
  intro A n cp u;simp only[execOp,H];simp[resolve,invoke,builtin,Builtin.len_,B,dL I,u,goInt]
 cases C:ev a with
 |sl J D n cap esz=>
  rw[C] at j;generalize u:ρ x=E at j;cases j;rw[key _ _ _ u];exact cV.same X.rs (.i _ _)
 |ds l D n esz=>
  rw[C] at j;generalize u:ρ x=E at j;cases j;rw[key _ _ _ u];exact cV.same X.rs (.i _ _)
 |sn=>
  rw[C] at j;generalize u:ρ x=E at j;cases j;rw[key _ _ _ u];exact cV.same X.rs (.i _ _)
 |_=>trivial
def YE (X:Cx CR c h w ev ρ) {ts} (B:ts[0]? =some t) {e} (G:P.underlying t=some (.slice e)) (E:o.op= .call { callee:= .builtin .cap,args:=#[x],argTypes:=ts }) (D:ax a x=true):
 bD P CR c h w (aq2 a ev h) ((execOp ρ o).run P w):=by
 unfold aq2;have j:=X.hE _ _ D;have key:∀A n cp,ρ x= .slice A n cp ->(execOp ρ o).run P w= .ok (.value (.int .i64 (cp:Int))) w:=by
  intro A n cp u;simp only[execOp,E];simp[resolve,invoke,builtin,Builtin.cap_,B,dL G,u,goInt]
 cases C:ev a with
 |sl J H n cap esz=>
  rcases cap with _|k;trivial;rw[C] at j;generalize u:ρ x=I at j;cases j with
  |sl _ _ _ _ _ A cp q1 q2 q3 q4 q5=>
   have:=q2 k rfl;subst this;rw[key _ _ _ u];exact cV.same X.rs (.i _ _)
 |sn=>
  rw[C] at j;generalize u:ρ x=I at j;cases j;rw[key _ _ _ u];exact cV.same X.rs (.i _ _)
 |_=>trivial
def ur (X:Cx CR c h w ev ρ):∀{l xs},jo l xs=true ->∀{r},eE ev l=some r ->bX c r (xs.map ρ)
 |[],[],_,r,hr=>by cases hr;exact .nil
 |[],_::_,aC,_,_=>by cases aC
 |_::_,[],aC,_,_=>by cases aC
 |a::l,x::xs,aC,r,hr=>by
  have h':(ax a x&&jo l xs)=true:=aC;simp only[aB] at h';unfold eE at hr;rw[lJ] at hr;simp only[jK] at hr;rcases j:eM (λa=>fV (ev a) some) l with _|t;simp only[jK] at j;rw[j] at hr;cases hr;have u:=j;simp only[jK] at j;rw[j] at hr;cases hr;exact .cons _ _ _ _ (X.hE _ _ h'.1) (ur X h'.2 u)
variable {b:AV}
def YF (X:Cx CR c h w ev ρ) {fn a b x y} (u:o.op= .makeFunc (.func fn) x y) (j:jo a x.toList=true) (hb:jo b y.toList=true):
 bD P CR c h w (am8 fn a b ev h) ((execOp ρ o).run P w):=by
 unfold am8;rcases h1:eE ev a with _|A;trivial;rcases h2:eE ev b with _|B;trivial;have e:(execOp ρ o).run P w= .ok (.value (.func (.func fn) (x.map ρ) (y.map ρ))) w:=by
  simp only[execOp,u];exact fS rfl
 rw[e];have:=VR.f fn A B _ _ (ur X j h1) (ur X hb h2);refine cV.same X.rs ?_;have e1:∀z:Array Operand,z.map ρ=(z.toList.map ρ).toArray:=λz=>by apply jW;simp
 rw[e1 x,e1 y];exact this
def CL (z:Array Operand):z.map ρ=(z.toList.map ρ).toArray:=by apply jW;simp
def YG (X:Cx CR c h w ev ρ) {f args j} (B:j.callee= .value (.func f)) (u:ρ (.func f)= .func (.func f) #[] #[]) (C:o.op= .call j) (A:jo args j.args.toList=true):
 bD P CR c h w (av6 f args ev h) ((execOp ρ o).run P w):=by
 unfold av6;rcases h1:eE ev args with _|l;trivial;refine⟨rfl,_,ur X A h1,?_⟩;simp only[execOp,C,resolve,B,u,CL];simp[Deferred.ofValue,invoke]
def YH (X:Cx CR c h w ev ρ) {f g args u} (B:u.callee= .value g) (H:ax f g=true) (D:o.op= .call u) (G:jo args u.args.toList=true):
 bD P CR c h w (R6 f args ev h) ((execOp ρ o).run P w):=by
 unfold R6;have j:=X.hE _ _ H;rcases h1:eE ev args with _|l;trivial;have C:=ur X G h1;dsimp only;cases E:ev f with
 |f S R ca=>
  rw[E] at j;generalize A:ρ g=O at j;cases j with
  |f _ _ _ N L I J=>
   simp only[jz];refine⟨rfl,N++(u.args.toList.map ρ++L),I.append (C.append J),?_⟩;simp only[execOp,D,resolve,B,A,CL];simp[Deferred.ofValue,invoke]
 |y l'=>
  rw[E] at j;generalize A:ρ g=O at j;cases j with
  |y _ q=>
   dsimp only;refine⟨rfl,q,_,C,?_⟩;simp only[execOp,D,resolve,B,A,CL];simp[Deferred.ofValue,invoke]
 |_=>trivial
def LO {α:Type} (vs:List α):∀n i,i<n*vs.length ->(List.replicate n vs).flatten[i]? =vs[i%vs.length]?
 |0,i,h=>by simp at h
 |n+1,i,h=>by
  rw[uc,vD];by_cases hi:i<vs.length;rw[pL hi,Cb hi];have h2:i-vs.length<n*vs.length:=by rw[vE] at h;omega
  rw[rK ω,LO vs n _ h2];congr 1;exact(Nat.mod_eq_sub_mod ω).symm
def Gb vs n:madeCells vs.toArray (n*vs.length)=(List.replicate n vs).flatten.toArray:=by
 have A:(List.replicate n vs).flatten.length=n*vs.length:=by simp[xA]
 apply Array.ext
 simp_all [size_madeCells,A]
 intro i h1 h2;rw[size_madeCells] at h1;have j:0<vs.length:=by
  grind
 have u:i%vs.length<vs.length:=jv _ j;have:=LO vs n i h1;rw[oc ω,oc u] at this;simp only[jI] at this;simp only[madeCells,Array.getElem_map,Array.getElem_range,List.getElem_toArray,zy];rw[this];simp[u]
def VR.newSl {j id b} (hd:j.dM id) (u:j.ρ id=(b,0)) (C:j.sz id=n) l k esz cap (B:l<=k) (A:∀m,cap=some m ->k=m) (D:k*esz<=n):
 VR j (.sl id 0 l cap esz) (.slice (some ⟨b,0,none⟩) l k):=by
 refine .sl _ _ _ _ _ _ _ hd A B (λ_=> ?_) ?_;unfold CE.addr;rw[u]
 grind
def tj {r u j} (hb:w.heap[r]? =some (.map u j)):(getObj r).run P w= .ok (.map u j) w:=by simp[getObj,Sem.run,hb]
def LP {r s j} (hb:w.heap[r]? =some (.stringIter s j)):(getObj r).run P w= .ok (.stringIter s j) w:=by simp[getObj,Sem.run,hb]
def LQ {r m a b d} (hb:w.heap[r]? =some (.mapIter m a b d)):(getObj r).run P w= .ok (.mapIter m a b d) w:=by simp[getObj,Sem.run,hb]
def zW {r u j} ob (hb:w.heap[r]? =some (.map u j)):(setObj r ob).run P w= .ok () { w with heap:=w.heap.setIfInBounds r ob }:=by simp[setObj,Sem.run,hb]
def YI {r s j} ob (hb:w.heap[r]? =some (.stringIter s j)):(setObj r ob).run P w= .ok () { w with heap:=w.heap.setIfInBounds r ob }:=by simp[setObj,Sem.run,hb]
def YJ {r m a b d} ob (hb:w.heap[r]? =some (.mapIter m a b d)):(setObj r ob).run P w= .ok () { w with heap:=w.heap.setIfInBounds r ob }:=by simp[setObj,Sem.run,hb]
def xS (ev:MA ->AV):Option MA ->Bool
 |none=>true
 |some a=>match ev a with| .i _ _=>true|_=>false
def CM (X:Cx CR c h w ev ρ) {m r} (G:gK m r=true) (A:m=none∨∃a b,P.underlying t=some (.map a b)) (C:o.op= .makeMap t r) (H:xS ev m=true):
 nJ CR c w (λver=> .map ver [] 0) (λo=> .m o) ((execOp ρ o).run P w):=by
 have fin:(execOp ρ o).run P w= .ok (.value (.map (some w.heap.size))) { w with heap:=w.heap.push (.map #[] 0) } ->
  nJ CR c w (λver=> .map ver [] 0) (λo=> .m o) ((execOp ρ o).run P w):=by
  intro e;rw[e];refine⟨_,_,_,0,rfl,⟨rfl,rfl,rfl⟩,λB J id ver E hd j L hb=>⟨⟨#[],by rw[j];exact hb,trivial,.nil,λe u=>by cases u⟩,?_⟩⟩;have e2:VR B (.m id) (.map (some (B.ρ id).1)):= .m _ hd;rw[j] at e2;exact e2
 rcases vX G with ⟨rfl,rfl⟩|⟨a,x,rfl,rfl,E⟩;apply fin;simp only[execOp,C];exact fS (run_makeMap_plain (P:=P) w t);have D:=X.hE _ _ E;obtain⟨N,O,A⟩:=A.resolve_left (by simp);cases u:ev a with
 |i k n=>
  rw[u] at D;have I:=D.int_inv;apply fin;simp only[execOp,C];refine fS ?_;simp[Instr.makeMap,dL A,I,asInt,asIntOf]
 |_=>simp[xS,u] at H
def LR {e} (oX:gT P e i) (X:Cx CR c h w ev ρ) (U:P.underlying t=some (.slice e)) {b y} (R:o.op= .makeSlice t x y) (I:ax a x=true) (hb:ax b y=true)
 {z u} (V:z=i.zs) (L:u=i.size) (N:z.length=u) (J:i.bytes<=1048576) {l k} (h1:nA ev a=some l) (h2:nA ev b=some k) (G:l<=k/\ k<=1048576):
 nJ CR c w (λver=> .cells ver (List.replicate k z).flatten) (λo=> .sl o 0 l (some k) u) ((execOp ρ o).run P w):=by
 subst V;obtain⟨q,S⟩:=th X I h1;obtain⟨q',B⟩:=th X hb h2;obtain⟨j,zv,vs,W,i2,i3,Y,Z,H,_⟩:=oX.zero c;have D:vs.length=u:=by rw[H.length];exact N
 have A:(j.bytes:Int)*(k:Int)<=281474976710656:=by
  have:j.bytes*k<=1048576*1048576:=zA ω G.2;have h':((j.bytes*k:Nat):Int)<=281474976710656:=by omega
  rwa [Int.natCast_mul] at h'
 have e:(execOp ρ o).run P w= .ok (.value (.slice (some ⟨w.heap.size,0,none⟩) l k)) { w with heap:=w.heap.push (.cells (List.replicate k vs).flatten.toArray e) }:=by
  simp only[execOp,R];refine fS ?_;rw[S,B];have:=run_make (P:=P) w t e j zv U W Y q q' (l:Int) (k:Int) ω ω A ω;simp only[Int.toNat_natCast,Z] at this;rw[show j.size=vs.length by omega,Gb] at this;exact this
 rw[e];have eQ:(List.replicate k vs).flatten.length=k*u:=by simp[xA,D]
 exact CH (H.replicate k) _ rfl _ _ λc' id hd E C=>VR.newSl hd E C _ _ _ _ G.1 (λm O=>gC O) ω
def YM (X:Cx CR c h w ev ρ) {str} (H:o.op= .range t x) (R:ax a x=true) (j:(str=true/\ P.underlying t=some .string)∨(str=false/\∃k e,P.underlying t=some (.map k e))):
 bD P CR c h w (ao6 a str ev h) ((execOp ρ o).run P w):=by
 unfold ao6;have u:=X.hE _ _ R;have fin:∀(ob:bC) (A:Obj),gR CR (c.add h.next w.heap.size 0 0) { w with heap:=w.heap.push A } h.next ob ->
  (execOp ρ o).run P w= .ok (.value (.pointer (some ⟨w.heap.size,0,none⟩))) { w with heap:=w.heap.push A } ->
  bD P CR c h w (h.new ob λo h=> .v (.p o 0) h) ((execOp ρ o).run P w):=by
  intro ob A I e;rw[e,AH.new_eq];exact⟨_,_,_,rfl,cH.alloc X.rs rfl 0 I,.inl ⟨_,rfl,VR.new (by simp) (by simp) _⟩⟩
 have push:∀A:Obj,(w.heap.push A)[((c.add h.next w.heap.size 0 0).ρ h.next).1]? =some A:=λA=>by rw[CE.add_ρ];simp
 cases J:ev a with
 |s l=>
  rw[J] at u;obtain⟨bs,B,E⟩:=u.str_inv;rcases j with ⟨rfl,j⟩|⟨rfl,_⟩;refine fin _ (.stringIter bs 0) ⟨by rw[CE.add_ρ],bs,push _,E⟩ ?_;simp only[execOp,H];refine fS ?_;simp[Instr.range,dL j,B];trivial
 |mn=>
  rw[J] at u;generalize B:ρ x=U at u;cases u;rcases j with ⟨rfl,_⟩|⟨rfl,k,e,j⟩;trivial;refine fin _ (.mapIter none 0 #[] 0) ⟨λk G=>(by cases G),by rw[CE.add_ρ],push _⟩ ?_;simp only[execOp,H];refine fS ?_;simp[Instr.range,dL j,B]
 |m D=>
  rw[J] at u;generalize B:ρ x=U at u;cases u with
  |m _ L=>
   rcases j with ⟨rfl,_⟩|⟨rfl,k,e,j⟩;trivial;simp only[eU];rcases S:h.get D with _|ob;trivial;cases ob with
   |map ver V N=>
    dsimp only;obtain⟨O,h1,_⟩:=X.rs.obj D _ ⟨S,rfl,L⟩;have C:=CE.add_ext c X.rs.fresh w.heap.size 0 0;refine fin _ (.mapIter (some (c.ρ D).1) N #[] N) ⟨λk G=> ?_,by rw[CE.add_ρ],?_⟩ ?_;cases G;exact C.dM _ L;rw[push];simp[C.ρ D L];simp only[execOp,H];refine fS ?_;simp[Instr.range,dL j,B,tj (P:=P) h1]
   |_=>trivial
 |_=>trivial
def LS {α β} {f:α ->Option β}:∀{l r},eM f l=some r ->∀x∈l,∃y∈r,f x=some y
 |[],_,_,x,j=>by cases j
 |a::t,r,h,x,j=>by
  rw[lJ] at h;rcases A:f a with _|b;rw[A] at h;cases h;rw[A] at h;dsimp only at h;rcases u:eM f t with _|B;rw[u] at h;cases h;rw[u] at h;cases h;rcases ed.1 j with rfl|j
  grind
  obtain⟨y,h1,h2⟩:=LS u x j;exact⟨y,jw _ h1,h2⟩
def LT n:∀l:List Nat,vP n l=l.contains n
 |[]=>rfl
 |a::r=>by
  show(Nat.beq a n||vP n r)=_;rw[LT n r,bu,List.contains_cons];congr 1;by_cases e:a=n;subst e;simp;simp[e,Ne.symm e]
def LU seen:∀l:List (AV×AV×Nat),vQ seen l=some (l.filter λe=> !seen.contains e.2.2)
 |[]=>rfl
 |e::r=>by
  show(bif vP e.2.2 seen then vQ seen r else match vQ seen r with|some t=>some (e::t)|none=>none)=_;rw[LT,LU seen r];cases j:seen.contains e.2.2<;>simp only[j,fC,eU,Fx,jk,Fy,dZ,nr,bV]
def bH4 j:∀l:List (AV×AV×Nat),vR j l=true ->∀e∈l,e.2.2<j
 |[],_,e,u=>by cases u
 |a::r,hh,e,u=>by
  have h':(Nat.ble (Nat.succ a.2.2) j&&vR j r)=true:=hh;simp only[aB,wX,aU] at h';rcases ed.1 u with rfl|u;exact h'.1;exact bH4 j r h'.2 e u
def fQ.filter (q:Nat ->Bool):∀{l l'},fQ c l l' ->fQ c (l.filter λe=>q e.2.2) (l'.filter λe=>q e.born)
 |[],[],_=>trivial
 |(k,v,b)::r,e::r',hh=>by
  obtain⟨h1,h2,j,A⟩:=hh;have u:=fQ.filter q A;rw[Fx,Fx];simp only[j];split;exact⟨h1,h2,j,u⟩;exact u
 |[],_::_,hh=>hh.elim
 |_::_,[],hh=>hh.elim
def fQ.length:∀{l l'},fQ c l l' ->l'.length=l.length
 |[],[],_=>rfl
 |(k,v,b)::r,e::r',hh=>by simp[fQ.length hh.2.2.2]
 |[],_::_,hh=>hh.elim
 |_::_,[],hh=>hh.elim
def fQ.mem:∀{l l'},fQ c l l' ->∀e∈l',∃x∈l,VR c x.1 e.key/\ VR c x.2.1 e.val/\ e.born=x.2.2
 |[],[],_,e,j=>by cases j
 |(k,v,b)::r,e'::r',hh,e,j=>by
  obtain⟨h1,h2,u,A⟩:=hh;rcases ed.1 j with rfl|j;exact⟨_,jG,h1,h2,u⟩;obtain⟨x,B,C⟩:=fQ.mem A e j;exact⟨x,jw _ B,C⟩
 |[],_::_,hh,_,_=>hh.elim
 |_::_,[],hh,_,_=>hh.elim
def YN ty r J u D seen E B
 (U:w.heap[r]? =some (.mapIter (some J) u seen D)) (hb:w.heap[J]? =some (.map E B)) (G:(!seen.isEmpty&& !E.isEmpty&&E.all (·.born>=D))=false)
 (I:∀x∈E.toList.filter (λe=> !seen.contains e.born),x.born<u):
 (E.toList.filter (λe=> !seen.contains e.born)=[]/\ (Instr.next (.pointer (some ⟨r,0,none⟩)) false ty).run P w= .ok (.tuple #[.bool false]) w)∨
 ∃e∈E.toList.filter (λe=> !seen.contains e.born),∃A:World,(A.heap=w.heap/\ A.os=w.os/\ A.output=w.output)/\ (Instr.next (.pointer (some ⟨r,0,none⟩)) false ty).run P w= .ok (.tuple #[.bool true,e.key,e.val]) { A with heap:=A.heap.setIfInBounds r (.mapIter (some J) u (seen.push e.born) B) }:=by
 simp only[Instr.next,getObj,dz,Sem.run,U,hb,Result.andThen,G,nr,bV];have C:∀x∈(Array.filter (λe=> !seen.contains e.born) E).toList,x.born<u:=λx N=>I x (by rw[Array.toList_filter] at N;exact N);rw[←Array.toList_filter];generalize Array.filter (λe=> !seen.contains e.born) E=L at C ⊢;have e1:L.filter (λx=>decide (x.born<u))=L:=Array.filter_eq_self.2 (λx N=>by simpa using C x (by simpa using N));have e2:L.filter (λx=>decide (x.born>=u))=#[]:=by
  simp_all
 simp only[e1,e2,Array.append_empty];by_cases h0:L.size=0
 simp_all [choose,Sem.run,Question.forced]
 right;have X:L.isEmpty=false:=by simp[Array.isEmpty,h0]
 simp only[X,nr,bV,Array.empty_append,Array.size_map];have O:∃(j:Nat) (A:World),j<L.size/\ (A.heap=w.heap/\ A.os=w.os/\ A.output=w.output)/\ (choose (Question.mapNext L.size)).run P w= .ok j A:=by
  by_cases S:L.size<=1;exact⟨0,w,by omega,⟨rfl,rfl,rfl⟩,by simp[choose,Sem.run,Question.forced,S]⟩;exact⟨_,{ w with drawn:=w.drawn+1 },jv _ ω,⟨rfl,rfl,rfl⟩,by
   simp only[choose,Sem.run,Question.forced,aU,S,bV,Question.cut];rfl⟩
 obtain⟨j,A,W,H,V⟩:=O;refine⟨L[j],by simp,A,H,?_⟩;have R:A.heap[r]? =some (.mapIter (some J) u seen D):=by rw[H.1];exact U
 simp only[V,Array.getElem?_map,Fg W,qH,dz,YJ _ R,Result.andThen];rfl
def vZ {α:Type} {a:Array α} {r b x} (h:b≠r):(a.setIfInBounds r x)[b]? =a[b]? :=Fz (λe=>h e.symm)
def wd {α:Type} {a:Array α} {r x y} (h:a[r]? =some y):(a.setIfInBounds r x)[r]? =some x:=by
 grind
def YO {seen u A j} (h:zN seen u A=true) (B:fQ c A j):
 (!seen.toArray.isEmpty&& !j.toArray.isEmpty&&j.toArray.all (·.born>=u))=false:=by
 rcases seen with _|⟨s,r⟩;simp;rcases A with _|⟨e,H⟩;cases j with
  |nil=>simp
  |cons _ _=>exact B.elim
 rcases j with _|⟨E,D⟩;exact B.elim;obtain⟨k,v,b⟩:=e;obtain⟨_,_,C,_⟩:=B;have h':Nat.ble (Nat.succ b) u=true:=h;rw[wX,aU] at h';simp[C];intro G;omega
def LW {a d x y z} (h1:VR c a x) (h2:VR c b y) (j:VR c d z):VR c (.tu [a,b,d]) (.tuple #[x,y,z]):=
 .tu _ [x,y,z] (.cons _ _ _ _ h1 (.cons _ _ _ _ h2 (.cons _ _ _ _ j .nil)))
def ut {a x y} (h1:VR c a x) (h2:VR c b y):VR c (.tu [a,b]) (.tuple #[x,y]):=
 .tu _ [x,y] (.cons _ _ _ _ h1 (.cons _ _ _ _ h2 .nil))
def Gc {a x} (h1:VR c a x):VR c (.tu [a]) (.tuple #[x]):= .tu _ [x] (.cons _ _ _ _ h1 .nil)
def YP (X:Cx CR c h w ev ρ) {str} (ho:o.op= .next x str) (ha:ax a x=true):
 bD P CR c h w (ao7 a str ev h) ((execOp ρ o).run P w):=by
 have hv:=X.hE _ _ ha;unfold ao7;cases hx:ev a with
 |p A b4=>
  dsimp only;rw[bu];by_cases O:b4=0;subst O;simp only[mC,fC];unfold vS;rw[hx] at hv;generalize hr:ρ x=vx at hv;cases hv with
  |p _ _ W=>
   have b7:(execOp ρ o).run P w=((Instr.next (.pointer (some (c.addr A 0))) str o.type).run P w).andThen λv Y=> .ok (.value v) Y:=by
    simp_all [execOp,ho,hr,dz,ig]
   have fin:∀v Y,(Instr.next (.pointer (some (c.addr A 0))) str o.type).run P w= .ok v Y ->(execOp ρ o).run P w= .ok (.value v) Y:=by
    simp_all
   rcases V:h.get A with _|ob;trivial;cases ob with
   |sit l u=>
    obtain⟨m2,bs,m3,m4⟩:=X.rs.obj A _ ⟨V,rfl,W⟩;have C:c.addr A 0=⟨(c.ρ A).1,0,none⟩:=by simp[CE.addr,m2]
    rw[C] at fin;have b8:bs.size=l.length:=by rw[←m4,kU];rfl
    dsimp only;cases str;trivial;simp only[fC,Cw];rcases hb:l[u]? with _|b;have b0:¬u<bs.size:=by
     grind
    have e:=fin (.tuple #[.bool false]) w (by
     simp only[Instr.next,dz];rw[LP m3];simp[b0])
    rw[e];exact cV.same X.rs (Gc (.b _));dsimp only;cases hc:Nat.ble b 127;trivial;rw[wX,aU] at hc;have aV:u<bs.size:=by
     grind
    have N:(bs.get! u).toNat=b:=by
     have h1:bs.data.size=bs.size:=rfl;rw[←m4,oh] at hb;rw[oc (by simp;omega)] at hb;simp only[qH,jI,Array.getElem_toList] at hb;rw[←hb];show(bs.data[u]!).toNat=_;rw[getElem!_pos bs.data u ω]
    have J:Utf8.decode bs u=(b,1):=by
     unfold Utf8.decode;simp only[vG,N];rw[aF ω]
    have e:=fin (.tuple #[.bool true,goInt u,.int .i32 b]) { w with heap:=w.heap.setIfInBounds (c.ρ A).1 (.stringIter bs (u+1)) } (by
     simp only[Instr.next,dz];rw[LP m3];simp only[dP,aF aV,J,dz];rw[YI _ m3];rfl)
    rw[e];simp only[fC,dT,AH.put_eq];have E:gR CR c { w with heap:=w.heap.setIfInBounds (c.ρ A).1 (.stringIter bs (u+1)) } A (.sit l (Nat.succ u)):=⟨m2,bs,wd m3,m4⟩
    exact⟨c,_,_,rfl,cH.write X.rs ⟨V,rfl,W⟩ (by simp) (λb hb=>vZ hb) E _,.inl ⟨_,rfl,LW (.b _) (.i _ _) (.i _ _)⟩⟩
   |mit m j seen B=>
    obtain⟨m1,m2,m3⟩:=X.rs.obj A _ ⟨V,rfl,W⟩;have C:c.addr A 0=⟨(c.ρ A).1,0,none⟩:=by simp[CE.addr,m2]
    rw[C] at fin;rcases m with _|m;dsimp only;cases str with
    |true=>trivial
    |false=>
     have e:=fin (.tuple #[.bool false]) w (by
      simp only[Instr.next,dz];simp only[Option.map_none] at m3;rw[LQ m3];rfl)
     rw[e];exact cV.same X.rs (Gc (.b _))
    dsimp only;cases str with
    |true=>trivial
    |false=>
     simp only[eU];rcases hm:h.get m with _|b3;trivial;cases b3 with
     |map ver Z G=>
      dsimp only;obtain⟨H,n1,n2,n3,n4⟩:=X.rs.obj m _ ⟨hm,rfl,m1 m rfl⟩;cases hk:zN seen B Z;trivial;simp only[jk,eU,LU];cases R:vR j (Z.filter λe=> !seen.contains e.2.2);trivial;simp only[fC];have hE:=fQ.filter (λb=> !seen.contains b) n2;have I:∀b,seen.toArray.contains b=seen.contains b:=λb=>by simp
      simp only[qH] at m3;have D:=YN (P:=P) o.type (c.ρ A).1 (c.ρ m).1 j B seen.toArray H G m3 n1 (by simpa using YO (c:=c) hk n2) (by
       intro e he;simp only[I] at he;obtain⟨y,y1,_,_,y4⟩:=hE.mem e he;rw[y4];exact bH4 _ _ R y y1)
      simp only[I] at D;generalize hL:(Z.filter λe=> !seen.contains e.2.2)=L at hE D R ⊢;generalize b6:(H.toList.filter λe=> !seen.contains e.born)=L' at hE D;rcases D with ⟨k1,S⟩|⟨e',k1,w1,⟨S,b2⟩,k3⟩;subst k1;cases L with
      |cons _ _=>exact hE.elim
      |nil=>
       rw[fin _ _ S];exact cV.same X.rs (Gc (.b _))
      obtain⟨y,y1,y2,y3,y4⟩:=hE.mem e' k1;have U:=m3;rw[←S] at U;have good:∀ver,cV CR c h w (.tu [.b true,y.1,y.2.1]) ⟨h.next,ver,h.oB.put A (.mit (some m) j (seen++[y.2.2]) G)⟩ ((execOp ρ o).run P w):=by
       intro ver;rw[fin _ _ k3];have E:gR CR c { w1 with heap:=w1.heap.setIfInBounds (c.ρ A).1 (.mapIter (some (c.ρ m).1) j (seen.toArray.push e'.born) G) } A (.mit (some m) j (seen++[y.2.2]) G):=by
        refine⟨m1,m2,?_⟩;rw[y4];have:(seen++[y.2.2]).toArray=seen.toArray.push y.2.2:=by simp
        rw[this];exact wd U
       exact⟨c,_,_,rfl,cH.write X.rs ⟨V,rfl,W⟩ (by simp[S]) (λb hb=>by rw[←S];exact vZ hb) E ver b2,.inl ⟨_,rfl,LW (.b _) y2 y3⟩⟩
      rcases L with _|⟨z,zs⟩;cases y1;rcases zs with _|⟨z2,zs⟩;simp only[yC] at y1;subst y1;simp only[jz,AH.put_eq];exact good _;dsimp only;cases b1:eM (λ(e:AV×AV×Nat)=>match fy seen [e.2.2] with
       |some seen=>h.put A (.mit (some m) j seen G) λh=>some (AV.tu [.b true,e.1,e.2.1],h)
       |none=>none) (z::z2::zs) with
      |none=>trivial
      |some r=>
       obtain⟨q,b5,q2⟩:=LS b1 y y1;simp only[jz,AH.put_eq,jI] at q2;subst q2;exact⟨_,b5,good _⟩
     |_=>trivial
   |_=>trivial
  rw[ot O];trivial
 |_=>trivial
def fQ.ent {b}:∀{l l'},fQ c l l' ->∀{x},pU b l=some x ->∃e,l'.find? (·.born==b)=some e/\ VR c x.1 e.key/\ VR c x.2.1 e.val/\ e.born=x.2.2
 |[],[],_,x,hh=>by cases hh
 |(k,v,b')::r,e::r',hE,x,hh=>by
  obtain⟨h1,h2,A,B⟩:=hE;have h':(bif Nat.beq b' b then some (k,v,b') else pU b r)=some x:=hh;rw[bu] at h';by_cases j:b'=b
  grind
  simp only[j,decide_false,eU] at h';obtain⟨u,C,D⟩:=fQ.ent B h';exact⟨u,by rw[List.find?_cons_of_neg (by simp[A,j])];exact C,D⟩
 |[],_::_,hE,_,_=>hE.elim
 |_::_,[],hE,_,_=>hE.elim
def LX:∀l d,(List.rec (motive:=λ_=>Option Nat ->Option Nat) (λr=>r) (λa _ j _=>j (some a)) l d:Option Nat)=(l.getLast?).or d
 |[],d=>by simp
 |a::r,d=>by
  show(List.rec (motive:=λ_=>Option Nat ->Option Nat) (λr=>r) (λa _ j _=>j (some a)) r (some a):Option Nat)=_;rw[LX r (some a)];rcases r with _|⟨b,r⟩;rfl;rw[List.getLast?_cons_cons];rcases u:(b::r).getLast? with _|x;simp at u;rfl
def YQ (X:Cx CR c h w ev ρ) (Z:o.op= .entry x) (R:ax a x=true):
 bD P CR c h w (ao8 a ev h) ((execOp ρ o).run P w):=by
 have H:=X.hE _ _ R;unfold ao8;cases hx:ev a with
 |p B J=>
  dsimp only;rw[bu];by_cases A:J=0;subst A;simp only[mC,fC];unfold vT;rw[hx] at H;generalize hr:ρ x=vx at H;cases H with
  |p _ _ q1=>
   rcases V:h.get B with _|ob;trivial;cases ob with
   |mit m L seen j=>
    obtain⟨m1,m2,m3⟩:=X.rs.obj B _ ⟨V,rfl,q1⟩;have u:c.addr B 0=⟨(c.ρ B).1,0,none⟩:=by simp[CE.addr,m2]
    rcases m with _|m;trivial;dsimp only;rcases Y:h.get m with _|I;trivial;cases I with
    |map ver O N=>
     dsimp only;obtain⟨D,n1,n2,n3,n4⟩:=X.rs.obj m _ ⟨Y,rfl,m1 m rfl⟩;rw[LX,Option.or_none];rcases W:seen.getLast? with _|b;trivial;dsimp only;rw[bu];by_cases G:N=j;simp only[G,mC,fC];rcases S:pU b O with _|e;trivial;obtain⟨C,k1,k2,k3,k4⟩:=n2.ent S;have ex:(execOp ρ o).run P w= .ok (.value (.tuple #[C.key,C.val])) w:=by
      simp only[execOp,Z];refine fS ?_;rw[hr,u];simp only[Instr.entry,dz];simp only[qH] at m3;rw[LQ m3];have E:seen.toArray.back? =some b:=by simp[W]
      simp only[dP,E,dz];rw[tj n1];have U:D.find? (·.born==b)=some C:=by rw[←Array.find?_toList];exact k1
      simp only[dP,G,bne_self_eq_false,nr,bV,U];rfl
     rw[ex];exact cV.same X.rs (ut k2 k3);rw[ot G];trivial
    |_=>trivial
   |_=>trivial
  rw[ot A];trivial
 |_=>trivial
def YS (X:Cx CR c h w ev ρ) {op A b y} (u:o.op= .binOp op t x y A) (j:ax a x=true) (hb:ax b y=true):
 bD P CR c h w (step ev h (.bin op a b)) ((execOp ρ o).run P w):=by
 cases e1:ev a with
 |i k n=>
  cases e2:ev b with
  |i k' m=>exact LM X u j hb (.inl ⟨k,n,k',m,e1,e2⟩)
  |_=>show bD P CR c h w (dr h (aY op (ev a) (ev b))) _;rw[e1,e2];trivial
 |s l=>
  cases e2:ev b with
  |s m=>exact LM X u j hb (.inr ⟨l,m,e1,e2⟩)
  |_=>show bD P CR c h w (dr h (aY op (ev a) (ev b))) _;rw[e1,e2];trivial
 |_=>show bD P CR c h w (dr h (aY op (ev a) (ev b))) _;rw[e1];cases ev b<;>trivial
def CN (kd:TypeDesc) (sz:TypeId ->Option Nat):EK ->Bool
 | .b=>match kd with| .bool=>true|_=>false
 | .i=>match kd with| .int _=>true|_=>false
 | .s=>match kd with| .string=>true|_=>false
 | .p=>match kd with| .pointer e=>(match sz e with|some n=>Nat.ble 1 n|none=>false)|_=>false
 | .sl=>match kd with| .slice _=>true|_=>false
 | .m=>match kd with| .map _ _=>true|_=>false
 | .f=>match kd with| .func _ _ _=>true|_=>false
 | .ifc=>match kd with| .interface _=>true|_=>false
def Gd (one:TypeId ->ET ->Bool) (ty:T TI) (l:List (Nat×Nat×Bool×ET)):List Field ->Bool:=
 List.rec (motive:=λ_=>List Field ->Bool) (λfs=>List.isEmpty fs) (λa _ j fs=>match fs with
  |[]=>false
  |f::r=>(decide (f.name≠ "_")&&(match ty.get f.type with
   |some i=>Nat.beq a.1 f.offset&&Nat.beq a.2.1 i.size&&(a.2.2.1==i.kd.isRow)&&one f.type a.2.2.2
   |none=>false))&&j r) l
def zY (one:ET ->Bool) (sz:Nat) (row:Bool) (n:Nat) (l:List (Nat×Nat×Bool×ET)):Nat ->Bool:=
 List.rec (motive:=λ_=>Nat ->Bool) (λk=>Nat.beq k n) (λa _ j k=>(Nat.beq a.1 (k*sz)&&Nat.beq a.2.1 sz&&(a.2.2.1==row)&&one a.2.2.2)&&j (k+1)) l
def Ge {one sz n row}:∀{l s},zY one sz row n l s=true ->s+l.length=n
 |[],s,h=>by have h':Nat.beq s n=true:=h;rw[bu,aU] at h';simpa using h'
 |f::l,s,h=>by
  have h':((Nat.beq f.1 (s*sz)&&Nat.beq f.2.1 sz&&(f.2.2.1==row)&&one f.2.2.2)&&zY one sz row n l (s+1))=true:=h;rw[aB] at h';have:=Ge h'.2;simp only[gJ];omega
def gF (ty:T TI) (u:Bool):Nat ->TypeId ->ET ->Bool
 |_,t,.lf k=>match ty.get t with
  |some i=>CN i.kd (λe=>(ty.get e).map (·.size)) k&&(u||(match k with| .ifc=>false|_=>true))
  |none=>false
 |n+1,t,.ag l=>match ty.get t with
  |some i=>match i.kd with
   | .struct fs=> !i.sh&&Gd (λt e=>gF ty false n t e) ty l fs.toList
   | .array k e=>(match ty.get e with|some j=>zY (λx=>gF ty false n e x) j.size j.kd.isRow k l 0|none=>false)
   |_=>false
  |none=>false
 |0,_,.ag _=>false
def LY:∀{l m:List UInt8},l.map UInt8.toNat=m.map UInt8.toNat ->l=m
 |[],[],_=>rfl
 |[],_::_,h=>by simp at h
 |_::_,[],h=>by simp at h
 |a::l,b::m,h=>by
  simp only[jY,List.cons.injEq] at h;rw[UInt8.toNat_inj.1 h.1,LY h.2]
variable {ty:T TI}
variable (oX:lN P ty)
def LZ {k b0} (N:gF ty b0 n t (.lf k)=true) {a v u r} (G:rP k a b=some r) (L:VR c a v) (J:VR c b u) d:
 (Op.equalIn (d+1) t v u).run P w= .ok r w:=by
 have S:∃i,ty.get t=some i/\ CN i.kd (λe=>(ty.get e).map (·.size)) k=true:=by
  unfold gF at N;split at N<;>first|(rename_i i hi;simp only[aB] at N;first|exact⟨i,‹_›,N.1⟩|cases N)|cases N
 obtain⟨i,hi,C⟩:=S;have I:=(oX t i hi).und;clear N;have kb:k= .b ->P.underlying t=some .bool:=by
  intro e;subst e;revert I;cases hd:i.kd<;>rw[hd] at C<;>first|exact id|cases C
 have ki:k= .i ->∃q,P.underlying t=some (.int q):=by
  intro e;subst e;revert I;cases hd:i.kd<;>rw[hd] at C<;>first|exact λh=>⟨_,h⟩|cases C
 have ks:k= .s ->P.underlying t=some .string:=by
  intro e;subst e;revert I;cases hd:i.kd<;>rw[hd] at C<;>first|exact id|cases C
 have Z:k= .sl ->∃q,P.underlying t=some (.slice q):=by
  intro e;subst e;revert I;cases hd:i.kd<;>rw[hd] at C<;>first|exact λh=>⟨_,h⟩|cases C
 have km:k= .m ->∃q W,P.underlying t=some (.map q W):=by
  intro e;subst e;revert I;cases hd:i.kd<;>rw[hd] at C<;>first|exact λh=>⟨_,_,h⟩|cases C
 have kf:k= .f ->∃q W X,P.underlying t=some (.func q W X):=by
  intro e;subst e;revert I;cases hd:i.kd<;>rw[hd] at C<;>first|exact λh=>⟨_,_,_,h⟩|cases C
 have V:k= .ifc ->∃q,P.underlying t=some (.interface q):=by
  intro e;subst e;revert I;cases hd:i.kd<;>rw[hd] at C<;>first|exact λh=>⟨_,h⟩|cases C
 have kp:k= .p ->∃e D,P.underlying t=some (.pointer e)/\ P.info? e=some D/\ D.size≠0:=by
  intro e;subst e;revert I;cases hd:i.kd<;>rw[hd] at C<;>try (cases C;done)
  rename_i q;intro I;unfold CN at C;dsimp only at C;rcases E:ty.get q with _|j;rw[E] at C;cases C;rw[E] at C;simp only[qH,wX,aU] at C;obtain⟨D,zv,i1,i2,_⟩:=(oX q j E).info;exact⟨q,D,I,i1,by omega⟩
 unfold rP at G;split at G;all_goals first|cases G|skip
 cases L;cases J;rw[run_equalIn_bool (h:=kb rfl)];rename_i x y;cases x<;>cases y<;>rfl;cases L;cases J;obtain⟨q,E⟩:=ki rfl;rename_i H x O y;rw[fv] at G;split at G;rename_i Y;have:=zV Y;subst this;rw[run_equalIn_int (h:=E)];simp only[jI] at G;rw[←G];congr 1;rw[A3];by_cases e:x=y<;>simp[e];cases G;cases L with
 |s _ bs e1=>
  cases J with
  |s _ cs e2=>
   rw[run_equalIn_string (h:=ks rfl)];rw[mH,←e1,←e2];congr 1;rw[ByteArray.toList_eq,ByteArray.toList_eq];rw[xB];simp only[mD,aU];constructor;intro e;rw[e];intro e;exact LY e
 obtain⟨e,D,H,O,R⟩:=kp rfl;have key:∀A B:Addr,A.block=B.block ->(Op.equalIn (d+1) t (.pointer (some A)) (.pointer (some B))).run P w= .ok (A==B) w:=by
  intro A B hAB;simp[Op.equalIn,dL H,Go.sizeOf,typeInfo,O,R,sameAddr,hAB]
 cases L;cases J;rename_i o1 a1 o2 a2 q1 q2;rw[fv] at G;split at G;rename_i U;rw[bu,aU] at U;subst U;rw[key (c.addr o1 a1) (c.addr o1 a2) rfl];simp only[jI] at G;rw[←G,bu];congr 1;rw[xB];simp[CE.addr];cases G;cases L;cases J;obtain⟨e,D,H,O,R⟩:=kp rfl;simp[Op.equalIn,dL H];cases L;cases J;obtain⟨e,D,H,O,R⟩:=kp rfl;simp[Op.equalIn,dL H];cases L;cases J;obtain⟨e,D,H,O,R⟩:=kp rfl;simp[Op.equalIn,dL H];cases L;cases J;obtain⟨e,D,H,O,R⟩:=kp rfl;simp[Op.equalIn,dL H];cases L;cases J;obtain⟨e,D,H,O,R⟩:=kp rfl;simp[Op.equalIn,dL H];all_goals cases L;cases J
 all_goals first
  |(obtain⟨q,E⟩:=Z rfl;simp only[Op.equalIn,dz,dL E,dP];rfl)
  |(obtain⟨q,W,E⟩:=km rfl;simp only[Op.equalIn,dz,dL E,dP];rfl)
  |(obtain⟨q,W,X,E⟩:=kf rfl;simp only[Op.equalIn,dz,dL E,dP];rfl)
  |(obtain⟨q,E⟩:=V rfl;simp only[Op.equalIn,dz,dL E,dP];rfl)
def Ma:∀n m t et X a b v u r d,gF ty X m t et=true ->eH n et a b=some r ->VR c a v ->VR c b u ->n<d ->(Op.equalIn d t v u).run P w= .ok r w:=by
 intro n;induction n with
 |zero=>
  intro m t et X a b v u r d B C hv hu hd;obtain⟨d,rfl⟩:∃d',d=d'+1:=⟨d-1,by omega⟩;cases et with
  |lf k=>exact LZ oX B C hv hu d
  |ag l=>unfold eH at C;cases C
 |succ n Z=>
  intro m t et X a b v u r d B C hv hu hd;obtain⟨d,rfl⟩:∃d',d=d'+1:=⟨d-1,by omega⟩;cases et with
  |lf k=>exact LZ oX B C hv hu d
  |ag l=>
   rcases m with _|m;cases B;unfold gF at B;rcases hi:ty.get t with _|i;rw[hi] at B;cases B;rw[hi] at B;dsimp only at B;cases R:i.kd with
   |struct fs=>
    rw[R] at B;simp only[aB,jH] at B;obtain⟨b2,H⟩:=B;have hT:=oX t i hi;have J:=hT.und;rw[R] at J;cases a with
    |ag x=>
     cases b with
     |ag y=>
      cases hv with
      |ag _ vs U=>
       cases hu with
       |ag _ us S=>
        have hf:P.fieldsOf t=fs:=by simp[Program.fieldsOf,J]
        rw[run_equalIn_struct w d t _ _ (by rw[hf];exact J) (by rw[hT.sh];exact b2),hf];generalize fs.toList=F at H;clear hf J R;unfold eH at C
        revert C
        induction l generalizing F with
        |nil=>
         intro C;rcases F with _|⟨_,_⟩;cases C;rfl;cases H
        |cons f l V=>
         intro C;rcases F with _|⟨Y,F⟩;cases H;have L:((decide (Y.name≠ "_")&&(match ty.get Y.type with
          |some i=>Nat.beq f.1 Y.offset&&Nat.beq f.2.1 i.size&&(f.2.2.1==i.kd.isRow)&&gF ty false m Y.type f.2.2.2
          |none=>false))&&Gd (λt e=>gF ty false m t e) ty l F)=true:=H
         simp only[aB,aU] at L;obtain⟨⟨b1,hq⟩,D⟩:=L;rcases O:ty.get Y.type with _|j;rw[O] at hq;cases hq;rw[O] at hq;simp only[aB,bu,aU,mD] at hq;obtain⟨⟨⟨q1,q2⟩,q3⟩,q4⟩:=hq;have A:(match sub x f.1 f.2.1,sub y f.1 f.2.1 with
          |some a,some b=>match dB f.2.2.1 a,dB f.2.2.1 b with
           |some a,some b=>match eH n f.2.2.2 a b with
            |some true=>(List.rec (motive:=λ_=>Option Bool) (some true) (λf _ Z=>
             match sub x f.1 f.2.1,sub y f.1 f.2.1 with
             |some a,some b=>match dB f.2.2.1 a,dB f.2.2.1 b with
              |some a,some b=>match eH n f.2.2.2 a b with
               |some true=>Z
               |r=>r
              |_,_=>none
             |_,_=>none) l:Option Bool)
            |r=>r
           |_,_=>none
          |_,_=>none)=some r:=C
         rcases I:sub x f.1 f.2.1 with _|c1;rw[I] at A;cases A;rcases W:sub y f.1 f.2.1 with _|c2;rw[I,W] at A;cases A;rw[I,W] at A;dsimp only at A;rcases G:dB f.2.2.1 c1 with _|a1;rw[G] at A;cases A;rcases m2:dB f.2.2.1 c2 with _|a2;rw[G,m2] at A;cases A;rw[G,m2] at A;dsimp only at A;rw[q3] at G m2;obtain⟨va,p1,p2⟩:=uq (w:=w) (oX _ _ O) U I q2 G;obtain⟨vb,p3,p4⟩:=uq (w:=w) (oX _ _ O) S W q2 m2;rw[q1] at p1 p3;rcases E:eH n f.2.2.2 a1 a2 with _|rr;rw[E] at A;cases A;have he:=Z m Y.type f.2.2.2 false a1 a2 va vb rr d q4 E p2 p4 ω;unfold Op.eqFields;rw[aF b1];simp only[dz,p1,p3,dP,he];rw[E] at A;cases rr;cases A;rfl;exact V F D A
     |_=>unfold eH at C;cases C
    |_=>unfold eH at C;cases C
   |array N e=>
    rw[R] at B;dsimp only at B;rcases O:ty.get e with _|j;rw[O] at B;cases B;rw[O] at B;dsimp only at B;have hT:=oX t i hi;have J:=hT.und;rw[R] at J;have hJ:=oX e j O;obtain⟨b3,zv,i1,i2,_⟩:=hJ.info;have b0:P.cellsOf e=j.size:=by simp[Program.cellsOf,i1,i2]
    cases a with
    |ag x=>
     cases b with
     |ag y=>
      cases hv with
      |ag _ vs U=>
       cases hu with
       |ag _ us S=>
        rw[run_equalIn_array w d _ _ J i1,b0,zB];have eQ:=Ge B;rw[gB] at eQ;rw[←eQ];unfold eH at C
        revert C B
        generalize (0:Nat)=s;clear eQ R J;induction l generalizing s with
        |nil=>intro B C;cases C;simp[Op.eqItems]
        |cons f l V=>
         intro B C;have h':((Nat.beq f.1 (s*j.size)&&Nat.beq f.2.1 j.size&&(f.2.2.1==j.kd.isRow)&&gF ty false m e f.2.2.2)&&zY (λx=>gF ty false m e x) j.size j.kd.isRow N l (s+1))=true:=B;simp only[aB,bu,aU,mD] at h';obtain⟨⟨⟨⟨q1,q2⟩,q3⟩,q4⟩,D⟩:=h';have A:(match sub x f.1 f.2.1,sub y f.1 f.2.1 with
          |some a,some b=>match dB f.2.2.1 a,dB f.2.2.1 b with
           |some a,some b=>match eH n f.2.2.2 a b with
            |some true=>(List.rec (motive:=λ_=>Option Bool) (some true) (λf _ Z=>
             match sub x f.1 f.2.1,sub y f.1 f.2.1 with
             |some a,some b=>match dB f.2.2.1 a,dB f.2.2.1 b with
              |some a,some b=>match eH n f.2.2.2 a b with
               |some true=>Z
               |r=>r
              |_,_=>none
             |_,_=>none) l:Option Bool)
            |r=>r
           |_,_=>none
          |_,_=>none)=some r:=C
         rcases I:sub x f.1 f.2.1 with _|c1;rw[I] at A;cases A;rcases W:sub y f.1 f.2.1 with _|c2;rw[I,W] at A;cases A;rw[I,W] at A;dsimp only at A;rcases G:dB f.2.2.1 c1 with _|a1;rw[G] at A;cases A;rcases m2:dB f.2.2.1 c2 with _|a2;rw[G,m2] at A;cases A;rw[G,m2] at A;dsimp only at A;rw[q3] at G m2;obtain⟨va,p1,p2⟩:=uq (w:=w) hJ U I q2 G;obtain⟨vb,p3,p4⟩:=uq (w:=w) hJ S W q2 m2;rw[q1] at p1 p3;rcases E:eH n f.2.2.2 a1 a2 with _|rr;rw[E] at A;cases A;have he:=Z m e f.2.2.2 false a1 a2 va vb rr d q4 E p2 p4 ω;rw[gJ,Cc];unfold Op.eqItems;simp only[dz,p1,p3,dP,he];rw[E] at A;cases rr;cases A;rfl;exact V (s+1) D A
     |_=>unfold eH at C;cases C
    |_=>unfold eH at C;cases C
   |_=>rw[R] at B;cases B
def CO:Value ->Bool
 | .int _ _| .string _| .float _ _| .complex _ _ _=>false
 |_=>true
def YT {v u} (j:CO v=true):binOp .eql t v u=(do pure (.bool (←Op.equal t v u))):=by
 cases v<;>first|rfl|(cases j;done)|(cases u<;>first|rfl|cases j)
def YU {v u} (j:CO v=true):binOp .neq t v u=(do pure (.bool (!(←Op.equal t v u)))):=by
 cases v<;>first|rfl|(cases j;done)|(cases u<;>first|rfl|cases j)
def xT (et:ET) (x y:Operand):Bool:=match et with
 | .lf .i=>false
 | .lf .s=>false
 | .lf .ifc=>(match x,y with| .const _,_=>true|_,.const _=>true|_,_=>false)
 |_=>true
def YV {k} (A:xT (.lf k) (.const .nilIface) (.const .nilIface)=true) {a r} (j:rP k a b=some r) {v} (B:VR c a v):CO v=true/\ (k≠.ifc ->v≠.nilIface)/\∀u,v≠.agg u:=by
 unfold rP at j;split at j;all_goals first|(cases A;done)|(cases j;done)|skip
 all_goals (cases B<;>refine⟨rfl,λe=> ?_,λu e=> ?_⟩<;>first|(cases e;done)|(intro e;cases e;done)|(exact bh rfl e))
def Mb:Operand ->Bool
 | .const _=>true
 |_=>false
def YW {y} (j:xT (.lf .ifc) x y=true):(Mb x||Mb y)=true:=by
 cases x<;>cases y<;>first|rfl|(cases j;done)
def YX (X:Cx CR c h w ev ρ) {et op ne m Y b y} (J:o.op= .binOp op t x y Y) (A:(op= .eql/\ ne=false)∨(op= .neq/\ ne=true))
 (O:gF ty true m t et=true) (L:xT et x y=true) (S:(∃l,et= .ag l) ->P.eqGuardType P.depth t=false) (R:ax a x=true) (hb:ax b y=true):
 bD P CR c h w (step ev h (.eqv ne et a b)) ((execOp ρ o).run P w):=by
 show bD P CR c h w (match eH 6 et (ev a) (ev b) with|some r=> .v (.b (bif ne then !r else r)) h|none=> .bad) _;have j:=X.hE _ _ R;have C:=X.hE _ _ hb;cases D:eH 6 et (ev a) (ev b) with
 |none=>trivial
 |some r=>
  have I:(Op.equal t (ρ x) (ρ y)).run P w= .ok r w:=Ma oX 6 m t et true _ _ _ _ r Op.maxDepth O D j C (by decide);have B:CO (ρ x)=true/\ (eqGuard op t x y (ρ x) (ρ y)).run P w= .ok () w:=by
   have h0:(op== .eql||op== .neq)=true:=by rcases A with ⟨rfl,_⟩|⟨rfl,_⟩<;>rfl
   have h1:(match op with| .eql| .neq=>true|_=>false)=true:=by rcases A with ⟨rfl,_⟩|⟨rfl,_⟩<;>rfl
   cases et with
   |lf k=>
    have W:rP k (ev a) (ev b)=some r:=D;have U:xT (.lf k) (.const .nilIface) (.const .nilIface)=true:=by cases k<;>first|rfl|exact L
    obtain⟨V,q2,q3⟩:=YV U W j;refine⟨V,?_⟩;unfold eqGuard;rcases A with ⟨rfl,_⟩|⟨rfl,_⟩;all_goals
     simp only[jk,nr,bV];split;rename_i e1 e2;have G:k= .ifc:=by
      grind
     subst G;refine(congrArg (λs=>Sem.run P s w) (aF ?_)).trans rfl;exact YW L
     grind
     rfl
   |ag l=>
    have E:=S ⟨l,rfl⟩;cases H:ev a with
    |ag Z=>
     cases N:ev b with
     |ag l2=>
      rw[H] at j;rw[N] at C;generalize ρ x=v at j ⊢;generalize ρ y=u at C ⊢;cases j;cases C;exact⟨rfl,run_eqGuard_agg w op t x y _ _ E⟩
     |_=>rw[H,N] at D;unfold eH at D;cases D
    |_=>rw[H] at D;unfold eH at D;cases D
  rcases A with ⟨rfl,rfl⟩|⟨rfl,rfl⟩;rw[CK (v:= .bool r) J B.2 (by rw[YT B.1];simp only[dz,I,dP,ig])];exact cV.same X.rs (.b _);rw[CK (v:= .bool (!r)) J B.2 (by rw[YU B.1];simp only[dz,I,dP,ig])];exact cV.same X.rs (.b _)
def YY {d} (hd:P.underlying t=some d) {k k' b} (j:Instr.sameNow d k k'=some b):(Op.equal t k k').run P w= .ok b w:=by
 unfold Instr.sameNow at j;split at j;split at j;rename_i e;subst e;cases j;exact run_equalIn_int w 9999 t _ _ _ _ hd;cases j;cases j;exact(run_equalIn_string w 9999 t _ _ hd).trans (by rw[beq_toListBytes]);cases j;exact run_equalIn_bool w 9999 t _ _ hd;cases j
def Mc {d} (hd:P.underlying t=some d) {k}:∀l n {r},Instr.findNow d k l n=some r ->(Instr.findAsking t k l n).run P w= .ok r w
 |[],n,r,hr=>by cases hr;rfl
 |e::es,n,r,hr=>by
  unfold Instr.findNow at hr;unfold Instr.findAsking;rcases j:Instr.sameNow d k e.key with _|b;rw[j] at hr;cases hr;rw[j] at hr;simp only[dz,YY hd j,dP];cases b with
  |true=>cases hr;rfl
  |false=>exact Mc hd es (n+1) hr
def xU {d} (hd:P.underlying t=some d) {k l r} (j:(Instr.findAsking t k l).run P w= .ok r w):(Instr.findKey t k l).run P w= .ok r w:=by
 unfold Instr.findKey;simp only[dz,dL hd,dP];rcases u:Instr.findNow d k l 0 with _|A;exact j;have:=Mc (w:=w) hd l 0 u;rw[this] at j;cases j;rfl
def CP {ty} (oX:lN P ty) {m et C} (I:gF ty C m t et=true) {B k} (J:VR c B k):
 ∀{l l'},fQ c l l' ->∀n {q},jx et B l=some q ->
  (q=none/\ (Instr.findAsking t k l' n).run P w= .ok none w)∨
  ∃e j A,q=some e/\ l[j]? =some e/\ l'[j]? =some A/\ VR c e.1 A.key/\ VR c e.2.1 A.val/\ A.born=e.2.2/\ (Instr.findAsking t k l' n).run P w= .ok (some (n+j,A.val)) w
 |[],[],_,n,q,hq=>by cases hq;exact .inl ⟨rfl,rfl⟩
 |(a,v,b)::r,A::r',hE,n,q,hq=>by
  obtain⟨h1,h2,L,N⟩:=hE;have u:(match eH 6 et B a with|some true=>some (some (a,v,b))|some false=>jx et B r|none=>none)=some q:=hq;rcases E:eH 6 et B a with _|bb;rw[E] at u;cases u;rw[E] at u;have O:(Op.equal t k A.key).run P w= .ok bb w:=Ma oX 6 m t et C _ _ _ _ bb Op.maxDepth I E J h1 (by decide);unfold Instr.findAsking;simp only[dz,O,dP];cases bb with
  |true=>
   cases u;exact .inr ⟨_,0,A,rfl,rfl,rfl,h1,h2,L,rfl⟩
  |false=>
   rcases CP oX I J N (n+1) u with ⟨G,H⟩|⟨e,j,D,G,H,R,S,U,V,W⟩;exact .inl ⟨G,H⟩;refine .inr ⟨e,j+1,D,G,by simpa using H,by simpa using R,S,U,V,?_⟩;rw[show n+(j+1)=n+1+j by omega];exact W
 |[],_::_,hE,_,_,_=>hE.elim
 |_::_,[],hE,_,_,_=>hE.elim
def Md {k} (j:gF ty false n t (.lf k)=true) B v d:
 (Instr.checkKey B (d+1) t v).run P w= .ok () w:=by
 have u:∃i,ty.get t=some i/\ CN i.kd (λe=>(ty.get e).map (·.size)) k=true/\ k≠.ifc:=by
  unfold gF at j;split at j<;>first|(rename_i i hi;simp only[aB,zC] at j;exact⟨i,‹_›,j.1,by rintro rfl;simp at j⟩)|cases j
 obtain⟨i,hi,A,D⟩:=u;have C:=(oX t i hi).und;unfold Instr.checkKey;simp only[dz,dL C,dP];cases hd:i.kd<;>rw[hd] at A<;>first|rfl|(exfalso;cases k<;>first|(cases A;done)|exact D rfl)
def xV (j:Bool) (d:Nat) (u:Array Value):List Field ->Sem Unit
 |[]=>pure ()
 |f::fs=>if f.name≠ "_" then do
  let a←part f.type u f.offset
  Instr.checkKey j d f.type a
  xV j d u fs
  else xV j d u fs
def YZ j d t u {fs} (A:P.underlying t=some (.struct fs)):
 (Instr.checkKey j (d+1) t (.agg u)).run P w=(xV j d u fs.toList).run P w:=by
 simp only[Instr.checkKey,dz,dL A,dP];rw[←Array.forIn_toList];generalize fs.toList=l;clear A;induction l generalizing w with
 |nil=>simp[xV]
 |cons f l C=>
  simp only[List.forIn_cons,xV,dz,Sem.run_ite];split;generalize (part f.type u f.offset).run P w=r1;cases r1 with
  |ok a B=>
   simp only[dP];generalize (Instr.checkKey j d f.type a).run P B=r2;cases r2 with
   |ok b D=>
    simp only[dP,ig];exact C
   |halt x D=>simp[Result.andThen]
  |halt x B=>simp[Result.andThen]
  simp_all
def xW (j:Bool) (d:Nat) (e:TypeId) (c:Nat) (u:Array Value):List Nat ->Sem Unit
 |[]=>pure ()
 |i::is=>do
  let a←part e u (i*c)
  Instr.checkKey j d e a
  xW j d e c u is
def Za u d {e i} B (H:P.underlying t=some (.array n e)) (hi:P.info? e=some i):
 (Instr.checkKey u (d+1) t (.agg B)).run P w=(xW u d e (P.cellsOf e) B (List.range n)).run P w:=by
 simp only[Instr.checkKey,dz,dL H,dP];simp only[Std.Legacy.Range.forIn_eq_forIn_range',Std.Legacy.Range.size,Nat.sub_zero,Nat.add_one_sub_one,Nat.div_one,zB];generalize List.range' 0 n=C;generalize A:w=D;clear A;induction C generalizing D with
 |nil=>simp[xW]
 |cons j C I=>
  simp only[List.forIn_cons,xW,dz,run_sizeOf _ hi,dP];generalize (part e B (j*P.cellsOf e)).run P D=r1;cases r1 with
  |ok a E=>
   simp only[dP];generalize (Instr.checkKey u d e a).run P E=r2;cases r2 with
   |ok b G=>
    simp only[dP,ig];exact I G
   |halt x G=>simp[Result.andThen]
  |halt x E=>simp[Result.andThen]
def Zb W:∀n m t et a v d,gF ty false m t et=true ->(∀l,et= .ag l ->eH n et a a=some true) ->VR c a v ->n<d ->(Instr.checkKey W d t v).run P w= .ok () w:=by
 intro n;induction n with
 |zero=>
  intro m t et a v d A B hv hd;obtain⟨d,rfl⟩:∃Y,d=Y+1:=⟨d-1,by omega⟩;cases et with
  |lf k=>exact Md oX A W v d
  |ag l=>have:=B l rfl;unfold eH at this;cases this
 |succ n V=>
  intro m t et a v d A B hv hd;obtain⟨d,rfl⟩:∃Y,d=Y+1:=⟨d-1,by omega⟩;cases et with
  |lf k=>exact Md oX A W v d
  |ag l=>
   replace B:=B l rfl;rcases m with _|m;cases A;unfold gF at A;rcases hi:ty.get t with _|i;rw[hi] at A;cases A;rw[hi] at A;dsimp only at A;cases L:i.kd with
   |struct fs=>
    rw[L] at A;simp only[aB,jH] at A;obtain⟨b2,E⟩:=A;have hT:=oX t i hi;have I:=hT.und;rw[L] at I;cases a with
    |ag x=>
     cases hv with
     |ag _ vs O=>
      rw[YZ W d t _ I];generalize fs.toList=F at E;clear I L;unfold eH at B
      revert B
      induction l generalizing F with
      |nil=>
       intro B;rcases F with _|⟨_,_⟩;rfl;cases E
      |cons f l R=>
       intro B;rcases F with _|⟨U,F⟩;cases E;have H:((decide (U.name≠ "_")&&(match ty.get U.type with
        |some i=>Nat.beq f.1 U.offset&&Nat.beq f.2.1 i.size&&(f.2.2.1==i.kd.isRow)&&gF ty false m U.type f.2.2.2
        |none=>false))&&Gd (λt e=>gF ty false m t e) ty l F)=true:=E
       simp only[aB,aU] at H;obtain⟨⟨b1,X⟩,C⟩:=H;rcases J:ty.get U.type with _|j;rw[J] at X;cases X;rw[J] at X;simp only[aB,bu,aU,mD] at X;obtain⟨⟨⟨q1,q2⟩,q3⟩,q4⟩:=X;have u:(match sub x f.1 f.2.1,sub x f.1 f.2.1 with
        |some a,some b=>match dB f.2.2.1 a,dB f.2.2.1 b with
         |some a,some b=>match eH n f.2.2.2 a b with
          |some true=>(List.rec (motive:=λ_=>Option Bool) (some true) (λf _ V=>
           match sub x f.1 f.2.1,sub x f.1 f.2.1 with
           |some a,some b=>match dB f.2.2.1 a,dB f.2.2.1 b with
            |some a,some b=>match eH n f.2.2.2 a b with
             |some true=>V
             |r=>r
            |_,_=>none
           |_,_=>none) l:Option Bool)
          |r=>r
         |_,_=>none
        |_,_=>none)=some true:=B
       rcases S:sub x f.1 f.2.1 with _|c1;rw[S] at u;cases u;rw[S] at u;dsimp only at u;rcases G:dB f.2.2.1 c1 with _|a1;rw[G] at u;cases u;rw[G] at u;dsimp only at u;rw[q3] at G;obtain⟨va,p1,p2⟩:=uq (w:=w) (oX _ _ J) O S q2 G;rw[q1] at p1;rcases D:eH n f.2.2.2 a1 a1 with _|rr;rw[D] at u;cases u;rw[D] at u;cases rr;cases u;have he:=V m U.type f.2.2.2 a1 va d q4 (λ_ _=>D) p2 ω;unfold xV;rw[aF b1];simp only[dz,p1,dP,he];exact R F C u
    |_=>unfold eH at B;cases B
   |array N e=>
    rw[L] at A;dsimp only at A;rcases J:ty.get e with _|j;rw[J] at A;cases A;rw[J] at A;dsimp only at A;have I:=(oX t i hi).und;rw[L] at I;have hJ:=oX e j J;obtain⟨b3,zv,i1,i2,_⟩:=hJ.info;have b0:P.cellsOf e=j.size:=by simp[Program.cellsOf,i1,i2]
    cases a with
    |ag x=>
     cases hv with
     |ag _ vs O=>
      rw[Za W d _ I i1,b0,zB];have Z:=Ge A;rw[gB] at Z;rw[←Z];unfold eH at B
      revert B A
      generalize (0:Nat)=s;clear Z L I;induction l generalizing s with
      |nil=>intro A B;simp[xW]
      |cons f l R=>
       intro A B;have h':((Nat.beq f.1 (s*j.size)&&Nat.beq f.2.1 j.size&&(f.2.2.1==j.kd.isRow)&&gF ty false m e f.2.2.2)&&zY (λx=>gF ty false m e x) j.size j.kd.isRow N l (s+1))=true:=A;simp only[aB,bu,aU,mD] at h';obtain⟨⟨⟨⟨q1,q2⟩,q3⟩,q4⟩,C⟩:=h';have u:(match sub x f.1 f.2.1,sub x f.1 f.2.1 with
        |some a,some b=>match dB f.2.2.1 a,dB f.2.2.1 b with
         |some a,some b=>match eH n f.2.2.2 a b with
          |some true=>(List.rec (motive:=λ_=>Option Bool) (some true) (λf _ V=>
           match sub x f.1 f.2.1,sub x f.1 f.2.1 with
           |some a,some b=>match dB f.2.2.1 a,dB f.2.2.1 b with
            |some a,some b=>match eH n f.2.2.2 a b with
             |some true=>V
             |r=>r
            |_,_=>none
           |_,_=>none) l:Option Bool)
          |r=>r
         |_,_=>none
        |_,_=>none)=some true:=B
       rcases S:sub x f.1 f.2.1 with _|c1;rw[S] at u;cases u;rw[S] at u;dsimp only at u;rcases G:dB f.2.2.1 c1 with _|a1;rw[G] at u;cases u;rw[G] at u;dsimp only at u;rw[q3] at G;obtain⟨va,p1,p2⟩:=uq (w:=w) hJ O S q2 G;rw[q1] at p1;rcases D:eH n f.2.2.2 a1 a1 with _|rr;rw[D] at u;cases u;rw[D] at u;cases rr;cases u;have he:=V m e f.2.2.2 a1 va d q4 (λ_ _=>D) p2 ω;rw[gJ,Cc];unfold xW;simp only[dz,p1,dP,he];exact R (s+1) C u
    |_=>unfold eH at B;cases B
   |_=>rw[L] at A;cases A
def Gf {m et} (A:gF ty false m t et=true) {a v} (j:En et a=true) (B:VR c a v) u:(Instr.checkKey u 10000 t v).run P w= .ok () w:=by
 refine Zb oX u 6 m t et a v 10000 A (λl e=> ?_) B (by decide);subst e;unfold En at j;dsimp only at j;split at j;assumption;cases j
def Zc (X:Cx CR c h w ev ρ) {J O} (ht:P.underlying t=some (.map J O)) {m et} (U:gF ty false m J et=true) {j} (hj:ty.get O=some j)
 {b y z ok} (hz:(j.kd.isRow=true/\ z= .ag j.zs)∨(j.kd.isRow=false/\ [z]=j.zs)) {kd} (S:ty.get J=some kd)
 (ho:o.op= .lookup t x y ok) (ha:ax a x=true) (hb:ax b y=true):
 bD P CR c h w (ao2 et a b z ok ev h) ((execOp ρ o).run P w):=by
 have u:=X.hE _ _ ha;have I:=X.hE _ _ hb;unfold ao2;cases hq:En et (ev b);trivial;simp only[jk,eU];have C:∃D,(zeroValue O).run P w= .ok D w/\ VR c z D:=by
  obtain⟨b0,D,vs,h1,h2,h3,h4,h5,h6,h7,h8⟩:=(oX O j hj).zero c;refine⟨D,by simp[zeroValue,typeInfo,h1,h4],?_⟩;rcases hz with ⟨Z,rfl⟩|⟨Z,k2⟩;exact h7 Z
  grind
 have B:=λem=>Gf (w:=w) oX U hq I em;have W:=(oX J kd S).und;have fin:∀(E:List (AV×AV×Nat)) (A:Array MapEntry) (q:Option (AV×AV×Nat)),fQ c E A.toList ->jx et (ev b) E=some q ->
  ((ρ x= .map none/\ A=#[])∨∃r L,ρ x= .map (some r)/\ w.heap[r]? =some (.map A L)) ->
  bD P CR c h w (match q with
   |some e=>Bool.rec (motive:=λ_=>ay) (.v e.2.1 h) (.v (.tu [e.2.1,.b true]) h) ok
   |none=>Bool.rec (motive:=λ_=>ay) (.v z h) (.v (.tu [z,.b false]) h) ok) ((execOp ρ o).run P w):=by
  intro E A q hE R hm;obtain⟨D,z1,z2⟩:=C;have V:∀r v bb,(Instr.findKey J (ρ y) A.toList).run P w= .ok r w ->((r=none/\ v=D/\ bb=false)∨∃k,r=some (k,v)/\ bb=true) ->
   (execOp ρ o).run P w= .ok (.value (if ok then .tuple #[v,.bool bb] else v)) w:=by
   intro r v bb G H;simp only[execOp,ho,Instr.lookup,dz,dL ht,dP];rcases hm with ⟨e1,e2⟩|⟨r',L,e1,e2⟩;rw[e1];subst e2;simp only[dz,ig,dP,B,G];rcases H with ⟨rfl,rfl,rfl⟩|⟨k,rfl,rfl⟩;simp only[dz,z1,dP,ig];simp only[dz,dP,ig];rw[e1];simp only[dz];rw[tj e2];simp only[dz,ig,dP,B,G];rcases H with ⟨rfl,rfl,rfl⟩|⟨k,rfl,rfl⟩;simp only[dz,z1,dP,ig];simp only[dz,dP,ig]
  rcases CP oX U I hE 0 R with ⟨e1,e2⟩|⟨e,n,e',e1,e2,e3,e4,e5,e6,e7⟩;subst e1;rw[V _ D false (xU W e2) (.inl ⟨rfl,rfl,rfl⟩)];cases ok with
  |true=>exact cV.same X.rs (ut z2 (.b _))
  |false=>exact cV.same X.rs z2
  subst e1;rw[V _ e'.val true (xU W e7) (.inr ⟨_,rfl,rfl⟩)];cases ok with
  |true=>exact cV.same X.rs (ut e5 (.b _))
  |false=>exact cV.same X.rs e5
 cases Y:ev a with
 |mn=>
  rw[Y] at u;have G:ρ x= .map none:=by generalize ρ x=vx at u;cases u;rfl
  exact fin [] #[] none trivial rfl (.inl ⟨G,rfl⟩)
 |m N=>
  rw[Y] at u;have G:ρ x= .map (some (c.ρ N).1):=by generalize ρ x=vx at u;cases u;rfl
  have q1:c.dM N:=by generalize ρ x=vx at u;cases u;assumption
  dsimp only;rcases hg:h.get N with _|ob;trivial;cases ob with
  |map ver E L=>
   dsimp only;obtain⟨A,n1,n2,n3,n4⟩:=X.rs.obj N _ ⟨hg,rfl,q1⟩;rcases R:jx et (ev b) E with _|q;trivial;have:=fin E A q n2 R (.inr ⟨_,L,G,n1⟩);cases q<;>exact this
  |_=>trivial
 |_=>trivial
def fQ.upd {b k x A I} (G:VR c k A) (H:VR c x I):∀{l l'},fQ c l l' ->l.Pairwise (λx y=>x.2.2<y.2.2) ->∀{j e},l[j]? =some e ->e.2.2=b ->
 ∀{L},mF b k x l=some L ->fQ c L (l'.modify j λe=>{ e with key:=A,val:=I })/\ L.map (·.2.2)=l.map (·.2.2)
 |[],_,_,_,j,e,hj,_,_,_=>by simp at hj
 |(a,v,b')::r,[],hE,_,_,_,_,_,_,_=>hE.elim
 |(a,v,b')::r,e'::r',hE,hp,j,e,hj,hb,L,hL=>by
  obtain⟨h1,h2,D,E⟩:=hE;have u:(bif Nat.beq b' b then some ((k,x,b')::r) else match mF b k x r with|some t=>some ((a,v,b')::t)|none=>none)=some L:=hL;rw[bu] at u;rw[xD] at hp;rcases j with _|j;simp only[Lp,jI] at hj;subst hj;have B:b'=b:=hb;subst B;simp only[mC,fC,jI] at u;subst u;exact⟨⟨G,H,D,E⟩,by simp⟩;simp only[Fv] at hj;have J:=hp.1 e (dI hj);have R:b'≠b:=by simp only at J;omega
  simp only[R,decide_false,eU] at u;rcases C:mF b k x r with _|t;rw[C] at u;cases u;rw[C] at u;cases u;obtain⟨N,O⟩:=fQ.upd G H E hp.2 hj hb C;refine⟨?_,by simp[O]⟩;show fQ c _ (e'::r'.modify j _);exact⟨h1,h2,D,N⟩
def Me {a} (h:o9 a b=true):a=b:=by
 unfold o9 at h;split at h;rw[nI h];exact LC h
def fQ.push {l l'} (h:fQ c l l') {k x j u} (A:VR c k j) (B:VR c x u):fQ c (l++[(k,x,n)]) (l'++[{ key:=j,val:=u,born:=n }]):=by
 induction l generalizing l' with
 |nil=>cases l' with
  |nil=>exact⟨A,B,rfl,trivial⟩
  |cons _ _=>exact h.elim
 |cons a r C=>
  obtain⟨q,v,b⟩:=a;rcases l' with _|⟨e,D⟩;exact h.elim;exact⟨h.1,h.2.1,h.2.2.1,C h.2.2.2⟩
def Mf old new:∃v j,(Instr.keyThatStays old new).run P w= .ok v j/\ (v=old∨v=new)/\ j.heap=w.heap/\ j.os=w.os/\ j.output=w.output:=by
 unfold Instr.keyThatStays;split;exact⟨new,w,rfl,.inr rfl,rfl,rfl,rfl⟩;simp only[dz,run_choose];split;simp only[dP,ig];exact⟨_,w,rfl,by simp,rfl,rfl,rfl⟩;simp only[dP,ig];refine⟨_,_,rfl,?_,rfl,rfl,rfl⟩;split;exact .inr rfl;exact .inl rfl
def Gg {L l:List (AV×AV×Nat)} (h:L.map (·.2.2)=l.map (·.2.2)) (j:l.Pairwise (λx y=>x.2.2<y.2.2)):L.Pairwise (λx y=>x.2.2<y.2.2):=by
 have h1:(l.map (·.2.2)).Pairwise (·< ·):=List.pairwise_map.2 j;rw[←h] at h1;exact List.pairwise_map.1 h1
def Gh {L l:List (AV×AV×Nat)} (h:L.map (·.2.2)=l.map (·.2.2)) (A:∀e∈l,e.2.2<n):∀e∈L,e.2.2<n:=by
 intro e u;have:e.2.2∈L.map (·.2.2):=List.mem_map_of_mem u;rw[h] at this;obtain⟨j,B,C⟩:=sV.1 this;rw[←C];exact A j B
def CQ {l} {k x:AV} (u:l.Pairwise (λx y=>x.2.2<y.2.2)) (j:∀e∈l,e.2.2<n):(l++[(k,x,n)]).Pairwise (λx y=>x.2.2<y.2.2)/\∀e∈l++[(k,x,n)],e.2.2<n+1:=by
 grind
def Gi {α:Type} (a:Array α) j f:(a.modify j f).toList=a.toList.modify j f:=by
 simp
def Mg (X:Cx CR c h w ev ρ) {O vt} (ht:P.underlying t=some (.map O vt)) {m et} (aC:gF ty false m O et=true)
 {b d y u kd} (Y:ty.get O=some kd)
 (N:o.op= .mapUpdate t x y u∨o.op= .insert t x y u) (ha:ax a x=true) (hb:ax b y=true) (hd:ax d u=true):
 bD P CR c h w (ao3 et a b d ev h) ((execOp ρ o).run P w):=by
 have A:=X.hE _ _ ha;have G:=X.hE _ _ hb;have J:=X.hE _ _ hd;unfold ao3;cases hq:En et (ev b);trivial;simp only[jk,eU];have D:=λem=>Gf (w:=w) oX aC hq G em;have fM:=(oX O kd Y).und;have I:∀w',(Instr.mapUpdate t (ρ x) (ρ y) (ρ u)).run P w= .ok () w' ->(execOp ρ o).run P w= .ok .skip w':=by
  intro w' e;rcases N with N|N<;>simp only[execOp,N]<;>exact zU e
 cases hx:ev a with
 |m B=>
  rw[hx] at A;have hr:ρ x= .map (some (c.ρ B).1):=by generalize ρ x=vx at A;cases A;rfl
  have q1:c.dM B:=by generalize ρ x=vx at A;cases A;assumption
  dsimp only;rcases V:h.get B with _|ob;trivial;cases ob with
  |map ver U C=>
   simp only[jK];obtain⟨j,n1,n2,R,n4⟩:=X.rs.obj B _ ⟨V,rfl,q1⟩;rcases hf:jx et (ev b) U with _|q;trivial;rcases CP oX aC G n2 0 hf with ⟨e1,e2⟩|⟨e,n,e',e1,e2,e3,e4,e5,e6,e7⟩;subst e1;simp only[jz,dT,AH.put_eq];have e:=I { w with heap:=w.heap.setIfInBounds (c.ρ B).1 (.map (j.push { key:=ρ y,val:=ρ u,born:=C }) (C+1)) } (by
    simp only[Instr.mapUpdate,dz,dL ht,dP,hr];rw[tj n1];simp only[dP,dz,D];rw[xU fM e2];exact zW _ n1)
   rw[e];have E:gR CR c { w with heap:=w.heap.setIfInBounds (c.ρ B).1 (.map (j.push { key:=ρ y,val:=ρ u,born:=C }) (C+1)) } B (.map (Nat.succ h.ver) (U++[(ev b,ev d,C)]) (Nat.succ C)):=by
    refine⟨_,wd n1,?_,(CQ R n4).1,(CQ R n4).2⟩;rw[Array.toList_push];exact n2.push G J
   exact⟨c,_,_,rfl,cH.write X.rs ⟨V,rfl,q1⟩ (by simp) (λb hb=>vZ hb) E _,.inr ⟨rfl,rfl⟩⟩;subst e1;dsimp only;cases W:o9 (ev b) e.1;trivial;have b1:=Me W;simp only[fC];rcases hu:mF e.2.2 (ev b) (ev d) U with _|L;trivial;simp only[AH.put_eq];obtain⟨kk,S,s1,s2,s3,b0⟩:=Mf (P:=P) (w:=w) (((j[n]?).map (·.key)).getD (ρ y)) (ρ y);have Z:VR c (ev b) kk:=by
    grind
   have H:=n1;rw[←s3] at H;have ee:=I { S with heap:=S.heap.setIfInBounds (c.ρ B).1 (.map (j.modify n λe=>{ e with key:=kk,val:=ρ u }) C) } (by
    simp only[Instr.mapUpdate,dz,dL ht,dP,hr];rw[tj n1];simp only[dP,dz,D];rw[xU fM e7];simp only[dP,dz,gB,s1];exact zW _ H)
   rw[ee];obtain⟨u1,u2⟩:=fQ.upd Z J n2 R e2 rfl hu;have E:gR CR c { S with heap:=S.heap.setIfInBounds (c.ρ B).1 (.map (j.modify n λe=>{ e with key:=kk,val:=ρ u }) C) } B (.map (Nat.succ h.ver) L C):=by
    refine⟨_,wd H,?_,Gg u2 R,Gh u2 n4⟩;rw[Gi];exact u1
   exact⟨c,_,_,rfl,cH.write X.rs ⟨V,rfl,q1⟩ (by simp[s3]) (λb hb=>by rw[←s3];exact vZ hb) E _ b0,.inr ⟨rfl,rfl⟩⟩
  |_=>trivial
 |_=>trivial
end
end
end AM
