import Derived.Laws.AppendOwn
import Derived.Laws.IdiomStrings
import Derived.Laws.Tables
import Derived.Lib.AppendZeros
import Derived.Lib.Builder
import Derived.Lib.UnsafeStr
import Derived.Test.YtdicmpmcdjdneaaGreatDoorN1
set_option linter.all false
namespace AM
open Go
noncomputable section
section
variable {P:Program} {CR:Nat ->Code ->aw ->Prop}
variable {c:CE} {h:AH} {w:World} {ev:MA ->AV} {ρ:Operand ->Value} {o:Oper} {t:TypeId} {i:TI}
def Mh {bs l} (hb:bs.data.toList.map UInt8.toNat=l):bX c (l.map λb=>AV.i .u8 (.ofNat b)) (byteCells bs):=by
 subst hb;unfold byteCells;generalize bs.data.toList=q;induction q with
 |nil=>exact .nil
 |cons a t j=>exact .cons _ _ _ _ (.i .u8 _) j
def Gj:∀l:List Nat,eM (λb=>some (AV.i .u8 (.ofNat b))) l=some (l.map λb=>AV.i .u8 (.ofNat b))
 |[]=>rfl
 |a::t=>by rw[lJ,Gj t];rfl
variable {x:Operand} {esz n:Nat} {tx:TypeId}
def Mi (r:RS CR c h w) {x v} (hv:VR c x v) {l} (B:eI h esz x=some l) (G:ij x=some n) (Z:wV l=true)
 (S:(∃C,P.underlying tx=some (.slice C))∨P.underlying tx=some .string):∃A,Src P esz tx v n A w/\ bX c l A:=by
 have slice:∀(a:Addr) (n c:Nat) (A:List Value),A.length=n*esz ->(∀j u,A[j]? =some u ->w.cell? (a.add j)=some u) ->(∀u∈A,u.oneCell'=true) ->Src P esz tx (.slice (some a) n c) n A w:=
  λa n c A I D h1=>⟨S,λ_=>rfl,Ct w esz n a n c A I D,Ct w.drew esz n a n c A I (by simpa using D),I,h1⟩
 cases hv with
 |s l' bs e=>
  simp only[ij,kZ] at G;simp only[eI] at B;rw[fv] at B;split at B;rename_i h1;simp only[bu,aU] at h1;rw[Gj l'] at B;cases B;have X:bs.size=l'.length:=by rw[←e,kU];rfl
  cases G;refine⟨byteCells bs,?_,Mh e⟩;rw[h1,←X];exact⟨S,λ_=>rfl,firstCells_string bs w,firstCells_string bs w.drew,by rw[byteCells_length,vH],λu hu=>by
   obtain⟨_,_,rfl⟩:=sV.1 hu;rfl⟩
  cases B
 |sl o' off len' C cap a N q1 q2 q3 q4 q5=>
  simp only[ij,jI] at G;subst G;simp only[eI] at B;rw[fv] at B;split at B;rename_i h1;simp only[bu,aU] at h1;subst h1;rcases R:h.cells o' with _|cs;rw[R] at B;cases B;rw[R] at B;obtain⟨ob,hg,V,W⟩:=zQ (CR:=CR) R;obtain⟨row,t',lo,hi,vs,Y,k2,k3,k4,k5,k6⟩:=W c w (r.obj o' _ ⟨hg,V,q1⟩);obtain⟨k7,rfl⟩:=lM B;have E:=(k4.drop off).take (len'*C);have eQ:=k4.length;have I:((vs.drop off).take (len'*C)).length=len'*C:=by simp;omega
  refine⟨_,slice a len' N _ I ?_ (E.oneCell Z),E⟩;intro j u H;have J:j<len'*C:=by have:=(eC.1 H).1;omega
  have O:N≠0:=by
   grind
  rw[q4 O];have L:(c.addr o' off).add j=⟨(c.ρ o').1,(c.ρ o').2+off+j,none⟩:=by simp[CE.addr,nE]
  rw[L];rw[pW Y];rw[jZ,aF J,mB] at H;have:=k5 _ _ H;rw[←this];congr 1;omega;cases B
 |sn=>
  simp only[ij,jI] at G;subst G;simp only[eI,jI] at B;subst B;exact⟨[],⟨S,λ_=>rfl,Cu w esz 0 0 0,Cu w.drew esz 0 0 0,by simp,λ_ h=>by cases h⟩,.nil⟩
 |ds l' off len' C blk base N a row vs him gY hs I ha'=>
  simp only[ij,jI] at G;subst G;simp only[eI] at B;rw[fv] at B;split at B;rename_i h1;simp only[bu,aU] at h1;subst h1;obtain⟨t',fr,Y⟩:=r.im _ _ him;obtain⟨k7,rfl⟩:=lM B;have E:=(hs.drop off).take (len'*C);have eQ:=hs.length;have U:((vs.drop off).take (len'*C)).length=len'*C:=by simp;omega
  refine⟨_,slice a len' N _ U ?_ (E.oneCell Z),E⟩;intro j u H;have J:j<len'*C:=by have:=(eC.1 H).1;omega
  have O:len'≠0:=by intro e0;subst e0;simp at J
  rw[ha' O];have L:(⟨blk,base+off,none⟩:Addr).add j=⟨blk,base+off+j,none⟩:=by simp[nE]
  rw[L];rw[pW Y];rw[jZ,aF J,mB] at H;have:=gY _ _ H;rw[←this];congr 1;omega;cases B
 |_=>simp[ij] at G
def Mj {x l} (j:eI h esz x=some l) (A:ij x=some 0):l=[]:=by
 cases x<;>simp only[ij,jI] at A<;>try (cases A;done)
 rename_i s;rw[kZ] at A;have:s=[]:=pM A;subst this;simp only[eI] at j;rw[fv] at j;split at j;cases j;rfl;cases j;subst A;simp only[eI] at j;rw[fv] at j;split at j;split at j;obtain⟨_,rfl⟩:=lM j;simp;cases j;cases j
 grind[eI]
 subst A;simp only[eI] at j;rw[fv] at j;split at j;obtain⟨_,rfl⟩:=lM j;simp;cases j
def Mk:∀k need c B,c<=B ->need<=B ->Builtin.growBy need k c<=B+(B+768)/4
 |0,_,_,B,h,_=>by simp only[Builtin.growBy];omega
 |k+1,need,c,B,h,hn=>by
  simp only[Builtin.growBy];split;omega;by_cases j:c+(c+768)/4<=B;exact Mk k need _ B j hn;have:Builtin.growBy need k (c+(c+768)/4)=c+(c+768)/4:=by
   rcases k with _|k;rfl;simp only[Builtin.growBy];rw[aF ω]
  rw[this];omega
def Ml j old (h:old<j):Builtin.nextslicecap j old<=j+j+512+(j+768)/4:=by
 unfold Builtin.nextslicecap;split;omega;split;omega;have:=Mk 4 j old j ω (bB _);omega
def Mm z n:(Builtin.zeroCells z n).size=n*z.size:=by simp[Builtin.zeroCells]
def Sj {T o l} ver (j:F0 c w o l T false):gR CR c w o (Io T ver l):=by
 rcases T with _|T;obtain⟨row,t,lo,hi,vs,h1,h2,A,B,C,D,_⟩:=j;exact⟨row,t,lo,hi,vs,h1,h2,A,B,C,D⟩;exact j
def aS5 (r:RS CR c h w) {T o A l} (e:Be h T o A=some l) (hd:c.dM o):
 (∀k,T=some k ->A=0)/\∃ob,dU c h o ob/\ F0 c w o l T false:=by
 cases T with
 |none=>
  obtain⟨ob,D,B,E⟩:=zQ (CR:=CR) e;obtain⟨row,O,lo,hi,vs,G,H,I,J,L,N⟩:=E c w (r.obj o _ ⟨D,B,hd⟩);exact⟨λk j=>(by cases j),ob,⟨D,B,hd⟩,row,O,lo,hi,vs,G,H,I,J,L,N,λk j=>(by cases j),λj=>by cases j⟩
 |some T=>
  simp only[Be] at e;repeat' (first|(cases e;done)|split at e)
  rename_i T' wh l' D;cases C:(Nat.beq T' T&&Nat.beq A 0);rw[C] at e;cases e;rw[C] at e;cases e;simp only[aB,bu,aU] at C;obtain⟨rfl,rfl⟩:=C;have R:dU c h o (.tc T' wh l):=⟨D,rfl,hd⟩;obtain⟨row,O,lo,hi,vs,G,H,I,J,L,N,S,_⟩:=r.obj o _ R;exact⟨λ_ _=>rfl,_,R,row,O,lo,hi,vs,G,H,I,J,L,N,S,λj=>by cases j⟩
variable {e:TypeId}
def Sk {T} (hT:∀k,T=some k ->e=k) (oX:gT P e i) (r:RS CR c h w) (ht:P.underlying t=some (.slice e)) {s sv} (hs:VR c s sv) {new C ty xv}
 (S:Src P i.size tx xv n C w) (I:bX c new C) (b8:esz=i.size) (d1:i.zs.length=i.size) (d5:i.bytes<=1048576)
 (Z:∀v D,(Builtin.append_ #[t,tx] ty #[sv,xv]).run P w= .ok v D ->(execOp ρ o).run P w= .ok (.value v) D):
 bD P CR c h w (AF h T s n new esz) ((execOp ρ o).run P w):=by
 subst b8;obtain⟨R,zv,zs,i1,i2,i3,i4,i5,i6,_⟩:=oX.zero c;have d2:zs.length=i.size:=by rw[i6.length];exact d1
 have H:Src P R.size tx xv n C w:=by rw[i2];exact S
 have b2:C.length=n*i.size:=S.newsLen;unfold AF;rcases n with _|n;have h0:C=[]:=by apply pM;simpa using b2
 have same:∀A len cap,sv= .slice A len cap ->len<=cap ->(execOp ρ o).run P w= .ok (.value sv) w:=by
  intro A len cap e1 E;subst e1;apply Z;have hc:=H.cells;rw[h0] at hc;rcases S.kind with ⟨e',J⟩|J<;>
   (cases A<;>simp[Builtin.append_,dL ht,dL J,Go.sizeOf,typeInfo,i1,S.len,E,hc,storeCells])
 cases hs with
 |sn=>
  show cV CR c h w .sn h _;rw[same none 0 0 rfl (bB _)];exact cV.same r .sn
 |sl o' off len esz cap a N q1 q2 q3 q4 q5=>
  show cV CR c h w (.sl o' off len cap esz) h _;rw[same _ _ _ rfl q3];exact cV.same r (.sl _ _ _ _ _ _ _ q1 q2 q3 q4 q5)
 |ds l off len esz blk base N a row vs him gY hss hl ha=>
  show cV CR c h w (.ds l off len esz) h _;rw[same _ _ _ rfl hl];exact cV.same r (.ds _ _ _ _ _ _ _ _ _ _ him gY hss hl ha)
 |_=>trivial
 have W:∀(A:Option Addr) (len cap:Nat) (L:List Value),sv= .slice A len cap ->cap<len+(n+1) ->len+(n+1)<=1048576 ->L.length=len*i.size ->
  (∀D,D.heap=w.heap ->(Builtin.firstCells i.size len (.slice A len cap)).run P D= .ok L.toArray D) ->
  ∃(N:Nat) (B:List Value) (D:World),len+(n+1)<=N/\ (L++C++B).length=N*i.size/\ D.heap=w.heap.push (.cells (L++C++B).toArray e)/\
   (execOp ρ o).run P w= .ok (.value (.slice (some ⟨w.heap.size,0,none⟩) (len+(n+1)) N)) D/\ D.os=w.os/\ D.output=w.output:=by
  intro A len cap L e1 aV E hol hold;subst e1;have b6:Builtin.nextslicecap (len+(n+1)) cap*R.bytes<=281474976710656:=by
   have h1:=Ml (len+(n+1)) cap aV;have h2:Builtin.nextslicecap (len+(n+1)) cap*R.bytes<=2360000*1048576:=zA ω ω;omega
  have cR:=run_append_grow_src (P:=P) w t tx ty e R zv ht i1 i4 A len cap L (by rw[i2];exact hold _ rfl) xv (n+1) C H aV ω b6;have c7:=grownCap_ge w (len+(n+1)) cap e;have b0:=Mm zv.cells (grownCap w (len+(n+1)) cap e-(len+(n+1)));refine⟨grownCap w (len+(n+1)) cap e,(Builtin.zeroCells zv.cells (grownCap w (len+(n+1)) cap e-(len+(n+1)))).toList,_,c7,?_,?_,Z _ _ cR,rfl,rfl⟩;rw[dy,dy,hol,b2,Array.length_toList,b0,i5];simp only[zy];rw[d2,←nq,←nq];congr 1;omega;simp only[World.alloc,World.drew];congr 2;apply jW;simp
 have laid:∀(len N:Nat) (old:List AV) (L B:List Value) (D:World) (X:CE),bX X old L ->bX X new C ->len+(n+1)<=N ->(L++C++B).length=N*i.size ->
  D.heap=w.heap.push (.cells (L++C++B).toArray e) ->∀id ver,X.dM id ->X.ρ id=(w.heap.size,0) ->X.sz id=N*i.size ->
  gR CR X D id (Io T ver (old++new))/\ VR X (.sl id 0 (len+(n+1)) none i.size) (.slice (some ⟨w.heap.size,0,none⟩) (len+(n+1)) N):=by
  intro len N old L B D X v1 v2 hN eQ b3 id ver hd hρ b0;refine⟨Sj ver ⟨(L++C++B).toArray,e,0,0,L++C,?_,?_,?_,v1.append v2,?_,?_,λk J=>⟨hT k J,by rw[hρ]⟩,λJ=>by cases J⟩,VR.newSl hd hρ b0 _ _ _ _ hN (λm hm=>by cases hm) (bB _)⟩;rw[hρ,b3];simp;rw[b0];simpa using eQ;intro j _;omega;intro j v G;rw[hρ];simp only[gB,FB];rw[pL (eC.1 G).1];exact G;rw[hρ];simp
 cases hs with
 |sn=>
  show bD P CR c h w (bif Nat.ble (n+1) 1048576&&wV new then h.new (Io T h.ver new) λo h=>fN (n+1) λn=> .v (.sl o 0 n none i.size) h else .bad) _;rw[fv];split;rename_i hc;simp only[aB,wX,aU] at hc;obtain⟨N,B,D,g1,g2,Y,g4,V⟩:=W none 0 0 [] rfl ω ω (by simp) (λD _=>Cu D i.size 0 0 0);rw[g4,AH.new_eq];simp only[dT];have hx:=CE.add_ext c r.fresh w.heap.size 0 (N*i.size);have:=laid 0 N [] [] B D (c.add h.next w.heap.size 0 (N*i.size)) .nil (I.mono hx) g1 g2 Y h.next h.ver (by simp) (by simp) (by simp);simp only[gB,gx] at this Y;exact⟨_,_,_,rfl,cH.alloc r Y _ this.1 V,.inl ⟨_,by rw[gB],this.2⟩⟩;trivial
 |sl o' off len e' cap a N q1 q2 q3 q4 q5=>
  dsimp only;rcases b5:Be h T o' off with _|l;trivial;simp only[dT];rw[fv];split;trivial;rename_i hc;simp only[jH,Bool.not_eq_false,aB,bu,wX,aU] at hc;obtain⟨rfl,b4,d6⟩:=hc;obtain⟨b7,ob,hH,row,t',lo,hi,vs,k1,k2,k3,k4,k5,k6,k7,_⟩:=aS5 r b5 q1;have d3:=k4.length;have L:∀old,sub l off (len*i.size)=some old ->∃U,bX c old U/\ U.length=len*i.size/\ (∀D,D.heap=w.heap ->(Builtin.firstCells i.size len (.slice (some a) len N)).run P D= .ok U.toArray D)/\
   U=(vs.drop off).take (len*i.size):=by
   intro old ho;obtain⟨b1,rfl⟩:=lM ho;refine⟨_,(k4.drop off).take (len*i.size),by simp;omega,λD b3=> ?_,rfl⟩;refine Ct D i.size len a len N _ (by simp;omega) ?_;intro j u G;have m9:j<len*i.size:=by have:=(eC.1 G).1;simp at this;omega
   have hN:N≠0:=by
    grind
   rw[q4 hN];have ea:(c.addr o' off).add j=⟨(c.ρ o').1,(c.ρ o').2+off+j,none⟩:=by simp[CE.addr,nE]
   rw[ea,pW (by rw[b3];exact k1)];rw[jZ,aF m9,mB] at G;have:=k5 _ _ G;rw[←this];congr 1;omega
  have d4:∀(X:CE),len+(n+1)<=N ->N≠0:=λ_ h=>by omega
  cases cap with
  |some k=>
   have J:=q2 k rfl;subst J;cases T with
   |some _=>trivial
   |none=>
   dsimp only;rw[fv];split;rename_i E;simp only[wX,aU] at E;rcases ho:eL new l (off+len*i.size) with _|l';trivial;dsimp only;obtain⟨s1,s2⟩:=F5 r q1 b5 I ho (Nat.succ h.ver) (Nat.succ h.ver);have ha:=q4 ω;have cR:=run_append_room_src (P:=P) w t tx ty e R ht i1 (c.ρ o').1 ((c.ρ o').2+off) len N xv (n+1) C H E
    (λj G=>by
     have:=(s1 j G).1;rw[i2];rw[show(c.ρ o').2+off+len*i.size+j=(c.ρ o').2+(off+len*i.size)+j by omega];exact this)
    (λj G=>by
     have:=(s1 j G).2;rw[i2];rw[show(c.ρ o').2+off+len*i.size+j=(c.ρ o').2+(off+len*i.size)+j by omega];exact this)
   have O:=Z _ _ (by rw[ha];exact cR);rw[O,AH.put_eq];rw[show(c.ρ o').2+off+len*R.size=(c.ρ o').2+(off+len*i.size) by rw[i2];omega];exact⟨_,_,_,rfl,s2,.inl ⟨_,rfl,.sl _ _ _ _ _ _ _ q1 q2 E (λ_=>rfl) q5⟩⟩;rename_i E;simp only[wX,aU] at E;rcases ho:sub l off (len*i.size) with _|old;trivial;obtain⟨U,u1,u2,u3,_⟩:=L old ho;obtain⟨N',B,D,g1,g2,Y,g4,V⟩:=W (some a) len N U rfl ω b4 u2 u3;simp only[jz,AH.new_eq];rw[g4];have hx:=CE.add_ext c r.fresh w.heap.size 0 (N'*i.size);have:=laid len N' old U B D (c.add h.next w.heap.size 0 (N'*i.size)) (u1.mono hx) (I.mono hx) g1 g2 Y h.next h.ver (by simp) (by simp) (by simp);exact⟨_,_,_,rfl,cH.alloc r Y _ this.1 V,.inl ⟨_,rfl,this.2⟩⟩
  |none=>
   dsimp only;rcases ho:sub l off (len*i.size) with _|old;trivial;obtain⟨U,u1,u2,u3,u4⟩:=L old ho;obtain⟨b1,_⟩:=lM ho;simp only[jz,AH.put_eq,AH.new_eq];by_cases E:len+(n+1)<=N;have ha:=q4 ω;have c6:(c.ρ o').2+off+len*i.size+C.length<=row.size:=by
    rw[b2,k2];have h1:len*i.size+(n+1)*i.size=(len+(n+1))*i.size:=(nq _ _ _).symm;have h2:(len+(n+1))*i.size<=N*i.size:=ni _ E;omega
   have cR:=run_append_room_src (P:=P) w t tx ty e R ht i1 (c.ρ o').1 ((c.ρ o').2+off) len N xv (n+1) C H E
    (λj G=>by
     rw[pW k1,i2,tJ ω];rfl)
    (λj G=>by rw[i2];exact F2 k1 (k3 _ ω))
   have O:=Z _ _ (by rw[ha];exact cR);rw[O];refine⟨c.add h.next (c.ρ o').1 ((c.ρ o').2+off) (c.sz o'),_,_,rfl,cH.move r hH (Cy _ _ _ _) (λb hb=>CA _ _ _ _ hb) _ _ _ ?_ (Cz _ _ _ _),.inl ⟨_,rfl,?_⟩⟩;have hx:=CE.add_ext c r.fresh (c.ρ o').1 ((c.ρ o').2+off) (c.sz o');refine Sj _ ⟨_,t',lo,hi,U++C,by rw[CE.add_ρ];exact CB _ _ _ _ k1,by rw[qO,CE.add_sz];exact k2,?_,(u1.append I).mono hx,?_,?_,λk J=>⟨(k7 k J).1,by rw[CE.add_ρ];have:=(k7 k J).2;have:=b7 k J;dsimp only;omega⟩,λJ=>by cases J⟩;intro j G;rw[qO] at G;exact k3 j G;intro j u G;rw[CE.add_ρ,i2,zS _ _ _ ω];by_cases d0:j<U.length;rw[aD ω];rw[pL d0,u4,jZ,aF ω,mB] at G;have:=k5 _ _ G;rw[←this];congr 1;omega;rw[rK ω] at G;have:=(eC.1 G).1;rw[aF ω,←G];congr 1;omega;rw[qO,CE.add_ρ];simp;omega;refine .sl _ _ _ _ _ _ _ (by simp) (λk J=>by cases J) E (λ_=> ?_) ?_;simp[CE.addr];rw[CE.add_ρ,CE.add_sz];simpa using q5;obtain⟨N',B,D,g1,g2,Y,g4,V⟩:=W (some a) len N U rfl ω b4 u2 u3;rw[g4];have hx:=CE.add_ext c r.fresh w.heap.size 0 (N'*i.size);have:=laid len N' old U B D (c.add h.next w.heap.size 0 (N'*i.size)) (u1.mono hx) (I.mono hx) g1 g2 Y h.next (Nat.succ h.ver) (by simp) (by simp) (by simp);exact⟨_,_,_,rfl,cH.leave r (r.lt _ _ hH.get) Y _ _ this.1 V,.inl ⟨_,rfl,this.2⟩⟩
 |_=>trivial
def Sl T s n {new} esz (A:wV new=false):AF h T s (n+1) new esz= .bad:=by
 unfold AF;cases s with
 |sn=>simp[A]
 |sl o j ln cap e=>
  dsimp only;rcases Be h T o j with _|l;rfl;simp[A,dT]
 |_=>rfl
variable {a b:MA}
def Zf (V:gT P e i) (X:Cx CR c h w ev ρ) (S:P.underlying t=some (.slice e)) (E:(∃N,P.underlying tx=some (.slice N))∨(P.underlying tx=some .string)) {y}
 (R:o.op= .call { callee:= .builtin .append,args:=#[x,y],argTypes:=#[t,tx] }) (O:dC a x=true) (hb:dC b y=true) {A bs} (C:A=i.size) (I:i.zs.length=i.size) (B:i.bytes<=1048576):
 bD P CR c h w (ap9 a b A bs ev h) ((execOp ρ o).run P w):=by
 unfold ap9;have G:=X.hE _ _ O;have H:=X.hE _ _ hb;rcases h1:ij (ev b) with _|n;trivial;rcases h2:eI h A (ev b) with _|l;trivial;dsimp only;have D:∀v J,(Builtin.append_ #[t,tx] o.type #[ρ x,ρ y]).run P w= .ok v J ->(execOp ρ o).run P w= .ok (.value v) J:=by
  intro v J U;simp only[execOp,R];simp[resolve,invoke,builtin,U]
 cases j:wV l with
 |true=>
  obtain⟨L,W,Y⟩:=Mi X.rs H (tx:=tx) h2 h1 j E;subst C;exact Sk (λk E=>by cases E) V X.rs S G W Y rfl I B D
 |false=>
  rcases n with _|n;rw[Mj h2 h1] at j;cases j;rw[gD,Sl _ _ _ _ j];trivial
def Zg (X:Cx CR c h w ev ρ) {ts} (A:ts[0]? =some t) {k} (G:P.underlying t=some (.map k e)) (E:o.op= .call { callee:= .builtin .len,args:=#[x],argTypes:=ts }) (J:dC a x=true):
 bD P CR c h w (aq1 .map a ev h) ((execOp ρ o).run P w):=by
 unfold aq1;have j:=X.hE _ _ J;cases H:ev a with
 |mn=>
  rw[H] at j;generalize C:ρ x=S at j;cases j;have e:(execOp ρ o).run P w= .ok (.value (.int .i64 0)) w:=by
   simp only[execOp,E];simp[resolve,invoke,builtin,Builtin.len_,A,dL G,C,goInt]
  rw[e];exact cV.same X.rs (.i _ _)
 |m I=>
  rw[H] at j;generalize C:ρ x=S at j;cases j with
  |m _ R=>
   dsimp only;rcases L:h.get I with _|ob;trivial;cases ob with
   |map ver D U=>
    obtain⟨B,n1,O,V,W⟩:=X.rs.obj I _ ⟨L,rfl,R⟩;simp only[dT,kZ];have N:B.size=D.length:=by have:=O.length;simpa using this
    have e:(execOp ρ o).run P w= .ok (.value (.int .i64 (D.length:Int))) w:=by
     simp only[execOp,E];simp[resolve,invoke,builtin,Builtin.len_,A,dL G,C,goInt,tj n1,N]
    rw[e];exact cV.same X.rs (.i _ _)
   |_=>trivial
 |_=>trivial
def CT lt (f:Value ->Value ->Sem Value) (B:∀k x k' y w,(f (.int k x) (.int k' y)).run P w= .ok (.int k (if lt y x then y else x)) w) {k}:∀{l vs},bX c l vs ->∀{a x},jy lt k l a=some x ->
 ∃n,x= .i k n/\ (vs.foldlM f (.int k a)).run P w= .ok (.int k n) w
 |[],_,h,a,x,hx=>by
  cases h;cases hx;exact⟨a,rfl,rfl⟩
 |y::r,_,h,a,x,hx=>by
  cases h with
  |cons _ _ v vs D C=>
   have j:(match (generalizing:=false) y with| .i _ b=>bif lt b a then jy lt k r b else jy lt k r a|_=>none)=some x:=hx;cases D with
   |i k' b=>
    dsimp only at j;rw[List.foldlM_cons];simp only[dz,B,ez];rw[fv] at j;split at j;rename_i A;rw[aF A];exact CT lt f B C j;rename_i A;rw[aD A];exact CT lt f B C j
   |_=>cases j
def Zh (X:Cx CR c h w ev ρ) {ts args j} (G:o.op= .call { callee:= .builtin .min,args:=j,argTypes:=ts }) (B:jo args j.toList=true):
 bD P CR c h w (aq4 args ev h) ((execOp ρ o).run P w):=by
 unfold aq4;rcases C:eE ev args with _|l;trivial;have A:=ur X B C;rcases l with _|⟨y,r⟩;trivial;cases y with
 |i k a=>
  generalize D:j.toList.map ρ=L at A;cases A with
  |cons _ _ v vs I H=>
   cases I;dsimp only;rcases J:jy fD k r a with _|x;trivial;obtain⟨n,rfl,E⟩:=CT (P:=P) (w:=w) fD Builtin.min2 (λk x k' y w=>by simp only[Builtin.min2,mI,aU];rfl) H J;have e:(execOp ρ o).run P w= .ok (.value (.int k n)) w:=by
    simp_all [execOp,G,resolve,invoke,builtin,Builtin.min_,D,E]
   rw[e];exact cV.same X.rs (.i _ _)
 |_=>trivial
def Zi (X:Cx CR c h w ev ρ) {ts args j} (G:o.op= .call { callee:= .builtin .max,args:=j,argTypes:=ts }) (B:jo args j.toList=true):
 bD P CR c h w (aq5 args ev h) ((execOp ρ o).run P w):=by
 unfold aq5;rcases C:eE ev args with _|l;trivial;have A:=ur X B C;rcases l with _|⟨y,r⟩;trivial;cases y with
 |i k a=>
  generalize D:j.toList.map ρ=L at A;cases A with
  |cons _ _ v vs I H=>
   cases I;dsimp only;rcases J:jy (λx y=>fD y x) k r a with _|x;trivial;obtain⟨n,rfl,E⟩:=CT (P:=P) (w:=w) (λx y=>fD y x) Builtin.max2 (λk x k' y w=>by simp only[Builtin.max2,mI,aU];rfl) H J;have e:(execOp ρ o).run P w= .ok (.value (.int k n)) w:=by
    simp_all [execOp,G,resolve,invoke,builtin,Builtin.max_,D,E]
   rw[e];exact cV.same X.rs (.i _ _)
 |_=>trivial
def Zj (X:Cx CR c h w ev ρ) {B dst} (hs:P.underlying B=some .string) (hd:P.underlying dst=some (.slice e)) (S:P.underlying e=some (.int .u8)) (Y:o.op= .convert B dst x) (R:dC a x=true)
 {l} (V:ev a= .s l):
 nJ CR c w (λver=> .cells ver (l.map λb=>AV.i .u8 (.ofNat b))) (λo=> .sl o 0 l.length none 1) ((execOp ρ o).run P w):=by
 have O:=X.hE _ _ R;rw[V] at O;obtain⟨bs,Z,C⟩:=O.str_inv;have I:bs.size=l.length:=by rw[←C,kU];rfl
 have cR:=run_bytes_of_string w B dst e bs hs hd S;have e1:(execOp ρ o).run P w= .ok (.value (.slice (some ⟨w.heap.size,0,none⟩) bs.size (grownCap w bs.size 0 e)))
  (w.drew.alloc (.cells (bytesRow bs (grownCap w bs.size 0 e)) e ((bytesRow bs (grownCap w bs.size 0 e)).size,(bytesRow bs (grownCap w bs.size 0 e)).size+1))):=by
  simp_all [execOp,Y,Z]
 rw[e1];have D:=grownCap_ge w bs.size 0 e;generalize hN:grownCap w bs.size 0 e=N at D;have L:bytesRow bs N=(byteCells bs++List.replicate (N-bs.size) (Value.int .u8 0)).toArray:=by
  grind[bytesRow,byteCells]
 have E:(byteCells bs).length+(List.replicate (N-bs.size) (Value.int .u8 0)).length=N:=by rw[byteCells_length,Cs];omega
 have H:(bytesRow bs N).size=N:=by rw[L];simp only[zy,dy];exact E
 rw[H,L];refine F3 (Mh C) e (List.replicate (N-bs.size) (Value.int .u8 0)) (N,N+1) (λj U=>by rw[E] at U;simp;omega) rfl _ _ ?_;intro c' id G J A;rw[E] at A;rw[←I];exact VR.newSl G J A _ _ _ _ D (λm W=>by cases W) ω
def Zk (X:Cx CR c h w ev ρ) {j dst} (E:P.underlying j=some .string) (hd:P.underlying dst=some (.slice e)) (B:P.underlying e=some (.int .u8)) (D:o.op= .convert j dst x) (A:dC a x=true):
 bD P CR c h w (am5 a ev h) ((execOp ρ o).run P w):=by
 unfold am5;cases C:ev a with
 |s l=>
  dsimp only;rw[Gj];simp only[dT,kZ];exact(Zj X E hd B D A C).good X.rs
 |_=>trivial
def Gk:∀{l vs b},bX c l vs ->mE l=some b ->∃u:List UInt8,u.map UInt8.toNat=b/\ vs=u.map λb=>Value.int .u8 (b.toNat:Int)
 |[],_,_,h,hb=>by cases h;cases hb;exact⟨[],rfl,rfl⟩
 |x::r,_,_,h,hb=>by
  cases h with
  |cons _ _ v vs D C=>
   unfold mE at hb;rw[lJ] at hb;rcases j:xM x with _|n;rw[j] at hb;cases hb;rw[j] at hb;rcases A:eM xM r with _|t;rw[A] at hb;cases hb;rw[A] at hb;simp only[jI] at hb;subst hb;obtain⟨u,E,G⟩:=Gk C A;unfold xM at j;split at j;rename_i m;rw[fv] at j;split at j;rename_i B;simp only[wX,aU] at B;cases j;cases D;have:(UInt8.ofNat n).toNat=n:=by simp;omega
   exact⟨UInt8.ofNat n::u,by simp only[jY,this,E],by simp only[jY,this,G];rfl⟩;cases j;cases j
def Zl (X:Cx CR c h w ev ρ) {H dst} (hs:P.underlying H=some (.slice e)) (he:P.underlying e=some (.int .u8)) (hd:P.underlying dst=some .string) (ho:o.op= .convert H dst x) (ha:dC a x=true):
 bD P CR c h w (am6 a ev h) ((execOp ρ o).run P w):=by
 have G:=X.hE _ _ ha
 suffices hh:(∀s,ev a≠.s s) ->bD P CR c h w (match eI h 1 (ev a) with
  |some l=>match mE l with|some b=> .v (.s b) h|none=> .bad
  |none=> .bad) ((execOp ρ o).run P w) by
  unfold am6;split;trivial
  grind
 intro W;rcases B:eI h 1 (ev a) with _|l;trivial;dsimp only;rcases hb:mE l with _|b;trivial;dsimp only;have fin:∀bs:ByteArray,bs.data.toList.map UInt8.toNat=b ->(convert H dst (ρ x)).run P w= .ok (.string bs) w ->bD P CR c h w (.v (.s b) h) ((execOp ρ o).run P w):=by
  intro bs h1 h2;have e:(execOp ρ o).run P w= .ok (.value (.string bs)) w:=by
   simp_all [execOp,ho]
  rw[e];exact cV.same X.rs (.s _ _ h1)
 have go:∀(A:Addr) (n N:Nat) (R:List Value),ρ x= .slice (some A) n N ->R.length=n ->bX c l R ->(∀j u,R[j]? =some u ->w.cell? (A.add j)=some u) ->bD P CR c h w (.v (.s b) h) ((execOp ρ o).run P w):=by
  intro A n N R J hn hus hc;obtain⟨u,u1,u2⟩:=Gk hus hb;subst u2;have U:u.length=n:=by simpa using hn
  refine fin ⟨u.toArray⟩ (by simpa using u1) ?_;rw[J,←U];refine run_convert_bytes_back w H dst e A N u hs he hd (λj E=>hc j _ ?_);simp[E]
 cases L:ev a with
 |s l'=>exact bh L (W l')
 |sl O D C e' cap=>
  rw[L] at G B;generalize J:ρ x=vx at G;cases G with
  |sl _ _ _ _ _ A N q1 q2 q3 q4 q5=>
   simp only[eI] at B;rw[fv] at B;split at B;rcases I:h.cells O with _|cs;rw[I] at B;cases B;rw[I] at B;obtain⟨ob,hg,V,Y⟩:=zQ (CR:=CR) I;obtain⟨row,t',lo,hi,vs,Z,k2,k3,k4,k5,k6⟩:=Y c w (X.rs.obj O _ ⟨hg,V,q1⟩);obtain⟨k7,rfl⟩:=lM B;have eQ:=k4.length;refine go A C N ((vs.drop D).take (C*1)) J (by simp;omega) ((k4.drop D).take _) ?_;intro j u E;have m9:j<C*1:=by have:=(eC.1 E).1;simp at this;omega
   have hN:N≠0:=by intro e0;omega
   rw[q4 hN];have S:(c.addr O D).add j=⟨(c.ρ O).1,(c.ρ O).2+D+j,none⟩:=by simp[CE.addr,nE]
   rw[S,pW Z];rw[jZ,aF m9,mB] at E;have:=k5 _ _ E;rw[←this];congr 1;omega;cases B
 |sn=>
  rw[L] at G B;generalize J:ρ x=vx at G;cases G;simp only[eI,jI] at B;subst B;cases hb;exact fin .empty rfl (by rw[J];simp[convert,dL hs,dL hd,dL he,Conv.bytesToString])
 |ds l' D C e'=>
  rw[L] at G B;generalize J:ρ x=vx at G;cases G with
  |ds _ _ _ _ blk base N A row vs him gY hss hl ha'=>
   simp only[eI] at B;rw[fv] at B;split at B;obtain⟨t',fr,Z⟩:=X.rs.im _ _ him;obtain⟨k7,rfl⟩:=lM B;have eQ:=hss.length;refine go A C N ((vs.drop D).take (C*1)) J (by simp;omega) ((hss.drop D).take _) ?_;intro j u E;have m9:j<C*1:=by have:=(eC.1 E).1;simp at this;omega
   rw[ha' ω];have S:(⟨blk,base+D,none⟩:Addr).add j=⟨blk,base+D+j,none⟩:=by simp[nE]
   rw[S,pW Z];rw[jZ,aF m9,mB] at E;have:=gY _ _ E;rw[←this];congr 1;omega;cases B
 |_=>rw[L] at B;simp[eI] at B
def pa (j:Nat ->Option (Nat×Nat)) (ps:List (Nat×Nat×MA)):List (Nat×Operand) ->Bool:=
 List.rec (motive:=λ_=>List (Nat×Operand) ->Bool) (λv=>List.isEmpty v) (λp _ A v=>match v with
  |[]=>false
  |q::r=>(match j q.1 with|some pl=>Nat.beq pl.1 p.1&&Nat.beq pl.2 p.2.1|none=>false)&&dC p.2.2 q.2&&A r) ps
def Mn j:∀vs k row,(vs.zipIdx k).foldl (λcs (x)=>cs.setIfInBounds (j+x.2) x.1) row=qN row (j+k) vs
 |[],_,_=>rfl
 |v::r,k,row=>by
  simp only[List.zipIdx_cons,zH,qN];rw[Mn j r (k+1)];rfl
def Zm {row vs A} (h:A+vs.length<=row.size):(qN row A vs).toList=row.toList.take A++vs++row.toList.drop (A+vs.length):=by
 apply xz;intro j;have h2:(row.toList.take A++vs++row.toList.drop (A+vs.length))[j]? =if A<=j/\ j<A+vs.length then vs[j-A]? else row.toList[j]? :=by
  refine LA (c:=vs) (l:=row.toList) (n:=A) ?_ j;rw[xP,aF (by simpa using h)]
 rw[h2,vI,zS _ _ _ h];simp
def CU (X:Cx CR c h w ev ρ) {A}:∀{ps parts},pa A ps parts=true ->∀{z l zs},bX c z zs ->ik ev ps z=some l ->
 ∃vs:List Value,Instr.fill A zs.toArray (parts.map λx=>(x.1,ρ x.2))=some vs.toArray/\ bX c l vs
 |[],[],_,z,l,zs,hz,hf=>by
  cases hf;exact⟨zs,rfl,hz⟩
 |[],_::_,h,_,_,_,_,_=>by cases h
 |p::ps,[],h,_,_,_,_,_=>by cases h
 |p::ps,q::parts,h,z,l,zs,hz,hf=>by
  have h':((match A q.1 with|some pl=>Nat.beq pl.1 p.1&&Nat.beq pl.2 p.2.1|none=>false)&&dC p.2.2 q.2&&pa A ps parts)=true:=h;simp only[aB] at h';obtain⟨⟨h1,h2⟩,O⟩:=h';rcases E:A q.1 with _|pl;rw[E] at h1;cases h1;rw[E] at h1;simp only[aB,bu,aU] at h1;have j:(match cellsO (ev p.2.2) with
   |some c=>bif Nat.beq (len c) p.2.1 then (match eL c z p.1 with|some l=>ik ev ps l|none=>none) else none
   |none=>none)=some l:=hf
  rcases C:cellsO (ev p.2.2) with _|cs;rw[C] at j;cases j;rw[C] at j;dsimp only at j;rw[fv] at j;split at j;rename_i N;simp only[bu,aU,kZ] at N;rcases D:eL cs z p.1 with _|S;rw[D] at j;cases j;rw[D] at j;dsimp only at j;obtain⟨B,J,L⟩:=(X.hE _ _ h2).cellsO C;obtain⟨U,o2⟩:=xQ D;have H:=L.length;have R:=hz.length;have I:bX c S (zs.take p.1++B++zs.drop (p.1+B.length)):=by
   rw[o2,←H];exact((hz.take _).append L).append (hz.drop _)
  obtain⟨vs,v1,v2⟩:=CU X O I j;refine⟨vs,?_,v2⟩;rw[jY];simp only[Instr.fill,E];have G:(ρ q.2).cells.size=B.length:=by rw[J];simp
  rw[aD (by simp only[G,zy,ja,aU,ne_eq];omega)];rw[←v1];congr 1;apply jW;have e1:((ρ q.2).cells.zipIdx.foldl (λcs (x:Value×Nat)=>cs.setIfInBounds (pl.1+x.2) x.1) zs.toArray)=qN zs.toArray (pl.1+0) B:=by
   simp_all [J,Mn]
  refine(congrArg Array.toList e1).trans ?_;rw[vG,Zm (by simp;omega),h1.1];cases j
def uv (ty:T TI) (fs:List Field) (k:Nat):Option (Nat×Nat):=match fs[k]? with
 |some f=>match ty.get f.type with|some i=>some (f.offset,i.size)|none=>none
 |none=>none
def z7 (ty:T TI) (fs:List Field):Bool:=fs.all λf=>(ty.get f.type).isSome
def Mo {ty} (B:lN P ty):∀{fs},z7 ty fs=true ->∃j,fs.mapM (λf=>(P.info? f.type).map λi=>(f.offset,i.size))=some j/\∀k,j[k]? =uv ty fs k
 |[],_=>⟨[],rfl,λk=>by simp[uv]⟩
 |f::fs,h=>by
  simp only[z7,xE,aB] at h;obtain⟨j,h1,h2⟩:=Mo B (fs:=fs) h.2;rcases A:ty.get f.type with _|i;rw[A] at h;exact bh h.1 (by simp);obtain⟨C,G,D,E,_⟩:=(B _ _ A).info;refine⟨(f.offset,i.size)::j,?_,?_⟩
  grind
  intro k;rcases k with _|k;simp[uv,A];simp only[Fv,h2];simp[uv]
def Zn {ty} (D:lN P ty) (X:Cx CR c h w ev ρ) {fs} (hi:ty.get t=some i) (hd:i.kd= .struct fs) (B:z7 ty fs.toList=true) {z} (I:z=i.zs)
 {ps j} (G:o.op= .build t j) (H:pa (uv ty fs.toList) ps j.toList=true):
 bD P CR c h w (step ev h (.build z ps)) ((execOp ρ o).run P w):=by
 subst I;show bD P CR c h w (match ik ev ps i.zs with|some l=> .v (.ag l) h|none=> .bad) _;rcases E:ik ev ps i.zs with _|l;trivial;obtain⟨R,W,zs,J,U,V,L,N,O,_⟩:=(D t i hi).zero c;obtain⟨A,p1,S⟩:=Mo D B;obtain⟨vs,v1,v2⟩:=CU X H O E;have C:(λk=>A.toArray[k]?)=uv ty fs.toList:=by funext k;rw[←S];simp
 have hb:P.built t (j.map λx=>(x.1,ρ x.2)).toList=some vs.toArray:=by
  unfold Program.built;rw[J,(D t i hi).und,hd];simp only[L,p1,C,N];rw[←v1];congr 1;simp
 have e:(execOp ρ o).run P w= .ok (.value (.agg vs.toArray)) w:=by
  simp only[execOp,G];exact fS (run_build w t _ _ hb)
 rw[e];exact cV.same X.rs (.ag _ _ v2)
def Zo {ty} (B:lN P ty) (X:Cx CR c h w ev ρ) {j} (hi:ty.get t=some i) (hd:i.kd= .array n e) (D:ty.get e=some j) {z} (H:z=i.zs)
 {ps A} (E:o.op= .build t A) (G:pa (λk=>some (k*j.size,j.size)) ps A.toList=true):
 bD P CR c h w (step ev h (.build z ps)) ((execOp ρ o).run P w):=by
 subst H;show bD P CR c h w (match ik ev ps i.zs with|some l=> .v (.ag l) h|none=> .bad) _;rcases C:ik ev ps i.zs with _|l;trivial;obtain⟨O,Y,zs,I,U,V,J,L,N,_⟩:=(B t i hi).zero c;obtain⟨inj,W,R,S,_⟩:=(B e j D).info;obtain⟨vs,v1,v2⟩:=CU X G N C;have hb:P.built t (A.map λx=>(x.1,ρ x.2)).toList=some vs.toArray:=by
  unfold Program.built;rw[I,(B t i hi).und,hd];simp only[J,R,S,L];rw[←v1];congr 1;simp
 have e:(execOp ρ o).run P w= .ok (.value (.agg vs.toArray)) w:=by
  simp only[execOp,E];exact fS (run_build w t _ _ hb)
 rw[e];exact cV.same X.rs (.ag _ _ v2)
def Mp {ty} (oX:lN P ty) (X:Cx CR c h w ev ρ) (Z:P.underlying t=some (.slice e)) (hj:ty.get e=some i) {z} (hz:z=(List.replicate n i.zs).flatten) (H:esz=i.size) (C:i.zs.length=i.size) (b0:n*esz<=16777216)
 {ps A} (B:o.op= .buildSlice t n A) (hp:pa (λk=>some (k*i.size,i.size)) ps A.toList=true) {l} (E:ik ev ps z=some l):
 nJ CR c w (λver=> .cells ver l) (λo=> .sl o 0 n (some n) esz) ((execOp ρ o).run P w):=by
 subst hz H;obtain⟨V,W,zs,i1,G,i3,i4,i5,i6,_⟩:=(oX e i hj).zero c;have D:zs.length=i.size:=by rw[i6.length];exact C
 obtain⟨vs,v1,v2⟩:=CU X hp (i6.replicate n) E;have L:(Array.range (n*i.size)).map (W.cells[·%W.cells.size]!)=(List.replicate n zs).flatten.toArray:=by
  have:=Gb zs n;rw[D] at this;rw[←this,i5];rfl
 have R:vs.length=n*i.size:=by
  have h1:=v2.length;have h2:∀{ps:List (Nat×Nat×MA)} {z l:List AV},ik ev ps z=some l ->l.length=z.length:=by
   intro ps;induction ps with
   |nil=>intro z l h;cases h;rfl
   |cons p ps ih=>
    intro z l E;have j:(match cellsO (ev p.2.2) with
     |some c=>bif Nat.beq (len c) p.2.1 then (match eL c z p.1 with|some l=>ik ev ps l|none=>none) else none
     |none=>none)=some l:=E
    rcases Y:cellsO (ev p.2.2) with _|cs;rw[Y] at j;cases j;rw[Y] at j;dsimp only at j;rw[fv] at j;split at j;rcases B:eL cs z p.1 with _|z';rw[B] at j;cases j;rw[B] at j;rw[ih j,X8 B];cases j
  rw[h1,h2 E];simp[xA,C]
 have e1:(Instr.buildSlice t n (A.map λx=>(x.1,ρ x.2))).run P w= .ok (.slice (some ⟨w.heap.size,0,none⟩) n n) (w.alloc (.cells vs.toArray e)):=by
  by_cases h0:n*i.size=0;have O:vs=[]:=by apply pM;rw[R,h0]
  subst O;have S:(List.replicate n zs).flatten=[]:=by apply pM;simp[xA,D,h0]
  rw[S] at v1;have I:Instr.fill (λk=>some (k*i.size,i.size)) #[] (A.toList.map λx=>(x.1,ρ x.2))=some #[]:=v1;have J:Array.map (λ(_:Nat)=>(default:Value)) (Array.range 0)=#[]:=by apply jW;simp
  simp[Instr.buildSlice,dL Z,Go.sizeOf,typeInfo,i1,G,h0,newRow];rw[J,I];simp;refine run_buildSlice w t e n _ _ V W Z i1 i4 (by rw[G];omega) (by rw[G];exact h0) ?_;rw[G,L,←v1];congr 1;simp
 have e2:(execOp ρ o).run P w= .ok (.value (.slice (some ⟨w.heap.size,0,none⟩) n n)) (w.alloc (.cells vs.toArray e)):=by
  simp_all [execOp,B]
 rw[e2];exact CH v2 e rfl _ _ λc' id hd U N=>VR.newSl hd U N _ _ _ _ (bB _) (λm hm=>gC hm) ω
def Mq {α:Type} (l:List α) n f g a (h:l[n]? =some a) (e:f a=g a):l.modify n f=l.modify n g:=by
 induction l generalizing n with
 |nil=>simp at h
 |cons b r j=>
  rcases n with _|n;simp at h;subst h;simp[e];simp at h;simp[j n h]
def Zq {ty} (V:lN P ty) (X:Cx CR c h w ev ρ) {S W} (ht:P.underlying t=some (.map S W)) {m et} (aC:gF ty false m S et=true)
 {y kd} (b2:ty.get S=some kd) {j} (hj:ty.get W=some j) {z} (hz:(j.kd.isRow=true/\ z= .ag j.zs)∨(j.kd.isRow=false/\ [z]=j.zs))
 (ho:o.op= .mapEntry t x y) (ha:dC a x=true) (hb:dC b y=true):
 bD P CR c h w (ao4 et a b z ev h) ((execOp ρ o).run P w):=by
 have B:=X.hE _ _ ha;have I:=X.hE _ _ hb;unfold ao4;cases hq:En et (ev b);trivial;simp only[jk,eU];have J:∀w:World,∃G,(zeroValue W).run P w= .ok G w/\ VR c z G:=by
  intro w;obtain⟨b6,G,vs,h1,h2,h3,h4,h5,h6,h7,h8⟩:=(V W j hj).zero c;refine⟨G,by simp[zeroValue,typeInfo,h1,h4],?_⟩;rcases hz with ⟨k1,rfl⟩|⟨k1,k2⟩;exact h7 k1
  grind
 have E:=λem=>Gf (w:=w) V aC hq I em;have fM:=(V S kd b2).und;have O:∀v w',(Instr.mapEntry t (ρ x) (ρ y)).run P w= .ok v w' ->(execOp ρ o).run P w= .ok (.value v) w':=by
  simp_all [execOp,ho]
 cases hx:ev a with
 |m D=>
  rw[hx] at B;have hr:ρ x= .map (some (c.ρ D).1):=by generalize ρ x=vx at B;cases B;rfl
  have q1:c.dM D:=by generalize ρ x=vx at B;cases B;assumption
  dsimp only;rcases hg:h.get D with _|ob;trivial;cases ob with
  |map ver Z C=>
   simp only[jK];obtain⟨A,n1,n2,U,n4⟩:=X.rs.obj D _ ⟨hg,rfl,q1⟩;rcases hf:jx et (ev b) Z with _|q;trivial;rcases CP V aC I n2 0 hf with ⟨e1,e2⟩|⟨e,n,R,e1,e2,e3,e4,e5,e6,e7⟩;subst e1;simp only[jz,dT,AH.put_eq];obtain⟨G,z1,z2⟩:=J w;have e:=O (.tuple #[G,.int .i64 C]) { w with heap:=w.heap.setIfInBounds (c.ρ D).1 (.map (A.push { key:=ρ y,val:=G,born:=C }) (C+1)) } (by
    simp only[Instr.mapEntry,dz,dL ht,ez,hr];rw[tj n1];simp only[ez,dz,E];rw[xU fM e2];simp only[ez,dz,z1];rw[zW _ n1];simp only[ez,ig];rfl)
   rw[e];have H:gR CR c { w with heap:=w.heap.setIfInBounds (c.ρ D).1 (.map (A.push { key:=ρ y,val:=G,born:=C }) (C+1)) } D (.map (Nat.succ h.ver) (Z++[(ev b,z,C)]) (Nat.succ C)):=by
    refine⟨_,BH n1,?_,(CQ U n4).1,(CQ U n4).2⟩;rw[Array.toList_push];exact n2.push I z2
   exact⟨c,_,_,rfl,cH.write X.rs ⟨hg,rfl,q1⟩ (by simp) (λb hb=>vZ hb) H _,.inl ⟨_,rfl,ut z2 (.i _ _)⟩⟩;subst e1;dsimp only;cases b1:o9 (ev b) e.1;trivial;have b5:=Me b1;simp only[fC];rcases hu:mF e.2.2 (ev b) e.2.1 Z with _|L;trivial;simp only[AH.put_eq];have b0:A[n]? =some R:=by rw[←e3];simp
   obtain⟨kk,Y,s1,s2,s3,b4⟩:=Mf (P:=P) (w:=w) (((A[n]?).map (·.key)).getD (ρ y)) (ρ y);have b3:VR c (ev b) kk:=by
    grind
   have N:=n1;rw[←s3] at N;have ee:=O (.tuple #[R.val,.int .i64 e.2.2]) { Y with heap:=Y.heap.setIfInBounds (c.ρ D).1 (.map (A.modify n λe=>{ e with key:=kk }) C) } (by
    simp only[Instr.mapEntry,dz,dL ht,ez,hr];rw[tj n1];simp only[ez,dz,E];rw[xU fM e7];simp only[ez,dz,gB,s1];rw[zW _ N];simp only[ez,ig,b0,qH,pN,e6];rfl)
   rw[ee];obtain⟨u1,u2⟩:=fQ.upd b3 e5 n2 U e2 rfl hu;have H:gR CR c { Y with heap:=Y.heap.setIfInBounds (c.ρ D).1 (.map (A.modify n λe=>{ e with key:=kk }) C) } D (.map (Nat.succ h.ver) L C):=by
    refine⟨_,BH N,?_,Gg u2 U,Gh u2 n4⟩;rw[Gi,Mq A.toList n (λq=>{ q with key:=kk }) (λq=>{ q with key:=kk,val:=R.val }) R e3 rfl];exact u1
   exact⟨c,_,_,rfl,cH.write X.rs ⟨hg,rfl,q1⟩ (by simp[s3]) (λb hb=>by rw[←s3];exact vZ hb) H _ b4,.inl ⟨_,rfl,ut (e5) (.i _ _)⟩⟩
  |_=>trivial
 |_=>trivial
def fQ.idx {b}:∀{l l'},fQ c l l' ->∀{x},pU b l=some x ->
 ∃j B,l[j]? =some x/\ l'[j]? =some B/\ x.2.2=b/\ VR c x.1 B.key/\ VR c x.2.1 B.val/\ l'.findIdx? (λe=>(e.born:Int)==(b))=some j
 |[],[],_,x,hx=>by cases hx
 |(a,v,b')::r,B::r',hE,x,hx=>by
  obtain⟨h1,h2,D,E⟩:=hE;have A:(bif Nat.beq b' b then some (a,v,b') else pU b r)=some x:=hx;rw[bu] at A;by_cases hb:b'=b;simp only[hb,mC,fC,jI] at A;subst A;exact⟨0,B,by simp[hb],rfl,rfl,h1,h2,by simp[List.findIdx?_cons,D,hb]⟩;simp only[hb,decide_false,eU] at A;obtain⟨j,C,G,H,I,J,L,N⟩:=fQ.idx E A;refine⟨j+1,C,by simpa using G,by simpa using H,I,J,L,?_⟩;rw[List.findIdx?_cons];have:((B.born:Int)==(b:Int))=false:=by
   rw[D];simp;omega
  rw[this,N];rfl
 |[],_::_,hE,_,_=>hE.elim
 |_::_,[],hE,_,_=>hE.elim
def Zr (X:Cx CR c h w ev ρ) {s y u} (ho:o.op= .entryStore t x y u) (W:dC a x=true) (hs:dC s y=true) (hb:dC b u=true):
 bD P CR c h w (ao5 a s b ev h) ((execOp ρ o).run P w):=by
 have B:=X.hE _ _ W;have H:=X.hE _ _ hb;unfold ao5;cases hx:ev a with
 |m C=>
  rcases Z:nA ev s with _|bn;trivial;obtain⟨q,hq⟩:=th X hs Z;rw[hx] at B;have hr:ρ x= .map (some (c.ρ C).1):=by generalize ρ x=vx at B;cases B;rfl
  have S:c.dM C:=by generalize ρ x=vx at B;cases B;assumption
  dsimp only;rcases N:h.get C with _|ob;trivial;cases ob with
  |map ver J E=>
   simp only[jK];obtain⟨A,n1,O,R,n4⟩:=X.rs.obj C _ ⟨N,rfl,S⟩;rcases Y:pU bn J with _|e;trivial;dsimp only;obtain⟨j,I,k1,k2,k3,k4,k5,k6⟩:=O.idx Y;rcases hu:mF bn e.1 (ev b) J with _|L;trivial;simp only[AH.put_eq];have D:A.findIdx? (λe=>(e.born:Int)==(bn:Int))=some j:=by
    rw[←k6];cases A;simp
   have V:(execOp ρ o).run P w= .ok .skip { w with heap:=w.heap.setIfInBounds (c.ρ C).1 (.map (A.modify j λe=>{ e with val:=ρ u }) E) }:=by
    simp only[execOp,ho];refine zU ?_;simp only[Instr.entryStore,hr,dz];rw[tj n1];simp only[ez,dz,hq,asInt,asIntOf,ig];rw[D];exact zW _ n1
   rw[V];obtain⟨u1,U⟩:=fQ.upd k4 H O R k1 k3 hu;have G:gR CR c { w with heap:=w.heap.setIfInBounds (c.ρ C).1 (.map (A.modify j λe=>{ e with val:=ρ u }) E) } C (.map (Nat.succ h.ver) L E):=by
    refine⟨_,BH n1,?_,Gg U R,Gh U n4⟩;rw[Gi,Mq A.toList j (λq=>{ q with val:=ρ u }) (λq=>{ q with key:=I.key,val:=ρ u }) I k2 rfl];exact u1
   exact⟨c,_,_,rfl,cH.write X.rs ⟨N,rfl,S⟩ (by simp) (λb hb=>vZ hb) G _,.inr ⟨rfl,rfl⟩⟩
  |_=>trivial
 |_=>trivial
structure Gl (P:Program) (name:String) (t:TypeId) (f:FuncId):Prop where
 row:∃inf m pr d,P.info? t=some inf/\ inf.methods.find? (·.name==name)=some m/\ m.path=#[]/\ m.func=some (f,pr)/\ P.underlying t=some d/\ ((∃e,d= .pointer e/\ pr=true)∨((∀e,d≠.pointer e)/\ pr=false))
def CV (P:Program) (name:String) (j:List (Nat×Nat)):Prop:=∀t f,xN t j=some f ->Gl P name t f
def Zs {name f} (D:Gl P name t f) n v:(method (n+1) t v name).run P w= .ok (f,v) w:=by
 obtain⟨E,m,pr,d,h1,h2,A,B,C,j⟩:=D.row;unfold method;rcases j with ⟨e,rfl,rfl⟩|⟨j,rfl⟩;simp[typeInfo,h1,h2,A,B,follow,receiverAt,dL C,Place.get];cases d<;>first|(exact bh rfl (j _))|simp[typeInfo,h1,h2,A,B,follow,receiverAt,dL C,Place.get]
def Zt (X:Cx CR c h w ev ρ) {r name B} (J:CV P name B) {args j} (H:j.callee= .invoke x name) (O:dC r x=true) (L:o.op= .call j) (E:jo args j.args.toList=true):
 bD P CR c h w (ap8 r B args ev h) ((execOp ρ o).run P w):=by
 unfold ap8;have D:=X.hE _ _ O;cases G:ev r with
 |ifc t v=>
  rcases h1:eE ev args with _|l;trivial;dsimp only;rcases I:xN t B with _|f;trivial;rw[G] at D;generalize N:ρ x=R at D;cases D with
  |ifc _ _ v' q=>
   have A:=ur X E h1;refine⟨rfl,v'::j.args.toList.map ρ,.cons _ _ _ _ q A,?_⟩;simp only[execOp,L,resolve,H,N,CL];have C:∀n,(method (n+1) t v' name).run P w= .ok (f,v') w:=λn=>Zs (J t f I) n v';have e3:List.take j.args.size (List.map ρ j.args.toList)=List.map ρ j.args.toList:=vM (by simp);simp[invoke,callMethod,Made.depth,C,e3]
 |_=>trivial
def Gm {b row j} (h1:w.heap[b]? =some (.cells row t j)):w.shape? b=some (t,row.size):=by
 unfold World.shape?;rw[h1]
def Ms (X:Cx CR c h w ev ρ) (G:o.op= .box t x) (B:dC a x=true) {l} (C:cellsO (ev a)=some l):
 nJ CR c w (λ_=> .tc t true l) (λo=> .p o 0) ((execOp ρ o).run P w):=by
 obtain⟨vs,h1,h2⟩:=(X.hE _ _ B).cellsO C;have e:(execOp ρ o).run P w= .ok (.value (.pointer (some ⟨w.heap.size,0,none⟩))) { w with heap:=w.heap.push (.cells vs.toArray t) }:=by
  simp_all [execOp,G,Instr.box,newVar,newRow]
 rw[e];refine⟨_,_,_,vs.length,rfl,⟨rfl,rfl,rfl⟩,λL J id ver H hd A I hb=>⟨⟨vs.toArray,t,0,0,vs,by rw[A];exact hb,by rw[I];simp,λj _=>by omega,h2.mono H,?_,by rw[A];simp,λk E=>⟨gC E,by rw[A]⟩,λ_=>by simp⟩,VR.new hd A 0⟩⟩;intro j u D;rw[A];simpa using D
def Zw (W:gT P t i) (X:Cx CR c h w ev ρ) {y z} (U:o.op= .store t x z) (Y:dC a x=true) (Z:dC y z=true) (S:n=i.size):
 bD P CR c h w (aq9 a y n ev h) ((execOp ρ o).run P w):=by
 unfold aq9;have C:=X.hE _ _ Y;have D:=X.hE _ _ Z;cases V:ev a with
 |p A j=>
  dsimp only;rcases I:h.get A with _|ob;trivial;cases ob with
  |tc T wh l=>
   dsimp only;rw[jK];rcases L:eL (cellsOf (ev y)) l j with _|l';trivial;dsimp only;cases B:(wV (cellsOf (ev y))&&Nat.beq (len (cellsOf (ev y))) n);trivial;simp only[aB,bu,aU,kZ] at B;obtain⟨vs,e1,e2,e3⟩:=F6 D B.1;rw[V] at C;generalize J:ρ x=vx at C;cases C with
   |p _ _ E=>
    have G:dU c h A (.tc T wh l):=⟨I,rfl,E⟩;obtain⟨h1,h2⟩:=LJ (ob':= .tc T wh l') X.rs G e2 L (X.rs.obj _ _ G) (λ_ k=>k) (Nat.succ h.ver);obtain⟨R,zv,N,O,_⟩:=W.info;have e:(execOp ρ o).run P w= .ok .skip (w.setCells (c.ρ A).1 ((c.ρ A).2+j) vs):=by
     simp only[execOp,U];refine zU ?_;rw[J];simp only[Instr.storeAt,Instr.sureAddr,dz,ig,ez];exact F7 t N _ _ _ vs e1 (by rw[e2.length,B.2,O];exact S) e3 h1
    rw[e];simp only[fC,AH.put_eq];exact⟨_,_,_,rfl,h2,.inr ⟨rfl,rfl⟩⟩
  |cells v0 l=>
   dsimp only;rw[jK];rcases L:eL (cellsOf (ev y)) l j with _|l';trivial;dsimp only;cases B:(wV (cellsOf (ev y))&&Nat.beq (len (cellsOf (ev y))) n);trivial;simp only[aB,bu,aU,kZ] at B;obtain⟨vs,e1,e2,e3⟩:=F6 D B.1;rw[V] at C;generalize J:ρ x=vx at C;cases C with
   |p _ _ E=>
    have H:h.cells A=some l:=by unfold AH.cells;rw[I]
    have G:dU c h A (.cells v0 l):=⟨I,rfl,E⟩;obtain⟨h1,h2⟩:=F5 X.rs E H e2 L 0 (Nat.succ h.ver);obtain⟨R,zv,N,O,_⟩:=W.info;have e:(execOp ρ o).run P w= .ok .skip (w.setCells (c.ρ A).1 ((c.ρ A).2+j) vs):=by
     simp only[execOp,U];refine zU ?_;rw[J];simp only[Instr.storeAt,Instr.sureAddr,dz,ig,ez];exact F7 t N _ _ _ vs e1 (by rw[e2.length,B.2,O];exact S) e3 h1
    rw[e];simp only[fC,AH.put_eq];exact⟨_,_,_,rfl,h2,.inr ⟨rfl,rfl⟩⟩
  |_=>trivial
 |_=>trivial
def Zx {s k j} (N:P.underlying s=some (.pointer k)) (I:gT P k j) (S:j.size≠0) (O:P.underlying t=some .unsafePointer) (X:Cx CR c h w ev ρ) (J:o.op= .convert s t x) (E:dC a x=true):
 bD P CR c h w (ar2 a ev h) ((execOp ρ o).run P w):=by
 unfold ar2;have C:=X.hE _ _ E;cases R:ev a with
 |p B A=>
  dsimp only;rcases H:h.get B with _|ob;trivial;cases ob with
  |tc T wh l=>
   dsimp only;rw[fv];split;rename_i G;simp only[wX,aU,kZ] at G;rw[R] at C;generalize L:ρ x=vx at C;cases C with
   |p _ _ D=>
    obtain⟨row,t',lo,hi,vs,Y,k2,k3,Z,k5,k6,k7⟩:=X.rs.obj B (.tc T wh l) ⟨H,rfl,D⟩;have eQ:=Z.length;obtain⟨W,zv,U,V,_⟩:=I.info;have e:(execOp ρ o).run P w= .ok (.value (.pointer (some (c.addr B A)))) w:=by
     simp only[execOp,J];refine fS ?_;rw[L];exact Lib.run_to_unsafe w (c.addr B A) N O U (by rw[V];exact S) (Gm Y) (show(c.ρ B).2+A<row.size by omega)
    rw[e];exact cV.same X.rs (.p _ _ D)
   trivial
  |_=>trivial
 |_=>trivial
def Mt {T n j}:∀{l},zL T n j l=true ->(T,n,j)∈l
 |[],h=>by cases h
 |(a,b,d)::r,h=>by
  have h':(Nat.beq a T&&(Nat.beq b n&&Nat.beq d j)||zL T n j r)=true:=h;simp only[ja,aB,bu,aU] at h';rcases h' with ⟨rfl,rfl,rfl⟩|h';exact jG;exact jw _ (Mt h')
def Zy {s u j} (V:P.underlying s=some .unsafePointer) (W:P.underlying t=some (.pointer u)) (R:gT P u j) {C}
 (D:∀q∈C,liesAt P P.depth q.1 (q.2.1/P.cellsOf q.1) q.2.2 u 1=true) (X:Cx CR c h w ev ρ) (S:o.op= .convert s t x) (L:dC a x=true):
 bD P CR c h w (ar3 C a ev h) ((execOp ρ o).run P w):=by
 unfold ar3;have E:=X.hE _ _ L;cases Y:ev a with
 |p B A=>
  dsimp only;rcases O:h.get B with _|ob;trivial;cases ob with
  |tc T wh l=>
   cases wh with
   |false=>trivial
   |true=>
   dsimp only;rw[fv];split;rename_i N;have H:=D _ (Mt N);rw[kZ] at H;rw[Y] at E;generalize U:ρ x=vx at E;cases E with
   |p _ _ G=>
    obtain⟨row,I,lo,hi,vs,k1,k2,k3,k4,k5,k6,k7,k8⟩:=X.rs.obj B (.tc T true l) ⟨O,rfl,G⟩;obtain⟨rfl,k9⟩:=k7 T rfl;have eQ:=k4.length;have J:row.size=l.length:=by rw[k8 rfl];omega
    obtain⟨b0,zv,Z,i2,_⟩:=R.info;have e:(execOp ρ o).run P w= .ok (.value (.pointer (some (c.addr B A)))) w:=by
     simp only[execOp,S];refine fS ?_;rw[U];refine Lib.run_from_unsafe w (c.addr B A) V W Z (Gm k1) ?_;show liesAt P P.depth I (row.size/P.cellsOf I) ((c.ρ B).2+A) u 1=true;rw[J,k9,gB];exact H
    rw[e];exact cV.same X.rs (.p _ _ G)
   trivial
  |_=>trivial
 |_=>trivial
def Zz (X:Cx CR c h w ev ρ) {ts} (E:o.op= .call { callee:= .builtin .unsafeSliceData,args:=#[x],argTypes:=ts }) (D:dC a x=true):
 bD P CR c h w (ar4 a ev h) ((execOp ρ o).run P w):=by
 unfold ar4;have j:=X.hE _ _ D;have key:∀v q,ρ x=v ->(Builtin.unsafeSliceData_ ts o.type #[v]).run P w= .ok q w ->(execOp ρ o).run P w= .ok (.value q) w:=by
  intro v q B e;simp only[execOp,E];simp[resolve,invoke,builtin,B,e]
 cases C:ev a with
 |sn=>
  rw[C] at j;generalize B:ρ x=H at j;cases j;rw[key _ _ B (Lib.run_unsafeSliceData_nil w _ _ _ _)];exact cV.same X.rs .pn
 |sl I G n cap esz=>
  rw[C] at j;generalize B:ρ x=H at j;rcases n with _|n;trivial;cases j with
  |sl _ _ _ _ _ A N q1 q2 q3 q4 q5=>
   rw[key _ _ B (Lib.run_unsafeSliceData_row w _ _ A _ _ ω),q4 ω];exact cV.same X.rs (.p _ _ q1)
 |_=>trivial
def ZA {pt G} (hp:P.underlying pt=some (.pointer e)) (I:P.cellsOf e=1) (X:Cx CR c h w ev ρ) {y} (ho:o.op= .call { callee:= .builtin .unsafeString,args:=#[x,y],argTypes:=#[pt,G] })
 (ha:dC a x=true) (hb:dC b y=true) {T} (hT:T=e):
 bD P CR c h w (ar5 T a b ev h) ((execOp ρ o).run P w):=by
 subst hT;unfold ar5;have B:=X.hE _ _ ha;have V:=X.hE _ _ hb;have key:∀E v q W,ρ x=E ->ρ y=v ->(Builtin.unsafeString_ #[pt,G] o.type #[E,v]).run P w= .ok q W ->(execOp ρ o).run P w= .ok (.value q) W:=by
  intro E v q W hr1 C e;simp only[execOp,ho];simp[resolve,invoke,builtin,C,hr1,e]
 cases hn:ev b with
 |i k m=>
  rw[hn] at V;have Y:=V.int_inv;cases k with
  |i64=>
   cases m with
   |negSucc m=>trivial
   |ofNat m=>
    rcases m with _|n;cases N:ev a with
    |pn=>
     rw[N] at B;generalize C:ρ x=E at B;cases B;rw[key _ _ _ _ C Y (Lib.run_unsafeString_none w pt G _ none)];exact cV.same X.rs (.s [] .empty rfl)
    |_=>trivial
    cases N:ev a with
    |p A O=>
     cases O with
     |succ _=>trivial
     |zero=>
      show bD P CR c h w (match h.get A with
       |some (.tc T' _ l)=>bif Nat.beq T' T&&Nat.ble n 1048576 then (match sub l 0 (Nat.succ n) with
        |some c=>match mE c with
         |some b=>h.put A .gone λh=> .v (.s b) h
         |none=> .bad
        |none=> .bad) else .bad
       |_=> .bad) _
      rcases hg:h.get A with _|ob;trivial;cases ob with
      |tc T' wh l=>
       dsimp only;rw[fv];split;rename_i S;simp only[aB,bu,wX,aU] at S;obtain⟨rfl,b0⟩:=S;rcases hs:sub l 0 (Nat.succ n) with _|cl;trivial;dsimp only;rcases H:mE cl with _|bl;trivial;dsimp only;rw[AH.put_eq];rw[N] at B;generalize C:ρ x=E at B;cases B with
       |p _ _ aV=>
        have R:dU c h A (.tc T' wh l):=⟨hg,rfl,aV⟩;obtain⟨row,t',lo,hi,vs,Z,k2,k3,k4,k5,k6,k7,_⟩:=X.rs.obj A _ R;obtain⟨rfl,k9⟩:=k7 T' rfl;obtain⟨g1,rfl⟩:=lM hs;obtain⟨u,u1,u2⟩:=Gk ((k4.drop 0).take (Nat.succ n)) H;have eQ:=k4.length;have D:u.length=n+1:=by
         have:((vs.drop 0).take (Nat.succ n)).length=u.length:=by rw[u2];simp
         rw[←this];simp;omega
        have ea:c.addr A 0=⟨(c.ρ A).1,0,none⟩:=by simp[CE.addr,k9]
        have e:=key _ _ (.string ⟨u.toArray⟩) (w.freeze ⟨(c.ρ A).1,0,none⟩ u.length) C Y (by
         rw[ea,show(Int.ofNat (n+1))=((u.length:Nat):Int) by rw[D];rfl];refine Lib.run_unsafeString_row w pt G _ t' hp I _ _ (Gm Z) u (λe0=>by subst e0;simp at D) ω ω λj z U=> ?_;have b1:=(eC.1 U).1;have ej:(⟨(c.ρ A).1,0,none⟩:Addr).add j=⟨(c.ρ A).1,j,none⟩:=by simp[nE]
         rw[ej,pW Z];have h1:((vs.drop 0).take (Nat.succ n))[j]? =some (Value.int .u8 z.toNat):=by rw[u2];simp[U]
         rw[jZ,aF ω,mB,gB] at h1;have:=k5 _ _ h1
         rwa [k9,gB] at this)
        rw[e];have J:∀q,q≠(c.ρ A).1 ->(w.freeze ⟨(c.ρ A).1,0,none⟩ u.length).heap[q]? =w.heap[q]? :=by
         grind[World.freeze]
        have L:(w.freeze ⟨(c.ρ A).1,0,none⟩ u.length).heap.size=w.heap.size:=by
         grind[World.freeze]
        exact⟨c,_,_,rfl,cH.write X.rs R L J (obj':= .gone) trivial _ (by unfold World.freeze;split<;>exact⟨rfl,rfl⟩),.inl ⟨_,rfl,.s _ _ u1⟩⟩
       trivial
      |_=>trivial
    |_=>trivial
  |_=>trivial
 |_=>trivial
def ZC (oX:gT P e i) (X:Cx CR c h w ev ρ) (ht:P.underlying t=some (.slice e)) {kn} (hk:P.underlying tx=some (.int kn)) {y}
 (ho:o.op= .call { callee:= .builtin .append,args:=#[x,y],argTypes:=#[t,tx] }) (Y:dC a x=true) (hb:dC b y=true) {z A} (hz:z=i.zs) (b0:A=i.size) (U:z.length=A) (h0:0<A) (Z:i.bytes<=1048576)
 (h1:ev a= .sn) (h2:nA ev b=some (n+1)) (hn:n<=1000000):
 nJ CR c w (λver=> .cells ver (List.replicate (n+1) z).flatten) (λo=> .sl o 0 (n+1) none A) ((execOp ρ o).run P w):=by
 subst hz;have S:=X.hE _ _ Y;rw[h1] at S;generalize hr:ρ x=vx at S;cases S;obtain⟨q,hq⟩:=th X hb h2;obtain⟨B,G,vs,i1,i2,i3,i4,i5,W,_⟩:=oX.zero c;have D:vs.length=A:=by rw[W.length];exact U
 have I:(n+1)*B.bytes<=281474976710656:=by
  have:(n+1)*B.bytes<=1000001*1048576:=zA ω ω;omega
 have H:=Lib.run_append_nil_zeros (P:=P) w t tx o.type e B G q kn ht hk i1 i4 (n+1) ω ω ω I;have C:=grownCap_ge w (n+1) 0 e;have E:∀m,Builtin.zeroCells G.cells m=(List.replicate m vs).flatten.toArray:=λm=>by
  rw[i5,←Gb];rfl
 generalize grownCap w (n+1) 0 e=N at H C;have O:(Builtin.zeroCells G.cells (n+1)++Builtin.zeroCells G.cells (N-(n+1)))=((List.replicate (n+1) vs).flatten++(List.replicate (N-(n+1)) vs).flatten).toArray:=by
  rw[E,E];simp
 rw[O] at H;have ex:(execOp ρ o).run P w= .ok (.value (.slice (some ⟨w.heap.size,0,none⟩) (n+1) N)) (w.drew.alloc (.cells ((List.replicate (n+1) vs).flatten++(List.replicate (N-(n+1)) vs).flatten).toArray e)):=by
  simp_all [execOp,ho,resolve,invoke,builtin,hr,hq,H]
 rw[ex];have J:(List.replicate (n+1) vs).flatten.length=(n+1)*A:=by simp[xA,D]
 have L:(List.replicate (N-(n+1)) vs).flatten.length=(N-(n+1))*A:=by simp[xA,D]
 refine F3 (W.replicate (n+1)) e _ (0,0) (λj _=>by simp) rfl _ _ λc' id hd V R=>VR.newSl hd V R _ _ _ _ C (λm hm=>by cases hm) ?_;rw[J,L,←nq];exact ni _ ω
def ZD (L:gT P e i) (X:Cx CR c h w ev ρ) (I:P.underlying t=some (.slice e)) {kn} (G:P.underlying tx=some (.int kn)) {y}
 (H:o.op= .call { callee:= .builtin .append,args:=#[x,y],argTypes:=#[t,tx] }) (E:dC a x=true) (hb:dC b y=true) {z j bs} (J:z=i.zs) (B:j=i.size) (C:z.length=j) (h0:0<j) (A:i.bytes<=1048576):
 bD P CR c h w (aq0 a b j bs z ev h) ((execOp ρ o).run P w):=by
 unfold aq0;cases h1:ev a with
 |sn=>
  rcases h2:nA ev b with _|m;trivial;rcases m with _|n;trivial;dsimp only;rw[fv];split;rename_i D;simp only[wX,aU] at D;rw[zP];exact(ZC L X I G H E hb J B C h0 A h1 h2 D).good X.rs;trivial
 |_=>trivial
def ZF (W:gT P e i) (X:Cx CR c h w ev ρ) (U:P.underlying t=some (.slice e)) (E:(∃N,P.underlying tx=some (.slice N))∨(P.underlying tx=some .string)) {y}
 (S:o.op= .call { callee:= .builtin .append,args:=#[x,y],argTypes:=#[t,tx] }) (R:dC a x=true) (hb:dC b y=true) {A bs} (C:A=i.size) (I:i.zs.length=i.size) (B:i.bytes<=1048576) {T} (O:T=e):
 bD P CR c h w (ar1 T a b A bs ev h) ((execOp ρ o).run P w):=by
 subst O;unfold ar1;have G:=X.hE _ _ R;have H:=X.hE _ _ hb;rcases h1:ij (ev b) with _|n;trivial;rcases h2:eI h A (ev b) with _|l;trivial;dsimp only;have D:∀v J,(Builtin.append_ #[t,tx] o.type #[ρ x,ρ y]).run P w= .ok v J ->(execOp ρ o).run P w= .ok (.value v) J:=by
  intro v J V;simp only[execOp,S];simp[resolve,invoke,builtin,V]
 cases j:wV l with
 |true=>
  obtain⟨L,Y,Z⟩:=Mi X.rs H (tx:=tx) h2 h1 j E;subst C;exact Sk (λk E=>gC E) W X.rs U G Y Z rfl I B D
 |false=>
  rcases n with _|n;rw[Mj h2 h1] at j;cases j;rw[Sl _ _ _ _ j];trivial
end
end
end AM
