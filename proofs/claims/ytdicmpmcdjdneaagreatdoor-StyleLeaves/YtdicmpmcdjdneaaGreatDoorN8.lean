import Derived.Test.YtdicmpmcdjdneaaGreatDoorN7
set_option linter.all false
set_option maxHeartbeats 4000000
namespace AM
open Go
variable {a b:Nat}
def ax3 (h:¬a=b):(a=b)=False:=dQ h
def ax4 (h:a=b):(a=b)=True:=fq h
def ax5 (h:¬a<b):(a<b)=False:=dQ h
def ax6 (h:a<b):(a<b)=True:=fq h
def ax7 (h:¬a<=b):(a<=b)=False:=dQ h
def ax8 (h:a<=b):(a<=b)=True:=fq h
variable {a b:Int}
def ax9 (h:¬a=b):(a=b)=False:=dQ h
def ay0 (h:a=b):(a=b)=True:=fq h
def ay1 (h:¬a<b):(a<b)=False:=dQ h
def ay2 (h:a<b):(a<b)=True:=fq h
def ay3 (h:¬a<=b):(a<=b)=False:=dQ h
def ay4 (h:a<=b):(a<=b)=True:=fq h
def dh:=ec @ax3<|ec @ax4<|ec @ax5<|ec @ax6<|ec @ax7<|ec @ax8<|ec @ax9<|ec @ay0<|ec @ay1<|ec @ay2<|ec @ay3 @ay4
def wO:ff (ι 0)=some 0:=rfl
def yI:ff (ι 1)=some 1:=rfl
def Bj:ff (ι 2)=some 2:=rfl
def yJ:((0:Nat):Int)=0:=rfl
def Q9 {k}:aY .gtr (.i k a) (.i k b)=some (.b (decide (b<a))):=by
 show(bif gZ k k then rb (fD b a) else none)=_;rw[uN,mI];show rb _=_;unfold rb;rw[rR]
def ay5 {k}:aY .leq (.i k a) (.i k b)=some (.b (decide (a<=b))):=by
 show(bif gZ k k then rb (!(fD b a)) else none)=_;rw[uN,mI];show rb _=_;unfold rb;rw[rR];congr 2;rw[xB];simp
def oH {a b:Nat} (h:a+b<9223372036854775808):aY .add (ι (a)) (ι (b))=some (ι ((a+b:Nat):Int)):=by
 rw[wD ω];congr 2
def bK {a:Nat} (h:a+1<9223372036854775808):aY .add (ι (a)) (ι 1)=some (ι ((a+1:Nat):Int)):=oH (b:=1) h
def qV {a b:Nat} (h:b<=a/\ a<9223372036854775808):aY .sub (ι (a)) (ι (b))=some (ι ((a-b:Nat):Int)):=by
 rw[rX ω];congr 2;omega
def lW:rZ (λn:Nat=>AV.i .i64 (n)) (.lf .i) where
 eq:=λa b=>by
  have:=(Az (k:= .i64)).eq (a:Int) (b:Int);refine this.trans ?_;congr 1;rw[decide_eq_decide];omega
 q:=λa=>(Az (k:= .i64)).q (a:Int)
 self:=λa=>(Az (k:= .i64)).self (a:Int)
def mG:Option bC ->Option (List (AV×AV×Nat)×Nat)
 |some (.map _ l n)=>some (l,n)
 |_=>none
def oI {v l n}:mG (some (.map v l n))=some (l,n):=rfl
def fT {κ ν ek en h o} {l:List (κ×ν)}:yh ek en h o l↔mG (h.oB.get o)=some (di ek en 0 l,l.length):=by
 constructor;rintro⟨v,e⟩;rw[e];rfl;intro e;unfold mG at e;split at e;rename_i v l' n' j;cases e;exact⟨v,j⟩;cases e
attribute [go_sem] wO yI Bj yJ Q9 ay5 dh
end AM
namespace AM
open Go
noncomputable section
def gU (h:AH) (esz:Nat) (s x:AV):da:=match ij x,eI h esz x with
 |some n,some l=>gD h s n l esz
 |_,_=> .bad
variable {h:AH} {esz:Nat}
def tM {ev s x b}:step ev h (.app s x esz b)=gU h esz (ev s) (ev x):=rfl
def IC (h:AH) (esz o n:Nat) (new:List AV):da:=gD h (.sl o 0 n none esz) 1 new esz
def D5 (h:AH) (esz o n:Nat) (new:List AV):Option (List AV) ->da
 |some L=>if L.length=n*esz/\ n+1<=1048576 then .v (.sl h.next 0 (n+1) none esz) ⟨h.next+1,h.ver+1,(h.oB.put o .gone).put h.next (.cells (h.ver+1) (L++new))⟩ else IC h esz o n new
 |none=>IC h esz o n new
def ID (h:AH) (esz:Nat) (s:AV) (new:List AV):da:=gD h s 1 new esz
def yL (h:AH) (esz:Nat) (s:AV) (o2:Nat):da:=gU h esz s (.sl o2 0 1 (some 1) esz)
def Qj (h:AH) (esz:Nat) (s:AV) (o2:Nat):Option (List AV) ->da
 |some new=>if new.length=esz/\ wV new=true then (match s with
  | .sn=> .v (.sl h.next 0 1 none esz) ⟨h.next+1,h.ver,h.oB.put h.next (.cells h.ver new)⟩
  | .sl o 0 n none e=>if e=esz then D5 h esz o n new (cG (h.oB.get o)) else ID h esz s new
  |s=>ID h esz s new) else yL h esz s o2
 |none=>yL h esz s o2
def IE {o2 s}:gU h esz s (.sl o2 0 1 (some 1) esz)=Qj h esz s o2 (cG (h.oB.get o2)):=by
 rcases A:cG (h.oB.get o2) with _|new;rfl;unfold Qj;dsimp only;split;rename_i j;have G:eI h esz (.sl o2 0 1 (some 1) esz)=some new:=wH A (mM ω);have e0:gU h esz s (.sl o2 0 1 (some 1) esz)=gD h s 1 new esz:=by unfold gU;rw[G];rfl
 split;have:=Hf (ev:=λm=>match m with| .t 0=>AV.sn|_=> .sl o2 0 1 (some 1) esz) (h:=h) (s:= .t 0) (x:= .t 1) (b:=0) rfl rfl A j.1 j.2;exact this;rename_i o n e;split;rename_i I;subst I;rw[e0];rcases H:cG (h.oB.get o) with _|L;rfl;unfold D5;dsimp only;split;rename_i D;rw[←e0];exact He (ev:=λm=>match m with| .t 0=>AV.sl o 0 n none e|_=> .sl o2 0 1 (some 1) e) (h:=h) (s:= .t 0) (x:= .t 1) (b:=0) rfl H D.1 rfl A j.1 j.2 D.2;rfl;rw[e0];rfl;rw[e0];rfl;rfl
def IF {o2 new}:Qj h esz .sn o2 (some new)=if new.length=esz/\ wV new=true then .v (.sl h.next 0 1 none esz) ⟨h.next+1,h.ver,h.oB.put h.next (.cells h.ver new)⟩ else yL h esz .sn o2:=rfl
def Ra {o n o2 new}:Qj h esz (.sl o 0 n none esz) o2 (some new)=if new.length=esz/\ wV new=true then D5 h esz o n new (cG (h.oB.get o)) else yL h esz (.sl o 0 n none esz) o2:=by
 simp[Qj]
def Rb {o n new L}:D5 h esz o n new (some L)=if L.length=n*esz/\ n+1<=1048576 then .v (.sl h.next 0 (n+1) none esz) ⟨h.next+1,h.ver+1,(h.oB.put o .gone).put h.next (.cells (h.ver+1) (L++new))⟩ else IC h esz o n new:=rfl
def iP:=ec @tM<|ec @IE<|ec @IF<|ec @Ra @Rb
def m2 (h:AH):AV ->AV ->da
 | .i .i64 a,.i .i64 b=> .v (ι (if b<a then b else a)) h
 | .i k a,y=>dr h (jy fD k [y] a)
 |_,_=> .bad
def x2 (h:AH):AV ->AV ->da
 | .i .i64 a,.i .i64 b=> .v (ι (if a<b then b else a)) h
 | .i k a,y=>dr h (jy (λx y=>fD y x) k [y] a)
 |_,_=> .bad
def ay6 {ev x y}:step ev h (.min [x,y])=m2 h (ev x) (ev y):=by
 have A:step ev h (.min [x,y])=(match eE ev [x,y] with|some (.i k a::r)=>dr h (jy fD k r a)|_=> .bad):=rfl;have j:∀(p q:Int),jy fD .i64 [ι q] p=(bif fD q p then some (ι q) else some (ι p)):=λp q=>rfl;rw[A];simp only[wC,DG,qH];cases ev x<;>try rfl
 rename_i k a;cases ev y<;>cases k<;>try rfl
 rename_i k' b;cases k'<;>try rfl
 simp only[m2,j,mI,rM];split<;>rfl
def ay7 {ev x y}:step ev h (.max [x,y])=x2 h (ev x) (ev y):=by
 have A:step ev h (.max [x,y])=(match eE ev [x,y] with|some (.i k a::r)=>dr h (jy (λx y=>fD y x) k r a)|_=> .bad):=rfl;have j:∀(p q:Int),jy (λx y=>fD y x) .i64 [ι q] p=(bif fD p q then some (ι q) else some (ι p)):=λp q=>rfl;rw[A];simp only[wC,DG,qH];cases ev x<;>try rfl
 rename_i k a;cases ev y<;>cases k<;>try rfl
 rename_i k' b;cases k'<;>try rfl
 dsimp only;rw[j,mI,rM];simp only[x2];split<;>rfl
def ay8 {a b}:m2 h (ι a) (ι b)= .v (ι (if b<a then b else a)) h:=rfl
def ay9 {a b}:x2 h (ι a) (ι b)= .v (ι (if a<b then b else a)) h:=rfl
def jP:=ec @ay6<|ec @ay7<|ec @ay8 @ay9
end
end AM
namespace AM
open Dg Go
noncomputable section
def js (V:List Nat):List (Nat×Nat):=(0,0)::(1,1)::V.zipIdx.map λp=>(p.1,p.2+2)
def Rc {n}:∀(V:List Nat) (i),look n ((V.zipIdx i).map λp=>(p.1,p.2+2))=if n∈V then some (V.idxOf n+i+2) else none
 |[],i=>by simp[look]
 |a::V,i=>by
  simp only[List.zipIdx_cons,jY,look,Rc V (i+1),ey,X3];by_cases e:n=a;subst e;simp;have j:(a==n)=false:=by simp;exact λh=>e h.symm
  simp only[e,bV,false_or,j,eU];split;congr 1;omega;rfl
def D6 {n V} (h2:∀m∈V,2<=m):look n (js V)=if n<2∨n∈V then some (nb V n) else none:=by
 unfold js;simp only[look,Rc V 0];by_cases h0:n=0;subst h0;simp[nb];by_cases h1:n=1;subst h1;simp[nb];simp only[h0,h1,bV];have:¬n<2:=by omega
 by_cases j:n∈V<;>simp[j,this,nb]
def az0 {V n}:js (V++[n])=js V++[(n,V.length+2)]:=by
 unfold js;simp[List.zipIdx_append]
variable {B:List Br}
def uV {V}:(DM B V).length=V.length:=by simp[DM]
structure VS (q bo p o:Nat) (B:List Br) (V:List Nat) (oo:Nat) (h:AH):Prop where
 lb:bo<q
 lo:B≠[] ->o<q
 cb:∃a,cG (h.oB.get bo)=some [a,.m p]/\ gN h.oB.get o B a
 c0:cG (h.oB.get q)=some [.p bo 0]
 c2:∃a,cG (h.oB.get (q+2))=some [a,.i .i64 0]/\ gN h.oB.get oo (DM B V) a
 c3:yh (λn:Nat=>AV.i .i64 (n:Int)) eN h (q+3) (js V)
 c4:cG (h.oB.get (q+4))=some [.m (q+3)]
 c5:cG (h.oB.get (q+5))=some [.f 301 [] [.p (q+4) 0,.p q 0,.p (q+5) 0,.p (q+2) 0]]
 next:q+6<=h.next
 nodes:V≠[] ->q+6<=oo/\ oo<h.next
structure VF (q:Nat) (V:List Nat) (oo:Nat) (h:AH) (V':List Nat) (oo':Nat) (h':AH):Prop where
 next:h.next<=h'.next
 same:∀j,j<h.next ->j≠q+2 ->j≠q+3 ->(V≠[] ->j≠oo) ->h'.oB.get j=h.oB.get j
 new:V'≠[] ->(V≠[]/\ oo'=oo)∨h.next<=oo'
variable {h:AH}
def VF.trans {q oo D A V V' V'' h' G} (a:VF q V oo h V' D h') (b:VF q V' D h' V'' A G):VF q V oo h V'' A G:=
 ⟨fJ a.next b.next,λj h1 h2 L N=>by
  have O:V'≠[] ->j≠D:=λJ=>by
   rcases a.new J with ⟨H,I⟩|H;rw[I];exact N H;omega
  rw[b.same j (iR h1 a.next) h2 L O,a.same j h1 h2 L N],λJ=>by
  have:=a.next;rcases b.new J with ⟨H,I⟩|H;rw[I];exact a.new H;exact .inr ω⟩
variable {o:Nat}
def gN.mono {g j a} (h:gN g o B a) (e:B≠[] ->j o=g o):gN j o B a:=by
 rcases h with h|⟨h1,h2,A⟩;exact .inl h;exact .inr ⟨h1,h2,by rw[e h1];exact A⟩
def VS.mono {q bo p V oo h'} (s:VS q bo p o B V oo h) (A:h.next<=h'.next) (e:∀j,(j<q+6∨(V≠[]/\ j=oo)) ->h'.oB.get j=h.oB.get j):VS q bo p o B V oo h':=by
 have H:=s.lb;have G:=s.lo;exact {
  lb:=s.lb
  lo:=s.lo
  cb:=by obtain⟨a,h1,h2⟩:=s.cb;exact⟨a,by rw[e bo ω];exact h1,h2.mono λhb=>e o (by have:=G hb;omega)⟩
  c0:=by rw[e q ω];exact s.c0
  c2:=by obtain⟨a,h1,h2⟩:=s.c2;exact⟨a,by rw[e _ ω];exact h1,h2.mono λhb=>e oo (.inr ⟨λh=>hb (by rw[h];rfl),rfl⟩)⟩
  c3:=by obtain⟨w,h1⟩:=s.c3;exact⟨w,by rw[e _ ω];exact h1⟩
  c4:=by rw[e _ ω];exact s.c4
  c5:=by rw[e _ ω];exact s.c5
  next:=fJ s.next A
  nodes:=λD=>⟨(s.nodes D).1,iR (s.nodes D).2 A⟩ }
def VS.step {q bo p V V' oo D h'} (s:VS q bo p o B V oo h) (H:h.next<=h'.next) (e:∀j,j<q+6 ->j≠q+2 ->j≠q+3 ->h'.oB.get j=h.oB.get j)
 (c2:∃a,cG (h'.oB.get (q+2))=some [a,.i .i64 0]/\ gN h'.oB.get D (DM B V') a) (c3:yh (λn:Nat=>AV.i .i64 (n)) eN h' (q+3) (js V')) (A:V'≠[] ->q+6<=D/\ D<h'.next):VS q bo p o B V' D h':=by
 have I:=s.lb;have G:=s.lo;exact {
  lb:=s.lb
  lo:=s.lo
  cb:=by obtain⟨a,h1,h2⟩:=s.cb;exact⟨a,by rw[e bo ω ω ω];exact h1,h2.mono λhb=>e o (by have:=G hb;omega) (by have:=G hb;omega) (by have:=G hb;omega)⟩
  c0:=by rw[e q ω ω ω];exact s.c0
  c2:=c2
  c3:=c3
  c4:=by rw[e _ ω ω ω];exact s.c4
  c5:=by rw[e _ ω ω ω];exact s.c5
  next:=fJ s.next H
  nodes:=A }
variable {P:Program} {X:aR} {GL:T (List AV)} {ae:T au}
variable (S:aT P X GL ae) {C:aK Prop} (E:Sem P X GL ae C)
variable (F:bz8 ae)
def az1 {q bo p} (ok:OK B) (hl:B.length<=1000000):
 ∀d n V oo h k,3-bR B n<=d ->In B n ->Cl B V ->V.length+2^d<=1000000 ->VS q bo p o B V oo h ->
  (∀f7 h',VS q bo p o B (fu B d n V) f7 h' ->VF q V oo h (fu B d n V) f7 h' ->(fu B d n V).length+1<=V.length+2^d ->k (ι (nb (fu B d n V) n:Int)) h') ->
  du C 301 [.i .i64 (n),.p (q+4) 0,.p q 0,.p (q+5) 0,.p (q+2) 0] h k:=by
 intro d;induction d with
 |zero=>
  intro n V oo h k hd hn cl eQ s hk;obtain⟨nx,ver,ob⟩:=h;have n2:n<2:=by
   rcases hn.cases with h|⟨i,b,rfl,hb⟩;exact h;rw[gy hb] at hd;have:=ok.v _ _ hb;omega
  have c4:=s.c4;obtain⟨H,c3⟩:=s.c3;have lk:∀D ob' (ev:MA ->AV),T.get ob' (q+3)=some (.map H (di (λn:Nat=>AV.i .i64 (n:Int)) eN 0 (js V)) (js V).length) ->ev (.t 13)= .m (q+3) ->ev (.t 14)= .i .i64 (n:Int) ->
   step ev ⟨nx,D,ob'⟩ (.look (.lf .i) (.t 13) (.t 14) (ι 0) true)= .v (Bb eN (ι 0) (look n (js V))) ⟨nx,D,ob'⟩:=
   λD ob' ev U Y Z=>uQ (k:=n) (z:= .i .i64 0) lW (h:=⟨nx,D,ob'⟩) ⟨H,U⟩ Y Z
  have J:=D6 (n:=n) (V:=V) λm hm=>(cl.two m hm).1;rw[aF (.inl n2)] at J;rw[ke E.ok (E.get (F.g 301 Jj))];dsimp only at c4 c3;simp only[Jj,JN,KJ,Pt,↓dX E.ok,↓dE,↓dG,bI,dF,c4,c3,lk,J,Bb,eN,Nat.reduceEqDiff,Nat.reduceAdd,reduceIte,eZ,fY,go_sem];exact hk oo _ s ⟨bB _,λ_ _ _ _ _=>rfl,λh=> .inl ⟨h,rfl⟩⟩ (by simp[fu])
 |succ d ih=>
  intro n V oo h k hd hn cl eQ s hk;obtain⟨nx,ver,ob⟩:=h;have pw:2^(d+1)=2*2^d:=Cq;have i9:1<=2^d:=Co;have c4:=s.c4;obtain⟨H,c3⟩:=s.c3;have lk:∀D ob' (ev:MA ->AV),T.get ob' (q+3)=some (.map H (di (λn:Nat=>AV.i .i64 (n:Int)) eN 0 (js V)) (js V).length) ->ev (.t 13)= .m (q+3) ->ev (.t 14)= .i .i64 (n:Int) ->
   step ev ⟨nx,D,ob'⟩ (.look (.lf .i) (.t 13) (.t 14) (ι 0) true)= .v (Bb eN (ι 0) (look n (js V))) ⟨nx,D,ob'⟩:=
   λD ob' ev U Y Z=>uQ (k:=n) (z:= .i .i64 0) lW (h:=⟨nx,D,ob'⟩) ⟨H,U⟩ Y Z
  have J:=D6 (n:=n) (V:=V) λm hm=>(cl.two m hm).1;rw[ke E.ok (E.get (F.g 301 Jj))];dsimp only at c4 c3;by_cases N:n<2∨n∈V;rw[aF N] at J;simp only[Jj,JN,KJ,Pt,↓dX E.ok,↓dE,↓dG,bI,dF,c4,c3,lk,J,Bb,eN,Nat.reduceEqDiff,Nat.reduceAdd,reduceIte,eZ,fY,go_sem];have e:fu B (d+1) n V=V:=by simp only[fu,aF N]
  rw[e] at hk;exact hk oo _ s ⟨bB _,λ_ _ _ _ _=>rfl,λh=> .inl ⟨h,rfl⟩⟩ ω
  ·rw[aD N] at J;rcases hn.cases with h|⟨i,b,rfl,hb⟩;exact bh (.inl h) N;have e:fu B (d+1) (i+2) V=fu B d b.2.2 (fu B d b.2.1 V)++[i+2]:=by simp only[fu,aD N,show i+2-2=i by omega,hb]
   rw[e] at hk;rw[gy hb] at hd;have l1:=ok.l _ _ hb;have l2:=ok.h _ _ hb;have hi:=In.of hb;have i1:In B b.2.1:=by unfold In at*;omega
   have i2:In B b.2.2:=by unfold In at*;omega
   have aV:i<B.length:=(eC.1 hb).1;have hB:B≠[]:=λh=>by rw[h] at aV;simp at aV
   obtain⟨ab,cb,g6⟩:=s.cb;rcases g6 with ⟨h1,_⟩|⟨_,rfl,g8,cB⟩;exact bh h1 hB;have c0:=s.c0;have c5:=s.c5;have i3:=s.lb;have i4:=s.lo hB;have i8:q+6<=nx:=s.next;have d0:V≠[] ->q+6<=oo/\ oo<nx:=s.nodes;have e4:sub (dK B) (i*3) 3=some [.i .i64 (b.1:Int),.i .i64 (b.2.1:Int),.i .i64 (b.2.2:Int)]:=by have:=nQ hb 0 3 ω;simpa[gH] using this
   have es:aY .sub (ι ((i+2:Nat):Int)) (ι 2)=some (ι (i:Int)):=by rw[rX ω];congr 2;omega
   dsimp only at cb c0 c5 cB;simp(disch:=first|omega|(simp(disch:=omega) only[dh,oD,T.get_put,c3,pN,Nat.reduceEqDiff,reduceIte];done)) only[Jj,JN,KJ,Pt,aG4,aG7,aG5,↓dX E.ok,↓dE,↓dG,bI,dF,c4,cb,c0,c5,cB,e4,es,aV,lk,J,Bb,Nat.reduceAdd,reduceIte,eZ,fY,go_sem];have s0:VS q bo p o B V oo ⟨nx+1,ver+1,(ob.put nx (.cells ver [.i .i64 0,.i .i64 0,.i .i64 0])).put nx (.cells (ver+1) [.i .i64 (b.1:Int),.i .i64 (b.2.1:Int),.i .i64 (b.2.2:Int)])⟩:=
    s.mono (by show nx<=nx+1;omega) λj hj=>by
     have m9:¬j=nx:=by
      rcases hj with h|⟨h,rfl⟩;omega;have:=d0 h;omega
     simp only[T.get_put,aD m9]
   refine E.run (ih b.2.1 V oo _ _ ω i1 cl ω s0 ?_);rintro f8 ⟨d1,g7,aQ⟩ s1 f1 b5;generalize d4:fu B d b.2.1 V=V1 at s1 f1 b5 e hk;obtain⟨c7,m1⟩:=yq ok d b.2.1 V cl i1 ω;rw[d4] at c7 m1;have x1:cG (aQ.get nx)=some [.i .i64 (b.1:Int),.i .i64 (b.2.1:Int),.i .i64 (b.2.2:Int)]:=by
    rw[show aQ.get nx=_ from f1.same nx (by show nx<nx+1;omega) ω ω (λhv=>by have:=d0 hv;omega)];simp only[T.get_put,dZ,d9]
   have d2:=s1.c5;dsimp only at d2;simp(disch:=omega) only[aG6,↓dX E.ok,↓dE,↓dG,bI,dF,x1,d2,reduceIte,go_sem];have g1:V1.length+1<=V.length+2^d:=b5;refine E.run (ih b.2.2 V1 f8 _ _ ω i2 c7 ω s1 ?_);rintro O ⟨A,b7,aJ⟩ s2 f2 b6;generalize b2:fu B d b.2.2 V1=V2 at s2 f2 b6 e hk;obtain⟨b1,m2⟩:=yq ok d b.2.2 V1 c7 i2 ω;rw[b2] at b1 m2;have dS:nx+1<=d1:=f1.next;have i5:d1<=A:=f2.next;have x2:cG (aJ.get nx)=some [.i .i64 (b.1:Int),.i .i64 (b.2.1:Int),.i .i64 (b.2.2:Int)]:=by
    rw[show aJ.get nx=_ from f2.same nx (by show nx<d1;omega) ω ω (λhv=>by
     rcases f1.new hv with ⟨h5,h6⟩|h5;have:=d0 h5;omega;have h9:nx+1<=f8:=h5;omega)]
    exact x1
   have b4:i+2∉V2:=by have:=Pb ok (d:=d) hb (V:=V) (λh=>N (.inr h));rw[d4,b2] at this;exact this
   have d3:=f1.trans f2;have g4:=s2.next;dsimp only at g4;have d6:V2≠[] ->q+6<=O/\ O<A:=s2.nodes;obtain⟨a2,c2,f0⟩:=s2.c2;obtain⟨b0,b8⟩:=s2.c3;have c6:=s2.c4;dsimp only at c2 b8 c6 f0;have i0:V2.length+1<=V1.length+2^d:=b6;have g2:V2.length+1<=V.length+2^(d+1)-1:=by omega
   have g3:look (i+2) (js V2)=none:=by rw[D6 λm hm=>(b1.two m hm).1,aD (λh=>h.elim ω b4)]
   have g5:ups (i+2) (V2.length+2) (js V2)=js (V2++[i+2]):=by rw[yg g3,az0]
   have L:DM B (V2++[i+2])=DM B V2++[(b.1,nb V2 b.2.1,nb V2 b.2.2)]:=O9 b1 (by rw[show i+2-2=i by omega];exact hb) (by
    rcases m1 with h|h;exact .inl h;right;rw[←b2];obtain⟨W,hW⟩:=Dy (B:=B) d b.2.2 V1;rw[hW];exact xI _ h) m2
   have b3:nb V1 b.2.1=nb V2 b.2.1:=by rw[←b2];obtain⟨W,hW⟩:=Dy (B:=B) d b.2.2 V1;rw[hW,wM m1]
   have R:nb (V2++[i+2]) (i+2)=V2.length+2:=Ht ω b4;have d5:look (i+2) (js (V2++[i+2]))=some (V2.length+2):=by
    rw[D6 λm hm=>(fO.1 hm).elim (λh=>(b1.two m h).1) (λh=>by rw[yC.1 h];omega),aF (.inr (by simp)),R]
   have mu:∀D ob' (ev:MA ->AV),T.get ob' (q+3)=some (.map b0 (di (λn:Nat=>AV.i .i64 (n:Int)) eN 0 (js V2)) (js V2).length) ->ev (.t 46)= .m (q+3) ->ev (.t 47)= .i .i64 ((i+2:Nat):Int) ->ev (.t 51)= .i .i64 ((V2.length+2:Nat):Int) ->
    step ev ⟨A+1+1,D,ob'⟩ (.mupd (.lf .i) (.t 46) (.t 47) (.t 51))= .v .un ⟨A+1+1,D+1,ob'.put (q+3) (.map (D+1) (di (λn:Nat=>AV.i .i64 (n:Int)) eN 0 (js (V2++[i+2]))) (js (V2++[i+2])).length)⟩:=
    λD ob' ev U Y Z q4=>by
     have:=mL (k:=i+2) (v:=V2.length+2) (en:=eN) lW (h:=⟨A+1+1,D,ob'⟩) ⟨b0,U⟩ Y Z q4;rw[g5] at this;exact this
   have d8:∀D ob' (ev:MA ->AV),mG (T.get ob' (q+3))=some (di (λn:Nat=>AV.i .i64 (n:Int)) eN 0 (js (V2++[i+2])),(js (V2++[i+2])).length) ->ev (.t 52)= .m (q+3) ->ev (.t 53)= .i .i64 ((i+2:Nat):Int) ->
    step ev ⟨A+1+1,D,ob'⟩ (.look (.lf .i) (.t 52) (.t 53) (ι 0) false)= .v (ι ((V2.length+2:Nat):Int)) ⟨A+1+1,D,ob'⟩:=
    λD ob' ev U Y Z=>by
     have:=sd (k:=i+2) (z:= .i .i64 0) (en:=eN) lW (h:=⟨A+1+1,D,ob'⟩) (fT.2 U) Y Z;rw[d5] at this;exact this
   rcases f0 with ⟨hO,rfl⟩|⟨hO,rfl,h7,cO⟩
   ·have G:V2=[]:=by have:=congrArg List.length hO;rw[uV] at this;exact pM this
    have ad:aY .add (ι ((1:Nat):Int)) (ι 1)=some (ι ((V2.length+2:Nat):Int)):=by rw[wD ω];rw[G];rfl
    have f9:∀D ob' (ev:MA ->AV),cG (T.get ob' A)=some [.i .i64 (b.1:Int),.i .i64 (nb V1 b.2.1:Int),.i .i64 (nb V2 b.2.2:Int)] ->ev (.t 37)= .sn ->ev (.t 43)= .sl A 0 1 (some 1) 3 ->
     step ev ⟨A+1,D,ob'⟩ (.app (.t 37) (.t 43) 3 24)= .v (.sl (A+1) 0 1 none 3) ⟨A+1+1,D,ob'.put (A+1) (.cells D [.i .i64 (b.1:Int),.i .i64 (nb V1 b.2.1:Int),.i .i64 (nb V2 b.2.2:Int)])⟩:=
     λD ob' ev U Y Z=>Hf (h:=⟨A+1,D,ob'⟩) Y Z (wG.trans U) rfl rfl
    simp(disch:=first|omega|(simp(disch:=omega) only[dh,oD,T.get_put,b8,d9,oI,pN,Nat.reduceEqDiff,reduceIte];done)) only[QK,QL,QM,f9,mu,d8,ad,↓dX E.ok,↓dE,↓dG,bI,dF,x2,c2,c6,Nat.reduceAdd,reduceIte,go_sem];rw[←R];refine hk (A+1) _ (s2.step (by show A<=A+1+1;omega) (λj h1 h2 h3=> ?_) ⟨.sl (A+1) 0 1 none 3,?_,.inr ⟨by rw[L];simp,?_,b7,?_⟩⟩ ?_ (λ_=>⟨by omega,by show A+1<A+1+1;omega⟩))
     (VF.trans (VF.trans (⟨by show nx<=nx+1;omega,λj h1 _ _ _=> ?_,λh=> .inl ⟨h,rfl⟩⟩:VF q V oo ⟨nx,ver,ob⟩ V oo _) d3) ⟨by show A<=A+1+1;omega,λj h1 h2 h3 h4=> ?_,λ_=> .inr (by show A<=A+1;omega)⟩) (by simp only[dy,lF];omega)
    simp(disch:=omega) only[dh,T.get_put,bV];simp(disch:=omega) only[dh,T.get_put,bV,dZ,d9];rw[uV,G];rfl;simp(disch:=omega) only[dh,T.get_put,bV,dZ];rw[L,hO,b3];rfl;exact fT.2 (by simp(disch:=omega) only[dh,T.get_put,bV,dZ,oI]);have I:¬j=nx:=by have I:j<nx:=h1;omega
    simp only[T.get_put,aD I];have I:j<A:=h1;simp(disch:=omega) only[dh,T.get_put,bV]
   ·have G:V2≠[]:=λh=>hO (by rw[h];rfl);have i6:=d6 G;rw[uV] at c2;have ad:aY .add (ι ((V2.length+1:Nat):Int)) (ι 1)=some (ι ((V2.length+2:Nat):Int)):=by rw[wD ω];congr 2
    have g0:∀D ob' (ev:MA ->AV),cG (T.get ob' A)=some [.i .i64 (b.1:Int),.i .i64 (nb V1 b.2.1:Int),.i .i64 (nb V2 b.2.2:Int)] ->cG (T.get ob' O)=some (dK (DM B V2)) ->ev (.t 37)= .sl O 0 V2.length none 3 ->ev (.t 43)= .sl A 0 1 (some 1) 3 ->
     step ev ⟨A+1,D,ob'⟩ (.app (.t 37) (.t 43) 3 24)= .v (.sl (A+1) 0 (V2.length+1) none 3) ⟨A+1+1,D+1,(ob'.put O .gone).put (A+1) (.cells (D+1) (dK (DM B V2)++[.i .i64 (b.1:Int),.i .i64 (nb V1 b.2.1:Int),.i .i64 (nb V2 b.2.2:Int)]))⟩:=
     λD ob' ev U q0 Y Z=>He (h:=⟨A+1,D,ob'⟩) Y (wG.trans q0) (by rw[DZ,uV]) Z (wG.trans U) rfl rfl ω
    simp(disch:=first|omega|(simp(disch:=omega) only[dh,oD,T.get_put,b8,cO,d9,oI,pN,Nat.reduceEqDiff,reduceIte];done)) only[QK,QL,QM,g0,mu,d8,ad,↓dX E.ok,↓dE,↓dG,bI,dF,x2,c2,c6,Nat.reduceAdd,reduceIte,go_sem];rw[←R];refine hk (A+1) _ (s2.step (by show A<=A+1+1;omega) (λj h1 h2 h3=> ?_) ⟨.sl (A+1) 0 (V2.length+1) none 3,?_,.inr ⟨by rw[L];simp,?_,b7+1,?_⟩⟩ ?_ (λ_=>⟨by omega,by show A+1<A+1+1;omega⟩))
     (VF.trans (VF.trans (⟨by show nx<=nx+1;omega,λj h1 _ _ _=> ?_,λh=> .inl ⟨h,rfl⟩⟩:VF q V oo ⟨nx,ver,ob⟩ V oo _) d3) ⟨by show A<=A+1+1;omega,λj h1 h2 h3 h4=> ?_,λ_=> .inr (by show A<=A+1;omega)⟩) (by simp only[dy,lF];omega)
    simp(disch:=omega) only[dh,T.get_put,bV];simp(disch:=omega) only[dh,T.get_put,bV,dZ,d9];rw[uV];simp;simp(disch:=omega) only[dh,T.get_put,bV,dZ];rw[L,b3,Ix];rfl;exact fT.2 (by simp(disch:=omega) only[dh,T.get_put,bV,dZ,oI]);have I:¬j=nx:=by have I:j<nx:=h1;omega
    simp only[T.get_put,aD I];have I:j<A:=h1;have h8:j≠O:=h4 G;simp(disch:=omega) only[dh,T.get_put,bV]
def az2 {bo p m ver r ob a0} (ok:OK B) (hl:B.length<=1000000) (W:In B r) (cb:cG (ob.get bo)=some [a0,.m p]) (na:gN ob.get o B a0) (hb:bo<m) (V:B≠[] ->o<m)
 (k) (hk:∀a oo h',gN h'.oB.get oo (aE (tr B 3 r)).1 a ->m<=h'.next ->(∀j,j<m ->h'.oB.get j=ob.get j) ->(aE (tr B 3 r)).1.length<=7 ->(a= .sn∨(m<=oo/\ oo<h'.next)) ->k (.ag [a,.i .i64 ((aE (tr B 3 r)).2:Int)]) h'):
 du C 193 [.p bo 0,.i .i64 (r)] ⟨m,ver,ob⟩ k:=by
 have wO:ff (ι 0)=some 0:=rfl;have mu:∀A ob' (τ:T AV),mG (T.get ob' (m+1+1+1))=some ([],0) ->az C τ (.t 9)= .m (m+1+1+1) ->
  step (az C τ) ⟨m+1+1+1+1,A,ob'⟩ (.mupd (.lf .i) (.t 9) (.c (ι 0)) (.c (ι 0)))= .v .un ⟨m+1+1+1+1,A+1,ob'.put (m+1+1+1) (.map (A+1) (di (λn:Nat=>AV.i .i64 (n:Int)) eN 0 [(0,0)]) 1)⟩:=
  λA ob' τ R U=>mL (k:=0) (v:=0) (en:=eN) (l:=[]) lW (h:=⟨m+1+1+1+1,A,ob'⟩) (fT.2 R) U rfl rfl
 have O:∀A ob' (τ:T AV),mG (T.get ob' (m+1+1+1))=some (di (λn:Nat=>AV.i .i64 (n:Int)) eN 0 [(0,0)],1) ->az C τ (.t 9)= .m (m+1+1+1) ->
  step (az C τ) ⟨m+1+1+1+1,A,ob'⟩ (.mupd (.lf .i) (.t 9) (.c (ι 1)) (.c (ι 1)))= .v .un ⟨m+1+1+1+1,A+1,ob'.put (m+1+1+1) (.map (A+1) (di (λn:Nat=>AV.i .i64 (n:Int)) eN 0 [(0,0),(1,1)]) 2)⟩:=
  λA ob' τ R U=>mL (k:=1) (v:=1) (en:=eN) (l:=[(0,0)]) lW (h:=⟨m+1+1+1+1,A,ob'⟩) (fT.2 R) U rfl rfl
 rw[ke E.ok (E.get (F.g 193 bR3))];simp(disch:=first|omega|(simp(disch:=omega) only[dh,oD,tB,T.get_put,oI,pN,Nat.reduceEqDiff,reduceIte];done)) only[bR3,aq7,as1,as2,aw1,az7,aG3,mu,O,↓dX E.ok,↓dE,↓dG,bI,dF,Nat.reduceAdd,reduceIte,go_sem];refine E.run (az1 (q:=m) (bo:=bo) (p:=p) (o:=o) E F ok hl 3 r [] 0 _ _ ω W Cl.nil (by simp) ⟨hb,V,⟨a0,?_,na.mono λh=> ?_⟩,?_,⟨.sn,?_,.inl ⟨rfl,rfl⟩⟩,fT.2 ?_,?_,?_,?_,?_⟩ ?_);simp(disch:=omega) only[dh,T.get_put,bV];exact cb;have:=V h;simp(disch:=omega) only[dh,T.get_put,bV];simp(disch:=omega) only[dh,T.get_put,bV,dZ,d9];simp(disch:=omega) only[dh,T.get_put,bV,dZ,d9];simp(disch:=omega) only[dh,T.get_put,bV,dZ,oI];rfl;simp(disch:=omega) only[dh,T.get_put,bV,dZ,d9];simp(disch:=omega) only[dh,T.get_put,bV,dZ,d9];exact bB _;exact λh=>bh rfl h;rintro oo ⟨H,Y,J⟩ I f2 G;obtain⟨a,c2,nA⟩:=I.c2;have b2:m+6<=H:=I.next;have D:=Pe ok W (d:=3) ω;have Z:cG (J.get (m+1))=some [.sn,.i .i64 0]:=by
  rw[show J.get (m+1)=_ from f2.same (m+1) (by show m+1<m+1+1+1+1+1+1;omega) ω ω (λh=>bh rfl h)];simp(disch:=omega) only[dh,T.get_put,bV,dZ,d9]
 dsimp only at c2;have sa:ew a=true:=by rcases nA with ⟨_,rfl⟩|⟨_,rfl,_⟩<;>rfl
 simp(disch:=omega) only[az8,↓dX E.ok,↓dE,↓dG,bI,dF,c2,Z,sa,Nat.reduceAdd,reduceIte,eZ,fY,go_sem];have e1:DM B (fu B 3 r [])=(aE (tr B 3 r)).1:=congrArg Prod.fst D;have e2:nb (fu B 3 r []) r=(aE (tr B 3 r)).2:=congrArg Prod.snd D;rw[e2];have L:a= .sn∨(m<=oo/\ oo<H):=by
  rcases nA with ⟨_,h⟩|⟨h,_⟩;exact .inl h;have h2:m+6<=oo/\ oo<H:=I.nodes (λN=>h (by rw[N];rfl));exact .inr ω
 rw[e1] at nA;refine hk a oo _ (nA.mono λh=> ?_) (by show m<=H;omega) (λj hj=> ?_) (by rw[←e1,uV];have:(fu B 3 r []).length+1<=0+2^3:=G;omega) L;have b0:m+6<=oo:=(I.nodes (λN=>h (by rw[←e1,N];rfl))).1;simp(disch:=omega) only[dh,T.get_put,bV];simp(disch:=omega) only[dh,T.get_put,bV];rw[show J.get j=_ from f2.same j (by show j<m+1+1+1+1+1+1;omega) ω ω (λh=>bh rfl h)];simp(disch:=omega) only[dh,T.get_put,bV]
variable {t:Tr}
def az3 {NA NB ra rb O g} (b0:yH C O g) (dC:OK NA) (b2:OK NB) (la:NA.length<=4096) (lb:NB.length<=4096) (ia:In NA ra) (ib:In NB rb)
 {ver ob} (c5:cG (ob.get 5)=some [O]) (ht:cY g (tr NA 3 ra) (tr NB 3 rb)=t) (k)
 (hk:∀a oo h',gN h'.oB.get oo (aE t).1 a ->17<=h'.next ->(∀j,j<8 ->h'.oB.get j=ob.get j) ->(aE t).1.length<=7 ->(a= .sn∨(17<=oo/\ oo<h'.next)) ->k (.ag [a,.i .i64 ((aE t).2:Int)]) h'):
 du C 405 [.ag [tp NA,.i .i64 (ra),tp NB,.i .i64 (rb),.sn,.i .i64 0],.f 406 [] [.p 5 0]] ⟨8,ver,ob⟩ k:=by
 have wO:ff (ι 0)=some 0:=rfl;have yI:ff (ι 1)=some 1:=rfl;have Bj:ff (ι 2)=some 2:=rfl;rw[ke E.ok (E.get (F.g 405 aK3))];simp(disch:=omega) only[aK3,YB,YK,↓dX E.ok,↓dE,↓dG,bI,dF,Nat.reduceAdd,reduceIte,go_sem];refine E.run ?_;rw[ke E.ok (E.get (F.g 486 DY))];simp(disch:=omega) only[DY,Zu,YL,Zd,Ze,Zp,↓dX E.ok,↓dE,↓dG,bI,dF,Nat.reduceEqDiff,Nat.reduceAdd,Nat.reduceMul,Nat.reduceShiftRight,Nat.reduceAnd,Nat.reduceBneDiff,reduceIte,eZ,fY,go_sem];have b6:2^(3-min (bR NA ra) (bR NB rb))<=2^3:=rJ ω ω;refine E.run (ax2 (ra:=ra) (rb:=rb) S E F b0 dC b2 la lb _ ra rb [] 11 [] _ _ rfl ia ib ⟨⟨fT.2 ?_,ver,.sn,?_,.inl ⟨rfl,rfl⟩⟩,?_,?_,?_,?_,fT.2 ?_,?_,?_,?_,λh=>bh rfl h⟩ ⟨by simp,by simp,by simp,by simp,by simp⟩ (λx y r h=>by simp[look] at h) (by simp only[ji];omega) (.inl rfl) (λ_=>rfl) ?_);simp only[T.get_put,Nat.reduceEqDiff,reduceIte,oI];rfl;simp only[T.get_put,Nat.reduceEqDiff,reduceIte];simp only[T.get_put,Nat.reduceEqDiff,reduceIte];exact c5;simp only[T.get_put,Nat.reduceEqDiff,reduceIte,d9];simp only[T.get_put,Nat.reduceEqDiff,reduceIte,d9];simp only[T.get_put,Nat.reduceEqDiff,reduceIte,d9];simp only[T.get_put,Nat.reduceEqDiff,reduceIte,oI];rfl;simp only[T.get_put,Nat.reduceEqDiff,reduceIte,d9];simp only[T.get_put,Nat.reduceEqDiff,reduceIte,d9];exact bB _;rintro r B o M ⟨n1,b3,G⟩ cs cf ok mo _ N ho _ R;have d8:=cs.c8;have A:=cs.c13;have H:=cs.c16;dsimp only at d8 A H;simp only[A,↓dE,↓dG,bI,dF,Nat.reduceEqDiff,Nat.reduceAdd,Nat.reduceMul,Nat.reduceLT,Nat.reduceShiftRight,Nat.reduceAnd,Nat.reduceBneDiff,reduceIte,go_sem];obtain⟨_,b5,a0,I,Z⟩:=cs.bs;have dS:17<=n1:=cs.next;have b1:tr B 3 r=t:=by
  have:=(R.2 3 ω ω ω).2;rw[this];exact ht
 refine E.run (az2 (p:=11) E F ok (by have h1:B.length+1<=0+2^(3-min (bR NA ra) (bR NB rb)):=N;omega) R.1 (by rw[show T.get G 12=_ from I];rfl) Z (by show 12<n1;omega) (λh=>(cs.nodes h).2) _ ?_);rw[b1];rintro a oo ⟨n2,b4,D⟩ na Y same L J;have f8:cG (D.get 8)=_:=(congrArg cG (same 8 (by show 8<n1;omega))).trans d8;have V:cG (D.get 13)=_:=(congrArg cG (same 13 (by show 13<n1;omega))).trans A;have W:cG (D.get 16)=_:=(congrArg cG (same 16 (by show 16<n1;omega))).trans H;have U:cG (D.get 10)=some [.sn,.i .i64 0]:=by
  rw[show D.get 10=G.get 10 from same 10 (by show 10<n1;omega),show G.get 10=_ from cf.old 10 ω];simp only[T.get_put,Nat.reduceEqDiff,reduceIte,d9]
 have sa:ew a=true:=by rcases na with ⟨_,rfl⟩|⟨_,rfl,_⟩<;>rfl
 simp only[↓dE,↓dG,bI,dF,Nat.reduceEqDiff,Nat.reduceAdd,Nat.reduceMul,Nat.reduceLT,Nat.reduceShiftRight,Nat.reduceAnd,Nat.reduceBneDiff,reduceIte,f8,V,W,U,sa,go_sem];refine hk a oo _ (na.mono λh=> ?_) (by show 17<=n2;have h2:n1<=n2:=Y;omega) (λj hj=> ?_) L (J.imp id λh=>⟨by have h2:n1<=oo:=h.1;omega,h.2⟩);rcases J with rfl|⟨h1,h2⟩;rcases na with ⟨h1,_⟩|⟨_,h1,_⟩;exact bh h1 h;cases h1;have h3:n1<=oo:=h1;simp(disch:=omega) only[dh,T.get_put,bV];simp(disch:=omega) only[dh,T.get_put,bV];rw[show D.get j=G.get j from same j (by show j<n1;omega),show G.get j=_ from cf.old j ω];simp(disch:=omega) only[dh,T.get_put,bV]
def tN:ew (tp B)=true:=by cases B<;>rfl
def Bk (P:Program) (X:aR) (GL:T (List AV)) (d:List Br×Nat):Prop:=∀h,bP P X GL 104 [eD d] h (ι 0) h
def az4 {a b} (H:Bk P X GL a) (hb:Bk P X GL b) (A:cG (h.oB.get o)=some [tp a.1,.i .i64 (a.2:Int),tp b.1,.i .i64 (b.2:Int)]):
 bP P X GL 403 [.sl o 0 2 (some 2) 2] h (ι 0) h:=by
 have I:bg P X GL ae 403 [.ds [tp a.1,.i .i64 (a.2:Int),tp b.1,.i .i64 (b.2:Int)] 0 2 2] (ι 0):=by
  refine bg.intro λC E=> ?_;have wO:ff (ι 0)=some 0:=rfl;have yI:ff (ι 1)=some 1:=rfl;have D:aY .add (ι 0) (ι 1)=some (ι 1):=by rw[wD ω];rfl
  have G:aY .add (ι 1) (ι 1)=some (ι 2):=by rw[wD ω];rfl
  have c2:((2:Nat):Int)=2:=rfl;have yJ:((0:Nat):Int)=0:=rfl;rw[ke E.ok (E.get (F.g 403 QZ))];generalize j:aw.loop AX=L;simp only[QZ,aG9,aG8,j,↓dX E.ok,↓dE,↓dG,bI,dF,Nat.reduceEqDiff,reduceIte,h0,c2,go_sem];subst j;rw[uM E.ok];generalize j:aw.loop AX=L;simp only[AX,PC,Rv,Rp,Rq,Rs,tN,Int.reduceLT,↓dX E.ok,↓dE,↓dG,bI,dF,Nat.reduceEqDiff,Nat.reduceAdd,Nat.reduceLT,reduceIte,eZ,fY,go_sem];refine E.cN (H _) ?_;simp only[RA,D,↓dX E.ok,↓dE,↓dG,bI,dF,Nat.reduceEqDiff,reduceIte,jk,go_sem];subst j;rw[uM E.ok];generalize j:aw.loop AX=L;simp only[AX,PC,Rv,Rp,Rq,Rs,tN,Int.reduceLT,↓dX E.ok,↓dE,↓dG,bI,dF,Nat.reduceEqDiff,Nat.reduceAdd,Nat.reduceLT,reduceIte,go_sem];refine E.cN (hb _) ?_;simp only[RA,G,↓dX E.ok,↓dE,↓dG,bI,dF,Nat.reduceEqDiff,reduceIte,jk,go_sem];subst j;rw[uM E.ok];generalize j:aw.loop AX=L;simp only[AX,PC,Int.reduceLT,↓dX E.ok,↓dE,↓dG,bI,dF,Nat.reduceEqDiff,reduceIte,go_sem];exact⟨1,rfl⟩
 refine oE S I (n:=9) (m:=1) ?_ rfl;have e:deep 9 h (.sl o 0 2 (some 2) 2)=(match h.oB.get o with
  |some (.cells _ l)=>match eM (deep 8 h) l with|some l=>some (.ds l 0 2 2)|none=>none
  |_=>none):=rfl
 have hd:∀B:List Br,deep 8 h (tp B)=some (tp B):=λB=>by
  rcases B with _|⟨b,B⟩;rfl;have e:deep 8 h (.ds (dK (b::B)) 0 (b::B).length 3)=(match bJ 7 h (dK (b::B)) with|some l=>some (.ds l 0 (b::B).length 3)|none=>none):=rfl;show deep 8 h (.ds (dK (b::B)) 0 (b::B).length 3)=_;rw[e,YR];rfl
 have e2:∃v,h.oB.get o=some (.cells v [tp a.1,.i .i64 (a.2:Int),tp b.1,.i .i64 (b.2:Int)]):=by
  generalize h.oB.get o=x at A
  match x with
  |some (.cells v l)=>exact⟨v,by rw[d9] at A;cases A;rfl⟩
  |none=>cases A
  |some (.map _ _ _)=>cases A
  |some .gone=>cases A
 obtain⟨v,e2⟩:=e2;rw[aL,e,e2];simp only[lJ,tg,hd,deep]
attribute [go_sem] tN
def Rd {NA NB ra rb A g} (I:yH C A g) (L:ew A=true) (dC:OK NA) (J:OK NB) (la:NA.length<=4096) (lb:NB.length<=4096) (ia:In NA ra) (ib:In NB rb)
 (ca:Bk P X GL (NA,ra)) (cb:Bk P X GL (NB,rb)) {ver ob} (ht:cY g (tr NA 3 ra) (tr NB 3 rb)=t) (k)
 (Z:∀a oo h',gN h'.oB.get oo (aE t).1 a ->(∀j,j<3 ->h'.oB.get j=ob.get j) ->(a= .sn∨17<=oo) ->k (.tu [.ag [a,.i .i64 ((aE t).2:Int)],.i .i64 0]) h'):
 du C 270 [eD (NA,ra),eD (NB,rb),A] ⟨3,ver,ob⟩ k:=by
 have wO:ff (ι 0)=some 0:=rfl;have yI:ff (ι 1)=some 1:=rfl;have Bj:ff (ι 2)=some 2:=rfl;have V:cellsO A=some [A]:=by cases A<;>first|rfl|cases L
 rw[ke E.ok (E.get (F.g 270 Bh))];simp(disch:=omega) only[↓dX E.ok,↓dE,↓dG,bI,dF,Nat.reduceAdd,reduceIte,Bh,ac1,ac2,ac7,ac6,ac8,eD,V,go_sem];refine E.cN (az4 S F ca cb ?_) ?_;simp only[T.get_put,Nat.reduceEqDiff,reduceIte,d9];simp(disch:=omega) only[↓dX E.ok,↓dE,↓dG,bI,dF,Nat.reduceAdd,reduceIte,go_sem];refine E.run (az3 S E F I dC J la lb ia ib ?_ ht _ ?_);simp only[T.get_put,Nat.reduceEqDiff,reduceIte,d9];rintro a oo ⟨n1,U,H⟩ G W same R D;have O:17<=n1:=W;have sa:ew a=true:=by rcases G with ⟨_,rfl⟩|⟨_,rfl,_⟩<;>rfl
 have st:∀(τ:T AV) v' N x,az C τ x=a ->step (az C τ) ⟨n1+1+1,v',N⟩ (.len .slice x)= .v (ι ((aE t).1.length:Int)) ⟨n1+1+1,v',N⟩:=by
  intro τ v' N x hx;rw[yd,hx];rcases G with ⟨h,rfl⟩|⟨_,rfl,_⟩;rw[h];rfl;rfl
 have f6:cG (H.get 6)=some [.sn,.i .i64 0]:=by
  rw[show H.get 6=_ from same 6 ω];simp only[T.get_put,Nat.reduceEqDiff,reduceIte,d9]
 refine E.run ?_;rw[ke E.ok (E.get (F.g 404 Is))];have Y:∀(x:Nat),aY .gtr (ι (x:Int)) (ι 4096)=some (.b (decide ((4096:Int)<(x:Int)))):=λx=>Q9;simp(disch:=first|omega|(simp(disch:=omega) only[dh,oD,T.get_put,pN,Nat.reduceEqDiff,reduceIte];done)) only[↓dX E.ok,↓dE,↓dG,bI,dF,Nat.reduceAdd,reduceIte,Is,Zv,ZB,ZE,ZH,sa,st,Y,f6,eZ,fY,go_sem];refine Z a oo _ (G.mono λh=> ?_) (λj hj=> ?_) (D.imp id λh=>h.1);rcases D with rfl|⟨h1,h2⟩;rcases G with ⟨h1,_⟩|⟨_,h1,_⟩;exact bh h1 h;cases h1;have h3:oo<n1:=h2;simp(disch:=omega) only[dh,T.get_put,bV];simp(disch:=omega) only[dh,T.get_put,bV];rw[show H.get j=_ from same j ω];simp(disch:=omega) only[dh,T.get_put,bV]
def Re {a} (j:gN h.oB.get o B a):deep 8 h a=some (tp B):=by
 rcases j with ⟨rfl,rfl⟩|⟨hb,rfl,v,e⟩;rfl;have e1:deep 8 h (.sl o 0 B.length none 3)=(match h.oB.get o with
  |some (.cells _ l)=>match bJ 7 h l with|some l=>some (.ds l 0 B.length 3)|none=>none
  |_=>none):=rfl
 rw[e1,e];dsimp only;rw[YR];rcases B with _|⟨_,_⟩;exact bh rfl hb;rfl
def Rf {d a} (j:gN h.oB.get o d.1 a) {b} (hb:deep 9 h b=some b):deep 10 h (.tu [.ag [a,.i .i64 (d.2:Int)],b])=some (.tu [eD d,b]):=by
 have e1:deep 10 h (.tu [.ag [a,.i .i64 (d.2:Int)],b])=(match bJ 9 h [.ag [a,.i .i64 (d.2:Int)],b] with|some l=>some (AV.tu l)|none=>none):=rfl;have e2:deep 9 h (.ag [a,.i .i64 (d.2:Int)])=(match bJ 8 h [a,.i .i64 (d.2:Int)] with|some l=>some (AV.ag l)|none=>none):=rfl;have e3:deep 8 h (ι (d.2:Int))=some (ι (d.2:Int)):=rfl;rw[e1];simp only[aL,bZ,e2,e3,Re j,hb,eD]
structure jt (P:Program) (X:aR) (GL:T (List AV)) (t:Tr):Prop where
 ok:OK (aE t).1
 in_:In (aE t).1 (aE t).2
 tr:tr (aE t).1 3 (aE t).2=t
 len:(aE t).1.length<=7
 chk:Bk P X GL (aE t)
def eT (t:Tr):AV:=eD (aE t)
def jB h t:deep 9 h (eT t)=some (eT t):=qU h _
def az5 {s} (ds:jt P X GL s) (j:jt P X GL t):bg P X GL ae 158 [eT s,eT t] (.tu [eT (cY (λx y=>x&&y) s t),.i .i64 0]):=by
 refine bg.intro λC E=> ?_;have wO:ff (ι 0)=some 0:=rfl;have yI:ff (ι 1)=some 1:=rfl;have Bj:ff (ι 2)=some 2:=rfl;have I:=ds.tr;have J:=j.tr;rw[ke E.ok (E.get (F.g 158 QG))];simp(disch:=omega) only[↓dX E.ok,↓dE,↓dG,bI,dF,Nat.reduceAdd,reduceIte,QG,bB2,bB3,eT,eD,h0,go_sem];refine E.run (Rd S E F (aw6 E F) rfl ds.ok j.ok (by have:=ds.len;omega) (by have:=j.len;omega) ds.in_ j.in_ ds.chk j.chk (by rw[I,J]) _ ?_);rintro a oo ⟨n1,A,H⟩ G same D;have L:ew a=true:=by rcases G with ⟨_,rfl⟩|⟨_,rfl,_⟩<;>rfl
 have f2:cG (H.get 2)=some [.sn,.i .i64 0]:=by
  rw[show H.get 2=_ from same 2 ω];simp only[T.get_put,Nat.reduceEqDiff,reduceIte,d9]
 simp(disch:=omega) only[↓dE,↓dG,bI,dF,Nat.reduceAdd,reduceIte,L,f2,eZ,fY,go_sem];exact⟨10,Rf (h:=⟨n1,A+1,_⟩) (d:=aE (cY (λx y=>x&&y) s t)) (G.mono λh=>by
  rcases D with rfl|h1;rcases G with ⟨h1,_⟩|⟨_,h1,_⟩;exact bh h1 h;cases h1;simp(disch:=omega) only[dh,T.get_put,bV]) rfl⟩
def D7 {s} (ds:jt P X GL s) (j:jt P X GL t) h:bP P X GL 158 [eT s,eT t] h (.tu [eT (cY (λx y=>x&&y) s t),.i .i64 0]) h:=
 dR S (az5 S F ds j) (n:=9) (by simp only[aL,jB,bZ]) h
def az6 {s} (ds:jt P X GL s) (j:jt P X GL t):bg P X GL ae 161 [eT s,eT t] (.tu [eT (cY (λx y=>x||y) s t),.i .i64 0]):=by
 refine bg.intro λC E=> ?_;have wO:ff (ι 0)=some 0:=rfl;have yI:ff (ι 1)=some 1:=rfl;have Bj:ff (ι 2)=some 2:=rfl;have I:=ds.tr;have J:=j.tr;rw[ke E.ok (E.get (F.g 161 ao9))];simp(disch:=omega) only[↓dX E.ok,↓dE,↓dG,bI,dF,Nat.reduceAdd,reduceIte,ao9,ad3,ad4,eT,eD,h0,go_sem];refine E.run (Rd S E F (aw7 E F) rfl ds.ok j.ok (by have:=ds.len;omega) (by have:=j.len;omega) ds.in_ j.in_ ds.chk j.chk (by rw[I,J]) _ ?_);rintro a oo ⟨n1,A,H⟩ G same D;have L:ew a=true:=by rcases G with ⟨_,rfl⟩|⟨_,rfl,_⟩<;>rfl
 have f2:cG (H.get 2)=some [.sn,.i .i64 0]:=by
  rw[show H.get 2=_ from same 2 ω];simp only[T.get_put,Nat.reduceEqDiff,reduceIte,d9]
 simp(disch:=omega) only[↓dE,↓dG,bI,dF,Nat.reduceAdd,reduceIte,L,f2,eZ,fY,go_sem];exact⟨10,Rf (h:=⟨n1,A+1,_⟩) (d:=aE (cY (λx y=>x||y) s t)) (G.mono λh=>by
  rcases D with rfl|h1;rcases G with ⟨h1,_⟩|⟨_,h1,_⟩;exact bh h1 h;cases h1;simp(disch:=omega) only[dh,T.get_put,bV]) rfl⟩
def IG {s} (ds:jt P X GL s) (j:jt P X GL t) h:bP P X GL 161 [eT s,eT t] h (.tu [eT (cY (λx y=>x||y) s t),.i .i64 0]) h:=
 dR S (az6 S F ds j) (n:=9) (by simp only[aL,jB,bZ]) h
end
end AM
namespace AM
open Go
def wP {k n}:ri k n=some (.i k n):=by unfold ri;rw[zO]
variable {a:Nat}
def Rh (h:a<256):dN .u8 (a)=(a):=by
 show(bif Nat.ble a 255 then Int.ofNat a else _)=_;have:Nat.ble a 255=true:=by rw[wX];simp;omega
 rw[this];rfl
def Ri (h:a<18446744073709551616):dN .u64 (a)=(a):=by
 show(bif Nat.ble a 18446744073709551615 then Int.ofNat a else _)=_;have:Nat.ble a 18446744073709551615=true:=by rw[wX];simp;omega
 rw[this];rfl
def lj (h:a<9223372036854775808):dN .i64 (a)=(a):=G2 ω
def Rj {c:Nat} (h:0<c/\ a<9223372036854775808):aY .quo (ι (a)) (ι (c))=some (ι ((a/c:Nat):Int)):=by
 show(bif eO (c:Int) 0 then none else ri .i64 (dN .i64 ((a:Int).tdiv (c:Int))))=_;have e:eO (c:Int) 0=false:=by rw[A3];simp;omega
 have e2:(a:Int).tdiv (c:Int)=((a/c:Nat):Int):=rfl;rw[e,e2,lj (Ca (Ft a c) h.2)];exact wP
def iA {c:Nat} (h:0<c):aY .rem (ι (a)) (ι (c))=some (ι ((a%c:Nat):Int)):=by
 show(bif eO (c:Int) 0 then none else ri .i64 ((a:Int).tmod (c:Int)))=_;have e:eO (c:Int) 0=false:=by rw[A3];simp;omega
 rw[e];exact wP
def bO3 {c:Nat} (h:a*c<9223372036854775808):aY .mul (ι (a)) (ι (c))=some (ι ((a*c:Nat):Int)):=by
 show ri .i64 (dN .i64 ((a:Int)*(c:Int)))=_;rw[show(a:Int)*(c:Int)=((a*c:Nat):Int) by simp,lj h];exact wP
def D8 {c:Nat} (h:0<c/\ a<256):aY .quo (.i .u8 (a)) (.i .u8 (c))=some (.i .u8 ((a/c:Nat):Int)):=by
 show(bif eO (c:Int) 0 then none else ri .u8 (dN .u8 ((a:Int).tdiv (c:Int))))=_;have e:eO (c:Int) 0=false:=by rw[A3];simp;omega
 have e2:(a:Int).tdiv (c:Int)=((a/c:Nat):Int):=rfl;rw[e,e2,Rh (Ca (Ft a c) h.2)];exact wP
def yD {c:Nat} (h:0<c):aY .rem (.i .u8 (a)) (.i .u8 (c))=some (.i .u8 ((a%c:Nat):Int)):=by
 show(bif eO (c:Int) 0 then none else ri .u8 ((a:Int).tmod (c:Int)))=_;have e:eO (c:Int) 0=false:=by rw[A3];simp;omega
 rw[e];exact wP
def az9 {k:Nat} (h:k<=8):aY .shr (.i .u8 (a)) (.i .u64 (k))=some (.i .u8 ((a/2^k:Nat):Int)):=by
 show ri .u8 (Int.ofNat (Nat.div a (Ih .u8 k)))=_;have e:Nat.ble k IntKind.u8.bits=true:=by rw[wX];simp;exact h
 unfold Ih;rw[e];exact wP
def aA0 (h:a<256):aY .and (.i .u8 (a)) (.i .u8 1)=some (.i .u8 ((a%2:Nat):Int)):=by
 show(bif Nat.ble a (m6 .u8)&&Nat.ble 1 (m6 .u8) then ri .u8 (Int.ofNat (Nat.land a 1)) else _)=_;have e:(Nat.ble a (m6 .u8)&&Nat.ble 1 (m6 .u8))=true:=by
  have h1:a<=255:=by omega
  rw[wX,wX];simp[m6,h1]
 have e2:Nat.land a 1=a%2:=Fu a;rw[e,e2];exact wP
def aA1 {k:Nat} (h:k<60):aY .shl (ι 1) (.i .u64 (k))=some (ι ((2^k:Nat):Int)):=by
 show ri .i64 (dN .i64 (Int.mul 1 (Int.ofNat (Ih .i64 k))))=_;have e:Nat.ble k IntKind.i64.bits=true:=by rw[wX];simp;show k<=64;omega
 unfold Ih;rw[e,show Int.mul 1 (Int.ofNat (Nat.pow 2 (bif true then k else IntKind.i64.bits)))=((2^k:Nat):Int) by simp,lj (Nat.lt_trans (Nat.pow_lt_pow_right ω h) (by decide))];exact wP
end AM
