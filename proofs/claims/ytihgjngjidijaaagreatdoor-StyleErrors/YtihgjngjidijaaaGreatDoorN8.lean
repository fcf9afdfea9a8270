import Derived.Test.YtihgjngjidijaaaGreatDoorN7
set_option linter.all false
set_option maxHeartbeats 4000000
namespace AM
open Go
def ax3 {a b:Nat} (h:¬a=b):(a=b)=False:=dQ h
def ax4 {a b:Nat} (h:a=b):(a=b)=True:=fq h
def ax5 {a b:Nat} (h:¬a<b):(a<b)=False:=dQ h
def ax6 {a b:Nat} (h:a<b):(a<b)=True:=fq h
def ax7 {a b:Nat} (h:¬a<=b):(a<=b)=False:=dQ h
def ax8 {a b:Nat} (h:a<=b):(a<=b)=True:=fq h
def ax9 {a b:Int} (h:¬a=b):(a=b)=False:=dQ h
def ay0 {a b:Int} (h:a=b):(a=b)=True:=fq h
def ay1 {a b:Int} (h:¬a<b):(a<b)=False:=dQ h
def ay2 {a b:Int} (h:a<b):(a<b)=True:=fq h
def ay3 {a b:Int} (h:¬a<=b):(a<=b)=False:=dQ h
def ay4 {a b:Int} (h:a<=b):(a<=b)=True:=fq h
def dh:=ap @ax3<|ap @ax4<|ap @ax5<|ap @ax6<|ap @ax7<|ap @ax8<|ap @ax9<|ap @ay0<|ap @ay1<|ap @ay2<|ap @ay3 @ay4
def wO:fP (ι 0)=some 0:=rfl
def yI:fP (ι 1)=some 1:=rfl
def Bj:fP (ι 2)=some 2:=rfl
def yJ:((0:Nat):Int)=0:=rfl
def Q9 {k:IntKind} {a b:Int}:aY .gtr (.i k a) (.i k b)=some (.b (decide (b<a))):=by
 show(bif gZ k k then rb (fD b a) else none)=_;rw[uN,mI];show rb _=_;unfold rb;rw[rR]
def ay5 {k:IntKind} {a b:Int}:aY .leq (.i k a) (.i k b)=some (.b (decide (a<=b))):=by
 show(bif gZ k k then rb (!(fD b a)) else none)=_;rw[uN,mI];show rb _=_;unfold rb;rw[rR];congr 2;rw[xB];simp
def oH {a b:Nat} (h:a+b<9223372036854775808):aY .add (ι (a:Int)) (ι (b:Int))=some (ι ((a+b:Nat):Int)):=by
 rw[wD ω];congr 2
def bK {a:Nat} (h:a+1<9223372036854775808):aY .add (ι (a:Int)) (ι 1)=some (ι ((a+1:Nat):Int)):=oH (b:=1) h
def qV {a b:Nat} (h:b<=a/\ a<9223372036854775808):aY .sub (ι (a:Int)) (ι (b:Int))=some (ι ((a-b:Nat):Int)):=by
 rw[rX ω];congr 2;omega
def lW:rZ (λn:Nat=>AV.i .i64 (n:Int)) (.lf .i) where
 eq:=λa b=>by
  have:=(Az (k:= .i64)).eq (a:Int) (b:Int);refine this.trans ?_;congr 1;rw[decide_eq_decide];omega
 q:=λa=>(Az (k:= .i64)).q (a:Int)
 self:=λa=>(Az (k:= .i64)).self (a:Int)
def mG:Option bC ->Option (List (AV×AV×Nat)×Nat)
 |some (.map _ l n)=>some (l,n)
 |_=>none
def oI {v l n}:mG (some (.map v l n))=some (l,n):=rfl
def fT {κ ν:Type} {ek:κ ->AV} {en:ν ->AV} {h:AH} {o:Nat} {l:List (κ×ν)}:yh ek en h o l↔mG (h.oB.get o)=some (di ek en 0 l,l.length):=by
 constructor
 ·rintro⟨v,e⟩;rw[e];rfl
 ·intro e;unfold mG at e;split at e
  ·rename_i v l' n' e';cases e;exact⟨v,e'⟩
  ·cases e
attribute [go_sem] wO yI Bj yJ Q9 ay5 dh
end AM
namespace AM
open Go
noncomputable section
def gU (h:AH) (esz:Nat) (s x:AV):ay:=match ij x,eI h esz x with
 |some n,some l=>gD h s n l esz
 |_,_=> .bad
def tM {ev:MA ->AV} {h:AH} {s x:MA} {esz b:Nat}:step ev h (.app s x esz b)=gU h esz (ev s) (ev x):=rfl
def IC (h:AH) (esz o n:Nat) (new:List AV):ay:=gD h (.sl o 0 n none esz) 1 new esz
def D5 (h:AH) (esz o n:Nat) (new:List AV):Option (List AV) ->ay
 |some L=>if L.length=n*esz/\ n+1<=1048576 then .v (.sl h.next 0 (n+1) none esz) ⟨h.next+1,h.ver+1,(h.oB.put o .gone).put h.next (.cells (h.ver+1) (L++new))⟩ else IC h esz o n new
 |none=>IC h esz o n new
def ID (h:AH) (esz:Nat) (s:AV) (new:List AV):ay:=gD h s 1 new esz
def yL (h:AH) (esz:Nat) (s:AV) (o2:Nat):ay:=gU h esz s (.sl o2 0 1 (some 1) esz)
def yM (h:AH) (esz:Nat) (s:AV) (o2:Nat):Option (List AV) ->ay
 |some new=>if new.length=esz/\ cF new=true then (match s with
  | .sn=> .v (.sl h.next 0 1 none esz) ⟨h.next+1,h.ver,h.oB.put h.next (.cells h.ver new)⟩
  | .sl o 0 n none e=>if e=esz then D5 h esz o n new (cG (h.oB.get o)) else ID h esz s new
  |s=>ID h esz s new) else yL h esz s o2
 |none=>yL h esz s o2
def IE {h:AH} {esz o2:Nat} {s:AV}:gU h esz s (.sl o2 0 1 (some 1) esz)=yM h esz s o2 (cG (h.oB.get o2)):=by
 cases hc:cG (h.oB.get o2) with
 |none=>rfl
 |some new=>
  unfold yM;dsimp only;split
  ·rename_i hn;have el:eI h esz (.sl o2 0 1 (some 1) esz)=some new:=wH hc (mM ω);have e0:gU h esz s (.sl o2 0 1 (some 1) esz)=gD h s 1 new esz:=by unfold gU;rw[el];rfl
   split
   ·have:=Hf (ev:=λm=>match m with| .t 0=>AV.sn|_=> .sl o2 0 1 (some 1) esz) (h:=h) (s:= .t 0) (x:= .t 1) (b:=0) rfl rfl hc hn.1 hn.2;exact this
   ·rename_i o n e;split
    ·rename_i he;subst he;rw[e0];cases hL:cG (h.oB.get o) with
     |none=>rfl
     |some L=>
      unfold D5;dsimp only;split
      ·rename_i hl;rw[←e0];exact He (ev:=λm=>match m with| .t 0=>AV.sl o 0 n none e|_=> .sl o2 0 1 (some 1) e) (h:=h) (s:= .t 0) (x:= .t 1) (b:=0) rfl hL hl.1 rfl hc hn.1 hn.2 hl.2
      ·rfl
    ·rw[e0];rfl
   ·rw[e0];rfl
  ·rfl
def IF {h:AH} {esz o2:Nat} {new:List AV}:yM h esz .sn o2 (some new)=if new.length=esz/\ cF new=true then .v (.sl h.next 0 1 none esz) ⟨h.next+1,h.ver,h.oB.put h.next (.cells h.ver new)⟩ else yL h esz .sn o2:=rfl
def Ra {h:AH} {esz o n o2:Nat} {new:List AV}:yM h esz (.sl o 0 n none esz) o2 (some new)=if new.length=esz/\ cF new=true then D5 h esz o n new (cG (h.oB.get o)) else yL h esz (.sl o 0 n none esz) o2:=by
 simp[yM]
def Rb {h:AH} {esz o n:Nat} {new L:List AV}:D5 h esz o n new (some L)=if L.length=n*esz/\ n+1<=1048576 then .v (.sl h.next 0 (n+1) none esz) ⟨h.next+1,h.ver+1,(h.oB.put o .gone).put h.next (.cells (h.ver+1) (L++new))⟩ else IC h esz o n new:=rfl
def iP:=ap @tM<|ap @IE<|ap @IF<|ap @Ra @Rb
def m2 (h:AH):AV ->AV ->ay
 | .i .i64 a,.i .i64 b=> .v (ι (if b<a then b else a)) h
 | .i k a,y=>dr h (jy fD k [y] a)
 |_,_=> .bad
def x2 (h:AH):AV ->AV ->ay
 | .i .i64 a,.i .i64 b=> .v (ι (if a<b then b else a)) h
 | .i k a,y=>dr h (jy (λx y=>fD y x) k [y] a)
 |_,_=> .bad
def ay6 {ev:MA ->AV} {h:AH} {x y:MA}:step ev h (.min [x,y])=m2 h (ev x) (ev y):=by
 have hs:step ev h (.min [x,y])=(match eE ev [x,y] with|some (.i k a::r)=>dr h (jy fD k r a)|_=> .bad):=rfl;have hm:∀(p q:Int),jy fD .i64 [ι q] p=(bif fD q p then some (ι q) else some (ι p)):=λp q=>rfl;rw[hs];simp only[wC,wy,qH];cases ev x<;>try rfl
 rename_i k a;cases ev y<;>cases k<;>try rfl
 rename_i k' b;cases k'<;>try rfl
 simp only[m2,hm,mI,rM];split<;>rfl
def ay7 {ev:MA ->AV} {h:AH} {x y:MA}:step ev h (.max [x,y])=x2 h (ev x) (ev y):=by
 have hs:step ev h (.max [x,y])=(match eE ev [x,y] with|some (.i k a::r)=>dr h (jy (λx y=>fD y x) k r a)|_=> .bad):=rfl;have hm:∀(p q:Int),jy (λx y=>fD y x) .i64 [ι q] p=(bif fD p q then some (ι q) else some (ι p)):=λp q=>rfl;rw[hs];simp only[wC,wy,qH];cases ev x<;>try rfl
 rename_i k a;cases ev y<;>cases k<;>try rfl
 rename_i k' b;cases k'<;>try rfl
 dsimp only;rw[hm,mI,rM];simp only[x2];split<;>rfl
def ay8 {h:AH} {a b:Int}:m2 h (ι a) (ι b)= .v (ι (if b<a then b else a)) h:=rfl
def ay9 {h:AH} {a b:Int}:x2 h (ι a) (ι b)= .v (ι (if a<b then b else a)) h:=rfl
def jP:=ap @ay6<|ap @ay7<|ap @ay8 @ay9
end
end AM
namespace AM
open Dg Go
noncomputable section
def js (V:List Nat):List (Nat×Nat):=(0,0)::(1,1)::V.zipIdx.map λp=>(p.1,p.2+2)
def Rc {n:Nat}:∀(V:List Nat) (i:Nat),look n ((V.zipIdx i).map λp=>(p.1,p.2+2))=if n∈V then some (V.idxOf n+i+2) else none
 |[],i=>by simp[look]
 |a::V,i=>by
  simp only[List.zipIdx_cons,jY,look,Rc V (i+1),ed,X3];by_cases e:n=a
  ·subst e;simp
  ·have e':(a==n)=false:=by simp;exact λh=>e h.symm
   simp only[e,bV,false_or,e',eU];split
   ·congr 1;omega
   ·rfl
def D6 {n:Nat} {V:List Nat} (h2:∀m∈V,2<=m):look n (js V)=if n<2∨n∈V then some (nb V n) else none:=by
 unfold js;simp only[look,Rc V 0];by_cases h0:n=0
 ·subst h0;simp[nb]
 ·by_cases h1:n=1
  ·subst h1;simp[nb]
  ·simp only[h0,h1,bV];have:¬n<2:=by omega
   by_cases hm:n∈V<;>simp[hm,this,nb]
def az0 {V:List Nat} {n:Nat}:js (V++[n])=js V++[(n,V.length+2)]:=by
 unfold js;simp[List.zipIdx_append]
def uV {B:List Br} {V:List Nat}:(jp B V).length=V.length:=by simp[jp]
structure VS (q bo p o:Nat) (B:List Br) (V:List Nat) (oo:Nat) (h:AH):Prop where
 lb:bo<q
 lo:B≠[] ->o<q
 cb:∃a,cG (h.oB.get bo)=some [a,.m p]/\ gN h.oB.get o B a
 c0:cG (h.oB.get q)=some [.p bo 0]
 c2:∃a,cG (h.oB.get (q+2))=some [a,.i .i64 0]/\ gN h.oB.get oo (jp B V) a
 c3:yh (λn:Nat=>AV.i .i64 (n:Int)) eN h (q+3) (js V)
 c4:cG (h.oB.get (q+4))=some [.m (q+3)]
 c5:cG (h.oB.get (q+5))=some [.f 296 [] [.p (q+4) 0,.p q 0,.p (q+5) 0,.p (q+2) 0]]
 next:q+6<=h.next
 nodes:V≠[] ->q+6<=oo/\ oo<h.next
structure VF (q:Nat) (V:List Nat) (oo:Nat) (h:AH) (V':List Nat) (oo':Nat) (h':AH):Prop where
 next:h.next<=h'.next
 same:∀j,j<h.next ->j≠q+2 ->j≠q+3 ->(V≠[] ->j≠oo) ->h'.oB.get j=h.oB.get j
 new:V'≠[] ->(V≠[]/\ oo'=oo)∨h.next<=oo'
def VF.trans {q oo oo' oo'':Nat} {V V' V'':List Nat} {h h' h'':AH} (a:VF q V oo h V' oo' h') (b:VF q V' oo' h' V'' oo'' h''):VF q V oo h V'' oo'' h'':=
 ⟨fJ a.next b.next,λj h1 h2 h3 h4=>by
  have h7:V'≠[] ->j≠oo':=λhv=>by
   rcases a.new hv with ⟨h5,h6⟩|h5
   ·rw[h6];exact h4 h5
   ·omega
  rw[b.same j (iR h1 a.next) h2 h3 h7,a.same j h1 h2 h3 h4],λhv=>by
  have:=a.next;rcases b.new hv with ⟨h5,h6⟩|h5
  ·rw[h6];exact a.new h5
  ·exact .inr ω⟩
def gN.mono {g g':Nat ->Option bC} {o:Nat} {B:List Br} {a:AV} (h:gN g o B a) (e:B≠[] ->g' o=g o):gN g' o B a:=by
 rcases h with h|⟨h1,h2,h3⟩
 ·exact .inl h
 ·exact .inr ⟨h1,h2,by rw[e h1];exact h3⟩
def VS.mono {q bo p o:Nat} {B:List Br} {V:List Nat} {oo:Nat} {h h':AH} (s:VS q bo p o B V oo h) (hn:h.next<=h'.next) (e:∀j,(j<q+6∨(V≠[]/\ j=oo)) ->h'.oB.get j=h.oB.get j):VS q bo p o B V oo h':=by
 have eb:=s.lb;have eo:=s.lo;exact {
  lb:=s.lb
  lo:=s.lo
  cb:=by obtain⟨a,h1,h2⟩:=s.cb;exact⟨a,by rw[e bo ω];exact h1,h2.mono λhb=>e o (by have:=eo hb;omega)⟩
  c0:=by rw[e q ω];exact s.c0
  c2:=by obtain⟨a,h1,h2⟩:=s.c2;exact⟨a,by rw[e _ ω];exact h1,h2.mono λhb=>e oo (.inr ⟨λh=>hb (by rw[h];rfl),rfl⟩)⟩
  c3:=by obtain⟨w,h1⟩:=s.c3;exact⟨w,by rw[e _ ω];exact h1⟩
  c4:=by rw[e _ ω];exact s.c4
  c5:=by rw[e _ ω];exact s.c5
  next:=fJ s.next hn
  nodes:=λhv=>⟨(s.nodes hv).1,iR (s.nodes hv).2 hn⟩ }
def VS.step {q bo p o:Nat} {B:List Br} {V V':List Nat} {oo oo':Nat} {h h':AH} (s:VS q bo p o B V oo h) (hn:h.next<=h'.next) (e:∀j,j<q+6 ->j≠q+2 ->j≠q+3 ->h'.oB.get j=h.oB.get j)
 (c2:∃a,cG (h'.oB.get (q+2))=some [a,.i .i64 0]/\ gN h'.oB.get oo' (jp B V') a) (c3:yh (λn:Nat=>AV.i .i64 (n:Int)) eN h' (q+3) (js V')) (hnodes:V'≠[] ->q+6<=oo'/\ oo'<h'.next):VS q bo p o B V' oo' h':=by
 have eb:=s.lb;have eo:=s.lo;exact {
  lb:=s.lb
  lo:=s.lo
  cb:=by obtain⟨a,h1,h2⟩:=s.cb;exact⟨a,by rw[e bo ω ω ω];exact h1,h2.mono λhb=>e o (by have:=eo hb;omega) (by have:=eo hb;omega) (by have:=eo hb;omega)⟩
  c0:=by rw[e q ω ω ω];exact s.c0
  c2:=c2
  c3:=c3
  c4:=by rw[e _ ω ω ω];exact s.c4
  c5:=by rw[e _ ω ω ω];exact s.c5
  next:=fJ s.next hn
  nodes:=hnodes }
variable {P:Program} {X:aR} {GL:T (List AV)} {ae:T au}
variable (S:aT P X GL ae) {C:aK Prop} (E:Sem P X GL ae C)
def az1 (F:eV ae) {q bo p o:Nat} {B:List Br} (ok:OK B) (hl:B.length<=1000000):
 ∀(d n:Nat) (V:List Nat) (oo:Nat) (h:AH) (k:AV ->AH ->Prop),3-bR B n<=d ->In B n ->Cl B V ->V.length+2^d<=1000000 ->VS q bo p o B V oo h ->
  (∀oo' h',VS q bo p o B (dV B d n V) oo' h' ->VF q V oo h (dV B d n V) oo' h' ->(dV B d n V).length+1<=V.length+2^d ->k (ι (nb (dV B d n V) n:Int)) h') ->
  du C 296 [.i .i64 (n:Int),.p (q+4) 0,.p q 0,.p (q+5) 0,.p (q+2) 0] h k:=by
 intro d;induction d with
 |zero=>
  intro n V oo h k hd hn cl eQ s hk;obtain⟨nx,ver,ob⟩:=h;have n2:n<2:=by
   rcases hn.cases with h|⟨i,b,rfl,hb⟩
   ·exact h
   ·rw[gy hb] at hd;have:=ok.v _ _ hb;omega
  have c4:=s.c4;obtain⟨ver3,c3⟩:=s.c3;have lk:∀aA ob' (ev:MA ->AV),T.get ob' (q+3)=some (.map ver3 (di (λn:Nat=>AV.i .i64 (n:Int)) eN 0 (js V)) (js V).length) ->ev (.t 13)= .m (q+3) ->ev (.t 14)= .i .i64 (n:Int) ->
   step ev ⟨nx,aA,ob'⟩ (.look (.lf .i) (.t 13) (.t 14) (ι 0) true)= .v (hU eN (ι 0) (look n (js V))) ⟨nx,aA,ob'⟩:=
   λaA ob' ev q1 q2 q3=>uQ (k:=n) (z:= .i .i64 0) lW (h:=⟨nx,aA,ob'⟩) ⟨ver3,q1⟩ q2 q3
  have hlk:=D6 (n:=n) (V:=V) λm hm=>(cl.two m hm).1;rw[aF (.inl n2)] at hlk;rw[ke E.ok (E.get F.f296)];dsimp only at c4 c3;simp only[yE,DP,DQ,DR,↓dX E.ok,↓dE,↓dG,bI,dF,c4,c3,lk,hlk,hU,eN,Nat.reduceEqDiff,Nat.reduceAdd,reduceIte,eZ,fY,go_sem];exact hk oo _ s ⟨bB _,λ_ _ _ _ _=>rfl,λh=> .inl ⟨h,rfl⟩⟩ (by simp[dV])
 |succ d ih=>
  intro n V oo h k hd hn cl eQ s hk;obtain⟨nx,ver,ob⟩:=h;have pw:2^(d+1)=2*2^d:=Cq;have pw1:1<=2^d:=Co;have c4:=s.c4;obtain⟨ver3,c3⟩:=s.c3;have lk:∀aA ob' (ev:MA ->AV),T.get ob' (q+3)=some (.map ver3 (di (λn:Nat=>AV.i .i64 (n:Int)) eN 0 (js V)) (js V).length) ->ev (.t 13)= .m (q+3) ->ev (.t 14)= .i .i64 (n:Int) ->
   step ev ⟨nx,aA,ob'⟩ (.look (.lf .i) (.t 13) (.t 14) (ι 0) true)= .v (hU eN (ι 0) (look n (js V))) ⟨nx,aA,ob'⟩:=
   λaA ob' ev q1 q2 q3=>uQ (k:=n) (z:= .i .i64 0) lW (h:=⟨nx,aA,ob'⟩) ⟨ver3,q1⟩ q2 q3
  have hlk:=D6 (n:=n) (V:=V) λm hm=>(cl.two m hm).1;rw[ke E.ok (E.get F.f296)];dsimp only at c4 c3;by_cases hin:n<2∨n∈V
  ·rw[aF hin] at hlk;simp only[yE,DP,DQ,DR,↓dX E.ok,↓dE,↓dG,bI,dF,c4,c3,lk,hlk,hU,eN,Nat.reduceEqDiff,Nat.reduceAdd,reduceIte,eZ,fY,go_sem];have e:dV B (d+1) n V=V:=by simp only[dV,aF hin]
   rw[e] at hk;exact hk oo _ s ⟨bB _,λ_ _ _ _ _=>rfl,λh=> .inl ⟨h,rfl⟩⟩ ω
  ·rw[aD hin] at hlk;rcases hn.cases with h|⟨i,b,rfl,hb⟩
   ·exact bh (.inl h) hin
   have e:dV B (d+1) (i+2) V=dV B d b.2.2 (dV B d b.2.1 V)++[i+2]:=by simp only[dV,aD hin,show i+2-2=i by omega,hb]
   rw[e] at hk;rw[gy hb] at hd;have l1:=ok.l _ _ hb;have l2:=ok.h _ _ hb;have hi:=In.of hb;have i1:In B b.2.1:=by unfold In at*;omega
   have i2:In B b.2.2:=by unfold In at*;omega
   have aV:i<B.length:=(eC.1 hb).1;have hB:B≠[]:=λh=>by rw[h] at aV;simp at aV
   obtain⟨ab,cb,nbA⟩:=s.cb;rcases nbA with ⟨h1,_⟩|⟨_,rfl,verB,cB⟩
   ·exact bh h1 hB
   have c0:=s.c0;have c5:=s.c5;have hlb:=s.lb;have hlo:=s.lo hB;have hnx:q+6<=nx:=s.next;have hnd:V≠[] ->q+6<=oo/\ oo<nx:=s.nodes;have e4:sub (dK B) (i*3) 3=some [.i .i64 (b.1:Int),.i .i64 (b.2.1:Int),.i .i64 (b.2.2:Int)]:=by have:=nQ hb 0 3 ω;simpa[gH] using this
   have es:aY .sub (ι ((i+2:Nat):Int)) (ι 2)=some (ι (i:Int)):=by rw[rX ω];congr 2;omega
   dsimp only at cb c0 c5 cB;simp(disch:=first|omega|(simp(disch:=omega) only[dh,oD,T.get_put,c3,pN,Nat.reduceEqDiff,reduceIte];done)) only[yE,DP,DQ,DR,QH,QK,QI,↓dX E.ok,↓dE,↓dG,bI,dF,c4,cb,c0,c5,cB,e4,es,aV,lk,hlk,hU,Nat.reduceAdd,reduceIte,eZ,fY,go_sem];have s0:VS q bo p o B V oo ⟨nx+1,ver+1,(ob.put nx (.cells ver [.i .i64 0,.i .i64 0,.i .i64 0])).put nx (.cells (ver+1) [.i .i64 (b.1:Int),.i .i64 (b.2.1:Int),.i .i64 (b.2.2:Int)])⟩:=
    s.mono (by show nx<=nx+1;omega) λj hj=>by
     have bF:¬j=nx:=by
      rcases hj with h|⟨h,rfl⟩
      ·omega
      ·have:=hnd h;omega
     simp only[T.get_put,aD bF]
   refine E.run (ih b.2.1 V oo _ _ ω i1 cl ω s0 ?_);rintro oo1 ⟨nx1,ver1,aQ⟩ s1 f1 len1;generalize hV1:dV B d b.2.1 V=V1 at s1 f1 len1 e hk;obtain⟨cl1,m1⟩:=yq ok d b.2.1 V cl i1 ω;rw[hV1] at cl1 m1;have x1:cG (aQ.get nx)=some [.i .i64 (b.1:Int),.i .i64 (b.2.1:Int),.i .i64 (b.2.2:Int)]:=by
    rw[show aQ.get nx=_ from f1.same nx (by show nx<nx+1;omega) ω ω (λhv=>by have:=hnd hv;omega)];simp only[T.get_put,dZ,d9]
   have c51:=s1.c5;dsimp only at c51;simp(disch:=omega) only[QJ,↓dX E.ok,↓dE,↓dG,bI,dF,x1,c51,reduceIte,go_sem];have hlen1:V1.length+1<=V.length+2^d:=len1;refine E.run (ih b.2.2 V1 oo1 _ _ ω i2 cl1 ω s1 ?_);rintro oo2 ⟨nx2,ver2,aJ⟩ s2 f2 len2;generalize hV2:dV B d b.2.2 V1=V2 at s2 f2 len2 e hk;obtain⟨cl2,m2⟩:=yq ok d b.2.2 V1 cl1 i2 ω;rw[hV2] at cl2 m2;have dS:nx+1<=nx1:=f1.next;have hn2:nx1<=nx2:=f2.next;have x2:cG (aJ.get nx)=some [.i .i64 (b.1:Int),.i .i64 (b.2.1:Int),.i .i64 (b.2.2:Int)]:=by
    rw[show aJ.get nx=_ from f2.same nx (by show nx<nx1;omega) ω ω (λhv=>by
     rcases f1.new hv with ⟨h5,h6⟩|h5
     ·have:=hnd h5;omega
     ·have h5':nx+1<=oo1:=h5;omega)]
    exact x1
   have hnin:i+2∉V2:=by have:=Pb ok (d:=d) hb (V:=V) (λh=>hin (.inr h));rw[hV1,hV2] at this;exact this
   have f12:=f1.trans f2;have hq2:=s2.next;dsimp only at hq2;have hnd2:V2≠[] ->q+6<=oo2/\ oo2<nx2:=s2.nodes;obtain⟨a2,c2,nbO⟩:=s2.c2;obtain⟨ver23,c32⟩:=s2.c3;have c42:=s2.c4;dsimp only at c2 c32 c42 nbO;have hl2:V2.length+1<=V1.length+2^d:=len2;have hlen2:V2.length+1<=V.length+2^(d+1)-1:=by omega
   have hll:look (i+2) (js V2)=none:=by rw[D6 λm hm=>(cl2.two m hm).1,aD (λh=>h.elim ω hnin)]
   have hup:ups (i+2) (V2.length+2) (js V2)=js (V2++[i+2]):=by rw[yg hll,az0]
   have hout:jp B (V2++[i+2])=jp B V2++[(b.1,nb V2 b.2.1,nb V2 b.2.2)]:=O9 cl2 (by rw[show i+2-2=i by omega];exact hb) (by
    rcases m1 with h|h
    ·exact .inl h
    ·right;rw[←hV2];obtain⟨W,hW⟩:=Dy (B:=B) d b.2.2 V1;rw[hW];exact xI _ h) m2
   have hnb1:nb V1 b.2.1=nb V2 b.2.1:=by rw[←hV2];obtain⟨W,hW⟩:=Dy (B:=B) d b.2.2 V1;rw[hW,wM m1]
   have hnbn:nb (V2++[i+2]) (i+2)=V2.length+2:=Ht ω hnin;have hlk2:look (i+2) (js (V2++[i+2]))=some (V2.length+2):=by
    rw[D6 λm hm=>(fO.1 hm).elim (λh=>(cl2.two m h).1) (λh=>by rw[fk.1 h];omega),aF (.inr (by simp)),hnbn]
   have mu:∀aA ob' (ev:MA ->AV),T.get ob' (q+3)=some (.map ver23 (di (λn:Nat=>AV.i .i64 (n:Int)) eN 0 (js V2)) (js V2).length) ->ev (.t 46)= .m (q+3) ->ev (.t 47)= .i .i64 ((i+2:Nat):Int) ->ev (.t 51)= .i .i64 ((V2.length+2:Nat):Int) ->
    step ev ⟨nx2+1+1,aA,ob'⟩ (.mupd (.lf .i) (.t 46) (.t 47) (.t 51))= .v .un ⟨nx2+1+1,aA+1,ob'.put (q+3) (.map (aA+1) (di (λn:Nat=>AV.i .i64 (n:Int)) eN 0 (js (V2++[i+2]))) (js (V2++[i+2])).length)⟩:=
    λaA ob' ev q1 q2 q3 q4=>by
     have:=mL (k:=i+2) (v:=V2.length+2) (en:=eN) lW (h:=⟨nx2+1+1,aA,ob'⟩) ⟨ver23,q1⟩ q2 q3 q4;rw[hup] at this;exact this
   have lk8:∀aA ob' (ev:MA ->AV),mG (T.get ob' (q+3))=some (di (λn:Nat=>AV.i .i64 (n:Int)) eN 0 (js (V2++[i+2])),(js (V2++[i+2])).length) ->ev (.t 52)= .m (q+3) ->ev (.t 53)= .i .i64 ((i+2:Nat):Int) ->
    step ev ⟨nx2+1+1,aA,ob'⟩ (.look (.lf .i) (.t 52) (.t 53) (ι 0) false)= .v (ι ((V2.length+2:Nat):Int)) ⟨nx2+1+1,aA,ob'⟩:=
    λaA ob' ev q1 q2 q3=>by
     have:=sd (k:=i+2) (z:= .i .i64 0) (en:=eN) lW (h:=⟨nx2+1+1,aA,ob'⟩) (fT.2 q1) q2 q3;rw[hlk2] at this;exact this
   rcases nbO with ⟨hO,rfl⟩|⟨hO,rfl,verO,cO⟩
   ·have hV2n:V2=[]:=by have:=congrArg List.length hO;rw[uV] at this;exact pM this
    have ad:aY .add (ι ((1:Nat):Int)) (ι 1)=some (ι ((V2.length+2:Nat):Int)):=by rw[wD ω];rw[hV2n];rfl
    have ap0:∀aA ob' (ev:MA ->AV),cG (T.get ob' nx2)=some [.i .i64 (b.1:Int),.i .i64 (nb V1 b.2.1:Int),.i .i64 (nb V2 b.2.2:Int)] ->ev (.t 37)= .sn ->ev (.t 43)= .sl nx2 0 1 (some 1) 3 ->
     step ev ⟨nx2+1,aA,ob'⟩ (.app (.t 37) (.t 43) 3 24)= .v (.sl (nx2+1) 0 1 none 3) ⟨nx2+1+1,aA,ob'.put (nx2+1) (.cells aA [.i .i64 (b.1:Int),.i .i64 (nb V1 b.2.1:Int),.i .i64 (nb V2 b.2.2:Int)])⟩:=
     λaA ob' ev q1 q2 q3=>Hf (h:=⟨nx2+1,aA,ob'⟩) q2 q3 (wG.trans q1) rfl rfl
    simp(disch:=first|omega|(simp(disch:=omega) only[dh,oD,T.get_put,c32,d9,oI,pN,Nat.reduceEqDiff,reduceIte];done)) only[H4,H5,H6,ap0,mu,lk8,ad,↓dX E.ok,↓dE,↓dG,bI,dF,x2,c2,c42,Nat.reduceAdd,reduceIte,go_sem];rw[←hnbn];refine hk (nx2+1) _ (s2.step (by show nx2<=nx2+1+1;omega) (λj h1 h2 h3=> ?_) ⟨.sl (nx2+1) 0 1 none 3,?_,.inr ⟨by rw[hout];simp,?_,ver2,?_⟩⟩ ?_ (λ_=>⟨by omega,by show nx2+1<nx2+1+1;omega⟩))
     (VF.trans (VF.trans (⟨by show nx<=nx+1;omega,λj h1 _ _ _=> ?_,λh=> .inl ⟨h,rfl⟩⟩:VF q V oo ⟨nx,ver,ob⟩ V oo _) f12) ⟨by show nx2<=nx2+1+1;omega,λj h1 h2 h3 h4=> ?_,λ_=> .inr (by show nx2<=nx2+1;omega)⟩) (by simp only[dy,lF];omega)
    ·simp(disch:=omega) only[dh,T.get_put,bV]
    ·simp(disch:=omega) only[dh,T.get_put,bV,dZ,d9]
    ·rw[uV,hV2n];rfl
    ·simp(disch:=omega) only[dh,T.get_put,bV,dZ];rw[hout,hO,hnb1];rfl
    ·exact fT.2 (by simp(disch:=omega) only[dh,T.get_put,bV,dZ,oI])
    ·have h1':¬j=nx:=by have h1':j<nx:=h1;omega
     simp only[T.get_put,aD h1']
    ·have h1':j<nx2:=h1;simp(disch:=omega) only[dh,T.get_put,bV]
   ·have hV2n:V2≠[]:=λh=>hO (by rw[h];rfl);have hno:=hnd2 hV2n;rw[uV] at c2;have ad:aY .add (ι ((V2.length+1:Nat):Int)) (ι 1)=some (ι ((V2.length+2:Nat):Int)):=by rw[wD ω];congr 2
    have ap1:∀aA ob' (ev:MA ->AV),cG (T.get ob' nx2)=some [.i .i64 (b.1:Int),.i .i64 (nb V1 b.2.1:Int),.i .i64 (nb V2 b.2.2:Int)] ->cG (T.get ob' oo2)=some (dK (jp B V2)) ->ev (.t 37)= .sl oo2 0 V2.length none 3 ->ev (.t 43)= .sl nx2 0 1 (some 1) 3 ->
     step ev ⟨nx2+1,aA,ob'⟩ (.app (.t 37) (.t 43) 3 24)= .v (.sl (nx2+1) 0 (V2.length+1) none 3) ⟨nx2+1+1,aA+1,(ob'.put oo2 .gone).put (nx2+1) (.cells (aA+1) (dK (jp B V2)++[.i .i64 (b.1:Int),.i .i64 (nb V1 b.2.1:Int),.i .i64 (nb V2 b.2.2:Int)]))⟩:=
     λaA ob' ev q1 q0 q2 q3=>He (h:=⟨nx2+1,aA,ob'⟩) q2 (wG.trans q0) (by rw[DZ,uV]) q3 (wG.trans q1) rfl rfl ω
    simp(disch:=first|omega|(simp(disch:=omega) only[dh,oD,T.get_put,c32,cO,d9,oI,pN,Nat.reduceEqDiff,reduceIte];done)) only[H4,H5,H6,ap1,mu,lk8,ad,↓dX E.ok,↓dE,↓dG,bI,dF,x2,c2,c42,Nat.reduceAdd,reduceIte,go_sem];rw[←hnbn];refine hk (nx2+1) _ (s2.step (by show nx2<=nx2+1+1;omega) (λj h1 h2 h3=> ?_) ⟨.sl (nx2+1) 0 (V2.length+1) none 3,?_,.inr ⟨by rw[hout];simp,?_,ver2+1,?_⟩⟩ ?_ (λ_=>⟨by omega,by show nx2+1<nx2+1+1;omega⟩))
     (VF.trans (VF.trans (⟨by show nx<=nx+1;omega,λj h1 _ _ _=> ?_,λh=> .inl ⟨h,rfl⟩⟩:VF q V oo ⟨nx,ver,ob⟩ V oo _) f12) ⟨by show nx2<=nx2+1+1;omega,λj h1 h2 h3 h4=> ?_,λ_=> .inr (by show nx2<=nx2+1;omega)⟩) (by simp only[dy,lF];omega)
    ·simp(disch:=omega) only[dh,T.get_put,bV]
    ·simp(disch:=omega) only[dh,T.get_put,bV,dZ,d9]
    ·rw[uV];simp
    ·simp(disch:=omega) only[dh,T.get_put,bV,dZ];rw[hout,hnb1,Ix];rfl
    ·exact fT.2 (by simp(disch:=omega) only[dh,T.get_put,bV,dZ,oI])
    ·have h1':¬j=nx:=by have h1':j<nx:=h1;omega
     simp only[T.get_put,aD h1']
    ·have h1':j<nx2:=h1;have h4':j≠oo2:=h4 hV2n;simp(disch:=omega) only[dh,T.get_put,bV]
def az2 (F:eV ae) {bo p o m ver r:Nat} {B:List Br} {ob:T bC} {a0:AV} (ok:OK B) (hl:B.length<=1000000) (hr:In B r) (cb:cG (ob.get bo)=some [a0,.m p]) (na:gN ob.get o B a0) (hb:bo<m) (ho:B≠[] ->o<m)
 (k:AV ->AH ->Prop) (hk:∀a oo h',gN h'.oB.get oo (aE (tr B 3 r)).1 a ->m<=h'.next ->(∀j,j<m ->h'.oB.get j=ob.get j) ->(aE (tr B 3 r)).1.length<=7 ->(a= .sn∨(m<=oo/\ oo<h'.next)) ->k (.ag [a,.i .i64 ((aE (tr B 3 r)).2:Int)]) h'):
 du C 184 [.p bo 0,.i .i64 (r:Int)] ⟨m,ver,ob⟩ k:=by
 have wO:fP (ι 0)=some 0:=rfl;have mu:∀aA ob' (τ:T AV),mG (T.get ob' (m+1+1+1))=some ([],0) ->az C τ (.t 9)= .m (m+1+1+1) ->
  step (az C τ) ⟨m+1+1+1+1,aA,ob'⟩ (.mupd (.lf .i) (.t 9) (.c (ι 0)) (.c (ι 0)))= .v .un ⟨m+1+1+1+1,aA+1,ob'.put (m+1+1+1) (.map (aA+1) (di (λn:Nat=>AV.i .i64 (n:Int)) eN 0 [(0,0)]) 1)⟩:=
  λaA ob' τ q1 q2=>mL (k:=0) (v:=0) (en:=eN) (l:=[]) lW (h:=⟨m+1+1+1+1,aA,ob'⟩) (fT.2 q1) q2 rfl rfl
 have mu2:∀aA ob' (τ:T AV),mG (T.get ob' (m+1+1+1))=some (di (λn:Nat=>AV.i .i64 (n:Int)) eN 0 [(0,0)],1) ->az C τ (.t 9)= .m (m+1+1+1) ->
  step (az C τ) ⟨m+1+1+1+1,aA,ob'⟩ (.mupd (.lf .i) (.t 9) (.c (ι 1)) (.c (ι 1)))= .v .un ⟨m+1+1+1+1,aA+1,ob'.put (m+1+1+1) (.map (aA+1) (di (λn:Nat=>AV.i .i64 (n:Int)) eN 0 [(0,0),(1,1)]) 2)⟩:=
  λaA ob' τ q1 q2=>mL (k:=1) (v:=1) (en:=eN) (l:=[(0,0)]) lW (h:=⟨m+1+1+1+1,aA,ob'⟩) (fT.2 q1) q2 rfl rfl
 rw[ke E.ok (E.get F.f184)];simp(disch:=first|omega|(simp(disch:=omega) only[dh,oD,tB,T.get_put,oI,pN,Nat.reduceEqDiff,reduceIte];done)) only[DO,QA,QB,QC,QD,QE,QG,mu,mu2,↓dX E.ok,↓dE,↓dG,bI,dF,Nat.reduceAdd,reduceIte,go_sem];refine E.run (az1 (q:=m) (bo:=bo) (p:=p) (o:=o) E F ok hl 3 r [] 0 _ _ ω hr Cl.nil (by simp) ⟨hb,ho,⟨a0,?_,na.mono λh=> ?_⟩,?_,⟨.sn,?_,.inl ⟨rfl,rfl⟩⟩,fT.2 ?_,?_,?_,?_,?_⟩ ?_)
 ·simp(disch:=omega) only[dh,T.get_put,bV];exact cb
 ·have:=ho h;simp(disch:=omega) only[dh,T.get_put,bV]
 ·simp(disch:=omega) only[dh,T.get_put,bV,dZ,d9]
 ·simp(disch:=omega) only[dh,T.get_put,bV,dZ,d9]
 ·simp(disch:=omega) only[dh,T.get_put,bV,dZ,oI];rfl
 ·simp(disch:=omega) only[dh,T.get_put,bV,dZ,d9]
 ·simp(disch:=omega) only[dh,T.get_put,bV,dZ,d9]
 ·exact bB _
 ·exact λh=>bh rfl h
 rintro oo ⟨n2,ver2,aJ⟩ s2 f2 len2;obtain⟨a,c2,nA⟩:=s2.c2;have hq2:m+6<=n2:=s2.next;have hcan:=Pe ok hr (d:=3) ω;have b1:cG (aJ.get (m+1))=some [.sn,.i .i64 0]:=by
  rw[show aJ.get (m+1)=_ from f2.same (m+1) (by show m+1<m+1+1+1+1+1+1;omega) ω ω (λh=>bh rfl h)];simp(disch:=omega) only[dh,T.get_put,bV,dZ,d9]
 dsimp only at c2;have sa:ew a=true:=by rcases nA with ⟨_,rfl⟩|⟨_,rfl,_⟩<;>rfl
 simp(disch:=omega) only[QF,↓dX E.ok,↓dE,↓dG,bI,dF,c2,b1,sa,Nat.reduceAdd,reduceIte,eZ,fY,go_sem];have e1:jp B (dV B 3 r [])=(aE (tr B 3 r)).1:=congrArg Prod.fst hcan;have e2:nb (dV B 3 r []) r=(aE (tr B 3 r)).2:=congrArg Prod.snd hcan;rw[e2];have hoo:a= .sn∨(m<=oo/\ oo<n2):=by
  rcases nA with ⟨_,h⟩|⟨h,_⟩
  ·exact .inl h
  ·have h2:m+6<=oo/\ oo<n2:=s2.nodes (λhv=>h (by rw[hv];rfl));exact .inr ω
 rw[e1] at nA;refine hk a oo _ (nA.mono λh=> ?_) (by show m<=n2;omega) (λj hj=> ?_) (by rw[←e1,uV];have:(dV B 3 r []).length+1<=0+2^3:=len2;omega) hoo
 ·have hno:m+6<=oo:=(s2.nodes (λhv=>h (by rw[←e1,hv];rfl))).1;simp(disch:=omega) only[dh,T.get_put,bV]
 ·simp(disch:=omega) only[dh,T.get_put,bV];rw[show aJ.get j=_ from f2.same j (by show j<m+1+1+1+1+1+1;omega) ω ω (λh=>bh rfl h)];simp(disch:=omega) only[dh,T.get_put,bV]
def az3 (F:eV ae) {NA NB:List Br} {ra rb:Nat} {opf:AV} {g:Bool ->Bool ->Bool} (hop:yH C opf g) (ax:OK NA) (okB:OK NB) (la:NA.length<=4096) (lb:NB.length<=4096) (ia:In NA ra) (ib:In NB rb)
 {ver:Nat} {ob:T bC} (c5:cG (ob.get 5)=some [opf]) {t:Tr} (ht:cY g (tr NA 3 ra) (tr NB 3 rb)=t) (k:AV ->AH ->Prop)
 (hk:∀a oo h',gN h'.oB.get oo (aE t).1 a ->17<=h'.next ->(∀j,j<8 ->h'.oB.get j=ob.get j) ->(aE t).1.length<=7 ->(a= .sn∨(17<=oo/\ oo<h'.next)) ->k (.ag [a,.i .i64 ((aE t).2:Int)]) h'):
 du C 400 [.ag [cu NA,.i .i64 (ra:Int),cu NB,.i .i64 (rb:Int),.sn,.i .i64 0],.f 401 [] [.p 5 0]] ⟨8,ver,ob⟩ k:=by
 have wO:fP (ι 0)=some 0:=rfl;have yI:fP (ι 1)=some 1:=rfl;have Bj:fP (ι 2)=some 2:=rfl;rw[ke E.ok (E.get F.f400)];simp(disch:=omega) only[Qa,P4,P5,↓dX E.ok,↓dE,↓dG,bI,dF,Nat.reduceAdd,reduceIte,go_sem];refine E.run ?_;rw[ke E.ok (E.get F.f481)];simp(disch:=omega) only[Qc,Qb,P6,P7,P8,P9,↓dX E.ok,↓dE,↓dG,bI,dF,Nat.reduceEqDiff,Nat.reduceAdd,Nat.reduceMul,Nat.reduceShiftRight,Nat.reduceAnd,Nat.reduceBneDiff,reduceIte,eZ,fY,go_sem];have hpw:2^(3-min (bR NA ra) (bR NB rb))<=2^3:=rJ ω ω;refine E.run (ax2 (ra:=ra) (rb:=rb) S E F hop ax okB la lb _ ra rb [] 11 [] _ _ rfl ia ib ⟨⟨fT.2 ?_,ver,.sn,?_,.inl ⟨rfl,rfl⟩⟩,?_,?_,?_,?_,fT.2 ?_,?_,?_,?_,λh=>bh rfl h⟩ ⟨by simp,by simp,by simp,by simp,by simp⟩ (λx y r h=>by simp[look] at h) (by simp only[ji];omega) (.inl rfl) (λ_=>rfl) ?_)
 ·simp only[T.get_put,Nat.reduceEqDiff,reduceIte,oI];rfl
 ·simp only[T.get_put,Nat.reduceEqDiff,reduceIte]
 ·simp only[T.get_put,Nat.reduceEqDiff,reduceIte];exact c5
 ·simp only[T.get_put,Nat.reduceEqDiff,reduceIte,d9]
 ·simp only[T.get_put,Nat.reduceEqDiff,reduceIte,d9]
 ·simp only[T.get_put,Nat.reduceEqDiff,reduceIte,d9]
 ·simp only[T.get_put,Nat.reduceEqDiff,reduceIte,oI];rfl
 ·simp only[T.get_put,Nat.reduceEqDiff,reduceIte,d9]
 ·simp only[T.get_put,Nat.reduceEqDiff,reduceIte,d9]
 ·exact bB _
 rintro r B o M ⟨n1,ver1,aQ⟩ cs cf ok mo _ lenB ho _ rel;have d8:=cs.c8;have d13:=cs.c13;have d16:=cs.c16;dsimp only at d8 d13 d16;simp only[d13,↓dE,↓dG,bI,dF,Nat.reduceEqDiff,Nat.reduceAdd,Nat.reduceMul,Nat.reduceLT,Nat.reduceShiftRight,Nat.reduceAnd,Nat.reduceBneDiff,reduceIte,go_sem];obtain⟨_,verc,a0,hc12,hna⟩:=cs.bs;have dS:17<=n1:=cs.next;have htr:tr B 3 r=t:=by
  have:=(rel.2 3 ω ω ω).2;rw[this];exact ht
 refine E.run (az2 (p:=11) E F ok (by have h1:B.length+1<=0+2^(3-min (bR NA ra) (bR NB rb)):=lenB;omega) rel.1 (by rw[show T.get aQ 12=_ from hc12];rfl) hna (by show 12<n1;omega) (λh=>(cs.nodes h).2) _ ?_);rw[htr];rintro a oo ⟨n2,ver2,aJ⟩ na hn2 same len7 hoo;have f8:cG (aJ.get 8)=_:=(congrArg cG (same 8 (by show 8<n1;omega))).trans d8;have f13:cG (aJ.get 13)=_:=(congrArg cG (same 13 (by show 13<n1;omega))).trans d13;have f16:cG (aJ.get 16)=_:=(congrArg cG (same 16 (by show 16<n1;omega))).trans d16;have f10:cG (aJ.get 10)=some [.sn,.i .i64 0]:=by
  rw[show aJ.get 10=aQ.get 10 from same 10 (by show 10<n1;omega),show aQ.get 10=_ from cf.old 10 ω];simp only[T.get_put,Nat.reduceEqDiff,reduceIte,d9]
 have sa:ew a=true:=by rcases na with ⟨_,rfl⟩|⟨_,rfl,_⟩<;>rfl
 simp only[↓dE,↓dG,bI,dF,Nat.reduceEqDiff,Nat.reduceAdd,Nat.reduceMul,Nat.reduceLT,Nat.reduceShiftRight,Nat.reduceAnd,Nat.reduceBneDiff,reduceIte,f8,f13,f16,f10,sa,go_sem];refine hk a oo _ (na.mono λh=> ?_) (by show 17<=n2;have h2:n1<=n2:=hn2;omega) (λj hj=> ?_) len7 (hoo.imp id λh=>⟨by have h2:n1<=oo:=h.1;omega,h.2⟩)
 ·rcases hoo with rfl|⟨h1,h2⟩
  ·rcases na with ⟨h1,_⟩|⟨_,h1,_⟩
   ·exact bh h1 h
   ·cases h1
  ·have h3:n1<=oo:=h1;simp(disch:=omega) only[dh,T.get_put,bV]
 ·simp(disch:=omega) only[dh,T.get_put,bV];rw[show aJ.get j=aQ.get j from same j (by show j<n1;omega),show aQ.get j=_ from cf.old j ω];simp(disch:=omega) only[dh,T.get_put,bV]
def tN {B:List Br}:ew (cu B)=true:=by cases B<;>rfl
def Bk (P:Program) (X:aR) (GL:T (List AV)) (d:List Br×Nat):Prop:=∀h,bP P X GL 95 [eD d] h (ι 0) h
def az4 (F:eV ae) {a b:List Br×Nat} (ha:Bk P X GL a) (hb:Bk P X GL b) {h:AH} {o:Nat} (ho:cG (h.oB.get o)=some [cu a.1,.i .i64 (a.2:Int),cu b.1,.i .i64 (b.2:Int)]):
 bP P X GL 398 [.sl o 0 2 (some 2) 2] h (ι 0) h:=by
 have hp:bg P X GL ae 398 [.ds [cu a.1,.i .i64 (a.2:Int),cu b.1,.i .i64 (b.2:Int)] 0 2 2] (ι 0):=by
  refine bg.intro λC E=> ?_;have wO:fP (ι 0)=some 0:=rfl;have yI:fP (ι 1)=some 1:=rfl;have ad0:aY .add (ι 0) (ι 1)=some (ι 1):=by rw[wD ω];rfl
  have ad1:aY .add (ι 1) (ι 1)=some (ι 2):=by rw[wD ω];rfl
  have c2:((2:Nat):Int)=2:=rfl;have yJ:((0:Nat):Int)=0:=rfl;rw[ke E.ok (E.get F.f398)];generalize hL:aw.loop uT=L;simp only[QN,QM,QL,hL,↓dX E.ok,↓dE,↓dG,bI,dF,Nat.reduceEqDiff,reduceIte,h0,c2,go_sem];subst hL;rw[uM E.ok];generalize hL:aw.loop uT=L;simp only[uT,DT,Il,Ii,Ij,Ik,tN,Int.reduceLT,↓dX E.ok,↓dE,↓dG,bI,dF,Nat.reduceEqDiff,Nat.reduceAdd,Nat.reduceLT,reduceIte,eZ,fY,go_sem];refine E.cN (ha _) ?_;simp only[Im,ad0,↓dX E.ok,↓dE,↓dG,bI,dF,Nat.reduceEqDiff,reduceIte,jk,go_sem];subst hL;rw[uM E.ok];generalize hL:aw.loop uT=L;simp only[uT,DT,Il,Ii,Ij,Ik,tN,Int.reduceLT,↓dX E.ok,↓dE,↓dG,bI,dF,Nat.reduceEqDiff,Nat.reduceAdd,Nat.reduceLT,reduceIte,go_sem];refine E.cN (hb _) ?_;simp only[Im,ad1,↓dX E.ok,↓dE,↓dG,bI,dF,Nat.reduceEqDiff,reduceIte,jk,go_sem];subst hL;rw[uM E.ok];generalize hL:aw.loop uT=L;simp only[uT,DT,Int.reduceLT,↓dX E.ok,↓dE,↓dG,bI,dF,Nat.reduceEqDiff,reduceIte,go_sem];exact⟨1,rfl⟩
 refine oE S hp (n:=9) (m:=1) ?_ rfl;have e:deep 9 h (.sl o 0 2 (some 2) 2)=(match h.oB.get o with
  |some (.cells _ l)=>match eM (deep 8 h) l with|some l=>some (.ds l 0 2 2)|none=>none
  |_=>none):=rfl
 have hd:∀B:List Br,deep 8 h (cu B)=some (cu B):=λB=>by
  cases B with
  |nil=>rfl
  |cons b B=>
   have e:deep 8 h (.ds (dK (b::B)) 0 (b::B).length 3)=(match bJ 7 h (dK (b::B)) with|some l=>some (.ds l 0 (b::B).length 3)|none=>none):=rfl;show deep 8 h (.ds (dK (b::B)) 0 (b::B).length 3)=_;rw[e,D0];rfl
 have e2:∃v,h.oB.get o=some (.cells v [cu a.1,.i .i64 (a.2:Int),cu b.1,.i .i64 (b.2:Int)]):=by
  generalize h.oB.get o=x at ho
  match x with
  |some (.cells v l)=>exact⟨v,by rw[d9] at ho;cases ho;rfl⟩
  |none=>cases ho
  |some (.map _ _ _)=>cases ho
  |some .gone=>cases ho
 obtain⟨v,e2⟩:=e2;rw[aL,e,e2];simp only[lJ,tg,hd,deep]
attribute [go_sem] tN
def Rd (F:eV ae) {NA NB:List Br} {ra rb:Nat} {opf:AV} {g:Bool ->Bool ->Bool} (hop:yH C opf g) (sop:ew opf=true) (ax:OK NA) (okB:OK NB) (la:NA.length<=4096) (lb:NB.length<=4096) (ia:In NA ra) (ib:In NB rb)
 (ca:Bk P X GL (NA,ra)) (cb:Bk P X GL (NB,rb)) {ver:Nat} {ob:T bC} {t:Tr} (ht:cY g (tr NA 3 ra) (tr NB 3 rb)=t) (k:AV ->AH ->Prop)
 (hk:∀a oo h',gN h'.oB.get oo (aE t).1 a ->(∀j,j<3 ->h'.oB.get j=ob.get j) ->(a= .sn∨17<=oo) ->k (.tu [.ag [a,.i .i64 ((aE t).2:Int)],.i .i64 0]) h'):
 du C 265 [eD (NA,ra),eD (NB,rb),opf] ⟨3,ver,ob⟩ k:=by
 have wO:fP (ι 0)=some 0:=rfl;have yI:fP (ι 1)=some 1:=rfl;have Bj:fP (ι 2)=some 2:=rfl;have co:cellsO opf=some [opf]:=by cases opf<;>first|rfl|cases sop
 rw[ke E.ok (E.get F.f265)];simp(disch:=omega) only[↓dX E.ok,↓dE,↓dG,bI,dF,Nat.reduceAdd,reduceIte,Qn,Qi,Qj,Ql,Qk,Qm,eD,co,go_sem];refine E.cN (az4 S F ca cb ?_) ?_
 ·simp only[T.get_put,Nat.reduceEqDiff,reduceIte,d9]
 simp(disch:=omega) only[↓dX E.ok,↓dE,↓dG,bI,dF,Nat.reduceAdd,reduceIte,go_sem];refine E.run (az3 S E F hop ax okB la lb ia ib ?_ ht _ ?_)
 ·simp only[T.get_put,Nat.reduceEqDiff,reduceIte,d9]
 rintro a oo ⟨n1,ver1,aQ⟩ na dS same len7 hoo;have hn1':17<=n1:=dS;have sa:ew a=true:=by rcases na with ⟨_,rfl⟩|⟨_,rfl,_⟩<;>rfl
 have st:∀(τ:T AV) v' t' x,az C τ x=a ->step (az C τ) ⟨n1+1+1,v',t'⟩ (.len .slice x)= .v (ι ((aE t).1.length:Int)) ⟨n1+1+1,v',t'⟩:=by
  intro τ v' t' x hx;rw[yd,hx];rcases na with ⟨h,rfl⟩|⟨_,rfl,_⟩
  ·rw[h];rfl
  ·rfl
 have f6:cG (aQ.get 6)=some [.sn,.i .i64 0]:=by
  rw[show aQ.get 6=_ from same 6 ω];simp only[T.get_put,Nat.reduceEqDiff,reduceIte,d9]
 refine E.run ?_;rw[ke E.ok (E.get F.f399)];have gt:∀(x:Nat),aY .gtr (ι (x:Int)) (ι 4096)=some (.b (decide ((4096:Int)<(x:Int)))):=λx=>Q9;simp(disch:=first|omega|(simp(disch:=omega) only[dh,oD,T.get_put,pN,Nat.reduceEqDiff,reduceIte];done)) only[↓dX E.ok,↓dE,↓dG,bI,dF,Nat.reduceAdd,reduceIte,Qh,Qd,Qe,Qf,Qg,sa,st,gt,f6,eZ,fY,go_sem];refine hk a oo _ (na.mono λh=> ?_) (λj hj=> ?_) (hoo.imp id λh=>h.1)
 ·rcases hoo with rfl|⟨h1,h2⟩
  ·rcases na with ⟨h1,_⟩|⟨_,h1,_⟩
   ·exact bh h1 h
   ·cases h1
  ·have h3:oo<n1:=h2;simp(disch:=omega) only[dh,T.get_put,bV]
 ·simp(disch:=omega) only[dh,T.get_put,bV];rw[show aQ.get j=_ from same j ω];simp(disch:=omega) only[dh,T.get_put,bV]
def Re {h:AH} {o:Nat} {B:List Br} {a:AV} (na:gN h.oB.get o B a):deep 8 h a=some (cu B):=by
 rcases na with ⟨rfl,rfl⟩|⟨hb,rfl,v,e⟩
 ·rfl
 ·have e1:deep 8 h (.sl o 0 B.length none 3)=(match h.oB.get o with
   |some (.cells _ l)=>match bJ 7 h l with|some l=>some (.ds l 0 B.length 3)|none=>none
   |_=>none):=rfl
  rw[e1,e];dsimp only;rw[D0];cases B with
  |nil=>exact bh rfl hb
  |cons _ _=>rfl
def Rf {h:AH} {o:Nat} {d:List Br×Nat} {a:AV} (na:gN h.oB.get o d.1 a) {b:AV} (hb:deep 9 h b=some b):deep 10 h (.tu [.ag [a,.i .i64 (d.2:Int)],b])=some (.tu [eD d,b]):=by
 have e1:deep 10 h (.tu [.ag [a,.i .i64 (d.2:Int)],b])=(match bJ 9 h [.ag [a,.i .i64 (d.2:Int)],b] with|some l=>some (AV.tu l)|none=>none):=rfl;have e2:deep 9 h (.ag [a,.i .i64 (d.2:Int)])=(match bJ 8 h [a,.i .i64 (d.2:Int)] with|some l=>some (AV.ag l)|none=>none):=rfl;have e3:deep 8 h (ι (d.2:Int))=some (ι (d.2:Int)):=rfl;rw[e1];simp only[aL,bZ,e2,e3,Re na,hb,eD]
structure jt (P:Program) (X:aR) (GL:T (List AV)) (t:Tr):Prop where
 ok:OK (aE t).1
 in_:In (aE t).1 (aE t).2
 tr:tr (aE t).1 3 (aE t).2=t
 len:(aE t).1.length<=7
 chk:Bk P X GL (aE t)
def eT (t:Tr):AV:=eD (aE t)
def jB (h:AH) (t:Tr):deep 9 h (eT t)=some (eT t):=qU h _
def az5 (F:eV ae) {s t:Tr} (ds:jt P X GL s) (dt:jt P X GL t):bg P X GL ae 149 [eT s,eT t] (.tu [eT (cY (λx y=>x&&y) s t),.i .i64 0]):=by
 refine bg.intro λC E=> ?_;have wO:fP (ι 0)=some 0:=rfl;have yI:fP (ι 1)=some 1:=rfl;have Bj:fP (ι 2)=some 2:=rfl;have hs:=ds.tr;have ht:=dt.tr;rw[ke E.ok (E.get F.f149)];simp(disch:=omega) only[↓dX E.ok,↓dE,↓dG,bI,dF,Nat.reduceAdd,reduceIte,Qs,Qq,Qr,eT,eD,h0,go_sem];refine E.run (Rd S E F (aw6 E F) rfl ds.ok dt.ok (by have:=ds.len;omega) (by have:=dt.len;omega) ds.in_ dt.in_ ds.chk dt.chk (by rw[hs,ht]) _ ?_);rintro a oo ⟨n1,ver1,aQ⟩ na same hoo;have sa:ew a=true:=by rcases na with ⟨_,rfl⟩|⟨_,rfl,_⟩<;>rfl
 have f2:cG (aQ.get 2)=some [.sn,.i .i64 0]:=by
  rw[show aQ.get 2=_ from same 2 ω];simp only[T.get_put,Nat.reduceEqDiff,reduceIte,d9]
 simp(disch:=omega) only[↓dE,↓dG,bI,dF,Nat.reduceAdd,reduceIte,sa,f2,eZ,fY,go_sem];exact⟨10,Rf (h:=⟨n1,ver1+1,_⟩) (d:=aE (cY (λx y=>x&&y) s t)) (na.mono λh=>by
  rcases hoo with rfl|h1
  ·rcases na with ⟨h1,_⟩|⟨_,h1,_⟩
   ·exact bh h1 h
   ·cases h1
  ·simp(disch:=omega) only[dh,T.get_put,bV]) rfl⟩
def D7 (F:eV ae) {s t:Tr} (ds:jt P X GL s) (dt:jt P X GL t) (h:AH):bP P X GL 149 [eT s,eT t] h (.tu [eT (cY (λx y=>x&&y) s t),.i .i64 0]) h:=
 dR S (az5 S F ds dt) (n:=9) (by simp only[aL,jB,bZ]) h
def az6 (F:eV ae) {s t:Tr} (ds:jt P X GL s) (dt:jt P X GL t):bg P X GL ae 152 [eT s,eT t] (.tu [eT (cY (λx y=>x||y) s t),.i .i64 0]):=by
 refine bg.intro λC E=> ?_;have wO:fP (ι 0)=some 0:=rfl;have yI:fP (ι 1)=some 1:=rfl;have Bj:fP (ι 2)=some 2:=rfl;have hs:=ds.tr;have ht:=dt.tr;rw[ke E.ok (E.get F.f152)];simp(disch:=omega) only[↓dX E.ok,↓dE,↓dG,bI,dF,Nat.reduceAdd,reduceIte,Qx,Qv,Qw,eT,eD,h0,go_sem];refine E.run (Rd S E F (aw7 E F) rfl ds.ok dt.ok (by have:=ds.len;omega) (by have:=dt.len;omega) ds.in_ dt.in_ ds.chk dt.chk (by rw[hs,ht]) _ ?_);rintro a oo ⟨n1,ver1,aQ⟩ na same hoo;have sa:ew a=true:=by rcases na with ⟨_,rfl⟩|⟨_,rfl,_⟩<;>rfl
 have f2:cG (aQ.get 2)=some [.sn,.i .i64 0]:=by
  rw[show aQ.get 2=_ from same 2 ω];simp only[T.get_put,Nat.reduceEqDiff,reduceIte,d9]
 simp(disch:=omega) only[↓dE,↓dG,bI,dF,Nat.reduceAdd,reduceIte,sa,f2,eZ,fY,go_sem];exact⟨10,Rf (h:=⟨n1,ver1+1,_⟩) (d:=aE (cY (λx y=>x||y) s t)) (na.mono λh=>by
  rcases hoo with rfl|h1
  ·rcases na with ⟨h1,_⟩|⟨_,h1,_⟩
   ·exact bh h1 h
   ·cases h1
  ·simp(disch:=omega) only[dh,T.get_put,bV]) rfl⟩
def IG (F:eV ae) {s t:Tr} (ds:jt P X GL s) (dt:jt P X GL t) (h:AH):bP P X GL 152 [eT s,eT t] h (.tu [eT (cY (λx y=>x||y) s t),.i .i64 0]) h:=
 dR S (az6 S F ds dt) (n:=9) (by simp only[aL,jB,bZ]) h
def az7 (F:eL ae) {B:List Br} {r n:Nat} (hn:In B n) (hb:B.length<=4096):bg P X GL ae 562 [eD (B,r),ι (n:Int)] (ι (pl B n:Int)):=by
 refine bg.intro λC E=> ?_;rw[ke E.ok (E.get F.f562)];rcases hn.cases with h1|⟨i,b,rfl,hbi⟩
 ·have hn':(n:Int)<2:=by omega
  simp only[↓dX E.ok,↓dE,↓dG,bI,dF,hn',Nat.reduceEqDiff,reduceIte,eZ,fY,eD,go_sem];exact⟨1,by simp[deep,pl,h1]⟩
 ·have hn':¬(((i+2:Nat):Int)<2):=by omega
  have aV:i<B.length:=(eC.1 hbi).1;have e1:((i+2:Nat):Int)-2=(i:Int):=by omega
  have e2:aY .sub (ι ((i+2:Nat):Int)) (ι 2)=some (ι (i:Int)):=by rw[rX ω,e1]
  have e3:cu B= .ds (dK B) 0 B.length 3:=by cases B with|nil=>simp at aV|cons _ _=>rfl
  have e4:sub (dK B) (i*3) 1=some [ι (b.1:Int)]:=by have:=nQ hbi 0 1 ω;simpa[gH] using this
  simp only[↓dX E.ok,↓dE,↓dG,bI,dF,hn',Nat.reduceEqDiff,reduceIte,eZ,fY,eD,e2,e3,aV,e4,go_sem];exact⟨1,by simp[deep,pl,gy hbi,show¬(i+2<2) by omega]⟩
def II (F:eL ae) {B:List Br} {r n:Nat} (hn:In B n) (hb:B.length<=4096) (h:AH):bP P X GL 562 [eD (B,r),ι (n:Int)] h (ι (pl B n:Int)) h:=
 dR S (az7 F hn hb) (n:=9) (by simp only[aL,qU,bZ,deep]) h
def az8 (F:eL ae) {B:List Br} {r n v:Nat} (hn:In B n) (hb:B.length<=4096) (hv:v<64):bg P X GL ae 563 [eD (B,r),ι (n:Int),ι (v:Int)] (.tu [ι (lo B n v:Int),ι (hi B n v:Int)]):=by
 refine bg.intro λC E=> ?_;rw[ke E.ok (E.get F.f563)];simp only[QX,↓dX E.ok,↓dE,↓dG,bI,dF,Nat.reduceEqDiff,Nat.reduceAdd,reduceIte,eZ,fY,eD,go_sem];refine E.cN (II S F hn hb _) ?_;rcases hn.cases with h1|⟨i,b,rfl,hbi⟩
 ·have e:((pl B n:Nat):Int)=64:=by simp[pl,h1]
  have e2:¬((64:Int)=(v:Int)):=by omega
  simp only[↓dX E.ok,↓dE,↓dG,bI,dF,e,e2,Nat.reduceEqDiff,reduceIte,go_sem];exact⟨1,by simp[deep,lJ,tg,tF h1,tG h1]⟩
 ·have aV:i<B.length:=(eC.1 hbi).1;have e:((pl B (i+2):Nat):Int)=(b.1:Int):=by simp[pl,gy hbi,show¬(i+2<2) by omega]
  by_cases e2:b.1=v
  ·have e2':((b.1:Nat):Int)=(v:Int):=by omega
   have e5:aY .sub (ι ((i+2:Nat):Int)) (ι 2)=some (ι (i:Int)):=by rw[rX ω];congr 2;omega
   have e3:cu B= .ds (dK B) 0 B.length 3:=by cases B with|nil=>simp at aV|cons _ _=>rfl
   have e4:sub (dK B) (i*3+1) 1=some [ι (b.2.1:Int)]:=by have:=nQ hbi 1 1 ω;simpa[gH] using this
   have e6:sub (dK B) (i*3+2) 1=some [ι (b.2.2:Int)]:=by have:=nQ hbi 2 1 ω;simpa[gH] using this
   simp only[↓dX E.ok,↓dE,↓dG,bI,dF,e,e2',e3,e4,e5,e6,aV,Nat.reduceEqDiff,reduceIte,go_sem];exact⟨1,by simp[deep,lJ,tg,pb hbi,pf hbi,e2]⟩
  ·have e2':¬(((b.1:Nat):Int)=(v:Int)):=by omega
   simp only[↓dX E.ok,↓dE,↓dG,bI,dF,e,e2',Nat.reduceEqDiff,reduceIte,go_sem];exact⟨1,by simp[deep,lJ,tg,pb hbi,pf hbi,e2]⟩
def Rg (F:eL ae) {B:List Br} {r n v:Nat} (hn:In B n) (hb:B.length<=4096) (hv:v<64) (h:AH):bP P X GL 563 [eD (B,r),ι (n:Int),ι (v:Int)] h (.tu [ι (lo B n v:Int),ι (hi B n v:Int)]) h:=
 dR S (az8 S F hn hb hv) (n:=9) (by simp only[aL,qU,bZ,deep]) h
end
end AM
namespace AM
open Go
def wP {k:IntKind} {n:Int}:ri k n=some (.i k n):=by unfold ri;rw[zO]
def Rh {a:Nat} (h:a<256):dN .u8 (a:Int)=(a:Int):=by
 show(bif Nat.ble a 255 then Int.ofNat a else _)=_;have:Nat.ble a 255=true:=by rw[dm];simp;omega
 rw[this];rfl
def Ri {a:Nat} (h:a<18446744073709551616):dN .u64 (a:Int)=(a:Int):=by
 show(bif Nat.ble a 18446744073709551615 then Int.ofNat a else _)=_;have:Nat.ble a 18446744073709551615=true:=by rw[dm];simp;omega
 rw[this];rfl
def lj {a:Nat} (h:a<9223372036854775808):dN .i64 (a:Int)=(a:Int):=G2 ω
def Rj {a c:Nat} (h:0<c/\ a<9223372036854775808):aY .quo (ι (a:Int)) (ι (c:Int))=some (ι ((a/c:Nat):Int)):=by
 show(bif eO (c:Int) 0 then none else ri .i64 (dN .i64 ((a:Int).tdiv (c:Int))))=_;have e:eO (c:Int) 0=false:=by rw[fg];simp;omega
 have e2:(a:Int).tdiv (c:Int)=((a/c:Nat):Int):=rfl;rw[e,e2,lj (Ca (Ft a c) h.2)];exact wP
def iA {a c:Nat} (h:0<c):aY .rem (ι (a:Int)) (ι (c:Int))=some (ι ((a%c:Nat):Int)):=by
 show(bif eO (c:Int) 0 then none else ri .i64 ((a:Int).tmod (c:Int)))=_;have e:eO (c:Int) 0=false:=by rw[fg];simp;omega
 rw[e];exact wP
def D8 {a c:Nat} (h:0<c/\ a<256):aY .quo (.i .u8 (a:Int)) (.i .u8 (c:Int))=some (.i .u8 ((a/c:Nat):Int)):=by
 show(bif eO (c:Int) 0 then none else ri .u8 (dN .u8 ((a:Int).tdiv (c:Int))))=_;have e:eO (c:Int) 0=false:=by rw[fg];simp;omega
 have e2:(a:Int).tdiv (c:Int)=((a/c:Nat):Int):=rfl;rw[e,e2,Rh (Ca (Ft a c) h.2)];exact wP
def tP {a c:Nat} (h:0<c):aY .rem (.i .u8 (a:Int)) (.i .u8 (c:Int))=some (.i .u8 ((a%c:Nat):Int)):=by
 show(bif eO (c:Int) 0 then none else ri .u8 ((a:Int).tmod (c:Int)))=_;have e:eO (c:Int) 0=false:=by rw[fg];simp;omega
 rw[e];exact wP
def az9 {a k:Nat} (h:k<=8):aY .shr (.i .u8 (a:Int)) (.i .u64 (k:Int))=some (.i .u8 ((a/2^k:Nat):Int)):=by
 show ri .u8 (Int.ofNat (Nat.div a (td .u8 k)))=_;have e:Nat.ble k IntKind.u8.bits=true:=by rw[dm];simp;exact h
 unfold td;rw[e];exact wP
def aA0 {a:Nat} (h:a<256):aY .and (.i .u8 (a:Int)) (.i .u8 1)=some (.i .u8 ((a%2:Nat):Int)):=by
 show(bif Nat.ble a (ow .u8)&&Nat.ble 1 (ow .u8) then ri .u8 (Int.ofNat (Nat.land a 1)) else _)=_;have e:(Nat.ble a (ow .u8)&&Nat.ble 1 (ow .u8))=true:=by
  have h1:a<=255:=by omega
  rw[dm,dm];simp[ow,h1]
 have e2:Nat.land a 1=a%2:=Fu a;rw[e,e2];exact wP
def aA1 {k:Nat} (h:k<60):aY .shl (ι 1) (.i .u64 (k:Int))=some (ι ((2^k:Nat):Int)):=by
 show ri .i64 (dN .i64 (Int.mul 1 (Int.ofNat (td .i64 k))))=_;have e:Nat.ble k IntKind.i64.bits=true:=by rw[dm];simp;show k<=64;omega
 unfold td;rw[e,show Int.mul 1 (Int.ofNat (Nat.pow 2 (bif true then k else IntKind.i64.bits)))=((2^k:Nat):Int) by simp,lj (Nat.lt_trans (Nat.pow_lt_pow_right ω h) (by decide))];exact wP
end AM
