import Derived.Test.YtcpcjocnnclcmaaGreatDoorN7
set_option linter.all false
namespace AM
open Go
def as4 {a b:Nat} (h:¬a=b):(a=b)=False:=eq_false h
def as5 {a b:Nat} (h:a=b):(a=b)=True:=eq_true h
def as6 {a b:Nat} (h:¬a<b):(a<b)=False:=eq_false h
def as7 {a b:Nat} (h:a<b):(a<b)=True:=eq_true h
def as8 {a b:Nat} (h:¬a<=b):(a<=b)=False:=eq_false h
def as9 {a b:Nat} (h:a<=b):(a<=b)=True:=eq_true h
def at0 {a b:Int} (h:¬a=b):(a=b)=False:=eq_false h
def at1 {a b:Int} (h:a=b):(a=b)=True:=eq_true h
def at2 {a b:Int} (h:¬a<b):(a<b)=False:=eq_false h
def at3 {a b:Int} (h:a<b):(a<b)=True:=eq_true h
def at4 {a b:Int} (h:¬a<=b):(a<=b)=False:=eq_false h
def at5 {a b:Int} (h:a<=b):(a<=b)=True:=eq_true h
def cF:=And.intro @as4<|And.intro @as5<|And.intro @as6<|And.intro @as7<|And.intro @as8<|And.intro @as9<|And.intro @at0<|And.intro @at1<|And.intro @at2<|And.intro @at3<|And.intro @at4 @at5
def F2:dI (ι 0)=some 0:=rfl
def J9:dI (ι 1)=some 1:=rfl
def M6:dI (ι 2)=some 2:=rfl
def Wn:((0:Nat):Int)=0:=rfl
def Iy {k:IntKind} {a b:Int}:aV .gtr (.i k a) (.i k b)=some (.b (decide (b<a))):=by
 show(bif rP k k then rb (gO b a) else none)=_;rw[ku,gG];show rb _=_;unfold rb;rw[rj]
def RK {k:IntKind} {a b:Int}:aV .leq (.i k a) (.i k b)=some (.b (decide (a<=b))):=by
 show(bif rP k k then rb (!(gO b a)) else none)=_;rw[ku,gG];show rb _=_;unfold rb;rw[rj];congr 2;rw[zw];simp
def hY {a b:Nat} (h:a+b<9223372036854775808):aV .add (ι (a:Int)) (ι (b:Int))=some (ι ((a+b:Nat):Int)):=by
 rw[oF ω];congr 2
def ar {a:Nat} (h:a+1<9223372036854775808):aV .add (ι (a:Int)) (ι 1)=some (ι ((a+1:Nat):Int)):=hY (b:=1) h
def oK {a b:Nat} (h:b<=a/\ a<9223372036854775808):aV .sub (ι (a:Int)) (ι (b:Int))=some (ι ((a-b:Nat):Int)):=by
 rw[lF ω];congr 2;omega
def pR:rG (fun n:Nat=>AV.i .i64 (n:Int)) (.lf .i) where
 eq:=fun a b=>by
  have:=(M5 (k:= .i64)).eq (a:Int) (b:Int);refine this.trans ?_;congr 1;rw[decide_eq_decide];omega
 q:=fun a=>(M5 (k:= .i64)).q (a:Int)
 self:=fun a=>(M5 (k:= .i64)).self (a:Int)
def mG:Option aU ->Option (List (AV×AV×Nat)×Nat)
 |some (.map _ l n)=>some (l,n)
 |_=>none
def tJ {v l n}:mG (some (.map v l n))=some (l,n):=rfl
def bA {κ ν:Type} {ek:κ ->AV} {en:ν ->AV} {h:AH} {o:Nat} {l:List (κ×ν)}:Ae ek en h o l↔mG (h.objs.get o)=some (cV ek en 0 l,l.length):=by
 constructor
 ·rintro⟨v,e⟩;rw[e];rfl
 ·intro e;unfold mG at e;split at e
  ·rename_i v l' n' e';cases e;exact⟨v,e'⟩
  ·cases e
attribute [go_sem] F2 J9 M6 Wn Iy RK cF
end AM
namespace AM
open Go
noncomputable section
def pS (h:AH) (esz:Nat) (s x:AV):bj:=match eI x,cR h esz x with
 |some n,some l=>eH h s n l esz
 |_,_=> .bad
def kU {ev:MA ->AV} {h:AH} {s x:MA} {esz b:Nat}:step ev h (.app s x esz b)=pS h esz (ev s) (ev x):=rfl
def apG (h:AH) (esz o n:Nat) (new:List AV):bj:=eH h (.sl o 0 n none esz) 1 new esz
def ZU (h:AH) (esz o n:Nat) (new:List AV):Option (List AV) ->bj
 |some L=>if L.length=n*esz/\ n+1<=1048576 then .v (.sl h.next 0 (n+1) none esz) ⟨h.next+1,h.ver+1,(h.objs.put o .gone).put h.next (.cells (h.ver+1) (L++new))⟩ else apG h esz o n new
 |none=>apG h esz o n new
def ap2 (h:AH) (esz:Nat) (s:AV) (new:List AV):bj:=eH h s 1 new esz
def Yj (h:AH) (esz:Nat) (s:AV) (o2:Nat):bj:=pS h esz s (.sl o2 0 1 (some 1) esz)
def Yk (h:AH) (esz:Nat) (s:AV) (o2:Nat):Option (List AV) ->bj
 |some new=>if new.length=esz/\ cE new=true then (match s with
  | .sn=> .v (.sl h.next 0 1 none esz) ⟨h.next+1,h.ver,h.objs.put h.next (.cells h.ver new)⟩
  | .sl o 0 n none e=>if e=esz then ZU h esz o n new (cG (h.objs.get o)) else ap2 h esz s new
  |s=>ap2 h esz s new) else Yj h esz s o2
 |none=>Yj h esz s o2
def Iz {h:AH} {esz o2:Nat} {s:AV}:pS h esz s (.sl o2 0 1 (some 1) esz)=Yk h esz s o2 (cG (h.objs.get o2)):=by
 cases hc:cG (h.objs.get o2) with
 |none=>rfl
 |some new=>
  unfold Yk;dsimp only;split
  ·rename_i hn;have el:cR h esz (.sl o2 0 1 (some 1) esz)=some new:=nT hc (gI ω);have e0:pS h esz s (.sl o2 0 1 (some 1) esz)=eH h s 1 new esz:=by unfold pS;rw[el];rfl
   split
   ·have:=uM (ev:=fun m=>match m with| .t 0=>AV.sn|_=> .sl o2 0 1 (some 1) esz) (h:=h) (s:= .t 0) (x:= .t 1) (b:=0) rfl rfl hc hn.1 hn.2;exact this
   ·rename_i o n e;split
    ·rename_i he;subst he;rw[e0];cases hL:cG (h.objs.get o) with
     |none=>rfl
     |some L=>
      unfold ZU;dsimp only;split
      ·rename_i hl;rw[←e0];exact uL (ev:=fun m=>match m with| .t 0=>AV.sl o 0 n none e|_=> .sl o2 0 1 (some 1) e) (h:=h) (s:= .t 0) (x:= .t 1) (b:=0) rfl hL hl.1 rfl hc hn.1 hn.2 hl.2
      ·rfl
    ·rw[e0];rfl
   ·rw[e0];rfl
  ·rfl
def M7 {h:AH} {esz o2:Nat} {new:List AV}:Yk h esz .sn o2 (some new)=if new.length=esz/\ cE new=true then .v (.sl h.next 0 1 none esz) ⟨h.next+1,h.ver,h.objs.put h.next (.cells h.ver new)⟩ else Yj h esz .sn o2:=rfl
def M8 {h:AH} {esz o n o2:Nat} {new:List AV}:Yk h esz (.sl o 0 n none esz) o2 (some new)=if new.length=esz/\ cE new=true then ZU h esz o n new (cG (h.objs.get o)) else Yj h esz (.sl o 0 n none esz) o2:=by
 simp[Yk]
def TM {h:AH} {esz o n:Nat} {new L:List AV}:ZU h esz o n new (some L)=if L.length=n*esz/\ n+1<=1048576 then .v (.sl h.next 0 (n+1) none esz) ⟨h.next+1,h.ver+1,(h.objs.put o .gone).put h.next (.cells (h.ver+1) (L++new))⟩ else apG h esz o n new:=rfl
def zd:=And.intro @kU<|And.intro @Iz<|And.intro @M7<|And.intro @M8 @TM
def m2 (h:AH):AV ->AV ->bj
 | .i .i64 a,.i .i64 b=> .v (ι (if b<a then b else a)) h
 | .i k a,y=>ig h (mJ gO k [y] a)
 |_,_=> .bad
def x2 (h:AH):AV ->AV ->bj
 | .i .i64 a,.i .i64 b=> .v (ι (if a<b then b else a)) h
 | .i k a,y=>ig h (mJ (fun x y=>gO y x) k [y] a)
 |_,_=> .bad
def RL {ev:MA ->AV} {h:AH} {x y:MA}:step ev h (.min [x,y])=m2 h (ev x) (ev y):=by
 have hs:step ev h (.min [x,y])=(match kK ev [x,y] with|some (.i k a::r)=>ig h (mJ gO k r a)|_=> .bad):=rfl;have hm:∀(p q:Int),mJ gO .i64 [.i .i64 q] p=(bif gO q p then some (ι q) else some (ι p)):=fun p q=>rfl
 rw[hs];simp only[mj,oE,pj];cases ev x<;>try rfl
 rename_i k a;cases ev y<;>cases k<;>try rfl
 rename_i k' b;cases k'<;>try rfl
 simp only[m2,hm,gG,m9];split<;>rfl
def RM {ev:MA ->AV} {h:AH} {x y:MA}:step ev h (.max [x,y])=x2 h (ev x) (ev y):=by
 have hs:step ev h (.max [x,y])=(match kK ev [x,y] with|some (.i k a::r)=>ig h (mJ (fun x y=>gO y x) k r a)|_=> .bad):=rfl;have hm:∀(p q:Int),mJ (fun x y=>gO y x) .i64 [.i .i64 q] p=(bif gO p q then some (ι q) else some (ι p)):=fun p q=>rfl
 rw[hs];simp only[mj,oE,pj];cases ev x<;>try rfl
 rename_i k a;cases ev y<;>cases k<;>try rfl
 rename_i k' b;cases k'<;>try rfl
 dsimp only;rw[hm,gG,m9];simp only[x2];split<;>rfl
def at6 {h:AH} {a b:Int}:m2 h (ι a) (ι b)= .v (ι (if b<a then b else a)) h:=rfl
def at7 {h:AH} {a b:Int}:x2 h (ι a) (ι b)= .v (ι (if a<b then b else a)) h:=rfl
def pU:=And.intro @RL<|And.intro @RM<|And.intro @at6 @at7
end
end AM
namespace AM
open Dg Go
noncomputable section
def kX (V:List Nat):List (Nat×Nat):=(0,0)::(1,1)::V.zipIdx.map fun p=>(p.1,p.2+2)
def DQ {n:Nat}:∀(V:List Nat) (i:Nat),look n ((V.zipIdx i).map fun p=>(p.1,p.2+2))=if n∈V then some (V.idxOf n+i+2) else none
 |[],i=>by simp[look]
 |a::V,i=>by
  simp only[List.zipIdx_cons,iR,look,DQ V (i+1),bY,Vm];by_cases e:n=a
  ·subst e;simp
  ·have e':(a==n)=false:=by simp;exact fun h=>e h.symm
   simp only[e,if_false,false_or,e',cond_false];split
   ·congr 1;omega
   ·rfl
def qz {n:Nat} {V:List Nat} (h2:∀m∈V,2<=m):look n (kX V)=if n<2∨n∈V then some (nb V n) else none:=by
 unfold kX;simp only[look,DQ V 0];by_cases h0:n=0
 ·subst h0;simp[nb]
 ·by_cases h1:n=1
  ·subst h1;simp[nb]
  ·simp only[h0,h1,if_false];have:¬n<2:=by omega
   by_cases hm:n∈V<;>simp[hm,this,nb]
def OB {V:List Nat} {n:Nat}:kX (V++[n])=kX V++[(n,V.length+2)]:=by
 unfold kX;simp[List.zipIdx_append]
def kD {B:List Br} {V:List Nat}:(mw B V).length=V.length:=by simp[mw]
structure VS (q bo p o:Nat) (B:List Br) (V:List Nat) (oo:Nat) (h:AH):Prop where
 lb:bo<q
 lo:B≠[] ->o<q
 cb:∃a,cG (h.objs.get bo)=some [a,.m p]/\ ce h.objs.get o B a
 c0:cG (h.objs.get q)=some [.p bo 0]
 c2:∃a,cG (h.objs.get (q+2))=some [a,.i .i64 0]/\ ce h.objs.get oo (mw B V) a
 c3:Ae (fun n:Nat=>AV.i .i64 (n:Int)) eN h (q+3) (kX V)
 c4:cG (h.objs.get (q+4))=some [.m (q+3)]
 c5:cG (h.objs.get (q+5))=some [.f 301 [] [.p (q+4) 0,.p q 0,.p (q+5) 0,.p (q+2) 0]]
 next:q+6<=h.next
 nodes:V≠[] ->q+6<=oo/\ oo<h.next
structure VF (q:Nat) (V:List Nat) (oo:Nat) (h:AH) (V':List Nat) (oo':Nat) (h':AH):Prop where
 next:h.next<=h'.next
 same:∀j,j<h.next ->j≠q+2 ->j≠q+3 ->(V≠[] ->j≠oo) ->h'.objs.get j=h.objs.get j
 new:V'≠[] ->(V≠[]/\ oo'=oo)∨h.next<=oo'
def VF.trans {q oo oo' oo'':Nat} {V V' V'':List Nat} {h h' h'':AH} (a:VF q V oo h V' oo' h') (b:VF q V' oo' h' V'' oo'' h''):VF q V oo h V'' oo'' h'':=
 ⟨fq a.next b.next,fun j h1 h2 h3 h4=>by
  have h7:V'≠[] ->j≠oo':=fun hv=>by
   rcases a.new hv with ⟨h5,h6⟩|h5
   ·rw[h6];exact h4 h5
   ·omega
  rw[b.same j (il h1 a.next) h2 h3 h7,a.same j h1 h2 h3 h4],fun hv=>by
  have:=a.next;rcases b.new hv with ⟨h5,h6⟩|h5
  ·rw[h6];exact a.new h5
  ·exact .inr ω⟩
def ce.mono {g g':Nat ->Option aU} {o:Nat} {B:List Br} {a:AV} (h:ce g o B a) (e:B≠[] ->g' o=g o):ce g' o B a:=by
 rcases h with h|⟨h1,h2,h3⟩
 ·exact .inl h
 ·exact .inr ⟨h1,h2,by rw[e h1];exact h3⟩
def VS.mono {q bo p o:Nat} {B:List Br} {V:List Nat} {oo:Nat} {h h':AH} (s:VS q bo p o B V oo h) (hn:h.next<=h'.next) (e:∀j,(j<q+6∨(V≠[]/\ j=oo)) ->h'.objs.get j=h.objs.get j):VS q bo p o B V oo h':=by
 have eb:=s.lb;have eo:=s.lo;exact {
  lb:=s.lb
  lo:=s.lo
  cb:=by obtain⟨a,h1,h2⟩:=s.cb;exact⟨a,by rw[e bo ω];exact h1,h2.mono fun hb=>e o (by have:=eo hb;omega)⟩
  c0:=by rw[e q ω];exact s.c0
  c2:=by obtain⟨a,h1,h2⟩:=s.c2;exact⟨a,by rw[e _ ω];exact h1,h2.mono fun hb=>e oo (.inr ⟨fun h=>hb (by rw[h];rfl),rfl⟩)⟩
  c3:=by obtain⟨w,h1⟩:=s.c3;exact⟨w,by rw[e _ ω];exact h1⟩
  c4:=by rw[e _ ω];exact s.c4
  c5:=by rw[e _ ω];exact s.c5
  next:=fq s.next hn
  nodes:=fun hv=>⟨(s.nodes hv).1,il (s.nodes hv).2 hn⟩ }
def VS.step {q bo p o:Nat} {B:List Br} {V V':List Nat} {oo oo':Nat} {h h':AH} (s:VS q bo p o B V oo h) (hn:h.next<=h'.next) (e:∀j,j<q+6 ->j≠q+2 ->j≠q+3 ->h'.objs.get j=h.objs.get j)
 (c2:∃a,cG (h'.objs.get (q+2))=some [a,.i .i64 0]/\ ce h'.objs.get oo' (mw B V') a) (c3:Ae (fun n:Nat=>AV.i .i64 (n:Int)) eN h' (q+3) (kX V')) (hnodes:V'≠[] ->q+6<=oo'/\ oo'<h'.next):VS q bo p o B V' oo' h':=by
 have eb:=s.lb;have eo:=s.lo;exact {
  lb:=s.lb
  lo:=s.lo
  cb:=by obtain⟨a,h1,h2⟩:=s.cb;exact⟨a,by rw[e bo ω ω ω];exact h1,h2.mono fun hb=>e o (by have:=eo hb;omega) (by have:=eo hb;omega) (by have:=eo hb;omega)⟩
  c0:=by rw[e q ω ω ω];exact s.c0
  c2:=c2
  c3:=c3
  c4:=by rw[e _ ω ω ω];exact s.c4
  c5:=by rw[e _ ω ω ω];exact s.c5
  next:=fq s.next hn
  nodes:=hnodes }
section
variable {P:Program} {X:dy} {GL:T (List AV)} {fns:T aR}
set_option maxHeartbeats 4000000 in
def Kj {C:cQ Prop} (E:gW P X GL fns C) (F:gD fns) {q bo p o:Nat} {B:List Br} (ok:OK B) (hl:B.length<=1000000):
 ∀(d n:Nat) (V:List Nat) (oo:Nat) (h:AH) (k:AV ->AH ->Prop),3-dV B n<=d ->In B n ->Cl B V ->V.length+2^d<=1000000 ->VS q bo p o B V oo h ->
  (∀oo' h',VS q bo p o B (dP B d n V) oo' h' ->VF q V oo h (dP B d n V) oo' h' ->(dP B d n V).length+1<=V.length+2^d ->k (ι (nb (dP B d n V) n:Int)) h') ->
  bZ C 301 [.i .i64 (n:Int),.p (q+4) 0,.p q 0,.p (q+5) 0,.p (q+2) 0] h k:=by
 intro d;induction d with
 |zero=>
  intro n V oo h k hd hn cl hlen s hk;obtain⟨nx,ver,ob⟩:=h;have n2:n<2:=by
   rcases hn.cases with h|⟨i,b,rfl,hb⟩
   ·exact h
   ·rw[bH hb] at hd;have:=ok.v _ _ hb;omega
  have c4:=s.c4;obtain⟨ver3,c3⟩:=s.c3;have lk:∀ver' ob' (ev:MA ->AV),T.get ob' (q+3)=some (.map ver3 (cV (fun n:Nat=>AV.i .i64 (n:Int)) eN 0 (kX V)) (kX V).length) ->ev (.t 13)= .m (q+3) ->ev (.t 14)= .i .i64 (n:Int) ->
   step ev ⟨nx,ver',ob'⟩ (.look (.lf .i) (.t 13) (.t 14) (ι 0) true)= .v (sQ eN (ι 0) (look n (kX V))) ⟨nx,ver',ob'⟩:=
   fun ver' ob' ev q1 q2 q3=>kx (k:=n) (z:= .i .i64 0) pR (h:=⟨nx,ver',ob'⟩) ⟨ver3,q1⟩ q2 q3
  have hlk:=qz (n:=n) (V:=V) fun m hm=>(cl.two m hm).1
  rw[if_pos (.inl n2)] at hlk;rw[eY E.ok (E.get F.f301)];dsimp only at c4 c3;simp only[Ah,B4,B5,B6,↓dJ E.ok,↓dK,↓dM,bw,dL,c4,c3,lk,hlk,sQ,eN,Nat.reduceEqDiff,Nat.reduceAdd,Nat.reduceShiftRight,Nat.reduceAnd,Nat.reduceBneDiff,reduceIte,aP,aH9,go_sem];exact hk oo _ s ⟨bK _,fun _ _ _ _ _=>rfl,fun h=> .inl ⟨h,rfl⟩⟩ (by simp[dP])
 |succ d ih=>
  intro n V oo h k hd hn cl hlen s hk;obtain⟨nx,ver,ob⟩:=h;have pw:2^(d+1)=2*2^d:=Bo;have pw1:1<=2^d:=Bn;have c4:=s.c4;obtain⟨ver3,c3⟩:=s.c3;have lk:∀ver' ob' (ev:MA ->AV),T.get ob' (q+3)=some (.map ver3 (cV (fun n:Nat=>AV.i .i64 (n:Int)) eN 0 (kX V)) (kX V).length) ->ev (.t 13)= .m (q+3) ->ev (.t 14)= .i .i64 (n:Int) ->
   step ev ⟨nx,ver',ob'⟩ (.look (.lf .i) (.t 13) (.t 14) (ι 0) true)= .v (sQ eN (ι 0) (look n (kX V))) ⟨nx,ver',ob'⟩:=
   fun ver' ob' ev q1 q2 q3=>kx (k:=n) (z:= .i .i64 0) pR (h:=⟨nx,ver',ob'⟩) ⟨ver3,q1⟩ q2 q3
  have hlk:=qz (n:=n) (V:=V) fun m hm=>(cl.two m hm).1
  rw[eY E.ok (E.get F.f301)];dsimp only at c4 c3;by_cases hin:n<2∨n∈V
  ·rw[if_pos hin] at hlk;simp only[Ah,B4,B5,B6,↓dJ E.ok,↓dK,↓dM,bw,dL,c4,c3,lk,hlk,sQ,eN,Nat.reduceEqDiff,Nat.reduceAdd,Nat.reduceShiftRight,Nat.reduceAnd,Nat.reduceBneDiff,reduceIte,aP,aH9,go_sem];have e:dP B (d+1) n V=V:=by simp only[dP,if_pos hin]
   rw[e] at hk;exact hk oo _ s ⟨bK _,fun _ _ _ _ _=>rfl,fun h=> .inl ⟨h,rfl⟩⟩ ω
  ·rw[if_neg hin] at hlk;rcases hn.cases with h|⟨i,b,rfl,hb⟩
   ·exact absurd (.inl h) hin
   have e:dP B (d+1) (i+2) V=dP B d b.2.2 (dP B d b.2.1 V)++[i+2]:=by simp only[dP,if_neg hin,show i+2-2=i by omega,hb]
   rw[e] at hk;rw[bH hb] at hd;have l1:=ok.l _ _ hb;have l2:=ok.h _ _ hb;have hi:=In.of hb;have i1:In B b.2.1:=by unfold In at*;omega
   have i2:In B b.2.2:=by unfold In at*;omega
   have hlt:i<B.length:=(cW.1 hb).1;have hB:B≠[]:=fun h=>by rw[h] at hlt;simp at hlt
   obtain⟨ab,cb,nbA⟩:=s.cb;rcases nbA with ⟨h1,_⟩|⟨_,rfl,verB,cB⟩
   ·exact absurd h1 hB
   have c0:=s.c0;have c5:=s.c5;have hlb:=s.lb;have hlo:=s.lo hB;have hnx:q+6<=nx:=s.next;have hnd:V≠[] ->q+6<=oo/\ oo<nx:=s.nodes;have e4:sub (iP B) (i*3) 3=some [.i .i64 (b.1:Int),.i .i64 (b.2.1:Int),.i .i64 (b.2.2:Int)]:=by have:=gu hb 0 3 ω;simpa[oM] using this
   have es:aV .sub (ι ((i+2:Nat):Int)) (ι 2)=some (ι (i:Int)):=by rw[lF ω];congr 2;omega
   dsimp only at cb c0 c5 cB;simp(disch:=first|omega|(simp(disch:=omega) only[cF,mR,T.get_put,c3,o9,Nat.reduceEqDiff,reduceIte];done)) only[Ah,B4,B5,B6,Ol,Oo,Om,↓dJ E.ok,↓dK,↓dM,bw,dL,c4,c3,cb,c0,c5,cB,e4,es,hlt,lk,hlk,sQ,eN,Nat.reduceEqDiff,Nat.reduceAdd,Nat.reduceShiftRight,Nat.reduceAnd,Nat.reduceBneDiff,reduceIte,aP,aH9,go_sem];have s0:VS q bo p o B V oo ⟨nx+1,ver+1,(ob.put nx (.cells ver [.i .i64 0,.i .i64 0,.i .i64 0])).put nx (.cells (ver+1) [.i .i64 (b.1:Int),.i .i64 (b.2.1:Int),.i .i64 (b.2.2:Int)])⟩:=
    s.mono (by show nx<=nx+1;omega) fun j hj=>by
     have hj':¬j=nx:=by
      rcases hj with h|⟨h,rfl⟩
      ·omega
      ·have:=hnd h;omega
     simp only[T.get_put,if_neg hj']
   refine E.run (ih b.2.1 V oo _ _ ω i1 cl ω s0 ?_);rintro oo1 ⟨nx1,ver1,ob1⟩ s1 f1 len1;generalize hV1:dP B d b.2.1 V=V1 at s1 f1 len1 e hk;obtain⟨cl1,m1⟩:=qy ok d b.2.1 V cl i1 ω;rw[hV1] at cl1 m1;have x1:cG (ob1.get nx)=some [.i .i64 (b.1:Int),.i .i64 (b.2.1:Int),.i .i64 (b.2.2:Int)]:=by
    rw[show ob1.get nx=_ from f1.same nx (by show nx<nx+1;omega) ω ω (fun hv=>by have:=hnd hv;omega)];simp only[T.get_put,if_true,dB]
   have c51:=s1.c5;dsimp only at c51;simp(disch:=omega) only[On,↓dJ E.ok,↓dK,↓dM,bw,dL,x1,c51,Nat.reduceEqDiff,Nat.reduceAdd,Nat.reduceShiftRight,Nat.reduceAnd,Nat.reduceBneDiff,reduceIte,go_sem];have hlen1:V1.length+1<=V.length+2^d:=len1;refine E.run (ih b.2.2 V1 oo1 _ _ ω i2 cl1 ω s1 ?_);rintro oo2 ⟨nx2,ver2,ob2⟩ s2 f2 len2;generalize hV2:dP B d b.2.2 V1=V2 at s2 f2 len2 e hk;obtain⟨cl2,m2⟩:=qy ok d b.2.2 V1 cl1 i2 ω;rw[hV2] at cl2 m2;have hn1:nx+1<=nx1:=f1.next;have hn2:nx1<=nx2:=f2.next;have x2:cG (ob2.get nx)=some [.i .i64 (b.1:Int),.i .i64 (b.2.1:Int),.i .i64 (b.2.2:Int)]:=by
    rw[show ob2.get nx=_ from f2.same nx (by show nx<nx1;omega) ω ω (fun hv=>by
     rcases f1.new hv with ⟨h5,h6⟩|h5
     ·have:=hnd h5;omega
     ·have h5':nx+1<=oo1:=h5;omega)]
    exact x1
   have hnin:i+2∉V2:=by have:=DP ok (d:=d) hb (V:=V) (fun h=>hin (.inr h));rw[hV1,hV2] at this;exact this
   have f12:=f1.trans f2;have hq2:=s2.next;dsimp only at hq2;have hnd2:V2≠[] ->q+6<=oo2/\ oo2<nx2:=s2.nodes;obtain⟨a2,c2,nbO⟩:=s2.c2;obtain⟨ver23,c32⟩:=s2.c3;have c42:=s2.c4;dsimp only at c2 c32 c42 nbO;have hl2:V2.length+1<=V1.length+2^d:=len2;have hlen2:V2.length+1<=V.length+2^(d+1)-1:=by omega
   have hll:look (i+2) (kX V2)=none:=by rw[qz fun m hm=>(cl2.two m hm).1,if_neg (fun h=>h.elim ω hnin)]
   have hup:ups (i+2) (V2.length+2) (kX V2)=kX (V2++[i+2]):=by rw[nS hll,OB]
   have hout:mw B (V2++[i+2])=mw B V2++[(b.1,nb V2 b.2.1,nb V2 b.2.2)]:=DN cl2 (by rw[show i+2-2=i by omega];exact hb) (by
    rcases m1 with h|h
    ·exact .inl h
    ·right;rw[←hV2];obtain⟨W,hW⟩:=tQ (B:=B) d b.2.2 V1;rw[hW];exact Bd _ h) m2
   have hnb1:nb V1 b.2.1=nb V2 b.2.1:=by rw[←hV2];obtain⟨W,hW⟩:=tQ (B:=B) d b.2.2 V1;rw[hW,sj m1]
   have hnbn:nb (V2++[i+2]) (i+2)=V2.length+2:=GK ω hnin;have hlk2:look (i+2) (kX (V2++[i+2]))=some (V2.length+2):=by
    rw[qz fun m hm=>(eV.1 hm).elim (fun h=>(cl2.two m h).1) (fun h=>by rw[dY.1 h];omega),if_pos (.inr (by simp)),hnbn]
   have mu:∀ver' ob' (ev:MA ->AV),T.get ob' (q+3)=some (.map ver23 (cV (fun n:Nat=>AV.i .i64 (n:Int)) eN 0 (kX V2)) (kX V2).length) ->ev (.t 46)= .m (q+3) ->ev (.t 47)= .i .i64 ((i+2:Nat):Int) ->ev (.t 51)= .i .i64 ((V2.length+2:Nat):Int) ->
    step ev ⟨nx2+1+1,ver',ob'⟩ (.mupd (.lf .i) (.t 46) (.t 47) (.t 51))= .v .un ⟨nx2+1+1,ver'+1,ob'.put (q+3) (.map (ver'+1) (cV (fun n:Nat=>AV.i .i64 (n:Int)) eN 0 (kX (V2++[i+2]))) (kX (V2++[i+2])).length)⟩:=
    fun ver' ob' ev q1 q2 q3 q4=>by
     have:=gH (k:=i+2) (v:=V2.length+2) (en:=eN) pR (h:=⟨nx2+1+1,ver',ob'⟩) ⟨ver23,q1⟩ q2 q3 q4;rw[hup] at this;exact this
   have lk8:∀ver' ob' (ev:MA ->AV),mG (T.get ob' (q+3))=some (cV (fun n:Nat=>AV.i .i64 (n:Int)) eN 0 (kX (V2++[i+2])),(kX (V2++[i+2])).length) ->ev (.t 52)= .m (q+3) ->ev (.t 53)= .i .i64 ((i+2:Nat):Int) ->
    step ev ⟨nx2+1+1,ver',ob'⟩ (.look (.lf .i) (.t 52) (.t 53) (ι 0) false)= .v (ι ((V2.length+2:Nat):Int)) ⟨nx2+1+1,ver',ob'⟩:=
    fun ver' ob' ev q1 q2 q3=>by
     have:=j4 (k:=i+2) (z:= .i .i64 0) (en:=eN) pR (h:=⟨nx2+1+1,ver',ob'⟩) (bA.2 q1) q2 q3;rw[hlk2] at this;exact this
   rcases nbO with ⟨hO,rfl⟩|⟨hO,rfl,verO,cO⟩
   ·have hV2n:V2=[]:=by have:=congrArg List.length hO;rw[kD] at this;exact lA this
    have ad:aV .add (ι ((1:Nat):Int)) (ι 1)=some (ι ((V2.length+2:Nat):Int)):=by rw[oF ω];rw[hV2n];rfl
    have ap0:∀ver' ob' (ev:MA ->AV),cG (T.get ob' nx2)=some [.i .i64 (b.1:Int),.i .i64 (nb V1 b.2.1:Int),.i .i64 (nb V2 b.2.2:Int)] ->ev (.t 37)= .sn ->ev (.t 43)= .sl nx2 0 1 (some 1) 3 ->
     step ev ⟨nx2+1,ver',ob'⟩ (.app (.t 37) (.t 43) 3 24)= .v (.sl (nx2+1) 0 1 none 3) ⟨nx2+1+1,ver',ob'.put (nx2+1) (.cells ver' [.i .i64 (b.1:Int),.i .i64 (nb V1 b.2.1:Int),.i .i64 (nb V2 b.2.2:Int)])⟩:=
     fun ver' ob' ev q1 q2 q3=>uM (h:=⟨nx2+1,ver',ob'⟩) q2 q3 (mq.trans q1) rfl rfl
    simp(disch:=first|omega|(simp(disch:=omega) only[cF,mR,T.get_put,c32,dB,tJ,o9,Nat.reduceEqDiff,reduceIte];done)) only[Gg,Gh,Gi,ap0,mu,lk8,ad,↓dJ E.ok,↓dK,↓dM,bw,dL,x2,c2,c42,Nat.reduceEqDiff,Nat.reduceAdd,Nat.reduceShiftRight,Nat.reduceAnd,Nat.reduceBneDiff,reduceIte,go_sem];rw[←hnbn];refine hk (nx2+1) _ (s2.step (by show nx2<=nx2+1+1;omega) (fun j h1 h2 h3=> ?_) ⟨.sl (nx2+1) 0 1 none 3,?_,.inr ⟨by rw[hout];simp,?_,ver2,?_⟩⟩ ?_ (fun _=>⟨by omega,by show nx2+1<nx2+1+1;omega⟩))
     (VF.trans (VF.trans (⟨by show nx<=nx+1;omega,fun j h1 _ _ _=> ?_,fun h=> .inl ⟨h,rfl⟩⟩:VF q V oo ⟨nx,ver,ob⟩ V oo _) f12) ⟨by show nx2<=nx2+1+1;omega,fun j h1 h2 h3 h4=> ?_,fun _=> .inr (by show nx2<=nx2+1;omega)⟩) (by simp only[cX,pq];omega)
    ·simp(disch:=omega) only[cF,T.get_put,if_false]
    ·simp(disch:=omega) only[cF,T.get_put,if_false,if_true,dB]
    ·rw[kD,hV2n];rfl
    ·simp(disch:=omega) only[cF,T.get_put,if_false,if_true];rw[hout,hO,hnb1];rfl
    ·exact bA.2 (by simp(disch:=omega) only[cF,T.get_put,if_false,if_true,tJ])
    ·have h1':¬j=nx:=by have h1':j<nx:=h1;omega
     simp only[T.get_put,if_neg h1']
    ·have h1':j<nx2:=h1;simp(disch:=omega) only[cF,T.get_put,if_false]
   ·have hV2n:V2≠[]:=fun h=>hO (by rw[h];rfl)
    have hno:=hnd2 hV2n;rw[kD] at c2;have ad:aV .add (ι ((V2.length+1:Nat):Int)) (ι 1)=some (ι ((V2.length+2:Nat):Int)):=by rw[oF ω];congr 2
    have ap1:∀ver' ob' (ev:MA ->AV),cG (T.get ob' nx2)=some [.i .i64 (b.1:Int),.i .i64 (nb V1 b.2.1:Int),.i .i64 (nb V2 b.2.2:Int)] ->cG (T.get ob' oo2)=some (iP (mw B V2)) ->ev (.t 37)= .sl oo2 0 V2.length none 3 ->ev (.t 43)= .sl nx2 0 1 (some 1) 3 ->
     step ev ⟨nx2+1,ver',ob'⟩ (.app (.t 37) (.t 43) 3 24)= .v (.sl (nx2+1) 0 (V2.length+1) none 3) ⟨nx2+1+1,ver'+1,(ob'.put oo2 .gone).put (nx2+1) (.cells (ver'+1) (iP (mw B V2)++[.i .i64 (b.1:Int),.i .i64 (nb V1 b.2.1:Int),.i .i64 (nb V2 b.2.2:Int)]))⟩:=
     fun ver' ob' ev q1 q0 q2 q3=>uL (h:=⟨nx2+1,ver',ob'⟩) q2 (mq.trans q0) (by rw[wH,kD]) q3 (mq.trans q1) rfl rfl ω
    simp(disch:=first|omega|(simp(disch:=omega) only[cF,mR,T.get_put,c32,cO,dB,tJ,o9,Nat.reduceEqDiff,reduceIte];done)) only[Gg,Gh,Gi,ap1,mu,lk8,ad,↓dJ E.ok,↓dK,↓dM,bw,dL,x2,c2,c42,Nat.reduceEqDiff,Nat.reduceAdd,Nat.reduceShiftRight,Nat.reduceAnd,Nat.reduceBneDiff,reduceIte,go_sem];rw[←hnbn];refine hk (nx2+1) _ (s2.step (by show nx2<=nx2+1+1;omega) (fun j h1 h2 h3=> ?_) ⟨.sl (nx2+1) 0 (V2.length+1) none 3,?_,.inr ⟨by rw[hout];simp,?_,ver2+1,?_⟩⟩ ?_ (fun _=>⟨by omega,by show nx2+1<nx2+1+1;omega⟩))
     (VF.trans (VF.trans (⟨by show nx<=nx+1;omega,fun j h1 _ _ _=> ?_,fun h=> .inl ⟨h,rfl⟩⟩:VF q V oo ⟨nx,ver,ob⟩ V oo _) f12) ⟨by show nx2<=nx2+1+1;omega,fun j h1 h2 h3 h4=> ?_,fun _=> .inr (by show nx2<=nx2+1;omega)⟩) (by simp only[cX,pq];omega)
    ·simp(disch:=omega) only[cF,T.get_put,if_false]
    ·simp(disch:=omega) only[cF,T.get_put,if_false,if_true,dB]
    ·rw[kD];simp
    ·simp(disch:=omega) only[cF,T.get_put,if_false,if_true];rw[hout,hnb1,si];rfl
    ·exact bA.2 (by simp(disch:=omega) only[cF,T.get_put,if_false,if_true,tJ])
    ·have h1':¬j=nx:=by have h1':j<nx:=h1;omega
     simp only[T.get_put,if_neg h1']
    ·have h1':j<nx2:=h1;have h4':j≠oo2:=h4 hV2n;simp(disch:=omega) only[cF,T.get_put,if_false]
set_option maxHeartbeats 4000000 in
def DR {C:cQ Prop} (E:gW P X GL fns C) (F:gD fns) {bo p o m ver r:Nat} {B:List Br} {ob:T aU} {a0:AV} (ok:OK B) (hl:B.length<=1000000) (hr:In B r) (cb:cG (ob.get bo)=some [a0,.m p]) (na:ce ob.get o B a0) (hb:bo<m) (ho:B≠[] ->o<m)
 (k:AV ->AH ->Prop) (hk:∀a oo h',ce h'.objs.get oo (ax (tr B 3 r)).1 a ->m<=h'.next ->(∀j,j<m ->h'.objs.get j=ob.get j) ->(ax (tr B 3 r)).1.length<=7 ->(a= .sn∨(m<=oo/\ oo<h'.next)) ->k (.ag [a,.i .i64 ((ax (tr B 3 r)).2:Int)]) h'):
 bZ C 196 [.p bo 0,.i .i64 (r:Int)] ⟨m,ver,ob⟩ k:=by
 have F2:dI (ι 0)=some 0:=rfl;have mu:∀ver' ob' (τ:T AV),mG (T.get ob' (m+1+1+1))=some ([],0) ->bp C τ (.t 9)= .m (m+1+1+1) ->
  step (bp C τ) ⟨m+1+1+1+1,ver',ob'⟩ (.mupd (.lf .i) (.t 9) (.c (ι 0)) (.c (ι 0)))= .v .un ⟨m+1+1+1+1,ver'+1,ob'.put (m+1+1+1) (.map (ver'+1) (cV (fun n:Nat=>AV.i .i64 (n:Int)) eN 0 [(0,0)]) 1)⟩:=
  fun ver' ob' τ q1 q2=>gH (k:=0) (v:=0) (en:=eN) (l:=[]) pR (h:=⟨m+1+1+1+1,ver',ob'⟩) (bA.2 q1) q2 rfl rfl
 have mu2:∀ver' ob' (τ:T AV),mG (T.get ob' (m+1+1+1))=some (cV (fun n:Nat=>AV.i .i64 (n:Int)) eN 0 [(0,0)],1) ->bp C τ (.t 9)= .m (m+1+1+1) ->
  step (bp C τ) ⟨m+1+1+1+1,ver',ob'⟩ (.mupd (.lf .i) (.t 9) (.c (ι 1)) (.c (ι 1)))= .v .un ⟨m+1+1+1+1,ver'+1,ob'.put (m+1+1+1) (.map (ver'+1) (cV (fun n:Nat=>AV.i .i64 (n:Int)) eN 0 [(0,0),(1,1)]) 2)⟩:=
  fun ver' ob' τ q1 q2=>gH (k:=1) (v:=1) (en:=eN) (l:=[(0,0)]) pR (h:=⟨m+1+1+1+1,ver',ob'⟩) (bA.2 q1) q2 rfl rfl
 rw[eY E.ok (E.get F.f196)];simp(disch:=first|omega|(simp(disch:=omega) only[cF,mR,tF,T.get_put,tJ,o9,Nat.reduceEqDiff,reduceIte];done)) only[II,Oe,Of,Og,Oh,Oi,Ok,mu,mu2,↓dJ E.ok,↓dK,↓dM,bw,dL,Nat.reduceEqDiff,Nat.reduceAdd,Nat.reduceShiftRight,Nat.reduceAnd,Nat.reduceBneDiff,reduceIte,go_sem];refine E.run (Kj (q:=m) (bo:=bo) (p:=p) (o:=o) E F ok hl 3 r [] 0 _ _ ω hr Cl.nil (by simp) ⟨hb,ho,⟨a0,?_,na.mono fun h=> ?_⟩,?_,⟨.sn,?_,.inl ⟨rfl,rfl⟩⟩,bA.2 ?_,?_,?_,?_,?_⟩ ?_)
 ·simp(disch:=omega) only[cF,T.get_put,if_false];exact cb
 ·have:=ho h;simp(disch:=omega) only[cF,T.get_put,if_false]
 ·simp(disch:=omega) only[cF,T.get_put,if_false,if_true,dB]
 ·simp(disch:=omega) only[cF,T.get_put,if_false,if_true,dB]
 ·simp(disch:=omega) only[cF,T.get_put,if_false,if_true,tJ];rfl
 ·simp(disch:=omega) only[cF,T.get_put,if_false,if_true,dB]
 ·simp(disch:=omega) only[cF,T.get_put,if_false,if_true,dB]
 ·exact bK _
 ·exact fun h=>absurd rfl h
 rintro oo ⟨n2,ver2,ob2⟩ s2 f2 len2;obtain⟨a,c2,nA⟩:=s2.c2;have hq2:m+6<=n2:=s2.next;have hcan:=ym ok hr (d:=3) ω;have b1:cG (ob2.get (m+1))=some [.sn,.i .i64 0]:=by
  rw[show ob2.get (m+1)=_ from f2.same (m+1) (by show m+1<m+1+1+1+1+1+1;omega) ω ω (fun h=>absurd rfl h)];simp(disch:=omega) only[cF,T.get_put,if_false,if_true,dB]
 dsimp only at c2;have sa:bU a=true:=by rcases nA with ⟨_,rfl⟩|⟨_,rfl,_⟩<;>rfl
 simp(disch:=omega) only[Oj,↓dJ E.ok,↓dK,↓dM,bw,dL,c2,b1,sa,Nat.reduceEqDiff,Nat.reduceAdd,Nat.reduceShiftRight,Nat.reduceAnd,Nat.reduceBneDiff,reduceIte,aP,aH9,go_sem];have e1:mw B (dP B 3 r [])=(ax (tr B 3 r)).1:=congrArg Prod.fst hcan;have e2:nb (dP B 3 r []) r=(ax (tr B 3 r)).2:=congrArg Prod.snd hcan;rw[e2];have hoo:a= .sn∨(m<=oo/\ oo<n2):=by
  rcases nA with ⟨_,h⟩|⟨h,_⟩
  ·exact .inl h
  ·have h2:m+6<=oo/\ oo<n2:=s2.nodes (fun hv=>h (by rw[hv];rfl));exact .inr ω
 rw[e1] at nA;refine hk a oo _ (nA.mono fun h=> ?_) (by show m<=n2;omega) (fun j hj=> ?_) (by rw[←e1,kD];have:(dP B 3 r []).length+1<=0+2^3:=len2;omega) hoo
 ·have hno:m+6<=oo:=(s2.nodes (fun hv=>h (by rw[←e1,hv];rfl))).1;simp(disch:=omega) only[cF,T.get_put,if_false]
 ·simp(disch:=omega) only[cF,T.get_put,if_false];rw[show ob2.get j=_ from f2.same j (by show j<m+1+1+1+1+1+1;omega) ω ω (fun h=>absurd rfl h)];simp(disch:=omega) only[cF,T.get_put,if_false]
set_option maxHeartbeats 4000000 in
def DS {C:cQ Prop} (S:aw P X GL fns) (E:gW P X GL fns C) (F:gD fns) {NA NB:List Br} {ra rb:Nat} {opf:AV} {g:Bool ->Bool ->Bool} (hop:Yt C opf g) (aW:OK NA) (okB:OK NB) (la:NA.length<=4096) (lb:NB.length<=4096) (ia:In NA ra) (ib:In NB rb)
 {ver:Nat} {ob:T aU} (c5:cG (ob.get 5)=some [opf]) {t:Tr} (ht:eF g (tr NA 3 ra) (tr NB 3 rb)=t) (k:AV ->AH ->Prop)
 (hk:∀a oo h',ce h'.objs.get oo (ax t).1 a ->17<=h'.next ->(∀j,j<8 ->h'.objs.get j=ob.get j) ->(ax t).1.length<=7 ->(a= .sn∨(17<=oo/\ oo<h'.next)) ->k (.ag [a,.i .i64 ((ax t).2:Int)]) h'):
 bZ C 292 [.ag [fG NA,.i .i64 (ra:Int),fG NB,.i .i64 (rb:Int),.sn,.i .i64 0],.f 293 [] [.p 5 0]] ⟨8,ver,ob⟩ k:=by
 have F2:dI (ι 0)=some 0:=rfl;have J9:dI (ι 1)=some 1:=rfl;have M6:dI (ι 2)=some 2:=rfl;rw[eY E.ok (E.get F.f292)];simp(disch:=omega) only[TX,NJ,Gf,↓dJ E.ok,↓dK,↓dM,bw,dL,Nat.reduceEqDiff,Nat.reduceAdd,Nat.reduceMul,Nat.reduceLT,Nat.reduceShiftRight,Nat.reduceAnd,Nat.reduceBneDiff,reduceIte,go_sem];refine E.run ?_;rw[eY E.ok (E.get F.f423)];simp(disch:=omega) only[TY,NO,Gf,NK,NL,NM,NN,↓dJ E.ok,↓dK,↓dM,bw,dL,Nat.reduceEqDiff,Nat.reduceAdd,Nat.reduceMul,Nat.reduceLT,Nat.reduceShiftRight,Nat.reduceAnd,Nat.reduceBneDiff,reduceIte,aP,aH9,go_sem];have hpw:2^(3-min (dV NA ra) (dV NB rb))<=2^3:=y7 ω ω;refine E.run (WO (ra:=ra) (rb:=rb) S E F hop aW okB la lb _ ra rb [] 11 [] _ _ rfl ia ib ⟨⟨bA.2 ?_,ver,.sn,?_,.inl ⟨rfl,rfl⟩⟩,?_,?_,?_,?_,bA.2 ?_,?_,?_,?_,fun h=>absurd rfl h⟩ ⟨by simp,by simp,by simp,by simp,by simp⟩ (fun x y r h=>by simp[look] at h) (by simp only[jL];omega) (.inl rfl) (fun _=>rfl) ?_)
 ·simp only[T.get_put,Nat.reduceEqDiff,reduceIte,tJ];rfl
 ·simp only[T.get_put,Nat.reduceEqDiff,reduceIte]
 ·simp only[T.get_put,Nat.reduceEqDiff,reduceIte];exact c5
 ·simp only[T.get_put,Nat.reduceEqDiff,reduceIte,dB]
 ·simp only[T.get_put,Nat.reduceEqDiff,reduceIte,dB]
 ·simp only[T.get_put,Nat.reduceEqDiff,reduceIte,dB]
 ·simp only[T.get_put,Nat.reduceEqDiff,reduceIte,tJ];rfl
 ·simp only[T.get_put,Nat.reduceEqDiff,reduceIte,dB]
 ·simp only[T.get_put,Nat.reduceEqDiff,reduceIte,dB]
 ·exact bK _
 rintro r B o M ⟨n1,ver1,ob1⟩ cs cf ok mo _ lenB ho _ rel;have d8:=cs.c8;have d13:=cs.c13;have d16:=cs.c16;dsimp only at d8 d13 d16;simp only[d8,d13,d16,↓dJ E.ok,↓dK,↓dM,bw,dL,Nat.reduceEqDiff,Nat.reduceAdd,Nat.reduceMul,Nat.reduceLT,Nat.reduceShiftRight,Nat.reduceAnd,Nat.reduceBneDiff,reduceIte,go_sem];obtain⟨_,verc,a0,hc12,hna⟩:=cs.bs;have hn1:17<=n1:=cs.next;have htr:tr B 3 r=t:=by
  have:=(rel.2 3 ω ω ω).2;rw[this];exact ht
 refine E.run (DR (p:=11) E F ok (by have h1:B.length+1<=0+2^(3-min (dV NA ra) (dV NB rb)):=lenB;omega) rel.1 (by rw[show T.get ob1 12=_ from hc12];rfl) hna (by show 12<n1;omega) (fun h=>(cs.nodes h).2) _ ?_);rw[htr];rintro a oo ⟨n2,ver2,ob2⟩ na hn2 same len7 hoo;have f8:cG (ob2.get 8)=_:=(congrArg cG (same 8 (by show 8<n1;omega))).trans d8;have f13:cG (ob2.get 13)=_:=(congrArg cG (same 13 (by show 13<n1;omega))).trans d13;have f16:cG (ob2.get 16)=_:=(congrArg cG (same 16 (by show 16<n1;omega))).trans d16;have f10:cG (ob2.get 10)=some [.sn,.i .i64 0]:=by
  rw[show ob2.get 10=ob1.get 10 from same 10 (by show 10<n1;omega),show ob1.get 10=_ from cf.old 10 ω];simp only[T.get_put,Nat.reduceEqDiff,reduceIte,dB]
 have sa:bU a=true:=by rcases na with ⟨_,rfl⟩|⟨_,rfl,_⟩<;>rfl
 simp only[↓dJ E.ok,↓dK,↓dM,bw,dL,Nat.reduceEqDiff,Nat.reduceAdd,Nat.reduceMul,Nat.reduceLT,Nat.reduceShiftRight,Nat.reduceAnd,Nat.reduceBneDiff,reduceIte,f8,f13,f16,f10,sa,go_sem];refine hk a oo _ (na.mono fun h=> ?_) (by show 17<=n2;have h2:n1<=n2:=hn2;omega) (fun j hj=> ?_) len7 (hoo.imp id fun h=>⟨by have h2:n1<=oo:=h.1;omega,h.2⟩)
 ·rcases hoo with rfl|⟨h1,h2⟩
  ·rcases na with ⟨h1,_⟩|⟨_,h1,_⟩
   ·exact absurd h1 h
   ·cases h1
  ·have h3:n1<=oo:=h1;simp(disch:=omega) only[cF,T.get_put,if_false]
 ·simp(disch:=omega) only[cF,T.get_put,if_false];rw[show ob2.get j=ob1.get j from same j (by show j<n1;omega),show ob1.get j=_ from cf.old j ω];simp(disch:=omega) only[cF,T.get_put,if_false]
def fz {B:List Br}:bU (fG B)=true:=by cases B<;>rfl
def ZT (P:Program) (X:dy) (GL:T (List AV)) (d:List Br×Nat):Prop:=∀h,dq P X GL 117 [eD d] h (ι 0) h
set_option maxHeartbeats 4000000 in
def Kk (S:aw P X GL fns) (F:gD fns) {a b:List Br×Nat} (ha:ZT P X GL a) (hb:ZT P X GL b) {h:AH} {o:Nat} (ho:cG (h.objs.get o)=some [fG a.1,.i .i64 (a.2:Int),fG b.1,.i .i64 (b.2:Int)]):
 dq P X GL 290 [.sl o 0 2 (some 2) 2] h (ι 0) h:=by
 have hp:aZ P X GL fns 290 [.ds [fG a.1,.i .i64 (a.2:Int),fG b.1,.i .i64 (b.2:Int)] 0 2 2] (ι 0):=by
  refine aZ.intro fun C E=> ?_
  have F2:dI (ι 0)=some 0:=rfl;have J9:dI (ι 1)=some 1:=rfl;have ad0:aV .add (ι 0) (ι 1)=some (ι 1):=by rw[oF ω];rfl
  have ad1:aV .add (ι 1) (ι 1)=some (ι 2):=by rw[oF ω];rfl
  have c2:((2:Nat):Int)=2:=rfl;have Wn:((0:Nat):Int)=0:=rfl;rw[eY E.ok (E.get F.f290)];generalize hL:ap.loop pV=L;simp only[T7,Ou,Ot,hL,↓dJ E.ok,↓dK,↓dM,bw,dL,Nat.reduceEqDiff,Nat.reduceAdd,Nat.reduceMul,Nat.reduceLT,reduceIte,h0,c2,go_sem];subst hL;rw[kr E.ok];generalize hL:ap.loop pV=L;simp only[pV,B8,Gy,Gv,Gw,Gx,hL,fz,Int.reduceLT,↓dJ E.ok,↓dK,↓dM,bw,dL,c2,Nat.reduceEqDiff,Nat.reduceAdd,Nat.reduceMul,Nat.reduceLT,reduceIte,aP,aH9,gU,vF,go_sem];refine E.con (ha _) ?_;simp only[Gz,ad0,fz,Int.reduceLT,↓dJ E.ok,↓dK,↓dM,bw,dL,c2,Nat.reduceEqDiff,Nat.reduceAdd,Nat.reduceMul,Nat.reduceLT,reduceIte,aP,aH9,gU,vF,go_sem];subst hL;rw[kr E.ok];generalize hL:ap.loop pV=L;simp only[pV,B8,Gy,Gv,Gw,Gx,hL,fz,Int.reduceLT,↓dJ E.ok,↓dK,↓dM,bw,dL,c2,Nat.reduceEqDiff,Nat.reduceAdd,Nat.reduceMul,Nat.reduceLT,reduceIte,aP,aH9,gU,vF,go_sem];refine E.con (hb _) ?_;simp only[Gz,ad1,fz,Int.reduceLT,↓dJ E.ok,↓dK,↓dM,bw,dL,c2,Nat.reduceEqDiff,Nat.reduceAdd,Nat.reduceMul,Nat.reduceLT,reduceIte,aP,aH9,gU,vF,go_sem];subst hL;rw[kr E.ok];generalize hL:ap.loop pV=L;simp only[pV,B8,fz,Int.reduceLT,↓dJ E.ok,↓dK,↓dM,bw,dL,c2,Nat.reduceEqDiff,Nat.reduceAdd,Nat.reduceMul,Nat.reduceLT,reduceIte,aP,aH9,gU,vF,go_sem];exact⟨1,rfl⟩
 refine fP S hp (n:=9) (m:=1) ?_ rfl;have e:aH 9 h (.sl o 0 2 (some 2) 2)=(match h.objs.get o with
  |some (.cells _ l)=>match fC (aH 8 h) l with|some l=>some (.ds l 0 2 2)|none=>none
  |_=>none):=rfl
 have hd:∀B:List Br,aH 8 h (fG B)=some (fG B):=fun B=>by
  cases B with
  |nil=>rfl
  |cons b B=>
   have e:aH 8 h (.ds (iP (b::B)) 0 (b::B).length 3)=(match aK 7 h (iP (b::B)) with|some l=>some (.ds l 0 (b::B).length 3)|none=>none):=rfl;show aH 8 h (.ds (iP (b::B)) 0 (b::B).length 3)=_;rw[e,tP];rfl
 have e2:∃v,h.objs.get o=some (.cells v [fG a.1,.i .i64 (a.2:Int),fG b.1,.i .i64 (b.2:Int)]):=by
  generalize h.objs.get o=x at ho
  match x with
  |some (.cells v l)=>exact⟨v,by rw[dB] at ho;cases ho;rfl⟩
  |none=>cases ho
  |some (.map _ _ _)=>cases ho
  |some .gone=>cases ho
 obtain⟨v,e2⟩:=e2;rw[af,e,e2];simp only[dF,jA,hd,ay,aH]
end
attribute [go_sem] fz
section
variable {P:Program} {X:dy} {GL:T (List AV)} {fns:T aR}
set_option maxHeartbeats 4000000 in
def yn {C:cQ Prop} (S:aw P X GL fns) (E:gW P X GL fns C) (F:gD fns) {NA NB:List Br} {ra rb:Nat} {opf:AV} {g:Bool ->Bool ->Bool} (hop:Yt C opf g) (sop:bU opf=true) (aW:OK NA) (okB:OK NB) (la:NA.length<=4096) (lb:NB.length<=4096) (ia:In NA ra) (ib:In NB rb)
 (ca:ZT P X GL (NA,ra)) (cb:ZT P X GL (NB,rb)) {ver:Nat} {ob:T aU} {t:Tr} (ht:eF g (tr NA 3 ra) (tr NB 3 rb)=t) (k:AV ->AH ->Prop)
 (hk:∀a oo h',ce h'.objs.get oo (ax t).1 a ->(∀j,j<3 ->h'.objs.get j=ob.get j) ->(a= .sn∨17<=oo) ->k (.tu [.ag [a,.i .i64 ((ax t).2:Int)],.i .i64 0]) h'):
 bZ C 175 [eD (NA,ra),eD (NB,rb),opf] ⟨3,ver,ob⟩ k:=by
 have F2:dI (ι 0)=some 0:=rfl;have J9:dI (ι 1)=some 1:=rfl;have M6:dI (ι 2)=some 2:=rfl;have co:cellsO opf=some [opf]:=by cases opf<;>first|rfl|cases sop
 rw[eY E.ok (E.get F.f175)];simp(disch:=omega) only[↓dJ E.ok,↓dK,↓dM,bw,dL,Nat.reduceEqDiff,Nat.reduceAdd,Nat.reduceMul,Nat.reduceLT,Nat.reduceShiftRight,Nat.reduceAnd,Nat.reduceBneDiff,reduceIte,T0,NT,NU,NW,NV,NX,eD,co,go_sem];refine E.con (Kk S F ca cb ?_) ?_
 ·simp only[T.get_put,Nat.reduceEqDiff,reduceIte,dB]
 simp(disch:=omega) only[↓dJ E.ok,↓dK,↓dM,bw,dL,Nat.reduceEqDiff,Nat.reduceAdd,Nat.reduceMul,Nat.reduceLT,Nat.reduceShiftRight,Nat.reduceAnd,Nat.reduceBneDiff,reduceIte,go_sem];refine E.run (DS S E F hop aW okB la lb ia ib ?_ ht _ ?_)
 ·simp only[T.get_put,Nat.reduceEqDiff,reduceIte,dB]
 rintro a oo ⟨n1,ver1,ob1⟩ na hn1 same len7 hoo;have hn1':17<=n1:=hn1;have sa:bU a=true:=by rcases na with ⟨_,rfl⟩|⟨_,rfl,_⟩<;>rfl
 have st:∀(τ:T AV) v' t' x,bp C τ x=a ->step (bp C τ) ⟨n1+1+1,v',t'⟩ (.len .slice x)= .v (ι ((ax t).1.length:Int)) ⟨n1+1+1,v',t'⟩:=by
  intro τ v' t' x hx;rw[lT,hx];rcases na with ⟨h,rfl⟩|⟨_,rfl,_⟩
  ·rw[h];rfl
  ·rfl
 have f6:cG (ob1.get 6)=some [.sn,.i .i64 0]:=by
  rw[show ob1.get 6=_ from same 6 ω];simp only[T.get_put,Nat.reduceEqDiff,reduceIte,dB]
 refine E.run ?_;rw[eY E.ok (E.get F.f291)];have gt:∀(x:Nat),aV .gtr (ι (x:Int)) (ι 4096)=some (.b (decide ((4096:Int)<(x:Int)))):=fun x=>Iy
 simp(disch:=first|omega|(simp(disch:=omega) only[cF,mR,T.get_put,o9,Nat.reduceEqDiff,reduceIte];done)) only[↓dJ E.ok,↓dK,↓dM,bw,dL,Nat.reduceEqDiff,Nat.reduceAdd,Nat.reduceMul,Nat.reduceLT,Nat.reduceShiftRight,Nat.reduceAnd,Nat.reduceBneDiff,reduceIte,TZ,NP,NQ,NR,NS,sa,st,gt,f6,aP,aH9,go_sem];refine hk a oo _ (na.mono fun h=> ?_) (fun j hj=> ?_) (hoo.imp id fun h=>h.1)
 ·rcases hoo with rfl|⟨h1,h2⟩
  ·rcases na with ⟨h1,_⟩|⟨_,h1,_⟩
   ·exact absurd h1 h
   ·cases h1
  ·have h3:oo<n1:=h2;simp(disch:=omega) only[cF,T.get_put,if_false]
 ·simp(disch:=omega) only[cF,T.get_put,if_false];rw[show ob1.get j=_ from same j ω];simp(disch:=omega) only[cF,T.get_put,if_false]
def yo {h:AH} {o:Nat} {B:List Br} {a:AV} (na:ce h.objs.get o B a):aH 8 h a=some (fG B):=by
 rcases na with ⟨rfl,rfl⟩|⟨hb,rfl,v,e⟩
 ·rfl
 ·have e1:aH 8 h (.sl o 0 B.length none 3)=(match h.objs.get o with
   |some (.cells _ l)=>match aK 7 h l with|some l=>some (.ds l 0 B.length 3)|none=>none
   |_=>none):=rfl
  rw[e1,e];dsimp only;rw[tP];cases B with
  |nil=>exact absurd rfl hb
  |cons _ _=>rfl
def IN {h:AH} {o:Nat} {d:List Br×Nat} {a:AV} (na:ce h.objs.get o d.1 a) {b:AV} (hb:aH 9 h b=some b):aH 10 h (.tu [.ag [a,.i .i64 (d.2:Int)],b])=some (.tu [eD d,b]):=by
 have e1:aH 10 h (.tu [.ag [a,.i .i64 (d.2:Int)],b])=(match aK 9 h [.ag [a,.i .i64 (d.2:Int)],b] with|some l=>some (AV.tu l)|none=>none):=rfl;have e2:aH 9 h (.ag [a,.i .i64 (d.2:Int)])=(match aK 8 h [a,.i .i64 (d.2:Int)] with|some l=>some (AV.ag l)|none=>none):=rfl;have e3:aH 8 h (ι (d.2:Int))=some (ι (d.2:Int)):=rfl;rw[e1];simp only[af,ay,e2,e3,yo na,hb,eD]
structure vW (P:Program) (X:dy) (GL:T (List AV)) (t:Tr):Prop where
 ok:OK (ax t).1
 in_:In (ax t).1 (ax t).2
 tr:tr (ax t).1 3 (ax t).2=t
 len:(ax t).1.length<=7
 chk:ZT P X GL (ax t)
def eT (t:Tr):AV:=eD (ax t)
def fg (h:AH) (t:Tr):aH 9 h (eT t)=some (eT t):=iF h _
def OC (S:aw P X GL fns) (F:gD fns) {s t:Tr} (ds:vW P X GL s) (dt:vW P X GL t):aZ P X GL fns 101 [eT s,eT t] (.tu [eT (eF (fun x y=>x&&y) s t),.i .i64 0]):=by
 refine aZ.intro fun C E=> ?_
 have F2:dI (ι 0)=some 0:=rfl;have J9:dI (ι 1)=some 1:=rfl;have M6:dI (ι 2)=some 2:=rfl;have hs:=ds.tr;have ht:=dt.tr;rw[eY E.ok (E.get F.f101)];simp(disch:=omega) only[↓dJ E.ok,↓dK,↓dM,bw,dL,Nat.reduceEqDiff,Nat.reduceAdd,Nat.reduceMul,Nat.reduceLT,Nat.reduceShiftRight,Nat.reduceAnd,Nat.reduceBneDiff,reduceIte,T2,NZ,N0,eT,eD,h0,go_sem];refine E.run (yn S E F (WM E F) rfl ds.ok dt.ok (by have:=ds.len;omega) (by have:=dt.len;omega) ds.in_ dt.in_ ds.chk dt.chk (by rw[hs,ht]) _ ?_);rintro a oo ⟨n1,ver1,ob1⟩ na same hoo;have sa:bU a=true:=by rcases na with ⟨_,rfl⟩|⟨_,rfl,_⟩<;>rfl
 have f2:cG (ob1.get 2)=some [.sn,.i .i64 0]:=by
  rw[show ob1.get 2=_ from same 2 ω];simp only[T.get_put,Nat.reduceEqDiff,reduceIte,dB]
 simp(disch:=omega) only[↓dJ E.ok,↓dK,↓dM,bw,dL,Nat.reduceEqDiff,Nat.reduceAdd,Nat.reduceMul,Nat.reduceLT,Nat.reduceShiftRight,Nat.reduceAnd,Nat.reduceBneDiff,reduceIte,sa,f2,aP,aH9,go_sem];exact⟨10,IN (h:=⟨n1,ver1+1,_⟩) (d:=ax (eF (fun x y=>x&&y) s t)) (na.mono fun h=>by
  rcases hoo with rfl|h1
  ·rcases na with ⟨h1,_⟩|⟨_,h1,_⟩
   ·exact absurd h1 h
   ·cases h1
  ·simp(disch:=omega) only[cF,T.get_put,if_false]) rfl⟩
def wJ (S:aw P X GL fns) (F:gD fns) {s t:Tr} (ds:vW P X GL s) (dt:vW P X GL t) (h:AH):dq P X GL 101 [eT s,eT t] h (.tu [eT (eF (fun x y=>x&&y) s t),.i .i64 0]) h:=
 aE S (OC S F ds dt) (n:=9) (by simp only[af,fg,ay]) h
def RY (S:aw P X GL fns) (F:gD fns) {s t:Tr} (ds:vW P X GL s) (dt:vW P X GL t):aZ P X GL fns 105 [eT s,eT t] (.tu [eT (eF (fun x y=>x||y) s t),.i .i64 0]):=by
 refine aZ.intro fun C E=> ?_
 have F2:dI (ι 0)=some 0:=rfl;have J9:dI (ι 1)=some 1:=rfl;have M6:dI (ι 2)=some 2:=rfl;have hs:=ds.tr;have ht:=dt.tr;rw[eY E.ok (E.get F.f105)];simp(disch:=omega) only[↓dJ E.ok,↓dK,↓dM,bw,dL,Nat.reduceEqDiff,Nat.reduceAdd,Nat.reduceMul,Nat.reduceLT,Nat.reduceShiftRight,Nat.reduceAnd,Nat.reduceBneDiff,reduceIte,T4,Ob,Oc,eT,eD,h0,go_sem];refine E.run (yn S E F (ZQ E F) rfl ds.ok dt.ok (by have:=ds.len;omega) (by have:=dt.len;omega) ds.in_ dt.in_ ds.chk dt.chk (by rw[hs,ht]) _ ?_);rintro a oo ⟨n1,ver1,ob1⟩ na same hoo;have sa:bU a=true:=by rcases na with ⟨_,rfl⟩|⟨_,rfl,_⟩<;>rfl
 have f2:cG (ob1.get 2)=some [.sn,.i .i64 0]:=by
  rw[show ob1.get 2=_ from same 2 ω];simp only[T.get_put,Nat.reduceEqDiff,reduceIte,dB]
 simp(disch:=omega) only[↓dJ E.ok,↓dK,↓dM,bw,dL,Nat.reduceEqDiff,Nat.reduceAdd,Nat.reduceMul,Nat.reduceLT,Nat.reduceShiftRight,Nat.reduceAnd,Nat.reduceBneDiff,reduceIte,sa,f2,aP,aH9,go_sem];exact⟨10,IN (h:=⟨n1,ver1+1,_⟩) (d:=ax (eF (fun x y=>x||y) s t)) (na.mono fun h=>by
  rcases hoo with rfl|h1
  ·rcases na with ⟨h1,_⟩|⟨_,h1,_⟩
   ·exact absurd h1 h
   ·cases h1
  ·simp(disch:=omega) only[cF,T.get_put,if_false]) rfl⟩
def GN (S:aw P X GL fns) (F:gD fns) {s t:Tr} (ds:vW P X GL s) (dt:vW P X GL t) (h:AH):dq P X GL 105 [eT s,eT t] h (.tu [eT (eF (fun x y=>x||y) s t),.i .i64 0]) h:=
 aE S (RY S F ds dt) (n:=9) (by simp only[af,fg,ay]) h
def DT (F:dr fns) {B:List Br} {r n:Nat} (hn:In B n) (hb:B.length<=4096):aZ P X GL fns 411 [eD (B,r),.i .i64 (n:Int)] (ι (pl B n:Int)):=by
 refine aZ.intro fun C E=> ?_
 rw[eY E.ok (E.get F.f411)];rcases hn.cases with h1|⟨i,b,rfl,hbi⟩
 ·have hn':(n:Int)<2:=by omega
  simp only[DG,F6,F7,F8,F9,↓dJ E.ok,↓dK,↓dM,bw,dL,hn',Nat.reduceEqDiff,reduceIte,aP,aH9,eD,go_sem];exact⟨1,by simp[aH,pl,h1]⟩
 ·have hn':¬(((i+2:Nat):Int)<2):=by omega
  have hlt:i<B.length:=(cW.1 hbi).1;have e1:((i+2:Nat):Int)-2=(i:Int):=by omega
  have e2:aV .sub (ι ((i+2:Nat):Int)) (ι 2)=some (ι (i:Int)):=by rw[lF ω,e1]
  have e3:fG B= .ds (iP B) 0 B.length 3:=by cases B with|nil=>simp at hlt|cons _ _=>rfl
  have e4:sub (iP B) (i*3) 1=some [.i .i64 (b.1:Int)]:=by have:=gu hbi 0 1 ω;simpa[oM] using this
  simp only[DG,F6,F7,F8,F9,↓dJ E.ok,↓dK,↓dM,bw,dL,hn',Nat.reduceEqDiff,reduceIte,aP,aH9,eD,e2,e3,hlt,e4,go_sem];exact⟨1,by simp[aH,pl,bH hbi,show¬(i+2<2) by omega]⟩
def sk (S:aw P X GL fns) (F:dr fns) {B:List Br} {r n:Nat} (hn:In B n) (hb:B.length<=4096) (h:AH):dq P X GL 411 [eD (B,r),.i .i64 (n:Int)] h (ι (pl B n:Int)) h:=
 aE S (DT F hn hb) (n:=9) (by simp only[af,iF,ay,aH]) h
def DU (S:aw P X GL fns) (F:dr fns) {B:List Br} {r n v:Nat} (hn:In B n) (hb:B.length<=4096) (hv:v<64):aZ P X GL fns 412 [eD (B,r),.i .i64 (n:Int),.i .i64 (v:Int)] (.tu [.i .i64 (lo B n v:Int),.i .i64 (hi B n v:Int)]):=by
 refine aZ.intro fun C E=> ?_
 rw[eY E.ok (E.get F.f412)];simp only[TU,Nl,Nm,Nn,No,Np,↓dJ E.ok,↓dK,↓dM,bw,dL,Nat.reduceEqDiff,Nat.reduceAdd,reduceIte,aP,aH9,eD,go_sem];refine E.con (sk S F hn hb _) ?_;rcases hn.cases with h1|⟨i,b,rfl,hbi⟩
 ·have e:((pl B n:Nat):Int)=64:=by simp[pl,h1]
  have e2:¬((64:Int)=(v:Int)):=by omega
  simp only[↓dJ E.ok,↓dK,↓dM,bw,dL,e,e2,Nat.reduceEqDiff,Nat.reduceAdd,reduceIte,aP,aH9,go_sem];exact⟨1,by simp[aH,dF,jA,jF h1,jG h1]⟩
 ·have hlt:i<B.length:=(cW.1 hbi).1;have e:((pl B (i+2):Nat):Int)=(b.1:Int):=by simp[pl,bH hbi,show¬(i+2<2) by omega]
  by_cases e2:b.1=v
  ·have e2':((b.1:Nat):Int)=(v:Int):=by omega
   have e5:aV .sub (ι ((i+2:Nat):Int)) (ι 2)=some (ι (i:Int)):=by rw[lF ω];congr 2;omega
   have e3:fG B= .ds (iP B) 0 B.length 3:=by cases B with|nil=>simp at hlt|cons _ _=>rfl
   have e4:sub (iP B) (i*3+1) 1=some [.i .i64 (b.2.1:Int)]:=by have:=gu hbi 1 1 ω;simpa[oM] using this
   have e6:sub (iP B) (i*3+2) 1=some [.i .i64 (b.2.2:Int)]:=by have:=gu hbi 2 1 ω;simpa[oM] using this
   simp only[↓dJ E.ok,↓dK,↓dM,bw,dL,e,e2',e3,e4,e5,e6,hlt,Nat.reduceEqDiff,Nat.reduceAdd,reduceIte,aP,aH9,go_sem];exact⟨1,by simp[aH,dF,jA,iD hbi,iE hbi,e2]⟩
  ·have e2':¬(((b.1:Nat):Int)=(v:Int)):=by omega
   simp only[↓dJ E.ok,↓dK,↓dM,bw,dL,e,e2',Nat.reduceEqDiff,Nat.reduceAdd,reduceIte,aP,aH9,go_sem];exact⟨1,by simp[aH,dF,jA,iD hbi,iE hbi,e2]⟩
def yq (S:aw P X GL fns) (F:dr fns) {B:List Br} {r n v:Nat} (hn:In B n) (hb:B.length<=4096) (hv:v<64) (h:AH):dq P X GL 412 [eD (B,r),.i .i64 (n:Int),.i .i64 (v:Int)] h (.tu [.i .i64 (lo B n v:Int),.i .i64 (hi B n v:Int)]) h:=
 aE S (DU S F hn hb hv) (n:=9) (by simp only[af,iF,ay,aH]) h
end
end
end AM
namespace AM
open Go
def DW {k:IntKind} {n:Int}:ri k n=some (.i k n):=by unfold ri;rw[CV]
def T9 {a:Nat} (h:a<256):bT .u8 (a:Int)=(a:Int):=by
 show(bif Nat.ble a 255 then Int.ofNat a else _)=_;have:Nat.ble a 255=true:=by rw[aQ];simp;omega
 rw[this];rfl
def IR {a:Nat} (h:a<18446744073709551616):bT .u64 (a:Int)=(a:Int):=by
 show(bif Nat.ble a 18446744073709551615 then Int.ofNat a else _)=_;have:Nat.ble a 18446744073709551615=true:=by rw[aQ];simp;omega
 rw[this];rfl
def fJ {a:Nat} (h:a<9223372036854775808):bT .i64 (a:Int)=(a:Int):=FV ω
def IS {a c:Nat} (h:0<c/\ a<9223372036854775808):aV .quo (ι (a:Int)) (ι (c:Int))=some (ι ((a/c:Nat):Int)):=by
 show(bif fQ (c:Int) 0 then none else ri .i64 (bT .i64 ((a:Int).tdiv (c:Int))))=_;have e:fQ (c:Int) 0=false:=by rw[bF];simp;omega
 have e2:(a:Int).tdiv (c:Int)=((a/c:Nat):Int):=rfl;rw[e,e2,fJ (Q0 (Vk a c) h.2)];exact DW
def dm {a c:Nat} (h:0<c):aV .rem (ι (a:Int)) (ι (c:Int))=some (ι ((a%c:Nat):Int)):=by
 show(bif fQ (c:Int) 0 then none else ri .i64 ((a:Int).tmod (c:Int)))=_;have e:fQ (c:Int) 0=false:=by rw[bF];simp;omega
 rw[e];exact DW
def Cd {a c:Nat} (h:0<c/\ a<256):aV .quo (.i .u8 (a:Int)) (.i .u8 (c:Int))=some (.i .u8 ((a/c:Nat):Int)):=by
 show(bif fQ (c:Int) 0 then none else ri .u8 (bT .u8 ((a:Int).tdiv (c:Int))))=_;have e:fQ (c:Int) 0=false:=by rw[bF];simp;omega
 have e2:(a:Int).tdiv (c:Int)=((a/c:Nat):Int):=rfl;rw[e,e2,T9 (Q0 (Vk a c) h.2)];exact DW
def oO {a c:Nat} (h:0<c):aV .rem (.i .u8 (a:Int)) (.i .u8 (c:Int))=some (.i .u8 ((a%c:Nat):Int)):=by
 show(bif fQ (c:Int) 0 then none else ri .u8 ((a:Int).tmod (c:Int)))=_;have e:fQ (c:Int) 0=false:=by rw[bF];simp;omega
 rw[e];exact DW
def WP {a k:Nat} (h:k<=8):aV .shr (.i .u8 (a:Int)) (.i .u64 (k:Int))=some (.i .u8 ((a/2^k:Nat):Int)):=by
 show ri .u8 (Int.ofNat (Nat.div a (Q1 .u8 k)))=_;have e:Nat.ble k IntKind.u8.bits=true:=by rw[aQ];simp;exact h
 unfold Q1;rw[e];exact DW
def R1 {a:Nat} (h:a<256):aV .and (.i .u8 (a:Int)) (.i .u8 1)=some (.i .u8 ((a%2:Nat):Int)):=by
 show(bif Nat.ble a (sU .u8)&&Nat.ble 1 (sU .u8) then ri .u8 (Int.ofNat (Nat.land a 1)) else _)=_;have e:(Nat.ble a (sU .u8)&&Nat.ble 1 (sU .u8))=true:=by
  have h1:a<=255:=by omega
  rw[aQ,aQ];simp[sU,h1]
 have e2:Nat.land a 1=a%2:=Vl a;rw[e,e2];exact DW
def aw5 {k:Nat} (h:k<60):aV .shl (ι 1) (.i .u64 (k:Int))=some (ι ((2^k:Nat):Int)):=by
 show ri .i64 (bT .i64 (Int.mul 1 (Int.ofNat (Q1 .i64 k))))=_;have e:Nat.ble k IntKind.i64.bits=true:=by rw[aQ];simp;show k<=64;omega
 unfold Q1;rw[e,show Int.mul 1 (Int.ofNat (Nat.pow 2 (bif true then k else IntKind.i64.bits)))=((2^k:Nat):Int) by simp,fJ (Nat.lt_trans (Nat.pow_lt_pow_right ω h) (by decide))];exact DW
end AM
