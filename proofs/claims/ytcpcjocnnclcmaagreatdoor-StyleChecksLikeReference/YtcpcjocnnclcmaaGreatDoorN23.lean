import Derived.Test.YtcpcjocnnclcmaaGreatDoorN22
set_option linter.all false
namespace AM
open Dg Go
noncomputable section
def dC (r:List (Bool×Nat)) (i:Nat):List (Bool×Nat):=r.take i++r.drop (i+1)
def uh (a:Bool×Nat):cE (bS a)=true:=rfl
section
variable {P:Program} {X:dy} {GL:T (List AV)} {fns:T aR}
set_option maxHeartbeats 1000000 in
def G9 {C:cQ Prop} (E:gW P X GL fns C) (F:vZ fns) {r:List (Bool×Nat)} {nl:Bool} {i:Nat} (hi:i<r.length) (hr:r.length<=1000) {h:AH} (k:AV ->AH ->Prop)
 (hk:∀o c h',o<h'.next ->h.next<=o ->h.next<=h'.next ->(∀j,j<h.next ->h'.objs.get j=h.objs.get j) ->cG (h'.objs.get o)=some ((dC r i).flatMap bS) ->k (.sl o 0 (dC r i).length c 2) h'):
 bZ C 192 [eR bS 2 nl r,.i .i64 (i:Int)] h k:=by
 obtain⟨m,ver,ob⟩:=h;have er:eR bS 2 nl r= .ds (r.flatMap bS) 0 r.length 2:=by
  cases r with
  |nil=>simp at hi
  |cons a r=>rfl
 have ol:(dC r i).length=r.length-1:=by unfold dC;rw[cX,fO,qY];omega
 have nk:∀a b,aJ 64 (.ds (r.flatMap bS) a b 2)=true:=fun a b=>by rw[ja,bu de]
 have p1:sub (r.flatMap bS) 0 (i*2)=some ((r.take i).flatMap bS):=by
  have:=lU bz (L:=r) (i:=0) (n:=i) ω;simpa using this
 have p2:sub (r.flatMap bS) ((i+1)*2) ((r.length-(i+1))*2)=some ((r.drop (i+1)).flatMap bS):=by
  have:=lU bz (L:=r) (i:=i+1) (n:=r.length-(i+1)) ω
  rwa [ow (by rw[qY];omega)] at this
 have z1:sub (r.flatMap bS) 0 0=some []:=by
  have:=lU bz (L:=r) (i:=0) (n:=0) ω;simpa using this
 have s1:cE ((r.take i).flatMap bS)=true:=iJ uh _;have s2:cE ((r.drop (i+1)).flatMap bS)=true:=iJ uh _;have hs:∀(τ:T AV) h,bp C τ (.t 6)= .ds (r.flatMap bS) 0 r.length 2 ->bp C τ (.t 7)= .i .i64 (i:Int) ->step (bp C τ) h (.slc 2 (.t 6) none (some (.t 7)) none)= .v (.ds (r.flatMap bS) 0 i 2) h:=
  fun τ h h1 h2=>Cj h1 (by rw[h2];exact gA) ω
 have hs2:∀(τ:T AV) h,bp C τ (.t 10)= .ds (r.flatMap bS) 0 r.length 2 ->bp C τ (.t 12)= .i .i64 ((i+1:Nat):Int) ->step (bp C τ) h (.slc 2 (.t 10) (some (.t 12)) none none)= .v (.ds (r.flatMap bS) (0+(i+1)*2) (r.length-(i+1)) 2) h:=
  fun τ h h1 h2=>OU h1 (by rw[h2];exact gA) ω
 have ha:dC r i=r.take i++r.drop (i+1):=rfl;rw[aA E.ok (E.get F.f192),er];have tz:r.length-(i+1)=(r.drop (i+1)).length:=by rw[qY]
 have fin:∀o c (h':AH),o<h'.next ->m<=o ->(∀j,j<m ->h'.objs.get j=ob.get j) ->cG (h'.objs.get o)=some ((dC r i).flatMap bS) ->∀n,n=(dC r i).length ->k (.sl o 0 n c 2) h':=by
  intro o c h' h1 h2 h3 h4 n hn;rw[hn];exact hk o c h' h1 h2 (by show m<=h'.next;omega) h3 h4
 by_cases i0:i=0
 ·have A1:∀h',pS h' 2 (.sl m 0 0 (some 0) 2) (.ds (r.flatMap bS) 0 i 2)= .v (.sl m 0 0 (some 0) 2) h':=fun h'=>by rw[i0];exact qC z1
  have tk:r.take i=[]:=by rw[i0];rfl
  by_cases i1:r.length-(i+1)=0
  ·have A2:∀h',pS h' 2 (.sl m 0 0 (some 0) 2) (.ds (r.flatMap bS) ((i+1)*2) (r.length-(i+1)) 2)= .v (.sl m 0 0 (some 0) 2) h':=fun h'=>by
    rw[i1];refine qC ?_;rw[i1,lA (show(r.drop (i+1)).length=0 by rw[←tz];exact i1)] at p2;exact p2
   refine Z8 @El.eq_1 @kU hs hs2 A1 A2 nk @ar ?_;refine fin _ _ _ (by show m<m+1;omega) (bK _) (fun j hj=>U0) ?_ _ (by rw[ol];omega)
   ·exact U3 ha tk (lA (show(r.drop (i+1)).length=0 by rw[←tz];exact i1))
  ·obtain⟨n',hn'⟩:∃n',r.length-(i+1)=n'+1:=⟨r.length-(i+1)-1,by omega⟩;rw[hn'] at p2;have A2:∀v t,cG (T.get t m)=some [] ->pS ⟨m+1,v,t⟩ 2 (.sl m 0 0 (some 0) 2) (.ds (r.flatMap bS) ((i+1)*2) (r.length-(i+1)) 2)= .v (.sl (m+1) 0 (n'+1) none 2) ⟨m+1+1,v,t.put (m+1) (.cells v ((r.drop (i+1)).flatMap bS))⟩:=fun v t hc=>by rw[hn'];exact qD p2 s2 hc ω
   refine Z8 @El.eq_1 @kU hs hs2 A1 A2 nk @ar ?_;refine fin _ _ _ (by show m+1<m+1+1;omega) ω (fun j hj=>U0) ?_ _ (by rw[ol];omega)
   ·simp only[T.get_put,if_true,dB,ha,tk,lB]
 ·obtain⟨i',hi'⟩:∃i',i=i'+1:=⟨i-1,by omega⟩;have A1:∀v t,cG (T.get t m)=some [] ->pS ⟨m+1,v,t⟩ 2 (.sl m 0 0 (some 0) 2) (.ds (r.flatMap bS) 0 i 2)= .v (.sl (m+1) 0 i none 2) ⟨m+1+1,v,t.put (m+1) (.cells v ((r.take i).flatMap bS))⟩:=fun v t hc=>by
   have p1':=p1;have s1':=s1;rw[hi'] at p1' s1' ⊢;exact qD p1' s1' hc ω
  by_cases i1:r.length-(i+1)=0
  ·have A2:∀h',pS h' 2 (.sl (m+1) 0 i none 2) (.ds (r.flatMap bS) ((i+1)*2) (r.length-(i+1)) 2)= .v (.sl (m+1) 0 i none 2) h':=fun h'=>by
    rw[i1];refine qC ?_;rw[i1,lA (show(r.drop (i+1)).length=0 by rw[←tz];exact i1)] at p2;exact p2
   refine Z8 @El.eq_1 @kU hs hs2 A1 A2 nk @ar ?_;refine fin _ _ _ (by show m+1<m+1+1;omega) ω (fun j hj=>U0) ?_ _ (by rw[ol];omega)
   ·simp only[T.get_put,if_true,dB,ha,lA (show(r.drop (i+1)).length=0 by rw[←tz];exact i1),ip]
  ·obtain⟨n',hn'⟩:∃n',r.length-(i+1)=n'+1:=⟨r.length-(i+1)-1,by omega⟩;rw[hn'] at p2;have A2:∀v t,cG (T.get t (m+1))=some ((r.take i).flatMap bS) ->pS ⟨m+1+1,v,t⟩ 2 (.sl (m+1) 0 i none 2) (.ds (r.flatMap bS) ((i+1)*2) (r.length-(i+1)) 2)= .v (.sl (m+1+1) 0 (i+(n'+1)) none 2) ⟨m+1+1+1,v+1,(t.put (m+1) .gone).put (m+1+1) (.cells (v+1) ((r.take i).flatMap bS++(r.drop (i+1)).flatMap bS))⟩:=fun v t hc=>by
    rw[hn'];exact IW p2 s2 hc (by rw[dG bz,fO,jp ω]) ω
   refine Z8 @El.eq_1 @kU hs hs2 A1 A2 nk @ar ?_;refine fin _ _ _ (by show m+1+1<m+1+1+1;omega) ω (fun j hj=>U0) ?_ _ (by rw[ol];omega)
   ·simp only[T.get_put,if_true,dB,ha,ik]
end
structure Et (n k lo oo:Nat) (ro:Nat ->Nat) (M:Nat ->List Tr) (h:AH):Prop where
 c:cG (h.objs.get oo)=some ((List.range k).map fun a=>AV.sl (ro a) 0 n (some n) 2)
 row:∀a,a<k ->cG (h.objs.get (ro a))=some ((M a).flatMap cT)/\ (M a).length=n/\ (∀t∈M a,ew 3 t=true)/\ lo<=ro a/\ ro a<h.next/\ ro a≠oo
 inj:∀a b,a<k ->b<k ->ro a=ro b ->a=b
 up:∀a,a<k ->∀(b:Nat) t,(M a)[b]? =some t ->t=cN∨a<b
 lo:lo<=oo/\ oo<h.next
def Et.mono {n k lo oo:Nat} {ro:Nat ->Nat} {M:Nat ->List Tr} {h h':AH} (m:Et n k lo oo ro M h) (hn:h.next<=h'.next) (e:∀j,lo<=j ->j<h.next ->h'.objs.get j=h.objs.get j):Et n k lo oo ro M h' where
 c:=by rw[e oo m.lo.1 m.lo.2];exact m.c
 row:=fun a ha=>by
  obtain⟨h1,h2,h3,h4,h5,h6⟩:=m.row a ha;exact⟨by rw[e _ h4 h5];exact h1,h2,h3,h4,by omega,h6⟩
 inj:=m.inj
 up:=m.up
 lo:=⟨m.lo.1,by have:=m.lo.2;omega⟩
def Et.upd {n k lo oo:Nat} {ro:Nat ->Nat} {M:Nat ->List Tr} {h h':AH} (m:Et n k lo oo ro M h) {a b:Nat} {x:Tr} (ha:a<k) (hn:h.next<=h'.next) (e:∀j,j<h.next ->j≠ro a ->h'.objs.get j=h.objs.get j)
 (hc:cG (h'.objs.get (ro a))=some (((M a).set b x).flatMap cT)) (fx:ew 3 x=true) (hx:x=cN∨a<b):Et n k lo oo ro (fun i=>if i=a then (M a).set b x else M i) h' where
 c:=by
  have:=m.row a ha;rw[e oo m.lo.2 (fun h=>this.2.2.2.2.2 h.symm)];exact m.c
 row:=fun i hi=>by
  obtain⟨h1,h2,h3,h4,h5,h6⟩:=m.row i hi;by_cases ei:i=a
  ·subst ei;simp only[if_true];refine⟨hc,by rw[I4];exact h2,fun t ht=> ?_,h4,by omega,h6⟩;rcases Fb ht with h|h
   ·exact h3 t h
   ·rw[h];exact fx
  ·simp only[ei,if_false];exact⟨by rw[e _ h5 (fun h=>ei (m.inj i a hi ha h))];exact h1,h2,h3,h4,by omega,h6⟩
 inj:=m.inj
 up:=fun i hi j t ht=>by
  by_cases ei:i=a
  ·subst ei;simp only[if_true] at ht;rw[pu] at ht;split at ht
   ·rename_i ej;split at ht
    ·cases ht;subst ej;exact hx
    ·cases ht
   ·exact m.up i hi j t ht
  ·simp only[ei,if_false] at ht;exact m.up i hi j t ht
 lo:=⟨m.lo.1,by have:=m.lo.2;omega⟩
def ui {n k:Nat} {ro:Nat ->Nat} {a:Nat} (ha:a<k):sub ((List.range k).map fun a=>AV.sl (ro a) 0 n (some n) 2) a 1=some [.sl (ro a) 0 n (some n) 2]:=
 j5 (by simp[ha])
section
variable {P:Program} {X:dy} {GL:T (List AV)} {fns:T aR}
set_option maxHeartbeats 4000000 in
def KK {C:cQ Prop} (S:aw P X GL fns) (E:gW P X GL fns C) (R:dr fns) (A:bh P X GL) (F:vZ fns) {g:Gr} (G:cM g) {Z:Nat ->Bool} (Y:yG g Z) {h:AH} (k:AV ->AH ->Prop)
 (hk:∀oo ro M h',Et g.nts.length g.nts.length h.next oo ro M h' ->h.next<=h'.next ->(∀j,j<h.next ->h'.objs.get j=h.objs.get j) ->k (.sl oo 0 g.nts.length none 1) h'):
 bZ C 111 [b9 g] h k:=by
 obtain⟨m,ver,ob⟩:=h;have ntl:=G.ntl;have pl:=G.pl;rw[aA E.ok (E.get F.f111)];refine Y3 @Uq.eq_1 @b9.eq_1 @aL.eq_1 ?_;refine E.run (KJ S E R A F G Y _ ?_);rintro q L ⟨n1,v1,ob1⟩ hq1 hq2 old1 hcL hlL hL hZ;have hq1':q<n1:=hq1;have hq2':m+1<=q:=hq2;have old1':∀j,j<m+1 ->ob1.get j=_:=old1;dsimp only at hcL;have c0:cG (ob1.get m)=some (aL g):=by rw[old1' m ω];exact U1 @aL.eq_1
 have c0':=c0;simp only[aL] at c0;refine Y1 c0 ?_;have low:∀j,j<m ->ob1.get j=ob.get j:=fun j hj=>by rw[old1' j ω];exact U0
 refine aX E.ok g.nts.length (fun i τ h=>n1<=h.next/\ (∀j,j<n1 ->h.objs.get j=ob1.get j)/\ (∃v oo ro M,τ.get 5=some v/\ ((i=0/\ v= .sn)∨(i≠0/\ v= .sl oo 0 i none 1/\ Et g.nts.length i n1 oo ro M h)))/\ τ.get 1=some (.p m 0)/\ τ.get 3=some (.sl q 0 g.nts.length (some g.nts.length) 2)/\ τ.get 4=some (ι (g.nts.length:Int))/\ τ.get 6=some (ι (i:Int))) ?_ ?_ _ _ ⟨?_,?_,⟨.sn,0,fun _=>0,fun _=>[],?_,.inl ⟨rfl,rfl⟩⟩,?_,?_,?_,?_⟩
 ·rintro i τ ⟨n2,v2,ob2⟩ hi ⟨hn2,old2,⟨v,oo,ro,M,t5,hv⟩,t1,t3,t4,t6⟩ ih;have hn2':n1<=n2:=hn2;have hlt:((i:Int)<(g.nts.length:Int))=True:=eq_true ω;have sv:bU v=true:=by rcases hv with ⟨_,rfl⟩|⟨_,rfl,_⟩<;>rfl
  refine Y6 t1 t3 t4 t5 t6 hlt ?_;refine E.run (Ep S E R F (n:=g.nts.length) ω _ ?_);rintro⟨n3,v3,ob3⟩ hn3 old3 hc3;have hn3':n3=n2+1:=hn3;have old3':∀j,j<n2 ->ob3.get j=ob2.get j:=old3;subst hn3';dsimp only at hc3;have upr:∀(b:Nat) t,(List.replicate g.nts.length cN)[b]? =some t ->t=cN∨i<b:=fun b t ht=> .inl (Bc (bJ ht))
  have ffr:∀t∈List.replicate g.nts.length cN,ew 3 t=true:=fun t ht=>by rw[Bc ht];exact lK
  rcases hv with ⟨rfl,rfl⟩|⟨i0,rfl,mt⟩
  ·refine Y6 @nz t1 t3 t4 t5 t6 ?_;refine ih _ _ ⟨by show n1<=n2+1+1+1;omega,fun j hj=> ?_,⟨.sl (n2+1+1) 0 1 none 1,n2+1+1,fun _=>n2,fun _=>List.replicate g.nts.length cN,?_,.inr ⟨by omega,rfl,?_,fun a ha=>⟨?_,by simp,ffr,by omega,by show n2<n2+1+1+1;omega,by omega⟩,fun a b ha hb _=>by omega,fun a ha b t ht=> ?_,by omega,by show n2+1+1<n2+1+1+1;omega⟩⟩,?_,?_,?_,?_⟩
   ·simp(disch:=omega) only[cF,T.get_put,if_false];rw[old3' j ω];exact old2 j hj
   ·exact U0
   ·exact U0
   ·exact W0 hc3
   ·obtain rfl:a=0:=by omega
    exact upr b t ht
   all_goals simp only[T.get_put,Nat.reduceEqDiff,reduceIte,t1,t3,t4]
   rfl
  ·obtain⟨lo1,lo2⟩:=mt.lo;have lo2':oo<n2:=lo2;have hco:=mt.c;dsimp only at hco;have hco3:cG (ob3.get oo)=some ((List.range i).map fun a=>AV.sl (ro a) 0 g.nts.length (some g.nts.length) 2):=by rw[old3' oo lo2'];exact hco
   have i2:i+1<=1048576:=by omega
   have ll:((List.range i).map fun a=>AV.sl (ro a) 0 g.nts.length (some g.nts.length) 2).length=i:=by simp
   refine CM @nz t1 t3 t4 t5 t6 hco3 i2 ll @ar ?_;refine ih _ _ ⟨by show n1<=n2+1+1+1;omega,fun j hj=> ?_,⟨.sl (n2+1+1) 0 (i+1) none 1,n2+1+1,fun a=>if a=i then n2 else ro a,fun a=>if a=i then List.replicate g.nts.length cN else M a,?_,.inr ⟨by omega,rfl,?_,fun a ha=> ?_,fun a b ha hb hab=> ?_,fun a ha b t ht=> ?_,by omega,by show n2+1+1<n2+1+1+1;omega⟩⟩,?_,?_,?_,?_⟩
   ·simp(disch:=omega) only[cF,T.get_put,if_false];rw[old3' j ω];exact old2 j hj
   ·exact U0
   ·simp only[T.get_put,if_true,dB];congr 1;rw[zB,iT];congr 1
    ·refine Lx fun a ha=> ?_
     have:¬a=i:=by have:=pi.1 ha;omega
     rw[if_neg this]
    ·simp
   ·by_cases e:a=i
    ·subst e;simp only[if_true];refine⟨?_,by simp,ffr,by omega,by show n2<n2+1+1+1;omega,by omega⟩;exact W0 hc3
    ·simp only[e,if_false];obtain⟨h1,h2,h3,h4,h5,h6⟩:=mt.row a ω;have h5':ro a<n2:=h5;refine⟨?_,h2,h3,h4,by show ro a<n2+1+1+1;omega,by omega⟩;simp(disch:=omega) only[cF,T.get_put,if_false];rw[old3' _ h5'];exact h1
   ·by_cases ea:a=i<;>by_cases eb:b=i
    ·omega
    ·simp only[ea,eb,if_true,if_false] at hab;have:=(mt.row b ω).2.2.2.2.1;have h5':ro b<n2:=this;omega
    ·simp only[ea,eb,if_true,if_false] at hab;have:=(mt.row a ω).2.2.2.2.1;have h5':ro a<n2:=this;omega
    ·simp only[ea,eb,if_false] at hab;exact mt.inj a b ω ω hab
   ·by_cases e:a=i
    ·subst e;simp only[if_true] at ht;exact upr b t ht
    ·simp only[e,if_false] at ht;exact mt.up a ω b t ht
   all_goals exact U3 t1 t3 t4
 ·rintro τ ⟨n2,v2,ob2⟩ ⟨hn2,old2,⟨v,oo,ro,M,t5,hv⟩,t1,t3,t4,t6⟩;rcases hv with ⟨h0,_⟩|⟨_,rfl,mt⟩
  ·omega
  have hn2':n1<=n2:=hn2;have old2':∀j,j<n1 ->ob2.get j=ob1.get j:=old2;have d0:cG (ob2.get m)=some (aL g):=by rw[old2' m ω];exact c0'
  have d0':=d0;simp only[aL] at d0;refine Y6 d0 t1 t3 t4 t5 t6 ?_;refine aX E.ok g.prods.length (fun i τ h=>n1<=h.next/\ (∀j,j<n1 ->h.objs.get j=ob1.get j)/\ (∃M,Et g.nts.length g.nts.length n1 oo ro M h)/\ τ.get 1=some (.p m 0)/\ τ.get 3=some (.sl q 0 g.nts.length (some g.nts.length) 2)/\ τ.get 5=some (.sl oo 0 g.nts.length none 1)/\ τ.get 7=some (ι (i:Int))) ?_ ?_ _ _ ⟨hn2,old2,⟨M,mt⟩,?_,?_,?_,?_⟩
  ·rintro i τ ⟨n3,v3,ob3⟩ hi ⟨hn3,old3,⟨M3,mt3⟩,s1,s3,s5,s7⟩ ih;have hn3':n1<=n3:=hn3;have old3':∀j,j<n1 ->ob3.get j=ob1.get j:=old3;have e0:cG (ob3.get m)=some (aL g):=by rw[old3' m ω];exact c0'
   simp only[aL] at e0;have hpi:g.prods[i]? =some g.prods[i]:=ba hi;generalize hp:g.prods[i]=p at hpi;have hpm:=bJ hpi;have ok:=G.p p hpm;have okl:=ok.left;have rl:=ok.len;have f2:sub (g.prods.flatMap cC) (i*13+2) 1=some [eR bS 2 p.rn p.right]:=aB eG hpi (j:=2) (n:=1) ω;have f1:sub (g.prods.flatMap cC) (i*13+1) 1=some [.i .i64 (p.left:Int)]:=aB eG hpi (j:=1) (n:=1) ω;have nkg:aJ 64 (.ag (aL g))=true:=by rw[fH,gY]
   simp only[aL] at nkg;have nk1:aJ 64 (eR cC 13 true g.prods)=true:=aT fD;have nk2:∀k,aJ 64 (.dp (g.prods.flatMap cC) k)=true:=fun k=>by rw[di,bu fD]
   have nk3:aJ 64 (eR bS 2 p.rn p.right)=true:=aT de;have nk4:∀k,aJ 64 (.dp (p.right.flatMap bS) k)=true:=fun k=>by rw[di,bu de]
   have cp:=fun h=>Es S R A F G hpi h
   have fp:=ue G hpm;simp only[b9,aL,eT,eD] at cp;refine Y7 e0 s1 s3 s5 s7 @aF f2 ?_;refine aX E.ok p.right.length (fun j τ h=>n1<=h.next/\ (∀j,j<n1 ->h.objs.get j=ob1.get j)/\ (∃M,Et g.nts.length g.nts.length n1 oo ro M h)/\ τ.get 1=some (.p m 0)/\ τ.get 3=some (.sl q 0 g.nts.length (some g.nts.length) 2)/\ τ.get 5=some (.sl oo 0 g.nts.length none 1)/\ τ.get 7=some (ι (i:Int))/\ τ.get 8=some (eR bS 2 p.rn p.right)/\ τ.get 9=some (ι (j:Int))) ?_ ?_ _ _ ⟨hn3,old3,⟨M3,mt3⟩,?_,?_,?_,?_,?_,?_⟩
   ·rintro j τ ⟨n4,v4,ob4⟩ hj ⟨hn4,old4,⟨M4,mt4⟩,u1,u3,u5,u7,u8,u9⟩ ih2;have hn4':n1<=n4:=hn4;have old4':∀j,j<n1 ->ob4.get j=ob1.get j:=old4;have g0:cG (ob4.get m)=some (aL g):=by rw[old4' m ω];exact c0'
    have g0':=g0;simp only[aL] at g0;have hrj:p.right[j]? =some p.right[j]:=ba hj;generalize hs:p.right[j]=s at hrj;have q2:sub (p.right.flatMap bS) (j*2+1) 1=some [.i .i64 (s.2:Int)]:=aB bz hrj (j:=1) (n:=1) ω;rcases ok.sym _ (bJ hrj) with ⟨h1,h2⟩|⟨h1,h2⟩
    ·have q1:sub (p.right.flatMap bS) (j*2) 1=some [.b true]:=by
      have:=aB bz hrj (j:=0) (n:=1) ω;simpa[bS,h1] using this
     refine Y9 u1 u3 u5 u7 u8 u9 @aF q1 @ar ?_;refine ih2 _ _ ⟨hn4,old4,⟨M4,mt4⟩,?_,?_,?_,?_,?_,?_⟩<;>exact U5 u1 u3 u5 u7 u8
    ·have q1:sub (p.right.flatMap bS) (j*2) 1=some [.b false]:=by
      have:=aB bz hrj (j:=0) (n:=1) ω;simpa[bS,h1] using this
     have hrow:=mt4.row p.left okl;obtain⟨r1,r2,r3,r4,r5,r6⟩:=hrow;have r5':ro p.left<n4:=r5;have hco:=mt4.c;dsimp only at hco r1;have rs:=ui (n:=g.nts.length) (ro:=ro) okl;have lo2:oo<n4:=mt4.lo.2;refine F4 g0 u1 u3 u5 u7 u8 u9 @aF q1 q2 f1 f2 hco rs nkg nk1 nk2 nk3 nk4 ?_;refine E.con (cp _) ?_;refine F4 g0 u1 u3 u5 u7 u8 u9 @aF q1 q2 f1 f2 hco rs nkg nk1 nk2 nk3 nk4 ?_;refine E.run (G9 E F (nl:=p.rn) hj ω _ ?_);rintro o c ⟨n5,v5,ob5⟩ ho1 ho2 hn5 old5 hco5;have hn5':n4<=n5:=hn5;have old5':∀j,j<n4 ->ob5.get j=ob4.get j:=old5;have ho1':o<n5:=ho1;have ho2':n4<=o:=ho2;have g5:cG (ob5.get m)=some (aL g):=by rw[old5' m ω];exact g0'
     have g5':=g5;simp only[aL] at g5;have hc5:cG (ob5.get oo)=some ((List.range g.nts.length).map fun a=>AV.sl (ro a) 0 g.nts.length (some g.nts.length) 2):=by rw[old5' oo lo2];exact hco
     have hL5:cG (ob5.get q)=some (L.flatMap cT):=by rw[old5' q ω,old4' q hq1'];exact hcL
     refine F4 g5 u1 u3 u5 u7 u8 u9 @aF q1 q2 f1 f2 hc5 rs nkg nk1 nk2 nk3 nk4 ?_;have hin:∀s∈dC p.right j,s.1=false ->s.2<g.nts.length:=by
      intro s hs h1;have hm:s∈p.right:=by
       rcases eV.1 hs with h|h
       ·exact List.mem_of_mem_take h
       ·exact List.mem_of_mem_drop h
      rcases ok.sym s hm with ⟨h2,_⟩|⟨_,h2⟩
      ·rw[h1] at h2;cases h2
      ·exact h2
     refine E.run (Er (strict:=true) (r:=dC p.right j) (d:=fZ g p) (L:=L) (q:=q) S E R A F (.inr ⟨o,c,rfl,hco5,ho1⟩) (by unfold dC;rw[cX,fO,qY];omega) hL5 (by show q<n5;omega) hlL hL fp hin _ ?_);rintro⟨n6,v6,ob6⟩ hn6 old6;have hn6':n5<=n6:=hn6;have old6':∀j,j<n5 ->ob6.get j=ob5.get j:=old6;have fw:=ud (strict:=true) hL (dC p.right j) _ fp;have hmem:∀(j':Nat) s',j'≠j ->p.right[j']? =some s' ->s'∈dC p.right j:=by
      intro j' s' hne hs';unfold dC;rw[eV];by_cases hlt:j'<j
      ·left;refine bJ (i:=j') ?_;rw[iL,if_pos hlt];exact hs'
      ·right;refine bJ (i:=j'-(j+1)) ?_;rw[lj,show j+1+(j'-(j+1))=j' by omega];exact hs'
     have hw:mY L true (fZ g p) (dC p.right j)=cN∨p.left<s.2:=by
      by_cases ht:∀s∈p.right,s.1=false
      ·rcases Y.st p hpm ht j s.2 (by rw[hrj,←h1]) with h|⟨j',z,hne,hj',hz⟩
       ·exact .inr h
       ·exact .inl (yF hL _ _ fp (.inr ⟨_,hmem j' _ hne hj',.inr (Av hZ hz)⟩))
      ·left;obtain⟨s',hs',ht'⟩:∃s'∈p.right,s'.1=true:=by
        refine Classical.byContradiction fun hc=>ht fun s' hs'=> ?_
        cases h:s'.1 with
        |false=>rfl
        |true=>exact absurd ⟨s',hs',h⟩ hc
       obtain⟨j',hlt',hj'⟩:=rL.1 hs';have hj2:p.right[j']? =some s':=by rw[←hj'];exact ba hlt'
       have hne:j'≠j:=by
        intro h;subst h;rw[hrj] at hj2;cases hj2;rw[h1] at ht';cases ht'
       exact yF hL _ _ fp (.inr ⟨s',hmem j' s' hne hj2,.inl ht'⟩)
     generalize hwd:mY L true (fZ g p) (dC p.right j)=w at*;have g6:cG (ob6.get m)=some (aL g):=by rw[old6' m ω];exact g5'
     simp only[aL] at g6;have hc6:cG (ob6.get oo)=some ((List.range g.nts.length).map fun a=>AV.sl (ro a) 0 g.nts.length (some g.nts.length) 2):=by rw[old6' oo ω];exact hc5
     simp only[eT,eD];refine F4 g6 u1 u3 u5 u7 u8 u9 @aF q1 q2 f1 f2 hc6 rs nkg nk1 nk2 nk3 nk4 ?_;have hMi:(M4 p.left)[s.2]? =some (M4 p.left)[s.2]:=ba ω;generalize hx:(M4 p.left)[s.2]=x at hMi;have fx:=r3 x (bJ hMi);have hr6:cG (ob6.get (ro p.left))=some ((M4 p.left).flatMap cT):=by rw[old6' _ ω,old5' _ r5'];exact r1
     refine E.run (vj (L:=M4 p.left) (s:=x) (d:=w) (q:=ro p.left) S E R A F hr6 (by show ro p.left<n6;omega) r2 hMi fx fw _ ?_);rintro⟨n7,v7,ob7⟩ hn7 old7 hc7;have hn7':n6<=n7:=hn7;have old7':∀j,j<n6 ->j≠ro p.left ->ob7.get j=ob6.get j:=old7;have mt6:Et g.nts.length g.nts.length n1 oo ro M4 ⟨n6,v6,ob6⟩:=mt4.mono (by show n4<=n6;omega) (fun j' h1 h2=>by have h2':j'<n4:=h2;show ob6.get j'=_;rw[old6' j' ω,old5' j' h2']);have mt7:=mt6.upd (a:=p.left) (b:=s.2) (x:=eF (fun x y=>x||y) x w) (h':=⟨n7,v7,ob7⟩) okl hn7 old7 hc7 (cH fx fw) (by
      rcases hw with h|h
      ·rcases mt4.up p.left okl s.2 x hMi with h'|h'
       ·left;rw[h,h'];rfl
       ·exact .inr h'
      ·exact .inr h)
     refine Y7 u1 u3 u5 u7 u8 u9 @ar ?_;refine ih2 _ _ ⟨by show n1<=n7;omega,fun j' hj'=> ?_,⟨_,mt7⟩,?_,?_,?_,?_,?_,?_⟩
     ·show ob7.get j'=_;rw[old7' j' ω ω,old6' j' ω,old5' j' ω];exact old4' j' hj'
     all_goals exact U5 u1 u3 u5 u7 u8
   ·rintro τ ⟨n4,v4,ob4⟩ ⟨hn4,old4,⟨M4,mt4⟩,u1,u3,u5,u7,u8,u9⟩;refine Y7 u1 u3 u5 u7 u8 u9 @ar ?_;refine ih _ _ ⟨hn4,old4,⟨M4,mt4⟩,?_,?_,?_,?_⟩<;>exact U3 u1 u3 u5
   all_goals exact U4 s1 s3 s5 s7
  ·rintro τ ⟨n3,v3,ob3⟩ ⟨hn3,old3,⟨M3,mt3⟩,s1,s3,s5,s7⟩;have hn3':n1<=n3:=hn3;have old3':∀j,j<n1 ->ob3.get j=ob1.get j:=old3;have e0:cG (ob3.get m)=some (aL g):=by rw[old3' m ω];exact c0'
   simp only[aL] at e0;refine Y5 e0 s1 s3 s5 s7 ?_;refine hk oo ro M3 _ ⟨mt3.c,fun a ha=> ?_,mt3.inj,mt3.up,?_⟩ (by show m<=n3;omega) (fun j hj=> ?_)
   ·obtain⟨h1,h2,h3,h4,h5,h6⟩:=mt3.row a ha;exact⟨h1,h2,h3,by show m<=ro a;omega,h5,h6⟩
   ·exact⟨by show m<=oo;have:=mt3.lo.1;omega,mt3.lo.2⟩
   ·have hj':j<m:=hj;show ob3.get j=_;rw[old3' j ω];exact low j hj'
  all_goals exact U3 t1 t3 t5
 ·exact bK _
 ·exact fun j _=>rfl
 all_goals exact U0
def Et.at {n k lo oo:Nat} {ro:Nat ->Nat} {M:Nat ->List Tr} {h:AH} (m:Et n k lo oo ro M h) {a b:Nat} (ha:a<k) (hb:b<n):∃t,(M a)[b]? =some t/\ ew 3 t=true/\ (t=cN∨a<b):=by
 obtain⟨h1,h2,h3,_⟩:=m.row a ha;have e:(M a)[b]? =some (M a)[b]:=ba ω;exact⟨_,e,h3 _ (bJ e),m.up a ha b _ e⟩
set_option maxHeartbeats 4000000 in
def Eu {C:cQ Prop} (S:aw P X GL fns) (E:gW P X GL fns C) (R:dr fns) (A:bh P X GL) (Q:gf fns) (F:vZ fns) {g:Gr} (G:cM g) {Z:Nat ->Bool} (Y:yG g Z) {h:AH} (k:AV ->AH ->Prop)
 (hk:∀o h',cG (h'.objs.get o)=some ((List.replicate g.nts.length cN).flatMap cT) ->h.next<=h'.next ->o<h'.next ->(∀j,j<h.next ->h'.objs.get j=h.objs.get j) ->k (.tu [.sl o 0 g.nts.length none 2,.i .i64 0]) h'):
 bZ C 50 [b9 g] h k:=by
 obtain⟨m,ver,ob⟩:=h;have ntl:=G.ntl;have cc:∀h,dq P X GL 110 [b9 g] h (ι 0) h:=fun h=>G6 S R A Q G h
 have cc':=cc;simp only[b9,aL] at cc';rw[aA E.ok (E.get F.f50)];simp(disch:=omega) only[ab1,b9,aL,↓ky E.ok,Nat.reduceEqDiff,Nat.reduceAdd,Nat.reduceMul,Nat.reduceLT,Nat.reduceShiftRight,Nat.reduceAnd,Nat.reduceBneDiff,↓reduceIte,Int.reduceLT,Int.reduceLE,Int.reduceEq,go_sem];refine E.con (cc' _) ?_;refine Y0 ?_;refine E.run (KK S E R A F G Y _ ?_);rintro oo ro M0 ⟨n1,v1,ob1⟩ mt0 hn1 old1;have hn1':m+1<=n1:=hn1;have old1':∀j,j<m+1 ->ob1.get j=_:=old1;have low:∀j,j<m ->ob1.get j=ob.get j:=fun j hj=>by rw[old1' j ω];exact U0
 refine Y0 ?_;generalize hn:g.nts.length=n at*;have Inv:Prop:=True;have fine:∀(τ:T AV) (n2 v2:Nat) (ob2:T aU) (M:Nat ->List Tr),Et n n (m+1) oo ro M ⟨n2,v2,ob2⟩ ->(∀j,j<m+1 ->ob2.get j=ob1.get j) ->m+1<=n2 ->τ.get 5=some (.sl oo 0 n none 1) ->τ.get 6=some (ι (n:Int)) ->dk C G7 [] (KF k [(2,none),(3,none)]) τ ⟨n2,v2,ob2⟩:=by
  intro τ n2 v2 ob2 M mt old2 hn2 t5 t6;refine Y2 t5 t6 ?_;refine aX E.ok n (fun i τ h=>n2<=h.next/\ (∀j,j<n2 ->h.objs.get j=ob2.get j)/\ (∃o,(i=0/\ τ.get 10=some .sn)∨(i≠0/\ τ.get 10=some (.sl o 0 i none 2)/\ n2<=o/\ o<h.next/\ cG (h.objs.get o)=some ((List.replicate i cN).flatMap cT)))/\ τ.get 5=some (.sl oo 0 n none 1)/\ τ.get 6=some (ι (n:Int))/\ τ.get 11=some (ι (i:Int))) ?_ ?_ _ _ ⟨bK _,fun j _=>rfl,⟨0,.inl ⟨rfl,?_⟩⟩,?_,?_,?_⟩
  ·rintro i τ ⟨n3,v3,ob3⟩ hi ⟨hn3,old3,⟨o,ho⟩,s5,s6,s11⟩ ih;have hn3':n2<=n3:=hn3;have old3':∀j,j<n2 ->ob3.get j=ob2.get j:=old3;obtain⟨t,ht,ft,hb⟩:=mt.at (a:=i) (b:=i) hi hi;have htb:t=cN:=hb.elim id fun h=>absurd h ω
   subst htb;obtain⟨r1,r2,r3,r4,r5,r6⟩:=mt.row i hi;have r5':ro i<n2:=r5;have lo2:oo<n2:=mt.lo.2;have hco:cG (ob3.get oo)=some ((List.range n).map fun a=>AV.sl (ro a) 0 n (some n) 2):=by rw[old3' oo lo2];exact mt.c
   have hr:cG (ob3.get (ro i))=some ((M i).flatMap cT):=by rw[old3' _ r5'];exact r1
   have rs:=ui (n:=n) (ro:=ro) hi;have e2:sub ((M i).flatMap cT) (i*2) 2=some [.sn,.i .i64 0]:=aB kZ ht (j:=0) (n:=2) ω;have hrep:(List.replicate (i+1) cN).flatMap cT=(List.replicate i cN).flatMap cT++[.sn,.i .i64 0]:=by rw[List.replicate_succ',ik];rfl
   rcases ho with ⟨rfl,s10⟩|⟨i0,s10,ho1,ho2,ho3⟩
   ·simp only[wZ] at e2;refine Y9 @nz s5 s6 s10 s11 hco hr rs e2 ?_;refine ih _ _ ⟨by show n2<=n3+1+1;omega,fun j hj=> ?_,⟨n3+1,.inr ⟨by omega,?_,by omega,by show n3+1<n3+1+1;omega,?_⟩⟩,?_,?_,?_⟩
    ·exact W0 (old3' j hj)
    ·exact U0
    ·exact U0
    all_goals simp only[T.get_put,Nat.reduceEqDiff,reduceIte,s5,s6]
    rfl
   ·have ho2':o<n3:=ho2;dsimp only at ho3;have i2:i+1<=1048576:=by omega
    have ll:((List.replicate i cN).flatMap cT).length=i*2:=by rw[dG kZ];simp
    refine IA @nz s5 s6 s10 s11 hco hr rs e2 ho3 i2 ll @ar ?_;refine ih _ _ ⟨by show n2<=n3+1+1;omega,fun j hj=> ?_,⟨n3+1,.inr ⟨by omega,?_,by omega,by show n3+1<n3+1+1;omega,?_⟩⟩,?_,?_,?_⟩
    ·exact W0 (old3' j hj)
    ·exact U0
    ·exact U1 hrep
    all_goals exact U2 s5 s6
  ·rintro τ ⟨n3,v3,ob3⟩ ⟨hn3,old3,⟨o,ho⟩,s5,s6,s11⟩;have hn3':n2<=n3:=hn3;have old3':∀j,j<n2 ->ob3.get j=ob2.get j:=old3;rcases ho with ⟨i0,s10⟩|⟨i0,s10,ho1,ho2,ho3⟩
   ·omega
   ·refine Y4 s5 s6 s10 s11 ?_;refine hk o _ ho3 (by show m<=n3;omega) ho2 (fun j hj=> ?_);have hj':j<m:=hj;show ob3.get j=_;rw[old3' j ω,old2 j ω];exact low j hj'
  all_goals exact U2 t5 t6
 generalize G7=rest at fine ⊢;refine aX E.ok n (fun kk τ h=>m+1<=h.next/\ (∀j,j<m+1 ->h.objs.get j=ob1.get j)/\ (∃M,Et n n (m+1) oo ro M h)/\ τ.get 5=some (.sl oo 0 n none 1)/\ τ.get 6=some (ι (n:Int))/\ τ.get 7=some (ι (kk:Int))) ?_ ?_ _ _ ⟨hn1,fun j _=>rfl,⟨M0,mt0⟩,?_,?_,?_⟩
 ·rintro kk τ h2 hkk ⟨hn2,old2,hM2,t5,t6,t7⟩ ih;refine Y3 t5 t6 t7 ?_;refine aX E.ok n (fun i τ h=>m+1<=h.next/\ (∀j,j<m+1 ->h.objs.get j=ob1.get j)/\ (∃M,Et n n (m+1) oo ro M h)/\ τ.get 5=some (.sl oo 0 n none 1)/\ τ.get 6=some (ι (n:Int))/\ τ.get 7=some (ι (kk:Int))/\ τ.get 8=some (ι (i:Int))) ?_ ?_ _ _ ⟨hn2,old2,hM2,?_,?_,?_,?_⟩
  ·rintro i τ h3 hi ⟨hn3,old3,hM3,s5,s6,s7,s8⟩ ih2;refine Y4 s5 s6 s7 s8 ?_;refine aX E.ok n (fun j τ h=>m+1<=h.next/\ (∀j,j<m+1 ->h.objs.get j=ob1.get j)/\ (∃M,Et n n (m+1) oo ro M h)/\ τ.get 5=some (.sl oo 0 n none 1)/\ τ.get 6=some (ι (n:Int))/\ τ.get 7=some (ι (kk:Int))/\ τ.get 8=some (ι (i:Int))/\ τ.get 9=some (ι (j:Int))) ?_ ?_ _ _ ⟨hn3,old3,hM3,?_,?_,?_,?_,?_⟩
   ·rintro j τ ⟨n4,v4,ob4⟩ hj ⟨hn4,old4,⟨M,mt⟩,u5,u6,u7,u8,u9⟩ ih3;have hn4':m+1<=n4:=hn4;obtain⟨a,ha,fa,hba⟩:=mt.at (a:=i) (b:=kk) hi hkk;obtain⟨b,hb,fb,hbb⟩:=mt.at (a:=kk) (b:=j) hkk hj;obtain⟨x,hx,fx,hbx⟩:=mt.at (a:=i) (b:=j) hi hj;obtain⟨r1,r2,r3,r4,r5,r6⟩:=mt.row i hi;obtain⟨p1,p2,p3,p4,p5,p6⟩:=mt.row kk hkk;have hco:=mt.c;have rs1:=ui (n:=n) (ro:=ro) hi;have rs2:=ui (n:=n) (ro:=ro) hkk;have ea:sub ((M i).flatMap cT) (kk*2) 2=some (cT a):=aB kZ ha (j:=0) (n:=2) ω;have eb:sub ((M kk).flatMap cT) (j*2) 2=some (cT b):=aB kZ hb (j:=0) (n:=2) ω;have cm:=fun h=>nW S R (A a fa) (A b fb) h
    simp only[cT] at ea eb;simp only[eT,eD] at cm;dsimp only at hco r1 p1;have fab:ew 3 (eF (fun x y=>x&&y) a b)=true:=cH fa fb;have hab:eF (fun x y=>x&&y) a b=cN∨i<j:=by
     rcases hba with rfl|h1
     ·exact .inl (qG fb)
     ·rcases hbb with rfl|h2
      ·exact .inl (ug fa)
      ·exact .inr ω
    refine BR u5 u6 u7 u8 u9 hco r1 p1 rs1 rs2 ea eb ?_;refine E.con (cm _) ?_;refine BR u5 u6 u7 u8 u9 hco r1 p1 rs1 rs2 ea eb ?_;refine E.run (vj (L:=M i) (s:=x) (d:=eF (fun x y=>x&&y) a b) (q:=ro i) S E R A F r1 r5 r2 hx fx fab _ ?_);rintro⟨n7,v7,ob7⟩ hn7 old7 hc7;have hn7':n4<=n7:=hn7;have old7':∀j,j<n4 ->j≠ro i ->ob7.get j=ob4.get j:=old7;have mt7:=mt.upd (a:=i) (b:=j) (h':=⟨n7,v7,ob7⟩) hi hn7 old7 hc7 (cH fx fab) (by
     rcases hab with h|h
     ·rcases hbx with h'|h'
      ·left;rw[h,h'];rfl
      ·exact .inr h'
     ·exact .inr h)
    refine Y6 u5 u6 u7 u8 u9 @ar ?_;refine ih3 _ _ ⟨by show m+1<=n7;omega,fun j' hj'=> ?_,⟨_,mt7⟩,?_,?_,?_,?_,?_⟩
    ·show ob7.get j'=_;rw[old7' j' ω ω];exact old4 j' hj'
    all_goals exact U4 u5 u6 u7 u8
   ·rintro τ h4 ⟨hn4,old4,hM4,u5,u6,u7,u8,u9⟩;refine Y6 u5 u6 u7 u8 u9 @ar ?_;refine ih2 _ _ ⟨hn4,old4,hM4,?_,?_,?_,?_⟩<;>exact U3 u5 u6 u7
   all_goals exact U4 s5 s6 s7 s8
  ·rintro τ h3 ⟨hn3,old3,hM3,s5,s6,s7,s8⟩;refine Y5 s5 s6 s7 s8 @ar ?_;refine ih _ _ ⟨hn3,old3,hM3,?_,?_,?_⟩<;>exact U2 s5 s6
  all_goals exact U3 t5 t6 t7
 ·rintro τ ⟨n2,v2,ob2⟩ ⟨hn2,old2,⟨M,mt⟩,t5,t6,t7⟩;refine Y3 t5 t6 t7 ?_;refine fine _ n2 v2 ob2 M mt old2 hn2 ?_ ?_<;>exact U2 t5 t6
 all_goals exact U0
def Ha (S:aw P X GL fns) (R:dr fns) (A:bh P X GL) (Q:gf fns) (F:vZ fns) {g:Gr} (G:cM g) {Z:Nat ->Bool} (Y:yG g Z) (h:AH):dq P X GL 22 [b9 g] h (ι 0) h:=by
 refine ez S (fun n h=>rfl) ?_ h;refine aZ.intro fun C E=> ?_
 have ntl:=G.ntl;rw[aA E.ok (E.get F.f22)];refine Y4 @ab0.eq_1 @b9.eq_1 @aL.eq_1 @h0.eq_1 ?_;refine E.run (Eu S E R A Q F G Y _ ?_);rintro o ⟨n1,v1,ob1⟩ hc hn1 ho old1;refine Y0 ?_;refine aX E.ok g.nts.length (fun i τ h=>cG (h.objs.get o)=some ((List.replicate g.nts.length cN).flatMap cT)/\ τ.get 3=some (.sl o 0 g.nts.length none 2)/\ τ.get 5=some (ι (i:Int))) ?_ ?_ _ _ ⟨hc,?_,?_⟩
 ·rintro i τ ⟨n2,v2,ob2⟩ hi ⟨hc2,t3,t5⟩ ih;dsimp only at hc2;have e2:sub ((List.replicate g.nts.length cN).flatMap cT) (i*2+1) 1=some [.i .i64 0]:=aB kZ (L:=List.replicate g.nts.length cN) (i:=i) (a:=cN) (by simp[hi]) (j:=1) (n:=1) ω;refine Y5 t3 t5 hc2 e2 @ar ?_;refine ih _ _ ⟨hc2,?_,?_⟩<;>exact U1 t3
 ·rintro τ ⟨n2,v2,ob2⟩ ⟨hc2,t3,t5⟩;refine Y2 t3 t5 ?_;exact⟨1,rfl⟩
 all_goals exact U0
end
end
end AM
