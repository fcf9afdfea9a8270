import Derived.Test.YtdicmpmcdjdneaaGreatDoorN22
set_option linter.all false
set_option maxHeartbeats 4000000
namespace AM
open Dg Go
noncomputable section
def Qq:∀N (l:List Nat),l.Nodup ->(∀x∈l,x<N) ->l.length<=N
 |0,l,_,h=>by
  rcases l with _|⟨a,l⟩;simp;exact bh (h a (by simp)) ω
 |N+1,l,nd,h=>by
  by_cases B:N∈l;have G:=Qq N (l.erase N) (nd.erase N) (λx j=>by
   have:=nd.mem_erase_iff.1 j;have:=h x this.2;omega)
  have:=List.length_erase_of_mem B;omega;have G:=Qq N l nd (λx j=>by
   have h1:=h x j;have:x≠N:=λe=>B (e▸j);omega)
  omega
def EO {κ ν} [DecidableEq κ] {k v}:∀{l:List (κ×ν)} {i:Nat},l[i]? =some (k,v) ->∃t,look k l=some t
 |[],i,h=>by simp at h
 |(a,b)::l,i,h=>by
  by_cases e:k=a;exact⟨b,by simp[look,e]⟩;rcases i with _|i;simp at h;exact bh h.1.symm e;obtain⟨t,j⟩:=EO (l:=l) (i:=i) (by simpa using h);exact⟨t,by simp[look,e,j]⟩
def pB.len {n l} (m:pB n l):l.length<=n*n:=by
 have h:=Qq (n*n) (l.map λe=>e.1.1*n+e.1.2) ?_ ?_;simpa using h;have:(l.map λe=>e.1.1*n+e.1.2)=(l.map (·.1)).map λk=>k.1*n+k.2:=by rw[Lu];rfl
 rw[this];have I:∀k∈l.map (·.1),k.1<k.2/\ k.2<n:=by
  intro k B;obtain⟨e,j,rfl⟩:=sV.1 B;obtain⟨i,hi,G⟩:=sX.1 j;obtain⟨t,H⟩:=EO (k:=e.1) (v:=e.2) (l:=l) (i:=i) (by rw[ef hi,G]);exact(m.f _ t H).2
 have key:∀L:List (Nat×Nat),L.Nodup ->(∀k∈L,k.1<k.2/\ k.2<n) ->(L.map λk=>k.1*n+k.2).Nodup:=by
  intro L;induction L with
  |nil=>intro _ _;simp
  |cons a L ih=>
   intro nd h;rw[FO] at nd;rw[jY,FO];refine⟨λO=> ?_,ih nd.2 λk B=>h k (by simp[B])⟩;obtain⟨b,hb,e⟩:=sV.1 O;have J:=h a (by simp);have N:=h b (by simp[hb]);refine nd.1 ?_;have e1:b.1=a.1:=by
    rcases Nat.lt_trichotomy b.1 a.1 with c|c|c;have:(b.1+1)*n<=a.1*n:=ni n c;rw[nq] at this;omega;exact c;have:(a.1+1)*n<=b.1*n:=ni n c;rw[nq] at this;omega
   have e2:b.2=a.2:=by rw[e1] at e;omega
   have:a=b:=by cases a;cases b;simp_all
   rw[this];exact hb
 exact key _ m.nd I;intro x R;obtain⟨e,j,rfl⟩:=sV.1 R;obtain⟨i,hi,G⟩:=sX.1 j;obtain⟨t,H⟩:=EO (k:=e.1) (v:=e.2) (l:=l) (i:=i) (by rw[ef hi,G]);have:=(m.f _ t H).2;have h2:(e.1.1+1)*n<=n*n:=ni n ω;rw[nq] at h2;omega
structure aV6 (n c lo hi:Nat) (g:Nat ->Option bC) (N:List (Nat×(Nat×List Nat))):Prop where
 f:∀(a o:Nat) (L:List Nat),look a N=some (o,L) ->cG (g o)=some (L.flatMap cI)/\ L≠[]/\ (∀b∈L,a<b/\ b<n)/\ L.length<=c/\ lo<=o/\ o<hi
 inj:∀(a b o:Nat) L L',look a N=some (o,L) ->look b N=some (o,L') ->a=b
variable {P:Program} {X:aR} {GL:T (List AV)} {ae:T au}
variable (S:aT P X GL ae) {C:aK Prop} (E:Sem P X GL ae C)
variable {h:AH}
def aV7 {n s} (nl:n<=100) {St} (so:pB n St) {τ} (ms:mG (h.oB.get s)=mS St) (c4:cG (h.oB.get (s+1))=some [.m s]) (low:s+2<=h.next) {oa o} (t0:τ.get 0=some (.p oa 0)) (t3:τ.get 3=some (.m o)) (t4:τ.get 4=some (.p (s+1) 0)) {Fs K}
 (hk:∀N ou τ' h',mG (h'.oB.get h.next)=mN N ->cG (h'.oB.get (h.next+1))=some [.m h.next] ->EM n h'.oB.get h'.next N ->mG (h'.oB.get ou)=mT [] ->h.next+2<=ou ->ou<h'.next ->(∀j,j<h.next ->h'.oB.get j=h.oB.get j) ->τ'.get 0=some (.p oa 0) ->τ'.get 4=some (.p (s+1) 0) ->τ'.get 14=some (.p (h.next+1) 0) ->τ'.get 16=some (.m ou) ->df C Ir Fs K τ' h'):
 df C (.seq S1 Qp) Fs K τ h:=by
 obtain⟨m,ver,ob⟩:=h;have c7:s+2<=m:=low;dsimp only at ms c4;unfold Qp;have sl:=so.len;have d0:n*n<=100*n:=ni n nl;have rg:∀B G ob' (τ:T AV),mG (T.get ob' s)=mS St ->az C τ (.t 99)= .m s ->step (az C τ) ⟨B,G,ob'⟩ (.rng (.t 99) false)= .v (.p B 0) ⟨B+1,G,ob'.put B (.mit (some s) St.length [] St.length)⟩:=
  λB G ob' τ J O=>by
   obtain⟨v,e⟩:=(fT (ek:=eK) (en:=eT) (h:=⟨B,G,ob'⟩) (o:=s) (l:=St)).2 J;exact SQ e O
 refine Z4 t4 c4 rg ms ?_;refine Qo E.ok (λx:List Nat×List (Nat×(Nat×List Nat))=>St.length-x.1.length) (λx τ h=>x.1.Nodup/\ (∀i∈x.1,i<St.length)/\ h.oB.get (m+2)=some (.mit (some s) St.length x.1 St.length)/\ mG (h.oB.get m)=mN x.2/\ cG (h.oB.get (m+1))=some [.m m]/\ aV6 n x.1.length (m+3) h.next h.oB.get x.2/\ (∀j,j<m ->h.oB.get j=ob.get j)/\ m+3<=h.next/\ τ.get 0=some (.p oa 0)/\ τ.get 3=some (.m o)/\ τ.get 4=some (.p (s+1) 0)/\ τ.get 14=some (.p (m+1) 0)/\ τ.get 100=some (.p (m+2) 0)) ?_ ([],[]) _ _ ⟨by simp,by simp,?_,?_,?_,⟨λa o L h=>by simp[look] at h,λa b o L L' h=>by simp[look] at h⟩,λj hj=> ?_,bB _,?_,?_,?_,?_,?_⟩;rintro⟨seen,N⟩ τ ⟨n1,v1,aQ⟩ ⟨nd,sb,hit,hN,c1,ng,old,dS,s0,s3,s4,s14,s100⟩ ih;have c6:m+3<=n1:=dS;have gu:∀j,j<m ->aQ.get j=ob.get j:=old;dsimp only at hit hN c1 ng nd sb;have W:mG (aQ.get s)=mS St:=by rw[gu s ω];exact ms
 obtain⟨vs,es⟩:=(fT (ek:=eK) (en:=eT) (h:=⟨n1,v1,aQ⟩) (o:=s) (l:=St)).2 W;refine Y0 ?_;rw[←D9];refine SO E.ok (l:=St) (seen:=seen) (ek:=eK) (en:=eT) es hit (Y1 s100 trivial) (λb8=> ?_) (λi k v hi b7=> ?_)
 ·refine Y0 ?_;refine hk N n1 _ _ ?_ ?_ ⟨λa H L I=> ?_⟩ ?_ (by show m+2<=n1;omega) (by show n1<n1+1;omega) (λj hj=> ?_) ?_ ?_ ?_ ?_;exact W0 hN;exact W0 c1;obtain⟨J,O,U,q4,q5,q6⟩:=ng.f a H L I;have Y:H<n1:=q6;refine⟨(W0 J),O,U,?_,by show H<n1+1;omega⟩;have:=Qq _ _ nd sb;have h2:n*n<=100*n:=ni n nl;omega;exact U0;have m9:j<m:=hj;exact W0 (gu j m9);all_goals exact U3 s0 s4 s14
 ·obtain⟨a,b⟩:=k;have b6:=(eC.1 hi).1;obtain⟨t,ht⟩:=EO hi;obtain⟨ft,b0,b1⟩:=so.f _ t ht;dsimp only at b0 b1;have b3:(seen++[i]).Nodup:=zE.2 ⟨nd,by simp,λx hx y hy e=>b7 (by rw[yC.1 hy] at e;exact e▸hx)⟩;have b4:∀x∈seen++[i],x<St.length:=λx hx=>(fO.1 hx).elim (sb x) λh=>by rw[yC.1 h];exact b6
  have b5:=Qq _ _ b3 b4;rw[dy] at b5;simp only[gJ,ji] at b5;have Z:∀B G ob' (τ:T AV),mG (T.get ob' s)=mS St ->T.get ob' (m+2)=some (.mit (some s) St.length (seen++[i]) St.length) ->az C τ (.t 100)= .p (m+2) 0 ->step (az C τ) ⟨B,G,ob'⟩ (.ent (.t 100))= .v (.tu [.ag [ι (a:Int),ι (b:Int)],eT v]) ⟨B,G,ob'⟩:=
   λB G ob' τ J O U=>by
    obtain⟨v',e⟩:=(fT (ek:=eK) (en:=eT) (h:=⟨B,G,ob'⟩) (o:=s) (l:=St)).2 J;exact SP (ek:=eK) (en:=eT) (k:=(a,b)) (l:=St) e O U hi
  have lk:∀B G ob' (τ:T AV),mG (T.get ob' m)=mN N ->az C τ (.t 108)= .m m ->az C τ (.t 110)=ι (a:Int) ->
   step (az C τ) ⟨B,G,ob'⟩ (.look (.lf .i) (.t 108) (.t 110) .sn false)= .v (oF nV .sn (look a N)) ⟨B,G,ob'⟩:=
   λB G ob' τ J O U=>sd (k:=a) (z:= .sn) (en:=nV) lW (h:=⟨B,G,ob'⟩) (fT.2 J) O U
  have mu:∀(w:Nat×List Nat) B G ob' (τ:T AV),mG (T.get ob' m)=mN N ->az C τ (.t 105)= .m m ->az C τ (.t 107)=ι (a:Int) ->az C τ (.t 115)= .sl w.1 0 w.2.length none 1 ->
   step (az C τ) ⟨B,G,ob'⟩ (.mupd (.lf .i) (.t 105) (.t 107) (.t 115))= .v .un ⟨B,G+1,ob'.put m (.map (G+1) (di (λn:Nat=>AV.i .i64 (n:Int)) nV 0 (ups a w N)) (ups a w N).length)⟩:=
   λw B G ob' τ J O U q4=>mL (k:=a) (v:=w) (en:=nV) lW (h:=⟨B,G,ob'⟩) (fT.2 J) O U q4
  have fin:∀(L:List Nat) (τ':T AV) (n2 v2:Nat) (V:T bC),n1+3=n2 ->(∀j,j<n1 ->j≠m ->j≠m+2 ->(∀L',look a N≠some (j,L')) ->V.get j=aQ.get j) ->V.get (m+2)=some (.mit (some s) St.length (seen++[i]) St.length) ->mG (V.get m)=mN (ups a (n1+2,L++[b]) N) ->cG (V.get (n1+2))=some (L.flatMap cI++[ι (b:Int)]) ->(∀z∈L,a<z/\ z<n) ->L.length<=seen.length ->
   τ'.get 0=some (.p oa 0) ->τ'.get 3=some (.m o) ->τ'.get 4=some (.p (s+1) 0) ->τ'.get 14=some (.p (m+1) 0) ->τ'.get 100=some (.p (m+2) 0) ->df C (.loop (.seq S2 TW)) (.b 6:: .s (.seq TY Ir)::Fs) K τ' ⟨n2,v2,V⟩:=by
   intro L τ' n2 v2 V a1 a2 a3 a4 a5 a6 a7 u0 u3 u4 u14 u100;have b2:∀j,j<m+3 ->∀L',look a N≠some (j,L'):=λj hj L' hc=>by
    have:=(ng.f a j L' hc).2.2.2.2.1;omega
   refine ih (seen++[i],ups a (n1+2,L++[b]) N) _ _ ?_ ⟨b3,b4,a3,a4,?_,⟨λa' H L' I=> ?_,λa' b' H L1 L2 h1 h2=> ?_⟩,λj hj=> ?_,by show m+3<=n2;omega,u0,u3,u4,u14,u100⟩;dsimp only;rw[dy];simp only[gJ,ji];omega;show cG (V.get (m+1))=_;rw[a2 (m+1) ω ω ω (b2 _ ω)];exact c1;dsimp only at I ⊢;rw[Fh] at I;rw[dy];simp only[gJ,ji];split at I;rename_i e;cases I;refine⟨?_,by simp,?_,?_,by omega,by show n1+2<n2;omega⟩;show cG (V.get (n1+2))=_;rw[a5,Bd];rfl;intro z hz;rcases fO.1 hz with h|h;rw[e];exact a6 z h;rw[yC.1 h,e];exact⟨b0,b1⟩;rw[dy];simp only[gJ,ji];omega;rename_i ne;obtain⟨J,O,U,q4,q5,q6⟩:=ng.f a' H L' I;have Y:H<n1:=q6;refine⟨?_,O,U,by omega,q5,by show H<n2;omega⟩;rw[a2 H Y ω ω (λL2 h2=>ne (ng.inj a' a H _ _ I h2))];exact J;dsimp only at h1 h2;rw[Fh] at h1 h2;split at h1<;>split at h2;omega;cases h1;have:=(ng.f _ _ _ h2).2.2.2.2.2;have:n1+2<n1:=this;omega;cases h2;have:=(ng.f _ _ _ h1).2.2.2.2.2;have:n1+2<n1:=this;omega;exact ng.inj _ _ _ _ _ h1 h2;show V.get j=_;rw[a2 j ω ω ω (b2 _ ω)];exact gu j hj
  cases I:look a N with
  |none=>
   have R:=mu (n1+1+1,[b]);simp only[gJ,ji,gB] at R;simp(disch:=first|omega|(simp(disch:=omega) only[dh,oD,tB,T.get_put,d9,oI,pN,Nat.reduceEqDiff,reduceIte,W,hN,s100])) only[iB,eK,Z,lk,I,oF,R,s14,c1,↓sA E.ok,Nat.reduceAdd,Nat.reduceShiftRight,Nat.reduceAnd,Nat.reduceBneDiff,↓reduceIte,go_sem];refine fin [] _ _ _ _ rfl (λj h1 h2 h3 _=> ?_) ?_ ?_ ?_ (by simp) (by simp) ?_ ?_ ?_ ?_ ?_;(iterate 4 exact U0);all_goals exact U5 s0 s3 s4 s14 s100
  |some e=>
   obtain⟨H,L⟩:=e;obtain⟨J,O,U,q4,q5,q6⟩:=ng.f a H L I;have Y:H<n1:=q6;have i2:L.length+1<=1048576:=by omega
   have ll:(L.flatMap cI).length=L.length:=by rw[kh (k:=1) (λa=>rfl)];omega
   have R:=mu (n1+1+1,L++[b]);simp only[dy,gJ,ji,gB] at R;refine sD @iB @eK.eq_1 Z lk I @oF.eq_1 @nV.eq_1 R J i2 ll s14 s100 c1 W hN ?_;refine fin L _ _ _ _ rfl (λj h1 h2 h3 h4=> ?_) ?_ ?_ ?_ U q4 ?_ ?_ ?_ ?_ ?_;have:j≠H:=λe=>h4 L (e▸I);(iterate 4 exact U0);all_goals exact U5 s0 s3 s4 s14 s100
 (iterate 4 exact U0);all_goals exact U3 t0 t3 t4
def aV8 {ev x a o j n} (h1:ev x= .sl o j (n+1) none 1) (h2:ff (ev a)=some 1):step ev h (.slc 1 x (some a) none none)= .v (.sl o (j+1) n none 1) h:=by
 show(match ev x with
  | .sl o j n cap esz=>bif !(Nat.beq esz 1) then da.bad else match cap with
   |some c=>match d7 n c (nO ev (some a)) (nO ev none) none with
    |some (l,r,m)=>fN (j+l*esz) λj=>fN (r-l) λn=>fN (m-l) λc=>da.v (.sl o j n (some c) esz) h
    |none=>da.bad
   |none=>match d7 n n (nO ev (some a)) (nO ev none) none with
    |some (l,r,_)=>fN (j+l*esz) λj=>fN (r-l) λn=>da.v (.sl o j n none esz) h
    |none=>da.bad
  | .ds c j n esz=>bif !(Nat.beq esz 1) then da.bad else match d7 n n (nO ev (some a)) (nO ev none) none with
   |some (l,r,_)=>fN (j+l*esz) λj=>fN (r-l) λn=>da.v (.ds c j n esz) h
   |none=>da.bad
  | .sn=>match d7 0 0 (nO ev (some a)) (nO ev none) none with|some _=>da.v .sn h|none=>da.bad
  |_=>da.bad)=_
 rw[h1];have e:d7 (n+1) (n+1) (nO ev (some a)) (nO ev none) none=some (1,n+1,n+1):=by
  rw[uO,uP,h2];show(bif Nat.ble (n+1) (n+1)&&Nat.ble (n+1) (n+1)&&Nat.ble 1 (n+1) then some (1,n+1,n+1) else none)=_;have B:Nat.ble (n+1) (n+1)=true:=by rw[wX];simp
  have G:Nat.ble 1 (n+1)=true:=by rw[wX];simp
  rw[B,G];rfl
 simp only[dT,e];rfl
def aV9 {l a n} {x:AV} {r} (h:sub l a (n+1)=some (x::r)):sub l a 1=some [x]/\ sub l (a+1) n=some r:=by
 obtain⟨h1,h2⟩:=lM h;have e:l.drop a=x::l.drop (a+1):=by
  rcases hd:l.drop a with _|⟨y,t⟩;rw[hd] at h2;simp at h2;rw[hd] at h2;simp only[List.take_succ_cons,List.cons.injEq] at h2;rw[←ud,hd,h2.1];rfl
 rw[e,List.take_succ_cons] at h2;simp only[List.cons.injEq,true_and] at h2;constructor
 grind[nH]
 grind[nH]
def Tj {κ ν} [DecidableEq κ] {k v} {e:κ×ν}:∀{l},e∈ups k v l ->e=(k,v)∨e∈l
 |[],h=>by simp[ups] at h;exact .inl h
 |(a,b)::l,h=>by
  by_cases q:k=a
  grind[ups]
  simp only[ups,aD q,ey] at h;rcases h with h|h;exact .inr (by simp[h]);exact(Tj h).imp id λh=>by simp[h]
def aW0 (A:dY P X GL) (D:bz8 ae) (F:bz8 ae) {g} (G:oy g) {s nx oa ou pp St N} (so:pB g.nT.length St) {τ} (ms:mG (h.oB.get s)=mS St) (c4:cG (h.oB.get (s+1))=some [.m s]) (hN:mG (h.oB.get nx)=mN N) (b4:cG (h.oB.get (nx+1))=some [.m nx]) (no:EM g.nT.length h.oB.get h.next N) (hO:mG (h.oB.get ou)=mT []) (ca:cG (h.oB.get oa)=some (bx g++pp)) (low:s+1<ou/\ nx+1<ou/\ oa<ou/\ ou<h.next)
 (t0:τ.get 0=some (.p oa 0)) (t4:τ.get 4=some (.p (s+1) 0)) (d5:τ.get 14=some (.p (nx+1) 0)) (d6:τ.get 16=some (.m ou)) (k)
 (hk:∀O h',mG (h'.oB.get ou)=mT O ->(∀e∈O,e.2=gq) ->h.next<=h'.next ->(∀j,j<h.next ->j≠ou ->h'.oB.get j=h.oB.get j) ->k (.m ou) h'):
 df C Ir [] (KF k [(2,none)]) τ h:=by
 obtain⟨m,ver,ob⟩:=h;obtain⟨f9,g0,g1,b7⟩:=low;have c6:ou<m:=b7;have ntl:=G.ntl;dsimp only at ms c4 hN b4 hO ca no;unfold Ir;have g2:=ca;simp only[bx,gw,gx] at ca;refine Y2 ca t0 ?_;refine fj E.ok g.nT.length (λi τ h=>∃O,mG (h.oB.get ou)=mT O/\ (∀e∈O,e.2=gq)/\ m<=h.next/\ (∀j,j<m ->j≠ou ->h.oB.get j=ob.get j)/\ τ.get 0=some (.p oa 0)/\ τ.get 4=some (.p (s+1) 0)/\ τ.get 14=some (.p (nx+1) 0)/\ τ.get 16=some (.m ou)/\ τ.get 122=some (ι (g.nT.length:Int))/\ τ.get 123=some (ι (i:Int))) ?_ ?_ _ _ ⟨[],hO,λe h=>by simp at h,bB _,λj _ _=>rfl,?_,?_,?_,?_,?_,?_⟩
 ·rintro i τ ⟨n1,v1,W⟩ hi ⟨O,mO,bO,dS,old,u0,u4,Z,b0,B,H⟩ ih;have f0:m<=n1:=dS;have gu:∀j,j<m ->j≠ou ->W.get j=ob.get j:=old;dsimp only at mO;have b2:cG (W.get (nx+1))=some [.m nx]:=by rw[gu _ ω ω];exact b4
  have aN:mG (W.get nx)=mN N:=by rw[gu _ ω ω];exact hN
  have aa:cG (W.get oa)=_:=(congrArg cG (gu oa ω ω)).trans ca;have lk:∀U I ob' (τ:T AV),mG (T.get ob' nx)=mN N ->az C τ (.t 126)= .m nx ->az C τ (.t 127)=ι (i:Int) ->
   step (az C τ) ⟨U,I,ob'⟩ (.look (.lf .i) (.t 126) (.t 127) .sn false)= .v (oF nV .sn (look i N)) ⟨U,I,ob'⟩:=
   λU I ob' τ V q2 q3=>sd (k:=i) (z:= .sn) (en:=nV) lW (h:=⟨U,I,ob'⟩) (fT.2 V) q2 q3
  cases hl:look i N with
  |none=>
   simp(disch:=first|omega|(simp(disch:=omega) only[dh,oD,tB,T.get_put,d9,oI,pN,Nat.reduceEqDiff,reduceIte,aN])) only[lk,hl,oF,Z,B,H,b2,bK,↓sA E.ok,↓reduceIte,go_sem];refine ih _ _ ⟨O,mO,bO,dS,old,?_,?_,?_,?_,?_,?_⟩<;>exact U5 u0 u4 Z b0 B
  |some e=>
   obtain⟨o',L⟩:=e;obtain⟨V,q2,q3,q4,q5⟩:=no.f i o' L hl;have lz:(((L.length:Nat):Int)=0)=False:=by
    grind
   have ne:∀a o L,look a N=some (o,L) ->o≠ou:=by
    intro a o L hl e;have h1:=(no.f a o L hl).1;rw[e] at h1;cases hb:ob.get ou with
    |none=>rw[hb] at h1;cases h1
    |some v=>rw[hb] at h1 hO;cases v<;>first|(cases h1;done)|(cases hO;done)
   have d1:EM g.nT.length (λj=>W.get j) n1 N:=⟨λa o L hl=>by
    obtain⟨V,q2,q3,q4,q5⟩:=no.f a o L hl;have d3:o<m:=q5;exact⟨by show cG (W.get o)=_;rw[gu o d3 (ne a o L hl)];exact V,q2,q3,q4,by omega⟩⟩
   have a_:mG (W.get s)=mS St:=by rw[gu _ ω ω];exact ms
   have a4:cG (W.get (s+1))=some [.m s]:=by rw[gu _ ω ω];exact c4
   have mQ:=λ{R q h} (v:vg g.nT.length i n1 (λj=>W.get j) R q h) {a} ha {d} fd k hk=>aV2 (C:=C) S E A D F so (g:=λj=>W.get j) (x:=n1) (nn:=i) a_ a4 aN d1 b2 ⟨by omega,by omega,by omega,by omega⟩ ω (R:=R) (q:=q) (h:=h) v (a:=a) ha (d:=d) fd k hk;simp only[eT,eD] at mQ;refine lX lk hl @oF.eq_1 @nV.eq_1 lz u0 u4 Z B H b2 aa ?_;refine E.run (mQ (R:=[]) (q:=[]) ⟨?_,⟨λi t h=>by simp[look] at h,λi t h=>by simp[look] at h⟩,?_,⟨_,?_,⟨⟨n1+2,0,some 0,[],rfl,?_,rfl,.inr ⟨rfl,rfl,rfl,rfl⟩,bB _,by omega,by show n1+2<n1+4;omega⟩⟩⟩,by simp,by simp,bB _,λj hj=> ?_⟩ (bB _) G.fam.f _ ?_);(iterate 5 exact U0);rintro R q ⟨n2,v2,aJ⟩ J g3 b8;have f7:n1+4<=n2:=J.nx;clear b8;refine Y3 b0 B H ?_;refine Qo E.ok (λx:List (Nat×Tr)×List Nat=>2*(8*g.nT.length-iX g.nT.length x.1)+x.2.length) (λx τ h=>vg g.nT.length i n1 (λj=>W.get j) x.1 x.2 h/\ τ.get 0=some (.p oa 0)/\ τ.get 4=some (.p (s+1) 0)/\ τ.get 14=some (.p (nx+1) 0)/\ τ.get 16=some (.m ou)/\ τ.get 122=some (ι (g.nT.length:Int))/\ τ.get 123=some (ι (i:Int))/\ τ.get 17=some (ι (i:Int))/\ τ.get 18=some (.p (n1+1) 0)/\ τ.get 19=some (.p (n1+3) 0)/\ τ.get 20=some (.f 163 [] [.p (nx+1) 0,.p (n1+1) 0,.p (s+1) 0,.p (n1+3) 0])) ?_ (R,q) _ _ ⟨J,?_,?_,?_,?_,?_,?_,?_,?_,?_,?_⟩
   ·rintro⟨R,q⟩ τ ⟨n3,v3,cC⟩ ⟨J,w0,w4,w14,w16,w122,w123,w17,w18,w19,w20⟩ ih2;dsimp only at J ih2;have d8:n1+4<=n3:=J.nx;have b1:∀j,j<n1 ->cC.get j=W.get j:=J.old;have c1:cG (cC.get (n1+1))=some [.m n1]:=J.c1;have cr:mG (cC.get n1)=mT R:=J.r;obtain⟨vq,c3,qa⟩:=J.c3;obtain⟨oq,aq,cq,Lq,rfl,V,q2,q3,q4,q5,q6⟩:=qa.e;have d4:oq<n3:=q6;dsimp only at c3 V;cases q with
    |nil=>
     refine Y6 w16 w17 w18 w19 c1 c3 ?_;refine E.run (EI (l:=R) S E D F cr _ ?_ (by show n1<n3;omega));rintro⟨n4,v4,b3⟩ b5 old4;have f8:n3<=n4:=b5;have Y:∀j,j<n3 ->b3.get j=cC.get j:=old4;have rb:fF R i=gq:=J.ok.at_z (by simp);rw[rb];have eb:eT gq= .ag [.sn,ι 0]:=rfl;have aO:mG (b3.get ou)=mT O:=by rw[Y ou ω,b1 ou ω];exact mO
     have mu:∀U I ob' (τ:T AV),mG (T.get ob' ou)=mT O ->az C τ (.t 159)= .m ou ->az C τ (.t 160)=ι (i:Int) ->az C τ (.t 163)= .ag [.sn,ι 0] ->
      step (az C τ) ⟨U,I,ob'⟩ (.mupd (.lf .i) (.t 159) (.t 160) (.t 163))= .v .un ⟨U,I+1,ob'.put ou (.map (I+1) (di (λn:Nat=>AV.i .i64 (n:Int)) eT 0 (ups i gq O)) (ups i gq O).length)⟩:=
      λU I ob' τ V q2 q3 q4=>mL (k:=i) (v:=gq) (en:=eT) lW (h:=⟨U,I,ob'⟩) (fT.2 V) q2 q3 q4
     rw[eb];refine Z2 w123 mu ?_;refine ih _ _ ⟨ups i gq O,?_,λe h=> ?_,by show m<=n4;omega,λj h1 h2=> ?_,?_,?_,?_,?_,?_,?_⟩;exact U0;rcases Tj h with rfl|h;rfl;exact bO e h;simp(disch:=omega) only[dh,T.get_put,bV];rw[Y j ω,b1 j ω];exact gu j h1 h2;all_goals exact U5 w0 w4 w14 w16 w122
    |cons b q=>
     rcases q3 with rfl|⟨_,h,_,_⟩
     ·obtain⟨u1,u2⟩:=aV9 (x:=ι (b:Int)) (r:=q.flatMap cI) q2;have c7:=J.lq b (by simp);have d0:((b:Int)=(i:Int))=False:=cE;have sq:∀(τ:T AV) h,az C τ (.t 148)= .sl oq aq (q.length+1) none 1 ->step (az C τ) h (.slc 1 (.t 148) (some (.c (ι 1))) none none)= .v (.sl oq (aq+1) q.length none 1) h:=
       λτ h V=>aV8 V rfl
      have b6:∀U I ob' (τ:T AV),mG (T.get ob' n1)=mT R ->az C τ (.t 155)= .m n1 ->az C τ (.t 156)=ι (b:Int) ->
       step (az C τ) ⟨U,I,ob'⟩ (.look (.lf .i) (.t 155) (.t 156) (.ag [.sn,ι 0]) false)= .v (eT (fF R b)) ⟨U,I,ob'⟩:=
       λU I ob' τ V q2 q3=>by
        refine(sd (k:=b) (z:= .ag [.sn,ι 0]) (en:=eT) lW (h:=⟨U,I,ob'⟩) (fT.2 V) q2 q3).trans ?_;unfold fF;cases look b R<;>rfl
      have fb:=J.ok.at_f b;generalize g4:fF R b=rb at*;simp only[eT,eD] at b6;simp(disch:=first|omega|(simp(disch:=omega) only[dh,oD,tB,T.get_put,d9,oI,pN,Nat.reduceEqDiff,reduceIte,cr])) only[w17,w18,w19,w20,c1,c3,V,u1,sq,b6,d0,gJ,↓sA E.ok,↓reduceIte,go_sem];refine E.run (mQ (R:=R) (q:=q) (h:=⟨n3,v3+1,cC.put (n1+3) (.cells (v3+1) [.sl oq (aq+1) q.length none 1])⟩) ⟨?_,J.ok,?_,⟨_,?_,⟨⟨oq,aq+1,none,Lq,rfl,?_,u2,.inl rfl,q4,q5,d4⟩⟩⟩,λz hz=>J.lq z (by simp[hz]),?_,d8,λj hj=> ?_⟩ (a:=b) (Im c7.1) fb _ ?_);exact W0 cr;exact W0 c1;exact U0;exact W0 V;have:=J.ql;simp only[gJ] at this;omega;exact W0 (b1 j hj);rintro R2 d2 ⟨n4,v4,b3⟩ vb b5 b8;refine Y0 ?_;refine ih2 (R2,d2) _ _ ?_ ⟨vb,?_,?_,?_,?_,?_,?_,?_,?_,?_,?_⟩
      grind
      all_goals exact Bo w0 w4 w14 w16 w122 w123 w17 w18 w19 w20
     cases h
   all_goals exact U6 u0 u4 Z b0 B H
 rintro τ ⟨n1,v1,W⟩ ⟨O,mO,bO,dS,old,u0,u4,Z,b0,B,H⟩;refine Y3 b0 B H ?_;exact hk O _ mO bO dS old;all_goals exact U4 t0 t4 d5 d6
def aW1 (A:dY P X GL) (D:bz8 ae) (F:bz8 ae) {g} (G:oy g) {Z} (Y:iQ g Z) {oa op} (an:By h oa op g) (la:oa<h.next/\ op<h.next) k
 (hk:∀ou O h',mG (h'.oB.get ou)=mT O ->(∀e∈O,e.2=gq) ->ou<h'.next ->h.next<=ou ->(∀j,j<h.next ->h'.oB.get j=h.oB.get j) ->k (.m ou) h'):
 du C 87 [.p oa 0] h k:=by
 obtain⟨m,ver,ob⟩:=h;have c6:oa<m:=la.1;have c7:op<m:=la.2;have ntl:=G.ntl;refine E.bS (F.g 87 JI) (Y0 ?_);refine E.run (aU8 (oa:=oa) (op:=op) S E A D F G Y an la _ ?_);rintro o l ⟨n1,v1,aQ⟩ ml ok dS b6 b7 dD;have d1:m<=n1:=dS;have d4:m<=o:=b6;have d5:o<n1:=b7;have B:∀j,j<m ->aQ.get j=ob.get j:=dD;dsimp only at ml;obtain⟨H,I⟩:=an;dsimp only at H I;have b1:cG (aQ.get oa)=some (bx g++[.sl op 0 g.pR.length none 2]):=by rw[B oa c6];exact H
 have b2:cG (aQ.get op)=some ((g.pR.map (jh g)).flatMap cT):=by rw[B op c7];exact I
 refine Y0 ?_;unfold Ug;rw[Rk E.ok];refine aV5 (oa:=oa) (op:=op) (o:=o) (s:=n1) (l:=l) S E A D F G Y ⟨?_,?_⟩ ?_ ok ?_ ?_ ⟨by omega,by omega,by omega,bB _⟩ ?_ ?_ ?_ ?_;exact W0 b1;exact W0 b2;exact W0 ml;(iterate 5 exact U0);rintro St τ2 ⟨n2,v2,aJ⟩ so V L eG t0 t3 t4;have d2:n1+2<=n2:=L;have cQ:∀j,j<n1+2 ->j≠n1 ->aJ.get j=_:=eG;dsimp only at V;have c4:cG (aJ.get (n1+1))=some [.m n1]:=by rw[cQ (n1+1) ω ω];exact U0
 have U:∀j,j<n1 ->aJ.get j=aQ.get j:=λj hj=>by rw[cQ j ω ω];exact U0
 refine aV7 E (s:=n1) ω so V c4 L t0 t3 t4 ?_;rintro N ou τ3 ⟨n3,v3,cC⟩ hN J no hO b8 R b0 u0 u4 b4 d0;have d6:n2+2<=ou:=b8;have d8:ou<n3:=R;have iN:∀j,j<n2 ->cC.get j=aJ.get j:=b0;dsimp only at hN J no hO b4;refine aW0 (s:=n1) (nx:=n2) (oa:=oa) (ou:=ou) (St:=St) (N:=N) (pp:=[.sl op 0 g.pR.length none 2]) S E A D F G so ?_ ?_ hN J no hO ?_ ⟨by omega,by omega,by omega,R⟩ u0 u4 b4 d0 _ ?_
 grind
 grind
 grind
 rintro O ⟨n4,v4,W⟩ mO bO b5 b3;have d3:n3<=n4:=b5;refine hk ou O _ mO bO (by show ou<n4;omega) (by show m<=ou;omega) (λj hj=> ?_);have m9:j<m:=hj;show W.get j=ob.get j;rw[show W.get j=cC.get j from b3 j (by show j<n3;omega) ω,iN j ω,U j ω];exact B j m9
section
variable {C:aK Prop} (hC:lQ C) {S:List Fr} {K:K Prop} {τ:T AV} {h:AH}
include hC
theorem aW2 {f d x}:df C (.dfr [⟨some d,.mfn f [] [x],none⟩] (.t d) f) S K τ h↔gV C .normal S K (τ.put d (.f f [] [az C τ x])) h:=by
 refine(ab8 hC).trans ?_;rw[G6,G1];have e1:eE (az C τ) ([]:List MA)=some []:=rfl;have e2:eE (az C τ) [x]=some [az C τ x]:=by rw[wC,DG];rfl
 rw[e1,e2];show(match az C (τ.put d (.f f [] [az C τ x])) (.t d) with
  | .f g _ _=>(bif Nat.beq g f then qW C K S .normal (τ.put d (.f f [] [az C τ x])) h else False)
  |_=>False)↔_
 rw[oD,T.get_put,aF rfl];show(bif Nat.beq f f then qW C K S .normal (τ.put d (.f f [] [az C τ x])) h else False)↔_;rw[bu];simp only[mC,fC];exact Iff.rfl
end
variable (A:dY P X GL) (D:bz8 ae) (F:bz8 ae)
def aW3 {g} (G:oy g) {Z} (Y:iQ g Z) {oa op b3} (an:By h oa op g) (R:oa<h.next/\ op<h.next/\ b3<h.next) (c3:cG (h.oB.get b3)=some [.b false]) k
 (hk:∀h',cG (h'.oB.get b3)=some [.b false] ->h.next<=h'.next ->(∀j,j<h.next ->j≠b3 ->h'.oB.get j=h.oB.get j) ->k (.tu []) h'):
 du C 86 [.p oa 0,.p b3 0] h k:=by
 obtain⟨m,ver,ob⟩:=h;have d1:oa<m:=R.1;have d2:op<m:=R.2.1;have b7:b3<m:=R.2.2;dsimp only at c3;refine E.bS (F.f 86) (Y0 ?_);refine E.run (aW1 (oa:=oa) (op:=op) S E A D F G Y an ⟨R.1,R.2.1⟩ _ ?_);rintro ou O ⟨n1,v1,aQ⟩ mO bO b5 b6 dD;have c7:ou<n1:=b5;have d0:m<=ou:=b6;have H:∀j,j<m ->aQ.get j=ob.get j:=dD;dsimp only at mO;have rg:∀B I ob' (τ:T AV),mG (T.get ob' ou)=mT O ->az C τ (.t 6)= .m ou ->step (az C τ) ⟨B,I,ob'⟩ (.rng (.t 6) false)= .v (.p B 0) ⟨B+1,I,ob'.put B (.mit (some ou) O.length [] O.length)⟩:=
  λB I ob' τ q1 q2=>by
   obtain⟨v,e⟩:=(fT (ek:=λn:Nat=>AV.i .i64 (n:Int)) (en:=eT) (h:=⟨B,I,ob'⟩) (o:=ou) (l:=O)).2 q1;exact SQ e q2
 refine Z1 rg ?_;refine Qo E.ok (λx:List Nat=>O.length-x.length) (λx τ h=>x.Nodup/\ (∀i∈x,i<O.length)/\ h.oB.get n1=some (.mit (some ou) O.length x O.length)/\ mG (h.oB.get ou)=mT O/\ cG (h.oB.get b3)=some [.b false]/\ (∀j,j<m ->j≠b3 ->h.oB.get j=ob.get j)/\ n1+1<=h.next/\ τ.get 1=some (.p b3 0)/\ τ.get 7=some (.p n1 0)) ?_ [] _ _ ⟨by simp,by simp,?_,?_,?_,λj h1 h2=> ?_,bB _,?_,?_⟩;rintro seen τ ⟨n2,v2,aJ⟩ ⟨nd,sb,N,J,L,eG,b2,s1,s7⟩ ih;have c6:n1+1<=n2:=b2;have cQ:∀j,j<m ->j≠b3 ->aJ.get j=ob.get j:=eG;dsimp only at N J L;obtain⟨vs,es⟩:=(fT (ek:=λn:Nat=>AV.i .i64 (n:Int)) (en:=eT) (h:=⟨n2,v2,aJ⟩) (o:=ou) (l:=O)).2 J;refine Y0 ?_;rw[←D9];refine SO E.ok (l:=O) (seen:=seen) (ek:=λn:Nat=>AV.i .i64 (n:Int)) (en:=eT) es N (Y1 s7 trivial) (λb8=> ?_) (λi k v hi b4=> ?_);refine Y1 @xb ?_;exact hk _ L (by show m<=n2;omega) eG
 ·have b1:=(eC.1 hi).1;have hv:v=gq:=bO _ (dI hi);subst hv;have U:(seen++[i]).Nodup:=zE.2 ⟨nd,by simp,λx hx y hy e=>b4 (by rw[yC.1 hy] at e;exact e▸hx)⟩;have V:∀x∈seen++[i],x<O.length:=λx hx=>(fO.1 hx).elim (sb x) λh=>by rw[yC.1 h];exact b1
  have W:=Qq _ _ U V;rw[dy] at W;simp only[gJ,ji] at W;have eb:eT gq= .ag [.sn,ι 0]:=rfl;have b0:∀B I ob' (τ:T AV),mG (T.get ob' ou)=mT O ->T.get ob' n1=some (.mit (some ou) O.length (seen++[i]) O.length) ->az C τ (.t 7)= .p n1 0 ->step (az C τ) ⟨B,I,ob'⟩ (.ent (.t 7))= .v (.tu [ι (k:Int),.ag [.sn,ι 0]]) ⟨B,I,ob'⟩:=
   λB I ob' τ q1 q2 q3=>by
    obtain⟨v',e⟩:=(fT (ek:=λn:Nat=>AV.i .i64 (n:Int)) (en:=eT) (h:=⟨B,I,ob'⟩) (o:=ou) (l:=O)).2 q1;exact SP (ek:=λn:Nat=>AV.i .i64 (n:Int)) (en:=eT) (k:=k) (l:=O) e q2 q3 hi
  rw[eb];refine Z5 b0 s1 s7 J L ?_;refine ih (seen++[i]) _ _ ?_ ⟨U,V,?_,?_,?_,λj h1 h2=> ?_,by show n1+1<=n2+1;omega,?_,?_⟩
  grind
  exact U0;exact W0 J;exact U0;exact W0 (cQ j h1 h2);all_goals exact U2 s1 s7
 exact U0;exact W0 mO;simp(disch:=omega) only[dh,T.get_put,bV];rw[H b3 b7];exact c3;exact W0 (H j h1);all_goals exact U0
def aW4 (Q:bz8 ae) (hg:GL=mU) {g} (G:oy g) {Z} (Y:iQ g Z) {b3} (pn:1<=g.pR.length) (lb:b3<h.next) (c3:cG (h.oB.get b3)=some [.b false]) k
 (hk:∀h',cG (h'.oB.get b3)=some [.b false] ->h.next<=h'.next ->(∀j,j<h.next ->j≠b3 ->h'.oB.get j=h.oB.get j) ->k (ι 0) h'):
 du C 85 [aI g,.f 86 [] [.p b3 0]] h k:=by
 obtain⟨m,ver,ob⟩:=h;have g3:b3<m:=lb;have pl:=G.pl;dsimp only at c3;have cc:∀h,bP P X GL 99 [aI g] h (ι 0) h:=λh=>Td S A Q hg G h;simp only[aI,bx] at cc;refine E.bS (F.f 85) (Y2 @aI.eq_1 @bx.eq_1 ?_);refine E.cN (cc _) ?_;simp(disch:=omega) only[aW2 E.ok,↓sA E.ok,Nat.reduceAdd,↓reduceIte,go_sem];refine fj E.ok g.pR.length (λi τ h=>∃v op,τ.get 6=some (.p (m+2) 0)/\ ((i=0/\ v= .sn)∨(i≠0/\ v= .sl op 0 i none 2/\ m+3<=op/\ op<h.next/\ cG (h.oB.get op)=some (((g.pR.take i).map (jh g)).flatMap cT)))/\ cG (h.oB.get (m+2))=some (bx g++[v])/\ cG (h.oB.get m)=some (bx g)/\ cG (h.oB.get (m+1))=some [ι 0]/\ (∀j,j<m ->h.oB.get j=ob.get j)/\ m+3<=h.next/\ τ.get 1=some (.f 86 [] [.p b3 0])/\ τ.get 2=some (.p m 0)/\ τ.get 4=some (.p (m+1) 0)/\ τ.get 22=some (eR aM 13 true g.pR)/\ τ.get 23=some (ι (g.pR.length:Int))/\ τ.get 24=some (ι (i:Int))) ?_ ?_ _ _ ⟨.sn,0,?_,.inl ⟨rfl,rfl⟩,?_,?_,?_,λj hj=> ?_,bB _,?_,?_,?_,?_,?_,?_⟩
 ·rintro i τ ⟨n1,v1,aQ⟩ hi ⟨v,op,t6,hv,ca,cm,c4,old,dS,t1,t2,t4,b4,U,V⟩ ih;have d5:m+3<=n1:=dS;have gu:∀j,j<m ->aQ.get j=ob.get j:=old;dsimp only at ca cm c4;have b7:g.pR[i]? =some g.pR[i]:=ef hi;generalize hp:g.pR[i]=p at b7;have g0:=dI b7;have pk:=G.p p g0;have rl:=pk.len;have b5:sub (g.pR.flatMap aM) (i*13) 13=some (aM p):=cW kr b7 (j:=0) (n:=13) ω;simp only[aM] at b5;have c7:=cm;simp only[bx] at cm;have d3:=λh=>D7 S D (A.dia G.fam.f) (A.dia pk.cond.f) h;have d2:=λt h=>Bx S (GL:=GL) F t h;simp only[eT,eD] at d3 d2;refine Y6 t2 b4 U V cm b5 ?_;refine E.cN (d3 _) (Y6 t2 b4 U V cm b5 ?_);refine E.cN (d2 _ _) (Y6 t2 b4 U V cm b5 ?_);have f7:cA 3 (cY (λx y=>x&&y) g.fam p.cond)=true:=jd G.fam.f pk.cond.f;have pT:jh g p=p.right.foldl (oQ g) (cY (λx y=>x&&y) g.fam p.cond):=rfl;generalize g2:cY (λx y=>x&&y) g.fam p.cond=d0 at*;refine fj E.ok p.right.length (λj τ h=>cG (h.oB.get (n1+1))=some (cT ((p.right.take j).foldl (oQ g) d0))/\ (∀j,j<n1 ->h.oB.get j=aQ.get j)/\ n1+2<=h.next/\ τ.get 1=some (.f 86 [] [.p b3 0])/\ τ.get 2=some (.p m 0)/\ τ.get 4=some (.p (m+1) 0)/\ τ.get 6=some (.p (m+2) 0)/\ τ.get 9=some (.p (n1+1) 0)/\ τ.get 22=some (eR aM 13 true g.pR)/\ τ.get 23=some (ι (g.pR.length:Int))/\ τ.get 24=some (ι (i:Int))/\ τ.get 37=some (eR dO 2 p.rn p.right)/\ τ.get 38=some (ι (p.right.length:Int))/\ τ.get 39=some (ι (j:Int))) ?_ ?_ _ _ ⟨?_,λj hj=> ?_,bB _,?_,?_,?_,?_,?_,?_,?_,?_,?_,?_,?_⟩;rintro j τ ⟨H,v2,aJ⟩ hj ⟨W,eG,b0,s1,s2,s4,s6,s9,b1,b2,J,L,B,N⟩ d8;have c6:n1+2<=H:=b0;have I:∀j,j<n1 ->aJ.get j=aQ.get j:=eG;dsimp only at W;have b8:p.right[j]? =some p.right[j]:=ef hj;generalize hs:p.right[j]=s at b8;have ft:(p.right.take (j+1)).foldl (oQ g) d0=oQ g ((p.right.take j).foldl (oQ g) d0) s:=by rw[nY b8,xH];rfl
  have fw:cA 3 ((p.right.take j).foldl (oQ g) d0)=true:=Kb G _ _ f7;generalize hw:(p.right.take j).foldl (oQ g) d0=w at*;simp only[cT] at W;have e2:sub (p.right.flatMap dO) (j*2) 2=some [.b s.1,ι (s.2:Int)]:=cW gO b8 (j:=0) (n:=2) ω;have d1:cG (aJ.get m)=some (bx g):=by rw[I m ω];exact c7
  simp only[bx] at d1;have tl:=G.tcl;have hz:g.tc.zipIdx.length=11:=by rw[ny,tl]
  rcases pk.sym _ (dI b8) with ⟨h1,h2⟩|⟨h1,h2⟩
  ·rw[h1] at e2;obtain⟨c,d4,g1⟩:=re (g:=g) tl (i:=s.2) ω;have fc:=(G.tc c (dI d4)).f;have e7:sub (g.tc.zipIdx.flatMap dq) (s.2*7+5) 2=some [tp (aE c).1,ι ((aE c).2:Int)]:=cW qx g1 (j:=5) (n:=2) ω;have st:oQ g w s=cY (λx y=>x&&y) w c:=by unfold oQ;rw[h1,kX,d4];rfl
   have O:=λh=>D7 S D (A.dia fw) (A.dia fc) h;simp only[eT,eD] at O;refine Y9 s2 s9 L B N e2 d1 W e7 ?_;refine E.cN (O _) (Y9 s2 s9 L B N e2 d1 W e7 ?_);refine E.cN (d2 _ _) (Y3 s9 N W ?_);refine d8 _ _ ⟨?_,λj hj=> ?_,by show n1+2<=H+1;omega,?_,?_,?_,?_,?_,?_,?_,?_,?_,?_,?_⟩;exact U3 ft st @cT.eq_1;exact W0 (I j hj);all_goals exact Bo s1 s2 s4 s6 s9 b1 b2 J L B
  ·rw[h1] at e2;have st:oQ g w s=w:=by unfold oQ;rw[h1];rfl
   refine Y4 L B N e2 ?_;refine d8 _ _ ⟨?_,λj hj=> ?_,by show n1+2<=H+1;omega,?_,?_,?_,?_,?_,?_,?_,?_,?_,?_,?_⟩;simp(disch:=omega) only[dh,T.get_put,bV];rw[ft,st];exact W;exact W0 (I j hj);all_goals exact Bo s1 s2 s4 s6 s9 b1 b2 J L B
  rintro τ ⟨H,v2,aJ⟩ ⟨W,eG,b0,s1,s2,s4,s6,s9,b1,b2,J,L,B,N⟩;have c6:n1+2<=H:=b0;have I:∀j,j<n1 ->aJ.get j=aQ.get j:=eG;dsimp only at W;rw[mR,←pT] at W;simp only[cT] at W;have O:cG (aJ.get (m+2))=some (bx g++[v]):=by rw[I (m+2) ω];exact ca
  simp only[bx,gw,gx] at O;have tk:=nY b7;rcases hv with ⟨rfl,rfl⟩|⟨i0,rfl,f9,b6,R⟩
  ·refine Y8 @iB s6 s9 J B N O W ?_;refine ih _ _ ⟨.sl (H+1) 0 1 none 2,H+1,?_,.inr ⟨by omega,rfl,by omega,by show H+1<H+1+1;omega,?_⟩,?_,?_,?_,λj hj=> ?_,by show m+3<=H+1+1;omega,?_,?_,?_,?_,?_,?_⟩;exact U1 s6;simp(disch:=omega) only[dh,T.get_put,bV,dZ,d9,tk,Cf,gx,jY,uf,lE,List.flatMap_nil,lG,cT];exact U0;simp(disch:=omega) only[dh,T.get_put,bV];rw[I m ω];exact c7;simp(disch:=omega) only[dh,T.get_put,bV];rw[I (m+1) ω];exact c4;simp(disch:=omega) only[dh,T.get_put,bV];rw[I j ω];exact gu j hj;all_goals simp only[T.get_put,Nat.reduceEqDiff,reduceIte,s1,s2,s4,b1,b2,J]
   rfl
  ·have d6:op<n1:=b6;dsimp only at R;have i2:i+1<=1048576:=by omega
   have ll:(((g.pR.take i).map (jh g)).flatMap cT).length=i*2:=by rw[kh J9,kU,jm];rw[kF ω]
   have q3:cG (aJ.get op)=some (((g.pR.take i).map (jh g)).flatMap cT):=by rw[I op ω];exact R
   refine jC @iB s6 s9 J B N O W q3 i2 ll ?_;refine ih _ _ ⟨.sl (H+1) 0 (i+1) none 2,H+1,?_,.inr ⟨by omega,rfl,by omega,by show H+1<H+1+1;omega,?_⟩,?_,?_,?_,λj hj=> ?_,by show m+3<=H+1+1;omega,?_,?_,?_,?_,?_,?_⟩;exact U1 s6;simp(disch:=omega) only[dh,T.get_put,bV,dZ,d9,tk,kE,Bd,jY,uf,lE,List.flatMap_nil,lG,cT];exact U0;simp(disch:=omega) only[dh,T.get_put,bV];rw[I m ω];exact c7;simp(disch:=omega) only[dh,T.get_put,bV];rw[I (m+1) ω];exact c4;simp(disch:=omega) only[dh,T.get_put,bV];rw[I j ω];exact gu j hj;all_goals exact Bo s1 s2 s4 s6 s9 b1 b2 J L B
  simp_all [T.get_put,dZ,d9,Cf,bH3,cT]
  exact U0;all_goals exact U7 t1 t2 t4 t6 b4 U V
 rintro τ ⟨n1,v1,aQ⟩ ⟨v,op,t6,hv,ca,cm,c4,old,dS,t1,t2,t4,b4,U,V⟩;have d5:m+3<=n1:=dS;have gu:∀j,j<m ->aQ.get j=ob.get j:=old;dsimp only at ca cm c4;rcases hv with ⟨h0,_⟩|⟨_,rfl,f9,b6,R⟩;omega;have d6:op<n1:=b6;dsimp only at R;rw[mR] at R;refine Y4 t1 t6 U V ?_;refine E.run (aW3 (oa:=m+2) (op:=op) (b3:=b3) S E A D F G Y ⟨ca,R⟩ ⟨by show m+2<n1;omega,b6,by show b3<n1;omega⟩ ?_ _ ?_)
 grind
 rintro⟨H,v2,aJ⟩ c3' b0 eG;have c6:n1<=H:=b0;have I:∀j,j<n1 ->j≠b3 ->aJ.get j=aQ.get j:=eG;have f0:cG (aJ.get (m+1))=some [ι 0]:=by rw[I (m+1) ω ω];exact c4
 refine Y2 t4 f0 ?_;refine hk _ (W0 c3') (by show m<=H;omega) (λj h1 h2=> ?_);have f8:j<m:=h1;simp(disch:=omega) only[dh,T.get_put,bV];rw[I j ω h2];exact gu j f8;exact U0;exact U0;exact U1 @bx.eq_1;exact U0;have m9:j<m:=hj;exact U0;all_goals exact U0
def bF7 (Q:bz8 ae) (j:GL=mU) {g} (G:oy g) {Z} (Y:iQ g Z) (pn:1<=g.pR.length) h:bP P X GL 47 [aI g] h (ι 0) h:=by
 refine ku S (λn h=>rfl) ?_ h;refine bg.intro λC E=> ?_;refine E.bS (F.f 47) (Y2 @aI.eq_1 @bx.eq_1 ?_);refine E.run (aW4 (b3:=1) S E A D F Q j G Y pn (by show 1<2;omega) ?_ _ ?_);exact U0;rintro⟨n1,v1,aQ⟩ c3 dS dD;dsimp only at c3;refine Y1 c3 ?_;exact⟨1,rfl⟩
end
end AM
