import Derived.Test.YtdmkaddihnnbaaaGreatDoorN56
set_option linter.all false
set_option maxHeartbeats 16000000
namespace AM
open Dg Go
noncomputable section
def QV (s p:List Nat):Bool:=decide (p.length<=s.length)&&decide (s.take p.length=p)
def El (i:Nat) (s:List Nat):Nat:=if i=0∨i=9∨i=10 then HQ (DN i) (DN i).bF s else if QV s (jQ i) then (jQ i).length else 0
variable {h:AH}
def ce9 {ev x b s} {k:Nat} (h1:ev x= .s s) (h2:ev b= .i .i64 (k)) (u:k<=s.length):step ev h (.slcs x none (some b))= .v (.s (s.take k)) h:=by
 have j:fP (ev b)=some k:=by rw[h2];rfl
 have e:d7 (len s) (len s) (nO ev none) (nO ev (some b)) none=some (0,k,len s):=by
  rw[uO,uP,j];show(bif Nat.ble (len s) (len s)&&Nat.ble k (len s)&&Nat.ble 0 k then some (0,k,len s) else none)=_;have H:Nat.ble (len s) (len s)=true:=by rw[wX];simp
  have I:Nat.ble k (len s)=true:=by rw[wX,kZ];simpa using u
  have J:Nat.ble 0 k=true:=by rw[wX];simp
  rw[H,I,J];rfl
 show(match ev x with
  | .s s=>(match d7 (len s) (len s) (nO ev none) (nO ev (some b)) none with
   |some (l,r,_)=>(match sub s l (r-l) with|some t=>ay.v (.s t) h|none=> .bad)
   |none=> .bad)
  |_=> .bad)=_
 rw[h1];dsimp only;rw[e];have e2:sub s 0 (k-0)=some (s.take k):=by rw[nH,aF ω];simp
 dsimp only;rw[e2]
section
variable {P:Program} {X:aR} {GL:T (List AV)} {ae:T au} (S:aT P X GL ae) (FC:gn ae) (F:A5 ae)
include S F
theorem cf0 s p h:bP P X GL 193 [.s s,.s p] h (.b (QV s p)) h:=by
 refine dR S (bg.intro λC E=> ?_) (n:=9) (by simp only[aL,bZ,oK]) h;refine E.bS F.f193 (Y0 ?_);refine E.run ?_;rw[E.cB F.f306];by_cases u:p.length<=s.length;have j:((p.length:Int)<=(s.length:Int))=True:=cJ;have H:∀(τ:T AV) h,az C τ (.t 11)= .s s ->az C τ (.t 13)= .i .i64 (p.length:Int) ->step (az C τ) h (.slcs (.t 11) none (some (.t 13)))= .v (.s (s.take p.length)) h:=λτ h h1 h2=>ce9 h1 h2 u;refine Z3 j H @aP0 ?_;exact⟨1,by unfold QV;rw[zG u];rfl⟩;have j:((p.length:Int)<=(s.length:Int))=False:=av;refine Z1 j ?_;exact⟨1,by unfold QV;rw[ot u];rfl⟩
include FC
theorem cf6 (hg:GL=mU) {g} (G:oy g) {i:Nat} (hi:i<11) {s} (Y:∀b∈s,b<256) (sl:s.length<1000000000) h:bP P X GL 191 [.i .i64 (i),.s s,.dp (ar g) 0] h (ι (El i s)) h:=by
 have dp:bJ 12 h0 [.i .i64 (i:Int),.s s,.dp (ar g) 0]=some [.i .i64 (i:Int),.s s,.dp (ar g) 0]:=by
  rw[aL,aL,aL,bZ,dH,oK,BN (n:=11) (SB (n:=9) g)]
 refine dR S (bg.intro λC E=> ?_) dp h;have I:∀k,nice 64 (.dp (ar g) k)=true:=λk=>by rw[fK,aO2]
 have U:g.tc.zipIdx.length=11:=by rw[ny,G.tcl]
 obtain⟨tc,O,R⟩:=re (g:=g) G.tcl (i:=i) hi;have e7:AM.sub (g.tc.zipIdx.flatMap dq) (i*7) 7=some (dq (tc,i)):=cW qx R (j:=0) (n:=7) ω;have J:nice 64 (.ag (dq (tc,i)))=true:=by rw[qe,oM]
 simp only[dq] at e7 J;simp only[ar] at I;rw[E.cB F.f191];by_cases u:i=0∨i=9∨i=10;have V:=λh=>ca4 S FC F hg (i:=i) u Y sl h;have H:(jQ i=[])=True:=fq (by unfold jQ;rw[aD ω]);refine Z5 @ar.eq_1 @h0.eq_1 e7 H @bG ?_;refine E.cN (V _) (Z0 ?_);exact⟨1,by unfold El;rw[aF u];rfl⟩;have H:(jQ i=[])=False:=dQ (bG4 ω);have W:=λh=>cf0 S F s (jQ i) h;refine Z5 @ar.eq_1 @h0.eq_1 e7 H @bG ?_;refine E.cN (W _) ?_;cases hb:QV s (jQ i) with
 |true=>
  refine Z0 ?_;exact⟨1,by unfold El;rw[aD u,hb];rfl⟩
 |false=>
  refine Z0 ?_;exact⟨1,by unfold El;rw[aD u,hb];rfl⟩
end
def AZ (g:Gr) (T:List Nat):List AV:=ar g++[eR cI 1 true T,.f 191 [] [.dp (ar g) 0]]
def Jx {n} g T:bJ (n+5) h (AZ g T)=some (AZ g T):=by
 have e1:∀{m:Nat},deep (m+4) h (.f 191 [] [.dp (ar g) 0])=some (.f 191 [] [.dp (ar g) 0]):=λ{m}=>by
  show(match eM (deep (m+3) h) [],eM (deep (m+3) h) [.dp (ar g) 0] with|some a,some b=>some (AV.f 191 a b)|_,_=>none)=_;rw[show eM (deep (m+3) h) [.dp (ar g) 0]=some [.dp (ar g) 0] from by
   show bJ (m+3) h [.dp (ar g) 0]=_;rw[aL,bZ,BN (n:=m+2) (SB g)]]
  rfl
 unfold AZ;rw[Kp (SB (n:=n+3) g)];rw[aL,aL,bZ,e1 (m:=n+1),dA (n:=n+4) yZ]
def cf8 {n} g T:nice.niceL (n+5) (AZ g T)=true:=by
 unfold AZ;refine SD (aO2 (n:=n+3) g) ?_;have e1:nice (n+5) (.f 191 [] [.dp (ar g) 0])=true:=by
  show(nice.niceL (n+4) []&&nice.niceL (n+4) [.dp (ar g) 0])=true;simp only[Bg,iq,fK,aO2];rfl
 simp only[Bg,iq,A4 tS,e1];rfl
section
variable {P:Program} {X:aR} {GL:T (List AV)} {ae:T au} (S:aT P X GL ae) (A:dY P X GL) (FC:gn ae) (F:A5 ae) (FE:fu ae) (hg:GL=mU) {g:Gr} (G:oy g) {T:List Nat} {lf:Tn} {c:Nat} (hc:c<8)
include S F G
theorem cg0 {t:Nat} (u:t<11):Jt P X GL 199 [.i .i64 (t),.dp [.dp (AZ g T) 0] 0,.dp (fG lf) 0]:=by
 have dp:bJ 12 h0 [.i .i64 (t:Int),.dp [.dp (AZ g T) 0] 0,.dp (fG lf) 0]=some [.i .i64 (t:Int),.dp [.dp (AZ g T) 0] 0,.dp (fG lf) 0]:=by
  rw[aL,aL,aL,bZ,dH,BN (n:=11) (l:=[.dp (AZ g T) 0]) (by rw[aL,bZ,BN (n:=10) (Jx (n:=5) g T)]),BN (n:=11) (Ju (n:=8) lf)]
 have J:g.tc.zipIdx.length=11:=by rw[ny,G.tcl]
 obtain⟨tc,H,I⟩:=re (g:=g) G.tcl (i:=t) u;have e7:AM.sub (g.tc.zipIdx.flatMap dq) (t*7+2) 1=some [.s (jQ t)]:=by
  have:=cW qx I (j:=2) (n:=1) ω;simpa[dq] using this
 have O:AM.sub (AZ g T) 3 1=some [eR dq 7 true g.tc.zipIdx]:=rfl;have R:AM.sub (fG lf) 2 1=some [.s lf.text]:=rfl;refine⟨decide (jQ t=lf.text),λh=>dR S (bg.intro λC E=> ?_) dp h⟩;refine E.bS F.f199 (Z4 e7 O R @aP0 ?_);exact⟨1,rfl⟩
include A FE hc
theorem cg1 {f} (I:rd g f):Jt P X GL 197 [.ag (eF f),.dp (fG lf) 0,.dp [.i .u64 (c)] 0,.dp [.dp (AZ g T) 0] 0]:=by
 have Y:∀m,bJ (m+8) h0 [.dp [.dp (AZ g T) 0] 0,.dp (fG lf) 0]=some [.dp [.dp (AZ g T) 0] 0,.dp (fG lf) 0]:=λm=>by
  rw[aL,aL,bZ,BN (n:=m+7) (l:=[.dp (AZ g T) 0]) (by rw[aL,bZ,BN (n:=m+6) (Jx (n:=m+1) g T)]),BN (n:=m+7) (Ju (n:=m+4) lf)]
 have dp:bJ 12 h0 [.ag (eF f),.dp (fG lf) 0,.dp [.i .u64 (c:Int)] 0,.dp [.dp (AZ g T) 0] 0]=some [.ag (eF f),.dp (fG lf) 0,.dp [.i .u64 (c:Int)] 0,.dp [.dp (AZ g T) 0] 0]:=by
  rw[aL,aL,aL,aL,bZ,nX (n:=11) (ju (n:=10) f),BN (n:=11) (Ju (n:=8) lf),BN (n:=11) (l:=[.dp (AZ g T) 0]) (by rw[aL,bZ,BN (n:=10) (Jx (n:=5) g T)])];rfl
 have O:nice 64 (.ag (eF f))=true:=by rw[qe,aO1]
 have R:AM.sub (fG lf) 1 1=some [.i .i64 lf.tok]:=rfl;simp only[eF] at O;have H:=λh=>bi7 S A FE I.cond.f hc h;simp only[eT,eD] at H;by_cases k5:f.kind=5;have j:((f.kind:Int)=5)=True:=cJ;by_cases V:(f.tok:Int)=lf.tok;have u:((f.tok:Int)=lf.tok)=True:=fq V;cases U:mf f.cond c;rw[U] at H;refine⟨false,λh=>dR S (bg.intro λC E=> ?_) dp h⟩;refine E.bS F.f197 (Z4 @eF.eq_1 j u R ?_);refine E.cN (H _) (Z0 ?_);exact⟨1,rfl⟩;rw[U] at H;have J:∀t∈f.tO,t<11:=λt J=>by
  rcases I.kinds with ⟨h,-⟩|⟨h,-⟩|⟨-,-,-,-,-,-,-,h,-⟩;omega;omega;have:=(h t J).2;omega
 obtain⟨B,Z⟩:=ao1 (L:=f.tO) (p:=λt b=>∀h,bP P X GL 199 [.i .i64 (t:Int),.dp [.dp (AZ g T) 0] 0,.dp (fG lf) 0] h (.b b) h) λt h=>cg0 S F G (J t h);have W:=λh d=>ca9 S F (L:=f.tO) (nl:=f.tn) (B:=B) (by have:=I.tl;omega) (h:=h) (fid:=199) (caps:=[.dp [.dp (AZ g T) 0] 0,.dp (fG lf) 0]) (dcaps:=[.dp [.dp (AZ g T) 0] 0,.dp (fG lf) 0]) d (λn hn=>by
  obtain⟨m,rfl⟩:∃m,n=m+8:=⟨n-8,by omega⟩;exact Y m) λt h=>Z t h
 refine⟨f.tO.any B,λh=>dR S (bg.intro λC E=> ?_) dp h⟩;refine E.bS F.f197 (Z4 @eF.eq_1 j u R ?_);refine E.cN (H _) (Z0 ?_);refine E.cN (W _ λn hn=> ?_) ?_;obtain⟨m,rfl⟩:∃m,n=m+8:=⟨n-8,by omega⟩;rw[aL,aL,bZ,BN (n:=m+7) (l:=[.dp (AZ g T) 0]) (by rw[aL,bZ,BN (n:=m+6) (Jx (n:=m+1) g T)]),BN (n:=m+7) (Ju (n:=m+4) lf)];refine Y0 ?_;exact⟨1,rfl⟩;have u:((f.tok:Int)=lf.tok)=False:=dQ V;refine⟨false,λh=>dR S (bg.intro λC E=> ?_) dp h⟩;refine E.bS F.f197 (Z4 @eF.eq_1 j u R ?_);exact⟨1,rfl⟩;have j:((f.kind:Int)=5)=False:=av;refine⟨false,λh=>dR S (bg.intro λC E=> ?_) dp h⟩;refine E.bS F.f197 (Z2 @eF.eq_1 j ?_);exact⟨1,rfl⟩
end
def Bi (s:List Nat) (st:Nat×List Nat) (t:Nat):Nat×List Nat:=if st.1<El t s then (El t s,[t]) else if El t s=st.1/\ 0<st.1 then (st.1,st.2++[t]) else st
def Eh (s:List Nat) (Tk:List Nat):Nat×List Nat:=Tk.foldl (Bi s) (0,[])
def bH0 s:∀(Tk:List Nat) (st),(0<st.1 ->st.2≠[]) ->(∀t∈st.2,t<11) ->(∀t∈Tk,t<11) ->(0<(Tk.foldl (Bi s) st).1 ->(Tk.foldl (Bi s) st).2≠[])/\ (∀t∈(Tk.foldl (Bi s) st).2,t<11)/\ (Tk.foldl (Bi s) st).2.length<=st.2.length+Tk.length
 |[],st,h1,h2,_=>⟨h1,h2,bB _⟩
 |t::Tk,st,h1,h2,h3=>by
  rw[zH];have u:=h3 t (by simp);have k:(0<(Bi s st t).1 ->(Bi s st t).2≠[])/\ (∀j∈(Bi s st t).2,j<11)/\ (Bi s st t).2.length<=st.2.length+1:=by
   unfold Bi;split;exact⟨λ_=>by simp,λj h=>by rw[yC.1 h];exact u,by simp⟩;split;refine⟨λ_=>by simp,λj h=> ?_,by simp⟩;rcases fO.1 h with h|h;exact h2 j h;rw[yC.1 h];exact u;exact⟨h1,h2,by omega⟩
  have:=bH0 s Tk (Bi s st t) k.1 k.2.1 λj h=>h3 j (by simp[h]);refine⟨this.1,this.2.1,?_⟩;have H:=this.2.2;have I:=k.2.2;rw[gJ];omega
section
variable {P:Program} {X:aR} {GL:T (List AV)} {ae:T au} (S:aT P X GL ae) (A:dY P X GL) (FC:gn ae) (F:A5 ae) (FE:fu ae) (hg:GL=mU) {g:Gr} (G:oy g) {Tk:List Nat} {lf:Tn} {c:Nat} (hc:c<8)
include S F
theorem cg2 {L} (V:L.length<=1000) v:Jt P X GL 195 [eR cI 1 true L,.i .i64 v]:=by
 have dp:bJ 12 h0 [eR cI 1 true L,.i .i64 v]=some [eR cI 1 true L,.i .i64 v]:=by rw[aL,aL,bZ,dH,dA (n:=11) yZ]
 refine⟨L.any λt=>decide ((t:Int)=v),λh=>dR S (bg.intro λC E=> ?_) dp h⟩;refine E.bS F.f195 (Y0 ?_);refine E.run ?_;refine E.bS F.f307 (Y0 ?_);refine fj E.ok L.length (λi τ h=>h=h0/\ τ.get 0=some (eR cI 1 true L)/\ τ.get 1=some (ι v)/\ τ.get 7=some (ι (L.length:Int))/\ τ.get 8=some (ι (i:Int))/\ (L.any λt=>decide ((t:Int)=v))=((L.drop i).any λt=>decide ((t:Int)=v))) ?_ ?_ _ _ ⟨rfl,?_,?_,?_,?_,by rw[List.drop_zero]⟩;rintro i τ _ hi ⟨rfl,t0,t1,t7,t8,J⟩ U;have I:L[i]? =some L[i]:=oc hi;generalize L[i]=a at I;have R:AM.sub (L.flatMap cI) i 1=some [.i .i64 (a:Int)]:=by have:=cW qw I (j:=0) (n:=1) ω;simpa[cI] using this
 have O:=QS I J;by_cases H:v=(a:Int);have u:(v=(a:Int))=True:=fq H;refine Z6 t0 t1 t7 t8 R u ?_;exact⟨1,by rw[O.1 (zG H.symm)];rfl⟩;have u:(v=(a:Int))=False:=dQ H;refine Z6 t0 t1 t7 t8 R u ?_;refine U _ _ ⟨rfl,?_,?_,?_,?_,O.2 (ot λh=>H h.symm)⟩;exact U1 t0;exact U1 t1;exact U1 t7;exact U0;rintro τ _ ⟨rfl,t0,t1,t7,t8,J⟩;refine Y2 t7 t8 ?_;exact⟨1,by rw[J,List.drop_length];rfl⟩;all_goals exact U0
include FC G
theorem bV3 (hg:GL=mU) (hT:Tk.length<=11/\∀t∈Tk,t<11) {s} (s8:∀b∈s,b<256) (sl:s.length<100000000) h:bP P X GL 194 [.dp (AZ g Tk) 0,.s s] h (.tu [.i .i64 ((Eh s Tk).1:Int),eR cI 1 true (Eh s Tk).2]) h:=by
 have dp:bJ 12 h0 [.dp (AZ g Tk) 0,.s s]=some [.dp (AZ g Tk) 0,.s s]:=by rw[aL,aL,bZ,oK,BN (n:=11) (Jx (n:=6) g Tk)]
 refine dR S (bg.intro λC E=> ?_) dp h;have q1:AM.sub (AZ g Tk) 9 1=some [eR cI 1 true Tk]:=rfl;have q2:AM.sub (AZ g Tk) 10 1=some [.f 191 [] [.dp (ar g) 0]]:=rfl;refine E.bS F.f194 (Z1 q1 ?_);refine fj E.ok Tk.length (λi τ h=>τ.get 0=some (.dp (AZ g Tk) 0)/\ τ.get 1=some (.s s)/\ τ.get 14=some (eR cI 1 true Tk)/\ τ.get 15=some (ι (Tk.length:Int))/\ τ.get 16=some (ι (i:Int))/\ τ.get 6=some (ι (((Tk.take i).foldl (Bi s) (0,[])).1:Int))/\∃v,τ.get 7=some v/\ (((Tk.take i).foldl (Bi s) (0,[])).2=[] ->v= .sn)/\ SL 0 h v ((Tk.take i).foldl (Bi s) (0,[])).2.length 1 (((Tk.take i).foldl (Bi s) (0,[])).2.flatMap cI)) ?_ ?_ _ _ ⟨?_,?_,?_,?_,?_,?_,.sn,?_,λ_=>rfl,.inl ⟨rfl,rfl,rfl⟩⟩;rintro i τ ⟨n0,v0,ob⟩ hi ⟨t0,t1,I,u,H,t6,v,t7,V,O⟩ W;have ha:Tk[i]? =some Tk[i]:=oc hi;have hm:=hT.2 _ (List.getElem_mem hi);generalize Tk[i]=a at ha hm;have tk:(Tk.take (i+1)).foldl (Bi s) (0,[])=Bi s ((Tk.take i).foldl (Bi s) (0,[])) a:=by rw[nY ha,xH];rfl
 have f3:=(bH0 s (Tk.take i) (0,[]) (λh=>by cases h) (λ_ h=>by cases h) λt h=>hT.2 t (List.mem_of_mem_take h)).2.2;rw[tk] at W;generalize (Tk.take i).foldl (Bi s) (0,[])=st at*;obtain⟨n,l⟩:=st;dsimp only at t6 O f3 V;have es:AM.sub (Tk.flatMap cI) i 1=some [.i .i64 (a:Int)]:=by have:=cW qw ha (j:=0) (n:=1) ω;simpa[cI] using this
 have lc:=λh=>cf6 S FC F hg G hm s8 ω h;have tl:(Tk.take i).length<=11:=by rw[jm];omega
 have Z:aY .add (ι (i:Int)) (ι 1)=some (ι ((i+1:Nat):Int)):=bK ω;obtain⟨r1,r2,r3,r4,r5⟩:=O.nice;refine Z7 t0 t1 I u H es q2 ?_;refine E.cN (lc _) ?_;by_cases h1:n<El a s;have J:((n:Int)<(El a s:Int))=True:=cJ;have R:(0<(El a s:Int))=True:=cJ;obtain⟨h2,pe,pn,U,b0⟩:=SL.push (b:=0) (v:= .sn) (n:=0) (esz:=1) (cs:=[]) (o2:=n0) (new:=[.i .i64 (a:Int)]) (h:=⟨n0+1,v0,ob.put n0 (.cells v0 [.i .i64 (a:Int)])⟩) (.inl ⟨rfl,rfl,rfl⟩) (oi _) (by exact U0) rfl rfl ω;refine Z6 t6 H J @tM pe Z ?_;refine W _ _ ⟨?_,?_,?_,?_,?_,?_,.sl (n0+1) 0 1 none 1,?_,?_,?_⟩;exact U1 t0;exact U1 t1;exact U1 I;exact U1 u;exact U0;unfold Bi;dsimp only;rw[aF h1];exact U0;exact U0;unfold Bi;dsimp only;rw[aF h1];exact λe=>by cases e
 unfold Bi;dsimp only;rw[aF h1];exact U;have J:((n:Int)<(El a s:Int))=False:=av;by_cases Y:El a s=n/\ 0<n;have R:((El a s:Int)=(n:Int))=True:=cJ;obtain⟨h2,pe,pn,U,b0⟩:=SL.push (o2:=n0) (new:=[.i .i64 (a:Int)]) (O.up (h':=⟨n0+1,v0,ob.put n0 (.cells v0 [.i .i64 (a:Int)])⟩) (nD n0) λj _ hj=>(by
  have m9:j<n0:=hj;exact U0)) (oi _) (by exact U0) rfl rfl (by simp at f3;omega)
 refine Z7 t6 t7 H J @tM pe Z ?_;refine W _ _ ⟨?_,?_,?_,?_,?_,?_,.sl (n0+1) 0 (l.length+1) none 1,?_,?_,?_⟩;exact U1 t0;exact U1 t1;exact U1 I;exact U1 u;exact U0;unfold Bi;dsimp only;rw[aD h1,aF Y];exact U1 t6;exact U0;unfold Bi;dsimp only;rw[aD h1,aF Y];exact λe=>by simp at e
 unfold Bi;dsimp only;rw[aD h1,aF Y,dy,lF,Bd,pO];exact U;have e:Bi s (n,l) a=(n,l):=by unfold Bi;dsimp only;rw[aD h1,aD Y]
 rw[e] at W;by_cases h4:El a s=n;have R:((El a s:Int)=(n:Int))=True:=cJ;refine Z4 t6 H J Z ?_;refine W _ _ ⟨?_,?_,?_,?_,?_,?_,v,?_,V,O⟩;exact U1 t0;exact U1 t1;exact U1 I;exact U1 u;exact U0;exact U1 t6;exact U1 t7;have R:((El a s:Int)=(n:Int))=False:=av;refine Z4 t6 H J Z ?_;refine W _ _ ⟨?_,?_,?_,?_,?_,?_,v,?_,V,O⟩;exact U1 t0;exact U1 t1;exact U1 I;exact U1 u;exact U0;exact U1 t6;exact U1 t7;rintro τ ⟨n0,v0,ob⟩ ⟨t0,t1,I,u,H,t6,v,t7,V,O⟩;rw[rL] at t6 O V;obtain⟨r1,-⟩:=O.nice;refine Z4 t6 t7 u H ?_;refine⟨5,?_⟩;have e:AM.deep 4 ⟨n0,v0,ob⟩ v=some (eR cI 1 true (Eh s Tk).2):=by
  rcases O with ⟨h1,rfl,-⟩|⟨q,rfl,-,-,h4,-⟩;have:(Eh s Tk).2=[]:=pM h1;rw[this];rfl;rw[gA (n:=3) h4 (qZ (n:=3) yZ _),BL];rfl;intro h;cases V h
 show(match eM (AM.deep 4 ⟨n0,v0,ob⟩) [.i .i64 _,v] with|some l=>some (AV.tu l)|none=>none)=_;rw[show eM (AM.deep 4 ⟨n0,v0,ob⟩) [AV.i .i64 (((Tk.foldl (Bi s) (0,[])).1:Nat):Int),v]=some [.i .i64 ((Eh s Tk).1:Int),eR cI 1 true (Eh s Tk).2] from by
  show bJ 4 _ _=_;rw[aL,aL,bZ,dH,e];rfl]
 all_goals exact U0
end
def av2 {a b} (j:a.length<=1048576) (hb:b.length<=1048576):aY .add (.s a) (.s b)=some (.s (a++b)):=by
 show(bif Nat.ble (len a) 1048576&&Nat.ble (len b) 1048576 then (match fy a b with|some l=>some (AV.s l)|none=>none) else none)=_;have u:Nat.ble (len a) 1048576=true:=by rw[wX,kZ];simpa using j
 have H:Nat.ble (len b) 1048576=true:=by rw[wX,kZ];simpa using hb
 rw[u,H,jz];rfl
section
variable {P:Program} {X:aR} {GL:T (List AV)} {ae:T au} (S:aT P X GL ae) (A:dY P X GL) (FC:gn ae) (F:A5 ae) (FE:fu ae) (hg:GL=mU) {g:Gr} (G:oy g) {Tk:List Nat} (hT:Tk.length<=11/\∀t∈Tk,t<11) {lf:Tn} {c:Nat} (hc:c<8)
include S FC F hg G hT
theorem bH1 s:(0<(Eh s Tk).1 ->(Eh s Tk).2≠[])/\ (∀t∈(Eh s Tk).2,t<11)/\ (Eh s Tk).2.length<=11:=by
 obtain⟨h1,h2,j⟩:=bH0 s Tk (0,[]) (λh=>by cases h) (λ_ h=>by cases h) hT.2;exact⟨h1,h2,by simp at j;unfold Eh;omega⟩
theorem bV4 {s} (h0:(Eh s Tk).2≠[]):∃t:Nat,AM.sub ((Eh s Tk).2.flatMap cI) 0 1=some [.i .i64 (t)]/\ 0<(Eh s Tk).2.length/\ t<11/\ AM.sub (g.tc.zipIdx.flatMap dq) (t*7+1) 1=some [.i .i64 (l7 t)]:=by
 obtain⟨h1,h2,J⟩:=bH1 S FC F hg G hT s;rcases e:(Eh s Tk).2 with _|⟨t,l⟩;exact bh e h0;have u:=h2 t (by rw[e];simp);obtain⟨tc,H,I⟩:=re (g:=g) G.tcl (i:=t) u;exact⟨t,by have:=cW qw (L:=t::l) (i:=0) rfl (j:=0) (n:=1) ω;simpa[cI] using this,by simp,u,by have:=cW qx I (j:=1) (n:=1) ω;simpa[dq] using this⟩
theorem cg3 {s} (V:∀b∈s,b<256) (sl:s.length<=1000):Jt P X GL 103 [.dp (AZ g Tk) 0,.s s]:=by
 have dp:bJ 12 h0 [.dp (AZ g Tk) 0,.s s]=some [.dp (AZ g Tk) 0,.s s]:=by rw[aL,aL,bZ,oK,BN (n:=11) (Jx (n:=6) g Tk)]
 have fc:=λh=>bV3 S FC F G hg hT (s:=32::s) (λb hb=>by rcases ed.1 hb with rfl|h;omega;exact V b h) (by rw[gJ];omega) h;have u:=bH1 S FC F hg G hT (32::s);have H:=bV4 S FC F hg G hT (s:=32::s);have J:g.tc.zipIdx.length=11:=by rw[ny,G.tcl]
 have U:AM.sub (AZ g Tk) 3 1=some [eR dq 7 true g.tc.zipIdx]:=rfl;have I:aY .add (.s [32]) (.s s)=some (.s (32::s)):=av2 (by decide) ω;generalize Eh (32::s) Tk=p at*;obtain⟨n,l⟩:=p;dsimp only at fc u H;by_cases h1:n=1;have j:((n:Int)=1)=True:=cJ;obtain⟨t,O,W,Y,R⟩:=H (u.1 ω);refine⟨decide ((l7 t:Int)=1),λh=>dR S (bg.intro λC E=> ?_) dp h⟩;refine E.bS F.f103 (Z1 I ?_);refine E.cN (fc _) (Z4 j U O R ?_);exact⟨1,rfl⟩;have j:((n:Int)=1)=False:=av;refine⟨false,λh=>dR S (bg.intro λC E=> ?_) dp h⟩;refine E.bS F.f103 (Z1 I ?_);refine E.cN (fc _) (Z1 j ?_);exact⟨1,rfl⟩
include A FE hc
theorem bV5 {s} (s8:∀b∈s,b<256) (sl:s.length<=1000) (V:lf.text≠[]):Jt P X GL 102 [.dp (AZ g Tk) 0,.i .u64 (c),.s s,.ag (fG lf)]:=by
 have dp:bJ 12 h0 [.dp (AZ g Tk) 0,.i .u64 (c:Int),.s s,.ag (fG lf)]=some [.dp (AZ g Tk) 0,.i .u64 (c:Int),.s s,.ag (fG lf)]:=by rw[aL,aL,aL,aL,bZ,oK,dH,BN (n:=11) (Jx (n:=6) g Tk),nX (n:=11) (Ju (n:=8) lf)]
 have fc:=λh=>bV3 S FC F G hg hT (s:=s) s8 ω h;have Y:=bH1 S FC F hg G hT s;have Z:=bV4 S FC F hg G hT (s:=s);have W:nice 64 (.ag (fG lf))=true:=by rw[qe,ua]
 have b2:g.tc.zipIdx.length=11:=by rw[ny,G.tcl]
 have U:AM.sub (AZ g Tk) 3 1=some [eR dq 7 true g.tc.zipIdx]:=rfl;have q8:AM.sub (AZ g Tk) 8 1=some [eR eF 9 true g.fI]:=rfl;generalize Eh s Tk=p at*;obtain⟨n,l⟩:=p;dsimp only at fc Y Z;obtain⟨b1,H⟩:=cg2 S F (L:=l) ω lf.tok;obtain⟨B,hB⟩:=ao1 (L:=g.fI) (p:=λf b=>∀h,bP P X GL 197 [.ag (eF f),.dp (fG lf) 0,.dp [.i .u64 (c:Int)] 0,.dp [.dp (AZ g Tk) 0] 0] h (.b b) h) λf hf=>cg1 S A F FE G hc (G.f f hf);have cd:∀m,bJ (m+8) h0 [.dp (fG lf) 0,.dp [.i .u64 (c:Int)] 0,.dp [.dp (AZ g Tk) 0] 0]=some [.dp (fG lf) 0,.dp [.i .u64 (c:Int)] 0,.dp [.dp (AZ g Tk) 0] 0]:=λm=>by
  rw[aL,aL,aL,bZ,BN (n:=m+7) (Ju (n:=m+4) lf),BN (n:=m+7) (l:=[.dp (AZ g Tk) 0]) (by rw[aL,bZ,BN (n:=m+6) (Jx (n:=m+1) g Tk)]),BN (n:=m+7) (l:=[.i .u64 (c:Int)]) (by rw[aL,bZ,dH])]
 have cf:=λh d=>ca8 S F (L:=g.fI) (nl:=true) (B:=B) (by have:=G.fl;omega) (h:=h) (fid:=197) (caps:=[.p 2 0,.p 1 0,.p 0 0]) (dcaps:=[.dp (fG lf) 0,.dp [.i .u64 (c:Int)] 0,.dp [.dp (AZ g Tk) 0] 0]) d (λn hn=>by
  obtain⟨m,rfl⟩:∃m,n=m+8:=⟨n-8,by omega⟩;exact cd m) λf h=>hB f h
 have b0:lf.text.length≠0:=λe=>V (pM e);have J:cellsO (.dp (AZ g Tk) 0)=some [.dp (AZ g Tk) 0]:=rfl;simp only[fG] at W;by_cases h1:n=lf.text.length;have u:((n:Int)=(lf.text.length:Int))=True:=cJ;obtain⟨t,O,k2,k3,R⟩:=Z (Y.1 ω);by_cases I:(l7 t:Int)=0;have j:((l7 t:Int)=0)=True:=fq I;cases b1;refine⟨false,λh=>dR S (bg.intro λC E=> ?_) dp h⟩;refine E.bS F.f102 (Z2 @fG.eq_1 J ?_);refine E.cN (fc _) (Z5 u j U O R ?_);refine E.cN (H _) (Z5 u j U O R ?_);exact⟨1,rfl⟩;refine⟨!g.fI.any B,λh=>dR S (bg.intro λC E=> ?_) dp h⟩;refine E.bS F.f102 (Z2 @fG.eq_1 J ?_);refine E.cN (fc _) (Z5 u j U O R ?_);refine E.cN (H _) (Z1 q8 ?_);refine E.cN (cf _ λn hn=> ?_) ?_;obtain⟨m,rfl⟩:∃m,n=m+8:=⟨n-8,by omega⟩;rw[aL,aL,aL,bZ,Od (n:=m+7) (o:=2) (v:=0) (l:=fG lf) (by simp only[fG];exact U0) (Ju (n:=m+4) lf),Od (n:=m+7) (o:=1) (v:=0) (l:=[.i .u64 (c:Int)]) U0 (by rw[aL,bZ,dH]),Od (n:=m+7) (o:=0) (v:=0) (l:=[.dp (AZ g Tk) 0]) U0 (by rw[aL,bZ,BN (n:=m+6) (Jx (n:=m+1) g Tk)])];refine Y0 ?_;exact⟨1,rfl⟩;have j:((l7 t:Int)=0)=False:=dQ I;refine⟨false,λh=>dR S (bg.intro λC E=> ?_) dp h⟩;refine E.bS F.f102 (Z2 @fG.eq_1 J ?_);refine E.cN (fc _) (Z5 u j U O R ?_);exact⟨1,rfl⟩;have u:((n:Int)=(lf.text.length:Int))=False:=av;refine⟨false,λh=>dR S (bg.intro λC E=> ?_) dp h⟩;refine E.bS F.f102 (Z2 @fG.eq_1 J ?_);refine E.cN (fc _) (Z1 u ?_);exact⟨1,rfl⟩
end
def HW (g:Gr) (c i:Nat):Bool:=match g.tc[i]? with|some t=>mf t c|none=>false
def Px (g:Gr) (c:Nat):List Nat:=(List.range 11).filter (HW g c)
def cg4 g c:(Px g c).length<=11/\∀t∈Px g c,t<11:=
 ⟨fJ (List.length_filter_le _ _) (by simp),λt h=>mA.1 (List.mem_filter.1 h).1⟩
section
variable {P:Program} {X:aR} {GL:T (List AV)} {ae:T au} (S:aT P X GL ae) (A:dY P X GL) (F:A5 ae) (FE:fu ae) {g:Gr} (G:oy g) {c:Nat} (hc:c<8)
include S A F FE G hc
theorem cg5 h:bP P X GL 101 [aI g,.i .u64 (c)] h (.dp (AZ g (Px g c)) 0) h:=by
 refine ku S (λn h=>by simp only[aL,bZ,dH]) ?_ h;refine bg.intro λC E=> ?_;have bq:=iW (g:=g);have b0:g.tc.zipIdx.length=11:=by rw[ny,G.tcl]
 have b3:((11:Nat):Int)=11:=rfl;simp only[ar] at bq;refine E.bS F.f101 (Z4 @aI.eq_1 @ar.eq_1 b0 b3 ?_);refine fj E.ok 11 (λi τ h=>2<=h.next/\ τ.get 1=some (.i .u64 (c:Int))/\ τ.get 2=some (.p 0 0)/\ τ.get 5=some (.p 1 0)/\ τ.get 12=some (ι 11)/\ τ.get 13=some (ι (i:Int))/\ cG (h.oB.get 0)=some (ar g)/\∃v,cG (h.oB.get 1)=some (ar g++[v,.fnil])/\ (((List.range i).filter (HW g c))=[] ->v= .sn)/\ SL 2 h v ((List.range i).filter (HW g c)).length 1 (((List.range i).filter (HW g c)).flatMap cI)) ?_ ?_ _ _ ⟨bB _,?_,?_,?_,?_,?_,?_,.sn,?_,λ_=>rfl,.inl ⟨rfl,rfl,rfl⟩⟩;rintro i τ ⟨n1,v1,ob⟩ hi ⟨W,t1,t2,t5,u,H,c0,v,c1,Y,I⟩ O;dsimp only at W c0 c1;have V:=c0;have R:=c1;obtain⟨tc,U,hz⟩:=re (g:=g) G.tcl (i:=i) hi;have e7:AM.sub (g.tc.zipIdx.flatMap dq) (i*7+5) 2=some [tp (aE tc).1,.i .i64 ((aE tc).2:Int)]:=by
  have:=cW qx hz (j:=5) (n:=2) ω;simpa[dq] using this
 have hh:=λh=>bi7 S A FE (G.tc tc (dI U)).f hc h;simp only[eT,eD] at hh;have hT:HW g c i=mf tc c:=by unfold HW;rw[U]
 have hl:((List.range i).filter (HW g c)).length<=11:=fJ (List.length_filter_le _ _) (by simp;omega);have rs:(List.range (i+1)).filter (HW g c)=(List.range i).filter (HW g c)++(if HW g c i then [i] else []):=by
  rw[zD,List.filter_append];congr 1;rw[Fx];cases HW g c i<;>rfl
 obtain⟨r1,r2,r3,r4,r5⟩:=I.nice;simp only[ar,gw,gx] at c0 c1;refine Z6 t1 t2 u H c0 e7 ?_;refine E.cN (hh _) ?_;cases hb:mf tc c;rw[rs,hT,hb] at O;simp only[nr,bV,lG] at O;refine Z1 H ?_;refine O _ _ ⟨W,?_,?_,?_,?_,?_,V,v,R,Y,I⟩;exact U1 t1;exact U1 t2;exact U1 t5;exact U1 u;exact U0;rw[rs,hT,hb] at O;simp only[dZ] at O;generalize (List.range i).filter (HW g c)=l at*;have w0:(0=n1)=False:=av;have w1:(1=n1)=False:=av;obtain⟨h2,pe,pn,b1,J⟩:=SL.push (o2:=n1) (new:=[.i .i64 (i:Int)]) (I.up (h':=⟨n1+1,v1,ob.put n1 (.cells v1 [.i .i64 (i:Int)])⟩) (nD n1) λj _ hj=>(by
  have m9:j<n1:=hj;have w:(j=n1)=False:=av;exact U0)) (by show 2<=n1+1;omega) (by exact U0) rfl rfl ω
 obtain⟨n2,v2,aJ⟩:=h2;have b4:n2=n1+1+1:=pn;dsimp only at J;have d0:cG (aJ.get 0)=some (ar g):=by rw[J 0 ω (I.ne ω)];exact wW w0 V
 have d1:cG (aJ.get 1)=some (ar g++[v,.fnil]):=by rw[J 1 ω (I.ne ω)];exact wW w1 R
 simp only[ar,gw,gx] at d1;have b2:(0=1)=False:=av;refine Z6 t5 H c1 @tM pe d1 ?_;refine O _ _ ⟨by show 2<=n2;omega,?_,?_,?_,?_,?_,?_,.sl (n1+1) 0 (l.length+1) none 1,?_,λe=>by simp at e,?_⟩;exact U1 t1;exact U1 t2;exact U1 t5;exact U1 u;exact U0;exact wW b2 d0;simp only[ar,gw,gx];exact U0;rw[dy,lF,Bd,pO];refine b1.up (bB _) λj hj _=> ?_;have w:(j=1)=False:=av;exact U0;rintro τ ⟨n1,v1,ob⟩ ⟨W,t1,t2,t5,u,H,c0,v,c1,Y,I⟩;dsimp only at W c0 c1;have V:=c0;simp only[ar,gw,gx] at c0 c1;obtain⟨r1,r2,r3,r4,r5⟩:=I.nice;refine Z5 t2 t5 u H c1 ?_;have e0:∀m,AM.deep (m+2) ⟨n1,v1+1,ob.put 1 (.cells (v1+1) (ar g++[v,.f 191 [] [.p 0 0]]))⟩ v=some (eR cI 1 true (Px g c)):=λm=>by
  unfold Px;rcases I with ⟨h1,rfl,-⟩|⟨q,rfl,h2,h3,h4,-⟩;rw[pM h1];rfl;have w:(q=1)=False:=av;rw[gA (n:=m+1) (wW w h4) (qZ (n:=m+1) yZ _),BL];intro h;cases Y h
 have e1:AM.deep 8 ⟨n1,v1+1,ob.put 1 (.cells (v1+1) (ar g++[v,.f 191 [] [.p 0 0]]))⟩ (.f 191 [] [.p 0 0])=some (.f 191 [] [.dp (ar g) 0]):=by
  obtain⟨vv,Z⟩:=EW V;have w:(0=1)=False:=av;show(match eM (AM.deep 7 _) [],eM (AM.deep 7 _) [.p 0 0] with|some a,some b=>some (AV.f 191 a b)|_,_=>none)=_;rw[show eM (AM.deep 7 _) [.p 0 0]=some [.dp (ar g) 0] from by
   show bJ 7 _ [.p 0 0]=_;rw[aL,bZ,Od (n:=6) (v:=vv) (l:=ar g) (wW w Z) (SB (n:=4) g)]]
  rfl
 refine⟨9,?_⟩;refine Od (n:=8) (v:=v1+1) (l:=ar g++[v,.f 191 [] [.p 0 0]]) (by simp only[ar,gw,gx];exact U0) ?_;unfold AZ;have h8:=Kp (SB (n:=6) (h:=⟨n1,v1+1,ob.put 1 (.cells (v1+1) (ar g++[v,.f 191 [] [.p 0 0]]))⟩) g) (b:=[v,.f 191 [] [.p 0 0]]) (b':=[eR cI 1 true (Px g c),.f 191 [] [.dp (ar g) 0]]) (by rw[aL,aL,bZ,e0 6,e1]);simpa only[ar,gw,gx] using h8;(iterate 5 exact U0);simp only[ar];exact U0;simp only[ar,gw,gx];exact U0
end
structure av3 (t:Tn):Prop where
 p:t.prod= -1
 k:∃i:Nat,i<9/\ t.tok=(i:Int)
 s:t.text∈DV
section
variable {P:Program} {X:aR} {GL:T (List AV)} {ae:T au} {C:aK Prop} (S:aT P X GL ae) (E:Sem P X GL ae C) (A:dY P X GL) (FC:gn ae) (F:A5 ae) (FE:fu ae) (hg:GL=mU) {g:Gr} (G:oy g) {c:Nat} (hc:c<8) (fc:∀h,bP P X GL 45 [aI g] h (ι 0) h) (ic:∀h,bP P X GL 51 [aI g,.i .u64 (c:Int)] h (.b true) h)
include S E A FC F FE hg G hc fc ic
theorem cg6 {LV:List Tn} (h5:LV.length<=40) (d5:∀t∈LV,av3 t) {lv h} (hs:SL 0 h lv LV.length 4 (LV.flatMap fG)) k
 (J:∀(e) h',e≠0 ->k (.tu [.sn,.s [],.i .i64 e]) h')
 (g6:∀go s (u) h',h.next<=go ->go<h'.next ->cG (h'.oB.get go)=some (uB LV.length u) ->(∀j,j<h.next ->h'.oB.get j=h.oB.get j) ->k (.tu [.sl go 0 LV.length (some LV.length) 1,.s s,.i .i64 0]) h'):du C 59 [aI g,.i .u64 (c),lv] h k:=by
 obtain⟨n0,v0,ob⟩:=h;have rc:=λh=>cg5 S A F FE G hc h;have bq:=iW (g:=g);have d6:g.tc.zipIdx.length=11:=by rw[ny,G.tcl]
 have g1:((11:Nat):Int)=11:=rfl;obtain⟨r1,r2,r3,r4,r5⟩:=hs.nice;simp only[ar] at bq;simp only[aI,ar] at fc ic rc;refine E.bS F.f59 (Z2 @aI.eq_1 @ar.eq_1 ?_);refine E.cN (fc _) (Z0 ?_);refine E.cN (ic _) (Z1 r5 ?_);refine fj E.ok LV.length (λi τ h=>n0+1<=h.next/\ (∀j,j<n0 ->h.oB.get j=ob.get j)/\ cG (h.oB.get n0)=some (ar g)/\ τ.get 1=some (.i .u64 (c:Int))/\ τ.get 2=some lv/\ τ.get 3=some (.p n0 0)/\ τ.get 34=some lv/\ τ.get 35=some (ι (LV.length:Int))/\ τ.get 36=some (ι (i:Int))/\∃z:Nat,τ.get 10=some (ι (z:Int))/\ z<=40+4*i) ?_ ?_ _ _ ⟨bB _,λj Y=> ?_,?_,?_,?_,?_,?_,?_,?_,LV.length,?_,by omega⟩;rintro i τ ⟨n1,v1,aQ⟩ hi ⟨hn,old,c0,t1,t2,t3,f9,c6,c7,z,t10,hz⟩ ih;dsimp only at hn old c0;have ht:LV[i]? =some LV[i]:=oc hi;have hm:=d5 _ (List.getElem_mem hi);generalize LV[i]=t at ht hm;obtain⟨pr,tk,tx,rm⟩:=t;obtain⟨hp,⟨x,x9,hx⟩,R⟩:=hm;dsimp only at hp hx R;subst hp hx;have t4:=bU0 R;rcases hs with ⟨h0,-,-⟩|⟨q,rfl,-,hq,b1,-⟩;omega;have b5:q<n0:=hq;have cq:cG (aQ.get q)=some (LV.flatMap fG):=by rw[old q b5];exact b1
 have de:=c0;simp only[ar] at c0;have es:AM.sub (LV.flatMap fG) (i*4) 4=some (fG ⟨-1,x,tx,rm⟩):=cW Uo ht (j:=0) (n:=4) ω;simp only[fG] at es;obtain⟨tc,g8,h1⟩:=re (g:=g) G.tcl (i:=x) ω;have e7:AM.sub (g.tc.zipIdx.flatMap dq) (x*7) 7=some (dq (tc,x)):=cW qx h1 (j:=0) (n:=7) ω;have hh:=λh=>bi7 S A FE (G.tc tc (dI g8)).f hc h;simp only[eT,eD] at hh;have g2:l7 x=0:=aF x9;simp only[dq,g2] at e7;have d8:nice 64 (eR jT 1 true rm)=true:=A4 zi;have b2:((i:Int)<(LV.length:Int))=True:=cJ;have g0:x<11:=by omega
 have wq:(q=n1)=False:=av;have ts:=ec t1 (ec t2 (ec t3 (ec t10 (ec f9 (ec c6 c7)))));have h3:=bq;have xs:=g0;have za:aY .add (ι (z:Int)) (ι (tx.length:Int))=some (ι ((z+tx.length:Nat):Int)):=oH ω;have H:=ec ts (ec h3 xs);by_cases hl:jQ x=[];have b3:(jQ x=[])=True:=fq hl;have hi':x=0∨x=10:=by
  by_cases e:x=0;exact .inl e;exact bh hl (bG4 ω)
 obtain⟨B,g3⟩:=bU2 S FC hg hi' R;refine qX H hi cq es c0 d6 g1 e7 b3 @aP0 ?_;refine E.cN (g3 _) (Z1 H ?_);refine E.cN (hh _) ?_;cases hB:mf tc c;refine Z0 ?_;exact J 91 _ (by decide);cases hb:B;refine Z0 ?_;exact J 91 _ (by decide);refine Z2 H za ?_;refine ih _ _ ⟨by show n0+1<=n1+1+1;omega,λj Y=> ?_,?_,?_,?_,?_,?_,?_,?_,z+tx.length,?_,by omega⟩;have w2:(j=n1)=False:=av;have:=old j Y;exact U2 w2 this;simp only[ar];exact U1 c0;(iterate 7 exact U1 ts);have b3:(jQ x=[])=False:=dQ hl;refine qX H hi cq es c0 d6 g1 e7 b3 @aP0 ?_;refine E.cN (hh _) ?_;cases hB:mf tc c;refine Z0 ?_;exact J 91 _ (by decide);cases hb:decide (tx=jQ x);refine Z0 ?_;exact J 91 _ (by decide);refine Z2 H za ?_;refine ih _ _ ⟨by show n0+1<=n1+1+1;omega,λj Y=> ?_,?_,?_,?_,?_,?_,?_,?_,z+tx.length,?_,by omega⟩;have w2:(j=n1)=False:=av;have:=old j Y;exact U2 w2 this;simp only[ar];exact U1 c0;(iterate 7 exact U1 ts);rintro τ ⟨n1,v1,aQ⟩ ⟨hn,old,c0,t1,t2,t3,f9,c6,c7,z,t10,hz⟩;dsimp only at hn old c0;have de:=c0;simp only[ar] at c0;have g7:LV.length<=1048576:=by omega
 refine Z6 t1 t3 t10 c6 c7 c0 ?_;refine E.cN (rc _) ?_;have h2:∀k,nice 64 (.dp (AZ g (Px g c)) k)=true:=λk=>by rw[fK,cf8]
 refine Z4 t2 r5 g7 @bV1 ?_;refine fj E.ok LV.length (λi τ h=>n1+1<=h.next/\ (∀j,j<n0 ->h.oB.get j=ob.get j)/\ τ.get 1=some (.i .u64 (c:Int))/\ τ.get 2=some lv/\ τ.get 15=some (.dp (AZ g (Px g c)) 0)/\ τ.get 16=some (.sl n1 0 LV.length (some LV.length) 1)/\ τ.get 104=some (ι (LV.length:Int))/\ τ.get 105=some (ι (i:Int))/\∃I u,τ.get 17=some (.s I)/\ I.length<=5*i/\ (∀b∈I,b<256)/\ cG (h.oB.get n1)=some (uB LV.length u)) ?_ ?_ _ _ ⟨bB _,λj Y=> ?_,?_,?_,?_,?_,?_,?_,[],λ_=>false,?_,oi _,λ_ h=>by simp at h,?_⟩;rintro i τ ⟨n2,v2,aJ⟩ hi ⟨b4,eG,t1,t2,f0,b6,V,W,I,u,b7,g5,Z,cu⟩ ih;dsimp only at b4 eG cu;have O:LV.length-1-i<LV.length:=by omega
 have ht:LV[LV.length-1-i]? =some LV[LV.length-1-i]:=oc O;have hm:=d5 _ (List.getElem_mem O);generalize LV[LV.length-1-i]=t at ht hm;obtain⟨pr,tk,tx,rm⟩:=t;obtain⟨hp,⟨x,x9,hx⟩,R⟩:=hm;dsimp only at hp hx R;subst hp hx;have t4:=bU0 R;have d8:nice 64 (eR jT 1 true rm)=true:=A4 zi;rcases hs with ⟨h0,-,-⟩|⟨q,rfl,-,hq,b1,-⟩;omega;have b5:q<n0:=hq;have cq:cG (aJ.get q)=some (LV.flatMap fG):=by rw[eG q b5];exact b1
 have es:AM.sub (LV.flatMap fG) ((LV.length-1-i)*4) 4=some (fG ⟨-1,x,tx,rm⟩):=cW Uo ht (j:=0) (n:=4) ω;simp only[fG] at es;have b2:((i:Int)<(LV.length:Int))=True:=cJ;have s1:aY .sub (ι (LV.length:Int)) (ι 1)=some (ι ((LV.length-1:Nat):Int)):=qV (b:=1) ω;have s2:aY .sub (ι ((LV.length-1:Nat):Int)) (ι (i:Int))=some (ι ((LV.length-1-i:Nat):Int)):=qV ω;have wq:(q=n2)=False:=av;have wu:(n1=n2)=False:=av;have ts:=ec t1 (ec t2 (ec f0 (ec b6 (ec V (ec W b7)))));have H:=ec ts (ec d8 (ec (h2 0) (ec wq (ec wu (ec cq cu)))));generalize h4:LV.length-1-i=p at*;by_cases b0:tx=[];have U:(tx=[])=True:=fq b0;refine Z8 H b2 O es s1 s2 U @aP0 ?_;exact J 240 _ (by decide);have U:(tx=[])=False:=dQ b0;have a1:aY .add (.s tx) (.s I)=some (.s (tx++I)):=av2 ω ω;have a2:aY .add (.s tx) (.s [32])=some (.s (tx++[32])):=av2 ω (by decide);have a3:aY .add (.s (tx++[32])) (.s I)=some (.s (tx++[32]++I)):=av2 (by simp;omega) ω;have b8:∀b∈tx,b<256:=λb hb=>(t4.2 b hb).1;have d0:=cg4 g c;have d1:∀b∈tx++I,b<256:=λb hb=>(fO.1 hb).elim (b8 b) (Z b);have d2:∀b∈tx++[32]++I,b<256:=λb hb=>(fO.1 hb).elim (λh=>(fO.1 h).elim (b8 b) (λh=>by rw[yC.1 h];decide)) (Z b);obtain⟨B1,d3⟩:=bV5 S A FC F FE hg G d0 (lf:=⟨-1,x,tx,rm⟩) hc (s:=tx++I) d1 (by rw[dy];omega) b0;obtain⟨B2,d4⟩:=bV5 S A FC F FE hg G d0 (lf:=⟨-1,x,tx,rm⟩) hc (s:=tx++[32]++I) d2 (by simp;omega) b0;obtain⟨B3,g4⟩:=cg3 S FC F hg G d0 (s:=I) Z ω;simp only[fG] at d3 d4;refine Z9 H b2 O es s1 s2 U a1 @aP0 ?_;refine E.cN (d3 _) ?_;cases B1 with
 |true=>
  refine Z1 H ?_;refine ih _ _ ⟨by show n1+1<=n2+1;omega,λj Y=> ?_,?_,?_,?_,?_,?_,?_,tx++I,u,?_,by simp only[dy,lF];omega,d1,?_⟩;have w2:(j=n2)=False:=av;have:=eG j Y;exact U2 w2 this;(iterate 8 exact U1 H)
 |false=>
  refine Z3 H a2 a3 ?_;refine E.cN (d4 _) ?_;cases B2;refine Z1 H ?_;exact J 240 _ (by decide);refine Z1 H ?_;refine E.cN (g4 _) ?_;cases B3;refine Z1 H ?_;exact J 240 _ (by decide);have us:=bU9 (u:=u) O;refine Z3 H O us ?_;refine ih _ _ ⟨by show n1+1<=n2+1;omega,λj Y=> ?_,?_,?_,?_,?_,?_,?_,tx++[32]++I,Ig u p,?_,by simp only[dy,lF];omega,d2,?_⟩;have w2:(j=n2)=False:=av;have:=eG j Y;exact U2 w2 this;(iterate 8 exact U1 H)
 rintro τ ⟨n2,v2,aJ⟩ ⟨b4,eG,t1,t2,f0,b6,V,W,I,u,b7,g5,Z,cu⟩;dsimp only at b4 eG cu;refine Z4 b6 b7 V W ?_;exact g6 _ _ u _ (by show n0<=n1;omega) (by show n1<n2;omega) cu eG;have w2:(j=n1)=False:=av;have:=old j Y;exact U2 w2 this;exact U1 t1;(iterate 7 exact U1 t2);have w:(j=n0)=False:=av;exact U1 w;simp only[ar];(iterate 8 exact U0)
end
section
variable {P:Program} {X:aR} {GL:T (List AV)} {ae:T au} {C:aK Prop} (S:aT P X GL ae) (E:Sem P X GL ae C) (A:dY P X GL) (FC:gn ae) (F:A5 ae) (FE:fu ae) (hg:GL=mU) {g:Gr} (G:oy g) {c:Nat} (hc:c<8)
include S E A FC F FE hg G hc
theorem cg7 (fc:∀h,bP P X GL 45 [aI g] h (ι 0) h) (ic:∀h,bP P X GL 51 [aI g,.i .u64 (c)] h (.b true) h) {LV:List Tn} (I:LV.length<=40) (J:∀t∈LV,av3 t) {lv h} (V:SL 0 h lv LV.length 4 (LV.flatMap fG)) k
 (O:∀(e) h',e≠0 ->k (.tu [.sn,.i .i64 e]) h')
 (R:∀go (u) h',h.next<=go ->go<h'.next ->cG (h'.oB.get go)=some (uB LV.length u) ->(∀j,j<h.next ->h'.oB.get j=h.oB.get j) ->k (.tu [.sl go 0 LV.length (some LV.length) 1,.i .i64 0]) h'):du C 18 [aI g,.i .u64 (c),lv] h k:=by
 obtain⟨n0,v0,ob⟩:=h;obtain⟨r1,r2,r3,r4,r5⟩:=V.nice;have W:=iW (g:=g);have U:=λk h0 h1=>cg6 S E A FC F FE hg G hc fc ic I J (h:=⟨n0+1,v0,ob.put n0 (.cells v0 (ar g))⟩) (lv:=lv) (V.up (nD n0) λj _ H=>(by
  have m9:j<n0:=H;have w:(j=n0)=False:=av;exact U0)) k h0 h1
 simp only[ar] at W U;simp only[aI,ar] at U;refine E.bS F.f18 (Z2 @aI.eq_1 @ar.eq_1 ?_);refine E.run (U _ (λe h' he=> ?_) λgo s u h' h1 h2 Y Z=> ?_);refine Z0 ?_;exact O e _ he;refine Z0 ?_;refine R go u _ (by have h:n0+1<=go:=h1;show n0<=go;omega) h2 Y λj H=> ?_;have w:(j=n0)=False:=dQ (by have h:j<n0:=H;omega);refine(Z j (by have h:j<n0:=H;show j<n0+1;omega)).trans ?_;exact U1 w
def bH2 (g:Gr) (t:Tn):Prop:=(av3 t/\∀r∈t.rem,r∈DV)∨∃j x,t.prod=((j:Nat):Int)/\ g.pR[j]? =some x/\ t.rem=[]
theorem bV6 {L} (J:∀r∈L,r∈DV) (h2:L.length<=2):∃b,∀h n1 j,cG (h.oB.get n1)=some (ar g) ->cG (h.oB.get j)=some [.i .u64 (c)] ->bP P X GL 19 [eR jT 1 true L,.f 54 [] [.p n1 0,.p j 0]] h (.b b) h:=by
 obtain⟨B,I⟩:=ao1 (L:=L) (p:=λa b=>∀h,bP P X GL 54 [.s a,.dp (ar g) 0,.dp [.i .u64 (c:Int)] 0] h (.b b) h) λa O=>cc0 S A FC F FE hg G hc (J a O);refine⟨L.any B,λh n1 j u H=> ?_⟩;obtain⟨v1,e1⟩:=EW u;obtain⟨v2,e2⟩:=EW H;refine ca6 S F (B:=B) ω (λn R=> ?_) (λn R=> ?_) I;obtain⟨m,rfl⟩:∃m,n=m+3:=⟨n-3,by omega⟩;rw[aL,aL,bZ,Od (n:=m+2) e1 (SB (n:=m) g),Od e2 (by rw[aL,bZ,dH])];obtain⟨m,rfl⟩:∃m,n=m+3:=⟨n-3,by omega⟩;rw[aL,aL,bZ,BN (n:=m+2) (SB (n:=m) g),BN (l:=[.i .u64 (c:Int)]) (by rw[aL,bZ,dH])]
theorem cg8 (mc:∀h,bP P X GL 52 [aI g,.i .u64 (c)] h (ι 0) h) {N} (hN:N.length<=40) (d6:∀t∈N,bH2 g t/\ t.rem.length<=2) {R} (hR:∀r∈R,r∈DV) (d8:R.length<=2) {m} (hm:m<g.nT.length) {h} k
 (hk:∀e h',h.next<=h'.next ->(∀j,j<h.next ->h'.oB.get j=h.oB.get j) ->k (ι e) h'):du C 16 [aI g,.i .u64 (c),.i .i64 (m),.ag (ky N R)] h k:=by
 obtain⟨n0,v0,ob0⟩:=h;have tr:=λh k h0 h1=>bj2 (C:=C) (R:=R) S E FE G hN h k h0 h1;have bq:=iW (g:=g);have d4:=bq;simp only[ar] at bq d4;simp only[aI,ar,ky] at mc tr;refine E.bS FE.f16 (Z3 @aI.eq_1 @ar.eq_1 @ky.eq_1 ?_);refine E.cN (mc _) (Z1 @iL ?_);refine E.run (tr _ _ (λh' hn old=> ?_) λt o h' ht hq hn old=> ?_);obtain⟨n1,v1,ob⟩:=h';have g0:n0+3<=n1:=hn;dsimp only at old;have d0:cG (ob.get n0)=some (ar g):=by rw[old n0 ω];simp only[ar];exact U0
 have d2:cG (ob.get (n0+1+1))=some [eR fG 4 true N,eR jT 1 true R]:=by rw[old _ ω];exact U0
 simp only[ar] at d0;have vq:eH 6 (.lf .sl) .sn .sn=some true:=rfl;refine Z1 vq ?_;refine hk 91 _ (by show n0<=n1;omega) λj I=> ?_;have m9:j<n0:=I;refine(old j ω).trans ?_;exact U0;obtain⟨n1,v1,ob⟩:=h';have g0:n0+3<=n1:=hn;dsimp only at old;have d0:cG (ob.get n0)=some (ar g):=by rw[old n0 ω];simp only[ar];exact U0
 have d1:cG (ob.get (n0+1))=some [.i .u64 (c:Int)]:=by rw[old _ ω];exact U0
 have d2:cG (ob.get (n0+1+1))=some [eR fG 4 true N,eR jT 1 true R]:=by rw[old _ ω];exact U0
 have O:∀e h',n1<=h'.next ->(∀j,j<n0 ->h'.oB.get j=ob.get j) ->k (ι e) h':=λe h' q1 q2=>hk e h' (by show n0<=_;omega) λj I=>by
  have m9:j<n0:=I;refine(q2 j m9).trans ((old j ω).trans ?_);exact U0
 have D0:=d0;simp only[ar] at d0;have vq:eH 6 (.lf .sl) (.sl o 0 N.length (some N.length) 1) .sn=some false:=rfl;obtain⟨pi,x,hp,hx⟩:=hq;have hi:=(eC.1 hx).1;have hl:=(eC.1 ht).1;have e0:AM.sub (N.flatMap fG) 0 1=some [.i .i64 (pi:Int)]:=by
  have:=cW Uo ht (j:=0) (n:=1) ω;simpa[fG,hp] using this
 have z:∀h,nU h 4 0 (eR fG 4 true N)= .v (.dp (N.flatMap fG) 0) h:=λh=>(bG (i:=0) hl).trans (by rw[ue]);have e1:AM.sub (g.pR.flatMap aM) (pi*13+1) 1=some [.i .i64 (x.left:Int)]:=by
  have:=cW kr hx (j:=1) (n:=1) ω;simpa[aM] using this
 by_cases nm:x.left=m;have ne:((x.left:Int)=(m:Int))=True:=cJ;refine Z7 d0 d2 vq e0 z e1 ne ?_;obtain⟨b0,f0⟩:=bV6 S E A FC F FE hg G hc hR d8;refine E.cN (f0 _ _ _ D0 d1) ?_;cases b0 with
 |true=>
  refine Z0 ?_;exact O 91 _ (bB _) λ_ _=>rfl
 |false=>
  refine Z1 d2 ?_;refine fj E.ok N.length (λi τ h=>n1<=h.next/\ (∀j,j<n1 ->h.oB.get j=ob.get j)/\ τ.get 4=some (.p n0 0)/\ τ.get 5=some (.p (n0+1) 0)/\ τ.get 10=some (.f 54 [] [.p n0 0,.p (n0+1) 0])/\ τ.get 57=some (eR fG 4 true N)/\ τ.get 58=some (ι (N.length:Int))/\ τ.get 59=some (ι (i:Int))) ?_ ?_ _ _ ⟨bB _,λ_ _=>rfl,?_,?_,?_,?_,?_,?_⟩;rintro i τ ⟨u,v2,V⟩ hi ⟨b1,W,t4,t5,t10,d5,b4,b5⟩ ih;dsimp only at b1 W;have ht:N[i]? =some N[i]:=oc hi;obtain⟨hm,Z⟩:=d6 _ (List.getElem_mem hi);generalize N[i]=t at ht hm Z;have D0':cG (V.get n0)=some (ar g):=by rw[W _ ω];exact D0
  have b6:=D0';have b7:cG (V.get (n0+1))=some [.i .u64 (c:Int)]:=by rw[W _ ω];exact d1
  simp only[ar] at b6;have es:AM.sub (N.flatMap fG) (i*4) 4=some (fG t):=cW Uo ht (j:=0) (n:=4) ω;have ts:=ec t4 (ec t5 (ec t10 (ec d5 (ec b4 b5))));have U:∀e h',u<=h'.next ->(∀j,j<u ->h'.oB.get j=V.get j) ->k (ι e) h':=λe h' q1 q2=>O e h' ω λj I=>(q2 j ω).trans (W j ω);have d3:nice 64 (eR jT 1 true t.rem)=true:=A4 zi;have Y:∀(o1 o2:bC) j,j<u ->((V.put u o1).put u o2).get j=V.get j:=λo1 o2 j I=>by
   exact U0
  have H:∀(o1 o2 o3 o4:bC) j,j<u ->((((V.put u o1).put u o2).put (u+1) o3).put (u+1) o4).get j=V.get j:=λo1 o2 o3 o4 j I=>by
   exact U0
  have J:=ec ts (ec d4 (ec b6 b7));rcases hm with ⟨⟨hp,⟨x',x9,c6⟩,c7⟩,hr⟩|⟨qi,y,b3,hy,-⟩;obtain⟨pr,tk,tx,rm⟩:=t;dsimp only at hp c6 c7 hr Z d3;subst hp c6;simp only[fG] at es;obtain⟨tc,g1,g2⟩:=re (g:=g) G.tcl (i:=x') ω;have e7:AM.sub (g.tc.zipIdx.flatMap dq) (x'*7) 7=some (dq (tc,x')):=cW qx g2 (j:=0) (n:=7) ω;have hh:=λh=>bi7 S A FE (G.tc tc (dI g1)).f hc h;simp only[eT,eD] at hh;obtain⟨Bs,b8⟩:=bU3 S FC F hg (t:=tc) (.inl x9) c7;simp only[dq] at e7 b8;have g4:g.tc.zipIdx.length=11:=by rw[ny,G.tcl]
  have g3:x'<11:=by omega
  refine Z3 J es e7 ?_;refine E.cN (hh _) ?_;cases hT:mf tc c;refine Z1 J ?_;exact U 91 _ (by show u<=u+1+1;omega) (H _ _ _ _);refine Z1 J ?_;refine E.cN (b8 _) ?_;cases Bs;refine Z1 J ?_;exact U 91 _ (by show u<=u+1+1;omega) (H _ _ _ _);refine Z1 J ?_;obtain⟨b2,f9⟩:=bV6 S E A FC F FE hg G hc hr Z;refine E.cN (f9 _ _ _ ?_ ?_) ?_;exact(congrArg cG (H _ _ _ _ n0 (show n0<u by omega))).trans D0';exact(congrArg cG (H _ _ _ _ (n0+1) (show n0+1<u by omega))).trans b7;cases b2 with
  |true=>
   refine Z1 J ?_;exact U 91 _ (by show u<=u+1+1;omega) (H _ _ _ _)
  |false=>
   refine Z1 J ?_;refine ih _ _ ⟨by show n1<=u+1+1;omega,λj I=> ?_,?_,?_,?_,?_,?_,?_⟩;exact(H _ _ _ _ j ω).trans (W j I);(iterate 6 exact U1 ts)
  obtain⟨pr,tk,tx,rm⟩:=t;dsimp only at b3 d3;subst b3;simp only[fG] at es;have b3:=(eC.1 hy).1;have e3:AM.sub (g.pR.flatMap aM) (qi*13+3) 2=some [tp (aE y.cond).1,.i .i64 ((aE y.cond).2:Int)]:=by
   have:=cW kr hy (j:=3) (n:=2) ω;simpa[aM] using this
  have hh:=λh=>bi7 S A FE (G.p y (dI hy)).cond.f hc h;simp only[eT,eD] at hh;refine Z3 J es e3 ?_;refine E.cN (hh _) ?_;cases hT:mf y.cond c;refine Z0 ?_;exact U 91 _ (by show u<=u+1;omega) (Y _ _);refine Z1 J ?_;refine ih _ _ ⟨by show n1<=u+1;omega,λj I=> ?_,?_,?_,?_,?_,?_,?_⟩;exact(Y _ _ j ω).trans (W j I);(iterate 6 exact U1 ts);rintro τ ⟨u,v2,V⟩ ⟨b1,W,t4,t5,t10,d5,b4,b5⟩;refine Z2 b4 b5 ?_;exact O 0 _ b1 λj I=>W j ω;(iterate 6 exact U0)
 have ne:((x.left:Int)=(m:Int))=False:=av;refine Z7 d0 d2 vq e0 z e1 ne ?_;exact O 91 _ (bB _) λ_ _=>rfl
end
def bV7 s:wV (jT s)=true:=rfl
def cg9 {b v n esz cs} (H:SL b h v n esz cs):gU h esz v .sn= .v v h:=by
 rcases H with ⟨rfl,rfl,rfl⟩|⟨q,rfl,-,-,j,u⟩;rfl;show gD h (.sl q 0 n none esz) 0 [] esz=_;rfl
def ch0 {l j n new} (u:AM.sub l j ((n+1)*1)=some new) (I:wV new=true) (H:n+1<=1048576):gU h 1 .sn (.ds l j (n+1) 1)= .v (.sl h.next 0 (n+1) none 1) ⟨h.next+1,h.ver,h.oB.put h.next (.cells h.ver new)⟩:=by
 have e1:eI h 1 (.ds l j (n+1) 1)=some new:=JW u;show(match ij (.ds l j (n+1) 1),eI h 1 (.ds l j (n+1) 1) with|some n',some l=>gD h .sn n' l 1|_,_=> .bad)=_;rw[e1];show gD h .sn (n+1) new 1=_;show(bif Nat.ble (n+1) 1048576&&wV new then h.new (.cells h.ver new) λo h=>fN (n+1) λn=>ay.v (.sl o 0 n none 1) h else ay.bad)=_;have J:Nat.ble (n+1) 1048576=true:=by rw[wX];simpa using H
 rw[J,I];simp only[A7,fC,dT,AH.new_eq]
def SL.pushR {b v L R} (H:SL b h v L.length 1 (L.flatMap jT)) (hb:b<=h.next) (O:L.length+R.length<=1048576):
 ∃v' h',gU h 1 v (eR jT 1 true R)= .v v' h'/\ h.next<=h'.next/\ SL b h' v' (L++R).length 1 ((L++R).flatMap jT)/\ (∀j,j<h.next ->(∀n c,v≠.sl j 0 n c 1) ->h'.oB.get j=h.oB.get j)/\ (v'=v∨v'= .sl h.next 0 (L++R).length none 1):=by
 rcases R with _|⟨r,R⟩;exact⟨v,h,cg9 H,bB _,by simpa using H,λ_ _ _=>rfl,.inl rfl⟩;have J:((r::R).flatMap jT).length=(R.length+1)*1:=by rw[kh (k:=1) Qv];simp
 have I:=w7 bV7 (r::R);have e:=mM J;rw[yT];rcases H with ⟨h0,rfl,h2⟩|⟨q,rfl,h2,h3,U,V⟩;have W:L=[]:=pM h0;subst W;refine⟨_,_,ch0 e I (by simpa using O),nD _,.inr ⟨h.next,rfl,hb,qI _,?_,by simpa using J⟩,λj Y _=> ?_,.inr rfl⟩;show cG ((h.oB.put h.next _).get h.next)=_;rw[T.get_put,aF rfl];rfl;show(h.oB.put h.next _).get j=_;rw[T.get_put,aD ω];have u:L.length+(R.length+1)<=1048576:=by simpa using O
 refine⟨_,_,aP3 e I U V u,nD _,.inr ⟨h.next,by rw[dy];rfl,hb,qI _,?_,by rw[kh (k:=1) Qv]⟩,λj Y Z=> ?_,.inr (by rw[dy];rfl)⟩;show cG (((h.oB.put q _).put h.next _).get h.next)=_;rw[T.get_put,aF rfl,Bd];rfl;show((h.oB.put q _).put h.next _).get j=_;rw[T.get_put,aD ω,T.get_put,aD (λe=>Z L.length none (by rw[e]))]
section
variable {P:Program} {X:aR} {GL:T (List AV)} {ae:T au} {C:aK Prop} (S:aT P X GL ae) (F:A5 ae)
def ch1 (S:aT P X GL ae) (F:A5 ae) (I:Ib P X GL) {s} (j:s∈DV++[[32],[]]) h:bP P X GL 20 [.s s] h (.b false) h:=by
 refine dR S (n:=9) (bg.intro λC E=> ?_) (by simp only[aL,bZ,oK]) h;refine E.bS F.f20 (Z0 ?_);refine E.cN (bU1 S F I j _) (Z0 ?_);exact⟨1,rfl⟩
def ch2 (E:Sem P X GL ae C) (F:A5 ae) {R} (U:R.length<=1000) h k (H:∀v h',h.next<=h'.next ->(∀j,j<h.next ->h'.oB.get j=h.oB.get j) ->SL h.next h' v R.length 1 (R.flatMap jT) ->k v h'):du C 17 [eR jT 1 true R] h k:=by
 obtain⟨n0,v0,ob⟩:=h;rw[E.cB F.f17];rcases R with _|⟨r,R⟩;have u:eH 6 (.lf .sl) .sn .sn=some true:=rfl;refine Z2 @qv u ?_;exact H _ _ (bB _) (λ_ _=>rfl) (.inl ⟨rfl,rfl,rfl⟩);have Ff:nice 64 (eR jT 1 true (r::R))=true:=A4 zi;have u:∀l n,eH 6 (.lf .sl) (.ds l 0 n 1) .sn=some false:=λ_ _=>rfl;have I:((r::R).flatMap jT).length=(R.length+1)*1:=by rw[kh (k:=1) Qv];simp
 have J:=Bv (esz:=1) (h:=⟨n0+1,v0,ob.put n0 (.cells v0 [])⟩) (o:=n0) (mM I) (w7 bV7 (r::R)) (by exact U0) (by have:(r::R).length=R.length+1:=rfl;omega);rw[yT] at Ff ⊢;generalize (r::R).flatMap jT=cs at*;simp only[gJ] at Ff ⊢;refine Z3 u @tM J ?_;refine H _ _ (by show n0<=n0+1+1;omega) (λj O=> ?_) (.inr ⟨n0+1,rfl,nD n0,qI _,U0,I⟩);have V:j<n0:=O;exact U0
end
section
def ch3 {g} (G:oy g):∀f H,(∀s∈H,s.1=true ->s.2<9) ->Fo.ok g H f ->∀t∈f.fl,bH2 g t/\ t.rem.length<=2:=by
 intro f;induction f with
 |nil=>exact λ_ _ _ t ht=>by simp[Fo.fl] at ht
 |lf t r ih=>
  intro H O I u j;rcases H with _|⟨s,H⟩;exact I.elim;rcases ed.1 j with rfl|j;obtain⟨⟨h1,h2,h3,R,W⟩,-⟩:=I;have Z:=O s (by simp) h3;refine⟨.inl ⟨⟨h1,⟨s.2,Z,h2⟩,bT9 Z R⟩,λx hx=> ?_⟩,W.1⟩;obtain⟨k,hk,rfl⟩:=W.2 x hx;exact bG3 hk;exact ih H (λs J=>O s (by simp[J])) I.2 u j
 |nd t kd r U V=>
  intro H O I u j;rcases H with _|⟨s,H⟩;exact I.elim;obtain⟨⟨q,x,h1,h2,-,R,-,-,Y⟩,h8⟩:=I;rcases ed.1 j with rfl|j;exact⟨.inr ⟨q,x,h1,h2,Y⟩,by rw[Y];exact oi _⟩;rcases fO.1 j with j|j;exact U x.right (λs J h=>by rcases(G.p x (dI h2)).sym s J with ⟨-,h⟩|⟨e,-⟩;exact h;rw[e] at h;cases h) R u j;exact V H (λs J=>O s (by simp[J])) h8 u j
def ch4 t:wV (fG t)=true:=by
 cases h:t.rem<;>simp only[fG,h]<;>rfl
def SL.keep {b h h' v n esz cs} (H:SL b h v n esz cs) (O:h.next<=h'.next) (old:∀j,b<=j ->j<h.next ->(∃n c,v= .sl j 0 n c esz) ->h'.oB.get j=h.oB.get j):SL b h' v n esz cs:=by
 rcases H with H|⟨q,h1,h2,u,I,J⟩;exact .inl H;exact .inr ⟨q,h1,h2,by omega,by rw[old q h2 u ⟨_,_,h1⟩];exact I,J⟩
def SL.lt {b h v n esz cs} (H:SL b h v n esz cs) {j n' c} (e:v= .sl j 0 n' c esz):b<=j/\ j<h.next:=by
 rcases H with ⟨-,h1,-⟩|⟨q,h1,h2,u,-⟩;rw[h1] at e;cases e;rw[h1] at e;cases e;exact⟨h2,u⟩
structure P2 (b:Nat) (h:AH) (tv:AV) (TL:List (List Nat)) (lv:AV) (LV:List Tn):Prop where
 t:SL b h tv TL.length 1 (TL.flatMap jT)
 l:SL b h lv LV.length 4 (LV.flatMap fG)
 d:∀j n c n' c',tv= .sl j 0 n c 1 ->lv≠.sl j 0 n' c' 4
structure P3 (b:Nat) (h:AH) (tv:AV) (TL:List (List Nat)) (lv:AV) (LV:List Tn) (p:Nat) (cs:List AV):Prop extends P2 b h tv TL lv LV where
 q:p<h.next/\ b<=p
 k:cG (h.oB.get p)=some cs
 pt:∀n c,tv≠.sl p 0 n c 1
 pl:∀n c,lv≠.sl p 0 n c 4
variable {b:Nat} {h:AH} {tv lv:AV} {TL:List (List Nat)} {LV:List Tn} {p:Nat} {cs:List AV}
def P2.add (H:P2 b h tv TL lv LV) (hb:b<=h.next) {h'} (I:h'.next=h.next+1) (old:∀j,j<h.next ->h'.oB.get j=h.oB.get j) (hc:cG (h'.oB.get h.next)=some cs):P3 b h' tv TL lv LV h.next cs:=
 ⟨⟨H.t.up ω λj _ u=>old j u,H.l.up ω λj _ u=>old j u,H.d⟩,⟨by omega,hb⟩,hc,λn c e=>by have:=(H.t.lt e).2;omega,λn c e=>by have:=(H.l.lt e).2;omega⟩
def P3.put (H:P3 b h tv TL lv LV p cs) (hb:b<=h.next) {h'} (I:h'.next=h.next+1) (old:∀j,j<h.next ->h'.oB.get j=h.oB.get j):P3 b h' tv TL lv LV p cs:=
 ⟨⟨H.t.up ω λj _ u=>old j u,H.l.up ω λj _ u=>old j u,H.d⟩,⟨by have:=H.q.1;omega,H.q.2⟩,by rw[old p H.q.1];exact H.k,H.pt,H.pl⟩
def P3.pushR (H:P3 b h tv TL lv LV p cs) (hb:b<=h.next) {R} (V:TL.length+R.length<=1048576):
 ∃u h',gU h 1 tv (eR jT 1 true R)= .v u h'/\ h.next<=h'.next/\ P3 b h' u (TL++R) lv LV p cs/\∀j,j<b ->h'.oB.get j=h.oB.get j:=by
 obtain⟨v',h',a1,a2,a3,a4,a5⟩:=H.t.pushR hb V;have O:∀j,j<h.next ->(∀n c,tv≠.sl j 0 n c 1) ->h'.oB.get j=h.oB.get j:=a4;refine⟨v',h',a1,a2,⟨⟨a3,H.l.keep a2 λj _ U ⟨n,c,e⟩=>O j U λn' J I=>H.d j n' J n c I e,λj n c n' J e I=> ?_⟩,⟨by have:=H.q.1;omega,H.q.2⟩,by rw[O p H.q.1 H.pt];exact H.k,λn c e=> ?_,H.pl⟩,λj U=>O j ω λn c e=>by have:=(H.t.lt e).1;omega⟩;rcases a5 with rfl|rfl;exact H.d j n c n' J e I;cases e;have:=(H.l.lt I).2;omega;rcases a5 with rfl|rfl;exact H.pt n c e;cases e;have:=H.q.1;omega
def P3.pushL (H:P3 b h tv TL lv LV p cs) (hb:b<=h.next) {o2 t} (c2:cG (h.oB.get o2)=some (fG t)) (O:LV.length+1<=1048576):
 ∃h',gU h 4 lv (.sl o2 0 1 (some 1) 4)= .v (.sl h.next 0 (LV.length+1) none 4) h'/\ h'.next=h.next+1/\ P3 b h' tv TL (.sl h.next 0 (LV.length+1) none 4) (LV++[t]) p cs/\∀j,j<b ->h'.oB.get j=h.oB.get j:=by
 obtain⟨h',a1,a2,a3,a4⟩:=H.l.push hb c2 (Uo t) (ch4 t) O;refine⟨h',a1,a2,⟨⟨H.t.keep ω λj _ J ⟨n,c,e⟩=>a4 j J λn' I u=>H.d j n c n' I e u,by rw[dy,Bd,pO];exact a3,λj n c n' I e u=> ?_⟩,⟨by have:=H.q.1;omega,H.q.2⟩,by rw[a4 p H.q.1 H.pl];exact H.k,H.pt,λn c e=> ?_⟩,λj J=>a4 j ω λn c e=>by have:=(H.l.lt e).1;omega⟩;cases u;have:=(H.t.lt e).2;omega;cases e;have:=H.q.1;omega
def P3.pushT (H:P3 b h tv TL lv LV p cs) (hb:b<=h.next) {o2 s} (c2:cG (h.oB.get o2)=some [.s s]) (O:TL.length+1<=1048576):
 ∃h',gU h 1 tv (.sl o2 0 1 (some 1) 1)= .v (.sl h.next 0 (TL.length+1) none 1) h'/\ h'.next=h.next+1/\ P3 b h' (.sl h.next 0 (TL.length+1) none 1) (TL++[s]) lv LV p cs/\∀j,j<b ->h'.oB.get j=h.oB.get j:=by
 obtain⟨h',a1,a2,a3,a4⟩:=H.t.push hb c2 rfl rfl O;refine⟨h',a1,a2,⟨⟨by rw[dy,Bd,pO];exact a3,H.l.keep ω λj _ J ⟨n,c,e⟩=>a4 j J λn' I u=>H.d j n' I n c u e,λj n c n' I e u=> ?_⟩,⟨by have:=H.q.1;omega,H.q.2⟩,by rw[a4 p H.q.1 H.pt];exact H.k,λn c e=> ?_,H.pl⟩,λj J=>a4 j ω λn c e=>by have:=(H.t.lt e).1;omega⟩;cases e;have:=(H.l.lt u).2;omega;cases e;have:=H.q.1;omega
end
def SL.deepS {b v L} (H:SL b h v L.length 1 (L.flatMap jT)):∃nl,∀n≥10,deep n h v=some (eR jT 1 nl L):=by
 have j:∀m,bJ (m+1) h (L.flatMap jT)=some (L.flatMap jT):=λm=>qZ (λs=>by simp only[jT,aL,bZ,oK]) L;rcases H with ⟨h0,rfl,-⟩|⟨q,rfl,h2,O,u,R⟩;have I:L=[]:=pM h0;subst I;exact⟨true,λn J=>by obtain⟨m,rfl⟩:∃m,n=m+1:=⟨n-1,by omega⟩;rfl⟩;refine⟨false,λn J=> ?_⟩;obtain⟨m,rfl⟩:∃m,n=m+2:=⟨n-2,by omega⟩;rw[gA (n:=m+1) u (j m)];cases L<;>rfl
def Fo.wt_le {g}:∀{f ss},Fo.ok g ss f ->f.wt<=24*f.fl.length
 | .nil,[],_=>oi _
 | .lf t r,s::ss,h=>by
  have e:=Fo.wt_le h.2;have r2:=h.1.2.2.2.2.1;simp only[Fo.wt,Fo.fl,gJ];omega
 | .nd t k r,s::ss,h=>by
  obtain⟨⟨q,x,h1,-,-,j,-⟩,h2⟩:=h;have e1:=Fo.wt_le j;have e2:=Fo.wt_le h2;simp only[Fo.wt,Fo.fl,gJ,dy];omega
 | .nil,_::_,h=>h.elim
 | .lf _ _,[],h=>h.elim
 | .nd _ _ _,[],h=>h.elim
def DW (o i:Nat):List (Int×AV):=(Jb o).take i
def Qw {C:aK Prop} {τ u j H o ob' m q v} (i f:Nat) (h:ups (i:Int) (.f f [.p o 0] []) (DW o i)=DW o (i+1)) (I:(DW o i).length=i/\ (DW o (i+1)).length=i+1) (J:mG (T.get ob' H)=some (di kK id 0 (DW o i),i)) (O:az C τ m= .m H) (R:az C τ q= .i .i64 (i)) (U:az C τ v= .f f [.p o 0] []):
 step (az C τ) ⟨u,j,ob'⟩ (.mupd (.lf .i) m q v)= .v .un ⟨u,j+1,ob'.put H (.map (j+1) (di kK id 0 (DW o (i+1))) (i+1))⟩:=by
 have:=mL (k:=(i:Int)) (v:=AV.f f [.p o 0] []) (en:=id) (ek:=kK) (l:=DW o i) (Az (k:= .i64)) (h:=⟨u,j,ob'⟩) (fT.2 (by rw[I.1];exact J)) O R U;rw[h,I.2] at this;exact this
section
variable {P:Program} {X:aR} {GL:T (List AV)} {ae:T au} {C:aK Prop} (E:Sem P X GL ae C) (F:A5 ae) {x:BX} {h:AH} {D:List Dn} {a l:Nat} {L:List Ru} {N:List Tn} {Gp:List Bool} (B:Ia x L N Gp)
def yx.at (H:yx x h D a l):∃dv,cG (h.oB.get x.o)=some (A8 dv x.bp x.g x.nv x.gv a l x.mv)/\ AM.nice 64 dv=true/\ cellsO dv=some [dv]/\ cellsOf dv=[dv]/\ ew dv=true/\∀j cs,x.pr j=some cs ->cG (h.oB.get j)=some cs:=by
 obtain⟨-,-,⟨dv,hd,I,J⟩,-⟩:=H;obtain⟨r1,r2,r3,r4,-⟩:=hd.nice;exact⟨dv,I,r1,r4,r3,r2,λj cs u=>(J j cs u).2.2.1⟩
def yx.put {n v ob} (H:yx x ⟨n,v,ob⟩ D a l) v' v2 R l' {dv} (V:cG (ob.get x.o)=some (A8 dv x.bp x.g x.nv x.gv a l x.mv)):yx x ⟨n,v',ob.put x.o (.cells v2 (A8 dv x.bp x.g x.nv x.gv R l' x.mv))⟩ D R l':=by
 obtain⟨lo,nx,⟨O,hd,J,U⟩,old⟩:=H;dsimp only at J nx old U;rw[V] at J;have e:dv=O:=by injection J with h;injection h
 subst e;refine⟨lo,nx,⟨dv,hd.up (bB _) λj I _=> ?_,?_,λj cs I=> ?_⟩,λj I u=> ?_⟩;have w:(j=x.o)=False:=av;exact U0;exact U0;obtain⟨W,Y,Z,j4⟩:=U j cs I;have w:(j=x.o)=False:=av;exact⟨W,Y,wW w Z,j4⟩;have w:(j=x.o)=False:=dQ u;exact wW w (old j I u)
def BX.prot (x:BX) (n:Nat) (cs:List AV):BX:={ x with pr:=λj=>if j=n then some cs else x.pr j }
def yx.prot {n n' v v' ob ob'} (H:yx x ⟨n,v,ob⟩ D a l) {cs} (hn:n<n') (hc:cG (ob'.get n)=some cs) (old:∀j,j<n ->ob'.get j=ob.get j):yx (x.prot n cs) ⟨n',v',ob'⟩ D a l:=by
 have H1:yx x ⟨n',v',ob'⟩ D a l:=H.up (by show n<=n';omega) old;obtain⟨lo,nx,⟨dv,hd,O,pk⟩,W⟩:=H1;obtain⟨-,J,⟨R,U,I,b0⟩,-⟩:=H;dsimp only at O I J;have e:dv=R:=by
  rw[old x.o ω,I] at O;injection O with h;injection h with h1 h2;exact h1.symm
 subst e;refine⟨lo,nx,⟨dv,hd,O,λj u Z=> ?_⟩,W⟩;have V:(if j=n then some cs else x.pr j)=some u:=Z;split at V;rename_i e;cases V;subst e;refine⟨J,hn,hc,λm c e=> ?_⟩;rcases U with ⟨-,h,-⟩|⟨q,h,h2,Y,-⟩;rw[h] at e;cases e;rw[h] at e;cases e;exact Nat.lt_irrefl _ Y;exact pk j u V
def yx.unp {n cs} (H:yx (x.prot n cs) h D a l) (R:∀cs,x.pr n≠some cs):yx x h D a l/\ cG (h.oB.get n)=some cs:=by
 obtain⟨lo,nx,⟨dv,hd,U,J⟩,O⟩:=H;refine⟨⟨lo,nx,⟨dv,hd,U,λj u I=>J j u ?_⟩,O⟩,(J n cs ?_).2.2.1⟩;show(if j=n then some cs else x.pr j)=some u;rw[aD λe=>R u (by rw[←e];exact I)];exact I;show(if n=n then some cs else x.pr n)=some cs;rw[aF rfl]
def yx.fresh {n v ob} (H:yx x ⟨n,v,ob⟩ D a l):∀cs,x.pr n≠some cs:=λcs e=>by
 obtain⟨-,-,⟨dv,-,-,j⟩,-⟩:=H;exact Nat.lt_irrefl _ (j n cs e).2.1
def Ia.prot (B:Ia x L N Gp) n cs:Ia (x.prot n cs) L N Gp:=⟨B.g,B.nv,B.nl,B.gv,B.gl,B.rv,B.bk,B.mv⟩
include E F B
theorem ch5 (H:yx x h D a l) {t} (ht:N[a]? =some t) (hp:t.prod<0) (r2:t.rem.length<=2) (hl:l<=1000) (hD:D.length+40<=1048576) k (hk:∀h',yx x h' (D++yz D.length (Pv t)) (a+1) (l+1) ->k (ι (A9 D.length (Pv t))) h'):du C 27 [.p x.o 0] h k:=by
 obtain⟨n0,v0,ob⟩:=h;obtain⟨dv,U,nd,-⟩:=H.at;dsimp only at U;have bT:=U;have lo:=H.lo;have nx:=H.nx;have pf:=H.fresh;dsimp only at nx;have nl:=B.nl;have b3:=(eC.1 ht).1;have e4:sub (N.flatMap fG) (a*4) 4=some (fG t):=cW Uo ht (j:=0) (n:=4) ω;have on:(x.o=n0)=False:=av;have H1:yx (x.prot n0 (fG t)) ⟨n0+1,v0+1+1,(ob.put n0 (.cells v0 [.i .i64 0,.i .i64 0,.s [],.sn])).put n0 (.cells (v0+1+1) (fG t))⟩ D a l:=H.prot (qI _) U0 λj hj=>by
  exact U0
 have q:cG (((ob.put n0 (.cells v0 [.i .i64 0,.i .i64 0,.s [],.sn])).put n0 (.cells (v0+1+1) (fG t))).get x.o)=some (A8 dv x.bp x.g x.nv x.gv a l x.mv):=wW on bT;have H2:=H1.put (v0+1+1+1) (v0+1+1+1) (a+1) l (dv:=dv) q;rw[B.nv] at U;simp only[A8,ar,gw,gx] at U;simp only[fG] at e4;refine E.bS F.f27 (Z2 U e4 ?_);refine fj E.ok t.rem.length (λi τ h=>yx (x.prot n0 (fG t)) h (D++yz D.length (Eo (t.rem.take i))) (a+1) l/\ τ.get 0=some (.p x.o 0)/\ τ.get 3=some (.p n0 0)/\ τ.get 29=some (eR jT 1 true t.rem)/\ τ.get 30=some (ι (t.rem.length:Int))/\ τ.get 31=some (ι (i:Int))/\ τ.get 4=some (ι (A9 D.length (Eo (t.rem.take i))))/\ uT (Eo (t.rem.take i))<=4*i) ?_ ?_ _ _ ⟨?_,?_,?_,?_,?_,?_,?_,?_⟩;rintro i τ h hi ⟨H,t0,t3,J,u,I,t4,sz⟩ ih;have Z:t.rem[i]? =some t.rem[i]:=oc hi;generalize t.rem[i]=r at Z;have tk:Eo (t.rem.take (i+1))=jn (jn (Eo (t.rem.take i)) (some (.tx r))) (some .hd):=by
  unfold Eo;rw[nY Z,xH];rfl
 have Y:((i:Int)<(t.rem.length:Int))=True:=cJ;have e1:sub (t.rem.flatMap jT) i 1=some [.s r]:=by have:=cW Qv Z (j:=0) (n:=1) ω;simpa[jT] using this
 generalize hT:Eo (t.rem.take i)=T0 at*;have V:(D++yz D.length T0).length=D.length+uT T0:=by rw[dy,HU]
 obtain⟨n1,v1,W⟩:=h;refine Z8 t0 t4 J u I Y e1 @bG ?_;refine E.run (Qt E F H (by rw[V];omega) _ λh2 H2=> ?_);rw[V] at H2 ⊢;have q1:=HH T0 (some (.tx r));have q2:=HH (jn T0 (some (.tx r))) (some .hd);have q3:uT (some (Dt.tx r))=1:=rfl;have q4:uT (some Dt.hd)=1:=rfl;have l2:(D++yz D.length (jn T0 (some (.tx r)))).length=D.length+uT (jn T0 (some (.tx r))):=by rw[dy,HU]
 refine Y2 t0 t4 ?_;refine E.run (I3 E F (D:=D) (A:=T0) (B:=some (.tx r)) H2 rfl ω _ λh3 H3=> ?_);refine Y2 t0 t4 ?_;refine E.run (an5 E F (n:=1) H3 (by rw[l2];omega) _ λh4 H4=> ?_);rw[l2] at H4 ⊢;refine Y2 t0 t4 ?_;refine E.run (I3 E F (D:=D) (A:=jn T0 (some (.tx r))) (B:=some .hd) H4 rfl ω _ λh5 H5=> ?_);refine Y1 I ?_;refine ih _ _ ⟨?_,?_,?_,?_,?_,?_,?_,?_⟩;rw[tk];exact H5;exact U1 t0;exact U1 t3;exact U1 J;exact U1 u;exact U0;rw[tk];exact U0;rw[tk];omega;rintro τ h ⟨H,t0,t3,J,u,I,t4,sz⟩;rw[rL] at H t4 sz;obtain⟨n1,v1,W⟩:=h;obtain⟨R,O,b4,-,-,-,b0⟩:=H.at;have c3:cG (W.get n0)=some (fG t):=b0 n0 _ (aF rfl);dsimp only at O;have H3:=H.put (v1+1) (v1+1) (a+1) (l+1) O;have ll:aY .add (ι (l:Int)) (ι 1)=some (ι ((l+1:Nat):Int)):=bK ω;have V:(D++yz D.length (Eo t.rem)).length=D.length+uT (Eo t.rem):=by rw[dy,HU]
 have q3:uT (some (Dt.tx t.text))=1:=rfl;have nv:=B.nv;replace O:cG (W.get x.o)=some (A8 R x.bp x.g (eR fG 4 true N) x.gv (a+1) l x.mv):=by rw[←nv];exact O
 simp only[A8,ar,gw,gx] at O;simp only[fG] at c3;refine Z7 t0 t3 u I O c3 ll ?_;refine E.run (Qt E F (x:=x.prot n0 (fG t)) (D:=D++yz D.length (Eo t.rem)) (a:=a+1) (l:=l+1) (by simpa only[A8,ar,gw,gx,nv] using (show yx (x.prot n0 (fG t)) ⟨n1,v1+1,W.put x.o (.cells (v1+1) (A8 R x.bp x.g x.nv x.gv (a+1) (l+1) x.mv))⟩ _ _ _ from H3)) (by rw[V];omega) _ λh2 H2=> ?_);rw[V] at H2 ⊢;obtain⟨n2,v2,aJ⟩:=h2;obtain⟨-,-,-,-,-,-,b1⟩:=H2.at;have c4:cG (aJ.get n0)=some (fG t):=b1 n0 _ (aF rfl);simp only[fG] at c4;refine Z2 t0 t4 ?_;refine E.run (I3 E F (D:=D) (A:=Eo t.rem) (B:=some (.tx t.text)) H2 rfl ω _ λh3 H3=> ?_);obtain⟨n3,v3,cC⟩:=h3;obtain⟨-,-,-,-,-,-,b2⟩:=H3.at;have c5:cG (cC.get n0)=some (fG t):=b2 n0 _ (aF rfl);simp only[fG] at c5;refine Z0 ?_;exact hk _ (H3.unp pf).1;have e:D++yz D.length (Eo (t.rem.take 0))=D:=by rw[Cf];exact lG D
 rw[e];have nv:=B.nv;simpa only[A8,ar,fG,gw,gx,nv] using (show yx (x.prot n0 (fG t)) ⟨n0+1,v0+1+1+1,((ob.put n0 (.cells v0 [.i .i64 0,.i .i64 0,.s [],.sn])).put n0 (.cells (v0+1+1) (fG t))).put x.o (.cells (v0+1+1+1) (A8 dv x.bp x.g x.nv x.gv (a+1) l x.mv))⟩ D (a+1) l from H2);(iterate 5 exact U0);rw[Cf];exact U0;rw[Cf];exact bB _
end
def uX (C:aK Prop) (L:List Ru) (N:List Tn) (Gp:List Bool) (f:Fo):Prop:=∀(x:BX) (h:AH) (D:List Dn) (a l q k:Nat) (p:Pr) (R:List Tn) (K:AV ->AH ->Prop),Ia x L N Gp ->yx x h D a l ->x.g.pR[q]? =some p ->k<=p.right.length ->Fo.ok x.g (p.right.drop k) f ->
 N.drop a=f.fl++R ->l=Fo.nlv (N.take a) ->D.length+f.wt+40<=1000000 ->(∀T h',HT L f T ->yx x h' (D++yz D.length T) (a+f.fl.length) (l+f.lv) ->K (ι (A9 D.length T)) h') ->du C 63 [.p x.o 0,.i .i64 (q:Int),.i .i64 (k:Int)] h K
section
variable {P:Program} {X:aR} {GL:T (List AV)} {ae:T au} {C:aK Prop} (E:Sem P X GL ae C) (F:A5 ae) {x:BX} {h:AH} {D:List Dn} {a l:Nat} {L:List Ru} {N:List Tn} {Gp:List Bool} (B:Ia x L N Gp)
include E F B
theorem bV8 (H:yx x h D a l) {t:Tn} {kd R} {q:Nat} {p} (hp:t.prod=(q)) (hq:x.g.pR[q]? =some p) (aC:Fo.ok x.g p.right kd) (IH:uX C L N Gp kd) (hN:N.drop a=t::(kd.fl++R)) (hl:l=Fo.nlv (N.take a)) (hD:D.length+kd.wt+50<=1000000)
 (k) (hk:∀T U h',HT L kd U ->(T=none↔U=none) ->DH T=DH U+(if U=none then 0 else if Cv L t.prod then 1 else 0) ->DP A6 T ->uT T<=uT U+2 ->yx x h' (D++yz D.length T) (a+1+kd.fl.length) (l+kd.lv) ->k (ι (A9 D.length T)) h'):du C 27 [.p x.o 0] h k:=by
 obtain⟨n0,v0,ob⟩:=h;obtain⟨dv,ho,nd,-⟩:=H.at;dsimp only at ho;have bT:=ho;have lo:=H.lo;have nx:=H.nx;have pf:=H.fresh;dsimp only at nx;have nl:=B.nl;have ht:N[a]? =some t:=HK hN;have b5:=(eC.1 ht).1;have e4:sub (N.flatMap fG) (a*4) 4=some (fG t):=cW Uo ht (j:=0) (n:=4) ω;have on:(x.o=n0)=False:=av;have H1:yx (x.prot n0 (fG t)) ⟨n0+1,v0+1+1,(ob.put n0 (.cells v0 [.i .i64 0,.i .i64 0,.s [],.sn])).put n0 (.cells (v0+1+1) (fG t))⟩ D a l:=H.prot (qI _) U0 λj hj=>by
  exact U0
 have q0:cG (((ob.put n0 (.cells v0 [.i .i64 0,.i .i64 0,.s [],.sn])).put n0 (.cells (v0+1+1) (fG t))).get x.o)=some (A8 dv x.bp x.g x.nv x.gv a l x.mv):=wW on bT;have H2:=H1.put (v0+1+1+1) (v0+1+1+1) (a+1) l (dv:=dv) q0;have nv:=B.nv;have H3:yx (x.prot n0 (fG t)) ⟨n0+1,v0+1+1+1,((ob.put n0 (.cells v0 [.i .i64 0,.i .i64 0,.s [],.sn])).put n0 (.cells (v0+1+1) (fG t))).put x.o (.cells (v0+1+1+1) (A8 dv x.bp x.g x.nv x.gv (a+1) l x.mv))⟩ D (a+1) l:=H2;simp only[A8,ar,fG,gw,gx,nv] at H3;obtain⟨b,Sp,Ns,Al,Ke,bk,b1,b6,W,c5,-,-,m3,m4⟩:=B.bk;rw[B.nv] at ho;simp only[A8,ar,gw,gx] at ho;simp only[fG] at e4;have tk:N.take (a+1)=N.take a++[t]:=nY ht;have l1:Fo.nlv (N.take (a+1))=l:=by
  rw[tk,Fo.nlv_app,←hl];show l+(List.filter _ [t]).length=l;rw[Fx,ot (by omega:¬t.prod<0)];rfl
 refine E.bS F.f27 (Z2 ho e4 ?_);rw[hp] at H3 ⊢;refine E.run (IH (x.prot n0 [.i .i64 (q:Int),.i .i64 t.tok,.s t.text,eR jT 1 true t.rem]) _ D (a+1) l q 0 p R _ (B.prot _ _) (by simpa only[fG,hp] using H3) hq (oi _) (by rw[List.drop_zero];exact aC) (HP hN) l1.symm ω λU h2 hU H4=> ?_);have u:∀{n v:Nat} {ob:T bC} {D':List Dn} {a' l':Nat},yx (x.prot n0 [.i .i64 (q:Int),.i .i64 t.tok,.s t.text,eR jT 1 true t.rem]) ⟨n,v,ob⟩ D' a' l' ->∃dv,cG (ob.get x.o)=some (A8 dv (.p (b+5) 0) x.g (eR fG 4 true N) x.gv a' l' x.mv)/\ AM.nice 64 dv=true/\ cG (ob.get n0)=some [.i .i64 (q:Int),.i .i64 t.tok,.s t.text,eR jT 1 true t.rem]/\
  cG (ob.get (b+5))=some [.m (b+1),.m (b+2),.m (b+3),.m (b+4)]/\ mG (ob.get (b+3))=mX kK AV.b Al/\ mG (ob.get (b+4))=mX kK AV.b Ke:=λH=>by
  obtain⟨dv,h1,h2,-,-,-,h3⟩:=H.at;have old:=H.old;refine⟨dv,?_,h2,h3 n0 _ (aF rfl),?_,?_,?_⟩;rw[←nv,←b1];exact h1;exact(congrArg cG (old (b+5) (by show b+5<x.m0;omega) (W 5 ω))).trans c5;exact(congrArg mG (old (b+3) (by show b+3<x.m0;omega) (W 3 ω))).trans m3;exact(congrArg mG (old (b+4) (by show b+4<x.m0;omega) (W 4 ω))).trans m4
 have J:∀V O ob' (τ:T AV),mG (T.get ob' (b+3))=mX kK AV.b Al ->az C τ (.t 85)= .m (b+3) ->az C τ (.t 87)= .i .i64 (q:Int) ->step (az C τ) ⟨V,O,ob'⟩ (.look (.lf .i) (.t 85) (.t 87) (.b false) false)= .v (.b ((look (q:Int) Al).getD false)) ⟨V,O,ob'⟩:=
  λV O ob' τ q1 q2 q3=>(sd (k:=(q:Int)) (z:= .b false) (en:=AV.b) Az (h:=⟨V,O,ob'⟩) (fT.2 q1) q2 q3).trans (by rw[aX0])
 have I:∀V O ob' (τ:T AV),mG (T.get ob' (b+4))=mX kK AV.b Ke ->az C τ (.t 105)= .m (b+4) ->az C τ (.t 107)= .i .i64 (q:Int) ->step (az C τ) ⟨V,O,ob'⟩ (.look (.lf .i) (.t 105) (.t 107) (.b false) false)= .v (.b ((look (q:Int) Ke).getD false)) ⟨V,O,ob'⟩:=
  λV O ob' τ q1 q2 q3=>(sd (k:=(q:Int)) (z:= .b false) (en:=AV.b) Az (h:=⟨V,O,ob'⟩) (fT.2 q1) q2 q3).trans (by rw[aX0])
 have b2:Cv L t.prod=(look (q:Int) Ke).getD false:=by rw[bk.f4,hp];rfl
 obtain⟨w1,w2,w3,w4⟩:=cd4 (al:=(look (q:Int) Al).getD false) (kp:=(look (q:Int) Ke).getD false) hU.ft;rw[b2] at hk;have fin:=λh' (H':yx (x.prot n0 [.i .i64 (q:Int),.i .i64 t.tok,.s t.text,eR jT 1 true t.rem]) h' (D++yz D.length (Jv ((look (q:Int) Al).getD false) ((look (q:Int) Ke).getD false) U)) (a+1+kd.fl.length) (l+kd.lv))=>hk _ U h' hU w1 w2 w3 w4 (H'.unp pf).1;obtain⟨n2,v2,aJ⟩:=h2;obtain⟨b4,f1,f2,f3,f4,f5,f6⟩:=u H4;simp only[A8,ar,gw,gx] at f1;rcases U with _|U;have z:(0<=A9 D.length none)=False:=dQ (show¬((0:Int)<= -1) by decide);refine Z1 z ?_;exact fin _ H4;have Y:(D++yz D.length (some U)).length=D.length+U.sz:=by rw[dy,HU];rfl
 have us:=U.sz_pos;have z:(0<=A9 D.length (some U))=True:=fq (show(0:Int)<=((D.length+U.sz-1:Nat):Int) by omega);have hz:=hU.z;have b7:U.sz<=kd.wt:=hz;cases ha:(look (q:Int) Al).getD false<;>cases hb:(look (q:Int) Ke).getD false<;>rw[ha] at J fin<;>rw[hb] at I fin;refine Z6 z f1 f3 f4 J I ?_;exact fin _ H4;refine Z6 z f1 f3 f4 J I ?_;refine E.run (I2 E F H4 (by rw[Y];omega) (d:=⟨6,[],0,D.length+U.sz-1,0⟩) _ λh5 H5=> ?_);rw[Y];refine Z0 ?_;have e:A9 D.length (Jv false true (some U))=((D.length+U.sz:Nat):Int):=rfl;rw[e] at fin;exact fin _ (by show yx _ h5 (D++(U.po D.length++_)) _ _;rw[←nz];exact H5);refine Z6 z f1 f3 f4 J I ?_;refine E.run (I2 E F H4 (by rw[Y];omega) (d:=⟨5,[],0,D.length+U.sz-1,0⟩) _ λh5 H5=> ?_);rw[Y];obtain⟨n5,v5,b3⟩:=h5;obtain⟨b0,Z,g2,g3,g4,g5,g6⟩:=u H5;simp only[A8,ar,gw,gx] at Z;refine Z4 Z g3 g4 I ?_;have e:A9 D.length (Jv true false (some U))=((D.length+U.sz:Nat):Int):=rfl;rw[e] at fin;exact fin _ (by show yx _ _ (D++(U.po D.length++_)) _ _;rw[←nz];exact H5);refine Z6 z f1 f3 f4 J I ?_;refine E.run (I2 E F H4 (by rw[Y];omega) (d:=⟨5,[],0,D.length+U.sz-1,0⟩) _ λh5 H5=> ?_);rw[Y];obtain⟨n5,v5,b3⟩:=h5;obtain⟨b0,Z,g2,g3,g4,g5,g6⟩:=u H5;simp only[A8,ar,gw,gx] at Z;refine Z4 Z g3 g4 I ?_;have l2:(D++yz D.length (some U)++[(⟨5,[],0,D.length+U.sz-1,0⟩:Dn)]).length=D.length+U.sz+1:=by rw[dy,Y];rfl
 refine E.run (I2 E F H5 (by rw[l2];omega) (d:=⟨6,[],0,D.length+U.sz,0⟩) _ λh6 H6=> ?_);rw[l2];refine Z0 ?_;have e:A9 D.length (Jv true true (some U))=((D.length+U.sz+1:Nat):Int):=rfl;rw[e] at fin;exact fin _ (by show yx _ _ (D++((U.po D.length++_)++_)) _ _;rw[←nz,←nz];exact H6)
end
def av4:aw:=eg (sE 63 63)
abbrev Qy:au:=(λy=>eg (bE (pg 63) λo=>pt 63 y o)) av4
def bV9:bF1=Qy:=by unfold bF1 Qy av4;rfl
section
variable {P:Program} {X:aR} {GL:T (List AV)} {ae:T au} {C:aK Prop} (E:Sem P X GL ae C) (F:A5 ae) {x:BX} {h:AH} {D:List Dn} {a l:Nat} {L:List Ru} {N:List Tn} {Gp:List Bool} (B:Ia x L N Gp)
include E F B
theorem KL {r} (IH:uX C L N Gp r) {q k:Nat} {p} (hq:x.g.pR[q]? =some p) (b2:k+1<=p.right.length) (aC:Fo.ok x.g (p.right.drop (k+1)) r) {R} (hN:N.drop a=r.fl++R) (hl:l=Fo.nlv (N.take a)) {T1 s} (hs:I8 s) (b3:s=none∨0<r.lv)
 (H:yx x h (D++yz D.length T1++yz (D.length+uT T1) s) a l) (hD:D.length+uT T1+r.wt+50<=1000000) {τ} (t0:τ.get 0=some (.p x.o 0)) (t1:τ.get 1=some (ι (q))) (t2:τ.get 2=some (ι (k))) (t7:τ.get 7=some (ι (A9 D.length T1))) (t8:τ.get 8=some (ι (A9 (D.length+uT T1) s)))
 (K) (hK:∀b n h',HT L r b ->(b=none ->s=none) ->n<=16 ->yx x h' (D++yz D.length (jn T1 (HF n (jn s b)))) (a+r.fl.length) (l+r.lv) ->K (ι (A9 D.length (jn T1 (HF n (jn s b))))) h'):df C av4 [] (KF K [(6,none)]) τ h:=by
 have l2:(D++yz D.length T1++yz (D.length+uT T1) s).length=D.length+uT T1+uT s:=by rw[dy,dy,HU,HU]
 have l1:(D++yz D.length T1).length=D.length+uT T1:=by rw[dy,HU]
 have b7:=hs.z;have nl:=B.nl;have r8:=(B.g.p p (dI hq)).len;obtain⟨j,Sp,Ns,Al,Ke,bk,b1,b6,O,c5,-,m2,-,-⟩:=B.bk;obtain⟨n0,v0,ob⟩:=h;unfold av4;refine Y4 t0 t1 t2 (bK (a:=k) ω) ?_;refine E.run (IH x _ _ a l q (k+1) p R _ B H hq b2 aC hN hl (by rw[l2];omega) λb h2 hb H2=> ?_);rw[l2] at H2 ⊢;have Z:b=none ->s=none:=λe=>b3.elim id λh=>by have:=hb.n.1 e;omega
 have bz:=hb.z;have z1:=HH s b;obtain⟨n2,v2,aJ⟩:=h2;rcases b with _|b;have es:=Z rfl;subst es;have z:(0<=A9 (D.length+uT T1+uT none) none)=False:=dQ (show¬((0:Int)<= -1) by decide);refine Z3 t0 t7 t8 ?_;refine E.run (I3 E F (D:=D) (A:=T1) (B:=none) (by simpa[yz,uT] using H2) rfl (by show D.length+uT T1+0+1<=_;omega) _ λI H3=> ?_);refine Y0 ?_;exact hK none 0 I hb (λ_=>rfl) ω H3;have z:(0<=A9 (D.length+uT T1+uT s) (some b))=True:=fq (show(0:Int)<=((D.length+uT T1+uT s+b.sz-1:Nat):Int) by omega);refine Z3 t0 t7 t8 ?_;refine E.run (I3 E F (D:=D++yz D.length T1) (A:=s) (B:=some b) H2 l1 ω _ λI H3=> ?_);obtain⟨V,hV⟩:∃V,jn s (some b)=some V:=by cases s<;>exact⟨_,rfl⟩
 rw[hV] at H3 z1 ⊢;have vz:V.sz<=uT s+uT (some b)+1:=z1;have lV:(D++yz D.length T1++yz (D.length+uT T1) (some V)).length=D.length+uT T1+V.sz:=by rw[dy,l1,HU];rfl
 obtain⟨n3,v3,cC⟩:=I;obtain⟨b5,f1,f2,-⟩:=H3.at;have old:=H3.old;have f4:cG (cC.get (j+5))=some [.m (j+1),.m (j+2),.m (j+3),.m (j+4)]:=(congrArg cG (old (j+5) ω (O 5 ω))).trans c5;have f5:mG (cC.get (j+2))=mX eJ kK Ns:=(congrArg mG (old (j+2) ω (O 2 ω))).trans m2;rw[b1] at f1;dsimp only at f1;simp only[A8,ar,gw,gx] at f1;have J:∀Y W ob' (τ:T AV),mG (T.get ob' (j+2))=mX eJ kK Ns ->az C τ (.t 58)= .m (j+2) ->az C τ (.t 61)= .ag [.i .i64 (q:Int),.i .i64 (k:Int)] ->
  step (az C τ) ⟨Y,W,ob'⟩ (.look (.ag [(0,1,false,.lf .i),(1,1,false,.lf .i)]) (.t 58) (.t 61) (ι 0) false)= .v (ι ((look ((q:Int),(k:Int)) Ns).getD 0)) ⟨Y,W,ob'⟩:=
  λY W ob' τ q1 q2 q3=>(sd (k:=((q:Int),(k:Int))) (z:= .i .i64 0) (en:=kK) EP (h:=⟨Y,W,ob'⟩) (fT.2 q1) q2 q3).trans (by rw[aW9])
 obtain⟨n,hn,b4⟩:∃n:Nat,(look ((q:Int),(k:Int)) Ns).getD 0=(n:Int)/\ n<=16:=by
  rcases e:look ((q:Int),(k:Int)) Ns with _|m;exact⟨0,rfl,by omega⟩;obtain⟨r,r1,r2,r3⟩:=bk.f6 _ _ e;have I:=B.rv r r1;unfold eP at I;simp only[aB,aU] at I;have u:=I.2;rw[aD ω] at u;simp only[aB] at u;have h5:=u.1.1;rw[aD ω,aF r2] at h5;simp only[aB,aU] at h5;exact⟨m.toNat,by show m=_;omega,by omega⟩
 rw[hn] at J;have fin:=λh'=>hK (some b) n h' hb (λe=>by cases e) b4;rw[hV] at fin;by_cases U:n=0;subst U;have zn:(0<((0:Nat):Int))=False:=av;refine Z7 t0 t1 t2 t7 f1 f4 J ?_;refine E.run (I3 E F (D:=D) (A:=T1) (B:=some V) H3 rfl (by show D.length+uT T1+V.sz+1<=_;omega) _ λu H4=> ?_);refine Y0 ?_;exact fin u H4;have zn:(0<(n:Int))=True:=cJ;refine Z7 t0 t1 t2 t7 f1 f4 J ?_;refine E.run (I2 E F H3 (by rw[lV];omega) (d:=⟨4,[],n,D.length+uT T1+V.sz-1,0⟩) _ λu H4=> ?_);rw[lV];have e2:HF n (some V)=some (.ne n V):=by unfold HF;dsimp only;rw[aD U]
 rw[e2] at fin;have e3:A9 (D.length+uT T1) (some (.ne n V))=((D.length+uT T1+V.sz:Nat):Int):=rfl;have H5:yx x u (D++yz D.length T1++yz (D.length+uT T1) (some (.ne n V))) (a+r.fl.length) (l+r.lv):=by
  show yx x u (D++yz D.length T1++(V.po (D.length+uT T1)++_)) _ _;rw[←nz];exact H4
 refine Y2 t0 t7 ?_;rw[←e3];refine E.run (I3 E F (D:=D) (A:=T1) (B:=some (.ne n V)) H5 rfl (by show D.length+uT T1+(V.sz+1)+1<=_;omega) _ λh6 H6=> ?_);refine Y0 ?_;exact fin h6 H6
end
def bW0 N a:Fo.nlv (N.take a)<=Fo.nlv N:=by
 have:=Fo.nlv_app (N.take a) (N.drop a);rw[vJ] at this;omega
section
variable {P:Program} {X:aR} {GL:T (List AV)} {ae:T au} {C:aK Prop} (E:Sem P X GL ae C) (F:A5 ae) {x:BX} {h:AH} {D:List Dn} {a l:Nat} {L:List Ru} {N:List Tn} {Gp:List Bool} (B:Ia x L N Gp)
include E F B
theorem bW1 {r} (IH:uX C L N Gp r) {q k:Nat} {p} (J:x.g.pR[q]? =some p) (I:k+1<=p.right.length) (W:Fo.ok x.g (p.right.drop (k+1)) r) {R n1 lf wf} (Y:N.drop (a+n1)=r.fl++R) (Z:l+lf=Fo.nlv (N.take (a+n1))) (H:yx x h D a l) (hD:D.length+wf+r.wt+50<=1000000) (ha:a+n1<=N.length)
 {Q:Option Dt ->Prop} (sub:∀K:AV ->AH ->Prop,(∀T1 h1,Q T1 ->(T1=none↔lf=0) ->uT T1<=wf ->yx x h1 (D++yz D.length T1) (a+n1) (l+lf) ->K (ι (A9 D.length T1)) h1) ->du C 27 [.p x.o 0] h K)
 (K) (hK:∀T1 s b n h',Q T1 ->I8 s ->HT L r b ->(b=none ->s=none) ->n<=16 ->yx x h' (D++yz D.length (jn T1 (HF n (jn s b)))) (a+n1+r.fl.length) (l+lf+r.lv) ->K (ι (A9 D.length (jn T1 (HF n (jn s b))))) h'):du C 63 [.p x.o 0,.i .i64 (q),.i .i64 (k)] h K:=by
 have f63:ae.get 63=some Qy:=by rw[←bV9];exact F.f63
 obtain⟨n0,v0,ob⟩:=h;obtain⟨dv,O,nd,-⟩:=H.at;dsimp only at O;have pl:=B.g.pl;have nl:=B.nl;have gl:=B.gl;have e2:AM.sub (x.g.pR.flatMap aM) (q*13+2) 1=some [eR ba 2 p.rn p.right]:=cW kr J (j:=2) (n:=1) ω;have el:=(eC.1 J).1;have ka:aY .add (ι (k:Int)) (ι 1)=some (ι ((k+1:Nat):Int)):=bK (by have:=(B.g.p p (dI J)).len;omega);simp only[A8,ar,gw,gx] at O;rw[yN E.ok (E.get f63)];refine Z2 O e2 ?_;refine E.run (sub _ λT1 h1 hQ hT hz H1=> ?_);have u:=λ{s:Option Dt} (hs:I8 s) (hs0:s=none∨0<r.lv) {h2:AH} H2 {τ:T AV} t0 t1 t2 t7 t8=>KL (x:=x) (h:=h2) (D:=D) (a:=a+n1) (l:=l+lf) (T1:=T1) (τ:=τ) E F B IH J I W Y Z hs hs0 H2 ω t0 t1 t2 t7 t8 K λb n h' hb hbs hn H'=>hK T1 s b n h' hQ hs hb hbs hn H';have s0:I8 none:=⟨trivial,rfl,by decide⟩;have Hn:yx x h1 (D++yz D.length T1++yz (D.length+uT T1) none) (a+n1) (l+lf):=by simpa[yz] using H1
 rcases T1 with _|T1;refine Z0 ?_;refine u s0 (.inl rfl) Hn ?_ ?_ ?_ ?_ ?_<;>exact U0;have l1:(D++yz D.length (some T1)).length=D.length+T1.sz:=by rw[dy,HU];rfl
 have b0:T1.sz<=wf:=hz;have b1:lf≠0:=λe=>by cases hT.2 e
 refine Z1 ka ?_;refine E.run (bY3 E F B H1 J I W Y _ ?_);by_cases U:0<r.lv;have V:decide (0<r.lv)=true:=zG U;rw[V];refine Z0 ?_;refine E.run (cc9 E F B H1 (by rw[l1];omega) ha ⟨by omega,by rw[Z,gl];exact bW0 _ _⟩ _ λs h2 hs H2=> ?_);rw[l1] at H2 ⊢;refine Y0 ?_;refine u hs (.inr U) H2 ?_ ?_ ?_ ?_ ?_<;>exact U0;have V:decide (0<r.lv)=false:=ot U;rw[V];refine Z0 ?_;refine u s0 (.inl rfl) Hn ?_ ?_ ?_ ?_ ?_<;>exact U0
omit B in
theorem ch6:∀f:Fo,uX C L N Gp f:=by
 intro f;induction f with
 |nil=>
  intro x h D a l q k p R K B H hq Z aC hN hl hD hK;have f63:ae.get 63=some Qy:=by rw[←bV9];exact F.f63
  obtain⟨n0,v0,ob⟩:=h;obtain⟨dv,ho,nd,-⟩:=H.at;dsimp only at ho;have pl:=B.g.pl;have e2:AM.sub (x.g.pR.flatMap aM) (q*13+2) 1=some [eR ba 2 p.rn p.right]:=cW kr hq (j:=2) (n:=1) ω;have el:=(eC.1 hq).1;have u:k=p.right.length:=by
   rcases e:p.right.drop k with _|⟨s,ss⟩;have:=List.drop_eq_nil_iff.1 e;omega;rw[e] at aC;exact aC.elim
  simp only[A8,ar,gw,gx] at ho;rw[yN E.ok (E.get f63)];refine Z2 ho e2 ?_;exact hK none _ (HT.nil L) (by simpa[yz,Fo.fl,Fo.lv] using H)
 |lf t r ih=>
  intro x h D a l q k p R K B H hq Z aC hN hl hD hK;rcases e:p.right.drop k with _|⟨s,ss⟩;rw[e] at aC;exact aC.elim;rw[e] at aC;obtain⟨⟨h1,h2,h3,W,Y⟩,h6⟩:=aC;have u:k<p.right.length:=by
   rcases iO k p.right.length with h|h;exact h;rw[List.drop_eq_nil_iff.2 h] at e;cases e
  have es:p.right.drop (k+1)=ss:=HP e;have J:N[a]? =some t:=HK hN;have b1:=(eC.1 J).1;have b2:s∈p.right:=dI (HK e);have s9:s.2<9:=by
   rcases(B.g.p p (dI hq)).sym s b2 with h|h;exact h.2;rw[h3] at h;cases h.1
  have b6:A6 t.text:=xI _ (bT9 s9 W);have b7:∀s∈t.rem,A6 s:=λs V=>by obtain⟨k,Z,rfl⟩:=Y.2 s V;exact xI _ (bG3 Z)
  obtain⟨w1,w2,w3,w4⟩:=cd2 b6 b7;have l1:l+1=Fo.nlv (N.take (a+1)):=by
   rw[nY J,Fo.nlv_app,←hl];show _=l+(List.filter _ [t]).length;rw[Fx,zG (by omega:t.prod<0)];rfl
  have nl:=B.nl;have b5:l<=1000:=by rw[hl];have:=bW0 N a;have h8:Fo.nlv N<=N.length:=List.length_filter_le _ _;omega
  have wt:D.length+(16+4*t.rem.length+r.wt)+40<=1000000:=hD;refine bW1 E F B ih (n1:=1) (lf:=1) (wf:=4*t.rem.length+2) hq u (by rw[es];exact h6) (HP hN) l1 H (by have:=Y.1;omega) ω (Q:=λT=>T=Pv t)
   (λK hK'=>ch5 E F B H J ω Y.1 b5 (by have:=Y.1;omega) K λh' H'=>hK' _ h' rfl ⟨λh=>bh h w1,λh=>by cases h⟩ w4 H') K λT1 s b n h' hQ V hb hbs hn H'=> ?_
  subst hQ;have:=hK _ h' (HT.join (f:= .lf t .nil) (g:= .lf t r) hb V hbs hn ⟨λh=>bh h w1,λh=>by cases h⟩ w2 w3 (by show _<=16+4*t.rem.length+0;omega) (by simp[Fo.lv]) (by simp[Fo.cnt]) (by simp[Fo.wt])) (by
   have e1:a+(Fo.lf t r).fl.length=a+1+r.fl.length:=by simp only[Fo.fl,gJ];omega
   have e2:l+(Fo.lf t r).lv=l+1+r.lv:=by simp only[Fo.lv];omega
   rw[e1,e2];exact H')
  exact this
 |nd t kd r b3 b4=>
  intro x h D a l q k p R K B H hq Z aC hN hl hD hK;rcases e:p.right.drop k with _|⟨s,ss⟩;rw[e] at aC;exact aC.elim;rw[e] at aC;obtain⟨⟨q',p',h1,h2,h3,W,-⟩,h6⟩:=aC;have u:k<p.right.length:=by
   rcases iO k p.right.length with h|h;exact h;rw[List.drop_eq_nil_iff.2 h] at e;cases e
  have es:p.right.drop (k+1)=ss:=HP e;have J:N[a]? =some t:=HK hN;have I:N.drop a=t::(kd.fl++(r.fl++R)):=by rw[hN];simp[Fo.fl]
  have O:N.drop (a+1)=kd.fl++(r.fl++R):=HP I;have b0:N.drop (a+(1+kd.fl.length))=r.fl++R:=by
   rw[←pK,←ud,O,List.drop_left]
  have l1:l+kd.lv=Fo.nlv (N.take (a+(1+kd.fl.length))):=by
   rw[←pK,take_add O,Fo.nlv_app,nY J,Fo.nlv_app,←hl,Fo.lv_eq W];show _=l+(List.filter _ [t]).length+_;rw[Fx,ot (by omega:¬t.prod<0)];rfl
  have la:a+(1+kd.fl.length)<=N.length:=by
   have h7:=congrArg List.length I;rw[sW,gJ,dy] at h7;have b1:=(eC.1 J).1;omega
  have wt:D.length+(16+kd.wt+r.wt)+40<=1000000:=hD;refine bW1 E F B b4 (n1:=1+kd.fl.length) (lf:=kd.lv) (wf:=kd.wt+2) hq u (by rw[es];exact h6) b0 l1 H ω la (Q:=λT=>(T=none↔(Fo.nd t kd .nil).lv=0)/\ DH T=(Fo.nd t kd .nil).cnt (Cv L)/\ DP A6 T/\ uT T+11<=(Fo.nd t kd .nil).wt)
   (λK hK'=>bV8 E F B H h1 h2 W b3 I hl ω K λT U h' hU e1 e2 e3 e4 H'=>hK' T h' ⟨e1.trans hU.n,?_,e3,?_⟩ (e1.trans hU.n) (by have:=hU.z;omega) (by rw[←pK];exact H')) K λT1 s b n h' hQ V hb hbs hn H'=> ?_
  show _=(if kd.lv=0 then 0 else if Cv L t.prod then 1 else 0)+kd.cnt (Cv L)+0;rw[e2,hU.g];by_cases hz:kd.lv=0;rw[aF (hU.n.2 hz),aF hz];omega;rw[aD λh=>hz (hU.n.1 h),aD hz];omega;have:=hU.z;show _<=16+kd.wt+0;omega;obtain⟨w1,w2,w3,w4⟩:=hQ;exact hK _ h' (HT.join (f:= .nd t kd .nil) (g:= .nd t kd r) hb V hbs hn w1 w2 w3 w4 (by simp[Fo.lv]) (by simp[Fo.cnt]) (by simp[Fo.wt])) (by
   have e1:a+(Fo.nd t kd r).fl.length=a+(1+kd.fl.length)+r.fl.length:=by simp only[Fo.fl,gJ,dy];omega
   have e2:l+(Fo.nd t kd r).lv=l+kd.lv+r.lv:=by simp only[Fo.lv];omega
   rw[e1,e2];exact H')
theorem ch7 (H:yx x h D 0 0) {t kd} (I:∃m,Fo.ok x.g [(false,m)] (.nd t kd .nil)) (u:N=(Fo.nd t kd .nil).fl) (O:D.length+kd.wt+50<=1000000) K
 (R:∀T h',(T=none↔kd.lv=0) ->DH T=(Fo.nd t kd .nil).cnt (Cv L) ->DP A6 T ->uT T<=kd.wt+2 ->yx x h' (D++yz D.length T) N.length kd.lv ->K (ι (A9 D.length T)) h'):du C 27 [.p x.o 0] h K:=by
 obtain⟨m,⟨q,p,h1,h2,-,J,-⟩,-⟩:=I;have e0:N.drop 0=t::(kd.fl++[]):=by rw[u];simp[Fo.fl]
 have e1:N.length=0+1+kd.fl.length:=by rw[u];simp[Fo.fl];omega
 refine bV8 E F B H h1 h2 J (ch6 E F kd) e0 rfl O K λT U h' hU k1 k2 k3 k4 H'=>R T h' (k1.trans hU.n) ?_ k3 (by have:=hU.z;omega) (by rw[e1];simpa using H');show _=(if kd.lv=0 then 0 else if Cv L t.prod then 1 else 0)+kd.cnt (Cv L)+0;rw[k2,hU.g];by_cases j:kd.lv=0;rw[aF (hU.n.2 j),aF j];omega;rw[aD λh=>j (hU.n.1 h),aD j];omega
end
section
variable {P:Program} {X:aR} {GL:T (List AV)} {ae:T au} {C:aK Prop}
def ch8 (E:Sem P X GL ae C) (F:A5 ae) {g} (G:oy g) {L} (rv:∀r∈L,eP g r=true) {N t kd m} (H:N=(Fo.nd t kd .nil).fl) (I:Fo.ok g [(false,m)] (.nd t kd .nil)) (R:N.length<=40) {h o go bb u} (hn:h.next=o+1+1) {Sp Ns Al Ke} (bk:kM L Sp Ns Al Ke) (hb:bb+6<=o)
 (c5:cG (h.oB.get (bb+5))=some [.m (bb+1),.m (bb+2),.m (bb+3),.m (bb+4)]) (m1:mG (h.oB.get (bb+1))=mX eJ sL Sp) (m2:mG (h.oB.get (bb+2))=mX eJ kK Ns) (m3:mG (h.oB.get (bb+3))=mX kK AV.b Al) (m4:mG (h.oB.get (bb+4))=mX kK AV.b Ke)
 (U:go<o) (O:cG (h.oB.get go)=some (uB (Fo.nlv N) u)) (Y:cG (h.oB.get o)=some (A8 .sn (.p (bb+5) 0) g (eR fG 4 true N) (.sl go 0 (Fo.nlv N) (some (Fo.nlv N)) 1) 0 0 (.m (o+1)))) (W:mG (h.oB.get (o+1))=mX kK id (Jb o)) (k)
 (V:∀T x h',x.o=o ->x.m0=o+1+1 ->x.ob0=h.oB ->DH T=(Fo.nd t kd .nil).cnt (Cv L) ->DP A6 T ->uT T<=1000 ->yx x h' (yz 0 T) N.length kd.lv ->k (ι (A9 0 T)) h'):du C 27 [.p o 0] h k:=by
 have J:((List.range (Fo.nlv N)).map u).length=Fo.nlv N:=by rw[kU,List.length_range]
 have Z:kd.wt<=24*40:=by
  have h1:=Fo.wt_le I;rw[←H] at h1;simp only[Fo.wt] at h1;omega
 have B:Ia ⟨o+1+1,o,h.oB,.p (bb+5) 0,g,eR fG 4 true N,.sl go 0 (Fo.nlv N) (some (Fo.nlv N)) 1,.m (o+1),λ_=>none⟩ L N ((List.range (Fo.nlv N)).map u):=
  ⟨G,rfl,⟨by rw[H];simp[Fo.fl],R⟩,⟨go,by rw[J],by show go<o+1+1;omega,by show go≠o;omega,by rw[O,Lu];rfl⟩,J,rv,⟨bb,Sp,Ns,Al,Ke,bk,rfl,by show bb+6<=o+1+1;omega,λj hj=>by show bb+j≠o;omega,c5,m1,m2,m3,m4⟩,⟨o+1,rfl,qI _,by show o+1≠o;omega,W⟩⟩
 exact ch7 E F B ⟨by show o<o+1+1;omega,by show o+1+1<=h.next;omega,⟨.sn,.inl ⟨rfl,rfl,rfl⟩,Y,λ_ _ e=>by cases e⟩,λ_ _ _=>rfl⟩ (D:=[]) ⟨m,I⟩ H (by show 0+kd.wt+50<=1000000;omega) k λT h' h1 h2 h3 h4 h5=>V T _ h' rfl rfl rfl h2 h3 ω h5
end
def ch9 {g b L} (h:jV g b L=0):b=true/\ iG g L=true:=by
 unfold jV at h;cases b;cases h;cases j:iG g L with
 |true=>exact⟨rfl,rfl⟩
 |false=>rw[j] at h;cases h
variable {P:Program} {X:aR} {GL:T (List AV)} {ae:T au}
variable (S:aT P X GL ae)
def cj0 {C:aK Prop} (E:Sem P X GL ae C) (A:dY P X GL) (D:eV ae) (FA:DT ae) (FC:gn ae) (FS:li ae) (F:A5 ae) (FE:fu ae) (I:Ib P X GL) (hg:GL=mU) {g} (G:oy g) {Z} (Y:iQ g Z) (pn:1<=g.pR.length)
 {c b} (Ic:oW P X GL g c b) (p5:b=true ->∃c':Nat,c'<8/\ c=(c')) {L nl} (hL:L.length<=1000) (rv:iG g L=true ->∀r∈L,eP g r=true) {N R t kd} (hf:N=(Fo.nd t kd .nil).fl) {m} (aC:Fo.ok g [(false,m)] (.nd t kd .nil)) (hN:N.length<=40) (hR:PG R) (h) (k)
 (j1:∀(e) h',e≠0 ->k (.tu [.sn,.i .i64 e]) h')
 (l6:∀(W:Dt) q h',iG g L=true ->W.fit A6 ->W.gs=(Fo.nd t kd .nil).cnt (Cv L) ->W.sz<=5000 ->h.next<=q ->q<h'.next ->cG (h'.oB.get q)=some ((W.po 0).flatMap yV) ->k (.tu [.sl q 0 W.sz none 5,.i .i64 0]) h'):
 du C 6 [aI g,.i .u64 c,eR uC 4 nl L,.ag (ky N R)] h k:=by
 have bq:=iW (g:=g);have s8:=bq;have ck:=λh k hk=>Uw (C:=C) S E A D FA FC FS FE hg G Y pn Ic (nl:=nl) hL h k hk;obtain⟨q,p,q9,j3,s0,w6,-⟩:=id aC.1;have hm:p.left=m:=by cases s0;rfl
 subst hm;have i6:∀t∈N,bH2 g t/\ t.rem.length<=2:=by rw[hf];exact ch3 G _ _ (λs hs h=>by rw[yC.1 hs] at h;cases h) aC
 have i8:∀r∈R,r∈DV:=λr hr=>by obtain⟨k,hk,rfl⟩:=hR.2 r hr;exact bG3 hk
 have h0:N[0]? =some t:=by rw[hf];rfl
 have hl:=(eC.1 h0).1;have j4:=(eC.1 j3).1;have e0:AM.sub (N.flatMap fG) 0 1=some [.i .i64 (q:Int)]:=by
  have:=cW Uo h0 (j:=0) (n:=1) ω;simpa[fG,q9] using this
 have z:∀h,nU h 4 0 (eR fG 4 true N)= .v (.dp (N.flatMap fG) 0) h:=λh=>(bG (i:=0) hl).trans (by rw[ue]);have e1:AM.sub (g.pR.flatMap aM) (q*13+1) 1=some [.i .i64 (p.left:Int)]:=by
  have:=cW kr j3 (j:=1) (n:=1) ω;simpa[aM] using this
 have q8:p.left<g.nT.length:=(G.p p (dI j3)).left;have q1:((g.pR.length:Int)<=(q:Int))=False:=av;simp only[ar] at bq s8;simp only[aI,ar] at ck;obtain⟨n0,v0,ob0⟩:=h;refine E.bS FE.f6 (Z3 @aI.eq_1 @ar.eq_1 @ky.eq_1 ?_);refine E.run (ck _ _ λbv h1 p3=> ?_);generalize p6:jV g b L=ce at*;by_cases w5:¬(ce=0);have i9:((ce:Int)=0)=False:=av;refine Z1 i9 ?_;exact j1 _ _ ω;have i9:ce=0:=by omega
 subst i9;obtain⟨rfl,vb⟩:=ch9 p6;obtain⟨c,hc,rfl⟩:=p5 rfl;obtain⟨⟨dS,dD⟩,BA⟩:=p3 rfl;obtain⟨n1,v1,aQ⟩:=h1;have u2:n0+2<=n1:=dS;dsimp only at dD;obtain⟨bb,p4⟩:∃bb,bb=n0+2+1:=⟨_,rfl⟩;have BA:bF8 g L bb ⟨n1,v1,aQ⟩ bv:=by rw[p4];exact BA
 obtain⟨Sp,Ns,Al,Ke,bk,rfl,n8,h4,i0,bk5,i1,i3⟩:=BA;have u1:bb+6<=n1:=n8;dsimp only at h4 i0 bk5 i1 i3;have d0:cG (aQ.get n0)=some (ar g):=by rw[dD n0 ω];simp only[ar];exact U0
 have d1:cG (aQ.get (n0+1))=some [eR fG 4 true N,eR jT 1 true R]:=by rw[dD _ ω];exact U0
 have D0:=d0;simp only[ar] at d0;have j8:=ec d0 d1;have ct:=λk hk=>cg8 (C:=C) S E A FC F FE hg G hc (λh=>bj0 S A D FA FC FE hg G Y pn Ic h) hN i6 i8 hR.1 q8 (h:=⟨n1,v1,aQ⟩) k hk;simp only[aI,ar,ky] at ct;refine Z3 j8 e0 e1 ?_;refine E.run (ct _ λe h2 p8 eG=> ?_);obtain⟨n2,v2,aJ⟩:=h2;have u3:n1<=n2:=p8;dsimp only at eG;have i4:cG (aJ.get n0)=some (ar g):=by rw[eG _ ω];exact D0
 have l2:cG (aJ.get (n0+1))=some [eR fG 4 true N,eR jT 1 true R]:=by rw[eG _ ω];exact d1
 have D0':=i4;simp only[ar] at i4;have j8:=ec i4 l2;by_cases he:¬(e=0);have j0:(e=0)=False:=dQ he;refine Z1 j0 ?_;exact j1 _ _ he;have p7:e=0:=by omega
 subst p7;have za:aY .add (ι (N.length:Int)) (ι (R.length:Int))=some (ι ((N.length+R.length:Nat):Int)):=oH (by have:=hR.1;omega);refine Z2 j8 za ?_;refine E.run (ch2 E F (by have:=hR.1;omega) _ _ λtv h3 p9 b7 m7=> ?_);obtain⟨n3,v3,cC⟩:=h3;have u4:n2<=n3:=p9;dsimp only at b7;obtain⟨r1,r2,r3,r4,r5⟩:=m7.nice;have d0:cG (cC.get n0)=some (ar g):=by rw[b7 _ ω];exact D0'
 have d1:cG (cC.get (n0+1))=some [eR fG 4 true N,eR jT 1 true R]:=by rw[b7 _ ω];exact l2
 have k5:∀j,j<n1 ->cC.get j=aQ.get j:=λj V=>(b7 j ω).trans (eG j V);refine Z1 d1 ?_;refine fj E.ok N.length (λi τ h=>n3<=h.next/\ (∀j,j<n2 ->h.oB.get j=cC.get j)/\ τ.get 1=some (.i .u64 (c:Int))/\ τ.get 4=some (.p n0 0)/\ τ.get 7=some (.p (n0+1) 0)/\ τ.get 10=some (.p (bb+5) 0)/\ τ.get 88=some (eR fG 4 true N)/\ τ.get 89=some (ι (N.length:Int))/\ τ.get 90=some (ι (i:Int))/\∃zc tv TL lv,τ.get 13=some (ι ((zc:Nat):Int))/\ zc<=42+2*i/\ τ.get 14=some tv/\ τ.get 15=some lv/\ (∀s∈TL,s∈DV)/\ TL.length<=2+3*i/\ P2 n2 h tv TL lv ((N.take i).filter λt=>decide (t.prod<0))) ?_ ?_ _ _ ⟨bB _,λ_ _=>rfl,?_,?_,?_,?_,?_,?_,?_,N.length+R.length,tv,R,.sn,?_,?_,?_,?_,i8,?_,⟨?_,.inl ⟨rfl,rfl,rfl⟩,λ_ _ _ _ _ _ e=>by cases e⟩⟩;rintro i τ ⟨n4,v4,b6⟩ hi ⟨j2,U,t1,t4,t7,t10,m9,k9,l0,zc,tv,TL,lv,k6,hz,k7,k8,f9,p2,H2⟩ ih;dsimp only at j2 U;have ht:N[i]? =some N[i]:=oc hi;obtain⟨l8,g0⟩:=i6 _ (List.getElem_mem hi);have i5:((N.take (i+1)).filter λt=>decide (t.prod<0))=((N.take i).filter λt=>decide (t.prod<0))++(if N[i].prod<0 then [N[i]] else []):=by
  rw[List.take_succ,ht,List.filter_append];congr 1;by_cases hq:N[i].prod<0;rw[aF hq];simp[hq];rw[aD hq];simp[hq]
 have w3:((N.take i).filter λt=>decide (t.prod<0)).length<=40:=fJ (List.length_filter_le _ _) (by rw[jm];omega);generalize N[i]=u at ht l8 g0 i5;obtain⟨pr,tk,tx,rm⟩:=u;have es:AM.sub (N.flatMap fG) (i*4) 4=some (fG ⟨pr,tk,tx,rm⟩):=cW Uo ht (j:=0) (n:=4) ω;have H3:=H2.add (cs:=fG ⟨pr,tk,tx,rm⟩) (h':=⟨n4+1,v4+1,(b6.put n4 (.cells v4 [.i .i64 0,.i .i64 0,.s [],.sn])).put n4 (.cells (v4+1) (fG ⟨pr,tk,tx,rm⟩))⟩) (by show n2<=n4;omega) rfl (λj V=>by
  have w:(j=n4)=False:=dQ (by have h:j<n4:=V;omega);exact U1 w) U0
 obtain⟨s9,h5,g7,q0,H5,o1⟩:=H3.pushR (by show n2<=n4+1;omega) (R:=rm) (by dsimp only at g0;omega);obtain⟨J,v5,b0⟩:=h5;have u5:n4+1<=J:=q0;have g5:∀j,j<n2 ->b0.get j=b6.get j:=λj V=>(o1 j V).trans (by
  have w:(j=n4)=False:=av;exact U0)
 have c5:cG (b0.get n4)=some (fG ⟨pr,tk,tx,rm⟩):=H5.k;obtain⟨a1,a2,a3,a4,a5⟩:=H2.t.nice;obtain⟨b1,b2,b3,b4,b5⟩:=H2.l.nice;obtain⟨f1,f2,f3,f4,f5⟩:=H5.t.nice;have zb:aY .add (ι (zc:Int)) (ι (rm.length:Int))=some (ι ((zc+rm.length:Nat):Int)):=oH (by dsimp only at g0;omega);dsimp only at g0;have ts:=ec t1 (ec t4 (ec t7 (ec t10 (ec k6 (ec k7 (ec k8 (ec m9 (ec k9 l0))))))));simp only[fG] at es g7 c5;rcases l8 with ⟨⟨hp,-,m4⟩,hr⟩|⟨qi,y,j4,hy,m1⟩;dsimp only at hp m4 hr;subst hp;have H5b:=H5.put (h':=⟨J+1,v5,b0.put J (.cells v5 (fG ⟨-1,tk,tx,rm⟩))⟩) (by show n2<=J;omega) rfl λj V=>by
  have w:(j=J)=False:=dQ (by have h:j<J:=V;omega);exact U1 w
 obtain⟨h6,g8,q5,H6,o3⟩:=H5b.pushL (by show n2<=J+1;omega) (o2:=J) (t:=⟨-1,tk,tx,rm⟩) (by exact U0) ω;obtain⟨n6,v6,k0⟩:=h6;have u6:n6=J+1+1:=q5;have c6:cG (k0.get n4)=some (fG ⟨-1,tk,tx,rm⟩):=H6.k;have H6b:=H6.put (h':=⟨n6+1,v6,k0.put n6 (.cells v6 [.s tx])⟩) (by show n2<=n6;omega) rfl λj V=>by
  have w:(j=n6)=False:=dQ (by have h:j<n6:=V;omega);exact U1 w
 obtain⟨h7,l1,q6,H7,o4⟩:=H6b.pushT (by show n2<=n6+1;omega) (o2:=n6) (s:=tx) (by exact U0) (by rw[dy];omega);obtain⟨n7,v7,k4⟩:=h7;have u8:n7=n6+1+1:=q6;have l3:∀j,j<n2 ->k4.get j=b6.get j:=λj V=>by
  refine(o4 j V).trans (Eq.trans ?_ ((o3 j V).trans (Eq.trans ?_ (g5 j V))));exact U0;exact U0
 dsimp only at g8 l1;simp only[fG] at g8 c6;refine Z9 ts es zb g7 c5 g8 c6 l1 @tM ?_;refine ih _ _ ⟨by show n3<=n7;omega,λj V=>(l3 j V).trans (U j V),?_,?_,?_,?_,?_,?_,?_,zc+rm.length,.sl (n6+1) 0 ((TL++rm).length+1) none 1,TL++rm++[tx],.sl (J+1) 0 (((N.take i).filter λt=>decide (t.prod<0)).length+1) none 4,?_,by omega,?_,?_,?_,?_,?_⟩;(iterate 10 exact U1 ts);intro s hs;rcases fO.1 hs with hs|hs;exact(fO.1 hs).elim (f9 s) (hr s);rw[yC.1 hs];exact m4;rw[dy,dy,lF];omega;rw[i5,aF (by show(-1:Int)<0;decide)];exact H7.toP2;dsimp only at j4 m1;subst j4;refine Z6 ts es zb g7 c5 @tM ?_;refine ih _ _ ⟨by show n3<=J;omega,λj V=>(g5 j V).trans (U j V),?_,?_,?_,?_,?_,?_,?_,zc+rm.length,s9,TL++rm,lv,?_,by omega,?_,?_,?_,?_,?_⟩;(iterate 10 exact U1 ts);intro s hs;rcases fO.1 hs with hs|hs;exact f9 s hs;rw[m1] at hs;cases hs;rw[dy];omega;rw[i5,aD (by show¬((qi:Int)<0);omega),lG];exact H5.toP2;rintro τ ⟨n4,v4,b6⟩ ⟨j2,U,t1,t4,t7,t10,m9,k9,l0,zc,tv,TL,lv,k6,hz,k7,k8,f9,p2,H2⟩;dsimp only at j2 U;rw[rL] at H2;have d0:cG (b6.get n0)=some (ar g):=by rw[U _ ω];exact d0
 have d1:cG (b6.get (n0+1))=some [eR fG 4 true N,eR jT 1 true R]:=by rw[U _ ω];exact d1
 have D0:=d0;simp only[ar] at d0;obtain⟨a1,a2,a3,a4,a5⟩:=H2.t.nice;obtain⟨b1,b2,b3,b4,b5⟩:=H2.l.nice;have p0:∀t∈N.filter (λt=>decide (t.prod<0)),av3 t:=λt ht=>by
  obtain⟨h1,h2⟩:=List.mem_filter.1 ht;rcases(i6 t h1).1 with h|⟨pi,x,h,-⟩;exact h.1;rw[h] at h2;simp at h2;omega
 have o8:(N.filter (λt=>decide (t.prod<0))).length<=40:=fJ (List.length_filter_le _ _) hN;have gr:=λk h0 h1=>cg7 (C:=C) S E A FC F FE hg G hc (λh=>bF7 S A D FA FC hg G Y pn h) (λh=>Uv S A FC FE hg G Ic h) o8 p0 (h:=⟨n4,v4,b6⟩) (lv:=lv) (by
  rcases H2.l with h|⟨q,q1,q2,q3⟩;exact .inl h;exact .inr ⟨q,q1,oi _,q3⟩) k h0 h1
 simp only[aI,ar] at gr;have ts:=ec t1 (ec t4 (ec t7 (ec t10 (ec k6 (ec k7 k8)))));refine Z4 ts k9 l0 d0 ?_;refine E.run (gr _ (λe h5 he=> ?_) λgo u h5 g1 g2 g3 g4=> ?_);have j0:(e=0)=False:=dQ he;refine Z1 j0 ?_;exact j1 _ _ he;obtain⟨J,v5,b0⟩:=h5;have u9:n4<=go:=g1;have l4:go<J:=g2;dsimp only at g3 g4;obtain⟨w9,o0⟩:=(H2.t.up (h':=⟨J,v5,b0⟩) (by show n4<=J;omega) λj _ V=>g4 j V).deepS;have cf:=bT8 S F (B:=λ_=>false) (L:=TL) ω o0 (caps:=[]) (dcaps:=[]) (fid:=20) (λn hn=>by rfl) (λn hn=>by rfl) λa ha h=>ch1 S F I (xI _ (f9 a ha)) h;have af:(TL.any λ_=>false)=false:=by rw[P6];intro _ _ h;cases h
 rw[af] at cf;refine Z1 ts ?_;refine E.cN cf ?_;have d0:cG (b0.get n0)=some (ar g):=by rw[g4 _ ω];exact D0
 have d1:cG (b0.get (n0+1))=some [eR fG 4 true N,eR jT 1 true R]:=by rw[g4 _ ω];exact d1
 have D0:=d0;simp only[ar] at d0;have s1:∀bQ O (ob':T bC) (τ:T AV),mG (T.get ob' (J+1))=some ([],0) ->az C τ (.t 138)= .m (J+1) ->az C τ (.t 140)= .f 22 [.p J 0] [] ->step (az C τ) ⟨bQ,O,ob'⟩ (.mupd (.lf .i) (.t 138) (.c (ι 0)) (.t 140))= .v .un ⟨bQ,O+1,ob'.put (J+1) (.map (O+1) (di kK id 0 (DW J 1)) 1)⟩:=λbQ O ob' τ q1 q2 q4=>Qw 0 22 rfl ⟨rfl,rfl⟩ q1 q2 rfl q4;have s2:∀bQ O (ob':T bC) (τ:T AV),mG (T.get ob' (J+1))=some (di kK id 0 (DW J 1),1) ->az C τ (.t 138)= .m (J+1) ->az C τ (.t 142)= .f 23 [.p J 0] [] ->step (az C τ) ⟨bQ,O,ob'⟩ (.mupd (.lf .i) (.t 138) (.c (ι 1)) (.t 142))= .v .un ⟨bQ,O+1,ob'.put (J+1) (.map (O+1) (di kK id 0 (DW J 2)) 2)⟩:=λbQ O ob' τ q1 q2 q4=>Qw 1 23 rfl ⟨rfl,rfl⟩ q1 q2 rfl q4;have s3:∀bQ O (ob':T bC) (τ:T AV),mG (T.get ob' (J+1))=some (di kK id 0 (DW J 2),2) ->az C τ (.t 138)= .m (J+1) ->az C τ (.t 144)= .f 24 [.p J 0] [] ->step (az C τ) ⟨bQ,O,ob'⟩ (.mupd (.lf .i) (.t 138) (.c (ι 2)) (.t 144))= .v .un ⟨bQ,O+1,ob'.put (J+1) (.map (O+1) (di kK id 0 (DW J 3)) 3)⟩:=λbQ O ob' τ q1 q2 q4=>Qw 2 24 rfl ⟨rfl,rfl⟩ q1 q2 rfl q4;have s4:∀bQ O (ob':T bC) (τ:T AV),mG (T.get ob' (J+1))=some (di kK id 0 (DW J 3),3) ->az C τ (.t 138)= .m (J+1) ->az C τ (.t 146)= .f 25 [.p J 0] [] ->step (az C τ) ⟨bQ,O,ob'⟩ (.mupd (.lf .i) (.t 138) (.c (ι 3)) (.t 146))= .v .un ⟨bQ,O+1,ob'.put (J+1) (.map (O+1) (di kK id 0 (DW J 4)) 4)⟩:=λbQ O ob' τ q1 q2 q4=>Qw 3 25 rfl ⟨rfl,rfl⟩ q1 q2 rfl q4;have s5:∀bQ O (ob':T bC) (τ:T AV),mG (T.get ob' (J+1))=some (di kK id 0 (DW J 4),4) ->az C τ (.t 138)= .m (J+1) ->az C τ (.t 148)= .f 26 [.p J 0] [] ->step (az C τ) ⟨bQ,O,ob'⟩ (.mupd (.lf .i) (.t 138) (.c (ι 4)) (.t 148))= .v .un ⟨bQ,O+1,ob'.put (J+1) (.map (O+1) (di kK id 0 (DW J 5)) 5)⟩:=λbQ O ob' τ q1 q2 q4=>Qw 4 26 rfl ⟨rfl,rfl⟩ q1 q2 rfl q4;have s7:∀bQ O (ob':T bC) (τ:T AV),mG (T.get ob' (J+1))=some (di kK id 0 (DW J 5),5) ->az C τ (.t 138)= .m (J+1) ->az C τ (.t 150)= .f 26 [.p J 0] [] ->step (az C τ) ⟨bQ,O,ob'⟩ (.mupd (.lf .i) (.t 138) (.c (ι 5)) (.t 150))= .v .un ⟨bQ,O+1,ob'.put (J+1) (.map (O+1) (di kK id 0 (DW J 6)) 6)⟩:=λbQ O ob' τ q1 q2 q4=>Qw 5 26 rfl ⟨rfl,rfl⟩ q1 q2 rfl q4;refine qX ts d0 d1 s1 s2 s3 s4 s5 s7 @oI ?_;have m6:∀j,j<n1 ->b0.get j=aQ.get j:=λj V=>(g4 j (by show j<n4;omega)).trans ((U j ω).trans (k5 j V));have wj:∀j,j<J ->(j=J)=False/\ (j=J+1)=False:=λj V=>⟨av,av⟩;have o5:cG (b0.get go)=some (uB (Fo.nlv N) u):=g3;have q7:Fo.nlv N=(N.filter (λt=>decide (t.prod<0))).length:=rfl;rw[←m6 _ ω] at h4 i0 bk5 i1 i3;refine E.run (ch8 E F G (rv vb) hf aC hN (o:=J) (go:=go) (bb:=bb) (u:=u) rfl bk ω ?_ ?_ ?_ ?_ ?_ l4 ?_ ?_ ?_ _ λT1 x h6 ho6 hm6 hb6 k1 k2 k3 H6=> ?_);exact U2 (wj (bb+5) ω) h4;exact U2 (wj (bb+1) ω) i0;exact U2 (wj (bb+2) ω) bk5;exact U2 (wj (bb+3) ω) i1;exact U2 (wj (bb+4) ω) i3;exact U2 (wj go l4) o5;simp only[A8,ar,gw,gx];exact U1 q7;show mG _=some (di kK id 0 (DW J 6),6);exact U1 @oI;have l5:cG (h6.oB.get (n0+1))=some [eR fG 4 true N,eR jT 1 true R]:=by
  rw[H6.old (n0+1) (by show n0+1<x.m0;omega) (by show n0+1≠x.o;omega),hb6];exact U2 (wj (n0+1) ω) d1
 obtain⟨xm,xo,d8,d3,xg,d6,d4,d5,f0⟩:=x;dsimp only at ho6 hm6;subst ho6;obtain⟨n6,v6,k0⟩:=h6;dsimp only at l5;refine Z2 ts l5 ?_;refine fj E.ok R.length (λi τ h=>τ.get 19=some (.p xo 0)/\ τ.get 157=some (eR jT 1 true R)/\ τ.get 158=some (ι (R.length:Int))/\ τ.get 159=some (ι (i:Int))/\∃T2,τ.get 20=some (ι (A9 0 T2))/\ DP A6 T2/\ DH T2=(Fo.nd t kd .nil).cnt (Cv L)/\ uT T2<=1000+8*i/\ yx ⟨xm,xo,d8,d3,xg,d6,d4,d5,f0⟩ h (yz 0 T2) N.length kd.lv) ?_ ?_ _ _ ⟨?_,?_,?_,?_,T1,?_,k2,k1,k3,H6⟩;rintro i τ h hi ⟨d2,g6,b8,c7,T2,t20,q2,q3,q4,H⟩ ih;have ht:R[i]? =some R[i]:=oc hi;have hr:=i8 _ (List.getElem_mem hi);generalize R[i]=r at ht hr;have es:AM.sub (R.flatMap jT) i 1=some [.s r]:=by have:=cW Qv ht (j:=0) (n:=1) ω;rwa [vH] at this
 have i2:i<2:=by have:=hR.1;omega
 have tx:=ec d2 (ec g6 (ec b8 (ec c7 t20)));have wr:=λ{h:AH} {T3:Option Dt} (hz:uT T3<=1040) (K:AV ->AH ->Prop) (w4:yx ⟨xm,xo,d8,d3,xg,d6,d4,d5,f0⟩ h (yz 0 T3) N.length kd.lv)=>Qt E F w4 (by rw[HU];omega) (s:=r) K;have jr:=λ{h:AH} {A B:Option Dt} (K:AV ->AH ->Prop) (w1:uT A+uT B<=1040) (w2:yx ⟨xm,xo,d8,d3,xg,d6,d4,d5,f0⟩ h (yz 0 A++yz (uT A) B) N.length kd.lv)=>I3 E F (D:=[]) (i:=0) (A:=A) (B:=B) (x:=⟨xm,xo,d8,d3,xg,d6,d4,d5,f0⟩) (h:=h) (a:=N.length) (l:=kd.lv) (by simpa using w2) rfl ω K;have hw:=λ{h:AH} {T3:Option Dt} (hz:uT T3<=1040) (K:AV ->AH ->Prop) (w4:yx ⟨xm,xo,d8,d3,xg,d6,d4,d5,f0⟩ h (yz 0 T3) N.length kd.lv)=>an5 E F (n:=1) w4 (by rw[HU];omega) K;simp only[HU] at wr hw;simp only[gB,gx] at jr;have m5:DP A6 (some (.tx r)):=xI _ hr;have sr:uT (some (.tx r))=1:=rfl;have gr:DH (some (.tx r))=0:=rfl;have o6:DP A6 (DL 1):=trivial;have o7:DH (DL 1)=0:=rfl;have w0:uT (DL 1)=1:=rfl;rcases T2 with _|T2;refine Z2 tx es ?_;refine E.run (wr (T3:=none) (by decide) _ H λh8 H8=> ?_);refine Z1 tx ?_;refine E.run (jr (A:=none) (B:=some (.tx r)) _ (by rw[sr];decide) H8 λh9 H9=> ?_);refine Z1 tx ?_;refine ih _ _ ⟨?_,?_,?_,?_,jn none (some (.tx r)),?_,JD q2 m5,by rw[JC,gr,q3];rfl,by have:=HH none (some (.tx r));have e:uT none=0:=rfl;omega,H9⟩;(iterate 5 exact U1 tx);have z2:=HH (some T2) (DL 1);have z3:=HH (jn (some T2) (DL 1)) (some (.tx r));refine Z2 tx es ?_;refine E.run (hw (T3:=some T2) ω _ H λh7 H7=> ?_);refine Z1 tx ?_;refine E.run (jr (A:=some T2) (B:=DL 1) _ ω H7 λh7 H7=> ?_);refine Z1 tx ?_;refine E.run (wr (T3:=jn (some T2) (DL 1)) ω _ H7 λh8 H8=> ?_);refine Z1 tx ?_;refine E.run (jr (A:=jn (some T2) (DL 1)) (B:=some (.tx r)) _ ω H8 λh9 H9=> ?_);refine Z1 tx ?_;refine ih _ _ ⟨?_,?_,?_,?_,jn (jn (some T2) (DL 1)) (some (.tx r)),?_,JD (JD q2 o6) m5,by rw[JC,JC,gr,o7,q3];rfl,by omega,H9⟩;(iterate 5 exact U1 tx);rintro τ h ⟨d2,g6,b8,c7,T2,t20,q2,q3,q4,H⟩;have r2:=hR.1;rcases T2 with _|T2;refine Z4 d2 b8 c7 t20 ?_;refine E.run (Qt E F (D:=[]) H (by decide) (s:=[]) _ λh8 H8=> ?_);obtain⟨lo,nx,⟨dv,hd,ho,-⟩,old⟩:=H8;obtain⟨n7,v7,k4⟩:=h8;dsimp only at ho nx lo;obtain⟨y1,y2,y3,y4,y5⟩:=hd.nice;simp only[A8,ar,gw,gx] at ho;refine Z2 d2 ho ?_;rcases hd with ⟨z0,-,-⟩|⟨qq,rfl,z1,z2,z3,-⟩;have e1:=(Dt.tx []).sz_pos;have e:=(Dt.tx []).po_len 0;have t0:((Dt.tx []).po 0).length=0:=z0;omega;have e:(yz 0 (some (Dt.tx []))).length=(Dt.tx []).sz:=(Dt.tx []).po_len 0;show k (.tu [.sl qq 0 (yz 0 (some (Dt.tx []))).length none 5,.i .i64 0]) _;rw[e];have u0:xm<=qq:=z1;exact l6 (Dt.tx []) qq _ vb (FI _ (by simp)) q3 (by decide) (by show n0<=qq;omega) z2 z3;have x0:T2.sz<=1000+8*R.length:=q4;obtain⟨lo,nx,⟨dv,hd,ho,-⟩,old⟩:=H;obtain⟨n7,v7,k4⟩:=h;dsimp only at ho nx lo;obtain⟨y1,y2,y3,y4,y5⟩:=hd.nice;simp only[A8,ar,gw,gx] at ho;refine Z5 d2 b8 c7 t20 ho ?_;rcases hd with ⟨z0,-,-⟩|⟨qq,rfl,z1,z2,z3,-⟩;have e1:=(T2).sz_pos;have e:=(T2).po_len 0;have t0:((T2).po 0).length=0:=z0;omega;have e:(yz 0 (some (T2))).length=(T2).sz:=(T2).po_len 0;rw[e];have u0:xm<=qq:=z1;exact l6 (T2) qq _ vb q2 q3 ω (by show n0<=qq;omega) z2 z3;(iterate 13 exact U0);have:=hR.1;omega;exact U0;exact U0;have:=hR.1;omega;exact m7
def bW2:∀L:List Dn,kI.flatL 0 (L.flatMap yV)=true
 |[]=>rfl
 |d::L=>bW2 L
def cj1 {C:aK Prop} (E:Sem P X GL ae C) (A:dY P X GL) (D:eV ae) (FA:DT ae) (FC:gn ae) (FS:li ae) (F:A5 ae) (FE:fu ae) (I:Ib P X GL) (hg:GL=mU) {g} (G:oy g) {Z} (Y:iQ g Z) (pn:1<=g.pR.length)
 {c:Nat} (hc:c<8) (Ic:oW P X GL g (c) true) {L} (hL:L.length<=12) (hV:iG g L=true) {N R t kd} (hf:N=(Fo.nd t kd .nil).fl) {m} (U:Fo.ok g [(false,m)] (.nd t kd .nil)) (V:N.length<=40) (hR:PG R) {args n} (ha:bJ n h args=some [aI g,.i .u64 (c),eR uC 4 true L,.ag (ky N R)]) (k)
 (k0:∀e:Int,e≠0 ->k (.tu [.sn,.i .i64 e]) h)
 (k1:∀W:Dt,W.fit A6 ->W.gs=(Fo.nd t kd .nil).cnt (Cv L) ->W.sz<=5000 ->k (.tu [eR yV 5 true (W.po 0),.i .i64 0]) h):hM C 6 args h k:=by
 obtain⟨l,h1,h2⟩:=bX9 S ha (Q:=λx h1=>(∃e:Int,e≠0/\ x= .tu [.sn,.i .i64 e])∨∃(W:Dt) (q:Nat),W.fit A6/\ W.gs=(Fo.nd t kd .nil).cnt (Cv L)/\ W.sz<=5000/\ cG (h1.oB.get q)=some ((W.po 0).flatMap yV)/\ x= .tu [.sl q 0 W.sz none 5,.i .i64 0])
  (K:=λy=>(∃e:Int,e≠0/\ y= .tu [.sn,.i .i64 e])∨∃W:Dt,W.fit A6/\ W.gs=(Fo.nd t kd .nil).cnt (Cv L)/\ W.sz<=5000/\ y= .tu [eR yV 5 true (W.po 0),.i .i64 0])
  (cj0 S aj8 A D FA FC FS F FE I hg G Y pn Ic (λ_=>⟨c,hc,rfl⟩) ω (λh=>bG6 h) hf U V hR h0 _ (λe h' j=> .inl ⟨e,j,rfl⟩) λW q h' _ u H J _ _ hc=> .inr ⟨W,q,u,H,J,hc,rfl⟩)
  (λx h1 hq=>by
   rcases hq with ⟨e,j,rfl⟩|⟨W,q,u,H,J,hc,rfl⟩;exact⟨_,.inl ⟨e,j,rfl⟩,.sn,.sn,e,rfl,.inl ⟨rfl,rfl⟩,rfl⟩;exact⟨_,.inr ⟨W,u,H,J,rfl⟩,.sl q 0 W.sz none 5,eR yV 5 true (W.po 0),0,rfl,.inr ⟨q,W.sz,5,_,rfl,hc,bW2 _,by
    have e:=W.po_len 0;rw[BL (λh=>by rw[h] at e;have:=W.sz_pos;simp at e;omega),e]⟩,rfl⟩)
 refine E.conL h2 λp hp=> ?_;obtain⟨hk,j⟩:=h1 p hp;rw[j];rcases hk with ⟨e,j,O⟩|⟨W,u,H,J,O⟩;rw[O];exact k0 e j;rw[O];exact k1 W u H J
def cj2 (R:eL ae) (A:dY P X GL) (HD:eV ae) (HA:DT ae) (HC:gn ae) (HS:li ae) (HG:jf ae) (HM:hZ ae) (F:fu ae) (FN:A5 ae) (I:Ib P X GL) (hg:GL=mU) (KB:xi P X GL ae) (M:tZ P X GL ae) (b1:bg P X GL ae 4 [] (.b true)) {i} (ok:i.OK):bg P X GL ae 3 [.ag (m8 i)] (.b true):=by
 refine bg.intro λC E=> ?_;have sc:=λh=>dR S b1 (n:=1) (by rfl) h;have mr:=λh k h0 h1=>bg8 (C:=C) S R A HG HM HS KB E F M ok h k h0 h1;obtain⟨U,b3,gp⟩:=Kw ok.i.x;obtain⟨c8,b0⟩:=bS7 U i.i.cfg;have I1:oW P X GL (fU i.i.x) (Ef (fU i.i.x) i.i.cfg:Int) true:=λh=>by have:=Uu S A F U c8 h;rw[b0] at this;exact this
 generalize Ef (fU i.i.x) i.i.cfg=c at*;generalize fU i.i.x=g at*;have b5:nice 64 (.ag (m8 i))=true:=by
  rw[qe];simp only[m8,rx,gI,gw,gx,Bg,iq,j9,A4 pH,A4 E0,A4 E1,A7]
 have bq:=iW (g:=g);simp only[m8,rx,gI,gw,gx] at b5 mr;simp only[ar] at bq mr;have f3:ae.get 3=some Fj:=by rw[←bj7];exact FN.f3
 rw[yN E.ok (E.get f3)];refine Z3 @m8.eq_1 @rx.eq_1 @gI.eq_1 ?_;refine E.cN (sc _) (Z0 ?_);refine E.run (mr _ _ (λov rv h' ⟨b6,b7,b2⟩ ⟨cr1,cr2,cr3⟩=> ?_) λN R' ov rv RL v h' hN hW TA hRL hV hRu low hn old=> ?_);obtain⟨n1,v1,aQ⟩:=h';refine Z2 b2 cr3 ?_;exact⟨1,rfl⟩;obtain⟨n1,v1,aQ⟩:=h';have b8:1<=n1:=hn;dsimp only at old;obtain⟨⟨m,f,Z,hf⟩,hR⟩:=hW;obtain⟨t,kd,rfl⟩:∃t kd,f= .nd t kd .nil:=by
  cases f with
  |nil=>exact Z.elim
  |lf t r=>have e:false=true:=Z.1.2.2.1;cases e
  |nd t kd r=>
   have h2:=Z.2;cases r with
   |nil=>exact⟨t,kd,rfl⟩
   |lf _ _=>exact h2.elim
   |nd _ _ _=>exact h2.elim
 obtain⟨ro,rr⟩:=ec TA.o TA.r;have co:cellsOf ov=[ov]/\ cellsO ov=some [ov]/\ ew ov=true/\ nice 63 ov=true:=by rcases ro with ⟨-,rfl⟩|⟨oo,rfl⟩<;>exact⟨rfl,rfl,rfl,rfl⟩
 have cr:cellsOf rv=[rv]/\ cellsO rv=some [rv]/\ ew rv=true/\ nice 63 rv=true:=by rcases rr with ⟨-,rfl⟩|⟨oo,rfl⟩<;>exact⟨rfl,rfl,rfl,rfl⟩
 have key:∀ver u,(∀j,j<n1 ->T.get u j=aQ.get j) ->bJ 10 ⟨n1+1+1,ver,u⟩ [aI g,.i .u64 (c:Int),v,.ag [ov,rv]]=some [aI g,.i .u64 (c:Int),eR uC 4 true RL,.ag (ky N R')]/\ mq 1 ⟨n1+1+1,ver,u⟩ ov rv N R'/\ rq ⟨n1+1+1,ver,u⟩ RL v:=λver u ho=>by
  have dv:deep 10 ⟨n1+1+1,ver,u⟩ v=some (eR uC 4 true RL):=by
   rcases hRu with ⟨rfl,rfl⟩|⟨o,n,H,rfl,Y,V⟩;rfl;have O:o<n1:=Y;rw[gA (n:=9) (l:=RL.flatMap uC) (l':=RL.flatMap uC) (by rw[ho o O];exact V) (qZ BB RL),sM (λe=>by rw[e] at H;cases H),H]
  have dt:=mq.deep TA (h':=⟨n1+1+1,ver,u⟩) λj v l _ hj hc=>⟨v,(ho j hj).trans hc⟩;refine⟨by rw[aL,aL,aL,aL,bZ,kq (n:=7),dH,dv,dt],TA.mono (by show n1<=n1+1+1;omega) λj _ hj=>ho j hj,?_⟩;rcases hRu with h|⟨o,n,H,e,Y,V⟩;exact .inl h;have O:o<n1:=Y;exact .inr ⟨o,n,H,e,by show o<n1+1+1;omega,by rw[ho o O];exact V⟩
 have J:∀(o1 o2 o3 o4:bC) j,j<n1 ->((((aQ.put n1 o1).put (n1+1) o2).put n1 o3).put (n1+1) o4).get j=aQ.get j:=λo1 o2 o3 o4 j hj=>by
  have w1:(j=n1)=False:=av;have w2:(j=n1+1)=False:=av;exact U0
 have dc:=λh args n ha k k0 k1=>cj1 (C:=C) S E A HD HA HC HS FN F I hg U b3 gp c8 I1 hRL hV hf.symm Z hN hR (h:=h) (args:=args) (n:=n) ha k k0 k1;simp only[aI,ar] at dc key;refine Z2 co cr ?_;refine dc _ _ 10 (key _ _ (J _ _ _ _)).1 _ (λe he=> ?_) λW w1 w2 w3=> ?_;have b4:(e=0)=False:=dQ he;refine Z1 b4 ?_;exact⟨1,rfl⟩;have c6:nice 64 (eR yV 5 true (W.po 0))=true:=A4 bY0;refine Z0 ?_;refine ce8 S E FN I U hf.symm Z hN hRL hV w1 w2 w3 (n1:=n1) (by show n1+1<n1+1+1;omega) ?_ ?_ (key _ _ (J _ _ _ _)).2.1 (key _ _ (J _ _ _ _)).2.2 ?_ ?_ ?_ ?_ ?_;simp only[ar];(iterate 7 exact U0)
end
end AM
