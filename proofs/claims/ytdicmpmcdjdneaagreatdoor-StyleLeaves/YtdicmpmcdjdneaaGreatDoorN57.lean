import Derived.Test.YtdicmpmcdjdneaaGreatDoorN56
set_option linter.all false
set_option maxHeartbeats 16000000
namespace AM
open Dg Go
noncomputable section
def QV (s p:List Nat):Bool:=decide (p.length<=s.length)&&decide (s.take p.length=p)
def El (i:Nat) (s:List Nat):Nat:=if i=0∨i=9∨i=10 then HQ (DN i) (DN i).bF s else if QV s (jQ i) then (jQ i).length else 0
def ce9 {ev h x b s} {k:Nat} (h1:ev x= .s s) (h2:ev b= .i .i64 (k)) (H:k<=s.length):step ev h (.slcs x none (some b))= .v (.s (s.take k)) h:=by
 have j:ff (ev b)=some k:=by rw[h2];rfl
 have e:d7 (len s) (len s) (nO ev none) (nO ev (some b)) none=some (0,k,len s):=by
  rw[uO,uP,j];show(bif Nat.ble (len s) (len s)&&Nat.ble k (len s)&&Nat.ble 0 k then some (0,k,len s) else none)=_;have I:Nat.ble (len s) (len s)=true:=by rw[wX];simp
  have J:Nat.ble k (len s)=true:=by rw[wX,kZ];simpa using H
  have O:Nat.ble 0 k=true:=by rw[wX];simp
  rw[I,J,O];rfl
 show(match ev x with
  | .s s=>(match d7 (len s) (len s) (nO ev none) (nO ev (some b)) none with
   |some (l,r,_)=>(match sub s l (r-l) with|some t=>da.v (.s t) h|none=> .bad)
   |none=> .bad)
  |_=> .bad)=_
 rw[h1];dsimp only;rw[e];have e2:sub s 0 (k-0)=some (s.take k):=by rw[nH,aF ω];simp
 dsimp only;rw[e2]
section
variable {P:Program} {X:aR} {GL:T (List AV)} {ae:T au} (S:aT P X GL ae) (FC:bz8 ae) (F:bz8 ae)
include S F
theorem cf0 s p h:bP P X GL 200 [.s s,.s p] h (.b (QV s p)) h:=by
 refine dR S (bg.intro λC E=> ?_) (n:=9) (by simp only[aL,bZ,oK]) h;refine E.bS (F.f 200) (Y0 ?_);refine E.run ?_;rw[E.cB (F.f 313)];by_cases H:p.length<=s.length;have j:((p.length:Int)<=(s.length:Int))=True:=cJ;have I:∀(τ:T AV) h,az C τ (.t 11)= .s s ->az C τ (.t 13)= .i .i64 (p.length:Int) ->step (az C τ) h (.slcs (.t 11) none (some (.t 13)))= .v (.s (s.take p.length)) h:=λτ h h1 h2=>ce9 h1 h2 H;refine Z3 j I @aP0 ?_;exact⟨1,by unfold QV;rw[zG H];rfl⟩;have j:((p.length:Int)<=(s.length:Int))=False:=cE;refine Z1 j ?_;exact⟨1,by unfold QV;rw[ot H];rfl⟩
include FC
theorem cf6 (hg:GL=mU) {g} (G:oy g) {i:Nat} (hi:i<11) {s} (Z:∀b∈s,b<256) (sl:s.length<1000000000) h:bP P X GL 198 [.i .i64 (i),.s s,.dp (bx g) 0] h (ι (El i s)) h:=by
 have dp:bJ 12 h0 [.i .i64 (i:Int),.s s,.dp (bx g) 0]=some [.i .i64 (i:Int),.s s,.dp (bx g) 0]:=by
  rw[aL,aL,aL,bZ,dH,oK,BN (n:=11) (SB (n:=9) g)]
 refine dR S (bg.intro λC E=> ?_) dp h;have J:∀k,nice 64 (.dp (bx g) k)=true:=λk=>by rw[fK,aO2]
 have V:g.tc.zipIdx.length=11:=by rw[ny,G.tcl]
 obtain⟨tc,R,U⟩:=re (g:=g) G.tcl (i:=i) hi;have e7:AM.sub (g.tc.zipIdx.flatMap dq) (i*7) 7=some (dq (tc,i)):=cW qx U (j:=0) (n:=7) ω;have O:nice 64 (.ag (dq (tc,i)))=true:=by rw[qe,oM]
 simp only[dq] at e7 O;simp only[bx] at J;rw[E.cB (F.f 198)];by_cases H:i=0∨i=9∨i=10;have W:=λh=>ca4 S FC F hg (i:=i) H Z sl h;have I:(jQ i=[])=True:=fq (by unfold jQ;rw[aD ω]);refine Z5 @bx.eq_1 @h0.eq_1 e7 I @bG ?_;refine E.cN (W _) (Z0 ?_);exact⟨1,by unfold El;rw[aF H];rfl⟩;have I:(jQ i=[])=False:=dQ (bG4 ω);have Y:=λh=>cf0 S F s (jQ i) h;refine Z5 @bx.eq_1 @h0.eq_1 e7 I @bG ?_;refine E.cN (Y _) ?_;cases hb:QV s (jQ i) with
 |true=>
  refine Z0 ?_;exact⟨1,by unfold El;rw[aD H,hb];rfl⟩
 |false=>
  refine Z0 ?_;exact⟨1,by unfold El;rw[aD H,hb];rfl⟩
end
def Ju {n h} t:bJ (n+3) h (fG t)=some (fG t):=by
 have j:∀{n h} (s:List Nat),bJ (n+1) h (jT s)=some (jT s):=λs=>by simp only[jT,aL,bZ,oK]
 simp only[fG,aL,bZ,dH,oK,eu (n:=n+2) j]
def AZ (g:Gr) (T:List Nat):List AV:=bx g++[eR cI 1 true T,.f 198 [] [.dp (bx g) 0]]
def Jx {n h} g T:bJ (n+5) h (AZ g T)=some (AZ g T):=by
 have e1:∀{m:Nat},deep (m+4) h (.f 198 [] [.dp (bx g) 0])=some (.f 198 [] [.dp (bx g) 0]):=λ{m}=>by
  show(match eM (deep (m+3) h) [],eM (deep (m+3) h) [.dp (bx g) 0] with|some a,some b=>some (AV.f 198 a b)|_,_=>none)=_;rw[show eM (deep (m+3) h) [.dp (bx g) 0]=some [.dp (bx g) 0] from by
   show bJ (m+3) h [.dp (bx g) 0]=_;rw[aL,bZ,BN (n:=m+2) (SB g)]]
  rfl
 unfold AZ;rw[Kp (SB (n:=n+3) g)];rw[aL,aL,bZ,e1 (m:=n+1),eu (n:=n+4) yZ]
def cf8 {n} g T:nice.niceL (n+5) (AZ g T)=true:=by
 unfold AZ;refine SD (aO2 (n:=n+3) g) ?_;have e1:nice (n+5) (.f 198 [] [.dp (bx g) 0])=true:=by
  show(nice.niceL (n+4) []&&nice.niceL (n+4) [.dp (bx g) 0])=true;simp only[Bg,iq,fK,aO2];rfl
 simp only[Bg,iq,A4 tS,e1];rfl
section
variable {P:Program} {X:aR} {GL:T (List AV)} {ae:T au} (S:aT P X GL ae) (A:dY P X GL) (FC:bz8 ae) (F:bz8 ae) (FE:bz8 ae) (hg:GL=mU) {g:Gr} (G:oy g) {T:List Nat} {lf:Tn} {c:Nat} (hc:c<8)
include S F G
theorem cg0 {t:Nat} (H:t<11):Jt P X GL 206 [.i .i64 (t),.dp [.dp (AZ g T) 0] 0,.dp (fG lf) 0]:=by
 have dp:bJ 12 h0 [.i .i64 (t:Int),.dp [.dp (AZ g T) 0] 0,.dp (fG lf) 0]=some [.i .i64 (t:Int),.dp [.dp (AZ g T) 0] 0,.dp (fG lf) 0]:=by
  rw[aL,aL,aL,bZ,dH,BN (n:=11) (l:=[.dp (AZ g T) 0]) (by rw[aL,bZ,BN (n:=10) (Jx (n:=5) g T)]),BN (n:=11) (Ju (n:=8) lf)]
 have O:g.tc.zipIdx.length=11:=by rw[ny,G.tcl]
 obtain⟨tc,I,J⟩:=re (g:=g) G.tcl (i:=t) H;have e7:AM.sub (g.tc.zipIdx.flatMap dq) (t*7+2) 1=some [.s (jQ t)]:=by
  have:=cW qx J (j:=2) (n:=1) ω;simpa[dq] using this
 have R:AM.sub (AZ g T) 3 1=some [eR dq 7 true g.tc.zipIdx]:=rfl;have U:AM.sub (fG lf) 2 1=some [.s lf.text]:=rfl;refine⟨decide (jQ t=lf.text),λh=>dR S (bg.intro λC E=> ?_) dp h⟩;refine E.bS (F.f 206) (Z4 e7 R U @aP0 ?_);exact⟨1,rfl⟩
include A FE hc
theorem cg1 {f} (I:rd g f):Jt P X GL 204 [.ag (eF f),.dp (fG lf) 0,.dp [.i .u64 (c)] 0,.dp [.dp (AZ g T) 0] 0]:=by
 have Y:∀m,bJ (m+8) h0 [.dp [.dp (AZ g T) 0] 0,.dp (fG lf) 0]=some [.dp [.dp (AZ g T) 0] 0,.dp (fG lf) 0]:=λm=>by
  rw[aL,aL,bZ,BN (n:=m+7) (l:=[.dp (AZ g T) 0]) (by rw[aL,bZ,BN (n:=m+6) (Jx (n:=m+1) g T)]),BN (n:=m+7) (Ju (n:=m+4) lf)]
 have dp:bJ 12 h0 [.ag (eF f),.dp (fG lf) 0,.dp [.i .u64 (c:Int)] 0,.dp [.dp (AZ g T) 0] 0]=some [.ag (eF f),.dp (fG lf) 0,.dp [.i .u64 (c:Int)] 0,.dp [.dp (AZ g T) 0] 0]:=by
  rw[aL,aL,aL,aL,bZ,nX (n:=11) (ju (n:=10) f),BN (n:=11) (Ju (n:=8) lf),BN (n:=11) (l:=[.dp (AZ g T) 0]) (by rw[aL,bZ,BN (n:=10) (Jx (n:=5) g T)])];rfl
 have O:nice 64 (.ag (eF f))=true:=by rw[qe,aO1]
 have R:AM.sub (fG lf) 1 1=some [.i .i64 lf.tok]:=rfl;simp only[eF] at O;have hh:=λh=>bi7 S A FE I.cond.f hc h;simp only[eT,eD] at hh;by_cases k5:f.kind=5;have j:((f.kind:Int)=5)=True:=cJ;by_cases V:(f.tok:Int)=lf.tok;have H:((f.tok:Int)=lf.tok)=True:=fq V;cases U:mf f.cond c;rw[U] at hh;refine⟨false,λh=>dR S (bg.intro λC E=> ?_) dp h⟩;refine E.bS (F.f 204) (Z4 @eF.eq_1 j H R ?_);refine E.cN (hh _) (Z0 ?_);exact⟨1,rfl⟩;rw[U] at hh;have J:∀t∈f.tO,t<11:=λt J=>by
  rcases I.kinds with ⟨h,-⟩|⟨h,-⟩|⟨-,-,-,-,-,-,-,h,-⟩;omega;omega;have:=(h t J).2;omega
 obtain⟨B,Z⟩:=ao1 (L:=f.tO) (p:=λt b=>∀h,bP P X GL 206 [.i .i64 (t:Int),.dp [.dp (AZ g T) 0] 0,.dp (fG lf) 0] h (.b b) h) λt h=>cg0 S F G (J t h);have W:=λh d=>ca9 S F (L:=f.tO) (nl:=f.tn) (B:=B) (by have:=I.tl;omega) (h:=h) (fid:=206) (caps:=[.dp [.dp (AZ g T) 0] 0,.dp (fG lf) 0]) (dcaps:=[.dp [.dp (AZ g T) 0] 0,.dp (fG lf) 0]) d (λn hn=>by
  obtain⟨m,rfl⟩:∃m,n=m+8:=⟨n-8,by omega⟩;exact Y m) λt h=>Z t h
 refine⟨f.tO.any B,λh=>dR S (bg.intro λC E=> ?_) dp h⟩;refine E.bS (F.f 204) (Z4 @eF.eq_1 j H R ?_);refine E.cN (hh _) (Z0 ?_);refine E.cN (W _ λn hn=> ?_) ?_;obtain⟨m,rfl⟩:∃m,n=m+8:=⟨n-8,by omega⟩;rw[aL,aL,bZ,BN (n:=m+7) (l:=[.dp (AZ g T) 0]) (by rw[aL,bZ,BN (n:=m+6) (Jx (n:=m+1) g T)]),BN (n:=m+7) (Ju (n:=m+4) lf)];refine Y0 ?_;exact⟨1,rfl⟩;have H:((f.tok:Int)=lf.tok)=False:=dQ V;refine⟨false,λh=>dR S (bg.intro λC E=> ?_) dp h⟩;refine E.bS (F.f 204) (Z4 @eF.eq_1 j H R ?_);exact⟨1,rfl⟩;have j:((f.kind:Int)=5)=False:=cE;refine⟨false,λh=>dR S (bg.intro λC E=> ?_) dp h⟩;refine E.bS (F.f 204) (Z2 @eF.eq_1 j ?_);exact⟨1,rfl⟩
end
def Bi (s:List Nat) (st:Nat×List Nat) (t:Nat):Nat×List Nat:=if st.1<El t s then (El t s,[t]) else if El t s=st.1/\ 0<st.1 then (st.1,st.2++[t]) else st
def Eh (s:List Nat) (Tk:List Nat):Nat×List Nat:=Tk.foldl (Bi s) (0,[])
def bH0 s:∀(Tk:List Nat) (st),(0<st.1 ->st.2≠[]) ->(∀t∈st.2,t<11) ->(∀t∈Tk,t<11) ->(0<(Tk.foldl (Bi s) st).1 ->(Tk.foldl (Bi s) st).2≠[])/\ (∀t∈(Tk.foldl (Bi s) st).2,t<11)/\ (Tk.foldl (Bi s) st).2.length<=st.2.length+Tk.length
 |[],st,h1,h2,_=>⟨h1,h2,bB _⟩
 |t::Tk,st,h1,h2,h3=>by
  rw[zH];have H:=h3 t (by simp);have k:(0<(Bi s st t).1 ->(Bi s st t).2≠[])/\ (∀j∈(Bi s st t).2,j<11)/\ (Bi s st t).2.length<=st.2.length+1:=by
   unfold Bi;split;exact⟨λ_=>by simp,λj h=>by rw[yC.1 h];exact H,by simp⟩;split;refine⟨λ_=>by simp,λj h=> ?_,by simp⟩;rcases fO.1 h with h|h;exact h2 j h;rw[yC.1 h];exact H;exact⟨h1,h2,by omega⟩
  have:=bH0 s Tk (Bi s st t) k.1 k.2.1 λj h=>h3 j (by simp[h]);refine⟨this.1,this.2.1,?_⟩;have I:=this.2.2;have J:=k.2.2;rw[gJ];omega
section
variable {P:Program} {X:aR} {GL:T (List AV)} {ae:T au} (S:aT P X GL ae) (A:dY P X GL) (FC:bz8 ae) (F:bz8 ae) (FE:bz8 ae) (hg:GL=mU) {g:Gr} (G:oy g) {Tk:List Nat} {lf:Tn} {c:Nat} (hc:c<8)
include S F
theorem cg2 {L} (V:L.length<=1000) v:Jt P X GL 202 [eR cI 1 true L,.i .i64 v]:=by
 have dp:bJ 12 h0 [eR cI 1 true L,.i .i64 v]=some [eR cI 1 true L,.i .i64 v]:=by rw[aL,aL,bZ,dH,eu (n:=11) yZ]
 refine⟨L.any λt=>decide ((t:Int)=v),λh=>dR S (bg.intro λC E=> ?_) dp h⟩;refine E.bS (F.f 202) (Y0 ?_);refine E.run ?_;refine E.bS (F.f 314) (Y0 ?_);refine fj E.ok L.length (λi τ h=>h=h0/\ τ.get 0=some (eR cI 1 true L)/\ τ.get 1=some (ι v)/\ τ.get 7=some (ι (L.length:Int))/\ τ.get 8=some (ι (i:Int))/\ (L.any λt=>decide ((t:Int)=v))=((L.drop i).any λt=>decide ((t:Int)=v))) ?_ ?_ _ _ ⟨rfl,?_,?_,?_,?_,by rw[List.drop_zero]⟩;rintro i τ _ hi ⟨rfl,t0,t1,t7,t8,O⟩ U;have J:L[i]? =some L[i]:=ef hi;generalize L[i]=a at J;have R:AM.sub (L.flatMap cI) i 1=some [.i .i64 (a:Int)]:=by have:=cW qw J (j:=0) (n:=1) ω;simpa[cI] using this
 have ad:=QS J O;by_cases I:v=(a:Int);have H:(v=(a:Int))=True:=fq I;refine Z6 t0 t1 t7 t8 R H ?_;exact⟨1,by rw[ad.1 (zG I.symm)];rfl⟩;have H:(v=(a:Int))=False:=dQ I;refine Z6 t0 t1 t7 t8 R H ?_;refine U _ _ ⟨rfl,?_,?_,?_,?_,ad.2 (ot λh=>I h.symm)⟩;exact U1 t0;exact U1 t1;exact U1 t7;exact U0;rintro τ _ ⟨rfl,t0,t1,t7,t8,O⟩;refine Y2 t7 t8 ?_;exact⟨1,by rw[O,List.drop_length];rfl⟩;all_goals exact U0
include FC G
theorem bV3 (hg:GL=mU) (hT:Tk.length<=11/\∀t∈Tk,t<11) {s} (s8:∀b∈s,b<256) (sl:s.length<100000000) h:bP P X GL 201 [.dp (AZ g Tk) 0,.s s] h (.tu [.i .i64 ((Eh s Tk).1:Int),eR cI 1 true (Eh s Tk).2]) h:=by
 have dp:bJ 12 h0 [.dp (AZ g Tk) 0,.s s]=some [.dp (AZ g Tk) 0,.s s]:=by rw[aL,aL,bZ,oK,BN (n:=11) (Jx (n:=6) g Tk)]
 refine dR S (bg.intro λC E=> ?_) dp h;have q1:AM.sub (AZ g Tk) 9 1=some [eR cI 1 true Tk]:=rfl;have q2:AM.sub (AZ g Tk) 10 1=some [.f 198 [] [.dp (bx g) 0]]:=rfl;refine E.bS (F.f 201) (Z1 q1 ?_);refine fj E.ok Tk.length (λi τ h=>τ.get 0=some (.dp (AZ g Tk) 0)/\ τ.get 1=some (.s s)/\ τ.get 14=some (eR cI 1 true Tk)/\ τ.get 15=some (ι (Tk.length:Int))/\ τ.get 16=some (ι (i:Int))/\ τ.get 6=some (ι (((Tk.take i).foldl (Bi s) (0,[])).1:Int))/\∃v,τ.get 7=some v/\ (((Tk.take i).foldl (Bi s) (0,[])).2=[] ->v= .sn)/\ SL 0 h v ((Tk.take i).foldl (Bi s) (0,[])).2.length 1 (((Tk.take i).foldl (Bi s) (0,[])).2.flatMap cI)) ?_ ?_ _ _ ⟨?_,?_,?_,?_,?_,?_,.sn,?_,λ_=>rfl,.inl ⟨rfl,rfl,rfl⟩⟩;rintro i τ ⟨n0,v0,ob⟩ hi ⟨t0,t1,J,H,I,t6,v,t7,W,R⟩ Y;have ha:Tk[i]? =some Tk[i]:=ef hi;have hm:=hT.2 _ (List.getElem_mem hi);generalize Tk[i]=a at ha hm;have tk:(Tk.take (i+1)).foldl (Bi s) (0,[])=Bi s ((Tk.take i).foldl (Bi s) (0,[])) a:=by rw[nY ha,xH];rfl
 have f3:=(bH0 s (Tk.take i) (0,[]) (λh=>by cases h) (λ_ h=>by cases h) λt h=>hT.2 t (List.mem_of_mem_take h)).2.2;rw[tk] at Y;generalize (Tk.take i).foldl (Bi s) (0,[])=st at*;obtain⟨n,l⟩:=st;dsimp only at t6 R f3 W;have es:AM.sub (Tk.flatMap cI) i 1=some [.i .i64 (a:Int)]:=by have:=cW qw ha (j:=0) (n:=1) ω;simpa[cI] using this
 have lc:=λh=>cf6 S FC F hg G hm s8 ω h;have tl:(Tk.take i).length<=11:=by rw[jm];omega
 have ia:aY .add (ι (i:Int)) (ι 1)=some (ι ((i+1:Nat):Int)):=bK ω;obtain⟨r1,r2,r3,r4,r5⟩:=R.nice;refine Z7 t0 t1 J H I es q2 ?_;refine E.cN (lc _) ?_;by_cases h1:n<El a s;have O:((n:Int)<(El a s:Int))=True:=cJ;have U:(0<(El a s:Int))=True:=cJ;obtain⟨h2,pe,pn,V,b0⟩:=SL.push (b:=0) (v:= .sn) (n:=0) (esz:=1) (cs:=[]) (o2:=n0) (new:=[.i .i64 (a:Int)]) (h:=⟨n0+1,v0,ob.put n0 (.cells v0 [.i .i64 (a:Int)])⟩) (.inl ⟨rfl,rfl,rfl⟩) (oi _) (by exact U0) rfl rfl ω;refine Z6 t6 I O @tM pe ia ?_;refine Y _ _ ⟨?_,?_,?_,?_,?_,?_,.sl (n0+1) 0 1 none 1,?_,?_,?_⟩;exact U1 t0;exact U1 t1;exact U1 J;exact U1 H;exact U0;unfold Bi;dsimp only;rw[aF h1];exact U0;exact U0;unfold Bi;dsimp only;rw[aF h1];exact λe=>by cases e
 unfold Bi;dsimp only;rw[aF h1];exact V;have O:((n:Int)<(El a s:Int))=False:=cE;by_cases Z:El a s=n/\ 0<n;have U:((El a s:Int)=(n:Int))=True:=cJ;obtain⟨h2,pe,pn,V,b0⟩:=SL.push (o2:=n0) (new:=[.i .i64 (a:Int)]) (R.up (h':=⟨n0+1,v0,ob.put n0 (.cells v0 [.i .i64 (a:Int)])⟩) (nD n0) λj _ hj=>(by
  have m9:j<n0:=hj;exact U0)) (oi _) (by exact U0) rfl rfl (by simp at f3;omega)
 refine Z7 t6 t7 I O @tM pe ia ?_;refine Y _ _ ⟨?_,?_,?_,?_,?_,?_,.sl (n0+1) 0 (l.length+1) none 1,?_,?_,?_⟩;exact U1 t0;exact U1 t1;exact U1 J;exact U1 H;exact U0;unfold Bi;dsimp only;rw[aD h1,aF Z];exact U1 t6;exact U0;unfold Bi;dsimp only;rw[aD h1,aF Z];exact λe=>by simp at e
 unfold Bi;dsimp only;rw[aD h1,aF Z,dy,lF,Bd,pO];exact V;have e:Bi s (n,l) a=(n,l):=by unfold Bi;dsimp only;rw[aD h1,aD Z]
 rw[e] at Y;by_cases h4:El a s=n;have U:((El a s:Int)=(n:Int))=True:=cJ;refine Z4 t6 I O ia ?_;refine Y _ _ ⟨?_,?_,?_,?_,?_,?_,v,?_,W,R⟩;exact U1 t0;exact U1 t1;exact U1 J;exact U1 H;exact U0;exact U1 t6;exact U1 t7;have U:((El a s:Int)=(n:Int))=False:=cE;refine Z4 t6 I O ia ?_;refine Y _ _ ⟨?_,?_,?_,?_,?_,?_,v,?_,W,R⟩;exact U1 t0;exact U1 t1;exact U1 J;exact U1 H;exact U0;exact U1 t6;exact U1 t7;rintro τ ⟨n0,v0,ob⟩ ⟨t0,t1,J,H,I,t6,v,t7,W,R⟩;rw[mR] at t6 R W;obtain⟨r1,-⟩:=R.nice;refine Z4 t6 t7 H I ?_;refine⟨5,?_⟩;have e:AM.deep 4 ⟨n0,v0,ob⟩ v=some (eR cI 1 true (Eh s Tk).2):=by
  rcases R with ⟨h1,rfl,-⟩|⟨q,rfl,-,-,h4,-⟩;have:(Eh s Tk).2=[]:=pM h1;rw[this];rfl;rw[gA (n:=3) h4 (qZ (n:=3) yZ _),BL];rfl;intro h;cases W h
 show(match eM (AM.deep 4 ⟨n0,v0,ob⟩) [.i .i64 _,v] with|some l=>some (AV.tu l)|none=>none)=_;rw[show eM (AM.deep 4 ⟨n0,v0,ob⟩) [AV.i .i64 (((Tk.foldl (Bi s) (0,[])).1:Nat):Int),v]=some [.i .i64 ((Eh s Tk).1:Int),eR cI 1 true (Eh s Tk).2] from by
  show bJ 4 _ _=_;rw[aL,aL,bZ,dH,e];rfl]
 all_goals exact U0
end
def Qa {a b} (j:a.length<=1048576) (hb:b.length<=1048576):aY .add (.s a) (.s b)=some (.s (a++b)):=by
 show(bif Nat.ble (len a) 1048576&&Nat.ble (len b) 1048576 then (match fy a b with|some l=>some (AV.s l)|none=>none) else none)=_;have H:Nat.ble (len a) 1048576=true:=by rw[wX,kZ];simpa using j
 have I:Nat.ble (len b) 1048576=true:=by rw[wX,kZ];simpa using hb
 rw[H,I,jz];rfl
section
variable {P:Program} {X:aR} {GL:T (List AV)} {ae:T au} (S:aT P X GL ae) (A:dY P X GL) (FC:bz8 ae) (F:bz8 ae) (FE:bz8 ae) (hg:GL=mU) {g:Gr} (G:oy g) {Tk:List Nat} (hT:Tk.length<=11/\∀t∈Tk,t<11) {lf:Tn} {c:Nat} (hc:c<8)
include S FC F hg G hT
theorem bH1 s:(0<(Eh s Tk).1 ->(Eh s Tk).2≠[])/\ (∀t∈(Eh s Tk).2,t<11)/\ (Eh s Tk).2.length<=11:=by
 obtain⟨h1,h2,j⟩:=bH0 s Tk (0,[]) (λh=>by cases h) (λ_ h=>by cases h) hT.2;exact⟨h1,h2,by simp at j;unfold Eh;omega⟩
theorem bV4 {s} (h0:(Eh s Tk).2≠[]):∃t:Nat,AM.sub ((Eh s Tk).2.flatMap cI) 0 1=some [.i .i64 (t)]/\ 0<(Eh s Tk).2.length/\ t<11/\ AM.sub (g.tc.zipIdx.flatMap dq) (t*7+1) 1=some [.i .i64 (l7 t)]:=by
 obtain⟨h1,h2,O⟩:=bH1 S FC F hg G hT s;rcases e:(Eh s Tk).2 with _|⟨t,l⟩;exact bh e h0;have H:=h2 t (by rw[e];simp);obtain⟨tc,I,J⟩:=re (g:=g) G.tcl (i:=t) H;exact⟨t,by have:=cW qw (L:=t::l) (i:=0) rfl (j:=0) (n:=1) ω;simpa[cI] using this,by simp,H,by have:=cW qx J (j:=1) (n:=1) ω;simpa[dq] using this⟩
theorem cg3 {s} (W:∀b∈s,b<256) (sl:s.length<=1000):Jt P X GL 108 [.dp (AZ g Tk) 0,.s s]:=by
 have dp:bJ 12 h0 [.dp (AZ g Tk) 0,.s s]=some [.dp (AZ g Tk) 0,.s s]:=by rw[aL,aL,bZ,oK,BN (n:=11) (Jx (n:=6) g Tk)]
 have fc:=λh=>bV3 S FC F G hg hT (s:=32::s) (λb hb=>by rcases ey.1 hb with rfl|h;omega;exact W b h) (by rw[gJ];omega) h;have H:=bH1 S FC F hg G hT (32::s);have I:=bV4 S FC F hg G hT (s:=32::s);have O:g.tc.zipIdx.length=11:=by rw[ny,G.tcl]
 have V:AM.sub (AZ g Tk) 3 1=some [eR dq 7 true g.tc.zipIdx]:=rfl;have J:aY .add (.s [32]) (.s s)=some (.s (32::s)):=Qa (by decide) ω;generalize Eh (32::s) Tk=p at*;obtain⟨n,l⟩:=p;dsimp only at fc H I;by_cases h1:n=1;have j:((n:Int)=1)=True:=cJ;obtain⟨t,R,Y,Z,U⟩:=I (H.1 ω);refine⟨decide ((l7 t:Int)=1),λh=>dR S (bg.intro λC E=> ?_) dp h⟩;refine E.bS (F.f 108) (Z1 J ?_);refine E.cN (fc _) (Z4 j V R U ?_);exact⟨1,rfl⟩;have j:((n:Int)=1)=False:=cE;refine⟨false,λh=>dR S (bg.intro λC E=> ?_) dp h⟩;refine E.bS (F.f 108) (Z1 J ?_);refine E.cN (fc _) (Z1 j ?_);exact⟨1,rfl⟩
include A FE hc
theorem bV5 {s} (s8:∀b∈s,b<256) (sl:s.length<=1000) (W:lf.text≠[]):Jt P X GL 107 [.dp (AZ g Tk) 0,.i .u64 (c),.s s,.ag (fG lf)]:=by
 have dp:bJ 12 h0 [.dp (AZ g Tk) 0,.i .u64 (c:Int),.s s,.ag (fG lf)]=some [.dp (AZ g Tk) 0,.i .u64 (c:Int),.s s,.ag (fG lf)]:=by rw[aL,aL,aL,aL,bZ,oK,dH,BN (n:=11) (Jx (n:=6) g Tk),nX (n:=11) (Ju (n:=8) lf)]
 have fc:=λh=>bV3 S FC F G hg hT (s:=s) s8 ω h;have Z:=bH1 S FC F hg G hT s;have fk:=bV4 S FC F hg G hT (s:=s);have Y:nice 64 (.ag (fG lf))=true:=by rw[qe,ua]
 have b2:g.tc.zipIdx.length=11:=by rw[ny,G.tcl]
 have V:AM.sub (AZ g Tk) 3 1=some [eR dq 7 true g.tc.zipIdx]:=rfl;have q8:AM.sub (AZ g Tk) 8 1=some [eR eF 9 true g.fI]:=rfl;generalize Eh s Tk=p at*;obtain⟨n,l⟩:=p;dsimp only at fc Z fk;obtain⟨b1,I⟩:=cg2 S F (L:=l) ω lf.tok;obtain⟨B,hB⟩:=ao1 (L:=g.fI) (p:=λf b=>∀h,bP P X GL 204 [.ag (eF f),.dp (fG lf) 0,.dp [.i .u64 (c:Int)] 0,.dp [.dp (AZ g Tk) 0] 0] h (.b b) h) λf hf=>cg1 S A F FE G hc (G.f f hf);have cd:∀m,bJ (m+8) h0 [.dp (fG lf) 0,.dp [.i .u64 (c:Int)] 0,.dp [.dp (AZ g Tk) 0] 0]=some [.dp (fG lf) 0,.dp [.i .u64 (c:Int)] 0,.dp [.dp (AZ g Tk) 0] 0]:=λm=>by
  rw[aL,aL,aL,bZ,BN (n:=m+7) (Ju (n:=m+4) lf),BN (n:=m+7) (l:=[.dp (AZ g Tk) 0]) (by rw[aL,bZ,BN (n:=m+6) (Jx (n:=m+1) g Tk)]),BN (n:=m+7) (l:=[.i .u64 (c:Int)]) (by rw[aL,bZ,dH])]
 have cf:=λh d=>ca8 S F (L:=g.fI) (nl:=true) (B:=B) (by have:=G.fl;omega) (h:=h) (fid:=204) (caps:=[.p 2 0,.p 1 0,.p 0 0]) (dcaps:=[.dp (fG lf) 0,.dp [.i .u64 (c:Int)] 0,.dp [.dp (AZ g Tk) 0] 0]) d (λn hn=>by
  obtain⟨m,rfl⟩:∃m,n=m+8:=⟨n-8,by omega⟩;exact cd m) λf h=>hB f h
 have b0:lf.text.length≠0:=λe=>W (pM e);have O:cellsO (.dp (AZ g Tk) 0)=some [.dp (AZ g Tk) 0]:=rfl;simp only[fG] at Y;by_cases h1:n=lf.text.length;have H:((n:Int)=(lf.text.length:Int))=True:=cJ;obtain⟨t,R,k2,k3,U⟩:=fk (Z.1 ω);by_cases J:(l7 t:Int)=0;have j:((l7 t:Int)=0)=True:=fq J;cases b1;refine⟨false,λh=>dR S (bg.intro λC E=> ?_) dp h⟩;refine E.bS (F.f 107) (Z2 @fG.eq_1 O ?_);refine E.cN (fc _) (Z5 H j V R U ?_);refine E.cN (I _) (Z5 H j V R U ?_);exact⟨1,rfl⟩;refine⟨!g.fI.any B,λh=>dR S (bg.intro λC E=> ?_) dp h⟩;refine E.bS (F.f 107) (Z2 @fG.eq_1 O ?_);refine E.cN (fc _) (Z5 H j V R U ?_);refine E.cN (I _) (Z1 q8 ?_);refine E.cN (cf _ λn hn=> ?_) ?_;obtain⟨m,rfl⟩:∃m,n=m+8:=⟨n-8,by omega⟩;rw[aL,aL,aL,bZ,Od (n:=m+7) (o:=2) (v:=0) (l:=fG lf) (by simp only[fG];exact U0) (Ju (n:=m+4) lf),Od (n:=m+7) (o:=1) (v:=0) (l:=[.i .u64 (c:Int)]) U0 (by rw[aL,bZ,dH]),Od (n:=m+7) (o:=0) (v:=0) (l:=[.dp (AZ g Tk) 0]) U0 (by rw[aL,bZ,BN (n:=m+6) (Jx (n:=m+1) g Tk)])];refine Y0 ?_;exact⟨1,rfl⟩;have j:((l7 t:Int)=0)=False:=dQ J;refine⟨false,λh=>dR S (bg.intro λC E=> ?_) dp h⟩;refine E.bS (F.f 107) (Z2 @fG.eq_1 O ?_);refine E.cN (fc _) (Z5 H j V R U ?_);exact⟨1,rfl⟩;have H:((n:Int)=(lf.text.length:Int))=False:=cE;refine⟨false,λh=>dR S (bg.intro λC E=> ?_) dp h⟩;refine E.bS (F.f 107) (Z2 @fG.eq_1 O ?_);refine E.cN (fc _) (Z1 H ?_);exact⟨1,rfl⟩
end
def HW (g:Gr) (c i:Nat):Bool:=match g.tc[i]? with|some t=>mf t c|none=>false
def Px (g:Gr) (c:Nat):List Nat:=(List.range 11).filter (HW g c)
def cg4 g c:(Px g c).length<=11/\∀t∈Px g c,t<11:=
 ⟨fJ (List.length_filter_le _ _) (by simp),λt h=>mA.1 (List.mem_filter.1 h).1⟩
section
variable {P:Program} {X:aR} {GL:T (List AV)} {ae:T au} (S:aT P X GL ae) (A:dY P X GL) (F:bz8 ae) (FE:bz8 ae) {g:Gr} (G:oy g) {c:Nat} (hc:c<8)
include S A F FE G hc
theorem cg5 h:bP P X GL 106 [aI g,.i .u64 (c)] h (.dp (AZ g (Px g c)) 0) h:=by
 refine ku S (λn h=>by simp only[aL,bZ,dH]) ?_ h;refine bg.intro λC E=> ?_;have bq:=iW (g:=g);have b1:g.tc.zipIdx.length=11:=by rw[ny,G.tcl]
 have b4:((11:Nat):Int)=11:=rfl;simp only[bx] at bq;refine E.bS (F.f 106) (Z4 @aI.eq_1 @bx.eq_1 b1 b4 ?_);refine fj E.ok 11 (λi τ h=>2<=h.next/\ τ.get 1=some (.i .u64 (c:Int))/\ τ.get 2=some (.p 0 0)/\ τ.get 5=some (.p 1 0)/\ τ.get 12=some (ι 11)/\ τ.get 13=some (ι (i:Int))/\ cG (h.oB.get 0)=some (bx g)/\∃v,cG (h.oB.get 1)=some (bx g++[v,.fnil])/\ (((List.range i).filter (HW g c))=[] ->v= .sn)/\ SL 2 h v ((List.range i).filter (HW g c)).length 1 (((List.range i).filter (HW g c)).flatMap cI)) ?_ ?_ _ _ ⟨bB _,?_,?_,?_,?_,?_,?_,.sn,?_,λ_=>rfl,.inl ⟨rfl,rfl,rfl⟩⟩;rintro i τ ⟨n1,v1,ob⟩ hi ⟨Y,t1,t2,t5,H,I,c0,v,c1,Z,J⟩ R;dsimp only at Y c0 c1;have W:=c0;have U:=c1;obtain⟨tc,V,hz⟩:=re (g:=g) G.tcl (i:=i) hi;have e7:AM.sub (g.tc.zipIdx.flatMap dq) (i*7+5) 2=some [tp (aE tc).1,.i .i64 ((aE tc).2:Int)]:=by
  have:=cW qx hz (j:=5) (n:=2) ω;simpa[dq] using this
 have hh:=λh=>bi7 S A FE (G.tc tc (dI V)).f hc h;simp only[eT,eD] at hh;have hT:HW g c i=mf tc c:=by unfold HW;rw[V]
 have hl:((List.range i).filter (HW g c)).length<=11:=fJ (List.length_filter_le _ _) (by simp;omega);have rs:(List.range (i+1)).filter (HW g c)=(List.range i).filter (HW g c)++(if HW g c i then [i] else []):=by
  rw[zD,List.filter_append];congr 1;rw[Fx];cases HW g c i<;>rfl
 obtain⟨r1,r2,r3,r4,r5⟩:=J.nice;simp only[bx,gw,gx] at c0 c1;refine Z6 t1 t2 H I c0 e7 ?_;refine E.cN (hh _) ?_;cases hb:mf tc c;rw[rs,hT,hb] at R;simp only[nr,bV,lG] at R;refine Z1 I ?_;refine R _ _ ⟨Y,?_,?_,?_,?_,?_,W,v,U,Z,J⟩;exact U1 t1;exact U1 t2;exact U1 t5;exact U1 H;exact U0;rw[rs,hT,hb] at R;simp only[dZ] at R;generalize (List.range i).filter (HW g c)=l at*;have w0:(0=n1)=False:=cE;have w1:(1=n1)=False:=cE;obtain⟨h2,pe,pn,b2,O⟩:=SL.push (o2:=n1) (new:=[.i .i64 (i:Int)]) (J.up (h':=⟨n1+1,v1,ob.put n1 (.cells v1 [.i .i64 (i:Int)])⟩) (nD n1) λj _ hj=>(by
  have m9:j<n1:=hj;have w:(j=n1)=False:=cE;exact U0)) (by show 2<=n1+1;omega) (by exact U0) rfl rfl ω
 obtain⟨n2,v2,aJ⟩:=h2;have b5:n2=n1+1+1:=pn;dsimp only at O;have d0:cG (aJ.get 0)=some (bx g):=by rw[O 0 ω (J.ne ω)];exact wW w0 W
 have d1:cG (aJ.get 1)=some (bx g++[v,.fnil]):=by rw[O 1 ω (J.ne ω)];exact wW w1 U
 simp only[bx,gw,gx] at d1;have b3:(0=1)=False:=cE;refine Z6 t5 I c1 @tM pe d1 ?_;refine R _ _ ⟨by show 2<=n2;omega,?_,?_,?_,?_,?_,?_,.sl (n1+1) 0 (l.length+1) none 1,?_,λe=>by simp at e,?_⟩;exact U1 t1;exact U1 t2;exact U1 t5;exact U1 H;exact U0;exact wW b3 d0;simp only[bx,gw,gx];exact U0;rw[dy,lF,Bd,pO];refine b2.up (bB _) λj hj _=> ?_;have w:(j=1)=False:=cE;exact U0;rintro τ ⟨n1,v1,ob⟩ ⟨Y,t1,t2,t5,H,I,c0,v,c1,Z,J⟩;dsimp only at Y c0 c1;have W:=c0;simp only[bx,gw,gx] at c0 c1;obtain⟨r1,r2,r3,r4,r5⟩:=J.nice;refine Z5 t2 t5 H I c1 ?_;have e0:∀m,AM.deep (m+2) ⟨n1,v1+1,ob.put 1 (.cells (v1+1) (bx g++[v,.f 198 [] [.p 0 0]]))⟩ v=some (eR cI 1 true (Px g c)):=λm=>by
  unfold Px;rcases J with ⟨h1,rfl,-⟩|⟨q,rfl,h2,h3,h4,-⟩;rw[pM h1];rfl;have w:(q=1)=False:=cE;rw[gA (n:=m+1) (wW w h4) (qZ (n:=m+1) yZ _),BL];intro h;cases Z h
 have e1:AM.deep 8 ⟨n1,v1+1,ob.put 1 (.cells (v1+1) (bx g++[v,.f 198 [] [.p 0 0]]))⟩ (.f 198 [] [.p 0 0])=some (.f 198 [] [.dp (bx g) 0]):=by
  obtain⟨vv,b0⟩:=EW W;have w:(0=1)=False:=cE;show(match eM (AM.deep 7 _) [],eM (AM.deep 7 _) [.p 0 0] with|some a,some b=>some (AV.f 198 a b)|_,_=>none)=_;rw[show eM (AM.deep 7 _) [.p 0 0]=some [.dp (bx g) 0] from by
   show bJ 7 _ [.p 0 0]=_;rw[aL,bZ,Od (n:=6) (v:=vv) (l:=bx g) (wW w b0) (SB (n:=4) g)]]
  rfl
 refine⟨9,?_⟩;refine Od (n:=8) (v:=v1+1) (l:=bx g++[v,.f 198 [] [.p 0 0]]) (by simp only[bx,gw,gx];exact U0) ?_;unfold AZ;have h8:=Kp (SB (n:=6) (h:=⟨n1,v1+1,ob.put 1 (.cells (v1+1) (bx g++[v,.f 198 [] [.p 0 0]]))⟩) g) (b:=[v,.f 198 [] [.p 0 0]]) (b':=[eR cI 1 true (Px g c),.f 198 [] [.dp (bx g) 0]]) (by rw[aL,aL,bZ,e0 6,e1]);simpa only[bx,gw,gx] using h8;(iterate 5 exact U0);simp only[bx];exact U0;simp only[bx,gw,gx];exact U0
end
structure av3 (t:Tn):Prop where
 p:t.prod= -1
 k:∃i:Nat,i<9/\ t.tok=(i:Int)
 s:t.text∈DV
section
variable {P:Program} {X:aR} {GL:T (List AV)} {ae:T au} {C:aK Prop} (S:aT P X GL ae) (E:Sem P X GL ae C) (A:dY P X GL) (FC:bz8 ae) (F:bz8 ae) (FE:bz8 ae) (hg:GL=mU) {g:Gr} (G:oy g) {c:Nat} (hc:c<8) (fc:∀h,bP P X GL 47 [aI g] h (ι 0) h) (ic:∀h,bP P X GL 53 [aI g,.i .u64 (c:Int)] h (.b true) h)
include S E A FC F FE hg G hc fc ic
theorem cg6 {LV:List Tn} (h3:LV.length<=40) (d5:∀t∈LV,av3 t) {lv h} (hs:SL 0 h lv LV.length 4 (LV.flatMap fG)) k
 (J:∀(e) h',e≠0 ->k (.tu [.sn,.s [],.i .i64 e]) h')
 (g4:∀go s (u) h',h.next<=go ->go<h'.next ->cG (h'.oB.get go)=some (uB LV.length u) ->(∀j,j<h.next ->h'.oB.get j=h.oB.get j) ->k (.tu [.sl go 0 LV.length (some LV.length) 1,.s s,.i .i64 0]) h'):du C 61 [aI g,.i .u64 (c),lv] h k:=by
 obtain⟨n0,v0,ob⟩:=h;have rc:=λh=>cg5 S A F FE G hc h;have bq:=iW (g:=g);have d6:g.tc.zipIdx.length=11:=by rw[ny,G.tcl]
 have f9:((11:Nat):Int)=11:=rfl;obtain⟨r1,r2,r3,r4,r5⟩:=hs.nice;simp only[bx] at bq;simp only[aI,bx] at fc ic rc;refine E.bS (F.f 61) (Z2 @aI.eq_1 @bx.eq_1 ?_);refine E.cN (fc _) (Z0 ?_);refine E.cN (ic _) (Z1 r5 ?_);refine fj E.ok LV.length (λi τ h=>n0+1<=h.next/\ (∀j,j<n0 ->h.oB.get j=ob.get j)/\ cG (h.oB.get n0)=some (bx g)/\ τ.get 1=some (.i .u64 (c:Int))/\ τ.get 2=some lv/\ τ.get 3=some (.p n0 0)/\ τ.get 34=some lv/\ τ.get 35=some (ι (LV.length:Int))/\ τ.get 36=some (ι (i:Int))/\∃z:Nat,τ.get 10=some (ι (z:Int))/\ z<=40+4*i) ?_ ?_ _ _ ⟨bB _,λj Y=> ?_,?_,?_,?_,?_,?_,?_,?_,LV.length,?_,by omega⟩;rintro i τ ⟨n1,v1,aQ⟩ hi ⟨hn,old,c0,t1,t2,t3,f7,c6,c7,z,t10,hz⟩ ih;dsimp only at hn old c0;have ht:LV[i]? =some LV[i]:=ef hi;have hm:=d5 _ (List.getElem_mem hi);generalize LV[i]=t at ht hm;obtain⟨pr,tk,tx,rm⟩:=t;obtain⟨hp,⟨x,x9,hx⟩,R⟩:=hm;dsimp only at hp hx R;subst hp hx;have t4:=bU0 R;rcases hs with ⟨h0,-,-⟩|⟨q,rfl,-,hq,b1,-⟩;omega;have b5:q<n0:=hq;have cq:cG (aQ.get q)=some (LV.flatMap fG):=by rw[old q b5];exact b1
 have de:=c0;simp only[bx] at c0;have es:AM.sub (LV.flatMap fG) (i*4) 4=some (fG ⟨-1,x,tx,rm⟩):=cW Uo ht (j:=0) (n:=4) ω;simp only[fG] at es;obtain⟨tc,g6,g7⟩:=re (g:=g) G.tcl (i:=x) ω;have e7:AM.sub (g.tc.zipIdx.flatMap dq) (x*7) 7=some (dq (tc,x)):=cW qx g7 (j:=0) (n:=7) ω;have hh:=λh=>bi7 S A FE (G.tc tc (dI g6)).f hc h;simp only[eT,eD] at hh;have g0:l7 x=0:=aF x9;simp only[dq,g0] at e7;have d8:nice 64 (eR jT 1 true rm)=true:=A4 zi;have b2:((i:Int)<(LV.length:Int))=True:=cJ;have f8:x<11:=by omega
 have wq:(q=n1)=False:=cE;have ts:=ec t1 (ec t2 (ec t3 (ec t10 (ec f7 (ec c6 c7)))));have h1:=bq;have xs:=f8;have za:aY .add (ι (z:Int)) (ι (tx.length:Int))=some (ι ((z+tx.length:Nat):Int)):=oH ω;have H:=ec ts (ec h1 xs);by_cases hl:jQ x=[];have b3:(jQ x=[])=True:=fq hl;have hi':x=0∨x=10:=by
  by_cases e:x=0;exact .inl e;exact bh hl (bG4 ω)
 obtain⟨B,g1⟩:=bU2 S FC hg hi' R;refine qX H hi cq es c0 d6 f9 e7 b3 @aP0 ?_;refine E.cN (g1 _) (Z1 H ?_);refine E.cN (hh _) ?_;cases hB:mf tc c;refine Z0 ?_;exact J 91 _ (by decide);cases hb:B;refine Z0 ?_;exact J 91 _ (by decide);refine Z2 H za ?_;refine ih _ _ ⟨by show n0+1<=n1+1+1;omega,λj Y=> ?_,?_,?_,?_,?_,?_,?_,?_,z+tx.length,?_,by omega⟩;have w2:(j=n1)=False:=cE;have:=old j Y;exact U2 w2 this;simp only[bx];exact U1 c0;(iterate 7 exact U1 ts);have b3:(jQ x=[])=False:=dQ hl;refine qX H hi cq es c0 d6 f9 e7 b3 @aP0 ?_;refine E.cN (hh _) ?_;cases hB:mf tc c;refine Z0 ?_;exact J 91 _ (by decide);cases hb:decide (tx=jQ x);refine Z0 ?_;exact J 91 _ (by decide);refine Z2 H za ?_;refine ih _ _ ⟨by show n0+1<=n1+1+1;omega,λj Y=> ?_,?_,?_,?_,?_,?_,?_,?_,z+tx.length,?_,by omega⟩;have w2:(j=n1)=False:=cE;have:=old j Y;exact U2 w2 this;simp only[bx];exact U1 c0;(iterate 7 exact U1 ts);rintro τ ⟨n1,v1,aQ⟩ ⟨hn,old,c0,t1,t2,t3,f7,c6,c7,z,t10,hz⟩;dsimp only at hn old c0;have de:=c0;simp only[bx] at c0;have g5:LV.length<=1048576:=by omega
 refine Z6 t1 t3 t10 c6 c7 c0 ?_;refine E.cN (rc _) ?_;have g8:∀k,nice 64 (.dp (AZ g (Px g c)) k)=true:=λk=>by rw[fK,cf8]
 refine Z4 t2 r5 g5 @bV1 ?_;refine fj E.ok LV.length (λi τ h=>n1+1<=h.next/\ (∀j,j<n0 ->h.oB.get j=ob.get j)/\ τ.get 1=some (.i .u64 (c:Int))/\ τ.get 2=some lv/\ τ.get 15=some (.dp (AZ g (Px g c)) 0)/\ τ.get 16=some (.sl n1 0 LV.length (some LV.length) 1)/\ τ.get 104=some (ι (LV.length:Int))/\ τ.get 105=some (ι (i:Int))/\∃I u,τ.get 17=some (.s I)/\ I.length<=5*i/\ (∀b∈I,b<256)/\ cG (h.oB.get n1)=some (uB LV.length u)) ?_ ?_ _ _ ⟨bB _,λj Y=> ?_,?_,?_,?_,?_,?_,?_,[],λ_=>false,?_,oi _,λ_ h=>by simp at h,?_⟩;rintro i τ ⟨n2,v2,aJ⟩ hi ⟨b4,eG,t1,t2,f0,b6,V,W,I,u,b7,g3,Z,cu⟩ ih;dsimp only at b4 eG cu;have O:LV.length-1-i<LV.length:=by omega
 have ht:LV[LV.length-1-i]? =some LV[LV.length-1-i]:=ef O;have hm:=d5 _ (List.getElem_mem O);generalize LV[LV.length-1-i]=t at ht hm;obtain⟨pr,tk,tx,rm⟩:=t;obtain⟨hp,⟨x,x9,hx⟩,R⟩:=hm;dsimp only at hp hx R;subst hp hx;have t4:=bU0 R;have d8:nice 64 (eR jT 1 true rm)=true:=A4 zi;rcases hs with ⟨h0,-,-⟩|⟨q,rfl,-,hq,b1,-⟩;omega;have b5:q<n0:=hq;have cq:cG (aJ.get q)=some (LV.flatMap fG):=by rw[eG q b5];exact b1
 have es:AM.sub (LV.flatMap fG) ((LV.length-1-i)*4) 4=some (fG ⟨-1,x,tx,rm⟩):=cW Uo ht (j:=0) (n:=4) ω;simp only[fG] at es;have b2:((i:Int)<(LV.length:Int))=True:=cJ;have s1:aY .sub (ι (LV.length:Int)) (ι 1)=some (ι ((LV.length-1:Nat):Int)):=qV (b:=1) ω;have s2:aY .sub (ι ((LV.length-1:Nat):Int)) (ι (i:Int))=some (ι ((LV.length-1-i:Nat):Int)):=qV ω;have wq:(q=n2)=False:=cE;have wu:(n1=n2)=False:=cE;have ts:=ec t1 (ec t2 (ec f0 (ec b6 (ec V (ec W b7)))));have H:=ec ts (ec d8 (ec (g8 0) (ec wq (ec wu (ec cq cu)))));generalize h2:LV.length-1-i=p at*;by_cases b0:tx=[];have U:(tx=[])=True:=fq b0;refine Z8 H b2 O es s1 s2 U @aP0 ?_;exact J 240 _ (by decide);have U:(tx=[])=False:=dQ b0;have a1:aY .add (.s tx) (.s I)=some (.s (tx++I)):=Qa ω ω;have a2:aY .add (.s tx) (.s [32])=some (.s (tx++[32])):=Qa ω (by decide);have a3:aY .add (.s (tx++[32])) (.s I)=some (.s (tx++[32]++I)):=Qa (by simp;omega) ω;have b8:∀b∈tx,b<256:=λb hb=>(t4.2 b hb).1;have d0:=cg4 g c;have d1:∀b∈tx++I,b<256:=λb hb=>(fO.1 hb).elim (b8 b) (Z b);have d2:∀b∈tx++[32]++I,b<256:=λb hb=>(fO.1 hb).elim (λh=>(fO.1 h).elim (b8 b) (λh=>by rw[yC.1 h];decide)) (Z b);obtain⟨B1,d3⟩:=bV5 S A FC F FE hg G d0 (lf:=⟨-1,x,tx,rm⟩) hc (s:=tx++I) d1 (by rw[dy];omega) b0;obtain⟨B2,d4⟩:=bV5 S A FC F FE hg G d0 (lf:=⟨-1,x,tx,rm⟩) hc (s:=tx++[32]++I) d2 (by simp;omega) b0;obtain⟨B3,g2⟩:=cg3 S FC F hg G d0 (s:=I) Z ω;simp only[fG] at d3 d4;refine Z9 H b2 O es s1 s2 U a1 @aP0 ?_;refine E.cN (d3 _) ?_;cases B1 with
 |true=>
  refine Z1 H ?_;refine ih _ _ ⟨by show n1+1<=n2+1;omega,λj Y=> ?_,?_,?_,?_,?_,?_,?_,tx++I,u,?_,by simp only[dy,lF];omega,d1,?_⟩;have w2:(j=n2)=False:=cE;have:=eG j Y;exact U2 w2 this;(iterate 8 exact U1 H)
 |false=>
  refine Z3 H a2 a3 ?_;refine E.cN (d4 _) ?_;cases B2;refine Z1 H ?_;exact J 240 _ (by decide);refine Z1 H ?_;refine E.cN (g2 _) ?_;cases B3;refine Z1 H ?_;exact J 240 _ (by decide);have us:=bU9 (u:=u) O;refine Z3 H O us ?_;refine ih _ _ ⟨by show n1+1<=n2+1;omega,λj Y=> ?_,?_,?_,?_,?_,?_,?_,tx++[32]++I,Ig u p,?_,by simp only[dy,lF];omega,d2,?_⟩;have w2:(j=n2)=False:=cE;have:=eG j Y;exact U2 w2 this;(iterate 8 exact U1 H)
 rintro τ ⟨n2,v2,aJ⟩ ⟨b4,eG,t1,t2,f0,b6,V,W,I,u,b7,g3,Z,cu⟩;dsimp only at b4 eG cu;refine Z4 b6 b7 V W ?_;exact g4 _ _ u _ (by show n0<=n1;omega) (by show n1<n2;omega) cu eG;have w2:(j=n1)=False:=cE;have:=old j Y;exact U2 w2 this;exact U1 t1;(iterate 7 exact U1 t2);have w:(j=n0)=False:=cE;exact U1 w;simp only[bx];(iterate 8 exact U0)
end
section
variable {P:Program} {X:aR} {GL:T (List AV)} {ae:T au} {C:aK Prop} (S:aT P X GL ae) (E:Sem P X GL ae C) (A:dY P X GL) (FC:bz8 ae) (F:bz8 ae) (FE:bz8 ae) (hg:GL=mU) {g:Gr} (G:oy g) {c:Nat} (hc:c<8)
include S E A FC F FE hg G hc
theorem cg7 (fc:∀h,bP P X GL 47 [aI g] h (ι 0) h) (ic:∀h,bP P X GL 53 [aI g,.i .u64 (c)] h (.b true) h) {LV:List Tn} (I:LV.length<=40) (J:∀t∈LV,av3 t) {lv h} (V:SL 0 h lv LV.length 4 (LV.flatMap fG)) k
 (O:∀(e) h',e≠0 ->k (.tu [.sn,.i .i64 e]) h')
 (R:∀go (u) h',h.next<=go ->go<h'.next ->cG (h'.oB.get go)=some (uB LV.length u) ->(∀j,j<h.next ->h'.oB.get j=h.oB.get j) ->k (.tu [.sl go 0 LV.length (some LV.length) 1,.i .i64 0]) h'):du C 20 [aI g,.i .u64 (c),lv] h k:=by
 obtain⟨n0,v0,ob⟩:=h;obtain⟨r1,r2,r3,r4,r5⟩:=V.nice;have W:=iW (g:=g);have U:=λk h0 h1=>cg6 S E A FC F FE hg G hc fc ic I J (h:=⟨n0+1,v0,ob.put n0 (.cells v0 (bx g))⟩) (lv:=lv) (V.up (nD n0) λj _ H=>(by
  have m9:j<n0:=H;have w:(j=n0)=False:=cE;exact U0)) k h0 h1
 simp only[bx] at W U;simp only[aI,bx] at U;refine E.bS (F.f 20) (Z2 @aI.eq_1 @bx.eq_1 ?_);refine E.run (U _ (λe h' he=> ?_) λgo s u h' h1 h2 Y Z=> ?_);refine Z0 ?_;exact O e _ he;refine Z0 ?_;refine R go u _ (by have h:n0+1<=go:=h1;show n0<=go;omega) h2 Y λj H=> ?_;have w:(j=n0)=False:=dQ (by have h:j<n0:=H;omega);refine(Z j (by have h:j<n0:=H;show j<n0+1;omega)).trans ?_;exact U1 w
def bH2 (g:Gr) (t:Tn):Prop:=(av3 t/\∀r∈t.rem,r∈DV)∨∃j x,t.prod=((j:Nat):Int)/\ g.pR[j]? =some x/\ t.rem=[]
theorem bV6 {L} (O:∀r∈L,r∈DV) (h2:L.length<=2):∃b,∀h n1 j,cG (h.oB.get n1)=some (bx g) ->cG (h.oB.get j)=some [.i .u64 (c)] ->bP P X GL 21 [eR jT 1 true L,.f 56 [] [.p n1 0,.p j 0]] h (.b b) h:=by
 obtain⟨B,J⟩:=ao1 (L:=L) (p:=λa b=>∀h,bP P X GL 56 [.s a,.dp (bx g) 0,.dp [.i .u64 (c:Int)] 0] h (.b b) h) λa R=>cc0 S A FC F FE hg G hc (O a R);refine⟨L.any B,λh n1 j H I=> ?_⟩;obtain⟨v1,e1⟩:=EW H;obtain⟨v2,e2⟩:=EW I;refine ca6 S F (B:=B) ω (λn U=> ?_) (λn U=> ?_) J;obtain⟨m,rfl⟩:∃m,n=m+3:=⟨n-3,by omega⟩;rw[aL,aL,bZ,Od (n:=m+2) e1 (SB (n:=m) g),Od e2 (by rw[aL,bZ,dH])];obtain⟨m,rfl⟩:∃m,n=m+3:=⟨n-3,by omega⟩;rw[aL,aL,bZ,BN (n:=m+2) (SB (n:=m) g),BN (l:=[.i .u64 (c:Int)]) (by rw[aL,bZ,dH])]
theorem cg8 (mc:∀h,bP P X GL 54 [aI g,.i .u64 (c)] h (ι 0) h) {N} (hN:N.length<=40) (d8:∀t∈N,bH2 g t/\ t.rem.length<=2) {R} (hR:∀r∈R,r∈DV) (f0:R.length<=2) {m} (hm:m<g.nT.length) {h} k
 (hk:∀e h',h.next<=h'.next ->(∀j,j<h.next ->h'.oB.get j=h.oB.get j) ->k (ι e) h'):du C 18 [aI g,.i .u64 (c),.i .i64 (m),.ag (ky N R)] h k:=by
 obtain⟨n0,v0,ob0⟩:=h;have tr:=λh k h0 h1=>bj2 (C:=C) (R:=R) S E FE G hN h k h0 h1;have bq:=iW (g:=g);have d5:=bq;simp only[bx] at bq d5;simp only[aI,bx,ky] at mc tr;refine E.bS (FE.f 18) (Z3 @aI.eq_1 @bx.eq_1 @ky.eq_1 ?_);refine E.cN (mc _) (Z1 @iL ?_);refine E.run (tr _ _ (λh' hn old=> ?_) λt o h' ht hq hn old=> ?_);obtain⟨n1,v1,ob⟩:=h';have f9:n0+3<=n1:=hn;dsimp only at old;have d0:cG (ob.get n0)=some (bx g):=by rw[old n0 ω];simp only[bx];exact U0
 have d2:cG (ob.get (n0+1+1))=some [eR fG 4 true N,eR jT 1 true R]:=by rw[old _ ω];exact U0
 simp only[bx] at d0;have vq:eH 6 (.lf .sl) .sn .sn=some true:=rfl;refine Z1 vq ?_;refine hk 91 _ (by show n0<=n1;omega) λj J=> ?_;have m9:j<n0:=J;refine(old j ω).trans ?_;exact U0;obtain⟨n1,v1,ob⟩:=h';have f9:n0+3<=n1:=hn;dsimp only at old;have d0:cG (ob.get n0)=some (bx g):=by rw[old n0 ω];simp only[bx];exact U0
 have d1:cG (ob.get (n0+1))=some [.i .u64 (c:Int)]:=by rw[old _ ω];exact U0
 have d2:cG (ob.get (n0+1+1))=some [eR fG 4 true N,eR jT 1 true R]:=by rw[old _ ω];exact U0
 have U:∀e h',n1<=h'.next ->(∀j,j<n0 ->h'.oB.get j=ob.get j) ->k (ι e) h':=λe h' q1 q2=>hk e h' (by show n0<=_;omega) λj J=>by
  have m9:j<n0:=J;refine(q2 j m9).trans ((old j ω).trans ?_);exact U0
 have D0:=d0;simp only[bx] at d0;have vq:eH 6 (.lf .sl) (.sl o 0 N.length (some N.length) 1) .sn=some false:=rfl;obtain⟨pi,x,hp,hx⟩:=hq;have hi:=(eC.1 hx).1;have hl:=(eC.1 ht).1;have e0:AM.sub (N.flatMap fG) 0 1=some [.i .i64 (pi:Int)]:=by
  have:=cW Uo ht (j:=0) (n:=1) ω;simpa[fG,hp] using this
 have z:∀h,nU h 4 0 (eR fG 4 true N)= .v (.dp (N.flatMap fG) 0) h:=λh=>(bG (i:=0) hl).trans (by rw[ue]);have e1:AM.sub (g.pR.flatMap aM) (pi*13+1) 1=some [.i .i64 (x.left:Int)]:=by
  have:=cW kr hx (j:=1) (n:=1) ω;simpa[aM] using this
 by_cases nm:x.left=m;have ne:((x.left:Int)=(m:Int))=True:=cJ;refine Z7 d0 d2 vq e0 z e1 ne ?_;obtain⟨b0,f7⟩:=bV6 S E A FC F FE hg G hc hR f0;refine E.cN (f7 _ _ _ D0 d1) ?_;cases b0 with
 |true=>
  refine Z0 ?_;exact U 91 _ (bB _) λ_ _=>rfl
 |false=>
  refine Z1 d2 ?_;refine fj E.ok N.length (λi τ h=>n1<=h.next/\ (∀j,j<n1 ->h.oB.get j=ob.get j)/\ τ.get 4=some (.p n0 0)/\ τ.get 5=some (.p (n0+1) 0)/\ τ.get 10=some (.f 56 [] [.p n0 0,.p (n0+1) 0])/\ τ.get 57=some (eR fG 4 true N)/\ τ.get 58=some (ι (N.length:Int))/\ τ.get 59=some (ι (i:Int))) ?_ ?_ _ _ ⟨bB _,λ_ _=>rfl,?_,?_,?_,?_,?_,?_⟩;rintro i τ ⟨H,v2,W⟩ hi ⟨b3,Y,t4,t5,t10,d6,b5,b6⟩ ih;dsimp only at b3 Y;have ht:N[i]? =some N[i]:=ef hi;obtain⟨hm,b1⟩:=d8 _ (List.getElem_mem hi);generalize N[i]=t at ht hm b1;have D0':cG (W.get n0)=some (bx g):=by rw[Y _ ω];exact D0
  have b7:=D0';have b8:cG (W.get (n0+1))=some [.i .u64 (c:Int)]:=by rw[Y _ ω];exact d1
  simp only[bx] at b7;have es:AM.sub (N.flatMap fG) (i*4) 4=some (fG t):=cW Uo ht (j:=0) (n:=4) ω;have ts:=ec t4 (ec t5 (ec t10 (ec d6 (ec b5 b6))));have V:∀e h',H<=h'.next ->(∀j,j<H ->h'.oB.get j=W.get j) ->k (ι e) h':=λe h' q1 q2=>U e h' ω λj J=>(q2 j ω).trans (Y j ω);have d4:nice 64 (eR jT 1 true t.rem)=true:=A4 zi;have Z:∀(o1 o2:bC) j,j<H ->((W.put H o1).put H o2).get j=W.get j:=λo1 o2 j J=>by
   exact U0
  have I:∀(o1 o2 o3 o4:bC) j,j<H ->((((W.put H o1).put H o2).put (H+1) o3).put (H+1) o4).get j=W.get j:=λo1 o2 o3 o4 j J=>by
   exact U0
  have O:=ec ts (ec d5 (ec b7 b8));rcases hm with ⟨⟨hp,⟨x',x9,c7⟩,d3⟩,hr⟩|⟨qi,y,b4,hy,-⟩;obtain⟨pr,tk,tx,rm⟩:=t;dsimp only at hp c7 d3 hr b1 d4;subst hp c7;simp only[fG] at es;obtain⟨tc,g0,g1⟩:=re (g:=g) G.tcl (i:=x') ω;have e7:AM.sub (g.tc.zipIdx.flatMap dq) (x'*7) 7=some (dq (tc,x')):=cW qx g1 (j:=0) (n:=7) ω;have hh:=λh=>bi7 S A FE (G.tc tc (dI g0)).f hc h;simp only[eT,eD] at hh;obtain⟨Bs,c6⟩:=bU3 S FC F hg (t:=tc) (.inl x9) d3;simp only[dq] at e7 c6;have g3:g.tc.zipIdx.length=11:=by rw[ny,G.tcl]
  have g2:x'<11:=by omega
  refine Z3 O es e7 ?_;refine E.cN (hh _) ?_;cases hT:mf tc c;refine Z1 O ?_;exact V 91 _ (by show H<=H+1+1;omega) (I _ _ _ _);refine Z1 O ?_;refine E.cN (c6 _) ?_;cases Bs;refine Z1 O ?_;exact V 91 _ (by show H<=H+1+1;omega) (I _ _ _ _);refine Z1 O ?_;obtain⟨b2,f8⟩:=bV6 S E A FC F FE hg G hc hr b1;refine E.cN (f8 _ _ _ ?_ ?_) ?_;exact(congrArg cG (I _ _ _ _ n0 (show n0<H by omega))).trans D0';exact(congrArg cG (I _ _ _ _ (n0+1) (show n0+1<H by omega))).trans b8;cases b2 with
  |true=>
   refine Z1 O ?_;exact V 91 _ (by show H<=H+1+1;omega) (I _ _ _ _)
  |false=>
   refine Z1 O ?_;refine ih _ _ ⟨by show n1<=H+1+1;omega,λj J=> ?_,?_,?_,?_,?_,?_,?_⟩;exact(I _ _ _ _ j ω).trans (Y j J);(iterate 6 exact U1 ts)
  obtain⟨pr,tk,tx,rm⟩:=t;dsimp only at b4 d4;subst b4;simp only[fG] at es;have b4:=(eC.1 hy).1;have e3:AM.sub (g.pR.flatMap aM) (qi*13+3) 2=some [tp (aE y.cond).1,.i .i64 ((aE y.cond).2:Int)]:=by
   have:=cW kr hy (j:=3) (n:=2) ω;simpa[aM] using this
  have hh:=λh=>bi7 S A FE (G.p y (dI hy)).cond.f hc h;simp only[eT,eD] at hh;refine Z3 O es e3 ?_;refine E.cN (hh _) ?_;cases hT:mf y.cond c;refine Z0 ?_;exact V 91 _ (by show H<=H+1;omega) (Z _ _);refine Z1 O ?_;refine ih _ _ ⟨by show n1<=H+1;omega,λj J=> ?_,?_,?_,?_,?_,?_,?_⟩;exact(Z _ _ j ω).trans (Y j J);(iterate 6 exact U1 ts);rintro τ ⟨H,v2,W⟩ ⟨b3,Y,t4,t5,t10,d6,b5,b6⟩;refine Z2 b5 b6 ?_;exact U 0 _ b3 λj J=>Y j ω;(iterate 6 exact U0)
 have ne:((x.left:Int)=(m:Int))=False:=cE;refine Z7 d0 d2 vq e0 z e1 ne ?_;exact U 91 _ (bB _) λ_ _=>rfl
end
def bV7 s:wV (jT s)=true:=rfl
variable {h:AH}
def cg9 {b v n esz cs} (H:SL b h v n esz cs):gU h esz v .sn= .v v h:=by
 rcases H with ⟨rfl,rfl,rfl⟩|⟨q,rfl,-,-,j,I⟩;rfl;show gD h (.sl q 0 n none esz) 0 [] esz=_;rfl
def ch0 {l j n new} (H:AM.sub l j ((n+1)*1)=some new) (J:wV new=true) (I:n+1<=1048576):gU h 1 .sn (.ds l j (n+1) 1)= .v (.sl h.next 0 (n+1) none 1) ⟨h.next+1,h.ver,h.oB.put h.next (.cells h.ver new)⟩:=by
 have e1:eI h 1 (.ds l j (n+1) 1)=some new:=JW H;show(match ij (.ds l j (n+1) 1),eI h 1 (.ds l j (n+1) 1) with|some n',some l=>gD h .sn n' l 1|_,_=> .bad)=_;rw[e1];show gD h .sn (n+1) new 1=_;show(bif Nat.ble (n+1) 1048576&&wV new then h.new (.cells h.ver new) λo h=>fN (n+1) λn=>da.v (.sl o 0 n none 1) h else da.bad)=_;have O:Nat.ble (n+1) 1048576=true:=by rw[wX];simpa using I
 rw[O,J];simp only[A7,fC,dT,AH.new_eq]
def SL.pushR {b v L R} (H:SL b h v L.length 1 (L.flatMap jT)) (hb:b<=h.next) (U:L.length+R.length<=1048576):
 ∃v' h',gU h 1 v (eR jT 1 true R)= .v v' h'/\ h.next<=h'.next/\ SL b h' v' (L++R).length 1 ((L++R).flatMap jT)/\ (∀j,j<h.next ->(∀n c,v≠.sl j 0 n c 1) ->h'.oB.get j=h.oB.get j)/\ (v'=v∨v'= .sl h.next 0 (L++R).length none 1):=by
 rcases R with _|⟨r,R⟩;exact⟨v,h,cg9 H,bB _,by simpa using H,λ_ _ _=>rfl,.inl rfl⟩;have O:((r::R).flatMap jT).length=(R.length+1)*1:=by rw[kh (k:=1) Qv];simp
 have J:=w7 bV7 (r::R);have e:=mM O;rw[yT];rcases H with ⟨h0,rfl,h2⟩|⟨q,rfl,h2,h3,V,W⟩;have Y:L=[]:=pM h0;subst Y;refine⟨_,_,ch0 e J (by simpa using U),nD _,.inr ⟨h.next,rfl,hb,qI _,?_,by simpa using O⟩,λj Z _=> ?_,.inr rfl⟩;show cG ((h.oB.put h.next _).get h.next)=_;rw[T.get_put,aF rfl];rfl;show(h.oB.put h.next _).get j=_;rw[T.get_put,aD ω];have I:L.length+(R.length+1)<=1048576:=by simpa using U
 refine⟨_,_,aP3 e J V W I,nD _,.inr ⟨h.next,by rw[dy];rfl,hb,qI _,?_,by rw[kh (k:=1) Qv]⟩,λj Z hv=> ?_,.inr (by rw[dy];rfl)⟩;show cG (((h.oB.put q _).put h.next _).get h.next)=_;rw[T.get_put,aF rfl,Bd];rfl;show((h.oB.put q _).put h.next _).get j=_;rw[T.get_put,aD ω,T.get_put,aD (λe=>hv L.length none (by rw[e]))]
section
variable {P:Program} {X:aR} {GL:T (List AV)} {ae:T au} {C:aK Prop} (S:aT P X GL ae) (F:bz8 ae)
def ch1 (S:aT P X GL ae) (F:bz8 ae) (I:Ib P X GL) {s} (j:s∈DV++[[32],[]]) h:bP P X GL 22 [.s s] h (.b false) h:=by
 refine dR S (n:=9) (bg.intro λC E=> ?_) (by simp only[aL,bZ,oK]) h;refine E.bS (F.f 22) (Z0 ?_);refine E.cN (bU1 S F I j _) (Z0 ?_);exact⟨1,rfl⟩
def ch2 (E:Sem P X GL ae C) (F:bz8 ae) {R} (V:R.length<=1000) h k (I:∀v h',h.next<=h'.next ->(∀j,j<h.next ->h'.oB.get j=h.oB.get j) ->SL h.next h' v R.length 1 (R.flatMap jT) ->k v h'):du C 19 [eR jT 1 true R] h k:=by
 obtain⟨n0,v0,ob⟩:=h;rw[E.cB (F.f 19)];rcases R with _|⟨r,R⟩;have H:eH 6 (.lf .sl) .sn .sn=some true:=rfl;refine Z2 @qv H ?_;exact I _ _ (bB _) (λ_ _=>rfl) (.inl ⟨rfl,rfl,rfl⟩);have Ff:nice 64 (eR jT 1 true (r::R))=true:=A4 zi;have H:∀l n,eH 6 (.lf .sl) (.ds l 0 n 1) .sn=some false:=λ_ _=>rfl;have J:((r::R).flatMap jT).length=(R.length+1)*1:=by rw[kh (k:=1) Qv];simp
 have O:=Bv (esz:=1) (h:=⟨n0+1,v0,ob.put n0 (.cells v0 [])⟩) (o:=n0) (mM J) (w7 bV7 (r::R)) (by exact U0) (by have:(r::R).length=R.length+1:=rfl;omega);rw[yT] at Ff ⊢;generalize (r::R).flatMap jT=cs at*;simp only[gJ] at Ff ⊢;refine Z3 H @tM O ?_;refine I _ _ (by show n0<=n0+1+1;omega) (λj U=> ?_) (.inr ⟨n0+1,rfl,nD n0,qI _,U0,J⟩);have W:j<n0:=U;exact U0
end
section
def ch3 {g} (G:oy g):∀f H,(∀s∈H,s.1=true ->s.2<9) ->Fo.ok g H f ->∀t∈f.fl,bH2 g t/\ t.rem.length<=2:=by
 intro f;induction f with
 |nil=>exact λ_ _ _ t ht=>by simp[Fo.fl] at ht
 |lf t r ih=>
  intro H O I u j;rcases H with _|⟨s,H⟩;exact I.elim;rcases ey.1 j with rfl|j;obtain⟨⟨h1,h2,h3,R,W⟩,-⟩:=I;have Z:=O s (by simp) h3;refine⟨.inl ⟨⟨h1,⟨s.2,Z,h2⟩,bT9 Z R⟩,λx hx=> ?_⟩,W.1⟩;obtain⟨k,hk,rfl⟩:=W.2 x hx;exact bG3 hk;exact ih H (λs J=>O s (by simp[J])) I.2 u j
 |nd t kd r U V=>
  intro H O I u j;rcases H with _|⟨s,H⟩;exact I.elim;obtain⟨⟨q,x,h1,h2,-,R,-,-,Y⟩,h8⟩:=I;rcases ey.1 j with rfl|j;exact⟨.inr ⟨q,x,h1,h2,Y⟩,by rw[Y];exact oi _⟩;rcases fO.1 j with j|j;exact U x.right (λs J h=>by rcases(G.p x (dI h2)).sym s J with ⟨-,h⟩|⟨e,-⟩;exact h;rw[e] at h;cases h) R u j;exact V H (λs J=>O s (by simp[J])) h8 u j
def ch4 t:wV (fG t)=true:=by
 cases h:t.rem<;>simp only[fG,h]<;>rfl
def SL.keep {b h h' v n esz cs} (H:SL b h v n esz cs) (R:h.next<=h'.next) (old:∀j,b<=j ->j<h.next ->(∃n c,v= .sl j 0 n c esz) ->h'.oB.get j=h.oB.get j):SL b h' v n esz cs:=by
 rcases H with H|⟨q,h1,h2,I,J,O⟩;exact .inl H;exact .inr ⟨q,h1,h2,by omega,by rw[old q h2 I ⟨_,_,h1⟩];exact J,O⟩
def SL.lt {b h v n esz cs} (H:SL b h v n esz cs) {j n' c} (e:v= .sl j 0 n' c esz):b<=j/\ j<h.next:=by
 rcases H with ⟨-,h1,-⟩|⟨q,h1,h2,I,-⟩;rw[h1] at e;cases e;rw[h1] at e;cases e;exact⟨h2,I⟩
structure P2 (b:Nat) (h:AH) (tv:AV) (TL:List (List Nat)) (lv:AV) (LV:List Tn):Prop where
 t:SL b h tv TL.length 1 (TL.flatMap jT)
 l:SL b h lv LV.length 4 (LV.flatMap fG)
 d:∀j n c n' c',tv= .sl j 0 n c 1 ->lv≠.sl j 0 n' c' 4
structure P3 (b:Nat) (h:AH) (tv:AV) (TL:List (List Nat)) (lv:AV) (LV:List Tn) (p:Nat) (cs:List AV):Prop extends P2 b h tv TL lv LV where
 q:p<h.next/\ b<=p
 k:cG (h.oB.get p)=some cs
 pt:∀n c,tv≠.sl p 0 n c 1
 pl:∀n c,lv≠.sl p 0 n c 4
variable {b:Nat} {h:AH} {tv lv:AV} {TL:List (List Nat)} {LV:List Tn} {p:Nat} {cs:List AV}
def P2.add (H:P2 b h tv TL lv LV) (hb:b<=h.next) {h'} (J:h'.next=h.next+1) (old:∀j,j<h.next ->h'.oB.get j=h.oB.get j) (hc:cG (h'.oB.get h.next)=some cs):P3 b h' tv TL lv LV h.next cs:=
 ⟨⟨H.t.up ω λj _ I=>old j I,H.l.up ω λj _ I=>old j I,H.d⟩,⟨by omega,hb⟩,hc,λn c e=>by have:=(H.t.lt e).2;omega,λn c e=>by have:=(H.l.lt e).2;omega⟩
def P3.put (H:P3 b h tv TL lv LV p cs) (hb:b<=h.next) {h'} (J:h'.next=h.next+1) (old:∀j,j<h.next ->h'.oB.get j=h.oB.get j):P3 b h' tv TL lv LV p cs:=
 ⟨⟨H.t.up ω λj _ I=>old j I,H.l.up ω λj _ I=>old j I,H.d⟩,⟨by have:=H.q.1;omega,H.q.2⟩,by rw[old p H.q.1];exact H.k,H.pt,H.pl⟩
def P3.pushR (H:P3 b h tv TL lv LV p cs) (hb:b<=h.next) {R} (W:TL.length+R.length<=1048576):
 ∃I h',gU h 1 tv (eR jT 1 true R)= .v I h'/\ h.next<=h'.next/\ P3 b h' I (TL++R) lv LV p cs/\∀j,j<b ->h'.oB.get j=h.oB.get j:=by
 obtain⟨v',h',a1,a2,a3,a4,a5⟩:=H.t.pushR hb W;have U:∀j,j<h.next ->(∀n c,tv≠.sl j 0 n c 1) ->h'.oB.get j=h.oB.get j:=a4;refine⟨v',h',a1,a2,⟨⟨a3,H.l.keep a2 λj _ V ⟨n,c,e⟩=>U j V λn' O J=>H.d j n' O n c J e,λj n c n' O e J=> ?_⟩,⟨by have:=H.q.1;omega,H.q.2⟩,by rw[U p H.q.1 H.pt];exact H.k,λn c e=> ?_,H.pl⟩,λj V=>U j ω λn c e=>by have:=(H.t.lt e).1;omega⟩;rcases a5 with rfl|rfl;exact H.d j n c n' O e J;cases e;have:=(H.l.lt J).2;omega;rcases a5 with rfl|rfl;exact H.pt n c e;cases e;have:=H.q.1;omega
def P3.pushL (H:P3 b h tv TL lv LV p cs) (hb:b<=h.next) {o2 t} (c2:cG (h.oB.get o2)=some (fG t)) (R:LV.length+1<=1048576):
 ∃h',gU h 4 lv (.sl o2 0 1 (some 1) 4)= .v (.sl h.next 0 (LV.length+1) none 4) h'/\ h'.next=h.next+1/\ P3 b h' tv TL (.sl h.next 0 (LV.length+1) none 4) (LV++[t]) p cs/\∀j,j<b ->h'.oB.get j=h.oB.get j:=by
 obtain⟨h',a1,a2,a3,a4⟩:=H.l.push hb c2 (Uo t) (ch4 t) R;refine⟨h',a1,a2,⟨⟨H.t.keep ω λj _ O ⟨n,c,e⟩=>a4 j O λn' J I=>H.d j n c n' J e I,by rw[dy,Bd,pO];exact a3,λj n c n' J e I=> ?_⟩,⟨by have:=H.q.1;omega,H.q.2⟩,by rw[a4 p H.q.1 H.pl];exact H.k,H.pt,λn c e=> ?_⟩,λj O=>a4 j ω λn c e=>by have:=(H.l.lt e).1;omega⟩;cases I;have:=(H.t.lt e).2;omega;cases e;have:=H.q.1;omega
def P3.pushT (H:P3 b h tv TL lv LV p cs) (hb:b<=h.next) {o2 s} (c2:cG (h.oB.get o2)=some [.s s]) (R:TL.length+1<=1048576):
 ∃h',gU h 1 tv (.sl o2 0 1 (some 1) 1)= .v (.sl h.next 0 (TL.length+1) none 1) h'/\ h'.next=h.next+1/\ P3 b h' (.sl h.next 0 (TL.length+1) none 1) (TL++[s]) lv LV p cs/\∀j,j<b ->h'.oB.get j=h.oB.get j:=by
 obtain⟨h',a1,a2,a3,a4⟩:=H.t.push hb c2 rfl rfl R;refine⟨h',a1,a2,⟨⟨by rw[dy,Bd,pO];exact a3,H.l.keep ω λj _ O ⟨n,c,e⟩=>a4 j O λn' J I=>H.d j n' J n c I e,λj n c n' J e I=> ?_⟩,⟨by have:=H.q.1;omega,H.q.2⟩,by rw[a4 p H.q.1 H.pt];exact H.k,λn c e=> ?_,H.pl⟩,λj O=>a4 j ω λn c e=>by have:=(H.t.lt e).1;omega⟩;cases e;have:=(H.l.lt I).2;omega;cases e;have:=H.q.1;omega
end
def SL.deepS {b h v L} (H:SL b h v L.length 1 (L.flatMap jT)):∃nl,∀n≥10,deep n h v=some (eR jT 1 nl L):=by
 have j:∀m,bJ (m+1) h (L.flatMap jT)=some (L.flatMap jT):=λm=>qZ (λs=>by simp only[jT,aL,bZ,oK]) L;rcases H with ⟨h0,rfl,-⟩|⟨q,rfl,h2,R,I,U⟩;have J:L=[]:=pM h0;subst J;exact⟨true,λn O=>by obtain⟨m,rfl⟩:∃m,n=m+1:=⟨n-1,by omega⟩;rfl⟩;refine⟨false,λn O=> ?_⟩;obtain⟨m,rfl⟩:∃m,n=m+2:=⟨n-2,by omega⟩;rw[gA (n:=m+1) I (j m)];cases L<;>rfl
def Fo.wt_le {g}:∀{f ss},Fo.ok g ss f ->f.wt<=24*f.fl.length/\ f.ww<=29*f.fl.length
 | .nil,[],_=>⟨oi _,oi _⟩
 | .lf t r,s::ss,h=>by
  have e:=Fo.wt_le h.2;have r2:=h.1.2.2.2.2.1;simp only[Fo.wt,Fo.ww,Fo.fl,gJ];omega
 | .nd t k r,s::ss,h=>by
  obtain⟨⟨q,x,h1,-,-,j,-⟩,h2⟩:=h;have e1:=Fo.wt_le j;have e2:=Fo.wt_le h2;simp only[Fo.wt,Fo.ww,Fo.fl,gJ,dy];omega
 | .nil,_::_,h=>h.elim
 | .lf _ _,[],h=>h.elim
 | .nd _ _ _,[],h=>h.elim
def DW (o i:Nat):List (Int×AV):=(Jb o).take i
def Qw {C:aK Prop} {τ H j I o ob' m q v} (i f:Nat) (h:ups (i:Int) (.f f [.p o 0] []) (DW o i)=DW o (i+1)) (J:(DW o i).length=i/\ (DW o (i+1)).length=i+1) (O:mG (T.get ob' I)=some (di kK id 0 (DW o i),i)) (R:az C τ m= .m I) (U:az C τ q= .i .i64 (i)) (V:az C τ v= .f f [.p o 0] []):
 step (az C τ) ⟨H,j,ob'⟩ (.mupd (.lf .i) m q v)= .v .un ⟨H,j+1,ob'.put I (.map (j+1) (di kK id 0 (DW o (i+1))) (i+1))⟩:=by
 have:=mL (k:=(i:Int)) (v:=AV.f f [.p o 0] []) (en:=id) (ek:=kK) (l:=DW o i) (Az (k:= .i64)) (h:=⟨H,j,ob'⟩) (fT.2 (by rw[J.1];exact O)) R U V;rw[h,J.2] at this;exact this
section
variable {P:Program} {X:aR} {GL:T (List AV)} {ae:T au} {C:aK Prop} (E:Sem P X GL ae C) (F:bz8 ae) {x:BX} {h:AH} {D:List Dn} {a l:Nat} {L:List Ru} {N:List Tn} {Gp:List Bool} (B:Ia x L N Gp)
def yx.at (H:yx x h D a l):∃dv,cG (h.oB.get x.o)=some (A8 dv x.bp x.g x.nv x.gv a l x.mv)/\ AM.nice 64 dv=true/\ cellsO dv=some [dv]/\ cellsOf dv=[dv]/\ ew dv=true/\∀j cs,x.pr j=some cs ->cG (h.oB.get j)=some cs:=by
 obtain⟨-,-,⟨dv,hd,J,O⟩,-⟩:=H;obtain⟨r1,r2,r3,r4,-⟩:=hd.nice;exact⟨dv,J,r1,r4,r3,r2,λj cs I=>(O j cs I).2.2.1⟩
def yx.put {n v ob} (H:yx x ⟨n,v,ob⟩ D a l) v' v2 U l' {dv} (W:cG (ob.get x.o)=some (A8 dv x.bp x.g x.nv x.gv a l x.mv)):yx x ⟨n,v',ob.put x.o (.cells v2 (A8 dv x.bp x.g x.nv x.gv U l' x.mv))⟩ D U l':=by
 obtain⟨lo,nx,⟨R,hd,O,V⟩,old⟩:=H;dsimp only at O nx old V;rw[W] at O;have e:dv=R:=by injection O with h;injection h
 subst e;refine⟨lo,nx,⟨dv,hd.up (bB _) λj J _=> ?_,?_,λj cs J=> ?_⟩,λj J I=> ?_⟩;have w:(j=x.o)=False:=cE;exact U0;exact U0;obtain⟨Y,Z,j3,j4⟩:=V j cs J;have w:(j=x.o)=False:=cE;exact⟨Y,Z,wW w j3,j4⟩;have w:(j=x.o)=False:=dQ I;exact wW w (old j J I)
def BX.prot (x:BX) (n:Nat) (cs:List AV):BX:={ x with pr:=λj=>if j=n then some cs else x.pr j }
def yx.prot {n n' v v' ob ob'} (H:yx x ⟨n,v,ob⟩ D a l) {cs} (hn:n<n') (hc:cG (ob'.get n)=some cs) (old:∀j,j<n ->ob'.get j=ob.get j):yx (x.prot n cs) ⟨n',v',ob'⟩ D a l:=by
 have H1:yx x ⟨n',v',ob'⟩ D a l:=H.up (by show n<=n';omega) old;obtain⟨lo,nx,⟨dv,hd,R,pk⟩,Y⟩:=H1;obtain⟨-,O,⟨U,V,J,b0⟩,-⟩:=H;dsimp only at R J O;have e:dv=U:=by
  rw[old x.o ω,J] at R;injection R with h;injection h with h1 h2;exact h1.symm
 subst e;refine⟨lo,nx,⟨dv,hd,R,λj I hj=> ?_⟩,Y⟩;have W:(if j=n then some cs else x.pr j)=some I:=hj;split at W;rename_i e;cases W;subst e;refine⟨O,hn,hc,λm c e=> ?_⟩;rcases V with ⟨-,h,-⟩|⟨q,h,h2,Z,-⟩;rw[h] at e;cases e;rw[h] at e;cases e;exact Nat.lt_irrefl _ Z;exact pk j I W
def yx.unp {n cs} (H:yx (x.prot n cs) h D a l) (U:∀cs,x.pr n≠some cs):yx x h D a l/\ cG (h.oB.get n)=some cs:=by
 obtain⟨lo,nx,⟨dv,hd,V,O⟩,R⟩:=H;refine⟨⟨lo,nx,⟨dv,hd,V,λj I J=>O j I ?_⟩,R⟩,(O n cs ?_).2.2.1⟩;show(if j=n then some cs else x.pr j)=some I;rw[aD λe=>U I (by rw[←e];exact J)];exact J;show(if n=n then some cs else x.pr n)=some cs;rw[aF rfl]
def yx.fresh {n v ob} (H:yx x ⟨n,v,ob⟩ D a l):∀cs,x.pr n≠some cs:=λcs e=>by
 obtain⟨-,-,⟨dv,-,-,j⟩,-⟩:=H;exact Nat.lt_irrefl _ (j n cs e).2.1
def Ia.prot (B:Ia x L N Gp) n cs:Ia (x.prot n cs) L N Gp:=⟨B.g,B.nv,B.nl,B.gv,B.gl,B.rv,B.bk,B.mv⟩
include E F B
theorem ch5 (H:yx x h D a l) {t} (ht:N[a]? =some t) (hp:t.prod<0) (r2:t.rem.length<=2) (hl:l<=1000) (hD:D.length+40<=1048576) k (hk:∀h',yx x h' (D++yz D.length (Pv t)) (a+1) (l+1) ->k (ι (A9 D.length (Pv t))) h'):du C 29 [.p x.o 0] h k:=by
 obtain⟨n0,v0,ob⟩:=h;obtain⟨dv,V,nd,-⟩:=H.at;dsimp only at V;have bT:=V;have lo:=H.lo;have nx:=H.nx;have pf:=H.fresh;dsimp only at nx;have nl:=B.nl;have b3:=(eC.1 ht).1;have e4:sub (N.flatMap fG) (a*4) 4=some (fG t):=cW Uo ht (j:=0) (n:=4) ω;have on:(x.o=n0)=False:=cE;have H1:yx (x.prot n0 (fG t)) ⟨n0+1,v0+1+1,(ob.put n0 (.cells v0 [.i .i64 0,.i .i64 0,.s [],.sn])).put n0 (.cells (v0+1+1) (fG t))⟩ D a l:=H.prot (qI _) U0 λj hj=>by
  exact U0
 have q:cG (((ob.put n0 (.cells v0 [.i .i64 0,.i .i64 0,.s [],.sn])).put n0 (.cells (v0+1+1) (fG t))).get x.o)=some (A8 dv x.bp x.g x.nv x.gv a l x.mv):=wW on bT;have H2:=H1.put (v0+1+1+1) (v0+1+1+1) (a+1) l (dv:=dv) q;rw[B.nv] at V;simp only[A8,bx,gw,gx] at V;simp only[fG] at e4;refine E.bS (F.f 29) (Z2 V e4 ?_);refine fj E.ok t.rem.length (λi τ h=>yx (x.prot n0 (fG t)) h (D++yz D.length (Eo (t.rem.take i))) (a+1) l/\ τ.get 0=some (.p x.o 0)/\ τ.get 3=some (.p n0 0)/\ τ.get 29=some (eR jT 1 true t.rem)/\ τ.get 30=some (ι (t.rem.length:Int))/\ τ.get 31=some (ι (i:Int))/\ τ.get 4=some (ι (A9 D.length (Eo (t.rem.take i))))/\ uT (Eo (t.rem.take i))<=4*i) ?_ ?_ _ _ ⟨?_,?_,?_,?_,?_,?_,?_,?_⟩;rintro i τ h hi ⟨H,t0,t3,O,I,J,t4,sz⟩ ih;have hr:t.rem[i]? =some t.rem[i]:=ef hi;generalize t.rem[i]=r at hr;have tk:Eo (t.rem.take (i+1))=jn (jn (Eo (t.rem.take i)) (some (.tx r))) (some .hd):=by
  unfold Eo;rw[nY hr,xH];rfl
 have Z:((i:Int)<(t.rem.length:Int))=True:=cJ;have e1:sub (t.rem.flatMap jT) i 1=some [.s r]:=by have:=cW Qv hr (j:=0) (n:=1) ω;simpa[jT] using this
 generalize hT:Eo (t.rem.take i)=T0 at*;have W:(D++yz D.length T0).length=D.length+uT T0:=by rw[dy,HU]
 obtain⟨n1,v1,Y⟩:=h;refine Z8 t0 t4 O I J Z e1 @bG ?_;refine E.run (Qt E F H (by rw[W];omega) _ λh2 H2=> ?_);rw[W] at H2 ⊢;have q1:=HH T0 (some (.tx r));have q2:=HH (jn T0 (some (.tx r))) (some .hd);have q3:uT (some (Dt.tx r))=1:=rfl;have q4:uT (some Dt.hd)=1:=rfl;have l2:(D++yz D.length (jn T0 (some (.tx r)))).length=D.length+uT (jn T0 (some (.tx r))):=by rw[dy,HU]
 refine Y2 t0 t4 ?_;refine E.run (I3 E F (D:=D) (A:=T0) (B:=some (.tx r)) H2 rfl ω _ λh3 H3=> ?_);refine Y2 t0 t4 ?_;refine E.run (an5 E F (n:=1) H3 (by rw[l2];omega) _ λh4 H4=> ?_);rw[l2] at H4 ⊢;refine Y2 t0 t4 ?_;refine E.run (I3 E F (D:=D) (A:=jn T0 (some (.tx r))) (B:=some .hd) H4 rfl ω _ λh5 H5=> ?_);refine Y1 J ?_;refine ih _ _ ⟨?_,?_,?_,?_,?_,?_,?_,?_⟩;rw[tk];exact H5;exact U1 t0;exact U1 t3;exact U1 O;exact U1 I;exact U0;rw[tk];exact U0;rw[tk];omega;rintro τ h ⟨H,t0,t3,O,I,J,t4,sz⟩;rw[mR] at H t4 sz;obtain⟨n1,v1,Y⟩:=h;obtain⟨U,R,b4,-,-,-,b0⟩:=H.at;have c3:cG (Y.get n0)=some (fG t):=b0 n0 _ (aF rfl);dsimp only at R;have H3:=H.put (v1+1) (v1+1) (a+1) (l+1) R;have ll:aY .add (ι (l:Int)) (ι 1)=some (ι ((l+1:Nat):Int)):=bK ω;have W:(D++yz D.length (Eo t.rem)).length=D.length+uT (Eo t.rem):=by rw[dy,HU]
 have q3:uT (some (Dt.tx t.text))=1:=rfl;have nv:=B.nv;replace R:cG (Y.get x.o)=some (A8 U x.bp x.g (eR fG 4 true N) x.gv (a+1) l x.mv):=by rw[←nv];exact R
 simp only[A8,bx,gw,gx] at R;simp only[fG] at c3;refine Z7 t0 t3 I J R c3 ll ?_;refine E.run (Qt E F (x:=x.prot n0 (fG t)) (D:=D++yz D.length (Eo t.rem)) (a:=a+1) (l:=l+1) (by simpa only[A8,bx,gw,gx,nv] using (show yx (x.prot n0 (fG t)) ⟨n1,v1+1,Y.put x.o (.cells (v1+1) (A8 U x.bp x.g x.nv x.gv (a+1) (l+1) x.mv))⟩ _ _ _ from H3)) (by rw[W];omega) _ λh2 H2=> ?_);rw[W] at H2 ⊢;obtain⟨n2,v2,aJ⟩:=h2;obtain⟨-,-,-,-,-,-,b1⟩:=H2.at;have c4:cG (aJ.get n0)=some (fG t):=b1 n0 _ (aF rfl);simp only[fG] at c4;refine Z2 t0 t4 ?_;refine E.run (I3 E F (D:=D) (A:=Eo t.rem) (B:=some (.tx t.text)) H2 rfl ω _ λh3 H3=> ?_);obtain⟨n3,v3,cC⟩:=h3;obtain⟨-,-,-,-,-,-,b2⟩:=H3.at;have c5:cG (cC.get n0)=some (fG t):=b2 n0 _ (aF rfl);simp only[fG] at c5;refine Z0 ?_;exact hk _ (H3.unp pf).1;have e:D++yz D.length (Eo (t.rem.take 0))=D:=by rw[Cf];exact lG D
 rw[e];have nv:=B.nv;simpa only[A8,bx,fG,gw,gx,nv] using (show yx (x.prot n0 (fG t)) ⟨n0+1,v0+1+1+1,((ob.put n0 (.cells v0 [.i .i64 0,.i .i64 0,.s [],.sn])).put n0 (.cells (v0+1+1) (fG t))).put x.o (.cells (v0+1+1+1) (A8 dv x.bp x.g x.nv x.gv (a+1) l x.mv))⟩ D (a+1) l from H2);(iterate 5 exact U0);rw[Cf];exact U0;rw[Cf];exact bB _
end
def Qb (C:aK Prop) (L:List Ru) (N:List Tn) (Gp:List Bool) (f:Fo):Prop:=∀(x:BX) (h:AH) (D:List Dn) (a l q k:Nat) (p:Pr) (R:List Tn) (K:AV ->AH ->Prop),Ia x L N Gp ->yx x h D a l ->x.g.pR[q]? =some p ->k<=p.right.length ->Fo.ok x.g (p.right.drop k) f ->
 N.drop a=f.fl++R ->l=Fo.nlv (N.take a) ->D.length+f.wt+40<=1000000 ->(∀T h',HT f T ->yx x h' (D++yz D.length T) (a+f.fl.length) (l+f.lv) ->K (ι (A9 D.length T)) h') ->du C 65 [.p x.o 0,.i .i64 (q:Int),.i .i64 (k:Int)] h K
section
variable {P:Program} {X:aR} {GL:T (List AV)} {ae:T au} {C:aK Prop} (E:Sem P X GL ae C) (F:bz8 ae) {x:BX} {h:AH} {D:List Dn} {a l:Nat} {L:List Ru} {N:List Tn} {Gp:List Bool} (B:Ia x L N Gp)
include E F B
theorem bV8 (H:yx x h D a l) {t:Tn} {kd R} {q:Nat} {p} (hp:t.prod=(q)) (hq:x.g.pR[q]? =some p) (aC:Fo.ok x.g p.right kd) (IH:Qb C L N Gp kd) (hN:N.drop a=t::(kd.fl++R)) (hl:l=Fo.nlv (N.take a)) (hD:D.length+kd.wt+50<=1000000)
 (k) (hk:∀T U h',HT kd U ->(T=none↔U=none) ->DH T=DH U ->DP A6 T ->uT T<=uT U+2/\ jf T=jf U ->yx x h' (D++yz D.length T) (a+1+kd.fl.length) (l+kd.lv) ->k (ι (A9 D.length T)) h'):du C 29 [.p x.o 0] h k:=by
 obtain⟨n0,v0,ob⟩:=h;obtain⟨dv,ho,nd,-⟩:=H.at;dsimp only at ho;have bT:=ho;have lo:=H.lo;have nx:=H.nx;have pf:=H.fresh;dsimp only at nx;have nl:=B.nl;have ht:N[a]? =some t:=HK hN;have b4:=(eC.1 ht).1;have e4:sub (N.flatMap fG) (a*4) 4=some (fG t):=cW Uo ht (j:=0) (n:=4) ω;have on:(x.o=n0)=False:=cE;have H1:yx (x.prot n0 (fG t)) ⟨n0+1,v0+1+1,(ob.put n0 (.cells v0 [.i .i64 0,.i .i64 0,.s [],.sn])).put n0 (.cells (v0+1+1) (fG t))⟩ D a l:=H.prot (qI _) U0 λj hj=>by
  exact U0
 have q0:cG (((ob.put n0 (.cells v0 [.i .i64 0,.i .i64 0,.s [],.sn])).put n0 (.cells (v0+1+1) (fG t))).get x.o)=some (A8 dv x.bp x.g x.nv x.gv a l x.mv):=wW on bT;have H2:=H1.put (v0+1+1+1) (v0+1+1+1) (a+1) l (dv:=dv) q0;have nv:=B.nv;have H3:yx (x.prot n0 (fG t)) ⟨n0+1,v0+1+1+1,((ob.put n0 (.cells v0 [.i .i64 0,.i .i64 0,.s [],.sn])).put n0 (.cells (v0+1+1) (fG t))).put x.o (.cells (v0+1+1+1) (A8 dv x.bp x.g x.nv x.gv (a+1) l x.mv))⟩ D (a+1) l:=H2;simp only[A8,bx,fG,gw,gx,nv] at H3;obtain⟨b,Sp,Ns,Al,Ke,bk,b1,b5,Y,c5,-,-,m3,m4⟩:=B.bk;rw[B.nv] at ho;simp only[A8,bx,gw,gx] at ho;simp only[fG] at e4;have tk:N.take (a+1)=N.take a++[t]:=nY ht;have l1:Fo.nlv (N.take (a+1))=l:=by
  rw[tk,Fo.nlv_app,←hl];show l+(List.filter _ [t]).length=l;rw[Fx,ot (by omega:¬t.prod<0)];rfl
 refine E.bS (F.f 29) (Z2 ho e4 ?_);rw[hp] at H3 ⊢;refine E.run (IH (x.prot n0 [.i .i64 (q:Int),.i .i64 t.tok,.s t.text,eR jT 1 true t.rem]) _ D (a+1) l q 0 p R _ (B.prot _ _) (by simpa only[fG,hp] using H3) hq (oi _) (by rw[List.drop_zero];exact aC) (HP hN) l1.symm ω λU h2 hU H4=> ?_);have I:∀{n v:Nat} {ob:T bC} {D':List Dn} {a' l':Nat},yx (x.prot n0 [.i .i64 (q:Int),.i .i64 t.tok,.s t.text,eR jT 1 true t.rem]) ⟨n,v,ob⟩ D' a' l' ->∃dv,cG (ob.get x.o)=some (A8 dv (.p (b+5) 0) x.g (eR fG 4 true N) x.gv a' l' x.mv)/\ AM.nice 64 dv=true/\ cG (ob.get n0)=some [.i .i64 (q:Int),.i .i64 t.tok,.s t.text,eR jT 1 true t.rem]/\
  cG (ob.get (b+5))=some [.m (b+1),.m (b+2),.m (b+3),.m (b+4)]/\ mG (ob.get (b+3))=mX kK AV.b Al/\ mG (ob.get (b+4))=mX kK AV.b Ke:=λH=>by
  obtain⟨dv,h1,h2,-,-,-,h3⟩:=H.at;have old:=H.old;refine⟨dv,?_,h2,h3 n0 _ (aF rfl),?_,?_,?_⟩;rw[←nv,←b1];exact h1;exact(congrArg cG (old (b+5) (by show b+5<x.m0;omega) (Y 5 ω))).trans c5;exact(congrArg mG (old (b+3) (by show b+3<x.m0;omega) (Y 3 ω))).trans m3;exact(congrArg mG (old (b+4) (by show b+4<x.m0;omega) (Y 4 ω))).trans m4
 have O:∀W V ob' (τ:T AV),mG (T.get ob' (b+3))=mX kK AV.b Al ->az C τ (.t 85)= .m (b+3) ->az C τ (.t 87)= .i .i64 (q:Int) ->step (az C τ) ⟨W,V,ob'⟩ (.look (.lf .i) (.t 85) (.t 87) (.b false) false)= .v (.b ((look (q:Int) Al).getD false)) ⟨W,V,ob'⟩:=
  λW V ob' τ q1 q2 q3=>(sd (k:=(q:Int)) (z:= .b false) (en:=AV.b) Az (h:=⟨W,V,ob'⟩) (fT.2 q1) q2 q3).trans (by rw[aX0])
 have J:∀W V ob' (τ:T AV),mG (T.get ob' (b+4))=mX kK AV.b Ke ->az C τ (.t 105)= .m (b+4) ->az C τ (.t 107)= .i .i64 (q:Int) ->step (az C τ) ⟨W,V,ob'⟩ (.look (.lf .i) (.t 105) (.t 107) (.b false) false)= .v (.b ((look (q:Int) Ke).getD false)) ⟨W,V,ob'⟩:=
  λW V ob' τ q1 q2 q3=>(sd (k:=(q:Int)) (z:= .b false) (en:=AV.b) Az (h:=⟨W,V,ob'⟩) (fT.2 q1) q2 q3).trans (by rw[aX0])
 obtain⟨w1,w2,w3,w4⟩:=cd4 (al:=(look (q:Int) Al).getD false) (kp:=(look (q:Int) Ke).getD false) hU.ft;have fin:=λh' (H':yx (x.prot n0 [.i .i64 (q:Int),.i .i64 t.tok,.s t.text,eR jT 1 true t.rem]) h' (D++yz D.length (Jv ((look (q:Int) Al).getD false) ((look (q:Int) Ke).getD false) U)) (a+1+kd.fl.length) (l+kd.lv))=>hk _ U h' hU w1 w2 w3 w4 (H'.unp pf).1;obtain⟨n2,v2,aJ⟩:=h2;obtain⟨b3,f1,f2,f3,f4,f5,f6⟩:=I H4;simp only[A8,bx,gw,gx] at f1;rcases U with _|U;have z:(0<=A9 D.length none)=False:=dQ (show¬((0:Int)<= -1) by decide);refine Z1 z ?_;exact fin _ H4;have Z:(D++yz D.length (some U)).length=D.length+U.sz:=by rw[dy,HU];rfl
 have us:=U.sz_pos;have z:(0<=A9 D.length (some U))=True:=fq (show(0:Int)<=((D.length+U.sz-1:Nat):Int) by omega);have hz:=hU.z;have b6:U.sz<=kd.wt:=hz;cases ha:(look (q:Int) Al).getD false<;>cases hb:(look (q:Int) Ke).getD false<;>rw[ha] at O fin<;>rw[hb] at J fin;refine Z6 z f1 f3 f4 O J ?_;exact fin _ H4;refine Z6 z f1 f3 f4 O J ?_;refine E.run (I2 E F H4 (by rw[Z];omega) (d:=⟨6,[],0,D.length+U.sz-1,0⟩) _ λh5 H5=> ?_);rw[Z];refine Z0 ?_;have e:A9 D.length (Jv false true (some U))=((D.length+U.sz:Nat):Int):=rfl;rw[e] at fin;exact fin _ (by show yx _ h5 (D++(U.po D.length++_)) _ _;rw[←hZ];exact H5);refine Z6 z f1 f3 f4 O J ?_;refine E.run (I2 E F H4 (by rw[Z];omega) (d:=⟨5,[],0,D.length+U.sz-1,0⟩) _ λh5 H5=> ?_);rw[Z];obtain⟨n5,v5,b2⟩:=h5;obtain⟨b0,g1,g2,g3,g4,g5,g6⟩:=I H5;simp only[A8,bx,gw,gx] at g1;refine Z4 g1 g3 g4 J ?_;have e:A9 D.length (Jv true false (some U))=((D.length+U.sz:Nat):Int):=rfl;rw[e] at fin;exact fin _ (by show yx _ _ (D++(U.po D.length++_)) _ _;rw[←hZ];exact H5);refine Z6 z f1 f3 f4 O J ?_;refine E.run (I2 E F H4 (by rw[Z];omega) (d:=⟨5,[],0,D.length+U.sz-1,0⟩) _ λh5 H5=> ?_);rw[Z];obtain⟨n5,v5,b2⟩:=h5;obtain⟨b0,g1,g2,g3,g4,g5,g6⟩:=I H5;simp only[A8,bx,gw,gx] at g1;refine Z4 g1 g3 g4 J ?_;have l2:(D++yz D.length (some U)++[(⟨5,[],0,D.length+U.sz-1,0⟩:Dn)]).length=D.length+U.sz+1:=by rw[dy,Z];rfl
 refine E.run (I2 E F H5 (by rw[l2];omega) (d:=⟨6,[],0,D.length+U.sz,0⟩) _ λh6 H6=> ?_);rw[l2];refine Z0 ?_;have e:A9 D.length (Jv true true (some U))=((D.length+U.sz+1:Nat):Int):=rfl;rw[e] at fin;exact fin _ (by show yx _ _ (D++((U.po D.length++_)++_)) _ _;rw[←hZ,←hZ];exact H6)
end
def Sb:aw:=eg (sE 65 63)
abbrev aN1:au:=(λy=>eg (bE (pg 65) λo=>pt 63 y o)) Sb
section
variable {P:Program} {X:aR} {GL:T (List AV)} {ae:T au} {C:aK Prop} (E:Sem P X GL ae C) (F:bz8 ae) {x:BX} {h:AH} {D:List Dn} {a l:Nat} {L:List Ru} {N:List Tn} {Gp:List Bool} (B:Ia x L N Gp)
include E F B
theorem KL {r} (IH:Qb C L N Gp r) {q k:Nat} {p} (hq:x.g.pR[q]? =some p) (b3:k+1<=p.right.length) (aC:Fo.ok x.g (p.right.drop (k+1)) r) {R} (hN:N.drop a=r.fl++R) (hl:l=Fo.nlv (N.take a)) {T1 s} (hs:I8 s) (b4:s=none∨0<r.lv)
 (H:yx x h (D++yz D.length T1++yz (D.length+uT T1) s) a l) (hD:D.length+uT T1+r.wt+50<=1000000) {τ} (t0:τ.get 0=some (.p x.o 0)) (t1:τ.get 1=some (ι (q))) (t2:τ.get 2=some (ι (k))) (t7:τ.get 7=some (ι (A9 D.length T1))) (t8:τ.get 8=some (ι (A9 (D.length+uT T1) s)))
 (K) (hK:∀b n h',HT r b ->(b=none ->s=none) ->n<=16 ->yx x h' (D++yz D.length (jn T1 (HF n (jn s b)))) (a+r.fl.length) (l+r.lv) ->K (ι (A9 D.length (jn T1 (HF n (jn s b))))) h'):df C Sb [] (KF K [(6,none)]) τ h:=by
 have l2:(D++yz D.length T1++yz (D.length+uT T1) s).length=D.length+uT T1+uT s:=by rw[dy,dy,HU,HU]
 have l1:(D++yz D.length T1).length=D.length+uT T1:=by rw[dy,HU]
 have b8:=hs.z;have nl:=B.nl;have r8:=(B.g.p p (dI hq)).len;obtain⟨j,Sp,Ns,Al,Ke,bk,b2,b7,U,c5,-,m2,-,-⟩:=B.bk;obtain⟨n0,v0,ob⟩:=h;unfold Sb;refine Y4 t0 t1 t2 (bK (a:=k) ω) ?_;refine E.run (IH x _ _ a l q (k+1) p R _ B H hq b3 aC hN hl (by rw[l2];omega) λb h2 hb H2=> ?_);rw[l2] at H2 ⊢;have b1:b=none ->s=none:=λe=>b4.elim id λh=>by have:=hb.n.1 e;omega
 have bz:=hb.z;have z1:=HH s b;obtain⟨n2,v2,aJ⟩:=h2;rcases b with _|b;have es:=b1 rfl;subst es;have z:(0<=A9 (D.length+uT T1+uT none) none)=False:=dQ (show¬((0:Int)<= -1) by decide);refine Z3 t0 t7 t8 ?_;refine E.run (I3 E F (D:=D) (A:=T1) (B:=none) (by simpa[yz,uT] using H2) rfl (by show D.length+uT T1+0+1<=_;omega) _ λJ H3=> ?_);refine Y0 ?_;exact hK none 0 J hb (λ_=>rfl) ω H3;have z:(0<=A9 (D.length+uT T1+uT s) (some b))=True:=fq (show(0:Int)<=((D.length+uT T1+uT s+b.sz-1:Nat):Int) by omega);refine Z3 t0 t7 t8 ?_;refine E.run (I3 E F (D:=D++yz D.length T1) (A:=s) (B:=some b) H2 l1 ω _ λJ H3=> ?_);obtain⟨V,hV⟩:∃V,jn s (some b)=some V:=by cases s<;>exact⟨_,rfl⟩
 rw[hV] at H3 z1 ⊢;have vz:V.sz<=uT s+uT (some b)+1:=z1;have lV:(D++yz D.length T1++yz (D.length+uT T1) (some V)).length=D.length+uT T1+V.sz:=by rw[dy,l1,HU];rfl
 obtain⟨n3,v3,cC⟩:=J;obtain⟨b6,f1,f2,-⟩:=H3.at;have old:=H3.old;have f4:cG (cC.get (j+5))=some [.m (j+1),.m (j+2),.m (j+3),.m (j+4)]:=(congrArg cG (old (j+5) ω (U 5 ω))).trans c5;have f5:mG (cC.get (j+2))=mX eJ kK Ns:=(congrArg mG (old (j+2) ω (U 2 ω))).trans m2;rw[b2] at f1;dsimp only at f1;simp only[A8,bx,gw,gx] at f1;have O:∀Z Y ob' (τ:T AV),mG (T.get ob' (j+2))=mX eJ kK Ns ->az C τ (.t 58)= .m (j+2) ->az C τ (.t 61)= .ag [.i .i64 (q:Int),.i .i64 (k:Int)] ->
  step (az C τ) ⟨Z,Y,ob'⟩ (.look (.ag [(0,1,false,.lf .i),(1,1,false,.lf .i)]) (.t 58) (.t 61) (ι 0) false)= .v (ι ((look ((q:Int),(k:Int)) Ns).getD 0)) ⟨Z,Y,ob'⟩:=
  λZ Y ob' τ q1 q2 q3=>(sd (k:=((q:Int),(k:Int))) (z:= .i .i64 0) (en:=kK) EP (h:=⟨Z,Y,ob'⟩) (fT.2 q1) q2 q3).trans (by rw[aW9])
 obtain⟨n,hn,b5⟩:∃n:Nat,(look ((q:Int),(k:Int)) Ns).getD 0=(n:Int)/\ n<=16:=by
  rcases e:look ((q:Int),(k:Int)) Ns with _|m;exact⟨0,rfl,by omega⟩;obtain⟨r,r1,r2,r3⟩:=bk.f6 _ _ e;have J:=B.rv r r1;unfold eP at J;simp only[aB,aU] at J;have I:=J.2;rw[aD ω] at I;simp only[aB] at I;have h5:=I.1.1;rw[aD ω,aF r2] at h5;simp only[aB,aU] at h5;exact⟨m.toNat,by show m=_;omega,by omega⟩
 rw[hn] at O;have fin:=λh'=>hK (some b) n h' hb (λe=>by cases e) b5;rw[hV] at fin;by_cases W:n=0;subst W;have zn:(0<((0:Nat):Int))=False:=cE;refine Z7 t0 t1 t2 t7 f1 f4 O ?_;refine E.run (I3 E F (D:=D) (A:=T1) (B:=some V) H3 rfl (by show D.length+uT T1+V.sz+1<=_;omega) _ λI H4=> ?_);refine Y0 ?_;exact fin I H4;have zn:(0<(n:Int))=True:=cJ;refine Z7 t0 t1 t2 t7 f1 f4 O ?_;refine E.run (I2 E F H3 (by rw[lV];omega) (d:=⟨4,[],n,D.length+uT T1+V.sz-1,0⟩) _ λI H4=> ?_);rw[lV];have e2:HF n (some V)=some (.ne n V):=by unfold HF;dsimp only;rw[aD W]
 rw[e2] at fin;have e3:A9 (D.length+uT T1) (some (.ne n V))=((D.length+uT T1+V.sz:Nat):Int):=rfl;have H5:yx x I (D++yz D.length T1++yz (D.length+uT T1) (some (.ne n V))) (a+r.fl.length) (l+r.lv):=by
  show yx x I (D++yz D.length T1++(V.po (D.length+uT T1)++_)) _ _;rw[←hZ];exact H4
 refine Y2 t0 t7 ?_;rw[←e3];refine E.run (I3 E F (D:=D) (A:=T1) (B:=some (.ne n V)) H5 rfl (by show D.length+uT T1+(V.sz+1)+1<=_;omega) _ λh6 H6=> ?_);refine Y0 ?_;exact fin h6 H6
end
def bW0 N a:Fo.nlv (N.take a)<=Fo.nlv N:=by
 have:=Fo.nlv_app (N.take a) (N.drop a);rw[vJ] at this;omega
section
variable {P:Program} {X:aR} {GL:T (List AV)} {ae:T au} {C:aK Prop} (E:Sem P X GL ae C) (F:bz8 ae) {x:BX} {h:AH} {D:List Dn} {a l:Nat} {L:List Ru} {N:List Tn} {Gp:List Bool} (B:Ia x L N Gp)
include E F B
theorem bW1 {r} (IH:Qb C L N Gp r) {q k:Nat} {p} (O:x.g.pR[q]? =some p) (J:k+1<=p.right.length) (Z:Fo.ok x.g (p.right.drop (k+1)) r) {R n1 lf wf} (hN:N.drop (a+n1)=r.fl++R) (hl:l+lf=Fo.nlv (N.take (a+n1))) (H:yx x h D a l) (hD:D.length+wf+r.wt+50<=1000000) (ha:a+n1<=N.length)
 {Q:Option Dt ->Prop} (sub:∀K:AV ->AH ->Prop,(∀T1 h1,Q T1 ->(T1=none↔lf=0) ->uT T1<=wf ->yx x h1 (D++yz D.length T1) (a+n1) (l+lf) ->K (ι (A9 D.length T1)) h1) ->du C 29 [.p x.o 0] h K)
 (K) (hK:∀T1 s b n h',Q T1 ->I8 s ->HT r b ->(b=none ->s=none) ->n<=16 ->yx x h' (D++yz D.length (jn T1 (HF n (jn s b)))) (a+n1+r.fl.length) (l+lf+r.lv) ->K (ι (A9 D.length (jn T1 (HF n (jn s b))))) h'):du C 65 [.p x.o 0,.i .i64 (q),.i .i64 (k)] h K:=by
 have U:=F.g 65 aN1;obtain⟨n0,v0,ob⟩:=h;obtain⟨dv,V,nd,-⟩:=H.at;dsimp only at V;have pl:=B.g.pl;have nl:=B.nl;have gl:=B.gl;have e2:AM.sub (x.g.pR.flatMap aM) (q*13+2) 1=some [eR dO 2 p.rn p.right]:=cW kr O (j:=2) (n:=1) ω;have el:=(eC.1 O).1;have ka:aY .add (ι (k:Int)) (ι 1)=some (ι ((k+1:Nat):Int)):=bK (by have:=(B.g.p p (dI O)).len;omega);simp only[A8,bx,gw,gx] at V;rw[yN E.ok (E.get U)];refine Z2 V e2 ?_;refine E.run (sub _ λT1 h1 hQ hT hz H1=> ?_);have I:=λ{s:Option Dt} (hs:I8 s) (hs0:s=none∨0<r.lv) {h2:AH} H2 {τ:T AV} t0 t1 t2 t7 t8=>KL (x:=x) (h:=h2) (D:=D) (a:=a+n1) (l:=l+lf) (T1:=T1) (τ:=τ) E F B IH O J Z hN hl hs hs0 H2 ω t0 t1 t2 t7 t8 K λb n h' hb hbs hn H'=>hK T1 s b n h' hQ hs hb hbs hn H';have s0:I8 none:=⟨trivial,rfl,by decide,by decide⟩;have Hn:yx x h1 (D++yz D.length T1++yz (D.length+uT T1) none) (a+n1) (l+lf):=by simpa[yz] using H1
 rcases T1 with _|T1;refine Z0 ?_;refine I s0 (.inl rfl) Hn ?_ ?_ ?_ ?_ ?_<;>exact U0;have l1:(D++yz D.length (some T1)).length=D.length+T1.sz:=by rw[dy,HU];rfl
 have b0:T1.sz<=wf:=hz;have b1:lf≠0:=λe=>by cases hT.2 e
 refine Z1 ka ?_;refine E.run (bY3 E F B H1 O J Z hN _ ?_);by_cases W:0<r.lv;have Y:decide (0<r.lv)=true:=zG W;rw[Y];refine Z0 ?_;refine E.run (cc9 E F B H1 (by rw[l1];omega) ha ⟨by omega,by rw[hl,gl];exact bW0 _ _⟩ _ λs h2 hs H2=> ?_);rw[l1] at H2 ⊢;refine Y0 ?_;refine I hs (.inr W) H2 ?_ ?_ ?_ ?_ ?_<;>exact U0;have Y:decide (0<r.lv)=false:=ot W;rw[Y];refine Z0 ?_;refine I s0 (.inl rfl) Hn ?_ ?_ ?_ ?_ ?_<;>exact U0
omit B in
theorem ch6:∀f:Fo,Qb C L N Gp f:=by
 intro f;induction f with
 |nil=>
  intro x h D a l q k p R K B H hq hk aC hN hl hD hK;have b0:=F.g 65 aN1;obtain⟨n0,v0,ob⟩:=h;obtain⟨dv,ho,nd,-⟩:=H.at;dsimp only at ho;have pl:=B.g.pl;have e2:AM.sub (x.g.pR.flatMap aM) (q*13+2) 1=some [eR dO 2 p.rn p.right]:=cW kr hq (j:=2) (n:=1) ω;have el:=(eC.1 hq).1;have I:k=p.right.length:=by
   rcases e:p.right.drop k with _|⟨s,ss⟩;have:=List.drop_eq_nil_iff.1 e;omega;rw[e] at aC;exact aC.elim
  simp only[A8,bx,gw,gx] at ho;rw[yN E.ok (E.get b0)];refine Z2 ho e2 ?_;exact hK none _ HT.nil (by simpa[yz,Fo.fl,Fo.lv] using H)
 |lf t r ih=>
  intro x h D a l q k p R K B H hq hk aC hN hl hD hK;rcases e:p.right.drop k with _|⟨s,ss⟩;rw[e] at aC;exact aC.elim;rw[e] at aC;obtain⟨⟨h1,h2,h3,Y,Z⟩,h6⟩:=aC;have I:k<p.right.length:=by
   rcases iO k p.right.length with h|h;exact h;rw[List.drop_eq_nil_iff.2 h] at e;cases e
  have es:p.right.drop (k+1)=ss:=HP e;have O:N[a]? =some t:=HK hN;have b2:=(eC.1 O).1;have b3:s∈p.right:=dI (HK e);have s9:s.2<9:=by
   rcases(B.g.p p (dI hq)).sym s b3 with h|h;exact h.2;rw[h3] at h;cases h.1
  have b7:A6 t.text:=xI _ (bT9 s9 Y);have b8:∀s∈t.rem,A6 s:=λs W=>by obtain⟨k,hk,rfl⟩:=Z.2 s W;exact xI _ (bG3 hk)
  obtain⟨w1,w2,w3,w4,w5⟩:=cd2 b7 b8;have l1:l+1=Fo.nlv (N.take (a+1)):=by
   rw[nY O,Fo.nlv_app,←hl];show _=l+(List.filter _ [t]).length;rw[Fx,zG (by omega:t.prod<0)];rfl
  have nl:=B.nl;have b6:l<=1000:=by rw[hl];have:=bW0 N a;have h8:Fo.nlv N<=N.length:=List.length_filter_le _ _;omega
  have wt:D.length+(16+4*t.rem.length+r.wt)+40<=1000000:=hD;refine bW1 E F B ih (n1:=1) (lf:=1) (wf:=4*t.rem.length+2) hq I (by rw[es];exact h6) (HP hN) l1 H (by have:=Z.1;omega) ω (Q:=λT=>T=Pv t)
   (λK hK'=>ch5 E F B H O ω Z.1 b6 (by have:=Z.1;omega) K λh' H'=>hK' _ h' rfl ⟨λh=>bh h w1,λh=>by cases h⟩ w4 H') K λT1 s b n h' hQ W hb hbs hn H'=> ?_
  subst hQ;have:=hK _ h' (HT.join (f:= .lf t .nil) (g:= .lf t r) hb W hbs hn ⟨λh=>bh h w1,λh=>by cases h⟩ (w2.trans (by simp[Fo.den])) w3 (by show _<=16+4*t.rem.length+0;omega) (by show _<=21+4*t.rem.length+0;omega) (by simp[Fo.lv]) (by simp[Fo.den]) (by simp[Fo.wt]) (by simp[Fo.ww])) (by
   have e1:a+(Fo.lf t r).fl.length=a+1+r.fl.length:=by simp only[Fo.fl,gJ];omega
   have e2:l+(Fo.lf t r).lv=l+1+r.lv:=by simp only[Fo.lv];omega
   rw[e1,e2];exact H')
  exact this
 |nd t kd r b4 b5=>
  intro x h D a l q k p R K B H hq hk aC hN hl hD hK;rcases e:p.right.drop k with _|⟨s,ss⟩;rw[e] at aC;exact aC.elim;rw[e] at aC;obtain⟨⟨q',p',h1,h2,h3,Y,-⟩,h6⟩:=aC;have I:k<p.right.length:=by
   rcases iO k p.right.length with h|h;exact h;rw[List.drop_eq_nil_iff.2 h] at e;cases e
  have es:p.right.drop (k+1)=ss:=HP e;have O:N[a]? =some t:=HK hN;have J:N.drop a=t::(kd.fl++(r.fl++R)):=by rw[hN];simp[Fo.fl]
  have V:N.drop (a+1)=kd.fl++(r.fl++R):=HP J;have b1:N.drop (a+(1+kd.fl.length))=r.fl++R:=by
   rw[←pK,←ud,V,List.drop_left]
  have l1:l+kd.lv=Fo.nlv (N.take (a+(1+kd.fl.length))):=by
   rw[←pK,take_add V,Fo.nlv_app,nY O,Fo.nlv_app,←hl,Fo.lv_eq Y];show _=l+(List.filter _ [t]).length+_;rw[Fx,ot (by omega:¬t.prod<0)];rfl
  have la:a+(1+kd.fl.length)<=N.length:=by
   have h7:=congrArg List.length J;rw[sU,gJ,dy] at h7;have b2:=(eC.1 O).1;omega
  have wt:D.length+(16+kd.wt+r.wt)+40<=1000000:=hD;refine bW1 E F B b5 (n1:=1+kd.fl.length) (lf:=kd.lv) (wf:=kd.wt+2) hq I (by rw[es];exact h6) b1 l1 H ω la (Q:=λT=>(T=none↔(Fo.nd t kd .nil).lv=0)/\ DH T=kd.den/\ DP A6 T/\ uT T+11<=(Fo.nd t kd .nil).wt/\ jf T+17<=(Fo.nd t kd .nil).ww)
   (λK hK'=>bV8 E F B H h1 h2 Y b4 J hl ω K λT U h' hU e1 e2 e3 e4 H'=>hK' T h' ⟨e1.trans hU.n,e2.trans hU.g,e3,?_,?_⟩ (e1.trans hU.n) (by have:=hU.z;omega) (by rw[←pK];exact H')) K λT1 s b n h' hQ W hb hbs hn H'=> ?_
  have:=hU.z;show _<=16+kd.wt+0;omega;have:=hU.w;show _<=17+kd.ww+0;omega;obtain⟨w1,w2,w3,w4,w5⟩:=hQ;exact hK _ h' (HT.join (f:= .nd t kd .nil) (g:= .nd t kd r) hb W hbs hn w1 (w2.trans (by simp[Fo.den])) w3 w4 w5 (by simp[Fo.lv]) (by simp[Fo.den]) (by simp[Fo.wt]) (by simp[Fo.ww])) (by
   have e1:a+(Fo.nd t kd r).fl.length=a+(1+kd.fl.length)+r.fl.length:=by simp only[Fo.fl,gJ,dy];omega
   have e2:l+(Fo.nd t kd r).lv=l+kd.lv+r.lv:=by simp only[Fo.lv];omega
   rw[e1,e2];exact H')
theorem ch7 (H:yx x h D 0 0) {t kd} (I:∃m,Fo.ok x.g [(false,m)] (.nd t kd .nil)) (j:N=(Fo.nd t kd .nil).fl) (O:D.length+kd.wt+50<=1000000) K
 (R:∀T h',(T=none↔kd.lv=0) ->DH T=kd.den ->DP A6 T ->uT T<=kd.wt+2/\ jf T<=kd.ww ->yx x h' (D++yz D.length T) N.length kd.lv ->K (ι (A9 D.length T)) h'):du C 29 [.p x.o 0] h K:=by
 obtain⟨m,⟨q,p,h1,h2,-,J,-⟩,-⟩:=I;have e0:N.drop 0=t::(kd.fl++[]):=by rw[j];simp[Fo.fl]
 have e1:N.length=0+1+kd.fl.length:=by rw[j];simp[Fo.fl];omega
 refine bV8 E F B H h1 h2 J (ch6 E F kd) e0 rfl O K λT U h' hU k1 k2 k3 k4 H'=>R T h' (k1.trans hU.n) (k2.trans hU.g) k3 (by have:=hU.z;have:=hU.w;omega) (by rw[e1];simpa using H')
end
section
variable {P:Program} {X:aR} {GL:T (List AV)} {ae:T au} {C:aK Prop}
def ch8 (E:Sem P X GL ae C) (F:bz8 ae) {g} (G:oy g) {L} (rv:∀r∈L,eP g r=true) {N t kd m} (H:N=(Fo.nd t kd .nil).fl) (I:Fo.ok g [(false,m)] (.nd t kd .nil)) (R:N.length<=40) {h o go bb u} (hn:h.next=o+1+1) {Sp Ns Al Ke} (bk:kM L Sp Ns Al Ke) (hb:bb+6<=o)
 (c5:cG (h.oB.get (bb+5))=some [.m (bb+1),.m (bb+2),.m (bb+3),.m (bb+4)]) (m1:mG (h.oB.get (bb+1))=mX eJ nC Sp) (m2:mG (h.oB.get (bb+2))=mX eJ kK Ns) (m3:mG (h.oB.get (bb+3))=mX kK AV.b Al) (m4:mG (h.oB.get (bb+4))=mX kK AV.b Ke)
 (U:go<o) (O:cG (h.oB.get go)=some (uB (Fo.nlv N) u)) (Y:cG (h.oB.get o)=some (A8 .sn (.p (bb+5) 0) g (eR fG 4 true N) (.sl go 0 (Fo.nlv N) (some (Fo.nlv N)) 1) 0 0 (.m (o+1)))) (W:mG (h.oB.get (o+1))=mX kK id (Jb o)) (k)
 (V:∀T x h',x.o=o ->x.m0=o+1+1 ->x.ob0=h.oB ->DH T=kd.den ->DP A6 T ->uT T<=1000/\ jf T<=1160 ->yx x h' (yz 0 T) N.length kd.lv ->k (ι (A9 0 T)) h'):du C 29 [.p o 0] h k:=by
 have J:((List.range (Fo.nlv N)).map u).length=Fo.nlv N:=by rw[kU,List.length_range]
 have Z:kd.wt<=24*40/\ kd.ww<=1160:=by
  have h1:=Fo.wt_le I;rw[←H] at h1;simp only[Fo.wt,Fo.ww] at h1;omega
 have B:Ia ⟨o+1+1,o,h.oB,.p (bb+5) 0,g,eR fG 4 true N,.sl go 0 (Fo.nlv N) (some (Fo.nlv N)) 1,.m (o+1),λ_=>none⟩ L N ((List.range (Fo.nlv N)).map u):=
  ⟨G,rfl,⟨by rw[H];simp[Fo.fl],R⟩,⟨go,by rw[J],by show go<o+1+1;omega,by show go≠o;omega,by rw[O,Lu];rfl⟩,J,rv,⟨bb,Sp,Ns,Al,Ke,bk,rfl,by show bb+6<=o+1+1;omega,λj hj=>by show bb+j≠o;omega,c5,m1,m2,m3,m4⟩,⟨o+1,rfl,qI _,by show o+1≠o;omega,W⟩⟩
 exact ch7 E F B ⟨by show o<o+1+1;omega,by show o+1+1<=h.next;omega,⟨.sn,.inl ⟨rfl,rfl,rfl⟩,Y,λ_ _ e=>by cases e⟩,λ_ _ _=>rfl⟩ (D:=[]) ⟨m,I⟩ H (by show 0+kd.wt+50<=1000000;omega) k λT h' h1 h2 h3 h4 h5=>V T _ h' rfl rfl rfl h2 h3 ω h5
end
def ch9 {g b L} (h:jV g b L=0):b=true/\ iG g L=true:=by
 unfold jV at h;cases b;cases h;cases j:iG g L with
 |true=>exact⟨rfl,rfl⟩
 |false=>rw[j] at h;cases h
variable {P:Program} {X:aR} {GL:T (List AV)} {ae:T au}
def cj0 {C:aK Prop} (S:aT P X GL ae) (E:Sem P X GL ae C) (A:dY P X GL) (D:bz8 ae) (FA:bz8 ae) (FC:bz8 ae) (FS:bz8 ae) (F:bz8 ae) (FE:bz8 ae) (I:Ib P X GL) (hg:GL=mU) {g} (G:oy g) {Z} (Y:iQ g Z) (pn:1<=g.pR.length)
 {c b} (Ic:oW P X GL g c b) (p5:b=true ->∃c':Nat,c'<8/\ c=(c')) {L nl} (hL:L.length<=1000) (rv:iG g L=true ->∀r∈L,eP g r=true) {N R t kd} (hf:N=(Fo.nd t kd .nil).fl) {m} (aC:Fo.ok g [(false,m)] (.nd t kd .nil)) (hN:N.length<=40) (hR:PG R) (h) (k)
 (i9:∀(e) h',e≠0 ->k (.tu [.sn,.i .i64 e]) h')
 (l4:∀(W:Dt) q h',iG g L=true ->W.fit A6 ->W.den=kd.den++R.flatMap dn ->W.sz<=1016/\ W.wd<=1200 ->h.next<=q ->q<h'.next ->cG (h'.oB.get q)=some ((W.po 0).flatMap yV) ->k (.tu [.sl q 0 W.sz none 5,.i .i64 0]) h'):
 du C 6 [aI g,.i .u64 c,eR uC 4 nl L,.ag (ky N R)] h k:=by
 have bq:=iW (g:=g);have s8:=bq;have ck:=λh k hk=>Uw (C:=C) S E A D FA FC FS FE hg G Y pn Ic (nl:=nl) hL h k hk;obtain⟨q,p,q9,j1,s0,w6,-⟩:=id aC.1;have hm:p.left=m:=by cases s0;rfl
 subst hm;have i4:∀t∈N,bH2 g t/\ t.rem.length<=2:=by rw[hf];exact ch3 G _ _ (λs hs h=>by rw[yC.1 hs] at h;cases h) aC
 have i5:∀r∈R,r∈DV:=λr hr=>by obtain⟨k,hk,rfl⟩:=hR.2 r hr;exact bG3 hk
 have h0:N[0]? =some t:=by rw[hf];rfl
 have hl:=(eC.1 h0).1;have j2:=(eC.1 j1).1;have e0:AM.sub (N.flatMap fG) 0 1=some [.i .i64 (q:Int)]:=by
  have:=cW Uo h0 (j:=0) (n:=1) ω;simpa[fG,q9] using this
 have z:∀h,nU h 4 0 (eR fG 4 true N)= .v (.dp (N.flatMap fG) 0) h:=λh=>(bG (i:=0) hl).trans (by rw[ue]);have e1:AM.sub (g.pR.flatMap aM) (q*13+1) 1=some [.i .i64 (p.left:Int)]:=by
  have:=cW kr j1 (j:=1) (n:=1) ω;simpa[aM] using this
 have q8:p.left<g.nT.length:=(G.p p (dI j1)).left;have q1:((g.pR.length:Int)<=(q:Int))=False:=cE;simp only[bx] at bq s8;simp only[aI,bx] at ck;obtain⟨n0,v0,ob0⟩:=h;refine E.bS (FE.f 6) (Z3 @aI.eq_1 @bx.eq_1 @ky.eq_1 ?_);refine E.run (ck _ _ λbv h1 p3=> ?_);generalize p6:jV g b L=ce at*;by_cases w5:¬(ce=0);have i6:((ce:Int)=0)=False:=cE;refine Z1 i6 ?_;exact i9 _ _ ω;have i6:ce=0:=by omega
 subst i6;obtain⟨rfl,vb⟩:=ch9 p6;obtain⟨c,hc,rfl⟩:=p5 rfl;obtain⟨⟨dS,dD⟩,BA⟩:=p3 rfl;obtain⟨n1,v1,aQ⟩:=h1;have u2:n0+2<=n1:=dS;dsimp only at dD;obtain⟨bb,p4⟩:∃bb,bb=n0+2+1:=⟨_,rfl⟩;have BA:bF8 g L bb ⟨n1,v1,aQ⟩ bv:=by rw[p4];exact BA
 obtain⟨Sp,Ns,Al,Ke,bk,rfl,n8,g7,g8,bk5,h4,i0⟩:=BA;have u1:bb+6<=n1:=n8;dsimp only at g7 g8 bk5 h4 i0;have d0:cG (aQ.get n0)=some (bx g):=by rw[dD n0 ω];simp only[bx];exact U0
 have d1:cG (aQ.get (n0+1))=some [eR fG 4 true N,eR jT 1 true R]:=by rw[dD _ ω];exact U0
 have D0:=d0;simp only[bx] at d0;have j3:=ec d0 d1;have ct:=λk hk=>cg8 (C:=C) S E A FC F FE hg G hc (λh=>bj0 S A D FA FC FE hg G Y pn Ic h) hN i4 i5 hR.1 q8 (h:=⟨n1,v1,aQ⟩) k hk;simp only[aI,bx,ky] at ct;refine Z3 j3 e0 e1 ?_;refine E.run (ct _ λe h2 p8 eG=> ?_);obtain⟨n2,v2,aJ⟩:=h2;have u3:n1<=n2:=p8;dsimp only at eG;have i1:cG (aJ.get n0)=some (bx g):=by rw[eG _ ω];exact D0
 have l0:cG (aJ.get (n0+1))=some [eR fG 4 true N,eR jT 1 true R]:=by rw[eG _ ω];exact d1
 have D0':=i1;simp only[bx] at i1;have j3:=ec i1 l0;by_cases he:¬(e=0);have i8:(e=0)=False:=dQ he;refine Z1 i8 ?_;exact i9 _ _ he;have p7:e=0:=by omega
 subst p7;have za:aY .add (ι (N.length:Int)) (ι (R.length:Int))=some (ι ((N.length+R.length:Nat):Int)):=oH (by have:=hR.1;omega);refine Z2 j3 za ?_;refine E.run (ch2 E F (by have:=hR.1;omega) _ _ λtv h3 p9 b7 m5=> ?_);obtain⟨n3,v3,cC⟩:=h3;have u4:n2<=n3:=p9;dsimp only at b7;obtain⟨r1,r2,r3,r4,r5⟩:=m5.nice;have d0:cG (cC.get n0)=some (bx g):=by rw[b7 _ ω];exact D0'
 have d1:cG (cC.get (n0+1))=some [eR fG 4 true N,eR jT 1 true R]:=by rw[b7 _ ω];exact l0
 have k0:∀j,j<n1 ->cC.get j=aQ.get j:=λj V=>(b7 j ω).trans (eG j V);refine Z1 d1 ?_;refine fj E.ok N.length (λi τ h=>n3<=h.next/\ (∀j,j<n2 ->h.oB.get j=cC.get j)/\ τ.get 1=some (.i .u64 (c:Int))/\ τ.get 4=some (.p n0 0)/\ τ.get 7=some (.p (n0+1) 0)/\ τ.get 10=some (.p (bb+5) 0)/\ τ.get 88=some (eR fG 4 true N)/\ τ.get 89=some (ι (N.length:Int))/\ τ.get 90=some (ι (i:Int))/\∃zc tv TL lv,τ.get 13=some (ι ((zc:Nat):Int))/\ zc<=42+2*i/\ τ.get 14=some tv/\ τ.get 15=some lv/\ (∀s∈TL,s∈DV)/\ TL.length<=2+3*i/\ P2 n2 h tv TL lv ((N.take i).filter λt=>decide (t.prod<0))) ?_ ?_ _ _ ⟨bB _,λ_ _=>rfl,?_,?_,?_,?_,?_,?_,?_,N.length+R.length,tv,R,.sn,?_,?_,?_,?_,i5,?_,⟨?_,.inl ⟨rfl,rfl,rfl⟩,λ_ _ _ _ _ _ e=>by cases e⟩⟩;rintro i τ ⟨n4,v4,b6⟩ hi ⟨j0,U,t1,t4,t7,t10,m9,k7,k8,zc,tv,TL,lv,k4,hz,k5,k6,f7,p2,H2⟩ ih;dsimp only at j0 U;have ht:N[i]? =some N[i]:=ef hi;obtain⟨l5,f8⟩:=i4 _ (List.getElem_mem hi);have i3:((N.take (i+1)).filter λt=>decide (t.prod<0))=((N.take i).filter λt=>decide (t.prod<0))++(if N[i].prod<0 then [N[i]] else []):=by
  rw[List.take_succ,ht,List.filter_append];congr 1;by_cases hq:N[i].prod<0;rw[aF hq];simp[hq];rw[aD hq];simp[hq]
 have w3:((N.take i).filter λt=>decide (t.prod<0)).length<=40:=fJ (List.length_filter_le _ _) (by rw[jm];omega);generalize N[i]=u at ht l5 f8 i3;obtain⟨pr,tk,tx,rm⟩:=u;have es:AM.sub (N.flatMap fG) (i*4) 4=some (fG ⟨pr,tk,tx,rm⟩):=cW Uo ht (j:=0) (n:=4) ω;have H3:=H2.add (cs:=fG ⟨pr,tk,tx,rm⟩) (h':=⟨n4+1,v4+1,(b6.put n4 (.cells v4 [.i .i64 0,.i .i64 0,.s [],.sn])).put n4 (.cells (v4+1) (fG ⟨pr,tk,tx,rm⟩))⟩) (by show n2<=n4;omega) rfl (λj V=>by
  have w:(j=n4)=False:=dQ (by have h:j<n4:=V;omega);exact U1 w) U0
 obtain⟨s9,h5,g5,q0,H5,o1⟩:=H3.pushR (by show n2<=n4+1;omega) (R:=rm) (by dsimp only at f8;omega);obtain⟨J,v5,b0⟩:=h5;have u5:n4+1<=J:=q0;have f9:∀j,j<n2 ->b0.get j=b6.get j:=λj V=>(o1 j V).trans (by
  have w:(j=n4)=False:=cE;exact U0)
 have c5:cG (b0.get n4)=some (fG ⟨pr,tk,tx,rm⟩):=H5.k;obtain⟨a1,a2,a3,a4,a5⟩:=H2.t.nice;obtain⟨b1,b2,b3,b4,b5⟩:=H2.l.nice;obtain⟨f1,f2,f3,f4,f5⟩:=H5.t.nice;have zb:aY .add (ι (zc:Int)) (ι (rm.length:Int))=some (ι ((zc+rm.length:Nat):Int)):=oH (by dsimp only at f8;omega);dsimp only at f8;have ts:=ec t1 (ec t4 (ec t7 (ec t10 (ec k4 (ec k5 (ec k6 (ec m9 (ec k7 k8))))))));simp only[fG] at es g5 c5;rcases l5 with ⟨⟨hp,-,l8⟩,hr⟩|⟨qi,y,j2,hy,l6⟩;dsimp only at hp l8 hr;subst hp;have H5b:=H5.put (h':=⟨J+1,v5,b0.put J (.cells v5 (fG ⟨-1,tk,tx,rm⟩))⟩) (by show n2<=J;omega) rfl λj V=>by
  have w:(j=J)=False:=dQ (by have h:j<J:=V;omega);exact U1 w
 obtain⟨h6,g6,q5,H6,o3⟩:=H5b.pushL (by show n2<=J+1;omega) (o2:=J) (t:=⟨-1,tk,tx,rm⟩) (by exact U0) ω;obtain⟨n6,v6,j4⟩:=h6;have u6:n6=J+1+1:=q5;have c6:cG (j4.get n4)=some (fG ⟨-1,tk,tx,rm⟩):=H6.k;have H6b:=H6.put (h':=⟨n6+1,v6,j4.put n6 (.cells v6 [.s tx])⟩) (by show n2<=n6;omega) rfl λj V=>by
  have w:(j=n6)=False:=dQ (by have h:j<n6:=V;omega);exact U1 w
 obtain⟨h7,k9,q6,H7,o4⟩:=H6b.pushT (by show n2<=n6+1;omega) (o2:=n6) (s:=tx) (by exact U0) (by rw[dy];omega);obtain⟨n7,v7,j8⟩:=h7;have u8:n7=n6+1+1:=q6;have l1:∀j,j<n2 ->j8.get j=b6.get j:=λj V=>by
  refine(o4 j V).trans (Eq.trans ?_ ((o3 j V).trans (Eq.trans ?_ (f9 j V))));exact U0;exact U0
 dsimp only at g6 k9;simp only[fG] at g6 c6;refine Z9 ts es zb g5 c5 g6 c6 k9 @tM ?_;refine ih _ _ ⟨by show n3<=n7;omega,λj V=>(l1 j V).trans (U j V),?_,?_,?_,?_,?_,?_,?_,zc+rm.length,.sl (n6+1) 0 ((TL++rm).length+1) none 1,TL++rm++[tx],.sl (J+1) 0 (((N.take i).filter λt=>decide (t.prod<0)).length+1) none 4,?_,by omega,?_,?_,?_,?_,?_⟩;(iterate 10 exact U1 ts);intro s hs;rcases fO.1 hs with hs|hs;exact(fO.1 hs).elim (f7 s) (hr s);rw[yC.1 hs];exact l8;rw[dy,dy,lF];omega;rw[i3,aF (by show(-1:Int)<0;decide)];exact H7.toP2;dsimp only at j2 l6;subst j2;refine Z6 ts es zb g5 c5 @tM ?_;refine ih _ _ ⟨by show n3<=J;omega,λj V=>(f9 j V).trans (U j V),?_,?_,?_,?_,?_,?_,?_,zc+rm.length,s9,TL++rm,lv,?_,by omega,?_,?_,?_,?_,?_⟩;(iterate 10 exact U1 ts);intro s hs;rcases fO.1 hs with hs|hs;exact f7 s hs;rw[l6] at hs;cases hs;rw[dy];omega;rw[i3,aD (by show¬((qi:Int)<0);omega),lG];exact H5.toP2;rintro τ ⟨n4,v4,b6⟩ ⟨j0,U,t1,t4,t7,t10,m9,k7,k8,zc,tv,TL,lv,k4,hz,k5,k6,f7,p2,H2⟩;dsimp only at j0 U;rw[mR] at H2;have d0:cG (b6.get n0)=some (bx g):=by rw[U _ ω];exact d0
 have d1:cG (b6.get (n0+1))=some [eR fG 4 true N,eR jT 1 true R]:=by rw[U _ ω];exact d1
 have D0:=d0;simp only[bx] at d0;obtain⟨a1,a2,a3,a4,a5⟩:=H2.t.nice;obtain⟨b1,b2,b3,b4,b5⟩:=H2.l.nice;have p0:∀t∈N.filter (λt=>decide (t.prod<0)),av3 t:=λt ht=>by
  obtain⟨h1,h2⟩:=List.mem_filter.1 ht;rcases(i4 t h1).1 with h|⟨pi,x,h,-⟩;exact h.1;rw[h] at h2;simp at h2;omega
 have o8:(N.filter (λt=>decide (t.prod<0))).length<=40:=fJ (List.length_filter_le _ _) hN;have gr:=λk h0 h1=>cg7 (C:=C) S E A FC F FE hg G hc (λh=>bF7 S A D FA FC hg G Y pn h) (λh=>Uv S A FC FE hg G Ic h) o8 p0 (h:=⟨n4,v4,b6⟩) (lv:=lv) (by
  rcases H2.l with h|⟨q,q1,q2,q3⟩;exact .inl h;exact .inr ⟨q,q1,oi _,q3⟩) k h0 h1
 simp only[aI,bx] at gr;have ts:=ec t1 (ec t4 (ec t7 (ec t10 (ec k4 (ec k5 k6)))));refine Z4 ts k7 k8 d0 ?_;refine E.run (gr _ (λe h5 he=> ?_) λgo u h5 g1 g2 g3 g4=> ?_);have i8:(e=0)=False:=dQ he;refine Z1 i8 ?_;exact i9 _ _ he;obtain⟨J,v5,b0⟩:=h5;have u9:n4<=go:=g1;have l2:go<J:=g2;dsimp only at g3 g4;obtain⟨w9,o0⟩:=(H2.t.up (h':=⟨J,v5,b0⟩) (by show n4<=J;omega) λj _ V=>g4 j V).deepS;have cf:=bT8 S F (B:=λ_=>false) (L:=TL) ω o0 (caps:=[]) (dcaps:=[]) (fid:=22) (λn hn=>by rfl) (λn hn=>by rfl) λa ha h=>ch1 S F I (xI _ (f7 a ha)) h;have af:(TL.any λ_=>false)=false:=by rw[P6];intro _ _ h;cases h
 rw[af] at cf;refine Z1 ts ?_;refine E.cN cf ?_;have d0:cG (b0.get n0)=some (bx g):=by rw[g4 _ ω];exact D0
 have d1:cG (b0.get (n0+1))=some [eR fG 4 true N,eR jT 1 true R]:=by rw[g4 _ ω];exact d1
 have D0:=d0;simp only[bx] at d0;have s1:∀bQ O (ob':T bC) (τ:T AV),mG (T.get ob' (J+1))=some ([],0) ->az C τ (.t 138)= .m (J+1) ->az C τ (.t 140)= .f 24 [.p J 0] [] ->step (az C τ) ⟨bQ,O,ob'⟩ (.mupd (.lf .i) (.t 138) (.c (ι 0)) (.t 140))= .v .un ⟨bQ,O+1,ob'.put (J+1) (.map (O+1) (di kK id 0 (DW J 1)) 1)⟩:=λbQ O ob' τ q1 q2 q4=>Qw 0 24 rfl ⟨rfl,rfl⟩ q1 q2 rfl q4;have s2:∀bQ O (ob':T bC) (τ:T AV),mG (T.get ob' (J+1))=some (di kK id 0 (DW J 1),1) ->az C τ (.t 138)= .m (J+1) ->az C τ (.t 142)= .f 25 [.p J 0] [] ->step (az C τ) ⟨bQ,O,ob'⟩ (.mupd (.lf .i) (.t 138) (.c (ι 1)) (.t 142))= .v .un ⟨bQ,O+1,ob'.put (J+1) (.map (O+1) (di kK id 0 (DW J 2)) 2)⟩:=λbQ O ob' τ q1 q2 q4=>Qw 1 25 rfl ⟨rfl,rfl⟩ q1 q2 rfl q4;have s3:∀bQ O (ob':T bC) (τ:T AV),mG (T.get ob' (J+1))=some (di kK id 0 (DW J 2),2) ->az C τ (.t 138)= .m (J+1) ->az C τ (.t 144)= .f 26 [.p J 0] [] ->step (az C τ) ⟨bQ,O,ob'⟩ (.mupd (.lf .i) (.t 138) (.c (ι 2)) (.t 144))= .v .un ⟨bQ,O+1,ob'.put (J+1) (.map (O+1) (di kK id 0 (DW J 3)) 3)⟩:=λbQ O ob' τ q1 q2 q4=>Qw 2 26 rfl ⟨rfl,rfl⟩ q1 q2 rfl q4;have s4:∀bQ O (ob':T bC) (τ:T AV),mG (T.get ob' (J+1))=some (di kK id 0 (DW J 3),3) ->az C τ (.t 138)= .m (J+1) ->az C τ (.t 146)= .f 27 [.p J 0] [] ->step (az C τ) ⟨bQ,O,ob'⟩ (.mupd (.lf .i) (.t 138) (.c (ι 3)) (.t 146))= .v .un ⟨bQ,O+1,ob'.put (J+1) (.map (O+1) (di kK id 0 (DW J 4)) 4)⟩:=λbQ O ob' τ q1 q2 q4=>Qw 3 27 rfl ⟨rfl,rfl⟩ q1 q2 rfl q4;have s5:∀bQ O (ob':T bC) (τ:T AV),mG (T.get ob' (J+1))=some (di kK id 0 (DW J 4),4) ->az C τ (.t 138)= .m (J+1) ->az C τ (.t 148)= .f 28 [.p J 0] [] ->step (az C τ) ⟨bQ,O,ob'⟩ (.mupd (.lf .i) (.t 138) (.c (ι 4)) (.t 148))= .v .un ⟨bQ,O+1,ob'.put (J+1) (.map (O+1) (di kK id 0 (DW J 5)) 5)⟩:=λbQ O ob' τ q1 q2 q4=>Qw 4 28 rfl ⟨rfl,rfl⟩ q1 q2 rfl q4;have s7:∀bQ O (ob':T bC) (τ:T AV),mG (T.get ob' (J+1))=some (di kK id 0 (DW J 5),5) ->az C τ (.t 138)= .m (J+1) ->az C τ (.t 150)= .f 28 [.p J 0] [] ->step (az C τ) ⟨bQ,O,ob'⟩ (.mupd (.lf .i) (.t 138) (.c (ι 5)) (.t 150))= .v .un ⟨bQ,O+1,ob'.put (J+1) (.map (O+1) (di kK id 0 (DW J 6)) 6)⟩:=λbQ O ob' τ q1 q2 q4=>Qw 5 28 rfl ⟨rfl,rfl⟩ q1 q2 rfl q4;refine qX ts d0 d1 s1 s2 s3 s4 s5 s7 @oI ?_;have m4:∀j,j<n1 ->b0.get j=aQ.get j:=λj V=>(g4 j (by show j<n4;omega)).trans ((U j ω).trans (k0 j V));have wj:∀j,j<J ->(j=J)=False/\ (j=J+1)=False:=λj V=>⟨cE,cE⟩;have o5:cG (b0.get go)=some (uB (Fo.nlv N) u):=g3;have q7:Fo.nlv N=(N.filter (λt=>decide (t.prod<0))).length:=rfl;rw[←m4 _ ω] at g7 g8 bk5 h4 i0;refine E.run (ch8 E F G (rv vb) hf aC hN (o:=J) (go:=go) (bb:=bb) (u:=u) rfl bk ω ?_ ?_ ?_ ?_ ?_ l2 ?_ ?_ ?_ _ λT1 x h6 ho6 hm6 hb6 k1 k2 k3 H6=> ?_);exact U2 (wj (bb+5) ω) g7;exact U2 (wj (bb+1) ω) g8;exact U2 (wj (bb+2) ω) bk5;exact U2 (wj (bb+3) ω) h4;exact U2 (wj (bb+4) ω) i0;exact U2 (wj go l2) o5;simp only[A8,bx,gw,gx];exact U1 q7;show mG _=some (di kK id 0 (DW J 6),6);exact U1 @oI;have l3:cG (h6.oB.get (n0+1))=some [eR fG 4 true N,eR jT 1 true R]:=by
  rw[H6.old (n0+1) (by show n0+1<x.m0;omega) (by show n0+1≠x.o;omega),hb6];exact U2 (wj (n0+1) ω) d1
 obtain⟨xm,xo,d8,d3,xg,d6,d4,d5,f0⟩:=x;dsimp only at ho6 hm6;subst ho6;obtain⟨n6,v6,j4⟩:=h6;dsimp only at l3;refine Z2 ts l3 ?_;refine fj E.ok R.length (λi τ h=>τ.get 19=some (.p xo 0)/\ τ.get 157=some (eR jT 1 true R)/\ τ.get 158=some (ι (R.length:Int))/\ τ.get 159=some (ι (i:Int))/\∃T2,τ.get 20=some (ι (A9 0 T2))/\ DP A6 T2/\ DH T2=kd.den++(R.take i).flatMap dn/\ (uT T2<=1000+8*i/\ jf T2<=1160+4*i)/\ yx ⟨xm,xo,d8,d3,xg,d6,d4,d5,f0⟩ h (yz 0 T2) N.length kd.lv) ?_ ?_ _ _ ⟨?_,?_,?_,?_,T1,?_,k2,by rw[Cf];exact k1.trans (lG _).symm,k3,H6⟩;rintro i τ h hi ⟨d2,g0,b8,c7,T2,t20,q2,q3,q4,H⟩ ih;have ht:R[i]? =some R[i]:=ef hi;have hr:=i5 _ (List.getElem_mem hi);generalize R[i]=r at ht hr;have es:AM.sub (R.flatMap jT) i 1=some [.s r]:=by have:=cW Qv ht (j:=0) (n:=1) ω;rwa [vH] at this
 have i2:i<2:=by have:=hR.1;omega
 have tx:=ec d2 (ec g0 (ec b8 (ec c7 t20)));have wr:=λ{h:AH} {T3:Option Dt} (hz:uT T3<=1040) (K:AV ->AH ->Prop) (w4:yx ⟨xm,xo,d8,d3,xg,d6,d4,d5,f0⟩ h (yz 0 T3) N.length kd.lv)=>Qt E F w4 (by rw[HU];omega) (s:=r) K;have jr:=λ{h:AH} {A B:Option Dt} (K:AV ->AH ->Prop) (w1:uT A+uT B<=1040) (w2:yx ⟨xm,xo,d8,d3,xg,d6,d4,d5,f0⟩ h (yz 0 A++yz (uT A) B) N.length kd.lv)=>I3 E F (D:=[]) (i:=0) (A:=A) (B:=B) (x:=⟨xm,xo,d8,d3,xg,d6,d4,d5,f0⟩) (h:=h) (a:=N.length) (l:=kd.lv) (by simpa using w2) rfl ω K;have hw:=λ{h:AH} {T3:Option Dt} (hz:uT T3<=1040) (K:AV ->AH ->Prop) (w4:yx ⟨xm,xo,d8,d3,xg,d6,d4,d5,f0⟩ h (yz 0 T3) N.length kd.lv)=>an5 E F (n:=1) w4 (by rw[HU];omega) K;simp only[HU] at wr hw;simp only[gB,gx] at jr;have m1:DP A6 (some (.tx r)):=xI _ hr;have sr:uT (some (.tx r))=1:=rfl;have gr:DH (some (.tx r))=dn r:=rfl;have x1:jf (some (.tx r))<=4:=(bU0 hr).1;have wh:jf (DL 1)=0:=rfl;have tk:(R.take (i+1)).flatMap dn=(R.take i).flatMap dn++dn r:=by rw[List.take_succ,ht,Bd];simp
 have o6:DP A6 (DL 1):=trivial;have o7:DH (DL 1)=[]:=rfl;have w0:uT (DL 1)=1:=rfl;rcases T2 with _|T2;refine Z2 tx es ?_;refine E.run (wr (T3:=none) (by decide) _ H λh8 H8=> ?_);refine Z1 tx ?_;refine E.run (jr (A:=none) (B:=some (.tx r)) _ (by rw[sr];decide) H8 λh9 H9=> ?_);refine Z1 tx ?_;refine ih _ _ ⟨?_,?_,?_,?_,jn none (some (.tx r)),?_,JD q2 m1,by rw[JC,gr,q3,tk,hZ],by have:=HH none (some (.tx r));have e:uT none=0:=rfl;have e2:jf none=0:=rfl;rw[DO];omega,H9⟩;(iterate 5 exact U1 tx);have z2:=HH (some T2) (DL 1);have z3:=HH (jn (some T2) (DL 1)) (some (.tx r));refine Z2 tx es ?_;refine E.run (hw (T3:=some T2) ω _ H λh7 H7=> ?_);refine Z1 tx ?_;refine E.run (jr (A:=some T2) (B:=DL 1) _ ω H7 λh7 H7=> ?_);refine Z1 tx ?_;refine E.run (wr (T3:=jn (some T2) (DL 1)) ω _ H7 λh8 H8=> ?_);refine Z1 tx ?_;refine E.run (jr (A:=jn (some T2) (DL 1)) (B:=some (.tx r)) _ ω H8 λh9 H9=> ?_);refine Z1 tx ?_;refine ih _ _ ⟨?_,?_,?_,?_,jn (jn (some T2) (DL 1)) (some (.tx r)),?_,JD (JD q2 o6) m1,by rw[JC,JC,gr,o7,q3,tk,lG,hZ],by rw[DO,DO];omega,H9⟩;(iterate 5 exact U1 tx);rintro τ h ⟨d2,g0,b8,c7,T2,t20,q2,q3,q4,H⟩;have r2:=hR.1;rw[mR] at q3;rcases T2 with _|T2;refine Z4 d2 b8 c7 t20 ?_;refine E.run (Qt E F (D:=[]) H (by decide) (s:=[]) _ λh8 H8=> ?_);obtain⟨lo,nx,⟨dv,hd,ho,-⟩,old⟩:=H8;obtain⟨n7,v7,j8⟩:=h8;dsimp only at ho nx lo;obtain⟨y1,y2,y3,y4,y5⟩:=hd.nice;simp only[A8,bx,gw,gx] at ho;refine Z2 d2 ho ?_;rcases hd with ⟨z0,-,-⟩|⟨qq,rfl,z1,z2,z3,-⟩;have e1:=(Dt.tx []).sz_pos;have e:=(Dt.tx []).po_len 0;have t0:((Dt.tx []).po 0).length=0:=z0;omega;have e:(yz 0 (some (Dt.tx []))).length=(Dt.tx []).sz:=(Dt.tx []).po_len 0;show k (.tu [.sl qq 0 (yz 0 (some (Dt.tx []))).length none 5,.i .i64 0]) _;rw[e];have u0:xm<=qq:=z1;exact l4 (Dt.tx []) qq _ vb (FI _ (by simp)) q3 ⟨by decide,by decide⟩ (by show n0<=qq;omega) z2 z3;have x0:T2.sz<=1000+8*R.length/\ T2.wd<=1160+4*R.length:=q4;obtain⟨lo,nx,⟨dv,hd,ho,-⟩,old⟩:=H;obtain⟨n7,v7,j8⟩:=h;dsimp only at ho nx lo;obtain⟨y1,y2,y3,y4,y5⟩:=hd.nice;simp only[A8,bx,gw,gx] at ho;refine Z5 d2 b8 c7 t20 ho ?_;rcases hd with ⟨z0,-,-⟩|⟨qq,rfl,z1,z2,z3,-⟩;have e1:=(T2).sz_pos;have e:=(T2).po_len 0;have t0:((T2).po 0).length=0:=z0;omega;have e:(yz 0 (some (T2))).length=(T2).sz:=(T2).po_len 0;rw[e];have u0:xm<=qq:=z1;exact l4 (T2) qq _ vb q2 q3 ω (by show n0<=qq;omega) z2 z3;(iterate 13 exact U0);have:=hR.1;omega;exact U0;exact U0;have:=hR.1;omega;exact m5
def Sc {α:Type} (L:List α) (v:AV):Prop:=L=[]/\ v= .sn∨L≠[]/\ v≠.sn
def aN3:∀a,wV (jT a)=true:=λ_=>rfl
def bC0 {n:Nat} (a:List Nat):bJ n h (jT a)=some (jT a):=by simp only[jT,aL,bZ,oK]
def gk.appE {v:AV} {L:List (List Nat)} (H:gk h v L.length 1 (L.flatMap jT)) (O:Sc L v) {g:List (List Nat)} (J:L.length+g.length<=1048576):
 ∃v' h',gU h 1 v (eR jT 1 true g)= .v v' h'/\ gk h' v' (L++g).length 1 ((L++g).flatMap jT)/\ h.next<=h'.next/\ (∀j,j<h.next ->(∀n c,v≠.sl j 0 n c 1) ->h'.oB.get j=h.oB.get j)/\ Sc (L++g) v':=by
 obtain⟨v',h',a1,a2,a3,a4,a5⟩:=H.app (x:=eR jT 1 true g) (m:=g.length) (new:=g.flatMap jT) (by cases g<;>rfl) (by
  rcases g with _|⟨a,g⟩;rfl;exact JW (mM (by rw[kh (enc:=jT) λ_=>rfl]))) (kh (enc:=jT) (λ_=>rfl) g) (w7 aN3 g) J
 refine⟨v',h',a1,by rwa [dy,Bd],a3,a4,?_⟩;rcases a5 with ⟨hg,rfl⟩|⟨hg,I⟩;rw[pM hg,lG];exact O;exact .inr ⟨λe=>hg (by rw[(List.append_eq_nil_iff.1 e).2];rfl),I⟩
def li (t:Tn):List (List Nat):=t.rem++if t.prod<0 then [t.text] else []
def Se:∀{L:List Tn},(∀t∈L,t.rem.length<=2) ->(L.flatMap li).length<=3*L.length
 |[],_=>by simp
 |a::L,h=>by
  have h1:=h a (by simp);have h2:=Se (L:=L) λt j=>h t (by simp[j]);have H:(if a.prod<0 then [a.text] else []).length<=1:=by split<;>simp
  simp only[lE,dy,li,gJ];omega
section
variable {P:Program} {X:aR} {GL:T (List AV)} {ae:T au} (S:aT P X GL ae) (F:bz8 ae)
include S F
theorem bC1 {N:List Tn} {R:List (List Nat)} (hN:N.length<=40) (hr:∀t∈N,t.rem.length<=2) (hR:R.length<=2):bg P X GL ae 9 [.ag (ky N R)] (eR jT 1 true (N.flatMap li++R)):=by
 refine bg.intro λC E=> ?_;have Ff:nice 64 (eR fG 4 true N)=true:=A4 ua;have dk:∀k,nice 64 (.dp (N.flatMap fG) k)=true:=λk=>by rw[fK,fE ua]
 have I:∀L,nice 64 (eR jT 1 true L)=true:=λL=>A4 zi;have fl:∀i,((N.take i).flatMap li).length<=3*i:=λi=>by
  have h:=Se (L:=N.take i) λt U=>hr t (List.mem_of_mem_take U);rw[jm] at h;omega
 have Y:∀{M:List (List Nat)},some [eR fG 4 true N,eR jT 1 true R]≠some (M.flatMap jT):=λ{M} e=>by
  rcases M with _|⟨a,M⟩;cases e;have e1:eR fG 4 true N= .s a:=by injection e with e;injection e
  cases N<;>cases e1
 refine E.bS (F.g 9 fn9) (Z5 @fn9.eq_1 @ky.eq_1 @h0.eq_1 Ff I ?_);refine fj E.ok N.length (λi τ h=>1<=h.next/\ cG (h.oB.get 0)=some [eR fG 4 true N,eR jT 1 true R]/\ τ.get 1=some (.p 0 0)/\ τ.get 4=some (ι (i:Int))/\∃v,τ.get 3=some v/\ Sc ((N.take i).flatMap li) v/\ gk h v ((N.take i).flatMap li).length 1 (((N.take i).flatMap li).flatMap jT)/\∀n c,v≠.sl 0 0 n c 1) ?_ ?_ _ _
  ⟨bB _,?_,?_,?_,.sn,?_,.inl ⟨rfl,rfl⟩,.inl ⟨rfl,rfl,rfl⟩,λn c e=>by cases e⟩
 rintro i τ ⟨n1,v1,ob⟩ hi ⟨Z,c0,t1,t4,v,t3,hv,O,V⟩ ih;dsimp only at Z c0;have U:N[i]? =some N[i]:=ef hi;have tL:=hr _ (List.getElem_mem hi);have tk:(N.take (i+1)).flatMap li=(N.take i).flatMap li++li N[i]:=by rw[List.take_succ,U,Bd];simp
 generalize N[i]=t at U tL tk;have hl:=fl i;have W:((i:Int)<(N.length:Int))=True:=cJ;have s0:AM.sub (N.flatMap fG) (i*4) 1=some [.i .i64 t.prod]:=by have:=cW Uo U (j:=0) (n:=1) ω;simpa[fG] using this
 have s2:AM.sub (N.flatMap fG) (i*4+2) 1=some [.s t.text]:=by have:=cW Uo U (j:=2) (n:=1) ω;simpa[fG] using this
 have s3:AM.sub (N.flatMap fG) (i*4+3) 1=some [eR jT 1 true t.rem]:=by have:=cW Uo U (j:=3) (n:=1) ω;simpa[fG] using this
 obtain⟨v2,⟨H,w2,aJ⟩,a1,a2,a3,a4,a5⟩:=gk.appE O hv (g:=t.rem) ω;have b6:n1<=H:=a3;have c2:cG (aJ.get 0)=some [eR fG 4 true N,eR jT 1 true R]:=(congrArg cG (a4 0 Z V)).trans c0;have h2:∀n c,v2≠.sl 0 0 n c 1:=λn c e=>by
  rcases a2 with ⟨h,-⟩|⟨q,c',h,-,-,hq,-⟩;rw[h] at e;cases e;rw[h] at e;cases e;exact Y (c2.symm.trans hq)
 by_cases hp:t.prod<0;have J:(t.prod<0)=True:=fq hp;rw[show li t=t.rem++[t.text] by unfold li;rw[aF hp],←hZ] at tk;have O3:gk ⟨H+1,w2,aJ.put H (.cells w2 [.s t.text])⟩ v2 _ 1 _:=a2.up (nD H) λj hj=>by
  have hj:j<H:=hj;exact U0
 obtain⟨v3,⟨n3,w3,cC⟩,b1,b2,b3,b4,b5⟩:=gk.app1 (enc:=jT) (λ_=>rfl) aN3 O3 (o:=H) (c:=some 1) (a:=t.text) (by exact U0) (by rw[dy];omega);rw[←tk] at b2;refine Bn c0 c2 t1 t3 t4 W hi s0 s2 s3 J Ff dk I @dw @bG @tM a1 b1 @bK ?_;have b7:H+1<=n3:=b3;have c3:cG (cC.get 0)=some [eR fG 4 true N,eR jT 1 true R]:=by
  rw[show cC.get 0=_ from b4 0 (Nat.succ_pos H) h2];have w:(0=H)=False:=cE;exact wW w c2
 refine ih _ _ ⟨by show 1<=n3;omega,c3,?_,?_,v3,?_,.inr ⟨λe=>by rw[tk] at e;exact bh (List.append_eq_nil_iff.1 e).2 (by simp),b5⟩,b2,λn c e=> ?_⟩;(iterate 3 exact U1 t1);rcases b2 with ⟨h,-⟩|⟨q,c',h,-,-,hq,-⟩;rw[h] at e;cases e;rw[h] at e;cases e;exact Y (c3.symm.trans hq);have J:(t.prod<0)=False:=dQ hp;rw[show li t=t.rem by unfold li;rw[aD hp,lG]] at tk;rw[←tk] at a2 a5;refine IN c0 c2 t1 t3 t4 W hi s0 s2 s3 J Ff dk I @dw @bG @tM a1 @bK ?_;refine ih _ _ ⟨by show 1<=H;omega,c2,?_,?_,v2,?_,a5,a2,h2⟩;(iterate 3 exact U1 t1);rintro τ ⟨n1,v1,ob⟩ ⟨Z,c0,t1,t4,v,t3,hv,O,V⟩;dsimp only at Z c0;have hl:=fl N.length;rw[mR] at hv O hl;obtain⟨v2,⟨H,w2,aJ⟩,a1,a2,a3,a4,a5⟩:=gk.appE O hv (g:=R) ω;refine Z9 c0 t1 t3 t4 Ff I @dw @tM a1 ?_;refine⟨10,?_⟩;rcases a5 with ⟨e,rfl⟩|⟨e,b0⟩;rw[e];rfl;rw[a2.deep b0 (m:=9) bC0,R9 e];all_goals exact U0
end
def bU4 {g L} (h:iG g L=true) {i r} (hi:L[i]? =some r):eP g r=true/\∀q∈L.take i,iY r q=false:=by
 have:=fX.1 h i (mA.2 (eC.1 hi).1);unfold rj at this;rw[hi] at this;dsimp only at this;rw[aB,fX] at this;exact⟨this.1,λq j=>by simpa using this.2 q j⟩
def bG6 {g L} (h:iG g L=true):∀r∈L,eP g r=true:=λr j=>by
 obtain⟨i,hi⟩:=List.mem_iff_getElem?.1 j;exact(bU4 h hi).1
def aN4 {h:AH} {o v:Nat} {c:List AV} (j:h.oB.get o=some (.cells v c)):∀(l:List Nat) (t:T bC),(o∈l∨t.get o=some (.cells v c)) ->(AK h l t).get o=some (.cells v c)
 |[],t,hl=>hl.resolve_left (by simp)
 |a::l,t,hl=>by
  show(AK h l (match h.oB.get a with|some (.cells v c)=>t.put a (.cells v c)|_=>t)).get o=_;refine aN4 j l _ ?_;by_cases e:o=a;subst e;rw[j];exact .inr (by rw[T.get_put,aF rfl]);refine hl.imp (λh=>(ey.1 h).resolve_left e) λh=> ?_;split;rw[T.get_put,aD e];exact h;exact h
def wT:∀(T:Dt) (b:Nat),∀p∈T.gh b,b<=p.1/\ p.1<b+T.sz
 | .tx _,b,p,h| .ln _,b,p,h| .hd,b,p,h=>by cases h
 | .sq u w,b,p,h=>by
  simp only[Dt.sz];rcases fO.1 h with h|h;have:=wT u b p h;omega;have:=wT w _ p h;omega
 | .ne _ u,b,p,h| .al u,b,p,h=>by have:=wT u b p h;simp only[Dt.sz];omega
 | .gp u,b,p,h=>by
  simp only[Dt.sz];rcases ey.1 h with rfl|h;dsimp only;omega;have:=wT u b p h;omega
def Jp:∀(T:Dt) (b:Nat),∀p∈T.gh b,∀q∈T.gh b,p.1=q.1 ->p=q
 | .tx _,b,p,h,q,g,e| .ln _,b,p,h,q,g,e| .hd,b,p,h,q,g,e=>by cases h
 | .sq u w,b,p,h,q,g,e=>by
  rcases fO.1 h with h|h<;>rcases fO.1 g with g|g
  exact Jp u b p h q g e;have:=wT u b p h;have:=wT w _ q g;omega;have:=wT w _ p h;have:=wT u b q g;omega;exact Jp w _ p h q g e
 | .ne _ u,b,p,h,q,g,e| .al u,b,p,h,q,g,e=>Jp u b p h q g e
 | .gp u,b,p,h,q,g,e=>by
  rcases ey.1 h with rfl|h<;>rcases ey.1 g with rfl|g
  rfl;have:=wT u b q g;dsimp only at e;omega;have:=wT u b p h;dsimp only at e;omega;exact Jp u b p h q g e
def Qc {g:Gr}:∀{f ss},Fo.ok g ss f ->(f.fl.flatMap li).flatMap dn=f.den
 | .nil,[],_=>rfl
 | .lf t r,s::ss,h=>by
  have e:=Qc h.2;have j:t.prod<0:=by have:=h.1.1;omega
  simp only[Fo.fl,Fo.den,lE,Bd,e,li];rw[aF j];simp
 | .nd t k r,s::ss,h=>by
  obtain⟨⟨q,x,h1,-,-,H,-,-,I⟩,h2⟩:=h;have e1:=Qc H;have e2:=Qc h2;have j:¬t.prod<0:=by omega
  simp only[Fo.fl,Fo.den,lE,Bd,e1,e2,li];rw[aD j,I];rfl
 | .nil,_::_,h=>h.elim
 | .lf _ _,[],h=>h.elim
 | .nd _ _ _,[],h=>h.elim
def bW2:∀L:List Dn,kI.flatL 0 (L.flatMap yV)=true
 |[]=>rfl
 |d::L=>bW2 L
variable (S:aT P X GL ae)
def cj1 {C:aK Prop} (E:Sem P X GL ae C) (A:dY P X GL) (D:bz8 ae) (FA:bz8 ae) (FC:bz8 ae) (FS:bz8 ae) (F:bz8 ae) (FE:bz8 ae) (I:Ib P X GL) (hg:GL=mU) {g} (G:oy g) {Z} (Y:iQ g Z) (pn:1<=g.pR.length)
 {c:Nat} (hc:c<8) (Ic:oW P X GL g (c) true) {L} (hL:L.length<=12) (hV:iG g L=true) {N R t kd} (hf:N=(Fo.nd t kd .nil).fl) {m} (V:Fo.ok g [(false,m)] (.nd t kd .nil)) (hN:N.length<=40) (hR:PG R) {h args n} (ha:bJ n h args=some [aI g,.i .u64 (c),eR uC 4 true L,.ag (ky N R)]) (k)
 (k0:∀e:Int,e≠0 ->k (.tu [.sn,.i .i64 e]) h)
 (k1:∀W:Dt,W.fit A6 ->W.den=kd.den++R.flatMap dn ->W.sz<=1016/\ W.wd<=1200 ->k (.tu [eR yV 5 true (W.po 0),.i .i64 0]) h):g9 C 6 args h k:=by
 obtain⟨l,h1,h2⟩:=bX9 S ha (Q:=λx h1=>(∃e:Int,e≠0/\ x= .tu [.sn,.i .i64 e])∨∃(W:Dt) (q:Nat),W.fit A6/\ W.den=kd.den++R.flatMap dn/\ (W.sz<=1016/\ W.wd<=1200)/\ cG (h1.oB.get q)=some ((W.po 0).flatMap yV)/\ x= .tu [.sl q 0 W.sz none 5,.i .i64 0])
  (K:=λy=>(∃e:Int,e≠0/\ y= .tu [.sn,.i .i64 e])∨∃W:Dt,W.fit A6/\ W.den=kd.den++R.flatMap dn/\ (W.sz<=1016/\ W.wd<=1200)/\ y= .tu [eR yV 5 true (W.po 0),.i .i64 0])
  (cj0 S aj8 A D FA FC FS F FE I hg G Y pn Ic (λ_=>⟨c,hc,rfl⟩) ω (λh=>bG6 h) hf V hN hR h0 _ (λe h' j=> .inl ⟨e,j,rfl⟩) λW q h' _ H J O _ _ hc=> .inr ⟨W,q,H,J,O,hc,rfl⟩)
  (λx h1 hq=>by
   rcases hq with ⟨e,j,rfl⟩|⟨W,q,H,J,O,hc,rfl⟩;exact⟨_,.inl ⟨e,j,rfl⟩,.sn,.sn,e,rfl,.inl ⟨rfl,rfl⟩,rfl⟩;exact⟨_,.inr ⟨W,H,J,O,rfl⟩,.sl q 0 W.sz none 5,eR yV 5 true (W.po 0),0,rfl,.inr ⟨q,W.sz,5,_,rfl,hc,bW2 _,by
    have e:=W.po_len 0;rw[BL (λh=>by rw[h] at e;have:=W.sz_pos;simp at e;omega),e]⟩,rfl⟩)
 refine E.conL h2 λp hp=> ?_;obtain⟨hk,j⟩:=h1 p hp;rw[j];rcases hk with ⟨e,j,U⟩|⟨W,H,J,O,U⟩;rw[U];exact k0 e j;rw[U];exact k1 W H J O
def bC2 (R:bz8 ae) (A:dY P X GL) (HD:bz8 ae) (HA:bz8 ae) (HC:bz8 ae) (HS:bz8 ae) (HG:bz8 ae) (HM:bz8 ae) (F:bz8 ae) (FN:bz8 ae) (FL:bz8 ae) (FW:bz8 ae) (I:Ib P X GL) (EN:DX P X GL) (RN:Jg P X GL) (hg:GL=mU) (KB:xi P X GL ae) (M:tZ P X GL ae) (d1:bg P X GL ae 4 [] (.b true)) {i} (ok:i.OK) {bw:Nat} (d6:bw<65536):bg P X GL ae 3 [.ag (m8 i),.i .u16 (bw:Int)] (.b true):=by
 refine bg.intro λC E=> ?_;have sc:=λh=>dR S d1 (n:=1) (by rfl) h;have mr:=λh k h0 h1=>bg8 (C:=C) S R A HG HM HS KB E F M ok h k h0 h1;obtain⟨b1,d5,gp⟩:=Kw ok.i.x;obtain⟨c8,c7⟩:=bS7 b1 i.i.cfg;have I1:oW P X GL (fU i.i.x) (Ef (fU i.i.x) i.i.cfg:Int) true:=λh=>by have:=Uu S A F b1 c8 h;rw[c7] at this;exact this
 generalize Ef (fU i.i.x) i.i.cfg=c at*;generalize fU i.i.x=g at*;have f8:nice 64 (.ag (m8 i))=true:=by
  rw[qe];simp only[m8,rx,gI,gw,gx,Bg,iq,j9,A4 pH,A4 E0,A4 E1,A7]
 have bq:=iW (g:=g);simp only[m8,rx,gI,gw,gx] at f8 mr;simp only[bx] at bq mr;refine E.bS (FN.g 3 JK) (Z4 @JK.eq_1 @m8.eq_1 @rx.eq_1 @gI.eq_1 ?_);refine E.cN (sc _) (Z0 ?_);refine E.run (mr _ _ (λov rv h' ⟨f9,g0,d2⟩ ⟨cr1,cr2,cr3⟩=> ?_) λN R' ov rv RL v h' hN hW TA hRL hV hRu low hn old=> ?_);obtain⟨n1,v1,aQ⟩:=h';refine Z2 d2 cr3 ?_;exact⟨1,rfl⟩;obtain⟨n1,v1,aQ⟩:=h';have g2:1<=n1:=hn;dsimp only at old;obtain⟨⟨m,f,aC,hf⟩,hR⟩:=hW;obtain⟨t,kd,rfl⟩:∃t kd,f= .nd t kd .nil:=by
  cases f with
  |nil=>exact aC.elim
  |lf t r=>have e:false=true:=aC.1.2.2.1;cases e
  |nd t kd r=>
   have h2:=aC.2;cases r with
   |nil=>exact⟨t,kd,rfl⟩
   |lf _ _=>exact h2.elim
   |nd _ _ _=>exact h2.elim
 obtain⟨ro,rr⟩:=ec TA.o TA.r;have co:cellsOf ov=[ov]/\ cellsO ov=some [ov]/\ ew ov=true/\ nice 63 ov=true:=by rcases ro with ⟨-,rfl⟩|⟨oo,rfl⟩<;>exact⟨rfl,rfl,rfl,rfl⟩
 have cr:cellsOf rv=[rv]/\ cellsO rv=some [rv]/\ ew rv=true/\ nice 63 rv=true:=by rcases rr with ⟨-,rfl⟩|⟨oo,rfl⟩<;>exact⟨rfl,rfl,rfl,rfl⟩
 have key:∀ver J,(∀j,j<n1 ->T.get J j=aQ.get j) ->bJ 10 ⟨n1+1+1,ver,J⟩ [aI g,.i .u64 (c:Int),v,.ag [ov,rv]]=some [aI g,.i .u64 (c:Int),eR uC 4 true RL,.ag (ky N R')]/\ mq 1 ⟨n1+1+1,ver,J⟩ ov rv N R'/\ uY ⟨n1+1+1,ver,J⟩ RL v:=λver J ho=>by
  have dv:deep 10 ⟨n1+1+1,ver,J⟩ v=some (eR uC 4 true RL):=by
   rcases hRu with ⟨rfl,rfl⟩|⟨o,n,U,rfl,c6,b8⟩;rfl;have V:o<n1:=c6;rw[gA (n:=9) (l:=RL.flatMap uC) (l':=RL.flatMap uC) (by rw[ho o V];exact b8) (qZ BB RL),sM (λe=>by rw[e] at U;cases U),U]
  have dt:=mq.deep TA (h':=⟨n1+1+1,ver,J⟩) λj v l _ hj hc=>⟨v,(ho j hj).trans hc⟩;refine⟨by rw[aL,aL,aL,aL,bZ,kq (n:=7),dH,dv,dt],TA.mono (by show n1<=n1+1+1;omega) λj _ hj=>ho j hj,?_⟩;rcases hRu with h|⟨o,n,U,e,c6,b8⟩;exact .inl h;have V:o<n1:=c6;exact .inr ⟨o,n,U,e,by show o<n1+1+1;omega,by rw[ho o V];exact b8⟩
 have b4:∀(o1 o2 o3 o4:bC) j,j<n1 ->((((aQ.put n1 o1).put (n1+1) o2).put n1 o3).put (n1+1) o4).get j=aQ.get j:=λo1 o2 o3 o4 j hj=>by
  have w1:(j=n1)=False:=cE;have w2:(j=n1+1)=False:=cE;exact U0
 have dc:=λh args n ha k k0 k1=>cj1 (C:=C) S E A HD HA HC HS FN F I hg b1 d5 gp c8 I1 hRL hV hf.symm aC hN hR (h:=h) (args:=args) (n:=n) ha k k0 k1;simp only[aI,bx] at dc key;refine Z2 co cr ?_;refine dc _ _ 10 (key _ _ (b4 _ _ _ _)).1 _ (λe he=> ?_) λW w1 w2 w3=> ?_;have d8:(e=0)=False:=dQ he;refine Z1 d8 ?_;exact⟨1,rfl⟩
 ·have b5:nice 64 (eR yV 5 true (W.po 0))=true:=A4 bY0;have fc:=λh=>bB9 S FL w1 ω (nl:=true) d6 h;have lg:(oJ (W.gh 0) (lZ bw (W.gl 0).length)).length=(W.gl 0).length:=by unfold oJ;rw[List.length_mapIdx,←Ee W 0,kU]
  have ed:eR kJ 1 false (oJ (W.gh 0) (lZ bw (W.gl 0).length))= .ds ((oJ (W.gh 0) (lZ bw (W.gl 0).length)).map .b) 0 (oJ (W.gh 0) (lZ bw (W.gl 0).length)).length 1:=by
   rw[Ik];have e:∀L:List Bool,L.flatMap kJ=L.map AV.b:=λL=>by induction L with|nil=>rfl|cons a L ih=>rw[lE,ih];rfl
   rw[e]
  rw[ed] at fc;have rr:=λ{h:AH} k hk=>bn4 S E FN FW EN RN I w1 ω ω (by
   have h1:=W.nl_sz;have h2:W.nl*(W.wd+1)<=508*1201:=zA ω ω;omega) (h:=h) lg (λfl f0=>Jm λp hp hf=>by
    obtain⟨k,hk,hb⟩:=f0 _ hf;unfold oJ at hb;rw[List.getElem?_mapIdx] at hb;rcases hg:(W.gh 0)[k]? with _|p';rw[hg] at hb;cases hb;rw[hg] at hb;have e1:p'.1=p.1:=by rw[←Ee W 0,oh,hg] at hk;exact gC hk
    rw[Jp W 0 p hp p' (dI hg) e1.symm];have d0:((lZ bw (W.gl 0).length)[k]?.getD false&& !p'.2)=true:=gC hb;cases h2:p'.2;rfl;rw[h2] at d0;simp at d0) (nl:=true) k hk
  refine Z1 b5 ?_;refine E.cN (fc _) (Z1 b5 ?_);refine E.run (rr _ λfl h2 n2 o2=> ?_);obtain⟨n3,v2,aJ⟩:=h2;have g3:n1+1+1<=n3:=n2;dsimp only at o2;have c8:cG (aJ.get (n1+1))=some [ov,rv]:=by rw[o2 (n1+1) ω];exact U0
  have wd:=mq.deep TA (h':=qT ⟨n3,v2,aJ⟩ (List.range n1)) λj v l _ hj hc=>⟨v,aN4 (h:=⟨n3,v2,aJ⟩) (by
   show aJ.get j=_;have hj:j<n1:=hj;rw[o2 j ω,b4 _ _ _ _ j hj];exact hc) _ _ (.inl (mA.2 hj))⟩
  have nd:=λt ht=>ch3 b1 _ _ (λs H h=>by rw[yC.1 H] at h;cases h) aC t ht;have wp:=bC1 S FL hN (λt ht=>by rw[←hf] at ht;exact(nd t ht).2) hR.1;have wc:=Dq S wp (h:=⟨n3,v2,aJ⟩) (n:=10) (l:=List.range n1) (args:=[.ag [ov,rv]]) (by rw[aL,bZ,wd]);have b6:nice 64 (eR jT 1 true (N.flatMap li++R'))=true:=A4 zi;refine Z4 c8 co cr b5 ?_;refine E.cN wc ?_;have b3:(N.flatMap li++R').flatMap dn=dn (W.wr fl 0 0 false ⟨[],0,0⟩).o:=by
   rw[Jk w1,w2,Bd,←hf,Qc aC];simp[Fo.den,dn]
  have ho:=(Ba (fl:=fl) (M:=W.wd) (T:=W) (m:=0) (i:=0) (d:=0) (f:=false) (S:=⟨[],0,0⟩) (bB _) (bB _) (bB _) ω).2.2;have ho:(W.wr fl 0 0 false ⟨[],0,0⟩).o.length<=1048576:=by
   have h1:=W.nl_sz;have h2:W.nl*(W.wd+1)<=508*1201:=zA ω ω;simp at ho;omega
  have H:∀s∈N.flatMap li++R',s.length<=4:=λs H=>by
   rcases fO.1 H with H|H;obtain⟨u,hu,H⟩:=Ll.1 H;rw[←hf] at hu;rcases(nd u hu).1 with ⟨⟨-,-,hx⟩,hr⟩|⟨pi,x,hp,-,hr⟩;rcases fO.1 H with H|H;exact(bU0 (hr s H)).1;split at H;rw[yC.1 H];exact(bU0 hx).1;cases H;unfold li at H;rw[hr,aD ω] at H;cases H;obtain⟨k,hk,rfl⟩:=hR.2 s H;exact(bU0 (bG3 hk)).1
  have g1:(N.flatMap li++R').length<=3*40+2:=by
   have h1:=Se (L:=N) λt ht=>by rw[←hf] at ht;exact(nd t ht).2
   have h2:=hR.1;rw[dy];omega
  generalize (W.wr fl 0 0 false ⟨[],0,0⟩).o=b7 at*;generalize N.flatMap li++R'=L at*;have d3:=λh=>aM9 S FL ho h;refine Z1 b6 ?_;refine fj E.ok L.length (λi τ h=>τ.get 5=some (.b true)/\ τ.get 13=some (.s b7)/\ τ.get 14=some (ι 0)/\ τ.get 15=some (.s ((L.take i).flatMap dn))/\ τ.get 16=some (eR jT 1 true L)/\ τ.get 17=some (ι (i:Int))) ?_ ?_ _ _ ⟨?_,?_,?_,?_,?_,?_⟩;rintro i τ h hi ⟨t5,Y,Z,O,b0,b2⟩ ih;have hl:L[i]? =some L[i]:=ef hi;have h4:=H _ (List.getElem_mem hi);have tk:(L.take (i+1)).flatMap dn=(L.take i).flatMap dn++dn L[i]:=by rw[List.take_succ,hl,Bd];simp
  generalize L[i]=s at hl h4 tk;have s1:AM.sub (L.flatMap jT) i 1=some [.s s]:=by have:=cW Qv hl (j:=0) (n:=1) ω;rwa [vH] at this
  have f7:((i:Int)<(L.length:Int))=True:=cJ;have lt:((L.take i).flatMap dn).length<=1048576:=by
   have e:((L.take i).flatMap dn).length+((L.drop i).flatMap dn).length=(L.flatMap dn).length:=by rw[←dy,←Bd,vJ]
   have:(dn b7).length<=b7.length:=List.length_filter_le _ _;rw[b3] at e;omega
  have ld:(dn s).length<=1048576:=fJ (List.length_filter_le _ _) ω;have ba:=aM8 (a:=(L.take i).flatMap dn) (b:=dn s) ⟨lt,ld⟩;have d4:=λh=>aM9 S FL (s:=s) ω h;refine lX t5 Y Z O b0 b2 f7 hi s1 b6 @dw @bG ?_;refine E.cN (d4 _) (Z8 t5 Y Z O b0 b2 ba @bK ?_);refine ih _ _ ⟨?_,?_,?_,?_,?_,?_⟩;exact U1 t5;exact U1 Y;exact U1 Z;rw[tk];(iterate 3 exact U1 b0);rintro τ h ⟨t5,Y,Z,O,b0,b2⟩;rw[mR,b3] at O;refine Z8 t5 Y Z O b0 b2 b6 @dw ?_;refine E.cN (d3 _) (Z2 O @aP0 ?_);exact⟨1,rfl⟩;all_goals exact U0
end
end AM
