import Derived.Lib.Bytealg
import Derived.Shelf.LaysM
import Derived.Shelf.Strings.Builder1
import Derived.Shelf.Strings.Repeat
import Derived.Test.YtdicmpmcdjdneaaGreatDoorN38
import Derived.Test.YtdicmpmcdjdneaaGreatDoorN54
set_option linter.all false
namespace AM
open Go
noncomputable section
section
def UR {P:Program} {I:Nat ->Option TypeInfo} (hI:∀t i,I t=some i ->P.info? t=some i) {t:Nat} {d:TypeDesc} (h:yu I t=some d):P.underlying t=some d:=by
 unfold yu at h;rcases B:I t with _|i;rw[B] at h;cases h;rw[B] at h;have D:=hI t i B;unfold Program.underlying;rw[D];obtain⟨A,_,_,_,_,_,_,_,_,_⟩:=i;dsimp only at h ⊢;cases A with
 |named n u=>
  dsimp only at h ⊢;rcases C:I u with _|j;rw[C] at h;cases h;rw[C] at h;rw[hI u j C];exact h
 |_=>exact h
def bq0 {P:Program}:lN P (Pj P):=by
 intro t i h;have h:=DB h;have hI:∀t i,nP P.types.toList t=some i ->P.info? t=some i:=λt i h=>by
  have:=Hv h;rw[vI] at this;have G:t<P.types.size:=(jX.1 this).1;show(if t<P.types.size then P.types[t]? else _)=_;rw[aF G];exact this
 unfold Pi at h;cases hd:yu (nP P.types.toList) t with
 |none=>rw[hd] at h;cases h
 |some d=>
  have E:=UR hI hd;cases hi:nP P.types.toList t with
  |none=>rw[hd,hi] at h;cases h
  |some j=>
   have D:=hI t j hi;rw[hd,hi] at h;dsimp only at h;cases C:j.zero with
   |none=>rw[C] at h;cases h
   |some z=>
    rw[C] at h;dsimp only at h;cases B:d.isRow with
    |true=>
     rw[B,fC] at h;cases z<;>dsimp only at h<;>first|(cases h;done)|skip
     rename_i vs;rw[fv] at h;split at h;rename_i A;cases h;exact⟨E,⟨j,_,D,rfl,rfl,C,.inl ⟨B,vs,rfl,A⟩⟩,rfl⟩;cases h
    |false=>
     rw[B,eU] at h;rw[fv] at h;split at h;rename_i A;rw[aB] at A;cases h;exact⟨E,⟨j,_,D,rfl,rfl,C,.inr ⟨B,_,rfl,A.1,A.2⟩⟩,rfl⟩;cases h
open Go.Proofs in
def bq1 {n:Nat} {F:Func} (h:nP Tryz.prog.funcs.toList n=some F):Tryz.prog.funcs[n]? =some F:=by
 have:=Hv h
 rwa [vI] at this
def US:∀(l:List Func) (n:Nat),JO l n=true ->∀i F,l[i]? =some F ->tQ (n+i)=true∨wY (n+i) F=true
 |[],n,_,i,F,h=>by cases h
 |G::l,n,hk,i,F,h=>by
  have h':((tQ n||wY n G)&&JO l (Nat.succ n))=true:=hk;rw[aB,ja] at h';rcases i with _|i;cases h;exact h'.1;have:=US l (Nat.succ n) h'.2 i F (by simpa using h)
  rwa [show n+(i+1)=Nat.succ n+i by omega]
def bq2 {k n:Nat} {F:Func} (h:tR k=true) (h1:100*k<=n) (h2:n<100*k+100) (j:Go.Proofs.Tryz.prog.funcs[n]? =some F):tQ n=true∨wY n F=true:=by
 have:=US _ _ h (n-100*k) F (by
  unfold Sx;rw[yr,jZ,aF ω,mB,show Nat.mul 100 k+(n-100*k)=n by show 100*k+_=_;omega,vI];exact j)
 rwa [show Nat.mul 100 k+(n-100*k)=n by show 100*k+_=_;omega] at this
def bq3 {n:Nat} {F:Func} (B:Go.Proofs.Tryz.prog.funcs[n]? =some F) (A:tQ n=false):wY n F=true:=by
 have key:∀k,tR k=true ->100*k<=n ->n<100*k+100 ->wY n F=true:=λk h h1 h2=>by
  rcases bq2 h h1 h2 B with j|j;rw[A] at j;cases j;exact j
 have C:n<666:=by
  refine uk λC=> ?_;have:tQ n=true:=by
   unfold tQ;simp only[wX,bu];simp;omega
  rw[A] at this;cases this
 rcases iO n 100 with h|h;exact key 0 bp3 ω ω;rcases iO n 200 with h|h;exact key 1 bp4 ω ω;rcases iO n 300 with h|h;exact key 2 bp5 ω ω;rcases iO n 400 with h|h;exact key 3 bp7 ω ω;rcases iO n 500 with h|h;exact key 4 bp8 ω ω;rcases iO n 600 with h|h;exact key 5 bp9 ω ω;exact key 6 bp6 ω ω
def bq4:∀f m,aG.get f=some m ->av8 Go.Proofs.Tryz.prog pX f m:=by
 intro f m h;have h:=DB h;cases B:tQ f with
 |true=>rw[B] at h;cases h
 |false=>
  rw[B,eU] at h;rcases A:nP Go.Proofs.Tryz.prog.funcs.toList f with _|F;rw[A] at h;cases h;rw[A] at h;cases h;have C:=bq1 A;have j:=bq3 C B;unfold wY at j;rcases hb:F.body with _|c;rw[hb] at j;simp at j;rw[hb] at j;simp only[aB,jH,wX,aU] at j;exact⟨F,c,C,j.1,hb,j.2.1,j.2.2.1,j.2.2.2⟩
end
end
end AM
namespace AM
open Go Go.Proofs
noncomputable section
def KP (P:Program) (name:String) (t f:Nat):Bool:=match nP P.types.toList t with
 |some j=>(match j.methods.find? (·.name==name) with
  |some m=>m.path.isEmpty&&(match m.func with
   |some (g,pr)=>Nat.beq g f&&(match yu (nP P.types.toList) t with|some (.pointer _)=>pr|some _=> !pr|none=>false)
   |none=>false)
  |none=>false)
 |none=>false
def UT {P:Program} {t:Nat} {i:TypeInfo} (h:nP P.types.toList t=some i):P.info? t=some i:=by
 have:=Hv h;rw[vI] at this;have j:t<P.types.size:=(jX.1 this).1;show(if t<P.types.size then P.types[t]? else _)=_;rw[aF j];exact this
def bq6 {P:Program} {name:String} {t f:Nat} (h:KP P name t f=true):Gl P name t f:=by
 unfold KP at h;rcases hi:nP P.types.toList t with _|A;rw[hi] at h;cases h;rw[hi] at h;dsimp only at h;rcases C:A.methods.find? (·.name==name) with _|m;rw[C] at h;cases h;rw[C] at h;dsimp only at h;rcases B:m.func with _|q;rw[B] at h;simp at h;obtain⟨g,pr⟩:=q;rw[B] at h;simp only[aB,bu,aU] at h;obtain⟨h1,rfl,j⟩:=h;rcases hd:yu (nP P.types.toList) t with _|d;rw[hd] at j;cases j;rw[hd] at j;refine⟨A,m,pr,d,UT hi,C,by simpa using h1,B,UR (λt i h=>UT h) hd,?_⟩;cases d with
 |pointer e=>exact .inl ⟨e,rfl,by simpa using j⟩
 |_=>exact .inr ⟨λe q=>(by cases q),by simpa using j⟩
def bq7:∀e∈HB,CV Tryz.prog e.1 e.2:=by
 have key:∀l:List (Nat×Nat),(l.all λq=>KP Tryz.prog "koine/document.write" q.1 q.2)=true ->CV Tryz.prog "koine/document.write" l:=by
  intro l;induction l with
  |nil=>intro _ t f h;cases h
  |cons q l C=>
   intro h t f B;simp only[xE,aB] at h;have j:(bif Nat.beq q.1 t then some q.2 else xN t l)=some f:=B;rw[fv] at j;split at j;rename_i e;simp only[bu,aU] at e;cases j;subst e;exact bq6 h.1;exact C h.2 t f j
 intro e A;rcases yC.1 A with rfl;exact key _ lR
def bq8:∀t∈pX.sq,Tryz.prog.eqGuardType Tryz.prog.depth t=false:=by
 have h:(pX.sq.all λt=> !(Tryz.prog.eqGuardType Tryz.prog.depth t))=true:=lR;intro t j;have:=fX.1 h t j;simpa using this
def bq9:∀e∈pX.vw,∀q∈e.2,liesAt Tryz.prog Tryz.prog.depth q.1 (q.2.1/Tryz.prog.cellsOf q.1) q.2.2 e.1 1=true:=by
 have h:(pX.vw.all λe=>e.2.all λq=>liesAt Tryz.prog Tryz.prog.depth q.1 (q.2.1/Tryz.prog.cellsOf q.1) q.2.2 e.1 1)=true:=lR;intro e j q A;exact fX.1 (fX.1 h e j) q A
def br3:j7 Tryz.prog pX:=⟨bq0,bq7,bq8,bq9⟩
def br4 {GL:T (List AV)} (j:∀g l,GL.get g=some l ->kI.flatL 0 l=true):aT Tryz.prog pX GL aG where
 mixed:=lR
 ctx:=br3
 ae:=bq4
 bn:=λf A=>by
  rcases yC.1 A with rfl;exact bq5
 gl:=j
end
end AM
namespace Go.Proofs
open Go.Shelf
section
def Tryz.lays105_ren:Go.Shelf.Ren:=⟨λ|105=>224|212=>331|99=>200|165=>332|166=>333|170=>334|169=>35|263=>426|264=>427|206=>313|240=>428|241=>429|276=>498|277=>499|n=>n,λ|9=>9|3=>3|4=>4|20=>20|0=>0|46=>118|109=>534|5=>5|72=>108|76=>538|51=>522|146=>523|53=>43|148=>656|70=>106|37=>22|75=>537|127=>181|164=>721|80=>117|n=>n,λ|n=>n⟩
def Tryz.lays105:Go.Proofs.Lays.n105 Tryz.prog Tryz.lays105_ren:={
 mixed:=by kernel_rfl
 f99:=Tryz.func200.trans (congrArg some (by kernel_rfl))
 f105:=Tryz.func224.trans (congrArg some (by kernel_rfl))
 f165:=Tryz.func332.trans (congrArg some (by kernel_rfl))
 f166:=Tryz.func333.trans (congrArg some (by kernel_rfl))
 f169:=Tryz.func35.trans (congrArg some (by kernel_rfl))
 f170:=Tryz.func334.trans (congrArg some (by kernel_rfl))
 f206:=Tryz.func313.trans (congrArg some (by kernel_rfl))
 f212:=Tryz.func331.trans (congrArg some (by kernel_rfl))
 f240:=Tryz.func428.trans (congrArg some (by kernel_rfl))
 f241:=Tryz.func429.trans (congrArg some (by kernel_rfl))
 f263:=Tryz.func426.trans (congrArg some (by kernel_rfl))
 f264:=Tryz.func427.trans (congrArg some (by kernel_rfl))
 f276:=Tryz.func498.trans (congrArg some (by kernel_rfl))
 f277:=Tryz.func499.trans (congrArg some (by kernel_rfl))
 t0:=Tryz.underlying0
 a0:=Tryz.isAgg0
 z0:=Tryz.sizeOf0
 v0:=Tryz.zeroValue0
 t3:=Tryz.underlying3
 a3:=Tryz.isAgg3
 z3:=Tryz.sizeOf3
 v3:=Tryz.zeroValue3
 t4:=Tryz.underlying4
 a4:=Tryz.isAgg4
 z4:=Tryz.sizeOf4
 v4:=Tryz.zeroValue4
 t5:=Tryz.underlying5
 a5:=Tryz.isAgg5
 z5:=Tryz.sizeOf5
 v5:=Tryz.zeroValue5
 t9:=Tryz.underlying9
 a9:=Tryz.isAgg9
 z9:=Tryz.sizeOf9
 v9:=Tryz.zeroValue9
 t20:=Tryz.underlying20
 a20:=Tryz.isAgg20
 z20:=Tryz.sizeOf20
 v20:=Tryz.zeroValue20
 t37:=Tryz.underlying22
 a37:=Tryz.isAgg22
 z37:=Tryz.sizeOf22
 v37:=Tryz.zeroValue22
 t46:=Tryz.underlying118
 a46:=Tryz.isAgg118
 z46:=Tryz.sizeOf118
 v46:=Tryz.zeroValue118
 t51:=Tryz.underlying522
 a51:=Tryz.isAgg522
 z51:=Tryz.sizeOf522
 v51:=Tryz.zeroValue522
 t53:=Tryz.underlying43
 a53:=Tryz.isAgg43
 z53:=Tryz.sizeOf43
 v53:=Tryz.zeroValue43
 t70:=Tryz.underlying106
 a70:=Tryz.isAgg106
 z70:=Tryz.sizeOf106
 v70:=Tryz.zeroValue106
 t72:=Tryz.underlying108
 a72:=Tryz.isAgg108
 z72:=Tryz.sizeOf108
 v72:=Tryz.zeroValue108
 t75:=Tryz.underlying537
 a75:=Tryz.isAgg537
 z75:=Tryz.sizeOf537
 v75:=Tryz.zeroValue537
 t76:=Tryz.underlying538
 a76:=Tryz.isAgg538
 z76:=Tryz.sizeOf538
 v76:=Tryz.zeroValue538
 t109:=Tryz.underlying534
 a109:=Tryz.isAgg534
 z109:=Tryz.sizeOf534
 v109:=Tryz.zeroValue534
 t127:=Tryz.underlying181
 a127:=Tryz.isAgg181
 z127:=Tryz.sizeOf181
 v127:=Tryz.zeroValue181
 t146:=Tryz.underlying523
 a146:=Tryz.isAgg523
 z146:=Tryz.sizeOf523
 v146:=Tryz.zeroValue523
 t148:=Tryz.underlying656
 a148:=Tryz.isAgg656
 z148:=Tryz.sizeOf656
 v148:=Tryz.zeroValue656
 t164:=Tryz.underlying721
 a164:=Tryz.isAgg721
 z164:=Tryz.sizeOf721
 v164:=Tryz.zeroValue721 }
def Tryz.Builder_Extra_105:Builder.Extra Tryz.prog Tryz.lays105_ren:={
 sizeBuilder:=by kernel_rfl
 liesBuilder:=by kernel_rfl
 t5:=Tryz.underlying5
 a5:=Tryz.isAgg5
 z5:=Tryz.sizeOf5
 v5:=Tryz.zeroValue5
 infoByte:=by kernel_rfl
 cellsByte:=by kernel_rfl
 sizeByte:=by kernel_rfl
 neB5:=by decide }
open Go.RowKit Go.Lib in
def Tryz.strings_Repeat (s:ByteArray) (c:Nat) (w:World) (A:c<=9223372036854775807) (j:s.size*c<=140737488355328):
 Calls Tryz.prog 224 #[.string s,.int .i64 c] w λe B=>e= .returned (.string ⟨(Lib.repeatL s.data.toList c).toArray⟩)/\ Below w.heap.size w B:=Any.strings_Repeat Tryz.lays105 Tryz.Builder_Extra_105 s c w A j
end
end Go.Proofs
namespace AM
open Go Go.Proofs
noncomputable section
def br5 {s:ByteArray} {l:List Nat} (h:s.data.toList.map UInt8.toNat=l):l.length=s.size:=by rw[←h,kU];rfl
def UU (c:UInt8):∀(l:List UInt8) (n:Nat),Bq c.toNat (l.map UInt8.toNat) n=if Lib.indexByte l c= -1 then -1 else Lib.indexByte l c+n
 |[],n=>rfl
 |a::l,n=>by
  have e:Bq c.toNat ((a::l).map UInt8.toNat) n=bif Nat.beq a.toNat c.toNat then Int.ofNat n else Bq c.toNat (l.map UInt8.toNat) (Nat.succ n):=rfl;have j:Nat.beq a.toNat c.toNat=(a==c):=by
   rw[bu];by_cases h:a=c;subst h;simp;have:a.toNat≠c.toNat:=λq=>h (UInt8.toNat_inj.1 q);simp[h,this]
  rw[e,j];unfold Lib.indexByte;cases hb:(a==c) with
  |true=>simp
  |false=>
   rw[eU,UU c l (Nat.succ n)];simp only[nr,bV,mD];by_cases h1:Lib.indexByte l c= -1;simp[h1];have h2:Lib.indexByte l c+1≠ -1∨Lib.indexByte l c+1= -1:=by omega
   rw[aD h1,aD h1];have:(-1:Int)<=Lib.indexByte l c:=by
    clear e j hb h1 h2;induction l with
    |nil=>simp[Lib.indexByte]
    |cons b l A=>
     unfold Lib.indexByte;split;omega;split<;>omega
   rw[aD ω];simp;omega
def UV (l:List UInt8):∀n,(Lib.repeatL l n).map UInt8.toNat=(List.replicate n (l.map UInt8.toNat)).flatten
 |0=>rfl
 |n+1=>by
  show(l++Lib.repeatL l n).map UInt8.toNat=_;rw[kE,UV l n,uc,vD]
set_option maxRecDepth 100000 in
def UW {GL:T (List AV)}:Sd Tryz.prog pX GL aZ:=by
 intro f a h v h' hb c w vs r gl H;unfold aZ at hb;rw[fv] at hb;split at hb;rename_i j;simp only[bu,aU] at j;subst j;split at hb
 ·rename_i l n;rw[fv] at hb;split at hb
  case isFalse=>cases hb
  rename_i C;simp only[wX,aU] at C;rw[zO] at hb;cases hb;cases H with
  |cons _ _ D I h1 h2=>
   cases h2 with
   |cons _ _ x2 O E G=>
    cases G;cases h1 with
    |s _ bs e1=>
     cases E;rw[show([Value.string bs,Value.int .u8 (Int.ofNat n)]:List Value).toArray=#[.string bs,.int .u8 (Int.ofNat n)] from rfl];rw[run_callFunc_extern Tryz.func316 lR lR lR (e:=Extern.BytealgIndexByte.indexByte) lR,Lib.run_indexByteString];refine⟨c,cH.refl r,?_⟩;have L:((Int.ofNat n).toNat.toUInt8).toNat=n:=by
      show(Nat.toUInt8 n).toNat=n;simp;omega
     have:=UU ((Int.ofNat n).toNat.toUInt8) bs.data.toList 0;rw[L,e1] at this;have h0:Bq n l 0=Lib.indexByte bs.data.toList ((Int.ofNat n).toNat.toUInt8):=by
      rw[this];split;rename_i e;rw[e];simp
     rw[h0];exact .i _ _
 cases hb;rw[fv] at hb;split at hb;rename_i j;simp only[bu,aU] at j;subst j;split at hb;cases hb;cases H with
 |cons _ _ D I h1 h2=>
  cases h2;rw[show([D]:List Value).toArray=#[D] from rfl];rw[run_callFunc_extern Tryz.func498 lR lR lR (e:=Extern.AbiNoEscape.same) lR,Lib.run_noEscape];exact⟨c,cH.refl r,h1⟩
 cases hb;rw[fv] at hb;split at hb;rename_i j;simp only[bu,aU] at j;subst j;split at hb;rename_i l n;rw[fv] at hb;split at hb;rename_i C;simp only[aB,wX,aU,kZ] at C;rw[zP] at hb;cases hb;cases H with
 |cons _ _ D I h1 h2=>
  cases h2 with
  |cons _ _ x2 O E G=>
   cases G;cases h1 with
   |s _ bs e1=>
    cases E;rw[show([Value.string bs,Value.int .i64 (Int.ofNat n)]:List Value).toArray=#[.string bs,.int .i64 (n:Int)] from rfl];have P:=br5 e1;have A:=Tryz.strings_Repeat bs n w ω (by
     have:bs.size*n<=1000*2000:=zA ω C.1;omega)
    rw[Da Tryz.func224 lR rfl];refine vN (Mw (ro:=none) (callsIn_wide.2 A)) λe R ⟨J,B⟩=> ?_;subst J;refine⟨c,⟨gE.refl c,r.push λb hb=>B.block b hb,?_⟩,.s _ _ ?_⟩;exact⟨B.size,λb hb _=>B.block b hb,λo ob N=> .inr ⟨o,ob,N,rfl⟩,λ_ h=> .inl h,bB _,λ_ _ h=> .inl h,λ_ _ h=>h,⟨B.os,B.output⟩⟩;show(Lib.repeatL bs.data.toList n).toArray.toList.map UInt8.toNat=_;rw[List.toList_toArray,UV,e1]
 cases hb;cases hb;cases hb
end
end AM
