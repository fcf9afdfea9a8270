import Derived.Lib.Bytealg
import Derived.Shelf.LaysM
import Derived.Shelf.Strings.Builder1
import Derived.Shelf.Strings.Repeat
import Derived.Test.YtdmkaddihnnbaaaGreatDoorN38
import Derived.Test.YtdmkaddihnnbaaaGreatDoorN54
set_option linter.all false
namespace AM
open Go
noncomputable section
section
def UR {P:Program} {I:Nat ->Option TypeInfo} (hI:∀t i,I t=some i ->P.info? t=some i) {t:Nat} {d:TypeDesc} (h:yu I t=some d):P.underlying t=some d:=by
 unfold yu at h;rcases B:I t with _|i;rw[B] at h;cases h;rw[B] at h;have D:=hI t i B;unfold Program.underlying;rw[D];obtain⟨A,_,_,_,_,_,_,_,_,_⟩:=i;dsimp only at h ⊢;cases A with
 |named n u=>
  dsimp only at h ⊢;rcases C:I u with _|j;rw[C] at h;cases h;rw[C] at h;rw[hI u j C];exact h
 |_=>exact h
def bq0 {P:Program}:lN P (Pj P):=by
 intro t i h;have h:=DB h;have hI:∀t i,nP P.types.toList t=some i ->P.info? t=some i:=λt i h=>by
  have:=Hv h;rw[vI] at this;have E:t<P.types.size:=(jX.1 this).1;show(if t<P.types.size then P.types[t]? else _)=_;rw[aF E];exact this
 unfold Pi at h;cases hd:yu (nP P.types.toList) t with
 |none=>rw[hd] at h;cases h
 |some d=>
  have D:=UR hI hd;cases hi:nP P.types.toList t with
  |none=>rw[hd,hi] at h;cases h
  |some j=>
   have C:=hI t j hi;rw[hd,hi] at h;dsimp only at h;cases B:j.zero with
   |none=>rw[B] at h;cases h
   |some z=>
    rw[B] at h;dsimp only at h;cases A:d.isRow with
    |true=>
     rw[A,fC] at h;cases z<;>dsimp only at h<;>first|(cases h;done)|skip
     rename_i vs;rw[fv] at h;split at h;rename_i u;cases h;exact⟨D,⟨j,_,C,rfl,rfl,B,.inl ⟨A,vs,rfl,u⟩⟩,rfl⟩;cases h
    |false=>
     rw[A,eU] at h;rw[fv] at h;split at h;rename_i u;rw[aB] at u;cases h;exact⟨D,⟨j,_,C,rfl,rfl,B,.inr ⟨A,_,rfl,u.1,u.2⟩⟩,rfl⟩;cases h
open Go.Proofs in
def bq1 {n:Nat} {F:Func} (h:nP Tryz.prog.funcs.toList n=some F):Tryz.prog.funcs[n]? =some F:=by
 have:=Hv h
 rwa [vI] at this
def US:∀(l:List Func) (n:Nat),JO l n=true ->∀i F,l[i]? =some F ->tQ (n+i)=true∨wY (n+i) F=true
 |[],n,_,i,F,h=>by cases h
 |G::l,n,hk,i,F,h=>by
  have h':((tQ n||wY n G)&&JO l (Nat.succ n))=true:=hk;rw[aB,ja] at h';rcases i with _|i;cases h;exact h'.1;have:=US l (Nat.succ n) h'.2 i F (by simpa using h)
  rwa [show n+(i+1)=Nat.succ n+i by omega]
def bq2 {k n:Nat} {F:Func} (h:tR k=true) (h1:100*k<=n) (h2:n<100*k+100) (j:Go.Proofs.Tryz.prog.funcs[n]? =some F):tQ n=true∨wY n F=true:=by
 have:=US _ _ h (n-100*k) F (by
  unfold Sx;rw[yr,jZ,aF ω,mB,show Nat.mul 100 k+(n-100*k)=n by show 100*k+_=_;omega,vI];exact j)
 rwa [show Nat.mul 100 k+(n-100*k)=n by show 100*k+_=_;omega] at this
def bq3 {n:Nat} {F:Func} (A:Go.Proofs.Tryz.prog.funcs[n]? =some F) (u:tQ n=false):wY n F=true:=by
 have key:∀k,tR k=true ->100*k<=n ->n<100*k+100 ->wY n F=true:=λk h h1 h2=>by
  rcases bq2 h h1 h2 A with j|j;rw[u] at j;cases j;exact j
 have B:n<666:=by
  refine uk λB=> ?_;have:tQ n=true:=by
   unfold tQ;simp only[wX,bu];simp;omega
  rw[u] at this;cases this
 rcases iO n 100 with h|h;exact key 0 bp3 ω ω;rcases iO n 200 with h|h;exact key 1 bp4 ω ω;rcases iO n 300 with h|h;exact key 2 bp5 ω ω;rcases iO n 400 with h|h;exact key 3 bp7 ω ω;rcases iO n 500 with h|h;exact key 4 bp8 ω ω;rcases iO n 600 with h|h;exact key 5 bp9 ω ω;exact key 6 bp6 ω ω
def bq4:∀f m,aG.get f=some m ->av8 Go.Proofs.Tryz.prog pX f m:=by
 intro f m h;have h:=DB h;cases A:tQ f with
 |true=>rw[A] at h;cases h
 |false=>
  rw[A,eU] at h;rcases u:nP Go.Proofs.Tryz.prog.funcs.toList f with _|F;rw[u] at h;cases h;rw[u] at h;cases h;have B:=bq1 u;have j:=bq3 B A;unfold wY at j;rcases hb:F.body with _|c;rw[hb] at j;simp at j;rw[hb] at j;simp only[aB,jH,wX,aU] at j;exact⟨F,c,B,j.1,hb,j.2.1,j.2.2.1,j.2.2.2⟩
end
end
end AM
namespace AM
open Go Go.Proofs
noncomputable section
def KP (P:Program) (name:String) (t f:Nat):Bool:=match nP P.types.toList t with
 |some j=>(match j.methods.find? (·.name==name) with
  |some m=>m.path.isEmpty&&(match m.func with
   |some (g,pr)=>Nat.beq g f&&(match yu (nP P.types.toList) t with|some (.pointer _)=>pr|some _=> !pr|none=>false)
   |none=>false)
  |none=>false)
 |none=>false
def UT {P:Program} {t:Nat} {i:TypeInfo} (h:nP P.types.toList t=some i):P.info? t=some i:=by
 have:=Hv h;rw[vI] at this;have j:t<P.types.size:=(jX.1 this).1;show(if t<P.types.size then P.types[t]? else _)=_;rw[aF j];exact this
def bq6 {P:Program} {name:String} {t f:Nat} (h:KP P name t f=true):Gl P name t f:=by
 unfold KP at h;rcases hi:nP P.types.toList t with _|u;rw[hi] at h;cases h;rw[hi] at h;dsimp only at h;rcases B:u.methods.find? (·.name==name) with _|m;rw[B] at h;cases h;rw[B] at h;dsimp only at h;rcases A:m.func with _|q;rw[A] at h;simp at h;obtain⟨g,pr⟩:=q;rw[A] at h;simp only[aB,bu,aU] at h;obtain⟨h1,rfl,j⟩:=h;rcases hd:yu (nP P.types.toList) t with _|d;rw[hd] at j;cases j;rw[hd] at j;refine⟨u,m,pr,d,UT hi,B,by simpa using h1,A,UR (λt i h=>UT h) hd,?_⟩;cases d with
 |pointer e=>exact .inl ⟨e,rfl,by simpa using j⟩
 |_=>exact .inr ⟨λe q=>(by cases q),by simpa using j⟩
def bq7:∀e∈HB,CV Tryz.prog e.1 e.2:=by
 have key:∀l:List (Nat×Nat),(l.all λq=>KP Tryz.prog "koine/document.write" q.1 q.2)=true ->CV Tryz.prog "koine/document.write" l:=by
  intro l;induction l with
  |nil=>intro _ t f h;cases h
  |cons q l B=>
   intro h t f A;simp only[xE,aB] at h;have j:(bif Nat.beq q.1 t then some q.2 else xN t l)=some f:=A;rw[fv] at j;split at j;rename_i e;simp only[bu,aU] at e;cases j;subst e;exact bq6 h.1;exact B h.2 t f j
 intro e u;rcases yC.1 u with rfl;exact key _ lR
def bq8:∀t∈pX.sq,Tryz.prog.eqGuardType Tryz.prog.depth t=false:=by
 have h:(pX.sq.all λt=> !(Tryz.prog.eqGuardType Tryz.prog.depth t))=true:=lR;intro t j;have:=fX.1 h t j;simpa using this
def bq9:∀e∈pX.vw,∀q∈e.2,liesAt Tryz.prog Tryz.prog.depth q.1 (q.2.1/Tryz.prog.cellsOf q.1) q.2.2 e.1 1=true:=by
 have h:(pX.vw.all λe=>e.2.all λq=>liesAt Tryz.prog Tryz.prog.depth q.1 (q.2.1/Tryz.prog.cellsOf q.1) q.2.2 e.1 1)=true:=lR;intro e j q u;exact fX.1 (fX.1 h e j) q u
def br3:j7 Tryz.prog pX:=⟨bq0,bq7,bq8,bq9⟩
def br4 {GL:T (List AV)} (j:∀g l,GL.get g=some l ->kI.flatL 0 l=true):aT Tryz.prog pX GL aG where
 mixed:=lR
 ctx:=br3
 ae:=bq4
 bn:=λf u=>by
  rcases yC.1 u with rfl;exact bq5
 gl:=j
end
end AM
namespace Go.Proofs
open Go.Shelf
section
def Tryz.lays105_ren:Go.Shelf.Ren:=⟨λ|105=>217|212=>324|99=>193|165=>325|166=>326|170=>327|169=>124|263=>419|264=>420|206=>306|240=>421|241=>422|276=>491|277=>492|n=>n,λ|9=>9|3=>3|4=>4|20=>20|0=>0|46=>345|109=>530|5=>5|72=>261|76=>534|51=>518|146=>519|53=>42|148=>652|70=>259|37=>22|75=>533|127=>410|164=>717|80=>270|n=>n,λ|n=>n⟩
def Tryz.lays105:Go.Proofs.Lays.n105 Tryz.prog Tryz.lays105_ren:={
 mixed:=by kernel_rfl
 f99:=Tryz.func193.trans (congrArg some (by kernel_rfl))
 f105:=Tryz.func217.trans (congrArg some (by kernel_rfl))
 f165:=Tryz.func325.trans (congrArg some (by kernel_rfl))
 f166:=Tryz.func326.trans (congrArg some (by kernel_rfl))
 f169:=Tryz.func124.trans (congrArg some (by kernel_rfl))
 f170:=Tryz.func327.trans (congrArg some (by kernel_rfl))
 f206:=Tryz.func306.trans (congrArg some (by kernel_rfl))
 f212:=Tryz.func324.trans (congrArg some (by kernel_rfl))
 f240:=Tryz.func421.trans (congrArg some (by kernel_rfl))
 f241:=Tryz.func422.trans (congrArg some (by kernel_rfl))
 f263:=Tryz.func419.trans (congrArg some (by kernel_rfl))
 f264:=Tryz.func420.trans (congrArg some (by kernel_rfl))
 f276:=Tryz.func491.trans (congrArg some (by kernel_rfl))
 f277:=Tryz.func492.trans (congrArg some (by kernel_rfl))
 t0:=Tryz.underlying0
 a0:=Tryz.isAgg0
 z0:=Tryz.sizeOf0
 v0:=Tryz.zeroValue0
 t3:=Tryz.underlying3
 a3:=Tryz.isAgg3
 z3:=Tryz.sizeOf3
 v3:=Tryz.zeroValue3
 t4:=Tryz.underlying4
 a4:=Tryz.isAgg4
 z4:=Tryz.sizeOf4
 v4:=Tryz.zeroValue4
 t5:=Tryz.underlying5
 a5:=Tryz.isAgg5
 z5:=Tryz.sizeOf5
 v5:=Tryz.zeroValue5
 t9:=Tryz.underlying9
 a9:=Tryz.isAgg9
 z9:=Tryz.sizeOf9
 v9:=Tryz.zeroValue9
 t20:=Tryz.underlying20
 a20:=Tryz.isAgg20
 z20:=Tryz.sizeOf20
 v20:=Tryz.zeroValue20
 t37:=Tryz.underlying22
 a37:=Tryz.isAgg22
 z37:=Tryz.sizeOf22
 v37:=Tryz.zeroValue22
 t46:=Tryz.underlying345
 a46:=Tryz.isAgg345
 z46:=Tryz.sizeOf345
 v46:=Tryz.zeroValue345
 t51:=Tryz.underlying518
 a51:=Tryz.isAgg518
 z51:=Tryz.sizeOf518
 v51:=Tryz.zeroValue518
 t53:=Tryz.underlying42
 a53:=Tryz.isAgg42
 z53:=Tryz.sizeOf42
 v53:=Tryz.zeroValue42
 t70:=Tryz.underlying259
 a70:=Tryz.isAgg259
 z70:=Tryz.sizeOf259
 v70:=Tryz.zeroValue259
 t72:=Tryz.underlying261
 a72:=Tryz.isAgg261
 z72:=Tryz.sizeOf261
 v72:=Tryz.zeroValue261
 t75:=Tryz.underlying533
 a75:=Tryz.isAgg533
 z75:=Tryz.sizeOf533
 v75:=Tryz.zeroValue533
 t76:=Tryz.underlying534
 a76:=Tryz.isAgg534
 z76:=Tryz.sizeOf534
 v76:=Tryz.zeroValue534
 t109:=Tryz.underlying530
 a109:=Tryz.isAgg530
 z109:=Tryz.sizeOf530
 v109:=Tryz.zeroValue530
 t127:=Tryz.underlying410
 a127:=Tryz.isAgg410
 z127:=Tryz.sizeOf410
 v127:=Tryz.zeroValue410
 t146:=Tryz.underlying519
 a146:=Tryz.isAgg519
 z146:=Tryz.sizeOf519
 v146:=Tryz.zeroValue519
 t148:=Tryz.underlying652
 a148:=Tryz.isAgg652
 z148:=Tryz.sizeOf652
 v148:=Tryz.zeroValue652
 t164:=Tryz.underlying717
 a164:=Tryz.isAgg717
 z164:=Tryz.sizeOf717
 v164:=Tryz.zeroValue717 }
def Tryz.Builder_Extra_105:Builder.Extra Tryz.prog Tryz.lays105_ren:={
 sizeBuilder:=by kernel_rfl
 liesBuilder:=by kernel_rfl
 t5:=Tryz.underlying5
 a5:=Tryz.isAgg5
 z5:=Tryz.sizeOf5
 v5:=Tryz.zeroValue5
 infoByte:=by kernel_rfl
 cellsByte:=by kernel_rfl
 sizeByte:=by kernel_rfl
 neB5:=by decide }
open Go.RowKit Go.Lib in
def Tryz.strings_Repeat (s:ByteArray) (c:Nat) (w:World) (u:c<=9223372036854775807) (j:s.size*c<=140737488355328):
 Calls Tryz.prog 217 #[.string s,.int .i64 c] w λe A=>e= .returned (.string ⟨(Lib.repeatL s.data.toList c).toArray⟩)/\ Below w.heap.size w A:=Any.strings_Repeat Tryz.lays105 Tryz.Builder_Extra_105 s c w u j
end
end Go.Proofs
namespace AM
open Go Go.Proofs
noncomputable section
def br5 {s:ByteArray} {l:List Nat} (h:s.data.toList.map UInt8.toNat=l):l.length=s.size:=by rw[←h,kU];rfl
def UU (c:UInt8):∀(l:List UInt8) (n:Nat),Bq c.toNat (l.map UInt8.toNat) n=if Lib.indexByte l c= -1 then -1 else Lib.indexByte l c+n
 |[],n=>rfl
 |a::l,n=>by
  have e:Bq c.toNat ((a::l).map UInt8.toNat) n=bif Nat.beq a.toNat c.toNat then Int.ofNat n else Bq c.toNat (l.map UInt8.toNat) (Nat.succ n):=rfl;have j:Nat.beq a.toNat c.toNat=(a==c):=by
   rw[bu];by_cases h:a=c;subst h;simp;have:a.toNat≠c.toNat:=λq=>h (UInt8.toNat_inj.1 q);simp[h,this]
  rw[e,j];unfold Lib.indexByte;cases hb:(a==c) with
  |true=>simp
  |false=>
   rw[eU,UU c l (Nat.succ n)];simp only[nr,bV,mD];by_cases h1:Lib.indexByte l c= -1;simp[h1];have h2:Lib.indexByte l c+1≠ -1∨Lib.indexByte l c+1= -1:=by omega
   rw[aD h1,aD h1];have:(-1:Int)<=Lib.indexByte l c:=by
    clear e j hb h1 h2;induction l with
    |nil=>simp[Lib.indexByte]
    |cons b l u=>
     unfold Lib.indexByte;split;omega;split<;>omega
   rw[aD ω];simp;omega
def UV (l:List UInt8):∀n,(Lib.repeatL l n).map UInt8.toNat=(List.replicate n (l.map UInt8.toNat)).flatten
 |0=>rfl
 |n+1=>by
  show(l++Lib.repeatL l n).map UInt8.toNat=_;rw[kE,UV l n,uc,vD]
set_option maxRecDepth 100000 in
def UW {GL:T (List AV)}:Sd Tryz.prog pX GL aZ:=by
 intro f a h v h' hb c w vs r gl G;unfold aZ at hb;rw[fv] at hb;split at hb;rename_i j;simp only[bu,aU] at j;subst j;split at hb
 ·rename_i l n;rw[fv] at hb;split at hb
  case isFalse=>cases hb
  rename_i B;simp only[wX,aU] at B;rw[zO] at hb;cases hb;cases G with
  |cons _ _ C H h1 h2=>
   cases h2 with
   |cons _ _ x2 N D E=>
    cases E;cases h1 with
    |s _ bs e1=>
     cases D;rw[show([Value.string bs,Value.int .u8 (Int.ofNat n)]:List Value).toArray=#[.string bs,.int .u8 (Int.ofNat n)] from rfl];rw[run_callFunc_extern Tryz.func309 lR lR lR (e:=Extern.BytealgIndexByte.indexByte) lR,Lib.run_indexByteString];refine⟨c,cH.refl r,?_⟩;have J:((Int.ofNat n).toNat.toUInt8).toNat=n:=by
      show(Nat.toUInt8 n).toNat=n;simp;omega
     have:=UU ((Int.ofNat n).toNat.toUInt8) bs.data.toList 0;rw[J,e1] at this;have h0:Bq n l 0=Lib.indexByte bs.data.toList ((Int.ofNat n).toNat.toUInt8):=by
      rw[this];split;rename_i e;rw[e];simp
     rw[h0];exact .i _ _
 cases hb;rw[fv] at hb;split at hb;rename_i j;simp only[bu,aU] at j;subst j;split at hb;cases hb;cases G with
 |cons _ _ C H h1 h2=>
  cases h2;rw[show([C]:List Value).toArray=#[C] from rfl];rw[run_callFunc_extern Tryz.func491 lR lR lR (e:=Extern.AbiNoEscape.same) lR,Lib.run_noEscape];exact⟨c,cH.refl r,h1⟩
 cases hb;rw[fv] at hb;split at hb;rename_i j;simp only[bu,aU] at j;subst j;split at hb;rename_i l n;rw[fv] at hb;split at hb;rename_i B;simp only[aB,wX,aU,kZ] at B;rw[zP] at hb;cases hb;cases G with
 |cons _ _ C H h1 h2=>
  cases h2 with
  |cons _ _ x2 N D E=>
   cases E;cases h1 with
   |s _ bs e1=>
    cases D;rw[show([Value.string bs,Value.int .i64 (Int.ofNat n)]:List Value).toArray=#[.string bs,.int .i64 (n:Int)] from rfl];have O:=br5 e1;have u:=Tryz.strings_Repeat bs n w ω (by
     have:bs.size*n<=1000*1000:=zA ω B.1;omega)
    rw[Da Tryz.func217 lR rfl];refine vN (Mw (ro:=none) (callsIn_wide.2 u)) λe P ⟨I,A⟩=> ?_;subst I;refine⟨c,⟨gE.refl c,r.push λb hb=>A.block b hb,?_⟩,.s _ _ ?_⟩;exact⟨A.size,λb hb _=>A.block b hb,λo ob L=> .inr ⟨o,ob,L,rfl⟩,λ_ h=> .inl h,bB _,λ_ _ h=> .inl h,λ_ _ h=>h,⟨A.os,A.output⟩⟩;show(Lib.repeatL bs.data.toList n).toArray.toList.map UInt8.toNat=_;rw[List.toList_toArray,UV,e1]
 cases hb;cases hb;cases hb
end
end AM
