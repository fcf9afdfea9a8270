import Derived.Lib.Bytealg
import Derived.Shelf.LaysM
import Derived.Shelf.Strings.Builder1
import Derived.Shelf.Strings.Repeat
import Derived.Test.YtihgjngjidijaaaGreatDoorN38
import Derived.Test.YtihgjngjidijaaaGreatDoorN54
set_option linter.all false
namespace AM
open Go
noncomputable section
section
def UR {P:Program} {I:Nat ->Option TypeInfo} (hI:∀t i,I t=some i ->P.info? t=some i) {t:Nat} {d:TypeDesc} (h:yu I t=some d):P.underlying t=some d:=by
 unfold yu at h;cases ht:I t with
 |none=>rw[ht] at h;cases h
 |some i=>
  rw[ht] at h;have hp:=hI t i ht;unfold Program.underlying;rw[hp];obtain⟨desc,_,_,_,_,_,_,_,_,_⟩:=i;dsimp only at h ⊢;cases desc with
  |named n u=>
   dsimp only at h ⊢;cases hu:I u with
   |none=>rw[hu] at h;cases h
   |some j=>rw[hu] at h;rw[hI u j hu];exact h
  |_=>exact h
def bq0 {P:Program}:lN P (Pj P):=by
 intro t i h;have h:=DB h;have hI:∀t i,nP P.types.toList t=some i ->P.info? t=some i:=λt i h=>by
  have:=Hv h;rw[vI] at this;have hl:t<P.types.size:=(jX.1 this).1;show(if t<P.types.size then P.types[t]? else _)=_;rw[aF hl];exact this
 unfold Pi at h;cases hd:yu (nP P.types.toList) t with
 |none=>rw[hd] at h;cases h
 |some d=>
  have hu:=UR hI hd;cases hi:nP P.types.toList t with
  |none=>rw[hd,hi] at h;cases h
  |some inf=>
   have hp:=hI t inf hi;rw[hd,hi] at h;dsimp only at h;cases hz:inf.zero with
   |none=>rw[hz] at h;cases h
   |some z=>
    rw[hz] at h;dsimp only at h;cases hr:d.isRow with
    |true=>
     rw[hr,fC] at h;cases z<;>dsimp only at h<;>first|(cases h;done)|skip
     rename_i vs;rw[fv] at h;split at h
     ·rename_i hk;cases h;exact⟨hu,⟨inf,_,hp,rfl,rfl,hz,.inl ⟨hr,vs,rfl,hk⟩⟩,rfl⟩
     ·cases h
    |false=>
     rw[hr,eU] at h;rw[fv] at h;split at h
     ·rename_i hk;rw[aB] at hk;cases h;exact⟨hu,⟨inf,_,hp,rfl,rfl,hz,.inr ⟨hr,_,rfl,hk.1,hk.2⟩⟩,rfl⟩
     ·cases h
open Go.Proofs in
def bq1 {n:Nat} {F:Func} (h:nP Tryz.prog.funcs.toList n=some F):Tryz.prog.funcs[n]? =some F:=by
 have:=Hv h
 rwa [vI] at this
def US:∀(l:List Func) (n:Nat),JO l n=true ->∀i F,l[i]? =some F ->tQ (n+i)=true∨wY (n+i) F=true
 |[],n,_,i,F,h=>by cases h
 |G::l,n,hk,i,F,h=>by
  have h':((tQ n||wY n G)&&JO l (Nat.succ n))=true:=hk;rw[aB,ja] at h';cases i with
  |zero=>cases h;exact h'.1
  |succ i=>
   have:=US l (Nat.succ n) h'.2 i F (by simpa using h)
   rwa [show n+(i+1)=Nat.succ n+i by omega]
def bq2 {k n:Nat} {F:Func} (h:tR k=true) (h1:100*k<=n) (h2:n<100*k+100) (hF:Go.Proofs.Tryz.prog.funcs[n]? =some F):tQ n=true∨wY n F=true:=by
 have:=US _ _ h (n-100*k) F (by
  unfold Sx;rw[yr,jZ,aF ω,mB,show Nat.mul 100 k+(n-100*k)=n by show 100*k+_=_;omega,vI];exact hF)
 rwa [show Nat.mul 100 k+(n-100*k)=n by show 100*k+_=_;omega] at this
def bq3 {n:Nat} {F:Func} (hF:Go.Proofs.Tryz.prog.funcs[n]? =some F) (hs:tQ n=false):wY n F=true:=by
 have key:∀k,tR k=true ->100*k<=n ->n<100*k+100 ->wY n F=true:=λk h h1 h2=>by
  rcases bq2 h h1 h2 hF with h3|h3
  ·rw[hs] at h3;cases h3
  ·exact h3
 have hn:n<666:=by
  refine uk λhn=> ?_;have:tQ n=true:=by
   unfold tQ;simp only[dm,bu];simp;omega
  rw[hs] at this;cases this
 rcases iO n 100 with h|h
 ·exact key 0 bp3 ω ω
 rcases iO n 200 with h|h
 ·exact key 1 bp4 ω ω
 rcases iO n 300 with h|h
 ·exact key 2 bp5 ω ω
 rcases iO n 400 with h|h
 ·exact key 3 bp7 ω ω
 rcases iO n 500 with h|h
 ·exact key 4 bp8 ω ω
 rcases iO n 600 with h|h
 ·exact key 5 bp9 ω ω
 ·exact key 6 bp6 ω ω
def bq4:∀f m,aG.get f=some m ->GS Go.Proofs.Tryz.prog pX f m:=by
 intro f m h;have h:=DB h;cases hs:tQ f with
 |true=>rw[hs] at h;cases h
 |false=>
  rw[hs,eU] at h;cases hF:nP Go.Proofs.Tryz.prog.funcs.toList f with
  |none=>rw[hF] at h;cases h
  |some F=>
   rw[hF] at h;cases h;have hg:=bq1 hF;have hk:=bq3 hg hs;unfold wY at hk;cases hb:F.body with
   |none=>rw[hb] at hk;simp at hk
   |some c=>
    rw[hb] at hk;simp only[aB,jH,dm,aU] at hk;exact⟨F,c,hg,hk.1,hb,hk.2.1,hk.2.2.1,hk.2.2.2⟩
end
end
end AM
namespace AM
open Go Go.Proofs
noncomputable section
def KP (P:Program) (name:String) (t f:Nat):Bool:=match nP P.types.toList t with
 |some inf=>(match inf.methods.find? (·.name==name) with
  |some m=>m.path.isEmpty&&(match m.func with
   |some (g,pr)=>Nat.beq g f&&(match yu (nP P.types.toList) t with|some (.pointer _)=>pr|some _=> !pr|none=>false)
   |none=>false)
  |none=>false)
 |none=>false
def UT {P:Program} {t:Nat} {i:TypeInfo} (h:nP P.types.toList t=some i):P.info? t=some i:=by
 have:=Hv h;rw[vI] at this;have hl:t<P.types.size:=(jX.1 this).1;show(if t<P.types.size then P.types[t]? else _)=_;rw[aF hl];exact this
def bq6 {P:Program} {name:String} {t f:Nat} (h:KP P name t f=true):Gl P name t f:=by
 unfold KP at h;cases hi:nP P.types.toList t with
 |none=>rw[hi] at h;cases h
 |some inf=>
  rw[hi] at h;dsimp only at h;cases hm:inf.methods.find? (·.name==name) with
  |none=>rw[hm] at h;cases h
  |some m=>
   rw[hm] at h;dsimp only at h;cases hf:m.func with
   |none=>rw[hf] at h;simp at h
   |some q=>
    obtain⟨g,pr⟩:=q;rw[hf] at h;simp only[aB,bu,aU] at h;obtain⟨h1,rfl,h3⟩:=h;cases hd:yu (nP P.types.toList) t with
    |none=>rw[hd] at h3;cases h3
    |some d=>
     rw[hd] at h3;refine⟨inf,m,pr,d,UT hi,hm,by simpa using h1,hf,UR (λt i h=>UT h) hd,?_⟩;cases d with
     |pointer e=>exact .inl ⟨e,rfl,by simpa using h3⟩
     |_=>exact .inr ⟨λe q=>(by cases q),by simpa using h3⟩
def bq7:∀e∈HB,CV Tryz.prog e.1 e.2:=by
 have key:∀l:List (Nat×Nat),(l.all λq=>KP Tryz.prog "koine/document.write" q.1 q.2)=true ->CV Tryz.prog "koine/document.write" l:=by
  intro l;induction l with
  |nil=>intro _ t f h;cases h
  |cons q l ih=>
   intro h t f hl;simp only[xE,aB] at h;have hl':(bif Nat.beq q.1 t then some q.2 else xN t l)=some f:=hl;rw[fv] at hl';split at hl'
   ·rename_i e;simp only[bu,aU] at e;cases hl';subst e;exact bq6 h.1
   ·exact ih h.2 t f hl'
 intro e he;rcases fk.1 he with rfl;exact key _ af
def bq8:∀t∈pX.sq,Tryz.prog.eqGuardType Tryz.prog.depth t=false:=by
 have h:(pX.sq.all λt=> !(Tryz.prog.eqGuardType Tryz.prog.depth t))=true:=af;intro t ht;have:=fX.1 h t ht;simpa using this
def bq9:∀e∈pX.vw,∀q∈e.2,liesAt Tryz.prog Tryz.prog.depth q.1 (q.2.1/Tryz.prog.cellsOf q.1) q.2.2 e.1 1=true:=by
 have h:(pX.vw.all λe=>e.2.all λq=>liesAt Tryz.prog Tryz.prog.depth q.1 (q.2.1/Tryz.prog.cellsOf q.1) q.2.2 e.1 1)=true:=af;intro e he q hq;exact fX.1 (fX.1 h e he) q hq
def br3:j7 Tryz.prog pX:=⟨bq0,bq7,bq8,bq9⟩
def br4 {GL:T (List AV)} (hgl:∀g l,GL.get g=some l ->kI.flatL 0 l=true):aT Tryz.prog pX GL aG where
 mixed:=af
 ctx:=br3
 ae:=bq4
 bn:=λf hf=>by
  rcases fk.1 hf with rfl;exact bq5
 gl:=hgl
end
end AM
namespace Go.Proofs
open Go.Shelf
section
def Tryz.lays105_ren:Go.Shelf.Ren:=⟨λ|105=>206|212=>322|99=>210|165=>323|166=>324|170=>325|169=>114|263=>421|264=>422|206=>327|240=>423|241=>424|276=>493|277=>494|n=>n,λ|9=>9|3=>3|4=>4|20=>20|0=>0|46=>341|109=>527|5=>5|72=>248|76=>531|51=>523|146=>628|53=>42|148=>651|70=>246|37=>22|75=>530|127=>401|164=>716|80=>257|n=>n,λ|n=>n⟩
def Tryz.lays105:Go.Proofs.Lays.n105 Tryz.prog Tryz.lays105_ren:={
 mixed:=by kernel_rfl
 f99:=Tryz.func210.trans (congrArg some (by kernel_rfl))
 f105:=Tryz.func206.trans (congrArg some (by kernel_rfl))
 f165:=Tryz.func323.trans (congrArg some (by kernel_rfl))
 f166:=Tryz.func324.trans (congrArg some (by kernel_rfl))
 f169:=Tryz.func114.trans (congrArg some (by kernel_rfl))
 f170:=Tryz.func325.trans (congrArg some (by kernel_rfl))
 f206:=Tryz.func327.trans (congrArg some (by kernel_rfl))
 f212:=Tryz.func322.trans (congrArg some (by kernel_rfl))
 f240:=Tryz.func423.trans (congrArg some (by kernel_rfl))
 f241:=Tryz.func424.trans (congrArg some (by kernel_rfl))
 f263:=Tryz.func421.trans (congrArg some (by kernel_rfl))
 f264:=Tryz.func422.trans (congrArg some (by kernel_rfl))
 f276:=Tryz.func493.trans (congrArg some (by kernel_rfl))
 f277:=Tryz.func494.trans (congrArg some (by kernel_rfl))
 t0:=Tryz.underlying0
 a0:=Tryz.isAgg0
 z0:=Tryz.sizeOf0
 v0:=Tryz.zeroValue0
 t3:=Tryz.underlying3
 a3:=Tryz.isAgg3
 z3:=Tryz.sizeOf3
 v3:=Tryz.zeroValue3
 t4:=Tryz.underlying4
 a4:=Tryz.isAgg4
 z4:=Tryz.sizeOf4
 v4:=Tryz.zeroValue4
 t5:=Tryz.underlying5
 a5:=Tryz.isAgg5
 z5:=Tryz.sizeOf5
 v5:=Tryz.zeroValue5
 t9:=Tryz.underlying9
 a9:=Tryz.isAgg9
 z9:=Tryz.sizeOf9
 v9:=Tryz.zeroValue9
 t20:=Tryz.underlying20
 a20:=Tryz.isAgg20
 z20:=Tryz.sizeOf20
 v20:=Tryz.zeroValue20
 t37:=Tryz.underlying22
 a37:=Tryz.isAgg22
 z37:=Tryz.sizeOf22
 v37:=Tryz.zeroValue22
 t46:=Tryz.underlying341
 a46:=Tryz.isAgg341
 z46:=Tryz.sizeOf341
 v46:=Tryz.zeroValue341
 t51:=Tryz.underlying523
 a51:=Tryz.isAgg523
 z51:=Tryz.sizeOf523
 v51:=Tryz.zeroValue523
 t53:=Tryz.underlying42
 a53:=Tryz.isAgg42
 z53:=Tryz.sizeOf42
 v53:=Tryz.zeroValue42
 t70:=Tryz.underlying246
 a70:=Tryz.isAgg246
 z70:=Tryz.sizeOf246
 v70:=Tryz.zeroValue246
 t72:=Tryz.underlying248
 a72:=Tryz.isAgg248
 z72:=Tryz.sizeOf248
 v72:=Tryz.zeroValue248
 t75:=Tryz.underlying530
 a75:=Tryz.isAgg530
 z75:=Tryz.sizeOf530
 v75:=Tryz.zeroValue530
 t76:=Tryz.underlying531
 a76:=Tryz.isAgg531
 z76:=Tryz.sizeOf531
 v76:=Tryz.zeroValue531
 t109:=Tryz.underlying527
 a109:=Tryz.isAgg527
 z109:=Tryz.sizeOf527
 v109:=Tryz.zeroValue527
 t127:=Tryz.underlying401
 a127:=Tryz.isAgg401
 z127:=Tryz.sizeOf401
 v127:=Tryz.zeroValue401
 t146:=Tryz.underlying628
 a146:=Tryz.isAgg628
 z146:=Tryz.sizeOf628
 v146:=Tryz.zeroValue628
 t148:=Tryz.underlying651
 a148:=Tryz.isAgg651
 z148:=Tryz.sizeOf651
 v148:=Tryz.zeroValue651
 t164:=Tryz.underlying716
 a164:=Tryz.isAgg716
 z164:=Tryz.sizeOf716
 v164:=Tryz.zeroValue716 }
def Tryz.Builder_Extra_105:Builder.Extra Tryz.prog Tryz.lays105_ren:={
 sizeBuilder:=by kernel_rfl
 liesBuilder:=by kernel_rfl
 t5:=Tryz.underlying5
 a5:=Tryz.isAgg5
 z5:=Tryz.sizeOf5
 v5:=Tryz.zeroValue5
 infoByte:=by kernel_rfl
 cellsByte:=by kernel_rfl
 sizeByte:=by kernel_rfl
 neB5:=by decide }
open Go.RowKit Go.Lib in
def Tryz.strings_Repeat (s:ByteArray) (c:Nat) (w:World) (hc:c<=9223372036854775807) (eQ:s.size*c<=140737488355328):
 Calls Tryz.prog 206 #[.string s,.int .i64 c] w λe w'=>e= .returned (.string ⟨(Lib.repeatL s.data.toList c).toArray⟩)/\ Below w.heap.size w w':=Any.strings_Repeat Tryz.lays105 Tryz.Builder_Extra_105 s c w hc eQ
end
end Go.Proofs
namespace AM
open Go Go.Proofs
noncomputable section
def br5 {s:ByteArray} {l:List Nat} (h:s.data.toList.map UInt8.toNat=l):l.length=s.size:=by rw[←h,kU];rfl
def UU (c:UInt8):∀(l:List UInt8) (n:Nat),Bq c.toNat (l.map UInt8.toNat) n=if Lib.indexByte l c= -1 then -1 else Lib.indexByte l c+n
 |[],n=>rfl
 |a::l,n=>by
  have e:Bq c.toNat ((a::l).map UInt8.toNat) n=bif Nat.beq a.toNat c.toNat then Int.ofNat n else Bq c.toNat (l.map UInt8.toNat) (Nat.succ n):=rfl;have hq:Nat.beq a.toNat c.toNat=(a==c):=by
   rw[bu];by_cases h:a=c
   ·subst h;simp
   ·have:a.toNat≠c.toNat:=λq=>h (UInt8.toNat_inj.1 q);simp[h,this]
  rw[e,hq];unfold Lib.indexByte;cases hb:(a==c) with
  |true=>simp
  |false=>
   rw[eU,UU c l (Nat.succ n)];simp only[nr,bV,mD];by_cases h1:Lib.indexByte l c= -1
   ·simp[h1]
   ·have h2:Lib.indexByte l c+1≠ -1∨Lib.indexByte l c+1= -1:=by omega
    rw[aD h1,aD h1];have:(-1:Int)<=Lib.indexByte l c:=by
     clear e hq hb h1 h2;induction l with
     |nil=>simp[Lib.indexByte]
     |cons b l ih=>
      unfold Lib.indexByte;split
      ·omega
      ·split<;>omega
    rw[aD ω];simp;omega
def UV (l:List UInt8):∀n,(Lib.repeatL l n).map UInt8.toNat=(List.replicate n (l.map UInt8.toNat)).flatten
 |0=>rfl
 |n+1=>by
  show(l++Lib.repeatL l n).map UInt8.toNat=_;rw[kE,UV l n,uc,vD]
set_option maxRecDepth 100000 in
def UW {GL:T (List AV)}:Dt Tryz.prog pX GL aZ:=by
 intro f a h v h' hb c w vs r gl hv;unfold aZ at hb;rw[fv] at hb;split at hb
 ·rename_i hf;simp only[bu,aU] at hf;subst hf;split at hb
  ·rename_i l n;rw[fv] at hb;split at hb
   case isFalse=>cases hb
   rename_i hc;simp only[dm,aU] at hc;rw[zO] at hb;cases hb;cases hv with
   |cons _ _ x1 xs h1 h2=>
    cases h2 with
    |cons _ _ x2 ys h3 h4=>
     cases h4;cases h1 with
     |s _ bs e1=>
      cases h3;rw[show([Value.string bs,Value.int .u8 (Int.ofNat n)]:List Value).toArray=#[.string bs,.int .u8 (Int.ofNat n)] from rfl];rw[run_callFunc_extern Tryz.func396 af af af (e:=Extern.BytealgIndexByte.indexByte) af,Lib.run_indexByteString];refine⟨c,cH.refl r,?_⟩;have hn:((Int.ofNat n).toNat.toUInt8).toNat=n:=by
       show(Nat.toUInt8 n).toNat=n;simp;omega
      have:=UU ((Int.ofNat n).toNat.toUInt8) bs.data.toList 0;rw[hn,e1] at this;have h0:Bq n l 0=Lib.indexByte bs.data.toList ((Int.ofNat n).toNat.toUInt8):=by
       rw[this];split
       ·rename_i e;rw[e]
       ·simp
      rw[h0];exact .i _ _
  ·cases hb
 ·rw[fv] at hb;split at hb
  ·rename_i hf;simp only[bu,aU] at hf;subst hf;split at hb
   ·cases hb;cases hv with
    |cons _ _ x1 xs h1 h2=>
     cases h2;rw[show([x1]:List Value).toArray=#[x1] from rfl];rw[run_callFunc_extern Tryz.func493 af af af (e:=Extern.AbiNoEscape.same) af,Lib.run_noEscape];exact⟨c,cH.refl r,h1⟩
   ·cases hb
  ·rw[fv] at hb;split at hb
   ·rename_i hf;simp only[bu,aU] at hf;subst hf;split at hb
    ·rename_i l n;rw[fv] at hb;split at hb
     ·rename_i hc;simp only[aB,dm,aU,kZ] at hc;rw[zP] at hb;cases hb;cases hv with
      |cons _ _ x1 xs h1 h2=>
       cases h2 with
       |cons _ _ x2 ys h3 h4=>
        cases h4;cases h1 with
        |s _ bs e1=>
         cases h3;rw[show([Value.string bs,Value.int .i64 (Int.ofNat n)]:List Value).toArray=#[.string bs,.int .i64 (n:Int)] from rfl];have hl:=br5 e1;have hcall:=Tryz.strings_Repeat bs n w ω (by
          have:bs.size*n<=1000*1000:=zA ω hc.1;omega)
         rw[Da Tryz.func206 af rfl];refine vN (Mw (ro:=none) (callsIn_wide.2 hcall)) λe w' ⟨he,hw⟩=> ?_;subst he;refine⟨c,⟨gE.refl c,r.push λb hb=>hw.block b hb,?_⟩,.s _ _ ?_⟩
         ·exact⟨hw.size,λb hb _=>hw.block b hb,λo ob ho=> .inr ⟨o,ob,ho,rfl⟩,λ_ h=> .inl h,bB _,λ_ _ h=> .inl h,λ_ _ h=>h,⟨hw.os,hw.output⟩⟩
         ·show(Lib.repeatL bs.data.toList n).toArray.toList.map UInt8.toNat=_;rw[List.toList_toArray,UV,e1]
     ·cases hb
    ·cases hb
   ·cases hb
end
end AM
