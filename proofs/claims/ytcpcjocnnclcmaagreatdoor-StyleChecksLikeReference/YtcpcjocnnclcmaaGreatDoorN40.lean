import Derived.Lib.Bytealg
import Derived.Shelf.LaysM
import Derived.Shelf.Strings.Builder1
import Derived.Shelf.Strings.Repeat
import Derived.Test.YtcpcjocnnclcmaaGreatDoorN37
import Derived.Test.YtcpcjocnnclcmaaGreatDoorN39
set_option linter.all false
namespace AM
open Go
noncomputable section
section
def Js {P:Program} {I:Nat ->Option TypeInfo} (hI:∀t i,I t=some i ->P.info? t=some i) {t:Nat} {d:TypeDesc} (h:Kg I t=some d):P.underlying t=some d:=by
 unfold Kg at h;cases ht:I t with
 |none=>rw[ht] at h;cases h
 |some i=>
  rw[ht] at h;have hp:=hI t i ht;unfold Program.underlying;rw[hp];obtain⟨desc,_,_,_,_,_,_,_,_,_⟩:=i;dsimp only at h ⊢;cases desc with
  |named n u=>
   dsimp only at h ⊢;cases hu:I u with
   |none=>rw[hu] at h;cases h
   |some j=>rw[hu] at h;rw[hI u j hu];exact h
  |_=>exact h
def QG {P:Program}:pE P (TS P):=by
 intro t i h;have h:=tL h;have hI:∀t i,sg P.types.toList t=some i ->P.info? t=some i:=fun t i h=>by
  have:=xV h;rw[wY] at this;have hl:t<P.types.size:=(jo.1 this).1;show(if t<P.types.size then P.types[t]? else _)=_;rw[if_pos hl];exact this
 unfold Zz at h;cases hd:Kg (sg P.types.toList) t with
 |none=>rw[hd] at h;cases h
 |some d=>
  have hu:=Js hI hd;cases hi:sg P.types.toList t with
  |none=>rw[hd,hi] at h;cases h
  |some inf=>
   have hp:=hI t inf hi;rw[hd,hi] at h;dsimp only at h;cases hz:inf.zero with
   |none=>rw[hz] at h;cases h
   |some z=>
    rw[hz] at h;dsimp only at h;cases hr:d.isRow with
    |true=>
     rw[hr,cond_true] at h;cases z<;>dsimp only at h<;>first|(cases h;done)|skip
     rename_i vs;rw[dD] at h;split at h
     ·rename_i hk;cases h;exact⟨hu,⟨inf,_,hp,rfl,rfl,hz,.inl ⟨hr,vs,rfl,hk⟩⟩,rfl⟩
     ·cases h
    |false=>
     rw[hr,cond_false] at h;rw[dD] at h;split at h
     ·rename_i hk;rw[av] at hk;cases h;exact⟨hu,⟨inf,_,hp,rfl,rfl,hz,.inr ⟨hr,_,rfl,hk.1,hk.2⟩⟩,rfl⟩
     ·cases h
open Go.Proofs in
def La {n:Nat} {F:Func} (h:sg Tryz.prog.funcs.toList n=some F):Tryz.prog.funcs[n]? =some F:=by
 have:=xV h
 rwa [wY] at this
def A4:∀(l:List Func) (n:Nat),XC l n=true ->∀i F,l[i]? =some F ->ux (n+i)=true∨XB (n+i) F=true
 |[],n,_,i,F,h=>by cases h
 |G::l,n,hk,i,F,h=>by
  have h':((ux n||XB n G)&&XC l (Nat.succ n))=true:=hk;rw[av,g9] at h';cases i with
  |zero=>cases h;exact h'.1
  |succ i=>
   have:=A4 l (Nat.succ n) h'.2 i F (by simpa using h)
   rwa [show n+(i+1)=Nat.succ n+i by omega]
def Lb {k n:Nat} {F:Func} (h:CK k=true) (h1:100*k<=n) (h2:n<100*k+100) (hF:Go.Proofs.Tryz.prog.funcs[n]? =some F):ux n=true∨XB n F=true:=by
 have:=A4 _ _ h (n-100*k) F (by
  unfold fch;rw[uN,iL,if_pos ω,lj,show Nat.mul 100 k+(n-100*k)=n by show 100*k+_=_;omega,wY];exact hF)
 rwa [show Nat.mul 100 k+(n-100*k)=n by show 100*k+_=_;omega] at this
def ag3 {n:Nat} {F:Func} (hF:Go.Proofs.Tryz.prog.funcs[n]? =some F) (hs:ux n=false):XB n F=true:=by
 have key:∀k,CK k=true ->100*k<=n ->n<100*k+100 ->XB n F=true:=fun k h h1 h2=>by
  rcases Lb h h1 h2 hF with h3|h3
  ·rw[hs] at h3;cases h3
  ·exact h3
 have hn:n<666:=by
  refine Classical.byContradiction fun hn=> ?_
  have:ux n=true:=by
   unfold ux;simp only[aQ,az];simp;omega
  rw[hs] at this;cases this
 rcases uA n 100 with h|h
 ·exact key 0 af6 ω ω
 rcases uA n 200 with h|h
 ·exact key 1 af7 ω ω
 rcases uA n 300 with h|h
 ·exact key 2 af8 ω ω
 rcases uA n 400 with h|h
 ·exact key 3 ag0 ω ω
 rcases uA n 500 with h|h
 ·exact key 4 ag1 ω ω
 rcases uA n 600 with h|h
 ·exact key 5 ag2 ω ω
 ·exact key 6 af9 ω ω
def XD:∀f m,bX.get f=some m ->V8 Go.Proofs.Tryz.prog pX f m:=by
 intro f m h;have h:=tL h;cases hs:ux f with
 |true=>rw[hs] at h;cases h
 |false=>
  rw[hs,cond_false] at h;cases hF:sg Go.Proofs.Tryz.prog.funcs.toList f with
  |none=>rw[hF] at h;cases h
  |some F=>
   rw[hF] at h;cases h;have hg:=La hF;have hk:=ag3 hg hs;unfold XB at hk;cases hb:F.body with
   |none=>rw[hb] at hk;simp at hk
   |some c=>
    rw[hb] at hk;simp only[av,iS,aQ,decide_eq_true_eq] at hk;exact⟨F,c,hg,hk.1,hb,hk.2.1,hk.2.2.1,hk.2.2.2⟩
end
end
end AM
namespace AM
open Go Go.Proofs
noncomputable section
def QI (P:Program) (name:String) (t f:Nat):Bool:=match sg P.types.toList t with
 |some inf=>(match inf.methods.find? (·.name==name) with
  |some m=>m.path.isEmpty&&(match m.func with
   |some (g,pr)=>Nat.beq g f&&(match Kg (sg P.types.toList) t with|some (.pointer _)=>pr|some _=> !pr|none=>false)
   |none=>false)
  |none=>false)
 |none=>false
def Jt {P:Program} {t:Nat} {i:TypeInfo} (h:sg P.types.toList t=some i):P.info? t=some i:=by
 have:=xV h;rw[wY] at this;have hl:t<P.types.size:=(jo.1 this).1;show(if t<P.types.size then P.types[t]? else _)=_;rw[if_pos hl];exact this
def QJ {P:Program} {name:String} {t f:Nat} (h:QI P name t f=true):LQ P name t f:=by
 unfold QI at h;cases hi:sg P.types.toList t with
 |none=>rw[hi] at h;cases h
 |some inf=>
  rw[hi] at h;dsimp only at h;cases hm:inf.methods.find? (·.name==name) with
  |none=>rw[hm] at h;cases h
  |some m=>
   rw[hm] at h;dsimp only at h;cases hf:m.func with
   |none=>rw[hf] at h;simp at h
   |some q=>
    obtain⟨g,pr⟩:=q;rw[hf] at h;simp only[av,az,decide_eq_true_eq] at h;obtain⟨h1,rfl,h3⟩:=h;cases hd:Kg (sg P.types.toList) t with
    |none=>rw[hd] at h3;cases h3
    |some d=>
     rw[hd] at h3;refine⟨inf,m,pr,d,Jt hi,hm,by simpa using h1,hf,Js (fun t i h=>Jt h) hd,?_⟩;cases d with
     |pointer e=>exact .inl ⟨e,rfl,by simpa using h3⟩
     |_=>exact .inr ⟨fun e q=>(by cases q),by simpa using h3⟩
def Te:∀e∈pmt,Bx Tryz.prog e.1 e.2:=by
 have key:∀l:List (Nat×Nat),(l.all fun q=>QI Tryz.prog "koine/document.write" q.1 q.2)=true ->Bx Tryz.prog "koine/document.write" l:=by
  intro l;induction l with
  |nil=>intro _ t f h;cases h
  |cons q l ih=>
   intro h t f hl;simp only[zA,av] at h;have hl':(bif Nat.beq q.1 t then some q.2 else zD t l)=some f:=hl;rw[dD] at hl';split at hl'
   ·rename_i e;simp only[az,decide_eq_true_eq] at e;cases hl';subst e;exact QJ h.1
   ·exact ih h.2 t f hl'
 intro e he;rcases dY.1 he with rfl;exact key _ (by kernel_rfl)
def ag4:∀t∈pX.sq,Tryz.prog.eqGuardType Tryz.prog.depth t=false:=by
 have h:(pX.sq.all fun t=> !(Tryz.prog.eqGuardType Tryz.prog.depth t))=true:=by kernel_rfl
 intro t ht;have:=fK.1 h t ht;simpa using this
def ag5:∀e∈pX.vw,∀q∈e.2,liesAt Tryz.prog Tryz.prog.depth q.1 (q.2.1/Tryz.prog.cellsOf q.1) q.2.2 e.1 1=true:=by
 have h:(pX.vw.all fun e=>e.2.all fun q=>liesAt Tryz.prog Tryz.prog.depth q.1 (q.2.1/Tryz.prog.cellsOf q.1) q.2.2 e.1 1)=true:=by kernel_rfl
 intro e he q hq;exact fK.1 (fK.1 h e he) q hq
def aB3:jt Tryz.prog pX:=⟨QG,Te,ag4,ag5⟩
def XE {GL:T (List AV)} (hgl:∀g l,GL.get g=some l ->oJ.flatL 0 l=true):aw Tryz.prog pX GL bX where
 mixed:=by kernel_rfl
 ctx:=aB3
 fns:=XD
 bn:=fun f hf=>by
  rcases dY.1 hf with rfl;exact QH
 gl:=hgl
end
end AM
namespace Go.Proofs
open Go.Shelf
section
def Tryz.lays105_ren:Go.Shelf.Ren:=⟨fun|105=>224|212=>336|99=>228|165=>337|166=>338|170=>339|169=>142|263=>439|264=>440|206=>341|240=>441|241=>442|276=>505|277=>506|n=>n,fun|9=>9|3=>3|4=>4|20=>20|0=>0|46=>189|109=>528|5=>5|72=>274|76=>532|51=>519|146=>656|53=>51|148=>659|70=>272|37=>22|75=>531|127=>402|164=>711|80=>283|n=>n,fun|n=>n⟩
def Tryz.lays105:Go.Proofs.Lays.n105 Tryz.prog Tryz.lays105_ren:={
 mixed:=by kernel_rfl
 f99:=Tryz.func228.trans (congrArg some (by kernel_rfl))
 f105:=Tryz.func224.trans (congrArg some (by kernel_rfl))
 f165:=Tryz.func337.trans (congrArg some (by kernel_rfl))
 f166:=Tryz.func338.trans (congrArg some (by kernel_rfl))
 f169:=Tryz.func142.trans (congrArg some (by kernel_rfl))
 f170:=Tryz.func339.trans (congrArg some (by kernel_rfl))
 f206:=Tryz.func341.trans (congrArg some (by kernel_rfl))
 f212:=Tryz.func336.trans (congrArg some (by kernel_rfl))
 f240:=Tryz.func441.trans (congrArg some (by kernel_rfl))
 f241:=Tryz.func442.trans (congrArg some (by kernel_rfl))
 f263:=Tryz.func439.trans (congrArg some (by kernel_rfl))
 f264:=Tryz.func440.trans (congrArg some (by kernel_rfl))
 f276:=Tryz.func505.trans (congrArg some (by kernel_rfl))
 f277:=Tryz.func506.trans (congrArg some (by kernel_rfl))
 t0:=Tryz.underlying0
 a0:=Tryz.isAgg0
 z0:=Tryz.sizeOf0
 v0:=Tryz.zeroValue0
 t3:=Tryz.underlying3
 a3:=Tryz.isAgg3
 z3:=Tryz.sizeOf3
 v3:=Tryz.zeroValue3
 t4:=Tryz.underlying4
 a4:=Tryz.isAgg4
 z4:=Tryz.sizeOf4
 v4:=Tryz.zeroValue4
 t5:=Tryz.underlying5
 a5:=Tryz.isAgg5
 z5:=Tryz.sizeOf5
 v5:=Tryz.zeroValue5
 t9:=Tryz.underlying9
 a9:=Tryz.isAgg9
 z9:=Tryz.sizeOf9
 v9:=Tryz.zeroValue9
 t20:=Tryz.underlying20
 a20:=Tryz.isAgg20
 z20:=Tryz.sizeOf20
 v20:=Tryz.zeroValue20
 t37:=Tryz.underlying22
 a37:=Tryz.isAgg22
 z37:=Tryz.sizeOf22
 v37:=Tryz.zeroValue22
 t46:=Tryz.underlying189
 a46:=Tryz.isAgg189
 z46:=Tryz.sizeOf189
 v46:=Tryz.zeroValue189
 t51:=Tryz.underlying519
 a51:=Tryz.isAgg519
 z51:=Tryz.sizeOf519
 v51:=Tryz.zeroValue519
 t53:=Tryz.underlying51
 a53:=Tryz.isAgg51
 z53:=Tryz.sizeOf51
 v53:=Tryz.zeroValue51
 t70:=Tryz.underlying272
 a70:=Tryz.isAgg272
 z70:=Tryz.sizeOf272
 v70:=Tryz.zeroValue272
 t72:=Tryz.underlying274
 a72:=Tryz.isAgg274
 z72:=Tryz.sizeOf274
 v72:=Tryz.zeroValue274
 t75:=Tryz.underlying531
 a75:=Tryz.isAgg531
 z75:=Tryz.sizeOf531
 v75:=Tryz.zeroValue531
 t76:=Tryz.underlying532
 a76:=Tryz.isAgg532
 z76:=Tryz.sizeOf532
 v76:=Tryz.zeroValue532
 t109:=Tryz.underlying528
 a109:=Tryz.isAgg528
 z109:=Tryz.sizeOf528
 v109:=Tryz.zeroValue528
 t127:=Tryz.underlying402
 a127:=Tryz.isAgg402
 z127:=Tryz.sizeOf402
 v127:=Tryz.zeroValue402
 t146:=Tryz.underlying656
 a146:=Tryz.isAgg656
 z146:=Tryz.sizeOf656
 v146:=Tryz.zeroValue656
 t148:=Tryz.underlying659
 a148:=Tryz.isAgg659
 z148:=Tryz.sizeOf659
 v148:=Tryz.zeroValue659
 t164:=Tryz.underlying711
 a164:=Tryz.isAgg711
 z164:=Tryz.sizeOf711
 v164:=Tryz.zeroValue711 }
def Tryz.Builder_Extra_105:Builder.Extra Tryz.prog Tryz.lays105_ren:={
 sizeBuilder:=by kernel_rfl
 liesBuilder:=by kernel_rfl
 t5:=Tryz.underlying5
 a5:=Tryz.isAgg5
 z5:=Tryz.sizeOf5
 v5:=Tryz.zeroValue5
 infoByte:=by kernel_rfl
 cellsByte:=by kernel_rfl
 sizeByte:=by kernel_rfl
 neB5:=by decide }
open Go.RowKit Go.Lib in
def Tryz.strings_Repeat (s:ByteArray) (c:Nat) (w:World) (hc:c<=9223372036854775807) (hlen:s.size*c<=140737488355328):
 Calls Tryz.prog 224 #[.string s,.int .i64 c] w fun e w'=>e= .returned (.string ⟨(Lib.repeatL s.data.toList c).toArray⟩)/\ Below w.heap.size w w':=Any.strings_Repeat Tryz.lays105 Tryz.Builder_Extra_105 s c w hc hlen
end
end Go.Proofs
namespace AM
open Go Go.Proofs
noncomputable section
def HO {s:ByteArray} {l:List Nat} (h:s.data.toList.map UInt8.toNat=l):l.length=s.size:=by rw[←h,j9];rfl
def Ju (c:UInt8):∀(l:List UInt8) (n:Nat),QF c.toNat (l.map UInt8.toNat) n=if Lib.indexByte l c= -1 then -1 else Lib.indexByte l c+n
 |[],n=>rfl
 |a::l,n=>by
  have e:QF c.toNat ((a::l).map UInt8.toNat) n=bif Nat.beq a.toNat c.toNat then Int.ofNat n else QF c.toNat (l.map UInt8.toNat) (Nat.succ n):=rfl;have hq:Nat.beq a.toNat c.toNat=(a==c):=by
   rw[az];by_cases h:a=c
   ·subst h;simp
   ·have:a.toNat≠c.toNat:=fun q=>h (UInt8.toNat_inj.1 q)
    simp[h,this]
  rw[e,hq];unfold Lib.indexByte;cases hb:(a==c) with
  |true=>simp
  |false=>
   rw[cond_false,Ju c l (Nat.succ n)];simp only[lu,if_false,beq_iff_eq];by_cases h1:Lib.indexByte l c= -1
   ·simp[h1]
   ·have h2:Lib.indexByte l c+1≠ -1∨Lib.indexByte l c+1= -1:=by omega
    rw[if_neg h1,if_neg h1];have:(-1:Int)<=Lib.indexByte l c:=by
     clear e hq hb h1 h2;induction l with
     |nil=>simp[Lib.indexByte]
     |cons b l ih=>
      unfold Lib.indexByte;split
      ·omega
      ·split<;>omega
    rw[if_neg ω];simp;omega
def QK (l:List UInt8):∀n,(Lib.repeatL l n).map UInt8.toNat=(List.replicate n (l.map UInt8.toNat)).flatten
 |0=>rfl
 |n+1=>by
  show(l++Lib.repeatL l n).map UInt8.toNat=_;rw[iT,QK l n,Jy,Jz]
set_option maxRecDepth 100000 in
def QL {GL:T (List AV)}:Jq Tryz.prog pX GL cY:=by
 intro f a h v h' hb c w vs r gl hv;unfold cY at hb;rw[dD] at hb;split at hb
 ·rename_i hf;simp only[az,decide_eq_true_eq] at hf;subst hf;split at hb
  ·rename_i l n;rw[dD] at hb;split at hb
   case isFalse=>cases hb
   rename_i hc;simp only[aQ,decide_eq_true_eq] at hc;rw[CV] at hb;cases hb;cases hv with
   |cons _ _ x1 xs h1 h2=>
    cases h2 with
    |cons _ _ x2 ys h3 h4=>
     cases h4;cases h1 with
     |s _ bs e1=>
      cases h3;rw[show([Value.string bs,Value.int .u8 (Int.ofNat n)]:List Value).toArray=#[.string bs,.int .u8 (Int.ofNat n)] from rfl];rw[run_callFunc_extern Tryz.func437 (by kernel_rfl) (by kernel_rfl) (by kernel_rfl) (e:=Extern.BytealgIndexByte.indexByte) (by kernel_rfl),Lib.run_indexByteString];refine⟨c,gC.refl r,?_⟩;have hn:((Int.ofNat n).toNat.toUInt8).toNat=n:=by
       show(Nat.toUInt8 n).toNat=n;simp;omega
      have:=Ju ((Int.ofNat n).toNat.toUInt8) bs.data.toList 0;rw[hn,e1] at this;have h0:QF n l 0=Lib.indexByte bs.data.toList ((Int.ofNat n).toNat.toUInt8):=by
       rw[this];split
       ·rename_i e;rw[e]
       ·simp
      rw[h0];exact .i _ _
  ·cases hb
 ·rw[dD] at hb;split at hb
  ·rename_i hf;simp only[az,decide_eq_true_eq] at hf;subst hf;split at hb
   ·cases hb;cases hv with
    |cons _ _ x1 xs h1 h2=>
     cases h2;rw[show([x1]:List Value).toArray=#[x1] from rfl];rw[run_callFunc_extern Tryz.func505 (by kernel_rfl) (by kernel_rfl) (by kernel_rfl) (e:=Extern.AbiNoEscape.same) (by kernel_rfl),Lib.run_noEscape];exact⟨c,gC.refl r,h1⟩
   ·cases hb
  ·rw[dD] at hb;split at hb
   ·rename_i hf;simp only[az,decide_eq_true_eq] at hf;subst hf;split at hb
    ·rename_i l n;rw[dD] at hb;split at hb
     ·rename_i hc;simp only[av,aQ,decide_eq_true_eq,gP] at hc;rw[sX] at hb;cases hb;cases hv with
      |cons _ _ x1 xs h1 h2=>
       cases h2 with
       |cons _ _ x2 ys h3 h4=>
        cases h4;cases h1 with
        |s _ bs e1=>
         cases h3;rw[show([Value.string bs,Value.int .i64 (Int.ofNat n)]:List Value).toArray=#[.string bs,.int .i64 (n:Int)] from rfl];have hl:=HO e1;have hcall:=Tryz.strings_Repeat bs n w ω (by
          have:bs.size*n<=1000*1000:=CP ω hc.1;omega)
         rw[hU Tryz.func224 (by kernel_rfl) rfl];refine CallsIn.mono (xB (ro:=none) (callsIn_wide.2 hcall)) fun e w' ⟨he,hw⟩=> ?_
         subst he;refine⟨c,⟨qj.refl c,r.push fun b hb=>hw.block b hb,?_⟩,.s _ _ ?_⟩
         ·exact⟨hw.size,fun b hb _=>hw.block b hb,fun o ob ho=> .inr ⟨o,ob,ho,rfl⟩,fun _ h=> .inl h,bK _,fun _ _ h=> .inl h,fun _ _ h=>h,⟨hw.os,hw.output⟩⟩
         ·show(Lib.repeatL bs.data.toList n).toArray.toList.map UInt8.toNat=_;rw[List.toList_toArray,QK,e1]
     ·cases hb
    ·cases hb
   ·cases hb
end
end AM
