import Derived.Handed
import Derived.LaidByTextLater
import Derived.SevenTiedAt
import Derived.Test.YtihgjngjidijaaaGreatDoorRows
import Derived.Test.YtihgjngjidijaaaGreatDoorN31
import Derived.Test.YtihgjngjidijaaaGreatDoorN32
set_option linter.all false
namespace AM
open Go Go.Proofs Go.Proofs.YtihgjngjidijaaaGreatDoor
def vz:Tryz.f3.resultTypes=#[4]:=af
def zr:Rows.styleErrorsSpec.plain.varTypes Tryz.prog=[]:=rfl
def jp1:(Rows.styleErrorsRow.wf (OpenSpec.ofChange Rows.styleErrorsSpec))=true:=af
def UP:Tryz.prog.readableRec 30=true:=by unfold Program.readableRec;rw[xn];kernel_rfl
def UQ:Tryz.prog.readableRec 3=true:=by unfold Program.readableRec;rw[xk];kernel_rfl
def rr4:Tryz.prog.readableRec 4=true:=by unfold Program.readableRec;rw[zn];kernel_rfl
def jpN:namedTie Tryz.prog Rows.styleErrorsRow.named Rows.styleErrorsSpec.vars=true:=af
def mr:([30,3]:List TypeId).any (Tryz.prog.mapsRec ·)=false:=by
 simp only[qL,uj,Program.mapsRec,xn,xk];kernel_rfl
def ir:([30,3]:List TypeId).any (Tryz.prog.ifacesRec ·)=false:=by
 simp only[qL,uj,Program.ifacesRec,xn,xk];kernel_rfl
def vr:([30,3,4]:List TypeId).any (Tryz.prog.veiledRec ·)=false:=by
 simp only[qL,uj,Program.veiledRec,xn,xk,zn];kernel_rfl
def ir4:Tryz.prog.ifacesRec 4=false:=by unfold Program.ifacesRec;rw[zn];kernel_rfl
def bm3:Tryz.prog.partsOf 26=[5,5,22,23,24]:=af
def bm4:Tryz.prog.partsOf 28=[26,5,22,22]:=af
def bm5:Tryz.prog.partsOf 30=[28,22,5]:=af
def bm6:Tryz.prog.partsOf 22=[5]:=af
def bm7:Tryz.prog.partsOf 23=[189]:=af
def bm8:Tryz.prog.partsOf 24=[192]:=af
def bm9:Tryz.prog.partsOf 189=[5,22,5,5]:=af
def bn0:Tryz.prog.partsOf 192=[5,5,5,5,5]:=af
def pt5:Tryz.prog.partsOf 5=[]:=af
def pt3:Tryz.prog.partsOf 3=[]:=af
def pt4:Tryz.prog.partsOf 4=[]:=af
def bn1:([30,3]:List TypeId).any (Tryz.prog.loopsFrom ·)=false:=by
 simp only[qL,uj,Program.loopsFrom,xn,xk,bm5,bm4,bm3,bm6,bm7,bm8,bm9,bn0,pt5,pt3,bk5,bl0,bk9,bk1,bk2,bk6,bk7,bk8];decide
def lp4:Tryz.prog.loopsFrom 4=false:=by
 simp only[Program.loopsFrom,zn,pt4,qL,uj];rfl
def jpm:Tryz.prog.mapsAmong [4]=false:=af
def jpl:Tryz.prog.liftsFinal=Rows.styleErrorsRow.lifted:=af
def jpk:Tryz.prog.make=some Rows.styleErrorsRow.make:=af
def wk:([30,3,4]:List TypeId).any (Tryz.prog.wideKeysFrom ·)=false:=by
 simp only[qL,uj,Program.wideKeysFrom,xn,xk,zn];kernel_rfl
def irr:([4]:List TypeId).any (Tryz.prog.ifacesRec ·)=false:=by simp only[qL,uj,ir4];rfl
def lpr:([4]:List TypeId).any (Tryz.prog.loopsFrom ·)=false:=by simp only[qL,uj,lp4];rfl
def bn2:Tryz.prog.book 713=[713,5]:=nf 1 834 af af af
def bn3:Tryz.prog.book 771=[771,5]:=nf 1 834 af af af
def bn4:Tryz.prog.book 774=[774,773,5]:=nf 2 833 af af af
def bn5:Tryz.prog.book 782=[782,42]:=nf 1 834 af af af
def bn6:Tryz.prog.book 817=[817,5]:=nf 1 834 af af af
def vrl:([30,3,4,713,771,774,782,817]:List TypeId).all (λt=> !Tryz.prog.veiledRec t)=true:=by
 simp only[xE,FU,Program.veiledRec,xn,xk,zn,bn2,bn3,bn4,bn5,bn6];kernel_rfl
def vo (t:TypeId) (h:Tryz.prog.veiledRec t=false):Tryz.prog.veiledOwn t=true:=by unfold Program.veiledOwn;rw[h];rfl
def bn7:(Rows.styleErrorsRow.laid.filterMap λx=>(Tryz.prog.globalNamed x.1).bind λg=>(Tryz.prog.globals[g]?).map (·.type))=[713,771,774,782,817]:=af
def vf:Rows.styleErrorsRow.veiledFits Tryz.prog [30,3] [30,3,4]=true:=by
 unfold OpenClaim.veiledFits;rw[bn7];have h:([30,3,4]++[713,771,774,782,817]:List TypeId).all (Tryz.prog.veiledOwn ·)=true:=by
  rw[fX];intro t ht;refine vo t ?_;have:=fX.1 vrl t ht;simpa using this
 rw[h];rfl
def bn8:joinedFacts Tryz.prog 3 Tryz.f3 Rows.styleErrorsSpec Rows.styleErrorsRow=true:=by
 simp only[joinedFacts,aB];exact⟨⟨⟨⟨⟨⟨⟨⟨⟨⟨⟨⟨⟨⟨⟨⟨⟨⟨⟨⟨⟨⟨⟨⟨⟨⟨⟨⟨⟨⟨⟨jp1,UO⟩,fa2⟩,by rw[Tryz.params3,←Array.all_toList];simp only[xE,FU,UP,UQ];rfl⟩,jpN⟩,by rfl⟩,by rw[fa3];rfl⟩,by rfl⟩,by rw[fa4];rfl⟩,by rw[bl8];kernel_rfl⟩,by rw[UN];rfl⟩,by rw[bl9];rfl⟩,by rw[bm0];kernel_rfl⟩,by rw[Tryz.params3,zr,lG];exact(congrArg (λb=>Rows.styleErrorsRow.maps==b) mr).trans rfl⟩,by rw[Tryz.params3,zr,lG];exact(congrArg (λb=>Rows.styleErrorsRow.ifaces==b) ir).trans rfl⟩,by rw[vz];exact(congrArg (λb=>Rows.styleErrorsRow.mapsOut==b) jpm).trans rfl⟩,by rw[Tryz.params3,zr,lG];exact(congrArg (λb=>Rows.styleErrorsRow.loops==b) bn1).trans rfl⟩,by rw[Tryz.params3,zr,lG,vz];exact(congrArg (λb=>Rows.styleErrorsRow.wideKeys==b) wk).trans rfl⟩,by rfl⟩,by rw[vz,←Array.all_toList];simp only[xE,FU,rr4,Tryz.types_size];rfl⟩,by rw[vz];exact(congrArg (λb=>Rows.styleErrorsRow.ifacesOut==b) irr).trans rfl⟩,by rw[vz];exact(congrArg (λb=>Rows.styleErrorsRow.loopsOut==b) lpr).trans rfl⟩,by rw[fa7];rfl⟩,by rfl⟩,fa5⟩,fa6⟩,by rw[jpl];exact beq_self_eq_true _⟩,by rw[jpk];exact beq_self_eq_true _⟩,by rfl⟩,af⟩,by rw[Tryz.params3,zr,lG,vz];exact(congrArg (λb=>Rows.styleErrorsRow.veiled==b) vr).trans rfl⟩,by rw[Tryz.params3,zr,lG,vz];exact vf⟩
def cf1:Rows.styleErrorsRow.wfByText (OpenSpec.ofChange Rows.styleErrorsSpec)=true:=af
def cf3:Tryz.prog.looks []=true:=af
def cf4:([30,3]:List TypeId).all (λu=> !Tryz.prog.wantsStandIn u)=true:=af
def KO:Tryz.prog.funcNamed "koine/koinelaw27.StyleErrors" =some 3:=af
def cf9:ownKnob Tryz.prog.godebug=none:=af
def bn9:Tryz.prog.inits.idxOf? 3=none:=af
def bo0:Tryz.f3.isInstance Tryz.prog Rows.styleErrorsRow.origin Rows.styleErrorsRow.targs:=qM af
def bo1:Tryz.f3.isWrapper Tryz.prog Rows.styleErrorsRow.wrapper Rows.styleErrorsRow.mainSum:=by unfold Func.isWrapper;rw[aD (by decide+kernel)];exact⟨rfl,rfl⟩
def bo2 (P:Program):P.funcsFit Rows.styleErrorsRow.laid=true:=af
def bo3:(i7 0).any Func.goes=false:=af
def bo4:(i7 1).any Func.goes=false:=af
def bo5:(i7 2).any Func.goes=false:=af
def bo6:(i7 3).any Func.goes=false:=af
def bo7:(i7 4).any Func.goes=false:=af
def bo8:(i7 5).any Func.goes=false:=af
def bo9:(i7 6).any Func.goes=false:=af
def cf2:Tryz.prog.mainIs=some (true, "3423c1be53ddda6dccc77cf420bf2599c658d19a9ed169bd98d20a534d85f529".toList):=af
def bp0 {α:Type} (f:α ->Bool) (n:Nat) (l:List α):l.any f=((l.take n).any f||(l.drop n).any f):=by rw[←List.any_append,vJ]
def bp1:(Tryz.prog.funcs.toList.drop 700).any Func.goes=false:=by rw[←yr];kernel_rfl
def cfg:Tryz.prog.funcs.any Func.goes=false:=by
 rw[←Array.any_toList];have d:∀k,Tryz.prog.funcs.toList.drop (100*k+100)=(Tryz.prog.funcs.toList.drop (100*k)).drop 100:=λk=>by rw[ud]
 have c:∀k,(i7 k).any Func.goes=false ->(Tryz.prog.funcs.toList.drop (100*k+100)).any Func.goes=false ->(Tryz.prog.funcs.toList.drop (100*k)).any Func.goes=false:=λk h1 h2=>by
  rw[bp0 _ 100 (Tryz.prog.funcs.toList.drop (100*k)),←UK,←d k,h1,h2];rfl
 exact c 0 bo3 (c 1 bo4 (c 2 bo5 (c 3 bo6 (c 4 bo7 (c 5 bo8 (c 6 bo9 bp1))))))
def bp2:Tryz.prog.goes 3=false:=by
 unfold Program.goes;rw[cfg,pP,Bool.or_false,FC];intro g _ h;cases e:Tryz.prog.funcs[g]? with
 |none=>rw[e] at h;cases h
 |some F=>
  rw[e] at h;have h':F.goes=true:=h;have:=Array.any_eq_false.1 cfg;obtain⟨hg,e⟩:=jX.1 e;have hx:=this g hg;rw[e] at hx;exact hx h'
def cff:Rows.styleErrorsRow.func= "koine/koinelaw27.StyleErrors" :=rfl
def cfs:Rows.styleErrorsRow.start= .entering:=rfl
def cf5:false=Rows.styleErrorsRow.goesBy Tryz.prog:=by
 unfold OpenClaim.goesBy Program.goesAt Program.goesFrom;rw[cff,cfs,KO,Option.any_some,bp2];rfl
end AM
