import Derived.Handed
import Derived.LaidByTextLater
import Derived.SevenTiedAt
import Derived.Test.YtdicmpmcdjdneaaGreatDoorRows
import Derived.Test.YtdicmpmcdjdneaaGreatDoorN31
import Derived.Test.YtdicmpmcdjdneaaGreatDoorN32
set_option linter.all false
namespace AM
open Go Go.Proofs Go.Proofs.YtdicmpmcdjdneaaGreatDoor
def Py:Tryz.f3.resultTypes=#[4]:=lR
def zr:Rows.styleLeavesSpec.plain.varTypes Tryz.prog=[]:=rfl
def jp1:(Rows.styleLeavesRow.wf (OpenSpec.ofChange Rows.styleLeavesSpec))=true:=lR
def UP:Tryz.prog.readableRec 30=true:=by unfold Program.readableRec;rw[xn];kernel_rfl
def aN6:Tryz.prog.readableRec 31=true:=by unfold Program.readableRec;rw[Ep];kernel_rfl
def rr4:Tryz.prog.readableRec 4=true:=by unfold Program.readableRec;rw[QA];kernel_rfl
def jpN:namedTie Tryz.prog Rows.styleLeavesRow.named Rows.styleLeavesSpec.vars=true:=lR
def mr:([30,31]:List TypeId).any (Tryz.prog.mapsRec ·)=false:=by
 simp only[qL,uj,Program.mapsRec,xn,Ep];kernel_rfl
def ir:([30,31]:List TypeId).any (Tryz.prog.ifacesRec ·)=false:=by
 simp only[qL,uj,Program.ifacesRec,xn,Ep];kernel_rfl
def vr:([30,31,4]:List TypeId).any (Tryz.prog.veiledRec ·)=false:=by
 simp only[qL,uj,Program.veiledRec,xn,Ep,QA];kernel_rfl
def ir4:Tryz.prog.ifacesRec 4=false:=by unfold Program.ifacesRec;rw[QA];kernel_rfl
def bm3:Tryz.prog.partsOf 26=[5,5,22,23,24]:=lR
def bm4:Tryz.prog.partsOf 28=[26,5,22,22]:=lR
def bm5:Tryz.prog.partsOf 30=[28,22,5]:=lR
def bm6:Tryz.prog.partsOf 22=[5]:=lR
def bm7:Tryz.prog.partsOf 23=[223]:=lR
def bm8:Tryz.prog.partsOf 24=[226]:=lR
def bC5:Tryz.prog.partsOf 223=[5,22,5,5]:=lR
def bC6:Tryz.prog.partsOf 226=[5,5,5,5,5]:=lR
def pt5:Tryz.prog.partsOf 5=[]:=lR
def bC7:Tryz.prog.partsOf 31=[]:=lR
def pt4:Tryz.prog.partsOf 4=[]:=lR
def bn1:([30,31]:List TypeId).any (Tryz.prog.loopsFrom ·)=false:=by
 simp only[qL,uj,Program.loopsFrom,xn,Ep,bm5,bm4,bm3,bm6,bm7,bm8,bC5,bC6,pt5,bC7,bk5,bl0,bk9,bk1,bC3,bC4,cj5,bk8];decide
def lp4:Tryz.prog.loopsFrom 4=false:=by
 simp only[Program.loopsFrom,QA,pt4,qL,uj];rfl
def jpm:Tryz.prog.mapsAmong [4]=false:=lR
def jpl:Tryz.prog.liftsFinal=Rows.styleLeavesRow.lifted:=lR
def jpk:Tryz.prog.make=some Rows.styleLeavesRow.make:=lR
def wk:([30,31,4]:List TypeId).any (Tryz.prog.wideKeysFrom ·)=false:=by
 simp only[qL,uj,Program.wideKeysFrom,xn,Ep,QA];kernel_rfl
def irr:([4]:List TypeId).any (Tryz.prog.ifacesRec ·)=false:=by simp only[qL,uj,ir4];rfl
def lpr:([4]:List TypeId).any (Tryz.prog.loopsFrom ·)=false:=by simp only[qL,uj,lp4];rfl
def bC8:Tryz.prog.book 718=[718,5]:=rH 1 839 lR lR lR
def bC9:Tryz.prog.book 776=[776,5]:=rH 1 839 lR lR lR
def bD0:Tryz.prog.book 779=[779,778,5]:=rH 2 838 lR lR lR
def bD1:Tryz.prog.book 787=[787,43]:=rH 1 839 lR lR lR
def bD2:Tryz.prog.book 822=[822,5]:=rH 1 839 lR lR lR
def vrl:([30,31,4,718,776,779,787,822]:List TypeId).all (λt=> !Tryz.prog.veiledRec t)=true:=by
 simp only[xE,FU,Program.veiledRec,xn,Ep,QA,bC8,bC9,bD0,bD1,bD2];kernel_rfl
def vo (t:TypeId) (h:Tryz.prog.veiledRec t=false):Tryz.prog.veiledOwn t=true:=by unfold Program.veiledOwn;rw[h];rfl
def bn7:(Rows.styleLeavesRow.laid.filterMap λx=>(Tryz.prog.globalNamed x.1).bind λg=>(Tryz.prog.globals[g]?).map (·.type))=[718,776,779,787,822]:=lR
def vf:Rows.styleLeavesRow.veiledFits Tryz.prog [30,31] [30,31,4]=true:=by
 unfold OpenClaim.veiledFits;rw[bn7];have h:([30,31,4]++[718,776,779,787,822]:List TypeId).all (Tryz.prog.veiledOwn ·)=true:=by
  rw[fX];intro t j;refine vo t ?_;have:=fX.1 vrl t j;simpa using this
 rw[h];rfl
def bn8:joinedFacts Tryz.prog 3 Tryz.f3 Rows.styleLeavesSpec Rows.styleLeavesRow=true:=by
 simp only[joinedFacts,aB];exact⟨⟨⟨⟨⟨⟨⟨⟨⟨⟨⟨⟨⟨⟨⟨⟨⟨⟨⟨⟨⟨⟨⟨⟨⟨⟨⟨⟨⟨⟨⟨jp1,UO⟩,fa2⟩,by rw[Tryz.params3,←Array.all_toList];simp only[xE,FU,UP,aN6];rfl⟩,jpN⟩,by rfl⟩,by rw[fa3];rfl⟩,by rfl⟩,by rw[fa4];rfl⟩,by rw[bl8];kernel_rfl⟩,by rw[UN];rfl⟩,by rw[bl9];rfl⟩,by rw[bm0];kernel_rfl⟩,by rw[Tryz.params3,zr,lG];exact(congrArg (λb=>Rows.styleLeavesRow.maps==b) mr).trans rfl⟩,by rw[Tryz.params3,zr,lG];exact(congrArg (λb=>Rows.styleLeavesRow.ifaces==b) ir).trans rfl⟩,by rw[Py];exact(congrArg (λb=>Rows.styleLeavesRow.mapsOut==b) jpm).trans rfl⟩,by rw[Tryz.params3,zr,lG];exact(congrArg (λb=>Rows.styleLeavesRow.loops==b) bn1).trans rfl⟩,by rw[Tryz.params3,zr,lG,Py];exact(congrArg (λb=>Rows.styleLeavesRow.wideKeys==b) wk).trans rfl⟩,by rfl⟩,by rw[Py,←Array.all_toList];simp only[xE,FU,rr4,Tryz.types_size];rfl⟩,by rw[Py];exact(congrArg (λb=>Rows.styleLeavesRow.ifacesOut==b) irr).trans rfl⟩,by rw[Py];exact(congrArg (λb=>Rows.styleLeavesRow.loopsOut==b) lpr).trans rfl⟩,by rw[fa7];rfl⟩,by rfl⟩,fa5⟩,fa6⟩,by rw[jpl];exact beq_self_eq_true _⟩,by rw[jpk];exact beq_self_eq_true _⟩,by rfl⟩,lR⟩,by rw[Tryz.params3,zr,lG,Py];exact(congrArg (λb=>Rows.styleLeavesRow.veiled==b) vr).trans rfl⟩,by rw[Tryz.params3,zr,lG,Py];exact vf⟩
def cf1:Rows.styleLeavesRow.wfByText (OpenSpec.ofChange Rows.styleLeavesSpec)=true:=lR
def cf3:Tryz.prog.looks []=true:=lR
def cf4:([30,31]:List TypeId).all (λu=> !Tryz.prog.wantsStandIn u)=true:=lR
def KO:Tryz.prog.funcNamed "koine/koinelaw27.StyleLeaves" =some 3:=lR
def cf9:ownKnob Tryz.prog.godebug=none:=lR
def bn9:Tryz.prog.inits.idxOf? 3=none:=lR
def bo0:Tryz.f3.isInstance Tryz.prog Rows.styleLeavesRow.origin Rows.styleLeavesRow.targs:=qM lR
def bo1:Tryz.f3.isWrapper Tryz.prog Rows.styleLeavesRow.wrapper Rows.styleLeavesRow.mainSum:=by unfold Func.isWrapper;rw[aD (by decide+kernel)];exact⟨rfl,rfl⟩
def bo2 (P:Program):P.funcsFit Rows.styleLeavesRow.laid=true:=lR
def bo3:(i7 0).any Func.goes=false:=lR
def bo4:(i7 1).any Func.goes=false:=lR
def bo5:(i7 2).any Func.goes=false:=lR
def bo6:(i7 3).any Func.goes=false:=lR
def bo7:(i7 4).any Func.goes=false:=lR
def bo8:(i7 5).any Func.goes=false:=lR
def bo9:(i7 6).any Func.goes=false:=lR
def cf2:Tryz.prog.mainIs=some (true, "883985334d3ce920f90968e2cb724b252be0e844bee74c9fc03986cffec30b5e".toList):=lR
def bp0 {α:Type} (f:α ->Bool) (n:Nat) (l:List α):l.any f=((l.take n).any f||(l.drop n).any f):=by rw[←List.any_append,vJ]
def bp1:(Tryz.prog.funcs.toList.drop 700).any Func.goes=false:=by rw[←yr];kernel_rfl
def cfg:Tryz.prog.funcs.any Func.goes=false:=by
 rw[←Array.any_toList];have d:∀k,Tryz.prog.funcs.toList.drop (100*k+100)=(Tryz.prog.funcs.toList.drop (100*k)).drop 100:=λk=>by rw[ud]
 have c:∀k,(i7 k).any Func.goes=false ->(Tryz.prog.funcs.toList.drop (100*k+100)).any Func.goes=false ->(Tryz.prog.funcs.toList.drop (100*k)).any Func.goes=false:=λk h1 h2=>by
  rw[bp0 _ 100 (Tryz.prog.funcs.toList.drop (100*k)),←UK,←d k,h1,h2];rfl
 exact c 0 bo3 (c 1 bo4 (c 2 bo5 (c 3 bo6 (c 4 bo7 (c 5 bo8 (c 6 bo9 bp1))))))
def bp2:Tryz.prog.goes 3=false:=by
 unfold Program.goes;rw[cfg,pP,Bool.or_false,P6];intro g _ h;rcases e:Tryz.prog.funcs[g]? with _|F;rw[e] at h;cases h;rw[e] at h;have h':F.goes=true:=h;have:=Array.any_eq_false.1 cfg;obtain⟨A,e⟩:=jX.1 e;have j:=this g A;rw[e] at j;exact j h'
def cff:Rows.styleLeavesRow.func= "koine/koinelaw27.StyleLeaves" :=rfl
def cfs:Rows.styleLeavesRow.start= .entering:=rfl
def cf5:false=Rows.styleLeavesRow.goesBy Tryz.prog:=by
 unfold OpenClaim.goesBy Program.goesAt Program.goesFrom;rw[cff,cfs,KO,Option.any_some,bp2];rfl
end AM
