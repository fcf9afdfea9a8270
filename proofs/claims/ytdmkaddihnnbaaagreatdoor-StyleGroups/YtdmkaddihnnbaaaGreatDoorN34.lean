import Derived.Handed
import Derived.LaidByTextLater
import Derived.SevenTiedAt
import Derived.Test.YtdmkaddihnnbaaaGreatDoorRows
import Derived.Test.YtdmkaddihnnbaaaGreatDoorN31
import Derived.Test.YtdmkaddihnnbaaaGreatDoorN32
set_option linter.all false
namespace AM
open Go Go.Proofs Go.Proofs.YtdmkaddihnnbaaaGreatDoor
def Py:Tryz.f3.resultTypes=#[4]:=lR
def zr:Rows.styleGroupsSpec.plain.varTypes Tryz.prog=[]:=rfl
def jp1:(Rows.styleGroupsRow.wf (OpenSpec.ofChange Rows.styleGroupsSpec))=true:=lR
def UP:Tryz.prog.readableRec 30=true:=by unfold Program.readableRec;rw[xn];kernel_rfl
def rr4:Tryz.prog.readableRec 4=true:=by unfold Program.readableRec;rw[QA];kernel_rfl
def jpN:namedTie Tryz.prog Rows.styleGroupsRow.named Rows.styleGroupsSpec.vars=true:=lR
def mr:([30]:List TypeId).any (Tryz.prog.mapsRec ·)=false:=by
 simp only[qL,uj,Program.mapsRec,xn,xk];kernel_rfl
def ir:([30]:List TypeId).any (Tryz.prog.ifacesRec ·)=false:=by
 simp only[qL,uj,Program.ifacesRec,xn,xk];kernel_rfl
def vr:([30,4]:List TypeId).any (Tryz.prog.veiledRec ·)=false:=by
 simp only[qL,uj,Program.veiledRec,xn,xk,QA];kernel_rfl
def ir4:Tryz.prog.ifacesRec 4=false:=by unfold Program.ifacesRec;rw[QA];kernel_rfl
def bm3:Tryz.prog.partsOf 26=[5,5,22,23,24]:=lR
def bm4:Tryz.prog.partsOf 28=[26,5,22,22]:=lR
def bm5:Tryz.prog.partsOf 30=[28,22,5]:=lR
def bm6:Tryz.prog.partsOf 22=[5]:=lR
def bm7:Tryz.prog.partsOf 23=[193]:=lR
def bm8:Tryz.prog.partsOf 24=[196]:=lR
def cj6:Tryz.prog.partsOf 193=[5,22,5,5]:=lR
def cj7:Tryz.prog.partsOf 196=[5,5,5,5,5]:=lR
def pt5:Tryz.prog.partsOf 5=[]:=lR
def pt3:Tryz.prog.partsOf 3=[]:=lR
def pt4:Tryz.prog.partsOf 4=[]:=lR
def bn1:([30]:List TypeId).any (Tryz.prog.loopsFrom ·)=false:=by
 simp only[qL,uj,Program.loopsFrom,xn,xk,bm5,bm4,bm3,bm6,bm7,bm8,cj6,cj7,pt5,pt3,bk5,bl0,bk9,bk1,cj3,cj4,cj5,bk8];decide
def lp4:Tryz.prog.loopsFrom 4=false:=by
 simp only[Program.loopsFrom,QA,pt4,qL,uj];rfl
def jpm:Tryz.prog.mapsAmong [4]=false:=lR
def jpl:Tryz.prog.liftsFinal=Rows.styleGroupsRow.lifted:=lR
def jpk:Tryz.prog.make=some Rows.styleGroupsRow.make:=lR
def wk:([30,4]:List TypeId).any (Tryz.prog.wideKeysFrom ·)=false:=by
 simp only[qL,uj,Program.wideKeysFrom,xn,xk,QA];kernel_rfl
def irr:([4]:List TypeId).any (Tryz.prog.ifacesRec ·)=false:=by simp only[qL,uj,ir4];rfl
def lpr:([4]:List TypeId).any (Tryz.prog.loopsFrom ·)=false:=by simp only[qL,uj,lp4];rfl
def cj8:Tryz.prog.book 714=[714,5]:=nf 1 835 lR lR lR
def cj9:Tryz.prog.book 772=[772,5]:=nf 1 835 lR lR lR
def ck0:Tryz.prog.book 775=[775,774,5]:=nf 2 834 lR lR lR
def ck1:Tryz.prog.book 783=[783,42]:=nf 1 835 lR lR lR
def ck2:Tryz.prog.book 818=[818,5]:=nf 1 835 lR lR lR
def vrl:([30,4,714,772,775,783,818]:List TypeId).all (λt=> !Tryz.prog.veiledRec t)=true:=by
 simp only[xE,FU,Program.veiledRec,xn,xk,QA,cj8,cj9,ck0,ck1,ck2];kernel_rfl
def vo (t:TypeId) (h:Tryz.prog.veiledRec t=false):Tryz.prog.veiledOwn t=true:=by unfold Program.veiledOwn;rw[h];rfl
def bn7:(Rows.styleGroupsRow.laid.filterMap λx=>(Tryz.prog.globalNamed x.1).bind λg=>(Tryz.prog.globals[g]?).map (·.type))=[714,772,775,783,818]:=lR
def vf:Rows.styleGroupsRow.veiledFits Tryz.prog [30] [30,4]=true:=by
 unfold OpenClaim.veiledFits;rw[bn7];have h:([30,4]++[714,772,775,783,818]:List TypeId).all (Tryz.prog.veiledOwn ·)=true:=by
  rw[fX];intro t j;refine vo t ?_;have:=fX.1 vrl t j;simpa using this
 rw[h];rfl
def bn8:joinedFacts Tryz.prog 3 Tryz.f3 Rows.styleGroupsSpec Rows.styleGroupsRow=true:=by
 simp only[joinedFacts,aB];exact⟨⟨⟨⟨⟨⟨⟨⟨⟨⟨⟨⟨⟨⟨⟨⟨⟨⟨⟨⟨⟨⟨⟨⟨⟨⟨⟨⟨⟨⟨⟨jp1,UO⟩,fa2⟩,by rw[Tryz.params3,←Array.all_toList];simp only[xE,FU,UP];rfl⟩,jpN⟩,by rfl⟩,by rw[fa3];rfl⟩,by rfl⟩,by rw[fa4];rfl⟩,by rw[bl8];kernel_rfl⟩,by rw[UN];rfl⟩,by rw[bl9];rfl⟩,by rw[bm0];kernel_rfl⟩,by rw[Tryz.params3,zr,lG];exact(congrArg (λb=>Rows.styleGroupsRow.maps==b) mr).trans rfl⟩,by rw[Tryz.params3,zr,lG];exact(congrArg (λb=>Rows.styleGroupsRow.ifaces==b) ir).trans rfl⟩,by rw[Py];exact(congrArg (λb=>Rows.styleGroupsRow.mapsOut==b) jpm).trans rfl⟩,by rw[Tryz.params3,zr,lG];exact(congrArg (λb=>Rows.styleGroupsRow.loops==b) bn1).trans rfl⟩,by rw[Tryz.params3,zr,lG,Py];exact(congrArg (λb=>Rows.styleGroupsRow.wideKeys==b) wk).trans rfl⟩,by rfl⟩,by rw[Py,←Array.all_toList];simp only[xE,FU,rr4,Tryz.types_size];rfl⟩,by rw[Py];exact(congrArg (λb=>Rows.styleGroupsRow.ifacesOut==b) irr).trans rfl⟩,by rw[Py];exact(congrArg (λb=>Rows.styleGroupsRow.loopsOut==b) lpr).trans rfl⟩,by rw[fa7];rfl⟩,by rfl⟩,fa5⟩,fa6⟩,by rw[jpl];exact beq_self_eq_true _⟩,by rw[jpk];exact beq_self_eq_true _⟩,by rfl⟩,lR⟩,by rw[Tryz.params3,zr,lG,Py];exact(congrArg (λb=>Rows.styleGroupsRow.veiled==b) vr).trans rfl⟩,by rw[Tryz.params3,zr,lG,Py];exact vf⟩
def cf1:Rows.styleGroupsRow.wfByText (OpenSpec.ofChange Rows.styleGroupsSpec)=true:=lR
def cf3:Tryz.prog.looks []=true:=lR
def cf4:([30,3]:List TypeId).all (λu=> !Tryz.prog.wantsStandIn u)=true:=lR
def KO:Tryz.prog.funcNamed "koine/koinelaw27.StyleGroups" =some 3:=lR
def cf9:ownKnob Tryz.prog.godebug=none:=lR
def bn9:Tryz.prog.inits.idxOf? 3=none:=lR
def bo0:Tryz.f3.isInstance Tryz.prog Rows.styleGroupsRow.origin Rows.styleGroupsRow.targs:=qM lR
def bo1:Tryz.f3.isWrapper Tryz.prog Rows.styleGroupsRow.wrapper Rows.styleGroupsRow.mainSum:=by unfold Func.isWrapper;rw[aD (by decide+kernel)];exact⟨rfl,rfl⟩
def bo2 (P:Program):P.funcsFit Rows.styleGroupsRow.laid=true:=lR
def bo3:(i7 0).any Func.goes=false:=lR
def bo4:(i7 1).any Func.goes=false:=lR
def bo5:(i7 2).any Func.goes=false:=lR
def bo6:(i7 3).any Func.goes=false:=lR
def bo7:(i7 4).any Func.goes=false:=lR
def bo8:(i7 5).any Func.goes=false:=lR
def bo9:(i7 6).any Func.goes=false:=lR
def cf2:Tryz.prog.mainIs=some (true, "908ef88904c7dcc2ba989ca48a6f628a7930bd25cdbeee945937b36883bb07bf".toList):=lR
def bp0 {α:Type} (f:α ->Bool) (n:Nat) (l:List α):l.any f=((l.take n).any f||(l.drop n).any f):=by rw[←List.any_append,vJ]
def bp1:(Tryz.prog.funcs.toList.drop 700).any Func.goes=false:=by rw[←yr];kernel_rfl
def cfg:Tryz.prog.funcs.any Func.goes=false:=by
 rw[←Array.any_toList];have d:∀k,Tryz.prog.funcs.toList.drop (100*k+100)=(Tryz.prog.funcs.toList.drop (100*k)).drop 100:=λk=>by rw[ud]
 have c:∀k,(i7 k).any Func.goes=false ->(Tryz.prog.funcs.toList.drop (100*k+100)).any Func.goes=false ->(Tryz.prog.funcs.toList.drop (100*k)).any Func.goes=false:=λk h1 h2=>by
  rw[bp0 _ 100 (Tryz.prog.funcs.toList.drop (100*k)),←UK,←d k,h1,h2];rfl
 exact c 0 bo3 (c 1 bo4 (c 2 bo5 (c 3 bo6 (c 4 bo7 (c 5 bo8 (c 6 bo9 bp1))))))
def bp2:Tryz.prog.goes 3=false:=by
 unfold Program.goes;rw[cfg,pP,Bool.or_false,P6];intro g _ h;rcases e:Tryz.prog.funcs[g]? with _|F;rw[e] at h;cases h;rw[e] at h;have h':F.goes=true:=h;have:=Array.any_eq_false.1 cfg;obtain⟨u,e⟩:=jX.1 e;have j:=this g u;rw[e] at j;exact j h'
def cff:Rows.styleGroupsRow.func= "koine/koinelaw27.StyleGroups" :=rfl
def cfs:Rows.styleGroupsRow.start= .entering:=rfl
def cf5:false=Rows.styleGroupsRow.goesBy Tryz.prog:=by
 unfold OpenClaim.goesBy Program.goesAt Program.goesFrom;rw[cff,cfs,KO,Option.any_some,bp2];rfl
end AM
