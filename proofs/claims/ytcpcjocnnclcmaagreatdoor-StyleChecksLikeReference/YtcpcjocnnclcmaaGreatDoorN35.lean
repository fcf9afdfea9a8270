import Derived.Handed
import Derived.LaidByTextLater
import Derived.SevenTiedAt
import Derived.Test.YtcpcjocnnclcmaaGreatDoorRows
import Derived.Test.YtcpcjocnnclcmaaGreatDoorN32
import Derived.Test.YtcpcjocnnclcmaaGreatDoorN33
set_option linter.all false
namespace AM
open Go Go.Proofs Go.Proofs.YtcpcjocnnclcmaaGreatDoor
def EW:Tryz.f3.resultTypes=#[4]:=by kernel_rfl
def AY:Rows.styleChecksLikeReferenceSpec.plain.varTypes Tryz.prog=[]:=rfl
def jp1:(Rows.styleChecksLikeReferenceRow.wf (OpenSpec.ofChange Rows.styleChecksLikeReferenceSpec))=true:=by kernel_rfl
def ad2:Tryz.prog.readableRec 26=true:=by unfold Program.readableRec;rw[HH];kernel_rfl
def ad3:Tryz.prog.readableRec 27=true:=by unfold Program.readableRec;rw[HG];kernel_rfl
def ad4:Tryz.prog.readableRec 22=true:=by unfold Program.readableRec;rw[HE];kernel_rfl
def rr4:Tryz.prog.readableRec 4=true:=by unfold Program.readableRec;rw[Yz];kernel_rfl
def jpN:namedTie Tryz.prog Rows.styleChecksLikeReferenceRow.named Rows.styleChecksLikeReferenceSpec.vars=true:=by kernel_rfl
def mr:([26,27,22]:List TypeId).any (Tryz.prog.mapsRec ·)=false:=by
 simp only[lY,pC,Program.mapsRec,HH,HG,HE];kernel_rfl
def ir:([26,27,22]:List TypeId).any (Tryz.prog.ifacesRec ·)=false:=by
 simp only[lY,pC,Program.ifacesRec,HH,HG,HE];kernel_rfl
def vr:([26,27,22,4]:List TypeId).any (Tryz.prog.veiledRec ·)=false:=by
 simp only[lY,pC,Program.veiledRec,HH,HG,HE,Yz];kernel_rfl
def ir4:Tryz.prog.ifacesRec 4=false:=by unfold Program.ifacesRec;rw[Yz];kernel_rfl
def az8:Tryz.prog.partsOf 26=[5,5,22,23,24]:=by kernel_rfl
def az9:Tryz.prog.partsOf 27=[54]:=by kernel_rfl
def aA0:Tryz.prog.partsOf 22=[5]:=by kernel_rfl
def aA1:Tryz.prog.partsOf 23=[70]:=by kernel_rfl
def aA2:Tryz.prog.partsOf 24=[73]:=by kernel_rfl
def aA3:Tryz.prog.partsOf 54=[3,3,3,3]:=by kernel_rfl
def aA4:Tryz.prog.partsOf 70=[5,22,5,5]:=by kernel_rfl
def aA5:Tryz.prog.partsOf 73=[5,5,5,5,5]:=by kernel_rfl
def pt5:Tryz.prog.partsOf 5=[]:=by kernel_rfl
def pt3:Tryz.prog.partsOf 3=[]:=by kernel_rfl
def pt4:Tryz.prog.partsOf 4=[]:=by kernel_rfl
def aA6:([26,27,22]:List TypeId).any (Tryz.prog.loopsFrom ·)=false:=by
 simp only[lY,pC,Program.loopsFrom,HH,HG,HE,az8,az9,aA0,aA1,aA2,aA3,aA4,aA5,pt5,pt3,bk5,bk3,az3,az4,az5,az6,az7];decide
def lp4:Tryz.prog.loopsFrom 4=false:=by
 simp only[Program.loopsFrom,Yz,pt4,lY,pC];rfl
def jpm:Tryz.prog.mapsAmong [4]=false:=by kernel_rfl
def jpl:Tryz.prog.liftsFinal=Rows.styleChecksLikeReferenceRow.lifted:=by kernel_rfl
def jpk:Tryz.prog.make=some Rows.styleChecksLikeReferenceRow.make:=by kernel_rfl
def wk:([26,27,22,4]:List TypeId).any (Tryz.prog.wideKeysFrom ·)=false:=by
 simp only[lY,pC,Program.wideKeysFrom,HH,HG,HE,Yz];kernel_rfl
def irr:([4]:List TypeId).any (Tryz.prog.ifacesRec ·)=false:=by simp only[lY,pC,ir4];rfl
def lpr:([4]:List TypeId).any (Tryz.prog.loopsFrom ·)=false:=by simp only[lY,pC,lp4];rfl
def ad5:Tryz.prog.book 708=[708,5]:=gJ 1 825 (by kernel_rfl) (by kernel_rfl) (by kernel_rfl)
def ad6:Tryz.prog.book 762=[762,5]:=gJ 1 825 (by kernel_rfl) (by kernel_rfl) (by kernel_rfl)
def ad7:Tryz.prog.book 765=[765,764,5]:=gJ 2 824 (by kernel_rfl) (by kernel_rfl) (by kernel_rfl)
def ad8:Tryz.prog.book 773=[773,51]:=gJ 1 825 (by kernel_rfl) (by kernel_rfl) (by kernel_rfl)
def ad9:Tryz.prog.book 808=[808,5]:=gJ 1 825 (by kernel_rfl) (by kernel_rfl) (by kernel_rfl)
def vrl:([26,27,22,4,708,762,765,773,808]:List TypeId).all (fun t=> !Tryz.prog.veiledRec t)=true:=by
 simp only[zA,Fp,Program.veiledRec,HH,HG,HE,Yz,ad5,ad6,ad7,ad8,ad9];kernel_rfl
def vo (t:TypeId) (h:Tryz.prog.veiledRec t=false):Tryz.prog.veiledOwn t=true:=by unfold Program.veiledOwn;rw[h];rfl
def ae0:(Rows.styleChecksLikeReferenceRow.laid.filterMap fun x=>(Tryz.prog.globalNamed x.1).bind fun g=>(Tryz.prog.globals[g]?).map (·.type))=[708,762,765,773,808]:=by kernel_rfl
def vf:Rows.styleChecksLikeReferenceRow.veiledFits Tryz.prog [26,27,22] [26,27,22,4]=true:=by
 unfold OpenClaim.veiledFits;rw[ae0];have h:([26,27,22,4]++[708,762,765,773,808]:List TypeId).all (Tryz.prog.veiledOwn ·)=true:=by
  rw[fK];intro t ht;refine vo t ?_;have:=fK.1 vrl t ht;simpa using this
 rw[h];rfl
def Xx:joinedFacts Tryz.prog 3 Tryz.f3 Rows.styleChecksLikeReferenceSpec Rows.styleChecksLikeReferenceRow=true:=by
 simp only[joinedFacts,av];exact⟨⟨⟨⟨⟨⟨⟨⟨⟨⟨⟨⟨⟨⟨⟨⟨⟨⟨⟨⟨⟨⟨⟨⟨⟨⟨⟨⟨⟨⟨⟨jp1,fa1⟩,fa2⟩,by rw[Tryz.params3,←Array.all_toList];simp only[zA,Fp,ad2,ad3,ad4];rfl⟩,jpN⟩,by rfl⟩,by rw[fa3];rfl⟩,by rfl⟩,by rw[fa4];rfl⟩,by rw[Qv];kernel_rfl⟩,by rw[Qw];rfl⟩,by rw[Xw];rfl⟩,by rw[Qx];kernel_rfl⟩,by rw[Tryz.params3,AY,ip];exact(congrArg (fun b=>Rows.styleChecksLikeReferenceRow.maps==b) mr).trans rfl⟩,by rw[Tryz.params3,AY,ip];exact(congrArg (fun b=>Rows.styleChecksLikeReferenceRow.ifaces==b) ir).trans rfl⟩,by rw[EW];exact(congrArg (fun b=>Rows.styleChecksLikeReferenceRow.mapsOut==b) jpm).trans rfl⟩,by rw[Tryz.params3,AY,ip];exact(congrArg (fun b=>Rows.styleChecksLikeReferenceRow.loops==b) aA6).trans rfl⟩,by rw[Tryz.params3,AY,ip,EW];exact(congrArg (fun b=>Rows.styleChecksLikeReferenceRow.wideKeys==b) wk).trans rfl⟩,by rfl⟩,by rw[EW,←Array.all_toList];simp only[zA,Fp,rr4,Tryz.types_size];rfl⟩,by rw[EW];exact(congrArg (fun b=>Rows.styleChecksLikeReferenceRow.ifacesOut==b) irr).trans rfl⟩,by rw[EW];exact(congrArg (fun b=>Rows.styleChecksLikeReferenceRow.loopsOut==b) lpr).trans rfl⟩,by rw[fa7];rfl⟩,by rfl⟩,fa5⟩,fa6⟩,by rw[jpl];exact beq_self_eq_true _⟩,by rw[jpk];exact beq_self_eq_true _⟩,by rfl⟩,by kernel_rfl⟩,by rw[Tryz.params3,AY,ip,EW];exact(congrArg (fun b=>Rows.styleChecksLikeReferenceRow.veiled==b) vr).trans rfl⟩,by rw[Tryz.params3,AY,ip,EW];exact vf⟩
def cf1:Rows.styleChecksLikeReferenceRow.wfByText (OpenSpec.ofChange Rows.styleChecksLikeReferenceSpec)=true:=by kernel_rfl
def cf3:Tryz.prog.looks []=true:=by kernel_rfl
def cf4:([26,27,22]:List TypeId).all (fun u=> !Tryz.prog.wantsStandIn u)=true:=by kernel_rfl
def cf7:Tryz.prog.funcNamed "koine/koinelaw27.StyleChecksLikeReference" =some 3:=by kernel_rfl
def cf9:ownKnob Tryz.prog.godebug=none:=by kernel_rfl
def aG3:Tryz.prog.inits.idxOf? 3=none:=by kernel_rfl
def aG4:Tryz.f3.isInstance Tryz.prog Rows.styleChecksLikeReferenceRow.origin Rows.styleChecksLikeReferenceRow.targs:=of_decide_eq_true (by kernel_rfl)
def aG5:Tryz.f3.isWrapper Tryz.prog Rows.styleChecksLikeReferenceRow.wrapper Rows.styleChecksLikeReferenceRow.mainSum:=by unfold Func.isWrapper;rw[if_neg (by decide+kernel)];exact⟨rfl,rfl⟩
def aG6 (P:Program):P.funcsFit Rows.styleChecksLikeReferenceRow.laid=true:=by kernel_rfl
def aG7:(GE 0).any Func.goes=false:=by kernel_rfl
def aG8:(GE 1).any Func.goes=false:=by kernel_rfl
def aG9:(GE 2).any Func.goes=false:=by kernel_rfl
def aH0:(GE 3).any Func.goes=false:=by kernel_rfl
def aH1:(GE 4).any Func.goes=false:=by kernel_rfl
def aH2:(GE 5).any Func.goes=false:=by kernel_rfl
def aH3:(GE 6).any Func.goes=false:=by kernel_rfl
def cf2:Tryz.prog.mainIs=some (true, "ab3654f7ebc4861af1819c46600f9810cdbb15afda3d487277c27623d76635e6".toList):=by kernel_rfl
def Tn {α:Type} (f:α ->Bool) (n:Nat) (l:List α):l.any f=((l.take n).any f||(l.drop n).any f):=by rw[←List.any_append,pm]
def aH4:(Tryz.prog.funcs.toList.drop 700).any Func.goes=false:=by rw[←uN];kernel_rfl
def cfg:Tryz.prog.funcs.any Func.goes=false:=by
 rw[←Array.any_toList];have d:∀k,Tryz.prog.funcs.toList.drop (100*k+100)=(Tryz.prog.funcs.toList.drop (100*k)).drop 100:=fun k=>by rw[wV]
 have c:∀k,(GE k).any Func.goes=false ->(Tryz.prog.funcs.toList.drop (100*k+100)).any Func.goes=false ->(Tryz.prog.funcs.toList.drop (100*k)).any Func.goes=false:=fun k h1 h2=>by
  rw[Tn _ 100 (Tryz.prog.funcs.toList.drop (100*k)),←Qr,←d k,h1,h2];rfl
 exact c 0 aG7 (c 1 aG8 (c 2 aG9 (c 3 aH0 (c 4 aH1 (c 5 aH2 (c 6 aH3 aH4))))))
def aq0:Tryz.prog.goes 3=false:=by
 unfold Program.goes;rw[cfg,kM,Bool.or_false,Lt];intro g _ h;cases e:Tryz.prog.funcs[g]? with
 |none=>rw[e] at h;cases h
 |some F=>
  rw[e] at h;have h':F.goes=true:=h;have:=Array.any_eq_false.1 cfg;obtain⟨hg,e⟩:=jo.1 e;have hx:=this g hg;rw[e] at hx;exact hx h'
def cff:Rows.styleChecksLikeReferenceRow.func= "koine/koinelaw27.StyleChecksLikeReference" :=rfl
def cfs:Rows.styleChecksLikeReferenceRow.start= .entering:=rfl
def cf5:false=Rows.styleChecksLikeReferenceRow.goesBy Tryz.prog:=by
 unfold OpenClaim.goesBy Program.goesAt Program.goesFrom;rw[cff,cfs,cf7,Option.any_some,aq0];rfl
end AM
