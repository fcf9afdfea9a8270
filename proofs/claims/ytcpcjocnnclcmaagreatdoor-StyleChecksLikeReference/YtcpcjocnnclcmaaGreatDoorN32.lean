import Derived.JoinedOf
import Derived.KernelRfl
import GoSem.ClaimLoops
import Derived.Test.YtcpcjocnnclcmaaGreatDoorN7
set_option linter.all false
namespace AM
open Go Go.Proofs
def AW {P:Program} {L:List TypeId} (h:P.grow L=L):∀n,P.grown n L=L
 |0=>rfl
 |n+1=>by show P.grown n (P.grow L)=L;rw[h];exact AW h n
def AX {P:Program}:∀(a b:Nat) (L:List TypeId),P.grown (a+b) L=P.grown b (P.grown a L)
 |0,b,L=>by rw[fL];rfl
 |a+1,b,L=>by rw[Nat.succ_add];show P.grown (a+b) (P.grow L)=P.grown b (P.grown a (P.grow L));exact AX a b _
def gJ {P:Program} {t:TypeId} {L:List TypeId} (k n:Nat) (hs:P.types.size=k+n) (h1:P.grown k [t]=L) (h2:P.grow L=L):P.book t=L:=by
 unfold Program.book;rw[hs,AX,h1];exact AW h2 n
def bk5:Tryz.prog.book 5=[5]:=gJ 0 826 (by kernel_rfl) (by kernel_rfl) (by kernel_rfl)
def bk3:Tryz.prog.book 3=[3]:=gJ 0 826 (by kernel_rfl) (by kernel_rfl) (by kernel_rfl)
def Yz:Tryz.prog.book 4=[4]:=gJ 0 826 (by kernel_rfl) (by kernel_rfl) (by kernel_rfl)
def HE:Tryz.prog.book 22=[22,5]:=gJ 1 825 (by kernel_rfl) (by kernel_rfl) (by kernel_rfl)
def az3:Tryz.prog.book 54=[54,3]:=gJ 1 825 (by kernel_rfl) (by kernel_rfl) (by kernel_rfl)
def HG:Tryz.prog.book 27=[27,54,3]:=gJ 2 824 (by kernel_rfl) (by kernel_rfl) (by kernel_rfl)
def az4:Tryz.prog.book 70=[70,5,22]:=gJ 1 825 (by kernel_rfl) (by kernel_rfl) (by kernel_rfl)
def az5:Tryz.prog.book 73=[73,5]:=gJ 1 825 (by kernel_rfl) (by kernel_rfl) (by kernel_rfl)
def az6:Tryz.prog.book 23=[23,70,5,22]:=gJ 2 824 (by kernel_rfl) (by kernel_rfl) (by kernel_rfl)
def az7:Tryz.prog.book 24=[24,73,5]:=gJ 2 824 (by kernel_rfl) (by kernel_rfl) (by kernel_rfl)
def HH:Tryz.prog.book 26=[26,5,22,23,24,70,73]:=gJ 2 824 (by kernel_rfl) (by kernel_rfl) (by kernel_rfl)
noncomputable def GE (k:Nat):List Func:=(Zy (Nat.mul 100 k) Tryz.prog.funcs.toList).take 100
noncomputable def lt0:List (List Nat):=ev ((GE 0).map Tryz.prog.leadsTo)
noncomputable def lt1:List (List Nat):=ev ((GE 1).map Tryz.prog.leadsTo)
noncomputable def lt2:List (List Nat):=ev ((GE 2).map Tryz.prog.leadsTo)
noncomputable def lt3:List (List Nat):=ev ((GE 3).map Tryz.prog.leadsTo)
noncomputable def lt4:List (List Nat):=ev ((GE 4).map Tryz.prog.leadsTo)
noncomputable def lt5:List (List Nat):=ev ((GE 5).map Tryz.prog.leadsTo)
set_option maxRecDepth 100000 in
noncomputable def lt6:List (List Nat):=ev ((GE 6).map Tryz.prog.leadsTo)
def S0 {α β:Type} (f:α ->β) (n:Nat) (l:List α):l.map f=(l.take n).map f++(l.drop n).map f:=by
 rw[←iT,pm]
def Qr (k:Nat):GE k=(Tryz.prog.funcs.toList.drop (100*k)).take 100:=by unfold GE;rw[uN];rfl
def lc0:(GE 0).map Tryz.prog.leadsTo=lt0:=by kernel_rfl
def lc1:(GE 1).map Tryz.prog.leadsTo=lt1:=by kernel_rfl
def lc2:(GE 2).map Tryz.prog.leadsTo=lt2:=by kernel_rfl
def lc3:(GE 3).map Tryz.prog.leadsTo=lt3:=by kernel_rfl
def lc4:(GE 4).map Tryz.prog.leadsTo=lt4:=by kernel_rfl
def lc5:(GE 5).map Tryz.prog.leadsTo=lt5:=by kernel_rfl
def lc6:(GE 6).map Tryz.prog.leadsTo=lt6:=by kernel_rfl
def lc7:(Tryz.prog.funcs.toList.drop 700).map Tryz.prog.leadsTo=[]:=by rw[←uN];kernel_rfl
noncomputable def ltA:List (List Nat):=lt0++(lt1++(lt2++(lt3++(lt4++(lt5++lt6)))))
def EV:Tryz.prog.funcs.toList.map Tryz.prog.leadsTo=ltA:=by
 have d:∀k,Tryz.prog.funcs.toList.drop (100*k+100)=(Tryz.prog.funcs.toList.drop (100*k)).drop 100:=fun k=>by rw[wV]
 have c:∀k (t:List (List Nat)),(Tryz.prog.funcs.toList.drop (100*k+100)).map Tryz.prog.leadsTo=t ->(Tryz.prog.funcs.toList.drop (100*k)).map Tryz.prog.leadsTo=(GE k).map Tryz.prog.leadsTo++t:=fun k t h=>by
  rw[S0 _ 100 (Tryz.prog.funcs.toList.drop (100*k)),←Qr,←d k,h]
 have e6:=c 6 _ lc7;have e5:=c 5 _ e6;have e4:=c 4 _ e5;have e3:=c 3 _ e4;have e2:=c 2 _ e3;have e1:=c 1 _ e2;have e0:=c 0 _ e1;rw[lc0,lc1,lc2,lc3,lc4,lc5,lc6,ip] at e0;exact e0
noncomputable def K8 (lt:List (List Nat)):Nat ->List Nat ->Nat ->List Nat ->List Nat:=
 Nat.rec (motive:=fun _=>List Nat ->Nat ->List Nat ->List Nat) (fun _ _ acc=>acc) fun _ ih todo bits acc=>
  List.rec (motive:=fun _=>List Nat) acc (fun f todo _=>bif Nat.beq (Nat.land (Nat.shiftRight bits f) 1) 1 then ih todo bits acc else
   fN (Nat.lor bits (Nat.shiftLeft 1 f)) fun b=>ih (Option.rec (motive:=fun _=>List Nat) todo (fun l=>List.rec (motive:=fun _=>List Nat) todo (fun x _ t=>x::t) l) (CT lt f)) b (f::acc)) todo
def S3 {α:Type} (l m:List α):(List.rec (motive:=fun _=>List α) m (fun x _ t=>x::t) l:List α)=l++m:=by
 induction l with
 |nil=>rfl
 |cons a l ih=>show a::_=a::(l++m);rw[ih]
def Qs (b f:Nat):Nat.beq (Nat.land (Nat.shiftRight b f) 1) 1=b.testBit f:=by
 have h:Nat.land (Nat.shiftRight b f) 1=(b>>>f)%2:=Vl _;rw[h,Nat.testBit,Nat.and_comm,Vl];rcases Nat.mod_two_eq_zero_or_one (b>>>f) with e|e<;>rw[e]<;>rfl
def CI (P:Program) {lt:List (List Nat)} (h:P.funcs.toList.map P.leadsTo=lt):∀(n:Nat) (todo:List Nat) (bits:Nat) (acc:List Nat),(∀f,acc.contains f=bits.testBit f) ->P.closureVia n todo acc=(K8 lt n todo bits acc).reverse
 |0,todo,bits,acc,_=>by cases todo<;>rfl
 |n+1,[],bits,acc,_=>rfl
 |n+1,f::todo,bits,acc,hb=>by
  have e:K8 lt (n+1) (f::todo) bits acc=bif Nat.beq (Nat.land (Nat.shiftRight bits f) 1) 1 then K8 lt n todo bits acc else
   fN (Nat.lor bits (Nat.shiftLeft 1 f)) fun b=>K8 lt n (Option.rec (motive:=fun _=>List Nat) todo (fun l=>List.rec (motive:=fun _=>List Nat) todo (fun x _ t=>x::t) l) (CT lt f)) b (f::acc):=rfl
  rw[e,Qs,Program.closureVia,hb f];cases hx:bits.testBit f with
  |true=>rw[cond_true,if_pos rfl];exact CI P h n todo bits acc hb
  |false=>
   rw[cond_false,if_neg (by simp),bR];have q:(Option.rec (motive:=fun _=>List Nat) todo (fun l=>List.rec (motive:=fun _=>List Nat) todo (fun x _ t=>x::t) l) (CT lt f):List Nat)=(P.funcs[f]?).elim [] P.leadsTo++todo:=by
    rw[wC,←h,lX,wY];cases P.funcs[f]? with
    |none=>rfl
    |some F=>exact S3 _ _
   rw[q];refine CI P h n _ _ (f::acc) fun g=> ?_
   rw[List.contains_cons,hb g];show(g==f||bits.testBit g)=(bits|||1<<<f).testBit g;rw[E9,Nat.one_shiftLeft,Nat.testBit_two_pow,Bool.or_comm];congr 1;by_cases e:f=g
   ·subst e;simp
   ·simp[e];exact fun h=>e h.symm
def Qt:1+(ltA.map fun l=>l.length+1).sum=1999:=by kernel_rfl
def Qu (P:Program) {lt:List (List Nat)} (h:P.funcs.toList.map P.leadsTo=lt) {n:Nat} (hn:1+(lt.map fun l=>l.length+1).sum=n):1+(P.funcs.toList.map fun g=>(P.leadsTo g).length+1).sum=n:=by
 rw[←hn,←h,Lu];rfl
def S4:1+(Tryz.prog.funcs.toList.map fun g=>(Tryz.prog.leadsTo g).length+1).sum=1999:=Qu _ EV Qt
set_option maxRecDepth 100000 in
noncomputable def ac9:List Nat:=ev (K8 ltA 1999 [3] 0 []).reverse
def S5:(K8 ltA 1999 [3] 0 []).reverse=ac9:=by kernel_rfl
def HI:Tryz.prog.closure 3=ac9:=by
 unfold Program.closure;rw[S4,CI Tryz.prog EV 1999 [3] 0 [] (fun f=>by simp),S5]
def Qv:Tryz.prog.inPlace 3=["internal/bytealg.IndexByteString", "internal/bytealg.IndexString", "internal/abi.NoEscape", "internal/bytealg.MakeNoZero"]:=by
 unfold Program.inPlace;rw[HI]
 kernel_rfl
def Qw:Tryz.prog.unfollowed 3=true:=by
 unfold Program.unfollowed;rw[HI]
 kernel_rfl
def Xw:Tryz.prog.recurses 3=true:=by
 unfold Program.recurses;rw[Qw];rfl
def Qx:Tryz.prog.varsNamed 3=["math/bits.deBruijn64tab", "internal/bytealg.MaxLen", "unicode/utf8.first", "unicode/utf8.acceptRanges", "internal/strconv.uint64pow10", "math/bits.deBruijn32tab"]:=by
 unfold Program.varsNamed;rw[HI]
 kernel_rfl
end AM
