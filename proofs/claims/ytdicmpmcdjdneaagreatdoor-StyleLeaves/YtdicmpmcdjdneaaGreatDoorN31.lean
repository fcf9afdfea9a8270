import Derived.JoinedOf
import GoSem.ClaimLoops
import Derived.Test.YtdicmpmcdjdneaaGreatDoorN7
set_option linter.all false
namespace AM
open Go Go.Proofs
def UB {P:Program} {L:List TypeId} (h:P.grow L=L):∀n,P.grown n L=L
 |0=>rfl
 |n+1=>by show P.grown n (P.grow L)=L;rw[h];exact UB h n
def UC {P:Program}:∀(a b:Nat) (L:List TypeId),P.grown (a+b) L=P.grown b (P.grown a L)
 |0,b,L=>by rw[gB];rfl
 |a+1,b,L=>by rw[Nat.succ_add];show P.grown (a+b) (P.grow L)=P.grown b (P.grown a (P.grow L));exact UC a b _
def rH {P:Program} {t:TypeId} {L:List TypeId} (k n:Nat) (j:P.types.size=k+n) (h1:P.grown k [t]=L) (h2:P.grow L=L):P.book t=L:=by
 unfold Program.book;rw[j,UC,h1];exact UB h2 n
def bk5:Tryz.prog.book 5=[5]:=rH 0 840 lR lR lR
def Ep:Tryz.prog.book 31=[31]:=rH 0 840 lR lR lR
def QA:Tryz.prog.book 4=[4]:=rH 0 840 lR lR lR
def bk1:Tryz.prog.book 22=[22,5]:=rH 1 839 lR lR lR
def bC3:Tryz.prog.book 223=[223,5,22]:=rH 1 839 lR lR lR
def bC4:Tryz.prog.book 226=[226,5]:=rH 1 839 lR lR lR
def cj5:Tryz.prog.book 23=[23,223,5,22]:=rH 2 838 lR lR lR
def bk8:Tryz.prog.book 24=[24,226,5]:=rH 2 838 lR lR lR
def bk9:Tryz.prog.book 26=[26,5,22,23,24,223,226]:=rH 2 838 lR lR lR
def bl0:Tryz.prog.book 28=[28,26,5,22,23,24,223,226]:=rH 3 837 lR lR lR
def xn:Tryz.prog.book 30=[30,28,22,5,26,23,24,223,226]:=rH 4 836 lR lR lR
noncomputable def i7 (k:Nat):List Func:=(AW (Nat.mul 100 k) Tryz.prog.funcs.toList).take 100
noncomputable def UD:List (List Nat):=ev ((i7 0).map Tryz.prog.leadsTo)
noncomputable def UE:List (List Nat):=ev ((i7 1).map Tryz.prog.leadsTo)
noncomputable def UF:List (List Nat):=ev ((i7 2).map Tryz.prog.leadsTo)
noncomputable def UG:List (List Nat):=ev ((i7 3).map Tryz.prog.leadsTo)
noncomputable def UH:List (List Nat):=ev ((i7 4).map Tryz.prog.leadsTo)
noncomputable def UI:List (List Nat):=ev ((i7 5).map Tryz.prog.leadsTo)
set_option maxRecDepth 100000 in
noncomputable def UJ:List (List Nat):=ev ((i7 6).map Tryz.prog.leadsTo)
def bl1 {α β:Type} (f:α ->β) (n:Nat) (l:List α):l.map f=(l.take n).map f++(l.drop n).map f:=by
 rw[←kE,vJ]
def UK (k:Nat):i7 k=(Tryz.prog.funcs.toList.drop (100*k)).take 100:=by unfold i7;rw[yr];rfl
def lc0:(i7 0).map Tryz.prog.leadsTo=UD:=lR
def lc1:(i7 1).map Tryz.prog.leadsTo=UE:=lR
def lc2:(i7 2).map Tryz.prog.leadsTo=UF:=lR
def lc3:(i7 3).map Tryz.prog.leadsTo=UG:=lR
def lc4:(i7 4).map Tryz.prog.leadsTo=UH:=lR
def lc5:(i7 5).map Tryz.prog.leadsTo=UI:=lR
def lc6:(i7 6).map Tryz.prog.leadsTo=UJ:=lR
def lc7:(Tryz.prog.funcs.toList.drop 700).map Tryz.prog.leadsTo=[]:=by rw[←yr];kernel_rfl
noncomputable def Fk:List (List Nat):=UD++(UE++(UF++(UG++(UH++(UI++UJ)))))
def UL:Tryz.prog.funcs.toList.map Tryz.prog.leadsTo=Fk:=by
 have d:∀k,Tryz.prog.funcs.toList.drop (100*k+100)=(Tryz.prog.funcs.toList.drop (100*k)).drop 100:=λk=>by rw[ud]
 have c:∀k (t:List (List Nat)),(Tryz.prog.funcs.toList.drop (100*k+100)).map Tryz.prog.leadsTo=t ->(Tryz.prog.funcs.toList.drop (100*k)).map Tryz.prog.leadsTo=(i7 k).map Tryz.prog.leadsTo++t:=λk t h=>by
  rw[bl1 _ 100 (Tryz.prog.funcs.toList.drop (100*k)),←UK,←d k,h]
 have e6:=c 6 _ lc7;have e5:=c 5 _ e6;have e4:=c 4 _ e5;have e3:=c 3 _ e4;have e2:=c 2 _ e3;have e1:=c 1 _ e2;have e0:=c 0 _ e1;rw[lc0,lc1,lc2,lc3,lc4,lc5,lc6,lG] at e0;exact e0
noncomputable def QB (lt:List (List Nat)):Nat ->List Nat ->Nat ->List Nat ->List Nat:=
 Nat.rec (motive:=λ_=>List Nat ->Nat ->List Nat ->List Nat) (λ_ _ acc=>acc) λ_ ih todo bits acc=>
  List.rec (motive:=λ_=>List Nat) acc (λf todo _=>bif Nat.beq (Nat.land (Nat.shiftRight bits f) 1) 1 then ih todo bits acc else
   fN (Nat.lor bits (Nat.shiftLeft 1 f)) λb=>ih (Option.rec (motive:=λ_=>List Nat) todo (λl=>List.rec (motive:=λ_=>List Nat) todo (λx _ t=>x::t) l) (sw lt f)) b (f::acc)) todo
def bl2 {α:Type} (l m:List α):(List.rec (motive:=λ_=>List α) m (λx _ t=>x::t) l:List α)=l++m:=by
 induction l with
 |nil=>rfl
 |cons a l j=>show a::_=a::(l++m);rw[j]
def bl3 (b f:Nat):Nat.beq (Nat.land (Nat.shiftRight b f) 1) 1=b.testBit f:=by
 have h:Nat.land (Nat.shiftRight b f) 1=(b>>>f)%2:=Fu _;rw[h,Nat.testBit,Nat.and_comm,Fu];rcases Nat.mod_two_eq_zero_or_one (b>>>f) with e|e<;>rw[e]<;>rfl
def KM (P:Program) {lt:List (List Nat)} (h:P.funcs.toList.map P.leadsTo=lt):∀(n:Nat) (todo:List Nat) (bits:Nat) (j:List Nat),(∀f,j.contains f=bits.testBit f) ->P.closureVia n todo j=(QB lt n todo bits j).reverse
 |0,todo,bits,j,_=>by cases todo<;>rfl
 |n+1,[],bits,j,_=>rfl
 |n+1,f::todo,bits,j,hb=>by
  have e:QB lt (n+1) (f::todo) bits j=bif Nat.beq (Nat.land (Nat.shiftRight bits f) 1) 1 then QB lt n todo bits j else
   fN (Nat.lor bits (Nat.shiftLeft 1 f)) λb=>QB lt n (Option.rec (motive:=λ_=>List Nat) todo (λl=>List.rec (motive:=λ_=>List Nat) todo (λx _ t=>x::t) l) (sw lt f)) b (f::j):=rfl
  rw[e,bl3,Program.closureVia,hb f];cases A:bits.testBit f with
  |true=>rw[fC,aF rfl];exact KM P h n todo bits j hb
  |false=>
   rw[eU,aD (by simp),dT];have q:(Option.rec (motive:=λ_=>List Nat) todo (λl=>List.rec (motive:=λ_=>List Nat) todo (λx _ t=>x::t) l) (sw lt f):List Nat)=(P.funcs[f]?).elim [] P.leadsTo++todo:=by
    rw[DD,←h,oh,vI];rcases P.funcs[f]? with _|F;rfl;exact bl2 _ _
   rw[q];refine KM P h n _ _ (f::j) λg=> ?_;rw[List.contains_cons,hb g];show(g==f||bits.testBit g)=(bits|||1<<<f).testBit g;rw[FD,Nat.one_shiftLeft,Nat.testBit_two_pow,Bool.or_comm];congr 1;by_cases e:f=g;subst e;simp;simp[e];exact λh=>e h.symm
def bl4:1+(Fk.map λl=>l.length+1).sum=1994:=lR
def bl5 (P:Program) {lt:List (List Nat)} (h:P.funcs.toList.map P.leadsTo=lt) {n:Nat} (j:1+(lt.map λl=>l.length+1).sum=n):1+(P.funcs.toList.map λg=>(P.leadsTo g).length+1).sum=n:=by
 rw[←j,←h,Lu];rfl
def bl6:1+(Tryz.prog.funcs.toList.map λg=>(Tryz.prog.leadsTo g).length+1).sum=1994:=bl5 _ UL bl4
set_option maxRecDepth 100000 in
noncomputable def UM:List Nat:=ev (QB Fk 1994 [3] 0 []).reverse
def bl7:(QB Fk 1994 [3] 0 []).reverse=UM:=lR
def KN:Tryz.prog.closure 3=UM:=by
 unfold Program.closure;rw[bl6,KM Tryz.prog UL 1994 [3] 0 [] (λf=>by simp),bl7]
def bl8:Tryz.prog.inPlace 3=["internal/bytealg.IndexByteString", "internal/bytealg.IndexString", "internal/abi.NoEscape", "internal/bytealg.MakeNoZero"]:=by
 unfold Program.inPlace;rw[KN]
 kernel_rfl
def UN:Tryz.prog.unfollowed 3=true:=by
 unfold Program.unfollowed;rw[KN]
 kernel_rfl
def bl9:Tryz.prog.recurses 3=true:=by
 unfold Program.recurses;rw[UN];rfl
def bm0:Tryz.prog.varsNamed 3=["math/bits.deBruijn64tab", "internal/bytealg.MaxLen", "unicode/utf8.first", "unicode/utf8.acceptRanges", "internal/strconv.uint64pow10", "math/bits.deBruijn32tab"]:=by
 unfold Program.varsNamed;rw[KN]
 kernel_rfl
end AM
