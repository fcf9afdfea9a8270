import Derived.ChangeKeysEq
import Derived.Laws.Cover3
import Derived.Laws.Pointers
import Derived.MapKept
import Derived.WideMake
import Derived.Test.YtihgjngjidijaaaGreatDoorN0
set_option linter.all false
namespace AM
open Go
noncomputable section
section
variable {P:Program} {CR:Nat ->Code ->aw ->Prop}
variable {c:CE} {h:AH} {w:World} {ev:MA ->AV} {ρ:Operand ->Value} {o:Oper} {t:TypeId} {i:TI}
def xR (X:Cx CR c h w ev ρ) {a:MA} {x:Operand} (ha:ax a x=true) {n:Nat} (hn:nA ev a=some n) {y:Nat} (hy:n<=y) (code:BoundsCode):(Instr.sliceBound (ρ x) y code).run P w= .ok n w:=by
 obtain⟨k,hk⟩:=th X ha hn;rw[hk];simp[Instr.sliceBound,asIntOf,hy]
def vX {a:Option MA} {x:Option Operand} (h:gK a x=true):(a=none/\ x=none)∨∃a' x',a=some a'/\ x=some x'/\ ax a' x'=true:=by
 cases a<;>cases x<;>first|exact .inl ⟨rfl,rfl⟩|exact .inr ⟨_,_,rfl,rfl,h⟩|cases h
def vY (X:Cx CR c h w ev ρ) (isS:Bool) {ln cap cap':Nat} {lo hi mx:Option MA} {lo' hi' mx':Option Operand} (h1:gK lo lo'=true) (h2:gK hi hi'=true) (h3:gK mx mx'=true) (hmx:mx=none∨hi≠none)
 {l r m:Nat} (hb:d7 ln cap (nO ev lo) (nO ev hi) (nO ev mx)=some (l,r,m)) (hcap:cap<=cap'):
 (Instr.sliceBounds isS ln cap' (lo'.map ρ) (hi'.map ρ) (mx'.map ρ)).run P w= .ok (l,r,if mx.isNone then cap' else m) w/\ l<=r/\ r<=m/\ m<=cap/\ (mx=none ->m=cap):=by
 unfold d7 at hb;split at hb
 ·rename_i m' h' l' e1 e2 e3;rw[fv] at hb;split at hb
  ·rename_i hc;simp only[aB,dm,aU] at hc;cases hb;rcases vX h3 with ⟨rfl,rfl⟩|⟨am,xm,rfl,rfl,okm⟩
   ·simp only[nO] at e1;cases e1;refine⟨?_,hc.2,hc.1.2,hc.1.1,λ_=>rfl⟩;rcases vX h2 with ⟨rfl,rfl⟩|⟨ah,xh,rfl,rfl,okh⟩
    ·simp only[nO] at e2;cases e2;rcases vX h1 with ⟨rfl,rfl⟩|⟨al,xl,rfl,rfl,okl⟩
     ·simp only[nO] at e3;cases e3;simp[Instr.sliceBounds]
     ·simp only[nO] at e3;have:=xR (P:=P) X okl e3 hc.2;simp[Instr.sliceBounds,this]
    ·simp only[nO] at e2;have hh:=λcd=>xR (P:=P) X okh e2 (y:=cap') ω cd;rcases vX h1 with ⟨rfl,rfl⟩|⟨al,xl,rfl,rfl,okl⟩
     ·simp only[nO] at e3;cases e3;simp[Instr.sliceBounds,hh]
     ·simp only[nO] at e3;have:=xR (P:=P) X okl e3 hc.2;simp[Instr.sliceBounds,hh,this]
   ·simp only[nO] at e1;have hmm:=λcd=>xR (P:=P) X okm e1 (y:=cap') ω cd;refine⟨?_,hc.2,hc.1.2,hc.1.1,λk=>by cases k⟩;rcases vX h2 with ⟨rfl,rfl⟩|⟨ah,xh,rfl,rfl,okh⟩
    ·rcases hmx with k|k
     ·cases k
     ·exact bh rfl k
    ·simp only[nO] at e2;have hh:=λcd=>xR (P:=P) X okh e2 (y:=m) ω cd;rcases vX h1 with ⟨rfl,rfl⟩|⟨al,xl,rfl,rfl,okl⟩
     ·simp only[nO] at e3;cases e3;simp[Instr.sliceBounds,hh,hmm]
     ·simp only[nO] at e3;have:=λcd=>xR (P:=P) X okl e3 (y:=r) hc.2 cd;simp[Instr.sliceBounds,hh,hmm,this]
  ·cases hb
 ·cases hb
def Yz {e:TypeId} (bM:gT P e i) (X:Cx CR c h w ev ρ) (ht:P.underlying t=some (.slice e)) {a:MA} {lo hi mx:Option MA} {x:Operand} {lo' hi' mx':Option Operand}
 (ho:o.op= .slice t x lo' hi' mx') (ha:ax a x=true) (h1:gK lo lo'=true) (h2:gK hi hi'=true) (h3:gK mx mx'=true) (hmx:mx=none∨hi≠none) {es:Nat} (hes:es=i.size):
 bD P CR c h w (step ev h (.slc es a lo hi mx)) ((execOp ρ o).run P w):=by
 show bD P CR c h w (match ev a with
  | .sl o off n cap esz=>bif !(Nat.beq esz es) then .bad else match cap with
   |some c=>match d7 n c (nO ev lo) (nO ev hi) (nO ev mx) with
    |some (l,r,m)=>fN (off+l*esz) λoff=>fN (r-l) λn=>fN (m-l) λc=> .v (.sl o off n (some c) esz) h
    |none=> .bad
   |none=>match (generalizing:=false) mx with
    |none=>match d7 n n (nO ev lo) (nO ev hi) none with
     |some (l,r,_)=>fN (off+l*esz) λoff=>fN (r-l) λn=> .v (.sl o off n none esz) h
     |none=> .bad
    |some mx=>match d7 n n (nO ev lo) (nO ev hi) (nO ev (some mx)) with
     |some (l,r,m)=>fN (off+l*esz) λoff=>fN (r-l) λn=>fN (m-l) λc=> .v (.sl o off n (some c) esz) h
     |none=> .bad
  | .ds c off n esz=>bif !(Nat.beq esz es) then .bad else match (generalizing:=false) mx with
   |none=>match d7 n n (nO ev lo) (nO ev hi) none with
    |some (l,r,_)=>fN (off+l*esz) λoff=>fN (r-l) λn=> .v (.ds c off n esz) h
    |none=> .bad
   |some _=> .bad
  | .sn=>match d7 0 0 (nO ev lo) (nO ev hi) (nO ev mx) with|some _=> .v .sn h|none=> .bad
  |_=> .bad) _
 have hv:=X.hE _ _ ha;obtain⟨inf,zv,i1,i2,_⟩:=bM.info;have key:∀(A:Option Addr) (n cap l r m:Nat),ρ x= .slice A n cap ->(Instr.sliceBounds true n cap (lo'.map ρ) (hi'.map ρ) (mx'.map ρ)).run P w= .ok (l,r,m) w ->
  (execOp ρ o).run P w= .ok (.value (.slice (if m=l then A else A.map (·.add (l*es))) (r-l) (m-l))) w:=by
  intro A n cap l r m hr hbd;simp only[execOp,ho];refine fS ?_;rw[hr];simp[Instr.sliceAt,Instr.slice,dL ht,hbd,Go.sizeOf,typeInfo,i1,i2,hes]
 cases hx:ev a with
 |sl o' off n cap esz=>
  rw[hx] at hv;generalize hr:ρ x=vx at hv;cases hv with
  |sl _ _ _ _ _ A cp q1 q2 q3 q4 q5=>
   dsimp only;cases hc:(!(Nat.beq esz es)) with
   |true=>trivial
   |false=>
    have hc':esz=es:=by rw[bu] at hc;simpa using hc
    subst hc';simp only[eU];have addr:∀l m,l<=m ->m<=cp ->(if m=l then some A else (some A).map (·.add (l*esz)))=some (if m=l then A else A.add (l*esz)):=by
     intro l m _ _;split<;>rfl
    cases cap with
    |some k=>
     have hk:=q2 k rfl;subst hk;dsimp only;cases hb:d7 n cp (nO ev lo) (nO ev hi) (nO ev mx) with
     |none=>trivial
     |some lrm=>
      obtain⟨l,r,m⟩:=lrm;obtain⟨b1,b2,b3,b4,b5⟩:=vY (P:=P) X true h1 h2 h3 hmx hb (bB _);simp only[dT];have hm:(if mx.isNone then cp else m)=m:=by
       cases mx with
       |none=>simp[b5 rfl]
       |some _=>rfl
      rw[hm] at b1;rw[key _ _ _ l r m hr b1,addr l m ω b4];refine cV.same X.rs (.sl _ _ _ _ _ _ _ q1 (λk hk=>by cases hk;rfl) ω ?_ ?_)
      ·intro dc;rw[aD ω,q4 ω];simp[CE.addr,nE,pK]
      ·have:l*esz+(m-l)*esz=m*esz:=by rw[←nq];congr 1;omega
       have h6:m*esz<=cp*esz:=ni _ b4;omega
    |none=>
     dsimp only;cases mx with
     |some mz=>
      dsimp only;cases hb:d7 n n (nO ev lo) (nO ev hi) (nO ev (some mz)) with
      |none=>trivial
      |some lrm=>
       obtain⟨l,r,m⟩:=lrm;obtain⟨b1,b2,b3,b4,b5⟩:=vY (P:=P) X true h1 h2 h3 hmx hb q3;simp only[dT];have hm:(if (some mz).isNone then cp else m)=m:=rfl;rw[hm] at b1;rw[key _ _ _ l r m hr b1,addr l m ω ω];refine cV.same X.rs (.sl _ _ _ _ _ _ _ q1 (λk hk=>by cases hk;rfl) ω ?_ ?_)
       ·intro dc;rw[aD ω,q4 ω];simp[CE.addr,nE,pK]
       ·have:l*esz+(m-l)*esz=m*esz:=by rw[←nq];congr 1;omega
        have h6:m*esz<=cp*esz:=ni _ ω;omega
     |none=>
      dsimp only;cases hb:d7 n n (nO ev lo) (nO ev hi) none with
      |none=>trivial
      |some lrm=>
       obtain⟨l,r,m⟩:=lrm;obtain⟨b1,b2,b3,b4,b5⟩:=vY (P:=P) (mx:=none) (mx':=mx') X true h1 h2 h3 (.inl rfl) hb q3;simp only[dT];simp only[Fw,dZ] at b1;rw[key _ _ _ l r cp hr b1,addr l cp ω (bB _)];refine cV.same X.rs (.sl _ _ _ _ _ _ _ q1 (λk hk=>by cases hk) ω ?_ ?_)
       ·intro dc;rw[aD ω,q4 ω];simp[CE.addr,nE,pK]
       ·have:l*esz+(cp-l)*esz=cp*esz:=by rw[←nq];congr 1;omega
        omega
 |ds l0 off n esz=>
  rw[hx] at hv;generalize hr:ρ x=vx at hv;cases hv with
  |ds _ _ _ _ b1 b2 cp A row vs q1 q2 q3 q4 q5=>
   dsimp only;cases hc:(!(Nat.beq esz es)) with
   |true=>trivial
   |false=>
    have hc':esz=es:=by rw[bu] at hc;simpa using hc
    subst hc';simp only[eU];cases mx with
    |some _=>trivial
    |none=>
     dsimp only;cases hb:d7 n n (nO ev lo) (nO ev hi) none with
     |none=>trivial
     |some lrm=>
      obtain⟨l,r,m⟩:=lrm;obtain⟨c1,c2,c3,c4,c5⟩:=vY (P:=P) (mx:=none) (mx':=mx') X true h1 h2 h3 (.inl rfl) hb q4;simp only[dT];simp only[Fw,dZ] at c1;rw[key _ _ _ l r cp hr c1];have e:(if cp=l then some A else (some A).map (·.add (l*esz)))=some (if cp=l then A else A.add (l*esz)):=by split<;>rfl
      rw[e];refine cV.same X.rs (.ds _ _ _ _ b1 b2 _ _ row vs q1 q2 q3 ω ?_);intro dc;rw[aD ω,q5 ω];simp[nE,pK]
 |sn=>
  rw[hx] at hv;generalize hr:ρ x=vx at hv;cases hv;dsimp only;cases hb:d7 0 0 (nO ev lo) (nO ev hi) (nO ev mx) with
  |none=>trivial
  |some lrm=>
   obtain⟨l,r,m⟩:=lrm;obtain⟨c1,c2,c3,c4,c5⟩:=vY (P:=P) X true h1 h2 h3 hmx hb (bB _);dsimp only;have:m=0:=by omega
   subst this;have hm:(if mx.isNone then 0 else 0)=0:=by split<;>rfl
   rw[hm] at c1;rw[key _ _ _ l r 0 hr c1];have hl:l=0:=by omega
   have hrr:r=0:=by omega
   subst hl hrr;exact cV.same X.rs .sn
 |_=>trivial
def YA (X:Cx CR c h w ev ρ) (ht:P.underlying t=some .string) {a:MA} {lo hi:Option MA} {x:Operand} {lo' hi':Option Operand}
 (ho:o.op= .slice t x lo' hi' none) (ha:ax a x=true) (h1:gK lo lo'=true) (h2:gK hi hi'=true):
 bD P CR c h w (step ev h (.slcs a lo hi)) ((execOp ρ o).run P w):=by
 show bD P CR c h w (match ev a with
  | .s s=>match d7 (len s) (len s) (nO ev lo) (nO ev hi) none with
   |some (l,r,_)=>match sub s l (r-l) with|some t=> .v (.s t) h|none=> .bad
   |none=> .bad
  |_=> .bad) _
 have hv:=X.hE _ _ ha;cases hx:ev a with
 |s l0=>
  rw[hx] at hv;obtain⟨bs,hr,hbs⟩:=hv.str_inv;dsimp only;rw[kZ];cases hb:d7 l0.length l0.length (nO ev lo) (nO ev hi) none with
  |none=>trivial
  |some lrm=>
   obtain⟨l,r,m⟩:=lrm;obtain⟨c1,c2,c3,c4,c5⟩:=vY (P:=P) (mx:=none) (mx':=none) X false h1 h2 rfl (.inl rfl) hb (bB _);dsimp only;cases hs:sub l0 l (r-l) with
   |none=>trivial
   |some tt=>
    obtain⟨_,rfl⟩:=lM hs;have hsz:bs.size=l0.length:=by rw[←hbs,kU];rfl
    simp only[Fw,dZ,Option.map_none] at c1;have e:(execOp ρ o).run P w= .ok (.value (.string (bs.extract l r))) w:=by
     simp only[execOp,ho];refine fS ?_;rw[hr];rw[←hsz] at c1;simp[Instr.sliceAt,Instr.slice,dL ht,c1]
    rw[e];refine cV.same X.rs (.s _ _ ?_);rw[ByteArray.data_extract,Array.toList_extract,List.extract_eq_take_drop,List.map_take,List.map_drop,hbs]
 |_=>trivial
def YB {e:TypeId} (bM:gT P e i) (X:Cx CR c h w ev ρ) {n:Nat} (ht:P.underlying t=some (.array n e)) {a:MA} {lo hi mx:Option MA} {x:Operand} {lo' hi' mx':Option Operand}
 (ho:o.op= .slice t x lo' hi' mx') (ha:ax a x=true) (h1:gK lo lo'=true) (h2:gK hi hi'=true) (h3:gK mx mx'=true) (hmx:mx=none∨hi≠none) {es:Nat} (hes:es=i.size):
 bD P CR c h w (step ev h (.slca n es a lo hi mx)) ((execOp ρ o).run P w):=by
 show bD P CR c h w (match d7 n n (nO ev lo) (nO ev hi) (nO ev mx) with
  |some (l,r,m)=>match ev a with
   | .p o off=>match h.cells o with
    |some cs=>match sub cs off (n*es) with
     |some _=>fN (off+l*es) λoff=>fN (r-l) λn=>fN (m-l) λc=> .v (.sl o off n (some c) es) h
     |none=> .bad
    |none=> .bad
   | .dp c off=>fN (off+l*es) λoff=>fN (r-l) λn=> .v (.ds c off n es) h
   |_=> .bad
  |none=> .bad) _
 have hv:=X.hE _ _ ha;obtain⟨inf,zv,i1,i2,_⟩:=bM.info;cases hb:d7 n n (nO ev lo) (nO ev hi) (nO ev mx) with
 |none=>trivial
 |some lrm=>
  obtain⟨l,r,m⟩:=lrm;obtain⟨b1,b2,b3,b4,b5⟩:=vY (P:=P) X false h1 h2 h3 hmx hb (bB _);have hm:(if mx.isNone then n else m)=m:=by
   cases mx with
   |none=>simp[b5 rfl]
   |some _=>rfl
  rw[hm] at b1;have key:∀(bl k0:Nat),ρ x= .pointer (some ⟨bl,k0,none⟩) ->
   (execOp ρ o).run P w= .ok (.value (.slice (some (if m=l then ⟨bl,k0,none⟩ else ⟨bl,k0+l*es,none⟩)) (r-l) (m-l))) w:=by
   intro bl k0 hr;simp only[execOp,ho];refine fS ?_;rw[hr];simp[Instr.sliceAt,Instr.sureAddr,dL ht,b1,Go.sizeOf,typeInfo,i1,i2,hes,nE]
  dsimp only;cases hx:ev a with
  |p o' off=>
   rw[hx] at hv;generalize hr:ρ x=vx at hv;cases hv with
   |p _ _ q1=>
    dsimp only;cases hcs:h.cells o' with
    |none=>trivial
    |some cs=>
     dsimp only;cases hsb:sub cs off (n*es) with
     |none=>trivial
     |some _=>
      obtain⟨g1,_⟩:=lM hsb;obtain⟨ob,hg,hlv,hob⟩:=zQ (CR:=CR) hcs;obtain⟨row,t',lo'',hi'',vs,k1,k2,k3,k4,k5,k6⟩:=hob c w (X.rs.obj o' _ ⟨hg,hlv,q1⟩);have k7:=k4.length;simp only[dT];rw[key _ _ hr];refine cV.same X.rs (.sl _ _ _ _ _ _ _ q1 (λk hk=>by cases hk;rfl) ω ?_ ?_)
      ·intro dc;rw[aD ω];simp[CE.addr,pK]
      ·have:l*es+(m-l)*es=m*es:=by rw[←nq];congr 1;omega
       have h6:m*es<=n*es:=ni _ b4;omega
  |dp l0 off=>
   rw[hx] at hv;generalize hr:ρ x=vx at hv;cases hv with
   |dp _ _ b1 b2 row vs q1 q2 q3=>
    simp only[dT];rw[key _ _ hr];refine cV.same X.rs (.ds _ _ _ _ b1 b2 _ _ row vs q1 q2 q3 ω ?_);intro dc;rw[aD ω];simp[pK]
  |_=>trivial
def YC (X:Cx CR c h w ev ρ) {ts:Array TypeId} (hts:ts[0]? =some t) (ht:P.underlying t=some .string) {a:MA} {x:Operand} (ho:o.op= .call { callee:= .builtin .len,args:=#[x],argTypes:=ts }) (ha:ax a x=true):
 bD P CR c h w (step ev h (.len .str a)) ((execOp ρ o).run P w):=by
 show bD P CR c h w (match ev a with| .s l=>fN (len l) λn=> .v (ι (.ofNat n)) h|_=> .bad) _;have hv:=X.hE _ _ ha;cases hx:ev a with
 |s l=>
  rw[hx] at hv;obtain⟨bs,hr,hbs⟩:=hv.str_inv;simp only[dT,kZ];have hsz:bs.size=l.length:=by rw[←hbs,kU];rfl
  have e:(execOp ρ o).run P w= .ok (.value (.int .i64 (l.length:Int))) w:=by
   simp only[execOp,ho];simp[resolve,invoke,builtin,Builtin.len_,hts,dL ht,hr,goInt,hsz]
  rw[e];exact cV.same X.rs (.i _ _)
 |_=>trivial
def LN (X:Cx CR c h w ev ρ) {ts:Array TypeId} (hts:ts[0]? =some t) {n:Nat} (ht:(∃e,P.underlying t=some (.array n e))∨∃p e,P.underlying t=some (.pointer p)/\ P.underlying p=some (.array n e)) {a:MA} {x:Operand}
 (ho:o.op= .call { callee:= .builtin .len,args:=#[x],argTypes:=ts }):bD P CR c h w (step ev h (.len (.arr n) a)) ((execOp ρ o).run P w):=by
 show bD P CR c h w (.v (ι (.ofNat n)) h) _;have e:(execOp ρ o).run P w= .ok (.value (.int .i64 (n:Int))) w:=by
  simp only[execOp,ho];rcases ht with ⟨e,ht⟩|⟨p,e,ht,hp⟩
  ·simp[resolve,invoke,builtin,Builtin.len_,hts,dL ht,goInt]
  ·simp[resolve,invoke,builtin,Builtin.len_,hts,dL ht,dL hp,goInt]
 rw[e];exact cV.same X.rs (.i _ _)
def YD (X:Cx CR c h w ev ρ) {ts:Array TypeId} (hts:ts[0]? =some t) {e:TypeId} (ht:P.underlying t=some (.slice e)) {a:MA} {x:Operand} (ho:o.op= .call { callee:= .builtin .len,args:=#[x],argTypes:=ts }) (ha:ax a x=true):
 bD P CR c h w (step ev h (.len .slice a)) ((execOp ρ o).run P w):=by
 show bD P CR c h w (match ev a with
  | .s _=> .bad
  |y=>match ij y with|some n=> .v (ι (.ofNat n)) h|none=> .bad) _
 have hv:=X.hE _ _ ha;have key:∀A n cp,ρ x= .slice A n cp ->(execOp ρ o).run P w= .ok (.value (.int .i64 (n:Int))) w:=by
  intro A n cp hr;simp only[execOp,ho];simp[resolve,invoke,builtin,Builtin.len_,hts,dL ht,hr,goInt]
 cases hx:ev a with
 |sl o' off n cap esz=>
  rw[hx] at hv;generalize hr:ρ x=vx at hv;cases hv;rw[key _ _ _ hr];exact cV.same X.rs (.i _ _)
 |ds l off n esz=>
  rw[hx] at hv;generalize hr:ρ x=vx at hv;cases hv;rw[key _ _ _ hr];exact cV.same X.rs (.i _ _)
 |sn=>
  rw[hx] at hv;generalize hr:ρ x=vx at hv;cases hv;rw[key _ _ _ hr];exact cV.same X.rs (.i _ _)
 |_=>trivial
def YE (X:Cx CR c h w ev ρ) {ts:Array TypeId} (hts:ts[0]? =some t) {e:TypeId} (ht:P.underlying t=some (.slice e)) {a:MA} {x:Operand} (ho:o.op= .call { callee:= .builtin .cap,args:=#[x],argTypes:=ts }) (ha:ax a x=true):
 bD P CR c h w (step ev h (.cap a)) ((execOp ρ o).run P w):=by
 show bD P CR c h w (match ev a with
  | .sn=> .v (ι (.ofNat 0)) h
  | .sl _ _ _ (some c) _=> .v (ι (.ofNat c)) h
  |_=> .bad) _
 have hv:=X.hE _ _ ha;have key:∀A n cp,ρ x= .slice A n cp ->(execOp ρ o).run P w= .ok (.value (.int .i64 (cp:Int))) w:=by
  intro A n cp hr;simp only[execOp,ho];simp[resolve,invoke,builtin,Builtin.cap_,hts,dL ht,hr,goInt]
 cases hx:ev a with
 |sl o' off n cap esz=>
  cases cap with
  |none=>trivial
  |some k=>
   rw[hx] at hv;generalize hr:ρ x=vx at hv;cases hv with
   |sl _ _ _ _ _ A cp q1 q2 q3 q4 q5=>
    have:=q2 k rfl;subst this;rw[key _ _ _ hr];exact cV.same X.rs (.i _ _)
 |sn=>
  rw[hx] at hv;generalize hr:ρ x=vx at hv;cases hv;rw[key _ _ _ hr];exact cV.same X.rs (.i _ _)
 |_=>trivial
def ur (X:Cx CR c h w ev ρ):∀{l:List MA} {xs:List Operand},jo l xs=true ->∀{r:List AV},eE ev l=some r ->bX c r (xs.map ρ)
 |[],[],_,r,hr=>by cases hr;exact .nil
 |[],_::_,aC,_,_=>by cases aC
 |_::_,[],aC,_,_=>by cases aC
 |a::l,x::xs,aC,r,hr=>by
  have h':(ax a x&&jo l xs)=true:=aC;simp only[aB] at h';unfold eE at hr;rw[lJ] at hr;simp only[jK] at hr;cases ht:eM (λa=>fV (ev a) some) l with
  |none=>simp only[jK] at ht;rw[ht] at hr;cases hr
  |some t=>
   have ht':=ht;simp only[jK] at ht;rw[ht] at hr;cases hr;exact .cons _ _ _ _ (X.hE _ _ h'.1) (ur X h'.2 ht')
def YF (X:Cx CR c h w ev ρ) {fn:Nat} {a b:List MA} {x y:Array Operand} (ho:o.op= .makeFunc (.func fn) x y) (ha:jo a x.toList=true) (hb:jo b y.toList=true):
 bD P CR c h w (step ev h (.mfn fn a b)) ((execOp ρ o).run P w):=by
 show bD P CR c h w (match eE ev a,eE ev b with|some a,some b=> .v (.f fn a b) h|_,_=> .bad) _;cases h1:eE ev a with
 |none=>trivial
 |some l1=>
  cases h2:eE ev b with
  |none=>trivial
  |some l2=>
   have e:(execOp ρ o).run P w= .ok (.value (.func (.func fn) (x.map ρ) (y.map ρ))) w:=by
    simp only[execOp,ho];exact fS rfl
   rw[e];have:=VR.f fn l1 l2 _ _ (ur X ha h1) (ur X hb h2);refine cV.same X.rs ?_;have e1:∀z:Array Operand,z.map ρ=(z.toList.map ρ).toArray:=λz=>by apply jW;simp
   rw[e1 x,e1 y];exact this
def CL {ρ:Operand ->Value} (z:Array Operand):z.map ρ=(z.toList.map ρ).toArray:=by apply jW;simp
def YG (X:Cx CR c h w ev ρ) {f:Nat} {args:List MA} {cl:Call} (hf:cl.callee= .value (.func f)) (hρ:ρ (.func f)= .func (.func f) #[] #[]) (ho:o.op= .call cl) (ha:jo args cl.args.toList=true):
 bD P CR c h w (step ev h (.call f args)) ((execOp ρ o).run P w):=by
 show bD P CR c h w (match eE ev args with|some l=> .call f l h|none=> .bad) _;cases h1:eE ev args with
 |none=>trivial
 |some l=>
  refine⟨rfl,_,ur X ha h1,?_⟩;simp only[execOp,ho,resolve,hf,hρ,CL];simp[Deferred.ofValue,invoke]
def YH (X:Cx CR c h w ev ρ) {f:MA} {g:Operand} {args:List MA} {cl:Call} (hf:cl.callee= .value g) (hg:ax f g=true) (ho:o.op= .call cl) (ha:jo args cl.args.toList=true):
 bD P CR c h w (step ev h (.callv f args)) ((execOp ρ o).run P w):=by
 show bD P CR c h w (match eE ev args with
  |some l=>match ev f with
   | .f g fi ca=>match fy l ca with
    |some l=>match fy fi l with|some l=> .call g l h|none=> .bad
    |none=> .bad
   | .y o=> .yld o l h
   |_=> .bad
  |none=> .bad) _
 have hv:=X.hE _ _ hg;cases h1:eE ev args with
 |none=>trivial
 |some l=>
  have hl:=ur X ha h1;dsimp only;cases hx:ev f with
  |f gg fi ca=>
   rw[hx] at hv;generalize hr:ρ g=vx at hv;cases hv with
   |f _ _ _ vi va q1 q2=>
    simp only[jz];refine⟨rfl,vi++(cl.args.toList.map ρ++va),q1.append (hl.append q2),?_⟩;simp only[execOp,ho,resolve,hf,hr,CL];simp[Deferred.ofValue,invoke]
  |y l'=>
   rw[hx] at hv;generalize hr:ρ g=vx at hv;cases hv with
   |y _ q=>
    dsimp only;refine⟨rfl,q,_,hl,?_⟩;simp only[execOp,ho,resolve,hf,hr,CL];simp[Deferred.ofValue,invoke]
  |_=>trivial
def LO {α:Type} (vs:List α):∀(n i:Nat),i<n*vs.length ->(List.replicate n vs).flatten[i]? =vs[i%vs.length]?
 |0,i,h=>by simp at h
 |n+1,i,h=>by
  rw[uc,vD];by_cases hi:i<vs.length
  ·rw[pL hi,Cb hi]
  ·have h2:i-vs.length<n*vs.length:=by rw[vE] at h;omega
   rw[rK ω,LO vs n _ h2];congr 1;exact(Nat.mod_eq_sub_mod ω).symm
def Gb (vs:List Value) (n:Nat):madeCells vs.toArray (n*vs.length)=(List.replicate n vs).flatten.toArray:=by
 have hl:(List.replicate n vs).flatten.length=n*vs.length:=by simp[xA]
 apply Array.ext
 ·rw[size_madeCells];simp[hl]
 ·intro i h1 h2;rw[size_madeCells] at h1;have hpos:0<vs.length:=by
   rcases vF vs.length with e|e
   ·rw[e] at h1;simp at h1
   ·exact e
  have hm:i%vs.length<vs.length:=jv _ hpos;have:=LO vs n i h1;rw[cE ω,cE hm] at this;simp only[jI] at this;simp only[madeCells,Array.getElem_map,Array.getElem_range,List.getElem_toArray,zy];rw[this];simp[hm]
def VR.newSl {c':CE} {id b n:Nat} (hd:c'.dM id) (hρ:c'.ρ id=(b,0)) (hsz:c'.sz id=n) (l k esz:Nat) (cap:Option Nat) (hl:l<=k) (hc:∀m,cap=some m ->k=m) (hz:k*esz<=n):
 VR c' (.sl id 0 l cap esz) (.slice (some ⟨b,0,none⟩) l k):=by
 refine .sl _ _ _ _ _ _ _ hd hc hl (λ_=> ?_) ?_
 ·unfold CE.addr;rw[hρ]
 ·rw[hρ,hsz];simpa using hz
def tj {r:Nat} {es:Array MapEntry} {cl:Nat} (hb:w.heap[r]? =some (.map es cl)):(getObj r).run P w= .ok (.map es cl) w:=by simp[getObj,Sem.run,hb]
def LP {r:Nat} {s:ByteArray} {pos:Nat} (hb:w.heap[r]? =some (.stringIter s pos)):(getObj r).run P w= .ok (.stringIter s pos) w:=by simp[getObj,Sem.run,hb]
def LQ {r:Nat} {m:Option Nat} {a:Nat} {b:Array Nat} {d:Nat} (hb:w.heap[r]? =some (.mapIter m a b d)):(getObj r).run P w= .ok (.mapIter m a b d) w:=by simp[getObj,Sem.run,hb]
def zW {r:Nat} {es:Array MapEntry} {cl:Nat} (ob:Obj) (hb:w.heap[r]? =some (.map es cl)):(setObj r ob).run P w= .ok () { w with heap:=w.heap.setIfInBounds r ob }:=by simp[setObj,Sem.run,hb]
def YI {r:Nat} {s:ByteArray} {pos:Nat} (ob:Obj) (hb:w.heap[r]? =some (.stringIter s pos)):(setObj r ob).run P w= .ok () { w with heap:=w.heap.setIfInBounds r ob }:=by simp[setObj,Sem.run,hb]
def YJ {r:Nat} {m:Option Nat} {a:Nat} {b:Array Nat} {d:Nat} (ob:Obj) (hb:w.heap[r]? =some (.mapIter m a b d)):(setObj r ob).run P w= .ok () { w with heap:=w.heap.setIfInBounds r ob }:=by simp[setObj,Sem.run,hb]
def xS (ev:MA ->AV):Option MA ->Bool
 |none=>true
 |some a=>match ev a with| .i _ _=>true|_=>false
def CM (X:Cx CR c h w ev ρ) {m:Option MA} {r:Option Operand} (ha:gK m r=true) (ht:m=none∨∃a b,P.underlying t=some (.map a b)) (ho:o.op= .makeMap t r) (hq:xS ev m=true):
 nJ CR c w (λver=> .map ver [] 0) (λo=> .m o) ((execOp ρ o).run P w):=by
 have fin:(execOp ρ o).run P w= .ok (.value (.map (some w.heap.size))) { w with heap:=w.heap.push (.map #[] 0) } ->
  nJ CR c w (λver=> .map ver [] 0) (λo=> .m o) ((execOp ρ o).run P w):=by
  intro e;rw[e];refine⟨_,_,_,0,rfl,⟨rfl,rfl,rfl⟩,λc' w'' id ver hx hd hρ hz hb=>⟨⟨#[],by rw[hρ];exact hb,trivial,.nil,λe he=>by cases he⟩,?_⟩⟩;have e2:VR c' (.m id) (.map (some (c'.ρ id).1)):= .m _ hd;rw[hρ] at e2;exact e2
 rcases vX ha with ⟨rfl,rfl⟩|⟨a,x,rfl,rfl,hx⟩
 ·apply fin;simp only[execOp,ho];exact fS (run_makeMap_plain (P:=P) w t)
 ·have hv:=X.hE _ _ hx;obtain⟨k1,k2,ht⟩:=ht.resolve_left (by simp);cases he:ev a with
  |i k n=>
   rw[he] at hv;have hr:=hv.int_inv;apply fin;simp only[execOp,ho];refine fS ?_;simp[Instr.makeMap,dL ht,hr,asInt,asIntOf]
  |_=>simp[xS,he] at hq
def YK (X:Cx CR c h w ev ρ) {m:Option MA} {r:Option Operand} (ha:gK m r=true) (ht:m=none∨∃a b,P.underlying t=some (.map a b)) (ho:o.op= .makeMap t r):
 bD P CR c h w (step ev h (.mmap m)) ((execOp ρ o).run P w):=by
 cases m with
 |none=>exact(CM X ha ht ho rfl).good X.rs
 |some a=>
  show bD P CR c h w (match ev a with| .i _ _=>h.new (.map h.ver [] 0) λo h=> .v (.m o) h|_=> .bad) _;cases he:ev a with
  |i k n=>exact(CM X ha ht ho (by simp[xS,he])).good X.rs
  |_=>trivial
def LR {e:TypeId} (bM:gT P e i) (X:Cx CR c h w ev ρ) (ht:P.underlying t=some (.slice e)) {a b:MA} {x y:Operand} (ho:o.op= .makeSlice t x y) (ha:ax a x=true) (hb:ax b y=true)
 {z:List AV} {es:Nat} (hz:z=i.zs) (hes:es=i.size) (hl:z.length=es) (hbs:i.bytes<=1048576) {l k:Nat} (h1:nA ev a=some l) (h2:nA ev b=some k) (hc:l<=k/\ k<=1048576):
 nJ CR c w (λver=> .cells ver (List.replicate k z).flatten) (λo=> .sl o 0 l (some k) es) ((execOp ρ o).run P w):=by
 subst hz;obtain⟨q,hq⟩:=th X ha h1;obtain⟨q',hq'⟩:=th X hb h2;obtain⟨inf,zv,vs,i1,i2,i3,i4,i5,i6,_⟩:=bM.zero c;have hvl:vs.length=es:=by rw[i6.length];exact hl
 have hbb:(inf.bytes:Int)*(k:Int)<=281474976710656:=by
  have:inf.bytes*k<=1048576*1048576:=zA ω hc.2;have h':((inf.bytes*k:Nat):Int)<=281474976710656:=by omega
  rwa [Int.natCast_mul] at h'
 have e:(execOp ρ o).run P w= .ok (.value (.slice (some ⟨w.heap.size,0,none⟩) l k)) { w with heap:=w.heap.push (.cells (List.replicate k vs).flatten.toArray e) }:=by
  simp only[execOp,ho];refine fS ?_;rw[hq,hq'];have:=run_make (P:=P) w t e inf zv ht i1 i4 q q' (l:Int) (k:Int) ω ω hbb ω;simp only[Int.toNat_natCast,i5] at this;rw[show inf.size=vs.length by omega,Gb] at this;exact this
 rw[e];have eQ:(List.replicate k vs).flatten.length=k*es:=by simp[xA,hvl]
 exact CH (i6.replicate k) _ rfl _ _ λc' id hd hρ hsz=>VR.newSl hd hρ hsz _ _ _ _ hc.1 (λm hm=>gC hm) ω
def YL {e:TypeId} (bM:gT P e i) (X:Cx CR c h w ev ρ) (ht:P.underlying t=some (.slice e)) {a b:MA} {x y:Operand} (ho:o.op= .makeSlice t x y) (ha:ax a x=true) (hb:ax b y=true)
 {z:List AV} {es bs:Nat} (hz:z=i.zs) (hes:es=i.size) (hl:z.length=es) (hbs:i.bytes<=1048576):
 bD P CR c h w (step ev h (.mslice z es bs a b)) ((execOp ρ o).run P w):=by
 show bD P CR c h w (match nA ev a,nA ev b with
  |some l,some c=>bif Nat.ble l c&&Nat.ble c 1048576 then (match rN z c with
   |some r=>h.new (.cells h.ver r) λo h=> .v (.sl o 0 l (some c) es) h
   |none=> .bad) else .bad
  |_,_=> .bad) _
 cases h1:nA ev a with
 |none=>trivial
 |some l=>
  cases h2:nA ev b with
  |none=>trivial
  |some k=>
   dsimp only;rw[fv];split
   ·rename_i hc;simp only[aB,dm,aU] at hc;simp only[zP];exact(LR bM X ht ho ha hb hz hes hl hbs h1 h2 hc).good X.rs
   ·trivial
def YM (X:Cx CR c h w ev ρ) {a:MA} {x:Operand} {str:Bool} (ho:o.op= .range t x) (ha:ax a x=true) (ht:(str=true/\ P.underlying t=some .string)∨(str=false/\∃k e,P.underlying t=some (.map k e))):
 bD P CR c h w (step ev h (.rng a str)) ((execOp ρ o).run P w):=by
 show bD P CR c h w (match ev a with
  | .s l=>bif str then h.new (.sit l 0) λo h=> .v (.p o 0) h else .bad
  | .mn=>bif str then .bad else h.new (.mit none 0 [] 0) λo h=> .v (.p o 0) h
  | .m o=>bif str then .bad else match h.get o with
   |some (.map _ _ cl)=>h.new (.mit (some o) cl [] cl) λo h=> .v (.p o 0) h
   |_=> .bad
  |_=> .bad) _
 have hv:=X.hE _ _ ha;have fin:∀(ob:bC) (mo:Obj),gR CR (c.add h.next w.heap.size 0 0) { w with heap:=w.heap.push mo } h.next ob ->
  (execOp ρ o).run P w= .ok (.value (.pointer (some ⟨w.heap.size,0,none⟩))) { w with heap:=w.heap.push mo } ->
  bD P CR c h w (h.new ob λo h=> .v (.p o 0) h) ((execOp ρ o).run P w):=by
  intro ob mo hob e;rw[e,AH.new_eq];exact⟨_,_,_,rfl,cH.alloc X.rs rfl 0 hob,.inl ⟨_,rfl,VR.new (by simp) (by simp) _⟩⟩
 have push:∀mo:Obj,(w.heap.push mo)[((c.add h.next w.heap.size 0 0).ρ h.next).1]? =some mo:=λmo=>by rw[CE.add_ρ];simp
 cases hx:ev a with
 |s l=>
  rw[hx] at hv;obtain⟨bs,hr,hbs⟩:=hv.str_inv;rcases ht with ⟨rfl,ht⟩|⟨rfl,_⟩
  ·refine fin _ (.stringIter bs 0) ⟨by rw[CE.add_ρ],bs,push _,hbs⟩ ?_;simp only[execOp,ho];refine fS ?_;simp[Instr.range,dL ht,hr]
  ·trivial
 |mn=>
  rw[hx] at hv;generalize hr:ρ x=vx at hv;cases hv;rcases ht with ⟨rfl,_⟩|⟨rfl,k,e,ht⟩
  ·trivial
  ·refine fin _ (.mapIter none 0 #[] 0) ⟨λk hk=>(by cases hk),by rw[CE.add_ρ],push _⟩ ?_;simp only[execOp,ho];refine fS ?_;simp[Instr.range,dL ht,hr]
 |m o'=>
  rw[hx] at hv;generalize hr:ρ x=vx at hv;cases hv with
  |m _ q1=>
   rcases ht with ⟨rfl,_⟩|⟨rfl,k,e,ht⟩
   ·trivial
   ·simp only[eU];cases hg:h.get o' with
    |none=>trivial
    |some ob=>
     cases ob with
     |map ver es cl=>
      dsimp only;obtain⟨es',h1,_⟩:=X.rs.obj o' _ ⟨hg,rfl,q1⟩;have hx':=CE.add_ext c X.rs.fresh w.heap.size 0 0;refine fin _ (.mapIter (some (c.ρ o').1) cl #[] cl) ⟨λk hk=> ?_,by rw[CE.add_ρ],?_⟩ ?_
      ·cases hk;exact hx'.dM _ q1
      ·rw[push];simp[hx'.ρ o' q1]
      ·simp only[execOp,ho];refine fS ?_;simp[Instr.range,dL ht,hr,tj (P:=P) h1]
     |_=>trivial
 |_=>trivial
def LS {α β:Type} {f:α ->Option β}:∀{l:List α} {r:List β},eM f l=some r ->∀x∈l,∃y∈r,f x=some y
 |[],_,_,x,hx=>by cases hx
 |a::t,r,h,x,hx=>by
  rw[lJ] at h;cases ha:f a with
  |none=>rw[ha] at h;cases h
  |some b=>
   rw[ha] at h;dsimp only at h;cases ht:eM f t with
   |none=>rw[ht] at h;cases h
   |some r'=>
    rw[ht] at h;cases h;rcases ed.1 hx with rfl|hx
    ·exact⟨b,jG,ha⟩
    ·obtain⟨y,h1,h2⟩:=LS ht x hx;exact⟨y,jw _ h1,h2⟩
def LT (n:Nat):∀l:List Nat,vP n l=l.contains n
 |[]=>rfl
 |a::r=>by
  show(Nat.beq a n||vP n r)=_;rw[LT n r,bu,List.contains_cons];congr 1;by_cases e:a=n
  ·subst e;simp
  ·simp[e,Ne.symm e]
def LU (seen:List Nat):∀l:List (AV×AV×Nat),vQ seen l=some (l.filter λe=> !seen.contains e.2.2)
 |[]=>rfl
 |e::r=>by
  show(bif vP e.2.2 seen then vQ seen r else match vQ seen r with|some t=>some (e::t)|none=>none)=_;rw[LT,LU seen r];cases hc:seen.contains e.2.2<;>simp only[hc,fC,eU,Fx,jk,Fy,dZ,nr,bV]
def LV (since:Nat):∀l:List (AV×AV×Nat),vR since l=true ->∀e∈l,e.2.2<since
 |[],_,e,he=>by cases he
 |a::r,hh,e,he=>by
  have h':(Nat.ble (Nat.succ a.2.2) since&&vR since r)=true:=hh;simp only[aB,dm,aU] at h';rcases ed.1 he with rfl|he
  ·exact h'.1
  ·exact LV since r h'.2 e he
def fQ.filter (q:Nat ->Bool):∀{l:List (AV×AV×Nat)} {l':List MapEntry},fQ c l l' ->fQ c (l.filter λe=>q e.2.2) (l'.filter λe=>q e.born)
 |[],[],_=>trivial
 |(k,v,b)::r,e::r',hh=>by
  obtain⟨h1,h2,h3,h4⟩:=hh;have ih:=fQ.filter q h4;rw[Fx,Fx];simp only[h3];split
  ·exact⟨h1,h2,h3,ih⟩
  ·exact ih
 |[],_::_,hh=>hh.elim
 |_::_,[],hh=>hh.elim
def fQ.length:∀{l:List (AV×AV×Nat)} {l':List MapEntry},fQ c l l' ->l'.length=l.length
 |[],[],_=>rfl
 |(k,v,b)::r,e::r',hh=>by simp[fQ.length hh.2.2.2]
 |[],_::_,hh=>hh.elim
 |_::_,[],hh=>hh.elim
def fQ.mem:∀{l:List (AV×AV×Nat)} {l':List MapEntry},fQ c l l' ->∀e∈l',∃x∈l,VR c x.1 e.key/\ VR c x.2.1 e.val/\ e.born=x.2.2
 |[],[],_,e,he=>by cases he
 |(k,v,b)::r,e'::r',hh,e,he=>by
  obtain⟨h1,h2,h3,h4⟩:=hh;rcases ed.1 he with rfl|he
  ·exact⟨_,jG,h1,h2,h3⟩
  ·obtain⟨x,k1,k2⟩:=fQ.mem h4 e he;exact⟨x,jw _ k1,k2⟩
 |[],_::_,hh,_,_=>hh.elim
 |_::_,[],hh,_,_=>hh.elim
def YN (ty:TypeId) (r bm since last:Nat) (seen:Array Nat) (es:Array MapEntry) (clock:Nat)
 (hr:w.heap[r]? =some (.mapIter (some bm) since seen last)) (hb:w.heap[bm]? =some (.map es clock)) (htest:(!seen.isEmpty&& !es.isEmpty&&es.all (·.born>=last))=false)
 (hmem:∀x∈es.toList.filter (λe=> !seen.contains e.born),x.born<since):
 (es.toList.filter (λe=> !seen.contains e.born)=[]/\ (Instr.next (.pointer (some ⟨r,0,none⟩)) false ty).run P w= .ok (.tuple #[.bool false]) w)∨
 ∃e∈es.toList.filter (λe=> !seen.contains e.born),∃w1:World,(w1.heap=w.heap/\ w1.os=w.os/\ w1.output=w.output)/\ (Instr.next (.pointer (some ⟨r,0,none⟩)) false ty).run P w= .ok (.tuple #[.bool true,e.key,e.val]) { w1 with heap:=w1.heap.setIfInBounds r (.mapIter (some bm) since (seen.push e.born) clock) }:=by
 simp only[Instr.next,getObj,dz,Sem.run,hr,hb,Result.andThen,htest,nr,bV];have hmem':∀x∈(Array.filter (λe=> !seen.contains e.born) es).toList,x.born<since:=λx hx=>hmem x (by rw[Array.toList_filter] at hx;exact hx);rw[←Array.toList_filter];generalize Array.filter (λe=> !seen.contains e.born) es=L at hmem' ⊢;have e1:L.filter (λx=>decide (x.born<since))=L:=Array.filter_eq_self.2 (λx hx=>by simpa using hmem' x (by simpa using hx));have e2:L.filter (λx=>decide (x.born>=since))=#[]:=by
  rw[Array.filter_eq_empty_iff];intro x hx;have:=hmem' x (by simpa using hx);simp;omega
 simp only[e1,e2,Array.append_empty];by_cases h0:L.size=0
 ·left;have:L=#[]:=Array.eq_empty_of_size_eq_zero h0;subst this;refine⟨rfl,?_⟩;simp[choose,Sem.run,Question.forced]
 ·right;have dc:L.isEmpty=false:=by simp[Array.isEmpty,h0]
  simp only[dc,nr,bV,Array.empty_append,Array.size_map];have hch:∃(j:Nat) (w1:World),j<L.size/\ (w1.heap=w.heap/\ w1.os=w.os/\ w1.output=w.output)/\ (choose (Question.mapNext L.size)).run P w= .ok j w1:=by
   by_cases hf:L.size<=1
   ·exact⟨0,w,by omega,⟨rfl,rfl,rfl⟩,by simp[choose,Sem.run,Question.forced,hf]⟩
   ·exact⟨_,{ w with drawn:=w.drawn+1 },jv _ ω,⟨rfl,rfl,rfl⟩,by
     simp only[choose,Sem.run,Question.forced,aU,hf,bV,Question.cut];rfl⟩
  obtain⟨j,w1,hj,hal,cR⟩:=hch;refine⟨L[j],by simp,w1,hal,?_⟩;have hr1:w1.heap[r]? =some (.mapIter (some bm) since seen last):=by rw[hal.1];exact hr
  simp only[cR,Array.getElem?_map,og hj,qH,dz,YJ _ hr1,Result.andThen];rfl
def vZ {α:Type} {a:Array α} {r b:Nat} {x:α} (h:b≠r):(a.setIfInBounds r x)[b]? =a[b]? :=Fz (λe=>h e.symm)
def wd {α:Type} {a:Array α} {r:Nat} {x y:α} (h:a[r]? =some y):(a.setIfInBounds r x)[r]? =some x:=by
 have:=(jX.1 h).1;rw[Array.getElem?_setIfInBounds_self_of_lt this]
def YO {seen:List Nat} {last:Nat} {es:List (AV×AV×Nat)} {es':List MapEntry} (h:zN seen last es=true) (he:fQ c es es'):
 (!seen.toArray.isEmpty&& !es'.toArray.isEmpty&&es'.toArray.all (·.born>=last))=false:=by
 cases seen with
 |nil=>simp
 |cons s r=>
  cases es with
  |nil=>cases es' with
   |nil=>simp
   |cons _ _=>exact he.elim
  |cons e r'=>
   cases es' with
   |nil=>exact he.elim
   |cons e' r''=>
    obtain⟨k,v,b⟩:=e;obtain⟨_,_,h3,_⟩:=he;have h':Nat.ble (Nat.succ b) last=true:=h;rw[dm,aU] at h';simp[h3];intro hh;omega
def LW {a b d:AV} {x y z:Value} (h1:VR c a x) (h2:VR c b y) (h3:VR c d z):VR c (.tu [a,b,d]) (.tuple #[x,y,z]):=
 .tu _ [x,y,z] (.cons _ _ _ _ h1 (.cons _ _ _ _ h2 (.cons _ _ _ _ h3 .nil)))
def ut {a b:AV} {x y:Value} (h1:VR c a x) (h2:VR c b y):VR c (.tu [a,b]) (.tuple #[x,y]):=
 .tu _ [x,y] (.cons _ _ _ _ h1 (.cons _ _ _ _ h2 .nil))
def Gc {a:AV} {x:Value} (h1:VR c a x):VR c (.tu [a]) (.tuple #[x]):= .tu _ [x] (.cons _ _ _ _ h1 .nil)
def YP (X:Cx CR c h w ev ρ) {a:MA} {x:Operand} {str:Bool} (ho:o.op= .next x str) (ha:ax a x=true):
 bD P CR c h w (step ev h (.nxt a str)) ((execOp ρ o).run P w):=by
 have hv:=X.hE _ _ ha;unfold step;dsimp only;cases hx:ev a with
 |p o' off=>
  dsimp only;rw[bu];by_cases ho0:off=0
  ·subst ho0;simp only[mC,fC];unfold vS;rw[hx] at hv;generalize hr:ρ x=vx at hv;cases hv with
   |p _ _ q1=>
    have hex:(execOp ρ o).run P w=((Instr.next (.pointer (some (c.addr o' 0))) str o.type).run P w).andThen λv w'=> .ok (.value v) w':=by
     simp only[execOp,ho,hr,dz,ig]
    have fin:∀v w',(Instr.next (.pointer (some (c.addr o' 0))) str o.type).run P w= .ok v w' ->(execOp ρ o).run P w= .ok (.value v) w':=by
     intro v w' e;rw[hex,e];rfl
    cases hg:h.get o' with
    |none=>trivial
    |some ob=>
     cases ob with
     |sit l pos=>
      obtain⟨m2,bs,m3,m4⟩:=X.rs.obj o' _ ⟨hg,rfl,q1⟩;have haddr:c.addr o' 0=⟨(c.ρ o').1,0,none⟩:=by simp[CE.addr,m2]
      rw[haddr] at fin;have hsz:bs.size=l.length:=by rw[←m4,kU];rfl
      dsimp only;cases str with
      |false=>trivial
      |true=>
       simp only[fC,Cw];cases hb:l[pos]? with
       |none=>
        have hge:¬pos<bs.size:=by
         have:=List.getElem?_eq_none_iff.1 hb;omega
        have e:=fin (.tuple #[.bool false]) w (by
         simp only[Instr.next,dz];rw[LP m3];simp[hge])
        rw[e];exact cV.same X.rs (Gc (.b _))
       |some b=>
        dsimp only;cases hc:Nat.ble b 127 with
        |false=>trivial
        |true=>
         rw[dm,aU] at hc;have aV:pos<bs.size:=by
          have:=(eC.1 hb).1;omega
         have hget:(bs.get! pos).toNat=b:=by
          have h1:bs.data.size=bs.size:=rfl;rw[←m4,oh] at hb;rw[cE (by simp;omega)] at hb;simp only[qH,jI,Array.getElem_toList] at hb;rw[←hb];show(bs.data[pos]!).toNat=_;rw[getElem!_pos bs.data pos ω]
         have hdec:Utf8.decode bs pos=(b,1):=by
          unfold Utf8.decode;simp only[vG,hget];rw[aF ω]
         have e:=fin (.tuple #[.bool true,goInt pos,.int .i32 b]) { w with heap:=w.heap.setIfInBounds (c.ρ o').1 (.stringIter bs (pos+1)) } (by
          simp only[Instr.next,dz];rw[LP m3];simp only[dP,aF aV,hdec,dz];rw[YI _ m3];rfl)
         rw[e];simp only[fC,dT,AH.put_eq];have hob:gR CR c { w with heap:=w.heap.setIfInBounds (c.ρ o').1 (.stringIter bs (pos+1)) } o' (.sit l (Nat.succ pos)):=⟨m2,bs,wd m3,m4⟩
         exact⟨c,_,_,rfl,cH.write X.rs ⟨hg,rfl,q1⟩ (by simp) (λb hb=>vZ hb) hob _,.inl ⟨_,rfl,LW (.b _) (.i _ _) (.i _ _)⟩⟩
     |mit m since seen stepped=>
      obtain⟨m1,m2,m3⟩:=X.rs.obj o' _ ⟨hg,rfl,q1⟩;have haddr:c.addr o' 0=⟨(c.ρ o').1,0,none⟩:=by simp[CE.addr,m2]
      rw[haddr] at fin;cases m with
      |none=>
       dsimp only;cases str with
       |true=>trivial
       |false=>
        have e:=fin (.tuple #[.bool false]) w (by
         simp only[Instr.next,dz];simp only[Option.map_none] at m3;rw[LQ m3];rfl)
        rw[e];exact cV.same X.rs (Gc (.b _))
      |some m=>
       dsimp only;cases str with
       |true=>trivial
       |false=>
        simp only[eU];cases hm:h.get m with
        |none=>trivial
        |some obm=>
         cases obm with
         |map ver es cl=>
          dsimp only;obtain⟨es',n1,n2,n3,n4⟩:=X.rs.obj m _ ⟨hm,rfl,m1 m rfl⟩;cases hk:zN seen stepped es with
          |false=>trivial
          |true=>
           simp only[jk,eU,LU];cases hol:vR since (es.filter λe=> !seen.contains e.2.2) with
           |false=>trivial
           |true=>
            simp only[fC];have hE:=fQ.filter (λb=> !seen.contains b) n2;have hcs:∀b,seen.toArray.contains b=seen.contains b:=λb=>by simp
            simp only[qH] at m3;have hnx:=YN (P:=P) o.type (c.ρ o').1 (c.ρ m).1 since stepped seen.toArray es' cl m3 n1 (by simpa using YO (c:=c) hk n2) (by
             intro e he;simp only[hcs] at he;obtain⟨y,y1,_,_,y4⟩:=hE.mem e he;rw[y4];exact LV _ _ hol y y1)
            simp only[hcs] at hnx;generalize hL:(es.filter λe=> !seen.contains e.2.2)=L at hE hnx hol ⊢;generalize hL':(es'.toList.filter λe=> !seen.contains e.born)=L' at hE hnx;rcases hnx with ⟨k1,k2⟩|⟨e',k1,w1,⟨k2,kio⟩,k3⟩
            ·subst k1;cases L with
             |cons _ _=>exact hE.elim
             |nil=>
              rw[fin _ _ k2];exact cV.same X.rs (Gc (.b _))
            ·obtain⟨y,y1,y2,y3,y4⟩:=hE.mem e' k1;have w1m:=m3;rw[←k2] at w1m;have good:∀ver,cV CR c h w (.tu [.b true,y.1,y.2.1]) ⟨h.next,ver,h.oB.put o' (.mit (some m) since (seen++[y.2.2]) cl)⟩ ((execOp ρ o).run P w):=by
              intro ver;rw[fin _ _ k3];have hob:gR CR c { w1 with heap:=w1.heap.setIfInBounds (c.ρ o').1 (.mapIter (some (c.ρ m).1) since (seen.toArray.push e'.born) cl) } o' (.mit (some m) since (seen++[y.2.2]) cl):=by
               refine⟨m1,m2,?_⟩;rw[y4];have:(seen++[y.2.2]).toArray=seen.toArray.push y.2.2:=by simp
               rw[this];exact wd w1m
              exact⟨c,_,_,rfl,cH.write X.rs ⟨hg,rfl,q1⟩ (by simp[k2]) (λb hb=>by rw[←k2];exact vZ hb) hob ver kio,.inl ⟨_,rfl,LW (.b _) y2 y3⟩⟩
             cases L with
             |nil=>cases y1
             |cons z zs=>
              cases zs with
              |nil=>
               simp only[fk] at y1;subst y1;simp only[jz,AH.put_eq];exact good _
              |cons z2 zs=>
               dsimp only;cases hmp:eM (λ(e:AV×AV×Nat)=>match fy seen [e.2.2] with
                |some seen=>h.put o' (.mit (some m) since seen cl) λh=>some (AV.tu [.b true,e.1,e.2.1],h)
                |none=>none) (z::z2::zs) with
               |none=>trivial
               |some r=>
                obtain⟨q,q1',q2⟩:=LS hmp y y1;simp only[jz,AH.put_eq,jI] at q2;subst q2;exact⟨_,q1',good _⟩
         |_=>trivial
     |_=>trivial
  ·rw[ot ho0];trivial
 |_=>trivial
def fQ.ent {b:Nat}:∀{l:List (AV×AV×Nat)} {l':List MapEntry},fQ c l l' ->∀{x:AV×AV×Nat},pU b l=some x ->∃e,l'.find? (·.born==b)=some e/\ VR c x.1 e.key/\ VR c x.2.1 e.val/\ e.born=x.2.2
 |[],[],_,x,hh=>by cases hh
 |(k,v,b')::r,e::r',hE,x,hh=>by
  obtain⟨h1,h2,h3,h4⟩:=hE;have h':(bif Nat.beq b' b then some (k,v,b') else pU b r)=some x:=hh;rw[bu] at h';by_cases hc:b'=b
  ·simp only[hc,mC,fC,jI] at h';subst h';exact⟨e,by rw[List.find?_cons_of_pos (by simp[h3,hc])],h1,h2,h3.trans hc⟩
  ·simp only[hc,decide_false,eU] at h';obtain⟨e',k1,k2⟩:=fQ.ent h4 h';exact⟨e',by rw[List.find?_cons_of_neg (by simp[h3,hc])];exact k1,k2⟩
 |[],_::_,hE,_,_=>hE.elim
 |_::_,[],hE,_,_=>hE.elim
def LX:∀(l:List Nat) (d:Option Nat),(List.rec (motive:=λ_=>Option Nat ->Option Nat) (λr=>r) (λa _ ih _=>ih (some a)) l d:Option Nat)=(l.getLast?).or d
 |[],d=>by simp
 |a::r,d=>by
  show(List.rec (motive:=λ_=>Option Nat ->Option Nat) (λr=>r) (λa _ ih _=>ih (some a)) r (some a):Option Nat)=_;rw[LX r (some a)];cases r with
  |nil=>rfl
  |cons b r=>
   rw[List.getLast?_cons_cons];cases hh:(b::r).getLast? with
   |none=>simp at hh
   |some x=>rfl
def YQ (X:Cx CR c h w ev ρ) {a:MA} {x:Operand} (ho:o.op= .entry x) (ha:ax a x=true):
 bD P CR c h w (step ev h (.ent a)) ((execOp ρ o).run P w):=by
 have hv:=X.hE _ _ ha;unfold step;dsimp only;cases hx:ev a with
 |p o' off=>
  dsimp only;rw[bu];by_cases ho0:off=0
  ·subst ho0;simp only[mC,fC];unfold vT;rw[hx] at hv;generalize hr:ρ x=vx at hv;cases hv with
   |p _ _ q1=>
    cases hg:h.get o' with
    |none=>trivial
    |some ob=>
     cases ob with
     |mit m since seen stepped=>
      obtain⟨m1,m2,m3⟩:=X.rs.obj o' _ ⟨hg,rfl,q1⟩;have haddr:c.addr o' 0=⟨(c.ρ o').1,0,none⟩:=by simp[CE.addr,m2]
      cases m with
      |none=>trivial
      |some m=>
       dsimp only;cases hm:h.get m with
       |none=>trivial
       |some obm=>
        cases obm with
        |map ver es cl=>
         dsimp only;obtain⟨es',n1,n2,n3,n4⟩:=X.rs.obj m _ ⟨hm,rfl,m1 m rfl⟩;rw[LX,Option.or_none];cases hl:seen.getLast? with
         |none=>trivial
         |some b=>
          dsimp only;rw[bu];by_cases hc:cl=stepped
          ·simp only[hc,mC,fC];cases he:pU b es with
           |none=>trivial
           |some e=>
            obtain⟨e',k1,k2,k3,k4⟩:=n2.ent he;have ex:(execOp ρ o).run P w= .ok (.value (.tuple #[e'.key,e'.val])) w:=by
             simp only[execOp,ho];refine fS ?_;rw[hr,haddr];simp only[Instr.entry,dz];simp only[qH] at m3;rw[LQ m3];have hbk:seen.toArray.back? =some b:=by simp[hl]
             simp only[dP,hbk,dz];rw[tj n1];have hf:es'.find? (·.born==b)=some e':=by rw[←Array.find?_toList];exact k1
             simp only[dP,hc,bne_self_eq_false,nr,bV,hf];rfl
            rw[ex];exact cV.same X.rs (ut k2 k3)
          ·rw[ot hc];trivial
        |_=>trivial
     |_=>trivial
  ·rw[ot ho0];trivial
 |_=>trivial
def YR (bM:gT P t i) (X:Cx CR c h w ev ρ) {a:MA} {x:Operand} {xt:TypeId} {ok:Bool} {z:AV} (ho:o.op= .typeAssert x xt t ok) (ha:ax a x=true)
 (hni:∀q,i.kd≠.interface q) (hz:ok=true ->(i.kd.isRow=true/\ z= .ag i.zs)∨(i.kd.isRow=false/\ [z]=i.zs)):
 bD P CR c h w (step ev h (.tas a t ok z)) ((execOp ρ o).run P w):=by
 have hv:=X.hE _ _ ha;unfold step;dsimp only;have hzero:ok=true ->∃zv,(zeroValue t).run P w= .ok zv w/\ VR c z zv:=by
  intro aC;obtain⟨inf,zv,vs,h1,h2,h3,h4,h5,h6,h7,h8⟩:=bM.zero c;refine⟨zv,by simp[zeroValue,typeInfo,h1,h4],?_⟩;rcases hz aC with ⟨k1,rfl⟩|⟨k1,k2⟩
  ·exact h7 k1
  ·obtain⟨z',e1,e2,_⟩:=h8 k1;rw[e1] at k2;cases k2;exact e2
 have key:∀v,ρ x=v ->(execOp ρ o).run P w=((Instr.typeAssert v xt t ok).run P w).andThen λv w'=> .ok (.value v) w':=by
  intro v hr;simp only[execOp,ho,hr,dz,ig]
 cases hx:ev a with
 |ifc u y=>
  rw[hx] at hv;generalize hr:ρ x=vx at hv;cases hv with
  |ifc _ _ v' q=>
   dsimp only;rw[bu,key _ hr];by_cases hc:u=t
   ·subst hc;simp only[mC,fC];have e:(Instr.typeAssert (.iface u v') xt u ok).run P w= .ok (if ok then .tuple #[v',.bool true] else v') w:=by
     simp only[Instr.typeAssert,dz,dL bM.und,dP];cases hk:i.kd<;>first|exact bh hk (hni _)|(simp)
    rw[e];cases ok with
    |true=>exact cV.same X.rs (ut q (.b _))
    |false=>exact cV.same X.rs q
   ·rw[ot hc];cases ok with
    |false=>trivial
    |true=>
     obtain⟨zv,e1,e2⟩:=hzero rfl;have e:(Instr.typeAssert (.iface u v') xt t true).run P w= .ok (.tuple #[zv,.bool false]) w:=by
      simp only[Instr.typeAssert,dz,dL bM.und,dP];cases hk:i.kd<;>first|exact bh hk (hni _)|(simp[hc,e1])
     rw[e];exact cV.same X.rs (ut e2 (.b _))
 |ifn=>
  rw[hx] at hv;generalize hr:ρ x=vx at hv;cases hv;rw[key _ hr];cases ok with
  |false=>trivial
  |true=>
   obtain⟨zv,e1,e2⟩:=hzero rfl;have e:(Instr.typeAssert .nilIface xt t true).run P w= .ok (.tuple #[zv,.bool false]) w:=by
    simp only[Instr.typeAssert,dz,dL bM.und,dP];cases hk:i.kd<;>first|exact bh hk (hni _)|(simp[e1])
   rw[e];exact cV.same X.rs (ut e2 (.b _))
 |_=>trivial
def YS (X:Cx CR c h w ev ρ) {op:BinOp} {t yt:TypeId} {a b:MA} {x y:Operand} (ho:o.op= .binOp op t x y yt) (ha:ax a x=true) (hb:ax b y=true):
 bD P CR c h w (step ev h (.bin op a b)) ((execOp ρ o).run P w):=by
 cases e1:ev a with
 |i k n=>
  cases e2:ev b with
  |i k' m=>exact LM X ho ha hb (.inl ⟨k,n,k',m,e1,e2⟩)
  |_=>show bD P CR c h w (dr h (aY op (ev a) (ev b))) _;rw[e1,e2];trivial
 |s l=>
  cases e2:ev b with
  |s m=>exact LM X ho ha hb (.inr ⟨l,m,e1,e2⟩)
  |_=>show bD P CR c h w (dr h (aY op (ev a) (ev b))) _;rw[e1,e2];trivial
 |_=>show bD P CR c h w (dr h (aY op (ev a) (ev b))) _;rw[e1];cases ev b<;>trivial
def CN (kd:TypeDesc) (sz:TypeId ->Option Nat):EK ->Bool
 | .b=>match kd with| .bool=>true|_=>false
 | .i=>match kd with| .int _=>true|_=>false
 | .s=>match kd with| .string=>true|_=>false
 | .p=>match kd with| .pointer e=>(match sz e with|some n=>Nat.ble 1 n|none=>false)|_=>false
 | .sl=>match kd with| .slice _=>true|_=>false
 | .m=>match kd with| .map _ _=>true|_=>false
 | .f=>match kd with| .func _ _ _=>true|_=>false
 | .ifc=>match kd with| .interface _=>true|_=>false
def Gd (one:TypeId ->ET ->Bool) (ty:T TI) (l:List (Nat×Nat×Bool×ET)):List Field ->Bool:=
 List.rec (motive:=λ_=>List Field ->Bool) (λfs=>List.isEmpty fs) (λa _ ih fs=>match fs with
  |[]=>false
  |f::r=>(decide (f.name≠ "_")&&(match ty.get f.type with
   |some i=>Nat.beq a.1 f.offset&&Nat.beq a.2.1 i.size&&(a.2.2.1==i.kd.isRow)&&one f.type a.2.2.2
   |none=>false))&&ih r) l
def zY (one:ET ->Bool) (sz:Nat) (row:Bool) (n:Nat) (l:List (Nat×Nat×Bool×ET)):Nat ->Bool:=
 List.rec (motive:=λ_=>Nat ->Bool) (λk=>Nat.beq k n) (λa _ ih k=>(Nat.beq a.1 (k*sz)&&Nat.beq a.2.1 sz&&(a.2.2.1==row)&&one a.2.2.2)&&ih (k+1)) l
def Ge {one:ET ->Bool} {sz n:Nat} {row:Bool}:∀{l:List (Nat×Nat×Bool×ET)} {s:Nat},zY one sz row n l s=true ->s+l.length=n
 |[],s,h=>by have h':Nat.beq s n=true:=h;rw[bu,aU] at h';simpa using h'
 |f::l,s,h=>by
  have h':((Nat.beq f.1 (s*sz)&&Nat.beq f.2.1 sz&&(f.2.2.1==row)&&one f.2.2.2)&&zY one sz row n l (s+1))=true:=h;rw[aB] at h';have:=Ge h'.2;simp only[gJ];omega
def gF (ty:T TI) (top:Bool):Nat ->TypeId ->ET ->Bool
 |_,t,.lf k=>match ty.get t with
  |some i=>CN i.kd (λe=>(ty.get e).map (·.size)) k&&(top||(match k with| .ifc=>false|_=>true))
  |none=>false
 |n+1,t,.ag l=>match ty.get t with
  |some i=>match i.kd with
   | .struct fs=> !i.sh&&Gd (λt e=>gF ty false n t e) ty l fs.toList
   | .array k e=>(match ty.get e with|some j=>zY (λx=>gF ty false n e x) j.size j.kd.isRow k l 0|none=>false)
   |_=>false
  |none=>false
 |0,_,.ag _=>false
def LY:∀{l m:List UInt8},l.map UInt8.toNat=m.map UInt8.toNat ->l=m
 |[],[],_=>rfl
 |[],_::_,h=>by simp at h
 |_::_,[],h=>by simp at h
 |a::l,b::m,h=>by
  simp only[jY,List.cons.injEq] at h;rw[UInt8.toNat_inj.1 h.1,LY h.2]
def LZ {ty:T TI} (bM:lN P ty) {n:Nat} {t:TypeId} {k:EK} {top:Bool} (aC:gF ty top n t (.lf k)=true) {a b:AV} {v u:Value} {r:Bool} (hr:rP k a b=some r) (hv:VR c a v) (hu:VR c b u) (d:Nat):
 (Op.equalIn (d+1) t v u).run P w= .ok r w:=by
 have hok':∃i,ty.get t=some i/\ CN i.kd (λe=>(ty.get e).map (·.size)) k=true:=by
  unfold gF at aC;split at aC<;>first|(rename_i i hi;simp only[aB] at aC;first|exact⟨i,‹_›,aC.1⟩|cases aC)|cases aC
 obtain⟨i,hi,hk⟩:=hok';have fM:=(bM t i hi).und;clear aC;have kb:k= .b ->P.underlying t=some .bool:=by
  intro e;subst e;revert fM;cases hd:i.kd<;>rw[hd] at hk<;>first|exact id|cases hk
 have ki:k= .i ->∃q,P.underlying t=some (.int q):=by
  intro e;subst e;revert fM;cases hd:i.kd<;>rw[hd] at hk<;>first|exact λh=>⟨_,h⟩|cases hk
 have ks:k= .s ->P.underlying t=some .string:=by
  intro e;subst e;revert fM;cases hd:i.kd<;>rw[hd] at hk<;>first|exact id|cases hk
 have ksl:k= .sl ->∃q,P.underlying t=some (.slice q):=by
  intro e;subst e;revert fM;cases hd:i.kd<;>rw[hd] at hk<;>first|exact λh=>⟨_,h⟩|cases hk
 have km:k= .m ->∃q q',P.underlying t=some (.map q q'):=by
  intro e;subst e;revert fM;cases hd:i.kd<;>rw[hd] at hk<;>first|exact λh=>⟨_,_,h⟩|cases hk
 have kf:k= .f ->∃q q' q'',P.underlying t=some (.func q q' q''):=by
  intro e;subst e;revert fM;cases hd:i.kd<;>rw[hd] at hk<;>first|exact λh=>⟨_,_,_,h⟩|cases hk
 have kifc:k= .ifc ->∃q,P.underlying t=some (.interface q):=by
  intro e;subst e;revert fM;cases hd:i.kd<;>rw[hd] at hk<;>first|exact λh=>⟨_,h⟩|cases hk
 have kp:k= .p ->∃e inf,P.underlying t=some (.pointer e)/\ P.info? e=some inf/\ inf.size≠0:=by
  intro e;subst e;revert fM;cases hd:i.kd<;>rw[hd] at hk<;>try (cases hk;done)
  rename_i q;intro fM;unfold CN at hk;dsimp only at hk;cases hq:ty.get q with
  |none=>rw[hq] at hk;cases hk
  |some j=>
   rw[hq] at hk;simp only[qH,dm,aU] at hk;obtain⟨inf,zv,i1,i2,_⟩:=(bM q j hq).info;exact⟨q,inf,fM,i1,by omega⟩
 unfold rP at hr;split at hr;all_goals first|cases hr|skip
 ·cases hv;cases hu;rw[run_equalIn_bool (h:=kb rfl)];rename_i x y;cases x<;>cases y<;>rfl
 ·cases hv;cases hu;obtain⟨q,hq⟩:=ki rfl;rename_i k1 x k2 y;rw[fv] at hr;split at hr
  ·rename_i hke;have:=zV hke;subst this;rw[run_equalIn_int (h:=hq)];simp only[jI] at hr;rw[←hr];congr 1;rw[fg];by_cases e:x=y<;>simp[e]
  ·cases hr
 ·cases hv with
  |s _ bs e1=>
   cases hu with
   |s _ cs e2=>
    rw[run_equalIn_string (h:=ks rfl)];rw[mH,←e1,←e2];congr 1;rw[ByteArray.toList_eq,ByteArray.toList_eq];rw[xB];simp only[mD,aU];constructor
    ·intro e;rw[e]
    ·intro e;exact LY e
 ·obtain⟨e,inf,k1,k2,k3⟩:=kp rfl;have key:∀A B:Addr,A.block=B.block ->(Op.equalIn (d+1) t (.pointer (some A)) (.pointer (some B))).run P w= .ok (A==B) w:=by
   intro A B hAB;simp[Op.equalIn,dL k1,Go.sizeOf,typeInfo,k2,k3,sameAddr,hAB]
  cases hv;cases hu;rename_i o1 a1 o2 a2 q1 q2;rw[fv] at hr;split at hr
  ·rename_i hoo;rw[bu,aU] at hoo;subst hoo;rw[key (c.addr o1 a1) (c.addr o1 a2) rfl];simp only[jI] at hr;rw[←hr,bu];congr 1;rw[xB];simp[CE.addr]
  ·cases hr
 ·cases hv;cases hu;obtain⟨e,inf,k1,k2,k3⟩:=kp rfl;simp[Op.equalIn,dL k1]
 ·cases hv;cases hu;obtain⟨e,inf,k1,k2,k3⟩:=kp rfl;simp[Op.equalIn,dL k1]
 ·cases hv;cases hu;obtain⟨e,inf,k1,k2,k3⟩:=kp rfl;simp[Op.equalIn,dL k1]
 ·cases hv;cases hu;obtain⟨e,inf,k1,k2,k3⟩:=kp rfl;simp[Op.equalIn,dL k1]
 ·cases hv;cases hu;obtain⟨e,inf,k1,k2,k3⟩:=kp rfl;simp[Op.equalIn,dL k1]
 all_goals cases hv;cases hu
 all_goals first
  |(obtain⟨q,hq⟩:=ksl rfl;simp only[Op.equalIn,dz,dL hq,dP];rfl)
  |(obtain⟨q,q',hq⟩:=km rfl;simp only[Op.equalIn,dz,dL hq,dP];rfl)
  |(obtain⟨q,q',q'',hq⟩:=kf rfl;simp only[Op.equalIn,dz,dL hq,dP];rfl)
  |(obtain⟨q,hq⟩:=kifc rfl;simp only[Op.equalIn,dz,dL hq,dP];rfl)
def Ma {ty:T TI} (bM:lN P ty):∀(n m:Nat) (t:TypeId) (et:ET) (top:Bool) (a b:AV) (v u:Value) (r:Bool) (d:Nat),gF ty top m t et=true ->eH n et a b=some r ->VR c a v ->VR c b u ->n<d ->(Op.equalIn d t v u).run P w= .ok r w:=by
 intro n;induction n with
 |zero=>
  intro m t et top a b v u r d aC hr hv hu hd;obtain⟨d,rfl⟩:∃d',d=d'+1:=⟨d-1,by omega⟩;cases et with
  |lf k=>exact LZ bM aC hr hv hu d
  |ag l=>unfold eH at hr;cases hr
 |succ n ih=>
  intro m t et top a b v u r d aC hr hv hu hd;obtain⟨d,rfl⟩:∃d',d=d'+1:=⟨d-1,by omega⟩;cases et with
  |lf k=>exact LZ bM aC hr hv hu d
  |ag l=>
   cases m with
   |zero=>cases aC
   |succ m=>
    unfold gF at aC;cases hi:ty.get t with
    |none=>rw[hi] at aC;cases aC
    |some i=>
     rw[hi] at aC;dsimp only at aC;cases hk:i.kd with
     |struct fs=>
      rw[hk] at aC;simp only[aB,jH] at aC;obtain⟨hsh,hfs⟩:=aC;have hT:=bM t i hi;have fM:=hT.und;rw[hk] at fM;cases a with
      |ag x=>
       cases b with
       |ag y=>
        cases hv with
        |ag _ vs hvs=>
         cases hu with
         |ag _ us hus=>
          have hf:P.fieldsOf t=fs:=by simp[Program.fieldsOf,fM]
          rw[run_equalIn_struct w d t _ _ (by rw[hf];exact fM) (by rw[hT.sh];exact hsh),hf];generalize fs.toList=F at hfs;clear hf fM hk;unfold eH at hr
          revert hr
          induction l generalizing F with
          |nil=>
           intro hr;cases F with
           |nil=>cases hr;rfl
           |cons _ _=>cases hfs
          |cons f l ih2=>
           intro hr;cases F with
           |nil=>cases hfs
           |cons fd F=>
            have hfs':((decide (fd.name≠ "_")&&(match ty.get fd.type with
             |some i=>Nat.beq f.1 fd.offset&&Nat.beq f.2.1 i.size&&(f.2.2.1==i.kd.isRow)&&gF ty false m fd.type f.2.2.2
             |none=>false))&&Gd (λt e=>gF ty false m t e) ty l F)=true:=hfs
            simp only[aB,aU] at hfs';obtain⟨⟨hnm,hq⟩,hrest⟩:=hfs';cases hj:ty.get fd.type with
            |none=>rw[hj] at hq;cases hq
            |some j=>
             rw[hj] at hq;simp only[aB,bu,aU,mD] at hq;obtain⟨⟨⟨q1,q2⟩,q3⟩,q4⟩:=hq;have cy:(match sub x f.1 f.2.1,sub y f.1 f.2.1 with
              |some a,some b=>match dB f.2.2.1 a,dB f.2.2.1 b with
               |some a,some b=>match eH n f.2.2.2 a b with
                |some true=>(List.rec (motive:=λ_=>Option Bool) (some true) (λf _ ih=>
                 match sub x f.1 f.2.1,sub y f.1 f.2.1 with
                 |some a,some b=>match dB f.2.2.1 a,dB f.2.2.1 b with
                  |some a,some b=>match eH n f.2.2.2 a b with
                   |some true=>ih
                   |r=>r
                  |_,_=>none
                 |_,_=>none) l:Option Bool)
                |r=>r
               |_,_=>none
              |_,_=>none)=some r:=hr
             cases s1:sub x f.1 f.2.1 with
             |none=>rw[s1] at cy;cases cy
             |some c1=>
              cases s2:sub y f.1 f.2.1 with
              |none=>rw[s1,s2] at cy;cases cy
              |some c2=>
               rw[s1,s2] at cy;dsimp only at cy;cases m1:dB f.2.2.1 c1 with
               |none=>rw[m1] at cy;cases cy
               |some a1=>
                cases m2:dB f.2.2.1 c2 with
                |none=>rw[m1,m2] at cy;cases cy
                |some a2=>
                 rw[m1,m2] at cy;dsimp only at cy;rw[q3] at m1 m2;obtain⟨va,p1,p2⟩:=uq (w:=w) (bM _ _ hj) hvs s1 q2 m1;obtain⟨vb,p3,p4⟩:=uq (w:=w) (bM _ _ hj) hus s2 q2 m2;rw[q1] at p1 p3;cases hvq:eH n f.2.2.2 a1 a2 with
                 |none=>rw[hvq] at cy;cases cy
                 |some rr=>
                  have he:=ih m fd.type f.2.2.2 false a1 a2 va vb rr d q4 hvq p2 p4 ω;unfold Op.eqFields;rw[aF hnm];simp only[dz,p1,p3,dP,he];rw[hvq] at cy;cases rr with
                  |false=>cases cy;rfl
                  |true=>exact ih2 F hrest cy
       |_=>unfold eH at hr;cases hr
      |_=>unfold eH at hr;cases hr
     |array N e=>
      rw[hk] at aC;dsimp only at aC;cases hj:ty.get e with
      |none=>rw[hj] at aC;cases aC
      |some j=>
       rw[hj] at aC;dsimp only at aC;have hT:=bM t i hi;have fM:=hT.und;rw[hk] at fM;have hJ:=bM e j hj;obtain⟨inf,zv,i1,i2,_⟩:=hJ.info;have hco:P.cellsOf e=j.size:=by simp[Program.cellsOf,i1,i2]
       cases a with
       |ag x=>
        cases b with
        |ag y=>
         cases hv with
         |ag _ vs hvs=>
          cases hu with
          |ag _ us hus=>
           rw[run_equalIn_array w d _ _ fM i1,hco,zB];have eQ:=Ge aC;rw[gB] at eQ;rw[←eQ];unfold eH at hr
           revert hr aC
           generalize (0:Nat)=s;clear eQ hk fM;induction l generalizing s with
           |nil=>intro aC hr;cases hr;simp[Op.eqItems]
           |cons f l ih2=>
            intro aC hr;have h':((Nat.beq f.1 (s*j.size)&&Nat.beq f.2.1 j.size&&(f.2.2.1==j.kd.isRow)&&gF ty false m e f.2.2.2)&&zY (λx=>gF ty false m e x) j.size j.kd.isRow N l (s+1))=true:=aC;simp only[aB,bu,aU,mD] at h';obtain⟨⟨⟨⟨q1,q2⟩,q3⟩,q4⟩,hrest⟩:=h';have cy:(match sub x f.1 f.2.1,sub y f.1 f.2.1 with
             |some a,some b=>match dB f.2.2.1 a,dB f.2.2.1 b with
              |some a,some b=>match eH n f.2.2.2 a b with
               |some true=>(List.rec (motive:=λ_=>Option Bool) (some true) (λf _ ih=>
                match sub x f.1 f.2.1,sub y f.1 f.2.1 with
                |some a,some b=>match dB f.2.2.1 a,dB f.2.2.1 b with
                 |some a,some b=>match eH n f.2.2.2 a b with
                  |some true=>ih
                  |r=>r
                 |_,_=>none
                |_,_=>none) l:Option Bool)
               |r=>r
              |_,_=>none
             |_,_=>none)=some r:=hr
            cases s1:sub x f.1 f.2.1 with
            |none=>rw[s1] at cy;cases cy
            |some c1=>
             cases s2:sub y f.1 f.2.1 with
             |none=>rw[s1,s2] at cy;cases cy
             |some c2=>
              rw[s1,s2] at cy;dsimp only at cy;cases m1:dB f.2.2.1 c1 with
              |none=>rw[m1] at cy;cases cy
              |some a1=>
               cases m2:dB f.2.2.1 c2 with
               |none=>rw[m1,m2] at cy;cases cy
               |some a2=>
                rw[m1,m2] at cy;dsimp only at cy;rw[q3] at m1 m2;obtain⟨va,p1,p2⟩:=uq (w:=w) hJ hvs s1 q2 m1;obtain⟨vb,p3,p4⟩:=uq (w:=w) hJ hus s2 q2 m2;rw[q1] at p1 p3;cases hvq:eH n f.2.2.2 a1 a2 with
                |none=>rw[hvq] at cy;cases cy
                |some rr=>
                 have he:=ih m e f.2.2.2 false a1 a2 va vb rr d q4 hvq p2 p4 ω;rw[gJ,Cc];unfold Op.eqItems;simp only[dz,p1,p3,dP,he];rw[hvq] at cy;cases rr with
                 |false=>cases cy;rfl
                 |true=>exact ih2 (s+1) hrest cy
        |_=>unfold eH at hr;cases hr
       |_=>unfold eH at hr;cases hr
     |_=>rw[hk] at aC;cases aC
def CO:Value ->Bool
 | .int _ _| .string _| .float _ _| .complex _ _ _=>false
 |_=>true
def YT {v u:Value} (hv:CO v=true):binOp .eql t v u=(do pure (.bool (←Op.equal t v u))):=by
 cases v<;>first|rfl|(cases hv;done)|(cases u<;>first|rfl|cases hv)
def YU {v u:Value} (hv:CO v=true):binOp .neq t v u=(do pure (.bool (!(←Op.equal t v u)))):=by
 cases v<;>first|rfl|(cases hv;done)|(cases u<;>first|rfl|cases hv)
def xT (et:ET) (x y:Operand):Bool:=match et with
 | .lf .i=>false
 | .lf .s=>false
 | .lf .ifc=>(match x,y with| .const _,_=>true|_,.const _=>true|_,_=>false)
 |_=>true
def YV {k:EK} (hk:xT (.lf k) (.const .nilIface) (.const .nilIface)=true) {a b:AV} {r:Bool} (hr:rP k a b=some r) {v:Value} (hv:VR c a v):CO v=true/\ (k≠.ifc ->v≠.nilIface)/\∀xs,v≠.agg xs:=by
 unfold rP at hr;split at hr;all_goals first|(cases hk;done)|(cases hr;done)|skip
 all_goals (cases hv<;>refine⟨rfl,λe=> ?_,λxs e=> ?_⟩<;>first|(cases e;done)|(intro e;cases e;done)|(exact bh rfl e))
def Mb:Operand ->Bool
 | .const _=>true
 |_=>false
def YW {x y:Operand} (ht:xT (.lf .ifc) x y=true):(Mb x||Mb y)=true:=by
 cases x<;>cases y<;>first|rfl|(cases ht;done)
def YX {ty:T TI} (bM:lN P ty) (X:Cx CR c h w ev ρ) {et:ET} {op:BinOp} {ne:Bool} {m:Nat} {t yt:TypeId} {a b:MA} {x y:Operand} (ho:o.op= .binOp op t x y yt) (hop:(op= .eql/\ ne=false)∨(op= .neq/\ ne=true))
 (aC:gF ty true m t et=true) (ht:xT et x y=true) (hg:(∃l,et= .ag l) ->P.eqGuardType P.depth t=false) (ha:ax a x=true) (hb:ax b y=true):
 bD P CR c h w (step ev h (.eqv ne et a b)) ((execOp ρ o).run P w):=by
 show bD P CR c h w (match eH 6 et (ev a) (ev b) with|some r=> .v (.b (bif ne then !r else r)) h|none=> .bad) _;have hva:=X.hE _ _ ha;have hvb:=X.hE _ _ hb;cases hr:eH 6 et (ev a) (ev b) with
 |none=>trivial
 |some r=>
  have he:(Op.equal t (ρ x) (ρ y)).run P w= .ok r w:=Ma bM 6 m t et true _ _ _ _ r Op.maxDepth aC hr hva hvb (by decide);have hpl:CO (ρ x)=true/\ (eqGuard op t x y (ρ x) (ρ y)).run P w= .ok () w:=by
   have h0:(op== .eql||op== .neq)=true:=by rcases hop with ⟨rfl,_⟩|⟨rfl,_⟩<;>rfl
   have h1:(match op with| .eql| .neq=>true|_=>false)=true:=by rcases hop with ⟨rfl,_⟩|⟨rfl,_⟩<;>rfl
   cases et with
   |lf k=>
    have cy:rP k (ev a) (ev b)=some r:=hr;have hk:xT (.lf k) (.const .nilIface) (.const .nilIface)=true:=by cases k<;>first|rfl|exact ht
    obtain⟨q1,q2,q3⟩:=YV hk cy hva;refine⟨q1,?_⟩;unfold eqGuard;rcases hop with ⟨rfl,_⟩|⟨rfl,_⟩;all_goals
     simp only[jk,nr,bV];split
     ·rename_i e1 e2;have hki:k= .ifc:=by
       cases k<;>first|rfl|exact bh e1 (q2 (by intro e;cases e))
      subst hki;refine(congrArg (λs=>Sem.run P s w) (aF ?_)).trans rfl;exact YW ht
     ·rename_i e1 e2;exact bh e1 (q3 _)
     ·rfl
   |ag l=>
    have hg':=hg ⟨l,rfl⟩;cases hx:ev a with
    |ag l1=>
     cases hy:ev b with
     |ag l2=>
      rw[hx] at hva;rw[hy] at hvb;generalize ρ x=v at hva ⊢;generalize ρ y=u at hvb ⊢;cases hva;cases hvb;exact⟨rfl,run_eqGuard_agg w op t x y _ _ hg'⟩
     |_=>rw[hx,hy] at hr;unfold eH at hr;cases hr
    |_=>rw[hx] at hr;unfold eH at hr;cases hr
  rcases hop with ⟨rfl,rfl⟩|⟨rfl,rfl⟩
  ·rw[CK (v:= .bool r) ho hpl.2 (by rw[YT hpl.1];simp only[dz,he,dP,ig])];exact cV.same X.rs (.b _)
  ·rw[CK (v:= .bool (!r)) ho hpl.2 (by rw[YU hpl.1];simp only[dz,he,dP,ig])];exact cV.same X.rs (.b _)
def YY {d:TypeDesc} (hd:P.underlying t=some d) {k k':Value} {b:Bool} (hs:Instr.sameNow d k k'=some b):(Op.equal t k k').run P w= .ok b w:=by
 unfold Instr.sameNow at hs;split at hs
 ·split at hs
  ·rename_i e;subst e;cases hs;exact run_equalIn_int w 9999 t _ _ _ _ hd
  ·cases hs
 ·cases hs;exact(run_equalIn_string w 9999 t _ _ hd).trans (by rw[beq_toListBytes])
 ·cases hs;exact run_equalIn_bool w 9999 t _ _ hd
 ·cases hs
def Mc {d:TypeDesc} (hd:P.underlying t=some d) {k:Value}:∀(l:List MapEntry) (n:Nat) {r:Option (Nat×Value)},Instr.findNow d k l n=some r ->(Instr.findAsking t k l n).run P w= .ok r w
 |[],n,r,hr=>by cases hr;rfl
 |e::es,n,r,hr=>by
  unfold Instr.findNow at hr;unfold Instr.findAsking;cases hs:Instr.sameNow d k e.key with
  |none=>rw[hs] at hr;cases hr
  |some b=>
   rw[hs] at hr;simp only[dz,YY hd hs,dP];cases b with
   |true=>cases hr;rfl
   |false=>exact Mc hd es (n+1) hr
def xU {d:TypeDesc} (hd:P.underlying t=some d) {k:Value} {l:List MapEntry} {r:Option (Nat×Value)} (hr:(Instr.findAsking t k l).run P w= .ok r w):(Instr.findKey t k l).run P w= .ok r w:=by
 unfold Instr.findKey;simp only[dz,dL hd,dP];cases hf:Instr.findNow d k l 0 with
 |none=>exact hr
 |some r'=>
  have:=Mc (w:=w) hd l 0 hf;rw[this] at hr;cases hr;rfl
def CP {ty:T TI} (bM:lN P ty) {m:Nat} {et:ET} {top:Bool} (aC:gF ty top m t et=true) {ka:AV} {k:Value} (hk:VR c ka k):
 ∀{l:List (AV×AV×Nat)} {l':List MapEntry},fQ c l l' ->∀(n:Nat) {q:Option (AV×AV×Nat)},jx et ka l=some q ->
  (q=none/\ (Instr.findAsking t k l' n).run P w= .ok none w)∨
  ∃e j e',q=some e/\ l[j]? =some e/\ l'[j]? =some e'/\ VR c e.1 e'.key/\ VR c e.2.1 e'.val/\ e'.born=e.2.2/\ (Instr.findAsking t k l' n).run P w= .ok (some (n+j,e'.val)) w
 |[],[],_,n,q,hq=>by cases hq;exact .inl ⟨rfl,rfl⟩
 |(a,v,b)::r,e'::r',hE,n,q,hq=>by
  obtain⟨h1,h2,h3,h4⟩:=hE;have hq':(match eH 6 et ka a with|some true=>some (some (a,v,b))|some false=>jx et ka r|none=>none)=some q:=hq;cases hv:eH 6 et ka a with
  |none=>rw[hv] at hq';cases hq'
  |some bb=>
   rw[hv] at hq';have he:(Op.equal t k e'.key).run P w= .ok bb w:=Ma bM 6 m t et top _ _ _ _ bb Op.maxDepth aC hv hk h1 (by decide);unfold Instr.findAsking;simp only[dz,he,dP];cases bb with
   |true=>
    cases hq';exact .inr ⟨_,0,e',rfl,rfl,rfl,h1,h2,h3,rfl⟩
   |false=>
    rcases CP bM aC hk h4 (n+1) hq' with ⟨k1,k2⟩|⟨e,j,e'',k1,k2,k3,k4,k5,k6,k7⟩
    ·exact .inl ⟨k1,k2⟩
    ·refine .inr ⟨e,j+1,e'',k1,by simpa using k2,by simpa using k3,k4,k5,k6,?_⟩;rw[show n+(j+1)=n+1+j by omega];exact k7
 |[],_::_,hE,_,_,_=>hE.elim
 |_::_,[],hE,_,_,_=>hE.elim
def Md {ty:T TI} (bM:lN P ty) {n:Nat} {t:TypeId} {k:EK} (aC:gF ty false n t (.lf k)=true) (em:Bool) (v:Value) (d:Nat):
 (Instr.checkKey em (d+1) t v).run P w= .ok () w:=by
 have hok':∃i,ty.get t=some i/\ CN i.kd (λe=>(ty.get e).map (·.size)) k=true/\ k≠.ifc:=by
  unfold gF at aC;split at aC<;>first|(rename_i i hi;simp only[aB,zC] at aC;exact⟨i,‹_›,aC.1,by rintro rfl;simp at aC⟩)|cases aC
 obtain⟨i,hi,hk,dc⟩:=hok';have fM:=(bM t i hi).und;unfold Instr.checkKey;simp only[dz,dL fM,dP];cases hd:i.kd<;>rw[hd] at hk<;>first|rfl|(exfalso;cases k<;>first|(cases hk;done)|exact dc rfl)
def xV (em:Bool) (d:Nat) (xs:Array Value):List Field ->Sem Unit
 |[]=>pure ()
 |f::fs=>if f.name≠ "_" then do
  let a←part f.type xs f.offset
  Instr.checkKey em d f.type a
  xV em d xs fs
  else xV em d xs fs
def YZ (em:Bool) (d:Nat) (t:TypeId) (xs:Array Value) {fs:Array Field} (ht:P.underlying t=some (.struct fs)):
 (Instr.checkKey em (d+1) t (.agg xs)).run P w=(xV em d xs fs.toList).run P w:=by
 simp only[Instr.checkKey,dz,dL ht,dP];rw[←Array.forIn_toList];generalize fs.toList=l;clear ht;induction l generalizing w with
 |nil=>simp[xV]
 |cons f l ih=>
  simp only[List.forIn_cons,xV,dz,Sem.run_ite];split
  ·generalize (part f.type xs f.offset).run P w=r1;cases r1 with
   |ok a w1=>
    simp only[dP];generalize (Instr.checkKey em d f.type a).run P w1=r2;cases r2 with
    |ok b w2=>
     simp only[dP,ig];exact ih
    |halt x w2=>simp[Result.andThen]
   |halt x w1=>simp[Result.andThen]
  ·simp only[ig,dP];exact ih
def xW (em:Bool) (d:Nat) (e:TypeId) (c:Nat) (xs:Array Value):List Nat ->Sem Unit
 |[]=>pure ()
 |i::is=>do
  let a←part e xs (i*c)
  Instr.checkKey em d e a
  xW em d e c xs is
def Za (em:Bool) (d:Nat) {t e:TypeId} {n:Nat} {i:TypeInfo} (xs:Array Value) (hu:P.underlying t=some (.array n e)) (hi:P.info? e=some i):
 (Instr.checkKey em (d+1) t (.agg xs)).run P w=(xW em d e (P.cellsOf e) xs (List.range n)).run P w:=by
 simp only[Instr.checkKey,dz,dL hu,dP];simp only[Std.Legacy.Range.forIn_eq_forIn_range',Std.Legacy.Range.size,Nat.sub_zero,Nat.add_one_sub_one,Nat.div_one,zB];generalize List.range' 0 n=is;generalize hw':w=w';clear hw';induction is generalizing w' with
 |nil=>simp[xW]
 |cons j is ih=>
  simp only[List.forIn_cons,xW,dz,run_sizeOf _ hi,dP];generalize (part e xs (j*P.cellsOf e)).run P w'=r1;cases r1 with
  |ok a w1=>
   simp only[dP];generalize (Instr.checkKey em d e a).run P w1=r2;cases r2 with
   |ok b w2=>
    simp only[dP,ig];exact ih w2
   |halt x w2=>simp[Result.andThen]
  |halt x w1=>simp[Result.andThen]
def Zb {ty:T TI} (bM:lN P ty) (em:Bool):∀(n m:Nat) (t:TypeId) (et:ET) (a:AV) (v:Value) (d:Nat),gF ty false m t et=true ->(∀l,et= .ag l ->eH n et a a=some true) ->VR c a v ->n<d ->(Instr.checkKey em d t v).run P w= .ok () w:=by
 intro n;induction n with
 |zero=>
  intro m t et a v d aC hr hv hd;obtain⟨d,rfl⟩:∃d',d=d'+1:=⟨d-1,by omega⟩;cases et with
  |lf k=>exact Md bM aC em v d
  |ag l=>have:=hr l rfl;unfold eH at this;cases this
 |succ n ih=>
  intro m t et a v d aC hr hv hd;obtain⟨d,rfl⟩:∃d',d=d'+1:=⟨d-1,by omega⟩;cases et with
  |lf k=>exact Md bM aC em v d
  |ag l=>
   replace hr:=hr l rfl;cases m with
   |zero=>cases aC
   |succ m=>
    unfold gF at aC;cases hi:ty.get t with
    |none=>rw[hi] at aC;cases aC
    |some i=>
     rw[hi] at aC;dsimp only at aC;cases hk:i.kd with
     |struct fs=>
      rw[hk] at aC;simp only[aB,jH] at aC;obtain⟨hsh,hfs⟩:=aC;have hT:=bM t i hi;have fM:=hT.und;rw[hk] at fM;cases a with
      |ag x=>
       cases hv with
       |ag _ vs hvs=>
        rw[YZ em d t _ fM];generalize fs.toList=F at hfs;clear fM hk;unfold eH at hr
        revert hr
        induction l generalizing F with
        |nil=>
         intro hr;cases F with
         |nil=>rfl
         |cons _ _=>cases hfs
        |cons f l ih2=>
         intro hr;cases F with
         |nil=>cases hfs
         |cons fd F=>
          have hfs':((decide (fd.name≠ "_")&&(match ty.get fd.type with
           |some i=>Nat.beq f.1 fd.offset&&Nat.beq f.2.1 i.size&&(f.2.2.1==i.kd.isRow)&&gF ty false m fd.type f.2.2.2
           |none=>false))&&Gd (λt e=>gF ty false m t e) ty l F)=true:=hfs
          simp only[aB,aU] at hfs';obtain⟨⟨hnm,hq⟩,hrest⟩:=hfs';cases hj:ty.get fd.type with
          |none=>rw[hj] at hq;cases hq
          |some j=>
           rw[hj] at hq;simp only[aB,bu,aU,mD] at hq;obtain⟨⟨⟨q1,q2⟩,q3⟩,q4⟩:=hq;have cy:(match sub x f.1 f.2.1,sub x f.1 f.2.1 with
            |some a,some b=>match dB f.2.2.1 a,dB f.2.2.1 b with
             |some a,some b=>match eH n f.2.2.2 a b with
              |some true=>(List.rec (motive:=λ_=>Option Bool) (some true) (λf _ ih=>
               match sub x f.1 f.2.1,sub x f.1 f.2.1 with
               |some a,some b=>match dB f.2.2.1 a,dB f.2.2.1 b with
                |some a,some b=>match eH n f.2.2.2 a b with
                 |some true=>ih
                 |r=>r
                |_,_=>none
               |_,_=>none) l:Option Bool)
              |r=>r
             |_,_=>none
            |_,_=>none)=some true:=hr
           cases s1:sub x f.1 f.2.1 with
           |none=>rw[s1] at cy;cases cy
           |some c1=>
            rw[s1] at cy;dsimp only at cy;cases m1:dB f.2.2.1 c1 with
            |none=>rw[m1] at cy;cases cy
            |some a1=>
             rw[m1] at cy;dsimp only at cy;rw[q3] at m1;obtain⟨va,p1,p2⟩:=uq (w:=w) (bM _ _ hj) hvs s1 q2 m1;rw[q1] at p1;cases hvq:eH n f.2.2.2 a1 a1 with
             |none=>rw[hvq] at cy;cases cy
             |some rr=>
              rw[hvq] at cy;cases rr with
              |false=>cases cy
              |true=>
               have he:=ih m fd.type f.2.2.2 a1 va d q4 (λ_ _=>hvq) p2 ω;unfold xV;rw[aF hnm];simp only[dz,p1,dP,he];exact ih2 F hrest cy
      |_=>unfold eH at hr;cases hr
     |array N e=>
      rw[hk] at aC;dsimp only at aC;cases hj:ty.get e with
      |none=>rw[hj] at aC;cases aC
      |some j=>
       rw[hj] at aC;dsimp only at aC;have fM:=(bM t i hi).und;rw[hk] at fM;have hJ:=bM e j hj;obtain⟨inf,zv,i1,i2,_⟩:=hJ.info;have hco:P.cellsOf e=j.size:=by simp[Program.cellsOf,i1,i2]
       cases a with
       |ag x=>
        cases hv with
        |ag _ vs hvs=>
         rw[Za em d _ fM i1,hco,zB];have eQ:=Ge aC;rw[gB] at eQ;rw[←eQ];unfold eH at hr
         revert hr aC
         generalize (0:Nat)=s;clear eQ hk fM;induction l generalizing s with
         |nil=>intro aC hr;simp[xW]
         |cons f l ih2=>
          intro aC hr;have h':((Nat.beq f.1 (s*j.size)&&Nat.beq f.2.1 j.size&&(f.2.2.1==j.kd.isRow)&&gF ty false m e f.2.2.2)&&zY (λx=>gF ty false m e x) j.size j.kd.isRow N l (s+1))=true:=aC;simp only[aB,bu,aU,mD] at h';obtain⟨⟨⟨⟨q1,q2⟩,q3⟩,q4⟩,hrest⟩:=h';have cy:(match sub x f.1 f.2.1,sub x f.1 f.2.1 with
           |some a,some b=>match dB f.2.2.1 a,dB f.2.2.1 b with
            |some a,some b=>match eH n f.2.2.2 a b with
             |some true=>(List.rec (motive:=λ_=>Option Bool) (some true) (λf _ ih=>
              match sub x f.1 f.2.1,sub x f.1 f.2.1 with
              |some a,some b=>match dB f.2.2.1 a,dB f.2.2.1 b with
               |some a,some b=>match eH n f.2.2.2 a b with
                |some true=>ih
                |r=>r
               |_,_=>none
              |_,_=>none) l:Option Bool)
             |r=>r
            |_,_=>none
           |_,_=>none)=some true:=hr
          cases s1:sub x f.1 f.2.1 with
          |none=>rw[s1] at cy;cases cy
          |some c1=>
           rw[s1] at cy;dsimp only at cy;cases m1:dB f.2.2.1 c1 with
           |none=>rw[m1] at cy;cases cy
           |some a1=>
            rw[m1] at cy;dsimp only at cy;rw[q3] at m1;obtain⟨va,p1,p2⟩:=uq (w:=w) hJ hvs s1 q2 m1;rw[q1] at p1;cases hvq:eH n f.2.2.2 a1 a1 with
            |none=>rw[hvq] at cy;cases cy
            |some rr=>
             rw[hvq] at cy;cases rr with
             |false=>cases cy
             |true=>
              have he:=ih m e f.2.2.2 a1 va d q4 (λ_ _=>hvq) p2 ω;rw[gJ,Cc];unfold xW;simp only[dz,p1,dP,he];exact ih2 (s+1) hrest cy
       |_=>unfold eH at hr;cases hr
     |_=>rw[hk] at aC;cases aC
def Gf {ty:T TI} (bM:lN P ty) {m:Nat} {t:TypeId} {et:ET} (aC:gF ty false m t et=true) {a:AV} {v:Value} (hq:j3 et a=true) (hv:VR c a v) (em:Bool):(Instr.checkKey em 10000 t v).run P w= .ok () w:=by
 refine Zb bM em 6 m t et a v 10000 aC (λl e=> ?_) hv (by decide);subst e;unfold j3 at hq;dsimp only at hq;split at hq
 ·assumption
 ·cases hq
def Zc {ty:T TI} (bM:lN P ty) (X:Cx CR c h w ev ρ) {kt vt:TypeId} (ht:P.underlying t=some (.map kt vt)) {m:Nat} {et:ET} (aC:gF ty false m kt et=true) {j:TI} (hj:ty.get vt=some j)
 {a b:MA} {x y:Operand} {z:AV} {ok:Bool} (hz:(j.kd.isRow=true/\ z= .ag j.zs)∨(j.kd.isRow=false/\ [z]=j.zs)) {kd:TI} (hkt:ty.get kt=some kd)
 (ho:o.op= .lookup t x y ok) (ha:ax a x=true) (hb:ax b y=true):
 bD P CR c h w (step ev h (.look et a b z ok)) ((execOp ρ o).run P w):=by
 have hva:=X.hE _ _ ha;have hvb:=X.hE _ _ hb;unfold step;dsimp only;cases hq:j3 et (ev b) with
 |false=>trivial
 |true=>
  simp only[jk,eU];have hzero:∃zv,(zeroValue vt).run P w= .ok zv w/\ VR c z zv:=by
   obtain⟨inf,zv,vs,h1,h2,h3,h4,h5,h6,h7,h8⟩:=(bM vt j hj).zero c;refine⟨zv,by simp[zeroValue,typeInfo,h1,h4],?_⟩;rcases hz with ⟨k1,rfl⟩|⟨k1,k2⟩
   ·exact h7 k1
   ·obtain⟨z',e1,e2,_⟩:=h8 k1;rw[e1] at k2;cases k2;exact e2
  have hchk:=λem=>Gf (w:=w) bM aC hq hvb em;have fM:=(bM kt kd hkt).und;have fin:∀(es:List (AV×AV×Nat)) (es':Array MapEntry) (q:Option (AV×AV×Nat)),fQ c es es'.toList ->jx et (ev b) es=some q ->
   ((ρ x= .map none/\ es'=#[])∨∃r cl,ρ x= .map (some r)/\ w.heap[r]? =some (.map es' cl)) ->
   bD P CR c h w (match q with
    |some e=>Bool.rec (motive:=λ_=>ay) (.v e.2.1 h) (.v (.tu [e.2.1,.b true]) h) ok
    |none=>Bool.rec (motive:=λ_=>ay) (.v z h) (.v (.tu [z,.b false]) h) ok) ((execOp ρ o).run P w):=by
   intro es es' q hE hf hm;obtain⟨zv,z1,z2⟩:=hzero;have cR:∀r v bb,(Instr.findKey kt (ρ y) es'.toList).run P w= .ok r w ->((r=none/\ v=zv/\ bb=false)∨∃k,r=some (k,v)/\ bb=true) ->
    (execOp ρ o).run P w= .ok (.value (if ok then .tuple #[v,.bool bb] else v)) w:=by
    intro r v bb hr hrv;simp only[execOp,ho,Instr.lookup,dz,dL ht,dP];rcases hm with ⟨e1,e2⟩|⟨r',cl,e1,e2⟩
    ·rw[e1];subst e2;simp only[dz,ig,dP,hchk,hr];rcases hrv with ⟨rfl,rfl,rfl⟩|⟨k,rfl,rfl⟩
     ·simp only[dz,z1,dP,ig]
     ·simp only[dz,dP,ig]
    ·rw[e1];simp only[dz];rw[tj e2];simp only[dz,ig,dP,hchk,hr];rcases hrv with ⟨rfl,rfl,rfl⟩|⟨k,rfl,rfl⟩
     ·simp only[dz,z1,dP,ig]
     ·simp only[dz,dP,ig]
   rcases CP bM aC hvb hE 0 hf with ⟨e1,e2⟩|⟨e,n,e',e1,e2,e3,e4,e5,e6,e7⟩
   ·subst e1;rw[cR _ zv false (xU fM e2) (.inl ⟨rfl,rfl,rfl⟩)];cases ok with
    |true=>exact cV.same X.rs (ut z2 (.b _))
    |false=>exact cV.same X.rs z2
   ·subst e1;rw[cR _ e'.val true (xU fM e7) (.inr ⟨_,rfl,rfl⟩)];cases ok with
    |true=>exact cV.same X.rs (ut e5 (.b _))
    |false=>exact cV.same X.rs e5
  cases hx:ev a with
  |mn=>
   rw[hx] at hva;have hr:ρ x= .map none:=by generalize ρ x=vx at hva;cases hva;rfl
   exact fin [] #[] none trivial rfl (.inl ⟨hr,rfl⟩)
  |m o'=>
   rw[hx] at hva;have hr:ρ x= .map (some (c.ρ o').1):=by generalize ρ x=vx at hva;cases hva;rfl
   have q1:c.dM o':=by generalize ρ x=vx at hva;cases hva;assumption
   dsimp only;cases hg:h.get o' with
   |none=>trivial
   |some ob=>
    cases ob with
    |map ver es cl=>
     dsimp only;obtain⟨es',n1,n2,n3,n4⟩:=X.rs.obj o' _ ⟨hg,rfl,q1⟩;cases hf:jx et (ev b) es with
     |none=>trivial
     |some q=>
      have:=fin es es' q n2 hf (.inr ⟨_,cl,hr,n1⟩);cases q<;>exact this
    |_=>trivial
  |_=>trivial
def fQ.upd {b:Nat} {k x:AV} {kv' xv:Value} (hk:VR c k kv') (hx:VR c x xv):∀{l:List (AV×AV×Nat)} {l':List MapEntry},fQ c l l' ->l.Pairwise (λx y=>x.2.2<y.2.2) ->∀{j:Nat} {e:AV×AV×Nat},l[j]? =some e ->e.2.2=b ->
 ∀{L:List (AV×AV×Nat)},mF b k x l=some L ->fQ c L (l'.modify j λe=>{ e with key:=kv',val:=xv })/\ L.map (·.2.2)=l.map (·.2.2)
 |[],_,_,_,j,e,hj,_,_,_=>by simp at hj
 |(a,v,b')::r,[],hE,_,_,_,_,_,_,_=>hE.elim
 |(a,v,b')::r,e'::r',hE,hp,j,e,hj,hb,L,hL=>by
  obtain⟨h1,h2,h3,h4⟩:=hE;have hL':(bif Nat.beq b' b then some ((k,x,b')::r) else match mF b k x r with|some t=>some ((a,v,b')::t)|none=>none)=some L:=hL;rw[bu] at hL';rw[xD] at hp;cases j with
  |zero=>
   simp only[Lp,jI] at hj;subst hj;have hb':b'=b:=hb;subst hb';simp only[mC,fC,jI] at hL';subst hL';exact⟨⟨hk,hx,h3,h4⟩,by simp⟩
  |succ j=>
   simp only[Fv] at hj;have aV:=hp.1 e (dI hj);have dc:b'≠b:=by simp only at aV;omega
   simp only[dc,decide_false,eU] at hL';cases hu:mF b k x r with
   |none=>rw[hu] at hL';cases hL'
   |some t=>
    rw[hu] at hL';cases hL';obtain⟨k1,k2⟩:=fQ.upd hk hx h4 hp.2 hj hb hu;refine⟨?_,by simp[k2]⟩;show fQ c _ (e'::r'.modify j _);exact⟨h1,h2,h3,k1⟩
def Me {a b:AV} (h:o9 a b=true):a=b:=by
 unfold o9 at h;split at h
 ·rw[nI h]
 ·exact LC h
def fQ.push {l:List (AV×AV×Nat)} {l':List MapEntry} (h:fQ c l l') {k x:AV} {kv' xv:Value} {n:Nat} (hk:VR c k kv') (hx:VR c x xv):fQ c (l++[(k,x,n)]) (l'++[{ key:=kv',val:=xv,born:=n }]):=by
 induction l generalizing l' with
 |nil=>cases l' with
  |nil=>exact⟨hk,hx,rfl,trivial⟩
  |cons _ _=>exact h.elim
 |cons a r ih=>
  obtain⟨q,v,b⟩:=a;cases l' with
  |nil=>exact h.elim
  |cons e r'=>exact⟨h.1,h.2.1,h.2.2.1,ih h.2.2.2⟩
def Mf (old new:Value):∃v w1,(Instr.keyThatStays old new).run P w= .ok v w1/\ (v=old∨v=new)/\ w1.heap=w.heap/\ w1.os=w.os/\ w1.output=w.output:=by
 unfold Instr.keyThatStays;split
 ·exact⟨new,w,rfl,.inr rfl,rfl,rfl,rfl⟩
 ·simp only[dz,run_choose];split
  ·simp only[dP,ig];exact⟨_,w,rfl,by simp,rfl,rfl,rfl⟩
  ·simp only[dP,ig];refine⟨_,_,rfl,?_,rfl,rfl,rfl⟩;split
   ·exact .inr rfl
   ·exact .inl rfl
def Gg {L l:List (AV×AV×Nat)} (h:L.map (·.2.2)=l.map (·.2.2)) (hp:l.Pairwise (λx y=>x.2.2<y.2.2)):L.Pairwise (λx y=>x.2.2<y.2.2):=by
 have h1:(l.map (·.2.2)).Pairwise (·< ·):=List.pairwise_map.2 hp;rw[←h] at h1;exact List.pairwise_map.1 h1
def Gh {L l:List (AV×AV×Nat)} (h:L.map (·.2.2)=l.map (·.2.2)) {n:Nat} (hp:∀e∈l,e.2.2<n):∀e∈L,e.2.2<n:=by
 intro e he;have:e.2.2∈L.map (·.2.2):=List.mem_map_of_mem he;rw[h] at this;obtain⟨e',k1,k2⟩:=sV.1 this;rw[←k2];exact hp e' k1
def CQ {l:List (AV×AV×Nat)} {n:Nat} {k x:AV} (hp:l.Pairwise (λx y=>x.2.2<y.2.2)) (hl:∀e∈l,e.2.2<n):(l++[(k,x,n)]).Pairwise (λx y=>x.2.2<y.2.2)/\∀e∈l++[(k,x,n)],e.2.2<n+1:=by
 refine⟨?_,?_⟩
 ·rw[List.pairwise_append];refine⟨hp,by simp,?_⟩;intro a ha b hb;simp only[fk] at hb;subst hb;exact hl a ha
 ·intro e he;rcases fO.1 he with he|he
  ·have:=hl e he;omega
  ·simp only[fk] at he;subst he;exact qI _
def Gi {α:Type} (a:Array α) (j:Nat) (f:α ->α):(a.modify j f).toList=a.toList.modify j f:=by
 simp
def Mg {ty:T TI} (bM:lN P ty) (X:Cx CR c h w ev ρ) {kt vt:TypeId} (ht:P.underlying t=some (.map kt vt)) {m:Nat} {et:ET} (aC:gF ty false m kt et=true)
 {a b d:MA} {x y u:Operand} {kd:TI} (hkt:ty.get kt=some kd)
 (ho:o.op= .mapUpdate t x y u∨o.op= .insert t x y u) (ha:ax a x=true) (hb:ax b y=true) (hd:ax d u=true):
 bD P CR c h w (step ev h (.mupd et a b d)) ((execOp ρ o).run P w):=by
 have hva:=X.hE _ _ ha;have hvb:=X.hE _ _ hb;have hvd:=X.hE _ _ hd;unfold step;dsimp only;cases hq:j3 et (ev b) with
 |false=>trivial
 |true=>
  simp only[jk,eU];have hchk:=λem=>Gf (w:=w) bM aC hq hvb em;have fM:=(bM kt kd hkt).und;have hex:∀w',(Instr.mapUpdate t (ρ x) (ρ y) (ρ u)).run P w= .ok () w' ->(execOp ρ o).run P w= .ok .skip w':=by
   intro w' e;rcases ho with ho|ho<;>simp only[execOp,ho]<;>exact zU e
  cases hx:ev a with
  |m o'=>
   rw[hx] at hva;have hr:ρ x= .map (some (c.ρ o').1):=by generalize ρ x=vx at hva;cases hva;rfl
   have q1:c.dM o':=by generalize ρ x=vx at hva;cases hva;assumption
   dsimp only;cases hg:h.get o' with
   |none=>trivial
   |some ob=>
    cases ob with
    |map ver es cl=>
     simp only[jK];obtain⟨es',n1,n2,n3,n4⟩:=X.rs.obj o' _ ⟨hg,rfl,q1⟩;cases hf:jx et (ev b) es with
     |none=>trivial
     |some q=>
      rcases CP bM aC hvb n2 0 hf with ⟨e1,e2⟩|⟨e,n,e',e1,e2,e3,e4,e5,e6,e7⟩
      ·subst e1;simp only[jz,dT,AH.put_eq];have e:=hex { w with heap:=w.heap.setIfInBounds (c.ρ o').1 (.map (es'.push { key:=ρ y,val:=ρ u,born:=cl }) (cl+1)) } (by
        simp only[Instr.mapUpdate,dz,dL ht,dP,hr];rw[tj n1];simp only[dP,dz,hchk];rw[xU fM e2];exact zW _ n1)
       rw[e];have hob:gR CR c { w with heap:=w.heap.setIfInBounds (c.ρ o').1 (.map (es'.push { key:=ρ y,val:=ρ u,born:=cl }) (cl+1)) } o' (.map (Nat.succ h.ver) (es++[(ev b,ev d,cl)]) (Nat.succ cl)):=by
        refine⟨_,wd n1,?_,(CQ n3 n4).1,(CQ n3 n4).2⟩;rw[Array.toList_push];exact n2.push hvb hvd
       exact⟨c,_,_,rfl,cH.write X.rs ⟨hg,rfl,q1⟩ (by simp) (λb hb=>vZ hb) hob _,.inr ⟨rfl,rfl⟩⟩
      ·subst e1;dsimp only;cases hke:o9 (ev b) e.1 with
       |false=>trivial
       |true=>
        have hke':=Me hke;simp only[fC];cases hu:mF e.2.2 (ev b) (ev d) es with
        |none=>trivial
        |some L=>
         simp only[AH.put_eq];obtain⟨kk,w1,s1,s2,s3,sio⟩:=Mf (P:=P) (w:=w) (((es'[n]?).map (·.key)).getD (ρ y)) (ρ y);have hkv:VR c (ev b) kk:=by
          rcases s2 with rfl|rfl
          ·have:es'[n]? =some e':=by rw[←e3];simp
           rw[this,hke'];exact e4
          ·exact hvb
         have n1':=n1;rw[←s3] at n1';have ee:=hex { w1 with heap:=w1.heap.setIfInBounds (c.ρ o').1 (.map (es'.modify n λe=>{ e with key:=kk,val:=ρ u }) cl) } (by
          simp only[Instr.mapUpdate,dz,dL ht,dP,hr];rw[tj n1];simp only[dP,dz,hchk];rw[xU fM e7];simp only[dP,dz,gB,s1];exact zW _ n1')
         rw[ee];obtain⟨u1,u2⟩:=fQ.upd hkv hvd n2 n3 e2 rfl hu;have hob:gR CR c { w1 with heap:=w1.heap.setIfInBounds (c.ρ o').1 (.map (es'.modify n λe=>{ e with key:=kk,val:=ρ u }) cl) } o' (.map (Nat.succ h.ver) L cl):=by
          refine⟨_,wd n1',?_,Gg u2 n3,Gh u2 n4⟩;rw[Gi];exact u1
         exact⟨c,_,_,rfl,cH.write X.rs ⟨hg,rfl,q1⟩ (by simp[s3]) (λb hb=>by rw[←s3];exact vZ hb) hob _ sio,.inr ⟨rfl,rfl⟩⟩
    |_=>trivial
  |_=>trivial
end
end
end AM
