import Derived.Laws.AppendOwn
import Derived.Laws.IdiomStrings
import Derived.Laws.Tables
import Derived.Lib.AppendZeros
import Derived.Lib.Builder
import Derived.Lib.UnsafeStr
import Derived.Test.YtihgjngjidijaaaGreatDoorN1
set_option linter.all false
namespace AM
open Go
noncomputable section
section
variable {P:Program} {CR:Nat ->Code ->aw ->Prop}
variable {c:CE} {h:AH} {w:World} {ev:MA ->AV} {ρ:Operand ->Value} {o:Oper} {t:TypeId} {i:TI}
def Mh {bs:ByteArray} {l:List Nat} (hb:bs.data.toList.map UInt8.toNat=l):bX c (l.map λb=>AV.i .u8 (.ofNat b)) (byteCells bs):=by
 subst hb;unfold byteCells;generalize bs.data.toList=q;induction q with
 |nil=>exact .nil
 |cons a t ih=>exact .cons _ _ _ _ (.i .u8 _) ih
def Gj:∀l:List Nat,eM (λb=>some (AV.i .u8 (.ofNat b))) l=some (l.map λb=>AV.i .u8 (.ofNat b))
 |[]=>rfl
 |a::t=>by rw[lJ,Gj t];rfl
def Mi (r:RS CR c h w) {x:AV} {v:Value} (hv:VR c x v) {esz n:Nat} {l:List AV} (he:eI h esz x=some l) (hn:ij x=some n) (ha:cF l=true) {tx:TypeId}
 (hk:(∃e',P.underlying tx=some (.slice e'))∨P.underlying tx=some .string):∃news,Src P esz tx v n news w/\ bX c l news:=by
 have slice:∀(a:Addr) (n c:Nat) (news:List Value),news.length=n*esz ->(∀j u,news[j]? =some u ->w.cell? (a.add j)=some u) ->(∀u∈news,u.oneCell'=true) ->Src P esz tx (.slice (some a) n c) n news w:=
  λa n c news hl hnews h1=>⟨hk,λ_=>rfl,Ct w esz n a n c news hl hnews,Ct w.drew esz n a n c news hl (by simpa using hnews),hl,h1⟩
 cases hv with
 |s l' bs e=>
  simp only[ij,kZ] at hn;simp only[eI] at he;rw[fv] at he;split at he
  ·rename_i h1;simp only[bu,aU] at h1;rw[Gj l'] at he;cases he;have hsz:bs.size=l'.length:=by rw[←e,kU];rfl
   cases hn;refine⟨byteCells bs,?_,Mh e⟩;rw[h1,←hsz];exact⟨hk,λ_=>rfl,firstCells_string bs w,firstCells_string bs w.drew,by rw[byteCells_length,vH],λu hu=>by
    obtain⟨_,_,rfl⟩:=sV.1 hu;rfl⟩
  ·cases he
 |sl o' off len' e' cap a N q1 q2 q3 q4 q5=>
  simp only[ij,jI] at hn;subst hn;simp only[eI] at he;rw[fv] at he;split at he
  ·rename_i h1;simp only[bu,aU] at h1;subst h1;cases hc:h.cells o' with
   |none=>rw[hc] at he;cases he
   |some cs=>
    rw[hc] at he;obtain⟨ob,hg,hlv,hob⟩:=zQ (CR:=CR) hc;obtain⟨row,t',lo,hi,vs,k1,k2,k3,k4,k5,k6⟩:=hob c w (r.obj o' _ ⟨hg,hlv,q1⟩);obtain⟨k7,rfl⟩:=lM he;have hvs:=(k4.drop off).take (len'*e');have eQ:=k4.length;have hl:((vs.drop off).take (len'*e')).length=len'*e':=by simp;omega
    refine⟨_,slice a len' N _ hl ?_ (hvs.oneCell ha),hvs⟩;intro j u hj;have bF:j<len'*e':=by have:=(eC.1 hj).1;omega
    have hN:N≠0:=by
     intro e0;subst e0;have:len'=0:=by omega
     subst this;simp at bF
    rw[q4 hN];have ea:(c.addr o' off).add j=⟨(c.ρ o').1,(c.ρ o').2+off+j,none⟩:=by simp[CE.addr,nE]
    rw[ea];rw[pW k1];rw[jZ,aF bF,mB] at hj;have:=k5 _ _ hj;rw[←this];congr 1;omega
  ·cases he
 |sn=>
  simp only[ij,jI] at hn;subst hn;simp only[eI,jI] at he;subst he;exact⟨[],⟨hk,λ_=>rfl,Cu w esz 0 0 0,Cu w.drew esz 0 0 0,by simp,λ_ h=>by cases h⟩,.nil⟩
 |ds l' off len' e' blk base N a row vs him gY hs hl ha'=>
  simp only[ij,jI] at hn;subst hn;simp only[eI] at he;rw[fv] at he;split at he
  ·rename_i h1;simp only[bu,aU] at h1;subst h1;obtain⟨t',fr,k1⟩:=r.im _ _ him;obtain⟨k7,rfl⟩:=lM he;have hvs:=(hs.drop off).take (len'*e');have eQ:=hs.length;have hll:((vs.drop off).take (len'*e')).length=len'*e':=by simp;omega
   refine⟨_,slice a len' N _ hll ?_ (hvs.oneCell ha),hvs⟩;intro j u hj;have bF:j<len'*e':=by have:=(eC.1 hj).1;omega
   have hN:len'≠0:=by intro e0;subst e0;simp at bF
   rw[ha' hN];have ea:(⟨blk,base+off,none⟩:Addr).add j=⟨blk,base+off+j,none⟩:=by simp[nE]
   rw[ea];rw[pW k1];rw[jZ,aF bF,mB] at hj;have:=gY _ _ hj;rw[←this];congr 1;omega
  ·cases he
 |_=>simp[ij] at hn
def Mj {x:AV} {esz:Nat} {l:List AV} (he:eI h esz x=some l) (hn:ij x=some 0):l=[]:=by
 cases x<;>simp only[ij,jI] at hn<;>try (cases hn;done)
 ·rename_i s;rw[kZ] at hn;have:s=[]:=pM hn;subst this;simp only[eI] at he;rw[fv] at he;split at he
  ·cases he;rfl
  ·cases he
 ·subst hn;simp only[eI] at he;rw[fv] at he;split at he
  ·split at he
   ·obtain⟨_,rfl⟩:=lM he;simp
   ·cases he
  ·cases he
 ·simp only[eI,jI] at he;exact he.symm
 ·subst hn;simp only[eI] at he;rw[fv] at he;split at he
  ·obtain⟨_,rfl⟩:=lM he;simp
  ·cases he
def Mk:∀(k need c B:Nat),c<=B ->need<=B ->Builtin.growBy need k c<=B+(B+768)/4
 |0,_,_,B,h,_=>by simp only[Builtin.growBy];omega
 |k+1,need,c,B,h,hn=>by
  simp only[Builtin.growBy];split
  ·omega
  ·by_cases hc:c+(c+768)/4<=B
   ·exact Mk k need _ B hc hn
   ·have:Builtin.growBy need k (c+(c+768)/4)=c+(c+768)/4:=by
     cases k with
     |zero=>rfl
     |succ k=>simp only[Builtin.growBy];rw[aF ω]
    rw[this];omega
def Ml (need old:Nat) (h:old<need):Builtin.nextslicecap need old<=need+need+512+(need+768)/4:=by
 unfold Builtin.nextslicecap;split
 ·omega
 ·split
  ·omega
  ·have:=Mk 4 need old need ω (bB _);omega
def Mm (z:Array Value) (n:Nat):(Builtin.zeroCells z n).size=n*z.size:=by simp[Builtin.zeroCells]
def Zd {e:TypeId} (bM:gT P e i) (r:RS CR c h w) (ht:P.underlying t=some (.slice e)) {s:AV} {sv:Value} (hs:VR c s sv) {n:Nat} {new:List AV} {news:List Value} {tx ty:TypeId} {xv:Value}
 (hsrc:Src P i.size tx xv n news w) (hnew:bX c new news) {esz:Nat} (hes:esz=i.size) (hzl:i.zs.length=i.size) (hbs:i.bytes<=1048576)
 (hex:∀v w',(Builtin.append_ #[t,tx] ty #[sv,xv]).run P w= .ok v w' ->(execOp ρ o).run P w= .ok (.value v) w'):
 bD P CR c h w (gD h s n new esz) ((execOp ρ o).run P w):=by
 subst hes;obtain⟨inf,zv,zs,i1,i2,i3,i4,i5,i6,_⟩:=bM.zero c;have hzs:zs.length=i.size:=by rw[i6.length];exact hzl
 have hsrc':Src P inf.size tx xv n news w:=by rw[i2];exact hsrc
 have hnl:news.length=n*i.size:=hsrc.newsLen;unfold gD;cases n with
 |zero=>
  have h0:news=[]:=by apply pM;simpa using hnl
  have same:∀A len cap,sv= .slice A len cap ->len<=cap ->(execOp ρ o).run P w= .ok (.value sv) w:=by
   intro A len cap e1 hle;subst e1;apply hex;have hc:=hsrc'.cells;rw[h0] at hc;rcases hsrc.kind with ⟨e',hk⟩|hk<;>
    (cases A<;>simp[Builtin.append_,dL ht,dL hk,Go.sizeOf,typeInfo,i1,hsrc.len,hle,hc,storeCells])
  cases hs with
  |sn=>
   show cV CR c h w .sn h _;rw[same none 0 0 rfl (bB _)];exact cV.same r .sn
  |sl o' off len esz cap a N q1 q2 q3 q4 q5=>
   show cV CR c h w (.sl o' off len cap esz) h _;rw[same _ _ _ rfl q3];exact cV.same r (.sl _ _ _ _ _ _ _ q1 q2 q3 q4 q5)
  |ds l off len esz blk base N a row vs him gY hss hl ha=>
   show cV CR c h w (.ds l off len esz) h _;rw[same _ _ _ rfl hl];exact cV.same r (.ds _ _ _ _ _ _ _ _ _ _ him gY hss hl ha)
  |_=>trivial
 |succ n=>
  have grow:∀(A:Option Addr) (len cap:Nat) (ie:List Value),sv= .slice A len cap ->cap<len+(n+1) ->len+(n+1)<=1048576 ->ie.length=len*i.size ->
   (∀w',w'.heap=w.heap ->(Builtin.firstCells i.size len (.slice A len cap)).run P w'= .ok ie.toArray w') ->
   ∃(N:Nat) (extra:List Value) (w':World),len+(n+1)<=N/\ (ie++news++extra).length=N*i.size/\ w'.heap=w.heap.push (.cells (ie++news++extra).toArray e)/\
    (execOp ρ o).run P w= .ok (.value (.slice (some ⟨w.heap.size,0,none⟩) (len+(n+1)) N)) w'/\ w'.os=w.os/\ w'.output=w.output:=by
   intro A len cap ie e1 aV hle hol hold;subst e1;have hfit:Builtin.nextslicecap (len+(n+1)) cap*inf.bytes<=281474976710656:=by
    have h1:=Ml (len+(n+1)) cap aV;have h2:Builtin.nextslicecap (len+(n+1)) cap*inf.bytes<=2360000*1048576:=zA ω ω;omega
   have cR:=run_append_grow_src (P:=P) w t tx ty e inf zv ht i1 i4 A len cap ie (by rw[i2];exact hold _ rfl) xv (n+1) news hsrc' aV ω hfit;have hge:=grownCap_ge w (len+(n+1)) cap e;have hsz:=Mm zv.cells (grownCap w (len+(n+1)) cap e-(len+(n+1)));refine⟨grownCap w (len+(n+1)) cap e,(Builtin.zeroCells zv.cells (grownCap w (len+(n+1)) cap e-(len+(n+1)))).toList,_,hge,?_,?_,hex _ _ cR,rfl,rfl⟩
   ·rw[dy,dy,hol,hnl,Array.length_toList,hsz,i5];simp only[zy];rw[hzs,←nq,←nq];congr 1;omega
   ·simp only[World.alloc,World.drew];congr 2;apply jW;simp
  have laid:∀(len N:Nat) (old:List AV) (ie extra:List Value) (w':World) (c':CE) (h':AH),bX c' old ie ->bX c' new news ->len+(n+1)<=N ->(ie++news++extra).length=N*i.size ->
   w'.heap=w.heap.push (.cells (ie++news++extra).toArray e) ->∀id ver,c'.dM id ->c'.ρ id=(w.heap.size,0) ->c'.sz id=N*i.size ->
   gR CR c' w' id (.cells ver (old++new))/\ VR c' (.sl id 0 (len+(n+1)) none i.size) (.slice (some ⟨w.heap.size,0,none⟩) (len+(n+1)) N):=by
   intro len N old ie extra w' c' h' v1 v2 hN eQ hw' id ver hd hρ hsz;refine⟨⟨(ie++news++extra).toArray,e,0,0,ie++news,?_,?_,?_,v1.append v2,?_,?_⟩,VR.newSl hd hρ hsz _ _ _ _ hN (λm hm=>by cases hm) (bB _)⟩
   ·rw[hρ,hw'];simp
   ·rw[hsz];simpa using eQ
   ·intro j _;omega
   ·intro j v hj;rw[hρ];simp only[gB,FB];rw[pL (eC.1 hj).1];exact hj
   ·rw[hρ];simp
  cases hs with
  |sn=>
   show bD P CR c h w (bif Nat.ble (n+1) 1048576&&cF new then h.new (.cells h.ver new) λo h=>fN (n+1) λn=> .v (.sl o 0 n none i.size) h else .bad) _;rw[fv];split
   ·rename_i hc;simp only[aB,dm,aU] at hc;obtain⟨N,extra,w',g1,g2,g3,g4,gio⟩:=grow none 0 0 [] rfl ω ω (by simp) (λw' _=>Cu w' i.size 0 0 0);rw[g4,AH.new_eq];simp only[dT];have hx:=CE.add_ext c r.fresh w.heap.size 0 (N*i.size);have:=laid 0 N [] [] extra w' (c.add h.next w.heap.size 0 (N*i.size)) h .nil (hnew.mono hx) g1 g2 g3 h.next h.ver (by simp) (by simp) (by simp);simp only[gB,gx] at this g3;exact⟨_,_,_,rfl,cH.alloc r g3 _ this.1 gio,.inl ⟨_,by rw[gB],this.2⟩⟩
   ·trivial
  |sl o' off len e' cap a N q1 q2 q3 q4 q5=>
   show bD P CR c h w (match h.cells o' with
    |none=> .bad
    |some l=>fN (len+(n+1)) λneed=>bif !(Nat.beq e' i.size&&(Nat.ble need 1048576&&cF new)) then .bad else
     match (generalizing:=false) cap with
     |some c=>
      bif Nat.ble need c then
       match dW new l (off+len*i.size) with
       |some l'=>h.put o' (.cells (Nat.succ h.ver) l') λh=> .v (.sl o' off need cap i.size) h
       |none=> .bad
      else match sub l off (len*i.size) with
       |some old=>match fy old new with
        |some l=>h.new (.cells h.ver l) λo h=> .v (.sl o 0 need none i.size) h
        |none=> .bad
       |none=> .bad
     |none=>match sub l off (len*i.size) with
      |some old=>match fy old new with
       |some l=>h.put o' .gone λh=>h.new (.cells h.ver l) λo h=> .v (.sl o 0 need none i.size) h
       |none=> .bad
      |none=> .bad) _
   cases hcs:h.cells o' with
   |none=>trivial
   |some l=>
    simp only[dT];rw[fv];split
    ·trivial
    ·rename_i hc;simp only[jH,Bool.not_eq_false,aB,bu,dm,aU] at hc;obtain⟨rfl,hc1,hc2⟩:=hc;obtain⟨ob,hg,hlv,hob⟩:=zQ (CR:=CR) hcs;obtain⟨row,t',lo,hi,vs,k1,k2,k3,k4,k5,k6⟩:=hob c w (r.obj o' _ ⟨hg,hlv,q1⟩);have klen:=k4.length;have ie:∀old,sub l off (len*i.size)=some old ->∃us,bX c old us/\ us.length=len*i.size/\ (∀w',w'.heap=w.heap ->(Builtin.firstCells i.size len (.slice (some a) len N)).run P w'= .ok us.toArray w')/\
      us=(vs.drop off).take (len*i.size):=by
      intro old ho;obtain⟨b1,rfl⟩:=lM ho;refine⟨_,(k4.drop off).take (len*i.size),by simp;omega,λw' hw'=> ?_,rfl⟩;refine Ct w' i.size len a len N _ (by simp;omega) ?_;intro j u hj;have bF:j<len*i.size:=by have:=(eC.1 hj).1;simp at this;omega
      have hN:N≠0:=by
       intro e0;have:len=0:=by omega
       subst this;simp at bF
      rw[q4 hN];have ea:(c.addr o' off).add j=⟨(c.ρ o').1,(c.ρ o').2+off+j,none⟩:=by simp[CE.addr,nE]
      rw[ea,pW (by rw[hw'];exact k1)];rw[jZ,aF bF,mB] at hj;have:=k5 _ _ hj;rw[←this];congr 1;omega
     have room:∀(c':CE),len+(n+1)<=N ->N≠0:=λ_ h=>by omega
     cases cap with
     |some k=>
      have hk:=q2 k rfl;subst hk;dsimp only;rw[fv];split
      ·rename_i hle;simp only[dm,aU] at hle;cases ho:dW new l (off+len*i.size) with
       |none=>trivial
       |some l'=>
        dsimp only;obtain⟨s1,s2⟩:=F5 r q1 hcs hnew ho (Nat.succ h.ver) (Nat.succ h.ver);have ha:=q4 ω;have cR:=run_append_room_src (P:=P) w t tx ty e inf ht i1 (c.ρ o').1 ((c.ρ o').2+off) len N xv (n+1) news hsrc' hle
         (λj hj=>by
          have:=(s1 j hj).1;rw[i2];rw[show(c.ρ o').2+off+len*i.size+j=(c.ρ o').2+(off+len*i.size)+j by omega];exact this)
         (λj hj=>by
          have:=(s1 j hj).2;rw[i2];rw[show(c.ρ o').2+off+len*i.size+j=(c.ρ o').2+(off+len*i.size)+j by omega];exact this)
        have hrun2:=hex _ _ (by rw[ha];exact cR);rw[hrun2,AH.put_eq];rw[show(c.ρ o').2+off+len*inf.size=(c.ρ o').2+(off+len*i.size) by rw[i2];omega];exact⟨_,_,_,rfl,s2,.inl ⟨_,rfl,.sl _ _ _ _ _ _ _ q1 q2 hle (λ_=>rfl) q5⟩⟩
      ·rename_i hle;simp only[dm,aU] at hle;cases ho:sub l off (len*i.size) with
       |none=>trivial
       |some old=>
        obtain⟨us,u1,u2,u3,_⟩:=ie old ho;obtain⟨N',extra,w',g1,g2,g3,g4,gio⟩:=grow (some a) len N us rfl ω hc1 u2 u3;simp only[jz,AH.new_eq];rw[g4];have hx:=CE.add_ext c r.fresh w.heap.size 0 (N'*i.size);have:=laid len N' old us extra w' (c.add h.next w.heap.size 0 (N'*i.size)) h (u1.mono hx) (hnew.mono hx) g1 g2 g3 h.next h.ver (by simp) (by simp) (by simp);exact⟨_,_,_,rfl,cH.alloc r g3 _ this.1 gio,.inl ⟨_,rfl,this.2⟩⟩
     |none=>
      dsimp only;cases ho:sub l off (len*i.size) with
      |none=>trivial
      |some old=>
       obtain⟨us,u1,u2,u3,u4⟩:=ie old ho;obtain⟨b1,_⟩:=lM ho;simp only[jz,AH.put_eq,AH.new_eq];by_cases hle:len+(n+1)<=N
       ·
        have ha:=q4 ω;have hfits:(c.ρ o').2+off+len*i.size+news.length<=row.size:=by
         rw[hnl,k2];have h1:len*i.size+(n+1)*i.size=(len+(n+1))*i.size:=(nq _ _ _).symm;have h2:(len+(n+1))*i.size<=N*i.size:=ni _ hle;omega
        have cR:=run_append_room_src (P:=P) w t tx ty e inf ht i1 (c.ρ o').1 ((c.ρ o').2+off) len N xv (n+1) news hsrc' hle
         (λj hj=>by
          rw[pW k1,i2,og ω];rfl)
         (λj hj=>by rw[i2];exact F2 k1 (k3 _ ω))
        have hrun2:=hex _ _ (by rw[ha];exact cR);rw[hrun2];refine⟨c.add h.next (c.ρ o').1 ((c.ρ o').2+off) (c.sz o'),_,_,rfl,cH.move r ⟨hg,hlv,q1⟩ (Cy _ _ _ _) (λb hb=>CA _ _ _ _ hb) _ _ _ ?_ (Cz _ _ _ _),.inl ⟨_,rfl,?_⟩⟩
        ·have hx:=CE.add_ext c r.fresh (c.ρ o').1 ((c.ρ o').2+off) (c.sz o');refine⟨_,t',lo,hi,us++news,by rw[CE.add_ρ];exact CB _ _ _ _ k1,by rw[qO,CE.add_sz];exact k2,?_,(u1.append hnew).mono hx,?_,?_⟩
         ·intro j hj;rw[qO] at hj;exact k3 j hj
         ·intro j u hj;rw[CE.add_ρ,i2,zS _ _ _ ω];by_cases hjl:j<us.length
          ·rw[aD ω];rw[pL hjl,u4,jZ,aF ω,mB] at hj;have:=k5 _ _ hj;rw[←this];congr 1;omega
          ·rw[rK ω] at hj;have:=(eC.1 hj).1;rw[aF ω,←hj];congr 1;omega
         ·rw[qO,CE.add_ρ];simp;omega
        ·refine .sl _ _ _ _ _ _ _ (by simp) (λk hk=>by cases hk) hle (λ_=> ?_) ?_
         ·simp[CE.addr]
         ·rw[CE.add_ρ,CE.add_sz];simpa using q5
       ·obtain⟨N',extra,w',g1,g2,g3,g4,gio⟩:=grow (some a) len N us rfl ω hc1 u2 u3;rw[g4];have hx:=CE.add_ext c r.fresh w.heap.size 0 (N'*i.size);have:=laid len N' old us extra w' (c.add h.next w.heap.size 0 (N'*i.size)) h (u1.mono hx) (hnew.mono hx) g1 g2 g3 h.next (Nat.succ h.ver) (by simp) (by simp) (by simp);exact⟨_,_,_,rfl,cH.leave r (r.lt _ _ hg) g3 _ _ this.1 gio,.inl ⟨_,rfl,this.2⟩⟩
  |_=>trivial
def Ze (s:AV) (n:Nat) {new:List AV} (esz:Nat) (ha:cF new=false):gD h s (n+1) new esz= .bad:=by
 cases s with
 |sn=>
  show(bif Nat.ble (n+1) 1048576&&cF new then h.new (.cells h.ver new) λo h=>fN (n+1) λn=> .v (.sl o 0 n none esz) h else .bad)=ay.bad;rw[ha];simp
 |sl o off ln cap e=>
  unfold gD;dsimp only;cases h.cells o with
  |none=>rfl
  |some l=>simp[ha,dT]
 |_=>rfl
def Zf {e:TypeId} (bM:gT P e i) (X:Cx CR c h w ev ρ) {tx:TypeId} (ht:P.underlying t=some (.slice e)) (hk:(∃e',P.underlying tx=some (.slice e'))∨(P.underlying tx=some .string)) {a b:MA} {x y:Operand}
 (ho:o.op= .call { callee:= .builtin .append,args:=#[x,y],argTypes:=#[t,tx] }) (ha:ax a x=true) (hb:ax b y=true) {es bs:Nat} (hes:es=i.size) (hzl:i.zs.length=i.size) (hbs:i.bytes<=1048576):
 bD P CR c h w (step ev h (.app a b es bs)) ((execOp ρ o).run P w):=by
 show bD P CR c h w (match ij (ev b),eI h es (ev b) with
  |some n,some l=>gD h (ev a) n l es
  |_,_=> .bad) _
 have hva:=X.hE _ _ ha;have hvb:=X.hE _ _ hb;cases h1:ij (ev b) with
 |none=>trivial
 |some n=>
  cases h2:eI h es (ev b) with
  |none=>trivial
  |some l=>
   dsimp only;have hex:∀v w',(Builtin.append_ #[t,tx] o.type #[ρ x,ρ y]).run P w= .ok v w' ->(execOp ρ o).run P w= .ok (.value v) w':=by
    intro v w' hv;simp only[execOp,ho];simp[resolve,invoke,builtin,hv]
   cases hall:cF l with
   |true=>
    obtain⟨news,s1,s2⟩:=Mi X.rs hvb (tx:=tx) h2 h1 hall hk;subst hes;exact Zd bM X.rs ht hva s1 s2 rfl hzl hbs hex
   |false=>
    cases n with
    |zero=>rw[Mj h2 h1] at hall;cases hall
    |succ n=>rw[Ze _ _ _ hall];trivial
def Zg (X:Cx CR c h w ev ρ) {ts:Array TypeId} (hts:ts[0]? =some t) {k e:TypeId} (ht:P.underlying t=some (.map k e)) {a:MA} {x:Operand} (ho:o.op= .call { callee:= .builtin .len,args:=#[x],argTypes:=ts }) (ha:ax a x=true):
 bD P CR c h w (step ev h (.len .map a)) ((execOp ρ o).run P w):=by
 show bD P CR c h w (match ev a with
  | .mn=> .v (ι (.ofNat 0)) h
  | .m o=>match h.get o with|some (.map _ es _)=>fN (len es) λn=> .v (ι (.ofNat n)) h|_=> .bad
  |_=> .bad) _
 have hv:=X.hE _ _ ha;cases hx:ev a with
 |mn=>
  rw[hx] at hv;generalize hr:ρ x=vx at hv;cases hv;have e:(execOp ρ o).run P w= .ok (.value (.int .i64 0)) w:=by
   simp only[execOp,ho];simp[resolve,invoke,builtin,Builtin.len_,hts,dL ht,hr,goInt]
  rw[e];exact cV.same X.rs (.i _ _)
 |m o'=>
  rw[hx] at hv;generalize hr:ρ x=vx at hv;cases hv with
  |m _ q1=>
   dsimp only;cases hg:h.get o' with
   |none=>trivial
   |some ob=>
    cases ob with
    |map ver es cl=>
     obtain⟨es',n1,n2,n3,n4⟩:=X.rs.obj o' _ ⟨hg,rfl,q1⟩;simp only[dT,kZ];have hl:es'.size=es.length:=by have:=n2.length;simpa using this
     have e:(execOp ρ o).run P w= .ok (.value (.int .i64 (es.length:Int))) w:=by
      simp only[execOp,ho];simp[resolve,invoke,builtin,Builtin.len_,hts,dL ht,hr,goInt,tj n1,hl]
     rw[e];exact cV.same X.rs (.i _ _)
    |_=>trivial
 |_=>trivial
def CT (lt:Int ->Int ->Bool) (f:Value ->Value ->Sem Value) (hf:∀k x k' y w,(f (.int k x) (.int k' y)).run P w= .ok (.int k (if lt y x then y else x)) w) {k:IntKind}:∀{l:List AV} {vs:List Value},bX c l vs ->∀{a:Int} {x:AV},jy lt k l a=some x ->
 ∃n,x= .i k n/\ (vs.foldlM f (.int k a)).run P w= .ok (.int k n) w
 |[],_,h,a,x,hx=>by
  cases h;cases hx;exact⟨a,rfl,rfl⟩
 |y::r,_,h,a,x,hx=>by
  cases h with
  |cons _ _ v vs hv hs=>
   have hx':(match (generalizing:=false) y with| .i _ b=>bif lt b a then jy lt k r b else jy lt k r a|_=>none)=some x:=hx;cases hv with
   |i k' b=>
    dsimp only at hx';rw[List.foldlM_cons];simp only[dz,hf,dP];rw[fv] at hx';split at hx'
    ·rename_i hc;rw[aF hc];exact CT lt f hf hs hx'
    ·rename_i hc;rw[aD hc];exact CT lt f hf hs hx'
   |_=>cases hx'
def Zh (X:Cx CR c h w ev ρ) {ts:Array TypeId} {args:List MA} {xs:Array Operand} (ho:o.op= .call { callee:= .builtin .min,args:=xs,argTypes:=ts }) (ha:jo args xs.toList=true):
 bD P CR c h w (step ev h (.min args)) ((execOp ρ o).run P w):=by
 show bD P CR c h w (match eE ev args with|some (.i k a::r)=>dr h (jy fD k r a)|_=> .bad) _;cases he:eE ev args with
 |none=>trivial
 |some l=>
  have hl:=ur X ha he;cases l with
  |nil=>trivial
  |cons y r=>
   cases y with
   |i k a=>
    generalize hm:xs.toList.map ρ=L at hl;cases hl with
    |cons _ _ v vs hv hs=>
     cases hv;dsimp only;cases hx:jy fD k r a with
     |none=>trivial
     |some x=>
      obtain⟨n,rfl,hn⟩:=CT (P:=P) (w:=w) fD Builtin.min2 (λk x k' y w=>by simp only[Builtin.min2,mI,aU];rfl) hs hx;have e:(execOp ρ o).run P w= .ok (.value (.int k n)) w:=by
       simp only[execOp,ho];simp[resolve,invoke,builtin,Builtin.min_,hm,hn]
      rw[e];exact cV.same X.rs (.i _ _)
   |_=>trivial
def Zi (X:Cx CR c h w ev ρ) {ts:Array TypeId} {args:List MA} {xs:Array Operand} (ho:o.op= .call { callee:= .builtin .max,args:=xs,argTypes:=ts }) (ha:jo args xs.toList=true):
 bD P CR c h w (step ev h (.max args)) ((execOp ρ o).run P w):=by
 show bD P CR c h w (match eE ev args with|some (.i k a::r)=>dr h (jy (λx y=>fD y x) k r a)|_=> .bad) _;cases he:eE ev args with
 |none=>trivial
 |some l=>
  have hl:=ur X ha he;cases l with
  |nil=>trivial
  |cons y r=>
   cases y with
   |i k a=>
    generalize hm:xs.toList.map ρ=L at hl;cases hl with
    |cons _ _ v vs hv hs=>
     cases hv;dsimp only;cases hx:jy (λx y=>fD y x) k r a with
     |none=>trivial
     |some x=>
      obtain⟨n,rfl,hn⟩:=CT (P:=P) (w:=w) (λx y=>fD y x) Builtin.max2 (λk x k' y w=>by simp only[Builtin.max2,mI,aU];rfl) hs hx;have e:(execOp ρ o).run P w= .ok (.value (.int k n)) w:=by
       simp only[execOp,ho];simp[resolve,invoke,builtin,Builtin.max_,hm,hn]
      rw[e];exact cV.same X.rs (.i _ _)
   |_=>trivial
def Zj (X:Cx CR c h w ev ρ) {src dst e:TypeId} (hs:P.underlying src=some .string) (hd:P.underlying dst=some (.slice e)) (he:P.underlying e=some (.int .u8)) {a:MA} {x:Operand} (ho:o.op= .convert src dst x) (ha:ax a x=true)
 {l:List Nat} (hl:ev a= .s l):
 nJ CR c w (λver=> .cells ver (l.map λb=>AV.i .u8 (.ofNat b))) (λo=> .sl o 0 l.length none 1) ((execOp ρ o).run P w):=by
 have hv:=X.hE _ _ ha;rw[hl] at hv;obtain⟨bs,hr,hbs⟩:=hv.str_inv;have hsz:bs.size=l.length:=by rw[←hbs,kU];rfl
 have cR:=run_bytes_of_string w src dst e bs hs hd he;have e1:(execOp ρ o).run P w= .ok (.value (.slice (some ⟨w.heap.size,0,none⟩) bs.size (grownCap w bs.size 0 e)))
  (w.drew.alloc (.cells (bytesRow bs (grownCap w bs.size 0 e)) e ((bytesRow bs (grownCap w bs.size 0 e)).size,(bytesRow bs (grownCap w bs.size 0 e)).size+1))):=by
  simp only[execOp,ho];refine fS ?_;rw[hr];exact cR
 rw[e1];have hge:=grownCap_ge w bs.size 0 e;generalize hN:grownCap w bs.size 0 e=N at hge;have gY:bytesRow bs N=(byteCells bs++List.replicate (N-bs.size) (Value.int .u8 0)).toArray:=by
  unfold bytesRow byteCells;apply jW;simp
 have eQ:(byteCells bs).length+(List.replicate (N-bs.size) (Value.int .u8 0)).length=N:=by rw[byteCells_length,Cs];omega
 have hrs:(bytesRow bs N).size=N:=by rw[gY];simp only[zy,dy];exact eQ
 rw[hrs,gY];refine F3 (Mh hbs) e (List.replicate (N-bs.size) (Value.int .u8 0)) (N,N+1) (λj hj=>by rw[eQ] at hj;simp;omega) rfl _ _ ?_;intro c' id hd' hρ hsz';rw[eQ] at hsz';rw[←hsz];exact VR.newSl hd' hρ hsz' _ _ _ _ hge (λm hm=>by cases hm) ω
def Zk (X:Cx CR c h w ev ρ) {src dst e:TypeId} (hs:P.underlying src=some .string) (hd:P.underlying dst=some (.slice e)) (he:P.underlying e=some (.int .u8)) {a:MA} {x:Operand} (ho:o.op= .convert src dst x) (ha:ax a x=true):
 bD P CR c h w (step ev h (.s2b a)) ((execOp ρ o).run P w):=by
 show bD P CR c h w (match ev a with
  | .s l=>match eM (λb=>some (AV.i .u8 (.ofNat b))) l with
   |some c=>fN (len l) λn=>h.new (.cells h.ver c) λo h=> .v (.sl o 0 n none 1) h
   |none=> .bad
  |_=> .bad) _
 cases hl:ev a with
 |s l=>
  dsimp only;rw[Gj];simp only[dT,kZ];exact(Zj X hs hd he ho ha hl).good X.rs
 |_=>trivial
def Gk:∀{l:List AV} {vs:List Value} {b:List Nat},bX c l vs ->mE l=some b ->∃u:List UInt8,u.map UInt8.toNat=b/\ vs=u.map λb=>Value.int .u8 (b.toNat:Int)
 |[],_,_,h,hb=>by cases h;cases hb;exact⟨[],rfl,rfl⟩
 |x::r,_,_,h,hb=>by
  cases h with
  |cons _ _ v vs hv hs=>
   unfold mE at hb;rw[lJ] at hb;cases hx:xM x with
   |none=>rw[hx] at hb;cases hb
   |some n=>
    rw[hx] at hb;cases hr:eM xM r with
    |none=>rw[hr] at hb;cases hb
    |some t=>
     rw[hr] at hb;simp only[jI] at hb;subst hb;obtain⟨u,u1,u2⟩:=Gk hs hr;unfold xM at hx;split at hx
     ·rename_i m;rw[fv] at hx;split at hx
      ·rename_i hm;simp only[dm,aU] at hm;cases hx;cases hv;have:(UInt8.ofNat n).toNat=n:=by simp;omega
       exact⟨UInt8.ofNat n::u,by simp only[jY,this,u1],by simp only[jY,this,u2];rfl⟩
      ·cases hx
     ·cases hx
def Zl (X:Cx CR c h w ev ρ) {src dst e:TypeId} (hs:P.underlying src=some (.slice e)) (he:P.underlying e=some (.int .u8)) (hd:P.underlying dst=some .string) {a:MA} {x:Operand} (ho:o.op= .convert src dst x) (ha:ax a x=true):
 bD P CR c h w (step ev h (.b2s a)) ((execOp ρ o).run P w):=by
 have hv:=X.hE _ _ ha
 suffices hh:(∀s,ev a≠.s s) ->bD P CR c h w (match eI h 1 (ev a) with
  |some l=>match mE l with|some b=> .v (.s b) h|none=> .bad
  |none=> .bad) ((execOp ρ o).run P w) by
  show bD P CR c h w (match ev a with
   | .s _=> .bad
   |y=>match eI h 1 y with
    |some l=>match mE l with|some b=> .v (.s b) h|none=> .bad
    |none=> .bad) _
  split
  ·trivial
  ·rename_i hn;exact hh hn
 intro hns;cases hel:eI h 1 (ev a) with
 |none=>trivial
 |some l=>
  dsimp only;cases hb:mE l with
  |none=>trivial
  |some b=>
   dsimp only;have fin:∀bs:ByteArray,bs.data.toList.map UInt8.toNat=b ->(convert src dst (ρ x)).run P w= .ok (.string bs) w ->bD P CR c h w (.v (.s b) h) ((execOp ρ o).run P w):=by
    intro bs h1 h2;have e:(execOp ρ o).run P w= .ok (.value (.string bs)) w:=by
     simp only[execOp,ho];exact fS h2
    rw[e];exact cV.same X.rs (.s _ _ h1)
   have go:∀(A:Addr) (n N:Nat) (us:List Value),ρ x= .slice (some A) n N ->us.length=n ->bX c l us ->(∀j u,us[j]? =some u ->w.cell? (A.add j)=some u) ->bD P CR c h w (.v (.s b) h) ((execOp ρ o).run P w):=by
    intro A n N us hr hn hus hc;obtain⟨u,u1,u2⟩:=Gk hus hb;subst u2;have hln:u.length=n:=by simpa using hn
    refine fin ⟨u.toArray⟩ (by simpa using u1) ?_;rw[hr,←hln];refine run_convert_bytes_back w src dst e A N u hs he hd (λj hj=>hc j _ ?_);simp[hj]
   cases hx:ev a with
   |s l'=>exact bh hx (hns l')
   |sl o' off len' e' cap=>
    rw[hx] at hv hel;generalize hr:ρ x=vx at hv;cases hv with
    |sl _ _ _ _ _ A N q1 q2 q3 q4 q5=>
     simp only[eI] at hel;rw[fv] at hel;split at hel
     ·cases hcs:h.cells o' with
      |none=>rw[hcs] at hel;cases hel
      |some cs=>
       rw[hcs] at hel;obtain⟨ob,hg,hlv,hob⟩:=zQ (CR:=CR) hcs;obtain⟨row,t',lo,hi,vs,k1,k2,k3,k4,k5,k6⟩:=hob c w (X.rs.obj o' _ ⟨hg,hlv,q1⟩);obtain⟨k7,rfl⟩:=lM hel;have eQ:=k4.length;refine go A len' N ((vs.drop off).take (len'*1)) hr (by simp;omega) ((k4.drop off).take _) ?_;intro j u hj;have bF:j<len'*1:=by have:=(eC.1 hj).1;simp at this;omega
       have hN:N≠0:=by intro e0;omega
       rw[q4 hN];have ea:(c.addr o' off).add j=⟨(c.ρ o').1,(c.ρ o').2+off+j,none⟩:=by simp[CE.addr,nE]
       rw[ea,pW k1];rw[jZ,aF bF,mB] at hj;have:=k5 _ _ hj;rw[←this];congr 1;omega
     ·cases hel
   |sn=>
    rw[hx] at hv hel;generalize hr:ρ x=vx at hv;cases hv;simp only[eI,jI] at hel;subst hel;cases hb;exact fin .empty rfl (by rw[hr];simp[convert,dL hs,dL hd,dL he,Conv.bytesToString])
   |ds l' off len' e'=>
    rw[hx] at hv hel;generalize hr:ρ x=vx at hv;cases hv with
    |ds _ _ _ _ blk base N A row vs him gY hss hl ha'=>
     simp only[eI] at hel;rw[fv] at hel;split at hel
     ·obtain⟨t',fr,k1⟩:=X.rs.im _ _ him;obtain⟨k7,rfl⟩:=lM hel;have eQ:=hss.length;refine go A len' N ((vs.drop off).take (len'*1)) hr (by simp;omega) ((hss.drop off).take _) ?_;intro j u hj;have bF:j<len'*1:=by have:=(eC.1 hj).1;simp at this;omega
      rw[ha' ω];have ea:(⟨blk,base+off,none⟩:Addr).add j=⟨blk,base+off+j,none⟩:=by simp[nE]
      rw[ea,pW k1];rw[jZ,aF bF,mB] at hj;have:=gY _ _ hj;rw[←this];congr 1;omega
     ·cases hel
   |_=>rw[hx] at hel;simp[eI] at hel
def pa (place:Nat ->Option (Nat×Nat)) (ps:List (Nat×Nat×MA)):List (Nat×Operand) ->Bool:=
 List.rec (motive:=λ_=>List (Nat×Operand) ->Bool) (λv=>List.isEmpty v) (λp _ ih v=>match v with
  |[]=>false
  |q::r=>(match place q.1 with|some pl=>Nat.beq pl.1 p.1&&Nat.beq pl.2 p.2.1|none=>false)&&ax p.2.2 q.2&&ih r) ps
def Mn (off:Nat):∀(vs:List Value) (k:Nat) (row:Array Value),(vs.zipIdx k).foldl (λcs (x:Value×Nat)=>cs.setIfInBounds (off+x.2) x.1) row=qN row (off+k) vs
 |[],_,_=>rfl
 |v::r,k,row=>by
  simp only[List.zipIdx_cons,zH,qN];rw[Mn off r (k+1)];rfl
def Zm {row:Array Value} {vs:List Value} {off:Nat} (h:off+vs.length<=row.size):(qN row off vs).toList=row.toList.take off++vs++row.toList.drop (off+vs.length):=by
 apply xz;intro j;have h2:(row.toList.take off++vs++row.toList.drop (off+vs.length))[j]? =if off<=j/\ j<off+vs.length then vs[j-off]? else row.toList[j]? :=by
  refine LA (c:=vs) (l:=row.toList) (n:=off) ?_ j;rw[xP,aF (by simpa using h)]
 rw[h2,vI,zS _ _ _ h];simp
def CU (X:Cx CR c h w ev ρ) {place:Nat ->Option (Nat×Nat)}:∀{ps:List (Nat×Nat×MA)} {parts:List (Nat×Operand)},pa place ps parts=true ->∀{z l:List AV} {zs:List Value},bX c z zs ->ik ev ps z=some l ->
 ∃vs:List Value,Instr.fill place zs.toArray (parts.map λx=>(x.1,ρ x.2))=some vs.toArray/\ bX c l vs
 |[],[],_,z,l,zs,hz,hf=>by
  cases hf;exact⟨zs,rfl,hz⟩
 |[],_::_,h,_,_,_,_,_=>by cases h
 |p::ps,[],h,_,_,_,_,_=>by cases h
 |p::ps,q::parts,h,z,l,zs,hz,hf=>by
  have h':((match place q.1 with|some pl=>Nat.beq pl.1 p.1&&Nat.beq pl.2 p.2.1|none=>false)&&ax p.2.2 q.2&&pa place ps parts)=true:=h;simp only[aB] at h';obtain⟨⟨h1,h2⟩,h3⟩:=h';cases hp:place q.1 with
  |none=>rw[hp] at h1;cases h1
  |some pl=>
   rw[hp] at h1;simp only[aB,bu,aU] at h1;have hf':(match cellsO (ev p.2.2) with
    |some c=>bif Nat.beq (len c) p.2.1 then (match dW c z p.1 with|some l=>ik ev ps l|none=>none) else none
    |none=>none)=some l:=hf
   cases hc:cellsO (ev p.2.2) with
   |none=>rw[hc] at hf';cases hf'
   |some cs=>
    rw[hc] at hf';dsimp only at hf';rw[fv] at hf';split at hf'
    ·rename_i eQ;simp only[bu,aU,kZ] at eQ;cases ho:dW cs z p.1 with
     |none=>rw[ho] at hf';cases hf'
     |some z'=>
      rw[ho] at hf';dsimp only at hf';obtain⟨us,u1,u2⟩:=(X.hE _ _ h2).cellsO hc;obtain⟨o1,o2⟩:=xQ ho;have hul:=u2.length;have hzl:=hz.length;have hz':bX c z' (zs.take p.1++us++zs.drop (p.1+us.length)):=by
       rw[o2,←hul];exact((hz.take _).append u2).append (hz.drop _)
      obtain⟨vs,v1,v2⟩:=CU X h3 hz' hf';refine⟨vs,?_,v2⟩;rw[jY];simp only[Instr.fill,hp];have hsz:(ρ q.2).cells.size=us.length:=by rw[u1];simp
      rw[aD (by simp only[hsz,zy,ja,aU,ne_eq];omega)];rw[←v1];congr 1;apply jW;have e1:((ρ q.2).cells.zipIdx.foldl (λcs (x:Value×Nat)=>cs.setIfInBounds (pl.1+x.2) x.1) zs.toArray)=qN zs.toArray (pl.1+0) us:=by
       rw[u1,←Mn];simp
      refine(congrArg Array.toList e1).trans ?_;rw[vG,Zm (by simp;omega),h1.1]
    ·cases hf'
def uv (ty:T TI) (fs:List Field) (k:Nat):Option (Nat×Nat):=match fs[k]? with
 |some f=>match ty.get f.type with|some i=>some (f.offset,i.size)|none=>none
 |none=>none
def z7 (ty:T TI) (fs:List Field):Bool:=fs.all λf=>(ty.get f.type).isSome
def Mo {ty:T TI} (bM:lN P ty):∀{fs:List Field},z7 ty fs=true ->∃places,fs.mapM (λf=>(P.info? f.type).map λi=>(f.offset,i.size))=some places/\∀k,places[k]? =uv ty fs k
 |[],_=>⟨[],rfl,λk=>by simp[uv]⟩
 |f::fs,h=>by
  simp only[z7,xE,aB] at h;obtain⟨places,h1,h2⟩:=Mo bM (fs:=fs) h.2;cases hf:ty.get f.type with
  |none=>rw[hf] at h;exact bh h.1 (by simp)
  |some i=>
   obtain⟨inf,zv,i1,i2,_⟩:=(bM _ _ hf).info;refine⟨(f.offset,i.size)::places,?_,?_⟩
   ·simp only[List.mapM_cons,h1,i1,i2,qH,Option.bind_eq_bind,Option.bind_some,Option.pure_def]
   ·intro k;cases k with
    |zero=>simp[uv,hf]
    |succ k=>simp only[Fv,h2];simp[uv]
def Zn {ty:T TI} (bM:lN P ty) (X:Cx CR c h w ev ρ) {fs:Array Field} (hi:ty.get t=some i) (hd:i.kd= .struct fs) (hall:z7 ty fs.toList=true) {z:List AV} (hz:z=i.zs)
 {ps:List (Nat×Nat×MA)} {parts:Array (Nat×Operand)} (ho:o.op= .build t parts) (hp:pa (uv ty fs.toList) ps parts.toList=true):
 bD P CR c h w (step ev h (.build z ps)) ((execOp ρ o).run P w):=by
 subst hz;show bD P CR c h w (match ik ev ps i.zs with|some l=> .v (.ag l) h|none=> .bad) _;cases hf:ik ev ps i.zs with
 |none=>trivial
 |some l=>
  obtain⟨inf,zv,zs,i1,i2,i3,i4,i5,i6,_⟩:=(bM t i hi).zero c;obtain⟨places,p1,p2⟩:=Mo bM hall;obtain⟨vs,v1,v2⟩:=CU X hp i6 hf;have hpl:(λk=>places.toArray[k]?)=uv ty fs.toList:=by funext k;rw[←p2];simp
  have hb:P.built t (parts.map λx=>(x.1,ρ x.2)).toList=some vs.toArray:=by
   unfold Program.built;rw[i1,(bM t i hi).und,hd];simp only[i4,p1,hpl,i5];rw[←v1];congr 1;simp
  have e:(execOp ρ o).run P w= .ok (.value (.agg vs.toArray)) w:=by
   simp only[execOp,ho];exact fS (run_build w t _ _ hb)
  rw[e];exact cV.same X.rs (.ag _ _ v2)
def Zo {ty:T TI} (bM:lN P ty) (X:Cx CR c h w ev ρ) {n:Nat} {e:TypeId} {j:TI} (hi:ty.get t=some i) (hd:i.kd= .array n e) (hj:ty.get e=some j) {z:List AV} (hz:z=i.zs)
 {ps:List (Nat×Nat×MA)} {parts:Array (Nat×Operand)} (ho:o.op= .build t parts) (hp:pa (λk=>some (k*j.size,j.size)) ps parts.toList=true):
 bD P CR c h w (step ev h (.build z ps)) ((execOp ρ o).run P w):=by
 subst hz;show bD P CR c h w (match ik ev ps i.zs with|some l=> .v (.ag l) h|none=> .bad) _;cases hf:ik ev ps i.zs with
 |none=>trivial
 |some l=>
  obtain⟨inf,zv,zs,i1,i2,i3,i4,i5,i6,_⟩:=(bM t i hi).zero c;obtain⟨inj,zj,j1,j2,_⟩:=(bM e j hj).info;obtain⟨vs,v1,v2⟩:=CU X hp i6 hf;have hb:P.built t (parts.map λx=>(x.1,ρ x.2)).toList=some vs.toArray:=by
   unfold Program.built;rw[i1,(bM t i hi).und,hd];simp only[i4,j1,j2,i5];rw[←v1];congr 1;simp
  have e:(execOp ρ o).run P w= .ok (.value (.agg vs.toArray)) w:=by
   simp only[execOp,ho];exact fS (run_build w t _ _ hb)
  rw[e];exact cV.same X.rs (.ag _ _ v2)
def Mp {ty:T TI} (bM:lN P ty) (X:Cx CR c h w ev ρ) {e:TypeId} (ht:P.underlying t=some (.slice e)) (hj:ty.get e=some i) {z:List AV} {n esz:Nat} (hz:z=(List.replicate n i.zs).flatten) (hes:esz=i.size) (hzl:i.zs.length=i.size) (hsm:n*esz<=16777216)
 {ps:List (Nat×Nat×MA)} {parts:Array (Nat×Operand)} (ho:o.op= .buildSlice t n parts) (hp:pa (λk=>some (k*i.size,i.size)) ps parts.toList=true) {l:List AV} (hf:ik ev ps z=some l):
 nJ CR c w (λver=> .cells ver l) (λo=> .sl o 0 n (some n) esz) ((execOp ρ o).run P w):=by
 subst hz hes;obtain⟨inf,zv,zs,i1,i2,i3,i4,i5,i6,_⟩:=(bM e i hj).zero c;have hzs:zs.length=i.size:=by rw[i6.length];exact hzl
 obtain⟨vs,v1,v2⟩:=CU X hp (i6.replicate n) hf;have hmc:(Array.range (n*i.size)).map (zv.cells[·%zv.cells.size]!)=(List.replicate n zs).flatten.toArray:=by
  have:=Gb zs n;rw[hzs] at this;rw[←this,i5];rfl
 have hvl:vs.length=n*i.size:=by
  have h1:=v2.length;have h2:∀{ps:List (Nat×Nat×MA)} {z l:List AV},ik ev ps z=some l ->l.length=z.length:=by
   intro ps;induction ps with
   |nil=>intro z l h;cases h;rfl
   |cons p ps ih=>
    intro z l hf;have hf':(match cellsO (ev p.2.2) with
     |some c=>bif Nat.beq (len c) p.2.1 then (match dW c z p.1 with|some l=>ik ev ps l|none=>none) else none
     |none=>none)=some l:=hf
    cases hc:cellsO (ev p.2.2) with
    |none=>rw[hc] at hf';cases hf'
    |some cs=>
     rw[hc] at hf';dsimp only at hf';rw[fv] at hf';split at hf'
     ·cases ho:dW cs z p.1 with
      |none=>rw[ho] at hf';cases hf'
      |some z'=>rw[ho] at hf';rw[ih hf',X8 ho]
     ·cases hf'
  rw[h1,h2 hf];simp[xA,hzl]
 have e1:(Instr.buildSlice t n (parts.map λx=>(x.1,ρ x.2))).run P w= .ok (.slice (some ⟨w.heap.size,0,none⟩) n n) (w.alloc (.cells vs.toArray e)):=by
  by_cases h0:n*i.size=0
  ·
   have hv0:vs=[]:=by apply pM;rw[hvl,h0]
   subst hv0;have hz0:(List.replicate n zs).flatten=[]:=by apply pM;simp[xA,hzs,h0]
   rw[hz0] at v1;have hfl:Instr.fill (λk=>some (k*i.size,i.size)) #[] (parts.toList.map λx=>(x.1,ρ x.2))=some #[]:=v1;have hm0:Array.map (λ(_:Nat)=>(default:Value)) (Array.range 0)=#[]:=by apply jW;simp
   simp[Instr.buildSlice,dL ht,Go.sizeOf,typeInfo,i1,i2,h0,newRow];rw[hm0,hfl];simp
  ·refine run_buildSlice w t e n _ _ inf zv ht i1 i4 (by rw[i2];omega) (by rw[i2];exact h0) ?_;rw[i2,hmc,←v1];congr 1;simp
 have e2:(execOp ρ o).run P w= .ok (.value (.slice (some ⟨w.heap.size,0,none⟩) n n)) (w.alloc (.cells vs.toArray e)):=by
  simp only[execOp,ho];exact fS e1
 rw[e2];exact CH v2 e rfl _ _ λc' id hd hρ hsz=>VR.newSl hd hρ hsz _ _ _ _ (bB _) (λm hm=>gC hm) ω
def Zp {ty:T TI} (bM:lN P ty) (X:Cx CR c h w ev ρ) {e:TypeId} (ht:P.underlying t=some (.slice e)) (hj:ty.get e=some i) {z:List AV} {n esz:Nat} (hz:z=(List.replicate n i.zs).flatten) (hes:esz=i.size) (hzl:i.zs.length=i.size) (hsm:n*esz<=16777216)
 {ps:List (Nat×Nat×MA)} {parts:Array (Nat×Operand)} (ho:o.op= .buildSlice t n parts) (hp:pa (λk=>some (k*i.size,i.size)) ps parts.toList=true):
 bD P CR c h w (step ev h (.bslice z n esz ps)) ((execOp ρ o).run P w):=by
 show bD P CR c h w (match ik ev ps z with
  |some l=>h.new (.cells h.ver l) λo h=> .v (.sl o 0 n (some n) esz) h
  |none=> .bad) _
 cases hf:ik ev ps z with
 |none=>trivial
 |some l=>exact(Mp bM X ht hj hz hes hzl hsm ho hp hf).good X.rs
def Mq {α:Type} (l:List α) (n:Nat) (f g:α ->α) (a:α) (h:l[n]? =some a) (e:f a=g a):l.modify n f=l.modify n g:=by
 induction l generalizing n with
 |nil=>simp at h
 |cons b r ih=>
  cases n with
  |zero=>simp at h;subst h;simp[e]
  |succ n=>simp at h;simp[ih n h]
def Zq {ty:T TI} (bM:lN P ty) (X:Cx CR c h w ev ρ) {kt vt:TypeId} (ht:P.underlying t=some (.map kt vt)) {m:Nat} {et:ET} (aC:gF ty false m kt et=true)
 {a b:MA} {x y:Operand} {kd:TI} (hkt:ty.get kt=some kd) {j:TI} (hj:ty.get vt=some j) {z:AV} (hz:(j.kd.isRow=true/\ z= .ag j.zs)∨(j.kd.isRow=false/\ [z]=j.zs))
 (ho:o.op= .mapEntry t x y) (ha:ax a x=true) (hb:ax b y=true):
 bD P CR c h w (step ev h (.ment et a b z)) ((execOp ρ o).run P w):=by
 have hva:=X.hE _ _ ha;have hvb:=X.hE _ _ hb;unfold step;dsimp only;cases hq:j3 et (ev b) with
 |false=>trivial
 |true=>
  simp only[jk,eU];have hzero:∀w:World,∃zv,(zeroValue vt).run P w= .ok zv w/\ VR c z zv:=by
   intro w;obtain⟨inf,zv,vs,h1,h2,h3,h4,h5,h6,h7,h8⟩:=(bM vt j hj).zero c;refine⟨zv,by simp[zeroValue,typeInfo,h1,h4],?_⟩;rcases hz with ⟨k1,rfl⟩|⟨k1,k2⟩
   ·exact h7 k1
   ·obtain⟨z',e1,e2,_⟩:=h8 k1;rw[e1] at k2;cases k2;exact e2
  have hchk:=λem=>Gf (w:=w) bM aC hq hvb em;have fM:=(bM kt kd hkt).und;have hex:∀v w',(Instr.mapEntry t (ρ x) (ρ y)).run P w= .ok v w' ->(execOp ρ o).run P w= .ok (.value v) w':=by
   intro v w' e;simp only[execOp,ho];exact fS e
  cases hx:ev a with
  |m o'=>
   rw[hx] at hva;have hr:ρ x= .map (some (c.ρ o').1):=by generalize ρ x=vx at hva;cases hva;rfl
   have q1:c.dM o':=by generalize ρ x=vx at hva;cases hva;assumption
   dsimp only;cases hg:h.get o' with
   |none=>trivial
   |some ob=>
    cases ob with
    |map ver es cl=>
     simp only[jK];obtain⟨es',n1,n2,n3,n4⟩:=X.rs.obj o' _ ⟨hg,rfl,q1⟩;cases hf:jx et (ev b) es with
     |none=>trivial
     |some q=>
      rcases CP bM aC hvb n2 0 hf with ⟨e1,e2⟩|⟨e,n,e',e1,e2,e3,e4,e5,e6,e7⟩
      ·subst e1;simp only[jz,dT,AH.put_eq];obtain⟨zv,z1,z2⟩:=hzero w;have e:=hex (.tuple #[zv,.int .i64 cl]) { w with heap:=w.heap.setIfInBounds (c.ρ o').1 (.map (es'.push { key:=ρ y,val:=zv,born:=cl }) (cl+1)) } (by
        simp only[Instr.mapEntry,dz,dL ht,dP,hr];rw[tj n1];simp only[dP,dz,hchk];rw[xU fM e2];simp only[dP,dz,z1];rw[zW _ n1];simp only[dP,ig];rfl)
       rw[e];have hob:gR CR c { w with heap:=w.heap.setIfInBounds (c.ρ o').1 (.map (es'.push { key:=ρ y,val:=zv,born:=cl }) (cl+1)) } o' (.map (Nat.succ h.ver) (es++[(ev b,z,cl)]) (Nat.succ cl)):=by
        refine⟨_,wd n1,?_,(CQ n3 n4).1,(CQ n3 n4).2⟩;rw[Array.toList_push];exact n2.push hvb z2
       exact⟨c,_,_,rfl,cH.write X.rs ⟨hg,rfl,q1⟩ (by simp) (λb hb=>vZ hb) hob _,.inl ⟨_,rfl,ut z2 (.i _ _)⟩⟩
      ·subst e1;dsimp only;cases hke:o9 (ev b) e.1 with
       |false=>trivial
       |true=>
        have hke':=Me hke;simp only[fC];cases hu:mF e.2.2 (ev b) e.2.1 es with
        |none=>trivial
        |some L=>
         simp only[AH.put_eq];have hge:es'[n]? =some e':=by rw[←e3];simp
         obtain⟨kk,w1,s1,s2,s3,sio⟩:=Mf (P:=P) (w:=w) (((es'[n]?).map (·.key)).getD (ρ y)) (ρ y);have hkv:VR c (ev b) kk:=by
          rcases s2 with rfl|rfl
          ·rw[hge,hke'];exact e4
          ·exact hvb
         have n1':=n1;rw[←s3] at n1';have ee:=hex (.tuple #[e'.val,.int .i64 e.2.2]) { w1 with heap:=w1.heap.setIfInBounds (c.ρ o').1 (.map (es'.modify n λe=>{ e with key:=kk }) cl) } (by
          simp only[Instr.mapEntry,dz,dL ht,dP,hr];rw[tj n1];simp only[dP,dz,hchk];rw[xU fM e7];simp only[dP,dz,gB,s1];rw[zW _ n1'];simp only[dP,ig,hge,qH,pN,e6];rfl)
         rw[ee];obtain⟨u1,u2⟩:=fQ.upd hkv e5 n2 n3 e2 rfl hu;have hob:gR CR c { w1 with heap:=w1.heap.setIfInBounds (c.ρ o').1 (.map (es'.modify n λe=>{ e with key:=kk }) cl) } o' (.map (Nat.succ h.ver) L cl):=by
          refine⟨_,wd n1',?_,Gg u2 n3,Gh u2 n4⟩;rw[Gi,Mq es'.toList n (λq=>{ q with key:=kk }) (λq=>{ q with key:=kk,val:=e'.val }) e' e3 rfl];exact u1
         exact⟨c,_,_,rfl,cH.write X.rs ⟨hg,rfl,q1⟩ (by simp[s3]) (λb hb=>by rw[←s3];exact vZ hb) hob _ sio,.inl ⟨_,rfl,ut (e5) (.i _ _)⟩⟩
    |_=>trivial
  |_=>trivial
def fQ.idx {b:Nat}:∀{l:List (AV×AV×Nat)} {l':List MapEntry},fQ c l l' ->∀{x:AV×AV×Nat},pU b l=some x ->
 ∃j e',l[j]? =some x/\ l'[j]? =some e'/\ x.2.2=b/\ VR c x.1 e'.key/\ VR c x.2.1 e'.val/\ l'.findIdx? (λe=>(e.born:Int)==(b:Int))=some j
 |[],[],_,x,hx=>by cases hx
 |(a,v,b')::r,e'::r',hE,x,hx=>by
  obtain⟨h1,h2,h3,h4⟩:=hE;have hx':(bif Nat.beq b' b then some (a,v,b') else pU b r)=some x:=hx;rw[bu] at hx';by_cases hb:b'=b
  ·simp only[hb,mC,fC,jI] at hx';subst hx';exact⟨0,e',by simp[hb],rfl,rfl,h1,h2,by simp[List.findIdx?_cons,h3,hb]⟩
  ·simp only[hb,decide_false,eU] at hx';obtain⟨j,e'',k1,k2,k3,k4,k5,k6⟩:=fQ.idx h4 hx';refine⟨j+1,e'',by simpa using k1,by simpa using k2,k3,k4,k5,?_⟩;rw[List.findIdx?_cons];have:((e'.born:Int)==(b:Int))=false:=by
    rw[h3];simp;omega
   rw[this,k6];rfl
 |[],_::_,hE,_,_=>hE.elim
 |_::_,[],hE,_,_=>hE.elim
def Zr (X:Cx CR c h w ev ρ) {a s b:MA} {x y u:Operand} (ho:o.op= .entryStore t x y u) (ha:ax a x=true) (hs:ax s y=true) (hb:ax b u=true):
 bD P CR c h w (step ev h (.mest a s b)) ((execOp ρ o).run P w):=by
 have hva:=X.hE _ _ ha;have hvb:=X.hE _ _ hb;unfold step;dsimp only;cases hx:ev a with
 |m o'=>
  cases hn:nA ev s with
  |none=>trivial
  |some bn=>
   obtain⟨q,hq⟩:=th X hs hn;rw[hx] at hva;have hr:ρ x= .map (some (c.ρ o').1):=by generalize ρ x=vx at hva;cases hva;rfl
   have q1:c.dM o':=by generalize ρ x=vx at hva;cases hva;assumption
   dsimp only;cases hg:h.get o' with
   |none=>trivial
   |some ob=>
    cases ob with
    |map ver es cl=>
     simp only[jK];obtain⟨es',n1,n2,n3,n4⟩:=X.rs.obj o' _ ⟨hg,rfl,q1⟩;cases he:pU bn es with
     |none=>trivial
     |some e=>
      dsimp only;obtain⟨j,e',k1,k2,k3,k4,k5,k6⟩:=n2.idx he;cases hu:mF bn e.1 (ev b) es with
      |none=>trivial
      |some L=>
       simp only[AH.put_eq];have hidx:es'.findIdx? (λe=>(e.born:Int)==(bn:Int))=some j:=by
        rw[←k6];cases es';simp
       have ee:(execOp ρ o).run P w= .ok .skip { w with heap:=w.heap.setIfInBounds (c.ρ o').1 (.map (es'.modify j λe=>{ e with val:=ρ u }) cl) }:=by
        simp only[execOp,ho];refine zU ?_;simp only[Instr.entryStore,hr,dz];rw[tj n1];simp only[dP,dz,hq,asInt,asIntOf,ig];rw[hidx];exact zW _ n1
       rw[ee];obtain⟨u1,u2⟩:=fQ.upd k4 hvb n2 n3 k1 k3 hu;have hob:gR CR c { w with heap:=w.heap.setIfInBounds (c.ρ o').1 (.map (es'.modify j λe=>{ e with val:=ρ u }) cl) } o' (.map (Nat.succ h.ver) L cl):=by
        refine⟨_,wd n1,?_,Gg u2 n3,Gh u2 n4⟩;rw[Gi,Mq es'.toList j (λq=>{ q with val:=ρ u }) (λq=>{ q with key:=e'.key,val:=ρ u }) e' k2 rfl];exact u1
       exact⟨c,_,_,rfl,cH.write X.rs ⟨hg,rfl,q1⟩ (by simp) (λb hb=>vZ hb) hob _,.inr ⟨rfl,rfl⟩⟩
    |_=>trivial
 |_=>trivial
structure Gl (P:Program) (name:String) (t:TypeId) (f:FuncId):Prop where
 row:∃inf m pr d,P.info? t=some inf/\ inf.methods.find? (·.name==name)=some m/\ m.path=#[]/\ m.func=some (f,pr)/\ P.underlying t=some d/\ ((∃e,d= .pointer e/\ pr=true)∨((∀e,d≠.pointer e)/\ pr=false))
def CV (P:Program) (name:String) (tbl:List (Nat×Nat)):Prop:=∀t f,xN t tbl=some f ->Gl P name t f
def Zs {name:String} {f:FuncId} (hm:Gl P name t f) (n:Nat) (v:Value):(method (n+1) t v name).run P w= .ok (f,v) w:=by
 obtain⟨inf,m,pr,d,h1,h2,h3,h4,h5,h6⟩:=hm.row;unfold method;rcases h6 with ⟨e,rfl,rfl⟩|⟨h6,rfl⟩
 ·simp[typeInfo,h1,h2,h3,h4,follow,receiverAt,dL h5,Place.get]
 ·cases d<;>first|(exact bh rfl (h6 _))|simp[typeInfo,h1,h2,h3,h4,follow,receiverAt,dL h5,Place.get]
def Zt (X:Cx CR c h w ev ρ) {r:MA} {x:Operand} {name:String} {tbl:List (Nat×Nat)} (hm:CV P name tbl) {args:List MA} {cl:Call} (hf:cl.callee= .invoke x name) (hx:ax r x=true) (ho:o.op= .call cl) (ha:jo args cl.args.toList=true):
 bD P CR c h w (step ev h (.calli r tbl args)) ((execOp ρ o).run P w):=by
 show bD P CR c h w (match ev r,eE ev args with
  | .ifc t x,some l=>match xN t tbl with|some f=> .call f (x::l) h|none=> .bad
  |_,_=> .bad) _
 have hv:=X.hE _ _ hx;cases he:ev r with
 |ifc t v=>
  cases h1:eE ev args with
  |none=>trivial
  |some l=>
   dsimp only;cases hl:xN t tbl with
   |none=>trivial
   |some f=>
    rw[he] at hv;generalize hr:ρ x=vx at hv;cases hv with
    |ifc _ _ v' q=>
     have hargs:=ur X ha h1;refine⟨rfl,v'::cl.args.toList.map ρ,.cons _ _ _ _ q hargs,?_⟩;simp only[execOp,ho,resolve,hf,hr,CL];have hmm:∀n,(method (n+1) t v' name).run P w= .ok (f,v') w:=λn=>Zs (hm t f hl) n v';have e3:List.take cl.args.size (List.map ρ cl.args.toList)=List.map ρ cl.args.toList:=vM (by simp);simp[invoke,callMethod,Made.depth,hmm,e3]
 |_=>trivial
def Gm {b:Nat} {row:Array Value} {t:TypeId} {fr:Nat×Nat} (h1:w.heap[b]? =some (.cells row t fr)):w.shape? b=some (t,row.size):=by
 unfold World.shape?;rw[h1]
def Mr (bM:gT P t i) {z:List AV} (ho:o.op= .alloc t) (hz:z=i.zs):nJ CR c w (λ_=> .tc t true z) (λo=> .p o 0) ((execOp ρ o).run P w):=by
 subst hz;obtain⟨inf,zv,vs,h1,h2,h3,h4,h5,h6,_,_⟩:=bM.zero c;have e:(execOp ρ o).run P w= .ok (.value (.pointer (some ⟨w.heap.size,0,none⟩))) { w with heap:=w.heap.push (.cells vs.toArray t) }:=by
  simp only[execOp,ho];refine fS ?_;simp[Instr.alloc,zeroValue,typeInfo,h1,h4,newVar,newRow,h5]
 rw[e];refine⟨_,_,_,vs.length,rfl,⟨rfl,rfl,rfl⟩,λc' w'' id ver hx hd hρ hz hb=>⟨⟨vs.toArray,t,0,0,vs,by rw[hρ];exact hb,by rw[hz];simp,λj _=>by omega,h6.mono hx,?_,by rw[hρ];simp,λk hk=>⟨gC hk,by rw[hρ]⟩,λ_=>by simp⟩,VR.new hd hρ 0⟩⟩;intro j u hj;rw[hρ];simpa using hj
def Zu (bM:gT P t i) (X:Cx CR c h w ev ρ) {T:Nat} (hT:T=t) {z:List AV} (ho:o.op= .alloc t) (hz:z=i.zs):bD P CR c h w (step ev h (.tal T z)) ((execOp ρ o).run P w):=by
 subst hT;exact(Mr bM ho hz).good X.rs
def Ms (X:Cx CR c h w ev ρ) {a:MA} {x:Operand} (ho:o.op= .box t x) (ha:ax a x=true) {l:List AV} (hc:cellsO (ev a)=some l):
 nJ CR c w (λ_=> .tc t true l) (λo=> .p o 0) ((execOp ρ o).run P w):=by
 obtain⟨vs,h1,h2⟩:=(X.hE _ _ ha).cellsO hc;have e:(execOp ρ o).run P w= .ok (.value (.pointer (some ⟨w.heap.size,0,none⟩))) { w with heap:=w.heap.push (.cells vs.toArray t) }:=by
  simp only[execOp,ho];refine fS ?_;simp[Instr.box,newVar,newRow,h1]
 rw[e];refine⟨_,_,_,vs.length,rfl,⟨rfl,rfl,rfl⟩,λc' w'' id ver hx hd hρ hz hb=>⟨⟨vs.toArray,t,0,0,vs,by rw[hρ];exact hb,by rw[hz];simp,λj _=>by omega,h2.mono hx,?_,by rw[hρ];simp,λk hk=>⟨gC hk,by rw[hρ]⟩,λ_=>by simp⟩,VR.new hd hρ 0⟩⟩;intro j u hj;rw[hρ];simpa using hj
def Zv (X:Cx CR c h w ev ρ) {a:MA} {T:Nat} (hT:T=t) {x:Operand} (ho:o.op= .box t x) (ha:ax a x=true):bD P CR c h w (step ev h (.tbx T a)) ((execOp ρ o).run P w):=by
 subst hT;show bD P CR c h w (match cellsO (ev a) with|some l=>h.new (.tc T true l) λo h=> .v (.p o 0) h|none=> .bad) _;cases hc:cellsO (ev a) with
 |none=>trivial
 |some l=>exact(Ms X ho ha hc).good X.rs
def Zw (bM:gT P t i) (X:Cx CR c h w ev ρ) {a y:MA} {x z:Operand} (ho:o.op= .store t x z) (ha:ax a x=true) (hy:ax y z=true) {n:Nat} (hn:n=i.size):
 bD P CR c h w (step ev h (.tst a y n)) ((execOp ρ o).run P w):=by
 show bD P CR c h w (match ev a with
  | .p o off=>match h.get o with
   |some (.tc T wh l)=>fV (ev y) λx=>match dW (cellsOf x) l off with
    |some l'=>bif cF (cellsOf x)&&Nat.beq (len (cellsOf x)) n then h.put o (.tc T wh l') λh=> .v .un h else .bad
    |none=> .bad
   |some (.cells _ l)=>fV (ev y) λx=>match dW (cellsOf x) l off with
    |some l'=>bif cF (cellsOf x)&&Nat.beq (len (cellsOf x)) n then h.put o (.cells 0 l') λh=> .v .un h else .bad
    |none=> .bad
   |_=> .bad
  |_=> .bad) _
 have hv:=X.hE _ _ ha;have hv2:=X.hE _ _ hy;cases hx:ev a with
 |p o' off=>
  dsimp only;cases hg:h.get o' with
  |none=>trivial
  |some ob=>
   cases ob with
   |tc T wh l=>
    dsimp only;rw[jK];cases hs:dW (cellsOf (ev y)) l off with
    |none=>trivial
    |some l'=>
     dsimp only;cases hc:(cF (cellsOf (ev y))&&Nat.beq (len (cellsOf (ev y))) n) with
     |false=>trivial
     |true=>
      simp only[aB,bu,aU,kZ] at hc;obtain⟨vs,e1,e2,e3⟩:=F6 hv2 hc.1;rw[hx] at hv;generalize hr:ρ x=vx at hv;cases hv with
      |p _ _ aV=>
       have hH:dU c h o' (.tc T wh l):=⟨hg,rfl,aV⟩;obtain⟨h1,h2⟩:=LJ (ob':= .tc T wh l') X.rs hH e2 hs (X.rs.obj _ _ hH) (λ_ k=>k) (Nat.succ h.ver);obtain⟨inf,zv,i1,i2,_⟩:=bM.info;have e:(execOp ρ o).run P w= .ok .skip (w.setCells (c.ρ o').1 ((c.ρ o').2+off) vs):=by
        simp only[execOp,ho];refine zU ?_;rw[hr];simp only[Instr.storeAt,Instr.sureAddr,dz,ig,dP];exact F7 t i1 _ _ _ vs e1 (by rw[e2.length,hc.2,i2];exact hn) e3 h1
       rw[e];simp only[fC,AH.put_eq];exact⟨_,_,_,rfl,h2,.inr ⟨rfl,rfl⟩⟩
   |cells v0 l=>
    dsimp only;rw[jK];cases hs:dW (cellsOf (ev y)) l off with
    |none=>trivial
    |some l'=>
     dsimp only;cases hc:(cF (cellsOf (ev y))&&Nat.beq (len (cellsOf (ev y))) n) with
     |false=>trivial
     |true=>
      simp only[aB,bu,aU,kZ] at hc;obtain⟨vs,e1,e2,e3⟩:=F6 hv2 hc.1;rw[hx] at hv;generalize hr:ρ x=vx at hv;cases hv with
      |p _ _ aV=>
       have hcl:h.cells o'=some l:=by unfold AH.cells;rw[hg]
       have hH:dU c h o' (.cells v0 l):=⟨hg,rfl,aV⟩;obtain⟨h1,h2⟩:=F5 X.rs aV hcl e2 hs 0 (Nat.succ h.ver);obtain⟨inf,zv,i1,i2,_⟩:=bM.info;have e:(execOp ρ o).run P w= .ok .skip (w.setCells (c.ρ o').1 ((c.ρ o').2+off) vs):=by
        simp only[execOp,ho];refine zU ?_;rw[hr];simp only[Instr.storeAt,Instr.sureAddr,dz,ig,dP];exact F7 t i1 _ _ _ vs e1 (by rw[e2.length,hc.2,i2];exact hn) e3 h1
       rw[e];simp only[fC,AH.put_eq];exact⟨_,_,_,rfl,h2,.inr ⟨rfl,rfl⟩⟩
   |_=>trivial
 |_=>trivial
def Zx {s:TypeId} {k:TypeId} {j:TI} (hs:P.underlying s=some (.pointer k)) (hj:gT P k j) (hz:j.size≠0) (ht:P.underlying t=some .unsafePointer) (X:Cx CR c h w ev ρ) {a:MA} {x:Operand} (ho:o.op= .convert s t x) (ha:ax a x=true):
 bD P CR c h w (step ev h (.cvp a)) ((execOp ρ o).run P w):=by
 show bD P CR c h w (match ev a with
  | .p o off=>match h.get o with
   |some (.tc _ _ l)=>bif Nat.ble (Nat.succ off) (len l) then .v (.p o off) h else .bad
   |_=> .bad
  |_=> .bad) _
 have hv:=X.hE _ _ ha;cases hx:ev a with
 |p o' off=>
  dsimp only;cases hg:h.get o' with
  |none=>trivial
  |some ob=>
   cases ob with
   |tc T wh l=>
    dsimp only;rw[fv];split
    ·rename_i hc;simp only[dm,aU,kZ] at hc;rw[hx] at hv;generalize hr:ρ x=vx at hv;cases hv with
     |p _ _ aV=>
      obtain⟨row,t',lo,hi,vs,k1,k2,k3,k4,k5,k6,k7⟩:=X.rs.obj o' (.tc T wh l) ⟨hg,rfl,aV⟩;have eQ:=k4.length;obtain⟨inf,zv,i1,i2,_⟩:=hj.info;have e:(execOp ρ o).run P w= .ok (.value (.pointer (some (c.addr o' off)))) w:=by
       simp only[execOp,ho];refine fS ?_;rw[hr];exact Lib.run_to_unsafe w (c.addr o' off) hs ht i1 (by rw[i2];exact hz) (Gm k1) (show(c.ρ o').2+off<row.size by omega)
      rw[e];exact cV.same X.rs (.p _ _ aV)
    ·trivial
   |_=>trivial
 |_=>trivial
def Mt {T n off:Nat}:∀{l:List (Nat×Nat×Nat)},zL T n off l=true ->(T,n,off)∈l
 |[],h=>by cases h
 |(a,b,d)::r,h=>by
  have h':(Nat.beq a T&&(Nat.beq b n&&Nat.beq d off)||zL T n off r)=true:=h;simp only[ja,aB,bu,aU] at h';rcases h' with ⟨rfl,rfl,rfl⟩|h'
  ·exact jG
  ·exact jw _ (Mt h')
def Zy {s:TypeId} {u:TypeId} {j:TI} (hs:P.underlying s=some .unsafePointer) (ht:P.underlying t=some (.pointer u)) (hj:gT P u j) {tbl:List (Nat×Nat×Nat)}
 (htb:∀q∈tbl,liesAt P P.depth q.1 (q.2.1/P.cellsOf q.1) q.2.2 u 1=true) (X:Cx CR c h w ev ρ) {a:MA} {x:Operand} (ho:o.op= .convert s t x) (ha:ax a x=true):
 bD P CR c h w (step ev h (.cvu tbl a)) ((execOp ρ o).run P w):=by
 show bD P CR c h w (match ev a with
  | .p o off=>match h.get o with
   |some (.tc T true l)=>bif zL T (len l) off tbl then .v (.p o off) h else .bad
   |_=> .bad
  |_=> .bad) _
 have hv:=X.hE _ _ ha;cases hx:ev a with
 |p o' off=>
  dsimp only;cases hg:h.get o' with
  |none=>trivial
  |some ob=>
   cases ob with
   |tc T wh l=>
    cases wh with
    |false=>trivial
    |true=>
    dsimp only;rw[fv];split
    ·rename_i hc;have hm:=htb _ (Mt hc);rw[kZ] at hm;rw[hx] at hv;generalize hr:ρ x=vx at hv;cases hv with
     |p _ _ aV=>
      obtain⟨row,t',lo,hi,vs,k1,k2,k3,k4,k5,k6,k7,k8⟩:=X.rs.obj o' (.tc T true l) ⟨hg,rfl,aV⟩;obtain⟨rfl,k9⟩:=k7 T rfl;have eQ:=k4.length;have gY:row.size=l.length:=by rw[k8 rfl];omega
      obtain⟨inf,zv,i1,i2,_⟩:=hj.info;have e:(execOp ρ o).run P w= .ok (.value (.pointer (some (c.addr o' off)))) w:=by
       simp only[execOp,ho];refine fS ?_;rw[hr];refine Lib.run_from_unsafe w (c.addr o' off) hs ht i1 (Gm k1) ?_;show liesAt P P.depth t' (row.size/P.cellsOf t') ((c.ρ o').2+off) u 1=true;rw[gY,k9,gB];exact hm
      rw[e];exact cV.same X.rs (.p _ _ aV)
    ·trivial
   |_=>trivial
 |_=>trivial
def Zz (X:Cx CR c h w ev ρ) {ts:Array TypeId} {a:MA} {x:Operand} (ho:o.op= .call { callee:= .builtin .unsafeSliceData,args:=#[x],argTypes:=ts }) (ha:ax a x=true):
 bD P CR c h w (step ev h (.usd a)) ((execOp ρ o).run P w):=by
 show bD P CR c h w (match ev a with
  | .sn=> .v .pn h
  | .sl o off (n+1) c e=> .v (.p o off) h
  |_=> .bad) _
 have hv:=X.hE _ _ ha;have key:∀v q,ρ x=v ->(Builtin.unsafeSliceData_ ts o.type #[v]).run P w= .ok q w ->(execOp ρ o).run P w= .ok (.value q) w:=by
  intro v q hr e;simp only[execOp,ho];simp[resolve,invoke,builtin,hr,e]
 cases hx:ev a with
 |sn=>
  rw[hx] at hv;generalize hr:ρ x=vx at hv;cases hv;rw[key _ _ hr (Lib.run_unsafeSliceData_nil w _ _ _ _)];exact cV.same X.rs .pn
 |sl o' off n cap esz=>
  rw[hx] at hv;generalize hr:ρ x=vx at hv;cases n with
  |zero=>trivial
  |succ n=>
   cases hv with
   |sl _ _ _ _ _ A N q1 q2 q3 q4 q5=>
    rw[key _ _ hr (Lib.run_unsafeSliceData_row w _ _ A _ _ ω),q4 ω];exact cV.same X.rs (.p _ _ q1)
 |_=>trivial
def ZA {pt it e:TypeId} (hp:P.underlying pt=some (.pointer e)) (hc1:P.cellsOf e=1) (X:Cx CR c h w ev ρ) {a b:MA} {x y:Operand} (ho:o.op= .call { callee:= .builtin .unsafeString,args:=#[x,y],argTypes:=#[pt,it] })
 (ha:ax a x=true) (hb:ax b y=true) {T:Nat} (hT:T=e):
 bD P CR c h w (step ev h (.ust T a b)) ((execOp ρ o).run P w):=by
 subst hT;show bD P CR c h w (match ev b with
  | .i .i64 (.ofNat 0)=>(match ev a with| .pn=> .v (.s []) h|_=> .bad)
  | .i .i64 (.ofNat (n+1))=>(match ev a with
   | .p o 0=>match h.get o with
    |some (.tc T' _ l)=>bif Nat.beq T' T&&Nat.ble n 1048576 then (match sub l 0 (Nat.succ n) with
     |some c=>match mE c with
      |some b=>h.put o .gone λh=> .v (.s b) h
      |none=> .bad
     |none=> .bad) else .bad
    |_=> .bad
   |_=> .bad)
  |_=> .bad) _
 have hv:=X.hE _ _ ha;have hw:=X.hE _ _ hb;have key:∀vx v q W,ρ x=vx ->ρ y=v ->(Builtin.unsafeString_ #[pt,it] o.type #[vx,v]).run P w= .ok q W ->(execOp ρ o).run P w= .ok (.value q) W:=by
  intro vx v q W hr1 hr e;simp only[execOp,ho];simp[resolve,invoke,builtin,hr,hr1,e]
 cases hn:ev b with
 |i k m=>
  rw[hn] at hw;have hy:=hw.int_inv;cases k with
  |i64=>
   cases m with
   |negSucc m=>trivial
   |ofNat m=>
    cases m with
    |zero=>
     cases hx:ev a with
     |pn=>
      rw[hx] at hv;generalize hr:ρ x=vx at hv;cases hv;rw[key _ _ _ _ hr hy (Lib.run_unsafeString_none w pt it _ none)];exact cV.same X.rs (.s [] .empty rfl)
     |_=>trivial
    |succ n=>
     cases hx:ev a with
     |p o' off=>
      cases off with
      |succ _=>trivial
      |zero=>
       show bD P CR c h w (match h.get o' with
        |some (.tc T' _ l)=>bif Nat.beq T' T&&Nat.ble n 1048576 then (match sub l 0 (Nat.succ n) with
         |some c=>match mE c with
          |some b=>h.put o' .gone λh=> .v (.s b) h
          |none=> .bad
         |none=> .bad) else .bad
        |_=> .bad) _
       cases hg:h.get o' with
       |none=>trivial
       |some ob=>
        cases ob with
        |tc T' wh l=>
         dsimp only;rw[fv];split
         ·rename_i hc;simp only[aB,bu,dm,aU] at hc;obtain⟨rfl,hc2⟩:=hc;cases hs:sub l 0 (Nat.succ n) with
          |none=>trivial
          |some cl=>
           dsimp only;cases hby:mE cl with
           |none=>trivial
           |some bl=>
            dsimp only;rw[AH.put_eq];rw[hx] at hv;generalize hr:ρ x=vx at hv;cases hv with
            |p _ _ aV=>
             have hH:dU c h o' (.tc T' wh l):=⟨hg,rfl,aV⟩;obtain⟨row,t',lo,hi,vs,k1,k2,k3,k4,k5,k6,k7,_⟩:=X.rs.obj o' _ hH;obtain⟨rfl,k9⟩:=k7 T' rfl;obtain⟨g1,rfl⟩:=lM hs;obtain⟨u,u1,u2⟩:=Gk ((k4.drop 0).take (Nat.succ n)) hby;have eQ:=k4.length;have hul:u.length=n+1:=by
              have:((vs.drop 0).take (Nat.succ n)).length=u.length:=by rw[u2];simp
              rw[←this];simp;omega
             have ea:c.addr o' 0=⟨(c.ρ o').1,0,none⟩:=by simp[CE.addr,k9]
             have e:=key _ _ (.string ⟨u.toArray⟩) (w.freeze ⟨(c.ρ o').1,0,none⟩ u.length) hr hy (by
              rw[ea,show(Int.ofNat (n+1))=((u.length:Nat):Int) by rw[hul];rfl];refine Lib.run_unsafeString_row w pt it _ t' hp hc1 _ _ (Gm k1) u (λe0=>by subst e0;simp at hul) ω ω λj z hj=> ?_;have hjl:=(eC.1 hj).1;have ej:(⟨(c.ρ o').1,0,none⟩:Addr).add j=⟨(c.ρ o').1,j,none⟩:=by simp[nE]
              rw[ej,pW k1];have h1:((vs.drop 0).take (Nat.succ n))[j]? =some (Value.int .u8 z.toNat):=by rw[u2];simp[hj]
              rw[jZ,aF ω,mB,gB] at h1;have:=k5 _ _ h1
              rwa [k9,gB] at this)
             rw[e];have hfh:∀q,q≠(c.ρ o').1 ->(w.freeze ⟨(c.ρ o').1,0,none⟩ u.length).heap[q]? =w.heap[q]? :=by
              intro q hq;unfold World.freeze;split
              ·rfl
              ·simp only[FH];rw[aD (λe=>hq e.symm)]
             have hfs:(w.freeze ⟨(c.ρ o').1,0,none⟩ u.length).heap.size=w.heap.size:=by
              unfold World.freeze;split<;>simp
             exact⟨c,_,_,rfl,cH.write X.rs hH hfs hfh (obj':= .gone) trivial _ (by unfold World.freeze;split<;>exact⟨rfl,rfl⟩),.inl ⟨_,rfl,.s _ _ u1⟩⟩
         ·trivial
        |_=>trivial
     |_=>trivial
  |_=>trivial
 |_=>trivial
def ZB {e:TypeId} (bM:gT P e i) (r:RS CR c h w) (ht:P.underlying t=some (.slice e)) {s:AV} {sv:Value} (hs:VR c s sv) {n:Nat} {new:List AV} {news:List Value} {tx ty:TypeId} {xv:Value}
 (hsrc:Src P i.size tx xv n news w) (hnew:bX c new news) {esz:Nat} (hes:esz=i.size) (hzl:i.zs.length=i.size) (hbs:i.bytes<=1048576)
 (hex:∀v w',(Builtin.append_ #[t,tx] ty #[sv,xv]).run P w= .ok v w' ->(execOp ρ o).run P w= .ok (.value v) w'):
 bD P CR c h w (vO h e s n new esz) ((execOp ρ o).run P w):=by
 subst hes;obtain⟨inf,zv,zs,i1,i2,i3,i4,i5,i6,_⟩:=bM.zero c;have hzs:zs.length=i.size:=by rw[i6.length];exact hzl
 have hsrc':Src P inf.size tx xv n news w:=by rw[i2];exact hsrc
 have hnl:news.length=n*i.size:=hsrc.newsLen;unfold vO;cases n with
 |zero=>
  have h0:news=[]:=by apply pM;simpa using hnl
  have same:∀A len cap,sv= .slice A len cap ->len<=cap ->(execOp ρ o).run P w= .ok (.value sv) w:=by
   intro A len cap e1 hle;subst e1;apply hex;have hc:=hsrc'.cells;rw[h0] at hc;rcases hsrc.kind with ⟨e',hk⟩|hk<;>
    (cases A<;>simp[Builtin.append_,dL ht,dL hk,Go.sizeOf,typeInfo,i1,hsrc.len,hle,hc,storeCells])
  cases hs with
  |sn=>
   show cV CR c h w .sn h _;rw[same none 0 0 rfl (bB _)];exact cV.same r .sn
  |sl o' off len esz cap a N q1 q2 q3 q4 q5=>
   show cV CR c h w (.sl o' off len cap esz) h _;rw[same _ _ _ rfl q3];exact cV.same r (.sl _ _ _ _ _ _ _ q1 q2 q3 q4 q5)
  |ds l off len esz blk base N a row vs him gY hss hl ha=>
   show cV CR c h w (.ds l off len esz) h _;rw[same _ _ _ rfl hl];exact cV.same r (.ds _ _ _ _ _ _ _ _ _ _ him gY hss hl ha)
  |_=>trivial
 |succ n=>
  have grow:∀(A:Option Addr) (len cap:Nat) (ie:List Value),sv= .slice A len cap ->cap<len+(n+1) ->len+(n+1)<=1048576 ->ie.length=len*i.size ->
   (∀w',w'.heap=w.heap ->(Builtin.firstCells i.size len (.slice A len cap)).run P w'= .ok ie.toArray w') ->
   ∃(N:Nat) (extra:List Value) (w':World),len+(n+1)<=N/\ (ie++news++extra).length=N*i.size/\ w'.heap=w.heap.push (.cells (ie++news++extra).toArray e)/\
    (execOp ρ o).run P w= .ok (.value (.slice (some ⟨w.heap.size,0,none⟩) (len+(n+1)) N)) w'/\ w'.os=w.os/\ w'.output=w.output:=by
   intro A len cap ie e1 aV hle hol hold;subst e1;have hfit:Builtin.nextslicecap (len+(n+1)) cap*inf.bytes<=281474976710656:=by
    have h1:=Ml (len+(n+1)) cap aV;have h2:Builtin.nextslicecap (len+(n+1)) cap*inf.bytes<=2360000*1048576:=zA ω ω;omega
   have cR:=run_append_grow_src (P:=P) w t tx ty e inf zv ht i1 i4 A len cap ie (by rw[i2];exact hold _ rfl) xv (n+1) news hsrc' aV ω hfit;have hge:=grownCap_ge w (len+(n+1)) cap e;have hsz:=Mm zv.cells (grownCap w (len+(n+1)) cap e-(len+(n+1)));refine⟨grownCap w (len+(n+1)) cap e,(Builtin.zeroCells zv.cells (grownCap w (len+(n+1)) cap e-(len+(n+1)))).toList,_,hge,?_,?_,hex _ _ cR,rfl,rfl⟩
   ·rw[dy,dy,hol,hnl,Array.length_toList,hsz,i5];simp only[zy];rw[hzs,←nq,←nq];congr 1;omega
   ·simp only[World.alloc,World.drew];congr 2;apply jW;simp
  have laid:∀(len N:Nat) (old:List AV) (ie extra:List Value) (w':World) (c':CE),bX c' old ie ->bX c' new news ->len+(n+1)<=N ->(ie++news++extra).length=N*i.size ->
   w'.heap=w.heap.push (.cells (ie++news++extra).toArray e) ->∀id,c'.dM id ->c'.ρ id=(w.heap.size,0) ->c'.sz id=N*i.size ->
   gR CR c' w' id (.tc e false (old++new))/\ VR c' (.sl id 0 (len+(n+1)) none i.size) (.slice (some ⟨w.heap.size,0,none⟩) (len+(n+1)) N):=by
   intro len N old ie extra w' c' v1 v2 hN eQ hw' id hd hρ hsz;refine⟨⟨(ie++news++extra).toArray,e,0,0,ie++news,?_,?_,?_,v1.append v2,?_,?_,λk hk=>⟨gC hk,by rw[hρ]⟩,λhk=>by cases hk⟩,VR.newSl hd hρ hsz _ _ _ _ hN (λm hm=>by cases hm) (bB _)⟩
   ·rw[hρ,hw'];simp
   ·rw[hsz];simpa using eQ
   ·intro j _;omega
   ·intro j v hj;rw[hρ];simp only[gB,FB];rw[pL (eC.1 hj).1];exact hj
   ·rw[hρ];simp
  cases hs with
  |sn=>
   show bD P CR c h w (bif Nat.ble (n+1) 1048576&&cF new then h.new (.tc e false new) λo h=>fN (n+1) λn=> .v (.sl o 0 n none i.size) h else .bad) _;rw[fv];split
   ·rename_i hc;simp only[aB,dm,aU] at hc;obtain⟨N,extra,w',g1,g2,g3,g4,gio⟩:=grow none 0 0 [] rfl ω ω (by simp) (λw' _=>Cu w' i.size 0 0 0);rw[g4,AH.new_eq];simp only[dT];have hx:=CE.add_ext c r.fresh w.heap.size 0 (N*i.size);have:=laid 0 N [] [] extra w' (c.add h.next w.heap.size 0 (N*i.size)) .nil (hnew.mono hx) g1 g2 g3 h.next (by simp) (by simp) (by simp);simp only[gB,gx] at this g3;exact⟨_,_,_,rfl,cH.alloc r g3 _ this.1 gio,.inl ⟨_,by rw[gB],this.2⟩⟩
   ·trivial
  |sl o' off len e' cap a N q1 q2 q3 q4 q5=>
   cases cap with
   |some _=>cases off<;>trivial
   |none=>
   cases off with
   |succ _=>trivial
   |zero=>
   show bD P CR c h w (match h.get o' with
    |some (.tc T' _ l)=>fN (len+(n+1)) λneed=>bif !(Nat.beq T' e&&(Nat.beq e' i.size&&(Nat.ble need 1048576&&cF new))) then .bad else
     match sub l 0 (len*i.size) with
     |some old=>match fy old new with
      |some l=>h.put o' .gone λh=>h.new (.tc e false l) λo h=> .v (.sl o 0 need none i.size) h
      |none=> .bad
     |none=> .bad
    |_=> .bad) _
   cases hg:h.get o' with
   |none=>trivial
   |some ob=>
    cases ob with
    |tc T' wh l=>
     simp only[dT];rw[fv];split
     ·trivial
     ·rename_i hc;simp only[jH,Bool.not_eq_false,aB,bu,dm,aU] at hc;obtain⟨rfl,rfl,hc1,hc2⟩:=hc;have hH:dU c h o' (.tc T' wh l):=⟨hg,rfl,q1⟩;obtain⟨row,t',lo,hi,vs,k1,k2,k3,k4,k5,k6,k7,_⟩:=r.obj o' _ hH;obtain⟨rfl,k9⟩:=k7 T' rfl;have klen:=k4.length;cases ho:sub l 0 (len*i.size) with
      |none=>trivial
      |some old=>
       obtain⟨us,u1,u2,u3,u4⟩:∃us,bX c old us/\ us.length=len*i.size/\ (∀w',w'.heap=w.heap ->(Builtin.firstCells i.size len (.slice (some a) len N)).run P w'= .ok us.toArray w')/\
        us=(vs.drop 0).take (len*i.size):=by
        obtain⟨b1,rfl⟩:=lM ho;refine⟨_,(k4.drop 0).take (len*i.size),by simp;omega,λw' hw'=> ?_,rfl⟩;refine Ct w' i.size len a len N _ (by simp;omega) ?_;intro j u hj;have bF:j<len*i.size:=by have:=(eC.1 hj).1;simp at this;omega
        have hN:N≠0:=by
         intro e0;have:len=0:=by omega
         subst this;simp at bF
        rw[q4 hN];have ea:(c.addr o' 0).add j=⟨(c.ρ o').1,(c.ρ o').2+j,none⟩:=by simp[CE.addr,nE]
        rw[ea,pW (by rw[hw'];exact k1)];rw[jZ,aF bF,mB,gB] at hj;exact k5 _ _ hj
       obtain⟨b1,_⟩:=lM ho;simp only[jz,AH.put_eq,AH.new_eq];by_cases hle:len+(n+1)<=N
       ·have ha:=q4 ω;have hfits:(c.ρ o').2+len*i.size+news.length<=row.size:=by
         rw[hnl,k2];have h1:len*i.size+(n+1)*i.size=(len+(n+1))*i.size:=(nq _ _ _).symm;have h2:(len+(n+1))*i.size<=N*i.size:=ni _ hle;omega
        have cR:=run_append_room_src (P:=P) w t tx ty t' inf ht i1 (c.ρ o').1 ((c.ρ o').2+0) len N xv (n+1) news hsrc' hle
         (λj hj=>by
          rw[pW k1,i2,og ω];rfl)
         (λj hj=>by rw[i2];exact F2 k1 (k3 _ ω))
        have hrun2:=hex _ _ (by rw[ha];exact cR);rw[hrun2];refine⟨c.add h.next (c.ρ o').1 ((c.ρ o').2+0) (c.sz o'),_,_,rfl,cH.move r hH (Cy _ _ _ _) (λb hb=>CA _ _ _ _ hb) _ _ _ ?_ (Cz _ _ _ _),.inl ⟨_,rfl,?_⟩⟩
        ·have hx:=CE.add_ext c r.fresh (c.ρ o').1 ((c.ρ o').2+0) (c.sz o');refine⟨_,t',lo,hi,us++news,by rw[CE.add_ρ];exact CB _ _ _ _ k1,by rw[qO,CE.add_sz];exact k2,?_,(u1.append hnew).mono hx,?_,?_,λk hk=>⟨gC hk,by rw[CE.add_ρ];exact k9⟩,λhk=>by cases hk⟩
         ·intro j hj;rw[qO] at hj;exact k3 j hj
         ·intro j u hj;rw[CE.add_ρ,i2,zS _ _ _ ω];by_cases hjl:j<us.length
          ·rw[aD ω];rw[pL hjl,u4,jZ,aF ω,mB] at hj;have:=k5 _ _ hj;rw[←this];congr 1;omega
          ·rw[rK ω] at hj;have:=(eC.1 hj).1;rw[aF ω,←hj];congr 1;omega
         ·rw[qO,CE.add_ρ];simp;omega
        ·refine .sl _ _ _ _ _ _ _ (by simp) (λk hk=>by cases hk) hle (λ_=> ?_) ?_
         ·simp[CE.addr]
         ·rw[CE.add_ρ,CE.add_sz];simpa using q5
       ·obtain⟨N',extra,w',g1,g2,g3,g4,gio⟩:=grow (some a) len N us rfl ω hc1 u2 u3;rw[g4];have hx:=CE.add_ext c r.fresh w.heap.size 0 (N'*i.size);have:=laid len N' old us extra w' (c.add h.next w.heap.size 0 (N'*i.size)) (u1.mono hx) (hnew.mono hx) g1 g2 g3 h.next (by simp) (by simp) (by simp);exact⟨_,_,_,rfl,cH.leave r (r.lt _ _ hg) g3 _ _ this.1 gio,.inl ⟨_,rfl,this.2⟩⟩
    |_=>trivial
  |_=>trivial
def ZC {e:TypeId} (bM:gT P e i) (X:Cx CR c h w ev ρ) {tx:TypeId} (ht:P.underlying t=some (.slice e)) {kn:IntKind} (hk:P.underlying tx=some (.int kn)) {a b:MA} {x y:Operand}
 (ho:o.op= .call { callee:= .builtin .append,args:=#[x,y],argTypes:=#[t,tx] }) (ha:ax a x=true) (hb:ax b y=true) {z:List AV} {es:Nat} (hz:z=i.zs) (hes:es=i.size) (hzl:z.length=es) (h0:0<es) (hbs:i.bytes<=1048576)
 (h1:ev a= .sn) {n:Nat} (h2:nA ev b=some (n+1)) (hn:n<=1000000):
 nJ CR c w (λver=> .cells ver (List.replicate (n+1) z).flatten) (λo=> .sl o 0 (n+1) none es) ((execOp ρ o).run P w):=by
 subst hz;have hv:=X.hE _ _ ha;rw[h1] at hv;generalize hr:ρ x=vx at hv;cases hv;obtain⟨q,hq⟩:=th X hb h2;obtain⟨inf,zv,vs,i1,i2,i3,i4,i5,i6,_⟩:=bM.zero c;have hvl:vs.length=es:=by rw[i6.length];exact hzl
 have hbb:(n+1)*inf.bytes<=281474976710656:=by
  have:(n+1)*inf.bytes<=1000001*1048576:=zA ω ω;omega
 have cR:=Lib.run_append_nil_zeros (P:=P) w t tx o.type e inf zv q kn ht hk i1 i4 (n+1) ω ω ω hbb;have hge:=grownCap_ge w (n+1) 0 e;have hzc:∀m,Builtin.zeroCells zv.cells m=(List.replicate m vs).flatten.toArray:=λm=>by
  rw[i5,←Gb];rfl
 generalize grownCap w (n+1) 0 e=N at cR hge;have hsp:(Builtin.zeroCells zv.cells (n+1)++Builtin.zeroCells zv.cells (N-(n+1)))=((List.replicate (n+1) vs).flatten++(List.replicate (N-(n+1)) vs).flatten).toArray:=by
  rw[hzc,hzc];simp
 rw[hsp] at cR;have ex:(execOp ρ o).run P w= .ok (.value (.slice (some ⟨w.heap.size,0,none⟩) (n+1) N)) (w.drew.alloc (.cells ((List.replicate (n+1) vs).flatten++(List.replicate (N-(n+1)) vs).flatten).toArray e)):=by
  simp only[execOp,ho];simp[resolve,invoke,builtin,hr,hq];rw[show((n:Int)+1)=((n+1:Nat):Int) by simp,cR];rfl
 rw[ex];have hl1:(List.replicate (n+1) vs).flatten.length=(n+1)*es:=by simp[xA,hvl]
 have hl2:(List.replicate (N-(n+1)) vs).flatten.length=(N-(n+1))*es:=by simp[xA,hvl]
 refine F3 (i6.replicate (n+1)) e _ (0,0) (λj _=>by simp) rfl _ _ λc' id hd hρ hsz=>VR.newSl hd hρ hsz _ _ _ _ hge (λm hm=>by cases hm) ?_;rw[hl1,hl2,←nq];exact ni _ ω
def ZD {e:TypeId} (bM:gT P e i) (X:Cx CR c h w ev ρ) {tx:TypeId} (ht:P.underlying t=some (.slice e)) {kn:IntKind} (hk:P.underlying tx=some (.int kn)) {a b:MA} {x y:Operand}
 (ho:o.op= .call { callee:= .builtin .append,args:=#[x,y],argTypes:=#[t,tx] }) (ha:ax a x=true) (hb:ax b y=true) {z:List AV} {es bs:Nat} (hz:z=i.zs) (hes:es=i.size) (hzl:z.length=es) (h0:0<es) (hbs:i.bytes<=1048576):
 bD P CR c h w (step ev h (.appz a b es bs z)) ((execOp ρ o).run P w):=by
 show bD P CR c h w (match ev a,nA ev b with
  | .sn,some (n+1)=>bif Nat.ble n 1000000 then (match rN z (Nat.succ n) with
   |some r=>h.new (.cells h.ver r) λo h=> .v (.sl o 0 (Nat.succ n) none es) h
   |none=> .bad) else .bad
  |_,_=> .bad) _
 cases h1:ev a with
 |sn=>
  cases h2:nA ev b with
  |none=>trivial
  |some m=>
   cases m with
   |zero=>trivial
   |succ n=>
    dsimp only;rw[fv];split
    ·rename_i hc;simp only[dm,aU] at hc;rw[zP];exact(ZC bM X ht hk ho ha hb hz hes hzl h0 hbs h1 h2 hc).good X.rs
    ·trivial
 |_=>trivial
def ZE (h:AH) (T:Nat) (s:AV) {n:Nat} {l:List AV} (esz:Nat) (hl:cF l=false):vO h T s (n+1) l esz= .bad:=by
 unfold vO;cases s with
 |sn=>simp[hl]
 |sl o off ln cap e=>
  cases off with
  |succ _=>rfl
  |zero=>
   cases cap with
   |some _=>rfl
   |none=>
    simp only[hl,dT,pP,Fy,fC];split<;>rfl
 |_=>rfl
def ZF {e:TypeId} (bM:gT P e i) (X:Cx CR c h w ev ρ) {tx:TypeId} (ht:P.underlying t=some (.slice e)) (hk:(∃e',P.underlying tx=some (.slice e'))∨(P.underlying tx=some .string)) {a b:MA} {x y:Operand}
 (ho:o.op= .call { callee:= .builtin .append,args:=#[x,y],argTypes:=#[t,tx] }) (ha:ax a x=true) (hb:ax b y=true) {es bs:Nat} (hes:es=i.size) (hzl:i.zs.length=i.size) (hbs:i.bytes<=1048576) {T:Nat} (hT:T=e):
 bD P CR c h w (step ev h (.tap T a b es bs)) ((execOp ρ o).run P w):=by
 subst hT;show bD P CR c h w (match ij (ev b),eI h es (ev b) with
  |some n,some l=>vO h T (ev a) n l es
  |_,_=> .bad) _
 have hva:=X.hE _ _ ha;have hvb:=X.hE _ _ hb;cases h1:ij (ev b) with
 |none=>trivial
 |some n=>
  cases h2:eI h es (ev b) with
  |none=>trivial
  |some l=>
   dsimp only;have hex:∀v w',(Builtin.append_ #[t,tx] o.type #[ρ x,ρ y]).run P w= .ok v w' ->(execOp ρ o).run P w= .ok (.value v) w':=by
    intro v w' hv;simp only[execOp,ho];simp[resolve,invoke,builtin,hv]
   cases hall:cF l with
   |true=>
    obtain⟨news,s1,s2⟩:=Mi X.rs hvb (tx:=tx) h2 h1 hall hk;subst hes;exact ZB bM X.rs ht hva s1 s2 rfl hzl hbs hex
   |false=>
    cases n with
    |zero=>rw[Mj h2 h1] at hall;cases hall
    |succ n=>rw[ZE _ _ _ _ hall];trivial
end
end
end AM
