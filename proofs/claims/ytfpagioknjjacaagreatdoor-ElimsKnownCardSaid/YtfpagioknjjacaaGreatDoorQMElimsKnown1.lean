/- The texts SxA, SxZ, SxB, SxC, SxD, SxE, SxF, SxJ, SxK, SxL, SxM, SxQ, SxG. -/
import Derived.OrdersIn
import Derived.TacticsIn
import Derived.Below
import Derived.Laws.Rows
import Derived.RangeFuncLeaves
import Derived.RangeFuncRecord
import Derived.RangeFuncNested
import Derived.Laws.CopyRow
import Derived.Laws.Tables
import Derived.Laws.StructEq
import Derived.Laws.Small
import Derived.Laws.NewBlocks
import Derived.Laws.Concat
import Derived.Laws.MakeOwn
import Derived.Laws.BytesString
import Derived.Laws.Append
namespace Go.Sx
theorem aa {p:Prop} (h:p:=by omega):p:=h
theorem av {p:Prop} (h:p:=by kernel_rfl):p:=h
theorem aI {p:Prop} (h:p:=by decide):p:=h
end Go.Sx
namespace Go.Sx
structure jb (L V:Type) where
 rd:L→Bool
 wr:L→Bool
 val:L→V
def jb.ap {L V:Type} (σ:jb L V) (s:L→V):L→V:=fun l=>if σ.wr l then σ.val l else s l
def jb.MU {L V:Type} (σ τ:jb L V):Prop:=∃l,(σ.wr l=true∧(τ.rd l=true∨τ.wr l=true))∨(σ.rd l=true∧τ.wr l=true)
inductive nZ (ops:Array Oper):Nat→Nat→Prop
 |one {j:Nat} {o:Oper} {e:Edge} (ho:ops[j]? =some o) (he:e∈o.after) (hb:Region.binds .any e=true):nZ ops j e.on
 |trans {j k i:Nat} (h:nZ ops j k) (h':nZ ops k i):nZ ops j i
section
variable {L V:Type} (steps:Nat→jb L V) (s0:L→V)
def sx (X:Nat→Bool):Nat→(L→V)
 |0=>s0
 |n+1=>if X n then(steps n).ap (sx X n)else sx X n
theorem Eg {X:Nat→Bool} {l:L}:∀m,(∀j,j<m→(steps j).wr l=true→X j=true)→sx steps s0 X m l=sx steps s0 (fun _=>true) m l
 |0,_=>rfl
 |m+1,h=>by
  have ih:=Eg m (fun j hj=>h j aa)
  simp only[sx,if_true]
  by_cases hx:X m=true
  ·simp only[hx,if_true,jb.ap];rw[ih]
  ·simp only[hx]
   have hw:(steps m).wr l≠true:=fun hw=>hx (h m aa hw)
   simp only[jb.ap,hw,if_false,Bool.false_eq_true];exact ih
theorem vK {X:Nat→Bool} {l:L} (m:Nat):∀n,m≤n→(∀j,m≤j→j<n→(steps j).wr l=true→X j=false)→sx steps s0 X n l=sx steps s0 X m l
 |0,hm,_=>by obtain rfl:m=0:=aa
             rfl
 |n+1,hm,h=>by
  by_cases hmn:m=n+1
  ·subst hmn;rfl
  ·have ih:=vK m n aa (fun j h1 h2=>h j h1 aa)
   simp only[sx]
   by_cases hx:X n=true
   ·simp only[hx,if_true,jb.ap]
    have hw:(steps n).wr l≠true:=fun hw=>by have:=h n aa aa hw;rw[hx]at this;cases this
    simp only[hw,if_false,Bool.false_eq_true];exact ih
   ·simp only[hx];exact ih
theorem Cl {X Y:Nat→Bool} {l:L}:∀n,(∀j,j<n→(steps j).wr l=true→X j=Y j)→sx steps s0 X n l=sx steps s0 Y n l
 |0,_=>rfl
 |n+1,h=>by
  have ih:=Cl n (fun j hj=>h j aa)
  simp only[sx]
  by_cases hw:(steps n).wr l=true
  ·rw[h n aa hw]
   split
   ·simp only[jb.ap,hw,if_true]
   ·exact ih
  ·have e:∀(b:Bool) (f:L→V),(if b then(steps n).ap f else f) l=f l:=by
    intro b f
    cases b
    ·rfl
    ·simp only[if_true,jb.ap,hw,if_false,Bool.false_eq_true]
   rw[e,e];exact ih
end
theorem filter_lt {p q:Nat→Bool} {i:Nat}:∀l:List Nat,i∈l→p i=true→(∀j,q j=(p j&& !(j==i)))→(l.filter q).length<(l.filter p).length:=by
 have hle:∀l:List Nat,(∀j,q j=(p j&& !(j==i)))→(l.filter q).length≤(l.filter p).length:=by
  intro l hq
  induction l with
  |nil=>simp
  |cons a l ih=>
   simp only[List.filter_cons,hq a]
   cases p a<;>cases (a==i)<;>simp<;>omega
 intro l hi hp hq
 induction l with
 |nil=>cases hi
 |cons a l ih=>
  by_cases ha:a=i
  ·subst ha
   have:=hle l hq
   simp only[List.filter_cons,hq a,hp]
   simp
   omega
  ·have hm:i∈l:=by
    rcases List.mem_cons.1 hi with h|h
    ·exact absurd h.symm ha
    ·exact h
   have:=ih hm
   simp only[List.filter_cons,hq a]
   have hb:(a==i)=false:=by simpa using ha
   rw[hb]
   cases p a<;>simp<;>omega
section
variable {L V:Type} {F:Fence} {nf:Nat} {P:Program} {ops:Array Oper} {Q:Exit→Act→World→Prop} {Rel:(L→V)→Act→World→Prop} {steps:Nat→jb L V} {s0:L→V}
def bQ (listed:Array Bool):Nat→Bool:=fun j=>listed.getD j false
theorem yQ
  (hexec:∀i,i<ops.size→∀s',(∀l,((steps i).rd l=true∨(steps i).wr l=true)→s' l=sx steps s0 (fun _=>true) i l)→∀a w,Rel s' a w→wpOpIn F nf P ops Q i (Rel ((steps i).ap s')) a w)
  (zg:∀i j,i<j→j<ops.size→(steps i).MU (steps j)→nZ ops j i)
  (hedge:∀(i:Nat) (o:Oper),ops[i]? =some o→∀e∈o.after,Region.binds .any e=true→e.on<i)
  (ga:∀a w,Rel (sx steps s0 (fun _=>true) ops.size) a w→Q .normal a w):
  ∀(fuel:Nat) (listed:Array Bool),listed.size=ops.size→
   (∀j,bQ listed j=true→∀i,nZ ops j i→bQ listed i=true)→
   ((List.range ops.size).filter (fun j=> !bQ listed j)).length≤fuel→
   ∀a w,Rel (sx steps s0 (bQ listed) ops.size) a w→wpAnyIn F nf P .any ops Q fuel listed a w:=by
 have Rk:∀listed:Array Bool,listed.size=ops.size→Region.ready .any ops listed=[]→∀j,j<ops.size→bQ listed j=true:=by
  intro listed gV hr j
  induction j using Nat.strongRecOn with
  |_ j ih=>
   intro hj
   refine Classical.byContradiction fun hn=> ?_
   have ZJ:j∈Region.ready .any ops listed:=by
    rw[mem_ready]
    refine⟨?_,ops[j],by simp[hj],fun e he hb=> ?_⟩
    ·have hl:j<listed.size:=aa
     simp only[bQ,Bool.not_eq_true]at hn
     simpa [hl]using hn
    ·have aE:=hedge j ops[j] (by simp[hj]) e he hb
     exact ih e.on aE aa
   rw[hr]at ZJ
   cases ZJ
 have mw:∀listed:Array Bool,listed.size=ops.size→Region.ready .any ops listed=[]→∀a w,Rel (sx steps s0 (bQ listed) ops.size) a w→Q .normal a w:=by
  intro listed gV hr a w hR
  refine ga a w ?_
  have:sx steps s0 (bQ listed) ops.size=sx steps s0 (fun _=>true) ops.size:=by
   funext l
   exact Eg steps s0 _ (fun j hj _=>Rk listed gV hr j hj)
  rwa [←this]
 intro fuel
 induction fuel with
 |zero=>
  intro listed gV Cc hcount a w hR
  have hr:Region.ready .any ops listed=[]:=by
   refine List.eq_nil_iff_forall_not_mem.2 fun j hj=> ?_
   rw[mem_ready]at hj
   obtain⟨h0,o,ho,_⟩:=hj
   have aE:j<ops.size:=by
    rcases Nat.lt_or_ge j ops.size with h|h
    ·exact h
    ·simp[Array.getElem?_eq_none h]at ho
   have:j∈(List.range ops.size).filter (fun j=> !bQ listed j):=by
    simp only[List.mem_filter,List.mem_range,bQ,Bool.not_eq_true']
    refine⟨aE, ?_⟩
    have hl:j<listed.size:=aa
    simpa [hl]using h0
   have:=List.length_pos_of_mem this
   omega
  exact⟨hr,mw listed gV hr a w hR⟩
 |succ fuel ih=>
  intro listed gV Cc hcount a w hR
  refine⟨fun hr=>mw listed gV hr a w hR,fun i hi=> ?_⟩
  have hmr:=mem_ready.1 hi
  obtain⟨h0,o,ho,ns⟩:=hmr
  have aE:i<ops.size:=by
   rcases Nat.lt_or_ge i ops.size with h|h
   ·exact h
   ·simp[Array.getElem?_eq_none h]at ho
  have hl:i<listed.size:=aa
  have Rl:bQ listed i=false:=by
   simp only[bQ];simpa [hl]using h0
  have IN:∀j k,nZ ops j k→(j=i∨bQ listed j=true)→bQ listed k=true:=by
   intro j k hw
   induction hw with
   |@one j o' e Hd he hb=>
    rintro(rfl|hj)
    ·rw[ho]at Hd;cases Hd;exact ns e he hb
    ·exact Cc j hj _ (.one Hd he hb)
   |trans h h' ih1 ih2=>exact fun hj=>ih2 (.inr (ih1 hj))
  have MW:∀j,j<i→(steps j).MU (steps i)→bQ listed j=true:=fun j hj hc=>IN i j (zg j i hj aE hc) (.inl rfl)
  have IP:∀j,i<j→j<ops.size→(steps i).MU (steps j)→bQ listed j=false:=by
   intro j hj hjn hc
   cases Rm:bQ listed j with
   |false=>rfl
   |true=>
    have:=Cc j Rm i (zg i j hj hjn hc)
    rw[Rl]at this;cases this
  have ZK:∀l,((steps i).rd l=true∨(steps i).wr l=true)→sx steps s0 (bQ listed) ops.size l=sx steps s0 (fun _=>true) i l:=by
   intro l ra
   rw[vK steps s0 i ops.size aa (fun j h1 h2 hw=> ?_),Eg steps s0 i (fun j hj hw=>MW j hj ⟨l,.inl ⟨hw,ra⟩⟩)]
   rcases Nat.lt_or_ge i j with h|h
   ·refine IP j h h2 ⟨l, ?_⟩
    rcases ra with h3|h3
    ·exact .inr ⟨h3,hw⟩
    ·exact .inl ⟨h3,.inr hw⟩
   ·obtain rfl:i=j:=aa
    exact Rl
  have ca:=hexec i aE _ ZK a w hR
  refine wpOpIn_mono (fun a' w' jD=> ?_) ca
  have hX:∀j,bQ (listed.setIfInBounds i true) j=(if j=i then true else bQ listed j):=by
   intro j
   by_cases hji:j=i
   ·subst hji;simp[bQ,hl]
   ·rw[if_neg hji];exact getD_set_ne false (fun h=>hji h.symm)
  refine ih _ (by simpa using gV) ?_ ?_ a' w' ?_
  ·intro j hj k hw
   rw[hX]at hj ⊢
   split
   ·rfl
   ·by_cases hji:j=i
    ·exact IN j k hw (.inl hji)
    ·rw[if_neg hji]at hj;exact Cc j hj k hw
  ·have:=filter_lt (p:=fun j=> !bQ listed j) (q:=fun j=> !bQ (listed.setIfInBounds i true) j) (i:=i) (List.range ops.size) (by simpa using aE) (by simp[Rl]) (fun j=>by
    rw[hX]
    by_cases hji:j=i<;>simp[hji])
   omega
  ·have:sx steps s0 (bQ (listed.setIfInBounds i true)) ops.size=(steps i).ap (sx steps s0 (bQ listed) ops.size):=by
    funext l
    by_cases hw:(steps i).wr l=true
    ·rw[vK steps s0 (i+1) ops.size aa (fun j h1 h2 hwj=> ?_)]
     ·simp[sx,hX,jb.ap,hw]
     ·rw[hX,if_neg aa]
      exact IP j aa h2 ⟨l,.inl ⟨hw,.inr hwj⟩⟩
    ·simp only[jb.ap,hw,if_false,Bool.false_eq_true]
     refine Cl steps s0 _ fun j _ hwj=> ?_
     rw[hX,if_neg]
     rintro rfl
     exact hw hwj
   rw[this]
   exact jD
theorem He {id:Nat} (hm:P.follows .mixedOrders=true)
  (hexec:∀i,i<ops.size→∀s',(∀l,((steps i).rd l=true∨(steps i).wr l=true)→s' l=sx steps s0 (fun _=>true) i l)→∀a w,Rel s' a w→wpOpIn F nf P ops Q i (Rel ((steps i).ap s')) a w)
  (zg:∀i j,i<j→j<ops.size→(steps i).MU (steps j)→nZ ops j i)
  (hedge:∀(i:Nat) (o:Oper),ops[i]? =some o→∀e∈o.after,Region.binds .any e=true→e.on<i)
  (ga:∀a w,Rel (sx steps s0 (fun _=>true) ops.size) a w→Q .normal a w)
  (a:Act) (w:World) (h:Rel s0 a {w with drawn:=w.drawn+1}):(Code.region id ops true).wpIn F nf P Q a w:=by
 refine wpIn_region_any hm (yQ hexec zg hedge ga _ _ (by simp) ?_ ?_ a _ ?_)
 ·intro j hj
  exfalso
  revert hj
  simp only[bQ,Array.getD_eq_getD_getElem?,Array.getElem?_replicate]
  split<;>simp
 ·refine Nat.le_trans (List.length_filter_le _ _) (by simp)
 ·have:sx steps s0 (bQ (Array.replicate ops.size false)) ops.size=s0:=by
   funext l
   refine vK steps s0 0 ops.size aa (fun j _ _ _=> ?_)
   simp only[bQ,Array.getD_eq_getD_getElem?,Array.getElem?_replicate]
   split<;>simp
  rw[this]
  exact h
end
end Go.Sx
namespace Go.Sx
def mz:List (Nat×IntKind×List Int):=[(3,.u8,[0,1,28,2,29,14,24,3,30,22,20,15,25,17,4,8,31,27,13,23,21,19,16,7,26,12,18,6,11,5,10,9]),(4,.u8,[0,1,56,2,57,49,28,3,61,58,42,50,38,29,17,4,62,47,59,36,45,43,51,22,53,39,33,30,24,18,12,5,63,55,48,27,60,41,37,16,46,35,44,21,52,32,23,11,54,26,40,15,34,20,31,10,25,14,19,9,13,8,7,6]),(2,.u64,[1,10,100,1000,10000,100000,1000000,10000000,100000000,1000000000,10000000000,100000000000,1000000000000,10000000000000,100000000000000,1000000000000000,10000000000000000,100000000000000000,1000000000000000000,10000000000000000000])]
def iJ (bf:Nat→Option Obj):Prop:=∀g kd l,(g,kd,l)∈mz→∃o,bf g=some o∧(∀w:World,w.heap[g]? =some o→∀j x,l[j]? =some x→w.cell? ⟨g,j,none⟩=some (.int kd x))∧∃ty fz,o= .cells (l.map fun x=>Value.int kd x).toArray ty fz
def wC (W:World):Prop:=∀g kd l,(g,kd,l)∈mz→l≠[]∧(∀j x,l[j]? =some x→W.cell? ⟨g,j,none⟩=some (.int kd x))∧∃ty fz,W.heap[g]? =some (.cells (l.map fun x=>Value.int kd x).toArray ty fz)
end Go.Sx
namespace Go.Sx
def cS:Nat→Nat→List Nat
 |0,_=>[]
 |f+1,n=>if n=0 then[]else n % 4294967296::cS f (n/4294967296)
def words (n:Nat):List Nat:=cS n n
def bH (w:Nat):List UInt8:=[UInt8.ofNat w,UInt8.ofNat (w/256),UInt8.ofNat (w/65536),UInt8.ofNat (w/16777216)]
def low (n:Nat):Int:=if n<18446744073709551616 then(n:Int)else 0
def qg (n:Nat):ByteArray:=if n<18446744073709551616 then ByteArray.empty else⟨((words n).flatMap bH).toArray⟩
def bR (n:Nat):List Value:=[.int .u64 (low n),.string (qg n)]
def dW (z:Int):List Value:=bR z.natAbs++[.bool (decide (z<0))]
def bD (q:Rat):List Value:=dW q.num++bR (q.den - 1)
structure bU where
 key:Nat→Option (Nat×Nat)
 bf:Nat→Option Obj
 cw:iJ bf
structure bU.Le (ρ ρ':bU):Prop where
 key:∀k x,ρ.key k=some x→ρ'.key k=some x
 bf:∀b o,ρ.bf b=some o→ρ'.bf b=some o
theorem bU.Le.refl (ρ:bU):ρ.Le ρ:=⟨fun _ _ h=>h,fun _ _ h=>h⟩
theorem bU.Le.trans {ρ σ τ:bU} (h:ρ.Le σ) (h':σ.Le τ):ρ.Le τ:=⟨fun k x hx=>h'.key k x (h.key k x hx),fun b o ho=>h'.bf b o (h.bf b o ho)⟩
structure Pred where
 h:(Nat→Option Obj)→List Value→Prop
 mono:∀i i' vs,(∀b o,i b=some o→i' b=some o)→h i vs→h i' vs
 width:Nat
 len:∀i vs,h i vs→vs.length=width∧∀v∈vs,v.oneCell'=true
 bare:Bool
 rb:bare=true→width=1
inductive SV where
 |any
 |val (v:Value)
 |ptr (k s i r:Nat)
 |aO (k s i n:Nat)
 |nat (n:Nat)
 |int (z:Int)
 |frac (q:Rat)
 |atom (p:Pred)
 |agg (cs:List SV)
 |ck (vs:List SV)
 |clo (f:FuncId) (first cap:List SV)
  |yld (k:Nat) (rc:Loop) (ts:List Nat) (cap:List SV)
def SV.bl:SV→Bool
 |.any|.val _|.ptr .. |.aO .. |.clo .. |.yld .. =>true
 |.atom p=>p.bare
 |_=>false
mutual
def SV.width:SV→Nat
 |.any|.val _|.ptr .. |.aO .. |.clo .. |.yld .. =>1
 |.nat _=>2
 |.int _=>3
 |.frac _=>5
 |.atom p=>p.width
 |.agg cs=>SV.de cs
 |.ck _=>0
def SV.de:List SV→Nat
 |[]=>0
 |c::l=>SV.width c+SV.de l
end
def cQ (c:SV) (cells:List Value):Value:=if c.bl then cells.headD undef else .agg cells.toArray
mutual
def aL (ρ:bU):SV→List Value→Prop
 |.any,vs=>∃v,vs=[v]∧v.oneCell'=true
 |.val v,vs=>vs=[v]∧v.oneCell'=true
 |.ptr k s i r,vs=>∃b t,ρ.key k=some (b,t)∧vs=[.pointer (some ⟨b,i*s+r,none⟩)]
 |.aO k s i n,vs=>(∃b t cap,ρ.key k=some (b,t)∧n≤cap∧(i+cap)*s≤t∧vs=[.slice (some ⟨b,i*s,none⟩) n cap])∨(n=0∧∃a,vs=[.slice a 0 0])
 |.nat n,vs=>vs=bR n
 |.int z,vs=>vs=dW z
 |.frac q,vs=>vs=bD q
 |.atom p,vs=>p.h ρ.bf vs
 |.agg cs,vs=>∃z,aw ρ cs z∧vs=z.flatten
 |.ck _,_=>False
 |.clo f first cap,vs=>∃fz cz,aw ρ first fz∧aw ρ cap cz∧vs=[.func (.func f) (List.zipWith cQ first fz).toArray (List.zipWith cQ cap cz).toArray]
 |.yld k rc ts cap,vs=>∃l t,ρ.key k=some (l,t)∧vs=[.func (.yield l) #[] #[]]∧∃z,aw ρ cap z∧List.zipWith cQ cap z=ts.map fun t=>rc.tmps.getD t undef
def aw (ρ:bU):List SV→List (List Value)→Prop
 |[],z=>z=[]
 |c::l,z=>∃x r,z=x::r∧aL ρ c x∧aw ρ l r
end
def Has (ρ:bU):SV→Value→Prop
 |.any,_=>True
 |.ck l,v=>∃z,aw ρ l z∧v= .tuple (List.zipWith cQ l z).toArray
 |c,v=>∃x,aL ρ c x∧v=cQ c x
mutual
theorem aL.mono {ρ ρ':bU} (h:ρ.Le ρ'):∀(c:SV) (vs:List Value),aL ρ c vs→aL ρ' c vs
 |.any,_,hc=>by simpa only[aL]using hc
 |.val _,_,hc=>by simpa only[aL]using hc
 |.ptr k s i r,_,hc=>by
  simp only[aL]at hc ⊢
  obtain⟨b,t,h1,h2⟩:=hc
  exact⟨b,t,h.key _ _ h1,h2⟩
 |.aO k s i n,_,hc=>by
  simp only[aL]at hc ⊢
  rcases hc with⟨b,t,cap,h1,h2⟩|hc
  ·exact .inl ⟨b,t,cap,h.key _ _ h1,h2⟩
  ·exact .inr hc
 |.nat _,_,hc=>by simpa only[aL]using hc
 |.int _,_,hc=>by simpa only[aL]using hc
 |.frac _,_,hc=>by simpa only[aL]using hc
 |.atom p,_,hc=>by simp only[aL]at hc ⊢;exact p.mono _ _ _ h.bf hc
 |.agg cs,_,hc=>by
  simp only[aL]at hc ⊢
  obtain⟨z,h1,h2⟩:=hc
  exact⟨z,aw.mono h cs z h1,h2⟩
 |.ck _,_,hc=>by simp only[aL]at hc
 |.clo f first cap,_,hc=>by
  simp only[aL]at hc ⊢
  obtain⟨fz,cz,h1,h2,h3⟩:=hc
  exact⟨fz,cz,aw.mono h first fz h1,aw.mono h cap cz h2,h3⟩
 |.yld k rc ts cap,_,hc=>by
  simp only[aL]at hc ⊢
  obtain⟨l,t,h1,h2,z,h3,h4⟩:=hc
  exact⟨l,t,h.key _ _ h1,h2,z,aw.mono h cap z h3,h4⟩
theorem aw.mono {ρ ρ':bU} (h:ρ.Le ρ'):∀(l:List SV) (z:List (List Value)),aw ρ l z→aw ρ' l z
 |[],_,hz=>by simpa only[aw]using hz
 |c::l,_,hz=>by
  simp only[aw]at hz ⊢
  obtain⟨x,r,h1,h2,h3⟩:=hz
  exact⟨x,r,h1,aL.mono h c x h2,aw.mono h l r h3⟩
end
theorem Has.mono {ρ ρ':bU} (h:ρ.Le ρ') (c:SV) (v:Value) (hc:Has ρ c v):Has ρ' c v:=by
 cases c<;>simp only[Has]at hc ⊢
 case ck l=>obtain⟨z,h1,h2⟩:=hc;exact⟨z,aw.mono h _ _ h1,h2⟩
 all_goals (obtain⟨x,h1,h2⟩:=hc;exact⟨x,aL.mono h _ _ h1,h2⟩)
theorem AK (n:Nat):(bR n).length=2∧∀v∈bR n,v.oneCell'=true:=by simp[bR,Value.oneCell']
theorem AL (z:Int):(dW z).length=3∧∀v∈dW z,v.oneCell'=true:=by simp[dW,bR,Value.oneCell']
theorem dc (q:Rat):(bD q).length=5∧∀v∈bD q,v.oneCell'=true:=by simp[bD,dW,bR,Value.oneCell']
mutual
theorem aL.len {ρ:bU}:∀(c:SV) (vs:List Value),aL ρ c vs→vs.length=c.width∧∀v∈vs,v.oneCell'=true
 |.any,_,hc=>by simp only[aL]at hc;obtain⟨v,rfl,h⟩:=hc;simp[SV.width,h]
 |.val _,_,hc=>by simp only[aL]at hc;obtain⟨rfl,h⟩:=hc;simp[SV.width,h]
 |.ptr ..,_,hc=>by simp only[aL]at hc;obtain⟨b,t,_,rfl⟩:=hc;simp[SV.width,Value.oneCell']
 |.aO ..,_,hc=>by
  simp only[aL]at hc
  rcases hc with⟨b,t,cap,_,_,_,rfl⟩|⟨_,a,rfl⟩<;>simp[SV.width,Value.oneCell']
 |.nat n,_,hc=>by simp only[aL]at hc;subst hc;exact AK n
 |.int z,_,hc=>by simp only[aL]at hc;subst hc;exact AL z
 |.frac q,_,hc=>by simp only[aL]at hc;subst hc;exact dc q
 |.atom p,_,hc=>by simp only[aL]at hc;exact p.len _ _ hc
 |.agg cs,_,hc=>by
  simp only[aL]at hc
  obtain⟨z,h1,rfl⟩:=hc
  exact aw.len cs z h1
 |.ck _,_,hc=>by simp only[aL]at hc
 |.clo ..,_,hc=>by simp only[aL]at hc;obtain⟨fz,cz,_,_,rfl⟩:=hc;simp[SV.width,Value.oneCell']
 |.yld ..,_,hc=>by simp only[aL]at hc;obtain⟨_,_,_,rfl,_⟩:=hc;simp[SV.width,Value.oneCell']
theorem aw.len {ρ:bU}:∀(l:List SV) (z:List (List Value)),aw ρ l z→z.flatten.length=SV.de l∧∀v∈z.flatten,v.oneCell'=true
 |[],_,hz=>by simp only[aw]at hz;subst hz;simp[SV.de]
 |c::l,_,hz=>by
  simp only[aw]at hz
  obtain⟨x,r,rfl,h2,h3⟩:=hz
  obtain⟨a1,a2⟩:=aL.len c x h2
  obtain⟨b1,b2⟩:=aw.len l r h3
  refine⟨by simp[SV.de,a1,b1],fun v hv=> ?_⟩
  simp only[List.flatten_cons,List.mem_append]at hv
  exact hv.elim (a2 v) (b2 v)
end
mutual
def bP:SV→Bool
 |.any|.val _|.nat _|.int _|.frac _|.atom _=>true
 |.ptr .. |.aO .. |.yld .. =>false
 |.agg cs=>bn cs
 |.ck vs=>bn vs
 |.clo _ a b=>bn a&&bn b
def bn:List SV→Bool
 |[]=>true
 |c::l=>bP c&&bn l
end
mutual
theorem lN {ρ ρ':bU} (h:∀b o,ρ.bf b=some o→ρ'.bf b=some o):∀(c:SV) (x:List Value),bP c=true→aL ρ c x→aL ρ' c x
 |.any,_,_,hc=>by simpa only[aL]using hc
 |.val _,_,_,hc=>by simpa only[aL]using hc
 |.nat _,_,_,hc=>by simpa only[aL]using hc
 |.int _,_,_,hc=>by simpa only[aL]using hc
 |.frac _,_,_,hc=>by simpa only[aL]using hc
 |.atom p,_,_,hc=>by simp only[aL]at hc ⊢;exact p.mono _ _ _ h hc
 |.ptr ..,_,hk,_=>by simp[bP]at hk
 |.aO ..,_,hk,_=>by simp[bP]at hk
 |.yld ..,_,hk,_=>by simp[bP]at hk
 |.agg cs,_,hk,hc=>by
  simp only[aL]at hc ⊢
  obtain⟨z,h1,h2⟩:=hc
  exact⟨z,cl h cs z (by simpa [bP]using hk) h1,h2⟩
 |.ck _,_,_,hc=>by simp only[aL]at hc
 |.clo f a b,_,hk,hc=>by
  simp only[aL]at hc ⊢
  simp only[bP,Bool.and_eq_true]at hk
  obtain⟨fz,cz,h1,h2,h3⟩:=hc
  exact⟨fz,cz,cl h a fz hk.1 h1,cl h b cz hk.2 h2,h3⟩
theorem cl {ρ ρ':bU} (h:∀b o,ρ.bf b=some o→ρ'.bf b=some o):∀(l:List SV) (z:List (List Value)),bn l=true→aw ρ l z→aw ρ' l z
 |[],_,_,hz=>by simpa only[aw]using hz
 |c::l,_,hk,hz=>by
  simp only[aw]at hz ⊢
  simp only[bn,Bool.and_eq_true]at hk
  obtain⟨x,r,h1,h2,h3⟩:=hz
  exact⟨x,r,h1,lN h c x hk.1 h2,cl h l r hk.2 h3⟩
end
theorem nt {ρ ρ':bU} (h:∀b o,ρ.bf b=some o→ρ'.bf b=some o) (c:SV) (v:Value) (hk:bP c=true) (hc:Has ρ c v):Has ρ' c v:=by
 cases c<;>simp only[Has]at hc ⊢
 case ck l=>obtain⟨z,h1,h2⟩:=hc;exact⟨z,cl h l z (by simpa [bP]using hk) h1,h2⟩
 all_goals (obtain⟨x,h1,h2⟩:=hc;exact⟨x,lN h _ _ hk h1,h2⟩)
theorem iJ.mono {i i':Nat→Option Obj} (h:∀b o,i b=some o→i' b=some o) (g:iJ i):iJ i':=fun n kd l hm=>by
 obtain⟨o,h1,h2⟩:=g n kd l hm
 exact⟨o,h _ _ h1,h2⟩
def cR (bf:Nat→Option Obj) (h:iJ bf):bU:=⟨fun _=>none,bf,h⟩
theorem rf {i i':Nat→Option Obj} (h:∀b o,i b=some o→i' b=some o) (g:iJ i) (g':iJ i'):(cR i g).Le (cR i' g'):=⟨(fun k x hx=>by cases hx),h⟩
theorem oo (ρ:bU) (g:iJ ρ.bf):(cR ρ.bf g).Le ρ:=⟨(fun k x hx=>by cases hx),fun _ _ h=>h⟩
inductive Data where
 |one (cs:List SV)
 |ints (kd:IntKind) (xs:List Int)
 |cb (xs:List Rat)
 |seq (w:Nat) (xs:List SV)
 |dead
  |loop (rc:Loop)
def da (ρ:bU):Data→List Value→Prop
 |.one cs,vs=>∃z,aw ρ cs z∧vs=z.flatten
 |.ints kd xs,vs=>vs=xs.map (.int kd)
 |.cb xs,vs=>vs=xs.flatMap bD
 |.seq w xs,vs=>∃z,aw (cR ρ.bf ρ.cw) xs z∧vs=z.flatten∧∀x∈xs,x.width=w
 |.dead,_=>False
 |.loop _,vs=>vs=[]
def Data.empty:Data→Prop
 |.ints _ xs=>xs=[]
 |.cb xs=>xs=[]
 |.seq _ xs=>xs=[]
 |.one _=>False
 |.dead=>False
 |.loop _=>False
def Data.live:Data→Bool
 |.dead=>false
 |_=>true
theorem da.mono {ρ ρ':bU} (h:ρ.Le ρ') {d:Data} {vs:List Value} (hd:da ρ d vs):da ρ' d vs:=by
 cases d<;>simp only[da]at hd ⊢
 case one cs=>obtain⟨z,h1,h2⟩:=hd;exact⟨z,aw.mono h _ _ h1,h2⟩
 case seq w xs=>obtain⟨z,h1,h2⟩:=hd;exact⟨z,aw.mono (rf h.bf _ _) _ _ h1,h2⟩
 all_goals exact hd
theorem da.wD {ρ:bU} {d:Data} {vs:List Value} (hd:da ρ d vs):∀v∈vs,v.oneCell'=true:=by
 cases d<;>simp only[da]at hd
 case one cs=>obtain⟨z,h1,rfl⟩:=hd;exact(aw.len _ _ h1).2
 case seq w xs=>obtain⟨z,h1,rfl,_⟩:=hd;exact(aw.len _ _ h1).2
 case ints kd xs=>subst hd;intro v hv;obtain⟨x,_,rfl⟩:=List.mem_map.1 hv;rfl
 case cb xs=>subst hd;intro v hv;obtain⟨x,_,hx⟩:=List.mem_flatMap.1 hv;exact(dc x).2 v hx
 case loop rc=>subst hd;intro v hv;cases hv
structure aF where
 ty:TypeId
 wr:Bool
 data:Data
def Data.obj (d:Data) (l:List Value) (ty:TypeId):Obj:=match d with
 |.loop rc=>.loop rc
 |_=>.cells l.toArray ty (0,0)
def Data.oq:Data→Bool
 |.loop _=>true
 |_=>false
theorem Data.cT {d:Data} (h:d.oq=false) (l:List Value) (ty:TypeId):d.obj l ty= .cells l.toArray ty (0,0):=by
 cases d<;>first|rfl|(simp[Data.oq]at h)
theorem Data.jG {d:Data} {l:List Value} {ty:TypeId} {x:Option (List Deferred)}:d.obj l ty≠ .deferred x:=by
 cases d<;>simp[Data.obj]
def hO (ρ:bU) (w:World) (k:Nat) (blk:aF):Prop:=
 blk.data.live=false∨(∃b t vs ex,ρ.key k=some (b,t)∧w.heap[b]? =some (blk.data.obj (vs++ex) blk.ty)∧da ρ blk.data vs∧(vs++ex).length=t∧∀v∈ex,v.oneCell'=true)∨
 (ρ.key k=none∧blk.data.empty)
structure p7 (W:Nat→Prop) (w w':World):Prop where
 os:w'.os=w.os
 tape:w'.tape=w.tape
 output:w'.output=w.output
 size:w.heap.size≤w'.heap.size
 block:∀b,b<w.heap.size→¬W b→w'.heap[b]? =w.heap[b]?
theorem p7.refl (W:Nat→Prop) (w:World):p7 W w w:=⟨rfl,rfl,rfl,Nat.le_refl _,fun _ _ _=>rfl⟩
theorem p7.trans {W:Nat→Prop} {a b c:World} (h:p7 W a b) (k:p7 W b c):p7 W a c:=
 ⟨k.os.trans h.os,k.tape.trans h.tape,k.output.trans h.output,Nat.le_trans h.size k.size,fun i hi hw=>(k.block i (Nat.lt_of_lt_of_le hi h.size) hw).trans (h.block i hi hw)⟩
theorem p7.mono {W W':Nat→Prop} {w w':World} (h:p7 W w w') (hW:∀b,b<w.heap.size→W b→W' b):p7 W' w w':=
 ⟨h.os,h.tape,h.output,h.size,fun b hb hn=>h.block b hb (fun hw=>hn (hW b hb hw))⟩
theorem p7.below {w w':World} (h:p7 (fun _=>False) w w'):RowKit.Below w.heap.size w w':=⟨h.os,h.tape,h.output,h.size,fun k hk=>h.block k hk (fun h=>h)⟩
theorem p7.gb {W:Nat→Prop} {w w':World} (h:RowKit.Below w.heap.size w w'):p7 W w w':=⟨h.os,h.tape,h.output,h.size,fun k hk _=>h.block k hk⟩
inductive Loc where
 |t (n:Nat)
 |k (n:Nat)
 deriving DecidableEq
inductive LV where
 |t (s:Option SV)
 |k (b:Option aF)
def LV.sv:LV→Option SV
 |.t s=>s
 |.k _=>none
def LV.blk:LV→Option aF
 |.k b=>b
 |.t _=>none
structure HpR (B:Nat) (W0:Nat→Prop) (ρ:bU) (s:Loc→LV) (w:World):Prop where
 blk:∀k b,(s (.k k)).blk=some b→hO ρ w k b
 sep:∀k k' x x' b b',ρ.key k=some x→ρ.key k'=some x'→k≠k'→x.1=x'.1→(s (.k k)).blk=some b→(s (.k k')).blk=some b'→b.data.live=true→b'.data.live=true→b.wr=false
 own:∀k b x,(s (.k k)).blk=some b→b.wr=true→b.data.live=true→ρ.key k=some x→B≤x.1∨W0 x.1
 ug:∀k x,ρ.key k=some x→∃b,(s (.k k)).blk=some b
 bf:∀b o,ρ.bf b=some o→w.heap[b]? =some o
 eV:∀k b x,(s (.k k)).blk=some b→b.wr=true→b.data.live=true→ρ.key k=some x→ρ.bf x.1=none
def mk1 (D:Nat):Deferred:={target:=.collected D,args:= #[]}
def IQ (B:Nat) (ρ:bU) (ds:List Deferred) (w:World):Prop:=
 ∃Ds:List Nat,ds=Ds.map mk1∧Ds.Nodup∧∀D∈Ds,B≤D∧w.heap[D]? =some (.deferred (some []))∧ρ.bf D=none
theorem IQ.nil {B:Nat} {ρ:bU} {w:World}:IQ B ρ [] w:=⟨[],rfl,.nil,fun _ h=>by cases h⟩
structure R (W0:Nat→Prop) (w0:World) (n:Nat) (ρ:bU) (s:Loc→LV) (a:Act) (w:World):Prop where
 defers:IQ w0.heap.size ρ a.defers w
 size:a.tmps.size=n
 fr:∀t sv,(s (.t t)).sv=some sv→Has ρ sv (a.tmps.getD t undef)
 bK:p7 W0 w0 w
 hp:HpR w0.heap.size W0 ρ s w
structure jH (ρ:bU) (w:World) (val:SV) (new upd:List (Nat×aF)) (v:Value) (ρ':bU) (w':World):Prop where
 le:ρ.Le ρ'
 has:Has ρ' val v
 key:∀k,(∀b,(k,b)∉new)→ρ'.key k=ρ.key k
 bK:p7 (fun b=>∃k blk t,(k,blk)∈upd∧ρ.key k=some (b,t)) w w'
 blk:∀k b,(k,b)∈upd∨(k,b)∈new→hO ρ' w' k b
 once:∀k b b',(k,b)∈upd→(k,b')∈upd→b.data.live=false→b'.data.live=true→False
 AM:∀k b x,(k,b)∈new→ρ'.key k=some x→w.heap.size≤x.1∨∃k0 b0 t,(k0,b0)∈upd∧b0.data.live=false∧ρ.key k0=some (x.1,t)
 Rn:∀k b k' b' x x',(k,b)∈new→(k',b')∈new→k≠k'→ρ'.key k=some x→ρ'.key k'=some x'→x.1≠x'.1
 bf:∀b o,ρ'.bf b=some o→ρ.bf b=some o∨(w.heap.size≤b∧w'.heap[b]? =some o∧∀k blk x,(k,blk)∈new→ρ'.key k=some x→x.1≠b)
structure Ro (ft:List (Nat×SV)) (fk:List (Nat×aF)) (new:List (Nat×aF)) (ρ:bU) (a:Act) (w:World):Prop where
 dy:∀t sv,(t,sv)∈ft→Has ρ sv (a.tmps.getD t undef)
 n0:∀k b,(k,b)∈fk→hO ρ w k b
 sep:∀k k' x x' b b',(k,b)∈fk→(k',b')∈fk→ρ.key k=some x→ρ.key k'=some x'→k≠k'→x.1=x'.1→b.data.live=true→b'.data.live=true→b.wr=false
 bf:∀b o,ρ.bf b=some o→w.heap[b]? =some o
 eV:∀k b x,(k,b)∈fk→b.wr=true→b.data.live=true→ρ.key k=some x→ρ.bf x.1=none
 fresh:∀k b,(k,b)∈new→ρ.key k=none
def goes (P:Program) (o:Oper) (a:Act) (w:World) (K:Act→World→Prop):Prop:=
 match (execOp a.eval o).run P w with
 |.ok (.value v) w'=>K (a.put o.dst v) w'
 |.ok .skip w'=>K (a.put o.dst undef) w'
 |.ok (.enter f args) w'=>Calls P f args w' fun e w''=>∃v,e= .returned v∧K (a.put o.dst v) w''
 |.ok (.round l f tmps assign body) w'=>RoundIn Fence.wide 0 P l f tmps assign body w' fun e w''=>∃v,e= .returned v∧K (a.put o.dst v) w''
 |_=>False
theorem pn {P:Program} {o:Oper} {a:Act} {w:World} {K K':Act→World→Prop} (h:∀a w,K a w→K' a w) (hh:goes P o a w K):goes P o a w K':=by
 unfold goes at*
 generalize (execOp a.eval o).run P w=r at*
 cases r with
 |ok n w'=>
  cases n<;>simp only at hh ⊢<;>
   first
    |exact h _ _ hh
    |exact hh.mono (fun e w'' he=>let ⟨v,h1,h2⟩:=he;⟨v,h1,h _ _ h2⟩)
    |exact hh
 |halt x w'=>exact hh
def FT (ro:Option Nat):Fence:={Fence.wide with round:=ro}
theorem uh {ro:Option Nat} {P:Program} {o:Oper} {a:Act} {w:World} {K:Act→World→Prop} {Q:Exit→Act→World→Prop} (h:goes P o a w K):o.wpIn (FT ro) 0 P a w K Q:=by
 have hd:∀c,o.op≠ .defer c:=by
  intro c hc
  unfold goes at h
  simp only[execOp,hc,Sem.run_bind]at h
  cases hr:(resolve a.eval c o.type).run P w with
  |ok d w'=>rw[hr]at h;simp[Result.andThen]at h
  |halt x w'=>rw[hr]at h;simp[Result.andThen]at h
 refine⟨fun _ _=>trivial, ?_⟩
 rw[Oper.semAt_eq _ _ _ hd]
 unfold goes at h
 generalize (execOp a.eval o).run P w=r at*
 cases r with
 |ok n w'=>
  cases n<;>simp only[Oper.uponIn]at h ⊢<;>try exact h
  ·refine⟨(fun hx=>by cases hx), ?_⟩
   have:=callsIn_wide (n:=0).2 h
   refine CallsIn.mono (F:=FT ro) (show CallsIn (FT ro) 0 _ _ _ _ _ from this) ?_
   rintro e w'' ⟨v,rfl,hk⟩
   exact hk
  ·refine⟨(fun hx=>by cases hx), ?_⟩
   refine RoundIn.mono (F:=FT ro) (show RoundIn (FT ro) 0 _ _ _ _ _ _ _ _ from h) ?_
   rintro e w'' ⟨v,rfl,hk⟩
   exact hk
 |halt x w'=>exact h.elim
def bS (P:Program) (o:Oper) (ft:List (Nat×SV)) (fk:List (Nat×aF)) (val:SV) (new upd:List (Nat×aF)):Prop:=
 ∀ρ a w,Ro ft fk new ρ a w→goes P o a w (fun a' w'=>∃v ρ',a'=a.put o.dst v∧jH ρ w val new upd v ρ' w')
def find (l:List (Nat×aF)) (k:Nat):Option aF:=match l with
 |[]=>none
 |(j,b)::r=>match Nat.beq j k with|true=>some b|false=>find r k
theorem jc:∀{l:List (Nat×aF)} {k:Nat} {b:aF},find l k=some b→(k,b)∈l
 |(j,b')::r,k,b,h=>by
  unfold find at h
  split at h
  ·rename_i hj
   obtain rfl:j=k:=Nat.eq_of_beq_eq_true hj
   cases h
   exact List.mem_cons_self ..
  ·exact List.mem_cons_of_mem _ (jc h)
theorem po:∀{l:List (Nat×aF)} {k:Nat},find l k=none→∀b,(k,b)∉l
 |[],_,_,_,hm=>by cases hm
 |(j,b')::r,k,h,b,hm=>by
  unfold find at h
  split at h
  ·cases h
  ·rename_i hj
   rcases List.mem_cons.1 hm with h1|h1
   ·cases h1
    simp[Nat.beq_refl]at hj
   ·exact po h b h1
def lay (dst:Option Tmp) (val:SV) (ks:List (Nat×aF)) (s:Loc→LV):Loc→LV
 |.t n=>if dst=some n then .t (some val)else s (.t n)
 |.k n=>match find ks n with
  |some b=>.k (some b)
  |none=>s (.k n)
theorem IS {dst:Option Tmp} {val:SV} {new upd:List (Nat×aF)} {W0:Nat→Prop} {w0:World} {n:Nat} {ρ:bU} {s:Loc→LV} {a:Act} {w:World} (h:R W0 w0 n ρ s a w)
  (eX:∀k b,(k,b)∈new→(s (.k k)).blk=none) (lO:∀k b,(k,b)∈upd→∃b0,(s (.k k)).blk=some b0∧b0.wr=true∧b0.data.live=true∧b.wr=true)
  (hdst:∀d,dst=some d→d<n) {v:Value} {ρ':bU} {w':World} (hp:jH ρ w val new upd v ρ' w'):
  ρ.Le ρ'∧(∀k,(s (.k k)).blk≠none→ρ'.key k=ρ.key k)∧(∀b o,ρ'.bf b=some o→ρ.bf b=some o∨w0.heap.size≤b)∧R W0 w0 n ρ' (lay dst val (upd++new) s) (a.put dst v) w':=by
 have dp:∀k b,(k,b)∈new→ρ.key k=none:=by
  intro k b hk
  cases hx:ρ.key k with
  |none=>rfl
  |some x=>
   obtain⟨b',gu⟩:=h.hp.ug k x hx
   rw[eX k b hk]at gu
   cases gu
 have MX:∀k b x,(s (.k k)).blk=some b→b.data.live=true→ρ.key k=some x→x.1<w.heap.size:=by
  intro k b x hb hl hx
  rcases h.hp.blk k b hb with h0|⟨b',t,vs,ex,h1,h2,_⟩|⟨h1,_⟩
  ·rw[hl]at h0;cases h0
  ·rw[hx]at h1;cases h1
   rcases Nat.lt_or_ge b' w.heap.size with h'|h'
   ·exact h'
   ·simp[Array.getElem?_eq_none h']at h2
  ·rw[hx]at h1;cases h1
 have b9:∀k x,ρ'.key k=some x→(∃b,(k,b)∈new)∨((∀b,(k,b)∉new)∧ρ.key k=some x):=by
  intro k x hx
  rcases Classical.em (∃b,(k,b)∈new)with hk|hk
  ·exact .inl hk
  ·have nu:∀b,(k,b)∉new:=fun b hb=>hk ⟨b,hb⟩
   rw[hp.key k nu]at hx
   exact .inr ⟨nu,hx⟩
 have wE:∀k b,find (upd++new) k=some b→(k,b)∈upd∨(k,b)∈new:=fun k b hf=>List.mem_append.1 (jc hf)
 have vM:∀k,find (upd++new) k=none→(∀b,(k,b)∉upd)∧(∀b,(k,b)∉new):=fun k hf=>
  ⟨fun b hb=>po hf b (List.mem_append.2 (.inl hb)),fun b hb=>po hf b (List.mem_append.2 (.inr hb))⟩
 have ek:∀k b,(lay dst val (upd++new) s (.k k)).blk=some b→(k,b)∈upd∨(k,b)∈new∨((∀b,(k,b)∉upd)∧(∀b,(k,b)∉new)∧(s (.k k)).blk=some b):=by
  intro k b hb
  simp only[lay]at hb
  cases hf:find (upd++new) k with
  |some b'=>
   rw[hf]at hb
   cases hb
   rcases wE k _ hf with h1|h1
   ·exact .inl h1
   ·exact .inr (.inl h1)
  |none=>
   rw[hf]at hb
   exact .inr (.inr ⟨(vM k hf).1,(vM k hf).2,hb⟩)
 have acI:∀k b,(k,b)∈upd→∀b',(k,b')∉new:=fun k b hu b' hn=>by
  obtain⟨b0,h1,_⟩:=lO k b hu
  rw[eX k b' hn]at h1;cases h1
 have MY:∀k b x,(s (.k k)).blk=some b→b.data.live=true→ρ.key k=some x→(∀b,(k,b)∉upd)→¬∃k' blk t,(k',blk)∈upd∧ρ.key k'=some (x.1,t):=by
  rintro k b x hb hl hx hku ⟨k',blk,t,hu,nu⟩
  obtain⟨b0,h1,h2,h3,_⟩:=lO k' blk hu
  have bW:k'≠k:=fun he=>hku blk (he▸hu)
  have:=h.hp.sep k' k (x.1,t) x b0 b nu hx bW rfl h1 hb h3 hl
  rw[h2]at this;cases this
 have zh:∀k b,(k,b)∈upd→∀x,ρ.key k=some x→∀k2 b2 x2,(s (.k k2)).blk=some b2→b2.data.live=true→ρ.key k2=some x2→x2.1=x.1→k2=k:=by
  intro k b hu x hx k2 b2 x2 hb2 iC MH he
  refine Classical.byContradiction fun bW=> ?_
  obtain⟨b0,h1,h2,h3,_⟩:=lO k b hu
  have:=h.hp.sep k k2 x x2 b0 b2 hx MH (fun h=>bW h.symm) he.symm h1 hb2 h3 iC
  rw[h2]at this;cases this
 have ZL:p7 W0 w0 w':=by
  refine⟨hp.bK.os.trans h.bK.os,hp.bK.tape.trans h.bK.tape,hp.bK.output.trans h.bK.output,Nat.le_trans h.bK.size hp.bK.size,fun b hb hw=> ?_⟩
  rw[hp.bK.block b (Nat.lt_of_lt_of_le hb h.bK.size) ?_,h.bK.block b hb hw]
  rintro⟨k,blk,t,hu,hk⟩
  obtain⟨b0,h1,h2,h3,_⟩:=lO k blk hu
  rcases h.hp.own k b0 _ h1 h2 h3 hk with h3|h3
  ·simp at h3;omega
  ·exact hw h3
 refine⟨hp.le,fun k hk=>hp.key k (fun b hb=>hk (eX k b hb)),fun b o hb=>(hp.bf b o hb).imp id (fun h1=>Nat.le_trans h.bK.size h1.1), ?_⟩
 refine {defers:= ?_,size:= ?_,fr:= ?_,bK:=ZL,hp:= ?_}
 ·have hpd:(a.put dst v).defers=a.defers:=by cases hd:dst<;>simp[Act.put]
  rw[hpd]
  obtain⟨Ds,d1,d2,d3⟩:=h.defers
  refine⟨Ds,d1,d2,fun D hD=> ?_⟩
  obtain⟨e1,e2,e3⟩:=d3 D hD
  have aE:D<w.heap.size:=(Array.getElem?_eq_some_iff.1 e2).1
  refine⟨e1, ?_, ?_⟩
  ·rw[hp.bK.block D aE ?_,e2]
   rintro⟨k,blk,t,hu,hk⟩
   obtain⟨b0,h1,h2,h3,_⟩:=lO k blk hu
   rcases h.hp.blk k b0 h1 with h4|⟨b',t',vs,ex,h4,h5,_⟩|⟨h4,_⟩
   ·rw[h3]at h4;cases h4
   ·rw[hk]at h4;cases h4;rw[e2]at h5;exact Data.jG (Option.some.inj h5).symm
   ·rw[hk]at h4;cases h4
  ·cases hx:ρ'.bf D with
   |none=>rfl
   |some o=>
    rcases hp.bf D o hx with h4|⟨h4,_⟩
    ·rw[e3]at h4;cases h4
    ·omega
 ·cases hd:dst<;>simp[Act.put,h.size]
 ·intro t sv ht
  simp only[lay]at ht
  by_cases hd:dst=some t
  ·rw[if_pos hd]at ht
   cases ht
   have:(a.put dst v).tmps.getD t undef=v:=by
    have:=hdst t hd
    simp[Act.put,hd,h.size,this]
   rw[this];exact hp.has
  ·rw[if_neg hd]at ht
   have:(a.put dst v).tmps.getD t undef=a.tmps.getD t undef:=by
    cases IT:dst with
    |none=>rfl
    |some d=>
     have bW:d≠t:=fun he=>hd (by rw[IT,he])
     simp[Act.put,Array.getElem?_setIfInBounds_ne bW]
   rw[this];exact Has.mono hp.le _ _ (h.fr t sv ht)
 ·constructor
  ·-- blk
   intro k b hb
   rcases ek k b hb with h1|h1|⟨h1,h2,h3⟩
   ·exact hp.blk k b (.inl h1)
   ·exact hp.blk k b (.inr h1)
   ·rcases h.hp.blk k b h3 with g0|⟨b',t,vs,ex,g1,g2,g3,g4,g5⟩|⟨g1,g2⟩
    ·exact .inl g0
    ·cases hl:b.data.live with
     |false=>exact .inl hl
     |true=>
      refine .inr (.inl ⟨b',t,vs,ex,hp.le.key _ _ g1, ?_,g3.mono hp.le,g4,g5⟩)
      rw[hp.bK.block b' (MX k b (b',t) h3 hl g1) (MY k b (b',t) h3 hl g1 h1)]
      exact g2
    ·exact .inr (.inr ⟨by rw[hp.key k h2];exact g1,g2⟩)
  ·-- sep
   intro k k' x x' b b' hx qt bW he hb gu hl ra
   have mixed:∀k k' x x' b b',ρ'.key k=some x→ρ.key k'=some x'→x.1=x'.1→(k,b)∈new→(∀b,(k',b)∉new)→(lay dst val (upd++new) s (.k k')).blk=some b'→b'.data.live=true→False:=by
    intro k k' x x' b b' hx qt he hn Zn gu ra
    have hold:∃b2,(s (.k k')).blk=some b2∧b2.data.live=true:=by
     rcases ek k' b' gu with h1|h1|⟨_,_,h3⟩
     ·obtain⟨b0,g1,_,g3,_⟩:=lO k' b' h1
      exact⟨b0,g1,g3⟩
     ·exact absurd h1 (Zn b')
     ·exact⟨b',h3,ra⟩
    obtain⟨b2,e1,e2⟩:=hold
    rcases hp.AM k b x hn hx with h1|⟨k0,b0,t,g1,g2,g3⟩
    ·have:=MX k' b2 x' e1 e2 qt
     omega
    ·have:=zh k0 b0 g1 _ g3 k' b2 x' e1 e2 qt he.symm
     subst this
     rcases ek k' b' gu with h1|h1|⟨h1,_,_⟩
     ·-- updated twice: the first found wins; it is live, so it is not the dead one alone
      have hf:find (upd++new) k'=some b':=by
       simp only[lay]at gu
       cases hf:find (upd++new) k' with
       |some b3=>rw[hf]at gu;simp only[LV.blk,Option.some.injEq]at gu;rw[gu]
       |none=>exact absurd g1 ((vM k' hf).1 b0)
      exact hp.once k' b0 b' g1 h1 g2 ra
     ·exact absurd h1 (Zn b')
     ·exact absurd g1 (h1 b0)
   rcases b9 k x hx with⟨bk,hk⟩|⟨Pw,hk⟩
   ·rcases b9 k' x' qt with⟨bk',nu⟩|⟨hkn',nu⟩
    ·exact absurd he (hp.Rn k bk k' bk' x x' hk nu bW hx qt)
    ·exact(mixed k k' x x' bk b' hx nu he hk hkn' gu ra).elim
   ·rcases b9 k' x' qt with⟨bk',nu⟩|⟨hkn',nu⟩
    ·exact(mixed k' k x' x bk' b qt hk he.symm nu Pw hb hl).elim
    ·have hold:∀k b,(∀b,(k,b)∉new)→(lay dst val (upd++new) s (.k k)).blk=some b→b.data.live=true→∃b2,(s (.k k)).blk=some b2∧b2.data.live=true∧(b2.wr=b.wr∨b2.wr=true):=by
      intro k b hn hb hl
      rcases ek k b hb with h1|h1|⟨_,_,h3⟩
      ·obtain⟨b0,g1,g2,g3,_⟩:=lO k b h1
       exact⟨b0,g1,g3,.inr g2⟩
      ·exact absurd h1 (hn b)
      ·exact⟨b,h3,hl,.inl rfl⟩
     obtain⟨b2,e1,e2,e3⟩:=hold k b Pw hb hl
     obtain⟨b2',e1',e2',_⟩:=hold k' b' hkn' gu ra
     have:=h.hp.sep k k' x x' b2 b2' hk nu bW he e1 e1' e2 e2'
     rcases e3 with e3|e3
     ·rw[←e3];exact this
     ·rw[this]at e3;cases e3
  ·-- own
   intro k b x hb hw hl hx
   rcases ek k b hb with h1|h1|⟨h1,h2,h3⟩
   ·obtain⟨b0,g1,g2,g3,_⟩:=lO k b h1
    have IA:ρ.key k=some x:=by
     rcases b9 k x hx with⟨bk,hk⟩|⟨_,hk⟩
     ·rw[eX k bk hk]at g1;cases g1
     ·exact hk
    exact h.hp.own k b0 x g1 g2 g3 IA
   ·rcases hp.AM k b x h1 hx with h4|⟨k0,b0,t,g1,g2,g3⟩
    ·exact .inl (Nat.le_trans h.bK.size h4)
    ·obtain⟨b1,e1,e2,e3,_⟩:=lO k0 b0 g1
     exact h.hp.own k0 b1 (x.1,t) e1 e2 e3 g3
   ·rw[hp.key k h2]at hx
    exact h.hp.own k b x h3 hw hl hx
  ·-- dom
   intro k x hx
   simp only[lay]
   cases hf:find (upd++new) k with
   |some b=>exact⟨b,rfl⟩
   |none=>
    rw[hp.key k (vM k hf).2]at hx
    exact h.hp.ug k x hx
  ·-- imm
   intro b ob hb
   rcases hp.bf b ob hb with h1|⟨_,h1,_⟩
   ·have h2:=h.hp.bf b ob h1
    have aE:b<w.heap.size:=by
     rcases Nat.lt_or_ge b w.heap.size with h'|h'
     ·exact h'
     ·simp[Array.getElem?_eq_none h']at h2
    rw[hp.bK.block b aE ?_]
    ·exact h2
    ·rintro⟨k,blk,t,hu,hk⟩
     obtain⟨b0,g1,g2,g3,_⟩:=lO k blk hu
     have:=h.hp.eV k b0 _ g1 g2 g3 hk
     rw[h1]at this;cases this
   ·exact h1
  ·-- immw
   intro k b x hb hw hl hx
   cases hi:ρ'.bf x.1 with
   |none=>rfl
   |some ob=>
    exfalso
    rcases ek k b hb with h1|h1|⟨h1,h2,h3⟩
    ·obtain⟨b0,g1,g2,g3,_⟩:=lO k b h1
     have IA:ρ.key k=some x:=by
      rcases b9 k x hx with⟨bk,hk⟩|⟨_,hk⟩
      ·rw[eX k bk hk]at g1;cases g1
      ·exact hk
     rcases hp.bf _ _ hi with h4|⟨h4,_⟩
     ·have:=h.hp.eV k b0 x g1 g2 g3 IA
      rw[h4]at this;cases this
     ·have:=MX k b0 x g1 g3 IA
      omega
    ·rcases hp.bf _ _ hi with h4|⟨h6,_,h4⟩
     ·have h5:=h.hp.bf _ _ h4
      rcases hp.AM k b x h1 hx with h7|⟨k0,b0,t,g1,g2,g3⟩
      ·simp[Array.getElem?_eq_none h7]at h5
      ·obtain⟨b1,e1,e2,e3,_⟩:=lO k0 b0 g1
       have:=h.hp.eV k0 b1 _ e1 e2 e3 g3
       rw[h4]at this;cases this
     ·exact h4 k b x h1 hx rfl
    ·rw[hp.key k h2]at hx
     rcases hp.bf _ _ hi with h4|⟨h4,_⟩
     ·have:=h.hp.eV k b x h3 hw hl hx
      rw[h4]at this;cases this
     ·have:=MX k b x h3 hl hx
      omega
theorem IU {P:Program} {o:Oper} {ft:List (Nat×SV)} {fk:List (Nat×aF)} {val:SV} {new upd:List (Nat×aF)}
  (hop:bS P o ft fk val new upd) {W0:Nat→Prop} {w0:World} {n:Nat} {ρ:bU} {s:Loc→LV} {a:Act} {w:World} (h:R W0 w0 n ρ s a w)
  (dy:∀t sv,(t,sv)∈ft→(s (.t t)).sv=some sv) (n0:∀k b,(k,b)∈fk→(s (.k k)).blk=some b)
  (eX:∀k b,(k,b)∈new→(s (.k k)).blk=none) (hupd:∀k b,(k,b)∈upd→∃b0,(k,b0)∈fk∧b0.wr=true∧b0.data.live=true∧b.wr=true)
  (hdst:∀d,o.dst=some d→d<n):
  goes P o a w (fun a' w'=>∃ρ',ρ.Le ρ'∧(∀k,(s (.k k)).blk≠none→ρ'.key k=ρ.key k)∧(∀b o,ρ'.bf b=some o→ρ.bf b=some o∨w0.heap.size≤b)∧R W0 w0 n ρ' (lay o.dst val (upd++new) s) a' w'):=by
 have dp:∀k b,(k,b)∈new→ρ.key k=none:=by
  intro k b hk
  cases hx:ρ.key k with
  |none=>rfl
  |some x=>
   obtain⟨b',gu⟩:=h.hp.ug k x hx
   rw[eX k b hk]at gu
   cases gu
 have IV:Ro ft fk new ρ a w:={
  dy:=fun t sv ht=>h.fr t sv (dy t sv ht)
  n0:=fun k b hk=>h.hp.blk k b (n0 k b hk)
  sep:=fun k k' x x' b b' hk nu hx qt bW he=>h.hp.sep k k' x x' b b' hx qt bW he (n0 k b hk) (n0 k' b' nu)
  bf:=h.hp.bf
  eV:=fun k b x hk hw hl hx=>h.hp.eV k b x (n0 k b hk) hw hl hx
  fresh:=dp}
 have lO:∀k b,(k,b)∈upd→∃b0,(s (.k k)).blk=some b0∧b0.wr=true∧b0.data.live=true∧b.wr=true:=fun k b hk=>by
  obtain⟨b0,h1,h2,h3,h4⟩:=hupd k b hk
  exact⟨b0,n0 k b0 h1,h2,h3,h4⟩
 refine pn ?_ (hop ρ a w IV)
 rintro a' w' ⟨v,ρ',rfl,hp⟩
 exact⟨ρ',IS h eX lO hdst hp⟩
end Go.Sx
namespace Go.Sx
def expand:SV→Option (List SV)
 |.nat n=>some [.val (.int .u64 (low n)),.val (.string (qg n))]
 |.int z=>some [.nat z.natAbs,.val (.bool (decide (z<0)))]
 |.frac q=>some [.int q.num,.nat (q.den - 1)]
 |.agg cs=>some cs
 |_=>none
theorem cU {ρ:bU}:∀{l r:List SV} {z y:List (List Value)},aw ρ l z→aw ρ r y→aw ρ (l++r) (z++y)
 |[],r,z,y,h,h'=>by simp only[aw]at h;subst h;exact h'
 |c::l,r,z,y,h,h'=>by
  simp only[aw]at h
  obtain⟨x,t,rfl,h1,h2⟩:=h
  simp only[List.cons_append,aw]
  exact⟨x,t++y,rfl,h1,cU h2 h'⟩
theorem Eh {ρ:bU} {c:SV} {l:List SV} {x:List Value} (he:expand c=some l) (h:aL ρ c x):∃z,aw ρ l z∧x=z.flatten:=by
 cases c<;>simp only[expand,Option.some.injEq,reduceCtorEq]at he
 case nat n=>
  subst he
  simp only[aL]at h
  refine⟨[[.int .u64 (low n)],[.string (qg n)]], ?_, ?_⟩
  ·simp[aw,aL,Value.oneCell']
  ·rw[h];rfl
 case int z=>
  subst he
  simp only[aL]at h
  refine⟨[bR z.natAbs,[.bool (decide (z<0))]], ?_, ?_⟩
  ·simp[aw,aL,Value.oneCell']
  ·rw[h];rfl
 case frac q=>
  subst he
  simp only[aL]at h
  refine⟨[dW q.num,bR (q.den - 1)], ?_, ?_⟩
  ·simp[aw,aL]
  ·rw[h];simp[bD]
 case agg cs=>
  subst he
  simpa only[aL]using h
def sub:Nat→List SV→Nat→Nat→Option (List SV)
 |0,_,_,_=>none
 |f+1,cs,off,w=>
  match w with
  |0=>some []
  |w'+1=>
   match cs with
   |[]=>none
   |c::r=>
    match Nat.ble c.width off with
    |true=>sub f r (off - c.width) (w'+1)
    |false=>
     match off with
     |0=>
      match Nat.ble c.width (w'+1)with
      |true=>
       match sub f r 0 (w'+1 - c.width)with
       |some l=>some (c::l)
       |none=>none
      |false=>
       match expand c with
       |some l=>sub f (l++r) 0 (w'+1)
       |none=>none
     |o'+1=>
      match expand c with
      |some l=>sub f (l++r) (o'+1) (w'+1)
      |none=>none
theorem pq {ρ:bU}:∀(f:Nat) (cs:List SV) (off w:Nat) (l:List SV) (z:List (List Value)),sub f cs off w=some l→aw ρ cs z→
  ∃y,aw ρ l y∧y.flatten=(z.flatten.drop off).take w∧(w=0∨off+w≤z.flatten.length):=by
 intro f
 induction f with
 |zero=>intro cs off w l z h;simp[sub]at h
 |succ f ih=>
  intro cs off w l z h hz
  unfold sub at h
  cases w with
  |zero=>simp at h;subst h;exact⟨[],by simp[aw],by simp,.inl rfl⟩
  |succ w'=>
   simp only at h
   cases cs with
   |nil=>simp at h
   |cons c r=>
    simp only at h
    simp only[aw]at hz
    obtain⟨x,t,rfl,hx,ht⟩:=hz
    have hlen:=(aL.len c x hx).1
    cases hb:Nat.ble c.width off with
    |true=>
     rw[hb]at h
     have hle:=Nat.le_of_ble_eq_true hb
     obtain⟨y,h1,h2,h3⟩:=ih r (off - c.width) (w'+1) l t h ht
     refine⟨y,h1, ?_, ?_⟩
     ·rw[h2]
      congr 1
      simp only[List.flatten_cons]
      have MZ:x.length≤off:=aa
      rw[List.drop_append,List.drop_eq_nil_of_le MZ,hlen]
      simp
     ·simp only[List.flatten_cons,List.length_append]
      omega
    |false=>
     rw[hb]at h
     have Px:¬c.width≤off:=fun hle=>by rw[Nat.ble_eq_true_of_le hle]at hb;cases hb
     have ZM:∀o',(match expand c with|some l'=>sub f (l'++r) o' (w'+1)|none=>none)=some l→∃y,aw ρ l y∧y.flatten=((x::t).flatten.drop o').take (w'+1)∧(w'+1=0∨o'+(w'+1)≤(x::t).flatten.length):=by
      intro o' h
      cases he:expand c with
      |none=>rw[he]at h;simp at h
      |some l'=>
       rw[he]at h
       obtain⟨zc,h1,rfl⟩:=Eh he hx
       obtain⟨y,h2,h3,h4⟩:=ih (l'++r) o' (w'+1) l (zc++t) h (cU h1 ht)
       exact⟨y,h2,by rw[h3];simp,by simpa using h4⟩
     cases off with
     |succ o'=>exact ZM (o'+1) h
     |zero=>
      simp only at h
      cases hb2:Nat.ble c.width (w'+1)with
      |false=>rw[hb2]at h;exact ZM 0 h
      |true=>
       rw[hb2]at h
       have hle:=Nat.le_of_ble_eq_true hb2
       cases hs:sub f r 0 (w'+1 - c.width)with
       |none=>rw[hs]at h;simp at h
       |some l'=>
        rw[hs]at h
        simp at h
        subst h
        obtain⟨y,h1,h2,h3⟩:=ih r 0 (w'+1 - c.width) l' t hs ht
        refine⟨x::y,by simp only[aw];exact⟨x,y,rfl,hx,h1⟩, ?_, ?_⟩
        ·simp only[List.flatten_cons,List.drop_zero]at h2 ⊢
         have MZ:x.length≤w'+1:=aa
         rw[h2,List.take_append,List.take_of_length_le MZ,hlen]
        ·simp only[List.flatten_cons,List.length_append]
         omega
def put (f:Nat) (cs:List SV) (off w:Nat) (new:List SV):Option (List SV):=
 match sub f cs 0 off,sub f cs (off+w) (SV.de cs - (off+w))with
 |some a,some b=>some (a++(new++b))
 |_,_=>none
theorem FU {ρ:bU} {f:Nat} {cs new l:List SV} {off w:Nat} {z y:List (List Value)} (h:put f cs off w new=some l) (hz:aw ρ cs z) (hy:aw ρ new y):
  ∃t,aw ρ l t∧t.flatten=z.flatten.take off++y.flatten++z.flatten.drop (off+w):=by
 unfold put at h
 cases ha:sub f cs 0 off with
 |none=>rw[ha]at h;simp at h
 |some a=>
  cases hb:sub f cs (off+w) (SV.de cs - (off+w))with
  |none=>rw[ha,hb]at h;simp at h
  |some b=>
   rw[ha,hb]at h
   simp at h
   subst h
   obtain⟨ya,h1,h2,_⟩:=pq f cs 0 off a z ha hz
   obtain⟨yb,h3,h4,_⟩:=pq f cs (off+w) _ b z hb hz
   refine⟨ya++(y++yb),cU h1 (cU hy h3), ?_⟩
   have hl:=(aw.len cs z hz).1
   simp only[List.flatten_append,h2,h4,List.drop_zero,List.append_assoc]
   congr 2
   rw[List.take_of_length_le (by rw[List.length_drop,hl];exact Nat.le_refl _)]
inductive TK where
 |bool
 |int (k:IntKind)
 |str
 |agg (fields:List (Nat×TypeId×Nat))
 |arr (n:Nat) (e:TypeId)
 |aO (e:TypeId)
 |ptr (e:TypeId)
 |other
structure TI where
 kind:TK
 size:Nat
 bytes:Nat
 zero:List SV
def TK.isAgg:TK→Bool
 |.agg _|.arr _ _=>true
 |_=>false
def TK.ok (P:Program) (t:TypeId):TK→Prop
 |.bool=>P.underlying t=some .bool
 |.int k=>P.underlying t=some (.int k)
 |.str=>P.underlying t=some .string
 |.agg fs=>P.underlying t=some (.struct (P.fieldsOf t))∧(P.fieldsOf t).toList.map (fun f=>(f.offset,f.type,P.cellsOf f.type))=fs∧(P.fieldsOf t).toList.all (fun f=>(P.info? f.type).isSome)=true
 |.arr n e=>P.underlying t=some (.array n e)
 |.aO e=>P.underlying t=some (.slice e)
 |.ptr e=>P.underlying t=some (.pointer e)
 |.other=>∃d,P.underlying t=some d∧(match d with|.struct _|.array _ _=>true|_=>false)=false
def eY:SV→List Value
 |.val v=>[v]
 |.nat n=>bR n
 |.int z=>dW z
 |.frac q=>bD q
 |_=>[]
def Rp:SV→Bool
 |.val v=>v.oneCell'
 |.nat _|.int _|.frac _=>true
 |_=>false
structure aG (P:Program) (t:TypeId) (ti:TI):Prop where
 kind:ti.kind.ok P t
 info:∃i z,P.info? t=some i∧i.size=ti.size∧i.bytes=ti.bytes∧i.zero=some z∧z.cells.toList=ti.zero.flatMap eY∧ti.zero.all Rp=true∧(z.cells.size=ti.size)∧z=(if ti.kind.isAgg then .agg z.cells else z.cells.getD 0 undef)
def du (T:List (TypeId×TI)) (t:TypeId):Option TI:=match T with
 |[]=>none
 |(u,ti)::r=>match Nat.beq u t with|true=>some ti|false=>du r t
def ic (P:Program):List (TypeId×TI)→Prop
 |[]=>True
 |(t,ti)::r=>aG P t ti∧ic P r
theorem ic.get {P:Program}:∀{T:List (TypeId×TI)} {t:TypeId} {ti:TI},ic P T→du T t=some ti→aG P t ti
 |(u,ti')::r,t,ti,h,hf=>by
  unfold du at hf
  split at hf
  ·rename_i hu
   obtain rfl:u=t:=Nat.eq_of_beq_eq_true hu
   cases hf
   exact h.1
  ·exact ic.get h.2 hf
theorem aG.of {P:Program} {t:TypeId} {ti:TI} {z:Value} (hk:ti.kind.ok P t) (h1:(P.info? t).map (fun i=>(i.size,i.bytes,i.zero))=some (ti.size,ti.bytes,some z))
  (h2:z.cells.toList=ti.zero.flatMap eY) (h3:ti.zero.all Rp=true) (h4:z.cells.size=ti.size) (h5:z=(if ti.kind.isAgg then .agg z.cells else z.cells.getD 0 undef)):aG P t ti:=by
 refine⟨hk, ?_⟩
 cases hi:P.info? t with
 |none=>rw[hi]at h1;simp at h1
 |some i=>
  rw[hi]at h1
  simp only[Option.map_some,Option.some.injEq,Prod.mk.injEq]at h1
  exact⟨i,z,rfl,h1.1,h1.2.1,h1.2.2,h2,h3,h4,h5⟩
theorem zi {ρ:bU} {c:SV} (h:Rp c=true):aL ρ c (eY c):=by
 cases c<;>simp[Rp]at h<;>simp[aL,eY,h]
theorem dX {ρ:bU}:∀{l:List SV},l.all Rp=true→aw ρ l (l.map eY)
 |[],_=>by simp[aw]
 |c::l,h=>by
  simp only[List.all_cons,Bool.and_eq_true]at h
  simp only[List.map_cons,aw]
  exact⟨_,_,rfl,zi h.1,dX h.2⟩
theorem aG.isAgg {P:Program} {t:TypeId} {ti:TI} (h:aG P t ti) (w:World):(Go.isAgg t).run P w= .ok ti.kind.isAgg w:=by
 unfold Go.isAgg
 rw[Sem.run_bind]
 have hk:=h.kind
 cases yR:ti.kind<;>rw[yR]at hk<;>simp only[TK.ok]at hk
 case other=>obtain⟨d,h1,h2⟩:=hk;rw[run_underlying h1];cases d<;>simp_all [TK.isAgg]
 case agg fs=>rw[run_underlying hk.1];rfl
 all_goals (rw[run_underlying hk];rfl)
theorem aG.sizeOf {P:Program} {t:TypeId} {ti:TI} (h:aG P t ti) (w:World):(Go.sizeOf t).run P w= .ok ti.size w:=by
 obtain⟨i,z,h1,h2,_⟩:=h.info
 simp[Go.sizeOf,typeInfo,h1,h2]
theorem aG.zeroValue {P:Program} {t:TypeId} {ti:TI} (h:aG P t ti):∃z,(∀w,(Go.zeroValue t).run P w= .ok z w)∧z.cells.toList=ti.zero.flatMap eY:=by
 obtain⟨i,z,h1,h2,h3,h4,h5,_⟩:=h.info
 exact⟨z,fun w=>by simp[Go.zeroValue,typeInfo,h1,h4],h5⟩
def ot:SV→Option (List SV)
 |.any=>none
 |.ck _=>none
 |.agg cs=>some cs
 |c=>some [c]
theorem mD {ρ:bU} {c:SV} {l:List SV} {v:Value} (h:ot c=some l) (hv:Has ρ c v):∃z,aw ρ l z∧v.cells.toList=z.flatten:=by
 have one:∀c:SV,∀x,aL ρ c x→c.width=1→c.bl=true→(cQ c x).cells.toList=x:=by
  intro c x hx hw h1
  obtain⟨h2,h3⟩:=aL.len c x hx
  rw[hw]at h2
  match x,h2 with
  |[v],_=>
   have:=h3 v (by simp)
   simp only[cQ,h1,if_true,List.headD_cons]
   cases v<;>simp_all [Value.cells,Value.oneCell']
 have many:∀c:SV,∀x:List Value,c.bl=false→(cQ c x).cells.toList=x:=by
  intro c x h1
  simp[cQ,h1,Value.cells]
 have ZN:∀c:SV,∀x,aL ρ c x→aw ρ [c] [x]:=fun c x hx=>by simp only[aw];exact⟨x,[],rfl,hx,rfl⟩
 cases c<;>simp only[ot,Option.some.injEq,reduceCtorEq]at h<;>subst h<;>simp only[Has]at hv
 case agg cs=>
  obtain⟨x,h1,rfl⟩:=hv
  simp only[aL]at h1
  obtain⟨z,h2,rfl⟩:=h1
  exact⟨z,h2,by simp[cQ,SV.bl,Value.cells]⟩
 case atom p=>
  obtain⟨x,h1,rfl⟩:=hv
  refine⟨[x],ZN _ _ h1, ?_⟩
  simp only[List.flatten_cons,List.flatten_nil,List.append_nil]
  cases hb:p.bare with
  |true=>exact one (.atom p) x h1 (by simp[SV.width,p.rb hb]) (by simp[SV.bl,hb])
  |false=>exact many (.atom p) x (by simp[SV.bl,hb])
 all_goals
  obtain⟨x,h1,rfl⟩:=hv
  refine⟨[x],ZN _ _ h1, ?_⟩
  simp only[List.flatten_cons,List.flatten_nil,List.append_nil]
  first
   |exact one _ x h1 rfl rfl
   |exact many _ x rfl
def eC (ti:TI) (l:List SV):Option SV:=
 match ti.kind.isAgg with
 |true=>match l with
  |[c]=>match c.bl with
   |false=>some c
   |true=>some (.agg [c])
  |l=>some (.agg l)
 |false=>match l with
  |[c]=>match c.bl with
   |true=>some c
   |false=>none
  |_=>none
theorem jd {ρ:bU} {ti:TI} {l:List SV} {c:SV} {z:List (List Value)} {v:Value} (h:eC ti l=some c) (hz:aw ρ l z)
  (hv:v=if ti.kind.isAgg then .agg z.flatten.toArray else z.flatten.headD undef):Has ρ c v:=by
 have Rq:∀l z,aw ρ l z→Has ρ (.agg l) (.agg z.flatten.toArray):=fun l z hz=>by
  simp only[Has,aL,cQ,SV.bl]
  exact⟨_,⟨z,hz,rfl⟩,rfl⟩
 have Rr:∀(c:SV) x,aL ρ c x→c.bl=false→Has ρ c (.agg x.toArray):=by
  intro c x hx h1
  cases c<;>simp only[SV.bl,Bool.true_eq_false]at h1<;>simp only[Has]
  case ck=>simp only[aL]at hx
  all_goals exact⟨x,hx,by simp[cQ,SV.bl,h1]⟩
 have bl:∀(c:SV) x,aL ρ c x→c.bl=true→Has ρ c (x.headD undef):=by
  intro c x hx h1
  cases c<;>simp only[SV.bl,Bool.false_eq_true]at h1<;>simp only[Has]
  all_goals exact⟨x,hx,by simp[cQ,SV.bl,h1]⟩
 unfold eC at h
 cases ha:ti.kind.isAgg with
 |true=>
  rw[ha]at h hv
  simp only[if_true]at hv h
  subst hv
  match l,hz with
  |[],hz=>simp at h;subst h;exact Rq [] z hz
  |[d],hz=>
   simp only[aw]at hz
   obtain⟨x,r,rfl,h1,rfl⟩:=hz
   simp only at h
   cases hd:d.bl with
   |false=>rw[hd]at h;simp at h;subst h;simpa using Rr d x h1 hd
   |true=>rw[hd]at h;simp at h;subst h;exact Rq [d] [x] (by simp only[aw];exact⟨x,[],rfl,h1,rfl⟩)
  |d::e::r,hz=>simp at h;subst h;exact Rq _ z hz
 |false=>
  rw[ha]at h hv
  simp only[Bool.false_eq_true,if_false]at hv h
  subst hv
  match l,hz with
  |[],_=>simp at h
  |[d],hz=>
   simp only[aw]at hz
   obtain⟨x,r,rfl,h1,rfl⟩:=hz
   simp only at h
   cases hd:d.bl with
   |false=>rw[hd]at h;simp at h
   |true=>rw[hd]at h;simp at h;subst h;simpa using bl d x h1 hd
  |d::e::r,_=>simp at h
end Go.Sx
namespace Go.Sx
def bp (ft:List (Nat×SV)) (x:Operand) (c:SV):Prop:=∀ρ a,(∀t s,(t,s)∈ft→Has ρ s (a.tmps.getD t undef))→Has ρ c (Act.eval a x)
def lk (l:List (Nat×SV)) (t:Nat):Option SV:=match l with
 |[]=>none
 |(u,s)::r=>match Nat.beq u t with|true=>some s|false=>lk r t
theorem IW:∀{l:List (Nat×SV)} {t:Nat} {s:SV},lk l t=some s→(t,s)∈l
 |(u,s')::r,t,s,h=>by
  unfold lk at h
  split at h
  ·rename_i hu
   obtain rfl:u=t:=Nat.eq_of_beq_eq_true hu
   cases h
   exact List.mem_cons_self ..
  ·exact List.mem_cons_of_mem _ (IW h)
def ev (fr:List (Nat×SV)):Operand→Option SV
 |.tmp t=>lk fr t
 |.const v=>match v.oneCell' with
  |true=>some (.val v)
  |false=>none
 |.func f=>some (.clo f [] [])
 |.global g=>some (.val (.pointer (some ⟨g,0,none⟩)))
theorem ak {fr:List (Nat×SV)} {x:Operand} {c:SV} (h:ev fr x=some c):bp fr x c:=by
 intro ρ a hf
 cases x with
 |tmp t=>exact hf t c (IW h)
 |const v=>
  simp only[ev]at h
  cases hv:v.oneCell' with
  |false=>rw[hv]at h;simp at h
  |true=>
   rw[hv]at h
   simp at h
   subst h
   simp only[Has,Act.eval]
   exact⟨[v],by simp[aL,hv],by simp[cQ,SV.bl]⟩
 |func f=>
  simp only[ev,Option.some.injEq]at h
  subst h
  simp only[Has,Act.eval]
  exact⟨[.func (.func f) #[] #[]],by simp only[aL];exact⟨[],[],by simp[aw],by simp[aw],by simp⟩,by simp[cQ,SV.bl]⟩
 |global g=>
  simp only[ev,Option.some.injEq]at h
  subst h
  simp only[Has,Act.eval]
  exact⟨[.pointer (some ⟨g,0,none⟩)],by simp[aL,Value.oneCell'],by simp[cQ,SV.bl]⟩
structure Res where
 ob:Prop
 val:SV
 fk:List (Nat×aF)
 new:List (Nat×aF)
 upd:List (Nat×aF)
theorem jH.pure {ρ:bU} {w:World} {c:SV} {v:Value} (h:Has ρ c v):jH ρ w c [] [] v ρ w:=
 ⟨.refl ρ,h,fun _ _=>rfl,.refl _ w,(fun k b h=>by rcases h with h|h<;>cases h),(fun _ _ _ h=>by cases h),(fun k b x h=>by cases h),(fun k b k' b' x x' h=>by cases h),fun b o h=>.inl h⟩
section
variable {P:Program} {o:Oper} {ft:List (Nat×SV)} {fk new upd:List (Nat×aF)} {c:SV}
theorem dv (h:∀ρ a w,Ro ft fk new ρ a w→∃v w' ρ',(execOp a.eval o).run P w= .ok (.value v) w'∧jH ρ w c new upd v ρ' w'):bS P o ft fk c new upd:=by
 intro ρ a w hp
 obtain⟨v,w',ρ',h1,h2⟩:=h ρ a w hp
 unfold goes
 rw[h1]
 exact⟨v,ρ',rfl,h2⟩
theorem M0 (h:∀ρ a w,Ro ft fk new ρ a w→∃w' ρ',(execOp a.eval o).run P w= .ok .skip w'∧jH ρ w c new upd undef ρ' w'):bS P o ft fk c new upd:=by
 intro ρ a w hp
 obtain⟨w',ρ',h1,h2⟩:=h ρ a w hp
 unfold goes
 rw[h1]
 exact⟨undef,ρ',rfl,h2⟩
theorem bw (h:∀ρ a w,Ro ft fk [] ρ a w→∃v,(execOp a.eval o).run P w= .ok (.value v) w∧Has ρ c v):bS P o ft fk c [] []:=
 dv fun ρ a w hp=>by
  obtain⟨v,h1,h2⟩:=h ρ a w hp
  exact⟨v,w,ρ,h1,.pure h2⟩
theorem FV {x:Operand} (ho:o.op= .move x∨o.op= .assign x) (hx:bp ft x c):bS P o ft fk c [] []:=
 bw fun ρ a w hp=>⟨a.eval x,by rcases ho with ho|ho<;>simp[execOp,ho],hx ρ a hp.dy⟩
theorem Cm {ρ:bU} {w:World} {k:Nat} {ty:TypeId} {wr:Bool} {d:Data} {vs:List Value} (hk:ρ.key k=none) (hd:da ρ d vs) (hL:d.oq=false:=by rfl):
  jH ρ w (.ptr k 0 0 0) [(k,⟨ty,wr,d⟩)] [] (.pointer (some ⟨w.heap.size,0,none⟩)) ⟨fun j=>if j=k then some (w.heap.size,vs.length)else ρ.key j,ρ.bf,ρ.cw⟩ (w.alloc (.cells vs.toArray ty (0,0))):=by
 have hle:ρ.Le ⟨fun j=>if j=k then some (w.heap.size,vs.length)else ρ.key j,ρ.bf,ρ.cw⟩:=⟨fun j x hx=>by
  show(if j=k then _ else _)=_
  by_cases hj:j=k
  ·subst hj;rw[hk]at hx;cases hx
  ·rw[if_neg hj];exact hx,fun b ob hb=>hb⟩
 refine⟨hle, ?_, ?_, ?_, ?_,(fun _ _ _ h=>by cases h), ?_, ?_,fun b ob hb=>.inl hb⟩
 ·simp only[Has,aL]
  exact⟨_,⟨w.heap.size,vs.length,by simp,rfl⟩,by simp[cQ,SV.bl]⟩
 ·intro j hj
  show(if j=k then _ else _)=_
  rw[if_neg]
  rintro rfl
  exact hj _ (List.mem_cons_self ..)
 ·exact .gb ((RowKit.Below.refl _ _).alloc (Nat.le_refl _) _)
 ·intro j b hj
  rcases hj with hj|hj
  ·cases hj
  ·simp only[List.mem_singleton,Prod.mk.injEq]at hj
   obtain⟨rfl,rfl⟩:=hj
   refine .inr (.inl ⟨w.heap.size,vs.length,vs,[],by simp, ?_,hd.mono hle,by simp,by simp⟩)
   rw[List.append_nil,Data.cT hL]
   exact heap_alloc_new _ _
 ·intro j b x hj hx
  simp only[List.mem_singleton,Prod.mk.injEq]at hj
  obtain⟨rfl,rfl⟩:=hj
  simp at hx
  rw[←hx]
  exact .inl (Nat.le_refl _)
 ·intro j b j' b' x x' hj ou bW
  simp only[List.mem_singleton,Prod.mk.injEq]at hj ou
  exact absurd (hj.1.trans ou.1.symm) bW
theorem Rs {x:Operand} {elem:TypeId} {k:Nat} {sv:SV} {cs:List SV} (ho:o.op= .box elem x) (hx:bp ft x sv) (hc:ot sv=some cs):
  bS P o ft fk (.ptr k 0 0 0) [(k,⟨elem,true,.one cs⟩)] []:=
 dv fun ρ a w hp=>by
  obtain⟨z,h1,h2⟩:=mD hc (hx ρ a hp.dy)
  refine⟨_,_,_, ?_,Cm (ty:=elem) (wr:=true) (d:=.one cs) (vs:=z.flatten) (hp.fresh k _ (List.mem_cons_self ..)) ⟨z,h1,rfl⟩⟩
  have:(a.eval x).cells=z.flatten.toArray:=by rw[←h2]
  simp[execOp,ho,Instr.box,newVar,newRow,this]
theorem IX {elem:TypeId} {k:Nat} {ti:TI} (ho:o.op= .alloc elem) (ht:aG P elem ti):
  bS P o ft fk (.ptr k 0 0 0) [(k,⟨elem,true,.one ti.zero⟩)] []:=
 dv fun ρ a w hp=>by
  obtain⟨z,h1,h2⟩:=ht.zeroValue
  obtain⟨_,_,_,_,_,_,_,hz,_⟩:=ht.info
  refine⟨_,_,_, ?_,Cm (ty:=elem) (wr:=true) (d:=.one ti.zero) (vs:=ti.zero.flatMap eY) (hp.fresh k _ (List.mem_cons_self ..)) ⟨_,dX hz,by simp[List.flatMap]⟩⟩
  have:z.cells=(ti.zero.flatMap eY).toArray:=by rw[←h2]
  simp[execOp,ho,Instr.alloc,newVar,newRow,this,h1]
def Cd:Option Prop→Prop
 |none=>True
 |some p=>p
def Rt (ob:Option Prop) (k:Prop):Prop:=match ob with
 |none=>k
 |some p=>p∧k
theorem cm {ob:Option Prop} {k:Prop} (h:Rt ob k):Cd ob∧k:=by
 cases ob with
 |none=>exact⟨trivial,h⟩
 |some p=>exact h
def elem (d:Data) (s i:Nat):Option (Option Prop×List SV):=
 match d with
 |.one cs=>match i with
  |0=>some (none,cs)
  |_+1=>none
 |.ints kd xs=>match Nat.beq s 1 with
  |true=>some (some (i<xs.length),[.val (.int kd (xs.getD i 0))])
  |false=>none
 |.cb xs=>match Nat.beq s 5 with
  |true=>some (some (i<xs.length),[.frac (xs.getD i 0)])
  |false=>none
 |.seq w xs=>match Nat.beq s w with
  |true=>some (some (i<xs.length),[xs.getD i .any])
  |false=>none
 |.dead=>none
 |.loop _=>none
theorem wF {d:Data} {s i:Nat} {r:Option Prop×List SV} (h:elem d s i=some r):d.oq=false:=by
 cases d<;>first|rfl|(simp[elem]at h)
theorem lQ {α:Type} (f:α→List Value) (n:Nat) (d:α):∀(xs:List α),(∀x∈xs,(f x).length=n)→∀i,i<xs.length→((xs.flatMap f).drop (i*n)).take n=f (xs.getD i d)
 |x::xs,h,0,_=>by
  have hx:=h x (List.mem_cons_self ..)
  simp only[List.flatMap_cons,Nat.zero_mul,List.drop_zero,List.getD_cons_zero]
  rw[←hx,List.take_left]
 |x::xs,h,i+1,hi=>by
  have hx:=h x (List.mem_cons_self ..)
  have ih:=lQ f n d xs (fun y hy=>h y (List.mem_cons_of_mem _ hy)) i (by simpa using hi)
  simp only[List.flatMap_cons,List.getD_cons_succ]
  have e:(i+1)*n=(f x).length+i*n:=by rw[hx,Nat.succ_mul];omega
  rw[e,List.drop_length_add_append]
  exact ih
theorem ov {α:Type} (f:α→List Value) (n:Nat):∀(xs:List α),(∀x∈xs,(f x).length=n)→(xs.flatMap f).length=xs.length*n
 |[],_=>by simp
 |x::xs,h=>by
  have hx:=h x (List.mem_cons_self ..)
  have ih:=ov f n xs (fun y hy=>h y (List.mem_cons_of_mem _ hy))
  simp only[List.flatMap_cons,List.length_append,List.length_cons,hx,ih,Nat.succ_mul]
  omega
theorem ow {ρ:bU}:∀{xs:List SV} {z:List (List Value)},aw ρ xs z→∀i,i<xs.length→aL ρ (xs.getD i .any) (z.getD i [])∧z.length=xs.length
 |c::xs,z,h,0,_=>by
  simp only[aw]at h
  obtain⟨x,r,rfl,h1,h2⟩:=h
  refine⟨by simpa using h1, ?_⟩
  cases xs with
  |nil=>simp only[aw]at h2;subst h2;rfl
  |cons c' xs=>have:=(ow h2 0 (by simp)).2;simp[this]
 |c::xs,z,h,i+1,hi=>by
  simp only[aw]at h
  obtain⟨x,r,rfl,h1,h2⟩:=h
  obtain⟨h3,h4⟩:=ow h2 i (by simpa using hi)
  exact⟨by simpa using h3,by simp[h4]⟩
theorem wG {i n s:Nat} (h:i<n):i*s+s≤n*s:=by
 have:=Nat.mul_le_mul_right s (Nat.succ_le_of_lt h)
 rw[Nat.succ_mul]at this
 exact this
theorem Cn {ρ:bU} {d:Data} {s i:Nat} {ob:Option Prop} {cs:List SV} {vs:List Value} (h:elem d s i=some (ob,cs)) (ju:Cd ob) (hd:da ρ d vs):
  ∃z,aw ρ cs z∧z.flatten=(vs.drop (i*s)).take z.flatten.length∧i*s+z.flatten.length≤vs.length:=by
 cases d with
 |dead=>simp[elem]at h
 |loop rc=>simp[elem]at h
 |one cs'=>
  simp only[elem]at h
  cases i with
  |succ i=>simp at h
  |zero=>
   simp at h
   obtain⟨_,rfl⟩:=h
   simp only[da]at hd
   obtain⟨z,h1,rfl⟩:=hd
   exact⟨z,h1,by rw[List.take_of_length_le]<;>simp,by simp⟩
 |ints kd xs=>
  simp only[elem]at h
  cases hs:Nat.beq s 1 with
  |false=>rw[hs]at h;simp at h
  |true=>
   rw[hs]at h
   obtain rfl:s=1:=Nat.eq_of_beq_eq_true hs
   simp only[Option.some.injEq,Prod.mk.injEq]at h
   obtain⟨rfl,rfl⟩:=h
   have ju:i<xs.length:=ju
   simp only[da]at hd
   subst hd
   refine⟨[[.int kd (xs.getD i 0)]],by simp[aw,aL,Value.oneCell'], ?_,by simp;omega⟩
   have:=lQ (fun x:Int=>[Value.int kd x]) 1 0 xs (fun _ _=>rfl) i ju
   rw[show xs.map (Value.int kd)=xs.flatMap (fun x=>[Value.int kd x])from by rw[List.map_eq_flatMap]]
   exact this.symm
 |cb xs=>
  simp only[elem]at h
  cases hs:Nat.beq s 5 with
  |false=>rw[hs]at h;simp at h
  |true=>
   rw[hs]at h
   obtain rfl:s=5:=Nat.eq_of_beq_eq_true hs
   simp only[Option.some.injEq,Prod.mk.injEq]at h
   obtain⟨rfl,rfl⟩:=h
   have ju:i<xs.length:=ju
   simp only[da]at hd
   subst hd
   refine⟨[bD (xs.getD i 0)],by simp[aw,aL], ?_, ?_⟩
   ·have:=lQ bD 5 0 xs (fun x _=>(dc x).1) i ju
    simp only[List.flatten_cons,List.flatten_nil,List.append_nil]
    rw[(dc _).1]
    exact this.symm
   ·simp only[List.flatten_cons,List.flatten_nil,List.append_nil]
    rw[(dc _).1,ov bD 5 xs (fun x _=>(dc x).1)]
    exact wG ju
 |seq w xs=>
  simp only[elem]at h
  cases hs:Nat.beq s w with
  |false=>rw[hs]at h;simp at h
  |true=>
   rw[hs]at h
   obtain rfl:s=w:=Nat.eq_of_beq_eq_true hs
   simp only[Option.some.injEq,Prod.mk.injEq]at h
   obtain⟨rfl,rfl⟩:=h
   have ju:i<xs.length:=ju
   simp only[da]at hd
   obtain⟨z,h1,rfl,h2⟩:=hd
   have h1:=aw.mono (oo ρ ρ.cw) _ _ h1
   obtain⟨h3,h4⟩:=ow h1 i ju
   have hw:∀(l:List SV) (y:List (List Value)),aw ρ l y→(∀x∈l,x.width=s)→∀u∈y,(id u).length=s:=by
    intro l
    induction l with
    |nil=>intro y hy _ u hu;simp only[aw]at hy;subst hy;cases hu
    |cons c l ih=>
     intro y hy hc u hu
     simp only[aw]at hy
     obtain⟨x,r,rfl,g1,g2⟩:=hy
     rcases List.mem_cons.1 hu with rfl|hu
     ·rw[id,(aL.len c _ g1).1];exact hc c (List.mem_cons_self ..)
     ·exact ih r g2 (fun x hx=>hc x (List.mem_cons_of_mem _ hx)) u hu
   have ns:=hw xs z h1 h2
   have hi:i<z.length:=aa
   have hlen:(z.getD i []).length=s:=by
    have:=ns (z.getD i []) (by simp[hi])
    simpa using this
   refine⟨[z.getD i []],by simp only[aw];exact⟨_,[],rfl,h3,rfl⟩, ?_, ?_⟩
   ·have:=lQ id s [] z ns i hi
    simp only[List.flatten_cons,List.flatten_nil,List.append_nil,hlen]
    rw[List.flatMap_id]at this
    exact this.symm
   ·simp only[List.flatten_cons,List.flatten_nil,List.append_nil,hlen]
    have:=ov id s z ns
    rw[List.flatMap_id]at this
    rw[this,h4]
    exact wG ju
theorem lW {L y:List Value} {off n:Nat} (h:y=(L.drop off).take n):∀j v,y[j]? =some v→L[off+j]? =some v:=by
 intro j v hj
 subst h
 rw[List.getElem?_take]at hj
 split at hj
 ·rw[List.getElem?_drop]at hj;exact hj
 ·cases hj
theorem uX {t:TypeId} {ti:TI} (ht:aG P t ti) {w:World} {b off:Nat} {L:List Value} {ty:TypeId} {fz:Nat×Nat} {y:List Value} (hh:w.heap[b]? =some (.cells L.toArray ty fz))
  (hy:y=(L.drop off).take ti.size) (hle:off+ti.size≤L.length) (h1:ti.kind.isAgg=true∨ti.size=1):
  (loadVar t ⟨b,off,none⟩).run P w= .ok (if ti.kind.isAgg then .agg y.toArray else y.headD undef) w:=by
 have hlen:y.length=ti.size:=by rw[hy,List.length_take,List.length_drop];omega
 have wH:∀j v,y[j]? =some v→w.cell? ((⟨b,off,none⟩:Addr).add j)=some v:=by
  intro j v hj
  have h2:=lW hy j v hj
  have fU:(⟨b,off,none⟩:Addr).add j=⟨b,off+j,none⟩:=by unfold Addr.add;split<;>simp_all
  rw[fU,cell_of_row w b (off+j) _ ty fz hh]
  simpa using h2
 unfold loadVar
 rw[Sem.run_bind,ht.isAgg]
 cases ha:ti.kind.isAgg with
 |true=>
  have hl:=run_loadCells_list (P:=P) w ⟨b,off,none⟩ y wH
  rw[hlen]at hl
  simp[ht.sizeOf,hl]
 |false=>
  rcases h1 with h1|h1
  ·rw[ha]at h1;cases h1
  ·match y,hlen,wH with
   |[],hlen,_=>simp at hlen;omega
   |v::r,_,wH=>
    have:=wH 0 v rfl
    simp only[Addr.add,if_true]at this
    simp[this]
theorem FW {ρ:bU} {w:World} {t:TypeId} {ti:TI} {k s i r f b n:Nat} {blk:aF} {ob:Option Prop} {cs l:List SV} (ht:aG P t ti) (b9:ρ.key k=some (b,n)) (hb:hO ρ w k blk)
  (he:elem blk.data s i=some (ob,cs)) (ju:Cd ob) (hs:sub f cs r ti.size=some l) (gV:ti.size≠0) (hsh:eC ti l=some c):∃v,(loadVar t ⟨b,i*s+r,none⟩).run P w= .ok v w∧Has ρ c v:=by
  rcases hb with h0|⟨b',n',vs,ex,h1,h2,h3,h4,h5⟩|⟨h1,h2⟩
  case inl=>cases p8:blk.data<;>rw[p8]at h0 he<;>simp[Data.live,elem]at h0 he
  case inr.inr=>rw[b9]at h1;cases h1
  rw[b9]at h1
  cases h1
  rw[Data.cT (wF he)]at h2
  obtain⟨z,g1,g2,g3⟩:=Cn he ju h3
  obtain⟨y,e1,e2,e3⟩:=pq f cs r ti.size l z hs g1
  have e3:=e3.resolve_left gV
  have hy:y.flatten=((vs++ex).drop (i*s+r)).take ti.size:=by
   rw[e2,g2,List.drop_take,List.drop_drop,List.take_take,Nat.min_eq_left aa,List.drop_append_of_le_length aa,List.take_append_of_le_length (by simp;omega)]
  have wI:ti.kind.isAgg=true∨ti.size=1:=by
   cases ha:ti.kind.isAgg with
   |true=>exact .inl rfl
   |false=>
    right
    unfold eC at hsh
    rw[ha]at hsh
    match l,hsh,e1 with
    |[d],hsh,e1=>
     simp only[aw]at e1
     obtain⟨u,_,rfl,d1,rfl⟩:=e1
     have hd:d.bl=true:=by
      cases hd:d.bl with
      |true=>rfl
      |false=>simp only at hsh;rw[hd]at hsh;simp at hsh
     have Ru:d.width=1:=by
      cases d<;>simp only[SV.bl,Bool.false_eq_true]at hd<;>simp only[SV.width]
      exact Pred.rb _ hd
     have:=(aL.len d u d1).1
     simp only[List.flatten_cons,List.flatten_nil,List.append_nil]at e2
     have h7:=congrArg List.length e2
     rw[List.length_take,List.length_drop]at h7
     omega
    |[],hsh,_=>simp at hsh
    |_::_::_,hsh,_=>simp at hsh
  exact⟨_,uX ht (P:=P) h2 hy (by simp;omega) wI,jd hsh e1 rfl⟩
theorem FX {t:TypeId} {x:Operand} {ti:TI} {k s i r f:Nat} {blk:aF} {ob:Option Prop} {cs l:List SV} (ho:o.op= .load t x) (hx:bp ft x (.ptr k s i r)) (ht:aG P t ti)
  (hk:(k,blk)∈fk) (he:elem blk.data s i=some (ob,cs)) (ju:Cd ob) (hs:sub f cs r ti.size=some l) (gV:ti.size≠0) (hsh:eC ti l=some c):bS P o ft fk c [] []:=
 bw fun ρ a w hp=>by
  have hx:=hx ρ a hp.dy
  simp only[Has,aL]at hx
  obtain⟨_,⟨b,n,b9,rfl⟩,hv⟩:=hx
  simp only[cQ,SV.bl,if_true,List.headD_cons]at hv
  obtain⟨v,h1,h2⟩:=FW ht b9 (hp.n0 k blk hk) he ju hs gV hsh
  exact⟨v,by simp[execOp,ho,Instr.loadAt,Instr.sureAddr,hv,h1],h2⟩
end
end Go.Sx
namespace Go.Sx
theorem oy {P:Program} {t:TypeId} (h:(P.info? t).isSome=true) (w:World):(Go.sizeOf t).run P w= .ok (P.cellsOf t) w:=by
 cases hi:P.info? t with
 |none=>rw[hi]at h;cases h
 |some i=>simp[Go.sizeOf,typeInfo,hi,Program.cellsOf]
def jI (d:Data) (i:Nat) (cs:List SV):Option Data:=
 match d with
 |.one _=>match i with
  |0=>some (.one cs)
  |_+1=>none
 |.ints kd xs=>match cs with
  |[.val (.int kd' n)]=>if kd'=kd then some (.ints kd (xs.set i n))else none
  |_=>none
 |.cb xs=>match cs with
  |[.frac q]=>some (.cb (xs.set i q))
  |_=>none
 |.seq w xs=>match cs with
  |[c]=>match Nat.beq c.width w&&bP c with
   |true=>some (.seq w (xs.set i c))
   |false=>none
  |_=>none
 |.dead=>none
 |.loop _=>none
theorem yS {d d':Data} {i:Nat} {cs:List SV} (h:jI d i cs=some d'):d'.oq=false:=by
 cases d<;>simp only[jI,reduceCtorEq]at h<;>(repeat' split at h)<;>first|(cases h;rfl)|cases h
theorem l0 {α:Type} (f:α→List Value) (n:Nat):∀(xs:List α),(∀x∈xs,(f x).length=n)→∀i q,i<xs.length→(xs.set i q).flatMap f=(xs.flatMap f).take (i*n)++f q++(xs.flatMap f).drop (i*n+n)
 |x::xs,h,0,q,_=>by
  have hx:=h x (List.mem_cons_self ..)
  simp only[List.set_cons_zero,List.flatMap_cons,Nat.zero_mul,List.take_zero,List.nil_append,Nat.zero_add]
  rw[←hx,List.drop_left]
 |x::xs,h,i+1,q,hi=>by
  have hx:=h x (List.mem_cons_self ..)
  have ih:=l0 f n xs (fun y hy=>h y (List.mem_cons_of_mem _ hy)) i q (by simpa using hi)
  simp only[List.set_cons_succ,List.flatMap_cons,ih]
  have e:(i+1)*n=(f x).length+i*n:=by rw[hx,Nat.succ_mul];omega
  rw[e,List.take_length_add_append,Nat.add_assoc,List.drop_length_add_append]
  simp
theorem Co {ρ:bU}:∀{xs:List SV} {z:List (List Value)},aw ρ xs z→∀i c x,aL ρ c x→aw ρ (xs.set i c) (z.set i x)
 |[],z,h,i,c,x,_=>by simp only[aw]at h;subst h;simp[aw]
 |d::xs,z,h,0,c,x,hx=>by
  simp only[aw]at h
  obtain⟨y,r,rfl,h1,h2⟩:=h
  simp only[List.set_cons_zero,aw]
  exact⟨x,r,rfl,hx,h2⟩
 |d::xs,z,h,i+1,c,x,hx=>by
  simp only[aw]at h
  obtain⟨y,r,rfl,h1,h2⟩:=h
  simp only[List.set_cons_succ,aw]
  exact⟨y,_,rfl,h1,Co h2 i c x hx⟩
theorem eZ {ρ:bU} {s:Nat}:∀(l:List SV) (y:List (List Value)),aw ρ l y→(∀x∈l,x.width=s)→∀u∈y,(id u).length=s
 |[],y,hy,_,u,hu=>by simp only[aw]at hy;subst hy;cases hu
 |c::l,y,hy,hc,u,hu=>by
  simp only[aw]at hy
  obtain⟨x,r,rfl,g1,g2⟩:=hy
  rcases List.mem_cons.1 hu with rfl|hu
  ·rw[id,(aL.len c _ g1).1];exact hc c (List.mem_cons_self ..)
  ·exact eZ l r g2 (fun x hx=>hc x (List.mem_cons_of_mem _ hx)) u hu
theorem Cp {ρ:bU} {d d':Data} {s i:Nat} {ob:Option Prop} {cs cs':List SV} {vs:List Value} {z':List (List Value)} (h:elem d s i=some (ob,cs)) (ju:Cd ob) (hd:da ρ d vs)
  (h':jI d i cs'=some d') (hz:aw ρ cs' z') (hlen:z'.flatten.length=SV.de cs):
  da ρ d' (vs.take (i*s)++z'.flatten++vs.drop (i*s+SV.de cs)):=by
 cases d with
 |dead=>simp[elem]at h
 |loop rc=>simp[elem]at h
 |one cs0=>
  simp only[elem]at h
  cases i with
  |succ i=>simp at h
  |zero=>
   simp at h
   obtain⟨_,rfl⟩:=h
   simp only[jI,Option.some.injEq]at h'
   subst h'
   simp only[da]at hd ⊢
   obtain⟨z,h1,rfl⟩:=hd
   refine⟨z',hz, ?_⟩
   rw[List.drop_eq_nil_of_le (by rw[(aw.len _ _ h1).1];omega)]
   simp
 |ints kd xs=>
  simp only[elem]at h
  cases hs:Nat.beq s 1 with
  |false=>rw[hs]at h;simp at h
  |true=>
   rw[hs]at h
   obtain rfl:s=1:=Nat.eq_of_beq_eq_true hs
   simp only[Option.some.injEq,Prod.mk.injEq]at h
   obtain⟨rfl,rfl⟩:=h
   have ju:i<xs.length:=ju
   unfold jI at h'
   simp only at h'
   split at h'
   ·rename_i kd' n
    split at h'
    ·rename_i hk
     subst hk
     simp only[Option.some.injEq]at h'
     subst h'
     simp only[da]at hd ⊢
     subst hd
     simp only[aw,aL]at hz
     obtain⟨x,r,rfl,⟨rfl,_⟩,rfl⟩:=hz
     have:=l0 (fun x:Int=>[Value.int kd' x]) 1 xs (fun _ _=>rfl) i n ju
     rw[List.map_eq_flatMap,List.map_eq_flatMap,this]
     simp[SV.de,SV.width]
    ·simp at h'
   ·simp at h'
 |cb xs=>
  simp only[elem]at h
  cases hs:Nat.beq s 5 with
  |false=>rw[hs]at h;simp at h
  |true=>
   rw[hs]at h
   obtain rfl:s=5:=Nat.eq_of_beq_eq_true hs
   simp only[Option.some.injEq,Prod.mk.injEq]at h
   obtain⟨rfl,rfl⟩:=h
   have ju:i<xs.length:=ju
   unfold jI at h'
   simp only at h'
   split at h'
   ·rename_i q
    simp only[Option.some.injEq]at h'
    subst h'
    simp only[da]at hd ⊢
    subst hd
    simp only[aw,aL]at hz
    obtain⟨x,r,rfl,rfl,rfl⟩:=hz
    have:=l0 bD 5 xs (fun x _=>(dc x).1) i q ju
    rw[this]
    simp[SV.de,SV.width]
   ·simp at h'
 |seq w xs=>
  simp only[elem]at h
  cases hs:Nat.beq s w with
  |false=>rw[hs]at h;simp at h
  |true=>
   rw[hs]at h
   obtain rfl:s=w:=Nat.eq_of_beq_eq_true hs
   simp only[Option.some.injEq,Prod.mk.injEq]at h
   obtain⟨rfl,rfl⟩:=h
   have ju:i<xs.length:=ju
   unfold jI at h'
   simp only at h'
   split at h'
   ·rename_i c
    cases hw:(Nat.beq c.width s&&bP c)with
    |false=>rw[hw]at h';simp at h'
    |true=>
     rw[hw]at h'
     rw[Bool.and_eq_true]at hw
     have hcw:c.width=s:=Nat.eq_of_beq_eq_true hw.1
     simp only[Option.some.injEq]at h'
     subst h'
     simp only[da]at hd ⊢
     obtain⟨z,h1,rfl,h2⟩:=hd
     simp only[aw]at hz
     obtain⟨x,r,rfl,hx,rfl⟩:=hz
     refine⟨z.set i x,Co h1 i c x (lN (ρ:=ρ) (ρ':=cR ρ.bf ρ.cw) (fun _ _ h=>h) c x hw.2 hx), ?_, ?_⟩
     ·have hg:=(ow h1 i ju).2
      have:=l0 id s z (eZ xs z h1 h2) i x aa
      rw[List.flatMap_id,List.flatMap_id]at this
      rw[this]
      have hgw:(xs.getD i SV.any).width=s:=h2 _ (by simp[ju])
      simp only[SV.de,hgw,id,Nat.add_zero,List.flatten_cons,List.flatten_nil,List.append_nil]
     ·intro y hy
      rcases List.mem_or_eq_of_mem_set hy with h3|h3
      ·exact h2 y h3
      ·rw[h3];exact hcw
   ·simp at h'
theorem dC {w:World} {g:Nat} {cs cs':Array Value} {t:TypeId} {fr:Nat×Nat} (hg:w.heap[g]? =some (.cells cs t fr)):(w.setRow g cs').heap[g]? =some (.cells cs' t fr):=by
 simp[World.setRow,Array.getElem?_modify,hg]
theorem dj {w:World} {g k:Nat} {cs':Array Value} (h:k≠g):(w.setRow g cs').heap[k]? =w.heap[k]? :=by
 simp[World.setRow,Array.getElem?_modify,Ne.symm h]
section
variable {P:Program} {o:Oper} {ft:List (Nat×SV)} {fk new upd:List (Nat×aF)} {c:SV}
theorem Cq {t:TypeId} {x y:Operand} {ti:TI} {k s i r f:Nat} {ty:TypeId} {d d':Data} {ob:Option Prop} {cs cs' nw:List SV} {sv:SV} (ho:o.op= .store t x y) (hx:bp ft x (.ptr k s i r)) (hy:bp ft y sv)
  (ht:aG P t ti) (hk:(k,⟨ty,true,d⟩)∈fk) (he:elem d s i=some (ob,cs)) (ju:Cd ob) (hc:ot sv=some nw) (hw:SV.de nw=ti.size) (hle:r+ti.size≤SV.de cs)
  (hp:put f cs r ti.size nw=some cs') (hd:jI d i cs'=some d'):bS P o ft fk .any [] [(k,⟨ty,true,d'⟩)]:=
 M0 fun ρ a w IV=>by
  have hx:=hx ρ a IV.dy
  simp only[Has,aL]at hx
  obtain⟨_,⟨b,n,b9,rfl⟩,hv⟩:=hx
  simp only[cQ,SV.bl,if_true,List.headD_cons]at hv
  rcases IV.n0 k _ hk with h0|⟨b',n',vs,ex,h1,h2,h3,h4,h5⟩|⟨h1,h2⟩
  case inl=>simp only at h0;cases d<;>simp[Data.live,elem]at h0 he
  case inr.inr=>rw[b9]at h1;cases h1
  rw[b9]at h1
  cases h1
  simp only at h2 h3
  rw[Data.cT (wF he)]at h2
  obtain⟨z,g1,g2,g3⟩:=Cn he ju h3
  obtain⟨yz,y1,y2⟩:=mD hc (hy ρ a IV.dy)
  have Hf:=(aw.len nw yz y1).1
  have ZO:=(aw.len nw yz y1).2
  have qu:=(aw.len cs z g1).1
  obtain⟨z',p1,p2⟩:=FU hp g1 y1
  have ZP:z'.flatten.length=SV.de cs:=by
   rw[p2]
   simp only[List.length_append,List.length_take,List.length_drop]
   omega
  have hdc:=Cp he ju h3 hd p1 ZP
  have oA:vs=vs.take (i*s)++(z.flatten++vs.drop (i*s+SV.de cs)):=by
   rw[g2,qu,←List.drop_drop,List.take_append_drop,List.take_append_drop]
  have hAl:(vs.take (i*s)).length=i*s:=by rw[List.length_take];omega
  generalize hA:vs.take (i*s)=A at oA hAl hdc
  generalize hC:vs.drop (i*s+SV.de cs)=C at oA hdc
  have gV:(yz.flatten).length=ti.size:=aa
  have hL:(vs++ex).take (i*s+r)++yz.flatten++(vs++ex).drop (i*s+r+yz.flatten.length)=(A++z'.flatten++C)++ex:=by
   rw[oA,p2,gV,←hAl]
   simp only[List.append_assoc]
   rw[List.take_length_add_append,Nat.add_assoc,List.drop_length_add_append,List.take_append_of_le_length aa,List.drop_append_of_le_length aa]
   try simp
  have vE:(storeVar t ⟨b,i*s+r,none⟩ (a.eval y)).run P w= .ok () (w.setRow b ((A++z'.flatten++C)++ex).toArray):=by
   have Ei:=run_storeCells_at (P:=P) b (i*s+r) ty yz.flatten 0 (vs++ex).toArray w h2 (by simp only[List.size_toArray,List.length_append];omega) ZO
   simp only[Nat.add_zero,hL]at Ei
   have fV:(a.eval y).cells.size=ti.size:=by rw[←Array.length_toList,y2];exact gV
   unfold storeVar
   simp only[Sem.run_bind,ht.sizeOf,Result.andThen_ok,fV,ne_eq,not_true_eq_false,if_false,y2,Ei]
  refine⟨w.setRow b ((A++z'.flatten++C)++ex).toArray,ρ, ?_, ?_⟩
  ·simp only[execOp,ho,Instr.storeAt,Instr.sureAddr,hv,Sem.run_bind,Sem.run_pure,Result.andThen_ok,vE]
  ·refine⟨.refl ρ,trivial,fun _ _=>rfl,⟨rfl,rfl,rfl,by simp[World.setRow],fun i hi hn=> ?_⟩,fun j bj hj=> ?_,(fun j c c' h1 h2 h3 h4=> ?_),(fun _ _ _ h=>by cases h),(fun _ _ _ _ _ _ h=>by cases h),fun b o h=>.inl h⟩
   ·refine dj fun Zo=>hn ⟨k,_,n,List.mem_cons_self .., ?_⟩
    rw[Zo];exact b9
   ·rcases hj with hj|hj
    ·simp only[List.mem_singleton,Prod.mk.injEq]at hj
     obtain⟨rfl,rfl⟩:=hj
     refine .inr (.inl ⟨b,n,_,ex,b9,by rw[Data.cT (yS hd)];exact dC h2,hdc, ?_,h5⟩)
     rw[←h4,oA]
     simp only[List.length_append,ZP,qu]
     omega
    ·cases hj
   ·simp only[List.mem_singleton,Prod.mk.injEq]at h1 h2
    obtain⟨_,rfl⟩:=h1
    obtain⟨_,rfl⟩:=h2
    rw[h3]at h4;cases h4
theorem AN {S:TypeId} {x:Operand} {j off e sz:Nat} {ti:TI} {fs:List (Nat×TypeId×Nat)} {k s i r:Nat} (ho:o.op= .fieldAddr S x j) (hx:bp ft x (.ptr k s i r)) (ht:aG P S ti)
  (yR:ti.kind= .agg fs) (hj:fs[j]? =some (off,e,sz)) (gV:sz≠0):bS P o ft fk (.ptr k s i (r+off)) [] []:=
 bw fun ρ a w hp=>by
  have hx:=hx ρ a hp.dy
  simp only[Has,aL]at hx
  obtain⟨_,⟨b,n,b9,rfl⟩,hv⟩:=hx
  simp only[cQ,SV.bl,if_true,List.headD_cons]at hv
  have hk:=ht.kind
  rw[yR]at hk
  obtain⟨h1,h2,h3⟩:=hk
  have hf:∃fd,(P.fieldsOf S)[j]? =some fd∧fd.offset=off∧P.cellsOf fd.type=sz∧(P.info? fd.type).isSome=true:=by
   rw[←h2,List.getElem?_map]at hj
   cases hq:(P.fieldsOf S).toList[j]? with
   |none=>rw[hq]at hj;simp at hj
   |some fd=>
    rw[hq]at hj
    simp only[Option.map_some,Option.some.injEq,Prod.mk.injEq]at hj
    refine⟨fd,by simpa using hq,hj.1,hj.2.2, ?_⟩
    exact List.all_eq_true.1 h3 fd (List.mem_of_getElem? hq)
  obtain⟨fd,f1,f2,f3,f4⟩:=hf
  refine⟨.pointer (some ⟨b,i*s+(r+off),none⟩), ?_, ?_⟩
  ·have fU:(⟨b,i*s+r,none⟩:Addr).add fd.offset=⟨b,i*s+(r+off),none⟩:=by
    unfold Addr.add
    rw[f2]
    split
    ·rename_i h0;simp[h0]
    ·simp[Nat.add_assoc]
   simp[execOp,ho,Instr.fieldAt,run_underlying h1,f1,Instr.sureAddr,hv,fieldPlace,oy f4,f3,gV,fU]
  ·simp only[Has,aL]
   exact⟨_,⟨b,n,b9,rfl⟩,by simp[cQ,SV.bl]⟩
theorem Ej {x:Operand} {ix:Nat} {l:List SV} (ho:o.op= .extract x ix) (hx:bp ft x (.ck l)) (hl:l[ix]? =some c) (hc:c.bl=true∨(ot c).isSome=true):bS P o ft fk c [] []:=
 bw fun ρ a w hp=>by
  have hx:=hx ρ a hp.dy
  simp only[Has]at hx
  obtain⟨z,h1,hv⟩:=hx
  have key:∀(l:List SV) (z:List (List Value)) (ix:Nat),aw ρ l z→l[ix]? =some c→∃x,aL ρ c x∧(List.zipWith cQ l z)[ix]? =some (cQ c x):=by
   intro l
   induction l with
   |nil=>intro z ix _ h;simp at h
   |cons d l ih=>
    intro z ix hz h
    simp only[aw]at hz
    obtain⟨x,r,rfl,g1,g2⟩:=hz
    cases ix with
    |zero=>simp at h;subst h;exact⟨x,g1,by simp⟩
    |succ ix=>simpa using ih r ix g2 (by simpa using h)
  obtain⟨x',g1,g2⟩:=key l z ix h1 hl
  refine⟨cQ c x', ?_, ?_⟩
  ·simp[execOp,ho,Instr.extract,hv,g2]
  ·cases c<;>simp only[Has]
   case ck=>simp[ot,SV.bl]at hc
   all_goals exact⟨x',g1,rfl⟩
end
end Go.Sx
namespace Go.Sx
def Ek (k:IntKind) (x y:Int):Int:=k.wrap (BitVec.ofInt k.bits x&&& BitVec.ofInt k.bits y).toNat
def D7 (k:IntKind) (x y:Int):Int:=k.wrap (BitVec.ofInt k.bits x|||BitVec.ofInt k.bits y).toNat
def yT (k:IntKind) (x y:Int):Int:=k.wrap (BitVec.ofInt k.bits x^^^BitVec.ofInt k.bits y).toNat
def jJ (k:IntKind) (x y:Int):Int:=k.wrap (x*2^(min y.toNat k.bits))
def jK (k:IntKind) (x y:Int):Int:=x.fdiv (2^(min y.toNat k.bits))
def M1 (op:BinOp) (k:IntKind) (a b:Int):Option (Option Prop×Value):=
 match op with
 |.add=>some (none,.int k (k.wrap (a+b)))
 |.sub=>some (none,.int k (k.wrap (a - b)))
 |.mul=>some (none,.int k (k.wrap (a*b)))
 |.quo=>some (some (b≠0),.int k (k.wrap (a.tdiv b)))
 |.rem=>some (some (b≠0),.int k (a.tmod b))
 |.and=>some (none,.int k (Ek k a b))
 |.or=>some (none,.int k (D7 k a b))
 |.xor=>some (none,.int k (yT k a b))
 |.eql=>some (none,.bool (a==b))
 |.neq=>some (none,.bool (a != b))
 |.lss=>some (none,.bool (decide (a<b)))
 |.leq=>some (none,.bool (decide (a≤b)))
 |.gtr=>some (none,.bool (decide (a>b)))
 |.geq=>some (none,.bool (decide (a≥b)))
 |_=>none
theorem cd {ρ:bU} {v:Value} (h:v.oneCell'=true):Has ρ (.val v) v:=by
 simp only[Has,aL]
 exact⟨[v],⟨rfl,h⟩,by simp[cQ,SV.bl]⟩
theorem aK {ρ:bU} {u v:Value} (h:Has ρ (.val u) v):v=u:=by
 simp only[Has,aL]at h
 obtain⟨_,⟨rfl,_⟩,rfl⟩:=h
 rfl
section
variable {P:Program} {o:Oper} {ft:List (Nat×SV)} {fk:List (Nat×aF)}
theorem M3 {op:BinOp} {xt yt:TypeId} {x y:Operand} {k:IntKind} {a b:Int} {ob:Option Prop} {v:Value} (ho:o.op= .binOp op xt x y yt) (hx:bp ft x (.val (.int k a))) (hy:bp ft y (.val (.int k b)))
  (h:M1 op k a b=some (ob,v)) (ju:Cd ob):bS P o ft fk (.val v) [] []:=
 bw fun ρ ac w hp=>by
  have e1:=aK (hx ρ ac hp.dy)
  have e2:=aK (hy ρ ac hp.dy)
  refine⟨v, ?_, ?_⟩
  ·cases op<;>simp only[M1,Option.some.injEq,Prod.mk.injEq,reduceCtorEq]at h<;>obtain⟨rfl,rfl⟩:=h<;>
    first
    |(simp[execOp,ho,e1,e2,eqGuard,binOp,Op.intArith];done)
    |(have ju:b≠0:=ju;simp[execOp,ho,e1,e2,eqGuard,binOp,Op.intDiv,ju];done)
    |(simp[execOp,ho,e1,e2,eqGuard,binOp,Op.intBits,Ek,D7,yT];done)
    |(simp[execOp,ho,e1,e2,eqGuard,binOp,Op.intCmp];done)
  ·refine cd ?_
   cases op<;>simp only[M1,Option.some.injEq,Prod.mk.injEq,reduceCtorEq]at h<;>obtain⟨rfl,rfl⟩:=h<;>rfl
theorem Rv {xt yt:TypeId} {x y:Operand} {k k':IntKind} {a b:Int} (ho:o.op= .binOp .shl xt x y yt) (hx:bp ft x (.val (.int k a))) (hy:bp ft y (.val (.int k' b)))
  (ju:0≤b):bS P o ft fk (.val (.int k (jJ k a b))) [] []:=
 bw fun ρ ac w hp=>by
  have e1:=aK (hx ρ ac hp.dy)
  have e2:=aK (hy ρ ac hp.dy)
  refine⟨_, ?_,cd rfl⟩
  have:¬b<0:=aa
  simp[execOp,ho,e1,e2,eqGuard,binOp,Op.shift,this,jJ]
theorem Rw {xt yt:TypeId} {x y:Operand} {k k':IntKind} {a b:Int} (ho:o.op= .binOp .shr xt x y yt) (hx:bp ft x (.val (.int k a))) (hy:bp ft y (.val (.int k' b)))
  (ju:0≤b):bS P o ft fk (.val (.int k (jK k a b))) [] []:=
 bw fun ρ ac w hp=>by
  have e1:=aK (hx ρ ac hp.dy)
  have e2:=aK (hy ρ ac hp.dy)
  refine⟨_, ?_,cd rfl⟩
  have:¬b<0:=aa
  simp[execOp,ho,e1,e2,eqGuard,binOp,Op.shift,this,jK]
theorem Rx {xt yt:TypeId} {x y:Operand} {a b:Bool} {ti:TI} (ho:o.op= .binOp .eql xt x y yt) (hx:bp ft x (.val (.bool a))) (hy:bp ft y (.val (.bool b))) (ht:aG P xt ti) (hk:ti.kind= .bool):
  bS P o ft fk (.val (.bool (a==b))) [] []:=
 bw fun ρ ac w hp=>by
  have e1:=aK (hx ρ ac hp.dy)
  have e2:=aK (hy ρ ac hp.dy)
  have h:=ht.kind;rw[hk]at h
  refine⟨_, ?_,cd rfl⟩
  simp[execOp,ho,e1,e2,eqGuard,run_eql_bool w xt a b h]
theorem Ry {xt yt:TypeId} {x y:Operand} {a b:Bool} {ti:TI} (ho:o.op= .binOp .neq xt x y yt) (hx:bp ft x (.val (.bool a))) (hy:bp ft y (.val (.bool b))) (ht:aG P xt ti) (hk:ti.kind= .bool):
  bS P o ft fk (.val (.bool (a != b))) [] []:=
 bw fun ρ ac w hp=>by
  have e1:=aK (hx ρ ac hp.dy)
  have e2:=aK (hy ρ ac hp.dy)
  have h:=ht.kind;rw[hk]at h
  refine⟨_, ?_,cd rfl⟩
  simp[execOp,ho,e1,e2,eqGuard,run_neq_bool w xt a b h]
  cases a<;>cases b<;>rfl
def M4 (op:BinOp) (a b:ByteArray):Option (Option Prop×Value):=
 match op with
 |.add=>some (some (a.size+b.size≤9223372036854775807),.string (a++b))
 |.eql=>some (none,.bool (a.toList==b.toList))
 |.neq=>some (none,.bool (!(a.toList==b.toList)))
 |_=>none
theorem M5 {op:BinOp} {xt yt:TypeId} {x y:Operand} {a b:ByteArray} {ob:Option Prop} {v:Value} (ho:o.op= .binOp op xt x y yt) (hx:bp ft x (.val (.string a))) (hy:bp ft y (.val (.string b)))
  (h:M4 op a b=some (ob,v)) (ju:Cd ob):bS P o ft fk (.val v) [] []:=
 bw fun ρ ac w hp=>by
  have e1:=aK (hx ρ ac hp.dy)
  have e2:=aK (hy ρ ac hp.dy)
  refine⟨v, ?_, ?_⟩
  ·cases op<;>simp only[M4,Option.some.injEq,Prod.mk.injEq,reduceCtorEq]at h<;>obtain⟨rfl,rfl⟩:=h
   case add=>
    simp[execOp,ho,e1,e2,eqGuard,binOp,run_string_add_sum w a b (show a.size+b.size≤9223372036854775807 from ju)]
   all_goals simp[execOp,ho,e1,e2,eqGuard,binOp,Op.stringOp]
  ·refine cd ?_
   cases op<;>simp only[M4,Option.some.injEq,Prod.mk.injEq,reduceCtorEq]at h<;>obtain⟨rfl,rfl⟩:=h<;>rfl
theorem Rz {xt:TypeId} {x:Operand} {a:Bool} (ho:o.op= .unOp .not xt x) (hx:bp ft x (.val (.bool a))):bS P o ft fk (.val (.bool (!a))) [] []:=
 bw fun ρ ac w hp=>by
  have e1:=aK (hx ρ ac hp.dy)
  exact⟨_,by simp[execOp,ho,e1,Op.unary],cd rfl⟩
theorem RA {xt:TypeId} {x:Operand} {k:IntKind} {a:Int} (ho:o.op= .unOp .neg xt x) (hx:bp ft x (.val (.int k a))):bS P o ft fk (.val (.int k (k.wrap (0 - a)))) [] []:=
 bw fun ρ ac w hp=>by
  have e1:=aK (hx ρ ac hp.dy)
  exact⟨_,by simp[execOp,ho,e1,Op.unary,Op.intArith],cd rfl⟩
theorem RB {xt:TypeId} {x:Operand} {k:IntKind} {a:Int} (ho:o.op= .unOp .xor xt x) (hx:bp ft x (.val (.int k a))):bS P o ft fk (.val (.int k (yT k (if k.signed=true then -1 else k.max) a))) [] []:=
 bw fun ρ ac w hp=>by
  have e1:=aK (hx ρ ac hp.dy)
  exact⟨_,by simp[execOp,ho,e1,Op.unary,Op.intBits,yT],cd rfl⟩
theorem M6 {src dst:TypeId} {x:Operand} {k k':IntKind} {a:Int} {ts td:TI} (ho:o.op= .convert src dst x) (hx:bp ft x (.val (.int k' a))) (hs:aG P src ts) (hd:aG P dst td) (hk:td.kind= .int k) (nu:ts.kind= .int k'):
  bS P o ft fk (.val (.int k (k.wrap a))) [] []:=
 bw fun ρ ac w hp=>by
  have e1:=aK (hx ρ ac hp.dy)
  have h1:=hs.kind;rw[nu]at h1
  have h2:=hd.kind;rw[hk]at h2
  exact⟨_,by simp[execOp,ho,e1,convert,run_underlying h1,run_underlying h2,Conv.intToInt],cd rfl⟩
theorem l7 {x y z:Operand} {b:Bool} {c c1 c2:SV} (ho:o.op= .pick x y z) (hx:bp ft x (.val (.bool b))) (hy:b=true→bp ft y c1) (hz:b=false→bp ft z c2) (hc:c=if b then c1 else c2):bS P o ft fk c [] []:=
 bw fun ρ ac w hp=>by
  have e1:=aK (hx ρ ac hp.dy)
  cases b
  ·refine⟨ac.eval z,by simp[execOp,ho,e1,asBool], ?_⟩
   rw[hc];simpa using hz rfl ρ ac hp.dy
  ·refine⟨ac.eval y,by simp[execOp,ho,e1,asBool], ?_⟩
   rw[hc];simpa using hy rfl ρ ac hp.dy
end
def Cr (P:Program) (f:FuncId):Prop:=∃fn,P.funcs[f]? =some fn∧(fn.name== "runtime.NumGoroutine")=false∧fn.body.isNone=false
structure oB (fk new:List (Nat×aF)) (ρ:bU) (w:World):Prop where
 n0:∀k b,(k,b)∈fk→hO ρ w k b
 sep:∀k k' x x' b b',(k,b)∈fk→(k',b')∈fk→ρ.key k=some x→ρ.key k'=some x'→k≠k'→x.1=x'.1→b.data.live=true→b'.data.live=true→b.wr=false
 bf:∀b o,ρ.bf b=some o→w.heap[b]? =some o
 eV:∀k b x,(k,b)∈fk→b.wr=true→b.data.live=true→ρ.key k=some x→ρ.bf x.1=none
 fresh:∀k b,(k,b)∈new→ρ.key k=none
theorem Ro.toW {ft:List (Nat×SV)} {fk new:List (Nat×aF)} {ρ:bU} {a:Act} {w:World} (h:Ro ft fk new ρ a w):oB fk new ρ w:=⟨h.n0,h.sep,h.bf,h.eV,h.fresh⟩
def ab (P:Program) (f:FuncId) (args:List SV) (fk:List (Nat×aF)) (c:SV) (new upd:List (Nat×aF)):Prop:=
 (Cr P f∧∀ρ w z,aw ρ args z→oB fk new ρ w→
  Calls P f (List.zipWith cQ args z).toArray w fun e w'=>∃v ρ',e= .returned v∧jH ρ w c new upd v ρ' w')∨
 (∀ρ w z,aw ρ args z→oB fk new ρ w→∃v ρ' w',(callFunc f (List.zipWith cQ args z).toArray).run P w= .ok (.value v) w'∧jH ρ w c new upd v ρ' w')
def bx:SV→Bool
 |.any|.ck _=>false
 |_=>true
theorem Cs {ρ:bU} {c:SV} {v:Value} (h:bx c=true) (hv:Has ρ c v):∃x,aL ρ c x∧v=cQ c x:=by
 cases c<;>simp[bx]at h<;>simpa only[Has]using hv
def IY (fr:List (Nat×SV)):List Operand→Option (List SV)
 |[]=>some []
 |x::r=>match ev fr x with
  |none=>none
  |some c=>match bx c with
   |false=>none
   |true=>match IY fr r with
    |none=>none
    |some l=>some (c::l)
theorem wJ {fr:List (Nat×SV)}:∀{xs:List Operand} {l:List SV},IY fr xs=some l→∀ρ a,(∀t s,(t,s)∈fr→Has ρ s (a.tmps.getD t undef))→∃z,aw ρ l z∧xs.map (Act.eval a)=List.zipWith cQ l z
 |[],l,h,ρ,a,_=>by simp[IY]at h;subst h;exact⟨[],by simp[aw],rfl⟩
 |x::r,l,h,ρ,a,hf=>by
  simp only[IY]at h
  cases hx:ev fr x with
  |none=>rw[hx]at h;simp at h
  |some c=>
   rw[hx]at h
   simp only at h
   cases hp:bx c with
   |false=>rw[hp]at h;simp at h
   |true=>
    rw[hp]at h
    simp only at h
    cases hr:IY fr r with
    |none=>rw[hr]at h;simp at h
    |some l'=>
     rw[hr]at h
     simp only[Option.some.injEq]at h
     subst h
     obtain⟨z,h1,h2⟩:=wJ hr ρ a hf
     obtain⟨y,h3,h4⟩:=Cs hp (ak hx ρ a hf)
     exact⟨y::z,by simp only[aw];exact⟨y,z,rfl,h3,h1⟩,by simp[h2,h4]⟩
section
variable {P:Program} {o:Oper} {fr:List (Nat×SV)}
theorem M7 {x:Operand} {xs:Array Operand} {ts:Array TypeId} {f:FuncId} {first cap args:List SV} {fk new upd:List (Nat×aF)} {c:SV}
  (ho:o.op= .call ⟨.value x,xs,ts⟩) (hx:ev fr x=some (.clo f first cap)) (mr:IY fr xs.toList=some args)
  (hc:ab P f (first++(args++cap)) fk c new upd):bS P o fr fk c new upd:=by
 intro ρ a w hp
 have e1:=ak hx ρ a hp.dy
 simp only[Has,aL]at e1
 obtain⟨_,⟨fz,cz,h1,h2,rfl⟩,hv⟩:=e1
 simp only[cQ,SV.bl,if_true,List.headD_cons]at hv
 obtain⟨z,h3,h4⟩:=wJ mr ρ a hp.dy
 have zl:∀(l:List SV) (z:List (List Value)),aw ρ l z→l.length=z.length:=by
  intro l
  induction l with
  |nil=>intro z hz;simp only[aw]at hz;subst hz;rfl
  |cons c l ih=>intro z hz;simp only[aw]at hz;obtain⟨x,r,rfl,_,h⟩:=hz;simp[ih r h]
 have zk:(List.zipWith cQ (first++(args++cap)) (fz++(z++cz))).toArray=((List.zipWith cQ first fz).toArray++xs.map (Act.eval a))++(List.zipWith cQ cap cz).toArray:=by
  rw[List.zipWith_append (zl _ _ h1),List.zipWith_append (zl _ _ h3),←h4]
  apply Array.ext'
  simp
 have Py:(execOp a.eval o).run P w=(callFunc f (List.zipWith cQ (first++(args++cap)) (fz++(z++cz))).toArray).run P w:=by
  rw[zk]
  simp[execOp,ho,resolve,hv,Deferred.ofValue,invoke]
 rcases hc with⟨⟨fn,hf,hn,hb⟩,fa⟩|hext
 ·have vE:(execOp a.eval o).run P w= .ok (.enter f (List.zipWith cQ (first++(args++cap)) (fz++(z++cz))).toArray) w:=by
   have Zn:¬fn.name= "runtime.NumGoroutine" :=by simpa using hn
   have gu:¬fn.body=none:=fun h=>by rw[h]at hb;cases hb
   rw[Py]
   simp[callFunc,hf,Zn,gu]
  unfold goes
  rw[vE]
  simp only
  refine(fa ρ w _ (cU h1 (cU h3 h2)) hp.toW).mono ?_
  rintro e w' ⟨v,ρ',rfl,cj⟩
  exact⟨v,rfl,v,ρ',rfl,cj⟩
 ·obtain⟨v,ρ',w',hr,cj⟩:=hext ρ w _ (cU h1 (cU h3 h2)) hp.toW
  unfold goes
  rw[Py,hr]
  exact⟨v,ρ',rfl,cj⟩
def Pz (P:Program) (k:Nat) (rc:Loop) (ts:List Nat) (cap args:List SV) (fk:List (Nat×aF)) (c:SV) (new upd:List (Nat×aF)):Prop:=
 ∀ρ w z zc l t,aw ρ args z→aw ρ cap zc→(List.zipWith cQ cap zc=ts.map fun t=>rc.tmps.getD t undef)→ρ.key k=some (l,t)→oB fk new ρ w→
  ∃f tmps assign body,(Instr.yield l (List.zipWith cQ args z).toArray).run P w= .ok (.round l f tmps assign body) w∧
   RoundIn Fence.wide 0 P l f tmps assign body w fun e w'=>∃v ρ',e= .returned v∧jH ρ w c new upd v ρ' w'
theorem IZ {x:Operand} {xs:Array Operand} {ts:Array TypeId} {k:Nat} {rc:Loop} {us:List Nat} {cap args:List SV} {fk new upd:List (Nat×aF)} {c:SV}
  (ho:o.op= .call ⟨.value x,xs,ts⟩) (hx:ev fr x=some (.yld k rc us cap)) (mr:IY fr xs.toList=some args)
  (hc:Pz P k rc us cap args fk c new upd):bS P o fr fk c new upd:=by
 intro ρ a w hp
 have e1:=ak hx ρ a hp.dy
 simp only[Has,aL]at e1
 obtain⟨_,⟨l,t,h0,rfl,zc,h1,h2⟩,hv⟩:=e1
 simp only[cQ,SV.bl,if_true,List.headD_cons]at hv
 obtain⟨z,h3,h4⟩:=wJ mr ρ a hp.dy
 obtain⟨f,tmps,assign,body,hy,hr⟩:=hc ρ w z zc l t h3 h1 h2 h0 hp.toW
 have vE:(execOp a.eval o).run P w= .ok (.round l f tmps assign body) w:=by
  have e:xs.map (Act.eval a)=(List.zipWith cQ args z).toArray:=by apply Array.ext';simp[h4]
  rw[←hy,←e]
  simp[execOp,ho,resolve,hv,Deferred.ofValue,invoke]
 unfold goes
 rw[vE]
 simp only
 refine hr.mono ?_
 rintro e w' ⟨v,ρ',rfl,cj⟩
 exact⟨v,rfl,v,ρ',rfl,cj⟩
end
end Go.Sx
namespace Go.Sx
theorem fI {ρ:bU} {k s i n:Nat} {v:Value} (h:Has ρ (.aO k s i n) v):
  (∃b t cap,ρ.key k=some (b,t)∧n≤cap∧(i+cap)*s≤t∧v= .slice (some ⟨b,i*s,none⟩) n cap)∨(n=0∧∃a,v= .slice a 0 0):=by
 simp only[Has,aL]at h
 obtain⟨x,h1,rfl⟩:=h
 rcases h1 with⟨b,t,cap,e1,e2,e3,rfl⟩|⟨e1,a,rfl⟩
 ·exact .inl ⟨b,t,cap,e1,e2,e3,by simp[cQ,SV.bl]⟩
 ·exact .inr ⟨e1,a,by simp[cQ,SV.bl]⟩
theorem gv {ρ:bU} {k s i n:Nat} {v:Value} (h:(∃b t cap,ρ.key k=some (b,t)∧n≤cap∧(i+cap)*s≤t∧v= .slice (some ⟨b,i*s,none⟩) n cap)∨(n=0∧∃a,v= .slice a 0 0)):Has ρ (.aO k s i n) v:=by
 simp only[Has,aL]
 refine⟨[v], ?_,by simp[cQ,SV.bl]⟩
 rcases h with⟨b,t,cap,e1,e2,e3,rfl⟩|⟨e1,a,rfl⟩
 ·exact .inl ⟨b,t,cap,e1,e2,e3,rfl⟩
 ·exact .inr ⟨e1,a,rfl⟩
theorem FY {ρ:bU} {k s i r:Nat} {v:Value} (h:Has ρ (.ptr k s i r) v):∃b t,ρ.key k=some (b,t)∧v= .pointer (some ⟨b,i*s+r,none⟩):=by
 simp only[Has,aL]at h
 obtain⟨_,⟨b,n,b9,rfl⟩,rfl⟩:=h
 exact⟨b,n,b9,by simp[cQ,SV.bl]⟩
theorem AO {ρ:bU} {k s i r b t:Nat} (h:ρ.key k=some (b,t)):Has ρ (.ptr k s i r) (.pointer (some ⟨b,i*s+r,none⟩)):=by
 simp only[Has,aL]
 exact⟨_,⟨b,t,h,rfl⟩,by simp[cQ,SV.bl]⟩
section
variable {P:Program} {o:Oper} {ft:List (Nat×SV)} {fk:List (Nat×aF)}
theorem Ct {x:Operand} {k s i r:Nat} (ho:o.op= .nilCheck x) (hx:bp ft x (.ptr k s i r)):bS P o ft fk (.ptr k s i r) [] []:=
 bw fun ρ a w hp=>by
  obtain⟨b,t,h1,h2⟩:=FY (hx ρ a hp.dy)
  exact⟨_,by simp[execOp,ho,h2],AO h1⟩
theorem AP {x:Operand} {f:FuncId} {first cap:List SV} (ho:o.op= .nilCheck x) (hx:bp ft x (.clo f first cap)):bS P o ft fk (.clo f first cap) [] []:=
 bw fun ρ a w hp=>by
  have h:=hx ρ a hp.dy
  have h':=h
  simp only[Has,aL]at h'
  obtain⟨_,⟨fz,cz,_,_,rfl⟩,hv⟩:=h'
  simp only[cQ,SV.bl,if_true,List.headD_cons]at hv
  exact⟨_,by simp[execOp,ho,hv],hv▸h⟩
theorem AQ {t e:TypeId} {x ix:Operand} {ti te:TI} {k s i n:Nat} {kd:IntKind} {j:Int} (ho:o.op= .indexAddr t x ix) (hx:bp ft x (.aO k s i n)) (hi:bp ft ix (.val (.int kd j)))
  (ht:aG P t ti) (hk:ti.kind= .aO e) (he:aG P e te) (hs:te.size=s) (h0:0≤j) (hj:j<n):bS P o ft fk (.ptr k s (i+j.toNat) 0) [] []:=
 bw fun ρ a w hp=>by
  have e2:=aK (hi ρ a hp.dy)
  have hu:=ht.kind;rw[hk]at hu
  rcases fI (hx ρ a hp.dy)with⟨b,t',cap,h1,h2,h3,h4⟩|⟨h1,_⟩
  ·refine⟨.pointer (some ⟨b,(i+j.toNat)*s+0,none⟩), ?_,AO h1⟩
   have fU:(⟨b,i*s,none⟩:Addr).add (j.toNat*s)=⟨b,(i+j.toNat)*s+0,none⟩:=by
    unfold Addr.add
    rw[Nat.add_mul]
    split
    ·rename_i h0;simp[h0]
    ·rfl
   have ou:0≤j∧j<(n:Int):=⟨h0,hj⟩
   simp only[execOp,ho,Instr.indexAt,e2,h4,asIntOf,Sem.run_bind,Sem.run_pure,Result.andThen_ok,run_underlying hu,ou,and_self,if_true,he.sizeOf,hs,fU]
  ·omega
theorem Cu {t e:TypeId} {x ix:Operand} {ti te:TI} {k s i r n:Nat} {kd:IntKind} {j:Int} (ho:o.op= .indexAddr t x ix) (hx:bp ft x (.ptr k s i r)) (hi:bp ft ix (.val (.int kd j)))
  (ht:aG P t ti) (hk:ti.kind= .arr n e) (he:aG P e te) (h0:0≤j) (hj:j<n):bS P o ft fk (.ptr k s i (r+j.toNat*te.size)) [] []:=
 bw fun ρ a w hp=>by
  have e2:=aK (hi ρ a hp.dy)
  have hu:=ht.kind;rw[hk]at hu
  obtain⟨b,t',h1,h2⟩:=FY (hx ρ a hp.dy)
  refine⟨.pointer (some ⟨b,i*s+(r+j.toNat*te.size),none⟩), ?_,AO h1⟩
  have fU:(⟨b,i*s+r,none⟩:Addr).add (j.toNat*te.size)=⟨b,i*s+(r+j.toNat*te.size),none⟩:=by
   unfold Addr.add
   split
   ·rename_i h0;simp[h0]
   ·simp[Nat.add_assoc]
  have ou:0≤j∧j<(n:Int):=⟨h0,hj⟩
  simp only[execOp,ho,Instr.indexAt,e2,h2,asIntOf,Sem.run_bind,Sem.run_pure,Result.andThen_ok,run_underlying hu,Instr.sureAddr,ou,and_self,if_true,he.sizeOf,fU]
theorem Cv {t:TypeId} {x ix:Operand} {ti:TI} {s:ByteArray} {kd:IntKind} {j:Int} (ho:o.op= .index t x ix) (hx:bp ft x (.val (.string s))) (hi:bp ft ix (.val (.int kd j)))
  (ht:aG P t ti) (hk:ti.kind= .str) (h0:0≤j) (hj:j<s.size):bS P o ft fk (.val (.int .u8 (((s.data.getD j.toNat 0).toNat:Nat):Int))) [] []:=
 bw fun ρ a w hp=>by
  have e1:=aK (hx ρ a hp.dy)
  have e2:=aK (hi ρ a hp.dy)
  have hu:=ht.kind;rw[hk]at hu
  refine⟨_, ?_,cd rfl⟩
  have aE:j.toNat<s.size:=aa
  have hg:s[j.toNat]? =some (s.data.getD j.toNat 0):=by
   have adn:j.toNat<s.data.size:=aE
   rw[Array.getD_eq_getD_getElem?,getElem?_pos s j.toNat aE,Array.getElem?_eq_getElem adn]
   rfl
  simp only[execOp,ho,Instr.index,e1,e2,asIntOf,Sem.run_bind,Sem.run_pure,Result.andThen_ok,run_underlying hu,h0,if_true,hg]
def El:SV→Option Int
 |.aO _ _ _ n=>some (n:Int)
 |.val (.string s)=>some (s.size:Int)
 |.val (.slice _ n _)=>some (n:Int)
 |_=>none
theorem Em {x:Operand} {xs:Array Operand} {t:TypeId} {ts:Array TypeId} {c:SV} {n:Int} {ti:TI} (ho:o.op= .call ⟨.builtin .len,xs,ts⟩) (mr:xs= #[x]) (jE:ts= #[t]) (hx:bp ft x c) (hn:El c=some n) (ht:aG P t ti)
  (hk:ti.kind= .str∧(∃s,c= .val (.string s))∨(∃e,ti.kind= .aO e)∧(∀s,c≠ .val (.string s))):bS P o ft fk (.val (.int .i64 n)) [] []:=
 bw fun ρ a w hp=>by
  have hv:=hx ρ a hp.dy
  refine⟨_, ?_,cd rfl⟩
  have hu:=ht.kind
  rcases hk with⟨hk,s,rfl⟩|⟨⟨e,hk⟩,hns⟩
  ·rw[hk]at hu
   have e1:=aK hv
   simp only[El,Option.some.injEq]at hn
   subst hn
   simp[execOp,ho,mr,jE,resolve,invoke,builtin,Builtin.len_,run_underlying hu,e1,goInt]
  ·rw[hk]at hu
   cases c<;>simp only[El,reduceCtorEq]at hn
   case aO k s i m=>
    simp only[Option.some.injEq]at hn
    subst hn
    rcases fI hv with⟨b,t',cap,_,_,_,h4⟩|⟨rfl,a',h4⟩
    ·simp[execOp,ho,mr,jE,resolve,invoke,builtin,Builtin.len_,run_underlying hu,h4,goInt]
    ·simp[execOp,ho,mr,jE,resolve,invoke,builtin,Builtin.len_,run_underlying hu,h4,goInt]
   case val v=>
    have e1:=aK hv
    cases v<;>simp only[Option.some.injEq,reduceCtorEq]at hn
    case string s=>exact absurd rfl (hns s)
    case slice a' m cap=>
     subst hn
     simp[execOp,ho,mr,jE,resolve,invoke,builtin,Builtin.len_,run_underlying hu,e1,goInt]
theorem RC {xs:Array Operand} {ts:Array TypeId} {x y:Operand} {k k':IntKind} {a b:Int} (ho:o.op= .call ⟨.builtin .min,xs,ts⟩) (mr:xs= #[x,y]) (hx:bp ft x (.val (.int k a))) (hy:bp ft y (.val (.int k' b))):
  bS P o ft fk (.val (.int k (if b<a then b else a))) [] []:=
 bw fun ρ ac w hp=>by
  have e1:=aK (hx ρ ac hp.dy)
  have e2:=aK (hy ρ ac hp.dy)
  refine⟨_, ?_,cd rfl⟩
  simp[execOp,ho,mr,resolve,invoke,builtin,e1,e2,run_min_int2]
theorem RD {xs:Array Operand} {ts:Array TypeId} {x y:Operand} {k k':IntKind} {a b:Int} (ho:o.op= .call ⟨.builtin .max,xs,ts⟩) (mr:xs= #[x,y]) (hx:bp ft x (.val (.int k a))) (hy:bp ft y (.val (.int k' b))):
  bS P o ft fk (.val (.int k (if b>a then b else a))) [] []:=
 bw fun ρ ac w hp=>by
  have e1:=aK (hx ρ ac hp.dy)
  have e2:=aK (hy ρ ac hp.dy)
  refine⟨_, ?_,cd rfl⟩
  simp[execOp,ho,mr,resolve,invoke,builtin,e1,e2,run_max_int2]
theorem I0 {t e:TypeId} {x:Operand} {lo hi:Option Operand} {ti te:TI} {k s i n:Nat} {l h:Int} (ho:o.op= .slice t x lo hi none) (hx:bp ft x (.aO k s i n))
  (Ce:lo=none∧l=0∨∃y kd,lo=some y∧bp ft y (.val (.int kd l))) (Cf:hi=none∧h=n∨∃y kd,hi=some y∧bp ft y (.val (.int kd h)))
  (ht:aG P t ti) (hk:ti.kind= .aO e) (he:aG P e te) (hs:te.size=s) (h0:0≤l) (hlh:l≤h) (hh:h≤n):bS P o ft fk (.aO k s (i+l.toNat) (h - l).toNat) [] []:=
 bw fun ρ a w hp=>by
  have hu:=ht.kind;rw[hk]at hu
  have key:∀(ad:Option Addr) (m cap:Nat),n=m→m≤cap→a.eval x= .slice ad m cap→
    (execOp a.eval o).run P w= .ok (.value (.slice (if cap=l.toNat then ad else ad.map (·.add (l.toNat*s))) (h.toNat - l.toNat) (cap - l.toNat))) w:=by
   intro ad m cap I1 hmc hv
   have IB:∀z:Operand,∀kd,bp ft z (.val (.int kd h))→(Instr.sliceBound (a.eval z) cap .sliceAcap).run P w= .ok h.toNat w:=by
    intro z kd hz
    have:=aK (hz ρ a hp.dy)
    have hb:0≤h∧h≤(cap:Int):=aa
    simp[Instr.sliceBound,this,asIntOf,hb]
   have M8:∀z:Operand,∀kd,bp ft z (.val (.int kd l))→(Instr.sliceBound (a.eval z) h.toNat .sliceB).run P w= .ok l.toNat w:=by
    intro z kd hz
    have:=aK (hz ρ a hp.dy)
    have hb:0≤l∧l≤(h.toNat:Int):=aa
    simp only[Instr.sliceBound,this,asIntOf,Sem.run_bind,Sem.run_pure,Result.andThen_ok,hb,and_self,if_true]
   have rh:(Instr.sliceBounds true m cap (lo.map a.eval) (hi.map a.eval) none).run P w= .ok (l.toNat,h.toNat,cap) w:=by
    unfold Instr.sliceBounds
    rcases Cf with⟨rfl,rfl⟩|⟨z,kz,rfl,hz⟩<;>rcases Ce with⟨rfl,rfl⟩|⟨y,ky,rfl,hy⟩
    ·simp[I1]
    ·have:=M8 y ky hy;simp at this;rw[I1]at this;simp[I1,this]
    ·simp[IB z kz hz]
    ·simp[IB z kz hz,M8 y ky hy]
   simp only[execOp,ho,Option.map_none,Instr.sliceAt,Sem.run_bind,run_underlying hu,Result.andThen_ok,Instr.slice,hv,rh,he.sizeOf,hs,Sem.run_pure]
  rcases fI (hx ρ a hp.dy)with⟨b,t',cap,h1,h2,h3,h4⟩|⟨rfl,ad,h4⟩
  ·refine⟨_,key _ n cap rfl h2 h4,gv ?_⟩
   by_cases hc:cap=l.toNat
   ·right
    have:h.toNat - l.toNat=0:=aa
    refine⟨aa,some ⟨b,i*s,none⟩, ?_⟩
    rw[if_pos hc,this,hc,Nat.sub_self]
   ·left
    refine⟨b,t',cap - l.toNat,h1,aa, ?_, ?_⟩
    ·rw[show i+l.toNat+(cap - l.toNat)=i+cap from by omega];exact h3
    ·rw[if_neg hc]
     have fU:(⟨b,i*s,none⟩:Addr).add (l.toNat*s)=⟨b,(i+l.toNat)*s,none⟩:=by
      unfold Addr.add
      rw[Nat.add_mul]
      split
      ·rename_i h0;simp[h0]
      ·rfl
     rw[Option.map_some,fU,show(h - l).toNat=h.toNat - l.toNat from by omega]
  ·refine⟨_,key ad 0 0 rfl (Nat.le_refl _) h4,gv (.inr ⟨aa,ad, ?_⟩)⟩
   have h1:l.toNat=0:=aa
   have h2:h.toNat=0:=aa
   simp[h1,h2]
theorem Cw {t:TypeId} {x:Operand} {lo hi:Option Operand} {ti:TI} {s:ByteArray} {l h:Int} (ho:o.op= .slice t x lo hi none) (hx:bp ft x (.val (.string s)))
  (Ce:lo=none∧l=0∨∃y kd,lo=some y∧bp ft y (.val (.int kd l))) (Cf:hi=none∧h=s.size∨∃y kd,hi=some y∧bp ft y (.val (.int kd h)))
  (ht:aG P t ti) (hk:ti.kind= .str) (h0:0≤l) (hlh:l≤h) (hh:h≤s.size):bS P o ft fk (.val (.string (s.extract l.toNat h.toNat))) [] []:=
 bw fun ρ a w hp=>by
  have hu:=ht.kind;rw[hk]at hu
  have e1:=aK (hx ρ a hp.dy)
  refine⟨_, ?_,cd rfl⟩
  have IB:∀z:Operand,∀kd,bp ft z (.val (.int kd h))→(Instr.sliceBound (a.eval z) s.size .sliceAlen).run P w= .ok h.toNat w:=by
   intro z kd hz
   have:=aK (hz ρ a hp.dy)
   have hb:0≤h∧h≤(s.size:Int):=aa
   simp[Instr.sliceBound,this,asIntOf,hb]
  have M8:∀z:Operand,∀kd,bp ft z (.val (.int kd l))→(Instr.sliceBound (a.eval z) h.toNat .sliceB).run P w= .ok l.toNat w:=by
   intro z kd hz
   have:=aK (hz ρ a hp.dy)
   have hb:0≤l∧l≤(h.toNat:Int):=aa
   simp only[Instr.sliceBound,this,asIntOf,Sem.run_bind,Sem.run_pure,Result.andThen_ok,hb,and_self,if_true]
  have rh:(Instr.sliceBounds false s.size s.size (lo.map a.eval) (hi.map a.eval) none).run P w= .ok (l.toNat,h.toNat,s.size) w:=by
   unfold Instr.sliceBounds
   rcases Cf with⟨rfl,rfl⟩|⟨z,kz,rfl,hz⟩<;>rcases Ce with⟨rfl,rfl⟩|⟨y,ky,rfl,hy⟩
   ·simp
   ·have:=M8 y ky hy;simp at this;simp[this]
   ·simp[IB z kz hz]
   ·simp[IB z kz hz,M8 y ky hy]
  simp only[execOp,ho,Option.map_none,Instr.sliceAt,Sem.run_bind,run_underlying hu,Result.andThen_ok,Instr.slice,e1,Option.isSome_none,Bool.false_eq_true,if_false,rh,Sem.run_pure]
end
end Go.Sx
namespace Go.Sx
theorem Hg {d:Data} {s i:Nat} {x:Option Prop×List SV} (h:elem d s i=some x):d.live=true:=by
 cases d<;>first|rfl|simp[elem]at h
def Rows (ρ:bU) (s:Nat):Data→List (List Value)→Prop
 |.ints kd xs,z=>s=1∧z=xs.map (fun x=>[.int kd x])
 |.cb xs,z=>s=5∧z=xs.map bD
 |.seq w xs,z=>s=w∧aw (cR ρ.bf ρ.cw) xs z∧∀x∈xs,x.width=w
 |.one _,_=>False
 |.dead,_=>False
 |.loop _,_=>False
def en:Data→Nat
 |.ints _ xs=>xs.length
 |.cb xs=>xs.length
 |.seq _ xs=>xs.length
 |_=>0
def cZ:Data→Option Nat
 |.ints _ _=>some 1
 |.cb _=>some 5
 |.seq w _=>some w
 |_=>none
theorem cV {ρ:bU}:∀{l:List SV} {z:List (List Value)},aw ρ l z→z.length=l.length
 |[],z,h=>by simp only[aw]at h;subst h;rfl
 |c::l,z,h=>by simp only[aw]at h;obtain⟨x,r,rfl,_,h⟩:=h;simp[cV h]
theorem Rows.of {ρ:bU} {d:Data} {s:Nat} {vs:List Value} (h:da ρ d vs) (hs:cZ d=some s):∃z,Rows ρ s d z∧vs=z.flatten:=by
 cases d<;>simp only[cZ,Option.some.injEq,reduceCtorEq]at hs<;>subst hs<;>simp only[da]at h
 case ints kd xs=>exact⟨_,⟨rfl,rfl⟩,by rw[h,←List.flatMap_def,List.map_eq_flatMap]⟩
 case cb xs=>exact⟨_,⟨rfl,rfl⟩,by rw[h,List.flatMap_def]⟩
 case seq xs=>obtain⟨z,h1,h2,h3⟩:=h;exact⟨z,⟨rfl,h1,h3⟩,h2⟩
theorem Rows.ef {ρ:bU} {d:Data} {s:Nat} {z:List (List Value)} (h:Rows ρ s d z):d.oq=false:=by
 cases d<;>first|rfl|(simp only[Rows]at h)
theorem Rows.data {ρ:bU} {d:Data} {s:Nat} {z:List (List Value)} (h:Rows ρ s d z):da ρ d z.flatten:=by
 cases d<;>simp only[Rows]at h<;>simp only[da]
 case ints kd xs=>obtain⟨_,rfl⟩:=h;rw[←List.flatMap_def,List.map_eq_flatMap]
 case cb xs=>obtain⟨_,rfl⟩:=h;rw[List.flatMap_def]
 case seq w xs=>exact⟨z,h.2.1,rfl,h.2.2⟩
theorem Rows.len {ρ:bU} {d:Data} {s:Nat} {z:List (List Value)} (h:Rows ρ s d z):z.length=en d∧∀u∈z,u.length=s:=by
 cases d<;>simp only[Rows]at h
 case ints kd xs=>obtain⟨rfl,rfl⟩:=h;simp[en]
 case cb xs=>
  obtain⟨rfl,rfl⟩:=h
  refine⟨by simp[en],fun u hu=> ?_⟩
  obtain⟨x,_,rfl⟩:=List.mem_map.1 hu
  exact(dc x).1
 case seq w xs=>
  obtain⟨rfl,h1,h2⟩:=h
  exact⟨cV h1,fun u hu=>eZ xs z h1 h2 u hu⟩
theorem cC {s:Nat}:∀(z:List (List Value)) (n:Nat),(∀u∈z,u.length=s)→(z.take n).flatten=z.flatten.take (n*s)
 |[],n,_=>by simp
 |x::z,0,_=>by simp
 |x::z,n+1,h=>by
  have hx:=h x (List.mem_cons_self ..)
  have ih:=cC z n (fun u hu=>h u (List.mem_cons_of_mem _ hu))
  rw[List.take_succ_cons,List.flatten_cons,List.flatten_cons,ih,Nat.succ_mul,Nat.add_comm,←hx,List.take_length_add_append]
theorem fJ {s:Nat}:∀(z:List (List Value)) (n:Nat),(∀u∈z,u.length=s)→(z.drop n).flatten=z.flatten.drop (n*s)
 |[],n,_=>by simp
 |x::z,0,_=>by simp
 |x::z,n+1,h=>by
  have hx:=h x (List.mem_cons_self ..)
  have ih:=fJ z n (fun u hu=>h u (List.mem_cons_of_mem _ hu))
  rw[List.drop_succ_cons,List.flatten_cons,ih,Nat.succ_mul,Nat.add_comm,←hx,List.drop_length_add_append]
theorem aQ {s:Nat}:∀(z:List (List Value)),(∀u∈z,u.length=s)→z.flatten.length=z.length*s
 |[],_=>by simp
 |x::z,h=>by
  have hx:=h x (List.mem_cons_self ..)
  have ih:=aQ z (fun u hu=>h u (List.mem_cons_of_mem _ hu))
  rw[List.flatten_cons,List.length_append,ih,hx,List.length_cons,Nat.succ_mul,Nat.add_comm]
theorem iK {ρ:bU}:∀{l:List SV} {z:List (List Value)} (n:Nat),aw ρ l z→aw ρ (l.take n) (z.take n)
 |[],z,n,h=>by simp only[aw]at h;subst h;simp[aw]
 |c::l,z,0,h=>by simp[aw]
 |c::l,z,n+1,h=>by
  simp only[aw]at h
  obtain⟨x,r,rfl,h1,h2⟩:=h
  simp only[List.take_succ_cons,aw]
  exact⟨x,_,rfl,h1,iK n h2⟩
theorem jW {ρ:bU}:∀{l:List SV} {z:List (List Value)} (n:Nat),aw ρ l z→aw ρ (l.drop n) (z.drop n)
 |[],z,n,h=>by simp only[aw]at h;subst h;simp[aw]
 |c::l,z,0,h=>by simpa using h
 |c::l,z,n+1,h=>by
  simp only[aw]at h
  obtain⟨x,r,rfl,h1,h2⟩:=h
  simp only[List.drop_succ_cons]
  exact jW n h2
def oC (d:Data) (n:Nat) (d2:Data) (i m:Nat):Option Data:=
 match d,d2 with
 |.ints k xs,.ints k' ys=>if k'=k then some (.ints k (xs.take n++(ys.drop i).take m))else none
 |.cb xs,.cb ys=>some (.cb (xs.take n++(ys.drop i).take m))
 |.seq w xs,.seq w' ys=>if w'=w then some (.seq w (xs.take n++(ys.drop i).take m))else none
 |_,_=>none
theorem ui {ρ:bU} {d d2 d':Data} {n i m s s2:Nat} {z z2:List (List Value)} (h:oC d n d2 i m=some d') (hz:Rows ρ s d z) (lC:Rows ρ s2 d2 z2):Rows ρ s d' (z.take n++(z2.drop i).take m)∧s2=s:=by
 unfold oC at h
 split at h
 ·split at h
  ·rename_i hk
   subst hk
   simp only[Option.some.injEq]at h
   subst h
   simp only[Rows]at hz lC ⊢
   obtain⟨rfl,rfl⟩:=hz
   obtain⟨rfl,rfl⟩:=lC
   exact⟨⟨rfl,by simp[List.map_take,List.map_drop]⟩,rfl⟩
  ·simp at h
 ·simp only[Option.some.injEq]at h
  subst h
  simp only[Rows]at hz lC ⊢
  obtain⟨rfl,rfl⟩:=hz
  obtain⟨rfl,rfl⟩:=lC
  exact⟨⟨rfl,by simp[List.map_take,List.map_drop]⟩,rfl⟩
 ·split at h
  ·rename_i hk
   subst hk
   simp only[Option.some.injEq]at h
   subst h
   simp only[Rows]at hz lC ⊢
   obtain⟨rfl,h1,h2⟩:=hz
   obtain⟨rfl,h3,h4⟩:=lC
   refine⟨⟨rfl,cU (iK n h1) (iK m (jW i h3)), ?_⟩,rfl⟩
   intro x hx
   rcases List.mem_append.1 hx with hx|hx
   ·exact h2 x (List.mem_of_mem_take hx)
   ·exact h4 x (List.mem_of_mem_drop (List.mem_of_mem_take hx))
  ·simp at h
 ·simp at h
def rl (te:TI) (n:Nat):Data:=
 match te.zero with
 |[.frac _]=>.cb (List.replicate n 0)
 |[.val (.int kd _)]=>.ints kd (List.replicate n 0)
 |[c]=>.seq te.size (List.replicate n c)
 |l=>.seq te.size (List.replicate n (.agg l))
theorem fb (z:Array Value) (s:Nat) (hs:z.size=s):∀n,(madeCells z (n*s)).toList=(List.replicate n z.toList).flatten:=by
 intro n
 induction n with
 |zero=>simp[madeCells]
 |succ n ih=>
  rw[List.replicate_succ',List.flatten_append,←ih]
  simp only[madeCells,Array.toList_map,Array.toList_range,List.flatten_cons,List.flatten_nil,List.append_nil]
  rw[Nat.succ_mul,List.range_add,List.map_append]
  congr 1
  rw[List.map_map]
  apply List.ext_getElem
  ·simp[hs]
  ·intro i h1 h2
   simp only[List.length_map,List.length_range]at h1
   simp only[List.getElem_map,List.getElem_range,Function.comp,hs]
   rw[Nat.add_comm,Nat.add_mul_mod_self_right,Nat.mod_eq_of_lt h1]
   simp[hs,h1]
theorem En {te:TI} {ρ:bU} {z:Value} (hz:z.cells.toList=te.zero.flatMap eY) (gV:z.cells.size=te.size) (ns:te.zero.all Rp=true)
  (hzero:∀q,te.zero=[.frac q]→q=0) (hzi:∀kd x,te.zero=[.val (.int kd x)]→x=0) (n:Nat):Rows ρ te.size (rl te n) (List.replicate n z.cells.toList):=by
 have ZQ:∀c:SV,∀y,aL (cR ρ.bf ρ.cw) c y→aw (cR ρ.bf ρ.cw) (List.replicate n c) (List.replicate n y):=by
  intro c y hy
  clear hz gV
  induction n with
  |zero=>simp[aw]
  |succ n ih=>simp only[List.replicate_succ,aw];exact⟨y,_,rfl,hy,ih⟩
 have hlen:te.size=(te.zero.flatMap eY).length:=by rw[←hz,Array.length_toList];exact gV.symm
 unfold rl
 split
 ·rename_i q hq
  rw[hq]at hz hlen
  have:=hzero q hq
  subst this
  simp only[List.flatMap_cons,List.flatMap_nil,List.append_nil,eY]at hz hlen
  rw[hz]
  exact⟨by rw[hlen,(dc 0).1],by simp⟩
 ·rename_i kd x hq
  rw[hq]at hz hlen
  have:=hzi kd x hq
  subst this
  simp only[List.flatMap_cons,List.flatMap_nil,List.append_nil,eY]at hz hlen
  rw[hz]
  exact⟨by rw[hlen];rfl,by simp⟩
 ·rename_i c _ _ hq
  rw[hq]at hz hlen ns
  simp only[List.flatMap_cons,List.flatMap_nil,List.append_nil]at hz hlen
  simp only[List.all_cons,List.all_nil,Bool.and_true]at ns
  rw[hz]
  have hc:=zi (ρ:=cR ρ.bf ρ.cw) ns
  exact⟨rfl,ZQ c _ hc,fun x hx=>by rw[(List.mem_replicate.1 hx).2,←(aL.len c _ hc).1,hlen]⟩
 ·have hc:aL (cR ρ.bf ρ.cw) (.agg te.zero) (te.zero.flatMap eY):=by
   simp only[aL]
   exact⟨_,dX ns,by simp[List.flatMap_def]⟩
  rw[hz]
  exact⟨rfl,ZQ _ _ hc,fun x hx=>by rw[(List.mem_replicate.1 hx).2,←(aL.len _ _ hc).1,hlen]⟩
def wK (te:TI):Bool:=
 match te.zero with
 |[.frac q]=>q.num==0
 |[.val (.int _ x)]=>x==0
 |_=>true
theorem Cx {te:TI} (h:wK te=true):(∀q,te.zero=[.frac q]→q=0)∧(∀kd x,te.zero=[.val (.int kd x)]→x=0):=by
 constructor
 ·intro q hq
  simp only[wK,hq,beq_iff_eq]at h
  exact Rat.num_eq_zero.1 h
 ·intro kd x hq
  simpa [wK,hq]using h
section
variable {P:Program} {o:Oper} {ft:List (Nat×SV)} {fk:List (Nat×aF)}
theorem je {ρ:bU} {w:World} {k s n cap:Nat} {ty:TypeId} {d:Data} {vs ex:List Value} (hk:ρ.key k=none) (hd:da ρ d vs) (hnc:n≤cap) (hcap:cap*s≤(vs++ex).length) (hex:∀v∈ex,v.oneCell'=true) (hL:d.oq=false:=by rfl):
  jH ρ w (.aO k s 0 n) [(k,⟨ty,true,d⟩)] [] (.slice (some ⟨w.heap.size,0,none⟩) n cap) ⟨fun j=>if j=k then some (w.heap.size,(vs++ex).length)else ρ.key j,ρ.bf,ρ.cw⟩ (w.alloc (.cells (vs++ex).toArray ty (0,0))):=by
 have hle:ρ.Le ⟨fun j=>if j=k then some (w.heap.size,(vs++ex).length)else ρ.key j,ρ.bf,ρ.cw⟩:=⟨fun j x hx=>by
  show(if j=k then _ else _)=_
  by_cases hj:j=k
  ·subst hj;rw[hk]at hx;cases hx
  ·rw[if_neg hj];exact hx,fun b ob hb=>hb⟩
 refine⟨hle, ?_, ?_, ?_, ?_,(fun _ _ _ h=>by cases h), ?_, ?_,fun b ob hb=>.inl hb⟩
 ·refine gv (.inl ⟨w.heap.size,(vs++ex).length,cap,by simp,hnc,by simpa using hcap,by simp⟩)
 ·intro j hj
  show(if j=k then _ else _)=_
  rw[if_neg]
  rintro rfl
  exact hj _ (List.mem_cons_self ..)
 ·exact .gb ((RowKit.Below.refl _ _).alloc (Nat.le_refl _) _)
 ·intro j b hj
  rcases hj with hj|hj
  ·cases hj
  ·simp only[List.mem_singleton,Prod.mk.injEq]at hj
   obtain⟨rfl,rfl⟩:=hj
   exact .inr (.inl ⟨w.heap.size,_,vs,ex,by simp,by rw[Data.cT hL];exact heap_alloc_new _ _,hd.mono hle,rfl,hex⟩)
 ·intro j b x hj hx
  simp only[List.mem_singleton,Prod.mk.injEq]at hj
  obtain⟨rfl,rfl⟩:=hj
  simp at hx
  rw[←hx]
  exact .inl (Nat.le_refl _)
 ·intro j b j' b' x x' hj ou bW
  simp only[List.mem_singleton,Prod.mk.injEq]at hj ou
  exact absurd (hj.1.trans ou.1.symm) bW
theorem M9 {t e:TypeId} {x y:Operand} {ti te:TI} {k:Nat} {kl kc:IntKind} {l c:Int} (ho:o.op= .makeSlice t x y) (hx:bp ft x (.val (.int kl l))) (hy:bp ft y (.val (.int kc c)))
  (ht:aG P t ti) (hk:ti.kind= .aO e) (he:aG P e te) (hz:wK te=true) (h0:0≤l) (hlc:l≤c) (hb:(te.bytes:Int)*c≤281474976710656) (h63:c≤9223372036854775807):
  bS P o ft fk (.aO k te.size 0 l.toNat) [(k,⟨e,true,rl te l.toNat⟩)] []:=
 dv fun ρ a w hp=>by
  have e1:=aK (hx ρ a hp.dy)
  have e2:=aK (hy ρ a hp.dy)
  have hu:=ht.kind;rw[hk]at hu
  obtain⟨i,z,i1,i2,i3,i4,i5,i6,i7,_⟩:=he.info
  have vE:=run_make (P:=P) (w:=w) t e i z hu i1 i4 kl kc l c h0 hlc (by rw[i3];exact hb) h63
  obtain⟨hq,hzi⟩:=Cx hz
  have bY:=En (ρ:=ρ) i5 i7 i6 hq hzi l.toNat
  have ns:∀u∈(List.replicate c.toNat z.cells.toList),u.length=te.size:=by
   intro u hu
   rw[(List.mem_replicate.1 hu).2,Array.length_toList];exact i7
  have fV:madeCells z.cells (c.toNat*i.size)=(((List.replicate l.toNat z.cells.toList).flatten)++(List.replicate (c.toNat - l.toNat) z.cells.toList).flatten).toArray:=by
   have:=fb z.cells te.size i7 c.toNat
   rw[i2]
   apply Array.ext'
   rw[this,←List.flatten_append,List.replicate_append_replicate]
   rw[show l.toNat+(c.toNat - l.toNat)=c.toNat from by omega]
  have wI:∀u∈z.cells.toList,u.oneCell'=true:=by
   have h1:=(aw.len (ρ:=ρ) te.zero _ (dX i6)).2
   rw[i5,List.flatMap_def];exact h1
  refine⟨_,_,_, ?_,je (hL:=bY.ef) (ty:=e) (d:=rl te l.toNat) (cap:=c.toNat) (s:=te.size) (vs:=(List.replicate l.toNat z.cells.toList).flatten) (ex:=(List.replicate (c.toNat - l.toNat) z.cells.toList).flatten) (hp.fresh k _ (List.mem_cons_self ..)) bY.data aa ?_ ?_⟩
  ·simp only[execOp,ho,e1,e2,Sem.run_bind,vE,Result.andThen_ok,Sem.run_pure,fV]
  ·rw[←List.flatten_append,List.replicate_append_replicate,show l.toNat+(c.toNat - l.toNat)=c.toNat from aa,aQ _ ns,List.length_replicate]
   exact Nat.le_refl _
  ·intro v hv
   obtain⟨u,hu,hv⟩:=List.mem_flatten.1 hv
   rw[(List.mem_replicate.1 hu).2]at hv
   exact wI v hv
end
end Go.Sx
namespace Go.Sx
theorem oD (off:Nat):∀(v:List Value) (j:Nat) (L:Array Value),off+j+v.length≤L.size→
  ((v.zipIdx j).foldl (fun cs (c,j)=>cs.setIfInBounds (off+j) c) L).toList=L.toList.take (off+j)++v++L.toList.drop (off+j+v.length)
 |[],j,L,_=>by simp
 |c::v,j,L,h=>by
  simp only[List.length_cons]at h
  simp only[List.zipIdx_cons,List.foldl_cons]
  rw[oD off v (j+1) (L.setIfInBounds (off+j) c) (by simp;omega)]
  simp only[Array.toList_setIfInBounds,List.length_cons]
  have aE:off+j<L.toList.length:=by rw[Array.length_toList];omega
  rw[show off+(j+1)=(off+j)+1 from aa,List.take_succ_eq_append_getElem (by rw[List.length_set];exact aE),List.getElem_set_self,List.take_set_of_le (Nat.le_refl _),
   show off+j+1+v.length=off+j+(v.length+1)from aa,List.drop_set_of_lt aa]
  simp
def jy (f:Nat) (place:Nat→Option (Nat×Nat)) (cs:List SV):List (Nat×List SV)→Option (List SV)
 |[]=>some cs
 |(i,new)::r=>match place i with
  |none=>none
  |some (off,sz)=>match Nat.beq (SV.de new) sz,Nat.ble (off+sz) (SV.de cs)with
   |true,true=>match put f cs off sz new with
    |some cs'=>jy f place cs' r
    |none=>none
   |_,_=>none
theorem mF {ρ:bU} {f:Nat} {place:Nat→Option (Nat×Nat)}:∀(parts:List (Nat×List SV)) (cs l:List SV) (rp:List (Nat×Value)) (L:Array Value) (z:List (List Value)),jy f place cs parts=some l→
  aw ρ cs z→L.toList=z.flatten→rp.length=parts.length→(∀(j i:Nat) (new:List SV),parts[j]? =some (i,new)→∃v y,rp[j]? =some (i,v)∧aw ρ new y∧v.cells.toList=y.flatten)→
  ∃L' z',Instr.fill place L rp=some L'∧aw ρ l z'∧L'.toList=z'.flatten
 |[],cs,l,rp,L,z,h,hz,hL,hlen,_=>by
  simp only[jy,Option.some.injEq]at h
  subst h
  obtain rfl:rp=[]:=List.length_eq_zero_iff.1 hlen
  exact⟨L,z,rfl,hz,hL⟩
 |(i,new)::r,cs,l,rp,L,z,h,hz,hL,hlen,hp=>by
  match rp,hlen with
  |(i',v)::rp',hlen=>
   obtain⟨v',y,h1,h2,h3⟩:=hp 0 i new rfl
   simp only[List.getElem?_cons_zero,Option.some.injEq,Prod.mk.injEq]at h1
   obtain⟨rfl,rfl⟩:=h1
   unfold jy at h
   cases gW:place i' with
   |none=>rw[gW]at h;simp at h
   |some x=>
    obtain⟨off,sz⟩:=x
    rw[gW]at h
    simp only at h
    split at h
    ·rename_i hw hle
     have hw:=Nat.eq_of_beq_eq_true hw
     have hle:=Nat.le_of_ble_eq_true hle
     cases hput:put f cs off sz new with
     |none=>rw[hput]at h;simp at h
     |some cs'=>
      rw[hput]at h
      simp only at h
      obtain⟨t,g1,g2⟩:=FU hput hz h2
      have Hf:=(aw.len new y h2).1
      have qu:=(aw.len cs z hz).1
      have RF:v.cells.size=sz:=by rw[←Array.length_toList,h3,Hf,hw]
      have hLs:L.size=z.flatten.length:=by rw[←hL,Array.length_toList]
      have qv:=oD off v.cells.toList 0 L (by rw[Array.length_toList,RF,hLs,qu];omega)
      have I2:(v.cells.zipIdx.foldl (fun cs (c,j)=>cs.setIfInBounds (off+j) c) L).toList=t.flatten:=by
       rw[←Array.foldl_toList,Array.toList_zipIdx,qv,g2,hL,h3,Hf,hw]
       simp
      obtain⟨L',z',e1,e2,e3⟩:=mF r cs' l rp' _ t h g1 I2 (by simpa using hlen) (fun j i2 new2 hj=>by
       obtain⟨v2,y2,k1,k2,k3⟩:=hp (j+1) i2 new2 (by simpa using hj)
       exact⟨v2,y2,by simpa using k1,k2,k3⟩)
      refine⟨L',z', ?_,e2,e3⟩
      unfold Instr.fill
      rw[gW]
      have RG:(v.cells.size≠sz||off+v.cells.size>L.size)=false:=by
       rw[RF,hLs,qu]
       simp;omega
      simp only[RG,Bool.false_eq_true,if_false]
      exact e1
    ·simp at h
def gw (fr:List (Nat×SV)):List (Nat×Operand)→Option (List (Nat×List SV))
 |[]=>some []
 |(i,x)::r=>match ev fr x with
  |none=>none
  |some c=>match bx c with
   |false=>none
   |true=>match gw fr r with
    |none=>none
    |some l=>some ((i,[c])::l)
theorem iL {fr:List (Nat×SV)}:∀{ps:List (Nat×Operand)} {l:List (Nat×List SV)},gw fr ps=some l→∀ρ a,(∀t s,(t,s)∈fr→Has ρ s (a.tmps.getD t undef))→
  (ps.map fun p=>(p.1,Act.eval a p.2)).length=l.length∧∀(j i:Nat) (new:List SV),l[j]? =some (i,new)→∃v y,(ps.map fun p=>(p.1,Act.eval a p.2))[j]? =some (i,v)∧aw ρ new y∧v.cells.toList=y.flatten
 |[],l,h,ρ,a,_=>by simp[gw]at h;subst h;exact⟨rfl,fun j i new h=>by simp at h⟩
 |(i,x)::r,l,h,ρ,a,hf=>by
  simp only[gw]at h
  cases hx:ev fr x with
  |none=>rw[hx]at h;simp at h
  |some c=>
   rw[hx]at h
   simp only at h
   cases hp:bx c with
   |false=>rw[hp]at h;simp at h
   |true=>
    rw[hp]at h
    simp only at h
    cases hr:gw fr r with
    |none=>rw[hr]at h;simp at h
    |some l'=>
     rw[hr]at h
     simp only[Option.some.injEq]at h
     subst h
     obtain⟨h1,h2⟩:=iL hr ρ a hf
     refine⟨by simpa using h1,fun j i2 new hj=> ?_⟩
     cases j with
     |succ j=>simpa using h2 j i2 new (by simpa using hj)
     |zero=>
      simp only[List.getElem?_cons_zero,Option.some.injEq,Prod.mk.injEq]at hj
      obtain⟨rfl,rfl⟩:=hj
      have hv:=ak hx ρ a hf
      have hc:∃y,aw ρ [c] y∧(a.eval x).cells.toList=y.flatten:=by
       cases c<;>simp only[bx,Bool.false_eq_true]at hp
       case agg cs=>
        obtain⟨y,k1,k2⟩:=mD rfl hv
        exact⟨[y.flatten],by simp only[aw];exact⟨_,[],rfl,by simp only[aL];exact⟨y,k1,rfl⟩,rfl⟩,by rw[k2];simp⟩
       all_goals exact mD rfl hv
      obtain⟨y,k1,k2⟩:=hc
      exact⟨_,y,by simp,k1,k2⟩
def placesOf (fs:List (Nat×TypeId×Nat)) (i:Nat):Option (Nat×Nat):=match fs[i]? with
 |some (off,_,sz)=>some (off,sz)
 |none=>none
section
variable {P:Program} {o:Oper} {fr:List (Nat×SV)} {fk:List (Nat×aF)}
theorem run_places {fl:List Field} (h:fl.all (fun f=>(P.info? f.type).isSome)=true) (w:World):
  (fl.mapM (fun f=>do pure (f.offset,←Go.sizeOf f.type):Field→Sem (Nat×Nat))).run P w= .ok (fl.map (fun f=>(f.offset,P.cellsOf f.type))) w:=by
 induction fl with
 |nil=>rfl
 |cons f fl ih=>
  simp only[List.all_cons,Bool.and_eq_true]at h
  rw[List.mapM_cons]
  simp only[Sem.run_bind,oy h.1,Result.andThen_ok,Sem.run_pure,ih h.2,List.map_cons]
theorem I3 {t:TypeId} {parts:Array (Nat×Operand)} {ti:TI} {fs:List (Nat×TypeId×Nat)} {ps:List (Nat×List SV)} {l:List SV} {c:SV} (ho:o.op= .build t parts) (ht:aG P t ti) (hk:ti.kind= .agg fs)
  (iF:gw fr parts.toList=some ps) (hb:jy 64 (placesOf fs) ti.zero ps=some l) (hsh:eC ti l=some c):bS P o fr fk c [] []:=
 bw fun ρ a w hp=>by
  obtain⟨i,z,i1,i2,i3,i4,i5,i6,i7,_⟩:=ht.info
  have yR:=ht.kind;rw[hk]at yR
  obtain⟨k1,k2,k3⟩:=yR
  obtain⟨p1,p2⟩:=iL iF ρ a hp.dy
  obtain⟨L',z',e1,e2,e3⟩:=mF (ρ:=ρ) ps ti.zero l (parts.toList.map fun p=>(p.1,Act.eval a p.2)) z.cells _ hb (dX i6) (by rw[i5,List.flatMap_def]) p1 p2
  have RH:ti.kind.isAgg=true:=by rw[hk];rfl
  refine⟨.agg L', ?_,jd hsh e2 (by rw[RH,if_pos rfl,←e3])⟩
  have AR:(Go.zeroValue t).run P w= .ok z w:=by simp[Go.zeroValue,typeInfo,i1,i4]
  have gW:((P.fieldsOf t).mapM (fun f=>do pure (f.offset,←Go.sizeOf f.type):Field→Sem (Nat×Nat))).run P w= .ok ((P.fieldsOf t).toList.map (fun f=>(f.offset,P.cellsOf f.type))).toArray w:=by
   rw[Array.mapM_eq_mapM_toList,Sem.run_map,run_places k3]
   rfl
  have ado:(fun x=>((P.fieldsOf t).toList.map (fun f=>(f.offset,P.cellsOf f.type))).toArray[x]?)=placesOf fs:=by
   funext j
   rw[←k2]
   simp only[placesOf,List.getElem?_map,List.getElem?_toArray]
   cases (P.fieldsOf t).toList[j]? <;>rfl
  have mG:(parts.map fun(i,x)=>(i,Act.eval a x)).toList=parts.toList.map fun p=>(p.1,Act.eval a p.2):=by simp
  simp only[execOp,ho,Instr.build,Sem.run_bind,AR,Result.andThen_ok,run_underlying k1,gW,ado,mG,e1,Sem.run_pure]
theorem Cy {t e:TypeId} {n:Nat} {parts:Array (Nat×Operand)} {ti te:TI} {ps:List (Nat×List SV)} {l:List SV} {c:SV} (ho:o.op= .build t parts) (ht:aG P t ti) (hk:ti.kind= .arr n e) (he:aG P e te)
  (iF:gw fr parts.toList=some ps) (hb:jy 64 (fun i=>some (i*te.size,te.size)) ti.zero ps=some l) (hsh:eC ti l=some c):bS P o fr fk c [] []:=
 bw fun ρ a w hp=>by
  obtain⟨i,z,i1,i2,i3,i4,i5,i6,i7,_⟩:=ht.info
  have yR:=ht.kind;rw[hk]at yR
  obtain⟨p1,p2⟩:=iL iF ρ a hp.dy
  obtain⟨L',z',e1,e2,e3⟩:=mF (ρ:=ρ) ps ti.zero l (parts.toList.map fun p=>(p.1,Act.eval a p.2)) z.cells _ hb (dX i6) (by rw[i5,List.flatMap_def]) p1 p2
  have RH:ti.kind.isAgg=true:=by rw[hk];rfl
  refine⟨.agg L', ?_,jd hsh e2 (by rw[RH,if_pos rfl,←e3])⟩
  have AR:(Go.zeroValue t).run P w= .ok z w:=by simp[Go.zeroValue,typeInfo,i1,i4]
  have mG:(parts.map fun(i,x)=>(i,Act.eval a x)).toList=parts.toList.map fun p=>(p.1,Act.eval a p.2):=by simp
  have yR:P.underlying t=some (.array n e):=yR
  simp only[execOp,ho,Instr.build,Sem.run_bind,AR,Result.andThen_ok,run_underlying yR,he.sizeOf,mG,e1,Sem.run_pure]
end
end Go.Sx
namespace Go.Sx
def wL (kd:IntKind):List SV→Option (List Int)
 |[]=>some []
 |.val (.int k n)::r=>if k=kd then match wL kd r with
  |some l=>some (n::l)
  |none=>none
  else none
 |_=>none
def rm:List SV→Option (List Rat)
 |[]=>some []
 |.frac q::r=>match rm r with
  |some l=>some (q::l)
  |none=>none
 |_=>none
def qw (s:Nat):List SV→Bool
 |[]=>true
 |c::r=>Nat.beq c.width s&&qw s r
def AS (te:TI) (cs:List SV):Option Data:=
 match te.zero with
 |[.frac _]=>match rm cs,Nat.beq te.size 5 with
  |some l,true=>some (.cb l)
  |_,_=>none
 |[.val (.int kd _)]=>match wL kd cs,Nat.beq te.size 1 with
  |some l,true=>some (.ints kd l)
  |_,_=>none
 |_=>match qw te.size cs&&bn cs with
  |true=>some (.seq te.size cs)
  |false=>none
theorem wM {ρ:bU} {kd:IntKind}:∀{cs:List SV} {l:List Int} {z:List (List Value)},wL kd cs=some l→aw ρ cs z→z=l.map (fun x=>[.int kd x])
 |[],l,z,h,hz=>by simp[wL]at h;subst h;simpa [aw]using hz
 |c::r,l,z,h,hz=>by
  unfold wL at h
  split at h
  ·simp_all
  ·rename_i k n r' heq
   simp only[List.cons.injEq]at heq
   obtain⟨rfl,rfl⟩:=heq
   split at h
   ·rename_i hk
    subst hk
    split at h
    ·rename_i l' hl
     simp only[Option.some.injEq]at h
     subst h
     simp only[aw,aL]at hz
     obtain⟨x,y,rfl,⟨rfl,_⟩,h2⟩:=hz
     rw[wM hl h2]
     rfl
    ·simp at h
   ·simp at h
  ·simp at h
theorem uY {ρ:bU}:∀{cs:List SV} {l:List Rat} {z:List (List Value)},rm cs=some l→aw ρ cs z→z=l.map bD
 |[],l,z,h,hz=>by simp[rm]at h;subst h;simpa [aw]using hz
 |c::r,l,z,h,hz=>by
  unfold rm at h
  split at h
  ·simp_all
  ·rename_i q r' heq
   simp only[List.cons.injEq]at heq
   obtain⟨rfl,rfl⟩:=heq
   split at h
   ·rename_i l' hl
    simp only[Option.some.injEq]at h
    subst h
    simp only[aw,aL]at hz
    obtain⟨x,y,rfl,rfl,h2⟩:=hz
    rw[uY hl h2]
    rfl
   ·simp at h
  ·simp at h
theorem jX {s:Nat}:∀{cs:List SV},qw s cs=true→∀x∈cs,x.width=s
 |c::r,h,x,hx=>by
  simp only[qw,Bool.and_eq_true]at h
  rcases List.mem_cons.1 hx with rfl|hx
  ·exact Nat.eq_of_beq_eq_true h.1
  ·exact jX h.2 x hx
theorem Cz {ρ:bU} {te:TI} {cs:List SV} {d:Data} {z:List (List Value)} (h:AS te cs=some d) (hz:aw ρ cs z):Rows ρ te.size d z:=by
 unfold AS at h
 split at h
 ·split at h
  ·rename_i l hl hs
   simp only[Option.some.injEq]at h
   subst h
   exact⟨Nat.eq_of_beq_eq_true hs,uY hl hz⟩
  ·simp at h
 ·split at h
  ·rename_i l hl hs
   simp only[Option.some.injEq]at h
   subst h
   exact⟨Nat.eq_of_beq_eq_true hs,wM hl hz⟩
  ·simp at h
 ·split at h
  ·rename_i hw
   simp only[Option.some.injEq]at h
   subst h
   rw[Bool.and_eq_true]at hw
   exact⟨rfl,cl (ρ:=ρ) (ρ':=cR ρ.bf ρ.cw) (fun _ _ h=>h) cs z hw.2 hz,jX hw.1⟩
  ·simp at h
def CA:Nat→List SV→List SV
 |0,_=>[]
 |n+1,l=>l++CA n l
theorem rn {ρ:bU} {l:List SV} {y:List (List Value)} (h:aw ρ l y):∀n,aw ρ (CA n l) ((List.replicate n y).flatten)
 |0=>by simp[CA,aw]
 |n+1=>by simp only[CA,List.replicate_succ,List.flatten_cons];exact cU h (rn h n)
section
variable {P:Program} {o:Oper} {fr:List (Nat×SV)} {fk:List (Nat×aF)}
theorem yU {t e:TypeId} {len k:Nat} {parts:Array (Nat×Operand)} {ti te:TI} {ps:List (Nat×List SV)} {l:List SV} {d:Data} (ho:o.op= .buildSlice t len parts) (ht:aG P t ti) (hk:ti.kind= .aO e) (he:aG P e te)
  (iF:gw fr parts.toList=some ps) (hb:jy 64 (fun i=>some (i*te.size,te.size)) (CA len te.zero) ps=some l) (hd:AS te l=some d) (hln:l.length=len) (gV:len*te.size≤16777216):
  bS P o fr fk (.aO k te.size 0 len) [(k,⟨e,true,d⟩)] []:=
 dv fun ρ a w hp=>by
  obtain⟨i,z,i1,i2,i3,i4,i5,i6,i7,_⟩:=he.info
  have hu:=ht.kind;rw[hk]at hu
  obtain⟨p1,p2⟩:=iL iF ρ a hp.dy
  have yL:=rn (dX (ρ:=ρ) i6) len
  have CB:(madeCells z.cells (len*te.size)).toList=((List.replicate len (te.zero.map eY)).flatten).flatten:=by
   rw[fb z.cells te.size i7 len,i5]
   have:∀n,(List.replicate n (te.zero.flatMap eY)).flatten=((List.replicate n (te.zero.map eY)).flatten).flatten:=by
    intro n
    induction n with
    |zero=>rfl
    |succ n ih=>rw[List.replicate_succ,List.replicate_succ,List.flatten_cons,List.flatten_cons,List.flatten_append,←ih,List.flatMap_def]
   exact this len
  obtain⟨L',z',e1,e2,e3⟩:=mF (ρ:=ρ) ps _ l (parts.toList.map fun p=>(p.1,Act.eval a p.2)) (madeCells z.cells (len*te.size)) _ hb yL CB p1 p2
  have bY:=Cz hd e2
  have hlen:=bY.len
  have mG:(parts.map fun(i,x)=>(i,Act.eval a x)).toList=parts.toList.map fun p=>(p.1,Act.eval a p.2):=by simp
  have MI:L'=(z'.flatten++[]).toArray:=by rw[List.append_nil,←e3]
  refine⟨_,_,_, ?_,je (hL:=bY.ef) (ty:=e) (d:=d) (s:=te.size) (n:=len) (cap:=len) (vs:=z'.flatten) (ex:=[]) (hp.fresh k _ (List.mem_cons_self ..)) bY.data (Nat.le_refl _) ?_ (by simp)⟩
  ·have I4:¬len*te.size>16777216:=aa
   by_cases h0:len*te.size=0
   ·have hm:(Array.range 0).map (fun x=>(#[]:Array Value)[x % (#[]:Array Value).size]!)=madeCells z.cells (len*te.size):=by simp[h0,madeCells]
    simp only[execOp,ho,Instr.buildSlice,Sem.run_bind,run_underlying hu,Result.andThen_ok,he.sizeOf,h0,mG]
    rw[h0]at hm
    simp only[Nat.reducePow,Nat.not_lt_zero,gt_iff_lt,if_false,if_true,Sem.run_bind,Sem.run_pure,Result.andThen_ok,hm]
    rw[h0]at e1
    simp only[e1,Sem.run_bind,newRow,run_newObj,Sem.run_pure,Result.andThen_ok,MI,World.alloc_eq]
   ·have hm:(Array.range (len*te.size)).map (fun x=>z.cells[x % z.cells.size]!)=madeCells z.cells (len*te.size):=rfl
    have AR:(Go.zeroValue e).run P w= .ok z w:=by simp[Go.zeroValue,typeInfo,i1,i4]
    simp only[execOp,ho,Instr.buildSlice,Sem.run_bind,run_underlying hu,Result.andThen_ok,he.sizeOf,h0,mG,Nat.reducePow,I4,if_false,AR,Sem.run_pure,hm,e1,newRow,run_newObj,MI,World.alloc_eq]
  ·rw[List.append_nil,aQ _ hlen.2,cV e2,hln]
   exact Nat.le_refl _
theorem gd {z:Array Value} (h:∀v∈z.toList,v.oneCell'=true) (n:Nat):∀v∈(Builtin.zeroCells z n).toList,v.oneCell'=true:=by
 intro v hv
 simp only[Builtin.zeroCells,Array.toList_map,Array.toList_range,List.mem_map,List.mem_range]at hv
 obtain⟨i,hi,rfl⟩:=hv
 have p9:0<z.size:=by
  rcases Nat.eq_zero_or_pos z.size with h0|h0
  ·rw[h0]at hi;simp at hi
  ·exact h0
 have aE:i % z.size<z.size:=Nat.mod_lt _ p9
 have:z[i % z.size]! =z[i % z.size]:=by simp[aE]
 rw[this]
 exact h _ (by simp)
theorem Rows.nil {ρ:bU} {d:Data} {s:Nat} (h:d.empty) (hs:cZ d=some s):Rows ρ s d []:=by
 cases d<;>simp only[cZ,Option.some.injEq,reduceCtorEq]at hs<;>subst hs<;>simp only[Data.empty]at h<;>subst h
 ·exact⟨rfl,rfl⟩
 ·exact⟨rfl,rfl⟩
 ·exact⟨rfl,by simp[aw],by simp⟩
theorem jf {ρ:bU} {w:World} {k s:Nat} {blk:aF} (hb:hO ρ w k blk) (hl:blk.data.live=true) (hw:cZ blk.data=some s):
  ∃z,Rows ρ s blk.data z∧((∃b t ex,ρ.key k=some (b,t)∧w.heap[b]? =some (.cells (z.flatten++ex).toArray blk.ty (0,0))∧(z.flatten++ex).length=t∧(∀v∈ex,v.oneCell'=true))∨(ρ.key k=none∧z=[])):=by
 rcases hb with h0|⟨b,t,vs,ex,h1,h2,h3,h4,h5⟩|⟨h1,h2⟩
 ·rw[hl]at h0;cases h0
 ·obtain⟨z,hz,rfl⟩:=Rows.of h3 hw
  exact⟨z,hz,.inl ⟨b,t,ex,h1,by rw[h2,Data.cT (by cases hd:blk.data<;>first|rfl|(rw[hd]at hw;simp[cZ]at hw))],h4,h5⟩⟩
 ·exact⟨[],.nil h2 hw,.inr ⟨h1,rfl⟩⟩
theorem Rows.wD {ρ:bU} {d:Data} {s:Nat} {z:List (List Value)} (h:Rows ρ s d z):∀u∈z,∀v∈u,v.oneCell'=true:=fun u hu v hv=>
 h.data.wD v (List.mem_flatten.2 ⟨u,hu,hv⟩)
theorem jY (b s j:Nat):(⟨b,0*s,none⟩:Addr).add j=⟨b,j,none⟩:=by
 rw[Nat.zero_mul]
 unfold Addr.add
 split
 ·rename_i h;rw[h]
 ·simp
theorem mH {ρ:bU} {w:World} {k s i n:Nat} {blk:aF} {v:Value} (hv:Has ρ (.aO k s i n) v) (hb:hO ρ w k blk) (hl:blk.data.live=true) (hw:cZ blk.data=some s) (yM:i+n≤en blk.data):
  ∃z,Rows ρ s blk.data z∧(∀w',(∀b,b<w.heap.size→w'.heap[b]? =w.heap[b]?)→(Builtin.firstCells s n v).run P w'= .ok (((z.drop i).take n).flatten).toArray w')∧Builtin.lenOf v=Pure.pure n:=by
 obtain⟨z,hz,hcase⟩:=jf hb hl hw
 obtain⟨zl,zw⟩:=hz.len
 refine⟨z,hz, ?_⟩
 rcases fI hv with⟨b,t,cap,e1,e2,e3,rfl⟩|⟨rfl,a,rfl⟩
 ·rcases hcase with⟨b',t',ex,h1,h2,h3,h4⟩|⟨h1,_⟩
  ·rw[e1]at h1
   cases h1
   refine⟨fun w' yV=> ?_,rfl⟩
   have rq:b<w.heap.size:=by
    rcases Nat.lt_or_ge b w.heap.size with h'|h'
    ·exact h'
    ·simp[Array.getElem?_eq_none h']at h2
   have hh:w'.heap[b]? =some (.cells (z.flatten++ex).toArray blk.ty (0,0)):=by rw[yV b rq];exact h2
   have wN:((z.drop i).take n).flatten=(z.flatten.drop (i*s)).take (n*s):=by
    rw[cC (s:=s) _ _ (fun u hu=>zw u (List.mem_of_mem_drop hu)),fJ (s:=s) _ _ zw]
   have hlen:(((z.drop i).take n).flatten).length=n*s:=by
    rw[aQ (s:=s) _ (fun u hu=>zw u (List.mem_of_mem_drop (List.mem_of_mem_take hu))),List.length_take,List.length_drop]
    congr 1
    omega
   refine run_firstCells_some (P:=P) w' s n _ n cap _ hlen ?_
   intro j u hj
   have fU:(⟨b,i*s,none⟩:Addr).add j=⟨b,i*s+j,none⟩:=by unfold Addr.add;split<;>simp_all
   rw[fU,cell_of_row w' b (i*s+j) _ blk.ty (0,0) hh]
   have h6:=lW wN j u hj
   have aE:i*s+j<z.flatten.length:=(List.getElem?_eq_some_iff.1 h6).1
   simp only[List.getElem?_toArray]
   rw[List.getElem?_append_left aE]
   exact h6
  ·rw[e1]at h1;cases h1
 ·refine⟨fun w' _=> ?_,rfl⟩
  cases a with
  |none=>simp[Builtin.firstCells]
  |some a=>simp[Builtin.firstCells,loadCells,loadCellsFrom]
theorem Hh {t t2 e:TypeId} {x y:Operand} {xs:Array Operand} {ts:Array TypeId} {ti D8 te:TI} {k k2 kn n i2 m:Nat} {d d':Data} {blk2:aF} (ho:o.op= .call ⟨.builtin .append,xs,ts⟩) (mr:xs= #[x,y]) (jE:ts= #[t,t2])
  (hx:bp fr x (.aO k te.size 0 n)) (hy:bp fr y (.aO k2 te.size i2 m)) (ht:aG P t ti) (hk:ti.kind= .aO e) (Cg:aG P t2 D8) (hk2:D8.kind= .aO e) (he:aG P e te)
  (hf:(k,⟨e,true,d⟩)∈fk) (hf2:(k2,blk2)∈fk) (hl:d.live=true) (iC:blk2.data.live=true) (hw:cZ d=some te.size) (nv:cZ blk2.data=some te.size)
  (hn:n≤en d) (hm:i2+m≤en blk2.data) (hd:oC d n blk2.data i2 m=some d') (hbytes:(n+m)*te.bytes≤140737488355328) (h63:n+m≤9223372036854775807):
  bS P o fr fk (.aO kn te.size 0 (n+m)) [(kn,⟨e,true,d'⟩)] [(k,⟨e,true,.dead⟩)]:=
 dv fun ρ a w hp=>by
  have CC:=hx ρ a hp.dy
  have Hi:=hy ρ a hp.dy
  obtain⟨i,zv,i1,i2',i3,i4,i5,i6,i7,_⟩:=he.info
  have hu:=ht.kind;rw[hk]at hu
  have zm:=Cg.kind;rw[hk2]at zm
  obtain⟨z,hz,RI⟩:=jf (hp.n0 k _ hf) hl hw
  obtain⟨z2,lC,hrun2,hlen2⟩:=mH (P:=P) Hi (hp.n0 k2 _ hf2) iC nv hm
  obtain⟨zl,zw⟩:=hz.len
  obtain⟨zl2,zw2⟩:=lC.len
  have bY:=(ui hd hz lC).1
  have dp:=hp.fresh kn _ (List.mem_cons_self ..)
  simp only at zl
  have ie:∀u∈(z2.drop i2).take m,u.length=te.size:=fun u hu=>zw2 u (List.mem_of_mem_drop (List.mem_of_mem_take hu))
  have gf:((z2.drop i2).take m).length=m:=by rw[List.length_take,List.length_drop];omega
  have oE:(((z2.drop i2).take m).flatten).length=m*te.size:=by rw[aQ _ ie,gf]
  have jg:∀u∈(((z2.drop i2).take m).flatten),u.oneCell'=true:=fun u hu=>by
   obtain⟨q,hq,hu⟩:=List.mem_flatten.1 hu
   exact lC.wD q (List.mem_of_mem_drop (List.mem_of_mem_take hq)) u hu
  have fa:∀v w',(Builtin.append_ ts o.type #[a.eval x,a.eval y]).run P w= .ok v w'→(execOp a.eval o).run P w= .ok (.value v) w':=by
   intro v w' h
   simp only[execOp,ho,resolve,invoke,builtin,mr,Sem.run_bind,Sem.run_pure,Result.andThen_ok,List.map_toArray,List.map_cons,List.map_nil]
   rw[h]
   rfl
  have AT:∀v∈zv.cells.toList,v.oneCell'=true:=by
   have h1:=(aw.len (ρ:=ρ) te.zero _ (dX i6)).2
   rw[i5,List.flatMap_def];exact h1
  have AU:¬((n+m:Nat):Int)>IntKind.i64.max:=by
   have:IntKind.i64.max=9223372036854775807:=aI
   omega
  have grow:∀(base:Option Addr) (cap:Nat),a.eval x= .slice base n cap→cap<n+m→(∀w',(∀b,b<w.heap.size→w'.heap[b]? =w.heap[b]?)→(Builtin.firstCells te.size n (.slice base n cap)).run P w'= .ok ((z.take n).flatten).toArray w')→
    ∃v w' ρ',(execOp a.eval o).run P w= .ok (.value v) w'∧jH ρ w (.aO kn te.size 0 (n+m)) [(kn,⟨e,true,d'⟩)] [(k,⟨e,true,.dead⟩)] v ρ' w':=by
   intro base cap hbx hcap hfirst
   have wO:¬Builtin.nextslicecap (n+m) cap*i.bytes>2^48:=by
    have:=growslice_fits (bytes:=te.bytes) hcap hbytes
    rw[i3];simpa using this
   have Na:n+m≤grownCap w (n+m) cap e:=by
    simp only[grownCap,Question.cut]
    omega
   have cj:=je (hL:=bY.ef) (ρ:=ρ) (w:=w.drew) (k:=kn) (s:=te.size) (n:=n+m) (cap:=grownCap w (n+m) cap e) (ty:=e) (d:=d') (vs:=(z.take n++(z2.drop i2).take m).flatten) (ex:=(Builtin.zeroCells zv.cells (grownCap w (n+m) cap e - (n+m))).toList) dp bY.data Na
    (by
     have h1:((z.take n++(z2.drop i2).take m).flatten).length=(n+m)*te.size:=by
      rw[aQ (s:=te.size) _ (fun u hu=>(List.mem_append.1 hu).elim (fun h=>zw u (List.mem_of_mem_take h)) (ie u)),List.length_append,gf,List.length_take]
      congr 1
      omega
     rw[List.length_append,h1,Array.length_toList]
     have h2:(Builtin.zeroCells zv.cells (grownCap w (n+m) cap e - (n+m))).size=(grownCap w (n+m) cap e - (n+m))*te.size:=by simp[Builtin.zeroCells,i7]
     rw[h2,←Nat.add_mul,show n+m+(grownCap w (n+m) cap e - (n+m))=grownCap w (n+m) cap e from by omega]
     exact Nat.le_refl _) (gd AT _)
   refine⟨_,_,_,fa _ _ ?_,{cj with
    bK:=⟨cj.bK.os,cj.bK.tape,cj.bK.output,cj.bK.size,fun b hb hn=>cj.bK.block b hb (fun hh=>by obtain⟨_,_,_,hh,_⟩:=hh;cases hh)⟩
    blk:=fun j b hj=>by
     rcases hj with hj|hj
     ·simp only[List.mem_singleton,Prod.mk.injEq]at hj
      obtain⟨rfl,rfl⟩:=hj
      exact .inl rfl
     ·exact cj.blk j b (.inr hj)
    once:=fun j b b' h1 h2 h3 h4=>by
     simp only[List.mem_singleton,Prod.mk.injEq]at h1 h2
     rw[h2.2]at h4
     cases h4
    AM:=fun j b q hj hq=>.inl ((cj.AM j b q hj hq).elim id (fun hh=>by obtain⟨_,_,_,hh,_⟩:=hh;cases hh))}⟩
   have yL:(if false=true then(Pure.pure 0:Sem Nat)else Builtin.lenOf (a.eval y)).run P w= .ok m w:=by rw[hlen2];rfl
   have rr:¬n+m≤cap:=aa
   have hnb:(w.drew).heap=w.heap:=rfl
   have Hj:=hfirst w.drew (fun b _=>rfl)
   have q0:=hrun2 w.drew (fun b _=>rfl)
   simp only[Builtin.append_,jE,hbx,List.getElem?_toArray,List.getElem?_cons_zero,List.getElem?_cons_succ,Sem.run_bind,run_underlying hu,run_underlying zm,Result.andThen_ok,he.sizeOf,Sem.run_pure,Bool.false_eq_true,if_false,hlen2]
   have ru:∀w',(typeInfo e).run P w'= .ok i w':=fun w'=>by simp[typeInfo,i1]
   have AR:∀w',(Go.zeroValue e).run P w'= .ok zv w':=fun w'=>by simp[Go.zeroValue,typeInfo,i1,i4]
   have rv:¬(((n+m:Nat):Int)>IntKind.i64.max∧(False∨i.bytes=0)):=fun h=>AU h.1
   have jL:(Question.appendCap (n+m) cap e).forced=false:=rfl
   simp only[rr,if_false,Sem.run_bind,ru,Result.andThen_ok,rv,wO,run_choose,jL,Bool.false_eq_true,World.drew_eq,run_askRoom,Hj,Bool.not_false,if_true,q0,AR,newRow,run_newObj,Sem.run_pure,World.alloc_eq]
   have iM:((z.take n).flatten.toArray++((z2.drop i2).take m).flatten.toArray++Builtin.zeroCells zv.cells (grownCap w (n+m) cap e - (n+m)))=((z.take n++(z2.drop i2).take m).flatten++(Builtin.zeroCells zv.cells (grownCap w (n+m) cap e - (n+m))).toList).toArray:=by
    apply Array.ext'
    simp
   show Result.ok (Value.slice (some ⟨w.drew.heap.size,0,none⟩) (n+m) (grownCap w (n+m) cap e)) (w.drew.alloc (.cells ((z.take n).flatten.toArray++((z2.drop i2).take m).flatten.toArray++Builtin.zeroCells zv.cells (grownCap w (n+m) cap e - (n+m))) e))=_
   rw[iM]
  rcases fI CC with⟨b,tt,cap,e1,e2,e3,e4⟩|⟨rfl,ad,e4⟩
  ·rcases RI with⟨b',tt',ex,c1,c2,c3,c4⟩|⟨c1,_⟩
   ·rw[e1]at c1
    cases c1
    simp only at c2
    rcases Nat.lt_or_ge cap (n+m)with aE|IC
    ·refine grow _ cap e4 aE ?_
     obtain⟨z3,hz3,hrun3,_⟩:=mH (P:=P) CC (hp.n0 k _ hf) hl hw (by simpa using hn)
     intro w' yV
     have h0:=run_firstCells_some (P:=P) w' te.size n ⟨b,0*te.size,none⟩ n cap ((z.take n).flatten) (by
      rw[aQ (s:=te.size) _ (fun u hu=>zw u (List.mem_of_mem_take hu)),List.length_take];congr 1;omega) (by
      intro j u hj
      have rq:b<w.heap.size:=by
       rcases Nat.lt_or_ge b w.heap.size with h'|h'
       ·exact h'
       ·simp[Array.getElem?_eq_none h']at c2
      have hh:w'.heap[b]? =some (.cells (z.flatten++ex).toArray e (0,0)):=by rw[yV b rq];exact c2
      have fU:(⟨b,0*te.size,none⟩:Addr).add j=⟨b,j,none⟩:=jY b te.size j
      rw[fU,cell_of_row w' b j _ e (0,0) hh]
      rw[cC (s:=te.size) _ _ zw]at hj
      have h6:z.flatten[j]? =some u:=by
       rw[List.getElem?_take]at hj
       split at hj
       ·exact hj
       ·cases hj
      have CD:j<z.flatten.length:=(List.getElem?_eq_some_iff.1 h6).1
      simp only[List.getElem?_toArray]
      rw[List.getElem?_append_left CD]
      exact h6)
     exact h0
    ·-- in place
     have rq:b<w.heap.size:=by
      rcases Nat.lt_or_ge b w.heap.size with h'|h'
      ·exact h'
      ·simp[Array.getElem?_eq_none h']at c2
     have q0:=hrun2 w (fun b _=>rfl)
     have uZ:0*te.size+n*te.size+(((z2.drop i2).take m).flatten).length≤(z.flatten++ex).length:=by
      rw[oE,c3,Nat.zero_mul,Nat.zero_add,←Nat.add_mul]
      exact Nat.le_trans (Nat.mul_le_mul_right _ IC) (by simpa using e3)
     have Ei:=run_storeCells_at (P:=P) b (n*te.size) e (((z2.drop i2).take m).flatten) 0 (z.flatten++ex).toArray w c2 (by simp only[List.size_toArray];simpa using uZ) jg
     have fU:(⟨b,0*te.size,none⟩:Addr).add (n*te.size)=⟨b,n*te.size,none⟩:=jY b te.size _
     have fV:((z.flatten++ex).take (n*te.size+0)++(((z2.drop i2).take m).flatten)++(z.flatten++ex).drop (n*te.size+0+(((z2.drop i2).take m).flatten).length))=
       (z.take n++(z2.drop i2).take m).flatten++(z.flatten++ex).drop (n*te.size+m*te.size):=by
      rw[Nat.add_zero,oE,List.flatten_append,cC (s:=te.size) _ _ zw,List.take_append_of_le_length (by rw[aQ (s:=te.size) _ zw];exact Nat.mul_le_mul_right _ aa)]
     rw[fV]at Ei
     let ρ':bU:=⟨fun j=>if j=kn then some (b,tt)else ρ.key j,ρ.bf,ρ.cw⟩
     have hle:ρ.Le ρ':=⟨fun j q hq=>by
      show(if j=kn then _ else _)=_
      by_cases hj:j=kn
      ·subst hj;rw[dp]at hq;cases hq
      ·rw[if_neg hj];exact hq,fun b o hb=>hb⟩
     refine⟨.slice (some ⟨b,0*te.size,none⟩) (n+m) cap,w.setRow b ((z.take n++(z2.drop i2).take m).flatten++(z.flatten++ex).drop (n*te.size+m*te.size)).toArray,ρ',fa _ _ ?_, ?_⟩
     ·simp only[Builtin.append_,jE,e4,List.getElem?_toArray,List.getElem?_cons_zero,List.getElem?_cons_succ,Sem.run_bind,run_underlying hu,run_underlying zm,Result.andThen_ok,he.sizeOf,Sem.run_pure,Bool.false_eq_true,if_false,hlen2,IC,if_true,Bool.not_false,q0,fU,Ei]
     ·refine⟨hle,gv (.inl ⟨b,tt,cap, ?_,IC,e3,rfl⟩), ?_,⟨rfl,rfl,rfl,by simp[World.setRow], ?_⟩, ?_, ?_, ?_, ?_,fun b o hb=>.inl hb⟩
      ·show(if kn=kn then _ else _)=_
       rw[if_pos rfl]
      ·intro j hj
       show(if j=kn then _ else _)=_
       rw[if_neg]
       rintro rfl
       exact hj _ (List.mem_cons_self ..)
      ·intro q hq hnq
       refine dj fun I5=>hnq ⟨k,_,tt,List.mem_cons_self .., ?_⟩
       rw[I5];exact e1
      ·intro j bj hj
       rcases hj with hj|hj
       ·simp only[List.mem_singleton,Prod.mk.injEq]at hj
        obtain⟨rfl,rfl⟩:=hj
        exact .inl rfl
       ·simp only[List.mem_singleton,Prod.mk.injEq]at hj
        obtain⟨rfl,rfl⟩:=hj
        refine .inr (.inl ⟨b,tt,_,(z.flatten++ex).drop (n*te.size+m*te.size), ?_,by rw[Data.cT bY.ef];exact dC c2,bY.data.mono hle, ?_, ?_⟩)
        ·show(if j=j then _ else _)=_
         rw[if_pos rfl]
        ·have h1:((z.take n++(z2.drop i2).take m).flatten).length=(n+m)*te.size:=by
          rw[aQ (s:=te.size) _ (fun u hu=>(List.mem_append.1 hu).elim (fun h=>zw u (List.mem_of_mem_take h)) (ie u)),List.length_append,gf,List.length_take]
          congr 1
          omega
         rw[List.length_append,h1,List.length_drop,c3,Nat.add_mul]
         rw[oE,c3]at uZ
         omega
        ·intro u hu
         have:=List.mem_of_mem_drop hu
         rcases List.mem_append.1 this with h|h
         ·obtain⟨q,hq,hu'⟩:=List.mem_flatten.1 h
          exact hz.wD q hq u hu'
         ·exact c4 u h
      ·intro j c c' h1 h2 h3 h4
       simp only[List.mem_singleton,Prod.mk.injEq]at h1 h2
       rw[h2.2]at h4
       cases h4
      ·intro j bj q hj hq
       simp only[List.mem_singleton,Prod.mk.injEq]at hj
       obtain⟨rfl,rfl⟩:=hj
       have AV:(if j=j then some (b,tt)else ρ.key j)=some q:=hq
       rw[if_pos rfl]at AV
       cases AV
       exact .inr ⟨k,_,tt,List.mem_cons_self ..,rfl,e1⟩
      ·intro j bj j' bj' q q' hj ou bW
       simp only[List.mem_singleton,Prod.mk.injEq]at hj ou
       exact absurd (hj.1.trans ou.1.symm) bW
   ·rw[e1]at c1;cases c1
  ·rcases Nat.eq_zero_or_pos m with rfl|Zp
   ·-- nothing onto nothing
    have q0:=hrun2 w (fun b _=>rfl)
    refine⟨.slice ad 0 0,w,ρ,fa _ _ ?_, ?_⟩
    ·have ud:∀q:Addr,(storeCells q ([]:List Value)).run P w= .ok () w:=fun q=>rfl
     have CE:((z2.drop i2).take 0).flatten=[]:=by simp
     rw[CE]at q0
     cases ad<;>simp only[Builtin.append_,jE,e4,List.getElem?_toArray,List.getElem?_cons_zero,List.getElem?_cons_succ,Sem.run_bind,run_underlying hu,run_underlying zm,Result.andThen_ok,he.sizeOf,Sem.run_pure,Bool.false_eq_true,if_false,hlen2,Nat.add_zero,Nat.le_refl,if_true,Bool.not_false,q0,ud]
    ·have adp:d'.empty∨True:=.inr trivial
     have p8:d'.empty:=by
      unfold oC at hd
      split at hd
      ·split at hd
       ·simp only[Option.some.injEq]at hd;subst hd;simp[Data.empty]
       ·simp at hd
      ·simp only[Option.some.injEq]at hd;subst hd;simp[Data.empty]
      ·split at hd
       ·simp only[Option.some.injEq]at hd;subst hd;simp[Data.empty]
       ·simp at hd
      ·simp at hd
     refine⟨.refl ρ,gv (.inr ⟨rfl,ad,rfl⟩),fun _ _=>rfl,.refl _ _, ?_, ?_, ?_, ?_,fun b o hb=>.inl hb⟩
     ·intro j bj hj
      rcases hj with hj|hj
      ·simp only[List.mem_singleton,Prod.mk.injEq]at hj
       obtain⟨rfl,rfl⟩:=hj
       exact .inl rfl
      ·simp only[List.mem_singleton,Prod.mk.injEq]at hj
       obtain⟨rfl,rfl⟩:=hj
       exact .inr (.inr ⟨dp,p8⟩)
     ·intro j c c' h1 h2 h3 h4
      simp only[List.mem_singleton,Prod.mk.injEq]at h1 h2
      rw[h2.2]at h4
      cases h4
     ·intro j bj q hj hq
      simp only[List.mem_singleton,Prod.mk.injEq]at hj
      obtain⟨rfl,rfl⟩:=hj
      rw[dp]at hq;cases hq
     ·intro j bj j' bj' q q' hj ou bW
      simp only[List.mem_singleton,Prod.mk.injEq]at hj ou
      exact absurd (hj.1.trans ou.1.symm) bW
   ·refine grow ad 0 e4 aa ?_
    intro w' _
    cases ad with
    |none=>simp[Builtin.firstCells]
    |some q=>simp[Builtin.firstCells,loadCells,loadCellsFrom]
theorem yW {t t2 e:TypeId} {x y:Operand} {xs:Array Operand} {ts:Array TypeId} {ti D8 te:TI} {k2 kn i2 m:Nat} {d':Data} {blk2:aF} (ho:o.op= .call ⟨.builtin .append,xs,ts⟩) (mr:xs= #[x,y]) (jE:ts= #[t,t2])
  (hx:bp fr x (.val (.slice none 0 0))) (hy:bp fr y (.aO k2 te.size i2 m)) (ht:aG P t ti) (hk:ti.kind= .aO e) (Cg:aG P t2 D8) (hk2:D8.kind= .aO e) (he:aG P e te)
  (hf2:(k2,blk2)∈fk) (iC:blk2.data.live=true) (nv:cZ blk2.data=some te.size)
  (hm:i2+m≤en blk2.data) (hd:oC blk2.data 0 blk2.data i2 m=some d') (hbytes:m*te.bytes≤140737488355328) (h63:m≤9223372036854775807):
  bS P o fr fk (.aO kn te.size 0 m) [(kn,⟨e,true,d'⟩)] []:=
 dv fun ρ a w hp=>by
  have CC:=aK (hx ρ a hp.dy)
  have Hi:=hy ρ a hp.dy
  obtain⟨i,zv,i1,i2',i3,i4,i5,i6,i7,_⟩:=he.info
  have hu:=ht.kind;rw[hk]at hu
  have zm:=Cg.kind;rw[hk2]at zm
  obtain⟨z2,lC,hrun2,hlen2⟩:=mH (P:=P) Hi (hp.n0 k2 _ hf2) iC nv hm
  obtain⟨zl2,zw2⟩:=lC.len
  have bY:=(ui hd lC lC).1
  rw[List.take_zero,List.nil_append]at bY
  have dp:=hp.fresh kn _ (List.mem_cons_self ..)
  have ie:∀u∈(z2.drop i2).take m,u.length=te.size:=fun u hu=>zw2 u (List.mem_of_mem_drop (List.mem_of_mem_take hu))
  have gf:((z2.drop i2).take m).length=m:=by rw[List.length_take,List.length_drop];omega
  have fa:∀v w',(Builtin.append_ ts o.type #[a.eval x,a.eval y]).run P w= .ok v w'→(execOp a.eval o).run P w= .ok (.value v) w':=by
   intro v w' h
   simp only[execOp,ho,resolve,invoke,builtin,mr,Sem.run_bind,Sem.run_pure,Result.andThen_ok,List.map_toArray,List.map_cons,List.map_nil]
   rw[h]
   rfl
  have AT:∀v∈zv.cells.toList,v.oneCell'=true:=by
   have h1:=(aw.len (ρ:=ρ) te.zero _ (dX i6)).2
   rw[i5,List.flatMap_def];exact h1
  rcases Nat.eq_zero_or_pos m with rfl|Zp
  ·have q0:=hrun2 w (fun b _=>rfl)
   refine⟨.slice none 0 0,w,ρ,fa _ _ ?_, ?_⟩
   ·have CE:((z2.drop i2).take 0).flatten=[]:=by simp
    rw[CE]at q0
    simp only[Builtin.append_,jE,CC,List.getElem?_toArray,List.getElem?_cons_zero,List.getElem?_cons_succ,Sem.run_bind,run_underlying hu,run_underlying zm,Result.andThen_ok,he.sizeOf,Sem.run_pure,Bool.false_eq_true,if_false,hlen2,Nat.add_zero,Nat.le_refl,if_true,Bool.not_false,q0]
   ·have p8:d'.empty:=by
     unfold oC at hd
     split at hd
     ·split at hd
      ·simp only[Option.some.injEq]at hd;subst hd;simp[Data.empty]
      ·simp at hd
     ·simp only[Option.some.injEq]at hd;subst hd;simp[Data.empty]
     ·split at hd
      ·simp only[Option.some.injEq]at hd;subst hd;simp[Data.empty]
      ·simp at hd
     ·simp at hd
    refine⟨.refl ρ,gv (.inr ⟨rfl,none,rfl⟩),fun _ _=>rfl,.refl _ _, ?_,(fun _ _ _ h=>by cases h), ?_, ?_,fun b o hb=>.inl hb⟩
    ·intro j bj hj
     rcases hj with hj|hj
     ·cases hj
     ·simp only[List.mem_singleton,Prod.mk.injEq]at hj
      obtain⟨rfl,rfl⟩:=hj
      exact .inr (.inr ⟨dp,p8⟩)
    ·intro j bj q hj hq
     simp only[List.mem_singleton,Prod.mk.injEq]at hj
     obtain⟨rfl,rfl⟩:=hj
     rw[dp]at hq;cases hq
    ·intro j bj j' bj' q q' hj ou bW
     simp only[List.mem_singleton,Prod.mk.injEq]at hj ou
     exact absurd (hj.1.trans ou.1.symm) bW
  ·have AU:¬((0+m:Nat):Int)>IntKind.i64.max:=by
    have:IntKind.i64.max=9223372036854775807:=aI
    omega
   have wO:¬Builtin.nextslicecap (0+m) 0*i.bytes>2^48:=by
    have:=growslice_fits (bytes:=te.bytes) (show 0<0+m by omega) (by rw[Nat.zero_add];exact hbytes)
    rw[i3];simpa using this
   have Na:m≤grownCap w (0+m) 0 e:=by
    simp only[grownCap,Question.cut]
    omega
   have cj:=je (hL:=bY.ef) (ρ:=ρ) (w:=w.drew) (k:=kn) (s:=te.size) (n:=m) (cap:=grownCap w (0+m) 0 e) (ty:=e) (d:=d') (vs:=((z2.drop i2).take m).flatten) (ex:=(Builtin.zeroCells zv.cells (grownCap w (0+m) 0 e - (0+m))).toList) dp bY.data Na
    (by
     have h1:(((z2.drop i2).take m).flatten).length=m*te.size:=by rw[aQ (s:=te.size) _ ie,gf]
     rw[List.length_append,h1,Array.length_toList]
     have h2:(Builtin.zeroCells zv.cells (grownCap w (0+m) 0 e - (0+m))).size=(grownCap w (0+m) 0 e - (0+m))*te.size:=by simp[Builtin.zeroCells,i7]
     rw[h2,←Nat.add_mul,show m+(grownCap w (0+m) 0 e - (0+m))=grownCap w (0+m) 0 e from by omega]
     exact Nat.le_refl _) (gd AT _)
   refine⟨_,_,_,fa _ _ ?_,{cj with bK:=⟨cj.bK.os,cj.bK.tape,cj.bK.output,cj.bK.size,cj.bK.block⟩}⟩
   have rr:¬0+m≤0:=aa
   have q0:=hrun2 w.drew (fun b _=>rfl)
   have ru:∀w',(typeInfo e).run P w'= .ok i w':=fun w'=>by simp[typeInfo,i1]
   have AR:∀w',(Go.zeroValue e).run P w'= .ok zv w':=fun w'=>by simp[Go.zeroValue,typeInfo,i1,i4]
   have rv:¬(((0+m:Nat):Int)>IntKind.i64.max∧(False∨i.bytes=0)):=fun h=>AU h.1
   have jL:(Question.appendCap (0+m) 0 e).forced=false:=rfl
   have Hj:∀w',(Builtin.firstCells te.size 0 (.slice none 0 0)).run P w'= .ok #[] w':=fun w'=>by simp[Builtin.firstCells]
   simp only[Builtin.append_,jE,CC,List.getElem?_toArray,List.getElem?_cons_zero,List.getElem?_cons_succ,Sem.run_bind,run_underlying hu,run_underlying zm,Result.andThen_ok,he.sizeOf,Sem.run_pure,Bool.false_eq_true,if_false,hlen2]
   simp only[rr,if_false,Sem.run_bind,ru,Result.andThen_ok,rv,wO,run_choose,jL,Bool.false_eq_true,World.drew_eq,run_askRoom,Hj,Bool.not_false,if_true,q0,AR,newRow,run_newObj,Sem.run_pure,World.alloc_eq]
   have iM:((#[]:Array Value)++((z2.drop i2).take m).flatten.toArray++Builtin.zeroCells zv.cells (grownCap w (0+m) 0 e - (0+m)))=(((z2.drop i2).take m).flatten++(Builtin.zeroCells zv.cells (grownCap w (0+m) 0 e - (0+m))).toList).toArray:=by
    apply Array.ext'
    simp
   show Result.ok (Value.slice (some ⟨w.drew.heap.size,0,none⟩) (0+m) (grownCap w (0+m) 0 e)) (w.drew.alloc (.cells ((#[]:Array Value)++((z2.drop i2).take m).flatten.toArray++Builtin.zeroCells zv.cells (grownCap w (0+m) 0 e - (0+m))) e))=_
   rw[iM,Nat.zero_add]
theorem CF {src dst e:TypeId} {x:Operand} {ti td te:TI} {k i n:Nat} {wr:Bool} {ty:TypeId} {xs:List Int} (ho:o.op= .convert src dst x) (hx:bp fr x (.aO k 1 i n)) (ht:aG P src ti) (hk:ti.kind= .aO e) (he:aG P e te) (hke:te.kind= .int .u8)
  (htd:aG P dst td) (yR:td.kind= .str) (hf:(k,⟨ty,wr,.ints .u8 xs⟩)∈fk) (hn:i+n≤xs.length):
  bS P o fr fk (.val (.string ⟨(((xs.drop i).take n).map fun v=>UInt8.ofNat v.toNat).toArray⟩)) [] []:=
 bw fun ρ a w hp=>by
  have hv:=hx ρ a hp.dy
  have hu:=ht.kind;rw[hk]at hu
  have hue:=he.kind;rw[hke]at hue
  have RJ:=htd.kind;rw[yR]at RJ
  obtain⟨z,hz,vE,_⟩:=mH (P:=P) hv (hp.n0 k _ hf) rfl rfl hn
  obtain⟨_,rfl⟩:=hz
  have hr:=vE w (fun _ _=>rfl)
  have I2:∀(l:List Int) (b:ByteArray),l.foldl (fun r n=>r.push (UInt8.ofNat n.toNat)) b=⟨b.data++(l.map fun v=>UInt8.ofNat v.toNat).toArray⟩:=by
   intro l
   induction l with
   |nil=>intro b;simp
   |cons v l ih=>
    intro b
    rw[List.foldl_cons,ih]
    congr 1
    show(b.data.push _)++_=_
    apply Array.ext'
    simp
  have wN:((((xs.map fun x=>[Value.int .u8 x]).drop i).take n).flatten)=((xs.drop i).take n).map (Value.int .u8):=by
   rw[←List.map_drop,←List.map_take,←List.flatMap_def,List.map_eq_flatMap]
  rcases fI hv with⟨b,t,cap,e1,e2,e3,bZ⟩|⟨rfl,ad,bZ⟩
  ·rw[Nat.mul_one]at bZ
   rw[bZ]at hr
   simp only[Builtin.firstCells,Nat.mul_one,wN]at hr
   have:=run_bytesToString (P:=P) w ⟨b,i,none⟩ n cap ((xs.drop i).take n) hr
   rw[I2]at this
   refine⟨_, ?_,cd rfl⟩
   simp only[execOp,ho,bZ,convert,Sem.run_bind,run_underlying hu,run_underlying RJ,run_underlying hue,Result.andThen_ok,this,Sem.run_pure]
   congr 4
   apply Array.ext'
   simp
  ·refine⟨_, ?_,cd rfl⟩
   rw[bZ]at hr
   cases ad with
   |none=>
    have:(Conv.bytesToString (.slice none 0 0)).run P w= .ok (.string .empty) w:=rfl
    simp only[execOp,ho,bZ,convert,Sem.run_bind,run_underlying hu,run_underlying RJ,run_underlying hue,Result.andThen_ok,this,Sem.run_pure]
    rfl
   |some q=>
    have hr:(loadCells q 0).run P w= .ok (([]:List Int).map (Value.int .u8)).toArray w:=rfl
    have:=run_bytesToString (P:=P) w q 0 0 [] hr
    simp only[execOp,ho,bZ,convert,Sem.run_bind,run_underlying hu,run_underlying RJ,run_underlying hue,Result.andThen_ok,this,Sem.run_pure]
    rfl
end
end Go.Sx
namespace Go.Sx
def adq (w:Nat) (xs:List SV) (bf:Nat→Option Obj) (vs:List Value):Prop:=
 (xs=[]∧∃a,vs=[.slice a 0 0])∨
 ∃(hg:iJ bf) (b cap:Nat) (z:List (List Value)) (pre ex:List Value) (ty:TypeId) (fz:Nat×Nat),bf b=some (.cells (pre++(z.flatten++ex)).toArray ty fz)∧aw (cR bf hg) xs z∧(∀x∈xs,x.width=w)∧
  xs.length≤cap∧cap*w≤(z.flatten++ex).length∧vs=[.slice (some ⟨b,pre.length,none⟩) xs.length cap]
def Hk (w:Nat) (xs:List SV):Pred where
 h:=adq w xs
 mono i i' vs hle h:=by
  rcases h with h|⟨hg,b,cap,z,pre,ex,ty,fz,h1,h2,h3⟩
  ·exact .inl h
  ·exact .inr ⟨hg.mono hle,b,cap,z,pre,ex,ty,fz,hle _ _ h1,aw.mono (rf hle hg _) _ _ h2,h3⟩
 width:=1
 len i vs h:=by
  rcases h with⟨_,a,rfl⟩|⟨hg,b,cap,z,pre,ex,_,_,_,_,_,_,_,rfl⟩<;>simp[Value.oneCell']
 bare:=true
 rb _:=rfl
abbrev eI (w:Nat) (xs:List SV):SV:=.atom (Hk w xs)
theorem ry {ρ:bU} {w:Nat} {xs:List SV} {v:Value} (h:Has ρ (eI w xs) v):(xs=[]∧∃a,v= .slice a 0 0)∨
  ∃(b cap:Nat) (z:List (List Value)) (pre ex:List Value) (ty:TypeId) (fz:Nat×Nat),ρ.bf b=some (.cells (pre++(z.flatten++ex)).toArray ty fz)∧aw (cR ρ.bf ρ.cw) xs z∧(∀x∈xs,x.width=w)∧
  xs.length≤cap∧cap*w≤(z.flatten++ex).length∧v= .slice (some ⟨b,pre.length,none⟩) xs.length cap:=by
 simp only[Has,aL]at h
 obtain⟨x,h1,rfl⟩:=h
 rcases h1 with⟨h1,a,rfl⟩|⟨hg,b,cap,z,pre,ex,ty,fz,h1,h2,h3,h4,h5,rfl⟩
 ·exact .inl ⟨h1,a,by simp[cQ,SV.bl,Hk]⟩
 ·exact .inr ⟨b,cap,z,pre,ex,ty,fz,h1,h2,h3,h4,h5,by simp[cQ,SV.bl,Hk]⟩
theorem vN {ρ:bU} {w:Nat} {xs:List SV} {v:Value} (h:(xs=[]∧∃a,v= .slice a 0 0)∨
  ∃(b cap:Nat) (z:List (List Value)) (pre ex:List Value) (ty:TypeId) (fz:Nat×Nat),ρ.bf b=some (.cells (pre++(z.flatten++ex)).toArray ty fz)∧aw (cR ρ.bf ρ.cw) xs z∧(∀x∈xs,x.width=w)∧
  xs.length≤cap∧cap*w≤(z.flatten++ex).length∧v= .slice (some ⟨b,pre.length,none⟩) xs.length cap):Has ρ (eI w xs) v:=by
 simp only[Has,aL]
 refine⟨[v], ?_,by simp[cQ,SV.bl,Hk]⟩
 rcases h with⟨h1,a,rfl⟩|⟨b,cap,z,pre,ex,ty,fz,h1,h2,h3,h4,h5,rfl⟩
 ·exact .inl ⟨h1,a,rfl⟩
 ·exact .inr ⟨ρ.cw,b,cap,z,pre,ex,ty,fz,h1,h2,h3,h4,h5,rfl⟩
def adr (cs:List SV) (bf:Nat→Option Obj) (vs:List Value):Prop:=
 ∃(hg:iJ bf) (b:Nat) (z:List (List Value)) (pre ex:List Value) (ty:TypeId) (fz:Nat×Nat),bf b=some (.cells (pre++(z.flatten++ex)).toArray ty fz)∧aw (cR bf hg) cs z∧vs=[.pointer (some ⟨b,pre.length,none⟩)]
def gX (cs:List SV):Pred where
 h:=adr cs
 mono i i' vs hle h:=by
  obtain⟨hg,b,z,pre,ex,ty,fz,h1,h2,h3⟩:=h
  exact⟨hg.mono hle,b,z,pre,ex,ty,fz,hle _ _ h1,aw.mono (rf hle hg _) _ _ h2,h3⟩
 width:=1
 len i vs h:=by
  obtain⟨hg,b,z,pre,ex,ty,fz,h1,h2,rfl⟩:=h
  simp[Value.oneCell']
 bare:=true
 rb _:=rfl
abbrev bE (cs:List SV):SV:=.atom (gX cs)
theorem wP {ρ:bU} {cs:List SV} {v:Value} (h:Has ρ (bE cs) v):∃(b:Nat) (z:List (List Value)) (pre ex:List Value) (ty:TypeId) (fz:Nat×Nat),ρ.bf b=some (.cells (pre++(z.flatten++ex)).toArray ty fz)∧
  aw (cR ρ.bf ρ.cw) cs z∧v= .pointer (some ⟨b,pre.length,none⟩):=by
 simp only[Has,aL]at h
 obtain⟨x,⟨hg,b,z,pre,ex,ty,fz,h1,h2,rfl⟩,rfl⟩:=h
 exact⟨b,z,pre,ex,ty,fz,h1,h2,by simp[cQ,SV.bl,gX]⟩
theorem oF {ρ:bU} {cs:List SV} {v:Value} (h:∃(b:Nat) (z:List (List Value)) (pre ex:List Value) (ty:TypeId) (fz:Nat×Nat),ρ.bf b=some (.cells (pre++(z.flatten++ex)).toArray ty fz)∧
  aw (cR ρ.bf ρ.cw) cs z∧v= .pointer (some ⟨b,pre.length,none⟩)):Has ρ (bE cs) v:=by
 obtain⟨b,z,pre,ex,ty,fz,h1,h2,rfl⟩:=h
 simp only[Has,aL]
 exact⟨[.pointer (some ⟨b,pre.length,none⟩)],⟨ρ.cw,b,z,pre,ex,ty,fz,h1,h2,rfl⟩,by simp[cQ,SV.bl,gX]⟩
theorem oG (b n j:Nat):(⟨b,n,none⟩:Addr).add j=⟨b,n+j,none⟩:=by
 unfold Addr.add
 split<;>simp_all
def gY (xs:List SV) (l h:Nat):List SV:=(xs.drop l).take (h - l)
section
variable {P:Program} {o:Oper} {ft:List (Nat×SV)} {fk:List (Nat×aF)} {w:Nat} {xs cs:List SV}
theorem Nb {x:Operand} {t:TypeId} {xs':Array Operand} {ts:Array TypeId} {ti:TI} {e:TypeId} (ho:o.op= .call ⟨.builtin .len,xs',ts⟩) (mr:xs'= #[x]) (jE:ts= #[t]) (hx:bp ft x (eI w xs)) (ht:aG P t ti)
  (hk:ti.kind= .aO e):bS P o ft fk (.val (.int .i64 (xs.length:Int))) [] []:=
 bw fun ρ a w hp=>by
  have hv:=hx ρ a hp.dy
  refine⟨_, ?_,cd rfl⟩
  have hu:=ht.kind
  rw[hk]at hu
  rcases ry hv with⟨rfl,ad,h4⟩|⟨b,cap,z,pre,ex,_,_,_,_,_,_,_,h4⟩
  ·simp[execOp,ho,mr,jE,resolve,invoke,builtin,Builtin.len_,run_underlying hu,h4,goInt]
  ·simp[execOp,ho,mr,jE,resolve,invoke,builtin,Builtin.len_,run_underlying hu,h4,goInt]
theorem zn {t e:TypeId} {x ix:Operand} {ti te:TI} {kd:IntKind} {j:Int} {el:SV} (ho:o.op= .indexAddr t x ix) (hx:bp ft x (eI w xs)) (hi:bp ft ix (.val (.int kd j)))
  (ht:aG P t ti) (hk:ti.kind= .aO e) (he:aG P e te) (hs:te.size=w) (h0:0≤j) (hj:j<(xs.length:Int)) (ZR:xs.getD j.toNat .any=el):bS P o ft fk (bE [el]) [] []:=
 bw fun ρ a W hp=>by
  have e2:=aK (hi ρ a hp.dy)
  have hu:=ht.kind;rw[hk]at hu
  rcases ry (hx ρ a hp.dy)with⟨rfl,_⟩|⟨b,cap,z,pre,ex,ty,fz,h1,h2,h3,h4,h5,h6⟩
  ·simp at hj;omega
  ·have Rm:j.toNat<xs.length:=aa
   obtain⟨g1,g2⟩:=ow h2 j.toNat Rm
   have PA:=eZ xs z h2 h3
   have qu:z.length=xs.length:=cV h2
   refine⟨.pointer (some ⟨b,pre.length+j.toNat*w,none⟩), ?_,oF ⟨b,[z.getD j.toNat []],pre++(z.take j.toNat).flatten,(z.drop (j.toNat+1)).flatten++ex,ty,fz, ?_, ?_, ?_⟩⟩
   ·have ou:0≤j∧j<(xs.length:Int):=⟨h0,hj⟩
    simp only[execOp,ho,Instr.indexAt,e2,h6,asIntOf,Sem.run_bind,Sem.run_pure,Result.andThen_ok,run_underlying hu,ou,and_self,if_true,he.sizeOf,hs,oG]
   ·rw[h1]
    congr 3
    have hz:z=z.take j.toNat++(z.getD j.toNat []::z.drop (j.toNat+1)):=by
     have aE:j.toNat<z.length:=aa
     rw[List.getD_eq_getElem?_getD,List.getElem?_eq_getElem aE,Option.getD_some,←List.drop_eq_getElem_cons aE,List.take_append_drop]
    have:z.flatten=(z.take j.toNat).flatten++(z.getD j.toNat []++(z.drop (j.toNat+1)).flatten):=by
     conv=>lhs;rw[hz]
     simp
    rw[this]
    simp
   ·simp only[aw]
    exact⟨_,[],rfl,ZR▸g1,rfl⟩
   ·have:((z.take j.toNat).flatten).length=j.toNat*w:=by
     rw[aQ (s:=w) _ (fun u hu=>PA u (List.mem_of_mem_take hu)),List.length_take,qu,Nat.min_eq_left aa]
    rw[List.length_append,this]
theorem I6 {t:TypeId} {x:Operand} {ti:TI} {l:List SV} {c:SV} (ho:o.op= .load t x) (hx:bp ft x (bE cs)) (ht:aG P t ti) (hs:sub 64 cs 0 ti.size=some l) (gV:ti.size≠0) (hsh:eC ti l=some c):
  bS P o ft fk c [] []:=
 bw fun ρ a W hp=>by
  obtain⟨b,z,pre,ex,ty,fz,h1,h2,hv⟩:=wP (hx ρ a hp.dy)
  have h2:=aw.mono (oo ρ ρ.cw) _ _ h2
  obtain⟨y,e1,e2,e3⟩:=pq 64 cs 0 ti.size l z hs h2
  have e3:=e3.resolve_left gV
  rw[List.drop_zero]at e2
  have hh:=hp.bf b _ h1
  have hy:y.flatten=((pre++(z.flatten++ex)).drop pre.length).take ti.size:=by
   rw[List.drop_left,e2,List.take_append_of_le_length aa]
  have wI:ti.kind.isAgg=true∨ti.size=1:=by
   cases ha:ti.kind.isAgg with
   |true=>exact .inl rfl
   |false=>
    right
    unfold eC at hsh
    rw[ha]at hsh
    match l,hsh,e1 with
    |[d],hsh,e1=>
     simp only[aw]at e1
     obtain⟨u,_,rfl,d1,rfl⟩:=e1
     have hd:d.bl=true:=by
      cases hd:d.bl with
      |true=>rfl
      |false=>simp only at hsh;rw[hd]at hsh;simp at hsh
     have Ru:d.width=1:=by
      cases d<;>simp only[SV.bl,Bool.false_eq_true]at hd<;>simp only[SV.width]
      exact Pred.rb _ hd
     have:=(aL.len d u d1).1
     simp only[List.flatten_cons,List.flatten_nil,List.append_nil]at e2
     have h7:=congrArg List.length e2
     rw[List.length_take]at h7
     omega
    |[],hsh,_=>simp at hsh
    |_::_::_,hsh,_=>simp at hsh
  refine⟨_, ?_,jd hsh e1 rfl⟩
  have hr:=uX ht (P:=P) hh hy (by rw[List.length_append,List.length_append];omega) wI
  simp[execOp,ho,Instr.loadAt,Instr.sureAddr,hv,hr]
theorem Nc {ρ:bU} {off n:Nat} {l:List SV} {z:List (List Value)} (h:sub 64 cs off n=some l) (hn:n≠0) (hz:aw ρ cs z):∃y pre ex,aw ρ l y∧z.flatten=pre++(y.flatten++ex)∧pre.length=off:=by
 obtain⟨y,h1,h2,h3⟩:=pq 64 cs off n l z h hz
 have h3:=h3.resolve_left hn
 refine⟨y,z.flatten.take off,z.flatten.drop (off+n),h1, ?_, ?_⟩
 ·rw[h2,←List.drop_drop,List.take_append_drop,List.take_append_drop]
 ·rw[List.length_take];omega
theorem Hl {S:TypeId} {x:Operand} {j off e sz:Nat} {ti:TI} {fs:List (Nat×TypeId×Nat)} {l:List SV} (ho:o.op= .fieldAddr S x j) (hx:bp ft x (bE cs)) (ht:aG P S ti)
  (hk:ti.kind= .agg fs) (hj:fs[j]? =some (off,e,sz)) (gV:sz≠0) (hs:sub 64 cs off sz=some l):bS P o ft fk (bE l) [] []:=
 bw fun ρ a w hp=>by
  obtain⟨b,z,pre,ex,ty,fz,h1,h2,hv⟩:=wP (hx ρ a hp.dy)
  obtain⟨y,p2,x2,g1,g2,g3⟩:=Nc hs gV h2
  have yR:=ht.kind
  rw[hk]at yR
  obtain⟨k1,k2,k3⟩:=yR
  have hf:∃fd,(P.fieldsOf S)[j]? =some fd∧fd.offset=off∧P.cellsOf fd.type=sz∧(P.info? fd.type).isSome=true:=by
   rw[←k2,List.getElem?_map]at hj
   cases hq:(P.fieldsOf S).toList[j]? with
   |none=>rw[hq]at hj;simp at hj
   |some fd=>
    rw[hq]at hj
    simp only[Option.map_some,Option.some.injEq,Prod.mk.injEq]at hj
    refine⟨fd,by simpa using hq,hj.1,hj.2.2, ?_⟩
    exact List.all_eq_true.1 k3 fd (List.mem_of_getElem? hq)
  obtain⟨fd,f1,f2,f3,f4⟩:=hf
  refine⟨.pointer (some ⟨b,pre.length+off,none⟩), ?_,oF ⟨b,y,pre++p2,x2++ex,ty,fz, ?_,g1,by rw[List.length_append,g3]⟩⟩
  ·simp[execOp,ho,Instr.fieldAt,run_underlying k1,f1,Instr.sureAddr,hv,fieldPlace,oy f4,f3,f2,gV,oG]
  ·rw[h1,g2];simp
theorem Hm {t e:TypeId} {x:Operand} {lo hi mx:Option Operand} {ti te:TI} {l h:Int} (ho:o.op= .slice t x lo hi mx) (hx:bp ft x (eI w xs))
  (Ce:lo=none∧l=0∨∃y kd,lo=some y∧bp ft y (.val (.int kd l))) (Cf:hi=none∧h=xs.length∨∃y kd,hi=some y∧bp ft y (.val (.int kd h)))
  (hmx:mx=none∨(hi≠none∧∃y kd,mx=some y∧bp ft y (.val (.int kd h))))
  (ht:aG P t ti) (hk:ti.kind= .aO e) (he:aG P e te) (hs:te.size=w) (h0:0≤l) (hlh:l≤h) (hh:h≤(xs.length:Int)):bS P o ft fk (eI w (gY xs l.toNat h.toNat)) [] []:=
 bw fun ρ a W hp=>by
  have hu:=ht.kind;rw[hk]at hu
  have key:∀(ad:Option Addr) (m cap:Nat),xs.length=m→m≤cap→a.eval x= .slice ad m cap→
    ∃top,h.toNat≤top∧top≤cap∧(execOp a.eval o).run P W= .ok (.value (.slice (if top=l.toNat then ad else ad.map (·.add (l.toNat*w))) (h.toNat - l.toNat) (top - l.toNat))) W:=by
   intro ad m cap I1 hmc hv
   have IB:∀z:Operand,∀kd bd,bp ft z (.val (.int kd h))→h.toNat≤bd→∀q,(Instr.sliceBound (a.eval z) bd q).run P W= .ok h.toNat W:=by
    intro z kd bd hz rz q
    have:=aK (hz ρ a hp.dy)
    have hb:0≤h∧h≤(bd:Int):=aa
    simp[Instr.sliceBound,this,asIntOf,hb]
   have M8:∀z:Operand,∀kd q,bp ft z (.val (.int kd l))→(Instr.sliceBound (a.eval z) h.toNat q).run P W= .ok l.toNat W:=by
    intro z kd q hz
    have:=aK (hz ρ a hp.dy)
    have hb:0≤l∧l≤(h.toNat:Int):=aa
    simp only[Instr.sliceBound,this,asIntOf,Sem.run_bind,Sem.run_pure,Result.andThen_ok,hb,and_self,if_true]
   rcases hmx with rfl|⟨bW,y,ky,rfl,hy⟩
   ·refine⟨cap,aa,Nat.le_refl _, ?_⟩
    have rh:(Instr.sliceBounds true m cap (lo.map a.eval) (hi.map a.eval) none).run P W= .ok (l.toNat,h.toNat,cap) W:=by
     unfold Instr.sliceBounds
     rcases Cf with⟨rfl,rfl⟩|⟨z,kz,rfl,hz⟩<;>rcases Ce with⟨rfl,rfl⟩|⟨y,ky,rfl,hy⟩
     ·simp[I1]
     ·have:=M8 y ky .sliceB hy;simp at this;rw[I1]at this;simp[I1,this]
     ·simp[IB z kz cap hz aa .sliceAcap]
     ·simp[IB z kz cap hz aa .sliceAcap,M8 y ky .sliceB hy]
    simp only[execOp,ho,Option.map_none,Instr.sliceAt,Sem.run_bind,run_underlying hu,Result.andThen_ok,Instr.slice,hv,rh,he.sizeOf,hs,Sem.run_pure]
   ·refine⟨h.toNat,Nat.le_refl _,aa, ?_⟩
    have rh:(Instr.sliceBounds true m cap (lo.map a.eval) (hi.map a.eval) (some (a.eval y))).run P W= .ok (l.toNat,h.toNat,h.toNat) W:=by
     unfold Instr.sliceBounds
     rcases Cf with⟨rfl,rfl⟩|⟨z,kz,rfl,hz⟩<;>rcases Ce with⟨rfl,rfl⟩|⟨y',ky',rfl,Eo⟩
     ·exact absurd rfl bW
     ·exact absurd rfl bW
     ·simp[IB y ky cap hy aa,IB z kz h.toNat hz (Nat.le_refl _)]
     ·simp[IB y ky cap hy aa,IB z kz h.toNat hz (Nat.le_refl _),M8 y' ky' .slice3C Eo]
    simp only[execOp,ho,Option.map_some,Instr.sliceAt,Sem.run_bind,run_underlying hu,Result.andThen_ok,Instr.slice,hv,rh,he.sizeOf,hs,Sem.run_pure]
  rcases ry (hx ρ a hp.dy)with⟨rfl,ad,h4⟩|⟨b,cap,z,pre,ex,ty,fz,h1,h2,h3,h4,h5,h6⟩
  ·obtain⟨top,t1,t2,t3⟩:=key ad 0 0 rfl (Nat.le_refl _) h4
   simp only[List.length_nil]at hh
   have e1:l.toNat=0:=aa
   have e2:h.toNat=0:=aa
   have e3:top=0:=aa
   refine⟨_,t3,vN (.inl ⟨by simp[gY],ad, ?_⟩)⟩
   simp[e1,e2,e3]
  ·obtain⟨top,t1,t2,t3⟩:=key _ _ cap rfl h4 h6
   have qu:z.length=xs.length:=cV h2
   have PA:=eZ xs z h2 h3
   refine⟨_,t3,vN ?_⟩
   by_cases hc:top=l.toNat
   ·left
    have:h.toNat - l.toNat=0:=aa
    refine⟨by simp[gY,this],some ⟨b,pre.length,none⟩, ?_⟩
    rw[if_pos hc,this,hc,Nat.sub_self]
   ·right
    have Cc:(gY xs l.toNat h.toNat).length=h.toNat - l.toNat:=by rw[gY,List.length_take,List.length_drop];omega
    have ZS:z.flatten=(z.take l.toNat).flatten++((((z.drop l.toNat).take (h.toNat - l.toNat)).flatten)++(z.drop h.toNat).flatten):=by
     rw[←List.flatten_append,←List.flatten_append]
     congr 1
     have:z.drop h.toNat=(z.drop l.toNat).drop (h.toNat - l.toNat):=by rw[List.drop_drop];congr 1;omega
     rw[this,List.take_append_drop,List.take_append_drop]
    have gW:((z.take l.toNat).flatten).length=l.toNat*w:=by
     rw[aQ (s:=w) _ (fun u hu=>PA u (List.mem_of_mem_take hu)),List.length_take,qu,Nat.min_eq_left aa]
    refine⟨b,top - l.toNat,(z.drop l.toNat).take (h.toNat - l.toNat),pre++(z.take l.toNat).flatten,(z.drop h.toNat).flatten++ex,ty,fz, ?_,iK _ (jW _ h2),fun x hx=>h3 x (List.mem_of_mem_drop (List.mem_of_mem_take hx)),aa, ?_, ?_⟩
    ·rw[h1,ZS];simp
    ·have e1:=congrArg List.length ZS
     rw[List.length_append,gW]at e1
     rw[←List.append_assoc,List.length_append,Nat.sub_mul]
     rw[List.length_append]at h5
     have e2:top*w≤cap*w:=Nat.mul_le_mul_right _ t2
     omega
    ·rw[if_neg hc,Option.map_some,oG,List.length_append,gW,Cc]
theorem AW {x:Operand} (ho:o.op= .nilCheck x) (hx:bp ft x (bE cs)):bS P o ft fk (bE cs) [] []:=
 bw fun ρ a w hp=>by
  have h:=hx ρ a hp.dy
  obtain⟨b,z,pre,ex,ty,fz,h1,h2,hv⟩:=wP h
  exact⟨_,by simp[execOp,ho,hv],hv▸h⟩
theorem Nd {x:Operand} {elem:TypeId} {sv:SV} (ho:o.op= .box elem x) (hx:bp ft x sv) (hc:ot sv=some cs) (od:bn cs=true):
  bS P o ft fk (bE cs) [] []:=
 dv fun ρ a w hp=>by
  obtain⟨z,h1,h2⟩:=mD hc (hx ρ a hp.dy)
  have fV:(a.eval x).cells=z.flatten.toArray:=by rw[←h2]
  have jg:∀o',ρ.bf w.heap.size≠some o':=fun o' Hd=>by have:=hp.bf _ _ Hd;simp at this
  let ob:Obj:=.cells z.flatten.toArray elem (0,0)
  have Hn:∀b o',ρ.bf b=some o'→(fun b=>if b=w.heap.size then some ob else ρ.bf b) b=some o':=fun b o' hb=>by
   show(if b=w.heap.size then some ob else ρ.bf b)=some o'
   by_cases hbw:b=w.heap.size
   ·subst hbw;exact absurd hb (jg o')
   ·rw[if_neg hbw];exact hb
  let ρ':bU:=⟨ρ.key,fun b=>if b=w.heap.size then some ob else ρ.bf b,ρ.cw.mono Hn⟩
  have hle:ρ.Le ρ':=⟨fun k x hx=>hx,Hn⟩
  refine⟨.pointer (some ⟨w.heap.size,0,none⟩),w.alloc ob,ρ', ?_,⟨hle, ?_,fun _ _=>rfl,.gb ((RowKit.Below.refl _ _).alloc (Nat.le_refl _) _),(fun k b h=>by rcases h with h|h<;>cases h),(fun _ _ _ h=>by cases h),(fun k b x h=>by cases h),(fun k b k' b' x x' h=>by cases h), ?_⟩⟩
  ·simp[execOp,ho,Instr.box,newVar,newRow,fV,ob]
  ·refine oF ⟨w.heap.size,z,[],[],elem,(0,0), ?_, ?_,rfl⟩
   ·show(if w.heap.size=w.heap.size then some ob else ρ.bf w.heap.size)=_
    rw[if_pos rfl];simp[ob]
   ·exact cl (ρ:=ρ) (ρ':=cR ρ'.bf ρ'.cw) Hn cs z od h1
  ·intro b o' hb
   have hb:(if b=w.heap.size then some ob else ρ.bf b)=some o':=hb
   by_cases hbw:b=w.heap.size
   ·subst hbw
    rw[if_pos rfl]at hb
    simp only[Option.some.injEq]at hb
    subst hb
    exact .inr ⟨Nat.le_refl _,heap_alloc_new _ _,fun k blk x h=>by cases h⟩
   ·rw[if_neg hbw]at hb;exact .inl hb
theorem FZ {ρ:bU} {w:World} {e:TypeId} {s n:Nat} {l:List SV} {z:List (List Value)} (himm:∀b o,ρ.bf b=some o→w.heap[b]? =some o) (hz:aw ρ l z) (od:bn l=true) (hw:∀x∈l,x.width=s) (hn:l.length=n):
  ∃ρ',jH ρ w (eI s l) [] [] (.slice (some ⟨w.heap.size,0,none⟩) n n) ρ' (w.alloc (.cells z.flatten.toArray e (0,0))):=by
 have jg:∀o',ρ.bf w.heap.size≠some o':=fun o' Hd=>by have:=himm _ _ Hd;simp at this
 let ob:Obj:=.cells z.flatten.toArray e (0,0)
 have Hn:∀b o',ρ.bf b=some o'→(fun b=>if b=w.heap.size then some ob else ρ.bf b) b=some o':=fun b o' hb=>by
  show(if b=w.heap.size then some ob else ρ.bf b)=some o'
  by_cases hbw:b=w.heap.size
  ·subst hbw;exact absurd hb (jg o')
  ·rw[if_neg hbw];exact hb
 let ρ':bU:=⟨ρ.key,fun b=>if b=w.heap.size then some ob else ρ.bf b,ρ.cw.mono Hn⟩
 have hle:ρ.Le ρ':=⟨fun k x hx=>hx,Hn⟩
 have PA:=eZ l z hz hw
 refine⟨ρ',⟨hle, ?_,fun _ _=>rfl,.gb ((RowKit.Below.refl _ _).alloc (Nat.le_refl _) _),(fun k b h=>by rcases h with h|h<;>cases h),(fun _ _ _ h=>by cases h),(fun k b x h=>by cases h),(fun k b k' b' x x' h=>by cases h), ?_⟩⟩
 ·subst hn
  refine vN (.inr ⟨w.heap.size,l.length,z,[],[],e,(0,0), ?_,cl (ρ:=ρ) (ρ':=cR ρ'.bf ρ'.cw) Hn l z od hz,hw,Nat.le_refl _, ?_,rfl⟩)
  ·show(if w.heap.size=w.heap.size then some ob else ρ.bf w.heap.size)=_
   rw[if_pos rfl];simp[ob]
  ·rw[List.append_nil,aQ _ PA,cV hz];exact Nat.le_refl _
 ·intro b o' hb
  have hb:(if b=w.heap.size then some ob else ρ.bf b)=some o':=hb
  by_cases hbw:b=w.heap.size
  ·subst hbw
   rw[if_pos rfl]at hb
   simp only[Option.some.injEq]at hb
   subst hb
   exact .inr ⟨Nat.le_refl _,heap_alloc_new _ _,fun k blk x h=>by cases h⟩
  ·rw[if_neg hbw]at hb;exact .inl hb
theorem wQ {t e:TypeId} {len:Nat} {parts:Array (Nat×Operand)} {ti te:TI} {ps:List (Nat×List SV)} {l:List SV} (ho:o.op= .buildSlice t len parts) (ht:aG P t ti) (hk:ti.kind= .aO e) (he:aG P e te)
  (iF:gw ft parts.toList=some ps) (hb:jy 64 (fun i=>some (i*te.size,te.size)) (CA len te.zero) ps=some l) (od:bn l=true) (gx:qw te.size l=true) (hln:l.length=len) (gV:len*te.size≤16777216):
  bS P o ft fk (eI te.size l) [] []:=
 dv fun ρ a w hp=>by
  obtain⟨i,z,i1,i2,i3,i4,i5,i6,i7,_⟩:=he.info
  have hu:=ht.kind;rw[hk]at hu
  obtain⟨p1,p2⟩:=iL iF ρ a hp.dy
  have yL:=rn (dX (ρ:=ρ) i6) len
  have CB:(madeCells z.cells (len*te.size)).toList=((List.replicate len (te.zero.map eY)).flatten).flatten:=by
   rw[fb z.cells te.size i7 len,i5]
   have:∀n,(List.replicate n (te.zero.flatMap eY)).flatten=((List.replicate n (te.zero.map eY)).flatten).flatten:=by
    intro n
    induction n with
    |zero=>rfl
    |succ n ih=>rw[List.replicate_succ,List.replicate_succ,List.flatten_cons,List.flatten_cons,List.flatten_append,←ih,List.flatMap_def]
   exact this len
  obtain⟨L',z',e1,e2,e3⟩:=mF (ρ:=ρ) ps _ l (parts.toList.map fun p=>(p.1,Act.eval a p.2)) (madeCells z.cells (len*te.size)) _ hb yL CB p1 p2
  have mG:(parts.map fun(i,x)=>(i,Act.eval a x)).toList=parts.toList.map fun p=>(p.1,Act.eval a p.2):=by simp
  have MI:L'=z'.flatten.toArray:=by rw[←e3]
  obtain⟨ρ',cj⟩:=FZ (e:=e) hp.bf e2 od (jX gx) hln
  refine⟨_,_,ρ', ?_,cj⟩
  have I4:¬len*te.size>16777216:=aa
  by_cases h0:len*te.size=0
  ·have hm:(Array.range 0).map (fun x=>(#[]:Array Value)[x % (#[]:Array Value).size]!)=madeCells z.cells (len*te.size):=by simp[h0,madeCells]
   simp only[execOp,ho,Instr.buildSlice,Sem.run_bind,run_underlying hu,Result.andThen_ok,he.sizeOf,h0,mG]
   rw[h0]at hm
   simp only[Nat.reducePow,Nat.not_lt_zero,gt_iff_lt,if_false,if_true,Sem.run_bind,Sem.run_pure,Result.andThen_ok,hm]
   rw[h0]at e1
   simp only[e1,Sem.run_bind,newRow,run_newObj,Sem.run_pure,Result.andThen_ok,MI,World.alloc_eq]
  ·have hm:(Array.range (len*te.size)).map (fun x=>z.cells[x % z.cells.size]!)=madeCells z.cells (len*te.size):=rfl
   have AR:(Go.zeroValue e).run P w= .ok z w:=by simp[Go.zeroValue,typeInfo,i1,i4]
   simp only[execOp,ho,Instr.buildSlice,Sem.run_bind,run_underlying hu,Result.andThen_ok,he.sizeOf,h0,mG,Nat.reducePow,I4,if_false,AR,Sem.run_pure,hm,e1,newRow,run_newObj,MI,World.alloc_eq]
def Zq (x:Nat):List Nat→Bool
 |[]=>false
 |y::r=>Nat.beq x y||Zq x r
end
end Go.Sx
namespace Go.Sx
def pick (fr:List (Nat×SV)):List Nat→List (Nat×SV)
 |[]=>[]
 |t::r=>match lk fr t with
  |some s=>(t,s)::pick fr r
  |none=>pick fr r
theorem mI {fr:List (Nat×SV)}:∀{ts:List Nat} {t:Nat} {s:SV},(t,s)∈pick fr ts→lk fr t=some s∧t∈ts
 |u::r,t,s,h=>by
  unfold pick at h
  split at h
  ·rename_i s' hs
   rcases List.mem_cons.1 h with h|h
   ·cases h;exact⟨hs,List.mem_cons_self ..⟩
   ·exact⟨(mI h).1,List.mem_cons_of_mem _ (mI h).2⟩
  ·exact⟨(mI h).1,List.mem_cons_of_mem _ (mI h).2⟩
def tmpsOf:List Operand→List Nat
 |[]=>[]
 |.tmp t::r=>t::tmpsOf r
 |_::r=>tmpsOf r
def looks (o:Oper):List Nat:=tmpsOf o.op.operands.toList
def bound (fr:List (Nat×SV)) (dflt:Option Int):Option Operand→Option Int
 |none=>dflt
 |some x=>match ev fr x with
  |some (.val (.int _ j))=>some j
  |_=>none
theorem fc {fr:List (Nat×SV)} {d:Int} {x:Option Operand} {j:Int} (h:bound fr (some d) x=some j):x=none∧j=d∨∃y kd,x=some y∧bp fr y (.val (.int kd j)):=by
 unfold bound at h
 split at h
 ·simp only[Option.some.injEq]at h;exact .inl ⟨rfl,h.symm⟩
 ·split at h
  ·rename_i y _ kd j' hy
   simp only[Option.some.injEq]at h
   subst h
   exact .inr ⟨y,kd,rfl,ak hy⟩
  ·simp at h
def Good (P:Program) (fr:List (Nat×SV)) (hp:List (Nat×aF)) (o:Oper) (k:SV→List (Nat×aF)→List (Nat×aF)→List (Nat×aF)→Prop):Prop:=
 ∃c fk new upd,bS P o fr fk c new upd∧(∀j b,(j,b)∈fk→find hp j=some b)∧(∀j b,(j,b)∈new→find hp j=none)∧(∀j b,(j,b)∈upd→∃b0,(j,b0)∈fk∧b0.wr=true∧b0.data.live=true∧b.wr=true)∧k c fk new upd
def ZT (o:Oper) (Z:List Nat):Bool:=match o.dst with
 |some d=>Zq (700000+d) Z
 |none=>false
def exec (P:Program) (T:List (TypeId×TI)) (Z:List Nat) (fr:List (Nat×SV)) (hp:List (Nat×aF)) (o:Oper) (k:SV→List (Nat×aF)→List (Nat×aF)→List (Nat×aF)→Prop):Prop:=
 match o.op with
 |.move x=>match ev fr x with
  |some c=>k c [] [] []
  |none=>Good P fr hp o k
 |.assign x=>match ev fr x with
  |some c=>k c [] [] []
  |none=>Good P fr hp o k
 |.box e x=>match o.dst,ev fr x with
  |some d,some sv=>match ot sv,find hp d with
   |some cs,none=>match Zq d Z with
    |false=>k (.ptr d 0 0 0) [] [(d,⟨e,true,.one cs⟩)] []
    |true=>match bn cs with
     |true=>k (bE cs) [] [] []
     |false=>Good P fr hp o k
   |_,_=>Good P fr hp o k
  |_,_=>Good P fr hp o k
 |.alloc e=>match o.dst,du T e with
  |some d,some ti=>match find hp d with
   |none=>k (.ptr d 0 0 0) [] [(d,⟨e,true,.one ti.zero⟩)] []
   |some _=>Good P fr hp o k
  |_,_=>Good P fr hp o k
 |.load t x=>match ZT o Z with
  |true=>Good P fr hp o k
  |false=>match ev fr x,du T t with
  |some (.ptr key s i r),some ti=>match find hp key with
   |some blk=>match elem blk.data s i with
    |some (ob,cs)=>match sub 64 cs r ti.size,ti.size with
     |some l,_+1=>match eC ti l with
      |some c=>Rt ob <| k c [(key,blk)] [] []
      |none=>Good P fr hp o k
     |_,_=>Good P fr hp o k
    |none=>Good P fr hp o k
   |none=>Good P fr hp o k
  |some (.val _),_=>∃c fk new,bS P o fr fk c new []∧(∀j b,(j,b)∈fk→find hp j=some b)∧(∀j b,(j,b)∈new→find hp j=none)∧k c fk new []
  |_,_=>Good P fr hp o k
 |.store t x y=>match ev fr x,ev fr y,du T t with
  |some (.ptr key s i r),some sv,some ti=>match find hp key,ot sv with
   |some ⟨ty,true,d⟩,some nw=>match elem d s i with
    |some (ob,cs)=>match Nat.beq (SV.de nw) ti.size,Nat.ble (r+ti.size) (SV.de cs)with
     |true,true=>match put 64 cs r ti.size nw with
      |some cs'=>match jI d i cs' with
       |some d'=>Rt ob <| k .any [(key,⟨ty,true,d⟩)] [] [(key,⟨ty,true,d'⟩)]
       |none=>Good P fr hp o k
      |none=>Good P fr hp o k
     |_,_=>Good P fr hp o k
    |none=>Good P fr hp o k
   |_,_=>Good P fr hp o k
  |_,_,_=>Good P fr hp o k
 |.fieldAddr s x j=>match ev fr x,du T s with
  |some (.ptr key sz i r),some ⟨.agg fs,_,_,_⟩=>match fs[j]? with
   |some (off,_,_+1)=>k (.ptr key sz i (r+off)) [] [] []
   |_=>Good P fr hp o k
  |_,_=>Good P fr hp o k
 |.extract x ix=>match ev fr x with
  |some (.ck l)=>match l[ix]? with
   |some c=>match (c.bl||(ot c).isSome)with
    |true=>k c [] [] []
    |false=>Good P fr hp o k
   |none=>Good P fr hp o k
  |_=>Good P fr hp o k
 |.binOp op xt x y _=>match ev fr x,ev fr y with
  |some (.val (.int k1 a)),some (.val (.int k2 b))=>match op with
   |.shl=>0≤b∧k (.val (.int k1 (jJ k1 a b))) [] [] []
   |.shr=>0≤b∧k (.val (.int k1 (jK k1 a b))) [] [] []
   |op=>if k1=k2 then match M1 op k1 a b with
    |some (ob,v)=>Rt ob <| k (.val v) [] [] []
    |none=>Good P fr hp o k
    else Good P fr hp o k
  |some (.val (.bool a)),some (.val (.bool b))=>match du T xt with
   |some ⟨.bool,_,_,_⟩=>match op with
    |.eql=>k (.val (.bool (a==b))) [] [] []
    |.neq=>k (.val (.bool (a != b))) [] [] []
    |_=>Good P fr hp o k
   |_=>Good P fr hp o k
  |some (.val (.string a)),some (.val (.string b))=>match M4 op a b with
   |some (ob,v)=>Rt ob <| k (.val v) [] [] []
   |none=>Good P fr hp o k
  |some _,some _=>∃v,bS P o fr [] (.val v) [] []∧k (.val v) [] [] []
  |_,_=>Good P fr hp o k
 |.unOp op _ x=>match op,ev fr x with
  |.not,some (.val (.bool a))=>k (.val (.bool (!a))) [] [] []
  |.neg,some (.val (.int kd a))=>k (.val (.int kd (kd.wrap (0 - a)))) [] [] []
  |.xor,some (.val (.int kd a))=>k (.val (.int kd (yT kd (if kd.signed=true then -1 else kd.max) a))) [] [] []
  |_,_=>Good P fr hp o k
 |.convert s d x=>match ev fr x,du T s,du T d with
  |some (.val (.int k2 a)),some ⟨.int k1,_,_,_⟩,some ⟨.int kd,_,_,_⟩=>if k1=k2 then k (.val (.int kd (kd.wrap a))) [] [] []else Good P fr hp o k
  |_,_,_=>∃c fk new,bS P o fr fk c new []∧(∀j b,(j,b)∈fk→find hp j=some b)∧(∀j b,(j,b)∈new→find hp j=none)∧k c fk new []
 |.nilCheck x=>match ev fr x with
  |some (.ptr key s i r)=>k (.ptr key s i r) [] [] []
  |some (.clo f a b)=>k (.clo f a b) [] [] []
  |_=>Good P fr hp o k
 |.indexAddr t x ix=>match ev fr x,ev fr ix,du T t with
  |some (.aO key s i n),some (.val (.int _ j)),some ⟨.aO e,_,_,_⟩=>match du T e with
   |some te=>match Nat.beq te.size s with
    |true=>(0≤j∧j<(n:Int))∧k (.ptr key s (i+j.toNat) 0) [] [] []
    |false=>Good P fr hp o k
   |none=>Good P fr hp o k
  |some (.ptr key s i r),some (.val (.int _ j)),some ⟨.arr n e,_,_,_⟩=>match du T e with
   |some te=>(0≤j∧j<(n:Int))∧k (.ptr key s i (r+j.toNat*te.size)) [] [] []
   |none=>Good P fr hp o k
  |some (.val _),_,_=>∃c fk new,bS P o fr fk c new []∧(∀j b,(j,b)∈fk→find hp j=some b)∧(∀j b,(j,b)∈new→find hp j=none)∧k c fk new []
  |_,_,_=>Good P fr hp o k
 |.index t x ix=>match ev fr x,ev fr ix,du T t with
  |some (.val (.string s)),some (.val (.int _ j)),some ⟨.str,_,_,_⟩=>(0≤j∧j<(s.size:Int))∧k (.val (.int .u8 (((s.data.getD j.toNat 0).toNat:Nat):Int))) [] [] []
  |_,_,_=>∃c fk new,bS P o fr fk c new []∧(∀j b,(j,b)∈fk→find hp j=some b)∧(∀j b,(j,b)∈new→find hp j=none)∧k c fk new []
 |.slice t x lo hi none=>match bound fr (some 0) lo,ev fr x,du T t with
  |some l,some (.aO key s i n),some ⟨.aO e,_,_,_⟩=>match bound fr (some (n:Int)) hi,du T e with
   |some h,some te=>match Nat.beq te.size s with
    |true=>(0≤l∧l≤h∧h≤(n:Int))∧k (.aO key s (i+l.toNat) (h - l).toNat) [] [] []
    |false=>Good P fr hp o k
   |_,_=>Good P fr hp o k
  |some l,some (.val (.string s)),some ⟨.str,_,_,_⟩=>match bound fr (some (s.size:Int)) hi with
   |some h=>(0≤l∧l≤h∧h≤(s.size:Int))∧k (.val (.string (s.extract l.toNat h.toNat))) [] [] []
   |none=>Good P fr hp o k
  |_,_,_=>Good P fr hp o k
 |.makeSlice t x y=>match o.dst,ev fr x,ev fr y,du T t with
  |some d,some (.val (.int _ l)),some (.val (.int _ c)),some ⟨.aO e,_,_,_⟩=>match du T e,find hp d with
   |some te,none=>match wK te with
    |true=>(0≤l∧l≤c∧(te.bytes:Int)*c≤281474976710656∧c≤9223372036854775807)∧k (.aO d te.size 0 l.toNat) [] [(d,⟨e,true,rl te l.toNat⟩)] []
    |false=>Good P fr hp o k
   |_,_=>Good P fr hp o k
  |_,_,_,_=>Good P fr hp o k
 |.buildSlice t len parts=>match o.dst,gw fr parts.toList,du T t with
  |some d,some ps,some ⟨.aO e,_,_,_⟩=>match du T e,find hp d with
   |some te,none=>match jy 64 (fun i=>some (i*te.size,te.size)) (CA len te.zero) ps with
    |some l=>match Zq d Z with
     |false=>match AS te l,Nat.beq l.length len,Nat.ble (len*te.size) 16777216 with
      |some dt,true,true=>k (.aO d te.size 0 len) [] [(d,⟨e,true,dt⟩)] []
      |_,_,_=>Good P fr hp o k
     |true=>match bn l&&qw te.size l,Nat.beq l.length len,Nat.ble (len*te.size) 16777216 with
      |true,true,true=>k (eI te.size l) [] [] []
      |_,_,_=>Good P fr hp o k
    |none=>Good P fr hp o k
   |_,_=>Good P fr hp o k
  |_,_,_=>Good P fr hp o k
 |.build t parts=>match du T t,gw fr parts.toList with
  |some ⟨.agg fs,sz,by',z⟩,some ps=>match jy 64 (placesOf fs) z ps with
   |some l=>match eC ⟨.agg fs,sz,by',z⟩ l with
    |some c=>k c [] [] []
    |none=>Good P fr hp o k
   |none=>Good P fr hp o k
  |some ⟨.arr n e,sz,by',z⟩,some ps=>match du T e with
   |some te=>match jy 64 (fun i=>some (i*te.size,te.size)) z ps with
    |some l=>match eC ⟨.arr n e,sz,by',z⟩ l with
     |some c=>k c [] [] []
     |none=>Good P fr hp o k
    |none=>Good P fr hp o k
   |none=>Good P fr hp o k
  |_,_=>Good P fr hp o k
 |.call ⟨.builtin b,xs,ts⟩=>match b,xs.toList,ts.toList with
  |.len,[x],[t]=>match ev fr x,du T t with
   |some (.val (.string s)),some ⟨.str,_,_,_⟩=>k (.val (.int .i64 (s.size:Int))) [] [] []
   |some (.aO _ _ _ n),some ⟨.aO _,_,_,_⟩=>k (.val (.int .i64 (n:Int))) [] [] []
   |some (.val (.slice _ n _)),some ⟨.aO _,_,_,_⟩=>k (.val (.int .i64 (n:Int))) [] [] []
   |_,_=>Good P fr hp o k
  |.min,[x,y],_=>match ev fr x,ev fr y with
   |some (.val (.int k1 a)),some (.val (.int _ b))=>k (.val (.int k1 (if b<a then b else a))) [] [] []
   |_,_=>Good P fr hp o k
  |.max,[x,y],_=>match ev fr x,ev fr y with
   |some (.val (.int k1 a)),some (.val (.int _ b))=>k (.val (.int k1 (if b>a then b else a))) [] [] []
   |_,_=>Good P fr hp o k
  |.append,[x,y],[t,t2]=>match o.dst,ev fr x,ev fr y,du T t,du T t2 with
   |some kn,some (.aO k1 s 0 n),some (.aO k2 s2 i2 m),some ⟨.aO e,_,_,_⟩,some ⟨.aO e2,_,_,_⟩=>match Nat.beq e2 e,du T e,find hp k1,find hp k2,find hp kn with
    |true,some te,some ⟨ty,true,d⟩,some blk2,none=>match Nat.beq ty e&&(Nat.beq s te.size&&Nat.beq s2 te.size),cZ d,cZ blk2.data,oC d n blk2.data i2 m with
     |true,some wd,some wd2,some d'=>match Nat.beq wd te.size&&Nat.beq wd2 te.size with
      |true=>(n≤en d∧i2+m≤en blk2.data∧(n+m)*te.bytes≤140737488355328∧n+m≤9223372036854775807)∧k (.aO kn te.size 0 (n+m)) [(k1,⟨ty,true,d⟩),(k2,blk2)] [(kn,⟨e,true,d'⟩)] [(k1,⟨e,true,.dead⟩)]
      |false=>Good P fr hp o k
     |_,_,_,_=>Good P fr hp o k
    |_,_,_,_,_=>Good P fr hp o k
   |some kn,some (.val (.slice none 0 0)),some (.aO k2 s2 i2 m),some ⟨.aO e,_,_,_⟩,some ⟨.aO e2,_,_,_⟩=>match Nat.beq e2 e,du T e,find hp k2,find hp kn with
    |true,some te,some blk2,none=>match Nat.beq s2 te.size,cZ blk2.data,oC blk2.data 0 blk2.data i2 m with
     |true,some wd2,some d'=>match Nat.beq wd2 te.size with
      |true=>(i2+m≤en blk2.data∧m*te.bytes≤140737488355328∧m≤9223372036854775807)∧k (.aO kn te.size 0 m) [(k2,blk2)] [(kn,⟨e,true,d'⟩)] []
      |false=>Good P fr hp o k
     |_,_,_=>Good P fr hp o k
    |_,_,_,_=>Good P fr hp o k
   |_,_,_,_,_=>Good P fr hp o k
  |_,_,_=>∃c fk new upd,bS P o fr fk c new upd∧(∀j b,(j,b)∈fk→find hp j=some b)∧(∀j b,(j,b)∈new→find hp j=none)∧(∀j b,(j,b)∈upd→∃b0,(j,b0)∈fk∧b0.wr=true∧b0.data.live=true∧b.wr=true)∧k c fk new upd
 |.call ⟨.value x,xs,_⟩=>match ev fr x with
  |some (.clo f first cap)=>match IY fr xs.toList with
   |some args=>∃fk c new upd,ab P f (first++(args++cap)) fk c new upd∧(∀j b,(j,b)∈fk→find hp j=some b)∧(∀j b,(j,b)∈new→find hp j=none)∧(∀j b,(j,b)∈upd→∃b0,(j,b0)∈fk∧b0.wr=true∧b0.data.live=true∧b.wr=true)∧k c fk new upd
   |none=>Good P fr hp o k
  |some (.yld l rc us cap)=>match IY fr xs.toList with
   |some args=>∃fk c new upd,Pz P l rc us cap args fk c new upd∧(∀j b,(j,b)∈fk→find hp j=some b)∧(∀j b,(j,b)∈new→find hp j=none)∧(∀j b,(j,b)∈upd→∃b0,(j,b0)∈fk∧b0.wr=true∧b0.data.live=true∧b.wr=true)∧k c fk new upd
   |none=>Good P fr hp o k
  |_=>Good P fr hp o k
 |_=>∃c fk new upd,bS P o fr fk c new upd∧(∀j b,(j,b)∈fk→find hp j=some b)∧(∀j b,(j,b)∈new→find hp j=none)∧(∀j b,(j,b)∈upd→∃b0,(j,b0)∈fk∧b0.wr=true∧b0.data.live=true∧b.wr=true)∧k c fk new upd
theorem aM {hp:List (Nat×aF)}:∀j b,(j,b)∈([]:List (Nat×aF))→find hp j=some b:=fun _ _ h=>by cases h
theorem aA {hp:List (Nat×aF)}:∀j b,(j,b)∈([]:List (Nat×aF))→find hp j=none:=fun _ _ h=>by cases h
theorem ar {fk:List (Nat×aF)}:∀j b,(j,b)∈([]:List (Nat×aF))→∃b0:aF,(j,b0)∈fk∧b0.wr=true∧b0.data.live=true∧b.wr=true:=fun _ _ h=>by cases h
theorem dh {hp:List (Nat×aF)} {k:Nat} {b:aF} (h:find hp k=some b):∀j c,(j,c)∈[(k,b)]→find hp j=some c:=fun j c hm=>by
 simp only[List.mem_singleton,Prod.mk.injEq]at hm
 obtain⟨rfl,rfl⟩:=hm;exact h
theorem c5 {hp:List (Nat×aF)} {k:Nat} {b:aF} (h:find hp k=none):∀j c,(j,c)∈[(k,b)]→find hp j=none:=fun j c hm=>by
 simp only[List.mem_singleton,Prod.mk.injEq]at hm
 obtain⟨rfl,rfl⟩:=hm;exact h
theorem zo {P:Program} {T:List (TypeId×TI)} {Z:List Nat} (hT:ic P T) {fr:List (Nat×SV)} {hp:List (Nat×aF)} {o:Oper} {k:SV→List (Nat×aF)→List (Nat×aF)→List (Nat×aF)→Prop}
  (h:exec P T Z fr hp o k):Good P fr hp o k:=by
 unfold exec at h
 split at h
 case h_1 x ho=>
  split at h
  ·rename_i c hc
   exact⟨c,[],[],[],FV (.inl ho) (ak hc),aM,aA,ar,h⟩
  ·exact h
 case h_2 x ho=>
  split at h
  ·rename_i c hc
   exact⟨c,[],[],[],FV (.inr ho) (ak hc),aM,aA,ar,h⟩
  ·exact h
 case h_3 e x ho=>
  split at h
  ·rename_i d sv hd hsv
   split at h
   ·rename_i cs D9 hf
    split at h
    ·exact⟨_,[],_,[],Rs ho (ak hsv) D9,aM,c5 hf,ar,h⟩
    ·split at h
     ·rename_i od
      exact⟨_,[],[],[],Nd ho (ak hsv) D9 od,aM,aA,ar,h⟩
     ·exact h
   ·exact h
  ·exact h
 case h_4 e ho=>
  split at h
  ·rename_i d ti hd ru
   split at h
   ·rename_i hf
    exact⟨_,[],_,[],IX ho (hT.get ru),aM,c5 hf,ar,h⟩
   ·exact h
  ·exact h
 case h_5 t x ho=>
  split at h
  ·exact h
  split at h
  ·rename_i key s i r ti hx ru
   split at h
   ·rename_i blk gB
    split at h
    ·rename_i ob cs he
     split at h
     ·rename_i l _ hs gV
      split at h
      ·rename_i c hc
       exact⟨c,_,[],[],FX ho (ak hx) (hT.get ru) (List.mem_cons_self ..) he (cm h).1 hs aa hc,dh gB,aA,ar,(cm h).2⟩
      ·exact h
     ·exact h
    ·exact h
   ·exact h
  ·obtain⟨c,fk,new,h1,h2,h3,h4⟩:=h
   exact⟨c,fk,new,[],h1,h2,h3,ar,h4⟩
  ·exact h
 case h_6 t x y ho=>
  split at h
  ·rename_i key s i r sv ti hx hy ru
   split at h
   ·rename_i ty d nw gB hnw
    split at h
    ·rename_i ob cs he
     split at h
     ·rename_i hw hle
      split at h
      ·rename_i cs' cc
       split at h
       ·rename_i d' IT
        refine⟨.any,_,[],_,Cq ho (ak hx) (ak hy) (hT.get ru) (List.mem_cons_self ..) he (cm h).1 hnw (Nat.eq_of_beq_eq_true hw) (Nat.le_of_ble_eq_true hle) cc IT,dh gB,aA, ?_,(cm h).2⟩
        intro j b hm
        simp only[List.mem_singleton,Prod.mk.injEq]at hm
        obtain⟨rfl,rfl⟩:=hm
        exact⟨_,List.mem_cons_self ..,rfl,Hg he,rfl⟩
       ·exact h
      ·exact h
     ·exact h
    ·exact h
   ·exact h
  ·exact h
 case h_7 s x j ho=>
  split at h
  ·rename_i key sz i r fs _ _ _ hx ru
   split at h
   ·rename_i off e _ hj
    exact⟨_,[],[],[],AN ho (ak hx) (hT.get ru) rfl hj aa,aM,aA,ar,h⟩
   ·exact h
  ·exact h
 case h_8 x ix ho=>
  split at h
  ·rename_i l hx
   split at h
   ·rename_i c hc
    split at h
    ·rename_i hb
     refine⟨c,[],[],[],Ej ho (ak hx) hc ?_,aM,aA,ar,h⟩
     simpa using hb
    ·exact h
   ·exact h
  ·exact h
 case h_9 op xt x y yt ho=>
  split at h
  ·rename_i k1 a k2 b hx hy
   split at h
   ·exact⟨_,[],[],[],Rv ho (ak hx) (ak hy) h.1,aM,aA,ar,h.2⟩
   ·exact⟨_,[],[],[],Rw ho (ak hx) (ak hy) h.1,aM,aA,ar,h.2⟩
   ·split at h
    ·rename_i hk
     subst hk
     split at h
     ·rename_i ob v hv
      exact⟨_,[],[],[],M3 ho (ak hx) (ak hy) hv (cm h).1,aM,aA,ar,(cm h).2⟩
     ·exact h
    ·exact h
  ·rename_i a b hx hy
   split at h
   ·rename_i ru
    split at h
    ·exact⟨_,[],[],[],Rx ho (ak hx) (ak hy) (hT.get ru) rfl,aM,aA,ar,h⟩
    ·exact⟨_,[],[],[],Ry ho (ak hx) (ak hy) (hT.get ru) rfl,aM,aA,ar,h⟩
    ·exact h
   ·exact h
  ·rename_i a b hx hy
   split at h
   ·rename_i ob v hv
    exact⟨_,[],[],[],M5 ho (ak hx) (ak hy) hv (cm h).1,aM,aA,ar,(cm h).2⟩
   ·exact h
  ·obtain⟨v,h1,h2⟩:=h
   exact⟨_,[],[],[],h1,aM,aA,ar,h2⟩
  ·exact h
 case h_10 op xt x ho=>
  split at h
  ·rename_i a hx
   exact⟨_,[],[],[],Rz ho (ak hx),aM,aA,ar,h⟩
  ·rename_i kd a hx
   exact⟨_,[],[],[],RA ho (ak hx),aM,aA,ar,h⟩
  ·rename_i kd a hx
   exact⟨_,[],[],[],RB ho (ak hx),aM,aA,ar,h⟩
  ·exact h
 case h_11 s d x ho=>
  split at h
  ·rename_i k2 a k1 _ _ _ kd _ _ _ hx hs hd
   split at h
   ·rename_i hk
    subst hk
    exact⟨_,[],[],[],M6 ho (ak hx) (hT.get hs) (hT.get hd) rfl rfl,aM,aA,ar,h⟩
   ·exact h
  ·obtain⟨c,fk,new,h1,h2,h3,h4⟩:=h
   exact⟨c,fk,new,[],h1,h2,h3,ar,h4⟩
 case h_12 x ho=>
  split at h
  ·rename_i key s i r hx
   exact⟨_,[],[],[],Ct ho (ak hx),aM,aA,ar,h⟩
  ·rename_i f a b hx
   exact⟨_,[],[],[],AP ho (ak hx),aM,aA,ar,h⟩
  ·exact h
 case h_13 t x ix ho=>
  split at h
  ·rename_i key s i n kd j e _ _ _ hx hi ht
   split at h
   ·rename_i te hte
    split at h
    ·rename_i hs
     exact⟨_,[],[],[],AQ ho (ak hx) (ak hi) (hT.get ht) rfl (hT.get hte) (Nat.eq_of_beq_eq_true hs) h.1.1 h.1.2,aM,aA,ar,h.2⟩
    ·exact h
   ·exact h
  ·rename_i key s i r kd j n e _ _ _ hx hi ht
   split at h
   ·rename_i te hte
    exact⟨_,[],[],[],Cu ho (ak hx) (ak hi) (hT.get ht) rfl (hT.get hte) h.1.1 h.1.2,aM,aA,ar,h.2⟩
   ·exact h
  ·obtain⟨c,fk,new,h1,h2,h3,h4⟩:=h
   exact⟨c,fk,new,[],h1,h2,h3,ar,h4⟩
  ·exact h
 case h_14 t x ix ho=>
  split at h
  ·rename_i s kd j _ _ _ hx hi ht
   exact⟨_,[],[],[],Cv ho (ak hx) (ak hi) (hT.get ht) rfl h.1.1 h.1.2,aM,aA,ar,h.2⟩
  ·obtain⟨c,fk,new,h1,h2,h3,h4⟩:=h
   exact⟨c,fk,new,[],h1,h2,h3,ar,h4⟩
 case h_15 t x lo hi ho=>
  split at h
  ·rename_i l key s i n e _ _ _ hl hx ht
   split at h
   ·rename_i h' te hh hte
    split at h
    ·rename_i hs
     exact⟨_,[],[],[],I0 ho (ak hx) (fc hl) (fc hh) (hT.get ht) rfl (hT.get hte) (Nat.eq_of_beq_eq_true hs) h.1.1 h.1.2.1 h.1.2.2,aM,aA,ar,h.2⟩
    ·exact h
   ·exact h
  ·rename_i l s _ _ _ hl hx ht
   split at h
   ·rename_i h' hh
    exact⟨_,[],[],[],Cw ho (ak hx) (fc hl) (fc hh) (hT.get ht) rfl h.1.1 h.1.2.1 h.1.2.2,aM,aA,ar,h.2⟩
   ·exact h
  ·exact h
 case h_16 t x y ho=>
  split at h
  ·rename_i d kl l kc c e _ _ _ hd hx hy ht
   split at h
   ·rename_i te hte hf
    split at h
    ·rename_i hz
     exact⟨_,[],_,[],M9 ho (ak hx) (ak hy) (hT.get ht) rfl (hT.get hte) hz h.1.1 h.1.2.1 h.1.2.2.1 h.1.2.2.2,aM,c5 hf,ar,h.2⟩
    ·exact h
   ·exact h
  ·exact h
 case h_17 t len parts ho=>
  split at h
  ·rename_i d ps e _ _ _ hd iF ht
   split at h
   ·rename_i te hte hf
    split at h
    ·rename_i l hb
     split at h
     ·split at h
      ·rename_i dt hdt hlen gV
       exact⟨_,[],_,[],yU ho (hT.get ht) rfl (hT.get hte) iF hb hdt (Nat.eq_of_beq_eq_true hlen) (Nat.le_of_ble_eq_true gV),aM,c5 hf,ar,h⟩
      ·exact h
     ·split at h
      ·rename_i od hlen gV
       rw[Bool.and_eq_true]at od
       exact⟨_,[],[],[],wQ ho (hT.get ht) rfl (hT.get hte) iF hb od.1 od.2 (Nat.eq_of_beq_eq_true hlen) (Nat.le_of_ble_eq_true gV),aM,aA,ar,h⟩
      ·exact h
    ·exact h
   ·exact h
  ·exact h
 case h_18 t parts ho=>
  split at h
  ·rename_i fs sz by' z ps ht iF
   split at h
   ·rename_i l hb
    split at h
    ·rename_i c hc
     exact⟨_,[],[],[],I3 ho (hT.get ht) rfl iF hb hc,aM,aA,ar,h⟩
    ·exact h
   ·exact h
  ·rename_i n e sz by' z ps ht iF
   split at h
   ·rename_i te hte
    split at h
    ·rename_i l hb
     split at h
     ·rename_i c hc
      exact⟨_,[],[],[],Cy ho (hT.get ht) rfl (hT.get hte) iF hb hc,aM,aA,ar,h⟩
     ·exact h
    ·exact h
   ·exact h
  ·exact h
 case h_19 b xs ts ho=>
  split at h
  ·rename_i x t mr jE
   have yX:xs= #[x]:=by apply Array.ext';simpa using mr
   have Ho:ts= #[t]:=by apply Array.ext';simpa using jE
   split at h
   ·rename_i s _ _ _ hx ht
    exact⟨_,[],[],[],Em ho yX Ho (ak hx) rfl (hT.get ht) (.inl ⟨rfl,s,rfl⟩),aM,aA,ar,h⟩
   ·rename_i n e _ _ _ hx ht
    exact⟨_,[],[],[],Em ho yX Ho (ak hx) rfl (hT.get ht) (.inr ⟨⟨e,rfl⟩,fun s hs=>by cases hs⟩),aM,aA,ar,h⟩
   ·rename_i n _ e _ _ _ hx ht
    exact⟨_,[],[],[],Em ho yX Ho (ak hx) rfl (hT.get ht) (.inr ⟨⟨e,rfl⟩,fun s hs=>by cases hs⟩),aM,aA,ar,h⟩
   ·exact h
  ·rename_i x y mr
   have yX:xs= #[x,y]:=by apply Array.ext';simpa using mr
   split at h
   ·rename_i k1 a k2 b hx hy
    exact⟨_,[],[],[],RC ho yX (ak hx) (ak hy),aM,aA,ar,h⟩
   ·exact h
  ·rename_i x y mr
   have yX:xs= #[x,y]:=by apply Array.ext';simpa using mr
   split at h
   ·rename_i k1 a k2 b hx hy
    exact⟨_,[],[],[],RD ho yX (ak hx) (ak hy),aM,aA,ar,h⟩
   ·exact h
  ·rename_i x y t t2 mr jE
   have yX:xs= #[x,y]:=by apply Array.ext';simpa using mr
   have Ho:ts= #[t,t2]:=by apply Array.ext';simpa using jE
   split at h
   ·rename_i kn k1 s n k2 s2 i2 m e _ _ _ e2 _ _ _ hd hx hy ht Cg
    split at h
    ·rename_i te ty d blk2 he2 hte hb1 hb2 hbn
     split at h
     ·rename_i wd wd2 d' hc Ru nv happ
      split at h
      ·rename_i hww
       simp only[Bool.and_eq_true,Nat.beq_eq]at hc hww
       obtain⟨rfl,rfl,rfl⟩:=hc
       obtain⟨rfl,rfl⟩:=hww
       have RK:=Nat.eq_of_beq_eq_true he2
       subst RK
       have eR:d.live=true:=by cases d<;>simp[cZ]at Ru<;>rfl
       have iC:blk2.data.live=true:=by cases hq:blk2.data<;>rw[hq]at nv<;>simp[cZ]at nv<;>rfl
       refine⟨_,_,_,_,Hh ho yX Ho (ak hx) (ak hy) (hT.get ht) rfl (hT.get Cg) rfl (hT.get hte) (List.mem_cons_self ..) (List.mem_cons_of_mem _ (List.mem_cons_self ..)) eR iC Ru nv h.1.1 h.1.2.1 happ h.1.2.2.1 h.1.2.2.2, ?_,c5 hbn, ?_,h.2⟩
       ·intro j b hm
        simp only[List.mem_cons,Prod.mk.injEq,List.not_mem_nil,or_false]at hm
        rcases hm with⟨rfl,rfl⟩|⟨rfl,rfl⟩
        ·exact hb1
        ·exact hb2
       ·intro j b hm
        simp only[List.mem_singleton,Prod.mk.injEq]at hm
        obtain⟨rfl,rfl⟩:=hm
        exact⟨_,List.mem_cons_self ..,rfl,eR,rfl⟩
      ·exact h
     ·exact h
    ·exact h
   ·rename_i kn k2 s2 i2 m e _ _ _ e2 _ _ _ hd hx hy ht Cg
    split at h
    ·rename_i te blk2 he2 hte hb2 hbn
     split at h
     ·rename_i wd2 d' hc nv happ
      split at h
      ·rename_i hww
       have om:=Nat.eq_of_beq_eq_true hc
       subst om
       have ads:=Nat.eq_of_beq_eq_true hww
       subst ads
       have RK:=Nat.eq_of_beq_eq_true he2
       subst RK
       have iC:blk2.data.live=true:=by cases hq:blk2.data<;>rw[hq]at nv<;>simp[cZ]at nv<;>rfl
       exact⟨_,_,_,[],yW ho yX Ho (ak hx) (ak hy) (hT.get ht) rfl (hT.get Cg) rfl (hT.get hte) (List.mem_cons_self ..) iC nv h.1.1 happ h.1.2.1 h.1.2.2,dh hb2,c5 hbn,ar,h.2⟩
      ·exact h
     ·exact h
    ·exact h
   ·exact h
  ·exact h
 case h_20 x xs ts ho=>
  split at h
  ·rename_i f first cap hx
   split at h
   ·rename_i args zk
    obtain⟨fk,c,new,upd,h1,h2,h3,h4,h5⟩:=h
    exact⟨c,fk,new,upd,M7 ho hx zk h1,h2,h3,h4,h5⟩
   ·exact h
  ·rename_i l rc us cap hx
   split at h
   ·rename_i args zk
    obtain⟨fk,c,new,upd,h1,h2,h3,h4,h5⟩:=h
    exact⟨c,fk,new,upd,IZ ho hx zk h1,h2,h3,h4,h5⟩
   ·exact h
  ·exact h
 case h_21=>exact h
end Go.Sx
