/- The texts SxA, SxZ, SxB, SxC, SxD, SxE, SxF, SxJ, SxK, SxL, SxM, SxQ, SxG. -/
import Derived.OrdersIn
import Derived.TacticsIn
import Derived.Below
import Derived.Laws.Rows
import Derived.RangeFuncLeaves
import Derived.RangeFuncRecord
import Derived.RangeFuncNested
import Derived.Laws.CopyRow
import Derived.Laws.Tables
import Derived.Laws.StructEq
import Derived.Laws.Small
import Derived.Laws.NewBlocks
import Derived.Laws.Concat
import Derived.Laws.MakeOwn
import Derived.Laws.BytesString
import Derived.Laws.Append
namespace Go.Sx
structure StepA (L V:Type) where
 rd:L→Bool
 wr:L→Bool
 val:L→V
def StepA.ap {L V:Type} (σ:StepA L V) (s:L→V):L→V:=fun l=>if σ.wr l then σ.val l else s l
def StepA.conf {L V:Type} (σ τ:StepA L V):Prop:=∃l,(σ.wr l=true∧(τ.rd l=true∨τ.wr l=true))∨(σ.rd l=true∧τ.wr l=true)
inductive Waits (ops:Array Oper):Nat→Nat→Prop
 |one {j:Nat} {o:Oper} {e:Edge} (ho:ops[j]? =some o) (he:e∈o.after) (hb:Region.binds .any e=true):Waits ops j e.on
 |trans {j k i:Nat} (h:Waits ops j k) (h':Waits ops k i):Waits ops j i
section
variable {L V:Type} (steps:Nat→StepA L V) (s0:L→V)
def sx (X:Nat→Bool):Nat→(L→V)
 |0=>s0
 |n+1=>if X n then(steps n).ap (sx X n)else sx X n
theorem sx_all {X:Nat→Bool} {l:L}:∀m,(∀j,j<m→(steps j).wr l=true→X j=true)→sx steps s0 X m l=sx steps s0 (fun _=>true) m l
 |0,_=>rfl
 |m+1,h=>by
  have ih:=sx_all m (fun j hj=>h j (by omega))
  simp only[sx,if_true]
  by_cases hx:X m=true
  ·simp only[hx,if_true,StepA.ap];rw[ih]
  ·simp only[hx]
   have hw:(steps m).wr l≠true:=fun hw=>hx (h m (by omega) hw)
   simp only[StepA.ap,hw,if_false,Bool.false_eq_true];exact ih
theorem sx_none {X:Nat→Bool} {l:L} (m:Nat):∀n,m≤n→(∀j,m≤j→j<n→(steps j).wr l=true→X j=false)→sx steps s0 X n l=sx steps s0 X m l
 |0,hm,_=>by obtain rfl:m=0:=by omega
             rfl
 |n+1,hm,h=>by
  by_cases hmn:m=n+1
  ·subst hmn;rfl
  ·have ih:=sx_none m n (by omega) (fun j h1 h2=>h j h1 (by omega))
   simp only[sx]
   by_cases hx:X n=true
   ·simp only[hx,if_true,StepA.ap]
    have hw:(steps n).wr l≠true:=fun hw=>by have:=h n (by omega) (by omega) hw;rw[hx]at this;cases this
    simp only[hw,if_false,Bool.false_eq_true];exact ih
   ·simp only[hx];exact ih
theorem sx_congr {X Y:Nat→Bool} {l:L}:∀n,(∀j,j<n→(steps j).wr l=true→X j=Y j)→sx steps s0 X n l=sx steps s0 Y n l
 |0,_=>rfl
 |n+1,h=>by
  have ih:=sx_congr n (fun j hj=>h j (by omega))
  simp only[sx]
  by_cases hw:(steps n).wr l=true
  ·rw[h n (by omega) hw]
   split
   ·simp only[StepA.ap,hw,if_true]
   ·exact ih
  ·have e:∀(b:Bool) (f:L→V),(if b then(steps n).ap f else f) l=f l:=by
    intro b f
    cases b
    ·rfl
    ·simp only[if_true,StepA.ap,hw,if_false,Bool.false_eq_true]
   rw[e,e];exact ih
end
theorem filter_lt {p q:Nat→Bool} {i:Nat}:∀l:List Nat,i∈l→p i=true→(∀j,q j=(p j&& !(j==i)))→(l.filter q).length<(l.filter p).length:=by
 have hle:∀l:List Nat,(∀j,q j=(p j&& !(j==i)))→(l.filter q).length≤(l.filter p).length:=by
  intro l hq
  induction l with
  |nil=>simp
  |cons a l ih=>
   simp only[List.filter_cons,hq a]
   cases p a<;>cases (a==i)<;>simp<;>omega
 intro l hi hp hq
 induction l with
 |nil=>cases hi
 |cons a l ih=>
  by_cases ha:a=i
  ·subst ha
   have:=hle l hq
   simp only[List.filter_cons,hq a,hp]
   simp
   omega
  ·have hm:i∈l:=by
    rcases List.mem_cons.1 hi with h|h
    ·exact absurd h.symm ha
    ·exact h
   have:=ih hm
   simp only[List.filter_cons,hq a]
   have hb:(a==i)=false:=by simpa using ha
   rw[hb]
   cases p a<;>simp<;>omega
section
variable {L V:Type} {F:Fence} {nf:Nat} {P:Program} {ops:Array Oper} {Q:Exit→Act→World→Prop} {Rel:(L→V)→Act→World→Prop} {steps:Nat→StepA L V} {s0:L→V}
def isListed (listed:Array Bool):Nat→Bool:=fun j=>listed.getD j false
theorem any_order_aux
  (hexec:∀i,i<ops.size→∀s',(∀l,((steps i).rd l=true∨(steps i).wr l=true)→s' l=sx steps s0 (fun _=>true) i l)→∀a w,Rel s' a w→wpOpIn F nf P ops Q i (Rel ((steps i).ap s')) a w)
  (hconf:∀i j,i<j→j<ops.size→(steps i).conf (steps j)→Waits ops j i)
  (hedge:∀(i:Nat) (o:Oper),ops[i]? =some o→∀e∈o.after,Region.binds .any e=true→e.on<i)
  (hfin:∀a w,Rel (sx steps s0 (fun _=>true) ops.size) a w→Q .normal a w):
  ∀(fuel:Nat) (listed:Array Bool),listed.size=ops.size→
   (∀j,isListed listed j=true→∀i,Waits ops j i→isListed listed i=true)→
   ((List.range ops.size).filter (fun j=> !isListed listed j)).length≤fuel→
   ∀a w,Rel (sx steps s0 (isListed listed) ops.size) a w→wpAnyIn F nf P .any ops Q fuel listed a w:=by
 have hready:∀listed:Array Bool,listed.size=ops.size→Region.ready .any ops listed=[]→∀j,j<ops.size→isListed listed j=true:=by
  intro listed hsz hr j
  induction j using Nat.strongRecOn with
  |_ j ih=>
   intro hj
   refine Classical.byContradiction fun hn=> ?_
   have hmem:j∈Region.ready .any ops listed:=by
    rw[mem_ready]
    refine⟨?_,ops[j],by simp[hj],fun e he hb=> ?_⟩
    ·have hl:j<listed.size:=by omega
     simp only[isListed,Bool.not_eq_true]at hn
     simpa [hl]using hn
    ·have hlt:=hedge j ops[j] (by simp[hj]) e he hb
     exact ih e.on hlt (by omega)
   rw[hr]at hmem
   cases hmem
 have hdone:∀listed:Array Bool,listed.size=ops.size→Region.ready .any ops listed=[]→∀a w,Rel (sx steps s0 (isListed listed) ops.size) a w→Q .normal a w:=by
  intro listed hsz hr a w hR
  refine hfin a w ?_
  have:sx steps s0 (isListed listed) ops.size=sx steps s0 (fun _=>true) ops.size:=by
   funext l
   exact sx_all steps s0 _ (fun j hj _=>hready listed hsz hr j hj)
  rwa [←this]
 intro fuel
 induction fuel with
 |zero=>
  intro listed hsz hcl hcount a w hR
  have hr:Region.ready .any ops listed=[]:=by
   refine List.eq_nil_iff_forall_not_mem.2 fun j hj=> ?_
   rw[mem_ready]at hj
   obtain⟨h0,o,ho,_⟩:=hj
   have hlt:j<ops.size:=by
    rcases Nat.lt_or_ge j ops.size with h|h
    ·exact h
    ·simp[Array.getElem?_eq_none h]at ho
   have:j∈(List.range ops.size).filter (fun j=> !isListed listed j):=by
    simp only[List.mem_filter,List.mem_range,isListed,Bool.not_eq_true']
    refine⟨hlt, ?_⟩
    have hl:j<listed.size:=by omega
    simpa [hl]using h0
   have:=List.length_pos_of_mem this
   omega
  exact⟨hr,hdone listed hsz hr a w hR⟩
 |succ fuel ih=>
  intro listed hsz hcl hcount a w hR
  refine⟨fun hr=>hdone listed hsz hr a w hR,fun i hi=> ?_⟩
  have hmr:=mem_ready.1 hi
  obtain⟨h0,o,ho,hall⟩:=hmr
  have hlt:i<ops.size:=by
   rcases Nat.lt_or_ge i ops.size with h|h
   ·exact h
   ·simp[Array.getElem?_eq_none h]at ho
  have hl:i<listed.size:=by omega
  have hnot:isListed listed i=false:=by
   simp only[isListed];simpa [hl]using h0
  have hwaits:∀j k,Waits ops j k→(j=i∨isListed listed j=true)→isListed listed k=true:=by
   intro j k hw
   induction hw with
   |@one j o' e ho' he hb=>
    rintro(rfl|hj)
    ·rw[ho]at ho';cases ho';exact hall e he hb
    ·exact hcl j hj _ (.one ho' he hb)
   |trans h h' ih1 ih2=>exact fun hj=>ih2 (.inr (ih1 hj))
  have hbefore:∀j,j<i→(steps j).conf (steps i)→isListed listed j=true:=fun j hj hc=>hwaits i j (hconf j i hj hlt hc) (.inl rfl)
  have hafter:∀j,i<j→j<ops.size→(steps i).conf (steps j)→isListed listed j=false:=by
   intro j hj hjn hc
   cases hjl:isListed listed j with
   |false=>rfl
   |true=>
    have:=hcl j hjl i (hconf i j hj hjn hc)
    rw[hnot]at this;cases this
  have hfoot:∀l,((steps i).rd l=true∨(steps i).wr l=true)→sx steps s0 (isListed listed) ops.size l=sx steps s0 (fun _=>true) i l:=by
   intro l hl'
   rw[sx_none steps s0 i ops.size (by omega) (fun j h1 h2 hw=> ?_),sx_all steps s0 i (fun j hj hw=>hbefore j hj ⟨l,.inl ⟨hw,hl'⟩⟩)]
   rcases Nat.lt_or_ge i j with h|h
   ·refine hafter j h h2 ⟨l, ?_⟩
    rcases hl' with h3|h3
    ·exact .inr ⟨h3,hw⟩
    ·exact .inl ⟨h3,.inr hw⟩
   ·obtain rfl:i=j:=by omega
    exact hnot
  have hstep:=hexec i hlt _ hfoot a w hR
  refine wpOpIn_mono (fun a' w' hR'=> ?_) hstep
  have hX:∀j,isListed (listed.setIfInBounds i true) j=(if j=i then true else isListed listed j):=by
   intro j
   by_cases hji:j=i
   ·subst hji;simp[isListed,hl]
   ·rw[if_neg hji];exact getD_set_ne false (fun h=>hji h.symm)
  refine ih _ (by simpa using hsz) ?_ ?_ a' w' ?_
  ·intro j hj k hw
   rw[hX]at hj ⊢
   split
   ·rfl
   ·by_cases hji:j=i
    ·exact hwaits j k hw (.inl hji)
    ·rw[if_neg hji]at hj;exact hcl j hj k hw
  ·have:=filter_lt (p:=fun j=> !isListed listed j) (q:=fun j=> !isListed (listed.setIfInBounds i true) j) (i:=i) (List.range ops.size) (by simpa using hlt) (by simp[hnot]) (fun j=>by
    rw[hX]
    by_cases hji:j=i<;>simp[hji])
   omega
  ·have:sx steps s0 (isListed (listed.setIfInBounds i true)) ops.size=(steps i).ap (sx steps s0 (isListed listed) ops.size):=by
    funext l
    by_cases hw:(steps i).wr l=true
    ·rw[sx_none steps s0 (i+1) ops.size (by omega) (fun j h1 h2 hwj=> ?_)]
     ·simp[sx,hX,StepA.ap,hw]
     ·rw[hX,if_neg (by omega)]
      exact hafter j (by omega) h2 ⟨l,.inl ⟨hw,.inr hwj⟩⟩
    ·simp only[StepA.ap,hw,if_false,Bool.false_eq_true]
     refine sx_congr steps s0 _ fun j _ hwj=> ?_
     rw[hX,if_neg]
     rintro rfl
     exact hw hwj
   rw[this]
   exact hR'
theorem any_order {id:Nat} (hm:P.follows .mixedOrders=true)
  (hexec:∀i,i<ops.size→∀s',(∀l,((steps i).rd l=true∨(steps i).wr l=true)→s' l=sx steps s0 (fun _=>true) i l)→∀a w,Rel s' a w→wpOpIn F nf P ops Q i (Rel ((steps i).ap s')) a w)
  (hconf:∀i j,i<j→j<ops.size→(steps i).conf (steps j)→Waits ops j i)
  (hedge:∀(i:Nat) (o:Oper),ops[i]? =some o→∀e∈o.after,Region.binds .any e=true→e.on<i)
  (hfin:∀a w,Rel (sx steps s0 (fun _=>true) ops.size) a w→Q .normal a w)
  (a:Act) (w:World) (h:Rel s0 a {w with drawn:=w.drawn+1}):(Code.region id ops true).wpIn F nf P Q a w:=by
 refine wpIn_region_any hm (any_order_aux hexec hconf hedge hfin _ _ (by simp) ?_ ?_ a _ ?_)
 ·intro j hj
  exfalso
  revert hj
  simp only[isListed,Array.getD_eq_getD_getElem?,Array.getElem?_replicate]
  split<;>simp
 ·refine Nat.le_trans (List.length_filter_le _ _) (by simp)
 ·have:sx steps s0 (isListed (Array.replicate ops.size false)) ops.size=s0:=by
   funext l
   refine sx_none steps s0 0 ops.size (by omega) (fun j _ _ _=> ?_)
   simp only[isListed,Array.getD_eq_getD_getElem?,Array.getElem?_replicate]
   split<;>simp
  rw[this]
  exact h
end
end Go.Sx
namespace Go.Sx
def globTabs:List (Nat×IntKind×List Int):=[]
def globOK (imm:Nat→Option Obj):Prop:=∀g kd l,(g,kd,l)∈globTabs→∃o,imm g=some o∧(∀w:World,w.heap[g]? =some o→∀j x,l[j]? =some x→w.cell? ⟨g,j,none⟩=some (.int kd x))∧∃ty fz,o= .cells (l.map fun x=>Value.int kd x).toArray ty fz
def TabsW (W:World):Prop:=∀g kd l,(g,kd,l)∈globTabs→l≠[]∧(∀j x,l[j]? =some x→W.cell? ⟨g,j,none⟩=some (.int kd x))∧∃ty fz,W.heap[g]? =some (.cells (l.map fun x=>Value.int kd x).toArray ty fz)
end Go.Sx
namespace Go.Sx
def wordsFuel:Nat→Nat→List Nat
 |0,_=>[]
 |f+1,n=>if n=0 then[]else n % 4294967296::wordsFuel f (n/4294967296)
def words (n:Nat):List Nat:=wordsFuel n n
def wordBytes (w:Nat):List UInt8:=[UInt8.ofNat w,UInt8.ofNat (w/256),UInt8.ofNat (w/65536),UInt8.ofNat (w/16777216)]
def low (n:Nat):Int:=if n<18446744073709551616 then(n:Int)else 0
def big (n:Nat):ByteArray:=if n<18446744073709551616 then ByteArray.empty else⟨((words n).flatMap wordBytes).toArray⟩
def natCells (n:Nat):List Value:=[.int .u64 (low n),.string (big n)]
def intCells (z:Int):List Value:=natCells z.natAbs++[.bool (decide (z<0))]
def fracCells (q:Rat):List Value:=intCells q.num++natCells (q.den - 1)
structure Rho where
 key:Nat→Option (Nat×Nat)
 imm:Nat→Option Obj
 glob:globOK imm
structure Rho.Le (ρ ρ':Rho):Prop where
 key:∀k x,ρ.key k=some x→ρ'.key k=some x
 imm:∀b o,ρ.imm b=some o→ρ'.imm b=some o
theorem Rho.Le.refl (ρ:Rho):ρ.Le ρ:=⟨fun _ _ h=>h,fun _ _ h=>h⟩
theorem Rho.Le.trans {ρ σ τ:Rho} (h:ρ.Le σ) (h':σ.Le τ):ρ.Le τ:=⟨fun k x hx=>h'.key k x (h.key k x hx),fun b o ho=>h'.imm b o (h.imm b o ho)⟩
structure Pred where
 h:(Nat→Option Obj)→List Value→Prop
 mono:∀i i' vs,(∀b o,i b=some o→i' b=some o)→h i vs→h i' vs
 width:Nat
 len:∀i vs,h i vs→vs.length=width∧∀v∈vs,v.oneCell'=true
 bare:Bool
 bareLen:bare=true→width=1
inductive SV where
 |any
 |val (v:Value)
 |ptr (k s i r:Nat)
 |slc (k s i n:Nat)
 |nat (n:Nat)
 |int (z:Int)
 |frac (q:Rat)
 |atom (p:Pred)
 |agg (cs:List SV)
 |tup (vs:List SV)
 |clo (f:FuncId) (first cap:List SV)
  |yld (k:Nat) (rc:Loop) (ts:List Nat) (cap:List SV)
  |mp (k:Nat)
def SV.isOne:SV→Bool
 |.any|.val _|.ptr .. |.slc .. |.clo .. |.yld .. |.mp _=>true
 |.atom p=>p.bare
 |_=>false
mutual
def SV.width:SV→Nat
 |.any|.val _|.ptr .. |.slc .. |.clo .. |.yld .. |.mp _=>1
 |.nat _=>2
 |.int _=>3
 |.frac _=>5
 |.atom p=>p.width
 |.agg cs=>SV.widthL cs
 |.tup _=>0
def SV.widthL:List SV→Nat
 |[]=>0
 |c::l=>SV.width c+SV.widthL l
end
def mkV (c:SV) (cells:List Value):Value:=if c.isOne then cells.headD undef else .agg cells.toArray
mutual
def HasC (ρ:Rho):SV→List Value→Prop
 |.any,vs=>∃v,vs=[v]∧v.oneCell'=true
 |.val v,vs=>vs=[v]∧v.oneCell'=true
 |.ptr k s i r,vs=>∃b t,ρ.key k=some (b,t)∧vs=[.pointer (some ⟨b,i*s+r,none⟩)]
 |.slc k s i n,vs=>(∃b t cap,ρ.key k=some (b,t)∧n≤cap∧(i+cap)*s≤t∧vs=[.slice (some ⟨b,i*s,none⟩) n cap])∨(n=0∧∃a,vs=[.slice a 0 0])
 |.nat n,vs=>vs=natCells n
 |.int z,vs=>vs=intCells z
 |.frac q,vs=>vs=fracCells q
 |.atom p,vs=>p.h ρ.imm vs
 |.agg cs,vs=>∃z,HasZ ρ cs z∧vs=z.flatten
 |.tup _,_=>False
 |.clo f first cap,vs=>∃fz cz,HasZ ρ first fz∧HasZ ρ cap cz∧vs=[.func (.func f) (List.zipWith mkV first fz).toArray (List.zipWith mkV cap cz).toArray]
 |.yld k rc ts cap,vs=>∃l t,ρ.key k=some (l,t)∧vs=[.func (.yield l) #[] #[]]∧∃z,HasZ ρ cap z∧List.zipWith mkV cap z=ts.map fun t=>rc.tmps.getD t undef
 |.mp k,vs=>∃b t,ρ.key k=some (b,t)∧vs=[.map (some b)]
def HasZ (ρ:Rho):List SV→List (List Value)→Prop
 |[],z=>z=[]
 |c::l,z=>∃x r,z=x::r∧HasC ρ c x∧HasZ ρ l r
end
def Has (ρ:Rho):SV→Value→Prop
 |.any,_=>True
 |.tup l,v=>∃z,HasZ ρ l z∧v= .tuple (List.zipWith mkV l z).toArray
 |c,v=>∃x,HasC ρ c x∧v=mkV c x
mutual
theorem HasC.mono {ρ ρ':Rho} (h:ρ.Le ρ'):∀(c:SV) (vs:List Value),HasC ρ c vs→HasC ρ' c vs
 |.any,_,hc=>by simpa only[HasC]using hc
 |.val _,_,hc=>by simpa only[HasC]using hc
 |.ptr k s i r,_,hc=>by
  simp only[HasC]at hc ⊢
  obtain⟨b,t,h1,h2⟩:=hc
  exact⟨b,t,h.key _ _ h1,h2⟩
 |.slc k s i n,_,hc=>by
  simp only[HasC]at hc ⊢
  rcases hc with⟨b,t,cap,h1,h2⟩|hc
  ·exact .inl ⟨b,t,cap,h.key _ _ h1,h2⟩
  ·exact .inr hc
 |.nat _,_,hc=>by simpa only[HasC]using hc
 |.int _,_,hc=>by simpa only[HasC]using hc
 |.frac _,_,hc=>by simpa only[HasC]using hc
 |.atom p,_,hc=>by simp only[HasC]at hc ⊢;exact p.mono _ _ _ h.imm hc
 |.agg cs,_,hc=>by
  simp only[HasC]at hc ⊢
  obtain⟨z,h1,h2⟩:=hc
  exact⟨z,HasZ.mono h cs z h1,h2⟩
 |.tup _,_,hc=>by simp only[HasC]at hc
 |.clo f first cap,_,hc=>by
  simp only[HasC]at hc ⊢
  obtain⟨fz,cz,h1,h2,h3⟩:=hc
  exact⟨fz,cz,HasZ.mono h first fz h1,HasZ.mono h cap cz h2,h3⟩
 |.yld k rc ts cap,_,hc=>by
  simp only[HasC]at hc ⊢
  obtain⟨l,t,h1,h2,z,h3,h4⟩:=hc
  exact⟨l,t,h.key _ _ h1,h2,z,HasZ.mono h cap z h3,h4⟩
 |.mp k,_,hc=>by
  simp only[HasC]at hc ⊢
  obtain⟨b,t,h1,h2⟩:=hc
  exact⟨b,t,h.key _ _ h1,h2⟩
theorem HasZ.mono {ρ ρ':Rho} (h:ρ.Le ρ'):∀(l:List SV) (z:List (List Value)),HasZ ρ l z→HasZ ρ' l z
 |[],_,hz=>by simpa only[HasZ]using hz
 |c::l,_,hz=>by
  simp only[HasZ]at hz ⊢
  obtain⟨x,r,h1,h2,h3⟩:=hz
  exact⟨x,r,h1,HasC.mono h c x h2,HasZ.mono h l r h3⟩
end
theorem Has.mono {ρ ρ':Rho} (h:ρ.Le ρ') (c:SV) (v:Value) (hc:Has ρ c v):Has ρ' c v:=by
 cases c<;>simp only[Has]at hc ⊢
 case tup l=>obtain⟨z,h1,h2⟩:=hc;exact⟨z,HasZ.mono h _ _ h1,h2⟩
 all_goals (obtain⟨x,h1,h2⟩:=hc;exact⟨x,HasC.mono h _ _ h1,h2⟩)
theorem natCells_one (n:Nat):(natCells n).length=2∧∀v∈natCells n,v.oneCell'=true:=by simp[natCells,Value.oneCell']
theorem intCells_one (z:Int):(intCells z).length=3∧∀v∈intCells z,v.oneCell'=true:=by simp[intCells,natCells,Value.oneCell']
theorem fracCells_one (q:Rat):(fracCells q).length=5∧∀v∈fracCells q,v.oneCell'=true:=by simp[fracCells,intCells,natCells,Value.oneCell']
mutual
theorem HasC.len {ρ:Rho}:∀(c:SV) (vs:List Value),HasC ρ c vs→vs.length=c.width∧∀v∈vs,v.oneCell'=true
 |.any,_,hc=>by simp only[HasC]at hc;obtain⟨v,rfl,h⟩:=hc;simp[SV.width,h]
 |.val _,_,hc=>by simp only[HasC]at hc;obtain⟨rfl,h⟩:=hc;simp[SV.width,h]
 |.ptr ..,_,hc=>by simp only[HasC]at hc;obtain⟨b,t,_,rfl⟩:=hc;simp[SV.width,Value.oneCell']
 |.slc ..,_,hc=>by
  simp only[HasC]at hc
  rcases hc with⟨b,t,cap,_,_,_,rfl⟩|⟨_,a,rfl⟩<;>simp[SV.width,Value.oneCell']
 |.nat n,_,hc=>by simp only[HasC]at hc;subst hc;exact natCells_one n
 |.int z,_,hc=>by simp only[HasC]at hc;subst hc;exact intCells_one z
 |.frac q,_,hc=>by simp only[HasC]at hc;subst hc;exact fracCells_one q
 |.atom p,_,hc=>by simp only[HasC]at hc;exact p.len _ _ hc
 |.agg cs,_,hc=>by
  simp only[HasC]at hc
  obtain⟨z,h1,rfl⟩:=hc
  exact HasZ.len cs z h1
 |.tup _,_,hc=>by simp only[HasC]at hc
 |.clo ..,_,hc=>by simp only[HasC]at hc;obtain⟨fz,cz,_,_,rfl⟩:=hc;simp[SV.width,Value.oneCell']
 |.yld ..,_,hc=>by simp only[HasC]at hc;obtain⟨_,_,_,rfl,_⟩:=hc;simp[SV.width,Value.oneCell']
 |.mp _,_,hc=>by simp only[HasC]at hc;obtain⟨_,_,_,rfl⟩:=hc;simp[SV.width,Value.oneCell']
theorem HasZ.len {ρ:Rho}:∀(l:List SV) (z:List (List Value)),HasZ ρ l z→z.flatten.length=SV.widthL l∧∀v∈z.flatten,v.oneCell'=true
 |[],_,hz=>by simp only[HasZ]at hz;subst hz;simp[SV.widthL]
 |c::l,_,hz=>by
  simp only[HasZ]at hz
  obtain⟨x,r,rfl,h2,h3⟩:=hz
  obtain⟨a1,a2⟩:=HasC.len c x h2
  obtain⟨b1,b2⟩:=HasZ.len l r h3
  refine⟨by simp[SV.widthL,a1,b1],fun v hv=> ?_⟩
  simp only[List.flatten_cons,List.mem_append]at hv
  exact hv.elim (a2 v) (b2 v)
end
mutual
def keyless:SV→Bool
 |.any|.val _|.nat _|.int _|.frac _|.atom _=>true
 |.ptr .. |.slc .. |.yld .. |.mp _=>false
 |.agg cs=>keylessL cs
 |.tup vs=>keylessL vs
 |.clo _ a b=>keylessL a&&keylessL b
def keylessL:List SV→Bool
 |[]=>true
 |c::l=>keyless c&&keylessL l
end
mutual
theorem keyless_has {ρ ρ':Rho} (h:∀b o,ρ.imm b=some o→ρ'.imm b=some o):∀(c:SV) (x:List Value),keyless c=true→HasC ρ c x→HasC ρ' c x
 |.any,_,_,hc=>by simpa only[HasC]using hc
 |.val _,_,_,hc=>by simpa only[HasC]using hc
 |.nat _,_,_,hc=>by simpa only[HasC]using hc
 |.int _,_,_,hc=>by simpa only[HasC]using hc
 |.frac _,_,_,hc=>by simpa only[HasC]using hc
 |.atom p,_,_,hc=>by simp only[HasC]at hc ⊢;exact p.mono _ _ _ h hc
 |.ptr ..,_,hk,_=>by simp[keyless]at hk
 |.slc ..,_,hk,_=>by simp[keyless]at hk
 |.yld ..,_,hk,_=>by simp[keyless]at hk
 |.mp _,_,hk,_=>by simp[keyless]at hk
 |.agg cs,_,hk,hc=>by
  simp only[HasC]at hc ⊢
  obtain⟨z,h1,h2⟩:=hc
  exact⟨z,keylessL_has h cs z (by simpa [keyless]using hk) h1,h2⟩
 |.tup _,_,_,hc=>by simp only[HasC]at hc
 |.clo f a b,_,hk,hc=>by
  simp only[HasC]at hc ⊢
  simp only[keyless,Bool.and_eq_true]at hk
  obtain⟨fz,cz,h1,h2,h3⟩:=hc
  exact⟨fz,cz,keylessL_has h a fz hk.1 h1,keylessL_has h b cz hk.2 h2,h3⟩
theorem keylessL_has {ρ ρ':Rho} (h:∀b o,ρ.imm b=some o→ρ'.imm b=some o):∀(l:List SV) (z:List (List Value)),keylessL l=true→HasZ ρ l z→HasZ ρ' l z
 |[],_,_,hz=>by simpa only[HasZ]using hz
 |c::l,_,hk,hz=>by
  simp only[HasZ]at hz ⊢
  simp only[keylessL,Bool.and_eq_true]at hk
  obtain⟨x,r,h1,h2,h3⟩:=hz
  exact⟨x,r,h1,keyless_has h c x hk.1 h2,keylessL_has h l r hk.2 h3⟩
end
theorem keyless_has' {ρ ρ':Rho} (h:∀b o,ρ.imm b=some o→ρ'.imm b=some o) (c:SV) (v:Value) (hk:keyless c=true) (hc:Has ρ c v):Has ρ' c v:=by
 cases c<;>simp only[Has]at hc ⊢
 case tup l=>obtain⟨z,h1,h2⟩:=hc;exact⟨z,keylessL_has h l z (by simpa [keyless]using hk) h1,h2⟩
 all_goals (obtain⟨x,h1,h2⟩:=hc;exact⟨x,keyless_has h _ _ hk h1,h2⟩)
theorem globOK.mono {i i':Nat→Option Obj} (h:∀b o,i b=some o→i' b=some o) (g:globOK i):globOK i':=fun n kd l hm=>by
 obtain⟨o,h1,h2⟩:=g n kd l hm
 exact⟨o,h _ _ h1,h2⟩
def bareR (imm:Nat→Option Obj) (h:globOK imm):Rho:=⟨fun _=>none,imm,h⟩
theorem bareR_le {i i':Nat→Option Obj} (h:∀b o,i b=some o→i' b=some o) (g:globOK i) (g':globOK i'):(bareR i g).Le (bareR i' g'):=⟨(fun k x hx=>by cases hx),h⟩
theorem bareR_up (ρ:Rho) (g:globOK ρ.imm):(bareR ρ.imm g).Le ρ:=⟨(fun k x hx=>by cases hx),fun _ _ h=>h⟩
inductive Data where
 |one (cs:List SV)
 |ints (kd:IntKind) (xs:List Int)
 |fracs (xs:List Rat)
 |seq (w:Nat) (xs:List SV)
 |dead
  |loop (rc:Loop)
  |mp (l:List (Value×Value))
  |mit (k:Nat) (seen:List Nat) (c:Nat)
def entriesFrom:Nat→List (Value×Value)→List MapEntry
 |_,[]=>[]
 |n,(k,v)::r=>⟨k,v,n⟩::entriesFrom (n+1) r
def entries (l:List (Value×Value)):Array MapEntry:=(entriesFrom 0 l).toArray
def DataC (ρ:Rho):Data→List Value→Prop
 |.one cs,vs=>∃z,HasZ ρ cs z∧vs=z.flatten
 |.ints kd xs,vs=>vs=xs.map (.int kd)
 |.fracs xs,vs=>vs=xs.flatMap fracCells
 |.seq w xs,vs=>∃z,HasZ (bareR ρ.imm ρ.glob) xs z∧vs=z.flatten∧∀x∈xs,x.width=w
 |.dead,_=>False
 |.loop _,vs=>vs=[]
 |.mp _,vs=>vs=[]
 |.mit k _ _,vs=>vs=[]∧∃b t,ρ.key k=some (b,t)
def Data.empty:Data→Prop
 |.ints _ xs=>xs=[]
 |.fracs xs=>xs=[]
 |.seq _ xs=>xs=[]
 |.one _=>False
 |.dead=>False
 |.loop _=>False
 |.mp _=>False
 |.mit .. =>False
def Data.live:Data→Bool
 |.dead=>false
 |_=>true
theorem DataC.mono {ρ ρ':Rho} (h:ρ.Le ρ') {d:Data} {vs:List Value} (hd:DataC ρ d vs):DataC ρ' d vs:=by
 cases d<;>simp only[DataC]at hd ⊢
 case one cs=>obtain⟨z,h1,h2⟩:=hd;exact⟨z,HasZ.mono h _ _ h1,h2⟩
 case seq w xs=>obtain⟨z,h1,h2⟩:=hd;exact⟨z,HasZ.mono (bareR_le h.imm _ _) _ _ h1,h2⟩
 case mit k _ _=>obtain⟨h1,b,t,h2⟩:=hd;exact⟨h1,b,t,h.key _ _ h2⟩
 all_goals exact hd
theorem DataC.one' {ρ:Rho} {d:Data} {vs:List Value} (hd:DataC ρ d vs):∀v∈vs,v.oneCell'=true:=by
 cases d<;>simp only[DataC]at hd
 case one cs=>obtain⟨z,h1,rfl⟩:=hd;exact(HasZ.len _ _ h1).2
 case seq w xs=>obtain⟨z,h1,rfl,_⟩:=hd;exact(HasZ.len _ _ h1).2
 case ints kd xs=>subst hd;intro v hv;obtain⟨x,_,rfl⟩:=List.mem_map.1 hv;rfl
 case fracs xs=>subst hd;intro v hv;obtain⟨x,_,hx⟩:=List.mem_flatMap.1 hv;exact(fracCells_one x).2 v hx
 case loop rc=>subst hd;intro v hv;cases hv
 case mp l=>subst hd;intro v hv;cases hv
 case mit k seen c=>obtain⟨rfl,_⟩:=hd;intro v hv;cases hv
structure Blk where
 ty:TypeId
 wr:Bool
 data:Data
def Data.obj (ρ:Rho) (d:Data) (l:List Value) (ty:TypeId):Obj:=match d with
 |.loop rc=>.loop rc
 |.mp es=>.map (entries es) es.length
 |.mit k seen c=>.mapIter ((ρ.key k).map (·.1)) c seen.toArray c
 |_=>.cells l.toArray ty (0,0)
def Data.isLoop:Data→Bool
 |.loop _=>true
 |.mp _=>true
 |.mit .. =>true
 |_=>false
theorem Data.obj_cells {ρ:Rho} {d:Data} (h:d.isLoop=false) (l:List Value) (ty:TypeId):d.obj ρ l ty= .cells l.toArray ty (0,0):=by
 cases d<;>first|rfl|(simp[Data.isLoop]at h)
theorem Data.obj_deferred {ρ:Rho} {d:Data} {l:List Value} {ty:TypeId} {x:Option (List Deferred)}:d.obj ρ l ty≠ .deferred x:=by
 cases d<;>simp[Data.obj]
theorem Data.obj_le {ρ ρ':Rho} (h:ρ.Le ρ') {d:Data} {vs l:List Value} {ty:TypeId} (hd:DataC ρ d vs):d.obj ρ' l ty=d.obj ρ l ty:=by
 cases d<;>try rfl
 case mit k seen c=>
  simp only[DataC]at hd
  obtain⟨_,b,t,h1⟩:=hd
  simp only[Data.obj,h1,h.key _ _ h1]
def BlkOK (ρ:Rho) (w:World) (k:Nat) (blk:Blk):Prop:=
 blk.data.live=false∨(∃b t vs ex,ρ.key k=some (b,t)∧w.heap[b]? =some (blk.data.obj ρ (vs++ex) blk.ty)∧DataC ρ blk.data vs∧(vs++ex).length=t∧∀v∈ex,v.oneCell'=true)∨
 (ρ.key k=none∧blk.data.empty)
structure Pres (W:Nat→Prop) (w w':World):Prop where
 os:w'.os=w.os
 tape:w'.tape=w.tape
 output:w'.output=w.output
 size:w.heap.size≤w'.heap.size
 block:∀b,b<w.heap.size→¬W b→w'.heap[b]? =w.heap[b]?
 drawn:w.drawn≤w'.drawn
theorem Pres.refl (W:Nat→Prop) (w:World):Pres W w w:=⟨rfl,rfl,rfl,Nat.le_refl _,fun _ _ _=>rfl,Nat.le_refl _⟩
theorem Pres.trans {W:Nat→Prop} {a b c:World} (h:Pres W a b) (k:Pres W b c):Pres W a c:=
 ⟨k.os.trans h.os,k.tape.trans h.tape,k.output.trans h.output,Nat.le_trans h.size k.size,fun i hi hw=>(k.block i (Nat.lt_of_lt_of_le hi h.size) hw).trans (h.block i hi hw),Nat.le_trans h.drawn k.drawn⟩
theorem Pres.mono {W W':Nat→Prop} {w w':World} (h:Pres W w w') (hW:∀b,b<w.heap.size→W b→W' b):Pres W' w w':=
 ⟨h.os,h.tape,h.output,h.size,fun b hb hn=>h.block b hb (fun hw=>hn (hW b hb hw)),h.drawn⟩
theorem Pres.below {w w':World} (h:Pres (fun _=>False) w w'):RowKit.Below w.heap.size w w':=⟨h.os,h.tape,h.output,h.size,fun k hk=>h.block k hk (fun h=>h)⟩
theorem Pres.of_below {W:Nat→Prop} {w w':World} (h:RowKit.Below w.heap.size w w') (hd:w.drawn≤w'.drawn):Pres W w w':=⟨h.os,h.tape,h.output,h.size,fun k hk _=>h.block k hk,hd⟩
inductive Loc where
 |t (n:Nat)
 |k (n:Nat)
 deriving DecidableEq
inductive LV where
 |t (s:Option SV)
 |k (b:Option Blk)
def LV.sv:LV→Option SV
 |.t s=>s
 |.k _=>none
def LV.blk:LV→Option Blk
 |.k b=>b
 |.t _=>none
structure HpR (B:Nat) (W0:Nat→Prop) (ρ:Rho) (s:Loc→LV) (w:World):Prop where
 blk:∀k b,(s (.k k)).blk=some b→BlkOK ρ w k b
 sep:∀k k' x x' b b',ρ.key k=some x→ρ.key k'=some x'→k≠k'→x.1=x'.1→(s (.k k)).blk=some b→(s (.k k')).blk=some b'→b.data.live=true→b'.data.live=true→b.wr=false
 own:∀k b x,(s (.k k)).blk=some b→b.wr=true→b.data.live=true→ρ.key k=some x→B≤x.1∨W0 x.1
 dom:∀k x,ρ.key k=some x→∃b,(s (.k k)).blk=some b
 imm:∀b o,ρ.imm b=some o→w.heap[b]? =some o
 immw:∀k b x,(s (.k k)).blk=some b→b.wr=true→b.data.live=true→ρ.key k=some x→ρ.imm x.1=none
def mk1 (D:Nat):Deferred:={target:=.collected D,args:= #[]}
def DefOK (B:Nat) (ρ:Rho) (ds:List Deferred) (w:World):Prop:=
 ∃Ds:List Nat,ds=Ds.map mk1∧Ds.Nodup∧∀D∈Ds,B≤D∧w.heap[D]? =some (.deferred (some []))∧ρ.imm D=none
theorem DefOK.nil {B:Nat} {ρ:Rho} {w:World}:DefOK B ρ [] w:=⟨[],rfl,.nil,fun _ h=>by cases h⟩
structure R (W0:Nat→Prop) (w0:World) (n:Nat) (ρ:Rho) (s:Loc→LV) (a:Act) (w:World):Prop where
 defers:DefOK w0.heap.size ρ a.defers w
 size:a.tmps.size=n
 fr:∀t sv,(s (.t t)).sv=some sv→Has ρ sv (a.tmps.getD t undef)
 pres:Pres W0 w0 w
 hp:HpR w0.heap.size W0 ρ s w
structure Post (ρ:Rho) (w:World) (val:SV) (new upd:List (Nat×Blk)) (v:Value) (ρ':Rho) (w':World):Prop where
 le:ρ.Le ρ'
 has:Has ρ' val v
 key:∀k,(∀b,(k,b)∉new)→ρ'.key k=ρ.key k
 pres:Pres (fun b=>∃k blk t,(k,blk)∈upd∧ρ.key k=some (b,t)) w w'
 blk:∀k b,(k,b)∈upd∨(k,b)∈new→BlkOK ρ' w' k b
 once:∀k b b',(k,b)∈upd→(k,b')∈upd→b.data.live=false→b'.data.live=true→False
 newb:∀k b x,(k,b)∈new→ρ'.key k=some x→w.heap.size≤x.1∨∃k0 b0 t,(k0,b0)∈upd∧b0.data.live=false∧ρ.key k0=some (x.1,t)
 newsep:∀k b k' b' x x',(k,b)∈new→(k',b')∈new→k≠k'→ρ'.key k=some x→ρ'.key k'=some x'→x.1≠x'.1
 imm:∀b o,ρ'.imm b=some o→ρ.imm b=some o∨(w.heap.size≤b∧w'.heap[b]? =some o∧∀k blk x,(k,blk)∈new→ρ'.key k=some x→x.1≠b)
structure Pre (ft:List (Nat×SV)) (fk:List (Nat×Blk)) (new:List (Nat×Blk)) (ρ:Rho) (a:Act) (w:World):Prop where
 hft:∀t sv,(t,sv)∈ft→Has ρ sv (a.tmps.getD t undef)
 hfk:∀k b,(k,b)∈fk→BlkOK ρ w k b
 sep:∀k k' x x' b b',(k,b)∈fk→(k',b')∈fk→ρ.key k=some x→ρ.key k'=some x'→k≠k'→x.1=x'.1→b.data.live=true→b'.data.live=true→b.wr=false
 imm:∀b o,ρ.imm b=some o→w.heap[b]? =some o
 immw:∀k b x,(k,b)∈fk→b.wr=true→b.data.live=true→ρ.key k=some x→ρ.imm x.1=none
 fresh:∀k b,(k,b)∈new→ρ.key k=none
def goes (P:Program) (o:Oper) (a:Act) (w:World) (K:Act→World→Prop):Prop:=
 match (execOp a.eval o).run P w with
 |.ok (.value v) w'=>K (a.put o.dst v) w'
 |.ok .skip w'=>K (a.put o.dst undef) w'
 |.ok (.enter f args) w'=>Calls P f args w' fun e w''=>∃v,e= .returned v∧K (a.put o.dst v) w''
 |.ok (.round l f tmps assign body) w'=>RoundIn Fence.wide 0 P l f tmps assign body w' fun e w''=>∃v,e= .returned v∧K (a.put o.dst v) w''
 |_=>False
theorem goes_mono {P:Program} {o:Oper} {a:Act} {w:World} {K K':Act→World→Prop} (h:∀a w,K a w→K' a w) (hh:goes P o a w K):goes P o a w K':=by
 unfold goes at*
 generalize (execOp a.eval o).run P w=r at*
 cases r with
 |ok n w'=>
  cases n<;>simp only at hh ⊢<;>
   first
    |exact h _ _ hh
    |exact hh.mono (fun e w'' he=>let ⟨v,h1,h2⟩:=he;⟨v,h1,h _ _ h2⟩)
    |exact hh
 |halt x w'=>exact hh
def fen (ro:Option Nat):Fence:={Fence.wide with round:=ro}
theorem goes_wpIn {ro:Option Nat} {P:Program} {o:Oper} {a:Act} {w:World} {K:Act→World→Prop} {Q:Exit→Act→World→Prop} (h:goes P o a w K):o.wpIn (fen ro) 0 P a w K Q:=by
 have hd:∀c,o.op≠ .defer c:=by
  intro c hc
  unfold goes at h
  simp only[execOp,hc,Sem.run_bind]at h
  cases hr:(resolve a.eval c o.type).run P w with
  |ok d w'=>rw[hr]at h;simp[Result.andThen]at h
  |halt x w'=>rw[hr]at h;simp[Result.andThen]at h
 refine⟨fun _ _=>trivial, ?_⟩
 rw[Oper.semAt_eq _ _ _ hd]
 unfold goes at h
 generalize (execOp a.eval o).run P w=r at*
 cases r with
 |ok n w'=>
  cases n<;>simp only[Oper.uponIn]at h ⊢<;>try exact h
  ·refine⟨(fun hx=>by cases hx), ?_⟩
   have:=callsIn_wide (n:=0).2 h
   refine CallsIn.mono (F:=fen ro) (show CallsIn (fen ro) 0 _ _ _ _ _ from this) ?_
   rintro e w'' ⟨v,rfl,hk⟩
   exact hk
  ·refine⟨(fun hx=>by cases hx), ?_⟩
   refine RoundIn.mono (F:=fen ro) (show RoundIn (fen ro) 0 _ _ _ _ _ _ _ _ from h) ?_
   rintro e w'' ⟨v,rfl,hk⟩
   exact hk
 |halt x w'=>exact h.elim
def OpOK (P:Program) (o:Oper) (ft:List (Nat×SV)) (fk:List (Nat×Blk)) (val:SV) (new upd:List (Nat×Blk)):Prop:=
 ∀ρ a w,Pre ft fk new ρ a w→goes P o a w (fun a' w'=>∃v ρ',a'=a.put o.dst v∧Post ρ w val new upd v ρ' w')
def find (l:List (Nat×Blk)) (k:Nat):Option Blk:=match l with
 |[]=>none
 |(j,b)::r=>match Nat.beq j k with|true=>some b|false=>find r k
theorem find_mem:∀{l:List (Nat×Blk)} {k:Nat} {b:Blk},find l k=some b→(k,b)∈l
 |(j,b')::r,k,b,h=>by
  unfold find at h
  split at h
  ·rename_i hj
   obtain rfl:j=k:=Nat.eq_of_beq_eq_true hj
   cases h
   exact List.mem_cons_self ..
  ·exact List.mem_cons_of_mem _ (find_mem h)
theorem find_none:∀{l:List (Nat×Blk)} {k:Nat},find l k=none→∀b,(k,b)∉l
 |[],_,_,_,hm=>by cases hm
 |(j,b')::r,k,h,b,hm=>by
  unfold find at h
  split at h
  ·cases h
  ·rename_i hj
   rcases List.mem_cons.1 hm with h1|h1
   ·cases h1
    simp[Nat.beq_refl]at hj
   ·exact find_none h b h1
def lay (dst:Option Tmp) (val:SV) (ks:List (Nat×Blk)) (s:Loc→LV):Loc→LV
 |.t n=>if dst=some n then .t (some val)else s (.t n)
 |.k n=>match find ks n with
  |some b=>.k (some b)
  |none=>s (.k n)
theorem lay_post {dst:Option Tmp} {val:SV} {new upd:List (Nat×Blk)} {W0:Nat→Prop} {w0:World} {n:Nat} {ρ:Rho} {s:Loc→LV} {a:Act} {w:World} (h:R W0 w0 n ρ s a w)
  (hnew:∀k b,(k,b)∈new→(s (.k k)).blk=none) (hupd':∀k b,(k,b)∈upd→∃b0,(s (.k k)).blk=some b0∧b0.wr=true∧b0.data.live=true∧b.wr=true)
  (hdst:∀d,dst=some d→d<n) {v:Value} {ρ':Rho} {w':World} (hp:Post ρ w val new upd v ρ' w'):
  ρ.Le ρ'∧(∀k,(s (.k k)).blk≠none→ρ'.key k=ρ.key k)∧(∀b o,ρ'.imm b=some o→ρ.imm b=some o∨w0.heap.size≤b)∧R W0 w0 n ρ' (lay dst val (upd++new) s) (a.put dst v) w':=by
 have hfresh:∀k b,(k,b)∈new→ρ.key k=none:=by
  intro k b hk
  cases hx:ρ.key k with
  |none=>rfl
  |some x=>
   obtain⟨b',hb'⟩:=h.hp.dom k x hx
   rw[hnew k b hk]at hb'
   cases hb'
 have hbsz:∀k b x,(s (.k k)).blk=some b→b.data.live=true→ρ.key k=some x→x.1<w.heap.size:=by
  intro k b x hb hl hx
  rcases h.hp.blk k b hb with h0|⟨b',t,vs,ex,h1,h2,_⟩|⟨h1,_⟩
  ·rw[hl]at h0;cases h0
  ·rw[hx]at h1;cases h1
   rcases Nat.lt_or_ge b' w.heap.size with h'|h'
   ·exact h'
   ·simp[Array.getElem?_eq_none h']at h2
  ·rw[hx]at h1;cases h1
 have hkey:∀k x,ρ'.key k=some x→(∃b,(k,b)∈new)∨((∀b,(k,b)∉new)∧ρ.key k=some x):=by
  intro k x hx
  rcases Classical.em (∃b,(k,b)∈new)with hk|hk
  ·exact .inl hk
  ·have hk':∀b,(k,b)∉new:=fun b hb=>hk ⟨b,hb⟩
   rw[hp.key k hk']at hx
   exact .inr ⟨hk',hx⟩
 have hfind:∀k b,find (upd++new) k=some b→(k,b)∈upd∨(k,b)∈new:=fun k b hf=>List.mem_append.1 (find_mem hf)
 have hnofind:∀k,find (upd++new) k=none→(∀b,(k,b)∉upd)∧(∀b,(k,b)∉new):=fun k hf=>
  ⟨fun b hb=>find_none hf b (List.mem_append.2 (.inl hb)),fun b hb=>find_none hf b (List.mem_append.2 (.inr hb))⟩
 have hlayk:∀k b,(lay dst val (upd++new) s (.k k)).blk=some b→(k,b)∈upd∨(k,b)∈new∨((∀b,(k,b)∉upd)∧(∀b,(k,b)∉new)∧(s (.k k)).blk=some b):=by
  intro k b hb
  simp only[lay]at hb
  cases hf:find (upd++new) k with
  |some b'=>
   rw[hf]at hb
   cases hb
   rcases hfind k _ hf with h1|h1
   ·exact .inl h1
   ·exact .inr (.inl h1)
  |none=>
   rw[hf]at hb
   exact .inr (.inr ⟨(hnofind k hf).1,(hnofind k hf).2,hb⟩)
 have hnotnew:∀k b,(k,b)∈upd→∀b',(k,b')∉new:=fun k b hu b' hn=>by
  obtain⟨b0,h1,_⟩:=hupd' k b hu
  rw[hnew k b' hn]at h1;cases h1
 have hnotupd:∀k b x,(s (.k k)).blk=some b→b.data.live=true→ρ.key k=some x→(∀b,(k,b)∉upd)→¬∃k' blk t,(k',blk)∈upd∧ρ.key k'=some (x.1,t):=by
  rintro k b x hb hl hx hku ⟨k',blk,t,hu,hk'⟩
  obtain⟨b0,h1,h2,h3,_⟩:=hupd' k' blk hu
  have hne:k'≠k:=fun he=>hku blk (he▸hu)
  have:=h.hp.sep k' k (x.1,t) x b0 b hk' hx hne rfl h1 hb h3 hl
  rw[h2]at this;cases this
 have hlive:∀k b,(k,b)∈upd→∀x,ρ.key k=some x→∀k2 b2 x2,(s (.k k2)).blk=some b2→b2.data.live=true→ρ.key k2=some x2→x2.1=x.1→k2=k:=by
  intro k b hu x hx k2 b2 x2 hb2 hl2 hx2 he
  refine Classical.byContradiction fun hne=> ?_
  obtain⟨b0,h1,h2,h3,_⟩:=hupd' k b hu
  have:=h.hp.sep k k2 x x2 b0 b2 hx hx2 (fun h=>hne h.symm) he.symm h1 hb2 h3 hl2
  rw[h2]at this;cases this
 have hpres:Pres W0 w0 w':=by
  refine⟨hp.pres.os.trans h.pres.os,hp.pres.tape.trans h.pres.tape,hp.pres.output.trans h.pres.output,Nat.le_trans h.pres.size hp.pres.size,fun b hb hw=> ?_,Nat.le_trans h.pres.drawn hp.pres.drawn⟩
  rw[hp.pres.block b (Nat.lt_of_lt_of_le hb h.pres.size) ?_,h.pres.block b hb hw]
  rintro⟨k,blk,t,hu,hk⟩
  obtain⟨b0,h1,h2,h3,_⟩:=hupd' k blk hu
  rcases h.hp.own k b0 _ h1 h2 h3 hk with h3|h3
  ·simp at h3;omega
  ·exact hw h3
 refine⟨hp.le,fun k hk=>hp.key k (fun b hb=>hk (hnew k b hb)),fun b o hb=>(hp.imm b o hb).imp id (fun h1=>Nat.le_trans h.pres.size h1.1), ?_⟩
 refine {defers:= ?_,size:= ?_,fr:= ?_,pres:=hpres,hp:= ?_}
 ·have hpd:(a.put dst v).defers=a.defers:=by cases hd:dst<;>simp[Act.put]
  rw[hpd]
  obtain⟨Ds,d1,d2,d3⟩:=h.defers
  refine⟨Ds,d1,d2,fun D hD=> ?_⟩
  obtain⟨e1,e2,e3⟩:=d3 D hD
  have hlt:D<w.heap.size:=(Array.getElem?_eq_some_iff.1 e2).1
  refine⟨e1, ?_, ?_⟩
  ·rw[hp.pres.block D hlt ?_,e2]
   rintro⟨k,blk,t,hu,hk⟩
   obtain⟨b0,h1,h2,h3,_⟩:=hupd' k blk hu
   rcases h.hp.blk k b0 h1 with h4|⟨b',t',vs,ex,h4,h5,_⟩|⟨h4,_⟩
   ·rw[h3]at h4;cases h4
   ·rw[hk]at h4;cases h4;rw[e2]at h5;exact Data.obj_deferred (Option.some.inj h5).symm
   ·rw[hk]at h4;cases h4
  ·cases hx:ρ'.imm D with
   |none=>rfl
   |some o=>
    rcases hp.imm D o hx with h4|⟨h4,_⟩
    ·rw[e3]at h4;cases h4
    ·omega
 ·cases hd:dst<;>simp[Act.put,h.size]
 ·intro t sv ht
  simp only[lay]at ht
  by_cases hd:dst=some t
  ·rw[if_pos hd]at ht
   cases ht
   have:(a.put dst v).tmps.getD t undef=v:=by
    have:=hdst t hd
    simp[Act.put,hd,h.size,this]
   rw[this];exact hp.has
  ·rw[if_neg hd]at ht
   have:(a.put dst v).tmps.getD t undef=a.tmps.getD t undef:=by
    cases hd':dst with
    |none=>rfl
    |some d=>
     have hne:d≠t:=fun he=>hd (by rw[hd',he])
     simp[Act.put,Array.getElem?_setIfInBounds_ne hne]
   rw[this];exact Has.mono hp.le _ _ (h.fr t sv ht)
 ·constructor
  ·-- blk
   intro k b hb
   rcases hlayk k b hb with h1|h1|⟨h1,h2,h3⟩
   ·exact hp.blk k b (.inl h1)
   ·exact hp.blk k b (.inr h1)
   ·rcases h.hp.blk k b h3 with g0|⟨b',t,vs,ex,g1,g2,g3,g4,g5⟩|⟨g1,g2⟩
    ·exact .inl g0
    ·cases hl:b.data.live with
     |false=>exact .inl hl
     |true=>
      refine .inr (.inl ⟨b',t,vs,ex,hp.le.key _ _ g1, ?_,g3.mono hp.le,g4,g5⟩)
      rw[hp.pres.block b' (hbsz k b (b',t) h3 hl g1) (hnotupd k b (b',t) h3 hl g1 h1),Data.obj_le hp.le g3]
      exact g2
    ·exact .inr (.inr ⟨by rw[hp.key k h2];exact g1,g2⟩)
  ·-- sep
   intro k k' x x' b b' hx hx' hne he hb hb' hl hl'
   have mixed:∀k k' x x' b b',ρ'.key k=some x→ρ.key k'=some x'→x.1=x'.1→(k,b)∈new→(∀b,(k',b)∉new)→(lay dst val (upd++new) s (.k k')).blk=some b'→b'.data.live=true→False:=by
    intro k k' x x' b b' hx hx' he hn hn' hb' hl'
    have hold:∃b2,(s (.k k')).blk=some b2∧b2.data.live=true:=by
     rcases hlayk k' b' hb' with h1|h1|⟨_,_,h3⟩
     ·obtain⟨b0,g1,_,g3,_⟩:=hupd' k' b' h1
      exact⟨b0,g1,g3⟩
     ·exact absurd h1 (hn' b')
     ·exact⟨b',h3,hl'⟩
    obtain⟨b2,e1,e2⟩:=hold
    rcases hp.newb k b x hn hx with h1|⟨k0,b0,t,g1,g2,g3⟩
    ·have:=hbsz k' b2 x' e1 e2 hx'
     omega
    ·have:=hlive k0 b0 g1 _ g3 k' b2 x' e1 e2 hx' he.symm
     subst this
     rcases hlayk k' b' hb' with h1|h1|⟨h1,_,_⟩
     ·-- updated twice: the first found wins; it is live, so it is not the dead one alone
      have hf:find (upd++new) k'=some b':=by
       simp only[lay]at hb'
       cases hf:find (upd++new) k' with
       |some b3=>rw[hf]at hb';simp only[LV.blk,Option.some.injEq]at hb';rw[hb']
       |none=>exact absurd g1 ((hnofind k' hf).1 b0)
      exact hp.once k' b0 b' g1 h1 g2 hl'
     ·exact absurd h1 (hn' b')
     ·exact absurd g1 (h1 b0)
   rcases hkey k x hx with⟨bk,hk⟩|⟨hkn,hk⟩
   ·rcases hkey k' x' hx' with⟨bk',hk'⟩|⟨hkn',hk'⟩
    ·exact absurd he (hp.newsep k bk k' bk' x x' hk hk' hne hx hx')
    ·exact(mixed k k' x x' bk b' hx hk' he hk hkn' hb' hl').elim
   ·rcases hkey k' x' hx' with⟨bk',hk'⟩|⟨hkn',hk'⟩
    ·exact(mixed k' k x' x bk' b hx' hk he.symm hk' hkn hb hl).elim
    ·have hold:∀k b,(∀b,(k,b)∉new)→(lay dst val (upd++new) s (.k k)).blk=some b→b.data.live=true→∃b2,(s (.k k)).blk=some b2∧b2.data.live=true∧(b2.wr=b.wr∨b2.wr=true):=by
      intro k b hn hb hl
      rcases hlayk k b hb with h1|h1|⟨_,_,h3⟩
      ·obtain⟨b0,g1,g2,g3,_⟩:=hupd' k b h1
       exact⟨b0,g1,g3,.inr g2⟩
      ·exact absurd h1 (hn b)
      ·exact⟨b,h3,hl,.inl rfl⟩
     obtain⟨b2,e1,e2,e3⟩:=hold k b hkn hb hl
     obtain⟨b2',e1',e2',_⟩:=hold k' b' hkn' hb' hl'
     have:=h.hp.sep k k' x x' b2 b2' hk hk' hne he e1 e1' e2 e2'
     rcases e3 with e3|e3
     ·rw[←e3];exact this
     ·rw[this]at e3;cases e3
  ·-- own
   intro k b x hb hw hl hx
   rcases hlayk k b hb with h1|h1|⟨h1,h2,h3⟩
   ·obtain⟨b0,g1,g2,g3,_⟩:=hupd' k b h1
    have hkx:ρ.key k=some x:=by
     rcases hkey k x hx with⟨bk,hk⟩|⟨_,hk⟩
     ·rw[hnew k bk hk]at g1;cases g1
     ·exact hk
    exact h.hp.own k b0 x g1 g2 g3 hkx
   ·rcases hp.newb k b x h1 hx with h4|⟨k0,b0,t,g1,g2,g3⟩
    ·exact .inl (Nat.le_trans h.pres.size h4)
    ·obtain⟨b1,e1,e2,e3,_⟩:=hupd' k0 b0 g1
     exact h.hp.own k0 b1 (x.1,t) e1 e2 e3 g3
   ·rw[hp.key k h2]at hx
    exact h.hp.own k b x h3 hw hl hx
  ·-- dom
   intro k x hx
   simp only[lay]
   cases hf:find (upd++new) k with
   |some b=>exact⟨b,rfl⟩
   |none=>
    rw[hp.key k (hnofind k hf).2]at hx
    exact h.hp.dom k x hx
  ·-- imm
   intro b ob hb
   rcases hp.imm b ob hb with h1|⟨_,h1,_⟩
   ·have h2:=h.hp.imm b ob h1
    have hlt:b<w.heap.size:=by
     rcases Nat.lt_or_ge b w.heap.size with h'|h'
     ·exact h'
     ·simp[Array.getElem?_eq_none h']at h2
    rw[hp.pres.block b hlt ?_]
    ·exact h2
    ·rintro⟨k,blk,t,hu,hk⟩
     obtain⟨b0,g1,g2,g3,_⟩:=hupd' k blk hu
     have:=h.hp.immw k b0 _ g1 g2 g3 hk
     rw[h1]at this;cases this
   ·exact h1
  ·-- immw
   intro k b x hb hw hl hx
   cases hi:ρ'.imm x.1 with
   |none=>rfl
   |some ob=>
    exfalso
    rcases hlayk k b hb with h1|h1|⟨h1,h2,h3⟩
    ·obtain⟨b0,g1,g2,g3,_⟩:=hupd' k b h1
     have hkx:ρ.key k=some x:=by
      rcases hkey k x hx with⟨bk,hk⟩|⟨_,hk⟩
      ·rw[hnew k bk hk]at g1;cases g1
      ·exact hk
     rcases hp.imm _ _ hi with h4|⟨h4,_⟩
     ·have:=h.hp.immw k b0 x g1 g2 g3 hkx
      rw[h4]at this;cases this
     ·have:=hbsz k b0 x g1 g3 hkx
      omega
    ·rcases hp.imm _ _ hi with h4|⟨h6,_,h4⟩
     ·have h5:=h.hp.imm _ _ h4
      rcases hp.newb k b x h1 hx with h7|⟨k0,b0,t,g1,g2,g3⟩
      ·simp[Array.getElem?_eq_none h7]at h5
      ·obtain⟨b1,e1,e2,e3,_⟩:=hupd' k0 b0 g1
       have:=h.hp.immw k0 b1 _ e1 e2 e3 g3
       rw[h4]at this;cases this
     ·exact h4 k b x h1 hx rfl
    ·rw[hp.key k h2]at hx
     rcases hp.imm _ _ hi with h4|⟨h4,_⟩
     ·have:=h.hp.immw k b x h3 hw hl hx
      rw[h4]at this;cases this
     ·have:=hbsz k b x h3 hl hx
      omega
theorem lay_R_le {P:Program} {o:Oper} {ft:List (Nat×SV)} {fk:List (Nat×Blk)} {val:SV} {new upd:List (Nat×Blk)}
  (hop:OpOK P o ft fk val new upd) {W0:Nat→Prop} {w0:World} {n:Nat} {ρ:Rho} {s:Loc→LV} {a:Act} {w:World} (h:R W0 w0 n ρ s a w)
  (hft:∀t sv,(t,sv)∈ft→(s (.t t)).sv=some sv) (hfk:∀k b,(k,b)∈fk→(s (.k k)).blk=some b)
  (hnew:∀k b,(k,b)∈new→(s (.k k)).blk=none) (hupd:∀k b,(k,b)∈upd→∃b0,(k,b0)∈fk∧b0.wr=true∧b0.data.live=true∧b.wr=true)
  (hdst:∀d,o.dst=some d→d<n):
  goes P o a w (fun a' w'=>∃ρ',ρ.Le ρ'∧(∀k,(s (.k k)).blk≠none→ρ'.key k=ρ.key k)∧(∀b o,ρ'.imm b=some o→ρ.imm b=some o∨w0.heap.size≤b)∧R W0 w0 n ρ' (lay o.dst val (upd++new) s) a' w'):=by
 have hfresh:∀k b,(k,b)∈new→ρ.key k=none:=by
  intro k b hk
  cases hx:ρ.key k with
  |none=>rfl
  |some x=>
   obtain⟨b',hb'⟩:=h.hp.dom k x hx
   rw[hnew k b hk]at hb'
   cases hb'
 have hpre:Pre ft fk new ρ a w:={
  hft:=fun t sv ht=>h.fr t sv (hft t sv ht)
  hfk:=fun k b hk=>h.hp.blk k b (hfk k b hk)
  sep:=fun k k' x x' b b' hk hk' hx hx' hne he=>h.hp.sep k k' x x' b b' hx hx' hne he (hfk k b hk) (hfk k' b' hk')
  imm:=h.hp.imm
  immw:=fun k b x hk hw hl hx=>h.hp.immw k b x (hfk k b hk) hw hl hx
  fresh:=hfresh}
 have hupd':∀k b,(k,b)∈upd→∃b0,(s (.k k)).blk=some b0∧b0.wr=true∧b0.data.live=true∧b.wr=true:=fun k b hk=>by
  obtain⟨b0,h1,h2,h3,h4⟩:=hupd k b hk
  exact⟨b0,hfk k b0 h1,h2,h3,h4⟩
 refine goes_mono ?_ (hop ρ a w hpre)
 rintro a' w' ⟨v,ρ',rfl,hp⟩
 exact⟨ρ',lay_post h hnew hupd' hdst hp⟩
end Go.Sx
namespace Go.Sx
def expand:SV→Option (List SV)
 |.nat n=>some [.val (.int .u64 (low n)),.val (.string (big n))]
 |.int z=>some [.nat z.natAbs,.val (.bool (decide (z<0)))]
 |.frac q=>some [.int q.num,.nat (q.den - 1)]
 |.agg cs=>some cs
 |_=>none
theorem HasZ_append {ρ:Rho}:∀{l r:List SV} {z y:List (List Value)},HasZ ρ l z→HasZ ρ r y→HasZ ρ (l++r) (z++y)
 |[],r,z,y,h,h'=>by simp only[HasZ]at h;subst h;exact h'
 |c::l,r,z,y,h,h'=>by
  simp only[HasZ]at h
  obtain⟨x,t,rfl,h1,h2⟩:=h
  simp only[List.cons_append,HasZ]
  exact⟨x,t++y,rfl,h1,HasZ_append h2 h'⟩
theorem expand_has {ρ:Rho} {c:SV} {l:List SV} {x:List Value} (he:expand c=some l) (h:HasC ρ c x):∃z,HasZ ρ l z∧x=z.flatten:=by
 cases c<;>simp only[expand,Option.some.injEq,reduceCtorEq]at he
 case nat n=>
  subst he
  simp only[HasC]at h
  refine⟨[[.int .u64 (low n)],[.string (big n)]], ?_, ?_⟩
  ·simp[HasZ,HasC,Value.oneCell']
  ·rw[h];rfl
 case int z=>
  subst he
  simp only[HasC]at h
  refine⟨[natCells z.natAbs,[.bool (decide (z<0))]], ?_, ?_⟩
  ·simp[HasZ,HasC,Value.oneCell']
  ·rw[h];rfl
 case frac q=>
  subst he
  simp only[HasC]at h
  refine⟨[intCells q.num,natCells (q.den - 1)], ?_, ?_⟩
  ·simp[HasZ,HasC]
  ·rw[h];simp[fracCells]
 case agg cs=>
  subst he
  simpa only[HasC]using h
def sub:Nat→List SV→Nat→Nat→Option (List SV)
 |0,_,_,_=>none
 |f+1,cs,off,w=>
  match w with
  |0=>some []
  |w'+1=>
   match cs with
   |[]=>none
   |c::r=>
    match Nat.ble c.width off with
    |true=>sub f r (off - c.width) (w'+1)
    |false=>
     match off with
     |0=>
      match Nat.ble c.width (w'+1)with
      |true=>
       match sub f r 0 (w'+1 - c.width)with
       |some l=>some (c::l)
       |none=>none
      |false=>
       match expand c with
       |some l=>sub f (l++r) 0 (w'+1)
       |none=>none
     |o'+1=>
      match expand c with
      |some l=>sub f (l++r) (o'+1) (w'+1)
      |none=>none
theorem sub_has {ρ:Rho}:∀(f:Nat) (cs:List SV) (off w:Nat) (l:List SV) (z:List (List Value)),sub f cs off w=some l→HasZ ρ cs z→
  ∃y,HasZ ρ l y∧y.flatten=(z.flatten.drop off).take w∧(w=0∨off+w≤z.flatten.length):=by
 intro f
 induction f with
 |zero=>intro cs off w l z h;simp[sub]at h
 |succ f ih=>
  intro cs off w l z h hz
  unfold sub at h
  cases w with
  |zero=>simp at h;subst h;exact⟨[],by simp[HasZ],by simp,.inl rfl⟩
  |succ w'=>
   simp only at h
   cases cs with
   |nil=>simp at h
   |cons c r=>
    simp only at h
    simp only[HasZ]at hz
    obtain⟨x,t,rfl,hx,ht⟩:=hz
    have hlen:=(HasC.len c x hx).1
    cases hb:Nat.ble c.width off with
    |true=>
     rw[hb]at h
     have hle:=Nat.le_of_ble_eq_true hb
     obtain⟨y,h1,h2,h3⟩:=ih r (off - c.width) (w'+1) l t h ht
     refine⟨y,h1, ?_, ?_⟩
     ·rw[h2]
      congr 1
      simp only[List.flatten_cons]
      have hxl:x.length≤off:=by omega
      rw[List.drop_append,List.drop_eq_nil_of_le hxl,hlen]
      simp
     ·simp only[List.flatten_cons,List.length_append]
      omega
    |false=>
     rw[hb]at h
     have hgt:¬c.width≤off:=fun hle=>by rw[Nat.ble_eq_true_of_le hle]at hb;cases hb
     have hexp:∀o',(match expand c with|some l'=>sub f (l'++r) o' (w'+1)|none=>none)=some l→∃y,HasZ ρ l y∧y.flatten=((x::t).flatten.drop o').take (w'+1)∧(w'+1=0∨o'+(w'+1)≤(x::t).flatten.length):=by
      intro o' h
      cases he:expand c with
      |none=>rw[he]at h;simp at h
      |some l'=>
       rw[he]at h
       obtain⟨zc,h1,rfl⟩:=expand_has he hx
       obtain⟨y,h2,h3,h4⟩:=ih (l'++r) o' (w'+1) l (zc++t) h (HasZ_append h1 ht)
       exact⟨y,h2,by rw[h3];simp,by simpa using h4⟩
     cases off with
     |succ o'=>exact hexp (o'+1) h
     |zero=>
      simp only at h
      cases hb2:Nat.ble c.width (w'+1)with
      |false=>rw[hb2]at h;exact hexp 0 h
      |true=>
       rw[hb2]at h
       have hle:=Nat.le_of_ble_eq_true hb2
       cases hs:sub f r 0 (w'+1 - c.width)with
       |none=>rw[hs]at h;simp at h
       |some l'=>
        rw[hs]at h
        simp at h
        subst h
        obtain⟨y,h1,h2,h3⟩:=ih r 0 (w'+1 - c.width) l' t hs ht
        refine⟨x::y,by simp only[HasZ];exact⟨x,y,rfl,hx,h1⟩, ?_, ?_⟩
        ·simp only[List.flatten_cons,List.drop_zero]at h2 ⊢
         have hxl:x.length≤w'+1:=by omega
         rw[h2,List.take_append,List.take_of_length_le hxl,hlen]
        ·simp only[List.flatten_cons,List.length_append]
         omega
def put (f:Nat) (cs:List SV) (off w:Nat) (new:List SV):Option (List SV):=
 match sub f cs 0 off,sub f cs (off+w) (SV.widthL cs - (off+w))with
 |some a,some b=>some (a++(new++b))
 |_,_=>none
theorem put_has {ρ:Rho} {f:Nat} {cs new l:List SV} {off w:Nat} {z y:List (List Value)} (h:put f cs off w new=some l) (hz:HasZ ρ cs z) (hy:HasZ ρ new y):
  ∃t,HasZ ρ l t∧t.flatten=z.flatten.take off++y.flatten++z.flatten.drop (off+w):=by
 unfold put at h
 cases ha:sub f cs 0 off with
 |none=>rw[ha]at h;simp at h
 |some a=>
  cases hb:sub f cs (off+w) (SV.widthL cs - (off+w))with
  |none=>rw[ha,hb]at h;simp at h
  |some b=>
   rw[ha,hb]at h
   simp at h
   subst h
   obtain⟨ya,h1,h2,_⟩:=sub_has f cs 0 off a z ha hz
   obtain⟨yb,h3,h4,_⟩:=sub_has f cs (off+w) _ b z hb hz
   refine⟨ya++(y++yb),HasZ_append h1 (HasZ_append hy h3), ?_⟩
   have hl:=(HasZ.len cs z hz).1
   simp only[List.flatten_append,h2,h4,List.drop_zero,List.append_assoc]
   congr 2
   rw[List.take_of_length_le (by rw[List.length_drop,hl];exact Nat.le_refl _)]
inductive TK where
 |bool
 |int (k:IntKind)
 |str
 |agg (fields:List (Nat×TypeId×Nat))
 |arr (n:Nat) (e:TypeId)
 |slc (e:TypeId)
 |ptr (e:TypeId)
 |other
structure TI where
 kind:TK
 size:Nat
 bytes:Nat
 zero:List SV
def TK.isAgg:TK→Bool
 |.agg _|.arr _ _=>true
 |_=>false
def TK.ok (P:Program) (t:TypeId):TK→Prop
 |.bool=>P.underlying t=some .bool
 |.int k=>P.underlying t=some (.int k)
 |.str=>P.underlying t=some .string
 |.agg fs=>P.underlying t=some (.struct (P.fieldsOf t))∧(P.fieldsOf t).toList.map (fun f=>(f.offset,f.type,P.cellsOf f.type))=fs∧(P.fieldsOf t).toList.all (fun f=>(P.info? f.type).isSome)=true
 |.arr n e=>P.underlying t=some (.array n e)
 |.slc e=>P.underlying t=some (.slice e)
 |.ptr e=>P.underlying t=some (.pointer e)
 |.other=>∃d,P.underlying t=some d∧(match d with|.struct _|.array _ _=>true|_=>false)=false
def zcell:SV→List Value
 |.val v=>[v]
 |.nat n=>natCells n
 |.int z=>intCells z
 |.frac q=>fracCells q
 |_=>[]
def zok:SV→Bool
 |.val v=>v.oneCell'
 |.nat _|.int _|.frac _=>true
 |_=>false
structure TOK (P:Program) (t:TypeId) (ti:TI):Prop where
 kind:ti.kind.ok P t
 info:∃i z,P.info? t=some i∧i.size=ti.size∧i.bytes=ti.bytes∧i.zero=some z∧z.cells.toList=ti.zero.flatMap zcell∧ti.zero.all zok=true∧(z.cells.size=ti.size)∧z=(if ti.kind.isAgg then .agg z.cells else z.cells.getD 0 undef)
def tfind (T:List (TypeId×TI)) (t:TypeId):Option TI:=match T with
 |[]=>none
 |(u,ti)::r=>match Nat.beq u t with|true=>some ti|false=>tfind r t
def TabOK (P:Program):List (TypeId×TI)→Prop
 |[]=>True
 |(t,ti)::r=>TOK P t ti∧TabOK P r
theorem TabOK.get {P:Program}:∀{T:List (TypeId×TI)} {t:TypeId} {ti:TI},TabOK P T→tfind T t=some ti→TOK P t ti
 |(u,ti')::r,t,ti,h,hf=>by
  unfold tfind at hf
  split at hf
  ·rename_i hu
   obtain rfl:u=t:=Nat.eq_of_beq_eq_true hu
   cases hf
   exact h.1
  ·exact TabOK.get h.2 hf
theorem TOK.of {P:Program} {t:TypeId} {ti:TI} {z:Value} (hk:ti.kind.ok P t) (h1:(P.info? t).map (fun i=>(i.size,i.bytes,i.zero))=some (ti.size,ti.bytes,some z))
  (h2:z.cells.toList=ti.zero.flatMap zcell) (h3:ti.zero.all zok=true) (h4:z.cells.size=ti.size) (h5:z=(if ti.kind.isAgg then .agg z.cells else z.cells.getD 0 undef)):TOK P t ti:=by
 refine⟨hk, ?_⟩
 cases hi:P.info? t with
 |none=>rw[hi]at h1;simp at h1
 |some i=>
  rw[hi]at h1
  simp only[Option.map_some,Option.some.injEq,Prod.mk.injEq]at h1
  exact⟨i,z,rfl,h1.1,h1.2.1,h1.2.2,h2,h3,h4,h5⟩
theorem zcell_has {ρ:Rho} {c:SV} (h:zok c=true):HasC ρ c (zcell c):=by
 cases c<;>simp[zok]at h<;>simp[HasC,zcell,h]
theorem zero_has {ρ:Rho}:∀{l:List SV},l.all zok=true→HasZ ρ l (l.map zcell)
 |[],_=>by simp[HasZ]
 |c::l,h=>by
  simp only[List.all_cons,Bool.and_eq_true]at h
  simp only[List.map_cons,HasZ]
  exact⟨_,_,rfl,zcell_has h.1,zero_has h.2⟩
theorem TOK.isAgg {P:Program} {t:TypeId} {ti:TI} (h:TOK P t ti) (w:World):(Go.isAgg t).run P w= .ok ti.kind.isAgg w:=by
 unfold Go.isAgg
 rw[Sem.run_bind]
 have hk:=h.kind
 cases hkd:ti.kind<;>rw[hkd]at hk<;>simp only[TK.ok]at hk
 case other=>obtain⟨d,h1,h2⟩:=hk;rw[run_underlying h1];cases d<;>simp_all [TK.isAgg]
 case agg fs=>rw[run_underlying hk.1];rfl
 all_goals (rw[run_underlying hk];rfl)
theorem TOK.sizeOf {P:Program} {t:TypeId} {ti:TI} (h:TOK P t ti) (w:World):(Go.sizeOf t).run P w= .ok ti.size w:=by
 obtain⟨i,z,h1,h2,_⟩:=h.info
 simp[Go.sizeOf,typeInfo,h1,h2]
theorem TOK.zeroValue {P:Program} {t:TypeId} {ti:TI} (h:TOK P t ti):∃z,(∀w,(Go.zeroValue t).run P w= .ok z w)∧z.cells.toList=ti.zero.flatMap zcell:=by
 obtain⟨i,z,h1,h2,h3,h4,h5,_⟩:=h.info
 exact⟨z,fun w=>by simp[Go.zeroValue,typeInfo,h1,h4],h5⟩
def comps:SV→Option (List SV)
 |.any=>none
 |.tup _=>none
 |.agg cs=>some cs
 |c=>some [c]
theorem comps_has {ρ:Rho} {c:SV} {l:List SV} {v:Value} (h:comps c=some l) (hv:Has ρ c v):∃z,HasZ ρ l z∧v.cells.toList=z.flatten:=by
 have one:∀c:SV,∀x,HasC ρ c x→c.width=1→c.isOne=true→(mkV c x).cells.toList=x:=by
  intro c x hx hw h1
  obtain⟨h2,h3⟩:=HasC.len c x hx
  rw[hw]at h2
  match x,h2 with
  |[v],_=>
   have:=h3 v (by simp)
   simp only[mkV,h1,if_true,List.headD_cons]
   cases v<;>simp_all [Value.cells,Value.oneCell']
 have many:∀c:SV,∀x:List Value,c.isOne=false→(mkV c x).cells.toList=x:=by
  intro c x h1
  simp[mkV,h1,Value.cells]
 have sing:∀c:SV,∀x,HasC ρ c x→HasZ ρ [c] [x]:=fun c x hx=>by simp only[HasZ];exact⟨x,[],rfl,hx,rfl⟩
 cases c<;>simp only[comps,Option.some.injEq,reduceCtorEq]at h<;>subst h<;>simp only[Has]at hv
 case agg cs=>
  obtain⟨x,h1,rfl⟩:=hv
  simp only[HasC]at h1
  obtain⟨z,h2,rfl⟩:=h1
  exact⟨z,h2,by simp[mkV,SV.isOne,Value.cells]⟩
 case atom p=>
  obtain⟨x,h1,rfl⟩:=hv
  refine⟨[x],sing _ _ h1, ?_⟩
  simp only[List.flatten_cons,List.flatten_nil,List.append_nil]
  cases hb:p.bare with
  |true=>exact one (.atom p) x h1 (by simp[SV.width,p.bareLen hb]) (by simp[SV.isOne,hb])
  |false=>exact many (.atom p) x (by simp[SV.isOne,hb])
 all_goals
  obtain⟨x,h1,rfl⟩:=hv
  refine⟨[x],sing _ _ h1, ?_⟩
  simp only[List.flatten_cons,List.flatten_nil,List.append_nil]
  first
   |exact one _ x h1 rfl rfl
   |exact many _ x rfl
def shapeAs (ti:TI) (l:List SV):Option SV:=
 match ti.kind.isAgg with
 |true=>match l with
  |[c]=>match c.isOne with
   |false=>some c
   |true=>some (.agg [c])
  |l=>some (.agg l)
 |false=>match l with
  |[c]=>match c.isOne with
   |true=>some c
   |false=>none
  |_=>none
theorem shapeAs_has {ρ:Rho} {ti:TI} {l:List SV} {c:SV} {z:List (List Value)} {v:Value} (h:shapeAs ti l=some c) (hz:HasZ ρ l z)
  (hv:v=if ti.kind.isAgg then .agg z.flatten.toArray else z.flatten.headD undef):Has ρ c v:=by
 have aggs:∀l z,HasZ ρ l z→Has ρ (.agg l) (.agg z.flatten.toArray):=fun l z hz=>by
  simp only[Has,HasC,mkV,SV.isOne]
  exact⟨_,⟨z,hz,rfl⟩,rfl⟩
 have notTup:∀(c:SV) x,HasC ρ c x→c.isOne=false→Has ρ c (.agg x.toArray):=by
  intro c x hx h1
  cases c<;>simp only[SV.isOne,Bool.true_eq_false]at h1<;>simp only[Has]
  case tup=>simp only[HasC]at hx
  all_goals exact⟨x,hx,by simp[mkV,SV.isOne,h1]⟩
 have isOne:∀(c:SV) x,HasC ρ c x→c.isOne=true→Has ρ c (x.headD undef):=by
  intro c x hx h1
  cases c<;>simp only[SV.isOne,Bool.false_eq_true]at h1<;>simp only[Has]
  all_goals exact⟨x,hx,by simp[mkV,SV.isOne,h1]⟩
 unfold shapeAs at h
 cases ha:ti.kind.isAgg with
 |true=>
  rw[ha]at h hv
  simp only[if_true]at hv h
  subst hv
  match l,hz with
  |[],hz=>simp at h;subst h;exact aggs [] z hz
  |[d],hz=>
   simp only[HasZ]at hz
   obtain⟨x,r,rfl,h1,rfl⟩:=hz
   simp only at h
   cases hd:d.isOne with
   |false=>rw[hd]at h;simp at h;subst h;simpa using notTup d x h1 hd
   |true=>rw[hd]at h;simp at h;subst h;exact aggs [d] [x] (by simp only[HasZ];exact⟨x,[],rfl,h1,rfl⟩)
  |d::e::r,hz=>simp at h;subst h;exact aggs _ z hz
 |false=>
  rw[ha]at h hv
  simp only[Bool.false_eq_true,if_false]at hv h
  subst hv
  match l,hz with
  |[],_=>simp at h
  |[d],hz=>
   simp only[HasZ]at hz
   obtain⟨x,r,rfl,h1,rfl⟩:=hz
   simp only at h
   cases hd:d.isOne with
   |false=>rw[hd]at h;simp at h
   |true=>rw[hd]at h;simp at h;subst h;simpa using isOne d x h1 hd
  |d::e::r,_=>simp at h
end Go.Sx
namespace Go.Sx
def EvOK (ft:List (Nat×SV)) (x:Operand) (c:SV):Prop:=∀ρ a,(∀t s,(t,s)∈ft→Has ρ s (a.tmps.getD t undef))→Has ρ c (Act.eval a x)
def lk (l:List (Nat×SV)) (t:Nat):Option SV:=match l with
 |[]=>none
 |(u,s)::r=>match Nat.beq u t with|true=>some s|false=>lk r t
theorem lk_mem:∀{l:List (Nat×SV)} {t:Nat} {s:SV},lk l t=some s→(t,s)∈l
 |(u,s')::r,t,s,h=>by
  unfold lk at h
  split at h
  ·rename_i hu
   obtain rfl:u=t:=Nat.eq_of_beq_eq_true hu
   cases h
   exact List.mem_cons_self ..
  ·exact List.mem_cons_of_mem _ (lk_mem h)
def ev (fr:List (Nat×SV)):Operand→Option SV
 |.tmp t=>lk fr t
 |.const v=>match v.oneCell' with
  |true=>some (.val v)
  |false=>none
 |.func f=>some (.clo f [] [])
 |.global g=>some (.val (.pointer (some ⟨g,0,none⟩)))
theorem ev_ok {fr:List (Nat×SV)} {x:Operand} {c:SV} (h:ev fr x=some c):EvOK fr x c:=by
 intro ρ a hf
 cases x with
 |tmp t=>exact hf t c (lk_mem h)
 |const v=>
  simp only[ev]at h
  cases hv:v.oneCell' with
  |false=>rw[hv]at h;simp at h
  |true=>
   rw[hv]at h
   simp at h
   subst h
   simp only[Has,Act.eval]
   exact⟨[v],by simp[HasC,hv],by simp[mkV,SV.isOne]⟩
 |func f=>
  simp only[ev,Option.some.injEq]at h
  subst h
  simp only[Has,Act.eval]
  exact⟨[.func (.func f) #[] #[]],by simp only[HasC];exact⟨[],[],by simp[HasZ],by simp[HasZ],by simp⟩,by simp[mkV,SV.isOne]⟩
 |global g=>
  simp only[ev,Option.some.injEq]at h
  subst h
  simp only[Has,Act.eval]
  exact⟨[.pointer (some ⟨g,0,none⟩)],by simp[HasC,Value.oneCell'],by simp[mkV,SV.isOne]⟩
structure Res where
 ob:Prop
 val:SV
 fk:List (Nat×Blk)
 new:List (Nat×Blk)
 upd:List (Nat×Blk)
theorem Post.pure {ρ:Rho} {w:World} {c:SV} {v:Value} (h:Has ρ c v):Post ρ w c [] [] v ρ w:=
 ⟨.refl ρ,h,fun _ _=>rfl,.refl _ w,(fun k b h=>by rcases h with h|h<;>cases h),(fun _ _ _ h=>by cases h),(fun k b x h=>by cases h),(fun k b k' b' x x' h=>by cases h),fun b o h=>.inl h⟩
section
variable {P:Program} {o:Oper} {ft:List (Nat×SV)} {fk new upd:List (Nat×Blk)} {c:SV}
theorem ok_value (h:∀ρ a w,Pre ft fk new ρ a w→∃v w' ρ',(execOp a.eval o).run P w= .ok (.value v) w'∧Post ρ w c new upd v ρ' w'):OpOK P o ft fk c new upd:=by
 intro ρ a w hp
 obtain⟨v,w',ρ',h1,h2⟩:=h ρ a w hp
 unfold goes
 rw[h1]
 exact⟨v,ρ',rfl,h2⟩
theorem ok_skip (h:∀ρ a w,Pre ft fk new ρ a w→∃w' ρ',(execOp a.eval o).run P w= .ok .skip w'∧Post ρ w c new upd undef ρ' w'):OpOK P o ft fk c new upd:=by
 intro ρ a w hp
 obtain⟨w',ρ',h1,h2⟩:=h ρ a w hp
 unfold goes
 rw[h1]
 exact⟨undef,ρ',rfl,h2⟩
theorem ok_pure (h:∀ρ a w,Pre ft fk [] ρ a w→∃v,(execOp a.eval o).run P w= .ok (.value v) w∧Has ρ c v):OpOK P o ft fk c [] []:=
 ok_value fun ρ a w hp=>by
  obtain⟨v,h1,h2⟩:=h ρ a w hp
  exact⟨v,w,ρ,h1,.pure h2⟩
theorem op_move {x:Operand} (ho:o.op= .move x∨o.op= .assign x) (hx:EvOK ft x c):OpOK P o ft fk c [] []:=
 ok_pure fun ρ a w hp=>⟨a.eval x,by rcases ho with ho|ho<;>simp[execOp,ho],hx ρ a hp.hft⟩
theorem post_new {ρ:Rho} {w:World} {k:Nat} {ty:TypeId} {wr:Bool} {d:Data} {vs:List Value} (hk:ρ.key k=none) (hd:DataC ρ d vs) (hL:d.isLoop=false:=by rfl):
  Post ρ w (.ptr k 0 0 0) [(k,⟨ty,wr,d⟩)] [] (.pointer (some ⟨w.heap.size,0,none⟩)) ⟨fun j=>if j=k then some (w.heap.size,vs.length)else ρ.key j,ρ.imm,ρ.glob⟩ (w.alloc (.cells vs.toArray ty (0,0))):=by
 have hle:ρ.Le ⟨fun j=>if j=k then some (w.heap.size,vs.length)else ρ.key j,ρ.imm,ρ.glob⟩:=⟨fun j x hx=>by
  show(if j=k then _ else _)=_
  by_cases hj:j=k
  ·subst hj;rw[hk]at hx;cases hx
  ·rw[if_neg hj];exact hx,fun b ob hb=>hb⟩
 refine⟨hle, ?_, ?_, ?_, ?_,(fun _ _ _ h=>by cases h), ?_, ?_,fun b ob hb=>.inl hb⟩
 ·simp only[Has,HasC]
  exact⟨_,⟨w.heap.size,vs.length,by simp,rfl⟩,by simp[mkV,SV.isOne]⟩
 ·intro j hj
  show(if j=k then _ else _)=_
  rw[if_neg]
  rintro rfl
  exact hj _ (List.mem_cons_self ..)
 ·exact .of_below ((RowKit.Below.refl _ _).alloc (Nat.le_refl _) _) (Nat.le_refl _)
 ·intro j b hj
  rcases hj with hj|hj
  ·cases hj
  ·simp only[List.mem_singleton,Prod.mk.injEq]at hj
   obtain⟨rfl,rfl⟩:=hj
   refine .inr (.inl ⟨w.heap.size,vs.length,vs,[],by simp, ?_,hd.mono hle,by simp,by simp⟩)
   rw[List.append_nil,Data.obj_cells hL]
   exact heap_alloc_new _ _
 ·intro j b x hj hx
  simp only[List.mem_singleton,Prod.mk.injEq]at hj
  obtain⟨rfl,rfl⟩:=hj
  simp at hx
  rw[←hx]
  exact .inl (Nat.le_refl _)
 ·intro j b j' b' x x' hj hj' hne
  simp only[List.mem_singleton,Prod.mk.injEq]at hj hj'
  exact absurd (hj.1.trans hj'.1.symm) hne
theorem op_box {x:Operand} {elem:TypeId} {k:Nat} {sv:SV} {cs:List SV} (ho:o.op= .box elem x) (hx:EvOK ft x sv) (hc:comps sv=some cs):
  OpOK P o ft fk (.ptr k 0 0 0) [(k,⟨elem,true,.one cs⟩)] []:=
 ok_value fun ρ a w hp=>by
  obtain⟨z,h1,h2⟩:=comps_has hc (hx ρ a hp.hft)
  refine⟨_,_,_, ?_,post_new (ty:=elem) (wr:=true) (d:=.one cs) (vs:=z.flatten) (hp.fresh k _ (List.mem_cons_self ..)) ⟨z,h1,rfl⟩⟩
  have:(a.eval x).cells=z.flatten.toArray:=by rw[←h2]
  simp[execOp,ho,Instr.box,newVar,newRow,this]
theorem op_alloc {elem:TypeId} {k:Nat} {ti:TI} (ho:o.op= .alloc elem) (ht:TOK P elem ti):
  OpOK P o ft fk (.ptr k 0 0 0) [(k,⟨elem,true,.one ti.zero⟩)] []:=
 ok_value fun ρ a w hp=>by
  obtain⟨z,h1,h2⟩:=ht.zeroValue
  obtain⟨_,_,_,_,_,_,_,hz,_⟩:=ht.info
  refine⟨_,_,_, ?_,post_new (ty:=elem) (wr:=true) (d:=.one ti.zero) (vs:=ti.zero.flatMap zcell) (hp.fresh k _ (List.mem_cons_self ..)) ⟨_,zero_has hz,by simp[List.flatMap]⟩⟩
  have:z.cells=(ti.zero.flatMap zcell).toArray:=by rw[←h2]
  simp[execOp,ho,Instr.alloc,newVar,newRow,this,h1]
def obP:Option Prop→Prop
 |none=>True
 |some p=>p
def req (ob:Option Prop) (k:Prop):Prop:=match ob with
 |none=>k
 |some p=>p∧k
theorem req_spec {ob:Option Prop} {k:Prop} (h:req ob k):obP ob∧k:=by
 cases ob with
 |none=>exact⟨trivial,h⟩
 |some p=>exact h
def elem (d:Data) (s i:Nat):Option (Option Prop×List SV):=
 match d with
 |.one cs=>match i with
  |0=>some (none,cs)
  |_+1=>none
 |.ints kd xs=>match Nat.beq s 1 with
  |true=>some (some (i<xs.length),[.val (.int kd (xs.getD i 0))])
  |false=>none
 |.fracs xs=>match Nat.beq s 5 with
  |true=>some (some (i<xs.length),[.frac (xs.getD i 0)])
  |false=>none
 |.seq w xs=>match Nat.beq s w with
  |true=>some (some (i<xs.length),[xs.getD i .any])
  |false=>none
 |.dead=>none
 |.loop _=>none
 |.mp _=>none
 |.mit .. =>none
theorem elem_cells {d:Data} {s i:Nat} {r:Option Prop×List SV} (h:elem d s i=some r):d.isLoop=false:=by
 cases d<;>first|rfl|(simp[elem]at h)
theorem flatMap_seg {α:Type} (f:α→List Value) (n:Nat) (d:α):∀(xs:List α),(∀x∈xs,(f x).length=n)→∀i,i<xs.length→((xs.flatMap f).drop (i*n)).take n=f (xs.getD i d)
 |x::xs,h,0,_=>by
  have hx:=h x (List.mem_cons_self ..)
  simp only[List.flatMap_cons,Nat.zero_mul,List.drop_zero,List.getD_cons_zero]
  rw[←hx,List.take_left]
 |x::xs,h,i+1,hi=>by
  have hx:=h x (List.mem_cons_self ..)
  have ih:=flatMap_seg f n d xs (fun y hy=>h y (List.mem_cons_of_mem _ hy)) i (by simpa using hi)
  simp only[List.flatMap_cons,List.getD_cons_succ]
  have e:(i+1)*n=(f x).length+i*n:=by rw[hx,Nat.succ_mul];omega
  rw[e,List.drop_length_add_append]
  exact ih
theorem flatMap_len {α:Type} (f:α→List Value) (n:Nat):∀(xs:List α),(∀x∈xs,(f x).length=n)→(xs.flatMap f).length=xs.length*n
 |[],_=>by simp
 |x::xs,h=>by
  have hx:=h x (List.mem_cons_self ..)
  have ih:=flatMap_len f n xs (fun y hy=>h y (List.mem_cons_of_mem _ hy))
  simp only[List.flatMap_cons,List.length_append,List.length_cons,hx,ih,Nat.succ_mul]
  omega
theorem HasZ_get {ρ:Rho}:∀{xs:List SV} {z:List (List Value)},HasZ ρ xs z→∀i,i<xs.length→HasC ρ (xs.getD i .any) (z.getD i [])∧z.length=xs.length
 |c::xs,z,h,0,_=>by
  simp only[HasZ]at h
  obtain⟨x,r,rfl,h1,h2⟩:=h
  refine⟨by simpa using h1, ?_⟩
  cases xs with
  |nil=>simp only[HasZ]at h2;subst h2;rfl
  |cons c' xs=>have:=(HasZ_get h2 0 (by simp)).2;simp[this]
 |c::xs,z,h,i+1,hi=>by
  simp only[HasZ]at h
  obtain⟨x,r,rfl,h1,h2⟩:=h
  obtain⟨h3,h4⟩:=HasZ_get h2 i (by simpa using hi)
  exact⟨by simpa using h3,by simp[h4]⟩
theorem mul_lt_len {i n s:Nat} (h:i<n):i*s+s≤n*s:=by
 have:=Nat.mul_le_mul_right s (Nat.succ_le_of_lt h)
 rw[Nat.succ_mul]at this
 exact this
theorem elem_has {ρ:Rho} {d:Data} {s i:Nat} {ob:Option Prop} {cs:List SV} {vs:List Value} (h:elem d s i=some (ob,cs)) (hob:obP ob) (hd:DataC ρ d vs):
  ∃z,HasZ ρ cs z∧z.flatten=(vs.drop (i*s)).take z.flatten.length∧i*s+z.flatten.length≤vs.length:=by
 cases d with
 |dead=>simp[elem]at h
 |loop rc=>simp[elem]at h
 |mp l=>simp[elem]at h
 |mit k l c=>simp[elem]at h
 |one cs'=>
  simp only[elem]at h
  cases i with
  |succ i=>simp at h
  |zero=>
   simp at h
   obtain⟨_,rfl⟩:=h
   simp only[DataC]at hd
   obtain⟨z,h1,rfl⟩:=hd
   exact⟨z,h1,by rw[List.take_of_length_le]<;>simp,by simp⟩
 |ints kd xs=>
  simp only[elem]at h
  cases hs:Nat.beq s 1 with
  |false=>rw[hs]at h;simp at h
  |true=>
   rw[hs]at h
   obtain rfl:s=1:=Nat.eq_of_beq_eq_true hs
   simp only[Option.some.injEq,Prod.mk.injEq]at h
   obtain⟨rfl,rfl⟩:=h
   have hob:i<xs.length:=hob
   simp only[DataC]at hd
   subst hd
   refine⟨[[.int kd (xs.getD i 0)]],by simp[HasZ,HasC,Value.oneCell'], ?_,by simp;omega⟩
   have:=flatMap_seg (fun x:Int=>[Value.int kd x]) 1 0 xs (fun _ _=>rfl) i hob
   rw[show xs.map (Value.int kd)=xs.flatMap (fun x=>[Value.int kd x])from by rw[List.map_eq_flatMap]]
   exact this.symm
 |fracs xs=>
  simp only[elem]at h
  cases hs:Nat.beq s 5 with
  |false=>rw[hs]at h;simp at h
  |true=>
   rw[hs]at h
   obtain rfl:s=5:=Nat.eq_of_beq_eq_true hs
   simp only[Option.some.injEq,Prod.mk.injEq]at h
   obtain⟨rfl,rfl⟩:=h
   have hob:i<xs.length:=hob
   simp only[DataC]at hd
   subst hd
   refine⟨[fracCells (xs.getD i 0)],by simp[HasZ,HasC], ?_, ?_⟩
   ·have:=flatMap_seg fracCells 5 0 xs (fun x _=>(fracCells_one x).1) i hob
    simp only[List.flatten_cons,List.flatten_nil,List.append_nil]
    rw[(fracCells_one _).1]
    exact this.symm
   ·simp only[List.flatten_cons,List.flatten_nil,List.append_nil]
    rw[(fracCells_one _).1,flatMap_len fracCells 5 xs (fun x _=>(fracCells_one x).1)]
    exact mul_lt_len hob
 |seq w xs=>
  simp only[elem]at h
  cases hs:Nat.beq s w with
  |false=>rw[hs]at h;simp at h
  |true=>
   rw[hs]at h
   obtain rfl:s=w:=Nat.eq_of_beq_eq_true hs
   simp only[Option.some.injEq,Prod.mk.injEq]at h
   obtain⟨rfl,rfl⟩:=h
   have hob:i<xs.length:=hob
   simp only[DataC]at hd
   obtain⟨z,h1,rfl,h2⟩:=hd
   have h1:=HasZ.mono (bareR_up ρ ρ.glob) _ _ h1
   obtain⟨h3,h4⟩:=HasZ_get h1 i hob
   have hw:∀(l:List SV) (y:List (List Value)),HasZ ρ l y→(∀x∈l,x.width=s)→∀u∈y,(id u).length=s:=by
    intro l
    induction l with
    |nil=>intro y hy _ u hu;simp only[HasZ]at hy;subst hy;cases hu
    |cons c l ih=>
     intro y hy hc u hu
     simp only[HasZ]at hy
     obtain⟨x,r,rfl,g1,g2⟩:=hy
     rcases List.mem_cons.1 hu with rfl|hu
     ·rw[id,(HasC.len c _ g1).1];exact hc c (List.mem_cons_self ..)
     ·exact ih r g2 (fun x hx=>hc x (List.mem_cons_of_mem _ hx)) u hu
   have hall:=hw xs z h1 h2
   have hi:i<z.length:=by omega
   have hlen:(z.getD i []).length=s:=by
    have:=hall (z.getD i []) (by simp[hi])
    simpa using this
   refine⟨[z.getD i []],by simp only[HasZ];exact⟨_,[],rfl,h3,rfl⟩, ?_, ?_⟩
   ·have:=flatMap_seg id s [] z hall i hi
    simp only[List.flatten_cons,List.flatten_nil,List.append_nil,hlen]
    rw[List.flatMap_id]at this
    exact this.symm
   ·simp only[List.flatten_cons,List.flatten_nil,List.append_nil,hlen]
    have:=flatMap_len id s z hall
    rw[List.flatMap_id]at this
    rw[this,h4]
    exact mul_lt_len hob
theorem take_eq_get {L y:List Value} {off n:Nat} (h:y=(L.drop off).take n):∀j v,y[j]? =some v→L[off+j]? =some v:=by
 intro j v hj
 subst h
 rw[List.getElem?_take]at hj
 split at hj
 ·rw[List.getElem?_drop]at hj;exact hj
 ·cases hj
theorem run_load_at {t:TypeId} {ti:TI} (ht:TOK P t ti) {w:World} {b off:Nat} {L:List Value} {ty:TypeId} {fz:Nat×Nat} {y:List Value} (hh:w.heap[b]? =some (.cells L.toArray ty fz))
  (hy:y=(L.drop off).take ti.size) (hle:off+ti.size≤L.length) (h1:ti.kind.isAgg=true∨ti.size=1):
  (loadVar t ⟨b,off,none⟩).run P w= .ok (if ti.kind.isAgg then .agg y.toArray else y.headD undef) w:=by
 have hlen:y.length=ti.size:=by rw[hy,List.length_take,List.length_drop];omega
 have hcell:∀j v,y[j]? =some v→w.cell? ((⟨b,off,none⟩:Addr).add j)=some v:=by
  intro j v hj
  have h2:=take_eq_get hy j v hj
  have hadd:(⟨b,off,none⟩:Addr).add j=⟨b,off+j,none⟩:=by unfold Addr.add;split<;>simp_all
  rw[hadd,cell_of_row w b (off+j) _ ty fz hh]
  simpa using h2
 unfold loadVar
 rw[Sem.run_bind,ht.isAgg]
 cases ha:ti.kind.isAgg with
 |true=>
  have hl:=run_loadCells_list (P:=P) w ⟨b,off,none⟩ y hcell
  rw[hlen]at hl
  simp[ht.sizeOf,hl]
 |false=>
  rcases h1 with h1|h1
  ·rw[ha]at h1;cases h1
  ·match y,hlen,hcell with
   |[],hlen,_=>simp at hlen;omega
   |v::r,_,hcell=>
    have:=hcell 0 v rfl
    simp only[Addr.add,if_true]at this
    simp[this]
theorem load_at {ρ:Rho} {w:World} {t:TypeId} {ti:TI} {k s i r f b n:Nat} {blk:Blk} {ob:Option Prop} {cs l:List SV} (ht:TOK P t ti) (hkey:ρ.key k=some (b,n)) (hb:BlkOK ρ w k blk)
  (he:elem blk.data s i=some (ob,cs)) (hob:obP ob) (hs:sub f cs r ti.size=some l) (hsz:ti.size≠0) (hsh:shapeAs ti l=some c):∃v,(loadVar t ⟨b,i*s+r,none⟩).run P w= .ok v w∧Has ρ c v:=by
  rcases hb with h0|⟨b',n',vs,ex,h1,h2,h3,h4,h5⟩|⟨h1,h2⟩
  case inl=>cases hd0:blk.data<;>rw[hd0]at h0 he<;>simp[Data.live,elem]at h0 he
  case inr.inr=>rw[hkey]at h1;cases h1
  rw[hkey]at h1
  cases h1
  rw[Data.obj_cells (elem_cells he)]at h2
  obtain⟨z,g1,g2,g3⟩:=elem_has he hob h3
  obtain⟨y,e1,e2,e3⟩:=sub_has f cs r ti.size l z hs g1
  have e3:=e3.resolve_left hsz
  have hy:y.flatten=((vs++ex).drop (i*s+r)).take ti.size:=by
   rw[e2,g2,List.drop_take,List.drop_drop,List.take_take,Nat.min_eq_left (by omega),List.drop_append_of_le_length (by omega),List.take_append_of_le_length (by simp;omega)]
  have hone:ti.kind.isAgg=true∨ti.size=1:=by
   cases ha:ti.kind.isAgg with
   |true=>exact .inl rfl
   |false=>
    right
    unfold shapeAs at hsh
    rw[ha]at hsh
    match l,hsh,e1 with
    |[d],hsh,e1=>
     simp only[HasZ]at e1
     obtain⟨u,_,rfl,d1,rfl⟩:=e1
     have hd:d.isOne=true:=by
      cases hd:d.isOne with
      |true=>rfl
      |false=>simp only at hsh;rw[hd]at hsh;simp at hsh
     have hw1:d.width=1:=by
      cases d<;>simp only[SV.isOne,Bool.false_eq_true]at hd<;>simp only[SV.width]
      exact Pred.bareLen _ hd
     have:=(HasC.len d u d1).1
     simp only[List.flatten_cons,List.flatten_nil,List.append_nil]at e2
     have h7:=congrArg List.length e2
     rw[List.length_take,List.length_drop]at h7
     omega
    |[],hsh,_=>simp at hsh
    |_::_::_,hsh,_=>simp at hsh
  exact⟨_,run_load_at ht (P:=P) h2 hy (by simp;omega) hone,shapeAs_has hsh e1 rfl⟩
theorem op_load {t:TypeId} {x:Operand} {ti:TI} {k s i r f:Nat} {blk:Blk} {ob:Option Prop} {cs l:List SV} (ho:o.op= .load t x) (hx:EvOK ft x (.ptr k s i r)) (ht:TOK P t ti)
  (hk:(k,blk)∈fk) (he:elem blk.data s i=some (ob,cs)) (hob:obP ob) (hs:sub f cs r ti.size=some l) (hsz:ti.size≠0) (hsh:shapeAs ti l=some c):OpOK P o ft fk c [] []:=
 ok_pure fun ρ a w hp=>by
  have hx:=hx ρ a hp.hft
  simp only[Has,HasC]at hx
  obtain⟨_,⟨b,n,hkey,rfl⟩,hv⟩:=hx
  simp only[mkV,SV.isOne,if_true,List.headD_cons]at hv
  obtain⟨v,h1,h2⟩:=load_at ht hkey (hp.hfk k blk hk) he hob hs hsz hsh
  exact⟨v,by simp[execOp,ho,Instr.loadAt,Instr.sureAddr,hv,h1],h2⟩
end
end Go.Sx
namespace Go.Sx
theorem cellsOf_run {P:Program} {t:TypeId} (h:(P.info? t).isSome=true) (w:World):(Go.sizeOf t).run P w= .ok (P.cellsOf t) w:=by
 cases hi:P.info? t with
 |none=>rw[hi]at h;cases h
 |some i=>simp[Go.sizeOf,typeInfo,hi,Program.cellsOf]
def elemPut (d:Data) (i:Nat) (cs:List SV):Option Data:=
 match d with
 |.one _=>match i with
  |0=>some (.one cs)
  |_+1=>none
 |.ints kd xs=>match cs with
  |[.val (.int kd' n)]=>if kd'=kd then some (.ints kd (xs.set i n))else none
  |_=>none
 |.fracs xs=>match cs with
  |[.frac q]=>some (.fracs (xs.set i q))
  |_=>none
 |.seq w xs=>match cs with
  |[c]=>match Nat.beq c.width w&&keyless c with
   |true=>some (.seq w (xs.set i c))
   |false=>none
  |_=>none
 |.dead=>none
 |.loop _=>none
 |.mp _=>none
 |.mit .. =>none
theorem elemPut_cells {d d':Data} {i:Nat} {cs:List SV} (h:elemPut d i cs=some d'):d'.isLoop=false:=by
 cases d<;>simp only[elemPut,reduceCtorEq]at h<;>(repeat' split at h)<;>first|(cases h;rfl)|cases h
theorem flatMap_set {α:Type} (f:α→List Value) (n:Nat):∀(xs:List α),(∀x∈xs,(f x).length=n)→∀i q,i<xs.length→(xs.set i q).flatMap f=(xs.flatMap f).take (i*n)++f q++(xs.flatMap f).drop (i*n+n)
 |x::xs,h,0,q,_=>by
  have hx:=h x (List.mem_cons_self ..)
  simp only[List.set_cons_zero,List.flatMap_cons,Nat.zero_mul,List.take_zero,List.nil_append,Nat.zero_add]
  rw[←hx,List.drop_left]
 |x::xs,h,i+1,q,hi=>by
  have hx:=h x (List.mem_cons_self ..)
  have ih:=flatMap_set f n xs (fun y hy=>h y (List.mem_cons_of_mem _ hy)) i q (by simpa using hi)
  simp only[List.set_cons_succ,List.flatMap_cons,ih]
  have e:(i+1)*n=(f x).length+i*n:=by rw[hx,Nat.succ_mul];omega
  rw[e,List.take_length_add_append,Nat.add_assoc,List.drop_length_add_append]
  simp
theorem HasZ_set {ρ:Rho}:∀{xs:List SV} {z:List (List Value)},HasZ ρ xs z→∀i c x,HasC ρ c x→HasZ ρ (xs.set i c) (z.set i x)
 |[],z,h,i,c,x,_=>by simp only[HasZ]at h;subst h;simp[HasZ]
 |d::xs,z,h,0,c,x,hx=>by
  simp only[HasZ]at h
  obtain⟨y,r,rfl,h1,h2⟩:=h
  simp only[List.set_cons_zero,HasZ]
  exact⟨x,r,rfl,hx,h2⟩
 |d::xs,z,h,i+1,c,x,hx=>by
  simp only[HasZ]at h
  obtain⟨y,r,rfl,h1,h2⟩:=h
  simp only[List.set_cons_succ,HasZ]
  exact⟨y,_,rfl,h1,HasZ_set h2 i c x hx⟩
theorem HasZ_widths {ρ:Rho} {s:Nat}:∀(l:List SV) (y:List (List Value)),HasZ ρ l y→(∀x∈l,x.width=s)→∀u∈y,(id u).length=s
 |[],y,hy,_,u,hu=>by simp only[HasZ]at hy;subst hy;cases hu
 |c::l,y,hy,hc,u,hu=>by
  simp only[HasZ]at hy
  obtain⟨x,r,rfl,g1,g2⟩:=hy
  rcases List.mem_cons.1 hu with rfl|hu
  ·rw[id,(HasC.len c _ g1).1];exact hc c (List.mem_cons_self ..)
  ·exact HasZ_widths l r g2 (fun x hx=>hc x (List.mem_cons_of_mem _ hx)) u hu
theorem elemPut_has {ρ:Rho} {d d':Data} {s i:Nat} {ob:Option Prop} {cs cs':List SV} {vs:List Value} {z':List (List Value)} (h:elem d s i=some (ob,cs)) (hob:obP ob) (hd:DataC ρ d vs)
  (h':elemPut d i cs'=some d') (hz:HasZ ρ cs' z') (hlen:z'.flatten.length=SV.widthL cs):
  DataC ρ d' (vs.take (i*s)++z'.flatten++vs.drop (i*s+SV.widthL cs)):=by
 cases d with
 |dead=>simp[elem]at h
 |loop rc=>simp[elem]at h
 |mp l=>simp[elem]at h
 |mit k l c=>simp[elem]at h
 |one cs0=>
  simp only[elem]at h
  cases i with
  |succ i=>simp at h
  |zero=>
   simp at h
   obtain⟨_,rfl⟩:=h
   simp only[elemPut,Option.some.injEq]at h'
   subst h'
   simp only[DataC]at hd ⊢
   obtain⟨z,h1,rfl⟩:=hd
   refine⟨z',hz, ?_⟩
   rw[List.drop_eq_nil_of_le (by rw[(HasZ.len _ _ h1).1];omega)]
   simp
 |ints kd xs=>
  simp only[elem]at h
  cases hs:Nat.beq s 1 with
  |false=>rw[hs]at h;simp at h
  |true=>
   rw[hs]at h
   obtain rfl:s=1:=Nat.eq_of_beq_eq_true hs
   simp only[Option.some.injEq,Prod.mk.injEq]at h
   obtain⟨rfl,rfl⟩:=h
   have hob:i<xs.length:=hob
   unfold elemPut at h'
   simp only at h'
   split at h'
   ·rename_i kd' n
    split at h'
    ·rename_i hk
     subst hk
     simp only[Option.some.injEq]at h'
     subst h'
     simp only[DataC]at hd ⊢
     subst hd
     simp only[HasZ,HasC]at hz
     obtain⟨x,r,rfl,⟨rfl,_⟩,rfl⟩:=hz
     have:=flatMap_set (fun x:Int=>[Value.int kd' x]) 1 xs (fun _ _=>rfl) i n hob
     rw[List.map_eq_flatMap,List.map_eq_flatMap,this]
     simp[SV.widthL,SV.width]
    ·simp at h'
   ·simp at h'
 |fracs xs=>
  simp only[elem]at h
  cases hs:Nat.beq s 5 with
  |false=>rw[hs]at h;simp at h
  |true=>
   rw[hs]at h
   obtain rfl:s=5:=Nat.eq_of_beq_eq_true hs
   simp only[Option.some.injEq,Prod.mk.injEq]at h
   obtain⟨rfl,rfl⟩:=h
   have hob:i<xs.length:=hob
   unfold elemPut at h'
   simp only at h'
   split at h'
   ·rename_i q
    simp only[Option.some.injEq]at h'
    subst h'
    simp only[DataC]at hd ⊢
    subst hd
    simp only[HasZ,HasC]at hz
    obtain⟨x,r,rfl,rfl,rfl⟩:=hz
    have:=flatMap_set fracCells 5 xs (fun x _=>(fracCells_one x).1) i q hob
    rw[this]
    simp[SV.widthL,SV.width]
   ·simp at h'
 |seq w xs=>
  simp only[elem]at h
  cases hs:Nat.beq s w with
  |false=>rw[hs]at h;simp at h
  |true=>
   rw[hs]at h
   obtain rfl:s=w:=Nat.eq_of_beq_eq_true hs
   simp only[Option.some.injEq,Prod.mk.injEq]at h
   obtain⟨rfl,rfl⟩:=h
   have hob:i<xs.length:=hob
   unfold elemPut at h'
   simp only at h'
   split at h'
   ·rename_i c
    cases hw:(Nat.beq c.width s&&keyless c)with
    |false=>rw[hw]at h';simp at h'
    |true=>
     rw[hw]at h'
     rw[Bool.and_eq_true]at hw
     have hcw:c.width=s:=Nat.eq_of_beq_eq_true hw.1
     simp only[Option.some.injEq]at h'
     subst h'
     simp only[DataC]at hd ⊢
     obtain⟨z,h1,rfl,h2⟩:=hd
     simp only[HasZ]at hz
     obtain⟨x,r,rfl,hx,rfl⟩:=hz
     refine⟨z.set i x,HasZ_set h1 i c x (keyless_has (ρ:=ρ) (ρ':=bareR ρ.imm ρ.glob) (fun _ _ h=>h) c x hw.2 hx), ?_, ?_⟩
     ·have hg:=(HasZ_get h1 i hob).2
      have:=flatMap_set id s z (HasZ_widths xs z h1 h2) i x (by omega)
      rw[List.flatMap_id,List.flatMap_id]at this
      rw[this]
      have hgw:(xs.getD i SV.any).width=s:=h2 _ (by simp[hob])
      simp only[SV.widthL,hgw,id,Nat.add_zero,List.flatten_cons,List.flatten_nil,List.append_nil]
     ·intro y hy
      rcases List.mem_or_eq_of_mem_set hy with h3|h3
      ·exact h2 y h3
      ·rw[h3];exact hcw
   ·simp at h'
theorem heap_setRow_same {w:World} {g:Nat} {cs cs':Array Value} {t:TypeId} {fr:Nat×Nat} (hg:w.heap[g]? =some (.cells cs t fr)):(w.setRow g cs').heap[g]? =some (.cells cs' t fr):=by
 simp[World.setRow,Array.getElem?_modify,hg]
theorem heap_setRow_other {w:World} {g k:Nat} {cs':Array Value} (h:k≠g):(w.setRow g cs').heap[k]? =w.heap[k]? :=by
 simp[World.setRow,Array.getElem?_modify,Ne.symm h]
section
variable {P:Program} {o:Oper} {ft:List (Nat×SV)} {fk new upd:List (Nat×Blk)} {c:SV}
theorem op_store {t:TypeId} {x y:Operand} {ti:TI} {k s i r f:Nat} {ty:TypeId} {d d':Data} {ob:Option Prop} {cs cs' nw:List SV} {sv:SV} (ho:o.op= .store t x y) (hx:EvOK ft x (.ptr k s i r)) (hy:EvOK ft y sv)
  (ht:TOK P t ti) (hk:(k,⟨ty,true,d⟩)∈fk) (he:elem d s i=some (ob,cs)) (hob:obP ob) (hc:comps sv=some nw) (hw:SV.widthL nw=ti.size) (hle:r+ti.size≤SV.widthL cs)
  (hp:put f cs r ti.size nw=some cs') (hd:elemPut d i cs'=some d'):OpOK P o ft fk .any [] [(k,⟨ty,true,d'⟩)]:=
 ok_skip fun ρ a w hpre=>by
  have hx:=hx ρ a hpre.hft
  simp only[Has,HasC]at hx
  obtain⟨_,⟨b,n,hkey,rfl⟩,hv⟩:=hx
  simp only[mkV,SV.isOne,if_true,List.headD_cons]at hv
  rcases hpre.hfk k _ hk with h0|⟨b',n',vs,ex,h1,h2,h3,h4,h5⟩|⟨h1,h2⟩
  case inl=>simp only at h0;cases d<;>simp[Data.live,elem]at h0 he
  case inr.inr=>rw[hkey]at h1;cases h1
  rw[hkey]at h1
  cases h1
  simp only at h2 h3
  rw[Data.obj_cells (elem_cells he)]at h2
  obtain⟨z,g1,g2,g3⟩:=elem_has he hob h3
  obtain⟨yz,y1,y2⟩:=comps_has hc (hy ρ a hpre.hft)
  have hyl:=(HasZ.len nw yz y1).1
  have hy1:=(HasZ.len nw yz y1).2
  have hzl:=(HasZ.len cs z g1).1
  obtain⟨z',p1,p2⟩:=put_has hp g1 y1
  have hzl':z'.flatten.length=SV.widthL cs:=by
   rw[p2]
   simp only[List.length_append,List.length_take,List.length_drop]
   omega
  have hdc:=elemPut_has he hob h3 hd p1 hzl'
  have hsplit:vs=vs.take (i*s)++(z.flatten++vs.drop (i*s+SV.widthL cs)):=by
   rw[g2,hzl,←List.drop_drop,List.take_append_drop,List.take_append_drop]
  have hAl:(vs.take (i*s)).length=i*s:=by rw[List.length_take];omega
  generalize hA:vs.take (i*s)=A at hsplit hAl hdc
  generalize hC:vs.drop (i*s+SV.widthL cs)=C at hsplit hdc
  have hsz:(yz.flatten).length=ti.size:=by omega
  have hL:(vs++ex).take (i*s+r)++yz.flatten++(vs++ex).drop (i*s+r+yz.flatten.length)=(A++z'.flatten++C)++ex:=by
   rw[hsplit,p2,hsz,←hAl]
   simp only[List.append_assoc]
   rw[List.take_length_add_append,Nat.add_assoc,List.drop_length_add_append,List.take_append_of_le_length (by omega),List.drop_append_of_le_length (by omega)]
   try simp
  have hrun:(storeVar t ⟨b,i*s+r,none⟩ (a.eval y)).run P w= .ok () (w.setRow b ((A++z'.flatten++C)++ex).toArray):=by
   have hsc:=run_storeCells_at (P:=P) b (i*s+r) ty yz.flatten 0 (vs++ex).toArray w h2 (by simp only[List.size_toArray,List.length_append];omega) hy1
   simp only[Nat.add_zero,hL]at hsc
   have hcells:(a.eval y).cells.size=ti.size:=by rw[←Array.length_toList,y2];exact hsz
   unfold storeVar
   simp only[Sem.run_bind,ht.sizeOf,Result.andThen_ok,hcells,ne_eq,not_true_eq_false,if_false,y2,hsc]
  refine⟨w.setRow b ((A++z'.flatten++C)++ex).toArray,ρ, ?_, ?_⟩
  ·simp only[execOp,ho,Instr.storeAt,Instr.sureAddr,hv,Sem.run_bind,Sem.run_pure,Result.andThen_ok,hrun]
  ·refine⟨.refl ρ,trivial,fun _ _=>rfl,⟨rfl,rfl,rfl,by simp[World.setRow],fun i hi hn=> ?_,Nat.le_refl _⟩,fun j bj hj=> ?_,(fun j c c' h1 h2 h3 h4=> ?_),(fun _ _ _ h=>by cases h),(fun _ _ _ _ _ _ h=>by cases h),fun b o h=>.inl h⟩
   ·refine heap_setRow_other fun hib=>hn ⟨k,_,n,List.mem_cons_self .., ?_⟩
    rw[hib];exact hkey
   ·rcases hj with hj|hj
    ·simp only[List.mem_singleton,Prod.mk.injEq]at hj
     obtain⟨rfl,rfl⟩:=hj
     refine .inr (.inl ⟨b,n,_,ex,hkey,by rw[Data.obj_cells (elemPut_cells hd)];exact heap_setRow_same h2,hdc, ?_,h5⟩)
     rw[←h4,hsplit]
     simp only[List.length_append,hzl',hzl]
     omega
    ·cases hj
   ·simp only[List.mem_singleton,Prod.mk.injEq]at h1 h2
    obtain⟨_,rfl⟩:=h1
    obtain⟨_,rfl⟩:=h2
    rw[h3]at h4;cases h4
theorem op_fieldAddr {S:TypeId} {x:Operand} {j off e sz:Nat} {ti:TI} {fs:List (Nat×TypeId×Nat)} {k s i r:Nat} (ho:o.op= .fieldAddr S x j) (hx:EvOK ft x (.ptr k s i r)) (ht:TOK P S ti)
  (hkd:ti.kind= .agg fs) (hj:fs[j]? =some (off,e,sz)) (hsz:sz≠0):OpOK P o ft fk (.ptr k s i (r+off)) [] []:=
 ok_pure fun ρ a w hp=>by
  have hx:=hx ρ a hp.hft
  simp only[Has,HasC]at hx
  obtain⟨_,⟨b,n,hkey,rfl⟩,hv⟩:=hx
  simp only[mkV,SV.isOne,if_true,List.headD_cons]at hv
  have hk:=ht.kind
  rw[hkd]at hk
  obtain⟨h1,h2,h3⟩:=hk
  have hf:∃fd,(P.fieldsOf S)[j]? =some fd∧fd.offset=off∧P.cellsOf fd.type=sz∧(P.info? fd.type).isSome=true:=by
   rw[←h2,List.getElem?_map]at hj
   cases hq:(P.fieldsOf S).toList[j]? with
   |none=>rw[hq]at hj;simp at hj
   |some fd=>
    rw[hq]at hj
    simp only[Option.map_some,Option.some.injEq,Prod.mk.injEq]at hj
    refine⟨fd,by simpa using hq,hj.1,hj.2.2, ?_⟩
    exact List.all_eq_true.1 h3 fd (List.mem_of_getElem? hq)
  obtain⟨fd,f1,f2,f3,f4⟩:=hf
  refine⟨.pointer (some ⟨b,i*s+(r+off),none⟩), ?_, ?_⟩
  ·have hadd:(⟨b,i*s+r,none⟩:Addr).add fd.offset=⟨b,i*s+(r+off),none⟩:=by
    unfold Addr.add
    rw[f2]
    split
    ·rename_i h0;simp[h0]
    ·simp[Nat.add_assoc]
   simp[execOp,ho,Instr.fieldAt,run_underlying h1,f1,Instr.sureAddr,hv,fieldPlace,cellsOf_run f4,f3,hsz,hadd]
  ·simp only[Has,HasC]
   exact⟨_,⟨b,n,hkey,rfl⟩,by simp[mkV,SV.isOne]⟩
theorem op_extract {x:Operand} {ix:Nat} {l:List SV} (ho:o.op= .extract x ix) (hx:EvOK ft x (.tup l)) (hl:l[ix]? =some c) (hc:c.isOne=true∨(comps c).isSome=true):OpOK P o ft fk c [] []:=
 ok_pure fun ρ a w hp=>by
  have hx:=hx ρ a hp.hft
  simp only[Has]at hx
  obtain⟨z,h1,hv⟩:=hx
  have key:∀(l:List SV) (z:List (List Value)) (ix:Nat),HasZ ρ l z→l[ix]? =some c→∃x,HasC ρ c x∧(List.zipWith mkV l z)[ix]? =some (mkV c x):=by
   intro l
   induction l with
   |nil=>intro z ix _ h;simp at h
   |cons d l ih=>
    intro z ix hz h
    simp only[HasZ]at hz
    obtain⟨x,r,rfl,g1,g2⟩:=hz
    cases ix with
    |zero=>simp at h;subst h;exact⟨x,g1,by simp⟩
    |succ ix=>simpa using ih r ix g2 (by simpa using h)
  obtain⟨x',g1,g2⟩:=key l z ix h1 hl
  refine⟨mkV c x', ?_, ?_⟩
  ·simp[execOp,ho,Instr.extract,hv,g2]
  ·cases c<;>simp only[Has]
   case tup=>simp[comps,SV.isOne]at hc
   all_goals exact⟨x',g1,rfl⟩
end
end Go.Sx
namespace Go.Sx
def iand (k:IntKind) (x y:Int):Int:=k.wrap (BitVec.ofInt k.bits x&&& BitVec.ofInt k.bits y).toNat
def ior (k:IntKind) (x y:Int):Int:=k.wrap (BitVec.ofInt k.bits x|||BitVec.ofInt k.bits y).toNat
def ixor (k:IntKind) (x y:Int):Int:=k.wrap (BitVec.ofInt k.bits x^^^BitVec.ofInt k.bits y).toNat
def ishl (k:IntKind) (x y:Int):Int:=k.wrap (x*2^(min y.toNat k.bits))
def ishr (k:IntKind) (x y:Int):Int:=x.fdiv (2^(min y.toNat k.bits))
def ibin (op:BinOp) (k:IntKind) (a b:Int):Option (Option Prop×Value):=
 match op with
 |.add=>some (none,.int k (k.wrap (a+b)))
 |.sub=>some (none,.int k (k.wrap (a - b)))
 |.mul=>some (none,.int k (k.wrap (a*b)))
 |.quo=>some (some (b≠0),.int k (k.wrap (a.tdiv b)))
 |.rem=>some (some (b≠0),.int k (a.tmod b))
 |.and=>some (none,.int k (iand k a b))
 |.or=>some (none,.int k (ior k a b))
 |.xor=>some (none,.int k (ixor k a b))
 |.eql=>some (none,.bool (a==b))
 |.neq=>some (none,.bool (a != b))
 |.lss=>some (none,.bool (decide (a<b)))
 |.leq=>some (none,.bool (decide (a≤b)))
 |.gtr=>some (none,.bool (decide (a>b)))
 |.geq=>some (none,.bool (decide (a≥b)))
 |_=>none
theorem has_val {ρ:Rho} {v:Value} (h:v.oneCell'=true):Has ρ (.val v) v:=by
 simp only[Has,HasC]
 exact⟨[v],⟨rfl,h⟩,by simp[mkV,SV.isOne]⟩
theorem of_has_val {ρ:Rho} {u v:Value} (h:Has ρ (.val u) v):v=u:=by
 simp only[Has,HasC]at h
 obtain⟨_,⟨rfl,_⟩,rfl⟩:=h
 rfl
section
variable {P:Program} {o:Oper} {ft:List (Nat×SV)} {fk:List (Nat×Blk)}
theorem op_ibin {op:BinOp} {xt yt:TypeId} {x y:Operand} {k:IntKind} {a b:Int} {ob:Option Prop} {v:Value} (ho:o.op= .binOp op xt x y yt) (hx:EvOK ft x (.val (.int k a))) (hy:EvOK ft y (.val (.int k b)))
  (h:ibin op k a b=some (ob,v)) (hob:obP ob):OpOK P o ft fk (.val v) [] []:=
 ok_pure fun ρ ac w hp=>by
  have e1:=of_has_val (hx ρ ac hp.hft)
  have e2:=of_has_val (hy ρ ac hp.hft)
  refine⟨v, ?_, ?_⟩
  ·cases op<;>simp only[ibin,Option.some.injEq,Prod.mk.injEq,reduceCtorEq]at h<;>obtain⟨rfl,rfl⟩:=h<;>
    first
    |(simp[execOp,ho,e1,e2,eqGuard,binOp,Op.intArith];done)
    |(have hob:b≠0:=hob;simp[execOp,ho,e1,e2,eqGuard,binOp,Op.intDiv,hob];done)
    |(simp[execOp,ho,e1,e2,eqGuard,binOp,Op.intBits,iand,ior,ixor];done)
    |(simp[execOp,ho,e1,e2,eqGuard,binOp,Op.intCmp];done)
  ·refine has_val ?_
   cases op<;>simp only[ibin,Option.some.injEq,Prod.mk.injEq,reduceCtorEq]at h<;>obtain⟨rfl,rfl⟩:=h<;>rfl
theorem op_shl {xt yt:TypeId} {x y:Operand} {k k':IntKind} {a b:Int} (ho:o.op= .binOp .shl xt x y yt) (hx:EvOK ft x (.val (.int k a))) (hy:EvOK ft y (.val (.int k' b)))
  (hob:0≤b):OpOK P o ft fk (.val (.int k (ishl k a b))) [] []:=
 ok_pure fun ρ ac w hp=>by
  have e1:=of_has_val (hx ρ ac hp.hft)
  have e2:=of_has_val (hy ρ ac hp.hft)
  refine⟨_, ?_,has_val rfl⟩
  have:¬b<0:=by omega
  simp[execOp,ho,e1,e2,eqGuard,binOp,Op.shift,this,ishl]
theorem op_shr {xt yt:TypeId} {x y:Operand} {k k':IntKind} {a b:Int} (ho:o.op= .binOp .shr xt x y yt) (hx:EvOK ft x (.val (.int k a))) (hy:EvOK ft y (.val (.int k' b)))
  (hob:0≤b):OpOK P o ft fk (.val (.int k (ishr k a b))) [] []:=
 ok_pure fun ρ ac w hp=>by
  have e1:=of_has_val (hx ρ ac hp.hft)
  have e2:=of_has_val (hy ρ ac hp.hft)
  refine⟨_, ?_,has_val rfl⟩
  have:¬b<0:=by omega
  simp[execOp,ho,e1,e2,eqGuard,binOp,Op.shift,this,ishr]
theorem op_beq {xt yt:TypeId} {x y:Operand} {a b:Bool} {ti:TI} (ho:o.op= .binOp .eql xt x y yt) (hx:EvOK ft x (.val (.bool a))) (hy:EvOK ft y (.val (.bool b))) (ht:TOK P xt ti) (hk:ti.kind= .bool):
  OpOK P o ft fk (.val (.bool (a==b))) [] []:=
 ok_pure fun ρ ac w hp=>by
  have e1:=of_has_val (hx ρ ac hp.hft)
  have e2:=of_has_val (hy ρ ac hp.hft)
  have h:=ht.kind;rw[hk]at h
  refine⟨_, ?_,has_val rfl⟩
  simp[execOp,ho,e1,e2,eqGuard,run_eql_bool w xt a b h]
theorem op_bne {xt yt:TypeId} {x y:Operand} {a b:Bool} {ti:TI} (ho:o.op= .binOp .neq xt x y yt) (hx:EvOK ft x (.val (.bool a))) (hy:EvOK ft y (.val (.bool b))) (ht:TOK P xt ti) (hk:ti.kind= .bool):
  OpOK P o ft fk (.val (.bool (a != b))) [] []:=
 ok_pure fun ρ ac w hp=>by
  have e1:=of_has_val (hx ρ ac hp.hft)
  have e2:=of_has_val (hy ρ ac hp.hft)
  have h:=ht.kind;rw[hk]at h
  refine⟨_, ?_,has_val rfl⟩
  simp[execOp,ho,e1,e2,eqGuard,run_neq_bool w xt a b h]
  cases a<;>cases b<;>rfl
def sbin (op:BinOp) (a b:ByteArray):Option (Option Prop×Value):=
 match op with
 |.add=>some (some (a.size+b.size≤9223372036854775807),.string (a++b))
 |.eql=>some (none,.bool (a.toList==b.toList))
 |.neq=>some (none,.bool (!(a.toList==b.toList)))
 |_=>none
theorem op_sbin {op:BinOp} {xt yt:TypeId} {x y:Operand} {a b:ByteArray} {ob:Option Prop} {v:Value} (ho:o.op= .binOp op xt x y yt) (hx:EvOK ft x (.val (.string a))) (hy:EvOK ft y (.val (.string b)))
  (h:sbin op a b=some (ob,v)) (hob:obP ob):OpOK P o ft fk (.val v) [] []:=
 ok_pure fun ρ ac w hp=>by
  have e1:=of_has_val (hx ρ ac hp.hft)
  have e2:=of_has_val (hy ρ ac hp.hft)
  refine⟨v, ?_, ?_⟩
  ·cases op<;>simp only[sbin,Option.some.injEq,Prod.mk.injEq,reduceCtorEq]at h<;>obtain⟨rfl,rfl⟩:=h
   case add=>
    simp[execOp,ho,e1,e2,eqGuard,binOp,run_string_add_sum w a b (show a.size+b.size≤9223372036854775807 from hob)]
   all_goals simp[execOp,ho,e1,e2,eqGuard,binOp,Op.stringOp]
  ·refine has_val ?_
   cases op<;>simp only[sbin,Option.some.injEq,Prod.mk.injEq,reduceCtorEq]at h<;>obtain⟨rfl,rfl⟩:=h<;>rfl
theorem op_not {xt:TypeId} {x:Operand} {a:Bool} (ho:o.op= .unOp .not xt x) (hx:EvOK ft x (.val (.bool a))):OpOK P o ft fk (.val (.bool (!a))) [] []:=
 ok_pure fun ρ ac w hp=>by
  have e1:=of_has_val (hx ρ ac hp.hft)
  exact⟨_,by simp[execOp,ho,e1,Op.unary],has_val rfl⟩
theorem op_neg {xt:TypeId} {x:Operand} {k:IntKind} {a:Int} (ho:o.op= .unOp .neg xt x) (hx:EvOK ft x (.val (.int k a))):OpOK P o ft fk (.val (.int k (k.wrap (0 - a)))) [] []:=
 ok_pure fun ρ ac w hp=>by
  have e1:=of_has_val (hx ρ ac hp.hft)
  exact⟨_,by simp[execOp,ho,e1,Op.unary,Op.intArith],has_val rfl⟩
theorem op_xor {xt:TypeId} {x:Operand} {k:IntKind} {a:Int} (ho:o.op= .unOp .xor xt x) (hx:EvOK ft x (.val (.int k a))):OpOK P o ft fk (.val (.int k (ixor k (if k.signed=true then -1 else k.max) a))) [] []:=
 ok_pure fun ρ ac w hp=>by
  have e1:=of_has_val (hx ρ ac hp.hft)
  exact⟨_,by simp[execOp,ho,e1,Op.unary,Op.intBits,ixor],has_val rfl⟩
theorem op_conv {src dst:TypeId} {x:Operand} {k k':IntKind} {a:Int} {ts td:TI} (ho:o.op= .convert src dst x) (hx:EvOK ft x (.val (.int k' a))) (hs:TOK P src ts) (hd:TOK P dst td) (hk:td.kind= .int k) (hk':ts.kind= .int k'):
  OpOK P o ft fk (.val (.int k (k.wrap a))) [] []:=
 ok_pure fun ρ ac w hp=>by
  have e1:=of_has_val (hx ρ ac hp.hft)
  have h1:=hs.kind;rw[hk']at h1
  have h2:=hd.kind;rw[hk]at h2
  exact⟨_,by simp[execOp,ho,e1,convert,run_underlying h1,run_underlying h2,Conv.intToInt],has_val rfl⟩
theorem op_pick {x y z:Operand} {b:Bool} {c c1 c2:SV} (ho:o.op= .pick x y z) (hx:EvOK ft x (.val (.bool b))) (hy:b=true→EvOK ft y c1) (hz:b=false→EvOK ft z c2) (hc:c=if b then c1 else c2):OpOK P o ft fk c [] []:=
 ok_pure fun ρ ac w hp=>by
  have e1:=of_has_val (hx ρ ac hp.hft)
  cases b
  ·refine⟨ac.eval z,by simp[execOp,ho,e1,asBool], ?_⟩
   rw[hc];simpa using hz rfl ρ ac hp.hft
  ·refine⟨ac.eval y,by simp[execOp,ho,e1,asBool], ?_⟩
   rw[hc];simpa using hy rfl ρ ac hp.hft
end
def FnOK (P:Program) (f:FuncId):Prop:=∃fn,P.funcs[f]? =some fn∧(fn.name== "runtime.NumGoroutine")=false∧fn.body.isNone=false
structure PreW (fk new:List (Nat×Blk)) (ρ:Rho) (w:World):Prop where
 hfk:∀k b,(k,b)∈fk→BlkOK ρ w k b
 sep:∀k k' x x' b b',(k,b)∈fk→(k',b')∈fk→ρ.key k=some x→ρ.key k'=some x'→k≠k'→x.1=x'.1→b.data.live=true→b'.data.live=true→b.wr=false
 imm:∀b o,ρ.imm b=some o→w.heap[b]? =some o
 immw:∀k b x,(k,b)∈fk→b.wr=true→b.data.live=true→ρ.key k=some x→ρ.imm x.1=none
 fresh:∀k b,(k,b)∈new→ρ.key k=none
theorem Pre.toW {ft:List (Nat×SV)} {fk new:List (Nat×Blk)} {ρ:Rho} {a:Act} {w:World} (h:Pre ft fk new ρ a w):PreW fk new ρ w:=⟨h.hfk,h.sep,h.imm,h.immw,h.fresh⟩
def CallOK (P:Program) (f:FuncId) (args:List SV) (fk:List (Nat×Blk)) (c:SV) (new upd:List (Nat×Blk)):Prop:=
 (FnOK P f∧∀ρ w z,HasZ ρ args z→PreW fk new ρ w→
  Calls P f (List.zipWith mkV args z).toArray w fun e w'=>∃v ρ',e= .returned v∧Post ρ w c new upd v ρ' w')∨
 (∀ρ w z,HasZ ρ args z→PreW fk new ρ w→∃v ρ' w',(callFunc f (List.zipWith mkV args z).toArray).run P w= .ok (.value v) w'∧Post ρ w c new upd v ρ' w')
def passable:SV→Bool
 |.any|.tup _=>false
 |_=>true
theorem has_pass {ρ:Rho} {c:SV} {v:Value} (h:passable c=true) (hv:Has ρ c v):∃x,HasC ρ c x∧v=mkV c x:=by
 cases c<;>simp[passable]at h<;>simpa only[Has]using hv
def evs (fr:List (Nat×SV)):List Operand→Option (List SV)
 |[]=>some []
 |x::r=>match ev fr x with
  |none=>none
  |some c=>match passable c with
   |false=>none
   |true=>match evs fr r with
    |none=>none
    |some l=>some (c::l)
theorem evs_ok {fr:List (Nat×SV)}:∀{xs:List Operand} {l:List SV},evs fr xs=some l→∀ρ a,(∀t s,(t,s)∈fr→Has ρ s (a.tmps.getD t undef))→∃z,HasZ ρ l z∧xs.map (Act.eval a)=List.zipWith mkV l z
 |[],l,h,ρ,a,_=>by simp[evs]at h;subst h;exact⟨[],by simp[HasZ],rfl⟩
 |x::r,l,h,ρ,a,hf=>by
  simp only[evs]at h
  cases hx:ev fr x with
  |none=>rw[hx]at h;simp at h
  |some c=>
   rw[hx]at h
   simp only at h
   cases hp:passable c with
   |false=>rw[hp]at h;simp at h
   |true=>
    rw[hp]at h
    simp only at h
    cases hr:evs fr r with
    |none=>rw[hr]at h;simp at h
    |some l'=>
     rw[hr]at h
     simp only[Option.some.injEq]at h
     subst h
     obtain⟨z,h1,h2⟩:=evs_ok hr ρ a hf
     obtain⟨y,h3,h4⟩:=has_pass hp (ev_ok hx ρ a hf)
     exact⟨y::z,by simp only[HasZ];exact⟨y,z,rfl,h3,h1⟩,by simp[h2,h4]⟩
section
variable {P:Program} {o:Oper} {fr:List (Nat×SV)}
theorem op_call {x:Operand} {xs:Array Operand} {ts:Array TypeId} {f:FuncId} {first cap args:List SV} {fk new upd:List (Nat×Blk)} {c:SV}
  (ho:o.op= .call ⟨.value x,xs,ts⟩) (hx:ev fr x=some (.clo f first cap)) (hxs:evs fr xs.toList=some args)
  (hc:CallOK P f (first++(args++cap)) fk c new upd):OpOK P o fr fk c new upd:=by
 intro ρ a w hp
 have e1:=ev_ok hx ρ a hp.hft
 simp only[Has,HasC]at e1
 obtain⟨_,⟨fz,cz,h1,h2,rfl⟩,hv⟩:=e1
 simp only[mkV,SV.isOne,if_true,List.headD_cons]at hv
 obtain⟨z,h3,h4⟩:=evs_ok hxs ρ a hp.hft
 have zl:∀(l:List SV) (z:List (List Value)),HasZ ρ l z→l.length=z.length:=by
  intro l
  induction l with
  |nil=>intro z hz;simp only[HasZ]at hz;subst hz;rfl
  |cons c l ih=>intro z hz;simp only[HasZ]at hz;obtain⟨x,r,rfl,_,h⟩:=hz;simp[ih r h]
 have hargs:(List.zipWith mkV (first++(args++cap)) (fz++(z++cz))).toArray=((List.zipWith mkV first fz).toArray++xs.map (Act.eval a))++(List.zipWith mkV cap cz).toArray:=by
  rw[List.zipWith_append (zl _ _ h1),List.zipWith_append (zl _ _ h3),←h4]
  apply Array.ext'
  simp
 have hrun0:(execOp a.eval o).run P w=(callFunc f (List.zipWith mkV (first++(args++cap)) (fz++(z++cz))).toArray).run P w:=by
  rw[hargs]
  simp[execOp,ho,resolve,hv,Deferred.ofValue,invoke]
 rcases hc with⟨⟨fn,hf,hn,hb⟩,hcall⟩|hext
 ·have hrun:(execOp a.eval o).run P w= .ok (.enter f (List.zipWith mkV (first++(args++cap)) (fz++(z++cz))).toArray) w:=by
   have hn':¬fn.name= "runtime.NumGoroutine" :=by simpa using hn
   have hb':¬fn.body=none:=fun h=>by rw[h]at hb;cases hb
   rw[hrun0]
   simp[callFunc,hf,hn',hb']
  unfold goes
  rw[hrun]
  simp only
  refine(hcall ρ w _ (HasZ_append h1 (HasZ_append h3 h2)) hp.toW).mono ?_
  rintro e w' ⟨v,ρ',rfl,hpost⟩
  exact⟨v,rfl,v,ρ',rfl,hpost⟩
 ·obtain⟨v,ρ',w',hr,hpost⟩:=hext ρ w _ (HasZ_append h1 (HasZ_append h3 h2)) hp.toW
  unfold goes
  rw[hrun0,hr]
  exact⟨v,ρ',rfl,hpost⟩
def YldOK (P:Program) (k:Nat) (rc:Loop) (ts:List Nat) (cap args:List SV) (fk:List (Nat×Blk)) (c:SV) (new upd:List (Nat×Blk)):Prop:=
 ∀ρ w z zc l t,HasZ ρ args z→HasZ ρ cap zc→(List.zipWith mkV cap zc=ts.map fun t=>rc.tmps.getD t undef)→ρ.key k=some (l,t)→PreW fk new ρ w→
  ∃f tmps assign body,(Instr.yield l (List.zipWith mkV args z).toArray).run P w= .ok (.round l f tmps assign body) w∧
   RoundIn Fence.wide 0 P l f tmps assign body w fun e w'=>∃v ρ',e= .returned v∧Post ρ w c new upd v ρ' w'
theorem op_yield {x:Operand} {xs:Array Operand} {ts:Array TypeId} {k:Nat} {rc:Loop} {us:List Nat} {cap args:List SV} {fk new upd:List (Nat×Blk)} {c:SV}
  (ho:o.op= .call ⟨.value x,xs,ts⟩) (hx:ev fr x=some (.yld k rc us cap)) (hxs:evs fr xs.toList=some args)
  (hc:YldOK P k rc us cap args fk c new upd):OpOK P o fr fk c new upd:=by
 intro ρ a w hp
 have e1:=ev_ok hx ρ a hp.hft
 simp only[Has,HasC]at e1
 obtain⟨_,⟨l,t,h0,rfl,zc,h1,h2⟩,hv⟩:=e1
 simp only[mkV,SV.isOne,if_true,List.headD_cons]at hv
 obtain⟨z,h3,h4⟩:=evs_ok hxs ρ a hp.hft
 obtain⟨f,tmps,assign,body,hy,hr⟩:=hc ρ w z zc l t h3 h1 h2 h0 hp.toW
 have hrun:(execOp a.eval o).run P w= .ok (.round l f tmps assign body) w:=by
  have e:xs.map (Act.eval a)=(List.zipWith mkV args z).toArray:=by apply Array.ext';simp[h4]
  rw[←hy,←e]
  simp[execOp,ho,resolve,hv,Deferred.ofValue,invoke]
 unfold goes
 rw[hrun]
 simp only
 refine hr.mono ?_
 rintro e w' ⟨v,ρ',rfl,hpost⟩
 exact⟨v,rfl,v,ρ',rfl,hpost⟩
end
end Go.Sx
namespace Go.Sx
theorem has_slc {ρ:Rho} {k s i n:Nat} {v:Value} (h:Has ρ (.slc k s i n) v):
  (∃b t cap,ρ.key k=some (b,t)∧n≤cap∧(i+cap)*s≤t∧v= .slice (some ⟨b,i*s,none⟩) n cap)∨(n=0∧∃a,v= .slice a 0 0):=by
 simp only[Has,HasC]at h
 obtain⟨x,h1,rfl⟩:=h
 rcases h1 with⟨b,t,cap,e1,e2,e3,rfl⟩|⟨e1,a,rfl⟩
 ·exact .inl ⟨b,t,cap,e1,e2,e3,by simp[mkV,SV.isOne]⟩
 ·exact .inr ⟨e1,a,by simp[mkV,SV.isOne]⟩
theorem slc_has {ρ:Rho} {k s i n:Nat} {v:Value} (h:(∃b t cap,ρ.key k=some (b,t)∧n≤cap∧(i+cap)*s≤t∧v= .slice (some ⟨b,i*s,none⟩) n cap)∨(n=0∧∃a,v= .slice a 0 0)):Has ρ (.slc k s i n) v:=by
 simp only[Has,HasC]
 refine⟨[v], ?_,by simp[mkV,SV.isOne]⟩
 rcases h with⟨b,t,cap,e1,e2,e3,rfl⟩|⟨e1,a,rfl⟩
 ·exact .inl ⟨b,t,cap,e1,e2,e3,rfl⟩
 ·exact .inr ⟨e1,a,rfl⟩
theorem has_ptr {ρ:Rho} {k s i r:Nat} {v:Value} (h:Has ρ (.ptr k s i r) v):∃b t,ρ.key k=some (b,t)∧v= .pointer (some ⟨b,i*s+r,none⟩):=by
 simp only[Has,HasC]at h
 obtain⟨_,⟨b,n,hkey,rfl⟩,rfl⟩:=h
 exact⟨b,n,hkey,by simp[mkV,SV.isOne]⟩
theorem ptr_has {ρ:Rho} {k s i r b t:Nat} (h:ρ.key k=some (b,t)):Has ρ (.ptr k s i r) (.pointer (some ⟨b,i*s+r,none⟩)):=by
 simp only[Has,HasC]
 exact⟨_,⟨b,t,h,rfl⟩,by simp[mkV,SV.isOne]⟩
section
variable {P:Program} {o:Oper} {ft:List (Nat×SV)} {fk:List (Nat×Blk)}
theorem op_nilCheck {x:Operand} {k s i r:Nat} (ho:o.op= .nilCheck x) (hx:EvOK ft x (.ptr k s i r)):OpOK P o ft fk (.ptr k s i r) [] []:=
 ok_pure fun ρ a w hp=>by
  obtain⟨b,t,h1,h2⟩:=has_ptr (hx ρ a hp.hft)
  exact⟨_,by simp[execOp,ho,h2],ptr_has h1⟩
theorem op_nilCheckF {x:Operand} {f:FuncId} {first cap:List SV} (ho:o.op= .nilCheck x) (hx:EvOK ft x (.clo f first cap)):OpOK P o ft fk (.clo f first cap) [] []:=
 ok_pure fun ρ a w hp=>by
  have h:=hx ρ a hp.hft
  have h':=h
  simp only[Has,HasC]at h'
  obtain⟨_,⟨fz,cz,_,_,rfl⟩,hv⟩:=h'
  simp only[mkV,SV.isOne,if_true,List.headD_cons]at hv
  exact⟨_,by simp[execOp,ho,hv],hv▸h⟩
theorem op_indexAddr {t e:TypeId} {x ix:Operand} {ti te:TI} {k s i n:Nat} {kd:IntKind} {j:Int} (ho:o.op= .indexAddr t x ix) (hx:EvOK ft x (.slc k s i n)) (hi:EvOK ft ix (.val (.int kd j)))
  (ht:TOK P t ti) (hk:ti.kind= .slc e) (he:TOK P e te) (hs:te.size=s) (h0:0≤j) (hj:j<n):OpOK P o ft fk (.ptr k s (i+j.toNat) 0) [] []:=
 ok_pure fun ρ a w hp=>by
  have e2:=of_has_val (hi ρ a hp.hft)
  have hu:=ht.kind;rw[hk]at hu
  rcases has_slc (hx ρ a hp.hft)with⟨b,t',cap,h1,h2,h3,h4⟩|⟨h1,_⟩
  ·refine⟨.pointer (some ⟨b,(i+j.toNat)*s+0,none⟩), ?_,ptr_has h1⟩
   have hadd:(⟨b,i*s,none⟩:Addr).add (j.toNat*s)=⟨b,(i+j.toNat)*s+0,none⟩:=by
    unfold Addr.add
    rw[Nat.add_mul]
    split
    ·rename_i h0;simp[h0]
    ·rfl
   have hj':0≤j∧j<(n:Int):=⟨h0,hj⟩
   simp only[execOp,ho,Instr.indexAt,e2,h4,asIntOf,Sem.run_bind,Sem.run_pure,Result.andThen_ok,run_underlying hu,hj',and_self,if_true,he.sizeOf,hs,hadd]
  ·omega
theorem op_indexArr {t e:TypeId} {x ix:Operand} {ti te:TI} {k s i r n:Nat} {kd:IntKind} {j:Int} (ho:o.op= .indexAddr t x ix) (hx:EvOK ft x (.ptr k s i r)) (hi:EvOK ft ix (.val (.int kd j)))
  (ht:TOK P t ti) (hk:ti.kind= .arr n e) (he:TOK P e te) (h0:0≤j) (hj:j<n):OpOK P o ft fk (.ptr k s i (r+j.toNat*te.size)) [] []:=
 ok_pure fun ρ a w hp=>by
  have e2:=of_has_val (hi ρ a hp.hft)
  have hu:=ht.kind;rw[hk]at hu
  obtain⟨b,t',h1,h2⟩:=has_ptr (hx ρ a hp.hft)
  refine⟨.pointer (some ⟨b,i*s+(r+j.toNat*te.size),none⟩), ?_,ptr_has h1⟩
  have hadd:(⟨b,i*s+r,none⟩:Addr).add (j.toNat*te.size)=⟨b,i*s+(r+j.toNat*te.size),none⟩:=by
   unfold Addr.add
   split
   ·rename_i h0;simp[h0]
   ·simp[Nat.add_assoc]
  have hj':0≤j∧j<(n:Int):=⟨h0,hj⟩
  simp only[execOp,ho,Instr.indexAt,e2,h2,asIntOf,Sem.run_bind,Sem.run_pure,Result.andThen_ok,run_underlying hu,Instr.sureAddr,hj',and_self,if_true,he.sizeOf,hadd]
theorem op_strIndex {t:TypeId} {x ix:Operand} {ti:TI} {s:ByteArray} {kd:IntKind} {j:Int} (ho:o.op= .index t x ix) (hx:EvOK ft x (.val (.string s))) (hi:EvOK ft ix (.val (.int kd j)))
  (ht:TOK P t ti) (hk:ti.kind= .str) (h0:0≤j) (hj:j<s.size):OpOK P o ft fk (.val (.int .u8 (((s.data.getD j.toNat 0).toNat:Nat):Int))) [] []:=
 ok_pure fun ρ a w hp=>by
  have e1:=of_has_val (hx ρ a hp.hft)
  have e2:=of_has_val (hi ρ a hp.hft)
  have hu:=ht.kind;rw[hk]at hu
  refine⟨_, ?_,has_val rfl⟩
  have hlt:j.toNat<s.size:=by omega
  have hg:s[j.toNat]? =some (s.data.getD j.toNat 0):=by
   have hlt':j.toNat<s.data.size:=hlt
   rw[Array.getD_eq_getD_getElem?,getElem?_pos s j.toNat hlt,Array.getElem?_eq_getElem hlt']
   rfl
  simp only[execOp,ho,Instr.index,e1,e2,asIntOf,Sem.run_bind,Sem.run_pure,Result.andThen_ok,run_underlying hu,h0,if_true,hg]
def lenOfS:SV→Option Int
 |.slc _ _ _ n=>some (n:Int)
 |.val (.string s)=>some (s.size:Int)
 |.val (.slice _ n _)=>some (n:Int)
 |_=>none
theorem op_len {x:Operand} {xs:Array Operand} {t:TypeId} {ts:Array TypeId} {c:SV} {n:Int} {ti:TI} (ho:o.op= .call ⟨.builtin .len,xs,ts⟩) (hxs:xs= #[x]) (hts:ts= #[t]) (hx:EvOK ft x c) (hn:lenOfS c=some n) (ht:TOK P t ti)
  (hk:ti.kind= .str∧(∃s,c= .val (.string s))∨(∃e,ti.kind= .slc e)∧(∀s,c≠ .val (.string s))):OpOK P o ft fk (.val (.int .i64 n)) [] []:=
 ok_pure fun ρ a w hp=>by
  have hv:=hx ρ a hp.hft
  refine⟨_, ?_,has_val rfl⟩
  have hu:=ht.kind
  rcases hk with⟨hk,s,rfl⟩|⟨⟨e,hk⟩,hns⟩
  ·rw[hk]at hu
   have e1:=of_has_val hv
   simp only[lenOfS,Option.some.injEq]at hn
   subst hn
   simp[execOp,ho,hxs,hts,resolve,invoke,builtin,Builtin.len_,run_underlying hu,e1,goInt]
  ·rw[hk]at hu
   cases c<;>simp only[lenOfS,reduceCtorEq]at hn
   case slc k s i m=>
    simp only[Option.some.injEq]at hn
    subst hn
    rcases has_slc hv with⟨b,t',cap,_,_,_,h4⟩|⟨rfl,a',h4⟩
    ·simp[execOp,ho,hxs,hts,resolve,invoke,builtin,Builtin.len_,run_underlying hu,h4,goInt]
    ·simp[execOp,ho,hxs,hts,resolve,invoke,builtin,Builtin.len_,run_underlying hu,h4,goInt]
   case val v=>
    have e1:=of_has_val hv
    cases v<;>simp only[Option.some.injEq,reduceCtorEq]at hn
    case string s=>exact absurd rfl (hns s)
    case slice a' m cap=>
     subst hn
     simp[execOp,ho,hxs,hts,resolve,invoke,builtin,Builtin.len_,run_underlying hu,e1,goInt]
theorem op_min {xs:Array Operand} {ts:Array TypeId} {x y:Operand} {k k':IntKind} {a b:Int} (ho:o.op= .call ⟨.builtin .min,xs,ts⟩) (hxs:xs= #[x,y]) (hx:EvOK ft x (.val (.int k a))) (hy:EvOK ft y (.val (.int k' b))):
  OpOK P o ft fk (.val (.int k (if b<a then b else a))) [] []:=
 ok_pure fun ρ ac w hp=>by
  have e1:=of_has_val (hx ρ ac hp.hft)
  have e2:=of_has_val (hy ρ ac hp.hft)
  refine⟨_, ?_,has_val rfl⟩
  simp[execOp,ho,hxs,resolve,invoke,builtin,e1,e2,run_min_int2]
theorem op_max {xs:Array Operand} {ts:Array TypeId} {x y:Operand} {k k':IntKind} {a b:Int} (ho:o.op= .call ⟨.builtin .max,xs,ts⟩) (hxs:xs= #[x,y]) (hx:EvOK ft x (.val (.int k a))) (hy:EvOK ft y (.val (.int k' b))):
  OpOK P o ft fk (.val (.int k (if b>a then b else a))) [] []:=
 ok_pure fun ρ ac w hp=>by
  have e1:=of_has_val (hx ρ ac hp.hft)
  have e2:=of_has_val (hy ρ ac hp.hft)
  refine⟨_, ?_,has_val rfl⟩
  simp[execOp,ho,hxs,resolve,invoke,builtin,e1,e2,run_max_int2]
theorem op_slice {t e:TypeId} {x:Operand} {lo hi:Option Operand} {ti te:TI} {k s i n:Nat} {l h:Int} (ho:o.op= .slice t x lo hi none) (hx:EvOK ft x (.slc k s i n))
  (hlo:lo=none∧l=0∨∃y kd,lo=some y∧EvOK ft y (.val (.int kd l))) (hhi:hi=none∧h=n∨∃y kd,hi=some y∧EvOK ft y (.val (.int kd h)))
  (ht:TOK P t ti) (hk:ti.kind= .slc e) (he:TOK P e te) (hs:te.size=s) (h0:0≤l) (hlh:l≤h) (hh:h≤n):OpOK P o ft fk (.slc k s (i+l.toNat) (h - l).toNat) [] []:=
 ok_pure fun ρ a w hp=>by
  have hu:=ht.kind;rw[hk]at hu
  have key:∀(ad:Option Addr) (m cap:Nat),n=m→m≤cap→a.eval x= .slice ad m cap→
    (execOp a.eval o).run P w= .ok (.value (.slice (if cap=l.toNat then ad else ad.map (·.add (l.toNat*s))) (h.toNat - l.toNat) (cap - l.toNat))) w:=by
   intro ad m cap hnm hmc hv
   have hhr:∀z:Operand,∀kd,EvOK ft z (.val (.int kd h))→(Instr.sliceBound (a.eval z) cap .sliceAcap).run P w= .ok h.toNat w:=by
    intro z kd hz
    have:=of_has_val (hz ρ a hp.hft)
    have hb:0≤h∧h≤(cap:Int):=by omega
    simp[Instr.sliceBound,this,asIntOf,hb]
   have hlr:∀z:Operand,∀kd,EvOK ft z (.val (.int kd l))→(Instr.sliceBound (a.eval z) h.toNat .sliceB).run P w= .ok l.toNat w:=by
    intro z kd hz
    have:=of_has_val (hz ρ a hp.hft)
    have hb:0≤l∧l≤(h.toNat:Int):=by omega
    simp only[Instr.sliceBound,this,asIntOf,Sem.run_bind,Sem.run_pure,Result.andThen_ok,hb,and_self,if_true]
   have hbnds:(Instr.sliceBounds true m cap (lo.map a.eval) (hi.map a.eval) none).run P w= .ok (l.toNat,h.toNat,cap) w:=by
    unfold Instr.sliceBounds
    rcases hhi with⟨rfl,rfl⟩|⟨z,kz,rfl,hz⟩<;>rcases hlo with⟨rfl,rfl⟩|⟨y,ky,rfl,hy⟩
    ·simp[hnm]
    ·have:=hlr y ky hy;simp at this;rw[hnm]at this;simp[hnm,this]
    ·simp[hhr z kz hz]
    ·simp[hhr z kz hz,hlr y ky hy]
   simp only[execOp,ho,Option.map_none,Instr.sliceAt,Sem.run_bind,run_underlying hu,Result.andThen_ok,Instr.slice,hv,hbnds,he.sizeOf,hs,Sem.run_pure]
  rcases has_slc (hx ρ a hp.hft)with⟨b,t',cap,h1,h2,h3,h4⟩|⟨rfl,ad,h4⟩
  ·refine⟨_,key _ n cap rfl h2 h4,slc_has ?_⟩
   by_cases hc:cap=l.toNat
   ·right
    have:h.toNat - l.toNat=0:=by omega
    refine⟨by omega,some ⟨b,i*s,none⟩, ?_⟩
    rw[if_pos hc,this,hc,Nat.sub_self]
   ·left
    refine⟨b,t',cap - l.toNat,h1,by omega, ?_, ?_⟩
    ·rw[show i+l.toNat+(cap - l.toNat)=i+cap from by omega];exact h3
    ·rw[if_neg hc]
     have hadd:(⟨b,i*s,none⟩:Addr).add (l.toNat*s)=⟨b,(i+l.toNat)*s,none⟩:=by
      unfold Addr.add
      rw[Nat.add_mul]
      split
      ·rename_i h0;simp[h0]
      ·rfl
     rw[Option.map_some,hadd,show(h - l).toNat=h.toNat - l.toNat from by omega]
  ·refine⟨_,key ad 0 0 rfl (Nat.le_refl _) h4,slc_has (.inr ⟨by omega,ad, ?_⟩)⟩
   have h1:l.toNat=0:=by omega
   have h2:h.toNat=0:=by omega
   simp[h1,h2]
theorem op_strSlice {t:TypeId} {x:Operand} {lo hi:Option Operand} {ti:TI} {s:ByteArray} {l h:Int} (ho:o.op= .slice t x lo hi none) (hx:EvOK ft x (.val (.string s)))
  (hlo:lo=none∧l=0∨∃y kd,lo=some y∧EvOK ft y (.val (.int kd l))) (hhi:hi=none∧h=s.size∨∃y kd,hi=some y∧EvOK ft y (.val (.int kd h)))
  (ht:TOK P t ti) (hk:ti.kind= .str) (h0:0≤l) (hlh:l≤h) (hh:h≤s.size):OpOK P o ft fk (.val (.string (s.extract l.toNat h.toNat))) [] []:=
 ok_pure fun ρ a w hp=>by
  have hu:=ht.kind;rw[hk]at hu
  have e1:=of_has_val (hx ρ a hp.hft)
  refine⟨_, ?_,has_val rfl⟩
  have hhr:∀z:Operand,∀kd,EvOK ft z (.val (.int kd h))→(Instr.sliceBound (a.eval z) s.size .sliceAlen).run P w= .ok h.toNat w:=by
   intro z kd hz
   have:=of_has_val (hz ρ a hp.hft)
   have hb:0≤h∧h≤(s.size:Int):=by omega
   simp[Instr.sliceBound,this,asIntOf,hb]
  have hlr:∀z:Operand,∀kd,EvOK ft z (.val (.int kd l))→(Instr.sliceBound (a.eval z) h.toNat .sliceB).run P w= .ok l.toNat w:=by
   intro z kd hz
   have:=of_has_val (hz ρ a hp.hft)
   have hb:0≤l∧l≤(h.toNat:Int):=by omega
   simp only[Instr.sliceBound,this,asIntOf,Sem.run_bind,Sem.run_pure,Result.andThen_ok,hb,and_self,if_true]
  have hbnds:(Instr.sliceBounds false s.size s.size (lo.map a.eval) (hi.map a.eval) none).run P w= .ok (l.toNat,h.toNat,s.size) w:=by
   unfold Instr.sliceBounds
   rcases hhi with⟨rfl,rfl⟩|⟨z,kz,rfl,hz⟩<;>rcases hlo with⟨rfl,rfl⟩|⟨y,ky,rfl,hy⟩
   ·simp
   ·have:=hlr y ky hy;simp at this;simp[this]
   ·simp[hhr z kz hz]
   ·simp[hhr z kz hz,hlr y ky hy]
  simp only[execOp,ho,Option.map_none,Instr.sliceAt,Sem.run_bind,run_underlying hu,Result.andThen_ok,Instr.slice,e1,Option.isSome_none,Bool.false_eq_true,if_false,hbnds,Sem.run_pure]
end
end Go.Sx
namespace Go.Sx
theorem elem_live {d:Data} {s i:Nat} {x:Option Prop×List SV} (h:elem d s i=some x):d.live=true:=by
 cases d<;>first|rfl|simp[elem]at h
def Rows (ρ:Rho) (s:Nat):Data→List (List Value)→Prop
 |.ints kd xs,z=>s=1∧z=xs.map (fun x=>[.int kd x])
 |.fracs xs,z=>s=5∧z=xs.map fracCells
 |.seq w xs,z=>s=w∧HasZ (bareR ρ.imm ρ.glob) xs z∧∀x∈xs,x.width=w
 |.one _,_=>False
 |.dead,_=>False
 |.loop _,_=>False
 |.mp _,_=>False
 |.mit ..,_=>False
def dlen:Data→Nat
 |.ints _ xs=>xs.length
 |.fracs xs=>xs.length
 |.seq _ xs=>xs.length
 |_=>0
def dwidth:Data→Option Nat
 |.ints _ _=>some 1
 |.fracs _=>some 5
 |.seq w _=>some w
 |_=>none
theorem HasZ_length {ρ:Rho}:∀{l:List SV} {z:List (List Value)},HasZ ρ l z→z.length=l.length
 |[],z,h=>by simp only[HasZ]at h;subst h;rfl
 |c::l,z,h=>by simp only[HasZ]at h;obtain⟨x,r,rfl,_,h⟩:=h;simp[HasZ_length h]
theorem Rows.of {ρ:Rho} {d:Data} {s:Nat} {vs:List Value} (h:DataC ρ d vs) (hs:dwidth d=some s):∃z,Rows ρ s d z∧vs=z.flatten:=by
 cases d<;>simp only[dwidth,Option.some.injEq,reduceCtorEq]at hs<;>subst hs<;>simp only[DataC]at h
 case ints kd xs=>exact⟨_,⟨rfl,rfl⟩,by rw[h,←List.flatMap_def,List.map_eq_flatMap]⟩
 case fracs xs=>exact⟨_,⟨rfl,rfl⟩,by rw[h,List.flatMap_def]⟩
 case seq xs=>obtain⟨z,h1,h2,h3⟩:=h;exact⟨z,⟨rfl,h1,h3⟩,h2⟩
theorem Rows.notLoop {ρ:Rho} {d:Data} {s:Nat} {z:List (List Value)} (h:Rows ρ s d z):d.isLoop=false:=by
 cases d<;>first|rfl|(simp only[Rows]at h)
theorem Rows.data {ρ:Rho} {d:Data} {s:Nat} {z:List (List Value)} (h:Rows ρ s d z):DataC ρ d z.flatten:=by
 cases d<;>simp only[Rows]at h<;>simp only[DataC]
 case ints kd xs=>obtain⟨_,rfl⟩:=h;rw[←List.flatMap_def,List.map_eq_flatMap]
 case fracs xs=>obtain⟨_,rfl⟩:=h;rw[List.flatMap_def]
 case seq w xs=>exact⟨z,h.2.1,rfl,h.2.2⟩
theorem Rows.len {ρ:Rho} {d:Data} {s:Nat} {z:List (List Value)} (h:Rows ρ s d z):z.length=dlen d∧∀u∈z,u.length=s:=by
 cases d<;>simp only[Rows]at h
 case ints kd xs=>obtain⟨rfl,rfl⟩:=h;simp[dlen]
 case fracs xs=>
  obtain⟨rfl,rfl⟩:=h
  refine⟨by simp[dlen],fun u hu=> ?_⟩
  obtain⟨x,_,rfl⟩:=List.mem_map.1 hu
  exact(fracCells_one x).1
 case seq w xs=>
  obtain⟨rfl,h1,h2⟩:=h
  exact⟨HasZ_length h1,fun u hu=>HasZ_widths xs z h1 h2 u hu⟩
theorem flatten_take {s:Nat}:∀(z:List (List Value)) (n:Nat),(∀u∈z,u.length=s)→(z.take n).flatten=z.flatten.take (n*s)
 |[],n,_=>by simp
 |x::z,0,_=>by simp
 |x::z,n+1,h=>by
  have hx:=h x (List.mem_cons_self ..)
  have ih:=flatten_take z n (fun u hu=>h u (List.mem_cons_of_mem _ hu))
  rw[List.take_succ_cons,List.flatten_cons,List.flatten_cons,ih,Nat.succ_mul,Nat.add_comm,←hx,List.take_length_add_append]
theorem flatten_drop {s:Nat}:∀(z:List (List Value)) (n:Nat),(∀u∈z,u.length=s)→(z.drop n).flatten=z.flatten.drop (n*s)
 |[],n,_=>by simp
 |x::z,0,_=>by simp
 |x::z,n+1,h=>by
  have hx:=h x (List.mem_cons_self ..)
  have ih:=flatten_drop z n (fun u hu=>h u (List.mem_cons_of_mem _ hu))
  rw[List.drop_succ_cons,List.flatten_cons,ih,Nat.succ_mul,Nat.add_comm,←hx,List.drop_length_add_append]
theorem flatten_len {s:Nat}:∀(z:List (List Value)),(∀u∈z,u.length=s)→z.flatten.length=z.length*s
 |[],_=>by simp
 |x::z,h=>by
  have hx:=h x (List.mem_cons_self ..)
  have ih:=flatten_len z (fun u hu=>h u (List.mem_cons_of_mem _ hu))
  rw[List.flatten_cons,List.length_append,ih,hx,List.length_cons,Nat.succ_mul,Nat.add_comm]
theorem HasZ_take {ρ:Rho}:∀{l:List SV} {z:List (List Value)} (n:Nat),HasZ ρ l z→HasZ ρ (l.take n) (z.take n)
 |[],z,n,h=>by simp only[HasZ]at h;subst h;simp[HasZ]
 |c::l,z,0,h=>by simp[HasZ]
 |c::l,z,n+1,h=>by
  simp only[HasZ]at h
  obtain⟨x,r,rfl,h1,h2⟩:=h
  simp only[List.take_succ_cons,HasZ]
  exact⟨x,_,rfl,h1,HasZ_take n h2⟩
theorem HasZ_drop {ρ:Rho}:∀{l:List SV} {z:List (List Value)} (n:Nat),HasZ ρ l z→HasZ ρ (l.drop n) (z.drop n)
 |[],z,n,h=>by simp only[HasZ]at h;subst h;simp[HasZ]
 |c::l,z,0,h=>by simpa using h
 |c::l,z,n+1,h=>by
  simp only[HasZ]at h
  obtain⟨x,r,rfl,h1,h2⟩:=h
  simp only[List.drop_succ_cons]
  exact HasZ_drop n h2
def dapp (d:Data) (n:Nat) (d2:Data) (i m:Nat):Option Data:=
 match d,d2 with
 |.ints k xs,.ints k' ys=>if k'=k then some (.ints k (xs.take n++(ys.drop i).take m))else none
 |.fracs xs,.fracs ys=>some (.fracs (xs.take n++(ys.drop i).take m))
 |.seq w xs,.seq w' ys=>if w'=w then some (.seq w (xs.take n++(ys.drop i).take m))else none
 |_,_=>none
theorem dapp_rows {ρ:Rho} {d d2 d':Data} {n i m s s2:Nat} {z z2:List (List Value)} (h:dapp d n d2 i m=some d') (hz:Rows ρ s d z) (hz2:Rows ρ s2 d2 z2):Rows ρ s d' (z.take n++(z2.drop i).take m)∧s2=s:=by
 unfold dapp at h
 split at h
 ·split at h
  ·rename_i hk
   subst hk
   simp only[Option.some.injEq]at h
   subst h
   simp only[Rows]at hz hz2 ⊢
   obtain⟨rfl,rfl⟩:=hz
   obtain⟨rfl,rfl⟩:=hz2
   exact⟨⟨rfl,by simp[List.map_take,List.map_drop]⟩,rfl⟩
  ·simp at h
 ·simp only[Option.some.injEq]at h
  subst h
  simp only[Rows]at hz hz2 ⊢
  obtain⟨rfl,rfl⟩:=hz
  obtain⟨rfl,rfl⟩:=hz2
  exact⟨⟨rfl,by simp[List.map_take,List.map_drop]⟩,rfl⟩
 ·split at h
  ·rename_i hk
   subst hk
   simp only[Option.some.injEq]at h
   subst h
   simp only[Rows]at hz hz2 ⊢
   obtain⟨rfl,h1,h2⟩:=hz
   obtain⟨rfl,h3,h4⟩:=hz2
   refine⟨⟨rfl,HasZ_append (HasZ_take n h1) (HasZ_take m (HasZ_drop i h3)), ?_⟩,rfl⟩
   intro x hx
   rcases List.mem_append.1 hx with hx|hx
   ·exact h2 x (List.mem_of_mem_take hx)
   ·exact h4 x (List.mem_of_mem_drop (List.mem_of_mem_take hx))
  ·simp at h
 ·simp at h
def zerosOf (te:TI) (n:Nat):Data:=
 match te.zero with
 |[.frac _]=>.fracs (List.replicate n 0)
 |[.val (.int kd _)]=>.ints kd (List.replicate n 0)
 |[c]=>.seq te.size (List.replicate n c)
 |l=>.seq te.size (List.replicate n (.agg l))
theorem madeCells_flat (z:Array Value) (s:Nat) (hs:z.size=s):∀n,(madeCells z (n*s)).toList=(List.replicate n z.toList).flatten:=by
 intro n
 induction n with
 |zero=>simp[madeCells]
 |succ n ih=>
  rw[List.replicate_succ',List.flatten_append,←ih]
  simp only[madeCells,Array.toList_map,Array.toList_range,List.flatten_cons,List.flatten_nil,List.append_nil]
  rw[Nat.succ_mul,List.range_add,List.map_append]
  congr 1
  rw[List.map_map]
  apply List.ext_getElem
  ·simp[hs]
  ·intro i h1 h2
   simp only[List.length_map,List.length_range]at h1
   simp only[List.getElem_map,List.getElem_range,Function.comp,hs]
   rw[Nat.add_comm,Nat.add_mul_mod_self_right,Nat.mod_eq_of_lt h1]
   simp[hs,h1]
theorem rows_zeros {te:TI} {ρ:Rho} {z:Value} (hz:z.cells.toList=te.zero.flatMap zcell) (hsz:z.cells.size=te.size) (hall:te.zero.all zok=true)
  (hzero:∀q,te.zero=[.frac q]→q=0) (hzi:∀kd x,te.zero=[.val (.int kd x)]→x=0) (n:Nat):Rows ρ te.size (zerosOf te n) (List.replicate n z.cells.toList):=by
 have hrep:∀c:SV,∀y,HasC (bareR ρ.imm ρ.glob) c y→HasZ (bareR ρ.imm ρ.glob) (List.replicate n c) (List.replicate n y):=by
  intro c y hy
  clear hz hsz
  induction n with
  |zero=>simp[HasZ]
  |succ n ih=>simp only[List.replicate_succ,HasZ];exact⟨y,_,rfl,hy,ih⟩
 have hlen:te.size=(te.zero.flatMap zcell).length:=by rw[←hz,Array.length_toList];exact hsz.symm
 unfold zerosOf
 split
 ·rename_i q hq
  rw[hq]at hz hlen
  have:=hzero q hq
  subst this
  simp only[List.flatMap_cons,List.flatMap_nil,List.append_nil,zcell]at hz hlen
  rw[hz]
  exact⟨by rw[hlen,(fracCells_one 0).1],by simp⟩
 ·rename_i kd x hq
  rw[hq]at hz hlen
  have:=hzi kd x hq
  subst this
  simp only[List.flatMap_cons,List.flatMap_nil,List.append_nil,zcell]at hz hlen
  rw[hz]
  exact⟨by rw[hlen];rfl,by simp⟩
 ·rename_i c _ _ hq
  rw[hq]at hz hlen hall
  simp only[List.flatMap_cons,List.flatMap_nil,List.append_nil]at hz hlen
  simp only[List.all_cons,List.all_nil,Bool.and_true]at hall
  rw[hz]
  have hc:=zcell_has (ρ:=bareR ρ.imm ρ.glob) hall
  exact⟨rfl,hrep c _ hc,fun x hx=>by rw[(List.mem_replicate.1 hx).2,←(HasC.len c _ hc).1,hlen]⟩
 ·have hc:HasC (bareR ρ.imm ρ.glob) (.agg te.zero) (te.zero.flatMap zcell):=by
   simp only[HasC]
   exact⟨_,zero_has hall,by simp[List.flatMap_def]⟩
  rw[hz]
  exact⟨rfl,hrep _ _ hc,fun x hx=>by rw[(List.mem_replicate.1 hx).2,←(HasC.len _ _ hc).1,hlen]⟩
def zeroOK (te:TI):Bool:=
 match te.zero with
 |[.frac q]=>q.num==0
 |[.val (.int _ x)]=>x==0
 |_=>true
theorem zeroOK_spec {te:TI} (h:zeroOK te=true):(∀q,te.zero=[.frac q]→q=0)∧(∀kd x,te.zero=[.val (.int kd x)]→x=0):=by
 constructor
 ·intro q hq
  simp only[zeroOK,hq,beq_iff_eq]at h
  exact Rat.num_eq_zero.1 h
 ·intro kd x hq
  simpa [zeroOK,hq]using h
section
variable {P:Program} {o:Oper} {ft:List (Nat×SV)} {fk:List (Nat×Blk)}
theorem post_row {ρ:Rho} {w:World} {k s n cap:Nat} {ty:TypeId} {d:Data} {vs ex:List Value} (hk:ρ.key k=none) (hd:DataC ρ d vs) (hnc:n≤cap) (hcap:cap*s≤(vs++ex).length) (hex:∀v∈ex,v.oneCell'=true) (hL:d.isLoop=false:=by rfl):
  Post ρ w (.slc k s 0 n) [(k,⟨ty,true,d⟩)] [] (.slice (some ⟨w.heap.size,0,none⟩) n cap) ⟨fun j=>if j=k then some (w.heap.size,(vs++ex).length)else ρ.key j,ρ.imm,ρ.glob⟩ (w.alloc (.cells (vs++ex).toArray ty (0,0))):=by
 have hle:ρ.Le ⟨fun j=>if j=k then some (w.heap.size,(vs++ex).length)else ρ.key j,ρ.imm,ρ.glob⟩:=⟨fun j x hx=>by
  show(if j=k then _ else _)=_
  by_cases hj:j=k
  ·subst hj;rw[hk]at hx;cases hx
  ·rw[if_neg hj];exact hx,fun b ob hb=>hb⟩
 refine⟨hle, ?_, ?_, ?_, ?_,(fun _ _ _ h=>by cases h), ?_, ?_,fun b ob hb=>.inl hb⟩
 ·refine slc_has (.inl ⟨w.heap.size,(vs++ex).length,cap,by simp,hnc,by simpa using hcap,by simp⟩)
 ·intro j hj
  show(if j=k then _ else _)=_
  rw[if_neg]
  rintro rfl
  exact hj _ (List.mem_cons_self ..)
 ·exact .of_below ((RowKit.Below.refl _ _).alloc (Nat.le_refl _) _) (Nat.le_refl _)
 ·intro j b hj
  rcases hj with hj|hj
  ·cases hj
  ·simp only[List.mem_singleton,Prod.mk.injEq]at hj
   obtain⟨rfl,rfl⟩:=hj
   exact .inr (.inl ⟨w.heap.size,_,vs,ex,by simp,by rw[Data.obj_cells hL];exact heap_alloc_new _ _,hd.mono hle,rfl,hex⟩)
 ·intro j b x hj hx
  simp only[List.mem_singleton,Prod.mk.injEq]at hj
  obtain⟨rfl,rfl⟩:=hj
  simp at hx
  rw[←hx]
  exact .inl (Nat.le_refl _)
 ·intro j b j' b' x x' hj hj' hne
  simp only[List.mem_singleton,Prod.mk.injEq]at hj hj'
  exact absurd (hj.1.trans hj'.1.symm) hne
theorem op_make {t e:TypeId} {x y:Operand} {ti te:TI} {k:Nat} {kl kc:IntKind} {l c:Int} (ho:o.op= .makeSlice t x y) (hx:EvOK ft x (.val (.int kl l))) (hy:EvOK ft y (.val (.int kc c)))
  (ht:TOK P t ti) (hk:ti.kind= .slc e) (he:TOK P e te) (hz:zeroOK te=true) (h0:0≤l) (hlc:l≤c) (hb:(te.bytes:Int)*c≤281474976710656) (h63:c≤9223372036854775807):
  OpOK P o ft fk (.slc k te.size 0 l.toNat) [(k,⟨e,true,zerosOf te l.toNat⟩)] []:=
 ok_value fun ρ a w hp=>by
  have e1:=of_has_val (hx ρ a hp.hft)
  have e2:=of_has_val (hy ρ a hp.hft)
  have hu:=ht.kind;rw[hk]at hu
  obtain⟨i,z,i1,i2,i3,i4,i5,i6,i7,_⟩:=he.info
  have hrun:=run_make (P:=P) (w:=w) t e i z hu i1 i4 kl kc l c h0 hlc (by rw[i3];exact hb) h63
  obtain⟨hq,hzi⟩:=zeroOK_spec hz
  have hrows:=rows_zeros (ρ:=ρ) i5 i7 i6 hq hzi l.toNat
  have hall:∀u∈(List.replicate c.toNat z.cells.toList),u.length=te.size:=by
   intro u hu
   rw[(List.mem_replicate.1 hu).2,Array.length_toList];exact i7
  have hcells:madeCells z.cells (c.toNat*i.size)=(((List.replicate l.toNat z.cells.toList).flatten)++(List.replicate (c.toNat - l.toNat) z.cells.toList).flatten).toArray:=by
   have:=madeCells_flat z.cells te.size i7 c.toNat
   rw[i2]
   apply Array.ext'
   rw[this,←List.flatten_append,List.replicate_append_replicate]
   rw[show l.toNat+(c.toNat - l.toNat)=c.toNat from by omega]
  have hone:∀u∈z.cells.toList,u.oneCell'=true:=by
   have h1:=(HasZ.len (ρ:=ρ) te.zero _ (zero_has i6)).2
   rw[i5,List.flatMap_def];exact h1
  refine⟨_,_,_, ?_,post_row (hL:=hrows.notLoop) (ty:=e) (d:=zerosOf te l.toNat) (cap:=c.toNat) (s:=te.size) (vs:=(List.replicate l.toNat z.cells.toList).flatten) (ex:=(List.replicate (c.toNat - l.toNat) z.cells.toList).flatten) (hp.fresh k _ (List.mem_cons_self ..)) hrows.data (by omega) ?_ ?_⟩
  ·simp only[execOp,ho,e1,e2,Sem.run_bind,hrun,Result.andThen_ok,Sem.run_pure,hcells]
  ·rw[←List.flatten_append,List.replicate_append_replicate,show l.toNat+(c.toNat - l.toNat)=c.toNat from by omega,flatten_len _ hall,List.length_replicate]
   exact Nat.le_refl _
  ·intro v hv
   obtain⟨u,hu,hv⟩:=List.mem_flatten.1 hv
   rw[(List.mem_replicate.1 hu).2]at hv
   exact hone v hv
end
end Go.Sx
namespace Go.Sx
theorem foldl_set_list (off:Nat):∀(v:List Value) (j:Nat) (L:Array Value),off+j+v.length≤L.size→
  ((v.zipIdx j).foldl (fun cs (c,j)=>cs.setIfInBounds (off+j) c) L).toList=L.toList.take (off+j)++v++L.toList.drop (off+j+v.length)
 |[],j,L,_=>by simp
 |c::v,j,L,h=>by
  simp only[List.length_cons]at h
  simp only[List.zipIdx_cons,List.foldl_cons]
  rw[foldl_set_list off v (j+1) (L.setIfInBounds (off+j) c) (by simp;omega)]
  simp only[Array.toList_setIfInBounds,List.length_cons]
  have hlt:off+j<L.toList.length:=by rw[Array.length_toList];omega
  rw[show off+(j+1)=(off+j)+1 from by omega,List.take_succ_eq_append_getElem (by rw[List.length_set];exact hlt),List.getElem_set_self,List.take_set_of_le (Nat.le_refl _),
   show off+j+1+v.length=off+j+(v.length+1)from by omega,List.drop_set_of_lt (by omega)]
  simp
def buildC (f:Nat) (place:Nat→Option (Nat×Nat)) (cs:List SV):List (Nat×List SV)→Option (List SV)
 |[]=>some cs
 |(i,new)::r=>match place i with
  |none=>none
  |some (off,sz)=>match Nat.beq (SV.widthL new) sz,Nat.ble (off+sz) (SV.widthL cs)with
   |true,true=>match put f cs off sz new with
    |some cs'=>buildC f place cs' r
    |none=>none
   |_,_=>none
theorem fill_has {ρ:Rho} {f:Nat} {place:Nat→Option (Nat×Nat)}:∀(parts:List (Nat×List SV)) (cs l:List SV) (rp:List (Nat×Value)) (L:Array Value) (z:List (List Value)),buildC f place cs parts=some l→
  HasZ ρ cs z→L.toList=z.flatten→rp.length=parts.length→(∀(j i:Nat) (new:List SV),parts[j]? =some (i,new)→∃v y,rp[j]? =some (i,v)∧HasZ ρ new y∧v.cells.toList=y.flatten)→
  ∃L' z',Instr.fill place L rp=some L'∧HasZ ρ l z'∧L'.toList=z'.flatten
 |[],cs,l,rp,L,z,h,hz,hL,hlen,_=>by
  simp only[buildC,Option.some.injEq]at h
  subst h
  obtain rfl:rp=[]:=List.length_eq_zero_iff.1 hlen
  exact⟨L,z,rfl,hz,hL⟩
 |(i,new)::r,cs,l,rp,L,z,h,hz,hL,hlen,hp=>by
  match rp,hlen with
  |(i',v)::rp',hlen=>
   obtain⟨v',y,h1,h2,h3⟩:=hp 0 i new rfl
   simp only[List.getElem?_cons_zero,Option.some.injEq,Prod.mk.injEq]at h1
   obtain⟨rfl,rfl⟩:=h1
   unfold buildC at h
   cases hpl:place i' with
   |none=>rw[hpl]at h;simp at h
   |some x=>
    obtain⟨off,sz⟩:=x
    rw[hpl]at h
    simp only at h
    split at h
    ·rename_i hw hle
     have hw:=Nat.eq_of_beq_eq_true hw
     have hle:=Nat.le_of_ble_eq_true hle
     cases hput:put f cs off sz new with
     |none=>rw[hput]at h;simp at h
     |some cs'=>
      rw[hput]at h
      simp only at h
      obtain⟨t,g1,g2⟩:=put_has hput hz h2
      have hyl:=(HasZ.len new y h2).1
      have hzl:=(HasZ.len cs z hz).1
      have hvs:v.cells.size=sz:=by rw[←Array.length_toList,h3,hyl,hw]
      have hLs:L.size=z.flatten.length:=by rw[←hL,Array.length_toList]
      have hset:=foldl_set_list off v.cells.toList 0 L (by rw[Array.length_toList,hvs,hLs,hzl];omega)
      have hfold:(v.cells.zipIdx.foldl (fun cs (c,j)=>cs.setIfInBounds (off+j) c) L).toList=t.flatten:=by
       rw[←Array.foldl_toList,Array.toList_zipIdx,hset,g2,hL,h3,hyl,hw]
       simp
      obtain⟨L',z',e1,e2,e3⟩:=fill_has r cs' l rp' _ t h g1 hfold (by simpa using hlen) (fun j i2 new2 hj=>by
       obtain⟨v2,y2,k1,k2,k3⟩:=hp (j+1) i2 new2 (by simpa using hj)
       exact⟨v2,y2,by simpa using k1,k2,k3⟩)
      refine⟨L',z', ?_,e2,e3⟩
      unfold Instr.fill
      rw[hpl]
      have hc1:(v.cells.size≠sz||off+v.cells.size>L.size)=false:=by
       rw[hvs,hLs,hzl]
       simp;omega
      simp only[hc1,Bool.false_eq_true,if_false]
      exact e1
    ·simp at h
def evParts (fr:List (Nat×SV)):List (Nat×Operand)→Option (List (Nat×List SV))
 |[]=>some []
 |(i,x)::r=>match ev fr x with
  |none=>none
  |some c=>match passable c with
   |false=>none
   |true=>match evParts fr r with
    |none=>none
    |some l=>some ((i,[c])::l)
theorem evParts_ok {fr:List (Nat×SV)}:∀{ps:List (Nat×Operand)} {l:List (Nat×List SV)},evParts fr ps=some l→∀ρ a,(∀t s,(t,s)∈fr→Has ρ s (a.tmps.getD t undef))→
  (ps.map fun p=>(p.1,Act.eval a p.2)).length=l.length∧∀(j i:Nat) (new:List SV),l[j]? =some (i,new)→∃v y,(ps.map fun p=>(p.1,Act.eval a p.2))[j]? =some (i,v)∧HasZ ρ new y∧v.cells.toList=y.flatten
 |[],l,h,ρ,a,_=>by simp[evParts]at h;subst h;exact⟨rfl,fun j i new h=>by simp at h⟩
 |(i,x)::r,l,h,ρ,a,hf=>by
  simp only[evParts]at h
  cases hx:ev fr x with
  |none=>rw[hx]at h;simp at h
  |some c=>
   rw[hx]at h
   simp only at h
   cases hp:passable c with
   |false=>rw[hp]at h;simp at h
   |true=>
    rw[hp]at h
    simp only at h
    cases hr:evParts fr r with
    |none=>rw[hr]at h;simp at h
    |some l'=>
     rw[hr]at h
     simp only[Option.some.injEq]at h
     subst h
     obtain⟨h1,h2⟩:=evParts_ok hr ρ a hf
     refine⟨by simpa using h1,fun j i2 new hj=> ?_⟩
     cases j with
     |succ j=>simpa using h2 j i2 new (by simpa using hj)
     |zero=>
      simp only[List.getElem?_cons_zero,Option.some.injEq,Prod.mk.injEq]at hj
      obtain⟨rfl,rfl⟩:=hj
      have hv:=ev_ok hx ρ a hf
      have hc:∃y,HasZ ρ [c] y∧(a.eval x).cells.toList=y.flatten:=by
       cases c<;>simp only[passable,Bool.false_eq_true]at hp
       case agg cs=>
        obtain⟨y,k1,k2⟩:=comps_has rfl hv
        exact⟨[y.flatten],by simp only[HasZ];exact⟨_,[],rfl,by simp only[HasC];exact⟨y,k1,rfl⟩,rfl⟩,by rw[k2];simp⟩
       all_goals exact comps_has rfl hv
      obtain⟨y,k1,k2⟩:=hc
      exact⟨_,y,by simp,k1,k2⟩
def placesOf (fs:List (Nat×TypeId×Nat)) (i:Nat):Option (Nat×Nat):=match fs[i]? with
 |some (off,_,sz)=>some (off,sz)
 |none=>none
section
variable {P:Program} {o:Oper} {fr:List (Nat×SV)} {fk:List (Nat×Blk)}
theorem run_places {fl:List Field} (h:fl.all (fun f=>(P.info? f.type).isSome)=true) (w:World):
  (fl.mapM (fun f=>do pure (f.offset,←Go.sizeOf f.type):Field→Sem (Nat×Nat))).run P w= .ok (fl.map (fun f=>(f.offset,P.cellsOf f.type))) w:=by
 induction fl with
 |nil=>rfl
 |cons f fl ih=>
  simp only[List.all_cons,Bool.and_eq_true]at h
  rw[List.mapM_cons]
  simp only[Sem.run_bind,cellsOf_run h.1,Result.andThen_ok,Sem.run_pure,ih h.2,List.map_cons]
theorem op_build {t:TypeId} {parts:Array (Nat×Operand)} {ti:TI} {fs:List (Nat×TypeId×Nat)} {ps:List (Nat×List SV)} {l:List SV} {c:SV} (ho:o.op= .build t parts) (ht:TOK P t ti) (hk:ti.kind= .agg fs)
  (hps:evParts fr parts.toList=some ps) (hb:buildC 64 (placesOf fs) ti.zero ps=some l) (hsh:shapeAs ti l=some c):OpOK P o fr fk c [] []:=
 ok_pure fun ρ a w hp=>by
  obtain⟨i,z,i1,i2,i3,i4,i5,i6,i7,_⟩:=ht.info
  have hkd:=ht.kind;rw[hk]at hkd
  obtain⟨k1,k2,k3⟩:=hkd
  obtain⟨p1,p2⟩:=evParts_ok hps ρ a hp.hft
  obtain⟨L',z',e1,e2,e3⟩:=fill_has (ρ:=ρ) ps ti.zero l (parts.toList.map fun p=>(p.1,Act.eval a p.2)) z.cells _ hb (zero_has i6) (by rw[i5,List.flatMap_def]) p1 p2
  have hagg:ti.kind.isAgg=true:=by rw[hk];rfl
  refine⟨.agg L', ?_,shapeAs_has hsh e2 (by rw[hagg,if_pos rfl,←e3])⟩
  have hzv:(Go.zeroValue t).run P w= .ok z w:=by simp[Go.zeroValue,typeInfo,i1,i4]
  have hpl:((P.fieldsOf t).mapM (fun f=>do pure (f.offset,←Go.sizeOf f.type):Field→Sem (Nat×Nat))).run P w= .ok ((P.fieldsOf t).toList.map (fun f=>(f.offset,P.cellsOf f.type))).toArray w:=by
   rw[Array.mapM_eq_mapM_toList,Sem.run_map,run_places k3]
   rfl
  have hfun:(fun x=>((P.fieldsOf t).toList.map (fun f=>(f.offset,P.cellsOf f.type))).toArray[x]?)=placesOf fs:=by
   funext j
   rw[←k2]
   simp only[placesOf,List.getElem?_map,List.getElem?_toArray]
   cases (P.fieldsOf t).toList[j]? <;>rfl
  have hmap:(parts.map fun(i,x)=>(i,Act.eval a x)).toList=parts.toList.map fun p=>(p.1,Act.eval a p.2):=by simp
  simp only[execOp,ho,Instr.build,Sem.run_bind,hzv,Result.andThen_ok,run_underlying k1,hpl,hfun,hmap,e1,Sem.run_pure]
theorem op_buildArr {t e:TypeId} {n:Nat} {parts:Array (Nat×Operand)} {ti te:TI} {ps:List (Nat×List SV)} {l:List SV} {c:SV} (ho:o.op= .build t parts) (ht:TOK P t ti) (hk:ti.kind= .arr n e) (he:TOK P e te)
  (hps:evParts fr parts.toList=some ps) (hb:buildC 64 (fun i=>some (i*te.size,te.size)) ti.zero ps=some l) (hsh:shapeAs ti l=some c):OpOK P o fr fk c [] []:=
 ok_pure fun ρ a w hp=>by
  obtain⟨i,z,i1,i2,i3,i4,i5,i6,i7,_⟩:=ht.info
  have hkd:=ht.kind;rw[hk]at hkd
  obtain⟨p1,p2⟩:=evParts_ok hps ρ a hp.hft
  obtain⟨L',z',e1,e2,e3⟩:=fill_has (ρ:=ρ) ps ti.zero l (parts.toList.map fun p=>(p.1,Act.eval a p.2)) z.cells _ hb (zero_has i6) (by rw[i5,List.flatMap_def]) p1 p2
  have hagg:ti.kind.isAgg=true:=by rw[hk];rfl
  refine⟨.agg L', ?_,shapeAs_has hsh e2 (by rw[hagg,if_pos rfl,←e3])⟩
  have hzv:(Go.zeroValue t).run P w= .ok z w:=by simp[Go.zeroValue,typeInfo,i1,i4]
  have hmap:(parts.map fun(i,x)=>(i,Act.eval a x)).toList=parts.toList.map fun p=>(p.1,Act.eval a p.2):=by simp
  have hkd:P.underlying t=some (.array n e):=hkd
  simp only[execOp,ho,Instr.build,Sem.run_bind,hzv,Result.andThen_ok,run_underlying hkd,he.sizeOf,hmap,e1,Sem.run_pure]
end
end Go.Sx
namespace Go.Sx
def toInts (kd:IntKind):List SV→Option (List Int)
 |[]=>some []
 |.val (.int k n)::r=>if k=kd then match toInts kd r with
  |some l=>some (n::l)
  |none=>none
  else none
 |_=>none
def toFracs:List SV→Option (List Rat)
 |[]=>some []
 |.frac q::r=>match toFracs r with
  |some l=>some (q::l)
  |none=>none
 |_=>none
def allW (s:Nat):List SV→Bool
 |[]=>true
 |c::r=>Nat.beq c.width s&&allW s r
def dataOf (te:TI) (cs:List SV):Option Data:=
 match te.zero with
 |[.frac _]=>match toFracs cs,Nat.beq te.size 5 with
  |some l,true=>some (.fracs l)
  |_,_=>none
 |[.val (.int kd _)]=>match toInts kd cs,Nat.beq te.size 1 with
  |some l,true=>some (.ints kd l)
  |_,_=>none
 |_=>match allW te.size cs&&keylessL cs with
  |true=>some (.seq te.size cs)
  |false=>none
theorem toInts_has {ρ:Rho} {kd:IntKind}:∀{cs:List SV} {l:List Int} {z:List (List Value)},toInts kd cs=some l→HasZ ρ cs z→z=l.map (fun x=>[.int kd x])
 |[],l,z,h,hz=>by simp[toInts]at h;subst h;simpa [HasZ]using hz
 |c::r,l,z,h,hz=>by
  unfold toInts at h
  split at h
  ·simp_all
  ·rename_i k n r' heq
   simp only[List.cons.injEq]at heq
   obtain⟨rfl,rfl⟩:=heq
   split at h
   ·rename_i hk
    subst hk
    split at h
    ·rename_i l' hl
     simp only[Option.some.injEq]at h
     subst h
     simp only[HasZ,HasC]at hz
     obtain⟨x,y,rfl,⟨rfl,_⟩,h2⟩:=hz
     rw[toInts_has hl h2]
     rfl
    ·simp at h
   ·simp at h
  ·simp at h
theorem toFracs_has {ρ:Rho}:∀{cs:List SV} {l:List Rat} {z:List (List Value)},toFracs cs=some l→HasZ ρ cs z→z=l.map fracCells
 |[],l,z,h,hz=>by simp[toFracs]at h;subst h;simpa [HasZ]using hz
 |c::r,l,z,h,hz=>by
  unfold toFracs at h
  split at h
  ·simp_all
  ·rename_i q r' heq
   simp only[List.cons.injEq]at heq
   obtain⟨rfl,rfl⟩:=heq
   split at h
   ·rename_i l' hl
    simp only[Option.some.injEq]at h
    subst h
    simp only[HasZ,HasC]at hz
    obtain⟨x,y,rfl,rfl,h2⟩:=hz
    rw[toFracs_has hl h2]
    rfl
   ·simp at h
  ·simp at h
theorem allW_spec {s:Nat}:∀{cs:List SV},allW s cs=true→∀x∈cs,x.width=s
 |c::r,h,x,hx=>by
  simp only[allW,Bool.and_eq_true]at h
  rcases List.mem_cons.1 hx with rfl|hx
  ·exact Nat.eq_of_beq_eq_true h.1
  ·exact allW_spec h.2 x hx
theorem dataOf_rows {ρ:Rho} {te:TI} {cs:List SV} {d:Data} {z:List (List Value)} (h:dataOf te cs=some d) (hz:HasZ ρ cs z):Rows ρ te.size d z:=by
 unfold dataOf at h
 split at h
 ·split at h
  ·rename_i l hl hs
   simp only[Option.some.injEq]at h
   subst h
   exact⟨Nat.eq_of_beq_eq_true hs,toFracs_has hl hz⟩
  ·simp at h
 ·split at h
  ·rename_i l hl hs
   simp only[Option.some.injEq]at h
   subst h
   exact⟨Nat.eq_of_beq_eq_true hs,toInts_has hl hz⟩
  ·simp at h
 ·split at h
  ·rename_i hw
   simp only[Option.some.injEq]at h
   subst h
   rw[Bool.and_eq_true]at hw
   exact⟨rfl,keylessL_has (ρ:=ρ) (ρ':=bareR ρ.imm ρ.glob) (fun _ _ h=>h) cs z hw.2 hz,allW_spec hw.1⟩
  ·simp at h
def repN:Nat→List SV→List SV
 |0,_=>[]
 |n+1,l=>l++repN n l
theorem repN_has {ρ:Rho} {l:List SV} {y:List (List Value)} (h:HasZ ρ l y):∀n,HasZ ρ (repN n l) ((List.replicate n y).flatten)
 |0=>by simp[repN,HasZ]
 |n+1=>by simp only[repN,List.replicate_succ,List.flatten_cons];exact HasZ_append h (repN_has h n)
section
variable {P:Program} {o:Oper} {fr:List (Nat×SV)} {fk:List (Nat×Blk)}
theorem op_buildSlice {t e:TypeId} {len k:Nat} {parts:Array (Nat×Operand)} {ti te:TI} {ps:List (Nat×List SV)} {l:List SV} {d:Data} (ho:o.op= .buildSlice t len parts) (ht:TOK P t ti) (hk:ti.kind= .slc e) (he:TOK P e te)
  (hps:evParts fr parts.toList=some ps) (hb:buildC 64 (fun i=>some (i*te.size,te.size)) (repN len te.zero) ps=some l) (hd:dataOf te l=some d) (hln:l.length=len) (hsz:len*te.size≤16777216):
  OpOK P o fr fk (.slc k te.size 0 len) [(k,⟨e,true,d⟩)] []:=
 ok_value fun ρ a w hp=>by
  obtain⟨i,z,i1,i2,i3,i4,i5,i6,i7,_⟩:=he.info
  have hu:=ht.kind;rw[hk]at hu
  obtain⟨p1,p2⟩:=evParts_ok hps ρ a hp.hft
  have hz0:=repN_has (zero_has (ρ:=ρ) i6) len
  have hmade:(madeCells z.cells (len*te.size)).toList=((List.replicate len (te.zero.map zcell)).flatten).flatten:=by
   rw[madeCells_flat z.cells te.size i7 len,i5]
   have:∀n,(List.replicate n (te.zero.flatMap zcell)).flatten=((List.replicate n (te.zero.map zcell)).flatten).flatten:=by
    intro n
    induction n with
    |zero=>rfl
    |succ n ih=>rw[List.replicate_succ,List.replicate_succ,List.flatten_cons,List.flatten_cons,List.flatten_append,←ih,List.flatMap_def]
   exact this len
  obtain⟨L',z',e1,e2,e3⟩:=fill_has (ρ:=ρ) ps _ l (parts.toList.map fun p=>(p.1,Act.eval a p.2)) (madeCells z.cells (len*te.size)) _ hb hz0 hmade p1 p2
  have hrows:=dataOf_rows hd e2
  have hlen:=hrows.len
  have hmap:(parts.map fun(i,x)=>(i,Act.eval a x)).toList=parts.toList.map fun p=>(p.1,Act.eval a p.2):=by simp
  have hLl:L'=(z'.flatten++[]).toArray:=by rw[List.append_nil,←e3]
  refine⟨_,_,_, ?_,post_row (hL:=hrows.notLoop) (ty:=e) (d:=d) (s:=te.size) (n:=len) (cap:=len) (vs:=z'.flatten) (ex:=[]) (hp.fresh k _ (List.mem_cons_self ..)) hrows.data (Nat.le_refl _) ?_ (by simp)⟩
  ·have hsz':¬len*te.size>16777216:=by omega
   by_cases h0:len*te.size=0
   ·have hm:(Array.range 0).map (fun x=>(#[]:Array Value)[x % (#[]:Array Value).size]!)=madeCells z.cells (len*te.size):=by simp[h0,madeCells]
    simp only[execOp,ho,Instr.buildSlice,Sem.run_bind,run_underlying hu,Result.andThen_ok,he.sizeOf,h0,hmap]
    rw[h0]at hm
    simp only[Nat.reducePow,Nat.not_lt_zero,gt_iff_lt,if_false,if_true,Sem.run_bind,Sem.run_pure,Result.andThen_ok,hm]
    rw[h0]at e1
    simp only[e1,Sem.run_bind,newRow,run_newObj,Sem.run_pure,Result.andThen_ok,hLl,World.alloc_eq]
   ·have hm:(Array.range (len*te.size)).map (fun x=>z.cells[x % z.cells.size]!)=madeCells z.cells (len*te.size):=rfl
    have hzv:(Go.zeroValue e).run P w= .ok z w:=by simp[Go.zeroValue,typeInfo,i1,i4]
    simp only[execOp,ho,Instr.buildSlice,Sem.run_bind,run_underlying hu,Result.andThen_ok,he.sizeOf,h0,hmap,Nat.reducePow,hsz',if_false,hzv,Sem.run_pure,hm,e1,newRow,run_newObj,hLl,World.alloc_eq]
  ·rw[List.append_nil,flatten_len _ hlen.2,HasZ_length e2,hln]
   exact Nat.le_refl _
theorem zeroCells_one {z:Array Value} (h:∀v∈z.toList,v.oneCell'=true) (n:Nat):∀v∈(Builtin.zeroCells z n).toList,v.oneCell'=true:=by
 intro v hv
 simp only[Builtin.zeroCells,Array.toList_map,Array.toList_range,List.mem_map,List.mem_range]at hv
 obtain⟨i,hi,rfl⟩:=hv
 have hpos:0<z.size:=by
  rcases Nat.eq_zero_or_pos z.size with h0|h0
  ·rw[h0]at hi;simp at hi
  ·exact h0
 have hlt:i % z.size<z.size:=Nat.mod_lt _ hpos
 have:z[i % z.size]! =z[i % z.size]:=by simp[hlt]
 rw[this]
 exact h _ (by simp)
theorem Rows.nil {ρ:Rho} {d:Data} {s:Nat} (h:d.empty) (hs:dwidth d=some s):Rows ρ s d []:=by
 cases d<;>simp only[dwidth,Option.some.injEq,reduceCtorEq]at hs<;>subst hs<;>simp only[Data.empty]at h<;>subst h
 ·exact⟨rfl,rfl⟩
 ·exact⟨rfl,rfl⟩
 ·exact⟨rfl,by simp[HasZ],by simp⟩
theorem blk_rows {ρ:Rho} {w:World} {k s:Nat} {blk:Blk} (hb:BlkOK ρ w k blk) (hl:blk.data.live=true) (hw:dwidth blk.data=some s):
  ∃z,Rows ρ s blk.data z∧((∃b t ex,ρ.key k=some (b,t)∧w.heap[b]? =some (.cells (z.flatten++ex).toArray blk.ty (0,0))∧(z.flatten++ex).length=t∧(∀v∈ex,v.oneCell'=true))∨(ρ.key k=none∧z=[])):=by
 rcases hb with h0|⟨b,t,vs,ex,h1,h2,h3,h4,h5⟩|⟨h1,h2⟩
 ·rw[hl]at h0;cases h0
 ·obtain⟨z,hz,rfl⟩:=Rows.of h3 hw
  exact⟨z,hz,.inl ⟨b,t,ex,h1,by rw[h2,Data.obj_cells (by cases hd:blk.data<;>first|rfl|(rw[hd]at hw;simp[dwidth]at hw))],h4,h5⟩⟩
 ·exact⟨[],.nil h2 hw,.inr ⟨h1,rfl⟩⟩
theorem Rows.one' {ρ:Rho} {d:Data} {s:Nat} {z:List (List Value)} (h:Rows ρ s d z):∀u∈z,∀v∈u,v.oneCell'=true:=fun u hu v hv=>
 h.data.one' v (List.mem_flatten.2 ⟨u,hu,hv⟩)
theorem addr_add0 (b s j:Nat):(⟨b,0*s,none⟩:Addr).add j=⟨b,j,none⟩:=by
 rw[Nat.zero_mul]
 unfold Addr.add
 split
 ·rename_i h;rw[h]
 ·simp
theorem run_first {ρ:Rho} {w:World} {k s i n:Nat} {blk:Blk} {v:Value} (hv:Has ρ (.slc k s i n) v) (hb:BlkOK ρ w k blk) (hl:blk.data.live=true) (hw:dwidth blk.data=some s) (hin:i+n≤dlen blk.data):
  ∃z,Rows ρ s blk.data z∧(∀w',(∀b,b<w.heap.size→w'.heap[b]? =w.heap[b]?)→(Builtin.firstCells s n v).run P w'= .ok (((z.drop i).take n).flatten).toArray w')∧Builtin.lenOf v=Pure.pure n:=by
 obtain⟨z,hz,hcase⟩:=blk_rows hb hl hw
 obtain⟨zl,zw⟩:=hz.len
 refine⟨z,hz, ?_⟩
 rcases has_slc hv with⟨b,t,cap,e1,e2,e3,rfl⟩|⟨rfl,a,rfl⟩
 ·rcases hcase with⟨b',t',ex,h1,h2,h3,h4⟩|⟨h1,_⟩
  ·rw[e1]at h1
   cases h1
   refine⟨fun w' hw'=> ?_,rfl⟩
   have hblt:b<w.heap.size:=by
    rcases Nat.lt_or_ge b w.heap.size with h'|h'
    ·exact h'
    ·simp[Array.getElem?_eq_none h']at h2
   have hh:w'.heap[b]? =some (.cells (z.flatten++ex).toArray blk.ty (0,0)):=by rw[hw' b hblt];exact h2
   have hseg:((z.drop i).take n).flatten=(z.flatten.drop (i*s)).take (n*s):=by
    rw[flatten_take (s:=s) _ _ (fun u hu=>zw u (List.mem_of_mem_drop hu)),flatten_drop (s:=s) _ _ zw]
   have hlen:(((z.drop i).take n).flatten).length=n*s:=by
    rw[flatten_len (s:=s) _ (fun u hu=>zw u (List.mem_of_mem_drop (List.mem_of_mem_take hu))),List.length_take,List.length_drop]
    congr 1
    omega
   refine run_firstCells_some (P:=P) w' s n _ n cap _ hlen ?_
   intro j u hj
   have hadd:(⟨b,i*s,none⟩:Addr).add j=⟨b,i*s+j,none⟩:=by unfold Addr.add;split<;>simp_all
   rw[hadd,cell_of_row w' b (i*s+j) _ blk.ty (0,0) hh]
   have h6:=take_eq_get hseg j u hj
   have hlt:i*s+j<z.flatten.length:=(List.getElem?_eq_some_iff.1 h6).1
   simp only[List.getElem?_toArray]
   rw[List.getElem?_append_left hlt]
   exact h6
  ·rw[e1]at h1;cases h1
 ·refine⟨fun w' _=> ?_,rfl⟩
  cases a with
  |none=>simp[Builtin.firstCells]
  |some a=>simp[Builtin.firstCells,loadCells,loadCellsFrom]
theorem op_append {t t2 e:TypeId} {x y:Operand} {xs:Array Operand} {ts:Array TypeId} {ti ti2 te:TI} {k k2 kn n i2 m:Nat} {d d':Data} {blk2:Blk} (ho:o.op= .call ⟨.builtin .append,xs,ts⟩) (hxs:xs= #[x,y]) (hts:ts= #[t,t2])
  (hx:EvOK fr x (.slc k te.size 0 n)) (hy:EvOK fr y (.slc k2 te.size i2 m)) (ht:TOK P t ti) (hk:ti.kind= .slc e) (ht2:TOK P t2 ti2) (hk2:ti2.kind= .slc e) (he:TOK P e te)
  (hf:(k,⟨e,true,d⟩)∈fk) (hf2:(k2,blk2)∈fk) (hl:d.live=true) (hl2:blk2.data.live=true) (hw:dwidth d=some te.size) (hw2:dwidth blk2.data=some te.size)
  (hn:n≤dlen d) (hm:i2+m≤dlen blk2.data) (hd:dapp d n blk2.data i2 m=some d') (hbytes:(n+m)*te.bytes≤140737488355328) (h63:n+m≤9223372036854775807):
  OpOK P o fr fk (.slc kn te.size 0 (n+m)) [(kn,⟨e,true,d'⟩)] [(k,⟨e,true,.dead⟩)]:=
 ok_value fun ρ a w hp=>by
  have hvx:=hx ρ a hp.hft
  have hvy:=hy ρ a hp.hft
  obtain⟨i,zv,i1,i2',i3,i4,i5,i6,i7,_⟩:=he.info
  have hu:=ht.kind;rw[hk]at hu
  have hu2:=ht2.kind;rw[hk2]at hu2
  obtain⟨z,hz,hzc⟩:=blk_rows (hp.hfk k _ hf) hl hw
  obtain⟨z2,hz2,hrun2,hlen2⟩:=run_first (P:=P) hvy (hp.hfk k2 _ hf2) hl2 hw2 hm
  obtain⟨zl,zw⟩:=hz.len
  obtain⟨zl2,zw2⟩:=hz2.len
  have hrows:=(dapp_rows hd hz hz2).1
  have hfresh:=hp.fresh kn _ (List.mem_cons_self ..)
  simp only at zl
  have hsegw:∀u∈(z2.drop i2).take m,u.length=te.size:=fun u hu=>zw2 u (List.mem_of_mem_drop (List.mem_of_mem_take hu))
  have hsegl:((z2.drop i2).take m).length=m:=by rw[List.length_take,List.length_drop];omega
  have hnews:(((z2.drop i2).take m).flatten).length=m*te.size:=by rw[flatten_len _ hsegw,hsegl]
  have hnone:∀u∈(((z2.drop i2).take m).flatten),u.oneCell'=true:=fun u hu=>by
   obtain⟨q,hq,hu⟩:=List.mem_flatten.1 hu
   exact hz2.one' q (List.mem_of_mem_drop (List.mem_of_mem_take hq)) u hu
  have hcall:∀v w',(Builtin.append_ ts o.type #[a.eval x,a.eval y]).run P w= .ok v w'→(execOp a.eval o).run P w= .ok (.value v) w':=by
   intro v w' h
   simp only[execOp,ho,resolve,invoke,builtin,hxs,Sem.run_bind,Sem.run_pure,Result.andThen_ok,List.map_toArray,List.map_cons,List.map_nil]
   rw[h]
   rfl
  have zone:∀v∈zv.cells.toList,v.oneCell'=true:=by
   have h1:=(HasZ.len (ρ:=ρ) te.zero _ (zero_has i6)).2
   rw[i5,List.flatMap_def];exact h1
  have h63':¬((n+m:Nat):Int)>IntKind.i64.max:=by
   have:IntKind.i64.max=9223372036854775807:=by decide
   omega
  have grow:∀(base:Option Addr) (cap:Nat),a.eval x= .slice base n cap→cap<n+m→(∀w',(∀b,b<w.heap.size→w'.heap[b]? =w.heap[b]?)→(Builtin.firstCells te.size n (.slice base n cap)).run P w'= .ok ((z.take n).flatten).toArray w')→
    ∃v w' ρ',(execOp a.eval o).run P w= .ok (.value v) w'∧Post ρ w (.slc kn te.size 0 (n+m)) [(kn,⟨e,true,d'⟩)] [(k,⟨e,true,.dead⟩)] v ρ' w':=by
   intro base cap hbx hcap hfirst
   have hfit:¬Builtin.nextslicecap (n+m) cap*i.bytes>2^48:=by
    have:=growslice_fits (bytes:=te.bytes) hcap hbytes
    rw[i3];simpa using this
   have hgc:n+m≤grownCap w (n+m) cap e:=by
    simp only[grownCap,Question.cut]
    omega
   have hpost:=post_row (hL:=hrows.notLoop) (ρ:=ρ) (w:=w.drew) (k:=kn) (s:=te.size) (n:=n+m) (cap:=grownCap w (n+m) cap e) (ty:=e) (d:=d') (vs:=(z.take n++(z2.drop i2).take m).flatten) (ex:=(Builtin.zeroCells zv.cells (grownCap w (n+m) cap e - (n+m))).toList) hfresh hrows.data hgc
    (by
     have h1:((z.take n++(z2.drop i2).take m).flatten).length=(n+m)*te.size:=by
      rw[flatten_len (s:=te.size) _ (fun u hu=>(List.mem_append.1 hu).elim (fun h=>zw u (List.mem_of_mem_take h)) (hsegw u)),List.length_append,hsegl,List.length_take]
      congr 1
      omega
     rw[List.length_append,h1,Array.length_toList]
     have h2:(Builtin.zeroCells zv.cells (grownCap w (n+m) cap e - (n+m))).size=(grownCap w (n+m) cap e - (n+m))*te.size:=by simp[Builtin.zeroCells,i7]
     rw[h2,←Nat.add_mul,show n+m+(grownCap w (n+m) cap e - (n+m))=grownCap w (n+m) cap e from by omega]
     exact Nat.le_refl _) (zeroCells_one zone _)
   refine⟨_,_,_,hcall _ _ ?_,{hpost with
    pres:=⟨hpost.pres.os,hpost.pres.tape,hpost.pres.output,hpost.pres.size,fun b hb hn=>hpost.pres.block b hb (fun hh=>by obtain⟨_,_,_,hh,_⟩:=hh;cases hh),Nat.le_trans (Nat.le_succ _) hpost.pres.drawn⟩
    blk:=fun j b hj=>by
     rcases hj with hj|hj
     ·simp only[List.mem_singleton,Prod.mk.injEq]at hj
      obtain⟨rfl,rfl⟩:=hj
      exact .inl rfl
     ·exact hpost.blk j b (.inr hj)
    once:=fun j b b' h1 h2 h3 h4=>by
     simp only[List.mem_singleton,Prod.mk.injEq]at h1 h2
     rw[h2.2]at h4
     cases h4
    newb:=fun j b q hj hq=>.inl ((hpost.newb j b q hj hq).elim id (fun hh=>by obtain⟨_,_,_,hh,_⟩:=hh;cases hh))}⟩
   have hz0:(if false=true then(Pure.pure 0:Sem Nat)else Builtin.lenOf (a.eval y)).run P w= .ok m w:=by rw[hlen2];rfl
   have hcap':¬n+m≤cap:=by omega
   have hnb:(w.drew).heap=w.heap:=rfl
   have hr1:=hfirst w.drew (fun b _=>rfl)
   have hr2:=hrun2 w.drew (fun b _=>rfl)
   simp only[Builtin.append_,hts,hbx,List.getElem?_toArray,List.getElem?_cons_zero,List.getElem?_cons_succ,Sem.run_bind,run_underlying hu,run_underlying hu2,Result.andThen_ok,he.sizeOf,Sem.run_pure,Bool.false_eq_true,if_false,hlen2]
   have hti:∀w',(typeInfo e).run P w'= .ok i w':=fun w'=>by simp[typeInfo,i1]
   have hzv:∀w',(Go.zeroValue e).run P w'= .ok zv w':=fun w'=>by simp[Go.zeroValue,typeInfo,i1,i4]
   have hcond:¬(((n+m:Nat):Int)>IntKind.i64.max∧(False∨i.bytes=0)):=fun h=>h63' h.1
   have hforced:(Question.appendCap (n+m) cap e).forced=false:=rfl
   simp only[hcap',if_false,Sem.run_bind,hti,Result.andThen_ok,hcond,hfit,run_choose,hforced,Bool.false_eq_true,World.drew_eq,run_askRoom,hr1,Bool.not_false,if_true,hr2,hzv,newRow,run_newObj,Sem.run_pure,World.alloc_eq]
   have harr:((z.take n).flatten.toArray++((z2.drop i2).take m).flatten.toArray++Builtin.zeroCells zv.cells (grownCap w (n+m) cap e - (n+m)))=((z.take n++(z2.drop i2).take m).flatten++(Builtin.zeroCells zv.cells (grownCap w (n+m) cap e - (n+m))).toList).toArray:=by
    apply Array.ext'
    simp
   show Result.ok (Value.slice (some ⟨w.drew.heap.size,0,none⟩) (n+m) (grownCap w (n+m) cap e)) (w.drew.alloc (.cells ((z.take n).flatten.toArray++((z2.drop i2).take m).flatten.toArray++Builtin.zeroCells zv.cells (grownCap w (n+m) cap e - (n+m))) e))=_
   rw[harr]
  rcases has_slc hvx with⟨b,tt,cap,e1,e2,e3,e4⟩|⟨rfl,ad,e4⟩
  ·rcases hzc with⟨b',tt',ex,c1,c2,c3,c4⟩|⟨c1,_⟩
   ·rw[e1]at c1
    cases c1
    simp only at c2
    rcases Nat.lt_or_ge cap (n+m)with hlt|hge
    ·refine grow _ cap e4 hlt ?_
     obtain⟨z3,hz3,hrun3,_⟩:=run_first (P:=P) hvx (hp.hfk k _ hf) hl hw (by simpa using hn)
     intro w' hw'
     have h0:=run_firstCells_some (P:=P) w' te.size n ⟨b,0*te.size,none⟩ n cap ((z.take n).flatten) (by
      rw[flatten_len (s:=te.size) _ (fun u hu=>zw u (List.mem_of_mem_take hu)),List.length_take];congr 1;omega) (by
      intro j u hj
      have hblt:b<w.heap.size:=by
       rcases Nat.lt_or_ge b w.heap.size with h'|h'
       ·exact h'
       ·simp[Array.getElem?_eq_none h']at c2
      have hh:w'.heap[b]? =some (.cells (z.flatten++ex).toArray e (0,0)):=by rw[hw' b hblt];exact c2
      have hadd:(⟨b,0*te.size,none⟩:Addr).add j=⟨b,j,none⟩:=addr_add0 b te.size j
      rw[hadd,cell_of_row w' b j _ e (0,0) hh]
      rw[flatten_take (s:=te.size) _ _ zw]at hj
      have h6:z.flatten[j]? =some u:=by
       rw[List.getElem?_take]at hj
       split at hj
       ·exact hj
       ·cases hj
      have hlt2:j<z.flatten.length:=(List.getElem?_eq_some_iff.1 h6).1
      simp only[List.getElem?_toArray]
      rw[List.getElem?_append_left hlt2]
      exact h6)
     exact h0
    ·-- in place
     have hblt:b<w.heap.size:=by
      rcases Nat.lt_or_ge b w.heap.size with h'|h'
      ·exact h'
      ·simp[Array.getElem?_eq_none h']at c2
     have hr2:=hrun2 w (fun b _=>rfl)
     have hfitc:0*te.size+n*te.size+(((z2.drop i2).take m).flatten).length≤(z.flatten++ex).length:=by
      rw[hnews,c3,Nat.zero_mul,Nat.zero_add,←Nat.add_mul]
      exact Nat.le_trans (Nat.mul_le_mul_right _ hge) (by simpa using e3)
     have hsc:=run_storeCells_at (P:=P) b (n*te.size) e (((z2.drop i2).take m).flatten) 0 (z.flatten++ex).toArray w c2 (by simp only[List.size_toArray];simpa using hfitc) hnone
     have hadd:(⟨b,0*te.size,none⟩:Addr).add (n*te.size)=⟨b,n*te.size,none⟩:=addr_add0 b te.size _
     have hcells:((z.flatten++ex).take (n*te.size+0)++(((z2.drop i2).take m).flatten)++(z.flatten++ex).drop (n*te.size+0+(((z2.drop i2).take m).flatten).length))=
       (z.take n++(z2.drop i2).take m).flatten++(z.flatten++ex).drop (n*te.size+m*te.size):=by
      rw[Nat.add_zero,hnews,List.flatten_append,flatten_take (s:=te.size) _ _ zw,List.take_append_of_le_length (by rw[flatten_len (s:=te.size) _ zw];exact Nat.mul_le_mul_right _ (by omega))]
     rw[hcells]at hsc
     let ρ':Rho:=⟨fun j=>if j=kn then some (b,tt)else ρ.key j,ρ.imm,ρ.glob⟩
     have hle:ρ.Le ρ':=⟨fun j q hq=>by
      show(if j=kn then _ else _)=_
      by_cases hj:j=kn
      ·subst hj;rw[hfresh]at hq;cases hq
      ·rw[if_neg hj];exact hq,fun b o hb=>hb⟩
     refine⟨.slice (some ⟨b,0*te.size,none⟩) (n+m) cap,w.setRow b ((z.take n++(z2.drop i2).take m).flatten++(z.flatten++ex).drop (n*te.size+m*te.size)).toArray,ρ',hcall _ _ ?_, ?_⟩
     ·simp only[Builtin.append_,hts,e4,List.getElem?_toArray,List.getElem?_cons_zero,List.getElem?_cons_succ,Sem.run_bind,run_underlying hu,run_underlying hu2,Result.andThen_ok,he.sizeOf,Sem.run_pure,Bool.false_eq_true,if_false,hlen2,hge,if_true,Bool.not_false,hr2,hadd,hsc]
     ·refine⟨hle,slc_has (.inl ⟨b,tt,cap, ?_,hge,e3,rfl⟩), ?_,⟨rfl,rfl,rfl,by simp[World.setRow], ?_,Nat.le_refl _⟩, ?_, ?_, ?_, ?_,fun b o hb=>.inl hb⟩
      ·show(if kn=kn then _ else _)=_
       rw[if_pos rfl]
      ·intro j hj
       show(if j=kn then _ else _)=_
       rw[if_neg]
       rintro rfl
       exact hj _ (List.mem_cons_self ..)
      ·intro q hq hnq
       refine heap_setRow_other fun hqb=>hnq ⟨k,_,tt,List.mem_cons_self .., ?_⟩
       rw[hqb];exact e1
      ·intro j bj hj
       rcases hj with hj|hj
       ·simp only[List.mem_singleton,Prod.mk.injEq]at hj
        obtain⟨rfl,rfl⟩:=hj
        exact .inl rfl
       ·simp only[List.mem_singleton,Prod.mk.injEq]at hj
        obtain⟨rfl,rfl⟩:=hj
        refine .inr (.inl ⟨b,tt,_,(z.flatten++ex).drop (n*te.size+m*te.size), ?_,by rw[Data.obj_cells hrows.notLoop];exact heap_setRow_same c2,hrows.data.mono hle, ?_, ?_⟩)
        ·show(if j=j then _ else _)=_
         rw[if_pos rfl]
        ·have h1:((z.take n++(z2.drop i2).take m).flatten).length=(n+m)*te.size:=by
          rw[flatten_len (s:=te.size) _ (fun u hu=>(List.mem_append.1 hu).elim (fun h=>zw u (List.mem_of_mem_take h)) (hsegw u)),List.length_append,hsegl,List.length_take]
          congr 1
          omega
         rw[List.length_append,h1,List.length_drop,c3,Nat.add_mul]
         rw[hnews,c3]at hfitc
         omega
        ·intro u hu
         have:=List.mem_of_mem_drop hu
         rcases List.mem_append.1 this with h|h
         ·obtain⟨q,hq,hu'⟩:=List.mem_flatten.1 h
          exact hz.one' q hq u hu'
         ·exact c4 u h
      ·intro j c c' h1 h2 h3 h4
       simp only[List.mem_singleton,Prod.mk.injEq]at h1 h2
       rw[h2.2]at h4
       cases h4
      ·intro j bj q hj hq
       simp only[List.mem_singleton,Prod.mk.injEq]at hj
       obtain⟨rfl,rfl⟩:=hj
       have hq':(if j=j then some (b,tt)else ρ.key j)=some q:=hq
       rw[if_pos rfl]at hq'
       cases hq'
       exact .inr ⟨k,_,tt,List.mem_cons_self ..,rfl,e1⟩
      ·intro j bj j' bj' q q' hj hj' hne
       simp only[List.mem_singleton,Prod.mk.injEq]at hj hj'
       exact absurd (hj.1.trans hj'.1.symm) hne
   ·rw[e1]at c1;cases c1
  ·rcases Nat.eq_zero_or_pos m with rfl|hm0
   ·-- nothing onto nothing
    have hr2:=hrun2 w (fun b _=>rfl)
    refine⟨.slice ad 0 0,w,ρ,hcall _ _ ?_, ?_⟩
    ·have hst:∀q:Addr,(storeCells q ([]:List Value)).run P w= .ok () w:=fun q=>rfl
     have hseg0:((z2.drop i2).take 0).flatten=[]:=by simp
     rw[hseg0]at hr2
     cases ad<;>simp only[Builtin.append_,hts,e4,List.getElem?_toArray,List.getElem?_cons_zero,List.getElem?_cons_succ,Sem.run_bind,run_underlying hu,run_underlying hu2,Result.andThen_ok,he.sizeOf,Sem.run_pure,Bool.false_eq_true,if_false,hlen2,Nat.add_zero,Nat.le_refl,if_true,Bool.not_false,hr2,hst]
    ·have hemp:d'.empty∨True:=.inr trivial
     have hd0:d'.empty:=by
      unfold dapp at hd
      split at hd
      ·split at hd
       ·simp only[Option.some.injEq]at hd;subst hd;simp[Data.empty]
       ·simp at hd
      ·simp only[Option.some.injEq]at hd;subst hd;simp[Data.empty]
      ·split at hd
       ·simp only[Option.some.injEq]at hd;subst hd;simp[Data.empty]
       ·simp at hd
      ·simp at hd
     refine⟨.refl ρ,slc_has (.inr ⟨rfl,ad,rfl⟩),fun _ _=>rfl,.refl _ _, ?_, ?_, ?_, ?_,fun b o hb=>.inl hb⟩
     ·intro j bj hj
      rcases hj with hj|hj
      ·simp only[List.mem_singleton,Prod.mk.injEq]at hj
       obtain⟨rfl,rfl⟩:=hj
       exact .inl rfl
      ·simp only[List.mem_singleton,Prod.mk.injEq]at hj
       obtain⟨rfl,rfl⟩:=hj
       exact .inr (.inr ⟨hfresh,hd0⟩)
     ·intro j c c' h1 h2 h3 h4
      simp only[List.mem_singleton,Prod.mk.injEq]at h1 h2
      rw[h2.2]at h4
      cases h4
     ·intro j bj q hj hq
      simp only[List.mem_singleton,Prod.mk.injEq]at hj
      obtain⟨rfl,rfl⟩:=hj
      rw[hfresh]at hq;cases hq
     ·intro j bj j' bj' q q' hj hj' hne
      simp only[List.mem_singleton,Prod.mk.injEq]at hj hj'
      exact absurd (hj.1.trans hj'.1.symm) hne
   ·refine grow ad 0 e4 (by omega) ?_
    intro w' _
    cases ad with
    |none=>simp[Builtin.firstCells]
    |some q=>simp[Builtin.firstCells,loadCells,loadCellsFrom]
theorem op_append_nil {t t2 e:TypeId} {x y:Operand} {xs:Array Operand} {ts:Array TypeId} {ti ti2 te:TI} {k2 kn i2 m:Nat} {d':Data} {blk2:Blk} (ho:o.op= .call ⟨.builtin .append,xs,ts⟩) (hxs:xs= #[x,y]) (hts:ts= #[t,t2])
  (hx:EvOK fr x (.val (.slice none 0 0))) (hy:EvOK fr y (.slc k2 te.size i2 m)) (ht:TOK P t ti) (hk:ti.kind= .slc e) (ht2:TOK P t2 ti2) (hk2:ti2.kind= .slc e) (he:TOK P e te)
  (hf2:(k2,blk2)∈fk) (hl2:blk2.data.live=true) (hw2:dwidth blk2.data=some te.size)
  (hm:i2+m≤dlen blk2.data) (hd:dapp blk2.data 0 blk2.data i2 m=some d') (hbytes:m*te.bytes≤140737488355328) (h63:m≤9223372036854775807):
  OpOK P o fr fk (.slc kn te.size 0 m) [(kn,⟨e,true,d'⟩)] []:=
 ok_value fun ρ a w hp=>by
  have hvx:=of_has_val (hx ρ a hp.hft)
  have hvy:=hy ρ a hp.hft
  obtain⟨i,zv,i1,i2',i3,i4,i5,i6,i7,_⟩:=he.info
  have hu:=ht.kind;rw[hk]at hu
  have hu2:=ht2.kind;rw[hk2]at hu2
  obtain⟨z2,hz2,hrun2,hlen2⟩:=run_first (P:=P) hvy (hp.hfk k2 _ hf2) hl2 hw2 hm
  obtain⟨zl2,zw2⟩:=hz2.len
  have hrows:=(dapp_rows hd hz2 hz2).1
  rw[List.take_zero,List.nil_append]at hrows
  have hfresh:=hp.fresh kn _ (List.mem_cons_self ..)
  have hsegw:∀u∈(z2.drop i2).take m,u.length=te.size:=fun u hu=>zw2 u (List.mem_of_mem_drop (List.mem_of_mem_take hu))
  have hsegl:((z2.drop i2).take m).length=m:=by rw[List.length_take,List.length_drop];omega
  have hcall:∀v w',(Builtin.append_ ts o.type #[a.eval x,a.eval y]).run P w= .ok v w'→(execOp a.eval o).run P w= .ok (.value v) w':=by
   intro v w' h
   simp only[execOp,ho,resolve,invoke,builtin,hxs,Sem.run_bind,Sem.run_pure,Result.andThen_ok,List.map_toArray,List.map_cons,List.map_nil]
   rw[h]
   rfl
  have zone:∀v∈zv.cells.toList,v.oneCell'=true:=by
   have h1:=(HasZ.len (ρ:=ρ) te.zero _ (zero_has i6)).2
   rw[i5,List.flatMap_def];exact h1
  rcases Nat.eq_zero_or_pos m with rfl|hm0
  ·have hr2:=hrun2 w (fun b _=>rfl)
   refine⟨.slice none 0 0,w,ρ,hcall _ _ ?_, ?_⟩
   ·have hseg0:((z2.drop i2).take 0).flatten=[]:=by simp
    rw[hseg0]at hr2
    simp only[Builtin.append_,hts,hvx,List.getElem?_toArray,List.getElem?_cons_zero,List.getElem?_cons_succ,Sem.run_bind,run_underlying hu,run_underlying hu2,Result.andThen_ok,he.sizeOf,Sem.run_pure,Bool.false_eq_true,if_false,hlen2,Nat.add_zero,Nat.le_refl,if_true,Bool.not_false,hr2]
   ·have hd0:d'.empty:=by
     unfold dapp at hd
     split at hd
     ·split at hd
      ·simp only[Option.some.injEq]at hd;subst hd;simp[Data.empty]
      ·simp at hd
     ·simp only[Option.some.injEq]at hd;subst hd;simp[Data.empty]
     ·split at hd
      ·simp only[Option.some.injEq]at hd;subst hd;simp[Data.empty]
      ·simp at hd
     ·simp at hd
    refine⟨.refl ρ,slc_has (.inr ⟨rfl,none,rfl⟩),fun _ _=>rfl,.refl _ _, ?_,(fun _ _ _ h=>by cases h), ?_, ?_,fun b o hb=>.inl hb⟩
    ·intro j bj hj
     rcases hj with hj|hj
     ·cases hj
     ·simp only[List.mem_singleton,Prod.mk.injEq]at hj
      obtain⟨rfl,rfl⟩:=hj
      exact .inr (.inr ⟨hfresh,hd0⟩)
    ·intro j bj q hj hq
     simp only[List.mem_singleton,Prod.mk.injEq]at hj
     obtain⟨rfl,rfl⟩:=hj
     rw[hfresh]at hq;cases hq
    ·intro j bj j' bj' q q' hj hj' hne
     simp only[List.mem_singleton,Prod.mk.injEq]at hj hj'
     exact absurd (hj.1.trans hj'.1.symm) hne
  ·have h63':¬((0+m:Nat):Int)>IntKind.i64.max:=by
    have:IntKind.i64.max=9223372036854775807:=by decide
    omega
   have hfit:¬Builtin.nextslicecap (0+m) 0*i.bytes>2^48:=by
    have:=growslice_fits (bytes:=te.bytes) (show 0<0+m by omega) (by rw[Nat.zero_add];exact hbytes)
    rw[i3];simpa using this
   have hgc:m≤grownCap w (0+m) 0 e:=by
    simp only[grownCap,Question.cut]
    omega
   have hpost:=post_row (hL:=hrows.notLoop) (ρ:=ρ) (w:=w.drew) (k:=kn) (s:=te.size) (n:=m) (cap:=grownCap w (0+m) 0 e) (ty:=e) (d:=d') (vs:=((z2.drop i2).take m).flatten) (ex:=(Builtin.zeroCells zv.cells (grownCap w (0+m) 0 e - (0+m))).toList) hfresh hrows.data hgc
    (by
     have h1:(((z2.drop i2).take m).flatten).length=m*te.size:=by rw[flatten_len (s:=te.size) _ hsegw,hsegl]
     rw[List.length_append,h1,Array.length_toList]
     have h2:(Builtin.zeroCells zv.cells (grownCap w (0+m) 0 e - (0+m))).size=(grownCap w (0+m) 0 e - (0+m))*te.size:=by simp[Builtin.zeroCells,i7]
     rw[h2,←Nat.add_mul,show m+(grownCap w (0+m) 0 e - (0+m))=grownCap w (0+m) 0 e from by omega]
     exact Nat.le_refl _) (zeroCells_one zone _)
   refine⟨_,_,_,hcall _ _ ?_,{hpost with pres:=⟨hpost.pres.os,hpost.pres.tape,hpost.pres.output,hpost.pres.size,hpost.pres.block,Nat.le_trans (Nat.le_succ _) hpost.pres.drawn⟩}⟩
   have hcap':¬0+m≤0:=by omega
   have hr2:=hrun2 w.drew (fun b _=>rfl)
   have hti:∀w',(typeInfo e).run P w'= .ok i w':=fun w'=>by simp[typeInfo,i1]
   have hzv:∀w',(Go.zeroValue e).run P w'= .ok zv w':=fun w'=>by simp[Go.zeroValue,typeInfo,i1,i4]
   have hcond:¬(((0+m:Nat):Int)>IntKind.i64.max∧(False∨i.bytes=0)):=fun h=>h63' h.1
   have hforced:(Question.appendCap (0+m) 0 e).forced=false:=rfl
   have hr1:∀w',(Builtin.firstCells te.size 0 (.slice none 0 0)).run P w'= .ok #[] w':=fun w'=>by simp[Builtin.firstCells]
   simp only[Builtin.append_,hts,hvx,List.getElem?_toArray,List.getElem?_cons_zero,List.getElem?_cons_succ,Sem.run_bind,run_underlying hu,run_underlying hu2,Result.andThen_ok,he.sizeOf,Sem.run_pure,Bool.false_eq_true,if_false,hlen2]
   simp only[hcap',if_false,Sem.run_bind,hti,Result.andThen_ok,hcond,hfit,run_choose,hforced,Bool.false_eq_true,World.drew_eq,run_askRoom,hr1,Bool.not_false,if_true,hr2,hzv,newRow,run_newObj,Sem.run_pure,World.alloc_eq]
   have harr:((#[]:Array Value)++((z2.drop i2).take m).flatten.toArray++Builtin.zeroCells zv.cells (grownCap w (0+m) 0 e - (0+m)))=(((z2.drop i2).take m).flatten++(Builtin.zeroCells zv.cells (grownCap w (0+m) 0 e - (0+m))).toList).toArray:=by
    apply Array.ext'
    simp
   show Result.ok (Value.slice (some ⟨w.drew.heap.size,0,none⟩) (0+m) (grownCap w (0+m) 0 e)) (w.drew.alloc (.cells ((#[]:Array Value)++((z2.drop i2).take m).flatten.toArray++Builtin.zeroCells zv.cells (grownCap w (0+m) 0 e - (0+m))) e))=_
   rw[harr,Nat.zero_add]
theorem op_bytesStr {src dst e:TypeId} {x:Operand} {ti td te:TI} {k i n:Nat} {wr:Bool} {ty:TypeId} {xs:List Int} (ho:o.op= .convert src dst x) (hx:EvOK fr x (.slc k 1 i n)) (ht:TOK P src ti) (hk:ti.kind= .slc e) (he:TOK P e te) (hke:te.kind= .int .u8)
  (htd:TOK P dst td) (hkd:td.kind= .str) (hf:(k,⟨ty,wr,.ints .u8 xs⟩)∈fk) (hn:i+n≤xs.length):
  OpOK P o fr fk (.val (.string ⟨(((xs.drop i).take n).map fun v=>UInt8.ofNat v.toNat).toArray⟩)) [] []:=
 ok_pure fun ρ a w hp=>by
  have hv:=hx ρ a hp.hft
  have hu:=ht.kind;rw[hk]at hu
  have hue:=he.kind;rw[hke]at hue
  have hud:=htd.kind;rw[hkd]at hud
  obtain⟨z,hz,hrun,_⟩:=run_first (P:=P) hv (hp.hfk k _ hf) rfl rfl hn
  obtain⟨_,rfl⟩:=hz
  have hr:=hrun w (fun _ _=>rfl)
  have hfold:∀(l:List Int) (b:ByteArray),l.foldl (fun r n=>r.push (UInt8.ofNat n.toNat)) b=⟨b.data++(l.map fun v=>UInt8.ofNat v.toNat).toArray⟩:=by
   intro l
   induction l with
   |nil=>intro b;simp
   |cons v l ih=>
    intro b
    rw[List.foldl_cons,ih]
    congr 1
    show(b.data.push _)++_=_
    apply Array.ext'
    simp
  have hseg:((((xs.map fun x=>[Value.int .u8 x]).drop i).take n).flatten)=((xs.drop i).take n).map (Value.int .u8):=by
   rw[←List.map_drop,←List.map_take,←List.flatMap_def,List.map_eq_flatMap]
  rcases has_slc hv with⟨b,t,cap,e1,e2,e3,hval⟩|⟨rfl,ad,hval⟩
  ·rw[Nat.mul_one]at hval
   rw[hval]at hr
   simp only[Builtin.firstCells,Nat.mul_one,hseg]at hr
   have:=run_bytesToString (P:=P) w ⟨b,i,none⟩ n cap ((xs.drop i).take n) hr
   rw[hfold]at this
   refine⟨_, ?_,has_val rfl⟩
   simp only[execOp,ho,hval,convert,Sem.run_bind,run_underlying hu,run_underlying hud,run_underlying hue,Result.andThen_ok,this,Sem.run_pure]
   congr 4
   apply Array.ext'
   simp
  ·refine⟨_, ?_,has_val rfl⟩
   rw[hval]at hr
   cases ad with
   |none=>
    have:(Conv.bytesToString (.slice none 0 0)).run P w= .ok (.string .empty) w:=rfl
    simp only[execOp,ho,hval,convert,Sem.run_bind,run_underlying hu,run_underlying hud,run_underlying hue,Result.andThen_ok,this,Sem.run_pure]
    rfl
   |some q=>
    have hr:(loadCells q 0).run P w= .ok (([]:List Int).map (Value.int .u8)).toArray w:=rfl
    have:=run_bytesToString (P:=P) w q 0 0 [] hr
    simp only[execOp,ho,hval,convert,Sem.run_bind,run_underlying hu,run_underlying hud,run_underlying hue,Result.andThen_ok,this,Sem.run_pure]
    rfl
end
end Go.Sx
namespace Go.Sx
def vecH (w:Nat) (xs:List SV) (imm:Nat→Option Obj) (vs:List Value):Prop:=
 (xs=[]∧∃a,vs=[.slice a 0 0])∨
 ∃(hg:globOK imm) (b cap:Nat) (z:List (List Value)) (pre ex:List Value) (ty:TypeId) (fz:Nat×Nat),imm b=some (.cells (pre++(z.flatten++ex)).toArray ty fz)∧HasZ (bareR imm hg) xs z∧(∀x∈xs,x.width=w)∧
  xs.length≤cap∧cap*w≤(z.flatten++ex).length∧vs=[.slice (some ⟨b,pre.length,none⟩) xs.length cap]
def vecP (w:Nat) (xs:List SV):Pred where
 h:=vecH w xs
 mono i i' vs hle h:=by
  rcases h with h|⟨hg,b,cap,z,pre,ex,ty,fz,h1,h2,h3⟩
  ·exact .inl h
  ·exact .inr ⟨hg.mono hle,b,cap,z,pre,ex,ty,fz,hle _ _ h1,HasZ.mono (bareR_le hle hg _) _ _ h2,h3⟩
 width:=1
 len i vs h:=by
  rcases h with⟨_,a,rfl⟩|⟨hg,b,cap,z,pre,ex,_,_,_,_,_,_,_,rfl⟩<;>simp[Value.oneCell']
 bare:=true
 bareLen _:=rfl
abbrev vecA (w:Nat) (xs:List SV):SV:=.atom (vecP w xs)
theorem has_vec {ρ:Rho} {w:Nat} {xs:List SV} {v:Value} (h:Has ρ (vecA w xs) v):(xs=[]∧∃a,v= .slice a 0 0)∨
  ∃(b cap:Nat) (z:List (List Value)) (pre ex:List Value) (ty:TypeId) (fz:Nat×Nat),ρ.imm b=some (.cells (pre++(z.flatten++ex)).toArray ty fz)∧HasZ (bareR ρ.imm ρ.glob) xs z∧(∀x∈xs,x.width=w)∧
  xs.length≤cap∧cap*w≤(z.flatten++ex).length∧v= .slice (some ⟨b,pre.length,none⟩) xs.length cap:=by
 simp only[Has,HasC]at h
 obtain⟨x,h1,rfl⟩:=h
 rcases h1 with⟨h1,a,rfl⟩|⟨hg,b,cap,z,pre,ex,ty,fz,h1,h2,h3,h4,h5,rfl⟩
 ·exact .inl ⟨h1,a,by simp[mkV,SV.isOne,vecP]⟩
 ·exact .inr ⟨b,cap,z,pre,ex,ty,fz,h1,h2,h3,h4,h5,by simp[mkV,SV.isOne,vecP]⟩
theorem vec_has {ρ:Rho} {w:Nat} {xs:List SV} {v:Value} (h:(xs=[]∧∃a,v= .slice a 0 0)∨
  ∃(b cap:Nat) (z:List (List Value)) (pre ex:List Value) (ty:TypeId) (fz:Nat×Nat),ρ.imm b=some (.cells (pre++(z.flatten++ex)).toArray ty fz)∧HasZ (bareR ρ.imm ρ.glob) xs z∧(∀x∈xs,x.width=w)∧
  xs.length≤cap∧cap*w≤(z.flatten++ex).length∧v= .slice (some ⟨b,pre.length,none⟩) xs.length cap):Has ρ (vecA w xs) v:=by
 simp only[Has,HasC]
 refine⟨[v], ?_,by simp[mkV,SV.isOne,vecP]⟩
 rcases h with⟨h1,a,rfl⟩|⟨b,cap,z,pre,ex,ty,fz,h1,h2,h3,h4,h5,rfl⟩
 ·exact .inl ⟨h1,a,rfl⟩
 ·exact .inr ⟨ρ.glob,b,cap,z,pre,ex,ty,fz,h1,h2,h3,h4,h5,rfl⟩
def ptrH (cs:List SV) (imm:Nat→Option Obj) (vs:List Value):Prop:=
 ∃(hg:globOK imm) (b:Nat) (z:List (List Value)) (pre ex:List Value) (ty:TypeId) (fz:Nat×Nat),imm b=some (.cells (pre++(z.flatten++ex)).toArray ty fz)∧HasZ (bareR imm hg) cs z∧vs=[.pointer (some ⟨b,pre.length,none⟩)]
def ptrP (cs:List SV):Pred where
 h:=ptrH cs
 mono i i' vs hle h:=by
  obtain⟨hg,b,z,pre,ex,ty,fz,h1,h2,h3⟩:=h
  exact⟨hg.mono hle,b,z,pre,ex,ty,fz,hle _ _ h1,HasZ.mono (bareR_le hle hg _) _ _ h2,h3⟩
 width:=1
 len i vs h:=by
  obtain⟨hg,b,z,pre,ex,ty,fz,h1,h2,rfl⟩:=h
  simp[Value.oneCell']
 bare:=true
 bareLen _:=rfl
abbrev ptrA (cs:List SV):SV:=.atom (ptrP cs)
theorem has_ptrA {ρ:Rho} {cs:List SV} {v:Value} (h:Has ρ (ptrA cs) v):∃(b:Nat) (z:List (List Value)) (pre ex:List Value) (ty:TypeId) (fz:Nat×Nat),ρ.imm b=some (.cells (pre++(z.flatten++ex)).toArray ty fz)∧
  HasZ (bareR ρ.imm ρ.glob) cs z∧v= .pointer (some ⟨b,pre.length,none⟩):=by
 simp only[Has,HasC]at h
 obtain⟨x,⟨hg,b,z,pre,ex,ty,fz,h1,h2,rfl⟩,rfl⟩:=h
 exact⟨b,z,pre,ex,ty,fz,h1,h2,by simp[mkV,SV.isOne,ptrP]⟩
theorem ptrA_has {ρ:Rho} {cs:List SV} {v:Value} (h:∃(b:Nat) (z:List (List Value)) (pre ex:List Value) (ty:TypeId) (fz:Nat×Nat),ρ.imm b=some (.cells (pre++(z.flatten++ex)).toArray ty fz)∧
  HasZ (bareR ρ.imm ρ.glob) cs z∧v= .pointer (some ⟨b,pre.length,none⟩)):Has ρ (ptrA cs) v:=by
 obtain⟨b,z,pre,ex,ty,fz,h1,h2,rfl⟩:=h
 simp only[Has,HasC]
 exact⟨[.pointer (some ⟨b,pre.length,none⟩)],⟨ρ.glob,b,z,pre,ex,ty,fz,h1,h2,rfl⟩,by simp[mkV,SV.isOne,ptrP]⟩
theorem addr_add (b n j:Nat):(⟨b,n,none⟩:Addr).add j=⟨b,n+j,none⟩:=by
 unfold Addr.add
 split<;>simp_all
def cutL (xs:List SV) (l h:Nat):List SV:=(xs.drop l).take (h - l)
section
variable {P:Program} {o:Oper} {ft:List (Nat×SV)} {fk:List (Nat×Blk)} {w:Nat} {xs cs:List SV}
theorem op_lenA {x:Operand} {t:TypeId} {xs':Array Operand} {ts:Array TypeId} {ti:TI} {e:TypeId} (ho:o.op= .call ⟨.builtin .len,xs',ts⟩) (hxs:xs'= #[x]) (hts:ts= #[t]) (hx:EvOK ft x (vecA w xs)) (ht:TOK P t ti)
  (hk:ti.kind= .slc e):OpOK P o ft fk (.val (.int .i64 (xs.length:Int))) [] []:=
 ok_pure fun ρ a w hp=>by
  have hv:=hx ρ a hp.hft
  refine⟨_, ?_,has_val rfl⟩
  have hu:=ht.kind
  rw[hk]at hu
  rcases has_vec hv with⟨rfl,ad,h4⟩|⟨b,cap,z,pre,ex,_,_,_,_,_,_,_,h4⟩
  ·simp[execOp,ho,hxs,hts,resolve,invoke,builtin,Builtin.len_,run_underlying hu,h4,goInt]
  ·simp[execOp,ho,hxs,hts,resolve,invoke,builtin,Builtin.len_,run_underlying hu,h4,goInt]
theorem op_indexA {t e:TypeId} {x ix:Operand} {ti te:TI} {kd:IntKind} {j:Int} {el:SV} (ho:o.op= .indexAddr t x ix) (hx:EvOK ft x (vecA w xs)) (hi:EvOK ft ix (.val (.int kd j)))
  (ht:TOK P t ti) (hk:ti.kind= .slc e) (he:TOK P e te) (hs:te.size=w) (h0:0≤j) (hj:j<(xs.length:Int)) (hel:xs.getD j.toNat .any=el):OpOK P o ft fk (ptrA [el]) [] []:=
 ok_pure fun ρ a W hp=>by
  have e2:=of_has_val (hi ρ a hp.hft)
  have hu:=ht.kind;rw[hk]at hu
  rcases has_vec (hx ρ a hp.hft)with⟨rfl,_⟩|⟨b,cap,z,pre,ex,ty,fz,h1,h2,h3,h4,h5,h6⟩
  ·simp at hj;omega
  ·have hjl:j.toNat<xs.length:=by omega
   obtain⟨g1,g2⟩:=HasZ_get h2 j.toNat hjl
   have hzw:=HasZ_widths xs z h2 h3
   have hzl:z.length=xs.length:=HasZ_length h2
   refine⟨.pointer (some ⟨b,pre.length+j.toNat*w,none⟩), ?_,ptrA_has ⟨b,[z.getD j.toNat []],pre++(z.take j.toNat).flatten,(z.drop (j.toNat+1)).flatten++ex,ty,fz, ?_, ?_, ?_⟩⟩
   ·have hj':0≤j∧j<(xs.length:Int):=⟨h0,hj⟩
    simp only[execOp,ho,Instr.indexAt,e2,h6,asIntOf,Sem.run_bind,Sem.run_pure,Result.andThen_ok,run_underlying hu,hj',and_self,if_true,he.sizeOf,hs,addr_add]
   ·rw[h1]
    congr 3
    have hz:z=z.take j.toNat++(z.getD j.toNat []::z.drop (j.toNat+1)):=by
     have hlt:j.toNat<z.length:=by omega
     rw[List.getD_eq_getElem?_getD,List.getElem?_eq_getElem hlt,Option.getD_some,←List.drop_eq_getElem_cons hlt,List.take_append_drop]
    have:z.flatten=(z.take j.toNat).flatten++(z.getD j.toNat []++(z.drop (j.toNat+1)).flatten):=by
     conv=>lhs;rw[hz]
     simp
    rw[this]
    simp
   ·simp only[HasZ]
    exact⟨_,[],rfl,hel▸g1,rfl⟩
   ·have:((z.take j.toNat).flatten).length=j.toNat*w:=by
     rw[flatten_len (s:=w) _ (fun u hu=>hzw u (List.mem_of_mem_take hu)),List.length_take,hzl,Nat.min_eq_left (by omega)]
    rw[List.length_append,this]
theorem op_loadA {t:TypeId} {x:Operand} {ti:TI} {l:List SV} {c:SV} (ho:o.op= .load t x) (hx:EvOK ft x (ptrA cs)) (ht:TOK P t ti) (hs:sub 64 cs 0 ti.size=some l) (hsz:ti.size≠0) (hsh:shapeAs ti l=some c):
  OpOK P o ft fk c [] []:=
 ok_pure fun ρ a W hp=>by
  obtain⟨b,z,pre,ex,ty,fz,h1,h2,hv⟩:=has_ptrA (hx ρ a hp.hft)
  have h2:=HasZ.mono (bareR_up ρ ρ.glob) _ _ h2
  obtain⟨y,e1,e2,e3⟩:=sub_has 64 cs 0 ti.size l z hs h2
  have e3:=e3.resolve_left hsz
  rw[List.drop_zero]at e2
  have hh:=hp.imm b _ h1
  have hy:y.flatten=((pre++(z.flatten++ex)).drop pre.length).take ti.size:=by
   rw[List.drop_left,e2,List.take_append_of_le_length (by omega)]
  have hone:ti.kind.isAgg=true∨ti.size=1:=by
   cases ha:ti.kind.isAgg with
   |true=>exact .inl rfl
   |false=>
    right
    unfold shapeAs at hsh
    rw[ha]at hsh
    match l,hsh,e1 with
    |[d],hsh,e1=>
     simp only[HasZ]at e1
     obtain⟨u,_,rfl,d1,rfl⟩:=e1
     have hd:d.isOne=true:=by
      cases hd:d.isOne with
      |true=>rfl
      |false=>simp only at hsh;rw[hd]at hsh;simp at hsh
     have hw1:d.width=1:=by
      cases d<;>simp only[SV.isOne,Bool.false_eq_true]at hd<;>simp only[SV.width]
      exact Pred.bareLen _ hd
     have:=(HasC.len d u d1).1
     simp only[List.flatten_cons,List.flatten_nil,List.append_nil]at e2
     have h7:=congrArg List.length e2
     rw[List.length_take]at h7
     omega
    |[],hsh,_=>simp at hsh
    |_::_::_,hsh,_=>simp at hsh
  refine⟨_, ?_,shapeAs_has hsh e1 rfl⟩
  have hr:=run_load_at ht (P:=P) hh hy (by rw[List.length_append,List.length_append];omega) hone
  simp[execOp,ho,Instr.loadAt,Instr.sureAddr,hv,hr]
theorem sub_seg {ρ:Rho} {off n:Nat} {l:List SV} {z:List (List Value)} (h:sub 64 cs off n=some l) (hn:n≠0) (hz:HasZ ρ cs z):∃y pre ex,HasZ ρ l y∧z.flatten=pre++(y.flatten++ex)∧pre.length=off:=by
 obtain⟨y,h1,h2,h3⟩:=sub_has 64 cs off n l z h hz
 have h3:=h3.resolve_left hn
 refine⟨y,z.flatten.take off,z.flatten.drop (off+n),h1, ?_, ?_⟩
 ·rw[h2,←List.drop_drop,List.take_append_drop,List.take_append_drop]
 ·rw[List.length_take];omega
theorem op_fieldA {S:TypeId} {x:Operand} {j off e sz:Nat} {ti:TI} {fs:List (Nat×TypeId×Nat)} {l:List SV} (ho:o.op= .fieldAddr S x j) (hx:EvOK ft x (ptrA cs)) (ht:TOK P S ti)
  (hk:ti.kind= .agg fs) (hj:fs[j]? =some (off,e,sz)) (hsz:sz≠0) (hs:sub 64 cs off sz=some l):OpOK P o ft fk (ptrA l) [] []:=
 ok_pure fun ρ a w hp=>by
  obtain⟨b,z,pre,ex,ty,fz,h1,h2,hv⟩:=has_ptrA (hx ρ a hp.hft)
  obtain⟨y,p2,x2,g1,g2,g3⟩:=sub_seg hs hsz h2
  have hkd:=ht.kind
  rw[hk]at hkd
  obtain⟨k1,k2,k3⟩:=hkd
  have hf:∃fd,(P.fieldsOf S)[j]? =some fd∧fd.offset=off∧P.cellsOf fd.type=sz∧(P.info? fd.type).isSome=true:=by
   rw[←k2,List.getElem?_map]at hj
   cases hq:(P.fieldsOf S).toList[j]? with
   |none=>rw[hq]at hj;simp at hj
   |some fd=>
    rw[hq]at hj
    simp only[Option.map_some,Option.some.injEq,Prod.mk.injEq]at hj
    refine⟨fd,by simpa using hq,hj.1,hj.2.2, ?_⟩
    exact List.all_eq_true.1 k3 fd (List.mem_of_getElem? hq)
  obtain⟨fd,f1,f2,f3,f4⟩:=hf
  refine⟨.pointer (some ⟨b,pre.length+off,none⟩), ?_,ptrA_has ⟨b,y,pre++p2,x2++ex,ty,fz, ?_,g1,by rw[List.length_append,g3]⟩⟩
  ·simp[execOp,ho,Instr.fieldAt,run_underlying k1,f1,Instr.sureAddr,hv,fieldPlace,cellsOf_run f4,f3,f2,hsz,addr_add]
  ·rw[h1,g2];simp
theorem op_indexArrA {t e:TypeId} {x ix:Operand} {ti te:TI} {n:Nat} {kd:IntKind} {j:Int} {l:List SV} (ho:o.op= .indexAddr t x ix) (hx:EvOK ft x (ptrA cs)) (hi:EvOK ft ix (.val (.int kd j)))
  (ht:TOK P t ti) (hk:ti.kind= .arr n e) (he:TOK P e te) (h0:0≤j) (hj:j<n) (hsz:te.size≠0) (hs:sub 64 cs (j.toNat*te.size) te.size=some l):OpOK P o ft fk (ptrA l) [] []:=
 ok_pure fun ρ a w hp=>by
  have e2:=of_has_val (hi ρ a hp.hft)
  have hu:=ht.kind;rw[hk]at hu
  obtain⟨b,z,pre,ex,ty,fz,h1,h2,hv⟩:=has_ptrA (hx ρ a hp.hft)
  obtain⟨y,p2,x2,g1,g2,g3⟩:=sub_seg hs hsz h2
  refine⟨.pointer (some ⟨b,pre.length+j.toNat*te.size,none⟩), ?_,ptrA_has ⟨b,y,pre++p2,x2++ex,ty,fz, ?_,g1,by rw[List.length_append,g3]⟩⟩
  ·have hj':0≤j∧j<(n:Int):=⟨h0,hj⟩
   simp only[execOp,ho,Instr.indexAt,e2,hv,asIntOf,Sem.run_bind,Sem.run_pure,Result.andThen_ok,run_underlying hu,Instr.sureAddr,hj',and_self,if_true,he.sizeOf,addr_add]
  ·rw[h1,g2];simp
theorem op_sliceA {t e:TypeId} {x:Operand} {lo hi mx:Option Operand} {ti te:TI} {l h:Int} (ho:o.op= .slice t x lo hi mx) (hx:EvOK ft x (vecA w xs))
  (hlo:lo=none∧l=0∨∃y kd,lo=some y∧EvOK ft y (.val (.int kd l))) (hhi:hi=none∧h=xs.length∨∃y kd,hi=some y∧EvOK ft y (.val (.int kd h)))
  (hmx:mx=none∨(hi≠none∧∃y kd,mx=some y∧EvOK ft y (.val (.int kd h))))
  (ht:TOK P t ti) (hk:ti.kind= .slc e) (he:TOK P e te) (hs:te.size=w) (h0:0≤l) (hlh:l≤h) (hh:h≤(xs.length:Int)):OpOK P o ft fk (vecA w (cutL xs l.toNat h.toNat)) [] []:=
 ok_pure fun ρ a W hp=>by
  have hu:=ht.kind;rw[hk]at hu
  have key:∀(ad:Option Addr) (m cap:Nat),xs.length=m→m≤cap→a.eval x= .slice ad m cap→
    ∃top,h.toNat≤top∧top≤cap∧(execOp a.eval o).run P W= .ok (.value (.slice (if top=l.toNat then ad else ad.map (·.add (l.toNat*w))) (h.toNat - l.toNat) (top - l.toNat))) W:=by
   intro ad m cap hnm hmc hv
   have hhr:∀z:Operand,∀kd bd,EvOK ft z (.val (.int kd h))→h.toNat≤bd→∀q,(Instr.sliceBound (a.eval z) bd q).run P W= .ok h.toNat W:=by
    intro z kd bd hz hbd q
    have:=of_has_val (hz ρ a hp.hft)
    have hb:0≤h∧h≤(bd:Int):=by omega
    simp[Instr.sliceBound,this,asIntOf,hb]
   have hlr:∀z:Operand,∀kd q,EvOK ft z (.val (.int kd l))→(Instr.sliceBound (a.eval z) h.toNat q).run P W= .ok l.toNat W:=by
    intro z kd q hz
    have:=of_has_val (hz ρ a hp.hft)
    have hb:0≤l∧l≤(h.toNat:Int):=by omega
    simp only[Instr.sliceBound,this,asIntOf,Sem.run_bind,Sem.run_pure,Result.andThen_ok,hb,and_self,if_true]
   rcases hmx with rfl|⟨hne,y,ky,rfl,hy⟩
   ·refine⟨cap,by omega,Nat.le_refl _, ?_⟩
    have hbnds:(Instr.sliceBounds true m cap (lo.map a.eval) (hi.map a.eval) none).run P W= .ok (l.toNat,h.toNat,cap) W:=by
     unfold Instr.sliceBounds
     rcases hhi with⟨rfl,rfl⟩|⟨z,kz,rfl,hz⟩<;>rcases hlo with⟨rfl,rfl⟩|⟨y,ky,rfl,hy⟩
     ·simp[hnm]
     ·have:=hlr y ky .sliceB hy;simp at this;rw[hnm]at this;simp[hnm,this]
     ·simp[hhr z kz cap hz (by omega) .sliceAcap]
     ·simp[hhr z kz cap hz (by omega) .sliceAcap,hlr y ky .sliceB hy]
    simp only[execOp,ho,Option.map_none,Instr.sliceAt,Sem.run_bind,run_underlying hu,Result.andThen_ok,Instr.slice,hv,hbnds,he.sizeOf,hs,Sem.run_pure]
   ·refine⟨h.toNat,Nat.le_refl _,by omega, ?_⟩
    have hbnds:(Instr.sliceBounds true m cap (lo.map a.eval) (hi.map a.eval) (some (a.eval y))).run P W= .ok (l.toNat,h.toNat,h.toNat) W:=by
     unfold Instr.sliceBounds
     rcases hhi with⟨rfl,rfl⟩|⟨z,kz,rfl,hz⟩<;>rcases hlo with⟨rfl,rfl⟩|⟨y',ky',rfl,hy'⟩
     ·exact absurd rfl hne
     ·exact absurd rfl hne
     ·simp[hhr y ky cap hy (by omega),hhr z kz h.toNat hz (Nat.le_refl _)]
     ·simp[hhr y ky cap hy (by omega),hhr z kz h.toNat hz (Nat.le_refl _),hlr y' ky' .slice3C hy']
    simp only[execOp,ho,Option.map_some,Instr.sliceAt,Sem.run_bind,run_underlying hu,Result.andThen_ok,Instr.slice,hv,hbnds,he.sizeOf,hs,Sem.run_pure]
  rcases has_vec (hx ρ a hp.hft)with⟨rfl,ad,h4⟩|⟨b,cap,z,pre,ex,ty,fz,h1,h2,h3,h4,h5,h6⟩
  ·obtain⟨top,t1,t2,t3⟩:=key ad 0 0 rfl (Nat.le_refl _) h4
   simp only[List.length_nil]at hh
   have e1:l.toNat=0:=by omega
   have e2:h.toNat=0:=by omega
   have e3:top=0:=by omega
   refine⟨_,t3,vec_has (.inl ⟨by simp[cutL],ad, ?_⟩)⟩
   simp[e1,e2,e3]
  ·obtain⟨top,t1,t2,t3⟩:=key _ _ cap rfl h4 h6
   have hzl:z.length=xs.length:=HasZ_length h2
   have hzw:=HasZ_widths xs z h2 h3
   refine⟨_,t3,vec_has ?_⟩
   by_cases hc:top=l.toNat
   ·left
    have:h.toNat - l.toNat=0:=by omega
    refine⟨by simp[cutL,this],some ⟨b,pre.length,none⟩, ?_⟩
    rw[if_pos hc,this,hc,Nat.sub_self]
   ·right
    have hcl:(cutL xs l.toNat h.toNat).length=h.toNat - l.toNat:=by rw[cutL,List.length_take,List.length_drop];omega
    have hfl:z.flatten=(z.take l.toNat).flatten++((((z.drop l.toNat).take (h.toNat - l.toNat)).flatten)++(z.drop h.toNat).flatten):=by
     rw[←List.flatten_append,←List.flatten_append]
     congr 1
     have:z.drop h.toNat=(z.drop l.toNat).drop (h.toNat - l.toNat):=by rw[List.drop_drop];congr 1;omega
     rw[this,List.take_append_drop,List.take_append_drop]
    have hpl:((z.take l.toNat).flatten).length=l.toNat*w:=by
     rw[flatten_len (s:=w) _ (fun u hu=>hzw u (List.mem_of_mem_take hu)),List.length_take,hzl,Nat.min_eq_left (by omega)]
    refine⟨b,top - l.toNat,(z.drop l.toNat).take (h.toNat - l.toNat),pre++(z.take l.toNat).flatten,(z.drop h.toNat).flatten++ex,ty,fz, ?_,HasZ_take _ (HasZ_drop _ h2),fun x hx=>h3 x (List.mem_of_mem_drop (List.mem_of_mem_take hx)),by omega, ?_, ?_⟩
    ·rw[h1,hfl];simp
    ·have e1:=congrArg List.length hfl
     rw[List.length_append,hpl]at e1
     rw[←List.append_assoc,List.length_append,Nat.sub_mul]
     rw[List.length_append]at h5
     have e2:top*w≤cap*w:=Nat.mul_le_mul_right _ t2
     omega
    ·rw[if_neg hc,Option.map_some,addr_add,List.length_append,hpl,hcl]
theorem op_boxZ {x:Operand} {elem:TypeId} {sv:SV} (ho:o.op= .box elem x) (hx:EvOK ft x sv) (hc:comps sv=some cs) (hkl:keylessL cs=true):
  OpOK P o ft fk (ptrA cs) [] []:=
 ok_value fun ρ a w hp=>by
  obtain⟨z,h1,h2⟩:=comps_has hc (hx ρ a hp.hft)
  have hcells:(a.eval x).cells=z.flatten.toArray:=by rw[←h2]
  have hnone:∀o',ρ.imm w.heap.size≠some o':=fun o' ho'=>by have:=hp.imm _ _ ho';simp at this
  let ob:Obj:=.cells z.flatten.toArray elem (0,0)
  have hup:∀b o',ρ.imm b=some o'→(fun b=>if b=w.heap.size then some ob else ρ.imm b) b=some o':=fun b o' hb=>by
   show(if b=w.heap.size then some ob else ρ.imm b)=some o'
   by_cases hbw:b=w.heap.size
   ·subst hbw;exact absurd hb (hnone o')
   ·rw[if_neg hbw];exact hb
  let ρ':Rho:=⟨ρ.key,fun b=>if b=w.heap.size then some ob else ρ.imm b,ρ.glob.mono hup⟩
  have hle:ρ.Le ρ':=⟨fun k x hx=>hx,hup⟩
  refine⟨.pointer (some ⟨w.heap.size,0,none⟩),w.alloc ob,ρ', ?_,⟨hle, ?_,fun _ _=>rfl,.of_below ((RowKit.Below.refl _ _).alloc (Nat.le_refl _) _) (Nat.le_refl _),(fun k b h=>by rcases h with h|h<;>cases h),(fun _ _ _ h=>by cases h),(fun k b x h=>by cases h),(fun k b k' b' x x' h=>by cases h), ?_⟩⟩
  ·simp[execOp,ho,Instr.box,newVar,newRow,hcells,ob]
  ·refine ptrA_has ⟨w.heap.size,z,[],[],elem,(0,0), ?_, ?_,rfl⟩
   ·show(if w.heap.size=w.heap.size then some ob else ρ.imm w.heap.size)=_
    rw[if_pos rfl];simp[ob]
   ·exact keylessL_has (ρ:=ρ) (ρ':=bareR ρ'.imm ρ'.glob) hup cs z hkl h1
  ·intro b o' hb
   have hb:(if b=w.heap.size then some ob else ρ.imm b)=some o':=hb
   by_cases hbw:b=w.heap.size
   ·subst hbw
    rw[if_pos rfl]at hb
    simp only[Option.some.injEq]at hb
    subst hb
    exact .inr ⟨Nat.le_refl _,heap_alloc_new _ _,fun k blk x h=>by cases h⟩
   ·rw[if_neg hbw]at hb;exact .inl hb
theorem vec_new {ρ:Rho} {w:World} {e:TypeId} {s n:Nat} {l:List SV} {z:List (List Value)} (himm:∀b o,ρ.imm b=some o→w.heap[b]? =some o) (hz:HasZ ρ l z) (hkl:keylessL l=true) (hw:∀x∈l,x.width=s) (hn:l.length=n):
  ∃ρ',Post ρ w (vecA s l) [] [] (.slice (some ⟨w.heap.size,0,none⟩) n n) ρ' (w.alloc (.cells z.flatten.toArray e (0,0))):=by
 have hnone:∀o',ρ.imm w.heap.size≠some o':=fun o' ho'=>by have:=himm _ _ ho';simp at this
 let ob:Obj:=.cells z.flatten.toArray e (0,0)
 have hup:∀b o',ρ.imm b=some o'→(fun b=>if b=w.heap.size then some ob else ρ.imm b) b=some o':=fun b o' hb=>by
  show(if b=w.heap.size then some ob else ρ.imm b)=some o'
  by_cases hbw:b=w.heap.size
  ·subst hbw;exact absurd hb (hnone o')
  ·rw[if_neg hbw];exact hb
 let ρ':Rho:=⟨ρ.key,fun b=>if b=w.heap.size then some ob else ρ.imm b,ρ.glob.mono hup⟩
 have hle:ρ.Le ρ':=⟨fun k x hx=>hx,hup⟩
 have hzw:=HasZ_widths l z hz hw
 refine⟨ρ',⟨hle, ?_,fun _ _=>rfl,.of_below ((RowKit.Below.refl _ _).alloc (Nat.le_refl _) _) (Nat.le_refl _),(fun k b h=>by rcases h with h|h<;>cases h),(fun _ _ _ h=>by cases h),(fun k b x h=>by cases h),(fun k b k' b' x x' h=>by cases h), ?_⟩⟩
 ·subst hn
  refine vec_has (.inr ⟨w.heap.size,l.length,z,[],[],e,(0,0), ?_,keylessL_has (ρ:=ρ) (ρ':=bareR ρ'.imm ρ'.glob) hup l z hkl hz,hw,Nat.le_refl _, ?_,rfl⟩)
  ·show(if w.heap.size=w.heap.size then some ob else ρ.imm w.heap.size)=_
   rw[if_pos rfl];simp[ob]
  ·rw[List.append_nil,flatten_len _ hzw,HasZ_length hz];exact Nat.le_refl _
 ·intro b o' hb
  have hb:(if b=w.heap.size then some ob else ρ.imm b)=some o':=hb
  by_cases hbw:b=w.heap.size
  ·subst hbw
   rw[if_pos rfl]at hb
   simp only[Option.some.injEq]at hb
   subst hb
   exact .inr ⟨Nat.le_refl _,heap_alloc_new _ _,fun k blk x h=>by cases h⟩
  ·rw[if_neg hbw]at hb;exact .inl hb
theorem op_buildSliceZ {t e:TypeId} {len:Nat} {parts:Array (Nat×Operand)} {ti te:TI} {ps:List (Nat×List SV)} {l:List SV} (ho:o.op= .buildSlice t len parts) (ht:TOK P t ti) (hk:ti.kind= .slc e) (he:TOK P e te)
  (hps:evParts ft parts.toList=some ps) (hb:buildC 64 (fun i=>some (i*te.size,te.size)) (repN len te.zero) ps=some l) (hkl:keylessL l=true) (hal:allW te.size l=true) (hln:l.length=len) (hsz:len*te.size≤16777216):
  OpOK P o ft fk (vecA te.size l) [] []:=
 ok_value fun ρ a w hp=>by
  obtain⟨i,z,i1,i2,i3,i4,i5,i6,i7,_⟩:=he.info
  have hu:=ht.kind;rw[hk]at hu
  obtain⟨p1,p2⟩:=evParts_ok hps ρ a hp.hft
  have hz0:=repN_has (zero_has (ρ:=ρ) i6) len
  have hmade:(madeCells z.cells (len*te.size)).toList=((List.replicate len (te.zero.map zcell)).flatten).flatten:=by
   rw[madeCells_flat z.cells te.size i7 len,i5]
   have:∀n,(List.replicate n (te.zero.flatMap zcell)).flatten=((List.replicate n (te.zero.map zcell)).flatten).flatten:=by
    intro n
    induction n with
    |zero=>rfl
    |succ n ih=>rw[List.replicate_succ,List.replicate_succ,List.flatten_cons,List.flatten_cons,List.flatten_append,←ih,List.flatMap_def]
   exact this len
  obtain⟨L',z',e1,e2,e3⟩:=fill_has (ρ:=ρ) ps _ l (parts.toList.map fun p=>(p.1,Act.eval a p.2)) (madeCells z.cells (len*te.size)) _ hb hz0 hmade p1 p2
  have hmap:(parts.map fun(i,x)=>(i,Act.eval a x)).toList=parts.toList.map fun p=>(p.1,Act.eval a p.2):=by simp
  have hLl:L'=z'.flatten.toArray:=by rw[←e3]
  obtain⟨ρ',hpost⟩:=vec_new (e:=e) hp.imm e2 hkl (allW_spec hal) hln
  refine⟨_,_,ρ', ?_,hpost⟩
  have hsz':¬len*te.size>16777216:=by omega
  by_cases h0:len*te.size=0
  ·have hm:(Array.range 0).map (fun x=>(#[]:Array Value)[x % (#[]:Array Value).size]!)=madeCells z.cells (len*te.size):=by simp[h0,madeCells]
   simp only[execOp,ho,Instr.buildSlice,Sem.run_bind,run_underlying hu,Result.andThen_ok,he.sizeOf,h0,hmap]
   rw[h0]at hm
   simp only[Nat.reducePow,Nat.not_lt_zero,gt_iff_lt,if_false,if_true,Sem.run_bind,Sem.run_pure,Result.andThen_ok,hm]
   rw[h0]at e1
   simp only[e1,Sem.run_bind,newRow,run_newObj,Sem.run_pure,Result.andThen_ok,hLl,World.alloc_eq]
  ·have hm:(Array.range (len*te.size)).map (fun x=>z.cells[x % z.cells.size]!)=madeCells z.cells (len*te.size):=rfl
   have hzv:(Go.zeroValue e).run P w= .ok z w:=by simp[Go.zeroValue,typeInfo,i1,i4]
   simp only[execOp,ho,Instr.buildSlice,Sem.run_bind,run_underlying hu,Result.andThen_ok,he.sizeOf,h0,hmap,Nat.reducePow,hsz',if_false,hzv,Sem.run_pure,hm,e1,newRow,run_newObj,hLl,World.alloc_eq]
def inN (x:Nat):List Nat→Bool
 |[]=>false
 |y::r=>Nat.beq x y||inN x r
end
end Go.Sx
namespace Go.Sx
def pick (fr:List (Nat×SV)):List Nat→List (Nat×SV)
 |[]=>[]
 |t::r=>match lk fr t with
  |some s=>(t,s)::pick fr r
  |none=>pick fr r
theorem pick_mem {fr:List (Nat×SV)}:∀{ts:List Nat} {t:Nat} {s:SV},(t,s)∈pick fr ts→lk fr t=some s∧t∈ts
 |u::r,t,s,h=>by
  unfold pick at h
  split at h
  ·rename_i s' hs
   rcases List.mem_cons.1 h with h|h
   ·cases h;exact⟨hs,List.mem_cons_self ..⟩
   ·exact⟨(pick_mem h).1,List.mem_cons_of_mem _ (pick_mem h).2⟩
  ·exact⟨(pick_mem h).1,List.mem_cons_of_mem _ (pick_mem h).2⟩
def tmpsOf:List Operand→List Nat
 |[]=>[]
 |.tmp t::r=>t::tmpsOf r
 |_::r=>tmpsOf r
def looks (o:Oper):List Nat:=tmpsOf o.op.operands.toList
def bound (fr:List (Nat×SV)) (dflt:Option Int):Option Operand→Option Int
 |none=>dflt
 |some x=>match ev fr x with
  |some (.val (.int _ j))=>some j
  |_=>none
theorem bound_spec {fr:List (Nat×SV)} {d:Int} {x:Option Operand} {j:Int} (h:bound fr (some d) x=some j):x=none∧j=d∨∃y kd,x=some y∧EvOK fr y (.val (.int kd j)):=by
 unfold bound at h
 split at h
 ·simp only[Option.some.injEq]at h;exact .inl ⟨rfl,h.symm⟩
 ·split at h
  ·rename_i y _ kd j' hy
   simp only[Option.some.injEq]at h
   subst h
   exact .inr ⟨y,kd,rfl,ev_ok hy⟩
  ·simp at h
def Good (P:Program) (fr:List (Nat×SV)) (hp:List (Nat×Blk)) (o:Oper) (k:SV→List (Nat×Blk)→List (Nat×Blk)→List (Nat×Blk)→Prop):Prop:=
 ∃c fk new upd,OpOK P o fr fk c new upd∧(∀j b,(j,b)∈fk→find hp j=some b)∧(∀j b,(j,b)∈new→find hp j=none)∧(∀j b,(j,b)∈upd→∃b0,(j,b0)∈fk∧b0.wr=true∧b0.data.live=true∧b.wr=true)∧k c fk new upd
def markL (o:Oper) (Z:List Nat):Bool:=match o.dst with
 |some d=>inN (700000+d) Z
 |none=>false
def exec (P:Program) (T:List (TypeId×TI)) (Z:List Nat) (fr:List (Nat×SV)) (hp:List (Nat×Blk)) (o:Oper) (k:SV→List (Nat×Blk)→List (Nat×Blk)→List (Nat×Blk)→Prop):Prop:=
 match o.op with
 |.move x=>match ev fr x with
  |some c=>k c [] [] []
  |none=>Good P fr hp o k
 |.assign x=>match ev fr x with
  |some c=>k c [] [] []
  |none=>Good P fr hp o k
 |.box e x=>match o.dst,ev fr x with
  |some d,some sv=>match comps sv,find hp d with
   |some cs,none=>match inN d Z with
    |false=>k (.ptr d 0 0 0) [] [(d,⟨e,true,.one cs⟩)] []
    |true=>match keylessL cs with
     |true=>k (ptrA cs) [] [] []
     |false=>Good P fr hp o k
   |_,_=>Good P fr hp o k
  |_,_=>Good P fr hp o k
 |.alloc e=>match o.dst,tfind T e with
  |some d,some ti=>match find hp d with
   |none=>k (.ptr d 0 0 0) [] [(d,⟨e,true,.one ti.zero⟩)] []
   |some _=>Good P fr hp o k
  |_,_=>Good P fr hp o k
 |.load t x=>match markL o Z with
  |true=>Good P fr hp o k
  |false=>match ev fr x,tfind T t with
  |some (.ptr key s i r),some ti=>match find hp key with
   |some blk=>match elem blk.data s i with
    |some (ob,cs)=>match sub 64 cs r ti.size,ti.size with
     |some l,_+1=>match shapeAs ti l with
      |some c=>req ob <| k c [(key,blk)] [] []
      |none=>Good P fr hp o k
     |_,_=>Good P fr hp o k
    |none=>Good P fr hp o k
   |none=>Good P fr hp o k
  |some (.val _),_=>∃c fk new,OpOK P o fr fk c new []∧(∀j b,(j,b)∈fk→find hp j=some b)∧(∀j b,(j,b)∈new→find hp j=none)∧k c fk new []
  |_,_=>Good P fr hp o k
 |.store t x y=>match ev fr x,ev fr y,tfind T t with
  |some (.ptr key s i r),some sv,some ti=>match find hp key,comps sv with
   |some ⟨ty,true,d⟩,some nw=>match elem d s i with
    |some (ob,cs)=>match Nat.beq (SV.widthL nw) ti.size,Nat.ble (r+ti.size) (SV.widthL cs)with
     |true,true=>match put 64 cs r ti.size nw with
      |some cs'=>match elemPut d i cs' with
       |some d'=>req ob <| k .any [(key,⟨ty,true,d⟩)] [] [(key,⟨ty,true,d'⟩)]
       |none=>Good P fr hp o k
      |none=>Good P fr hp o k
     |_,_=>Good P fr hp o k
    |none=>Good P fr hp o k
   |_,_=>Good P fr hp o k
  |_,_,_=>Good P fr hp o k
 |.fieldAddr s x j=>match ev fr x,tfind T s with
  |some (.ptr key sz i r),some ⟨.agg fs,_,_,_⟩=>match fs[j]? with
   |some (off,_,_+1)=>k (.ptr key sz i (r+off)) [] [] []
   |_=>Good P fr hp o k
  |_,_=>Good P fr hp o k
 |.extract x ix=>match ev fr x with
  |some (.tup l)=>match l[ix]? with
   |some c=>match (c.isOne||(comps c).isSome)with
    |true=>k c [] [] []
    |false=>Good P fr hp o k
   |none=>Good P fr hp o k
  |_=>Good P fr hp o k
 |.binOp op xt x y _=>match ev fr x,ev fr y with
  |some (.val (.int k1 a)),some (.val (.int k2 b))=>match op with
   |.shl=>0≤b∧k (.val (.int k1 (ishl k1 a b))) [] [] []
   |.shr=>0≤b∧k (.val (.int k1 (ishr k1 a b))) [] [] []
   |op=>if k1=k2 then match ibin op k1 a b with
    |some (ob,v)=>req ob <| k (.val v) [] [] []
    |none=>Good P fr hp o k
    else Good P fr hp o k
  |some (.val (.bool a)),some (.val (.bool b))=>match tfind T xt with
   |some ⟨.bool,_,_,_⟩=>match op with
    |.eql=>k (.val (.bool (a==b))) [] [] []
    |.neq=>k (.val (.bool (a != b))) [] [] []
    |_=>Good P fr hp o k
   |_=>Good P fr hp o k
  |some (.val (.string a)),some (.val (.string b))=>match sbin op a b with
   |some (ob,v)=>req ob <| k (.val v) [] [] []
   |none=>Good P fr hp o k
  |some _,some _=>∃v,OpOK P o fr [] (.val v) [] []∧k (.val v) [] [] []
  |_,_=>Good P fr hp o k
 |.unOp op _ x=>match op,ev fr x with
  |.not,some (.val (.bool a))=>k (.val (.bool (!a))) [] [] []
  |.neg,some (.val (.int kd a))=>k (.val (.int kd (kd.wrap (0 - a)))) [] [] []
  |.xor,some (.val (.int kd a))=>k (.val (.int kd (ixor kd (if kd.signed=true then -1 else kd.max) a))) [] [] []
  |_,_=>Good P fr hp o k
 |.convert s d x=>match ev fr x,tfind T s,tfind T d with
  |some (.val (.int k2 a)),some ⟨.int k1,_,_,_⟩,some ⟨.int kd,_,_,_⟩=>if k1=k2 then k (.val (.int kd (kd.wrap a))) [] [] []else Good P fr hp o k
  |_,_,_=>∃c fk new,OpOK P o fr fk c new []∧(∀j b,(j,b)∈fk→find hp j=some b)∧(∀j b,(j,b)∈new→find hp j=none)∧k c fk new []
 |.nilCheck x=>match ev fr x with
  |some (.ptr key s i r)=>k (.ptr key s i r) [] [] []
  |some (.clo f a b)=>k (.clo f a b) [] [] []
  |_=>Good P fr hp o k
 |.indexAddr t x ix=>match ev fr x,ev fr ix,tfind T t with
  |some (.slc key s i n),some (.val (.int _ j)),some ⟨.slc e,_,_,_⟩=>match tfind T e with
   |some te=>match Nat.beq te.size s with
    |true=>(0≤j∧j<(n:Int))∧k (.ptr key s (i+j.toNat) 0) [] [] []
    |false=>Good P fr hp o k
   |none=>Good P fr hp o k
  |some (.ptr key s i r),some (.val (.int _ j)),some ⟨.arr n e,_,_,_⟩=>match tfind T e with
   |some te=>(0≤j∧j<(n:Int))∧k (.ptr key s i (r+j.toNat*te.size)) [] [] []
   |none=>Good P fr hp o k
  |some (.val _),_,_=>∃c fk new,OpOK P o fr fk c new []∧(∀j b,(j,b)∈fk→find hp j=some b)∧(∀j b,(j,b)∈new→find hp j=none)∧k c fk new []
  |_,_,_=>Good P fr hp o k
 |.index t x ix=>match ev fr x,ev fr ix,tfind T t with
  |some (.val (.string s)),some (.val (.int _ j)),some ⟨.str,_,_,_⟩=>(0≤j∧j<(s.size:Int))∧k (.val (.int .u8 (((s.data.getD j.toNat 0).toNat:Nat):Int))) [] [] []
  |_,_,_=>∃c fk new,OpOK P o fr fk c new []∧(∀j b,(j,b)∈fk→find hp j=some b)∧(∀j b,(j,b)∈new→find hp j=none)∧k c fk new []
 |.slice t x lo hi none=>match bound fr (some 0) lo,ev fr x,tfind T t with
  |some l,some (.slc key s i n),some ⟨.slc e,_,_,_⟩=>match bound fr (some (n:Int)) hi,tfind T e with
   |some h,some te=>match Nat.beq te.size s with
    |true=>(0≤l∧l≤h∧h≤(n:Int))∧k (.slc key s (i+l.toNat) (h - l).toNat) [] [] []
    |false=>Good P fr hp o k
   |_,_=>Good P fr hp o k
  |some l,some (.val (.string s)),some ⟨.str,_,_,_⟩=>match bound fr (some (s.size:Int)) hi with
   |some h=>(0≤l∧l≤h∧h≤(s.size:Int))∧k (.val (.string (s.extract l.toNat h.toNat))) [] [] []
   |none=>Good P fr hp o k
  |_,_,_=>Good P fr hp o k
 |.makeSlice t x y=>match o.dst,ev fr x,ev fr y,tfind T t with
  |some d,some (.val (.int _ l)),some (.val (.int _ c)),some ⟨.slc e,_,_,_⟩=>match tfind T e,find hp d with
   |some te,none=>match zeroOK te with
    |true=>(0≤l∧l≤c∧(te.bytes:Int)*c≤281474976710656∧c≤9223372036854775807)∧k (.slc d te.size 0 l.toNat) [] [(d,⟨e,true,zerosOf te l.toNat⟩)] []
    |false=>Good P fr hp o k
   |_,_=>Good P fr hp o k
  |_,_,_,_=>Good P fr hp o k
 |.buildSlice t len parts=>match o.dst,evParts fr parts.toList,tfind T t with
  |some d,some ps,some ⟨.slc e,_,_,_⟩=>match tfind T e,find hp d with
   |some te,none=>match buildC 64 (fun i=>some (i*te.size,te.size)) (repN len te.zero) ps with
    |some l=>match inN d Z with
     |false=>match dataOf te l,Nat.beq l.length len,Nat.ble (len*te.size) 16777216 with
      |some dt,true,true=>k (.slc d te.size 0 len) [] [(d,⟨e,true,dt⟩)] []
      |_,_,_=>Good P fr hp o k
     |true=>match keylessL l&&allW te.size l,Nat.beq l.length len,Nat.ble (len*te.size) 16777216 with
      |true,true,true=>k (vecA te.size l) [] [] []
      |_,_,_=>Good P fr hp o k
    |none=>Good P fr hp o k
   |_,_=>Good P fr hp o k
  |_,_,_=>Good P fr hp o k
 |.build t parts=>match tfind T t,evParts fr parts.toList with
  |some ⟨.agg fs,sz,by',z⟩,some ps=>match buildC 64 (placesOf fs) z ps with
   |some l=>match shapeAs ⟨.agg fs,sz,by',z⟩ l with
    |some c=>k c [] [] []
    |none=>Good P fr hp o k
   |none=>Good P fr hp o k
  |some ⟨.arr n e,sz,by',z⟩,some ps=>match tfind T e with
   |some te=>match buildC 64 (fun i=>some (i*te.size,te.size)) z ps with
    |some l=>match shapeAs ⟨.arr n e,sz,by',z⟩ l with
     |some c=>k c [] [] []
     |none=>Good P fr hp o k
    |none=>Good P fr hp o k
   |none=>Good P fr hp o k
  |_,_=>Good P fr hp o k
 |.call ⟨.builtin b,xs,ts⟩=>match b,xs.toList,ts.toList with
  |.len,[x],[t]=>match ev fr x,tfind T t with
   |some (.val (.string s)),some ⟨.str,_,_,_⟩=>k (.val (.int .i64 (s.size:Int))) [] [] []
   |some (.slc _ _ _ n),some ⟨.slc _,_,_,_⟩=>k (.val (.int .i64 (n:Int))) [] [] []
   |some (.val (.slice _ n _)),some ⟨.slc _,_,_,_⟩=>k (.val (.int .i64 (n:Int))) [] [] []
   |_,_=>Good P fr hp o k
  |.min,[x,y],_=>match ev fr x,ev fr y with
   |some (.val (.int k1 a)),some (.val (.int _ b))=>k (.val (.int k1 (if b<a then b else a))) [] [] []
   |_,_=>Good P fr hp o k
  |.max,[x,y],_=>match ev fr x,ev fr y with
   |some (.val (.int k1 a)),some (.val (.int _ b))=>k (.val (.int k1 (if b>a then b else a))) [] [] []
   |_,_=>Good P fr hp o k
  |.append,[x,y],[t,t2]=>match o.dst,ev fr x,ev fr y,tfind T t,tfind T t2 with
   |some kn,some (.slc k1 s 0 n),some (.slc k2 s2 i2 m),some ⟨.slc e,_,_,_⟩,some ⟨.slc e2,_,_,_⟩=>match Nat.beq e2 e,tfind T e,find hp k1,find hp k2,find hp kn with
    |true,some te,some ⟨ty,true,d⟩,some blk2,none=>match Nat.beq ty e&&(Nat.beq s te.size&&Nat.beq s2 te.size),dwidth d,dwidth blk2.data,dapp d n blk2.data i2 m with
     |true,some wd,some wd2,some d'=>match Nat.beq wd te.size&&Nat.beq wd2 te.size with
      |true=>(n≤dlen d∧i2+m≤dlen blk2.data∧(n+m)*te.bytes≤140737488355328∧n+m≤9223372036854775807)∧k (.slc kn te.size 0 (n+m)) [(k1,⟨ty,true,d⟩),(k2,blk2)] [(kn,⟨e,true,d'⟩)] [(k1,⟨e,true,.dead⟩)]
      |false=>Good P fr hp o k
     |_,_,_,_=>Good P fr hp o k
    |_,_,_,_,_=>Good P fr hp o k
   |some kn,some (.val (.slice none 0 0)),some (.slc k2 s2 i2 m),some ⟨.slc e,_,_,_⟩,some ⟨.slc e2,_,_,_⟩=>match Nat.beq e2 e,tfind T e,find hp k2,find hp kn with
    |true,some te,some blk2,none=>match Nat.beq s2 te.size,dwidth blk2.data,dapp blk2.data 0 blk2.data i2 m with
     |true,some wd2,some d'=>match Nat.beq wd2 te.size with
      |true=>(i2+m≤dlen blk2.data∧m*te.bytes≤140737488355328∧m≤9223372036854775807)∧k (.slc kn te.size 0 m) [(k2,blk2)] [(kn,⟨e,true,d'⟩)] []
      |false=>Good P fr hp o k
     |_,_,_=>Good P fr hp o k
    |_,_,_,_=>Good P fr hp o k
   |_,_,_,_,_=>Good P fr hp o k
  |_,_,_=>∃c fk new upd,OpOK P o fr fk c new upd∧(∀j b,(j,b)∈fk→find hp j=some b)∧(∀j b,(j,b)∈new→find hp j=none)∧(∀j b,(j,b)∈upd→∃b0,(j,b0)∈fk∧b0.wr=true∧b0.data.live=true∧b.wr=true)∧k c fk new upd
 |.call ⟨.value x,xs,_⟩=>match ev fr x with
  |some (.clo f first cap)=>match evs fr xs.toList with
   |some args=>∃fk c new upd,CallOK P f (first++(args++cap)) fk c new upd∧(∀j b,(j,b)∈fk→find hp j=some b)∧(∀j b,(j,b)∈new→find hp j=none)∧(∀j b,(j,b)∈upd→∃b0,(j,b0)∈fk∧b0.wr=true∧b0.data.live=true∧b.wr=true)∧k c fk new upd
   |none=>Good P fr hp o k
  |some (.yld l rc us cap)=>match evs fr xs.toList with
   |some args=>∃fk c new upd,YldOK P l rc us cap args fk c new upd∧(∀j b,(j,b)∈fk→find hp j=some b)∧(∀j b,(j,b)∈new→find hp j=none)∧(∀j b,(j,b)∈upd→∃b0,(j,b0)∈fk∧b0.wr=true∧b0.data.live=true∧b.wr=true)∧k c fk new upd
   |none=>Good P fr hp o k
  |_=>Good P fr hp o k
 |_=>∃c fk new upd,OpOK P o fr fk c new upd∧(∀j b,(j,b)∈fk→find hp j=some b)∧(∀j b,(j,b)∈new→find hp j=none)∧(∀j b,(j,b)∈upd→∃b0,(j,b0)∈fk∧b0.wr=true∧b0.data.live=true∧b.wr=true)∧k c fk new upd
theorem nil_fk {hp:List (Nat×Blk)}:∀j b,(j,b)∈([]:List (Nat×Blk))→find hp j=some b:=fun _ _ h=>by cases h
theorem nil_new {hp:List (Nat×Blk)}:∀j b,(j,b)∈([]:List (Nat×Blk))→find hp j=none:=fun _ _ h=>by cases h
theorem nil_upd {fk:List (Nat×Blk)}:∀j b,(j,b)∈([]:List (Nat×Blk))→∃b0:Blk,(j,b0)∈fk∧b0.wr=true∧b0.data.live=true∧b.wr=true:=fun _ _ h=>by cases h
theorem one_fk {hp:List (Nat×Blk)} {k:Nat} {b:Blk} (h:find hp k=some b):∀j c,(j,c)∈[(k,b)]→find hp j=some c:=fun j c hm=>by
 simp only[List.mem_singleton,Prod.mk.injEq]at hm
 obtain⟨rfl,rfl⟩:=hm;exact h
theorem one_new {hp:List (Nat×Blk)} {k:Nat} {b:Blk} (h:find hp k=none):∀j c,(j,c)∈[(k,b)]→find hp j=none:=fun j c hm=>by
 simp only[List.mem_singleton,Prod.mk.injEq]at hm
 obtain⟨rfl,rfl⟩:=hm;exact h
theorem exec_good {P:Program} {T:List (TypeId×TI)} {Z:List Nat} (hT:TabOK P T) {fr:List (Nat×SV)} {hp:List (Nat×Blk)} {o:Oper} {k:SV→List (Nat×Blk)→List (Nat×Blk)→List (Nat×Blk)→Prop}
  (h:exec P T Z fr hp o k):Good P fr hp o k:=by
 unfold exec at h
 split at h
 case h_1 x ho=>
  split at h
  ·rename_i c hc
   exact⟨c,[],[],[],op_move (.inl ho) (ev_ok hc),nil_fk,nil_new,nil_upd,h⟩
  ·exact h
 case h_2 x ho=>
  split at h
  ·rename_i c hc
   exact⟨c,[],[],[],op_move (.inr ho) (ev_ok hc),nil_fk,nil_new,nil_upd,h⟩
  ·exact h
 case h_3 e x ho=>
  split at h
  ·rename_i d sv hd hsv
   split at h
   ·rename_i cs hcs hf
    split at h
    ·exact⟨_,[],_,[],op_box ho (ev_ok hsv) hcs,nil_fk,one_new hf,nil_upd,h⟩
    ·split at h
     ·rename_i hkl
      exact⟨_,[],[],[],op_boxZ ho (ev_ok hsv) hcs hkl,nil_fk,nil_new,nil_upd,h⟩
     ·exact h
   ·exact h
  ·exact h
 case h_4 e ho=>
  split at h
  ·rename_i d ti hd hti
   split at h
   ·rename_i hf
    exact⟨_,[],_,[],op_alloc ho (hT.get hti),nil_fk,one_new hf,nil_upd,h⟩
   ·exact h
  ·exact h
 case h_5 t x ho=>
  split at h
  ·exact h
  split at h
  ·rename_i key s i r ti hx hti
   split at h
   ·rename_i blk hblk
    split at h
    ·rename_i ob cs he
     split at h
     ·rename_i l _ hs hsz
      split at h
      ·rename_i c hc
       exact⟨c,_,[],[],op_load ho (ev_ok hx) (hT.get hti) (List.mem_cons_self ..) he (req_spec h).1 hs (by omega) hc,one_fk hblk,nil_new,nil_upd,(req_spec h).2⟩
      ·exact h
     ·exact h
    ·exact h
   ·exact h
  ·obtain⟨c,fk,new,h1,h2,h3,h4⟩:=h
   exact⟨c,fk,new,[],h1,h2,h3,nil_upd,h4⟩
  ·exact h
 case h_6 t x y ho=>
  split at h
  ·rename_i key s i r sv ti hx hy hti
   split at h
   ·rename_i ty d nw hblk hnw
    split at h
    ·rename_i ob cs he
     split at h
     ·rename_i hw hle
      split at h
      ·rename_i cs' hp'
       split at h
       ·rename_i d' hd'
        refine⟨.any,_,[],_,op_store ho (ev_ok hx) (ev_ok hy) (hT.get hti) (List.mem_cons_self ..) he (req_spec h).1 hnw (Nat.eq_of_beq_eq_true hw) (Nat.le_of_ble_eq_true hle) hp' hd',one_fk hblk,nil_new, ?_,(req_spec h).2⟩
        intro j b hm
        simp only[List.mem_singleton,Prod.mk.injEq]at hm
        obtain⟨rfl,rfl⟩:=hm
        exact⟨_,List.mem_cons_self ..,rfl,elem_live he,rfl⟩
       ·exact h
      ·exact h
     ·exact h
    ·exact h
   ·exact h
  ·exact h
 case h_7 s x j ho=>
  split at h
  ·rename_i key sz i r fs _ _ _ hx hti
   split at h
   ·rename_i off e _ hj
    exact⟨_,[],[],[],op_fieldAddr ho (ev_ok hx) (hT.get hti) rfl hj (by omega),nil_fk,nil_new,nil_upd,h⟩
   ·exact h
  ·exact h
 case h_8 x ix ho=>
  split at h
  ·rename_i l hx
   split at h
   ·rename_i c hc
    split at h
    ·rename_i hb
     refine⟨c,[],[],[],op_extract ho (ev_ok hx) hc ?_,nil_fk,nil_new,nil_upd,h⟩
     simpa using hb
    ·exact h
   ·exact h
  ·exact h
 case h_9 op xt x y yt ho=>
  split at h
  ·rename_i k1 a k2 b hx hy
   split at h
   ·exact⟨_,[],[],[],op_shl ho (ev_ok hx) (ev_ok hy) h.1,nil_fk,nil_new,nil_upd,h.2⟩
   ·exact⟨_,[],[],[],op_shr ho (ev_ok hx) (ev_ok hy) h.1,nil_fk,nil_new,nil_upd,h.2⟩
   ·split at h
    ·rename_i hk
     subst hk
     split at h
     ·rename_i ob v hv
      exact⟨_,[],[],[],op_ibin ho (ev_ok hx) (ev_ok hy) hv (req_spec h).1,nil_fk,nil_new,nil_upd,(req_spec h).2⟩
     ·exact h
    ·exact h
  ·rename_i a b hx hy
   split at h
   ·rename_i hti
    split at h
    ·exact⟨_,[],[],[],op_beq ho (ev_ok hx) (ev_ok hy) (hT.get hti) rfl,nil_fk,nil_new,nil_upd,h⟩
    ·exact⟨_,[],[],[],op_bne ho (ev_ok hx) (ev_ok hy) (hT.get hti) rfl,nil_fk,nil_new,nil_upd,h⟩
    ·exact h
   ·exact h
  ·rename_i a b hx hy
   split at h
   ·rename_i ob v hv
    exact⟨_,[],[],[],op_sbin ho (ev_ok hx) (ev_ok hy) hv (req_spec h).1,nil_fk,nil_new,nil_upd,(req_spec h).2⟩
   ·exact h
  ·obtain⟨v,h1,h2⟩:=h
   exact⟨_,[],[],[],h1,nil_fk,nil_new,nil_upd,h2⟩
  ·exact h
 case h_10 op xt x ho=>
  split at h
  ·rename_i a hx
   exact⟨_,[],[],[],op_not ho (ev_ok hx),nil_fk,nil_new,nil_upd,h⟩
  ·rename_i kd a hx
   exact⟨_,[],[],[],op_neg ho (ev_ok hx),nil_fk,nil_new,nil_upd,h⟩
  ·rename_i kd a hx
   exact⟨_,[],[],[],op_xor ho (ev_ok hx),nil_fk,nil_new,nil_upd,h⟩
  ·exact h
 case h_11 s d x ho=>
  split at h
  ·rename_i k2 a k1 _ _ _ kd _ _ _ hx hs hd
   split at h
   ·rename_i hk
    subst hk
    exact⟨_,[],[],[],op_conv ho (ev_ok hx) (hT.get hs) (hT.get hd) rfl rfl,nil_fk,nil_new,nil_upd,h⟩
   ·exact h
  ·obtain⟨c,fk,new,h1,h2,h3,h4⟩:=h
   exact⟨c,fk,new,[],h1,h2,h3,nil_upd,h4⟩
 case h_12 x ho=>
  split at h
  ·rename_i key s i r hx
   exact⟨_,[],[],[],op_nilCheck ho (ev_ok hx),nil_fk,nil_new,nil_upd,h⟩
  ·rename_i f a b hx
   exact⟨_,[],[],[],op_nilCheckF ho (ev_ok hx),nil_fk,nil_new,nil_upd,h⟩
  ·exact h
 case h_13 t x ix ho=>
  split at h
  ·rename_i key s i n kd j e _ _ _ hx hi ht
   split at h
   ·rename_i te hte
    split at h
    ·rename_i hs
     exact⟨_,[],[],[],op_indexAddr ho (ev_ok hx) (ev_ok hi) (hT.get ht) rfl (hT.get hte) (Nat.eq_of_beq_eq_true hs) h.1.1 h.1.2,nil_fk,nil_new,nil_upd,h.2⟩
    ·exact h
   ·exact h
  ·rename_i key s i r kd j n e _ _ _ hx hi ht
   split at h
   ·rename_i te hte
    exact⟨_,[],[],[],op_indexArr ho (ev_ok hx) (ev_ok hi) (hT.get ht) rfl (hT.get hte) h.1.1 h.1.2,nil_fk,nil_new,nil_upd,h.2⟩
   ·exact h
  ·obtain⟨c,fk,new,h1,h2,h3,h4⟩:=h
   exact⟨c,fk,new,[],h1,h2,h3,nil_upd,h4⟩
  ·exact h
 case h_14 t x ix ho=>
  split at h
  ·rename_i s kd j _ _ _ hx hi ht
   exact⟨_,[],[],[],op_strIndex ho (ev_ok hx) (ev_ok hi) (hT.get ht) rfl h.1.1 h.1.2,nil_fk,nil_new,nil_upd,h.2⟩
  ·obtain⟨c,fk,new,h1,h2,h3,h4⟩:=h
   exact⟨c,fk,new,[],h1,h2,h3,nil_upd,h4⟩
 case h_15 t x lo hi ho=>
  split at h
  ·rename_i l key s i n e _ _ _ hl hx ht
   split at h
   ·rename_i h' te hh hte
    split at h
    ·rename_i hs
     exact⟨_,[],[],[],op_slice ho (ev_ok hx) (bound_spec hl) (bound_spec hh) (hT.get ht) rfl (hT.get hte) (Nat.eq_of_beq_eq_true hs) h.1.1 h.1.2.1 h.1.2.2,nil_fk,nil_new,nil_upd,h.2⟩
    ·exact h
   ·exact h
  ·rename_i l s _ _ _ hl hx ht
   split at h
   ·rename_i h' hh
    exact⟨_,[],[],[],op_strSlice ho (ev_ok hx) (bound_spec hl) (bound_spec hh) (hT.get ht) rfl h.1.1 h.1.2.1 h.1.2.2,nil_fk,nil_new,nil_upd,h.2⟩
   ·exact h
  ·exact h
 case h_16 t x y ho=>
  split at h
  ·rename_i d kl l kc c e _ _ _ hd hx hy ht
   split at h
   ·rename_i te hte hf
    split at h
    ·rename_i hz
     exact⟨_,[],_,[],op_make ho (ev_ok hx) (ev_ok hy) (hT.get ht) rfl (hT.get hte) hz h.1.1 h.1.2.1 h.1.2.2.1 h.1.2.2.2,nil_fk,one_new hf,nil_upd,h.2⟩
    ·exact h
   ·exact h
  ·exact h
 case h_17 t len parts ho=>
  split at h
  ·rename_i d ps e _ _ _ hd hps ht
   split at h
   ·rename_i te hte hf
    split at h
    ·rename_i l hb
     split at h
     ·split at h
      ·rename_i dt hdt hlen hsz
       exact⟨_,[],_,[],op_buildSlice ho (hT.get ht) rfl (hT.get hte) hps hb hdt (Nat.eq_of_beq_eq_true hlen) (Nat.le_of_ble_eq_true hsz),nil_fk,one_new hf,nil_upd,h⟩
      ·exact h
     ·split at h
      ·rename_i hkl hlen hsz
       rw[Bool.and_eq_true]at hkl
       exact⟨_,[],[],[],op_buildSliceZ ho (hT.get ht) rfl (hT.get hte) hps hb hkl.1 hkl.2 (Nat.eq_of_beq_eq_true hlen) (Nat.le_of_ble_eq_true hsz),nil_fk,nil_new,nil_upd,h⟩
      ·exact h
    ·exact h
   ·exact h
  ·exact h
 case h_18 t parts ho=>
  split at h
  ·rename_i fs sz by' z ps ht hps
   split at h
   ·rename_i l hb
    split at h
    ·rename_i c hc
     exact⟨_,[],[],[],op_build ho (hT.get ht) rfl hps hb hc,nil_fk,nil_new,nil_upd,h⟩
    ·exact h
   ·exact h
  ·rename_i n e sz by' z ps ht hps
   split at h
   ·rename_i te hte
    split at h
    ·rename_i l hb
     split at h
     ·rename_i c hc
      exact⟨_,[],[],[],op_buildArr ho (hT.get ht) rfl (hT.get hte) hps hb hc,nil_fk,nil_new,nil_upd,h⟩
     ·exact h
    ·exact h
   ·exact h
  ·exact h
 case h_19 b xs ts ho=>
  split at h
  ·rename_i x t hxs hts
   have hxs':xs= #[x]:=by apply Array.ext';simpa using hxs
   have hts':ts= #[t]:=by apply Array.ext';simpa using hts
   split at h
   ·rename_i s _ _ _ hx ht
    exact⟨_,[],[],[],op_len ho hxs' hts' (ev_ok hx) rfl (hT.get ht) (.inl ⟨rfl,s,rfl⟩),nil_fk,nil_new,nil_upd,h⟩
   ·rename_i n e _ _ _ hx ht
    exact⟨_,[],[],[],op_len ho hxs' hts' (ev_ok hx) rfl (hT.get ht) (.inr ⟨⟨e,rfl⟩,fun s hs=>by cases hs⟩),nil_fk,nil_new,nil_upd,h⟩
   ·rename_i n _ e _ _ _ hx ht
    exact⟨_,[],[],[],op_len ho hxs' hts' (ev_ok hx) rfl (hT.get ht) (.inr ⟨⟨e,rfl⟩,fun s hs=>by cases hs⟩),nil_fk,nil_new,nil_upd,h⟩
   ·exact h
  ·rename_i x y hxs
   have hxs':xs= #[x,y]:=by apply Array.ext';simpa using hxs
   split at h
   ·rename_i k1 a k2 b hx hy
    exact⟨_,[],[],[],op_min ho hxs' (ev_ok hx) (ev_ok hy),nil_fk,nil_new,nil_upd,h⟩
   ·exact h
  ·rename_i x y hxs
   have hxs':xs= #[x,y]:=by apply Array.ext';simpa using hxs
   split at h
   ·rename_i k1 a k2 b hx hy
    exact⟨_,[],[],[],op_max ho hxs' (ev_ok hx) (ev_ok hy),nil_fk,nil_new,nil_upd,h⟩
   ·exact h
  ·rename_i x y t t2 hxs hts
   have hxs':xs= #[x,y]:=by apply Array.ext';simpa using hxs
   have hts':ts= #[t,t2]:=by apply Array.ext';simpa using hts
   split at h
   ·rename_i kn k1 s n k2 s2 i2 m e _ _ _ e2 _ _ _ hd hx hy ht ht2
    split at h
    ·rename_i te ty d blk2 he2 hte hb1 hb2 hbn
     split at h
     ·rename_i wd wd2 d' hc hw1 hw2 happ
      split at h
      ·rename_i hww
       simp only[Bool.and_eq_true,Nat.beq_eq]at hc hww
       obtain⟨rfl,rfl,rfl⟩:=hc
       obtain⟨rfl,rfl⟩:=hww
       have he2':=Nat.eq_of_beq_eq_true he2
       subst he2'
       have hl1:d.live=true:=by cases d<;>simp[dwidth]at hw1<;>rfl
       have hl2:blk2.data.live=true:=by cases hq:blk2.data<;>rw[hq]at hw2<;>simp[dwidth]at hw2<;>rfl
       refine⟨_,_,_,_,op_append ho hxs' hts' (ev_ok hx) (ev_ok hy) (hT.get ht) rfl (hT.get ht2) rfl (hT.get hte) (List.mem_cons_self ..) (List.mem_cons_of_mem _ (List.mem_cons_self ..)) hl1 hl2 hw1 hw2 h.1.1 h.1.2.1 happ h.1.2.2.1 h.1.2.2.2, ?_,one_new hbn, ?_,h.2⟩
       ·intro j b hm
        simp only[List.mem_cons,Prod.mk.injEq,List.not_mem_nil,or_false]at hm
        rcases hm with⟨rfl,rfl⟩|⟨rfl,rfl⟩
        ·exact hb1
        ·exact hb2
       ·intro j b hm
        simp only[List.mem_singleton,Prod.mk.injEq]at hm
        obtain⟨rfl,rfl⟩:=hm
        exact⟨_,List.mem_cons_self ..,rfl,hl1,rfl⟩
      ·exact h
     ·exact h
    ·exact h
   ·rename_i kn k2 s2 i2 m e _ _ _ e2 _ _ _ hd hx hy ht ht2
    split at h
    ·rename_i te blk2 he2 hte hb2 hbn
     split at h
     ·rename_i wd2 d' hc hw2 happ
      split at h
      ·rename_i hww
       have hc':=Nat.eq_of_beq_eq_true hc
       subst hc'
       have hww':=Nat.eq_of_beq_eq_true hww
       subst hww'
       have he2':=Nat.eq_of_beq_eq_true he2
       subst he2'
       have hl2:blk2.data.live=true:=by cases hq:blk2.data<;>rw[hq]at hw2<;>simp[dwidth]at hw2<;>rfl
       exact⟨_,_,_,[],op_append_nil ho hxs' hts' (ev_ok hx) (ev_ok hy) (hT.get ht) rfl (hT.get ht2) rfl (hT.get hte) (List.mem_cons_self ..) hl2 hw2 h.1.1 happ h.1.2.1 h.1.2.2,one_fk hb2,one_new hbn,nil_upd,h.2⟩
      ·exact h
     ·exact h
    ·exact h
   ·exact h
  ·exact h
 case h_20 x xs ts ho=>
  split at h
  ·rename_i f first cap hx
   split at h
   ·rename_i args hargs
    obtain⟨fk,c,new,upd,h1,h2,h3,h4,h5⟩:=h
    exact⟨c,fk,new,upd,op_call ho hx hargs h1,h2,h3,h4,h5⟩
   ·exact h
  ·rename_i l rc us cap hx
   split at h
   ·rename_i args hargs
    obtain⟨fk,c,new,upd,h1,h2,h3,h4,h5⟩:=h
    exact⟨c,fk,new,upd,op_yield ho hx hargs h1,h2,h3,h4,h5⟩
   ·exact h
  ·exact h
 case h_21=>exact h
end Go.Sx
