/- The texts SxA, SxZ, SxB, SxC, SxD, SxE, SxF, SxJ, SxK, SxL, SxM, SxQ, SxG. -/
import Derived.OrdersIn
import Derived.TacticsIn
import Derived.Below
import Derived.Laws.Rows
import Derived.RangeFuncLeaves
import Derived.RangeFuncRecord
import Derived.RangeFuncNested
import Derived.Laws.CopyRow
import Derived.Laws.Tables
import Derived.Laws.StructEq
import Derived.Laws.Small
import Derived.Laws.NewBlocks
import Derived.Laws.Concat
import Derived.Laws.MakeOwn
import Derived.Laws.BytesString
import Derived.Laws.Append
namespace Go.Sx
theorem aa {p:Prop} (h:p:=by omega):p:=h
theorem aF {p:Prop} (h:p:=by kernel_rfl):p:=h
theorem aH {p:Prop} (h:p:=by decide):p:=h
end Go.Sx
namespace Go.Sx
structure ja (L V:Type) where
 rd:L→Bool
 wr:L→Bool
 val:L→V
def ja.ap {L V:Type} (σ:ja L V) (s:L→V):L→V:=fun l=>if σ.wr l then σ.val l else s l
def ja.Pp {L V:Type} (σ τ:ja L V):Prop:=∃l,(σ.wr l=true∧(τ.rd l=true∨τ.wr l=true))∨(σ.rd l=true∧τ.wr l=true)
inductive n9 (ops:Array Oper):Nat→Nat→Prop
 |one {j:Nat} {o:Oper} {e:Edge} (ho:ops[j]? =some o) (he:e∈o.after) (hb:Region.binds .any e=true):n9 ops j e.on
 |trans {j k i:Nat} (h:n9 ops j k) (h':n9 ops k i):n9 ops j i
section
variable {L V:Type} (steps:Nat→ja L V) (s0:L→V)
def sx (X:Nat→Bool):Nat→(L→V)
 |0=>s0
 |n+1=>if X n then(steps n).ap (sx X n)else sx X n
theorem FE {X:Nat→Bool} {l:L}:∀m,(∀j,j<m→(steps j).wr l=true→X j=true)→sx steps s0 X m l=sx steps s0 (fun _=>true) m l
 |0,_=>rfl
 |m+1,h=>by
  have ih:=FE m (fun j hj=>h j aa)
  simp only[sx,if_true]
  by_cases hx:X m=true
  ·simp only[hx,if_true,ja.ap];rw[ih]
  ·simp only[hx]
   have hw:(steps m).wr l≠true:=fun hw=>hx (h m aa hw)
   simp only[ja.ap,hw,if_false,Bool.false_eq_true];exact ih
theorem vP {X:Nat→Bool} {l:L} (m:Nat):∀n,m≤n→(∀j,m≤j→j<n→(steps j).wr l=true→X j=false)→sx steps s0 X n l=sx steps s0 X m l
 |0,hm,_=>by obtain rfl:m=0:=aa
             rfl
 |n+1,hm,h=>by
  by_cases hmn:m=n+1
  ·subst hmn;rfl
  ·have ih:=vP m n aa (fun j h1 h2=>h j h1 aa)
   simp only[sx]
   by_cases hx:X n=true
   ·simp only[hx,if_true,ja.ap]
    have hw:(steps n).wr l≠true:=fun hw=>by have:=h n aa aa hw;rw[hx]at this;cases this
    simp only[hw,if_false,Bool.false_eq_true];exact ih
   ·simp only[hx];exact ih
theorem Da {X Y:Nat→Bool} {l:L}:∀n,(∀j,j<n→(steps j).wr l=true→X j=Y j)→sx steps s0 X n l=sx steps s0 Y n l
 |0,_=>rfl
 |n+1,h=>by
  have ih:=Da n (fun j hj=>h j aa)
  simp only[sx]
  by_cases hw:(steps n).wr l=true
  ·rw[h n aa hw]
   split
   ·simp only[ja.ap,hw,if_true]
   ·exact ih
  ·have e:∀(b:Bool) (f:L→V),(if b then(steps n).ap f else f) l=f l:=by
    intro b f
    cases b
    ·rfl
    ·simp only[if_true,ja.ap,hw,if_false,Bool.false_eq_true]
   rw[e,e];exact ih
end
theorem filter_lt {p q:Nat→Bool} {i:Nat}:∀l:List Nat,i∈l→p i=true→(∀j,q j=(p j&& !(j==i)))→(l.filter q).length<(l.filter p).length:=by
 have hle:∀l:List Nat,(∀j,q j=(p j&& !(j==i)))→(l.filter q).length≤(l.filter p).length:=by
  intro l hq
  induction l with
  |nil=>simp
  |cons a l ih=>
   simp only[List.filter_cons,hq a]
   cases p a<;>cases (a==i)<;>simp<;>omega
 intro l hi hp hq
 induction l with
 |nil=>cases hi
 |cons a l ih=>
  by_cases ha:a=i
  ·subst ha
   have:=hle l hq
   simp only[List.filter_cons,hq a,hp]
   simp
   omega
  ·have hm:i∈l:=by
    rcases List.mem_cons.1 hi with h|h
    ·exact absurd h.symm ha
    ·exact h
   have:=ih hm
   simp only[List.filter_cons,hq a]
   have hb:(a==i)=false:=by simpa using ha
   rw[hb]
   cases p a<;>simp<;>omega
section
variable {L V:Type} {F:Fence} {nf:Nat} {P:Program} {ops:Array Oper} {Q:Exit→Act→World→Prop} {Rel:(L→V)→Act→World→Prop} {steps:Nat→ja L V} {s0:L→V}
def bG (listed:Array Bool):Nat→Bool:=fun j=>listed.getD j false
theorem zh
  (hexec:∀i,i<ops.size→∀s',(∀l,((steps i).rd l=true∨(steps i).wr l=true)→s' l=sx steps s0 (fun _=>true) i l)→∀a w,Rel s' a w→wpOpIn F nf P ops Q i (Rel ((steps i).ap s')) a w)
  (zJ:∀i j,i<j→j<ops.size→(steps i).Pp (steps j)→n9 ops j i)
  (hedge:∀(i:Nat) (o:Oper),ops[i]? =some o→∀e∈o.after,Region.binds .any e=true→e.on<i)
  (ig:∀a w,Rel (sx steps s0 (fun _=>true) ops.size) a w→Q .normal a w):
  ∀(fuel:Nat) (listed:Array Bool),listed.size=ops.size→
   (∀j,bG listed j=true→∀i,n9 ops j i→bG listed i=true)→
   ((List.range ops.size).filter (fun j=> !bG listed j)).length≤fuel→
   ∀a w,Rel (sx steps s0 (bG listed) ops.size) a w→wpAnyIn F nf P .any ops Q fuel listed a w:=by
 have Vi:∀listed:Array Bool,listed.size=ops.size→Region.ready .any ops listed=[]→∀j,j<ops.size→bG listed j=true:=by
  intro listed fG hr j
  induction j using Nat.strongRecOn with
  |_ j ih=>
   intro hj
   refine Classical.byContradiction fun hn=> ?_
   have acY:j∈Region.ready .any ops listed:=by
    rw[mem_ready]
    refine⟨?_,ops[j],by simp[hj],fun e he hb=> ?_⟩
    ·have hl:j<listed.size:=aa
     simp only[bG,Bool.not_eq_true]at hn
     simpa [hl]using hn
    ·have aI:=hedge j ops[j] (by simp[hj]) e he hb
     exact ih e.on aI aa
   rw[hr]at acY
   cases acY
 have Sv:∀listed:Array Bool,listed.size=ops.size→Region.ready .any ops listed=[]→∀a w,Rel (sx steps s0 (bG listed) ops.size) a w→Q .normal a w:=by
  intro listed fG hr a w hR
  refine ig a w ?_
  have:sx steps s0 (bG listed) ops.size=sx steps s0 (fun _=>true) ops.size:=by
   funext l
   exact FE steps s0 _ (fun j hj _=>Vi listed fG hr j hj)
  rwa [←this]
 intro fuel
 induction fuel with
 |zero=>
  intro listed fG CZ hcount a w hR
  have hr:Region.ready .any ops listed=[]:=by
   refine List.eq_nil_iff_forall_not_mem.2 fun j hj=> ?_
   rw[mem_ready]at hj
   obtain⟨h0,o,ho,_⟩:=hj
   have aI:j<ops.size:=by
    rcases Nat.lt_or_ge j ops.size with h|h
    ·exact h
    ·simp[Array.getElem?_eq_none h]at ho
   have:j∈(List.range ops.size).filter (fun j=> !bG listed j):=by
    simp only[List.mem_filter,List.mem_range,bG,Bool.not_eq_true']
    refine⟨aI, ?_⟩
    have hl:j<listed.size:=aa
    simpa [hl]using h0
   have:=List.length_pos_of_mem this
   omega
  exact⟨hr,Sv listed fG hr a w hR⟩
 |succ fuel ih=>
  intro listed fG CZ hcount a w hR
  refine⟨fun hr=>Sv listed fG hr a w hR,fun i hi=> ?_⟩
  have hmr:=mem_ready.1 hi
  obtain⟨h0,o,ho,nb⟩:=hmr
  have aI:i<ops.size:=by
   rcases Nat.lt_or_ge i ops.size with h|h
   ·exact h
   ·simp[Array.getElem?_eq_none h]at ho
  have hl:i<listed.size:=aa
  have Vj:bG listed i=false:=by
   simp only[bG];simpa [hl]using h0
  have Kq:∀j k,n9 ops j k→(j=i∨bG listed j=true)→bG listed k=true:=by
   intro j k hw
   induction hw with
   |@one j o' e IY he hb=>
    rintro(rfl|hj)
    ·rw[ho]at IY;cases IY;exact nb e he hb
    ·exact CZ j hj _ (.one IY he hb)
   |trans h h' ih1 ih2=>exact fun hj=>ih2 (.inr (ih1 hj))
  have Pq:∀j,j<i→(steps j).Pp (steps i)→bG listed j=true:=fun j hj hc=>Kq i j (zJ j i hj aI hc) (.inl rfl)
  have Kr:∀j,i<j→j<ops.size→(steps i).Pp (steps j)→bG listed j=false:=by
   intro j hj FF hc
   cases Vk:bG listed j with
   |false=>rfl
   |true=>
    have:=CZ j Vk i (zJ i j hj FF hc)
    rw[Vj]at this;cases this
  have acZ:∀l,((steps i).rd l=true∨(steps i).wr l=true)→sx steps s0 (bG listed) ops.size l=sx steps s0 (fun _=>true) i l:=by
   intro l ql
   rw[vP steps s0 i ops.size aa (fun j h1 h2 hw=> ?_),FE steps s0 i (fun j hj hw=>Pq j hj ⟨l,.inl ⟨hw,ql⟩⟩)]
   rcases Nat.lt_or_ge i j with h|h
   ·refine Kr j h h2 ⟨l, ?_⟩
    rcases ql with h3|h3
    ·exact .inr ⟨h3,hw⟩
    ·exact .inl ⟨h3,.inr hw⟩
   ·obtain rfl:i=j:=aa
    exact Vj
  have cb:=hexec i aI _ acZ a w hR
  refine wpOpIn_mono (fun a' w' kC=> ?_) cb
  have hX:∀j,bG (listed.setIfInBounds i true) j=(if j=i then true else bG listed j):=by
   intro j
   by_cases vH:j=i
   ·subst vH;simp[bG,hl]
   ·rw[if_neg vH];exact getD_set_ne false (fun h=>vH h.symm)
  refine ih _ (by simpa using fG) ?_ ?_ a' w' ?_
  ·intro j hj k hw
   rw[hX]at hj ⊢
   split
   ·rfl
   ·by_cases vH:j=i
    ·exact Kq j k hw (.inl vH)
    ·rw[if_neg vH]at hj;exact CZ j hj k hw
  ·have:=filter_lt (p:=fun j=> !bG listed j) (q:=fun j=> !bG (listed.setIfInBounds i true) j) (i:=i) (List.range ops.size) (by simpa using aI) (by simp[Vj]) (fun j=>by
    rw[hX]
    by_cases vH:j=i<;>simp[vH])
   omega
  ·have:sx steps s0 (bG (listed.setIfInBounds i true)) ops.size=(steps i).ap (sx steps s0 (bG listed) ops.size):=by
    funext l
    by_cases hw:(steps i).wr l=true
    ·rw[vP steps s0 (i+1) ops.size aa (fun j h1 h2 hwj=> ?_)]
     ·simp[sx,hX,ja.ap,hw]
     ·rw[hX,if_neg aa]
      exact Kr j aa h2 ⟨l,.inl ⟨hw,.inr hwj⟩⟩
    ·simp only[ja.ap,hw,if_false,Bool.false_eq_true]
     refine Da steps s0 _ fun j _ hwj=> ?_
     rw[hX,if_neg]
     rintro rfl
     exact hw hwj
   rw[this]
   exact kC
theorem IZ {id:Nat} (hm:P.follows .mixedOrders=true)
  (hexec:∀i,i<ops.size→∀s',(∀l,((steps i).rd l=true∨(steps i).wr l=true)→s' l=sx steps s0 (fun _=>true) i l)→∀a w,Rel s' a w→wpOpIn F nf P ops Q i (Rel ((steps i).ap s')) a w)
  (zJ:∀i j,i<j→j<ops.size→(steps i).Pp (steps j)→n9 ops j i)
  (hedge:∀(i:Nat) (o:Oper),ops[i]? =some o→∀e∈o.after,Region.binds .any e=true→e.on<i)
  (ig:∀a w,Rel (sx steps s0 (fun _=>true) ops.size) a w→Q .normal a w)
  (a:Act) (w:World) (h:Rel s0 a {w with drawn:=w.drawn+1}):(Code.region id ops true).wpIn F nf P Q a w:=by
 refine wpIn_region_any hm (zh hexec zJ hedge ig _ _ (by simp) ?_ ?_ a _ ?_)
 ·intro j hj
  exfalso
  revert hj
  simp only[bG,Array.getD_eq_getD_getElem?,Array.getElem?_replicate]
  split<;>simp
 ·refine Nat.le_trans (List.length_filter_le _ _) (by simp)
 ·have:sx steps s0 (bG (Array.replicate ops.size false)) ops.size=s0:=by
   funext l
   refine vP steps s0 0 ops.size aa (fun j _ _ _=> ?_)
   simp only[bG,Array.getD_eq_getD_getElem?,Array.getElem?_replicate]
   split<;>simp
  rw[this]
  exact h
end
end Go.Sx
namespace Go.Sx
def ml:List (Nat×IntKind×List Int):=[(3,.u8,[0,1,28,2,29,14,24,3,30,22,20,15,25,17,4,8,31,27,13,23,21,19,16,7,26,12,18,6,11,5,10,9]),(4,.u8,[0,1,56,2,57,49,28,3,61,58,42,50,38,29,17,4,62,47,59,36,45,43,51,22,53,39,33,30,24,18,12,5,63,55,48,27,60,41,37,16,46,35,44,21,52,32,23,11,54,26,40,15,34,20,31,10,25,14,19,9,13,8,7,6]),(2,.u64,[1,10,100,1000,10000,100000,1000000,10000000,100000000,1000000000,10000000000,100000000000,1000000000000,10000000000000,100000000000000,1000000000000000,10000000000000000,100000000000000000,1000000000000000000,10000000000000000000])]
def ir (aT:Nat→Option Obj):Prop:=∀g kd l,(g,kd,l)∈ml→∃o,aT g=some o∧(∀w:World,w.heap[g]? =some o→∀j x,l[j]? =some x→w.cell? ⟨g,j,none⟩=some (.int kd x))∧∃ty fz,o= .cells (l.map fun x=>Value.int kd x).toArray ty fz
def wR (W:World):Prop:=∀g kd l,(g,kd,l)∈ml→l≠[]∧(∀j x,l[j]? =some x→W.cell? ⟨g,j,none⟩=some (.int kd x))∧∃ty fz,W.heap[g]? =some (.cells (l.map fun x=>Value.int kd x).toArray ty fz)
end Go.Sx
namespace Go.Sx
def cH:Nat→Nat→List Nat
 |0,_=>[]
 |f+1,n=>if n=0 then[]else n % 4294967296::cH f (n/4294967296)
def words (n:Nat):List Nat:=cH n n
def bC (w:Nat):List UInt8:=[UInt8.ofNat w,UInt8.ofNat (w/256),UInt8.ofNat (w/65536),UInt8.ofNat (w/16777216)]
def low (n:Nat):Int:=if n<18446744073709551616 then(n:Int)else 0
def pX (n:Nat):ByteArray:=if n<18446744073709551616 then ByteArray.empty else⟨((words n).flatMap bC).toArray⟩
def bH (n:Nat):List Value:=[.int .u64 (low n),.string (pX n)]
def dv (z:Int):List Value:=bH z.natAbs++[.bool (decide (z<0))]
def bR (q:Rat):List Value:=dv q.num++bH (q.den - 1)
structure bI where
 key:Nat→Option (Nat×Nat)
 aT:Nat→Option Obj
 b7:ir aT
structure bI.Le (ρ ρ':bI):Prop where
 key:∀k x,ρ.key k=some x→ρ'.key k=some x
 aT:∀b o,ρ.aT b=some o→ρ'.aT b=some o
theorem bI.Le.refl (ρ:bI):ρ.Le ρ:=⟨fun _ _ h=>h,fun _ _ h=>h⟩
theorem bI.Le.trans {ρ σ τ:bI} (h:ρ.Le σ) (h':σ.Le τ):ρ.Le τ:=⟨fun k x hx=>h'.key k x (h.key k x hx),fun b o ho=>h'.aT b o (h.aT b o ho)⟩
structure Pred where
 h:(Nat→Option Obj)→List Value→Prop
 mono:∀i i' vs,(∀b o,i b=some o→i' b=some o)→h i vs→h i' vs
 width:Nat
 len:∀i vs,h i vs→vs.length=width∧∀v∈vs,v.oneCell'=true
 bare:Bool
 qY:bare=true→width=1
inductive SV where
 |any
 |val (v:Value)
 |ptr (k s i r:Nat)
 |aK (k s i n:Nat)
 |nat (n:Nat)
 |int (z:Int)
 |frac (q:Rat)
 |atom (p:Pred)
 |agg (cs:List SV)
 |cC (vs:List SV)
 |clo (f:FuncId) (first cap:List SV)
  |yld (k:Nat) (rc:Loop) (ts:List Nat) (cap:List SV)
def SV.aU:SV→Bool
 |.any|.val _|.ptr .. |.aK .. |.clo .. |.yld .. =>true
 |.atom p=>p.bare
 |_=>false
mutual
def SV.width:SV→Nat
 |.any|.val _|.ptr .. |.aK .. |.clo .. |.yld .. =>1
 |.nat _=>2
 |.int _=>3
 |.frac _=>5
 |.atom p=>p.width
 |.agg cs=>SV.cu cs
 |.cC _=>0
def SV.cu:List SV→Nat
 |[]=>0
 |c::l=>SV.width c+SV.cu l
end
def ct (c:SV) (cells:List Value):Value:=if c.aU then cells.headD undef else .agg cells.toArray
mutual
def aG (ρ:bI):SV→List Value→Prop
 |.any,vs=>∃v,vs=[v]∧v.oneCell'=true
 |.val v,vs=>vs=[v]∧v.oneCell'=true
 |.ptr k s i r,vs=>∃b t,ρ.key k=some (b,t)∧vs=[.pointer (some ⟨b,i*s+r,none⟩)]
 |.aK k s i n,vs=>(∃b t cap,ρ.key k=some (b,t)∧n≤cap∧(i+cap)*s≤t∧vs=[.slice (some ⟨b,i*s,none⟩) n cap])∨(n=0∧∃a,vs=[.slice a 0 0])
 |.nat n,vs=>vs=bH n
 |.int z,vs=>vs=dv z
 |.frac q,vs=>vs=bR q
 |.atom p,vs=>p.h ρ.aT vs
 |.agg cs,vs=>∃z,au ρ cs z∧vs=z.flatten
 |.cC _,_=>False
 |.clo f first cap,vs=>∃fz cz,au ρ first fz∧au ρ cap cz∧vs=[.func (.func f) (List.zipWith ct first fz).toArray (List.zipWith ct cap cz).toArray]
 |.yld k rc ts cap,vs=>∃l t,ρ.key k=some (l,t)∧vs=[.func (.yield l) #[] #[]]∧∃z,au ρ cap z∧List.zipWith ct cap z=ts.map fun t=>rc.tmps.getD t undef
def au (ρ:bI):List SV→List (List Value)→Prop
 |[],z=>z=[]
 |c::l,z=>∃x r,z=x::r∧aG ρ c x∧au ρ l r
end
def Has (ρ:bI):SV→Value→Prop
 |.any,_=>True
 |.cC l,v=>∃z,au ρ l z∧v= .tuple (List.zipWith ct l z).toArray
 |c,v=>∃x,aG ρ c x∧v=ct c x
mutual
theorem aG.mono {ρ ρ':bI} (h:ρ.Le ρ'):∀(c:SV) (vs:List Value),aG ρ c vs→aG ρ' c vs
 |.any,_,hc=>by simpa only[aG]using hc
 |.val _,_,hc=>by simpa only[aG]using hc
 |.ptr k s i r,_,hc=>by
  simp only[aG]at hc ⊢
  obtain⟨b,t,h1,h2⟩:=hc
  exact⟨b,t,h.key _ _ h1,h2⟩
 |.aK k s i n,_,hc=>by
  simp only[aG]at hc ⊢
  rcases hc with⟨b,t,cap,h1,h2⟩|hc
  ·exact .inl ⟨b,t,cap,h.key _ _ h1,h2⟩
  ·exact .inr hc
 |.nat _,_,hc=>by simpa only[aG]using hc
 |.int _,_,hc=>by simpa only[aG]using hc
 |.frac _,_,hc=>by simpa only[aG]using hc
 |.atom p,_,hc=>by simp only[aG]at hc ⊢;exact p.mono _ _ _ h.aT hc
 |.agg cs,_,hc=>by
  simp only[aG]at hc ⊢
  obtain⟨z,h1,h2⟩:=hc
  exact⟨z,au.mono h cs z h1,h2⟩
 |.cC _,_,hc=>by simp only[aG]at hc
 |.clo f first cap,_,hc=>by
  simp only[aG]at hc ⊢
  obtain⟨fz,cz,h1,h2,h3⟩:=hc
  exact⟨fz,cz,au.mono h first fz h1,au.mono h cap cz h2,h3⟩
 |.yld k rc ts cap,_,hc=>by
  simp only[aG]at hc ⊢
  obtain⟨l,t,h1,h2,z,h3,h4⟩:=hc
  exact⟨l,t,h.key _ _ h1,h2,z,au.mono h cap z h3,h4⟩
theorem au.mono {ρ ρ':bI} (h:ρ.Le ρ'):∀(l:List SV) (z:List (List Value)),au ρ l z→au ρ' l z
 |[],_,hz=>by simpa only[au]using hz
 |c::l,_,hz=>by
  simp only[au]at hz ⊢
  obtain⟨x,r,h1,h2,h3⟩:=hz
  exact⟨x,r,h1,aG.mono h c x h2,au.mono h l r h3⟩
end
theorem Has.mono {ρ ρ':bI} (h:ρ.Le ρ') (c:SV) (v:Value) (hc:Has ρ c v):Has ρ' c v:=by
 cases c<;>simp only[Has]at hc ⊢
 case cC l=>obtain⟨z,h1,h2⟩:=hc;exact⟨z,au.mono h _ _ h1,h2⟩
 all_goals (obtain⟨x,h1,h2⟩:=hc;exact⟨x,aG.mono h _ _ h1,h2⟩)
theorem Bi (n:Nat):(bH n).length=2∧∀v∈bH n,v.oneCell'=true:=by simp[bH,Value.oneCell']
theorem Bj (z:Int):(dv z).length=3∧∀v∈dv z,v.oneCell'=true:=by simp[dv,bH,Value.oneCell']
theorem c9 (q:Rat):(bR q).length=5∧∀v∈bR q,v.oneCell'=true:=by simp[bR,dv,bH,Value.oneCell']
mutual
theorem aG.len {ρ:bI}:∀(c:SV) (vs:List Value),aG ρ c vs→vs.length=c.width∧∀v∈vs,v.oneCell'=true
 |.any,_,hc=>by simp only[aG]at hc;obtain⟨v,rfl,h⟩:=hc;simp[SV.width,h]
 |.val _,_,hc=>by simp only[aG]at hc;obtain⟨rfl,h⟩:=hc;simp[SV.width,h]
 |.ptr ..,_,hc=>by simp only[aG]at hc;obtain⟨b,t,_,rfl⟩:=hc;simp[SV.width,Value.oneCell']
 |.aK ..,_,hc=>by
  simp only[aG]at hc
  rcases hc with⟨b,t,cap,_,_,_,rfl⟩|⟨_,a,rfl⟩<;>simp[SV.width,Value.oneCell']
 |.nat n,_,hc=>by simp only[aG]at hc;subst hc;exact Bi n
 |.int z,_,hc=>by simp only[aG]at hc;subst hc;exact Bj z
 |.frac q,_,hc=>by simp only[aG]at hc;subst hc;exact c9 q
 |.atom p,_,hc=>by simp only[aG]at hc;exact p.len _ _ hc
 |.agg cs,_,hc=>by
  simp only[aG]at hc
  obtain⟨z,h1,rfl⟩:=hc
  exact au.len cs z h1
 |.cC _,_,hc=>by simp only[aG]at hc
 |.clo ..,_,hc=>by simp only[aG]at hc;obtain⟨fz,cz,_,_,rfl⟩:=hc;simp[SV.width,Value.oneCell']
 |.yld ..,_,hc=>by simp only[aG]at hc;obtain⟨_,_,_,rfl,_⟩:=hc;simp[SV.width,Value.oneCell']
theorem au.len {ρ:bI}:∀(l:List SV) (z:List (List Value)),au ρ l z→z.flatten.length=SV.cu l∧∀v∈z.flatten,v.oneCell'=true
 |[],_,hz=>by simp only[au]at hz;subst hz;simp[SV.cu]
 |c::l,_,hz=>by
  simp only[au]at hz
  obtain⟨x,r,rfl,h2,h3⟩:=hz
  obtain⟨a1,a2⟩:=aG.len c x h2
  obtain⟨b1,b2⟩:=au.len l r h3
  refine⟨by simp[SV.cu,a1,b1],fun v hv=> ?_⟩
  simp only[List.flatten_cons,List.mem_append]at hv
  exact hv.elim (a2 v) (b2 v)
end
mutual
def bA:SV→Bool
 |.any|.val _|.nat _|.int _|.frac _|.atom _=>true
 |.ptr .. |.aK .. |.yld .. =>false
 |.agg cs=>aV cs
 |.cC vs=>aV vs
 |.clo _ a b=>aV a&&aV b
def aV:List SV→Bool
 |[]=>true
 |c::l=>bA c&&aV l
end
mutual
theorem lH {ρ ρ':bI} (h:∀b o,ρ.aT b=some o→ρ'.aT b=some o):∀(c:SV) (x:List Value),bA c=true→aG ρ c x→aG ρ' c x
 |.any,_,_,hc=>by simpa only[aG]using hc
 |.val _,_,_,hc=>by simpa only[aG]using hc
 |.nat _,_,_,hc=>by simpa only[aG]using hc
 |.int _,_,_,hc=>by simpa only[aG]using hc
 |.frac _,_,_,hc=>by simpa only[aG]using hc
 |.atom p,_,_,hc=>by simp only[aG]at hc ⊢;exact p.mono _ _ _ h hc
 |.ptr ..,_,hk,_=>by simp[bA]at hk
 |.aK ..,_,hk,_=>by simp[bA]at hk
 |.yld ..,_,hk,_=>by simp[bA]at hk
 |.agg cs,_,hk,hc=>by
  simp only[aG]at hc ⊢
  obtain⟨z,h1,h2⟩:=hc
  exact⟨z,b5 h cs z (by simpa [bA]using hk) h1,h2⟩
 |.cC _,_,_,hc=>by simp only[aG]at hc
 |.clo f a b,_,hk,hc=>by
  simp only[aG]at hc ⊢
  simp only[bA,Bool.and_eq_true]at hk
  obtain⟨fz,cz,h1,h2,h3⟩:=hc
  exact⟨fz,cz,b5 h a fz hk.1 h1,b5 h b cz hk.2 h2,h3⟩
theorem b5 {ρ ρ':bI} (h:∀b o,ρ.aT b=some o→ρ'.aT b=some o):∀(l:List SV) (z:List (List Value)),aV l=true→au ρ l z→au ρ' l z
 |[],_,_,hz=>by simpa only[au]using hz
 |c::l,_,hk,hz=>by
  simp only[au]at hz ⊢
  simp only[aV,Bool.and_eq_true]at hk
  obtain⟨x,r,h1,h2,h3⟩:=hz
  exact⟨x,r,h1,lH h c x hk.1 h2,b5 h l r hk.2 h3⟩
end
theorem nc {ρ ρ':bI} (h:∀b o,ρ.aT b=some o→ρ'.aT b=some o) (c:SV) (v:Value) (hk:bA c=true) (hc:Has ρ c v):Has ρ' c v:=by
 cases c<;>simp only[Has]at hc ⊢
 case cC l=>obtain⟨z,h1,h2⟩:=hc;exact⟨z,b5 h l z (by simpa [bA]using hk) h1,h2⟩
 all_goals (obtain⟨x,h1,h2⟩:=hc;exact⟨x,lH h _ _ hk h1,h2⟩)
theorem ir.mono {i i':Nat→Option Obj} (h:∀b o,i b=some o→i' b=some o) (g:ir i):ir i':=fun n kd l hm=>by
 obtain⟨o,h1,h2⟩:=g n kd l hm
 exact⟨o,h _ _ h1,h2⟩
def cE (aT:Nat→Option Obj) (h:ir aT):bI:=⟨fun _=>none,aT,h⟩
theorem qZ {i i':Nat→Option Obj} (h:∀b o,i b=some o→i' b=some o) (g:ir i) (g':ir i'):(cE i g).Le (cE i' g'):=⟨(fun k x hx=>by cases hx),h⟩
theorem ow (ρ:bI) (g:ir ρ.aT):(cE ρ.aT g).Le ρ:=⟨(fun k x hx=>by cases hx),fun _ _ h=>h⟩
inductive Data where
 |one (cs:List SV)
 |ints (kd:IntKind) (xs:List Int)
 |cd (xs:List Rat)
 |seq (w:Nat) (xs:List SV)
 |dead
  |loop (rc:Loop)
def cQ (ρ:bI):Data→List Value→Prop
 |.one cs,vs=>∃z,au ρ cs z∧vs=z.flatten
 |.ints kd xs,vs=>vs=xs.map (.int kd)
 |.cd xs,vs=>vs=xs.flatMap bR
 |.seq w xs,vs=>∃z,au (cE ρ.aT ρ.b7) xs z∧vs=z.flatten∧∀x∈xs,x.width=w
 |.dead,_=>False
 |.loop _,vs=>vs=[]
def Data.empty:Data→Prop
 |.ints _ xs=>xs=[]
 |.cd xs=>xs=[]
 |.seq _ xs=>xs=[]
 |.one _=>False
 |.dead=>False
 |.loop _=>False
def Data.live:Data→Bool
 |.dead=>false
 |_=>true
theorem cQ.mono {ρ ρ':bI} (h:ρ.Le ρ') {d:Data} {vs:List Value} (hd:cQ ρ d vs):cQ ρ' d vs:=by
 cases d<;>simp only[cQ]at hd ⊢
 case one cs=>obtain⟨z,h1,h2⟩:=hd;exact⟨z,au.mono h _ _ h1,h2⟩
 case seq w xs=>obtain⟨z,h1,h2⟩:=hd;exact⟨z,au.mono (qZ h.aT _ _) _ _ h1,h2⟩
 all_goals exact hd
theorem cQ.wS {ρ:bI} {d:Data} {vs:List Value} (hd:cQ ρ d vs):∀v∈vs,v.oneCell'=true:=by
 cases d<;>simp only[cQ]at hd
 case one cs=>obtain⟨z,h1,rfl⟩:=hd;exact(au.len _ _ h1).2
 case seq w xs=>obtain⟨z,h1,rfl,_⟩:=hd;exact(au.len _ _ h1).2
 case ints kd xs=>subst hd;intro v hv;obtain⟨x,_,rfl⟩:=List.mem_map.1 hv;rfl
 case cd xs=>subst hd;intro v hv;obtain⟨x,_,hx⟩:=List.mem_flatMap.1 hv;exact(c9 x).2 v hx
 case loop rc=>subst hd;intro v hv;cases hv
structure aA where
 ty:TypeId
 wr:Bool
 data:Data
def Data.obj (d:Data) (l:List Value) (ty:TypeId):Obj:=match d with
 |.loop rc=>.loop rc
 |_=>.cells l.toArray ty (0,0)
def Data.ox:Data→Bool
 |.loop _=>true
 |_=>false
theorem Data.ck {d:Data} (h:d.ox=false) (l:List Value) (ty:TypeId):d.obj l ty= .cells l.toArray ty (0,0):=by
 cases d<;>first|rfl|(simp[Data.ox]at h)
theorem Data.jF {d:Data} {l:List Value} {ty:TypeId} {x:Option (List Deferred)}:d.obj l ty≠ .deferred x:=by
 cases d<;>simp[Data.obj]
def gK (ρ:bI) (w:World) (k:Nat) (blk:aA):Prop:=
 blk.data.live=false∨(∃b t vs ex,ρ.key k=some (b,t)∧w.heap[b]? =some (blk.data.obj (vs++ex) blk.ty)∧cQ ρ blk.data vs∧(vs++ex).length=t∧∀v∈ex,v.oneCell'=true)∨
 (ρ.key k=none∧blk.data.empty)
structure pY (W:Nat→Prop) (w w':World):Prop where
 os:w'.os=w.os
 tape:w'.tape=w.tape
 output:w'.output=w.output
 size:w.heap.size≤w'.heap.size
 block:∀b,b<w.heap.size→¬W b→w'.heap[b]? =w.heap[b]?
theorem pY.refl (W:Nat→Prop) (w:World):pY W w w:=⟨rfl,rfl,rfl,Nat.le_refl _,fun _ _ _=>rfl⟩
theorem pY.trans {W:Nat→Prop} {a b c:World} (h:pY W a b) (k:pY W b c):pY W a c:=
 ⟨k.os.trans h.os,k.tape.trans h.tape,k.output.trans h.output,Nat.le_trans h.size k.size,fun i hi hw=>(k.block i (Nat.lt_of_lt_of_le hi h.size) hw).trans (h.block i hi hw)⟩
theorem pY.mono {W W':Nat→Prop} {w w':World} (h:pY W w w') (hW:∀b,b<w.heap.size→W b→W' b):pY W' w w':=
 ⟨h.os,h.tape,h.output,h.size,fun b hb hn=>h.block b hb (fun hw=>hn (hW b hb hw))⟩
theorem pY.below {w w':World} (h:pY (fun _=>False) w w'):RowKit.Below w.heap.size w w':=⟨h.os,h.tape,h.output,h.size,fun k hk=>h.block k hk (fun h=>h)⟩
theorem pY.fH {W:Nat→Prop} {w w':World} (h:RowKit.Below w.heap.size w w'):pY W w w':=⟨h.os,h.tape,h.output,h.size,fun k hk _=>h.block k hk⟩
inductive Loc where
 |t (n:Nat)
 |k (n:Nat)
 deriving DecidableEq
inductive LV where
 |t (s:Option SV)
 |k (b:Option aA)
def LV.sv:LV→Option SV
 |.t s=>s
 |.k _=>none
def LV.blk:LV→Option aA
 |.k b=>b
 |.t _=>none
structure HpR (B:Nat) (W0:Nat→Prop) (ρ:bI) (s:Loc→LV) (w:World):Prop where
 blk:∀k b,(s (.k k)).blk=some b→gK ρ w k b
 sep:∀k k' x x' b b',ρ.key k=some x→ρ.key k'=some x'→k≠k'→x.1=x'.1→(s (.k k)).blk=some b→(s (.k k')).blk=some b'→b.data.live=true→b'.data.live=true→b.wr=false
 own:∀k b x,(s (.k k)).blk=some b→b.wr=true→b.data.live=true→ρ.key k=some x→B≤x.1∨W0 x.1
 ud:∀k x,ρ.key k=some x→∃b,(s (.k k)).blk=some b
 aT:∀b o,ρ.aT b=some o→w.heap[b]? =some o
 ep:∀k b x,(s (.k k)).blk=some b→b.wr=true→b.data.live=true→ρ.key k=some x→ρ.aT x.1=none
def mk1 (D:Nat):Deferred:={target:=.collected D,args:= #[]}
def Ks (B:Nat) (ρ:bI) (ds:List Deferred) (w:World):Prop:=
 ∃Ds:List Nat,ds=Ds.map mk1∧Ds.Nodup∧∀D∈Ds,B≤D∧w.heap[D]? =some (.deferred (some []))∧ρ.aT D=none
theorem Ks.nil {B:Nat} {ρ:bI} {w:World}:Ks B ρ [] w:=⟨[],rfl,.nil,fun _ h=>by cases h⟩
structure R (W0:Nat→Prop) (w0:World) (n:Nat) (ρ:bI) (s:Loc→LV) (a:Act) (w:World):Prop where
 defers:Ks w0.heap.size ρ a.defers w
 size:a.tmps.size=n
 fr:∀t sv,(s (.t t)).sv=some sv→Has ρ sv (a.tmps.getD t undef)
 bw:pY W0 w0 w
 hp:HpR w0.heap.size W0 ρ s w
structure jb (ρ:bI) (w:World) (val:SV) (new upd:List (Nat×aA)) (v:Value) (ρ':bI) (w':World):Prop where
 le:ρ.Le ρ'
 has:Has ρ' val v
 key:∀k,(∀b,(k,b)∉new)→ρ'.key k=ρ.key k
 bw:pY (fun b=>∃k blk t,(k,blk)∈upd∧ρ.key k=some (b,t)) w w'
 blk:∀k b,(k,b)∈upd∨(k,b)∈new→gK ρ' w' k b
 once:∀k b b',(k,b)∈upd→(k,b')∈upd→b.data.live=false→b'.data.live=true→False
 zi:∀k b x,(k,b)∈new→ρ'.key k=some x→w.heap.size≤x.1∨∃k0 b0 t,(k0,b0)∈upd∧b0.data.live=false∧ρ.key k0=some (x.1,t)
 Kt:∀k b k' b' x x',(k,b)∈new→(k',b')∈new→k≠k'→ρ'.key k=some x→ρ'.key k'=some x'→x.1≠x'.1
 aT:∀b o,ρ'.aT b=some o→ρ.aT b=some o∨(w.heap.size≤b∧w'.heap[b]? =some o∧∀k blk x,(k,blk)∈new→ρ'.key k=some x→x.1≠b)
structure Vl (ft:List (Nat×SV)) (fk:List (Nat×aA)) (new:List (Nat×aA)) (ρ:bI) (a:Act) (w:World):Prop where
 dj:∀t sv,(t,sv)∈ft→Has ρ sv (a.tmps.getD t undef)
 mj:∀k b,(k,b)∈fk→gK ρ w k b
 sep:∀k k' x x' b b',(k,b)∈fk→(k',b')∈fk→ρ.key k=some x→ρ.key k'=some x'→k≠k'→x.1=x'.1→b.data.live=true→b'.data.live=true→b.wr=false
 aT:∀b o,ρ.aT b=some o→w.heap[b]? =some o
 ep:∀k b x,(k,b)∈fk→b.wr=true→b.data.live=true→ρ.key k=some x→ρ.aT x.1=none
 fresh:∀k b,(k,b)∈new→ρ.key k=none
def goes (P:Program) (o:Oper) (a:Act) (w:World) (K:Act→World→Prop):Prop:=
 match (execOp a.eval o).run P w with
 |.ok (.value v) w'=>K (a.put o.dst v) w'
 |.ok .skip w'=>K (a.put o.dst undef) w'
 |.ok (.enter f args) w'=>Calls P f args w' fun e w''=>∃v,e= .returned v∧K (a.put o.dst v) w''
 |.ok (.round l f tmps assign body) w'=>RoundIn Fence.wide 0 P l f tmps assign body w' fun e w''=>∃v,e= .returned v∧K (a.put o.dst v) w''
 |_=>False
theorem ug {P:Program} {o:Oper} {a:Act} {w:World} {K K':Act→World→Prop} (h:∀a w,K a w→K' a w) (hh:goes P o a w K):goes P o a w K':=by
 unfold goes at*
 generalize (execOp a.eval o).run P w=r at*
 cases r with
 |ok n w'=>
  cases n<;>simp only at hh ⊢<;>
   first
    |exact h _ _ hh
    |exact hh.mono (fun e w'' he=>let ⟨v,h1,h2⟩:=he;⟨v,h1,h _ _ h2⟩)
    |exact hh
 |halt x w'=>exact hh
def Kc (ro:Option Nat):Fence:={Fence.wide with round:=ro}
theorem zK {ro:Option Nat} {P:Program} {o:Oper} {a:Act} {w:World} {K:Act→World→Prop} {Q:Exit→Act→World→Prop} (h:goes P o a w K):o.wpIn (Kc ro) 0 P a w K Q:=by
 have hd:∀c,o.op≠ .defer c:=by
  intro c hc
  unfold goes at h
  simp only[execOp,hc,Sem.run_bind]at h
  cases hr:(resolve a.eval c o.type).run P w with
  |ok d w'=>rw[hr]at h;simp[Result.andThen]at h
  |halt x w'=>rw[hr]at h;simp[Result.andThen]at h
 refine⟨fun _ _=>trivial, ?_⟩
 rw[Oper.semAt_eq _ _ _ hd]
 unfold goes at h
 generalize (execOp a.eval o).run P w=r at*
 cases r with
 |ok n w'=>
  cases n<;>simp only[Oper.uponIn]at h ⊢<;>try exact h
  ·refine⟨(fun hx=>by cases hx), ?_⟩
   have:=callsIn_wide (n:=0).2 h
   refine CallsIn.mono (F:=Kc ro) (show CallsIn (Kc ro) 0 _ _ _ _ _ from this) ?_
   rintro e w'' ⟨v,rfl,hk⟩
   exact hk
  ·refine⟨(fun hx=>by cases hx), ?_⟩
   refine RoundIn.mono (F:=Kc ro) (show RoundIn (Kc ro) 0 _ _ _ _ _ _ _ _ from h) ?_
   rintro e w'' ⟨v,rfl,hk⟩
   exact hk
 |halt x w'=>exact h.elim
def bL (P:Program) (o:Oper) (ft:List (Nat×SV)) (fk:List (Nat×aA)) (val:SV) (new upd:List (Nat×aA)):Prop:=
 ∀ρ a w,Vl ft fk new ρ a w→goes P o a w (fun a' w'=>∃v ρ',a'=a.put o.dst v∧jb ρ w val new upd v ρ' w')
def find (l:List (Nat×aA)) (k:Nat):Option aA:=match l with
 |[]=>none
 |(j,b)::r=>match Nat.beq j k with|true=>some b|false=>find r k
theorem jc:∀{l:List (Nat×aA)} {k:Nat} {b:aA},find l k=some b→(k,b)∈l
 |(j,b')::r,k,b,h=>by
  unfold find at h
  split at h
  ·rename_i hj
   obtain rfl:j=k:=Nat.eq_of_beq_eq_true hj
   cases h
   exact List.mem_cons_self ..
  ·exact List.mem_cons_of_mem _ (jc h)
theorem po:∀{l:List (Nat×aA)} {k:Nat},find l k=none→∀b,(k,b)∉l
 |[],_,_,_,hm=>by cases hm
 |(j,b')::r,k,h,b,hm=>by
  unfold find at h
  split at h
  ·cases h
  ·rename_i hj
   rcases List.mem_cons.1 hm with h1|h1
   ·cases h1
    simp[Nat.beq_refl]at hj
   ·exact po h b h1
def lay (dst:Option Tmp) (val:SV) (ks:List (Nat×aA)) (s:Loc→LV):Loc→LV
 |.t n=>if dst=some n then .t (some val)else s (.t n)
 |.k n=>match find ks n with
  |some b=>.k (some b)
  |none=>s (.k n)
theorem Ku {dst:Option Tmp} {val:SV} {new upd:List (Nat×aA)} {W0:Nat→Prop} {w0:World} {n:Nat} {ρ:bI} {s:Loc→LV} {a:Act} {w:World} (h:R W0 w0 n ρ s a w)
  (eO:∀k b,(k,b)∈new→(s (.k k)).blk=none) (lI:∀k b,(k,b)∈upd→∃b0,(s (.k k)).blk=some b0∧b0.wr=true∧b0.data.live=true∧b.wr=true)
  (hdst:∀d,dst=some d→d<n) {v:Value} {ρ':bI} {w':World} (hp:jb ρ w val new upd v ρ' w'):
  ρ.Le ρ'∧(∀k,(s (.k k)).blk≠none→ρ'.key k=ρ.key k)∧(∀b o,ρ'.aT b=some o→ρ.aT b=some o∨w0.heap.size≤b)∧R W0 w0 n ρ' (lay dst val (upd++new) s) (a.put dst v) w':=by
 have dd:∀k b,(k,b)∈new→ρ.key k=none:=by
  intro k b hk
  cases hx:ρ.key k with
  |none=>rfl
  |some x=>
   obtain⟨b',fV⟩:=h.hp.ud k x hx
   rw[eO k b hk]at fV
   cases fV
 have Pr:∀k b x,(s (.k k)).blk=some b→b.data.live=true→ρ.key k=some x→x.1<w.heap.size:=by
  intro k b x hb hl hx
  rcases h.hp.blk k b hb with h0|⟨b',t,vs,ex,h1,h2,_⟩|⟨h1,_⟩
  ·rw[hl]at h0;cases h0
  ·rw[hx]at h1;cases h1
   rcases Nat.lt_or_ge b' w.heap.size with h'|h'
   ·exact h'
   ·simp[Array.getElem?_eq_none h']at h2
  ·rw[hx]at h1;cases h1
 have bJ:∀k x,ρ'.key k=some x→(∃b,(k,b)∈new)∨((∀b,(k,b)∉new)∧ρ.key k=some x):=by
  intro k x hx
  rcases Classical.em (∃b,(k,b)∈new)with hk|hk
  ·exact .inl hk
  ·have kE:∀b,(k,b)∉new:=fun b hb=>hk ⟨b,hb⟩
   rw[hp.key k kE]at hx
   exact .inr ⟨kE,hx⟩
 have wT:∀k b,find (upd++new) k=some b→(k,b)∈upd∨(k,b)∈new:=fun k b hf=>List.mem_append.1 (jc hf)
 have vQ:∀k,find (upd++new) k=none→(∀b,(k,b)∉upd)∧(∀b,(k,b)∉new):=fun k hf=>
  ⟨fun b hb=>po hf b (List.mem_append.2 (.inl hb)),fun b hb=>po hf b (List.mem_append.2 (.inr hb))⟩
 have eI:∀k b,(lay dst val (upd++new) s (.k k)).blk=some b→(k,b)∈upd∨(k,b)∈new∨((∀b,(k,b)∉upd)∧(∀b,(k,b)∉new)∧(s (.k k)).blk=some b):=by
  intro k b hb
  simp only[lay]at hb
  cases hf:find (upd++new) k with
  |some b'=>
   rw[hf]at hb
   cases hb
   rcases wT k _ hf with h1|h1
   ·exact .inl h1
   ·exact .inr (.inl h1)
  |none=>
   rw[hf]at hb
   exact .inr (.inr ⟨(vQ k hf).1,(vQ k hf).2,hb⟩)
 have agd:∀k b,(k,b)∈upd→∀b',(k,b')∉new:=fun k b hu b' hn=>by
  obtain⟨b0,h1,_⟩:=lI k b hu
  rw[eO k b' hn]at h1;cases h1
 have Ps:∀k b x,(s (.k k)).blk=some b→b.data.live=true→ρ.key k=some x→(∀b,(k,b)∉upd)→¬∃k' blk t,(k',blk)∈upd∧ρ.key k'=some (x.1,t):=by
  rintro k b x hb hl hx hku ⟨k',blk,t,hu,kE⟩
  obtain⟨b0,h1,h2,h3,_⟩:=lI k' blk hu
  have a7:k'≠k:=fun he=>hku blk (he▸hu)
  have:=h.hp.sep k' k (x.1,t) x b0 b kE hx a7 rfl h1 hb h3 hl
  rw[h2]at this;cases this
 have zL:∀k b,(k,b)∈upd→∀x,ρ.key k=some x→∀k2 b2 x2,(s (.k k2)).blk=some b2→b2.data.live=true→ρ.key k2=some x2→x2.1=x.1→k2=k:=by
  intro k b hu x hx k2 b2 x2 hb2 gI Kv he
  refine Classical.byContradiction fun a7=> ?_
  obtain⟨b0,h1,h2,h3,_⟩:=lI k b hu
  have:=h.hp.sep k k2 x x2 b0 b2 hx Kv (fun h=>a7 h.symm) he.symm h1 hb2 h3 gI
  rw[h2]at this;cases this
 have ac0:pY W0 w0 w':=by
  refine⟨hp.bw.os.trans h.bw.os,hp.bw.tape.trans h.bw.tape,hp.bw.output.trans h.bw.output,Nat.le_trans h.bw.size hp.bw.size,fun b hb hw=> ?_⟩
  rw[hp.bw.block b (Nat.lt_of_lt_of_le hb h.bw.size) ?_,h.bw.block b hb hw]
  rintro⟨k,blk,t,hu,hk⟩
  obtain⟨b0,h1,h2,h3,_⟩:=lI k blk hu
  rcases h.hp.own k b0 _ h1 h2 h3 hk with h3|h3
  ·simp at h3;omega
  ·exact hw h3
 refine⟨hp.le,fun k hk=>hp.key k (fun b hb=>hk (eO k b hb)),fun b o hb=>(hp.aT b o hb).imp id (fun h1=>Nat.le_trans h.bw.size h1.1), ?_⟩
 refine {defers:= ?_,size:= ?_,fr:= ?_,bw:=ac0,hp:= ?_}
 ·have hpd:(a.put dst v).defers=a.defers:=by cases hd:dst<;>simp[Act.put]
  rw[hpd]
  obtain⟨Ds,d1,d2,d3⟩:=h.defers
  refine⟨Ds,d1,d2,fun D hD=> ?_⟩
  obtain⟨e1,e2,e3⟩:=d3 D hD
  have aI:D<w.heap.size:=(Array.getElem?_eq_some_iff.1 e2).1
  refine⟨e1, ?_, ?_⟩
  ·rw[hp.bw.block D aI ?_,e2]
   rintro⟨k,blk,t,hu,hk⟩
   obtain⟨b0,h1,h2,h3,_⟩:=lI k blk hu
   rcases h.hp.blk k b0 h1 with h4|⟨b',t',vs,ex,h4,h5,_⟩|⟨h4,_⟩
   ·rw[h3]at h4;cases h4
   ·rw[hk]at h4;cases h4;rw[e2]at h5;exact Data.jF (Option.some.inj h5).symm
   ·rw[hk]at h4;cases h4
  ·cases hx:ρ'.aT D with
   |none=>rfl
   |some o=>
    rcases hp.aT D o hx with h4|⟨h4,_⟩
    ·rw[e3]at h4;cases h4
    ·omega
 ·cases hd:dst<;>simp[Act.put,h.size]
 ·intro t sv ht
  simp only[lay]at ht
  by_cases hd:dst=some t
  ·rw[if_pos hd]at ht
   cases ht
   have:(a.put dst v).tmps.getD t undef=v:=by
    have:=hdst t hd
    simp[Act.put,hd,h.size,this]
   rw[this];exact hp.has
  ·rw[if_neg hd]at ht
   have:(a.put dst v).tmps.getD t undef=a.tmps.getD t undef:=by
    cases Fv:dst with
    |none=>rfl
    |some d=>
     have a7:d≠t:=fun he=>hd (by rw[Fv,he])
     simp[Act.put,Array.getElem?_setIfInBounds_ne a7]
   rw[this];exact Has.mono hp.le _ _ (h.fr t sv ht)
 ·constructor
  ·-- blk
   intro k b hb
   rcases eI k b hb with h1|h1|⟨h1,h2,h3⟩
   ·exact hp.blk k b (.inl h1)
   ·exact hp.blk k b (.inr h1)
   ·rcases h.hp.blk k b h3 with g0|⟨b',t,vs,ex,g1,g2,g3,g4,g5⟩|⟨g1,g2⟩
    ·exact .inl g0
    ·cases hl:b.data.live with
     |false=>exact .inl hl
     |true=>
      refine .inr (.inl ⟨b',t,vs,ex,hp.le.key _ _ g1, ?_,g3.mono hp.le,g4,g5⟩)
      rw[hp.bw.block b' (Pr k b (b',t) h3 hl g1) (Ps k b (b',t) h3 hl g1 h1)]
      exact g2
    ·exact .inr (.inr ⟨by rw[hp.key k h2];exact g1,g2⟩)
  ·-- sep
   intro k k' x x' b b' hx pZ a7 he hb fV hl ql
   have mixed:∀k k' x x' b b',ρ'.key k=some x→ρ.key k'=some x'→x.1=x'.1→(k,b)∈new→(∀b,(k',b)∉new)→(lay dst val (upd++new) s (.k k')).blk=some b'→b'.data.live=true→False:=by
    intro k k' x x' b b' hx pZ he hn hn' fV ql
    have hold:∃b2,(s (.k k')).blk=some b2∧b2.data.live=true:=by
     rcases eI k' b' fV with h1|h1|⟨_,_,h3⟩
     ·obtain⟨b0,g1,_,g3,_⟩:=lI k' b' h1
      exact⟨b0,g1,g3⟩
     ·exact absurd h1 (hn' b')
     ·exact⟨b',h3,ql⟩
    obtain⟨b2,e1,e2⟩:=hold
    rcases hp.zi k b x hn hx with h1|⟨k0,b0,t,g1,g2,g3⟩
    ·have:=Pr k' b2 x' e1 e2 pZ
     omega
    ·have:=zL k0 b0 g1 _ g3 k' b2 x' e1 e2 pZ he.symm
     subst this
     rcases eI k' b' fV with h1|h1|⟨h1,_,_⟩
     ·-- updated twice: the first found wins; it is live, so it is not the dead one alone
      have hf:find (upd++new) k'=some b':=by
       simp only[lay]at fV
       cases hf:find (upd++new) k' with
       |some b3=>rw[hf]at fV;simp only[LV.blk,Option.some.injEq]at fV;rw[fV]
       |none=>exact absurd g1 ((vQ k' hf).1 b0)
      exact hp.once k' b0 b' g1 h1 g2 ql
     ·exact absurd h1 (hn' b')
     ·exact absurd g1 (h1 b0)
   rcases bJ k x hx with⟨bk,hk⟩|⟨p9,hk⟩
   ·rcases bJ k' x' pZ with⟨bk',kE⟩|⟨hkn',kE⟩
    ·exact absurd he (hp.Kt k bk k' bk' x x' hk kE a7 hx pZ)
    ·exact(mixed k k' x x' bk b' hx kE he hk hkn' fV ql).elim
   ·rcases bJ k' x' pZ with⟨bk',kE⟩|⟨hkn',kE⟩
    ·exact(mixed k' k x' x bk' b pZ hk he.symm kE p9 hb hl).elim
    ·have hold:∀k b,(∀b,(k,b)∉new)→(lay dst val (upd++new) s (.k k)).blk=some b→b.data.live=true→∃b2,(s (.k k)).blk=some b2∧b2.data.live=true∧(b2.wr=b.wr∨b2.wr=true):=by
      intro k b hn hb hl
      rcases eI k b hb with h1|h1|⟨_,_,h3⟩
      ·obtain⟨b0,g1,g2,g3,_⟩:=lI k b h1
       exact⟨b0,g1,g3,.inr g2⟩
      ·exact absurd h1 (hn b)
      ·exact⟨b,h3,hl,.inl rfl⟩
     obtain⟨b2,e1,e2,e3⟩:=hold k b p9 hb hl
     obtain⟨b2',e1',e2',_⟩:=hold k' b' hkn' fV ql
     have:=h.hp.sep k k' x x' b2 b2' hk kE a7 he e1 e1' e2 e2'
     rcases e3 with e3|e3
     ·rw[←e3];exact this
     ·rw[this]at e3;cases e3
  ·-- own
   intro k b x hb hw hl hx
   rcases eI k b hb with h1|h1|⟨h1,h2,h3⟩
   ·obtain⟨b0,g1,g2,g3,_⟩:=lI k b h1
    have Kd:ρ.key k=some x:=by
     rcases bJ k x hx with⟨bk,hk⟩|⟨_,hk⟩
     ·rw[eO k bk hk]at g1;cases g1
     ·exact hk
    exact h.hp.own k b0 x g1 g2 g3 Kd
   ·rcases hp.zi k b x h1 hx with h4|⟨k0,b0,t,g1,g2,g3⟩
    ·exact .inl (Nat.le_trans h.bw.size h4)
    ·obtain⟨b1,e1,e2,e3,_⟩:=lI k0 b0 g1
     exact h.hp.own k0 b1 (x.1,t) e1 e2 e3 g3
   ·rw[hp.key k h2]at hx
    exact h.hp.own k b x h3 hw hl hx
  ·-- dom
   intro k x hx
   simp only[lay]
   cases hf:find (upd++new) k with
   |some b=>exact⟨b,rfl⟩
   |none=>
    rw[hp.key k (vQ k hf).2]at hx
    exact h.hp.ud k x hx
  ·-- imm
   intro b ob hb
   rcases hp.aT b ob hb with h1|⟨_,h1,_⟩
   ·have h2:=h.hp.aT b ob h1
    have aI:b<w.heap.size:=by
     rcases Nat.lt_or_ge b w.heap.size with h'|h'
     ·exact h'
     ·simp[Array.getElem?_eq_none h']at h2
    rw[hp.bw.block b aI ?_]
    ·exact h2
    ·rintro⟨k,blk,t,hu,hk⟩
     obtain⟨b0,g1,g2,g3,_⟩:=lI k blk hu
     have:=h.hp.ep k b0 _ g1 g2 g3 hk
     rw[h1]at this;cases this
   ·exact h1
  ·-- immw
   intro k b x hb hw hl hx
   cases hi:ρ'.aT x.1 with
   |none=>rfl
   |some ob=>
    exfalso
    rcases eI k b hb with h1|h1|⟨h1,h2,h3⟩
    ·obtain⟨b0,g1,g2,g3,_⟩:=lI k b h1
     have Kd:ρ.key k=some x:=by
      rcases bJ k x hx with⟨bk,hk⟩|⟨_,hk⟩
      ·rw[eO k bk hk]at g1;cases g1
      ·exact hk
     rcases hp.aT _ _ hi with h4|⟨h4,_⟩
     ·have:=h.hp.ep k b0 x g1 g2 g3 Kd
      rw[h4]at this;cases this
     ·have:=Pr k b0 x g1 g3 Kd
      omega
    ·rcases hp.aT _ _ hi with h4|⟨h6,_,h4⟩
     ·have h5:=h.hp.aT _ _ h4
      rcases hp.zi k b x h1 hx with h7|⟨k0,b0,t,g1,g2,g3⟩
      ·simp[Array.getElem?_eq_none h7]at h5
      ·obtain⟨b1,e1,e2,e3,_⟩:=lI k0 b0 g1
       have:=h.hp.ep k0 b1 _ e1 e2 e3 g3
       rw[h4]at this;cases this
     ·exact h4 k b x h1 hx rfl
    ·rw[hp.key k h2]at hx
     rcases hp.aT _ _ hi with h4|⟨h4,_⟩
     ·have:=h.hp.ep k b x h3 hw hl hx
      rw[h4]at this;cases this
     ·have:=Pr k b x h3 hl hx
      omega
theorem Kw {P:Program} {o:Oper} {ft:List (Nat×SV)} {fk:List (Nat×aA)} {val:SV} {new upd:List (Nat×aA)}
  (hop:bL P o ft fk val new upd) {W0:Nat→Prop} {w0:World} {n:Nat} {ρ:bI} {s:Loc→LV} {a:Act} {w:World} (h:R W0 w0 n ρ s a w)
  (dj:∀t sv,(t,sv)∈ft→(s (.t t)).sv=some sv) (mj:∀k b,(k,b)∈fk→(s (.k k)).blk=some b)
  (eO:∀k b,(k,b)∈new→(s (.k k)).blk=none) (hupd:∀k b,(k,b)∈upd→∃b0,(k,b0)∈fk∧b0.wr=true∧b0.data.live=true∧b.wr=true)
  (hdst:∀d,o.dst=some d→d<n):
  goes P o a w (fun a' w'=>∃ρ',ρ.Le ρ'∧(∀k,(s (.k k)).blk≠none→ρ'.key k=ρ.key k)∧(∀b o,ρ'.aT b=some o→ρ.aT b=some o∨w0.heap.size≤b)∧R W0 w0 n ρ' (lay o.dst val (upd++new) s) a' w'):=by
 have dd:∀k b,(k,b)∈new→ρ.key k=none:=by
  intro k b hk
  cases hx:ρ.key k with
  |none=>rfl
  |some x=>
   obtain⟨b',fV⟩:=h.hp.ud k x hx
   rw[eO k b hk]at fV
   cases fV
 have Bk:Vl ft fk new ρ a w:={
  dj:=fun t sv ht=>h.fr t sv (dj t sv ht)
  mj:=fun k b hk=>h.hp.blk k b (mj k b hk)
  sep:=fun k k' x x' b b' hk kE hx pZ a7 he=>h.hp.sep k k' x x' b b' hx pZ a7 he (mj k b hk) (mj k' b' kE)
  aT:=h.hp.aT
  ep:=fun k b x hk hw hl hx=>h.hp.ep k b x (mj k b hk) hw hl hx
  fresh:=dd}
 have lI:∀k b,(k,b)∈upd→∃b0,(s (.k k)).blk=some b0∧b0.wr=true∧b0.data.live=true∧b.wr=true:=fun k b hk=>by
  obtain⟨b0,h1,h2,h3,h4⟩:=hupd k b hk
  exact⟨b0,mj k b0 h1,h2,h3,h4⟩
 refine ug ?_ (hop ρ a w Bk)
 rintro a' w' ⟨v,ρ',rfl,hp⟩
 exact⟨ρ',Ku h eO lI hdst hp⟩
end Go.Sx
namespace Go.Sx
def expand:SV→Option (List SV)
 |.nat n=>some [.val (.int .u64 (low n)),.val (.string (pX n))]
 |.int z=>some [.nat z.natAbs,.val (.bool (decide (z<0)))]
 |.frac q=>some [.int q.num,.nat (q.den - 1)]
 |.agg cs=>some cs
 |_=>none
theorem cI {ρ:bI}:∀{l r:List SV} {z y:List (List Value)},au ρ l z→au ρ r y→au ρ (l++r) (z++y)
 |[],r,z,y,h,h'=>by simp only[au]at h;subst h;exact h'
 |c::l,r,z,y,h,h'=>by
  simp only[au]at h
  obtain⟨x,t,rfl,h1,h2⟩:=h
  simp only[List.cons_append,au]
  exact⟨x,t++y,rfl,h1,cI h2 h'⟩
theorem FG {ρ:bI} {c:SV} {l:List SV} {x:List Value} (he:expand c=some l) (h:aG ρ c x):∃z,au ρ l z∧x=z.flatten:=by
 cases c<;>simp only[expand,Option.some.injEq,reduceCtorEq]at he
 case nat n=>
  subst he
  simp only[aG]at h
  refine⟨[[.int .u64 (low n)],[.string (pX n)]], ?_, ?_⟩
  ·simp[au,aG,Value.oneCell']
  ·rw[h];rfl
 case int z=>
  subst he
  simp only[aG]at h
  refine⟨[bH z.natAbs,[.bool (decide (z<0))]], ?_, ?_⟩
  ·simp[au,aG,Value.oneCell']
  ·rw[h];rfl
 case frac q=>
  subst he
  simp only[aG]at h
  refine⟨[dv q.num,bH (q.den - 1)], ?_, ?_⟩
  ·simp[au,aG]
  ·rw[h];simp[bR]
 case agg cs=>
  subst he
  simpa only[aG]using h
def sub:Nat→List SV→Nat→Nat→Option (List SV)
 |0,_,_,_=>none
 |f+1,cs,off,w=>
  match w with
  |0=>some []
  |w'+1=>
   match cs with
   |[]=>none
   |c::r=>
    match Nat.ble c.width off with
    |true=>sub f r (off - c.width) (w'+1)
    |false=>
     match off with
     |0=>
      match Nat.ble c.width (w'+1)with
      |true=>
       match sub f r 0 (w'+1 - c.width)with
       |some l=>some (c::l)
       |none=>none
      |false=>
       match expand c with
       |some l=>sub f (l++r) 0 (w'+1)
       |none=>none
     |o'+1=>
      match expand c with
      |some l=>sub f (l++r) (o'+1) (w'+1)
      |none=>none
theorem q7 {ρ:bI}:∀(f:Nat) (cs:List SV) (off w:Nat) (l:List SV) (z:List (List Value)),sub f cs off w=some l→au ρ cs z→
  ∃y,au ρ l y∧y.flatten=(z.flatten.drop off).take w∧(w=0∨off+w≤z.flatten.length):=by
 intro f
 induction f with
 |zero=>intro cs off w l z h;simp[sub]at h
 |succ f ih=>
  intro cs off w l z h hz
  unfold sub at h
  cases w with
  |zero=>simp at h;subst h;exact⟨[],by simp[au],by simp,.inl rfl⟩
  |succ w'=>
   simp only at h
   cases cs with
   |nil=>simp at h
   |cons c r=>
    simp only at h
    simp only[au]at hz
    obtain⟨x,t,rfl,hx,ht⟩:=hz
    have hlen:=(aG.len c x hx).1
    cases hb:Nat.ble c.width off with
    |true=>
     rw[hb]at h
     have hle:=Nat.le_of_ble_eq_true hb
     obtain⟨y,h1,h2,h3⟩:=ih r (off - c.width) (w'+1) l t h ht
     refine⟨y,h1, ?_, ?_⟩
     ·rw[h2]
      congr 1
      simp only[List.flatten_cons]
      have Kx:x.length≤off:=aa
      rw[List.drop_append,List.drop_eq_nil_of_le Kx,hlen]
      simp
     ·simp only[List.flatten_cons,List.length_append]
      omega
    |false=>
     rw[hb]at h
     have Sw:¬c.width≤off:=fun hle=>by rw[Nat.ble_eq_true_of_le hle]at hb;cases hb
     have ac1:∀o',(match expand c with|some l'=>sub f (l'++r) o' (w'+1)|none=>none)=some l→∃y,au ρ l y∧y.flatten=((x::t).flatten.drop o').take (w'+1)∧(w'+1=0∨o'+(w'+1)≤(x::t).flatten.length):=by
      intro o' h
      cases he:expand c with
      |none=>rw[he]at h;simp at h
      |some l'=>
       rw[he]at h
       obtain⟨zc,h1,rfl⟩:=FG he hx
       obtain⟨y,h2,h3,h4⟩:=ih (l'++r) o' (w'+1) l (zc++t) h (cI h1 ht)
       exact⟨y,h2,by rw[h3];simp,by simpa using h4⟩
     cases off with
     |succ o'=>exact ac1 (o'+1) h
     |zero=>
      simp only at h
      cases hb2:Nat.ble c.width (w'+1)with
      |false=>rw[hb2]at h;exact ac1 0 h
      |true=>
       rw[hb2]at h
       have hle:=Nat.le_of_ble_eq_true hb2
       cases hs:sub f r 0 (w'+1 - c.width)with
       |none=>rw[hs]at h;simp at h
       |some l'=>
        rw[hs]at h
        simp at h
        subst h
        obtain⟨y,h1,h2,h3⟩:=ih r 0 (w'+1 - c.width) l' t hs ht
        refine⟨x::y,by simp only[au];exact⟨x,y,rfl,hx,h1⟩, ?_, ?_⟩
        ·simp only[List.flatten_cons,List.drop_zero]at h2 ⊢
         have Kx:x.length≤w'+1:=aa
         rw[h2,List.take_append,List.take_of_length_le Kx,hlen]
        ·simp only[List.flatten_cons,List.length_append]
         omega
def put (f:Nat) (cs:List SV) (off w:Nat) (new:List SV):Option (List SV):=
 match sub f cs 0 off,sub f cs (off+w) (SV.cu cs - (off+w))with
 |some a,some b=>some (a++(new++b))
 |_,_=>none
theorem Bl {ρ:bI} {f:Nat} {cs new l:List SV} {off w:Nat} {z y:List (List Value)} (h:put f cs off w new=some l) (hz:au ρ cs z) (hy:au ρ new y):
  ∃t,au ρ l t∧t.flatten=z.flatten.take off++y.flatten++z.flatten.drop (off+w):=by
 unfold put at h
 cases ha:sub f cs 0 off with
 |none=>rw[ha]at h;simp at h
 |some a=>
  cases hb:sub f cs (off+w) (SV.cu cs - (off+w))with
  |none=>rw[ha,hb]at h;simp at h
  |some b=>
   rw[ha,hb]at h
   simp at h
   subst h
   obtain⟨ya,h1,h2,_⟩:=q7 f cs 0 off a z ha hz
   obtain⟨yb,h3,h4,_⟩:=q7 f cs (off+w) _ b z hb hz
   refine⟨ya++(y++yb),cI h1 (cI hy h3), ?_⟩
   have hl:=(au.len cs z hz).1
   simp only[List.flatten_append,h2,h4,List.drop_zero,List.append_assoc]
   congr 2
   rw[List.take_of_length_le (by rw[List.length_drop,hl];exact Nat.le_refl _)]
inductive TK where
 |bool
 |int (k:IntKind)
 |str
 |agg (fields:List (Nat×TypeId×Nat))
 |arr (n:Nat) (e:TypeId)
 |aK (e:TypeId)
 |ptr (e:TypeId)
 |other
structure TI where
 kind:TK
 size:Nat
 bytes:Nat
 zero:List SV
def TK.isAgg:TK→Bool
 |.agg _|.arr _ _=>true
 |_=>false
def TK.ok (P:Program) (t:TypeId):TK→Prop
 |.bool=>P.underlying t=some .bool
 |.int k=>P.underlying t=some (.int k)
 |.str=>P.underlying t=some .string
 |.agg fs=>P.underlying t=some (.struct (P.fieldsOf t))∧(P.fieldsOf t).toList.map (fun f=>(f.offset,f.type,P.cellsOf f.type))=fs∧(P.fieldsOf t).toList.all (fun f=>(P.info? f.type).isSome)=true
 |.arr n e=>P.underlying t=some (.array n e)
 |.aK e=>P.underlying t=some (.slice e)
 |.ptr e=>P.underlying t=some (.pointer e)
 |.other=>∃d,P.underlying t=some d∧(match d with|.struct _|.array _ _=>true|_=>false)=false
def eP:SV→List Value
 |.val v=>[v]
 |.nat n=>bH n
 |.int z=>dv z
 |.frac q=>bR q
 |_=>[]
def Vm:SV→Bool
 |.val v=>v.oneCell'
 |.nat _|.int _|.frac _=>true
 |_=>false
structure aE (P:Program) (t:TypeId) (ti:TI):Prop where
 kind:ti.kind.ok P t
 info:∃i z,P.info? t=some i∧i.size=ti.size∧i.bytes=ti.bytes∧i.zero=some z∧z.cells.toList=ti.zero.flatMap eP∧ti.zero.all Vm=true∧(z.cells.size=ti.size)∧z=(if ti.kind.isAgg then .agg z.cells else z.cells.getD 0 undef)
def df (T:List (TypeId×TI)) (t:TypeId):Option TI:=match T with
 |[]=>none
 |(u,ti)::r=>match Nat.beq u t with|true=>some ti|false=>df r t
def db (P:Program):List (TypeId×TI)→Prop
 |[]=>True
 |(t,ti)::r=>aE P t ti∧db P r
theorem db.get {P:Program}:∀{T:List (TypeId×TI)} {t:TypeId} {ti:TI},db P T→df T t=some ti→aE P t ti
 |(u,ti')::r,t,ti,h,hf=>by
  unfold df at hf
  split at hf
  ·rename_i hu
   obtain rfl:u=t:=Nat.eq_of_beq_eq_true hu
   cases hf
   exact h.1
  ·exact db.get h.2 hf
theorem aE.of {P:Program} {t:TypeId} {ti:TI} {z:Value} (hk:ti.kind.ok P t) (h1:(P.info? t).map (fun i=>(i.size,i.bytes,i.zero))=some (ti.size,ti.bytes,some z))
  (h2:z.cells.toList=ti.zero.flatMap eP) (h3:ti.zero.all Vm=true) (h4:z.cells.size=ti.size) (h5:z=(if ti.kind.isAgg then .agg z.cells else z.cells.getD 0 undef)):aE P t ti:=by
 refine⟨hk, ?_⟩
 cases hi:P.info? t with
 |none=>rw[hi]at h1;simp at h1
 |some i=>
  rw[hi]at h1
  simp only[Option.map_some,Option.some.injEq,Prod.mk.injEq]at h1
  exact⟨i,z,rfl,h1.1,h1.2.1,h1.2.2,h2,h3,h4,h5⟩
theorem zN {ρ:bI} {c:SV} (h:Vm c=true):aG ρ c (eP c):=by
 cases c<;>simp[Vm]at h<;>simp[aG,eP,h]
theorem dF {ρ:bI}:∀{l:List SV},l.all Vm=true→au ρ l (l.map eP)
 |[],_=>by simp[au]
 |c::l,h=>by
  simp only[List.all_cons,Bool.and_eq_true]at h
  simp only[List.map_cons,au]
  exact⟨_,_,rfl,zN h.1,dF h.2⟩
theorem aE.isAgg {P:Program} {t:TypeId} {ti:TI} (h:aE P t ti) (w:World):(Go.isAgg t).run P w= .ok ti.kind.isAgg w:=by
 unfold Go.isAgg
 rw[Sem.run_bind]
 have hk:=h.kind
 cases zO:ti.kind<;>rw[zO]at hk<;>simp only[TK.ok]at hk
 case other=>obtain⟨d,h1,h2⟩:=hk;rw[run_underlying h1];cases d<;>simp_all [TK.isAgg]
 case agg fs=>rw[run_underlying hk.1];rfl
 all_goals (rw[run_underlying hk];rfl)
theorem aE.sizeOf {P:Program} {t:TypeId} {ti:TI} (h:aE P t ti) (w:World):(Go.sizeOf t).run P w= .ok ti.size w:=by
 obtain⟨i,z,h1,h2,_⟩:=h.info
 simp[Go.sizeOf,typeInfo,h1,h2]
theorem aE.zeroValue {P:Program} {t:TypeId} {ti:TI} (h:aE P t ti):∃z,(∀w,(Go.zeroValue t).run P w= .ok z w)∧z.cells.toList=ti.zero.flatMap eP:=by
 obtain⟨i,z,h1,h2,h3,h4,h5,_⟩:=h.info
 exact⟨z,fun w=>by simp[Go.zeroValue,typeInfo,h1,h4],h5⟩
def oy:SV→Option (List SV)
 |.any=>none
 |.cC _=>none
 |.agg cs=>some cs
 |c=>some [c]
theorem jW {ρ:bI} {c:SV} {l:List SV} {v:Value} (h:oy c=some l) (hv:Has ρ c v):∃z,au ρ l z∧v.cells.toList=z.flatten:=by
 have one:∀c:SV,∀x,aG ρ c x→c.width=1→c.aU=true→(ct c x).cells.toList=x:=by
  intro c x hx hw h1
  obtain⟨h2,h3⟩:=aG.len c x hx
  rw[hw]at h2
  match x,h2 with
  |[v],_=>
   have:=h3 v (by simp)
   simp only[ct,h1,if_true,List.headD_cons]
   cases v<;>simp_all [Value.cells,Value.oneCell']
 have many:∀c:SV,∀x:List Value,c.aU=false→(ct c x).cells.toList=x:=by
  intro c x h1
  simp[ct,h1,Value.cells]
 have ac2:∀c:SV,∀x,aG ρ c x→au ρ [c] [x]:=fun c x hx=>by simp only[au];exact⟨x,[],rfl,hx,rfl⟩
 cases c<;>simp only[oy,Option.some.injEq,reduceCtorEq]at h<;>subst h<;>simp only[Has]at hv
 case agg cs=>
  obtain⟨x,h1,rfl⟩:=hv
  simp only[aG]at h1
  obtain⟨z,h2,rfl⟩:=h1
  exact⟨z,h2,by simp[ct,SV.aU,Value.cells]⟩
 case atom p=>
  obtain⟨x,h1,rfl⟩:=hv
  refine⟨[x],ac2 _ _ h1, ?_⟩
  simp only[List.flatten_cons,List.flatten_nil,List.append_nil]
  cases hb:p.bare with
  |true=>exact one (.atom p) x h1 (by simp[SV.width,p.qY hb]) (by simp[SV.aU,hb])
  |false=>exact many (.atom p) x (by simp[SV.aU,hb])
 all_goals
  obtain⟨x,h1,rfl⟩:=hv
  refine⟨[x],ac2 _ _ h1, ?_⟩
  simp only[List.flatten_cons,List.flatten_nil,List.append_nil]
  first
   |exact one _ x h1 rfl rfl
   |exact many _ x rfl
def dN (ti:TI) (l:List SV):Option SV:=
 match ti.kind.isAgg with
 |true=>match l with
  |[c]=>match c.aU with
   |false=>some c
   |true=>some (.agg [c])
  |l=>some (.agg l)
 |false=>match l with
  |[c]=>match c.aU with
   |true=>some c
   |false=>none
  |_=>none
theorem lJ {ρ:bI} {ti:TI} {l:List SV} {c:SV} {z:List (List Value)} {v:Value} (h:dN ti l=some c) (hz:au ρ l z)
  (hv:v=if ti.kind.isAgg then .agg z.flatten.toArray else z.flatten.headD undef):Has ρ c v:=by
 have Vn:∀l z,au ρ l z→Has ρ (.agg l) (.agg z.flatten.toArray):=fun l z hz=>by
  simp only[Has,aG,ct,SV.aU]
  exact⟨_,⟨z,hz,rfl⟩,rfl⟩
 have Vo:∀(c:SV) x,aG ρ c x→c.aU=false→Has ρ c (.agg x.toArray):=by
  intro c x hx h1
  cases c<;>simp only[SV.aU,Bool.true_eq_false]at h1<;>simp only[Has]
  case cC=>simp only[aG]at hx
  all_goals exact⟨x,hx,by simp[ct,SV.aU,h1]⟩
 have aU:∀(c:SV) x,aG ρ c x→c.aU=true→Has ρ c (x.headD undef):=by
  intro c x hx h1
  cases c<;>simp only[SV.aU,Bool.false_eq_true]at h1<;>simp only[Has]
  all_goals exact⟨x,hx,by simp[ct,SV.aU,h1]⟩
 unfold dN at h
 cases ha:ti.kind.isAgg with
 |true=>
  rw[ha]at h hv
  simp only[if_true]at hv h
  subst hv
  match l,hz with
  |[],hz=>simp at h;subst h;exact Vn [] z hz
  |[d],hz=>
   simp only[au]at hz
   obtain⟨x,r,rfl,h1,rfl⟩:=hz
   simp only at h
   cases hd:d.aU with
   |false=>rw[hd]at h;simp at h;subst h;simpa using Vo d x h1 hd
   |true=>rw[hd]at h;simp at h;subst h;exact Vn [d] [x] (by simp only[au];exact⟨x,[],rfl,h1,rfl⟩)
  |d::e::r,hz=>simp at h;subst h;exact Vn _ z hz
 |false=>
  rw[ha]at h hv
  simp only[Bool.false_eq_true,if_false]at hv h
  subst hv
  match l,hz with
  |[],_=>simp at h
  |[d],hz=>
   simp only[au]at hz
   obtain⟨x,r,rfl,h1,rfl⟩:=hz
   simp only at h
   cases hd:d.aU with
   |false=>rw[hd]at h;simp at h
   |true=>rw[hd]at h;simp at h;subst h;simpa using aU d x h1 hd
  |d::e::r,_=>simp at h
end Go.Sx
namespace Go.Sx
def aZ (ft:List (Nat×SV)) (x:Operand) (c:SV):Prop:=∀ρ a,(∀t s,(t,s)∈ft→Has ρ s (a.tmps.getD t undef))→Has ρ c (Act.eval a x)
def lk (l:List (Nat×SV)) (t:Nat):Option SV:=match l with
 |[]=>none
 |(u,s)::r=>match Nat.beq u t with|true=>some s|false=>lk r t
theorem Ky:∀{l:List (Nat×SV)} {t:Nat} {s:SV},lk l t=some s→(t,s)∈l
 |(u,s')::r,t,s,h=>by
  unfold lk at h
  split at h
  ·rename_i hu
   obtain rfl:u=t:=Nat.eq_of_beq_eq_true hu
   cases h
   exact List.mem_cons_self ..
  ·exact List.mem_cons_of_mem _ (Ky h)
def ev (fr:List (Nat×SV)):Operand→Option SV
 |.tmp t=>lk fr t
 |.const v=>match v.oneCell' with
  |true=>some (.val v)
  |false=>none
 |.func f=>some (.clo f [] [])
 |.global g=>some (.val (.pointer (some ⟨g,0,none⟩)))
theorem ak {fr:List (Nat×SV)} {x:Operand} {c:SV} (h:ev fr x=some c):aZ fr x c:=by
 intro ρ a hf
 cases x with
 |tmp t=>exact hf t c (Ky h)
 |const v=>
  simp only[ev]at h
  cases hv:v.oneCell' with
  |false=>rw[hv]at h;simp at h
  |true=>
   rw[hv]at h
   simp at h
   subst h
   simp only[Has,Act.eval]
   exact⟨[v],by simp[aG,hv],by simp[ct,SV.aU]⟩
 |func f=>
  simp only[ev,Option.some.injEq]at h
  subst h
  simp only[Has,Act.eval]
  exact⟨[.func (.func f) #[] #[]],by simp only[aG];exact⟨[],[],by simp[au],by simp[au],by simp⟩,by simp[ct,SV.aU]⟩
 |global g=>
  simp only[ev,Option.some.injEq]at h
  subst h
  simp only[Has,Act.eval]
  exact⟨[.pointer (some ⟨g,0,none⟩)],by simp[aG,Value.oneCell'],by simp[ct,SV.aU]⟩
structure Res where
 ob:Prop
 val:SV
 fk:List (Nat×aA)
 new:List (Nat×aA)
 upd:List (Nat×aA)
theorem jb.pure {ρ:bI} {w:World} {c:SV} {v:Value} (h:Has ρ c v):jb ρ w c [] [] v ρ w:=
 ⟨.refl ρ,h,fun _ _=>rfl,.refl _ w,(fun k b h=>by rcases h with h|h<;>cases h),(fun _ _ _ h=>by cases h),(fun k b x h=>by cases h),(fun k b k' b' x x' h=>by cases h),fun b o h=>.inl h⟩
section
variable {P:Program} {o:Oper} {ft:List (Nat×SV)} {fk new upd:List (Nat×aA)} {c:SV}
theorem dw (h:∀ρ a w,Vl ft fk new ρ a w→∃v w' ρ',(execOp a.eval o).run P w= .ok (.value v) w'∧jb ρ w c new upd v ρ' w'):bL P o ft fk c new upd:=by
 intro ρ a w hp
 obtain⟨v,w',ρ',h1,h2⟩:=h ρ a w hp
 unfold goes
 rw[h1]
 exact⟨v,ρ',rfl,h2⟩
theorem Hc (h:∀ρ a w,Vl ft fk new ρ a w→∃w' ρ',(execOp a.eval o).run P w= .ok .skip w'∧jb ρ w c new upd undef ρ' w'):bL P o ft fk c new upd:=by
 intro ρ a w hp
 obtain⟨w',ρ',h1,h2⟩:=h ρ a w hp
 unfold goes
 rw[h1]
 exact⟨undef,ρ',rfl,h2⟩
theorem bo (h:∀ρ a w,Vl ft fk [] ρ a w→∃v,(execOp a.eval o).run P w= .ok (.value v) w∧Has ρ c v):bL P o ft fk c [] []:=
 dw fun ρ a w hp=>by
  obtain⟨v,h1,h2⟩:=h ρ a w hp
  exact⟨v,w,ρ,h1,.pure h2⟩
theorem Hd {x:Operand} (ho:o.op= .move x∨o.op= .assign x) (hx:aZ ft x c):bL P o ft fk c [] []:=
 bo fun ρ a w hp=>⟨a.eval x,by rcases ho with ho|ho<;>simp[execOp,ho],hx ρ a hp.dj⟩
theorem Db {ρ:bI} {w:World} {k:Nat} {ty:TypeId} {wr:Bool} {d:Data} {vs:List Value} (hk:ρ.key k=none) (hd:cQ ρ d vs) (hL:d.ox=false:=by rfl):
  jb ρ w (.ptr k 0 0 0) [(k,⟨ty,wr,d⟩)] [] (.pointer (some ⟨w.heap.size,0,none⟩)) ⟨fun j=>if j=k then some (w.heap.size,vs.length)else ρ.key j,ρ.aT,ρ.b7⟩ (w.alloc (.cells vs.toArray ty (0,0))):=by
 have hle:ρ.Le ⟨fun j=>if j=k then some (w.heap.size,vs.length)else ρ.key j,ρ.aT,ρ.b7⟩:=⟨fun j x hx=>by
  show(if j=k then _ else _)=_
  by_cases hj:j=k
  ·subst hj;rw[hk]at hx;cases hx
  ·rw[if_neg hj];exact hx,fun b ob hb=>hb⟩
 refine⟨hle, ?_, ?_, ?_, ?_,(fun _ _ _ h=>by cases h), ?_, ?_,fun b ob hb=>.inl hb⟩
 ·simp only[Has,aG]
  exact⟨_,⟨w.heap.size,vs.length,by simp,rfl⟩,by simp[ct,SV.aU]⟩
 ·intro j hj
  show(if j=k then _ else _)=_
  rw[if_neg]
  rintro rfl
  exact hj _ (List.mem_cons_self ..)
 ·exact .fH ((RowKit.Below.refl _ _).alloc (Nat.le_refl _) _)
 ·intro j b hj
  rcases hj with hj|hj
  ·cases hj
  ·simp only[List.mem_singleton,Prod.mk.injEq]at hj
   obtain⟨rfl,rfl⟩:=hj
   refine .inr (.inl ⟨w.heap.size,vs.length,vs,[],by simp, ?_,hd.mono hle,by simp,by simp⟩)
   rw[List.append_nil,Data.ck hL]
   exact heap_alloc_new _ _
 ·intro j b x hj hx
  simp only[List.mem_singleton,Prod.mk.injEq]at hj
  obtain⟨rfl,rfl⟩:=hj
  simp at hx
  rw[←hx]
  exact .inl (Nat.le_refl _)
 ·intro j b j' b' x x' hj oc a7
  simp only[List.mem_singleton,Prod.mk.injEq]at hj oc
  exact absurd (hj.1.trans oc.1.symm) a7
theorem Vp {x:Operand} {elem:TypeId} {k:Nat} {sv:SV} {cs:List SV} (ho:o.op= .box elem x) (hx:aZ ft x sv) (hc:oy sv=some cs):
  bL P o ft fk (.ptr k 0 0 0) [(k,⟨elem,true,.one cs⟩)] []:=
 dw fun ρ a w hp=>by
  obtain⟨z,h1,h2⟩:=jW hc (hx ρ a hp.dj)
  refine⟨_,_,_, ?_,Db (ty:=elem) (wr:=true) (d:=.one cs) (vs:=z.flatten) (hp.fresh k _ (List.mem_cons_self ..)) ⟨z,h1,rfl⟩⟩
  have:(a.eval x).cells=z.flatten.toArray:=by rw[←h2]
  simp[execOp,ho,Instr.box,newVar,newRow,this]
theorem Kz {elem:TypeId} {k:Nat} {ti:TI} (ho:o.op= .alloc elem) (ht:aE P elem ti):
  bL P o ft fk (.ptr k 0 0 0) [(k,⟨elem,true,.one ti.zero⟩)] []:=
 dw fun ρ a w hp=>by
  obtain⟨z,h1,h2⟩:=ht.zeroValue
  obtain⟨_,_,_,_,_,_,_,hz,_⟩:=ht.info
  refine⟨_,_,_, ?_,Db (ty:=elem) (wr:=true) (d:=.one ti.zero) (vs:=ti.zero.flatMap eP) (hp.fresh k _ (List.mem_cons_self ..)) ⟨_,dF hz,by simp[List.flatMap]⟩⟩
  have:z.cells=(ti.zero.flatMap eP).toArray:=by rw[←h2]
  simp[execOp,ho,Instr.alloc,newVar,newRow,this,h1]
def Bm:Option Prop→Prop
 |none=>True
 |some p=>p
def Vq (ob:Option Prop) (k:Prop):Prop:=match ob with
 |none=>k
 |some p=>p∧k
theorem b6 {ob:Option Prop} {k:Prop} (h:Vq ob k):Bm ob∧k:=by
 cases ob with
 |none=>exact⟨trivial,h⟩
 |some p=>exact h
def elem (d:Data) (s i:Nat):Option (Option Prop×List SV):=
 match d with
 |.one cs=>match i with
  |0=>some (none,cs)
  |_+1=>none
 |.ints kd xs=>match Nat.beq s 1 with
  |true=>some (some (i<xs.length),[.val (.int kd (xs.getD i 0))])
  |false=>none
 |.cd xs=>match Nat.beq s 5 with
  |true=>some (some (i<xs.length),[.frac (xs.getD i 0)])
  |false=>none
 |.seq w xs=>match Nat.beq s w with
  |true=>some (some (i<xs.length),[xs.getD i .any])
  |false=>none
 |.dead=>none
 |.loop _=>none
theorem qm {d:Data} {s i:Nat} {r:Option Prop×List SV} (h:elem d s i=some r):d.ox=false:=by
 cases d<;>first|rfl|(simp[elem]at h)
theorem lK {α:Type} (f:α→List Value) (n:Nat) (d:α):∀(xs:List α),(∀x∈xs,(f x).length=n)→∀i,i<xs.length→((xs.flatMap f).drop (i*n)).take n=f (xs.getD i d)
 |x::xs,h,0,_=>by
  have hx:=h x (List.mem_cons_self ..)
  simp only[List.flatMap_cons,Nat.zero_mul,List.drop_zero,List.getD_cons_zero]
  rw[←hx,List.take_left]
 |x::xs,h,i+1,hi=>by
  have hx:=h x (List.mem_cons_self ..)
  have ih:=lK f n d xs (fun y hy=>h y (List.mem_cons_of_mem _ hy)) i (by simpa using hi)
  simp only[List.flatMap_cons,List.getD_cons_succ]
  have e:(i+1)*n=(f x).length+i*n:=by rw[hx,Nat.succ_mul];omega
  rw[e,List.drop_length_add_append]
  exact ih
theorem oz {α:Type} (f:α→List Value) (n:Nat):∀(xs:List α),(∀x∈xs,(f x).length=n)→(xs.flatMap f).length=xs.length*n
 |[],_=>by simp
 |x::xs,h=>by
  have hx:=h x (List.mem_cons_self ..)
  have ih:=oz f n xs (fun y hy=>h y (List.mem_cons_of_mem _ hy))
  simp only[List.flatMap_cons,List.length_append,List.length_cons,hx,ih,Nat.succ_mul]
  omega
theorem oE {ρ:bI}:∀{xs:List SV} {z:List (List Value)},au ρ xs z→∀i,i<xs.length→aG ρ (xs.getD i .any) (z.getD i [])∧z.length=xs.length
 |c::xs,z,h,0,_=>by
  simp only[au]at h
  obtain⟨x,r,rfl,h1,h2⟩:=h
  refine⟨by simpa using h1, ?_⟩
  cases xs with
  |nil=>simp only[au]at h2;subst h2;rfl
  |cons c' xs=>have:=(oE h2 0 (by simp)).2;simp[this]
 |c::xs,z,h,i+1,hi=>by
  simp only[au]at h
  obtain⟨x,r,rfl,h1,h2⟩:=h
  obtain⟨h3,h4⟩:=oE h2 i (by simpa using hi)
  exact⟨by simpa using h3,by simp[h4]⟩
theorem wU {i n s:Nat} (h:i<n):i*s+s≤n*s:=by
 have:=Nat.mul_le_mul_right s (Nat.succ_le_of_lt h)
 rw[Nat.succ_mul]at this
 exact this
theorem wV {ρ:bI} {d:Data} {s i:Nat} {ob:Option Prop} {cs:List SV} {vs:List Value} (h:elem d s i=some (ob,cs)) (jG:Bm ob) (hd:cQ ρ d vs):
  ∃z,au ρ cs z∧z.flatten=(vs.drop (i*s)).take z.flatten.length∧i*s+z.flatten.length≤vs.length:=by
 cases d with
 |dead=>simp[elem]at h
 |loop rc=>simp[elem]at h
 |one cs'=>
  simp only[elem]at h
  cases i with
  |succ i=>simp at h
  |zero=>
   simp at h
   obtain⟨_,rfl⟩:=h
   simp only[cQ]at hd
   obtain⟨z,h1,rfl⟩:=hd
   exact⟨z,h1,by rw[List.take_of_length_le]<;>simp,by simp⟩
 |ints kd xs=>
  simp only[elem]at h
  cases hs:Nat.beq s 1 with
  |false=>rw[hs]at h;simp at h
  |true=>
   rw[hs]at h
   obtain rfl:s=1:=Nat.eq_of_beq_eq_true hs
   simp only[Option.some.injEq,Prod.mk.injEq]at h
   obtain⟨rfl,rfl⟩:=h
   have jG:i<xs.length:=jG
   simp only[cQ]at hd
   subst hd
   refine⟨[[.int kd (xs.getD i 0)]],by simp[au,aG,Value.oneCell'], ?_,by simp;omega⟩
   have:=lK (fun x:Int=>[Value.int kd x]) 1 0 xs (fun _ _=>rfl) i jG
   rw[show xs.map (Value.int kd)=xs.flatMap (fun x=>[Value.int kd x])from by rw[List.map_eq_flatMap]]
   exact this.symm
 |cd xs=>
  simp only[elem]at h
  cases hs:Nat.beq s 5 with
  |false=>rw[hs]at h;simp at h
  |true=>
   rw[hs]at h
   obtain rfl:s=5:=Nat.eq_of_beq_eq_true hs
   simp only[Option.some.injEq,Prod.mk.injEq]at h
   obtain⟨rfl,rfl⟩:=h
   have jG:i<xs.length:=jG
   simp only[cQ]at hd
   subst hd
   refine⟨[bR (xs.getD i 0)],by simp[au,aG], ?_, ?_⟩
   ·have:=lK bR 5 0 xs (fun x _=>(c9 x).1) i jG
    simp only[List.flatten_cons,List.flatten_nil,List.append_nil]
    rw[(c9 _).1]
    exact this.symm
   ·simp only[List.flatten_cons,List.flatten_nil,List.append_nil]
    rw[(c9 _).1,oz bR 5 xs (fun x _=>(c9 x).1)]
    exact wU jG
 |seq w xs=>
  simp only[elem]at h
  cases hs:Nat.beq s w with
  |false=>rw[hs]at h;simp at h
  |true=>
   rw[hs]at h
   obtain rfl:s=w:=Nat.eq_of_beq_eq_true hs
   simp only[Option.some.injEq,Prod.mk.injEq]at h
   obtain⟨rfl,rfl⟩:=h
   have jG:i<xs.length:=jG
   simp only[cQ]at hd
   obtain⟨z,h1,rfl,h2⟩:=hd
   have h1:=au.mono (ow ρ ρ.b7) _ _ h1
   obtain⟨h3,h4⟩:=oE h1 i jG
   have hw:∀(l:List SV) (y:List (List Value)),au ρ l y→(∀x∈l,x.width=s)→∀u∈y,(id u).length=s:=by
    intro l
    induction l with
    |nil=>intro y hy _ u hu;simp only[au]at hy;subst hy;cases hu
    |cons c l ih=>
     intro y hy hc u hu
     simp only[au]at hy
     obtain⟨x,r,rfl,g1,g2⟩:=hy
     rcases List.mem_cons.1 hu with rfl|hu
     ·rw[id,(aG.len c _ g1).1];exact hc c (List.mem_cons_self ..)
     ·exact ih r g2 (fun x hx=>hc x (List.mem_cons_of_mem _ hx)) u hu
   have nb:=hw xs z h1 h2
   have hi:i<z.length:=aa
   have hlen:(z.getD i []).length=s:=by
    have:=nb (z.getD i []) (by simp[hi])
    simpa using this
   refine⟨[z.getD i []],by simp only[au];exact⟨_,[],rfl,h3,rfl⟩, ?_, ?_⟩
   ·have:=lK id s [] z nb i hi
    simp only[List.flatten_cons,List.flatten_nil,List.append_nil,hlen]
    rw[List.flatMap_id]at this
    exact this.symm
   ·simp only[List.flatten_cons,List.flatten_nil,List.append_nil,hlen]
    have:=oz id s z nb
    rw[List.flatMap_id]at this
    rw[this,h4]
    exact wU jG
theorem lM {L y:List Value} {off n:Nat} (h:y=(L.drop off).take n):∀j v,y[j]? =some v→L[off+j]? =some v:=by
 intro j v hj
 subst h
 rw[List.getElem?_take]at hj
 split at hj
 ·rw[List.getElem?_drop]at hj;exact hj
 ·cases hj
theorem u6 {t:TypeId} {ti:TI} (ht:aE P t ti) {w:World} {b off:Nat} {L:List Value} {ty:TypeId} {fz:Nat×Nat} {y:List Value} (hh:w.heap[b]? =some (.cells L.toArray ty fz))
  (hy:y=(L.drop off).take ti.size) (hle:off+ti.size≤L.length) (h1:ti.kind.isAgg=true∨ti.size=1):
  (loadVar t ⟨b,off,none⟩).run P w= .ok (if ti.kind.isAgg then .agg y.toArray else y.headD undef) w:=by
 have hlen:y.length=ti.size:=by rw[hy,List.length_take,List.length_drop];omega
 have wW:∀j v,y[j]? =some v→w.cell? ((⟨b,off,none⟩:Addr).add j)=some v:=by
  intro j v hj
  have h2:=lM hy j v hj
  have fB:(⟨b,off,none⟩:Addr).add j=⟨b,off+j,none⟩:=by unfold Addr.add;split<;>simp_all
  rw[fB,cell_of_row w b (off+j) _ ty fz hh]
  simpa using h2
 unfold loadVar
 rw[Sem.run_bind,ht.isAgg]
 cases ha:ti.kind.isAgg with
 |true=>
  have hl:=run_loadCells_list (P:=P) w ⟨b,off,none⟩ y wW
  rw[hlen]at hl
  simp[ht.sizeOf,hl]
 |false=>
  rcases h1 with h1|h1
  ·rw[ha]at h1;cases h1
  ·match y,hlen,wW with
   |[],hlen,_=>simp at hlen;omega
   |v::r,_,wW=>
    have:=wW 0 v rfl
    simp only[Addr.add,if_true]at this
    simp[this]
theorem He {ρ:bI} {w:World} {t:TypeId} {ti:TI} {k s i r f b n:Nat} {blk:aA} {ob:Option Prop} {cs l:List SV} (ht:aE P t ti) (bJ:ρ.key k=some (b,n)) (hb:gK ρ w k blk)
  (he:elem blk.data s i=some (ob,cs)) (jG:Bm ob) (hs:sub f cs r ti.size=some l) (fG:ti.size≠0) (hsh:dN ti l=some c):∃v,(loadVar t ⟨b,i*s+r,none⟩).run P w= .ok v w∧Has ρ c v:=by
  rcases hb with h0|⟨b',n',vs,ex,h1,h2,h3,h4,h5⟩|⟨h1,h2⟩
  case inl=>cases wX:blk.data<;>rw[wX]at h0 he<;>simp[Data.live,elem]at h0 he
  case inr.inr=>rw[bJ]at h1;cases h1
  rw[bJ]at h1
  cases h1
  rw[Data.ck (qm he)]at h2
  obtain⟨z,g1,g2,g3⟩:=wV he jG h3
  obtain⟨y,e1,e2,e3⟩:=q7 f cs r ti.size l z hs g1
  have e3:=e3.resolve_left fG
  have hy:y.flatten=((vs++ex).drop (i*s+r)).take ti.size:=by
   rw[e2,g2,List.drop_take,List.drop_drop,List.take_take,Nat.min_eq_left aa,List.drop_append_of_le_length aa,List.take_append_of_le_length (by simp;omega)]
  have uh:ti.kind.isAgg=true∨ti.size=1:=by
   cases ha:ti.kind.isAgg with
   |true=>exact .inl rfl
   |false=>
    right
    unfold dN at hsh
    rw[ha]at hsh
    match l,hsh,e1 with
    |[d],hsh,e1=>
     simp only[au]at e1
     obtain⟨u,_,rfl,d1,rfl⟩:=e1
     have hd:d.aU=true:=by
      cases hd:d.aU with
      |true=>rfl
      |false=>simp only at hsh;rw[hd]at hsh;simp at hsh
     have Vr:d.width=1:=by
      cases d<;>simp only[SV.aU,Bool.false_eq_true]at hd<;>simp only[SV.width]
      exact Pred.qY _ hd
     have:=(aG.len d u d1).1
     simp only[List.flatten_cons,List.flatten_nil,List.append_nil]at e2
     have h7:=congrArg List.length e2
     rw[List.length_take,List.length_drop]at h7
     omega
    |[],hsh,_=>simp at hsh
    |_::_::_,hsh,_=>simp at hsh
  exact⟨_,u6 ht (P:=P) h2 hy (by simp;omega) uh,lJ hsh e1 rfl⟩
theorem vR {t:TypeId} {x:Operand} {ti:TI} {k s i r f:Nat} {blk:aA} {ob:Option Prop} {cs l:List SV} (ho:o.op= .load t x) (hx:aZ ft x (.ptr k s i r)) (ht:aE P t ti)
  (hk:(k,blk)∈fk) (he:elem blk.data s i=some (ob,cs)) (jG:Bm ob) (hs:sub f cs r ti.size=some l) (fG:ti.size≠0) (hsh:dN ti l=some c):bL P o ft fk c [] []:=
 bo fun ρ a w hp=>by
  have hx:=hx ρ a hp.dj
  simp only[Has,aG]at hx
  obtain⟨_,⟨b,n,bJ,rfl⟩,hv⟩:=hx
  simp only[ct,SV.aU,if_true,List.headD_cons]at hv
  obtain⟨v,h1,h2⟩:=He ht bJ (hp.mj k blk hk) he jG hs fG hsh
  exact⟨v,by simp[execOp,ho,Instr.loadAt,Instr.sureAddr,hv,h1],h2⟩
end
end Go.Sx
namespace Go.Sx
theorem oF {P:Program} {t:TypeId} (h:(P.info? t).isSome=true) (w:World):(Go.sizeOf t).run P w= .ok (P.cellsOf t) w:=by
 cases hi:P.info? t with
 |none=>rw[hi]at h;cases h
 |some i=>simp[Go.sizeOf,typeInfo,hi,Program.cellsOf]
def gL (d:Data) (i:Nat) (cs:List SV):Option Data:=
 match d with
 |.one _=>match i with
  |0=>some (.one cs)
  |_+1=>none
 |.ints kd xs=>match cs with
  |[.val (.int kd' n)]=>if kd'=kd then some (.ints kd (xs.set i n))else none
  |_=>none
 |.cd xs=>match cs with
  |[.frac q]=>some (.cd (xs.set i q))
  |_=>none
 |.seq w xs=>match cs with
  |[c]=>match Nat.beq c.width w&&bA c with
   |true=>some (.seq w (xs.set i c))
   |false=>none
  |_=>none
 |.dead=>none
 |.loop _=>none
theorem qa {d d':Data} {i:Nat} {cs:List SV} (h:gL d i cs=some d'):d'.ox=false:=by
 cases d<;>simp only[gL,reduceCtorEq]at h<;>(repeat' split at h)<;>first|(cases h;rfl)|cases h
theorem lN {α:Type} (f:α→List Value) (n:Nat):∀(xs:List α),(∀x∈xs,(f x).length=n)→∀i q,i<xs.length→(xs.set i q).flatMap f=(xs.flatMap f).take (i*n)++f q++(xs.flatMap f).drop (i*n+n)
 |x::xs,h,0,q,_=>by
  have hx:=h x (List.mem_cons_self ..)
  simp only[List.set_cons_zero,List.flatMap_cons,Nat.zero_mul,List.take_zero,List.nil_append,Nat.zero_add]
  rw[←hx,List.drop_left]
 |x::xs,h,i+1,q,hi=>by
  have hx:=h x (List.mem_cons_self ..)
  have ih:=lN f n xs (fun y hy=>h y (List.mem_cons_of_mem _ hy)) i q (by simpa using hi)
  simp only[List.set_cons_succ,List.flatMap_cons,ih]
  have e:(i+1)*n=(f x).length+i*n:=by rw[hx,Nat.succ_mul];omega
  rw[e,List.take_length_add_append,Nat.add_assoc,List.drop_length_add_append]
  simp
theorem Dc {ρ:bI}:∀{xs:List SV} {z:List (List Value)},au ρ xs z→∀i c x,aG ρ c x→au ρ (xs.set i c) (z.set i x)
 |[],z,h,i,c,x,_=>by simp only[au]at h;subst h;simp[au]
 |d::xs,z,h,0,c,x,hx=>by
  simp only[au]at h
  obtain⟨y,r,rfl,h1,h2⟩:=h
  simp only[List.set_cons_zero,au]
  exact⟨x,r,rfl,hx,h2⟩
 |d::xs,z,h,i+1,c,x,hx=>by
  simp only[au]at h
  obtain⟨y,r,rfl,h1,h2⟩:=h
  simp only[List.set_cons_succ,au]
  exact⟨y,_,rfl,h1,Dc h2 i c x hx⟩
theorem eR {ρ:bI} {s:Nat}:∀(l:List SV) (y:List (List Value)),au ρ l y→(∀x∈l,x.width=s)→∀u∈y,(id u).length=s
 |[],y,hy,_,u,hu=>by simp only[au]at hy;subst hy;cases hu
 |c::l,y,hy,hc,u,hu=>by
  simp only[au]at hy
  obtain⟨x,r,rfl,g1,g2⟩:=hy
  rcases List.mem_cons.1 hu with rfl|hu
  ·rw[id,(aG.len c _ g1).1];exact hc c (List.mem_cons_self ..)
  ·exact eR l r g2 (fun x hx=>hc x (List.mem_cons_of_mem _ hx)) u hu
theorem u7 {ρ:bI} {d d':Data} {s i:Nat} {ob:Option Prop} {cs cs':List SV} {vs:List Value} {z':List (List Value)} (h:elem d s i=some (ob,cs)) (jG:Bm ob) (hd:cQ ρ d vs)
  (h':gL d i cs'=some d') (hz:au ρ cs' z') (hlen:z'.flatten.length=SV.cu cs):
  cQ ρ d' (vs.take (i*s)++z'.flatten++vs.drop (i*s+SV.cu cs)):=by
 cases d with
 |dead=>simp[elem]at h
 |loop rc=>simp[elem]at h
 |one cs0=>
  simp only[elem]at h
  cases i with
  |succ i=>simp at h
  |zero=>
   simp at h
   obtain⟨_,rfl⟩:=h
   simp only[gL,Option.some.injEq]at h'
   subst h'
   simp only[cQ]at hd ⊢
   obtain⟨z,h1,rfl⟩:=hd
   refine⟨z',hz, ?_⟩
   rw[List.drop_eq_nil_of_le (by rw[(au.len _ _ h1).1];omega)]
   simp
 |ints kd xs=>
  simp only[elem]at h
  cases hs:Nat.beq s 1 with
  |false=>rw[hs]at h;simp at h
  |true=>
   rw[hs]at h
   obtain rfl:s=1:=Nat.eq_of_beq_eq_true hs
   simp only[Option.some.injEq,Prod.mk.injEq]at h
   obtain⟨rfl,rfl⟩:=h
   have jG:i<xs.length:=jG
   unfold gL at h'
   simp only at h'
   split at h'
   ·rename_i kd' n
    split at h'
    ·rename_i hk
     subst hk
     simp only[Option.some.injEq]at h'
     subst h'
     simp only[cQ]at hd ⊢
     subst hd
     simp only[au,aG]at hz
     obtain⟨x,r,rfl,⟨rfl,_⟩,rfl⟩:=hz
     have:=lN (fun x:Int=>[Value.int kd' x]) 1 xs (fun _ _=>rfl) i n jG
     rw[List.map_eq_flatMap,List.map_eq_flatMap,this]
     simp[SV.cu,SV.width]
    ·simp at h'
   ·simp at h'
 |cd xs=>
  simp only[elem]at h
  cases hs:Nat.beq s 5 with
  |false=>rw[hs]at h;simp at h
  |true=>
   rw[hs]at h
   obtain rfl:s=5:=Nat.eq_of_beq_eq_true hs
   simp only[Option.some.injEq,Prod.mk.injEq]at h
   obtain⟨rfl,rfl⟩:=h
   have jG:i<xs.length:=jG
   unfold gL at h'
   simp only at h'
   split at h'
   ·rename_i q
    simp only[Option.some.injEq]at h'
    subst h'
    simp only[cQ]at hd ⊢
    subst hd
    simp only[au,aG]at hz
    obtain⟨x,r,rfl,rfl,rfl⟩:=hz
    have:=lN bR 5 xs (fun x _=>(c9 x).1) i q jG
    rw[this]
    simp[SV.cu,SV.width]
   ·simp at h'
 |seq w xs=>
  simp only[elem]at h
  cases hs:Nat.beq s w with
  |false=>rw[hs]at h;simp at h
  |true=>
   rw[hs]at h
   obtain rfl:s=w:=Nat.eq_of_beq_eq_true hs
   simp only[Option.some.injEq,Prod.mk.injEq]at h
   obtain⟨rfl,rfl⟩:=h
   have jG:i<xs.length:=jG
   unfold gL at h'
   simp only at h'
   split at h'
   ·rename_i c
    cases hw:(Nat.beq c.width s&&bA c)with
    |false=>rw[hw]at h';simp at h'
    |true=>
     rw[hw]at h'
     rw[Bool.and_eq_true]at hw
     have hcw:c.width=s:=Nat.eq_of_beq_eq_true hw.1
     simp only[Option.some.injEq]at h'
     subst h'
     simp only[cQ]at hd ⊢
     obtain⟨z,h1,rfl,h2⟩:=hd
     simp only[au]at hz
     obtain⟨x,r,rfl,hx,rfl⟩:=hz
     refine⟨z.set i x,Dc h1 i c x (lH (ρ:=ρ) (ρ':=cE ρ.aT ρ.b7) (fun _ _ h=>h) c x hw.2 hx), ?_, ?_⟩
     ·have hg:=(oE h1 i jG).2
      have:=lN id s z (eR xs z h1 h2) i x aa
      rw[List.flatMap_id,List.flatMap_id]at this
      rw[this]
      have hgw:(xs.getD i SV.any).width=s:=h2 _ (by simp[jG])
      simp only[SV.cu,hgw,id,Nat.add_zero,List.flatten_cons,List.flatten_nil,List.append_nil]
     ·intro y hy
      rcases List.mem_or_eq_of_mem_set hy with h3|h3
      ·exact h2 y h3
      ·rw[h3];exact hcw
   ·simp at h'
theorem c5 {w:World} {g:Nat} {cs cs':Array Value} {t:TypeId} {fr:Nat×Nat} (hg:w.heap[g]? =some (.cells cs t fr)):(w.setRow g cs').heap[g]? =some (.cells cs' t fr):=by
 simp[World.setRow,Array.getElem?_modify,hg]
theorem cR {w:World} {g k:Nat} {cs':Array Value} (h:k≠g):(w.setRow g cs').heap[k]? =w.heap[k]? :=by
 simp[World.setRow,Array.getElem?_modify,Ne.symm h]
section
variable {P:Program} {o:Oper} {ft:List (Nat×SV)} {fk new upd:List (Nat×aA)} {c:SV}
theorem Dd {t:TypeId} {x y:Operand} {ti:TI} {k s i r f:Nat} {ty:TypeId} {d d':Data} {ob:Option Prop} {cs cs' nw:List SV} {sv:SV} (ho:o.op= .store t x y) (hx:aZ ft x (.ptr k s i r)) (hy:aZ ft y sv)
  (ht:aE P t ti) (hk:(k,⟨ty,true,d⟩)∈fk) (he:elem d s i=some (ob,cs)) (jG:Bm ob) (hc:oy sv=some nw) (hw:SV.cu nw=ti.size) (hle:r+ti.size≤SV.cu cs)
  (hp:put f cs r ti.size nw=some cs') (hd:gL d i cs'=some d'):bL P o ft fk .any [] [(k,⟨ty,true,d'⟩)]:=
 Hc fun ρ a w Bk=>by
  have hx:=hx ρ a Bk.dj
  simp only[Has,aG]at hx
  obtain⟨_,⟨b,n,bJ,rfl⟩,hv⟩:=hx
  simp only[ct,SV.aU,if_true,List.headD_cons]at hv
  rcases Bk.mj k _ hk with h0|⟨b',n',vs,ex,h1,h2,h3,h4,h5⟩|⟨h1,h2⟩
  case inl=>simp only at h0;cases d<;>simp[Data.live,elem]at h0 he
  case inr.inr=>rw[bJ]at h1;cases h1
  rw[bJ]at h1
  cases h1
  simp only at h2 h3
  rw[Data.ck (qm he)]at h2
  obtain⟨z,g1,g2,g3⟩:=wV he jG h3
  obtain⟨yz,y1,y2⟩:=jW hc (hy ρ a Bk.dj)
  have I0:=(au.len nw yz y1).1
  have Vs:=(au.len nw yz y1).2
  have pq:=(au.len cs z g1).1
  obtain⟨z',p1,p2⟩:=Bl hp g1 y1
  have KA:z'.flatten.length=SV.cu cs:=by
   rw[p2]
   simp only[List.length_append,List.length_take,List.length_drop]
   omega
  have Vt:=u7 he jG h3 hd p1 KA
  have iw:vs=vs.take (i*s)++(z.flatten++vs.drop (i*s+SV.cu cs)):=by
   rw[g2,pq,←List.drop_drop,List.take_append_drop,List.take_append_drop]
  have hAl:(vs.take (i*s)).length=i*s:=by rw[List.length_take];omega
  generalize hA:vs.take (i*s)=A at iw hAl Vt
  generalize hC:vs.drop (i*s+SV.cu cs)=C at iw Vt
  have fG:(yz.flatten).length=ti.size:=aa
  have hL:(vs++ex).take (i*s+r)++yz.flatten++(vs++ex).drop (i*s+r+yz.flatten.length)=(A++z'.flatten++C)++ex:=by
   rw[iw,p2,fG,←hAl]
   simp only[List.append_assoc]
   rw[List.take_length_add_append,Nat.add_assoc,List.drop_length_add_append,List.take_append_of_le_length aa,List.drop_append_of_le_length aa]
   try simp
  have ng:(storeVar t ⟨b,i*s+r,none⟩ (a.eval y)).run P w= .ok () (w.setRow b ((A++z'.flatten++C)++ex).toArray):=by
   have Hf:=run_storeCells_at (P:=P) b (i*s+r) ty yz.flatten 0 (vs++ex).toArray w h2 (by simp only[List.size_toArray,List.length_append];omega) Vs
   simp only[Nat.add_zero,hL]at Hf
   have gf:(a.eval y).cells.size=ti.size:=by rw[←Array.length_toList,y2];exact fG
   unfold storeVar
   simp only[Sem.run_bind,ht.sizeOf,Result.andThen_ok,gf,ne_eq,not_true_eq_false,if_false,y2,Hf]
  refine⟨w.setRow b ((A++z'.flatten++C)++ex).toArray,ρ, ?_, ?_⟩
  ·simp only[execOp,ho,Instr.storeAt,Instr.sureAddr,hv,Sem.run_bind,Sem.run_pure,Result.andThen_ok,ng]
  ·refine⟨.refl ρ,trivial,fun _ _=>rfl,⟨rfl,rfl,rfl,by simp[World.setRow],fun i hi hn=> ?_⟩,fun j bj hj=> ?_,(fun j c c' h1 h2 h3 h4=> ?_),(fun _ _ _ h=>by cases h),(fun _ _ _ _ _ _ h=>by cases h),fun b o h=>.inl h⟩
   ·refine cR fun Sy=>hn ⟨k,_,n,List.mem_cons_self .., ?_⟩
    rw[Sy];exact bJ
   ·rcases hj with hj|hj
    ·simp only[List.mem_singleton,Prod.mk.injEq]at hj
     obtain⟨rfl,rfl⟩:=hj
     refine .inr (.inl ⟨b,n,_,ex,bJ,by rw[Data.ck (qa hd)];exact c5 h2,Vt, ?_,h5⟩)
     rw[←h4,iw]
     simp only[List.length_append,KA,pq]
     omega
    ·cases hj
   ·simp only[List.mem_singleton,Prod.mk.injEq]at h1 h2
    obtain⟨_,rfl⟩:=h1
    obtain⟨_,rfl⟩:=h2
    rw[h3]at h4;cases h4
theorem Bn {S:TypeId} {x:Operand} {j off e sz:Nat} {ti:TI} {fs:List (Nat×TypeId×Nat)} {k s i r:Nat} (ho:o.op= .fieldAddr S x j) (hx:aZ ft x (.ptr k s i r)) (ht:aE P S ti)
  (zO:ti.kind= .agg fs) (hj:fs[j]? =some (off,e,sz)) (fG:sz≠0):bL P o ft fk (.ptr k s i (r+off)) [] []:=
 bo fun ρ a w hp=>by
  have hx:=hx ρ a hp.dj
  simp only[Has,aG]at hx
  obtain⟨_,⟨b,n,bJ,rfl⟩,hv⟩:=hx
  simp only[ct,SV.aU,if_true,List.headD_cons]at hv
  have hk:=ht.kind
  rw[zO]at hk
  obtain⟨h1,h2,h3⟩:=hk
  have hf:∃fd,(P.fieldsOf S)[j]? =some fd∧fd.offset=off∧P.cellsOf fd.type=sz∧(P.info? fd.type).isSome=true:=by
   rw[←h2,List.getElem?_map]at hj
   cases hq:(P.fieldsOf S).toList[j]? with
   |none=>rw[hq]at hj;simp at hj
   |some fd=>
    rw[hq]at hj
    simp only[Option.map_some,Option.some.injEq,Prod.mk.injEq]at hj
    refine⟨fd,by simpa using hq,hj.1,hj.2.2, ?_⟩
    exact List.all_eq_true.1 h3 fd (List.mem_of_getElem? hq)
  obtain⟨fd,f1,f2,f3,f4⟩:=hf
  refine⟨.pointer (some ⟨b,i*s+(r+off),none⟩), ?_, ?_⟩
  ·have fB:(⟨b,i*s+r,none⟩:Addr).add fd.offset=⟨b,i*s+(r+off),none⟩:=by
    unfold Addr.add
    rw[f2]
    split
    ·rename_i h0;simp[h0]
    ·simp[Nat.add_assoc]
   simp[execOp,ho,Instr.fieldAt,run_underlying h1,f1,Instr.sureAddr,hv,fieldPlace,oF f4,f3,fG,fB]
  ·simp only[Has,aG]
   exact⟨_,⟨b,n,bJ,rfl⟩,by simp[ct,SV.aU]⟩
theorem FH {x:Operand} {ix:Nat} {l:List SV} (ho:o.op= .extract x ix) (hx:aZ ft x (.cC l)) (hl:l[ix]? =some c) (hc:c.aU=true∨(oy c).isSome=true):bL P o ft fk c [] []:=
 bo fun ρ a w hp=>by
  have hx:=hx ρ a hp.dj
  simp only[Has]at hx
  obtain⟨z,h1,hv⟩:=hx
  have key:∀(l:List SV) (z:List (List Value)) (ix:Nat),au ρ l z→l[ix]? =some c→∃x,aG ρ c x∧(List.zipWith ct l z)[ix]? =some (ct c x):=by
   intro l
   induction l with
   |nil=>intro z ix _ h;simp at h
   |cons d l ih=>
    intro z ix hz h
    simp only[au]at hz
    obtain⟨x,r,rfl,g1,g2⟩:=hz
    cases ix with
    |zero=>simp at h;subst h;exact⟨x,g1,by simp⟩
    |succ ix=>simpa using ih r ix g2 (by simpa using h)
  obtain⟨x',g1,g2⟩:=key l z ix h1 hl
  refine⟨ct c x', ?_, ?_⟩
  ·simp[execOp,ho,Instr.extract,hv,g2]
  ·cases c<;>simp only[Has]
   case cC=>simp[oy,SV.aU]at hc
   all_goals exact⟨x',g1,rfl⟩
end
end Go.Sx
namespace Go.Sx
def Bo (k:IntKind) (x y:Int):Int:=k.wrap (BitVec.ofInt k.bits x&&& BitVec.ofInt k.bits y).toNat
def Fw (k:IntKind) (x y:Int):Int:=k.wrap (BitVec.ofInt k.bits x|||BitVec.ofInt k.bits y).toNat
def zk (k:IntKind) (x y:Int):Int:=k.wrap (BitVec.ofInt k.bits x^^^BitVec.ofInt k.bits y).toNat
def jH (k:IntKind) (x y:Int):Int:=k.wrap (x*2^(min y.toNat k.bits))
def jz (k:IntKind) (x y:Int):Int:=x.fdiv (2^(min y.toNat k.bits))
def Pt (op:BinOp) (k:IntKind) (a b:Int):Option (Option Prop×Value):=
 match op with
 |.add=>some (none,.int k (k.wrap (a+b)))
 |.sub=>some (none,.int k (k.wrap (a - b)))
 |.mul=>some (none,.int k (k.wrap (a*b)))
 |.quo=>some (some (b≠0),.int k (k.wrap (a.tdiv b)))
 |.rem=>some (some (b≠0),.int k (a.tmod b))
 |.and=>some (none,.int k (Bo k a b))
 |.or=>some (none,.int k (Fw k a b))
 |.xor=>some (none,.int k (zk k a b))
 |.eql=>some (none,.bool (a==b))
 |.neq=>some (none,.bool (a != b))
 |.lss=>some (none,.bool (decide (a<b)))
 |.leq=>some (none,.bool (decide (a≤b)))
 |.gtr=>some (none,.bool (decide (a>b)))
 |.geq=>some (none,.bool (decide (a≥b)))
 |_=>none
theorem bS {ρ:bI} {v:Value} (h:v.oneCell'=true):Has ρ (.val v) v:=by
 simp only[Has,aG]
 exact⟨[v],⟨rfl,h⟩,by simp[ct,SV.aU]⟩
theorem aJ {ρ:bI} {u v:Value} (h:Has ρ (.val u) v):v=u:=by
 simp only[Has,aG]at h
 obtain⟨_,⟨rfl,_⟩,rfl⟩:=h
 rfl
section
variable {P:Program} {o:Oper} {ft:List (Nat×SV)} {fk:List (Nat×aA)}
theorem Pu {op:BinOp} {xt yt:TypeId} {x y:Operand} {k:IntKind} {a b:Int} {ob:Option Prop} {v:Value} (ho:o.op= .binOp op xt x y yt) (hx:aZ ft x (.val (.int k a))) (hy:aZ ft y (.val (.int k b)))
  (h:Pt op k a b=some (ob,v)) (jG:Bm ob):bL P o ft fk (.val v) [] []:=
 bo fun ρ ac w hp=>by
  have e1:=aJ (hx ρ ac hp.dj)
  have e2:=aJ (hy ρ ac hp.dj)
  refine⟨v, ?_, ?_⟩
  ·cases op<;>simp only[Pt,Option.some.injEq,Prod.mk.injEq,reduceCtorEq]at h<;>obtain⟨rfl,rfl⟩:=h<;>
    first
    |(simp[execOp,ho,e1,e2,eqGuard,binOp,Op.intArith];done)
    |(have jG:b≠0:=jG;simp[execOp,ho,e1,e2,eqGuard,binOp,Op.intDiv,jG];done)
    |(simp[execOp,ho,e1,e2,eqGuard,binOp,Op.intBits,Bo,Fw,zk];done)
    |(simp[execOp,ho,e1,e2,eqGuard,binOp,Op.intCmp];done)
  ·refine bS ?_
   cases op<;>simp only[Pt,Option.some.injEq,Prod.mk.injEq,reduceCtorEq]at h<;>obtain⟨rfl,rfl⟩:=h<;>rfl
theorem Vu {xt yt:TypeId} {x y:Operand} {k k':IntKind} {a b:Int} (ho:o.op= .binOp .shl xt x y yt) (hx:aZ ft x (.val (.int k a))) (hy:aZ ft y (.val (.int k' b)))
  (jG:0≤b):bL P o ft fk (.val (.int k (jH k a b))) [] []:=
 bo fun ρ ac w hp=>by
  have e1:=aJ (hx ρ ac hp.dj)
  have e2:=aJ (hy ρ ac hp.dj)
  refine⟨_, ?_,bS rfl⟩
  have:¬b<0:=aa
  simp[execOp,ho,e1,e2,eqGuard,binOp,Op.shift,this,jH]
theorem Vv {xt yt:TypeId} {x y:Operand} {k k':IntKind} {a b:Int} (ho:o.op= .binOp .shr xt x y yt) (hx:aZ ft x (.val (.int k a))) (hy:aZ ft y (.val (.int k' b)))
  (jG:0≤b):bL P o ft fk (.val (.int k (jz k a b))) [] []:=
 bo fun ρ ac w hp=>by
  have e1:=aJ (hx ρ ac hp.dj)
  have e2:=aJ (hy ρ ac hp.dj)
  refine⟨_, ?_,bS rfl⟩
  have:¬b<0:=aa
  simp[execOp,ho,e1,e2,eqGuard,binOp,Op.shift,this,jz]
theorem Vw {xt yt:TypeId} {x y:Operand} {a b:Bool} {ti:TI} (ho:o.op= .binOp .eql xt x y yt) (hx:aZ ft x (.val (.bool a))) (hy:aZ ft y (.val (.bool b))) (ht:aE P xt ti) (hk:ti.kind= .bool):
  bL P o ft fk (.val (.bool (a==b))) [] []:=
 bo fun ρ ac w hp=>by
  have e1:=aJ (hx ρ ac hp.dj)
  have e2:=aJ (hy ρ ac hp.dj)
  have h:=ht.kind;rw[hk]at h
  refine⟨_, ?_,bS rfl⟩
  simp[execOp,ho,e1,e2,eqGuard,run_eql_bool w xt a b h]
theorem Vx {xt yt:TypeId} {x y:Operand} {a b:Bool} {ti:TI} (ho:o.op= .binOp .neq xt x y yt) (hx:aZ ft x (.val (.bool a))) (hy:aZ ft y (.val (.bool b))) (ht:aE P xt ti) (hk:ti.kind= .bool):
  bL P o ft fk (.val (.bool (a != b))) [] []:=
 bo fun ρ ac w hp=>by
  have e1:=aJ (hx ρ ac hp.dj)
  have e2:=aJ (hy ρ ac hp.dj)
  have h:=ht.kind;rw[hk]at h
  refine⟨_, ?_,bS rfl⟩
  simp[execOp,ho,e1,e2,eqGuard,run_neq_bool w xt a b h]
  cases a<;>cases b<;>rfl
def Pv (op:BinOp) (a b:ByteArray):Option (Option Prop×Value):=
 match op with
 |.add=>some (some (a.size+b.size≤9223372036854775807),.string (a++b))
 |.eql=>some (none,.bool (a.toList==b.toList))
 |.neq=>some (none,.bool (!(a.toList==b.toList)))
 |_=>none
theorem Pw {op:BinOp} {xt yt:TypeId} {x y:Operand} {a b:ByteArray} {ob:Option Prop} {v:Value} (ho:o.op= .binOp op xt x y yt) (hx:aZ ft x (.val (.string a))) (hy:aZ ft y (.val (.string b)))
  (h:Pv op a b=some (ob,v)) (jG:Bm ob):bL P o ft fk (.val v) [] []:=
 bo fun ρ ac w hp=>by
  have e1:=aJ (hx ρ ac hp.dj)
  have e2:=aJ (hy ρ ac hp.dj)
  refine⟨v, ?_, ?_⟩
  ·cases op<;>simp only[Pv,Option.some.injEq,Prod.mk.injEq,reduceCtorEq]at h<;>obtain⟨rfl,rfl⟩:=h
   case add=>
    simp[execOp,ho,e1,e2,eqGuard,binOp,run_string_add_sum w a b (show a.size+b.size≤9223372036854775807 from jG)]
   all_goals simp[execOp,ho,e1,e2,eqGuard,binOp,Op.stringOp]
  ·refine bS ?_
   cases op<;>simp only[Pv,Option.some.injEq,Prod.mk.injEq,reduceCtorEq]at h<;>obtain⟨rfl,rfl⟩:=h<;>rfl
theorem Vy {xt:TypeId} {x:Operand} {a:Bool} (ho:o.op= .unOp .not xt x) (hx:aZ ft x (.val (.bool a))):bL P o ft fk (.val (.bool (!a))) [] []:=
 bo fun ρ ac w hp=>by
  have e1:=aJ (hx ρ ac hp.dj)
  exact⟨_,by simp[execOp,ho,e1,Op.unary],bS rfl⟩
theorem Vz {xt:TypeId} {x:Operand} {k:IntKind} {a:Int} (ho:o.op= .unOp .neg xt x) (hx:aZ ft x (.val (.int k a))):bL P o ft fk (.val (.int k (k.wrap (0 - a)))) [] []:=
 bo fun ρ ac w hp=>by
  have e1:=aJ (hx ρ ac hp.dj)
  exact⟨_,by simp[execOp,ho,e1,Op.unary,Op.intArith],bS rfl⟩
theorem VA {xt:TypeId} {x:Operand} {k:IntKind} {a:Int} (ho:o.op= .unOp .xor xt x) (hx:aZ ft x (.val (.int k a))):bL P o ft fk (.val (.int k (zk k (if k.signed=true then -1 else k.max) a))) [] []:=
 bo fun ρ ac w hp=>by
  have e1:=aJ (hx ρ ac hp.dj)
  exact⟨_,by simp[execOp,ho,e1,Op.unary,Op.intBits,zk],bS rfl⟩
theorem Px {src dst:TypeId} {x:Operand} {k k':IntKind} {a:Int} {ts td:TI} (ho:o.op= .convert src dst x) (hx:aZ ft x (.val (.int k' a))) (hs:aE P src ts) (hd:aE P dst td) (hk:td.kind= .int k) (kE:ts.kind= .int k'):
  bL P o ft fk (.val (.int k (k.wrap a))) [] []:=
 bo fun ρ ac w hp=>by
  have e1:=aJ (hx ρ ac hp.dj)
  have h1:=hs.kind;rw[kE]at h1
  have h2:=hd.kind;rw[hk]at h2
  exact⟨_,by simp[execOp,ho,e1,convert,run_underlying h1,run_underlying h2,Conv.intToInt],bS rfl⟩
theorem lO {x y z:Operand} {b:Bool} {c c1 c2:SV} (ho:o.op= .pick x y z) (hx:aZ ft x (.val (.bool b))) (hy:b=true→aZ ft y c1) (hz:b=false→aZ ft z c2) (hc:c=if b then c1 else c2):bL P o ft fk c [] []:=
 bo fun ρ ac w hp=>by
  have e1:=aJ (hx ρ ac hp.dj)
  cases b
  ·refine⟨ac.eval z,by simp[execOp,ho,e1,asBool], ?_⟩
   rw[hc];simpa using hz rfl ρ ac hp.dj
  ·refine⟨ac.eval y,by simp[execOp,ho,e1,asBool], ?_⟩
   rw[hc];simpa using hy rfl ρ ac hp.dj
end
def De (P:Program) (f:FuncId):Prop:=∃fn,P.funcs[f]? =some fn∧(fn.name== "runtime.NumGoroutine")=false∧fn.body.isNone=false
structure mb (fk new:List (Nat×aA)) (ρ:bI) (w:World):Prop where
 mj:∀k b,(k,b)∈fk→gK ρ w k b
 sep:∀k k' x x' b b',(k,b)∈fk→(k',b')∈fk→ρ.key k=some x→ρ.key k'=some x'→k≠k'→x.1=x'.1→b.data.live=true→b'.data.live=true→b.wr=false
 aT:∀b o,ρ.aT b=some o→w.heap[b]? =some o
 ep:∀k b x,(k,b)∈fk→b.wr=true→b.data.live=true→ρ.key k=some x→ρ.aT x.1=none
 fresh:∀k b,(k,b)∈new→ρ.key k=none
theorem Vl.toW {ft:List (Nat×SV)} {fk new:List (Nat×aA)} {ρ:bI} {a:Act} {w:World} (h:Vl ft fk new ρ a w):mb fk new ρ w:=⟨h.mj,h.sep,h.aT,h.ep,h.fresh⟩
def af (P:Program) (f:FuncId) (args:List SV) (fk:List (Nat×aA)) (c:SV) (new upd:List (Nat×aA)):Prop:=
 (De P f∧∀ρ w z,au ρ args z→mb fk new ρ w→
  Calls P f (List.zipWith ct args z).toArray w fun e w'=>∃v ρ',e= .returned v∧jb ρ w c new upd v ρ' w')∨
 (∀ρ w z,au ρ args z→mb fk new ρ w→∃v ρ' w',(callFunc f (List.zipWith ct args z).toArray).run P w= .ok (.value v) w'∧jb ρ w c new upd v ρ' w')
def bp:SV→Bool
 |.any|.cC _=>false
 |_=>true
theorem Df {ρ:bI} {c:SV} {v:Value} (h:bp c=true) (hv:Has ρ c v):∃x,aG ρ c x∧v=ct c x:=by
 cases c<;>simp[bp]at h<;>simpa only[Has]using hv
def KC (fr:List (Nat×SV)):List Operand→Option (List SV)
 |[]=>some []
 |x::r=>match ev fr x with
  |none=>none
  |some c=>match bp c with
   |false=>none
   |true=>match KC fr r with
    |none=>none
    |some l=>some (c::l)
theorem wY {fr:List (Nat×SV)}:∀{xs:List Operand} {l:List SV},KC fr xs=some l→∀ρ a,(∀t s,(t,s)∈fr→Has ρ s (a.tmps.getD t undef))→∃z,au ρ l z∧xs.map (Act.eval a)=List.zipWith ct l z
 |[],l,h,ρ,a,_=>by simp[KC]at h;subst h;exact⟨[],by simp[au],rfl⟩
 |x::r,l,h,ρ,a,hf=>by
  simp only[KC]at h
  cases hx:ev fr x with
  |none=>rw[hx]at h;simp at h
  |some c=>
   rw[hx]at h
   simp only at h
   cases hp:bp c with
   |false=>rw[hp]at h;simp at h
   |true=>
    rw[hp]at h
    simp only at h
    cases hr:KC fr r with
    |none=>rw[hr]at h;simp at h
    |some l'=>
     rw[hr]at h
     simp only[Option.some.injEq]at h
     subst h
     obtain⟨z,h1,h2⟩:=wY hr ρ a hf
     obtain⟨y,h3,h4⟩:=Df hp (ak hx ρ a hf)
     exact⟨y::z,by simp only[au];exact⟨y,z,rfl,h3,h1⟩,by simp[h2,h4]⟩
section
variable {P:Program} {o:Oper} {fr:List (Nat×SV)}
theorem Py {x:Operand} {xs:Array Operand} {ts:Array TypeId} {f:FuncId} {first cap args:List SV} {fk new upd:List (Nat×aA)} {c:SV}
  (ho:o.op= .call ⟨.value x,xs,ts⟩) (hx:ev fr x=some (.clo f first cap)) (hxs:KC fr xs.toList=some args)
  (hc:af P f (first++(args++cap)) fk c new upd):bL P o fr fk c new upd:=by
 intro ρ a w hp
 have e1:=ak hx ρ a hp.dj
 simp only[Has,aG]at e1
 obtain⟨_,⟨fz,cz,h1,h2,rfl⟩,hv⟩:=e1
 simp only[ct,SV.aU,if_true,List.headD_cons]at hv
 obtain⟨z,h3,h4⟩:=wY hxs ρ a hp.dj
 have zl:∀(l:List SV) (z:List (List Value)),au ρ l z→l.length=z.length:=by
  intro l
  induction l with
  |nil=>intro z hz;simp only[au]at hz;subst hz;rfl
  |cons c l ih=>intro z hz;simp only[au]at hz;obtain⟨x,r,rfl,_,h⟩:=hz;simp[ih r h]
 have zP:(List.zipWith ct (first++(args++cap)) (fz++(z++cz))).toArray=((List.zipWith ct first fz).toArray++xs.map (Act.eval a))++(List.zipWith ct cap cz).toArray:=by
  rw[List.zipWith_append (zl _ _ h1),List.zipWith_append (zl _ _ h3),←h4]
  apply Array.ext'
  simp
 have Sz:(execOp a.eval o).run P w=(callFunc f (List.zipWith ct (first++(args++cap)) (fz++(z++cz))).toArray).run P w:=by
  rw[zP]
  simp[execOp,ho,resolve,hv,Deferred.ofValue,invoke]
 rcases hc with⟨⟨fn,hf,hn,hb⟩,eS⟩|hext
 ·have ng:(execOp a.eval o).run P w= .ok (.enter f (List.zipWith ct (first++(args++cap)) (fz++(z++cz))).toArray) w:=by
   have hn':¬fn.name= "runtime.NumGoroutine" :=by simpa using hn
   have fV:¬fn.body=none:=fun h=>by rw[h]at hb;cases hb
   rw[Sz]
   simp[callFunc,hf,hn',fV]
  unfold goes
  rw[ng]
  simp only
  refine(eS ρ w _ (cI h1 (cI h3 h2)) hp.toW).mono ?_
  rintro e w' ⟨v,ρ',rfl,b9⟩
  exact⟨v,rfl,v,ρ',rfl,b9⟩
 ·obtain⟨v,ρ',w',hr,b9⟩:=hext ρ w _ (cI h1 (cI h3 h2)) hp.toW
  unfold goes
  rw[Sz,hr]
  exact⟨v,ρ',rfl,b9⟩
def SA (P:Program) (k:Nat) (rc:Loop) (ts:List Nat) (cap args:List SV) (fk:List (Nat×aA)) (c:SV) (new upd:List (Nat×aA)):Prop:=
 ∀ρ w z zc l t,au ρ args z→au ρ cap zc→(List.zipWith ct cap zc=ts.map fun t=>rc.tmps.getD t undef)→ρ.key k=some (l,t)→mb fk new ρ w→
  ∃f tmps assign body,(Instr.yield l (List.zipWith ct args z).toArray).run P w= .ok (.round l f tmps assign body) w∧
   RoundIn Fence.wide 0 P l f tmps assign body w fun e w'=>∃v ρ',e= .returned v∧jb ρ w c new upd v ρ' w'
theorem KD {x:Operand} {xs:Array Operand} {ts:Array TypeId} {k:Nat} {rc:Loop} {us:List Nat} {cap args:List SV} {fk new upd:List (Nat×aA)} {c:SV}
  (ho:o.op= .call ⟨.value x,xs,ts⟩) (hx:ev fr x=some (.yld k rc us cap)) (hxs:KC fr xs.toList=some args)
  (hc:SA P k rc us cap args fk c new upd):bL P o fr fk c new upd:=by
 intro ρ a w hp
 have e1:=ak hx ρ a hp.dj
 simp only[Has,aG]at e1
 obtain⟨_,⟨l,t,h0,rfl,zc,h1,h2⟩,hv⟩:=e1
 simp only[ct,SV.aU,if_true,List.headD_cons]at hv
 obtain⟨z,h3,h4⟩:=wY hxs ρ a hp.dj
 obtain⟨f,tmps,assign,body,hy,hr⟩:=hc ρ w z zc l t h3 h1 h2 h0 hp.toW
 have ng:(execOp a.eval o).run P w= .ok (.round l f tmps assign body) w:=by
  have e:xs.map (Act.eval a)=(List.zipWith ct args z).toArray:=by apply Array.ext';simp[h4]
  rw[←hy,←e]
  simp[execOp,ho,resolve,hv,Deferred.ofValue,invoke]
 unfold goes
 rw[ng]
 simp only
 refine hr.mono ?_
 rintro e w' ⟨v,ρ',rfl,b9⟩
 exact⟨v,rfl,v,ρ',rfl,b9⟩
end
end Go.Sx
namespace Go.Sx
theorem fh {ρ:bI} {k s i n:Nat} {v:Value} (h:Has ρ (.aK k s i n) v):
  (∃b t cap,ρ.key k=some (b,t)∧n≤cap∧(i+cap)*s≤t∧v= .slice (some ⟨b,i*s,none⟩) n cap)∨(n=0∧∃a,v= .slice a 0 0):=by
 simp only[Has,aG]at h
 obtain⟨x,h1,rfl⟩:=h
 rcases h1 with⟨b,t,cap,e1,e2,e3,rfl⟩|⟨e1,a,rfl⟩
 ·exact .inl ⟨b,t,cap,e1,e2,e3,by simp[ct,SV.aU]⟩
 ·exact .inr ⟨e1,a,by simp[ct,SV.aU]⟩
theorem fW {ρ:bI} {k s i n:Nat} {v:Value} (h:(∃b t cap,ρ.key k=some (b,t)∧n≤cap∧(i+cap)*s≤t∧v= .slice (some ⟨b,i*s,none⟩) n cap)∨(n=0∧∃a,v= .slice a 0 0)):Has ρ (.aK k s i n) v:=by
 simp only[Has,aG]
 refine⟨[v], ?_,by simp[ct,SV.aU]⟩
 rcases h with⟨b,t,cap,e1,e2,e3,rfl⟩|⟨e1,a,rfl⟩
 ·exact .inl ⟨b,t,cap,e1,e2,e3,rfl⟩
 ·exact .inr ⟨e1,a,rfl⟩
theorem Hg {ρ:bI} {k s i r:Nat} {v:Value} (h:Has ρ (.ptr k s i r) v):∃b t,ρ.key k=some (b,t)∧v= .pointer (some ⟨b,i*s+r,none⟩):=by
 simp only[Has,aG]at h
 obtain⟨_,⟨b,n,bJ,rfl⟩,rfl⟩:=h
 exact⟨b,n,bJ,by simp[ct,SV.aU]⟩
theorem Bp {ρ:bI} {k s i r b t:Nat} (h:ρ.key k=some (b,t)):Has ρ (.ptr k s i r) (.pointer (some ⟨b,i*s+r,none⟩)):=by
 simp only[Has,aG]
 exact⟨_,⟨b,t,h,rfl⟩,by simp[ct,SV.aU]⟩
section
variable {P:Program} {o:Oper} {ft:List (Nat×SV)} {fk:List (Nat×aA)}
theorem Dg {x:Operand} {k s i r:Nat} (ho:o.op= .nilCheck x) (hx:aZ ft x (.ptr k s i r)):bL P o ft fk (.ptr k s i r) [] []:=
 bo fun ρ a w hp=>by
  obtain⟨b,t,h1,h2⟩:=Hg (hx ρ a hp.dj)
  exact⟨_,by simp[execOp,ho,h2],Bp h1⟩
theorem Bq {x:Operand} {f:FuncId} {first cap:List SV} (ho:o.op= .nilCheck x) (hx:aZ ft x (.clo f first cap)):bL P o ft fk (.clo f first cap) [] []:=
 bo fun ρ a w hp=>by
  have h:=hx ρ a hp.dj
  have h':=h
  simp only[Has,aG]at h'
  obtain⟨_,⟨fz,cz,_,_,rfl⟩,hv⟩:=h'
  simp only[ct,SV.aU,if_true,List.headD_cons]at hv
  exact⟨_,by simp[execOp,ho,hv],hv▸h⟩
theorem Br {t e:TypeId} {x ix:Operand} {ti te:TI} {k s i n:Nat} {kd:IntKind} {j:Int} (ho:o.op= .indexAddr t x ix) (hx:aZ ft x (.aK k s i n)) (hi:aZ ft ix (.val (.int kd j)))
  (ht:aE P t ti) (hk:ti.kind= .aK e) (he:aE P e te) (hs:te.size=s) (h0:0≤j) (hj:j<n):bL P o ft fk (.ptr k s (i+j.toNat) 0) [] []:=
 bo fun ρ a w hp=>by
  have e2:=aJ (hi ρ a hp.dj)
  have hu:=ht.kind;rw[hk]at hu
  rcases fh (hx ρ a hp.dj)with⟨b,t',cap,h1,h2,h3,h4⟩|⟨h1,_⟩
  ·refine⟨.pointer (some ⟨b,(i+j.toNat)*s+0,none⟩), ?_,Bp h1⟩
   have fB:(⟨b,i*s,none⟩:Addr).add (j.toNat*s)=⟨b,(i+j.toNat)*s+0,none⟩:=by
    unfold Addr.add
    rw[Nat.add_mul]
    split
    ·rename_i h0;simp[h0]
    ·rfl
   have oc:0≤j∧j<(n:Int):=⟨h0,hj⟩
   simp only[execOp,ho,Instr.indexAt,e2,h4,asIntOf,Sem.run_bind,Sem.run_pure,Result.andThen_ok,run_underlying hu,oc,and_self,if_true,he.sizeOf,hs,fB]
  ·omega
theorem Dh {t e:TypeId} {x ix:Operand} {ti te:TI} {k s i r n:Nat} {kd:IntKind} {j:Int} (ho:o.op= .indexAddr t x ix) (hx:aZ ft x (.ptr k s i r)) (hi:aZ ft ix (.val (.int kd j)))
  (ht:aE P t ti) (hk:ti.kind= .arr n e) (he:aE P e te) (h0:0≤j) (hj:j<n):bL P o ft fk (.ptr k s i (r+j.toNat*te.size)) [] []:=
 bo fun ρ a w hp=>by
  have e2:=aJ (hi ρ a hp.dj)
  have hu:=ht.kind;rw[hk]at hu
  obtain⟨b,t',h1,h2⟩:=Hg (hx ρ a hp.dj)
  refine⟨.pointer (some ⟨b,i*s+(r+j.toNat*te.size),none⟩), ?_,Bp h1⟩
  have fB:(⟨b,i*s+r,none⟩:Addr).add (j.toNat*te.size)=⟨b,i*s+(r+j.toNat*te.size),none⟩:=by
   unfold Addr.add
   split
   ·rename_i h0;simp[h0]
   ·simp[Nat.add_assoc]
  have oc:0≤j∧j<(n:Int):=⟨h0,hj⟩
  simp only[execOp,ho,Instr.indexAt,e2,h2,asIntOf,Sem.run_bind,Sem.run_pure,Result.andThen_ok,run_underlying hu,Instr.sureAddr,oc,and_self,if_true,he.sizeOf,fB]
theorem Di {t:TypeId} {x ix:Operand} {ti:TI} {s:ByteArray} {kd:IntKind} {j:Int} (ho:o.op= .index t x ix) (hx:aZ ft x (.val (.string s))) (hi:aZ ft ix (.val (.int kd j)))
  (ht:aE P t ti) (hk:ti.kind= .str) (h0:0≤j) (hj:j<s.size):bL P o ft fk (.val (.int .u8 (((s.data.getD j.toNat 0).toNat:Nat):Int))) [] []:=
 bo fun ρ a w hp=>by
  have e1:=aJ (hx ρ a hp.dj)
  have e2:=aJ (hi ρ a hp.dj)
  have hu:=ht.kind;rw[hk]at hu
  refine⟨_, ?_,bS rfl⟩
  have aI:j.toNat<s.size:=aa
  have hg:s[j.toNat]? =some (s.data.getD j.toNat 0):=by
   have agQ:j.toNat<s.data.size:=aI
   rw[Array.getD_eq_getD_getElem?,getElem?_pos s j.toNat aI,Array.getElem?_eq_getElem agQ]
   rfl
  simp only[execOp,ho,Instr.index,e1,e2,asIntOf,Sem.run_bind,Sem.run_pure,Result.andThen_ok,run_underlying hu,h0,if_true,hg]
def FI:SV→Option Int
 |.aK _ _ _ n=>some (n:Int)
 |.val (.string s)=>some (s.size:Int)
 |.val (.slice _ n _)=>some (n:Int)
 |_=>none
theorem FJ {x:Operand} {xs:Array Operand} {t:TypeId} {ts:Array TypeId} {c:SV} {n:Int} {ti:TI} (ho:o.op= .call ⟨.builtin .len,xs,ts⟩) (hxs:xs= #[x]) (nh:ts= #[t]) (hx:aZ ft x c) (hn:FI c=some n) (ht:aE P t ti)
  (hk:ti.kind= .str∧(∃s,c= .val (.string s))∨(∃e,ti.kind= .aK e)∧(∀s,c≠ .val (.string s))):bL P o ft fk (.val (.int .i64 n)) [] []:=
 bo fun ρ a w hp=>by
  have hv:=hx ρ a hp.dj
  refine⟨_, ?_,bS rfl⟩
  have hu:=ht.kind
  rcases hk with⟨hk,s,rfl⟩|⟨⟨e,hk⟩,hns⟩
  ·rw[hk]at hu
   have e1:=aJ hv
   simp only[FI,Option.some.injEq]at hn
   subst hn
   simp[execOp,ho,hxs,nh,resolve,invoke,builtin,Builtin.len_,run_underlying hu,e1,goInt]
  ·rw[hk]at hu
   cases c<;>simp only[FI,reduceCtorEq]at hn
   case aK k s i m=>
    simp only[Option.some.injEq]at hn
    subst hn
    rcases fh hv with⟨b,t',cap,_,_,_,h4⟩|⟨rfl,a',h4⟩
    ·simp[execOp,ho,hxs,nh,resolve,invoke,builtin,Builtin.len_,run_underlying hu,h4,goInt]
    ·simp[execOp,ho,hxs,nh,resolve,invoke,builtin,Builtin.len_,run_underlying hu,h4,goInt]
   case val v=>
    have e1:=aJ hv
    cases v<;>simp only[Option.some.injEq,reduceCtorEq]at hn
    case string s=>exact absurd rfl (hns s)
    case slice a' m cap=>
     subst hn
     simp[execOp,ho,hxs,nh,resolve,invoke,builtin,Builtin.len_,run_underlying hu,e1,goInt]
theorem VB {xs:Array Operand} {ts:Array TypeId} {x y:Operand} {k k':IntKind} {a b:Int} (ho:o.op= .call ⟨.builtin .min,xs,ts⟩) (hxs:xs= #[x,y]) (hx:aZ ft x (.val (.int k a))) (hy:aZ ft y (.val (.int k' b))):
  bL P o ft fk (.val (.int k (if b<a then b else a))) [] []:=
 bo fun ρ ac w hp=>by
  have e1:=aJ (hx ρ ac hp.dj)
  have e2:=aJ (hy ρ ac hp.dj)
  refine⟨_, ?_,bS rfl⟩
  simp[execOp,ho,hxs,resolve,invoke,builtin,e1,e2,run_min_int2]
theorem VC {xs:Array Operand} {ts:Array TypeId} {x y:Operand} {k k':IntKind} {a b:Int} (ho:o.op= .call ⟨.builtin .max,xs,ts⟩) (hxs:xs= #[x,y]) (hx:aZ ft x (.val (.int k a))) (hy:aZ ft y (.val (.int k' b))):
  bL P o ft fk (.val (.int k (if b>a then b else a))) [] []:=
 bo fun ρ ac w hp=>by
  have e1:=aJ (hx ρ ac hp.dj)
  have e2:=aJ (hy ρ ac hp.dj)
  refine⟨_, ?_,bS rfl⟩
  simp[execOp,ho,hxs,resolve,invoke,builtin,e1,e2,run_max_int2]
theorem KF {t e:TypeId} {x:Operand} {lo hi:Option Operand} {ti te:TI} {k s i n:Nat} {l h:Int} (ho:o.op= .slice t x lo hi none) (hx:aZ ft x (.aK k s i n))
  (C0:lo=none∧l=0∨∃y kd,lo=some y∧aZ ft y (.val (.int kd l))) (C1:hi=none∧h=n∨∃y kd,hi=some y∧aZ ft y (.val (.int kd h)))
  (ht:aE P t ti) (hk:ti.kind= .aK e) (he:aE P e te) (hs:te.size=s) (h0:0≤l) (hlh:l≤h) (hh:h≤n):bL P o ft fk (.aK k s (i+l.toNat) (h - l).toNat) [] []:=
 bo fun ρ a w hp=>by
  have hu:=ht.kind;rw[hk]at hu
  have key:∀(ad:Option Addr) (m cap:Nat),n=m→m≤cap→a.eval x= .slice ad m cap→
    (execOp a.eval o).run P w= .ok (.value (.slice (if cap=l.toNat then ad else ad.map (·.add (l.toNat*s))) (h.toNat - l.toNat) (cap - l.toNat))) w:=by
   intro ad m cap hnm hmc hv
   have Ke:∀z:Operand,∀kd,aZ ft z (.val (.int kd h))→(Instr.sliceBound (a.eval z) cap .sliceAcap).run P w= .ok h.toNat w:=by
    intro z kd hz
    have:=aJ (hz ρ a hp.dj)
    have hb:0≤h∧h≤(cap:Int):=aa
    simp[Instr.sliceBound,this,asIntOf,hb]
   have Pz:∀z:Operand,∀kd,aZ ft z (.val (.int kd l))→(Instr.sliceBound (a.eval z) h.toNat .sliceB).run P w= .ok l.toNat w:=by
    intro z kd hz
    have:=aJ (hz ρ a hp.dj)
    have hb:0≤l∧l≤(h.toNat:Int):=aa
    simp only[Instr.sliceBound,this,asIntOf,Sem.run_bind,Sem.run_pure,Result.andThen_ok,hb,and_self,if_true]
   have q8:(Instr.sliceBounds true m cap (lo.map a.eval) (hi.map a.eval) none).run P w= .ok (l.toNat,h.toNat,cap) w:=by
    unfold Instr.sliceBounds
    rcases C1 with⟨rfl,rfl⟩|⟨z,kz,rfl,hz⟩<;>rcases C0 with⟨rfl,rfl⟩|⟨y,ky,rfl,hy⟩
    ·simp[hnm]
    ·have:=Pz y ky hy;simp at this;rw[hnm]at this;simp[hnm,this]
    ·simp[Ke z kz hz]
    ·simp[Ke z kz hz,Pz y ky hy]
   simp only[execOp,ho,Option.map_none,Instr.sliceAt,Sem.run_bind,run_underlying hu,Result.andThen_ok,Instr.slice,hv,q8,he.sizeOf,hs,Sem.run_pure]
  rcases fh (hx ρ a hp.dj)with⟨b,t',cap,h1,h2,h3,h4⟩|⟨rfl,ad,h4⟩
  ·refine⟨_,key _ n cap rfl h2 h4,fW ?_⟩
   by_cases hc:cap=l.toNat
   ·right
    have:h.toNat - l.toNat=0:=aa
    refine⟨aa,some ⟨b,i*s,none⟩, ?_⟩
    rw[if_pos hc,this,hc,Nat.sub_self]
   ·left
    refine⟨b,t',cap - l.toNat,h1,aa, ?_, ?_⟩
    ·rw[show i+l.toNat+(cap - l.toNat)=i+cap from by omega];exact h3
    ·rw[if_neg hc]
     have fB:(⟨b,i*s,none⟩:Addr).add (l.toNat*s)=⟨b,(i+l.toNat)*s,none⟩:=by
      unfold Addr.add
      rw[Nat.add_mul]
      split
      ·rename_i h0;simp[h0]
      ·rfl
     rw[Option.map_some,fB,show(h - l).toNat=h.toNat - l.toNat from by omega]
  ·refine⟨_,key ad 0 0 rfl (Nat.le_refl _) h4,fW (.inr ⟨aa,ad, ?_⟩)⟩
   have h1:l.toNat=0:=aa
   have h2:h.toNat=0:=aa
   simp[h1,h2]
theorem Dj {t:TypeId} {x:Operand} {lo hi:Option Operand} {ti:TI} {s:ByteArray} {l h:Int} (ho:o.op= .slice t x lo hi none) (hx:aZ ft x (.val (.string s)))
  (C0:lo=none∧l=0∨∃y kd,lo=some y∧aZ ft y (.val (.int kd l))) (C1:hi=none∧h=s.size∨∃y kd,hi=some y∧aZ ft y (.val (.int kd h)))
  (ht:aE P t ti) (hk:ti.kind= .str) (h0:0≤l) (hlh:l≤h) (hh:h≤s.size):bL P o ft fk (.val (.string (s.extract l.toNat h.toNat))) [] []:=
 bo fun ρ a w hp=>by
  have hu:=ht.kind;rw[hk]at hu
  have e1:=aJ (hx ρ a hp.dj)
  refine⟨_, ?_,bS rfl⟩
  have Ke:∀z:Operand,∀kd,aZ ft z (.val (.int kd h))→(Instr.sliceBound (a.eval z) s.size .sliceAlen).run P w= .ok h.toNat w:=by
   intro z kd hz
   have:=aJ (hz ρ a hp.dj)
   have hb:0≤h∧h≤(s.size:Int):=aa
   simp[Instr.sliceBound,this,asIntOf,hb]
  have Pz:∀z:Operand,∀kd,aZ ft z (.val (.int kd l))→(Instr.sliceBound (a.eval z) h.toNat .sliceB).run P w= .ok l.toNat w:=by
   intro z kd hz
   have:=aJ (hz ρ a hp.dj)
   have hb:0≤l∧l≤(h.toNat:Int):=aa
   simp only[Instr.sliceBound,this,asIntOf,Sem.run_bind,Sem.run_pure,Result.andThen_ok,hb,and_self,if_true]
  have q8:(Instr.sliceBounds false s.size s.size (lo.map a.eval) (hi.map a.eval) none).run P w= .ok (l.toNat,h.toNat,s.size) w:=by
   unfold Instr.sliceBounds
   rcases C1 with⟨rfl,rfl⟩|⟨z,kz,rfl,hz⟩<;>rcases C0 with⟨rfl,rfl⟩|⟨y,ky,rfl,hy⟩
   ·simp
   ·have:=Pz y ky hy;simp at this;simp[this]
   ·simp[Ke z kz hz]
   ·simp[Ke z kz hz,Pz y ky hy]
  simp only[execOp,ho,Option.map_none,Instr.sliceAt,Sem.run_bind,run_underlying hu,Result.andThen_ok,Instr.slice,e1,Option.isSome_none,Bool.false_eq_true,if_false,q8,Sem.run_pure]
end
end Go.Sx
namespace Go.Sx
theorem I1 {d:Data} {s i:Nat} {x:Option Prop×List SV} (h:elem d s i=some x):d.live=true:=by
 cases d<;>first|rfl|simp[elem]at h
def Rows (ρ:bI) (s:Nat):Data→List (List Value)→Prop
 |.ints kd xs,z=>s=1∧z=xs.map (fun x=>[.int kd x])
 |.cd xs,z=>s=5∧z=xs.map bR
 |.seq w xs,z=>s=w∧au (cE ρ.aT ρ.b7) xs z∧∀x∈xs,x.width=w
 |.one _,_=>False
 |.dead,_=>False
 |.loop _,_=>False
def fi:Data→Nat
 |.ints _ xs=>xs.length
 |.cd xs=>xs.length
 |.seq _ xs=>xs.length
 |_=>0
def cW:Data→Option Nat
 |.ints _ _=>some 1
 |.cd _=>some 5
 |.seq w _=>some w
 |_=>none
theorem cJ {ρ:bI}:∀{l:List SV} {z:List (List Value)},au ρ l z→z.length=l.length
 |[],z,h=>by simp only[au]at h;subst h;rfl
 |c::l,z,h=>by simp only[au]at h;obtain⟨x,r,rfl,_,h⟩:=h;simp[cJ h]
theorem Rows.of {ρ:bI} {d:Data} {s:Nat} {vs:List Value} (h:cQ ρ d vs) (hs:cW d=some s):∃z,Rows ρ s d z∧vs=z.flatten:=by
 cases d<;>simp only[cW,Option.some.injEq,reduceCtorEq]at hs<;>subst hs<;>simp only[cQ]at h
 case ints kd xs=>exact⟨_,⟨rfl,rfl⟩,by rw[h,←List.flatMap_def,List.map_eq_flatMap]⟩
 case cd xs=>exact⟨_,⟨rfl,rfl⟩,by rw[h,List.flatMap_def]⟩
 case seq xs=>obtain⟨z,h1,h2,h3⟩:=h;exact⟨z,⟨rfl,h1,h3⟩,h2⟩
theorem Rows.dO {ρ:bI} {d:Data} {s:Nat} {z:List (List Value)} (h:Rows ρ s d z):d.ox=false:=by
 cases d<;>first|rfl|(simp only[Rows]at h)
theorem Rows.data {ρ:bI} {d:Data} {s:Nat} {z:List (List Value)} (h:Rows ρ s d z):cQ ρ d z.flatten:=by
 cases d<;>simp only[Rows]at h<;>simp only[cQ]
 case ints kd xs=>obtain⟨_,rfl⟩:=h;rw[←List.flatMap_def,List.map_eq_flatMap]
 case cd xs=>obtain⟨_,rfl⟩:=h;rw[List.flatMap_def]
 case seq w xs=>exact⟨z,h.2.1,rfl,h.2.2⟩
theorem Rows.len {ρ:bI} {d:Data} {s:Nat} {z:List (List Value)} (h:Rows ρ s d z):z.length=fi d∧∀u∈z,u.length=s:=by
 cases d<;>simp only[Rows]at h
 case ints kd xs=>obtain⟨rfl,rfl⟩:=h;simp[fi]
 case cd xs=>
  obtain⟨rfl,rfl⟩:=h
  refine⟨by simp[fi],fun u hu=> ?_⟩
  obtain⟨x,_,rfl⟩:=List.mem_map.1 hu
  exact(c9 x).1
 case seq w xs=>
  obtain⟨rfl,h1,h2⟩:=h
  exact⟨cJ h1,fun u hu=>eR xs z h1 h2 u hu⟩
theorem cl {s:Nat}:∀(z:List (List Value)) (n:Nat),(∀u∈z,u.length=s)→(z.take n).flatten=z.flatten.take (n*s)
 |[],n,_=>by simp
 |x::z,0,_=>by simp
 |x::z,n+1,h=>by
  have hx:=h x (List.mem_cons_self ..)
  have ih:=cl z n (fun u hu=>h u (List.mem_cons_of_mem _ hu))
  rw[List.take_succ_cons,List.flatten_cons,List.flatten_cons,ih,Nat.succ_mul,Nat.add_comm,←hx,List.take_length_add_append]
theorem fp {s:Nat}:∀(z:List (List Value)) (n:Nat),(∀u∈z,u.length=s)→(z.drop n).flatten=z.flatten.drop (n*s)
 |[],n,_=>by simp
 |x::z,0,_=>by simp
 |x::z,n+1,h=>by
  have hx:=h x (List.mem_cons_self ..)
  have ih:=fp z n (fun u hu=>h u (List.mem_cons_of_mem _ hu))
  rw[List.drop_succ_cons,List.flatten_cons,ih,Nat.succ_mul,Nat.add_comm,←hx,List.drop_length_add_append]
theorem aL {s:Nat}:∀(z:List (List Value)),(∀u∈z,u.length=s)→z.flatten.length=z.length*s
 |[],_=>by simp
 |x::z,h=>by
  have hx:=h x (List.mem_cons_self ..)
  have ih:=aL z (fun u hu=>h u (List.mem_cons_of_mem _ hu))
  rw[List.flatten_cons,List.length_append,ih,hx,List.length_cons,Nat.succ_mul,Nat.add_comm]
theorem iz {ρ:bI}:∀{l:List SV} {z:List (List Value)} (n:Nat),au ρ l z→au ρ (l.take n) (z.take n)
 |[],z,n,h=>by simp only[au]at h;subst h;simp[au]
 |c::l,z,0,h=>by simp[au]
 |c::l,z,n+1,h=>by
  simp only[au]at h
  obtain⟨x,r,rfl,h1,h2⟩:=h
  simp only[List.take_succ_cons,au]
  exact⟨x,_,rfl,h1,iz n h2⟩
theorem jX {ρ:bI}:∀{l:List SV} {z:List (List Value)} (n:Nat),au ρ l z→au ρ (l.drop n) (z.drop n)
 |[],z,n,h=>by simp only[au]at h;subst h;simp[au]
 |c::l,z,0,h=>by simpa using h
 |c::l,z,n+1,h=>by
  simp only[au]at h
  obtain⟨x,r,rfl,h1,h2⟩:=h
  simp only[List.drop_succ_cons]
  exact jX n h2
def q9 (d:Data) (n:Nat) (d2:Data) (i m:Nat):Option Data:=
 match d,d2 with
 |.ints k xs,.ints k' ys=>if k'=k then some (.ints k (xs.take n++(ys.drop i).take m))else none
 |.cd xs,.cd ys=>some (.cd (xs.take n++(ys.drop i).take m))
 |.seq w xs,.seq w' ys=>if w'=w then some (.seq w (xs.take n++(ys.drop i).take m))else none
 |_,_=>none
theorem ui {ρ:bI} {d d2 d':Data} {n i m s s2:Nat} {z z2:List (List Value)} (h:q9 d n d2 i m=some d') (hz:Rows ρ s d z) (lR:Rows ρ s2 d2 z2):Rows ρ s d' (z.take n++(z2.drop i).take m)∧s2=s:=by
 unfold q9 at h
 split at h
 ·split at h
  ·rename_i hk
   subst hk
   simp only[Option.some.injEq]at h
   subst h
   simp only[Rows]at hz lR ⊢
   obtain⟨rfl,rfl⟩:=hz
   obtain⟨rfl,rfl⟩:=lR
   exact⟨⟨rfl,by simp[List.map_take,List.map_drop]⟩,rfl⟩
  ·simp at h
 ·simp only[Option.some.injEq]at h
  subst h
  simp only[Rows]at hz lR ⊢
  obtain⟨rfl,rfl⟩:=hz
  obtain⟨rfl,rfl⟩:=lR
  exact⟨⟨rfl,by simp[List.map_take,List.map_drop]⟩,rfl⟩
 ·split at h
  ·rename_i hk
   subst hk
   simp only[Option.some.injEq]at h
   subst h
   simp only[Rows]at hz lR ⊢
   obtain⟨rfl,h1,h2⟩:=hz
   obtain⟨rfl,h3,h4⟩:=lR
   refine⟨⟨rfl,cI (iz n h1) (iz m (jX i h3)), ?_⟩,rfl⟩
   intro x hx
   rcases List.mem_append.1 hx with hx|hx
   ·exact h2 x (List.mem_of_mem_take hx)
   ·exact h4 x (List.mem_of_mem_drop (List.mem_of_mem_take hx))
  ·simp at h
 ·simp at h
def rf (te:TI) (n:Nat):Data:=
 match te.zero with
 |[.frac _]=>.cd (List.replicate n 0)
 |[.val (.int kd _)]=>.ints kd (List.replicate n 0)
 |[c]=>.seq te.size (List.replicate n c)
 |l=>.seq te.size (List.replicate n (.agg l))
theorem gM (z:Array Value) (s:Nat) (hs:z.size=s):∀n,(madeCells z (n*s)).toList=(List.replicate n z.toList).flatten:=by
 intro n
 induction n with
 |zero=>simp[madeCells]
 |succ n ih=>
  rw[List.replicate_succ',List.flatten_append,←ih]
  simp only[madeCells,Array.toList_map,Array.toList_range,List.flatten_cons,List.flatten_nil,List.append_nil]
  rw[Nat.succ_mul,List.range_add,List.map_append]
  congr 1
  rw[List.map_map]
  apply List.ext_getElem
  ·simp[hs]
  ·intro i h1 h2
   simp only[List.length_map,List.length_range]at h1
   simp only[List.getElem_map,List.getElem_range,Function.comp,hs]
   rw[Nat.add_comm,Nat.add_mul_mod_self_right,Nat.mod_eq_of_lt h1]
   simp[hs,h1]
theorem FK {te:TI} {ρ:bI} {z:Value} (hz:z.cells.toList=te.zero.flatMap eP) (fG:z.cells.size=te.size) (nb:te.zero.all Vm=true)
  (hzero:∀q,te.zero=[.frac q]→q=0) (hzi:∀kd x,te.zero=[.val (.int kd x)]→x=0) (n:Nat):Rows ρ te.size (rf te n) (List.replicate n z.cells.toList):=by
 have ac4:∀c:SV,∀y,aG (cE ρ.aT ρ.b7) c y→au (cE ρ.aT ρ.b7) (List.replicate n c) (List.replicate n y):=by
  intro c y hy
  clear hz fG
  induction n with
  |zero=>simp[au]
  |succ n ih=>simp only[List.replicate_succ,au];exact⟨y,_,rfl,hy,ih⟩
 have hlen:te.size=(te.zero.flatMap eP).length:=by rw[←hz,Array.length_toList];exact fG.symm
 unfold rf
 split
 ·rename_i q hq
  rw[hq]at hz hlen
  have:=hzero q hq
  subst this
  simp only[List.flatMap_cons,List.flatMap_nil,List.append_nil,eP]at hz hlen
  rw[hz]
  exact⟨by rw[hlen,(c9 0).1],by simp⟩
 ·rename_i kd x hq
  rw[hq]at hz hlen
  have:=hzi kd x hq
  subst this
  simp only[List.flatMap_cons,List.flatMap_nil,List.append_nil,eP]at hz hlen
  rw[hz]
  exact⟨by rw[hlen];rfl,by simp⟩
 ·rename_i c _ _ hq
  rw[hq]at hz hlen nb
  simp only[List.flatMap_cons,List.flatMap_nil,List.append_nil]at hz hlen
  simp only[List.all_cons,List.all_nil,Bool.and_true]at nb
  rw[hz]
  have hc:=zN (ρ:=cE ρ.aT ρ.b7) nb
  exact⟨rfl,ac4 c _ hc,fun x hx=>by rw[(List.mem_replicate.1 hx).2,←(aG.len c _ hc).1,hlen]⟩
 ·have hc:aG (cE ρ.aT ρ.b7) (.agg te.zero) (te.zero.flatMap eP):=by
   simp only[aG]
   exact⟨_,dF nb,by simp[List.flatMap_def]⟩
  rw[hz]
  exact⟨rfl,ac4 _ _ hc,fun x hx=>by rw[(List.mem_replicate.1 hx).2,←(aG.len _ _ hc).1,hlen]⟩
def wZ (te:TI):Bool:=
 match te.zero with
 |[.frac q]=>q.num==0
 |[.val (.int _ x)]=>x==0
 |_=>true
theorem Dk {te:TI} (h:wZ te=true):(∀q,te.zero=[.frac q]→q=0)∧(∀kd x,te.zero=[.val (.int kd x)]→x=0):=by
 constructor
 ·intro q hq
  simp only[wZ,hq,beq_iff_eq]at h
  exact Rat.num_eq_zero.1 h
 ·intro kd x hq
  simpa [wZ,hq]using h
section
variable {P:Program} {o:Oper} {ft:List (Nat×SV)} {fk:List (Nat×aA)}
theorem jd {ρ:bI} {w:World} {k s n cap:Nat} {ty:TypeId} {d:Data} {vs ex:List Value} (hk:ρ.key k=none) (hd:cQ ρ d vs) (hnc:n≤cap) (hcap:cap*s≤(vs++ex).length) (hex:∀v∈ex,v.oneCell'=true) (hL:d.ox=false:=by rfl):
  jb ρ w (.aK k s 0 n) [(k,⟨ty,true,d⟩)] [] (.slice (some ⟨w.heap.size,0,none⟩) n cap) ⟨fun j=>if j=k then some (w.heap.size,(vs++ex).length)else ρ.key j,ρ.aT,ρ.b7⟩ (w.alloc (.cells (vs++ex).toArray ty (0,0))):=by
 have hle:ρ.Le ⟨fun j=>if j=k then some (w.heap.size,(vs++ex).length)else ρ.key j,ρ.aT,ρ.b7⟩:=⟨fun j x hx=>by
  show(if j=k then _ else _)=_
  by_cases hj:j=k
  ·subst hj;rw[hk]at hx;cases hx
  ·rw[if_neg hj];exact hx,fun b ob hb=>hb⟩
 refine⟨hle, ?_, ?_, ?_, ?_,(fun _ _ _ h=>by cases h), ?_, ?_,fun b ob hb=>.inl hb⟩
 ·refine fW (.inl ⟨w.heap.size,(vs++ex).length,cap,by simp,hnc,by simpa using hcap,by simp⟩)
 ·intro j hj
  show(if j=k then _ else _)=_
  rw[if_neg]
  rintro rfl
  exact hj _ (List.mem_cons_self ..)
 ·exact .fH ((RowKit.Below.refl _ _).alloc (Nat.le_refl _) _)
 ·intro j b hj
  rcases hj with hj|hj
  ·cases hj
  ·simp only[List.mem_singleton,Prod.mk.injEq]at hj
   obtain⟨rfl,rfl⟩:=hj
   exact .inr (.inl ⟨w.heap.size,_,vs,ex,by simp,by rw[Data.ck hL];exact heap_alloc_new _ _,hd.mono hle,rfl,hex⟩)
 ·intro j b x hj hx
  simp only[List.mem_singleton,Prod.mk.injEq]at hj
  obtain⟨rfl,rfl⟩:=hj
  simp at hx
  rw[←hx]
  exact .inl (Nat.le_refl _)
 ·intro j b j' b' x x' hj oc a7
  simp only[List.mem_singleton,Prod.mk.injEq]at hj oc
  exact absurd (hj.1.trans oc.1.symm) a7
theorem PA {t e:TypeId} {x y:Operand} {ti te:TI} {k:Nat} {kl kc:IntKind} {l c:Int} (ho:o.op= .makeSlice t x y) (hx:aZ ft x (.val (.int kl l))) (hy:aZ ft y (.val (.int kc c)))
  (ht:aE P t ti) (hk:ti.kind= .aK e) (he:aE P e te) (hz:wZ te=true) (h0:0≤l) (hlc:l≤c) (hb:(te.bytes:Int)*c≤281474976710656) (h63:c≤9223372036854775807):
  bL P o ft fk (.aK k te.size 0 l.toNat) [(k,⟨e,true,rf te l.toNat⟩)] []:=
 dw fun ρ a w hp=>by
  have e1:=aJ (hx ρ a hp.dj)
  have e2:=aJ (hy ρ a hp.dj)
  have hu:=ht.kind;rw[hk]at hu
  obtain⟨i,z,i1,i2,i3,i4,i5,i6,i7,_⟩:=he.info
  have ng:=run_make (P:=P) (w:=w) t e i z hu i1 i4 kl kc l c h0 hlc (by rw[i3];exact hb) h63
  obtain⟨hq,hzi⟩:=Dk hz
  have bZ:=FK (ρ:=ρ) i5 i7 i6 hq hzi l.toNat
  have nb:∀u∈(List.replicate c.toNat z.cells.toList),u.length=te.size:=by
   intro u hu
   rw[(List.mem_replicate.1 hu).2,Array.length_toList];exact i7
  have gf:madeCells z.cells (c.toNat*i.size)=(((List.replicate l.toNat z.cells.toList).flatten)++(List.replicate (c.toNat - l.toNat) z.cells.toList).flatten).toArray:=by
   have:=gM z.cells te.size i7 c.toNat
   rw[i2]
   apply Array.ext'
   rw[this,←List.flatten_append,List.replicate_append_replicate]
   rw[show l.toNat+(c.toNat - l.toNat)=c.toNat from by omega]
  have uh:∀u∈z.cells.toList,u.oneCell'=true:=by
   have h1:=(au.len (ρ:=ρ) te.zero _ (dF i6)).2
   rw[i5,List.flatMap_def];exact h1
  refine⟨_,_,_, ?_,jd (hL:=bZ.dO) (ty:=e) (d:=rf te l.toNat) (cap:=c.toNat) (s:=te.size) (vs:=(List.replicate l.toNat z.cells.toList).flatten) (ex:=(List.replicate (c.toNat - l.toNat) z.cells.toList).flatten) (hp.fresh k _ (List.mem_cons_self ..)) bZ.data aa ?_ ?_⟩
  ·simp only[execOp,ho,e1,e2,Sem.run_bind,ng,Result.andThen_ok,Sem.run_pure,gf]
  ·rw[←List.flatten_append,List.replicate_append_replicate,show l.toNat+(c.toNat - l.toNat)=c.toNat from aa,aL _ nb,List.length_replicate]
   exact Nat.le_refl _
  ·intro v hv
   obtain⟨u,hu,hv⟩:=List.mem_flatten.1 hv
   rw[(List.mem_replicate.1 hu).2]at hv
   exact uh v hv
end
end Go.Sx
namespace Go.Sx
theorem oG (off:Nat):∀(v:List Value) (j:Nat) (L:Array Value),off+j+v.length≤L.size→
  ((v.zipIdx j).foldl (fun cs (c,j)=>cs.setIfInBounds (off+j) c) L).toList=L.toList.take (off+j)++v++L.toList.drop (off+j+v.length)
 |[],j,L,_=>by simp
 |c::v,j,L,h=>by
  simp only[List.length_cons]at h
  simp only[List.zipIdx_cons,List.foldl_cons]
  rw[oG off v (j+1) (L.setIfInBounds (off+j) c) (by simp;omega)]
  simp only[Array.toList_setIfInBounds,List.length_cons]
  have aI:off+j<L.toList.length:=by rw[Array.length_toList];omega
  rw[show off+(j+1)=(off+j)+1 from aa,List.take_succ_eq_append_getElem (by rw[List.length_set];exact aI),List.getElem_set_self,List.take_set_of_le (Nat.le_refl _),
   show off+j+1+v.length=off+j+(v.length+1)from aa,List.drop_set_of_lt aa]
  simp
def jA (f:Nat) (place:Nat→Option (Nat×Nat)) (cs:List SV):List (Nat×List SV)→Option (List SV)
 |[]=>some cs
 |(i,new)::r=>match place i with
  |none=>none
  |some (off,sz)=>match Nat.beq (SV.cu new) sz,Nat.ble (off+sz) (SV.cu cs)with
   |true,true=>match put f cs off sz new with
    |some cs'=>jA f place cs' r
    |none=>none
   |_,_=>none
theorem mm {ρ:bI} {f:Nat} {place:Nat→Option (Nat×Nat)}:∀(parts:List (Nat×List SV)) (cs l:List SV) (rp:List (Nat×Value)) (L:Array Value) (z:List (List Value)),jA f place cs parts=some l→
  au ρ cs z→L.toList=z.flatten→rp.length=parts.length→(∀(j i:Nat) (new:List SV),parts[j]? =some (i,new)→∃v y,rp[j]? =some (i,v)∧au ρ new y∧v.cells.toList=y.flatten)→
  ∃L' z',Instr.fill place L rp=some L'∧au ρ l z'∧L'.toList=z'.flatten
 |[],cs,l,rp,L,z,h,hz,hL,hlen,_=>by
  simp only[jA,Option.some.injEq]at h
  subst h
  obtain rfl:rp=[]:=List.length_eq_zero_iff.1 hlen
  exact⟨L,z,rfl,hz,hL⟩
 |(i,new)::r,cs,l,rp,L,z,h,hz,hL,hlen,hp=>by
  match rp,hlen with
  |(i',v)::rp',hlen=>
   obtain⟨v',y,h1,h2,h3⟩:=hp 0 i new rfl
   simp only[List.getElem?_cons_zero,Option.some.injEq,Prod.mk.injEq]at h1
   obtain⟨rfl,rfl⟩:=h1
   unfold jA at h
   cases zg:place i' with
   |none=>rw[zg]at h;simp at h
   |some x=>
    obtain⟨off,sz⟩:=x
    rw[zg]at h
    simp only at h
    split at h
    ·rename_i hw hle
     have hw:=Nat.eq_of_beq_eq_true hw
     have hle:=Nat.le_of_ble_eq_true hle
     cases hput:put f cs off sz new with
     |none=>rw[hput]at h;simp at h
     |some cs'=>
      rw[hput]at h
      simp only at h
      obtain⟨t,g1,g2⟩:=Bl hput hz h2
      have I0:=(au.len new y h2).1
      have pq:=(au.len cs z hz).1
      have VD:v.cells.size=sz:=by rw[←Array.length_toList,h3,I0,hw]
      have hLs:L.size=z.flatten.length:=by rw[←hL,Array.length_toList]
      have rh:=oG off v.cells.toList 0 L (by rw[Array.length_toList,VD,hLs,pq];omega)
      have KG:(v.cells.zipIdx.foldl (fun cs (c,j)=>cs.setIfInBounds (off+j) c) L).toList=t.flatten:=by
       rw[←Array.foldl_toList,Array.toList_zipIdx,rh,g2,hL,h3,I0,hw]
       simp
      obtain⟨L',z',e1,e2,e3⟩:=mm r cs' l rp' _ t h g1 KG (by simpa using hlen) (fun j i2 new2 hj=>by
       obtain⟨v2,y2,k1,k2,k3⟩:=hp (j+1) i2 new2 (by simpa using hj)
       exact⟨v2,y2,by simpa using k1,k2,k3⟩)
      refine⟨L',z', ?_,e2,e3⟩
      unfold Instr.fill
      rw[zg]
      have VE:(v.cells.size≠sz||off+v.cells.size>L.size)=false:=by
       rw[VD,hLs,pq]
       simp;omega
      simp only[VE,Bool.false_eq_true,if_false]
      exact e1
    ·simp at h
def fX (fr:List (Nat×SV)):List (Nat×Operand)→Option (List (Nat×List SV))
 |[]=>some []
 |(i,x)::r=>match ev fr x with
  |none=>none
  |some c=>match bp c with
   |false=>none
   |true=>match fX fr r with
    |none=>none
    |some l=>some ((i,[c])::l)
theorem iA {fr:List (Nat×SV)}:∀{ps:List (Nat×Operand)} {l:List (Nat×List SV)},fX fr ps=some l→∀ρ a,(∀t s,(t,s)∈fr→Has ρ s (a.tmps.getD t undef))→
  (ps.map fun p=>(p.1,Act.eval a p.2)).length=l.length∧∀(j i:Nat) (new:List SV),l[j]? =some (i,new)→∃v y,(ps.map fun p=>(p.1,Act.eval a p.2))[j]? =some (i,v)∧au ρ new y∧v.cells.toList=y.flatten
 |[],l,h,ρ,a,_=>by simp[fX]at h;subst h;exact⟨rfl,fun j i new h=>by simp at h⟩
 |(i,x)::r,l,h,ρ,a,hf=>by
  simp only[fX]at h
  cases hx:ev fr x with
  |none=>rw[hx]at h;simp at h
  |some c=>
   rw[hx]at h
   simp only at h
   cases hp:bp c with
   |false=>rw[hp]at h;simp at h
   |true=>
    rw[hp]at h
    simp only at h
    cases hr:fX fr r with
    |none=>rw[hr]at h;simp at h
    |some l'=>
     rw[hr]at h
     simp only[Option.some.injEq]at h
     subst h
     obtain⟨h1,h2⟩:=iA hr ρ a hf
     refine⟨by simpa using h1,fun j i2 new hj=> ?_⟩
     cases j with
     |succ j=>simpa using h2 j i2 new (by simpa using hj)
     |zero=>
      simp only[List.getElem?_cons_zero,Option.some.injEq,Prod.mk.injEq]at hj
      obtain⟨rfl,rfl⟩:=hj
      have hv:=ak hx ρ a hf
      have hc:∃y,au ρ [c] y∧(a.eval x).cells.toList=y.flatten:=by
       cases c<;>simp only[bp,Bool.false_eq_true]at hp
       case agg cs=>
        obtain⟨y,k1,k2⟩:=jW rfl hv
        exact⟨[y.flatten],by simp only[au];exact⟨_,[],rfl,by simp only[aG];exact⟨y,k1,rfl⟩,rfl⟩,by rw[k2];simp⟩
       all_goals exact jW rfl hv
      obtain⟨y,k1,k2⟩:=hc
      exact⟨_,y,by simp,k1,k2⟩
def placesOf (fs:List (Nat×TypeId×Nat)) (i:Nat):Option (Nat×Nat):=match fs[i]? with
 |some (off,_,sz)=>some (off,sz)
 |none=>none
section
variable {P:Program} {o:Oper} {fr:List (Nat×SV)} {fk:List (Nat×aA)}
theorem run_places {fl:List Field} (h:fl.all (fun f=>(P.info? f.type).isSome)=true) (w:World):
  (fl.mapM (fun f=>do pure (f.offset,←Go.sizeOf f.type):Field→Sem (Nat×Nat))).run P w= .ok (fl.map (fun f=>(f.offset,P.cellsOf f.type))) w:=by
 induction fl with
 |nil=>rfl
 |cons f fl ih=>
  simp only[List.all_cons,Bool.and_eq_true]at h
  rw[List.mapM_cons]
  simp only[Sem.run_bind,oF h.1,Result.andThen_ok,Sem.run_pure,ih h.2,List.map_cons]
theorem KH {t:TypeId} {parts:Array (Nat×Operand)} {ti:TI} {fs:List (Nat×TypeId×Nat)} {ps:List (Nat×List SV)} {l:List SV} {c:SV} (ho:o.op= .build t parts) (ht:aE P t ti) (hk:ti.kind= .agg fs)
  (C2:fX fr parts.toList=some ps) (hb:jA 64 (placesOf fs) ti.zero ps=some l) (hsh:dN ti l=some c):bL P o fr fk c [] []:=
 bo fun ρ a w hp=>by
  obtain⟨i,z,i1,i2,i3,i4,i5,i6,i7,_⟩:=ht.info
  have zO:=ht.kind;rw[hk]at zO
  obtain⟨k1,k2,k3⟩:=zO
  obtain⟨p1,p2⟩:=iA C2 ρ a hp.dj
  obtain⟨L',z',e1,e2,e3⟩:=mm (ρ:=ρ) ps ti.zero l (parts.toList.map fun p=>(p.1,Act.eval a p.2)) z.cells _ hb (dF i6) (by rw[i5,List.flatMap_def]) p1 p2
  have VF:ti.kind.isAgg=true:=by rw[hk];rfl
  refine⟨.agg L', ?_,lJ hsh e2 (by rw[VF,if_pos rfl,←e3])⟩
  have Bs:(Go.zeroValue t).run P w= .ok z w:=by simp[Go.zeroValue,typeInfo,i1,i4]
  have zg:((P.fieldsOf t).mapM (fun f=>do pure (f.offset,←Go.sizeOf f.type):Field→Sem (Nat×Nat))).run P w= .ok ((P.fieldsOf t).toList.map (fun f=>(f.offset,P.cellsOf f.type))).toArray w:=by
   rw[Array.mapM_eq_mapM_toList,Sem.run_map,run_places k3]
   rfl
  have agR:(fun x=>((P.fieldsOf t).toList.map (fun f=>(f.offset,P.cellsOf f.type))).toArray[x]?)=placesOf fs:=by
   funext j
   rw[←k2]
   simp only[placesOf,List.getElem?_map,List.getElem?_toArray]
   cases (P.fieldsOf t).toList[j]? <;>rfl
  have jB:(parts.map fun(i,x)=>(i,Act.eval a x)).toList=parts.toList.map fun p=>(p.1,Act.eval a p.2):=by simp
  simp only[execOp,ho,Instr.build,Sem.run_bind,Bs,Result.andThen_ok,run_underlying k1,zg,agR,jB,e1,Sem.run_pure]
theorem Dl {t e:TypeId} {n:Nat} {parts:Array (Nat×Operand)} {ti te:TI} {ps:List (Nat×List SV)} {l:List SV} {c:SV} (ho:o.op= .build t parts) (ht:aE P t ti) (hk:ti.kind= .arr n e) (he:aE P e te)
  (C2:fX fr parts.toList=some ps) (hb:jA 64 (fun i=>some (i*te.size,te.size)) ti.zero ps=some l) (hsh:dN ti l=some c):bL P o fr fk c [] []:=
 bo fun ρ a w hp=>by
  obtain⟨i,z,i1,i2,i3,i4,i5,i6,i7,_⟩:=ht.info
  have zO:=ht.kind;rw[hk]at zO
  obtain⟨p1,p2⟩:=iA C2 ρ a hp.dj
  obtain⟨L',z',e1,e2,e3⟩:=mm (ρ:=ρ) ps ti.zero l (parts.toList.map fun p=>(p.1,Act.eval a p.2)) z.cells _ hb (dF i6) (by rw[i5,List.flatMap_def]) p1 p2
  have VF:ti.kind.isAgg=true:=by rw[hk];rfl
  refine⟨.agg L', ?_,lJ hsh e2 (by rw[VF,if_pos rfl,←e3])⟩
  have Bs:(Go.zeroValue t).run P w= .ok z w:=by simp[Go.zeroValue,typeInfo,i1,i4]
  have jB:(parts.map fun(i,x)=>(i,Act.eval a x)).toList=parts.toList.map fun p=>(p.1,Act.eval a p.2):=by simp
  have zO:P.underlying t=some (.array n e):=zO
  simp only[execOp,ho,Instr.build,Sem.run_bind,Bs,Result.andThen_ok,run_underlying zO,he.sizeOf,jB,e1,Sem.run_pure]
end
end Go.Sx
namespace Go.Sx
def w5 (kd:IntKind):List SV→Option (List Int)
 |[]=>some []
 |.val (.int k n)::r=>if k=kd then match w5 kd r with
  |some l=>some (n::l)
  |none=>none
  else none
 |_=>none
def rl:List SV→Option (List Rat)
 |[]=>some []
 |.frac q::r=>match rl r with
  |some l=>some (q::l)
  |none=>none
 |_=>none
def oH (s:Nat):List SV→Bool
 |[]=>true
 |c::r=>Nat.beq c.width s&&oH s r
def Bt (te:TI) (cs:List SV):Option Data:=
 match te.zero with
 |[.frac _]=>match rl cs,Nat.beq te.size 5 with
  |some l,true=>some (.cd l)
  |_,_=>none
 |[.val (.int kd _)]=>match w5 kd cs,Nat.beq te.size 1 with
  |some l,true=>some (.ints kd l)
  |_,_=>none
 |_=>match oH te.size cs&&aV cs with
  |true=>some (.seq te.size cs)
  |false=>none
theorem w6 {ρ:bI} {kd:IntKind}:∀{cs:List SV} {l:List Int} {z:List (List Value)},w5 kd cs=some l→au ρ cs z→z=l.map (fun x=>[.int kd x])
 |[],l,z,h,hz=>by simp[w5]at h;subst h;simpa [au]using hz
 |c::r,l,z,h,hz=>by
  unfold w5 at h
  split at h
  ·simp_all
  ·rename_i k n r' heq
   simp only[List.cons.injEq]at heq
   obtain⟨rfl,rfl⟩:=heq
   split at h
   ·rename_i hk
    subst hk
    split at h
    ·rename_i l' hl
     simp only[Option.some.injEq]at h
     subst h
     simp only[au,aG]at hz
     obtain⟨x,y,rfl,⟨rfl,_⟩,h2⟩:=hz
     rw[w6 hl h2]
     rfl
    ·simp at h
   ·simp at h
  ·simp at h
theorem u9 {ρ:bI}:∀{cs:List SV} {l:List Rat} {z:List (List Value)},rl cs=some l→au ρ cs z→z=l.map bR
 |[],l,z,h,hz=>by simp[rl]at h;subst h;simpa [au]using hz
 |c::r,l,z,h,hz=>by
  unfold rl at h
  split at h
  ·simp_all
  ·rename_i q r' heq
   simp only[List.cons.injEq]at heq
   obtain⟨rfl,rfl⟩:=heq
   split at h
   ·rename_i l' hl
    simp only[Option.some.injEq]at h
    subst h
    simp only[au,aG]at hz
    obtain⟨x,y,rfl,rfl,h2⟩:=hz
    rw[u9 hl h2]
    rfl
   ·simp at h
  ·simp at h
theorem jY {s:Nat}:∀{cs:List SV},oH s cs=true→∀x∈cs,x.width=s
 |c::r,h,x,hx=>by
  simp only[oH,Bool.and_eq_true]at h
  rcases List.mem_cons.1 hx with rfl|hx
  ·exact Nat.eq_of_beq_eq_true h.1
  ·exact jY h.2 x hx
theorem Dm {ρ:bI} {te:TI} {cs:List SV} {d:Data} {z:List (List Value)} (h:Bt te cs=some d) (hz:au ρ cs z):Rows ρ te.size d z:=by
 unfold Bt at h
 split at h
 ·split at h
  ·rename_i l hl hs
   simp only[Option.some.injEq]at h
   subst h
   exact⟨Nat.eq_of_beq_eq_true hs,u9 hl hz⟩
  ·simp at h
 ·split at h
  ·rename_i l hl hs
   simp only[Option.some.injEq]at h
   subst h
   exact⟨Nat.eq_of_beq_eq_true hs,w6 hl hz⟩
  ·simp at h
 ·split at h
  ·rename_i hw
   simp only[Option.some.injEq]at h
   subst h
   rw[Bool.and_eq_true]at hw
   exact⟨rfl,b5 (ρ:=ρ) (ρ':=cE ρ.aT ρ.b7) (fun _ _ h=>h) cs z hw.2 hz,jY hw.1⟩
  ·simp at h
def Dn:Nat→List SV→List SV
 |0,_=>[]
 |n+1,l=>l++Dn n l
theorem rn {ρ:bI} {l:List SV} {y:List (List Value)} (h:au ρ l y):∀n,au ρ (Dn n l) ((List.replicate n y).flatten)
 |0=>by simp[Dn,au]
 |n+1=>by simp only[Dn,List.replicate_succ,List.flatten_cons];exact cI h (rn h n)
section
variable {P:Program} {o:Oper} {fr:List (Nat×SV)} {fk:List (Nat×aA)}
theorem zn {t e:TypeId} {len k:Nat} {parts:Array (Nat×Operand)} {ti te:TI} {ps:List (Nat×List SV)} {l:List SV} {d:Data} (ho:o.op= .buildSlice t len parts) (ht:aE P t ti) (hk:ti.kind= .aK e) (he:aE P e te)
  (C2:fX fr parts.toList=some ps) (hb:jA 64 (fun i=>some (i*te.size,te.size)) (Dn len te.zero) ps=some l) (hd:Bt te l=some d) (Bu:l.length=len) (fG:len*te.size≤16777216):
  bL P o fr fk (.aK k te.size 0 len) [(k,⟨e,true,d⟩)] []:=
 dw fun ρ a w hp=>by
  obtain⟨i,z,i1,i2,i3,i4,i5,i6,i7,_⟩:=he.info
  have hu:=ht.kind;rw[hk]at hu
  obtain⟨p1,p2⟩:=iA C2 ρ a hp.dj
  have zQ:=rn (dF (ρ:=ρ) i6) len
  have Dp:(madeCells z.cells (len*te.size)).toList=((List.replicate len (te.zero.map eP)).flatten).flatten:=by
   rw[gM z.cells te.size i7 len,i5]
   have:∀n,(List.replicate n (te.zero.flatMap eP)).flatten=((List.replicate n (te.zero.map eP)).flatten).flatten:=by
    intro n
    induction n with
    |zero=>rfl
    |succ n ih=>rw[List.replicate_succ,List.replicate_succ,List.flatten_cons,List.flatten_cons,List.flatten_append,←ih,List.flatMap_def]
   exact this len
  obtain⟨L',z',e1,e2,e3⟩:=mm (ρ:=ρ) ps _ l (parts.toList.map fun p=>(p.1,Act.eval a p.2)) (madeCells z.cells (len*te.size)) _ hb zQ Dp p1 p2
  have bZ:=Dm hd e2
  have hlen:=bZ.len
  have jB:(parts.map fun(i,x)=>(i,Act.eval a x)).toList=parts.toList.map fun p=>(p.1,Act.eval a p.2):=by simp
  have O7:L'=(z'.flatten++[]).toArray:=by rw[List.append_nil,←e3]
  refine⟨_,_,_, ?_,jd (hL:=bZ.dO) (ty:=e) (d:=d) (s:=te.size) (n:=len) (cap:=len) (vs:=z'.flatten) (ex:=[]) (hp.fresh k _ (List.mem_cons_self ..)) bZ.data (Nat.le_refl _) ?_ (by simp)⟩
  ·have KI:¬len*te.size>16777216:=aa
   by_cases h0:len*te.size=0
   ·have hm:(Array.range 0).map (fun x=>(#[]:Array Value)[x % (#[]:Array Value).size]!)=madeCells z.cells (len*te.size):=by simp[h0,madeCells]
    simp only[execOp,ho,Instr.buildSlice,Sem.run_bind,run_underlying hu,Result.andThen_ok,he.sizeOf,h0,jB]
    rw[h0]at hm
    simp only[Nat.reducePow,Nat.not_lt_zero,gt_iff_lt,if_false,if_true,Sem.run_bind,Sem.run_pure,Result.andThen_ok,hm]
    rw[h0]at e1
    simp only[e1,Sem.run_bind,newRow,run_newObj,Sem.run_pure,Result.andThen_ok,O7,World.alloc_eq]
   ·have hm:(Array.range (len*te.size)).map (fun x=>z.cells[x % z.cells.size]!)=madeCells z.cells (len*te.size):=rfl
    have Bs:(Go.zeroValue e).run P w= .ok z w:=by simp[Go.zeroValue,typeInfo,i1,i4]
    simp only[execOp,ho,Instr.buildSlice,Sem.run_bind,run_underlying hu,Result.andThen_ok,he.sizeOf,h0,jB,Nat.reducePow,KI,if_false,Bs,Sem.run_pure,hm,e1,newRow,run_newObj,O7,World.alloc_eq]
  ·rw[List.append_nil,aL _ hlen.2,cJ e2,Bu]
   exact Nat.le_refl _
theorem fI {z:Array Value} (h:∀v∈z.toList,v.oneCell'=true) (n:Nat):∀v∈(Builtin.zeroCells z n).toList,v.oneCell'=true:=by
 intro v hv
 simp only[Builtin.zeroCells,Array.toList_map,Array.toList_range,List.mem_map,List.mem_range]at hv
 obtain⟨i,hi,rfl⟩:=hv
 have gN:0<z.size:=by
  rcases Nat.eq_zero_or_pos z.size with h0|h0
  ·rw[h0]at hi;simp at hi
  ·exact h0
 have aI:i % z.size<z.size:=Nat.mod_lt _ gN
 have:z[i % z.size]! =z[i % z.size]:=by simp[aI]
 rw[this]
 exact h _ (by simp)
theorem Rows.nil {ρ:bI} {d:Data} {s:Nat} (h:d.empty) (hs:cW d=some s):Rows ρ s d []:=by
 cases d<;>simp only[cW,Option.some.injEq,reduceCtorEq]at hs<;>subst hs<;>simp only[Data.empty]at h<;>subst h
 ·exact⟨rfl,rfl⟩
 ·exact⟨rfl,rfl⟩
 ·exact⟨rfl,by simp[au],by simp⟩
theorem je {ρ:bI} {w:World} {k s:Nat} {blk:aA} (hb:gK ρ w k blk) (hl:blk.data.live=true) (hw:cW blk.data=some s):
  ∃z,Rows ρ s blk.data z∧((∃b t ex,ρ.key k=some (b,t)∧w.heap[b]? =some (.cells (z.flatten++ex).toArray blk.ty (0,0))∧(z.flatten++ex).length=t∧(∀v∈ex,v.oneCell'=true))∨(ρ.key k=none∧z=[])):=by
 rcases hb with h0|⟨b,t,vs,ex,h1,h2,h3,h4,h5⟩|⟨h1,h2⟩
 ·rw[hl]at h0;cases h0
 ·obtain⟨z,hz,rfl⟩:=Rows.of h3 hw
  exact⟨z,hz,.inl ⟨b,t,ex,h1,by rw[h2,Data.ck (by cases hd:blk.data<;>first|rfl|(rw[hd]at hw;simp[cW]at hw))],h4,h5⟩⟩
 ·exact⟨[],.nil h2 hw,.inr ⟨h1,rfl⟩⟩
theorem Rows.wS {ρ:bI} {d:Data} {s:Nat} {z:List (List Value)} (h:Rows ρ s d z):∀u∈z,∀v∈u,v.oneCell'=true:=fun u hu v hv=>
 h.data.wS v (List.mem_flatten.2 ⟨u,hu,hv⟩)
theorem jZ (b s j:Nat):(⟨b,0*s,none⟩:Addr).add j=⟨b,j,none⟩:=by
 rw[Nat.zero_mul]
 unfold Addr.add
 split
 ·rename_i h;rw[h]
 ·simp
theorem mq {ρ:bI} {w:World} {k s i n:Nat} {blk:aA} {v:Value} (hv:Has ρ (.aK k s i n) v) (hb:gK ρ w k blk) (hl:blk.data.live=true) (hw:cW blk.data=some s) (oJ:i+n≤fi blk.data):
  ∃z,Rows ρ s blk.data z∧(∀w',(∀b,b<w.heap.size→w'.heap[b]? =w.heap[b]?)→(Builtin.firstCells s n v).run P w'= .ok (((z.drop i).take n).flatten).toArray w')∧Builtin.lenOf v=Pure.pure n:=by
 obtain⟨z,hz,hcase⟩:=je hb hl hw
 obtain⟨zl,zw⟩:=hz.len
 refine⟨z,hz, ?_⟩
 rcases fh hv with⟨b,t,cap,e1,e2,e3,rfl⟩|⟨rfl,a,rfl⟩
 ·rcases hcase with⟨b',t',ex,h1,h2,h3,h4⟩|⟨h1,_⟩
  ·rw[e1]at h1
   cases h1
   refine⟨fun w' zo=> ?_,rfl⟩
   have rq:b<w.heap.size:=by
    rcases Nat.lt_or_ge b w.heap.size with h'|h'
    ·exact h'
    ·simp[Array.getElem?_eq_none h']at h2
   have hh:w'.heap[b]? =some (.cells (z.flatten++ex).toArray blk.ty (0,0)):=by rw[zo b rq];exact h2
   have w7:((z.drop i).take n).flatten=(z.flatten.drop (i*s)).take (n*s):=by
    rw[cl (s:=s) _ _ (fun u hu=>zw u (List.mem_of_mem_drop hu)),fp (s:=s) _ _ zw]
   have hlen:(((z.drop i).take n).flatten).length=n*s:=by
    rw[aL (s:=s) _ (fun u hu=>zw u (List.mem_of_mem_drop (List.mem_of_mem_take hu))),List.length_take,List.length_drop]
    congr 1
    omega
   refine run_firstCells_some (P:=P) w' s n _ n cap _ hlen ?_
   intro j u hj
   have fB:(⟨b,i*s,none⟩:Addr).add j=⟨b,i*s+j,none⟩:=by unfold Addr.add;split<;>simp_all
   rw[fB,cell_of_row w' b (i*s+j) _ blk.ty (0,0) hh]
   have h6:=lM w7 j u hj
   have aI:i*s+j<z.flatten.length:=(List.getElem?_eq_some_iff.1 h6).1
   simp only[List.getElem?_toArray]
   rw[List.getElem?_append_left aI]
   exact h6
  ·rw[e1]at h1;cases h1
 ·refine⟨fun w' _=> ?_,rfl⟩
  cases a with
  |none=>simp[Builtin.firstCells]
  |some a=>simp[Builtin.firstCells,loadCells,loadCellsFrom]
theorem I2 {t t2 e:TypeId} {x y:Operand} {xs:Array Operand} {ts:Array TypeId} {ti Fx te:TI} {k k2 kn n i2 m:Nat} {d d':Data} {blk2:aA} (ho:o.op= .call ⟨.builtin .append,xs,ts⟩) (hxs:xs= #[x,y]) (nh:ts= #[t,t2])
  (hx:aZ fr x (.aK k te.size 0 n)) (hy:aZ fr y (.aK k2 te.size i2 m)) (ht:aE P t ti) (hk:ti.kind= .aK e) (C3:aE P t2 Fx) (hk2:Fx.kind= .aK e) (he:aE P e te)
  (hf:(k,⟨e,true,d⟩)∈fk) (Hh:(k2,blk2)∈fk) (hl:d.live=true) (gI:blk2.data.live=true) (hw:cW d=some te.size) (ni:cW blk2.data=some te.size)
  (hn:n≤fi d) (hm:i2+m≤fi blk2.data) (hd:q9 d n blk2.data i2 m=some d') (hbytes:(n+m)*te.bytes≤140737488355328) (h63:n+m≤9223372036854775807):
  bL P o fr fk (.aK kn te.size 0 (n+m)) [(kn,⟨e,true,d'⟩)] [(k,⟨e,true,.dead⟩)]:=
 dw fun ρ a w hp=>by
  have Dq:=hx ρ a hp.dj
  have I3:=hy ρ a hp.dj
  obtain⟨i,zv,i1,i2',i3,i4,i5,i6,i7,_⟩:=he.info
  have hu:=ht.kind;rw[hk]at hu
  have zp:=C3.kind;rw[hk2]at zp
  obtain⟨z,hz,hzc⟩:=je (hp.mj k _ hf) hl hw
  obtain⟨z2,lR,eT,hlen2⟩:=mq (P:=P) I3 (hp.mj k2 _ Hh) gI ni hm
  obtain⟨zl,zw⟩:=hz.len
  obtain⟨zl2,zw2⟩:=lR.len
  have bZ:=(ui hd hz lR).1
  have dd:=hp.fresh kn _ (List.mem_cons_self ..)
  simp only at zl
  have gO:∀u∈(z2.drop i2).take m,u.length=te.size:=fun u hu=>zw2 u (List.mem_of_mem_drop (List.mem_of_mem_take hu))
  have fJ:((z2.drop i2).take m).length=m:=by rw[List.length_take,List.length_drop];omega
  have oK:(((z2.drop i2).take m).flatten).length=m*te.size:=by rw[aL _ gO,fJ]
  have jf:∀u∈(((z2.drop i2).take m).flatten),u.oneCell'=true:=fun u hu=>by
   obtain⟨q,hq,hu⟩:=List.mem_flatten.1 hu
   exact lR.wS q (List.mem_of_mem_drop (List.mem_of_mem_take hq)) u hu
  have eS:∀v w',(Builtin.append_ ts o.type #[a.eval x,a.eval y]).run P w= .ok v w'→(execOp a.eval o).run P w= .ok (.value v) w':=by
   intro v w' h
   simp only[execOp,ho,resolve,invoke,builtin,hxs,Sem.run_bind,Sem.run_pure,Result.andThen_ok,List.map_toArray,List.map_cons,List.map_nil]
   rw[h]
   rfl
  have Bv:∀v∈zv.cells.toList,v.oneCell'=true:=by
   have h1:=(au.len (ρ:=ρ) te.zero _ (dF i6)).2
   rw[i5,List.flatMap_def];exact h1
  have Bw:¬((n+m:Nat):Int)>IntKind.i64.max:=by
   have:IntKind.i64.max=9223372036854775807:=aH
   omega
  have grow:∀(base:Option Addr) (cap:Nat),a.eval x= .slice base n cap→cap<n+m→(∀w',(∀b,b<w.heap.size→w'.heap[b]? =w.heap[b]?)→(Builtin.firstCells te.size n (.slice base n cap)).run P w'= .ok ((z.take n).flatten).toArray w')→
    ∃v w' ρ',(execOp a.eval o).run P w= .ok (.value v) w'∧jb ρ w (.aK kn te.size 0 (n+m)) [(kn,⟨e,true,d'⟩)] [(k,⟨e,true,.dead⟩)] v ρ' w':=by
   intro base cap hbx hcap hfirst
   have w8:¬Builtin.nextslicecap (n+m) cap*i.bytes>2^48:=by
    have:=growslice_fits (bytes:=te.bytes) hcap hbytes
    rw[i3];simpa using this
   have PB:n+m≤grownCap w (n+m) cap e:=by
    simp only[grownCap,Question.cut]
    omega
   have b9:=jd (hL:=bZ.dO) (ρ:=ρ) (w:=w.drew) (k:=kn) (s:=te.size) (n:=n+m) (cap:=grownCap w (n+m) cap e) (ty:=e) (d:=d') (vs:=(z.take n++(z2.drop i2).take m).flatten) (ex:=(Builtin.zeroCells zv.cells (grownCap w (n+m) cap e - (n+m))).toList) dd bZ.data PB
    (by
     have h1:((z.take n++(z2.drop i2).take m).flatten).length=(n+m)*te.size:=by
      rw[aL (s:=te.size) _ (fun u hu=>(List.mem_append.1 hu).elim (fun h=>zw u (List.mem_of_mem_take h)) (gO u)),List.length_append,fJ,List.length_take]
      congr 1
      omega
     rw[List.length_append,h1,Array.length_toList]
     have h2:(Builtin.zeroCells zv.cells (grownCap w (n+m) cap e - (n+m))).size=(grownCap w (n+m) cap e - (n+m))*te.size:=by simp[Builtin.zeroCells,i7]
     rw[h2,←Nat.add_mul,show n+m+(grownCap w (n+m) cap e - (n+m))=grownCap w (n+m) cap e from by omega]
     exact Nat.le_refl _) (fI Bv _)
   refine⟨_,_,_,eS _ _ ?_,{b9 with
    bw:=⟨b9.bw.os,b9.bw.tape,b9.bw.output,b9.bw.size,fun b hb hn=>b9.bw.block b hb (fun hh=>by obtain⟨_,_,_,hh,_⟩:=hh;cases hh)⟩
    blk:=fun j b hj=>by
     rcases hj with hj|hj
     ·simp only[List.mem_singleton,Prod.mk.injEq]at hj
      obtain⟨rfl,rfl⟩:=hj
      exact .inl rfl
     ·exact b9.blk j b (.inr hj)
    once:=fun j b b' h1 h2 h3 h4=>by
     simp only[List.mem_singleton,Prod.mk.injEq]at h1 h2
     rw[h2.2]at h4
     cases h4
    zi:=fun j b q hj hq=>.inl ((b9.zi j b q hj hq).elim id (fun hh=>by obtain⟨_,_,_,hh,_⟩:=hh;cases hh))}⟩
   have zQ:(if false=true then(Pure.pure 0:Sem Nat)else Builtin.lenOf (a.eval y)).run P w= .ok m w:=by rw[hlen2];rfl
   have ru:¬n+m≤cap:=aa
   have hnb:(w.drew).heap=w.heap:=rfl
   have zR:=hfirst w.drew (fun b _=>rfl)
   have ue:=eT w.drew (fun b _=>rfl)
   simp only[Builtin.append_,nh,hbx,List.getElem?_toArray,List.getElem?_cons_zero,List.getElem?_cons_succ,Sem.run_bind,run_underlying hu,run_underlying zp,Result.andThen_ok,he.sizeOf,Sem.run_pure,Bool.false_eq_true,if_false,hlen2]
   have rv:∀w',(typeInfo e).run P w'= .ok i w':=fun w'=>by simp[typeInfo,i1]
   have Bs:∀w',(Go.zeroValue e).run P w'= .ok zv w':=fun w'=>by simp[Go.zeroValue,typeInfo,i1,i4]
   have ry:¬(((n+m:Nat):Int)>IntKind.i64.max∧(False∨i.bytes=0)):=fun h=>Bw h.1
   have jI:(Question.appendCap (n+m) cap e).forced=false:=rfl
   simp only[ru,if_false,Sem.run_bind,rv,Result.andThen_ok,ry,w8,run_choose,jI,Bool.false_eq_true,World.drew_eq,run_askRoom,zR,Bool.not_false,if_true,ue,Bs,newRow,run_newObj,Sem.run_pure,World.alloc_eq]
   have iB:((z.take n).flatten.toArray++((z2.drop i2).take m).flatten.toArray++Builtin.zeroCells zv.cells (grownCap w (n+m) cap e - (n+m)))=((z.take n++(z2.drop i2).take m).flatten++(Builtin.zeroCells zv.cells (grownCap w (n+m) cap e - (n+m))).toList).toArray:=by
    apply Array.ext'
    simp
   show Result.ok (Value.slice (some ⟨w.drew.heap.size,0,none⟩) (n+m) (grownCap w (n+m) cap e)) (w.drew.alloc (.cells ((z.take n).flatten.toArray++((z2.drop i2).take m).flatten.toArray++Builtin.zeroCells zv.cells (grownCap w (n+m) cap e - (n+m))) e))=_
   rw[iB]
  rcases fh Dq with⟨b,tt,cap,e1,e2,e3,e4⟩|⟨rfl,ad,e4⟩
  ·rcases hzc with⟨b',tt',ex,c1,c2,c3,c4⟩|⟨c1,_⟩
   ·rw[e1]at c1
    cases c1
    simp only at c2
    rcases Nat.lt_or_ge cap (n+m)with aI|Kf
    ·refine grow _ cap e4 aI ?_
     obtain⟨z3,hz3,hrun3,_⟩:=mq (P:=P) Dq (hp.mj k _ hf) hl hw (by simpa using hn)
     intro w' zo
     have h0:=run_firstCells_some (P:=P) w' te.size n ⟨b,0*te.size,none⟩ n cap ((z.take n).flatten) (by
      rw[aL (s:=te.size) _ (fun u hu=>zw u (List.mem_of_mem_take hu)),List.length_take];congr 1;omega) (by
      intro j u hj
      have rq:b<w.heap.size:=by
       rcases Nat.lt_or_ge b w.heap.size with h'|h'
       ·exact h'
       ·simp[Array.getElem?_eq_none h']at c2
      have hh:w'.heap[b]? =some (.cells (z.flatten++ex).toArray e (0,0)):=by rw[zo b rq];exact c2
      have fB:(⟨b,0*te.size,none⟩:Addr).add j=⟨b,j,none⟩:=jZ b te.size j
      rw[fB,cell_of_row w' b j _ e (0,0) hh]
      rw[cl (s:=te.size) _ _ zw]at hj
      have h6:z.flatten[j]? =some u:=by
       rw[List.getElem?_take]at hj
       split at hj
       ·exact hj
       ·cases hj
      have I4:j<z.flatten.length:=(List.getElem?_eq_some_iff.1 h6).1
      simp only[List.getElem?_toArray]
      rw[List.getElem?_append_left I4]
      exact h6)
     exact h0
    ·-- in place
     have rq:b<w.heap.size:=by
      rcases Nat.lt_or_ge b w.heap.size with h'|h'
      ·exact h'
      ·simp[Array.getElem?_eq_none h']at c2
     have ue:=eT w (fun b _=>rfl)
     have vc:0*te.size+n*te.size+(((z2.drop i2).take m).flatten).length≤(z.flatten++ex).length:=by
      rw[oK,c3,Nat.zero_mul,Nat.zero_add,←Nat.add_mul]
      exact Nat.le_trans (Nat.mul_le_mul_right _ Kf) (by simpa using e3)
     have Hf:=run_storeCells_at (P:=P) b (n*te.size) e (((z2.drop i2).take m).flatten) 0 (z.flatten++ex).toArray w c2 (by simp only[List.size_toArray];simpa using vc) jf
     have fB:(⟨b,0*te.size,none⟩:Addr).add (n*te.size)=⟨b,n*te.size,none⟩:=jZ b te.size _
     have gf:((z.flatten++ex).take (n*te.size+0)++(((z2.drop i2).take m).flatten)++(z.flatten++ex).drop (n*te.size+0+(((z2.drop i2).take m).flatten).length))=
       (z.take n++(z2.drop i2).take m).flatten++(z.flatten++ex).drop (n*te.size+m*te.size):=by
      rw[Nat.add_zero,oK,List.flatten_append,cl (s:=te.size) _ _ zw,List.take_append_of_le_length (by rw[aL (s:=te.size) _ zw];exact Nat.mul_le_mul_right _ aa)]
     rw[gf]at Hf
     let ρ':bI:=⟨fun j=>if j=kn then some (b,tt)else ρ.key j,ρ.aT,ρ.b7⟩
     have hle:ρ.Le ρ':=⟨fun j q hq=>by
      show(if j=kn then _ else _)=_
      by_cases hj:j=kn
      ·subst hj;rw[dd]at hq;cases hq
      ·rw[if_neg hj];exact hq,fun b o hb=>hb⟩
     refine⟨.slice (some ⟨b,0*te.size,none⟩) (n+m) cap,w.setRow b ((z.take n++(z2.drop i2).take m).flatten++(z.flatten++ex).drop (n*te.size+m*te.size)).toArray,ρ',eS _ _ ?_, ?_⟩
     ·simp only[Builtin.append_,nh,e4,List.getElem?_toArray,List.getElem?_cons_zero,List.getElem?_cons_succ,Sem.run_bind,run_underlying hu,run_underlying zp,Result.andThen_ok,he.sizeOf,Sem.run_pure,Bool.false_eq_true,if_false,hlen2,Kf,if_true,Bool.not_false,ue,fB,Hf]
     ·refine⟨hle,fW (.inl ⟨b,tt,cap, ?_,Kf,e3,rfl⟩), ?_,⟨rfl,rfl,rfl,by simp[World.setRow], ?_⟩, ?_, ?_, ?_, ?_,fun b o hb=>.inl hb⟩
      ·show(if kn=kn then _ else _)=_
       rw[if_pos rfl]
      ·intro j hj
       show(if j=kn then _ else _)=_
       rw[if_neg]
       rintro rfl
       exact hj _ (List.mem_cons_self ..)
      ·intro q hq hnq
       refine cR fun VG=>hnq ⟨k,_,tt,List.mem_cons_self .., ?_⟩
       rw[VG];exact e1
      ·intro j bj hj
       rcases hj with hj|hj
       ·simp only[List.mem_singleton,Prod.mk.injEq]at hj
        obtain⟨rfl,rfl⟩:=hj
        exact .inl rfl
       ·simp only[List.mem_singleton,Prod.mk.injEq]at hj
        obtain⟨rfl,rfl⟩:=hj
        refine .inr (.inl ⟨b,tt,_,(z.flatten++ex).drop (n*te.size+m*te.size), ?_,by rw[Data.ck bZ.dO];exact c5 c2,bZ.data.mono hle, ?_, ?_⟩)
        ·show(if j=j then _ else _)=_
         rw[if_pos rfl]
        ·have h1:((z.take n++(z2.drop i2).take m).flatten).length=(n+m)*te.size:=by
          rw[aL (s:=te.size) _ (fun u hu=>(List.mem_append.1 hu).elim (fun h=>zw u (List.mem_of_mem_take h)) (gO u)),List.length_append,fJ,List.length_take]
          congr 1
          omega
         rw[List.length_append,h1,List.length_drop,c3,Nat.add_mul]
         rw[oK,c3]at vc
         omega
        ·intro u hu
         have:=List.mem_of_mem_drop hu
         rcases List.mem_append.1 this with h|h
         ·obtain⟨q,hq,hu'⟩:=List.mem_flatten.1 h
          exact hz.wS q hq u hu'
         ·exact c4 u h
      ·intro j c c' h1 h2 h3 h4
       simp only[List.mem_singleton,Prod.mk.injEq]at h1 h2
       rw[h2.2]at h4
       cases h4
      ·intro j bj q hj hq
       simp only[List.mem_singleton,Prod.mk.injEq]at hj
       obtain⟨rfl,rfl⟩:=hj
       have qn:(if j=j then some (b,tt)else ρ.key j)=some q:=hq
       rw[if_pos rfl]at qn
       cases qn
       exact .inr ⟨k,_,tt,List.mem_cons_self ..,rfl,e1⟩
      ·intro j bj j' bj' q q' hj oc a7
       simp only[List.mem_singleton,Prod.mk.injEq]at hj oc
       exact absurd (hj.1.trans oc.1.symm) a7
   ·rw[e1]at c1;cases c1
  ·rcases Nat.eq_zero_or_pos m with rfl|O8
   ·-- nothing onto nothing
    have ue:=eT w (fun b _=>rfl)
    refine⟨.slice ad 0 0,w,ρ,eS _ _ ?_, ?_⟩
    ·have lU:∀q:Addr,(storeCells q ([]:List Value)).run P w= .ok () w:=fun q=>rfl
     have Dr:((z2.drop i2).take 0).flatten=[]:=by simp
     rw[Dr]at ue
     cases ad<;>simp only[Builtin.append_,nh,e4,List.getElem?_toArray,List.getElem?_cons_zero,List.getElem?_cons_succ,Sem.run_bind,run_underlying hu,run_underlying zp,Result.andThen_ok,he.sizeOf,Sem.run_pure,Bool.false_eq_true,if_false,hlen2,Nat.add_zero,Nat.le_refl,if_true,Bool.not_false,ue,lU]
    ·have agS:d'.empty∨True:=.inr trivial
     have wX:d'.empty:=by
      unfold q9 at hd
      split at hd
      ·split at hd
       ·simp only[Option.some.injEq]at hd;subst hd;simp[Data.empty]
       ·simp at hd
      ·simp only[Option.some.injEq]at hd;subst hd;simp[Data.empty]
      ·split at hd
       ·simp only[Option.some.injEq]at hd;subst hd;simp[Data.empty]
       ·simp at hd
      ·simp at hd
     refine⟨.refl ρ,fW (.inr ⟨rfl,ad,rfl⟩),fun _ _=>rfl,.refl _ _, ?_, ?_, ?_, ?_,fun b o hb=>.inl hb⟩
     ·intro j bj hj
      rcases hj with hj|hj
      ·simp only[List.mem_singleton,Prod.mk.injEq]at hj
       obtain⟨rfl,rfl⟩:=hj
       exact .inl rfl
      ·simp only[List.mem_singleton,Prod.mk.injEq]at hj
       obtain⟨rfl,rfl⟩:=hj
       exact .inr (.inr ⟨dd,wX⟩)
     ·intro j c c' h1 h2 h3 h4
      simp only[List.mem_singleton,Prod.mk.injEq]at h1 h2
      rw[h2.2]at h4
      cases h4
     ·intro j bj q hj hq
      simp only[List.mem_singleton,Prod.mk.injEq]at hj
      obtain⟨rfl,rfl⟩:=hj
      rw[dd]at hq;cases hq
     ·intro j bj j' bj' q q' hj oc a7
      simp only[List.mem_singleton,Prod.mk.injEq]at hj oc
      exact absurd (hj.1.trans oc.1.symm) a7
   ·refine grow ad 0 e4 aa ?_
    intro w' _
    cases ad with
    |none=>simp[Builtin.firstCells]
    |some q=>simp[Builtin.firstCells,loadCells,loadCellsFrom]
theorem zq {t t2 e:TypeId} {x y:Operand} {xs:Array Operand} {ts:Array TypeId} {ti Fx te:TI} {k2 kn i2 m:Nat} {d':Data} {blk2:aA} (ho:o.op= .call ⟨.builtin .append,xs,ts⟩) (hxs:xs= #[x,y]) (nh:ts= #[t,t2])
  (hx:aZ fr x (.val (.slice none 0 0))) (hy:aZ fr y (.aK k2 te.size i2 m)) (ht:aE P t ti) (hk:ti.kind= .aK e) (C3:aE P t2 Fx) (hk2:Fx.kind= .aK e) (he:aE P e te)
  (Hh:(k2,blk2)∈fk) (gI:blk2.data.live=true) (ni:cW blk2.data=some te.size)
  (hm:i2+m≤fi blk2.data) (hd:q9 blk2.data 0 blk2.data i2 m=some d') (hbytes:m*te.bytes≤140737488355328) (h63:m≤9223372036854775807):
  bL P o fr fk (.aK kn te.size 0 m) [(kn,⟨e,true,d'⟩)] []:=
 dw fun ρ a w hp=>by
  have Dq:=aJ (hx ρ a hp.dj)
  have I3:=hy ρ a hp.dj
  obtain⟨i,zv,i1,i2',i3,i4,i5,i6,i7,_⟩:=he.info
  have hu:=ht.kind;rw[hk]at hu
  have zp:=C3.kind;rw[hk2]at zp
  obtain⟨z2,lR,eT,hlen2⟩:=mq (P:=P) I3 (hp.mj k2 _ Hh) gI ni hm
  obtain⟨zl2,zw2⟩:=lR.len
  have bZ:=(ui hd lR lR).1
  rw[List.take_zero,List.nil_append]at bZ
  have dd:=hp.fresh kn _ (List.mem_cons_self ..)
  have gO:∀u∈(z2.drop i2).take m,u.length=te.size:=fun u hu=>zw2 u (List.mem_of_mem_drop (List.mem_of_mem_take hu))
  have fJ:((z2.drop i2).take m).length=m:=by rw[List.length_take,List.length_drop];omega
  have eS:∀v w',(Builtin.append_ ts o.type #[a.eval x,a.eval y]).run P w= .ok v w'→(execOp a.eval o).run P w= .ok (.value v) w':=by
   intro v w' h
   simp only[execOp,ho,resolve,invoke,builtin,hxs,Sem.run_bind,Sem.run_pure,Result.andThen_ok,List.map_toArray,List.map_cons,List.map_nil]
   rw[h]
   rfl
  have Bv:∀v∈zv.cells.toList,v.oneCell'=true:=by
   have h1:=(au.len (ρ:=ρ) te.zero _ (dF i6)).2
   rw[i5,List.flatMap_def];exact h1
  rcases Nat.eq_zero_or_pos m with rfl|O8
  ·have ue:=eT w (fun b _=>rfl)
   refine⟨.slice none 0 0,w,ρ,eS _ _ ?_, ?_⟩
   ·have Dr:((z2.drop i2).take 0).flatten=[]:=by simp
    rw[Dr]at ue
    simp only[Builtin.append_,nh,Dq,List.getElem?_toArray,List.getElem?_cons_zero,List.getElem?_cons_succ,Sem.run_bind,run_underlying hu,run_underlying zp,Result.andThen_ok,he.sizeOf,Sem.run_pure,Bool.false_eq_true,if_false,hlen2,Nat.add_zero,Nat.le_refl,if_true,Bool.not_false,ue]
   ·have wX:d'.empty:=by
     unfold q9 at hd
     split at hd
     ·split at hd
      ·simp only[Option.some.injEq]at hd;subst hd;simp[Data.empty]
      ·simp at hd
     ·simp only[Option.some.injEq]at hd;subst hd;simp[Data.empty]
     ·split at hd
      ·simp only[Option.some.injEq]at hd;subst hd;simp[Data.empty]
      ·simp at hd
     ·simp at hd
    refine⟨.refl ρ,fW (.inr ⟨rfl,none,rfl⟩),fun _ _=>rfl,.refl _ _, ?_,(fun _ _ _ h=>by cases h), ?_, ?_,fun b o hb=>.inl hb⟩
    ·intro j bj hj
     rcases hj with hj|hj
     ·cases hj
     ·simp only[List.mem_singleton,Prod.mk.injEq]at hj
      obtain⟨rfl,rfl⟩:=hj
      exact .inr (.inr ⟨dd,wX⟩)
    ·intro j bj q hj hq
     simp only[List.mem_singleton,Prod.mk.injEq]at hj
     obtain⟨rfl,rfl⟩:=hj
     rw[dd]at hq;cases hq
    ·intro j bj j' bj' q q' hj oc a7
     simp only[List.mem_singleton,Prod.mk.injEq]at hj oc
     exact absurd (hj.1.trans oc.1.symm) a7
  ·have Bw:¬((0+m:Nat):Int)>IntKind.i64.max:=by
    have:IntKind.i64.max=9223372036854775807:=aH
    omega
   have w8:¬Builtin.nextslicecap (0+m) 0*i.bytes>2^48:=by
    have:=growslice_fits (bytes:=te.bytes) (show 0<0+m by omega) (by rw[Nat.zero_add];exact hbytes)
    rw[i3];simpa using this
   have PB:m≤grownCap w (0+m) 0 e:=by
    simp only[grownCap,Question.cut]
    omega
   have b9:=jd (hL:=bZ.dO) (ρ:=ρ) (w:=w.drew) (k:=kn) (s:=te.size) (n:=m) (cap:=grownCap w (0+m) 0 e) (ty:=e) (d:=d') (vs:=((z2.drop i2).take m).flatten) (ex:=(Builtin.zeroCells zv.cells (grownCap w (0+m) 0 e - (0+m))).toList) dd bZ.data PB
    (by
     have h1:(((z2.drop i2).take m).flatten).length=m*te.size:=by rw[aL (s:=te.size) _ gO,fJ]
     rw[List.length_append,h1,Array.length_toList]
     have h2:(Builtin.zeroCells zv.cells (grownCap w (0+m) 0 e - (0+m))).size=(grownCap w (0+m) 0 e - (0+m))*te.size:=by simp[Builtin.zeroCells,i7]
     rw[h2,←Nat.add_mul,show m+(grownCap w (0+m) 0 e - (0+m))=grownCap w (0+m) 0 e from by omega]
     exact Nat.le_refl _) (fI Bv _)
   refine⟨_,_,_,eS _ _ ?_,{b9 with bw:=⟨b9.bw.os,b9.bw.tape,b9.bw.output,b9.bw.size,b9.bw.block⟩}⟩
   have ru:¬0+m≤0:=aa
   have ue:=eT w.drew (fun b _=>rfl)
   have rv:∀w',(typeInfo e).run P w'= .ok i w':=fun w'=>by simp[typeInfo,i1]
   have Bs:∀w',(Go.zeroValue e).run P w'= .ok zv w':=fun w'=>by simp[Go.zeroValue,typeInfo,i1,i4]
   have ry:¬(((0+m:Nat):Int)>IntKind.i64.max∧(False∨i.bytes=0)):=fun h=>Bw h.1
   have jI:(Question.appendCap (0+m) 0 e).forced=false:=rfl
   have zR:∀w',(Builtin.firstCells te.size 0 (.slice none 0 0)).run P w'= .ok #[] w':=fun w'=>by simp[Builtin.firstCells]
   simp only[Builtin.append_,nh,Dq,List.getElem?_toArray,List.getElem?_cons_zero,List.getElem?_cons_succ,Sem.run_bind,run_underlying hu,run_underlying zp,Result.andThen_ok,he.sizeOf,Sem.run_pure,Bool.false_eq_true,if_false,hlen2]
   simp only[ru,if_false,Sem.run_bind,rv,Result.andThen_ok,ry,w8,run_choose,jI,Bool.false_eq_true,World.drew_eq,run_askRoom,zR,Bool.not_false,if_true,ue,Bs,newRow,run_newObj,Sem.run_pure,World.alloc_eq]
   have iB:((#[]:Array Value)++((z2.drop i2).take m).flatten.toArray++Builtin.zeroCells zv.cells (grownCap w (0+m) 0 e - (0+m)))=(((z2.drop i2).take m).flatten++(Builtin.zeroCells zv.cells (grownCap w (0+m) 0 e - (0+m))).toList).toArray:=by
    apply Array.ext'
    simp
   show Result.ok (Value.slice (some ⟨w.drew.heap.size,0,none⟩) (0+m) (grownCap w (0+m) 0 e)) (w.drew.alloc (.cells ((#[]:Array Value)++((z2.drop i2).take m).flatten.toArray++Builtin.zeroCells zv.cells (grownCap w (0+m) 0 e - (0+m))) e))=_
   rw[iB,Nat.zero_add]
theorem Dt {src dst e:TypeId} {x:Operand} {ti td te:TI} {k i n:Nat} {wr:Bool} {ty:TypeId} {xs:List Int} (ho:o.op= .convert src dst x) (hx:aZ fr x (.aK k 1 i n)) (ht:aE P src ti) (hk:ti.kind= .aK e) (he:aE P e te) (SB:te.kind= .int .u8)
  (htd:aE P dst td) (zO:td.kind= .str) (hf:(k,⟨ty,wr,.ints .u8 xs⟩)∈fk) (hn:i+n≤xs.length):
  bL P o fr fk (.val (.string ⟨(((xs.drop i).take n).map fun v=>UInt8.ofNat v.toNat).toArray⟩)) [] []:=
 bo fun ρ a w hp=>by
  have hv:=hx ρ a hp.dj
  have hu:=ht.kind;rw[hk]at hu
  have hue:=he.kind;rw[SB]at hue
  have VH:=htd.kind;rw[zO]at VH
  obtain⟨z,hz,ng,_⟩:=mq (P:=P) hv (hp.mj k _ hf) rfl rfl hn
  obtain⟨_,rfl⟩:=hz
  have hr:=ng w (fun _ _=>rfl)
  have KG:∀(l:List Int) (b:ByteArray),l.foldl (fun r n=>r.push (UInt8.ofNat n.toNat)) b=⟨b.data++(l.map fun v=>UInt8.ofNat v.toNat).toArray⟩:=by
   intro l
   induction l with
   |nil=>intro b;simp
   |cons v l ih=>
    intro b
    rw[List.foldl_cons,ih]
    congr 1
    show(b.data.push _)++_=_
    apply Array.ext'
    simp
  have w7:((((xs.map fun x=>[Value.int .u8 x]).drop i).take n).flatten)=((xs.drop i).take n).map (Value.int .u8):=by
   rw[←List.map_drop,←List.map_take,←List.flatMap_def,List.map_eq_flatMap]
  rcases fh hv with⟨b,t,cap,e1,e2,e3,bF⟩|⟨rfl,ad,bF⟩
  ·rw[Nat.mul_one]at bF
   rw[bF]at hr
   simp only[Builtin.firstCells,Nat.mul_one,w7]at hr
   have:=run_bytesToString (P:=P) w ⟨b,i,none⟩ n cap ((xs.drop i).take n) hr
   rw[KG]at this
   refine⟨_, ?_,bS rfl⟩
   simp only[execOp,ho,bF,convert,Sem.run_bind,run_underlying hu,run_underlying VH,run_underlying hue,Result.andThen_ok,this,Sem.run_pure]
   congr 4
   apply Array.ext'
   simp
  ·refine⟨_, ?_,bS rfl⟩
   rw[bF]at hr
   cases ad with
   |none=>
    have:(Conv.bytesToString (.slice none 0 0)).run P w= .ok (.string .empty) w:=rfl
    simp only[execOp,ho,bF,convert,Sem.run_bind,run_underlying hu,run_underlying VH,run_underlying hue,Result.andThen_ok,this,Sem.run_pure]
    rfl
   |some q=>
    have hr:(loadCells q 0).run P w= .ok (([]:List Int).map (Value.int .u8)).toArray w:=rfl
    have:=run_bytesToString (P:=P) w q 0 0 [] hr
    simp only[execOp,ho,bF,convert,Sem.run_bind,run_underlying hu,run_underlying VH,run_underlying hue,Result.andThen_ok,this,Sem.run_pure]
    rfl
end
end Go.Sx
namespace Go.Sx
def agT (w:Nat) (xs:List SV) (aT:Nat→Option Obj) (vs:List Value):Prop:=
 (xs=[]∧∃a,vs=[.slice a 0 0])∨
 ∃(hg:ir aT) (b cap:Nat) (z:List (List Value)) (pre ex:List Value) (ty:TypeId) (fz:Nat×Nat),aT b=some (.cells (pre++(z.flatten++ex)).toArray ty fz)∧au (cE aT hg) xs z∧(∀x∈xs,x.width=w)∧
  xs.length≤cap∧cap*w≤(z.flatten++ex).length∧vs=[.slice (some ⟨b,pre.length,none⟩) xs.length cap]
def I5 (w:Nat) (xs:List SV):Pred where
 h:=agT w xs
 mono i i' vs hle h:=by
  rcases h with h|⟨hg,b,cap,z,pre,ex,ty,fz,h1,h2,h3⟩
  ·exact .inl h
  ·exact .inr ⟨hg.mono hle,b,cap,z,pre,ex,ty,fz,hle _ _ h1,au.mono (qZ hle hg _) _ _ h2,h3⟩
 width:=1
 len i vs h:=by
  rcases h with⟨_,a,rfl⟩|⟨hg,b,cap,z,pre,ex,_,_,_,_,_,_,_,rfl⟩<;>simp[Value.oneCell']
 bare:=true
 qY _:=rfl
abbrev ed (w:Nat) (xs:List SV):SV:=.atom (I5 w xs)
theorem rz {ρ:bI} {w:Nat} {xs:List SV} {v:Value} (h:Has ρ (ed w xs) v):(xs=[]∧∃a,v= .slice a 0 0)∨
  ∃(b cap:Nat) (z:List (List Value)) (pre ex:List Value) (ty:TypeId) (fz:Nat×Nat),ρ.aT b=some (.cells (pre++(z.flatten++ex)).toArray ty fz)∧au (cE ρ.aT ρ.b7) xs z∧(∀x∈xs,x.width=w)∧
  xs.length≤cap∧cap*w≤(z.flatten++ex).length∧v= .slice (some ⟨b,pre.length,none⟩) xs.length cap:=by
 simp only[Has,aG]at h
 obtain⟨x,h1,rfl⟩:=h
 rcases h1 with⟨h1,a,rfl⟩|⟨hg,b,cap,z,pre,ex,ty,fz,h1,h2,h3,h4,h5,rfl⟩
 ·exact .inl ⟨h1,a,by simp[ct,SV.aU,I5]⟩
 ·exact .inr ⟨b,cap,z,pre,ex,ty,fz,h1,h2,h3,h4,h5,by simp[ct,SV.aU,I5]⟩
theorem vS {ρ:bI} {w:Nat} {xs:List SV} {v:Value} (h:(xs=[]∧∃a,v= .slice a 0 0)∨
  ∃(b cap:Nat) (z:List (List Value)) (pre ex:List Value) (ty:TypeId) (fz:Nat×Nat),ρ.aT b=some (.cells (pre++(z.flatten++ex)).toArray ty fz)∧au (cE ρ.aT ρ.b7) xs z∧(∀x∈xs,x.width=w)∧
  xs.length≤cap∧cap*w≤(z.flatten++ex).length∧v= .slice (some ⟨b,pre.length,none⟩) xs.length cap):Has ρ (ed w xs) v:=by
 simp only[Has,aG]
 refine⟨[v], ?_,by simp[ct,SV.aU,I5]⟩
 rcases h with⟨h1,a,rfl⟩|⟨b,cap,z,pre,ex,ty,fz,h1,h2,h3,h4,h5,rfl⟩
 ·exact .inl ⟨h1,a,rfl⟩
 ·exact .inr ⟨ρ.b7,b,cap,z,pre,ex,ty,fz,h1,h2,h3,h4,h5,rfl⟩
def agU (cs:List SV) (aT:Nat→Option Obj) (vs:List Value):Prop:=
 ∃(hg:ir aT) (b:Nat) (z:List (List Value)) (pre ex:List Value) (ty:TypeId) (fz:Nat×Nat),aT b=some (.cells (pre++(z.flatten++ex)).toArray ty fz)∧au (cE aT hg) cs z∧vs=[.pointer (some ⟨b,pre.length,none⟩)]
def Bx (cs:List SV):Pred where
 h:=agU cs
 mono i i' vs hle h:=by
  obtain⟨hg,b,z,pre,ex,ty,fz,h1,h2,h3⟩:=h
  exact⟨hg.mono hle,b,z,pre,ex,ty,fz,hle _ _ h1,au.mono (qZ hle hg _) _ _ h2,h3⟩
 width:=1
 len i vs h:=by
  obtain⟨hg,b,z,pre,ex,ty,fz,h1,h2,rfl⟩:=h
  simp[Value.oneCell']
 bare:=true
 qY _:=rfl
abbrev cx (cs:List SV):SV:=.atom (Bx cs)
theorem w9 {ρ:bI} {cs:List SV} {v:Value} (h:Has ρ (cx cs) v):∃(b:Nat) (z:List (List Value)) (pre ex:List Value) (ty:TypeId) (fz:Nat×Nat),ρ.aT b=some (.cells (pre++(z.flatten++ex)).toArray ty fz)∧
  au (cE ρ.aT ρ.b7) cs z∧v= .pointer (some ⟨b,pre.length,none⟩):=by
 simp only[Has,aG]at h
 obtain⟨x,⟨hg,b,z,pre,ex,ty,fz,h1,h2,rfl⟩,rfl⟩:=h
 exact⟨b,z,pre,ex,ty,fz,h1,h2,by simp[ct,SV.aU,Bx]⟩
theorem rA {ρ:bI} {cs:List SV} {v:Value} (h:∃(b:Nat) (z:List (List Value)) (pre ex:List Value) (ty:TypeId) (fz:Nat×Nat),ρ.aT b=some (.cells (pre++(z.flatten++ex)).toArray ty fz)∧
  au (cE ρ.aT ρ.b7) cs z∧v= .pointer (some ⟨b,pre.length,none⟩)):Has ρ (cx cs) v:=by
 obtain⟨b,z,pre,ex,ty,fz,h1,h2,rfl⟩:=h
 simp only[Has,aG]
 exact⟨[.pointer (some ⟨b,pre.length,none⟩)],⟨ρ.b7,b,z,pre,ex,ty,fz,h1,h2,rfl⟩,by simp[ct,SV.aU,Bx]⟩
theorem oL (b n j:Nat):(⟨b,n,none⟩:Addr).add j=⟨b,n+j,none⟩:=by
 unfold Addr.add
 split<;>simp_all
def fM (xs:List SV) (l h:Nat):List SV:=(xs.drop l).take (h - l)
section
variable {P:Program} {o:Oper} {ft:List (Nat×SV)} {fk:List (Nat×aA)} {w:Nat} {xs cs:List SV}
theorem PC {x:Operand} {t:TypeId} {xs':Array Operand} {ts:Array TypeId} {ti:TI} {e:TypeId} (ho:o.op= .call ⟨.builtin .len,xs',ts⟩) (hxs:xs'= #[x]) (nh:ts= #[t]) (hx:aZ ft x (ed w xs)) (ht:aE P t ti)
  (hk:ti.kind= .aK e):bL P o ft fk (.val (.int .i64 (xs.length:Int))) [] []:=
 bo fun ρ a w hp=>by
  have hv:=hx ρ a hp.dj
  refine⟨_, ?_,bS rfl⟩
  have hu:=ht.kind
  rw[hk]at hu
  rcases rz hv with⟨rfl,ad,h4⟩|⟨b,cap,z,pre,ex,_,_,_,_,_,_,_,h4⟩
  ·simp[execOp,ho,hxs,nh,resolve,invoke,builtin,Builtin.len_,run_underlying hu,h4,goInt]
  ·simp[execOp,ho,hxs,nh,resolve,invoke,builtin,Builtin.len_,run_underlying hu,h4,goInt]
theorem I6 {t e:TypeId} {x ix:Operand} {ti te:TI} {kd:IntKind} {j:Int} {el:SV} (ho:o.op= .indexAddr t x ix) (hx:aZ ft x (ed w xs)) (hi:aZ ft ix (.val (.int kd j)))
  (ht:aE P t ti) (hk:ti.kind= .aK e) (he:aE P e te) (hs:te.size=w) (h0:0≤j) (hj:j<(xs.length:Int)) (hel:xs.getD j.toNat .any=el):bL P o ft fk (cx [el]) [] []:=
 bo fun ρ a W hp=>by
  have e2:=aJ (hi ρ a hp.dj)
  have hu:=ht.kind;rw[hk]at hu
  rcases rz (hx ρ a hp.dj)with⟨rfl,_⟩|⟨b,cap,z,pre,ex,ty,fz,h1,h2,h3,h4,h5,h6⟩
  ·simp at hj;omega
  ·have Vk:j.toNat<xs.length:=aa
   obtain⟨g1,g2⟩:=oE h2 j.toNat Vk
   have SC:=eR xs z h2 h3
   have pq:z.length=xs.length:=cJ h2
   refine⟨.pointer (some ⟨b,pre.length+j.toNat*w,none⟩), ?_,rA ⟨b,[z.getD j.toNat []],pre++(z.take j.toNat).flatten,(z.drop (j.toNat+1)).flatten++ex,ty,fz, ?_, ?_, ?_⟩⟩
   ·have oc:0≤j∧j<(xs.length:Int):=⟨h0,hj⟩
    simp only[execOp,ho,Instr.indexAt,e2,h6,asIntOf,Sem.run_bind,Sem.run_pure,Result.andThen_ok,run_underlying hu,oc,and_self,if_true,he.sizeOf,hs,oL]
   ·rw[h1]
    congr 3
    have hz:z=z.take j.toNat++(z.getD j.toNat []::z.drop (j.toNat+1)):=by
     have aI:j.toNat<z.length:=aa
     rw[List.getD_eq_getElem?_getD,List.getElem?_eq_getElem aI,Option.getD_some,←List.drop_eq_getElem_cons aI,List.take_append_drop]
    have:z.flatten=(z.take j.toNat).flatten++(z.getD j.toNat []++(z.drop (j.toNat+1)).flatten):=by
     conv=>lhs;rw[hz]
     simp
    rw[this]
    simp
   ·simp only[au]
    exact⟨_,[],rfl,hel▸g1,rfl⟩
   ·have:((z.take j.toNat).flatten).length=j.toNat*w:=by
     rw[aL (s:=w) _ (fun u hu=>SC u (List.mem_of_mem_take hu)),List.length_take,pq,Nat.min_eq_left aa]
    rw[List.length_append,this]
theorem KJ {t:TypeId} {x:Operand} {ti:TI} {l:List SV} {c:SV} (ho:o.op= .load t x) (hx:aZ ft x (cx cs)) (ht:aE P t ti) (hs:sub 64 cs 0 ti.size=some l) (fG:ti.size≠0) (hsh:dN ti l=some c):
  bL P o ft fk c [] []:=
 bo fun ρ a W hp=>by
  obtain⟨b,z,pre,ex,ty,fz,h1,h2,hv⟩:=w9 (hx ρ a hp.dj)
  have h2:=au.mono (ow ρ ρ.b7) _ _ h2
  obtain⟨y,e1,e2,e3⟩:=q7 64 cs 0 ti.size l z hs h2
  have e3:=e3.resolve_left fG
  rw[List.drop_zero]at e2
  have hh:=hp.aT b _ h1
  have hy:y.flatten=((pre++(z.flatten++ex)).drop pre.length).take ti.size:=by
   rw[List.drop_left,e2,List.take_append_of_le_length aa]
  have uh:ti.kind.isAgg=true∨ti.size=1:=by
   cases ha:ti.kind.isAgg with
   |true=>exact .inl rfl
   |false=>
    right
    unfold dN at hsh
    rw[ha]at hsh
    match l,hsh,e1 with
    |[d],hsh,e1=>
     simp only[au]at e1
     obtain⟨u,_,rfl,d1,rfl⟩:=e1
     have hd:d.aU=true:=by
      cases hd:d.aU with
      |true=>rfl
      |false=>simp only at hsh;rw[hd]at hsh;simp at hsh
     have Vr:d.width=1:=by
      cases d<;>simp only[SV.aU,Bool.false_eq_true]at hd<;>simp only[SV.width]
      exact Pred.qY _ hd
     have:=(aG.len d u d1).1
     simp only[List.flatten_cons,List.flatten_nil,List.append_nil]at e2
     have h7:=congrArg List.length e2
     rw[List.length_take]at h7
     omega
    |[],hsh,_=>simp at hsh
    |_::_::_,hsh,_=>simp at hsh
  refine⟨_, ?_,lJ hsh e1 rfl⟩
  have hr:=u6 ht (P:=P) hh hy (by rw[List.length_append,List.length_append];omega) uh
  simp[execOp,ho,Instr.loadAt,Instr.sureAddr,hv,hr]
theorem PD {ρ:bI} {off n:Nat} {l:List SV} {z:List (List Value)} (h:sub 64 cs off n=some l) (hn:n≠0) (hz:au ρ cs z):∃y pre ex,au ρ l y∧z.flatten=pre++(y.flatten++ex)∧pre.length=off:=by
 obtain⟨y,h1,h2,h3⟩:=q7 64 cs off n l z h hz
 have h3:=h3.resolve_left hn
 refine⟨y,z.flatten.take off,z.flatten.drop (off+n),h1, ?_, ?_⟩
 ·rw[h2,←List.drop_drop,List.take_append_drop,List.take_append_drop]
 ·rw[List.length_take];omega
theorem I7 {S:TypeId} {x:Operand} {j off e sz:Nat} {ti:TI} {fs:List (Nat×TypeId×Nat)} {l:List SV} (ho:o.op= .fieldAddr S x j) (hx:aZ ft x (cx cs)) (ht:aE P S ti)
  (hk:ti.kind= .agg fs) (hj:fs[j]? =some (off,e,sz)) (fG:sz≠0) (hs:sub 64 cs off sz=some l):bL P o ft fk (cx l) [] []:=
 bo fun ρ a w hp=>by
  obtain⟨b,z,pre,ex,ty,fz,h1,h2,hv⟩:=w9 (hx ρ a hp.dj)
  obtain⟨y,p2,x2,g1,g2,g3⟩:=PD hs fG h2
  have zO:=ht.kind
  rw[hk]at zO
  obtain⟨k1,k2,k3⟩:=zO
  have hf:∃fd,(P.fieldsOf S)[j]? =some fd∧fd.offset=off∧P.cellsOf fd.type=sz∧(P.info? fd.type).isSome=true:=by
   rw[←k2,List.getElem?_map]at hj
   cases hq:(P.fieldsOf S).toList[j]? with
   |none=>rw[hq]at hj;simp at hj
   |some fd=>
    rw[hq]at hj
    simp only[Option.map_some,Option.some.injEq,Prod.mk.injEq]at hj
    refine⟨fd,by simpa using hq,hj.1,hj.2.2, ?_⟩
    exact List.all_eq_true.1 k3 fd (List.mem_of_getElem? hq)
  obtain⟨fd,f1,f2,f3,f4⟩:=hf
  refine⟨.pointer (some ⟨b,pre.length+off,none⟩), ?_,rA ⟨b,y,pre++p2,x2++ex,ty,fz, ?_,g1,by rw[List.length_append,g3]⟩⟩
  ·simp[execOp,ho,Instr.fieldAt,run_underlying k1,f1,Instr.sureAddr,hv,fieldPlace,oF f4,f3,f2,fG,oL]
  ·rw[h1,g2];simp
theorem I8 {t e:TypeId} {x:Operand} {lo hi mx:Option Operand} {ti te:TI} {l h:Int} (ho:o.op= .slice t x lo hi mx) (hx:aZ ft x (ed w xs))
  (C0:lo=none∧l=0∨∃y kd,lo=some y∧aZ ft y (.val (.int kd l))) (C1:hi=none∧h=xs.length∨∃y kd,hi=some y∧aZ ft y (.val (.int kd h)))
  (hmx:mx=none∨(hi≠none∧∃y kd,mx=some y∧aZ ft y (.val (.int kd h))))
  (ht:aE P t ti) (hk:ti.kind= .aK e) (he:aE P e te) (hs:te.size=w) (h0:0≤l) (hlh:l≤h) (hh:h≤(xs.length:Int)):bL P o ft fk (ed w (fM xs l.toNat h.toNat)) [] []:=
 bo fun ρ a W hp=>by
  have hu:=ht.kind;rw[hk]at hu
  have key:∀(ad:Option Addr) (m cap:Nat),xs.length=m→m≤cap→a.eval x= .slice ad m cap→
    ∃top,h.toNat≤top∧top≤cap∧(execOp a.eval o).run P W= .ok (.value (.slice (if top=l.toNat then ad else ad.map (·.add (l.toNat*w))) (h.toNat - l.toNat) (top - l.toNat))) W:=by
   intro ad m cap hnm hmc hv
   have Ke:∀z:Operand,∀kd bd,aZ ft z (.val (.int kd h))→h.toNat≤bd→∀q,(Instr.sliceBound (a.eval z) bd q).run P W= .ok h.toNat W:=by
    intro z kd bd hz hbd q
    have:=aJ (hz ρ a hp.dj)
    have hb:0≤h∧h≤(bd:Int):=aa
    simp[Instr.sliceBound,this,asIntOf,hb]
   have Pz:∀z:Operand,∀kd q,aZ ft z (.val (.int kd l))→(Instr.sliceBound (a.eval z) h.toNat q).run P W= .ok l.toNat W:=by
    intro z kd q hz
    have:=aJ (hz ρ a hp.dj)
    have hb:0≤l∧l≤(h.toNat:Int):=aa
    simp only[Instr.sliceBound,this,asIntOf,Sem.run_bind,Sem.run_pure,Result.andThen_ok,hb,and_self,if_true]
   rcases hmx with rfl|⟨a7,y,ky,rfl,hy⟩
   ·refine⟨cap,aa,Nat.le_refl _, ?_⟩
    have q8:(Instr.sliceBounds true m cap (lo.map a.eval) (hi.map a.eval) none).run P W= .ok (l.toNat,h.toNat,cap) W:=by
     unfold Instr.sliceBounds
     rcases C1 with⟨rfl,rfl⟩|⟨z,kz,rfl,hz⟩<;>rcases C0 with⟨rfl,rfl⟩|⟨y,ky,rfl,hy⟩
     ·simp[hnm]
     ·have:=Pz y ky .sliceB hy;simp at this;rw[hnm]at this;simp[hnm,this]
     ·simp[Ke z kz cap hz aa .sliceAcap]
     ·simp[Ke z kz cap hz aa .sliceAcap,Pz y ky .sliceB hy]
    simp only[execOp,ho,Option.map_none,Instr.sliceAt,Sem.run_bind,run_underlying hu,Result.andThen_ok,Instr.slice,hv,q8,he.sizeOf,hs,Sem.run_pure]
   ·refine⟨h.toNat,Nat.le_refl _,aa, ?_⟩
    have q8:(Instr.sliceBounds true m cap (lo.map a.eval) (hi.map a.eval) (some (a.eval y))).run P W= .ok (l.toNat,h.toNat,h.toNat) W:=by
     unfold Instr.sliceBounds
     rcases C1 with⟨rfl,rfl⟩|⟨z,kz,rfl,hz⟩<;>rcases C0 with⟨rfl,rfl⟩|⟨y',ky',rfl,FL⟩
     ·exact absurd rfl a7
     ·exact absurd rfl a7
     ·simp[Ke y ky cap hy aa,Ke z kz h.toNat hz (Nat.le_refl _)]
     ·simp[Ke y ky cap hy aa,Ke z kz h.toNat hz (Nat.le_refl _),Pz y' ky' .slice3C FL]
    simp only[execOp,ho,Option.map_some,Instr.sliceAt,Sem.run_bind,run_underlying hu,Result.andThen_ok,Instr.slice,hv,q8,he.sizeOf,hs,Sem.run_pure]
  rcases rz (hx ρ a hp.dj)with⟨rfl,ad,h4⟩|⟨b,cap,z,pre,ex,ty,fz,h1,h2,h3,h4,h5,h6⟩
  ·obtain⟨top,t1,t2,t3⟩:=key ad 0 0 rfl (Nat.le_refl _) h4
   simp only[List.length_nil]at hh
   have e1:l.toNat=0:=aa
   have e2:h.toNat=0:=aa
   have e3:top=0:=aa
   refine⟨_,t3,vS (.inl ⟨by simp[fM],ad, ?_⟩)⟩
   simp[e1,e2,e3]
  ·obtain⟨top,t1,t2,t3⟩:=key _ _ cap rfl h4 h6
   have pq:z.length=xs.length:=cJ h2
   have SC:=eR xs z h2 h3
   refine⟨_,t3,vS ?_⟩
   by_cases hc:top=l.toNat
   ·left
    have:h.toNat - l.toNat=0:=aa
    refine⟨by simp[fM,this],some ⟨b,pre.length,none⟩, ?_⟩
    rw[if_pos hc,this,hc,Nat.sub_self]
   ·right
    have CZ:(fM xs l.toNat h.toNat).length=h.toNat - l.toNat:=by rw[fM,List.length_take,List.length_drop];omega
    have hfl:z.flatten=(z.take l.toNat).flatten++((((z.drop l.toNat).take (h.toNat - l.toNat)).flatten)++(z.drop h.toNat).flatten):=by
     rw[←List.flatten_append,←List.flatten_append]
     congr 1
     have:z.drop h.toNat=(z.drop l.toNat).drop (h.toNat - l.toNat):=by rw[List.drop_drop];congr 1;omega
     rw[this,List.take_append_drop,List.take_append_drop]
    have zg:((z.take l.toNat).flatten).length=l.toNat*w:=by
     rw[aL (s:=w) _ (fun u hu=>SC u (List.mem_of_mem_take hu)),List.length_take,pq,Nat.min_eq_left aa]
    refine⟨b,top - l.toNat,(z.drop l.toNat).take (h.toNat - l.toNat),pre++(z.take l.toNat).flatten,(z.drop h.toNat).flatten++ex,ty,fz, ?_,iz _ (jX _ h2),fun x hx=>h3 x (List.mem_of_mem_drop (List.mem_of_mem_take hx)),aa, ?_, ?_⟩
    ·rw[h1,hfl];simp
    ·have e1:=congrArg List.length hfl
     rw[List.length_append,zg]at e1
     rw[←List.append_assoc,List.length_append,Nat.sub_mul]
     rw[List.length_append]at h5
     have e2:top*w≤cap*w:=Nat.mul_le_mul_right _ t2
     omega
    ·rw[if_neg hc,Option.map_some,oL,List.length_append,zg,CZ]
theorem jJ {x:Operand} (ho:o.op= .nilCheck x) (hx:aZ ft x (cx cs)):bL P o ft fk (cx cs) [] []:=
 bo fun ρ a w hp=>by
  have h:=hx ρ a hp.dj
  obtain⟨b,z,pre,ex,ty,fz,h1,h2,hv⟩:=w9 h
  exact⟨_,by simp[execOp,ho,hv],hv▸h⟩
theorem PE {x:Operand} {elem:TypeId} {sv:SV} (ho:o.op= .box elem x) (hx:aZ ft x sv) (hc:oy sv=some cs) (od:aV cs=true):
  bL P o ft fk (cx cs) [] []:=
 dw fun ρ a w hp=>by
  obtain⟨z,h1,h2⟩:=jW hc (hx ρ a hp.dj)
  have gf:(a.eval x).cells=z.flatten.toArray:=by rw[←h2]
  have jf:∀o',ρ.aT w.heap.size≠some o':=fun o' IY=>by have:=hp.aT _ _ IY;simp at this
  let ob:Obj:=.cells z.flatten.toArray elem (0,0)
  have xa:∀b o',ρ.aT b=some o'→(fun b=>if b=w.heap.size then some ob else ρ.aT b) b=some o':=fun b o' hb=>by
   show(if b=w.heap.size then some ob else ρ.aT b)=some o'
   by_cases hbw:b=w.heap.size
   ·subst hbw;exact absurd hb (jf o')
   ·rw[if_neg hbw];exact hb
  let ρ':bI:=⟨ρ.key,fun b=>if b=w.heap.size then some ob else ρ.aT b,ρ.b7.mono xa⟩
  have hle:ρ.Le ρ':=⟨fun k x hx=>hx,xa⟩
  refine⟨.pointer (some ⟨w.heap.size,0,none⟩),w.alloc ob,ρ', ?_,⟨hle, ?_,fun _ _=>rfl,.fH ((RowKit.Below.refl _ _).alloc (Nat.le_refl _) _),(fun k b h=>by rcases h with h|h<;>cases h),(fun _ _ _ h=>by cases h),(fun k b x h=>by cases h),(fun k b k' b' x x' h=>by cases h), ?_⟩⟩
  ·simp[execOp,ho,Instr.box,newVar,newRow,gf,ob]
  ·refine rA ⟨w.heap.size,z,[],[],elem,(0,0), ?_, ?_,rfl⟩
   ·show(if w.heap.size=w.heap.size then some ob else ρ.aT w.heap.size)=_
    rw[if_pos rfl];simp[ob]
   ·exact b5 (ρ:=ρ) (ρ':=cE ρ'.aT ρ'.b7) xa cs z od h1
  ·intro b o' hb
   have hb:(if b=w.heap.size then some ob else ρ.aT b)=some o':=hb
   by_cases hbw:b=w.heap.size
   ·subst hbw
    rw[if_pos rfl]at hb
    simp only[Option.some.injEq]at hb
    subst hb
    exact .inr ⟨Nat.le_refl _,heap_alloc_new _ _,fun k blk x h=>by cases h⟩
   ·rw[if_neg hbw]at hb;exact .inl hb
theorem PF {ρ:bI} {w:World} {e:TypeId} {s n:Nat} {l:List SV} {z:List (List Value)} (himm:∀b o,ρ.aT b=some o→w.heap[b]? =some o) (hz:au ρ l z) (od:aV l=true) (hw:∀x∈l,x.width=s) (hn:l.length=n):
  ∃ρ',jb ρ w (ed s l) [] [] (.slice (some ⟨w.heap.size,0,none⟩) n n) ρ' (w.alloc (.cells z.flatten.toArray e (0,0))):=by
 have jf:∀o',ρ.aT w.heap.size≠some o':=fun o' IY=>by have:=himm _ _ IY;simp at this
 let ob:Obj:=.cells z.flatten.toArray e (0,0)
 have xa:∀b o',ρ.aT b=some o'→(fun b=>if b=w.heap.size then some ob else ρ.aT b) b=some o':=fun b o' hb=>by
  show(if b=w.heap.size then some ob else ρ.aT b)=some o'
  by_cases hbw:b=w.heap.size
  ·subst hbw;exact absurd hb (jf o')
  ·rw[if_neg hbw];exact hb
 let ρ':bI:=⟨ρ.key,fun b=>if b=w.heap.size then some ob else ρ.aT b,ρ.b7.mono xa⟩
 have hle:ρ.Le ρ':=⟨fun k x hx=>hx,xa⟩
 have SC:=eR l z hz hw
 refine⟨ρ',⟨hle, ?_,fun _ _=>rfl,.fH ((RowKit.Below.refl _ _).alloc (Nat.le_refl _) _),(fun k b h=>by rcases h with h|h<;>cases h),(fun _ _ _ h=>by cases h),(fun k b x h=>by cases h),(fun k b k' b' x x' h=>by cases h), ?_⟩⟩
 ·subst hn
  refine vS (.inr ⟨w.heap.size,l.length,z,[],[],e,(0,0), ?_,b5 (ρ:=ρ) (ρ':=cE ρ'.aT ρ'.b7) xa l z od hz,hw,Nat.le_refl _, ?_,rfl⟩)
  ·show(if w.heap.size=w.heap.size then some ob else ρ.aT w.heap.size)=_
   rw[if_pos rfl];simp[ob]
  ·rw[List.append_nil,aL _ SC,cJ hz];exact Nat.le_refl _
 ·intro b o' hb
  have hb:(if b=w.heap.size then some ob else ρ.aT b)=some o':=hb
  by_cases hbw:b=w.heap.size
  ·subst hbw
   rw[if_pos rfl]at hb
   simp only[Option.some.injEq]at hb
   subst hb
   exact .inr ⟨Nat.le_refl _,heap_alloc_new _ _,fun k blk x h=>by cases h⟩
  ·rw[if_neg hbw]at hb;exact .inl hb
theorem xb {t e:TypeId} {len:Nat} {parts:Array (Nat×Operand)} {ti te:TI} {ps:List (Nat×List SV)} {l:List SV} (ho:o.op= .buildSlice t len parts) (ht:aE P t ti) (hk:ti.kind= .aK e) (he:aE P e te)
  (C2:fX ft parts.toList=some ps) (hb:jA 64 (fun i=>some (i*te.size,te.size)) (Dn len te.zero) ps=some l) (od:aV l=true) (Kg:oH te.size l=true) (Bu:l.length=len) (fG:len*te.size≤16777216):
  bL P o ft fk (ed te.size l) [] []:=
 dw fun ρ a w hp=>by
  obtain⟨i,z,i1,i2,i3,i4,i5,i6,i7,_⟩:=he.info
  have hu:=ht.kind;rw[hk]at hu
  obtain⟨p1,p2⟩:=iA C2 ρ a hp.dj
  have zQ:=rn (dF (ρ:=ρ) i6) len
  have Dp:(madeCells z.cells (len*te.size)).toList=((List.replicate len (te.zero.map eP)).flatten).flatten:=by
   rw[gM z.cells te.size i7 len,i5]
   have:∀n,(List.replicate n (te.zero.flatMap eP)).flatten=((List.replicate n (te.zero.map eP)).flatten).flatten:=by
    intro n
    induction n with
    |zero=>rfl
    |succ n ih=>rw[List.replicate_succ,List.replicate_succ,List.flatten_cons,List.flatten_cons,List.flatten_append,←ih,List.flatMap_def]
   exact this len
  obtain⟨L',z',e1,e2,e3⟩:=mm (ρ:=ρ) ps _ l (parts.toList.map fun p=>(p.1,Act.eval a p.2)) (madeCells z.cells (len*te.size)) _ hb zQ Dp p1 p2
  have jB:(parts.map fun(i,x)=>(i,Act.eval a x)).toList=parts.toList.map fun p=>(p.1,Act.eval a p.2):=by simp
  have O7:L'=z'.flatten.toArray:=by rw[←e3]
  obtain⟨ρ',b9⟩:=PF (e:=e) hp.aT e2 od (jY Kg) Bu
  refine⟨_,_,ρ', ?_,b9⟩
  have KI:¬len*te.size>16777216:=aa
  by_cases h0:len*te.size=0
  ·have hm:(Array.range 0).map (fun x=>(#[]:Array Value)[x % (#[]:Array Value).size]!)=madeCells z.cells (len*te.size):=by simp[h0,madeCells]
   simp only[execOp,ho,Instr.buildSlice,Sem.run_bind,run_underlying hu,Result.andThen_ok,he.sizeOf,h0,jB]
   rw[h0]at hm
   simp only[Nat.reducePow,Nat.not_lt_zero,gt_iff_lt,if_false,if_true,Sem.run_bind,Sem.run_pure,Result.andThen_ok,hm]
   rw[h0]at e1
   simp only[e1,Sem.run_bind,newRow,run_newObj,Sem.run_pure,Result.andThen_ok,O7,World.alloc_eq]
  ·have hm:(Array.range (len*te.size)).map (fun x=>z.cells[x % z.cells.size]!)=madeCells z.cells (len*te.size):=rfl
   have Bs:(Go.zeroValue e).run P w= .ok z w:=by simp[Go.zeroValue,typeInfo,i1,i4]
   simp only[execOp,ho,Instr.buildSlice,Sem.run_bind,run_underlying hu,Result.andThen_ok,he.sizeOf,h0,jB,Nat.reducePow,KI,if_false,Bs,Sem.run_pure,hm,e1,newRow,run_newObj,O7,World.alloc_eq]
def inN (x:Nat):List Nat→Bool
 |[]=>false
 |y::r=>Nat.beq x y||inN x r
end
end Go.Sx
namespace Go.Sx
def pick (fr:List (Nat×SV)):List Nat→List (Nat×SV)
 |[]=>[]
 |t::r=>match lk fr t with
  |some s=>(t,s)::pick fr r
  |none=>pick fr r
theorem mr {fr:List (Nat×SV)}:∀{ts:List Nat} {t:Nat} {s:SV},(t,s)∈pick fr ts→lk fr t=some s∧t∈ts
 |u::r,t,s,h=>by
  unfold pick at h
  split at h
  ·rename_i s' hs
   rcases List.mem_cons.1 h with h|h
   ·cases h;exact⟨hs,List.mem_cons_self ..⟩
   ·exact⟨(mr h).1,List.mem_cons_of_mem _ (mr h).2⟩
  ·exact⟨(mr h).1,List.mem_cons_of_mem _ (mr h).2⟩
def tmpsOf:List Operand→List Nat
 |[]=>[]
 |.tmp t::r=>t::tmpsOf r
 |_::r=>tmpsOf r
def looks (o:Oper):List Nat:=tmpsOf o.op.operands.toList
def bound (fr:List (Nat×SV)) (dflt:Option Int):Option Operand→Option Int
 |none=>dflt
 |some x=>match ev fr x with
  |some (.val (.int _ j))=>some j
  |_=>none
theorem eV {fr:List (Nat×SV)} {d:Int} {x:Option Operand} {j:Int} (h:bound fr (some d) x=some j):x=none∧j=d∨∃y kd,x=some y∧aZ fr y (.val (.int kd j)):=by
 unfold bound at h
 split at h
 ·simp only[Option.some.injEq]at h;exact .inl ⟨rfl,h.symm⟩
 ·split at h
  ·rename_i y _ kd j' hy
   simp only[Option.some.injEq]at h
   subst h
   exact .inr ⟨y,kd,rfl,ak hy⟩
  ·simp at h
def Good (P:Program) (fr:List (Nat×SV)) (hp:List (Nat×aA)) (o:Oper) (k:SV→List (Nat×aA)→List (Nat×aA)→List (Nat×aA)→Prop):Prop:=
 ∃c fk new upd,bL P o fr fk c new upd∧(∀j b,(j,b)∈fk→find hp j=some b)∧(∀j b,(j,b)∈new→find hp j=none)∧(∀j b,(j,b)∈upd→∃b0,(j,b0)∈fk∧b0.wr=true∧b0.data.live=true∧b.wr=true)∧k c fk new upd
def ac7 (o:Oper) (Z:List Nat):Bool:=match o.dst with
 |some d=>inN (700000+d) Z
 |none=>false
def exec (P:Program) (T:List (TypeId×TI)) (Z:List Nat) (fr:List (Nat×SV)) (hp:List (Nat×aA)) (o:Oper) (k:SV→List (Nat×aA)→List (Nat×aA)→List (Nat×aA)→Prop):Prop:=
 match o.op with
 |.move x=>match ev fr x with
  |some c=>k c [] [] []
  |none=>Good P fr hp o k
 |.assign x=>match ev fr x with
  |some c=>k c [] [] []
  |none=>Good P fr hp o k
 |.box e x=>match o.dst,ev fr x with
  |some d,some sv=>match oy sv,find hp d with
   |some cs,none=>match inN d Z with
    |false=>k (.ptr d 0 0 0) [] [(d,⟨e,true,.one cs⟩)] []
    |true=>match aV cs with
     |true=>k (cx cs) [] [] []
     |false=>Good P fr hp o k
   |_,_=>Good P fr hp o k
  |_,_=>Good P fr hp o k
 |.alloc e=>match o.dst,df T e with
  |some d,some ti=>match find hp d with
   |none=>k (.ptr d 0 0 0) [] [(d,⟨e,true,.one ti.zero⟩)] []
   |some _=>Good P fr hp o k
  |_,_=>Good P fr hp o k
 |.load t x=>match ac7 o Z with
  |true=>Good P fr hp o k
  |false=>match ev fr x,df T t with
  |some (.ptr key s i r),some ti=>match find hp key with
   |some blk=>match elem blk.data s i with
    |some (ob,cs)=>match sub 64 cs r ti.size,ti.size with
     |some l,_+1=>match dN ti l with
      |some c=>Vq ob <| k c [(key,blk)] [] []
      |none=>Good P fr hp o k
     |_,_=>Good P fr hp o k
    |none=>Good P fr hp o k
   |none=>Good P fr hp o k
  |some (.val _),_=>∃c fk new,bL P o fr fk c new []∧(∀j b,(j,b)∈fk→find hp j=some b)∧(∀j b,(j,b)∈new→find hp j=none)∧k c fk new []
  |_,_=>Good P fr hp o k
 |.store t x y=>match ev fr x,ev fr y,df T t with
  |some (.ptr key s i r),some sv,some ti=>match find hp key,oy sv with
   |some ⟨ty,true,d⟩,some nw=>match elem d s i with
    |some (ob,cs)=>match Nat.beq (SV.cu nw) ti.size,Nat.ble (r+ti.size) (SV.cu cs)with
     |true,true=>match put 64 cs r ti.size nw with
      |some cs'=>match gL d i cs' with
       |some d'=>Vq ob <| k .any [(key,⟨ty,true,d⟩)] [] [(key,⟨ty,true,d'⟩)]
       |none=>Good P fr hp o k
      |none=>Good P fr hp o k
     |_,_=>Good P fr hp o k
    |none=>Good P fr hp o k
   |_,_=>Good P fr hp o k
  |_,_,_=>Good P fr hp o k
 |.fieldAddr s x j=>match ev fr x,df T s with
  |some (.ptr key sz i r),some ⟨.agg fs,_,_,_⟩=>match fs[j]? with
   |some (off,_,_+1)=>k (.ptr key sz i (r+off)) [] [] []
   |_=>Good P fr hp o k
  |_,_=>Good P fr hp o k
 |.extract x ix=>match ev fr x with
  |some (.cC l)=>match l[ix]? with
   |some c=>match (c.aU||(oy c).isSome)with
    |true=>k c [] [] []
    |false=>Good P fr hp o k
   |none=>Good P fr hp o k
  |_=>Good P fr hp o k
 |.binOp op xt x y _=>match ev fr x,ev fr y with
  |some (.val (.int k1 a)),some (.val (.int k2 b))=>match op with
   |.shl=>0≤b∧k (.val (.int k1 (jH k1 a b))) [] [] []
   |.shr=>0≤b∧k (.val (.int k1 (jz k1 a b))) [] [] []
   |op=>if k1=k2 then match Pt op k1 a b with
    |some (ob,v)=>Vq ob <| k (.val v) [] [] []
    |none=>Good P fr hp o k
    else Good P fr hp o k
  |some (.val (.bool a)),some (.val (.bool b))=>match df T xt with
   |some ⟨.bool,_,_,_⟩=>match op with
    |.eql=>k (.val (.bool (a==b))) [] [] []
    |.neq=>k (.val (.bool (a != b))) [] [] []
    |_=>Good P fr hp o k
   |_=>Good P fr hp o k
  |some (.val (.string a)),some (.val (.string b))=>match Pv op a b with
   |some (ob,v)=>Vq ob <| k (.val v) [] [] []
   |none=>Good P fr hp o k
  |some _,some _=>∃v,bL P o fr [] (.val v) [] []∧k (.val v) [] [] []
  |_,_=>Good P fr hp o k
 |.unOp op _ x=>match op,ev fr x with
  |.not,some (.val (.bool a))=>k (.val (.bool (!a))) [] [] []
  |.neg,some (.val (.int kd a))=>k (.val (.int kd (kd.wrap (0 - a)))) [] [] []
  |.xor,some (.val (.int kd a))=>k (.val (.int kd (zk kd (if kd.signed=true then -1 else kd.max) a))) [] [] []
  |_,_=>Good P fr hp o k
 |.convert s d x=>match ev fr x,df T s,df T d with
  |some (.val (.int k2 a)),some ⟨.int k1,_,_,_⟩,some ⟨.int kd,_,_,_⟩=>if k1=k2 then k (.val (.int kd (kd.wrap a))) [] [] []else Good P fr hp o k
  |_,_,_=>∃c fk new,bL P o fr fk c new []∧(∀j b,(j,b)∈fk→find hp j=some b)∧(∀j b,(j,b)∈new→find hp j=none)∧k c fk new []
 |.nilCheck x=>match ev fr x with
  |some (.ptr key s i r)=>k (.ptr key s i r) [] [] []
  |some (.clo f a b)=>k (.clo f a b) [] [] []
  |_=>Good P fr hp o k
 |.indexAddr t x ix=>match ev fr x,ev fr ix,df T t with
  |some (.aK key s i n),some (.val (.int _ j)),some ⟨.aK e,_,_,_⟩=>match df T e with
   |some te=>match Nat.beq te.size s with
    |true=>(0≤j∧j<(n:Int))∧k (.ptr key s (i+j.toNat) 0) [] [] []
    |false=>Good P fr hp o k
   |none=>Good P fr hp o k
  |some (.ptr key s i r),some (.val (.int _ j)),some ⟨.arr n e,_,_,_⟩=>match df T e with
   |some te=>(0≤j∧j<(n:Int))∧k (.ptr key s i (r+j.toNat*te.size)) [] [] []
   |none=>Good P fr hp o k
  |some (.val _),_,_=>∃c fk new,bL P o fr fk c new []∧(∀j b,(j,b)∈fk→find hp j=some b)∧(∀j b,(j,b)∈new→find hp j=none)∧k c fk new []
  |_,_,_=>Good P fr hp o k
 |.index t x ix=>match ev fr x,ev fr ix,df T t with
  |some (.val (.string s)),some (.val (.int _ j)),some ⟨.str,_,_,_⟩=>(0≤j∧j<(s.size:Int))∧k (.val (.int .u8 (((s.data.getD j.toNat 0).toNat:Nat):Int))) [] [] []
  |_,_,_=>∃c fk new,bL P o fr fk c new []∧(∀j b,(j,b)∈fk→find hp j=some b)∧(∀j b,(j,b)∈new→find hp j=none)∧k c fk new []
 |.slice t x lo hi none=>match bound fr (some 0) lo,ev fr x,df T t with
  |some l,some (.aK key s i n),some ⟨.aK e,_,_,_⟩=>match bound fr (some (n:Int)) hi,df T e with
   |some h,some te=>match Nat.beq te.size s with
    |true=>(0≤l∧l≤h∧h≤(n:Int))∧k (.aK key s (i+l.toNat) (h - l).toNat) [] [] []
    |false=>Good P fr hp o k
   |_,_=>Good P fr hp o k
  |some l,some (.val (.string s)),some ⟨.str,_,_,_⟩=>match bound fr (some (s.size:Int)) hi with
   |some h=>(0≤l∧l≤h∧h≤(s.size:Int))∧k (.val (.string (s.extract l.toNat h.toNat))) [] [] []
   |none=>Good P fr hp o k
  |_,_,_=>Good P fr hp o k
 |.makeSlice t x y=>match o.dst,ev fr x,ev fr y,df T t with
  |some d,some (.val (.int _ l)),some (.val (.int _ c)),some ⟨.aK e,_,_,_⟩=>match df T e,find hp d with
   |some te,none=>match wZ te with
    |true=>(0≤l∧l≤c∧(te.bytes:Int)*c≤281474976710656∧c≤9223372036854775807)∧k (.aK d te.size 0 l.toNat) [] [(d,⟨e,true,rf te l.toNat⟩)] []
    |false=>Good P fr hp o k
   |_,_=>Good P fr hp o k
  |_,_,_,_=>Good P fr hp o k
 |.buildSlice t len parts=>match o.dst,fX fr parts.toList,df T t with
  |some d,some ps,some ⟨.aK e,_,_,_⟩=>match df T e,find hp d with
   |some te,none=>match jA 64 (fun i=>some (i*te.size,te.size)) (Dn len te.zero) ps with
    |some l=>match inN d Z with
     |false=>match Bt te l,Nat.beq l.length len,Nat.ble (len*te.size) 16777216 with
      |some dt,true,true=>k (.aK d te.size 0 len) [] [(d,⟨e,true,dt⟩)] []
      |_,_,_=>Good P fr hp o k
     |true=>match aV l&&oH te.size l,Nat.beq l.length len,Nat.ble (len*te.size) 16777216 with
      |true,true,true=>k (ed te.size l) [] [] []
      |_,_,_=>Good P fr hp o k
    |none=>Good P fr hp o k
   |_,_=>Good P fr hp o k
  |_,_,_=>Good P fr hp o k
 |.build t parts=>match df T t,fX fr parts.toList with
  |some ⟨.agg fs,sz,by',z⟩,some ps=>match jA 64 (placesOf fs) z ps with
   |some l=>match dN ⟨.agg fs,sz,by',z⟩ l with
    |some c=>k c [] [] []
    |none=>Good P fr hp o k
   |none=>Good P fr hp o k
  |some ⟨.arr n e,sz,by',z⟩,some ps=>match df T e with
   |some te=>match jA 64 (fun i=>some (i*te.size,te.size)) z ps with
    |some l=>match dN ⟨.arr n e,sz,by',z⟩ l with
     |some c=>k c [] [] []
     |none=>Good P fr hp o k
    |none=>Good P fr hp o k
   |none=>Good P fr hp o k
  |_,_=>Good P fr hp o k
 |.call ⟨.builtin b,xs,ts⟩=>match b,xs.toList,ts.toList with
  |.len,[x],[t]=>match ev fr x,df T t with
   |some (.val (.string s)),some ⟨.str,_,_,_⟩=>k (.val (.int .i64 (s.size:Int))) [] [] []
   |some (.aK _ _ _ n),some ⟨.aK _,_,_,_⟩=>k (.val (.int .i64 (n:Int))) [] [] []
   |some (.val (.slice _ n _)),some ⟨.aK _,_,_,_⟩=>k (.val (.int .i64 (n:Int))) [] [] []
   |_,_=>Good P fr hp o k
  |.min,[x,y],_=>match ev fr x,ev fr y with
   |some (.val (.int k1 a)),some (.val (.int _ b))=>k (.val (.int k1 (if b<a then b else a))) [] [] []
   |_,_=>Good P fr hp o k
  |.max,[x,y],_=>match ev fr x,ev fr y with
   |some (.val (.int k1 a)),some (.val (.int _ b))=>k (.val (.int k1 (if b>a then b else a))) [] [] []
   |_,_=>Good P fr hp o k
  |.append,[x,y],[t,t2]=>match o.dst,ev fr x,ev fr y,df T t,df T t2 with
   |some kn,some (.aK k1 s 0 n),some (.aK k2 s2 i2 m),some ⟨.aK e,_,_,_⟩,some ⟨.aK e2,_,_,_⟩=>match Nat.beq e2 e,df T e,find hp k1,find hp k2,find hp kn with
    |true,some te,some ⟨ty,true,d⟩,some blk2,none=>match Nat.beq ty e&&(Nat.beq s te.size&&Nat.beq s2 te.size),cW d,cW blk2.data,q9 d n blk2.data i2 m with
     |true,some wd,some wd2,some d'=>match Nat.beq wd te.size&&Nat.beq wd2 te.size with
      |true=>(n≤fi d∧i2+m≤fi blk2.data∧(n+m)*te.bytes≤140737488355328∧n+m≤9223372036854775807)∧k (.aK kn te.size 0 (n+m)) [(k1,⟨ty,true,d⟩),(k2,blk2)] [(kn,⟨e,true,d'⟩)] [(k1,⟨e,true,.dead⟩)]
      |false=>Good P fr hp o k
     |_,_,_,_=>Good P fr hp o k
    |_,_,_,_,_=>Good P fr hp o k
   |some kn,some (.val (.slice none 0 0)),some (.aK k2 s2 i2 m),some ⟨.aK e,_,_,_⟩,some ⟨.aK e2,_,_,_⟩=>match Nat.beq e2 e,df T e,find hp k2,find hp kn with
    |true,some te,some blk2,none=>match Nat.beq s2 te.size,cW blk2.data,q9 blk2.data 0 blk2.data i2 m with
     |true,some wd2,some d'=>match Nat.beq wd2 te.size with
      |true=>(i2+m≤fi blk2.data∧m*te.bytes≤140737488355328∧m≤9223372036854775807)∧k (.aK kn te.size 0 m) [(k2,blk2)] [(kn,⟨e,true,d'⟩)] []
      |false=>Good P fr hp o k
     |_,_,_=>Good P fr hp o k
    |_,_,_,_=>Good P fr hp o k
   |_,_,_,_,_=>Good P fr hp o k
  |_,_,_=>∃c fk new upd,bL P o fr fk c new upd∧(∀j b,(j,b)∈fk→find hp j=some b)∧(∀j b,(j,b)∈new→find hp j=none)∧(∀j b,(j,b)∈upd→∃b0,(j,b0)∈fk∧b0.wr=true∧b0.data.live=true∧b.wr=true)∧k c fk new upd
 |.call ⟨.value x,xs,_⟩=>match ev fr x with
  |some (.clo f first cap)=>match KC fr xs.toList with
   |some args=>∃fk c new upd,af P f (first++(args++cap)) fk c new upd∧(∀j b,(j,b)∈fk→find hp j=some b)∧(∀j b,(j,b)∈new→find hp j=none)∧(∀j b,(j,b)∈upd→∃b0,(j,b0)∈fk∧b0.wr=true∧b0.data.live=true∧b.wr=true)∧k c fk new upd
   |none=>Good P fr hp o k
  |some (.yld l rc us cap)=>match KC fr xs.toList with
   |some args=>∃fk c new upd,SA P l rc us cap args fk c new upd∧(∀j b,(j,b)∈fk→find hp j=some b)∧(∀j b,(j,b)∈new→find hp j=none)∧(∀j b,(j,b)∈upd→∃b0,(j,b0)∈fk∧b0.wr=true∧b0.data.live=true∧b.wr=true)∧k c fk new upd
   |none=>Good P fr hp o k
  |_=>Good P fr hp o k
 |_=>∃c fk new upd,bL P o fr fk c new upd∧(∀j b,(j,b)∈fk→find hp j=some b)∧(∀j b,(j,b)∈new→find hp j=none)∧(∀j b,(j,b)∈upd→∃b0,(j,b0)∈fk∧b0.wr=true∧b0.data.live=true∧b.wr=true)∧k c fk new upd
theorem aD {hp:List (Nat×aA)}:∀j b,(j,b)∈([]:List (Nat×aA))→find hp j=some b:=fun _ _ h=>by cases h
theorem an {hp:List (Nat×aA)}:∀j b,(j,b)∈([]:List (Nat×aA))→find hp j=none:=fun _ _ h=>by cases h
theorem ar {fk:List (Nat×aA)}:∀j b,(j,b)∈([]:List (Nat×aA))→∃b0:aA,(j,b0)∈fk∧b0.wr=true∧b0.data.live=true∧b.wr=true:=fun _ _ h=>by cases h
theorem dD {hp:List (Nat×aA)} {k:Nat} {b:aA} (h:find hp k=some b):∀j c,(j,c)∈[(k,b)]→find hp j=some c:=fun j c hm=>by
 simp only[List.mem_singleton,Prod.mk.injEq]at hm
 obtain⟨rfl,rfl⟩:=hm;exact h
theorem dx {hp:List (Nat×aA)} {k:Nat} {b:aA} (h:find hp k=none):∀j c,(j,c)∈[(k,b)]→find hp j=none:=fun j c hm=>by
 simp only[List.mem_singleton,Prod.mk.injEq]at hm
 obtain⟨rfl,rfl⟩:=hm;exact h
theorem zS {P:Program} {T:List (TypeId×TI)} {Z:List Nat} (hT:db P T) {fr:List (Nat×SV)} {hp:List (Nat×aA)} {o:Oper} {k:SV→List (Nat×aA)→List (Nat×aA)→List (Nat×aA)→Prop}
  (h:exec P T Z fr hp o k):Good P fr hp o k:=by
 unfold exec at h
 split at h
 case h_1 x ho=>
  split at h
  ·rename_i c hc
   exact⟨c,[],[],[],Hd (.inl ho) (ak hc),aD,an,ar,h⟩
  ·exact h
 case h_2 x ho=>
  split at h
  ·rename_i c hc
   exact⟨c,[],[],[],Hd (.inr ho) (ak hc),aD,an,ar,h⟩
  ·exact h
 case h_3 e x ho=>
  split at h
  ·rename_i d sv hd hsv
   split at h
   ·rename_i cs zr hf
    split at h
    ·exact⟨_,[],_,[],Vp ho (ak hsv) zr,aD,dx hf,ar,h⟩
    ·split at h
     ·rename_i od
      exact⟨_,[],[],[],PE ho (ak hsv) zr od,aD,an,ar,h⟩
     ·exact h
   ·exact h
  ·exact h
 case h_4 e ho=>
  split at h
  ·rename_i d ti hd rv
   split at h
   ·rename_i hf
    exact⟨_,[],_,[],Kz ho (hT.get rv),aD,dx hf,ar,h⟩
   ·exact h
  ·exact h
 case h_5 t x ho=>
  split at h
  ·exact h
  split at h
  ·rename_i key s i r ti hx rv
   split at h
   ·rename_i blk eC
    split at h
    ·rename_i ob cs he
     split at h
     ·rename_i l _ hs fG
      split at h
      ·rename_i c hc
       exact⟨c,_,[],[],vR ho (ak hx) (hT.get rv) (List.mem_cons_self ..) he (b6 h).1 hs aa hc,dD eC,an,ar,(b6 h).2⟩
      ·exact h
     ·exact h
    ·exact h
   ·exact h
  ·obtain⟨c,fk,new,h1,h2,h3,h4⟩:=h
   exact⟨c,fk,new,[],h1,h2,h3,ar,h4⟩
  ·exact h
 case h_6 t x y ho=>
  split at h
  ·rename_i key s i r sv ti hx hy rv
   split at h
   ·rename_i ty d nw eC hnw
    split at h
    ·rename_i ob cs he
     split at h
     ·rename_i hw hle
      split at h
      ·rename_i cs' bW
       split at h
       ·rename_i d' Fv
        refine⟨.any,_,[],_,Dd ho (ak hx) (ak hy) (hT.get rv) (List.mem_cons_self ..) he (b6 h).1 hnw (Nat.eq_of_beq_eq_true hw) (Nat.le_of_ble_eq_true hle) bW Fv,dD eC,an, ?_,(b6 h).2⟩
        intro j b hm
        simp only[List.mem_singleton,Prod.mk.injEq]at hm
        obtain⟨rfl,rfl⟩:=hm
        exact⟨_,List.mem_cons_self ..,rfl,I1 he,rfl⟩
       ·exact h
      ·exact h
     ·exact h
    ·exact h
   ·exact h
  ·exact h
 case h_7 s x j ho=>
  split at h
  ·rename_i key sz i r fs _ _ _ hx rv
   split at h
   ·rename_i off e _ hj
    exact⟨_,[],[],[],Bn ho (ak hx) (hT.get rv) rfl hj aa,aD,an,ar,h⟩
   ·exact h
  ·exact h
 case h_8 x ix ho=>
  split at h
  ·rename_i l hx
   split at h
   ·rename_i c hc
    split at h
    ·rename_i hb
     refine⟨c,[],[],[],FH ho (ak hx) hc ?_,aD,an,ar,h⟩
     simpa using hb
    ·exact h
   ·exact h
  ·exact h
 case h_9 op xt x y yt ho=>
  split at h
  ·rename_i k1 a k2 b hx hy
   split at h
   ·exact⟨_,[],[],[],Vu ho (ak hx) (ak hy) h.1,aD,an,ar,h.2⟩
   ·exact⟨_,[],[],[],Vv ho (ak hx) (ak hy) h.1,aD,an,ar,h.2⟩
   ·split at h
    ·rename_i hk
     subst hk
     split at h
     ·rename_i ob v hv
      exact⟨_,[],[],[],Pu ho (ak hx) (ak hy) hv (b6 h).1,aD,an,ar,(b6 h).2⟩
     ·exact h
    ·exact h
  ·rename_i a b hx hy
   split at h
   ·rename_i rv
    split at h
    ·exact⟨_,[],[],[],Vw ho (ak hx) (ak hy) (hT.get rv) rfl,aD,an,ar,h⟩
    ·exact⟨_,[],[],[],Vx ho (ak hx) (ak hy) (hT.get rv) rfl,aD,an,ar,h⟩
    ·exact h
   ·exact h
  ·rename_i a b hx hy
   split at h
   ·rename_i ob v hv
    exact⟨_,[],[],[],Pw ho (ak hx) (ak hy) hv (b6 h).1,aD,an,ar,(b6 h).2⟩
   ·exact h
  ·obtain⟨v,h1,h2⟩:=h
   exact⟨_,[],[],[],h1,aD,an,ar,h2⟩
  ·exact h
 case h_10 op xt x ho=>
  split at h
  ·rename_i a hx
   exact⟨_,[],[],[],Vy ho (ak hx),aD,an,ar,h⟩
  ·rename_i kd a hx
   exact⟨_,[],[],[],Vz ho (ak hx),aD,an,ar,h⟩
  ·rename_i kd a hx
   exact⟨_,[],[],[],VA ho (ak hx),aD,an,ar,h⟩
  ·exact h
 case h_11 s d x ho=>
  split at h
  ·rename_i k2 a k1 _ _ _ kd _ _ _ hx hs hd
   split at h
   ·rename_i hk
    subst hk
    exact⟨_,[],[],[],Px ho (ak hx) (hT.get hs) (hT.get hd) rfl rfl,aD,an,ar,h⟩
   ·exact h
  ·obtain⟨c,fk,new,h1,h2,h3,h4⟩:=h
   exact⟨c,fk,new,[],h1,h2,h3,ar,h4⟩
 case h_12 x ho=>
  split at h
  ·rename_i key s i r hx
   exact⟨_,[],[],[],Dg ho (ak hx),aD,an,ar,h⟩
  ·rename_i f a b hx
   exact⟨_,[],[],[],Bq ho (ak hx),aD,an,ar,h⟩
  ·exact h
 case h_13 t x ix ho=>
  split at h
  ·rename_i key s i n kd j e _ _ _ hx hi ht
   split at h
   ·rename_i te hte
    split at h
    ·rename_i hs
     exact⟨_,[],[],[],Br ho (ak hx) (ak hi) (hT.get ht) rfl (hT.get hte) (Nat.eq_of_beq_eq_true hs) h.1.1 h.1.2,aD,an,ar,h.2⟩
    ·exact h
   ·exact h
  ·rename_i key s i r kd j n e _ _ _ hx hi ht
   split at h
   ·rename_i te hte
    exact⟨_,[],[],[],Dh ho (ak hx) (ak hi) (hT.get ht) rfl (hT.get hte) h.1.1 h.1.2,aD,an,ar,h.2⟩
   ·exact h
  ·obtain⟨c,fk,new,h1,h2,h3,h4⟩:=h
   exact⟨c,fk,new,[],h1,h2,h3,ar,h4⟩
  ·exact h
 case h_14 t x ix ho=>
  split at h
  ·rename_i s kd j _ _ _ hx hi ht
   exact⟨_,[],[],[],Di ho (ak hx) (ak hi) (hT.get ht) rfl h.1.1 h.1.2,aD,an,ar,h.2⟩
  ·obtain⟨c,fk,new,h1,h2,h3,h4⟩:=h
   exact⟨c,fk,new,[],h1,h2,h3,ar,h4⟩
 case h_15 t x lo hi ho=>
  split at h
  ·rename_i l key s i n e _ _ _ hl hx ht
   split at h
   ·rename_i h' te hh hte
    split at h
    ·rename_i hs
     exact⟨_,[],[],[],KF ho (ak hx) (eV hl) (eV hh) (hT.get ht) rfl (hT.get hte) (Nat.eq_of_beq_eq_true hs) h.1.1 h.1.2.1 h.1.2.2,aD,an,ar,h.2⟩
    ·exact h
   ·exact h
  ·rename_i l s _ _ _ hl hx ht
   split at h
   ·rename_i h' hh
    exact⟨_,[],[],[],Dj ho (ak hx) (eV hl) (eV hh) (hT.get ht) rfl h.1.1 h.1.2.1 h.1.2.2,aD,an,ar,h.2⟩
   ·exact h
  ·exact h
 case h_16 t x y ho=>
  split at h
  ·rename_i d kl l kc c e _ _ _ hd hx hy ht
   split at h
   ·rename_i te hte hf
    split at h
    ·rename_i hz
     exact⟨_,[],_,[],PA ho (ak hx) (ak hy) (hT.get ht) rfl (hT.get hte) hz h.1.1 h.1.2.1 h.1.2.2.1 h.1.2.2.2,aD,dx hf,ar,h.2⟩
    ·exact h
   ·exact h
  ·exact h
 case h_17 t len parts ho=>
  split at h
  ·rename_i d ps e _ _ _ hd C2 ht
   split at h
   ·rename_i te hte hf
    split at h
    ·rename_i l hb
     split at h
     ·split at h
      ·rename_i dt hdt hlen fG
       exact⟨_,[],_,[],zn ho (hT.get ht) rfl (hT.get hte) C2 hb hdt (Nat.eq_of_beq_eq_true hlen) (Nat.le_of_ble_eq_true fG),aD,dx hf,ar,h⟩
      ·exact h
     ·split at h
      ·rename_i od hlen fG
       rw[Bool.and_eq_true]at od
       exact⟨_,[],[],[],xb ho (hT.get ht) rfl (hT.get hte) C2 hb od.1 od.2 (Nat.eq_of_beq_eq_true hlen) (Nat.le_of_ble_eq_true fG),aD,an,ar,h⟩
      ·exact h
    ·exact h
   ·exact h
  ·exact h
 case h_18 t parts ho=>
  split at h
  ·rename_i fs sz by' z ps ht C2
   split at h
   ·rename_i l hb
    split at h
    ·rename_i c hc
     exact⟨_,[],[],[],KH ho (hT.get ht) rfl C2 hb hc,aD,an,ar,h⟩
    ·exact h
   ·exact h
  ·rename_i n e sz by' z ps ht C2
   split at h
   ·rename_i te hte
    split at h
    ·rename_i l hb
     split at h
     ·rename_i c hc
      exact⟨_,[],[],[],Dl ho (hT.get ht) rfl (hT.get hte) C2 hb hc,aD,an,ar,h⟩
     ·exact h
    ·exact h
   ·exact h
  ·exact h
 case h_19 b xs ts ho=>
  split at h
  ·rename_i x t hxs nh
   have zt:xs= #[x]:=by apply Array.ext';simpa using hxs
   have I9:ts= #[t]:=by apply Array.ext';simpa using nh
   split at h
   ·rename_i s _ _ _ hx ht
    exact⟨_,[],[],[],FJ ho zt I9 (ak hx) rfl (hT.get ht) (.inl ⟨rfl,s,rfl⟩),aD,an,ar,h⟩
   ·rename_i n e _ _ _ hx ht
    exact⟨_,[],[],[],FJ ho zt I9 (ak hx) rfl (hT.get ht) (.inr ⟨⟨e,rfl⟩,fun s hs=>by cases hs⟩),aD,an,ar,h⟩
   ·rename_i n _ e _ _ _ hx ht
    exact⟨_,[],[],[],FJ ho zt I9 (ak hx) rfl (hT.get ht) (.inr ⟨⟨e,rfl⟩,fun s hs=>by cases hs⟩),aD,an,ar,h⟩
   ·exact h
  ·rename_i x y hxs
   have zt:xs= #[x,y]:=by apply Array.ext';simpa using hxs
   split at h
   ·rename_i k1 a k2 b hx hy
    exact⟨_,[],[],[],VB ho zt (ak hx) (ak hy),aD,an,ar,h⟩
   ·exact h
  ·rename_i x y hxs
   have zt:xs= #[x,y]:=by apply Array.ext';simpa using hxs
   split at h
   ·rename_i k1 a k2 b hx hy
    exact⟨_,[],[],[],VC ho zt (ak hx) (ak hy),aD,an,ar,h⟩
   ·exact h
  ·rename_i x y t t2 hxs nh
   have zt:xs= #[x,y]:=by apply Array.ext';simpa using hxs
   have I9:ts= #[t,t2]:=by apply Array.ext';simpa using nh
   split at h
   ·rename_i kn k1 s n k2 s2 i2 m e _ _ _ e2 _ _ _ hd hx hy ht C3
    split at h
    ·rename_i te ty d blk2 he2 hte hb1 hb2 hbn
     split at h
     ·rename_i wd wd2 d' hc Vr ni happ
      split at h
      ·rename_i hww
       simp only[Bool.and_eq_true,Nat.beq_eq]at hc hww
       obtain⟨rfl,rfl,rfl⟩:=hc
       obtain⟨rfl,rfl⟩:=hww
       have VI:=Nat.eq_of_beq_eq_true he2
       subst VI
       have gJ:d.live=true:=by cases d<;>simp[cW]at Vr<;>rfl
       have gI:blk2.data.live=true:=by cases hq:blk2.data<;>rw[hq]at ni<;>simp[cW]at ni<;>rfl
       refine⟨_,_,_,_,I2 ho zt I9 (ak hx) (ak hy) (hT.get ht) rfl (hT.get C3) rfl (hT.get hte) (List.mem_cons_self ..) (List.mem_cons_of_mem _ (List.mem_cons_self ..)) gJ gI Vr ni h.1.1 h.1.2.1 happ h.1.2.2.1 h.1.2.2.2, ?_,dx hbn, ?_,h.2⟩
       ·intro j b hm
        simp only[List.mem_cons,Prod.mk.injEq,List.not_mem_nil,or_false]at hm
        rcases hm with⟨rfl,rfl⟩|⟨rfl,rfl⟩
        ·exact hb1
        ·exact hb2
       ·intro j b hm
        simp only[List.mem_singleton,Prod.mk.injEq]at hm
        obtain⟨rfl,rfl⟩:=hm
        exact⟨_,List.mem_cons_self ..,rfl,gJ,rfl⟩
      ·exact h
     ·exact h
    ·exact h
   ·rename_i kn k2 s2 i2 m e _ _ _ e2 _ _ _ hd hx hy ht C3
    split at h
    ·rename_i te blk2 he2 hte hb2 hbn
     split at h
     ·rename_i wd2 d' hc ni happ
      split at h
      ·rename_i hww
       have nk:=Nat.eq_of_beq_eq_true hc
       subst nk
       have agV:=Nat.eq_of_beq_eq_true hww
       subst agV
       have VI:=Nat.eq_of_beq_eq_true he2
       subst VI
       have gI:blk2.data.live=true:=by cases hq:blk2.data<;>rw[hq]at ni<;>simp[cW]at ni<;>rfl
       exact⟨_,_,_,[],zq ho zt I9 (ak hx) (ak hy) (hT.get ht) rfl (hT.get C3) rfl (hT.get hte) (List.mem_cons_self ..) gI ni h.1.1 happ h.1.2.1 h.1.2.2,dD hb2,dx hbn,ar,h.2⟩
      ·exact h
     ·exact h
    ·exact h
   ·exact h
  ·exact h
 case h_20 x xs ts ho=>
  split at h
  ·rename_i f first cap hx
   split at h
   ·rename_i args zP
    obtain⟨fk,c,new,upd,h1,h2,h3,h4,h5⟩:=h
    exact⟨c,fk,new,upd,Py ho hx zP h1,h2,h3,h4,h5⟩
   ·exact h
  ·rename_i l rc us cap hx
   split at h
   ·rename_i args zP
    obtain⟨fk,c,new,upd,h1,h2,h3,h4,h5⟩:=h
    exact⟨c,fk,new,upd,KD ho hx zP h1,h2,h3,h4,h5⟩
   ·exact h
  ·exact h
 case h_21=>exact h
end Go.Sx
