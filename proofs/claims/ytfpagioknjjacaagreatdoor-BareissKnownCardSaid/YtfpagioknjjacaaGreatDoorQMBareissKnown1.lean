/- The texts SxA, SxZ, SxB, SxC, SxD, SxE, SxF, SxJ, SxK, SxL, SxM, SxQ, SxG. -/
import Derived.OrdersIn
import Derived.TacticsIn
import Derived.Below
import Derived.Laws.Rows
import Derived.RangeFuncLeaves
import Derived.RangeFuncRecord
import Derived.RangeFuncNested
import Derived.Laws.CopyRow
import Derived.Laws.Tables
import Derived.Laws.StructEq
import Derived.Laws.Small
import Derived.Laws.NewBlocks
import Derived.Laws.Concat
import Derived.Laws.MakeOwn
import Derived.Laws.BytesString
import Derived.Laws.Append
namespace Go.Sx
theorem aa {p:Prop} (h:p:=by omega):p:=h
theorem aB {p:Prop} (h:p:=by kernel_rfl):p:=h
theorem aF {p:Prop} (h:p:=by decide):p:=h
end Go.Sx
namespace Go.Sx
structure iR (L V:Type) where
 rd:L→Bool
 wr:L→Bool
 val:L→V
def iR.ap {L V:Type} (σ:iR L V) (s:L→V):L→V:=fun l=>if σ.wr l then σ.val l else s l
def iR.MD {L V:Type} (σ τ:iR L V):Prop:=∃l,(σ.wr l=true∧(τ.rd l=true∨τ.wr l=true))∨(σ.rd l=true∧τ.wr l=true)
inductive ns (ops:Array Oper):Nat→Nat→Prop
 |one {j:Nat} {o:Oper} {e:Edge} (ho:ops[j]? =some o) (he:e∈o.after) (hb:Region.binds .any e=true):ns ops j e.on
 |trans {j k i:Nat} (h:ns ops j k) (h':ns ops k i):ns ops j i
section
variable {L V:Type} (steps:Nat→iR L V) (s0:L→V)
def sx (X:Nat→Bool):Nat→(L→V)
 |0=>s0
 |n+1=>if X n then(steps n).ap (sx X n)else sx X n
theorem Dn {X:Nat→Bool} {l:L}:∀m,(∀j,j<m→(steps j).wr l=true→X j=true)→sx steps s0 X m l=sx steps s0 (fun _=>true) m l
 |0,_=>rfl
 |m+1,h=>by
  have ih:=Dn m (fun j hj=>h j aa)
  simp only[sx,if_true]
  by_cases hx:X m=true
  ·simp only[hx,if_true,iR.ap];rw[ih]
  ·simp only[hx]
   have hw:(steps m).wr l≠true:=fun hw=>hx (h m aa hw)
   simp only[iR.ap,hw,if_false,Bool.false_eq_true];exact ih
theorem uH {X:Nat→Bool} {l:L} (m:Nat):∀n,m≤n→(∀j,m≤j→j<n→(steps j).wr l=true→X j=false)→sx steps s0 X n l=sx steps s0 X m l
 |0,hm,_=>by obtain rfl:m=0:=aa
             rfl
 |n+1,hm,h=>by
  by_cases hmn:m=n+1
  ·subst hmn;rfl
  ·have ih:=uH m n aa (fun j h1 h2=>h j h1 aa)
   simp only[sx]
   by_cases hx:X n=true
   ·simp only[hx,if_true,iR.ap]
    have hw:(steps n).wr l≠true:=fun hw=>by have:=h n aa aa hw;rw[hx]at this;cases this
    simp only[hw,if_false,Bool.false_eq_true];exact ih
   ·simp only[hx];exact ih
theorem Bu {X Y:Nat→Bool} {l:L}:∀n,(∀j,j<n→(steps j).wr l=true→X j=Y j)→sx steps s0 X n l=sx steps s0 Y n l
 |0,_=>rfl
 |n+1,h=>by
  have ih:=Bu n (fun j hj=>h j aa)
  simp only[sx]
  by_cases hw:(steps n).wr l=true
  ·rw[h n aa hw]
   split
   ·simp only[iR.ap,hw,if_true]
   ·exact ih
  ·have e:∀(b:Bool) (f:L→V),(if b then(steps n).ap f else f) l=f l:=by
    intro b f
    cases b
    ·rfl
    ·simp only[if_true,iR.ap,hw,if_false,Bool.false_eq_true]
   rw[e,e];exact ih
end
theorem filter_lt {p q:Nat→Bool} {i:Nat}:∀l:List Nat,i∈l→p i=true→(∀j,q j=(p j&& !(j==i)))→(l.filter q).length<(l.filter p).length:=by
 have hle:∀l:List Nat,(∀j,q j=(p j&& !(j==i)))→(l.filter q).length≤(l.filter p).length:=by
  intro l hq
  induction l with
  |nil=>simp
  |cons a l ih=>
   simp only[List.filter_cons,hq a]
   cases p a<;>cases (a==i)<;>simp<;>omega
 intro l hi hp hq
 induction l with
 |nil=>cases hi
 |cons a l ih=>
  by_cases ha:a=i
  ·subst ha
   have:=hle l hq
   simp only[List.filter_cons,hq a,hp]
   simp
   omega
  ·have hm:i∈l:=by
    rcases List.mem_cons.1 hi with h|h
    ·exact absurd h.symm ha
    ·exact h
   have:=ih hm
   simp only[List.filter_cons,hq a]
   have hb:(a==i)=false:=by simpa using ha
   rw[hb]
   cases p a<;>simp<;>omega
section
variable {L V:Type} {F:Fence} {nf:Nat} {P:Program} {ops:Array Oper} {Q:Exit→Act→World→Prop} {Rel:(L→V)→Act→World→Prop} {steps:Nat→iR L V} {s0:L→V}
def bU (listed:Array Bool):Nat→Bool:=fun j=>listed.getD j false
theorem xI
  (hexec:∀i,i<ops.size→∀s',(∀l,((steps i).rd l=true∨(steps i).wr l=true)→s' l=sx steps s0 (fun _=>true) i l)→∀a w,Rel s' a w→wpOpIn F nf P ops Q i (Rel ((steps i).ap s')) a w)
  (x0:∀i j,i<j→j<ops.size→(steps i).MD (steps j)→ns ops j i)
  (hedge:∀(i:Nat) (o:Oper),ops[i]? =some o→∀e∈o.after,Region.binds .any e=true→e.on<i)
  (ie:∀a w,Rel (sx steps s0 (fun _=>true) ops.size) a w→Q .normal a w):
  ∀(fuel:Nat) (listed:Array Bool),listed.size=ops.size→
   (∀j,bU listed j=true→∀i,ns ops j i→bU listed i=true)→
   ((List.range ops.size).filter (fun j=> !bU listed j)).length≤fuel→
   ∀a w,Rel (sx steps s0 (bU listed) ops.size) a w→wpAnyIn F nf P .any ops Q fuel listed a w:=by
 have Rl:∀listed:Array Bool,listed.size=ops.size→Region.ready .any ops listed=[]→∀j,j<ops.size→bU listed j=true:=by
  intro listed ir hr j
  induction j using Nat.strongRecOn with
  |_ j ih=>
   intro hj
   refine Classical.byContradiction fun hn=> ?_
   have ZZ:j∈Region.ready .any ops listed:=by
    rw[mem_ready]
    refine⟨?_,ops[j],by simp[hj],fun e he hb=> ?_⟩
    ·have hl:j<listed.size:=aa
     simp only[bU,Bool.not_eq_true]at hn
     simpa [hl]using hn
    ·have aA:=hedge j ops[j] (by simp[hj]) e he hb
     exact ih e.on aA aa
   rw[hr]at ZZ
   cases ZZ
 have Py:∀listed:Array Bool,listed.size=ops.size→Region.ready .any ops listed=[]→∀a w,Rel (sx steps s0 (bU listed) ops.size) a w→Q .normal a w:=by
  intro listed ir hr a w hR
  refine ie a w ?_
  have:sx steps s0 (bU listed) ops.size=sx steps s0 (fun _=>true) ops.size:=by
   funext l
   exact Dn steps s0 _ (fun j hj _=>Rl listed ir hr j hj)
  rwa [←this]
 intro fuel
 induction fuel with
 |zero=>
  intro listed ir Bl hcount a w hR
  have hr:Region.ready .any ops listed=[]:=by
   refine List.eq_nil_iff_forall_not_mem.2 fun j hj=> ?_
   rw[mem_ready]at hj
   obtain⟨h0,o,ho,_⟩:=hj
   have aA:j<ops.size:=by
    rcases Nat.lt_or_ge j ops.size with h|h
    ·exact h
    ·simp[Array.getElem?_eq_none h]at ho
   have:j∈(List.range ops.size).filter (fun j=> !bU listed j):=by
    simp only[List.mem_filter,List.mem_range,bU,Bool.not_eq_true']
    refine⟨aA, ?_⟩
    have hl:j<listed.size:=aa
    simpa [hl]using h0
   have:=List.length_pos_of_mem this
   omega
  exact⟨hr,Py listed ir hr a w hR⟩
 |succ fuel ih=>
  intro listed ir Bl hcount a w hR
  refine⟨fun hr=>Py listed ir hr a w hR,fun i hi=> ?_⟩
  have hmr:=mem_ready.1 hi
  obtain⟨h0,o,ho,mo⟩:=hmr
  have aA:i<ops.size:=by
   rcases Nat.lt_or_ge i ops.size with h|h
   ·exact h
   ·simp[Array.getElem?_eq_none h]at ho
  have hl:i<listed.size:=aa
  have Rm:bU listed i=false:=by
   simp only[bU];simpa [hl]using h0
  have Ij:∀j k,ns ops j k→(j=i∨bU listed j=true)→bU listed k=true:=by
   intro j k hw
   induction hw with
   |@one j o' e Gv he hb=>
    rintro(rfl|hj)
    ·rw[ho]at Gv;cases Gv;exact mo e he hb
    ·exact Bl j hj _ (.one Gv he hb)
   |trans h h' ih1 ih2=>exact fun hj=>ih2 (.inr (ih1 hj))
  have ME:∀j,j<i→(steps j).MD (steps i)→bU listed j=true:=fun j hj hc=>Ij i j (x0 j i hj aA hc) (.inl rfl)
  have Ik:∀j,i<j→j<ops.size→(steps i).MD (steps j)→bU listed j=false:=by
   intro j hj hjn hc
   cases H2:bU listed j with
   |false=>rfl
   |true=>
    have:=Bl j H2 i (x0 i j hj hjn hc)
    rw[Rm]at this;cases this
  have Z0:∀l,((steps i).rd l=true∨(steps i).wr l=true)→sx steps s0 (bU listed) ops.size l=sx steps s0 (fun _=>true) i l:=by
   intro l qh
   rw[uH steps s0 i ops.size aa (fun j h1 h2 hw=> ?_),Dn steps s0 i (fun j hj hw=>ME j hj ⟨l,.inl ⟨hw,qh⟩⟩)]
   rcases Nat.lt_or_ge i j with h|h
   ·refine Ik j h h2 ⟨l, ?_⟩
    rcases qh with h3|h3
    ·exact .inr ⟨h3,hw⟩
    ·exact .inl ⟨h3,.inr hw⟩
   ·obtain rfl:i=j:=aa
    exact Rm
  have cJ:=hexec i aA _ Z0 a w hR
  refine wpOpIn_mono (fun a' w' jw=> ?_) cJ
  have hX:∀j,bU (listed.setIfInBounds i true) j=(if j=i then true else bU listed j):=by
   intro j
   by_cases hji:j=i
   ·subst hji;simp[bU,hl]
   ·rw[if_neg hji];exact getD_set_ne false (fun h=>hji h.symm)
  refine ih _ (by simpa using ir) ?_ ?_ a' w' ?_
  ·intro j hj k hw
   rw[hX]at hj ⊢
   split
   ·rfl
   ·by_cases hji:j=i
    ·exact Ij j k hw (.inl hji)
    ·rw[if_neg hji]at hj;exact Bl j hj k hw
  ·have:=filter_lt (p:=fun j=> !bU listed j) (q:=fun j=> !bU (listed.setIfInBounds i true) j) (i:=i) (List.range ops.size) (by simpa using aA) (by simp[Rm]) (fun j=>by
    rw[hX]
    by_cases hji:j=i<;>simp[hji])
   omega
  ·have:sx steps s0 (bU (listed.setIfInBounds i true)) ops.size=(steps i).ap (sx steps s0 (bU listed) ops.size):=by
    funext l
    by_cases hw:(steps i).wr l=true
    ·rw[uH steps s0 (i+1) ops.size aa (fun j h1 h2 hwj=> ?_)]
     ·simp[sx,hX,iR.ap,hw]
     ·rw[hX,if_neg aa]
      exact Ik j aa h2 ⟨l,.inl ⟨hw,.inr hwj⟩⟩
    ·simp only[iR.ap,hw,if_false,Bool.false_eq_true]
     refine Bu steps s0 _ fun j _ hwj=> ?_
     rw[hX,if_neg]
     rintro rfl
     exact hw hwj
   rw[this]
   exact jw
theorem Gw {id:Nat} (hm:P.follows .mixedOrders=true)
  (hexec:∀i,i<ops.size→∀s',(∀l,((steps i).rd l=true∨(steps i).wr l=true)→s' l=sx steps s0 (fun _=>true) i l)→∀a w,Rel s' a w→wpOpIn F nf P ops Q i (Rel ((steps i).ap s')) a w)
  (x0:∀i j,i<j→j<ops.size→(steps i).MD (steps j)→ns ops j i)
  (hedge:∀(i:Nat) (o:Oper),ops[i]? =some o→∀e∈o.after,Region.binds .any e=true→e.on<i)
  (ie:∀a w,Rel (sx steps s0 (fun _=>true) ops.size) a w→Q .normal a w)
  (a:Act) (w:World) (h:Rel s0 a {w with drawn:=w.drawn+1}):(Code.region id ops true).wpIn F nf P Q a w:=by
 refine wpIn_region_any hm (xI hexec x0 hedge ie _ _ (by simp) ?_ ?_ a _ ?_)
 ·intro j hj
  exfalso
  revert hj
  simp only[bU,Array.getD_eq_getD_getElem?,Array.getElem?_replicate]
  split<;>simp
 ·refine Nat.le_trans (List.length_filter_le _ _) (by simp)
 ·have:sx steps s0 (bU (Array.replicate ops.size false)) ops.size=s0:=by
   funext l
   refine uH steps s0 0 ops.size aa (fun j _ _ _=> ?_)
   simp only[bU,Array.getD_eq_getD_getElem?,Array.getElem?_replicate]
   split<;>simp
  rw[this]
  exact h
end
end Go.Sx
namespace Go.Sx
def lL:List (Nat×IntKind×List Int):=[(3,.u8,[0,1,28,2,29,14,24,3,30,22,20,15,25,17,4,8,31,27,13,23,21,19,16,7,26,12,18,6,11,5,10,9]),(4,.u8,[0,1,56,2,57,49,28,3,61,58,42,50,38,29,17,4,62,47,59,36,45,43,51,22,53,39,33,30,24,18,12,5,63,55,48,27,60,41,37,16,46,35,44,21,52,32,23,11,54,26,40,15,34,20,31,10,25,14,19,9,13,8,7,6]),(2,.u64,[1,10,100,1000,10000,100000,1000000,10000000,100000000,1000000000,10000000000,100000000000,1000000000000,10000000000000,100000000000000,1000000000000000,10000000000000000,100000000000000000,1000000000000000000,10000000000000000000])]
def iw (aY:Nat→Option Obj):Prop:=∀g kd l,(g,kd,l)∈lL→∃o,aY g=some o∧(∀w:World,w.heap[g]? =some o→∀j x,l[j]? =some x→w.cell? ⟨g,j,none⟩=some (.int kd x))∧∃ty fz,o= .cells (l.map fun x=>Value.int kd x).toArray ty fz
def vk (W:World):Prop:=∀g kd l,(g,kd,l)∈lL→l≠[]∧(∀j x,l[j]? =some x→W.cell? ⟨g,j,none⟩=some (.int kd x))∧∃ty fz,W.heap[g]? =some (.cells (l.map fun x=>Value.int kd x).toArray ty fz)
end Go.Sx
namespace Go.Sx
def cP:Nat→Nat→List Nat
 |0,_=>[]
 |f+1,n=>if n=0 then[]else n % 4294967296::cP f (n/4294967296)
def words (n:Nat):List Nat:=cP n n
def bK (w:Nat):List UInt8:=[UInt8.ofNat w,UInt8.ofNat (w/256),UInt8.ofNat (w/65536),UInt8.ofNat (w/16777216)]
def low (n:Nat):Int:=if n<18446744073709551616 then(n:Int)else 0
def nu (n:Nat):ByteArray:=if n<18446744073709551616 then ByteArray.empty else⟨((words n).flatMap bK).toArray⟩
def bB (n:Nat):List Value:=[.int .u64 (low n),.string (nu n)]
def cC (z:Int):List Value:=bB z.natAbs++[.bool (decide (z<0))]
def bD (q:Rat):List Value:=cC q.num++bB (q.den - 1)
structure bY where
 key:Nat→Option (Nat×Nat)
 aY:Nat→Option Obj
 cq:iw aY
structure bY.Le (ρ ρ':bY):Prop where
 key:∀k x,ρ.key k=some x→ρ'.key k=some x
 aY:∀b o,ρ.aY b=some o→ρ'.aY b=some o
theorem bY.Le.refl (ρ:bY):ρ.Le ρ:=⟨fun _ _ h=>h,fun _ _ h=>h⟩
theorem bY.Le.trans {ρ σ τ:bY} (h:ρ.Le σ) (h':σ.Le τ):ρ.Le τ:=⟨fun k x hx=>h'.key k x (h.key k x hx),fun b o ho=>h'.aY b o (h.aY b o ho)⟩
structure Pred where
 h:(Nat→Option Obj)→List Value→Prop
 mono:∀i i' vs,(∀b o,i b=some o→i' b=some o)→h i vs→h i' vs
 width:Nat
 len:∀i vs,h i vs→vs.length=width∧∀v∈vs,v.oneCell'=true
 bare:Bool
 qi:bare=true→width=1
inductive SV where
 |any
 |val (v:Value)
 |ptr (k s i r:Nat)
 |aN (k s i n:Nat)
 |nat (n:Nat)
 |int (z:Int)
 |frac (q:Rat)
 |atom (p:Pred)
 |agg (cs:List SV)
 |ct (vs:List SV)
 |clo (f:FuncId) (first cap:List SV)
  |yld (k:Nat) (rc:Loop) (ts:List Nat) (cap:List SV)
def SV.bf:SV→Bool
 |.any|.val _|.ptr .. |.aN .. |.clo .. |.yld .. =>true
 |.atom p=>p.bare
 |_=>false
mutual
def SV.width:SV→Nat
 |.any|.val _|.ptr .. |.aN .. |.clo .. |.yld .. =>1
 |.nat _=>2
 |.int _=>3
 |.frac _=>5
 |.atom p=>p.width
 |.agg cs=>SV.dn cs
 |.ct _=>0
def SV.dn:List SV→Nat
 |[]=>0
 |c::l=>SV.width c+SV.dn l
end
def cM (c:SV) (cells:List Value):Value:=if c.bf then cells.headD undef else .agg cells.toArray
mutual
def aK (ρ:bY):SV→List Value→Prop
 |.any,vs=>∃v,vs=[v]∧v.oneCell'=true
 |.val v,vs=>vs=[v]∧v.oneCell'=true
 |.ptr k s i r,vs=>∃b t,ρ.key k=some (b,t)∧vs=[.pointer (some ⟨b,i*s+r,none⟩)]
 |.aN k s i n,vs=>(∃b t cap,ρ.key k=some (b,t)∧n≤cap∧(i+cap)*s≤t∧vs=[.slice (some ⟨b,i*s,none⟩) n cap])∨(n=0∧∃a,vs=[.slice a 0 0])
 |.nat n,vs=>vs=bB n
 |.int z,vs=>vs=cC z
 |.frac q,vs=>vs=bD q
 |.atom p,vs=>p.h ρ.aY vs
 |.agg cs,vs=>∃z,au ρ cs z∧vs=z.flatten
 |.ct _,_=>False
 |.clo f first cap,vs=>∃fz cz,au ρ first fz∧au ρ cap cz∧vs=[.func (.func f) (List.zipWith cM first fz).toArray (List.zipWith cM cap cz).toArray]
 |.yld k rc ts cap,vs=>∃l t,ρ.key k=some (l,t)∧vs=[.func (.yield l) #[] #[]]∧∃z,au ρ cap z∧List.zipWith cM cap z=ts.map fun t=>rc.tmps.getD t undef
def au (ρ:bY):List SV→List (List Value)→Prop
 |[],z=>z=[]
 |c::l,z=>∃x r,z=x::r∧aK ρ c x∧au ρ l r
end
def Has (ρ:bY):SV→Value→Prop
 |.any,_=>True
 |.ct l,v=>∃z,au ρ l z∧v= .tuple (List.zipWith cM l z).toArray
 |c,v=>∃x,aK ρ c x∧v=cM c x
mutual
theorem aK.mono {ρ ρ':bY} (h:ρ.Le ρ'):∀(c:SV) (vs:List Value),aK ρ c vs→aK ρ' c vs
 |.any,_,hc=>by simpa only[aK]using hc
 |.val _,_,hc=>by simpa only[aK]using hc
 |.ptr k s i r,_,hc=>by
  simp only[aK]at hc ⊢
  obtain⟨b,t,h1,h2⟩:=hc
  exact⟨b,t,h.key _ _ h1,h2⟩
 |.aN k s i n,_,hc=>by
  simp only[aK]at hc ⊢
  rcases hc with⟨b,t,cap,h1,h2⟩|hc
  ·exact .inl ⟨b,t,cap,h.key _ _ h1,h2⟩
  ·exact .inr hc
 |.nat _,_,hc=>by simpa only[aK]using hc
 |.int _,_,hc=>by simpa only[aK]using hc
 |.frac _,_,hc=>by simpa only[aK]using hc
 |.atom p,_,hc=>by simp only[aK]at hc ⊢;exact p.mono _ _ _ h.aY hc
 |.agg cs,_,hc=>by
  simp only[aK]at hc ⊢
  obtain⟨z,h1,h2⟩:=hc
  exact⟨z,au.mono h cs z h1,h2⟩
 |.ct _,_,hc=>by simp only[aK]at hc
 |.clo f first cap,_,hc=>by
  simp only[aK]at hc ⊢
  obtain⟨fz,cz,h1,h2,h3⟩:=hc
  exact⟨fz,cz,au.mono h first fz h1,au.mono h cap cz h2,h3⟩
 |.yld k rc ts cap,_,hc=>by
  simp only[aK]at hc ⊢
  obtain⟨l,t,h1,h2,z,h3,h4⟩:=hc
  exact⟨l,t,h.key _ _ h1,h2,z,au.mono h cap z h3,h4⟩
theorem au.mono {ρ ρ':bY} (h:ρ.Le ρ'):∀(l:List SV) (z:List (List Value)),au ρ l z→au ρ' l z
 |[],_,hz=>by simpa only[au]using hz
 |c::l,_,hz=>by
  simp only[au]at hz ⊢
  obtain⟨x,r,h1,h2,h3⟩:=hz
  exact⟨x,r,h1,aK.mono h c x h2,au.mono h l r h3⟩
end
theorem Has.mono {ρ ρ':bY} (h:ρ.Le ρ') (c:SV) (v:Value) (hc:Has ρ c v):Has ρ' c v:=by
 cases c<;>simp only[Has]at hc ⊢
 case ct l=>obtain⟨z,h1,h2⟩:=hc;exact⟨z,au.mono h _ _ h1,h2⟩
 all_goals (obtain⟨x,h1,h2⟩:=hc;exact⟨x,aK.mono h _ _ h1,h2⟩)
theorem zq (n:Nat):(bB n).length=2∧∀v∈bB n,v.oneCell'=true:=by simp[bB,Value.oneCell']
theorem zr (z:Int):(cC z).length=3∧∀v∈cC z,v.oneCell'=true:=by simp[cC,bB,Value.oneCell']
theorem dj (q:Rat):(bD q).length=5∧∀v∈bD q,v.oneCell'=true:=by simp[bD,cC,bB,Value.oneCell']
mutual
theorem aK.len {ρ:bY}:∀(c:SV) (vs:List Value),aK ρ c vs→vs.length=c.width∧∀v∈vs,v.oneCell'=true
 |.any,_,hc=>by simp only[aK]at hc;obtain⟨v,rfl,h⟩:=hc;simp[SV.width,h]
 |.val _,_,hc=>by simp only[aK]at hc;obtain⟨rfl,h⟩:=hc;simp[SV.width,h]
 |.ptr ..,_,hc=>by simp only[aK]at hc;obtain⟨b,t,_,rfl⟩:=hc;simp[SV.width,Value.oneCell']
 |.aN ..,_,hc=>by
  simp only[aK]at hc
  rcases hc with⟨b,t,cap,_,_,_,rfl⟩|⟨_,a,rfl⟩<;>simp[SV.width,Value.oneCell']
 |.nat n,_,hc=>by simp only[aK]at hc;subst hc;exact zq n
 |.int z,_,hc=>by simp only[aK]at hc;subst hc;exact zr z
 |.frac q,_,hc=>by simp only[aK]at hc;subst hc;exact dj q
 |.atom p,_,hc=>by simp only[aK]at hc;exact p.len _ _ hc
 |.agg cs,_,hc=>by
  simp only[aK]at hc
  obtain⟨z,h1,rfl⟩:=hc
  exact au.len cs z h1
 |.ct _,_,hc=>by simp only[aK]at hc
 |.clo ..,_,hc=>by simp only[aK]at hc;obtain⟨fz,cz,_,_,rfl⟩:=hc;simp[SV.width,Value.oneCell']
 |.yld ..,_,hc=>by simp only[aK]at hc;obtain⟨_,_,_,rfl,_⟩:=hc;simp[SV.width,Value.oneCell']
theorem au.len {ρ:bY}:∀(l:List SV) (z:List (List Value)),au ρ l z→z.flatten.length=SV.dn l∧∀v∈z.flatten,v.oneCell'=true
 |[],_,hz=>by simp only[au]at hz;subst hz;simp[SV.dn]
 |c::l,_,hz=>by
  simp only[au]at hz
  obtain⟨x,r,rfl,h2,h3⟩:=hz
  obtain⟨a1,a2⟩:=aK.len c x h2
  obtain⟨b1,b2⟩:=au.len l r h3
  refine⟨by simp[SV.dn,a1,b1],fun v hv=> ?_⟩
  simp only[List.flatten_cons,List.mem_append]at hv
  exact hv.elim (a2 v) (b2 v)
end
mutual
def bE:SV→Bool
 |.any|.val _|.nat _|.int _|.frac _|.atom _=>true
 |.ptr .. |.aN .. |.yld .. =>false
 |.agg cs=>bn cs
 |.ct vs=>bn vs
 |.clo _ a b=>bn a&&bn b
def bn:List SV→Bool
 |[]=>true
 |c::l=>bE c&&bn l
end
mutual
theorem kW {ρ ρ':bY} (h:∀b o,ρ.aY b=some o→ρ'.aY b=some o):∀(c:SV) (x:List Value),bE c=true→aK ρ c x→aK ρ' c x
 |.any,_,_,hc=>by simpa only[aK]using hc
 |.val _,_,_,hc=>by simpa only[aK]using hc
 |.nat _,_,_,hc=>by simpa only[aK]using hc
 |.int _,_,_,hc=>by simpa only[aK]using hc
 |.frac _,_,_,hc=>by simpa only[aK]using hc
 |.atom p,_,_,hc=>by simp only[aK]at hc ⊢;exact p.mono _ _ _ h hc
 |.ptr ..,_,hk,_=>by simp[bE]at hk
 |.aN ..,_,hk,_=>by simp[bE]at hk
 |.yld ..,_,hk,_=>by simp[bE]at hk
 |.agg cs,_,hk,hc=>by
  simp only[aK]at hc ⊢
  obtain⟨z,h1,h2⟩:=hc
  exact⟨z,ck h cs z (by simpa [bE]using hk) h1,h2⟩
 |.ct _,_,_,hc=>by simp only[aK]at hc
 |.clo f a b,_,hk,hc=>by
  simp only[aK]at hc ⊢
  simp only[bE,Bool.and_eq_true]at hk
  obtain⟨fz,cz,h1,h2,h3⟩:=hc
  exact⟨fz,cz,ck h a fz hk.1 h1,ck h b cz hk.2 h2,h3⟩
theorem ck {ρ ρ':bY} (h:∀b o,ρ.aY b=some o→ρ'.aY b=some o):∀(l:List SV) (z:List (List Value)),bn l=true→au ρ l z→au ρ' l z
 |[],_,_,hz=>by simpa only[au]using hz
 |c::l,_,hk,hz=>by
  simp only[au]at hz ⊢
  simp only[bn,Bool.and_eq_true]at hk
  obtain⟨x,r,h1,h2,h3⟩:=hz
  exact⟨x,r,h1,kW h c x hk.1 h2,ck h l r hk.2 h3⟩
end
theorem mr {ρ ρ':bY} (h:∀b o,ρ.aY b=some o→ρ'.aY b=some o) (c:SV) (v:Value) (hk:bE c=true) (hc:Has ρ c v):Has ρ' c v:=by
 cases c<;>simp only[Has]at hc ⊢
 case ct l=>obtain⟨z,h1,h2⟩:=hc;exact⟨z,ck h l z (by simpa [bE]using hk) h1,h2⟩
 all_goals (obtain⟨x,h1,h2⟩:=hc;exact⟨x,kW h _ _ hk h1,h2⟩)
theorem iw.mono {i i':Nat→Option Obj} (h:∀b o,i b=some o→i' b=some o) (g:iw i):iw i':=fun n kd l hm=>by
 obtain⟨o,h1,h2⟩:=g n kd l hm
 exact⟨o,h _ _ h1,h2⟩
def cN (aY:Nat→Option Obj) (h:iw aY):bY:=⟨fun _=>none,aY,h⟩
theorem qj {i i':Nat→Option Obj} (h:∀b o,i b=some o→i' b=some o) (g:iw i) (g':iw i'):(cN i g).Le (cN i' g'):=⟨(fun k x hx=>by cases hx),h⟩
theorem nD (ρ:bY) (g:iw ρ.aY):(cN ρ.aY g).Le ρ:=⟨(fun k x hx=>by cases hx),fun _ _ h=>h⟩
inductive Data where
 |one (cs:List SV)
 |ints (kd:IntKind) (xs:List Int)
 |cm (xs:List Rat)
 |seq (w:Nat) (xs:List SV)
 |dead
  |loop (rc:Loop)
def c9 (ρ:bY):Data→List Value→Prop
 |.one cs,vs=>∃z,au ρ cs z∧vs=z.flatten
 |.ints kd xs,vs=>vs=xs.map (.int kd)
 |.cm xs,vs=>vs=xs.flatMap bD
 |.seq w xs,vs=>∃z,au (cN ρ.aY ρ.cq) xs z∧vs=z.flatten∧∀x∈xs,x.width=w
 |.dead,_=>False
 |.loop _,vs=>vs=[]
def Data.empty:Data→Prop
 |.ints _ xs=>xs=[]
 |.cm xs=>xs=[]
 |.seq _ xs=>xs=[]
 |.one _=>False
 |.dead=>False
 |.loop _=>False
def Data.live:Data→Bool
 |.dead=>false
 |_=>true
theorem c9.mono {ρ ρ':bY} (h:ρ.Le ρ') {d:Data} {vs:List Value} (hd:c9 ρ d vs):c9 ρ' d vs:=by
 cases d<;>simp only[c9]at hd ⊢
 case one cs=>obtain⟨z,h1,h2⟩:=hd;exact⟨z,au.mono h _ _ h1,h2⟩
 case seq w xs=>obtain⟨z,h1,h2⟩:=hd;exact⟨z,au.mono (qj h.aY _ _) _ _ h1,h2⟩
 all_goals exact hd
theorem c9.vl {ρ:bY} {d:Data} {vs:List Value} (hd:c9 ρ d vs):∀v∈vs,v.oneCell'=true:=by
 cases d<;>simp only[c9]at hd
 case one cs=>obtain⟨z,h1,rfl⟩:=hd;exact(au.len _ _ h1).2
 case seq w xs=>obtain⟨z,h1,rfl,_⟩:=hd;exact(au.len _ _ h1).2
 case ints kd xs=>subst hd;intro v hv;obtain⟨x,_,rfl⟩:=List.mem_map.1 hv;rfl
 case cm xs=>subst hd;intro v hv;obtain⟨x,_,hx⟩:=List.mem_flatMap.1 hv;exact(dj x).2 v hx
 case loop rc=>subst hd;intro v hv;cases hv
structure aC where
 ty:TypeId
 wr:Bool
 data:Data
def Data.obj (d:Data) (l:List Value) (ty:TypeId):Obj:=match d with
 |.loop rc=>.loop rc
 |_=>.cells l.toArray ty (0,0)
def Data.nE:Data→Bool
 |.loop _=>true
 |_=>false
theorem Data.cy {d:Data} (h:d.nE=false) (l:List Value) (ty:TypeId):d.obj l ty= .cells l.toArray ty (0,0):=by
 cases d<;>first|rfl|(simp[Data.nE]at h)
theorem Data.jz {d:Data} {l:List Value} {ty:TypeId} {x:Option (List Deferred)}:d.obj l ty≠ .deferred x:=by
 cases d<;>simp[Data.obj]
def gP (ρ:bY) (w:World) (k:Nat) (blk:aC):Prop:=
 blk.data.live=false∨(∃b t vs ex,ρ.key k=some (b,t)∧w.heap[b]? =some (blk.data.obj (vs++ex) blk.ty)∧c9 ρ blk.data vs∧(vs++ex).length=t∧∀v∈ex,v.oneCell'=true)∨
 (ρ.key k=none∧blk.data.empty)
structure pg (W:Nat→Prop) (w w':World):Prop where
 os:w'.os=w.os
 tape:w'.tape=w.tape
 output:w'.output=w.output
 size:w.heap.size≤w'.heap.size
 block:∀b,b<w.heap.size→¬W b→w'.heap[b]? =w.heap[b]?
theorem pg.refl (W:Nat→Prop) (w:World):pg W w w:=⟨rfl,rfl,rfl,Nat.le_refl _,fun _ _ _=>rfl⟩
theorem pg.trans {W:Nat→Prop} {a b c:World} (h:pg W a b) (k:pg W b c):pg W a c:=
 ⟨k.os.trans h.os,k.tape.trans h.tape,k.output.trans h.output,Nat.le_trans h.size k.size,fun i hi hw=>(k.block i (Nat.lt_of_lt_of_le hi h.size) hw).trans (h.block i hi hw)⟩
theorem pg.mono {W W':Nat→Prop} {w w':World} (h:pg W w w') (hW:∀b,b<w.heap.size→W b→W' b):pg W' w w':=
 ⟨h.os,h.tape,h.output,h.size,fun b hb hn=>h.block b hb (fun hw=>hn (hW b hb hw))⟩
theorem pg.below {w w':World} (h:pg (fun _=>False) w w'):RowKit.Below w.heap.size w w':=⟨h.os,h.tape,h.output,h.size,fun k hk=>h.block k hk (fun h=>h)⟩
theorem pg.fY {W:Nat→Prop} {w w':World} (h:RowKit.Below w.heap.size w w'):pg W w w':=⟨h.os,h.tape,h.output,h.size,fun k hk _=>h.block k hk⟩
inductive Loc where
 |t (n:Nat)
 |k (n:Nat)
 deriving DecidableEq
inductive LV where
 |t (s:Option SV)
 |k (b:Option aC)
def LV.sv:LV→Option SV
 |.t s=>s
 |.k _=>none
def LV.blk:LV→Option aC
 |.k b=>b
 |.t _=>none
structure HpR (B:Nat) (W0:Nat→Prop) (ρ:bY) (s:Loc→LV) (w:World):Prop where
 blk:∀k b,(s (.k k)).blk=some b→gP ρ w k b
 sep:∀k k' x x' b b',ρ.key k=some x→ρ.key k'=some x'→k≠k'→x.1=x'.1→(s (.k k)).blk=some b→(s (.k k')).blk=some b'→b.data.live=true→b'.data.live=true→b.wr=false
 own:∀k b x,(s (.k k)).blk=some b→b.wr=true→b.data.live=true→ρ.key k=some x→B≤x.1∨W0 x.1
 rL:∀k x,ρ.key k=some x→∃b,(s (.k k)).blk=some b
 aY:∀b o,ρ.aY b=some o→w.heap[b]? =some o
 fb:∀k b x,(s (.k k)).blk=some b→b.wr=true→b.data.live=true→ρ.key k=some x→ρ.aY x.1=none
def mk1 (D:Nat):Deferred:={target:=.collected D,args:= #[]}
def Il (B:Nat) (ρ:bY) (ds:List Deferred) (w:World):Prop:=
 ∃Ds:List Nat,ds=Ds.map mk1∧Ds.Nodup∧∀D∈Ds,B≤D∧w.heap[D]? =some (.deferred (some []))∧ρ.aY D=none
theorem Il.nil {B:Nat} {ρ:bY} {w:World}:Il B ρ [] w:=⟨[],rfl,.nil,fun _ h=>by cases h⟩
structure R (W0:Nat→Prop) (w0:World) (n:Nat) (ρ:bY) (s:Loc→LV) (a:Act) (w:World):Prop where
 defers:Il w0.heap.size ρ a.defers w
 size:a.tmps.size=n
 fr:∀t sv,(s (.t t)).sv=some sv→Has ρ sv (a.tmps.getD t undef)
 bO:pg W0 w0 w
 hp:HpR w0.heap.size W0 ρ s w
structure jA (ρ:bY) (w:World) (val:SV) (new upd:List (Nat×aC)) (v:Value) (ρ':bY) (w':World):Prop where
 le:ρ.Le ρ'
 has:Has ρ' val v
 key:∀k,(∀b,(k,b)∉new)→ρ'.key k=ρ.key k
 bO:pg (fun b=>∃k blk t,(k,blk)∈upd∧ρ.key k=some (b,t)) w w'
 blk:∀k b,(k,b)∈upd∨(k,b)∈new→gP ρ' w' k b
 once:∀k b b',(k,b)∈upd→(k,b')∈upd→b.data.live=false→b'.data.live=true→False
 zt:∀k b x,(k,b)∈new→ρ'.key k=some x→w.heap.size≤x.1∨∃k0 b0 t,(k0,b0)∈upd∧b0.data.live=false∧ρ.key k0=some (x.1,t)
 Rn:∀k b k' b' x x',(k,b)∈new→(k',b')∈new→k≠k'→ρ'.key k=some x→ρ'.key k'=some x'→x.1≠x'.1
 aY:∀b o,ρ'.aY b=some o→ρ.aY b=some o∨(w.heap.size≤b∧w'.heap[b]? =some o∧∀k blk x,(k,blk)∈new→ρ'.key k=some x→x.1≠b)
structure Ro (ft:List (Nat×SV)) (fk:List (Nat×aC)) (new:List (Nat×aC)) (ρ:bY) (a:Act) (w:World):Prop where
 dr:∀t sv,(t,sv)∈ft→Has ρ sv (a.tmps.getD t undef)
 mu:∀k b,(k,b)∈fk→gP ρ w k b
 sep:∀k k' x x' b b',(k,b)∈fk→(k',b')∈fk→ρ.key k=some x→ρ.key k'=some x'→k≠k'→x.1=x'.1→b.data.live=true→b'.data.live=true→b.wr=false
 aY:∀b o,ρ.aY b=some o→w.heap[b]? =some o
 fb:∀k b x,(k,b)∈fk→b.wr=true→b.data.live=true→ρ.key k=some x→ρ.aY x.1=none
 fresh:∀k b,(k,b)∈new→ρ.key k=none
def goes (P:Program) (o:Oper) (a:Act) (w:World) (K:Act→World→Prop):Prop:=
 match (execOp a.eval o).run P w with
 |.ok (.value v) w'=>K (a.put o.dst v) w'
 |.ok .skip w'=>K (a.put o.dst undef) w'
 |.ok (.enter f args) w'=>Calls P f args w' fun e w''=>∃v,e= .returned v∧K (a.put o.dst v) w''
 |.ok (.round l f tmps assign body) w'=>RoundIn Fence.wide 0 P l f tmps assign body w' fun e w''=>∃v,e= .returned v∧K (a.put o.dst v) w''
 |_=>False
theorem ou {P:Program} {o:Oper} {a:Act} {w:World} {K K':Act→World→Prop} (h:∀a w,K a w→K' a w) (hh:goes P o a w K):goes P o a w K':=by
 unfold goes at*
 generalize (execOp a.eval o).run P w=r at*
 cases r with
 |ok n w'=>
  cases n<;>simp only at hh ⊢<;>
   first
    |exact h _ _ hh
    |exact hh.mono (fun e w'' he=>let ⟨v,h1,h2⟩:=he;⟨v,h1,h _ _ h2⟩)
    |exact hh
 |halt x w'=>exact hh
def EY (ro:Option Nat):Fence:={Fence.wide with round:=ro}
theorem rN {ro:Option Nat} {P:Program} {o:Oper} {a:Act} {w:World} {K:Act→World→Prop} {Q:Exit→Act→World→Prop} (h:goes P o a w K):o.wpIn (EY ro) 0 P a w K Q:=by
 have hd:∀c,o.op≠ .defer c:=by
  intro c hc
  unfold goes at h
  simp only[execOp,hc,Sem.run_bind]at h
  cases hr:(resolve a.eval c o.type).run P w with
  |ok d w'=>rw[hr]at h;simp[Result.andThen]at h
  |halt x w'=>rw[hr]at h;simp[Result.andThen]at h
 refine⟨fun _ _=>trivial, ?_⟩
 rw[Oper.semAt_eq _ _ _ hd]
 unfold goes at h
 generalize (execOp a.eval o).run P w=r at*
 cases r with
 |ok n w'=>
  cases n<;>simp only[Oper.uponIn]at h ⊢<;>try exact h
  ·refine⟨(fun hx=>by cases hx), ?_⟩
   have:=callsIn_wide (n:=0).2 h
   refine CallsIn.mono (F:=EY ro) (show CallsIn (EY ro) 0 _ _ _ _ _ from this) ?_
   rintro e w'' ⟨v,rfl,hk⟩
   exact hk
  ·refine⟨(fun hx=>by cases hx), ?_⟩
   refine RoundIn.mono (F:=EY ro) (show RoundIn (EY ro) 0 _ _ _ _ _ _ _ _ from h) ?_
   rintro e w'' ⟨v,rfl,hk⟩
   exact hk
 |halt x w'=>exact h.elim
def bV (P:Program) (o:Oper) (ft:List (Nat×SV)) (fk:List (Nat×aC)) (val:SV) (new upd:List (Nat×aC)):Prop:=
 ∀ρ a w,Ro ft fk new ρ a w→goes P o a w (fun a' w'=>∃v ρ',a'=a.put o.dst v∧jA ρ w val new upd v ρ' w')
def find (l:List (Nat×aC)) (k:Nat):Option aC:=match l with
 |[]=>none
 |(j,b)::r=>match Nat.beq j k with|true=>some b|false=>find r k
theorem iS:∀{l:List (Nat×aC)} {k:Nat} {b:aC},find l k=some b→(k,b)∈l
 |(j,b')::r,k,b,h=>by
  unfold find at h
  split at h
  ·rename_i hj
   obtain rfl:j=k:=Nat.eq_of_beq_eq_true hj
   cases h
   exact List.mem_cons_self ..
  ·exact List.mem_cons_of_mem _ (iS h)
theorem ov:∀{l:List (Nat×aC)} {k:Nat},find l k=none→∀b,(k,b)∉l
 |[],_,_,_,hm=>by cases hm
 |(j,b')::r,k,h,b,hm=>by
  unfold find at h
  split at h
  ·cases h
  ·rename_i hj
   rcases List.mem_cons.1 hm with h1|h1
   ·cases h1
    simp[Nat.beq_refl]at hj
   ·exact ov h b h1
def lay (dst:Option Tmp) (val:SV) (ks:List (Nat×aC)) (s:Loc→LV):Loc→LV
 |.t n=>if dst=some n then .t (some val)else s (.t n)
 |.k n=>match find ks n with
  |some b=>.k (some b)
  |none=>s (.k n)
theorem Im {dst:Option Tmp} {val:SV} {new upd:List (Nat×aC)} {W0:Nat→Prop} {w0:World} {n:Nat} {ρ:bY} {s:Loc→LV} {a:Act} {w:World} (h:R W0 w0 n ρ s a w)
  (fg:∀k b,(k,b)∈new→(s (.k k)).blk=none) (kX:∀k b,(k,b)∈upd→∃b0,(s (.k k)).blk=some b0∧b0.wr=true∧b0.data.live=true∧b.wr=true)
  (hdst:∀d,dst=some d→d<n) {v:Value} {ρ':bY} {w':World} (hp:jA ρ w val new upd v ρ' w'):
  ρ.Le ρ'∧(∀k,(s (.k k)).blk≠none→ρ'.key k=ρ.key k)∧(∀b o,ρ'.aY b=some o→ρ.aY b=some o∨w0.heap.size≤b)∧R W0 w0 n ρ' (lay dst val (upd++new) s) (a.put dst v) w':=by
 have du:∀k b,(k,b)∈new→ρ.key k=none:=by
  intro k b hk
  cases hx:ρ.key k with
  |none=>rfl
  |some x=>
   obtain⟨b',gj⟩:=h.hp.rL k x hx
   rw[fg k b hk]at gj
   cases gj
 have MF:∀k b x,(s (.k k)).blk=some b→b.data.live=true→ρ.key k=some x→x.1<w.heap.size:=by
  intro k b x hb hl hx
  rcases h.hp.blk k b hb with h0|⟨b',t,vs,ex,h1,h2,_⟩|⟨h1,_⟩
  ·rw[hl]at h0;cases h0
  ·rw[hx]at h1;cases h1
   rcases Nat.lt_or_ge b' w.heap.size with h'|h'
   ·exact h'
   ·simp[Array.getElem?_eq_none h']at h2
  ·rw[hx]at h1;cases h1
 have b9:∀k x,ρ'.key k=some x→(∃b,(k,b)∈new)∨((∀b,(k,b)∉new)∧ρ.key k=some x):=by
  intro k x hx
  rcases Classical.em (∃b,(k,b)∈new)with hk|hk
  ·exact .inl hk
  ·have my:∀b,(k,b)∉new:=fun b hb=>hk ⟨b,hb⟩
   rw[hp.key k my]at hx
   exact .inr ⟨my,hx⟩
 have vm:∀k b,find (upd++new) k=some b→(k,b)∈upd∨(k,b)∈new:=fun k b hf=>List.mem_append.1 (iS hf)
 have uI:∀k,find (upd++new) k=none→(∀b,(k,b)∉upd)∧(∀b,(k,b)∉new):=fun k hf=>
  ⟨fun b hb=>ov hf b (List.mem_append.2 (.inl hb)),fun b hb=>ov hf b (List.mem_append.2 (.inr hb))⟩
 have ec:∀k b,(lay dst val (upd++new) s (.k k)).blk=some b→(k,b)∈upd∨(k,b)∈new∨((∀b,(k,b)∉upd)∧(∀b,(k,b)∉new)∧(s (.k k)).blk=some b):=by
  intro k b hb
  simp only[lay]at hb
  cases hf:find (upd++new) k with
  |some b'=>
   rw[hf]at hb
   cases hb
   rcases vm k _ hf with h1|h1
   ·exact .inl h1
   ·exact .inr (.inl h1)
  |none=>
   rw[hf]at hb
   exact .inr (.inr ⟨(uI k hf).1,(uI k hf).2,hb⟩)
 have adb:∀k b,(k,b)∈upd→∀b',(k,b')∉new:=fun k b hu b' hn=>by
  obtain⟨b0,h1,_⟩:=kX k b hu
  rw[fg k b' hn]at h1;cases h1
 have MG:∀k b x,(s (.k k)).blk=some b→b.data.live=true→ρ.key k=some x→(∀b,(k,b)∉upd)→¬∃k' blk t,(k',blk)∈upd∧ρ.key k'=some (x.1,t):=by
  rintro k b x hb hl hx hku ⟨k',blk,t,hu,my⟩
  obtain⟨b0,h1,h2,h3,_⟩:=kX k' blk hu
  have b6:k'≠k:=fun he=>hku blk (he▸hu)
  have:=h.hp.sep k' k (x.1,t) x b0 b my hx b6 rfl h1 hb h3 hl
  rw[h2]at this;cases this
 have x5:∀k b,(k,b)∈upd→∀x,ρ.key k=some x→∀k2 b2 x2,(s (.k k2)).blk=some b2→b2.data.live=true→ρ.key k2=some x2→x2.1=x.1→k2=k:=by
  intro k b hu x hx k2 b2 x2 hb2 iM Mp he
  refine Classical.byContradiction fun b6=> ?_
  obtain⟨b0,h1,h2,h3,_⟩:=kX k b hu
  have:=h.hp.sep k k2 x x2 b0 b2 hx Mp (fun h=>b6 h.symm) he.symm h1 hb2 h3 iM
  rw[h2]at this;cases this
 have Z1:pg W0 w0 w':=by
  refine⟨hp.bO.os.trans h.bO.os,hp.bO.tape.trans h.bO.tape,hp.bO.output.trans h.bO.output,Nat.le_trans h.bO.size hp.bO.size,fun b hb hw=> ?_⟩
  rw[hp.bO.block b (Nat.lt_of_lt_of_le hb h.bO.size) ?_,h.bO.block b hb hw]
  rintro⟨k,blk,t,hu,hk⟩
  obtain⟨b0,h1,h2,h3,_⟩:=kX k blk hu
  rcases h.hp.own k b0 _ h1 h2 h3 hk with h3|h3
  ·simp at h3;omega
  ·exact hw h3
 refine⟨hp.le,fun k hk=>hp.key k (fun b hb=>hk (fg k b hb)),fun b o hb=>(hp.aY b o hb).imp id (fun h1=>Nat.le_trans h.bO.size h1.1), ?_⟩
 refine {defers:= ?_,size:= ?_,fr:= ?_,bO:=Z1,hp:= ?_}
 ·have hpd:(a.put dst v).defers=a.defers:=by cases hd:dst<;>simp[Act.put]
  rw[hpd]
  obtain⟨Ds,d1,d2,d3⟩:=h.defers
  refine⟨Ds,d1,d2,fun D hD=> ?_⟩
  obtain⟨e1,e2,e3⟩:=d3 D hD
  have aA:D<w.heap.size:=(Array.getElem?_eq_some_iff.1 e2).1
  refine⟨e1, ?_, ?_⟩
  ·rw[hp.bO.block D aA ?_,e2]
   rintro⟨k,blk,t,hu,hk⟩
   obtain⟨b0,h1,h2,h3,_⟩:=kX k blk hu
   rcases h.hp.blk k b0 h1 with h4|⟨b',t',vs,ex,h4,h5,_⟩|⟨h4,_⟩
   ·rw[h3]at h4;cases h4
   ·rw[hk]at h4;cases h4;rw[e2]at h5;exact Data.jz (Option.some.inj h5).symm
   ·rw[hk]at h4;cases h4
  ·cases hx:ρ'.aY D with
   |none=>rfl
   |some o=>
    rcases hp.aY D o hx with h4|⟨h4,_⟩
    ·rw[e3]at h4;cases h4
    ·omega
 ·cases hd:dst<;>simp[Act.put,h.size]
 ·intro t sv ht
  simp only[lay]at ht
  by_cases hd:dst=some t
  ·rw[if_pos hd]at ht
   cases ht
   have:(a.put dst v).tmps.getD t undef=v:=by
    have:=hdst t hd
    simp[Act.put,hd,h.size,this]
   rw[this];exact hp.has
  ·rw[if_neg hd]at ht
   have:(a.put dst v).tmps.getD t undef=a.tmps.getD t undef:=by
    cases Io:dst with
    |none=>rfl
    |some d=>
     have b6:d≠t:=fun he=>hd (by rw[Io,he])
     simp[Act.put,Array.getElem?_setIfInBounds_ne b6]
   rw[this];exact Has.mono hp.le _ _ (h.fr t sv ht)
 ·constructor
  ·-- blk
   intro k b hb
   rcases ec k b hb with h1|h1|⟨h1,h2,h3⟩
   ·exact hp.blk k b (.inl h1)
   ·exact hp.blk k b (.inr h1)
   ·rcases h.hp.blk k b h3 with g0|⟨b',t,vs,ex,g1,g2,g3,g4,g5⟩|⟨g1,g2⟩
    ·exact .inl g0
    ·cases hl:b.data.live with
     |false=>exact .inl hl
     |true=>
      refine .inr (.inl ⟨b',t,vs,ex,hp.le.key _ _ g1, ?_,g3.mono hp.le,g4,g5⟩)
      rw[hp.bO.block b' (MF k b (b',t) h3 hl g1) (MG k b (b',t) h3 hl g1 h1)]
      exact g2
    ·exact .inr (.inr ⟨by rw[hp.key k h2];exact g1,g2⟩)
  ·-- sep
   intro k k' x x' b b' hx pG b6 he hb gj hl qh
   have mixed:∀k k' x x' b b',ρ'.key k=some x→ρ.key k'=some x'→x.1=x'.1→(k,b)∈new→(∀b,(k',b)∉new)→(lay dst val (upd++new) s (.k k')).blk=some b'→b'.data.live=true→False:=by
    intro k k' x x' b b' hx pG he hn ZB gj qh
    have hold:∃b2,(s (.k k')).blk=some b2∧b2.data.live=true:=by
     rcases ec k' b' gj with h1|h1|⟨_,_,h3⟩
     ·obtain⟨b0,g1,_,g3,_⟩:=kX k' b' h1
      exact⟨b0,g1,g3⟩
     ·exact absurd h1 (ZB b')
     ·exact⟨b',h3,qh⟩
    obtain⟨b2,e1,e2⟩:=hold
    rcases hp.zt k b x hn hx with h1|⟨k0,b0,t,g1,g2,g3⟩
    ·have:=MF k' b2 x' e1 e2 pG
     omega
    ·have:=x5 k0 b0 g1 _ g3 k' b2 x' e1 e2 pG he.symm
     subst this
     rcases ec k' b' gj with h1|h1|⟨h1,_,_⟩
     ·-- updated twice: the first found wins; it is live, so it is not the dead one alone
      have hf:find (upd++new) k'=some b':=by
       simp only[lay]at gj
       cases hf:find (upd++new) k' with
       |some b3=>rw[hf]at gj;simp only[LV.blk,Option.some.injEq]at gj;rw[gj]
       |none=>exact absurd g1 ((uI k' hf).1 b0)
      exact hp.once k' b0 b' g1 h1 g2 qh
     ·exact absurd h1 (ZB b')
     ·exact absurd g1 (h1 b0)
   rcases b9 k x hx with⟨bk,hk⟩|⟨Dh,hk⟩
   ·rcases b9 k' x' pG with⟨bk',my⟩|⟨hkn',my⟩
    ·exact absurd he (hp.Rn k bk k' bk' x x' hk my b6 hx pG)
    ·exact(mixed k k' x x' bk b' hx my he hk hkn' gj qh).elim
   ·rcases b9 k' x' pG with⟨bk',my⟩|⟨hkn',my⟩
    ·exact(mixed k' k x' x bk' b pG hk he.symm my Dh hb hl).elim
    ·have hold:∀k b,(∀b,(k,b)∉new)→(lay dst val (upd++new) s (.k k)).blk=some b→b.data.live=true→∃b2,(s (.k k)).blk=some b2∧b2.data.live=true∧(b2.wr=b.wr∨b2.wr=true):=by
      intro k b hn hb hl
      rcases ec k b hb with h1|h1|⟨_,_,h3⟩
      ·obtain⟨b0,g1,g2,g3,_⟩:=kX k b h1
       exact⟨b0,g1,g3,.inr g2⟩
      ·exact absurd h1 (hn b)
      ·exact⟨b,h3,hl,.inl rfl⟩
     obtain⟨b2,e1,e2,e3⟩:=hold k b Dh hb hl
     obtain⟨b2',e1',e2',_⟩:=hold k' b' hkn' gj qh
     have:=h.hp.sep k k' x x' b2 b2' hk my b6 he e1 e1' e2 e2'
     rcases e3 with e3|e3
     ·rw[←e3];exact this
     ·rw[this]at e3;cases e3
  ·-- own
   intro k b x hb hw hl hx
   rcases ec k b hb with h1|h1|⟨h1,h2,h3⟩
   ·obtain⟨b0,g1,g2,g3,_⟩:=kX k b h1
    have H3:ρ.key k=some x:=by
     rcases b9 k x hx with⟨bk,hk⟩|⟨_,hk⟩
     ·rw[fg k bk hk]at g1;cases g1
     ·exact hk
    exact h.hp.own k b0 x g1 g2 g3 H3
   ·rcases hp.zt k b x h1 hx with h4|⟨k0,b0,t,g1,g2,g3⟩
    ·exact .inl (Nat.le_trans h.bO.size h4)
    ·obtain⟨b1,e1,e2,e3,_⟩:=kX k0 b0 g1
     exact h.hp.own k0 b1 (x.1,t) e1 e2 e3 g3
   ·rw[hp.key k h2]at hx
    exact h.hp.own k b x h3 hw hl hx
  ·-- dom
   intro k x hx
   simp only[lay]
   cases hf:find (upd++new) k with
   |some b=>exact⟨b,rfl⟩
   |none=>
    rw[hp.key k (uI k hf).2]at hx
    exact h.hp.rL k x hx
  ·-- imm
   intro b ob hb
   rcases hp.aY b ob hb with h1|⟨_,h1,_⟩
   ·have h2:=h.hp.aY b ob h1
    have aA:b<w.heap.size:=by
     rcases Nat.lt_or_ge b w.heap.size with h'|h'
     ·exact h'
     ·simp[Array.getElem?_eq_none h']at h2
    rw[hp.bO.block b aA ?_]
    ·exact h2
    ·rintro⟨k,blk,t,hu,hk⟩
     obtain⟨b0,g1,g2,g3,_⟩:=kX k blk hu
     have:=h.hp.fb k b0 _ g1 g2 g3 hk
     rw[h1]at this;cases this
   ·exact h1
  ·-- immw
   intro k b x hb hw hl hx
   cases hi:ρ'.aY x.1 with
   |none=>rfl
   |some ob=>
    exfalso
    rcases ec k b hb with h1|h1|⟨h1,h2,h3⟩
    ·obtain⟨b0,g1,g2,g3,_⟩:=kX k b h1
     have H3:ρ.key k=some x:=by
      rcases b9 k x hx with⟨bk,hk⟩|⟨_,hk⟩
      ·rw[fg k bk hk]at g1;cases g1
      ·exact hk
     rcases hp.aY _ _ hi with h4|⟨h4,_⟩
     ·have:=h.hp.fb k b0 x g1 g2 g3 H3
      rw[h4]at this;cases this
     ·have:=MF k b0 x g1 g3 H3
      omega
    ·rcases hp.aY _ _ hi with h4|⟨h6,_,h4⟩
     ·have h5:=h.hp.aY _ _ h4
      rcases hp.zt k b x h1 hx with h7|⟨k0,b0,t,g1,g2,g3⟩
      ·simp[Array.getElem?_eq_none h7]at h5
      ·obtain⟨b1,e1,e2,e3,_⟩:=kX k0 b0 g1
       have:=h.hp.fb k0 b1 _ e1 e2 e3 g3
       rw[h4]at this;cases this
     ·exact h4 k b x h1 hx rfl
    ·rw[hp.key k h2]at hx
     rcases hp.aY _ _ hi with h4|⟨h4,_⟩
     ·have:=h.hp.fb k b x h3 hw hl hx
      rw[h4]at this;cases this
     ·have:=MF k b x h3 hl hx
      omega
theorem Ip {P:Program} {o:Oper} {ft:List (Nat×SV)} {fk:List (Nat×aC)} {val:SV} {new upd:List (Nat×aC)}
  (hop:bV P o ft fk val new upd) {W0:Nat→Prop} {w0:World} {n:Nat} {ρ:bY} {s:Loc→LV} {a:Act} {w:World} (h:R W0 w0 n ρ s a w)
  (dr:∀t sv,(t,sv)∈ft→(s (.t t)).sv=some sv) (mu:∀k b,(k,b)∈fk→(s (.k k)).blk=some b)
  (fg:∀k b,(k,b)∈new→(s (.k k)).blk=none) (hupd:∀k b,(k,b)∈upd→∃b0,(k,b0)∈fk∧b0.wr=true∧b0.data.live=true∧b.wr=true)
  (hdst:∀d,o.dst=some d→d<n):
  goes P o a w (fun a' w'=>∃ρ',ρ.Le ρ'∧(∀k,(s (.k k)).blk≠none→ρ'.key k=ρ.key k)∧(∀b o,ρ'.aY b=some o→ρ.aY b=some o∨w0.heap.size≤b)∧R W0 w0 n ρ' (lay o.dst val (upd++new) s) a' w'):=by
 have du:∀k b,(k,b)∈new→ρ.key k=none:=by
  intro k b hk
  cases hx:ρ.key k with
  |none=>rfl
  |some x=>
   obtain⟨b',gj⟩:=h.hp.rL k x hx
   rw[fg k b hk]at gj
   cases gj
 have Bv:Ro ft fk new ρ a w:={
  dr:=fun t sv ht=>h.fr t sv (dr t sv ht)
  mu:=fun k b hk=>h.hp.blk k b (mu k b hk)
  sep:=fun k k' x x' b b' hk my hx pG b6 he=>h.hp.sep k k' x x' b b' hx pG b6 he (mu k b hk) (mu k' b' my)
  aY:=h.hp.aY
  fb:=fun k b x hk hw hl hx=>h.hp.fb k b x (mu k b hk) hw hl hx
  fresh:=du}
 have kX:∀k b,(k,b)∈upd→∃b0,(s (.k k)).blk=some b0∧b0.wr=true∧b0.data.live=true∧b.wr=true:=fun k b hk=>by
  obtain⟨b0,h1,h2,h3,h4⟩:=hupd k b hk
  exact⟨b0,mu k b0 h1,h2,h3,h4⟩
 refine ou ?_ (hop ρ a w Bv)
 rintro a' w' ⟨v,ρ',rfl,hp⟩
 exact⟨ρ',Im h fg kX hdst hp⟩
end Go.Sx
namespace Go.Sx
def expand:SV→Option (List SV)
 |.nat n=>some [.val (.int .u64 (low n)),.val (.string (nu n))]
 |.int z=>some [.nat z.natAbs,.val (.bool (decide (z<0)))]
 |.frac q=>some [.int q.num,.nat (q.den - 1)]
 |.agg cs=>some cs
 |_=>none
theorem cQ {ρ:bY}:∀{l r:List SV} {z y:List (List Value)},au ρ l z→au ρ r y→au ρ (l++r) (z++y)
 |[],r,z,y,h,h'=>by simp only[au]at h;subst h;exact h'
 |c::l,r,z,y,h,h'=>by
  simp only[au]at h
  obtain⟨x,t,rfl,h1,h2⟩:=h
  simp only[List.cons_append,au]
  exact⟨x,t++y,rfl,h1,cQ h2 h'⟩
theorem Dp {ρ:bY} {c:SV} {l:List SV} {x:List Value} (he:expand c=some l) (h:aK ρ c x):∃z,au ρ l z∧x=z.flatten:=by
 cases c<;>simp only[expand,Option.some.injEq,reduceCtorEq]at he
 case nat n=>
  subst he
  simp only[aK]at h
  refine⟨[[.int .u64 (low n)],[.string (nu n)]], ?_, ?_⟩
  ·simp[au,aK,Value.oneCell']
  ·rw[h];rfl
 case int z=>
  subst he
  simp only[aK]at h
  refine⟨[bB z.natAbs,[.bool (decide (z<0))]], ?_, ?_⟩
  ·simp[au,aK,Value.oneCell']
  ·rw[h];rfl
 case frac q=>
  subst he
  simp only[aK]at h
  refine⟨[cC q.num,bB (q.den - 1)], ?_, ?_⟩
  ·simp[au,aK]
  ·rw[h];simp[bD]
 case agg cs=>
  subst he
  simpa only[aK]using h
def sub:Nat→List SV→Nat→Nat→Option (List SV)
 |0,_,_,_=>none
 |f+1,cs,off,w=>
  match w with
  |0=>some []
  |w'+1=>
   match cs with
   |[]=>none
   |c::r=>
    match Nat.ble c.width off with
    |true=>sub f r (off - c.width) (w'+1)
    |false=>
     match off with
     |0=>
      match Nat.ble c.width (w'+1)with
      |true=>
       match sub f r 0 (w'+1 - c.width)with
       |some l=>some (c::l)
       |none=>none
      |false=>
       match expand c with
       |some l=>sub f (l++r) 0 (w'+1)
       |none=>none
     |o'+1=>
      match expand c with
      |some l=>sub f (l++r) (o'+1) (w'+1)
      |none=>none
theorem qk {ρ:bY}:∀(f:Nat) (cs:List SV) (off w:Nat) (l:List SV) (z:List (List Value)),sub f cs off w=some l→au ρ cs z→
  ∃y,au ρ l y∧y.flatten=(z.flatten.drop off).take w∧(w=0∨off+w≤z.flatten.length):=by
 intro f
 induction f with
 |zero=>intro cs off w l z h;simp[sub]at h
 |succ f ih=>
  intro cs off w l z h hz
  unfold sub at h
  cases w with
  |zero=>simp at h;subst h;exact⟨[],by simp[au],by simp,.inl rfl⟩
  |succ w'=>
   simp only at h
   cases cs with
   |nil=>simp at h
   |cons c r=>
    simp only at h
    simp only[au]at hz
    obtain⟨x,t,rfl,hx,ht⟩:=hz
    have hlen:=(aK.len c x hx).1
    cases hb:Nat.ble c.width off with
    |true=>
     rw[hb]at h
     have hle:=Nat.le_of_ble_eq_true hb
     obtain⟨y,h1,h2,h3⟩:=ih r (off - c.width) (w'+1) l t h ht
     refine⟨y,h1, ?_, ?_⟩
     ·rw[h2]
      congr 1
      simp only[List.flatten_cons]
      have MH:x.length≤off:=aa
      rw[List.drop_append,List.drop_eq_nil_of_le MH,hlen]
      simp
     ·simp only[List.flatten_cons,List.length_append]
      omega
    |false=>
     rw[hb]at h
     have Pz:¬c.width≤off:=fun hle=>by rw[Nat.ble_eq_true_of_le hle]at hb;cases hb
     have Z2:∀o',(match expand c with|some l'=>sub f (l'++r) o' (w'+1)|none=>none)=some l→∃y,au ρ l y∧y.flatten=((x::t).flatten.drop o').take (w'+1)∧(w'+1=0∨o'+(w'+1)≤(x::t).flatten.length):=by
      intro o' h
      cases he:expand c with
      |none=>rw[he]at h;simp at h
      |some l'=>
       rw[he]at h
       obtain⟨zc,h1,rfl⟩:=Dp he hx
       obtain⟨y,h2,h3,h4⟩:=ih (l'++r) o' (w'+1) l (zc++t) h (cQ h1 ht)
       exact⟨y,h2,by rw[h3];simp,by simpa using h4⟩
     cases off with
     |succ o'=>exact Z2 (o'+1) h
     |zero=>
      simp only at h
      cases hb2:Nat.ble c.width (w'+1)with
      |false=>rw[hb2]at h;exact Z2 0 h
      |true=>
       rw[hb2]at h
       have hle:=Nat.le_of_ble_eq_true hb2
       cases hs:sub f r 0 (w'+1 - c.width)with
       |none=>rw[hs]at h;simp at h
       |some l'=>
        rw[hs]at h
        simp at h
        subst h
        obtain⟨y,h1,h2,h3⟩:=ih r 0 (w'+1 - c.width) l' t hs ht
        refine⟨x::y,by simp only[au];exact⟨x,y,rfl,hx,h1⟩, ?_, ?_⟩
        ·simp only[List.flatten_cons,List.drop_zero]at h2 ⊢
         have MH:x.length≤w'+1:=aa
         rw[h2,List.take_append,List.take_of_length_le MH,hlen]
        ·simp only[List.flatten_cons,List.length_append]
         omega
def put (f:Nat) (cs:List SV) (off w:Nat) (new:List SV):Option (List SV):=
 match sub f cs 0 off,sub f cs (off+w) (SV.dn cs - (off+w))with
 |some a,some b=>some (a++(new++b))
 |_,_=>none
theorem EZ {ρ:bY} {f:Nat} {cs new l:List SV} {off w:Nat} {z y:List (List Value)} (h:put f cs off w new=some l) (hz:au ρ cs z) (hy:au ρ new y):
  ∃t,au ρ l t∧t.flatten=z.flatten.take off++y.flatten++z.flatten.drop (off+w):=by
 unfold put at h
 cases ha:sub f cs 0 off with
 |none=>rw[ha]at h;simp at h
 |some a=>
  cases hb:sub f cs (off+w) (SV.dn cs - (off+w))with
  |none=>rw[ha,hb]at h;simp at h
  |some b=>
   rw[ha,hb]at h
   simp at h
   subst h
   obtain⟨ya,h1,h2,_⟩:=qk f cs 0 off a z ha hz
   obtain⟨yb,h3,h4,_⟩:=qk f cs (off+w) _ b z hb hz
   refine⟨ya++(y++yb),cQ h1 (cQ hy h3), ?_⟩
   have hl:=(au.len cs z hz).1
   simp only[List.flatten_append,h2,h4,List.drop_zero,List.append_assoc]
   congr 2
   rw[List.take_of_length_le (by rw[List.length_drop,hl];exact Nat.le_refl _)]
inductive TK where
 |bool
 |int (k:IntKind)
 |str
 |agg (fields:List (Nat×TypeId×Nat))
 |arr (n:Nat) (e:TypeId)
 |aN (e:TypeId)
 |ptr (e:TypeId)
 |other
structure TI where
 kind:TK
 size:Nat
 bytes:Nat
 zero:List SV
def TK.isAgg:TK→Bool
 |.agg _|.arr _ _=>true
 |_=>false
def TK.ok (P:Program) (t:TypeId):TK→Prop
 |.bool=>P.underlying t=some .bool
 |.int k=>P.underlying t=some (.int k)
 |.str=>P.underlying t=some .string
 |.agg fs=>P.underlying t=some (.struct (P.fieldsOf t))∧(P.fieldsOf t).toList.map (fun f=>(f.offset,f.type,P.cellsOf f.type))=fs∧(P.fieldsOf t).toList.all (fun f=>(P.info? f.type).isSome)=true
 |.arr n e=>P.underlying t=some (.array n e)
 |.aN e=>P.underlying t=some (.slice e)
 |.ptr e=>P.underlying t=some (.pointer e)
 |.other=>∃d,P.underlying t=some d∧(match d with|.struct _|.array _ _=>true|_=>false)=false
def fh:SV→List Value
 |.val v=>[v]
 |.nat n=>bB n
 |.int z=>cC z
 |.frac q=>bD q
 |_=>[]
def Rp:SV→Bool
 |.val v=>v.oneCell'
 |.nat _|.int _|.frac _=>true
 |_=>false
structure aD (P:Program) (t:TypeId) (ti:TI):Prop where
 kind:ti.kind.ok P t
 info:∃i z,P.info? t=some i∧i.size=ti.size∧i.bytes=ti.bytes∧i.zero=some z∧z.cells.toList=ti.zero.flatMap fh∧ti.zero.all Rp=true∧(z.cells.size=ti.size)∧z=(if ti.kind.isAgg then .agg z.cells else z.cells.getD 0 undef)
def dz (T:List (TypeId×TI)) (t:TypeId):Option TI:=match T with
 |[]=>none
 |(u,ti)::r=>match Nat.beq u t with|true=>some ti|false=>dz r t
def gQ (P:Program):List (TypeId×TI)→Prop
 |[]=>True
 |(t,ti)::r=>aD P t ti∧gQ P r
theorem gQ.get {P:Program}:∀{T:List (TypeId×TI)} {t:TypeId} {ti:TI},gQ P T→dz T t=some ti→aD P t ti
 |(u,ti')::r,t,ti,h,hf=>by
  unfold dz at hf
  split at hf
  ·rename_i hu
   obtain rfl:u=t:=Nat.eq_of_beq_eq_true hu
   cases hf
   exact h.1
  ·exact gQ.get h.2 hf
theorem aD.of {P:Program} {t:TypeId} {ti:TI} {z:Value} (hk:ti.kind.ok P t) (h1:(P.info? t).map (fun i=>(i.size,i.bytes,i.zero))=some (ti.size,ti.bytes,some z))
  (h2:z.cells.toList=ti.zero.flatMap fh) (h3:ti.zero.all Rp=true) (h4:z.cells.size=ti.size) (h5:z=(if ti.kind.isAgg then .agg z.cells else z.cells.getD 0 undef)):aD P t ti:=by
 refine⟨hk, ?_⟩
 cases hi:P.info? t with
 |none=>rw[hi]at h1;simp at h1
 |some i=>
  rw[hi]at h1
  simp only[Option.map_some,Option.some.injEq,Prod.mk.injEq]at h1
  exact⟨i,z,rfl,h1.1,h1.2.1,h1.2.2,h2,h3,h4,h5⟩
theorem x6 {ρ:bY} {c:SV} (h:Rp c=true):aK ρ c (fh c):=by
 cases c<;>simp[Rp]at h<;>simp[aK,fh,h]
theorem dO {ρ:bY}:∀{l:List SV},l.all Rp=true→au ρ l (l.map fh)
 |[],_=>by simp[au]
 |c::l,h=>by
  simp only[List.all_cons,Bool.and_eq_true]at h
  simp only[List.map_cons,au]
  exact⟨_,_,rfl,x6 h.1,dO h.2⟩
theorem aD.isAgg {P:Program} {t:TypeId} {ti:TI} (h:aD P t ti) (w:World):(Go.isAgg t).run P w= .ok ti.kind.isAgg w:=by
 unfold Go.isAgg
 rw[Sem.run_bind]
 have hk:=h.kind
 cases Bm:ti.kind<;>rw[Bm]at hk<;>simp only[TK.ok]at hk
 case other=>obtain⟨d,h1,h2⟩:=hk;rw[run_underlying h1];cases d<;>simp_all [TK.isAgg]
 case agg fs=>rw[run_underlying hk.1];rfl
 all_goals (rw[run_underlying hk];rfl)
theorem aD.sizeOf {P:Program} {t:TypeId} {ti:TI} (h:aD P t ti) (w:World):(Go.sizeOf t).run P w= .ok ti.size w:=by
 obtain⟨i,z,h1,h2,_⟩:=h.info
 simp[Go.sizeOf,typeInfo,h1,h2]
theorem aD.zeroValue {P:Program} {t:TypeId} {ti:TI} (h:aD P t ti):∃z,(∀w,(Go.zeroValue t).run P w= .ok z w)∧z.cells.toList=ti.zero.flatMap fh:=by
 obtain⟨i,z,h1,h2,h3,h4,h5,_⟩:=h.info
 exact⟨z,fun w=>by simp[Go.zeroValue,typeInfo,h1,h4],h5⟩
def nF:SV→Option (List SV)
 |.any=>none
 |.ct _=>none
 |.agg cs=>some cs
 |c=>some [c]
theorem lM {ρ:bY} {c:SV} {l:List SV} {v:Value} (h:nF c=some l) (hv:Has ρ c v):∃z,au ρ l z∧v.cells.toList=z.flatten:=by
 have one:∀c:SV,∀x,aK ρ c x→c.width=1→c.bf=true→(cM c x).cells.toList=x:=by
  intro c x hx hw h1
  obtain⟨h2,h3⟩:=aK.len c x hx
  rw[hw]at h2
  match x,h2 with
  |[v],_=>
   have:=h3 v (by simp)
   simp only[cM,h1,if_true,List.headD_cons]
   cases v<;>simp_all [Value.cells,Value.oneCell']
 have many:∀c:SV,∀x:List Value,c.bf=false→(cM c x).cells.toList=x:=by
  intro c x h1
  simp[cM,h1,Value.cells]
 have Z3:∀c:SV,∀x,aK ρ c x→au ρ [c] [x]:=fun c x hx=>by simp only[au];exact⟨x,[],rfl,hx,rfl⟩
 cases c<;>simp only[nF,Option.some.injEq,reduceCtorEq]at h<;>subst h<;>simp only[Has]at hv
 case agg cs=>
  obtain⟨x,h1,rfl⟩:=hv
  simp only[aK]at h1
  obtain⟨z,h2,rfl⟩:=h1
  exact⟨z,h2,by simp[cM,SV.bf,Value.cells]⟩
 case atom p=>
  obtain⟨x,h1,rfl⟩:=hv
  refine⟨[x],Z3 _ _ h1, ?_⟩
  simp only[List.flatten_cons,List.flatten_nil,List.append_nil]
  cases hb:p.bare with
  |true=>exact one (.atom p) x h1 (by simp[SV.width,p.qi hb]) (by simp[SV.bf,hb])
  |false=>exact many (.atom p) x (by simp[SV.bf,hb])
 all_goals
  obtain⟨x,h1,rfl⟩:=hv
  refine⟨[x],Z3 _ _ h1, ?_⟩
  simp only[List.flatten_cons,List.flatten_nil,List.append_nil]
  first
   |exact one _ x h1 rfl rfl
   |exact many _ x rfl
def eU (ti:TI) (l:List SV):Option SV:=
 match ti.kind.isAgg with
 |true=>match l with
  |[c]=>match c.bf with
   |false=>some c
   |true=>some (.agg [c])
  |l=>some (.agg l)
 |false=>match l with
  |[c]=>match c.bf with
   |true=>some c
   |false=>none
  |_=>none
theorem kY {ρ:bY} {ti:TI} {l:List SV} {c:SV} {z:List (List Value)} {v:Value} (h:eU ti l=some c) (hz:au ρ l z)
  (hv:v=if ti.kind.isAgg then .agg z.flatten.toArray else z.flatten.headD undef):Has ρ c v:=by
 have Rq:∀l z,au ρ l z→Has ρ (.agg l) (.agg z.flatten.toArray):=fun l z hz=>by
  simp only[Has,aK,cM,SV.bf]
  exact⟨_,⟨z,hz,rfl⟩,rfl⟩
 have Rr:∀(c:SV) x,aK ρ c x→c.bf=false→Has ρ c (.agg x.toArray):=by
  intro c x hx h1
  cases c<;>simp only[SV.bf,Bool.true_eq_false]at h1<;>simp only[Has]
  case ct=>simp only[aK]at hx
  all_goals exact⟨x,hx,by simp[cM,SV.bf,h1]⟩
 have bf:∀(c:SV) x,aK ρ c x→c.bf=true→Has ρ c (x.headD undef):=by
  intro c x hx h1
  cases c<;>simp only[SV.bf,Bool.false_eq_true]at h1<;>simp only[Has]
  all_goals exact⟨x,hx,by simp[cM,SV.bf,h1]⟩
 unfold eU at h
 cases ha:ti.kind.isAgg with
 |true=>
  rw[ha]at h hv
  simp only[if_true]at hv h
  subst hv
  match l,hz with
  |[],hz=>simp at h;subst h;exact Rq [] z hz
  |[d],hz=>
   simp only[au]at hz
   obtain⟨x,r,rfl,h1,rfl⟩:=hz
   simp only at h
   cases hd:d.bf with
   |false=>rw[hd]at h;simp at h;subst h;simpa using Rr d x h1 hd
   |true=>rw[hd]at h;simp at h;subst h;exact Rq [d] [x] (by simp only[au];exact⟨x,[],rfl,h1,rfl⟩)
  |d::e::r,hz=>simp at h;subst h;exact Rq _ z hz
 |false=>
  rw[ha]at h hv
  simp only[Bool.false_eq_true,if_false]at hv h
  subst hv
  match l,hz with
  |[],_=>simp at h
  |[d],hz=>
   simp only[au]at hz
   obtain⟨x,r,rfl,h1,rfl⟩:=hz
   simp only at h
   cases hd:d.bf with
   |false=>rw[hd]at h;simp at h
   |true=>rw[hd]at h;simp at h;subst h;simpa using bf d x h1 hd
  |d::e::r,_=>simp at h
end Go.Sx
namespace Go.Sx
def bp (ft:List (Nat×SV)) (x:Operand) (c:SV):Prop:=∀ρ a,(∀t s,(t,s)∈ft→Has ρ s (a.tmps.getD t undef))→Has ρ c (Act.eval a x)
def lk (l:List (Nat×SV)) (t:Nat):Option SV:=match l with
 |[]=>none
 |(u,s)::r=>match Nat.beq u t with|true=>some s|false=>lk r t
theorem Iq:∀{l:List (Nat×SV)} {t:Nat} {s:SV},lk l t=some s→(t,s)∈l
 |(u,s')::r,t,s,h=>by
  unfold lk at h
  split at h
  ·rename_i hu
   obtain rfl:u=t:=Nat.eq_of_beq_eq_true hu
   cases h
   exact List.mem_cons_self ..
  ·exact List.mem_cons_of_mem _ (Iq h)
def ev (fr:List (Nat×SV)):Operand→Option SV
 |.tmp t=>lk fr t
 |.const v=>match v.oneCell' with
  |true=>some (.val v)
  |false=>none
 |.func f=>some (.clo f [] [])
 |.global g=>some (.val (.pointer (some ⟨g,0,none⟩)))
theorem aj {fr:List (Nat×SV)} {x:Operand} {c:SV} (h:ev fr x=some c):bp fr x c:=by
 intro ρ a hf
 cases x with
 |tmp t=>exact hf t c (Iq h)
 |const v=>
  simp only[ev]at h
  cases hv:v.oneCell' with
  |false=>rw[hv]at h;simp at h
  |true=>
   rw[hv]at h
   simp at h
   subst h
   simp only[Has,Act.eval]
   exact⟨[v],by simp[aK,hv],by simp[cM,SV.bf]⟩
 |func f=>
  simp only[ev,Option.some.injEq]at h
  subst h
  simp only[Has,Act.eval]
  exact⟨[.func (.func f) #[] #[]],by simp only[aK];exact⟨[],[],by simp[au],by simp[au],by simp⟩,by simp[cM,SV.bf]⟩
 |global g=>
  simp only[ev,Option.some.injEq]at h
  subst h
  simp only[Has,Act.eval]
  exact⟨[.pointer (some ⟨g,0,none⟩)],by simp[aK,Value.oneCell'],by simp[cM,SV.bf]⟩
structure Res where
 ob:Prop
 val:SV
 fk:List (Nat×aC)
 new:List (Nat×aC)
 upd:List (Nat×aC)
theorem jA.pure {ρ:bY} {w:World} {c:SV} {v:Value} (h:Has ρ c v):jA ρ w c [] [] v ρ w:=
 ⟨.refl ρ,h,fun _ _=>rfl,.refl _ w,(fun k b h=>by rcases h with h|h<;>cases h),(fun _ _ _ h=>by cases h),(fun k b x h=>by cases h),(fun k b k' b' x x' h=>by cases h),fun b o h=>.inl h⟩
section
variable {P:Program} {o:Oper} {ft:List (Nat×SV)} {fk new upd:List (Nat×aC)} {c:SV}
theorem dc (h:∀ρ a w,Ro ft fk new ρ a w→∃v w' ρ',(execOp a.eval o).run P w= .ok (.value v) w'∧jA ρ w c new upd v ρ' w'):bV P o ft fk c new upd:=by
 intro ρ a w hp
 obtain⟨v,w',ρ',h1,h2⟩:=h ρ a w hp
 unfold goes
 rw[h1]
 exact⟨v,ρ',rfl,h2⟩
theorem MI (h:∀ρ a w,Ro ft fk new ρ a w→∃w' ρ',(execOp a.eval o).run P w= .ok .skip w'∧jA ρ w c new upd undef ρ' w'):bV P o ft fk c new upd:=by
 intro ρ a w hp
 obtain⟨w',ρ',h1,h2⟩:=h ρ a w hp
 unfold goes
 rw[h1]
 exact⟨undef,ρ',rfl,h2⟩
theorem br (h:∀ρ a w,Ro ft fk [] ρ a w→∃v,(execOp a.eval o).run P w= .ok (.value v) w∧Has ρ c v):bV P o ft fk c [] []:=
 dc fun ρ a w hp=>by
  obtain⟨v,h1,h2⟩:=h ρ a w hp
  exact⟨v,w,ρ,h1,.pure h2⟩
theorem E0 {x:Operand} (ho:o.op= .move x∨o.op= .assign x) (hx:bp ft x c):bV P o ft fk c [] []:=
 br fun ρ a w hp=>⟨a.eval x,by rcases ho with ho|ho<;>simp[execOp,ho],hx ρ a hp.dr⟩
theorem Bw {ρ:bY} {w:World} {k:Nat} {ty:TypeId} {wr:Bool} {d:Data} {vs:List Value} (hk:ρ.key k=none) (hd:c9 ρ d vs) (hL:d.nE=false:=by rfl):
  jA ρ w (.ptr k 0 0 0) [(k,⟨ty,wr,d⟩)] [] (.pointer (some ⟨w.heap.size,0,none⟩)) ⟨fun j=>if j=k then some (w.heap.size,vs.length)else ρ.key j,ρ.aY,ρ.cq⟩ (w.alloc (.cells vs.toArray ty (0,0))):=by
 have hle:ρ.Le ⟨fun j=>if j=k then some (w.heap.size,vs.length)else ρ.key j,ρ.aY,ρ.cq⟩:=⟨fun j x hx=>by
  show(if j=k then _ else _)=_
  by_cases hj:j=k
  ·subst hj;rw[hk]at hx;cases hx
  ·rw[if_neg hj];exact hx,fun b ob hb=>hb⟩
 refine⟨hle, ?_, ?_, ?_, ?_,(fun _ _ _ h=>by cases h), ?_, ?_,fun b ob hb=>.inl hb⟩
 ·simp only[Has,aK]
  exact⟨_,⟨w.heap.size,vs.length,by simp,rfl⟩,by simp[cM,SV.bf]⟩
 ·intro j hj
  show(if j=k then _ else _)=_
  rw[if_neg]
  rintro rfl
  exact hj _ (List.mem_cons_self ..)
 ·exact .fY ((RowKit.Below.refl _ _).alloc (Nat.le_refl _) _)
 ·intro j b hj
  rcases hj with hj|hj
  ·cases hj
  ·simp only[List.mem_singleton,Prod.mk.injEq]at hj
   obtain⟨rfl,rfl⟩:=hj
   refine .inr (.inl ⟨w.heap.size,vs.length,vs,[],by simp, ?_,hd.mono hle,by simp,by simp⟩)
   rw[List.append_nil,Data.cy hL]
   exact heap_alloc_new _ _
 ·intro j b x hj hx
  simp only[List.mem_singleton,Prod.mk.injEq]at hj
  obtain⟨rfl,rfl⟩:=hj
  simp at hx
  rw[←hx]
  exact .inl (Nat.le_refl _)
 ·intro j b j' b' x x' hj nG b6
  simp only[List.mem_singleton,Prod.mk.injEq]at hj nG
  exact absurd (hj.1.trans nG.1.symm) b6
theorem Rs {x:Operand} {elem:TypeId} {k:Nat} {sv:SV} {cs:List SV} (ho:o.op= .box elem x) (hx:bp ft x sv) (hc:nF sv=some cs):
  bV P o ft fk (.ptr k 0 0 0) [(k,⟨elem,true,.one cs⟩)] []:=
 dc fun ρ a w hp=>by
  obtain⟨z,h1,h2⟩:=lM hc (hx ρ a hp.dr)
  refine⟨_,_,_, ?_,Bw (ty:=elem) (wr:=true) (d:=.one cs) (vs:=z.flatten) (hp.fresh k _ (List.mem_cons_self ..)) ⟨z,h1,rfl⟩⟩
  have:(a.eval x).cells=z.flatten.toArray:=by rw[←h2]
  simp[execOp,ho,Instr.box,newVar,newRow,this]
theorem Ir {elem:TypeId} {k:Nat} {ti:TI} (ho:o.op= .alloc elem) (ht:aD P elem ti):
  bV P o ft fk (.ptr k 0 0 0) [(k,⟨elem,true,.one ti.zero⟩)] []:=
 dc fun ρ a w hp=>by
  obtain⟨z,h1,h2⟩:=ht.zeroValue
  obtain⟨_,_,_,_,_,_,_,hz,_⟩:=ht.info
  refine⟨_,_,_, ?_,Bw (ty:=elem) (wr:=true) (d:=.one ti.zero) (vs:=ti.zero.flatMap fh) (hp.fresh k _ (List.mem_cons_self ..)) ⟨_,dO hz,by simp[List.flatMap]⟩⟩
  have:z.cells=(ti.zero.flatMap fh).toArray:=by rw[←h2]
  simp[execOp,ho,Instr.alloc,newVar,newRow,this,h1]
def Bn:Option Prop→Prop
 |none=>True
 |some p=>p
def Rt (ob:Option Prop) (k:Prop):Prop:=match ob with
 |none=>k
 |some p=>p∧k
theorem cl {ob:Option Prop} {k:Prop} (h:Rt ob k):Bn ob∧k:=by
 cases ob with
 |none=>exact⟨trivial,h⟩
 |some p=>exact h
def elem (d:Data) (s i:Nat):Option (Option Prop×List SV):=
 match d with
 |.one cs=>match i with
  |0=>some (none,cs)
  |_+1=>none
 |.ints kd xs=>match Nat.beq s 1 with
  |true=>some (some (i<xs.length),[.val (.int kd (xs.getD i 0))])
  |false=>none
 |.cm xs=>match Nat.beq s 5 with
  |true=>some (some (i<xs.length),[.frac (xs.getD i 0)])
  |false=>none
 |.seq w xs=>match Nat.beq s w with
  |true=>some (some (i<xs.length),[xs.getD i .any])
  |false=>none
 |.dead=>none
 |.loop _=>none
theorem vn {d:Data} {s i:Nat} {r:Option Prop×List SV} (h:elem d s i=some r):d.nE=false:=by
 cases d<;>first|rfl|(simp[elem]at h)
theorem kZ {α:Type} (f:α→List Value) (n:Nat) (d:α):∀(xs:List α),(∀x∈xs,(f x).length=n)→∀i,i<xs.length→((xs.flatMap f).drop (i*n)).take n=f (xs.getD i d)
 |x::xs,h,0,_=>by
  have hx:=h x (List.mem_cons_self ..)
  simp only[List.flatMap_cons,Nat.zero_mul,List.drop_zero,List.getD_cons_zero]
  rw[←hx,List.take_left]
 |x::xs,h,i+1,hi=>by
  have hx:=h x (List.mem_cons_self ..)
  have ih:=kZ f n d xs (fun y hy=>h y (List.mem_cons_of_mem _ hy)) i (by simpa using hi)
  simp only[List.flatMap_cons,List.getD_cons_succ]
  have e:(i+1)*n=(f x).length+i*n:=by rw[hx,Nat.succ_mul];omega
  rw[e,List.drop_length_add_append]
  exact ih
theorem nH {α:Type} (f:α→List Value) (n:Nat):∀(xs:List α),(∀x∈xs,(f x).length=n)→(xs.flatMap f).length=xs.length*n
 |[],_=>by simp
 |x::xs,h=>by
  have hx:=h x (List.mem_cons_self ..)
  have ih:=nH f n xs (fun y hy=>h y (List.mem_cons_of_mem _ hy))
  simp only[List.flatMap_cons,List.length_append,List.length_cons,hx,ih,Nat.succ_mul]
  omega
theorem nI {ρ:bY}:∀{xs:List SV} {z:List (List Value)},au ρ xs z→∀i,i<xs.length→aK ρ (xs.getD i .any) (z.getD i [])∧z.length=xs.length
 |c::xs,z,h,0,_=>by
  simp only[au]at h
  obtain⟨x,r,rfl,h1,h2⟩:=h
  refine⟨by simpa using h1, ?_⟩
  cases xs with
  |nil=>simp only[au]at h2;subst h2;rfl
  |cons c' xs=>have:=(nI h2 0 (by simp)).2;simp[this]
 |c::xs,z,h,i+1,hi=>by
  simp only[au]at h
  obtain⟨x,r,rfl,h1,h2⟩:=h
  obtain⟨h3,h4⟩:=nI h2 i (by simpa using hi)
  exact⟨by simpa using h3,by simp[h4]⟩
theorem vo {i n s:Nat} (h:i<n):i*s+s≤n*s:=by
 have:=Nat.mul_le_mul_right s (Nat.succ_le_of_lt h)
 rw[Nat.succ_mul]at this
 exact this
theorem Bx {ρ:bY} {d:Data} {s i:Nat} {ob:Option Prop} {cs:List SV} {vs:List Value} (h:elem d s i=some (ob,cs)) (jr:Bn ob) (hd:c9 ρ d vs):
  ∃z,au ρ cs z∧z.flatten=(vs.drop (i*s)).take z.flatten.length∧i*s+z.flatten.length≤vs.length:=by
 cases d with
 |dead=>simp[elem]at h
 |loop rc=>simp[elem]at h
 |one cs'=>
  simp only[elem]at h
  cases i with
  |succ i=>simp at h
  |zero=>
   simp at h
   obtain⟨_,rfl⟩:=h
   simp only[c9]at hd
   obtain⟨z,h1,rfl⟩:=hd
   exact⟨z,h1,by rw[List.take_of_length_le]<;>simp,by simp⟩
 |ints kd xs=>
  simp only[elem]at h
  cases hs:Nat.beq s 1 with
  |false=>rw[hs]at h;simp at h
  |true=>
   rw[hs]at h
   obtain rfl:s=1:=Nat.eq_of_beq_eq_true hs
   simp only[Option.some.injEq,Prod.mk.injEq]at h
   obtain⟨rfl,rfl⟩:=h
   have jr:i<xs.length:=jr
   simp only[c9]at hd
   subst hd
   refine⟨[[.int kd (xs.getD i 0)]],by simp[au,aK,Value.oneCell'], ?_,by simp;omega⟩
   have:=kZ (fun x:Int=>[Value.int kd x]) 1 0 xs (fun _ _=>rfl) i jr
   rw[show xs.map (Value.int kd)=xs.flatMap (fun x=>[Value.int kd x])from by rw[List.map_eq_flatMap]]
   exact this.symm
 |cm xs=>
  simp only[elem]at h
  cases hs:Nat.beq s 5 with
  |false=>rw[hs]at h;simp at h
  |true=>
   rw[hs]at h
   obtain rfl:s=5:=Nat.eq_of_beq_eq_true hs
   simp only[Option.some.injEq,Prod.mk.injEq]at h
   obtain⟨rfl,rfl⟩:=h
   have jr:i<xs.length:=jr
   simp only[c9]at hd
   subst hd
   refine⟨[bD (xs.getD i 0)],by simp[au,aK], ?_, ?_⟩
   ·have:=kZ bD 5 0 xs (fun x _=>(dj x).1) i jr
    simp only[List.flatten_cons,List.flatten_nil,List.append_nil]
    rw[(dj _).1]
    exact this.symm
   ·simp only[List.flatten_cons,List.flatten_nil,List.append_nil]
    rw[(dj _).1,nH bD 5 xs (fun x _=>(dj x).1)]
    exact vo jr
 |seq w xs=>
  simp only[elem]at h
  cases hs:Nat.beq s w with
  |false=>rw[hs]at h;simp at h
  |true=>
   rw[hs]at h
   obtain rfl:s=w:=Nat.eq_of_beq_eq_true hs
   simp only[Option.some.injEq,Prod.mk.injEq]at h
   obtain⟨rfl,rfl⟩:=h
   have jr:i<xs.length:=jr
   simp only[c9]at hd
   obtain⟨z,h1,rfl,h2⟩:=hd
   have h1:=au.mono (nD ρ ρ.cq) _ _ h1
   obtain⟨h3,h4⟩:=nI h1 i jr
   have hw:∀(l:List SV) (y:List (List Value)),au ρ l y→(∀x∈l,x.width=s)→∀u∈y,(id u).length=s:=by
    intro l
    induction l with
    |nil=>intro y hy _ u hu;simp only[au]at hy;subst hy;cases hu
    |cons c l ih=>
     intro y hy hc u hu
     simp only[au]at hy
     obtain⟨x,r,rfl,g1,g2⟩:=hy
     rcases List.mem_cons.1 hu with rfl|hu
     ·rw[id,(aK.len c _ g1).1];exact hc c (List.mem_cons_self ..)
     ·exact ih r g2 (fun x hx=>hc x (List.mem_cons_of_mem _ hx)) u hu
   have mo:=hw xs z h1 h2
   have hi:i<z.length:=aa
   have hlen:(z.getD i []).length=s:=by
    have:=mo (z.getD i []) (by simp[hi])
    simpa using this
   refine⟨[z.getD i []],by simp only[au];exact⟨_,[],rfl,h3,rfl⟩, ?_, ?_⟩
   ·have:=kZ id s [] z mo i hi
    simp only[List.flatten_cons,List.flatten_nil,List.append_nil,hlen]
    rw[List.flatMap_id]at this
    exact this.symm
   ·simp only[List.flatten_cons,List.flatten_nil,List.append_nil,hlen]
    have:=nH id s z mo
    rw[List.flatMap_id]at this
    rw[this,h4]
    exact vo jr
theorem ld {L y:List Value} {off n:Nat} (h:y=(L.drop off).take n):∀j v,y[j]? =some v→L[off+j]? =some v:=by
 intro j v hj
 subst h
 rw[List.getElem?_take]at hj
 split at hj
 ·rw[List.getElem?_drop]at hj;exact hj
 ·cases hj
theorem sU {t:TypeId} {ti:TI} (ht:aD P t ti) {w:World} {b off:Nat} {L:List Value} {ty:TypeId} {fz:Nat×Nat} {y:List Value} (hh:w.heap[b]? =some (.cells L.toArray ty fz))
  (hy:y=(L.drop off).take ti.size) (hle:off+ti.size≤L.length) (h1:ti.kind.isAgg=true∨ti.size=1):
  (loadVar t ⟨b,off,none⟩).run P w= .ok (if ti.kind.isAgg then .agg y.toArray else y.headD undef) w:=by
 have hlen:y.length=ti.size:=by rw[hy,List.length_take,List.length_drop];omega
 have vp:∀j v,y[j]? =some v→w.cell? ((⟨b,off,none⟩:Addr).add j)=some v:=by
  intro j v hj
  have h2:=ld hy j v hj
  have fT:(⟨b,off,none⟩:Addr).add j=⟨b,off+j,none⟩:=by unfold Addr.add;split<;>simp_all
  rw[fT,cell_of_row w b (off+j) _ ty fz hh]
  simpa using h2
 unfold loadVar
 rw[Sem.run_bind,ht.isAgg]
 cases ha:ti.kind.isAgg with
 |true=>
  have hl:=run_loadCells_list (P:=P) w ⟨b,off,none⟩ y vp
  rw[hlen]at hl
  simp[ht.sizeOf,hl]
 |false=>
  rcases h1 with h1|h1
  ·rw[ha]at h1;cases h1
  ·match y,hlen,vp with
   |[],hlen,_=>simp at hlen;omega
   |v::r,_,vp=>
    have:=vp 0 v rfl
    simp only[Addr.add,if_true]at this
    simp[this]
theorem E1 {ρ:bY} {w:World} {t:TypeId} {ti:TI} {k s i r f b n:Nat} {blk:aC} {ob:Option Prop} {cs l:List SV} (ht:aD P t ti) (b9:ρ.key k=some (b,n)) (hb:gP ρ w k blk)
  (he:elem blk.data s i=some (ob,cs)) (jr:Bn ob) (hs:sub f cs r ti.size=some l) (ir:ti.size≠0) (hsh:eU ti l=some c):∃v,(loadVar t ⟨b,i*s+r,none⟩).run P w= .ok v w∧Has ρ c v:=by
  rcases hb with h0|⟨b',n',vs,ex,h1,h2,h3,h4,h5⟩|⟨h1,h2⟩
  case inl=>cases x7:blk.data<;>rw[x7]at h0 he<;>simp[Data.live,elem]at h0 he
  case inr.inr=>rw[b9]at h1;cases h1
  rw[b9]at h1
  cases h1
  rw[Data.cy (vn he)]at h2
  obtain⟨z,g1,g2,g3⟩:=Bx he jr h3
  obtain⟨y,e1,e2,e3⟩:=qk f cs r ti.size l z hs g1
  have e3:=e3.resolve_left ir
  have hy:y.flatten=((vs++ex).drop (i*s+r)).take ti.size:=by
   rw[e2,g2,List.drop_take,List.drop_drop,List.take_take,Nat.min_eq_left aa,List.drop_append_of_le_length aa,List.take_append_of_le_length (by simp;omega)]
  have vq:ti.kind.isAgg=true∨ti.size=1:=by
   cases ha:ti.kind.isAgg with
   |true=>exact .inl rfl
   |false=>
    right
    unfold eU at hsh
    rw[ha]at hsh
    match l,hsh,e1 with
    |[d],hsh,e1=>
     simp only[au]at e1
     obtain⟨u,_,rfl,d1,rfl⟩:=e1
     have hd:d.bf=true:=by
      cases hd:d.bf with
      |true=>rfl
      |false=>simp only at hsh;rw[hd]at hsh;simp at hsh
     have Ru:d.width=1:=by
      cases d<;>simp only[SV.bf,Bool.false_eq_true]at hd<;>simp only[SV.width]
      exact Pred.qi _ hd
     have:=(aK.len d u d1).1
     simp only[List.flatten_cons,List.flatten_nil,List.append_nil]at e2
     have h7:=congrArg List.length e2
     rw[List.length_take,List.length_drop]at h7
     omega
    |[],hsh,_=>simp at hsh
    |_::_::_,hsh,_=>simp at hsh
  exact⟨_,sU ht (P:=P) h2 hy (by simp;omega) vq,kY hsh e1 rfl⟩
theorem E2 {t:TypeId} {x:Operand} {ti:TI} {k s i r f:Nat} {blk:aC} {ob:Option Prop} {cs l:List SV} (ho:o.op= .load t x) (hx:bp ft x (.ptr k s i r)) (ht:aD P t ti)
  (hk:(k,blk)∈fk) (he:elem blk.data s i=some (ob,cs)) (jr:Bn ob) (hs:sub f cs r ti.size=some l) (ir:ti.size≠0) (hsh:eU ti l=some c):bV P o ft fk c [] []:=
 br fun ρ a w hp=>by
  have hx:=hx ρ a hp.dr
  simp only[Has,aK]at hx
  obtain⟨_,⟨b,n,b9,rfl⟩,hv⟩:=hx
  simp only[cM,SV.bf,if_true,List.headD_cons]at hv
  obtain⟨v,h1,h2⟩:=E1 ht b9 (hp.mu k blk hk) he jr hs ir hsh
  exact⟨v,by simp[execOp,ho,Instr.loadAt,Instr.sureAddr,hv,h1],h2⟩
end
end Go.Sx
namespace Go.Sx
theorem nJ {P:Program} {t:TypeId} (h:(P.info? t).isSome=true) (w:World):(Go.sizeOf t).run P w= .ok (P.cellsOf t) w:=by
 cases hi:P.info? t with
 |none=>rw[hi]at h;cases h
 |some i=>simp[Go.sizeOf,typeInfo,hi,Program.cellsOf]
def jB (d:Data) (i:Nat) (cs:List SV):Option Data:=
 match d with
 |.one _=>match i with
  |0=>some (.one cs)
  |_+1=>none
 |.ints kd xs=>match cs with
  |[.val (.int kd' n)]=>if kd'=kd then some (.ints kd (xs.set i n))else none
  |_=>none
 |.cm xs=>match cs with
  |[.frac q]=>some (.cm (xs.set i q))
  |_=>none
 |.seq w xs=>match cs with
  |[c]=>match Nat.beq c.width w&&bE c with
   |true=>some (.seq w (xs.set i c))
   |false=>none
  |_=>none
 |.dead=>none
 |.loop _=>none
theorem xJ {d d':Data} {i:Nat} {cs:List SV} (h:jB d i cs=some d'):d'.nE=false:=by
 cases d<;>simp only[jB,reduceCtorEq]at h<;>(repeat' split at h)<;>first|(cases h;rfl)|cases h
theorem lf {α:Type} (f:α→List Value) (n:Nat):∀(xs:List α),(∀x∈xs,(f x).length=n)→∀i q,i<xs.length→(xs.set i q).flatMap f=(xs.flatMap f).take (i*n)++f q++(xs.flatMap f).drop (i*n+n)
 |x::xs,h,0,q,_=>by
  have hx:=h x (List.mem_cons_self ..)
  simp only[List.set_cons_zero,List.flatMap_cons,Nat.zero_mul,List.take_zero,List.nil_append,Nat.zero_add]
  rw[←hx,List.drop_left]
 |x::xs,h,i+1,q,hi=>by
  have hx:=h x (List.mem_cons_self ..)
  have ih:=lf f n xs (fun y hy=>h y (List.mem_cons_of_mem _ hy)) i q (by simpa using hi)
  simp only[List.set_cons_succ,List.flatMap_cons,ih]
  have e:(i+1)*n=(f x).length+i*n:=by rw[hx,Nat.succ_mul];omega
  rw[e,List.take_length_add_append,Nat.add_assoc,List.drop_length_add_append]
  simp
theorem By {ρ:bY}:∀{xs:List SV} {z:List (List Value)},au ρ xs z→∀i c x,aK ρ c x→au ρ (xs.set i c) (z.set i x)
 |[],z,h,i,c,x,_=>by simp only[au]at h;subst h;simp[au]
 |d::xs,z,h,0,c,x,hx=>by
  simp only[au]at h
  obtain⟨y,r,rfl,h1,h2⟩:=h
  simp only[List.set_cons_zero,au]
  exact⟨x,r,rfl,hx,h2⟩
 |d::xs,z,h,i+1,c,x,hx=>by
  simp only[au]at h
  obtain⟨y,r,rfl,h1,h2⟩:=h
  simp only[List.set_cons_succ,au]
  exact⟨y,_,rfl,h1,By h2 i c x hx⟩
theorem fi {ρ:bY} {s:Nat}:∀(l:List SV) (y:List (List Value)),au ρ l y→(∀x∈l,x.width=s)→∀u∈y,(id u).length=s
 |[],y,hy,_,u,hu=>by simp only[au]at hy;subst hy;cases hu
 |c::l,y,hy,hc,u,hu=>by
  simp only[au]at hy
  obtain⟨x,r,rfl,g1,g2⟩:=hy
  rcases List.mem_cons.1 hu with rfl|hu
  ·rw[id,(aK.len c _ g1).1];exact hc c (List.mem_cons_self ..)
  ·exact fi l r g2 (fun x hx=>hc x (List.mem_cons_of_mem _ hx)) u hu
theorem Bz {ρ:bY} {d d':Data} {s i:Nat} {ob:Option Prop} {cs cs':List SV} {vs:List Value} {z':List (List Value)} (h:elem d s i=some (ob,cs)) (jr:Bn ob) (hd:c9 ρ d vs)
  (h':jB d i cs'=some d') (hz:au ρ cs' z') (hlen:z'.flatten.length=SV.dn cs):
  c9 ρ d' (vs.take (i*s)++z'.flatten++vs.drop (i*s+SV.dn cs)):=by
 cases d with
 |dead=>simp[elem]at h
 |loop rc=>simp[elem]at h
 |one cs0=>
  simp only[elem]at h
  cases i with
  |succ i=>simp at h
  |zero=>
   simp at h
   obtain⟨_,rfl⟩:=h
   simp only[jB,Option.some.injEq]at h'
   subst h'
   simp only[c9]at hd ⊢
   obtain⟨z,h1,rfl⟩:=hd
   refine⟨z',hz, ?_⟩
   rw[List.drop_eq_nil_of_le (by rw[(au.len _ _ h1).1];omega)]
   simp
 |ints kd xs=>
  simp only[elem]at h
  cases hs:Nat.beq s 1 with
  |false=>rw[hs]at h;simp at h
  |true=>
   rw[hs]at h
   obtain rfl:s=1:=Nat.eq_of_beq_eq_true hs
   simp only[Option.some.injEq,Prod.mk.injEq]at h
   obtain⟨rfl,rfl⟩:=h
   have jr:i<xs.length:=jr
   unfold jB at h'
   simp only at h'
   split at h'
   ·rename_i kd' n
    split at h'
    ·rename_i hk
     subst hk
     simp only[Option.some.injEq]at h'
     subst h'
     simp only[c9]at hd ⊢
     subst hd
     simp only[au,aK]at hz
     obtain⟨x,r,rfl,⟨rfl,_⟩,rfl⟩:=hz
     have:=lf (fun x:Int=>[Value.int kd' x]) 1 xs (fun _ _=>rfl) i n jr
     rw[List.map_eq_flatMap,List.map_eq_flatMap,this]
     simp[SV.dn,SV.width]
    ·simp at h'
   ·simp at h'
 |cm xs=>
  simp only[elem]at h
  cases hs:Nat.beq s 5 with
  |false=>rw[hs]at h;simp at h
  |true=>
   rw[hs]at h
   obtain rfl:s=5:=Nat.eq_of_beq_eq_true hs
   simp only[Option.some.injEq,Prod.mk.injEq]at h
   obtain⟨rfl,rfl⟩:=h
   have jr:i<xs.length:=jr
   unfold jB at h'
   simp only at h'
   split at h'
   ·rename_i q
    simp only[Option.some.injEq]at h'
    subst h'
    simp only[c9]at hd ⊢
    subst hd
    simp only[au,aK]at hz
    obtain⟨x,r,rfl,rfl,rfl⟩:=hz
    have:=lf bD 5 xs (fun x _=>(dj x).1) i q jr
    rw[this]
    simp[SV.dn,SV.width]
   ·simp at h'
 |seq w xs=>
  simp only[elem]at h
  cases hs:Nat.beq s w with
  |false=>rw[hs]at h;simp at h
  |true=>
   rw[hs]at h
   obtain rfl:s=w:=Nat.eq_of_beq_eq_true hs
   simp only[Option.some.injEq,Prod.mk.injEq]at h
   obtain⟨rfl,rfl⟩:=h
   have jr:i<xs.length:=jr
   unfold jB at h'
   simp only at h'
   split at h'
   ·rename_i c
    cases hw:(Nat.beq c.width s&&bE c)with
    |false=>rw[hw]at h';simp at h'
    |true=>
     rw[hw]at h'
     rw[Bool.and_eq_true]at hw
     have hcw:c.width=s:=Nat.eq_of_beq_eq_true hw.1
     simp only[Option.some.injEq]at h'
     subst h'
     simp only[c9]at hd ⊢
     obtain⟨z,h1,rfl,h2⟩:=hd
     simp only[au]at hz
     obtain⟨x,r,rfl,hx,rfl⟩:=hz
     refine⟨z.set i x,By h1 i c x (kW (ρ:=ρ) (ρ':=cN ρ.aY ρ.cq) (fun _ _ h=>h) c x hw.2 hx), ?_, ?_⟩
     ·have hg:=(nI h1 i jr).2
      have:=lf id s z (fi xs z h1 h2) i x aa
      rw[List.flatMap_id,List.flatMap_id]at this
      rw[this]
      have hgw:(xs.getD i SV.any).width=s:=h2 _ (by simp[jr])
      simp only[SV.dn,hgw,id,Nat.add_zero,List.flatten_cons,List.flatten_nil,List.append_nil]
     ·intro y hy
      rcases List.mem_or_eq_of_mem_set hy with h3|h3
      ·exact h2 y h3
      ·rw[h3];exact hcw
   ·simp at h'
theorem de {w:World} {g:Nat} {cs cs':Array Value} {t:TypeId} {fr:Nat×Nat} (hg:w.heap[g]? =some (.cells cs t fr)):(w.setRow g cs').heap[g]? =some (.cells cs' t fr):=by
 simp[World.setRow,Array.getElem?_modify,hg]
theorem cU {w:World} {g k:Nat} {cs':Array Value} (h:k≠g):(w.setRow g cs').heap[k]? =w.heap[k]? :=by
 simp[World.setRow,Array.getElem?_modify,Ne.symm h]
section
variable {P:Program} {o:Oper} {ft:List (Nat×SV)} {fk new upd:List (Nat×aC)} {c:SV}
theorem BA {t:TypeId} {x y:Operand} {ti:TI} {k s i r f:Nat} {ty:TypeId} {d d':Data} {ob:Option Prop} {cs cs' nw:List SV} {sv:SV} (ho:o.op= .store t x y) (hx:bp ft x (.ptr k s i r)) (hy:bp ft y sv)
  (ht:aD P t ti) (hk:(k,⟨ty,true,d⟩)∈fk) (he:elem d s i=some (ob,cs)) (jr:Bn ob) (hc:nF sv=some nw) (hw:SV.dn nw=ti.size) (hle:r+ti.size≤SV.dn cs)
  (hp:put f cs r ti.size nw=some cs') (hd:jB d i cs'=some d'):bV P o ft fk .any [] [(k,⟨ty,true,d'⟩)]:=
 MI fun ρ a w Bv=>by
  have hx:=hx ρ a Bv.dr
  simp only[Has,aK]at hx
  obtain⟨_,⟨b,n,b9,rfl⟩,hv⟩:=hx
  simp only[cM,SV.bf,if_true,List.headD_cons]at hv
  rcases Bv.mu k _ hk with h0|⟨b',n',vs,ex,h1,h2,h3,h4,h5⟩|⟨h1,h2⟩
  case inl=>simp only at h0;cases d<;>simp[Data.live,elem]at h0 he
  case inr.inr=>rw[b9]at h1;cases h1
  rw[b9]at h1
  cases h1
  simp only at h2 h3
  rw[Data.cy (vn he)]at h2
  obtain⟨z,g1,g2,g3⟩:=Bx he jr h3
  obtain⟨yz,y1,y2⟩:=lM hc (hy ρ a Bv.dr)
  have H4:=(au.len nw yz y1).1
  have Z4:=(au.len nw yz y1).2
  have ph:=(au.len cs z g1).1
  obtain⟨z',p1,p2⟩:=EZ hp g1 y1
  have Z5:z'.flatten.length=SV.dn cs:=by
   rw[p2]
   simp only[List.length_append,List.length_take,List.length_drop]
   omega
  have hdc:=Bz he jr h3 hd p1 Z5
  have nK:vs=vs.take (i*s)++(z.flatten++vs.drop (i*s+SV.dn cs)):=by
   rw[g2,ph,←List.drop_drop,List.take_append_drop,List.take_append_drop]
  have hAl:(vs.take (i*s)).length=i*s:=by rw[List.length_take];omega
  generalize hA:vs.take (i*s)=A at nK hAl hdc
  generalize hC:vs.drop (i*s+SV.dn cs)=C at nK hdc
  have ir:(yz.flatten).length=ti.size:=aa
  have hL:(vs++ex).take (i*s+r)++yz.flatten++(vs++ex).drop (i*s+r+yz.flatten.length)=(A++z'.flatten++C)++ex:=by
   rw[nK,p2,ir,←hAl]
   simp only[List.append_assoc]
   rw[List.take_length_add_append,Nat.add_assoc,List.drop_length_add_append,List.take_append_of_le_length aa,List.drop_append_of_le_length aa]
   try simp
  have pH:(storeVar t ⟨b,i*s+r,none⟩ (a.eval y)).run P w= .ok () (w.setRow b ((A++z'.flatten++C)++ex).toArray):=by
   have x8:=run_storeCells_at (P:=P) b (i*s+r) ty yz.flatten 0 (vs++ex).toArray w h2 (by simp only[List.size_toArray,List.length_append];omega) Z4
   simp only[Nat.add_zero,hL]at x8
   have eD:(a.eval y).cells.size=ti.size:=by rw[←Array.length_toList,y2];exact ir
   unfold storeVar
   simp only[Sem.run_bind,ht.sizeOf,Result.andThen_ok,eD,ne_eq,not_true_eq_false,if_false,y2,x8]
  refine⟨w.setRow b ((A++z'.flatten++C)++ex).toArray,ρ, ?_, ?_⟩
  ·simp only[execOp,ho,Instr.storeAt,Instr.sureAddr,hv,Sem.run_bind,Sem.run_pure,Result.andThen_ok,pH]
  ·refine⟨.refl ρ,trivial,fun _ _=>rfl,⟨rfl,rfl,rfl,by simp[World.setRow],fun i hi hn=> ?_⟩,fun j bj hj=> ?_,(fun j c c' h1 h2 h3 h4=> ?_),(fun _ _ _ h=>by cases h),(fun _ _ _ _ _ _ h=>by cases h),fun b o h=>.inl h⟩
   ·refine cU fun PA=>hn ⟨k,_,n,List.mem_cons_self .., ?_⟩
    rw[PA];exact b9
   ·rcases hj with hj|hj
    ·simp only[List.mem_singleton,Prod.mk.injEq]at hj
     obtain⟨rfl,rfl⟩:=hj
     refine .inr (.inl ⟨b,n,_,ex,b9,by rw[Data.cy (xJ hd)];exact de h2,hdc, ?_,h5⟩)
     rw[←h4,nK]
     simp only[List.length_append,Z5,ph]
     omega
    ·cases hj
   ·simp only[List.mem_singleton,Prod.mk.injEq]at h1 h2
    obtain⟨_,rfl⟩:=h1
    obtain⟨_,rfl⟩:=h2
    rw[h3]at h4;cases h4
theorem zu {S:TypeId} {x:Operand} {j off e sz:Nat} {ti:TI} {fs:List (Nat×TypeId×Nat)} {k s i r:Nat} (ho:o.op= .fieldAddr S x j) (hx:bp ft x (.ptr k s i r)) (ht:aD P S ti)
  (Bm:ti.kind= .agg fs) (hj:fs[j]? =some (off,e,sz)) (ir:sz≠0):bV P o ft fk (.ptr k s i (r+off)) [] []:=
 br fun ρ a w hp=>by
  have hx:=hx ρ a hp.dr
  simp only[Has,aK]at hx
  obtain⟨_,⟨b,n,b9,rfl⟩,hv⟩:=hx
  simp only[cM,SV.bf,if_true,List.headD_cons]at hv
  have hk:=ht.kind
  rw[Bm]at hk
  obtain⟨h1,h2,h3⟩:=hk
  have hf:∃fd,(P.fieldsOf S)[j]? =some fd∧fd.offset=off∧P.cellsOf fd.type=sz∧(P.info? fd.type).isSome=true:=by
   rw[←h2,List.getElem?_map]at hj
   cases hq:(P.fieldsOf S).toList[j]? with
   |none=>rw[hq]at hj;simp at hj
   |some fd=>
    rw[hq]at hj
    simp only[Option.map_some,Option.some.injEq,Prod.mk.injEq]at hj
    refine⟨fd,by simpa using hq,hj.1,hj.2.2, ?_⟩
    exact List.all_eq_true.1 h3 fd (List.mem_of_getElem? hq)
  obtain⟨fd,f1,f2,f3,f4⟩:=hf
  refine⟨.pointer (some ⟨b,i*s+(r+off),none⟩), ?_, ?_⟩
  ·have fT:(⟨b,i*s+r,none⟩:Addr).add fd.offset=⟨b,i*s+(r+off),none⟩:=by
    unfold Addr.add
    rw[f2]
    split
    ·rename_i h0;simp[h0]
    ·simp[Nat.add_assoc]
   simp[execOp,ho,Instr.fieldAt,run_underlying h1,f1,Instr.sureAddr,hv,fieldPlace,nJ f4,f3,ir,fT]
  ·simp only[Has,aK]
   exact⟨_,⟨b,n,b9,rfl⟩,by simp[cM,SV.bf]⟩
theorem Dq {x:Operand} {ix:Nat} {l:List SV} (ho:o.op= .extract x ix) (hx:bp ft x (.ct l)) (hl:l[ix]? =some c) (hc:c.bf=true∨(nF c).isSome=true):bV P o ft fk c [] []:=
 br fun ρ a w hp=>by
  have hx:=hx ρ a hp.dr
  simp only[Has]at hx
  obtain⟨z,h1,hv⟩:=hx
  have key:∀(l:List SV) (z:List (List Value)) (ix:Nat),au ρ l z→l[ix]? =some c→∃x,aK ρ c x∧(List.zipWith cM l z)[ix]? =some (cM c x):=by
   intro l
   induction l with
   |nil=>intro z ix _ h;simp at h
   |cons d l ih=>
    intro z ix hz h
    simp only[au]at hz
    obtain⟨x,r,rfl,g1,g2⟩:=hz
    cases ix with
    |zero=>simp at h;subst h;exact⟨x,g1,by simp⟩
    |succ ix=>simpa using ih r ix g2 (by simpa using h)
  obtain⟨x',g1,g2⟩:=key l z ix h1 hl
  refine⟨cM c x', ?_, ?_⟩
  ·simp[execOp,ho,Instr.extract,hv,g2]
  ·cases c<;>simp only[Has]
   case ct=>simp[nF,SV.bf]at hc
   all_goals exact⟨x',g1,rfl⟩
end
end Go.Sx
namespace Go.Sx
def Dr (k:IntKind) (x y:Int):Int:=k.wrap (BitVec.ofInt k.bits x&&& BitVec.ofInt k.bits y).toNat
def Di (k:IntKind) (x y:Int):Int:=k.wrap (BitVec.ofInt k.bits x|||BitVec.ofInt k.bits y).toNat
def xK (k:IntKind) (x y:Int):Int:=k.wrap (BitVec.ofInt k.bits x^^^BitVec.ofInt k.bits y).toNat
def jC (k:IntKind) (x y:Int):Int:=k.wrap (x*2^(min y.toNat k.bits))
def jD (k:IntKind) (x y:Int):Int:=x.fdiv (2^(min y.toNat k.bits))
def MJ (op:BinOp) (k:IntKind) (a b:Int):Option (Option Prop×Value):=
 match op with
 |.add=>some (none,.int k (k.wrap (a+b)))
 |.sub=>some (none,.int k (k.wrap (a - b)))
 |.mul=>some (none,.int k (k.wrap (a*b)))
 |.quo=>some (some (b≠0),.int k (k.wrap (a.tdiv b)))
 |.rem=>some (some (b≠0),.int k (a.tmod b))
 |.and=>some (none,.int k (Dr k a b))
 |.or=>some (none,.int k (Di k a b))
 |.xor=>some (none,.int k (xK k a b))
 |.eql=>some (none,.bool (a==b))
 |.neq=>some (none,.bool (a != b))
 |.lss=>some (none,.bool (decide (a<b)))
 |.leq=>some (none,.bool (decide (a≤b)))
 |.gtr=>some (none,.bool (decide (a>b)))
 |.geq=>some (none,.bool (decide (a≥b)))
 |_=>none
theorem ca {ρ:bY} {v:Value} (h:v.oneCell'=true):Has ρ (.val v) v:=by
 simp only[Has,aK]
 exact⟨[v],⟨rfl,h⟩,by simp[cM,SV.bf]⟩
theorem aI {ρ:bY} {u v:Value} (h:Has ρ (.val u) v):v=u:=by
 simp only[Has,aK]at h
 obtain⟨_,⟨rfl,_⟩,rfl⟩:=h
 rfl
section
variable {P:Program} {o:Oper} {ft:List (Nat×SV)} {fk:List (Nat×aC)}
theorem MK {op:BinOp} {xt yt:TypeId} {x y:Operand} {k:IntKind} {a b:Int} {ob:Option Prop} {v:Value} (ho:o.op= .binOp op xt x y yt) (hx:bp ft x (.val (.int k a))) (hy:bp ft y (.val (.int k b)))
  (h:MJ op k a b=some (ob,v)) (jr:Bn ob):bV P o ft fk (.val v) [] []:=
 br fun ρ ac w hp=>by
  have e1:=aI (hx ρ ac hp.dr)
  have e2:=aI (hy ρ ac hp.dr)
  refine⟨v, ?_, ?_⟩
  ·cases op<;>simp only[MJ,Option.some.injEq,Prod.mk.injEq,reduceCtorEq]at h<;>obtain⟨rfl,rfl⟩:=h<;>
    first
    |(simp[execOp,ho,e1,e2,eqGuard,binOp,Op.intArith];done)
    |(have jr:b≠0:=jr;simp[execOp,ho,e1,e2,eqGuard,binOp,Op.intDiv,jr];done)
    |(simp[execOp,ho,e1,e2,eqGuard,binOp,Op.intBits,Dr,Di,xK];done)
    |(simp[execOp,ho,e1,e2,eqGuard,binOp,Op.intCmp];done)
  ·refine ca ?_
   cases op<;>simp only[MJ,Option.some.injEq,Prod.mk.injEq,reduceCtorEq]at h<;>obtain⟨rfl,rfl⟩:=h<;>rfl
theorem Rv {xt yt:TypeId} {x y:Operand} {k k':IntKind} {a b:Int} (ho:o.op= .binOp .shl xt x y yt) (hx:bp ft x (.val (.int k a))) (hy:bp ft y (.val (.int k' b)))
  (jr:0≤b):bV P o ft fk (.val (.int k (jC k a b))) [] []:=
 br fun ρ ac w hp=>by
  have e1:=aI (hx ρ ac hp.dr)
  have e2:=aI (hy ρ ac hp.dr)
  refine⟨_, ?_,ca rfl⟩
  have:¬b<0:=aa
  simp[execOp,ho,e1,e2,eqGuard,binOp,Op.shift,this,jC]
theorem Rw {xt yt:TypeId} {x y:Operand} {k k':IntKind} {a b:Int} (ho:o.op= .binOp .shr xt x y yt) (hx:bp ft x (.val (.int k a))) (hy:bp ft y (.val (.int k' b)))
  (jr:0≤b):bV P o ft fk (.val (.int k (jD k a b))) [] []:=
 br fun ρ ac w hp=>by
  have e1:=aI (hx ρ ac hp.dr)
  have e2:=aI (hy ρ ac hp.dr)
  refine⟨_, ?_,ca rfl⟩
  have:¬b<0:=aa
  simp[execOp,ho,e1,e2,eqGuard,binOp,Op.shift,this,jD]
theorem Rx {xt yt:TypeId} {x y:Operand} {a b:Bool} {ti:TI} (ho:o.op= .binOp .eql xt x y yt) (hx:bp ft x (.val (.bool a))) (hy:bp ft y (.val (.bool b))) (ht:aD P xt ti) (hk:ti.kind= .bool):
  bV P o ft fk (.val (.bool (a==b))) [] []:=
 br fun ρ ac w hp=>by
  have e1:=aI (hx ρ ac hp.dr)
  have e2:=aI (hy ρ ac hp.dr)
  have h:=ht.kind;rw[hk]at h
  refine⟨_, ?_,ca rfl⟩
  simp[execOp,ho,e1,e2,eqGuard,run_eql_bool w xt a b h]
theorem Ry {xt yt:TypeId} {x y:Operand} {a b:Bool} {ti:TI} (ho:o.op= .binOp .neq xt x y yt) (hx:bp ft x (.val (.bool a))) (hy:bp ft y (.val (.bool b))) (ht:aD P xt ti) (hk:ti.kind= .bool):
  bV P o ft fk (.val (.bool (a != b))) [] []:=
 br fun ρ ac w hp=>by
  have e1:=aI (hx ρ ac hp.dr)
  have e2:=aI (hy ρ ac hp.dr)
  have h:=ht.kind;rw[hk]at h
  refine⟨_, ?_,ca rfl⟩
  simp[execOp,ho,e1,e2,eqGuard,run_neq_bool w xt a b h]
  cases a<;>cases b<;>rfl
def ML (op:BinOp) (a b:ByteArray):Option (Option Prop×Value):=
 match op with
 |.add=>some (some (a.size+b.size≤9223372036854775807),.string (a++b))
 |.eql=>some (none,.bool (a.toList==b.toList))
 |.neq=>some (none,.bool (!(a.toList==b.toList)))
 |_=>none
theorem MN {op:BinOp} {xt yt:TypeId} {x y:Operand} {a b:ByteArray} {ob:Option Prop} {v:Value} (ho:o.op= .binOp op xt x y yt) (hx:bp ft x (.val (.string a))) (hy:bp ft y (.val (.string b)))
  (h:ML op a b=some (ob,v)) (jr:Bn ob):bV P o ft fk (.val v) [] []:=
 br fun ρ ac w hp=>by
  have e1:=aI (hx ρ ac hp.dr)
  have e2:=aI (hy ρ ac hp.dr)
  refine⟨v, ?_, ?_⟩
  ·cases op<;>simp only[ML,Option.some.injEq,Prod.mk.injEq,reduceCtorEq]at h<;>obtain⟨rfl,rfl⟩:=h
   case add=>
    simp[execOp,ho,e1,e2,eqGuard,binOp,run_string_add_sum w a b (show a.size+b.size≤9223372036854775807 from jr)]
   all_goals simp[execOp,ho,e1,e2,eqGuard,binOp,Op.stringOp]
  ·refine ca ?_
   cases op<;>simp only[ML,Option.some.injEq,Prod.mk.injEq,reduceCtorEq]at h<;>obtain⟨rfl,rfl⟩:=h<;>rfl
theorem Rz {xt:TypeId} {x:Operand} {a:Bool} (ho:o.op= .unOp .not xt x) (hx:bp ft x (.val (.bool a))):bV P o ft fk (.val (.bool (!a))) [] []:=
 br fun ρ ac w hp=>by
  have e1:=aI (hx ρ ac hp.dr)
  exact⟨_,by simp[execOp,ho,e1,Op.unary],ca rfl⟩
theorem RA {xt:TypeId} {x:Operand} {k:IntKind} {a:Int} (ho:o.op= .unOp .neg xt x) (hx:bp ft x (.val (.int k a))):bV P o ft fk (.val (.int k (k.wrap (0 - a)))) [] []:=
 br fun ρ ac w hp=>by
  have e1:=aI (hx ρ ac hp.dr)
  exact⟨_,by simp[execOp,ho,e1,Op.unary,Op.intArith],ca rfl⟩
theorem RB {xt:TypeId} {x:Operand} {k:IntKind} {a:Int} (ho:o.op= .unOp .xor xt x) (hx:bp ft x (.val (.int k a))):bV P o ft fk (.val (.int k (xK k (if k.signed=true then -1 else k.max) a))) [] []:=
 br fun ρ ac w hp=>by
  have e1:=aI (hx ρ ac hp.dr)
  exact⟨_,by simp[execOp,ho,e1,Op.unary,Op.intBits,xK],ca rfl⟩
theorem MO {src dst:TypeId} {x:Operand} {k k':IntKind} {a:Int} {ts td:TI} (ho:o.op= .convert src dst x) (hx:bp ft x (.val (.int k' a))) (hs:aD P src ts) (hd:aD P dst td) (hk:td.kind= .int k) (my:ts.kind= .int k'):
  bV P o ft fk (.val (.int k (k.wrap a))) [] []:=
 br fun ρ ac w hp=>by
  have e1:=aI (hx ρ ac hp.dr)
  have h1:=hs.kind;rw[my]at h1
  have h2:=hd.kind;rw[hk]at h2
  exact⟨_,by simp[execOp,ho,e1,convert,run_underlying h1,run_underlying h2,Conv.intToInt],ca rfl⟩
theorem lg {x y z:Operand} {b:Bool} {c c1 c2:SV} (ho:o.op= .pick x y z) (hx:bp ft x (.val (.bool b))) (hy:b=true→bp ft y c1) (hz:b=false→bp ft z c2) (hc:c=if b then c1 else c2):bV P o ft fk c [] []:=
 br fun ρ ac w hp=>by
  have e1:=aI (hx ρ ac hp.dr)
  cases b
  ·refine⟨ac.eval z,by simp[execOp,ho,e1,asBool], ?_⟩
   rw[hc];simpa using hz rfl ρ ac hp.dr
  ·refine⟨ac.eval y,by simp[execOp,ho,e1,asBool], ?_⟩
   rw[hc];simpa using hy rfl ρ ac hp.dr
end
def BB (P:Program) (f:FuncId):Prop:=∃fn,P.funcs[f]? =some fn∧(fn.name== "runtime.NumGoroutine")=false∧fn.body.isNone=false
structure nL (fk new:List (Nat×aC)) (ρ:bY) (w:World):Prop where
 mu:∀k b,(k,b)∈fk→gP ρ w k b
 sep:∀k k' x x' b b',(k,b)∈fk→(k',b')∈fk→ρ.key k=some x→ρ.key k'=some x'→k≠k'→x.1=x'.1→b.data.live=true→b'.data.live=true→b.wr=false
 aY:∀b o,ρ.aY b=some o→w.heap[b]? =some o
 fb:∀k b x,(k,b)∈fk→b.wr=true→b.data.live=true→ρ.key k=some x→ρ.aY x.1=none
 fresh:∀k b,(k,b)∈new→ρ.key k=none
theorem Ro.toW {ft:List (Nat×SV)} {fk new:List (Nat×aC)} {ρ:bY} {a:Act} {w:World} (h:Ro ft fk new ρ a w):nL fk new ρ w:=⟨h.mu,h.sep,h.aY,h.fb,h.fresh⟩
def ab (P:Program) (f:FuncId) (args:List SV) (fk:List (Nat×aC)) (c:SV) (new upd:List (Nat×aC)):Prop:=
 (BB P f∧∀ρ w z,au ρ args z→nL fk new ρ w→
  Calls P f (List.zipWith cM args z).toArray w fun e w'=>∃v ρ',e= .returned v∧jA ρ w c new upd v ρ' w')∨
 (∀ρ w z,au ρ args z→nL fk new ρ w→∃v ρ' w',(callFunc f (List.zipWith cM args z).toArray).run P w= .ok (.value v) w'∧jA ρ w c new upd v ρ' w')
def bs:SV→Bool
 |.any|.ct _=>false
 |_=>true
theorem BC {ρ:bY} {c:SV} {v:Value} (h:bs c=true) (hv:Has ρ c v):∃x,aK ρ c x∧v=cM c x:=by
 cases c<;>simp[bs]at h<;>simpa only[Has]using hv
def Is (fr:List (Nat×SV)):List Operand→Option (List SV)
 |[]=>some []
 |x::r=>match ev fr x with
  |none=>none
  |some c=>match bs c with
   |false=>none
   |true=>match Is fr r with
    |none=>none
    |some l=>some (c::l)
theorem vr {fr:List (Nat×SV)}:∀{xs:List Operand} {l:List SV},Is fr xs=some l→∀ρ a,(∀t s,(t,s)∈fr→Has ρ s (a.tmps.getD t undef))→∃z,au ρ l z∧xs.map (Act.eval a)=List.zipWith cM l z
 |[],l,h,ρ,a,_=>by simp[Is]at h;subst h;exact⟨[],by simp[au],rfl⟩
 |x::r,l,h,ρ,a,hf=>by
  simp only[Is]at h
  cases hx:ev fr x with
  |none=>rw[hx]at h;simp at h
  |some c=>
   rw[hx]at h
   simp only at h
   cases hp:bs c with
   |false=>rw[hp]at h;simp at h
   |true=>
    rw[hp]at h
    simp only at h
    cases hr:Is fr r with
    |none=>rw[hr]at h;simp at h
    |some l'=>
     rw[hr]at h
     simp only[Option.some.injEq]at h
     subst h
     obtain⟨z,h1,h2⟩:=vr hr ρ a hf
     obtain⟨y,h3,h4⟩:=BC hp (aj hx ρ a hf)
     exact⟨y::z,by simp only[au];exact⟨y,z,rfl,h3,h1⟩,by simp[h2,h4]⟩
section
variable {P:Program} {o:Oper} {fr:List (Nat×SV)}
theorem MP {x:Operand} {xs:Array Operand} {ts:Array TypeId} {f:FuncId} {first cap args:List SV} {fk new upd:List (Nat×aC)} {c:SV}
  (ho:o.op= .call ⟨.value x,xs,ts⟩) (hx:ev fr x=some (.clo f first cap)) (hxs:Is fr xs.toList=some args)
  (hc:ab P f (first++(args++cap)) fk c new upd):bV P o fr fk c new upd:=by
 intro ρ a w hp
 have e1:=aj hx ρ a hp.dr
 simp only[Has,aK]at e1
 obtain⟨_,⟨fz,cz,h1,h2,rfl⟩,hv⟩:=e1
 simp only[cM,SV.bf,if_true,List.headD_cons]at hv
 obtain⟨z,h3,h4⟩:=vr hxs ρ a hp.dr
 have zl:∀(l:List SV) (z:List (List Value)),au ρ l z→l.length=z.length:=by
  intro l
  induction l with
  |nil=>intro z hz;simp only[au]at hz;subst hz;rfl
  |cons c l ih=>intro z hz;simp only[au]at hz;obtain⟨x,r,rfl,_,h⟩:=hz;simp[ih r h]
 have x9:(List.zipWith cM (first++(args++cap)) (fz++(z++cz))).toArray=((List.zipWith cM first fz).toArray++xs.map (Act.eval a))++(List.zipWith cM cap cz).toArray:=by
  rw[List.zipWith_append (zl _ _ h1),List.zipWith_append (zl _ _ h3),←h4]
  apply Array.ext'
  simp
 have PB:(execOp a.eval o).run P w=(callFunc f (List.zipWith cM (first++(args++cap)) (fz++(z++cz))).toArray).run P w:=by
  rw[x9]
  simp[execOp,ho,resolve,hv,Deferred.ofValue,invoke]
 rcases hc with⟨⟨fn,hf,hn,hb⟩,fj⟩|hext
 ·have pH:(execOp a.eval o).run P w= .ok (.enter f (List.zipWith cM (first++(args++cap)) (fz++(z++cz))).toArray) w:=by
   have ZB:¬fn.name= "runtime.NumGoroutine" :=by simpa using hn
   have gj:¬fn.body=none:=fun h=>by rw[h]at hb;cases hb
   rw[PB]
   simp[callFunc,hf,ZB,gj]
  unfold goes
  rw[pH]
  simp only
  refine(fj ρ w _ (cQ h1 (cQ h3 h2)) hp.toW).mono ?_
  rintro e w' ⟨v,ρ',rfl,cb⟩
  exact⟨v,rfl,v,ρ',rfl,cb⟩
 ·obtain⟨v,ρ',w',hr,cb⟩:=hext ρ w _ (cQ h1 (cQ h3 h2)) hp.toW
  unfold goes
  rw[PB,hr]
  exact⟨v,ρ',rfl,cb⟩
def PC (P:Program) (k:Nat) (rc:Loop) (ts:List Nat) (cap args:List SV) (fk:List (Nat×aC)) (c:SV) (new upd:List (Nat×aC)):Prop:=
 ∀ρ w z zc l t,au ρ args z→au ρ cap zc→(List.zipWith cM cap zc=ts.map fun t=>rc.tmps.getD t undef)→ρ.key k=some (l,t)→nL fk new ρ w→
  ∃f tmps assign body,(Instr.yield l (List.zipWith cM args z).toArray).run P w= .ok (.round l f tmps assign body) w∧
   RoundIn Fence.wide 0 P l f tmps assign body w fun e w'=>∃v ρ',e= .returned v∧jA ρ w c new upd v ρ' w'
theorem It {x:Operand} {xs:Array Operand} {ts:Array TypeId} {k:Nat} {rc:Loop} {us:List Nat} {cap args:List SV} {fk new upd:List (Nat×aC)} {c:SV}
  (ho:o.op= .call ⟨.value x,xs,ts⟩) (hx:ev fr x=some (.yld k rc us cap)) (hxs:Is fr xs.toList=some args)
  (hc:PC P k rc us cap args fk c new upd):bV P o fr fk c new upd:=by
 intro ρ a w hp
 have e1:=aj hx ρ a hp.dr
 simp only[Has,aK]at e1
 obtain⟨_,⟨l,t,h0,rfl,zc,h1,h2⟩,hv⟩:=e1
 simp only[cM,SV.bf,if_true,List.headD_cons]at hv
 obtain⟨z,h3,h4⟩:=vr hxs ρ a hp.dr
 obtain⟨f,tmps,assign,body,hy,hr⟩:=hc ρ w z zc l t h3 h1 h2 h0 hp.toW
 have pH:(execOp a.eval o).run P w= .ok (.round l f tmps assign body) w:=by
  have e:xs.map (Act.eval a)=(List.zipWith cM args z).toArray:=by apply Array.ext';simp[h4]
  rw[←hy,←e]
  simp[execOp,ho,resolve,hv,Deferred.ofValue,invoke]
 unfold goes
 rw[pH]
 simp only
 refine hr.mono ?_
 rintro e w' ⟨v,ρ',rfl,cb⟩
 exact⟨v,rfl,v,ρ',rfl,cb⟩
end
end Go.Sx
namespace Go.Sx
theorem eV {ρ:bY} {k s i n:Nat} {v:Value} (h:Has ρ (.aN k s i n) v):
  (∃b t cap,ρ.key k=some (b,t)∧n≤cap∧(i+cap)*s≤t∧v= .slice (some ⟨b,i*s,none⟩) n cap)∨(n=0∧∃a,v= .slice a 0 0):=by
 simp only[Has,aK]at h
 obtain⟨x,h1,rfl⟩:=h
 rcases h1 with⟨b,t,cap,e1,e2,e3,rfl⟩|⟨e1,a,rfl⟩
 ·exact .inl ⟨b,t,cap,e1,e2,e3,by simp[cM,SV.bf]⟩
 ·exact .inr ⟨e1,a,by simp[cM,SV.bf]⟩
theorem gk {ρ:bY} {k s i n:Nat} {v:Value} (h:(∃b t cap,ρ.key k=some (b,t)∧n≤cap∧(i+cap)*s≤t∧v= .slice (some ⟨b,i*s,none⟩) n cap)∨(n=0∧∃a,v= .slice a 0 0)):Has ρ (.aN k s i n) v:=by
 simp only[Has,aK]
 refine⟨[v], ?_,by simp[cM,SV.bf]⟩
 rcases h with⟨b,t,cap,e1,e2,e3,rfl⟩|⟨e1,a,rfl⟩
 ·exact .inl ⟨b,t,cap,e1,e2,e3,rfl⟩
 ·exact .inr ⟨e1,a,rfl⟩
theorem E3 {ρ:bY} {k s i r:Nat} {v:Value} (h:Has ρ (.ptr k s i r) v):∃b t,ρ.key k=some (b,t)∧v= .pointer (some ⟨b,i*s+r,none⟩):=by
 simp only[Has,aK]at h
 obtain⟨_,⟨b,n,b9,rfl⟩,rfl⟩:=h
 exact⟨b,n,b9,by simp[cM,SV.bf]⟩
theorem zE {ρ:bY} {k s i r b t:Nat} (h:ρ.key k=some (b,t)):Has ρ (.ptr k s i r) (.pointer (some ⟨b,i*s+r,none⟩)):=by
 simp only[Has,aK]
 exact⟨_,⟨b,t,h,rfl⟩,by simp[cM,SV.bf]⟩
section
variable {P:Program} {o:Oper} {ft:List (Nat×SV)} {fk:List (Nat×aC)}
theorem BD {x:Operand} {k s i r:Nat} (ho:o.op= .nilCheck x) (hx:bp ft x (.ptr k s i r)):bV P o ft fk (.ptr k s i r) [] []:=
 br fun ρ a w hp=>by
  obtain⟨b,t,h1,h2⟩:=E3 (hx ρ a hp.dr)
  exact⟨_,by simp[execOp,ho,h2],zE h1⟩
theorem zF {x:Operand} {f:FuncId} {first cap:List SV} (ho:o.op= .nilCheck x) (hx:bp ft x (.clo f first cap)):bV P o ft fk (.clo f first cap) [] []:=
 br fun ρ a w hp=>by
  have h:=hx ρ a hp.dr
  have h':=h
  simp only[Has,aK]at h'
  obtain⟨_,⟨fz,cz,_,_,rfl⟩,hv⟩:=h'
  simp only[cM,SV.bf,if_true,List.headD_cons]at hv
  exact⟨_,by simp[execOp,ho,hv],hv▸h⟩
theorem zG {t e:TypeId} {x ix:Operand} {ti te:TI} {k s i n:Nat} {kd:IntKind} {j:Int} (ho:o.op= .indexAddr t x ix) (hx:bp ft x (.aN k s i n)) (hi:bp ft ix (.val (.int kd j)))
  (ht:aD P t ti) (hk:ti.kind= .aN e) (he:aD P e te) (hs:te.size=s) (h0:0≤j) (hj:j<n):bV P o ft fk (.ptr k s (i+j.toNat) 0) [] []:=
 br fun ρ a w hp=>by
  have e2:=aI (hi ρ a hp.dr)
  have hu:=ht.kind;rw[hk]at hu
  rcases eV (hx ρ a hp.dr)with⟨b,t',cap,h1,h2,h3,h4⟩|⟨h1,_⟩
  ·refine⟨.pointer (some ⟨b,(i+j.toNat)*s+0,none⟩), ?_,zE h1⟩
   have fT:(⟨b,i*s,none⟩:Addr).add (j.toNat*s)=⟨b,(i+j.toNat)*s+0,none⟩:=by
    unfold Addr.add
    rw[Nat.add_mul]
    split
    ·rename_i h0;simp[h0]
    ·rfl
   have nG:0≤j∧j<(n:Int):=⟨h0,hj⟩
   simp only[execOp,ho,Instr.indexAt,e2,h4,asIntOf,Sem.run_bind,Sem.run_pure,Result.andThen_ok,run_underlying hu,nG,and_self,if_true,he.sizeOf,hs,fT]
  ·omega
theorem BE {t e:TypeId} {x ix:Operand} {ti te:TI} {k s i r n:Nat} {kd:IntKind} {j:Int} (ho:o.op= .indexAddr t x ix) (hx:bp ft x (.ptr k s i r)) (hi:bp ft ix (.val (.int kd j)))
  (ht:aD P t ti) (hk:ti.kind= .arr n e) (he:aD P e te) (h0:0≤j) (hj:j<n):bV P o ft fk (.ptr k s i (r+j.toNat*te.size)) [] []:=
 br fun ρ a w hp=>by
  have e2:=aI (hi ρ a hp.dr)
  have hu:=ht.kind;rw[hk]at hu
  obtain⟨b,t',h1,h2⟩:=E3 (hx ρ a hp.dr)
  refine⟨.pointer (some ⟨b,i*s+(r+j.toNat*te.size),none⟩), ?_,zE h1⟩
  have fT:(⟨b,i*s+r,none⟩:Addr).add (j.toNat*te.size)=⟨b,i*s+(r+j.toNat*te.size),none⟩:=by
   unfold Addr.add
   split
   ·rename_i h0;simp[h0]
   ·simp[Nat.add_assoc]
  have nG:0≤j∧j<(n:Int):=⟨h0,hj⟩
  simp only[execOp,ho,Instr.indexAt,e2,h2,asIntOf,Sem.run_bind,Sem.run_pure,Result.andThen_ok,run_underlying hu,Instr.sureAddr,nG,and_self,if_true,he.sizeOf,fT]
theorem BF {t:TypeId} {x ix:Operand} {ti:TI} {s:ByteArray} {kd:IntKind} {j:Int} (ho:o.op= .index t x ix) (hx:bp ft x (.val (.string s))) (hi:bp ft ix (.val (.int kd j)))
  (ht:aD P t ti) (hk:ti.kind= .str) (h0:0≤j) (hj:j<s.size):bV P o ft fk (.val (.int .u8 (((s.data.getD j.toNat 0).toNat:Nat):Int))) [] []:=
 br fun ρ a w hp=>by
  have e1:=aI (hx ρ a hp.dr)
  have e2:=aI (hi ρ a hp.dr)
  have hu:=ht.kind;rw[hk]at hu
  refine⟨_, ?_,ca rfl⟩
  have aA:j.toNat<s.size:=aa
  have hg:s[j.toNat]? =some (s.data.getD j.toNat 0):=by
   have adX:j.toNat<s.data.size:=aA
   rw[Array.getD_eq_getD_getElem?,getElem?_pos s j.toNat aA,Array.getElem?_eq_getElem adX]
   rfl
  simp only[execOp,ho,Instr.index,e1,e2,asIntOf,Sem.run_bind,Sem.run_pure,Result.andThen_ok,run_underlying hu,h0,if_true,hg]
def Dt:SV→Option Int
 |.aN _ _ _ n=>some (n:Int)
 |.val (.string s)=>some (s.size:Int)
 |.val (.slice _ n _)=>some (n:Int)
 |_=>none
theorem Du {x:Operand} {xs:Array Operand} {t:TypeId} {ts:Array TypeId} {c:SV} {n:Int} {ti:TI} (ho:o.op= .call ⟨.builtin .len,xs,ts⟩) (hxs:xs= #[x]) (jx:ts= #[t]) (hx:bp ft x c) (hn:Dt c=some n) (ht:aD P t ti)
  (hk:ti.kind= .str∧(∃s,c= .val (.string s))∨(∃e,ti.kind= .aN e)∧(∀s,c≠ .val (.string s))):bV P o ft fk (.val (.int .i64 n)) [] []:=
 br fun ρ a w hp=>by
  have hv:=hx ρ a hp.dr
  refine⟨_, ?_,ca rfl⟩
  have hu:=ht.kind
  rcases hk with⟨hk,s,rfl⟩|⟨⟨e,hk⟩,PD⟩
  ·rw[hk]at hu
   have e1:=aI hv
   simp only[Dt,Option.some.injEq]at hn
   subst hn
   simp[execOp,ho,hxs,jx,resolve,invoke,builtin,Builtin.len_,run_underlying hu,e1,goInt]
  ·rw[hk]at hu
   cases c<;>simp only[Dt,reduceCtorEq]at hn
   case aN k s i m=>
    simp only[Option.some.injEq]at hn
    subst hn
    rcases eV hv with⟨b,t',cap,_,_,_,h4⟩|⟨rfl,a',h4⟩
    ·simp[execOp,ho,hxs,jx,resolve,invoke,builtin,Builtin.len_,run_underlying hu,h4,goInt]
    ·simp[execOp,ho,hxs,jx,resolve,invoke,builtin,Builtin.len_,run_underlying hu,h4,goInt]
   case val v=>
    have e1:=aI hv
    cases v<;>simp only[Option.some.injEq,reduceCtorEq]at hn
    case string s=>exact absurd rfl (PD s)
    case slice a' m cap=>
     subst hn
     simp[execOp,ho,hxs,jx,resolve,invoke,builtin,Builtin.len_,run_underlying hu,e1,goInt]
theorem RC {xs:Array Operand} {ts:Array TypeId} {x y:Operand} {k k':IntKind} {a b:Int} (ho:o.op= .call ⟨.builtin .min,xs,ts⟩) (hxs:xs= #[x,y]) (hx:bp ft x (.val (.int k a))) (hy:bp ft y (.val (.int k' b))):
  bV P o ft fk (.val (.int k (if b<a then b else a))) [] []:=
 br fun ρ ac w hp=>by
  have e1:=aI (hx ρ ac hp.dr)
  have e2:=aI (hy ρ ac hp.dr)
  refine⟨_, ?_,ca rfl⟩
  simp[execOp,ho,hxs,resolve,invoke,builtin,e1,e2,run_min_int2]
theorem RD {xs:Array Operand} {ts:Array TypeId} {x y:Operand} {k k':IntKind} {a b:Int} (ho:o.op= .call ⟨.builtin .max,xs,ts⟩) (hxs:xs= #[x,y]) (hx:bp ft x (.val (.int k a))) (hy:bp ft y (.val (.int k' b))):
  bV P o ft fk (.val (.int k (if b>a then b else a))) [] []:=
 br fun ρ ac w hp=>by
  have e1:=aI (hx ρ ac hp.dr)
  have e2:=aI (hy ρ ac hp.dr)
  refine⟨_, ?_,ca rfl⟩
  simp[execOp,ho,hxs,resolve,invoke,builtin,e1,e2,run_max_int2]
theorem Iu {t e:TypeId} {x:Operand} {lo hi:Option Operand} {ti te:TI} {k s i n:Nat} {l h:Int} (ho:o.op= .slice t x lo hi none) (hx:bp ft x (.aN k s i n))
  (Bo:lo=none∧l=0∨∃y kd,lo=some y∧bp ft y (.val (.int kd l))) (Bp:hi=none∧h=n∨∃y kd,hi=some y∧bp ft y (.val (.int kd h)))
  (ht:aD P t ti) (hk:ti.kind= .aN e) (he:aD P e te) (hs:te.size=s) (h0:0≤l) (hlh:l≤h) (hh:h≤n):bV P o ft fk (.aN k s (i+l.toNat) (h - l).toNat) [] []:=
 br fun ρ a w hp=>by
  have hu:=ht.kind;rw[hk]at hu
  have key:∀(ad:Option Addr) (m cap:Nat),n=m→m≤cap→a.eval x= .slice ad m cap→
    (execOp a.eval o).run P w= .ok (.value (.slice (if cap=l.toNat then ad else ad.map (·.add (l.toNat*s))) (h.toNat - l.toNat) (cap - l.toNat))) w:=by
   intro ad m cap Iv hmc hv
   have H5:∀z:Operand,∀kd,bp ft z (.val (.int kd h))→(Instr.sliceBound (a.eval z) cap .sliceAcap).run P w= .ok h.toNat w:=by
    intro z kd hz
    have:=aI (hz ρ a hp.dr)
    have hb:0≤h∧h≤(cap:Int):=aa
    simp[Instr.sliceBound,this,asIntOf,hb]
   have MQ:∀z:Operand,∀kd,bp ft z (.val (.int kd l))→(Instr.sliceBound (a.eval z) h.toNat .sliceB).run P w= .ok l.toNat w:=by
    intro z kd hz
    have:=aI (hz ρ a hp.dr)
    have hb:0≤l∧l≤(h.toNat:Int):=aa
    simp only[Instr.sliceBound,this,asIntOf,Sem.run_bind,Sem.run_pure,Result.andThen_ok,hb,and_self,if_true]
   have ql:(Instr.sliceBounds true m cap (lo.map a.eval) (hi.map a.eval) none).run P w= .ok (l.toNat,h.toNat,cap) w:=by
    unfold Instr.sliceBounds
    rcases Bp with⟨rfl,rfl⟩|⟨z,kz,rfl,hz⟩<;>rcases Bo with⟨rfl,rfl⟩|⟨y,ky,rfl,hy⟩
    ·simp[Iv]
    ·have:=MQ y ky hy;simp at this;rw[Iv]at this;simp[Iv,this]
    ·simp[H5 z kz hz]
    ·simp[H5 z kz hz,MQ y ky hy]
   simp only[execOp,ho,Option.map_none,Instr.sliceAt,Sem.run_bind,run_underlying hu,Result.andThen_ok,Instr.slice,hv,ql,he.sizeOf,hs,Sem.run_pure]
  rcases eV (hx ρ a hp.dr)with⟨b,t',cap,h1,h2,h3,h4⟩|⟨rfl,ad,h4⟩
  ·refine⟨_,key _ n cap rfl h2 h4,gk ?_⟩
   by_cases hc:cap=l.toNat
   ·right
    have:h.toNat - l.toNat=0:=aa
    refine⟨aa,some ⟨b,i*s,none⟩, ?_⟩
    rw[if_pos hc,this,hc,Nat.sub_self]
   ·left
    refine⟨b,t',cap - l.toNat,h1,aa, ?_, ?_⟩
    ·rw[show i+l.toNat+(cap - l.toNat)=i+cap from by omega];exact h3
    ·rw[if_neg hc]
     have fT:(⟨b,i*s,none⟩:Addr).add (l.toNat*s)=⟨b,(i+l.toNat)*s,none⟩:=by
      unfold Addr.add
      rw[Nat.add_mul]
      split
      ·rename_i h0;simp[h0]
      ·rfl
     rw[Option.map_some,fT,show(h - l).toNat=h.toNat - l.toNat from by omega]
  ·refine⟨_,key ad 0 0 rfl (Nat.le_refl _) h4,gk (.inr ⟨aa,ad, ?_⟩)⟩
   have h1:l.toNat=0:=aa
   have h2:h.toNat=0:=aa
   simp[h1,h2]
theorem BG {t:TypeId} {x:Operand} {lo hi:Option Operand} {ti:TI} {s:ByteArray} {l h:Int} (ho:o.op= .slice t x lo hi none) (hx:bp ft x (.val (.string s)))
  (Bo:lo=none∧l=0∨∃y kd,lo=some y∧bp ft y (.val (.int kd l))) (Bp:hi=none∧h=s.size∨∃y kd,hi=some y∧bp ft y (.val (.int kd h)))
  (ht:aD P t ti) (hk:ti.kind= .str) (h0:0≤l) (hlh:l≤h) (hh:h≤s.size):bV P o ft fk (.val (.string (s.extract l.toNat h.toNat))) [] []:=
 br fun ρ a w hp=>by
  have hu:=ht.kind;rw[hk]at hu
  have e1:=aI (hx ρ a hp.dr)
  refine⟨_, ?_,ca rfl⟩
  have H5:∀z:Operand,∀kd,bp ft z (.val (.int kd h))→(Instr.sliceBound (a.eval z) s.size .sliceAlen).run P w= .ok h.toNat w:=by
   intro z kd hz
   have:=aI (hz ρ a hp.dr)
   have hb:0≤h∧h≤(s.size:Int):=aa
   simp[Instr.sliceBound,this,asIntOf,hb]
  have MQ:∀z:Operand,∀kd,bp ft z (.val (.int kd l))→(Instr.sliceBound (a.eval z) h.toNat .sliceB).run P w= .ok l.toNat w:=by
   intro z kd hz
   have:=aI (hz ρ a hp.dr)
   have hb:0≤l∧l≤(h.toNat:Int):=aa
   simp only[Instr.sliceBound,this,asIntOf,Sem.run_bind,Sem.run_pure,Result.andThen_ok,hb,and_self,if_true]
  have ql:(Instr.sliceBounds false s.size s.size (lo.map a.eval) (hi.map a.eval) none).run P w= .ok (l.toNat,h.toNat,s.size) w:=by
   unfold Instr.sliceBounds
   rcases Bp with⟨rfl,rfl⟩|⟨z,kz,rfl,hz⟩<;>rcases Bo with⟨rfl,rfl⟩|⟨y,ky,rfl,hy⟩
   ·simp
   ·have:=MQ y ky hy;simp at this;simp[this]
   ·simp[H5 z kz hz]
   ·simp[H5 z kz hz,MQ y ky hy]
  simp only[execOp,ho,Option.map_none,Instr.sliceAt,Sem.run_bind,run_underlying hu,Result.andThen_ok,Instr.slice,e1,Option.isSome_none,Bool.false_eq_true,if_false,ql,Sem.run_pure]
end
end Go.Sx
namespace Go.Sx
theorem Gx {d:Data} {s i:Nat} {x:Option Prop×List SV} (h:elem d s i=some x):d.live=true:=by
 cases d<;>first|rfl|simp[elem]at h
def Rows (ρ:bY) (s:Nat):Data→List (List Value)→Prop
 |.ints kd xs,z=>s=1∧z=xs.map (fun x=>[.int kd x])
 |.cm xs,z=>s=5∧z=xs.map bD
 |.seq w xs,z=>s=w∧au (cN ρ.aY ρ.cq) xs z∧∀x∈xs,x.width=w
 |.one _,_=>False
 |.dead,_=>False
 |.loop _,_=>False
def eR:Data→Nat
 |.ints _ xs=>xs.length
 |.cm xs=>xs.length
 |.seq _ xs=>xs.length
 |_=>0
def db:Data→Option Nat
 |.ints _ _=>some 1
 |.cm _=>some 5
 |.seq w _=>some w
 |_=>none
theorem cR {ρ:bY}:∀{l:List SV} {z:List (List Value)},au ρ l z→z.length=l.length
 |[],z,h=>by simp only[au]at h;subst h;rfl
 |c::l,z,h=>by simp only[au]at h;obtain⟨x,r,rfl,_,h⟩:=h;simp[cR h]
theorem Rows.of {ρ:bY} {d:Data} {s:Nat} {vs:List Value} (h:c9 ρ d vs) (hs:db d=some s):∃z,Rows ρ s d z∧vs=z.flatten:=by
 cases d<;>simp only[db,Option.some.injEq,reduceCtorEq]at hs<;>subst hs<;>simp only[c9]at h
 case ints kd xs=>exact⟨_,⟨rfl,rfl⟩,by rw[h,←List.flatMap_def,List.map_eq_flatMap]⟩
 case cm xs=>exact⟨_,⟨rfl,rfl⟩,by rw[h,List.flatMap_def]⟩
 case seq xs=>obtain⟨z,h1,h2,h3⟩:=h;exact⟨z,⟨rfl,h1,h3⟩,h2⟩
theorem Rows.dY {ρ:bY} {d:Data} {s:Nat} {z:List (List Value)} (h:Rows ρ s d z):d.nE=false:=by
 cases d<;>first|rfl|(simp only[Rows]at h)
theorem Rows.data {ρ:bY} {d:Data} {s:Nat} {z:List (List Value)} (h:Rows ρ s d z):c9 ρ d z.flatten:=by
 cases d<;>simp only[Rows]at h<;>simp only[c9]
 case ints kd xs=>obtain⟨_,rfl⟩:=h;rw[←List.flatMap_def,List.map_eq_flatMap]
 case cm xs=>obtain⟨_,rfl⟩:=h;rw[List.flatMap_def]
 case seq w xs=>exact⟨z,h.2.1,rfl,h.2.2⟩
theorem Rows.len {ρ:bY} {d:Data} {s:Nat} {z:List (List Value)} (h:Rows ρ s d z):z.length=eR d∧∀u∈z,u.length=s:=by
 cases d<;>simp only[Rows]at h
 case ints kd xs=>obtain⟨rfl,rfl⟩:=h;simp[eR]
 case cm xs=>
  obtain⟨rfl,rfl⟩:=h
  refine⟨by simp[eR],fun u hu=> ?_⟩
  obtain⟨x,_,rfl⟩:=List.mem_map.1 hu
  exact(dj x).1
 case seq w xs=>
  obtain⟨rfl,h1,h2⟩:=h
  exact⟨cR h1,fun u hu=>fi xs z h1 h2 u hu⟩
theorem cA {s:Nat}:∀(z:List (List Value)) (n:Nat),(∀u∈z,u.length=s)→(z.take n).flatten=z.flatten.take (n*s)
 |[],n,_=>by simp
 |x::z,0,_=>by simp
 |x::z,n+1,h=>by
  have hx:=h x (List.mem_cons_self ..)
  have ih:=cA z n (fun u hu=>h u (List.mem_cons_of_mem _ hu))
  rw[List.take_succ_cons,List.flatten_cons,List.flatten_cons,ih,Nat.succ_mul,Nat.add_comm,←hx,List.take_length_add_append]
theorem fH {s:Nat}:∀(z:List (List Value)) (n:Nat),(∀u∈z,u.length=s)→(z.drop n).flatten=z.flatten.drop (n*s)
 |[],n,_=>by simp
 |x::z,0,_=>by simp
 |x::z,n+1,h=>by
  have hx:=h x (List.mem_cons_self ..)
  have ih:=fH z n (fun u hu=>h u (List.mem_cons_of_mem _ hu))
  rw[List.drop_succ_cons,List.flatten_cons,ih,Nat.succ_mul,Nat.add_comm,←hx,List.drop_length_add_append]
theorem aQ {s:Nat}:∀(z:List (List Value)),(∀u∈z,u.length=s)→z.flatten.length=z.length*s
 |[],_=>by simp
 |x::z,h=>by
  have hx:=h x (List.mem_cons_self ..)
  have ih:=aQ z (fun u hu=>h u (List.mem_cons_of_mem _ hu))
  rw[List.flatten_cons,List.length_append,ih,hx,List.length_cons,Nat.succ_mul,Nat.add_comm]
theorem iy {ρ:bY}:∀{l:List SV} {z:List (List Value)} (n:Nat),au ρ l z→au ρ (l.take n) (z.take n)
 |[],z,n,h=>by simp only[au]at h;subst h;simp[au]
 |c::l,z,0,h=>by simp[au]
 |c::l,z,n+1,h=>by
  simp only[au]at h
  obtain⟨x,r,rfl,h1,h2⟩:=h
  simp only[List.take_succ_cons,au]
  exact⟨x,_,rfl,h1,iy n h2⟩
theorem jQ {ρ:bY}:∀{l:List SV} {z:List (List Value)} (n:Nat),au ρ l z→au ρ (l.drop n) (z.drop n)
 |[],z,n,h=>by simp only[au]at h;subst h;simp[au]
 |c::l,z,0,h=>by simpa using h
 |c::l,z,n+1,h=>by
  simp only[au]at h
  obtain⟨x,r,rfl,h1,h2⟩:=h
  simp only[List.drop_succ_cons]
  exact jQ n h2
def pj (d:Data) (n:Nat) (d2:Data) (i m:Nat):Option Data:=
 match d,d2 with
 |.ints k xs,.ints k' ys=>if k'=k then some (.ints k (xs.take n++(ys.drop i).take m))else none
 |.cm xs,.cm ys=>some (.cm (xs.take n++(ys.drop i).take m))
 |.seq w xs,.seq w' ys=>if w'=w then some (.seq w (xs.take n++(ys.drop i).take m))else none
 |_,_=>none
theorem rO {ρ:bY} {d d2 d':Data} {n i m s s2:Nat} {z z2:List (List Value)} (h:pj d n d2 i m=some d') (hz:Rows ρ s d z) (iz:Rows ρ s2 d2 z2):Rows ρ s d' (z.take n++(z2.drop i).take m)∧s2=s:=by
 unfold pj at h
 split at h
 ·split at h
  ·rename_i hk
   subst hk
   simp only[Option.some.injEq]at h
   subst h
   simp only[Rows]at hz iz ⊢
   obtain⟨rfl,rfl⟩:=hz
   obtain⟨rfl,rfl⟩:=iz
   exact⟨⟨rfl,by simp[List.map_take,List.map_drop]⟩,rfl⟩
  ·simp at h
 ·simp only[Option.some.injEq]at h
  subst h
  simp only[Rows]at hz iz ⊢
  obtain⟨rfl,rfl⟩:=hz
  obtain⟨rfl,rfl⟩:=iz
  exact⟨⟨rfl,by simp[List.map_take,List.map_drop]⟩,rfl⟩
 ·split at h
  ·rename_i hk
   subst hk
   simp only[Option.some.injEq]at h
   subst h
   simp only[Rows]at hz iz ⊢
   obtain⟨rfl,h1,h2⟩:=hz
   obtain⟨rfl,h3,h4⟩:=iz
   refine⟨⟨rfl,cQ (iy n h1) (iy m (jQ i h3)), ?_⟩,rfl⟩
   intro x hx
   rcases List.mem_append.1 hx with hx|hx
   ·exact h2 x (List.mem_of_mem_take hx)
   ·exact h4 x (List.mem_of_mem_drop (List.mem_of_mem_take hx))
  ·simp at h
 ·simp at h
def qm (te:TI) (n:Nat):Data:=
 match te.zero with
 |[.frac _]=>.cm (List.replicate n 0)
 |[.val (.int kd _)]=>.ints kd (List.replicate n 0)
 |[c]=>.seq te.size (List.replicate n c)
 |l=>.seq te.size (List.replicate n (.agg l))
theorem ef (z:Array Value) (s:Nat) (hs:z.size=s):∀n,(madeCells z (n*s)).toList=(List.replicate n z.toList).flatten:=by
 intro n
 induction n with
 |zero=>simp[madeCells]
 |succ n ih=>
  rw[List.replicate_succ',List.flatten_append,←ih]
  simp only[madeCells,Array.toList_map,Array.toList_range,List.flatten_cons,List.flatten_nil,List.append_nil]
  rw[Nat.succ_mul,List.range_add,List.map_append]
  congr 1
  rw[List.map_map]
  apply List.ext_getElem
  ·simp[hs]
  ·intro i h1 h2
   simp only[List.length_map,List.length_range]at h1
   simp only[List.getElem_map,List.getElem_range,Function.comp,hs]
   rw[Nat.add_comm,Nat.add_mul_mod_self_right,Nat.mod_eq_of_lt h1]
   simp[hs,h1]
theorem Dv {te:TI} {ρ:bY} {z:Value} (hz:z.cells.toList=te.zero.flatMap fh) (ir:z.cells.size=te.size) (mo:te.zero.all Rp=true)
  (hzero:∀q,te.zero=[.frac q]→q=0) (hzi:∀kd x,te.zero=[.val (.int kd x)]→x=0) (n:Nat):Rows ρ te.size (qm te n) (List.replicate n z.cells.toList):=by
 have Z6:∀c:SV,∀y,aK (cN ρ.aY ρ.cq) c y→au (cN ρ.aY ρ.cq) (List.replicate n c) (List.replicate n y):=by
  intro c y hy
  clear hz ir
  induction n with
  |zero=>simp[au]
  |succ n ih=>simp only[List.replicate_succ,au];exact⟨y,_,rfl,hy,ih⟩
 have hlen:te.size=(te.zero.flatMap fh).length:=by rw[←hz,Array.length_toList];exact ir.symm
 unfold qm
 split
 ·rename_i q hq
  rw[hq]at hz hlen
  have:=hzero q hq
  subst this
  simp only[List.flatMap_cons,List.flatMap_nil,List.append_nil,fh]at hz hlen
  rw[hz]
  exact⟨by rw[hlen,(dj 0).1],by simp⟩
 ·rename_i kd x hq
  rw[hq]at hz hlen
  have:=hzi kd x hq
  subst this
  simp only[List.flatMap_cons,List.flatMap_nil,List.append_nil,fh]at hz hlen
  rw[hz]
  exact⟨by rw[hlen];rfl,by simp⟩
 ·rename_i c _ _ hq
  rw[hq]at hz hlen mo
  simp only[List.flatMap_cons,List.flatMap_nil,List.append_nil]at hz hlen
  simp only[List.all_cons,List.all_nil,Bool.and_true]at mo
  rw[hz]
  have hc:=x6 (ρ:=cN ρ.aY ρ.cq) mo
  exact⟨rfl,Z6 c _ hc,fun x hx=>by rw[(List.mem_replicate.1 hx).2,←(aK.len c _ hc).1,hlen]⟩
 ·have hc:aK (cN ρ.aY ρ.cq) (.agg te.zero) (te.zero.flatMap fh):=by
   simp only[aK]
   exact⟨_,dO mo,by simp[List.flatMap_def]⟩
  rw[hz]
  exact⟨rfl,Z6 _ _ hc,fun x hx=>by rw[(List.mem_replicate.1 hx).2,←(aK.len _ _ hc).1,hlen]⟩
def vt (te:TI):Bool:=
 match te.zero with
 |[.frac q]=>q.num==0
 |[.val (.int _ x)]=>x==0
 |_=>true
theorem BH {te:TI} (h:vt te=true):(∀q,te.zero=[.frac q]→q=0)∧(∀kd x,te.zero=[.val (.int kd x)]→x=0):=by
 constructor
 ·intro q hq
  simp only[vt,hq,beq_iff_eq]at h
  exact Rat.num_eq_zero.1 h
 ·intro kd x hq
  simpa [vt,hq]using h
section
variable {P:Program} {o:Oper} {ft:List (Nat×SV)} {fk:List (Nat×aC)}
theorem iT {ρ:bY} {w:World} {k s n cap:Nat} {ty:TypeId} {d:Data} {vs ex:List Value} (hk:ρ.key k=none) (hd:c9 ρ d vs) (hnc:n≤cap) (hcap:cap*s≤(vs++ex).length) (hex:∀v∈ex,v.oneCell'=true) (hL:d.nE=false:=by rfl):
  jA ρ w (.aN k s 0 n) [(k,⟨ty,true,d⟩)] [] (.slice (some ⟨w.heap.size,0,none⟩) n cap) ⟨fun j=>if j=k then some (w.heap.size,(vs++ex).length)else ρ.key j,ρ.aY,ρ.cq⟩ (w.alloc (.cells (vs++ex).toArray ty (0,0))):=by
 have hle:ρ.Le ⟨fun j=>if j=k then some (w.heap.size,(vs++ex).length)else ρ.key j,ρ.aY,ρ.cq⟩:=⟨fun j x hx=>by
  show(if j=k then _ else _)=_
  by_cases hj:j=k
  ·subst hj;rw[hk]at hx;cases hx
  ·rw[if_neg hj];exact hx,fun b ob hb=>hb⟩
 refine⟨hle, ?_, ?_, ?_, ?_,(fun _ _ _ h=>by cases h), ?_, ?_,fun b ob hb=>.inl hb⟩
 ·refine gk (.inl ⟨w.heap.size,(vs++ex).length,cap,by simp,hnc,by simpa using hcap,by simp⟩)
 ·intro j hj
  show(if j=k then _ else _)=_
  rw[if_neg]
  rintro rfl
  exact hj _ (List.mem_cons_self ..)
 ·exact .fY ((RowKit.Below.refl _ _).alloc (Nat.le_refl _) _)
 ·intro j b hj
  rcases hj with hj|hj
  ·cases hj
  ·simp only[List.mem_singleton,Prod.mk.injEq]at hj
   obtain⟨rfl,rfl⟩:=hj
   exact .inr (.inl ⟨w.heap.size,_,vs,ex,by simp,by rw[Data.cy hL];exact heap_alloc_new _ _,hd.mono hle,rfl,hex⟩)
 ·intro j b x hj hx
  simp only[List.mem_singleton,Prod.mk.injEq]at hj
  obtain⟨rfl,rfl⟩:=hj
  simp at hx
  rw[←hx]
  exact .inl (Nat.le_refl _)
 ·intro j b j' b' x x' hj nG b6
  simp only[List.mem_singleton,Prod.mk.injEq]at hj nG
  exact absurd (hj.1.trans nG.1.symm) b6
theorem MR {t e:TypeId} {x y:Operand} {ti te:TI} {k:Nat} {kl kc:IntKind} {l c:Int} (ho:o.op= .makeSlice t x y) (hx:bp ft x (.val (.int kl l))) (hy:bp ft y (.val (.int kc c)))
  (ht:aD P t ti) (hk:ti.kind= .aN e) (he:aD P e te) (hz:vt te=true) (h0:0≤l) (hlc:l≤c) (hb:(te.bytes:Int)*c≤281474976710656) (h63:c≤9223372036854775807):
  bV P o ft fk (.aN k te.size 0 l.toNat) [(k,⟨e,true,qm te l.toNat⟩)] []:=
 dc fun ρ a w hp=>by
  have e1:=aI (hx ρ a hp.dr)
  have e2:=aI (hy ρ a hp.dr)
  have hu:=ht.kind;rw[hk]at hu
  obtain⟨i,z,i1,i2,i3,i4,i5,i6,i7,_⟩:=he.info
  have pH:=run_make (P:=P) (w:=w) t e i z hu i1 i4 kl kc l c h0 hlc (by rw[i3];exact hb) h63
  obtain⟨hq,hzi⟩:=BH hz
  have cg:=Dv (ρ:=ρ) i5 i7 i6 hq hzi l.toNat
  have mo:∀u∈(List.replicate c.toNat z.cells.toList),u.length=te.size:=by
   intro u hu
   rw[(List.mem_replicate.1 hu).2,Array.length_toList];exact i7
  have eD:madeCells z.cells (c.toNat*i.size)=(((List.replicate l.toNat z.cells.toList).flatten)++(List.replicate (c.toNat - l.toNat) z.cells.toList).flatten).toArray:=by
   have:=ef z.cells te.size i7 c.toNat
   rw[i2]
   apply Array.ext'
   rw[this,←List.flatten_append,List.replicate_append_replicate]
   rw[show l.toNat+(c.toNat - l.toNat)=c.toNat from by omega]
  have vq:∀u∈z.cells.toList,u.oneCell'=true:=by
   have h1:=(au.len (ρ:=ρ) te.zero _ (dO i6)).2
   rw[i5,List.flatMap_def];exact h1
  refine⟨_,_,_, ?_,iT (hL:=cg.dY) (ty:=e) (d:=qm te l.toNat) (cap:=c.toNat) (s:=te.size) (vs:=(List.replicate l.toNat z.cells.toList).flatten) (ex:=(List.replicate (c.toNat - l.toNat) z.cells.toList).flatten) (hp.fresh k _ (List.mem_cons_self ..)) cg.data aa ?_ ?_⟩
  ·simp only[execOp,ho,e1,e2,Sem.run_bind,pH,Result.andThen_ok,Sem.run_pure,eD]
  ·rw[←List.flatten_append,List.replicate_append_replicate,show l.toNat+(c.toNat - l.toNat)=c.toNat from aa,aQ _ mo,List.length_replicate]
   exact Nat.le_refl _
  ·intro v hv
   obtain⟨u,hu,hv⟩:=List.mem_flatten.1 hv
   rw[(List.mem_replicate.1 hu).2]at hv
   exact vq v hv
end
end Go.Sx
namespace Go.Sx
theorem nM (off:Nat):∀(v:List Value) (j:Nat) (L:Array Value),off+j+v.length≤L.size→
  ((v.zipIdx j).foldl (fun cs (c,j)=>cs.setIfInBounds (off+j) c) L).toList=L.toList.take (off+j)++v++L.toList.drop (off+j+v.length)
 |[],j,L,_=>by simp
 |c::v,j,L,h=>by
  simp only[List.length_cons]at h
  simp only[List.zipIdx_cons,List.foldl_cons]
  rw[nM off v (j+1) (L.setIfInBounds (off+j) c) (by simp;omega)]
  simp only[Array.toList_setIfInBounds,List.length_cons]
  have aA:off+j<L.toList.length:=by rw[Array.length_toList];omega
  rw[show off+(j+1)=(off+j)+1 from aa,List.take_succ_eq_append_getElem (by rw[List.length_set];exact aA),List.getElem_set_self,List.take_set_of_le (Nat.le_refl _),
   show off+j+1+v.length=off+j+(v.length+1)from aa,List.drop_set_of_lt aa]
  simp
def js (f:Nat) (place:Nat→Option (Nat×Nat)) (cs:List SV):List (Nat×List SV)→Option (List SV)
 |[]=>some cs
 |(i,new)::r=>match place i with
  |none=>none
  |some (off,sz)=>match Nat.beq (SV.dn new) sz,Nat.ble (off+sz) (SV.dn cs)with
   |true,true=>match put f cs off sz new with
    |some cs'=>js f place cs' r
    |none=>none
   |_,_=>none
theorem lN {ρ:bY} {f:Nat} {place:Nat→Option (Nat×Nat)}:∀(parts:List (Nat×List SV)) (cs l:List SV) (rp:List (Nat×Value)) (L:Array Value) (z:List (List Value)),js f place cs parts=some l→
  au ρ cs z→L.toList=z.flatten→rp.length=parts.length→(∀(j i:Nat) (new:List SV),parts[j]? =some (i,new)→∃v y,rp[j]? =some (i,v)∧au ρ new y∧v.cells.toList=y.flatten)→
  ∃L' z',Instr.fill place L rp=some L'∧au ρ l z'∧L'.toList=z'.flatten
 |[],cs,l,rp,L,z,h,hz,hL,hlen,_=>by
  simp only[js,Option.some.injEq]at h
  subst h
  obtain rfl:rp=[]:=List.length_eq_zero_iff.1 hlen
  exact⟨L,z,rfl,hz,hL⟩
 |(i,new)::r,cs,l,rp,L,z,h,hz,hL,hlen,hp=>by
  match rp,hlen with
  |(i',v)::rp',hlen=>
   obtain⟨v',y,h1,h2,h3⟩:=hp 0 i new rfl
   simp only[List.getElem?_cons_zero,Option.some.injEq,Prod.mk.injEq]at h1
   obtain⟨rfl,rfl⟩:=h1
   unfold js at h
   cases nt:place i' with
   |none=>rw[nt]at h;simp at h
   |some x=>
    obtain⟨off,sz⟩:=x
    rw[nt]at h
    simp only at h
    split at h
    ·rename_i hw hle
     have hw:=Nat.eq_of_beq_eq_true hw
     have hle:=Nat.le_of_ble_eq_true hle
     cases hput:put f cs off sz new with
     |none=>rw[hput]at h;simp at h
     |some cs'=>
      rw[hput]at h
      simp only at h
      obtain⟨t,g1,g2⟩:=EZ hput hz h2
      have H4:=(au.len new y h2).1
      have ph:=(au.len cs z hz).1
      have RF:v.cells.size=sz:=by rw[←Array.length_toList,h3,H4,hw]
      have hLs:L.size=z.flatten.length:=by rw[←hL,Array.length_toList]
      have vu:=nM off v.cells.toList 0 L (by rw[Array.length_toList,RF,hLs,ph];omega)
      have Iw:(v.cells.zipIdx.foldl (fun cs (c,j)=>cs.setIfInBounds (off+j) c) L).toList=t.flatten:=by
       rw[←Array.foldl_toList,Array.toList_zipIdx,vu,g2,hL,h3,H4,hw]
       simp
      obtain⟨L',z',e1,e2,e3⟩:=lN r cs' l rp' _ t h g1 Iw (by simpa using hlen) (fun j i2 new2 hj=>by
       obtain⟨v2,y2,k1,k2,k3⟩:=hp (j+1) i2 new2 (by simpa using hj)
       exact⟨v2,y2,by simpa using k1,k2,k3⟩)
      refine⟨L',z', ?_,e2,e3⟩
      unfold Instr.fill
      rw[nt]
      have RG:(v.cells.size≠sz||off+v.cells.size>L.size)=false:=by
       rw[RF,hLs,ph]
       simp;omega
      simp only[RG,Bool.false_eq_true,if_false]
      exact e1
    ·simp at h
def gn (fr:List (Nat×SV)):List (Nat×Operand)→Option (List (Nat×List SV))
 |[]=>some []
 |(i,x)::r=>match ev fr x with
  |none=>none
  |some c=>match bs c with
   |false=>none
   |true=>match gn fr r with
    |none=>none
    |some l=>some ((i,[c])::l)
theorem iA {fr:List (Nat×SV)}:∀{ps:List (Nat×Operand)} {l:List (Nat×List SV)},gn fr ps=some l→∀ρ a,(∀t s,(t,s)∈fr→Has ρ s (a.tmps.getD t undef))→
  (ps.map fun p=>(p.1,Act.eval a p.2)).length=l.length∧∀(j i:Nat) (new:List SV),l[j]? =some (i,new)→∃v y,(ps.map fun p=>(p.1,Act.eval a p.2))[j]? =some (i,v)∧au ρ new y∧v.cells.toList=y.flatten
 |[],l,h,ρ,a,_=>by simp[gn]at h;subst h;exact⟨rfl,fun j i new h=>by simp at h⟩
 |(i,x)::r,l,h,ρ,a,hf=>by
  simp only[gn]at h
  cases hx:ev fr x with
  |none=>rw[hx]at h;simp at h
  |some c=>
   rw[hx]at h
   simp only at h
   cases hp:bs c with
   |false=>rw[hp]at h;simp at h
   |true=>
    rw[hp]at h
    simp only at h
    cases hr:gn fr r with
    |none=>rw[hr]at h;simp at h
    |some l'=>
     rw[hr]at h
     simp only[Option.some.injEq]at h
     subst h
     obtain⟨h1,h2⟩:=iA hr ρ a hf
     refine⟨by simpa using h1,fun j i2 new hj=> ?_⟩
     cases j with
     |succ j=>simpa using h2 j i2 new (by simpa using hj)
     |zero=>
      simp only[List.getElem?_cons_zero,Option.some.injEq,Prod.mk.injEq]at hj
      obtain⟨rfl,rfl⟩:=hj
      have hv:=aj hx ρ a hf
      have hc:∃y,au ρ [c] y∧(a.eval x).cells.toList=y.flatten:=by
       cases c<;>simp only[bs,Bool.false_eq_true]at hp
       case agg cs=>
        obtain⟨y,k1,k2⟩:=lM rfl hv
        exact⟨[y.flatten],by simp only[au];exact⟨_,[],rfl,by simp only[aK];exact⟨y,k1,rfl⟩,rfl⟩,by rw[k2];simp⟩
       all_goals exact lM rfl hv
      obtain⟨y,k1,k2⟩:=hc
      exact⟨_,y,by simp,k1,k2⟩
def placesOf (fs:List (Nat×TypeId×Nat)) (i:Nat):Option (Nat×Nat):=match fs[i]? with
 |some (off,_,sz)=>some (off,sz)
 |none=>none
section
variable {P:Program} {o:Oper} {fr:List (Nat×SV)} {fk:List (Nat×aC)}
theorem run_places {fl:List Field} (h:fl.all (fun f=>(P.info? f.type).isSome)=true) (w:World):
  (fl.mapM (fun f=>do pure (f.offset,←Go.sizeOf f.type):Field→Sem (Nat×Nat))).run P w= .ok (fl.map (fun f=>(f.offset,P.cellsOf f.type))) w:=by
 induction fl with
 |nil=>rfl
 |cons f fl ih=>
  simp only[List.all_cons,Bool.and_eq_true]at h
  rw[List.mapM_cons]
  simp only[Sem.run_bind,nJ h.1,Result.andThen_ok,Sem.run_pure,ih h.2,List.map_cons]
theorem Ix {t:TypeId} {parts:Array (Nat×Operand)} {ti:TI} {fs:List (Nat×TypeId×Nat)} {ps:List (Nat×List SV)} {l:List SV} {c:SV} (ho:o.op= .build t parts) (ht:aD P t ti) (hk:ti.kind= .agg fs)
  (xF:gn fr parts.toList=some ps) (hb:js 64 (placesOf fs) ti.zero ps=some l) (hsh:eU ti l=some c):bV P o fr fk c [] []:=
 br fun ρ a w hp=>by
  obtain⟨i,z,i1,i2,i3,i4,i5,i6,i7,_⟩:=ht.info
  have Bm:=ht.kind;rw[hk]at Bm
  obtain⟨k1,k2,k3⟩:=Bm
  obtain⟨p1,p2⟩:=iA xF ρ a hp.dr
  obtain⟨L',z',e1,e2,e3⟩:=lN (ρ:=ρ) ps ti.zero l (parts.toList.map fun p=>(p.1,Act.eval a p.2)) z.cells _ hb (dO i6) (by rw[i5,List.flatMap_def]) p1 p2
  have RH:ti.kind.isAgg=true:=by rw[hk];rfl
  refine⟨.agg L', ?_,kY hsh e2 (by rw[RH,if_pos rfl,←e3])⟩
  have zH:(Go.zeroValue t).run P w= .ok z w:=by simp[Go.zeroValue,typeInfo,i1,i4]
  have nt:((P.fieldsOf t).mapM (fun f=>do pure (f.offset,←Go.sizeOf f.type):Field→Sem (Nat×Nat))).run P w= .ok ((P.fieldsOf t).toList.map (fun f=>(f.offset,P.cellsOf f.type))).toArray w:=by
   rw[Array.mapM_eq_mapM_toList,Sem.run_map,run_places k3]
   rfl
  have adY:(fun x=>((P.fieldsOf t).toList.map (fun f=>(f.offset,P.cellsOf f.type))).toArray[x]?)=placesOf fs:=by
   funext j
   rw[←k2]
   simp only[placesOf,List.getElem?_map,List.getElem?_toArray]
   cases (P.fieldsOf t).toList[j]? <;>rfl
  have lO:(parts.map fun(i,x)=>(i,Act.eval a x)).toList=parts.toList.map fun p=>(p.1,Act.eval a p.2):=by simp
  simp only[execOp,ho,Instr.build,Sem.run_bind,zH,Result.andThen_ok,run_underlying k1,nt,adY,lO,e1,Sem.run_pure]
theorem BI {t e:TypeId} {n:Nat} {parts:Array (Nat×Operand)} {ti te:TI} {ps:List (Nat×List SV)} {l:List SV} {c:SV} (ho:o.op= .build t parts) (ht:aD P t ti) (hk:ti.kind= .arr n e) (he:aD P e te)
  (xF:gn fr parts.toList=some ps) (hb:js 64 (fun i=>some (i*te.size,te.size)) ti.zero ps=some l) (hsh:eU ti l=some c):bV P o fr fk c [] []:=
 br fun ρ a w hp=>by
  obtain⟨i,z,i1,i2,i3,i4,i5,i6,i7,_⟩:=ht.info
  have Bm:=ht.kind;rw[hk]at Bm
  obtain⟨p1,p2⟩:=iA xF ρ a hp.dr
  obtain⟨L',z',e1,e2,e3⟩:=lN (ρ:=ρ) ps ti.zero l (parts.toList.map fun p=>(p.1,Act.eval a p.2)) z.cells _ hb (dO i6) (by rw[i5,List.flatMap_def]) p1 p2
  have RH:ti.kind.isAgg=true:=by rw[hk];rfl
  refine⟨.agg L', ?_,kY hsh e2 (by rw[RH,if_pos rfl,←e3])⟩
  have zH:(Go.zeroValue t).run P w= .ok z w:=by simp[Go.zeroValue,typeInfo,i1,i4]
  have lO:(parts.map fun(i,x)=>(i,Act.eval a x)).toList=parts.toList.map fun p=>(p.1,Act.eval a p.2):=by simp
  have Bm:P.underlying t=some (.array n e):=Bm
  simp only[execOp,ho,Instr.build,Sem.run_bind,zH,Result.andThen_ok,run_underlying Bm,he.sizeOf,lO,e1,Sem.run_pure]
end
end Go.Sx
namespace Go.Sx
def vv (kd:IntKind):List SV→Option (List Int)
 |[]=>some []
 |.val (.int k n)::r=>if k=kd then match vv kd r with
  |some l=>some (n::l)
  |none=>none
  else none
 |_=>none
def qn:List SV→Option (List Rat)
 |[]=>some []
 |.frac q::r=>match qn r with
  |some l=>some (q::l)
  |none=>none
 |_=>none
def pI (s:Nat):List SV→Bool
 |[]=>true
 |c::r=>Nat.beq c.width s&&pI s r
def zI (te:TI) (cs:List SV):Option Data:=
 match te.zero with
 |[.frac _]=>match qn cs,Nat.beq te.size 5 with
  |some l,true=>some (.cm l)
  |_,_=>none
 |[.val (.int kd _)]=>match vv kd cs,Nat.beq te.size 1 with
  |some l,true=>some (.ints kd l)
  |_,_=>none
 |_=>match pI te.size cs&&bn cs with
  |true=>some (.seq te.size cs)
  |false=>none
theorem vw {ρ:bY} {kd:IntKind}:∀{cs:List SV} {l:List Int} {z:List (List Value)},vv kd cs=some l→au ρ cs z→z=l.map (fun x=>[.int kd x])
 |[],l,z,h,hz=>by simp[vv]at h;subst h;simpa [au]using hz
 |c::r,l,z,h,hz=>by
  unfold vv at h
  split at h
  ·simp_all
  ·rename_i k n r' heq
   simp only[List.cons.injEq]at heq
   obtain⟨rfl,rfl⟩:=heq
   split at h
   ·rename_i hk
    subst hk
    split at h
    ·rename_i l' hl
     simp only[Option.some.injEq]at h
     subst h
     simp only[au,aK]at hz
     obtain⟨x,y,rfl,⟨rfl,_⟩,h2⟩:=hz
     rw[vw hl h2]
     rfl
    ·simp at h
   ·simp at h
  ·simp at h
theorem sV {ρ:bY}:∀{cs:List SV} {l:List Rat} {z:List (List Value)},qn cs=some l→au ρ cs z→z=l.map bD
 |[],l,z,h,hz=>by simp[qn]at h;subst h;simpa [au]using hz
 |c::r,l,z,h,hz=>by
  unfold qn at h
  split at h
  ·simp_all
  ·rename_i q r' heq
   simp only[List.cons.injEq]at heq
   obtain⟨rfl,rfl⟩:=heq
   split at h
   ·rename_i l' hl
    simp only[Option.some.injEq]at h
    subst h
    simp only[au,aK]at hz
    obtain⟨x,y,rfl,rfl,h2⟩:=hz
    rw[sV hl h2]
    rfl
   ·simp at h
  ·simp at h
theorem jR {s:Nat}:∀{cs:List SV},pI s cs=true→∀x∈cs,x.width=s
 |c::r,h,x,hx=>by
  simp only[pI,Bool.and_eq_true]at h
  rcases List.mem_cons.1 hx with rfl|hx
  ·exact Nat.eq_of_beq_eq_true h.1
  ·exact jR h.2 x hx
theorem BJ {ρ:bY} {te:TI} {cs:List SV} {d:Data} {z:List (List Value)} (h:zI te cs=some d) (hz:au ρ cs z):Rows ρ te.size d z:=by
 unfold zI at h
 split at h
 ·split at h
  ·rename_i l hl hs
   simp only[Option.some.injEq]at h
   subst h
   exact⟨Nat.eq_of_beq_eq_true hs,sV hl hz⟩
  ·simp at h
 ·split at h
  ·rename_i l hl hs
   simp only[Option.some.injEq]at h
   subst h
   exact⟨Nat.eq_of_beq_eq_true hs,vw hl hz⟩
  ·simp at h
 ·split at h
  ·rename_i hw
   simp only[Option.some.injEq]at h
   subst h
   rw[Bool.and_eq_true]at hw
   exact⟨rfl,ck (ρ:=ρ) (ρ':=cN ρ.aY ρ.cq) (fun _ _ h=>h) cs z hw.2 hz,jR hw.1⟩
  ·simp at h
def BK:Nat→List SV→List SV
 |0,_=>[]
 |n+1,l=>l++BK n l
theorem qo {ρ:bY} {l:List SV} {y:List (List Value)} (h:au ρ l y):∀n,au ρ (BK n l) ((List.replicate n y).flatten)
 |0=>by simp[BK,au]
 |n+1=>by simp only[BK,List.replicate_succ,List.flatten_cons];exact cQ h (qo h n)
section
variable {P:Program} {o:Oper} {fr:List (Nat×SV)} {fk:List (Nat×aC)}
theorem xL {t e:TypeId} {len k:Nat} {parts:Array (Nat×Operand)} {ti te:TI} {ps:List (Nat×List SV)} {l:List SV} {d:Data} (ho:o.op= .buildSlice t len parts) (ht:aD P t ti) (hk:ti.kind= .aN e) (he:aD P e te)
  (xF:gn fr parts.toList=some ps) (hb:js 64 (fun i=>some (i*te.size,te.size)) (BK len te.zero) ps=some l) (hd:zI te l=some d) (hln:l.length=len) (ir:len*te.size≤16777216):
  bV P o fr fk (.aN k te.size 0 len) [(k,⟨e,true,d⟩)] []:=
 dc fun ρ a w hp=>by
  obtain⟨i,z,i1,i2,i3,i4,i5,i6,i7,_⟩:=he.info
  have hu:=ht.kind;rw[hk]at hu
  obtain⟨p1,p2⟩:=iA xF ρ a hp.dr
  have yc:=qo (dO (ρ:=ρ) i6) len
  have BL:(madeCells z.cells (len*te.size)).toList=((List.replicate len (te.zero.map fh)).flatten).flatten:=by
   rw[ef z.cells te.size i7 len,i5]
   have:∀n,(List.replicate n (te.zero.flatMap fh)).flatten=((List.replicate n (te.zero.map fh)).flatten).flatten:=by
    intro n
    induction n with
    |zero=>rfl
    |succ n ih=>rw[List.replicate_succ,List.replicate_succ,List.flatten_cons,List.flatten_cons,List.flatten_append,←ih,List.flatMap_def]
   exact this len
  obtain⟨L',z',e1,e2,e3⟩:=lN (ρ:=ρ) ps _ l (parts.toList.map fun p=>(p.1,Act.eval a p.2)) (madeCells z.cells (len*te.size)) _ hb yc BL p1 p2
  have cg:=BJ hd e2
  have hlen:=cg.len
  have lO:(parts.map fun(i,x)=>(i,Act.eval a x)).toList=parts.toList.map fun p=>(p.1,Act.eval a p.2):=by simp
  have Mq:L'=(z'.flatten++[]).toArray:=by rw[List.append_nil,←e3]
  refine⟨_,_,_, ?_,iT (hL:=cg.dY) (ty:=e) (d:=d) (s:=te.size) (n:=len) (cap:=len) (vs:=z'.flatten) (ex:=[]) (hp.fresh k _ (List.mem_cons_self ..)) cg.data (Nat.le_refl _) ?_ (by simp)⟩
  ·have Iy:¬len*te.size>16777216:=aa
   by_cases h0:len*te.size=0
   ·have hm:(Array.range 0).map (fun x=>(#[]:Array Value)[x % (#[]:Array Value).size]!)=madeCells z.cells (len*te.size):=by simp[h0,madeCells]
    simp only[execOp,ho,Instr.buildSlice,Sem.run_bind,run_underlying hu,Result.andThen_ok,he.sizeOf,h0,lO]
    rw[h0]at hm
    simp only[Nat.reducePow,Nat.not_lt_zero,gt_iff_lt,if_false,if_true,Sem.run_bind,Sem.run_pure,Result.andThen_ok,hm]
    rw[h0]at e1
    simp only[e1,Sem.run_bind,newRow,run_newObj,Sem.run_pure,Result.andThen_ok,Mq,World.alloc_eq]
   ·have hm:(Array.range (len*te.size)).map (fun x=>z.cells[x % z.cells.size]!)=madeCells z.cells (len*te.size):=rfl
    have zH:(Go.zeroValue e).run P w= .ok z w:=by simp[Go.zeroValue,typeInfo,i1,i4]
    simp only[execOp,ho,Instr.buildSlice,Sem.run_bind,run_underlying hu,Result.andThen_ok,he.sizeOf,h0,lO,Nat.reducePow,Iy,if_false,zH,Sem.run_pure,hm,e1,newRow,run_newObj,Mq,World.alloc_eq]
  ·rw[List.append_nil,aQ _ hlen.2,cR e2,hln]
   exact Nat.le_refl _
theorem fZ {z:Array Value} (h:∀v∈z.toList,v.oneCell'=true) (n:Nat):∀v∈(Builtin.zeroCells z n).toList,v.oneCell'=true:=by
 intro v hv
 simp only[Builtin.zeroCells,Array.toList_map,Array.toList_range,List.mem_map,List.mem_range]at hv
 obtain⟨i,hi,rfl⟩:=hv
 have nv:0<z.size:=by
  rcases Nat.eq_zero_or_pos z.size with h0|h0
  ·rw[h0]at hi;simp at hi
  ·exact h0
 have aA:i % z.size<z.size:=Nat.mod_lt _ nv
 have:z[i % z.size]! =z[i % z.size]:=by simp[aA]
 rw[this]
 exact h _ (by simp)
theorem Rows.nil {ρ:bY} {d:Data} {s:Nat} (h:d.empty) (hs:db d=some s):Rows ρ s d []:=by
 cases d<;>simp only[db,Option.some.injEq,reduceCtorEq]at hs<;>subst hs<;>simp only[Data.empty]at h<;>subst h
 ·exact⟨rfl,rfl⟩
 ·exact⟨rfl,rfl⟩
 ·exact⟨rfl,by simp[au],by simp⟩
theorem iU {ρ:bY} {w:World} {k s:Nat} {blk:aC} (hb:gP ρ w k blk) (hl:blk.data.live=true) (hw:db blk.data=some s):
  ∃z,Rows ρ s blk.data z∧((∃b t ex,ρ.key k=some (b,t)∧w.heap[b]? =some (.cells (z.flatten++ex).toArray blk.ty (0,0))∧(z.flatten++ex).length=t∧(∀v∈ex,v.oneCell'=true))∨(ρ.key k=none∧z=[])):=by
 rcases hb with h0|⟨b,t,vs,ex,h1,h2,h3,h4,h5⟩|⟨h1,h2⟩
 ·rw[hl]at h0;cases h0
 ·obtain⟨z,hz,rfl⟩:=Rows.of h3 hw
  exact⟨z,hz,.inl ⟨b,t,ex,h1,by rw[h2,Data.cy (by cases hd:blk.data<;>first|rfl|(rw[hd]at hw;simp[db]at hw))],h4,h5⟩⟩
 ·exact⟨[],.nil h2 hw,.inr ⟨h1,rfl⟩⟩
theorem Rows.vl {ρ:bY} {d:Data} {s:Nat} {z:List (List Value)} (h:Rows ρ s d z):∀u∈z,∀v∈u,v.oneCell'=true:=fun u hu v hv=>
 h.data.vl v (List.mem_flatten.2 ⟨u,hu,hv⟩)
theorem jT (b s j:Nat):(⟨b,0*s,none⟩:Addr).add j=⟨b,j,none⟩:=by
 rw[Nat.zero_mul]
 unfold Addr.add
 split
 ·rename_i h;rw[h]
 ·simp
theorem lP {ρ:bY} {w:World} {k s i n:Nat} {blk:aC} {v:Value} (hv:Has ρ (.aN k s i n) v) (hb:gP ρ w k blk) (hl:blk.data.live=true) (hw:db blk.data=some s) (qe:i+n≤eR blk.data):
  ∃z,Rows ρ s blk.data z∧(∀w',(∀b,b<w.heap.size→w'.heap[b]? =w.heap[b]?)→(Builtin.firstCells s n v).run P w'= .ok (((z.drop i).take n).flatten).toArray w')∧Builtin.lenOf v=Pure.pure n:=by
 obtain⟨z,hz,hcase⟩:=iU hb hl hw
 obtain⟨zl,zw⟩:=hz.len
 refine⟨z,hz, ?_⟩
 rcases eV hv with⟨b,t,cap,e1,e2,e3,rfl⟩|⟨rfl,a,rfl⟩
 ·rcases hcase with⟨b',t',ex,h1,h2,h3,h4⟩|⟨h1,_⟩
  ·rw[e1]at h1
   cases h1
   refine⟨fun w' vx=> ?_,rfl⟩
   have qp:b<w.heap.size:=by
    rcases Nat.lt_or_ge b w.heap.size with h'|h'
    ·exact h'
    ·simp[Array.getElem?_eq_none h']at h2
   have hh:w'.heap[b]? =some (.cells (z.flatten++ex).toArray blk.ty (0,0)):=by rw[vx b qp];exact h2
   have vy:((z.drop i).take n).flatten=(z.flatten.drop (i*s)).take (n*s):=by
    rw[cA (s:=s) _ _ (fun u hu=>zw u (List.mem_of_mem_drop hu)),fH (s:=s) _ _ zw]
   have hlen:(((z.drop i).take n).flatten).length=n*s:=by
    rw[aQ (s:=s) _ (fun u hu=>zw u (List.mem_of_mem_drop (List.mem_of_mem_take hu))),List.length_take,List.length_drop]
    congr 1
    omega
   refine run_firstCells_some (P:=P) w' s n _ n cap _ hlen ?_
   intro j u hj
   have fT:(⟨b,i*s,none⟩:Addr).add j=⟨b,i*s+j,none⟩:=by unfold Addr.add;split<;>simp_all
   rw[fT,cell_of_row w' b (i*s+j) _ blk.ty (0,0) hh]
   have h6:=ld vy j u hj
   have aA:i*s+j<z.flatten.length:=(List.getElem?_eq_some_iff.1 h6).1
   simp only[List.getElem?_toArray]
   rw[List.getElem?_append_left aA]
   exact h6
  ·rw[e1]at h1;cases h1
 ·refine⟨fun w' _=> ?_,rfl⟩
  cases a with
  |none=>simp[Builtin.firstCells]
  |some a=>simp[Builtin.firstCells,loadCells,loadCellsFrom]
theorem Gy {t t2 e:TypeId} {x y:Operand} {xs:Array Operand} {ts:Array TypeId} {ti Dj te:TI} {k k2 kn n i2 m:Nat} {d d':Data} {blk2:aC} (ho:o.op= .call ⟨.builtin .append,xs,ts⟩) (hxs:xs= #[x,y]) (jx:ts= #[t,t2])
  (hx:bp fr x (.aN k te.size 0 n)) (hy:bp fr y (.aN k2 te.size i2 m)) (ht:aD P t ti) (hk:ti.kind= .aN e) (Dk:aD P t2 Dj) (hk2:Dj.kind= .aN e) (he:aD P e te)
  (hf:(k,⟨e,true,d⟩)∈fk) (hf2:(k2,blk2)∈fk) (hl:d.live=true) (iM:blk2.data.live=true) (hw:db d=some te.size) (mz:db blk2.data=some te.size)
  (hn:n≤eR d) (hm:i2+m≤eR blk2.data) (hd:pj d n blk2.data i2 m=some d') (hbytes:(n+m)*te.bytes≤140737488355328) (h63:n+m≤9223372036854775807):
  bV P o fr fk (.aN kn te.size 0 (n+m)) [(kn,⟨e,true,d'⟩)] [(k,⟨e,true,.dead⟩)]:=
 dc fun ρ a w hp=>by
  have BM:=hx ρ a hp.dr
  have Gz:=hy ρ a hp.dr
  obtain⟨i,zv,i1,i2',i3,i4,i5,i6,i7,_⟩:=he.info
  have hu:=ht.kind;rw[hk]at hu
  have yd:=Dk.kind;rw[hk2]at yd
  obtain⟨z,hz,Iz⟩:=iU (hp.mu k _ hf) hl hw
  obtain⟨z2,iz,hrun2,hlen2⟩:=lP (P:=P) Gz (hp.mu k2 _ hf2) iM mz hm
  obtain⟨zl,zw⟩:=hz.len
  obtain⟨zl2,zw2⟩:=iz.len
  have cg:=(rO hd hz iz).1
  have du:=hp.fresh kn _ (List.mem_cons_self ..)
  simp only at zl
  have gS:∀u∈(z2.drop i2).take m,u.length=te.size:=fun u hu=>zw2 u (List.mem_of_mem_drop (List.mem_of_mem_take hu))
  have ga:((z2.drop i2).take m).length=m:=by rw[List.length_take,List.length_drop];omega
  have nO:(((z2.drop i2).take m).flatten).length=m*te.size:=by rw[aQ _ gS,ga]
  have iV:∀u∈(((z2.drop i2).take m).flatten),u.oneCell'=true:=fun u hu=>by
   obtain⟨q,hq,hu⟩:=List.mem_flatten.1 hu
   exact iz.vl q (List.mem_of_mem_drop (List.mem_of_mem_take hq)) u hu
  have fj:∀v w',(Builtin.append_ ts o.type #[a.eval x,a.eval y]).run P w= .ok v w'→(execOp a.eval o).run P w= .ok (.value v) w':=by
   intro v w' h
   simp only[execOp,ho,resolve,invoke,builtin,hxs,Sem.run_bind,Sem.run_pure,Result.andThen_ok,List.map_toArray,List.map_cons,List.map_nil]
   rw[h]
   rfl
  have zJ:∀v∈zv.cells.toList,v.oneCell'=true:=by
   have h1:=(au.len (ρ:=ρ) te.zero _ (dO i6)).2
   rw[i5,List.flatMap_def];exact h1
  have zK:¬((n+m:Nat):Int)>IntKind.i64.max:=by
   have:IntKind.i64.max=9223372036854775807:=aF
   omega
  have grow:∀(base:Option Addr) (cap:Nat),a.eval x= .slice base n cap→cap<n+m→(∀w',(∀b,b<w.heap.size→w'.heap[b]? =w.heap[b]?)→(Builtin.firstCells te.size n (.slice base n cap)).run P w'= .ok ((z.take n).flatten).toArray w')→
    ∃v w' ρ',(execOp a.eval o).run P w= .ok (.value v) w'∧jA ρ w (.aN kn te.size 0 (n+m)) [(kn,⟨e,true,d'⟩)] [(k,⟨e,true,.dead⟩)] v ρ' w':=by
   intro base cap hbx hcap hfirst
   have vz:¬Builtin.nextslicecap (n+m) cap*i.bytes>2^48:=by
    have:=growslice_fits (bytes:=te.bytes) hcap hbytes
    rw[i3];simpa using this
   have MS:n+m≤grownCap w (n+m) cap e:=by
    simp only[grownCap,Question.cut]
    omega
   have cb:=iT (hL:=cg.dY) (ρ:=ρ) (w:=w.drew) (k:=kn) (s:=te.size) (n:=n+m) (cap:=grownCap w (n+m) cap e) (ty:=e) (d:=d') (vs:=(z.take n++(z2.drop i2).take m).flatten) (ex:=(Builtin.zeroCells zv.cells (grownCap w (n+m) cap e - (n+m))).toList) du cg.data MS
    (by
     have h1:((z.take n++(z2.drop i2).take m).flatten).length=(n+m)*te.size:=by
      rw[aQ (s:=te.size) _ (fun u hu=>(List.mem_append.1 hu).elim (fun h=>zw u (List.mem_of_mem_take h)) (gS u)),List.length_append,ga,List.length_take]
      congr 1
      omega
     rw[List.length_append,h1,Array.length_toList]
     have h2:(Builtin.zeroCells zv.cells (grownCap w (n+m) cap e - (n+m))).size=(grownCap w (n+m) cap e - (n+m))*te.size:=by simp[Builtin.zeroCells,i7]
     rw[h2,←Nat.add_mul,show n+m+(grownCap w (n+m) cap e - (n+m))=grownCap w (n+m) cap e from by omega]
     exact Nat.le_refl _) (fZ zJ _)
   refine⟨_,_,_,fj _ _ ?_,{cb with
    bO:=⟨cb.bO.os,cb.bO.tape,cb.bO.output,cb.bO.size,fun b hb hn=>cb.bO.block b hb (fun hh=>by obtain⟨_,_,_,hh,_⟩:=hh;cases hh)⟩
    blk:=fun j b hj=>by
     rcases hj with hj|hj
     ·simp only[List.mem_singleton,Prod.mk.injEq]at hj
      obtain⟨rfl,rfl⟩:=hj
      exact .inl rfl
     ·exact cb.blk j b (.inr hj)
    once:=fun j b b' h1 h2 h3 h4=>by
     simp only[List.mem_singleton,Prod.mk.injEq]at h1 h2
     rw[h2.2]at h4
     cases h4
    zt:=fun j b q hj hq=>.inl ((cb.zt j b q hj hq).elim id (fun hh=>by obtain⟨_,_,_,hh,_⟩:=hh;cases hh))}⟩
   have yc:(if false=true then(Pure.pure 0:Sem Nat)else Builtin.lenOf (a.eval y)).run P w= .ok m w:=by rw[hlen2];rfl
   have qt:¬n+m≤cap:=aa
   have hnb:(w.drew).heap=w.heap:=rfl
   have Dl:=hfirst w.drew (fun b _=>rfl)
   have rJ:=hrun2 w.drew (fun b _=>rfl)
   simp only[Builtin.append_,jx,hbx,List.getElem?_toArray,List.getElem?_cons_zero,List.getElem?_cons_succ,Sem.run_bind,run_underlying hu,run_underlying yd,Result.andThen_ok,he.sizeOf,Sem.run_pure,Bool.false_eq_true,if_false,hlen2]
   have qu:∀w',(typeInfo e).run P w'= .ok i w':=fun w'=>by simp[typeInfo,i1]
   have zH:∀w',(Go.zeroValue e).run P w'= .ok zv w':=fun w'=>by simp[Go.zeroValue,typeInfo,i1,i4]
   have qv:¬(((n+m:Nat):Int)>IntKind.i64.max∧(False∨i.bytes=0)):=fun h=>zK h.1
   have jE:(Question.appendCap (n+m) cap e).forced=false:=rfl
   simp only[qt,if_false,Sem.run_bind,qu,Result.andThen_ok,qv,vz,run_choose,jE,Bool.false_eq_true,World.drew_eq,run_askRoom,Dl,Bool.not_false,if_true,rJ,zH,newRow,run_newObj,Sem.run_pure,World.alloc_eq]
   have iB:((z.take n).flatten.toArray++((z2.drop i2).take m).flatten.toArray++Builtin.zeroCells zv.cells (grownCap w (n+m) cap e - (n+m)))=((z.take n++(z2.drop i2).take m).flatten++(Builtin.zeroCells zv.cells (grownCap w (n+m) cap e - (n+m))).toList).toArray:=by
    apply Array.ext'
    simp
   show Result.ok (Value.slice (some ⟨w.drew.heap.size,0,none⟩) (n+m) (grownCap w (n+m) cap e)) (w.drew.alloc (.cells ((z.take n).flatten.toArray++((z2.drop i2).take m).flatten.toArray++Builtin.zeroCells zv.cells (grownCap w (n+m) cap e - (n+m))) e))=_
   rw[iB]
  rcases eV BM with⟨b,tt,cap,e1,e2,e3,e4⟩|⟨rfl,ad,e4⟩
  ·rcases Iz with⟨b',tt',ex,c1,c2,c3,c4⟩|⟨c1,_⟩
   ·rw[e1]at c1
    cases c1
    simp only at c2
    rcases Nat.lt_or_ge cap (n+m)with aA|H6
    ·refine grow _ cap e4 aA ?_
     obtain⟨z3,hz3,hrun3,_⟩:=lP (P:=P) BM (hp.mu k _ hf) hl hw (by simpa using hn)
     intro w' vx
     have h0:=run_firstCells_some (P:=P) w' te.size n ⟨b,0*te.size,none⟩ n cap ((z.take n).flatten) (by
      rw[aQ (s:=te.size) _ (fun u hu=>zw u (List.mem_of_mem_take hu)),List.length_take];congr 1;omega) (by
      intro j u hj
      have qp:b<w.heap.size:=by
       rcases Nat.lt_or_ge b w.heap.size with h'|h'
       ·exact h'
       ·simp[Array.getElem?_eq_none h']at c2
      have hh:w'.heap[b]? =some (.cells (z.flatten++ex).toArray e (0,0)):=by rw[vx b qp];exact c2
      have fT:(⟨b,0*te.size,none⟩:Addr).add j=⟨b,j,none⟩:=jT b te.size j
      rw[fT,cell_of_row w' b j _ e (0,0) hh]
      rw[cA (s:=te.size) _ _ zw]at hj
      have h6:z.flatten[j]? =some u:=by
       rw[List.getElem?_take]at hj
       split at hj
       ·exact hj
       ·cases hj
      have GA:j<z.flatten.length:=(List.getElem?_eq_some_iff.1 h6).1
      simp only[List.getElem?_toArray]
      rw[List.getElem?_append_left GA]
      exact h6)
     exact h0
    ·-- in place
     have qp:b<w.heap.size:=by
      rcases Nat.lt_or_ge b w.heap.size with h'|h'
      ·exact h'
      ·simp[Array.getElem?_eq_none h']at c2
     have rJ:=hrun2 w (fun b _=>rfl)
     have sW:0*te.size+n*te.size+(((z2.drop i2).take m).flatten).length≤(z.flatten++ex).length:=by
      rw[nO,c3,Nat.zero_mul,Nat.zero_add,←Nat.add_mul]
      exact Nat.le_trans (Nat.mul_le_mul_right _ H6) (by simpa using e3)
     have x8:=run_storeCells_at (P:=P) b (n*te.size) e (((z2.drop i2).take m).flatten) 0 (z.flatten++ex).toArray w c2 (by simp only[List.size_toArray];simpa using sW) iV
     have fT:(⟨b,0*te.size,none⟩:Addr).add (n*te.size)=⟨b,n*te.size,none⟩:=jT b te.size _
     have eD:((z.flatten++ex).take (n*te.size+0)++(((z2.drop i2).take m).flatten)++(z.flatten++ex).drop (n*te.size+0+(((z2.drop i2).take m).flatten).length))=
       (z.take n++(z2.drop i2).take m).flatten++(z.flatten++ex).drop (n*te.size+m*te.size):=by
      rw[Nat.add_zero,nO,List.flatten_append,cA (s:=te.size) _ _ zw,List.take_append_of_le_length (by rw[aQ (s:=te.size) _ zw];exact Nat.mul_le_mul_right _ aa)]
     rw[eD]at x8
     let ρ':bY:=⟨fun j=>if j=kn then some (b,tt)else ρ.key j,ρ.aY,ρ.cq⟩
     have hle:ρ.Le ρ':=⟨fun j q hq=>by
      show(if j=kn then _ else _)=_
      by_cases hj:j=kn
      ·subst hj;rw[du]at hq;cases hq
      ·rw[if_neg hj];exact hq,fun b o hb=>hb⟩
     refine⟨.slice (some ⟨b,0*te.size,none⟩) (n+m) cap,w.setRow b ((z.take n++(z2.drop i2).take m).flatten++(z.flatten++ex).drop (n*te.size+m*te.size)).toArray,ρ',fj _ _ ?_, ?_⟩
     ·simp only[Builtin.append_,jx,e4,List.getElem?_toArray,List.getElem?_cons_zero,List.getElem?_cons_succ,Sem.run_bind,run_underlying hu,run_underlying yd,Result.andThen_ok,he.sizeOf,Sem.run_pure,Bool.false_eq_true,if_false,hlen2,H6,if_true,Bool.not_false,rJ,fT,x8]
     ·refine⟨hle,gk (.inl ⟨b,tt,cap, ?_,H6,e3,rfl⟩), ?_,⟨rfl,rfl,rfl,by simp[World.setRow], ?_⟩, ?_, ?_, ?_, ?_,fun b o hb=>.inl hb⟩
      ·show(if kn=kn then _ else _)=_
       rw[if_pos rfl]
      ·intro j hj
       show(if j=kn then _ else _)=_
       rw[if_neg]
       rintro rfl
       exact hj _ (List.mem_cons_self ..)
      ·intro q hq hnq
       refine cU fun RI=>hnq ⟨k,_,tt,List.mem_cons_self .., ?_⟩
       rw[RI];exact e1
      ·intro j bj hj
       rcases hj with hj|hj
       ·simp only[List.mem_singleton,Prod.mk.injEq]at hj
        obtain⟨rfl,rfl⟩:=hj
        exact .inl rfl
       ·simp only[List.mem_singleton,Prod.mk.injEq]at hj
        obtain⟨rfl,rfl⟩:=hj
        refine .inr (.inl ⟨b,tt,_,(z.flatten++ex).drop (n*te.size+m*te.size), ?_,by rw[Data.cy cg.dY];exact de c2,cg.data.mono hle, ?_, ?_⟩)
        ·show(if j=j then _ else _)=_
         rw[if_pos rfl]
        ·have h1:((z.take n++(z2.drop i2).take m).flatten).length=(n+m)*te.size:=by
          rw[aQ (s:=te.size) _ (fun u hu=>(List.mem_append.1 hu).elim (fun h=>zw u (List.mem_of_mem_take h)) (gS u)),List.length_append,ga,List.length_take]
          congr 1
          omega
         rw[List.length_append,h1,List.length_drop,c3,Nat.add_mul]
         rw[nO,c3]at sW
         omega
        ·intro u hu
         have:=List.mem_of_mem_drop hu
         rcases List.mem_append.1 this with h|h
         ·obtain⟨q,hq,hu'⟩:=List.mem_flatten.1 h
          exact hz.vl q hq u hu'
         ·exact c4 u h
      ·intro j c c' h1 h2 h3 h4
       simp only[List.mem_singleton,Prod.mk.injEq]at h1 h2
       rw[h2.2]at h4
       cases h4
      ·intro j bj q hj hq
       simp only[List.mem_singleton,Prod.mk.injEq]at hj
       obtain⟨rfl,rfl⟩:=hj
       have xM:(if j=j then some (b,tt)else ρ.key j)=some q:=hq
       rw[if_pos rfl]at xM
       cases xM
       exact .inr ⟨k,_,tt,List.mem_cons_self ..,rfl,e1⟩
      ·intro j bj j' bj' q q' hj nG b6
       simp only[List.mem_singleton,Prod.mk.injEq]at hj nG
       exact absurd (hj.1.trans nG.1.symm) b6
   ·rw[e1]at c1;cases c1
  ·rcases Nat.eq_zero_or_pos m with rfl|ZC
   ·-- nothing onto nothing
    have rJ:=hrun2 w (fun b _=>rfl)
    refine⟨.slice ad 0 0,w,ρ,fj _ _ ?_, ?_⟩
    ·have mD:∀q:Addr,(storeCells q ([]:List Value)).run P w= .ok () w:=fun q=>rfl
     have BN:((z2.drop i2).take 0).flatten=[]:=by simp
     rw[BN]at rJ
     cases ad<;>simp only[Builtin.append_,jx,e4,List.getElem?_toArray,List.getElem?_cons_zero,List.getElem?_cons_succ,Sem.run_bind,run_underlying hu,run_underlying yd,Result.andThen_ok,he.sizeOf,Sem.run_pure,Bool.false_eq_true,if_false,hlen2,Nat.add_zero,Nat.le_refl,if_true,Bool.not_false,rJ,mD]
    ·have adZ:d'.empty∨True:=.inr trivial
     have x7:d'.empty:=by
      unfold pj at hd
      split at hd
      ·split at hd
       ·simp only[Option.some.injEq]at hd;subst hd;simp[Data.empty]
       ·simp at hd
      ·simp only[Option.some.injEq]at hd;subst hd;simp[Data.empty]
      ·split at hd
       ·simp only[Option.some.injEq]at hd;subst hd;simp[Data.empty]
       ·simp at hd
      ·simp at hd
     refine⟨.refl ρ,gk (.inr ⟨rfl,ad,rfl⟩),fun _ _=>rfl,.refl _ _, ?_, ?_, ?_, ?_,fun b o hb=>.inl hb⟩
     ·intro j bj hj
      rcases hj with hj|hj
      ·simp only[List.mem_singleton,Prod.mk.injEq]at hj
       obtain⟨rfl,rfl⟩:=hj
       exact .inl rfl
      ·simp only[List.mem_singleton,Prod.mk.injEq]at hj
       obtain⟨rfl,rfl⟩:=hj
       exact .inr (.inr ⟨du,x7⟩)
     ·intro j c c' h1 h2 h3 h4
      simp only[List.mem_singleton,Prod.mk.injEq]at h1 h2
      rw[h2.2]at h4
      cases h4
     ·intro j bj q hj hq
      simp only[List.mem_singleton,Prod.mk.injEq]at hj
      obtain⟨rfl,rfl⟩:=hj
      rw[du]at hq;cases hq
     ·intro j bj j' bj' q q' hj nG b6
      simp only[List.mem_singleton,Prod.mk.injEq]at hj nG
      exact absurd (hj.1.trans nG.1.symm) b6
   ·refine grow ad 0 e4 aa ?_
    intro w' _
    cases ad with
    |none=>simp[Builtin.firstCells]
    |some q=>simp[Builtin.firstCells,loadCells,loadCellsFrom]
theorem xN {t t2 e:TypeId} {x y:Operand} {xs:Array Operand} {ts:Array TypeId} {ti Dj te:TI} {k2 kn i2 m:Nat} {d':Data} {blk2:aC} (ho:o.op= .call ⟨.builtin .append,xs,ts⟩) (hxs:xs= #[x,y]) (jx:ts= #[t,t2])
  (hx:bp fr x (.val (.slice none 0 0))) (hy:bp fr y (.aN k2 te.size i2 m)) (ht:aD P t ti) (hk:ti.kind= .aN e) (Dk:aD P t2 Dj) (hk2:Dj.kind= .aN e) (he:aD P e te)
  (hf2:(k2,blk2)∈fk) (iM:blk2.data.live=true) (mz:db blk2.data=some te.size)
  (hm:i2+m≤eR blk2.data) (hd:pj blk2.data 0 blk2.data i2 m=some d') (hbytes:m*te.bytes≤140737488355328) (h63:m≤9223372036854775807):
  bV P o fr fk (.aN kn te.size 0 m) [(kn,⟨e,true,d'⟩)] []:=
 dc fun ρ a w hp=>by
  have BM:=aI (hx ρ a hp.dr)
  have Gz:=hy ρ a hp.dr
  obtain⟨i,zv,i1,i2',i3,i4,i5,i6,i7,_⟩:=he.info
  have hu:=ht.kind;rw[hk]at hu
  have yd:=Dk.kind;rw[hk2]at yd
  obtain⟨z2,iz,hrun2,hlen2⟩:=lP (P:=P) Gz (hp.mu k2 _ hf2) iM mz hm
  obtain⟨zl2,zw2⟩:=iz.len
  have cg:=(rO hd iz iz).1
  rw[List.take_zero,List.nil_append]at cg
  have du:=hp.fresh kn _ (List.mem_cons_self ..)
  have gS:∀u∈(z2.drop i2).take m,u.length=te.size:=fun u hu=>zw2 u (List.mem_of_mem_drop (List.mem_of_mem_take hu))
  have ga:((z2.drop i2).take m).length=m:=by rw[List.length_take,List.length_drop];omega
  have fj:∀v w',(Builtin.append_ ts o.type #[a.eval x,a.eval y]).run P w= .ok v w'→(execOp a.eval o).run P w= .ok (.value v) w':=by
   intro v w' h
   simp only[execOp,ho,resolve,invoke,builtin,hxs,Sem.run_bind,Sem.run_pure,Result.andThen_ok,List.map_toArray,List.map_cons,List.map_nil]
   rw[h]
   rfl
  have zJ:∀v∈zv.cells.toList,v.oneCell'=true:=by
   have h1:=(au.len (ρ:=ρ) te.zero _ (dO i6)).2
   rw[i5,List.flatMap_def];exact h1
  rcases Nat.eq_zero_or_pos m with rfl|ZC
  ·have rJ:=hrun2 w (fun b _=>rfl)
   refine⟨.slice none 0 0,w,ρ,fj _ _ ?_, ?_⟩
   ·have BN:((z2.drop i2).take 0).flatten=[]:=by simp
    rw[BN]at rJ
    simp only[Builtin.append_,jx,BM,List.getElem?_toArray,List.getElem?_cons_zero,List.getElem?_cons_succ,Sem.run_bind,run_underlying hu,run_underlying yd,Result.andThen_ok,he.sizeOf,Sem.run_pure,Bool.false_eq_true,if_false,hlen2,Nat.add_zero,Nat.le_refl,if_true,Bool.not_false,rJ]
   ·have x7:d'.empty:=by
     unfold pj at hd
     split at hd
     ·split at hd
      ·simp only[Option.some.injEq]at hd;subst hd;simp[Data.empty]
      ·simp at hd
     ·simp only[Option.some.injEq]at hd;subst hd;simp[Data.empty]
     ·split at hd
      ·simp only[Option.some.injEq]at hd;subst hd;simp[Data.empty]
      ·simp at hd
     ·simp at hd
    refine⟨.refl ρ,gk (.inr ⟨rfl,none,rfl⟩),fun _ _=>rfl,.refl _ _, ?_,(fun _ _ _ h=>by cases h), ?_, ?_,fun b o hb=>.inl hb⟩
    ·intro j bj hj
     rcases hj with hj|hj
     ·cases hj
     ·simp only[List.mem_singleton,Prod.mk.injEq]at hj
      obtain⟨rfl,rfl⟩:=hj
      exact .inr (.inr ⟨du,x7⟩)
    ·intro j bj q hj hq
     simp only[List.mem_singleton,Prod.mk.injEq]at hj
     obtain⟨rfl,rfl⟩:=hj
     rw[du]at hq;cases hq
    ·intro j bj j' bj' q q' hj nG b6
     simp only[List.mem_singleton,Prod.mk.injEq]at hj nG
     exact absurd (hj.1.trans nG.1.symm) b6
  ·have zK:¬((0+m:Nat):Int)>IntKind.i64.max:=by
    have:IntKind.i64.max=9223372036854775807:=aF
    omega
   have vz:¬Builtin.nextslicecap (0+m) 0*i.bytes>2^48:=by
    have:=growslice_fits (bytes:=te.bytes) (show 0<0+m by omega) (by rw[Nat.zero_add];exact hbytes)
    rw[i3];simpa using this
   have MS:m≤grownCap w (0+m) 0 e:=by
    simp only[grownCap,Question.cut]
    omega
   have cb:=iT (hL:=cg.dY) (ρ:=ρ) (w:=w.drew) (k:=kn) (s:=te.size) (n:=m) (cap:=grownCap w (0+m) 0 e) (ty:=e) (d:=d') (vs:=((z2.drop i2).take m).flatten) (ex:=(Builtin.zeroCells zv.cells (grownCap w (0+m) 0 e - (0+m))).toList) du cg.data MS
    (by
     have h1:(((z2.drop i2).take m).flatten).length=m*te.size:=by rw[aQ (s:=te.size) _ gS,ga]
     rw[List.length_append,h1,Array.length_toList]
     have h2:(Builtin.zeroCells zv.cells (grownCap w (0+m) 0 e - (0+m))).size=(grownCap w (0+m) 0 e - (0+m))*te.size:=by simp[Builtin.zeroCells,i7]
     rw[h2,←Nat.add_mul,show m+(grownCap w (0+m) 0 e - (0+m))=grownCap w (0+m) 0 e from by omega]
     exact Nat.le_refl _) (fZ zJ _)
   refine⟨_,_,_,fj _ _ ?_,{cb with bO:=⟨cb.bO.os,cb.bO.tape,cb.bO.output,cb.bO.size,cb.bO.block⟩}⟩
   have qt:¬0+m≤0:=aa
   have rJ:=hrun2 w.drew (fun b _=>rfl)
   have qu:∀w',(typeInfo e).run P w'= .ok i w':=fun w'=>by simp[typeInfo,i1]
   have zH:∀w',(Go.zeroValue e).run P w'= .ok zv w':=fun w'=>by simp[Go.zeroValue,typeInfo,i1,i4]
   have qv:¬(((0+m:Nat):Int)>IntKind.i64.max∧(False∨i.bytes=0)):=fun h=>zK h.1
   have jE:(Question.appendCap (0+m) 0 e).forced=false:=rfl
   have Dl:∀w',(Builtin.firstCells te.size 0 (.slice none 0 0)).run P w'= .ok #[] w':=fun w'=>by simp[Builtin.firstCells]
   simp only[Builtin.append_,jx,BM,List.getElem?_toArray,List.getElem?_cons_zero,List.getElem?_cons_succ,Sem.run_bind,run_underlying hu,run_underlying yd,Result.andThen_ok,he.sizeOf,Sem.run_pure,Bool.false_eq_true,if_false,hlen2]
   simp only[qt,if_false,Sem.run_bind,qu,Result.andThen_ok,qv,vz,run_choose,jE,Bool.false_eq_true,World.drew_eq,run_askRoom,Dl,Bool.not_false,if_true,rJ,zH,newRow,run_newObj,Sem.run_pure,World.alloc_eq]
   have iB:((#[]:Array Value)++((z2.drop i2).take m).flatten.toArray++Builtin.zeroCells zv.cells (grownCap w (0+m) 0 e - (0+m)))=(((z2.drop i2).take m).flatten++(Builtin.zeroCells zv.cells (grownCap w (0+m) 0 e - (0+m))).toList).toArray:=by
    apply Array.ext'
    simp
   show Result.ok (Value.slice (some ⟨w.drew.heap.size,0,none⟩) (0+m) (grownCap w (0+m) 0 e)) (w.drew.alloc (.cells ((#[]:Array Value)++((z2.drop i2).take m).flatten.toArray++Builtin.zeroCells zv.cells (grownCap w (0+m) 0 e - (0+m))) e))=_
   rw[iB,Nat.zero_add]
theorem BO {src dst e:TypeId} {x:Operand} {ti td te:TI} {k i n:Nat} {wr:Bool} {ty:TypeId} {xs:List Int} (ho:o.op= .convert src dst x) (hx:bp fr x (.aN k 1 i n)) (ht:aD P src ti) (hk:ti.kind= .aN e) (he:aD P e te) (hke:te.kind= .int .u8)
  (htd:aD P dst td) (Bm:td.kind= .str) (hf:(k,⟨ty,wr,.ints .u8 xs⟩)∈fk) (hn:i+n≤xs.length):
  bV P o fr fk (.val (.string ⟨(((xs.drop i).take n).map fun v=>UInt8.ofNat v.toNat).toArray⟩)) [] []:=
 br fun ρ a w hp=>by
  have hv:=hx ρ a hp.dr
  have hu:=ht.kind;rw[hk]at hu
  have hue:=he.kind;rw[hke]at hue
  have RJ:=htd.kind;rw[Bm]at RJ
  obtain⟨z,hz,pH,_⟩:=lP (P:=P) hv (hp.mu k _ hf) rfl rfl hn
  obtain⟨_,rfl⟩:=hz
  have hr:=pH w (fun _ _=>rfl)
  have Iw:∀(l:List Int) (b:ByteArray),l.foldl (fun r n=>r.push (UInt8.ofNat n.toNat)) b=⟨b.data++(l.map fun v=>UInt8.ofNat v.toNat).toArray⟩:=by
   intro l
   induction l with
   |nil=>intro b;simp
   |cons v l ih=>
    intro b
    rw[List.foldl_cons,ih]
    congr 1
    show(b.data.push _)++_=_
    apply Array.ext'
    simp
  have vy:((((xs.map fun x=>[Value.int .u8 x]).drop i).take n).flatten)=((xs.drop i).take n).map (Value.int .u8):=by
   rw[←List.map_drop,←List.map_take,←List.flatMap_def,List.map_eq_flatMap]
  rcases eV hv with⟨b,t,cap,e1,e2,e3,b7⟩|⟨rfl,ad,b7⟩
  ·rw[Nat.mul_one]at b7
   rw[b7]at hr
   simp only[Builtin.firstCells,Nat.mul_one,vy]at hr
   have:=run_bytesToString (P:=P) w ⟨b,i,none⟩ n cap ((xs.drop i).take n) hr
   rw[Iw]at this
   refine⟨_, ?_,ca rfl⟩
   simp only[execOp,ho,b7,convert,Sem.run_bind,run_underlying hu,run_underlying RJ,run_underlying hue,Result.andThen_ok,this,Sem.run_pure]
   congr 4
   apply Array.ext'
   simp
  ·refine⟨_, ?_,ca rfl⟩
   rw[b7]at hr
   cases ad with
   |none=>
    have:(Conv.bytesToString (.slice none 0 0)).run P w= .ok (.string .empty) w:=rfl
    simp only[execOp,ho,b7,convert,Sem.run_bind,run_underlying hu,run_underlying RJ,run_underlying hue,Result.andThen_ok,this,Sem.run_pure]
    rfl
   |some q=>
    have hr:(loadCells q 0).run P w= .ok (([]:List Int).map (Value.int .u8)).toArray w:=rfl
    have:=run_bytesToString (P:=P) w q 0 0 [] hr
    simp only[execOp,ho,b7,convert,Sem.run_bind,run_underlying hu,run_underlying RJ,run_underlying hue,Result.andThen_ok,this,Sem.run_pure]
    rfl
end
end Go.Sx
namespace Go.Sx
def ad0 (w:Nat) (xs:List SV) (aY:Nat→Option Obj) (vs:List Value):Prop:=
 (xs=[]∧∃a,vs=[.slice a 0 0])∨
 ∃(hg:iw aY) (b cap:Nat) (z:List (List Value)) (pre ex:List Value) (ty:TypeId) (fz:Nat×Nat),aY b=some (.cells (pre++(z.flatten++ex)).toArray ty fz)∧au (cN aY hg) xs z∧(∀x∈xs,x.width=w)∧
  xs.length≤cap∧cap*w≤(z.flatten++ex).length∧vs=[.slice (some ⟨b,pre.length,none⟩) xs.length cap]
def GB (w:Nat) (xs:List SV):Pred where
 h:=ad0 w xs
 mono i i' vs hle h:=by
  rcases h with h|⟨hg,b,cap,z,pre,ex,ty,fz,h1,h2,h3⟩
  ·exact .inl h
  ·exact .inr ⟨hg.mono hle,b,cap,z,pre,ex,ty,fz,hle _ _ h1,au.mono (qj hle hg _) _ _ h2,h3⟩
 width:=1
 len i vs h:=by
  rcases h with⟨_,a,rfl⟩|⟨hg,b,cap,z,pre,ex,_,_,_,_,_,_,_,rfl⟩<;>simp[Value.oneCell']
 bare:=true
 qi _:=rfl
abbrev eH (w:Nat) (xs:List SV):SV:=.atom (GB w xs)
theorem ow {ρ:bY} {w:Nat} {xs:List SV} {v:Value} (h:Has ρ (eH w xs) v):(xs=[]∧∃a,v= .slice a 0 0)∨
  ∃(b cap:Nat) (z:List (List Value)) (pre ex:List Value) (ty:TypeId) (fz:Nat×Nat),ρ.aY b=some (.cells (pre++(z.flatten++ex)).toArray ty fz)∧au (cN ρ.aY ρ.cq) xs z∧(∀x∈xs,x.width=w)∧
  xs.length≤cap∧cap*w≤(z.flatten++ex).length∧v= .slice (some ⟨b,pre.length,none⟩) xs.length cap:=by
 simp only[Has,aK]at h
 obtain⟨x,h1,rfl⟩:=h
 rcases h1 with⟨h1,a,rfl⟩|⟨hg,b,cap,z,pre,ex,ty,fz,h1,h2,h3,h4,h5,rfl⟩
 ·exact .inl ⟨h1,a,by simp[cM,SV.bf,GB]⟩
 ·exact .inr ⟨b,cap,z,pre,ex,ty,fz,h1,h2,h3,h4,h5,by simp[cM,SV.bf,GB]⟩
theorem uJ {ρ:bY} {w:Nat} {xs:List SV} {v:Value} (h:(xs=[]∧∃a,v= .slice a 0 0)∨
  ∃(b cap:Nat) (z:List (List Value)) (pre ex:List Value) (ty:TypeId) (fz:Nat×Nat),ρ.aY b=some (.cells (pre++(z.flatten++ex)).toArray ty fz)∧au (cN ρ.aY ρ.cq) xs z∧(∀x∈xs,x.width=w)∧
  xs.length≤cap∧cap*w≤(z.flatten++ex).length∧v= .slice (some ⟨b,pre.length,none⟩) xs.length cap):Has ρ (eH w xs) v:=by
 simp only[Has,aK]
 refine⟨[v], ?_,by simp[cM,SV.bf,GB]⟩
 rcases h with⟨h1,a,rfl⟩|⟨b,cap,z,pre,ex,ty,fz,h1,h2,h3,h4,h5,rfl⟩
 ·exact .inl ⟨h1,a,rfl⟩
 ·exact .inr ⟨ρ.cq,b,cap,z,pre,ex,ty,fz,h1,h2,h3,h4,h5,rfl⟩
def ad1 (cs:List SV) (aY:Nat→Option Obj) (vs:List Value):Prop:=
 ∃(hg:iw aY) (b:Nat) (z:List (List Value)) (pre ex:List Value) (ty:TypeId) (fz:Nat×Nat),aY b=some (.cells (pre++(z.flatten++ex)).toArray ty fz)∧au (cN aY hg) cs z∧vs=[.pointer (some ⟨b,pre.length,none⟩)]
def eS (cs:List SV):Pred where
 h:=ad1 cs
 mono i i' vs hle h:=by
  obtain⟨hg,b,z,pre,ex,ty,fz,h1,h2,h3⟩:=h
  exact⟨hg.mono hle,b,z,pre,ex,ty,fz,hle _ _ h1,au.mono (qj hle hg _) _ _ h2,h3⟩
 width:=1
 len i vs h:=by
  obtain⟨hg,b,z,pre,ex,ty,fz,h1,h2,rfl⟩:=h
  simp[Value.oneCell']
 bare:=true
 qi _:=rfl
abbrev bG (cs:List SV):SV:=.atom (eS cs)
theorem vC {ρ:bY} {cs:List SV} {v:Value} (h:Has ρ (bG cs) v):∃(b:Nat) (z:List (List Value)) (pre ex:List Value) (ty:TypeId) (fz:Nat×Nat),ρ.aY b=some (.cells (pre++(z.flatten++ex)).toArray ty fz)∧
  au (cN ρ.aY ρ.cq) cs z∧v= .pointer (some ⟨b,pre.length,none⟩):=by
 simp only[Has,aK]at h
 obtain⟨x,⟨hg,b,z,pre,ex,ty,fz,h1,h2,rfl⟩,rfl⟩:=h
 exact⟨b,z,pre,ex,ty,fz,h1,h2,by simp[cM,SV.bf,eS]⟩
theorem nP {ρ:bY} {cs:List SV} {v:Value} (h:∃(b:Nat) (z:List (List Value)) (pre ex:List Value) (ty:TypeId) (fz:Nat×Nat),ρ.aY b=some (.cells (pre++(z.flatten++ex)).toArray ty fz)∧
  au (cN ρ.aY ρ.cq) cs z∧v= .pointer (some ⟨b,pre.length,none⟩)):Has ρ (bG cs) v:=by
 obtain⟨b,z,pre,ex,ty,fz,h1,h2,rfl⟩:=h
 simp only[Has,aK]
 exact⟨[.pointer (some ⟨b,pre.length,none⟩)],⟨ρ.cq,b,z,pre,ex,ty,fz,h1,h2,rfl⟩,by simp[cM,SV.bf,eS]⟩
theorem nQ (b n j:Nat):(⟨b,n,none⟩:Addr).add j=⟨b,n+j,none⟩:=by
 unfold Addr.add
 split<;>simp_all
def gv (xs:List SV) (l h:Nat):List SV:=(xs.drop l).take (h - l)
section
variable {P:Program} {o:Oper} {ft:List (Nat×SV)} {fk:List (Nat×aC)} {w:Nat} {xs cs:List SV}
theorem MT {x:Operand} {t:TypeId} {xs':Array Operand} {ts:Array TypeId} {ti:TI} {e:TypeId} (ho:o.op= .call ⟨.builtin .len,xs',ts⟩) (hxs:xs'= #[x]) (jx:ts= #[t]) (hx:bp ft x (eH w xs)) (ht:aD P t ti)
  (hk:ti.kind= .aN e):bV P o ft fk (.val (.int .i64 (xs.length:Int))) [] []:=
 br fun ρ a w hp=>by
  have hv:=hx ρ a hp.dr
  refine⟨_, ?_,ca rfl⟩
  have hu:=ht.kind
  rw[hk]at hu
  rcases ow hv with⟨rfl,ad,h4⟩|⟨b,cap,z,pre,ex,_,_,_,_,_,_,_,h4⟩
  ·simp[execOp,ho,hxs,jx,resolve,invoke,builtin,Builtin.len_,run_underlying hu,h4,goInt]
  ·simp[execOp,ho,hxs,jx,resolve,invoke,builtin,Builtin.len_,run_underlying hu,h4,goInt]
theorem ye {t e:TypeId} {x ix:Operand} {ti te:TI} {kd:IntKind} {j:Int} {el:SV} (ho:o.op= .indexAddr t x ix) (hx:bp ft x (eH w xs)) (hi:bp ft ix (.val (.int kd j)))
  (ht:aD P t ti) (hk:ti.kind= .aN e) (he:aD P e te) (hs:te.size=w) (h0:0≤j) (hj:j<(xs.length:Int)) (H7:xs.getD j.toNat .any=el):bV P o ft fk (bG [el]) [] []:=
 br fun ρ a W hp=>by
  have e2:=aI (hi ρ a hp.dr)
  have hu:=ht.kind;rw[hk]at hu
  rcases ow (hx ρ a hp.dr)with⟨rfl,_⟩|⟨b,cap,z,pre,ex,ty,fz,h1,h2,h3,h4,h5,h6⟩
  ·simp at hj;omega
  ·have H2:j.toNat<xs.length:=aa
   obtain⟨g1,g2⟩:=nI h2 j.toNat H2
   have PE:=fi xs z h2 h3
   have ph:z.length=xs.length:=cR h2
   refine⟨.pointer (some ⟨b,pre.length+j.toNat*w,none⟩), ?_,nP ⟨b,[z.getD j.toNat []],pre++(z.take j.toNat).flatten,(z.drop (j.toNat+1)).flatten++ex,ty,fz, ?_, ?_, ?_⟩⟩
   ·have nG:0≤j∧j<(xs.length:Int):=⟨h0,hj⟩
    simp only[execOp,ho,Instr.indexAt,e2,h6,asIntOf,Sem.run_bind,Sem.run_pure,Result.andThen_ok,run_underlying hu,nG,and_self,if_true,he.sizeOf,hs,nQ]
   ·rw[h1]
    congr 3
    have hz:z=z.take j.toNat++(z.getD j.toNat []::z.drop (j.toNat+1)):=by
     have aA:j.toNat<z.length:=aa
     rw[List.getD_eq_getElem?_getD,List.getElem?_eq_getElem aA,Option.getD_some,←List.drop_eq_getElem_cons aA,List.take_append_drop]
    have:z.flatten=(z.take j.toNat).flatten++(z.getD j.toNat []++(z.drop (j.toNat+1)).flatten):=by
     conv=>lhs;rw[hz]
     simp
    rw[this]
    simp
   ·simp only[au]
    exact⟨_,[],rfl,H7▸g1,rfl⟩
   ·have:((z.take j.toNat).flatten).length=j.toNat*w:=by
     rw[aQ (s:=w) _ (fun u hu=>PE u (List.mem_of_mem_take hu)),List.length_take,ph,Nat.min_eq_left aa]
    rw[List.length_append,this]
theorem IA {t:TypeId} {x:Operand} {ti:TI} {l:List SV} {c:SV} (ho:o.op= .load t x) (hx:bp ft x (bG cs)) (ht:aD P t ti) (hs:sub 64 cs 0 ti.size=some l) (ir:ti.size≠0) (hsh:eU ti l=some c):
  bV P o ft fk c [] []:=
 br fun ρ a W hp=>by
  obtain⟨b,z,pre,ex,ty,fz,h1,h2,hv⟩:=vC (hx ρ a hp.dr)
  have h2:=au.mono (nD ρ ρ.cq) _ _ h2
  obtain⟨y,e1,e2,e3⟩:=qk 64 cs 0 ti.size l z hs h2
  have e3:=e3.resolve_left ir
  rw[List.drop_zero]at e2
  have hh:=hp.aY b _ h1
  have hy:y.flatten=((pre++(z.flatten++ex)).drop pre.length).take ti.size:=by
   rw[List.drop_left,e2,List.take_append_of_le_length aa]
  have vq:ti.kind.isAgg=true∨ti.size=1:=by
   cases ha:ti.kind.isAgg with
   |true=>exact .inl rfl
   |false=>
    right
    unfold eU at hsh
    rw[ha]at hsh
    match l,hsh,e1 with
    |[d],hsh,e1=>
     simp only[au]at e1
     obtain⟨u,_,rfl,d1,rfl⟩:=e1
     have hd:d.bf=true:=by
      cases hd:d.bf with
      |true=>rfl
      |false=>simp only at hsh;rw[hd]at hsh;simp at hsh
     have Ru:d.width=1:=by
      cases d<;>simp only[SV.bf,Bool.false_eq_true]at hd<;>simp only[SV.width]
      exact Pred.qi _ hd
     have:=(aK.len d u d1).1
     simp only[List.flatten_cons,List.flatten_nil,List.append_nil]at e2
     have h7:=congrArg List.length e2
     rw[List.length_take]at h7
     omega
    |[],hsh,_=>simp at hsh
    |_::_::_,hsh,_=>simp at hsh
  refine⟨_, ?_,kY hsh e1 rfl⟩
  have hr:=sU ht (P:=P) hh hy (by rw[List.length_append,List.length_append];omega) vq
  simp[execOp,ho,Instr.loadAt,Instr.sureAddr,hv,hr]
theorem MU {ρ:bY} {off n:Nat} {l:List SV} {z:List (List Value)} (h:sub 64 cs off n=some l) (hn:n≠0) (hz:au ρ cs z):∃y pre ex,au ρ l y∧z.flatten=pre++(y.flatten++ex)∧pre.length=off:=by
 obtain⟨y,h1,h2,h3⟩:=qk 64 cs off n l z h hz
 have h3:=h3.resolve_left hn
 refine⟨y,z.flatten.take off,z.flatten.drop (off+n),h1, ?_, ?_⟩
 ·rw[h2,←List.drop_drop,List.take_append_drop,List.take_append_drop]
 ·rw[List.length_take];omega
theorem GC {S:TypeId} {x:Operand} {j off e sz:Nat} {ti:TI} {fs:List (Nat×TypeId×Nat)} {l:List SV} (ho:o.op= .fieldAddr S x j) (hx:bp ft x (bG cs)) (ht:aD P S ti)
  (hk:ti.kind= .agg fs) (hj:fs[j]? =some (off,e,sz)) (ir:sz≠0) (hs:sub 64 cs off sz=some l):bV P o ft fk (bG l) [] []:=
 br fun ρ a w hp=>by
  obtain⟨b,z,pre,ex,ty,fz,h1,h2,hv⟩:=vC (hx ρ a hp.dr)
  obtain⟨y,p2,x2,g1,g2,g3⟩:=MU hs ir h2
  have Bm:=ht.kind
  rw[hk]at Bm
  obtain⟨k1,k2,k3⟩:=Bm
  have hf:∃fd,(P.fieldsOf S)[j]? =some fd∧fd.offset=off∧P.cellsOf fd.type=sz∧(P.info? fd.type).isSome=true:=by
   rw[←k2,List.getElem?_map]at hj
   cases hq:(P.fieldsOf S).toList[j]? with
   |none=>rw[hq]at hj;simp at hj
   |some fd=>
    rw[hq]at hj
    simp only[Option.map_some,Option.some.injEq,Prod.mk.injEq]at hj
    refine⟨fd,by simpa using hq,hj.1,hj.2.2, ?_⟩
    exact List.all_eq_true.1 k3 fd (List.mem_of_getElem? hq)
  obtain⟨fd,f1,f2,f3,f4⟩:=hf
  refine⟨.pointer (some ⟨b,pre.length+off,none⟩), ?_,nP ⟨b,y,pre++p2,x2++ex,ty,fz, ?_,g1,by rw[List.length_append,g3]⟩⟩
  ·simp[execOp,ho,Instr.fieldAt,run_underlying k1,f1,Instr.sureAddr,hv,fieldPlace,nJ f4,f3,f2,ir,nQ]
  ·rw[h1,g2];simp
theorem GD {t e:TypeId} {x:Operand} {lo hi mx:Option Operand} {ti te:TI} {l h:Int} (ho:o.op= .slice t x lo hi mx) (hx:bp ft x (eH w xs))
  (Bo:lo=none∧l=0∨∃y kd,lo=some y∧bp ft y (.val (.int kd l))) (Bp:hi=none∧h=xs.length∨∃y kd,hi=some y∧bp ft y (.val (.int kd h)))
  (hmx:mx=none∨(hi≠none∧∃y kd,mx=some y∧bp ft y (.val (.int kd h))))
  (ht:aD P t ti) (hk:ti.kind= .aN e) (he:aD P e te) (hs:te.size=w) (h0:0≤l) (hlh:l≤h) (hh:h≤(xs.length:Int)):bV P o ft fk (eH w (gv xs l.toNat h.toNat)) [] []:=
 br fun ρ a W hp=>by
  have hu:=ht.kind;rw[hk]at hu
  have key:∀(ad:Option Addr) (m cap:Nat),xs.length=m→m≤cap→a.eval x= .slice ad m cap→
    ∃top,h.toNat≤top∧top≤cap∧(execOp a.eval o).run P W= .ok (.value (.slice (if top=l.toNat then ad else ad.map (·.add (l.toNat*w))) (h.toNat - l.toNat) (top - l.toNat))) W:=by
   intro ad m cap Iv hmc hv
   have H5:∀z:Operand,∀kd bd,bp ft z (.val (.int kd h))→h.toNat≤bd→∀q,(Instr.sliceBound (a.eval z) bd q).run P W= .ok h.toNat W:=by
    intro z kd bd hz Mr q
    have:=aI (hz ρ a hp.dr)
    have hb:0≤h∧h≤(bd:Int):=aa
    simp[Instr.sliceBound,this,asIntOf,hb]
   have MQ:∀z:Operand,∀kd q,bp ft z (.val (.int kd l))→(Instr.sliceBound (a.eval z) h.toNat q).run P W= .ok l.toNat W:=by
    intro z kd q hz
    have:=aI (hz ρ a hp.dr)
    have hb:0≤l∧l≤(h.toNat:Int):=aa
    simp only[Instr.sliceBound,this,asIntOf,Sem.run_bind,Sem.run_pure,Result.andThen_ok,hb,and_self,if_true]
   rcases hmx with rfl|⟨b6,y,ky,rfl,hy⟩
   ·refine⟨cap,aa,Nat.le_refl _, ?_⟩
    have ql:(Instr.sliceBounds true m cap (lo.map a.eval) (hi.map a.eval) none).run P W= .ok (l.toNat,h.toNat,cap) W:=by
     unfold Instr.sliceBounds
     rcases Bp with⟨rfl,rfl⟩|⟨z,kz,rfl,hz⟩<;>rcases Bo with⟨rfl,rfl⟩|⟨y,ky,rfl,hy⟩
     ·simp[Iv]
     ·have:=MQ y ky .sliceB hy;simp at this;rw[Iv]at this;simp[Iv,this]
     ·simp[H5 z kz cap hz aa .sliceAcap]
     ·simp[H5 z kz cap hz aa .sliceAcap,MQ y ky .sliceB hy]
    simp only[execOp,ho,Option.map_none,Instr.sliceAt,Sem.run_bind,run_underlying hu,Result.andThen_ok,Instr.slice,hv,ql,he.sizeOf,hs,Sem.run_pure]
   ·refine⟨h.toNat,Nat.le_refl _,aa, ?_⟩
    have ql:(Instr.sliceBounds true m cap (lo.map a.eval) (hi.map a.eval) (some (a.eval y))).run P W= .ok (l.toNat,h.toNat,h.toNat) W:=by
     unfold Instr.sliceBounds
     rcases Bp with⟨rfl,rfl⟩|⟨z,kz,rfl,hz⟩<;>rcases Bo with⟨rfl,rfl⟩|⟨y',ky',rfl,Dw⟩
     ·exact absurd rfl b6
     ·exact absurd rfl b6
     ·simp[H5 y ky cap hy aa,H5 z kz h.toNat hz (Nat.le_refl _)]
     ·simp[H5 y ky cap hy aa,H5 z kz h.toNat hz (Nat.le_refl _),MQ y' ky' .slice3C Dw]
    simp only[execOp,ho,Option.map_some,Instr.sliceAt,Sem.run_bind,run_underlying hu,Result.andThen_ok,Instr.slice,hv,ql,he.sizeOf,hs,Sem.run_pure]
  rcases ow (hx ρ a hp.dr)with⟨rfl,ad,h4⟩|⟨b,cap,z,pre,ex,ty,fz,h1,h2,h3,h4,h5,h6⟩
  ·obtain⟨top,t1,t2,t3⟩:=key ad 0 0 rfl (Nat.le_refl _) h4
   simp only[List.length_nil]at hh
   have e1:l.toNat=0:=aa
   have e2:h.toNat=0:=aa
   have e3:top=0:=aa
   refine⟨_,t3,uJ (.inl ⟨by simp[gv],ad, ?_⟩)⟩
   simp[e1,e2,e3]
  ·obtain⟨top,t1,t2,t3⟩:=key _ _ cap rfl h4 h6
   have ph:z.length=xs.length:=cR h2
   have PE:=fi xs z h2 h3
   refine⟨_,t3,uJ ?_⟩
   by_cases hc:top=l.toNat
   ·left
    have:h.toNat - l.toNat=0:=aa
    refine⟨by simp[gv,this],some ⟨b,pre.length,none⟩, ?_⟩
    rw[if_pos hc,this,hc,Nat.sub_self]
   ·right
    have Bl:(gv xs l.toNat h.toNat).length=h.toNat - l.toNat:=by rw[gv,List.length_take,List.length_drop];omega
    have hfl:z.flatten=(z.take l.toNat).flatten++((((z.drop l.toNat).take (h.toNat - l.toNat)).flatten)++(z.drop h.toNat).flatten):=by
     rw[←List.flatten_append,←List.flatten_append]
     congr 1
     have:z.drop h.toNat=(z.drop l.toNat).drop (h.toNat - l.toNat):=by rw[List.drop_drop];congr 1;omega
     rw[this,List.take_append_drop,List.take_append_drop]
    have nt:((z.take l.toNat).flatten).length=l.toNat*w:=by
     rw[aQ (s:=w) _ (fun u hu=>PE u (List.mem_of_mem_take hu)),List.length_take,ph,Nat.min_eq_left aa]
    refine⟨b,top - l.toNat,(z.drop l.toNat).take (h.toNat - l.toNat),pre++(z.take l.toNat).flatten,(z.drop h.toNat).flatten++ex,ty,fz, ?_,iy _ (jQ _ h2),fun x hx=>h3 x (List.mem_of_mem_drop (List.mem_of_mem_take hx)),aa, ?_, ?_⟩
    ·rw[h1,hfl];simp
    ·have e1:=congrArg List.length hfl
     rw[List.length_append,nt]at e1
     rw[←List.append_assoc,List.length_append,Nat.sub_mul]
     rw[List.length_append]at h5
     have e2:top*w≤cap*w:=Nat.mul_le_mul_right _ t2
     omega
    ·rw[if_neg hc,Option.map_some,nQ,List.length_append,nt,Bl]
theorem zN {x:Operand} (ho:o.op= .nilCheck x) (hx:bp ft x (bG cs)):bV P o ft fk (bG cs) [] []:=
 br fun ρ a w hp=>by
  have h:=hx ρ a hp.dr
  obtain⟨b,z,pre,ex,ty,fz,h1,h2,hv⟩:=vC h
  exact⟨_,by simp[execOp,ho,hv],hv▸h⟩
theorem MW {x:Operand} {elem:TypeId} {sv:SV} (ho:o.op= .box elem x) (hx:bp ft x sv) (hc:nF sv=some cs) (mF:bn cs=true):
  bV P o ft fk (bG cs) [] []:=
 dc fun ρ a w hp=>by
  obtain⟨z,h1,h2⟩:=lM hc (hx ρ a hp.dr)
  have eD:(a.eval x).cells=z.flatten.toArray:=by rw[←h2]
  have iV:∀o',ρ.aY w.heap.size≠some o':=fun o' Gv=>by have:=hp.aY _ _ Gv;simp at this
  let ob:Obj:=.cells z.flatten.toArray elem (0,0)
  have Bq:∀b o',ρ.aY b=some o'→(fun b=>if b=w.heap.size then some ob else ρ.aY b) b=some o':=fun b o' hb=>by
   show(if b=w.heap.size then some ob else ρ.aY b)=some o'
   by_cases hbw:b=w.heap.size
   ·subst hbw;exact absurd hb (iV o')
   ·rw[if_neg hbw];exact hb
  let ρ':bY:=⟨ρ.key,fun b=>if b=w.heap.size then some ob else ρ.aY b,ρ.cq.mono Bq⟩
  have hle:ρ.Le ρ':=⟨fun k x hx=>hx,Bq⟩
  refine⟨.pointer (some ⟨w.heap.size,0,none⟩),w.alloc ob,ρ', ?_,⟨hle, ?_,fun _ _=>rfl,.fY ((RowKit.Below.refl _ _).alloc (Nat.le_refl _) _),(fun k b h=>by rcases h with h|h<;>cases h),(fun _ _ _ h=>by cases h),(fun k b x h=>by cases h),(fun k b k' b' x x' h=>by cases h), ?_⟩⟩
  ·simp[execOp,ho,Instr.box,newVar,newRow,eD,ob]
  ·refine nP ⟨w.heap.size,z,[],[],elem,(0,0), ?_, ?_,rfl⟩
   ·show(if w.heap.size=w.heap.size then some ob else ρ.aY w.heap.size)=_
    rw[if_pos rfl];simp[ob]
   ·exact ck (ρ:=ρ) (ρ':=cN ρ'.aY ρ'.cq) Bq cs z mF h1
  ·intro b o' hb
   have hb:(if b=w.heap.size then some ob else ρ.aY b)=some o':=hb
   by_cases hbw:b=w.heap.size
   ·subst hbw
    rw[if_pos rfl]at hb
    simp only[Option.some.injEq]at hb
    subst hb
    exact .inr ⟨Nat.le_refl _,heap_alloc_new _ _,fun k blk x h=>by cases h⟩
   ·rw[if_neg hbw]at hb;exact .inl hb
theorem zO {ρ:bY} {w:World} {e:TypeId} {s n:Nat} {l:List SV} {z:List (List Value)} (himm:∀b o,ρ.aY b=some o→w.heap[b]? =some o) (hz:au ρ l z) (mF:bn l=true) (hw:∀x∈l,x.width=s) (hn:l.length=n):
  ∃ρ',jA ρ w (eH s l) [] [] (.slice (some ⟨w.heap.size,0,none⟩) n n) ρ' (w.alloc (.cells z.flatten.toArray e (0,0))):=by
 have iV:∀o',ρ.aY w.heap.size≠some o':=fun o' Gv=>by have:=himm _ _ Gv;simp at this
 let ob:Obj:=.cells z.flatten.toArray e (0,0)
 have Bq:∀b o',ρ.aY b=some o'→(fun b=>if b=w.heap.size then some ob else ρ.aY b) b=some o':=fun b o' hb=>by
  show(if b=w.heap.size then some ob else ρ.aY b)=some o'
  by_cases hbw:b=w.heap.size
  ·subst hbw;exact absurd hb (iV o')
  ·rw[if_neg hbw];exact hb
 let ρ':bY:=⟨ρ.key,fun b=>if b=w.heap.size then some ob else ρ.aY b,ρ.cq.mono Bq⟩
 have hle:ρ.Le ρ':=⟨fun k x hx=>hx,Bq⟩
 have PE:=fi l z hz hw
 refine⟨ρ',⟨hle, ?_,fun _ _=>rfl,.fY ((RowKit.Below.refl _ _).alloc (Nat.le_refl _) _),(fun k b h=>by rcases h with h|h<;>cases h),(fun _ _ _ h=>by cases h),(fun k b x h=>by cases h),(fun k b k' b' x x' h=>by cases h), ?_⟩⟩
 ·subst hn
  refine uJ (.inr ⟨w.heap.size,l.length,z,[],[],e,(0,0), ?_,ck (ρ:=ρ) (ρ':=cN ρ'.aY ρ'.cq) Bq l z mF hz,hw,Nat.le_refl _, ?_,rfl⟩)
  ·show(if w.heap.size=w.heap.size then some ob else ρ.aY w.heap.size)=_
   rw[if_pos rfl];simp[ob]
  ·rw[List.append_nil,aQ _ PE,cR hz];exact Nat.le_refl _
 ·intro b o' hb
  have hb:(if b=w.heap.size then some ob else ρ.aY b)=some o':=hb
  by_cases hbw:b=w.heap.size
  ·subst hbw
   rw[if_pos rfl]at hb
   simp only[Option.some.injEq]at hb
   subst hb
   exact .inr ⟨Nat.le_refl _,heap_alloc_new _ _,fun k blk x h=>by cases h⟩
  ·rw[if_neg hbw]at hb;exact .inl hb
theorem vD {t e:TypeId} {len:Nat} {parts:Array (Nat×Operand)} {ti te:TI} {ps:List (Nat×List SV)} {l:List SV} (ho:o.op= .buildSlice t len parts) (ht:aD P t ti) (hk:ti.kind= .aN e) (he:aD P e te)
  (xF:gn ft parts.toList=some ps) (hb:js 64 (fun i=>some (i*te.size,te.size)) (BK len te.zero) ps=some l) (mF:bn l=true) (H8:pI te.size l=true) (hln:l.length=len) (ir:len*te.size≤16777216):
  bV P o ft fk (eH te.size l) [] []:=
 dc fun ρ a w hp=>by
  obtain⟨i,z,i1,i2,i3,i4,i5,i6,i7,_⟩:=he.info
  have hu:=ht.kind;rw[hk]at hu
  obtain⟨p1,p2⟩:=iA xF ρ a hp.dr
  have yc:=qo (dO (ρ:=ρ) i6) len
  have BL:(madeCells z.cells (len*te.size)).toList=((List.replicate len (te.zero.map fh)).flatten).flatten:=by
   rw[ef z.cells te.size i7 len,i5]
   have:∀n,(List.replicate n (te.zero.flatMap fh)).flatten=((List.replicate n (te.zero.map fh)).flatten).flatten:=by
    intro n
    induction n with
    |zero=>rfl
    |succ n ih=>rw[List.replicate_succ,List.replicate_succ,List.flatten_cons,List.flatten_cons,List.flatten_append,←ih,List.flatMap_def]
   exact this len
  obtain⟨L',z',e1,e2,e3⟩:=lN (ρ:=ρ) ps _ l (parts.toList.map fun p=>(p.1,Act.eval a p.2)) (madeCells z.cells (len*te.size)) _ hb yc BL p1 p2
  have lO:(parts.map fun(i,x)=>(i,Act.eval a x)).toList=parts.toList.map fun p=>(p.1,Act.eval a p.2):=by simp
  have Mq:L'=z'.flatten.toArray:=by rw[←e3]
  obtain⟨ρ',cb⟩:=zO (e:=e) hp.aY e2 mF (jR H8) hln
  refine⟨_,_,ρ', ?_,cb⟩
  have Iy:¬len*te.size>16777216:=aa
  by_cases h0:len*te.size=0
  ·have hm:(Array.range 0).map (fun x=>(#[]:Array Value)[x % (#[]:Array Value).size]!)=madeCells z.cells (len*te.size):=by simp[h0,madeCells]
   simp only[execOp,ho,Instr.buildSlice,Sem.run_bind,run_underlying hu,Result.andThen_ok,he.sizeOf,h0,lO]
   rw[h0]at hm
   simp only[Nat.reducePow,Nat.not_lt_zero,gt_iff_lt,if_false,if_true,Sem.run_bind,Sem.run_pure,Result.andThen_ok,hm]
   rw[h0]at e1
   simp only[e1,Sem.run_bind,newRow,run_newObj,Sem.run_pure,Result.andThen_ok,Mq,World.alloc_eq]
  ·have hm:(Array.range (len*te.size)).map (fun x=>z.cells[x % z.cells.size]!)=madeCells z.cells (len*te.size):=rfl
   have zH:(Go.zeroValue e).run P w= .ok z w:=by simp[Go.zeroValue,typeInfo,i1,i4]
   simp only[execOp,ho,Instr.buildSlice,Sem.run_bind,run_underlying hu,Result.andThen_ok,he.sizeOf,h0,lO,Nat.reducePow,Iy,if_false,zH,Sem.run_pure,hm,e1,newRow,run_newObj,Mq,World.alloc_eq]
def ZD (x:Nat):List Nat→Bool
 |[]=>false
 |y::r=>Nat.beq x y||ZD x r
end
end Go.Sx
namespace Go.Sx
def pick (fr:List (Nat×SV)):List Nat→List (Nat×SV)
 |[]=>[]
 |t::r=>match lk fr t with
  |some s=>(t,s)::pick fr r
  |none=>pick fr r
theorem lQ {fr:List (Nat×SV)}:∀{ts:List Nat} {t:Nat} {s:SV},(t,s)∈pick fr ts→lk fr t=some s∧t∈ts
 |u::r,t,s,h=>by
  unfold pick at h
  split at h
  ·rename_i s' hs
   rcases List.mem_cons.1 h with h|h
   ·cases h;exact⟨hs,List.mem_cons_self ..⟩
   ·exact⟨(lQ h).1,List.mem_cons_of_mem _ (lQ h).2⟩
  ·exact⟨(lQ h).1,List.mem_cons_of_mem _ (lQ h).2⟩
def tmpsOf:List Operand→List Nat
 |[]=>[]
 |.tmp t::r=>t::tmpsOf r
 |_::r=>tmpsOf r
def looks (o:Oper):List Nat:=tmpsOf o.op.operands.toList
def bound (fr:List (Nat×SV)) (dflt:Option Int):Option Operand→Option Int
 |none=>dflt
 |some x=>match ev fr x with
  |some (.val (.int _ j))=>some j
  |_=>none
theorem fo {fr:List (Nat×SV)} {d:Int} {x:Option Operand} {j:Int} (h:bound fr (some d) x=some j):x=none∧j=d∨∃y kd,x=some y∧bp fr y (.val (.int kd j)):=by
 unfold bound at h
 split at h
 ·simp only[Option.some.injEq]at h;exact .inl ⟨rfl,h.symm⟩
 ·split at h
  ·rename_i y _ kd j' hy
   simp only[Option.some.injEq]at h
   subst h
   exact .inr ⟨y,kd,rfl,aj hy⟩
  ·simp at h
def Good (P:Program) (fr:List (Nat×SV)) (hp:List (Nat×aC)) (o:Oper) (k:SV→List (Nat×aC)→List (Nat×aC)→List (Nat×aC)→Prop):Prop:=
 ∃c fk new upd,bV P o fr fk c new upd∧(∀j b,(j,b)∈fk→find hp j=some b)∧(∀j b,(j,b)∈new→find hp j=none)∧(∀j b,(j,b)∈upd→∃b0,(j,b0)∈fk∧b0.wr=true∧b0.data.live=true∧b.wr=true)∧k c fk new upd
def Z7 (o:Oper) (Z:List Nat):Bool:=match o.dst with
 |some d=>ZD (700000+d) Z
 |none=>false
def exec (P:Program) (T:List (TypeId×TI)) (Z:List Nat) (fr:List (Nat×SV)) (hp:List (Nat×aC)) (o:Oper) (k:SV→List (Nat×aC)→List (Nat×aC)→List (Nat×aC)→Prop):Prop:=
 match o.op with
 |.move x=>match ev fr x with
  |some c=>k c [] [] []
  |none=>Good P fr hp o k
 |.assign x=>match ev fr x with
  |some c=>k c [] [] []
  |none=>Good P fr hp o k
 |.box e x=>match o.dst,ev fr x with
  |some d,some sv=>match nF sv,find hp d with
   |some cs,none=>match ZD d Z with
    |false=>k (.ptr d 0 0 0) [] [(d,⟨e,true,.one cs⟩)] []
    |true=>match bn cs with
     |true=>k (bG cs) [] [] []
     |false=>Good P fr hp o k
   |_,_=>Good P fr hp o k
  |_,_=>Good P fr hp o k
 |.alloc e=>match o.dst,dz T e with
  |some d,some ti=>match find hp d with
   |none=>k (.ptr d 0 0 0) [] [(d,⟨e,true,.one ti.zero⟩)] []
   |some _=>Good P fr hp o k
  |_,_=>Good P fr hp o k
 |.load t x=>match Z7 o Z with
  |true=>Good P fr hp o k
  |false=>match ev fr x,dz T t with
  |some (.ptr key s i r),some ti=>match find hp key with
   |some blk=>match elem blk.data s i with
    |some (ob,cs)=>match sub 64 cs r ti.size,ti.size with
     |some l,_+1=>match eU ti l with
      |some c=>Rt ob <| k c [(key,blk)] [] []
      |none=>Good P fr hp o k
     |_,_=>Good P fr hp o k
    |none=>Good P fr hp o k
   |none=>Good P fr hp o k
  |some (.val _),_=>∃c fk new,bV P o fr fk c new []∧(∀j b,(j,b)∈fk→find hp j=some b)∧(∀j b,(j,b)∈new→find hp j=none)∧k c fk new []
  |_,_=>Good P fr hp o k
 |.store t x y=>match ev fr x,ev fr y,dz T t with
  |some (.ptr key s i r),some sv,some ti=>match find hp key,nF sv with
   |some ⟨ty,true,d⟩,some nw=>match elem d s i with
    |some (ob,cs)=>match Nat.beq (SV.dn nw) ti.size,Nat.ble (r+ti.size) (SV.dn cs)with
     |true,true=>match put 64 cs r ti.size nw with
      |some cs'=>match jB d i cs' with
       |some d'=>Rt ob <| k .any [(key,⟨ty,true,d⟩)] [] [(key,⟨ty,true,d'⟩)]
       |none=>Good P fr hp o k
      |none=>Good P fr hp o k
     |_,_=>Good P fr hp o k
    |none=>Good P fr hp o k
   |_,_=>Good P fr hp o k
  |_,_,_=>Good P fr hp o k
 |.fieldAddr s x j=>match ev fr x,dz T s with
  |some (.ptr key sz i r),some ⟨.agg fs,_,_,_⟩=>match fs[j]? with
   |some (off,_,_+1)=>k (.ptr key sz i (r+off)) [] [] []
   |_=>Good P fr hp o k
  |_,_=>Good P fr hp o k
 |.extract x ix=>match ev fr x with
  |some (.ct l)=>match l[ix]? with
   |some c=>match (c.bf||(nF c).isSome)with
    |true=>k c [] [] []
    |false=>Good P fr hp o k
   |none=>Good P fr hp o k
  |_=>Good P fr hp o k
 |.binOp op xt x y _=>match ev fr x,ev fr y with
  |some (.val (.int k1 a)),some (.val (.int k2 b))=>match op with
   |.shl=>0≤b∧k (.val (.int k1 (jC k1 a b))) [] [] []
   |.shr=>0≤b∧k (.val (.int k1 (jD k1 a b))) [] [] []
   |op=>if k1=k2 then match MJ op k1 a b with
    |some (ob,v)=>Rt ob <| k (.val v) [] [] []
    |none=>Good P fr hp o k
    else Good P fr hp o k
  |some (.val (.bool a)),some (.val (.bool b))=>match dz T xt with
   |some ⟨.bool,_,_,_⟩=>match op with
    |.eql=>k (.val (.bool (a==b))) [] [] []
    |.neq=>k (.val (.bool (a != b))) [] [] []
    |_=>Good P fr hp o k
   |_=>Good P fr hp o k
  |some (.val (.string a)),some (.val (.string b))=>match ML op a b with
   |some (ob,v)=>Rt ob <| k (.val v) [] [] []
   |none=>Good P fr hp o k
  |some _,some _=>∃v,bV P o fr [] (.val v) [] []∧k (.val v) [] [] []
  |_,_=>Good P fr hp o k
 |.unOp op _ x=>match op,ev fr x with
  |.not,some (.val (.bool a))=>k (.val (.bool (!a))) [] [] []
  |.neg,some (.val (.int kd a))=>k (.val (.int kd (kd.wrap (0 - a)))) [] [] []
  |.xor,some (.val (.int kd a))=>k (.val (.int kd (xK kd (if kd.signed=true then -1 else kd.max) a))) [] [] []
  |_,_=>Good P fr hp o k
 |.convert s d x=>match ev fr x,dz T s,dz T d with
  |some (.val (.int k2 a)),some ⟨.int k1,_,_,_⟩,some ⟨.int kd,_,_,_⟩=>if k1=k2 then k (.val (.int kd (kd.wrap a))) [] [] []else Good P fr hp o k
  |_,_,_=>∃c fk new,bV P o fr fk c new []∧(∀j b,(j,b)∈fk→find hp j=some b)∧(∀j b,(j,b)∈new→find hp j=none)∧k c fk new []
 |.nilCheck x=>match ev fr x with
  |some (.ptr key s i r)=>k (.ptr key s i r) [] [] []
  |some (.clo f a b)=>k (.clo f a b) [] [] []
  |_=>Good P fr hp o k
 |.indexAddr t x ix=>match ev fr x,ev fr ix,dz T t with
  |some (.aN key s i n),some (.val (.int _ j)),some ⟨.aN e,_,_,_⟩=>match dz T e with
   |some te=>match Nat.beq te.size s with
    |true=>(0≤j∧j<(n:Int))∧k (.ptr key s (i+j.toNat) 0) [] [] []
    |false=>Good P fr hp o k
   |none=>Good P fr hp o k
  |some (.ptr key s i r),some (.val (.int _ j)),some ⟨.arr n e,_,_,_⟩=>match dz T e with
   |some te=>(0≤j∧j<(n:Int))∧k (.ptr key s i (r+j.toNat*te.size)) [] [] []
   |none=>Good P fr hp o k
  |some (.val _),_,_=>∃c fk new,bV P o fr fk c new []∧(∀j b,(j,b)∈fk→find hp j=some b)∧(∀j b,(j,b)∈new→find hp j=none)∧k c fk new []
  |_,_,_=>Good P fr hp o k
 |.index t x ix=>match ev fr x,ev fr ix,dz T t with
  |some (.val (.string s)),some (.val (.int _ j)),some ⟨.str,_,_,_⟩=>(0≤j∧j<(s.size:Int))∧k (.val (.int .u8 (((s.data.getD j.toNat 0).toNat:Nat):Int))) [] [] []
  |_,_,_=>∃c fk new,bV P o fr fk c new []∧(∀j b,(j,b)∈fk→find hp j=some b)∧(∀j b,(j,b)∈new→find hp j=none)∧k c fk new []
 |.slice t x lo hi none=>match bound fr (some 0) lo,ev fr x,dz T t with
  |some l,some (.aN key s i n),some ⟨.aN e,_,_,_⟩=>match bound fr (some (n:Int)) hi,dz T e with
   |some h,some te=>match Nat.beq te.size s with
    |true=>(0≤l∧l≤h∧h≤(n:Int))∧k (.aN key s (i+l.toNat) (h - l).toNat) [] [] []
    |false=>Good P fr hp o k
   |_,_=>Good P fr hp o k
  |some l,some (.val (.string s)),some ⟨.str,_,_,_⟩=>match bound fr (some (s.size:Int)) hi with
   |some h=>(0≤l∧l≤h∧h≤(s.size:Int))∧k (.val (.string (s.extract l.toNat h.toNat))) [] [] []
   |none=>Good P fr hp o k
  |_,_,_=>Good P fr hp o k
 |.makeSlice t x y=>match o.dst,ev fr x,ev fr y,dz T t with
  |some d,some (.val (.int _ l)),some (.val (.int _ c)),some ⟨.aN e,_,_,_⟩=>match dz T e,find hp d with
   |some te,none=>match vt te with
    |true=>(0≤l∧l≤c∧(te.bytes:Int)*c≤281474976710656∧c≤9223372036854775807)∧k (.aN d te.size 0 l.toNat) [] [(d,⟨e,true,qm te l.toNat⟩)] []
    |false=>Good P fr hp o k
   |_,_=>Good P fr hp o k
  |_,_,_,_=>Good P fr hp o k
 |.buildSlice t len parts=>match o.dst,gn fr parts.toList,dz T t with
  |some d,some ps,some ⟨.aN e,_,_,_⟩=>match dz T e,find hp d with
   |some te,none=>match js 64 (fun i=>some (i*te.size,te.size)) (BK len te.zero) ps with
    |some l=>match ZD d Z with
     |false=>match zI te l,Nat.beq l.length len,Nat.ble (len*te.size) 16777216 with
      |some dt,true,true=>k (.aN d te.size 0 len) [] [(d,⟨e,true,dt⟩)] []
      |_,_,_=>Good P fr hp o k
     |true=>match bn l&&pI te.size l,Nat.beq l.length len,Nat.ble (len*te.size) 16777216 with
      |true,true,true=>k (eH te.size l) [] [] []
      |_,_,_=>Good P fr hp o k
    |none=>Good P fr hp o k
   |_,_=>Good P fr hp o k
  |_,_,_=>Good P fr hp o k
 |.build t parts=>match dz T t,gn fr parts.toList with
  |some ⟨.agg fs,sz,by',z⟩,some ps=>match js 64 (placesOf fs) z ps with
   |some l=>match eU ⟨.agg fs,sz,by',z⟩ l with
    |some c=>k c [] [] []
    |none=>Good P fr hp o k
   |none=>Good P fr hp o k
  |some ⟨.arr n e,sz,by',z⟩,some ps=>match dz T e with
   |some te=>match js 64 (fun i=>some (i*te.size,te.size)) z ps with
    |some l=>match eU ⟨.arr n e,sz,by',z⟩ l with
     |some c=>k c [] [] []
     |none=>Good P fr hp o k
    |none=>Good P fr hp o k
   |none=>Good P fr hp o k
  |_,_=>Good P fr hp o k
 |.call ⟨.builtin b,xs,ts⟩=>match b,xs.toList,ts.toList with
  |.len,[x],[t]=>match ev fr x,dz T t with
   |some (.val (.string s)),some ⟨.str,_,_,_⟩=>k (.val (.int .i64 (s.size:Int))) [] [] []
   |some (.aN _ _ _ n),some ⟨.aN _,_,_,_⟩=>k (.val (.int .i64 (n:Int))) [] [] []
   |some (.val (.slice _ n _)),some ⟨.aN _,_,_,_⟩=>k (.val (.int .i64 (n:Int))) [] [] []
   |_,_=>Good P fr hp o k
  |.min,[x,y],_=>match ev fr x,ev fr y with
   |some (.val (.int k1 a)),some (.val (.int _ b))=>k (.val (.int k1 (if b<a then b else a))) [] [] []
   |_,_=>Good P fr hp o k
  |.max,[x,y],_=>match ev fr x,ev fr y with
   |some (.val (.int k1 a)),some (.val (.int _ b))=>k (.val (.int k1 (if b>a then b else a))) [] [] []
   |_,_=>Good P fr hp o k
  |.append,[x,y],[t,t2]=>match o.dst,ev fr x,ev fr y,dz T t,dz T t2 with
   |some kn,some (.aN k1 s 0 n),some (.aN k2 s2 i2 m),some ⟨.aN e,_,_,_⟩,some ⟨.aN e2,_,_,_⟩=>match Nat.beq e2 e,dz T e,find hp k1,find hp k2,find hp kn with
    |true,some te,some ⟨ty,true,d⟩,some blk2,none=>match Nat.beq ty e&&(Nat.beq s te.size&&Nat.beq s2 te.size),db d,db blk2.data,pj d n blk2.data i2 m with
     |true,some wd,some wd2,some d'=>match Nat.beq wd te.size&&Nat.beq wd2 te.size with
      |true=>(n≤eR d∧i2+m≤eR blk2.data∧(n+m)*te.bytes≤140737488355328∧n+m≤9223372036854775807)∧k (.aN kn te.size 0 (n+m)) [(k1,⟨ty,true,d⟩),(k2,blk2)] [(kn,⟨e,true,d'⟩)] [(k1,⟨e,true,.dead⟩)]
      |false=>Good P fr hp o k
     |_,_,_,_=>Good P fr hp o k
    |_,_,_,_,_=>Good P fr hp o k
   |some kn,some (.val (.slice none 0 0)),some (.aN k2 s2 i2 m),some ⟨.aN e,_,_,_⟩,some ⟨.aN e2,_,_,_⟩=>match Nat.beq e2 e,dz T e,find hp k2,find hp kn with
    |true,some te,some blk2,none=>match Nat.beq s2 te.size,db blk2.data,pj blk2.data 0 blk2.data i2 m with
     |true,some wd2,some d'=>match Nat.beq wd2 te.size with
      |true=>(i2+m≤eR blk2.data∧m*te.bytes≤140737488355328∧m≤9223372036854775807)∧k (.aN kn te.size 0 m) [(k2,blk2)] [(kn,⟨e,true,d'⟩)] []
      |false=>Good P fr hp o k
     |_,_,_=>Good P fr hp o k
    |_,_,_,_=>Good P fr hp o k
   |_,_,_,_,_=>Good P fr hp o k
  |_,_,_=>∃c fk new upd,bV P o fr fk c new upd∧(∀j b,(j,b)∈fk→find hp j=some b)∧(∀j b,(j,b)∈new→find hp j=none)∧(∀j b,(j,b)∈upd→∃b0,(j,b0)∈fk∧b0.wr=true∧b0.data.live=true∧b.wr=true)∧k c fk new upd
 |.call ⟨.value x,xs,_⟩=>match ev fr x with
  |some (.clo f first cap)=>match Is fr xs.toList with
   |some args=>∃fk c new upd,ab P f (first++(args++cap)) fk c new upd∧(∀j b,(j,b)∈fk→find hp j=some b)∧(∀j b,(j,b)∈new→find hp j=none)∧(∀j b,(j,b)∈upd→∃b0,(j,b0)∈fk∧b0.wr=true∧b0.data.live=true∧b.wr=true)∧k c fk new upd
   |none=>Good P fr hp o k
  |some (.yld l rc us cap)=>match Is fr xs.toList with
   |some args=>∃fk c new upd,PC P l rc us cap args fk c new upd∧(∀j b,(j,b)∈fk→find hp j=some b)∧(∀j b,(j,b)∈new→find hp j=none)∧(∀j b,(j,b)∈upd→∃b0,(j,b0)∈fk∧b0.wr=true∧b0.data.live=true∧b.wr=true)∧k c fk new upd
   |none=>Good P fr hp o k
  |_=>Good P fr hp o k
 |_=>∃c fk new upd,bV P o fr fk c new upd∧(∀j b,(j,b)∈fk→find hp j=some b)∧(∀j b,(j,b)∈new→find hp j=none)∧(∀j b,(j,b)∈upd→∃b0,(j,b0)∈fk∧b0.wr=true∧b0.data.live=true∧b.wr=true)∧k c fk new upd
theorem aJ {hp:List (Nat×aC)}:∀j b,(j,b)∈([]:List (Nat×aC))→find hp j=some b:=fun _ _ h=>by cases h
theorem ar {hp:List (Nat×aC)}:∀j b,(j,b)∈([]:List (Nat×aC))→find hp j=none:=fun _ _ h=>by cases h
theorem an {fk:List (Nat×aC)}:∀j b,(j,b)∈([]:List (Nat×aC))→∃b0:aC,(j,b0)∈fk∧b0.wr=true∧b0.data.live=true∧b.wr=true:=fun _ _ h=>by cases h
theorem dv {hp:List (Nat×aC)} {k:Nat} {b:aC} (h:find hp k=some b):∀j c,(j,c)∈[(k,b)]→find hp j=some c:=fun j c hm=>by
 simp only[List.mem_singleton,Prod.mk.injEq]at hm
 obtain⟨rfl,rfl⟩:=hm;exact h
theorem cV {hp:List (Nat×aC)} {k:Nat} {b:aC} (h:find hp k=none):∀j c,(j,c)∈[(k,b)]→find hp j=none:=fun j c hm=>by
 simp only[List.mem_singleton,Prod.mk.injEq]at hm
 obtain⟨rfl,rfl⟩:=hm;exact h
theorem yf {P:Program} {T:List (TypeId×TI)} {Z:List Nat} (hT:gQ P T) {fr:List (Nat×SV)} {hp:List (Nat×aC)} {o:Oper} {k:SV→List (Nat×aC)→List (Nat×aC)→List (Nat×aC)→Prop}
  (h:exec P T Z fr hp o k):Good P fr hp o k:=by
 unfold exec at h
 split at h
 case h_1 x ho=>
  split at h
  ·rename_i c hc
   exact⟨c,[],[],[],E0 (.inl ho) (aj hc),aJ,ar,an,h⟩
  ·exact h
 case h_2 x ho=>
  split at h
  ·rename_i c hc
   exact⟨c,[],[],[],E0 (.inr ho) (aj hc),aJ,ar,an,h⟩
  ·exact h
 case h_3 e x ho=>
  split at h
  ·rename_i d sv hd hsv
   split at h
   ·rename_i cs Dm hf
    split at h
    ·exact⟨_,[],_,[],Rs ho (aj hsv) Dm,aJ,cV hf,an,h⟩
    ·split at h
     ·rename_i mF
      exact⟨_,[],[],[],MW ho (aj hsv) Dm mF,aJ,ar,an,h⟩
     ·exact h
   ·exact h
  ·exact h
 case h_4 e ho=>
  split at h
  ·rename_i d ti hd qu
   split at h
   ·rename_i hf
    exact⟨_,[],_,[],Ir ho (hT.get qu),aJ,cV hf,an,h⟩
   ·exact h
  ·exact h
 case h_5 t x ho=>
  split at h
  ·exact h
  split at h
  ·rename_i key s i r ti hx qu
   split at h
   ·rename_i blk gw
    split at h
    ·rename_i ob cs he
     split at h
     ·rename_i l _ hs ir
      split at h
      ·rename_i c hc
       exact⟨c,_,[],[],E2 ho (aj hx) (hT.get qu) (List.mem_cons_self ..) he (cl h).1 hs aa hc,dv gw,ar,an,(cl h).2⟩
      ·exact h
     ·exact h
    ·exact h
   ·exact h
  ·obtain⟨c,fk,new,h1,h2,h3,h4⟩:=h
   exact⟨c,fk,new,[],h1,h2,h3,an,h4⟩
  ·exact h
 case h_6 t x y ho=>
  split at h
  ·rename_i key s i r sv ti hx hy qu
   split at h
   ·rename_i ty d nw gw hnw
    split at h
    ·rename_i ob cs he
     split at h
     ·rename_i hw hle
      split at h
      ·rename_i cs' cd
       split at h
       ·rename_i d' Io
        refine⟨.any,_,[],_,BA ho (aj hx) (aj hy) (hT.get qu) (List.mem_cons_self ..) he (cl h).1 hnw (Nat.eq_of_beq_eq_true hw) (Nat.le_of_ble_eq_true hle) cd Io,dv gw,ar, ?_,(cl h).2⟩
        intro j b hm
        simp only[List.mem_singleton,Prod.mk.injEq]at hm
        obtain⟨rfl,rfl⟩:=hm
        exact⟨_,List.mem_cons_self ..,rfl,Gx he,rfl⟩
       ·exact h
      ·exact h
     ·exact h
    ·exact h
   ·exact h
  ·exact h
 case h_7 s x j ho=>
  split at h
  ·rename_i key sz i r fs _ _ _ hx qu
   split at h
   ·rename_i off e _ hj
    exact⟨_,[],[],[],zu ho (aj hx) (hT.get qu) rfl hj aa,aJ,ar,an,h⟩
   ·exact h
  ·exact h
 case h_8 x ix ho=>
  split at h
  ·rename_i l hx
   split at h
   ·rename_i c hc
    split at h
    ·rename_i hb
     refine⟨c,[],[],[],Dq ho (aj hx) hc ?_,aJ,ar,an,h⟩
     simpa using hb
    ·exact h
   ·exact h
  ·exact h
 case h_9 op xt x y yt ho=>
  split at h
  ·rename_i k1 a k2 b hx hy
   split at h
   ·exact⟨_,[],[],[],Rv ho (aj hx) (aj hy) h.1,aJ,ar,an,h.2⟩
   ·exact⟨_,[],[],[],Rw ho (aj hx) (aj hy) h.1,aJ,ar,an,h.2⟩
   ·split at h
    ·rename_i hk
     subst hk
     split at h
     ·rename_i ob v hv
      exact⟨_,[],[],[],MK ho (aj hx) (aj hy) hv (cl h).1,aJ,ar,an,(cl h).2⟩
     ·exact h
    ·exact h
  ·rename_i a b hx hy
   split at h
   ·rename_i qu
    split at h
    ·exact⟨_,[],[],[],Rx ho (aj hx) (aj hy) (hT.get qu) rfl,aJ,ar,an,h⟩
    ·exact⟨_,[],[],[],Ry ho (aj hx) (aj hy) (hT.get qu) rfl,aJ,ar,an,h⟩
    ·exact h
   ·exact h
  ·rename_i a b hx hy
   split at h
   ·rename_i ob v hv
    exact⟨_,[],[],[],MN ho (aj hx) (aj hy) hv (cl h).1,aJ,ar,an,(cl h).2⟩
   ·exact h
  ·obtain⟨v,h1,h2⟩:=h
   exact⟨_,[],[],[],h1,aJ,ar,an,h2⟩
  ·exact h
 case h_10 op xt x ho=>
  split at h
  ·rename_i a hx
   exact⟨_,[],[],[],Rz ho (aj hx),aJ,ar,an,h⟩
  ·rename_i kd a hx
   exact⟨_,[],[],[],RA ho (aj hx),aJ,ar,an,h⟩
  ·rename_i kd a hx
   exact⟨_,[],[],[],RB ho (aj hx),aJ,ar,an,h⟩
  ·exact h
 case h_11 s d x ho=>
  split at h
  ·rename_i k2 a k1 _ _ _ kd _ _ _ hx hs hd
   split at h
   ·rename_i hk
    subst hk
    exact⟨_,[],[],[],MO ho (aj hx) (hT.get hs) (hT.get hd) rfl rfl,aJ,ar,an,h⟩
   ·exact h
  ·obtain⟨c,fk,new,h1,h2,h3,h4⟩:=h
   exact⟨c,fk,new,[],h1,h2,h3,an,h4⟩
 case h_12 x ho=>
  split at h
  ·rename_i key s i r hx
   exact⟨_,[],[],[],BD ho (aj hx),aJ,ar,an,h⟩
  ·rename_i f a b hx
   exact⟨_,[],[],[],zF ho (aj hx),aJ,ar,an,h⟩
  ·exact h
 case h_13 t x ix ho=>
  split at h
  ·rename_i key s i n kd j e _ _ _ hx hi ht
   split at h
   ·rename_i te hte
    split at h
    ·rename_i hs
     exact⟨_,[],[],[],zG ho (aj hx) (aj hi) (hT.get ht) rfl (hT.get hte) (Nat.eq_of_beq_eq_true hs) h.1.1 h.1.2,aJ,ar,an,h.2⟩
    ·exact h
   ·exact h
  ·rename_i key s i r kd j n e _ _ _ hx hi ht
   split at h
   ·rename_i te hte
    exact⟨_,[],[],[],BE ho (aj hx) (aj hi) (hT.get ht) rfl (hT.get hte) h.1.1 h.1.2,aJ,ar,an,h.2⟩
   ·exact h
  ·obtain⟨c,fk,new,h1,h2,h3,h4⟩:=h
   exact⟨c,fk,new,[],h1,h2,h3,an,h4⟩
  ·exact h
 case h_14 t x ix ho=>
  split at h
  ·rename_i s kd j _ _ _ hx hi ht
   exact⟨_,[],[],[],BF ho (aj hx) (aj hi) (hT.get ht) rfl h.1.1 h.1.2,aJ,ar,an,h.2⟩
  ·obtain⟨c,fk,new,h1,h2,h3,h4⟩:=h
   exact⟨c,fk,new,[],h1,h2,h3,an,h4⟩
 case h_15 t x lo hi ho=>
  split at h
  ·rename_i l key s i n e _ _ _ hl hx ht
   split at h
   ·rename_i h' te hh hte
    split at h
    ·rename_i hs
     exact⟨_,[],[],[],Iu ho (aj hx) (fo hl) (fo hh) (hT.get ht) rfl (hT.get hte) (Nat.eq_of_beq_eq_true hs) h.1.1 h.1.2.1 h.1.2.2,aJ,ar,an,h.2⟩
    ·exact h
   ·exact h
  ·rename_i l s _ _ _ hl hx ht
   split at h
   ·rename_i h' hh
    exact⟨_,[],[],[],BG ho (aj hx) (fo hl) (fo hh) (hT.get ht) rfl h.1.1 h.1.2.1 h.1.2.2,aJ,ar,an,h.2⟩
   ·exact h
  ·exact h
 case h_16 t x y ho=>
  split at h
  ·rename_i d kl l kc c e _ _ _ hd hx hy ht
   split at h
   ·rename_i te hte hf
    split at h
    ·rename_i hz
     exact⟨_,[],_,[],MR ho (aj hx) (aj hy) (hT.get ht) rfl (hT.get hte) hz h.1.1 h.1.2.1 h.1.2.2.1 h.1.2.2.2,aJ,cV hf,an,h.2⟩
    ·exact h
   ·exact h
  ·exact h
 case h_17 t len parts ho=>
  split at h
  ·rename_i d ps e _ _ _ hd xF ht
   split at h
   ·rename_i te hte hf
    split at h
    ·rename_i l hb
     split at h
     ·split at h
      ·rename_i dt hdt hlen ir
       exact⟨_,[],_,[],xL ho (hT.get ht) rfl (hT.get hte) xF hb hdt (Nat.eq_of_beq_eq_true hlen) (Nat.le_of_ble_eq_true ir),aJ,cV hf,an,h⟩
      ·exact h
     ·split at h
      ·rename_i mF hlen ir
       rw[Bool.and_eq_true]at mF
       exact⟨_,[],[],[],vD ho (hT.get ht) rfl (hT.get hte) xF hb mF.1 mF.2 (Nat.eq_of_beq_eq_true hlen) (Nat.le_of_ble_eq_true ir),aJ,ar,an,h⟩
      ·exact h
    ·exact h
   ·exact h
  ·exact h
 case h_18 t parts ho=>
  split at h
  ·rename_i fs sz by' z ps ht xF
   split at h
   ·rename_i l hb
    split at h
    ·rename_i c hc
     exact⟨_,[],[],[],Ix ho (hT.get ht) rfl xF hb hc,aJ,ar,an,h⟩
    ·exact h
   ·exact h
  ·rename_i n e sz by' z ps ht xF
   split at h
   ·rename_i te hte
    split at h
    ·rename_i l hb
     split at h
     ·rename_i c hc
      exact⟨_,[],[],[],BI ho (hT.get ht) rfl (hT.get hte) xF hb hc,aJ,ar,an,h⟩
     ·exact h
    ·exact h
   ·exact h
  ·exact h
 case h_19 b xs ts ho=>
  split at h
  ·rename_i x t hxs jx
   have xO:xs= #[x]:=by apply Array.ext';simpa using hxs
   have GF:ts= #[t]:=by apply Array.ext';simpa using jx
   split at h
   ·rename_i s _ _ _ hx ht
    exact⟨_,[],[],[],Du ho xO GF (aj hx) rfl (hT.get ht) (.inl ⟨rfl,s,rfl⟩),aJ,ar,an,h⟩
   ·rename_i n e _ _ _ hx ht
    exact⟨_,[],[],[],Du ho xO GF (aj hx) rfl (hT.get ht) (.inr ⟨⟨e,rfl⟩,fun s hs=>by cases hs⟩),aJ,ar,an,h⟩
   ·rename_i n _ e _ _ _ hx ht
    exact⟨_,[],[],[],Du ho xO GF (aj hx) rfl (hT.get ht) (.inr ⟨⟨e,rfl⟩,fun s hs=>by cases hs⟩),aJ,ar,an,h⟩
   ·exact h
  ·rename_i x y hxs
   have xO:xs= #[x,y]:=by apply Array.ext';simpa using hxs
   split at h
   ·rename_i k1 a k2 b hx hy
    exact⟨_,[],[],[],RC ho xO (aj hx) (aj hy),aJ,ar,an,h⟩
   ·exact h
  ·rename_i x y hxs
   have xO:xs= #[x,y]:=by apply Array.ext';simpa using hxs
   split at h
   ·rename_i k1 a k2 b hx hy
    exact⟨_,[],[],[],RD ho xO (aj hx) (aj hy),aJ,ar,an,h⟩
   ·exact h
  ·rename_i x y t t2 hxs jx
   have xO:xs= #[x,y]:=by apply Array.ext';simpa using hxs
   have GF:ts= #[t,t2]:=by apply Array.ext';simpa using jx
   split at h
   ·rename_i kn k1 s n k2 s2 i2 m e _ _ _ e2 _ _ _ hd hx hy ht Dk
    split at h
    ·rename_i te ty d blk2 he2 hte hb1 hb2 hbn
     split at h
     ·rename_i wd wd2 d' hc Ru mz happ
      split at h
      ·rename_i hww
       simp only[Bool.and_eq_true,Nat.beq_eq]at hc hww
       obtain⟨rfl,rfl,rfl⟩:=hc
       obtain⟨rfl,rfl⟩:=hww
       have RK:=Nat.eq_of_beq_eq_true he2
       subst RK
       have gp:d.live=true:=by cases d<;>simp[db]at Ru<;>rfl
       have iM:blk2.data.live=true:=by cases hq:blk2.data<;>rw[hq]at mz<;>simp[db]at mz<;>rfl
       refine⟨_,_,_,_,Gy ho xO GF (aj hx) (aj hy) (hT.get ht) rfl (hT.get Dk) rfl (hT.get hte) (List.mem_cons_self ..) (List.mem_cons_of_mem _ (List.mem_cons_self ..)) gp iM Ru mz h.1.1 h.1.2.1 happ h.1.2.2.1 h.1.2.2.2, ?_,cV hbn, ?_,h.2⟩
       ·intro j b hm
        simp only[List.mem_cons,Prod.mk.injEq,List.not_mem_nil,or_false]at hm
        rcases hm with⟨rfl,rfl⟩|⟨rfl,rfl⟩
        ·exact hb1
        ·exact hb2
       ·intro j b hm
        simp only[List.mem_singleton,Prod.mk.injEq]at hm
        obtain⟨rfl,rfl⟩:=hm
        exact⟨_,List.mem_cons_self ..,rfl,gp,rfl⟩
      ·exact h
     ·exact h
    ·exact h
   ·rename_i kn k2 s2 i2 m e _ _ _ e2 _ _ _ hd hx hy ht Dk
    split at h
    ·rename_i te blk2 he2 hte hb2 hbn
     split at h
     ·rename_i wd2 d' hc mz happ
      split at h
      ·rename_i hww
       have nx:=Nat.eq_of_beq_eq_true hc
       subst nx
       have ad2:=Nat.eq_of_beq_eq_true hww
       subst ad2
       have RK:=Nat.eq_of_beq_eq_true he2
       subst RK
       have iM:blk2.data.live=true:=by cases hq:blk2.data<;>rw[hq]at mz<;>simp[db]at mz<;>rfl
       exact⟨_,_,_,[],xN ho xO GF (aj hx) (aj hy) (hT.get ht) rfl (hT.get Dk) rfl (hT.get hte) (List.mem_cons_self ..) iM mz h.1.1 happ h.1.2.1 h.1.2.2,dv hb2,cV hbn,an,h.2⟩
      ·exact h
     ·exact h
    ·exact h
   ·exact h
  ·exact h
 case h_20 x xs ts ho=>
  split at h
  ·rename_i f first cap hx
   split at h
   ·rename_i args x9
    obtain⟨fk,c,new,upd,h1,h2,h3,h4,h5⟩:=h
    exact⟨c,fk,new,upd,MP ho hx x9 h1,h2,h3,h4,h5⟩
   ·exact h
  ·rename_i l rc us cap hx
   split at h
   ·rename_i args x9
    obtain⟨fk,c,new,upd,h1,h2,h3,h4,h5⟩:=h
    exact⟨c,fk,new,upd,It ho hx x9 h1,h2,h3,h4,h5⟩
   ·exact h
  ·exact h
 case h_21=>exact h
end Go.Sx
