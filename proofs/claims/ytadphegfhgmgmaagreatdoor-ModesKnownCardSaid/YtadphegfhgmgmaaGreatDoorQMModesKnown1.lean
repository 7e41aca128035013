/- The texts SxA, SxZ, SxB, SxC, SxD, SxE, SxF, SxJ, SxK, SxL, SxM, SxQ, SxG. -/
import Derived.OrdersIn
import Derived.TacticsIn
import Derived.Below
import Derived.Laws.Rows
import Derived.RangeFuncLeaves
import Derived.RangeFuncRecord
import Derived.RangeFuncNested
import Derived.Laws.CopyRow
import Derived.Laws.Tables
import Derived.Laws.StructEq
import Derived.Laws.Small
import Derived.Laws.NewBlocks
import Derived.Laws.Concat
import Derived.Laws.MakeOwn
import Derived.Laws.BytesString
import Derived.Laws.Append
open Array renaming ext'->ac0,getD_eq_getD_getElem?->Ϻ,getElem?_eq_none->ϴ,getElem?_modify->aj0,getElem?_replicate->ajC,length_toList->ϭ,range->aiC,toList_map->ak1,toList_range->akx
open BitVec renaming ofInt->acN
open Bool renaming and_eq_true->Μ,false_eq_true->Κ,not_false->acP
open Classical renaming byContradiction->Ο
open Go renaming sizeOf->aiK,zeroValue->abc
open Go.Act renaming eval->acV,put->ajt
open Go.Addr renaming add->agl
open Go.Builtin renaming append_->abn,firstCells->Ω,lenOf->ahl,len_->agB,nextslicecap->aif,zeroCells->Τ
open Go.Deferred renaming ofValue->akq
open Go.Fence renaming wide->ajD
open Go.Instr renaming box->amg,build->alW,buildSlice->agn,fieldAt->alz,fill->al6,indexAt->ajF,loadAt->alO,slice->ajd,sliceAt->aiJ,sliceBound->ϻ,sliceBounds->ac3,sureAddr->aga
open Go.IntKind renaming i64->ε
open Go.Op renaming intArith->amp,unary->alU
open Go.Question renaming appendCap->aik,cut->ajp
open Go.Region renaming binds->agJ,ready->aiN
open Go.Result renaming andThen->alf,andThen_ok->ν,ok->ak2
open Go.RowKit renaming Below->aeR
open Go.RowKit.Below renaming refl->afO
open Go.Sem renaming run_bind->Β,run_pure->Ε
open Go.Value renaming cells->aj5,int->adt,oneCell'->aaq,slice->aky
open Go.World renaming alloc_eq->aeE,drew_eq->ajS,setRow->ah9
open List renaming all_cons->af7,all_eq_true->aiy,append_assoc->abA,append_nil->ϣ,drop_append_of_le_length->aji,drop_drop->afZ,drop_eq_nil_of_le->ajZ,drop_left->aly,drop_length_add_append->afS,drop_succ_cons->ahg,drop_zero->afg,filter_cons->ajb,flatMap_cons->abi,flatMap_def->ϸ,flatMap_id->ahY,flatMap_nil->aje,flatten_append->ϝ,flatten_cons->ϐ,flatten_nil->acY,foldl_cons->alo,getElem?_append_left->ϳ,getElem?_cons_succ->ϥ,getElem?_cons_zero->ϑ,getElem?_eq_some_iff->Ϩ,getElem?_map->ac4,getElem?_take->ahL,getElem?_toArray->ό,headD_cons->ads,length->aki,length_append->ξ,length_cons->ϊ,length_drop->ϗ,length_take->ψ,map_cons->ϲ,map_drop->ahO,map_eq_flatMap->afd,map_nil->af6,map_take->ahM,map_toArray->aie,mem_append->ϖ,mem_cons->Λ,mem_cons_of_mem->Δ,mem_cons_self->η,mem_flatten->afQ,mem_map->abo,mem_of_getElem?->akm,mem_of_mem_drop->Ψ,mem_of_mem_take->Θ,mem_range->af4,mem_replicate->agd,mem_singleton->μ,nil_append->aln,range->Η,replicate->θ,replicate_append_replicate->ai0,replicate_succ->acT,set_cons_succ->agc,set_cons_zero->agb,size_toArray->af5,take_append_drop->ϟ,take_append_of_le_length->adn,take_length_add_append->agU,take_of_length_le->ϛ,take_succ_cons->aiS,take_zero->agq,zipWith->ω,zipWith_append->akw
open List.cons renaming injEq->afR
open Nat renaming add_assoc->af1,add_comm->afk,add_mul->gx,add_zero->abC,beq->ϋ,ble->agG,eq_of_beq_eq_true->χ,eq_zero_or_pos->acX,le_of_ble_eq_true->abW,le_refl->ζ,le_trans->Ι,lt_of_lt_of_le->Ϟ,lt_or_ge->Ϝ,min_eq_left->acR,mul_le_mul_right->ο,mul_one->alp,not_lt_zero->abe,reducePow->ahy,sub_self->af0,succ_mul->ϯ,zero_add->υ,zero_mul->aeC
open Option renaming map_none->ajc,map_some->afy
open Option.some renaming inj->abU,injEq->κ
open Prod.mk renaming injEq->ς
open Pure renaming pure->ajP
open UInt8 renaming ofNat->aal
namespace Go.Sx
theorem aa {p:Prop} (h:p:=by omega):p:=h
theorem aD {p:Prop} (h:p:=by kernel_rfl):p:=h
theorem ax {p:Prop} (h:p:=by decide):p:=h
theorem aJ {p:Prop} (h:p:=by assumption):p:=h
end Go.Sx
namespace Go.Sx
structure kL (L V:Type) where
 rd:L->Bool
 wr:L->Bool
 val:L->V
def kL.ap {L V:Type} (σ:kL L V) (s:L->V):L->V:=λl=>if σ.wr l then σ.val l else s l
def kL.UJ {L V:Type} (σ τ:kL L V):Prop:=∃l,(σ.wr l=true/\(τ.rd l=true\/τ.wr l=true))\/(σ.rd l=true/\τ.wr l=true)
inductive ql (ops:Array Oper):Nat->Nat->Prop
 |one {j:Nat} {o:Oper} {e:Edge} (ho:ops[j]? =some o) (he:e∈o.after) (hb:agJ .any e=true):ql ops j e.on
 |trans {j k i:Nat} (h:ql ops j k) (h':ql ops k i):ql ops j i
section
variable {L V:Type} (steps:Nat->kL L V) (s0:L->V)
def sx (X:Nat->Bool):Nat->(L->V)
 |0=>s0
 |n+1=>if X n then(steps n).ap (sx X n)else sx X n
theorem IK {X:Nat->Bool} {l:L}:∀m,(∀j,j<m->(steps j).wr l=true->X j=true)->sx steps s0 X m l=sx steps s0 (λ_=>true) m l
 |0,_=>rfl
 |m+1,h=>by
  have ih:=IK m (λj hj=>h j aa);simp only[sx,if_true];by_cases hx:X m=true
  ·simp only[hx,if_true,kL.ap];rw[ih]
  ·simp only[hx];have hw:(steps m).wr l≠true:=λhw=>hx (h m aa hw)
   simp only[kL.ap,hw,if_false,Κ];exact ih
theorem yF {X:Nat->Bool} {l:L} (m:Nat):∀n,m<=n->(∀j,m<=j->j<n->(steps j).wr l=true->X j=false)->sx steps s0 X n l=sx steps s0 X m l
 |0,hm,_=>by obtain rfl:m=0:=aa
             rfl
 |n+1,hm,h=>by
  by_cases hmn:m=n+1
  ·subst hmn;rfl
  ·have ih:=yF m n aa (λj h1 h2=>h j h1 aa);simp only[sx];by_cases hx:X n=true
   ·simp only[hx,if_true,kL.ap];have hw:(steps n).wr l≠true:=λhw=>by have:=h n aa aa hw;rw[hx]at this;cases this
    simp only[hw,if_false,Κ];exact ih
   ·simp only[hx];exact ih
theorem FT {X Y:Nat->Bool} {l:L}:∀n,(∀j,j<n->(steps j).wr l=true->X j=Y j)->sx steps s0 X n l=sx steps s0 Y n l
 |0,_=>rfl
 |n+1,h=>by
  have ih:=FT n (λj hj=>h j aa);simp only[sx];by_cases hw:(steps n).wr l=true
  ·rw[h n aa hw];split
   ·simp only[kL.ap,hw,if_true]
   ·exact ih
  ·have e:∀(b:Bool) (f:L->V),(if b then(steps n).ap f else f) l=f l:=by
    intro b f;cases b
    ·rfl
    ·simp only[if_true,kL.ap,hw,if_false,Κ]
   rw[e,e];exact ih
end
theorem filter_lt {p q:Nat->Bool} {i:Nat}:∀l:List Nat,i∈l->p i=true->(∀j,q j=(p j&& !(j==i)))->(l.filter q).length<(l.filter p).length:=by
 have hle:∀l:List Nat,(∀j,q j=(p j&& !(j==i)))->(l.filter q).length<=(l.filter p).length:=by
  intro l hq;induction l with
  |nil=>simp
  |cons a l ih=>
   simp only[ajb,hq a];cases p a<;>cases (a==i)<;>simp<;>omega
 intro l hi hp hq;induction l with
 |nil=>cases hi
 |cons a l ih=>
  by_cases ha:a=i
  ·subst ha;have:=hle l hq;simp only[ajb,hq a,hp];simp;omega
  ·have hm:i∈l:=by
    rcases Λ.1 hi with h|h
    ·exact absurd h.symm ha
    ·exact h
   have:=ih hm;simp only[ajb,hq a];have hb:(a==i)=false:=by simpa using ha
   rw[hb];cases p a<;>simp<;>omega
section
variable {L V:Type} {F:Fence} {nf:Nat} {P:Program} {ops:Array Oper} {Q:Exit->Act->World->Prop} {Rel:(L->V)->Act->World->Prop} {steps:Nat->kL L V} {s0:L->V}
def bT (listed:Array Bool):Nat->Bool:=λj=>listed.getD j false
theorem BZ
  (hexec:∀i,i<ops.size->∀s',(∀l,((steps i).rd l=true\/(steps i).wr l=true)->s' l=sx steps s0 (λ_=>true) i l)->∀a w,Rel s' a w->wpOpIn F nf P ops Q i (Rel ((steps i).ap s')) a w)
  (Ct:∀i j,i<j->j<ops.size->(steps i).UJ (steps j)->ql ops j i)
  (hedge:∀(i:Nat) (o:Oper),ops[i]? =some o->∀e∈o.after,agJ .any e=true->e.on<i)
  (jB:∀a w,Rel (sx steps s0 (λ_=>true) ops.size) a w->Q .normal a w):
  ∀(fuel:Nat) (listed:Array Bool),listed.size=ops.size->
   (∀j,bT listed j=true->∀i,ql ops j i->bT listed i=true)->
   ((Η ops.size).filter (λj=> !bT listed j)).length<=fuel->
   ∀a w,Rel (sx steps s0 (bT listed) ops.size) a w->wpAnyIn F nf P .any ops Q fuel listed a w:=by
 have ZE:∀listed:Array Bool,listed.size=ops.size->aiN .any ops listed=[]->∀j,j<ops.size->bT listed j=true:=by
  intro listed gM hr j;induction j using Nat.strongRecOn with
  |_ j ih=>
   intro hj;refine Ο λhn=> ?_
   have ac9:j∈aiN .any ops listed:=by
    rw[mem_ready];refine⟨?_,ops[j],by simp[hj],λe he hb=> ?_⟩
    ·have hl:j<listed.size:=aa;simp only[bT,Bool.not_eq_true]at hn;simpa [hl]using hn
    ·have aE:=hedge j ops[j] (by simp[hj]) e he hb;exact ih e.on aE aa
   rw[hr]at ac9;cases ac9
 have XY:∀listed:Array Bool,listed.size=ops.size->aiN .any ops listed=[]->∀a w,Rel (sx steps s0 (bT listed) ops.size) a w->Q .normal a w:=by
  intro listed gM hr a w hR;refine jB a w ?_;have:sx steps s0 (bT listed) ops.size=sx steps s0 (λ_=>true) ops.size:=by
   funext l;exact IK steps s0 _ (λj hj _=>ZE listed gM hr j hj)
  rwa [<-this]
 intro fuel;induction fuel with
 |zero=>
  intro listed gM FF hcount a w hR;have hr:aiN .any ops listed=[]:=by
   refine List.eq_nil_iff_forall_not_mem.2 λj hj=> ?_
   rw[mem_ready]at hj;obtain⟨h0,o,ho,_⟩:=hj;have aE:j<ops.size:=by
    rcases Ϝ j ops.size with h|h
    ·exact h
    ·simp[ϴ h]at ho
   have:j∈(Η ops.size).filter (λj=> !bT listed j):=by
    simp only[List.mem_filter,af4,bT,Bool.not_eq_true'];refine⟨aE, ?_⟩;have hl:j<listed.size:=aa;simpa [hl]using h0
   have:=List.length_pos_of_mem this;omega
  exact⟨hr,XY listed gM hr a w hR⟩
 |succ fuel ih=>
  intro listed gM FF hcount a w hR;refine⟨λhr=>XY listed gM hr a w hR,λi hi=> ?_⟩;have hmr:=mem_ready.1 hi;obtain⟨h0,o,ho,pk⟩:=hmr;have aE:i<ops.size:=by
   rcases Ϝ i ops.size with h|h
   ·exact h
   ·simp[ϴ h]at ho
  have hl:i<listed.size:=aa;have ZF:bT listed i=false:=by
   simp only[bT];simpa [hl]using h0
  have Oh:∀j k,ql ops j k->(j=i\/bT listed j=true)->bT listed k=true:=by
   intro j k hw;induction hw with
   |@one j o' e MG he hb=>
    rintro(rfl|hj)
    ·rw[ho]at MG;cases MG;exact pk e he hb
    ·exact FF j hj _ (.one MG he hb)
   |trans h h' ih1 ih2=>exact λhj=>ih2 (.inr (ih1 hj))
  have UK:∀j,j<i->(steps j).UJ (steps i)->bT listed j=true:=λj hj hc=>Oh i j (Ct j i hj aE hc) (.inl rfl)
  have Oi:∀j,i<j->j<ops.size->(steps i).UJ (steps j)->bT listed j=false:=by
   intro j hj IL hc;cases FU:bT listed j with
   |false=>rfl
   |true=>
    have:=FF j FU i (Ct i j hj IL hc);rw[ZF]at this;cases this
  have ada:∀l,((steps i).rd l=true\/(steps i).wr l=true)->sx steps s0 (bT listed) ops.size l=sx steps s0 (λ_=>true) i l:=by
   intro l ux;rw[yF steps s0 i ops.size aa (λj h1 h2 hw=> ?_),IK steps s0 i (λj hj hw=>UK j hj ⟨l,.inl ⟨hw,ux⟩⟩)];rcases Ϝ i j with h|h
   ·refine Oi j h h2 ⟨l, ?_⟩;rcases ux with h3|h3
    ·exact .inr ⟨h3,hw⟩
    ·exact .inl ⟨h3,.inr hw⟩
   ·obtain rfl:i=j:=aa;exact ZF
  have cE:=hexec i aE _ ada a w hR;refine wpOpIn_mono (λa' w' lN=> ?_) cE;have hX:∀j,bT (listed.setIfInBounds i true) j=(if j=i then true else bT listed j):=by
   intro j;by_cases w6:j=i
   ·subst w6;simp[bT,hl]
   ·rw[if_neg w6];exact getD_set_ne false (λh=>w6 h.symm)
  refine ih _ (by simpa using gM) ?_ ?_ a' w' ?_
  ·intro j hj k hw;rw[hX]at hj ⊢;split
   ·rfl
   ·by_cases w6:j=i
    ·exact Oh j k hw (.inl w6)
    ·rw[if_neg w6]at hj;exact FF j hj k hw
  ·have:=filter_lt (p:=λj=> !bT listed j) (q:=λj=> !bT (listed.setIfInBounds i true) j) (i:=i) (Η ops.size) (by simpa using aE) (by simp[ZF]) (λj=>by
    rw[hX]
    by_cases w6:j=i<;>simp[w6])
   omega
  ·have:sx steps s0 (bT (listed.setIfInBounds i true)) ops.size=(steps i).ap (sx steps s0 (bT listed) ops.size):=by
    funext l;by_cases hw:(steps i).wr l=true
    ·rw[yF steps s0 (i+1) ops.size aa (λj h1 h2 hwj=> ?_)]
     ·simp[sx,hX,kL.ap,hw]
     ·rw[hX,if_neg aa];exact Oi j aa h2 ⟨l,.inl ⟨hw,.inr hwj⟩⟩
    ·simp only[kL.ap,hw,if_false,Κ];refine FT steps s0 _ λj _ hwj=> ?_
     rw[hX,if_neg];rintro rfl;exact hw hwj
   rw[this];exact lN
theorem MH {id:Nat} (hm:P.follows .mixedOrders=true)
  (hexec:∀i,i<ops.size->∀s',(∀l,((steps i).rd l=true\/(steps i).wr l=true)->s' l=sx steps s0 (λ_=>true) i l)->∀a w,Rel s' a w->wpOpIn F nf P ops Q i (Rel ((steps i).ap s')) a w)
  (Ct:∀i j,i<j->j<ops.size->(steps i).UJ (steps j)->ql ops j i)
  (hedge:∀(i:Nat) (o:Oper),ops[i]? =some o->∀e∈o.after,agJ .any e=true->e.on<i)
  (jB:∀a w,Rel (sx steps s0 (λ_=>true) ops.size) a w->Q .normal a w)
  (a:Act) (w:World) (h:Rel s0 a {w with drawn:=w.drawn+1}):(Code.region id ops true).wpIn F nf P Q a w:=by
 refine wpIn_region_any hm (BZ hexec Ct hedge jB _ _ (by simp) ?_ ?_ a _ ?_)
 ·intro j hj;exfalso;revert hj;simp only[bT,Ϻ,ajC];split<;>simp
 ·refine Ι (List.length_filter_le _ _) (by simp)
 ·have:sx steps s0 (bT (Array.replicate ops.size false)) ops.size=s0:=by
   funext l;refine yF steps s0 0 ops.size aa (λj _ _ _=> ?_);simp only[bT,Ϻ,ajC];split<;>simp
  rw[this];exact h
end
end Go.Sx
namespace Go.Sx
def ou:List (Nat×IntKind×List Int):=[(3,.u8,[0,1,28,2,29,14,24,3,30,22,20,15,25,17,4,8,31,27,13,23,21,19,16,7,26,12,18,6,11,5,10,9]),(4,.u8,[0,1,56,2,57,49,28,3,61,58,42,50,38,29,17,4,62,47,59,36,45,43,51,22,53,39,33,30,24,18,12,5,63,55,48,27,60,41,37,16,46,35,44,21,52,32,23,11,54,26,40,15,34,20,31,10,25,14,19,9,13,8,7,6]),(2,.u64,[1,10,100,1000,10000,100000,1000000,10000000,100000000,1000000000,10000000000,100000000000,1000000000000,10000000000000,100000000000000,1000000000000000,10000000000000000,100000000000000000,1000000000000000000,10000000000000000000])]
def jG (aW:Nat->Option Obj):Prop:=∀g kd l,(g,kd,l)∈ou->∃o,aW g=some o/\(∀w:World,w.heap[g]? =some o->∀j x,l[j]? =some x->w.cell? ⟨g,j,none⟩=some (.int kd x))/\∃ty fz,o= .cells (l.map λx=>adt kd x).toArray ty fz
def zz (W:World):Prop:=∀g kd l,(g,kd,l)∈ou->l≠[]/\(∀j x,l[j]? =some x->W.cell? ⟨g,j,none⟩=some (.int kd x))/\∃ty fz,W.heap[g]? =some (.cells (l.map λx=>adt kd x).toArray ty fz)
end Go.Sx
namespace Go.Sx
def cZ:Nat->Nat->List Nat
 |0,_=>[]
 |f+1,n=>if n=0 then[]else n % 4294967296::cZ f (n/4294967296)
def words (n:Nat):List Nat:=cZ n n
def bJ (w:Nat):List UInt8:=[aal w,aal (w/256),aal (w/65536),aal (w/16777216)]
def low (n:Nat):Int:=if n<18446744073709551616 then(n:Int)else 0
def sQ (n:Nat):ByteArray:=if n<18446744073709551616 then ByteArray.empty else⟨((words n).flatMap bJ).toArray⟩
def bU (n:Nat):List Value:=[.int .u64 (low n),.string (sQ n)]
def ef (z:Int):List Value:=bU z.natAbs++[.bool (decide (z<0))]
def bL (q:Rat):List Value:=ef q.num++bU (q.den - 1)
structure bY where
 key:Nat->Option (Nat×Nat)
 aW:Nat->Option Obj
 cA:jG aW
structure bY.Le (ρ ρ':bY):Prop where
 key:∀k x,ρ.key k=some x->ρ'.key k=some x
 aW:∀b o,ρ.aW b=some o->ρ'.aW b=some o
theorem bY.Le.refl (ρ:bY):ρ.Le ρ:=⟨λ_ _ h=>h,λ_ _ h=>h⟩
theorem bY.Le.trans {ρ σ τ:bY} (h:ρ.Le σ) (h':σ.Le τ):ρ.Le τ:=⟨λk x hx=>h'.key k x (h.key k x hx),λb o ho=>h'.aW b o (h.aW b o ho)⟩
structure Pred where
 h:(Nat->Option Obj)->List Value->Prop
 mono:∀i i' vs,(∀b o,i b=some o->i' b=some o)->h i vs->h i' vs
 width:Nat
 len:∀i vs,h i vs->vs.length=width/\∀v∈vs,v.oneCell'=true
 bare:Bool
 u9:bare=true->width=1
inductive SV where
 |any
 |val (v:Value)
 |ptr (k s i r:Nat)
 |aM (k s i n:Nat)
 |nat (n:Nat)
 |int (z:Int)
 |frac (q:Rat)
 |atom (p:Pred)
 |agg (cs:List SV)
 |bQ (vs:List SV)
 |clo (f:FuncId) (first cap:List SV)
  |yld (k:Nat) (rc:Loop) (ts:List Nat) (cap:List SV)
def SV.aZ:SV->Bool
 |.any|.val _|.ptr .. |.aM .. |.clo .. |.yld .. =>true
 |.atom p=>p.bare
 |_=>false
mutual
def SV.width:SV->Nat
 |.any|.val _|.ptr .. |.aM .. |.clo .. |.yld .. =>1
 |.nat _=>2
 |.int _=>3
 |.frac _=>5
 |.atom p=>p.width
 |.agg cs=>SV.cP cs
 |.bQ _=>0
def SV.cP:List SV->Nat
 |[]=>0
 |c::l=>SV.width c+SV.cP l
end
def cV (c:SV) (cells:List Value):Value:=if c.aZ then cells.headD undef else .agg cells.toArray
mutual
def aI (ρ:bY):SV->List Value->Prop
 |.any,vs=>∃v,vs=[v]/\v.oneCell'=true
 |.val v,vs=>vs=[v]/\v.oneCell'=true
 |.ptr k s i r,vs=>∃b t,ρ.key k=some (b,t)/\vs=[.pointer (some ⟨b,i*s+r,none⟩)]
 |.aM k s i n,vs=>(∃b t cap,ρ.key k=some (b,t)/\n<=cap/\(i+cap)*s<=t/\vs=[.slice (some ⟨b,i*s,none⟩) n cap])\/(n=0/\∃a,vs=[.slice a 0 0])
 |.nat n,vs=>vs=bU n
 |.int z,vs=>vs=ef z
 |.frac q,vs=>vs=bL q
 |.atom p,vs=>p.h ρ.aW vs
 |.agg cs,vs=>∃z,aw ρ cs z/\vs=z.flatten
 |.bQ _,_=>False
 |.clo f first cap,vs=>∃fz cz,aw ρ first fz/\aw ρ cap cz/\vs=[.func (.func f) (ω cV first fz).toArray (ω cV cap cz).toArray]
 |.yld k rc ts cap,vs=>∃l t,ρ.key k=some (l,t)/\vs=[.func (.yield l) #[] #[]]/\∃z,aw ρ cap z/\ω cV cap z=ts.map λt=>rc.tmps.getD t undef
def aw (ρ:bY):List SV->List (List Value)->Prop
 |[],z=>z=[]
 |c::l,z=>∃x r,z=x::r/\aI ρ c x/\aw ρ l r
end
def Has (ρ:bY):SV->Value->Prop
 |.any,_=>True
 |.bQ l,v=>∃z,aw ρ l z/\v= .tuple (ω cV l z).toArray
 |c,v=>∃x,aI ρ c x/\v=cV c x
mutual
theorem aI.mono {ρ ρ':bY} (h:ρ.Le ρ'):∀(c:SV) (vs:List Value),aI ρ c vs->aI ρ' c vs
 |.any,_,hc=>by simpa only[aI]using hc
 |.val _,_,hc=>by simpa only[aI]using hc
 |.ptr k s i r,_,hc=>by
  simp only[aI]at hc ⊢;obtain⟨b,t,h1,h2⟩:=hc;exact⟨b,t,h.key _ _ h1,h2⟩
 |.aM k s i n,_,hc=>by
  simp only[aI]at hc ⊢;rcases hc with⟨b,t,cap,h1,h2⟩|hc
  ·exact .inl ⟨b,t,cap,h.key _ _ h1,h2⟩
  ·exact .inr hc
 |.nat _,_,hc=>by simpa only[aI]using hc
 |.int _,_,hc=>by simpa only[aI]using hc
 |.frac _,_,hc=>by simpa only[aI]using hc
 |.atom p,_,hc=>by simp only[aI]at hc ⊢;exact p.mono _ _ _ h.aW hc
 |.agg cs,_,hc=>by
  simp only[aI]at hc ⊢;obtain⟨z,h1,h2⟩:=hc;exact⟨z,aw.mono h cs z h1,h2⟩
 |.bQ _,_,hc=>by simp only[aI]at hc
 |.clo f first cap,_,hc=>by
  simp only[aI]at hc ⊢;obtain⟨fz,cz,h1,h2,h3⟩:=hc;exact⟨fz,cz,aw.mono h first fz h1,aw.mono h cap cz h2,h3⟩
 |.yld k rc ts cap,_,hc=>by
  simp only[aI]at hc ⊢;obtain⟨l,t,h1,h2,z,h3,h4⟩:=hc;exact⟨l,t,h.key _ _ h1,h2,z,aw.mono h cap z h3,h4⟩
theorem aw.mono {ρ ρ':bY} (h:ρ.Le ρ'):∀(l:List SV) (z:List (List Value)),aw ρ l z->aw ρ' l z
 |[],_,hz=>by simpa only[aw]using hz
 |c::l,_,hz=>by
  simp only[aw]at hz ⊢;obtain⟨x,r,h1,h2,h3⟩:=hz;exact⟨x,r,h1,aI.mono h c x h2,aw.mono h l r h3⟩
end
theorem Has.mono {ρ ρ':bY} (h:ρ.Le ρ') (c:SV) (v:Value) (hc:Has ρ c v):Has ρ' c v:=by
 cases c<;>simp only[Has]at hc ⊢
 case bQ l=>obtain⟨z,h1,h2⟩:=hc;exact⟨z,aw.mono h _ _ h1,h2⟩
 all_goals (obtain⟨x,h1,h2⟩:=hc;exact⟨x,aI.mono h _ _ h1,h2⟩)
theorem DO (n:Nat):(bU n).length=2/\∀v∈bU n,v.oneCell'=true:=by simp[bU,aaq]
theorem DP (z:Int):(ef z).length=3/\∀v∈ef z,v.oneCell'=true:=by simp[ef,bU,aaq]
theorem dF (q:Rat):(bL q).length=5/\∀v∈bL q,v.oneCell'=true:=by simp[bL,ef,bU,aaq]
mutual
theorem aI.len {ρ:bY}:∀(c:SV) (vs:List Value),aI ρ c vs->vs.length=c.width/\∀v∈vs,v.oneCell'=true
 |.any,_,hc=>by simp only[aI]at hc;obtain⟨v,rfl,h⟩:=hc;simp[SV.width,h]
 |.val _,_,hc=>by simp only[aI]at hc;obtain⟨rfl,h⟩:=hc;simp[SV.width,h]
 |.ptr ..,_,hc=>by simp only[aI]at hc;obtain⟨b,t,_,rfl⟩:=hc;simp[SV.width,aaq]
 |.aM ..,_,hc=>by
  simp only[aI]at hc;rcases hc with⟨b,t,cap,_,_,_,rfl⟩|⟨_,a,rfl⟩<;>simp[SV.width,aaq]
 |.nat n,_,hc=>by simp only[aI]at hc;subst hc;exact DO n
 |.int z,_,hc=>by simp only[aI]at hc;subst hc;exact DP z
 |.frac q,_,hc=>by simp only[aI]at hc;subst hc;exact dF q
 |.atom p,_,hc=>by simp only[aI]at hc;exact p.len _ _ hc
 |.agg cs,_,hc=>by
  simp only[aI]at hc;obtain⟨z,h1,rfl⟩:=hc;exact aw.len cs z h1
 |.bQ _,_,hc=>by simp only[aI]at hc
 |.clo ..,_,hc=>by simp only[aI]at hc;obtain⟨fz,cz,_,_,rfl⟩:=hc;simp[SV.width,aaq]
 |.yld ..,_,hc=>by simp only[aI]at hc;obtain⟨_,_,_,rfl,_⟩:=hc;simp[SV.width,aaq]
theorem aw.len {ρ:bY}:∀(l:List SV) (z:List (List Value)),aw ρ l z->z.flatten.length=SV.cP l/\∀v∈z.flatten,v.oneCell'=true
 |[],_,hz=>by simp only[aw]at hz;subst hz;simp[SV.cP]
 |c::l,_,hz=>by
  simp only[aw]at hz;obtain⟨x,r,rfl,h2,h3⟩:=hz;obtain⟨a1,a2⟩:=aI.len c x h2;obtain⟨b1,b2⟩:=aw.len l r h3;refine⟨by simp[SV.cP,a1,b1],λv hv=> ?_⟩;simp only[ϐ,ϖ]at hv;exact hv.elim (a2 v) (b2 v)
end
mutual
def bI:SV->Bool
 |.any|.val _|.nat _|.int _|.frac _|.atom _=>true
 |.ptr .. |.aM .. |.yld .. =>false
 |.agg cs=>aS cs
 |.bQ vs=>aS vs
 |.clo _ a b=>aS a&&aS b
def aS:List SV->Bool
 |[]=>true
 |c::l=>bI c&&aS l
end
mutual
theorem nE {ρ ρ':bY} (h:∀b o,ρ.aW b=some o->ρ'.aW b=some o):∀(c:SV) (x:List Value),bI c=true->aI ρ c x->aI ρ' c x
 |.any,_,_,hc=>by simpa only[aI]using hc
 |.val _,_,_,hc=>by simpa only[aI]using hc
 |.nat _,_,_,hc=>by simpa only[aI]using hc
 |.int _,_,_,hc=>by simpa only[aI]using hc
 |.frac _,_,_,hc=>by simpa only[aI]using hc
 |.atom p,_,_,hc=>by simp only[aI]at hc ⊢;exact p.mono _ _ _ h hc
 |.ptr ..,_,hk,_=>by simp[bI]at hk
 |.aM ..,_,hk,_=>by simp[bI]at hk
 |.yld ..,_,hk,_=>by simp[bI]at hk
 |.agg cs,_,hk,hc=>by
  simp only[aI]at hc ⊢;obtain⟨z,h1,h2⟩:=hc;exact⟨z,cx h cs z (by simpa [bI]using hk) h1,h2⟩
 |.bQ _,_,_,hc=>by simp only[aI]at hc
 |.clo f a b,_,hk,hc=>by
  simp only[aI]at hc ⊢;simp only[bI,Μ]at hk;obtain⟨fz,cz,h1,h2,h3⟩:=hc;exact⟨fz,cz,cx h a fz hk.1 h1,cx h b cz hk.2 h2,h3⟩
theorem cx {ρ ρ':bY} (h:∀b o,ρ.aW b=some o->ρ'.aW b=some o):∀(l:List SV) (z:List (List Value)),aS l=true->aw ρ l z->aw ρ' l z
 |[],_,_,hz=>by simpa only[aw]using hz
 |c::l,_,hk,hz=>by
  simp only[aw]at hz ⊢;simp only[aS,Μ]at hk;obtain⟨x,r,h1,h2,h3⟩:=hz;exact⟨x,r,h1,nE h c x hk.1 h2,cx h l r hk.2 h3⟩
end
theorem pn {ρ ρ':bY} (h:∀b o,ρ.aW b=some o->ρ'.aW b=some o) (c:SV) (v:Value) (hk:bI c=true) (hc:Has ρ c v):Has ρ' c v:=by
 cases c<;>simp only[Has]at hc ⊢
 case bQ l=>obtain⟨z,h1,h2⟩:=hc;exact⟨z,cx h l z (by simpa [bI]using hk) h1,h2⟩
 all_goals (obtain⟨x,h1,h2⟩:=hc;exact⟨x,nE h _ _ hk h1,h2⟩)
theorem jG.mono {i i':Nat->Option Obj} (h:∀b o,i b=some o->i' b=some o) (g:jG i):jG i':=λn kd l hm=>by
 obtain⟨o,h1,h2⟩:=g n kd l hm;exact⟨o,h _ _ h1,h2⟩
def cW (aW:Nat->Option Obj) (h:jG aW):bY:=⟨λ_=>none,aW,h⟩
theorem vc {i i':Nat->Option Obj} (h:∀b o,i b=some o->i' b=some o) (g:jG i) (g':jG i'):(cW i g).Le (cW i' g'):=⟨(λk x hx=>by cases hx),h⟩
theorem qG (ρ:bY) (g:jG ρ.aW):(cW ρ.aW g).Le ρ:=⟨(λk x hx=>by cases hx),λ_ _ h=>h⟩
inductive Data where
 |one (cs:List SV)
 |ints (kd:IntKind) (xs:List Int)
 |cf (xs:List Rat)
 |seq (w:Nat) (xs:List SV)
 |dead
  |loop (rc:Loop)
def df (ρ:bY):Data->List Value->Prop
 |.one cs,vs=>∃z,aw ρ cs z/\vs=z.flatten
 |.ints kd xs,vs=>vs=xs.map (.int kd)
 |.cf xs,vs=>vs=xs.flatMap bL
 |.seq w xs,vs=>∃z,aw (cW ρ.aW ρ.cA) xs z/\vs=z.flatten/\∀x∈xs,x.width=w
 |.dead,_=>False
 |.loop _,vs=>vs=[]
def Data.empty:Data->Prop
 |.ints _ xs=>xs=[]
 |.cf xs=>xs=[]
 |.seq _ xs=>xs=[]
 |.one _=>False
 |.dead=>False
 |.loop _=>False
def Data.live:Data->Bool
 |.dead=>false
 |_=>true
theorem df.mono {ρ ρ':bY} (h:ρ.Le ρ') {d:Data} {vs:List Value} (hd:df ρ d vs):df ρ' d vs:=by
 cases d<;>simp only[df]at hd ⊢
 case one cs=>obtain⟨z,h1,h2⟩:=hd;exact⟨z,aw.mono h _ _ h1,h2⟩
 case seq w xs=>obtain⟨z,h1,h2⟩:=hd;exact⟨z,aw.mono (vc h.aW _ _) _ _ h1,h2⟩
 all_goals exact hd
theorem df.zA {ρ:bY} {d:Data} {vs:List Value} (hd:df ρ d vs):∀v∈vs,v.oneCell'=true:=by
 cases d<;>simp only[df]at hd
 case one cs=>obtain⟨z,h1,rfl⟩:=hd;exact(aw.len _ _ h1).2
 case seq w xs=>obtain⟨z,h1,rfl,_⟩:=hd;exact(aw.len _ _ h1).2
 case ints kd xs=>subst hd;intro v hv;obtain⟨x,_,rfl⟩:=abo.1 hv;rfl
 case cf xs=>subst hd;intro v hv;obtain⟨x,_,hx⟩:=List.mem_flatMap.1 hv;exact(dF x).2 v hx
 case loop rc=>subst hd;intro v hv;cases hv
structure aC where
 ty:TypeId
 wr:Bool
 data:Data
def Data.obj (d:Data) (l:List Value) (ty:TypeId):Obj:=match d with
 |.loop rc=>.loop rc
 |_=>.cells l.toArray ty (0,0)
def Data.qH:Data->Bool
 |.loop _=>true
 |_=>false
theorem Data.cK {d:Data} (h:d.qH=false) (l:List Value) (ty:TypeId):d.obj l ty= .cells l.toArray ty (0,0):=by
 cases d<;>first|rfl|(simp[Data.qH]at h)
theorem Data.lO {d:Data} {l:List Value} {ty:TypeId} {x:Option (List Deferred)}:d.obj l ty≠ .deferred x:=by
 cases d<;>simp[Data.obj]
def jl (ρ:bY) (w:World) (k:Nat) (blk:aC):Prop:=
 blk.data.live=false\/(∃b t vs ex,ρ.key k=some (b,t)/\w.heap[b]? =some (blk.data.obj (vs++ex) blk.ty)/\df ρ blk.data vs/\(vs++ex).length=t/\∀v∈ex,v.oneCell'=true)\/
 (ρ.key k=none/\blk.data.empty)
structure sR (W:Nat->Prop) (w w':World):Prop where
 os:w'.os=w.os
 tape:w'.tape=w.tape
 output:w'.output=w.output
 size:w.heap.size<=w'.heap.size
 block:∀b,b<w.heap.size->¬W b->w'.heap[b]? =w.heap[b]?
theorem sR.refl (W:Nat->Prop) (w:World):sR W w w:=⟨rfl,rfl,rfl,ζ _,λ_ _ _=>rfl⟩
theorem sR.trans {W:Nat->Prop} {a b c:World} (h:sR W a b) (k:sR W b c):sR W a c:=
 ⟨k.os.trans h.os,k.tape.trans h.tape,k.output.trans h.output,Ι h.size k.size,λi hi hw=>(k.block i (Ϟ hi h.size) hw).trans (h.block i hi hw)⟩
theorem sR.mono {W W':Nat->Prop} {w w':World} (h:sR W w w') (hW:∀b,b<w.heap.size->W b->W' b):sR W' w w':=
 ⟨h.os,h.tape,h.output,h.size,λb hb hn=>h.block b hb (λhw=>hn (hW b hb hw))⟩
theorem sR.below {w w':World} (h:sR (λ_=>False) w w'):aeR w.heap.size w w':=⟨h.os,h.tape,h.output,h.size,λk hk=>h.block k hk (λh=>h)⟩
theorem sR.ic {W:Nat->Prop} {w w':World} (h:aeR w.heap.size w w'):sR W w w':=⟨h.os,h.tape,h.output,h.size,λk hk _=>h.block k hk⟩
inductive Loc where
 |t (n:Nat)
 |k (n:Nat)
 deriving DecidableEq
inductive LV where
 |t (s:Option SV)
 |k (b:Option aC)
def LV.sv:LV->Option SV
 |.t s=>s
 |.k _=>none
def LV.blk:LV->Option aC
 |.k b=>b
 |.t _=>none
structure HpR (B:Nat) (W0:Nat->Prop) (ρ:bY) (s:Loc->LV) (w:World):Prop where
 blk:∀k b,(s (.k k)).blk=some b->jl ρ w k b
 sep:∀k k' x x' b b',ρ.key k=some x->ρ.key k'=some x'->k≠k'->x.1=x'.1->(s (.k k)).blk=some b->(s (.k k')).blk=some b'->b.data.live=true->b'.data.live=true->b.wr=false
 own:∀k b x,(s (.k k)).blk=some b->b.wr=true->b.data.live=true->ρ.key k=some x->B<=x.1\/W0 x.1
 wW:∀k x,ρ.key k=some x->∃b,(s (.k k)).blk=some b
 aW:∀b o,ρ.aW b=some o->w.heap[b]? =some o
 fB:∀k b x,(s (.k k)).blk=some b->b.wr=true->b.data.live=true->ρ.key k=some x->ρ.aW x.1=none
def mk1 (D:Nat):Deferred:={target:=.collected D,args:= #[]}
def Oj (B:Nat) (ρ:bY) (ds:List Deferred) (w:World):Prop:=
 ∃Ds:List Nat,ds=Ds.map mk1/\Ds.Nodup/\∀D∈Ds,B<=D/\w.heap[D]? =some (.deferred (some []))/\ρ.aW D=none
theorem Oj.nil {B:Nat} {ρ:bY} {w:World}:Oj B ρ [] w:=⟨[],rfl,.nil,λ_ h=>by cases h⟩
structure R (W0:Nat->Prop) (w0:World) (n:Nat) (ρ:bY) (s:Loc->LV) (a:Act) (w:World):Prop where
 defers:Oj w0.heap.size ρ a.defers w
 size:a.tmps.size=n
 fr:∀t sv,(s (.t t)).sv=some sv->Has ρ sv (a.tmps.getD t undef)
 bE:sR W0 w0 w
 hp:HpR w0.heap.size W0 ρ s w
structure kN (ρ:bY) (w:World) (val:SV) (new upd:List (Nat×aC)) (v:Value) (ρ':bY) (w':World):Prop where
 le:ρ.Le ρ'
 has:Has ρ' val v
 key:∀k,(∀b,(k,b)∉new)->ρ'.key k=ρ.key k
 bE:sR (λb=>∃k blk t,(k,blk)∈upd/\ρ.key k=some (b,t)) w w'
 blk:∀k b,(k,b)∈upd\/(k,b)∈new->jl ρ' w' k b
 once:∀k b b',(k,b)∈upd->(k,b')∈upd->b.data.live=false->b'.data.live=true->False
 B0:∀k b x,(k,b)∈new->ρ'.key k=some x->w.heap.size<=x.1\/∃k0 b0 t,(k0,b0)∈upd/\b0.data.live=false/\ρ.key k0=some (x.1,t)
 Ok:∀k b k' b' x x',(k,b)∈new->(k',b')∈new->k≠k'->ρ'.key k=some x->ρ'.key k'=some x'->x.1≠x'.1
 aW:∀b o,ρ'.aW b=some o->ρ.aW b=some o\/(w.heap.size<=b/\w'.heap[b]? =some o/\∀k blk x,(k,blk)∈new->ρ'.key k=some x->x.1≠b)
structure ZG (ft:List (Nat×SV)) (fk:List (Nat×aC)) (new:List (Nat×aC)) (ρ:bY) (a:Act) (w:World):Prop where
 dR:∀t sv,(t,sv)∈ft->Has ρ sv (a.tmps.getD t undef)
 oq:∀k b,(k,b)∈fk->jl ρ w k b
 sep:∀k k' x x' b b',(k,b)∈fk->(k',b')∈fk->ρ.key k=some x->ρ.key k'=some x'->k≠k'->x.1=x'.1->b.data.live=true->b'.data.live=true->b.wr=false
 aW:∀b o,ρ.aW b=some o->w.heap[b]? =some o
 fB:∀k b x,(k,b)∈fk->b.wr=true->b.data.live=true->ρ.key k=some x->ρ.aW x.1=none
 fresh:∀k b,(k,b)∈new->ρ.key k=none
def goes (P:Program) (o:Oper) (a:Act) (w:World) (K:Act->World->Prop):Prop:=
 match (execOp a.eval o).run P w with
 |.ok (.value v) w'=>K (a.put o.dst v) w'
 |.ok .skip w'=>K (a.put o.dst undef) w'
 |.ok (.enter f args) w'=>Calls P f args w' λe w''=>∃v,e= .returned v/\K (a.put o.dst v) w''
 |.ok (.round l f tmps assign body) w'=>RoundIn ajD 0 P l f tmps assign body w' λe w''=>∃v,e= .returned v/\K (a.put o.dst v) w''
 |_=>False
theorem rP {P:Program} {o:Oper} {a:Act} {w:World} {K K':Act->World->Prop} (h:∀a w,K a w->K' a w) (hh:goes P o a w K):goes P o a w K':=by
 unfold goes at*;generalize (execOp a.eval o).run P w=r at*;cases r with
 |ok n w'=>
  cases n<;>simp only at hh ⊢<;>
   first
    |exact h _ _ hh
    |exact hh.mono (λe w'' he=>let ⟨v,h1,h2⟩:=he;⟨v,h1,h _ _ h2⟩)
    |exact hh
 |halt x w'=>exact hh
def Ku (ro:Option Nat):Fence:={ajD with round:=ro}
theorem w7 {ro:Option Nat} {P:Program} {o:Oper} {a:Act} {w:World} {K:Act->World->Prop} {Q:Exit->Act->World->Prop} (h:goes P o a w K):o.wpIn (Ku ro) 0 P a w K Q:=by
 have hd:∀c,o.op≠ .defer c:=by
  intro c hc;unfold goes at h;simp only[execOp,hc,Β]at h;cases hr:(resolve a.eval c o.type).run P w with
  |ok d w'=>rw[hr]at h;simp[alf]at h
  |halt x w'=>rw[hr]at h;simp[alf]at h
 refine⟨λ_ _=>trivial, ?_⟩;rw[Oper.semAt_eq _ _ _ hd];unfold goes at h;generalize (execOp a.eval o).run P w=r at*;cases r with
 |ok n w'=>
  cases n<;>simp only[Oper.uponIn]at h ⊢<;>try exact h
  ·refine⟨(λhx=>by cases hx), ?_⟩;have:=callsIn_wide (n:=0).2 h;refine CallsIn.mono (F:=Ku ro) (show CallsIn (Ku ro) 0 _ _ _ _ _ from this) ?_;rintro e w'' ⟨v,rfl,hk⟩;exact hk
  ·refine⟨(λhx=>by cases hx), ?_⟩;refine RoundIn.mono (F:=Ku ro) (show RoundIn (Ku ro) 0 _ _ _ _ _ _ _ _ from h) ?_;rintro e w'' ⟨v,rfl,hk⟩;exact hk
 |halt x w'=>exact h.elim
def bR (P:Program) (o:Oper) (ft:List (Nat×SV)) (fk:List (Nat×aC)) (val:SV) (new upd:List (Nat×aC)):Prop:=
 ∀ρ a w,ZG ft fk new ρ a w->goes P o a w (λa' w'=>∃v ρ',a'=a.put o.dst v/\kN ρ w val new upd v ρ' w')
def find (l:List (Nat×aC)) (k:Nat):Option aC:=match l with
 |[]=>none
 |(j,b)::r=>match ϋ j k with|true=>some b|false=>find r k
theorem kO:∀{l:List (Nat×aC)} {k:Nat} {b:aC},find l k=some b->(k,b)∈l
 |(j,b')::r,k,b,h=>by
  unfold find at h;split at h
  ·rename_i hj;obtain rfl:j=k:=χ hj;cases h;exact η ..
  ·exact Δ _ (kO h)
theorem rQ:∀{l:List (Nat×aC)} {k:Nat},find l k=none->∀b,(k,b)∉l
 |[],_,_,_,hm=>by cases hm
 |(j,b')::r,k,h,b,hm=>by
  unfold find at h;split at h
  ·cases h
  ·rename_i hj;rcases Λ.1 hm with h1|h1
   ·cases h1;simp[Nat.beq_refl]at hj
   ·exact rQ h b h1
def lay (dst:Option Tmp) (val:SV) (ks:List (Nat×aC)) (s:Loc->LV):Loc->LV
 |.t n=>if dst=some n then .t (some val)else s (.t n)
 |.k n=>match find ks n with
  |some b=>.k (some b)
  |none=>s (.k n)
theorem Ol {dst:Option Tmp} {val:SV} {new upd:List (Nat×aC)} {W0:Nat->Prop} {w0:World} {n:Nat} {ρ:bY} {s:Loc->LV} {a:Act} {w:World} (h:R W0 w0 n ρ s a w)
  (gi:∀k b,(k,b)∈new->(s (.k k)).blk=none) (nF:∀k b,(k,b)∈upd->∃b0,(s (.k k)).blk=some b0/\b0.wr=true/\b0.data.live=true/\b.wr=true)
  (hdst:∀d,dst=some d->d<n) {v:Value} {ρ':bY} {w':World} (hp:kN ρ w val new upd v ρ' w'):
  ρ.Le ρ'/\(∀k,(s (.k k)).blk≠none->ρ'.key k=ρ.key k)/\(∀b o,ρ'.aW b=some o->ρ.aW b=some o\/w0.heap.size<=b)/\R W0 w0 n ρ' (lay dst val (upd++new) s) (a.put dst v) w':=by
 have dN:∀k b,(k,b)∈new->ρ.key k=none:=by
  intro k b hk;cases hx:ρ.key k with
  |none=>rfl
  |some x=>
   obtain⟨b',ie⟩:=h.hp.wW k x hx;rw[gi k b hk]at ie;cases ie
 have UL:∀k b x,(s (.k k)).blk=some b->b.data.live=true->ρ.key k=some x->x.1<w.heap.size:=by
  intro k b x hb hl hx;rcases h.hp.blk k b hb with h0|⟨b',t,vs,ex,h1,h2,_⟩|⟨h1,_⟩
  ·rw[hl]at h0;cases h0
  ·rw[hx]at h1;cases h1;rcases Ϝ b' w.heap.size with h'|h'
   ·exact h'
   ·simp[ϴ h']at h2
  ·rw[hx]at h1;cases h1
 have bZ:∀k x,ρ'.key k=some x->(∃b,(k,b)∈new)\/((∀b,(k,b)∉new)/\ρ.key k=some x):=by
  intro k x hx;rcases Classical.em (∃b,(k,b)∈new)with hk|hk
  ·exact .inl hk
  ·have kQ:∀b,(k,b)∉new:=λb hb=>hk ⟨b,hb⟩
   rw[hp.key k kQ]at hx;exact .inr ⟨kQ,hx⟩
 have s7:∀k b,find (upd++new) k=some b->(k,b)∈upd\/(k,b)∈new:=λk b hf=>ϖ.1 (kO hf)
 have yG:∀k,find (upd++new) k=none->(∀b,(k,b)∉upd)/\(∀b,(k,b)∉new):=λk hf=>
  ⟨λb hb=>rQ hf b (ϖ.2 (.inl hb)),λb hb=>rQ hf b (ϖ.2 (.inr hb))⟩
 have fX:∀k b,(lay dst val (upd++new) s (.k k)).blk=some b->(k,b)∈upd\/(k,b)∈new\/((∀b,(k,b)∉upd)/\(∀b,(k,b)∉new)/\(s (.k k)).blk=some b):=by
  intro k b hb;simp only[lay]at hb;cases hf:find (upd++new) k with
  |some b'=>
   rw[hf]at hb;cases hb;rcases s7 k _ hf with h1|h1
   ·exact .inl h1
   ·exact .inr (.inl h1)
  |none=>
   rw[hf]at hb;exact .inr (.inr ⟨(yG k hf).1,(yG k hf).2,hb⟩)
 have afP:∀k b,(k,b)∈upd->∀b',(k,b')∉new:=λk b hu b' hn=>by
  obtain⟨b0,h1,_⟩:=nF k b hu;rw[gi k b' hn]at h1;cases h1
 have UM:∀k b x,(s (.k k)).blk=some b->b.data.live=true->ρ.key k=some x->(∀b,(k,b)∉upd)->¬∃k' blk t,(k',blk)∈upd/\ρ.key k'=some (x.1,t):=by
  rintro k b x hb hl hx hku ⟨k',blk,t,hu,kQ⟩;obtain⟨b0,h1,h2,h3,_⟩:=nF k' blk hu;have a8:k'≠k:=λhe=>hku blk (he▸hu)
  have:=h.hp.sep k' k (x.1,t) x b0 b kQ hx a8 rfl h1 hb h3 hl;rw[h2]at this;cases this
 have Cu:∀k b,(k,b)∈upd->∀x,ρ.key k=some x->∀k2 b2 x2,(s (.k k2)).blk=some b2->b2.data.live=true->ρ.key k2=some x2->x2.1=x.1->k2=k:=by
  intro k b hu x hx k2 b2 x2 hb2 iD Om he;refine Ο λa8=> ?_
  obtain⟨b0,h1,h2,h3,_⟩:=nF k b hu;have:=h.hp.sep k k2 x x2 b0 b2 hx Om (λh=>a8 h.symm) he.symm h1 hb2 h3 iD;rw[h2]at this;cases this
 have adb:sR W0 w0 w':=by
  refine⟨hp.bE.os.trans h.bE.os,hp.bE.tape.trans h.bE.tape,hp.bE.output.trans h.bE.output,Ι h.bE.size hp.bE.size,λb hb hw=> ?_⟩;rw[hp.bE.block b (Ϟ hb h.bE.size) ?_,h.bE.block b hb hw];rintro⟨k,blk,t,hu,hk⟩;obtain⟨b0,h1,h2,h3,_⟩:=nF k blk hu;rcases h.hp.own k b0 _ h1 h2 h3 hk with h3|h3
  ·simp at h3;omega
  ·exact hw h3
 refine⟨hp.le,λk hk=>hp.key k (λb hb=>hk (gi k b hb)),λb o hb=>(hp.aW b o hb).imp id (λh1=>Ι h.bE.size h1.1), ?_⟩;refine {defers:= ?_,size:= ?_,fr:= ?_,bE:=adb,hp:= ?_}
 ·have hpd:(a.put dst v).defers=a.defers:=by cases hd:dst<;>simp[ajt]
  rw[hpd];obtain⟨Ds,d1,d2,d3⟩:=h.defers;refine⟨Ds,d1,d2,λD hD=> ?_⟩;obtain⟨e1,e2,e3⟩:=d3 D hD;have aE:D<w.heap.size:=(Array.getElem?_eq_some_iff.1 e2).1;refine⟨e1, ?_, ?_⟩
  ·rw[hp.bE.block D aE ?_,e2];rintro⟨k,blk,t,hu,hk⟩;obtain⟨b0,h1,h2,h3,_⟩:=nF k blk hu;rcases h.hp.blk k b0 h1 with h4|⟨b',t',vs,ex,h4,h5,_⟩|⟨h4,_⟩
   ·rw[h3]at h4;cases h4
   ·rw[hk]at h4;cases h4;rw[e2]at h5;exact Data.lO (abU h5).symm
   ·rw[hk]at h4;cases h4
  ·cases hx:ρ'.aW D with
   |none=>rfl
   |some o=>
    rcases hp.aW D o hx with h4|⟨h4,_⟩
    ·rw[e3]at h4;cases h4
    ·omega
 ·cases hd:dst<;>simp[ajt,h.size]
 ·intro t sv ht;simp only[lay]at ht;by_cases hd:dst=some t
  ·rw[if_pos hd]at ht;cases ht;have:(a.put dst v).tmps.getD t undef=v:=by
    have:=hdst t hd;simp[ajt,hd,h.size,this]
   rw[this];exact hp.has
  ·rw[if_neg hd]at ht;have:(a.put dst v).tmps.getD t undef=a.tmps.getD t undef:=by
    cases IC:dst with
    |none=>rfl
    |some d=>
     have a8:d≠t:=λhe=>hd (by rw[IC,he])
     simp[ajt,Array.getElem?_setIfInBounds_ne a8]
   rw[this];exact Has.mono hp.le _ _ (h.fr t sv ht)
 ·constructor
  ·-- blk
   intro k b hb;rcases fX k b hb with h1|h1|⟨h1,h2,h3⟩
   ·exact hp.blk k b (.inl h1)
   ·exact hp.blk k b (.inr h1)
   ·rcases h.hp.blk k b h3 with g0|⟨b',t,vs,ex,g1,g2,g3,g4,g5⟩|⟨g1,g2⟩
    ·exact .inl g0
    ·cases hl:b.data.live with
     |false=>exact .inl hl
     |true=>
      refine .inr (.inl ⟨b',t,vs,ex,hp.le.key _ _ g1, ?_,g3.mono hp.le,g4,g5⟩);rw[hp.bE.block b' (UL k b (b',t) h3 hl g1) (UM k b (b',t) h3 hl g1 h1)];exact g2
    ·exact .inr (.inr ⟨by rw[hp.key k h2];exact g1,g2⟩)
  ·-- sep
   intro k k' x x' b b' hx sU a8 he hb ie hl ux;have mixed:∀k k' x x' b b',ρ'.key k=some x->ρ.key k'=some x'->x.1=x'.1->(k,b)∈new->(∀b,(k',b)∉new)->(lay dst val (upd++new) s (.k k')).blk=some b'->b'.data.live=true->False:=by
    intro k k' x x' b b' hx sU he hn hn' ie ux;have hold:∃b2,(s (.k k')).blk=some b2/\b2.data.live=true:=by
     rcases fX k' b' ie with h1|h1|⟨_,_,h3⟩
     ·obtain⟨b0,g1,_,g3,_⟩:=nF k' b' h1;exact⟨b0,g1,g3⟩
     ·exact absurd h1 (hn' b')
     ·exact⟨b',h3,ux⟩
    obtain⟨b2,e1,e2⟩:=hold;rcases hp.B0 k b x hn hx with h1|⟨k0,b0,t,g1,g2,g3⟩
    ·have:=UL k' b2 x' e1 e2 sU;omega
    ·have:=Cu k0 b0 g1 _ g3 k' b2 x' e1 e2 sU he.symm;subst this;rcases fX k' b' ie with h1|h1|⟨h1,_,_⟩
     ·-- updated twice: the first found wins; it is live, so it is not the dead one alone
      have hf:find (upd++new) k'=some b':=by
       simp only[lay]at ie;cases hf:find (upd++new) k' with
       |some b3=>rw[hf]at ie;simp only[LV.blk,κ]at ie;rw[ie]
       |none=>exact absurd g1 ((yG k' hf).1 b0)
      exact hp.once k' b0 b' g1 h1 g2 ux
     ·exact absurd h1 (hn' b')
     ·exact absurd g1 (h1 b0)
   rcases bZ k x hx with⟨bk,hk⟩|⟨ua,hk⟩
   ·rcases bZ k' x' sU with⟨bk',kQ⟩|⟨hkn',kQ⟩
    ·exact absurd he (hp.Ok k bk k' bk' x x' hk kQ a8 hx sU)
    ·exact(mixed k k' x x' bk b' hx kQ he hk hkn' ie ux).elim
   ·rcases bZ k' x' sU with⟨bk',kQ⟩|⟨hkn',kQ⟩
    ·exact(mixed k' k x' x bk' b sU hk he.symm kQ ua hb hl).elim
    ·have hold:∀k b,(∀b,(k,b)∉new)->(lay dst val (upd++new) s (.k k)).blk=some b->b.data.live=true->∃b2,(s (.k k)).blk=some b2/\b2.data.live=true/\(b2.wr=b.wr\/b2.wr=true):=by
      intro k b hn hb hl;rcases fX k b hb with h1|h1|⟨_,_,h3⟩
      ·obtain⟨b0,g1,g2,g3,_⟩:=nF k b h1;exact⟨b0,g1,g3,.inr g2⟩
      ·exact absurd h1 (hn b)
      ·exact⟨b,h3,hl,.inl rfl⟩
     obtain⟨b2,e1,e2,e3⟩:=hold k b ua hb hl;obtain⟨b2',e1',e2',_⟩:=hold k' b' hkn' ie ux;have:=h.hp.sep k k' x x' b2 b2' hk kQ a8 he e1 e1' e2 e2';rcases e3 with e3|e3
     ·rw[<-e3];exact this
     ·rw[this]at e3;cases e3
  ·-- own
   intro k b x hb hw hl hx;rcases fX k b hb with h1|h1|⟨h1,h2,h3⟩
   ·obtain⟨b0,g1,g2,g3,_⟩:=nF k b h1;have N6:ρ.key k=some x:=by
     rcases bZ k x hx with⟨bk,hk⟩|⟨_,hk⟩
     ·rw[gi k bk hk]at g1;cases g1
     ·exact hk
    exact h.hp.own k b0 x g1 g2 g3 N6
   ·rcases hp.B0 k b x h1 hx with h4|⟨k0,b0,t,g1,g2,g3⟩
    ·exact .inl (Ι h.bE.size h4)
    ·obtain⟨b1,e1,e2,e3,_⟩:=nF k0 b0 g1;exact h.hp.own k0 b1 (x.1,t) e1 e2 e3 g3
   ·rw[hp.key k h2]at hx;exact h.hp.own k b x h3 hw hl hx
  ·-- dom
   intro k x hx;simp only[lay];cases hf:find (upd++new) k with
   |some b=>exact⟨b,rfl⟩
   |none=>
    rw[hp.key k (yG k hf).2]at hx;exact h.hp.wW k x hx
  ·-- imm
   intro b ob hb;rcases hp.aW b ob hb with h1|⟨_,h1,_⟩
   ·have h2:=h.hp.aW b ob h1;have aE:b<w.heap.size:=by
     rcases Ϝ b w.heap.size with h'|h'
     ·exact h'
     ·simp[ϴ h']at h2
    rw[hp.bE.block b aE ?_]
    ·exact h2
    ·rintro⟨k,blk,t,hu,hk⟩;obtain⟨b0,g1,g2,g3,_⟩:=nF k blk hu;have:=h.hp.fB k b0 _ g1 g2 g3 hk;rw[h1]at this;cases this
   ·exact h1
  ·-- immw
   intro k b x hb hw hl hx;cases hi:ρ'.aW x.1 with
   |none=>rfl
   |some ob=>
    exfalso;rcases fX k b hb with h1|h1|⟨h1,h2,h3⟩
    ·obtain⟨b0,g1,g2,g3,_⟩:=nF k b h1;have N6:ρ.key k=some x:=by
      rcases bZ k x hx with⟨bk,hk⟩|⟨_,hk⟩
      ·rw[gi k bk hk]at g1;cases g1
      ·exact hk
     rcases hp.aW _ _ hi with h4|⟨h4,_⟩
     ·have:=h.hp.fB k b0 x g1 g2 g3 N6;rw[h4]at this;cases this
     ·have:=UL k b0 x g1 g3 N6;omega
    ·rcases hp.aW _ _ hi with h4|⟨h6,_,h4⟩
     ·have h5:=h.hp.aW _ _ h4;rcases hp.B0 k b x h1 hx with h7|⟨k0,b0,t,g1,g2,g3⟩
      ·simp[ϴ h7]at h5
      ·obtain⟨b1,e1,e2,e3,_⟩:=nF k0 b0 g1;have:=h.hp.fB k0 b1 _ e1 e2 e3 g3;rw[h4]at this;cases this
     ·exact h4 k b x h1 hx rfl
    ·rw[hp.key k h2]at hx;rcases hp.aW _ _ hi with h4|⟨h4,_⟩
     ·have:=h.hp.fB k b x h3 hw hl hx;rw[h4]at this;cases this
     ·have:=UL k b x h3 hl hx;omega
theorem On {P:Program} {o:Oper} {ft:List (Nat×SV)} {fk:List (Nat×aC)} {val:SV} {new upd:List (Nat×aC)}
  (hop:bR P o ft fk val new upd) {W0:Nat->Prop} {w0:World} {n:Nat} {ρ:bY} {s:Loc->LV} {a:Act} {w:World} (h:R W0 w0 n ρ s a w)
  (dR:∀t sv,(t,sv)∈ft->(s (.t t)).sv=some sv) (oq:∀k b,(k,b)∈fk->(s (.k k)).blk=some b)
  (gi:∀k b,(k,b)∈new->(s (.k k)).blk=none) (hupd:∀k b,(k,b)∈upd->∃b0,(k,b0)∈fk/\b0.wr=true/\b0.data.live=true/\b.wr=true)
  (hdst:∀d,o.dst=some d->d<n):
  goes P o a w (λa' w'=>∃ρ',ρ.Le ρ'/\(∀k,(s (.k k)).blk≠none->ρ'.key k=ρ.key k)/\(∀b o,ρ'.aW b=some o->ρ.aW b=some o\/w0.heap.size<=b)/\R W0 w0 n ρ' (lay o.dst val (upd++new) s) a' w'):=by
 have dN:∀k b,(k,b)∈new->ρ.key k=none:=by
  intro k b hk;cases hx:ρ.key k with
  |none=>rfl
  |some x=>
   obtain⟨b',ie⟩:=h.hp.wW k x hx;rw[gi k b hk]at ie;cases ie
 have DQ:ZG ft fk new ρ a w:={
  dR:=λt sv ht=>h.fr t sv (dR t sv ht)
  oq:=λk b hk=>h.hp.blk k b (oq k b hk)
  sep:=λk k' x x' b b' hk kQ hx sU a8 he=>h.hp.sep k k' x x' b b' hx sU a8 he (oq k b hk) (oq k' b' kQ)
  aW:=h.hp.aW
  fB:=λk b x hk hw hl hx=>h.hp.fB k b x (oq k b hk) hw hl hx
  fresh:=dN}
 have nF:∀k b,(k,b)∈upd->∃b0,(s (.k k)).blk=some b0/\b0.wr=true/\b0.data.live=true/\b.wr=true:=λk b hk=>by
  obtain⟨b0,h1,h2,h3,h4⟩:=hupd k b hk;exact⟨b0,oq k b0 h1,h2,h3,h4⟩
 refine rP ?_ (hop ρ a w DQ);rintro a' w' ⟨v,ρ',rfl,hp⟩;exact⟨ρ',Ol h gi nF hdst hp⟩
end Go.Sx
namespace Go.Sx
def expand:SV->Option (List SV)
 |.nat n=>some [.val (.int .u64 (low n)),.val (.string (sQ n))]
 |.int z=>some [.nat z.natAbs,.val (.bool (decide (z<0)))]
 |.frac q=>some [.int q.num,.nat (q.den - 1)]
 |.agg cs=>some cs
 |_=>none
theorem c9 {ρ:bY}:∀{l r:List SV} {z y:List (List Value)},aw ρ l z->aw ρ r y->aw ρ (l++r) (z++y)
 |[],r,z,y,h,h'=>by simp only[aw]at h;subst h;exact h'
 |c::l,r,z,y,h,h'=>by
  simp only[aw]at h;obtain⟨x,t,rfl,h1,h2⟩:=h;simp only[List.cons_append,aw];exact⟨x,t++y,rfl,h1,c9 h2 h'⟩
theorem IM {ρ:bY} {c:SV} {l:List SV} {x:List Value} (he:expand c=some l) (h:aI ρ c x):∃z,aw ρ l z/\x=z.flatten:=by
 cases c<;>simp only[expand,κ,reduceCtorEq]at he
 case nat n=>
  subst he;simp only[aI]at h;refine⟨[[.int .u64 (low n)],[.string (sQ n)]], ?_, ?_⟩
  ·simp[aw,aI,aaq]
  ·rw[h];rfl
 case int z=>
  subst he;simp only[aI]at h;refine⟨[bU z.natAbs,[.bool (decide (z<0))]], ?_, ?_⟩
  ·simp[aw,aI,aaq]
  ·rw[h];rfl
 case frac q=>
  subst he;simp only[aI]at h;refine⟨[ef q.num,bU (q.den - 1)], ?_, ?_⟩
  ·simp[aw,aI]
  ·rw[h];simp[bL]
 case agg cs=>
  subst he;simpa only[aI]using h
def sub:Nat->List SV->Nat->Nat->Option (List SV)
 |0,_,_,_=>none
 |f+1,cs,off,w=>
  match w with
  |0=>some []
  |w'+1=>
   match cs with
   |[]=>none
   |c::r=>
    match agG c.width off with
    |true=>sub f r (off - c.width) (w'+1)
    |false=>
     match off with
     |0=>
      match agG c.width (w'+1)with
      |true=>
       match sub f r 0 (w'+1 - c.width)with
       |some l=>some (c::l)
       |none=>none
      |false=>
       match expand c with
       |some l=>sub f (l++r) 0 (w'+1)
       |none=>none
     |o'+1=>
      match expand c with
      |some l=>sub f (l++r) (o'+1) (w'+1)
      |none=>none
theorem vd {ρ:bY}:∀(f:Nat) (cs:List SV) (off w:Nat) (l:List SV) (z:List (List Value)),sub f cs off w=some l->aw ρ cs z->
  ∃y,aw ρ l y/\y.flatten=(z.flatten.drop off).take w/\(w=0\/off+w<=z.flatten.length):=by
 intro f;induction f with
 |zero=>intro cs off w l z h;simp[sub]at h
 |succ f ih=>
  intro cs off w l z h hz;unfold sub at h;cases w with
  |zero=>simp at h;subst h;exact⟨[],by simp[aw],by simp,.inl rfl⟩
  |succ w'=>
   simp only at h;cases cs with
   |nil=>simp at h
   |cons c r=>
    simp only at h;simp only[aw]at hz;obtain⟨x,t,rfl,hx,ht⟩:=hz;have hlen:=(aI.len c x hx).1;cases hb:agG c.width off with
    |true=>
     rw[hb]at h;have hle:=abW hb;obtain⟨y,h1,h2,h3⟩:=ih r (off - c.width) (w'+1) l t h ht;refine⟨y,h1, ?_, ?_⟩
     ·rw[h2];congr 1;simp only[ϐ];have UN:x.length<=off:=aa;rw[List.drop_append,ajZ UN,hlen];simp
     ·simp only[ϐ,ξ];omega
    |false=>
     rw[hb]at h;have XZ:¬c.width<=off:=λhle=>by rw[Nat.ble_eq_true_of_le hle]at hb;cases hb
     have ade:∀o',(match expand c with|some l'=>sub f (l'++r) o' (w'+1)|none=>none)=some l->∃y,aw ρ l y/\y.flatten=((x::t).flatten.drop o').take (w'+1)/\(w'+1=0\/o'+(w'+1)<=(x::t).flatten.length):=by
      intro o' h;cases he:expand c with
      |none=>rw[he]at h;simp at h
      |some l'=>
       rw[he]at h;obtain⟨zc,h1,rfl⟩:=IM he hx;obtain⟨y,h2,h3,h4⟩:=ih (l'++r) o' (w'+1) l (zc++t) h (c9 h1 ht);exact⟨y,h2,by rw[h3];simp,by simpa using h4⟩
     cases off with
     |succ o'=>exact ade (o'+1) h
     |zero=>
      simp only at h;cases hb2:agG c.width (w'+1)with
      |false=>rw[hb2]at h;exact ade 0 h
      |true=>
       rw[hb2]at h;have hle:=abW hb2;cases hs:sub f r 0 (w'+1 - c.width)with
       |none=>rw[hs]at h;simp at h
       |some l'=>
        rw[hs]at h;simp at h;subst h;obtain⟨y,h1,h2,h3⟩:=ih r 0 (w'+1 - c.width) l' t hs ht;refine⟨x::y,by simp only[aw];exact⟨x,y,rfl,hx,h1⟩, ?_, ?_⟩
        ·simp only[ϐ,afg]at h2 ⊢;have UN:x.length<=w'+1:=aa;rw[h2,List.take_append,ϛ UN,hlen]
        ·simp only[ϐ,ξ];omega
def put (f:Nat) (cs:List SV) (off w:Nat) (new:List SV):Option (List SV):=
 match sub f cs 0 off,sub f cs (off+w) (SV.cP cs - (off+w))with
 |some a,some b=>some (a++(new++b))
 |_,_=>none
theorem DR {ρ:bY} {f:Nat} {cs new l:List SV} {off w:Nat} {z y:List (List Value)} (h:put f cs off w new=some l) (hz:aw ρ cs z) (hy:aw ρ new y):
  ∃t,aw ρ l t/\t.flatten=z.flatten.take off++y.flatten++z.flatten.drop (off+w):=by
 unfold put at h;cases ha:sub f cs 0 off with
 |none=>rw[ha]at h;simp at h
 |some a=>
  cases hb:sub f cs (off+w) (SV.cP cs - (off+w))with
  |none=>rw[ha,hb]at h;simp at h
  |some b=>
   rw[ha,hb]at h;simp at h;subst h;obtain⟨ya,h1,h2,_⟩:=vd f cs 0 off a z ha hz;obtain⟨yb,h3,h4,_⟩:=vd f cs (off+w) _ b z hb hz;refine⟨ya++(y++yb),c9 h1 (c9 hy h3), ?_⟩;have hl:=(aw.len cs z hz).1;simp only[ϝ,h2,h4,afg,abA];congr 2;rw[ϛ (by rw[ϗ,hl];exact ζ _)]
inductive TK where
 |bool
 |int (k:IntKind)
 |str
 |agg (fields:List (Nat×TypeId×Nat))
 |arr (n:Nat) (e:TypeId)
 |aM (e:TypeId)
 |ptr (e:TypeId)
 |other
structure TI where
 kind:TK
 size:Nat
 bytes:Nat
 zero:List SV
def TK.isAgg:TK->Bool
 |.agg _|.arr _ _=>true
 |_=>false
def TK.ok (P:Program) (t:TypeId):TK->Prop
 |.bool=>P.underlying t=some .bool
 |.int k=>P.underlying t=some (.int k)
 |.str=>P.underlying t=some .string
 |.agg fs=>P.underlying t=some (.struct (P.fieldsOf t))/\(P.fieldsOf t).toList.map (λf=>(f.offset,f.type,P.cellsOf f.type))=fs/\(P.fieldsOf t).toList.all (λf=>(P.info? f.type).isSome)=true
 |.arr n e=>P.underlying t=some (.array n e)
 |.aM e=>P.underlying t=some (.slice e)
 |.ptr e=>P.underlying t=some (.pointer e)
 |.other=>∃d,P.underlying t=some d/\(match d with|.struct _|.array _ _=>true|_=>false)=false
def gj:SV->List Value
 |.val v=>[v]
 |.nat n=>bU n
 |.int z=>ef z
 |.frac q=>bL q
 |_=>[]
def ZH:SV->Bool
 |.val v=>v.oneCell'
 |.nat _|.int _|.frac _=>true
 |_=>false
structure b6 (P:Program) (t:TypeId) (ti:TI):Prop where
 kind:ti.kind.ok P t
 info:∃i z,P.info? t=some i/\i.size=ti.size/\i.bytes=ti.bytes/\i.zero=some z/\z.cells.toList=ti.zero.flatMap gj/\ti.zero.all ZH=true/\(z.cells.size=ti.size)/\z=(if ti.kind.isAgg then .agg z.cells else z.cells.getD 0 undef)
def dT (T:List (TypeId×TI)) (t:TypeId):Option TI:=match T with
 |[]=>none
 |(u,ti)::r=>match ϋ u t with|true=>some ti|false=>dT r t
def dz (P:Program):List (TypeId×TI)->Prop
 |[]=>True
 |(t,ti)::r=>b6 P t ti/\dz P r
theorem dz.get {P:Program}:∀{T:List (TypeId×TI)} {t:TypeId} {ti:TI},dz P T->dT T t=some ti->b6 P t ti
 |(u,ti')::r,t,ti,h,hf=>by
  unfold dT at hf;split at hf
  ·rename_i hu;obtain rfl:u=t:=χ hu;cases hf;exact h.1
  ·exact dz.get h.2 hf
theorem b6.of {P:Program} {t:TypeId} {ti:TI} {z:Value} (hk:ti.kind.ok P t) (h1:(P.info? t).map (λi=>(i.size,i.bytes,i.zero))=some (ti.size,ti.bytes,some z))
  (h2:z.cells.toList=ti.zero.flatMap gj) (h3:ti.zero.all ZH=true) (h4:z.cells.size=ti.size) (h5:z=(if ti.kind.isAgg then .agg z.cells else z.cells.getD 0 undef)):b6 P t ti:=by
 refine⟨hk, ?_⟩;cases hi:P.info? t with
 |none=>rw[hi]at h1;simp at h1
 |some i=>
  rw[hi]at h1;simp only[afy,κ,ς]at h1;exact⟨i,z,rfl,h1.1,h1.2.1,h1.2.2,h2,h3,h4,h5⟩
theorem Cv {ρ:bY} {c:SV} (h:ZH c=true):aI ρ c (gj c):=by
 cases c<;>simp[ZH]at h<;>simp[aI,gj,h]
theorem eE {ρ:bY}:∀{l:List SV},l.all ZH=true->aw ρ l (l.map gj)
 |[],_=>by simp[aw]
 |c::l,h=>by
  simp only[af7,Μ]at h;simp only[ϲ,aw];exact⟨_,_,rfl,Cv h.1,eE h.2⟩
theorem b6.isAgg {P:Program} {t:TypeId} {ti:TI} (h:b6 P t ti) (w:World):(Go.isAgg t).run P w= .ok ti.kind.isAgg w:=by
 unfold Go.isAgg;rw[Β];have hk:=h.kind;cases Cw:ti.kind<;>rw[Cw]at hk<;>simp only[TK.ok]at hk
 case other=>obtain⟨d,h1,h2⟩:=hk;rw[run_underlying h1];cases d<;>simp_all [TK.isAgg]
 case agg fs=>rw[run_underlying hk.1];rfl
 all_goals (rw[run_underlying hk];rfl)
theorem b6.sizeOf {P:Program} {t:TypeId} {ti:TI} (h:b6 P t ti) (w:World):(aiK t).run P w= .ok ti.size w:=by
 obtain⟨i,z,h1,h2,_⟩:=h.info;simp[aiK,typeInfo,h1,h2]
theorem b6.zeroValue {P:Program} {t:TypeId} {ti:TI} (h:b6 P t ti):∃z,(∀w,(abc t).run P w= .ok z w)/\z.cells.toList=ti.zero.flatMap gj:=by
 obtain⟨i,z,h1,h2,h3,h4,h5,_⟩:=h.info;exact⟨z,λw=>by simp[abc,typeInfo,h1,h4],h5⟩
def qJ:SV->Option (List SV)
 |.any=>none
 |.bQ _=>none
 |.agg cs=>some cs
 |c=>some [c]
theorem ml {ρ:bY} {c:SV} {l:List SV} {v:Value} (h:qJ c=some l) (hv:Has ρ c v):∃z,aw ρ l z/\v.cells.toList=z.flatten:=by
 have one:∀c:SV,∀x,aI ρ c x->c.width=1->c.aZ=true->(cV c x).cells.toList=x:=by
  intro c x hx hw h1;obtain⟨h2,h3⟩:=aI.len c x hx;rw[hw]at h2
  match x,h2 with
  |[v],_=>
   have:=h3 v (by simp);simp only[cV,h1,if_true,ads];cases v<;>simp_all [aj5,aaq]
 have many:∀c:SV,∀x:List Value,c.aZ=false->(cV c x).cells.toList=x:=by
  intro c x h1;simp[cV,h1,aj5]
 have adf:∀c:SV,∀x,aI ρ c x->aw ρ [c] [x]:=λc x hx=>by simp only[aw];exact⟨x,[],rfl,hx,rfl⟩
 cases c<;>simp only[qJ,κ,reduceCtorEq]at h<;>subst h<;>simp only[Has]at hv
 case agg cs=>
  obtain⟨x,h1,rfl⟩:=hv;simp only[aI]at h1;obtain⟨z,h2,rfl⟩:=h1;exact⟨z,h2,by simp[cV,SV.aZ,aj5]⟩
 case atom p=>
  obtain⟨x,h1,rfl⟩:=hv;refine⟨[x],adf _ _ h1, ?_⟩;simp only[ϐ,acY,ϣ];cases hb:p.bare with
  |true=>exact one (.atom p) x h1 (by simp[SV.width,p.u9 hb]) (by simp[SV.aZ,hb])
  |false=>exact many (.atom p) x (by simp[SV.aZ,hb])
 all_goals
  obtain⟨x,h1,rfl⟩:=hv;refine⟨[x],adf _ _ h1, ?_⟩;simp only[ϐ,acY,ϣ]
  first
   |exact one _ x h1 rfl rfl
   |exact many _ x rfl
def eR (ti:TI) (l:List SV):Option SV:=
 match ti.kind.isAgg with
 |true=>match l with
  |[c]=>match c.aZ with
   |false=>some c
   |true=>some (.agg [c])
  |l=>some (.agg l)
 |false=>match l with
  |[c]=>match c.aZ with
   |true=>some c
   |false=>none
  |_=>none
theorem nG {ρ:bY} {ti:TI} {l:List SV} {c:SV} {z:List (List Value)} {v:Value} (h:eR ti l=some c) (hz:aw ρ l z)
  (hv:v=if ti.kind.isAgg then .agg z.flatten.toArray else z.flatten.headD undef):Has ρ c v:=by
 have ZI:∀l z,aw ρ l z->Has ρ (.agg l) (.agg z.flatten.toArray):=λl z hz=>by
  simp only[Has,aI,cV,SV.aZ];exact⟨_,⟨z,hz,rfl⟩,rfl⟩
 have ZJ:∀(c:SV) x,aI ρ c x->c.aZ=false->Has ρ c (.agg x.toArray):=by
  intro c x hx h1;cases c<;>simp only[SV.aZ,Bool.true_eq_false]at h1<;>simp only[Has]
  case bQ=>simp only[aI]at hx
  all_goals exact⟨x,hx,by simp[cV,SV.aZ,h1]⟩
 have aZ:∀(c:SV) x,aI ρ c x->c.aZ=true->Has ρ c (x.headD undef):=by
  intro c x hx h1;cases c<;>simp only[SV.aZ,Κ]at h1<;>simp only[Has]
  all_goals exact⟨x,hx,by simp[cV,SV.aZ,h1]⟩
 unfold eR at h;cases ha:ti.kind.isAgg with
 |true=>
  rw[ha]at h hv;simp only[if_true]at hv h;subst hv
  match l,hz with
  |[],hz=>simp at h;subst h;exact ZI [] z hz
  |[d],hz=>
   simp only[aw]at hz;obtain⟨x,r,rfl,h1,rfl⟩:=hz;simp only at h;cases hd:d.aZ with
   |false=>rw[hd]at h;simp at h;subst h;simpa using ZJ d x h1 hd
   |true=>rw[hd]at h;simp at h;subst h;exact ZI [d] [x] (by simp only[aw];exact⟨x,[],rfl,h1,rfl⟩)
  |d::e::r,hz=>simp at h;subst h;exact ZI _ z hz
 |false=>
  rw[ha]at h hv;simp only[Κ,if_false]at hv h;subst hv
  match l,hz with
  |[],_=>simp at h
  |[d],hz=>
   simp only[aw]at hz;obtain⟨x,r,rfl,h1,rfl⟩:=hz;simp only at h;cases hd:d.aZ with
   |false=>rw[hd]at h;simp at h
   |true=>rw[hd]at h;simp at h;subst h;simpa using aZ d x h1 hd
  |d::e::r,_=>simp at h
end Go.Sx
namespace Go.Sx
def bg (ft:List (Nat×SV)) (x:Operand) (c:SV):Prop:=∀ρ a,(∀t s,(t,s)∈ft->Has ρ s (a.tmps.getD t undef))->Has ρ c (acV a x)
def lk (l:List (Nat×SV)) (t:Nat):Option SV:=match l with
 |[]=>none
 |(u,s)::r=>match ϋ u t with|true=>some s|false=>lk r t
theorem Oo:∀{l:List (Nat×SV)} {t:Nat} {s:SV},lk l t=some s->(t,s)∈l
 |(u,s')::r,t,s,h=>by
  unfold lk at h;split at h
  ·rename_i hu;obtain rfl:u=t:=χ hu;cases h;exact η ..
  ·exact Δ _ (Oo h)
def ev (fr:List (Nat×SV)):Operand->Option SV
 |.tmp t=>lk fr t
 |.const v=>match v.oneCell' with
  |true=>some (.val v)
  |false=>none
 |.func f=>some (.clo f [] [])
 |.global g=>some (.val (.pointer (some ⟨g,0,none⟩)))
theorem ai {fr:List (Nat×SV)} {x:Operand} {c:SV} (h:ev fr x=some c):bg fr x c:=by
 intro ρ a hf;cases x with
 |tmp t=>exact hf t c (Oo h)
 |const v=>
  simp only[ev]at h;cases hv:v.oneCell' with
  |false=>rw[hv]at h;simp at h
  |true=>
   rw[hv]at h;simp at h;subst h;simp only[Has,acV];exact⟨[v],by simp[aI,hv],by simp[cV,SV.aZ]⟩
 |func f=>
  simp only[ev,κ]at h;subst h;simp only[Has,acV];exact⟨[.func (.func f) #[] #[]],by simp only[aI];exact⟨[],[],by simp[aw],by simp[aw],by simp⟩,by simp[cV,SV.aZ]⟩
 |global g=>
  simp only[ev,κ]at h;subst h;simp only[Has,acV];exact⟨[.pointer (some ⟨g,0,none⟩)],by simp[aI,aaq],by simp[cV,SV.aZ]⟩
structure Res where
 ob:Prop
 val:SV
 fk:List (Nat×aC)
 new:List (Nat×aC)
 upd:List (Nat×aC)
theorem kN.pure {ρ:bY} {w:World} {c:SV} {v:Value} (h:Has ρ c v):kN ρ w c [] [] v ρ w:=
 ⟨.refl ρ,h,λ_ _=>rfl,.refl _ w,(λk b h=>by rcases h with h|h<;>cases h),(λ_ _ _ h=>by cases h),(λk b x h=>by cases h),(λk b k' b' x x' h=>by cases h),λb o h=>.inl h⟩
section
variable {P:Program} {o:Oper} {ft:List (Nat×SV)} {fk new upd:List (Nat×aC)} {c:SV}
theorem dU (h:∀ρ a w,ZG ft fk new ρ a w->∃v w' ρ',(execOp a.eval o).run P w= .ok (.value v) w'/\kN ρ w c new upd v ρ' w'):bR P o ft fk c new upd:=by
 intro ρ a w hp;obtain⟨v,w',ρ',h1,h2⟩:=h ρ a w hp;unfold goes;rw[h1];exact⟨v,ρ',rfl,h2⟩
theorem Kv (h:∀ρ a w,ZG ft fk new ρ a w->∃w' ρ',(execOp a.eval o).run P w= .ok .skip w'/\kN ρ w c new upd undef ρ' w'):bR P o ft fk c new upd:=by
 intro ρ a w hp;obtain⟨w',ρ',h1,h2⟩:=h ρ a w hp;unfold goes;rw[h1];exact⟨undef,ρ',rfl,h2⟩
theorem br (h:∀ρ a w,ZG ft fk [] ρ a w->∃v,(execOp a.eval o).run P w= .ok (.value v) w/\Has ρ c v):bR P o ft fk c [] []:=
 dU λρ a w hp=>by
  obtain⟨v,h1,h2⟩:=h ρ a w hp;exact⟨v,w,ρ,h1,.pure h2⟩
theorem Kw {x:Operand} (ho:o.op= .move x\/o.op= .assign x) (hx:bg ft x c):bR P o ft fk c [] []:=
 br λρ a w hp=>⟨a.eval x,by rcases ho with ho|ho<;>simp[execOp,ho],hx ρ a hp.dR⟩
theorem FV {ρ:bY} {w:World} {k:Nat} {ty:TypeId} {wr:Bool} {d:Data} {vs:List Value} (hk:ρ.key k=none) (hd:df ρ d vs) (hL:d.qH=false:=by rfl):
  kN ρ w (.ptr k 0 0 0) [(k,⟨ty,wr,d⟩)] [] (.pointer (some ⟨w.heap.size,0,none⟩)) ⟨λj=>if j=k then some (w.heap.size,vs.length)else ρ.key j,ρ.aW,ρ.cA⟩ (w.alloc (.cells vs.toArray ty (0,0))):=by
 have hle:ρ.Le ⟨λj=>if j=k then some (w.heap.size,vs.length)else ρ.key j,ρ.aW,ρ.cA⟩:=⟨λj x hx=>by
  show(if j=k then _ else _)=_;by_cases hj:j=k
  ·subst hj;rw[hk]at hx;cases hx
  ·rw[if_neg hj];exact hx,λb ob hb=>hb⟩
 refine⟨hle, ?_, ?_, ?_, ?_,(λ_ _ _ h=>by cases h), ?_, ?_,λb ob hb=>.inl hb⟩
 ·simp only[Has,aI];exact⟨_,⟨w.heap.size,vs.length,by simp,rfl⟩,by simp[cV,SV.aZ]⟩
 ·intro j hj;show(if j=k then _ else _)=_;rw[if_neg];rintro rfl;exact hj _ (List.mem_cons_self ..)
 ·exact .ic ((RowKit.Below.refl _ _).alloc (Nat.le_refl _) _)
 ·intro j b hj;rcases hj with hj|hj
  ·cases hj
  ·simp only[List.mem_singleton,Prod.mk.injEq]at hj;obtain⟨rfl,rfl⟩:=hj;refine .inr (.inl ⟨w.heap.size,vs.length,vs,[],by simp, ?_,hd.mono hle,by simp,by simp⟩);rw[List.append_nil,Data.cK hL];exact heap_alloc_new _ _
 ·intro j b x hj hx;simp only[List.mem_singleton,Prod.mk.injEq]at hj;obtain⟨rfl,rfl⟩:=hj;simp at hx;rw[<-hx];exact .inl (Nat.le_refl _)
 ·intro j b j' b' x x' hj qm a8;simp only[List.mem_singleton,Prod.mk.injEq]at hj qm;exact absurd (hj.1.trans qm.1.symm) a8
theorem ZK {x:Operand} {elem:TypeId} {k:Nat} {sv:SV} {cs:List SV} (ho:o.op= .box elem x) (hx:bg ft x sv) (hc:qJ sv=some cs):
  bR P o ft fk (.ptr k 0 0 0) [(k,⟨elem,true,.one cs⟩)] []:=
 dU λρ a w hp=>by
  obtain⟨z,h1,h2⟩:=ml hc (hx ρ a hp.dR);refine⟨_,_,_, ?_,FV (ty:=elem) (wr:=true) (d:=.one cs) (vs:=z.flatten) (hp.fresh k _ (η ..)) ⟨z,h1,rfl⟩⟩;have:(a.eval x).cells=z.flatten.toArray:=by rw[<-h2]
  simp[execOp,ho,amg,newVar,newRow,this]
theorem Oq {elem:TypeId} {k:Nat} {ti:TI} (ho:o.op= .alloc elem) (ht:b6 P elem ti):
  bR P o ft fk (.ptr k 0 0 0) [(k,⟨elem,true,.one ti.zero⟩)] []:=
 dU λρ a w hp=>by
  obtain⟨z,h1,h2⟩:=ht.zeroValue;obtain⟨_,_,_,_,_,_,_,hz,_⟩:=ht.info;refine⟨_,_,_, ?_,FV (ty:=elem) (wr:=true) (d:=.one ti.zero) (vs:=ti.zero.flatMap gj) (hp.fresh k _ (η ..)) ⟨_,eE hz,by simp[List.flatMap]⟩⟩;have:z.cells=(ti.zero.flatMap gj).toArray:=by rw[<-h2]
  simp[execOp,ho,Instr.alloc,newVar,newRow,this,h1]
def DS:Option Prop->Prop
 |none=>True
 |some p=>p
def ZL (ob:Option Prop) (k:Prop):Prop:=match ob with
 |none=>k
 |some p=>p/\k
theorem cy {ob:Option Prop} {k:Prop} (h:ZL ob k):DS ob/\k:=by
 cases ob with
 |none=>exact⟨trivial,h⟩
 |some p=>exact h
def elem (d:Data) (s i:Nat):Option (Option Prop×List SV):=
 match d with
 |.one cs=>match i with
  |0=>some (none,cs)
  |_+1=>none
 |.ints kd xs=>match ϋ s 1 with
  |true=>some (some (i<xs.length),[.val (.int kd (xs.getD i 0))])
  |false=>none
 |.cf xs=>match ϋ s 5 with
  |true=>some (some (i<xs.length),[.frac (xs.getD i 0)])
  |false=>none
 |.seq w xs=>match ϋ s w with
  |true=>some (some (i<xs.length),[xs.getD i .any])
  |false=>none
 |.dead=>none
 |.loop _=>none
theorem uy {d:Data} {s i:Nat} {r:Option Prop×List SV} (h:elem d s i=some r):d.qH=false:=by
 cases d<;>first|rfl|(simp[elem]at h)
theorem nH {α:Type} (f:α->List Value) (n:Nat) (d:α):∀(xs:List α),(∀x∈xs,(f x).length=n)->∀i,i<xs.length->((xs.flatMap f).drop (i*n)).take n=f (xs.getD i d)
 |x::xs,h,0,_=>by
  have hx:=h x (η ..);simp only[abi,aeC,afg,List.getD_cons_zero];rw[<-hx,List.take_left]
 |x::xs,h,i+1,hi=>by
  have hx:=h x (η ..);have ih:=nH f n d xs (λy hy=>h y (Δ _ hy)) i (by simpa using hi);simp only[abi,List.getD_cons_succ];have e:(i+1)*n=(f x).length+i*n:=by rw[hx,ϯ];omega
  rw[e,afS];exact ih
theorem qK {α:Type} (f:α->List Value) (n:Nat):∀(xs:List α),(∀x∈xs,(f x).length=n)->(xs.flatMap f).length=xs.length*n
 |[],_=>by simp
 |x::xs,h=>by
  have hx:=h x (η ..);have ih:=qK f n xs (λy hy=>h y (Δ _ hy));simp only[abi,ξ,ϊ,hx,ih,ϯ];omega
theorem qL {ρ:bY}:∀{xs:List SV} {z:List (List Value)},aw ρ xs z->∀i,i<xs.length->aI ρ (xs.getD i .any) (z.getD i [])/\z.length=xs.length
 |c::xs,z,h,0,_=>by
  simp only[aw]at h;obtain⟨x,r,rfl,h1,h2⟩:=h;refine⟨by simpa using h1, ?_⟩;cases xs with
  |nil=>simp only[aw]at h2;subst h2;rfl
  |cons c' xs=>have:=(qL h2 0 (by simp)).2;simp[this]
 |c::xs,z,h,i+1,hi=>by
  simp only[aw]at h;obtain⟨x,r,rfl,h1,h2⟩:=h;obtain⟨h3,h4⟩:=qL h2 i (by simpa using hi);exact⟨by simpa using h3,by simp[h4]⟩
theorem zB {i n s:Nat} (h:i<n):i*s+s<=n*s:=by
 have:=ο s (Nat.succ_le_of_lt h);rw[ϯ]at this;exact this
theorem zC {ρ:bY} {d:Data} {s i:Nat} {ob:Option Prop} {cs:List SV} {vs:List Value} (h:elem d s i=some (ob,cs)) (jH:DS ob) (hd:df ρ d vs):
  ∃z,aw ρ cs z/\z.flatten=(vs.drop (i*s)).take z.flatten.length/\i*s+z.flatten.length<=vs.length:=by
 cases d with
 |dead=>simp[elem]at h
 |loop rc=>simp[elem]at h
 |one cs'=>
  simp only[elem]at h;cases i with
  |succ i=>simp at h
  |zero=>
   simp at h;obtain⟨_,rfl⟩:=h;simp only[df]at hd;obtain⟨z,h1,rfl⟩:=hd;exact⟨z,h1,by rw[ϛ]<;>simp,by simp⟩
 |ints kd xs=>
  simp only[elem]at h;cases hs:ϋ s 1 with
  |false=>rw[hs]at h;simp at h
  |true=>
   rw[hs]at h;obtain rfl:s=1:=χ hs;simp only[κ,ς]at h;obtain⟨rfl,rfl⟩:=h;have jH:i<xs.length:=jH;simp only[df]at hd;subst hd;refine⟨[[.int kd (xs.getD i 0)]],by simp[aw,aI,aaq], ?_,by simp;omega⟩;have:=nH (λx:Int=>[adt kd x]) 1 0 xs (λ_ _=>rfl) i jH;rw[show xs.map (adt kd)=xs.flatMap (λx=>[adt kd x])from by rw[afd]];exact this.symm
 |cf xs=>
  simp only[elem]at h;cases hs:ϋ s 5 with
  |false=>rw[hs]at h;simp at h
  |true=>
   rw[hs]at h;obtain rfl:s=5:=χ hs;simp only[κ,ς]at h;obtain⟨rfl,rfl⟩:=h;have jH:i<xs.length:=jH;simp only[df]at hd;subst hd;refine⟨[bL (xs.getD i 0)],by simp[aw,aI], ?_, ?_⟩
   ·have:=nH bL 5 0 xs (λx _=>(dF x).1) i jH;simp only[ϐ,acY,ϣ];rw[(dF _).1];exact this.symm
   ·simp only[ϐ,acY,ϣ];rw[(dF _).1,qK bL 5 xs (λx _=>(dF x).1)];exact zB jH
 |seq w xs=>
  simp only[elem]at h;cases hs:ϋ s w with
  |false=>rw[hs]at h;simp at h
  |true=>
   rw[hs]at h;obtain rfl:s=w:=χ hs;simp only[κ,ς]at h;obtain⟨rfl,rfl⟩:=h;have jH:i<xs.length:=jH;simp only[df]at hd;obtain⟨z,h1,rfl,h2⟩:=hd;have h1:=aw.mono (qG ρ ρ.cA) _ _ h1;obtain⟨h3,h4⟩:=qL h1 i jH;have hw:∀(l:List SV) (y:List (List Value)),aw ρ l y->(∀x∈l,x.width=s)->∀u∈y,(id u).length=s:=by
    intro l;induction l with
    |nil=>intro y hy _ u hu;simp only[aw]at hy;subst hy;cases hu
    |cons c l ih=>
     intro y hy hc u hu;simp only[aw]at hy;obtain⟨x,r,rfl,g1,g2⟩:=hy;rcases Λ.1 hu with rfl|hu
     ·rw[id,(aI.len c _ g1).1];exact hc c (η ..)
     ·exact ih r g2 (λx hx=>hc x (Δ _ hx)) u hu
   have pk:=hw xs z h1 h2;have hi:i<z.length:=aa;have hlen:(z.getD i []).length=s:=by
    have:=pk (z.getD i []) (by simp[hi]);simpa using this
   refine⟨[z.getD i []],by simp only[aw];exact⟨_,[],rfl,h3,rfl⟩, ?_, ?_⟩
   ·have:=nH id s [] z pk i hi;simp only[ϐ,acY,ϣ,hlen];rw[ahY]at this;exact this.symm
   ·simp only[ϐ,acY,ϣ,hlen];have:=qK id s z pk;rw[ahY]at this;rw[this,h4];exact zB jH
theorem nI {L y:List Value} {off n:Nat} (h:y=(L.drop off).take n):∀j v,y[j]? =some v->L[off+j]? =some v:=by
 intro j v hj;subst h;rw[ahL]at hj;split at hj
 ·rw[List.getElem?_drop]at hj;exact hj
 ·cases hj
theorem xS {t:TypeId} {ti:TI} (ht:b6 P t ti) {w:World} {b off:Nat} {L:List Value} {ty:TypeId} {fz:Nat×Nat} {y:List Value} (hh:w.heap[b]? =some (.cells L.toArray ty fz))
  (hy:y=(L.drop off).take ti.size) (hle:off+ti.size<=L.length) (h1:ti.kind.isAgg=true\/ti.size=1):
  (loadVar t ⟨b,off,none⟩).run P w= .ok (if ti.kind.isAgg then .agg y.toArray else y.headD undef) w:=by
 have hlen:y.length=ti.size:=by rw[hy,ψ,ϗ];omega
 have zD:∀j v,y[j]? =some v->w.cell? ((⟨b,off,none⟩:Addr).add j)=some v:=by
  intro j v hj;have h2:=nI hy j v hj;have hZ:(⟨b,off,none⟩:Addr).add j=⟨b,off+j,none⟩:=by unfold agl;split<;>simp_all
  rw[hZ,cell_of_row w b (off+j) _ ty fz hh];simpa using h2
 unfold loadVar;rw[Β,ht.isAgg];cases ha:ti.kind.isAgg with
 |true=>
  have hl:=run_loadCells_list (P:=P) w ⟨b,off,none⟩ y zD;rw[hlen]at hl;simp[ht.sizeOf,hl]
 |false=>
  rcases h1 with h1|h1
  ·rw[ha]at h1;cases h1
  ·match y,hlen,zD with
   |[],hlen,_=>simp at hlen;omega
   |v::r,_,zD=>
    have:=zD 0 v rfl;simp only[agl,if_true]at this;simp[this]
theorem Kx {ρ:bY} {w:World} {t:TypeId} {ti:TI} {k s i r f b n:Nat} {blk:aC} {ob:Option Prop} {cs l:List SV} (ht:b6 P t ti) (bZ:ρ.key k=some (b,n)) (hb:jl ρ w k blk)
  (he:elem blk.data s i=some (ob,cs)) (jH:DS ob) (hs:sub f cs r ti.size=some l) (gM:ti.size≠0) (hsh:eR ti l=some c):∃v,(loadVar t ⟨b,i*s+r,none⟩).run P w= .ok v w/\Has ρ c v:=by
  rcases hb with h0|⟨b',n',vs,ex,h1,h2,h3,h4,h5⟩|⟨h1,h2⟩
  case inl=>cases w8:blk.data<;>rw[w8]at h0 he<;>simp[Data.live,elem]at h0 he
  case inr.inr=>rw[bZ]at h1;cases h1
  rw[bZ]at h1;cases h1;rw[Data.cK (uy he)]at h2;obtain⟨z,g1,g2,g3⟩:=zC he jH h3;obtain⟨y,e1,e2,e3⟩:=vd f cs r ti.size l z hs g1;have e3:=e3.resolve_left gM;have hy:y.flatten=((vs++ex).drop (i*s+r)).take ti.size:=by
   rw[e2,g2,List.drop_take,afZ,List.take_take,acR aa,aji aa,adn (by simp;omega)]
  have w9:ti.kind.isAgg=true\/ti.size=1:=by
   cases ha:ti.kind.isAgg with
   |true=>exact .inl rfl
   |false=>
    right;unfold eR at hsh;rw[ha]at hsh
    match l,hsh,e1 with
    |[d],hsh,e1=>
     simp only[aw]at e1;obtain⟨u,_,rfl,d1,rfl⟩:=e1;have hd:d.aZ=true:=by
      cases hd:d.aZ with
      |true=>rfl
      |false=>simp only at hsh;rw[hd]at hsh;simp at hsh
     have UO:d.width=1:=by
      cases d<;>simp only[SV.aZ,Κ]at hd<;>simp only[SV.width]
      exact Pred.u9 _ hd
     have:=(aI.len d u d1).1;simp only[ϐ,acY,ϣ]at e2;have h7:=congrArg aki e2;rw[ψ,ϗ]at h7;omega
    |[],hsh,_=>simp at hsh
    |_::_::_,hsh,_=>simp at hsh
  exact⟨_,xS ht (P:=P) h2 hy (by simp;omega) w9,nG hsh e1 rfl⟩
theorem yH {t:TypeId} {x:Operand} {ti:TI} {k s i r f:Nat} {blk:aC} {ob:Option Prop} {cs l:List SV} (ho:o.op= .load t x) (hx:bg ft x (.ptr k s i r)) (ht:b6 P t ti)
  (hk:(k,blk)∈fk) (he:elem blk.data s i=some (ob,cs)) (jH:DS ob) (hs:sub f cs r ti.size=some l) (gM:ti.size≠0) (hsh:eR ti l=some c):bR P o ft fk c [] []:=
 br λρ a w hp=>by
  have hx:=hx ρ a hp.dR;simp only[Has,aI]at hx;obtain⟨_,⟨b,n,bZ,rfl⟩,hv⟩:=hx;simp only[cV,SV.aZ,if_true,ads]at hv;obtain⟨v,h1,h2⟩:=Kx ht bZ (hp.oq k blk hk) he jH hs gM hsh;exact⟨v,by simp[execOp,ho,alO,aga,hv,h1],h2⟩
end
end Go.Sx
namespace Go.Sx
theorem qM {P:Program} {t:TypeId} (h:(P.info? t).isSome=true) (w:World):(aiK t).run P w= .ok (P.cellsOf t) w:=by
 cases hi:P.info? t with
 |none=>rw[hi]at h;cases h
 |some i=>simp[aiK,typeInfo,hi,Program.cellsOf]
def jm (d:Data) (i:Nat) (cs:List SV):Option Data:=
 match d with
 |.one _=>match i with
  |0=>some (.one cs)
  |_+1=>none
 |.ints kd xs=>match cs with
  |[.val (.int kd' n)]=>if kd'=kd then some (.ints kd (xs.set i n))else none
  |_=>none
 |.cf xs=>match cs with
  |[.frac q]=>some (.cf (xs.set i q))
  |_=>none
 |.seq w xs=>match cs with
  |[c]=>match ϋ c.width w&&bI c with
   |true=>some (.seq w (xs.set i c))
   |false=>none
  |_=>none
 |.dead=>none
 |.loop _=>none
theorem ub {d d':Data} {i:Nat} {cs:List SV} (h:jm d i cs=some d'):d'.qH=false:=by
 cases d<;>simp only[jm,reduceCtorEq]at h<;>(repeat' split at h)<;>first|(cases h;rfl)|cases h
theorem nJ {α:Type} (f:α->List Value) (n:Nat):∀(xs:List α),(∀x∈xs,(f x).length=n)->∀i q,i<xs.length->(xs.set i q).flatMap f=(xs.flatMap f).take (i*n)++f q++(xs.flatMap f).drop (i*n+n)
 |x::xs,h,0,q,_=>by
  have hx:=h x (η ..);simp only[agb,abi,aeC,agq,aln,υ];rw[<-hx,aly]
 |x::xs,h,i+1,q,hi=>by
  have hx:=h x (η ..);have ih:=nJ f n xs (λy hy=>h y (Δ _ hy)) i q (by simpa using hi);simp only[agc,abi,ih];have e:(i+1)*n=(f x).length+i*n:=by rw[hx,ϯ];omega
  rw[e,agU,af1,afS];simp
theorem FW {ρ:bY}:∀{xs:List SV} {z:List (List Value)},aw ρ xs z->∀i c x,aI ρ c x->aw ρ (xs.set i c) (z.set i x)
 |[],z,h,i,c,x,_=>by simp only[aw]at h;subst h;simp[aw]
 |d::xs,z,h,0,c,x,hx=>by
  simp only[aw]at h;obtain⟨y,r,rfl,h1,h2⟩:=h;simp only[agb,aw];exact⟨x,r,rfl,hx,h2⟩
 |d::xs,z,h,i+1,c,x,hx=>by
  simp only[aw]at h;obtain⟨y,r,rfl,h1,h2⟩:=h;simp only[agc,aw];exact⟨y,_,rfl,h1,FW h2 i c x hx⟩
theorem gk {ρ:bY} {s:Nat}:∀(l:List SV) (y:List (List Value)),aw ρ l y->(∀x∈l,x.width=s)->∀u∈y,(id u).length=s
 |[],y,hy,_,u,hu=>by simp only[aw]at hy;subst hy;cases hu
 |c::l,y,hy,hc,u,hu=>by
  simp only[aw]at hy;obtain⟨x,r,rfl,g1,g2⟩:=hy;rcases Λ.1 hu with rfl|hu
  ·rw[id,(aI.len c _ g1).1];exact hc c (η ..)
  ·exact gk l r g2 (λx hx=>hc x (Δ _ hx)) u hu
theorem xT {ρ:bY} {d d':Data} {s i:Nat} {ob:Option Prop} {cs cs':List SV} {vs:List Value} {z':List (List Value)} (h:elem d s i=some (ob,cs)) (jH:DS ob) (hd:df ρ d vs)
  (h':jm d i cs'=some d') (hz:aw ρ cs' z') (hlen:z'.flatten.length=SV.cP cs):
  df ρ d' (vs.take (i*s)++z'.flatten++vs.drop (i*s+SV.cP cs)):=by
 cases d with
 |dead=>simp[elem]at h
 |loop rc=>simp[elem]at h
 |one cs0=>
  simp only[elem]at h;cases i with
  |succ i=>simp at h
  |zero=>
   simp at h;obtain⟨_,rfl⟩:=h;simp only[jm,κ]at h';subst h';simp only[df]at hd ⊢;obtain⟨z,h1,rfl⟩:=hd;refine⟨z',hz, ?_⟩;rw[ajZ (by rw[(aw.len _ _ h1).1];omega)];simp
 |ints kd xs=>
  simp only[elem]at h;cases hs:ϋ s 1 with
  |false=>rw[hs]at h;simp at h
  |true=>
   rw[hs]at h;obtain rfl:s=1:=χ hs;simp only[κ,ς]at h;obtain⟨rfl,rfl⟩:=h;have jH:i<xs.length:=jH;unfold jm at h';simp only at h';split at h'
   ·rename_i kd' n;split at h'
    ·rename_i hk;subst hk;simp only[κ]at h';subst h';simp only[df]at hd ⊢;subst hd;simp only[aw,aI]at hz;obtain⟨x,r,rfl,⟨rfl,_⟩,rfl⟩:=hz;have:=nJ (λx:Int=>[adt kd' x]) 1 xs (λ_ _=>rfl) i n jH;rw[afd,afd,this];simp[SV.cP,SV.width]
    ·simp at h'
   ·simp at h'
 |cf xs=>
  simp only[elem]at h;cases hs:ϋ s 5 with
  |false=>rw[hs]at h;simp at h
  |true=>
   rw[hs]at h;obtain rfl:s=5:=χ hs;simp only[κ,ς]at h;obtain⟨rfl,rfl⟩:=h;have jH:i<xs.length:=jH;unfold jm at h';simp only at h';split at h'
   ·rename_i q;simp only[κ]at h';subst h';simp only[df]at hd ⊢;subst hd;simp only[aw,aI]at hz;obtain⟨x,r,rfl,rfl,rfl⟩:=hz;have:=nJ bL 5 xs (λx _=>(dF x).1) i q jH;rw[this];simp[SV.cP,SV.width]
   ·simp at h'
 |seq w xs=>
  simp only[elem]at h;cases hs:ϋ s w with
  |false=>rw[hs]at h;simp at h
  |true=>
   rw[hs]at h;obtain rfl:s=w:=χ hs;simp only[κ,ς]at h;obtain⟨rfl,rfl⟩:=h;have jH:i<xs.length:=jH;unfold jm at h';simp only at h';split at h'
   ·rename_i c;cases hw:(ϋ c.width s&&bI c)with
    |false=>rw[hw]at h';simp at h'
    |true=>
     rw[hw]at h';rw[Μ]at hw;have hcw:c.width=s:=χ hw.1;simp only[κ]at h';subst h';simp only[df]at hd ⊢;obtain⟨z,h1,rfl,h2⟩:=hd;simp only[aw]at hz;obtain⟨x,r,rfl,hx,rfl⟩:=hz;refine⟨z.set i x,FW h1 i c x (nE (ρ:=ρ) (ρ':=cW ρ.aW ρ.cA) (λ_ _ h=>h) c x hw.2 hx), ?_, ?_⟩
     ·have hg:=(qL h1 i jH).2;have:=nJ id s z (gk xs z h1 h2) i x aa;rw[ahY,ahY]at this;rw[this];have hgw:(xs.getD i SV.any).width=s:=h2 _ (by simp[jH]);simp only[SV.cP,hgw,id,abC,ϐ,acY,ϣ]
     ·intro y hy;rcases List.mem_or_eq_of_mem_set hy with h3|h3
      ·exact h2 y h3
      ·rw[h3];exact hcw
   ·simp at h'
theorem dC {w:World} {g:Nat} {cs cs':Array Value} {t:TypeId} {fr:Nat×Nat} (hg:w.heap[g]? =some (.cells cs t fr)):(w.setRow g cs').heap[g]? =some (.cells cs' t fr):=by
 simp[ah9,aj0,hg]
theorem dh {w:World} {g k:Nat} {cs':Array Value} (h:k≠g):(w.setRow g cs').heap[k]? =w.heap[k]? :=by
 simp[ah9,aj0,Ne.symm h]
section
variable {P:Program} {o:Oper} {ft:List (Nat×SV)} {fk new upd:List (Nat×aC)} {c:SV}
theorem FX {t:TypeId} {x y:Operand} {ti:TI} {k s i r f:Nat} {ty:TypeId} {d d':Data} {ob:Option Prop} {cs cs' nw:List SV} {sv:SV} (ho:o.op= .store t x y) (hx:bg ft x (.ptr k s i r)) (hy:bg ft y sv)
  (ht:b6 P t ti) (hk:(k,⟨ty,true,d⟩)∈fk) (he:elem d s i=some (ob,cs)) (jH:DS ob) (hc:qJ sv=some nw) (hw:SV.cP nw=ti.size) (hle:r+ti.size<=SV.cP cs)
  (hp:put f cs r ti.size nw=some cs') (hd:jm d i cs'=some d'):bR P o ft fk .any [] [(k,⟨ty,true,d'⟩)]:=
 Kv λρ a w DQ=>by
  have hx:=hx ρ a DQ.dR;simp only[Has,aI]at hx;obtain⟨_,⟨b,n,bZ,rfl⟩,hv⟩:=hx;simp only[cV,SV.aZ,if_true,ads]at hv;rcases DQ.oq k _ hk with h0|⟨b',n',vs,ex,h1,h2,h3,h4,h5⟩|⟨h1,h2⟩
  case inl=>simp only at h0;cases d<;>simp[Data.live,elem]at h0 he
  case inr.inr=>rw[bZ]at h1;cases h1
  rw[bZ]at h1;cases h1;simp only at h2 h3;rw[Data.cK (uy he)]at h2;obtain⟨z,g1,g2,g3⟩:=zC he jH h3;obtain⟨yz,y1,y2⟩:=ml hc (hy ρ a DQ.dR);have MI:=(aw.len nw yz y1).1;have ZM:=(aw.len nw yz y1).2;have rR:=(aw.len cs z g1).1;obtain⟨z',p1,p2⟩:=DR hp g1 y1;have Ot:z'.flatten.length=SV.cP cs:=by
   rw[p2];simp only[ξ,ψ,ϗ];omega
  have ZN:=xT he jH h3 hd p1 Ot;have jI:vs=vs.take (i*s)++(z.flatten++vs.drop (i*s+SV.cP cs)):=by
   rw[g2,rR,<-afZ,ϟ,ϟ]
  have hAl:(vs.take (i*s)).length=i*s:=by rw[ψ];omega
  generalize hA:vs.take (i*s)=A at jI hAl ZN;generalize hC:vs.drop (i*s+SV.cP cs)=C at jI ZN;have gM:(yz.flatten).length=ti.size:=aa;have hL:(vs++ex).take (i*s+r)++yz.flatten++(vs++ex).drop (i*s+r+yz.flatten.length)=(A++z'.flatten++C)++ex:=by
   rw[jI,p2,gM,<-hAl];simp only[abA];rw[agU,af1,afS,adn aa,aji aa]
   try simp
  have ny:(storeVar t ⟨b,i*s+r,none⟩ (a.eval y)).run P w= .ok () (w.setRow b ((A++z'.flatten++C)++ex).toArray):=by
   have Ky:=run_storeCells_at (P:=P) b (i*s+r) ty yz.flatten 0 (vs++ex).toArray w h2 (by simp only[af5,ξ];omega) ZM;simp only[abC,hL]at Ky;have fP:(a.eval y).cells.size=ti.size:=by rw[<-ϭ,y2];exact gM
   unfold storeVar;simp only[Β,ht.sizeOf,ν,fP,ne_eq,not_true_eq_false,if_false,y2,Ky]
  refine⟨w.setRow b ((A++z'.flatten++C)++ex).toArray,ρ, ?_, ?_⟩
  ·simp only[execOp,ho,Instr.storeAt,aga,hv,Β,Ε,ν,ny]
  ·refine⟨.refl ρ,trivial,λ_ _=>rfl,⟨rfl,rfl,rfl,by simp[ah9],λi hi hn=> ?_⟩,λj bj hj=> ?_,(λj c c' h1 h2 h3 h4=> ?_),(λ_ _ _ h=>by cases h),(λ_ _ _ _ _ _ h=>by cases h),λb o h=>.inl h⟩
   ·refine dh λX0=>hn ⟨k,_,n,η .., ?_⟩
    rw[X0];exact bZ
   ·rcases hj with hj|hj
    ·simp only[μ,ς]at hj;obtain⟨rfl,rfl⟩:=hj;refine .inr (.inl ⟨b,n,_,ex,bZ,by rw[Data.cK (ub hd)];exact dC h2,ZN, ?_,h5⟩);rw[<-h4,jI];simp only[ξ,Ot,rR];omega
    ·cases hj
   ·simp only[μ,ς]at h1 h2;obtain⟨_,rfl⟩:=h1;obtain⟨_,rfl⟩:=h2;rw[h3]at h4;cases h4
theorem DT {S:TypeId} {x:Operand} {j off e sz:Nat} {ti:TI} {fs:List (Nat×TypeId×Nat)} {k s i r:Nat} (ho:o.op= .fieldAddr S x j) (hx:bg ft x (.ptr k s i r)) (ht:b6 P S ti)
  (Cw:ti.kind= .agg fs) (hj:fs[j]? =some (off,e,sz)) (gM:sz≠0):bR P o ft fk (.ptr k s i (r+off)) [] []:=
 br λρ a w hp=>by
  have hx:=hx ρ a hp.dR;simp only[Has,aI]at hx;obtain⟨_,⟨b,n,bZ,rfl⟩,hv⟩:=hx;simp only[cV,SV.aZ,if_true,ads]at hv;have hk:=ht.kind;rw[Cw]at hk;obtain⟨h1,h2,h3⟩:=hk;have hf:∃fd,(P.fieldsOf S)[j]? =some fd/\fd.offset=off/\P.cellsOf fd.type=sz/\(P.info? fd.type).isSome=true:=by
   rw[<-h2,ac4]at hj;cases hq:(P.fieldsOf S).toList[j]? with
   |none=>rw[hq]at hj;simp at hj
   |some fd=>
    rw[hq]at hj;simp only[afy,κ,ς]at hj;refine⟨fd,by simpa using hq,hj.1,hj.2.2, ?_⟩;exact aiy.1 h3 fd (akm hq)
  obtain⟨fd,f1,f2,f3,f4⟩:=hf;refine⟨.pointer (some ⟨b,i*s+(r+off),none⟩), ?_, ?_⟩
  ·have hZ:(⟨b,i*s+r,none⟩:Addr).add fd.offset=⟨b,i*s+(r+off),none⟩:=by
    unfold agl;rw[f2];split
    ·rename_i h0;simp[h0]
    ·simp[af1]
   simp[execOp,ho,alz,run_underlying h1,f1,aga,hv,fieldPlace,qM f4,f3,gM,hZ]
  ·simp only[Has,aI];exact⟨_,⟨b,n,bZ,rfl⟩,by simp[cV,SV.aZ]⟩
theorem IN {x:Operand} {ix:Nat} {l:List SV} (ho:o.op= .extract x ix) (hx:bg ft x (.bQ l)) (hl:l[ix]? =some c) (hc:c.aZ=true\/(qJ c).isSome=true):bR P o ft fk c [] []:=
 br λρ a w hp=>by
  have hx:=hx ρ a hp.dR;simp only[Has]at hx;obtain⟨z,h1,hv⟩:=hx;have key:∀(l:List SV) (z:List (List Value)) (ix:Nat),aw ρ l z->l[ix]? =some c->∃x,aI ρ c x/\(ω cV l z)[ix]? =some (cV c x):=by
   intro l;induction l with
   |nil=>intro z ix _ h;simp at h
   |cons d l ih=>
    intro z ix hz h;simp only[aw]at hz;obtain⟨x,r,rfl,g1,g2⟩:=hz;cases ix with
    |zero=>simp at h;subst h;exact⟨x,g1,by simp⟩
    |succ ix=>simpa using ih r ix g2 (by simpa using h)
  obtain⟨x',g1,g2⟩:=key l z ix h1 hl;refine⟨cV c x', ?_, ?_⟩
  ·simp[execOp,ho,Instr.extract,hv,g2]
  ·cases c<;>simp only[Has]
   case bQ=>simp[qJ,SV.aZ]at hc
   all_goals exact⟨x',g1,rfl⟩
end
end Go.Sx
namespace Go.Sx
def DU (k:IntKind) (x y:Int):Int:=k.wrap (acN k.bits x&&& acN k.bits y).toNat
def ID (k:IntKind) (x y:Int):Int:=k.wrap (acN k.bits x|||acN k.bits y).toNat
def B4 (k:IntKind) (x y:Int):Int:=k.wrap (acN k.bits x^^^acN k.bits y).toNat
def lR (k:IntKind) (x y:Int):Int:=k.wrap (x*2^(min y.toNat k.bits))
def lG (k:IntKind) (x y:Int):Int:=x.fdiv (2^(min y.toNat k.bits))
def UP (op:BinOp) (k:IntKind) (a b:Int):Option (Option Prop×Value):=
 match op with
 |.add=>some (none,.int k (k.wrap (a+b)))
 |.sub=>some (none,.int k (k.wrap (a - b)))
 |.mul=>some (none,.int k (k.wrap (a*b)))
 |.quo=>some (some (b≠0),.int k (k.wrap (a.tdiv b)))
 |.rem=>some (some (b≠0),.int k (a.tmod b))
 |.and=>some (none,.int k (DU k a b))
 |.or=>some (none,.int k (ID k a b))
 |.xor=>some (none,.int k (B4 k a b))
 |.eql=>some (none,.bool (a==b))
 |.neq=>some (none,.bool (a != b))
 |.lss=>some (none,.bool (decide (a<b)))
 |.leq=>some (none,.bool (decide (a<=b)))
 |.gtr=>some (none,.bool (decide (a>b)))
 |.geq=>some (none,.bool (decide (a>=b)))
 |_=>none
theorem ck {ρ:bY} {v:Value} (h:v.oneCell'=true):Has ρ (.val v) v:=by
 simp only[Has,aI];exact⟨[v],⟨rfl,h⟩,by simp[cV,SV.aZ]⟩
theorem aK {ρ:bY} {u v:Value} (h:Has ρ (.val u) v):v=u:=by
 simp only[Has,aI]at h;obtain⟨_,⟨rfl,_⟩,rfl⟩:=h;rfl
section
variable {P:Program} {o:Oper} {ft:List (Nat×SV)} {fk:List (Nat×aC)}
theorem UQ {op:BinOp} {xt yt:TypeId} {x y:Operand} {k:IntKind} {a b:Int} {ob:Option Prop} {v:Value} (ho:o.op= .binOp op xt x y yt) (hx:bg ft x (.val (.int k a))) (hy:bg ft y (.val (.int k b)))
  (h:UP op k a b=some (ob,v)) (jH:DS ob):bR P o ft fk (.val v) [] []:=
 br λρ ac w hp=>by
  have e1:=aK (hx ρ ac hp.dR);have e2:=aK (hy ρ ac hp.dR);refine⟨v, ?_, ?_⟩
  ·cases op<;>simp only[UP,κ,ς,reduceCtorEq]at h<;>obtain⟨rfl,rfl⟩:=h<;>
    first
    |(simp[execOp,ho,e1,e2,eqGuard,binOp,amp];done)
    |(have jH:b≠0:=jH;simp[execOp,ho,e1,e2,eqGuard,binOp,Op.intDiv,jH];done)
    |(simp[execOp,ho,e1,e2,eqGuard,binOp,Op.intBits,DU,ID,B4];done)
    |(simp[execOp,ho,e1,e2,eqGuard,binOp,Op.intCmp];done)
  ·refine ck ?_;cases op<;>simp only[UP,κ,ς,reduceCtorEq]at h<;>obtain⟨rfl,rfl⟩:=h<;>rfl
theorem ZO {xt yt:TypeId} {x y:Operand} {k k':IntKind} {a b:Int} (ho:o.op= .binOp .shl xt x y yt) (hx:bg ft x (.val (.int k a))) (hy:bg ft y (.val (.int k' b)))
  (jH:0<=b):bR P o ft fk (.val (.int k (lR k a b))) [] []:=
 br λρ ac w hp=>by
  have e1:=aK (hx ρ ac hp.dR);have e2:=aK (hy ρ ac hp.dR);refine⟨_, ?_,ck rfl⟩;have:¬b<0:=aa;simp[execOp,ho,e1,e2,eqGuard,binOp,Op.shift,this,lR]
theorem ZP {xt yt:TypeId} {x y:Operand} {k k':IntKind} {a b:Int} (ho:o.op= .binOp .shr xt x y yt) (hx:bg ft x (.val (.int k a))) (hy:bg ft y (.val (.int k' b)))
  (jH:0<=b):bR P o ft fk (.val (.int k (lG k a b))) [] []:=
 br λρ ac w hp=>by
  have e1:=aK (hx ρ ac hp.dR);have e2:=aK (hy ρ ac hp.dR);refine⟨_, ?_,ck rfl⟩;have:¬b<0:=aa;simp[execOp,ho,e1,e2,eqGuard,binOp,Op.shift,this,lG]
theorem ZQ {xt yt:TypeId} {x y:Operand} {a b:Bool} {ti:TI} (ho:o.op= .binOp .eql xt x y yt) (hx:bg ft x (.val (.bool a))) (hy:bg ft y (.val (.bool b))) (ht:b6 P xt ti) (hk:ti.kind= .bool):
  bR P o ft fk (.val (.bool (a==b))) [] []:=
 br λρ ac w hp=>by
  have e1:=aK (hx ρ ac hp.dR);have e2:=aK (hy ρ ac hp.dR);have h:=ht.kind;rw[hk]at h;refine⟨_, ?_,ck rfl⟩;simp[execOp,ho,e1,e2,eqGuard,run_eql_bool w xt a b h]
theorem ZR {xt yt:TypeId} {x y:Operand} {a b:Bool} {ti:TI} (ho:o.op= .binOp .neq xt x y yt) (hx:bg ft x (.val (.bool a))) (hy:bg ft y (.val (.bool b))) (ht:b6 P xt ti) (hk:ti.kind= .bool):
  bR P o ft fk (.val (.bool (a != b))) [] []:=
 br λρ ac w hp=>by
  have e1:=aK (hx ρ ac hp.dR);have e2:=aK (hy ρ ac hp.dR);have h:=ht.kind;rw[hk]at h;refine⟨_, ?_,ck rfl⟩;simp[execOp,ho,e1,e2,eqGuard,run_neq_bool w xt a b h];cases a<;>cases b<;>rfl
def UR (op:BinOp) (a b:ByteArray):Option (Option Prop×Value):=
 match op with
 |.add=>some (some (a.size+b.size<=9223372036854775807),.string (a++b))
 |.eql=>some (none,.bool (a.toList==b.toList))
 |.neq=>some (none,.bool (!(a.toList==b.toList)))
 |_=>none
theorem US {op:BinOp} {xt yt:TypeId} {x y:Operand} {a b:ByteArray} {ob:Option Prop} {v:Value} (ho:o.op= .binOp op xt x y yt) (hx:bg ft x (.val (.string a))) (hy:bg ft y (.val (.string b)))
  (h:UR op a b=some (ob,v)) (jH:DS ob):bR P o ft fk (.val v) [] []:=
 br λρ ac w hp=>by
  have e1:=aK (hx ρ ac hp.dR);have e2:=aK (hy ρ ac hp.dR);refine⟨v, ?_, ?_⟩
  ·cases op<;>simp only[UR,κ,ς,reduceCtorEq]at h<;>obtain⟨rfl,rfl⟩:=h
   case add=>
    simp[execOp,ho,e1,e2,eqGuard,binOp,run_string_add_sum w a b (show a.size+b.size<=9223372036854775807 from jH)]
   all_goals simp[execOp,ho,e1,e2,eqGuard,binOp,Op.stringOp]
  ·refine ck ?_;cases op<;>simp only[UR,κ,ς,reduceCtorEq]at h<;>obtain⟨rfl,rfl⟩:=h<;>rfl
theorem ZS {xt:TypeId} {x:Operand} {a:Bool} (ho:o.op= .unOp .not xt x) (hx:bg ft x (.val (.bool a))):bR P o ft fk (.val (.bool (!a))) [] []:=
 br λρ ac w hp=>by
  have e1:=aK (hx ρ ac hp.dR);exact⟨_,by simp[execOp,ho,e1,alU],ck rfl⟩
theorem ZT {xt:TypeId} {x:Operand} {k:IntKind} {a:Int} (ho:o.op= .unOp .neg xt x) (hx:bg ft x (.val (.int k a))):bR P o ft fk (.val (.int k (k.wrap (0 - a)))) [] []:=
 br λρ ac w hp=>by
  have e1:=aK (hx ρ ac hp.dR);exact⟨_,by simp[execOp,ho,e1,alU,amp],ck rfl⟩
theorem ZU {xt:TypeId} {x:Operand} {k:IntKind} {a:Int} (ho:o.op= .unOp .xor xt x) (hx:bg ft x (.val (.int k a))):bR P o ft fk (.val (.int k (B4 k (if k.signed=true then -1 else k.max) a))) [] []:=
 br λρ ac w hp=>by
  have e1:=aK (hx ρ ac hp.dR);exact⟨_,by simp[execOp,ho,e1,alU,Op.intBits,B4],ck rfl⟩
theorem UT {src dst:TypeId} {x:Operand} {k k':IntKind} {a:Int} {ts td:TI} (ho:o.op= .convert src dst x) (hx:bg ft x (.val (.int k' a))) (hs:b6 P src ts) (hd:b6 P dst td) (hk:td.kind= .int k) (kQ:ts.kind= .int k'):
  bR P o ft fk (.val (.int k (k.wrap a))) [] []:=
 br λρ ac w hp=>by
  have e1:=aK (hx ρ ac hp.dR);have h1:=hs.kind;rw[kQ]at h1;have h2:=hd.kind;rw[hk]at h2;exact⟨_,by simp[execOp,ho,e1,convert,run_underlying h1,run_underlying h2,Conv.intToInt],ck rfl⟩
theorem nK {x y z:Operand} {b:Bool} {c c1 c2:SV} (ho:o.op= .pick x y z) (hx:bg ft x (.val (.bool b))) (hy:b=true->bg ft y c1) (hz:b=false->bg ft z c2) (hc:c=if b then c1 else c2):bR P o ft fk c [] []:=
 br λρ ac w hp=>by
  have e1:=aK (hx ρ ac hp.dR);cases b
  ·refine⟨ac.eval z,by simp[execOp,ho,e1,asBool], ?_⟩;rw[hc];simpa using hz rfl ρ ac hp.dR
  ·refine⟨ac.eval y,by simp[execOp,ho,e1,asBool], ?_⟩;rw[hc];simpa using hy rfl ρ ac hp.dR
end
def FY (P:Program) (f:FuncId):Prop:=∃fn,P.funcs[f]? =some fn/\(fn.name== "runtime.NumGoroutine")=false/\fn.body.isNone=false
structure n7 (fk new:List (Nat×aC)) (ρ:bY) (w:World):Prop where
 oq:∀k b,(k,b)∈fk->jl ρ w k b
 sep:∀k k' x x' b b',(k,b)∈fk->(k',b')∈fk->ρ.key k=some x->ρ.key k'=some x'->k≠k'->x.1=x'.1->b.data.live=true->b'.data.live=true->b.wr=false
 aW:∀b o,ρ.aW b=some o->w.heap[b]? =some o
 fB:∀k b x,(k,b)∈fk->b.wr=true->b.data.live=true->ρ.key k=some x->ρ.aW x.1=none
 fresh:∀k b,(k,b)∈new->ρ.key k=none
theorem ZG.toW {ft:List (Nat×SV)} {fk new:List (Nat×aC)} {ρ:bY} {a:Act} {w:World} (h:ZG ft fk new ρ a w):n7 fk new ρ w:=⟨h.oq,h.sep,h.aW,h.fB,h.fresh⟩
def aL (P:Program) (f:FuncId) (args:List SV) (fk:List (Nat×aC)) (c:SV) (new upd:List (Nat×aC)):Prop:=
 (FY P f/\∀ρ w z,aw ρ args z->n7 fk new ρ w->
  Calls P f (ω cV args z).toArray w λe w'=>∃v ρ',e= .returned v/\kN ρ w c new upd v ρ' w')\/
 (∀ρ w z,aw ρ args z->n7 fk new ρ w->∃v ρ' w',(callFunc f (ω cV args z).toArray).run P w= .ok (.value v) w'/\kN ρ w c new upd v ρ' w')
def bs:SV->Bool
 |.any|.bQ _=>false
 |_=>true
theorem FZ {ρ:bY} {c:SV} {v:Value} (h:bs c=true) (hv:Has ρ c v):∃x,aI ρ c x/\v=cV c x:=by
 cases c<;>simp[bs]at h<;>simpa only[Has]using hv
def Ou (fr:List (Nat×SV)):List Operand->Option (List SV)
 |[]=>some []
 |x::r=>match ev fr x with
  |none=>none
  |some c=>match bs c with
   |false=>none
   |true=>match Ou fr r with
    |none=>none
    |some l=>some (c::l)
theorem zE {fr:List (Nat×SV)}:∀{xs:List Operand} {l:List SV},Ou fr xs=some l->∀ρ a,(∀t s,(t,s)∈fr->Has ρ s (a.tmps.getD t undef))->∃z,aw ρ l z/\xs.map (acV a)=ω cV l z
 |[],l,h,ρ,a,_=>by simp[Ou]at h;subst h;exact⟨[],by simp[aw],rfl⟩
 |x::r,l,h,ρ,a,hf=>by
  simp only[Ou]at h;cases hx:ev fr x with
  |none=>rw[hx]at h;simp at h
  |some c=>
   rw[hx]at h;simp only at h;cases hp:bs c with
   |false=>rw[hp]at h;simp at h
   |true=>
    rw[hp]at h;simp only at h;cases hr:Ou fr r with
    |none=>rw[hr]at h;simp at h
    |some l'=>
     rw[hr]at h;simp only[κ]at h;subst h;obtain⟨z,h1,h2⟩:=zE hr ρ a hf;obtain⟨y,h3,h4⟩:=FZ hp (ai hx ρ a hf);exact⟨y::z,by simp only[aw];exact⟨y,z,rfl,h3,h1⟩,by simp[h2,h4]⟩
section
variable {P:Program} {o:Oper} {fr:List (Nat×SV)}
theorem UU {x:Operand} {xs:Array Operand} {ts:Array TypeId} {f:FuncId} {first cap args:List SV} {fk new upd:List (Nat×aC)} {c:SV}
  (ho:o.op= .call ⟨.value x,xs,ts⟩) (hx:ev fr x=some (.clo f first cap)) (hxs:Ou fr xs.toList=some args)
  (hc:aL P f (first++(args++cap)) fk c new upd):bR P o fr fk c new upd:=by
 intro ρ a w hp;have e1:=ai hx ρ a hp.dR;simp only[Has,aI]at e1;obtain⟨_,⟨fz,cz,h1,h2,rfl⟩,hv⟩:=e1;simp only[cV,SV.aZ,if_true,ads]at hv;obtain⟨z,h3,h4⟩:=zE hxs ρ a hp.dR;have zl:∀(l:List SV) (z:List (List Value)),aw ρ l z->l.length=z.length:=by
  intro l;induction l with
  |nil=>intro z hz;simp only[aw]at hz;subst hz;rfl
  |cons c l ih=>intro z hz;simp only[aw]at hz;obtain⟨x,r,rfl,_,h⟩:=hz;simp[ih r h]
 have Cx:(ω cV (first++(args++cap)) (fz++(z++cz))).toArray=((ω cV first fz).toArray++xs.map (acV a))++(ω cV cap cz).toArray:=by
  rw[akw (zl _ _ h1),akw (zl _ _ h3),<-h4];apply ac0;simp
 have X1:(execOp a.eval o).run P w=(callFunc f (ω cV (first++(args++cap)) (fz++(z++cz))).toArray).run P w:=by
  rw[Cx];simp[execOp,ho,resolve,hv,akq,invoke]
 rcases hc with⟨⟨fn,hf,hn,hb⟩,gr⟩|hext
 ·have ny:(execOp a.eval o).run P w= .ok (.enter f (ω cV (first++(args++cap)) (fz++(z++cz))).toArray) w:=by
   have hn':¬fn.name= "runtime.NumGoroutine" :=by simpa using hn
   have ie:¬fn.body=none:=λh=>by rw[h]at hb;cases hb
   rw[X1];simp[callFunc,hf,hn',ie]
  unfold goes;rw[ny];simp only;refine(gr ρ w _ (c9 h1 (c9 h3 h2)) hp.toW).mono ?_;rintro e w' ⟨v,ρ',rfl,cq⟩;exact⟨v,rfl,v,ρ',rfl,cq⟩
 ·obtain⟨v,ρ',w',hr,cq⟩:=hext ρ w _ (c9 h1 (c9 h3 h2)) hp.toW;unfold goes;rw[X1,hr];exact⟨v,ρ',rfl,cq⟩
def X2 (P:Program) (k:Nat) (rc:Loop) (ts:List Nat) (cap args:List SV) (fk:List (Nat×aC)) (c:SV) (new upd:List (Nat×aC)):Prop:=
 ∀ρ w z zc l t,aw ρ args z->aw ρ cap zc->(ω cV cap zc=ts.map λt=>rc.tmps.getD t undef)->ρ.key k=some (l,t)->n7 fk new ρ w->
  ∃f tmps assign body,(Instr.yield l (ω cV args z).toArray).run P w= .ok (.round l f tmps assign body) w/\
   RoundIn ajD 0 P l f tmps assign body w λe w'=>∃v ρ',e= .returned v/\kN ρ w c new upd v ρ' w'
theorem Ov {x:Operand} {xs:Array Operand} {ts:Array TypeId} {k:Nat} {rc:Loop} {us:List Nat} {cap args:List SV} {fk new upd:List (Nat×aC)} {c:SV}
  (ho:o.op= .call ⟨.value x,xs,ts⟩) (hx:ev fr x=some (.yld k rc us cap)) (hxs:Ou fr xs.toList=some args)
  (hc:X2 P k rc us cap args fk c new upd):bR P o fr fk c new upd:=by
 intro ρ a w hp;have e1:=ai hx ρ a hp.dR;simp only[Has,aI]at e1;obtain⟨_,⟨l,t,h0,rfl,zc,h1,h2⟩,hv⟩:=e1;simp only[cV,SV.aZ,if_true,ads]at hv;obtain⟨z,h3,h4⟩:=zE hxs ρ a hp.dR;obtain⟨f,tmps,assign,body,hy,hr⟩:=hc ρ w z zc l t h3 h1 h2 h0 hp.toW;have ny:(execOp a.eval o).run P w= .ok (.round l f tmps assign body) w:=by
  have e:xs.map (acV a)=(ω cV args z).toArray:=by apply ac0;simp[h4]
  rw[<-hy,<-e];simp[execOp,ho,resolve,hv,akq,invoke]
 unfold goes;rw[ny];simp only;refine hr.mono ?_;rintro e w' ⟨v,ρ',rfl,cq⟩;exact⟨v,rfl,v,ρ',rfl,cq⟩
end
end Go.Sx
namespace Go.Sx
theorem gN {ρ:bY} {k s i n:Nat} {v:Value} (h:Has ρ (.aM k s i n) v):
  (∃b t cap,ρ.key k=some (b,t)/\n<=cap/\(i+cap)*s<=t/\v= .slice (some ⟨b,i*s,none⟩) n cap)\/(n=0/\∃a,v= .slice a 0 0):=by
 simp only[Has,aI]at h;obtain⟨x,h1,rfl⟩:=h;rcases h1 with⟨b,t,cap,e1,e2,e3,rfl⟩|⟨e1,a,rfl⟩
 ·exact .inl ⟨b,t,cap,e1,e2,e3,by simp[cV,SV.aZ]⟩
 ·exact .inr ⟨e1,a,by simp[cV,SV.aZ]⟩
theorem iE {ρ:bY} {k s i n:Nat} {v:Value} (h:(∃b t cap,ρ.key k=some (b,t)/\n<=cap/\(i+cap)*s<=t/\v= .slice (some ⟨b,i*s,none⟩) n cap)\/(n=0/\∃a,v= .slice a 0 0)):Has ρ (.aM k s i n) v:=by
 simp only[Has,aI];refine⟨[v], ?_,by simp[cV,SV.aZ]⟩;rcases h with⟨b,t,cap,e1,e2,e3,rfl⟩|⟨e1,a,rfl⟩
 ·exact .inl ⟨b,t,cap,e1,e2,e3,rfl⟩
 ·exact .inr ⟨e1,a,rfl⟩
theorem Kz {ρ:bY} {k s i r:Nat} {v:Value} (h:Has ρ (.ptr k s i r) v):∃b t,ρ.key k=some (b,t)/\v= .pointer (some ⟨b,i*s+r,none⟩):=by
 simp only[Has,aI]at h;obtain⟨_,⟨b,n,bZ,rfl⟩,rfl⟩:=h;exact⟨b,n,bZ,by simp[cV,SV.aZ]⟩
theorem DV {ρ:bY} {k s i r b t:Nat} (h:ρ.key k=some (b,t)):Has ρ (.ptr k s i r) (.pointer (some ⟨b,i*s+r,none⟩)):=by
 simp only[Has,aI];exact⟨_,⟨b,t,h,rfl⟩,by simp[cV,SV.aZ]⟩
section
variable {P:Program} {o:Oper} {ft:List (Nat×SV)} {fk:List (Nat×aC)}
theorem F0 {x:Operand} {k s i r:Nat} (ho:o.op= .nilCheck x) (hx:bg ft x (.ptr k s i r)):bR P o ft fk (.ptr k s i r) [] []:=
 br λρ a w hp=>by
  obtain⟨b,t,h1,h2⟩:=Kz (hx ρ a hp.dR);exact⟨_,by simp[execOp,ho,h2],DV h1⟩
theorem DW {x:Operand} {f:FuncId} {first cap:List SV} (ho:o.op= .nilCheck x) (hx:bg ft x (.clo f first cap)):bR P o ft fk (.clo f first cap) [] []:=
 br λρ a w hp=>by
  have h:=hx ρ a hp.dR;have h':=h;simp only[Has,aI]at h';obtain⟨_,⟨fz,cz,_,_,rfl⟩,hv⟩:=h';simp only[cV,SV.aZ,if_true,ads]at hv;exact⟨_,by simp[execOp,ho,hv],hv▸h⟩
theorem DX {t e:TypeId} {x ix:Operand} {ti te:TI} {k s i n:Nat} {kd:IntKind} {j:Int} (ho:o.op= .indexAddr t x ix) (hx:bg ft x (.aM k s i n)) (hi:bg ft ix (.val (.int kd j)))
  (ht:b6 P t ti) (hk:ti.kind= .aM e) (he:b6 P e te) (hs:te.size=s) (h0:0<=j) (hj:j<n):bR P o ft fk (.ptr k s (i+j.toNat) 0) [] []:=
 br λρ a w hp=>by
  have e2:=aK (hi ρ a hp.dR);have hu:=ht.kind;rw[hk]at hu;rcases gN (hx ρ a hp.dR)with⟨b,t',cap,h1,h2,h3,h4⟩|⟨h1,_⟩
  ·refine⟨.pointer (some ⟨b,(i+j.toNat)*s+0,none⟩), ?_,DV h1⟩;have hZ:(⟨b,i*s,none⟩:Addr).add (j.toNat*s)=⟨b,(i+j.toNat)*s+0,none⟩:=by
    unfold agl;rw[gx];split
    ·rename_i h0;simp[h0]
    ·rfl
   have qm:0<=j/\j<(n:Int):=⟨h0,hj⟩;simp only[execOp,ho,ajF,e2,h4,asIntOf,Β,Ε,ν,run_underlying hu,qm,and_self,if_true,he.sizeOf,hs,hZ]
  ·omega
theorem F3 {t e:TypeId} {x ix:Operand} {ti te:TI} {k s i r n:Nat} {kd:IntKind} {j:Int} (ho:o.op= .indexAddr t x ix) (hx:bg ft x (.ptr k s i r)) (hi:bg ft ix (.val (.int kd j)))
  (ht:b6 P t ti) (hk:ti.kind= .arr n e) (he:b6 P e te) (h0:0<=j) (hj:j<n):bR P o ft fk (.ptr k s i (r+j.toNat*te.size)) [] []:=
 br λρ a w hp=>by
  have e2:=aK (hi ρ a hp.dR);have hu:=ht.kind;rw[hk]at hu;obtain⟨b,t',h1,h2⟩:=Kz (hx ρ a hp.dR);refine⟨.pointer (some ⟨b,i*s+(r+j.toNat*te.size),none⟩), ?_,DV h1⟩;have hZ:(⟨b,i*s+r,none⟩:Addr).add (j.toNat*te.size)=⟨b,i*s+(r+j.toNat*te.size),none⟩:=by
   unfold agl;split
   ·rename_i h0;simp[h0]
   ·simp[af1]
  have qm:0<=j/\j<(n:Int):=⟨h0,hj⟩;simp only[execOp,ho,ajF,e2,h2,asIntOf,Β,Ε,ν,run_underlying hu,aga,qm,and_self,if_true,he.sizeOf,hZ]
theorem F4 {t:TypeId} {x ix:Operand} {ti:TI} {s:ByteArray} {kd:IntKind} {j:Int} (ho:o.op= .index t x ix) (hx:bg ft x (.val (.string s))) (hi:bg ft ix (.val (.int kd j)))
  (ht:b6 P t ti) (hk:ti.kind= .str) (h0:0<=j) (hj:j<s.size):bR P o ft fk (.val (.int .u8 (((s.data.getD j.toNat 0).toNat:Nat):Int))) [] []:=
 br λρ a w hp=>by
  have e1:=aK (hx ρ a hp.dR);have e2:=aK (hi ρ a hp.dR);have hu:=ht.kind;rw[hk]at hu;refine⟨_, ?_,ck rfl⟩;have aE:j.toNat<s.size:=aa;have hg:s[j.toNat]? =some (s.data.getD j.toNat 0):=by
   have agv:j.toNat<s.data.size:=aE;rw[Ϻ,getElem?_pos s j.toNat aE,Array.getElem?_eq_getElem agv];rfl
  simp only[execOp,ho,Instr.index,e1,e2,asIntOf,Β,Ε,ν,run_underlying hu,h0,if_true,hg]
def IP:SV->Option Int
 |.aM _ _ _ n=>some (n:Int)
 |.val (.string s)=>some (s.size:Int)
 |.val (.slice _ n _)=>some (n:Int)
 |_=>none
theorem IQ {x:Operand} {xs:Array Operand} {t:TypeId} {ts:Array TypeId} {c:SV} {n:Int} {ti:TI} (ho:o.op= .call ⟨.builtin .len,xs,ts⟩) (hxs:xs= #[x]) (po:ts= #[t]) (hx:bg ft x c) (hn:IP c=some n) (ht:b6 P t ti)
  (hk:ti.kind= .str/\(∃s,c= .val (.string s))\/(∃e,ti.kind= .aM e)/\(∀s,c≠ .val (.string s))):bR P o ft fk (.val (.int .i64 n)) [] []:=
 br λρ a w hp=>by
  have hv:=hx ρ a hp.dR;refine⟨_, ?_,ck rfl⟩;have hu:=ht.kind;rcases hk with⟨hk,s,rfl⟩|⟨⟨e,hk⟩,hns⟩
  ·rw[hk]at hu;have e1:=aK hv;simp only[IP,κ]at hn;subst hn;simp[execOp,ho,hxs,po,resolve,invoke,builtin,agB,run_underlying hu,e1,goInt]
  ·rw[hk]at hu;cases c<;>simp only[IP,reduceCtorEq]at hn
   case aM k s i m=>
    simp only[κ]at hn;subst hn;rcases gN hv with⟨b,t',cap,_,_,_,h4⟩|⟨rfl,a',h4⟩
    ·simp[execOp,ho,hxs,po,resolve,invoke,builtin,agB,run_underlying hu,h4,goInt]
    ·simp[execOp,ho,hxs,po,resolve,invoke,builtin,agB,run_underlying hu,h4,goInt]
   case val v=>
    have e1:=aK hv;cases v<;>simp only[κ,reduceCtorEq]at hn
    case string s=>exact absurd rfl (hns s)
    case slice a' m cap=>
     subst hn;simp[execOp,ho,hxs,po,resolve,invoke,builtin,agB,run_underlying hu,e1,goInt]
theorem ZV {xs:Array Operand} {ts:Array TypeId} {x y:Operand} {k k':IntKind} {a b:Int} (ho:o.op= .call ⟨.builtin .min,xs,ts⟩) (hxs:xs= #[x,y]) (hx:bg ft x (.val (.int k a))) (hy:bg ft y (.val (.int k' b))):
  bR P o ft fk (.val (.int k (if b<a then b else a))) [] []:=
 br λρ ac w hp=>by
  have e1:=aK (hx ρ ac hp.dR);have e2:=aK (hy ρ ac hp.dR);refine⟨_, ?_,ck rfl⟩;simp[execOp,ho,hxs,resolve,invoke,builtin,e1,e2,run_min_int2]
theorem ZW {xs:Array Operand} {ts:Array TypeId} {x y:Operand} {k k':IntKind} {a b:Int} (ho:o.op= .call ⟨.builtin .max,xs,ts⟩) (hxs:xs= #[x,y]) (hx:bg ft x (.val (.int k a))) (hy:bg ft y (.val (.int k' b))):
  bR P o ft fk (.val (.int k (if b>a then b else a))) [] []:=
 br λρ ac w hp=>by
  have e1:=aK (hx ρ ac hp.dR);have e2:=aK (hy ρ ac hp.dR);refine⟨_, ?_,ck rfl⟩;simp[execOp,ho,hxs,resolve,invoke,builtin,e1,e2,run_max_int2]
theorem Ow {t e:TypeId} {x:Operand} {lo hi:Option Operand} {ti te:TI} {k s i n:Nat} {l h:Int} (ho:o.op= .slice t x lo hi none) (hx:bg ft x (.aM k s i n))
  (FG:lo=none/\l=0\/∃y kd,lo=some y/\bg ft y (.val (.int kd l))) (BX:hi=none/\h=n\/∃y kd,hi=some y/\bg ft y (.val (.int kd h)))
  (ht:b6 P t ti) (hk:ti.kind= .aM e) (he:b6 P e te) (hs:te.size=s) (h0:0<=l) (hlh:l<=h) (hh:h<=n):bR P o ft fk (.aM k s (i+l.toNat) (h - l).toNat) [] []:=
 br λρ a w hp=>by
  have hu:=ht.kind;rw[hk]at hu
  have key:∀(ad:Option Addr) (m cap:Nat),n=m->m<=cap->a.eval x= .slice ad m cap->
    (execOp a.eval o).run P w= .ok (.value (.slice (if cap=l.toNat then ad else ad.map (·.add (l.toNat*s))) (h.toNat - l.toNat) (cap - l.toNat))) w:=by
   intro ad m cap Ox hmc hv;have N7:∀z:Operand,∀kd,bg ft z (.val (.int kd h))->(ϻ (a.eval z) cap .sliceAcap).run P w= .ok h.toNat w:=by
    intro z kd hz;have:=aK (hz ρ a hp.dR);have hb:0<=h/\h<=(cap:Int):=aa;simp[ϻ,this,asIntOf,hb]
   have UW:∀z:Operand,∀kd,bg ft z (.val (.int kd l))->(ϻ (a.eval z) h.toNat .sliceB).run P w= .ok l.toNat w:=by
    intro z kd hz;have:=aK (hz ρ a hp.dR);have hb:0<=l/\l<=(h.toNat:Int):=aa;simp only[ϻ,this,asIntOf,Β,Ε,ν,hb,and_self,if_true]
   have ve:(ac3 true m cap (lo.map a.eval) (hi.map a.eval) none).run P w= .ok (l.toNat,h.toNat,cap) w:=by
    unfold ac3;rcases BX with⟨rfl,rfl⟩|⟨z,kz,rfl,hz⟩<;>rcases FG with⟨rfl,rfl⟩|⟨y,ky,rfl,hy⟩
    ·simp[Ox]
    ·have:=UW y ky hy;simp at this;rw[Ox]at this;simp[Ox,this]
    ·simp[N7 z kz hz]
    ·simp[N7 z kz hz,UW y ky hy]
   simp only[execOp,ho,ajc,aiJ,Β,run_underlying hu,ν,ajd,hv,ve,he.sizeOf,hs,Ε]
  rcases gN (hx ρ a hp.dR)with⟨b,t',cap,h1,h2,h3,h4⟩|⟨rfl,ad,h4⟩
  ·refine⟨_,key _ n cap rfl h2 h4,iE ?_⟩;by_cases hc:cap=l.toNat
   ·right;have:h.toNat - l.toNat=0:=aa;refine⟨aa,some ⟨b,i*s,none⟩, ?_⟩;rw[if_pos hc,this,hc,af0]
   ·left;refine⟨b,t',cap - l.toNat,h1,aa, ?_, ?_⟩
    ·rw[show i+l.toNat+(cap - l.toNat)=i+cap from by omega];exact h3
    ·rw[if_neg hc];have hZ:(⟨b,i*s,none⟩:Addr).add (l.toNat*s)=⟨b,(i+l.toNat)*s,none⟩:=by
      unfold agl;rw[gx];split
      ·rename_i h0;simp[h0]
      ·rfl
     rw[afy,hZ,show(h - l).toNat=h.toNat - l.toNat from by omega]
  ·refine⟨_,key ad 0 0 rfl (ζ _) h4,iE (.inr ⟨aa,ad, ?_⟩)⟩;have h1:l.toNat=0:=aa;have h2:h.toNat=0:=aa;simp[h1,h2]
theorem F5 {t:TypeId} {x:Operand} {lo hi:Option Operand} {ti:TI} {s:ByteArray} {l h:Int} (ho:o.op= .slice t x lo hi none) (hx:bg ft x (.val (.string s)))
  (FG:lo=none/\l=0\/∃y kd,lo=some y/\bg ft y (.val (.int kd l))) (BX:hi=none/\h=s.size\/∃y kd,hi=some y/\bg ft y (.val (.int kd h)))
  (ht:b6 P t ti) (hk:ti.kind= .str) (h0:0<=l) (hlh:l<=h) (hh:h<=s.size):bR P o ft fk (.val (.string (s.extract l.toNat h.toNat))) [] []:=
 br λρ a w hp=>by
  have hu:=ht.kind;rw[hk]at hu;have e1:=aK (hx ρ a hp.dR);refine⟨_, ?_,ck rfl⟩;have N7:∀z:Operand,∀kd,bg ft z (.val (.int kd h))->(ϻ (a.eval z) s.size .sliceAlen).run P w= .ok h.toNat w:=by
   intro z kd hz;have:=aK (hz ρ a hp.dR);have hb:0<=h/\h<=(s.size:Int):=aa;simp[ϻ,this,asIntOf,hb]
  have UW:∀z:Operand,∀kd,bg ft z (.val (.int kd l))->(ϻ (a.eval z) h.toNat .sliceB).run P w= .ok l.toNat w:=by
   intro z kd hz;have:=aK (hz ρ a hp.dR);have hb:0<=l/\l<=(h.toNat:Int):=aa;simp only[ϻ,this,asIntOf,Β,Ε,ν,hb,and_self,if_true]
  have ve:(ac3 false s.size s.size (lo.map a.eval) (hi.map a.eval) none).run P w= .ok (l.toNat,h.toNat,s.size) w:=by
   unfold ac3;rcases BX with⟨rfl,rfl⟩|⟨z,kz,rfl,hz⟩<;>rcases FG with⟨rfl,rfl⟩|⟨y,ky,rfl,hy⟩
   ·simp
   ·have:=UW y ky hy;simp at this;simp[this]
   ·simp[N7 z kz hz]
   ·simp[N7 z kz hz,UW y ky hy]
  simp only[execOp,ho,ajc,aiJ,Β,run_underlying hu,ν,ajd,e1,Option.isSome_none,Κ,if_false,ve,Ε]
end
end Go.Sx
namespace Go.Sx
theorem MJ {d:Data} {s i:Nat} {x:Option Prop×List SV} (h:elem d s i=some x):d.live=true:=by
 cases d<;>first|rfl|simp[elem]at h
def Rows (ρ:bY) (s:Nat):Data->List (List Value)->Prop
 |.ints kd xs,z=>s=1/\z=xs.map (λx=>[.int kd x])
 |.cf xs,z=>s=5/\z=xs.map bL
 |.seq w xs,z=>s=w/\aw (cW ρ.aW ρ.cA) xs z/\∀x∈xs,x.width=w
 |.one _,_=>False
 |.dead,_=>False
 |.loop _,_=>False
def gu:Data->Nat
 |.ints _ xs=>xs.length
 |.cf xs=>xs.length
 |.seq _ xs=>xs.length
 |_=>0
def dx:Data->Option Nat
 |.ints _ _=>some 1
 |.cf _=>some 5
 |.seq w _=>some w
 |_=>none
theorem da {ρ:bY}:∀{l:List SV} {z:List (List Value)},aw ρ l z->z.length=l.length
 |[],z,h=>by simp only[aw]at h;subst h;rfl
 |c::l,z,h=>by simp only[aw]at h;obtain⟨x,r,rfl,_,h⟩:=h;simp[da h]
theorem Rows.of {ρ:bY} {d:Data} {s:Nat} {vs:List Value} (h:df ρ d vs) (hs:dx d=some s):∃z,Rows ρ s d z/\vs=z.flatten:=by
 cases d<;>simp only[dx,κ,reduceCtorEq]at hs<;>subst hs<;>simp only[df]at h
 case ints kd xs=>exact⟨_,⟨rfl,rfl⟩,by rw[h,<-ϸ,afd]⟩
 case cf xs=>exact⟨_,⟨rfl,rfl⟩,by rw[h,ϸ]⟩
 case seq xs=>obtain⟨z,h1,h2,h3⟩:=h;exact⟨z,⟨rfl,h1,h3⟩,h2⟩
theorem Rows.eS {ρ:bY} {d:Data} {s:Nat} {z:List (List Value)} (h:Rows ρ s d z):d.qH=false:=by
 cases d<;>first|rfl|(simp only[Rows]at h)
theorem Rows.data {ρ:bY} {d:Data} {s:Nat} {z:List (List Value)} (h:Rows ρ s d z):df ρ d z.flatten:=by
 cases d<;>simp only[Rows]at h<;>simp only[df]
 case ints kd xs=>obtain⟨_,rfl⟩:=h;rw[<-ϸ,afd]
 case cf xs=>obtain⟨_,rfl⟩:=h;rw[ϸ]
 case seq w xs=>exact⟨z,h.2.1,rfl,h.2.2⟩
theorem Rows.len {ρ:bY} {d:Data} {s:Nat} {z:List (List Value)} (h:Rows ρ s d z):z.length=gu d/\∀u∈z,u.length=s:=by
 cases d<;>simp only[Rows]at h
 case ints kd xs=>obtain⟨rfl,rfl⟩:=h;simp[gu]
 case cf xs=>
  obtain⟨rfl,rfl⟩:=h;refine⟨by simp[gu],λu hu=> ?_⟩;obtain⟨x,_,rfl⟩:=abo.1 hu;exact(dF x).1
 case seq w xs=>
  obtain⟨rfl,h1,h2⟩:=h;exact⟨da h1,λu hu=>gk xs z h1 h2 u hu⟩
theorem cL {s:Nat}:∀(z:List (List Value)) (n:Nat),(∀u∈z,u.length=s)->(z.take n).flatten=z.flatten.take (n*s)
 |[],n,_=>by simp
 |x::z,0,_=>by simp
 |x::z,n+1,h=>by
  have hx:=h x (η ..);have ih:=cL z n (λu hu=>h u (Δ _ hu));rw[aiS,ϐ,ϐ,ih,ϯ,afk,<-hx,agU]
theorem gO {s:Nat}:∀(z:List (List Value)) (n:Nat),(∀u∈z,u.length=s)->(z.drop n).flatten=z.flatten.drop (n*s)
 |[],n,_=>by simp
 |x::z,0,_=>by simp
 |x::z,n+1,h=>by
  have hx:=h x (η ..);have ih:=gO z n (λu hu=>h u (Δ _ hu));rw[ahg,ϐ,ih,ϯ,afk,<-hx,afS]
theorem aO {s:Nat}:∀(z:List (List Value)),(∀u∈z,u.length=s)->z.flatten.length=z.length*s
 |[],_=>by simp
 |x::z,h=>by
  have hx:=h x (η ..);have ih:=aO z (λu hu=>h u (Δ _ hu));rw[ϐ,ξ,ih,hx,ϊ,ϯ,afk]
theorem jJ {ρ:bY}:∀{l:List SV} {z:List (List Value)} (n:Nat),aw ρ l z->aw ρ (l.take n) (z.take n)
 |[],z,n,h=>by simp only[aw]at h;subst h;simp[aw]
 |c::l,z,0,h=>by simp[aw]
 |c::l,z,n+1,h=>by
  simp only[aw]at h;obtain⟨x,r,rfl,h1,h2⟩:=h;simp only[aiS,aw];exact⟨x,_,rfl,h1,jJ n h2⟩
theorem mm {ρ:bY}:∀{l:List SV} {z:List (List Value)} (n:Nat),aw ρ l z->aw ρ (l.drop n) (z.drop n)
 |[],z,n,h=>by simp only[aw]at h;subst h;simp[aw]
 |c::l,z,0,h=>by simpa using h
 |c::l,z,n+1,h=>by
  simp only[aw]at h;obtain⟨x,r,rfl,h1,h2⟩:=h;simp only[ahg];exact mm n h2
def vf (d:Data) (n:Nat) (d2:Data) (i m:Nat):Option Data:=
 match d,d2 with
 |.ints k xs,.ints k' ys=>if k'=k then some (.ints k (xs.take n++(ys.drop i).take m))else none
 |.cf xs,.cf ys=>some (.cf (xs.take n++(ys.drop i).take m))
 |.seq w xs,.seq w' ys=>if w'=w then some (.seq w (xs.take n++(ys.drop i).take m))else none
 |_,_=>none
theorem xb {ρ:bY} {d d2 d':Data} {n i m s s2:Nat} {z z2:List (List Value)} (h:vf d n d2 i m=some d') (hz:Rows ρ s d z) (nu:Rows ρ s2 d2 z2):Rows ρ s d' (z.take n++(z2.drop i).take m)/\s2=s:=by
 unfold vf at h;split at h
 ·split at h
  ·rename_i hk;subst hk;simp only[κ]at h;subst h;simp only[Rows]at hz nu ⊢;obtain⟨rfl,rfl⟩:=hz;obtain⟨rfl,rfl⟩:=nu;exact⟨⟨rfl,by simp[ahM,ahO]⟩,rfl⟩
  ·simp at h
 ·simp only[κ]at h;subst h;simp only[Rows]at hz nu ⊢;obtain⟨rfl,rfl⟩:=hz;obtain⟨rfl,rfl⟩:=nu;exact⟨⟨rfl,by simp[ahM,ahO]⟩,rfl⟩
 ·split at h
  ·rename_i hk;subst hk;simp only[κ]at h;subst h;simp only[Rows]at hz nu ⊢;obtain⟨rfl,h1,h2⟩:=hz;obtain⟨rfl,h3,h4⟩:=nu;refine⟨⟨rfl,c9 (jJ n h1) (jJ m (mm i h3)), ?_⟩,rfl⟩;intro x hx;rcases ϖ.1 hx with hx|hx
   ·exact h2 x (Θ hx)
   ·exact h4 x (Ψ (Θ hx))
  ·simp at h
 ·simp at h
def vg (te:TI) (n:Nat):Data:=
 match te.zero with
 |[.frac _]=>.cf (θ n 0)
 |[.val (.int kd _)]=>.ints kd (θ n 0)
 |[c]=>.seq te.size (θ n c)
 |l=>.seq te.size (θ n (.agg l))
theorem gv (z:Array Value) (s:Nat) (hs:z.size=s):∀n,(madeCells z (n*s)).toList=(θ n z.toList).flatten:=by
 intro n;induction n with
 |zero=>simp[madeCells]
 |succ n ih=>
  rw[List.replicate_succ',ϝ,<-ih];simp only[madeCells,ak1,akx,ϐ,acY,ϣ];rw[ϯ,List.range_add,List.map_append];congr 1;rw[List.map_map];apply List.ext_getElem
  ·simp[hs]
  ·intro i h1 h2;simp only[List.length_map,List.length_range]at h1;simp only[List.getElem_map,List.getElem_range,Function.comp,hs];rw[afk,Nat.add_mul_mod_self_right,Nat.mod_eq_of_lt h1];simp[hs,h1]
theorem IT {te:TI} {ρ:bY} {z:Value} (hz:z.cells.toList=te.zero.flatMap gj) (gM:z.cells.size=te.size) (pk:te.zero.all ZH=true)
  (hzero:∀q,te.zero=[.frac q]->q=0) (hzi:∀kd x,te.zero=[.val (.int kd x)]->x=0) (n:Nat):Rows ρ te.size (vg te n) (θ n z.cells.toList):=by
 have adh:∀c:SV,∀y,aI (cW ρ.aW ρ.cA) c y->aw (cW ρ.aW ρ.cA) (θ n c) (θ n y):=by
  intro c y hy;clear hz gM;induction n with
  |zero=>simp[aw]
  |succ n ih=>simp only[acT,aw];exact⟨y,_,rfl,hy,ih⟩
 have hlen:te.size=(te.zero.flatMap gj).length:=by rw[<-hz,ϭ];exact gM.symm
 unfold vg;split
 ·rename_i q hq;rw[hq]at hz hlen;have:=hzero q hq;subst this;simp only[abi,aje,ϣ,gj]at hz hlen;rw[hz];exact⟨by rw[hlen,(dF 0).1],by simp⟩
 ·rename_i kd x hq;rw[hq]at hz hlen;have:=hzi kd x hq;subst this;simp only[abi,aje,ϣ,gj]at hz hlen;rw[hz];exact⟨by rw[hlen];rfl,by simp⟩
 ·rename_i c _ _ hq;rw[hq]at hz hlen pk;simp only[abi,aje,ϣ]at hz hlen;simp only[af7,List.all_nil,Bool.and_true]at pk;rw[hz];have hc:=Cv (ρ:=cW ρ.aW ρ.cA) pk;exact⟨rfl,adh c _ hc,λx hx=>by rw[(agd.1 hx).2,<-(aI.len c _ hc).1,hlen]⟩
 ·have hc:aI (cW ρ.aW ρ.cA) (.agg te.zero) (te.zero.flatMap gj):=by
   simp only[aI];exact⟨_,eE pk,by simp[ϸ]⟩
  rw[hz];exact⟨rfl,adh _ _ hc,λx hx=>by rw[(agd.1 hx).2,<-(aI.len _ _ hc).1,hlen]⟩
def zF (te:TI):Bool:=
 match te.zero with
 |[.frac q]=>q.num==0
 |[.val (.int _ x)]=>x==0
 |_=>true
theorem F6 {te:TI} (h:zF te=true):(∀q,te.zero=[.frac q]->q=0)/\(∀kd x,te.zero=[.val (.int kd x)]->x=0):=by
 constructor
 ·intro q hq;simp only[zF,hq,beq_iff_eq]at h;exact Rat.num_eq_zero.1 h
 ·intro kd x hq;simpa [zF,hq]using h
section
variable {P:Program} {o:Oper} {ft:List (Nat×SV)} {fk:List (Nat×aC)}
theorem kR {ρ:bY} {w:World} {k s n cap:Nat} {ty:TypeId} {d:Data} {vs ex:List Value} (hk:ρ.key k=none) (hd:df ρ d vs) (hnc:n<=cap) (hcap:cap*s<=(vs++ex).length) (hex:∀v∈ex,v.oneCell'=true) (hL:d.qH=false:=by rfl):
  kN ρ w (.aM k s 0 n) [(k,⟨ty,true,d⟩)] [] (.slice (some ⟨w.heap.size,0,none⟩) n cap) ⟨λj=>if j=k then some (w.heap.size,(vs++ex).length)else ρ.key j,ρ.aW,ρ.cA⟩ (w.alloc (.cells (vs++ex).toArray ty (0,0))):=by
 have hle:ρ.Le ⟨λj=>if j=k then some (w.heap.size,(vs++ex).length)else ρ.key j,ρ.aW,ρ.cA⟩:=⟨λj x hx=>by
  show(if j=k then _ else _)=_;by_cases hj:j=k
  ·subst hj;rw[hk]at hx;cases hx
  ·rw[if_neg hj];exact hx,λb ob hb=>hb⟩
 refine⟨hle, ?_, ?_, ?_, ?_,(λ_ _ _ h=>by cases h), ?_, ?_,λb ob hb=>.inl hb⟩
 ·refine iE (.inl ⟨w.heap.size,(vs++ex).length,cap,by simp,hnc,by simpa using hcap,by simp⟩)
 ·intro j hj;show(if j=k then _ else _)=_;rw[if_neg];rintro rfl;exact hj _ (List.mem_cons_self ..)
 ·exact .ic ((RowKit.Below.refl _ _).alloc (Nat.le_refl _) _)
 ·intro j b hj;rcases hj with hj|hj
  ·cases hj
  ·simp only[List.mem_singleton,Prod.mk.injEq]at hj;obtain⟨rfl,rfl⟩:=hj;exact .inr (.inl ⟨w.heap.size,_,vs,ex,by simp,by rw[Data.cK hL];exact heap_alloc_new _ _,hd.mono hle,rfl,hex⟩)
 ·intro j b x hj hx;simp only[List.mem_singleton,Prod.mk.injEq]at hj;obtain⟨rfl,rfl⟩:=hj;simp at hx;rw[<-hx];exact .inl (Nat.le_refl _)
 ·intro j b j' b' x x' hj qm a8;simp only[List.mem_singleton,Prod.mk.injEq]at hj qm;exact absurd (hj.1.trans qm.1.symm) a8
theorem UX {t e:TypeId} {x y:Operand} {ti te:TI} {k:Nat} {kl kc:IntKind} {l c:Int} (ho:o.op= .makeSlice t x y) (hx:bg ft x (.val (.int kl l))) (hy:bg ft y (.val (.int kc c)))
  (ht:b6 P t ti) (hk:ti.kind= .aM e) (he:b6 P e te) (hz:zF te=true) (h0:0<=l) (hlc:l<=c) (hb:(te.bytes:Int)*c<=281474976710656) (h63:c<=9223372036854775807):
  bR P o ft fk (.aM k te.size 0 l.toNat) [(k,⟨e,true,vg te l.toNat⟩)] []:=
 dU λρ a w hp=>by
  have e1:=aK (hx ρ a hp.dR);have e2:=aK (hy ρ a hp.dR);have hu:=ht.kind;rw[hk]at hu;obtain⟨i,z,i1,i2,i3,i4,i5,i6,i7,_⟩:=he.info;have ny:=run_make (P:=P) (w:=w) t e i z hu i1 i4 kl kc l c h0 hlc (by rw[i3];exact hb) h63;obtain⟨hq,hzi⟩:=F6 hz;have ct:=IT (ρ:=ρ) i5 i7 i6 hq hzi l.toNat;have pk:∀u∈(θ c.toNat z.cells.toList),u.length=te.size:=by
   intro u hu;rw[(agd.1 hu).2,ϭ];exact i7
  have fP:madeCells z.cells (c.toNat*i.size)=(((θ l.toNat z.cells.toList).flatten)++(θ (c.toNat - l.toNat) z.cells.toList).flatten).toArray:=by
   have:=gv z.cells te.size i7 c.toNat;rw[i2];apply ac0;rw[this,<-ϝ,ai0];rw[show l.toNat+(c.toNat - l.toNat)=c.toNat from by omega]
  have w9:∀u∈z.cells.toList,u.oneCell'=true:=by
   have h1:=(aw.len (ρ:=ρ) te.zero _ (eE i6)).2;rw[i5,ϸ];exact h1
  refine⟨_,_,_, ?_,kR (hL:=ct.eS) (ty:=e) (d:=vg te l.toNat) (cap:=c.toNat) (s:=te.size) (vs:=(θ l.toNat z.cells.toList).flatten) (ex:=(θ (c.toNat - l.toNat) z.cells.toList).flatten) (hp.fresh k _ (η ..)) ct.data aa ?_ ?_⟩
  ·simp only[execOp,ho,e1,e2,Β,ny,ν,Ε,fP]
  ·rw[<-ϝ,ai0,show l.toNat+(c.toNat - l.toNat)=c.toNat from aa,aO _ pk,List.length_replicate];exact ζ _
  ·intro v hv;obtain⟨u,hu,hv⟩:=afQ.1 hv;rw[(agd.1 hu).2]at hv;exact w9 v hv
end
end Go.Sx
namespace Go.Sx
theorem qN (off:Nat):∀(v:List Value) (j:Nat) (L:Array Value),off+j+v.length<=L.size->
  ((v.zipIdx j).foldl (λcs (c,j)=>cs.setIfInBounds (off+j) c) L).toList=L.toList.take (off+j)++v++L.toList.drop (off+j+v.length)
 |[],j,L,_=>by simp
 |c::v,j,L,h=>by
  simp only[ϊ]at h;simp only[List.zipIdx_cons,alo];rw[qN off v (j+1) (L.setIfInBounds (off+j) c) (by simp;omega)];simp only[Array.toList_setIfInBounds,ϊ];have aE:off+j<L.toList.length:=by rw[ϭ];omega
  rw[show off+(j+1)=(off+j)+1 from aa,List.take_succ_eq_append_getElem (by rw[List.length_set];exact aE),List.getElem_set_self,List.take_set_of_le (ζ _),
   show off+j+1+v.length=off+j+(v.length+1)from aa,List.drop_set_of_lt aa]
  simp
def lH (f:Nat) (place:Nat->Option (Nat×Nat)) (cs:List SV):List (Nat×List SV)->Option (List SV)
 |[]=>some cs
 |(i,new)::r=>match place i with
  |none=>none
  |some (off,sz)=>match ϋ (SV.cP new) sz,agG (off+sz) (SV.cP cs)with
   |true,true=>match put f cs off sz new with
    |some cs'=>lH f place cs' r
    |none=>none
   |_,_=>none
theorem ow {ρ:bY} {f:Nat} {place:Nat->Option (Nat×Nat)}:∀(parts:List (Nat×List SV)) (cs l:List SV) (rp:List (Nat×Value)) (L:Array Value) (z:List (List Value)),lH f place cs parts=some l->
  aw ρ cs z->L.toList=z.flatten->rp.length=parts.length->(∀(j i:Nat) (new:List SV),parts[j]? =some (i,new)->∃v y,rp[j]? =some (i,v)/\aw ρ new y/\v.cells.toList=y.flatten)->
  ∃L' z',al6 place L rp=some L'/\aw ρ l z'/\L'.toList=z'.flatten
 |[],cs,l,rp,L,z,h,hz,hL,hlen,_=>by
  simp only[lH,κ]at h;subst h;obtain rfl:rp=[]:=List.length_eq_zero_iff.1 hlen;exact⟨L,z,rfl,hz,hL⟩
 |(i,new)::r,cs,l,rp,L,z,h,hz,hL,hlen,hp=>by
  match rp,hlen with
  |(i',v)::rp',hlen=>
   obtain⟨v',y,h1,h2,h3⟩:=hp 0 i new rfl;simp only[ϑ,κ,ς]at h1;obtain⟨rfl,rfl⟩:=h1;unfold lH at h;cases uz:place i' with
   |none=>rw[uz]at h;simp at h
   |some x=>
    obtain⟨off,sz⟩:=x;rw[uz]at h;simp only at h;split at h
    ·rename_i hw hle;have hw:=χ hw;have hle:=abW hle;cases hput:put f cs off sz new with
     |none=>rw[hput]at h;simp at h
     |some cs'=>
      rw[hput]at h;simp only at h;obtain⟨t,g1,g2⟩:=DR hput hz h2;have MI:=(aw.len new y h2).1;have rR:=(aw.len cs z hz).1;have ZX:v.cells.size=sz:=by rw[<-ϭ,h3,MI,hw]
      have hLs:L.size=z.flatten.length:=by rw[<-hL,ϭ]
      have n8:=qN off v.cells.toList 0 L (by rw[ϭ,ZX,hLs,rR];omega);have Oy:(v.cells.zipIdx.foldl (λcs (c,j)=>cs.setIfInBounds (off+j) c) L).toList=t.flatten:=by
       rw[<-Array.foldl_toList,Array.toList_zipIdx,n8,g2,hL,h3,MI,hw];simp
      obtain⟨L',z',e1,e2,e3⟩:=ow r cs' l rp' _ t h g1 Oy (by simpa using hlen) (λj i2 new2 hj=>by
       obtain⟨v2,y2,k1,k2,k3⟩:=hp (j+1) i2 new2 (by simpa using hj)
       exact⟨v2,y2,by simpa using k1,k2,k3⟩)
      refine⟨L',z', ?_,e2,e3⟩;unfold al6;rw[uz];have ZY:(v.cells.size≠sz||off+v.cells.size>L.size)=false:=by
       rw[ZX,hLs,rR];simp;omega
      simp only[ZY,Κ,if_false];exact e1
    ·simp at h
def iF (fr:List (Nat×SV)):List (Nat×Operand)->Option (List (Nat×List SV))
 |[]=>some []
 |(i,x)::r=>match ev fr x with
  |none=>none
  |some c=>match bs c with
   |false=>none
   |true=>match iF fr r with
    |none=>none
    |some l=>some ((i,[c])::l)
theorem jK {fr:List (Nat×SV)}:∀{ps:List (Nat×Operand)} {l:List (Nat×List SV)},iF fr ps=some l->∀ρ a,(∀t s,(t,s)∈fr->Has ρ s (a.tmps.getD t undef))->
  (ps.map λp=>(p.1,acV a p.2)).length=l.length/\∀(j i:Nat) (new:List SV),l[j]? =some (i,new)->∃v y,(ps.map λp=>(p.1,acV a p.2))[j]? =some (i,v)/\aw ρ new y/\v.cells.toList=y.flatten
 |[],l,h,ρ,a,_=>by simp[iF]at h;subst h;exact⟨rfl,λj i new h=>by simp at h⟩
 |(i,x)::r,l,h,ρ,a,hf=>by
  simp only[iF]at h;cases hx:ev fr x with
  |none=>rw[hx]at h;simp at h
  |some c=>
   rw[hx]at h;simp only at h;cases hp:bs c with
   |false=>rw[hp]at h;simp at h
   |true=>
    rw[hp]at h;simp only at h;cases hr:iF fr r with
    |none=>rw[hr]at h;simp at h
    |some l'=>
     rw[hr]at h;simp only[κ]at h;subst h;obtain⟨h1,h2⟩:=jK hr ρ a hf;refine⟨by simpa using h1,λj i2 new hj=> ?_⟩;cases j with
     |succ j=>simpa using h2 j i2 new (by simpa using hj)
     |zero=>
      simp only[ϑ,κ,ς]at hj;obtain⟨rfl,rfl⟩:=hj;have hv:=ai hx ρ a hf;have hc:∃y,aw ρ [c] y/\(a.eval x).cells.toList=y.flatten:=by
       cases c<;>simp only[bs,Κ]at hp
       case agg cs=>
        obtain⟨y,k1,k2⟩:=ml rfl hv;exact⟨[y.flatten],by simp only[aw];exact⟨_,[],rfl,by simp only[aI];exact⟨y,k1,rfl⟩,rfl⟩,by rw[k2];simp⟩
       all_goals exact ml rfl hv
      obtain⟨y,k1,k2⟩:=hc;exact⟨_,y,by simp,k1,k2⟩
def placesOf (fs:List (Nat×TypeId×Nat)) (i:Nat):Option (Nat×Nat):=match fs[i]? with
 |some (off,_,sz)=>some (off,sz)
 |none=>none
section
variable {P:Program} {o:Oper} {fr:List (Nat×SV)} {fk:List (Nat×aC)}
theorem run_places {fl:List Field} (h:fl.all (λf=>(P.info? f.type).isSome)=true) (w:World):
  (fl.mapM (λf=>do pure (f.offset,<-aiK f.type):Field->Sem (Nat×Nat))).run P w= .ok (fl.map (λf=>(f.offset,P.cellsOf f.type))) w:=by
 induction fl with
 |nil=>rfl
 |cons f fl ih=>
  simp only[af7,Μ]at h;rw[List.mapM_cons];simp only[Β,qM h.1,ν,Ε,ih h.2,ϲ]
theorem Oz {t:TypeId} {parts:Array (Nat×Operand)} {ti:TI} {fs:List (Nat×TypeId×Nat)} {ps:List (Nat×List SV)} {l:List SV} {c:SV} (ho:o.op= .build t parts) (ht:b6 P t ti) (hk:ti.kind= .agg fs)
  (FH:iF fr parts.toList=some ps) (hb:lH 64 (placesOf fs) ti.zero ps=some l) (hsh:eR ti l=some c):bR P o fr fk c [] []:=
 br λρ a w hp=>by
  obtain⟨i,z,i1,i2,i3,i4,i5,i6,i7,_⟩:=ht.info;have Cw:=ht.kind;rw[hk]at Cw;obtain⟨k1,k2,k3⟩:=Cw;obtain⟨p1,p2⟩:=jK FH ρ a hp.dR;obtain⟨L',z',e1,e2,e3⟩:=ow (ρ:=ρ) ps ti.zero l (parts.toList.map λp=>(p.1,acV a p.2)) z.cells _ hb (eE i6) (by rw[i5,ϸ]) p1 p2;have ZZ:ti.kind.isAgg=true:=by rw[hk];rfl
  refine⟨.agg L', ?_,nG hsh e2 (by rw[ZZ,if_pos rfl,<-e3])⟩;have DY:(abc t).run P w= .ok z w:=by simp[abc,typeInfo,i1,i4]
  have uz:((P.fieldsOf t).mapM (λf=>do pure (f.offset,<-aiK f.type):Field->Sem (Nat×Nat))).run P w= .ok ((P.fieldsOf t).toList.map (λf=>(f.offset,P.cellsOf f.type))).toArray w:=by
   rw[Array.mapM_eq_mapM_toList,Sem.run_map,run_places k3];rfl
  have agw:(λx=>((P.fieldsOf t).toList.map (λf=>(f.offset,P.cellsOf f.type))).toArray[x]?)=placesOf fs:=by
   funext j;rw[<-k2];simp only[placesOf,ac4,ό];cases (P.fieldsOf t).toList[j]? <;>rfl
  have lI:(parts.map λ(i,x)=>(i,acV a x)).toList=parts.toList.map λp=>(p.1,acV a p.2):=by simp
  simp only[execOp,ho,alW,Β,DY,ν,run_underlying k1,uz,agw,lI,e1,Ε]
theorem F7 {t e:TypeId} {n:Nat} {parts:Array (Nat×Operand)} {ti te:TI} {ps:List (Nat×List SV)} {l:List SV} {c:SV} (ho:o.op= .build t parts) (ht:b6 P t ti) (hk:ti.kind= .arr n e) (he:b6 P e te)
  (FH:iF fr parts.toList=some ps) (hb:lH 64 (λi=>some (i*te.size,te.size)) ti.zero ps=some l) (hsh:eR ti l=some c):bR P o fr fk c [] []:=
 br λρ a w hp=>by
  obtain⟨i,z,i1,i2,i3,i4,i5,i6,i7,_⟩:=ht.info;have Cw:=ht.kind;rw[hk]at Cw;obtain⟨p1,p2⟩:=jK FH ρ a hp.dR;obtain⟨L',z',e1,e2,e3⟩:=ow (ρ:=ρ) ps ti.zero l (parts.toList.map λp=>(p.1,acV a p.2)) z.cells _ hb (eE i6) (by rw[i5,ϸ]) p1 p2;have ZZ:ti.kind.isAgg=true:=by rw[hk];rfl
  refine⟨.agg L', ?_,nG hsh e2 (by rw[ZZ,if_pos rfl,<-e3])⟩;have DY:(abc t).run P w= .ok z w:=by simp[abc,typeInfo,i1,i4]
  have lI:(parts.map λ(i,x)=>(i,acV a x)).toList=parts.toList.map λp=>(p.1,acV a p.2):=by simp
  have Cw:P.underlying t=some (.array n e):=Cw;simp only[execOp,ho,alW,Β,DY,ν,run_underlying Cw,he.sizeOf,lI,e1,Ε]
end
end Go.Sx
namespace Go.Sx
def zG (kd:IntKind):List SV->Option (List Int)
 |[]=>some []
 |.val (.int k n)::r=>if k=kd then match zG kd r with
  |some l=>some (n::l)
  |none=>none
  else none
 |_=>none
def vh:List SV->Option (List Rat)
 |[]=>some []
 |.frac q::r=>match vh r with
  |some l=>some (q::l)
  |none=>none
 |_=>none
def qO (s:Nat):List SV->Bool
 |[]=>true
 |c::r=>ϋ c.width s&&qO s r
def DZ (te:TI) (cs:List SV):Option Data:=
 match te.zero with
 |[.frac _]=>match vh cs,ϋ te.size 5 with
  |some l,true=>some (.cf l)
  |_,_=>none
 |[.val (.int kd _)]=>match zG kd cs,ϋ te.size 1 with
  |some l,true=>some (.ints kd l)
  |_,_=>none
 |_=>match qO te.size cs&&aS cs with
  |true=>some (.seq te.size cs)
  |false=>none
theorem zH {ρ:bY} {kd:IntKind}:∀{cs:List SV} {l:List Int} {z:List (List Value)},zG kd cs=some l->aw ρ cs z->z=l.map (λx=>[.int kd x])
 |[],l,z,h,hz=>by simp[zG]at h;subst h;simpa [aw]using hz
 |c::r,l,z,h,hz=>by
  unfold zG at h;split at h
  ·simp_all
  ·rename_i k n r' heq;simp only[afR]at heq;obtain⟨rfl,rfl⟩:=heq;split at h
   ·rename_i hk;subst hk;split at h
    ·rename_i l' hl;simp only[κ]at h;subst h;simp only[aw,aI]at hz;obtain⟨x,y,rfl,⟨rfl,_⟩,h2⟩:=hz;rw[zH hl h2];rfl
    ·simp at h
   ·simp at h
  ·simp at h
theorem xU {ρ:bY}:∀{cs:List SV} {l:List Rat} {z:List (List Value)},vh cs=some l->aw ρ cs z->z=l.map bL
 |[],l,z,h,hz=>by simp[vh]at h;subst h;simpa [aw]using hz
 |c::r,l,z,h,hz=>by
  unfold vh at h;split at h
  ·simp_all
  ·rename_i q r' heq;simp only[afR]at heq;obtain⟨rfl,rfl⟩:=heq;split at h
   ·rename_i l' hl;simp only[κ]at h;subst h;simp only[aw,aI]at hz;obtain⟨x,y,rfl,rfl,h2⟩:=hz;rw[xU hl h2];rfl
   ·simp at h
  ·simp at h
theorem mq {s:Nat}:∀{cs:List SV},qO s cs=true->∀x∈cs,x.width=s
 |c::r,h,x,hx=>by
  simp only[qO,Μ]at h;rcases Λ.1 hx with rfl|hx
  ·exact χ h.1
  ·exact mq h.2 x hx
theorem F8 {ρ:bY} {te:TI} {cs:List SV} {d:Data} {z:List (List Value)} (h:DZ te cs=some d) (hz:aw ρ cs z):Rows ρ te.size d z:=by
 unfold DZ at h;split at h
 ·split at h
  ·rename_i l hl hs;simp only[κ]at h;subst h;exact⟨χ hs,xU hl hz⟩
  ·simp at h
 ·split at h
  ·rename_i l hl hs;simp only[κ]at h;subst h;exact⟨χ hs,zH hl hz⟩
  ·simp at h
 ·split at h
  ·rename_i hw;simp only[κ]at h;subst h;rw[Μ]at hw;exact⟨rfl,cx (ρ:=ρ) (ρ':=cW ρ.aW ρ.cA) (λ_ _ h=>h) cs z hw.2 hz,mq hw.1⟩
  ·simp at h
def F9:Nat->List SV->List SV
 |0,_=>[]
 |n+1,l=>l++F9 n l
theorem vi {ρ:bY} {l:List SV} {y:List (List Value)} (h:aw ρ l y):∀n,aw ρ (F9 n l) ((θ n y).flatten)
 |0=>by simp[F9,aw]
 |n+1=>by simp only[F9,acT,ϐ];exact c9 h (vi h n)
section
variable {P:Program} {o:Oper} {fr:List (Nat×SV)} {fk:List (Nat×aC)}
theorem B5 {t e:TypeId} {len k:Nat} {parts:Array (Nat×Operand)} {ti te:TI} {ps:List (Nat×List SV)} {l:List SV} {d:Data} (ho:o.op= .buildSlice t len parts) (ht:b6 P t ti) (hk:ti.kind= .aM e) (he:b6 P e te)
  (FH:iF fr parts.toList=some ps) (hb:lH 64 (λi=>some (i*te.size,te.size)) (F9 len te.zero) ps=some l) (hd:DZ te l=some d) (D0:l.length=len) (gM:len*te.size<=16777216):
  bR P o fr fk (.aM k te.size 0 len) [(k,⟨e,true,d⟩)] []:=
 dU λρ a w hp=>by
  obtain⟨i,z,i1,i2,i3,i4,i5,i6,i7,_⟩:=he.info;have hu:=ht.kind;rw[hk]at hu;obtain⟨p1,p2⟩:=jK FH ρ a hp.dR;have Cy:=vi (eE (ρ:=ρ) i6) len;have Ga:(madeCells z.cells (len*te.size)).toList=((θ len (te.zero.map gj)).flatten).flatten:=by
   rw[gv z.cells te.size i7 len,i5];have:∀n,(θ n (te.zero.flatMap gj)).flatten=((θ n (te.zero.map gj)).flatten).flatten:=by
    intro n;induction n with
    |zero=>rfl
    |succ n ih=>rw[acT,acT,ϐ,ϐ,ϝ,<-ih,ϸ]
   exact this len
  obtain⟨L',z',e1,e2,e3⟩:=ow (ρ:=ρ) ps _ l (parts.toList.map λp=>(p.1,acV a p.2)) (madeCells z.cells (len*te.size)) _ hb Cy Ga p1 p2;have ct:=F8 hd e2;have hlen:=ct.len;have lI:(parts.map λ(i,x)=>(i,acV a x)).toList=parts.toList.map λp=>(p.1,acV a p.2):=by simp
  have Uw:L'=(z'.flatten++[]).toArray:=by rw[ϣ,<-e3]
  refine⟨_,_,_, ?_,kR (hL:=ct.eS) (ty:=e) (d:=d) (s:=te.size) (n:=len) (cap:=len) (vs:=z'.flatten) (ex:=[]) (hp.fresh k _ (η ..)) ct.data (ζ _) ?_ (by simp)⟩
  ·have OA:¬len*te.size>16777216:=aa;by_cases h0:len*te.size=0
   ·have hm:(aiC 0).map (λx=>(#[]:Array Value)[x % (#[]:Array Value).size]!)=madeCells z.cells (len*te.size):=by simp[h0,madeCells]
    simp only[execOp,ho,agn,Β,run_underlying hu,ν,he.sizeOf,h0,lI];rw[h0]at hm;simp only[ahy,abe,gt_iff_lt,if_false,if_true,Β,Ε,ν,hm];rw[h0]at e1;simp only[e1,Β,newRow,run_newObj,Ε,ν,Uw,aeE]
   ·have hm:(aiC (len*te.size)).map (λx=>z.cells[x % z.cells.size]!)=madeCells z.cells (len*te.size):=rfl;have DY:(abc e).run P w= .ok z w:=by simp[abc,typeInfo,i1,i4]
    simp only[execOp,ho,agn,Β,run_underlying hu,ν,he.sizeOf,h0,lI,ahy,OA,if_false,DY,Ε,hm,e1,newRow,run_newObj,Uw,aeE]
  ·rw[ϣ,aO _ hlen.2,da e2,D0];exact ζ _
theorem ig {z:Array Value} (h:∀v∈z.toList,v.oneCell'=true) (n:Nat):∀v∈(Τ z n).toList,v.oneCell'=true:=by
 intro v hv;simp only[Τ,ak1,akx,abo,af4]at hv;obtain⟨i,hi,rfl⟩:=hv;have jh:0<z.size:=by
  rcases acX z.size with h0|h0
  ·rw[h0]at hi;simp at hi
  ·exact h0
 have aE:i % z.size<z.size:=Nat.mod_lt _ jh;have:z[i % z.size]! =z[i % z.size]:=by simp[aE]
 rw[this];exact h _ (by simp)
theorem Rows.nil {ρ:bY} {d:Data} {s:Nat} (h:d.empty) (hs:dx d=some s):Rows ρ s d []:=by
 cases d<;>simp only[dx,κ,reduceCtorEq]at hs<;>subst hs<;>simp only[Data.empty]at h<;>subst h
 ·exact⟨rfl,rfl⟩
 ·exact⟨rfl,rfl⟩
 ·exact⟨rfl,by simp[aw],by simp⟩
theorem kT {ρ:bY} {w:World} {k s:Nat} {blk:aC} (hb:jl ρ w k blk) (hl:blk.data.live=true) (hw:dx blk.data=some s):
  ∃z,Rows ρ s blk.data z/\((∃b t ex,ρ.key k=some (b,t)/\w.heap[b]? =some (.cells (z.flatten++ex).toArray blk.ty (0,0))/\(z.flatten++ex).length=t/\(∀v∈ex,v.oneCell'=true))\/(ρ.key k=none/\z=[])):=by
 rcases hb with h0|⟨b,t,vs,ex,h1,h2,h3,h4,h5⟩|⟨h1,h2⟩
 ·rw[hl]at h0;cases h0
 ·obtain⟨z,hz,rfl⟩:=Rows.of h3 hw;exact⟨z,hz,.inl ⟨b,t,ex,h1,by rw[h2,Data.cK (by cases hd:blk.data<;>first|rfl|(rw[hd]at hw;simp[dx]at hw))],h4,h5⟩⟩
 ·exact⟨[],.nil h2 hw,.inr ⟨h1,rfl⟩⟩
theorem Rows.zA {ρ:bY} {d:Data} {s:Nat} {z:List (List Value)} (h:Rows ρ s d z):∀u∈z,∀v∈u,v.oneCell'=true:=λu hu v hv=>
 h.data.zA v (afQ.2 ⟨u,hu,hv⟩)
theorem mr (b s j:Nat):(⟨b,0*s,none⟩:Addr).add j=⟨b,j,none⟩:=by
 rw[aeC];unfold agl;split
 ·rename_i h;rw[h]
 ·simp
theorem ox {ρ:bY} {w:World} {k s i n:Nat} {blk:aC} {v:Value} (hv:Has ρ (.aM k s i n) v) (hb:jl ρ w k blk) (hl:blk.data.live=true) (hw:dx blk.data=some s) (oy:i+n<=gu blk.data):
  ∃z,Rows ρ s blk.data z/\(∀w',(∀b,b<w.heap.size->w'.heap[b]? =w.heap[b]?)->(Ω s n v).run P w'= .ok (((z.drop i).take n).flatten).toArray w')/\ahl v=ajP n:=by
 obtain⟨z,hz,hcase⟩:=kT hb hl hw;obtain⟨zl,zw⟩:=hz.len;refine⟨z,hz, ?_⟩;rcases gN hv with⟨b,t,cap,e1,e2,e3,rfl⟩|⟨rfl,a,rfl⟩
 ·rcases hcase with⟨b',t',ex,h1,h2,h3,h4⟩|⟨h1,_⟩
  ·rw[e1]at h1;cases h1;refine⟨λw' B6=> ?_,rfl⟩;have vj:b<w.heap.size:=by
    rcases Ϝ b w.heap.size with h'|h'
    ·exact h'
    ·simp[ϴ h']at h2
   have hh:w'.heap[b]? =some (.cells (z.flatten++ex).toArray blk.ty (0,0)):=by rw[B6 b vj];exact h2
   have zI:((z.drop i).take n).flatten=(z.flatten.drop (i*s)).take (n*s):=by
    rw[cL (s:=s) _ _ (λu hu=>zw u (Ψ hu)),gO (s:=s) _ _ zw]
   have hlen:(((z.drop i).take n).flatten).length=n*s:=by
    rw[aO (s:=s) _ (λu hu=>zw u (Ψ (Θ hu))),ψ,ϗ];congr 1;omega
   refine run_firstCells_some (P:=P) w' s n _ n cap _ hlen ?_;intro j u hj;have hZ:(⟨b,i*s,none⟩:Addr).add j=⟨b,i*s+j,none⟩:=by unfold agl;split<;>simp_all
   rw[hZ,cell_of_row w' b (i*s+j) _ blk.ty (0,0) hh];have h6:=nI zI j u hj;have aE:i*s+j<z.flatten.length:=(Ϩ.1 h6).1;simp only[ό];rw[ϳ aE];exact h6
  ·rw[e1]at h1;cases h1
 ·refine⟨λw' _=> ?_,rfl⟩;cases a with
  |none=>simp[Ω]
  |some a=>simp[Ω,loadCells,loadCellsFrom]
theorem MK {t t2 e:TypeId} {x y:Operand} {xs:Array Operand} {ts:Array TypeId} {ti IE te:TI} {k k2 kn n i2 m:Nat} {d d':Data} {blk2:aC} (ho:o.op= .call ⟨.builtin .append,xs,ts⟩) (hxs:xs= #[x,y]) (po:ts= #[t,t2])
  (hx:bg fr x (.aM k te.size 0 n)) (hy:bg fr y (.aM k2 te.size i2 m)) (ht:b6 P t ti) (hk:ti.kind= .aM e) (FI:b6 P t2 IE) (KA:IE.kind= .aM e) (he:b6 P e te)
  (hf:(k,⟨e,true,d⟩)∈fk) (KC:(k2,blk2)∈fk) (hl:d.live=true) (iD:blk2.data.live=true) (hw:dx d=some te.size) (pq:dx blk2.data=some te.size)
  (hn:n<=gu d) (hm:i2+m<=gu blk2.data) (hd:vf d n blk2.data i2 m=some d') (hbytes:(n+m)*te.bytes<=140737488355328) (h63:n+m<=9223372036854775807):
  bR P o fr fk (.aM kn te.size 0 (n+m)) [(kn,⟨e,true,d'⟩)] [(k,⟨e,true,.dead⟩)]:=
 dU λρ a w hp=>by
  have Gb:=hx ρ a hp.dR;have ML:=hy ρ a hp.dR;obtain⟨i,zv,i1,i2',i3,i4,i5,i6,i7,_⟩:=he.info;have hu:=ht.kind;rw[hk]at hu;have B7:=FI.kind;rw[KA]at B7;obtain⟨z,hz,Z0⟩:=kT (hp.oq k _ hf) hl hw;obtain⟨z2,nu,gw,eg⟩:=ox (P:=P) ML (hp.oq k2 _ KC) iD pq hm;obtain⟨zl,zw⟩:=hz.len;obtain⟨zl2,zw2⟩:=nu.len;have ct:=(xb hd hz nu).1;have dN:=hp.fresh kn _ (η ..);simp only at zl;have jn:∀u∈(z2.drop i2).take m,u.length=te.size:=λu hu=>zw2 u (Ψ (Θ hu))
  have ij:((z2.drop i2).take m).length=m:=by rw[ψ,ϗ];omega
  have qP:(((z2.drop i2).take m).flatten).length=m*te.size:=by rw[aO _ jn,ij]
  have kU:∀u∈(((z2.drop i2).take m).flatten),u.oneCell'=true:=λu hu=>by
   obtain⟨q,hq,hu⟩:=afQ.1 hu;exact nu.zA q (Ψ (Θ hq)) u hu
  have gr:∀v w',(abn ts o.type #[a.eval x,a.eval y]).run P w= .ok v w'->(execOp a.eval o).run P w= .ok (.value v) w':=by
   intro v w' h;simp only[execOp,ho,resolve,invoke,builtin,hxs,Β,Ε,ν,aie,ϲ,af6];rw[h];rfl
  have D3:∀v∈zv.cells.toList,v.oneCell'=true:=by
   have h1:=(aw.len (ρ:=ρ) te.zero _ (eE i6)).2;rw[i5,ϸ];exact h1
  have D4:¬((n+m:Nat):Int)>ε.max:=by
   have:ε.max=9223372036854775807:=ax;omega
  have grow:∀(base:Option Addr) (cap:Nat),a.eval x= .slice base n cap->cap<n+m->(∀w',(∀b,b<w.heap.size->w'.heap[b]? =w.heap[b]?)->(Ω te.size n (.slice base n cap)).run P w'= .ok ((z.take n).flatten).toArray w')->
    ∃v w' ρ',(execOp a.eval o).run P w= .ok (.value v) w'/\kN ρ w (.aM kn te.size 0 (n+m)) [(kn,⟨e,true,d'⟩)] [(k,⟨e,true,.dead⟩)] v ρ' w':=by
   intro base cap hbx hcap hfirst;have zJ:¬aif (n+m) cap*i.bytes>2^48:=by
    have:=growslice_fits (bytes:=te.bytes) hcap hbytes;rw[i3];simpa using this
   have UY:n+m<=grownCap w (n+m) cap e:=by
    simp only[grownCap,ajp];omega
   have cq:=kR (hL:=ct.eS) (ρ:=ρ) (w:=w.drew) (k:=kn) (s:=te.size) (n:=n+m) (cap:=grownCap w (n+m) cap e) (ty:=e) (d:=d') (vs:=(z.take n++(z2.drop i2).take m).flatten) (ex:=(Τ zv.cells (grownCap w (n+m) cap e - (n+m))).toList) dN ct.data UY
    (by
     have h1:((z.take n++(z2.drop i2).take m).flatten).length=(n+m)*te.size:=by
      rw[aO (s:=te.size) _ (λu hu=>(ϖ.1 hu).elim (λh=>zw u (Θ h)) (jn u)),ξ,ij,ψ];congr 1;omega
     rw[ξ,h1,ϭ];have h2:(Τ zv.cells (grownCap w (n+m) cap e - (n+m))).size=(grownCap w (n+m) cap e - (n+m))*te.size:=by simp[Τ,i7]
     rw[h2,<-gx,show n+m+(grownCap w (n+m) cap e - (n+m))=grownCap w (n+m) cap e from by omega]
     exact ζ _) (ig D3 _)
   refine⟨_,_,_,gr _ _ ?_,{cq with
    bE:=⟨cq.bE.os,cq.bE.tape,cq.bE.output,cq.bE.size,λb hb hn=>cq.bE.block b hb (λhh=>by obtain⟨_,_,_,hh,_⟩:=hh;cases hh)⟩
    blk:=λj b hj=>by
     rcases hj with hj|hj
     ·simp only[μ,ς]at hj;obtain⟨rfl,rfl⟩:=hj;exact .inl rfl
     ·exact cq.blk j b (.inr hj)
    once:=λj b b' h1 h2 h3 h4=>by
     simp only[μ,ς]at h1 h2;rw[h2.2]at h4;cases h4
    B0:=λj b q hj hq=>.inl ((cq.B0 j b q hj hq).elim id (λhh=>by obtain⟨_,_,_,hh,_⟩:=hh;cases hh))}⟩
   have Cy:(if false=true then(ajP 0:Sem Nat)else ahl (a.eval y)).run P w= .ok m w:=by rw[eg];rfl
   have vk:¬n+m<=cap:=aa;have hnb:(w.drew).heap=w.heap:=rfl;have Cz:=hfirst w.drew (λb _=>rfl);have wY:=gw w.drew (λb _=>rfl);simp only[abn,po,hbx,ό,ϑ,ϥ,Β,run_underlying hu,run_underlying B7,ν,he.sizeOf,Ε,Κ,if_false,eg];have vl:∀w',(typeInfo e).run P w'= .ok i w':=λw'=>by simp[typeInfo,i1]
   have DY:∀w',(abc e).run P w'= .ok zv w':=λw'=>by simp[abc,typeInfo,i1,i4]
   have vm:¬(((n+m:Nat):Int)>ε.max/\(False\/i.bytes=0)):=λh=>D4 h.1
   have lU:(aik (n+m) cap e).forced=false:=rfl;simp only[vk,if_false,Β,vl,ν,vm,zJ,run_choose,lU,Κ,ajS,run_askRoom,Cz,acP,if_true,wY,DY,newRow,run_newObj,Ε,aeE];have jL:((z.take n).flatten.toArray++((z2.drop i2).take m).flatten.toArray++Τ zv.cells (grownCap w (n+m) cap e - (n+m)))=((z.take n++(z2.drop i2).take m).flatten++(Τ zv.cells (grownCap w (n+m) cap e - (n+m))).toList).toArray:=by
    apply ac0;simp
   show ak2 (aky (some ⟨w.drew.heap.size,0,none⟩) (n+m) (grownCap w (n+m) cap e)) (w.drew.alloc (.cells ((z.take n).flatten.toArray++((z2.drop i2).take m).flatten.toArray++Τ zv.cells (grownCap w (n+m) cap e - (n+m))) e))=_;rw[jL]
  rcases gN Gb with⟨b,tt,cap,e1,e2,e3,e4⟩|⟨rfl,ad,e4⟩
  ·rcases Z0 with⟨b',tt',ex,c1,c2,c3,c4⟩|⟨c1,_⟩
   ·rw[e1]at c1;cases c1;simp only at c2;rcases Ϝ cap (n+m)with aE|KD
    ·refine grow _ cap e4 aE ?_;obtain⟨z3,hz3,hrun3,_⟩:=ox (P:=P) Gb (hp.oq k _ hf) hl hw (by simpa using hn);intro w' B6
     have h0:=run_firstCells_some (P:=P) w' te.size n ⟨b,0*te.size,none⟩ n cap ((z.take n).flatten) (by
      rw[aO (s:=te.size) _ (λu hu=>zw u (Θ hu)),ψ];congr 1;omega) (by
      intro j u hj;have vj:b<w.heap.size:=by
       rcases Ϝ b w.heap.size with h'|h'
       ·exact h'
       ·simp[ϴ h']at c2
      have hh:w'.heap[b]? =some (.cells (z.flatten++ex).toArray e (0,0)):=by rw[B6 b vj];exact c2
      have hZ:(⟨b,0*te.size,none⟩:Addr).add j=⟨b,j,none⟩:=mr b te.size j;rw[hZ,cell_of_row w' b j _ e (0,0) hh];rw[cL (s:=te.size) _ _ zw]at hj;have h6:z.flatten[j]? =some u:=by
       rw[ahL]at hj;split at hj
       ·exact hj
       ·cases hj
      have MN:j<z.flatten.length:=(Ϩ.1 h6).1;simp only[ό];rw[ϳ MN]
      exact h6)
     exact h0
    ·-- in place
     have vj:b<w.heap.size:=by
      rcases Ϝ b w.heap.size with h'|h'
      ·exact h'
      ·simp[ϴ h']at c2
     have wY:=gw w (λb _=>rfl);have xV:0*te.size+n*te.size+(((z2.drop i2).take m).flatten).length<=(z.flatten++ex).length:=by
      rw[qP,c3,aeC,υ,<-gx];exact Ι (ο _ KD) (by simpa using e3)
     have Ky:=run_storeCells_at (P:=P) b (n*te.size) e (((z2.drop i2).take m).flatten) 0 (z.flatten++ex).toArray w c2 (by simp only[af5];simpa using xV) kU;have hZ:(⟨b,0*te.size,none⟩:Addr).add (n*te.size)=⟨b,n*te.size,none⟩:=mr b te.size _
     have fP:((z.flatten++ex).take (n*te.size+0)++(((z2.drop i2).take m).flatten)++(z.flatten++ex).drop (n*te.size+0+(((z2.drop i2).take m).flatten).length))=
       (z.take n++(z2.drop i2).take m).flatten++(z.flatten++ex).drop (n*te.size+m*te.size):=by
      rw[abC,qP,ϝ,cL (s:=te.size) _ _ zw,adn (by rw[aO (s:=te.size) _ zw];exact ο _ aa)]
     rw[fP]at Ky
     let ρ':bY:=⟨λj=>if j=kn then some (b,tt)else ρ.key j,ρ.aW,ρ.cA⟩
     have hle:ρ.Le ρ':=⟨λj q hq=>by
      show(if j=kn then _ else _)=_;by_cases hj:j=kn
      ·subst hj;rw[dN]at hq;cases hq
      ·rw[if_neg hj];exact hq,λb o hb=>hb⟩
     refine⟨.slice (some ⟨b,0*te.size,none⟩) (n+m) cap,w.setRow b ((z.take n++(z2.drop i2).take m).flatten++(z.flatten++ex).drop (n*te.size+m*te.size)).toArray,ρ',gr _ _ ?_, ?_⟩
     ·simp only[abn,po,e4,ό,ϑ,ϥ,Β,run_underlying hu,run_underlying B7,ν,he.sizeOf,Ε,Κ,if_false,eg,KD,if_true,acP,wY,hZ,Ky]
     ·refine⟨hle,iE (.inl ⟨b,tt,cap, ?_,KD,e3,rfl⟩), ?_,⟨rfl,rfl,rfl,by simp[ah9], ?_⟩, ?_, ?_, ?_, ?_,λb o hb=>.inl hb⟩
      ·show(if kn=kn then _ else _)=_;rw[if_pos rfl]
      ·intro j hj;show(if j=kn then _ else _)=_;rw[if_neg];rintro rfl;exact hj _ (η ..)
      ·intro q hq hnq;refine dh λZ1=>hnq ⟨k,_,tt,η .., ?_⟩
       rw[Z1];exact e1
      ·intro j bj hj;rcases hj with hj|hj
       ·simp only[μ,ς]at hj;obtain⟨rfl,rfl⟩:=hj;exact .inl rfl
       ·simp only[μ,ς]at hj;obtain⟨rfl,rfl⟩:=hj;refine .inr (.inl ⟨b,tt,_,(z.flatten++ex).drop (n*te.size+m*te.size), ?_,by rw[Data.cK ct.eS];exact dC c2,ct.data.mono hle, ?_, ?_⟩)
        ·show(if j=j then _ else _)=_;rw[if_pos rfl]
        ·have h1:((z.take n++(z2.drop i2).take m).flatten).length=(n+m)*te.size:=by
          rw[aO (s:=te.size) _ (λu hu=>(ϖ.1 hu).elim (λh=>zw u (Θ h)) (jn u)),ξ,ij,ψ];congr 1;omega
         rw[ξ,h1,ϗ,c3,gx];rw[qP,c3]at xV;omega
        ·intro u hu;have:=Ψ hu;rcases ϖ.1 this with h|h
         ·obtain⟨q,hq,hu'⟩:=afQ.1 h;exact hz.zA q hq u hu'
         ·exact c4 u h
      ·intro j c c' h1 h2 h3 h4;simp only[μ,ς]at h1 h2;rw[h2.2]at h4;cases h4
      ·intro j bj q hj hq;simp only[μ,ς]at hj;obtain⟨rfl,rfl⟩:=hj;have uA:(if j=j then some (b,tt)else ρ.key j)=some q:=hq;rw[if_pos rfl]at uA;cases uA;exact .inr ⟨k,_,tt,η ..,rfl,e1⟩
      ·intro j bj j' bj' q q' hj qm a8;simp only[μ,ς]at hj qm;exact absurd (hj.1.trans qm.1.symm) a8
   ·rw[e1]at c1;cases c1
  ·rcases acX m with rfl|Ux
   ·-- nothing onto nothing
    have wY:=gw w (λb _=>rfl);refine⟨.slice ad 0 0,w,ρ,gr _ _ ?_, ?_⟩
    ·have nv:∀q:Addr,(storeCells q ([]:List Value)).run P w= .ok () w:=λq=>rfl
     have Gc:((z2.drop i2).take 0).flatten=[]:=by simp
     rw[Gc]at wY;cases ad<;>simp only[abn,po,e4,ό,ϑ,ϥ,Β,run_underlying hu,run_underlying B7,ν,he.sizeOf,Ε,Κ,if_false,eg,abC,ζ,if_true,acP,wY,nv]
    ·have agx:d'.empty\/True:=.inr trivial;have w8:d'.empty:=by
      unfold vf at hd;split at hd
      ·split at hd
       ·simp only[κ]at hd;subst hd;simp[Data.empty]
       ·simp at hd
      ·simp only[κ]at hd;subst hd;simp[Data.empty]
      ·split at hd
       ·simp only[κ]at hd;subst hd;simp[Data.empty]
       ·simp at hd
      ·simp at hd
     refine⟨.refl ρ,iE (.inr ⟨rfl,ad,rfl⟩),λ_ _=>rfl,.refl _ _, ?_, ?_, ?_, ?_,λb o hb=>.inl hb⟩
     ·intro j bj hj;rcases hj with hj|hj
      ·simp only[μ,ς]at hj;obtain⟨rfl,rfl⟩:=hj;exact .inl rfl
      ·simp only[μ,ς]at hj;obtain⟨rfl,rfl⟩:=hj;exact .inr (.inr ⟨dN,w8⟩)
     ·intro j c c' h1 h2 h3 h4;simp only[μ,ς]at h1 h2;rw[h2.2]at h4;cases h4
     ·intro j bj q hj hq;simp only[μ,ς]at hj;obtain⟨rfl,rfl⟩:=hj;rw[dN]at hq;cases hq
     ·intro j bj j' bj' q q' hj qm a8;simp only[μ,ς]at hj qm;exact absurd (hj.1.trans qm.1.symm) a8
   ·refine grow ad 0 e4 aa ?_;intro w' _;cases ad with
    |none=>simp[Ω]
    |some q=>simp[Ω,loadCells,loadCellsFrom]
theorem B8 {t t2 e:TypeId} {x y:Operand} {xs:Array Operand} {ts:Array TypeId} {ti IE te:TI} {k2 kn i2 m:Nat} {d':Data} {blk2:aC} (ho:o.op= .call ⟨.builtin .append,xs,ts⟩) (hxs:xs= #[x,y]) (po:ts= #[t,t2])
  (hx:bg fr x (.val (.slice none 0 0))) (hy:bg fr y (.aM k2 te.size i2 m)) (ht:b6 P t ti) (hk:ti.kind= .aM e) (FI:b6 P t2 IE) (KA:IE.kind= .aM e) (he:b6 P e te)
  (KC:(k2,blk2)∈fk) (iD:blk2.data.live=true) (pq:dx blk2.data=some te.size)
  (hm:i2+m<=gu blk2.data) (hd:vf blk2.data 0 blk2.data i2 m=some d') (hbytes:m*te.bytes<=140737488355328) (h63:m<=9223372036854775807):
  bR P o fr fk (.aM kn te.size 0 m) [(kn,⟨e,true,d'⟩)] []:=
 dU λρ a w hp=>by
  have Gb:=aK (hx ρ a hp.dR);have ML:=hy ρ a hp.dR;obtain⟨i,zv,i1,i2',i3,i4,i5,i6,i7,_⟩:=he.info;have hu:=ht.kind;rw[hk]at hu;have B7:=FI.kind;rw[KA]at B7;obtain⟨z2,nu,gw,eg⟩:=ox (P:=P) ML (hp.oq k2 _ KC) iD pq hm;obtain⟨zl2,zw2⟩:=nu.len;have ct:=(xb hd nu nu).1;rw[agq,aln]at ct;have dN:=hp.fresh kn _ (η ..);have jn:∀u∈(z2.drop i2).take m,u.length=te.size:=λu hu=>zw2 u (Ψ (Θ hu))
  have ij:((z2.drop i2).take m).length=m:=by rw[ψ,ϗ];omega
  have gr:∀v w',(abn ts o.type #[a.eval x,a.eval y]).run P w= .ok v w'->(execOp a.eval o).run P w= .ok (.value v) w':=by
   intro v w' h;simp only[execOp,ho,resolve,invoke,builtin,hxs,Β,Ε,ν,aie,ϲ,af6];rw[h];rfl
  have D3:∀v∈zv.cells.toList,v.oneCell'=true:=by
   have h1:=(aw.len (ρ:=ρ) te.zero _ (eE i6)).2;rw[i5,ϸ];exact h1
  rcases acX m with rfl|Ux
  ·have wY:=gw w (λb _=>rfl);refine⟨.slice none 0 0,w,ρ,gr _ _ ?_, ?_⟩
   ·have Gc:((z2.drop i2).take 0).flatten=[]:=by simp
    rw[Gc]at wY;simp only[abn,po,Gb,ό,ϑ,ϥ,Β,run_underlying hu,run_underlying B7,ν,he.sizeOf,Ε,Κ,if_false,eg,abC,ζ,if_true,acP,wY]
   ·have w8:d'.empty:=by
     unfold vf at hd;split at hd
     ·split at hd
      ·simp only[κ]at hd;subst hd;simp[Data.empty]
      ·simp at hd
     ·simp only[κ]at hd;subst hd;simp[Data.empty]
     ·split at hd
      ·simp only[κ]at hd;subst hd;simp[Data.empty]
      ·simp at hd
     ·simp at hd
    refine⟨.refl ρ,iE (.inr ⟨rfl,none,rfl⟩),λ_ _=>rfl,.refl _ _, ?_,(λ_ _ _ h=>by cases h), ?_, ?_,λb o hb=>.inl hb⟩
    ·intro j bj hj;rcases hj with hj|hj
     ·cases hj
     ·simp only[μ,ς]at hj;obtain⟨rfl,rfl⟩:=hj;exact .inr (.inr ⟨dN,w8⟩)
    ·intro j bj q hj hq;simp only[μ,ς]at hj;obtain⟨rfl,rfl⟩:=hj;rw[dN]at hq;cases hq
    ·intro j bj j' bj' q q' hj qm a8;simp only[μ,ς]at hj qm;exact absurd (hj.1.trans qm.1.symm) a8
  ·have D4:¬((0+m:Nat):Int)>ε.max:=by
    have:ε.max=9223372036854775807:=ax;omega
   have zJ:¬aif (0+m) 0*i.bytes>2^48:=by
    have:=growslice_fits (bytes:=te.bytes) (show 0<0+m by omega) (by rw[υ];exact hbytes);rw[i3];simpa using this
   have UY:m<=grownCap w (0+m) 0 e:=by
    simp only[grownCap,ajp];omega
   have cq:=kR (hL:=ct.eS) (ρ:=ρ) (w:=w.drew) (k:=kn) (s:=te.size) (n:=m) (cap:=grownCap w (0+m) 0 e) (ty:=e) (d:=d') (vs:=((z2.drop i2).take m).flatten) (ex:=(Τ zv.cells (grownCap w (0+m) 0 e - (0+m))).toList) dN ct.data UY
    (by
     have h1:(((z2.drop i2).take m).flatten).length=m*te.size:=by rw[aO (s:=te.size) _ jn,ij]
     rw[ξ,h1,ϭ];have h2:(Τ zv.cells (grownCap w (0+m) 0 e - (0+m))).size=(grownCap w (0+m) 0 e - (0+m))*te.size:=by simp[Τ,i7]
     rw[h2,<-gx,show m+(grownCap w (0+m) 0 e - (0+m))=grownCap w (0+m) 0 e from by omega]
     exact ζ _) (ig D3 _)
   refine⟨_,_,_,gr _ _ ?_,{cq with bE:=⟨cq.bE.os,cq.bE.tape,cq.bE.output,cq.bE.size,cq.bE.block⟩}⟩;have vk:¬0+m<=0:=aa;have wY:=gw w.drew (λb _=>rfl);have vl:∀w',(typeInfo e).run P w'= .ok i w':=λw'=>by simp[typeInfo,i1]
   have DY:∀w',(abc e).run P w'= .ok zv w':=λw'=>by simp[abc,typeInfo,i1,i4]
   have vm:¬(((0+m:Nat):Int)>ε.max/\(False\/i.bytes=0)):=λh=>D4 h.1
   have lU:(aik (0+m) 0 e).forced=false:=rfl;have Cz:∀w',(Ω te.size 0 (.slice none 0 0)).run P w'= .ok #[] w':=λw'=>by simp[Ω]
   simp only[abn,po,Gb,ό,ϑ,ϥ,Β,run_underlying hu,run_underlying B7,ν,he.sizeOf,Ε,Κ,if_false,eg];simp only[vk,if_false,Β,vl,ν,vm,zJ,run_choose,lU,Κ,ajS,run_askRoom,Cz,acP,if_true,wY,DY,newRow,run_newObj,Ε,aeE];have jL:((#[]:Array Value)++((z2.drop i2).take m).flatten.toArray++Τ zv.cells (grownCap w (0+m) 0 e - (0+m)))=(((z2.drop i2).take m).flatten++(Τ zv.cells (grownCap w (0+m) 0 e - (0+m))).toList).toArray:=by
    apply ac0;simp
   show ak2 (aky (some ⟨w.drew.heap.size,0,none⟩) (0+m) (grownCap w (0+m) 0 e)) (w.drew.alloc (.cells ((#[]:Array Value)++((z2.drop i2).take m).flatten.toArray++Τ zv.cells (grownCap w (0+m) 0 e - (0+m))) e))=_;rw[jL,υ]
theorem Gd {src dst e:TypeId} {x:Operand} {ti td te:TI} {k i n:Nat} {wr:Bool} {ty:TypeId} {xs:List Int} (ho:o.op= .convert src dst x) (hx:bg fr x (.aM k 1 i n)) (ht:b6 P src ti) (hk:ti.kind= .aM e) (he:b6 P e te) (X3:te.kind= .int .u8)
  (htd:b6 P dst td) (Cw:td.kind= .str) (hf:(k,⟨ty,wr,.ints .u8 xs⟩)∈fk) (hn:i+n<=xs.length):
  bR P o fr fk (.val (.string ⟨(((xs.drop i).take n).map λv=>aal v.toNat).toArray⟩)) [] []:=
 br λρ a w hp=>by
  have hv:=hx ρ a hp.dR;have hu:=ht.kind;rw[hk]at hu;have hue:=he.kind;rw[X3]at hue;have Z2:=htd.kind;rw[Cw]at Z2;obtain⟨z,hz,ny,_⟩:=ox (P:=P) hv (hp.oq k _ hf) rfl rfl hn;obtain⟨_,rfl⟩:=hz;have hr:=ny w (λ_ _=>rfl);have Oy:∀(l:List Int) (b:ByteArray),l.foldl (λr n=>r.push (aal n.toNat)) b=⟨b.data++(l.map λv=>aal v.toNat).toArray⟩:=by
   intro l;induction l with
   |nil=>intro b;simp
   |cons v l ih=>
    intro b;rw[alo,ih];congr 1;show(b.data.push _)++_=_;apply ac0;simp
  have zI:((((xs.map λx=>[adt .u8 x]).drop i).take n).flatten)=((xs.drop i).take n).map (adt .u8):=by
   rw[<-ahO,<-ahM,<-ϸ,afd]
  rcases gN hv with⟨b,t,cap,e1,e2,e3,b7⟩|⟨rfl,ad,b7⟩
  ·rw[alp]at b7;rw[b7]at hr;simp only[Ω,alp,zI]at hr;have:=run_bytesToString (P:=P) w ⟨b,i,none⟩ n cap ((xs.drop i).take n) hr;rw[Oy]at this;refine⟨_, ?_,ck rfl⟩;simp only[execOp,ho,b7,convert,Β,run_underlying hu,run_underlying Z2,run_underlying hue,ν,this,Ε];congr 4;apply ac0;simp
  ·refine⟨_, ?_,ck rfl⟩;rw[b7]at hr;cases ad with
   |none=>
    have:(Conv.bytesToString (.slice none 0 0)).run P w= .ok (.string .empty) w:=rfl;simp only[execOp,ho,b7,convert,Β,run_underlying hu,run_underlying Z2,run_underlying hue,ν,this,Ε];rfl
   |some q=>
    have hr:(loadCells q 0).run P w= .ok (([]:List Int).map (adt .u8)).toArray w:=rfl;have:=run_bytesToString (P:=P) w q 0 0 [] hr;simp only[execOp,ho,b7,convert,Β,run_underlying hu,run_underlying Z2,run_underlying hue,ν,this,Ε];rfl
end
end Go.Sx
namespace Go.Sx
def agy (w:Nat) (xs:List SV) (aW:Nat->Option Obj) (vs:List Value):Prop:=
 (xs=[]/\∃a,vs=[.slice a 0 0])\/
 ∃(hg:jG aW) (b cap:Nat) (z:List (List Value)) (pre ex:List Value) (ty:TypeId) (fz:Nat×Nat),aW b=some (.cells (pre++(z.flatten++ex)).toArray ty fz)/\aw (cW aW hg) xs z/\(∀x∈xs,x.width=w)/\
  xs.length<=cap/\cap*w<=(z.flatten++ex).length/\vs=[.slice (some ⟨b,pre.length,none⟩) xs.length cap]
def MO (w:Nat) (xs:List SV):Pred where
 h:=agy w xs
 mono i i' vs hle h:=by
  rcases h with h|⟨hg,b,cap,z,pre,ex,ty,fz,h1,h2,h3⟩
  ·exact .inl h
  ·exact .inr ⟨hg.mono hle,b,cap,z,pre,ex,ty,fz,hle _ _ h1,aw.mono (vc hle hg _) _ _ h2,h3⟩
 width:=1
 len i vs h:=by
  rcases h with⟨_,a,rfl⟩|⟨hg,b,cap,z,pre,ex,_,_,_,_,_,_,_,rfl⟩<;>simp[aaq]
 bare:=true
 u9 _:=rfl
abbrev fh (w:Nat) (xs:List SV):SV:=.atom (MO w xs)
theorem vn {ρ:bY} {w:Nat} {xs:List SV} {v:Value} (h:Has ρ (fh w xs) v):(xs=[]/\∃a,v= .slice a 0 0)\/
  ∃(b cap:Nat) (z:List (List Value)) (pre ex:List Value) (ty:TypeId) (fz:Nat×Nat),ρ.aW b=some (.cells (pre++(z.flatten++ex)).toArray ty fz)/\aw (cW ρ.aW ρ.cA) xs z/\(∀x∈xs,x.width=w)/\
  xs.length<=cap/\cap*w<=(z.flatten++ex).length/\v= .slice (some ⟨b,pre.length,none⟩) xs.length cap:=by
 simp only[Has,aI]at h;obtain⟨x,h1,rfl⟩:=h;rcases h1 with⟨h1,a,rfl⟩|⟨hg,b,cap,z,pre,ex,ty,fz,h1,h2,h3,h4,h5,rfl⟩
 ·exact .inl ⟨h1,a,by simp[cV,SV.aZ,MO]⟩
 ·exact .inr ⟨b,cap,z,pre,ex,ty,fz,h1,h2,h3,h4,h5,by simp[cV,SV.aZ,MO]⟩
theorem yI {ρ:bY} {w:Nat} {xs:List SV} {v:Value} (h:(xs=[]/\∃a,v= .slice a 0 0)\/
  ∃(b cap:Nat) (z:List (List Value)) (pre ex:List Value) (ty:TypeId) (fz:Nat×Nat),ρ.aW b=some (.cells (pre++(z.flatten++ex)).toArray ty fz)/\aw (cW ρ.aW ρ.cA) xs z/\(∀x∈xs,x.width=w)/\
  xs.length<=cap/\cap*w<=(z.flatten++ex).length/\v= .slice (some ⟨b,pre.length,none⟩) xs.length cap):Has ρ (fh w xs) v:=by
 simp only[Has,aI];refine⟨[v], ?_,by simp[cV,SV.aZ,MO]⟩;rcases h with⟨h1,a,rfl⟩|⟨b,cap,z,pre,ex,ty,fz,h1,h2,h3,h4,h5,rfl⟩
 ·exact .inl ⟨h1,a,rfl⟩
 ·exact .inr ⟨ρ.cA,b,cap,z,pre,ex,ty,fz,h1,h2,h3,h4,h5,rfl⟩
def agz (cs:List SV) (aW:Nat->Option Obj) (vs:List Value):Prop:=
 ∃(hg:jG aW) (b:Nat) (z:List (List Value)) (pre ex:List Value) (ty:TypeId) (fz:Nat×Nat),aW b=some (.cells (pre++(z.flatten++ex)).toArray ty fz)/\aw (cW aW hg) cs z/\vs=[.pointer (some ⟨b,pre.length,none⟩)]
def lY (cs:List SV):Pred where
 h:=agz cs
 mono i i' vs hle h:=by
  obtain⟨hg,b,z,pre,ex,ty,fz,h1,h2,h3⟩:=h;exact⟨hg.mono hle,b,z,pre,ex,ty,fz,hle _ _ h1,aw.mono (vc hle hg _) _ _ h2,h3⟩
 width:=1
 len i vs h:=by
  obtain⟨hg,b,z,pre,ex,ty,fz,h1,h2,rfl⟩:=h;simp[aaq]
 bare:=true
 u9 _:=rfl
abbrev b9 (cs:List SV):SV:=.atom (lY cs)
theorem zK {ρ:bY} {cs:List SV} {v:Value} (h:Has ρ (b9 cs) v):∃(b:Nat) (z:List (List Value)) (pre ex:List Value) (ty:TypeId) (fz:Nat×Nat),ρ.aW b=some (.cells (pre++(z.flatten++ex)).toArray ty fz)/\
  aw (cW ρ.aW ρ.cA) cs z/\v= .pointer (some ⟨b,pre.length,none⟩):=by
 simp only[Has,aI]at h;obtain⟨x,⟨hg,b,z,pre,ex,ty,fz,h1,h2,rfl⟩,rfl⟩:=h;exact⟨b,z,pre,ex,ty,fz,h1,h2,by simp[cV,SV.aZ,lY]⟩
theorem vo {ρ:bY} {cs:List SV} {v:Value} (h:∃(b:Nat) (z:List (List Value)) (pre ex:List Value) (ty:TypeId) (fz:Nat×Nat),ρ.aW b=some (.cells (pre++(z.flatten++ex)).toArray ty fz)/\
  aw (cW ρ.aW ρ.cA) cs z/\v= .pointer (some ⟨b,pre.length,none⟩)):Has ρ (b9 cs) v:=by
 obtain⟨b,z,pre,ex,ty,fz,h1,h2,rfl⟩:=h;simp only[Has,aI];exact⟨[.pointer (some ⟨b,pre.length,none⟩)],⟨ρ.cA,b,z,pre,ex,ty,fz,h1,h2,rfl⟩,by simp[cV,SV.aZ,lY]⟩
theorem qQ (b n j:Nat):(⟨b,n,none⟩:Addr).add j=⟨b,n+j,none⟩:=by
 unfold agl;split<;>simp_all
def ik (xs:List SV) (l h:Nat):List SV:=(xs.drop l).take (h - l)
section
variable {P:Program} {o:Oper} {ft:List (Nat×SV)} {fk:List (Nat×aC)} {w:Nat} {xs cs:List SV}
theorem UZ {x:Operand} {t:TypeId} {xs':Array Operand} {ts:Array TypeId} {ti:TI} {e:TypeId} (ho:o.op= .call ⟨.builtin .len,xs',ts⟩) (hxs:xs'= #[x]) (po:ts= #[t]) (hx:bg ft x (fh w xs)) (ht:b6 P t ti)
  (hk:ti.kind= .aM e):bR P o ft fk (.val (.int .i64 (xs.length:Int))) [] []:=
 br λρ a w hp=>by
  have hv:=hx ρ a hp.dR;refine⟨_, ?_,ck rfl⟩;have hu:=ht.kind;rw[hk]at hu;rcases vn hv with⟨rfl,ad,h4⟩|⟨b,cap,z,pre,ex,_,_,_,_,_,_,_,h4⟩
  ·simp[execOp,ho,hxs,po,resolve,invoke,builtin,agB,run_underlying hu,h4,goInt]
  ·simp[execOp,ho,hxs,po,resolve,invoke,builtin,agB,run_underlying hu,h4,goInt]
theorem MP {t e:TypeId} {x ix:Operand} {ti te:TI} {kd:IntKind} {j:Int} {el:SV} (ho:o.op= .indexAddr t x ix) (hx:bg ft x (fh w xs)) (hi:bg ft ix (.val (.int kd j)))
  (ht:b6 P t ti) (hk:ti.kind= .aM e) (he:b6 P e te) (hs:te.size=w) (h0:0<=j) (hj:j<(xs.length:Int)) (hel:xs.getD j.toNat .any=el):bR P o ft fk (b9 [el]) [] []:=
 br λρ a W hp=>by
  have e2:=aK (hi ρ a hp.dR);have hu:=ht.kind;rw[hk]at hu;rcases vn (hx ρ a hp.dR)with⟨rfl,_⟩|⟨b,cap,z,pre,ex,ty,fz,h1,h2,h3,h4,h5,h6⟩
  ·simp at hj;omega
  ·have FU:j.toNat<xs.length:=aa;obtain⟨g1,g2⟩:=qL h2 j.toNat FU;have X4:=gk xs z h2 h3;have rR:z.length=xs.length:=da h2;refine⟨.pointer (some ⟨b,pre.length+j.toNat*w,none⟩), ?_,vo ⟨b,[z.getD j.toNat []],pre++(z.take j.toNat).flatten,(z.drop (j.toNat+1)).flatten++ex,ty,fz, ?_, ?_, ?_⟩⟩
   ·have qm:0<=j/\j<(xs.length:Int):=⟨h0,hj⟩;simp only[execOp,ho,ajF,e2,h6,asIntOf,Β,Ε,ν,run_underlying hu,qm,and_self,if_true,he.sizeOf,hs,qQ]
   ·rw[h1];congr 3;have hz:z=z.take j.toNat++(z.getD j.toNat []::z.drop (j.toNat+1)):=by
     have aE:j.toNat<z.length:=aa;rw[List.getD_eq_getElem?_getD,List.getElem?_eq_getElem aE,Option.getD_some,<-List.drop_eq_getElem_cons aE,ϟ]
    have:z.flatten=(z.take j.toNat).flatten++(z.getD j.toNat []++(z.drop (j.toNat+1)).flatten):=by
     conv=>lhs;rw[hz]
     simp
    rw[this];simp
   ·simp only[aw];exact⟨_,[],rfl,hel▸g1,rfl⟩
   ·have:((z.take j.toNat).flatten).length=j.toNat*w:=by
     rw[aO (s:=w) _ (λu hu=>X4 u (Θ hu)),ψ,rR,acR aa]
    rw[ξ,this]
theorem OB {t:TypeId} {x:Operand} {ti:TI} {l:List SV} {c:SV} (ho:o.op= .load t x) (hx:bg ft x (b9 cs)) (ht:b6 P t ti) (hs:sub 64 cs 0 ti.size=some l) (gM:ti.size≠0) (hsh:eR ti l=some c):
  bR P o ft fk c [] []:=
 br λρ a W hp=>by
  obtain⟨b,z,pre,ex,ty,fz,h1,h2,hv⟩:=zK (hx ρ a hp.dR);have h2:=aw.mono (qG ρ ρ.cA) _ _ h2;obtain⟨y,e1,e2,e3⟩:=vd 64 cs 0 ti.size l z hs h2;have e3:=e3.resolve_left gM;rw[afg]at e2;have hh:=hp.aW b _ h1;have hy:y.flatten=((pre++(z.flatten++ex)).drop pre.length).take ti.size:=by
   rw[aly,e2,adn aa]
  have w9:ti.kind.isAgg=true\/ti.size=1:=by
   cases ha:ti.kind.isAgg with
   |true=>exact .inl rfl
   |false=>
    right;unfold eR at hsh;rw[ha]at hsh
    match l,hsh,e1 with
    |[d],hsh,e1=>
     simp only[aw]at e1;obtain⟨u,_,rfl,d1,rfl⟩:=e1;have hd:d.aZ=true:=by
      cases hd:d.aZ with
      |true=>rfl
      |false=>simp only at hsh;rw[hd]at hsh;simp at hsh
     have UO:d.width=1:=by
      cases d<;>simp only[SV.aZ,Κ]at hd<;>simp only[SV.width]
      exact Pred.u9 _ hd
     have:=(aI.len d u d1).1;simp only[ϐ,acY,ϣ]at e2;have h7:=congrArg aki e2;rw[ψ]at h7;omega
    |[],hsh,_=>simp at hsh
    |_::_::_,hsh,_=>simp at hsh
  refine⟨_, ?_,nG hsh e1 rfl⟩;have hr:=xS ht (P:=P) hh hy (by rw[ξ,ξ];omega) w9;simp[execOp,ho,alO,aga,hv,hr]
theorem U0 {ρ:bY} {off n:Nat} {l:List SV} {z:List (List Value)} (h:sub 64 cs off n=some l) (hn:n≠0) (hz:aw ρ cs z):∃y pre ex,aw ρ l y/\z.flatten=pre++(y.flatten++ex)/\pre.length=off:=by
 obtain⟨y,h1,h2,h3⟩:=vd 64 cs off n l z h hz;have h3:=h3.resolve_left hn;refine⟨y,z.flatten.take off,z.flatten.drop (off+n),h1, ?_, ?_⟩
 ·rw[h2,<-afZ,ϟ,ϟ]
 ·rw[ψ];omega
theorem MQ {S:TypeId} {x:Operand} {j off e sz:Nat} {ti:TI} {fs:List (Nat×TypeId×Nat)} {l:List SV} (ho:o.op= .fieldAddr S x j) (hx:bg ft x (b9 cs)) (ht:b6 P S ti)
  (hk:ti.kind= .agg fs) (hj:fs[j]? =some (off,e,sz)) (gM:sz≠0) (hs:sub 64 cs off sz=some l):bR P o ft fk (b9 l) [] []:=
 br λρ a w hp=>by
  obtain⟨b,z,pre,ex,ty,fz,h1,h2,hv⟩:=zK (hx ρ a hp.dR);obtain⟨y,p2,x2,g1,g2,g3⟩:=U0 hs gM h2;have Cw:=ht.kind;rw[hk]at Cw;obtain⟨k1,k2,k3⟩:=Cw;have hf:∃fd,(P.fieldsOf S)[j]? =some fd/\fd.offset=off/\P.cellsOf fd.type=sz/\(P.info? fd.type).isSome=true:=by
   rw[<-k2,ac4]at hj;cases hq:(P.fieldsOf S).toList[j]? with
   |none=>rw[hq]at hj;simp at hj
   |some fd=>
    rw[hq]at hj;simp only[afy,κ,ς]at hj;refine⟨fd,by simpa using hq,hj.1,hj.2.2, ?_⟩;exact aiy.1 k3 fd (akm hq)
  obtain⟨fd,f1,f2,f3,f4⟩:=hf;refine⟨.pointer (some ⟨b,pre.length+off,none⟩), ?_,vo ⟨b,y,pre++p2,x2++ex,ty,fz, ?_,g1,by rw[ξ,g3]⟩⟩
  ·simp[execOp,ho,alz,run_underlying k1,f1,aga,hv,fieldPlace,qM f4,f3,f2,gM,qQ]
  ·rw[h1,g2];simp
theorem MR {t e:TypeId} {x:Operand} {lo hi mx:Option Operand} {ti te:TI} {l h:Int} (ho:o.op= .slice t x lo hi mx) (hx:bg ft x (fh w xs))
  (FG:lo=none/\l=0\/∃y kd,lo=some y/\bg ft y (.val (.int kd l))) (BX:hi=none/\h=xs.length\/∃y kd,hi=some y/\bg ft y (.val (.int kd h)))
  (hmx:mx=none\/(hi≠none/\∃y kd,mx=some y/\bg ft y (.val (.int kd h))))
  (ht:b6 P t ti) (hk:ti.kind= .aM e) (he:b6 P e te) (hs:te.size=w) (h0:0<=l) (hlh:l<=h) (hh:h<=(xs.length:Int)):bR P o ft fk (fh w (ik xs l.toNat h.toNat)) [] []:=
 br λρ a W hp=>by
  have hu:=ht.kind;rw[hk]at hu
  have key:∀(ad:Option Addr) (m cap:Nat),xs.length=m->m<=cap->a.eval x= .slice ad m cap->
    ∃top,h.toNat<=top/\top<=cap/\(execOp a.eval o).run P W= .ok (.value (.slice (if top=l.toNat then ad else ad.map (·.add (l.toNat*w))) (h.toNat - l.toNat) (top - l.toNat))) W:=by
   intro ad m cap Ox hmc hv;have N7:∀z:Operand,∀kd bd,bg ft z (.val (.int kd h))->h.toNat<=bd->∀q,(ϻ (a.eval z) bd q).run P W= .ok h.toNat W:=by
    intro z kd bd hz MS q;have:=aK (hz ρ a hp.dR);have hb:0<=h/\h<=(bd:Int):=aa;simp[ϻ,this,asIntOf,hb]
   have UW:∀z:Operand,∀kd q,bg ft z (.val (.int kd l))->(ϻ (a.eval z) h.toNat q).run P W= .ok l.toNat W:=by
    intro z kd q hz;have:=aK (hz ρ a hp.dR);have hb:0<=l/\l<=(h.toNat:Int):=aa;simp only[ϻ,this,asIntOf,Β,Ε,ν,hb,and_self,if_true]
   rcases hmx with rfl|⟨a8,y,ky,rfl,hy⟩
   ·refine⟨cap,aa,ζ _, ?_⟩;have ve:(ac3 true m cap (lo.map a.eval) (hi.map a.eval) none).run P W= .ok (l.toNat,h.toNat,cap) W:=by
     unfold ac3;rcases BX with⟨rfl,rfl⟩|⟨z,kz,rfl,hz⟩<;>rcases FG with⟨rfl,rfl⟩|⟨y,ky,rfl,hy⟩
     ·simp[Ox]
     ·have:=UW y ky .sliceB hy;simp at this;rw[Ox]at this;simp[Ox,this]
     ·simp[N7 z kz cap hz aa .sliceAcap]
     ·simp[N7 z kz cap hz aa .sliceAcap,UW y ky .sliceB hy]
    simp only[execOp,ho,ajc,aiJ,Β,run_underlying hu,ν,ajd,hv,ve,he.sizeOf,hs,Ε]
   ·refine⟨h.toNat,ζ _,aa, ?_⟩;have ve:(ac3 true m cap (lo.map a.eval) (hi.map a.eval) (some (a.eval y))).run P W= .ok (l.toNat,h.toNat,h.toNat) W:=by
     unfold ac3;rcases BX with⟨rfl,rfl⟩|⟨z,kz,rfl,hz⟩<;>rcases FG with⟨rfl,rfl⟩|⟨y',ky',rfl,IU⟩
     ·exact absurd rfl a8
     ·exact absurd rfl a8
     ·simp[N7 y ky cap hy aa,N7 z kz h.toNat hz (ζ _)]
     ·simp[N7 y ky cap hy aa,N7 z kz h.toNat hz (ζ _),UW y' ky' .slice3C IU]
    simp only[execOp,ho,afy,aiJ,Β,run_underlying hu,ν,ajd,hv,ve,he.sizeOf,hs,Ε]
  rcases vn (hx ρ a hp.dR)with⟨rfl,ad,h4⟩|⟨b,cap,z,pre,ex,ty,fz,h1,h2,h3,h4,h5,h6⟩
  ·obtain⟨top,t1,t2,t3⟩:=key ad 0 0 rfl (ζ _) h4;simp only[List.length_nil]at hh;have e1:l.toNat=0:=aa;have e2:h.toNat=0:=aa;have e3:top=0:=aa;refine⟨_,t3,yI (.inl ⟨by simp[ik],ad, ?_⟩)⟩;simp[e1,e2,e3]
  ·obtain⟨top,t1,t2,t3⟩:=key _ _ cap rfl h4 h6;have rR:z.length=xs.length:=da h2;have X4:=gk xs z h2 h3;refine⟨_,t3,yI ?_⟩;by_cases hc:top=l.toNat
   ·left;have:h.toNat - l.toNat=0:=aa;refine⟨by simp[ik,this],some ⟨b,pre.length,none⟩, ?_⟩;rw[if_pos hc,this,hc,af0]
   ·right;have FF:(ik xs l.toNat h.toNat).length=h.toNat - l.toNat:=by rw[ik,ψ,ϗ];omega
    have hfl:z.flatten=(z.take l.toNat).flatten++((((z.drop l.toNat).take (h.toNat - l.toNat)).flatten)++(z.drop h.toNat).flatten):=by
     rw[<-ϝ,<-ϝ];congr 1;have:z.drop h.toNat=(z.drop l.toNat).drop (h.toNat - l.toNat):=by rw[afZ];congr 1;omega
     rw[this,ϟ,ϟ]
    have uz:((z.take l.toNat).flatten).length=l.toNat*w:=by
     rw[aO (s:=w) _ (λu hu=>X4 u (Θ hu)),ψ,rR,acR aa]
    refine⟨b,top - l.toNat,(z.drop l.toNat).take (h.toNat - l.toNat),pre++(z.take l.toNat).flatten,(z.drop h.toNat).flatten++ex,ty,fz, ?_,jJ _ (mm _ h2),λx hx=>h3 x (Ψ (Θ hx)),aa, ?_, ?_⟩
    ·rw[h1,hfl];simp
    ·have e1:=congrArg aki hfl;rw[ξ,uz]at e1;rw[<-abA,ξ,Nat.sub_mul];rw[ξ]at h5;have e2:top*w<=cap*w:=ο _ t2;omega
    ·rw[if_neg hc,afy,qQ,ξ,uz,FF]
theorem D5 {x:Operand} (ho:o.op= .nilCheck x) (hx:bg ft x (b9 cs)):bR P o ft fk (b9 cs) [] []:=
 br λρ a w hp=>by
  have h:=hx ρ a hp.dR;obtain⟨b,z,pre,ex,ty,fz,h1,h2,hv⟩:=zK h;exact⟨_,by simp[execOp,ho,hv],hv▸h⟩
theorem U1 {x:Operand} {elem:TypeId} {sv:SV} (ho:o.op= .box elem x) (hx:bg ft x sv) (hc:qJ sv=some cs) (ph:aS cs=true):
  bR P o ft fk (b9 cs) [] []:=
 dU λρ a w hp=>by
  obtain⟨z,h1,h2⟩:=ml hc (hx ρ a hp.dR);have fP:(a.eval x).cells=z.flatten.toArray:=by rw[<-h2]
  have kU:∀o',ρ.aW w.heap.size≠some o':=λo' MG=>by have:=hp.aW _ _ MG;simp at this
  let ob:Obj:=.cells z.flatten.toArray elem (0,0)
  have zL:∀b o',ρ.aW b=some o'->(λb=>if b=w.heap.size then some ob else ρ.aW b) b=some o':=λb o' hb=>by
   show(if b=w.heap.size then some ob else ρ.aW b)=some o';by_cases hbw:b=w.heap.size
   ·subst hbw;exact absurd hb (kU o')
   ·rw[if_neg hbw];exact hb
  let ρ':bY:=⟨ρ.key,λb=>if b=w.heap.size then some ob else ρ.aW b,ρ.cA.mono zL⟩
  have hle:ρ.Le ρ':=⟨λk x hx=>hx,zL⟩;refine⟨.pointer (some ⟨w.heap.size,0,none⟩),w.alloc ob,ρ', ?_,⟨hle, ?_,λ_ _=>rfl,.ic ((afO _ _).alloc (ζ _) _),(λk b h=>by rcases h with h|h<;>cases h),(λ_ _ _ h=>by cases h),(λk b x h=>by cases h),(λk b k' b' x x' h=>by cases h), ?_⟩⟩
  ·simp[execOp,ho,amg,newVar,newRow,fP,ob]
  ·refine vo ⟨w.heap.size,z,[],[],elem,(0,0), ?_, ?_,rfl⟩
   ·show(if w.heap.size=w.heap.size then some ob else ρ.aW w.heap.size)=_;rw[if_pos rfl];simp[ob]
   ·exact cx (ρ:=ρ) (ρ':=cW ρ'.aW ρ'.cA) zL cs z ph h1
  ·intro b o' hb;have hb:(if b=w.heap.size then some ob else ρ.aW b)=some o':=hb;by_cases hbw:b=w.heap.size
   ·subst hbw;rw[if_pos rfl]at hb;simp only[κ]at hb;subst hb;exact .inr ⟨ζ _,heap_alloc_new _ _,λk blk x h=>by cases h⟩
   ·rw[if_neg hbw]at hb;exact .inl hb
theorem KF {ρ:bY} {w:World} {e:TypeId} {s n:Nat} {l:List SV} {z:List (List Value)} (himm:∀b o,ρ.aW b=some o->w.heap[b]? =some o) (hz:aw ρ l z) (ph:aS l=true) (hw:∀x∈l,x.width=s) (hn:l.length=n):
  ∃ρ',kN ρ w (fh s l) [] [] (.slice (some ⟨w.heap.size,0,none⟩) n n) ρ' (w.alloc (.cells z.flatten.toArray e (0,0))):=by
 have kU:∀o',ρ.aW w.heap.size≠some o':=λo' MG=>by have:=himm _ _ MG;simp at this
 let ob:Obj:=.cells z.flatten.toArray e (0,0)
 have zL:∀b o',ρ.aW b=some o'->(λb=>if b=w.heap.size then some ob else ρ.aW b) b=some o':=λb o' hb=>by
  show(if b=w.heap.size then some ob else ρ.aW b)=some o';by_cases hbw:b=w.heap.size
  ·subst hbw;exact absurd hb (kU o')
  ·rw[if_neg hbw];exact hb
 let ρ':bY:=⟨ρ.key,λb=>if b=w.heap.size then some ob else ρ.aW b,ρ.cA.mono zL⟩
 have hle:ρ.Le ρ':=⟨λk x hx=>hx,zL⟩;have X4:=gk l z hz hw;refine⟨ρ',⟨hle, ?_,λ_ _=>rfl,.ic ((afO _ _).alloc (ζ _) _),(λk b h=>by rcases h with h|h<;>cases h),(λ_ _ _ h=>by cases h),(λk b x h=>by cases h),(λk b k' b' x x' h=>by cases h), ?_⟩⟩
 ·subst hn;refine yI (.inr ⟨w.heap.size,l.length,z,[],[],e,(0,0), ?_,cx (ρ:=ρ) (ρ':=cW ρ'.aW ρ'.cA) zL l z ph hz,hw,ζ _, ?_,rfl⟩)
  ·show(if w.heap.size=w.heap.size then some ob else ρ.aW w.heap.size)=_;rw[if_pos rfl];simp[ob]
  ·rw[ϣ,aO _ X4,da hz];exact ζ _
 ·intro b o' hb;have hb:(if b=w.heap.size then some ob else ρ.aW b)=some o':=hb;by_cases hbw:b=w.heap.size
  ·subst hbw;rw[if_pos rfl]at hb;simp only[κ]at hb;subst hb;exact .inr ⟨ζ _,heap_alloc_new _ _,λk blk x h=>by cases h⟩
  ·rw[if_neg hbw]at hb;exact .inl hb
theorem zN {t e:TypeId} {len:Nat} {parts:Array (Nat×Operand)} {ti te:TI} {ps:List (Nat×List SV)} {l:List SV} (ho:o.op= .buildSlice t len parts) (ht:b6 P t ti) (hk:ti.kind= .aM e) (he:b6 P e te)
  (FH:iF ft parts.toList=some ps) (hb:lH 64 (λi=>some (i*te.size,te.size)) (F9 len te.zero) ps=some l) (ph:aS l=true) (FJ:qO te.size l=true) (D0:l.length=len) (gM:len*te.size<=16777216):
  bR P o ft fk (fh te.size l) [] []:=
 dU λρ a w hp=>by
  obtain⟨i,z,i1,i2,i3,i4,i5,i6,i7,_⟩:=he.info;have hu:=ht.kind;rw[hk]at hu;obtain⟨p1,p2⟩:=jK FH ρ a hp.dR;have Cy:=vi (eE (ρ:=ρ) i6) len;have Ga:(madeCells z.cells (len*te.size)).toList=((θ len (te.zero.map gj)).flatten).flatten:=by
   rw[gv z.cells te.size i7 len,i5];have:∀n,(θ n (te.zero.flatMap gj)).flatten=((θ n (te.zero.map gj)).flatten).flatten:=by
    intro n;induction n with
    |zero=>rfl
    |succ n ih=>rw[acT,acT,ϐ,ϐ,ϝ,<-ih,ϸ]
   exact this len
  obtain⟨L',z',e1,e2,e3⟩:=ow (ρ:=ρ) ps _ l (parts.toList.map λp=>(p.1,acV a p.2)) (madeCells z.cells (len*te.size)) _ hb Cy Ga p1 p2;have lI:(parts.map λ(i,x)=>(i,acV a x)).toList=parts.toList.map λp=>(p.1,acV a p.2):=by simp
  have Uw:L'=z'.flatten.toArray:=by rw[<-e3]
  obtain⟨ρ',cq⟩:=KF (e:=e) hp.aW e2 ph (mq FJ) D0;refine⟨_,_,ρ', ?_,cq⟩;have OA:¬len*te.size>16777216:=aa;by_cases h0:len*te.size=0
  ·have hm:(aiC 0).map (λx=>(#[]:Array Value)[x % (#[]:Array Value).size]!)=madeCells z.cells (len*te.size):=by simp[h0,madeCells]
   simp only[execOp,ho,agn,Β,run_underlying hu,ν,he.sizeOf,h0,lI];rw[h0]at hm;simp only[ahy,abe,gt_iff_lt,if_false,if_true,Β,Ε,ν,hm];rw[h0]at e1;simp only[e1,Β,newRow,run_newObj,Ε,ν,Uw,aeE]
  ·have hm:(aiC (len*te.size)).map (λx=>z.cells[x % z.cells.size]!)=madeCells z.cells (len*te.size):=rfl;have DY:(abc e).run P w= .ok z w:=by simp[abc,typeInfo,i1,i4]
   simp only[execOp,ho,agn,Β,run_underlying hu,ν,he.sizeOf,h0,lI,ahy,OA,if_false,DY,Ε,hm,e1,newRow,run_newObj,Uw,aeE]
def inN (x:Nat):List Nat->Bool
 |[]=>false
 |y::r=>ϋ x y||inN x r
end
end Go.Sx
namespace Go.Sx
def pick (fr:List (Nat×SV)):List Nat->List (Nat×SV)
 |[]=>[]
 |t::r=>match lk fr t with
  |some s=>(t,s)::pick fr r
  |none=>pick fr r
theorem oz {fr:List (Nat×SV)}:∀{ts:List Nat} {t:Nat} {s:SV},(t,s)∈pick fr ts->lk fr t=some s/\t∈ts
 |u::r,t,s,h=>by
  unfold pick at h;split at h
  ·rename_i s' hs;rcases Λ.1 h with h|h
   ·cases h;exact⟨hs,η ..⟩
   ·exact⟨(oz h).1,Δ _ (oz h).2⟩
  ·exact⟨(oz h).1,Δ _ (oz h).2⟩
def tmpsOf:List Operand->List Nat
 |[]=>[]
 |.tmp t::r=>t::tmpsOf r
 |_::r=>tmpsOf r
def looks (o:Oper):List Nat:=tmpsOf o.op.operands.toList
def bound (fr:List (Nat×SV)) (dflt:Option Int):Option Operand->Option Int
 |none=>dflt
 |some x=>match ev fr x with
  |some (.val (.int _ j))=>some j
  |_=>none
theorem gA {fr:List (Nat×SV)} {d:Int} {x:Option Operand} {j:Int} (h:bound fr (some d) x=some j):x=none/\j=d\/∃y kd,x=some y/\bg fr y (.val (.int kd j)):=by
 unfold bound at h;split at h
 ·simp only[κ]at h;exact .inl ⟨rfl,h.symm⟩
 ·split at h
  ·rename_i y _ kd j' hy;simp only[κ]at h;subst h;exact .inr ⟨y,kd,rfl,ai hy⟩
  ·simp at h
def Good (P:Program) (fr:List (Nat×SV)) (hp:List (Nat×aC)) (o:Oper) (k:SV->List (Nat×aC)->List (Nat×aC)->List (Nat×aC)->Prop):Prop:=
 ∃c fk new upd,bR P o fr fk c new upd/\(∀j b,(j,b)∈fk->find hp j=some b)/\(∀j b,(j,b)∈new->find hp j=none)/\(∀j b,(j,b)∈upd->∃b0,(j,b0)∈fk/\b0.wr=true/\b0.data.live=true/\b.wr=true)/\k c fk new upd
def adk (o:Oper) (Z:List Nat):Bool:=match o.dst with
 |some d=>inN (700000+d) Z
 |none=>false
def exec (P:Program) (T:List (TypeId×TI)) (Z:List Nat) (fr:List (Nat×SV)) (hp:List (Nat×aC)) (o:Oper) (k:SV->List (Nat×aC)->List (Nat×aC)->List (Nat×aC)->Prop):Prop:=
 match o.op with
 |.move x=>match ev fr x with
  |some c=>k c [] [] []
  |none=>Good P fr hp o k
 |.assign x=>match ev fr x with
  |some c=>k c [] [] []
  |none=>Good P fr hp o k
 |.box e x=>match o.dst,ev fr x with
  |some d,some sv=>match qJ sv,find hp d with
   |some cs,none=>match inN d Z with
    |false=>k (.ptr d 0 0 0) [] [(d,⟨e,true,.one cs⟩)] []
    |true=>match aS cs with
     |true=>k (b9 cs) [] [] []
     |false=>Good P fr hp o k
   |_,_=>Good P fr hp o k
  |_,_=>Good P fr hp o k
 |.alloc e=>match o.dst,dT T e with
  |some d,some ti=>match find hp d with
   |none=>k (.ptr d 0 0 0) [] [(d,⟨e,true,.one ti.zero⟩)] []
   |some _=>Good P fr hp o k
  |_,_=>Good P fr hp o k
 |.load t x=>match adk o Z with
  |true=>Good P fr hp o k
  |false=>match ev fr x,dT T t with
  |some (.ptr key s i r),some ti=>match find hp key with
   |some blk=>match elem blk.data s i with
    |some (ob,cs)=>match sub 64 cs r ti.size,ti.size with
     |some l,_+1=>match eR ti l with
      |some c=>ZL ob <| k c [(key,blk)] [] []
      |none=>Good P fr hp o k
     |_,_=>Good P fr hp o k
    |none=>Good P fr hp o k
   |none=>Good P fr hp o k
  |some (.val _),_=>∃c fk new,bR P o fr fk c new []/\(∀j b,(j,b)∈fk->find hp j=some b)/\(∀j b,(j,b)∈new->find hp j=none)/\k c fk new []
  |_,_=>Good P fr hp o k
 |.store t x y=>match ev fr x,ev fr y,dT T t with
  |some (.ptr key s i r),some sv,some ti=>match find hp key,qJ sv with
   |some ⟨ty,true,d⟩,some nw=>match elem d s i with
    |some (ob,cs)=>match ϋ (SV.cP nw) ti.size,agG (r+ti.size) (SV.cP cs)with
     |true,true=>match put 64 cs r ti.size nw with
      |some cs'=>match jm d i cs' with
       |some d'=>ZL ob <| k .any [(key,⟨ty,true,d⟩)] [] [(key,⟨ty,true,d'⟩)]
       |none=>Good P fr hp o k
      |none=>Good P fr hp o k
     |_,_=>Good P fr hp o k
    |none=>Good P fr hp o k
   |_,_=>Good P fr hp o k
  |_,_,_=>Good P fr hp o k
 |.fieldAddr s x j=>match ev fr x,dT T s with
  |some (.ptr key sz i r),some ⟨.agg fs,_,_,_⟩=>match fs[j]? with
   |some (off,_,_+1)=>k (.ptr key sz i (r+off)) [] [] []
   |_=>Good P fr hp o k
  |_,_=>Good P fr hp o k
 |.extract x ix=>match ev fr x with
  |some (.bQ l)=>match l[ix]? with
   |some c=>match (c.aZ||(qJ c).isSome)with
    |true=>k c [] [] []
    |false=>Good P fr hp o k
   |none=>Good P fr hp o k
  |_=>Good P fr hp o k
 |.binOp op xt x y _=>match ev fr x,ev fr y with
  |some (.val (.int k1 a)),some (.val (.int k2 b))=>match op with
   |.shl=>0<=b/\k (.val (.int k1 (lR k1 a b))) [] [] []
   |.shr=>0<=b/\k (.val (.int k1 (lG k1 a b))) [] [] []
   |op=>if k1=k2 then match UP op k1 a b with
    |some (ob,v)=>ZL ob <| k (.val v) [] [] []
    |none=>Good P fr hp o k
    else Good P fr hp o k
  |some (.val (.bool a)),some (.val (.bool b))=>match dT T xt with
   |some ⟨.bool,_,_,_⟩=>match op with
    |.eql=>k (.val (.bool (a==b))) [] [] []
    |.neq=>k (.val (.bool (a != b))) [] [] []
    |_=>Good P fr hp o k
   |_=>Good P fr hp o k
  |some (.val (.string a)),some (.val (.string b))=>match UR op a b with
   |some (ob,v)=>ZL ob <| k (.val v) [] [] []
   |none=>Good P fr hp o k
  |some _,some _=>∃v,bR P o fr [] (.val v) [] []/\k (.val v) [] [] []
  |_,_=>Good P fr hp o k
 |.unOp op _ x=>match op,ev fr x with
  |.not,some (.val (.bool a))=>k (.val (.bool (!a))) [] [] []
  |.neg,some (.val (.int kd a))=>k (.val (.int kd (kd.wrap (0 - a)))) [] [] []
  |.xor,some (.val (.int kd a))=>k (.val (.int kd (B4 kd (if kd.signed=true then -1 else kd.max) a))) [] [] []
  |_,_=>Good P fr hp o k
 |.convert s d x=>match ev fr x,dT T s,dT T d with
  |some (.val (.int k2 a)),some ⟨.int k1,_,_,_⟩,some ⟨.int kd,_,_,_⟩=>if k1=k2 then k (.val (.int kd (kd.wrap a))) [] [] []else Good P fr hp o k
  |_,_,_=>∃c fk new,bR P o fr fk c new []/\(∀j b,(j,b)∈fk->find hp j=some b)/\(∀j b,(j,b)∈new->find hp j=none)/\k c fk new []
 |.nilCheck x=>match ev fr x with
  |some (.ptr key s i r)=>k (.ptr key s i r) [] [] []
  |some (.clo f a b)=>k (.clo f a b) [] [] []
  |_=>Good P fr hp o k
 |.indexAddr t x ix=>match ev fr x,ev fr ix,dT T t with
  |some (.aM key s i n),some (.val (.int _ j)),some ⟨.aM e,_,_,_⟩=>match dT T e with
   |some te=>match ϋ te.size s with
    |true=>(0<=j/\j<(n:Int))/\k (.ptr key s (i+j.toNat) 0) [] [] []
    |false=>Good P fr hp o k
   |none=>Good P fr hp o k
  |some (.ptr key s i r),some (.val (.int _ j)),some ⟨.arr n e,_,_,_⟩=>match dT T e with
   |some te=>(0<=j/\j<(n:Int))/\k (.ptr key s i (r+j.toNat*te.size)) [] [] []
   |none=>Good P fr hp o k
  |some (.val _),_,_=>∃c fk new,bR P o fr fk c new []/\(∀j b,(j,b)∈fk->find hp j=some b)/\(∀j b,(j,b)∈new->find hp j=none)/\k c fk new []
  |_,_,_=>Good P fr hp o k
 |.index t x ix=>match ev fr x,ev fr ix,dT T t with
  |some (.val (.string s)),some (.val (.int _ j)),some ⟨.str,_,_,_⟩=>(0<=j/\j<(s.size:Int))/\k (.val (.int .u8 (((s.data.getD j.toNat 0).toNat:Nat):Int))) [] [] []
  |_,_,_=>∃c fk new,bR P o fr fk c new []/\(∀j b,(j,b)∈fk->find hp j=some b)/\(∀j b,(j,b)∈new->find hp j=none)/\k c fk new []
 |.slice t x lo hi none=>match bound fr (some 0) lo,ev fr x,dT T t with
  |some l,some (.aM key s i n),some ⟨.aM e,_,_,_⟩=>match bound fr (some (n:Int)) hi,dT T e with
   |some h,some te=>match ϋ te.size s with
    |true=>(0<=l/\l<=h/\h<=(n:Int))/\k (.aM key s (i+l.toNat) (h - l).toNat) [] [] []
    |false=>Good P fr hp o k
   |_,_=>Good P fr hp o k
  |some l,some (.val (.string s)),some ⟨.str,_,_,_⟩=>match bound fr (some (s.size:Int)) hi with
   |some h=>(0<=l/\l<=h/\h<=(s.size:Int))/\k (.val (.string (s.extract l.toNat h.toNat))) [] [] []
   |none=>Good P fr hp o k
  |_,_,_=>Good P fr hp o k
 |.makeSlice t x y=>match o.dst,ev fr x,ev fr y,dT T t with
  |some d,some (.val (.int _ l)),some (.val (.int _ c)),some ⟨.aM e,_,_,_⟩=>match dT T e,find hp d with
   |some te,none=>match zF te with
    |true=>(0<=l/\l<=c/\(te.bytes:Int)*c<=281474976710656/\c<=9223372036854775807)/\k (.aM d te.size 0 l.toNat) [] [(d,⟨e,true,vg te l.toNat⟩)] []
    |false=>Good P fr hp o k
   |_,_=>Good P fr hp o k
  |_,_,_,_=>Good P fr hp o k
 |.buildSlice t len parts=>match o.dst,iF fr parts.toList,dT T t with
  |some d,some ps,some ⟨.aM e,_,_,_⟩=>match dT T e,find hp d with
   |some te,none=>match lH 64 (λi=>some (i*te.size,te.size)) (F9 len te.zero) ps with
    |some l=>match inN d Z with
     |false=>match DZ te l,ϋ l.length len,agG (len*te.size) 16777216 with
      |some dt,true,true=>k (.aM d te.size 0 len) [] [(d,⟨e,true,dt⟩)] []
      |_,_,_=>Good P fr hp o k
     |true=>match aS l&&qO te.size l,ϋ l.length len,agG (len*te.size) 16777216 with
      |true,true,true=>k (fh te.size l) [] [] []
      |_,_,_=>Good P fr hp o k
    |none=>Good P fr hp o k
   |_,_=>Good P fr hp o k
  |_,_,_=>Good P fr hp o k
 |.build t parts=>match dT T t,iF fr parts.toList with
  |some ⟨.agg fs,sz,by',z⟩,some ps=>match lH 64 (placesOf fs) z ps with
   |some l=>match eR ⟨.agg fs,sz,by',z⟩ l with
    |some c=>k c [] [] []
    |none=>Good P fr hp o k
   |none=>Good P fr hp o k
  |some ⟨.arr n e,sz,by',z⟩,some ps=>match dT T e with
   |some te=>match lH 64 (λi=>some (i*te.size,te.size)) z ps with
    |some l=>match eR ⟨.arr n e,sz,by',z⟩ l with
     |some c=>k c [] [] []
     |none=>Good P fr hp o k
    |none=>Good P fr hp o k
   |none=>Good P fr hp o k
  |_,_=>Good P fr hp o k
 |.call ⟨.builtin b,xs,ts⟩=>match b,xs.toList,ts.toList with
  |.len,[x],[t]=>match ev fr x,dT T t with
   |some (.val (.string s)),some ⟨.str,_,_,_⟩=>k (.val (.int .i64 (s.size:Int))) [] [] []
   |some (.aM _ _ _ n),some ⟨.aM _,_,_,_⟩=>k (.val (.int .i64 (n:Int))) [] [] []
   |some (.val (.slice _ n _)),some ⟨.aM _,_,_,_⟩=>k (.val (.int .i64 (n:Int))) [] [] []
   |_,_=>Good P fr hp o k
  |.min,[x,y],_=>match ev fr x,ev fr y with
   |some (.val (.int k1 a)),some (.val (.int _ b))=>k (.val (.int k1 (if b<a then b else a))) [] [] []
   |_,_=>Good P fr hp o k
  |.max,[x,y],_=>match ev fr x,ev fr y with
   |some (.val (.int k1 a)),some (.val (.int _ b))=>k (.val (.int k1 (if b>a then b else a))) [] [] []
   |_,_=>Good P fr hp o k
  |.append,[x,y],[t,t2]=>match o.dst,ev fr x,ev fr y,dT T t,dT T t2 with
   |some kn,some (.aM k1 s 0 n),some (.aM k2 s2 i2 m),some ⟨.aM e,_,_,_⟩,some ⟨.aM e2,_,_,_⟩=>match ϋ e2 e,dT T e,find hp k1,find hp k2,find hp kn with
    |true,some te,some ⟨ty,true,d⟩,some blk2,none=>match ϋ ty e&&(ϋ s te.size&&ϋ s2 te.size),dx d,dx blk2.data,vf d n blk2.data i2 m with
     |true,some wd,some wd2,some d'=>match ϋ wd te.size&&ϋ wd2 te.size with
      |true=>(n<=gu d/\i2+m<=gu blk2.data/\(n+m)*te.bytes<=140737488355328/\n+m<=9223372036854775807)/\k (.aM kn te.size 0 (n+m)) [(k1,⟨ty,true,d⟩),(k2,blk2)] [(kn,⟨e,true,d'⟩)] [(k1,⟨e,true,.dead⟩)]
      |false=>Good P fr hp o k
     |_,_,_,_=>Good P fr hp o k
    |_,_,_,_,_=>Good P fr hp o k
   |some kn,some (.val (.slice none 0 0)),some (.aM k2 s2 i2 m),some ⟨.aM e,_,_,_⟩,some ⟨.aM e2,_,_,_⟩=>match ϋ e2 e,dT T e,find hp k2,find hp kn with
    |true,some te,some blk2,none=>match ϋ s2 te.size,dx blk2.data,vf blk2.data 0 blk2.data i2 m with
     |true,some wd2,some d'=>match ϋ wd2 te.size with
      |true=>(i2+m<=gu blk2.data/\m*te.bytes<=140737488355328/\m<=9223372036854775807)/\k (.aM kn te.size 0 m) [(k2,blk2)] [(kn,⟨e,true,d'⟩)] []
      |false=>Good P fr hp o k
     |_,_,_=>Good P fr hp o k
    |_,_,_,_=>Good P fr hp o k
   |_,_,_,_,_=>Good P fr hp o k
  |_,_,_=>∃c fk new upd,bR P o fr fk c new upd/\(∀j b,(j,b)∈fk->find hp j=some b)/\(∀j b,(j,b)∈new->find hp j=none)/\(∀j b,(j,b)∈upd->∃b0,(j,b0)∈fk/\b0.wr=true/\b0.data.live=true/\b.wr=true)/\k c fk new upd
 |.call ⟨.value x,xs,_⟩=>match ev fr x with
  |some (.clo f first cap)=>match Ou fr xs.toList with
   |some args=>∃fk c new upd,aL P f (first++(args++cap)) fk c new upd/\(∀j b,(j,b)∈fk->find hp j=some b)/\(∀j b,(j,b)∈new->find hp j=none)/\(∀j b,(j,b)∈upd->∃b0,(j,b0)∈fk/\b0.wr=true/\b0.data.live=true/\b.wr=true)/\k c fk new upd
   |none=>Good P fr hp o k
  |some (.yld l rc us cap)=>match Ou fr xs.toList with
   |some args=>∃fk c new upd,X2 P l rc us cap args fk c new upd/\(∀j b,(j,b)∈fk->find hp j=some b)/\(∀j b,(j,b)∈new->find hp j=none)/\(∀j b,(j,b)∈upd->∃b0,(j,b0)∈fk/\b0.wr=true/\b0.data.live=true/\b.wr=true)/\k c fk new upd
   |none=>Good P fr hp o k
  |_=>Good P fr hp o k
 |_=>∃c fk new upd,bR P o fr fk c new upd/\(∀j b,(j,b)∈fk->find hp j=some b)/\(∀j b,(j,b)∈new->find hp j=none)/\(∀j b,(j,b)∈upd->∃b0,(j,b0)∈fk/\b0.wr=true/\b0.data.live=true/\b.wr=true)/\k c fk new upd
theorem aF {hp:List (Nat×aC)}:∀j b,(j,b)∈([]:List (Nat×aC))->find hp j=some b:=λ_ _ h=>by cases h
theorem ak {hp:List (Nat×aC)}:∀j b,(j,b)∈([]:List (Nat×aC))->find hp j=none:=λ_ _ h=>by cases h
theorem ar {fk:List (Nat×aC)}:∀j b,(j,b)∈([]:List (Nat×aC))->∃b0:aC,(j,b0)∈fk/\b0.wr=true/\b0.data.live=true/\b.wr=true:=λ_ _ h=>by cases h
theorem eB {hp:List (Nat×aC)} {k:Nat} {b:aC} (h:find hp k=some b):∀j c,(j,c)∈[(k,b)]->find hp j=some c:=λj c hm=>by
 simp only[μ,ς]at hm;obtain⟨rfl,rfl⟩:=hm;exact h
theorem eh {hp:List (Nat×aC)} {k:Nat} {b:aC} (h:find hp k=none):∀j c,(j,c)∈[(k,b)]->find hp j=none:=λj c hm=>by
 simp only[μ,ς]at hm;obtain⟨rfl,rfl⟩:=hm;exact h
theorem CA {P:Program} {T:List (TypeId×TI)} {Z:List Nat} (hT:dz P T) {fr:List (Nat×SV)} {hp:List (Nat×aC)} {o:Oper} {k:SV->List (Nat×aC)->List (Nat×aC)->List (Nat×aC)->Prop}
  (h:exec P T Z fr hp o k):Good P fr hp o k:=by
 unfold exec at h;split at h
 case h_1 x ho=>
  split at h
  ·rename_i c hc;exact⟨c,[],[],[],Kw (.inl ho) (ai hc),aF,ak,ar,h⟩
  ·exact h
 case h_2 x ho=>
  split at h
  ·rename_i c hc;exact⟨c,[],[],[],Kw (.inr ho) (ai hc),aF,ak,ar,h⟩
  ·exact h
 case h_3 e x ho=>
  split at h
  ·rename_i d sv hd hsv;split at h
   ·rename_i cs B9 hf;split at h
    ·exact⟨_,[],_,[],ZK ho (ai hsv) B9,aF,eh hf,ar,h⟩
    ·split at h
     ·rename_i ph;exact⟨_,[],[],[],U1 ho (ai hsv) B9 ph,aF,ak,ar,h⟩
     ·exact h
   ·exact h
  ·exact h
 case h_4 e ho=>
  split at h
  ·rename_i d ti hd vl;split at h
   ·rename_i hf;exact⟨_,[],_,[],Oq ho (hT.get vl),aF,eh hf,ar,h⟩
   ·exact h
  ·exact h
 case h_5 t x ho=>
  split at h
  ·exact h
  split at h
  ·rename_i key s i r ti hx vl;split at h
   ·rename_i blk fQ;split at h
    ·rename_i ob cs he;split at h
     ·rename_i l _ hs gM;split at h
      ·rename_i c hc;exact⟨c,_,[],[],yH ho (ai hx) (hT.get vl) (η ..) he (cy h).1 hs aa hc,eB fQ,ak,ar,(cy h).2⟩
      ·exact h
     ·exact h
    ·exact h
   ·exact h
  ·obtain⟨c,fk,new,h1,h2,h3,h4⟩:=h;exact⟨c,fk,new,[],h1,h2,h3,ar,h4⟩
  ·exact h
 case h_6 t x y ho=>
  split at h
  ·rename_i key s i r sv ti hx hy vl;split at h
   ·rename_i ty d nw fQ hnw;split at h
    ·rename_i ob cs he;split at h
     ·rename_i hw hle;split at h
      ·rename_i cs' cl;split at h
       ·rename_i d' IC;refine⟨.any,_,[],_,FX ho (ai hx) (ai hy) (hT.get vl) (η ..) he (cy h).1 hnw (χ hw) (abW hle) cl IC,eB fQ,ak, ?_,(cy h).2⟩;intro j b hm;simp only[μ,ς]at hm;obtain⟨rfl,rfl⟩:=hm;exact⟨_,η ..,rfl,MJ he,rfl⟩
       ·exact h
      ·exact h
     ·exact h
    ·exact h
   ·exact h
  ·exact h
 case h_7 s x j ho=>
  split at h
  ·rename_i key sz i r fs _ _ _ hx vl;split at h
   ·rename_i off e _ hj;exact⟨_,[],[],[],DT ho (ai hx) (hT.get vl) rfl hj aa,aF,ak,ar,h⟩
   ·exact h
  ·exact h
 case h_8 x ix ho=>
  split at h
  ·rename_i l hx;split at h
   ·rename_i c hc;split at h
    ·rename_i hb;refine⟨c,[],[],[],IN ho (ai hx) hc ?_,aF,ak,ar,h⟩;simpa using hb
    ·exact h
   ·exact h
  ·exact h
 case h_9 op xt x y yt ho=>
  split at h
  ·rename_i k1 a k2 b hx hy;split at h
   ·exact⟨_,[],[],[],ZO ho (ai hx) (ai hy) h.1,aF,ak,ar,h.2⟩
   ·exact⟨_,[],[],[],ZP ho (ai hx) (ai hy) h.1,aF,ak,ar,h.2⟩
   ·split at h
    ·rename_i hk;subst hk;split at h
     ·rename_i ob v hv;exact⟨_,[],[],[],UQ ho (ai hx) (ai hy) hv (cy h).1,aF,ak,ar,(cy h).2⟩
     ·exact h
    ·exact h
  ·rename_i a b hx hy;split at h
   ·rename_i vl;split at h
    ·exact⟨_,[],[],[],ZQ ho (ai hx) (ai hy) (hT.get vl) rfl,aF,ak,ar,h⟩
    ·exact⟨_,[],[],[],ZR ho (ai hx) (ai hy) (hT.get vl) rfl,aF,ak,ar,h⟩
    ·exact h
   ·exact h
  ·rename_i a b hx hy;split at h
   ·rename_i ob v hv;exact⟨_,[],[],[],US ho (ai hx) (ai hy) hv (cy h).1,aF,ak,ar,(cy h).2⟩
   ·exact h
  ·obtain⟨v,h1,h2⟩:=h;exact⟨_,[],[],[],h1,aF,ak,ar,h2⟩
  ·exact h
 case h_10 op xt x ho=>
  split at h
  ·rename_i a hx;exact⟨_,[],[],[],ZS ho (ai hx),aF,ak,ar,h⟩
  ·rename_i kd a hx;exact⟨_,[],[],[],ZT ho (ai hx),aF,ak,ar,h⟩
  ·rename_i kd a hx;exact⟨_,[],[],[],ZU ho (ai hx),aF,ak,ar,h⟩
  ·exact h
 case h_11 s d x ho=>
  split at h
  ·rename_i k2 a k1 _ _ _ kd _ _ _ hx hs hd;split at h
   ·rename_i hk;subst hk;exact⟨_,[],[],[],UT ho (ai hx) (hT.get hs) (hT.get hd) rfl rfl,aF,ak,ar,h⟩
   ·exact h
  ·obtain⟨c,fk,new,h1,h2,h3,h4⟩:=h;exact⟨c,fk,new,[],h1,h2,h3,ar,h4⟩
 case h_12 x ho=>
  split at h
  ·rename_i key s i r hx;exact⟨_,[],[],[],F0 ho (ai hx),aF,ak,ar,h⟩
  ·rename_i f a b hx;exact⟨_,[],[],[],DW ho (ai hx),aF,ak,ar,h⟩
  ·exact h
 case h_13 t x ix ho=>
  split at h
  ·rename_i key s i n kd j e _ _ _ hx hi ht;split at h
   ·rename_i te hte;split at h
    ·rename_i hs;exact⟨_,[],[],[],DX ho (ai hx) (ai hi) (hT.get ht) rfl (hT.get hte) (χ hs) h.1.1 h.1.2,aF,ak,ar,h.2⟩
    ·exact h
   ·exact h
  ·rename_i key s i r kd j n e _ _ _ hx hi ht;split at h
   ·rename_i te hte;exact⟨_,[],[],[],F3 ho (ai hx) (ai hi) (hT.get ht) rfl (hT.get hte) h.1.1 h.1.2,aF,ak,ar,h.2⟩
   ·exact h
  ·obtain⟨c,fk,new,h1,h2,h3,h4⟩:=h;exact⟨c,fk,new,[],h1,h2,h3,ar,h4⟩
  ·exact h
 case h_14 t x ix ho=>
  split at h
  ·rename_i s kd j _ _ _ hx hi ht;exact⟨_,[],[],[],F4 ho (ai hx) (ai hi) (hT.get ht) rfl h.1.1 h.1.2,aF,ak,ar,h.2⟩
  ·obtain⟨c,fk,new,h1,h2,h3,h4⟩:=h;exact⟨c,fk,new,[],h1,h2,h3,ar,h4⟩
 case h_15 t x lo hi ho=>
  split at h
  ·rename_i l key s i n e _ _ _ hl hx ht;split at h
   ·rename_i h' te hh hte;split at h
    ·rename_i hs;exact⟨_,[],[],[],Ow ho (ai hx) (gA hl) (gA hh) (hT.get ht) rfl (hT.get hte) (χ hs) h.1.1 h.1.2.1 h.1.2.2,aF,ak,ar,h.2⟩
    ·exact h
   ·exact h
  ·rename_i l s _ _ _ hl hx ht;split at h
   ·rename_i h' hh;exact⟨_,[],[],[],F5 ho (ai hx) (gA hl) (gA hh) (hT.get ht) rfl h.1.1 h.1.2.1 h.1.2.2,aF,ak,ar,h.2⟩
   ·exact h
  ·exact h
 case h_16 t x y ho=>
  split at h
  ·rename_i d kl l kc c e _ _ _ hd hx hy ht;split at h
   ·rename_i te hte hf;split at h
    ·rename_i hz;exact⟨_,[],_,[],UX ho (ai hx) (ai hy) (hT.get ht) rfl (hT.get hte) hz h.1.1 h.1.2.1 h.1.2.2.1 h.1.2.2.2,aF,eh hf,ar,h.2⟩
    ·exact h
   ·exact h
  ·exact h
 case h_17 t len parts ho=>
  split at h
  ·rename_i d ps e _ _ _ hd FH ht;split at h
   ·rename_i te hte hf;split at h
    ·rename_i l hb;split at h
     ·split at h
      ·rename_i dt hdt hlen gM;exact⟨_,[],_,[],B5 ho (hT.get ht) rfl (hT.get hte) FH hb hdt (χ hlen) (abW gM),aF,eh hf,ar,h⟩
      ·exact h
     ·split at h
      ·rename_i ph hlen gM;rw[Μ]at ph;exact⟨_,[],[],[],zN ho (hT.get ht) rfl (hT.get hte) FH hb ph.1 ph.2 (χ hlen) (abW gM),aF,ak,ar,h⟩
      ·exact h
    ·exact h
   ·exact h
  ·exact h
 case h_18 t parts ho=>
  split at h
  ·rename_i fs sz by' z ps ht FH
   split at h
   ·rename_i l hb;split at h
    ·rename_i c hc;exact⟨_,[],[],[],Oz ho (hT.get ht) rfl FH hb hc,aF,ak,ar,h⟩
    ·exact h
   ·exact h
  ·rename_i n e sz by' z ps ht FH
   split at h
   ·rename_i te hte;split at h
    ·rename_i l hb;split at h
     ·rename_i c hc;exact⟨_,[],[],[],F7 ho (hT.get ht) rfl (hT.get hte) FH hb hc,aF,ak,ar,h⟩
     ·exact h
    ·exact h
   ·exact h
  ·exact h
 case h_19 b xs ts ho=>
  split at h
  ·rename_i x t hxs po;have Ca:xs= #[x]:=by apply ac0;simpa using hxs
   have MT:ts= #[t]:=by apply ac0;simpa using po
   split at h
   ·rename_i s _ _ _ hx ht;exact⟨_,[],[],[],IQ ho Ca MT (ai hx) rfl (hT.get ht) (.inl ⟨rfl,s,rfl⟩),aF,ak,ar,h⟩
   ·rename_i n e _ _ _ hx ht;exact⟨_,[],[],[],IQ ho Ca MT (ai hx) rfl (hT.get ht) (.inr ⟨⟨e,rfl⟩,λs hs=>by cases hs⟩),aF,ak,ar,h⟩
   ·rename_i n _ e _ _ _ hx ht;exact⟨_,[],[],[],IQ ho Ca MT (ai hx) rfl (hT.get ht) (.inr ⟨⟨e,rfl⟩,λs hs=>by cases hs⟩),aF,ak,ar,h⟩
   ·exact h
  ·rename_i x y hxs;have Ca:xs= #[x,y]:=by apply ac0;simpa using hxs
   split at h
   ·rename_i k1 a k2 b hx hy;exact⟨_,[],[],[],ZV ho Ca (ai hx) (ai hy),aF,ak,ar,h⟩
   ·exact h
  ·rename_i x y hxs;have Ca:xs= #[x,y]:=by apply ac0;simpa using hxs
   split at h
   ·rename_i k1 a k2 b hx hy;exact⟨_,[],[],[],ZW ho Ca (ai hx) (ai hy),aF,ak,ar,h⟩
   ·exact h
  ·rename_i x y t t2 hxs po;have Ca:xs= #[x,y]:=by apply ac0;simpa using hxs
   have MT:ts= #[t,t2]:=by apply ac0;simpa using po
   split at h
   ·rename_i kn k1 s n k2 s2 i2 m e _ _ _ e2 _ _ _ hd hx hy ht FI;split at h
    ·rename_i te ty d blk2 he2 hte hb1 hb2 hbn;split at h
     ·rename_i wd wd2 d' hc UO pq happ;split at h
      ·rename_i hww;simp only[Μ,Nat.beq_eq]at hc hww;obtain⟨rfl,rfl,rfl⟩:=hc;obtain⟨rfl,rfl⟩:=hww;have Z3:=χ he2;subst Z3;have iT:d.live=true:=by cases d<;>simp[dx]at UO<;>rfl
       have iD:blk2.data.live=true:=by cases hq:blk2.data<;>rw[hq]at pq<;>simp[dx]at pq<;>rfl
       refine⟨_,_,_,_,MK ho Ca MT (ai hx) (ai hy) (hT.get ht) rfl (hT.get FI) rfl (hT.get hte) (η ..) (Δ _ (η ..)) iT iD UO pq h.1.1 h.1.2.1 happ h.1.2.2.1 h.1.2.2.2, ?_,eh hbn, ?_,h.2⟩
       ·intro j b hm;simp only[Λ,ς,List.not_mem_nil,or_false]at hm;rcases hm with⟨rfl,rfl⟩|⟨rfl,rfl⟩
        ·exact hb1
        ·exact hb2
       ·intro j b hm;simp only[μ,ς]at hm;obtain⟨rfl,rfl⟩:=hm;exact⟨_,η ..,rfl,iT,rfl⟩
      ·exact h
     ·exact h
    ·exact h
   ·rename_i kn k2 s2 i2 m e _ _ _ e2 _ _ _ hd hx hy ht FI;split at h
    ·rename_i te blk2 he2 hte hb2 hbn;split at h
     ·rename_i wd2 d' hc pq happ;split at h
      ·rename_i hww;have ot:=χ hc;subst ot;have agA:=χ hww;subst agA;have Z3:=χ he2;subst Z3;have iD:blk2.data.live=true:=by cases hq:blk2.data<;>rw[hq]at pq<;>simp[dx]at pq<;>rfl
       exact⟨_,_,_,[],B8 ho Ca MT (ai hx) (ai hy) (hT.get ht) rfl (hT.get FI) rfl (hT.get hte) (η ..) iD pq h.1.1 happ h.1.2.1 h.1.2.2,eB hb2,eh hbn,ar,h.2⟩
      ·exact h
     ·exact h
    ·exact h
   ·exact h
  ·exact h
 case h_20 x xs ts ho=>
  split at h
  ·rename_i f first cap hx;split at h
   ·rename_i args Cx;obtain⟨fk,c,new,upd,h1,h2,h3,h4,h5⟩:=h;exact⟨c,fk,new,upd,UU ho hx Cx h1,h2,h3,h4,h5⟩
   ·exact h
  ·rename_i l rc us cap hx;split at h
   ·rename_i args Cx;obtain⟨fk,c,new,upd,h1,h2,h3,h4,h5⟩:=h;exact⟨c,fk,new,upd,Ov ho hx Cx h1,h2,h3,h4,h5⟩
   ·exact h
  ·exact h
 case h_21=>exact h
