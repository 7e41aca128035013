/- The texts SxS, SxX, SxY, Hd, Kh, Kn, Kr, Kt. -/
import Derived.Carry
import Derived.OpenShut
import Derived.Deep.Slices
import Derived.Lib.LaidTab
import Derived.Test.YtbopchpncgdaaaaGreatDoorQsB10
namespace Go.Sx
open Go.ChangeShapes
theorem trodAll_stays {H:Type} {enc:TypeId×Value→H} {P:Program} (hl:laidOutB P=true) {W W':World} (hb:RowKit.Below W.heap.size W W'):
  ∀(ts:List TypeId) (vs:List Value) (ds:List (DataW H)) (ps:List MemPlace),ts.all (fun t=>P.readableRec t&&decide (t<P.types.size))=true→DataW.TrodAll enc P W 0 (fun _=>true) true ts vs ds ps→(∀p∈ps,p.block<W.heap.size)→
   DataW.TrodAll enc P W' 0 (fun b=>decide (b<W.heap.size)) true ts vs ds ps
 |[],[],[],_,_,h,_=>h
 |t::ts,v::vs,d::ds,ps,hr,h,hlt=>by
  obtain⟨p,q,h1,h2,rfl⟩:=h
  simp only[List.all_cons,Bool.and_eq_true,decide_eq_true_eq]at hr
  exact⟨p,q,RowKit.Below.trod hl hr.1.1 hr.1.2 h1 hb (fun x hx=>hlt x (List.mem_append.2 (.inl hx))),trodAll_stays hl hb ts vs ds q hr.2 h2 (fun x hx=>hlt x (List.mem_append.2 (.inr hx))),rfl⟩
 |[],_::_,_,_,_,h,_=>h.elim
 |[],[],_::_,_,_,h,_=>h.elim
 |_::_,[],_,_,_,h,_=>h.elim
 |_::_,_::_,[],_,_,h,_=>h.elim
theorem law_post {H:Type} {enc:TypeId×Value→H} {P:Program} {f:Func} {s:ChangeSpec} {W W':World} {args:Array Value} {ds gs:List (DataW H)} {before:List MemPlace} {tb:TypeId}
  (hl:laidOutB P=true) (hr:f.params.toList.all (fun t=>P.readableRec t&&decide (t<P.types.size))=true) (hv:s.vars=[]) (hres:f.resultTypes= #[tb]) (htb:P.underlying tb=some .bool)
  (hW:DataW.Whole enc P f.params.toList s.vars false W args.toList ds gs before) (hfn:(s.fn H (ds++gs)).results=[.lit (.bool true)]∧(s.fn H (ds++gs)).args=ds∧(s.fn H (ds++gs)).vars=[])
  (hb:RowKit.Below W.heap.size W W'):s.post enc P f false true false false W args (.bool true) W':=by
 have hlt:=hW.lt
 have hW':=hW
 obtain⟨p,q,h1,h2,rfl,h3,h4⟩:=hW
 rw[hv]at h2
 obtain⟨rfl,rfl⟩:=trodVars_none h2
 rw[List.append_nil]at hlt
 refine⟨ds,[],p++[],[],p,[],hW', ?_, ?_, ?_,hb.frame _,fun h=>by cases h⟩
 ·rw[hfn.1,hres]
  exact trodAll_cons_mk (RowKit.shut_bool htb true) trodAll_mk0
 ·rw[hfn.2.1]
  exact trodAll_stays hl hb _ _ _ _ hr h1 hlt
 ·rw[hv,hfn.2.2]
  exact rfl
end Go.Sx
namespace Go.Sx
open Go.ChangeShapes Go.WideShapes
theorem tab_heap {P:Program} {W:World} {name:String} {k:IntKind} {zs:List Int} {g:Nat} (hg:P.globalNamed name=some g) (h:Lib.TabIs P W name k zs):∃ty fz,W.heap[g]? =some (.cells (zs.map fun x=>Value.int k x).toArray ty fz):=by
 unfold Lib.TabIs World.var? at h
 rw[hg]at h
 simp only[Option.bind_some]at h
 cases ho:W.heap[g]? with
 |none=>rw[ho]at h;cases h
 |some o=>
  rw[ho]at h
  cases o<;>simp_all
theorem law_runA {P:Program} {f:FuncId} {args:List SV} {W:World} (hf:FnOK P f) (h:CallOK P f args [] (.val (.bool true)) [] [])
  (hg:TabsW W) {z:List (List Value)} (hz:HasZ (allRho hg) args z):
  Calls P f (List.zipWith mkV args z).toArray W fun e w'=>e= .returned (.bool true)∧RowKit.Below W.heap.size W w':=by
 refine(h.calls hf hz ⟨(fun k b hb=>by cases hb),(fun k k' x x' b b' hb=>by cases hb),(fun b o hb=>hb),(fun k b x hb=>by cases hb),(fun k b hb=>by cases hb)⟩).mono ?_
 rintro e w' ⟨v,ρ',rfl,hp⟩
 refine⟨by rw[of_has_val hp.has], ?_⟩
 exact(hp.pres.mono (W':=fun _=>False) (fun b _ ⟨k,blk,t,hm,_⟩=>by cases hm)).below
section
variable {H:Type} {enc:TypeId×Value→H} {P:Program} {W:World} {hg:TabsW W}
theorem mkV_one {c:SV} {v:Value} (h:c.isOne=true) (hv:v.cells.toList=[v]):mkV c v.cells.toList=v:=by rw[hv];simp[mkV,h]
end
end Go.Sx
namespace Go.Sx
theorem wf_u8 {x:Int} (h:(Lit.int .u8 x).wf=true):0≤x∧x<256:=by
 simp[Lit.wf,IntKind.min,IntKind.max,IntKind.bits,IntKind.signed]at h;omega
theorem laid_tail {P:Program} {W:World} {x:String×DataW Unit} {rest:List (String×DataW Unit)} (h:laidMet P (x::rest) W):laidMet P rest W:=by
 obtain⟨n,d⟩:=x
 obtain⟨ps,⟨g,t,cs,fuel,p,q,_,_,_,_,hr,rfl⟩,hn,hb⟩:=h
 exact⟨q,hr,(List.nodup_append.1 hn).2.1,fun b off hm=>hb b off (List.mem_append.2 (.inr hm))⟩
section
variable {α:Type} {p:α→Bool} {l:List α} {d:α}
end
end Go.Sx
namespace Go.Proofs.YtbopchpncgdaaaaGreatDoor
open Go.Sx
set_option linter.unusedSimpArgs false
set_option linter.unusedVariables false
set_option maxRecDepth 100000
set_option maxHeartbeats 4000000
theorem Sm_zero (n:Nat):Sm 2 (List.replicate n 0):=by
 intro i hi
 rw[List.length_replicate]at hi
 simp[List.getD_eq_getElem?_getD,hi,fs_zero]
section
variable {a b z:List Rat} {n i:Nat} {c:Rat}
end
end Go.Proofs.YtbopchpncgdaaaaGreatDoor
namespace Go.Proofs.YtbopchpncgdaaaaGreatDoor
open Go.Sx
set_option linter.unusedSimpArgs false
set_option linter.unusedVariables false
set_option maxRecDepth 100000
set_option maxHeartbeats 4000000
theorem wrap_u8 {n:Int} (h0:0≤n) (h:n<256):IntKind.u8.wrap n=n:=by
 simp[IntKind.wrap,IntKind.bits,IntKind.signed];omega
end Go.Proofs.YtbopchpncgdaaaaGreatDoor
namespace Go.Proofs.YtbopchpncgdaaaaGreatDoor
open Go.Sx
set_option linter.unusedSimpArgs false
set_option linter.unusedVariables false
set_option maxRecDepth 100000
set_option maxHeartbeats 8000000
theorem u8_mod (x:Int) (h:0≤x∧x<256) (m:Int) (hm:0<m∧m<256):IntKind.u8.wrap (x.tmod m)=x.tmod m∧IntKind.i64.wrap (x.tmod m)=((x % m).toNat:Nat):=by
 have h1:=Int.emod_nonneg x (show m≠0 by omega)
 have h2:=Int.emod_lt_of_pos x hm.1
 rw[Int.tmod_eq_emod_of_nonneg h.1]
 constructor
 ·exact wrap_u8 h1 (by omega)
 ·rw[wrap_i64 (by omega) (by omega)];omega
end Go.Proofs.YtbopchpncgdaaaaGreatDoor
namespace Go.Sx
set_option linter.unusedSimpArgs false
set_option linter.unusedVariables false
section
variable {P:Program} {o:Oper} {ft:List (Nat×SV)} {fk:List (Nat×Blk)}
theorem op_makeF {t e:TypeId} {x y:Operand} {ti te:TI} {kl kc:IntKind} {n:Nat} (ho:o.op= .makeSlice t x y) (hx:EvOK ft x (.val (.int kl n))) (hy:EvOK ft y (.val (.int kc n)))
  (ht:TOK P t ti) (hk:ti.kind= .slc e) (he:TOK P e te) (hz:te.zero=[.frac 0]) (hs:te.size=5) (hb:(te.bytes:Int)*n≤281474976710656∧(n:Int)≤9223372036854775807):
  OpOK P o ft fk (fvec (List.replicate n 0)) [] []:=
 ok_value fun ρ a w hp=>by
  have e1:=of_has_val (hx ρ a hp.hft)
  have e2:=of_has_val (hy ρ a hp.hft)
  have hu:=ht.kind;rw[hk]at hu
  obtain⟨i,z,i1,i2,i3,i4,i5,i6,i7,_⟩:=he.info
  have hrun:=run_make (P:=P) (w:=w) t e i z hu i1 i4 kl kc n n (Int.natCast_nonneg _) (Int.le_refl _) (by rw[i3];exact hb.1) hb.2
  have hzc:z.cells.toList=fracCells 0:=by rw[i5,hz];rfl
  have hcells:madeCells z.cells (n*i.size)=((List.replicate n (fracCells 0)).flatten).toArray:=by
   have:=madeCells_flat z.cells te.size i7 n
   rw[i2]
   apply Array.ext'
   rw[this,hzc]
  have hz2:HasZ ρ (List.replicate n (SV.frac 0)) (List.replicate n (fracCells 0)):=by
   clear hrun hcells hb hx hy e1 e2
   induction n with
   |zero=>simp[HasZ]
   |succ n ih=>simp only[List.replicate_succ,HasZ];exact⟨_,_,rfl,rfl,ih⟩
  have hkl:keylessL (List.replicate n (SV.frac 0))=true:=by
   rw[←List.map_replicate (f:=SV.frac)]
   exact keylessL_map (fun _=>rfl) _
  obtain⟨ρ',hpost⟩:=vec_new (w:=w) (e:=e) (s:=5) (n:=n) hp.imm hz2 hkl (fun x hx=>by rw[(List.mem_replicate.1 hx).2];rfl) (by simp)
  refine⟨_,_,ρ', ?_,by rw[fvec,mvec,List.map_replicate];exact hpost⟩
  simp only[execOp,ho,e1,e2,Sem.run_bind,hrun,Result.andThen_ok,Sem.run_pure,hcells,Int.toNat_natCast]
end
end Go.Sx
namespace Go.Proofs.YtbopchpncgdaaaaGreatDoor
open Go.Sx
set_option linter.unusedSimpArgs false
set_option linter.unusedVariables false
set_option maxRecDepth 100000
set_option maxHeartbeats 8000000
end Go.Proofs.YtbopchpncgdaaaaGreatDoor
namespace Go.Sx
set_option linter.unusedSimpArgs false
set_option linter.unusedVariables false
theorem SWx_addKey {E:Env} (k:Nat) {blk:Blk} {c:Code} {K:Post'} {fr:List (Nat×SV)} {hp:List (Nat×Blk)} (hk:find hp k=none) (he:blk.data.empty) (hs:SWx E c K fr ((k,blk)::hp)):SWx E c K fr hp:=
 ⟨fun a w hR=>hs.run a w (addKey_RR hk he hR)⟩
end Go.Sx
namespace Go.Proofs.YtbopchpncgdaaaaGreatDoor
open Go.Sx
set_option linter.unusedSimpArgs false
set_option linter.unusedVariables false
set_option maxRecDepth 100000
set_option maxHeartbeats 40000000
abbrev zL (n:Nat):List Rat:=List.replicate n 0
theorem zL_len (n:Nat):(zL n).length=n:=List.length_replicate ..
end Go.Proofs.YtbopchpncgdaaaaGreatDoor
