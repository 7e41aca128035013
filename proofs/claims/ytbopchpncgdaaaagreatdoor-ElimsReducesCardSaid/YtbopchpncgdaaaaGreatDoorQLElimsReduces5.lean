/- The texts Uc. -/
import Derived.Test.YtbopchpncgdaaaaGreatDoorQLElimsReduces4
namespace Go.Proofs.YtbopchpncgdaaaaGreatDoor
open Go.Sx
set_option linter.unusedSimpArgs false
set_option linter.unusedVariables false
set_option maxRecDepth 100000
set_option maxHeartbeats 4000000
theorem op_fieldV {P:Program} {o:Oper} {ft:List (Nat×SV)} {fk:List (Nat×Blk)} {cs:List SV} {c:SV} {S:TypeId} {x:Operand} {j off e:Nat} {ti te:TI} {fs:List (Nat×TypeId×Nat)} {l:List SV} (ho:o.op= .field S x j) (hx:EvOK ft x (.agg cs)) (ht:TOK P S ti)
  (hk:ti.kind= .agg fs) (hj:fs[j]? =some (off,e,1)) (hs:sub 64 cs off 1=some l) (he:TOK P e te) (hna:te.kind.isAgg=false) (hsh:shapeAs te l=some c):OpOK P o ft fk c [] []:=
 ok_pure fun ρ a w hp=>by
  have hv:=hx ρ a hp.hft
  simp only[Has,HasC]at hv
  obtain⟨x',⟨z,h2,rfl⟩,hv⟩:=hv
  obtain⟨y,g1,g2,g3⟩:=sub_has 64 cs off 1 l z hs h2
  have g3:=g3.resolve_left (by decide)
  have hkd:=ht.kind
  rw[hk]at hkd
  obtain⟨k1,k2,k3⟩:=hkd
  have hf:∃fd,(P.fieldsOf S)[j]? =some fd∧fd.offset=off∧fd.type=e:=by
   rw[←k2,List.getElem?_map]at hj
   cases hq:(P.fieldsOf S).toList[j]? with
   |none=>rw[hq]at hj;simp at hj
   |some fd=>
    rw[hq]at hj
    simp only[Option.map_some,Option.some.injEq,Prod.mk.injEq]at hj
    exact⟨fd,by simpa using hq,hj.1,hj.2.1⟩
  obtain⟨fd,f1,f2,f3⟩:=hf
  have hlt:off<z.flatten.length:=by omega
  have hz1:z.flatten[off]? =some (y.flatten.headD undef):=by
   rw[g2,List.getElem?_eq_getElem hlt,List.drop_eq_getElem_cons hlt];rfl
  refine⟨y.flatten.headD undef, ?_,shapeAs_has hsh g1 (by rw[hna];rfl)⟩
  have hp':(part e z.flatten.toArray off).run P w= .ok (y.flatten.headD undef) w:=by
   unfold part
   rw[Sem.run_bind,he.isAgg]
   simp[hna,hz1]
  have hv':a.eval x= .agg z.flatten.toArray:=by rw[hv];rfl
  simp only[execOp,ho,Instr.field,hv',asAgg,Sem.run_bind,Sem.run_pure,Result.andThen_ok,run_underlying k1,f1,f2,f3,hp']
end Go.Proofs.YtbopchpncgdaaaaGreatDoor
