/- The texts Ba. -/
import Derived.Test.YtbopchpncgdaaaaGreatDoorQLElimsFredholm5
namespace Go.Proofs.YtbopchpncgdaaaaGreatDoor
open Go.Sx
set_option linter.unusedSimpArgs false
set_option linter.unusedVariables false
set_option maxRecDepth 100000
set_option maxHeartbeats 40000000
theorem fs_small (i:Nat) (h:i≤8):fs (((i:Nat):Int):Rat)≤130:=by
 have:∀i,i<9→fs (((i:Nat):Int):Rat)≤130:=by decide+kernel
 exact this i (by omega)
theorem axpy_len {n:Nat} {t:Rat} {a b:List Rat} (ha:a.length=n) (hb:b.length=n):(vaxpy t a b).length=n:=zip_len ha hb
theorem axpy_get {n q:Nat} {t:Rat} {a b:List Rat} (ha:a.length=n) (hb:b.length=n) (hq:q<n):(vaxpy t a b).getD q 0=t*a.getD q 0+b.getD q 0:=zip_get (by omega) (by omega)
theorem axpy_sm {n A B C:Nat} {t:Rat} {a b:List Rat} (ha:a.length=n) (hb:b.length=n) (ht:fs t≤C) (sa:Sm A a) (sb:Sm B b):Sm (C+A+B) (vaxpy t a b):=by
 intro q hq
 rw[axpy_len ha hb]at hq
 rw[axpy_get ha hb hq]
 have h1:=sa q (by omega)
 have h2:=sb q (by omega)
 have h3:=fs_mul t (a.getD q 0)
 have h4:=fs_add (t*a.getD q 0) (b.getD q 0)
 omega
theorem axpy_fit {n A B C M:Nat} {t:Rat} {a b:List Rat} (ha:a.length=n) (hb:b.length=n) (ht:fs t≤C) (sa:Sm A a) (sb:Sm B b) (h:C+A+B≤M):∀i,i<a.length→fs t+fs (a.getD i 0)+fs (b.getD i 0)≤M:=fun i hi=>by
 have h1:=sa i hi
 have h2:=sb i (by omega)
 omega
theorem pv_get {sp:List Nat} {u:Nat} (hu:u<sp.length):(sp.map ofN).getD u 0=((sp.getD u 0:Nat):Int):=by simp[List.getD_eq_getElem?_getD,hu]
theorem mem_takeN {l:List Nat} {u k:Nat} (hu:u<l.length):k∈l.take (u+1)↔k∈l.take u∨l.getD u 0=k:=by
 have e:l.getD u 0=l[u]:=by rw[List.getD_eq_getElem?_getD,List.getElem?_eq_getElem hu];rfl
 rw[e,List.take_add_one,List.getElem?_eq_getElem hu,List.mem_append,Option.toList_some,List.mem_singleton,eq_comm (a:=k)]
end Go.Proofs.YtbopchpncgdaaaaGreatDoor
