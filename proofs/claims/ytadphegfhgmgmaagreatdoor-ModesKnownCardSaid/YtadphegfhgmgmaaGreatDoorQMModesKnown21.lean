/- The texts Kw, Ia. -/
import Derived.Test.YtadphegfhgmgmaaGreatDoorQMModesKnown7
import Derived.Test.YtadphegfhgmgmaaGreatDoorQMModesKnown5
set_option linter.unusedSimpArgs false
set_option linter.unusedVariables false
set_option maxHeartbeats 40000000
set_option maxRecDepth 100000
open List renaming take->afH
namespace Go.Proofs.YtadphegfhgmgmaaGreatDoor
open Go.Sx
def plF (n:Nat) (p:Int):Int:=p % (n:Int)
def places (l:List Int) (n:Nat) (b:Bool):List Int:=(if b then(List.range n).map (λi=>((i:Nat):Int))else[])++(if n=0 then[]else l.map (plF n))
abbrev BC (l:List Int):aC:=⟨3,true,.ints .i64 l⟩
theorem Xj {l:List Int} {x:Int}:BC (l++[x])=⟨3,true,.ints .i64 (afH l.length l++afH 1 (List.drop 0 [x]))⟩:=by
 rw[BC,List.take_of_length_le (Nat.le_refl _)];rfl
theorem yr {E:Env} (t k:Nat) {c:Code} {K:bF} {fr:List (Nat×SV)} {hp:List (Nat×aC)} {ty:TypeId} {n:Nat} {kd:IntKind} {xs:List Int} (hW:∀b,¬E.W0 b) (ht:lk fr t=some (.aM k 1 0 n)) (hk:find hp k=some ⟨ty,true,.ints kd xs⟩)
  (hn:n=xs.length) (hs:dY E c K ((t,gP kd xs)::fr) (fi hp k ⟨ty,true,.dead⟩)):dY E c K fr hp:=by
 refine jP t k (xs:=xs.map (gB kd)) hW ht hk rfl rfl (bO (λ_=>rfl) xs) (by simp;omega) ?_;rw[im (by simp;omega)];exact hs
