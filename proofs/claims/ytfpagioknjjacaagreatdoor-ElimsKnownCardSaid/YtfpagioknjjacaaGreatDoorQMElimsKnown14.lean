/- The texts Kw, Ia. -/
import Derived.Test.YtfpagioknjjacaaGreatDoorQMElimsKnown6
import Derived.Test.YtfpagioknjjacaaGreatDoorQMElimsKnown5
namespace Go.Proofs.YtfpagioknjjacaaGreatDoor
open Go.Sx
set_option linter.unusedSimpArgs false
set_option linter.unusedVariables false
set_option maxRecDepth 100000
set_option maxHeartbeats 40000000
def plF (n:Nat) (p:Int):Int:=p % (n:Int)
def places (l:List Int) (n:Nat) (b:Bool):List Int:=(if b then(List.range n).map (fun i=>((i:Nat):Int))else[])++(if n=0 then[]else l.map (plF n))
abbrev fH (l:List Int):aF:=⟨3,true,.ints .i64 l⟩
theorem nV {l:List Int} {x:Int}:fH (l++[x])=⟨3,true,.ints .i64 (List.take l.length l++List.take 1 (List.drop 0 [x]))⟩:=by
 rw[fH,List.take_of_length_le (Nat.le_refl _)];rfl
theorem gT {E:Env} (t k:Nat) {c:Code} {K:bI} {fr:List (Nat×SV)} {hp:List (Nat×aF)} {ty:TypeId} {n:Nat} {kd:IntKind} {xs:List Int} (hW:∀b,¬E.W0 b) (ht:lk fr t=some (.aO k 1 0 n)) (hk:find hp k=some ⟨ty,true,.ints kd xs⟩)
  (hn:n=xs.length) (hs:ey E c K ((t,cO kd xs)::fr) (ff hp k ⟨ty,true,.dead⟩)):ey E c K fr hp:=by
 refine kG t k (xs:=xs.map (jv kd)) hW ht hk rfl rfl (bN (fun _=>rfl) xs) (by simp;omega) ?_
 rw[gi (by simp;omega)]
 exact hs
end Go.Proofs.YtfpagioknjjacaaGreatDoor
