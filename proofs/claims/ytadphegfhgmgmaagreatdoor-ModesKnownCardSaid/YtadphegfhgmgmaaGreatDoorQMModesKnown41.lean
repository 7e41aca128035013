/- The law ModesKnown: its card. -/
import Derived.Test.YtadphegfhgmgmaaGreatDoorQMModesKnown40
set_option linter.unusedSimpArgs false
set_option maxRecDepth 100000
open Option.some renaming inj->abU
namespace Go.Proofs.YtadphegfhgmgmaaGreatDoor.modesKnown
open Go.ChangeShapes Go.WideShapes Go.ChangeAt Go.RowKit Go.Sx
theorem plain (f:FuncId) (fn:Func) (hf:Tryz.pinned.checked.prog.funcNamed "gusset/gussetlaw22.ModesKnown" =some f) (hfn:Tryz.pinned.checked.prog.funcs[f]? =some fn):
  false=Tryz.pinned.checked.prog.looks []/\∀(j:Nat) t,fn.params[j]? =some t->Tryz.pinned.checked.prog.wantsStandIn t=false:=by
 obtain rfl:f=3:=abU ((show Tryz.prog.funcNamed "gusset/gussetlaw22.ModesKnown" =some 3 by kernel_rfl).symm.trans hf) |>.symm
 obtain rfl:fn=Tryz.f3:=(abU (Tryz.func3.symm.trans hfn)).symm;refine⟨by kernel_rfl,λj t ht=> ?_⟩;have pk:(Tryz.f3.params.toList.all λt=> !Tryz.prog.wantsStandIn t)=true:=by kernel_rfl
 have:=List.all_eq_true.1 pk t (by simpa using Array.mem_of_getElem? ht);exact(show Tryz.prog.wantsStandIn t=false by simpa using this)
theorem card:Rows.ModesKnownCardSaid:=
 Claim7.holds_tied_plain_at .later [] _ _ _ _ said (λ_ h=>by cases h) (by kernel_rfl) (λ_ h=>by cases h) modesKnown_row_tie rfl ⟨rfl,rfl⟩ (by kernel_rfl) rfl plain (by kernel_rfl)
#print axioms card
end Go.Proofs.YtadphegfhgmgmaaGreatDoor.modesKnown
