/- The law BareissKnown: its card. -/
import Derived.Test.YtfpagioknjjacaaGreatDoorQMBareissKnown33
namespace Go.Proofs.YtfpagioknjjacaaGreatDoor.bareissKnown
open Go.ChangeShapes Go.WideShapes Go.ChangeAt Go.RowKit Go.Sx
set_option maxRecDepth 100000
set_option linter.unusedSimpArgs false
theorem plain (f:FuncId) (fn:Func) (hf:Tryz.pinned.checked.prog.funcNamed "gusset/gussetlaw15.BareissKnown" =some f) (hfn:Tryz.pinned.checked.prog.funcs[f]? =some fn):
  false=Tryz.pinned.checked.prog.looks []∧∀(j:Nat) t,fn.params[j]? =some t→Tryz.pinned.checked.prog.wantsStandIn t=false:=by
 obtain rfl:f=6:=Option.some.inj ((show Tryz.prog.funcNamed "gusset/gussetlaw15.BareissKnown" =some 6 by kernel_rfl).symm.trans hf) |>.symm
 obtain rfl:fn=Tryz.f6:=(Option.some.inj (Tryz.func6.symm.trans hfn)).symm
 refine⟨by kernel_rfl,fun j t ht=> ?_⟩
 have mo:(Tryz.f6.params.toList.all fun t=> !Tryz.prog.wantsStandIn t)=true:=by kernel_rfl
 have:=List.all_eq_true.1 mo t (by simpa using Array.mem_of_getElem? ht)
 exact(show Tryz.prog.wantsStandIn t=false by simpa using this)
theorem card:Rows.BareissKnownCardSaid:=
 Claim7.holds_tied_plain_at .later [] _ _ _ _ said (fun _ h=>by cases h) (by kernel_rfl) (fun _ h=>by cases h) bareissKnown_row_tie rfl ⟨rfl,rfl⟩ (by kernel_rfl) rfl plain (by kernel_rfl)
#print axioms card
end Go.Proofs.YtfpagioknjjacaaGreatDoor.bareissKnown
