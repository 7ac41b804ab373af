/- TopEveryTable returns true for every input of bulk at most 1048576, and each argument reads afterwards as before; condition: package variables begin as the program lays them (the card ties this). -/
import Derived.Test.YthjbkngecgbioaaGreatDoorLgN
set_option linter.unusedVariables false
set_option linter.unusedSimpArgs false
set_option linter.deprecated false
/- The law's row: said. -/
set_option maxRecDepth 100000
namespace Go.Proofs.YthjbkngecgbioaaGreatDoor.Sl
open Go Go.ChangeShapes Go.WideShapes Go.ChangeAt Go.RowKit
theorem joined : joinedFacts Go.Proofs.YthjbkngecgbioaaGreatDoor.Tryz.pinned.checked.prog 3 Tryz.f3 (Go.Proofs.YthjbkngecgbioaaGreatDoor.Rows.OpenSpec.upto Go.Proofs.YthjbkngecgbioaaGreatDoor.Rows.topEveryTableSpec).bare Go.Proofs.YthjbkngecgbioaaGreatDoor.Rows.topEveryTableUptoRow = true := by
  unfold joinedFacts
  simp only [Bool.and_eq_true]
  and_intros
  all_goals first | (with_reducible exact jf1) | (with_reducible exact jf2) | (with_reducible exact jf3) | (with_reducible exact jf4) | (with_reducible exact jf5) | (with_reducible exact jf6) | (with_reducible exact jf7) | (with_reducible exact jf8) | (with_reducible exact jf9) | kernel_rfl
theorem wrap3 : Tryz.f3.isWrapper Go.Proofs.YthjbkngecgbioaaGreatDoor.Tryz.pinned.checked.prog Go.Proofs.YthjbkngecgbioaaGreatDoor.Rows.topEveryTableUptoRow.wrapper Go.Proofs.YthjbkngecgbioaaGreatDoor.Rows.topEveryTableUptoRow.mainSum := by unfold Func.isWrapper; first | (rw [if_pos (by decide +kernel)]; kernel_rfl) | (rw [if_neg (by decide +kernel)]; exact ⟨rfl, rfl⟩)
theorem named3 : Go.Proofs.YthjbkngecgbioaaGreatDoor.Tryz.pinned.checked.prog.funcNamed Go.Proofs.YthjbkngecgbioaaGreatDoor.Rows.topEveryTableUptoRow.func = some 3 := by kernel_rfl
theorem inst3 : Tryz.f3.isInstance Go.Proofs.YthjbkngecgbioaaGreatDoor.Tryz.pinned.checked.prog Go.Proofs.YthjbkngecgbioaaGreatDoor.Rows.topEveryTableUptoRow.origin Go.Proofs.YthjbkngecgbioaaGreatDoor.Rows.topEveryTableUptoRow.targs := of_decide_eq_true (by kernel_rfl)
theorem saidUpto : Go.Proofs.YthjbkngecgbioaaGreatDoor.Rows.TopEveryTableUptoSaid :=
  OpenClaim.holds_of_cond 3 Tryz.f3 rfl rfl rfl rfl rfl rfl rfl ⟨rfl, rfl, rfl, rfl, rfl⟩ rfl rfl rfl rfl rfl named3 Tryz.func3 joined inst3 wrap3
    (fun os started H enc _ F => by rw [OpenClaim.pre_eq_preRow]; exact lifted os started H enc F)
end Go.Proofs.YthjbkngecgbioaaGreatDoor.Sl

/- The law's card. -/
set_option maxRecDepth 100000
namespace Go.Proofs.YthjbkngecgbioaaGreatDoor.Sl
open Go Go.ChangeShapes Go.WideShapes Go.ChangeAt Go.RowKit
theorem looks0 : false = Go.Proofs.YthjbkngecgbioaaGreatDoor.Tryz.pinned.checked.prog.looks [] := by kernel_rfl
theorem wants22 : Go.Proofs.YthjbkngecgbioaaGreatDoor.Tryz.pinned.checked.prog.wantsStandIn 22 = false := by kernel_rfl
theorem wants23 : Go.Proofs.YthjbkngecgbioaaGreatDoor.Tryz.pinned.checked.prog.wantsStandIn 23 = false := by kernel_rfl
theorem plain (f : FuncId) (fn : Func) (hf : Go.Proofs.YthjbkngecgbioaaGreatDoor.Tryz.pinned.checked.prog.funcNamed "stickler/sticklertop.TopEveryTable" = some f) (hfn : Go.Proofs.YthjbkngecgbioaaGreatDoor.Tryz.pinned.checked.prog.funcs[f]? = some fn) :
    false = Go.Proofs.YthjbkngecgbioaaGreatDoor.Tryz.pinned.checked.prog.looks [] ∧ ∀ (j : Nat) t, fn.params[j]? = some t → Go.Proofs.YthjbkngecgbioaaGreatDoor.Tryz.pinned.checked.prog.wantsStandIn t = false := by
  obtain rfl : f = 3 := (Option.some.inj (named3.symm.trans hf)).symm
  obtain rfl : fn = Tryz.f3 := (Option.some.inj (Tryz.func3.symm.trans hfn)).symm
  refine ⟨looks0, fun j t ht => ?_⟩
  rw [Tryz.params3] at ht
  have ht2 := Array.mem_of_getElem? ht
  simp only [List.mem_toArray, List.mem_cons, List.not_mem_nil, or_false] at ht2
  rcases ht2 with rfl | rfl
  · exact wants22
  · exact wants23
theorem cardUpto : Go.Proofs.YthjbkngecgbioaaGreatDoor.Rows.TopEveryTableUptoCardSaid :=
  Claim7.holds_tied_plain_at .later [] _ _ _ _ saidUpto (fun _ h => by cases h) (by kernel_rfl) (fun _ h => by cases h) Go.Proofs.YthjbkngecgbioaaGreatDoor.topEveryTableUpto_row_tie rfl ⟨rfl, rfl⟩ (by kernel_rfl) rfl plain (by kernel_rfl)
end Go.Proofs.YthjbkngecgbioaaGreatDoor.Sl
