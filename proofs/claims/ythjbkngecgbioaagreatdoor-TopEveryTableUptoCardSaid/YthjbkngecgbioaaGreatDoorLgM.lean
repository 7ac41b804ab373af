/- A world that fits the row exists (no condition). -/
import Derived.Test.YthjbkngecgbioaaGreatDoorLgL
set_option linter.unusedVariables false
set_option linter.unusedSimpArgs false
set_option linter.deprecated false
/- The law's row is met: a world for the witness; the row; the card. -/
set_option maxRecDepth 100000
namespace Go.Proofs.YthjbkngecgbioaaGreatDoor.Sl
open Go Go.ChangeShapes Go.WideShapes Go.ChangeAt Go.RowKit
theorem own : ownKnob Tryz.prog.godebug = none := by kernel_rfl
def dataCells : Nat → DataW Unit → List Value
  | 0, _ => []
  | _ + 1, .lit (.int k x) => [.int k x]
  | n + 1, .agg l => l.flatMap (dataCells n)
  | _ + 1, _ => []
def layCells (d : DataW Unit) : Obj → Obj
  | .cells _ t frozen => .cells (dataCells 4 d).toArray t frozen
  | o => o
noncomputable def laidWorld (os : Os) : World :=
  { World.holding Tryz.prog os ⟨#[], #[], []⟩ with heap := (((World.holding Tryz.prog os ⟨#[], #[], []⟩).heap.modify ((Tryz.prog.globalNamed "stickler/repr.forms").getD 0) (layCells Go.Proofs.YthjbkngecgbioaaGreatDoor.Rows.laid_stickler_repr_forms)).modify ((Tryz.prog.globalNamed "unicode/utf8.acceptRanges").getD 0) (layCells Go.Proofs.YthjbkngecgbioaaGreatDoor.Rows.laid_unicode_utf8_acceptRanges)).modify ((Tryz.prog.globalNamed "unicode/utf8.first").getD 0) (layCells Go.Proofs.YthjbkngecgbioaaGreatDoor.Rows.laid_unicode_utf8_first) }
def wargs : Array Value := #[.slice none 0 0, .slice none 0 0]
theorem laid_met (os : Os) : laidMet Tryz.prog Go.Proofs.YthjbkngecgbioaaGreatDoor.Rows.topEveryTableUptoRow.laid ((laidWorld os).forCall (fun _ _ => 0) ⟨#[], wargs, []⟩).memory :=
  laidMet_of_run' 8 (by kernel_rfl) (by kernel_rfl)
theorem reads (os : Os) {H : Type} (enc : TypeId × Value → H) : ∃ places, DataW.whole enc Tryz.prog ((laidWorld os).forCall (fun _ _ => 0) ⟨#[], wargs, []⟩).memory Tryz.f3.params.toList Go.Proofs.YthjbkngecgbioaaGreatDoor.Rows.topEveryTableSpec.vars false wargs.toList 8 = some ([.nil, .nil], [], places) :=
  ⟨[], by kernel_rfl⟩
theorem lifted (os : Os) (started : os.Started) (H : Type) (enc : TypeId × Value → H) (F : Stop.Interp) :
    ReturnsInHanded {} Tryz.checked os 3 .any ((Go.Proofs.YthjbkngecgbioaaGreatDoor.Rows.OpenSpec.upto Go.Proofs.YthjbkngecgbioaaGreatDoor.Rows.topEveryTableSpec).preRow enc Tryz.prog Tryz.f3 Go.Proofs.YthjbkngecgbioaaGreatDoor.Rows.topEveryTableUptoRow.domain false Go.Proofs.YthjbkngecgbioaaGreatDoor.Rows.topEveryTableUptoRow.laid) (((Go.Proofs.YthjbkngecgbioaaGreatDoor.Rows.OpenSpec.upto Go.Proofs.YthjbkngecgbioaaGreatDoor.Rows.topEveryTableSpec).at F).post enc Tryz.prog Tryz.f3 false true false false) := by
  obtain ⟨places, hx⟩ := reads os enc
  refine returnsInHanded_of_row (C := Tryz.checked) (s := Go.Proofs.YthjbkngecgbioaaGreatDoor.Rows.OpenSpec.upto Go.Proofs.YthjbkngecgbioaaGreatDoor.Rows.topEveryTableSpec) own started (by kernel_rfl) Tryz.func3
    (witness_row_at (enc := enc) (C := Tryz.checked) false (laidWorld os) wargs rfl (by kernel_rfl) (by kernel_rfl) (by kernel_rfl)
      (OpenSpec.preRow_of_cond 8 hx (by kernel_rfl) (fun k hk => by cases hk; kernel_rfl) (by kernel_rfl) (laid_met os))) ?_
  intro W base args ds gs before hval hW _ hcond _ hL _ _
  have hso : 0 < W.heap.size := by
    have h3 := formsAt hL 0 _ rfl
    unfold World.cell? at h3
    split at h3
    · rename_i hb'; exact (Array.getElem?_eq_some_iff.1 hb').1
    · cases h3
  exact law_contract H enc W base args ds gs before hval hW hL (hcond _ rfl) hso
end Go.Proofs.YthjbkngecgbioaaGreatDoor.Sl
