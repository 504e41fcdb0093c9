/- The statement's card holds where its functional reading answers true for all arguments. -/
import Derived.Test.YtedblfoeicnobaaGreatDoorI
set_option linter.unusedVariables false
set_option linter.unusedSimpArgs false
set_option linter.unusedSectionVars false
set_option maxRecDepth 100000
section
namespace Go.Proofs.YtedblfoeicnobaaGreatDoor
open Go Go.ChangeShapes Go.WideShapes Go.ChangeAt Go.RowKit Ev Sx
theorem card_holds (hlaw : ∀ x, (r3 x : Option Bool) = some true) : Rows.AuditFilesCardSaid :=
 Claim7.holds_tied_plain_at .later [] [.data, .data, .data] true (true, "4a3f4b57075ffe95f29f6adf5e4130c3c728a4eba6b185ef6b601354819900ad") true
  (row_holds hlaw) (fun _ h => by cases h) (by kernel_rfl) (fun _ h => by cases h) auditFiles_row_tie rfl ⟨rfl, rfl⟩ (by kernel_rfl) rfl
  (fun f fn hf hfn => by
   obtain rfl : f = 3 := Option.some.inj ((show Tryz.prog.funcNamed "aumbry/aumbrylaw26.AuditFiles" = some 3 by kernel_rfl).symm.trans hf) |>.symm
   obtain rfl : fn = Tryz.f3 := (Option.some.inj (Tryz.func3.symm.trans hfn)).symm
   refine ⟨by kernel_rfl, fun j t ht => ?_⟩
   rw [Tryz.params3] at ht
   have h3 : t = 23 ∨ t = 24 ∨ t = 3 := by
    rcases j with _ | _ | _ | _ | _ | _ | _ | j <;> simp at ht <;> simp [← ht]
   rcases h3 with rfl | rfl | rfl
   ·exact (show Tryz.prog.wantsStandIn 23 = false by kernel_rfl)
   ·exact (show Tryz.prog.wantsStandIn 24 = false by kernel_rfl)
   ·exact (show Tryz.prog.wantsStandIn 3 = false by kernel_rfl))
  (by kernel_rfl)
end Go.Proofs.YtedblfoeicnobaaGreatDoor
end
