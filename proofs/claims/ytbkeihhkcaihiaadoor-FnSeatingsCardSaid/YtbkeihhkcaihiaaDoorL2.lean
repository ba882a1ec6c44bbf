/- For every code the law of the seatings (FnSeatings) answers true and leaves the code as it was, where the library's table of bit places reads as the program's text lays it; the card ties that table. No other condition. -/
import Derived.Test.YtbkeihhkcaihiaaDoorL1
namespace Go.Proofs.YtbkeihhkcaihiaaDoor.fnSeatings
open Go.ChangeShapes Go.WideShapes Go.ChangeAt Go.RowKit
set_option linter.unusedVariables false
set_option maxHeartbeats 8000000 in
theorem over : Rows.fnSeatingsRow.holds Tryd.pinned (OpenSpec.ofChange Rows.fnSeatingsSpec) :=
  OpenClaim.holds_of_wide 3 Tryd.f3 rfl rfl rfl rfl rfl rfl rfl ⟨rfl, rfl, rfl, rfl, rfl⟩ rfl rfl rfl rfl rfl (by as_aux_lemma => kernel_rfl) Tryd.func3 (by as_aux_lemma => kernel_rfl)
    (of_decide_eq_true (by as_aux_lemma => kernel_rfl)) (by unfold Func.isWrapper; first | (rw [if_pos (by decide +kernel)]; kernel_rfl) | (rw [if_neg (by decide +kernel)]; exact ⟨rfl, rfl⟩))
    (fun os started H enc _ => lifted os started H enc)
theorem proved : Rows.FnSeatingsSaid := over
set_option maxHeartbeats 8000000 in
theorem card_holds : Rows.FnSeatingsCardSaid :=
  Claim7.holds_tied_plain_at .later [] [.data] true (true, "d3fe06d2d9dd37e3dab5010241b65937d47589fa63eaa7680f98a6f3a7f7c3c5") false
    proved (fun _ h => by cases h) (by as_aux_lemma => kernel_rfl) (fun _ h => by cases h) fnSeatings_row_tie rfl ⟨rfl, rfl⟩ (by as_aux_lemma => kernel_rfl) rfl
    (fun f fn hf hfn => by
      obtain rfl : f = 3 := Option.some.inj ((show Tryd.prog.funcNamed "loop.example/g01167/laws.FnSeatings" = some 3 by as_aux_lemma => kernel_rfl).symm.trans hf) |>.symm
      obtain rfl : fn = Tryd.f3 := (Option.some.inj (Tryd.func3.symm.trans hfn)).symm
      exact ⟨by as_aux_lemma => kernel_rfl, fun j t ht => by
        rw [Tryd.params3] at ht
        have hm : t ∈ [22] := by simpa using Array.mem_of_getElem? ht
        have hall : ([22].all fun u => !Tryd.prog.wantsStandIn u) = true := by as_aux_lemma => kernel_rfl
        exact (show Tryd.prog.wantsStandIn t = false by simpa using List.all_eq_true.1 hall t hm)⟩)
    (by as_aux_lemma => kernel_rfl)
#print axioms card_holds
end Go.Proofs.YtbkeihhkcaihiaaDoor.fnSeatings
namespace Go.Proofs.YtbkeihhkcaihiaaDoor
/-- The card, under a short name, for the claim. -/
theorem fnSeatings_holds : Rows.FnSeatingsCardSaid := fnSeatings.card_holds
end Go.Proofs.YtbkeihhkcaihiaaDoor
