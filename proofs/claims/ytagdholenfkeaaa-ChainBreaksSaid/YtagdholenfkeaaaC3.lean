/- The statement ChainBreaks: the call returns true for every input, and its arguments read as before; no condition. -/
import Derived.Test.YtagdholenfkeaaaC2
set_option linter.unusedVariables false
set_option linter.unusedSimpArgs false
/- The statement ChainBreaks, for every input: the law returns true, and its arguments read as they did.  -/
namespace Go.Proofs.Ytagdholenfkeaaa
open Go.Gh Go.ChangeShapes Go.WideShapes Go.ChangeAt Go.RowKit
set_option maxRecDepth 100000
theorem aj_breaks : ∀ ps, FitAs [(true, chSS), (false, [.int .i64]), (false, [.list [.int .u8] false])] ps → PSpec Try.prog 7 ps (.ok (.bool true)) := fun ps h => by
  simp only [FitAs] at h
  obtain ⟨_, _, rfl, q0, _, _, rfl, q1, _, _, rfl, q2, rfl⟩ := h
  obtain ⟨c, rfl, hc1, hc2, hc3, hc4, hc5, hc6, hc7⟩ := ch_of q0
  obtain ⟨x, rfl, hx⟩ := int_of q1
  obtain ⟨b, rfl, hlb, hb⟩ := bytes_of q2
  exact l_breaks c x b hlb hb
theorem breaks_lifted (os : Os) (started : os.Started) (H : Type) (enc : TypeId × Value → H) :
    ReturnsInHanded {} Try.checked os 7 .any (Rows.chainBreaksSpec.pre6 enc Try.prog Try.f7 Rows.chainBreaksRow.domain false) (Rows.chainBreaksSpec.post enc Try.prog Try.f7 false true false false) := by
  refine returnsInHanded_of_change (C := Try.checked) own started (by kernel_rfl) Try.func7
    (ChangeSpec.witness6 (enc := enc) (C := Try.checked) false ⟨#[], #[.agg #[.int .i64 0, .int .i64 0, .slice none 0 0, .slice none 0 0, .int .i64 0], .int .i64 0, .slice none 0 0], []⟩ 8 (by kernel_rfl) (by kernel_rfl) (by kernel_rfl) (by kernel_rfl)) ?_
  intro W base args ds gs before hval hW _ _
  exact law_post (n := 9) (ss := [(true, chSS), (false, [.int .i64]), (false, [.list [.int .u8] false])]) (b := 4) laidOut (by kernel_rfl) (by kernel_rfl) (by kernel_rfl) (by kernel_rfl) rfl
    (fun ds hd => by
      have hd' : ds.length = 3 := hd
      match ds, hd' with
      | [a, b, c], _ => rfl) aj_breaks hval hW
theorem breaks_holds : Rows.ChainBreaksSaid :=
  OpenClaim.holds_of_wide 7 Try.f7 rfl rfl rfl rfl rfl rfl rfl ⟨rfl, rfl, rfl, rfl, rfl⟩ rfl rfl rfl rfl rfl (by kernel_rfl) Try.func7 (by kernel_rfl)
    (of_decide_eq_true (by kernel_rfl)) (by unfold Func.isWrapper; first | (rw [if_pos (by decide +kernel)]; kernel_rfl) | (rw [if_neg (by decide +kernel)]; exact ⟨rfl, rfl⟩))
    (fun os started H enc _ => breaks_lifted os started H enc)
end Go.Proofs.Ytagdholenfkeaaa
