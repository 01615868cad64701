/- The statement BookNamesCard: the call returns true for every input, and its arguments read as before; no condition. Made small by a program of ours. -/
import Derived.Test.YtecmhhpccmaeiaaGreatDoorC6
set_option linter.unusedVariables false
set_option linter.unusedSimpArgs false
set_option maxRecDepth 100000
namespace Go.Proofs.YtecmhhpccmaeiaaGreatDoor
section
open Go.Gh Go.ChangeShapes Go.WideShapes Go.ChangeAt Go.RowKit
theorem aKh : ∀ ps, aAX [] ps → bZ Tryz.prog 5 ps (.ok (.bool true)) := fun ps h => by
 simp only [aAX] at h
 subst h
 exact aLu
theorem aDj (os : Os) (started : os.Started) (H : Type) (enc : TypeId × Value → H) :
  ReturnsInHanded {} Tryz.checked os 5 .any (fun w args => (Rows.bookNamesSpec.pre enc Tryz.prog Tryz.f5 Rows.bookNamesRow.domain false w args ∧ laidMetH Tryz.prog Rows.bookNamesRow.laid w) ∧ sizedMet enc Tryz.prog Tryz.f5 (OpenSpec.ofChange Rows.bookNamesSpec) false w args)
   (Rows.bookNamesSpec.post enc Tryz.prog Tryz.f5 false true false false) := by
 refine aMy (C := Tryz.checked) (X := fun w _ => laidMetH Tryz.prog Rows.bookNamesRow.laid w) (fun _ _ _ hh h => h.of_heap hh) own started (by kernel_rfl) Tryz.func5
  (ChangeSpec.witness_shaped (enc := enc) (C := Tryz.checked) (os := os) (X := fun w _ => laidMetH Tryz.prog Rows.bookNamesRow.laid w) false (World.laidAll Tryz.prog os Rows.bookNamesRow.laid) #[] 8 (World.laidAll_os _ _ _)
   (World.shaped_of_ZipB (by kernel_rfl) (by kernel_rfl)) (by kernel_rfl) (by kernel_rfl) (by kernel_rfl)
   (by rw [MakeChecks.laidMetH_plain _ _ _ (by kernel_rfl)]; exact laidMet_laidAll _ (by kernel_rfl) (by kernel_rfl))) ?_
 intro W base args ds gs before hval hW hL hsh
 exact aIW (n := 9) (ss := []) (b := 4) aKG (by kernel_rfl) (by kernel_rfl) (by kernel_rfl) (by kernel_rfl) rfl
  (fun ds hd => by
   have hd' : ds.length = 0 := hd
   match ds, hd' with
   | [], _ => rfl) aKh (aKH hsh hL) hval hW
theorem aEB : Rows.BookNamesSaid :=
 OpenClaim.holds_of_wide 5 Tryz.f5 rfl rfl rfl rfl rfl rfl rfl ⟨rfl, rfl, rfl, rfl, rfl⟩ rfl rfl rfl rfl rfl (by kernel_rfl) Tryz.func5 (by kernel_rfl)
  (of_decide_eq_true (by kernel_rfl)) (by unfold Func.isWrapper; first | (rw [if_pos (by decide +kernel)]; kernel_rfl) | (rw [if_neg (by decide +kernel)]; exact ⟨rfl, rfl⟩))
  (fun os started H enc _ => aDj os started H enc)
theorem names_card : Rows.BookNamesCardSaid :=
 Claim7.holds_tied_plain_at .later [] [.data, .data, .data, .data, .sentinel, .sentinel, .pinned] true (true, "bf0012137dc996682f27d889ddf79656a40c62ecec8e5e4f8ab2b9b36150a6e5") true aEB (fun _ h => by cases h) (by kernel_rfl) (fun _ h => by cases h) bookNames_row_tie rfl ⟨rfl, rfl⟩ (by kernel_rfl) rfl
  (fun f fn hf hfn => by
   obtain rfl : f = 5 := Option.some.inj ((show Tryz.prog.funcNamed "zoneworks/zoneworkslaw14.BookNames" = some 5 by kernel_rfl).symm.trans hf) |>.symm
   obtain rfl : fn = Tryz.f5 := (Option.some.inj (Tryz.func5.symm.trans hfn)).symm
   exact ⟨by kernel_rfl, fun j t ht => by
    have hp : Tryz.f5.params = #[] := by kernel_rfl
    rw [hp] at ht
    simp at ht⟩)
  (by kernel_rfl)
end
end Go.Proofs.YtecmhhpccmaeiaaGreatDoor
