/- The tied card of the law KindsValid: for every integer k the law returns true and its argument reads as before; the listed variables hold what the program's text lays in them. -/
import Derived.Test.YtajaenkdllfidaaGreatDoorL
import Derived.Test.YtajaenkdllfidaaGreatDoorTie
import Derived.Test.YtajaenkdllfidaaGreatDoorCards
import Derived.SevenTiedAt
namespace Go.Proofs.YtajaenkdllfidaaGreatDoor.kindsValid
open Go

theorem kindsValid_holds : Rows.KindsValidCardSaid :=
  Claim7.holds_tied_plain_at .later [] [.data, .data, .data, .sentinel, .sentinel] true (true, "0e47817d4bbdcc603f72ab4b499fc18e85f4cd008eef9e843eff56a8735d7c13") true
    proved (fun _ h => by cases h) (by kernel_rfl) (fun _ h => by cases h) kindsValid_row_tie rfl ⟨rfl, rfl⟩ (by kernel_rfl) rfl
    (fun f fn hf hfn => by
      obtain rfl : f = 7 := Option.some.inj (named.symm.trans hf) |>.symm
      obtain rfl : fn = Tryz.f7 := (Option.some.inj (Tryz.func7.symm.trans hfn)).symm
      exact ⟨by kernel_rfl, fun j t ht => by
        rw [Tryz.params7] at ht
        have h3 : t = 3 := by
          rcases j with _ | j
          · simpa using ht.symm
          · simp at ht
        subst h3
        exact (show Tryz.prog.wantsStandIn 3 = false by kernel_rfl)⟩)
    (by kernel_rfl)
#print axioms kindsValid_holds
end Go.Proofs.YtajaenkdllfidaaGreatDoor.kindsValid
