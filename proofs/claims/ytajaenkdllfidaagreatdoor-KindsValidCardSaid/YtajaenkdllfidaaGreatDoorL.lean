/- The law's row: whatever k is, KindsValid returns true; nothing in memory is changed. -/
import Derived.Test.YtajaenkdllfidaaGreatDoorN
import Derived.Test.YtajaenkdllfidaaGreatDoorM4
import Derived.Test.YtajaenkdllfidaaGreatDoorVC
import Derived.Test.YtajaenkdllfidaaGreatDoorRows
import Derived.WalkKit
import Derived.ProofKit
import Derived.OpenShut
import Derived.ChangeSame
import Derived.ChangeVars
import Derived.JoinedOf
import Derived.RowKit
import Derived.RowKitTokens
import Derived.LaidLaws
import Derived.LaidHandle
import Derived.Stop.Joined
import Derived.Lay
import Derived.Below
namespace Go.Proofs.YtajaenkdllfidaaGreatDoor.kindsValid
open Go Go.PG Go.K18 Go.ChangeShapes Go.WideShapes Go.ChangeAt Go.RowKit Go.Proofs
set_option linter.unusedVariables false

theorem walk (hall : ∀ k : Int, callL (prgOf fns hks) 7 [.d (.int .i64 k)] [] = some (.d (.bool true), [], [])) (k : Int) (w : World) :
    Calls Tryz.prog 7 #[.int .i64 k] w fun e w' => e = .returned (.bool true) ∧ Below w.heap.size w w' := by
  have := law_calls (P := Tryz.prog) (G := fun _ => none) (Q := prgOf fns hks) (w := w) (f := 7) (fn := Tryz.f7) (args := #[.int .i64 k]) follows (fits_of fnsOk) (hooks_sat follows hksOk) Tryz.func7 (by kernel_rfl) (by kernel_rfl) (hall k) (fun b o h => by cases h) ⟨rfl, fun i v x h1 h2 => by
    cases i with
    | zero => simp at h1 h2; subst h1; subst h2; exact .d (.int _ _)
    | succ i => simp at h1⟩
  exact Calls.mono this fun e w' h => ⟨h.1, h.2.1, h.2.2.1, h.2.2.2.1, h.2.2.2.2.1, h.2.2.2.2.2⟩

theorem own : ownKnob Tryz.prog.godebug = none := by kernel_rfl
theorem nohandle (W : World) : laidMetH Tryz.prog Rows.kindsValidRow.laid W = laidMet Tryz.prog Rows.kindsValidRow.laid W := by
  unfold laidMetH
  rw [show (Rows.kindsValidRow.laid.filter fun x => x.2.handleName?.isSome) = [] from by kernel_rfl]
theorem laid_at (os : Os) (args : Array Value) : laidMetH Tryz.prog Rows.kindsValidRow.laid ((World.laidAll Tryz.prog os Rows.kindsValidRow.laid).forCall (fun _ _ => 0) ⟨#[], args, []⟩).memory := by
  rw [nohandle]
  exact laidMet_laidAll args (by kernel_rfl) (by kernel_rfl)

set_option maxRecDepth 100000 in
theorem lifted (hall : ∀ k : Int, callL (prgOf fns hks) 7 [.d (.int .i64 k)] [] = some (.d (.bool true), [], [])) (os : Os) (started : os.Started) (H : Type) (enc : TypeId × Value → H) :
    ReturnsInHanded {} Tryz.checked os 7 .any (fun w args => (Rows.kindsValidSpec.pre enc Tryz.prog Tryz.f7 [] false w args ∧ laidMetH Tryz.prog Rows.kindsValidRow.laid w) ∧ sizedMet enc Tryz.prog Tryz.f7 (OpenSpec.ofChange Rows.kindsValidSpec) false w args)
      (Rows.kindsValidSpec.post enc Tryz.prog Tryz.f7 false true false false) := by
  refine returnsInHanded_of_change_and (C := Tryz.checked) (X := fun w _ => laidMetH Tryz.prog Rows.kindsValidRow.laid w) (fun _ _ _ hh h => h.of_heap hh) own started (by kernel_rfl) Tryz.func7
    (ChangeSpec.witness_at (enc := enc) (C := Tryz.checked) (os := os) (X := fun w _ => laidMetH Tryz.prog Rows.kindsValidRow.laid w) false (World.laidAll Tryz.prog os Rows.kindsValidRow.laid) #[.int .i64 0] 8 (World.laidAll_os _ _ _) (by kernel_rfl) (by kernel_rfl) (by kernel_rfl) (by kernel_rfl) (by kernel_rfl) (laid_at os _)) ?_
  intro W base args ds gs before hval0 hW hcnd _ hL _
  have hval : ∀ (j : Nat) t v, Tryz.f7.params[j]? = some t → args[j]? = some v → Value.okWide Tryz.prog W .any base t v := hval0
  have hW' := hW
  obtain ⟨p, q, hA0, hV, rfl, hfz, hnd⟩ := hW
  have hA : DataW.TrodAll enc Tryz.prog W 0 (fun _ => true) true Tryz.f7.params.toList args.toList ds p := hA0
  rw [Tryz.params7] at hA hval
  obtain ⟨v0, vs0, d0, ds0, p0, q0, hargs, rfl, rfl, h0, r0⟩ := trodAll_cons hA
  obtain ⟨rfl, rfl, rfl⟩ := trodAll_nil r0
  obtain rfl : args = #[v0] := by cases args; simp_all
  obtain ⟨rfl, rfl⟩ := trodVars_none hV
  obtain ⟨a0, rfl, rfl, rfl, w0⟩ := open_int Tryz.underlying3 (hval 0 3 v0 rfl rfl) h0
  clear hA0 hval0
  simp only [List.append_nil] at hW'
  refine (walk hall a0 W).mono fun e W' ⟨he, hb⟩ => ?_
  subst he
  refine ⟨_, rfl, _, _, _, [], [], [], hW', ?_, ?_, ?_, hb.frame _, fun h => by cases h⟩
  · exact trodAll_cons_mk (shut_bool Tryz.underlying4 _) trodAll_mk0
  · exact trodAll_cons_mk (shut_int Tryz.underlying3 w0) trodAll_mk0
  · rfl
theorem andI {a b : Bool} (ha : a = true) (hb : b = true) : (a && b) = true := by rw [ha, hb]; rfl
set_option maxHeartbeats 4000000 in
theorem closed : joinedFacts Tryz.pinned.checked.prog 7 Tryz.f7 Rows.kindsValidSpec Rows.kindsValidRow = true := by
  unfold joinedFacts
  iterate 31 (refine andI ?_ ?_; rotate_left; (as_aux_lemma => kernel_rfl))
  as_aux_lemma => kernel_rfl
theorem hall (k : Int) : callL (prgOf fns hks) 7 [.d (.int .i64 k)] [] = some (.d (.bool true), [], []) := by
  cases k with
  | negSucc m => exact kneg m
  | ofNat m =>
    match m with
    | 0 => exact k1747
    | 1 => exact k1818
    | 2 => exact k1962
    | 3 => exact k2321
    | 4 => exact k2428
    | 5 => exact k2450
    | 6 => exact k2489
    | 7 => exact k2569
    | 8 => exact k2865
    | 9 => exact k3005
    | 10 => exact k3044
    | 11 => exact k3081
    | 12 => exact k3132
    | 13 => exact k3167
    | m + 14 => exact kbig (Int.ofNat (m + 14)) (by simp only [Int.ofNat_eq_natCast]; omega)
theorem named : Tryz.pinned.checked.prog.funcNamed Rows.kindsValidRow.func = some 7 := by kernel_rfl
theorem isInst : Tryz.f7.isInstance Tryz.pinned.checked.prog Rows.kindsValidRow.origin Rows.kindsValidRow.targs := of_decide_eq_true (by kernel_rfl)
theorem isWrap : Tryz.f7.isWrapper Tryz.pinned.checked.prog Rows.kindsValidRow.wrapper Rows.kindsValidRow.mainSum := by
  unfold Func.isWrapper; first | (rw [if_pos (by decide +kernel)]; kernel_rfl) | (rw [if_neg (by decide +kernel)]; exact ⟨rfl, rfl⟩)
theorem over (hall : ∀ k : Int, callL (prgOf fns hks) 7 [.d (.int .i64 k)] [] = some (.d (.bool true), [], [])) : Rows.KindsValidSaid :=
  OpenClaim.holds_of_wide 7 Tryz.f7 rfl rfl rfl rfl rfl rfl rfl ⟨rfl, rfl, rfl, rfl, rfl⟩ rfl rfl rfl rfl rfl named Tryz.func7 closed isInst isWrap
    (fun os started H enc _ => lifted hall os started H enc)
theorem proved : Rows.KindsValidSaid := over hall
#print axioms proved
end Go.Proofs.YtajaenkdllfidaaGreatDoor.kindsValid
