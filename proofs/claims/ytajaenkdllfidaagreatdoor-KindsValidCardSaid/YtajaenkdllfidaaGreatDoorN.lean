/- Data and closed facts of this claim, written by a program; no conditions. -/
import Derived.Test.YtajaenkdllfidaaGreatDoorM0
namespace Go.K18
open Go Go.PG
def tOut : Tree (List (List V × V)) := (.node 10 [e1238] (.node 8 [e1373] .nil .nil) .nil)
theorem tOutOk : tOut.All (Fast.Known (prgOf fns hks)) := ⟨⟨k1238, trivial⟩, ⟨⟨k1373, trivial⟩, trivial, trivial⟩, trivial⟩
theorem kneg (m : Nat) : callL (prgOf fns hks) 7 [.d (.int .i64 (.negSucc m))] [] = some (.d (.bool true), [], []) := Fast.run_known (t := tOut) tOutOk (n := 3000) (by kernel_rfl)
theorem types_len : zd86.length = 14 := rfl
theorem call0 {c : CallT} {hp : Nat → Ob} {nid f : Nat} {v : D} (h : c f [] [] = some (.d v, [], [])) : evalCall c hp nid f [] = some ⟨.d v, [], []⟩ := by
  unfold evalCall
  simp [V.refsL, V.renL, reach, fuel, h, V.ren]
theorem kbig (k : Int) (hk : 14 ≤ k) : callL (prgOf fns hks) 7 [.d (.int .i64 k)] [] = some (.d (.bool true), [], []) := by
  have h10 := k1238
  have h8 := k1373
  have hneg : ¬ k < 0 := by omega
  rw [callL_eq, show (prgOf fns hks).hook 7 [.d (.int .i64 k)] [] = none from rfl, show (prgOf fns hks).fn 7 = some f7 from rfl]
  simp only
  generalize hc : callL (prgOf fns hks) = c at h10 h8 ⊢
  have c10 : ∀ hp nid, evalCall c hp nid 10 [] = some ⟨.d (.sl zd86), [], []⟩ := fun hp nid => call0 h10
  have c8 : ∀ hp nid, evalCall c hp nid 8 [] = some ⟨.d (.bool true), [], []⟩ := fun hp nid => call0 h8
  simp [runFn, f7, run_seq, run_reg, run_cond, run_ret, condV, evalReg, evalOps, opAt, evalOp, Go.PG.start, argsEnv, number, Go.PG.X.val, eget, aget_cons, aput, eputO, St.step, pureD, binD, putAll, addDirty, adel, stepNid, c10, c8, hneg, types_len, hk, finish, rvVals, rvVal, frzL, frz, deads, V.refsL, V.refs, reach, fuel, retV, V.renL, V.ren]
end Go.K18
