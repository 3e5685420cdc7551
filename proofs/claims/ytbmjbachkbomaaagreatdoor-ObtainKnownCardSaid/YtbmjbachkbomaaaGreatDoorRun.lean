/- The law's own run, reckoned by the kernel. No conditions. -/
import Derived.Test.YtbmjbachkbomaaaGreatDoorL14
/- The law's own run. Conditions: none. -/
set_option linter.unusedVariables false
set_option maxRecDepth 100000
namespace Go.Proofs.YtbmjbachkbomaaaGreatDoor
open Go Go.Ev Go.RowKit
theorem run_true : lawF C14 1000000 3 = true := by kernel_rfl
theorem law_calls (w : World) (hg : GlobOk w.heap.size (fun _ _ => True) w) : Calls Tryz.prog 3 #[] w fun e w2 => e = .returned (.bool true) ∧ Below w.heap.size w w2 :=
  lawF_runs ok14 run_true w hg
end Go.Proofs.YtbmjbachkbomaaaGreatDoor
