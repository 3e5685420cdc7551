/- Known calls, layer 14: what they come to, reckoned by the kernel. No conditions. -/
import Derived.Test.YtbmjbachkbomaaaGreatDoorL13
/- Known calls, layer 14, part 0: what they come to, reckoned by the kernel. Conditions: none. -/
set_option linter.unusedVariables false
set_option maxRecDepth 100000
namespace Go.Proofs.YtbmjbachkbomaaaGreatDoor
open Go Go.Ev Go.RowKit
def T14_0 : Table := [
  (33, [
    ([(.str [71,69,84]), (.lst false [(.agg [(.str (unb 6 0x65696b6f6f63)), (.str [120])])]), (.agg [(.int .i64 (200)), (.str [79,75]), (.int .i64 (1)), (.lst false [(.agg [(.str (unb 17 0x6c6f72746e6f432d657461676f72727553)), (.str (unb 30 0x22302e312f495345223d746e65746e6f63202c352b393d6567612d78616d))]), (.agg [(.str [88,45,66]), (.str [50])])]), (.str [121]), (.int .i64 (100)), (.int .i64 (100)), (.lst true [])]), (.str [100])], (.bool true))])]
theorem T14_0_ok : tableF C13 1000000 T14_0 = true := by kernel_rfl
end Go.Proofs.YtbmjbachkbomaaaGreatDoor
/- Layer 14 of the known calls. Conditions: none. -/
set_option linter.unusedVariables false
set_option maxRecDepth 100000
namespace Go.Proofs.YtbmjbachkbomaaaGreatDoor
open Go Go.Ev Go.RowKit
noncomputable def C14 : Ctx := withMemo C13 T14_0
theorem ok14 : CtxOk C14 := withMemo_ok ok13 (tableF_ok ok13 T14_0_ok)
end Go.Proofs.YtbmjbachkbomaaaGreatDoor
