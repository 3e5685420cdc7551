/- Known calls, layer 12: what they come to, reckoned by the kernel. No conditions. -/
import Derived.Test.YtbmjbachkbomaaaGreatDoorL11
/- Known calls, layer 12, part 0: what they come to, reckoned by the kernel. Conditions: none. -/
set_option linter.unusedVariables false
set_option maxRecDepth 100000
namespace Go.Proofs.YtbmjbachkbomaaaGreatDoor
open Go Go.Ev Go.RowKit
def T12_0 : Table := [
  (4, [
    ([], (.bool true))]),
  (51, [
    ([(.agg [(.int .i64 (200)), (.str [79,75]), (.int .i64 (1)), (.lst false [(.agg [(.str (unb 17 0x6c6f72746e6f432d657461676f72727553)), (.str (unb 30 0x22302e312f495345223d746e65746e6f63202c352b393d6567612d78616d))]), (.agg [(.str [88,45,66]), (.str [50])])]), (.str [121]), (.int .i64 (100)), (.int .i64 (100)), (.lst true [])]), (.str [100])], (.int .i64 (9)))])]
theorem T12_0_ok : tableF C11 1000000 T12_0 = true := by kernel_rfl
end Go.Proofs.YtbmjbachkbomaaaGreatDoor
/- Layer 12 of the known calls. Conditions: none. -/
set_option linter.unusedVariables false
set_option maxRecDepth 100000
namespace Go.Proofs.YtbmjbachkbomaaaGreatDoor
open Go Go.Ev Go.RowKit
noncomputable def C12 : Ctx := withMemo C11 T12_0
theorem ok12 : CtxOk C12 := withMemo_ok ok11 (tableF_ok ok11 T12_0_ok)
end Go.Proofs.YtbmjbachkbomaaaGreatDoor
