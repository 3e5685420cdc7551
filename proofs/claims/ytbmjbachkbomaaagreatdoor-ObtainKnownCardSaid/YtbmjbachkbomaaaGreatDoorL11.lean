/- Known calls, layer 11: what they come to, reckoned by the kernel. No conditions. -/
import Derived.Test.YtbmjbachkbomaaaGreatDoorL10
/- Known calls, layer 11, part 0: what they come to, reckoned by the kernel. Conditions: none. -/
set_option linter.unusedVariables false
set_option maxRecDepth 100000
namespace Go.Proofs.YtbmjbachkbomaaaGreatDoor
open Go Go.Ev Go.RowKit
def T11_0 : Table := [
  (22, [
    ([(.agg [(.str []), (.int .i64 (0)), (.int .i64 (0)), (.int .i64 (0)), (.int .i64 (0)), (.str [100]), (.lst false [(.str (unb 6 0x65696b6f6f43))])]), (.agg [(.str (unb 4 0x70747468)), (.str [104]), (.int .i64 (81)), (.str [47,97]), (.str [98]), (.bool true)]), (.lst false [(.agg [(.str (unb 6 0x65696b6f6f63)), (.str [120])])]), (.lst true [])], (.str (unb 93 0x0a0d0a0d78203a65696b6f6f430a0d22302e312f49534520302e312f657461676f72727553223d64203a7974696c6962617061432d657461676f727275530a0d31383a68203a74736f480a0d312e312f5054544820623f612f20544547))),
    ([(.agg [(.str []), (.int .i64 (0)), (.int .i64 (0)), (.int .i64 (0)), (.int .i64 (0)), (.str [100]), (.lst false [(.str (unb 6 0x65696b6f6f43))])]), (.agg [(.str (unb 4 0x70747468)), (.str [104]), (.int .i64 (81)), (.str [47,97]), (.str [98]), (.bool true)]), (.lst false [(.agg [(.str (unb 6 0x65696b6f6f63)), (.str [120])])]), (.lst false [(.agg [(.str (unb 13 0x686374614d2d656e6f4e2d6649)), (.str [34,97,34])])])], (.str (unb 113 0x0a0d0a0d226122203a686374614d2d656e6f4e2d66490a0d78203a65696b6f6f430a0d22302e312f49534520302e312f657461676f72727553223d64203a7974696c6962617061432d657461676f727275530a0d31383a68203a74736f480a0d312e312f5054544820623f612f20544547))),
    ([(.agg [(.str []), (.int .i64 (0)), (.int .i64 (0)), (.int .i64 (0)), (.int .i64 (0)), (.str [100]), (.lst false [(.str (unb 6 0x65696b6f6f43))])]), (.agg [(.str (unb 4 0x70747468)), (.str [104]), (.int .i64 (81)), (.str [47,97]), (.str [98]), (.bool true)]), (.lst true []), (.lst true [])], (.str (unb 82 0x0a0d0a0d22302e312f49534520302e312f657461676f72727553223d64203a7974696c6962617061432d657461676f727275530a0d31383a68203a74736f480a0d312e312f5054544820623f612f20544547)))]),
  (33, [
    ([(.str [71,69,84]), (.lst false [(.agg [(.str (unb 6 0x65696b6f6f63)), (.str [120])])]), (.agg [(.int .i64 (200)), (.str [79,75]), (.int .i64 (1)), (.lst false [(.agg [(.str (unb 13 0x6c6f72746e6f432d6568636143)), (.str (unb 9 0x393d6567612d78616d))])]), (.str [121]), (.int .i64 (100)), (.int .i64 (100)), (.lst true [])]), (.str [100])], (.bool true)),
    ([(.str [71,69,84]), (.lst false [(.agg [(.str (unb 6 0x65696b6f6f63)), (.str [120])])]), (.agg [(.int .i64 (200)), (.str [79,75]), (.int .i64 (1)), (.lst false [(.agg [(.str (unb 4 0x67615445)), (.str [34,97,34])]), (.agg [(.str (unb 13 0x6c6f72746e6f432d6568636143)), (.str (unb 9 0x323d6567612d78616d))]), (.agg [(.str (unb 4 0x79726156)), (.str (unb 6 0x65696b6f6f43))])]), (.str [122]), (.int .i64 (115)), (.int .i64 (115)), (.lst false [(.agg [(.str (unb 6 0x65696b6f6f63)), (.str [120])])])]), (.str [100])], (.bool true)),
    ([(.str [71,69,84]), (.lst false [(.agg [(.str (unb 6 0x65696b6f6f63)), (.str [120])])]), (.agg [(.int .i64 (200)), (.str [79,75]), (.int .i64 (1)), (.lst false [(.agg [(.str (unb 4 0x67615445)), (.str [34,97,34])]), (.agg [(.str (unb 4 0x79726156)), (.str (unb 6 0x65696b6f6f43))]), (.agg [(.str (unb 13 0x6c6f72746e6f432d6568636143)), (.str (unb 9 0x373d6567612d78616d))])]), (.str [122]), (.int .i64 (120)), (.int .i64 (120)), (.lst false [(.agg [(.str (unb 6 0x65696b6f6f63)), (.str [120])])])]), (.str [100])], (.bool true)),
    ([(.str [71,69,84]), (.lst false [(.agg [(.str (unb 6 0x65696b6f6f63)), (.str [120])])]), (.agg [(.int .i64 (200)), (.str [79,75]), (.int .i64 (1)), (.lst false [(.agg [(.str (unb 13 0x6c6f72746e6f432d6568636143)), (.str (unb 8 0x65726f74732d6f6e))])]), (.str [119]), (.int .i64 (130)), (.int .i64 (130)), (.lst true [])]), (.str [100])], (.bool false))]),
  (126, [
    ([(.agg [(.int .i64 (200)), (.str [79,75]), (.int .i64 (1)), (.lst false [(.agg [(.str (unb 17 0x6c6f72746e6f432d657461676f72727553)), (.str (unb 30 0x22302e312f495345223d746e65746e6f63202c352b393d6567612d78616d))]), (.agg [(.str [88,45,66]), (.str [50])])]), (.str [121]), (.int .i64 (100)), (.int .i64 (100)), (.lst true [])]), (.str [100])], (.tup [(.int .i64 (9)), (.bool true)]))]),
  (84, [
    ([(.agg [(.int .i64 (200)), (.str [79,75]), (.int .i64 (1)), (.lst false [(.agg [(.str (unb 17 0x6c6f72746e6f432d657461676f72727553)), (.str (unb 30 0x22302e312f495345223d746e65746e6f63202c352b393d6567612d78616d))]), (.agg [(.str [88,45,66]), (.str [50])])]), (.str [121]), (.int .i64 (100)), (.int .i64 (100)), (.lst true [])]), (.str [100])], (.int .i64 (5)))])]
theorem T11_0_ok : tableF C10 1000000 T11_0 = true := by kernel_rfl
end Go.Proofs.YtbmjbachkbomaaaGreatDoor
/- Layer 11 of the known calls. Conditions: none. -/
set_option linter.unusedVariables false
set_option maxRecDepth 100000
namespace Go.Proofs.YtbmjbachkbomaaaGreatDoor
open Go Go.Ev Go.RowKit
noncomputable def C11 : Ctx := withMemo C10 T11_0
theorem ok11 : CtxOk C11 := withMemo_ok ok10 (tableF_ok ok10 T11_0_ok)
end Go.Proofs.YtbmjbachkbomaaaGreatDoor
