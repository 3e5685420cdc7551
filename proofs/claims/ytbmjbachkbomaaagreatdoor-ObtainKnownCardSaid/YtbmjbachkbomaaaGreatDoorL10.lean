/- Known calls, layer 10: what they come to, reckoned by the kernel. No conditions. -/
import Derived.Test.YtbmjbachkbomaaaGreatDoorL9
/- Known calls, layer 10, part 0: what they come to, reckoned by the kernel. Conditions: none. -/
set_option linter.unusedVariables false
set_option maxRecDepth 100000
namespace Go.Proofs.YtbmjbachkbomaaaGreatDoor
open Go Go.Ev Go.RowKit
def T10_0 : Table := [
  (62, [
    ([(.agg [(.str [71,69,84]), (.str (unb 4 0x623f612f)), (.int .i64 (1)), (.lst false [(.agg [(.str (unb 4 0x74736f48)), (.str (unb 4 0x31383a68))]), (.agg [(.str (unb 20 0x7974696c6962617061432d657461676f72727553)), (.str (unb 25 0x22302e312f49534520302e312f657461676f72727553223d64))]), (.agg [(.str (unb 6 0x65696b6f6f43)), (.str [120])])]), (.str [])])], (.tup [(.str (unb 93 0x0a0d0a0d78203a65696b6f6f430a0d22302e312f49534520302e312f657461676f72727553223d64203a7974696c6962617061432d657461676f727275530a0d31383a68203a74736f480a0d312e312f5054544820623f612f20544547)), (.int .i64 (0))])),
    ([(.agg [(.str [71,69,84]), (.str (unb 4 0x623f612f)), (.int .i64 (1)), (.lst false [(.agg [(.str (unb 4 0x74736f48)), (.str (unb 4 0x31383a68))]), (.agg [(.str (unb 20 0x7974696c6962617061432d657461676f72727553)), (.str (unb 25 0x22302e312f49534520302e312f657461676f72727553223d64))]), (.agg [(.str (unb 6 0x65696b6f6f43)), (.str [120])]), (.agg [(.str (unb 13 0x686374614d2d656e6f4e2d6649)), (.str [34,97,34])])]), (.str [])])], (.tup [(.str (unb 113 0x0a0d0a0d226122203a686374614d2d656e6f4e2d66490a0d78203a65696b6f6f430a0d22302e312f49534520302e312f657461676f72727553223d64203a7974696c6962617061432d657461676f727275530a0d31383a68203a74736f480a0d312e312f5054544820623f612f20544547)), (.int .i64 (0))])),
    ([(.agg [(.str [71,69,84]), (.str (unb 4 0x623f612f)), (.int .i64 (1)), (.lst false [(.agg [(.str (unb 4 0x74736f48)), (.str (unb 4 0x31383a68))]), (.agg [(.str (unb 20 0x7974696c6962617061432d657461676f72727553)), (.str (unb 25 0x22302e312f49534520302e312f657461676f72727553223d64))])]), (.str [])])], (.tup [(.str (unb 82 0x0a0d0a0d22302e312f49534520302e312f657461676f72727553223d64203a7974696c6962617061432d657461676f727275530a0d31383a68203a74736f480a0d312e312f5054544820623f612f20544547)), (.int .i64 (0))]))]),
  (24, [
    ([(.str (unb 65 0x790a0d0a0d31203a6874676e654c2d746e65746e6f430a0d393d6567612d78616d203a6c6f72746e6f432d65686361430a0d4b4f2030303220312e312f50545448)), (.bool false)], (.tup [(.agg [(.int .i64 (200)), (.str [79,75]), (.int .i64 (1)), (.lst false [(.agg [(.str (unb 13 0x6c6f72746e6f432d6568636143)), (.str (unb 9 0x393d6567612d78616d))]), (.agg [(.str (unb 14 0x6874676e654c2d746e65746e6f43)), (.str [49])])]), (.str [121])]), (.int .i64 (65)), (.int .i64 (0))]))]),
  (90, [
    ([(.fptr [(.lst true [])]), (.fptr [(.lst false [(.agg [(.str (unb 7 0x6567612d78616d)), (.str [57]), (.bool true), (.str [])])])]), (.fptr [(.bool false), (.bool false), (.bool false), (.bool false), (.int .i64 (0)), (.int .i64 (0))])], (.bool true)),
    ([(.fptr [(.lst true [])]), (.fptr [(.lst false [(.agg [(.str (unb 7 0x6567612d78616d)), (.str [50]), (.bool true), (.str [])])])]), (.fptr [(.bool false), (.bool false), (.bool false), (.bool false), (.int .i64 (0)), (.int .i64 (0))])], (.bool true)),
    ([(.fptr [(.lst true [])]), (.fptr [(.lst false [(.agg [(.str (unb 7 0x6567612d78616d)), (.str [55]), (.bool true), (.str [])])])]), (.fptr [(.bool false), (.bool false), (.bool false), (.bool false), (.int .i64 (0)), (.int .i64 (0))])], (.bool true)),
    ([(.fptr [(.lst true [])]), (.fptr [(.lst false [(.agg [(.str (unb 8 0x65726f74732d6f6e)), (.str []), (.bool false), (.str [])])])]), (.fptr [(.bool false), (.bool false), (.bool false), (.bool false), (.int .i64 (0)), (.int .i64 (0))])], (.bool false))]),
  (168, [
    ([(.agg [(.int .i64 (200)), (.str [79,75]), (.int .i64 (1)), (.lst false [(.agg [(.str (unb 17 0x6c6f72746e6f432d657461676f72727553)), (.str (unb 30 0x22302e312f495345223d746e65746e6f63202c352b393d6567612d78616d))]), (.agg [(.str [88,45,66]), (.str [50])])]), (.str [121]), (.int .i64 (100)), (.int .i64 (100)), (.lst true [])]), (.str [100])], (.agg [(.bool false), (.bool false), (.bool true), (.bool true), (.int .i64 (9)), (.int .i64 (5))]))])]
theorem T10_0_ok : tableF C9 1000000 T10_0 = true := by kernel_rfl
end Go.Proofs.YtbmjbachkbomaaaGreatDoor
/- Layer 10 of the known calls. Conditions: none. -/
set_option linter.unusedVariables false
set_option maxRecDepth 100000
namespace Go.Proofs.YtbmjbachkbomaaaGreatDoor
open Go Go.Ev Go.RowKit
noncomputable def C10 : Ctx := withMemo C9 T10_0
theorem ok10 : CtxOk C10 := withMemo_ok ok9 (tableF_ok ok9 T10_0_ok)
end Go.Proofs.YtbmjbachkbomaaaGreatDoor
