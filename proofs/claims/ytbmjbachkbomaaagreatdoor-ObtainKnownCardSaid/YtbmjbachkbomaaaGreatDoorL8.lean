/- Known calls, layer 8: what they come to, reckoned by the kernel. No conditions. -/
import Derived.Test.YtbmjbachkbomaaaGreatDoorL7
/- Known calls, layer 8, part 0: what they come to, reckoned by the kernel. Conditions: none. -/
set_option linter.unusedVariables false
set_option maxRecDepth 100000
namespace Go.Proofs.YtbmjbachkbomaaaGreatDoor
open Go Go.Ev Go.RowKit
def T8_0 : Table := [
  (42, [
    ([(.agg [(.str (unb 4 0x70747468)), (.str [104]), (.int .i64 (81)), (.str [47,97]), (.str [98]), (.bool true)])], (.str (unb 15 0x623f612f31383a682f2f3a70747468)))]),
  (203, [
    ([(.lst false [(.agg [(.str (unb 4 0x74736f48)), (.str (unb 4 0x31383a68))]), (.agg [(.str (unb 20 0x7974696c6962617061432d657461676f72727553)), (.str (unb 25 0x22302e312f49534520302e312f657461676f72727553223d64))]), (.agg [(.str (unb 6 0x65696b6f6f43)), (.str [120])])])], (.str (unb 72 0x0a0d78203a65696b6f6f430a0d22302e312f49534520302e312f657461676f72727553223d64203a7974696c6962617061432d657461676f727275530a0d31383a68203a74736f48))),
    ([(.lst false [(.agg [(.str (unb 4 0x74736f48)), (.str (unb 4 0x31383a68))]), (.agg [(.str (unb 20 0x7974696c6962617061432d657461676f72727553)), (.str (unb 25 0x22302e312f49534520302e312f657461676f72727553223d64))]), (.agg [(.str (unb 6 0x65696b6f6f43)), (.str [120])]), (.agg [(.str (unb 13 0x686374614d2d656e6f4e2d6649)), (.str [34,97,34])])])], (.str (unb 92 0x0a0d226122203a686374614d2d656e6f4e2d66490a0d78203a65696b6f6f430a0d22302e312f49534520302e312f657461676f72727553223d64203a7974696c6962617061432d657461676f727275530a0d31383a68203a74736f48))),
    ([(.lst false [(.agg [(.str (unb 4 0x74736f48)), (.str (unb 4 0x31383a68))]), (.agg [(.str (unb 20 0x7974696c6962617061432d657461676f72727553)), (.str (unb 25 0x22302e312f49534520302e312f657461676f72727553223d64))])])], (.str (unb 61 0x0a0d22302e312f49534520302e312f657461676f72727553223d64203a7974696c6962617061432d657461676f727275530a0d31383a68203a74736f48)))]),
  (155, [
    ([(.lst false [(.agg [(.str (unb 13 0x6c6f72746e6f432d6568636143)), (.str (unb 9 0x393d6567612d78616d))]), (.agg [(.str (unb 14 0x6874676e654c2d746e65746e6f43)), (.str [49])])]), (.int .i64 (3))], (.tup [(.agg [(.int .i64 (1)), (.int .i64 (1))]), (.int .i64 (0))]))]),
  (159, [
    ([(.lst false [(.str (unb 8 0x65726f74732d6f6e)), (.str (unb 7 0x65746176697270))]), (.func 174 [] [(.fptr [(.lst false [(.agg [(.str (unb 7 0x6567612d78616d)), (.str [57]), (.bool true), (.str [])])])])])], (.bool false)),
    ([(.lst false [(.str (unb 8 0x65726f74732d6f6e)), (.str (unb 7 0x65746176697270))]), (.func 174 [] [(.fptr [(.lst false [(.agg [(.str (unb 7 0x6567612d78616d)), (.str [50]), (.bool true), (.str [])])])])])], (.bool false)),
    ([(.lst false [(.str (unb 8 0x65726f74732d6f6e)), (.str (unb 7 0x65746176697270))]), (.func 174 [] [(.fptr [(.lst false [(.agg [(.str (unb 7 0x6567612d78616d)), (.str [55]), (.bool true), (.str [])])])])])], (.bool false)),
    ([(.lst false [(.str (unb 8 0x65726f74732d6f6e)), (.str (unb 7 0x65746176697270))]), (.func 174 [] [(.fptr [(.lst false [(.agg [(.str (unb 8 0x65726f74732d6f6e)), (.str []), (.bool false), (.str [])])])])])], (.bool true))]),
  (51, [
    ([(.agg [(.int .i64 (200)), (.str [79,75]), (.int .i64 (1)), (.lst false [(.agg [(.str (unb 13 0x6c6f72746e6f432d6568636143)), (.str (unb 9 0x393d6567612d78616d))])]), (.str [121]), (.int .i64 (100)), (.int .i64 (100)), (.lst true [])]), (.str [100])], (.int .i64 (9))),
    ([(.agg [(.int .i64 (200)), (.str [79,75]), (.int .i64 (1)), (.lst false [(.agg [(.str (unb 4 0x67615445)), (.str [34,97,34])]), (.agg [(.str (unb 13 0x6c6f72746e6f432d6568636143)), (.str (unb 9 0x323d6567612d78616d))]), (.agg [(.str (unb 4 0x79726156)), (.str (unb 6 0x65696b6f6f43))])]), (.str [122]), (.int .i64 (115)), (.int .i64 (115)), (.lst false [(.agg [(.str (unb 6 0x65696b6f6f63)), (.str [120])])])]), (.str [100])], (.int .i64 (2))),
    ([(.agg [(.int .i64 (200)), (.str [79,75]), (.int .i64 (1)), (.lst false [(.agg [(.str (unb 4 0x67615445)), (.str [34,97,34])]), (.agg [(.str (unb 4 0x79726156)), (.str (unb 6 0x65696b6f6f43))]), (.agg [(.str (unb 13 0x6c6f72746e6f432d6568636143)), (.str (unb 9 0x373d6567612d78616d))])]), (.str [122]), (.int .i64 (120)), (.int .i64 (120)), (.lst false [(.agg [(.str (unb 6 0x65696b6f6f63)), (.str [120])])])]), (.str [100])], (.int .i64 (7)))]),
  (24, [
    ([(.str (unb 104 0x790a0d0a0d32203a422d580a0d31203a412d580a0d412d58203a6e6f697463656e6e6f430a0d22302e312f495345223d746e65746e6f63202c352b393d6567612d78616d203a6c6f72746e6f432d657461676f727275530a0d4b4f2030303220312e312f50545448)), (.bool false)], (.tup [(.agg [(.int .i64 (200)), (.str [79,75]), (.int .i64 (1)), (.lst false [(.agg [(.str (unb 17 0x6c6f72746e6f432d657461676f72727553)), (.str (unb 30 0x22302e312f495345223d746e65746e6f63202c352b393d6567612d78616d))]), (.agg [(.str (unb 10 0x6e6f697463656e6e6f43)), (.str [88,45,65])]), (.agg [(.str [88,45,65]), (.str [49])]), (.agg [(.str [88,45,66]), (.str [50])])]), (.str [121])]), (.int .i64 (104)), (.int .i64 (0))])),
    ([(.str (unb 71 0x7a0a0d0a0d65696b6f6f43203a797261560a0d323d6567612d78616d203a6c6f72746e6f432d65686361430a0d226122203a676154450a0d4b4f2030303220312e312f50545448)), (.bool false)], (.tup [(.agg [(.int .i64 (200)), (.str [79,75]), (.int .i64 (1)), (.lst false [(.agg [(.str (unb 4 0x67615445)), (.str [34,97,34])]), (.agg [(.str (unb 13 0x6c6f72746e6f432d6568636143)), (.str (unb 9 0x323d6567612d78616d))]), (.agg [(.str (unb 4 0x79726156)), (.str (unb 6 0x65696b6f6f43))])]), (.str [122])]), (.int .i64 (71)), (.int .i64 (0))])),
    ([(.str (unb 44 0x0a0d0a0d373d6567612d78616d203a6c6f72746e6f432d65686361430a0d782034303320312e312f50545448)), (.bool false)], (.tup [(.agg [(.int .i64 (304)), (.str [120]), (.int .i64 (1)), (.lst false [(.agg [(.str (unb 13 0x6c6f72746e6f432d6568636143)), (.str (unb 9 0x373d6567612d78616d))])]), (.str [])]), (.int .i64 (44)), (.int .i64 (0))])),
    ([(.str (unb 45 0x770a0d0a0d65726f74732d6f6e203a6c6f72746e6f432d65686361430a0d4b4f2030303220312e312f50545448)), (.bool false)], (.tup [(.agg [(.int .i64 (200)), (.str [79,75]), (.int .i64 (1)), (.lst false [(.agg [(.str (unb 13 0x6c6f72746e6f432d6568636143)), (.str (unb 8 0x65726f74732d6f6e))])]), (.str [119])]), (.int .i64 (45)), (.int .i64 (0))]))]),
  (170, [
    ([(.lst false [(.str (unb 30 0x22302e312f495345223d746e65746e6f63202c352b393d6567612d78616d))])], (.lst false [(.agg [(.str (unb 7 0x6567612d78616d)), (.str [57,43,53]), (.bool true), (.str [])]), (.agg [(.str (unb 7 0x746e65746e6f63)), (.str (unb 7 0x302e312f495345)), (.bool true), (.str [])])]))])]
theorem T8_0_ok : tableF C7 1000000 T8_0 = true := by kernel_rfl
end Go.Proofs.YtbmjbachkbomaaaGreatDoor
/- Layer 8 of the known calls. Conditions: none. -/
set_option linter.unusedVariables false
set_option maxRecDepth 100000
namespace Go.Proofs.YtbmjbachkbomaaaGreatDoor
open Go Go.Ev Go.RowKit
noncomputable def C8 : Ctx := withMemo C7 T8_0
theorem ok8 : CtxOk C8 := withMemo_ok ok7 (tableF_ok ok7 T8_0_ok)
end Go.Proofs.YtbmjbachkbomaaaGreatDoor
