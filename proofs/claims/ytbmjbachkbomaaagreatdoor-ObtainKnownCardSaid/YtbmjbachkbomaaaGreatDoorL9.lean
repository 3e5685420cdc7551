/- Known calls, layer 9: what they come to, reckoned by the kernel. No conditions. -/
import Derived.Test.YtbmjbachkbomaaaGreatDoorL8
/- Known calls, layer 9, part 0: what they come to, reckoned by the kernel. Conditions: none. -/
set_option linter.unusedVariables false
set_option maxRecDepth 100000
namespace Go.Proofs.YtbmjbachkbomaaaGreatDoor
open Go Go.Ev Go.RowKit
def T9_0 : Table := [
  (18, [
    ([(.str [71,69,84]), (.agg [(.str (unb 4 0x70747468)), (.str [104]), (.int .i64 (81)), (.str [47,97]), (.str [98]), (.bool true)])], (.str (unb 15 0x623f612f31383a682f2f3a70747468)))]),
  (143, [
    ([(.str (unb 17 0x312e312f5054544820623f612f20544547)), (.lst false [(.agg [(.str (unb 4 0x74736f48)), (.str (unb 4 0x31383a68))]), (.agg [(.str (unb 20 0x7974696c6962617061432d657461676f72727553)), (.str (unb 25 0x22302e312f49534520302e312f657461676f72727553223d64))]), (.agg [(.str (unb 6 0x65696b6f6f43)), (.str [120])])]), (.int .i64 (-1)), (.str [])], (.tup [(.str (unb 93 0x0a0d0a0d78203a65696b6f6f430a0d22302e312f49534520302e312f657461676f72727553223d64203a7974696c6962617061432d657461676f727275530a0d31383a68203a74736f480a0d312e312f5054544820623f612f20544547)), (.int .i64 (0))])),
    ([(.str (unb 17 0x312e312f5054544820623f612f20544547)), (.lst false [(.agg [(.str (unb 4 0x74736f48)), (.str (unb 4 0x31383a68))]), (.agg [(.str (unb 20 0x7974696c6962617061432d657461676f72727553)), (.str (unb 25 0x22302e312f49534520302e312f657461676f72727553223d64))]), (.agg [(.str (unb 6 0x65696b6f6f43)), (.str [120])]), (.agg [(.str (unb 13 0x686374614d2d656e6f4e2d6649)), (.str [34,97,34])])]), (.int .i64 (-1)), (.str [])], (.tup [(.str (unb 113 0x0a0d0a0d226122203a686374614d2d656e6f4e2d66490a0d78203a65696b6f6f430a0d22302e312f49534520302e312f657461676f72727553223d64203a7974696c6962617061432d657461676f727275530a0d31383a68203a74736f480a0d312e312f5054544820623f612f20544547)), (.int .i64 (0))])),
    ([(.str (unb 17 0x312e312f5054544820623f612f20544547)), (.lst false [(.agg [(.str (unb 4 0x74736f48)), (.str (unb 4 0x31383a68))]), (.agg [(.str (unb 20 0x7974696c6962617061432d657461676f72727553)), (.str (unb 25 0x22302e312f49534520302e312f657461676f72727553223d64))])]), (.int .i64 (-1)), (.str [])], (.tup [(.str (unb 82 0x0a0d0a0d22302e312f49534520302e312f657461676f72727553223d64203a7974696c6962617061432d657461676f727275530a0d31383a68203a74736f480a0d312e312f5054544820623f612f20544547)), (.int .i64 (0))]))]),
  (72, [
    ([(.lst false [(.agg [(.str (unb 13 0x6c6f72746e6f432d6568636143)), (.str (unb 9 0x393d6567612d78616d))]), (.agg [(.str (unb 14 0x6874676e654c2d746e65746e6f43)), (.str [49])])]), (.int .i64 (200)), (.bool false)], (.tup [(.agg [(.int .i64 (1)), (.int .i64 (1))]), (.int .i64 (0))]))]),
  (91, [
    ([(.lst false [(.agg [(.str (unb 7 0x6567612d78616d)), (.str [57]), (.bool true), (.str [])])]), (.lst false [(.str (unb 8 0x65726f74732d6f6e)), (.str (unb 7 0x65746176697270))])], (.bool false)),
    ([(.lst false [(.agg [(.str (unb 7 0x6567612d78616d)), (.str [50]), (.bool true), (.str [])])]), (.lst false [(.str (unb 8 0x65726f74732d6f6e)), (.str (unb 7 0x65746176697270))])], (.bool false)),
    ([(.lst false [(.agg [(.str (unb 7 0x6567612d78616d)), (.str [55]), (.bool true), (.str [])])]), (.lst false [(.str (unb 8 0x65726f74732d6f6e)), (.str (unb 7 0x65746176697270))])], (.bool false)),
    ([(.lst false [(.agg [(.str (unb 8 0x65726f74732d6f6e)), (.str []), (.bool false), (.str [])])]), (.lst false [(.str (unb 8 0x65726f74732d6f6e)), (.str (unb 7 0x65746176697270))])], (.bool true))]),
  (94, [
    ([(.fptr [(.int .i64 (200)), (.str [79,75]), (.int .i64 (1)), (.lst false [(.agg [(.str (unb 13 0x6c6f72746e6f432d6568636143)), (.str (unb 9 0x393d6567612d78616d))])]), (.str [121]), (.int .i64 (100)), (.int .i64 (100)), (.lst true [])]), (.fptr [(.str [100])])], (.bool true)),
    ([(.fptr [(.int .i64 (200)), (.str [79,75]), (.int .i64 (1)), (.lst false [(.agg [(.str (unb 4 0x67615445)), (.str [34,97,34])]), (.agg [(.str (unb 13 0x6c6f72746e6f432d6568636143)), (.str (unb 9 0x323d6567612d78616d))]), (.agg [(.str (unb 4 0x79726156)), (.str (unb 6 0x65696b6f6f43))])]), (.str [122]), (.int .i64 (115)), (.int .i64 (115)), (.lst false [(.agg [(.str (unb 6 0x65696b6f6f63)), (.str [120])])])]), (.fptr [(.str [100])])], (.bool true)),
    ([(.fptr [(.int .i64 (200)), (.str [79,75]), (.int .i64 (1)), (.lst false [(.agg [(.str (unb 4 0x67615445)), (.str [34,97,34])]), (.agg [(.str (unb 4 0x79726156)), (.str (unb 6 0x65696b6f6f43))]), (.agg [(.str (unb 13 0x6c6f72746e6f432d6568636143)), (.str (unb 9 0x373d6567612d78616d))])]), (.str [122]), (.int .i64 (120)), (.int .i64 (120)), (.lst false [(.agg [(.str (unb 6 0x65696b6f6f63)), (.str [120])])])]), (.fptr [(.str [100])])], (.bool true))]),
  (20, [
    ([(.agg [(.int .i64 (200)), (.str [79,75]), (.int .i64 (1)), (.lst false [(.agg [(.str (unb 13 0x6c6f72746e6f432d6568636143)), (.str (unb 9 0x393d6567612d78616d))])]), (.str [121]), (.int .i64 (100)), (.int .i64 (100)), (.lst true [])]), (.int .i64 (105)), (.str [100])], (.bool true)),
    ([(.agg [(.int .i64 (200)), (.str [79,75]), (.int .i64 (1)), (.lst false [(.agg [(.str (unb 13 0x6c6f72746e6f432d6568636143)), (.str (unb 9 0x393d6567612d78616d))])]), (.str [121]), (.int .i64 (100)), (.int .i64 (100)), (.lst true [])]), (.int .i64 (109)), (.str [100])], (.bool false)),
    ([(.agg [(.int .i64 (200)), (.str [79,75]), (.int .i64 (1)), (.lst false [(.agg [(.str (unb 4 0x67615445)), (.str [34,97,34])]), (.agg [(.str (unb 13 0x6c6f72746e6f432d6568636143)), (.str (unb 9 0x323d6567612d78616d))]), (.agg [(.str (unb 4 0x79726156)), (.str (unb 6 0x65696b6f6f43))])]), (.str [122]), (.int .i64 (115)), (.int .i64 (115)), (.lst false [(.agg [(.str (unb 6 0x65696b6f6f63)), (.str [120])])])]), (.int .i64 (120)), (.str [100])], (.bool false)),
    ([(.agg [(.int .i64 (200)), (.str [79,75]), (.int .i64 (1)), (.lst false [(.agg [(.str (unb 4 0x67615445)), (.str [34,97,34])]), (.agg [(.str (unb 4 0x79726156)), (.str (unb 6 0x65696b6f6f43))]), (.agg [(.str (unb 13 0x6c6f72746e6f432d6568636143)), (.str (unb 9 0x373d6567612d78616d))])]), (.str [122]), (.int .i64 (120)), (.int .i64 (120)), (.lst false [(.agg [(.str (unb 6 0x65696b6f6f63)), (.str [120])])])]), (.int .i64 (126)), (.str [100])], (.bool true)),
    ([(.agg [(.int .i64 (200)), (.str [79,75]), (.int .i64 (1)), (.lst false [(.agg [(.str (unb 4 0x67615445)), (.str [34,97,34])]), (.agg [(.str (unb 4 0x79726156)), (.str (unb 6 0x65696b6f6f43))]), (.agg [(.str (unb 13 0x6c6f72746e6f432d6568636143)), (.str (unb 9 0x373d6567612d78616d))])]), (.str [122]), (.int .i64 (120)), (.int .i64 (120)), (.lst false [(.agg [(.str (unb 6 0x65696b6f6f63)), (.str [120])])])]), (.int .i64 (130)), (.str [100])], (.bool false))]),
  (86, [
    ([(.lst false [(.str (unb 30 0x22302e312f495345223d746e65746e6f63202c352b393d6567612d78616d))]), (.str [100])], (.agg [(.bool false), (.bool false), (.bool true), (.bool true), (.int .i64 (9)), (.int .i64 (5))]))])]
theorem T9_0_ok : tableF C8 1000000 T9_0 = true := by kernel_rfl
end Go.Proofs.YtbmjbachkbomaaaGreatDoor
/- Layer 9 of the known calls. Conditions: none. -/
set_option linter.unusedVariables false
set_option maxRecDepth 100000
namespace Go.Proofs.YtbmjbachkbomaaaGreatDoor
open Go Go.Ev Go.RowKit
noncomputable def C9 : Ctx := withMemo C8 T9_0
theorem ok9 : CtxOk C9 := withMemo_ok ok8 (tableF_ok ok8 T9_0_ok)
end Go.Proofs.YtbmjbachkbomaaaGreatDoor
