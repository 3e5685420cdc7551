/- Known calls, layer 5: what they come to, reckoned by the kernel. No conditions. -/
import Derived.Test.YtbmjbachkbomaaaGreatDoorL4
/- Known calls, layer 5, part 0: what they come to, reckoned by the kernel. Conditions: none. -/
set_option linter.unusedVariables false
set_option maxRecDepth 100000
namespace Go.Proofs.YtbmjbachkbomaaaGreatDoor
open Go Go.Ev Go.RowKit
def T5_0 : Table := [
  (41, [
    ([(.agg [(.str (unb 4 0x70747468)), (.str [104]), (.int .i64 (81)), (.str [47,97]), (.str [98]), (.bool true)])], (.str (unb 15 0x623f612f31383a682f2f3a70747468)))]),
  (200, [
    ([(.str [120])], (.bool true)),
    ([(.str (unb 4 0x31383a68))], (.bool true)),
    ([(.str (unb 25 0x22302e312f49534520302e312f657461676f72727553223d64))], (.bool true)),
    ([(.str (unb 9 0x393d6567612d78616d))], (.bool true)),
    ([(.str [49])], (.bool true)),
    ([(.str (unb 30 0x22302e312f495345223d746e65746e6f63202c352b393d6567612d78616d))], (.bool true)),
    ([(.str [88,45,65])], (.bool true)),
    ([(.str [50])], (.bool true))]),
  (141, [
    ([(.str [71,69,84]), (.str (unb 4 0x623f612f)), (.int .i64 (1))], (.tup [(.str (unb 17 0x312e312f5054544820623f612f20544547)), (.int .i64 (0))]))]),
  (159, [
    ([(.lst false [(.str (unb 14 0x6874676e656c2d746e65746e6f63)), (.str (unb 17 0x676e69646f636e652d726566736e617274))]), (.func 160 [] [(.fptr [(.str (unb 4 0x74736f48)), (.str (unb 4 0x31383a68))])])], (.bool false)),
    ([(.lst false [(.str (unb 14 0x6874676e656c2d746e65746e6f63)), (.str (unb 17 0x676e69646f636e652d726566736e617274))]), (.func 160 [] [(.fptr [(.str (unb 20 0x7974696c6962617061432d657461676f72727553)), (.str (unb 25 0x22302e312f49534520302e312f657461676f72727553223d64))])])], (.bool false)),
    ([(.lst false [(.str (unb 14 0x6874676e656c2d746e65746e6f63)), (.str (unb 17 0x676e69646f636e652d726566736e617274))]), (.func 160 [] [(.fptr [(.str (unb 6 0x65696b6f6f43)), (.str [120])])])], (.bool false)),
    ([(.lst false [(.str (unb 10 0x6e6f697463656e6e6f63)), (.str (unb 10 0x6576696c612d7065656b)), (.str (unb 16 0x6e6f697463656e6e6f632d79786f7270)), (.str [116,101]), (.str (unb 7 0x72656c69617274)), (.str (unb 17 0x676e69646f636e652d726566736e617274)), (.str (unb 7 0x65646172677075)), (.str (unb 18 0x6574616369746e65687475612d79786f7270)), (.str (unb 19 0x6e6f6974617a69726f687475612d79786f7270))]), (.func 160 [] [(.fptr [(.str (unb 13 0x6c6f72746e6f432d6568636143)), (.str (unb 9 0x393d6567612d78616d))])])], (.bool false)),
    ([(.lst false [(.str (unb 10 0x6e6f697463656e6e6f63)), (.str (unb 10 0x6576696c612d7065656b)), (.str (unb 16 0x6e6f697463656e6e6f632d79786f7270)), (.str [116,101]), (.str (unb 7 0x72656c69617274)), (.str (unb 17 0x676e69646f636e652d726566736e617274)), (.str (unb 7 0x65646172677075)), (.str (unb 18 0x6574616369746e65687475612d79786f7270)), (.str (unb 19 0x6e6f6974617a69726f687475612d79786f7270))]), (.func 160 [] [(.fptr [(.str (unb 14 0x6874676e654c2d746e65746e6f43)), (.str [49])])])], (.bool false)),
    ([(.lst false [(.str (unb 14 0x6874676e656c2d746e65746e6f63))]), (.func 160 [] [(.fptr [(.str (unb 13 0x6c6f72746e6f432d6568636143)), (.str (unb 9 0x393d6567612d78616d))])])], (.bool false)),
    ([(.lst false [(.str (unb 14 0x6874676e656c2d746e65746e6f63))]), (.func 160 [] [(.fptr [(.str (unb 14 0x6874676e654c2d746e65746e6f43)), (.str [49])])])], (.bool true)),
    ([(.lst false [(.str (unb 8 0x65726f74732d6f6e))]), (.func 174 [] [(.fptr [(.lst true [])])])], (.bool false))]),
  (163, [
    ([(.str [49]), (.int .u8 (44))], (.tup [(.lst false [(.str [49])]), (.int .i64 (0))])),
    ([(.str (unb 9 0x393d6567612d78616d)), (.int .u8 (44))], (.tup [(.lst false [(.str (unb 9 0x393d6567612d78616d))]), (.int .i64 (0))]))]),
  (82, [
    ([(.lst false [(.agg [(.str (unb 7 0x6567612d78616d)), (.str [57]), (.bool true), (.str [])])]), (.str (unb 8 0x65726f74732d6f6e))], (.tup [(.agg [(.str []), (.str []), (.bool false), (.str [])]), (.bool false)])),
    ([(.lst false [(.agg [(.str (unb 7 0x6567612d78616d)), (.str [57]), (.bool true), (.str [])])]), (.str (unb 7 0x65746176697270))], (.tup [(.agg [(.str []), (.str []), (.bool false), (.str [])]), (.bool false)])),
    ([(.lst false [(.agg [(.str (unb 7 0x6567612d78616d)), (.str [57]), (.bool true), (.str [])])]), (.str (unb 8 0x65686361632d6f6e))], (.tup [(.agg [(.str []), (.str []), (.bool false), (.str [])]), (.bool false)])),
    ([(.lst false [(.agg [(.str (unb 7 0x6567612d78616d)), (.str [57]), (.bool true), (.str [])])]), (.str (unb 8 0x65676178616d2d73))], (.tup [(.agg [(.str []), (.str []), (.bool false), (.str [])]), (.bool false)])),
    ([(.lst false [(.agg [(.str (unb 7 0x6567612d78616d)), (.str [57]), (.bool true), (.str [])])]), (.str (unb 7 0x6567612d78616d))], (.tup [(.agg [(.str (unb 7 0x6567612d78616d)), (.str [57]), (.bool true), (.str [])]), (.bool true)]))]),
  (92, [
    ([(.fptr [(.int .i64 (200)), (.str [79,75]), (.int .i64 (1)), (.lst false [(.agg [(.str (unb 13 0x6c6f72746e6f432d6568636143)), (.str (unb 9 0x393d6567612d78616d))])]), (.str [121]), (.int .i64 (100)), (.int .i64 (100)), (.lst true [])])], (.bool true))]),
  (93, [
    ([(.fptr [(.lst false [(.agg [(.str (unb 6 0x65696b6f6f63)), (.str [120])])])]), (.fptr [(.lst false [(.agg [(.str (unb 7 0x6567612d78616d)), (.str [57]), (.bool true), (.str [])])])]), (.fptr [(.bool false), (.bool false), (.bool false), (.bool false), (.int .i64 (0)), (.int .i64 (0))])], (.bool true))]),
  (126, [
    ([(.agg [(.int .i64 (200)), (.str [79,75]), (.int .i64 (1)), (.lst false [(.agg [(.str (unb 13 0x6c6f72746e6f432d6568636143)), (.str (unb 9 0x393d6567612d78616d))])]), (.str [121]), (.int .i64 (100)), (.int .i64 (100)), (.lst true [])]), (.str [100])], (.tup [(.int .i64 (0)), (.bool false)]))]),
  (48, [
    ([(.str (unb 15 0x623f612f31383a682f2f3a70747468)), (.lst true [])], (.str (unb 18 0x623f612f31383a682f2f3a70747468203531)))]),
  (123, [
    ([(.agg [(.int .i64 (200)), (.str [79,75]), (.int .i64 (1)), (.lst false [(.agg [(.str (unb 13 0x6c6f72746e6f432d6568636143)), (.str (unb 9 0x393d6567612d78616d))])]), (.str [121]), (.int .i64 (100)), (.int .i64 (100)), (.lst true [])]), (.str (unb 4 0x65746164))], (.tup [(.int .i64 (0)), (.bool false)]))]),
  (21, [
    ([(.agg [(.int .i64 (200)), (.str [79,75]), (.int .i64 (1)), (.lst false [(.agg [(.str (unb 13 0x6c6f72746e6f432d6568636143)), (.str (unb 9 0x393d6567612d78616d))])]), (.str [121]), (.int .i64 (100)), (.int .i64 (100)), (.lst true [])])], (.lst true []))]),
  (24, [
    ([(.str (unb 19 0x0a0d0a0d6f4e2030303520312e312f50545448)), (.bool false)], (.tup [(.agg [(.int .i64 (500)), (.str [78,111]), (.int .i64 (1)), (.lst true []), (.str [])]), (.int .i64 (19)), (.int .i64 (0))]))])]
theorem T5_0_ok : tableF C4 1000000 T5_0 = true := by kernel_rfl
end Go.Proofs.YtbmjbachkbomaaaGreatDoor
/- Known calls, layer 5, part 1: what they come to, reckoned by the kernel. Conditions: none. -/
set_option linter.unusedVariables false
set_option maxRecDepth 100000
namespace Go.Proofs.YtbmjbachkbomaaaGreatDoor
open Go Go.Ev Go.RowKit
def T5_1 : Table := [
  (72, [
    ([(.lst false [(.agg [(.str (unb 17 0x6c6f72746e6f432d657461676f72727553)), (.str (unb 30 0x22302e312f495345223d746e65746e6f63202c352b393d6567612d78616d))]), (.agg [(.str (unb 10 0x6e6f697463656e6e6f43)), (.str [88,45,65])]), (.agg [(.str [88,45,65]), (.str [49])]), (.agg [(.str [88,45,66]), (.str [50])])]), (.int .i64 (200)), (.bool false)], (.tup [(.agg [(.int .i64 (3)), (.int .i64 (0))]), (.int .i64 (0))]))]),
  (163, [
    ([(.str [88,45,65]), (.int .u8 (44))], (.tup [(.lst false [(.str [88,45,65])]), (.int .i64 (0))])),
    ([(.str (unb 30 0x22302e312f495345223d746e65746e6f63202c352b393d6567612d78616d)), (.int .u8 (44))], (.tup [(.lst false [(.str (unb 11 0x352b393d6567612d78616d)), (.str (unb 17 0x22302e312f495345223d746e65746e6f63))]), (.int .i64 (0))])),
    ([(.str (unb 11 0x352b393d6567612d78616d)), (.int .u8 (59))], (.tup [(.lst false [(.str (unb 11 0x352b393d6567612d78616d))]), (.int .i64 (0))])),
    ([(.str (unb 11 0x352b393d6567612d78616d)), (.int .u8 (44))], (.tup [(.lst false [(.str (unb 11 0x352b393d6567612d78616d))]), (.int .i64 (0))])),
    ([(.str (unb 17 0x22302e312f495345223d746e65746e6f63)), (.int .u8 (59))], (.tup [(.lst false [(.str (unb 17 0x22302e312f495345223d746e65746e6f63))]), (.int .i64 (0))]))]),
  (159, [
    ([(.lst false [(.str (unb 10 0x6e6f697463656e6e6f63)), (.str (unb 10 0x6576696c612d7065656b)), (.str (unb 16 0x6e6f697463656e6e6f632d79786f7270)), (.str [116,101]), (.str (unb 7 0x72656c69617274)), (.str (unb 17 0x676e69646f636e652d726566736e617274)), (.str (unb 7 0x65646172677075)), (.str (unb 18 0x6574616369746e65687475612d79786f7270)), (.str (unb 19 0x6e6f6974617a69726f687475612d79786f7270)), (.str [120,45,97])]), (.func 160 [] [(.fptr [(.str (unb 17 0x6c6f72746e6f432d657461676f72727553)), (.str (unb 30 0x22302e312f495345223d746e65746e6f63202c352b393d6567612d78616d))])])], (.bool false)),
    ([(.lst false [(.str (unb 10 0x6e6f697463656e6e6f63)), (.str (unb 10 0x6576696c612d7065656b)), (.str (unb 16 0x6e6f697463656e6e6f632d79786f7270)), (.str [116,101]), (.str (unb 7 0x72656c69617274)), (.str (unb 17 0x676e69646f636e652d726566736e617274)), (.str (unb 7 0x65646172677075)), (.str (unb 18 0x6574616369746e65687475612d79786f7270)), (.str (unb 19 0x6e6f6974617a69726f687475612d79786f7270)), (.str [120,45,97])]), (.func 160 [] [(.fptr [(.str (unb 10 0x6e6f697463656e6e6f43)), (.str [88,45,65])])])], (.bool true)),
    ([(.lst false [(.str (unb 10 0x6e6f697463656e6e6f63)), (.str (unb 10 0x6576696c612d7065656b)), (.str (unb 16 0x6e6f697463656e6e6f632d79786f7270)), (.str [116,101]), (.str (unb 7 0x72656c69617274)), (.str (unb 17 0x676e69646f636e652d726566736e617274)), (.str (unb 7 0x65646172677075)), (.str (unb 18 0x6574616369746e65687475612d79786f7270)), (.str (unb 19 0x6e6f6974617a69726f687475612d79786f7270)), (.str [120,45,97])]), (.func 160 [] [(.fptr [(.str [88,45,65]), (.str [49])])])], (.bool true)),
    ([(.lst false [(.str (unb 10 0x6e6f697463656e6e6f63)), (.str (unb 10 0x6576696c612d7065656b)), (.str (unb 16 0x6e6f697463656e6e6f632d79786f7270)), (.str [116,101]), (.str (unb 7 0x72656c69617274)), (.str (unb 17 0x676e69646f636e652d726566736e617274)), (.str (unb 7 0x65646172677075)), (.str (unb 18 0x6574616369746e65687475612d79786f7270)), (.str (unb 19 0x6e6f6974617a69726f687475612d79786f7270)), (.str [120,45,97])]), (.func 160 [] [(.fptr [(.str [88,45,66]), (.str [50])])])], (.bool false)),
    ([(.lst false [(.str (unb 14 0x6874676e656c2d746e65746e6f63))]), (.func 160 [] [(.fptr [(.str (unb 17 0x6c6f72746e6f432d657461676f72727553)), (.str (unb 30 0x22302e312f495345223d746e65746e6f63202c352b393d6567612d78616d))])])], (.bool false)),
    ([(.lst false [(.str (unb 14 0x6874676e656c2d746e65746e6f63))]), (.func 160 [] [(.fptr [(.str [88,45,66]), (.str [50])])])], (.bool false))])]
theorem T5_1_ok : tableF C4 1000000 T5_1 = true := by kernel_rfl
end Go.Proofs.YtbmjbachkbomaaaGreatDoor
/- Known calls, layer 5, part 2: what they come to, reckoned by the kernel. Conditions: none. -/
set_option linter.unusedVariables false
set_option maxRecDepth 100000
namespace Go.Proofs.YtbmjbachkbomaaaGreatDoor
open Go Go.Ev Go.RowKit
def T5_2 : Table := [
  (163, [
    ([(.str (unb 17 0x22302e312f495345223d746e65746e6f63)), (.int .u8 (44))], (.tup [(.lst false [(.str (unb 17 0x22302e312f495345223d746e65746e6f63))]), (.int .i64 (0))])),
    ([(.str (unb 6 0x65696b6f6f43)), (.int .u8 (44))], (.tup [(.lst false [(.str (unb 6 0x65696b6f6f43))]), (.int .i64 (0))])),
    ([(.str [120]), (.int .u8 (44))], (.tup [(.lst false [(.str [120])]), (.int .i64 (0))])),
    ([(.str (unb 9 0x323d6567612d78616d)), (.int .u8 (44))], (.tup [(.lst false [(.str (unb 9 0x323d6567612d78616d))]), (.int .i64 (0))]))]),
  (169, [
    ([(.lst false [(.agg [(.str (unb 7 0x6567612d78616d)), (.str [57,43,53]), (.bool true), (.str [])]), (.agg [(.str (unb 7 0x746e65746e6f63)), (.str (unb 7 0x302e312f495345)), (.bool true), (.str [])])]), (.str [100])], (.lst false [(.agg [(.str (unb 7 0x6567612d78616d)), (.str [57,43,53]), (.bool true), (.str [])]), (.agg [(.str (unb 7 0x746e65746e6f63)), (.str (unb 7 0x302e312f495345)), (.bool true), (.str [])])]))]),
  (159, [
    ([(.lst false [(.str (unb 8 0x65726f74732d6f6e)), (.str (unb 7 0x65746176697270))]), (.func 174 [] [(.fptr [(.lst true [])])])], (.bool false)),
    ([(.lst false [(.str (unb 10 0x6e6f697463656e6e6f63)), (.str (unb 10 0x6576696c612d7065656b)), (.str (unb 16 0x6e6f697463656e6e6f632d79786f7270)), (.str [116,101]), (.str (unb 7 0x72656c69617274)), (.str (unb 17 0x676e69646f636e652d726566736e617274)), (.str (unb 7 0x65646172677075)), (.str (unb 18 0x6574616369746e65687475612d79786f7270)), (.str (unb 19 0x6e6f6974617a69726f687475612d79786f7270))]), (.func 160 [] [(.fptr [(.str (unb 4 0x67615445)), (.str [34,97,34])])])], (.bool false)),
    ([(.lst false [(.str (unb 10 0x6e6f697463656e6e6f63)), (.str (unb 10 0x6576696c612d7065656b)), (.str (unb 16 0x6e6f697463656e6e6f632d79786f7270)), (.str [116,101]), (.str (unb 7 0x72656c69617274)), (.str (unb 17 0x676e69646f636e652d726566736e617274)), (.str (unb 7 0x65646172677075)), (.str (unb 18 0x6574616369746e65687475612d79786f7270)), (.str (unb 19 0x6e6f6974617a69726f687475612d79786f7270))]), (.func 160 [] [(.fptr [(.str (unb 13 0x6c6f72746e6f432d6568636143)), (.str (unb 9 0x323d6567612d78616d))])])], (.bool false)),
    ([(.lst false [(.str (unb 10 0x6e6f697463656e6e6f63)), (.str (unb 10 0x6576696c612d7065656b)), (.str (unb 16 0x6e6f697463656e6e6f632d79786f7270)), (.str [116,101]), (.str (unb 7 0x72656c69617274)), (.str (unb 17 0x676e69646f636e652d726566736e617274)), (.str (unb 7 0x65646172677075)), (.str (unb 18 0x6574616369746e65687475612d79786f7270)), (.str (unb 19 0x6e6f6974617a69726f687475612d79786f7270))]), (.func 160 [] [(.fptr [(.str (unb 4 0x79726156)), (.str (unb 6 0x65696b6f6f43))])])], (.bool false)),
    ([(.lst false [(.str (unb 14 0x6874676e656c2d746e65746e6f63))]), (.func 160 [] [(.fptr [(.str (unb 4 0x67615445)), (.str [34,97,34])])])], (.bool false)),
    ([(.lst false [(.str (unb 14 0x6874676e656c2d746e65746e6f63))]), (.func 160 [] [(.fptr [(.str (unb 13 0x6c6f72746e6f432d6568636143)), (.str (unb 9 0x323d6567612d78616d))])])], (.bool false)),
    ([(.lst false [(.str (unb 14 0x6874676e656c2d746e65746e6f63))]), (.func 160 [] [(.fptr [(.str (unb 4 0x79726156)), (.str (unb 6 0x65696b6f6f43))])])], (.bool false)),
    ([(.lst false [(.str (unb 14 0x6874676e656c2d746e65746e6f63)), (.str (unb 17 0x676e69646f636e652d726566736e617274))]), (.func 160 [] [(.fptr [(.str (unb 13 0x686374614d2d656e6f4e2d6649)), (.str [34,97,34])])])], (.bool false)),
    ([(.lst false [(.str (unb 10 0x6e6f697463656e6e6f63)), (.str (unb 10 0x6576696c612d7065656b)), (.str (unb 16 0x6e6f697463656e6e6f632d79786f7270)), (.str [116,101]), (.str (unb 7 0x72656c69617274)), (.str (unb 17 0x676e69646f636e652d726566736e617274)), (.str (unb 7 0x65646172677075)), (.str (unb 18 0x6574616369746e65687475612d79786f7270)), (.str (unb 19 0x6e6f6974617a69726f687475612d79786f7270)), (.str (unb 14 0x6874676e656c2d746e65746e6f63)), (.str (unb 16 0x676e69646f636e652d746e65746e6f63)), (.str (unb 12 0x657079742d746e65746e6f63)), (.str (unb 13 0x65676e61722d746e65746e6f63)), (.str (unb 4 0x79726176))]), (.func 160 [] [(.fptr [(.str (unb 13 0x6c6f72746e6f432d6568636143)), (.str (unb 9 0x373d6567612d78616d))])])], (.bool false)),
    ([(.lst false [(.str [97,103,101]), (.str (unb 4 0x65746164)), (.str (unb 13 0x6c6f72746e6f432d6568636143))]), (.func 160 [] [(.fptr [(.str (unb 4 0x67615445)), (.str [34,97,34])])])], (.bool false)),
    ([(.lst false [(.str [97,103,101]), (.str (unb 4 0x65746164)), (.str (unb 13 0x6c6f72746e6f432d6568636143))]), (.func 160 [] [(.fptr [(.str (unb 13 0x6c6f72746e6f432d6568636143)), (.str (unb 9 0x323d6567612d78616d))])])], (.bool true)),
    ([(.lst false [(.str [97,103,101]), (.str (unb 4 0x65746164)), (.str (unb 13 0x6c6f72746e6f432d6568636143))]), (.func 160 [] [(.fptr [(.str (unb 4 0x79726156)), (.str (unb 6 0x65696b6f6f43))])])], (.bool false))]),
  (92, [
    ([(.fptr [(.int .i64 (200)), (.str [79,75]), (.int .i64 (1)), (.lst false [(.agg [(.str (unb 17 0x6c6f72746e6f432d657461676f72727553)), (.str (unb 30 0x22302e312f495345223d746e65746e6f63202c352b393d6567612d78616d))]), (.agg [(.str [88,45,66]), (.str [50])])]), (.str [121]), (.int .i64 (100)), (.int .i64 (100)), (.lst true [])])], (.bool true))]),
  (93, [
    ([(.fptr [(.lst false [(.agg [(.str (unb 6 0x65696b6f6f63)), (.str [120])])])]), (.fptr [(.lst true [])]), (.fptr [(.bool false), (.bool false), (.bool true), (.bool true), (.int .i64 (9)), (.int .i64 (5))])], (.bool true)),
    ([(.fptr [(.lst false [(.agg [(.str (unb 6 0x65696b6f6f63)), (.str [120])])])]), (.fptr [(.lst false [(.agg [(.str (unb 7 0x6567612d78616d)), (.str [50]), (.bool true), (.str [])])])]), (.fptr [(.bool false), (.bool false), (.bool false), (.bool false), (.int .i64 (0)), (.int .i64 (0))])], (.bool true))]),
  (123, [
    ([(.agg [(.int .i64 (200)), (.str [79,75]), (.int .i64 (1)), (.lst false [(.agg [(.str (unb 17 0x6c6f72746e6f432d657461676f72727553)), (.str (unb 30 0x22302e312f495345223d746e65746e6f63202c352b393d6567612d78616d))]), (.agg [(.str [88,45,66]), (.str [50])])]), (.str [121]), (.int .i64 (100)), (.int .i64 (100)), (.lst true [])]), (.str (unb 4 0x65746164))], (.tup [(.int .i64 (0)), (.bool false)])),
    ([(.agg [(.int .i64 (200)), (.str [79,75]), (.int .i64 (1)), (.lst false [(.agg [(.str (unb 4 0x67615445)), (.str [34,97,34])]), (.agg [(.str (unb 13 0x6c6f72746e6f432d6568636143)), (.str (unb 9 0x323d6567612d78616d))]), (.agg [(.str (unb 4 0x79726156)), (.str (unb 6 0x65696b6f6f43))])]), (.str [122]), (.int .i64 (115)), (.int .i64 (115)), (.lst false [(.agg [(.str (unb 6 0x65696b6f6f63)), (.str [120])])])]), (.str (unb 4 0x65746164))], (.tup [(.int .i64 (0)), (.bool false)]))]),
  (21, [
    ([(.agg [(.int .i64 (200)), (.str [79,75]), (.int .i64 (1)), (.lst false [(.agg [(.str (unb 17 0x6c6f72746e6f432d657461676f72727553)), (.str (unb 30 0x22302e312f495345223d746e65746e6f63202c352b393d6567612d78616d))]), (.agg [(.str [88,45,66]), (.str [50])])]), (.str [121]), (.int .i64 (100)), (.int .i64 (100)), (.lst true [])])], (.lst true []))]),
  (200, [
    ([(.str [34,97,34])], (.bool true)),
    ([(.str (unb 9 0x323d6567612d78616d))], (.bool true)),
    ([(.str (unb 6 0x65696b6f6f43))], (.bool true)),
    ([(.str (unb 9 0x373d6567612d78616d))], (.bool true))]),
  (72, [
    ([(.lst false [(.agg [(.str (unb 4 0x67615445)), (.str [34,97,34])]), (.agg [(.str (unb 13 0x6c6f72746e6f432d6568636143)), (.str (unb 9 0x323d6567612d78616d))]), (.agg [(.str (unb 4 0x79726156)), (.str (unb 6 0x65696b6f6f43))])]), (.int .i64 (200)), (.bool false)], (.tup [(.agg [(.int .i64 (3)), (.int .i64 (0))]), (.int .i64 (0))])),
    ([(.lst false [(.agg [(.str (unb 13 0x6c6f72746e6f432d6568636143)), (.str (unb 9 0x373d6567612d78616d))])]), (.int .i64 (304)), (.bool false)], (.tup [(.agg [(.int .i64 (0)), (.int .i64 (0))]), (.int .i64 (0))]))]),
  (82, [
    ([(.lst false [(.agg [(.str (unb 7 0x6567612d78616d)), (.str [50]), (.bool true), (.str [])])]), (.str (unb 8 0x65726f74732d6f6e))], (.tup [(.agg [(.str []), (.str []), (.bool false), (.str [])]), (.bool false)])),
    ([(.lst false [(.agg [(.str (unb 7 0x6567612d78616d)), (.str [50]), (.bool true), (.str [])])]), (.str (unb 7 0x65746176697270))], (.tup [(.agg [(.str []), (.str []), (.bool false), (.str [])]), (.bool false)])),
    ([(.lst false [(.agg [(.str (unb 7 0x6567612d78616d)), (.str [50]), (.bool true), (.str [])])]), (.str (unb 8 0x65686361632d6f6e))], (.tup [(.agg [(.str []), (.str []), (.bool false), (.str [])]), (.bool false)])),
    ([(.lst false [(.agg [(.str (unb 7 0x6567612d78616d)), (.str [50]), (.bool true), (.str [])])]), (.str (unb 8 0x65676178616d2d73))], (.tup [(.agg [(.str []), (.str []), (.bool false), (.str [])]), (.bool false)])),
    ([(.lst false [(.agg [(.str (unb 7 0x6567612d78616d)), (.str [50]), (.bool true), (.str [])])]), (.str (unb 7 0x6567612d78616d))], (.tup [(.agg [(.str (unb 7 0x6567612d78616d)), (.str [50]), (.bool true), (.str [])]), (.bool true)]))]),
  (126, [
    ([(.agg [(.int .i64 (200)), (.str [79,75]), (.int .i64 (1)), (.lst false [(.agg [(.str (unb 4 0x67615445)), (.str [34,97,34])]), (.agg [(.str (unb 13 0x6c6f72746e6f432d6568636143)), (.str (unb 9 0x323d6567612d78616d))]), (.agg [(.str (unb 4 0x79726156)), (.str (unb 6 0x65696b6f6f43))])]), (.str [122]), (.int .i64 (115)), (.int .i64 (115)), (.lst false [(.agg [(.str (unb 6 0x65696b6f6f63)), (.str [120])])])]), (.str [100])], (.tup [(.int .i64 (0)), (.bool false)]))]),
  (48, [
    ([(.str (unb 15 0x623f612f31383a682f2f3a70747468)), (.lst false [(.agg [(.str (unb 6 0x65696b6f6f63)), (.str [120])])])], (.str (unb 29 0x78203165696b6f6f632036623f612f31383a682f2f3a70747468203531)))]),
  (55, [
    ([(.str [34,97,34])], (.tup [(.bool false), (.str [97]), (.int .i64 (0))]))])]
theorem T5_2_ok : tableF C4 1000000 T5_2 = true := by kernel_rfl
end Go.Proofs.YtbmjbachkbomaaaGreatDoor
/- Known calls, layer 5, part 3: what they come to, reckoned by the kernel. Conditions: none. -/
set_option linter.unusedVariables false
set_option maxRecDepth 100000
namespace Go.Proofs.YtbmjbachkbomaaaGreatDoor
open Go Go.Ev Go.RowKit
def T5_3 : Table := [
  (163, [
    ([(.str (unb 9 0x373d6567612d78616d)), (.int .u8 (44))], (.tup [(.lst false [(.str (unb 9 0x373d6567612d78616d))]), (.int .i64 (0))])),
    ([(.str (unb 8 0x65726f74732d6f6e)), (.int .u8 (44))], (.tup [(.lst false [(.str (unb 8 0x65726f74732d6f6e))]), (.int .i64 (0))]))]),
  (82, [
    ([(.lst false [(.agg [(.str (unb 7 0x6567612d78616d)), (.str [55]), (.bool true), (.str [])])]), (.str (unb 8 0x65726f74732d6f6e))], (.tup [(.agg [(.str []), (.str []), (.bool false), (.str [])]), (.bool false)])),
    ([(.lst false [(.agg [(.str (unb 7 0x6567612d78616d)), (.str [55]), (.bool true), (.str [])])]), (.str (unb 7 0x65746176697270))], (.tup [(.agg [(.str []), (.str []), (.bool false), (.str [])]), (.bool false)])),
    ([(.lst false [(.agg [(.str (unb 7 0x6567612d78616d)), (.str [55]), (.bool true), (.str [])])]), (.str (unb 8 0x65686361632d6f6e))], (.tup [(.agg [(.str []), (.str []), (.bool false), (.str [])]), (.bool false)])),
    ([(.lst false [(.agg [(.str (unb 7 0x6567612d78616d)), (.str [55]), (.bool true), (.str [])])]), (.str (unb 8 0x65676178616d2d73))], (.tup [(.agg [(.str []), (.str []), (.bool false), (.str [])]), (.bool false)])),
    ([(.lst false [(.agg [(.str (unb 7 0x6567612d78616d)), (.str [55]), (.bool true), (.str [])])]), (.str (unb 7 0x6567612d78616d))], (.tup [(.agg [(.str (unb 7 0x6567612d78616d)), (.str [55]), (.bool true), (.str [])]), (.bool true)])),
    ([(.lst false [(.agg [(.str (unb 8 0x65726f74732d6f6e)), (.str []), (.bool false), (.str [])])]), (.str (unb 8 0x65726f74732d6f6e))], (.tup [(.agg [(.str (unb 8 0x65726f74732d6f6e)), (.str []), (.bool false), (.str [])]), (.bool true)]))]),
  (93, [
    ([(.fptr [(.lst false [(.agg [(.str (unb 6 0x65696b6f6f63)), (.str [120])])])]), (.fptr [(.lst false [(.agg [(.str (unb 7 0x6567612d78616d)), (.str [55]), (.bool true), (.str [])])])]), (.fptr [(.bool false), (.bool false), (.bool false), (.bool false), (.int .i64 (0)), (.int .i64 (0))])], (.bool true))]),
  (126, [
    ([(.agg [(.int .i64 (200)), (.str [79,75]), (.int .i64 (1)), (.lst false [(.agg [(.str (unb 4 0x67615445)), (.str [34,97,34])]), (.agg [(.str (unb 4 0x79726156)), (.str (unb 6 0x65696b6f6f43))]), (.agg [(.str (unb 13 0x6c6f72746e6f432d6568636143)), (.str (unb 9 0x373d6567612d78616d))])]), (.str [122]), (.int .i64 (120)), (.int .i64 (120)), (.lst false [(.agg [(.str (unb 6 0x65696b6f6f63)), (.str [120])])])]), (.str [100])], (.tup [(.int .i64 (0)), (.bool false)]))]),
  (123, [
    ([(.agg [(.int .i64 (200)), (.str [79,75]), (.int .i64 (1)), (.lst false [(.agg [(.str (unb 4 0x67615445)), (.str [34,97,34])]), (.agg [(.str (unb 4 0x79726156)), (.str (unb 6 0x65696b6f6f43))]), (.agg [(.str (unb 13 0x6c6f72746e6f432d6568636143)), (.str (unb 9 0x373d6567612d78616d))])]), (.str [122]), (.int .i64 (120)), (.int .i64 (120)), (.lst false [(.agg [(.str (unb 6 0x65696b6f6f63)), (.str [120])])])]), (.str (unb 4 0x65746164))], (.tup [(.int .i64 (0)), (.bool false)])),
    ([(.agg [(.int .i64 (200)), (.str [79,75]), (.int .i64 (1)), (.lst false [(.agg [(.str (unb 13 0x6c6f72746e6f432d6568636143)), (.str (unb 8 0x65726f74732d6f6e))])]), (.str [119]), (.int .i64 (130)), (.int .i64 (130)), (.lst true [])]), (.str (unb 4 0x65746164))], (.tup [(.int .i64 (0)), (.bool false)]))]),
  (200, [
    ([(.str (unb 8 0x65726f74732d6f6e))], (.bool true))]),
  (72, [
    ([(.lst false [(.agg [(.str (unb 13 0x6c6f72746e6f432d6568636143)), (.str (unb 8 0x65726f74732d6f6e))])]), (.int .i64 (200)), (.bool false)], (.tup [(.agg [(.int .i64 (3)), (.int .i64 (0))]), (.int .i64 (0))]))]),
  (159, [
    ([(.lst false [(.str (unb 10 0x6e6f697463656e6e6f63)), (.str (unb 10 0x6576696c612d7065656b)), (.str (unb 16 0x6e6f697463656e6e6f632d79786f7270)), (.str [116,101]), (.str (unb 7 0x72656c69617274)), (.str (unb 17 0x676e69646f636e652d726566736e617274)), (.str (unb 7 0x65646172677075)), (.str (unb 18 0x6574616369746e65687475612d79786f7270)), (.str (unb 19 0x6e6f6974617a69726f687475612d79786f7270))]), (.func 160 [] [(.fptr [(.str (unb 13 0x6c6f72746e6f432d6568636143)), (.str (unb 8 0x65726f74732d6f6e))])])], (.bool false)),
    ([(.lst false [(.str (unb 14 0x6874676e656c2d746e65746e6f63))]), (.func 160 [] [(.fptr [(.str (unb 13 0x6c6f72746e6f432d6568636143)), (.str (unb 8 0x65726f74732d6f6e))])])], (.bool false))]),
  (24, [
    ([(.str (unb 18 0x0a0d0a0d782034303320312e312f50545448)), (.bool false)], (.tup [(.agg [(.int .i64 (304)), (.str [120]), (.int .i64 (1)), (.lst true []), (.str [])]), (.int .i64 (18)), (.int .i64 (0))]))])]
theorem T5_3_ok : tableF C4 1000000 T5_3 = true := by kernel_rfl
end Go.Proofs.YtbmjbachkbomaaaGreatDoor
/- Layer 5 of the known calls. Conditions: none. -/
set_option linter.unusedVariables false
set_option maxRecDepth 100000
namespace Go.Proofs.YtbmjbachkbomaaaGreatDoor
open Go Go.Ev Go.RowKit
noncomputable def C5 : Ctx := withMemo C4 (T5_0 ++ (T5_1 ++ (T5_2 ++ T5_3)))
theorem ok5 : CtxOk C5 := withMemo_ok ok4 (TableOk.append (tableF_ok ok4 T5_0_ok) (TableOk.append (tableF_ok ok4 T5_1_ok) (TableOk.append (tableF_ok ok4 T5_2_ok) (tableF_ok ok4 T5_3_ok))))
end Go.Proofs.YtbmjbachkbomaaaGreatDoor
