/- Known calls, layer 4: what they come to, reckoned by the kernel. No conditions. -/
import Derived.Test.YtbmjbachkbomaaaGreatDoorL3
/- Known calls, layer 4, part 0: what they come to, reckoned by the kernel. Conditions: none. -/
set_option linter.unusedVariables false
set_option maxRecDepth 100000
namespace Go.Proofs.YtbmjbachkbomaaaGreatDoor
open Go Go.Ev Go.RowKit
def T4_0 : Table := [
  (59, [
    ([(.int .i64 (81))], (.str [56,49])),
    ([(.int .i64 (1))], (.str [49])),
    ([(.int .i64 (15))], (.str [49,53])),
    ([(.int .i64 (6))], (.str [54]))]),
  (53, [
    ([(.lst false [(.agg [(.str (unb 6 0x65696b6f6f63)), (.str [120])])]), (.str (unb 6 0x65696b6f6f43))], (.tup [(.str [120]), (.bool true)])),
    ([(.lst false [(.agg [(.str (unb 6 0x65696b6f6f63)), (.str [120])])]), (.str (unb 13 0x6e6f6974617a69726f68747561))], (.tup [(.str []), (.bool false)])),
    ([(.lst false [(.agg [(.str (unb 13 0x6c6f72746e6f432d6568636143)), (.str (unb 9 0x393d6567612d78616d))])]), (.str (unb 4 0x65746164))], (.tup [(.str []), (.bool false)])),
    ([(.lst false [(.agg [(.str (unb 13 0x6c6f72746e6f432d6568636143)), (.str (unb 9 0x393d6567612d78616d))])]), (.str [97,103,101])], (.tup [(.str []), (.bool false)])),
    ([(.lst false [(.agg [(.str (unb 13 0x6c6f72746e6f432d6568636143)), (.str (unb 9 0x393d6567612d78616d))])]), (.str (unb 4 0x67617465))], (.tup [(.str []), (.bool false)])),
    ([(.lst false [(.agg [(.str (unb 13 0x6c6f72746e6f432d6568636143)), (.str (unb 9 0x393d6567612d78616d))])]), (.str (unb 13 0x6465696669646f6d2d7473616c))], (.tup [(.str []), (.bool false)])),
    ([(.lst false [(.agg [(.str (unb 17 0x6c6f72746e6f432d657461676f72727553)), (.str (unb 30 0x22302e312f495345223d746e65746e6f63202c352b393d6567612d78616d))]), (.agg [(.str [88,45,66]), (.str [50])])]), (.str (unb 4 0x65746164))], (.tup [(.str []), (.bool false)])),
    ([(.lst false [(.agg [(.str (unb 17 0x6c6f72746e6f432d657461676f72727553)), (.str (unb 30 0x22302e312f495345223d746e65746e6f63202c352b393d6567612d78616d))]), (.agg [(.str [88,45,66]), (.str [50])])]), (.str [97,103,101])], (.tup [(.str []), (.bool false)])),
    ([(.lst false [(.agg [(.str (unb 17 0x6c6f72746e6f432d657461676f72727553)), (.str (unb 30 0x22302e312f495345223d746e65746e6f63202c352b393d6567612d78616d))]), (.agg [(.str [88,45,66]), (.str [50])])]), (.str (unb 4 0x67617465))], (.tup [(.str []), (.bool false)])),
    ([(.lst false [(.agg [(.str (unb 17 0x6c6f72746e6f432d657461676f72727553)), (.str (unb 30 0x22302e312f495345223d746e65746e6f63202c352b393d6567612d78616d))]), (.agg [(.str [88,45,66]), (.str [50])])]), (.str (unb 13 0x6465696669646f6d2d7473616c))], (.tup [(.str []), (.bool false)])),
    ([(.lst false [(.agg [(.str (unb 4 0x67615445)), (.str [34,97,34])]), (.agg [(.str (unb 13 0x6c6f72746e6f432d6568636143)), (.str (unb 9 0x323d6567612d78616d))]), (.agg [(.str (unb 4 0x79726156)), (.str (unb 6 0x65696b6f6f43))])]), (.str (unb 4 0x65746164))], (.tup [(.str []), (.bool false)])),
    ([(.lst false [(.agg [(.str (unb 4 0x67615445)), (.str [34,97,34])]), (.agg [(.str (unb 13 0x6c6f72746e6f432d6568636143)), (.str (unb 9 0x323d6567612d78616d))]), (.agg [(.str (unb 4 0x79726156)), (.str (unb 6 0x65696b6f6f43))])]), (.str [97,103,101])], (.tup [(.str []), (.bool false)])),
    ([(.lst false [(.agg [(.str (unb 4 0x67615445)), (.str [34,97,34])]), (.agg [(.str (unb 13 0x6c6f72746e6f432d6568636143)), (.str (unb 9 0x323d6567612d78616d))]), (.agg [(.str (unb 4 0x79726156)), (.str (unb 6 0x65696b6f6f43))])]), (.str (unb 4 0x67617465))], (.tup [(.str [34,97,34]), (.bool true)])),
    ([(.lst false [(.agg [(.str (unb 4 0x67615445)), (.str [34,97,34])]), (.agg [(.str (unb 13 0x6c6f72746e6f432d6568636143)), (.str (unb 9 0x323d6567612d78616d))]), (.agg [(.str (unb 4 0x79726156)), (.str (unb 6 0x65696b6f6f43))])]), (.str (unb 13 0x6465696669646f6d2d7473616c))], (.tup [(.str []), (.bool false)]))]),
  (181, [
    ([(.str [120])], (.str [120])),
    ([(.str (unb 4 0x31383a68))], (.str (unb 4 0x31383a68))),
    ([(.str (unb 25 0x22302e312f49534520302e312f657461676f72727553223d64))], (.str (unb 25 0x22302e312f49534520302e312f657461676f72727553223d64))),
    ([(.str (unb 10 0x393d6567612d78616d20))], (.str (unb 9 0x393d6567612d78616d))),
    ([(.str (unb 9 0x393d6567612d78616d))], (.str (unb 9 0x393d6567612d78616d))),
    ([(.str [32,49])], (.str [49])),
    ([(.str [49])], (.str [49])),
    ([(.str (unb 31 0x22302e312f495345223d746e65746e6f63202c352b393d6567612d78616d20))], (.str (unb 30 0x22302e312f495345223d746e65746e6f63202c352b393d6567612d78616d))),
    ([(.str (unb 30 0x22302e312f495345223d746e65746e6f63202c352b393d6567612d78616d))], (.str (unb 30 0x22302e312f495345223d746e65746e6f63202c352b393d6567612d78616d))),
    ([(.str (unb 4 0x412d5820))], (.str [88,45,65])),
    ([(.str [88,45,65])], (.str [88,45,65])),
    ([(.str [32,50])], (.str [50])),
    ([(.str [50])], (.str [50])),
    ([(.str (unb 11 0x352b393d6567612d78616d))], (.str (unb 11 0x352b393d6567612d78616d))),
    ([(.str (unb 18 0x22302e312f495345223d746e65746e6f6320))], (.str (unb 17 0x22302e312f495345223d746e65746e6f63))),
    ([(.str (unb 17 0x22302e312f495345223d746e65746e6f63))], (.str (unb 17 0x22302e312f495345223d746e65746e6f63))),
    ([(.str (unb 4 0x22612220))], (.str [34,97,34])),
    ([(.str [34,97,34])], (.str [34,97,34])),
    ([(.str (unb 10 0x323d6567612d78616d20))], (.str (unb 9 0x323d6567612d78616d))),
    ([(.str (unb 9 0x323d6567612d78616d))], (.str (unb 9 0x323d6567612d78616d))),
    ([(.str (unb 7 0x65696b6f6f4320))], (.str (unb 6 0x65696b6f6f43))),
    ([(.str (unb 6 0x65696b6f6f43))], (.str (unb 6 0x65696b6f6f43)))]),
  (217, [
    ([(.lst false [(.str (unb 14 0x6874676e656c2d746e65746e6f63)), (.str (unb 17 0x676e69646f636e652d726566736e617274))]), (.func 160 [] [(.fptr [(.str (unb 4 0x74736f48)), (.str (unb 4 0x31383a68))])])], (.int .i64 (-1))),
    ([(.lst false [(.str (unb 14 0x6874676e656c2d746e65746e6f63)), (.str (unb 17 0x676e69646f636e652d726566736e617274))]), (.func 160 [] [(.fptr [(.str (unb 20 0x7974696c6962617061432d657461676f72727553)), (.str (unb 25 0x22302e312f49534520302e312f657461676f72727553223d64))])])], (.int .i64 (-1))),
    ([(.lst false [(.str (unb 14 0x6874676e656c2d746e65746e6f63)), (.str (unb 17 0x676e69646f636e652d726566736e617274))]), (.func 160 [] [(.fptr [(.str (unb 6 0x65696b6f6f43)), (.str [120])])])], (.int .i64 (-1))),
    ([(.lst false [(.str (unb 10 0x6e6f697463656e6e6f63)), (.str (unb 10 0x6576696c612d7065656b)), (.str (unb 16 0x6e6f697463656e6e6f632d79786f7270)), (.str [116,101]), (.str (unb 7 0x72656c69617274)), (.str (unb 17 0x676e69646f636e652d726566736e617274)), (.str (unb 7 0x65646172677075)), (.str (unb 18 0x6574616369746e65687475612d79786f7270)), (.str (unb 19 0x6e6f6974617a69726f687475612d79786f7270))]), (.func 160 [] [(.fptr [(.str (unb 13 0x6c6f72746e6f432d6568636143)), (.str (unb 9 0x393d6567612d78616d))])])], (.int .i64 (-1))),
    ([(.lst false [(.str (unb 10 0x6e6f697463656e6e6f63)), (.str (unb 10 0x6576696c612d7065656b)), (.str (unb 16 0x6e6f697463656e6e6f632d79786f7270)), (.str [116,101]), (.str (unb 7 0x72656c69617274)), (.str (unb 17 0x676e69646f636e652d726566736e617274)), (.str (unb 7 0x65646172677075)), (.str (unb 18 0x6574616369746e65687475612d79786f7270)), (.str (unb 19 0x6e6f6974617a69726f687475612d79786f7270))]), (.func 160 [] [(.fptr [(.str (unb 14 0x6874676e654c2d746e65746e6f43)), (.str [49])])])], (.int .i64 (-1))),
    ([(.lst false [(.str (unb 14 0x6874676e656c2d746e65746e6f63))]), (.func 160 [] [(.fptr [(.str (unb 13 0x6c6f72746e6f432d6568636143)), (.str (unb 9 0x393d6567612d78616d))])])], (.int .i64 (-1))),
    ([(.lst false [(.str (unb 14 0x6874676e656c2d746e65746e6f63))]), (.func 160 [] [(.fptr [(.str (unb 14 0x6874676e654c2d746e65746e6f43)), (.str [49])])])], (.int .i64 (0))),
    ([(.lst false [(.str (unb 8 0x65726f74732d6f6e))]), (.func 174 [] [(.fptr [(.lst true [])])])], (.int .i64 (-1))),
    ([(.lst false [(.str (unb 10 0x6e6f697463656e6e6f63)), (.str (unb 10 0x6576696c612d7065656b)), (.str (unb 16 0x6e6f697463656e6e6f632d79786f7270)), (.str [116,101]), (.str (unb 7 0x72656c69617274)), (.str (unb 17 0x676e69646f636e652d726566736e617274)), (.str (unb 7 0x65646172677075)), (.str (unb 18 0x6574616369746e65687475612d79786f7270)), (.str (unb 19 0x6e6f6974617a69726f687475612d79786f7270)), (.str [120,45,97])]), (.func 160 [] [(.fptr [(.str (unb 17 0x6c6f72746e6f432d657461676f72727553)), (.str (unb 30 0x22302e312f495345223d746e65746e6f63202c352b393d6567612d78616d))])])], (.int .i64 (-1))),
    ([(.lst false [(.str (unb 10 0x6e6f697463656e6e6f63)), (.str (unb 10 0x6576696c612d7065656b)), (.str (unb 16 0x6e6f697463656e6e6f632d79786f7270)), (.str [116,101]), (.str (unb 7 0x72656c69617274)), (.str (unb 17 0x676e69646f636e652d726566736e617274)), (.str (unb 7 0x65646172677075)), (.str (unb 18 0x6574616369746e65687475612d79786f7270)), (.str (unb 19 0x6e6f6974617a69726f687475612d79786f7270)), (.str [120,45,97])]), (.func 160 [] [(.fptr [(.str (unb 10 0x6e6f697463656e6e6f43)), (.str [88,45,65])])])], (.int .i64 (0))),
    ([(.lst false [(.str (unb 10 0x6e6f697463656e6e6f63)), (.str (unb 10 0x6576696c612d7065656b)), (.str (unb 16 0x6e6f697463656e6e6f632d79786f7270)), (.str [116,101]), (.str (unb 7 0x72656c69617274)), (.str (unb 17 0x676e69646f636e652d726566736e617274)), (.str (unb 7 0x65646172677075)), (.str (unb 18 0x6574616369746e65687475612d79786f7270)), (.str (unb 19 0x6e6f6974617a69726f687475612d79786f7270)), (.str [120,45,97])]), (.func 160 [] [(.fptr [(.str [88,45,65]), (.str [49])])])], (.int .i64 (9))),
    ([(.lst false [(.str (unb 10 0x6e6f697463656e6e6f63)), (.str (unb 10 0x6576696c612d7065656b)), (.str (unb 16 0x6e6f697463656e6e6f632d79786f7270)), (.str [116,101]), (.str (unb 7 0x72656c69617274)), (.str (unb 17 0x676e69646f636e652d726566736e617274)), (.str (unb 7 0x65646172677075)), (.str (unb 18 0x6574616369746e65687475612d79786f7270)), (.str (unb 19 0x6e6f6974617a69726f687475612d79786f7270)), (.str [120,45,97])]), (.func 160 [] [(.fptr [(.str [88,45,66]), (.str [50])])])], (.int .i64 (-1))),
    ([(.lst false [(.str (unb 14 0x6874676e656c2d746e65746e6f63))]), (.func 160 [] [(.fptr [(.str (unb 17 0x6c6f72746e6f432d657461676f72727553)), (.str (unb 30 0x22302e312f495345223d746e65746e6f63202c352b393d6567612d78616d))])])], (.int .i64 (-1))),
    ([(.lst false [(.str (unb 14 0x6874676e656c2d746e65746e6f63))]), (.func 160 [] [(.fptr [(.str [88,45,66]), (.str [50])])])], (.int .i64 (-1))),
    ([(.lst false [(.str (unb 8 0x65726f74732d6f6e)), (.str (unb 7 0x65746176697270))]), (.func 174 [] [(.fptr [(.lst true [])])])], (.int .i64 (-1))),
    ([(.lst false [(.str (unb 10 0x6e6f697463656e6e6f63)), (.str (unb 10 0x6576696c612d7065656b)), (.str (unb 16 0x6e6f697463656e6e6f632d79786f7270)), (.str [116,101]), (.str (unb 7 0x72656c69617274)), (.str (unb 17 0x676e69646f636e652d726566736e617274)), (.str (unb 7 0x65646172677075)), (.str (unb 18 0x6574616369746e65687475612d79786f7270)), (.str (unb 19 0x6e6f6974617a69726f687475612d79786f7270))]), (.func 160 [] [(.fptr [(.str (unb 4 0x67615445)), (.str [34,97,34])])])], (.int .i64 (-1))),
    ([(.lst false [(.str (unb 10 0x6e6f697463656e6e6f63)), (.str (unb 10 0x6576696c612d7065656b)), (.str (unb 16 0x6e6f697463656e6e6f632d79786f7270)), (.str [116,101]), (.str (unb 7 0x72656c69617274)), (.str (unb 17 0x676e69646f636e652d726566736e617274)), (.str (unb 7 0x65646172677075)), (.str (unb 18 0x6574616369746e65687475612d79786f7270)), (.str (unb 19 0x6e6f6974617a69726f687475612d79786f7270))]), (.func 160 [] [(.fptr [(.str (unb 13 0x6c6f72746e6f432d6568636143)), (.str (unb 9 0x323d6567612d78616d))])])], (.int .i64 (-1))),
    ([(.lst false [(.str (unb 10 0x6e6f697463656e6e6f63)), (.str (unb 10 0x6576696c612d7065656b)), (.str (unb 16 0x6e6f697463656e6e6f632d79786f7270)), (.str [116,101]), (.str (unb 7 0x72656c69617274)), (.str (unb 17 0x676e69646f636e652d726566736e617274)), (.str (unb 7 0x65646172677075)), (.str (unb 18 0x6574616369746e65687475612d79786f7270)), (.str (unb 19 0x6e6f6974617a69726f687475612d79786f7270))]), (.func 160 [] [(.fptr [(.str (unb 4 0x79726156)), (.str (unb 6 0x65696b6f6f43))])])], (.int .i64 (-1))),
    ([(.lst false [(.str (unb 14 0x6874676e656c2d746e65746e6f63))]), (.func 160 [] [(.fptr [(.str (unb 4 0x67615445)), (.str [34,97,34])])])], (.int .i64 (-1))),
    ([(.lst false [(.str (unb 14 0x6874676e656c2d746e65746e6f63))]), (.func 160 [] [(.fptr [(.str (unb 13 0x6c6f72746e6f432d6568636143)), (.str (unb 9 0x323d6567612d78616d))])])], (.int .i64 (-1))),
    ([(.lst false [(.str (unb 14 0x6874676e656c2d746e65746e6f63))]), (.func 160 [] [(.fptr [(.str (unb 4 0x79726156)), (.str (unb 6 0x65696b6f6f43))])])], (.int .i64 (-1))),
    ([(.lst false [(.str (unb 14 0x6874676e656c2d746e65746e6f63)), (.str (unb 17 0x676e69646f636e652d726566736e617274))]), (.func 160 [] [(.fptr [(.str (unb 13 0x686374614d2d656e6f4e2d6649)), (.str [34,97,34])])])], (.int .i64 (-1)))]),
  (12, [
    ([(.str (unb 61 0x797c7c31203a6874676e654c2d746e65746e6f437c393d6567612d78616d203a6c6f72746e6f432d65686361437c4b4f2030303220312e312f50545448))], (.str (unb 65 0x790a0d0a0d31203a6874676e654c2d746e65746e6f430a0d393d6567612d78616d203a6c6f72746e6f432d65686361430a0d4b4f2030303220312e312f50545448))),
    ([(.str (unb 88 0x7c7c78203a65696b6f6f437c22302e312f49534520302e312f657461676f72727553223d64203a7974696c6962617061432d657461676f727275537c31383a68203a74736f487c312e312f5054544820623f612f20544547))], (.str (unb 93 0x0a0d0a0d78203a65696b6f6f430a0d22302e312f49534520302e312f657461676f72727553223d64203a7974696c6962617061432d657461676f727275530a0d31383a68203a74736f480a0d312e312f5054544820623f612f20544547))),
    ([(.str [])], (.str [])),
    ([(.str [120])], (.str [120])),
    ([(.str (unb 17 0x7c7c6f4e2030303520312e312f50545448))], (.str (unb 19 0x0a0d0a0d6f4e2030303520312e312f50545448))),
    ([(.str (unb 98 0x797c7c32203a422d587c31203a412d587c412d58203a6e6f697463656e6e6f437c22302e312f495345223d746e65746e6f63202c352b393d6567612d78616d203a6c6f72746e6f432d657461676f727275537c4b4f2030303220312e312f50545448))], (.str (unb 104 0x790a0d0a0d32203a422d580a0d31203a412d580a0d412d58203a6e6f697463656e6e6f430a0d22302e312f495345223d746e65746e6f63202c352b393d6567612d78616d203a6c6f72746e6f432d657461676f727275530a0d4b4f2030303220312e312f50545448))),
    ([(.str (unb 66 0x7a7c7c65696b6f6f43203a797261567c323d6567612d78616d203a6c6f72746e6f432d65686361437c226122203a676154457c4b4f2030303220312e312f50545448))], (.str (unb 71 0x7a0a0d0a0d65696b6f6f43203a797261560a0d323d6567612d78616d203a6c6f72746e6f432d65686361430a0d226122203a676154450a0d4b4f2030303220312e312f50545448))),
    ([(.str (unb 41 0x7c7c373d6567612d78616d203a6c6f72746e6f432d65686361437c782034303320312e312f50545448))], (.str (unb 44 0x0a0d0a0d373d6567612d78616d203a6c6f72746e6f432d65686361430a0d782034303320312e312f50545448)))]),
  (68, [
    ([(.str (unb 15 0x4b4f2030303220312e312f50545448))], (.tup [(.int .i64 (200)), (.str [79,75]), (.int .i64 (1)), (.int .i64 (0))])),
    ([(.str (unb 15 0x6f4e2030303520312e312f50545448))], (.tup [(.int .i64 (500)), (.str [78,111]), (.int .i64 (1)), (.int .i64 (0))]))]),
  (77, [
    ([(.agg [(.int .i64 (200)), (.str [79,75]), (.int .i64 (1)), (.lst false [(.agg [(.str (unb 13 0x6c6f72746e6f432d6568636143)), (.str (unb 9 0x393d6567612d78616d))])]), (.str [121])])], (.tup [(.lst true []), (.bool true)])),
    ([(.agg [(.int .i64 (200)), (.str [79,75]), (.int .i64 (1)), (.lst false [(.agg [(.str (unb 17 0x6c6f72746e6f432d657461676f72727553)), (.str (unb 30 0x22302e312f495345223d746e65746e6f63202c352b393d6567612d78616d))]), (.agg [(.str [88,45,66]), (.str [50])])]), (.str [121])])], (.tup [(.lst true []), (.bool true)]))]),
  (220, [
    ([(.str (unb 9 0x393d6567612d78616d))], (.tup [(.agg [(.str (unb 7 0x6567612d78616d)), (.str [57]), (.bool true), (.str [])]), (.bool true)])),
    ([(.str (unb 11 0x352b393d6567612d78616d))], (.tup [(.agg [(.str (unb 7 0x6567612d78616d)), (.str [57,43,53]), (.bool true), (.str [])]), (.bool true)])),
    ([(.str (unb 17 0x22302e312f495345223d746e65746e6f63))], (.tup [(.agg [(.str (unb 7 0x746e65746e6f63)), (.str (unb 7 0x302e312f495345)), (.bool true), (.str [])]), (.bool true)])),
    ([(.str (unb 9 0x323d6567612d78616d))], (.tup [(.agg [(.str (unb 7 0x6567612d78616d)), (.str [50]), (.bool true), (.str [])]), (.bool true)]))]),
  (165, [
    ([(.lst false [(.agg [(.str (unb 7 0x6567612d78616d)), (.str [57]), (.bool true), (.str [])])]), (.func 166 [] [(.fptr [(.str (unb 8 0x65726f74732d6f6e))])])], (.int .i64 (-1))),
    ([(.lst false [(.agg [(.str (unb 7 0x6567612d78616d)), (.str [57]), (.bool true), (.str [])])]), (.func 166 [] [(.fptr [(.str (unb 7 0x65746176697270))])])], (.int .i64 (-1))),
    ([(.lst false [(.agg [(.str (unb 7 0x6567612d78616d)), (.str [57]), (.bool true), (.str [])])]), (.func 166 [] [(.fptr [(.str (unb 8 0x65686361632d6f6e))])])], (.int .i64 (-1))),
    ([(.lst false [(.agg [(.str (unb 7 0x6567612d78616d)), (.str [57]), (.bool true), (.str [])])]), (.func 166 [] [(.fptr [(.str (unb 8 0x65676178616d2d73))])])], (.int .i64 (-1))),
    ([(.lst false [(.agg [(.str (unb 7 0x6567612d78616d)), (.str [57]), (.bool true), (.str [])])]), (.func 166 [] [(.fptr [(.str (unb 7 0x6567612d78616d))])])], (.int .i64 (0))),
    ([(.lst false [(.agg [(.str (unb 7 0x6567612d78616d)), (.str [50]), (.bool true), (.str [])])]), (.func 166 [] [(.fptr [(.str (unb 8 0x65726f74732d6f6e))])])], (.int .i64 (-1))),
    ([(.lst false [(.agg [(.str (unb 7 0x6567612d78616d)), (.str [50]), (.bool true), (.str [])])]), (.func 166 [] [(.fptr [(.str (unb 7 0x65746176697270))])])], (.int .i64 (-1))),
    ([(.lst false [(.agg [(.str (unb 7 0x6567612d78616d)), (.str [50]), (.bool true), (.str [])])]), (.func 166 [] [(.fptr [(.str (unb 8 0x65686361632d6f6e))])])], (.int .i64 (-1))),
    ([(.lst false [(.agg [(.str (unb 7 0x6567612d78616d)), (.str [50]), (.bool true), (.str [])])]), (.func 166 [] [(.fptr [(.str (unb 8 0x65676178616d2d73))])])], (.int .i64 (-1))),
    ([(.lst false [(.agg [(.str (unb 7 0x6567612d78616d)), (.str [50]), (.bool true), (.str [])])]), (.func 166 [] [(.fptr [(.str (unb 7 0x6567612d78616d))])])], (.int .i64 (0)))]),
  (168, [
    ([(.agg [(.int .i64 (200)), (.str [79,75]), (.int .i64 (1)), (.lst false [(.agg [(.str (unb 13 0x6c6f72746e6f432d6568636143)), (.str (unb 9 0x393d6567612d78616d))])]), (.str [121]), (.int .i64 (100)), (.int .i64 (100)), (.lst true [])]), (.str [100])], (.agg [(.bool false), (.bool false), (.bool false), (.bool false), (.int .i64 (0)), (.int .i64 (0))])),
    ([(.agg [(.int .i64 (200)), (.str [79,75]), (.int .i64 (1)), (.lst false [(.agg [(.str (unb 4 0x67615445)), (.str [34,97,34])]), (.agg [(.str (unb 13 0x6c6f72746e6f432d6568636143)), (.str (unb 9 0x323d6567612d78616d))]), (.agg [(.str (unb 4 0x79726156)), (.str (unb 6 0x65696b6f6f43))])]), (.str [122]), (.int .i64 (115)), (.int .i64 (115)), (.lst false [(.agg [(.str (unb 6 0x65696b6f6f63)), (.str [120])])])]), (.str [100])], (.agg [(.bool false), (.bool false), (.bool false), (.bool false), (.int .i64 (0)), (.int .i64 (0))]))]),
  (33, [
    ([(.str [71,69,84]), (.lst false [(.agg [(.str (unb 6 0x65696b6f6f63)), (.str [120])])]), (.agg [(.int .i64 (500)), (.str [78,111]), (.int .i64 (1)), (.lst true []), (.str []), (.int .i64 (100)), (.int .i64 (100)), (.lst true [])]), (.str [100])], (.bool false))]),
  (50, [
    ([(.agg [(.int .i64 (500)), (.str [78,111]), (.int .i64 (1)), (.lst true []), (.str []), (.int .i64 (100)), (.int .i64 (100)), (.lst true [])]), (.int .i64 (100))], (.int .i64 (0)))]),
  (155, [
    ([(.lst false [(.agg [(.str (unb 17 0x6c6f72746e6f432d657461676f72727553)), (.str (unb 30 0x22302e312f495345223d746e65746e6f63202c352b393d6567612d78616d))]), (.agg [(.str (unb 10 0x6e6f697463656e6e6f43)), (.str [88,45,65])]), (.agg [(.str [88,45,65]), (.str [49])]), (.agg [(.str [88,45,66]), (.str [50])])]), (.int .i64 (3))], (.tup [(.agg [(.int .i64 (3)), (.int .i64 (0))]), (.int .i64 (0))])),
    ([(.lst false [(.agg [(.str (unb 4 0x67615445)), (.str [34,97,34])]), (.agg [(.str (unb 13 0x6c6f72746e6f432d6568636143)), (.str (unb 9 0x323d6567612d78616d))]), (.agg [(.str (unb 4 0x79726156)), (.str (unb 6 0x65696b6f6f43))])]), (.int .i64 (3))], (.tup [(.agg [(.int .i64 (3)), (.int .i64 (0))]), (.int .i64 (0))]))]),
  (222, [
    ([(.lst false [(.agg [(.str (unb 7 0x6567612d78616d)), (.str [57,43,53]), (.bool true), (.str [])]), (.agg [(.str (unb 7 0x746e65746e6f63)), (.str (unb 7 0x302e312f495345)), (.bool true), (.str [])])]), (.func 223 [] [(.fptr [(.func 221 [] [(.fptr [(.str [100])])])]), (.fptr [(.str (unb 7 0x6567612d78616d)), (.str [57,43,53]), (.bool true), (.str [])])])], (.bool false)),
    ([(.lst false [(.agg [(.str (unb 7 0x6567612d78616d)), (.str [57,43,53]), (.bool true), (.str [])]), (.agg [(.str (unb 7 0x746e65746e6f63)), (.str (unb 7 0x302e312f495345)), (.bool true), (.str [])])]), (.func 223 [] [(.fptr [(.func 221 [] [(.fptr [(.str [100])])])]), (.fptr [(.str (unb 7 0x746e65746e6f63)), (.str (unb 7 0x302e312f495345)), (.bool true), (.str [])])])], (.bool false))]),
  (130, [
    ([(.str [34,97,34])], (.agg [(.bool false), (.bool true), (.str [97])]))])]
theorem T4_0_ok : tableF C3 1000000 T4_0 = true := by kernel_rfl
end Go.Proofs.YtbmjbachkbomaaaGreatDoor
/- Known calls, layer 4, part 1: what they come to, reckoned by the kernel. Conditions: none. -/
set_option linter.unusedVariables false
set_option maxRecDepth 100000
namespace Go.Proofs.YtbmjbachkbomaaaGreatDoor
open Go Go.Ev Go.RowKit
def T4_1 : Table := [
  (68, [
    ([(.str (unb 14 0x782034303320312e312f50545448))], (.tup [(.int .i64 (304)), (.str [120]), (.int .i64 (1)), (.int .i64 (0))]))]),
  (181, [
    ([(.str (unb 10 0x373d6567612d78616d20))], (.str (unb 9 0x373d6567612d78616d))),
    ([(.str (unb 9 0x373d6567612d78616d))], (.str (unb 9 0x373d6567612d78616d))),
    ([(.str (unb 9 0x65726f74732d6f6e20))], (.str (unb 8 0x65726f74732d6f6e))),
    ([(.str (unb 8 0x65726f74732d6f6e))], (.str (unb 8 0x65726f74732d6f6e)))]),
  (155, [
    ([(.lst false [(.agg [(.str (unb 13 0x6c6f72746e6f432d6568636143)), (.str (unb 9 0x373d6567612d78616d))])]), (.int .i64 (3))], (.tup [(.agg [(.int .i64 (3)), (.int .i64 (0))]), (.int .i64 (0))])),
    ([(.lst false [(.agg [(.str (unb 13 0x6c6f72746e6f432d6568636143)), (.str (unb 8 0x65726f74732d6f6e))])]), (.int .i64 (3))], (.tup [(.agg [(.int .i64 (3)), (.int .i64 (0))]), (.int .i64 (0))]))]),
  (217, [
    ([(.lst false [(.str (unb 10 0x6e6f697463656e6e6f63)), (.str (unb 10 0x6576696c612d7065656b)), (.str (unb 16 0x6e6f697463656e6e6f632d79786f7270)), (.str [116,101]), (.str (unb 7 0x72656c69617274)), (.str (unb 17 0x676e69646f636e652d726566736e617274)), (.str (unb 7 0x65646172677075)), (.str (unb 18 0x6574616369746e65687475612d79786f7270)), (.str (unb 19 0x6e6f6974617a69726f687475612d79786f7270)), (.str (unb 14 0x6874676e656c2d746e65746e6f63)), (.str (unb 16 0x676e69646f636e652d746e65746e6f63)), (.str (unb 12 0x657079742d746e65746e6f63)), (.str (unb 13 0x65676e61722d746e65746e6f63)), (.str (unb 4 0x79726176))]), (.func 160 [] [(.fptr [(.str (unb 13 0x6c6f72746e6f432d6568636143)), (.str (unb 9 0x373d6567612d78616d))])])], (.int .i64 (-1))),
    ([(.lst false [(.str [97,103,101]), (.str (unb 4 0x65746164)), (.str (unb 13 0x6c6f72746e6f432d6568636143))]), (.func 160 [] [(.fptr [(.str (unb 4 0x67615445)), (.str [34,97,34])])])], (.int .i64 (-1))),
    ([(.lst false [(.str [97,103,101]), (.str (unb 4 0x65746164)), (.str (unb 13 0x6c6f72746e6f432d6568636143))]), (.func 160 [] [(.fptr [(.str (unb 13 0x6c6f72746e6f432d6568636143)), (.str (unb 9 0x323d6567612d78616d))])])], (.int .i64 (2))),
    ([(.lst false [(.str [97,103,101]), (.str (unb 4 0x65746164)), (.str (unb 13 0x6c6f72746e6f432d6568636143))]), (.func 160 [] [(.fptr [(.str (unb 4 0x79726156)), (.str (unb 6 0x65696b6f6f43))])])], (.int .i64 (-1))),
    ([(.lst false [(.str (unb 10 0x6e6f697463656e6e6f63)), (.str (unb 10 0x6576696c612d7065656b)), (.str (unb 16 0x6e6f697463656e6e6f632d79786f7270)), (.str [116,101]), (.str (unb 7 0x72656c69617274)), (.str (unb 17 0x676e69646f636e652d726566736e617274)), (.str (unb 7 0x65646172677075)), (.str (unb 18 0x6574616369746e65687475612d79786f7270)), (.str (unb 19 0x6e6f6974617a69726f687475612d79786f7270))]), (.func 160 [] [(.fptr [(.str (unb 13 0x6c6f72746e6f432d6568636143)), (.str (unb 8 0x65726f74732d6f6e))])])], (.int .i64 (-1))),
    ([(.lst false [(.str (unb 14 0x6874676e656c2d746e65746e6f63))]), (.func 160 [] [(.fptr [(.str (unb 13 0x6c6f72746e6f432d6568636143)), (.str (unb 8 0x65726f74732d6f6e))])])], (.int .i64 (-1)))]),
  (220, [
    ([(.str (unb 9 0x373d6567612d78616d))], (.tup [(.agg [(.str (unb 7 0x6567612d78616d)), (.str [55]), (.bool true), (.str [])]), (.bool true)])),
    ([(.str (unb 8 0x65726f74732d6f6e))], (.tup [(.agg [(.str (unb 8 0x65726f74732d6f6e)), (.str []), (.bool false), (.str [])]), (.bool true)]))]),
  (165, [
    ([(.lst false [(.agg [(.str (unb 7 0x6567612d78616d)), (.str [55]), (.bool true), (.str [])])]), (.func 166 [] [(.fptr [(.str (unb 8 0x65726f74732d6f6e))])])], (.int .i64 (-1))),
    ([(.lst false [(.agg [(.str (unb 7 0x6567612d78616d)), (.str [55]), (.bool true), (.str [])])]), (.func 166 [] [(.fptr [(.str (unb 7 0x65746176697270))])])], (.int .i64 (-1))),
    ([(.lst false [(.agg [(.str (unb 7 0x6567612d78616d)), (.str [55]), (.bool true), (.str [])])]), (.func 166 [] [(.fptr [(.str (unb 8 0x65686361632d6f6e))])])], (.int .i64 (-1))),
    ([(.lst false [(.agg [(.str (unb 7 0x6567612d78616d)), (.str [55]), (.bool true), (.str [])])]), (.func 166 [] [(.fptr [(.str (unb 8 0x65676178616d2d73))])])], (.int .i64 (-1))),
    ([(.lst false [(.agg [(.str (unb 7 0x6567612d78616d)), (.str [55]), (.bool true), (.str [])])]), (.func 166 [] [(.fptr [(.str (unb 7 0x6567612d78616d))])])], (.int .i64 (0))),
    ([(.lst false [(.agg [(.str (unb 8 0x65726f74732d6f6e)), (.str []), (.bool false), (.str [])])]), (.func 166 [] [(.fptr [(.str (unb 8 0x65726f74732d6f6e))])])], (.int .i64 (0)))]),
  (168, [
    ([(.agg [(.int .i64 (200)), (.str [79,75]), (.int .i64 (1)), (.lst false [(.agg [(.str (unb 4 0x67615445)), (.str [34,97,34])]), (.agg [(.str (unb 4 0x79726156)), (.str (unb 6 0x65696b6f6f43))]), (.agg [(.str (unb 13 0x6c6f72746e6f432d6568636143)), (.str (unb 9 0x373d6567612d78616d))])]), (.str [122]), (.int .i64 (120)), (.int .i64 (120)), (.lst false [(.agg [(.str (unb 6 0x65696b6f6f63)), (.str [120])])])]), (.str [100])], (.agg [(.bool false), (.bool false), (.bool false), (.bool false), (.int .i64 (0)), (.int .i64 (0))]))]),
  (53, [
    ([(.lst false [(.agg [(.str (unb 4 0x67615445)), (.str [34,97,34])]), (.agg [(.str (unb 4 0x79726156)), (.str (unb 6 0x65696b6f6f43))]), (.agg [(.str (unb 13 0x6c6f72746e6f432d6568636143)), (.str (unb 9 0x373d6567612d78616d))])]), (.str (unb 4 0x65746164))], (.tup [(.str []), (.bool false)])),
    ([(.lst false [(.agg [(.str (unb 4 0x67615445)), (.str [34,97,34])]), (.agg [(.str (unb 4 0x79726156)), (.str (unb 6 0x65696b6f6f43))]), (.agg [(.str (unb 13 0x6c6f72746e6f432d6568636143)), (.str (unb 9 0x373d6567612d78616d))])]), (.str [97,103,101])], (.tup [(.str []), (.bool false)])),
    ([(.lst false [(.agg [(.str (unb 4 0x67615445)), (.str [34,97,34])]), (.agg [(.str (unb 4 0x79726156)), (.str (unb 6 0x65696b6f6f43))]), (.agg [(.str (unb 13 0x6c6f72746e6f432d6568636143)), (.str (unb 9 0x373d6567612d78616d))])]), (.str (unb 4 0x67617465))], (.tup [(.str [34,97,34]), (.bool true)])),
    ([(.lst false [(.agg [(.str (unb 4 0x67615445)), (.str [34,97,34])]), (.agg [(.str (unb 4 0x79726156)), (.str (unb 6 0x65696b6f6f43))]), (.agg [(.str (unb 13 0x6c6f72746e6f432d6568636143)), (.str (unb 9 0x373d6567612d78616d))])]), (.str (unb 13 0x6465696669646f6d2d7473616c))], (.tup [(.str []), (.bool false)])),
    ([(.lst false [(.agg [(.str (unb 13 0x6c6f72746e6f432d6568636143)), (.str (unb 8 0x65726f74732d6f6e))])]), (.str (unb 4 0x65746164))], (.tup [(.str []), (.bool false)])),
    ([(.lst false [(.agg [(.str (unb 13 0x6c6f72746e6f432d6568636143)), (.str (unb 8 0x65726f74732d6f6e))])]), (.str [97,103,101])], (.tup [(.str []), (.bool false)]))]),
  (12, [
    ([(.str (unb 42 0x777c7c65726f74732d6f6e203a6c6f72746e6f432d65686361437c4b4f2030303220312e312f50545448))], (.str (unb 45 0x770a0d0a0d65726f74732d6f6e203a6c6f72746e6f432d65686361430a0d4b4f2030303220312e312f50545448))),
    ([(.str (unb 16 0x7c7c782034303320312e312f50545448))], (.str (unb 18 0x0a0d0a0d782034303320312e312f50545448)))]),
  (77, [
    ([(.agg [(.int .i64 (200)), (.str [79,75]), (.int .i64 (1)), (.lst false [(.agg [(.str (unb 13 0x6c6f72746e6f432d6568636143)), (.str (unb 8 0x65726f74732d6f6e))])]), (.str [119])])], (.tup [(.lst true []), (.bool true)]))])]
theorem T4_1_ok : tableF C3 1000000 T4_1 = true := by kernel_rfl
end Go.Proofs.YtbmjbachkbomaaaGreatDoor
/- Layer 4 of the known calls. Conditions: none. -/
set_option linter.unusedVariables false
set_option maxRecDepth 100000
namespace Go.Proofs.YtbmjbachkbomaaaGreatDoor
open Go Go.Ev Go.RowKit
noncomputable def C4 : Ctx := withMemo C3 (T4_0 ++ T4_1)
theorem ok4 : CtxOk C4 := withMemo_ok ok3 (TableOk.append (tableF_ok ok3 T4_0_ok) (tableF_ok ok3 T4_1_ok))
end Go.Proofs.YtbmjbachkbomaaaGreatDoor
