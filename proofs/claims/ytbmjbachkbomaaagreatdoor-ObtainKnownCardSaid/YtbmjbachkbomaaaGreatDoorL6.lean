/- Known calls, layer 6: what they come to, reckoned by the kernel. No conditions. -/
import Derived.Test.YtbmjbachkbomaaaGreatDoorL5
/- Known calls, layer 6, part 0: what they come to, reckoned by the kernel. Conditions: none. -/
set_option linter.unusedVariables false
set_option maxRecDepth 100000
namespace Go.Proofs.YtbmjbachkbomaaaGreatDoor
open Go Go.Ev Go.RowKit
def T6_0 : Table := [
  (17, [
    ([(.agg [(.str (unb 4 0x70747468)), (.str [104]), (.int .i64 (81)), (.str [47,97]), (.str [98]), (.bool true)])], (.int .i64 (0)))]),
  (139, [
    ([(.agg [(.str (unb 6 0x65696b6f6f43)), (.str [120])])], (.bool true)),
    ([(.agg [(.str (unb 4 0x74736f48)), (.str (unb 4 0x31383a68))])], (.bool true)),
    ([(.agg [(.str (unb 20 0x7974696c6962617061432d657461676f72727553)), (.str (unb 25 0x22302e312f49534520302e312f657461676f72727553223d64))])], (.bool true)),
    ([(.agg [(.str (unb 13 0x6c6f72746e6f432d6568636143)), (.str (unb 9 0x393d6567612d78616d))])], (.bool true)),
    ([(.agg [(.str (unb 14 0x6874676e654c2d746e65746e6f43)), (.str [49])])], (.bool true)),
    ([(.agg [(.str (unb 17 0x6c6f72746e6f432d657461676f72727553)), (.str (unb 30 0x22302e312f495345223d746e65746e6f63202c352b393d6567612d78616d))])], (.bool true)),
    ([(.agg [(.str (unb 10 0x6e6f697463656e6e6f43)), (.str [88,45,65])])], (.bool true)),
    ([(.agg [(.str [88,45,65]), (.str [49])])], (.bool true)),
    ([(.agg [(.str [88,45,66]), (.str [50])])], (.bool true)),
    ([(.agg [(.str (unb 4 0x67615445)), (.str [34,97,34])])], (.bool true)),
    ([(.agg [(.str (unb 13 0x6c6f72746e6f432d6568636143)), (.str (unb 9 0x323d6567612d78616d))])], (.bool true)),
    ([(.agg [(.str (unb 4 0x79726156)), (.str (unb 6 0x65696b6f6f43))])], (.bool true)),
    ([(.agg [(.str (unb 13 0x686374614d2d656e6f4e2d6649)), (.str [34,97,34])])], (.bool true)),
    ([(.agg [(.str (unb 13 0x6c6f72746e6f432d6568636143)), (.str (unb 9 0x373d6567612d78616d))])], (.bool true)),
    ([(.agg [(.str (unb 13 0x6c6f72746e6f432d6568636143)), (.str (unb 8 0x65726f74732d6f6e))])], (.bool true))]),
  (158, [
    ([(.agg [(.str (unb 4 0x74736f48)), (.str (unb 4 0x31383a68))]), (.fptr [(.lst false [(.str (unb 14 0x6874676e656c2d746e65746e6f63)), (.str (unb 17 0x676e69646f636e652d726566736e617274))])])], (.bool true)),
    ([(.agg [(.str (unb 20 0x7974696c6962617061432d657461676f72727553)), (.str (unb 25 0x22302e312f49534520302e312f657461676f72727553223d64))]), (.fptr [(.lst false [(.str (unb 14 0x6874676e656c2d746e65746e6f63)), (.str (unb 17 0x676e69646f636e652d726566736e617274))])])], (.bool true)),
    ([(.agg [(.str (unb 6 0x65696b6f6f43)), (.str [120])]), (.fptr [(.lst false [(.str (unb 14 0x6874676e656c2d746e65746e6f63)), (.str (unb 17 0x676e69646f636e652d726566736e617274))])])], (.bool true)),
    ([(.agg [(.str (unb 13 0x6c6f72746e6f432d6568636143)), (.str (unb 9 0x393d6567612d78616d))]), (.fptr [(.lst false [(.str (unb 10 0x6e6f697463656e6e6f63)), (.str (unb 10 0x6576696c612d7065656b)), (.str (unb 16 0x6e6f697463656e6e6f632d79786f7270)), (.str [116,101]), (.str (unb 7 0x72656c69617274)), (.str (unb 17 0x676e69646f636e652d726566736e617274)), (.str (unb 7 0x65646172677075)), (.str (unb 18 0x6574616369746e65687475612d79786f7270)), (.str (unb 19 0x6e6f6974617a69726f687475612d79786f7270))])])], (.bool true)),
    ([(.agg [(.str (unb 14 0x6874676e654c2d746e65746e6f43)), (.str [49])]), (.fptr [(.lst false [(.str (unb 10 0x6e6f697463656e6e6f63)), (.str (unb 10 0x6576696c612d7065656b)), (.str (unb 16 0x6e6f697463656e6e6f632d79786f7270)), (.str [116,101]), (.str (unb 7 0x72656c69617274)), (.str (unb 17 0x676e69646f636e652d726566736e617274)), (.str (unb 7 0x65646172677075)), (.str (unb 18 0x6574616369746e65687475612d79786f7270)), (.str (unb 19 0x6e6f6974617a69726f687475612d79786f7270))])])], (.bool true)),
    ([(.agg [(.str (unb 13 0x6c6f72746e6f432d6568636143)), (.str (unb 9 0x393d6567612d78616d))]), (.fptr [(.lst false [(.str (unb 14 0x6874676e656c2d746e65746e6f63))])])], (.bool true)),
    ([(.agg [(.str (unb 14 0x6874676e654c2d746e65746e6f43)), (.str [49])]), (.fptr [(.lst false [(.str (unb 14 0x6874676e656c2d746e65746e6f63))])])], (.bool false)),
    ([(.agg [(.str (unb 17 0x6c6f72746e6f432d657461676f72727553)), (.str (unb 30 0x22302e312f495345223d746e65746e6f63202c352b393d6567612d78616d))]), (.fptr [(.lst false [(.str (unb 10 0x6e6f697463656e6e6f63)), (.str (unb 10 0x6576696c612d7065656b)), (.str (unb 16 0x6e6f697463656e6e6f632d79786f7270)), (.str [116,101]), (.str (unb 7 0x72656c69617274)), (.str (unb 17 0x676e69646f636e652d726566736e617274)), (.str (unb 7 0x65646172677075)), (.str (unb 18 0x6574616369746e65687475612d79786f7270)), (.str (unb 19 0x6e6f6974617a69726f687475612d79786f7270)), (.str [120,45,97])])])], (.bool true)),
    ([(.agg [(.str (unb 10 0x6e6f697463656e6e6f43)), (.str [88,45,65])]), (.fptr [(.lst false [(.str (unb 10 0x6e6f697463656e6e6f63)), (.str (unb 10 0x6576696c612d7065656b)), (.str (unb 16 0x6e6f697463656e6e6f632d79786f7270)), (.str [116,101]), (.str (unb 7 0x72656c69617274)), (.str (unb 17 0x676e69646f636e652d726566736e617274)), (.str (unb 7 0x65646172677075)), (.str (unb 18 0x6574616369746e65687475612d79786f7270)), (.str (unb 19 0x6e6f6974617a69726f687475612d79786f7270)), (.str [120,45,97])])])], (.bool false)),
    ([(.agg [(.str [88,45,65]), (.str [49])]), (.fptr [(.lst false [(.str (unb 10 0x6e6f697463656e6e6f63)), (.str (unb 10 0x6576696c612d7065656b)), (.str (unb 16 0x6e6f697463656e6e6f632d79786f7270)), (.str [116,101]), (.str (unb 7 0x72656c69617274)), (.str (unb 17 0x676e69646f636e652d726566736e617274)), (.str (unb 7 0x65646172677075)), (.str (unb 18 0x6574616369746e65687475612d79786f7270)), (.str (unb 19 0x6e6f6974617a69726f687475612d79786f7270)), (.str [120,45,97])])])], (.bool false)),
    ([(.agg [(.str [88,45,66]), (.str [50])]), (.fptr [(.lst false [(.str (unb 10 0x6e6f697463656e6e6f63)), (.str (unb 10 0x6576696c612d7065656b)), (.str (unb 16 0x6e6f697463656e6e6f632d79786f7270)), (.str [116,101]), (.str (unb 7 0x72656c69617274)), (.str (unb 17 0x676e69646f636e652d726566736e617274)), (.str (unb 7 0x65646172677075)), (.str (unb 18 0x6574616369746e65687475612d79786f7270)), (.str (unb 19 0x6e6f6974617a69726f687475612d79786f7270)), (.str [120,45,97])])])], (.bool true)),
    ([(.agg [(.str (unb 17 0x6c6f72746e6f432d657461676f72727553)), (.str (unb 30 0x22302e312f495345223d746e65746e6f63202c352b393d6567612d78616d))]), (.fptr [(.lst false [(.str (unb 14 0x6874676e656c2d746e65746e6f63))])])], (.bool true)),
    ([(.agg [(.str [88,45,66]), (.str [50])]), (.fptr [(.lst false [(.str (unb 14 0x6874676e656c2d746e65746e6f63))])])], (.bool true)),
    ([(.agg [(.str (unb 4 0x67615445)), (.str [34,97,34])]), (.fptr [(.lst false [(.str (unb 10 0x6e6f697463656e6e6f63)), (.str (unb 10 0x6576696c612d7065656b)), (.str (unb 16 0x6e6f697463656e6e6f632d79786f7270)), (.str [116,101]), (.str (unb 7 0x72656c69617274)), (.str (unb 17 0x676e69646f636e652d726566736e617274)), (.str (unb 7 0x65646172677075)), (.str (unb 18 0x6574616369746e65687475612d79786f7270)), (.str (unb 19 0x6e6f6974617a69726f687475612d79786f7270))])])], (.bool true)),
    ([(.agg [(.str (unb 13 0x6c6f72746e6f432d6568636143)), (.str (unb 9 0x323d6567612d78616d))]), (.fptr [(.lst false [(.str (unb 10 0x6e6f697463656e6e6f63)), (.str (unb 10 0x6576696c612d7065656b)), (.str (unb 16 0x6e6f697463656e6e6f632d79786f7270)), (.str [116,101]), (.str (unb 7 0x72656c69617274)), (.str (unb 17 0x676e69646f636e652d726566736e617274)), (.str (unb 7 0x65646172677075)), (.str (unb 18 0x6574616369746e65687475612d79786f7270)), (.str (unb 19 0x6e6f6974617a69726f687475612d79786f7270))])])], (.bool true)),
    ([(.agg [(.str (unb 4 0x79726156)), (.str (unb 6 0x65696b6f6f43))]), (.fptr [(.lst false [(.str (unb 10 0x6e6f697463656e6e6f63)), (.str (unb 10 0x6576696c612d7065656b)), (.str (unb 16 0x6e6f697463656e6e6f632d79786f7270)), (.str [116,101]), (.str (unb 7 0x72656c69617274)), (.str (unb 17 0x676e69646f636e652d726566736e617274)), (.str (unb 7 0x65646172677075)), (.str (unb 18 0x6574616369746e65687475612d79786f7270)), (.str (unb 19 0x6e6f6974617a69726f687475612d79786f7270))])])], (.bool true)),
    ([(.agg [(.str (unb 4 0x67615445)), (.str [34,97,34])]), (.fptr [(.lst false [(.str (unb 14 0x6874676e656c2d746e65746e6f63))])])], (.bool true)),
    ([(.agg [(.str (unb 13 0x6c6f72746e6f432d6568636143)), (.str (unb 9 0x323d6567612d78616d))]), (.fptr [(.lst false [(.str (unb 14 0x6874676e656c2d746e65746e6f63))])])], (.bool true)),
    ([(.agg [(.str (unb 4 0x79726156)), (.str (unb 6 0x65696b6f6f43))]), (.fptr [(.lst false [(.str (unb 14 0x6874676e656c2d746e65746e6f63))])])], (.bool true)),
    ([(.agg [(.str (unb 13 0x686374614d2d656e6f4e2d6649)), (.str [34,97,34])]), (.fptr [(.lst false [(.str (unb 14 0x6874676e656c2d746e65746e6f63)), (.str (unb 17 0x676e69646f636e652d726566736e617274))])])], (.bool true)),
    ([(.agg [(.str (unb 13 0x6c6f72746e6f432d6568636143)), (.str (unb 9 0x373d6567612d78616d))]), (.fptr [(.lst false [(.str (unb 10 0x6e6f697463656e6e6f63)), (.str (unb 10 0x6576696c612d7065656b)), (.str (unb 16 0x6e6f697463656e6e6f632d79786f7270)), (.str [116,101]), (.str (unb 7 0x72656c69617274)), (.str (unb 17 0x676e69646f636e652d726566736e617274)), (.str (unb 7 0x65646172677075)), (.str (unb 18 0x6574616369746e65687475612d79786f7270)), (.str (unb 19 0x6e6f6974617a69726f687475612d79786f7270)), (.str (unb 14 0x6874676e656c2d746e65746e6f63)), (.str (unb 16 0x676e69646f636e652d746e65746e6f63)), (.str (unb 12 0x657079742d746e65746e6f63)), (.str (unb 13 0x65676e61722d746e65746e6f63)), (.str (unb 4 0x79726176))])])], (.bool true)),
    ([(.agg [(.str (unb 4 0x67615445)), (.str [34,97,34])]), (.fptr [(.lst false [(.str [97,103,101]), (.str (unb 4 0x65746164)), (.str (unb 13 0x6c6f72746e6f432d6568636143))])])], (.bool true)),
    ([(.agg [(.str (unb 13 0x6c6f72746e6f432d6568636143)), (.str (unb 9 0x323d6567612d78616d))]), (.fptr [(.lst false [(.str [97,103,101]), (.str (unb 4 0x65746164)), (.str (unb 13 0x6c6f72746e6f432d6568636143))])])], (.bool false)),
    ([(.agg [(.str (unb 4 0x79726156)), (.str (unb 6 0x65696b6f6f43))]), (.fptr [(.lst false [(.str [97,103,101]), (.str (unb 4 0x65746164)), (.str (unb 13 0x6c6f72746e6f432d6568636143))])])], (.bool true)),
    ([(.agg [(.str (unb 13 0x6c6f72746e6f432d6568636143)), (.str (unb 8 0x65726f74732d6f6e))]), (.fptr [(.lst false [(.str (unb 10 0x6e6f697463656e6e6f63)), (.str (unb 10 0x6576696c612d7065656b)), (.str (unb 16 0x6e6f697463656e6e6f632d79786f7270)), (.str [116,101]), (.str (unb 7 0x72656c69617274)), (.str (unb 17 0x676e69646f636e652d726566736e617274)), (.str (unb 7 0x65646172677075)), (.str (unb 18 0x6574616369746e65687475612d79786f7270)), (.str (unb 19 0x6e6f6974617a69726f687475612d79786f7270))])])], (.bool true)),
    ([(.agg [(.str (unb 13 0x6c6f72746e6f432d6568636143)), (.str (unb 8 0x65726f74732d6f6e))]), (.fptr [(.lst false [(.str (unb 14 0x6874676e656c2d746e65746e6f63))])])], (.bool true))]),
  (213, [
    ([(.lst false [(.str [49])])], (.tup [(.lst false [(.str [49])]), (.int .i64 (0))]))]),
  (80, [
    ([(.lst false [(.str (unb 9 0x393d6567612d78616d))])], (.lst false [(.agg [(.str (unb 7 0x6567612d78616d)), (.str [57]), (.bool true), (.str [])])])),
    ([(.lst false [(.str (unb 11 0x352b393d6567612d78616d))])], (.lst false [(.agg [(.str (unb 7 0x6567612d78616d)), (.str [57,43,53]), (.bool true), (.str [])])])),
    ([(.lst false [(.str (unb 17 0x22302e312f495345223d746e65746e6f63))])], (.lst false [(.agg [(.str (unb 7 0x746e65746e6f63)), (.str (unb 7 0x302e312f495345)), (.bool true), (.str [])])])),
    ([(.lst false [(.str (unb 9 0x323d6567612d78616d))])], (.lst false [(.agg [(.str (unb 7 0x6567612d78616d)), (.str [50]), (.bool true), (.str [])])])),
    ([(.lst false [(.str (unb 9 0x373d6567612d78616d))])], (.lst false [(.agg [(.str (unb 7 0x6567612d78616d)), (.str [55]), (.bool true), (.str [])])])),
    ([(.lst false [(.str (unb 8 0x65726f74732d6f6e))])], (.lst false [(.agg [(.str (unb 8 0x65726f74732d6f6e)), (.str []), (.bool false), (.str [])])]))]),
  (91, [
    ([(.lst true []), (.lst false [(.str (unb 8 0x65726f74732d6f6e))])], (.bool false)),
    ([(.lst true []), (.lst false [(.str (unb 8 0x65726f74732d6f6e)), (.str (unb 7 0x65746176697270))])], (.bool false))]),
  (174, [
    ([(.str (unb 8 0x65726f74732d6f6e)), (.fptr [(.lst false [(.agg [(.str (unb 7 0x6567612d78616d)), (.str [57]), (.bool true), (.str [])])])])], (.bool false)),
    ([(.str (unb 7 0x65746176697270)), (.fptr [(.lst false [(.agg [(.str (unb 7 0x6567612d78616d)), (.str [57]), (.bool true), (.str [])])])])], (.bool false)),
    ([(.str (unb 8 0x65726f74732d6f6e)), (.fptr [(.lst false [(.agg [(.str (unb 7 0x6567612d78616d)), (.str [50]), (.bool true), (.str [])])])])], (.bool false)),
    ([(.str (unb 7 0x65746176697270)), (.fptr [(.lst false [(.agg [(.str (unb 7 0x6567612d78616d)), (.str [50]), (.bool true), (.str [])])])])], (.bool false)),
    ([(.str (unb 8 0x65726f74732d6f6e)), (.fptr [(.lst false [(.agg [(.str (unb 7 0x6567612d78616d)), (.str [55]), (.bool true), (.str [])])])])], (.bool false)),
    ([(.str (unb 7 0x65746176697270)), (.fptr [(.lst false [(.agg [(.str (unb 7 0x6567612d78616d)), (.str [55]), (.bool true), (.str [])])])])], (.bool false)),
    ([(.str (unb 8 0x65726f74732d6f6e)), (.fptr [(.lst false [(.agg [(.str (unb 8 0x65726f74732d6f6e)), (.str []), (.bool false), (.str [])])])])], (.bool true))]),
  (50, [
    ([(.agg [(.int .i64 (200)), (.str [79,75]), (.int .i64 (1)), (.lst false [(.agg [(.str (unb 13 0x6c6f72746e6f432d6568636143)), (.str (unb 9 0x393d6567612d78616d))])]), (.str [121]), (.int .i64 (100)), (.int .i64 (100)), (.lst true [])]), (.int .i64 (100))], (.int .i64 (0))),
    ([(.agg [(.int .i64 (200)), (.str [79,75]), (.int .i64 (1)), (.lst false [(.agg [(.str (unb 13 0x6c6f72746e6f432d6568636143)), (.str (unb 9 0x393d6567612d78616d))])]), (.str [121]), (.int .i64 (100)), (.int .i64 (100)), (.lst true [])]), (.int .i64 (105))], (.int .i64 (5))),
    ([(.agg [(.int .i64 (200)), (.str [79,75]), (.int .i64 (1)), (.lst false [(.agg [(.str (unb 13 0x6c6f72746e6f432d6568636143)), (.str (unb 9 0x393d6567612d78616d))])]), (.str [121]), (.int .i64 (100)), (.int .i64 (100)), (.lst true [])]), (.int .i64 (109))], (.int .i64 (9))),
    ([(.agg [(.int .i64 (200)), (.str [79,75]), (.int .i64 (1)), (.lst false [(.agg [(.str (unb 17 0x6c6f72746e6f432d657461676f72727553)), (.str (unb 30 0x22302e312f495345223d746e65746e6f63202c352b393d6567612d78616d))]), (.agg [(.str [88,45,66]), (.str [50])])]), (.str [121]), (.int .i64 (100)), (.int .i64 (100)), (.lst true [])]), (.int .i64 (100))], (.int .i64 (0))),
    ([(.agg [(.int .i64 (200)), (.str [79,75]), (.int .i64 (1)), (.lst false [(.agg [(.str (unb 17 0x6c6f72746e6f432d657461676f72727553)), (.str (unb 30 0x22302e312f495345223d746e65746e6f63202c352b393d6567612d78616d))]), (.agg [(.str [88,45,66]), (.str [50])])]), (.str [121]), (.int .i64 (100)), (.int .i64 (100)), (.lst true [])]), (.int .i64 (113))], (.int .i64 (13))),
    ([(.agg [(.int .i64 (200)), (.str [79,75]), (.int .i64 (1)), (.lst false [(.agg [(.str (unb 17 0x6c6f72746e6f432d657461676f72727553)), (.str (unb 30 0x22302e312f495345223d746e65746e6f63202c352b393d6567612d78616d))]), (.agg [(.str [88,45,66]), (.str [50])])]), (.str [121]), (.int .i64 (100)), (.int .i64 (100)), (.lst true [])]), (.int .i64 (114))], (.int .i64 (14))),
    ([(.agg [(.int .i64 (200)), (.str [79,75]), (.int .i64 (1)), (.lst false [(.agg [(.str (unb 17 0x6c6f72746e6f432d657461676f72727553)), (.str (unb 30 0x22302e312f495345223d746e65746e6f63202c352b393d6567612d78616d))]), (.agg [(.str [88,45,66]), (.str [50])])]), (.str [121]), (.int .i64 (100)), (.int .i64 (100)), (.lst true [])]), (.int .i64 (115))], (.int .i64 (15))),
    ([(.agg [(.int .i64 (200)), (.str [79,75]), (.int .i64 (1)), (.lst false [(.agg [(.str (unb 4 0x67615445)), (.str [34,97,34])]), (.agg [(.str (unb 13 0x6c6f72746e6f432d6568636143)), (.str (unb 9 0x323d6567612d78616d))]), (.agg [(.str (unb 4 0x79726156)), (.str (unb 6 0x65696b6f6f43))])]), (.str [122]), (.int .i64 (115)), (.int .i64 (115)), (.lst false [(.agg [(.str (unb 6 0x65696b6f6f63)), (.str [120])])])]), (.int .i64 (115))], (.int .i64 (0))),
    ([(.agg [(.int .i64 (200)), (.str [79,75]), (.int .i64 (1)), (.lst false [(.agg [(.str (unb 4 0x67615445)), (.str [34,97,34])]), (.agg [(.str (unb 13 0x6c6f72746e6f432d6568636143)), (.str (unb 9 0x323d6567612d78616d))]), (.agg [(.str (unb 4 0x79726156)), (.str (unb 6 0x65696b6f6f43))])]), (.str [122]), (.int .i64 (115)), (.int .i64 (115)), (.lst false [(.agg [(.str (unb 6 0x65696b6f6f63)), (.str [120])])])]), (.int .i64 (120))], (.int .i64 (5))),
    ([(.agg [(.int .i64 (200)), (.str [79,75]), (.int .i64 (1)), (.lst false [(.agg [(.str (unb 4 0x67615445)), (.str [34,97,34])]), (.agg [(.str (unb 4 0x79726156)), (.str (unb 6 0x65696b6f6f43))]), (.agg [(.str (unb 13 0x6c6f72746e6f432d6568636143)), (.str (unb 9 0x373d6567612d78616d))])]), (.str [122]), (.int .i64 (120)), (.int .i64 (120)), (.lst false [(.agg [(.str (unb 6 0x65696b6f6f63)), (.str [120])])])]), (.int .i64 (120))], (.int .i64 (0))),
    ([(.agg [(.int .i64 (200)), (.str [79,75]), (.int .i64 (1)), (.lst false [(.agg [(.str (unb 4 0x67615445)), (.str [34,97,34])]), (.agg [(.str (unb 4 0x79726156)), (.str (unb 6 0x65696b6f6f43))]), (.agg [(.str (unb 13 0x6c6f72746e6f432d6568636143)), (.str (unb 9 0x373d6567612d78616d))])]), (.str [122]), (.int .i64 (120)), (.int .i64 (120)), (.lst false [(.agg [(.str (unb 6 0x65696b6f6f63)), (.str [120])])])]), (.int .i64 (126))], (.int .i64 (6))),
    ([(.agg [(.int .i64 (200)), (.str [79,75]), (.int .i64 (1)), (.lst false [(.agg [(.str (unb 4 0x67615445)), (.str [34,97,34])]), (.agg [(.str (unb 4 0x79726156)), (.str (unb 6 0x65696b6f6f43))]), (.agg [(.str (unb 13 0x6c6f72746e6f432d6568636143)), (.str (unb 9 0x373d6567612d78616d))])]), (.str [122]), (.int .i64 (120)), (.int .i64 (120)), (.lst false [(.agg [(.str (unb 6 0x65696b6f6f63)), (.str [120])])])]), (.int .i64 (130))], (.int .i64 (10))),
    ([(.agg [(.int .i64 (200)), (.str [79,75]), (.int .i64 (1)), (.lst false [(.agg [(.str (unb 13 0x6c6f72746e6f432d6568636143)), (.str (unb 8 0x65726f74732d6f6e))])]), (.str [119]), (.int .i64 (130)), (.int .i64 (130)), (.lst true [])]), (.int .i64 (130))], (.int .i64 (0))),
    ([(.agg [(.int .i64 (200)), (.str [79,75]), (.int .i64 (1)), (.lst false [(.agg [(.str (unb 17 0x6c6f72746e6f432d657461676f72727553)), (.str (unb 30 0x22302e312f495345223d746e65746e6f63202c352b393d6567612d78616d))]), (.agg [(.str [88,45,66]), (.str [50])])]), (.str [121]), (.int .i64 (100)), (.int .i64 (100)), (.lst true [])]), (.int .i64 (130))], (.int .i64 (30))),
    ([(.agg [(.int .i64 (200)), (.str [79,75]), (.int .i64 (1)), (.lst false [(.agg [(.str (unb 17 0x6c6f72746e6f432d657461676f72727553)), (.str (unb 30 0x22302e312f495345223d746e65746e6f63202c352b393d6567612d78616d))]), (.agg [(.str [88,45,66]), (.str [50])])]), (.str [121]), (.int .i64 (100)), (.int .i64 (100)), (.lst true [])]), (.int .i64 (131))], (.int .i64 (31)))]),
  (77, [
    ([(.agg [(.int .i64 (200)), (.str [79,75]), (.int .i64 (1)), (.lst false [(.agg [(.str (unb 4 0x67615445)), (.str [34,97,34])]), (.agg [(.str (unb 13 0x6c6f72746e6f432d6568636143)), (.str (unb 9 0x323d6567612d78616d))]), (.agg [(.str (unb 4 0x79726156)), (.str (unb 6 0x65696b6f6f43))])]), (.str [122])])], (.tup [(.lst false [(.str (unb 6 0x65696b6f6f63))]), (.bool true)])),
    ([(.agg [(.int .i64 (200)), (.str [79,75]), (.int .i64 (1)), (.lst false [(.agg [(.str (unb 4 0x67615445)), (.str [34,97,34])]), (.agg [(.str (unb 4 0x79726156)), (.str (unb 6 0x65696b6f6f43))]), (.agg [(.str (unb 13 0x6c6f72746e6f432d6568636143)), (.str (unb 9 0x373d6567612d78616d))])]), (.str [122])])], (.tup [(.lst false [(.str (unb 6 0x65696b6f6f63))]), (.bool true)]))]),
  (116, [
    ([(.lst false [(.agg [(.str (unb 6 0x65696b6f6f63)), (.str [120])])]), (.str (unb 6 0x65696b6f6f63))], (.str [120]))]),
  (54, [
    ([(.str [34,97,34])], (.bool true))])]
theorem T6_0_ok : tableF C5 1000000 T6_0 = true := by kernel_rfl
end Go.Proofs.YtbmjbachkbomaaaGreatDoor
/- Layer 6 of the known calls. Conditions: none. -/
set_option linter.unusedVariables false
set_option maxRecDepth 100000
namespace Go.Proofs.YtbmjbachkbomaaaGreatDoor
open Go Go.Ev Go.RowKit
noncomputable def C6 : Ctx := withMemo C5 T6_0
theorem ok6 : CtxOk C6 := withMemo_ok ok5 (tableF_ok ok5 T6_0_ok)
end Go.Proofs.YtbmjbachkbomaaaGreatDoor
