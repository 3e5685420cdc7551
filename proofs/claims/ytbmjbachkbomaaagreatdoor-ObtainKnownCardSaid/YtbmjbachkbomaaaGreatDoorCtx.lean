/- The context in which the law is reckoned, and that it meets what is asked of it. No conditions. -/
import Derived.Test.YtbmjbachkbomaaaGreatDoorRows
import Derived.Test.YtbmjbachkbomaaaGreatDoorEvD
import Derived.Test.YtbmjbachkbomaaaGreatDoorShelf
import Derived.KernelRfl
/- The context in which the law is reckoned: what the evaluator is told of this program. Conditions: none. -/
set_option linter.unusedVariables false
set_option maxRecDepth 100000
namespace Go.Proofs.YtbmjbachkbomaaaGreatDoor
open Go Go.Ev Go.RowKit
instance gl : Globs := ⟨fun _ => none, [0]⟩
def keepT : Tr (List Nat) :=
  (.node 112 [0, 1, 2]
  (.node 52 [0, 1, 2, 3, 4, 8, 9, 23]
  (.node 27 [0, 1, 2]
  (.node 15 [0]
  (.node 9 [0, 1, 2, 3, 4, 6, 7, 10, 11, 12, 15, 42, 45]
  (.node 6 [0, 1, 2, 3, 8]
  (.node 4 [0, 1, 2, 3, 6]
  (.node 3 [0, 1, 2, 3, 4, 5, 6, 7, 8, 9, 10, 11, 12, 13, 14, 15, 16, 19, 74, 102, 146] .nil .nil)
  (.node 5 [0, 1, 4, 5, 10] .nil .nil))
  (.node 8 [0, 1, 4]
  (.node 7 [0, 1, 4, 5] .nil .nil) .nil))
  (.node 12 [0, 2]
  (.node 11 [0]
  (.node 10 [0] .nil .nil) .nil)
  (.node 14 [0, 1, 2, 3, 4, 5, 6, 8, 9, 14, 15, 16, 17, 18, 19, 20, 21, 22, 23, 52, 78, 86, 92, 93, 106, 124, 134]
  (.node 13 [0, 1, 4, 5, 19] .nil .nil) .nil)))
  (.node 21 [0, 1, 2, 3]
  (.node 18 [0, 1, 3, 4, 10]
  (.node 17 [0, 1, 2, 3, 4, 62, 63, 64, 71, 76]
  (.node 16 [0, 1, 4] .nil .nil) .nil)
  (.node 20 [0, 1, 2, 3, 6]
  (.node 19 [0, 1, 2, 6, 7, 8, 9, 11, 12, 16, 23, 24, 25, 26, 54, 58] .nil .nil) .nil))
  (.node 24 [0, 1, 2, 3, 4, 5, 6, 7, 8, 9, 10, 11, 20]
  (.node 23 [0, 1, 2, 6]
  (.node 22 [0, 1, 2, 3, 4, 5, 8, 9, 10, 11, 13, 14, 15, 16, 17, 25, 37, 55, 64, 65, 66, 67, 85] .nil .nil) .nil)
  (.node 26 [0, 1]
  (.node 25 [0, 2, 3, 4, 42, 48, 87, 113] .nil .nil) .nil))))
  (.node 40 [0, 1, 4]
  (.node 34 [0, 1, 2, 5, 6, 7, 9, 12]
  (.node 31 [0]
  (.node 29 [0, 1]
  (.node 28 [0, 2, 3, 4, 6, 8] .nil .nil)
  (.node 30 [0, 1] .nil .nil))
  (.node 33 [0, 1, 2, 3, 4, 5, 6, 7, 8, 9, 10, 11, 12, 13, 15, 37, 38, 39, 40, 46]
  (.node 32 [0, 1, 2, 6, 7, 8, 26, 38] .nil .nil) .nil))
  (.node 37 [0, 1, 4, 5, 6, 12, 21, 34]
  (.node 36 [0, 1, 4, 5, 6, 7, 8, 9, 10, 11, 12, 13, 16, 24, 31, 36, 59, 64, 73, 93, 107, 114, 132, 139]
  (.node 35 [0, 1, 2, 5, 6] .nil .nil) .nil)
  (.node 39 [0, 1, 3, 4, 5, 6]
  (.node 38 [0, 1, 4] .nil .nil) .nil)))
  (.node 46 [0, 1, 2, 4, 5, 7, 11, 12, 13, 14, 23]
  (.node 43 [0, 2]
  (.node 42 [0, 1, 2]
  (.node 41 [0, 1, 2, 3, 12, 24] .nil .nil) .nil)
  (.node 45 [0, 1, 4, 5, 6, 11]
  (.node 44 [0, 2, 3, 6, 19] .nil .nil) .nil))
  (.node 49 [0, 1, 2]
  (.node 48 [0, 1, 4, 5, 6, 8, 13, 14, 15, 16]
  (.node 47 [0, 1, 4, 5, 6, 11] .nil .nil) .nil)
  (.node 51 [0, 1, 2, 4, 5, 7, 8, 9, 15, 16, 17, 18, 30]
  (.node 50 [0, 1, 2, 4, 5, 6, 7, 8, 10, 16] .nil .nil) .nil)))))
  (.node 79 [0, 1, 2, 3, 4, 5, 8, 9, 10, 11, 13, 24, 25, 26, 27]
  (.node 67 [0, 1]
  (.node 61 [0, 2, 4, 7, 8, 9, 10, 11, 14, 18]
  (.node 58 [0, 1, 2, 5, 28]
  (.node 54 [0, 2, 5]
  (.node 53 [0, 1, 4, 5, 6] .nil .nil)
  (.node 55 [0, 2, 3, 4, 5, 10] .nil .nil))
  (.node 60 [0, 2, 5]
  (.node 59 [0, 2] .nil .nil) .nil))
  (.node 64 [0, 2, 4, 5, 6, 7, 8, 9, 15]
  (.node 63 [0, 1, 2, 3, 8, 9, 10, 11, 12, 14, 15, 22, 28, 36, 51, 52, 53, 54, 77, 78, 79]
  (.node 62 [0, 1, 2, 3, 4, 5, 6, 17, 21, 34] .nil .nil) .nil)
  (.node 66 [0, 1, 4, 5, 6, 13, 21]
  (.node 65 [0, 1, 2, 3] .nil .nil) .nil)))
  (.node 73 [0, 1, 2, 3]
  (.node 70 [0, 1, 4]
  (.node 69 [0, 1, 2]
  (.node 68 [0, 2, 3, 4, 5, 6, 7, 8, 11] .nil .nil) .nil)
  (.node 72 [0, 1, 2, 6, 7, 8, 9, 15, 20, 36]
  (.node 71 [0, 1, 2, 3] .nil .nil) .nil))
  (.node 76 [0, 2]
  (.node 75 [0, 1, 3, 4]
  (.node 74 [0, 1, 2, 4, 6, 7, 8, 10, 11, 20, 35, 49, 58, 66] .nil .nil) .nil)
  (.node 78 [0, 1, 4, 5, 6, 8, 11, 12, 13, 14]
  (.node 77 [0, 1, 2, 3, 4, 5, 7, 8, 9, 11, 12, 16, 17, 18, 19, 28, 29, 30, 31, 32, 47, 51] .nil .nil) .nil))))
  (.node 92 [0, 1, 3]
  (.node 86 [0, 1, 4, 5, 7, 8, 13, 14, 15, 16, 23]
  (.node 83 [0, 1, 4]
  (.node 81 [0, 1, 4, 6, 7, 8, 9, 10, 16]
  (.node 80 [0, 2, 3, 4, 6, 7] .nil .nil)
  (.node 82 [0, 1, 3, 4, 5, 6, 11] .nil .nil))
  (.node 85 [0, 1, 4]
  (.node 84 [0, 1, 2, 4] .nil .nil) .nil))
  (.node 89 [0, 1, 4]
  (.node 88 [0, 1]
  (.node 87 [0, 1] .nil .nil) .nil)
  (.node 91 [0, 1, 2, 4]
  (.node 90 [0, 1, 2, 3] .nil .nil) .nil)))
  (.node 99 [0, 1, 4]
  (.node 96 [0, 1, 2, 3, 7, 8, 9, 10, 11, 14, 23, 24, 76]
  (.node 94 [0, 1, 2]
  (.node 93 [0, 1, 2, 3, 5] .nil .nil) .nil)
  (.node 98 [0, 1, 4, 5, 10]
  (.node 97 [0, 1, 3, 4] .nil .nil) .nil))
  (.node 107 [0, 1, 4, 7, 15]
  (.node 106 [0, 1, 4, 7, 12]
  (.node 105 [0, 2, 3, 4, 5, 9, 16] .nil .nil) .nil)
  (.node 111 [0, 1, 4, 5, 7, 10, 21]
  (.node 110 [0, 1, 4] .nil .nil) .nil))))))
  (.node 168 [0, 1, 2, 4]
  (.node 141 [0, 1, 2, 6, 7, 8, 9, 41]
  (.node 125 [0, 2, 3]
  (.node 119 [0, 1]
  (.node 116 [0, 1, 4, 5, 7, 8, 9, 11, 14, 15, 16, 17, 26, 30, 31, 32, 33, 37]
  (.node 114 [0, 2]
  (.node 113 [0, 1, 2, 5] .nil .nil)
  (.node 115 [0, 1, 4, 7] .nil .nil))
  (.node 118 [0, 1]
  (.node 117 [0] .nil .nil) .nil))
  (.node 122 [0, 2, 3, 5]
  (.node 121 [0, 2]
  (.node 120 [0, 1, 4, 5] .nil .nil) .nil)
  (.node 124 [0, 1, 4, 7]
  (.node 123 [0, 1, 2, 4, 5, 6, 7, 8, 9, 19] .nil .nil) .nil)))
  (.node 135 [0, 2, 3, 4, 5, 6, 7, 10, 13, 14, 16, 21, 23, 46]
  (.node 129 [0, 1, 4, 5, 7, 8, 10, 12, 13, 15, 22, 29, 39, 40, 41, 42, 49, 63, 64, 65, 66]
  (.node 127 [0, 1, 2, 3, 4]
  (.node 126 [0, 1, 2, 4, 5, 6] .nil .nil) .nil)
  (.node 134 [0, 2, 3, 4, 8, 9, 10, 23]
  (.node 130 [0, 2, 3, 4, 26, 36, 37, 38, 53] .nil .nil) .nil))
  (.node 138 [0, 2, 3, 5, 6, 7, 13]
  (.node 137 [0, 2]
  (.node 136 [0, 2, 3] .nil .nil) .nil)
  (.node 140 [0, 1, 2]
  (.node 139 [0, 1, 2] .nil .nil) .nil))))
  (.node 155 [0, 1, 4, 5, 6, 7, 8, 9, 10, 11, 16, 26, 36, 41, 63]
  (.node 149 [0, 2, 3, 4, 5]
  (.node 145 [0, 1, 7, 21]
  (.node 143 [0, 1, 2, 3, 8, 9, 10, 11, 16, 26, 36]
  (.node 142 [0, 1, 4] .nil .nil)
  (.node 144 [0, 1, 4, 5, 6, 9, 15, 24] .nil .nil))
  (.node 148 [0, 1, 2, 3, 5]
  (.node 147 [0, 1, 4, 5, 6] .nil .nil) .nil))
  (.node 152 [0, 1, 4, 5, 6, 7, 42, 48]
  (.node 151 [0, 1, 4, 5, 6, 7, 9, 10, 11, 16, 40]
  (.node 150 [0, 1, 2, 3] .nil .nil) .nil)
  (.node 154 [0, 2, 3, 4, 5, 6, 7, 8, 9, 10, 12, 20, 28, 45, 49]
  (.node 153 [0, 2, 3, 4, 5, 12] .nil .nil) .nil)))
  (.node 162 [0, 2, 3, 5, 6, 9, 12, 13, 14, 15, 23, 24, 25, 26, 38]
  (.node 159 [0, 1, 4]
  (.node 158 [0, 1, 2, 3]
  (.node 157 [0, 1, 4, 6, 7, 8, 9, 10, 15] .nil .nil) .nil)
  (.node 161 [0, 1, 4]
  (.node 160 [0, 1, 3] .nil .nil) .nil))
  (.node 165 [0, 1, 4, 5, 7, 8, 9, 16]
  (.node 164 [0, 1, 2]
  (.node 163 [0, 1, 2, 4, 5, 6, 7, 8, 9, 10, 11, 12, 18, 21, 22, 23, 28, 30, 36, 41, 53, 60] .nil .nil) .nil)
  (.node 167 [0, 2]
  (.node 166 [0, 1, 2, 3] .nil .nil) .nil)))))
  (.node 208 [0, 1, 4, 5, 6, 7, 12]
  (.node 185 [0, 2]
  (.node 175 [0, 2, 3, 5, 6, 7, 8, 9]
  (.node 172 [0, 1, 2, 3]
  (.node 170 [0, 2, 4, 5, 6, 8, 9, 10, 11, 12, 21, 25, 26, 27, 28]
  (.node 169 [0, 1, 3, 4, 5, 7, 9, 10, 11, 12, 28] .nil .nil)
  (.node 171 [0] .nil .nil))
  (.node 174 [0, 1, 3, 5]
  (.node 173 [0, 1, 4, 5, 7, 8, 9, 16] .nil .nil) .nil))
  (.node 182 [0, 6, 19]
  (.node 181 [0, 2]
  (.node 178 [0, 1, 4] .nil .nil) .nil)
  (.node 184 [0, 2, 3, 4, 5, 7, 8, 9, 20]
  (.node 183 [0, 2] .nil .nil) .nil)))
  (.node 199 [0, 2]
  (.node 194 [0, 1, 4]
  (.node 187 [0, 1, 4, 5]
  (.node 186 [0, 2, 3, 4, 6, 7, 8, 9, 20] .nil .nil) .nil)
  (.node 198 [0, 1, 4, 5, 6, 7, 9, 11, 17, 23, 34]
  (.node 195 [0, 1, 3, 7, 17] .nil .nil) .nil))
  (.node 202 [0, 1, 4, 5, 7, 8, 9, 16]
  (.node 201 [0, 1, 2, 6, 7, 8, 18]
  (.node 200 [0, 2, 3, 4, 6, 7, 8, 22] .nil .nil) .nil)
  (.node 206 [0, 1, 4]
  (.node 203 [0, 2, 3, 5, 8, 9, 10, 11, 12] .nil .nil) .nil))))
  (.node 225 [0, 2, 3, 4, 5, 12, 33, 39, 42]
  (.node 218 [0, 1, 2, 3, 5, 12]
  (.node 212 [0, 2, 3, 4, 5, 6, 8, 9, 12, 19, 21, 22, 23, 24, 34, 45, 46, 47, 48, 55]
  (.node 210 [0, 2, 3, 4, 5, 6, 8, 9, 10, 30, 39, 44, 47, 48, 49, 50, 56, 66]
  (.node 209 [0, 2] .nil .nil) .nil)
  (.node 217 [0, 1, 4, 5, 7, 8, 9, 16]
  (.node 213 [0, 2, 3, 5, 6, 7, 8, 9, 10, 11, 20, 27] .nil .nil) .nil))
  (.node 221 [0, 1, 2, 3]
  (.node 220 [0, 2, 3, 4, 5, 6, 7, 8, 17, 24, 31]
  (.node 219 [0, 1, 4, 5, 6, 8, 9, 10, 11, 12, 13, 14, 23, 25, 26, 27, 28, 42] .nil .nil) .nil)
  (.node 223 [0, 1, 2, 3, 4]
  (.node 222 [0, 1, 4] .nil .nil) .nil)))
  (.node 238 [0, 1, 2, 3, 4, 5, 6]
  (.node 230 [0, 2]
  (.node 229 [0, 1, 4, 5, 6, 7, 8, 9, 10, 11, 14, 15, 16, 21, 23, 33, 36, 47, 48, 49, 50]
  (.node 228 [0, 1, 4] .nil .nil) .nil)
  (.node 235 [0, 1, 4, 5, 9]
  (.node 231 [0, 1, 4, 5, 6, 7, 8, 9, 10, 35] .nil .nil) .nil))
  (.node 253 [0, 2, 3, 4, 5, 6, 7, 23, 26, 27, 28, 34, 44, 54]
  (.node 243 [0, 2, 4]
  (.node 240 [0, 1, 4] .nil .nil) .nil)
  (.node 270 [0, 2]
  (.node 256 [0, 1, 2, 3, 6, 7, 8, 11, 14, 25, 33, 42] .nil .nil) .nil)))))))
def planT : Tr (List Plan) :=
  (.node 237574 [⟨[(0, 0), (1, 0), (2, 0), (3, 0), (4, 0), (5, 0), (6, 0), (7, 0), (8, 2), (9, 0), (10, 2)], []⟩]
  (.node 131077 [⟨[(0, 0), (1, 0), (2, 0), (3, 0), (4, 0), (5, 0), (6, 0), (7, 0), (8, 0), (9, 0), (10, 2)], []⟩]
  (.node 81921 [⟨[(0, 0), (1, 0), (2, 0), (3, 0), (4, 0), (5, 0), (6, 0), (7, 0)], []⟩]
  (.node 57365 [⟨[(0, 0), (1, 0), (2, 0), (3, 0), (4, 0), (5, 0), (6, 0), (7, 0), (8, 0)], []⟩]
  (.node 57348 [⟨[(0, 0), (1, 0), (2, 0), (3, 0), (4, 0), (5, 2), (6, 0), (7, 0), (8, 2)], [(1, 0, 1)]⟩]
  (.node 16390 [⟨[(0, 0), (1, 0), (2, 0), (3, 0), (4, 0), (5, 0), (6, 0), (7, 0), (8, 0), (9, 0), (10, 0), (11, 0), (12, 0), (13, 0), (14, 0), (15, 0), (16, 0), (17, 0), (18, 0), (19, 0), (20, 0), (21, 0), (22, 0), (23, 0), (24, 0), (25, 0), (26, 0), (27, 0), (28, 0), (29, 0), (30, 0), (31, 0), (32, 2), (33, 0), (34, 0), (35, 0), (36, 0), (37, 2), (38, 0), (39, 0), (40, 0), (41, 0)], []⟩] .nil .nil) .nil)
  (.node 77837 [⟨[(0, 0), (1, 0), (2, 0), (3, 0), (4, 0), (5, 0), (6, 0), (7, 0), (8, 0), (9, 2)], []⟩]
  (.node 57367 [⟨[(0, 0), (1, 0), (2, 0), (3, 0), (4, 0), (5, 0), (6, 0), (7, 2)], []⟩] .nil .nil) .nil))
  (.node 102412 [⟨[(0, 0), (1, 0), (2, 0), (3, 0), (4, 0), (5, 0), (6, 0), (7, 0), (8, 0), (9, 0), (10, 0), (11, 0), (12, 0), (13, 0), (14, 0), (15, 0), (16, 0), (17, 0), (18, 0), (19, 0), (20, 0), (21, 2)], []⟩]
  (.node 102404 [⟨[(0, 0), (1, 0), (2, 0), (3, 0), (4, 0), (5, 0), (6, 0), (7, 0), (8, 0), (9, 0), (10, 0), (11, 0), (12, 0), (13, 0), (14, 0), (15, 0), (16, 2)], []⟩]
  (.node 98313 [⟨[(0, 0), (1, 0), (2, 0), (3, 2), (4, 0), (5, 0)], [(2, 0, 1)]⟩] .nil .nil) .nil)
  (.node 114693 [⟨[(0, 0), (1, 0), (2, 0), (3, 0), (4, 0), (5, 0), (6, 0), (7, 0), (8, 0), (9, 0), (10, 0), (11, 0), (12, 0), (13, 0), (14, 0), (15, 0), (16, 0), (17, 0), (18, 0), (19, 0), (20, 0), (21, 0), (22, 0), (23, 0), (24, 0), (25, 0), (26, 0), (27, 0), (28, 0), (29, 0), (30, 0), (31, 0), (32, 0), (33, 0), (34, 0), (35, 0), (36, 0), (37, 0), (38, 0), (39, 0), (40, 0), (41, 0), (42, 0), (43, 0)], []⟩] .nil .nil)))
  (.node 151556 [⟨[(0, 0), (1, 0), (2, 0), (3, 0), (4, 0), (5, 0), (6, 0), (7, 0)], []⟩]
  (.node 135171 [⟨[(0, 0), (1, 0), (2, 0), (3, 0), (4, 0), (5, 0), (6, 1), (7, 2)], []⟩]
  (.node 131080 [⟨[(0, 0), (1, 0), (2, 0), (3, 0), (4, 0), (5, 0), (6, 0), (7, 0), (8, 0), (9, 0), (10, 0), (11, 0), (12, 1), (13, 2)], []⟩]
  (.node 131079 [⟨[(0, 0), (1, 0), (2, 0), (3, 0), (4, 0), (5, 0), (6, 0), (7, 0), (8, 0), (9, 0), (10, 0), (11, 0), (12, 0), (13, 2)], []⟩] .nil .nil) .nil)
  (.node 143361 [⟨[(0, 0), (1, 2), (2, 0), (3, 0), (4, 0), (5, 0), (6, 0), (7, 0), (8, 0), (9, 0), (10, 0), (11, 2), (12, 0), (13, 0)], []⟩]
  (.node 139269 [⟨[(0, 0), (1, 0), (2, 0), (3, 0), (4, 0), (5, 0), (6, 0), (7, 0), (8, 0), (9, 0), (11, 0), (12, 0), (13, 0), (14, 0), (10, 2), (15, 0), (16, 2)], [(3, 0, 1), (14, 0, 1)]⟩] .nil .nil) .nil))
  (.node 204806 [⟨[(0, 0), (1, 0), (2, 0), (3, 0), (4, 0), (5, 0), (6, 0), (7, 0), (8, 0)], []⟩]
  (.node 200705 [⟨[(0, 0), (1, 0), (2, 0), (3, 0), (4, 0), (5, 0), (6, 0), (7, 0), (8, 0), (9, 2), (10, 0), (11, 2)], []⟩]
  (.node 188421 [⟨[(0, 0), (1, 0), (2, 0), (4, 0), (5, 0), (3, 2), (6, 0)], [(5, 0, 1)]⟩] .nil .nil) .nil)
  (.node 225284 [⟨[(0, 0), (1, 0), (2, 0), (3, 0), (4, 0), (5, 0), (6, 0)], []⟩] .nil .nil))))
  (.node 401413 [⟨[(0, 0), (1, 0), (2, 0), (3, 0), (4, 0), (5, 0), (6, 0), (7, 0), (8, 0), (9, 0), (10, 0), (11, 2)], []⟩]
  (.node 303119 [⟨[(0, 0), (1, 0), (2, 0), (3, 0), (4, 0), (5, 0), (6, 0)], []⟩]
  (.node 303109 [⟨[(0, 0), (1, 0), (2, 0), (3, 0), (4, 0), (5, 0), (6, 0), (7, 0), (8, 0), (9, 0), (10, 0), (11, 0), (12, 0), (13, 0), (14, 0), (15, 0), (16, 0)], []⟩]
  (.node 303107 [⟨[(0, 0), (1, 0), (2, 0), (3, 0), (4, 0), (5, 0), (6, 0), (7, 0)], []⟩]
  (.node 278540 [⟨[(0, 0), (1, 0), (2, 0), (3, 0), (4, 2), (5, 2), (6, 2), (7, 2)], [(1, 0, 1), (2, 0, 2), (3, 0, 3)]⟩] .nil .nil) .nil)
  (.node 303118 [⟨[(0, 0), (1, 0), (2, 0), (3, 0), (4, 0), (5, 0), (6, 0), (7, 0), (8, 0), (9, 0), (10, 0), (11, 0), (12, 0), (13, 0), (14, 0), (15, 0), (16, 0)], []⟩]
  (.node 303114 [⟨[(0, 0), (1, 0), (2, 0), (3, 0), (4, 0), (5, 0), (6, 0), (7, 0), (8, 0), (9, 0)], []⟩] .nil .nil) .nil))
  (.node 393228 [⟨[(0, 0), (1, 0), (2, 0), (3, 0), (4, 0), (5, 0), (6, 0), (7, 0), (8, 0), (9, 0), (10, 0), (11, 0), (12, 0), (13, 0), (14, 0), (15, 0), (16, 0), (17, 0), (18, 0), (19, 0), (20, 0)], []⟩]
  (.node 393226 [⟨[(0, 0), (1, 0), (2, 0), (3, 0), (4, 0), (5, 0), (6, 0), (7, 0), (8, 0), (9, 0), (10, 0), (11, 2)], []⟩]
  (.node 352263 [⟨[(0, 0), (1, 0), (2, 0), (3, 0), (4, 0), (5, 0), (6, 0), (7, 2)], []⟩] .nil .nil) .nil)
  (.node 397313 [⟨[(0, 0), (1, 0), (2, 0), (3, 0), (4, 0), (5, 0), (6, 0), (7, 0), (8, 0), (9, 0), (10, 0), (11, 0), (12, 0), (13, 0), (14, 0), (15, 0), (16, 0), (17, 0), (18, 0), (19, 0), (20, 0), (21, 0), (22, 0)], []⟩] .nil .nil)))
  (.node 593923 [⟨[(0, 0), (1, 0), (2, 0), (3, 0), (4, 0), (5, 0), (6, 0), (7, 0), (8, 0), (9, 0), (10, 0), (11, 0), (12, 0)], []⟩]
  (.node 483329 [⟨[(0, 0), (1, 0), (2, 0), (3, 0), (4, 0), (5, 0), (6, 0), (7, 0), (8, 0), (9, 0), (10, 0), (11, 0), (12, 0), (13, 0), (14, 0), (15, 2), (16, 0), (17, 0), (18, 2)], []⟩]
  (.node 483328 [⟨[(0, 0), (1, 0), (2, 0), (3, 0), (4, 0), (5, 0), (6, 0), (7, 0), (8, 0), (9, 0), (10, 0), (11, 0), (12, 0), (13, 0), (14, 0), (15, 2), (16, 0), (17, 0), (18, 2)], []⟩]
  (.node 479232 [⟨[(0, 0), (1, 0), (2, 0), (3, 0), (4, 0), (5, 0), (6, 0), (7, 0), (8, 0), (9, 0), (10, 0), (11, 0), (12, 0), (13, 0), (14, 0), (15, 0), (16, 0), (17, 0), (18, 2), (19, 0), (20, 0), (21, 2)], []⟩] .nil .nil) .nil)
  (.node 516098 [⟨[(0, 0), (1, 0), (2, 0), (3, 0), (4, 0), (5, 0), (6, 0)], []⟩]
  (.node 495617 [⟨[(0, 0), (1, 0), (2, 0), (3, 0), (4, 0), (5, 0), (6, 0), (7, 0), (8, 0), (9, 0), (10, 2), (11, 0)], []⟩] .nil .nil) .nil))
  (.node 843776 [⟨[(0, 0), (1, 0), (2, 0), (3, 0), (4, 0), (5, 0), (6, 0), (7, 0), (9, 0), (10, 0), (11, 0), (12, 0), (13, 0), (8, 2), (14, 0), (15, 0)], [(12, 0, 1), (13, 0, 1)]⟩]
  (.node 761857 [⟨[(0, 0), (1, 0), (2, 0), (3, 0), (4, 0), (5, 0), (6, 0), (7, 0), (8, 0), (9, 0), (10, 1), (11, 2), (12, 0)], []⟩]
  (.node 618504 [⟨[(0, 0), (1, 0), (2, 0), (3, 0), (4, 0), (5, 0), (6, 0), (7, 0), (8, 0), (9, 0), (10, 0), (11, 0), (12, 0), (13, 0), (14, 0), (15, 0), (16, 0), (17, 0), (18, 0), (19, 0), (20, 0)], []⟩] .nil .nil) .nil)
  (.node 851971 [⟨[(0, 0), (1, 0), (2, 0), (3, 0), (4, 0), (5, 0), (6, 0), (7, 0), (8, 0), (9, 0), (10, 0), (11, 0)], []⟩] .nil .nil)))))
def fnM : Nat := 1897267872569680925683469050191022413062362583117769682029577844919285041042817016
def pureM : Nat := 533996758982170183816940827899351273300301065336737441233069135863427973511030287719538611428628
noncomputable def C0 : Ctx where
  P := Tryz.prog
  ty := tyIn Tryz.prog 358
  fn := fnOf Tryz.prog fnM
  pure := fun f => Nat.testBit pureM f
  thaw := fun g f => [(79, 162), (79, 75), (143, 75), (75, 157), (76, 75)].any fun p => Nat.beq p.1 g && Nat.beq p.2 f
  keep := fun f => Tr.get [] keepT f
  plan := fun f i => Tr.get [] planT (f * 4096 + i)
  prim := fun f => (cond (Nat.beq f 99) (some primIndexByte) (cond (Nat.beq f 36) (some primIndex) (cond (Nat.beq f 205) (some primCountByte) none)))
  hprim := fun f => (cond (Nat.beq f 234) (some hprimSame) (cond (Nat.beq f 247) (some (hprimNoZero 5)) none))
  meth := methOf Tryz.prog
  eqt := fun t => !Tryz.prog.stoodInHeld t && !Tryz.prog.eqGuardType Tryz.prog.depth t
theorem funcs_size : Tryz.prog.funcs.size = 319 := by kernel_rfl
theorem ty_ok : tyB Tryz.prog 358 = true := by kernel_rfl
end Go.Proofs.YtbmjbachkbomaaaGreatDoor
/- The context meets what is asked of it: part 0. Conditions: none. -/
set_option linter.unusedVariables false
set_option maxRecDepth 100000
namespace Go.Proofs.YtbmjbachkbomaaaGreatDoor
open Go Go.Ev Go.RowKit
theorem fn_ok_0 : fnB C0 0 40 = true := by kernel_rfl
theorem wf_ok_0 : wfB C0 0 40 = true := by kernel_rfl
theorem fn_ok_40 : fnB C0 40 40 = true := by kernel_rfl
theorem wf_ok_40 : wfB C0 40 40 = true := by kernel_rfl
theorem fn_ok_80 : fnB C0 80 40 = true := by kernel_rfl
theorem wf_ok_80 : wfB C0 80 40 = true := by kernel_rfl
end Go.Proofs.YtbmjbachkbomaaaGreatDoor
/- The context meets what is asked of it: part 1. Conditions: none. -/
set_option linter.unusedVariables false
set_option maxRecDepth 100000
namespace Go.Proofs.YtbmjbachkbomaaaGreatDoor
open Go Go.Ev Go.RowKit
theorem fn_ok_120 : fnB C0 120 40 = true := by kernel_rfl
theorem wf_ok_120 : wfB C0 120 40 = true := by kernel_rfl
theorem fn_ok_160 : fnB C0 160 40 = true := by kernel_rfl
theorem wf_ok_160 : wfB C0 160 40 = true := by kernel_rfl
theorem fn_ok_200 : fnB C0 200 40 = true := by kernel_rfl
theorem wf_ok_200 : wfB C0 200 40 = true := by kernel_rfl
end Go.Proofs.YtbmjbachkbomaaaGreatDoor
/- The context meets what is asked of it: part 2. Conditions: none. -/
set_option linter.unusedVariables false
set_option maxRecDepth 100000
namespace Go.Proofs.YtbmjbachkbomaaaGreatDoor
open Go Go.Ev Go.RowKit
theorem fn_ok_240 : fnB C0 240 40 = true := by kernel_rfl
theorem wf_ok_240 : wfB C0 240 40 = true := by kernel_rfl
theorem fn_ok_280 : fnB C0 280 40 = true := by kernel_rfl
theorem wf_ok_280 : wfB C0 280 40 = true := by kernel_rfl
end Go.Proofs.YtbmjbachkbomaaaGreatDoor
/- The context meets what is asked of it. Conditions: none. -/
set_option linter.unusedVariables false
set_option maxRecDepth 100000
namespace Go.Proofs.YtbmjbachkbomaaaGreatDoor
open Go Go.Ev Go.RowKit
theorem parts (f : Nat) (h : f < 319) : (0 ≤ f ∧ f < 0 + 40) ∨ (40 ≤ f ∧ f < 40 + 40) ∨ (80 ≤ f ∧ f < 80 + 40) ∨ (120 ≤ f ∧ f < 120 + 40) ∨ (160 ≤ f ∧ f < 160 + 40) ∨ (200 ≤ f ∧ f < 200 + 40) ∨ (240 ≤ f ∧ f < 240 + 40) ∨ (280 ≤ f ∧ f < 280 + 40) := by omega
theorem fn_all (f : Nat) (fn : Func) (h : f < C0.P.funcs.size) (hf : C0.fn f = some fn) : (fn.name == "runtime.NumGoroutine") = false ∧ ∀ c, fn.body = some c → okC fn.ntmps c = true := by
  have h2 : f < 319 := by rw [← funcs_size]; exact h
  rcases parts f h2 with ⟨a, b⟩ | ⟨a, b⟩ | ⟨a, b⟩ | ⟨a, b⟩ | ⟨a, b⟩ | ⟨a, b⟩ | ⟨a, b⟩ | ⟨a, b⟩
  · exact fnB_at fn_ok_0 a b hf
  · exact fnB_at fn_ok_40 a b hf
  · exact fnB_at fn_ok_80 a b hf
  · exact fnB_at fn_ok_120 a b hf
  · exact fnB_at fn_ok_160 a b hf
  · exact fnB_at fn_ok_200 a b hf
  · exact fnB_at fn_ok_240 a b hf
  · exact fnB_at fn_ok_280 a b hf
theorem wf_all (f : Nat) (fn : Func) (c : Code) (hf : C0.fn f = some fn) (hc : fn.body = some c) : Wf C0 f c := by
  have h2 : f < 319 := by rw [← funcs_size]; exact (fnOf_some hf).2
  rcases parts f h2 with ⟨a, b⟩ | ⟨a, b⟩ | ⟨a, b⟩ | ⟨a, b⟩ | ⟨a, b⟩ | ⟨a, b⟩ | ⟨a, b⟩ | ⟨a, b⟩
  · exact wfB_at wf_ok_0 a b hf hc
  · exact wfB_at wf_ok_40 a b hf hc
  · exact wfB_at wf_ok_80 a b hf hc
  · exact wfB_at wf_ok_120 a b hf hc
  · exact wfB_at wf_ok_160 a b hf hc
  · exact wfB_at wf_ok_200 a b hf hc
  · exact wfB_at wf_ok_240 a b hf hc
  · exact wfB_at wf_ok_280 a b hf hc
theorem tab : TabOk C0 := tab_of rfl rfl rfl rfl ty_ok fn_all
theorem prims : PrimsOk C0 where
  prim f F xs v h1 h2 := by
    simp only [C0] at h1
    by_cases e1 : f = 99
    · subst e1
      have e : F = primIndexByte := (Option.some.inj h1).symm
      subst e
      have k := indexByte_ok (C := C0) (has_body (show C0.fn 99 = some Tryz.f99 by kernel_rfl) (show Tryz.f99.body = some _ from rfl)) (fun s c w => Tryz.stringslite_IndexByte s c w) h2
      exact .inl ⟨k.body, k.call, k.fr⟩
    by_cases e2 : f = 36
    · subst e2
      have e : F = primIndex := (Option.some.inj h1).symm
      subst e
      have k := index_ok (C := C0) (has_body (show C0.fn 36 = some Tryz.f36 by kernel_rfl) (show Tryz.f36.body = some _ from rfl)) (g := 0) (by simp [Globs.ints]) (fun s t m w hs hm => Tryz.stringslite_Index s t m w hs hm) h2
      exact .inl ⟨k.body, k.call, k.fr⟩
    by_cases e3 : f = 205
    · subst e3
      have e : F = primCountByte := (Option.some.inj h1).symm
      subst e
      exact .inr (countByte_ok (C := C0) (fn := Tryz.f205) Tryz.func205 (by kernel_rfl) (by kernel_rfl) (by kernel_rfl) (by kernel_rfl) h2)
    exfalso
    have nb : ∀ k : Nat, f ≠ k → Nat.beq f k = false := fun k hk => by
      cases hb : Nat.beq f k with
      | true => exact absurd (Nat.eq_of_beq_eq_true hb) hk
      | false => rfl
    rw [nb _ e1, nb _ e2, nb _ e3] at h1
    cases h1
  hprim f F args H v H2 h1 h2 := by
    simp only [C0] at h1
    by_cases e1 : f = 234
    · subst e1
      have e : F = hprimSame := (Option.some.inj h1).symm
      subst e
      exact same_ok (C := C0) (fn := Tryz.f234) Tryz.func234 (by kernel_rfl) (by kernel_rfl) (by kernel_rfl) (by kernel_rfl) h2
    by_cases e2 : f = 247
    · subst e2
      have e : F = hprimNoZero 5 := (Option.some.inj h1).symm
      subst e
      exact noZero_ok (C := C0) (fn := Tryz.f247) (t := 166) (ps := Tryz.f247.params) Tryz.func247 (by kernel_rfl) (by kernel_rfl) (by kernel_rfl) (by kernel_rfl) (by kernel_rfl) h2
    exfalso
    have nb : ∀ k : Nat, f ≠ k → Nat.beq f k = false := fun k hk => by
      cases hb : Nat.beq f k with
      | true => exact absurd (Nat.eq_of_beq_eq_true hb) hk
      | false => rfl
    rw [nb _ e1, nb _ e2] at h1
    cases h1
theorem hkeep : ∀ f F args H v H2, C0.hprim f = some F → F args H = some (v, H2) → Keeps H H2 := by
  intro f F args H v H2 h1 h2
  simp only [C0] at h1
  by_cases e1 : f = 234
  · subst e1
    have e : F = hprimSame := (Option.some.inj h1).symm
    subst e
    exact hprimSame_keeps h2
  by_cases e2 : f = 247
  · subst e2
    have e : F = hprimNoZero 5 := (Option.some.inj h1).symm
    subst e
    exact hprimNoZero_keeps h2
  exfalso
  have nb : ∀ k : Nat, f ≠ k → Nat.beq f k = false := fun k hk => by
    cases hb : Nat.beq f k with
    | true => exact absurd (Nat.eq_of_beq_eq_true hb) hk
    | false => rfl
  rw [nb _ e1, nb _ e2] at h1
  cases h1
theorem ctx_ok : CtxOk C0 := ⟨tab, prims, hkeep, wf_all⟩
end Go.Proofs.YtbmjbachkbomaaaGreatDoor
