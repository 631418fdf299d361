/- The program's functions as abstract texts (printed by Gen.lean), each checked against the program. -/
import Derived.Test.YtkeipmkiilimeaaKB
import Derived.Test.YtkeipmkiilimeaaProg
import Derived.KernelRfl

set_option maxRecDepth 100000
namespace Go.Proofs.Ytkeipmkiilimeaa.V
open Go
/-- garment/garmentlaw02.IntegerProducts -/
def F3 : AFun :=
(⟨
(.seq
 (.region [⟨some 2, .box (.t 0), none⟩,
 ⟨some 3, .box (.t 1), none⟩,
 ⟨some 4, .mv (.c (.bool false)), none⟩] [2, 3])
(.seq
 (.seq
 (.region [⟨some 11, .load 2 true (.t 2), none⟩,
 ⟨some 12, .load 2 true (.t 3), none⟩,
 ⟨some 13, .call 12 [((.t 11), .pure), ((.t 12), .pure)] 1 false, none⟩,
 ⟨some 14, .un .not (.t 13), none⟩] [2, 3, 14])
 (.cond (.t 14)
 (.seq
 (.region [⟨some 15, .call 13 [] 1 false, none⟩,
 ⟨some 4, .mv (.t 15), none⟩] [4])
 .ret)
 .skip))
(.seq
 (.region [⟨some 17, .load 2 true (.t 2), none⟩,
 ⟨some 18, .load 2 true (.t 3), none⟩,
 ⟨some 19, .call 14 [((.t 17), .pure), ((.t 18), .pure)] 3 false, none⟩,
 ⟨some 16, .mv (.t 19), none⟩,
 ⟨some 20, .ext (.t 16) 0, none⟩,
 ⟨some 21, .ext (.t 16) 1, none⟩,
 ⟨some 22, .ext (.t 16) 2, none⟩,
 ⟨some 5, .alloc [(.bool false), (.ints .u32 [])], none⟩,
 ⟨some 6, .alloc [(.bool false), (.ints .u32 [])], none⟩,
 ⟨none, .store 2 (.t 5) (.t 20), none⟩,
 ⟨none, .store 2 (.t 6) (.t 21), none⟩,
 ⟨some 7, .mv (.t 22), none⟩] [2, 3, 5, 6, 7])
(.seq
 (.region [⟨some 24, .load 2 true (.t 2), none⟩,
 ⟨some 25, .load 2 true (.t 3), none⟩,
 ⟨some 26, .call 15 [((.t 24), .pure), ((.t 25), .pure)] 3 false, none⟩,
 ⟨some 23, .mv (.t 26), none⟩,
 ⟨some 27, .ext (.t 23) 0, none⟩,
 ⟨some 28, .ext (.t 23) 1, none⟩,
 ⟨some 29, .ext (.t 23) 2, none⟩,
 ⟨some 8, .alloc [(.bool false), (.ints .u32 [])], none⟩,
 ⟨some 9, .alloc [(.bool false), (.ints .u32 [])], none⟩,
 ⟨none, .store 2 (.t 8) (.t 27), none⟩,
 ⟨none, .store 2 (.t 9) (.t 28), none⟩,
 ⟨some 10, .mv (.t 29), none⟩] [2, 3, 5, 6, 7, 8, 9, 10])
(.seq
 (.dregion [⟨some 30, .load 2 true (.t 2), none⟩,
 ⟨some 31, .load 2 true (.t 3), none⟩,
 ⟨some 32, .call 17 [((.t 30), .pure), ((.t 31), .pure)] 1 false, none⟩,
 ⟨some 33, .load 2 true (.t 2), none⟩,
 ⟨some 34, .load 2 true (.t 3), none⟩,
 ⟨some 35, .call 18 [((.t 33), .pure), ((.t 34), .pure)] 1 false, none⟩,
 ⟨some 36, .call 16 [((.t 32), .pure), ((.t 35), .pure)] 1 false, none⟩,
 ⟨some 37, .mv (.t 36), none⟩,
 ⟨some 38, .load 2 true (.t 5), some (37, true)⟩,
 ⟨some 39, .load 2 true (.t 8), some (37, true)⟩,
 ⟨some 40, .call 16 [((.t 38), .pure), ((.t 39), .pure)] 1 false, some (37, true)⟩,
 ⟨some 41, .pick (.t 37) (.t 40) (.c (.bool false)), none⟩,
 ⟨some 42, .mv (.t 41), none⟩,
 ⟨some 43, .load 2 true (.t 6), some (42, true)⟩,
 ⟨some 44, .load 2 true (.t 9), some (42, true)⟩,
 ⟨some 45, .call 16 [((.t 43), .pure), ((.t 44), .pure)] 1 false, some (42, true)⟩,
 ⟨some 46, .pick (.t 42) (.t 45) (.c (.bool false)), none⟩,
 ⟨some 47, .mv (.t 46), none⟩,
 ⟨some 48, .mv (.t 7), some (47, true)⟩,
 ⟨some 49, .mv (.t 10), some (47, true)⟩,
 ⟨some 50, .beq .eql (.t 48) (.t 49), some (47, true)⟩,
 ⟨some 51, .pick (.t 47) (.t 50) (.c (.bool false)), none⟩,
 ⟨some 52, .mv (.t 51), none⟩,
 ⟨some 53, .call 13 [] 1 false, some (52, true)⟩,
 ⟨some 54, .pick (.t 52) (.t 53) (.c (.bool false)), none⟩,
 ⟨some 4, .mv (.t 54), none⟩] [4] [(2, 3), (2, 4)])
.ret))))),
[.tmp 4]⟩ : AFun)
theorem tr3 : trFun Try.prog F3 Try.f3 = some F3 := by kernel_rfl
/-- garment/garmentlaw02.IntegerTexts -/
def F4 : AFun :=
(⟨
(.seq
 (.region [⟨some 2, .box (.t 0), none⟩,
 ⟨some 4, .mv (.c (.bool false)), none⟩] [1, 2])
(.seq
 (.seq
 (.region [⟨some 9, .load 2 true (.t 2), none⟩,
 ⟨some 10, .call 19 [((.t 9), .pure), ((.c (.int .i64 40)), .pure)] 1 false, none⟩,
 ⟨some 11, .un .not (.t 10), none⟩,
 ⟨some 12, .mv (.t 11), none⟩,
 ⟨some 13, .mv (.t 1), some (12, false)⟩,
 ⟨some 14, .slen (.t 13), some (12, false)⟩,
 ⟨some 15, .bin .gtr (.t 14) (.c (.int .i64 400)), some (12, false)⟩,
 ⟨some 16, .pick (.t 12) (.c (.bool true)) (.t 15), none⟩] [1, 2, 16])
 (.cond (.t 16)
 (.seq
 (.region [⟨some 17, .call 13 [] 1 false, none⟩,
 ⟨some 4, .mv (.t 17), none⟩] [4])
 .ret)
 .skip))
(.seq
 (.region [⟨some 19, .mv (.t 1), none⟩,
 ⟨some 20, .call 20 [((.t 19), .pure)] 2 false, none⟩,
 ⟨some 18, .mv (.t 20), none⟩,
 ⟨some 21, .ext (.t 18) 0, none⟩,
 ⟨some 22, .ext (.t 18) 1, none⟩,
 ⟨some 5, .alloc [(.bool false), (.ints .u32 [])], none⟩,
 ⟨none, .store 2 (.t 5) (.t 21), none⟩,
 ⟨some 6, .mv (.t 22), none⟩] [1, 2, 5, 6])
(.seq
 (.region [⟨some 24, .mv (.t 1), none⟩,
 ⟨some 25, .call 21 [((.t 24), .pure)] 2 false, none⟩,
 ⟨some 23, .mv (.t 25), none⟩,
 ⟨some 26, .ext (.t 23) 0, none⟩,
 ⟨some 27, .ext (.t 23) 1, none⟩,
 ⟨some 7, .alloc [(.bool false), (.ints .u32 [])], none⟩,
 ⟨none, .store 2 (.t 7) (.t 26), none⟩,
 ⟨some 8, .mv (.t 27), none⟩] [2, 5, 6, 7, 8])
(.seq
 (.dregion [⟨some 28, .load 2 true (.t 2), none⟩,
 ⟨some 29, .call 22 [((.t 28), .pure)] 1 false, none⟩,
 ⟨some 30, .load 2 true (.t 2), none⟩,
 ⟨some 31, .call 23 [((.t 30), .pure)] 1 false, none⟩,
 ⟨some 32, .bin .eql (.t 29) (.t 31), none⟩,
 ⟨some 33, .mv (.t 32), none⟩,
 ⟨some 34, .load 2 true (.t 5), some (33, true)⟩,
 ⟨some 35, .load 2 true (.t 7), some (33, true)⟩,
 ⟨some 36, .call 16 [((.t 34), .pure), ((.t 35), .pure)] 1 false, some (33, true)⟩,
 ⟨some 37, .pick (.t 33) (.t 36) (.c (.bool false)), none⟩,
 ⟨some 38, .mv (.t 37), none⟩,
 ⟨some 39, .mv (.t 6), some (38, true)⟩,
 ⟨some 40, .mv (.t 8), some (38, true)⟩,
 ⟨some 41, .bin .eql (.t 39) (.t 40), some (38, true)⟩,
 ⟨some 42, .pick (.t 38) (.t 41) (.c (.bool false)), none⟩,
 ⟨some 43, .mv (.t 42), none⟩,
 ⟨some 44, .call 13 [] 1 false, some (43, true)⟩,
 ⟨some 45, .pick (.t 43) (.t 44) (.c (.bool false)), none⟩,
 ⟨some 4, .mv (.t 45), none⟩] [4] [(1, 2)])
.ret))))),
[.tmp 4]⟩ : AFun)
theorem tr4 : trFun Try.prog F4 Try.f4 = some F4 := by kernel_rfl
/-- garment/garmentlaw02.IntegerInts -/
def F5 : AFun :=
(⟨
(.seq
 (.region [⟨some 3, .box (.t 1), none⟩,
 ⟨some 4, .mv (.c (.bool false)), none⟩] [0, 3])
(.seq
 (.seq
 (.region [⟨some 11, .load 2 true (.t 3), none⟩,
 ⟨some 12, .call 19 [((.t 11), .pure), ((.c (.int .i64 40)), .pure)] 1 false, none⟩,
 ⟨some 13, .un .not (.t 12), none⟩] [0, 3, 13])
 (.cond (.t 13)
 (.seq
 (.region [⟨some 14, .call 13 [] 1 false, none⟩,
 ⟨some 4, .mv (.t 14), none⟩] [4])
 .ret)
 .skip))
(.seq
 (.region [⟨some 16, .load 2 true (.t 3), none⟩,
 ⟨some 17, .call 24 [((.t 16), .pure)] 2 false, none⟩,
 ⟨some 15, .mv (.t 17), none⟩,
 ⟨some 18, .ext (.t 15) 0, none⟩,
 ⟨some 19, .ext (.t 15) 1, none⟩,
 ⟨some 5, .mv (.t 18), none⟩,
 ⟨some 6, .mv (.t 19), none⟩] [0, 3, 5, 6])
(.seq
 (.region [⟨some 21, .load 2 true (.t 3), none⟩,
 ⟨some 22, .call 25 [((.t 21), .pure)] 2 false, none⟩,
 ⟨some 20, .mv (.t 22), none⟩,
 ⟨some 23, .ext (.t 20) 0, none⟩,
 ⟨some 24, .ext (.t 20) 1, none⟩,
 ⟨some 7, .mv (.t 23), none⟩,
 ⟨some 8, .mv (.t 24), none⟩] [0, 5, 6, 7, 8])
(.seq
 (.region [⟨some 26, .mv (.t 0), none⟩,
 ⟨some 27, .call 26 [((.t 26), .pure)] 1 false, none⟩,
 ⟨some 28, .call 24 [((.t 27), .pure)] 2 false, none⟩,
 ⟨some 25, .mv (.t 28), none⟩,
 ⟨some 29, .ext (.t 25) 0, none⟩,
 ⟨some 30, .ext (.t 25) 1, none⟩,
 ⟨some 9, .mv (.t 29), none⟩,
 ⟨some 10, .mv (.t 30), none⟩] [0, 5, 6, 7, 8, 9, 10])
(.seq
 (.region [⟨some 31, .mv (.t 0), none⟩,
 ⟨some 32, .call 26 [((.t 31), .pure)] 1 false, none⟩,
 ⟨some 33, .mv (.t 0), none⟩,
 ⟨some 34, .call 27 [((.t 33), .pure)] 1 false, none⟩,
 ⟨some 35, .call 16 [((.t 32), .pure), ((.t 34), .pure)] 1 false, none⟩,
 ⟨some 36, .mv (.t 35), none⟩,
 ⟨some 37, .mv (.t 5), some (36, true)⟩,
 ⟨some 38, .mv (.t 7), some (36, true)⟩,
 ⟨some 39, .bin .eql (.t 37) (.t 38), some (36, true)⟩,
 ⟨some 40, .pick (.t 36) (.t 39) (.c (.bool false)), none⟩,
 ⟨some 41, .mv (.t 40), none⟩,
 ⟨some 42, .mv (.t 6), some (41, true)⟩,
 ⟨some 43, .mv (.t 8), some (41, true)⟩,
 ⟨some 44, .beq .eql (.t 42) (.t 43), some (41, true)⟩,
 ⟨some 45, .pick (.t 41) (.t 44) (.c (.bool false)), none⟩,
 ⟨some 46, .mv (.t 45), none⟩,
 ⟨some 47, .mv (.t 9), some (46, true)⟩,
 ⟨some 48, .mv (.t 0), some (46, true)⟩,
 ⟨some 49, .bin .eql (.t 47) (.t 48), some (46, true)⟩,
 ⟨some 50, .pick (.t 46) (.t 49) (.c (.bool false)), none⟩,
 ⟨some 51, .mv (.t 50), none⟩,
 ⟨some 52, .mv (.t 10), some (51, true)⟩,
 ⟨some 53, .pick (.t 51) (.t 52) (.c (.bool false)), none⟩,
 ⟨some 54, .mv (.t 53), none⟩,
 ⟨some 55, .call 13 [] 1 false, some (54, true)⟩,
 ⟨some 56, .pick (.t 54) (.t 55) (.c (.bool false)), none⟩,
 ⟨some 4, .mv (.t 56), none⟩] [4])
.ret)))))),
[.tmp 4]⟩ : AFun)
theorem tr5 : trFun Try.prog F5 Try.f5 = some F5 := by kernel_rfl
/-- garment/garmentlaw02.IntegerSums -/
def F6 : AFun :=
(⟨
(.seq
 (.region [⟨some 2, .box (.t 0), none⟩,
 ⟨some 3, .box (.t 1), none⟩,
 ⟨some 4, .mv (.c (.bool false)), none⟩] [2, 3])
(.seq
 (.seq
 (.region [⟨some 5, .load 2 true (.t 2), none⟩,
 ⟨some 6, .load 2 true (.t 3), none⟩,
 ⟨some 7, .call 12 [((.t 5), .pure), ((.t 6), .pure)] 1 false, none⟩,
 ⟨some 8, .un .not (.t 7), none⟩] [2, 3, 8])
 (.cond (.t 8)
 (.seq
 (.region [⟨some 9, .call 13 [] 1 false, none⟩,
 ⟨some 4, .mv (.t 9), none⟩] [4])
 .ret)
 .skip))
(.seq
 (.dregion [⟨some 10, .load 2 true (.t 2), none⟩,
 ⟨some 11, .call 28 [((.t 10), .pure)] 1 false, none⟩,
 ⟨some 12, .load 2 true (.t 2), none⟩,
 ⟨some 13, .call 29 [((.t 12), .pure)] 1 false, none⟩,
 ⟨some 14, .call 16 [((.t 11), .pure), ((.t 13), .pure)] 1 false, none⟩,
 ⟨some 15, .mv (.t 14), none⟩,
 ⟨some 16, .load 2 true (.t 2), some (15, true)⟩,
 ⟨some 17, .load 2 true (.t 3), some (15, true)⟩,
 ⟨some 18, .call 30 [((.t 16), .pure), ((.t 17), .pure)] 1 false, some (15, true)⟩,
 ⟨some 19, .load 2 true (.t 2), some (15, true)⟩,
 ⟨some 20, .load 2 true (.t 3), some (15, true)⟩,
 ⟨some 21, .call 31 [((.t 19), .pure), ((.t 20), .pure)] 1 false, some (15, true)⟩,
 ⟨some 22, .bin .eql (.t 18) (.t 21), some (15, true)⟩,
 ⟨some 23, .pick (.t 15) (.t 22) (.c (.bool false)), none⟩,
 ⟨some 24, .mv (.t 23), none⟩,
 ⟨some 25, .load 2 true (.t 2), some (24, true)⟩,
 ⟨some 26, .call 32 [((.t 25), .pure)] 1 false, some (24, true)⟩,
 ⟨some 27, .load 2 true (.t 2), some (24, true)⟩,
 ⟨some 28, .call 33 [((.t 27), .pure)] 1 false, some (24, true)⟩,
 ⟨some 29, .call 16 [((.t 26), .pure), ((.t 28), .pure)] 1 false, some (24, true)⟩,
 ⟨some 30, .pick (.t 24) (.t 29) (.c (.bool false)), none⟩,
 ⟨some 31, .mv (.t 30), none⟩,
 ⟨some 32, .load 2 true (.t 2), some (31, true)⟩,
 ⟨some 33, .load 2 true (.t 3), some (31, true)⟩,
 ⟨some 34, .call 34 [((.t 32), .pure), ((.t 33), .pure)] 1 false, some (31, true)⟩,
 ⟨some 35, .load 2 true (.t 2), some (31, true)⟩,
 ⟨some 36, .load 2 true (.t 3), some (31, true)⟩,
 ⟨some 37, .call 35 [((.t 35), .pure), ((.t 36), .pure)] 1 false, some (31, true)⟩,
 ⟨some 38, .call 16 [((.t 34), .pure), ((.t 37), .pure)] 1 false, some (31, true)⟩,
 ⟨some 39, .pick (.t 31) (.t 38) (.c (.bool false)), none⟩,
 ⟨some 40, .mv (.t 39), none⟩,
 ⟨some 41, .load 2 true (.t 2), some (40, true)⟩,
 ⟨some 42, .load 2 true (.t 3), some (40, true)⟩,
 ⟨some 43, .call 36 [((.t 41), .pure), ((.t 42), .pure)] 1 false, some (40, true)⟩,
 ⟨some 44, .load 2 true (.t 2), some (40, true)⟩,
 ⟨some 45, .load 2 true (.t 3), some (40, true)⟩,
 ⟨some 46, .call 37 [((.t 44), .pure), ((.t 45), .pure)] 1 false, some (40, true)⟩,
 ⟨some 47, .call 16 [((.t 43), .pure), ((.t 46), .pure)] 1 false, some (40, true)⟩,
 ⟨some 48, .pick (.t 40) (.t 47) (.c (.bool false)), none⟩,
 ⟨some 49, .mv (.t 48), none⟩,
 ⟨some 50, .call 13 [] 1 false, some (49, true)⟩,
 ⟨some 51, .pick (.t 49) (.t 50) (.c (.bool false)), none⟩,
 ⟨some 4, .mv (.t 51), none⟩] [4] [(1, 2), (8, 9), (8, 10), (16, 17), (24, 25), (24, 26), (33, 34), (33, 35)])
.ret))),
[.tmp 4]⟩ : AFun)
theorem tr6 : trFun Try.prog F6 Try.f6 = some F6 := by kernel_rfl
/-- garment/garmentlaw02.IntegerRing -/
def F7 : AFun :=
(⟨
(.seq
 (.region [⟨some 3, .box (.t 0), none⟩,
 ⟨some 4, .box (.t 1), none⟩,
 ⟨some 5, .box (.t 2), none⟩,
 ⟨some 6, .mv (.c (.bool false)), none⟩] [3, 4, 5])
(.seq
 (.seq
 (.region [⟨some 9, .load 2 true (.t 3), none⟩,
 ⟨some 10, .call 19 [((.t 9), .pure), ((.c (.int .i64 20)), .pure)] 1 false, none⟩,
 ⟨some 11, .un .not (.t 10), none⟩,
 ⟨some 12, .mv (.t 11), none⟩,
 ⟨some 13, .load 2 true (.t 4), some (12, false)⟩,
 ⟨some 14, .call 19 [((.t 13), .pure), ((.c (.int .i64 20)), .pure)] 1 false, some (12, false)⟩,
 ⟨some 15, .un .not (.t 14), some (12, false)⟩,
 ⟨some 16, .pick (.t 12) (.c (.bool true)) (.t 15), none⟩,
 ⟨some 17, .mv (.t 16), none⟩,
 ⟨some 18, .load 2 true (.t 5), some (17, false)⟩,
 ⟨some 19, .call 19 [((.t 18), .pure), ((.c (.int .i64 20)), .pure)] 1 false, some (17, false)⟩,
 ⟨some 20, .un .not (.t 19), some (17, false)⟩,
 ⟨some 21, .pick (.t 17) (.c (.bool true)) (.t 20), none⟩] [3, 4, 5, 21])
 (.cond (.t 21)
 (.seq
 (.region [⟨some 22, .call 13 [] 1 false, none⟩,
 ⟨some 6, .mv (.t 22), none⟩] [6])
 .ret)
 .skip))
(.seq
 (.dregion [⟨some 23, .load 2 true (.t 3), none⟩,
 ⟨some 24, .load 2 true (.t 4), none⟩,
 ⟨some 25, .call 34 [((.t 23), .pure), ((.t 24), .pure)] 1 false, none⟩,
 ⟨some 26, .load 2 true (.t 3), none⟩,
 ⟨some 27, .load 2 true (.t 4), none⟩,
 ⟨some 28, .call 17 [((.t 26), .pure), ((.t 27), .pure)] 1 false, none⟩,
 ⟨some 7, .alloc [(.bool false), (.ints .u32 [])], none⟩,
 ⟨some 8, .alloc [(.bool false), (.ints .u32 [])], none⟩,
 ⟨none, .store 2 (.t 7) (.t 25), none⟩,
 ⟨none, .store 2 (.t 8) (.t 28), none⟩] [3, 4, 5, 7, 8] [(2, 3), (2, 4), (0, 6), (1, 6), (2, 6), (3, 6), (4, 6), (5, 6), (0, 7), (1, 7), (2, 7), (3, 7), (4, 7), (5, 7), (6, 7)])
(.seq
 (.seq
 (.dregion [⟨some 29, .load 2 true (.t 7), none⟩,
 ⟨some 30, .load 2 true (.t 4), none⟩,
 ⟨some 31, .load 2 true (.t 3), none⟩,
 ⟨some 32, .call 34 [((.t 30), .pure), ((.t 31), .pure)] 1 false, none⟩,
 ⟨some 33, .call 16 [((.t 29), .pure), ((.t 32), .pure)] 1 false, none⟩,
 ⟨some 34, .un .not (.t 33), none⟩,
 ⟨some 35, .mv (.t 34), none⟩,
 ⟨some 36, .load 2 true (.t 8), some (35, false)⟩,
 ⟨some 37, .load 2 true (.t 4), some (35, false)⟩,
 ⟨some 38, .load 2 true (.t 3), some (35, false)⟩,
 ⟨some 39, .call 17 [((.t 37), .pure), ((.t 38), .pure)] 1 false, some (35, false)⟩,
 ⟨some 40, .call 16 [((.t 36), .pure), ((.t 39), .pure)] 1 false, some (35, false)⟩,
 ⟨some 41, .un .not (.t 40), some (35, false)⟩,
 ⟨some 42, .pick (.t 35) (.c (.bool true)) (.t 41), none⟩,
 ⟨some 43, .mv (.t 42), none⟩,
 ⟨some 44, .load 2 true (.t 7), some (43, false)⟩,
 ⟨some 45, .load 2 true (.t 5), some (43, false)⟩,
 ⟨some 46, .call 34 [((.t 44), .pure), ((.t 45), .pure)] 1 false, some (43, false)⟩,
 ⟨some 47, .load 2 true (.t 3), some (43, false)⟩,
 ⟨some 48, .load 2 true (.t 4), some (43, false)⟩,
 ⟨some 49, .load 2 true (.t 5), some (43, false)⟩,
 ⟨some 50, .call 34 [((.t 48), .pure), ((.t 49), .pure)] 1 false, some (43, false)⟩,
 ⟨some 51, .call 34 [((.t 47), .pure), ((.t 50), .pure)] 1 false, some (43, false)⟩,
 ⟨some 52, .call 16 [((.t 46), .pure), ((.t 51), .pure)] 1 false, some (43, false)⟩,
 ⟨some 53, .un .not (.t 52), some (43, false)⟩,
 ⟨some 54, .pick (.t 43) (.c (.bool true)) (.t 53), none⟩,
 ⟨some 55, .mv (.t 54), none⟩,
 ⟨some 56, .load 2 true (.t 8), some (55, false)⟩,
 ⟨some 57, .load 2 true (.t 5), some (55, false)⟩,
 ⟨some 58, .call 17 [((.t 56), .pure), ((.t 57), .pure)] 1 false, some (55, false)⟩,
 ⟨some 59, .load 2 true (.t 3), some (55, false)⟩,
 ⟨some 60, .load 2 true (.t 4), some (55, false)⟩,
 ⟨some 61, .load 2 true (.t 5), some (55, false)⟩,
 ⟨some 62, .call 17 [((.t 60), .pure), ((.t 61), .pure)] 1 false, some (55, false)⟩,
 ⟨some 63, .call 17 [((.t 59), .pure), ((.t 62), .pure)] 1 false, some (55, false)⟩,
 ⟨some 64, .call 16 [((.t 58), .pure), ((.t 63), .pure)] 1 false, some (55, false)⟩,
 ⟨some 65, .un .not (.t 64), some (55, false)⟩,
 ⟨some 66, .pick (.t 55) (.c (.bool true)) (.t 65), none⟩] [3, 4, 5, 7, 66] [(0, 3), (7, 10), (17, 18), (17, 19), (17, 20), (18, 21), (29, 30), (29, 31), (29, 32), (30, 33)])
 (.cond (.t 66)
 (.seq
 (.region [⟨some 6, .mv (.c (.bool false)), none⟩] [6])
 .ret)
 .skip))
(.seq
 (.seq
 (.dregion [⟨some 67, .load 2 true (.t 7), none⟩,
 ⟨some 68, .load 2 true (.t 5), none⟩,
 ⟨some 69, .call 17 [((.t 67), .pure), ((.t 68), .pure)] 1 false, none⟩,
 ⟨some 70, .load 2 true (.t 3), none⟩,
 ⟨some 71, .load 2 true (.t 5), none⟩,
 ⟨some 72, .call 17 [((.t 70), .pure), ((.t 71), .pure)] 1 false, none⟩,
 ⟨some 73, .load 2 true (.t 4), none⟩,
 ⟨some 74, .load 2 true (.t 5), none⟩,
 ⟨some 75, .call 17 [((.t 73), .pure), ((.t 74), .pure)] 1 false, none⟩,
 ⟨some 76, .call 34 [((.t 72), .pure), ((.t 75), .pure)] 1 false, none⟩,
 ⟨some 77, .call 16 [((.t 69), .pure), ((.t 76), .pure)] 1 false, none⟩,
 ⟨some 78, .un .not (.t 77), none⟩,
 ⟨some 79, .mv (.t 78), none⟩,
 ⟨some 80, .load 2 true (.t 7), some (79, false)⟩,
 ⟨some 81, .load 2 true (.t 4), some (79, false)⟩,
 ⟨some 82, .call 36 [((.t 80), .pure), ((.t 81), .pure)] 1 false, some (79, false)⟩,
 ⟨some 83, .load 2 true (.t 3), some (79, false)⟩,
 ⟨some 84, .call 28 [((.t 83), .pure)] 1 false, some (79, false)⟩,
 ⟨some 85, .call 16 [((.t 82), .pure), ((.t 84), .pure)] 1 false, some (79, false)⟩,
 ⟨some 86, .un .not (.t 85), some (79, false)⟩,
 ⟨some 87, .pick (.t 79) (.c (.bool true)) (.t 86), none⟩] [3, 87] [(2, 3), (2, 4), (2, 6), (5, 6), (2, 7), (5, 7), (15, 16)])
 (.cond (.t 87)
 (.seq
 (.region [⟨some 6, .mv (.c (.bool false)), none⟩] [6])
 .ret)
 .skip))
(.seq
 (.dregion [⟨some 88, .load 2 true (.t 3), none⟩,
 ⟨some 89, .call 26 [((.c (.int .i64 1)), .pure)] 1 false, none⟩,
 ⟨some 90, .call 17 [((.t 88), .pure), ((.t 89), .pure)] 1 false, none⟩,
 ⟨some 91, .load 2 true (.t 3), none⟩,
 ⟨some 92, .call 28 [((.t 91), .pure)] 1 false, none⟩,
 ⟨some 93, .call 16 [((.t 90), .pure), ((.t 92), .pure)] 1 false, none⟩,
 ⟨some 94, .mv (.t 93), none⟩,
 ⟨some 95, .load 2 true (.t 3), some (94, true)⟩,
 ⟨some 96, .load 2 true (.t 3), some (94, true)⟩,
 ⟨some 97, .call 32 [((.t 96), .pure)] 1 false, some (94, true)⟩,
 ⟨some 98, .call 34 [((.t 95), .pure), ((.t 97), .pure)] 1 false, some (94, true)⟩,
 ⟨some 99, .call 26 [((.c (.int .i64 0)), .pure)] 1 false, some (94, true)⟩,
 ⟨some 100, .call 16 [((.t 98), .pure), ((.t 99), .pure)] 1 false, some (94, true)⟩,
 ⟨some 101, .pick (.t 94) (.t 100) (.c (.bool false)), none⟩,
 ⟨some 102, .mv (.t 101), none⟩,
 ⟨some 103, .call 13 [] 1 false, some (102, true)⟩,
 ⟨some 104, .pick (.t 102) (.t 103) (.c (.bool false)), none⟩,
 ⟨some 6, .mv (.t 104), none⟩] [6] [(0, 1), (1, 3), (2, 3), (7, 9)])
.ret)))))),
[.tmp 6]⟩ : AFun)
theorem tr7 : trFun Try.prog F7 Try.f7 = some F7 := by kernel_rfl
/-- garment/garmentlaw02.IntegerDivides -/
def F8 : AFun :=
(⟨
(.seq
 (.region [⟨some 2, .box (.t 0), none⟩,
 ⟨some 3, .box (.t 1), none⟩,
 ⟨some 4, .mv (.c (.bool false)), none⟩] [2, 3])
(.seq
 (.seq
 (.region [⟨some 9, .load 2 true (.t 2), none⟩,
 ⟨some 10, .call 19 [((.t 9), .pure), ((.c (.int .i64 30)), .pure)] 1 false, none⟩,
 ⟨some 11, .un .not (.t 10), none⟩,
 ⟨some 12, .mv (.t 11), none⟩,
 ⟨some 13, .load 2 true (.t 3), some (12, false)⟩,
 ⟨some 14, .call 19 [((.t 13), .pure), ((.c (.int .i64 30)), .pure)] 1 false, some (12, false)⟩,
 ⟨some 15, .un .not (.t 14), some (12, false)⟩,
 ⟨some 16, .pick (.t 12) (.c (.bool true)) (.t 15), none⟩] [2, 3, 16])
 (.cond (.t 16)
 (.seq
 (.region [⟨some 17, .call 13 [] 1 false, none⟩,
 ⟨some 4, .mv (.t 17), none⟩] [4])
 .ret)
 .skip))
(.seq
 (.region [⟨some 19, .load 2 true (.t 2), none⟩,
 ⟨some 20, .load 2 true (.t 3), none⟩,
 ⟨some 21, .call 14 [((.t 19), .pure), ((.t 20), .pure)] 3 false, none⟩,
 ⟨some 18, .mv (.t 21), none⟩,
 ⟨some 22, .ext (.t 18) 0, none⟩,
 ⟨some 23, .ext (.t 18) 1, none⟩,
 ⟨some 24, .ext (.t 18) 2, none⟩,
 ⟨some 5, .alloc [(.bool false), (.ints .u32 [])], none⟩,
 ⟨some 6, .alloc [(.bool false), (.ints .u32 [])], none⟩,
 ⟨none, .store 2 (.t 5) (.t 22), none⟩,
 ⟨none, .store 2 (.t 6) (.t 23), none⟩,
 ⟨some 7, .mv (.t 24), none⟩] [2, 3, 5, 6, 7])
(.seq
 (.seq
 (.region [⟨some 25, .mv (.t 7), none⟩,
 ⟨some 26, .un .not (.t 25), none⟩] [2, 3, 5, 6, 26])
 (.cond (.t 26)
 (.seq
 (.dregion [⟨some 27, .load 2 true (.t 3), none⟩,
 ⟨some 28, .call 26 [((.c (.int .i64 0)), .pure)] 1 false, none⟩,
 ⟨some 29, .call 30 [((.t 27), .pure), ((.t 28), .pure)] 1 false, none⟩,
 ⟨some 30, .bin .eql (.t 29) (.c (.int .i64 0)), none⟩,
 ⟨some 31, .mv (.t 30), none⟩,
 ⟨some 32, .load 2 true (.t 5), some (31, true)⟩,
 ⟨some 33, .build [(.bool false), (.ints .u32 [])] [], some (31, true)⟩,
 ⟨some 34, .call 16 [((.t 32), .pure), ((.t 33), .pure)] 1 false, some (31, true)⟩,
 ⟨some 35, .pick (.t 31) (.t 34) (.c (.bool false)), none⟩,
 ⟨some 36, .mv (.t 35), none⟩,
 ⟨some 37, .load 2 true (.t 6), some (36, true)⟩,
 ⟨some 38, .build [(.bool false), (.ints .u32 [])] [], some (36, true)⟩,
 ⟨some 39, .call 16 [((.t 37), .pure), ((.t 38), .pure)] 1 false, some (36, true)⟩,
 ⟨some 40, .pick (.t 36) (.t 39) (.c (.bool false)), none⟩,
 ⟨some 41, .mv (.t 40), none⟩,
 ⟨some 42, .call 13 [] 1 false, some (41, true)⟩,
 ⟨some 43, .pick (.t 41) (.t 42) (.c (.bool false)), none⟩,
 ⟨some 4, .mv (.t 43), none⟩] [4] [(0, 1)])
 .ret)
 .skip))
(.seq
 (.region [⟨some 44, .load 2 true (.t 3), none⟩,
 ⟨some 8, .alloc [(.bool false), (.ints .u32 [])], none⟩,
 ⟨none, .store 2 (.t 8) (.t 44), none⟩] [2, 3, 5, 6, 8])
(.seq
 (.region [⟨some 45, .faddr 0 (.t 8), none⟩,
 ⟨none, .store 1 (.t 45) (.c (.bool false)), none⟩] [2, 3, 5, 6, 8])
(.seq
 (.dregion [⟨some 46, .load 2 true (.t 5), none⟩,
 ⟨some 47, .load 2 true (.t 3), none⟩,
 ⟨some 48, .call 17 [((.t 46), .pure), ((.t 47), .pure)] 1 false, none⟩,
 ⟨some 49, .load 2 true (.t 6), none⟩,
 ⟨some 50, .call 34 [((.t 48), .pure), ((.t 49), .pure)] 1 false, none⟩,
 ⟨some 51, .load 2 true (.t 2), none⟩,
 ⟨some 52, .call 28 [((.t 51), .pure)] 1 false, none⟩,
 ⟨some 53, .call 16 [((.t 50), .pure), ((.t 52), .pure)] 1 false, none⟩,
 ⟨some 54, .mv (.t 53), none⟩,
 ⟨some 55, .load 2 true (.t 6), some (54, true)⟩,
 ⟨some 56, .call 26 [((.c (.int .i64 0)), .pure)] 1 false, some (54, true)⟩,
 ⟨some 57, .call 30 [((.t 55), .pure), ((.t 56), .pure)] 1 false, some (54, true)⟩,
 ⟨some 58, .bin .geq (.t 57) (.c (.int .i64 0)), some (54, true)⟩,
 ⟨some 59, .pick (.t 54) (.t 58) (.c (.bool false)), none⟩,
 ⟨some 60, .mv (.t 59), none⟩,
 ⟨some 61, .load 2 true (.t 6), some (60, true)⟩,
 ⟨some 62, .load 2 true (.t 8), some (60, true)⟩,
 ⟨some 63, .call 30 [((.t 61), .pure), ((.t 62), .pure)] 1 false, some (60, true)⟩,
 ⟨some 64, .bin .lss (.t 63) (.c (.int .i64 0)), some (60, true)⟩,
 ⟨some 65, .pick (.t 60) (.t 64) (.c (.bool false)), none⟩,
 ⟨some 66, .mv (.t 65), none⟩,
 ⟨some 67, .call 13 [] 1 false, some (66, true)⟩,
 ⟨some 68, .pick (.t 66) (.t 67) (.c (.bool false)), none⟩,
 ⟨some 4, .mv (.t 68), none⟩] [4] [(2, 3), (2, 5), (4, 5), (9, 10)])
.ret))))))),
[.tmp 4]⟩ : AFun)
theorem tr8 : trFun Try.prog F8 Try.f8 = some F8 := by kernel_rfl
/-- garment/garmentlaw02.IntegerOrders -/
def F9 : AFun :=
(⟨
(.seq
 (.region [⟨some 3, .box (.t 0), none⟩,
 ⟨some 4, .box (.t 1), none⟩,
 ⟨some 5, .box (.t 2), none⟩,
 ⟨some 6, .mv (.c (.bool false)), none⟩] [3, 4, 5])
(.seq
 (.seq
 (.region [⟨some 8, .load 2 true (.t 3), none⟩,
 ⟨some 9, .call 19 [((.t 8), .pure), ((.c (.int .i64 30)), .pure)] 1 false, none⟩,
 ⟨some 10, .un .not (.t 9), none⟩,
 ⟨some 11, .mv (.t 10), none⟩,
 ⟨some 12, .load 2 true (.t 4), some (11, false)⟩,
 ⟨some 13, .call 19 [((.t 12), .pure), ((.c (.int .i64 30)), .pure)] 1 false, some (11, false)⟩,
 ⟨some 14, .un .not (.t 13), some (11, false)⟩,
 ⟨some 15, .pick (.t 11) (.c (.bool true)) (.t 14), none⟩,
 ⟨some 16, .mv (.t 15), none⟩,
 ⟨some 17, .load 2 true (.t 5), some (16, false)⟩,
 ⟨some 18, .call 19 [((.t 17), .pure), ((.c (.int .i64 30)), .pure)] 1 false, some (16, false)⟩,
 ⟨some 19, .un .not (.t 18), some (16, false)⟩,
 ⟨some 20, .pick (.t 16) (.c (.bool true)) (.t 19), none⟩] [3, 4, 5, 20])
 (.cond (.t 20)
 (.seq
 (.region [⟨some 21, .call 13 [] 1 false, none⟩,
 ⟨some 6, .mv (.t 21), none⟩] [6])
 .ret)
 .skip))
(.seq
 (.region [⟨some 22, .load 2 true (.t 3), none⟩,
 ⟨some 23, .load 2 true (.t 4), none⟩,
 ⟨some 24, .call 30 [((.t 22), .pure), ((.t 23), .pure)] 1 false, none⟩,
 ⟨some 7, .mv (.t 24), none⟩] [3, 4, 5, 7])
(.seq
 (.seq
 (.dregion [⟨some 25, .mv (.t 7), none⟩,
 ⟨some 26, .bin .lss (.t 25) (.c (.int .i64 (-1))), none⟩,
 ⟨some 27, .mv (.t 26), none⟩,
 ⟨some 28, .mv (.t 7), some (27, false)⟩,
 ⟨some 29, .bin .gtr (.t 28) (.c (.int .i64 1)), some (27, false)⟩,
 ⟨some 30, .pick (.t 27) (.c (.bool true)) (.t 29), none⟩,
 ⟨some 31, .mv (.t 30), none⟩,
 ⟨some 32, .load 2 true (.t 4), some (31, false)⟩,
 ⟨some 33, .load 2 true (.t 3), some (31, false)⟩,
 ⟨some 34, .call 30 [((.t 32), .pure), ((.t 33), .pure)] 1 false, some (31, false)⟩,
 ⟨some 35, .mv (.t 7), some (31, false)⟩,
 ⟨some 36, .un .neg (.t 35), some (31, false)⟩,
 ⟨some 37, .bin .neq (.t 34) (.t 36), some (31, false)⟩,
 ⟨some 38, .pick (.t 31) (.c (.bool true)) (.t 37), none⟩,
 ⟨some 39, .mv (.t 38), none⟩,
 ⟨some 40, .load 2 true (.t 3), some (39, false)⟩,
 ⟨some 41, .load 2 true (.t 3), some (39, false)⟩,
 ⟨some 42, .call 30 [((.t 40), .pure), ((.t 41), .pure)] 1 false, some (39, false)⟩,
 ⟨some 43, .bin .neq (.t 42) (.c (.int .i64 0)), some (39, false)⟩,
 ⟨some 44, .pick (.t 39) (.c (.bool true)) (.t 43), none⟩,
 ⟨some 45, .mv (.t 44), none⟩,
 ⟨some 46, .load 2 true (.t 3), some (45, false)⟩,
 ⟨some 47, .load 2 true (.t 4), some (45, false)⟩,
 ⟨some 48, .call 36 [((.t 46), .pure), ((.t 47), .pure)] 1 false, some (45, false)⟩,
 ⟨some 49, .call 26 [((.c (.int .i64 0)), .pure)] 1 false, some (45, false)⟩,
 ⟨some 50, .call 30 [((.t 48), .pure), ((.t 49), .pure)] 1 false, some (45, false)⟩,
 ⟨some 51, .mv (.t 7), some (45, false)⟩,
 ⟨some 52, .bin .neq (.t 50) (.t 51), some (45, false)⟩,
 ⟨some 53, .pick (.t 45) (.c (.bool true)) (.t 52), none⟩,
 ⟨some 54, .mv (.t 53), none⟩,
 ⟨some 55, .load 2 true (.t 3), some (54, false)⟩,
 ⟨some 56, .load 2 true (.t 5), some (54, false)⟩,
 ⟨some 57, .call 34 [((.t 55), .pure), ((.t 56), .pure)] 1 false, some (54, false)⟩,
 ⟨some 58, .load 2 true (.t 4), some (54, false)⟩,
 ⟨some 59, .load 2 true (.t 5), some (54, false)⟩,
 ⟨some 60, .call 34 [((.t 58), .pure), ((.t 59), .pure)] 1 false, some (54, false)⟩,
 ⟨some 61, .call 30 [((.t 57), .pure), ((.t 60), .pure)] 1 false, some (54, false)⟩,
 ⟨some 62, .mv (.t 7), some (54, false)⟩,
 ⟨some 63, .bin .neq (.t 61) (.t 62), some (54, false)⟩,
 ⟨some 64, .pick (.t 54) (.c (.bool true)) (.t 63), none⟩] [3, 4, 5, 7, 64] [(32, 33), (32, 34)])
 (.cond (.t 64)
 (.seq
 (.region [⟨some 6, .mv (.c (.bool false)), none⟩] [6])
 .ret)
 .skip))
(.seq
 (.dregion [⟨some 65, .mv (.t 7), none⟩,
 ⟨some 66, .bin .gtr (.t 65) (.c (.int .i64 0)), none⟩,
 ⟨some 67, .mv (.t 66), none⟩,
 ⟨some 68, .load 2 true (.t 4), some (67, false)⟩,
 ⟨some 69, .load 2 true (.t 5), some (67, false)⟩,
 ⟨some 70, .call 30 [((.t 68), .pure), ((.t 69), .pure)] 1 false, some (67, false)⟩,
 ⟨some 71, .bin .gtr (.t 70) (.c (.int .i64 0)), some (67, false)⟩,
 ⟨some 72, .pick (.t 67) (.c (.bool true)) (.t 71), none⟩,
 ⟨some 73, .mv (.t 72), none⟩,
 ⟨some 74, .load 2 true (.t 3), some (73, false)⟩,
 ⟨some 75, .load 2 true (.t 5), some (73, false)⟩,
 ⟨some 76, .call 30 [((.t 74), .pure), ((.t 75), .pure)] 1 false, some (73, false)⟩,
 ⟨some 77, .bin .leq (.t 76) (.c (.int .i64 0)), some (73, false)⟩,
 ⟨some 78, .pick (.t 73) (.c (.bool true)) (.t 77), none⟩,
 ⟨some 79, .mv (.t 78), none⟩,
 ⟨some 80, .mv (.t 7), some (79, true)⟩,
 ⟨some 81, .bin .eql (.t 80) (.c (.int .i64 0)), some (79, true)⟩,
 ⟨some 82, .load 2 true (.t 3), some (79, true)⟩,
 ⟨some 83, .call 28 [((.t 82), .pure)] 1 false, some (79, true)⟩,
 ⟨some 84, .load 2 true (.t 4), some (79, true)⟩,
 ⟨some 85, .call 28 [((.t 84), .pure)] 1 false, some (79, true)⟩,
 ⟨some 86, .call 16 [((.t 83), .pure), ((.t 85), .pure)] 1 false, some (79, true)⟩,
 ⟨some 87, .beq .eql (.t 81) (.t 86), some (79, true)⟩,
 ⟨some 88, .pick (.t 79) (.t 87) (.c (.bool false)), none⟩,
 ⟨some 89, .mv (.t 88), none⟩,
 ⟨some 90, .call 13 [] 1 false, some (89, true)⟩,
 ⟨some 91, .pick (.t 89) (.t 90) (.c (.bool false)), none⟩,
 ⟨some 6, .mv (.t 91), none⟩] [6] [(18, 19)])
.ret))))),
[.tmp 6]⟩ : AFun)
theorem tr9 : trFun Try.prog F9 Try.f9 = some F9 := by kernel_rfl
/-- garment/garmentlaw02.IntegerRoundTrip -/
def F10 : AFun :=
(⟨
(.seq
 (.region [⟨some 1, .box (.t 0), none⟩,
 ⟨some 2, .mv (.c (.bool false)), none⟩] [1])
(.seq
 (.seq
 (.region [⟨some 7, .load 2 true (.t 1), none⟩,
 ⟨some 8, .call 19 [((.t 7), .pure), ((.c (.int .i64 40)), .pure)] 1 false, none⟩,
 ⟨some 9, .un .not (.t 8), none⟩] [1, 9])
 (.cond (.t 9)
 (.seq
 (.region [⟨some 10, .call 13 [] 1 false, none⟩,
 ⟨some 2, .mv (.t 10), none⟩] [2])
 .ret)
 .skip))
(.seq
 (.region [⟨some 11, .load 2 true (.t 1), none⟩,
 ⟨some 12, .call 22 [((.t 11), .pure)] 1 false, none⟩,
 ⟨some 3, .mv (.t 12), none⟩] [1, 3])
(.seq
 (.region [⟨some 13, .mv (.t 3), none⟩,
 ⟨some 14, .slen (.t 13), none⟩,
 ⟨some 4, .mv (.t 14), none⟩] [1, 3, 4])
(.seq
 (.seq
 (.region [⟨some 15, .mv (.t 4), none⟩,
 ⟨some 16, .bin .gtr (.t 15) (.c (.int .i64 0)), none⟩,
 ⟨some 17, .mv (.t 16), none⟩,
 ⟨some 18, .mv (.t 3), some (17, true)⟩,
 ⟨some 19, .sidx (.t 18) (.c (.int .i64 0)), some (17, true)⟩,
 ⟨some 20, .bin .eql (.t 19) (.c (.int .u8 45)), some (17, true)⟩,
 ⟨some 21, .pick (.t 17) (.t 20) (.c (.bool false)), none⟩] [1, 3, 4, 21])
 (.cond (.t 21)
 (.region [⟨some 22, .mv (.t 4), none⟩,
 ⟨some 23, .bin .sub (.t 22) (.c (.int .i64 1)), none⟩,
 ⟨some 4, .mv (.t 23), none⟩] [1, 3, 4])
 .skip))
(.seq
 (.region [⟨some 25, .mv (.t 3), none⟩,
 ⟨some 26, .call 20 [((.t 25), .pure)] 2 false, none⟩,
 ⟨some 24, .mv (.t 26), none⟩,
 ⟨some 27, .ext (.t 24) 0, none⟩,
 ⟨some 28, .ext (.t 24) 1, none⟩,
 ⟨some 5, .alloc [(.bool false), (.ints .u32 [])], none⟩,
 ⟨none, .store 2 (.t 5) (.t 27), none⟩,
 ⟨some 6, .mv (.t 28), none⟩] [1, 3, 4, 5, 6])
(.seq
 (.seq
 (.region [⟨some 29, .mv (.t 4), none⟩,
 ⟨some 30, .bin .gtr (.t 29) (.c (.int .i64 200)), none⟩] [1, 3, 5, 6, 30])
 (.cond (.t 30)
 (.seq
 (.region [⟨some 31, .mv (.t 6), none⟩,
 ⟨some 32, .bin .eql (.t 31) (.c (.int .i64 5)), none⟩,
 ⟨some 33, .mv (.t 32), none⟩,
 ⟨some 34, .load 2 true (.t 5), some (33, true)⟩,
 ⟨some 35, .build [(.bool false), (.ints .u32 [])] [], some (33, true)⟩,
 ⟨some 36, .call 16 [((.t 34), .pure), ((.t 35), .pure)] 1 false, some (33, true)⟩,
 ⟨some 37, .pick (.t 33) (.t 36) (.c (.bool false)), none⟩,
 ⟨some 38, .mv (.t 37), none⟩,
 ⟨some 39, .call 13 [] 1 false, some (38, true)⟩,
 ⟨some 40, .pick (.t 38) (.t 39) (.c (.bool false)), none⟩,
 ⟨some 2, .mv (.t 40), none⟩] [2])
 .ret)
 .skip))
(.seq
 (.dregion [⟨some 41, .mv (.t 6), none⟩,
 ⟨some 42, .bin .eql (.t 41) (.c (.int .i64 0)), none⟩,
 ⟨some 43, .mv (.t 42), none⟩,
 ⟨some 44, .load 2 true (.t 5), some (43, true)⟩,
 ⟨some 45, .load 2 true (.t 1), some (43, true)⟩,
 ⟨some 46, .call 28 [((.t 45), .pure)] 1 false, some (43, true)⟩,
 ⟨some 47, .call 16 [((.t 44), .pure), ((.t 46), .pure)] 1 false, some (43, true)⟩,
 ⟨some 48, .pick (.t 43) (.t 47) (.c (.bool false)), none⟩,
 ⟨some 49, .mv (.t 48), none⟩,
 ⟨some 50, .load 2 true (.t 5), some (49, true)⟩,
 ⟨some 51, .call 22 [((.t 50), .pure)] 1 false, some (49, true)⟩,
 ⟨some 52, .mv (.t 3), some (49, true)⟩,
 ⟨some 53, .bin .eql (.t 51) (.t 52), some (49, true)⟩,
 ⟨some 54, .pick (.t 49) (.t 53) (.c (.bool false)), none⟩,
 ⟨some 55, .mv (.t 54), none⟩,
 ⟨some 56, .call 13 [] 1 false, some (55, true)⟩,
 ⟨some 57, .pick (.t 55) (.t 56) (.c (.bool false)), none⟩,
 ⟨some 2, .mv (.t 57), none⟩] [2] [(3, 5)])
.ret)))))))),
[.tmp 2]⟩ : AFun)
theorem tr10 : trFun Try.prog F10 Try.f10 = some F10 := by kernel_rfl
/-- garment/garmentlaw02.IntegerForms -/
def F11 : AFun :=
(⟨
(.seq
 (.region [⟨some 3, .box (.t 0), none⟩,
 ⟨some 4, .box (.t 1), none⟩,
 ⟨some 6, .mv (.c (.bool false)), none⟩] [2, 3, 4])
(.seq
 (.seq
 (.region [⟨some 16, .load 2 true (.t 3), none⟩,
 ⟨some 17, .call 19 [((.t 16), .pure), ((.c (.int .i64 30)), .pure)] 1 false, none⟩,
 ⟨some 18, .un .not (.t 17), none⟩,
 ⟨some 19, .mv (.t 18), none⟩,
 ⟨some 20, .load 2 true (.t 4), some (19, false)⟩,
 ⟨some 21, .call 19 [((.t 20), .pure), ((.c (.int .i64 30)), .pure)] 1 false, some (19, false)⟩,
 ⟨some 22, .un .not (.t 21), some (19, false)⟩,
 ⟨some 23, .pick (.t 19) (.c (.bool true)) (.t 22), none⟩,
 ⟨some 24, .mv (.t 23), none⟩,
 ⟨some 25, .mv (.t 2), some (24, false)⟩,
 ⟨some 26, .bin .gtr (.t 25) (.c (.int .u8 5)), some (24, false)⟩,
 ⟨some 27, .pick (.t 24) (.c (.bool true)) (.t 26), none⟩] [2, 3, 4, 27])
 (.cond (.t 27)
 (.seq
 (.region [⟨some 28, .call 13 [] 1 false, none⟩,
 ⟨some 6, .mv (.t 28), none⟩] [6])
 .ret)
 .skip))
(.seq
 (.dregion [⟨some 29, .faddr 0 (.t 3), none⟩,
 ⟨some 30, .load 1 false (.t 29), none⟩,
 ⟨some 31, .bslice 1 (some .u32) [], none⟩,
 ⟨some 32, .faddr 1 (.t 3), none⟩,
 ⟨some 33, .load 1 false (.t 32), none⟩,
 ⟨some 34, .append 1 (some .u32) (.t 31) (.t 33), none⟩,
 ⟨some 35, .mv (.t 2), none⟩,
 ⟨some 36, .conv (.int .i64) (.t 35), none⟩,
 ⟨some 37, .appz 1 (some .u32) (.bool false) (.t 34) (.t 36), none⟩,
 ⟨some 38, .build [(.bool false), (.ints .u32 [])] [(0, 1, (.t 30)), (1, 1, (.t 37))], none⟩,
 ⟨some 7, .alloc [(.bool false), (.ints .u32 [])], none⟩,
 ⟨none, .store 2 (.t 7) (.t 38), none⟩] [3, 4, 7] [(1, 2), (2, 4), (1, 5), (1, 8), (1, 10), (2, 10), (4, 10), (5, 10), (8, 10)])
(.seq
 (.seq
 (.dregion [⟨some 39, .load 2 true (.t 3), none⟩,
 ⟨some 40, .call 26 [((.c (.int .i64 0)), .pure)] 1 false, none⟩,
 ⟨some 41, .call 30 [((.t 39), .pure), ((.t 40), .pure)] 1 false, none⟩,
 ⟨some 42, .bin .eql (.t 41) (.c (.int .i64 0)), none⟩] [3, 4, 7, 42] [(0, 1)])
 (.cond (.t 42)
 (.region [⟨some 43, .faddr 0 (.t 3), none⟩,
 ⟨some 44, .load 1 false (.t 43), none⟩,
 ⟨some 45, .un .not (.t 44), none⟩,
 ⟨some 46, .faddr 0 (.t 7), none⟩,
 ⟨none, .store 1 (.t 46) (.t 45), none⟩] [3, 4, 7])
 .skip))
(.seq
 (.region [⟨some 48, .load 2 true (.t 3), none⟩,
 ⟨some 49, .load 2 true (.t 4), none⟩,
 ⟨some 50, .call 14 [((.t 48), .pure), ((.t 49), .pure)] 3 false, none⟩,
 ⟨some 47, .mv (.t 50), none⟩,
 ⟨some 51, .ext (.t 47) 0, none⟩,
 ⟨some 52, .ext (.t 47) 1, none⟩,
 ⟨some 53, .ext (.t 47) 2, none⟩,
 ⟨some 8, .alloc [(.bool false), (.ints .u32 [])], none⟩,
 ⟨some 9, .alloc [(.bool false), (.ints .u32 [])], none⟩,
 ⟨none, .store 2 (.t 8) (.t 51), none⟩,
 ⟨none, .store 2 (.t 9) (.t 52), none⟩,
 ⟨some 10, .mv (.t 53), none⟩] [3, 4, 7, 8, 9, 10])
(.seq
 (.region [⟨some 55, .load 2 true (.t 7), none⟩,
 ⟨some 56, .load 2 true (.t 4), none⟩,
 ⟨some 57, .call 14 [((.t 55), .pure), ((.t 56), .pure)] 3 false, none⟩,
 ⟨some 54, .mv (.t 57), none⟩,
 ⟨some 58, .ext (.t 54) 0, none⟩,
 ⟨some 59, .ext (.t 54) 1, none⟩,
 ⟨some 60, .ext (.t 54) 2, none⟩,
 ⟨some 11, .alloc [(.bool false), (.ints .u32 [])], none⟩,
 ⟨some 12, .alloc [(.bool false), (.ints .u32 [])], none⟩,
 ⟨none, .store 2 (.t 11) (.t 58), none⟩,
 ⟨none, .store 2 (.t 12) (.t 59), none⟩,
 ⟨some 13, .mv (.t 60), none⟩] [3, 4, 7, 8, 9, 10, 11, 12, 13])
(.seq
 (.dregion [⟨some 61, .load 2 true (.t 3), none⟩,
 ⟨some 62, .load 2 true (.t 4), none⟩,
 ⟨some 63, .call 34 [((.t 61), .pure), ((.t 62), .pure)] 1 false, none⟩,
 ⟨some 64, .load 2 true (.t 3), none⟩,
 ⟨some 65, .load 2 true (.t 4), none⟩,
 ⟨some 66, .call 17 [((.t 64), .pure), ((.t 65), .pure)] 1 false, none⟩,
 ⟨some 14, .alloc [(.bool false), (.ints .u32 [])], none⟩,
 ⟨some 15, .alloc [(.bool false), (.ints .u32 [])], none⟩,
 ⟨none, .store 2 (.t 14) (.t 63), none⟩,
 ⟨none, .store 2 (.t 15) (.t 66), none⟩] [3, 4, 7, 8, 9, 10, 11, 12, 13, 14, 15] [(2, 3), (2, 4), (0, 6), (1, 6), (2, 6), (3, 6), (4, 6), (5, 6), (0, 7), (1, 7), (2, 7), (3, 7), (4, 7), (5, 7), (6, 7)])
(.seq
 (.seq
 (.region [⟨some 67, .load 2 true (.t 14), none⟩,
 ⟨some 68, .call 38 [((.t 67), .pure)] 1 false, none⟩,
 ⟨some 69, .un .not (.t 68), none⟩,
 ⟨some 70, .mv (.t 69), none⟩,
 ⟨some 71, .load 2 true (.t 15), some (70, false)⟩,
 ⟨some 72, .call 38 [((.t 71), .pure)] 1 false, some (70, false)⟩,
 ⟨some 73, .un .not (.t 72), some (70, false)⟩,
 ⟨some 74, .pick (.t 70) (.c (.bool true)) (.t 73), none⟩,
 ⟨some 75, .mv (.t 74), none⟩,
 ⟨some 76, .load 2 true (.t 8), some (75, false)⟩,
 ⟨some 77, .call 38 [((.t 76), .pure)] 1 false, some (75, false)⟩,
 ⟨some 78, .un .not (.t 77), some (75, false)⟩,
 ⟨some 79, .pick (.t 75) (.c (.bool true)) (.t 78), none⟩,
 ⟨some 80, .mv (.t 79), none⟩,
 ⟨some 81, .load 2 true (.t 9), some (80, false)⟩,
 ⟨some 82, .call 38 [((.t 81), .pure)] 1 false, some (80, false)⟩,
 ⟨some 83, .un .not (.t 82), some (80, false)⟩,
 ⟨some 84, .pick (.t 80) (.c (.bool true)) (.t 83), none⟩,
 ⟨some 85, .mv (.t 84), none⟩,
 ⟨some 86, .load 2 true (.t 3), some (85, false)⟩,
 ⟨some 87, .call 32 [((.t 86), .pure)] 1 false, some (85, false)⟩,
 ⟨some 88, .call 38 [((.t 87), .pure)] 1 false, some (85, false)⟩,
 ⟨some 89, .un .not (.t 88), some (85, false)⟩,
 ⟨some 90, .pick (.t 85) (.c (.bool true)) (.t 89), none⟩,
 ⟨some 91, .mv (.t 90), none⟩,
 ⟨some 92, .load 2 true (.t 3), some (91, false)⟩,
 ⟨some 93, .call 28 [((.t 92), .pure)] 1 false, some (91, false)⟩,
 ⟨some 94, .call 38 [((.t 93), .pure)] 1 false, some (91, false)⟩,
 ⟨some 95, .un .not (.t 94), some (91, false)⟩,
 ⟨some 96, .pick (.t 91) (.c (.bool true)) (.t 95), none⟩] [3, 4, 7, 8, 9, 10, 11, 12, 13, 14, 15, 96])
 (.cond (.t 96)
 (.seq
 (.region [⟨some 6, .mv (.c (.bool false)), none⟩] [6])
 .ret)
 .skip))
(.seq
 (.dregion [⟨some 97, .load 2 true (.t 14), none⟩,
 ⟨some 98, .load 2 true (.t 7), none⟩,
 ⟨some 99, .load 2 true (.t 4), none⟩,
 ⟨some 100, .call 34 [((.t 98), .pure), ((.t 99), .pure)] 1 false, none⟩,
 ⟨some 101, .call 16 [((.t 97), .pure), ((.t 100), .pure)] 1 false, none⟩,
 ⟨some 102, .mv (.t 101), none⟩,
 ⟨some 103, .load 2 true (.t 15), some (102, true)⟩,
 ⟨some 104, .load 2 true (.t 7), some (102, true)⟩,
 ⟨some 105, .load 2 true (.t 4), some (102, true)⟩,
 ⟨some 106, .call 17 [((.t 104), .pure), ((.t 105), .pure)] 1 false, some (102, true)⟩,
 ⟨some 107, .call 16 [((.t 103), .pure), ((.t 106), .pure)] 1 false, some (102, true)⟩,
 ⟨some 108, .pick (.t 102) (.t 107) (.c (.bool false)), none⟩,
 ⟨some 109, .mv (.t 108), none⟩,
 ⟨some 110, .load 2 true (.t 8), some (109, true)⟩,
 ⟨some 111, .load 2 true (.t 11), some (109, true)⟩,
 ⟨some 112, .call 16 [((.t 110), .pure), ((.t 111), .pure)] 1 false, some (109, true)⟩,
 ⟨some 113, .pick (.t 109) (.t 112) (.c (.bool false)), none⟩,
 ⟨some 114, .mv (.t 113), none⟩,
 ⟨some 115, .load 2 true (.t 9), some (114, true)⟩,
 ⟨some 116, .load 2 true (.t 12), some (114, true)⟩,
 ⟨some 117, .call 16 [((.t 115), .pure), ((.t 116), .pure)] 1 false, some (114, true)⟩,
 ⟨some 118, .pick (.t 114) (.t 117) (.c (.bool false)), none⟩,
 ⟨some 119, .mv (.t 118), none⟩,
 ⟨some 120, .mv (.t 10), some (119, true)⟩,
 ⟨some 121, .mv (.t 13), some (119, true)⟩,
 ⟨some 122, .beq .eql (.t 120) (.t 121), some (119, true)⟩,
 ⟨some 123, .pick (.t 119) (.t 122) (.c (.bool false)), none⟩,
 ⟨some 124, .mv (.t 123), none⟩,
 ⟨some 125, .load 2 true (.t 3), some (124, true)⟩,
 ⟨some 126, .call 22 [((.t 125), .pure)] 1 false, some (124, true)⟩,
 ⟨some 127, .load 2 true (.t 7), some (124, true)⟩,
 ⟨some 128, .call 22 [((.t 127), .pure)] 1 false, some (124, true)⟩,
 ⟨some 129, .bin .eql (.t 126) (.t 128), some (124, true)⟩,
 ⟨some 130, .pick (.t 124) (.t 129) (.c (.bool false)), none⟩,
 ⟨some 131, .mv (.t 130), none⟩,
 ⟨some 132, .load 2 true (.t 3), some (131, true)⟩,
 ⟨some 133, .load 2 true (.t 7), some (131, true)⟩,
 ⟨some 134, .call 30 [((.t 132), .pure), ((.t 133), .pure)] 1 false, some (131, true)⟩,
 ⟨some 135, .bin .eql (.t 134) (.c (.int .i64 0)), some (131, true)⟩,
 ⟨some 136, .pick (.t 131) (.t 135) (.c (.bool false)), none⟩,
 ⟨some 137, .mv (.t 136), none⟩,
 ⟨some 138, .call 13 [] 1 false, some (137, true)⟩,
 ⟨some 139, .pick (.t 137) (.t 138) (.c (.bool false)), none⟩,
 ⟨some 6, .mv (.t 139), none⟩] [6] [(0, 3), (6, 9), (29, 30)])
.ret))))))))),
[.tmp 6]⟩ : AFun)
theorem tr11 : trFun Try.prog F11 Try.f11 = some F11 := by kernel_rfl
/-- garment/garmentlaw02.short -/
def F12 : AFun :=
(⟨
(.seq
 (.region [⟨some 2, .box (.t 0), none⟩,
 ⟨some 3, .box (.t 1), none⟩,
 ⟨some 4, .mv (.c (.bool false)), none⟩] [2, 3])
(.seq
 (.region [⟨some 5, .load 2 true (.t 2), none⟩,
 ⟨some 6, .call 19 [((.t 5), .pure), ((.c (.int .i64 40)), .pure)] 1 false, none⟩,
 ⟨some 7, .mv (.t 6), none⟩,
 ⟨some 8, .load 2 true (.t 3), some (7, true)⟩,
 ⟨some 9, .call 19 [((.t 8), .pure), ((.c (.int .i64 40)), .pure)] 1 false, some (7, true)⟩,
 ⟨some 10, .pick (.t 7) (.t 9) (.c (.bool false)), none⟩,
 ⟨some 4, .mv (.t 10), none⟩] [4])
.ret)),
[.tmp 4]⟩ : AFun)
theorem tr12 : trFun Try.prog F12 Try.f12 = some F12 := by kernel_rfl
/-- garment/garmentlaw02.awake -/
def F13 : AFun :=
(⟨
(.seq
 (.region [⟨some 0, .mv (.c (.bool false)), none⟩] [])
(.seq
 (.region [⟨some 16, .call 26 [((.c (.int .i64 (-7))), .pure)] 1 false, none⟩,
 ⟨some 17, .call 26 [((.c (.int .i64 2)), .pure)] 1 false, none⟩,
 ⟨some 18, .call 14 [((.t 16), .pure), ((.t 17), .pure)] 3 false, none⟩,
 ⟨some 15, .mv (.t 18), none⟩,
 ⟨some 19, .ext (.t 15) 0, none⟩,
 ⟨some 20, .ext (.t 15) 1, none⟩,
 ⟨some 21, .ext (.t 15) 2, none⟩,
 ⟨some 1, .alloc [(.bool false), (.ints .u32 [])], none⟩,
 ⟨some 2, .alloc [(.bool false), (.ints .u32 [])], none⟩,
 ⟨none, .store 2 (.t 1) (.t 19), none⟩,
 ⟨none, .store 2 (.t 2) (.t 20), none⟩,
 ⟨some 3, .mv (.t 21), none⟩] [1, 2, 3])
(.seq
 (.region [⟨some 23, .call 26 [((.c (.int .i64 3)), .pure)] 1 false, none⟩,
 ⟨some 24, .bslice 1 (some .u32) [(.c (.int .u32 0))], none⟩,
 ⟨some 25, .build [(.bool false), (.ints .u32 [])] [(0, 1, (.c (.bool true))), (1, 1, (.t 24))], none⟩,
 ⟨some 26, .call 14 [((.t 23), .pure), ((.t 25), .pure)] 3 false, none⟩,
 ⟨some 22, .mv (.t 26), none⟩,
 ⟨some 27, .ext (.t 22) 0, none⟩,
 ⟨some 28, .ext (.t 22) 1, none⟩,
 ⟨some 29, .ext (.t 22) 2, none⟩,
 ⟨some 4, .alloc [(.bool false), (.ints .u32 [])], none⟩,
 ⟨some 5, .alloc [(.bool false), (.ints .u32 [])], none⟩,
 ⟨none, .store 2 (.t 4) (.t 27), none⟩,
 ⟨none, .store 2 (.t 5) (.t 28), none⟩,
 ⟨some 6, .mv (.t 29), none⟩] [1, 2, 3, 6])
(.seq
 (.region [⟨some 31, .call 20 [((.c (.str [45, 49, 50])), .pure)] 2 false, none⟩,
 ⟨some 30, .mv (.t 31), none⟩,
 ⟨some 32, .ext (.t 30) 0, none⟩,
 ⟨some 33, .ext (.t 30) 1, none⟩,
 ⟨some 7, .alloc [(.bool false), (.ints .u32 [])], none⟩,
 ⟨none, .store 2 (.t 7) (.t 32), none⟩,
 ⟨some 8, .mv (.t 33), none⟩] [1, 2, 3, 6, 7, 8])
(.seq
 (.region [⟨some 35, .call 20 [((.c (.str [45, 48])), .pure)] 2 false, none⟩,
 ⟨some 34, .mv (.t 35), none⟩,
 ⟨some 36, .ext (.t 34) 0, none⟩,
 ⟨some 37, .ext (.t 34) 1, none⟩,
 ⟨some 9, .alloc [(.bool false), (.ints .u32 [])], none⟩,
 ⟨none, .store 2 (.t 9) (.t 36), none⟩,
 ⟨some 10, .mv (.t 37), none⟩] [1, 2, 3, 6, 7, 8, 10])
(.seq
 (.region [⟨some 39, .bslice 1 (some .u32) [(.c (.int .u32 0)), (.c (.int .u32 2147483648)), (.c (.int .u32 0))], none⟩,
 ⟨some 40, .build [(.bool false), (.ints .u32 [])] [(0, 1, (.c (.bool true))), (1, 1, (.t 39))], none⟩,
 ⟨some 41, .call 24 [((.t 40), .pure)] 2 false, none⟩,
 ⟨some 38, .mv (.t 41), none⟩,
 ⟨some 42, .ext (.t 38) 0, none⟩,
 ⟨some 43, .ext (.t 38) 1, none⟩,
 ⟨some 11, .mv (.t 42), none⟩,
 ⟨some 12, .mv (.t 43), none⟩] [1, 2, 3, 6, 7, 8, 10, 11, 12])
(.seq
 (.region [⟨some 45, .bslice 1 (some .u32) [(.c (.int .u32 0)), (.c (.int .u32 2147483648))], none⟩,
 ⟨some 46, .build [(.bool false), (.ints .u32 [])] [(1, 1, (.t 45))], none⟩,
 ⟨some 47, .call 24 [((.t 46), .pure)] 2 false, none⟩,
 ⟨some 44, .mv (.t 47), none⟩,
 ⟨some 48, .ext (.t 44) 0, none⟩,
 ⟨some 49, .ext (.t 44) 1, none⟩,
 ⟨some 13, .mv (.t 48), none⟩,
 ⟨some 14, .mv (.t 49), none⟩] [1, 2, 3, 6, 7, 8, 10, 11, 12, 14])
(.seq
 (.seq
 (.region [⟨some 50, .load 2 true (.t 1), none⟩,
 ⟨some 51, .call 22 [((.t 50), .pure)] 1 false, none⟩,
 ⟨some 52, .bin .neq (.t 51) (.c (.str [45, 52])), none⟩,
 ⟨some 53, .mv (.t 52), none⟩,
 ⟨some 54, .load 2 true (.t 2), some (53, false)⟩,
 ⟨some 55, .call 22 [((.t 54), .pure)] 1 false, some (53, false)⟩,
 ⟨some 56, .bin .neq (.t 55) (.c (.str [49])), some (53, false)⟩,
 ⟨some 57, .pick (.t 53) (.c (.bool true)) (.t 56), none⟩,
 ⟨some 58, .mv (.t 57), none⟩,
 ⟨some 59, .mv (.t 3), some (58, false)⟩,
 ⟨some 60, .un .not (.t 59), some (58, false)⟩,
 ⟨some 61, .pick (.t 58) (.c (.bool true)) (.t 60), none⟩,
 ⟨some 62, .mv (.t 61), none⟩,
 ⟨some 63, .mv (.t 6), some (62, false)⟩,
 ⟨some 64, .pick (.t 62) (.c (.bool true)) (.t 63), none⟩,
 ⟨some 65, .mv (.t 64), none⟩,
 ⟨some 66, .load 2 true (.t 7), some (65, false)⟩,
 ⟨some 67, .call 22 [((.t 66), .pure)] 1 false, some (65, false)⟩,
 ⟨some 68, .bin .neq (.t 67) (.c (.str [45, 49, 50])), some (65, false)⟩,
 ⟨some 69, .pick (.t 65) (.c (.bool true)) (.t 68), none⟩,
 ⟨some 70, .mv (.t 69), none⟩,
 ⟨some 71, .mv (.t 8), some (70, false)⟩,
 ⟨some 72, .bin .neq (.t 71) (.c (.int .i64 0)), some (70, false)⟩,
 ⟨some 73, .pick (.t 70) (.c (.bool true)) (.t 72), none⟩,
 ⟨some 74, .mv (.t 73), none⟩,
 ⟨some 75, .mv (.t 10), some (74, false)⟩,
 ⟨some 76, .bin .neq (.t 75) (.c (.int .i64 2)), some (74, false)⟩,
 ⟨some 77, .pick (.t 74) (.c (.bool true)) (.t 76), none⟩,
 ⟨some 78, .mv (.t 77), none⟩,
 ⟨some 79, .mv (.t 11), some (78, false)⟩,
 ⟨some 80, .bin .neq (.t 79) (.c (.int .i64 (-9223372036854775808))), some (78, false)⟩,
 ⟨some 81, .pick (.t 78) (.c (.bool true)) (.t 80), none⟩,
 ⟨some 82, .mv (.t 81), none⟩,
 ⟨some 83, .mv (.t 12), some (82, false)⟩,
 ⟨some 84, .un .not (.t 83), some (82, false)⟩,
 ⟨some 85, .pick (.t 82) (.c (.bool true)) (.t 84), none⟩,
 ⟨some 86, .mv (.t 85), none⟩,
 ⟨some 87, .mv (.t 14), some (86, false)⟩,
 ⟨some 88, .pick (.t 86) (.c (.bool true)) (.t 87), none⟩] [88])
 (.cond (.t 88)
 (.seq
 (.region [⟨some 0, .mv (.c (.bool false)), none⟩] [0])
 .ret)
 .skip))
(.seq
 (.region [⟨some 89, .bslice 1 (some .u32) [(.c (.int .u32 0)), (.c (.int .u32 0))], none⟩,
 ⟨some 90, .build [(.bool false), (.ints .u32 [])] [(0, 1, (.c (.bool true))), (1, 1, (.t 89))], none⟩,
 ⟨some 91, .call 22 [((.t 90), .pure)] 1 false, none⟩,
 ⟨some 92, .bin .eql (.t 91) (.c (.str [48])), none⟩,
 ⟨some 93, .mv (.t 92), none⟩,
 ⟨some 94, .call 26 [((.c (.int .i64 (-5))), .pure)] 1 false, some (93, true)⟩,
 ⟨some 95, .call 26 [((.c (.int .i64 3)), .pure)] 1 false, some (93, true)⟩,
 ⟨some 96, .call 30 [((.t 94), .pure), ((.t 95), .pure)] 1 false, some (93, true)⟩,
 ⟨some 97, .bin .eql (.t 96) (.c (.int .i64 (-1))), some (93, true)⟩,
 ⟨some 98, .pick (.t 93) (.t 97) (.c (.bool false)), none⟩,
 ⟨some 99, .mv (.t 98), none⟩,
 ⟨some 100, .call 26 [((.c (.int .i64 (-5))), .pure)] 1 false, some (99, true)⟩,
 ⟨some 101, .call 26 [((.c (.int .i64 (-3))), .pure)] 1 false, some (99, true)⟩,
 ⟨some 102, .call 17 [((.t 100), .pure), ((.t 101), .pure)] 1 false, some (99, true)⟩,
 ⟨some 103, .call 22 [((.t 102), .pure)] 1 false, some (99, true)⟩,
 ⟨some 104, .bin .eql (.t 103) (.c (.str [49, 53])), some (99, true)⟩,
 ⟨some 105, .pick (.t 99) (.t 104) (.c (.bool false)), none⟩,
 ⟨some 0, .mv (.t 105), none⟩] [0])
.ret))))))))),
[.tmp 0]⟩ : AFun)
theorem tr13 : trFun Try.prog F13 Try.f13 = some F13 := by kernel_rfl
/-- garment/integer.DivMod -/
def F14 : AFun :=
(⟨
(.seq
 (.region [⟨some 2, .box (.t 0), none⟩,
 ⟨some 3, .box (.t 1), none⟩,
 ⟨some 4, .alloc [(.bool false), (.ints .u32 [])], none⟩,
 ⟨some 5, .alloc [(.bool false), (.ints .u32 [])], none⟩,
 ⟨some 6, .mv (.c (.bool false)), none⟩] [2, 3, 4, 5])
(.seq
 (.region [⟨some 15, .faddr 1 (.t 2), none⟩,
 ⟨some 16, .load 1 false (.t 15), none⟩,
 ⟨some 17, .faddr 1 (.t 3), none⟩,
 ⟨some 18, .load 1 false (.t 17), none⟩,
 ⟨some 19, .call 39 [((.t 16), .pure), ((.t 18), .pure)] 3 false, none⟩,
 ⟨some 14, .mv (.t 19), none⟩,
 ⟨some 20, .ext (.t 14) 0, none⟩,
 ⟨some 21, .ext (.t 14) 1, none⟩,
 ⟨some 22, .ext (.t 14) 2, none⟩,
 ⟨some 7, .mv (.t 20), none⟩,
 ⟨some 8, .mv (.t 21), none⟩,
 ⟨some 9, .mv (.t 22), none⟩] [2, 3, 4, 5, 7, 8, 9])
(.seq
 (.seq
 (.region [⟨some 23, .mv (.t 9), none⟩,
 ⟨some 24, .un .not (.t 23), none⟩] [2, 3, 4, 5, 7, 8, 24])
 (.cond (.t 24)
 (.seq
 (.region [⟨some 25, .build [(.bool false), (.ints .u32 [])] [], none⟩,
 ⟨some 26, .build [(.bool false), (.ints .u32 [])] [], none⟩,
 ⟨none, .store 2 (.t 4) (.t 25), none⟩,
 ⟨none, .store 2 (.t 5) (.t 26), none⟩,
 ⟨some 6, .mv (.c (.bool false)), none⟩] [4, 5, 6])
 .ret)
 .skip))
(.seq
 (.dregion [⟨some 27, .faddr 0 (.t 2), none⟩,
 ⟨some 28, .load 1 false (.t 27), none⟩,
 ⟨some 29, .faddr 0 (.t 3), none⟩,
 ⟨some 30, .load 1 false (.t 29), none⟩,
 ⟨some 31, .beq .neq (.t 28) (.t 30), none⟩,
 ⟨some 32, .mv (.t 7), none⟩,
 ⟨some 33, .call 40 [((.t 31), .pure), ((.t 32), .pure)] 1 false, none⟩,
 ⟨some 34, .faddr 0 (.t 2), none⟩,
 ⟨some 35, .load 1 false (.t 34), none⟩,
 ⟨some 36, .mv (.t 8), none⟩,
 ⟨some 37, .call 40 [((.t 35), .pure), ((.t 36), .pure)] 1 false, none⟩,
 ⟨some 10, .alloc [(.bool false), (.ints .u32 [])], none⟩,
 ⟨some 11, .alloc [(.bool false), (.ints .u32 [])], none⟩,
 ⟨none, .store 2 (.t 10) (.t 33), none⟩,
 ⟨none, .store 2 (.t 11) (.t 37), none⟩] [3, 4, 5, 10, 11] [(6, 8), (1, 11), (3, 11), (6, 11), (8, 11), (10, 11), (1, 12), (3, 12), (6, 12), (8, 12), (10, 12), (11, 12)])
(.seq
 (.seq
 (.region [⟨some 38, .faddr 0 (.t 11), none⟩,
 ⟨some 39, .load 1 false (.t 38), none⟩] [3, 4, 5, 10, 11, 39])
 (.cond (.t 39)
 (.seq
 (.region [⟨some 40, .faddr 1 (.t 3), none⟩,
 ⟨some 41, .load 1 false (.t 40), none⟩,
 ⟨some 42, .call 40 [((.c (.bool false)), .pure), ((.t 41), .pure)] 1 false, none⟩,
 ⟨some 12, .alloc [(.bool false), (.ints .u32 [])], none⟩,
 ⟨none, .store 2 (.t 12) (.t 42), none⟩] [3, 4, 5, 10, 11, 12])
 (.seq
 (.region [⟨some 43, .load 2 true (.t 11), none⟩,
 ⟨some 44, .load 2 true (.t 12), none⟩,
 ⟨some 45, .call 34 [((.t 43), .pure), ((.t 44), .pure)] 1 false, none⟩,
 ⟨none, .store 2 (.t 11) (.t 45), none⟩] [3, 4, 5, 10, 11])
 (.seq
 (.region [⟨some 46, .call 26 [((.c (.int .i64 1)), .pure)] 1 false, none⟩,
 ⟨some 13, .alloc [(.bool false), (.ints .u32 [])], none⟩,
 ⟨none, .store 2 (.t 13) (.t 46), none⟩] [3, 4, 5, 10, 11, 13])
 (.seq
 (.region [⟨some 47, .faddr 0 (.t 3), none⟩,
 ⟨some 48, .load 1 false (.t 47), none⟩] [4, 5, 10, 11, 13, 48])
 (.cond (.t 48)
 (.region [⟨some 49, .load 2 true (.t 10), none⟩,
 ⟨some 50, .load 2 true (.t 13), none⟩,
 ⟨some 51, .call 34 [((.t 49), .pure), ((.t 50), .pure)] 1 false, none⟩,
 ⟨none, .store 2 (.t 10) (.t 51), none⟩] [4, 5, 10, 11])
 (.region [⟨some 52, .load 2 true (.t 10), none⟩,
 ⟨some 53, .load 2 true (.t 13), none⟩,
 ⟨some 54, .call 36 [((.t 52), .pure), ((.t 53), .pure)] 1 false, none⟩,
 ⟨none, .store 2 (.t 10) (.t 54), none⟩] [4, 5, 10, 11]))))))
 .skip))
(.seq
 (.dregion [⟨some 55, .load 2 true (.t 10), none⟩,
 ⟨some 56, .load 2 true (.t 11), none⟩,
 ⟨none, .store 2 (.t 4) (.t 55), none⟩,
 ⟨none, .store 2 (.t 5) (.t 56), none⟩,
 ⟨some 6, .mv (.c (.bool true)), none⟩] [4, 5, 6] [(1, 2)])
.ret)))))),
[.cell 4 2 true, .cell 5 2 true, .tmp 6]⟩ : AFun)
theorem tr14 : trFun Try.prog F14 Try.f14 = some F14 := by kernel_rfl
/-- garment/garmentref02.DivMod -/
def F15 : AFun :=
(⟨
(.seq
 (.region [⟨some 2, .box (.t 0), none⟩,
 ⟨some 3, .box (.t 1), none⟩,
 ⟨some 4, .alloc [(.bool false), (.ints .u32 [])], none⟩,
 ⟨some 5, .alloc [(.bool false), (.ints .u32 [])], none⟩,
 ⟨some 6, .mv (.c (.bool false)), none⟩] [2, 3, 4, 5])
(.seq
 (.dregion [⟨some 12, .load 2 true (.t 2), none⟩,
 ⟨some 13, .call 29 [((.t 12), .pure)] 1 false, none⟩,
 ⟨some 14, .load 2 true (.t 3), none⟩,
 ⟨some 15, .call 29 [((.t 14), .pure)] 1 false, none⟩,
 ⟨some 7, .alloc [(.bool false), (.ints .u32 [])], none⟩,
 ⟨some 8, .alloc [(.bool false), (.ints .u32 [])], none⟩,
 ⟨none, .store 2 (.t 7) (.t 13), none⟩,
 ⟨none, .store 2 (.t 8) (.t 15), none⟩] [4, 5, 7, 8] [(1, 2), (0, 4), (1, 4), (2, 4), (3, 4), (0, 5), (1, 5), (2, 5), (3, 5), (4, 5)])
(.seq
 (.region [⟨some 17, .faddr 1 (.t 7), none⟩,
 ⟨some 18, .load 1 false (.t 17), none⟩,
 ⟨some 19, .faddr 1 (.t 8), none⟩,
 ⟨some 20, .load 1 false (.t 19), none⟩,
 ⟨some 21, .call 41 [((.t 18), .pure), ((.t 20), .pure)] 3 false, none⟩,
 ⟨some 16, .mv (.t 21), none⟩,
 ⟨some 22, .ext (.t 16) 0, none⟩,
 ⟨some 23, .ext (.t 16) 1, none⟩,
 ⟨some 24, .ext (.t 16) 2, none⟩,
 ⟨some 9, .mv (.t 22), none⟩,
 ⟨some 10, .mv (.t 23), none⟩,
 ⟨some 11, .mv (.t 24), none⟩] [4, 5, 7, 8, 9, 10, 11])
(.seq
 (.seq
 (.region [⟨some 25, .mv (.t 11), none⟩,
 ⟨some 26, .un .not (.t 25), none⟩] [4, 5, 7, 8, 9, 10, 26])
 (.cond (.t 26)
 (.seq
 (.region [⟨some 27, .build [(.bool false), (.ints .u32 [])] [], none⟩,
 ⟨some 28, .build [(.bool false), (.ints .u32 [])] [], none⟩,
 ⟨none, .store 2 (.t 4) (.t 27), none⟩,
 ⟨none, .store 2 (.t 5) (.t 28), none⟩,
 ⟨some 6, .mv (.c (.bool false)), none⟩] [4, 5, 6])
 .ret)
 .skip))
(.seq
 (.seq
 (.region [⟨some 29, .faddr 0 (.t 7), none⟩,
 ⟨some 30, .load 1 false (.t 29), none⟩,
 ⟨some 31, .mv (.t 30), none⟩,
 ⟨some 32, .mv (.t 10), some (31, true)⟩,
 ⟨some 33, .call 42 [((.t 32), .pure)] 1 false, some (31, true)⟩,
 ⟨some 34, .len (.t 33), some (31, true)⟩,
 ⟨some 35, .bin .gtr (.t 34) (.c (.int .i64 0)), some (31, true)⟩,
 ⟨some 36, .pick (.t 31) (.t 35) (.c (.bool false)), none⟩] [4, 5, 7, 8, 9, 10, 36])
 (.cond (.t 36)
 (.seq
 (.region [⟨some 37, .mv (.t 9), none⟩,
 ⟨some 38, .call 44 [((.c (.int .u64 1)), .pure)] 1 false, none⟩,
 ⟨some 39, .call 43 [((.t 37), .pure), ((.t 38), .pure)] 1 false, none⟩,
 ⟨some 9, .mv (.t 39), none⟩] [4, 5, 7, 8, 9, 10])
 (.region [⟨some 41, .faddr 1 (.t 8), none⟩,
 ⟨some 42, .load 1 false (.t 41), none⟩,
 ⟨some 43, .mv (.t 10), none⟩,
 ⟨some 44, .call 45 [((.t 42), .pure), ((.t 43), .pure)] 2 false, none⟩,
 ⟨some 40, .mv (.t 44), none⟩,
 ⟨some 45, .ext (.t 40) 0, none⟩,
 ⟨some 46, .ext (.t 40) 1, none⟩,
 ⟨some 10, .mv (.t 45), none⟩] [4, 5, 7, 8, 9, 10]))
 .skip))
(.seq
 (.region [⟨some 47, .faddr 0 (.t 7), none⟩,
 ⟨some 48, .load 1 false (.t 47), none⟩,
 ⟨some 49, .faddr 0 (.t 8), none⟩,
 ⟨some 50, .load 1 false (.t 49), none⟩,
 ⟨some 51, .beq .neq (.t 48) (.t 50), none⟩,
 ⟨some 52, .mv (.t 9), none⟩,
 ⟨some 53, .call 46 [((.t 51), .pure), ((.t 52), .pure)] 1 false, none⟩,
 ⟨some 54, .mv (.t 10), none⟩,
 ⟨some 55, .call 46 [((.c (.bool false)), .pure), ((.t 54), .pure)] 1 false, none⟩,
 ⟨none, .store 2 (.t 4) (.t 53), none⟩,
 ⟨none, .store 2 (.t 5) (.t 55), none⟩,
 ⟨some 6, .mv (.c (.bool true)), none⟩] [4, 5, 6])
.ret)))))),
[.cell 4 2 true, .cell 5 2 true, .tmp 6]⟩ : AFun)
theorem tr15 : trFun Try.prog F15 Try.f15 = some F15 := by kernel_rfl
def F16C0 : Canon := ⟨[(2, none), (3, none), (5, none)], [(2, [none, none]), (3, [none, none])]⟩
def F16L0 : ACode := (.seq
 (.seq
 (.region [⟨some 20, .mv (.t 5), none⟩,
 ⟨some 21, .faddr 1 (.t 2), none⟩,
 ⟨some 22, .load 1 false (.t 21), none⟩,
 ⟨some 23, .len (.t 22), none⟩,
 ⟨some 24, .bin .lss (.t 20) (.t 23), none⟩] [2, 3, 5, 24])
 (.cond (.t 24)
 .skip
 (.exit 0)))
 (.seq
 (.block 1
 (.seq
 (.dregion [⟨some 27, .faddr 1 (.t 2), none⟩,
 ⟨some 28, .load 1 false (.t 27), none⟩,
 ⟨some 29, .mv (.t 5), none⟩,
 ⟨some 30, .iaddr 1 (.t 28) (.t 29), none⟩,
 ⟨some 31, .load 1 false (.t 30), none⟩,
 ⟨some 32, .faddr 1 (.t 3), none⟩,
 ⟨some 33, .load 1 false (.t 32), none⟩,
 ⟨some 34, .mv (.t 5), none⟩,
 ⟨some 35, .iaddr 1 (.t 33) (.t 34), none⟩,
 ⟨some 36, .load 1 false (.t 35), none⟩,
 ⟨some 37, .bin .neq (.t 31) (.t 36), none⟩] [2, 3, 5, 37] [])
 (.cond (.t 37)
 (.seq
 (.region [⟨some 4, .mv (.c (.bool false)), none⟩] [4])
 .ret)
 .skip)))
 (.region [⟨some 25, .mv (.t 5), none⟩,
 ⟨some 26, .bin .add (.t 25) (.c (.int .i64 1)), none⟩,
 ⟨some 5, .mv (.t 26), none⟩] [2, 3, 5])))
/-- garment/garmentref02.Same -/
def F16 : AFun :=
(⟨
(.seq
 (.region [⟨some 2, .box (.t 0), none⟩,
 ⟨some 3, .box (.t 1), none⟩,
 ⟨some 4, .mv (.c (.bool false)), none⟩] [2, 3])
(.seq
 (.seq
 (.region [⟨some 6, .faddr 0 (.t 2), none⟩,
 ⟨some 7, .load 1 false (.t 6), none⟩,
 ⟨some 8, .faddr 0 (.t 3), none⟩,
 ⟨some 9, .load 1 false (.t 8), none⟩,
 ⟨some 10, .beq .neq (.t 7) (.t 9), none⟩,
 ⟨some 11, .mv (.t 10), none⟩,
 ⟨some 12, .faddr 1 (.t 2), some (11, false)⟩,
 ⟨some 13, .load 1 false (.t 12), some (11, false)⟩,
 ⟨some 14, .len (.t 13), some (11, false)⟩,
 ⟨some 15, .faddr 1 (.t 3), some (11, false)⟩,
 ⟨some 16, .load 1 false (.t 15), some (11, false)⟩,
 ⟨some 17, .len (.t 16), some (11, false)⟩,
 ⟨some 18, .bin .neq (.t 14) (.t 17), some (11, false)⟩,
 ⟨some 19, .pick (.t 11) (.c (.bool true)) (.t 18), none⟩] [2, 3, 19])
 (.cond (.t 19)
 (.seq
 (.region [⟨some 4, .mv (.c (.bool false)), none⟩] [4])
 .ret)
 .skip))
(.seq
 (.seq
 (.region [⟨some 5, .mv (.c (.int .i64 0)), none⟩] [2, 3, 5])
 (.block 0
 (.loop F16C0 F16L0)))
(.seq
 (.region [⟨some 4, .mv (.c (.bool true)), none⟩] [4])
.ret)))),
[.tmp 4]⟩ : AFun)
theorem tr16 : trFun Try.prog F16 Try.f16 = some F16 := by kernel_rfl
/-- garment/integer.Mul -/
def F17 : AFun :=
(⟨
(.seq
 (.region [⟨some 2, .box (.t 0), none⟩,
 ⟨some 3, .box (.t 1), none⟩,
 ⟨some 4, .alloc [(.bool false), (.ints .u32 [])], none⟩] [2, 3, 4])
(.seq
 (.dregion [⟨some 5, .faddr 0 (.t 2), none⟩,
 ⟨some 6, .load 1 false (.t 5), none⟩,
 ⟨some 7, .faddr 0 (.t 3), none⟩,
 ⟨some 8, .load 1 false (.t 7), none⟩,
 ⟨some 9, .beq .neq (.t 6) (.t 8), none⟩,
 ⟨some 10, .faddr 1 (.t 2), none⟩,
 ⟨some 11, .load 1 false (.t 10), none⟩,
 ⟨some 12, .faddr 1 (.t 3), none⟩,
 ⟨some 13, .load 1 false (.t 12), none⟩,
 ⟨some 14, .call 47 [((.t 11), .pure), ((.t 13), .pure)] 1 false, none⟩,
 ⟨some 15, .call 40 [((.t 9), .pure), ((.t 14), .pure)] 1 false, none⟩,
 ⟨none, .store 2 (.t 4) (.t 15), none⟩] [4] [(1, 9), (3, 9)])
.ret)),
[.cell 4 2 true]⟩ : AFun)
theorem tr17 : trFun Try.prog F17 Try.f17 = some F17 := by kernel_rfl
/-- garment/garmentref02.Mul -/
def F18 : AFun :=
(⟨
(.seq
 (.region [⟨some 2, .box (.t 0), none⟩,
 ⟨some 3, .box (.t 1), none⟩,
 ⟨some 4, .alloc [(.bool false), (.ints .u32 [])], none⟩] [2, 3, 4])
(.seq
 (.dregion [⟨some 5, .faddr 0 (.t 2), none⟩,
 ⟨some 6, .load 1 false (.t 5), none⟩,
 ⟨some 7, .faddr 0 (.t 3), none⟩,
 ⟨some 8, .load 1 false (.t 7), none⟩,
 ⟨some 9, .beq .neq (.t 6) (.t 8), none⟩,
 ⟨some 10, .faddr 1 (.t 2), none⟩,
 ⟨some 11, .load 1 false (.t 10), none⟩,
 ⟨some 12, .faddr 1 (.t 3), none⟩,
 ⟨some 13, .load 1 false (.t 12), none⟩,
 ⟨some 14, .call 48 [((.t 11), .pure), ((.t 13), .pure)] 1 false, none⟩,
 ⟨some 15, .call 46 [((.t 9), .pure), ((.t 14), .pure)] 1 false, none⟩,
 ⟨none, .store 2 (.t 4) (.t 15), none⟩] [4] [(1, 9), (3, 9)])
.ret)),
[.cell 4 2 true]⟩ : AFun)
theorem tr18 : trFun Try.prog F18 Try.f18 = some F18 := by kernel_rfl
/-- garment/garmentref02.Short -/
def F19 : AFun :=
(⟨
(.seq
 (.region [⟨some 2, .box (.t 0), none⟩,
 ⟨some 4, .mv (.c (.bool false)), none⟩] [1, 2])
(.seq
 (.region [⟨some 5, .faddr 1 (.t 2), none⟩,
 ⟨some 6, .load 1 false (.t 5), none⟩,
 ⟨some 7, .len (.t 6), none⟩,
 ⟨some 8, .mv (.t 1), none⟩,
 ⟨some 9, .bin .leq (.t 7) (.t 8), none⟩,
 ⟨some 4, .mv (.t 9), none⟩] [4])
.ret)),
[.tmp 4]⟩ : AFun)
theorem tr19 : trFun Try.prog F19 Try.f19 = some F19 := by kernel_rfl
/-- garment/integer.Parse -/
def F20 : AFun :=
(⟨
(.seq
 (.region [⟨some 2, .alloc [(.bool false), (.ints .u32 [])], none⟩,
 ⟨some 3, .mv (.c (.int .i64 0)), none⟩] [0, 2])
(.seq
 (.region [⟨some 9, .mv (.t 0), none⟩,
 ⟨some 10, .call 49 [((.t 9), .pure), ((.c (.str [45])), .pure)] 2 false, none⟩,
 ⟨some 8, .mv (.t 10), none⟩,
 ⟨some 11, .ext (.t 8) 0, none⟩,
 ⟨some 12, .ext (.t 8) 1, none⟩,
 ⟨some 4, .mv (.t 11), none⟩,
 ⟨some 5, .mv (.t 12), none⟩] [2, 4, 5])
(.seq
 (.region [⟨some 14, .mv (.t 4), none⟩,
 ⟨some 15, .call 50 [((.t 14), .pure)] 2 false, none⟩,
 ⟨some 13, .mv (.t 15), none⟩,
 ⟨some 16, .ext (.t 13) 0, none⟩,
 ⟨some 17, .ext (.t 13) 1, none⟩,
 ⟨some 6, .mv (.t 16), none⟩,
 ⟨some 7, .mv (.t 17), none⟩] [2, 5, 6, 7])
(.seq
 (.seq
 (.region [⟨some 18, .mv (.t 7), none⟩,
 ⟨some 19, .bin .neq (.t 18) (.c (.int .i64 0)), none⟩] [2, 5, 6, 7, 19])
 (.cond (.t 19)
 (.seq
 (.region [⟨some 20, .build [(.bool false), (.ints .u32 [])] [], none⟩,
 ⟨some 21, .mv (.t 7), none⟩,
 ⟨none, .store 2 (.t 2) (.t 20), none⟩,
 ⟨some 3, .mv (.t 21), none⟩] [2, 3])
 .ret)
 .skip))
(.seq
 (.seq
 (.region [⟨some 22, .mv (.t 5), none⟩,
 ⟨some 23, .mv (.t 22), none⟩,
 ⟨some 24, .mv (.t 6), some (23, true)⟩,
 ⟨some 25, .call 51 [((.t 24), .pure)] 1 false, some (23, true)⟩,
 ⟨some 26, .len (.t 25), some (23, true)⟩,
 ⟨some 27, .bin .eql (.t 26) (.c (.int .i64 0)), some (23, true)⟩,
 ⟨some 28, .pick (.t 23) (.t 27) (.c (.bool false)), none⟩] [2, 5, 6, 28])
 (.cond (.t 28)
 (.seq
 (.region [⟨some 29, .build [(.bool false), (.ints .u32 [])] [], none⟩,
 ⟨none, .store 2 (.t 2) (.t 29), none⟩,
 ⟨some 3, .mv (.c (.int .i64 2)), none⟩] [2, 3])
 .ret)
 .skip))
(.seq
 (.region [⟨some 30, .mv (.t 5), none⟩,
 ⟨some 31, .mv (.t 6), none⟩,
 ⟨some 32, .call 40 [((.t 30), .pure), ((.t 31), .pure)] 1 false, none⟩,
 ⟨none, .store 2 (.t 2) (.t 32), none⟩,
 ⟨some 3, .mv (.c (.int .i64 0)), none⟩] [2, 3])
.ret)))))),
[.cell 2 2 true, .tmp 3]⟩ : AFun)
theorem tr20 : trFun Try.prog F20 Try.f20 = some F20 := by kernel_rfl
/-- garment/garmentref02.Parse -/
def F21 : AFun :=
(⟨
(.seq
 (.region [⟨some 2, .alloc [(.bool false), (.ints .u32 [])], none⟩,
 ⟨some 3, .mv (.c (.int .i64 0)), none⟩] [0, 2])
(.seq
 (.region [⟨some 8, .mv (.t 0), none⟩,
 ⟨some 9, .bin .neq (.t 8) (.c (.str [])), none⟩,
 ⟨some 10, .mv (.t 9), none⟩,
 ⟨some 11, .mv (.t 0), some (10, true)⟩,
 ⟨some 12, .sidx (.t 11) (.c (.int .i64 0)), some (10, true)⟩,
 ⟨some 13, .bin .eql (.t 12) (.c (.int .u8 45)), some (10, true)⟩,
 ⟨some 14, .pick (.t 10) (.t 13) (.c (.bool false)), none⟩,
 ⟨some 4, .mv (.t 14), none⟩] [0, 2, 4])
(.seq
 (.region [⟨some 15, .mv (.t 0), none⟩,
 ⟨some 5, .mv (.t 15), none⟩] [0, 2, 4, 5])
(.seq
 (.seq
 (.region [⟨some 16, .mv (.t 4), none⟩] [0, 2, 4, 5, 16])
 (.cond (.t 16)
 (.region [⟨some 17, .mv (.t 0), none⟩,
 ⟨some 18, .sslice (.t 17) (some (.c (.int .i64 1))) none, none⟩,
 ⟨some 5, .mv (.t 18), none⟩] [2, 4, 5])
 .skip))
(.seq
 (.region [⟨some 20, .mv (.t 5), none⟩,
 ⟨some 21, .call 52 [((.t 20), .pure)] 2 false, none⟩,
 ⟨some 19, .mv (.t 21), none⟩,
 ⟨some 22, .ext (.t 19) 0, none⟩,
 ⟨some 23, .ext (.t 19) 1, none⟩,
 ⟨some 6, .mv (.t 22), none⟩,
 ⟨some 7, .mv (.t 23), none⟩] [2, 4, 6, 7])
(.seq
 (.seq
 (.region [⟨some 24, .mv (.t 7), none⟩,
 ⟨some 25, .bin .neq (.t 24) (.c (.int .i64 0)), none⟩] [2, 4, 6, 7, 25])
 (.cond (.t 25)
 (.seq
 (.region [⟨some 26, .build [(.bool false), (.ints .u32 [])] [], none⟩,
 ⟨some 27, .mv (.t 7), none⟩,
 ⟨none, .store 2 (.t 2) (.t 26), none⟩,
 ⟨some 3, .mv (.t 27), none⟩] [2, 3])
 .ret)
 .skip))
(.seq
 (.seq
 (.region [⟨some 28, .mv (.t 4), none⟩,
 ⟨some 29, .mv (.t 28), none⟩,
 ⟨some 30, .mv (.t 6), some (29, true)⟩,
 ⟨some 31, .call 42 [((.t 30), .pure)] 1 false, some (29, true)⟩,
 ⟨some 32, .len (.t 31), some (29, true)⟩,
 ⟨some 33, .bin .eql (.t 32) (.c (.int .i64 0)), some (29, true)⟩,
 ⟨some 34, .pick (.t 29) (.t 33) (.c (.bool false)), none⟩] [2, 4, 6, 34])
 (.cond (.t 34)
 (.seq
 (.region [⟨some 35, .build [(.bool false), (.ints .u32 [])] [], none⟩,
 ⟨none, .store 2 (.t 2) (.t 35), none⟩,
 ⟨some 3, .mv (.c (.int .i64 2)), none⟩] [2, 3])
 .ret)
 .skip))
(.seq
 (.region [⟨some 36, .mv (.t 4), none⟩,
 ⟨some 37, .mv (.t 6), none⟩,
 ⟨some 38, .call 46 [((.t 36), .pure), ((.t 37), .pure)] 1 false, none⟩,
 ⟨none, .store 2 (.t 2) (.t 38), none⟩,
 ⟨some 3, .mv (.c (.int .i64 0)), none⟩] [2, 3])
.ret)))))))),
[.cell 2 2 true, .tmp 3]⟩ : AFun)
theorem tr21 : trFun Try.prog F21 Try.f21 = some F21 := by kernel_rfl
/-- garment/integer.Text -/
def F22 : AFun :=
(⟨
(.seq
 (.region [⟨some 1, .box (.t 0), none⟩,
 ⟨some 2, .mv (.c (.str [])), none⟩] [1])
(.seq
 (.region [⟨some 4, .faddr 1 (.t 1), none⟩,
 ⟨some 5, .load 1 false (.t 4), none⟩,
 ⟨some 6, .call 53 [((.t 5), .pure)] 1 false, none⟩,
 ⟨some 3, .mv (.t 6), none⟩] [1, 3])
(.seq
 (.seq
 (.region [⟨some 7, .load 2 true (.t 1), none⟩,
 ⟨some 8, .call 54 [((.t 7), .pure)] 1 false, none⟩,
 ⟨some 9, .bin .lss (.t 8) (.c (.int .i64 0)), none⟩] [3, 9])
 (.cond (.t 9)
 (.seq
 (.region [⟨some 10, .mv (.t 3), none⟩,
 ⟨some 11, .bin .add (.c (.str [45])) (.t 10), none⟩,
 ⟨some 2, .mv (.t 11), none⟩] [2])
 .ret)
 .skip))
(.seq
 (.region [⟨some 12, .mv (.t 3), none⟩,
 ⟨some 2, .mv (.t 12), none⟩] [2])
.ret)))),
[.tmp 2]⟩ : AFun)
theorem tr22 : trFun Try.prog F22 Try.f22 = some F22 := by kernel_rfl
/-- garment/garmentref02.Text -/
def F23 : AFun :=
(⟨
(.seq
 (.region [⟨some 1, .box (.t 0), none⟩,
 ⟨some 2, .mv (.c (.str [])), none⟩] [1])
(.seq
 (.region [⟨some 4, .load 2 true (.t 1), none⟩,
 ⟨some 5, .call 29 [((.t 4), .pure)] 1 false, none⟩,
 ⟨some 3, .alloc [(.bool false), (.ints .u32 [])], none⟩,
 ⟨none, .store 2 (.t 3) (.t 5), none⟩] [3])
(.seq
 (.seq
 (.region [⟨some 6, .faddr 0 (.t 3), none⟩,
 ⟨some 7, .load 1 false (.t 6), none⟩] [3, 7])
 (.cond (.t 7)
 (.seq
 (.region [⟨some 8, .faddr 1 (.t 3), none⟩,
 ⟨some 9, .load 1 false (.t 8), none⟩,
 ⟨some 10, .call 55 [((.t 9), .pure)] 1 false, none⟩,
 ⟨some 11, .bin .add (.c (.str [45])) (.t 10), none⟩,
 ⟨some 2, .mv (.t 11), none⟩] [2])
 .ret)
 .skip))
(.seq
 (.region [⟨some 12, .faddr 1 (.t 3), none⟩,
 ⟨some 13, .load 1 false (.t 12), none⟩,
 ⟨some 14, .call 55 [((.t 13), .pure)] 1 false, none⟩,
 ⟨some 2, .mv (.t 14), none⟩] [2])
.ret)))),
[.tmp 2]⟩ : AFun)
theorem tr23 : trFun Try.prog F23 Try.f23 = some F23 := by kernel_rfl
def F24C0 : Canon := ⟨[(1, none), (5, none), (14, none), (15, none), (16, none)], [(1, [none, none])]⟩
def F24L0 : ACode := (.seq
 (.region [⟨some 17, .bin .lss (.t 16) (.t 15), none⟩] [1, 5, 14, 15, 16, 17])
 (.seq
 (.cond (.t 17)
 .skip
 (.exit 0))
 (.seq
 (.block 1
 (.seq
 (.region [⟨some 18, .mv (.t 16), none⟩,
 ⟨some 19, .iaddr 1 (.t 14) (.t 16), none⟩,
 ⟨some 20, .load 1 false (.t 19), none⟩,
 ⟨some 6, .mv (.t 18), none⟩,
 ⟨some 7, .mv (.t 20), none⟩] [1, 5, 6, 7, 14, 15, 16])
 (.region [⟨some 21, .mv (.t 5), none⟩,
 ⟨some 22, .mv (.t 7), none⟩,
 ⟨some 23, .conv (.int .u64) (.t 22), none⟩,
 ⟨some 24, .mv (.t 6), none⟩,
 ⟨some 25, .bin .mul (.c (.int .i64 32)) (.t 24), none⟩,
 ⟨some 26, .bin .shl (.t 23) (.t 25), none⟩,
 ⟨some 27, .bin .or (.t 21) (.t 26), none⟩,
 ⟨some 5, .mv (.t 27), none⟩] [1, 5, 14, 15, 16])))
 (.region [⟨some 28, .bin .add (.t 16) (.c (.int .i64 1)), none⟩,
 ⟨some 16, .mv (.t 28), none⟩] [1, 5, 14, 15, 16]))))
/-- garment/integer.Small -/
def F24 : AFun :=
(⟨
(.seq
 (.region [⟨some 1, .box (.t 0), none⟩,
 ⟨some 2, .mv (.c (.int .i64 0)), none⟩,
 ⟨some 3, .mv (.c (.bool false)), none⟩] [1])
(.seq
 (.region [⟨some 8, .faddr 1 (.t 1), none⟩,
 ⟨some 9, .load 1 false (.t 8), none⟩,
 ⟨some 10, .call 51 [((.t 9), .pure)] 1 false, none⟩,
 ⟨some 4, .mv (.t 10), none⟩] [1, 4])
(.seq
 (.seq
 (.region [⟨some 11, .mv (.t 4), none⟩,
 ⟨some 12, .len (.t 11), none⟩,
 ⟨some 13, .bin .gtr (.t 12) (.c (.int .i64 2)), none⟩] [1, 4, 13])
 (.cond (.t 13)
 (.seq
 (.region [⟨some 2, .mv (.c (.int .i64 0)), none⟩,
 ⟨some 3, .mv (.c (.bool false)), none⟩] [2, 3])
 .ret)
 .skip))
(.seq
 (.region [⟨some 5, .mv (.c (.int .u64 0)), none⟩] [1, 4, 5])
(.seq
 (.seq
 (.region [⟨some 14, .mv (.t 4), none⟩,
 ⟨some 15, .len (.t 14), none⟩,
 ⟨some 16, .mv (.c (.int .i64 0)), none⟩] [1, 5, 14, 15, 16])
 (.block 0
 (.loop F24C0 F24L0)))
(.seq
 (.block 2
 (.seq
 (.region [⟨some 30, .faddr 0 (.t 1), none⟩,
 ⟨some 31, .load 1 false (.t 30), none⟩,
 ⟨some 32, .mv (.t 31), none⟩,
 ⟨some 33, .mv (.t 5), some (32, true)⟩,
 ⟨some 34, .bin .leq (.t 33) (.c (.int .u64 9223372036854775808)), some (32, true)⟩,
 ⟨some 35, .pick (.t 32) (.t 34) (.c (.bool false)), none⟩,
 ⟨some 29, .mv (.t 35), none⟩] [1, 5, 29])
 (.cond (.t 29)
 (.seq
 (.region [⟨some 36, .mv (.t 5), none⟩,
 ⟨some 37, .un .xor (.t 36), none⟩,
 ⟨some 38, .bin .add (.t 37) (.c (.int .u64 1)), none⟩,
 ⟨some 39, .conv (.int .i64) (.t 38), none⟩,
 ⟨some 2, .mv (.t 39), none⟩,
 ⟨some 3, .mv (.c (.bool true)), none⟩] [2, 3])
 .ret)
 (.seq
 (.region [⟨some 41, .faddr 0 (.t 1), none⟩,
 ⟨some 42, .load 1 false (.t 41), none⟩,
 ⟨some 43, .un .not (.t 42), none⟩,
 ⟨some 44, .mv (.t 43), none⟩,
 ⟨some 45, .mv (.t 5), some (44, true)⟩,
 ⟨some 46, .bin .lss (.t 45) (.c (.int .u64 9223372036854775808)), some (44, true)⟩,
 ⟨some 47, .pick (.t 44) (.t 46) (.c (.bool false)), none⟩,
 ⟨some 40, .mv (.t 47), none⟩] [5, 40])
 (.cond (.t 40)
 (.seq
 (.region [⟨some 48, .mv (.t 5), none⟩,
 ⟨some 49, .conv (.int .i64) (.t 48), none⟩,
 ⟨some 2, .mv (.t 49), none⟩,
 ⟨some 3, .mv (.c (.bool true)), none⟩] [2, 3])
 .ret)
 .skip)))))
(.seq
 (.region [⟨some 2, .mv (.c (.int .i64 0)), none⟩,
 ⟨some 3, .mv (.c (.bool false)), none⟩] [2, 3])
.ret))))))),
[.tmp 2, .tmp 3]⟩ : AFun)
theorem tr24 : trFun Try.prog F24 Try.f24 = some F24 := by kernel_rfl
def F25C0 : Canon := ⟨[(4, none), (5, none), (6, none)], [(4, [none, none])]⟩
def F25L0 : ACode := (.seq
 (.seq
 (.region [⟨some 17, .mv (.t 6), none⟩,
 ⟨some 18, .bin .geq (.t 17) (.c (.int .i64 0)), none⟩] [4, 5, 6, 18])
 (.cond (.t 18)
 .skip
 (.exit 0)))
 (.seq
 (.block 1
 (.region [⟨some 21, .mv (.t 5), none⟩,
 ⟨some 22, .bin .mul (.t 21) (.c (.int .u64 4294967296)), none⟩,
 ⟨some 23, .faddr 1 (.t 4), none⟩,
 ⟨some 24, .load 1 false (.t 23), none⟩,
 ⟨some 25, .mv (.t 6), none⟩,
 ⟨some 26, .iaddr 1 (.t 24) (.t 25), none⟩,
 ⟨some 27, .load 1 false (.t 26), none⟩,
 ⟨some 28, .conv (.int .u64) (.t 27), none⟩,
 ⟨some 29, .bin .add (.t 22) (.t 28), none⟩,
 ⟨some 5, .mv (.t 29), none⟩] [4, 5, 6]))
 (.region [⟨some 19, .mv (.t 6), none⟩,
 ⟨some 20, .bin .sub (.t 19) (.c (.int .i64 1)), none⟩,
 ⟨some 6, .mv (.t 20), none⟩] [4, 5, 6])))
/-- garment/garmentref02.Small -/
def F25 : AFun :=
(⟨
(.seq
 (.region [⟨some 1, .box (.t 0), none⟩,
 ⟨some 2, .mv (.c (.int .i64 0)), none⟩,
 ⟨some 3, .mv (.c (.bool false)), none⟩] [1])
(.seq
 (.region [⟨some 7, .load 2 true (.t 1), none⟩,
 ⟨some 8, .call 29 [((.t 7), .pure)] 1 false, none⟩,
 ⟨some 4, .alloc [(.bool false), (.ints .u32 [])], none⟩,
 ⟨none, .store 2 (.t 4) (.t 8), none⟩] [4])
(.seq
 (.seq
 (.region [⟨some 9, .faddr 1 (.t 4), none⟩,
 ⟨some 10, .load 1 false (.t 9), none⟩,
 ⟨some 11, .len (.t 10), none⟩,
 ⟨some 12, .bin .gtr (.t 11) (.c (.int .i64 2)), none⟩] [4, 12])
 (.cond (.t 12)
 (.seq
 (.region [⟨some 2, .mv (.c (.int .i64 0)), none⟩,
 ⟨some 3, .mv (.c (.bool false)), none⟩] [2, 3])
 .ret)
 .skip))
(.seq
 (.region [⟨some 5, .mv (.c (.int .u64 0)), none⟩] [4, 5])
(.seq
 (.seq
 (.region [⟨some 13, .faddr 1 (.t 4), none⟩,
 ⟨some 14, .load 1 false (.t 13), none⟩,
 ⟨some 15, .len (.t 14), none⟩,
 ⟨some 16, .bin .sub (.t 15) (.c (.int .i64 1)), none⟩,
 ⟨some 6, .mv (.t 16), none⟩] [4, 5, 6])
 (.block 0
 (.loop F25C0 F25L0)))
(.seq
 (.seq
 (.region [⟨some 30, .faddr 0 (.t 4), none⟩,
 ⟨some 31, .load 1 false (.t 30), none⟩,
 ⟨some 32, .mv (.t 31), none⟩,
 ⟨some 33, .mv (.t 5), some (32, true)⟩,
 ⟨some 34, .bin .leq (.t 33) (.c (.int .u64 9223372036854775808)), some (32, true)⟩,
 ⟨some 35, .pick (.t 32) (.t 34) (.c (.bool false)), none⟩] [4, 5, 35])
 (.cond (.t 35)
 (.seq
 (.region [⟨some 36, .mv (.t 5), none⟩,
 ⟨some 37, .bin .sub (.t 36) (.c (.int .u64 1)), none⟩,
 ⟨some 38, .conv (.int .i64) (.t 37), none⟩,
 ⟨some 39, .un .neg (.t 38), none⟩,
 ⟨some 40, .bin .sub (.t 39) (.c (.int .i64 1)), none⟩,
 ⟨some 2, .mv (.t 40), none⟩,
 ⟨some 3, .mv (.c (.bool true)), none⟩] [2, 3])
 .ret)
 .skip))
(.seq
 (.seq
 (.region [⟨some 41, .faddr 0 (.t 4), none⟩,
 ⟨some 42, .load 1 false (.t 41), none⟩,
 ⟨some 43, .un .not (.t 42), none⟩,
 ⟨some 44, .mv (.t 43), none⟩,
 ⟨some 45, .mv (.t 5), some (44, true)⟩,
 ⟨some 46, .bin .leq (.t 45) (.c (.int .u64 9223372036854775807)), some (44, true)⟩,
 ⟨some 47, .pick (.t 44) (.t 46) (.c (.bool false)), none⟩] [5, 47])
 (.cond (.t 47)
 (.seq
 (.region [⟨some 48, .mv (.t 5), none⟩,
 ⟨some 49, .conv (.int .i64) (.t 48), none⟩,
 ⟨some 2, .mv (.t 49), none⟩,
 ⟨some 3, .mv (.c (.bool true)), none⟩] [2, 3])
 .ret)
 .skip))
(.seq
 (.region [⟨some 2, .mv (.c (.int .i64 0)), none⟩,
 ⟨some 3, .mv (.c (.bool false)), none⟩] [2, 3])
.ret)))))))),
[.tmp 2, .tmp 3]⟩ : AFun)
theorem tr25 : trFun Try.prog F25 Try.f25 = some F25 := by kernel_rfl
/-- garment/integer.Of -/
def F26 : AFun :=
(⟨
(.seq
 (.region [⟨some 2, .alloc [(.bool false), (.ints .u32 [])], none⟩] [0, 2])
(.seq
 (.region [⟨some 4, .mv (.t 0), none⟩,
 ⟨some 5, .conv (.int .u64) (.t 4), none⟩,
 ⟨some 3, .mv (.t 5), none⟩] [0, 2, 3])
(.seq
 (.seq
 (.region [⟨some 6, .mv (.t 0), none⟩,
 ⟨some 7, .bin .lss (.t 6) (.c (.int .i64 0)), none⟩] [0, 2, 3, 7])
 (.cond (.t 7)
 (.region [⟨some 8, .mv (.t 3), none⟩,
 ⟨some 9, .un .xor (.t 8), none⟩,
 ⟨some 10, .bin .add (.t 9) (.c (.int .u64 1)), none⟩,
 ⟨some 3, .mv (.t 10), none⟩] [0, 2, 3])
 .skip))
(.seq
 (.region [⟨some 11, .mv (.t 0), none⟩,
 ⟨some 12, .bin .lss (.t 11) (.c (.int .i64 0)), none⟩,
 ⟨some 13, .mv (.t 3), none⟩,
 ⟨some 14, .call 56 [((.t 13), .pure)] 1 false, none⟩,
 ⟨some 15, .call 40 [((.t 12), .pure), ((.t 14), .pure)] 1 false, none⟩,
 ⟨none, .store 2 (.t 2) (.t 15), none⟩] [2])
.ret)))),
[.cell 2 2 true]⟩ : AFun)
theorem tr26 : trFun Try.prog F26 Try.f26 = some F26 := by kernel_rfl
/-- garment/garmentref02.Of -/
def F27 : AFun :=
(⟨
(.seq
 (.region [⟨some 2, .alloc [(.bool false), (.ints .u32 [])], none⟩] [0, 2])
(.seq
 (.seq
 (.region [⟨some 3, .mv (.t 0), none⟩,
 ⟨some 4, .bin .lss (.t 3) (.c (.int .i64 0)), none⟩] [0, 2, 4])
 (.cond (.t 4)
 (.seq
 (.region [⟨some 5, .mv (.t 0), none⟩,
 ⟨some 6, .bin .add (.t 5) (.c (.int .i64 1)), none⟩,
 ⟨some 7, .un .neg (.t 6), none⟩,
 ⟨some 8, .conv (.int .u64) (.t 7), none⟩,
 ⟨some 9, .bin .add (.t 8) (.c (.int .u64 1)), none⟩,
 ⟨some 10, .call 44 [((.t 9), .pure)] 1 false, none⟩,
 ⟨some 11, .build [(.bool false), (.ints .u32 [])] [(0, 1, (.c (.bool true))), (1, 1, (.t 10))], none⟩,
 ⟨none, .store 2 (.t 2) (.t 11), none⟩] [2])
 .ret)
 .skip))
(.seq
 (.region [⟨some 12, .mv (.t 0), none⟩,
 ⟨some 13, .conv (.int .u64) (.t 12), none⟩,
 ⟨some 14, .call 44 [((.t 13), .pure)] 1 false, none⟩,
 ⟨some 15, .build [(.bool false), (.ints .u32 [])] [(1, 1, (.t 14))], none⟩,
 ⟨none, .store 2 (.t 2) (.t 15), none⟩] [2])
.ret))),
[.cell 2 2 true]⟩ : AFun)
theorem tr27 : trFun Try.prog F27 Try.f27 = some F27 := by kernel_rfl
/-- garment/integer.Norm -/
def F28 : AFun :=
(⟨
(.seq
 (.region [⟨some 1, .box (.t 0), none⟩,
 ⟨some 2, .alloc [(.bool false), (.ints .u32 [])], none⟩] [1, 2])
(.seq
 (.region [⟨some 3, .faddr 0 (.t 1), none⟩,
 ⟨some 4, .load 1 false (.t 3), none⟩,
 ⟨some 5, .faddr 1 (.t 1), none⟩,
 ⟨some 6, .load 1 false (.t 5), none⟩,
 ⟨some 7, .call 40 [((.t 4), .pure), ((.t 6), .pure)] 1 false, none⟩,
 ⟨none, .store 2 (.t 2) (.t 7), none⟩] [2])
.ret)),
[.cell 2 2 true]⟩ : AFun)
theorem tr28 : trFun Try.prog F28 Try.f28 = some F28 := by kernel_rfl
/-- garment/garmentref02.Norm -/
def F29 : AFun :=
(⟨
(.seq
 (.region [⟨some 1, .box (.t 0), none⟩,
 ⟨some 2, .alloc [(.bool false), (.ints .u32 [])], none⟩] [1, 2])
(.seq
 (.region [⟨some 3, .faddr 0 (.t 1), none⟩,
 ⟨some 4, .load 1 false (.t 3), none⟩,
 ⟨some 5, .faddr 1 (.t 1), none⟩,
 ⟨some 6, .load 1 false (.t 5), none⟩,
 ⟨some 7, .call 46 [((.t 4), .pure), ((.t 6), .pure)] 1 false, none⟩,
 ⟨none, .store 2 (.t 2) (.t 7), none⟩] [2])
.ret)),
[.cell 2 2 true]⟩ : AFun)
theorem tr29 : trFun Try.prog F29 Try.f29 = some F29 := by kernel_rfl
/-- garment/integer.Cmp -/
def F30 : AFun :=
(⟨
(.seq
 (.region [⟨some 2, .box (.t 0), none⟩,
 ⟨some 3, .box (.t 1), none⟩,
 ⟨some 4, .mv (.c (.int .i64 0)), none⟩] [2, 3])
(.seq
 (.dregion [⟨some 7, .load 2 true (.t 2), none⟩,
 ⟨some 8, .call 54 [((.t 7), .pure)] 1 false, none⟩,
 ⟨some 9, .load 2 true (.t 3), none⟩,
 ⟨some 10, .call 54 [((.t 9), .pure)] 1 false, none⟩,
 ⟨some 5, .mv (.t 8), none⟩,
 ⟨some 6, .mv (.t 10), none⟩] [2, 3, 5, 6] [(1, 2)])
(.seq
 (.seq
 (.region [⟨some 11, .mv (.t 5), none⟩,
 ⟨some 12, .mv (.t 6), none⟩,
 ⟨some 13, .bin .neq (.t 11) (.t 12), none⟩] [2, 3, 5, 6, 13])
 (.cond (.t 13)
 (.seq
 (.seq
 (.region [⟨some 14, .mv (.t 5), none⟩,
 ⟨some 15, .mv (.t 6), none⟩,
 ⟨some 16, .bin .lss (.t 14) (.t 15), none⟩] [16])
 (.cond (.t 16)
 (.seq
 (.region [⟨some 4, .mv (.c (.int .i64 (-1))), none⟩] [4])
 .ret)
 .skip))
 (.seq
 (.region [⟨some 4, .mv (.c (.int .i64 1)), none⟩] [4])
 .ret))
 .skip))
(.seq
 (.region [⟨some 17, .mv (.t 5), none⟩,
 ⟨some 18, .faddr 1 (.t 2), none⟩,
 ⟨some 19, .load 1 false (.t 18), none⟩,
 ⟨some 20, .faddr 1 (.t 3), none⟩,
 ⟨some 21, .load 1 false (.t 20), none⟩,
 ⟨some 22, .call 57 [((.t 19), .pure), ((.t 21), .pure)] 1 false, none⟩,
 ⟨some 23, .bin .mul (.t 17) (.t 22), none⟩,
 ⟨some 4, .mv (.t 23), none⟩] [4])
.ret)))),
[.tmp 4]⟩ : AFun)
theorem tr30 : trFun Try.prog F30 Try.f30 = some F30 := by kernel_rfl
/-- garment/garmentref02.Cmp -/
def F31 : AFun :=
(⟨
(.seq
 (.region [⟨some 2, .box (.t 0), none⟩,
 ⟨some 3, .box (.t 1), none⟩,
 ⟨some 4, .mv (.c (.int .i64 0)), none⟩] [2, 3])
(.seq
 (.dregion [⟨some 7, .load 2 true (.t 2), none⟩,
 ⟨some 8, .call 29 [((.t 7), .pure)] 1 false, none⟩,
 ⟨some 9, .load 2 true (.t 3), none⟩,
 ⟨some 10, .call 29 [((.t 9), .pure)] 1 false, none⟩,
 ⟨some 5, .alloc [(.bool false), (.ints .u32 [])], none⟩,
 ⟨some 6, .alloc [(.bool false), (.ints .u32 [])], none⟩,
 ⟨none, .store 2 (.t 5) (.t 8), none⟩,
 ⟨none, .store 2 (.t 6) (.t 10), none⟩] [5, 6] [(1, 2), (0, 4), (1, 4), (2, 4), (3, 4), (0, 5), (1, 5), (2, 5), (3, 5), (4, 5)])
(.seq
 (.block 0
 (.seq
 (.region [⟨some 12, .faddr 0 (.t 5), none⟩,
 ⟨some 13, .load 1 false (.t 12), none⟩,
 ⟨some 14, .mv (.t 13), none⟩,
 ⟨some 15, .faddr 0 (.t 6), some (14, true)⟩,
 ⟨some 16, .load 1 false (.t 15), some (14, true)⟩,
 ⟨some 17, .un .not (.t 16), some (14, true)⟩,
 ⟨some 18, .pick (.t 14) (.t 17) (.c (.bool false)), none⟩,
 ⟨some 11, .mv (.t 18), none⟩] [5, 6, 11])
 (.cond (.t 11)
 (.seq
 (.region [⟨some 4, .mv (.c (.int .i64 (-1))), none⟩] [4])
 .ret)
 (.seq
 (.region [⟨some 20, .faddr 0 (.t 5), none⟩,
 ⟨some 21, .load 1 false (.t 20), none⟩,
 ⟨some 22, .un .not (.t 21), none⟩,
 ⟨some 23, .mv (.t 22), none⟩,
 ⟨some 24, .faddr 0 (.t 6), some (23, true)⟩,
 ⟨some 25, .load 1 false (.t 24), some (23, true)⟩,
 ⟨some 26, .pick (.t 23) (.t 25) (.c (.bool false)), none⟩,
 ⟨some 19, .mv (.t 26), none⟩] [5, 6, 19])
 (.cond (.t 19)
 (.seq
 (.region [⟨some 4, .mv (.c (.int .i64 1)), none⟩] [4])
 .ret)
 (.seq
 (.region [⟨some 28, .faddr 0 (.t 5), none⟩,
 ⟨some 29, .load 1 false (.t 28), none⟩,
 ⟨some 27, .mv (.t 29), none⟩] [5, 6, 27])
 (.cond (.t 27)
 (.seq
 (.region [⟨some 30, .faddr 1 (.t 6), none⟩,
 ⟨some 31, .load 1 false (.t 30), none⟩,
 ⟨some 32, .faddr 1 (.t 5), none⟩,
 ⟨some 33, .load 1 false (.t 32), none⟩,
 ⟨some 34, .call 58 [((.t 31), .pure), ((.t 33), .pure)] 1 false, none⟩,
 ⟨some 4, .mv (.t 34), none⟩] [4])
 .ret)
 .skip)))))))
(.seq
 (.region [⟨some 35, .faddr 1 (.t 5), none⟩,
 ⟨some 36, .load 1 false (.t 35), none⟩,
 ⟨some 37, .faddr 1 (.t 6), none⟩,
 ⟨some 38, .load 1 false (.t 37), none⟩,
 ⟨some 39, .call 58 [((.t 36), .pure), ((.t 38), .pure)] 1 false, none⟩,
 ⟨some 4, .mv (.t 39), none⟩] [4])
.ret)))),
[.tmp 4]⟩ : AFun)
theorem tr31 : trFun Try.prog F31 Try.f31 = some F31 := by kernel_rfl
/-- garment/integer.Neg -/
def F32 : AFun :=
(⟨
(.seq
 (.region [⟨some 1, .box (.t 0), none⟩,
 ⟨some 2, .alloc [(.bool false), (.ints .u32 [])], none⟩] [1, 2])
(.seq
 (.region [⟨some 3, .faddr 0 (.t 1), none⟩,
 ⟨some 4, .load 1 false (.t 3), none⟩,
 ⟨some 5, .un .not (.t 4), none⟩,
 ⟨some 6, .faddr 1 (.t 1), none⟩,
 ⟨some 7, .load 1 false (.t 6), none⟩,
 ⟨some 8, .call 40 [((.t 5), .pure), ((.t 7), .pure)] 1 false, none⟩,
 ⟨none, .store 2 (.t 2) (.t 8), none⟩] [2])
.ret)),
[.cell 2 2 true]⟩ : AFun)
theorem tr32 : trFun Try.prog F32 Try.f32 = some F32 := by kernel_rfl
/-- garment/garmentref02.Neg -/
def F33 : AFun :=
(⟨
(.seq
 (.region [⟨some 1, .box (.t 0), none⟩,
 ⟨some 2, .alloc [(.bool false), (.ints .u32 [])], none⟩] [1, 2])
(.seq
 (.region [⟨some 3, .faddr 0 (.t 1), none⟩,
 ⟨some 4, .load 1 false (.t 3), none⟩,
 ⟨some 5, .un .not (.t 4), none⟩,
 ⟨some 6, .faddr 1 (.t 1), none⟩,
 ⟨some 7, .load 1 false (.t 6), none⟩,
 ⟨some 8, .call 46 [((.t 5), .pure), ((.t 7), .pure)] 1 false, none⟩,
 ⟨none, .store 2 (.t 2) (.t 8), none⟩] [2])
.ret)),
[.cell 2 2 true]⟩ : AFun)
theorem tr33 : trFun Try.prog F33 Try.f33 = some F33 := by kernel_rfl
/-- garment/integer.Add -/
def F34 : AFun :=
(⟨
(.seq
 (.region [⟨some 2, .box (.t 0), none⟩,
 ⟨some 3, .box (.t 1), none⟩,
 ⟨some 4, .alloc [(.bool false), (.ints .u32 [])], none⟩] [2, 3, 4])
(.seq
 (.seq
 (.region [⟨some 9, .faddr 0 (.t 2), none⟩,
 ⟨some 10, .load 1 false (.t 9), none⟩,
 ⟨some 11, .faddr 0 (.t 3), none⟩,
 ⟨some 12, .load 1 false (.t 11), none⟩,
 ⟨some 13, .beq .eql (.t 10) (.t 12), none⟩] [2, 3, 4, 13])
 (.cond (.t 13)
 (.seq
 (.dregion [⟨some 14, .faddr 0 (.t 2), none⟩,
 ⟨some 15, .load 1 false (.t 14), none⟩,
 ⟨some 16, .faddr 1 (.t 2), none⟩,
 ⟨some 17, .load 1 false (.t 16), none⟩,
 ⟨some 18, .faddr 1 (.t 3), none⟩,
 ⟨some 19, .load 1 false (.t 18), none⟩,
 ⟨some 20, .call 59 [((.t 17), .pure), ((.t 19), .pure)] 1 false, none⟩,
 ⟨some 21, .call 40 [((.t 15), .pure), ((.t 20), .pure)] 1 false, none⟩,
 ⟨none, .store 2 (.t 4) (.t 21), none⟩] [4] [(1, 6)])
 .ret)
 .skip))
(.seq
 (.seq
 (.region [⟨some 22, .faddr 1 (.t 2), none⟩,
 ⟨some 23, .load 1 false (.t 22), none⟩,
 ⟨some 24, .faddr 1 (.t 3), none⟩,
 ⟨some 25, .load 1 false (.t 24), none⟩,
 ⟨some 26, .call 57 [((.t 23), .pure), ((.t 25), .pure)] 1 false, none⟩,
 ⟨some 27, .bin .lss (.t 26) (.c (.int .i64 0)), none⟩] [2, 3, 4, 27])
 (.cond (.t 27)
 (.seq
 (.region [⟨some 29, .faddr 1 (.t 3), none⟩,
 ⟨some 30, .load 1 false (.t 29), none⟩,
 ⟨some 31, .faddr 1 (.t 2), none⟩,
 ⟨some 32, .load 1 false (.t 31), none⟩,
 ⟨some 33, .call 60 [((.t 30), .pure), ((.t 32), .pure)] 2 false, none⟩,
 ⟨some 28, .mv (.t 33), none⟩,
 ⟨some 34, .ext (.t 28) 0, none⟩,
 ⟨some 35, .ext (.t 28) 1, none⟩,
 ⟨some 5, .mv (.t 34), none⟩,
 ⟨some 6, .mv (.t 35), none⟩] [3, 4, 5])
 (.seq
 (.region [⟨some 36, .faddr 0 (.t 3), none⟩,
 ⟨some 37, .load 1 false (.t 36), none⟩,
 ⟨some 38, .mv (.t 5), none⟩,
 ⟨some 39, .call 40 [((.t 37), .pure), ((.t 38), .pure)] 1 false, none⟩,
 ⟨none, .store 2 (.t 4) (.t 39), none⟩] [4])
 .ret))
 .skip))
(.seq
 (.region [⟨some 41, .faddr 1 (.t 2), none⟩,
 ⟨some 42, .load 1 false (.t 41), none⟩,
 ⟨some 43, .faddr 1 (.t 3), none⟩,
 ⟨some 44, .load 1 false (.t 43), none⟩,
 ⟨some 45, .call 60 [((.t 42), .pure), ((.t 44), .pure)] 2 false, none⟩,
 ⟨some 40, .mv (.t 45), none⟩,
 ⟨some 46, .ext (.t 40) 0, none⟩,
 ⟨some 47, .ext (.t 40) 1, none⟩,
 ⟨some 7, .mv (.t 46), none⟩,
 ⟨some 8, .mv (.t 47), none⟩] [2, 4, 7])
(.seq
 (.region [⟨some 48, .faddr 0 (.t 2), none⟩,
 ⟨some 49, .load 1 false (.t 48), none⟩,
 ⟨some 50, .mv (.t 7), none⟩,
 ⟨some 51, .call 40 [((.t 49), .pure), ((.t 50), .pure)] 1 false, none⟩,
 ⟨none, .store 2 (.t 4) (.t 51), none⟩] [4])
.ret))))),
[.cell 4 2 true]⟩ : AFun)
theorem tr34 : trFun Try.prog F34 Try.f34 = some F34 := by kernel_rfl
/-- garment/garmentref02.Add -/
def F35 : AFun :=
(⟨
(.seq
 (.region [⟨some 2, .box (.t 0), none⟩,
 ⟨some 3, .box (.t 1), none⟩,
 ⟨some 4, .alloc [(.bool false), (.ints .u32 [])], none⟩] [2, 3, 4])
(.seq
 (.seq
 (.region [⟨some 9, .faddr 0 (.t 2), none⟩,
 ⟨some 10, .load 1 false (.t 9), none⟩,
 ⟨some 11, .faddr 0 (.t 3), none⟩,
 ⟨some 12, .load 1 false (.t 11), none⟩,
 ⟨some 13, .beq .eql (.t 10) (.t 12), none⟩] [2, 3, 4, 13])
 (.cond (.t 13)
 (.seq
 (.dregion [⟨some 14, .faddr 0 (.t 2), none⟩,
 ⟨some 15, .load 1 false (.t 14), none⟩,
 ⟨some 16, .faddr 1 (.t 2), none⟩,
 ⟨some 17, .load 1 false (.t 16), none⟩,
 ⟨some 18, .faddr 1 (.t 3), none⟩,
 ⟨some 19, .load 1 false (.t 18), none⟩,
 ⟨some 20, .call 43 [((.t 17), .pure), ((.t 19), .pure)] 1 false, none⟩,
 ⟨some 21, .call 46 [((.t 15), .pure), ((.t 20), .pure)] 1 false, none⟩,
 ⟨none, .store 2 (.t 4) (.t 21), none⟩] [4] [(1, 6)])
 .ret)
 .skip))
(.seq
 (.seq
 (.region [⟨some 23, .faddr 1 (.t 2), none⟩,
 ⟨some 24, .load 1 false (.t 23), none⟩,
 ⟨some 25, .faddr 1 (.t 3), none⟩,
 ⟨some 26, .load 1 false (.t 25), none⟩,
 ⟨some 27, .call 45 [((.t 24), .pure), ((.t 26), .pure)] 2 false, none⟩,
 ⟨some 22, .mv (.t 27), none⟩,
 ⟨some 28, .ext (.t 22) 0, none⟩,
 ⟨some 29, .ext (.t 22) 1, none⟩,
 ⟨some 5, .mv (.t 28), none⟩,
 ⟨some 6, .mv (.t 29), none⟩] [2, 3, 4, 5, 6])
 (.seq
 (.region [⟨some 30, .mv (.t 6), none⟩] [2, 3, 4, 5, 30])
 (.cond (.t 30)
 (.seq
 (.region [⟨some 31, .faddr 0 (.t 2), none⟩,
 ⟨some 32, .load 1 false (.t 31), none⟩,
 ⟨some 33, .mv (.t 5), none⟩,
 ⟨some 34, .call 46 [((.t 32), .pure), ((.t 33), .pure)] 1 false, none⟩,
 ⟨none, .store 2 (.t 4) (.t 34), none⟩] [4])
 .ret)
 .skip)))
(.seq
 (.region [⟨some 36, .faddr 1 (.t 3), none⟩,
 ⟨some 37, .load 1 false (.t 36), none⟩,
 ⟨some 38, .faddr 1 (.t 2), none⟩,
 ⟨some 39, .load 1 false (.t 38), none⟩,
 ⟨some 40, .call 45 [((.t 37), .pure), ((.t 39), .pure)] 2 false, none⟩,
 ⟨some 35, .mv (.t 40), none⟩,
 ⟨some 41, .ext (.t 35) 0, none⟩,
 ⟨some 42, .ext (.t 35) 1, none⟩,
 ⟨some 7, .mv (.t 41), none⟩,
 ⟨some 8, .mv (.t 42), none⟩] [3, 4, 7])
(.seq
 (.region [⟨some 43, .faddr 0 (.t 3), none⟩,
 ⟨some 44, .load 1 false (.t 43), none⟩,
 ⟨some 45, .mv (.t 7), none⟩,
 ⟨some 46, .call 46 [((.t 44), .pure), ((.t 45), .pure)] 1 false, none⟩,
 ⟨none, .store 2 (.t 4) (.t 46), none⟩] [4])
.ret))))),
[.cell 4 2 true]⟩ : AFun)
theorem tr35 : trFun Try.prog F35 Try.f35 = some F35 := by kernel_rfl
/-- garment/integer.Sub -/
def F36 : AFun :=
(⟨
(.seq
 (.region [⟨some 2, .box (.t 0), none⟩,
 ⟨some 3, .box (.t 1), none⟩,
 ⟨some 4, .alloc [(.bool false), (.ints .u32 [])], none⟩] [2, 3, 4])
(.seq
 (.dregion [⟨some 5, .load 2 true (.t 2), none⟩,
 ⟨some 6, .load 2 true (.t 3), none⟩,
 ⟨some 7, .call 32 [((.t 6), .pure)] 1 false, none⟩,
 ⟨some 8, .call 34 [((.t 5), .pure), ((.t 7), .pure)] 1 false, none⟩,
 ⟨none, .store 2 (.t 4) (.t 8), none⟩] [4] [(0, 2)])
.ret)),
[.cell 4 2 true]⟩ : AFun)
theorem tr36 : trFun Try.prog F36 Try.f36 = some F36 := by kernel_rfl
/-- garment/garmentref02.Sub -/
def F37 : AFun :=
(⟨
(.seq
 (.region [⟨some 2, .box (.t 0), none⟩,
 ⟨some 3, .box (.t 1), none⟩,
 ⟨some 4, .alloc [(.bool false), (.ints .u32 [])], none⟩] [2, 3, 4])
(.seq
 (.dregion [⟨some 5, .load 2 true (.t 2), none⟩,
 ⟨some 6, .load 2 true (.t 3), none⟩,
 ⟨some 7, .call 33 [((.t 6), .pure)] 1 false, none⟩,
 ⟨some 8, .call 35 [((.t 5), .pure), ((.t 7), .pure)] 1 false, none⟩,
 ⟨none, .store 2 (.t 4) (.t 8), none⟩] [4] [(0, 2)])
.ret)),
[.cell 4 2 true]⟩ : AFun)
theorem tr37 : trFun Try.prog F37 Try.f37 = some F37 := by kernel_rfl
/-- garment/garmentlaw02.normal -/
def F38 : AFun :=
(⟨
(.seq
 (.region [⟨some 1, .box (.t 0), none⟩,
 ⟨some 2, .mv (.c (.bool false)), none⟩] [1])
(.seq
 (.region [⟨some 3, .faddr 1 (.t 1), none⟩,
 ⟨some 4, .load 1 false (.t 3), none⟩,
 ⟨some 5, .len (.t 4), none⟩,
 ⟨some 6, .bin .eql (.t 5) (.c (.int .i64 0)), none⟩,
 ⟨some 7, .mv (.t 6), none⟩,
 ⟨some 8, .faddr 0 (.t 1), some (7, true)⟩,
 ⟨some 9, .load 1 false (.t 8), some (7, true)⟩,
 ⟨some 10, .un .not (.t 9), some (7, true)⟩,
 ⟨some 11, .pick (.t 7) (.t 10) (.c (.bool false)), none⟩,
 ⟨some 12, .mv (.t 11), none⟩,
 ⟨some 13, .faddr 1 (.t 1), some (12, false)⟩,
 ⟨some 14, .load 1 false (.t 13), some (12, false)⟩,
 ⟨some 15, .len (.t 14), some (12, false)⟩,
 ⟨some 16, .bin .gtr (.t 15) (.c (.int .i64 0)), some (12, false)⟩,
 ⟨some 17, .mv (.t 16), some (12, false)⟩,
 ⟨some 18, .faddr 1 (.t 1), some (17, true)⟩,
 ⟨some 19, .load 1 false (.t 18), some (17, true)⟩,
 ⟨some 20, .faddr 1 (.t 1), some (17, true)⟩,
 ⟨some 21, .load 1 false (.t 20), some (17, true)⟩,
 ⟨some 22, .len (.t 21), some (17, true)⟩,
 ⟨some 23, .bin .sub (.t 22) (.c (.int .i64 1)), some (17, true)⟩,
 ⟨some 24, .iaddr 1 (.t 19) (.t 23), some (17, true)⟩,
 ⟨some 25, .load 1 false (.t 24), some (17, true)⟩,
 ⟨some 26, .bin .neq (.t 25) (.c (.int .u32 0)), some (17, true)⟩,
 ⟨some 27, .pick (.t 17) (.t 26) (.c (.bool false)), some (12, false)⟩,
 ⟨some 28, .pick (.t 12) (.c (.bool true)) (.t 27), none⟩,
 ⟨some 2, .mv (.t 28), none⟩] [2])
.ret)),
[.tmp 2]⟩ : AFun)
theorem tr38 : trFun Try.prog F38 Try.f38 = some F38 := by kernel_rfl
def F39C1 : Canon := ⟨[(0, none), (1, none), (9, some ⟨9, 1, (some .u32)⟩), (10, some ⟨10, 1, (some .u32)⟩), (11, none), (12, none), (70, none), (71, none)], []⟩
def F39L1 : ACode := (.seq
 (.region [⟨some 72, .bin .lss (.t 71) (.t 70), none⟩] [0, 1, 9, 10, 11, 12, 70, 71, 72])
 (.seq
 (.cond (.t 72)
 .skip
 (.exit 3))
 (.seq
 (.block 4
 (.seq
 (.region [⟨some 73, .mv (.t 71), none⟩,
 ⟨some 13, .mv (.t 73), none⟩] [0, 1, 9, 10, 11, 12, 13, 70, 71])
 (.seq
 (.region [⟨some 74, .mv (.t 10), none⟩,
 ⟨some 75, .mv (.t 13), none⟩,
 ⟨some 76, .iaddr 1 (.t 74) (.t 75), none⟩,
 ⟨some 77, .load 1 false (.t 76), none⟩,
 ⟨some 78, .bin .shr (.t 77) (.c (.int .u64 31)), none⟩,
 ⟨some 14, .mv (.t 78), none⟩] [0, 1, 9, 10, 11, 12, 13, 14, 70, 71])
 (.seq
 (.region [⟨some 79, .mv (.t 10), none⟩,
 ⟨some 80, .mv (.t 13), none⟩,
 ⟨some 81, .mv (.t 10), none⟩,
 ⟨some 82, .mv (.t 13), none⟩,
 ⟨some 83, .iaddr 1 (.t 81) (.t 82), none⟩,
 ⟨some 84, .load 1 false (.t 83), none⟩,
 ⟨some 85, .bin .shl (.t 84) (.c (.int .u64 1)), none⟩,
 ⟨some 86, .mv (.t 12), none⟩,
 ⟨some 87, .bin .or (.t 85) (.t 86), none⟩,
 ⟨some 88, .iaddr 1 (.t 79) (.t 80), none⟩,
 ⟨none, .store 1 (.t 88) (.t 87), none⟩] [0, 1, 9, 10, 11, 14, 70, 71])
 (.region [⟨some 89, .mv (.t 14), none⟩,
 ⟨some 12, .mv (.t 89), none⟩] [0, 1, 9, 10, 11, 12, 70, 71])))))
 (.region [⟨some 90, .bin .add (.t 71) (.c (.int .i64 1)), none⟩,
 ⟨some 71, .mv (.t 90), none⟩] [0, 1, 9, 10, 11, 12, 70, 71]))))
def F39C0 : Canon := ⟨[(0, none), (1, none), (9, some ⟨9, 1, (some .u32)⟩), (10, some ⟨10, 1, (some .u32)⟩), (11, none)], []⟩
def F39L0 : ACode := (.seq
 (.seq
 (.region [⟨some 56, .mv (.t 11), none⟩,
 ⟨some 57, .bin .geq (.t 56) (.c (.int .i64 0)), none⟩] [0, 1, 9, 10, 11, 57])
 (.cond (.t 57)
 .skip
 (.exit 1)))
 (.seq
 (.block 2
 (.seq
 (.region [⟨some 60, .mv (.t 0), none⟩,
 ⟨some 61, .mv (.t 11), none⟩,
 ⟨some 62, .bin .quo (.t 61) (.c (.int .i64 32)), none⟩,
 ⟨some 63, .iaddr 1 (.t 60) (.t 62), none⟩,
 ⟨some 64, .load 1 false (.t 63), none⟩,
 ⟨some 65, .mv (.t 11), none⟩,
 ⟨some 66, .bin .rem (.t 65) (.c (.int .i64 32)), none⟩,
 ⟨some 67, .bin .shr (.t 64) (.t 66), none⟩,
 ⟨some 68, .bin .and (.t 67) (.c (.int .u32 1)), none⟩,
 ⟨some 12, .mv (.t 68), none⟩] [0, 1, 9, 10, 11, 12])
 (.seq
 (.seq
 (.region [⟨some 69, .mv (.t 10), none⟩,
 ⟨some 70, .len (.t 69), none⟩,
 ⟨some 71, .mv (.c (.int .i64 0)), none⟩] [0, 1, 9, 10, 11, 12, 70, 71])
 (.block 3
 (.loop F39C1 F39L1)))
 (.seq
 (.seq
 (.region [⟨some 91, .mv (.t 12), none⟩,
 ⟨some 92, .bin .gtr (.t 91) (.c (.int .u32 0)), none⟩] [0, 1, 9, 10, 11, 12, 92])
 (.cond (.t 92)
 (.region [⟨some 93, .mv (.t 10), none⟩,
 ⟨some 94, .mv (.t 12), none⟩,
 ⟨some 95, .bslice 1 (some .u32) [(.t 94)], none⟩,
 ⟨some 96, .append 1 (some .u32) (.t 93) (.t 95), none⟩,
 ⟨some 10, .mv (.t 96), none⟩] [0, 1, 9, 10, 11])
 .skip))
 (.seq
 (.region [⟨some 97, .mv (.t 10), none⟩,
 ⟨some 98, .mv (.t 1), none⟩,
 ⟨some 99, .call 57 [((.t 97), .pure), ((.t 98), .pure)] 1 false, none⟩,
 ⟨some 100, .bin .geq (.t 99) (.c (.int .i64 0)), none⟩] [0, 1, 9, 10, 11, 100])
 (.cond (.t 100)
 (.seq
 (.region [⟨some 101, .mv (.t 10), none⟩,
 ⟨some 102, .mv (.t 1), none⟩,
 ⟨some 103, .call 64 [((.t 101), .own), ((.t 102), .pure)] 1 true, none⟩,
 ⟨some 10, .mv (.t 103), none⟩] [0, 1, 9, 10, 11])
 (.dregion [⟨some 104, .mv (.t 9), none⟩,
 ⟨some 105, .mv (.t 11), none⟩,
 ⟨some 106, .bin .quo (.t 105) (.c (.int .i64 32)), none⟩,
 ⟨some 107, .iaddr 1 (.t 104) (.t 106), none⟩,
 ⟨some 108, .load 1 false (.t 107), none⟩,
 ⟨some 109, .mv (.t 11), none⟩,
 ⟨some 110, .bin .rem (.t 109) (.c (.int .i64 32)), none⟩,
 ⟨some 111, .bin .shl (.c (.int .u32 1)) (.t 110), none⟩,
 ⟨some 112, .bin .or (.t 108) (.t 111), none⟩,
 ⟨some 113, .iaddr 1 (.t 104) (.t 106), none⟩,
 ⟨none, .store 1 (.t 113) (.t 112), none⟩] [0, 1, 9, 10, 11] []))
 .skip))))))
 (.region [⟨some 58, .mv (.t 11), none⟩,
 ⟨some 59, .bin .sub (.t 58) (.c (.int .i64 1)), none⟩,
 ⟨some 11, .mv (.t 59), none⟩] [0, 1, 9, 10, 11])))
/-- garment/natural.DivMod -/
def F39 : AFun :=
(⟨
(.seq
 (.region [⟨some 4, .mv (.c (.ints .u32 [])), none⟩,
 ⟨some 5, .mv (.c (.ints .u32 [])), none⟩,
 ⟨some 6, .mv (.c (.bool false)), none⟩] [0, 1])
(.seq
 (.region [⟨some 15, .mv (.t 0), none⟩,
 ⟨some 16, .call 61 [((.t 15), .pure)] 1 false, none⟩,
 ⟨some 17, .mv (.t 1), none⟩,
 ⟨some 18, .call 61 [((.t 17), .pure)] 1 false, none⟩,
 ⟨some 0, .mv (.t 16), none⟩,
 ⟨some 1, .mv (.t 18), none⟩] [0, 1])
(.seq
 (.block 0
 (.seq
 (.region [⟨some 20, .mv (.t 1), none⟩,
 ⟨some 21, .len (.t 20), none⟩,
 ⟨some 22, .bin .eql (.t 21) (.c (.int .i64 0)), none⟩,
 ⟨some 19, .mv (.t 22), none⟩] [0, 1, 19])
 (.cond (.t 19)
 (.seq
 (.region [⟨some 4, .mv (.c (.ints .u32 [])), none⟩,
 ⟨some 5, .mv (.c (.ints .u32 [])), none⟩,
 ⟨some 6, .mv (.c (.bool false)), none⟩] [4, 5, 6])
 .ret)
 (.seq
 (.region [⟨some 24, .mv (.t 0), none⟩,
 ⟨some 25, .mv (.t 1), none⟩,
 ⟨some 26, .call 57 [((.t 24), .pure), ((.t 25), .pure)] 1 false, none⟩,
 ⟨some 27, .bin .lss (.t 26) (.c (.int .i64 0)), none⟩,
 ⟨some 23, .mv (.t 27), none⟩] [0, 1, 23])
 (.cond (.t 23)
 (.seq
 (.region [⟨some 28, .mv (.t 0), none⟩,
 ⟨some 29, .call 51 [((.t 28), .pure)] 1 false, none⟩,
 ⟨some 4, .mv (.c (.ints .u32 [])), none⟩,
 ⟨some 5, .mv (.t 29), none⟩,
 ⟨some 6, .mv (.c (.bool true)), none⟩] [4, 5, 6])
 .ret)
 (.seq
 (.region [⟨some 31, .mv (.t 1), none⟩,
 ⟨some 32, .len (.t 31), none⟩,
 ⟨some 33, .bin .eql (.t 32) (.c (.int .i64 1)), none⟩,
 ⟨some 30, .mv (.t 33), none⟩] [0, 1, 30])
 (.cond (.t 30)
 (.seq
 (.region [⟨some 35, .mv (.t 0), none⟩,
 ⟨some 36, .mv (.t 1), none⟩,
 ⟨some 37, .iaddr 1 (.t 36) (.c (.int .i64 0)), none⟩,
 ⟨some 38, .load 1 false (.t 37), none⟩,
 ⟨some 39, .call 62 [((.t 35), .pure), ((.t 38), .pure)] 2 false, none⟩,
 ⟨some 34, .mv (.t 39), none⟩,
 ⟨some 40, .ext (.t 34) 0, none⟩,
 ⟨some 41, .ext (.t 34) 1, none⟩,
 ⟨some 7, .mv (.t 40), none⟩,
 ⟨some 8, .mv (.t 41), none⟩] [7, 8])
 (.seq
 (.region [⟨some 42, .mv (.t 7), none⟩,
 ⟨some 43, .mv (.t 8), none⟩,
 ⟨some 44, .conv (.int .u64) (.t 43), none⟩,
 ⟨some 45, .call 56 [((.t 44), .pure)] 1 false, none⟩,
 ⟨some 4, .mv (.t 42), none⟩,
 ⟨some 5, .mv (.t 45), none⟩,
 ⟨some 6, .mv (.c (.bool true)), none⟩] [4, 5, 6])
 .ret))
 .skip)))))))
(.seq
 (.region [⟨some 46, .mv (.t 0), none⟩,
 ⟨some 47, .len (.t 46), none⟩,
 ⟨some 48, .mkslice 1 (some .u32) (.bool false) (.t 47) (.t 47), none⟩,
 ⟨some 9, .mv (.t 48), none⟩] [0, 1, 9])
(.seq
 (.region [⟨some 49, .mv (.t 1), none⟩,
 ⟨some 50, .len (.t 49), none⟩,
 ⟨some 51, .bin .add (.t 50) (.c (.int .i64 1)), none⟩,
 ⟨some 52, .mkslice 1 (some .u32) (.bool false) (.c (.int .i64 0)) (.t 51), none⟩,
 ⟨some 10, .mv (.t 52), none⟩] [0, 1, 9, 10])
(.seq
 (.seq
 (.region [⟨some 53, .mv (.t 0), none⟩,
 ⟨some 54, .call 63 [((.t 53), .pure)] 1 false, none⟩,
 ⟨some 55, .bin .sub (.t 54) (.c (.int .i64 1)), none⟩,
 ⟨some 11, .mv (.t 55), none⟩] [0, 1, 9, 10, 11])
 (.block 1
 (.loop F39C0 F39L0)))
(.seq
 (.region [⟨some 114, .mv (.t 9), none⟩,
 ⟨some 115, .call 61 [((.t 114), .pure)] 1 false, none⟩,
 ⟨some 116, .mv (.t 10), none⟩,
 ⟨some 4, .mv (.t 115), none⟩,
 ⟨some 5, .mv (.t 116), none⟩,
 ⟨some 6, .mv (.c (.bool true)), none⟩] [4, 5, 6])
.ret))))))),
[.tmp 4, .tmp 5, .tmp 6]⟩ : AFun)
theorem tr39 : trFun Try.prog F39 Try.f39 = some F39 := by kernel_rfl
/-- garment/integer.signed -/
def F40 : AFun :=
(⟨
(.seq
 (.region [⟨some 4, .alloc [(.bool false), (.ints .u32 [])], none⟩] [0, 1, 4])
(.seq
 (.region [⟨some 6, .mv (.t 1), none⟩,
 ⟨some 7, .call 51 [((.t 6), .pure)] 1 false, none⟩,
 ⟨some 5, .mv (.t 7), none⟩] [0, 4, 5])
(.seq
 (.region [⟨some 8, .mv (.t 0), none⟩,
 ⟨some 9, .mv (.t 8), none⟩,
 ⟨some 10, .mv (.t 5), some (9, true)⟩,
 ⟨some 11, .len (.t 10), some (9, true)⟩,
 ⟨some 12, .bin .gtr (.t 11) (.c (.int .i64 0)), some (9, true)⟩,
 ⟨some 13, .pick (.t 9) (.t 12) (.c (.bool false)), none⟩,
 ⟨some 14, .mv (.t 5), none⟩,
 ⟨some 15, .build [(.bool false), (.ints .u32 [])] [(0, 1, (.t 13)), (1, 1, (.t 14))], none⟩,
 ⟨none, .store 2 (.t 4) (.t 15), none⟩] [4])
.ret))),
[.cell 4 2 true]⟩ : AFun)
theorem tr40 : trFun Try.prog F40 Try.f40 = some F40 := by kernel_rfl
def F41C0 : Canon := ⟨[(7, none), (9, some ⟨9, 1, (some .u32)⟩), (10, none), (11, none)], []⟩
def F41L0 : ACode := (.seq
 (.seq
 (.region [⟨some 35, .mv (.t 11), none⟩,
 ⟨some 36, .bin .geq (.t 35) (.c (.int .i64 0)), none⟩] [7, 9, 10, 11, 36])
 (.cond (.t 36)
 .skip
 (.exit 0)))
 (.seq
 (.block 1
 (.seq
 (.region [⟨some 40, .mv (.t 7), none⟩,
 ⟨some 41, .mv (.t 10), none⟩,
 ⟨some 42, .call 45 [((.t 40), .pure), ((.t 41), .pure)] 2 false, none⟩,
 ⟨some 39, .mv (.t 42), none⟩,
 ⟨some 43, .ext (.t 39) 0, none⟩,
 ⟨some 44, .ext (.t 39) 1, none⟩,
 ⟨some 12, .mv (.t 43), none⟩,
 ⟨some 13, .mv (.t 44), none⟩] [7, 9, 10, 11, 12, 13])
 (.seq
 (.seq
 (.region [⟨some 45, .mv (.t 13), none⟩] [7, 9, 10, 11, 12, 45])
 (.cond (.t 45)
 (.seq
 (.region [⟨some 46, .mv (.t 12), none⟩,
 ⟨some 7, .mv (.t 46), none⟩] [7, 9, 10, 11])
 (.region [⟨some 47, .mv (.t 9), none⟩,
 ⟨some 48, .mv (.t 11), none⟩,
 ⟨some 49, .bin .quo (.t 48) (.c (.int .i64 32)), none⟩,
 ⟨some 50, .mv (.t 9), none⟩,
 ⟨some 51, .mv (.t 11), none⟩,
 ⟨some 52, .bin .quo (.t 51) (.c (.int .i64 32)), none⟩,
 ⟨some 53, .iaddr 1 (.t 50) (.t 52), none⟩,
 ⟨some 54, .load 1 false (.t 53), none⟩,
 ⟨some 55, .mv (.t 11), none⟩,
 ⟨some 56, .bin .rem (.t 55) (.c (.int .i64 32)), none⟩,
 ⟨some 57, .conv (.int .u64) (.t 56), none⟩,
 ⟨some 58, .bin .shl (.c (.int .u32 1)) (.t 57), none⟩,
 ⟨some 59, .bin .add (.t 54) (.t 58), none⟩,
 ⟨some 60, .iaddr 1 (.t 47) (.t 49), none⟩,
 ⟨none, .store 1 (.t 60) (.t 59), none⟩] [7, 9, 10, 11]))
 .skip))
 (.region [⟨some 61, .mv (.t 10), none⟩,
 ⟨some 62, .call 67 [((.t 61), .pure)] 1 false, none⟩,
 ⟨some 10, .mv (.t 62), none⟩] [7, 9, 10, 11]))))
 (.region [⟨some 37, .mv (.t 11), none⟩,
 ⟨some 38, .bin .sub (.t 37) (.c (.int .i64 1)), none⟩,
 ⟨some 11, .mv (.t 38), none⟩] [7, 9, 10, 11])))
/-- garment/garmentref01.DivMod -/
def F41 : AFun :=
(⟨
(.seq
 (.region [⟨some 4, .mv (.c (.ints .u32 [])), none⟩,
 ⟨some 5, .mv (.c (.ints .u32 [])), none⟩,
 ⟨some 6, .mv (.c (.bool false)), none⟩] [0, 1])
(.seq
 (.seq
 (.region [⟨some 14, .mv (.t 1), none⟩,
 ⟨some 15, .call 65 [((.t 14), .pure)] 1 false, none⟩,
 ⟨some 16, .bin .eql (.t 15) (.c (.int .i64 0)), none⟩] [0, 1, 16])
 (.cond (.t 16)
 (.seq
 (.region [⟨some 4, .mv (.c (.ints .u32 [])), none⟩,
 ⟨some 5, .mv (.c (.ints .u32 [])), none⟩,
 ⟨some 6, .mv (.c (.bool false)), none⟩] [4, 5, 6])
 .ret)
 .skip))
(.seq
 (.region [⟨some 17, .mv (.t 0), none⟩,
 ⟨some 18, .call 42 [((.t 17), .pure)] 1 false, none⟩,
 ⟨some 7, .mv (.t 18), none⟩] [1, 7])
(.seq
 (.region [⟨some 19, .mv (.t 7), none⟩,
 ⟨some 20, .call 65 [((.t 19), .pure)] 1 false, none⟩,
 ⟨some 21, .mv (.t 1), none⟩,
 ⟨some 22, .call 65 [((.t 21), .pure)] 1 false, none⟩,
 ⟨some 23, .bin .sub (.t 20) (.t 22), none⟩,
 ⟨some 8, .mv (.t 23), none⟩] [1, 7, 8])
(.seq
 (.seq
 (.region [⟨some 24, .mv (.t 8), none⟩,
 ⟨some 25, .bin .lss (.t 24) (.c (.int .i64 0)), none⟩] [1, 7, 8, 25])
 (.cond (.t 25)
 (.seq
 (.region [⟨some 26, .mv (.t 7), none⟩,
 ⟨some 4, .mv (.c (.ints .u32 [])), none⟩,
 ⟨some 5, .mv (.t 26), none⟩,
 ⟨some 6, .mv (.c (.bool true)), none⟩] [4, 5, 6])
 .ret)
 .skip))
(.seq
 (.region [⟨some 27, .mv (.t 8), none⟩,
 ⟨some 28, .bin .quo (.t 27) (.c (.int .i64 32)), none⟩,
 ⟨some 29, .bin .add (.t 28) (.c (.int .i64 1)), none⟩,
 ⟨some 30, .mkslice 1 (some .u32) (.bool false) (.t 29) (.t 29), none⟩,
 ⟨some 9, .mv (.t 30), none⟩] [1, 7, 8, 9])
(.seq
 (.region [⟨some 31, .mv (.t 1), none⟩,
 ⟨some 32, .mv (.t 8), none⟩,
 ⟨some 33, .call 66 [((.t 31), .pure), ((.t 32), .pure)] 1 false, none⟩,
 ⟨some 10, .mv (.t 33), none⟩] [7, 8, 9, 10])
(.seq
 (.seq
 (.region [⟨some 34, .mv (.t 8), none⟩,
 ⟨some 11, .mv (.t 34), none⟩] [7, 9, 10, 11])
 (.block 0
 (.loop F41C0 F41L0)))
(.seq
 (.region [⟨some 63, .mv (.t 9), none⟩,
 ⟨some 64, .call 42 [((.t 63), .pure)] 1 false, none⟩,
 ⟨some 65, .mv (.t 7), none⟩,
 ⟨some 4, .mv (.t 64), none⟩,
 ⟨some 5, .mv (.t 65), none⟩,
 ⟨some 6, .mv (.c (.bool true)), none⟩] [4, 5, 6])
.ret))))))))),
[.tmp 4, .tmp 5, .tmp 6]⟩ : AFun)
theorem tr41 : trFun Try.prog F41 Try.f41 = some F41 := by kernel_rfl
def F42C0 : Canon := ⟨[(0, none), (3, none)], []⟩
def F42L0 : ACode := (.seq
 (.seq
 (.region [⟨some 7, .mv (.t 3), none⟩,
 ⟨some 8, .bin .gtr (.t 7) (.c (.int .i64 0)), none⟩,
 ⟨some 9, .mv (.t 8), none⟩,
 ⟨some 10, .mv (.t 0), some (9, true)⟩,
 ⟨some 11, .mv (.t 3), some (9, true)⟩,
 ⟨some 12, .bin .sub (.t 11) (.c (.int .i64 1)), some (9, true)⟩,
 ⟨some 13, .iaddr 1 (.t 10) (.t 12), some (9, true)⟩,
 ⟨some 14, .load 1 false (.t 13), some (9, true)⟩,
 ⟨some 15, .bin .eql (.t 14) (.c (.int .u32 0)), some (9, true)⟩,
 ⟨some 16, .pick (.t 9) (.t 15) (.c (.bool false)), none⟩] [0, 3, 16])
 (.cond (.t 16)
 .skip
 (.exit 0)))
 (.block 1
 (.region [⟨some 17, .mv (.t 3), none⟩,
 ⟨some 18, .bin .sub (.t 17) (.c (.int .i64 1)), none⟩,
 ⟨some 3, .mv (.t 18), none⟩] [0, 3])))
/-- garment/garmentref01.Norm -/
def F42 : AFun :=
(⟨
(.seq
 (.region [⟨some 2, .mv (.c (.ints .u32 [])), none⟩] [0])
(.seq
 (.region [⟨some 5, .mv (.t 0), none⟩,
 ⟨some 6, .len (.t 5), none⟩,
 ⟨some 3, .mv (.t 6), none⟩] [0, 3])
(.seq
 (.block 0
 (.loop F42C0 F42L0))
(.seq
 (.region [⟨some 4, .mv (.c .nil), none⟩] [0, 3, 4])
(.seq
 (.region [⟨some 19, .mv (.t 4), none⟩,
 ⟨some 20, .mv (.t 0), none⟩,
 ⟨some 21, .mv (.t 3), none⟩,
 ⟨some 22, .slice 1 (.t 20) none (some (.t 21)), none⟩,
 ⟨some 23, .append 1 (some .u32) (.t 19) (.t 22), none⟩,
 ⟨some 2, .mv (.t 23), none⟩] [2])
.ret))))),
[.tmp 2]⟩ : AFun)
theorem tr42 : trFun Try.prog F42 Try.f42 = some F42 := by kernel_rfl
def F43C0 : Canon := ⟨[(0, none), (1, none), (5, some ⟨5, 1, (some .u32)⟩), (6, none), (7, none)], []⟩
def F43L0 : ACode := (.seq
 (.seq
 (.region [⟨some 9, .mv (.t 7), none⟩,
 ⟨some 10, .mv (.t 0), none⟩,
 ⟨some 11, .len (.t 10), none⟩,
 ⟨some 12, .mv (.t 1), none⟩,
 ⟨some 13, .len (.t 12), none⟩,
 ⟨some 14, .max (.t 11) (.t 13), none⟩,
 ⟨some 15, .bin .lss (.t 9) (.t 14), none⟩,
 ⟨some 16, .mv (.t 15), none⟩,
 ⟨some 17, .mv (.t 6), some (16, false)⟩,
 ⟨some 18, .bin .gtr (.t 17) (.c (.int .u64 0)), some (16, false)⟩,
 ⟨some 19, .pick (.t 16) (.c (.bool true)) (.t 18), none⟩] [0, 1, 5, 6, 7, 19])
 (.cond (.t 19)
 .skip
 (.exit 0)))
 (.seq
 (.block 1
 (.seq
 (.region [⟨some 22, .mv (.t 0), none⟩,
 ⟨some 23, .mv (.t 7), none⟩,
 ⟨some 24, .call 68 [((.t 22), .pure), ((.t 23), .pure)] 1 false, none⟩,
 ⟨some 25, .mv (.t 1), none⟩,
 ⟨some 26, .mv (.t 7), none⟩,
 ⟨some 27, .call 68 [((.t 25), .pure), ((.t 26), .pure)] 1 false, none⟩,
 ⟨some 28, .bin .add (.t 24) (.t 27), none⟩,
 ⟨some 29, .mv (.t 6), none⟩,
 ⟨some 30, .bin .add (.t 28) (.t 29), none⟩,
 ⟨some 8, .mv (.t 30), none⟩] [0, 1, 5, 7, 8])
 (.seq
 (.region [⟨some 31, .mv (.t 5), none⟩,
 ⟨some 32, .mv (.t 8), none⟩,
 ⟨some 33, .bin .rem (.t 32) (.c (.int .u64 4294967296)), none⟩,
 ⟨some 34, .conv (.int .u32) (.t 33), none⟩,
 ⟨some 35, .bslice 1 (some .u32) [(.t 34)], none⟩,
 ⟨some 36, .append 1 (some .u32) (.t 31) (.t 35), none⟩,
 ⟨some 5, .mv (.t 36), none⟩] [0, 1, 5, 7, 8])
 (.region [⟨some 37, .mv (.t 8), none⟩,
 ⟨some 38, .bin .quo (.t 37) (.c (.int .u64 4294967296)), none⟩,
 ⟨some 6, .mv (.t 38), none⟩] [0, 1, 5, 6, 7]))))
 (.region [⟨some 20, .mv (.t 7), none⟩,
 ⟨some 21, .bin .add (.t 20) (.c (.int .i64 1)), none⟩,
 ⟨some 7, .mv (.t 21), none⟩] [0, 1, 5, 6, 7])))
/-- garment/garmentref01.Add -/
def F43 : AFun :=
(⟨
(.seq
 (.region [⟨some 4, .mv (.c (.ints .u32 [])), none⟩] [0, 1])
(.seq
 (.region [⟨some 5, .mv (.c .nil), none⟩] [0, 1, 5])
(.seq
 (.region [⟨some 6, .mv (.c (.int .u64 0)), none⟩] [0, 1, 5, 6])
(.seq
 (.seq
 (.region [⟨some 7, .mv (.c (.int .i64 0)), none⟩] [0, 1, 5, 6, 7])
 (.block 0
 (.loop F43C0 F43L0)))
(.seq
 (.region [⟨some 39, .mv (.t 5), none⟩,
 ⟨some 40, .call 42 [((.t 39), .pure)] 1 true, none⟩,
 ⟨some 4, .mv (.t 40), none⟩] [4])
.ret))))),
[.tmp 4]⟩ : AFun)
theorem tr43 : trFun Try.prog F43 Try.f43 = some F43 := by kernel_rfl
def F44C0 : Canon := ⟨[(0, none), (3, some ⟨3, 1, (some .u32)⟩)], []⟩
def F44L0 : ACode := (.seq
 (.seq
 (.region [⟨some 4, .mv (.t 0), none⟩,
 ⟨some 5, .bin .gtr (.t 4) (.c (.int .u64 0)), none⟩] [0, 3, 5])
 (.cond (.t 5)
 .skip
 (.exit 0)))
 (.block 1
 (.seq
 (.region [⟨some 6, .mv (.t 3), none⟩,
 ⟨some 7, .mv (.t 0), none⟩,
 ⟨some 8, .bin .rem (.t 7) (.c (.int .u64 4294967296)), none⟩,
 ⟨some 9, .conv (.int .u32) (.t 8), none⟩,
 ⟨some 10, .bslice 1 (some .u32) [(.t 9)], none⟩,
 ⟨some 11, .append 1 (some .u32) (.t 6) (.t 10), none⟩,
 ⟨some 3, .mv (.t 11), none⟩] [0, 3])
 (.region [⟨some 12, .mv (.t 0), none⟩,
 ⟨some 13, .bin .quo (.t 12) (.c (.int .u64 4294967296)), none⟩,
 ⟨some 0, .mv (.t 13), none⟩] [0, 3]))))
/-- garment/garmentref01.Of -/
def F44 : AFun :=
(⟨
(.seq
 (.region [⟨some 2, .mv (.c (.ints .u32 [])), none⟩] [0])
(.seq
 (.region [⟨some 3, .mv (.c .nil), none⟩] [0, 3])
(.seq
 (.block 0
 (.loop F44C0 F44L0))
(.seq
 (.region [⟨some 14, .mv (.t 3), none⟩,
 ⟨some 2, .mv (.t 14), none⟩] [2])
.ret)))),
[.tmp 2]⟩ : AFun)
theorem tr44 : trFun Try.prog F44 Try.f44 = some F44 := by kernel_rfl
def F45C0 : Canon := ⟨[(0, none), (1, none), (6, some ⟨6, 1, (some .u32)⟩), (7, none), (8, none)], []⟩
def F45L0 : ACode := (.seq
 (.seq
 (.region [⟨some 14, .mv (.t 8), none⟩,
 ⟨some 15, .mv (.t 0), none⟩,
 ⟨some 16, .len (.t 15), none⟩,
 ⟨some 17, .mv (.t 1), none⟩,
 ⟨some 18, .len (.t 17), none⟩,
 ⟨some 19, .max (.t 16) (.t 18), none⟩,
 ⟨some 20, .bin .lss (.t 14) (.t 19), none⟩] [0, 1, 6, 7, 8, 20])
 (.cond (.t 20)
 .skip
 (.exit 0)))
 (.seq
 (.block 1
 (.seq
 (.region [⟨some 23, .mv (.t 0), none⟩,
 ⟨some 24, .mv (.t 8), none⟩,
 ⟨some 25, .call 68 [((.t 23), .pure), ((.t 24), .pure)] 1 false, none⟩,
 ⟨some 26, .bin .add (.c (.int .u64 4294967296)) (.t 25), none⟩,
 ⟨some 27, .mv (.t 1), none⟩,
 ⟨some 28, .mv (.t 8), none⟩,
 ⟨some 29, .call 68 [((.t 27), .pure), ((.t 28), .pure)] 1 false, none⟩,
 ⟨some 30, .bin .sub (.t 26) (.t 29), none⟩,
 ⟨some 31, .mv (.t 7), none⟩,
 ⟨some 32, .bin .sub (.t 30) (.t 31), none⟩,
 ⟨some 9, .mv (.t 32), none⟩] [0, 1, 6, 8, 9])
 (.seq
 (.region [⟨some 33, .mv (.t 6), none⟩,
 ⟨some 34, .mv (.t 9), none⟩,
 ⟨some 35, .bin .rem (.t 34) (.c (.int .u64 4294967296)), none⟩,
 ⟨some 36, .conv (.int .u32) (.t 35), none⟩,
 ⟨some 37, .bslice 1 (some .u32) [(.t 36)], none⟩,
 ⟨some 38, .append 1 (some .u32) (.t 33) (.t 37), none⟩,
 ⟨some 6, .mv (.t 38), none⟩] [0, 1, 6, 8, 9])
 (.region [⟨some 39, .mv (.t 9), none⟩,
 ⟨some 40, .bin .quo (.t 39) (.c (.int .u64 4294967296)), none⟩,
 ⟨some 41, .bin .sub (.c (.int .u64 1)) (.t 40), none⟩,
 ⟨some 7, .mv (.t 41), none⟩] [0, 1, 6, 7, 8]))))
 (.region [⟨some 21, .mv (.t 8), none⟩,
 ⟨some 22, .bin .add (.t 21) (.c (.int .i64 1)), none⟩,
 ⟨some 8, .mv (.t 22), none⟩] [0, 1, 6, 7, 8])))
/-- garment/garmentref01.Sub -/
def F45 : AFun :=
(⟨
(.seq
 (.region [⟨some 4, .mv (.c (.ints .u32 [])), none⟩,
 ⟨some 5, .mv (.c (.bool false)), none⟩] [0, 1])
(.seq
 (.seq
 (.region [⟨some 10, .mv (.t 0), none⟩,
 ⟨some 11, .mv (.t 1), none⟩,
 ⟨some 12, .call 58 [((.t 10), .pure), ((.t 11), .pure)] 1 false, none⟩,
 ⟨some 13, .bin .lss (.t 12) (.c (.int .i64 0)), none⟩] [0, 1, 13])
 (.cond (.t 13)
 (.seq
 (.region [⟨some 4, .mv (.c (.ints .u32 [])), none⟩,
 ⟨some 5, .mv (.c (.bool false)), none⟩] [4, 5])
 .ret)
 .skip))
(.seq
 (.region [⟨some 6, .mv (.c .nil), none⟩] [0, 1, 6])
(.seq
 (.region [⟨some 7, .mv (.c (.int .u64 0)), none⟩] [0, 1, 6, 7])
(.seq
 (.seq
 (.region [⟨some 8, .mv (.c (.int .i64 0)), none⟩] [0, 1, 6, 7, 8])
 (.block 0
 (.loop F45C0 F45L0)))
(.seq
 (.region [⟨some 42, .mv (.t 6), none⟩,
 ⟨some 43, .call 42 [((.t 42), .pure)] 1 false, none⟩,
 ⟨some 4, .mv (.t 43), none⟩,
 ⟨some 5, .mv (.c (.bool true)), none⟩] [4, 5])
.ret)))))),
[.tmp 4, .tmp 5]⟩ : AFun)
theorem tr45 : trFun Try.prog F45 Try.f45 = some F45 := by kernel_rfl
/-- garment/garmentref02.make1 -/
def F46 : AFun :=
(⟨
(.seq
 (.region [⟨some 4, .alloc [(.bool false), (.ints .u32 [])], none⟩] [0, 1, 4])
(.seq
 (.region [⟨some 5, .mv (.t 1), none⟩,
 ⟨some 6, .call 42 [((.t 5), .pure)] 1 false, none⟩,
 ⟨some 1, .mv (.t 6), none⟩] [0, 1, 4])
(.seq
 (.region [⟨some 7, .mv (.t 0), none⟩,
 ⟨some 8, .mv (.t 7), none⟩,
 ⟨some 9, .mv (.t 1), some (8, true)⟩,
 ⟨some 10, .len (.t 9), some (8, true)⟩,
 ⟨some 11, .bin .gtr (.t 10) (.c (.int .i64 0)), some (8, true)⟩,
 ⟨some 12, .pick (.t 8) (.t 11) (.c (.bool false)), none⟩,
 ⟨some 13, .mv (.t 1), none⟩,
 ⟨some 14, .build [(.bool false), (.ints .u32 [])] [(0, 1, (.t 12)), (1, 1, (.t 13))], none⟩,
 ⟨none, .store 2 (.t 4) (.t 14), none⟩] [4])
.ret))),
[.cell 4 2 true]⟩ : AFun)
theorem tr46 : trFun Try.prog F46 Try.f46 = some F46 := by kernel_rfl
def F47C1 : Canon := ⟨[(0, none), (1, none), (5, some ⟨5, 1, (some .u32)⟩), (6, none), (7, none), (20, none), (21, none), (25, none), (26, none)], []⟩
def F47L1 : ACode := (.seq
 (.region [⟨some 27, .bin .lss (.t 26) (.t 25), none⟩] [0, 1, 5, 6, 7, 20, 21, 25, 26, 27])
 (.seq
 (.cond (.t 27)
 .skip
 (.exit 2))
 (.seq
 (.block 3
 (.seq
 (.region [⟨some 28, .mv (.t 26), none⟩,
 ⟨some 8, .mv (.t 28), none⟩] [0, 1, 5, 6, 7, 8, 20, 21, 25, 26])
 (.seq
 (.dregion [⟨some 29, .mv (.t 7), none⟩,
 ⟨some 30, .mv (.t 0), none⟩,
 ⟨some 31, .mv (.t 6), none⟩,
 ⟨some 32, .iaddr 1 (.t 30) (.t 31), none⟩,
 ⟨some 33, .load 1 false (.t 32), none⟩,
 ⟨some 34, .conv (.int .u64) (.t 33), none⟩,
 ⟨some 35, .mv (.t 1), none⟩,
 ⟨some 36, .mv (.t 8), none⟩,
 ⟨some 37, .iaddr 1 (.t 35) (.t 36), none⟩,
 ⟨some 38, .load 1 false (.t 37), none⟩,
 ⟨some 39, .conv (.int .u64) (.t 38), none⟩,
 ⟨some 40, .bin .mul (.t 34) (.t 39), none⟩,
 ⟨some 41, .mv (.t 5), none⟩,
 ⟨some 42, .mv (.t 6), none⟩,
 ⟨some 43, .mv (.t 8), none⟩,
 ⟨some 44, .bin .add (.t 42) (.t 43), none⟩,
 ⟨some 45, .iaddr 1 (.t 41) (.t 44), none⟩,
 ⟨some 46, .load 1 false (.t 45), none⟩,
 ⟨some 47, .conv (.int .u64) (.t 46), none⟩,
 ⟨some 48, .bin .add (.t 40) (.t 47), none⟩,
 ⟨some 49, .bin .add (.t 29) (.t 48), none⟩,
 ⟨some 7, .mv (.t 49), none⟩] [0, 1, 5, 6, 7, 8, 20, 21, 25, 26] [])
 (.seq
 (.region [⟨some 50, .mv (.t 5), none⟩,
 ⟨some 51, .mv (.t 6), none⟩,
 ⟨some 52, .mv (.t 8), none⟩,
 ⟨some 53, .bin .add (.t 51) (.t 52), none⟩,
 ⟨some 54, .mv (.t 7), none⟩,
 ⟨some 55, .conv (.int .u32) (.t 54), none⟩,
 ⟨some 56, .iaddr 1 (.t 50) (.t 53), none⟩,
 ⟨none, .store 1 (.t 56) (.t 55), none⟩] [0, 1, 5, 6, 7, 20, 21, 25, 26])
 (.region [⟨some 57, .mv (.t 7), none⟩,
 ⟨some 58, .bin .shr (.t 57) (.c (.int .u64 32)), none⟩,
 ⟨some 7, .mv (.t 58), none⟩] [0, 1, 5, 6, 7, 20, 21, 25, 26])))))
 (.region [⟨some 59, .bin .add (.t 26) (.c (.int .i64 1)), none⟩,
 ⟨some 26, .mv (.t 59), none⟩] [0, 1, 5, 6, 7, 20, 21, 25, 26]))))
def F47C0 : Canon := ⟨[(0, none), (1, none), (5, some ⟨5, 1, (some .u32)⟩), (20, none), (21, none)], []⟩
def F47L0 : ACode := (.seq
 (.region [⟨some 22, .bin .lss (.t 21) (.t 20), none⟩] [0, 1, 5, 20, 21, 22])
 (.seq
 (.cond (.t 22)
 .skip
 (.exit 0))
 (.seq
 (.block 1
 (.seq
 (.region [⟨some 23, .mv (.t 21), none⟩,
 ⟨some 6, .mv (.t 23), none⟩] [0, 1, 5, 6, 20, 21])
 (.seq
 (.region [⟨some 7, .mv (.c (.int .u64 0)), none⟩] [0, 1, 5, 6, 7, 20, 21])
 (.seq
 (.seq
 (.region [⟨some 24, .mv (.t 1), none⟩,
 ⟨some 25, .len (.t 24), none⟩,
 ⟨some 26, .mv (.c (.int .i64 0)), none⟩] [0, 1, 5, 6, 7, 20, 21, 25, 26])
 (.block 2
 (.loop F47C1 F47L1)))
 (.region [⟨some 60, .mv (.t 5), none⟩,
 ⟨some 61, .mv (.t 6), none⟩,
 ⟨some 62, .mv (.t 1), none⟩,
 ⟨some 63, .len (.t 62), none⟩,
 ⟨some 64, .bin .add (.t 61) (.t 63), none⟩,
 ⟨some 65, .mv (.t 7), none⟩,
 ⟨some 66, .conv (.int .u32) (.t 65), none⟩,
 ⟨some 67, .iaddr 1 (.t 60) (.t 64), none⟩,
 ⟨none, .store 1 (.t 67) (.t 66), none⟩] [0, 1, 5, 20, 21])))))
 (.region [⟨some 68, .bin .add (.t 21) (.c (.int .i64 1)), none⟩,
 ⟨some 21, .mv (.t 68), none⟩] [0, 1, 5, 20, 21]))))
/-- garment/natural.Mul -/
def F47 : AFun :=
(⟨
(.seq
 (.region [⟨some 4, .mv (.c (.ints .u32 [])), none⟩] [0, 1])
(.seq
 (.region [⟨some 9, .mv (.t 0), none⟩,
 ⟨some 10, .call 61 [((.t 9), .pure)] 1 false, none⟩,
 ⟨some 11, .mv (.t 1), none⟩,
 ⟨some 12, .call 61 [((.t 11), .pure)] 1 false, none⟩,
 ⟨some 0, .mv (.t 10), none⟩,
 ⟨some 1, .mv (.t 12), none⟩] [0, 1])
(.seq
 (.region [⟨some 13, .mv (.t 0), none⟩,
 ⟨some 14, .len (.t 13), none⟩,
 ⟨some 15, .mv (.t 1), none⟩,
 ⟨some 16, .len (.t 15), none⟩,
 ⟨some 17, .bin .add (.t 14) (.t 16), none⟩,
 ⟨some 18, .mkslice 1 (some .u32) (.bool false) (.t 17) (.t 17), none⟩,
 ⟨some 5, .mv (.t 18), none⟩] [0, 1, 5])
(.seq
 (.seq
 (.region [⟨some 19, .mv (.t 0), none⟩,
 ⟨some 20, .len (.t 19), none⟩,
 ⟨some 21, .mv (.c (.int .i64 0)), none⟩] [0, 1, 5, 20, 21])
 (.block 0
 (.loop F47C0 F47L0)))
(.seq
 (.region [⟨some 69, .mv (.t 5), none⟩,
 ⟨some 70, .call 100061 [((.t 69), .own)] 1 true, none⟩,
 ⟨some 4, .mv (.t 70), none⟩] [4])
.ret))))),
[.tmp 4]⟩ : AFun)
theorem tr47 : trFun Try.prog F47 Try.f47 = some F47 := by kernel_rfl
def F48C1 : Canon := ⟨[(0, none), (1, none), (5, some ⟨5, 1, (some .u32)⟩), (6, none), (7, none), (8, none)], []⟩
def F48L1 : ACode := (.seq
 (.seq
 (.region [⟨some 22, .mv (.t 8), none⟩,
 ⟨some 23, .mv (.t 1), none⟩,
 ⟨some 24, .len (.t 23), none⟩,
 ⟨some 25, .bin .lss (.t 22) (.t 24), none⟩] [0, 1, 5, 6, 7, 8, 25])
 (.cond (.t 25)
 .skip
 (.exit 2)))
 (.seq
 (.block 3
 (.seq
 (.region [⟨some 28, .mv (.t 0), none⟩,
 ⟨some 29, .mv (.t 6), none⟩,
 ⟨some 30, .call 68 [((.t 28), .pure), ((.t 29), .pure)] 1 false, none⟩,
 ⟨some 31, .mv (.t 1), none⟩,
 ⟨some 32, .mv (.t 8), none⟩,
 ⟨some 33, .call 68 [((.t 31), .pure), ((.t 32), .pure)] 1 false, none⟩,
 ⟨some 34, .bin .mul (.t 30) (.t 33), none⟩,
 ⟨some 35, .mv (.t 5), none⟩,
 ⟨some 36, .mv (.t 6), none⟩,
 ⟨some 37, .mv (.t 8), none⟩,
 ⟨some 38, .bin .add (.t 36) (.t 37), none⟩,
 ⟨some 39, .call 68 [((.t 35), .pure), ((.t 38), .pure)] 1 false, none⟩,
 ⟨some 40, .bin .add (.t 34) (.t 39), none⟩,
 ⟨some 41, .mv (.t 7), none⟩,
 ⟨some 42, .bin .add (.t 40) (.t 41), none⟩,
 ⟨some 9, .mv (.t 42), none⟩] [0, 1, 5, 6, 8, 9])
 (.seq
 (.region [⟨some 43, .mv (.t 5), none⟩,
 ⟨some 44, .mv (.t 6), none⟩,
 ⟨some 45, .mv (.t 8), none⟩,
 ⟨some 46, .bin .add (.t 44) (.t 45), none⟩,
 ⟨some 47, .mv (.t 9), none⟩,
 ⟨some 48, .bin .rem (.t 47) (.c (.int .u64 4294967296)), none⟩,
 ⟨some 49, .conv (.int .u32) (.t 48), none⟩,
 ⟨some 50, .iaddr 1 (.t 43) (.t 46), none⟩,
 ⟨none, .store 1 (.t 50) (.t 49), none⟩] [0, 1, 5, 6, 8, 9])
 (.region [⟨some 51, .mv (.t 9), none⟩,
 ⟨some 52, .bin .quo (.t 51) (.c (.int .u64 4294967296)), none⟩,
 ⟨some 7, .mv (.t 52), none⟩] [0, 1, 5, 6, 7, 8]))))
 (.region [⟨some 26, .mv (.t 8), none⟩,
 ⟨some 27, .bin .add (.t 26) (.c (.int .i64 1)), none⟩,
 ⟨some 8, .mv (.t 27), none⟩] [0, 1, 5, 6, 7, 8])))
def F48C0 : Canon := ⟨[(0, none), (1, none), (5, some ⟨5, 1, (some .u32)⟩), (6, none)], []⟩
def F48L0 : ACode := (.seq
 (.seq
 (.region [⟨some 16, .mv (.t 6), none⟩,
 ⟨some 17, .mv (.t 0), none⟩,
 ⟨some 18, .len (.t 17), none⟩,
 ⟨some 19, .bin .lss (.t 16) (.t 18), none⟩] [0, 1, 5, 6, 19])
 (.cond (.t 19)
 .skip
 (.exit 0)))
 (.seq
 (.block 1
 (.seq
 (.region [⟨some 7, .mv (.c (.int .u64 0)), none⟩] [0, 1, 5, 6, 7])
 (.seq
 (.seq
 (.region [⟨some 8, .mv (.c (.int .i64 0)), none⟩] [0, 1, 5, 6, 7, 8])
 (.block 2
 (.loop F48C1 F48L1)))
 (.region [⟨some 53, .mv (.t 5), none⟩,
 ⟨some 54, .mv (.t 6), none⟩,
 ⟨some 55, .mv (.t 1), none⟩,
 ⟨some 56, .len (.t 55), none⟩,
 ⟨some 57, .bin .add (.t 54) (.t 56), none⟩,
 ⟨some 58, .mv (.t 7), none⟩,
 ⟨some 59, .conv (.int .u32) (.t 58), none⟩,
 ⟨some 60, .iaddr 1 (.t 53) (.t 57), none⟩,
 ⟨none, .store 1 (.t 60) (.t 59), none⟩] [0, 1, 5, 6]))))
 (.region [⟨some 20, .mv (.t 6), none⟩,
 ⟨some 21, .bin .add (.t 20) (.c (.int .i64 1)), none⟩,
 ⟨some 6, .mv (.t 21), none⟩] [0, 1, 5, 6])))
/-- garment/garmentref01.Mul -/
def F48 : AFun :=
(⟨
(.seq
 (.region [⟨some 4, .mv (.c (.ints .u32 [])), none⟩] [0, 1])
(.seq
 (.region [⟨some 10, .mv (.t 0), none⟩,
 ⟨some 11, .len (.t 10), none⟩,
 ⟨some 12, .mv (.t 1), none⟩,
 ⟨some 13, .len (.t 12), none⟩,
 ⟨some 14, .bin .add (.t 11) (.t 13), none⟩,
 ⟨some 15, .mkslice 1 (some .u32) (.bool false) (.t 14) (.t 14), none⟩,
 ⟨some 5, .mv (.t 15), none⟩] [0, 1, 5])
(.seq
 (.seq
 (.region [⟨some 6, .mv (.c (.int .i64 0)), none⟩] [0, 1, 5, 6])
 (.block 0
 (.loop F48C0 F48L0)))
(.seq
 (.region [⟨some 61, .mv (.t 5), none⟩,
 ⟨some 62, .call 42 [((.t 61), .pure)] 1 true, none⟩,
 ⟨some 4, .mv (.t 62), none⟩] [4])
.ret)))),
[.tmp 4]⟩ : AFun)
theorem tr48 : trFun Try.prog F48 Try.f48 = some F48 := by kernel_rfl
/-- strings.CutPrefix -/
def F49 : AFun :=
(⟨
(.seq
 (.region [⟨some 4, .mv (.c (.str [])), none⟩,
 ⟨some 5, .mv (.c (.bool false)), none⟩] [0, 1])
(.seq
 (.region [⟨some 6, .mv (.t 0), none⟩,
 ⟨some 7, .mv (.t 1), none⟩,
 ⟨some 8, .call 69 [((.t 6), .pure), ((.t 7), .pure)] 2 false, none⟩,
 ⟨some 9, .ext (.t 8) 0, none⟩,
 ⟨some 10, .ext (.t 8) 1, none⟩,
 ⟨some 4, .mv (.t 9), none⟩,
 ⟨some 5, .mv (.t 10), none⟩] [4, 5])
.ret)),
[.tmp 4, .tmp 5]⟩ : AFun)
theorem tr49 : trFun Try.prog F49 Try.f49 = some F49 := by kernel_rfl
def F50C1 : Canon := ⟨[(0, none), (4, some ⟨4, 1, (some .u32)⟩), (6, none), (24, none), (25, none), (44, none), (45, none)], []⟩
def F50L1 : ACode := (.seq
 (.region [⟨some 46, .bin .lss (.t 45) (.t 44), none⟩] [0, 4, 6, 24, 25, 44, 45, 46])
 (.seq
 (.cond (.t 46)
 .skip
 (.exit 2))
 (.seq
 (.block 3
 (.seq
 (.region [⟨some 47, .mv (.t 45), none⟩,
 ⟨some 7, .mv (.t 47), none⟩] [0, 4, 6, 7, 24, 25, 44, 45])
 (.seq
 (.region [⟨some 48, .mv (.t 6), none⟩,
 ⟨some 49, .mv (.t 4), none⟩,
 ⟨some 50, .mv (.t 7), none⟩,
 ⟨some 51, .iaddr 1 (.t 49) (.t 50), none⟩,
 ⟨some 52, .load 1 false (.t 51), none⟩,
 ⟨some 53, .conv (.int .u64) (.t 52), none⟩,
 ⟨some 54, .bin .mul (.t 53) (.c (.int .u64 10)), none⟩,
 ⟨some 55, .bin .add (.t 48) (.t 54), none⟩,
 ⟨some 6, .mv (.t 55), none⟩] [0, 4, 6, 7, 24, 25, 44, 45])
 (.seq
 (.region [⟨some 56, .mv (.t 4), none⟩,
 ⟨some 57, .mv (.t 7), none⟩,
 ⟨some 58, .mv (.t 6), none⟩,
 ⟨some 59, .conv (.int .u32) (.t 58), none⟩,
 ⟨some 60, .iaddr 1 (.t 56) (.t 57), none⟩,
 ⟨none, .store 1 (.t 60) (.t 59), none⟩] [0, 4, 6, 24, 25, 44, 45])
 (.region [⟨some 61, .mv (.t 6), none⟩,
 ⟨some 62, .bin .shr (.t 61) (.c (.int .u64 32)), none⟩,
 ⟨some 6, .mv (.t 62), none⟩] [0, 4, 6, 24, 25, 44, 45])))))
 (.region [⟨some 63, .bin .add (.t 45) (.c (.int .i64 1)), none⟩,
 ⟨some 45, .mv (.t 63), none⟩] [0, 4, 6, 24, 25, 44, 45]))))
def F50C0 : Canon := ⟨[(0, none), (4, some ⟨4, 1, (some .u32)⟩), (24, none), (25, none)], []⟩
def F50L0 : ACode := (.seq
 (.region [⟨some 26, .bin .lss (.t 25) (.t 24), none⟩] [0, 4, 24, 25, 26])
 (.seq
 (.cond (.t 26)
 .skip
 (.exit 0))
 (.seq
 (.block 1
 (.seq
 (.region [⟨some 27, .mv (.t 25), none⟩,
 ⟨some 5, .mv (.t 27), none⟩] [0, 4, 5, 24, 25])
 (.seq
 (.seq
 (.region [⟨some 28, .mv (.t 0), none⟩,
 ⟨some 29, .mv (.t 5), none⟩,
 ⟨some 30, .sidx (.t 28) (.t 29), none⟩,
 ⟨some 31, .bin .lss (.t 30) (.c (.int .u8 48)), none⟩,
 ⟨some 32, .mv (.t 31), none⟩,
 ⟨some 33, .mv (.t 0), some (32, false)⟩,
 ⟨some 34, .mv (.t 5), some (32, false)⟩,
 ⟨some 35, .sidx (.t 33) (.t 34), some (32, false)⟩,
 ⟨some 36, .bin .gtr (.t 35) (.c (.int .u8 57)), some (32, false)⟩,
 ⟨some 37, .pick (.t 32) (.c (.bool true)) (.t 36), none⟩] [0, 4, 5, 24, 25, 37])
 (.cond (.t 37)
 (.seq
 (.region [⟨some 2, .mv (.c (.ints .u32 [])), none⟩,
 ⟨some 3, .mv (.c (.int .i64 2)), none⟩] [2, 3])
 .ret)
 .skip))
 (.seq
 (.region [⟨some 38, .mv (.t 0), none⟩,
 ⟨some 39, .mv (.t 5), none⟩,
 ⟨some 40, .sidx (.t 38) (.t 39), none⟩,
 ⟨some 41, .bin .sub (.t 40) (.c (.int .u8 48)), none⟩,
 ⟨some 42, .conv (.int .u64) (.t 41), none⟩,
 ⟨some 6, .mv (.t 42), none⟩] [0, 4, 6, 24, 25])
 (.seq
 (.seq
 (.region [⟨some 43, .mv (.t 4), none⟩,
 ⟨some 44, .len (.t 43), none⟩,
 ⟨some 45, .mv (.c (.int .i64 0)), none⟩] [0, 4, 6, 24, 25, 44, 45])
 (.block 2
 (.loop F50C1 F50L1)))
 (.seq
 (.region [⟨some 64, .mv (.t 6), none⟩,
 ⟨some 65, .bin .gtr (.t 64) (.c (.int .u64 0)), none⟩] [0, 4, 6, 24, 25, 65])
 (.cond (.t 65)
 (.region [⟨some 66, .mv (.t 4), none⟩,
 ⟨some 67, .mv (.t 6), none⟩,
 ⟨some 68, .conv (.int .u32) (.t 67), none⟩,
 ⟨some 69, .bslice 1 (some .u32) [(.t 68)], none⟩,
 ⟨some 70, .append 1 (some .u32) (.t 66) (.t 69), none⟩,
 ⟨some 4, .mv (.t 70), none⟩] [0, 4, 24, 25])
 .skip)))))))
 (.region [⟨some 71, .bin .add (.t 25) (.c (.int .i64 1)), none⟩,
 ⟨some 25, .mv (.t 71), none⟩] [0, 4, 24, 25]))))
/-- garment/natural.Parse -/
def F50 : AFun :=
(⟨
(.seq
 (.region [⟨some 2, .mv (.c (.ints .u32 [])), none⟩,
 ⟨some 3, .mv (.c (.int .i64 0)), none⟩] [0])
(.seq
 (.seq
 (.region [⟨some 8, .mv (.t 0), none⟩,
 ⟨some 9, .slen (.t 8), none⟩,
 ⟨some 10, .bin .gtr (.t 9) (.c (.int .i64 200)), none⟩] [0, 10])
 (.cond (.t 10)
 (.seq
 (.region [⟨some 2, .mv (.c (.ints .u32 [])), none⟩,
 ⟨some 3, .mv (.c (.int .i64 5)), none⟩] [2, 3])
 .ret)
 .skip))
(.seq
 (.seq
 (.region [⟨some 11, .mv (.t 0), none⟩,
 ⟨some 12, .bin .eql (.t 11) (.c (.str [])), none⟩,
 ⟨some 13, .mv (.t 12), none⟩,
 ⟨some 14, .mv (.t 0), some (13, false)⟩,
 ⟨some 15, .sidx (.t 14) (.c (.int .i64 0)), some (13, false)⟩,
 ⟨some 16, .bin .eql (.t 15) (.c (.int .u8 48)), some (13, false)⟩,
 ⟨some 17, .mv (.t 16), some (13, false)⟩,
 ⟨some 18, .mv (.t 0), some (17, true)⟩,
 ⟨some 19, .slen (.t 18), some (17, true)⟩,
 ⟨some 20, .bin .gtr (.t 19) (.c (.int .i64 1)), some (17, true)⟩,
 ⟨some 21, .pick (.t 17) (.t 20) (.c (.bool false)), some (13, false)⟩,
 ⟨some 22, .pick (.t 13) (.c (.bool true)) (.t 21), none⟩] [0, 22])
 (.cond (.t 22)
 (.seq
 (.region [⟨some 2, .mv (.c (.ints .u32 [])), none⟩,
 ⟨some 3, .mv (.c (.int .i64 2)), none⟩] [2, 3])
 .ret)
 .skip))
(.seq
 (.region [⟨some 4, .mv (.c .nil), none⟩] [0, 4])
(.seq
 (.seq
 (.region [⟨some 23, .mv (.t 0), none⟩,
 ⟨some 24, .slen (.t 23), none⟩,
 ⟨some 25, .mv (.c (.int .i64 0)), none⟩] [0, 4, 24, 25])
 (.block 0
 (.loop F50C0 F50L0)))
(.seq
 (.region [⟨some 72, .mv (.t 4), none⟩,
 ⟨some 2, .mv (.t 72), none⟩,
 ⟨some 3, .mv (.c (.int .i64 0)), none⟩] [2, 3])
.ret)))))),
[.tmp 2, .tmp 3]⟩ : AFun)
theorem tr50 : trFun Try.prog F50 Try.f50 = some F50 := by kernel_rfl
/-- garment/natural.Norm -/
def F51 : AFun :=
(⟨
(.seq
 (.region [⟨some 2, .mv (.c (.ints .u32 [])), none⟩] [0])
(.seq
 (.region [⟨some 5, .mv (.t 0), none⟩,
 ⟨some 6, .call 61 [((.t 5), .pure)] 1 false, none⟩,
 ⟨some 3, .mv (.t 6), none⟩] [3])
(.seq
 (.region [⟨some 7, .mv (.t 3), none⟩,
 ⟨some 8, .len (.t 7), none⟩,
 ⟨some 9, .mkslice 1 (some .u32) (.bool false) (.t 8) (.t 8), none⟩,
 ⟨some 4, .mv (.t 9), none⟩] [3, 4])
(.seq
 (.region [⟨some 10, .mv (.t 4), none⟩,
 ⟨some 11, .mv (.t 3), none⟩,
 ⟨some 12, .copy 1 (some .u32) (.t 10) (.t 11), none⟩] [4])
(.seq
 (.region [⟨some 13, .mv (.t 4), none⟩,
 ⟨some 2, .mv (.t 13), none⟩] [2])
.ret))))),
[.tmp 2]⟩ : AFun)
theorem tr51 : trFun Try.prog F51 Try.f51 = some F51 := by kernel_rfl
/-- garment/garmentref01.Parse -/
def F52 : AFun :=
(⟨
(.seq
 (.region [⟨some 2, .mv (.c (.ints .u32 [])), none⟩,
 ⟨some 3, .mv (.c (.int .i64 0)), none⟩] [0])
(.seq
 (.seq
 (.region [⟨some 4, .mv (.t 0), none⟩,
 ⟨some 5, .slen (.t 4), none⟩,
 ⟨some 6, .bin .gtr (.t 5) (.c (.int .i64 200)), none⟩] [0, 6])
 (.cond (.t 6)
 (.seq
 (.region [⟨some 2, .mv (.c (.ints .u32 [])), none⟩,
 ⟨some 3, .mv (.c (.int .i64 5)), none⟩] [2, 3])
 .ret)
 .skip))
(.seq
 (.seq
 (.region [⟨some 7, .mv (.t 0), none⟩,
 ⟨some 8, .call 70 [((.t 7), .pure)] 1 false, none⟩,
 ⟨some 9, .un .not (.t 8), none⟩] [0, 9])
 (.cond (.t 9)
 (.seq
 (.region [⟨some 2, .mv (.c (.ints .u32 [])), none⟩,
 ⟨some 3, .mv (.c (.int .i64 2)), none⟩] [2, 3])
 .ret)
 .skip))
(.seq
 (.region [⟨some 10, .mv (.t 0), none⟩,
 ⟨some 11, .call 71 [((.t 10), .pure)] 1 false, none⟩,
 ⟨some 2, .mv (.t 11), none⟩,
 ⟨some 3, .mv (.c (.int .i64 0)), none⟩] [2, 3])
.ret)))),
[.tmp 2, .tmp 3]⟩ : AFun)
theorem tr52 : trFun Try.prog F52 Try.f52 = some F52 := by kernel_rfl
def F53C2 : Canon := ⟨[(3, some ⟨3, 1, (some .u8)⟩), (7, none), (8, none)], []⟩
def F53L2 : ACode := (.seq
 (.seq
 (.region [⟨some 48, .mv (.t 7), none⟩,
 ⟨some 49, .mv (.t 8), none⟩,
 ⟨some 50, .bin .lss (.t 48) (.t 49), none⟩] [3, 7, 8, 50])
 (.cond (.t 50)
 .skip
 (.exit 4)))
 (.seq
 (.block 5
 (.dregion [⟨some 55, .mv (.t 3), none⟩,
 ⟨some 56, .mv (.t 7), none⟩,
 ⟨some 57, .mv (.t 3), none⟩,
 ⟨some 58, .mv (.t 8), none⟩,
 ⟨some 59, .mv (.t 3), none⟩,
 ⟨some 60, .mv (.t 8), none⟩,
 ⟨some 61, .iaddr 1 (.t 59) (.t 60), none⟩,
 ⟨some 62, .load 1 false (.t 61), none⟩,
 ⟨some 63, .mv (.t 3), none⟩,
 ⟨some 64, .mv (.t 7), none⟩,
 ⟨some 65, .iaddr 1 (.t 63) (.t 64), none⟩,
 ⟨some 66, .load 1 false (.t 65), none⟩,
 ⟨some 67, .iaddr 1 (.t 55) (.t 56), none⟩,
 ⟨none, .store 1 (.t 67) (.t 62), none⟩,
 ⟨some 68, .iaddr 1 (.t 57) (.t 58), none⟩,
 ⟨none, .store 1 (.t 68) (.t 66), none⟩] [3, 7, 8] []))
 (.region [⟨some 51, .mv (.t 7), none⟩,
 ⟨some 52, .bin .add (.t 51) (.c (.int .i64 1)), none⟩,
 ⟨some 53, .mv (.t 8), none⟩,
 ⟨some 54, .bin .sub (.t 53) (.c (.int .i64 1)), none⟩,
 ⟨some 7, .mv (.t 52), none⟩,
 ⟨some 8, .mv (.t 54), none⟩] [3, 7, 8])))
def F53C1 : Canon := ⟨[(3, some ⟨3, 1, (some .u8)⟩), (4, none), (5, none), (6, none)], []⟩
def F53L1 : ACode := (.seq
 (.seq
 (.region [⟨some 22, .mv (.t 6), none⟩,
 ⟨some 23, .bin .lss (.t 22) (.c (.int .i64 9)), none⟩,
 ⟨some 24, .mv (.t 23), none⟩,
 ⟨some 25, .mv (.t 5), some (24, true)⟩,
 ⟨some 26, .bin .gtr (.t 25) (.c (.int .u32 0)), some (24, true)⟩,
 ⟨some 27, .mv (.t 26), some (24, true)⟩,
 ⟨some 28, .mv (.t 4), some (27, false)⟩,
 ⟨some 29, .len (.t 28), some (27, false)⟩,
 ⟨some 30, .bin .gtr (.t 29) (.c (.int .i64 0)), some (27, false)⟩,
 ⟨some 31, .pick (.t 27) (.c (.bool true)) (.t 30), some (24, true)⟩,
 ⟨some 32, .pick (.t 24) (.t 31) (.c (.bool false)), none⟩] [3, 4, 5, 6, 32])
 (.cond (.t 32)
 .skip
 (.exit 2)))
 (.seq
 (.block 3
 (.seq
 (.region [⟨some 35, .mv (.t 3), none⟩,
 ⟨some 36, .mv (.t 5), none⟩,
 ⟨some 37, .bin .rem (.t 36) (.c (.int .u32 10)), none⟩,
 ⟨some 38, .bin .add (.c (.int .u32 48)) (.t 37), none⟩,
 ⟨some 39, .conv (.int .u8) (.t 38), none⟩,
 ⟨some 40, .bslice 1 (some .u8) [(.t 39)], none⟩,
 ⟨some 41, .append 1 (some .u8) (.t 35) (.t 40), none⟩,
 ⟨some 3, .mv (.t 41), none⟩] [3, 4, 5, 6])
 (.region [⟨some 42, .mv (.t 5), none⟩,
 ⟨some 43, .bin .quo (.t 42) (.c (.int .u32 10)), none⟩,
 ⟨some 5, .mv (.t 43), none⟩] [3, 4, 5, 6])))
 (.region [⟨some 33, .mv (.t 6), none⟩,
 ⟨some 34, .bin .add (.t 33) (.c (.int .i64 1)), none⟩,
 ⟨some 6, .mv (.t 34), none⟩] [3, 4, 5, 6])))
def F53C0 : Canon := ⟨[(0, none), (3, some ⟨3, 1, (some .u8)⟩)], []⟩
def F53L0 : ACode := (.seq
 (.seq
 (.region [⟨some 14, .mv (.t 0), none⟩,
 ⟨some 15, .len (.t 14), none⟩,
 ⟨some 16, .bin .gtr (.t 15) (.c (.int .i64 0)), none⟩] [0, 3, 16])
 (.cond (.t 16)
 .skip
 (.exit 0)))
 (.block 1
 (.seq
 (.region [⟨some 18, .mv (.t 0), none⟩,
 ⟨some 19, .call 62 [((.t 18), .pure), ((.c (.int .u32 1000000000)), .pure)] 2 false, none⟩,
 ⟨some 17, .mv (.t 19), none⟩,
 ⟨some 20, .ext (.t 17) 0, none⟩,
 ⟨some 21, .ext (.t 17) 1, none⟩,
 ⟨some 4, .mv (.t 20), none⟩,
 ⟨some 5, .mv (.t 21), none⟩] [3, 4, 5])
 (.seq
 (.seq
 (.region [⟨some 6, .mv (.c (.int .i64 0)), none⟩] [3, 4, 5, 6])
 (.block 2
 (.loop F53C1 F53L1)))
 (.region [⟨some 44, .mv (.t 4), none⟩,
 ⟨some 0, .mv (.t 44), none⟩] [0, 3])))))
/-- garment/natural.Text -/
def F53 : AFun :=
(⟨
(.seq
 (.region [⟨some 2, .mv (.c (.str [])), none⟩] [0])
(.seq
 (.region [⟨some 9, .mv (.t 0), none⟩,
 ⟨some 10, .call 51 [((.t 9), .pure)] 1 false, none⟩,
 ⟨some 0, .mv (.t 10), none⟩] [0])
(.seq
 (.seq
 (.region [⟨some 11, .mv (.t 0), none⟩,
 ⟨some 12, .len (.t 11), none⟩,
 ⟨some 13, .bin .eql (.t 12) (.c (.int .i64 0)), none⟩] [0, 13])
 (.cond (.t 13)
 (.seq
 (.region [⟨some 2, .mv (.c (.str [48])), none⟩] [2])
 .ret)
 .skip))
(.seq
 (.region [⟨some 3, .mv (.c .nil), none⟩] [0, 3])
(.seq
 (.block 0
 (.loop F53C0 F53L0))
(.seq
 (.seq
 (.region [⟨some 45, .mv (.t 3), none⟩,
 ⟨some 46, .len (.t 45), none⟩,
 ⟨some 47, .bin .sub (.t 46) (.c (.int .i64 1)), none⟩,
 ⟨some 7, .mv (.c (.int .i64 0)), none⟩,
 ⟨some 8, .mv (.t 47), none⟩] [3, 7, 8])
 (.block 4
 (.loop F53C2 F53L2)))
(.seq
 (.region [⟨some 69, .mv (.t 3), none⟩,
 ⟨some 70, .conv .bytesToStr (.t 69), none⟩,
 ⟨some 2, .mv (.t 70), none⟩] [2])
.ret))))))),
[.tmp 2]⟩ : AFun)
theorem tr53 : trFun Try.prog F53 Try.f53 = some F53 := by kernel_rfl
/-- garment/integer.sign -/
def F54 : AFun :=
(⟨
(.seq
 (.region [⟨some 1, .box (.t 0), none⟩,
 ⟨some 2, .mv (.c (.int .i64 0)), none⟩] [1])
(.seq
 (.block 0
 (.seq
 (.region [⟨some 4, .faddr 1 (.t 1), none⟩,
 ⟨some 5, .load 1 false (.t 4), none⟩,
 ⟨some 6, .call 51 [((.t 5), .pure)] 1 false, none⟩,
 ⟨some 7, .len (.t 6), none⟩,
 ⟨some 8, .bin .eql (.t 7) (.c (.int .i64 0)), none⟩,
 ⟨some 3, .mv (.t 8), none⟩] [1, 3])
 (.cond (.t 3)
 (.seq
 (.region [⟨some 2, .mv (.c (.int .i64 0)), none⟩] [2])
 .ret)
 (.seq
 (.region [⟨some 10, .faddr 0 (.t 1), none⟩,
 ⟨some 11, .load 1 false (.t 10), none⟩,
 ⟨some 9, .mv (.t 11), none⟩] [9])
 (.cond (.t 9)
 (.seq
 (.region [⟨some 2, .mv (.c (.int .i64 (-1))), none⟩] [2])
 .ret)
 .skip)))))
(.seq
 (.region [⟨some 2, .mv (.c (.int .i64 1)), none⟩] [2])
.ret))),
[.tmp 2]⟩ : AFun)
theorem tr54 : trFun Try.prog F54 Try.f54 = some F54 := by kernel_rfl
def F55C0 : Canon := ⟨[(3, none), (4, none)], []⟩
def F55L0 : ACode := (.seq
 (.seq
 (.region [⟨some 9, .mv (.t 4), none⟩,
 ⟨some 10, .len (.t 9), none⟩,
 ⟨some 11, .bin .gtr (.t 10) (.c (.int .i64 0)), none⟩] [3, 4, 11])
 (.cond (.t 11)
 .skip
 (.exit 0)))
 (.block 1
 (.seq
 (.region [⟨some 13, .mv (.t 4), none⟩,
 ⟨some 14, .call 72 [((.t 13), .pure), ((.c (.int .u64 10)), .pure)] 2 false, none⟩,
 ⟨some 12, .mv (.t 14), none⟩,
 ⟨some 15, .ext (.t 12) 0, none⟩,
 ⟨some 16, .ext (.t 12) 1, none⟩,
 ⟨some 5, .mv (.t 15), none⟩,
 ⟨some 6, .mv (.t 16), none⟩] [3, 5, 6])
 (.seq
 (.region [⟨some 17, .mv (.t 6), none⟩,
 ⟨some 18, .bin .add (.c (.int .u64 48)) (.t 17), none⟩,
 ⟨some 19, .conv (.int .u8) (.t 18), none⟩,
 ⟨some 20, .bslice 1 (some .u8) [(.t 19)], none⟩,
 ⟨some 21, .conv .bytesToStr (.t 20), none⟩,
 ⟨some 22, .mv (.t 3), none⟩,
 ⟨some 23, .bin .add (.t 21) (.t 22), none⟩,
 ⟨some 3, .mv (.t 23), none⟩] [3, 5])
 (.region [⟨some 24, .mv (.t 5), none⟩,
 ⟨some 4, .mv (.t 24), none⟩] [3, 4])))))
/-- garment/garmentref01.Text -/
def F55 : AFun :=
(⟨
(.seq
 (.region [⟨some 2, .mv (.c (.str [])), none⟩] [0])
(.seq
 (.region [⟨some 3, .mv (.c (.str [])), none⟩] [0, 3])
(.seq
 (.region [⟨some 7, .mv (.t 0), none⟩,
 ⟨some 8, .call 42 [((.t 7), .pure)] 1 false, none⟩,
 ⟨some 4, .mv (.t 8), none⟩] [3, 4])
(.seq
 (.block 0
 (.loop F55C0 F55L0))
(.seq
 (.seq
 (.region [⟨some 25, .mv (.t 3), none⟩,
 ⟨some 26, .bin .eql (.t 25) (.c (.str [])), none⟩] [3, 26])
 (.cond (.t 26)
 (.seq
 (.region [⟨some 2, .mv (.c (.str [48])), none⟩] [2])
 .ret)
 .skip))
(.seq
 (.region [⟨some 27, .mv (.t 3), none⟩,
 ⟨some 2, .mv (.t 27), none⟩] [2])
.ret)))))),
[.tmp 2]⟩ : AFun)
theorem tr55 : trFun Try.prog F55 Try.f55 = some F55 := by kernel_rfl
/-- garment/natural.Of -/
def F56 : AFun :=
(⟨
(.seq
 (.region [⟨some 2, .mv (.c (.ints .u32 [])), none⟩] [0])
(.seq
 (.region [⟨some 3, .mv (.t 0), none⟩,
 ⟨some 4, .conv (.int .u32) (.t 3), none⟩,
 ⟨some 5, .mv (.t 0), none⟩,
 ⟨some 6, .bin .shr (.t 5) (.c (.int .u64 32)), none⟩,
 ⟨some 7, .conv (.int .u32) (.t 6), none⟩,
 ⟨some 8, .bslice 1 (some .u32) [(.t 4), (.t 7)], none⟩,
 ⟨some 9, .call 51 [((.t 8), .pure)] 1 true, none⟩,
 ⟨some 2, .mv (.t 9), none⟩] [2])
.ret)),
[.tmp 2]⟩ : AFun)
theorem tr56 : trFun Try.prog F56 Try.f56 = some F56 := by kernel_rfl
def F57C0 : Canon := ⟨[(0, none), (1, none), (5, none)], []⟩
def F57L0 : ACode := (.seq
 (.seq
 (.region [⟨some 23, .mv (.t 5), none⟩,
 ⟨some 24, .bin .geq (.t 23) (.c (.int .i64 0)), none⟩] [0, 1, 5, 24])
 (.cond (.t 24)
 .skip
 (.exit 0)))
 (.seq
 (.block 1
 (.seq
 (.dregion [⟨some 27, .mv (.t 0), none⟩,
 ⟨some 28, .mv (.t 5), none⟩,
 ⟨some 29, .iaddr 1 (.t 27) (.t 28), none⟩,
 ⟨some 30, .load 1 false (.t 29), none⟩,
 ⟨some 31, .mv (.t 1), none⟩,
 ⟨some 32, .mv (.t 5), none⟩,
 ⟨some 33, .iaddr 1 (.t 31) (.t 32), none⟩,
 ⟨some 34, .load 1 false (.t 33), none⟩,
 ⟨some 35, .bin .neq (.t 30) (.t 34), none⟩] [0, 1, 5, 35] [])
 (.cond (.t 35)
 (.seq
 (.seq
 (.dregion [⟨some 36, .mv (.t 0), none⟩,
 ⟨some 37, .mv (.t 5), none⟩,
 ⟨some 38, .iaddr 1 (.t 36) (.t 37), none⟩,
 ⟨some 39, .load 1 false (.t 38), none⟩,
 ⟨some 40, .mv (.t 1), none⟩,
 ⟨some 41, .mv (.t 5), none⟩,
 ⟨some 42, .iaddr 1 (.t 40) (.t 41), none⟩,
 ⟨some 43, .load 1 false (.t 42), none⟩,
 ⟨some 44, .bin .lss (.t 39) (.t 43), none⟩] [44] [])
 (.cond (.t 44)
 (.seq
 (.region [⟨some 4, .mv (.c (.int .i64 (-1))), none⟩] [4])
 .ret)
 .skip))
 (.seq
 (.region [⟨some 4, .mv (.c (.int .i64 1)), none⟩] [4])
 .ret))
 .skip)))
 (.region [⟨some 25, .mv (.t 5), none⟩,
 ⟨some 26, .bin .sub (.t 25) (.c (.int .i64 1)), none⟩,
 ⟨some 5, .mv (.t 26), none⟩] [0, 1, 5])))
/-- garment/natural.Cmp -/
def F57 : AFun :=
(⟨
(.seq
 (.region [⟨some 4, .mv (.c (.int .i64 0)), none⟩] [0, 1])
(.seq
 (.region [⟨some 6, .mv (.t 0), none⟩,
 ⟨some 7, .call 61 [((.t 6), .pure)] 1 false, none⟩,
 ⟨some 8, .mv (.t 1), none⟩,
 ⟨some 9, .call 61 [((.t 8), .pure)] 1 false, none⟩,
 ⟨some 0, .mv (.t 7), none⟩,
 ⟨some 1, .mv (.t 9), none⟩] [0, 1])
(.seq
 (.seq
 (.region [⟨some 10, .mv (.t 0), none⟩,
 ⟨some 11, .len (.t 10), none⟩,
 ⟨some 12, .mv (.t 1), none⟩,
 ⟨some 13, .len (.t 12), none⟩,
 ⟨some 14, .bin .neq (.t 11) (.t 13), none⟩] [0, 1, 14])
 (.cond (.t 14)
 (.seq
 (.seq
 (.region [⟨some 15, .mv (.t 0), none⟩,
 ⟨some 16, .len (.t 15), none⟩,
 ⟨some 17, .mv (.t 1), none⟩,
 ⟨some 18, .len (.t 17), none⟩,
 ⟨some 19, .bin .lss (.t 16) (.t 18), none⟩] [19])
 (.cond (.t 19)
 (.seq
 (.region [⟨some 4, .mv (.c (.int .i64 (-1))), none⟩] [4])
 .ret)
 .skip))
 (.seq
 (.region [⟨some 4, .mv (.c (.int .i64 1)), none⟩] [4])
 .ret))
 .skip))
(.seq
 (.seq
 (.region [⟨some 20, .mv (.t 0), none⟩,
 ⟨some 21, .len (.t 20), none⟩,
 ⟨some 22, .bin .sub (.t 21) (.c (.int .i64 1)), none⟩,
 ⟨some 5, .mv (.t 22), none⟩] [0, 1, 5])
 (.block 0
 (.loop F57C0 F57L0)))
(.seq
 (.region [⟨some 4, .mv (.c (.int .i64 0)), none⟩] [4])
.ret))))),
[.tmp 4]⟩ : AFun)
theorem tr57 : trFun Try.prog F57 Try.f57 = some F57 := by kernel_rfl
def F58C0 : Canon := ⟨[(0, none), (1, none), (5, none)], []⟩
def F58L0 : ACode := (.seq
 (.seq
 (.region [⟨some 12, .mv (.t 5), none⟩,
 ⟨some 13, .bin .geq (.t 12) (.c (.int .i64 0)), none⟩] [0, 1, 5, 13])
 (.cond (.t 13)
 .skip
 (.exit 0)))
 (.seq
 (.block 1
 (.seq
 (.seq
 (.region [⟨some 16, .mv (.t 0), none⟩,
 ⟨some 17, .mv (.t 5), none⟩,
 ⟨some 18, .call 68 [((.t 16), .pure), ((.t 17), .pure)] 1 false, none⟩,
 ⟨some 19, .mv (.t 1), none⟩,
 ⟨some 20, .mv (.t 5), none⟩,
 ⟨some 21, .call 68 [((.t 19), .pure), ((.t 20), .pure)] 1 false, none⟩,
 ⟨some 22, .bin .lss (.t 18) (.t 21), none⟩] [0, 1, 5, 22])
 (.cond (.t 22)
 (.seq
 (.region [⟨some 4, .mv (.c (.int .i64 (-1))), none⟩] [4])
 .ret)
 .skip))
 (.seq
 (.region [⟨some 23, .mv (.t 0), none⟩,
 ⟨some 24, .mv (.t 5), none⟩,
 ⟨some 25, .call 68 [((.t 23), .pure), ((.t 24), .pure)] 1 false, none⟩,
 ⟨some 26, .mv (.t 1), none⟩,
 ⟨some 27, .mv (.t 5), none⟩,
 ⟨some 28, .call 68 [((.t 26), .pure), ((.t 27), .pure)] 1 false, none⟩,
 ⟨some 29, .bin .gtr (.t 25) (.t 28), none⟩] [0, 1, 5, 29])
 (.cond (.t 29)
 (.seq
 (.region [⟨some 4, .mv (.c (.int .i64 1)), none⟩] [4])
 .ret)
 .skip))))
 (.region [⟨some 14, .mv (.t 5), none⟩,
 ⟨some 15, .bin .sub (.t 14) (.c (.int .i64 1)), none⟩,
 ⟨some 5, .mv (.t 15), none⟩] [0, 1, 5])))
/-- garment/garmentref01.Cmp -/
def F58 : AFun :=
(⟨
(.seq
 (.region [⟨some 4, .mv (.c (.int .i64 0)), none⟩] [0, 1])
(.seq
 (.seq
 (.region [⟨some 6, .mv (.t 0), none⟩,
 ⟨some 7, .len (.t 6), none⟩,
 ⟨some 8, .mv (.t 1), none⟩,
 ⟨some 9, .len (.t 8), none⟩,
 ⟨some 10, .max (.t 7) (.t 9), none⟩,
 ⟨some 11, .bin .sub (.t 10) (.c (.int .i64 1)), none⟩,
 ⟨some 5, .mv (.t 11), none⟩] [0, 1, 5])
 (.block 0
 (.loop F58C0 F58L0)))
(.seq
 (.region [⟨some 4, .mv (.c (.int .i64 0)), none⟩] [4])
.ret))),
[.tmp 4]⟩ : AFun)
theorem tr58 : trFun Try.prog F58 Try.f58 = some F58 := by kernel_rfl
def F59C0 : Canon := ⟨[(0, none), (1, none), (5, some ⟨5, 1, (some .u32)⟩), (6, none), (24, none), (25, none)], []⟩
def F59L0 : ACode := (.seq
 (.region [⟨some 26, .bin .lss (.t 25) (.t 24), none⟩] [0, 1, 5, 6, 24, 25, 26])
 (.seq
 (.cond (.t 26)
 .skip
 (.exit 0))
 (.seq
 (.block 1
 (.seq
 (.region [⟨some 27, .mv (.t 25), none⟩,
 ⟨some 7, .mv (.t 27), none⟩] [0, 1, 5, 6, 7, 24, 25])
 (.seq
 (.region [⟨some 28, .mv (.t 6), none⟩,
 ⟨some 29, .mv (.t 0), none⟩,
 ⟨some 30, .mv (.t 7), none⟩,
 ⟨some 31, .iaddr 1 (.t 29) (.t 30), none⟩,
 ⟨some 32, .load 1 false (.t 31), none⟩,
 ⟨some 33, .conv (.int .u64) (.t 32), none⟩,
 ⟨some 34, .bin .add (.t 28) (.t 33), none⟩,
 ⟨some 6, .mv (.t 34), none⟩] [0, 1, 5, 6, 7, 24, 25])
 (.seq
 (.seq
 (.region [⟨some 35, .mv (.t 7), none⟩,
 ⟨some 36, .mv (.t 1), none⟩,
 ⟨some 37, .len (.t 36), none⟩,
 ⟨some 38, .bin .lss (.t 35) (.t 37), none⟩] [0, 1, 5, 6, 7, 24, 25, 38])
 (.cond (.t 38)
 (.region [⟨some 39, .mv (.t 6), none⟩,
 ⟨some 40, .mv (.t 1), none⟩,
 ⟨some 41, .mv (.t 7), none⟩,
 ⟨some 42, .iaddr 1 (.t 40) (.t 41), none⟩,
 ⟨some 43, .load 1 false (.t 42), none⟩,
 ⟨some 44, .conv (.int .u64) (.t 43), none⟩,
 ⟨some 45, .bin .add (.t 39) (.t 44), none⟩,
 ⟨some 6, .mv (.t 45), none⟩] [0, 1, 5, 6, 24, 25])
 .skip))
 (.seq
 (.region [⟨some 46, .mv (.t 5), none⟩,
 ⟨some 47, .mv (.t 6), none⟩,
 ⟨some 48, .conv (.int .u32) (.t 47), none⟩,
 ⟨some 49, .bslice 1 (some .u32) [(.t 48)], none⟩,
 ⟨some 50, .append 1 (some .u32) (.t 46) (.t 49), none⟩,
 ⟨some 5, .mv (.t 50), none⟩] [0, 1, 5, 6, 24, 25])
 (.region [⟨some 51, .mv (.t 6), none⟩,
 ⟨some 52, .bin .shr (.t 51) (.c (.int .u64 32)), none⟩,
 ⟨some 6, .mv (.t 52), none⟩] [0, 1, 5, 6, 24, 25]))))))
 (.region [⟨some 53, .bin .add (.t 25) (.c (.int .i64 1)), none⟩,
 ⟨some 25, .mv (.t 53), none⟩] [0, 1, 5, 6, 24, 25]))))
/-- garment/natural.Add -/
def F59 : AFun :=
(⟨
(.seq
 (.region [⟨some 4, .mv (.c (.ints .u32 [])), none⟩] [0, 1])
(.seq
 (.region [⟨some 8, .mv (.t 0), none⟩,
 ⟨some 9, .call 61 [((.t 8), .pure)] 1 false, none⟩,
 ⟨some 10, .mv (.t 1), none⟩,
 ⟨some 11, .call 61 [((.t 10), .pure)] 1 false, none⟩,
 ⟨some 0, .mv (.t 9), none⟩,
 ⟨some 1, .mv (.t 11), none⟩] [0, 1])
(.seq
 (.seq
 (.region [⟨some 12, .mv (.t 0), none⟩,
 ⟨some 13, .len (.t 12), none⟩,
 ⟨some 14, .mv (.t 1), none⟩,
 ⟨some 15, .len (.t 14), none⟩,
 ⟨some 16, .bin .lss (.t 13) (.t 15), none⟩] [0, 1, 16])
 (.cond (.t 16)
 (.region [⟨some 17, .mv (.t 1), none⟩,
 ⟨some 18, .mv (.t 0), none⟩,
 ⟨some 0, .mv (.t 17), none⟩,
 ⟨some 1, .mv (.t 18), none⟩] [0, 1])
 .skip))
(.seq
 (.region [⟨some 19, .mv (.t 0), none⟩,
 ⟨some 20, .len (.t 19), none⟩,
 ⟨some 21, .bin .add (.t 20) (.c (.int .i64 1)), none⟩,
 ⟨some 22, .mkslice 1 (some .u32) (.bool false) (.c (.int .i64 0)) (.t 21), none⟩,
 ⟨some 5, .mv (.t 22), none⟩] [0, 1, 5])
(.seq
 (.region [⟨some 6, .mv (.c (.int .u64 0)), none⟩] [0, 1, 5, 6])
(.seq
 (.seq
 (.region [⟨some 23, .mv (.t 0), none⟩,
 ⟨some 24, .len (.t 23), none⟩,
 ⟨some 25, .mv (.c (.int .i64 0)), none⟩] [0, 1, 5, 6, 24, 25])
 (.block 0
 (.loop F59C0 F59L0)))
(.seq
 (.seq
 (.region [⟨some 54, .mv (.t 6), none⟩,
 ⟨some 55, .bin .gtr (.t 54) (.c (.int .u64 0)), none⟩] [5, 6, 55])
 (.cond (.t 55)
 (.region [⟨some 56, .mv (.t 5), none⟩,
 ⟨some 57, .mv (.t 6), none⟩,
 ⟨some 58, .conv (.int .u32) (.t 57), none⟩,
 ⟨some 59, .bslice 1 (some .u32) [(.t 58)], none⟩,
 ⟨some 60, .append 1 (some .u32) (.t 56) (.t 59), none⟩,
 ⟨some 5, .mv (.t 60), none⟩] [5])
 .skip))
(.seq
 (.region [⟨some 61, .mv (.t 5), none⟩,
 ⟨some 4, .mv (.t 61), none⟩] [4])
.ret)))))))),
[.tmp 4]⟩ : AFun)
theorem tr59 : trFun Try.prog F59 Try.f59 = some F59 := by kernel_rfl
/-- garment/natural.Sub -/
def F60 : AFun :=
(⟨
(.seq
 (.region [⟨some 4, .mv (.c (.ints .u32 [])), none⟩,
 ⟨some 5, .mv (.c (.bool false)), none⟩] [0, 1])
(.seq
 (.seq
 (.region [⟨some 6, .mv (.t 0), none⟩,
 ⟨some 7, .mv (.t 1), none⟩,
 ⟨some 8, .call 57 [((.t 6), .pure), ((.t 7), .pure)] 1 false, none⟩,
 ⟨some 9, .bin .lss (.t 8) (.c (.int .i64 0)), none⟩] [0, 1, 9])
 (.cond (.t 9)
 (.seq
 (.region [⟨some 4, .mv (.c (.ints .u32 [])), none⟩,
 ⟨some 5, .mv (.c (.bool false)), none⟩] [4, 5])
 .ret)
 .skip))
(.seq
 (.region [⟨some 10, .mv (.t 0), none⟩,
 ⟨some 11, .call 51 [((.t 10), .pure)] 1 true, none⟩,
 ⟨some 12, .mv (.t 1), none⟩,
 ⟨some 13, .call 61 [((.t 12), .pure)] 1 false, none⟩,
 ⟨some 14, .call 64 [((.t 11), .own), ((.t 13), .pure)] 1 false, none⟩,
 ⟨some 4, .mv (.t 14), none⟩,
 ⟨some 5, .mv (.c (.bool true)), none⟩] [4, 5])
.ret))),
[.tmp 4, .tmp 5]⟩ : AFun)
theorem tr60 : trFun Try.prog F60 Try.f60 = some F60 := by kernel_rfl
def F61C0 : Canon := ⟨[(0, none), (3, none)], []⟩
def F61L0 : ACode := (.seq
 (.seq
 (.region [⟨some 6, .mv (.t 3), none⟩,
 ⟨some 7, .bin .gtr (.t 6) (.c (.int .i64 0)), none⟩,
 ⟨some 8, .mv (.t 7), none⟩,
 ⟨some 9, .mv (.t 0), some (8, true)⟩,
 ⟨some 10, .mv (.t 3), some (8, true)⟩,
 ⟨some 11, .bin .sub (.t 10) (.c (.int .i64 1)), some (8, true)⟩,
 ⟨some 12, .iaddr 1 (.t 9) (.t 11), some (8, true)⟩,
 ⟨some 13, .load 1 false (.t 12), some (8, true)⟩,
 ⟨some 14, .bin .eql (.t 13) (.c (.int .u32 0)), some (8, true)⟩,
 ⟨some 15, .pick (.t 8) (.t 14) (.c (.bool false)), none⟩] [0, 3, 15])
 (.cond (.t 15)
 .skip
 (.exit 0)))
 (.block 1
 (.region [⟨some 16, .mv (.t 3), none⟩,
 ⟨some 17, .bin .sub (.t 16) (.c (.int .i64 1)), none⟩,
 ⟨some 3, .mv (.t 17), none⟩] [0, 3])))
/-- garment/natural.trim -/
def F61 : AFun :=
(⟨
(.seq
 (.region [⟨some 2, .mv (.c (.ints .u32 [])), none⟩] [0])
(.seq
 (.region [⟨some 4, .mv (.t 0), none⟩,
 ⟨some 5, .len (.t 4), none⟩,
 ⟨some 3, .mv (.t 5), none⟩] [0, 3])
(.seq
 (.block 0
 (.loop F61C0 F61L0))
(.seq
 (.region [⟨some 18, .mv (.t 0), none⟩,
 ⟨some 19, .mv (.t 3), none⟩,
 ⟨some 20, .slice 1 (.t 18) none (some (.t 19)), none⟩,
 ⟨some 2, .mv (.t 20), none⟩] [2])
.ret)))),
[.tmp 2]⟩ : AFun)
theorem tr61 : trFun Try.prog F61 Try.f61 = some F61 := by kernel_rfl
def F100061C0 : Canon := ⟨[(0, some ⟨0, 1, (some .u32)⟩), (3, none)], []⟩
def F100061L0 : ACode := (.seq
 (.seq
 (.region [⟨some 6, .mv (.t 3), none⟩,
 ⟨some 7, .bin .gtr (.t 6) (.c (.int .i64 0)), none⟩,
 ⟨some 8, .mv (.t 7), none⟩,
 ⟨some 9, .mv (.t 0), some (8, true)⟩,
 ⟨some 10, .mv (.t 3), some (8, true)⟩,
 ⟨some 11, .bin .sub (.t 10) (.c (.int .i64 1)), some (8, true)⟩,
 ⟨some 12, .iaddr 1 (.t 9) (.t 11), some (8, true)⟩,
 ⟨some 13, .load 1 false (.t 12), some (8, true)⟩,
 ⟨some 14, .bin .eql (.t 13) (.c (.int .u32 0)), some (8, true)⟩,
 ⟨some 15, .pick (.t 8) (.t 14) (.c (.bool false)), none⟩] [0, 3, 15])
 (.cond (.t 15)
 .skip
 (.exit 0)))
 (.block 1
 (.region [⟨some 16, .mv (.t 3), none⟩,
 ⟨some 17, .bin .sub (.t 16) (.c (.int .i64 1)), none⟩,
 ⟨some 3, .mv (.t 17), none⟩] [0, 3])))
/-- garment/natural.trim -/
def F100061 : AFun :=
(⟨
(.seq
 (.region [⟨some 2, .mv (.c (.ints .u32 [])), none⟩] [0])
(.seq
 (.region [⟨some 4, .mv (.t 0), none⟩,
 ⟨some 5, .len (.t 4), none⟩,
 ⟨some 3, .mv (.t 5), none⟩] [0, 3])
(.seq
 (.block 0
 (.loop F100061C0 F100061L0))
(.seq
 (.region [⟨some 18, .mv (.t 0), none⟩,
 ⟨some 19, .mv (.t 3), none⟩,
 ⟨some 20, .slice 1 (.t 18) none (some (.t 19)), none⟩,
 ⟨some 2, .mv (.t 20), none⟩] [2])
.ret)))),
[.tmp 2]⟩ : AFun)
theorem tr100061 : trFun Try.prog F100061 Try.f61 = some F100061 := by kernel_rfl
def F62C0 : Canon := ⟨[(0, none), (1, none), (6, some ⟨6, 1, (some .u32)⟩), (7, none), (8, none)], []⟩
def F62L0 : ACode := (.seq
 (.seq
 (.region [⟨some 15, .mv (.t 8), none⟩,
 ⟨some 16, .bin .geq (.t 15) (.c (.int .i64 0)), none⟩] [0, 1, 6, 7, 8, 16])
 (.cond (.t 16)
 .skip
 (.exit 0)))
 (.seq
 (.block 1
 (.seq
 (.region [⟨some 19, .mv (.t 7), none⟩,
 ⟨some 20, .bin .shl (.t 19) (.c (.int .u64 32)), none⟩,
 ⟨some 21, .mv (.t 0), none⟩,
 ⟨some 22, .mv (.t 8), none⟩,
 ⟨some 23, .iaddr 1 (.t 21) (.t 22), none⟩,
 ⟨some 24, .load 1 false (.t 23), none⟩,
 ⟨some 25, .conv (.int .u64) (.t 24), none⟩,
 ⟨some 26, .bin .or (.t 20) (.t 25), none⟩,
 ⟨some 7, .mv (.t 26), none⟩] [0, 1, 6, 7, 8])
 (.seq
 (.region [⟨some 27, .mv (.t 6), none⟩,
 ⟨some 28, .mv (.t 8), none⟩,
 ⟨some 29, .mv (.t 7), none⟩,
 ⟨some 30, .mv (.t 1), none⟩,
 ⟨some 31, .conv (.int .u64) (.t 30), none⟩,
 ⟨some 32, .bin .quo (.t 29) (.t 31), none⟩,
 ⟨some 33, .conv (.int .u32) (.t 32), none⟩,
 ⟨some 34, .iaddr 1 (.t 27) (.t 28), none⟩,
 ⟨none, .store 1 (.t 34) (.t 33), none⟩] [0, 1, 6, 7, 8])
 (.region [⟨some 35, .mv (.t 7), none⟩,
 ⟨some 36, .mv (.t 1), none⟩,
 ⟨some 37, .conv (.int .u64) (.t 36), none⟩,
 ⟨some 38, .bin .rem (.t 35) (.t 37), none⟩,
 ⟨some 7, .mv (.t 38), none⟩] [0, 1, 6, 7, 8]))))
 (.region [⟨some 17, .mv (.t 8), none⟩,
 ⟨some 18, .bin .sub (.t 17) (.c (.int .i64 1)), none⟩,
 ⟨some 8, .mv (.t 18), none⟩] [0, 1, 6, 7, 8])))
/-- garment/natural.small -/
def F62 : AFun :=
(⟨
(.seq
 (.region [⟨some 4, .mv (.c (.ints .u32 [])), none⟩,
 ⟨some 5, .mv (.c (.int .u32 0)), none⟩] [0, 1])
(.seq
 (.region [⟨some 9, .mv (.t 0), none⟩,
 ⟨some 10, .len (.t 9), none⟩,
 ⟨some 11, .mkslice 1 (some .u32) (.bool false) (.t 10) (.t 10), none⟩,
 ⟨some 6, .mv (.t 11), none⟩] [0, 1, 6])
(.seq
 (.region [⟨some 7, .mv (.c (.int .u64 0)), none⟩] [0, 1, 6, 7])
(.seq
 (.seq
 (.region [⟨some 12, .mv (.t 0), none⟩,
 ⟨some 13, .len (.t 12), none⟩,
 ⟨some 14, .bin .sub (.t 13) (.c (.int .i64 1)), none⟩,
 ⟨some 8, .mv (.t 14), none⟩] [0, 1, 6, 7, 8])
 (.block 0
 (.loop F62C0 F62L0)))
(.seq
 (.region [⟨some 39, .mv (.t 6), none⟩,
 ⟨some 40, .call 61 [((.t 39), .pure)] 1 false, none⟩,
 ⟨some 41, .mv (.t 7), none⟩,
 ⟨some 42, .conv (.int .u32) (.t 41), none⟩,
 ⟨some 4, .mv (.t 40), none⟩,
 ⟨some 5, .mv (.t 42), none⟩] [4, 5])
.ret))))),
[.tmp 4, .tmp 5]⟩ : AFun)
theorem tr62 : trFun Try.prog F62 Try.f62 = some F62 := by kernel_rfl
/-- garment/natural.size -/
def F63 : AFun :=
(⟨
(.seq
 (.region [⟨some 2, .mv (.c (.int .i64 0)), none⟩] [0])
(.seq
 (.region [⟨some 3, .mv (.t 0), none⟩,
 ⟨some 4, .call 61 [((.t 3), .pure)] 1 false, none⟩,
 ⟨some 0, .mv (.t 4), none⟩] [0])
(.seq
 (.seq
 (.region [⟨some 5, .mv (.t 0), none⟩,
 ⟨some 6, .len (.t 5), none⟩,
 ⟨some 7, .bin .eql (.t 6) (.c (.int .i64 0)), none⟩] [0, 7])
 (.cond (.t 7)
 (.seq
 (.region [⟨some 2, .mv (.c (.int .i64 0)), none⟩] [2])
 .ret)
 .skip))
(.seq
 (.region [⟨some 8, .mv (.t 0), none⟩,
 ⟨some 9, .len (.t 8), none⟩,
 ⟨some 10, .bin .sub (.t 9) (.c (.int .i64 1)), none⟩,
 ⟨some 11, .bin .mul (.c (.int .i64 32)) (.t 10), none⟩,
 ⟨some 12, .mv (.t 0), none⟩,
 ⟨some 13, .mv (.t 0), none⟩,
 ⟨some 14, .len (.t 13), none⟩,
 ⟨some 15, .bin .sub (.t 14) (.c (.int .i64 1)), none⟩,
 ⟨some 16, .iaddr 1 (.t 12) (.t 15), none⟩,
 ⟨some 17, .load 1 false (.t 16), none⟩,
 ⟨some 18, .call 73 [((.t 17), .pure)] 1 false, none⟩,
 ⟨some 19, .bin .add (.t 11) (.t 18), none⟩,
 ⟨some 2, .mv (.t 19), none⟩] [2])
.ret)))),
[.tmp 2]⟩ : AFun)
theorem tr63 : trFun Try.prog F63 Try.f63 = some F63 := by kernel_rfl
def F64C0 : Canon := ⟨[(0, some ⟨0, 1, (some .u32)⟩), (1, none), (5, none), (9, none), (10, none)], []⟩
def F64L0 : ACode := (.seq
 (.region [⟨some 11, .bin .lss (.t 10) (.t 9), none⟩] [0, 1, 5, 9, 10, 11])
 (.seq
 (.cond (.t 11)
 .skip
 (.exit 0))
 (.seq
 (.block 1
 (.seq
 (.region [⟨some 12, .mv (.t 10), none⟩,
 ⟨some 6, .mv (.t 12), none⟩] [0, 1, 5, 6, 9, 10])
 (.seq
 (.region [⟨some 13, .mv (.t 0), none⟩,
 ⟨some 14, .mv (.t 6), none⟩,
 ⟨some 15, .iaddr 1 (.t 13) (.t 14), none⟩,
 ⟨some 16, .load 1 false (.t 15), none⟩,
 ⟨some 17, .conv (.int .u64) (.t 16), none⟩,
 ⟨some 18, .mv (.t 5), none⟩,
 ⟨some 19, .bin .sub (.t 17) (.t 18), none⟩,
 ⟨some 7, .mv (.t 19), none⟩] [0, 1, 6, 7, 9, 10])
 (.seq
 (.seq
 (.region [⟨some 20, .mv (.t 6), none⟩,
 ⟨some 21, .mv (.t 1), none⟩,
 ⟨some 22, .len (.t 21), none⟩,
 ⟨some 23, .bin .lss (.t 20) (.t 22), none⟩] [0, 1, 6, 7, 9, 10, 23])
 (.cond (.t 23)
 (.region [⟨some 24, .mv (.t 7), none⟩,
 ⟨some 25, .mv (.t 1), none⟩,
 ⟨some 26, .mv (.t 6), none⟩,
 ⟨some 27, .iaddr 1 (.t 25) (.t 26), none⟩,
 ⟨some 28, .load 1 false (.t 27), none⟩,
 ⟨some 29, .conv (.int .u64) (.t 28), none⟩,
 ⟨some 30, .bin .sub (.t 24) (.t 29), none⟩,
 ⟨some 7, .mv (.t 30), none⟩] [0, 1, 6, 7, 9, 10])
 .skip))
 (.seq
 (.region [⟨some 31, .mv (.t 0), none⟩,
 ⟨some 32, .mv (.t 6), none⟩,
 ⟨some 33, .mv (.t 7), none⟩,
 ⟨some 34, .conv (.int .u32) (.t 33), none⟩,
 ⟨some 35, .iaddr 1 (.t 31) (.t 32), none⟩,
 ⟨none, .store 1 (.t 35) (.t 34), none⟩] [0, 1, 7, 9, 10])
 (.region [⟨some 36, .mv (.t 7), none⟩,
 ⟨some 37, .bin .shr (.t 36) (.c (.int .u64 63)), none⟩,
 ⟨some 5, .mv (.t 37), none⟩] [0, 1, 5, 9, 10]))))))
 (.region [⟨some 38, .bin .add (.t 10) (.c (.int .i64 1)), none⟩,
 ⟨some 10, .mv (.t 38), none⟩] [0, 1, 5, 9, 10]))))
/-- garment/natural.less -/
def F64 : AFun :=
(⟨
(.seq
 (.region [⟨some 4, .mv (.c (.ints .u32 [])), none⟩] [0, 1])
(.seq
 (.region [⟨some 5, .mv (.c (.int .u64 0)), none⟩] [0, 1, 5])
(.seq
 (.seq
 (.region [⟨some 8, .mv (.t 0), none⟩,
 ⟨some 9, .len (.t 8), none⟩,
 ⟨some 10, .mv (.c (.int .i64 0)), none⟩] [0, 1, 5, 9, 10])
 (.block 0
 (.loop F64C0 F64L0)))
(.seq
 (.region [⟨some 39, .mv (.t 0), none⟩,
 ⟨some 40, .call 100061 [((.t 39), .own)] 1 true, none⟩,
 ⟨some 4, .mv (.t 40), none⟩] [4])
.ret)))),
[.tmp 4]⟩ : AFun)
theorem tr64 : trFun Try.prog F64 Try.f64 = some F64 := by kernel_rfl
def F65C0 : Canon := ⟨[(4, none), (5, none)], []⟩
def F65L0 : ACode := (.seq
 (.seq
 (.region [⟨some 21, .mv (.t 5), none⟩,
 ⟨some 22, .bin .gtr (.t 21) (.c (.int .u32 0)), none⟩] [4, 5, 22])
 (.cond (.t 22)
 .skip
 (.exit 0)))
 (.seq
 (.block 1
 (.region [⟨some 25, .mv (.t 4), none⟩,
 ⟨some 26, .bin .add (.t 25) (.c (.int .i64 1)), none⟩,
 ⟨some 4, .mv (.t 26), none⟩] [4, 5]))
 (.region [⟨some 23, .mv (.t 5), none⟩,
 ⟨some 24, .bin .quo (.t 23) (.c (.int .u32 2)), none⟩,
 ⟨some 5, .mv (.t 24), none⟩] [4, 5])))
/-- garment/garmentref01.Bits -/
def F65 : AFun :=
(⟨
(.seq
 (.region [⟨some 2, .mv (.c (.int .i64 0)), none⟩] [0])
(.seq
 (.region [⟨some 6, .mv (.t 0), none⟩,
 ⟨some 7, .call 42 [((.t 6), .pure)] 1 false, none⟩,
 ⟨some 3, .mv (.t 7), none⟩] [3])
(.seq
 (.seq
 (.region [⟨some 8, .mv (.t 3), none⟩,
 ⟨some 9, .len (.t 8), none⟩,
 ⟨some 10, .bin .eql (.t 9) (.c (.int .i64 0)), none⟩] [3, 10])
 (.cond (.t 10)
 (.seq
 (.region [⟨some 2, .mv (.c (.int .i64 0)), none⟩] [2])
 .ret)
 .skip))
(.seq
 (.region [⟨some 11, .mv (.t 3), none⟩,
 ⟨some 12, .len (.t 11), none⟩,
 ⟨some 13, .bin .sub (.t 12) (.c (.int .i64 1)), none⟩,
 ⟨some 14, .bin .mul (.c (.int .i64 32)) (.t 13), none⟩,
 ⟨some 4, .mv (.t 14), none⟩] [3, 4])
(.seq
 (.seq
 (.region [⟨some 15, .mv (.t 3), none⟩,
 ⟨some 16, .mv (.t 3), none⟩,
 ⟨some 17, .len (.t 16), none⟩,
 ⟨some 18, .bin .sub (.t 17) (.c (.int .i64 1)), none⟩,
 ⟨some 19, .iaddr 1 (.t 15) (.t 18), none⟩,
 ⟨some 20, .load 1 false (.t 19), none⟩,
 ⟨some 5, .mv (.t 20), none⟩] [4, 5])
 (.block 0
 (.loop F65C0 F65L0)))
(.seq
 (.region [⟨some 27, .mv (.t 4), none⟩,
 ⟨some 2, .mv (.t 27), none⟩] [2])
.ret)))))),
[.tmp 2]⟩ : AFun)
theorem tr65 : trFun Try.prog F65 Try.f65 = some F65 := by kernel_rfl
def F66C0 : Canon := ⟨[(0, none), (1, none), (5, some ⟨5, 1, (some .u32)⟩), (6, none), (7, none)], []⟩
def F66L0 : ACode := (.seq
 (.seq
 (.region [⟨some 12, .mv (.t 7), none⟩,
 ⟨some 13, .mv (.t 0), none⟩,
 ⟨some 14, .len (.t 13), none⟩,
 ⟨some 15, .bin .leq (.t 12) (.t 14), none⟩] [0, 1, 5, 6, 7, 15])
 (.cond (.t 15)
 .skip
 (.exit 0)))
 (.seq
 (.block 1
 (.seq
 (.region [⟨some 18, .mv (.t 0), none⟩,
 ⟨some 19, .mv (.t 7), none⟩,
 ⟨some 20, .call 68 [((.t 18), .pure), ((.t 19), .pure)] 1 false, none⟩,
 ⟨some 21, .mv (.t 1), none⟩,
 ⟨some 22, .bin .rem (.t 21) (.c (.int .i64 32)), none⟩,
 ⟨some 23, .conv (.int .u64) (.t 22), none⟩,
 ⟨some 24, .bin .shl (.t 20) (.t 23), none⟩,
 ⟨some 25, .mv (.t 6), none⟩,
 ⟨some 26, .bin .add (.t 24) (.t 25), none⟩,
 ⟨some 8, .mv (.t 26), none⟩] [0, 1, 5, 7, 8])
 (.seq
 (.region [⟨some 27, .mv (.t 5), none⟩,
 ⟨some 28, .mv (.t 8), none⟩,
 ⟨some 29, .bin .rem (.t 28) (.c (.int .u64 4294967296)), none⟩,
 ⟨some 30, .conv (.int .u32) (.t 29), none⟩,
 ⟨some 31, .bslice 1 (some .u32) [(.t 30)], none⟩,
 ⟨some 32, .append 1 (some .u32) (.t 27) (.t 31), none⟩,
 ⟨some 5, .mv (.t 32), none⟩] [0, 1, 5, 7, 8])
 (.region [⟨some 33, .mv (.t 8), none⟩,
 ⟨some 34, .bin .quo (.t 33) (.c (.int .u64 4294967296)), none⟩,
 ⟨some 6, .mv (.t 34), none⟩] [0, 1, 5, 6, 7]))))
 (.region [⟨some 16, .mv (.t 7), none⟩,
 ⟨some 17, .bin .add (.t 16) (.c (.int .i64 1)), none⟩,
 ⟨some 7, .mv (.t 17), none⟩] [0, 1, 5, 6, 7])))
/-- garment/garmentref01.Shift -/
def F66 : AFun :=
(⟨
(.seq
 (.region [⟨some 4, .mv (.c (.ints .u32 [])), none⟩] [0, 1])
(.seq
 (.region [⟨some 9, .mv (.t 1), none⟩,
 ⟨some 10, .bin .quo (.t 9) (.c (.int .i64 32)), none⟩,
 ⟨some 11, .mkslice 1 (some .u32) (.bool false) (.t 10) (.t 10), none⟩,
 ⟨some 5, .mv (.t 11), none⟩] [0, 1, 5])
(.seq
 (.region [⟨some 6, .mv (.c (.int .u64 0)), none⟩] [0, 1, 5, 6])
(.seq
 (.seq
 (.region [⟨some 7, .mv (.c (.int .i64 0)), none⟩] [0, 1, 5, 6, 7])
 (.block 0
 (.loop F66C0 F66L0)))
(.seq
 (.region [⟨some 35, .mv (.t 5), none⟩,
 ⟨some 36, .call 42 [((.t 35), .pure)] 1 true, none⟩,
 ⟨some 4, .mv (.t 36), none⟩] [4])
.ret))))),
[.tmp 4]⟩ : AFun)
theorem tr66 : trFun Try.prog F66 Try.f66 = some F66 := by kernel_rfl
def F67C0 : Canon := ⟨[(0, none), (3, some ⟨3, 1, (some .u32)⟩), (4, none)], []⟩
def F67L0 : ACode := (.seq
 (.seq
 (.region [⟨some 5, .mv (.t 4), none⟩,
 ⟨some 6, .mv (.t 0), none⟩,
 ⟨some 7, .len (.t 6), none⟩,
 ⟨some 8, .bin .lss (.t 5) (.t 7), none⟩] [0, 3, 4, 8])
 (.cond (.t 8)
 .skip
 (.exit 0)))
 (.seq
 (.block 1
 (.region [⟨some 11, .mv (.t 3), none⟩,
 ⟨some 12, .mv (.t 0), none⟩,
 ⟨some 13, .mv (.t 4), none⟩,
 ⟨some 14, .call 68 [((.t 12), .pure), ((.t 13), .pure)] 1 false, none⟩,
 ⟨some 15, .bin .quo (.t 14) (.c (.int .u64 2)), none⟩,
 ⟨some 16, .mv (.t 0), none⟩,
 ⟨some 17, .mv (.t 4), none⟩,
 ⟨some 18, .bin .add (.t 17) (.c (.int .i64 1)), none⟩,
 ⟨some 19, .call 68 [((.t 16), .pure), ((.t 18), .pure)] 1 false, none⟩,
 ⟨some 20, .bin .rem (.t 19) (.c (.int .u64 2)), none⟩,
 ⟨some 21, .bin .mul (.t 20) (.c (.int .u64 2147483648)), none⟩,
 ⟨some 22, .bin .add (.t 15) (.t 21), none⟩,
 ⟨some 23, .conv (.int .u32) (.t 22), none⟩,
 ⟨some 24, .bslice 1 (some .u32) [(.t 23)], none⟩,
 ⟨some 25, .append 1 (some .u32) (.t 11) (.t 24), none⟩,
 ⟨some 3, .mv (.t 25), none⟩] [0, 3, 4]))
 (.region [⟨some 9, .mv (.t 4), none⟩,
 ⟨some 10, .bin .add (.t 9) (.c (.int .i64 1)), none⟩,
 ⟨some 4, .mv (.t 10), none⟩] [0, 3, 4])))
/-- garment/garmentref01.Half -/
def F67 : AFun :=
(⟨
(.seq
 (.region [⟨some 2, .mv (.c (.ints .u32 [])), none⟩] [0])
(.seq
 (.region [⟨some 3, .mv (.c .nil), none⟩] [0, 3])
(.seq
 (.seq
 (.region [⟨some 4, .mv (.c (.int .i64 0)), none⟩] [0, 3, 4])
 (.block 0
 (.loop F67C0 F67L0)))
(.seq
 (.region [⟨some 26, .mv (.t 3), none⟩,
 ⟨some 27, .call 42 [((.t 26), .pure)] 1 true, none⟩,
 ⟨some 2, .mv (.t 27), none⟩] [2])
.ret)))),
[.tmp 2]⟩ : AFun)
theorem tr67 : trFun Try.prog F67 Try.f67 = some F67 := by kernel_rfl
/-- garment/garmentref01.limb -/
def F68 : AFun :=
(⟨
(.seq
 (.region [⟨some 4, .mv (.c (.int .u64 0)), none⟩] [0, 1])
(.seq
 (.seq
 (.region [⟨some 5, .mv (.t 1), none⟩,
 ⟨some 6, .bin .lss (.t 5) (.c (.int .i64 0)), none⟩,
 ⟨some 7, .mv (.t 6), none⟩,
 ⟨some 8, .mv (.t 1), some (7, false)⟩,
 ⟨some 9, .mv (.t 0), some (7, false)⟩,
 ⟨some 10, .len (.t 9), some (7, false)⟩,
 ⟨some 11, .bin .geq (.t 8) (.t 10), some (7, false)⟩,
 ⟨some 12, .pick (.t 7) (.c (.bool true)) (.t 11), none⟩] [0, 1, 12])
 (.cond (.t 12)
 (.seq
 (.region [⟨some 4, .mv (.c (.int .u64 0)), none⟩] [4])
 .ret)
 .skip))
(.seq
 (.region [⟨some 13, .mv (.t 0), none⟩,
 ⟨some 14, .mv (.t 1), none⟩,
 ⟨some 15, .iaddr 1 (.t 13) (.t 14), none⟩,
 ⟨some 16, .load 1 false (.t 15), none⟩,
 ⟨some 17, .conv (.int .u64) (.t 16), none⟩,
 ⟨some 4, .mv (.t 17), none⟩] [4])
.ret))),
[.tmp 4]⟩ : AFun)
theorem tr68 : trFun Try.prog F68 Try.f68 = some F68 := by kernel_rfl
/-- internal/stringslite.CutPrefix -/
def F69 : AFun :=
(⟨
(.seq
 (.region [⟨some 4, .mv (.c (.str [])), none⟩,
 ⟨some 5, .mv (.c (.bool false)), none⟩] [0, 1])
(.seq
 (.seq
 (.region [⟨some 6, .mv (.t 0), none⟩,
 ⟨some 7, .mv (.t 1), none⟩,
 ⟨some 8, .call 74 [((.t 6), .pure), ((.t 7), .pure)] 1 false, none⟩,
 ⟨some 9, .un .not (.t 8), none⟩] [0, 1, 9])
 (.cond (.t 9)
 (.seq
 (.region [⟨some 10, .mv (.t 0), none⟩,
 ⟨some 4, .mv (.t 10), none⟩,
 ⟨some 5, .mv (.c (.bool false)), none⟩] [4, 5])
 .ret)
 .skip))
(.seq
 (.region [⟨some 11, .mv (.t 0), none⟩,
 ⟨some 12, .mv (.t 1), none⟩,
 ⟨some 13, .slen (.t 12), none⟩,
 ⟨some 14, .sslice (.t 11) (some (.t 13)) none, none⟩,
 ⟨some 4, .mv (.t 14), none⟩,
 ⟨some 5, .mv (.c (.bool true)), none⟩] [4, 5])
.ret))),
[.tmp 4, .tmp 5]⟩ : AFun)
theorem tr69 : trFun Try.prog F69 Try.f69 = some F69 := by kernel_rfl
def F70C0 : Canon := ⟨[(0, none), (3, none)], []⟩
def F70L0 : ACode := (.seq
 (.seq
 (.region [⟨some 4, .mv (.t 3), none⟩,
 ⟨some 5, .mv (.t 0), none⟩,
 ⟨some 6, .slen (.t 5), none⟩,
 ⟨some 7, .bin .lss (.t 4) (.t 6), none⟩] [0, 3, 7])
 (.cond (.t 7)
 .skip
 (.exit 0)))
 (.seq
 (.block 1
 (.seq
 (.region [⟨some 10, .mv (.t 0), none⟩,
 ⟨some 11, .mv (.t 3), none⟩,
 ⟨some 12, .sidx (.t 10) (.t 11), none⟩,
 ⟨some 13, .bin .lss (.t 12) (.c (.int .u8 48)), none⟩,
 ⟨some 14, .mv (.t 13), none⟩,
 ⟨some 15, .mv (.t 0), some (14, false)⟩,
 ⟨some 16, .mv (.t 3), some (14, false)⟩,
 ⟨some 17, .sidx (.t 15) (.t 16), some (14, false)⟩,
 ⟨some 18, .bin .gtr (.t 17) (.c (.int .u8 57)), some (14, false)⟩,
 ⟨some 19, .pick (.t 14) (.c (.bool true)) (.t 18), none⟩] [0, 3, 19])
 (.cond (.t 19)
 (.seq
 (.region [⟨some 2, .mv (.c (.bool false)), none⟩] [2])
 .ret)
 .skip)))
 (.region [⟨some 8, .mv (.t 3), none⟩,
 ⟨some 9, .bin .add (.t 8) (.c (.int .i64 1)), none⟩,
 ⟨some 3, .mv (.t 9), none⟩] [0, 3])))
/-- garment/garmentref01.Digits -/
def F70 : AFun :=
(⟨
(.seq
 (.region [⟨some 2, .mv (.c (.bool false)), none⟩] [0])
(.seq
 (.seq
 (.region [⟨some 3, .mv (.c (.int .i64 0)), none⟩] [0, 3])
 (.block 0
 (.loop F70C0 F70L0)))
(.seq
 (.region [⟨some 20, .mv (.t 0), none⟩,
 ⟨some 21, .slen (.t 20), none⟩,
 ⟨some 22, .bin .eql (.t 21) (.c (.int .i64 1)), none⟩,
 ⟨some 23, .mv (.t 22), none⟩,
 ⟨some 24, .mv (.t 0), some (23, false)⟩,
 ⟨some 25, .slen (.t 24), some (23, false)⟩,
 ⟨some 26, .bin .gtr (.t 25) (.c (.int .i64 1)), some (23, false)⟩,
 ⟨some 27, .mv (.t 26), some (23, false)⟩,
 ⟨some 28, .mv (.t 0), some (27, true)⟩,
 ⟨some 29, .sidx (.t 28) (.c (.int .i64 0)), some (27, true)⟩,
 ⟨some 30, .bin .neq (.t 29) (.c (.int .u8 48)), some (27, true)⟩,
 ⟨some 31, .pick (.t 27) (.t 30) (.c (.bool false)), some (23, false)⟩,
 ⟨some 32, .pick (.t 23) (.c (.bool true)) (.t 31), none⟩,
 ⟨some 2, .mv (.t 32), none⟩] [2])
.ret))),
[.tmp 2]⟩ : AFun)
theorem tr70 : trFun Try.prog F70 Try.f70 = some F70 := by kernel_rfl
def F71C0 : Canon := ⟨[(0, none), (3, some ⟨3, 1, (some .u32)⟩), (4, none)], []⟩
def F71L0 : ACode := (.seq
 (.seq
 (.region [⟨some 5, .mv (.t 4), none⟩,
 ⟨some 6, .mv (.t 0), none⟩,
 ⟨some 7, .slen (.t 6), none⟩,
 ⟨some 8, .bin .lss (.t 5) (.t 7), none⟩] [0, 3, 4, 8])
 (.cond (.t 8)
 .skip
 (.exit 0)))
 (.seq
 (.block 1
 (.dregion [⟨some 11, .mv (.t 3), none⟩,
 ⟨some 12, .call 44 [((.c (.int .u64 10)), .pure)] 1 false, none⟩,
 ⟨some 13, .call 48 [((.t 11), .pure), ((.t 12), .pure)] 1 false, none⟩,
 ⟨some 14, .mv (.t 0), none⟩,
 ⟨some 15, .mv (.t 4), none⟩,
 ⟨some 16, .sidx (.t 14) (.t 15), none⟩,
 ⟨some 17, .bin .sub (.t 16) (.c (.int .u8 48)), none⟩,
 ⟨some 18, .conv (.int .u64) (.t 17), none⟩,
 ⟨some 19, .call 44 [((.t 18), .pure)] 1 false, none⟩,
 ⟨some 20, .call 43 [((.t 13), .pure), ((.t 19), .pure)] 1 true, none⟩,
 ⟨some 3, .mv (.t 20), none⟩] [0, 3, 4] []))
 (.region [⟨some 9, .mv (.t 4), none⟩,
 ⟨some 10, .bin .add (.t 9) (.c (.int .i64 1)), none⟩,
 ⟨some 4, .mv (.t 10), none⟩] [0, 3, 4])))
/-- garment/garmentref01.Value -/
def F71 : AFun :=
(⟨
(.seq
 (.region [⟨some 2, .mv (.c (.ints .u32 [])), none⟩] [0])
(.seq
 (.region [⟨some 3, .mv (.c .nil), none⟩] [0, 3])
(.seq
 (.seq
 (.region [⟨some 4, .mv (.c (.int .i64 0)), none⟩] [0, 3, 4])
 (.block 0
 (.loop F71C0 F71L0)))
(.seq
 (.region [⟨some 21, .mv (.t 3), none⟩,
 ⟨some 2, .mv (.t 21), none⟩] [2])
.ret)))),
[.tmp 2]⟩ : AFun)
theorem tr71 : trFun Try.prog F71 Try.f71 = some F71 := by kernel_rfl
def F72C0 : Canon := ⟨[(0, none), (1, none), (6, some ⟨6, 1, (some .u32)⟩), (7, none), (8, none)], []⟩
def F72L0 : ACode := (.seq
 (.seq
 (.region [⟨some 16, .mv (.t 8), none⟩,
 ⟨some 17, .bin .geq (.t 16) (.c (.int .i64 0)), none⟩] [0, 1, 6, 7, 8, 17])
 (.cond (.t 17)
 .skip
 (.exit 0)))
 (.seq
 (.block 1
 (.seq
 (.region [⟨some 20, .mv (.t 7), none⟩,
 ⟨some 21, .bin .mul (.t 20) (.c (.int .u64 4294967296)), none⟩,
 ⟨some 22, .mv (.t 0), none⟩,
 ⟨some 23, .mv (.t 8), none⟩,
 ⟨some 24, .call 68 [((.t 22), .pure), ((.t 23), .pure)] 1 false, none⟩,
 ⟨some 25, .bin .add (.t 21) (.t 24), none⟩,
 ⟨some 9, .mv (.t 25), none⟩] [0, 1, 6, 8, 9])
 (.seq
 (.region [⟨some 26, .mv (.t 6), none⟩,
 ⟨some 27, .mv (.t 8), none⟩,
 ⟨some 28, .mv (.t 9), none⟩,
 ⟨some 29, .mv (.t 1), none⟩,
 ⟨some 30, .bin .quo (.t 28) (.t 29), none⟩,
 ⟨some 31, .conv (.int .u32) (.t 30), none⟩,
 ⟨some 32, .iaddr 1 (.t 26) (.t 27), none⟩,
 ⟨none, .store 1 (.t 32) (.t 31), none⟩] [0, 1, 6, 8, 9])
 (.region [⟨some 33, .mv (.t 9), none⟩,
 ⟨some 34, .mv (.t 1), none⟩,
 ⟨some 35, .bin .rem (.t 33) (.t 34), none⟩,
 ⟨some 7, .mv (.t 35), none⟩] [0, 1, 6, 7, 8]))))
 (.region [⟨some 18, .mv (.t 8), none⟩,
 ⟨some 19, .bin .sub (.t 18) (.c (.int .i64 1)), none⟩,
 ⟨some 8, .mv (.t 19), none⟩] [0, 1, 6, 7, 8])))
/-- garment/garmentref01.small -/
def F72 : AFun :=
(⟨
(.seq
 (.region [⟨some 4, .mv (.c (.ints .u32 [])), none⟩,
 ⟨some 5, .mv (.c (.int .u64 0)), none⟩] [0, 1])
(.seq
 (.region [⟨some 10, .mv (.t 0), none⟩,
 ⟨some 11, .len (.t 10), none⟩,
 ⟨some 12, .mkslice 1 (some .u32) (.bool false) (.t 11) (.t 11), none⟩,
 ⟨some 6, .mv (.t 12), none⟩] [0, 1, 6])
(.seq
 (.region [⟨some 7, .mv (.c (.int .u64 0)), none⟩] [0, 1, 6, 7])
(.seq
 (.seq
 (.region [⟨some 13, .mv (.t 0), none⟩,
 ⟨some 14, .len (.t 13), none⟩,
 ⟨some 15, .bin .sub (.t 14) (.c (.int .i64 1)), none⟩,
 ⟨some 8, .mv (.t 15), none⟩] [0, 1, 6, 7, 8])
 (.block 0
 (.loop F72C0 F72L0)))
(.seq
 (.region [⟨some 36, .mv (.t 6), none⟩,
 ⟨some 37, .call 42 [((.t 36), .pure)] 1 false, none⟩,
 ⟨some 38, .mv (.t 7), none⟩,
 ⟨some 4, .mv (.t 37), none⟩,
 ⟨some 5, .mv (.t 38), none⟩] [4, 5])
.ret))))),
[.tmp 4, .tmp 5]⟩ : AFun)
theorem tr72 : trFun Try.prog F72 Try.f72 = some F72 := by kernel_rfl
def F73S0 : List UInt8 := [0, 1, 2, 2, 3, 3, 3, 3, 4, 4, 4, 4, 4, 4, 4, 4, 5, 5, 5, 5, 5, 5, 5, 5, 5, 5, 5, 5, 5, 5, 5, 5, 6, 6, 6, 6, 6, 6, 6, 6, 6, 6, 6, 6, 6, 6, 6, 6, 6, 6, 6, 6, 6, 6, 6, 6, 6, 6, 6, 6, 6, 6, 6, 6, 7, 7, 7, 7, 7, 7, 7, 7, 7, 7, 7, 7, 7, 7, 7, 7, 7, 7, 7, 7, 7, 7, 7, 7, 7, 7, 7, 7, 7, 7, 7, 7, 7, 7, 7, 7, 7, 7, 7, 7, 7, 7, 7, 7, 7, 7, 7, 7, 7, 7, 7, 7, 7, 7, 7, 7, 7, 7, 7, 7, 7, 7, 7, 7, 8, 8, 8, 8, 8, 8, 8, 8, 8, 8, 8, 8, 8, 8, 8, 8, 8, 8, 8, 8, 8, 8, 8, 8, 8, 8, 8, 8, 8, 8, 8, 8, 8, 8, 8, 8, 8, 8, 8, 8, 8, 8, 8, 8, 8, 8, 8, 8, 8, 8, 8, 8, 8, 8, 8, 8, 8, 8, 8, 8, 8, 8, 8, 8, 8, 8, 8, 8, 8, 8, 8, 8, 8, 8, 8, 8, 8, 8, 8, 8, 8, 8, 8, 8, 8, 8, 8, 8, 8, 8, 8, 8, 8, 8, 8, 8, 8, 8, 8, 8, 8, 8, 8, 8, 8, 8, 8, 8, 8, 8, 8, 8, 8, 8, 8, 8, 8, 8, 8, 8, 8, 8, 8, 8, 8, 8, 8, 8]
/-- math/bits.Len32 -/
def F73 : AFun :=
(⟨
(.seq
 (.region [⟨some 2, .mv (.c (.int .i64 0)), none⟩] [0, 2])
(.seq
 (.seq
 (.region [⟨some 3, .mv (.t 0), none⟩,
 ⟨some 4, .bin .geq (.t 3) (.c (.int .u32 65536)), none⟩] [0, 2, 4])
 (.cond (.t 4)
 (.seq
 (.region [⟨some 5, .mv (.t 0), none⟩,
 ⟨some 6, .bin .shr (.t 5) (.c (.int .u64 16)), none⟩,
 ⟨some 0, .mv (.t 6), none⟩] [0])
 (.region [⟨some 2, .mv (.c (.int .i64 16)), none⟩] [0, 2]))
 .skip))
(.seq
 (.seq
 (.region [⟨some 7, .mv (.t 0), none⟩,
 ⟨some 8, .bin .geq (.t 7) (.c (.int .u32 256)), none⟩] [0, 2, 8])
 (.cond (.t 8)
 (.seq
 (.region [⟨some 9, .mv (.t 0), none⟩,
 ⟨some 10, .bin .shr (.t 9) (.c (.int .u64 8)), none⟩,
 ⟨some 0, .mv (.t 10), none⟩] [0, 2])
 (.region [⟨some 11, .mv (.t 2), none⟩,
 ⟨some 12, .bin .add (.t 11) (.c (.int .i64 8)), none⟩,
 ⟨some 2, .mv (.t 12), none⟩] [0, 2]))
 .skip))
(.seq
 (.region [⟨some 13, .mv (.t 2), none⟩,
 ⟨some 14, .mv (.t 0), none⟩,
 ⟨some 15, .conv (.int .u8) (.t 14), none⟩,
 ⟨some 16, .sidx (.c (.str F73S0)) (.t 15), none⟩,
 ⟨some 17, .conv (.int .i64) (.t 16), none⟩,
 ⟨some 18, .bin .add (.t 13) (.t 17), none⟩,
 ⟨some 2, .mv (.t 18), none⟩] [2])
.ret)))),
[.tmp 2]⟩ : AFun)
theorem tr73 : trFun Try.prog F73 Try.f73 = some F73 := by kernel_rfl
/-- internal/stringslite.HasPrefix -/
def F74 : AFun :=
(⟨
(.seq
 (.region [⟨some 4, .mv (.c (.bool false)), none⟩] [0, 1])
(.seq
 (.region [⟨some 5, .mv (.t 0), none⟩,
 ⟨some 6, .slen (.t 5), none⟩,
 ⟨some 7, .mv (.t 1), none⟩,
 ⟨some 8, .slen (.t 7), none⟩,
 ⟨some 9, .bin .geq (.t 6) (.t 8), none⟩,
 ⟨some 10, .mv (.t 9), none⟩,
 ⟨some 11, .mv (.t 0), some (10, true)⟩,
 ⟨some 12, .mv (.t 1), some (10, true)⟩,
 ⟨some 13, .slen (.t 12), some (10, true)⟩,
 ⟨some 14, .sslice (.t 11) none (some (.t 13)), some (10, true)⟩,
 ⟨some 15, .mv (.t 1), some (10, true)⟩,
 ⟨some 16, .bin .eql (.t 14) (.t 15), some (10, true)⟩,
 ⟨some 17, .pick (.t 10) (.t 16) (.c (.bool false)), none⟩,
 ⟨some 4, .mv (.t 17), none⟩] [4])
.ret)),
[.tmp 4]⟩ : AFun)
theorem tr74 : trFun Try.prog F74 Try.f74 = some F74 := by kernel_rfl
/-- The table. -/
def tabL : List (Nat × AFun) :=
  [(3, F3), (4, F4), (5, F5), (6, F6), (7, F7), (8, F8), (9, F9), (10, F10), (11, F11), (12, F12), (13, F13), (14, F14), (15, F15), (16, F16), (17, F17), (18, F18), (19, F19), (20, F20), (21, F21), (22, F22), (23, F23), (24, F24), (25, F25), (26, F26), (27, F27), (28, F28), (29, F29), (30, F30), (31, F31), (32, F32), (33, F33), (34, F34), (35, F35), (36, F36), (37, F37), (38, F38), (39, F39), (40, F40), (41, F41), (42, F42), (43, F43), (44, F44), (45, F45), (46, F46), (47, F47), (48, F48), (49, F49), (50, F50), (51, F51), (52, F52), (53, F53), (54, F54), (55, F55), (56, F56), (57, F57), (58, F58), (59, F59), (60, F60), (61, F61), (100061, F100061), (62, F62), (63, F63), (64, F64), (65, F65), (66, F66), (67, F67), (68, F68), (69, F69), (70, F70), (71, F71), (72, F72), (73, F73), (74, F74)]
theorem mixed : Try.prog.follows .mixedOrders = true := by kernel_rfl
/-- No function lies outside. -/
def ext : Nat → Option (List Arg → Option (List AR)) := fun _ => none
theorem ext_ok : ExtOK Try.prog ext := fun _ _ h => by cases h
def tab (f : Nat) : Option AFun := tabL.lookup f
theorem tab3 : tab 3 = some F3 := rfl
theorem tab4 : tab 4 = some F4 := rfl
theorem tab5 : tab 5 = some F5 := rfl
theorem tab6 : tab 6 = some F6 := rfl
theorem tab7 : tab 7 = some F7 := rfl
theorem tab8 : tab 8 = some F8 := rfl
theorem tab9 : tab 9 = some F9 := rfl
theorem tab10 : tab 10 = some F10 := rfl
theorem tab11 : tab 11 = some F11 := rfl
theorem tab12 : tab 12 = some F12 := rfl
theorem tab13 : tab 13 = some F13 := rfl
theorem tab14 : tab 14 = some F14 := rfl
theorem tab15 : tab 15 = some F15 := rfl
theorem tab16 : tab 16 = some F16 := rfl
theorem tab17 : tab 17 = some F17 := rfl
theorem tab18 : tab 18 = some F18 := rfl
theorem tab19 : tab 19 = some F19 := rfl
theorem tab20 : tab 20 = some F20 := rfl
theorem tab21 : tab 21 = some F21 := rfl
theorem tab22 : tab 22 = some F22 := rfl
theorem tab23 : tab 23 = some F23 := rfl
theorem tab24 : tab 24 = some F24 := rfl
theorem tab25 : tab 25 = some F25 := rfl
theorem tab26 : tab 26 = some F26 := rfl
theorem tab27 : tab 27 = some F27 := rfl
theorem tab28 : tab 28 = some F28 := rfl
theorem tab29 : tab 29 = some F29 := rfl
theorem tab30 : tab 30 = some F30 := rfl
theorem tab31 : tab 31 = some F31 := rfl
theorem tab32 : tab 32 = some F32 := rfl
theorem tab33 : tab 33 = some F33 := rfl
theorem tab34 : tab 34 = some F34 := rfl
theorem tab35 : tab 35 = some F35 := rfl
theorem tab36 : tab 36 = some F36 := rfl
theorem tab37 : tab 37 = some F37 := rfl
theorem tab38 : tab 38 = some F38 := rfl
theorem tab39 : tab 39 = some F39 := rfl
theorem tab40 : tab 40 = some F40 := rfl
theorem tab41 : tab 41 = some F41 := rfl
theorem tab42 : tab 42 = some F42 := rfl
theorem tab43 : tab 43 = some F43 := rfl
theorem tab44 : tab 44 = some F44 := rfl
theorem tab45 : tab 45 = some F45 := rfl
theorem tab46 : tab 46 = some F46 := rfl
theorem tab47 : tab 47 = some F47 := rfl
theorem tab48 : tab 48 = some F48 := rfl
theorem tab49 : tab 49 = some F49 := rfl
theorem tab50 : tab 50 = some F50 := rfl
theorem tab51 : tab 51 = some F51 := rfl
theorem tab52 : tab 52 = some F52 := rfl
theorem tab53 : tab 53 = some F53 := rfl
theorem tab54 : tab 54 = some F54 := rfl
theorem tab55 : tab 55 = some F55 := rfl
theorem tab56 : tab 56 = some F56 := rfl
theorem tab57 : tab 57 = some F57 := rfl
theorem tab58 : tab 58 = some F58 := rfl
theorem tab59 : tab 59 = some F59 := rfl
theorem tab60 : tab 60 = some F60 := rfl
theorem tab61 : tab 61 = some F61 := rfl
theorem tab100061 : tab 100061 = some F100061 := rfl
theorem tab62 : tab 62 = some F62 := rfl
theorem tab63 : tab 63 = some F63 := rfl
theorem tab64 : tab 64 = some F64 := rfl
theorem tab65 : tab 65 = some F65 := rfl
theorem tab66 : tab 66 = some F66 := rfl
theorem tab67 : tab 67 = some F67 := rfl
theorem tab68 : tab 68 = some F68 := rfl
theorem tab69 : tab 69 = some F69 := rfl
theorem tab70 : tab 70 = some F70 := rfl
theorem tab71 : tab 71 = some F71 := rfl
theorem tab72 : tab 72 = some F72 := rfl
theorem tab73 : tab 73 = some F73 := rfl
theorem tab74 : tab 74 = some F74 := rfl
theorem tab_ok : TabOK Try.prog tab := tabOK_of (L := tabL) (fok_cons (Try.func3) tr3 <| fok_cons (Try.func4) tr4 <| fok_cons (Try.func5) tr5 <| fok_cons (Try.func6) tr6 <| fok_cons (Try.func7) tr7 <| fok_cons (Try.func8) tr8 <| fok_cons (Try.func9) tr9 <| fok_cons (Try.func10) tr10 <| fok_cons (Try.func11) tr11 <| fok_cons (Try.func12) tr12 <| fok_cons (Try.func13) tr13 <| fok_cons (Try.func14) tr14 <| fok_cons (Try.func15) tr15 <| fok_cons (Try.func16) tr16 <| fok_cons (Try.func17) tr17 <| fok_cons (Try.func18) tr18 <| fok_cons (Try.func19) tr19 <| fok_cons (Try.func20) tr20 <| fok_cons (Try.func21) tr21 <| fok_cons (Try.func22) tr22 <| fok_cons (Try.func23) tr23 <| fok_cons (Try.func24) tr24 <| fok_cons (Try.func25) tr25 <| fok_cons (Try.func26) tr26 <| fok_cons (Try.func27) tr27 <| fok_cons (Try.func28) tr28 <| fok_cons (Try.func29) tr29 <| fok_cons (Try.func30) tr30 <| fok_cons (Try.func31) tr31 <| fok_cons (Try.func32) tr32 <| fok_cons (Try.func33) tr33 <| fok_cons (Try.func34) tr34 <| fok_cons (Try.func35) tr35 <| fok_cons (Try.func36) tr36 <| fok_cons (Try.func37) tr37 <| fok_cons (Try.func38) tr38 <| fok_cons (Try.func39) tr39 <| fok_cons (Try.func40) tr40 <| fok_cons (Try.func41) tr41 <| fok_cons (Try.func42) tr42 <| fok_cons (Try.func43) tr43 <| fok_cons (Try.func44) tr44 <| fok_cons (Try.func45) tr45 <| fok_cons (Try.func46) tr46 <| fok_cons (Try.func47) tr47 <| fok_cons (Try.func48) tr48 <| fok_cons (Try.func49) tr49 <| fok_cons (Try.func50) tr50 <| fok_cons (Try.func51) tr51 <| fok_cons (Try.func52) tr52 <| fok_cons (Try.func53) tr53 <| fok_cons (Try.func54) tr54 <| fok_cons (Try.func55) tr55 <| fok_cons (Try.func56) tr56 <| fok_cons (Try.func57) tr57 <| fok_cons (Try.func58) tr58 <| fok_cons (Try.func59) tr59 <| fok_cons (Try.func60) tr60 <| fok_cons (Try.func61) tr61 <| fok_cons (Try.func61) tr100061 <| fok_cons (Try.func62) tr62 <| fok_cons (Try.func63) tr63 <| fok_cons (Try.func64) tr64 <| fok_cons (Try.func65) tr65 <| fok_cons (Try.func66) tr66 <| fok_cons (Try.func67) tr67 <| fok_cons (Try.func68) tr68 <| fok_cons (Try.func69) tr69 <| fok_cons (Try.func70) tr70 <| fok_cons (Try.func71) tr71 <| fok_cons (Try.func72) tr72 <| fok_cons (Try.func73) tr73 <| fok_cons (Try.func74) tr74 <| fok_nil)
end Go.Proofs.Ytkeipmkiilimeaa.V
