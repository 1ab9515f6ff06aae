/- The functions' abstract code, each checked against the program's. Part 3. No condition. -/
import Derived.Test.YtjhcempjiokfdaaGreatDoorAbs4
import Derived.Test.YtjhcempjiokfdaaGreatDoorCode1
import Derived.Test.YtjhcempjiokfdaaGreatDoorProg
set_option linter.unusedSimpArgs false
set_option linter.unusedVariables false

-- ---- YtjhcempjiokfdaaGreatDoorCode3
namespace Go.Proofs.YtjhcempjiokfdaaGreatDoor
open Go.Proofs.Abs
set_option maxRecDepth 100000
/- paling/choose.Address -/
def p186 : PFn := ⟨[o 3 (.bxd 0 (.t 0)), o 6 (.mv (.k (.int .u32 0))), o 7 (.mv (.k (.bool false))), o 15 (.mv (.t 1)), o 16 (.bn .lss 0 (.t 15) (.k (i 0))), o 17 (.mv (.t 16)), g 18 17 false (.mv (.t 2)),
  g 19 17 false (.bn .lss 0 (.t 18) (.k (i 0))), o 20 (.pick (.t 17) (.k (.bool true)) (.t 19)), o 21 (.mv (.t 20)), g 22 21 false (.mv (.t 1)), g 23 21 false (.fa 7 (.t 3)), g 24 21 false (.ld none (.t 23)), g 25 21 false (.len false (.t 24)),
  g 26 21 false (.bn .geq 0 (.t 22) (.t 25)), o 27 (.pick (.t 21) (.k (.bool true)) (.t 26)), o 28 (.mv (.t 27)), g 29 28 false (.mv (.t 2)), g 30 28 false (.fa 7 (.t 3)), g 31 28 false (.ld none (.t 30)), g 32 28 false (.len false (.t 31)),
  g 33 28 false (.bn .geq 0 (.t 29) (.t 32)), o 34 (.pick (.t 28) (.k (.bool true)) (.t 33)), o 35 (.mv (.t 34)), g 36 35 false (.ld (some 8) (.t 3)), g 37 35 false (.call 7 24 [(.t 36)]), g 38 35 false (.un .not (.t 37)),
  o 39 (.pick (.t 35) (.k (.bool true)) (.t 38)), .cond (.t 39) [o 6 (.mv (.k (.int .u32 0))), o 7 (.mv (.k (.bool false))), .ret] [], o 40 (.fa 7 (.t 3)), o 41 (.ld none (.t 40)), o 42 (.mv (.t 2)), o 43 (.ia 5 (.t 41) (.t 42)),
  o 44 (.fa 3 (.t 43)), o 45 (.ld (some 2) (.t 44)), o 8 (.al 0 (.agg [(.int .u32 0), (i 0)])), .stf 2 8 (.t 45), .draw 0 [0, 1, 2, 3, 4, 5, 6, 7] [] [o 46 (.ld (some 2) (.t 8)), o 47 (.call 0 169 [(.t 46)]), o 48 (.cv .i64 (.t 47)),
  o 49 (.ld (some 2) (.t 8)), o 50 (.call 0 170 [(.t 49)]), o 51 (.cv .i64 (.t 50)), o 9 (.mv (.t 48)), o 10 (.mv (.t 51))], .block 0 [.loop [o 52 (.mv (.t 9)), o 53 (.mv (.t 10)), o 54 (.bn .leq 0 (.t 52) (.t 53)), .cond (.t 54) [] [.exit 0],
  .block 1 [o 55 (.mv (.t 9)), o 56 (.cv .u32 (.t 55)), o 11 (.al 0 (.int .u32 0)), .stf 1 11 (.t 56), o 58 (.ld (some 8) (.t 3)), o 59 (.mv (.t 1)), o 60 (.ld none (.t 11)), o 61 (.call 7 254 [(.t 58), (.t 59), (.t 60)]), o 57 (.mv (.t 61)),
  o 62 (.ext (.t 57) 0), o 63 (.ext (.t 57) 1), o 12 (.mv (.t 62)), o 13 (.mv (.t 63)), o 64 (.fa 7 (.t 3)), o 65 (.ld none (.t 64)), o 66 (.mf 256 [] [(.t 11)]), o 67 (.call 7 255 [(.t 65), (.t 66)]), o 14 (.mv (.t 67)),
  .block 2 [o 69 (.mv (.t 13)), o 70 (.mv (.t 69)), g 71 70 true (.mv (.t 12)), g 72 70 true (.mv (.t 2)), g 73 70 true (.bn .eql 0 (.t 71) (.t 72)), o 74 (.pick (.t 70) (.t 73) (.k (.bool false))), o 75 (.mv (.t 74)),
  g 76 75 true (.mv (.t 14)), g 77 75 true (.un .not (.t 76)), o 78 (.pick (.t 75) (.t 77) (.k (.bool false))), o 68 (.mv (.t 78)), .cond (.t 68) [o 79 (.ld none (.t 11)), o 6 (.mv (.t 79)), o 7 (.mv (.k (.bool true))),
  .ret] [o 81 (.mv (.t 13)), o 82 (.un .not (.t 81)), o 83 (.mv (.t 82)), g 84 83 true (.mv (.t 14)), g 85 83 true (.un .not (.t 84)), o 86 (.pick (.t 83) (.t 85) (.k (.bool false))), o 80 (.mv (.t 86)), .cond (.t 80) [.exit 0] []]],
  o 87 (.ld (some 8) (.t 3)), o 88 (.ld none (.t 11)), o 89 (.mv (.t 12)), o 90 (.call 7 257 [(.t 87), (.t 88), (.t 89)]), o 9 (.mv (.t 90))]]], o 6 (.mv (.k (.int .u32 0))), o 7 (.mv (.k (.bool false))), .ret], 91, [.tmp 6, .tmp 7]⟩
theorem c186 : chkF Tryz.prog 186 p186 = true := by decide +kernel
/- paling/vector.Costs -/
def p187 : PFn := ⟨[o 1 (.bxd 0 (.t 0)), o 2 (.mv (.k (.bool false))), o 3 (.fa 1 (.t 1)), o 4 (.ld none (.t 3)), o 5 (.call 7 258 [(.t 4), (.f 259)]), o 6 (.un .not (.t 5)), o 2 (.mv (.t 6)), .ret], 7, [.tmp 2]⟩
theorem c187 : chkF Tryz.prog 187 p187 = true := by decide +kernel
/- paling/vector.Ranks -/
def p188 : PFn := ⟨[o 1 (.bxd 0 (.t 0)), o 2 (.mv (.k nl)), o 8 (.ld (some 8) (.t 1)), o 9 (.call 7 24 [(.t 8)]), o 10 (.un .not (.t 9)), .cond (.t 10) [o 2 (.mv (.k nl)), .ret] [], o 3 (.mv (.k nl)), o 11 (.fa 0 (.t 1)),
  o 12 (.ld none (.t 11)), o 13 (.len false (.t 12)), o 14 (.mv (.k (i 0))), .block 0 [.loop [o 15 (.bn .lss 0 (.t 14) (.t 13)), .cond (.t 15) [] [.exit 0], .block 1 [o 16 (.mv (.t 14)), o 4 (.mv (.t 16)), o 17 (.mv (.t 3)), o 18 (.mv (.t 4)),
  o 19 (.bsl (i 0) 1 [(0, (.t 18))]), o 20 (.app 0 1 (.t 17) (.t 19)), o 3 (.mv (.t 20))], o 21 (.bn .add 0 (.t 14) (.k (i 1))), o 14 (.mv (.t 21))]], o 22 (.mv (.t 3)), o 23 (.mf 261 [] [(.t 1)]), o 24 (.call 4 260 [(.t 22), (.t 23)]),
  o 25 (.mv (.t 3)), o 26 (.len false (.t 25)), o 27 (.mk 0 (i 0) (.t 26) (.t 26)), o 5 (.mv (.t 27)), o 28 (.mv (.t 3)), o 29 (.len false (.t 28)), o 30 (.mv (.k (i 0))), .block 2 [.loop [o 31 (.bn .lss 0 (.t 30) (.t 29)),
  .cond (.t 31) [] [.exit 2], .block 3 [o 32 (.mv (.t 30)), o 33 (.ia 1 (.t 28) (.t 30)), o 34 (.ld none (.t 33)), o 6 (.mv (.t 32)), o 7 (.mv (.t 34)), o 35 (.mv (.t 5)), o 36 (.mv (.t 7)), o 37 (.mv (.t 6)), o 38 (.ia 1 (.t 35) (.t 36)),
  e (.st 1 (.t 38) (.t 37))], o 39 (.bn .add 0 (.t 30) (.k (i 1))), o 30 (.mv (.t 39))]], o 40 (.mv (.t 5)), o 2 (.mv (.t 40)), .ret], 41, [.tmp 2]⟩
theorem c188 : chkF Tryz.prog 188 p188 = true := by decide +kernel
/- (*paling/tree.span).reach -/
def p189 : PFn := ⟨[o 10 (.bsl (.agg [(i 0), (i 0), (i 0)]) 0 []), o 11 (.bxm 0 (.t 10)), o 2 (.mv (.t 11)), o 12 (.mv (.t 0)), o 13 (.nc (.t 12)), o 14 (.fa 9 (.t 13)), o 15 (.ld none (.t 14)), o 16 (.len false (.t 15)),
  o 17 (.mv (.k (i 0))), .block 0 [.loop [o 18 (.bn .lss 0 (.t 17) (.t 16)), .cond (.t 18) [] [.exit 0], .block 1 [o 19 (.mv (.t 17)), o 20 (.ia 1 (.t 15) (.t 17)), o 21 (.ld none (.t 20)), o 3 (.mv (.t 19)), o 4 (.mv (.t 21)),
  o 22 (.mv (.t 2)), o 23 (.mi 390 (.t 22)), o 24 (.mv (.t 4)), o 25 (.mv (.t 3)), o 26 (.bld [(i 0), (i 0), (i 0)] [(0, 1, (.t 24)), (1, 1, (.k (i 0))), (2, 1, (.t 25))]), o 27 (.mi 395 (.t 26)), o 28 (.call 4 265 [(.t 23), (.t 27)])],
  o 29 (.bn .add 0 (.t 17) (.k (i 1))), o 17 (.mv (.t 29))]], .block 2 [.loop [o 30 (.mv (.t 2)), o 31 (.nc (.t 30)), o 32 (.ld none (.t 31)), o 33 (.call 7 266 [(.t 32)]), o 34 (.bn .gtr 0 (.t 33) (.k (i 0))), .cond (.t 34) [] [.exit 2],
  .block 3 [o 36 (.mv (.t 2)), o 37 (.mi 390 (.t 36)), o 38 (.call 4 267 [(.t 37)]), o 39 (.ta 395 true (.agg [(i 0), (i 0), (i 0)]) (.t 38)), o 35 (.mv (.t 39)), o 40 (.ext (.t 35) 0), o 41 (.ext (.t 35) 1), o 5 (.al 0 (.agg [(i 0), (i 0),
  (i 0)])), .stf 3 5 (.t 40), o 6 (.mv (.t 41)), .draw 0 [0, 1, 2, 3, 4, 5, 6, 7, 8, 9, 10, 11, 12] [] [o 42 (.mv (.t 6)), o 43 (.un .not (.t 42)), o 44 (.mv (.t 43)), g 45 44 false (.mv (.t 0)), g 46 44 false (.nc (.t 45)),
  g 47 44 false (.fa 10 (.t 46)), g 48 44 false (.ld none (.t 47)), g 49 44 false (.fa 2 (.t 5)), g 50 44 false (.ld none (.t 49)), g 51 44 false (.ia 1 (.t 48) (.t 50)), g 52 44 false (.ld none (.t 51)),
  g 53 44 false (.bn .geq 0 (.t 52) (.k (i 0))), o 54 (.pick (.t 44) (.k (.bool true)) (.t 53))], .cond (.t 54) [.exit 3] [], .draw 0 [0, 1, 2, 3, 4, 5, 6, 7, 8, 9, 10, 11, 12, 13, 14, 15, 16, 17, 18, 19] [(71, 65), (71, 69)] [o 55 (.mv (.t 0)),
  o 56 (.nc (.t 55)), o 57 (.fa 10 (.t 56)), o 58 (.ld none (.t 57)), o 59 (.fa 2 (.t 5)), o 60 (.ld none (.t 59)), o 61 (.mv (.t 0)), o 62 (.nc (.t 61)), o 63 (.fa 11 (.t 62)), o 64 (.ld none (.t 63)), o 65 (.fa 2 (.t 5)),
  o 66 (.ld none (.t 65)), o 67 (.fa 0 (.t 5)), o 68 (.ld none (.t 67)), o 69 (.fa 1 (.t 5)), o 70 (.ld none (.t 69)), o 71 (.ia 1 (.t 58) (.t 60)), e (.st 1 (.t 71) (.t 68)), o 72 (.ia 1 (.t 64) (.t 66)), e (.st 1 (.t 72) (.t 70))],
  o 73 (.mv (.t 0)), o 74 (.nc (.t 73)), o 75 (.fa 0 (.t 74)), o 76 (.fa 1 (.t 75)), o 77 (.ld none (.t 76)), o 78 (.len false (.t 77)), o 79 (.mv (.k (i 0))), .block 4 [.loop [o 80 (.bn .lss 0 (.t 79) (.t 78)), .cond (.t 80) [] [.exit 4],
  .block 5 [o 81 (.mv (.t 79)), o 82 (.ia 7 (.t 77) (.t 79)), o 83 (.ld (some 7) (.t 82)), o 8 (.al 0 (.agg [(i 0), (i 0), (i 0), (i 0), (i 0), (.str []), nl])), o 7 (.mv (.t 81)), .stf 7 8 (.t 83), o 84 (.mv (.t 0)), o 85 (.mv (.t 7)),
  o 86 (.call 4 190 [(.t 84), (.t 85)]), o 9 (.mv (.t 86)), o 87 (.fa 1 (.t 8)), o 88 (.ld none (.t 87)), o 89 (.fa 2 (.t 5)), o 90 (.ld none (.t 89)), o 91 (.bn .eql 0 (.t 88) (.t 90)), o 92 (.mv (.t 91)), g 93 92 true (.mv (.t 9)),
  g 94 92 true (.bn .geq 0 (.t 93) (.k (i 0))), o 95 (.pick (.t 92) (.t 94) (.k (.bool false))), .cond (.t 95) [.draw 0 [0, 1, 2, 3, 4, 5, 6, 7, 8, 9, 10, 11, 12, 13, 14, 15, 16, 17, 18, 19, 20, 21, 22, 23, 24, 25, 26, 27] [] [o 96 (.mv (.t 2)),
  o 97 (.mi 390 (.t 96)), o 98 (.fa 0 (.t 5)), o 99 (.ld none (.t 98)), o 100 (.fa 1 (.t 5)), o 101 (.ld none (.t 100)), o 102 (.mv (.t 0)), o 103 (.nc (.t 102)), o 104 (.fa 0 (.t 103)), o 105 (.fa 1 (.t 104)), o 106 (.ld none (.t 105)),
  o 107 (.mv (.t 9)), o 108 (.ia 7 (.t 106) (.t 107)), o 109 (.fa 3 (.t 108)), o 110 (.ld none (.t 109)), o 111 (.bn .add 0 (.t 101) (.t 110)), o 112 (.mv (.t 0)), o 113 (.nc (.t 112)), o 114 (.fa 0 (.t 113)), o 115 (.fa 1 (.t 114)),
  o 116 (.ld none (.t 115)), o 117 (.mv (.t 9)), o 118 (.ia 7 (.t 116) (.t 117)), o 119 (.fa 1 (.t 118)), o 120 (.ld none (.t 119)), o 121 (.bld [(i 0), (i 0), (i 0)] [(0, 1, (.t 99)), (1, 1, (.t 111)), (2, 1, (.t 120))]),
  o 122 (.mi 395 (.t 121)), o 123 (.call 4 265 [(.t 97), (.t 122)])]] []], o 124 (.bn .add 0 (.t 79) (.k (i 1))), o 79 (.mv (.t 124))]]]]]], 125, []⟩
theorem c189 : chkF Tryz.prog 189 p189 = true := by decide +kernel
/- (*paling/tree.span).far -/
def p190 : PFn := ⟨[o 4 (.mv (.k (i 0))), o 7 (.mv (.t 0)), o 8 (.nc (.t 7)), o 9 (.fa 0 (.t 8)), o 10 (.fa 1 (.t 9)), o 11 (.ld none (.t 10)), o 12 (.mv (.t 1)), o 13 (.ia 7 (.t 11) (.t 12)), o 14 (.ld (some 7) (.t 13)),
  o 5 (.al 0 (.agg [(i 0), (i 0), (i 0), (i 0), (i 0), (.str []), nl])), .stf 7 5 (.t 14), .draw 0 [0, 1, 2, 3, 4, 5, 6, 7, 8, 9, 10, 11, 12, 13] [] [o 15 (.fa 4 (.t 5)), o 16 (.ld none (.t 15)), o 17 (.bn .lss 0 (.t 16) (.k (i 0))),
  o 18 (.mv (.t 17)), g 19 18 false (.mv (.t 0)), g 20 18 false (.nc (.t 19)), g 21 18 false (.fa 8 (.t 20)), g 22 18 false (.ld none (.t 21)), g 23 18 false (.fa 4 (.t 5)), g 24 18 false (.ld none (.t 23)),
  g 25 18 false (.ia 1 (.t 22) (.t 24)), g 26 18 false (.ld none (.t 25)), g 27 18 false (.un .not (.t 26)), o 28 (.pick (.t 18) (.k (.bool true)) (.t 27))], .cond (.t 28) [o 4 (.mv (.k (i (-1)))), .ret] [], .draw 1 [0, 1, 2, 3, 4, 5, 6, 7, 8,
  9, 10] [] [o 29 (.mv (.t 0)), o 30 (.nc (.t 29)), o 31 (.fa 0 (.t 30)), o 32 (.fa 2 (.t 31)), o 33 (.ld none (.t 32)), o 34 (.fa 4 (.t 5)), o 35 (.ld none (.t 34)), o 36 (.ia 3 (.t 33) (.t 35)), o 37 (.ld (some 3) (.t 36)),
  o 6 (.al 1 (.agg [(i 0), (i 0), (i 0)])), .stf 3 6 (.t 37)], o 38 (.fa 1 (.t 6)), o 39 (.ld none (.t 38)), o 40 (.fa 2 (.t 6)), o 41 (.ld none (.t 40)), o 42 (.bn .add 0 (.t 39) (.t 41)), o 43 (.mv (.t 1)), o 44 (.bn .sub 0 (.t 42) (.t 43)),
  o 4 (.mv (.t 44)), .ret], 45, [.tmp 4]⟩
theorem c190 : chkF Tryz.prog 190 p190 = true := by decide +kernel
/- (*paling/tree.span).ahead -/
def p191 : PFn := ⟨[o 6 (.mv (.k (.bool false))), .draw 0 [0, 1, 2, 3, 4, 5, 6, 7, 8, 9, 10, 11, 12, 13, 14, 15, 16, 17, 18, 19] [] [o 9 (.mv (.t 0)), o 10 (.nc (.t 9)), o 11 (.fa 0 (.t 10)), o 12 (.fa 1 (.t 11)), o 13 (.ld none (.t 12)),
  o 14 (.mv (.t 1)), o 15 (.ia 7 (.t 13) (.t 14)), o 16 (.fa 1 (.t 15)), o 17 (.ld none (.t 16)), o 18 (.mv (.t 0)), o 19 (.nc (.t 18)), o 20 (.fa 0 (.t 19)), o 21 (.fa 1 (.t 20)), o 22 (.ld none (.t 21)), o 23 (.mv (.t 2)),
  o 24 (.ia 7 (.t 22) (.t 23)), o 25 (.fa 1 (.t 24)), o 26 (.ld none (.t 25)), o 7 (.mv (.t 17)), o 8 (.mv (.t 26))], .draw 0 [0, 1, 2, 3, 4, 5, 6, 7, 8, 9, 10, 11, 12, 13, 14, 15, 16, 17, 18, 19, 20, 21, 22, 23, 24, 25, 26, 27, 28, 29, 30, 31,
  32, 33, 34, 35, 36, 37, 38, 39, 40, 41, 42, 43, 44, 45, 46, 47, 48, 49] [] [o 27 (.mv (.t 0)), o 28 (.nc (.t 27)), o 29 (.fa 11 (.t 28)), o 30 (.ld none (.t 29)), o 31 (.mv (.t 7)), o 32 (.ia 1 (.t 30) (.t 31)), o 33 (.ld none (.t 32)),
  o 34 (.mv (.t 0)), o 35 (.nc (.t 34)), o 36 (.fa 11 (.t 35)), o 37 (.ld none (.t 36)), o 38 (.mv (.t 8)), o 39 (.ia 1 (.t 37) (.t 38)), o 40 (.ld none (.t 39)), o 41 (.bn .lss 0 (.t 33) (.t 40)), o 42 (.mv (.t 41)), g 43 42 false (.mv (.t 0)),
  g 44 42 false (.nc (.t 43)), g 45 42 false (.fa 11 (.t 44)), g 46 42 false (.ld none (.t 45)), g 47 42 false (.mv (.t 7)), g 48 42 false (.ia 1 (.t 46) (.t 47)), g 49 42 false (.ld none (.t 48)), g 50 42 false (.mv (.t 0)),
  g 51 42 false (.nc (.t 50)), g 52 42 false (.fa 11 (.t 51)), g 53 42 false (.ld none (.t 52)), g 54 42 false (.mv (.t 8)), g 55 42 false (.ia 1 (.t 53) (.t 54)), g 56 42 false (.ld none (.t 55)), g 57 42 false (.bn .eql 0 (.t 49) (.t 56)),
  g 58 42 false (.mv (.t 57)), g 59 58 true (.mv (.t 0)), g 60 58 true (.nc (.t 59)), g 61 58 true (.fa 9 (.t 60)), g 62 58 true (.ld none (.t 61)), g 63 58 true (.mv (.t 7)), g 64 58 true (.ia 1 (.t 62) (.t 63)),
  g 65 58 true (.ld none (.t 64)), g 66 58 true (.mv (.t 0)), g 67 58 true (.nc (.t 66)), g 68 58 true (.fa 9 (.t 67)), g 69 58 true (.ld none (.t 68)), g 70 58 true (.mv (.t 8)), g 71 58 true (.ia 1 (.t 69) (.t 70)),
  g 72 58 true (.ld none (.t 71)), g 73 58 true (.bn .lss 0 (.t 65) (.t 72)), g 74 42 false (.pick (.t 58) (.t 73) (.k (.bool false))), o 75 (.pick (.t 42) (.k (.bool true)) (.t 74)), o 6 (.mv (.t 75))], .ret], 76, [.tmp 6]⟩
theorem c191 : chkF Tryz.prog 191 p191 = true := by decide +kernel
/- (*paling/tree.span).best -/
def p192 : PFn := ⟨[o 4 (.mv (.k (i 0))), o 5 (.mv (.k nl)), o 12 (.mv (.t 0)), o 13 (.nc (.t 12)), o 14 (.fa 0 (.t 13)), o 15 (.fa 1 (.t 14)), o 16 (.ld none (.t 15)), o 17 (.len false (.t 16)), o 18 (.mv (.k (i 0))),
  .block 0 [.loop [o 19 (.bn .lss 0 (.t 18) (.t 17)), .cond (.t 19) [] [.exit 0], .block 1 [o 20 (.mv (.t 18)), o 21 (.ia 7 (.t 16) (.t 18)), o 22 (.ld (some 7) (.t 21)), o 7 (.al 0 (.agg [(i 0), (i 0), (i 0), (i 0), (i 0), (.str []), nl])),
  o 6 (.mv (.t 20)), .stf 7 7 (.t 22), o 23 (.mv (.t 0)), o 24 (.mv (.t 6)), o 25 (.call 4 190 [(.t 23), (.t 24)]), o 8 (.mv (.t 25)), o 26 (.fa 1 (.t 7)), o 27 (.ld none (.t 26)), o 28 (.mv (.t 1)), o 29 (.bn .eql 0 (.t 27) (.t 28)),
  o 30 (.mv (.t 29)), g 31 30 true (.mv (.t 8)), g 32 30 true (.bn .geq 0 (.t 31) (.k (i 0))), o 33 (.pick (.t 30) (.t 32) (.k (.bool false))), .cond (.t 33) [o 34 (.mv (.t 0)), o 35 (.nc (.t 34)), o 36 (.fa 0 (.t 35)), o 37 (.fa 1 (.t 36)),
  o 38 (.ld none (.t 37)), o 39 (.mv (.t 8)), o 40 (.ia 7 (.t 38) (.t 39)), o 41 (.fa 1 (.t 40)), o 42 (.ld none (.t 41)), o 9 (.mv (.t 42)), .draw 0 [0, 1, 2, 3, 4, 5, 6, 7, 8, 9, 10, 11, 12, 13, 14, 15, 16, 17, 18, 19, 20, 21, 22, 23, 24, 25,
  26, 27, 28, 29, 30] [] [o 43 (.mv (.t 5)), o 44 (.mv (.t 0)), o 45 (.nc (.t 44)), o 46 (.fa 10 (.t 45)), o 47 (.ld none (.t 46)), o 48 (.mv (.t 9)), o 49 (.ia 1 (.t 47) (.t 48)), o 50 (.ld none (.t 49)), o 51 (.mv (.t 0)), o 52 (.nc (.t 51)),
  o 53 (.fa 11 (.t 52)), o 54 (.ld none (.t 53)), o 55 (.mv (.t 9)), o 56 (.ia 1 (.t 54) (.t 55)), o 57 (.ld none (.t 56)), o 58 (.fa 3 (.t 7)), o 59 (.ld none (.t 58)), o 60 (.bn .add 0 (.t 57) (.t 59)), o 61 (.mv (.t 0)), o 62 (.nc (.t 61)),
  o 63 (.fa 9 (.t 62)), o 64 (.ld none (.t 63)), o 65 (.mv (.t 9)), o 66 (.ia 1 (.t 64) (.t 65)), o 67 (.ld none (.t 66)), o 68 (.mv (.t 8)), o 69 (.mv (.t 6)), o 70 (.bld [(i 0), (i 0), (i 0), (i 0), (i 0)] [(0, 1, (.t 50)), (1, 1, (.t 60)),
  (2, 1, (.t 67)), (3, 1, (.t 68)), (4, 1, (.t 69))]), o 71 (.bsl (.agg [(i 0), (i 0), (i 0), (i 0), (i 0)]) 1 [(0, (.t 70))]), o 72 (.app 0 5 (.t 43) (.t 71)), o 5 (.mv (.t 72))]] []], o 73 (.bn .add 0 (.t 18) (.k (i 1))), o 18 (.mv (.t 73))]],
  o 75 (.mv (.t 5)), o 76 (.call 7 268 [(.t 75)]), o 74 (.mv (.t 76)), o 77 (.ext (.t 74) 0), o 78 (.ext (.t 74) 1), o 10 (.al 0 (.agg [(i 0), (i 0), (i 0), (i 0), (i 0)])), .stf 5 10 (.t 77), o 11 (.mv (.t 78)), .draw 0 [0, 1, 2, 3, 4, 5, 6, 7,
  8, 9, 10, 11, 12, 13, 14, 15, 16, 17, 18] [] [o 79 (.mv (.t 11)), o 80 (.un .not (.t 79)), o 81 (.mv (.t 80)), g 82 81 false (.mv (.t 0)), g 83 81 false (.nc (.t 82)), g 84 81 false (.fa 10 (.t 83)), g 85 81 false (.ld none (.t 84)),
  g 86 81 false (.mv (.t 1)), g 87 81 false (.ia 1 (.t 85) (.t 86)), g 88 81 false (.ld none (.t 87)), g 89 81 false (.mv (.t 0)), g 90 81 false (.nc (.t 89)), g 91 81 false (.fa 9 (.t 90)), g 92 81 false (.ld none (.t 91)),
  g 93 81 false (.mv (.t 1)), g 94 81 false (.ia 1 (.t 92) (.t 93)), g 95 81 false (.ld none (.t 94)), g 96 81 false (.bn .eql 0 (.t 88) (.t 95)), o 97 (.pick (.t 81) (.k (.bool true)) (.t 96))], .cond (.t 97) [o 4 (.mv (.k (i (-1)))), .ret] [],
  o 98 (.fa 4 (.t 10)), o 99 (.ld none (.t 98)), o 4 (.mv (.t 99)), .ret], 100, [.tmp 4]⟩
theorem c192 : chkF Tryz.prog 192 p192 = true := by decide +kernel
/- paling/tag.Strip -/
def p193 : PFn := ⟨[o 1 (.bxd 0 (.t 0)), o 2 (.al 0 (.agg [(.int .u64 0), (.int .u64 0), (i 0), nl])), o 3 (.mv (.k (i 0))), o 4 (.mv (.k (i 0))), o 5 (.mv (.k (i 0))), .block 0 [o 9 (.ld (some 4) (.t 1)), o 10 (.call 7 159 [(.t 9)]),
  o 11 (.un .not (.t 10)), o 8 (.mv (.t 11)), .cond (.t 8) [o 12 (.ld (some 4) (.t 2)), e (.st 4 (.t 2) (.t 12)), o 3 (.mv (.k (i 0))), o 4 (.mv (.k (i 0))), o 5 (.mv (.k (i 11))), .ret] [o 14 (.fa 3 (.t 1)), o 15 (.ld none (.t 14)),
  o 16 (.len false (.t 15)), o 17 (.bn .lss 0 (.t 16) (.k (i 4))), o 13 (.mv (.t 17)), .cond (.t 13) [o 18 (.ld (some 4) (.t 2)), e (.st 4 (.t 2) (.t 18)), o 3 (.mv (.k (i 0))), o 4 (.mv (.k (i 0))), o 5 (.mv (.k (i 10))), .ret] []]],
  .draw 0 [0, 1, 2, 3, 4, 5, 6, 7, 8, 9, 10, 11, 12] [] [o 19 (.fa 3 (.t 1)), o 20 (.ld none (.t 19)), o 21 (.ia 1 (.t 20) (.k (i 0))), o 22 (.ld none (.t 21)), o 23 (.cv .i64 (.t 22)), o 24 (.bn .shl 0 (.t 23) (.k (.int .u64 8))),
  o 25 (.fa 3 (.t 1)), o 26 (.ld none (.t 25)), o 27 (.ia 1 (.t 26) (.k (i 1))), o 28 (.ld none (.t 27)), o 29 (.cv .i64 (.t 28)), o 30 (.bn .or 0 (.t 24) (.t 29)), o 6 (.mv (.t 30))], .draw 0 [0, 1, 2, 3, 4, 5, 6, 7, 8, 9, 10, 11,
  12] [] [o 31 (.fa 3 (.t 1)), o 32 (.ld none (.t 31)), o 33 (.ia 1 (.t 32) (.k (i 2))), o 34 (.ld none (.t 33)), o 35 (.cv .i64 (.t 34)), o 36 (.bn .shl 0 (.t 35) (.k (.int .u64 8))), o 37 (.fa 3 (.t 1)), o 38 (.ld none (.t 37)),
  o 39 (.ia 1 (.t 38) (.k (i 3))), o 40 (.ld none (.t 39)), o 41 (.cv .i64 (.t 40)), o 42 (.bn .or 0 (.t 36) (.t 41)), o 7 (.mv (.t 42))], o 43 (.mv (.t 6)), o 44 (.bn .and 0 (.t 43) (.k (i 4095))), o 45 (.mv (.t 6)),
  o 46 (.bn .shr 0 (.t 45) (.k (.int .u64 12))), o 3 (.mv (.t 44)), o 4 (.mv (.t 46)), .block 1 [.block 3 [.block 2 [o 48 (.mv (.t 3)), o 49 (.bn .gtr 0 (.t 48) (.k (i 4094))), o 47 (.mv (.t 49)), .cond (.t 47) [.exit 2] [], o 51 (.mv (.t 7)),
  o 52 (.bn .eql 0 (.t 51) (.k (i 33024))), o 50 (.mv (.t 52)), .cond (.t 50) [.exit 3] [], .exit 1]], o 53 (.ld (some 4) (.t 2)), e (.st 4 (.t 2) (.t 53)), o 3 (.mv (.k (i 0))), o 4 (.mv (.k (i 0))), o 5 (.mv (.k (i 15))), .ret, .exit 1],
  .draw 0 [0, 1, 2, 3, 4, 5, 6, 7, 8, 9, 10, 11, 12, 13, 14, 15] [] [o 54 (.fa 0 (.t 1)), o 55 (.ld none (.t 54)), o 56 (.fa 1 (.t 1)), o 57 (.ld none (.t 56)), o 58 (.mv (.t 7)), o 59 (.fa 3 (.t 1)), o 60 (.ld none (.t 59)),
  o 61 (.sl 1 (.t 60) (some (.k (i 4))) none none), o 62 (.call 0 269 [(.t 61)]), o 63 (.bld [(.int .u64 0), (.int .u64 0), (i 0), nl] [(0, 1, (.t 55)), (1, 1, (.t 57)), (2, 1, (.t 58)), (3, 1, (.t 62))]), o 64 (.mv (.t 3)), o 65 (.mv (.t 4)),
  e (.st 4 (.t 2) (.t 63)), o 3 (.mv (.t 64)), o 4 (.mv (.t 65)), o 5 (.mv (.k (i 0)))], .ret], 66, [.cell (some 4) 2, .tmp 3, .tmp 4, .tmp 5]⟩
theorem c193 : chkF Tryz.prog 193 p193 = true := by decide +kernel
/- paling/mac.Group -/
def p194 : PFn := ⟨[o 2 (.mv (.k (.bool false))), o 3 (.mv (.t 0)), o 4 (.bn .and 0 (.t 3) (.k (.int .u64 1099511627776))), o 5 (.bn .neq 0 (.t 4) (.k (.int .u64 0))), o 2 (.mv (.t 5)), .ret], 6, [.tmp 2]⟩
theorem c194 : chkF Tryz.prog 194 p194 = true := by decide +kernel
/- paling/enter.Vlan -/
def p195 : PFn := ⟨[o 3 (.bxd 0 (.t 0)), o 6 (.mv (.k (i 0))), o 7 (.mv (.k (.bool false))), .block 0 [.block 3 [.block 2 [.block 1 [o 9 (.mv (.t 1)), o 10 (.un .not (.t 9)), o 8 (.mv (.t 10)), .cond (.t 8) [.exit 1] [], o 12 (.mv (.t 2)),
  o 13 (.bn .eql 0 (.t 12) (.k (i 0))), o 11 (.mv (.t 13)), .cond (.t 11) [.exit 2] [], o 15 (.fa 6 (.t 3)), o 16 (.ld none (.t 15)), o 17 (.mv (.t 2)), o 18 (.call 7 72 [(.t 16), (.t 17)]), o 14 (.mv (.t 18)), .cond (.t 14) [.exit 3] [],
  .exit 0]], .draw 0 [0, 1, 2, 3, 4, 5, 6] [] [o 19 (.fa 2 (.t 3)), o 20 (.ld none (.t 19)), o 21 (.fa 2 (.t 3)), o 22 (.ld none (.t 21)), o 23 (.bn .neq 0 (.t 22) (.k (i 0))), o 6 (.mv (.t 20)), o 7 (.mv (.t 23))], .ret, .exit 0],
  o 24 (.mv (.t 2)), o 6 (.mv (.t 24)), o 7 (.mv (.k (.bool true))), .ret, .exit 0], o 6 (.mv (.k (i 0))), o 7 (.mv (.k (.bool false))), .ret], 25, [.tmp 6, .tmp 7]⟩
theorem c195 : chkF Tryz.prog 195 p195 = true := by decide +kernel
/- paling/queue.Push -/
def p196 : PFn := ⟨[o 3 (.bxd 0 (.t 1)), o 4 (.mv (.k nl)), o 5 (.mv (.k (.bool false))), o 7 (.mv (.t 0)), o 8 (.call 8 152 [(.t 7)]), o 6 (.mv (.t 8)), o 9 (.mv (.t 0)), o 10 (.len false (.t 9)), o 11 (.bn .geq 0 (.t 10) (.k (i 64))),
  .cond (.t 11) [o 12 (.mv (.t 6)), o 4 (.mv (.t 12)), o 5 (.mv (.k (.bool false))), .ret] [], o 13 (.mv (.t 6)), o 14 (.ld (some 7) (.t 3)), o 15 (.call 7 153 [(.t 14)]), o 16 (.bsl (.agg [(i 0), (i 0), (i 0), (.int .u64 0), (.int .u64 0),
  (i 0), nl]) 1 [(0, (.t 15))]), o 17 (.app 0 7 (.t 13) (.t 16)), o 4 (.mv (.t 17)), o 5 (.mv (.k (.bool true))), .ret], 18, [.tmp 4, .tmp 5]⟩
theorem c196 : chkF Tryz.prog 196 p196 = true := by decide +kernel
/- paling/lookup.Flood -/
def p197 : PFn := ⟨[o 4 (.bxd 0 (.t 0)), o 8 (.mv (.k nl)), o 9 (.mv (.k nl)), o 10 (.mv (.k (i 0))), o 14 (.ld (some 8) (.t 4)), o 15 (.mv (.t 1)), o 16 (.mv (.t 2)), o 17 (.mv (.t 3)), o 18 (.call 7 270 [(.t 14), (.t 15), (.t 16),
  (.t 17)]), o 13 (.mv (.t 18)), o 19 (.ext (.t 13) 0), o 20 (.ext (.t 13) 1), o 11 (.mv (.t 19)), o 12 (.mv (.t 20)), o 21 (.mv (.t 12)), o 22 (.un .not (.t 21)), .cond (.t 22) [o 8 (.mv (.k nl)), o 9 (.mv (.k nl)), o 10 (.mv (.k (i 2))),
  .ret] [], o 23 (.mv (.t 11)), o 24 (.mv (.t 11)), o 25 (.nc (.t 24)), o 26 (.fa 11 (.t 25)), o 27 (.ld none (.t 26)), o 28 (.call 7 271 [(.t 23), (.t 27)]), o 29 (.mv (.t 11)), o 30 (.call 7 272 [(.t 29)]), o 8 (.mv (.t 28)),
  o 9 (.mv (.t 30)), o 10 (.mv (.k (i 0))), .ret], 31, [.tmp 8, .tmp 9, .tmp 10]⟩
theorem c197 : chkF Tryz.prog 197 p197 = true := by decide +kernel
/- paling/table.Right -/
def p198 : PFn := ⟨[o 2 (.mv (.k (.bool false))), o 5 (.mv (.t 0)), o 6 (.len false (.t 5)), o 7 (.bn .gtr 0 (.t 6) (.k (i 8))), .cond (.t 7) [o 2 (.mv (.k (.bool false))), .ret] [], o 8 (.mv (.t 0)), o 9 (.len false (.t 8)),
  o 10 (.mv (.k (i 0))), .block 0 [.loop [o 11 (.bn .lss 0 (.t 10) (.t 9)), .cond (.t 11) [] [.exit 0], .block 1 [o 12 (.mv (.t 10)), o 13 (.ia 3 (.t 8) (.t 10)), o 14 (.ld (some 3) (.t 13)), o 4 (.al 0 (.agg [(.int .u64 0), (i 0), (i 0)])),
  o 3 (.mv (.t 12)), .stf 3 4 (.t 14), o 15 (.fa 0 (.t 4)), o 16 (.ld none (.t 15)), o 17 (.call 7 273 [(.t 16)]), o 18 (.un .not (.t 17)), o 19 (.mv (.t 18)), g 20 19 false (.fa 2 (.t 4)), g 21 19 false (.ld none (.t 20)),
  g 22 19 false (.call 7 211 [(.t 21)]), g 23 19 false (.un .not (.t 22)), o 24 (.pick (.t 19) (.k (.bool true)) (.t 23)), o 25 (.mv (.t 24)), g 26 25 false (.mv (.t 0)), g 27 25 false (.fa 0 (.t 4)), g 28 25 false (.ld none (.t 27)),
  g 29 25 false (.call 7 274 [(.t 26), (.t 28)]), g 30 25 false (.mv (.t 3)), g 31 25 false (.bn .neq 0 (.t 29) (.t 30)), o 32 (.pick (.t 25) (.k (.bool true)) (.t 31)), .cond (.t 32) [o 2 (.mv (.k (.bool false))), .ret] []],
  o 33 (.bn .add 0 (.t 10) (.k (i 1))), o 10 (.mv (.t 33))]], o 2 (.mv (.k (.bool true))), .ret], 34, [.tmp 2]⟩
theorem c198 : chkF Tryz.prog 198 p198 = true := by decide +kernel
/- paling/bridge.learn -/
def p199 : PFn := ⟨[o 4 (.bxd 0 (.t 1)), o 6 (.mv (.k nl)), o 8 (.fa 0 (.t 4)), o 9 (.ld none (.t 8)), o 7 (.mv (.t 9)), o 10 (.fa 0 (.t 4)), o 11 (.ld none (.t 10)), .block 0 [o 13 (.bn .eql 0 (.t 11) (.k (i (-2)))), o 12 (.mv (.t 13)),
  .cond (.t 12) [o 14 (.mv (.t 0)), o 15 (.call 7 210 [(.t 14)]), o 6 (.mv (.t 15)), .ret] [o 17 (.bn .eql 0 (.t 11) (.k (i (-1)))), o 16 (.mv (.t 17)), .cond (.t 16) [o 18 (.fa 1 (.t 4)), o 19 (.ld none (.t 18)),
  o 20 (.bn .sub 0 (.k (i (-1))) (.t 19)), o 7 (.mv (.t 20))] []]], o 21 (.mv (.t 0)), o 22 (.fa 3 (.t 4)), o 23 (.fa 1 (.t 22)), o 24 (.ld none (.t 23)), o 25 (.mv (.t 7)), o 26 (.mv (.t 2)), o 27 (.call 7 275 [(.t 21), (.t 24), (.t 25),
  (.t 26)]), o 6 (.mv (.t 27)), .ret], 28, [.tmp 6]⟩
theorem c199 : chkF Tryz.prog 199 p199 = true := by decide +kernel
/- paling/vrfs.Router -/
def p200 : PFn := ⟨[o 3 (.bxd 0 (.t 0)), o 6 (.mv (.k (i 0))), o 7 (.mv (.k (.bool false))), o 9 (.mv (.t 1)), o 10 (.bn .lss 0 (.t 9) (.k (i 0))), o 11 (.mv (.t 10)), g 12 11 false (.mv (.t 1)), g 13 11 false (.fa 3 (.t 3)),
  g 14 11 false (.ld none (.t 13)), g 15 11 false (.len false (.t 14)), g 16 11 false (.bn .geq 0 (.t 12) (.t 15)), o 17 (.pick (.t 11) (.k (.bool true)) (.t 16)), o 18 (.mv (.t 17)), g 19 18 false (.ld (some 8) (.t 3)),
  g 20 18 false (.call 7 24 [(.t 19)]), g 21 18 false (.un .not (.t 20)), o 22 (.pick (.t 18) (.k (.bool true)) (.t 21)), .cond (.t 22) [o 6 (.mv (.k (i 0))), o 7 (.mv (.k (.bool false))), .ret] [], o 23 (.fa 3 (.t 3)), o 24 (.ld none (.t 23)),
  o 25 (.mv (.t 1)), o 26 (.ia 6 (.t 24) (.t 25)), o 27 (.fa 3 (.t 26)), o 28 (.ld none (.t 27)), o 8 (.mv (.t 28)), o 29 (.mv (.t 8)), o 30 (.bn .lss 0 (.t 29) (.k (i 0))), o 31 (.mv (.t 30)), g 32 31 false (.fa 7 (.t 3)),
  g 33 31 false (.ld none (.t 32)), g 34 31 false (.mv (.t 8)), g 35 31 false (.ia 5 (.t 33) (.t 34)), g 36 31 false (.fa 3 (.t 35)), g 37 31 false (.fa 0 (.t 36)), g 38 31 false (.ld none (.t 37)), g 39 31 false (.call 7 157 [(.t 38)]),
  g 40 31 false (.mv (.t 2)), g 41 31 false (.bn .neq 0 (.t 39) (.t 40)), o 42 (.pick (.t 31) (.k (.bool true)) (.t 41)), .cond (.t 42) [o 6 (.mv (.k (i 0))), o 7 (.mv (.k (.bool false))), .ret] [], o 43 (.mv (.t 8)), o 6 (.mv (.t 43)),
  o 7 (.mv (.k (.bool true))), .ret], 44, [.tmp 6, .tmp 7]⟩
theorem c200 : chkF Tryz.prog 200 p200 = true := by decide +kernel
/- paling/route.Hop -/
def p201 : PFn := ⟨[o 3 (.bxd 0 (.t 0)), o 5 (.bxd 0 (.t 2)), o 6 (.mv (.k (i 0))), o 7 (.al 0 (.agg [(.int .u64 0), (.int .u64 0), (i 0), nl])), o 8 (.mv (.k (i 0))), o 13 (.mv (.t 1)), o 14 (.bn .lss 0 (.t 13) (.k (i 0))),
  o 15 (.mv (.t 14)), g 16 15 false (.mv (.t 1)), g 17 15 false (.fa 7 (.t 3)), g 18 15 false (.ld none (.t 17)), g 19 15 false (.len false (.t 18)), g 20 15 false (.bn .geq 0 (.t 16) (.t 19)), o 21 (.pick (.t 15) (.k (.bool true)) (.t 20)),
  o 22 (.mv (.t 21)), g 23 22 false (.ld (some 8) (.t 3)), g 24 22 false (.call 7 24 [(.t 23)]), g 25 22 false (.un .not (.t 24)), o 26 (.pick (.t 22) (.k (.bool true)) (.t 25)), .cond (.t 26) [o 27 (.bld [(.int .u64 0), (.int .u64 0), (i 0),
  nl] []), o 6 (.mv (.k (i 0))), e (.st 4 (.t 7) (.t 27)), o 8 (.mv (.k (i 2))), .ret] [], o 28 (.fa 2 (.t 5)), o 29 (.ld none (.t 28)), o 30 (.bn .neq 0 (.t 29) (.k (i 2048))), .cond (.t 30) [o 31 (.bld [(.int .u64 0), (.int .u64 0), (i 0),
  nl] []), o 6 (.mv (.k (i 0))), e (.st 4 (.t 7) (.t 31)), o 8 (.mv (.k (i 11))), .ret] [], o 33 (.fa 3 (.t 5)), o 34 (.ld none (.t 33)), o 35 (.call 7 276 [(.t 34)]), o 32 (.mv (.t 35)), o 36 (.ext (.t 32) 0), o 37 (.ext (.t 32) 1),
  o 9 (.al 0 (.agg [(i 0), (i 0), (i 0), (i 0), (.int .u32 0), (.int .u32 0), nl])), e (.st 7 (.t 9) (.t 36)), o 8 (.mv (.t 37)), o 38 (.mv (.t 8)), o 39 (.bn .eql 0 (.t 38) (.k (i 0))), .cond (.t 39) [o 41 (.ld (some 7) (.t 9)),
  o 42 (.call 7 277 [(.t 41)]), o 40 (.mv (.t 42)), o 43 (.ext (.t 40) 0), o 44 (.ext (.t 40) 1), e (.st 7 (.t 9) (.t 43)), o 8 (.mv (.t 44))] [], o 45 (.mv (.t 8)), o 46 (.bn .neq 0 (.t 45) (.k (i 0))), .cond (.t 46) [o 47 (.bld [(.int .u64 0),
  (.int .u64 0), (i 0), nl] []), o 48 (.mv (.t 8)), o 6 (.mv (.k (i 0))), e (.st 4 (.t 7) (.t 47)), o 8 (.mv (.t 48)), .ret] [], o 50 (.ld (some 8) (.t 3)), o 51 (.mv (.t 1)), o 52 (.fa 5 (.t 9)), o 53 (.ld none (.t 52)),
  o 54 (.call 7 278 [(.t 50), (.t 51), (.t 53)]), o 49 (.mv (.t 54)), o 55 (.ext (.t 49) 0), o 56 (.ext (.t 49) 1), o 10 (.mv (.t 55)), o 11 (.mv (.t 56)), o 57 (.mv (.t 11)), o 58 (.un .not (.t 57)), .cond (.t 58) [o 59 (.bld [(.int .u64 0),
  (.int .u64 0), (i 0), nl] []), o 6 (.mv (.k (i 0))), e (.st 4 (.t 7) (.t 59)), o 8 (.mv (.k (i 31))), .ret] [], o 61 (.ld (some 7) (.t 9)), o 62 (.call 7 156 [(.t 61)]), o 60 (.mv (.t 62)), o 63 (.ext (.t 60) 0), o 64 (.ext (.t 60) 1),
  o 12 (.mv (.t 63)), o 8 (.mv (.t 64)), o 65 (.mv (.t 8)), o 66 (.bn .neq 0 (.t 65) (.k (i 0))), .cond (.t 66) [o 67 (.bld [(.int .u64 0), (.int .u64 0), (i 0), nl] []), o 68 (.mv (.t 8)), o 6 (.mv (.k (i 0))), e (.st 4 (.t 7) (.t 67)),
  o 8 (.mv (.t 68)), .ret] [], .draw 0 [0, 1, 2, 3, 4, 5, 6, 7, 8, 9, 10, 11, 12, 13, 14, 15, 16, 17, 18, 19, 20, 21] [] [o 69 (.fa 7 (.t 3)), o 70 (.ld none (.t 69)), o 71 (.mv (.t 10)), o 72 (.ia 5 (.t 70) (.t 71)), o 73 (.fa 1 (.t 72)),
  o 74 (.ld none (.t 73)), o 75 (.fa 5 (.t 9)), o 76 (.ld none (.t 75)), o 77 (.call 0 157 [(.t 76)]), o 78 (.fa 7 (.t 3)), o 79 (.ld none (.t 78)), o 80 (.mv (.t 10)), o 81 (.ia 5 (.t 79) (.t 80)), o 82 (.fa 3 (.t 81)), o 83 (.fa 0 (.t 82)),
  o 84 (.ld none (.t 83)), o 85 (.call 0 157 [(.t 84)]), o 86 (.mv (.t 12)), o 87 (.bld [(.int .u64 0), (.int .u64 0), (i 0), nl] [(0, 1, (.t 77)), (1, 1, (.t 85)), (2, 1, (.k (i 2048))), (3, 1, (.t 86))]), o 6 (.mv (.t 74)),
  e (.st 4 (.t 7) (.t 87)), o 8 (.mv (.k (i 0)))], .ret], 88, [.tmp 6, .cell (some 4) 7, .tmp 8]⟩
theorem c201 : chkF Tryz.prog 201 p201 = true := by decide +kernel
/- paling/bridge.Step$1 -/
def p202 : PFn := ⟨[o 4 (.bxm 0 (.t 0)), o 7 (.mv (.t 1)), o 8 (.fa 3 (.t 4)), e (.st 1 (.t 8) (.t 7)), o 9 (.mv (.t 2)), o 10 (.bn .neq 0 (.t 9) (.k (i 0))), .cond (.t 10) [o 11 (.mv (.t 2)), o 12 (.fa 0 (.t 4)),
  e (.st 1 (.t 12) (.k (i 5))), o 13 (.fa 3 (.t 4)), e (.st 1 (.t 13) (.k nl)), o 14 (.fa 8 (.t 4)), e (.st 1 (.t 14) (.t 11))] [], o 15 (.ld none (.t 3)), o 16 (.ld (some 9) (.t 4)), o 17 (.bsl (.agg [(i 0), (i 0), (i 0), nl, (.int .u64 0),
  (.int .u64 0), (i 0), nl, (i 0)]) 1 [(0, (.t 16))]), o 18 (.app 0 9 (.t 15) (.t 17)), e (.st 1 (.t 3) (.t 18))], 19, []⟩
theorem c202 : chkF Tryz.prog 202 p202 = true := by decide +kernel
/- paling/lookup.Decide -/
def p203 : PFn := ⟨[o 6 (.bxd 0 (.t 0)), o 12 (.mv (.k nl)), o 13 (.mv (.k nl)), o 14 (.mv (.k (i 0))), o 21 (.ld (some 8) (.t 6)), o 22 (.mv (.t 1)), o 23 (.mv (.t 3)), o 24 (.mv (.t 4)), o 25 (.call 7 270 [(.t 21), (.t 22), (.t 23),
  (.t 24)]), o 20 (.mv (.t 25)), o 26 (.ext (.t 20) 0), o 27 (.ext (.t 20) 1), o 15 (.mv (.t 26)), o 16 (.mv (.t 27)), o 28 (.mv (.t 16)), o 29 (.un .not (.t 28)), .cond (.t 29) [o 12 (.mv (.k nl)), o 13 (.mv (.k nl)), o 14 (.mv (.k (i 2))),
  .ret] [], o 30 (.mv (.t 5)), o 31 (.call 7 194 [(.t 30)]), o 32 (.un .not (.t 31)), .cond (.t 32) [o 34 (.mv (.t 15)), o 35 (.mv (.t 2)), o 36 (.mv (.t 5)), o 37 (.call 7 279 [(.t 34), (.t 35), (.t 36)]), o 33 (.mv (.t 37)),
  o 38 (.ext (.t 33) 0), o 39 (.ext (.t 33) 1), o 40 (.ext (.t 33) 2), o 17 (.mv (.t 38)), o 18 (.mv (.t 39)), o 19 (.mv (.t 40)), o 41 (.mv (.t 19)), .cond (.t 41) [o 42 (.mv (.t 17)), o 43 (.mv (.t 18)), o 12 (.mv (.t 42)), o 13 (.mv (.t 43)),
  o 14 (.mv (.k (i 0))), .ret] []] [], o 44 (.mv (.t 15)), o 45 (.mv (.t 15)), o 46 (.nc (.t 45)), o 47 (.fa 11 (.t 46)), o 48 (.ld none (.t 47)), o 49 (.call 7 271 [(.t 44), (.t 48)]), o 50 (.mv (.t 15)), o 51 (.call 7 272 [(.t 50)]),
  o 12 (.mv (.t 49)), o 13 (.mv (.t 51)), o 14 (.mv (.k (i 0))), .ret], 52, [.tmp 12, .tmp 13, .tmp 14]⟩
theorem c203 : chkF Tryz.prog 203 p203 = true := by decide +kernel
/- paling/leave.At -/
def p204 : PFn := ⟨[o 4 (.bxd 0 (.t 0)), o 7 (.bxd 0 (.t 3)), o 8 (.mv (.k nl)), o 9 (.mv (.k (i 0))), o 14 (.mv (.t 1)), o 15 (.fa 1 (.t 4)), o 16 (.ld none (.t 15)), o 17 (.len false (.t 16)), o 18 (.call 7 280 [(.t 14), (.t 17)]),
  o 19 (.un .not (.t 18)), o 20 (.mv (.t 19)), g 21 20 false (.mv (.t 2)), g 22 20 false (.fa 3 (.t 4)), g 23 20 false (.ld none (.t 22)), g 24 20 false (.len false (.t 23)), g 25 20 false (.call 7 280 [(.t 21), (.t 24)]),
  g 26 20 false (.un .not (.t 25)), o 27 (.pick (.t 20) (.k (.bool true)) (.t 26)), o 28 (.mv (.t 27)), g 29 28 false (.ld (some 8) (.t 4)), g 30 28 false (.call 7 24 [(.t 29)]), g 31 28 false (.un .not (.t 30)),
  o 32 (.pick (.t 28) (.k (.bool true)) (.t 31)), .cond (.t 32) [o 8 (.mv (.k nl)), o 9 (.mv (.k (i 2))), .ret] [], .draw 2 [0, 1, 2, 3, 4, 5, 6, 7, 8, 9, 10, 11, 12, 13] [(38, 38), (41, 41)] [o 33 (.fa 1 (.t 4)), o 34 (.ld none (.t 33)),
  o 35 (.mv (.t 1)), o 36 (.ia 7 (.t 34) (.t 35)), o 37 (.ld (some 7) (.t 36)), o 38 (.fa 3 (.t 4)), o 39 (.ld none (.t 38)), o 40 (.mv (.t 2)), o 41 (.ia 6 (.t 39) (.t 40)), o 42 (.ld (some 6) (.t 41)), o 10 (.al 1 (.agg [(i 0), (i 0), (i 0),
  (i 0), (i 0), (.str []), nl])), o 11 (.al 2 (.agg [(i 0), (i 0), (i 0), (i 0), (i 0), nl])), .stf 7 10 (.t 37), .stf 6 11 (.t 42)], o 43 (.ld (some 8) (.t 4)), o 44 (.bld [nl, nl, nl, nl, nl, nl, nl, nl] [(0, 8, (.t 43))]),
  o 12 (.al 0 (.agg [nl, nl, nl, nl, nl, nl, nl, nl])), .stf 8 12 (.t 44), o 45 (.ld (some 8) (.t 12)), o 46 (.mf 281 [(.t 45)] []), o 13 (.mv (.t 46)), .block 0 [o 48 (.fa 1 (.t 10)), o 49 (.ld none (.t 48)), o 50 (.fa 0 (.t 11)),
  o 51 (.ld none (.t 50)), o 52 (.bn .neq 0 (.t 49) (.t 51)), o 53 (.mv (.t 52)), g 54 53 false (.ld (some 7) (.t 10)), g 55 53 false (.fa 1 (.t 11)), g 56 53 false (.ld none (.t 55)), g 57 53 false (.call 7 118 [(.t 54), (.t 56)]),
  g 58 53 false (.un .not (.t 57)), o 59 (.pick (.t 53) (.k (.bool true)) (.t 58)), o 47 (.mv (.t 59)), .cond (.t 47) [o 8 (.mv (.k nl)), o 9 (.mv (.k (i 16))), .ret] [o 61 (.ld (some 4) (.t 7)), o 62 (.call 7 159 [(.t 61)]), o 60 (.mv (.t 62)),
  .cond (.t 60) [o 8 (.mv (.k nl)), o 9 (.mv (.k (i 15))), .ret] [o 64 (.fa 1 (.t 11)), o 65 (.ld none (.t 64)), o 66 (.fa 2 (.t 10)), o 67 (.ld none (.t 66)), o 68 (.bn .eql 0 (.t 65) (.t 67)), o 63 (.mv (.t 68)),
  .cond (.t 63) [o 69 (.ld (some 8) (.t 12)), o 70 (.mf 282 [(.t 69)] []), o 13 (.mv (.t 70))] []]]], o 71 (.mv (.t 13)), o 72 (.ld (some 4) (.t 7)), o 73 (.fa 1 (.t 11)), o 74 (.ld none (.t 73)), o 75 (.callv 4 (.t 71) [(.t 72), (.t 74)]),
  o 76 (.ext (.t 75) 0), o 77 (.ext (.t 75) 1), o 8 (.mv (.t 76)), o 9 (.mv (.t 77)), .ret], 78, [.tmp 8, .tmp 9]⟩
theorem c204 : chkF Tryz.prog 204 p204 = true := by decide +kernel
/- paling/leave.Mesh -/
def p205 : PFn := ⟨[o 4 (.bxd 0 (.t 0)), o 7 (.bxd 0 (.t 3)), o 8 (.mv (.k nl)), o 9 (.mv (.k (i 0))), o 11 (.mv (.t 2)), o 12 (.fa 3 (.t 4)), o 13 (.ld none (.t 12)), o 14 (.len false (.t 13)), o 15 (.call 7 280 [(.t 11), (.t 14)]),
  o 16 (.un .not (.t 15)), o 17 (.mv (.t 16)), g 18 17 false (.mv (.t 1)), g 19 17 false (.fa 3 (.t 4)), g 20 17 false (.ld none (.t 19)), g 21 17 false (.len false (.t 20)), g 22 17 false (.call 7 280 [(.t 18), (.t 21)]),
  g 23 17 false (.un .not (.t 22)), o 24 (.pick (.t 17) (.k (.bool true)) (.t 23)), o 25 (.mv (.t 24)), g 26 25 false (.ld (some 8) (.t 4)), g 27 25 false (.call 7 24 [(.t 26)]), g 28 25 false (.un .not (.t 27)),
  o 29 (.pick (.t 25) (.k (.bool true)) (.t 28)), .cond (.t 29) [o 8 (.mv (.k nl)), o 9 (.mv (.k (i 2))), .ret] [], o 30 (.fa 3 (.t 4)), o 31 (.ld none (.t 30)), o 32 (.mv (.t 1)), o 33 (.ia 6 (.t 31) (.t 32)), o 34 (.fa 5 (.t 33)),
  o 35 (.ld none (.t 34)), o 36 (.mv (.t 2)), o 37 (.call 7 72 [(.t 35), (.t 36)]), o 38 (.un .not (.t 37)), .cond (.t 38) [o 8 (.mv (.k nl)), o 9 (.mv (.k (i 17))), .ret] [], o 39 (.ld (some 8) (.t 4)), o 40 (.bld [nl, nl, nl, nl, nl, nl, nl,
  nl] [(0, 8, (.t 39))]), o 10 (.al 0 (.agg [nl, nl, nl, nl, nl, nl, nl, nl])), .stf 8 10 (.t 40), .draw 0 [0, 1, 2, 3, 4, 5, 6, 7, 8, 9, 10, 11, 12, 13, 14, 15, 16, 17] [] [o 41 (.ld (some 8) (.t 10)), o 42 (.mv (.t 1)),
  o 43 (.call 0 284 [(.t 41), (.t 42)]), o 44 (.ld (some 8) (.t 10)), o 45 (.mv (.t 2)), o 46 (.call 0 284 [(.t 44), (.t 45)]), o 47 (.fa 3 (.t 4)), o 48 (.ld none (.t 47)), o 49 (.mv (.t 1)), o 50 (.ia 6 (.t 48) (.t 49)), o 51 (.fa 2 (.t 50)),
  o 52 (.ld none (.t 51)), o 53 (.ld (some 4) (.t 7)), o 54 (.call 7 283 [(.t 43), (.t 46), (.t 52), (.t 53)]), o 55 (.ext (.t 54) 0), o 56 (.ext (.t 54) 1), o 8 (.mv (.t 55)), o 9 (.mv (.t 56))], .ret], 57, [.tmp 8, .tmp 9]⟩
theorem c205 : chkF Tryz.prog 205 p205 = true := by decide +kernel
/- (*paling/sim.spanning).links$1 -/
def p206 : PFn := ⟨[.draw 0 [0, 1, 2, 3, 4, 5, 6, 7, 8, 9, 10, 11, 12] [] [o 3 (.ld none (.t 1)), o 4 (.ld (some 8) (.t 0)), o 5 (.ld none (.t 1)), o 6 (.nc (.t 5)), o 7 (.fa 0 (.t 6)), o 8 (.ld none (.t 7)), o 9 (.call 0 77 [(.t 4),
  (.t 8)]), o 2 (.mv (.t 9)), o 10 (.ext (.t 2) 0), o 11 (.ext (.t 2) 1), o 12 (.nc (.t 3)), o 13 (.fa 4 (.t 12)), e (.st 1 (.t 13) (.t 10))]], 14, []⟩
theorem c206 : chkF Tryz.prog 206 p206 = true := by decide +kernel
/- (*sync/atomic.Int64).Add -/
def p207 : PFn := ⟨[o 4 (.mv (.k (i 0))), o 5 (.mv (.t 0)), o 6 (.nc (.t 5)), o 7 (.fa 0 (.t 6)), o 8 (.mv (.t 1)), o 9 (.call 4 285 [(.t 7), (.t 8)]), o 4 (.mv (.t 9)), .ret], 10, [.tmp 4]⟩
theorem c207 : chkF Tryz.prog 207 p207 = true := by decide +kernel
/- paling/leave.Link -/
def p208 : PFn := ⟨[o 3 (.bxd 0 (.t 0)), o 6 (.mv (.k (i 0))), o 7 (.mv (.k (i 0))), o 8 (.al 0 (.agg [(.int .u64 0), (.int .u64 0), (i 0), nl])), o 9 (.mv (.k (i 0))), o 10 (.ld (some 8) (.t 3)), o 11 (.mv (.t 1)),
  o 12 (.call 7 286 [(.t 10), (.t 11)]), o 6 (.mv (.t 12)), o 13 (.mv (.t 6)), o 14 (.bn .lss 0 (.t 13) (.k (i 0))), .cond (.t 14) [o 15 (.bld [(.int .u64 0), (.int .u64 0), (i 0), nl] []), o 6 (.mv (.k (i 0))), o 7 (.mv (.k (i 0))),
  e (.st 4 (.t 8) (.t 15)), o 9 (.mv (.k (i 2))), .ret] [], o 17 (.ld (some 8) (.t 3)), o 18 (.mv (.t 6)), o 19 (.mv (.t 2)), o 20 (.call 7 145 [(.t 17), (.t 18), (.t 19)]), o 16 (.mv (.t 20)), o 21 (.ext (.t 16) 0), o 22 (.ext (.t 16) 1),
  o 23 (.ext (.t 16) 2), o 7 (.mv (.t 21)), e (.st 4 (.t 8) (.t 22)), o 9 (.mv (.t 23)), .draw 0 [0, 1, 2, 3, 4, 5, 6, 7] [] [o 24 (.mv (.t 6)), o 25 (.mv (.t 7)), o 26 (.ld (some 4) (.t 8)), o 27 (.mv (.t 9)), o 6 (.mv (.t 24)),
  o 7 (.mv (.t 25)), e (.st 4 (.t 8) (.t 26)), o 9 (.mv (.t 27))], .ret], 28, [.tmp 6, .tmp 7, .cell (some 4) 8, .tmp 9]⟩
theorem c208 : chkF Tryz.prog 208 p208 = true := by decide +kernel
/- paling/leave.Come -/
def p209 : PFn := ⟨[o 2 (.bxd 0 (.t 0)), o 4 (.mv (.k (i 0))), o 5 (.mv (.k (i 0))), o 6 (.al 0 (.agg [(.int .u64 0), (.int .u64 0), (i 0), nl])), o 7 (.mv (.k (i 0))), o 11 (.ld (some 8) (.t 2)), o 12 (.call 7 24 [(.t 11)]),
  o 13 (.un .not (.t 12)), .cond (.t 13) [o 14 (.bld [(.int .u64 0), (.int .u64 0), (i 0), nl] []), o 4 (.mv (.k (i 0))), o 5 (.mv (.k (i 0))), e (.st 4 (.t 6) (.t 14)), o 7 (.mv (.k (i 2))), .ret] [], o 16 (.mv (.t 1)),
  o 17 (.call 7 287 [(.t 16)]), o 15 (.mv (.t 17)), o 18 (.ext (.t 15) 0), o 19 (.ext (.t 15) 1), o 20 (.ext (.t 15) 2), o 21 (.ext (.t 15) 3), o 22 (.ext (.t 15) 4), o 8 (.mv (.t 18)), o 9 (.mv (.t 19)), o 10 (.mv (.t 20)),
  e (.st 4 (.t 6) (.t 21)), o 7 (.mv (.t 22)), o 23 (.mv (.t 7)), o 24 (.bn .neq 0 (.t 23) (.k (i 0))), .cond (.t 24) [o 25 (.bld [(.int .u64 0), (.int .u64 0), (i 0), nl] []), o 26 (.mv (.t 7)), o 4 (.mv (.k (i 0))), o 5 (.mv (.k (i 0))),
  e (.st 4 (.t 6) (.t 25)), o 7 (.mv (.t 26)), .ret] [], o 28 (.ld (some 8) (.t 2)), o 29 (.bld [nl, nl, nl, nl, nl, nl, nl, nl] [(0, 8, (.t 28))]), o 30 (.mv (.t 8)), o 31 (.mv (.t 9)), o 32 (.mv (.t 10)), o 33 (.call 7 288 [(.t 29), (.t 30),
  (.t 31), (.t 32)]), o 27 (.mv (.t 33)), o 34 (.ext (.t 27) 0), o 35 (.ext (.t 27) 1), o 4 (.mv (.t 34)), o 5 (.mv (.t 35)), .block 0 [o 37 (.mv (.t 4)), o 38 (.bn .lss 0 (.t 37) (.k (i 0))), o 36 (.mv (.t 38)),
  .cond (.t 36) [o 39 (.bld [(.int .u64 0), (.int .u64 0), (i 0), nl] []), o 4 (.mv (.k (i 0))), o 5 (.mv (.k (i 0))), e (.st 4 (.t 6) (.t 39)), o 7 (.mv (.k (i 17))), .ret] [o 41 (.fa 1 (.t 6)), o 42 (.ld none (.t 41)),
  o 43 (.call 7 194 [(.t 42)]), o 40 (.mv (.t 43)), .cond (.t 40) [o 44 (.bld [(.int .u64 0), (.int .u64 0), (i 0), nl] []), o 4 (.mv (.k (i 0))), o 5 (.mv (.k (i 0))), e (.st 4 (.t 6) (.t 44)), o 7 (.mv (.k (i 11))), .ret] []]], .draw 0 [0, 1,
  2, 3, 4, 5, 6] [] [o 45 (.mv (.t 4)), o 46 (.mv (.t 5)), o 47 (.ld (some 4) (.t 6)), o 4 (.mv (.t 45)), o 5 (.mv (.t 46)), e (.st 4 (.t 6) (.t 47)), o 7 (.mv (.k (i 0)))], .ret], 48, [.tmp 4, .tmp 5, .cell (some 4) 6, .tmp 7]⟩
theorem c209 : chkF Tryz.prog 209 p209 = true := by decide +kernel
/- paling/table.timely -/
def p211 : PFn := ⟨[o 2 (.mv (.k (.bool false))), o 3 (.mv (.t 0)), o 4 (.bn .geq 0 (.t 3) (.k (i 0))), o 5 (.mv (.t 4)), g 6 5 true (.mv (.t 0)), g 7 5 true (.bn .leq 0 (.t 6) (.k (i 1099511627776))),
  o 8 (.pick (.t 5) (.t 7) (.k (.bool false))), o 2 (.mv (.t 8)), .ret], 9, [.tmp 2]⟩
theorem c211 : chkF Tryz.prog 211 p211 = true := by decide +kernel
/- slices.DeleteFunc[[]paling/api.Entry,paling/api.Entry] -/
def p212 : PFn := ⟨[o 4 (.mv (.k nl)), o 8 (.mv (.t 0)), o 9 (.mv (.t 1)), o 10 (.call 7 289 [(.t 8), (.t 9)]), o 5 (.mv (.t 10)), o 11 (.mv (.t 5)), o 12 (.bn .eql 0 (.t 11) (.k (i (-1)))), .cond (.t 12) [o 13 (.mv (.t 0)),
  o 4 (.mv (.t 13)), .ret] [], o 14 (.mv (.t 5)), o 15 (.bn .add 0 (.t 14) (.k (i 1))), o 6 (.mv (.t 15)), .block 0 [.loop [o 16 (.mv (.t 6)), o 17 (.mv (.t 0)), o 18 (.len false (.t 17)), o 19 (.bn .lss 0 (.t 16) (.t 18)),
  .cond (.t 19) [] [.exit 0], .block 1 [o 22 (.mv (.t 0)), o 23 (.mv (.t 6)), o 24 (.ia 3 (.t 22) (.t 23)), o 25 (.ld (some 3) (.t 24)), o 7 (.al 0 (.agg [(.int .u64 0), (i 0), (i 0)])), .stf 3 7 (.t 25), o 26 (.mv (.t 1)),
  o 27 (.ld (some 3) (.t 7)), o 28 (.callv 4 (.t 26) [(.t 27)]), o 29 (.un .not (.t 28)), .cond (.t 29) [o 30 (.mv (.t 0)), o 31 (.mv (.t 5)), o 32 (.ld (some 3) (.t 7)), o 33 (.ia 3 (.t 30) (.t 31)), e (.st 3 (.t 33) (.t 32)),
  o 34 (.mv (.t 5)), o 35 (.bn .add 0 (.t 34) (.k (i 1))), o 5 (.mv (.t 35))] []], o 20 (.mv (.t 6)), o 21 (.bn .add 0 (.t 20) (.k (i 1))), o 6 (.mv (.t 21))]], o 36 (.mv (.t 0)), o 37 (.mv (.t 5)), o 38 (.sl 3 (.t 36) (some (.t 37)) none none),
  e (.clr (.agg [(.int .u64 0), (i 0), (i 0)]) (.t 38)), o 39 (.mv (.t 0)), o 40 (.mv (.t 5)), o 41 (.sl 3 (.t 39) none (some (.t 40)) none), o 4 (.mv (.t 41)), .ret], 42, [.tmp 4]⟩
theorem c212 : chkF Tryz.prog 212 p212 = true := by decide +kernel
/- paling/table.Age$1 -/
def p213 : PFn := ⟨[o 2 (.bxd 0 (.t 0)), o 3 (.mv (.k (.bool false))), o 4 (.fa 2 (.t 2)), o 5 (.ld none (.t 4)), o 6 (.ld none (.t 1)), o 7 (.bn .sub 0 (.t 6) (.k (i 4))), o 8 (.bn .lss 0 (.t 5) (.t 7)), o 3 (.mv (.t 8)), .ret], 9,
  [.tmp 3]⟩
theorem c213 : chkF Tryz.prog 213 p213 = true := by decide +kernel
/- paling/ether.Copy -/
def p214 : PFn := ⟨[o 1 (.bxm 0 (.t 0)), o 2 (.al 0 (.agg [(.int .u64 0), (.int .u64 0), (i 0), nl])), o 4 (.fa 3 (.t 1)), o 5 (.ld none (.t 4)), o 6 (.len false (.t 5)), o 7 (.mk 0 (u 0) (.t 6) (.t 6)), o 3 (.mv (.t 7)), o 8 (.mv (.t 3)),
  o 9 (.fa 3 (.t 1)), o 10 (.ld none (.t 9)), o 11 (.cpy 1 (.t 8) (.t 10)), o 12 (.mv (.t 3)), o 13 (.fa 3 (.t 1)), e (.st 1 (.t 13) (.t 12)), o 14 (.ld (some 4) (.t 1)), .stf 4 2 (.t 14), .ret], 15, [.cell (some 4) 2]⟩
theorem c214 : chkF Tryz.prog 214 p214 = true := by decide +kernel
/- paling/ipv4.Put$1 -/
def p215 : PFn := ⟨[o 4 (.mv (.k (.bool false))), o 5 (.mv (.t 0)), o 6 (.bn .geq 0 (.t 5) (.k (i 0))), o 7 (.mv (.t 6)), g 8 7 true (.mv (.t 0)), g 9 7 true (.mv (.t 1)), g 10 7 true (.bn .leq 0 (.t 8) (.t 9)),
  o 11 (.pick (.t 7) (.t 10) (.k (.bool false))), o 4 (.mv (.t 11)), .ret], 12, [.tmp 4]⟩
theorem c215 : chkF Tryz.prog 215 p215 = true := by decide +kernel
/- paling/ipv4.put -/
def p216 : PFn := ⟨[o 4 (.mv (.k nl)), o 7 (.mv (.t 1)), o 8 (.len false (.t 7)), o 9 (.mv (.k (i 0))), .block 0 [.loop [o 10 (.bn .lss 0 (.t 9) (.t 8)), .cond (.t 10) [] [.exit 0], .block 1 [o 11 (.ia 1 (.t 7) (.t 9)),
  o 12 (.ld none (.t 11)), o 6 (.mv (.t 12)), o 13 (.mv (.t 0)), o 14 (.mv (.t 6)), o 15 (.bn .shr 0 (.t 14) (.k (.int .u64 8))), o 16 (.cv .u8 (.t 15)), o 17 (.mv (.t 6)), o 18 (.cv .u8 (.t 17)), o 19 (.bsl (u 0) 2 [(0, (.t 16)), (1,
  (.t 18))]), o 20 (.app 0 1 (.t 13) (.t 19)), o 0 (.mv (.t 20))], o 21 (.bn .add 0 (.t 9) (.k (i 1))), o 9 (.mv (.t 21))]], o 22 (.mv (.t 0)), o 4 (.mv (.t 22)), .ret], 23, [.tmp 4]⟩
theorem c216 : chkF Tryz.prog 216 p216 = true := by decide +kernel
/- paling/sum.Of -/
def p217 : PFn := ⟨[o 2 (.mv (.k (i 0))), o 3 (.mv (.t 0)), o 4 (.call 7 290 [(.t 3)]), o 5 (.bn .sub 0 (.k (i 65535)) (.t 4)), o 2 (.mv (.t 5)), .ret], 6, [.tmp 2]⟩
theorem c217 : chkF Tryz.prog 217 p217 = true := by decide +kernel
/- paling/mac.shift -/
def p218 : PFn := ⟨[o 2 (.mv (.k (.int .u64 0))), o 3 (.mv (.t 0)), o 4 (.bn .sub 0 (.k (i 5)) (.t 3)), o 5 (.bn .mul 0 (.k (i 8)) (.t 4)), o 6 (.cv .u64 (.t 5)), o 2 (.mv (.t 6)), .ret], 7, [.tmp 2]⟩
theorem c218 : chkF Tryz.prog 218 p218 = true := by decide +kernel
/- strings.TrimPrefix -/
def p219 : PFn := ⟨[o 4 (.mv (.k (.str []))), o 5 (.mv (.t 0)), o 6 (.mv (.t 1)), o 7 (.call 7 291 [(.t 5), (.t 6)]), o 4 (.mv (.t 7)), .ret], 8, [.tmp 4]⟩
theorem c219 : chkF Tryz.prog 219 p219 = true := by decide +kernel
/- paling/num.Text -/
def p220 : PFn := ⟨[o 2 (.mv (.k (.str []))), o 3 (.mv (.k nl)), o 8 (.mv (.t 0)), o 9 (.cv .u64 (.t 8)), o 4 (.mv (.t 9)), o 10 (.mv (.t 0)), o 11 (.bn .lss 0 (.t 10) (.k (i 0))), .cond (.t 11) [o 12 (.mv (.t 4)), o 13 (.un .neg (.t 12)),
  o 4 (.mv (.t 13))] [], o 5 (.mv (.k (.bool true))), .block 0 [.loop [o 14 (.mv (.t 5)), .cond (.t 14) [] [.exit 0], .block 1 [o 17 (.mv (.t 3)), o 18 (.mv (.t 4)), o 19 (.bn .rem 0 (.t 18) (.k (.int .u64 10))),
  o 20 (.bn .add 0 (.k (.int .u64 48)) (.t 19)), o 21 (.cv .u8 (.t 20)), o 22 (.bsl (u 0) 1 [(0, (.t 21))]), o 23 (.app 0 1 (.t 17) (.t 22)), o 3 (.mv (.t 23)), o 24 (.mv (.t 4)), o 25 (.bn .quo 0 (.t 24) (.k (.int .u64 10))),
  o 4 (.mv (.t 25))], o 15 (.mv (.t 4)), o 16 (.bn .gtr 0 (.t 15) (.k (.int .u64 0))), o 5 (.mv (.t 16))]], o 26 (.mv (.t 0)), o 27 (.bn .lss 0 (.t 26) (.k (i 0))), .cond (.t 27) [o 28 (.mv (.t 3)), o 29 (.bsl (u 0) 1 [(0, (.k (u 45)))]),
  o 30 (.app 0 1 (.t 28) (.t 29)), o 3 (.mv (.t 30))] [], o 31 (.mv (.t 3)), o 32 (.len false (.t 31)), o 33 (.bn .sub 0 (.t 32) (.k (i 1))), o 6 (.mv (.k (i 0))), o 7 (.mv (.t 33)), .block 2 [.loop [o 34 (.mv (.t 6)), o 35 (.mv (.t 7)),
  o 36 (.bn .lss 0 (.t 34) (.t 35)), .cond (.t 36) [] [.exit 2], .block 3 [.draw 0 [0, 1, 2, 3, 4, 5, 6, 7, 8, 9, 10, 11, 12, 13, 14, 15] [] [o 41 (.mv (.t 3)), o 42 (.mv (.t 6)), o 43 (.mv (.t 3)), o 44 (.mv (.t 7)), o 45 (.mv (.t 3)),
  o 46 (.mv (.t 7)), o 47 (.ia 1 (.t 45) (.t 46)), o 48 (.ld none (.t 47)), o 49 (.mv (.t 3)), o 50 (.mv (.t 6)), o 51 (.ia 1 (.t 49) (.t 50)), o 52 (.ld none (.t 51)), o 53 (.ia 1 (.t 41) (.t 42)), e (.st 1 (.t 53) (.t 48)),
  o 54 (.ia 1 (.t 43) (.t 44)), e (.st 1 (.t 54) (.t 52))]], o 37 (.mv (.t 6)), o 38 (.bn .add 0 (.t 37) (.k (i 1))), o 39 (.mv (.t 7)), o 40 (.bn .sub 0 (.t 39) (.k (i 1))), o 6 (.mv (.t 38)), o 7 (.mv (.t 40))]], o 55 (.mv (.t 3)),
  o 56 (.b2s (.t 55)), o 2 (.mv (.t 56)), .ret], 57, [.tmp 2]⟩
theorem c220 : chkF Tryz.prog 220 p220 = true := by decide +kernel
/- paling/mac.digit -/
def p221 : PFn := ⟨[o 2 (.mv (.k (.int .u64 0))), .block 0 [o 4 (.mv (.t 0)), o 5 (.bn .geq 0 (.t 4) (.k (u 48))), o 6 (.mv (.t 5)), g 7 6 true (.mv (.t 0)), g 8 6 true (.bn .leq 0 (.t 7) (.k (u 57))),
  o 9 (.pick (.t 6) (.t 8) (.k (.bool false))), o 3 (.mv (.t 9)), .cond (.t 3) [o 10 (.mv (.t 0)), o 11 (.bn .sub 0 (.t 10) (.k (u 48))), o 12 (.cv .u64 (.t 11)), o 2 (.mv (.t 12)), .ret] [o 14 (.mv (.t 0)),
  o 15 (.bn .geq 0 (.t 14) (.k (u 97))), o 16 (.mv (.t 15)), g 17 16 true (.mv (.t 0)), g 18 16 true (.bn .leq 0 (.t 17) (.k (u 102))), o 19 (.pick (.t 16) (.t 18) (.k (.bool false))), o 13 (.mv (.t 19)), .cond (.t 13) [o 20 (.mv (.t 0)),
  o 21 (.bn .sub 0 (.t 20) (.k (u 97))), o 22 (.cv .u64 (.t 21)), o 23 (.bn .add 0 (.t 22) (.k (.int .u64 10))), o 2 (.mv (.t 23)), .ret] []]], o 2 (.mv (.k (.int .u64 16))), .ret], 24, [.tmp 2]⟩
theorem c221 : chkF Tryz.prog 221 p221 = true := by decide +kernel
/- paling/mac.IsHost -/
def p222 : PFn := ⟨[o 2 (.mv (.k (.int .u32 0))), o 3 (.mv (.k (.bool false))), o 4 (.mv (.t 0)), o 5 (.bn .and 0 (.t 4) (.k (.int .u64 281474976710655))), o 0 (.mv (.t 5)), o 6 (.mv (.t 0)), o 7 (.bn .shr 0 (.t 6) (.k (.int .u64 32))),
  o 8 (.bn .neq 0 (.t 7) (.k (.int .u64 512))), .cond (.t 8) [o 2 (.mv (.k (.int .u32 0))), o 3 (.mv (.k (.bool false))), .ret] [], o 9 (.mv (.t 0)), o 10 (.cv .u32 (.t 9)), o 2 (.mv (.t 10)), o 3 (.mv (.k (.bool true))), .ret], 11, [.tmp 2,
  .tmp 3]⟩
theorem c222 : chkF Tryz.prog 222 p222 = true := by decide +kernel
/- strings.splitSeq -/
def p223 : PFn := ⟨[o 3 (.bxm 0 (.t 0)), o 4 (.bxm 0 (.t 1)), o 5 (.bxm 0 (.t 2)), o 6 (.mv (.k .nfun)), o 7 (.mf 292 [] [(.t 4), (.t 3), (.t 5)]), o 6 (.mv (.t 7)), .ret], 8, [.tmp 6]⟩
theorem c223 : chkF Tryz.prog 223 p223 = true := by decide +kernel
/- paling/num.read[int] -/
def p224 : PFn := ⟨[o 4 (.mv (.k nl)), o 5 (.mv (.k (.bool false))), o 6 (.mv (.k nl)), o 7 (.mv (.k (.bool true))), .block 0 [.loop [o 11 (.mv (.t 7)), .cond (.t 11) [] [.exit 0], .block 1 [o 8 (.mv (.k (.str []))), o 13 (.mv (.t 0)),
  o 14 (.call 7 42 [(.t 13), (.k (.str [44]))]), o 12 (.mv (.t 14)), o 15 (.ext (.t 12) 0), o 16 (.ext (.t 12) 1), o 17 (.ext (.t 12) 2), o 8 (.mv (.t 15)), o 0 (.mv (.t 16)), o 7 (.mv (.t 17)), o 19 (.mv (.t 1)), o 20 (.mv (.t 8)),
  o 21 (.callv 4 (.t 19) [(.t 20)]), o 18 (.mv (.t 21)), o 22 (.ext (.t 18) 0), o 23 (.ext (.t 18) 1), o 9 (.mv (.t 22)), o 10 (.mv (.t 23)), o 24 (.mv (.t 10)), o 25 (.un .not (.t 24)), o 26 (.mv (.t 25)), g 27 26 false (.mv (.t 6)),
  g 28 26 false (.len false (.t 27)), g 29 26 false (.bn .eql 0 (.t 28) (.k (i 16))), o 30 (.pick (.t 26) (.k (.bool true)) (.t 29)), o 31 (.mv (.t 30)), g 32 31 false (.mv (.t 6)), g 33 31 false (.len false (.t 32)),
  g 34 31 false (.bn .gtr 0 (.t 33) (.k (i 0))), g 35 31 false (.mv (.t 34)), g 36 35 true (.mv (.t 6)), g 37 35 true (.mv (.t 6)), g 38 35 true (.len false (.t 37)), g 39 35 true (.bn .sub 0 (.t 38) (.k (i 1))),
  g 40 35 true (.ia 1 (.t 36) (.t 39)), g 41 35 true (.ld none (.t 40)), g 42 35 true (.mv (.t 9)), g 43 35 true (.bn .geq 0 (.t 41) (.t 42)), g 44 31 false (.pick (.t 35) (.t 43) (.k (.bool false))),
  o 45 (.pick (.t 31) (.k (.bool true)) (.t 44)), .cond (.t 45) [o 4 (.mv (.k nl)), o 5 (.mv (.k (.bool false))), .ret] [], o 46 (.mv (.t 6)), o 47 (.mv (.t 9)), o 48 (.bsl (i 0) 1 [(0, (.t 47))]), o 49 (.app 0 1 (.t 46) (.t 48)),
  o 6 (.mv (.t 49))]]], o 50 (.mv (.t 6)), o 4 (.mv (.t 50)), o 5 (.mv (.k (.bool true))), .ret], 51, [.tmp 4, .tmp 5]⟩
theorem c224 : chkF Tryz.prog 224 p224 = true := by decide +kernel
/- paling/num.ReadList$1 -/
def p225 : PFn := ⟨[o 4 (.mv (.k (i 0))), o 5 (.mv (.k (.bool false))), o 6 (.mv (.t 0)), o 7 (.ld none (.t 1)), o 8 (.ld none (.t 2)), o 9 (.call 7 161 [(.t 6), (.t 7), (.t 8)]), o 10 (.ext (.t 9) 0), o 11 (.ext (.t 9) 1),
  o 4 (.mv (.t 10)), o 5 (.mv (.t 11)), .ret], 12, [.tmp 4, .tmp 5]⟩
theorem c225 : chkF Tryz.prog 225 p225 = true := by decide +kernel
/- paling/addr.Right -/
def p226 : PFn := ⟨[o 1 (.bxd 0 (.t 0)), o 2 (.mv (.k (.bool false))), o 3 (.fa 1 (.t 1)), o 4 (.ld none (.t 3)), o 5 (.bn .geq 0 (.t 4) (.k (i 0))), o 6 (.mv (.t 5)), g 7 6 true (.fa 1 (.t 1)), g 8 6 true (.ld none (.t 7)),
  g 9 6 true (.bn .leq 0 (.t 8) (.k (i 32))), o 10 (.pick (.t 6) (.t 9) (.k (.bool false))), o 2 (.mv (.t 10)), .ret], 11, [.tmp 2]⟩
theorem c226 : chkF Tryz.prog 226 p226 = true := by decide +kernel
/- paling/addr.rest -/
def p227 : PFn := ⟨[o 1 (.bxd 0 (.t 0)), o 2 (.mv (.k (.int .u32 0))), o 3 (.fa 1 (.t 1)), o 4 (.ld none (.t 3)), o 5 (.bn .sub 0 (.k (i 32)) (.t 4)), o 6 (.bn .shl 0 (.k (.int .u32 1)) (.t 5)), o 7 (.bn .sub 0 (.t 6) (.k (.int .u32 1))),
  o 2 (.mv (.t 7)), .ret], 8, [.tmp 2]⟩
theorem c227 : chkF Tryz.prog 227 p227 = true := by decide +kernel
/- (*sync.Mutex).Lock -/
def p229 : PFn := ⟨[o 2 (.mv (.t 0)), o 3 (.nc (.t 2)), o 4 (.fa 0 (.t 3)), o 5 (.call 4 295 [(.t 4)])], 6, []⟩
theorem c229 : chkF Tryz.prog 229 p229 = true := by decide +kernel
/- (*sync.Mutex).Unlock -/
def p230 : PFn := ⟨[o 2 (.mv (.t 0)), o 3 (.nc (.t 2)), o 4 (.fa 0 (.t 3)), o 5 (.call 4 296 [(.t 4)])], 6, []⟩
theorem c230 : chkF Tryz.prog 230 p230 = true := by decide +kernel
/- (*sync/atomic.Bool).Store -/
def p231 : PFn := ⟨[.draw 0 [0, 1, 2, 3, 4, 5] [] [o 4 (.mv (.t 0)), o 5 (.nc (.t 4)), o 6 (.fa 0 (.t 5)), o 7 (.mv (.t 1)), o 8 (.call 0 298 [(.t 7)]), o 9 (.call 4 297 [(.t 6), (.t 8)])]], 10, []⟩
theorem c231 : chkF Tryz.prog 231 p231 = true := by decide +kernel
/- paling/ports.Device -/
def p232 : PFn := ⟨[o 2 (.bxd 0 (.t 0)), o 3 (.bxm 0 (.t 1)), o 4 (.al 0 (.agg [nl, nl, nl, nl, nl, nl, nl, nl])), o 5 (.mv (.k (i 0))), o 9 (.ld (some 8) (.t 2)), o 10 (.ld (some 17) (.t 3)), o 11 (.call 8 299 [(.t 9), (.t 10),
  (.k (i 1))]), o 8 (.mv (.t 11)), o 12 (.ext (.t 8) 0), o 13 (.ext (.t 8) 1), o 6 (.mv (.t 12)), o 7 (.mv (.t 13)), .block 0 [o 15 (.mv (.t 7)), o 16 (.un .not (.t 15)), o 14 (.mv (.t 16)), .cond (.t 14) [o 17 (.bld [nl, nl, nl, nl, nl, nl, nl,
  nl] []), e (.st 8 (.t 4) (.t 17)), o 5 (.mv (.k (i 2))), .ret] [o 19 (.mv (.t 6)), o 20 (.nc (.t 19)), o 21 (.fa 0 (.t 20)), o 22 (.fa 0 (.t 21)), o 23 (.ld none (.t 22)), o 24 (.mf 301 [] [(.t 3)]), o 25 (.call 7 300 [(.t 23), (.t 24)]),
  o 18 (.mv (.t 25)), .cond (.t 18) [o 26 (.bld [nl, nl, nl, nl, nl, nl, nl, nl] []), e (.st 8 (.t 4) (.t 26)), o 5 (.mv (.k (i 30))), .ret] [o 28 (.mv (.t 6)), o 29 (.nc (.t 28)), o 30 (.fa 0 (.t 29)), o 31 (.fa 0 (.t 30)),
  o 32 (.ld none (.t 31)), o 33 (.len false (.t 32)), o 34 (.bn .eql 0 (.t 33) (.k (i 8))), o 27 (.mv (.t 34)), .cond (.t 27) [o 35 (.bld [nl, nl, nl, nl, nl, nl, nl, nl] []), e (.st 8 (.t 4) (.t 35)), o 5 (.mv (.k (i 3))), .ret] []]]],
  .draw 0 [0, 1, 2, 3, 4, 5, 6, 7, 8, 9, 10, 11, 12, 13, 14, 15, 16, 17, 18, 19, 20] [] [o 36 (.mv (.t 6)), o 37 (.mv (.t 6)), o 38 (.nc (.t 37)), o 39 (.fa 0 (.t 38)), o 40 (.fa 0 (.t 39)), o 41 (.ld none (.t 40)), o 42 (.fa 0 (.t 3)),
  o 43 (.ld none (.t 42)), o 44 (.fa 11 (.t 3)), o 45 (.ld none (.t 44)), o 46 (.fa 2 (.t 3)), o 47 (.ld none (.t 46)), o 48 (.fa 7 (.t 3)), o 49 (.ld none (.t 48)), o 50 (.bld [(i 0), (i 0), (.str []), (.int .u64 0), (.int .u32 0)] [(0, 1,
  (.t 43)), (1, 1, (.t 45)), (2, 1, (.t 47)), (3, 1, (.t 49))]), o 51 (.bsl (.agg [(i 0), (i 0), (.str []), (.int .u64 0), (.int .u32 0)]) 1 [(0, (.t 50))]), o 52 (.app 0 5 (.t 41) (.t 51)), o 53 (.nc (.t 36)), o 54 (.fa 0 (.t 53)),
  o 55 (.fa 0 (.t 54)), e (.st 1 (.t 55) (.t 52))], o 56 (.mv (.t 6)), o 57 (.nc (.t 56)), o 58 (.fa 0 (.t 57)), o 59 (.ld (some 8) (.t 58)), e (.st 8 (.t 4) (.t 59)), o 5 (.mv (.k (i 0))), .ret], 60, [.cell (some 8) 4, .tmp 5]⟩
theorem c232 : chkF Tryz.prog 232 p232 = true := by decide +kernel
/- paling/ports.Port -/
def p233 : PFn := ⟨[o 2 (.bxd 0 (.t 0)), o 3 (.bxd 0 (.t 1)), o 4 (.al 0 (.agg [nl, nl, nl, nl, nl, nl, nl, nl])), o 5 (.mv (.k (i 0))), o 13 (.ld (some 8) (.t 2)), o 14 (.ld (some 17) (.t 3)), o 15 (.call 8 299 [(.t 13), (.t 14),
  (.k (i 2))]), o 12 (.mv (.t 15)), o 16 (.ext (.t 12) 0), o 17 (.ext (.t 12) 1), o 6 (.mv (.t 16)), o 7 (.mv (.t 17)), o 18 (.mv (.t 7)), o 19 (.un .not (.t 18)), .cond (.t 19) [o 20 (.bld [nl, nl, nl, nl, nl, nl, nl, nl] []),
  e (.st 8 (.t 4) (.t 20)), o 5 (.mv (.k (i 2))), .ret] [], o 21 (.ld (some 8) (.t 2)), o 22 (.fa 2 (.t 3)), o 23 (.ld none (.t 22)), o 24 (.call 7 70 [(.t 21), (.t 23)]), o 8 (.mv (.t 24)), .block 0 [o 26 (.mv (.t 8)),
  o 27 (.bn .lss 0 (.t 26) (.k (i 0))), o 25 (.mv (.t 27)), .cond (.t 25) [o 28 (.bld [nl, nl, nl, nl, nl, nl, nl, nl] []), e (.st 8 (.t 4) (.t 28)), o 5 (.mv (.k (i 31))), .ret] [o 30 (.ld (some 8) (.t 2)), o 31 (.mv (.t 8)),
  o 32 (.fa 3 (.t 3)), o 33 (.ld none (.t 32)), o 34 (.call 7 69 [(.t 30), (.t 31), (.t 33)]), o 35 (.bn .geq 0 (.t 34) (.k (i 0))), o 29 (.mv (.t 35)), .cond (.t 29) [o 36 (.bld [nl, nl, nl, nl, nl, nl, nl, nl] []), e (.st 8 (.t 4) (.t 36)),
  o 5 (.mv (.k (i 30))), .ret] [o 38 (.mv (.t 6)), o 39 (.nc (.t 38)), o 40 (.fa 0 (.t 39)), o 41 (.fa 1 (.t 40)), o 42 (.ld none (.t 41)), o 43 (.len false (.t 42)), o 44 (.bn .eql 0 (.t 43) (.k (i 40))), o 37 (.mv (.t 44)),
  .cond (.t 37) [o 45 (.bld [nl, nl, nl, nl, nl, nl, nl, nl] []), e (.st 8 (.t 4) (.t 45)), o 5 (.mv (.k (i 3))), .ret] []]]], .draw 0 [0, 1, 2, 3, 4, 5, 6, 7, 8, 9, 10, 11, 12, 13, 14, 15, 16, 17, 18, 19, 20, 21, 22, 23,
  24] [] [o 46 (.mv (.t 6)), o 47 (.mv (.t 6)), o 48 (.nc (.t 47)), o 49 (.fa 0 (.t 48)), o 50 (.fa 1 (.t 49)), o 51 (.ld none (.t 50)), o 52 (.fa 0 (.t 3)), o 53 (.ld none (.t 52)), o 54 (.mv (.t 8)), o 55 (.fa 10 (.t 3)),
  o 56 (.ld none (.t 55)), o 57 (.fa 12 (.t 3)), o 58 (.ld none (.t 57)), o 59 (.fa 3 (.t 3)), o 60 (.ld none (.t 59)), o 61 (.fa 13 (.t 3)), o 62 (.ld none (.t 61)), o 63 (.call 0 143 [(.t 62)]), o 64 (.bld [(i 0), (i 0), (i 0), (i 0), (i 0),
  (.str []), nl] [(0, 1, (.t 53)), (1, 1, (.t 54)), (2, 1, (.t 56)), (3, 1, (.t 58)), (4, 1, (.k (i (-1)))), (5, 1, (.t 60)), (6, 1, (.t 63))]), o 65 (.bsl (.agg [(i 0), (i 0), (i 0), (i 0), (i 0), (.str []), nl]) 1 [(0, (.t 64))]),
  o 66 (.app 0 7 (.t 51) (.t 65)), o 67 (.nc (.t 46)), o 68 (.fa 0 (.t 67)), o 69 (.fa 1 (.t 68)), e (.st 1 (.t 69) (.t 66))], o 9 (.mv (.f 302)), o 70 (.mv (.t 9)), o 71 (.mv (.t 6)), o 72 (.mv (.t 8)), o 73 (.fa 10 (.t 3)),
  o 74 (.ld none (.t 73)), o 75 (.callv 4 (.t 70) [(.t 71), (.t 72), (.t 74)]), o 76 (.fa 13 (.t 3)), o 77 (.ld none (.t 76)), o 78 (.len false (.t 77)), o 79 (.mv (.k (i 0))), .block 1 [.loop [o 80 (.bn .lss 0 (.t 79) (.t 78)),
  .cond (.t 80) [] [.exit 1], .block 2 [o 81 (.ia 1 (.t 77) (.t 79)), o 82 (.ld none (.t 81)), o 11 (.mv (.t 82)), o 83 (.mv (.t 9)), o 84 (.mv (.t 6)), o 85 (.mv (.t 8)), o 86 (.mv (.t 11)), o 87 (.callv 4 (.t 83) [(.t 84), (.t 85), (.t 86)])],
  o 88 (.bn .add 0 (.t 79) (.k (i 1))), o 79 (.mv (.t 88))]], o 89 (.mv (.t 6)), o 90 (.nc (.t 89)), o 91 (.fa 0 (.t 90)), o 92 (.fa 3 (.t 91)), o 93 (.ld none (.t 92)), o 94 (.len false (.t 93)), o 95 (.bn .gtr 0 (.t 94) (.k (i 48))),
  .cond (.t 95) [o 96 (.bld [nl, nl, nl, nl, nl, nl, nl, nl] []), e (.st 8 (.t 4) (.t 96)), o 5 (.mv (.k (i 3))), .ret] [], o 97 (.mv (.t 6)), o 98 (.nc (.t 97)), o 99 (.fa 0 (.t 98)), o 100 (.ld (some 8) (.t 99)), e (.st 8 (.t 4) (.t 100)),
  o 5 (.mv (.k (i 0))), .ret], 101, [.cell (some 8) 4, .tmp 5]⟩
theorem c233 : chkF Tryz.prog 233 p233 = true := by decide +kernel
/- paling/links.Add -/
def p234 : PFn := ⟨[o 2 (.bxd 0 (.t 0)), o 3 (.bxd 0 (.t 1)), o 4 (.al 0 (.agg [nl, nl, nl, nl, nl, nl, nl, nl])), o 5 (.mv (.k (i 0))), o 14 (.fa 1 (.t 3)), o 15 (.ld none (.t 14)), o 16 (.bn .neq 0 (.t 15) (.k (i 3))), o 17 (.mv (.t 16)),
  g 18 17 false (.ld (some 17) (.t 3)), g 19 17 false (.call 7 303 [(.t 18)]), g 20 17 false (.un .not (.t 19)), o 21 (.pick (.t 17) (.k (.bool true)) (.t 20)), o 22 (.mv (.t 21)), g 23 22 false (.ld (some 8) (.t 2)),
  g 24 22 false (.call 7 24 [(.t 23)]), g 25 22 false (.un .not (.t 24)), o 26 (.pick (.t 22) (.k (.bool true)) (.t 25)), .cond (.t 26) [o 27 (.bld [nl, nl, nl, nl, nl, nl, nl, nl] []), e (.st 8 (.t 4) (.t 27)), o 5 (.mv (.k (i 2))), .ret] [],
  .draw 1 [0, 1, 2, 3, 4, 5, 6, 7, 8, 9, 10, 11, 12, 13, 14] [] [o 28 (.ld (some 8) (.t 2)), o 29 (.fa 2 (.t 3)), o 30 (.ld none (.t 29)), o 31 (.fa 3 (.t 3)), o 32 (.ld none (.t 31)), o 33 (.call 0 304 [(.t 28), (.t 30), (.t 32)]),
  o 34 (.ld (some 8) (.t 2)), o 35 (.fa 4 (.t 3)), o 36 (.ld none (.t 35)), o 37 (.fa 5 (.t 3)), o 38 (.ld none (.t 37)), o 39 (.call 0 304 [(.t 34), (.t 36), (.t 38)]), o 40 (.bld [(i 0), (i 0)] [(0, 1, (.t 33)), (1, 1, (.t 39))]),
  o 6 (.al 1 (.agg [(i 0), (i 0)])), .stf 2 6 (.t 40)], o 41 (.ld (some 2) (.t 6)), o 42 (.mv (.k (i 0))), .block 0 [.loop [o 43 (.bn .lss 0 (.t 42) (.k (i 2))), .cond (.t 43) [] [.exit 0], .block 1 [o 44 (.ixa 2 1 false (.t 41) (.t 42)),
  o 8 (.mv (.t 44)), o 45 (.mv (.t 8)), o 46 (.bn .lss 0 (.t 45) (.k (i 0))), .cond (.t 46) [o 47 (.bld [nl, nl, nl, nl, nl, nl, nl, nl] []), e (.st 8 (.t 4) (.t 47)), o 5 (.mv (.k (i 31))), .ret] []], o 48 (.bn .add 0 (.t 42) (.k (i 1))),
  o 42 (.mv (.t 48))]], .draw 2 [0, 1, 2, 3, 4, 5, 6, 7, 8, 9, 10, 11, 12, 13, 14, 15] [(55, 55), (57, 57), (59, 59)] [o 49 (.fa 1 (.t 2)), o 50 (.ld none (.t 49)), o 51 (.iaa 2 1 (.t 6) (.k (i 0))), o 52 (.ld none (.t 51)),
  o 53 (.ia 7 (.t 50) (.t 52)), o 54 (.ld (some 7) (.t 53)), o 55 (.fa 1 (.t 2)), o 56 (.ld none (.t 55)), o 57 (.iaa 2 1 (.t 6) (.k (i 1))), o 58 (.ld none (.t 57)), o 59 (.ia 7 (.t 56) (.t 58)), o 60 (.ld (some 7) (.t 59)),
  o 9 (.al 1 (.agg [(i 0), (i 0), (i 0), (i 0), (i 0), (.str []), nl])), o 10 (.al 2 (.agg [(i 0), (i 0), (i 0), (i 0), (i 0), (.str []), nl])), .stf 7 9 (.t 54), .stf 7 10 (.t 60)], .block 2 [o 62 (.fa 1 (.t 9)), o 63 (.ld none (.t 62)),
  o 64 (.fa 1 (.t 10)), o 65 (.ld none (.t 64)), o 66 (.bn .eql 0 (.t 63) (.t 65)), o 67 (.mv (.t 66)), g 68 67 false (.fa 4 (.t 9)), g 69 67 false (.ld none (.t 68)), g 70 67 false (.bn .geq 0 (.t 69) (.k (i 0))),
  o 71 (.pick (.t 67) (.k (.bool true)) (.t 70)), o 72 (.mv (.t 71)), g 73 72 false (.fa 4 (.t 10)), g 74 72 false (.ld none (.t 73)), g 75 72 false (.bn .geq 0 (.t 74) (.k (i 0))), o 76 (.pick (.t 72) (.k (.bool true)) (.t 75)),
  o 61 (.mv (.t 76)), .cond (.t 61) [o 77 (.bld [nl, nl, nl, nl, nl, nl, nl, nl] []), e (.st 8 (.t 4) (.t 77)), o 5 (.mv (.k (i 33))), .ret] [o 79 (.fa 2 (.t 2)), o 80 (.ld none (.t 79)), o 81 (.len false (.t 80)),
  o 82 (.bn .eql 0 (.t 81) (.k (i 20))), o 78 (.mv (.t 82)), .cond (.t 78) [o 83 (.bld [nl, nl, nl, nl, nl, nl, nl, nl] []), e (.st 8 (.t 4) (.t 83)), o 5 (.mv (.k (i 3))), .ret] []]], o 84 (.ld (some 8) (.t 2)), o 85 (.call 8 78 [(.t 84)]),
  o 11 (.al 0 (.agg [nl, nl, nl, nl, nl, nl, nl, nl])), e (.st 8 (.t 11) (.t 85)), o 86 (.ld (some 2) (.t 6)), o 87 (.mv (.k (i 0))), .block 3 [.loop [o 88 (.bn .lss 0 (.t 87) (.k (i 2))), .cond (.t 88) [] [.exit 3],
  .block 4 [o 89 (.ixa 2 1 false (.t 86) (.t 87)), o 13 (.mv (.t 89)), o 90 (.fa 1 (.t 11)), o 91 (.ld none (.t 90)), o 92 (.mv (.t 13)), o 93 (.fa 2 (.t 11)), o 94 (.ld none (.t 93)), o 95 (.len false (.t 94)), o 96 (.ia 7 (.t 91) (.t 92)),
  o 97 (.fa 4 (.t 96)), e (.st 1 (.t 97) (.t 95))], o 98 (.bn .add 0 (.t 87) (.k (i 1))), o 87 (.mv (.t 98))]], o 99 (.fa 2 (.t 11)), o 100 (.ld none (.t 99)), o 101 (.fa 0 (.t 3)), o 102 (.ld none (.t 101)), o 103 (.iaa 2 1 (.t 6) (.k (i 0))),
  o 104 (.ld none (.t 103)), o 105 (.iaa 2 1 (.t 6) (.k (i 1))), o 106 (.ld none (.t 105)), o 107 (.bld [(i 0), (i 0), (i 0)] [(0, 1, (.t 102)), (1, 1, (.t 104)), (2, 1, (.t 106))]), o 108 (.bsl (.agg [(i 0), (i 0), (i 0)]) 1 [(0, (.t 107))]),
  o 109 (.app 0 3 (.t 100) (.t 108)), o 110 (.fa 2 (.t 11)), e (.st 1 (.t 110) (.t 109)), o 111 (.ld (some 8) (.t 11)), e (.st 8 (.t 4) (.t 111)), o 5 (.mv (.k (i 0))), .ret], 112, [.cell (some 8) 4, .tmp 5]⟩
theorem c234 : chkF Tryz.prog 234 p234 = true := by decide +kernel
/- paling/domains.Static -/
def p235 : PFn := ⟨[o 2 (.bxd 0 (.t 0)), o 3 (.bxd 0 (.t 1)), o 4 (.al 0 (.agg [nl, nl, nl, nl, nl, nl, nl, nl])), o 5 (.mv (.k (i 0))), o 10 (.fa 1 (.t 3)), o 11 (.ld none (.t 10)), o 12 (.bn .neq 0 (.t 11) (.k (i 4))), o 13 (.mv (.t 12)),
  g 14 13 false (.ld (some 17) (.t 3)), g 15 13 false (.call 7 303 [(.t 14)]), g 16 13 false (.un .not (.t 15)), o 17 (.pick (.t 13) (.k (.bool true)) (.t 16)), o 18 (.mv (.t 17)), g 19 18 false (.ld (some 8) (.t 2)),
  g 20 18 false (.call 7 24 [(.t 19)]), g 21 18 false (.un .not (.t 20)), o 22 (.pick (.t 18) (.k (.bool true)) (.t 21)), .cond (.t 22) [o 23 (.bld [nl, nl, nl, nl, nl, nl, nl, nl] []), e (.st 8 (.t 4) (.t 23)), o 5 (.mv (.k (i 2))), .ret] [],
  o 24 (.ld (some 8) (.t 2)), o 25 (.fa 2 (.t 3)), o 26 (.ld none (.t 25)), o 27 (.call 7 70 [(.t 24), (.t 26)]), o 6 (.mv (.t 27)), .draw 0 [0, 1, 2, 3, 4, 5, 6, 7, 8, 9, 10, 11] [] [o 28 (.ld (some 8) (.t 2)), o 29 (.mv (.t 6)),
  o 30 (.fa 3 (.t 3)), o 31 (.ld none (.t 30)), o 32 (.call 0 69 [(.t 28), (.t 29), (.t 31)]), o 33 (.ld (some 8) (.t 2)), o 34 (.mv (.t 6)), o 35 (.fa 10 (.t 3)), o 36 (.ld none (.t 35)), o 37 (.call 0 128 [(.t 33), (.t 34), (.t 36)]),
  o 7 (.mv (.t 32)), o 8 (.mv (.t 37))], .block 0 [o 39 (.mv (.t 6)), o 40 (.bn .lss 0 (.t 39) (.k (i 0))), o 41 (.mv (.t 40)), g 42 41 false (.mv (.t 7)), g 43 41 false (.bn .lss 0 (.t 42) (.k (i 0))),
  o 44 (.pick (.t 41) (.k (.bool true)) (.t 43)), o 38 (.mv (.t 44)), .cond (.t 38) [o 45 (.bld [nl, nl, nl, nl, nl, nl, nl, nl] []), e (.st 8 (.t 4) (.t 45)), o 5 (.mv (.k (i 31))), .ret] [.draw 0 [0, 1, 2, 3, 4, 5, 6, 7, 8, 9, 10, 11, 12,
  13] [] [o 47 (.mv (.t 8)), o 48 (.bn .lss 0 (.t 47) (.k (i 0))), o 49 (.mv (.t 48)), g 50 49 false (.fa 1 (.t 2)), g 51 49 false (.ld none (.t 50)), g 52 49 false (.mv (.t 7)), g 53 49 false (.ia 7 (.t 51) (.t 52)),
  g 54 49 false (.ld (some 7) (.t 53)), g 55 49 false (.fa 10 (.t 3)), g 56 49 false (.ld none (.t 55)), g 57 49 false (.call 0 118 [(.t 54), (.t 56)]), g 58 49 false (.un .not (.t 57)), o 59 (.pick (.t 49) (.k (.bool true)) (.t 58)),
  o 46 (.mv (.t 59))], .cond (.t 46) [o 60 (.bld [nl, nl, nl, nl, nl, nl, nl, nl] []), e (.st 8 (.t 4) (.t 60)), o 5 (.mv (.k (i 32))), .ret] [o 62 (.ld (some 8) (.t 2)), o 63 (.mv (.t 8)), o 64 (.fa 7 (.t 3)), o 65 (.ld none (.t 64)),
  o 66 (.call 7 305 [(.t 62), (.t 63), (.t 65)]), o 67 (.bn .geq 0 (.t 66) (.k (i 0))), o 61 (.mv (.t 67)), .cond (.t 61) [o 68 (.bld [nl, nl, nl, nl, nl, nl, nl, nl] []), e (.st 8 (.t 4) (.t 68)), o 5 (.mv (.k (i 30))),
  .ret] [o 70 (.fa 4 (.t 2)), o 71 (.ld none (.t 70)), o 72 (.len false (.t 71)), o 73 (.bn .eql 0 (.t 72) (.k (i 64))), o 69 (.mv (.t 73)), .cond (.t 69) [o 74 (.bld [nl, nl, nl, nl, nl, nl, nl, nl] []), e (.st 8 (.t 4) (.t 74)),
  o 5 (.mv (.k (i 3))), .ret] []]]]], o 75 (.ld (some 8) (.t 2)), o 76 (.call 8 78 [(.t 75)]), o 9 (.al 0 (.agg [nl, nl, nl, nl, nl, nl, nl, nl])), e (.st 8 (.t 9) (.t 76)), o 77 (.fa 4 (.t 9)), o 78 (.ld none (.t 77)), o 79 (.fa 0 (.t 3)),
  o 80 (.ld none (.t 79)), o 81 (.mv (.t 8)), o 82 (.mv (.t 7)), o 83 (.fa 7 (.t 3)), o 84 (.ld none (.t 83)), o 85 (.bld [(i 0), (i 0), (i 0), (.int .u64 0)] [(0, 1, (.t 80)), (1, 1, (.t 81)), (2, 1, (.t 82)), (3, 1, (.t 84))]),
  o 86 (.bsl (.agg [(i 0), (i 0), (i 0), (.int .u64 0)]) 1 [(0, (.t 85))]), o 87 (.app 0 4 (.t 78) (.t 86)), o 88 (.fa 4 (.t 9)), e (.st 1 (.t 88) (.t 87)), o 89 (.ld (some 8) (.t 9)), e (.st 8 (.t 4) (.t 89)), o 5 (.mv (.k (i 0))), .ret], 90,
  [.cell (some 8) 4, .tmp 5]⟩
theorem c235 : chkF Tryz.prog 235 p235 = true := by decide +kernel
/- paling/overlay.Vtep -/
def p236 : PFn := ⟨[o 2 (.bxd 0 (.t 0)), o 3 (.bxd 0 (.t 1)), o 4 (.al 0 (.agg [nl, nl, nl, nl, nl, nl, nl, nl])), o 5 (.mv (.k (i 0))), o 10 (.ld (some 8) (.t 2)), o 11 (.ld (some 17) (.t 3)), o 12 (.call 7 306 [(.t 10), (.t 11),
  (.k (i 5))]), o 9 (.mv (.t 12)), o 13 (.ext (.t 9) 0), o 14 (.ext (.t 9) 1), o 6 (.mv (.t 13)), o 7 (.mv (.t 14)), o 15 (.mv (.t 7)), o 16 (.bn .neq 0 (.t 15) (.k (i 0))), .cond (.t 16) [o 17 (.bld [nl, nl, nl, nl, nl, nl, nl, nl] []),
  o 18 (.mv (.t 7)), e (.st 8 (.t 4) (.t 17)), o 5 (.mv (.t 18)), .ret] [], o 19 (.fa 0 (.t 2)), o 20 (.ld none (.t 19)), o 21 (.mv (.t 6)), o 22 (.ia 5 (.t 20) (.t 21)), o 23 (.fa 4 (.t 22)), o 24 (.ld none (.t 23)),
  o 25 (.bn .neq 0 (.t 24) (.k (.int .u32 0))), o 26 (.mv (.t 25)), g 27 26 false (.ld (some 8) (.t 2)), g 28 26 false (.fa 8 (.t 3)), g 29 26 false (.ld none (.t 28)), g 30 26 false (.call 7 244 [(.t 27), (.t 29)]),
  g 31 26 false (.bn .geq 0 (.t 30) (.k (i 0))), o 32 (.pick (.t 26) (.k (.bool true)) (.t 31)), .cond (.t 32) [o 33 (.bld [nl, nl, nl, nl, nl, nl, nl, nl] []), e (.st 8 (.t 4) (.t 33)), o 5 (.mv (.k (i 30))), .ret] [],
  o 34 (.ld (some 8) (.t 2)), o 35 (.call 8 78 [(.t 34)]), o 8 (.al 0 (.agg [nl, nl, nl, nl, nl, nl, nl, nl])), .stf 8 8 (.t 35), o 36 (.fa 0 (.t 8)), o 37 (.ld none (.t 36)), o 38 (.mv (.t 6)), o 39 (.fa 8 (.t 3)), o 40 (.ld none (.t 39)),
  o 41 (.ia 5 (.t 37) (.t 38)), o 42 (.fa 4 (.t 41)), e (.st 1 (.t 42) (.t 40)), o 43 (.ld (some 8) (.t 8)), e (.st 8 (.t 4) (.t 43)), o 5 (.mv (.k (i 0))), .ret], 44, [.cell (some 8) 4, .tmp 5]⟩
theorem c236 : chkF Tryz.prog 236 p236 = true := by decide +kernel
/- paling/overlay.Vni -/
def p237 : PFn := ⟨[o 2 (.bxd 0 (.t 0)), o 3 (.bxd 0 (.t 1)), o 4 (.al 0 (.agg [nl, nl, nl, nl, nl, nl, nl, nl])), o 5 (.mv (.k (i 0))), o 11 (.ld (some 8) (.t 2)), o 12 (.ld (some 17) (.t 3)), o 13 (.call 7 306 [(.t 11), (.t 12),
  (.k (i 6))]), o 10 (.mv (.t 13)), o 14 (.ext (.t 10) 0), o 15 (.ext (.t 10) 1), o 6 (.mv (.t 14)), o 7 (.mv (.t 15)), o 16 (.mv (.t 7)), o 17 (.bn .neq 0 (.t 16) (.k (i 0))), .cond (.t 17) [o 18 (.bld [nl, nl, nl, nl, nl, nl, nl, nl] []),
  o 19 (.mv (.t 7)), e (.st 8 (.t 4) (.t 18)), o 5 (.mv (.t 19)), .ret] [], o 20 (.ld (some 8) (.t 2)), o 21 (.mv (.t 6)), o 22 (.fa 10 (.t 3)), o 23 (.ld none (.t 22)), o 24 (.call 7 128 [(.t 20), (.t 21), (.t 23)]), o 8 (.mv (.t 24)),
  .block 0 [o 26 (.fa 0 (.t 2)), o 27 (.ld none (.t 26)), o 28 (.mv (.t 6)), o 29 (.ia 5 (.t 27) (.t 28)), o 30 (.fa 4 (.t 29)), o 31 (.ld none (.t 30)), o 32 (.bn .eql 0 (.t 31) (.k (.int .u32 0))), o 25 (.mv (.t 32)),
  .cond (.t 25) [o 33 (.bld [nl, nl, nl, nl, nl, nl, nl, nl] []), e (.st 8 (.t 4) (.t 33)), o 5 (.mv (.k (i 35))), .ret] [o 35 (.mv (.t 8)), o 36 (.bn .lss 0 (.t 35) (.k (i 0))), o 34 (.mv (.t 36)), .cond (.t 34) [o 37 (.bld [nl, nl, nl, nl, nl,
  nl, nl, nl] []), e (.st 8 (.t 4) (.t 37)), o 5 (.mv (.k (i 32))), .ret] [o 39 (.fa 3 (.t 2)), o 40 (.ld none (.t 39)), o 41 (.mv (.t 8)), o 42 (.ia 6 (.t 40) (.t 41)), o 43 (.fa 2 (.t 42)), o 44 (.ld none (.t 43)),
  o 45 (.bn .neq 0 (.t 44) (.k (i 0))), o 46 (.mv (.t 45)), g 47 46 false (.ld (some 8) (.t 2)), g 48 46 false (.mv (.t 6)), g 49 46 false (.fa 11 (.t 3)), g 50 46 false (.ld none (.t 49)), g 51 46 false (.call 7 243 [(.t 47), (.t 48),
  (.t 50)]), g 52 46 false (.bn .geq 0 (.t 51) (.k (i 0))), o 53 (.pick (.t 46) (.k (.bool true)) (.t 52)), o 38 (.mv (.t 53)), .cond (.t 38) [o 54 (.bld [nl, nl, nl, nl, nl, nl, nl, nl] []), e (.st 8 (.t 4) (.t 54)), o 5 (.mv (.k (i 30))),
  .ret] []]]], o 55 (.ld (some 8) (.t 2)), o 56 (.call 8 78 [(.t 55)]), o 9 (.al 0 (.agg [nl, nl, nl, nl, nl, nl, nl, nl])), .stf 8 9 (.t 56), .draw 0 [0, 1, 2, 3, 4, 5, 6, 7, 8, 9, 10, 11, 12, 13, 14, 15] [(68, 60), (68,
  65)] [o 57 (.fa 3 (.t 9)), o 58 (.ld none (.t 57)), o 59 (.mv (.t 8)), o 60 (.fa 3 (.t 9)), o 61 (.ld none (.t 60)), o 62 (.mv (.t 8)), o 63 (.fa 11 (.t 3)), o 64 (.ld none (.t 63)), o 65 (.fa 0 (.t 3)), o 66 (.ld none (.t 65)),
  o 67 (.ia 6 (.t 58) (.t 59)), o 68 (.fa 2 (.t 67)), e (.st 1 (.t 68) (.t 64)), o 69 (.ia 6 (.t 61) (.t 62)), o 70 (.fa 4 (.t 69)), e (.st 1 (.t 70) (.t 66))], o 71 (.ld (some 8) (.t 9)), e (.st 8 (.t 4) (.t 71)), o 5 (.mv (.k (i 0))), .ret],
  72, [.cell (some 8) 4, .tmp 5]⟩
theorem c237 : chkF Tryz.prog 237 p237 = true := by decide +kernel
/- paling/overlay.Flood -/
def p238 : PFn := ⟨[o 2 (.bxd 0 (.t 0)), o 3 (.bxd 0 (.t 1)), o 4 (.al 0 (.agg [nl, nl, nl, nl, nl, nl, nl, nl])), o 5 (.mv (.k (i 0))), o 10 (.ld (some 8) (.t 2)), o 11 (.ld (some 17) (.t 3)), o 12 (.call 7 306 [(.t 10), (.t 11),
  (.k (i 7))]), o 9 (.mv (.t 12)), o 13 (.ext (.t 9) 0), o 14 (.ext (.t 9) 1), o 6 (.mv (.t 13)), o 7 (.mv (.t 14)), o 15 (.mv (.t 7)), o 16 (.bn .neq 0 (.t 15) (.k (i 0))), .cond (.t 16) [o 17 (.bld [nl, nl, nl, nl, nl, nl, nl, nl] []),
  o 18 (.mv (.t 7)), e (.st 8 (.t 4) (.t 17)), o 5 (.mv (.t 18)), .ret] [], .block 0 [o 20 (.ld (some 8) (.t 2)), o 21 (.mv (.t 6)), o 22 (.fa 11 (.t 3)), o 23 (.ld none (.t 22)), o 24 (.call 7 243 [(.t 20), (.t 21), (.t 23)]),
  o 25 (.bn .lss 0 (.t 24) (.k (i 0))), o 19 (.mv (.t 25)), .cond (.t 19) [o 26 (.bld [nl, nl, nl, nl, nl, nl, nl, nl] []), e (.st 8 (.t 4) (.t 26)), o 5 (.mv (.k (i 31))), .ret] [o 28 (.ld (some 8) (.t 2)), o 29 (.mv (.t 6)),
  o 30 (.fa 11 (.t 3)), o 31 (.ld none (.t 30)), o 32 (.call 7 242 [(.t 28), (.t 29), (.t 31)]), o 33 (.bn .geq 0 (.t 32) (.k (i 0))), o 27 (.mv (.t 33)), .cond (.t 27) [o 34 (.bld [nl, nl, nl, nl, nl, nl, nl, nl] []), e (.st 8 (.t 4) (.t 34)),
  o 5 (.mv (.k (i 30))), .ret] [.draw 0 [0, 1, 2, 3, 4, 5, 6, 7, 8, 9] [] [o 36 (.fa 16 (.t 3)), o 37 (.ld none (.t 36)), o 38 (.fa 0 (.t 2)), o 39 (.ld none (.t 38)), o 40 (.mv (.t 6)), o 41 (.ia 5 (.t 39) (.t 40)), o 42 (.fa 4 (.t 41)),
  o 43 (.ld none (.t 42)), o 44 (.call 0 307 [(.t 37), (.t 43)]), o 35 (.mv (.t 44))], .cond (.t 35) [o 45 (.bld [nl, nl, nl, nl, nl, nl, nl, nl] []), e (.st 8 (.t 4) (.t 45)), o 5 (.mv (.k (i 36))), .ret] [o 47 (.fa 5 (.t 2)),
  o 48 (.ld none (.t 47)), o 49 (.len false (.t 48)), o 50 (.bn .eql 0 (.t 49) (.k (i 48))), o 46 (.mv (.t 50)), .cond (.t 46) [o 51 (.bld [nl, nl, nl, nl, nl, nl, nl, nl] []), e (.st 8 (.t 4) (.t 51)), o 5 (.mv (.k (i 3))), .ret] []]]]],
  o 52 (.ld (some 8) (.t 2)), o 53 (.call 8 78 [(.t 52)]), o 8 (.al 0 (.agg [nl, nl, nl, nl, nl, nl, nl, nl])), e (.st 8 (.t 8) (.t 53)), .draw 0 [0, 1, 2, 3, 4, 5, 6, 7, 8, 9, 10, 11, 12, 13, 14] [] [o 54 (.fa 5 (.t 8)),
  o 55 (.ld none (.t 54)), o 56 (.fa 0 (.t 3)), o 57 (.ld none (.t 56)), o 58 (.mv (.t 6)), o 59 (.fa 11 (.t 3)), o 60 (.ld none (.t 59)), o 61 (.fa 16 (.t 3)), o 62 (.ld none (.t 61)), o 63 (.call 0 144 [(.t 62)]), o 64 (.bld [(i 0), (i 0),
  (i 0), nl] [(0, 1, (.t 57)), (1, 1, (.t 58)), (2, 1, (.t 60)), (3, 1, (.t 63))]), o 65 (.bsl (.agg [(i 0), (i 0), (i 0), nl]) 1 [(0, (.t 64))]), o 66 (.app 0 4 (.t 55) (.t 65)), o 67 (.fa 5 (.t 8)), e (.st 1 (.t 67) (.t 66))],
  o 68 (.ld (some 8) (.t 8)), e (.st 8 (.t 4) (.t 68)), o 5 (.mv (.k (i 0))), .ret], 69, [.cell (some 8) 4, .tmp 5]⟩
theorem c238 : chkF Tryz.prog 238 p238 = true := by decide +kernel
/- paling/vrfs.Vrf -/
def p239 : PFn := ⟨[o 2 (.bxd 0 (.t 0)), o 3 (.bxd 0 (.t 1)), o 4 (.al 0 (.agg [nl, nl, nl, nl, nl, nl, nl, nl])), o 5 (.mv (.k (i 0))), o 10 (.ld (some 8) (.t 2)), o 11 (.ld (some 17) (.t 3)), o 12 (.call 7 308 [(.t 10), (.t 11),
  (.k (i 8))]), o 9 (.mv (.t 12)), o 13 (.ext (.t 9) 0), o 14 (.ext (.t 9) 1), o 6 (.mv (.t 13)), o 7 (.mv (.t 14)), .block 0 [o 16 (.mv (.t 7)), o 17 (.bn .neq 0 (.t 16) (.k (i 0))), o 15 (.mv (.t 17)), .cond (.t 15) [o 18 (.bld [nl, nl, nl,
  nl, nl, nl, nl, nl] []), o 19 (.mv (.t 7)), e (.st 8 (.t 4) (.t 18)), o 5 (.mv (.t 19)), .ret] [o 21 (.ld (some 8) (.t 2)), o 22 (.mv (.t 6)), o 23 (.fa 6 (.t 3)), o 24 (.ld none (.t 23)), o 25 (.call 7 309 [(.t 21), (.t 22), (.t 24)]),
  o 26 (.bn .geq 0 (.t 25) (.k (i 0))), o 20 (.mv (.t 26)), .cond (.t 20) [o 27 (.bld [nl, nl, nl, nl, nl, nl, nl, nl] []), e (.st 8 (.t 4) (.t 27)), o 5 (.mv (.k (i 30))), .ret] [o 29 (.fa 6 (.t 2)), o 30 (.ld none (.t 29)),
  o 31 (.len false (.t 30)), o 32 (.bn .eql 0 (.t 31) (.k (i 16))), o 28 (.mv (.t 32)), .cond (.t 28) [o 33 (.bld [nl, nl, nl, nl, nl, nl, nl, nl] []), e (.st 8 (.t 4) (.t 33)), o 5 (.mv (.k (i 3))), .ret] []]]], o 34 (.ld (some 8) (.t 2)),
  o 35 (.call 8 78 [(.t 34)]), o 8 (.al 0 (.agg [nl, nl, nl, nl, nl, nl, nl, nl])), e (.st 8 (.t 8) (.t 35)), .draw 0 [0, 1, 2, 3, 4, 5, 6, 7, 8, 9, 10, 11, 12, 13, 14, 15, 16, 17] [] [o 36 (.fa 6 (.t 8)), o 37 (.ld none (.t 36)),
  o 38 (.fa 0 (.t 3)), o 39 (.ld none (.t 38)), o 40 (.mv (.t 6)), o 41 (.fa 6 (.t 3)), o 42 (.ld none (.t 41)), o 43 (.fa 14 (.t 3)), o 44 (.ld none (.t 43)), o 45 (.call 0 143 [(.t 44)]), o 46 (.fa 15 (.t 3)), o 47 (.ld none (.t 46)),
  o 48 (.call 0 143 [(.t 47)]), o 49 (.bld [(i 0), (i 0), (.str []), nl, nl] [(0, 1, (.t 39)), (1, 1, (.t 40)), (2, 1, (.t 42)), (3, 1, (.t 45)), (4, 1, (.t 48))]), o 50 (.bsl (.agg [(i 0), (i 0), (.str []), nl, nl]) 1 [(0, (.t 49))]),
  o 51 (.app 0 5 (.t 37) (.t 50)), o 52 (.fa 6 (.t 8)), e (.st 1 (.t 52) (.t 51))], o 53 (.ld (some 8) (.t 8)), e (.st 8 (.t 4) (.t 53)), o 5 (.mv (.k (i 0))), .ret], 54, [.cell (some 8) 4, .tmp 5]⟩
theorem c239 : chkF Tryz.prog 239 p239 = true := by decide +kernel
/- paling/vrfs.Irb -/
def p240 : PFn := ⟨[o 2 (.bxd 0 (.t 0)), o 3 (.bxm 0 (.t 1)), o 4 (.al 0 (.agg [nl, nl, nl, nl, nl, nl, nl, nl])), o 5 (.mv (.k (i 0))), o 12 (.ld (some 8) (.t 2)), o 13 (.ld (some 17) (.t 3)), o 14 (.call 7 308 [(.t 12), (.t 13),
  (.k (i 9))]), o 11 (.mv (.t 14)), o 15 (.ext (.t 11) 0), o 16 (.ext (.t 11) 1), o 6 (.al 0 (i 0)), .stf 1 6 (.t 15), o 7 (.mv (.t 16)), o 17 (.mv (.t 7)), o 18 (.bn .neq 0 (.t 17) (.k (i 0))), .cond (.t 18) [o 19 (.bld [nl, nl, nl, nl, nl, nl,
  nl, nl] []), o 20 (.mv (.t 7)), e (.st 8 (.t 4) (.t 19)), o 5 (.mv (.t 20)), .ret] [], .draw 0 [0, 1, 2, 3, 4, 5, 6, 7, 8, 9, 10, 11] [] [o 21 (.ld (some 8) (.t 2)), o 22 (.ld none (.t 6)), o 23 (.fa 6 (.t 3)), o 24 (.ld none (.t 23)),
  o 25 (.call 0 309 [(.t 21), (.t 22), (.t 24)]), o 26 (.ld (some 8) (.t 2)), o 27 (.ld none (.t 6)), o 28 (.fa 10 (.t 3)), o 29 (.ld none (.t 28)), o 30 (.call 0 128 [(.t 26), (.t 27), (.t 29)]), o 8 (.mv (.t 25)), o 9 (.mv (.t 30))],
  .block 0 [o 32 (.mv (.t 8)), o 33 (.bn .lss 0 (.t 32) (.k (i 0))), o 31 (.mv (.t 33)), .cond (.t 31) [o 34 (.bld [nl, nl, nl, nl, nl, nl, nl, nl] []), e (.st 8 (.t 4) (.t 34)), o 5 (.mv (.k (i 31))), .ret] [o 36 (.mv (.t 9)),
  o 37 (.bn .lss 0 (.t 36) (.k (i 0))), o 35 (.mv (.t 37)), .cond (.t 35) [o 38 (.bld [nl, nl, nl, nl, nl, nl, nl, nl] []), e (.st 8 (.t 4) (.t 38)), o 5 (.mv (.k (i 32))), .ret] [o 40 (.fa 3 (.t 2)), o 41 (.ld none (.t 40)), o 42 (.mv (.t 9)),
  o 43 (.ia 6 (.t 41) (.t 42)), o 44 (.fa 3 (.t 43)), o 45 (.ld none (.t 44)), o 46 (.bn .geq 0 (.t 45) (.k (i 0))), o 47 (.mv (.t 46)), g 48 47 false (.fa 7 (.t 2)), g 49 47 false (.ld none (.t 48)), g 50 47 false (.mf 310 [] [(.t 2), (.t 6),
  (.t 3)]), g 51 47 false (.call 7 255 [(.t 49), (.t 50)]), o 52 (.pick (.t 47) (.k (.bool true)) (.t 51)), o 39 (.mv (.t 52)), .cond (.t 39) [o 53 (.bld [nl, nl, nl, nl, nl, nl, nl, nl] []), e (.st 8 (.t 4) (.t 53)), o 5 (.mv (.k (i 37))),
  .ret] []]]], o 54 (.ld (some 8) (.t 2)), o 55 (.call 8 78 [(.t 54)]), o 10 (.al 0 (.agg [nl, nl, nl, nl, nl, nl, nl, nl])), e (.st 8 (.t 10) (.t 55)), o 56 (.fa 3 (.t 10)), o 57 (.ld none (.t 56)), o 58 (.mv (.t 9)), o 59 (.fa 7 (.t 10)),
  o 60 (.ld none (.t 59)), o 61 (.len false (.t 60)), o 62 (.ia 6 (.t 57) (.t 58)), o 63 (.fa 3 (.t 62)), e (.st 1 (.t 63) (.t 61)), o 64 (.fa 7 (.t 10)), o 65 (.ld none (.t 64)), o 66 (.fa 0 (.t 3)), o 67 (.ld none (.t 66)), o 68 (.mv (.t 9)),
  o 69 (.mv (.t 8)), o 70 (.fa 8 (.t 3)), o 71 (.ld none (.t 70)), o 72 (.fa 9 (.t 3)), o 73 (.ld none (.t 72)), o 74 (.bld [(.int .u32 0), (i 0)] [(0, 1, (.t 71)), (1, 1, (.t 73))]), o 75 (.bld [(i 0), (i 0), (i 0), (.int .u32 0), (i 0)] [(0,
  1, (.t 67)), (1, 1, (.t 68)), (2, 1, (.t 69)), (3, 2, (.t 74))]), o 76 (.bsl (.agg [(i 0), (i 0), (i 0), (.int .u32 0), (i 0)]) 1 [(0, (.t 75))]), o 77 (.app 0 5 (.t 65) (.t 76)), o 78 (.fa 7 (.t 10)), e (.st 1 (.t 78) (.t 77)),
  o 79 (.ld (some 8) (.t 10)), e (.st 8 (.t 4) (.t 79)), o 5 (.mv (.k (i 0))), .ret], 80, [.cell (some 8) 4, .tmp 5]⟩
theorem c240 : chkF Tryz.prog 240 p240 = true := by decide +kernel
/- paling/overlay.agrees -/
def p241 : PFn := ⟨[o 2 (.bxd 0 (.t 0)), o 3 (.bxd 0 (.t 1)), o 4 (.mv (.k (.bool false))), o 13 (.fa 0 (.t 2)), o 14 (.ld none (.t 13)), o 15 (.fa 1 (.t 3)), o 16 (.ld none (.t 15)), o 17 (.ia 5 (.t 14) (.t 16)), o 18 (.fa 4 (.t 17)),
  o 19 (.ld none (.t 18)), o 5 (.mv (.t 19)), o 20 (.ld (some 8) (.t 2)), o 21 (.fa 1 (.t 3)), o 22 (.ld none (.t 21)), o 23 (.fa 2 (.t 3)), o 24 (.ld none (.t 23)), o 25 (.call 7 243 [(.t 20), (.t 22), (.t 24)]),
  o 26 (.bn .geq 0 (.t 25) (.k (i 0))), o 6 (.mv (.t 26)), o 27 (.fa 3 (.t 3)), o 28 (.ld none (.t 27)), o 29 (.len false (.t 28)), o 30 (.mv (.k (i 0))), .block 0 [.loop [o 31 (.bn .lss 0 (.t 30) (.t 29)), .cond (.t 31) [] [.exit 0],
  .block 1 [o 32 (.ia 1 (.t 28) (.t 30)), o 33 (.ld none (.t 32)), o 8 (.mv (.t 33)), o 34 (.ld (some 8) (.t 2)), o 35 (.mv (.t 8)), o 36 (.call 7 244 [(.t 34), (.t 35)]), o 9 (.mv (.t 36)), o 37 (.mv (.t 6)), o 38 (.mv (.t 37)),
  g 39 38 true (.mv (.t 9)), g 40 38 true (.bn .geq 0 (.t 39) (.k (i 0))), o 41 (.pick (.t 38) (.t 40) (.k (.bool false))), o 42 (.mv (.t 41)), g 43 42 true (.mv (.t 8)), g 44 42 true (.bn .neq 0 (.t 43) (.k (.int .u32 0))),
  o 45 (.pick (.t 42) (.t 44) (.k (.bool false))), o 46 (.mv (.t 45)), g 47 46 true (.ld (some 8) (.t 2)), g 48 46 true (.mv (.t 9)), g 49 46 true (.fa 2 (.t 3)), g 50 46 true (.ld none (.t 49)), g 51 46 true (.call 7 243 [(.t 47), (.t 48),
  (.t 50)]), g 52 46 true (.bn .geq 0 (.t 51) (.k (i 0))), o 53 (.pick (.t 46) (.t 52) (.k (.bool false))), o 54 (.mv (.t 53)), g 55 54 true (.ld (some 8) (.t 2)), g 56 54 true (.mv (.t 9)), g 57 54 true (.fa 2 (.t 3)),
  g 58 54 true (.ld none (.t 57)), g 59 54 true (.call 7 242 [(.t 55), (.t 56), (.t 58)]), g 60 54 true (.bn .geq 0 (.t 59) (.k (i 0))), o 61 (.pick (.t 54) (.t 60) (.k (.bool false))), o 6 (.mv (.t 61)), o 62 (.mv (.t 6)),
  o 63 (.un .not (.t 62)), .cond (.t 63) [.exit 0] [], .draw 0 [0, 1, 2, 3, 4, 5, 6, 7, 8, 9, 10] [] [o 64 (.fa 5 (.t 2)), o 65 (.ld none (.t 64)), o 66 (.ld (some 8) (.t 2)), o 67 (.mv (.t 9)), o 68 (.fa 2 (.t 3)), o 69 (.ld none (.t 68)),
  o 70 (.call 0 242 [(.t 66), (.t 67), (.t 69)]), o 71 (.ia 4 (.t 65) (.t 70)), o 72 (.fa 3 (.t 71)), o 73 (.ld none (.t 72)), o 10 (.mv (.t 73))], o 74 (.mv (.t 10)), o 75 (.mv (.t 5)), o 76 (.call 7 307 [(.t 74), (.t 75)]), o 6 (.mv (.t 76)),
  o 77 (.fa 3 (.t 3)), o 78 (.ld none (.t 77)), o 79 (.len false (.t 78)), o 80 (.mv (.k (i 0))), .block 2 [.loop [o 81 (.bn .lss 0 (.t 80) (.t 79)), .cond (.t 81) [] [.exit 2], .block 3 [o 82 (.ia 1 (.t 78) (.t 80)), o 83 (.ld none (.t 82)),
  o 12 (.mv (.t 83)), o 84 (.mv (.t 6)), o 85 (.mv (.t 84)), g 86 85 true (.mv (.t 12)), g 87 85 true (.mv (.t 8)), g 88 85 true (.bn .eql 0 (.t 86) (.t 87)), g 89 85 true (.mv (.t 88)), g 90 89 false (.mv (.t 10)), g 91 89 false (.mv (.t 12)),
  g 92 89 false (.call 7 307 [(.t 90), (.t 91)]), g 93 85 true (.pick (.t 89) (.k (.bool true)) (.t 92)), o 94 (.pick (.t 85) (.t 93) (.k (.bool false))), o 6 (.mv (.t 94))], o 95 (.bn .add 0 (.t 80) (.k (i 1))), o 80 (.mv (.t 95))]]],
  o 96 (.bn .add 0 (.t 30) (.k (i 1))), o 30 (.mv (.t 96))]], o 97 (.mv (.t 6)), o 4 (.mv (.t 97)), .ret], 98, [.tmp 4]⟩
theorem c241 : chkF Tryz.prog 241 p241 = true := by decide +kernel
/- paling/overlay.list -/
def p242 : PFn := ⟨[o 3 (.bxd 0 (.t 0)), o 4 (.bxm 0 (.t 1)), o 5 (.bxm 0 (.t 2)), o 6 (.mv (.k (i 0))), o 7 (.fa 5 (.t 3)), o 8 (.ld none (.t 7)), o 9 (.mf 313 [] [(.t 4), (.t 5)]), o 10 (.call 7 312 [(.t 8), (.t 9)]), o 6 (.mv (.t 10)),
  .ret], 11, [.tmp 6]⟩
theorem c242 : chkF Tryz.prog 242 p242 = true := by decide +kernel
/- paling/overlay.find -/
def p243 : PFn := ⟨[o 3 (.bxd 0 (.t 0)), o 4 (.bxm 0 (.t 1)), o 5 (.bxm 0 (.t 2)), o 6 (.mv (.k (i 0))), o 7 (.fa 3 (.t 3)), o 8 (.ld none (.t 7)), o 9 (.mf 314 [] [(.t 4), (.t 5)]), o 10 (.call 7 177 [(.t 8), (.t 9)]), o 6 (.mv (.t 10)),
  .ret], 11, [.tmp 6]⟩
theorem c243 : chkF Tryz.prog 243 p243 = true := by decide +kernel
/- paling/overlay.owner -/
def p244 : PFn := ⟨[o 2 (.bxd 0 (.t 0)), o 3 (.bxd 0 (.t 1)), o 4 (.mv (.k (i 0))), o 5 (.fa 0 (.t 2)), o 6 (.ld none (.t 5)), o 7 (.mf 315 [] [(.t 3)]), o 8 (.call 7 181 [(.t 6), (.t 7)]), o 4 (.mv (.t 8)), .ret], 9, [.tmp 4]⟩
theorem c244 : chkF Tryz.prog 244 p244 = true := by decide +kernel
/- paling/comps.alone -/
def p245 : PFn := ⟨[o 2 (.mv (.k nl)), o 5 (.mv (.t 0)), o 6 (.mk 0 (i 0) (.t 5) (.t 5)), o 3 (.mv (.t 6)), o 7 (.mv (.t 3)), o 8 (.len false (.t 7)), o 9 (.mv (.k (i 0))), .block 0 [.loop [o 10 (.bn .lss 0 (.t 9) (.t 8)),
  .cond (.t 10) [] [.exit 0], .block 1 [o 11 (.mv (.t 9)), o 4 (.mv (.t 11)), o 12 (.mv (.t 3)), o 13 (.mv (.t 4)), o 14 (.mv (.t 4)), o 15 (.ia 1 (.t 12) (.t 13)), e (.st 1 (.t 15) (.t 14))], o 16 (.bn .add 0 (.t 9) (.k (i 1))),
  o 9 (.mv (.t 16))]], o 17 (.mv (.t 3)), o 2 (.mv (.t 17)), .ret], 18, [.tmp 2]⟩
theorem c245 : chkF Tryz.prog 245 p245 = true := by decide +kernel
/- paling/comps.linked -/
def p246 : PFn := ⟨[o 2 (.bxd 0 (.t 0)), o 10 (.fa 1 (.t 2)), o 11 (.ld none (.t 10)), o 12 (.len false (.t 11)), o 13 (.mv (.k (i 0))), .block 0 [.loop [o 14 (.bn .lss 0 (.t 13) (.t 12)), .cond (.t 14) [] [.exit 0],
  .block 1 [o 15 (.mv (.t 13)), o 16 (.ia 7 (.t 11) (.t 13)), o 17 (.ld (some 7) (.t 16)), o 5 (.al 0 (.agg [(i 0), (i 0), (i 0), (i 0), (i 0), (.str []), nl])), o 4 (.mv (.t 15)), .stf 7 5 (.t 17), .draw 0 [0, 1, 3, 4, 5, 8, 2, 6,
  7] [] [o 18 (.fa 6 (.t 5)), o 19 (.ld none (.t 18)), o 21 (.fa 2 (.t 5)), o 22 (.ld none (.t 21)), o 23 (.bsl (i 0) 1 [(0, (.t 22))]), o 26 (.mv (.k (i 0))), o 20 (.call 1 143 [(.t 19)]), o 24 (.app 0 1 (.t 20) (.t 23)),
  o 25 (.len false (.t 24))], .block 2 [.loop [o 27 (.bn .lss 0 (.t 26) (.t 25)), .cond (.t 27) [] [.exit 2], .block 3 [o 28 (.ia 1 (.t 24) (.t 26)), o 29 (.ld none (.t 28)), o 7 (.mv (.t 29)), o 31 (.ld (some 8) (.t 2)), o 32 (.mv (.t 4)),
  o 33 (.mv (.t 7)), o 34 (.call 7 185 [(.t 31), (.t 32), (.t 33)]), o 30 (.mv (.t 34)), o 35 (.ext (.t 30) 0), o 36 (.ext (.t 30) 1), o 8 (.mv (.t 35)), o 9 (.mv (.t 36)), o 37 (.mv (.t 9)), .cond (.t 37) [o 38 (.mv (.t 1)),
  o 39 (.ld (some 8) (.t 2)), o 40 (.fa 1 (.t 5)), o 41 (.ld none (.t 40)), o 42 (.mv (.t 7)), o 43 (.call 7 128 [(.t 39), (.t 41), (.t 42)]), o 44 (.mv (.t 8)), o 45 (.call 4 248 [(.t 38), (.t 43), (.t 44)])] []],
  o 46 (.bn .add 0 (.t 26) (.k (i 1))), o 26 (.mv (.t 46))]]], o 47 (.bn .add 0 (.t 13) (.k (i 1))), o 13 (.mv (.t 47))]]], 48, []⟩
theorem c246 : chkF Tryz.prog 246 p246 = true := by decide +kernel
/- slices.Min[[]int,int] -/
def p247 : PFn := ⟨[o 2 (.mv (.k (i 0))), o 5 (.mv (.t 0)), o 6 (.len false (.t 5)), o 7 (.bn .lss 0 (.t 6) (.k (i 1))), .cond (.t 7) [o 8 (.mi 9 (.k (.str [115, 108, 105, 99, 101, 115, 46, 77, 105, 110, 58, 32, 101, 109, 112, 116, 121, 32,
  108, 105, 115, 116]))), e (.bad)] [], o 9 (.mv (.t 0)), o 10 (.ia 1 (.t 9) (.k (i 0))), o 11 (.ld none (.t 10)), o 3 (.mv (.t 11)), o 4 (.mv (.k (i 1))), .block 0 [.loop [o 12 (.mv (.t 4)), o 13 (.mv (.t 0)), o 14 (.len false (.t 13)),
  o 15 (.bn .lss 0 (.t 12) (.t 14)), .cond (.t 15) [] [.exit 0], .block 1 [o 18 (.mv (.t 3)), o 19 (.mv (.t 0)), o 20 (.mv (.t 4)), o 21 (.ia 1 (.t 19) (.t 20)), o 22 (.ld none (.t 21)), o 23 (.mn [(.t 18), (.t 22)]), o 3 (.mv (.t 23))],
  o 16 (.mv (.t 4)), o 17 (.bn .add 0 (.t 16) (.k (i 1))), o 4 (.mv (.t 17))]], o 24 (.mv (.t 3)), o 2 (.mv (.t 24)), .ret], 25, [.tmp 2]⟩
theorem c247 : chkF Tryz.prog 247 p247 = true := by decide +kernel
/- (paling/comps.forest).join -/
def p248 : PFn := ⟨[o 6 (.mv (.k (.bool false))), o 7 (.mv (.t 0)), o 8 (.mv (.t 1)), o 9 (.call 4 316 [(.t 7), (.t 8)]), o 10 (.mv (.t 0)), o 11 (.mv (.t 2)), o 12 (.call 4 316 [(.t 10), (.t 11)]), o 1 (.mv (.t 9)), o 2 (.mv (.t 12)),
  o 13 (.mv (.t 0)), o 14 (.mv (.t 1)), o 15 (.mv (.t 2)), o 16 (.mx [(.t 14), (.t 15)]), o 17 (.mv (.t 1)), o 18 (.mv (.t 2)), o 19 (.mn [(.t 17), (.t 18)]), o 20 (.ia 1 (.t 13) (.t 16)), e (.st 1 (.t 20) (.t 19)), o 21 (.mv (.t 1)),
  o 22 (.mv (.t 2)), o 23 (.bn .neq 0 (.t 21) (.t 22)), o 6 (.mv (.t 23)), .ret], 24, [.tmp 6]⟩
theorem c248 : chkF Tryz.prog 248 p248 = true := by decide +kernel
/- internal/stringslite.IndexByte -/
def p249 : PFn := ⟨[o 4 (.mv (.k (i 0))), o 5 (.mv (.t 0)), o 6 (.mv (.t 1)), o 7 (.call 7 317 [(.t 5), (.t 6)]), o 4 (.mv (.t 7)), .ret], 8, [.tmp 4]⟩
theorem c249 : chkF Tryz.prog 249 p249 = true := by decide +kernel
/- internal/bytealg.Cutover -/
def p251 : PFn := ⟨[o 2 (.mv (.k (i 0))), o 3 (.mv (.t 0)), o 4 (.bn .add 0 (.t 3) (.k (i 16))), o 5 (.bn .quo 0 (.t 4) (.k (i 8))), o 2 (.mv (.t 5)), .ret], 6, [.tmp 2]⟩
theorem c251 : chkF Tryz.prog 251 p251 = true := by decide +kernel
/- internal/bytealg.IndexRabinKarp[string] -/
def p252 : PFn := ⟨[o 4 (.mv (.k (i 0))), o 12 (.mv (.t 1)), o 13 (.call 7 318 [(.t 12)]), o 11 (.mv (.t 13)), o 14 (.ext (.t 11) 0), o 15 (.ext (.t 11) 1), o 5 (.mv (.t 14)), o 6 (.mv (.t 15)), o 16 (.mv (.t 1)), o 17 (.len true (.t 16)),
  o 7 (.mv (.t 17)), o 8 (.mv (.k (.int .u32 0))), o 9 (.mv (.k (i 0))), .block 0 [.loop [o 18 (.mv (.t 9)), o 19 (.mv (.t 7)), o 20 (.bn .lss 0 (.t 18) (.t 19)), .cond (.t 20) [] [.exit 0], .block 1 [o 23 (.mv (.t 8)),
  o 24 (.bn .mul 0 (.t 23) (.k (.int .u32 16777619))), o 25 (.mv (.t 0)), o 26 (.mv (.t 9)), o 27 (.ix (.t 25) (.t 26)), o 28 (.cv .u32 (.t 27)), o 29 (.bn .add 0 (.t 24) (.t 28)), o 8 (.mv (.t 29))], o 21 (.mv (.t 9)),
  o 22 (.bn .add 0 (.t 21) (.k (i 1))), o 9 (.mv (.t 22))]], o 30 (.mv (.t 8)), o 31 (.mv (.t 5)), o 32 (.bn .eql 0 (.t 30) (.t 31)), o 33 (.mv (.t 32)), g 34 33 true (.mv (.t 0)), g 35 33 true (.mv (.t 7)),
  g 36 33 true (.sls (.t 34) none (some (.t 35))), g 37 33 true (.mv (.t 1)), g 38 33 true (.bn .eql 0 (.t 36) (.t 37)), o 39 (.pick (.t 33) (.t 38) (.k (.bool false))), .cond (.t 39) [o 4 (.mv (.k (i 0))), .ret] [], o 40 (.mv (.t 7)),
  o 10 (.mv (.t 40)), .block 2 [.loop [o 41 (.mv (.t 10)), o 42 (.mv (.t 0)), o 43 (.len true (.t 42)), o 44 (.bn .lss 0 (.t 41) (.t 43)), .cond (.t 44) [] [.exit 2], .block 3 [o 45 (.mv (.t 8)),
  o 46 (.bn .mul 0 (.t 45) (.k (.int .u32 16777619))), o 8 (.mv (.t 46)), o 47 (.mv (.t 8)), o 48 (.mv (.t 0)), o 49 (.mv (.t 10)), o 50 (.ix (.t 48) (.t 49)), o 51 (.cv .u32 (.t 50)), o 52 (.bn .add 0 (.t 47) (.t 51)), o 8 (.mv (.t 52)),
  o 53 (.mv (.t 8)), o 54 (.mv (.t 6)), o 55 (.mv (.t 0)), o 56 (.mv (.t 10)), o 57 (.mv (.t 7)), o 58 (.bn .sub 0 (.t 56) (.t 57)), o 59 (.ix (.t 55) (.t 58)), o 60 (.cv .u32 (.t 59)), o 61 (.bn .mul 0 (.t 54) (.t 60)),
  o 62 (.bn .sub 0 (.t 53) (.t 61)), o 8 (.mv (.t 62)), o 63 (.mv (.t 10)), o 64 (.bn .add 0 (.t 63) (.k (i 1))), o 10 (.mv (.t 64)), o 65 (.mv (.t 8)), o 66 (.mv (.t 5)), o 67 (.bn .eql 0 (.t 65) (.t 66)), o 68 (.mv (.t 67)),
  g 69 68 true (.mv (.t 0)), g 70 68 true (.mv (.t 10)), g 71 68 true (.mv (.t 7)), g 72 68 true (.bn .sub 0 (.t 70) (.t 71)), g 73 68 true (.mv (.t 10)), g 74 68 true (.sls (.t 69) (some (.t 72)) (some (.t 73))), g 75 68 true (.mv (.t 1)),
  g 76 68 true (.bn .eql 0 (.t 74) (.t 75)), o 77 (.pick (.t 68) (.t 76) (.k (.bool false))), .cond (.t 77) [o 78 (.mv (.t 10)), o 79 (.mv (.t 7)), o 80 (.bn .sub 0 (.t 78) (.t 79)), o 4 (.mv (.t 80)), .ret] []]]], o 4 (.mv (.k (i (-1)))),
  .ret], 81, [.tmp 4]⟩
theorem c252 : chkF Tryz.prog 252 p252 = true := by decide +kernel
/- paling/links.Cross -/
def p253 : PFn := ⟨[o 3 (.bxd 0 (.t 0)), o 6 (.mv (.k (i 0))), o 7 (.mv (.k (i 0))), o 8 (.mv (.k (.bool false))), o 10 (.ld (some 8) (.t 3)), o 11 (.mv (.t 1)), o 12 (.call 7 286 [(.t 10), (.t 11)]), o 6 (.mv (.t 12)), o 13 (.mv (.t 6)),
  o 14 (.bn .lss 0 (.t 13) (.k (i 0))), o 15 (.mv (.t 14)), g 16 15 false (.fa 1 (.t 3)), g 17 15 false (.ld none (.t 16)), g 18 15 false (.mv (.t 1)), g 19 15 false (.ia 7 (.t 17) (.t 18)), g 20 15 false (.ld (some 7) (.t 19)),
  g 21 15 false (.mv (.t 2)), g 22 15 false (.call 7 118 [(.t 20), (.t 21)]), g 23 15 false (.un .not (.t 22)), o 24 (.pick (.t 15) (.k (.bool true)) (.t 23)), .cond (.t 24) [o 6 (.mv (.k (i 0))), o 7 (.mv (.k (i 0))),
  o 8 (.mv (.k (.bool false))), .ret] [], o 25 (.fa 1 (.t 3)), o 26 (.ld none (.t 25)), o 27 (.mv (.t 6)), o 28 (.ia 7 (.t 26) (.t 27)), o 29 (.ld (some 7) (.t 28)), o 9 (.al 0 (.agg [(i 0), (i 0), (i 0), (i 0), (i 0), (.str []), nl])),
  .stf 7 9 (.t 29), .block 0 [o 31 (.mv (.t 2)), o 32 (.fa 1 (.t 3)), o 33 (.ld none (.t 32)), o 34 (.mv (.t 1)), o 35 (.ia 7 (.t 33) (.t 34)), o 36 (.fa 2 (.t 35)), o 37 (.ld none (.t 36)), o 38 (.bn .eql 0 (.t 31) (.t 37)), o 30 (.mv (.t 38)),
  .cond (.t 30) [o 39 (.fa 2 (.t 9)), o 40 (.ld none (.t 39)), o 7 (.mv (.t 40))] [o 42 (.fa 6 (.t 9)), o 43 (.ld none (.t 42)), o 44 (.mv (.t 2)), o 45 (.call 7 72 [(.t 43), (.t 44)]), o 41 (.mv (.t 45)), .cond (.t 41) [o 46 (.mv (.t 2)),
  o 7 (.mv (.t 46))] []]], o 47 (.mv (.t 7)), o 48 (.bn .eql 0 (.t 47) (.k (i 0))), .cond (.t 48) [o 6 (.mv (.k (i 0))), o 7 (.mv (.k (i 0))), o 8 (.mv (.k (.bool false))), .ret] [], o 49 (.mv (.t 6)), o 50 (.mv (.t 7)), o 6 (.mv (.t 49)),
  o 7 (.mv (.t 50)), o 8 (.mv (.k (.bool true))), .ret], 51, [.tmp 6, .tmp 7, .tmp 8]⟩
theorem c253 : chkF Tryz.prog 253 p253 = true := by decide +kernel
/- paling/route.Lookup -/
def p254 : PFn := ⟨[o 3 (.bxd 0 (.t 0)), o 6 (.mv (.k (i 0))), o 7 (.mv (.k (.bool false))), o 8 (.mv (.t 1)), o 9 (.bn .lss 0 (.t 8) (.k (i 0))), o 10 (.mv (.t 9)), g 11 10 false (.mv (.t 1)), g 12 10 false (.fa 7 (.t 3)),
  g 13 10 false (.ld none (.t 12)), g 14 10 false (.len false (.t 13)), g 15 10 false (.bn .geq 0 (.t 11) (.t 14)), o 16 (.pick (.t 10) (.k (.bool true)) (.t 15)), o 17 (.mv (.t 16)), g 18 17 false (.ld (some 8) (.t 3)),
  g 19 17 false (.call 7 24 [(.t 18)]), g 20 17 false (.un .not (.t 19)), o 21 (.pick (.t 17) (.k (.bool true)) (.t 20)), .cond (.t 21) [o 6 (.mv (.k (i 0))), o 7 (.mv (.k (.bool false))), .ret] [], o 22 (.ld (some 8) (.t 3)), o 23 (.mv (.t 1)),
  o 24 (.mv (.t 2)), o 25 (.call 7 278 [(.t 22), (.t 23), (.t 24)]), o 26 (.ext (.t 25) 0), o 27 (.ext (.t 25) 1), o 6 (.mv (.t 26)), o 7 (.mv (.t 27)), .ret], 28, [.tmp 6, .tmp 7]⟩
theorem c254 : chkF Tryz.prog 254 p254 = true := by decide +kernel
/- slices.ContainsFunc[[]paling/api.Irb,paling/api.Irb] -/
def p255 : PFn := ⟨[o 4 (.mv (.k (.bool false))), o 5 (.mv (.t 0)), o 6 (.mv (.t 1)), o 7 (.call 7 319 [(.t 5), (.t 6)]), o 8 (.bn .geq 0 (.t 7) (.k (i 0))), o 4 (.mv (.t 8)), .ret], 9, [.tmp 4]⟩
theorem c255 : chkF Tryz.prog 255 p255 = true := by decide +kernel
/- paling/choose.Address$1 -/
def p256 : PFn := ⟨[o 2 (.bxd 0 (.t 0)), o 3 (.mv (.k (.bool false))), o 4 (.fa 3 (.t 2)), o 5 (.fa 0 (.t 4)), o 6 (.ld none (.t 5)), o 7 (.ld none (.t 1)), o 8 (.bn .eql 0 (.t 6) (.t 7)), o 3 (.mv (.t 8)), .ret], 9, [.tmp 3]⟩
theorem c256 : chkF Tryz.prog 256 p256 = true := by decide +kernel
/- paling/choose.past -/
def p257 : PFn := ⟨[o 3 (.bxd 0 (.t 0)), o 4 (.bxd 0 (.t 1)), o 6 (.mv (.k (i 0))), o 7 (.fa 7 (.t 3)), o 8 (.ld none (.t 7)), o 9 (.mf 320 [] [(.t 4)]), o 10 (.call 7 255 [(.t 8), (.t 9)]), .cond (.t 10) [o 11 (.ld none (.t 4)),
  o 12 (.cv .i64 (.t 11)), o 13 (.bn .add 0 (.t 12) (.k (i 1))), o 6 (.mv (.t 13)), .ret] [], o 14 (.fa 7 (.t 3)), o 15 (.ld none (.t 14)), o 16 (.mv (.t 2)), o 17 (.ia 5 (.t 15) (.t 16)), o 18 (.fa 3 (.t 17)), o 19 (.ld (some 2) (.t 18)),
  o 20 (.call 7 170 [(.t 19)]), o 21 (.cv .i64 (.t 20)), o 22 (.bn .add 0 (.t 21) (.k (i 1))), o 6 (.mv (.t 22)), .ret], 23, [.tmp 6]⟩
theorem c257 : chkF Tryz.prog 257 p257 = true := by decide +kernel
/- slices.ContainsFunc[[]paling/api.Port,paling/api.Port] -/
def p258 : PFn := ⟨[o 4 (.mv (.k (.bool false))), o 5 (.mv (.t 0)), o 6 (.mv (.t 1)), o 7 (.call 7 180 [(.t 5), (.t 6)]), o 8 (.bn .geq 0 (.t 7) (.k (i 0))), o 4 (.mv (.t 8)), .ret], 9, [.tmp 4]⟩
theorem c258 : chkF Tryz.prog 258 p258 = true := by decide +kernel
/- paling/vector.Costs$1 -/
def p259 : PFn := ⟨[o 1 (.bxd 0 (.t 0)), o 2 (.mv (.k (.bool false))), o 3 (.fa 3 (.t 1)), o 4 (.ld none (.t 3)), o 5 (.bn .lss 0 (.t 4) (.k (i 1))), o 6 (.mv (.t 5)), g 7 6 false (.fa 3 (.t 1)), g 8 6 false (.ld none (.t 7)),
  g 9 6 false (.bn .gtr 0 (.t 8) (.k (i 65535))), o 10 (.pick (.t 6) (.k (.bool true)) (.t 9)), o 2 (.mv (.t 10)), .ret], 11, [.tmp 2]⟩
theorem c259 : chkF Tryz.prog 259 p259 = true := by decide +kernel
/- slices.SortStableFunc[[]int,int] -/
def p260 : PFn := ⟨[o 4 (.mv (.t 0)), o 5 (.mv (.t 0)), o 6 (.len false (.t 5)), o 7 (.mv (.t 1)), o 8 (.call 4 321 [(.t 4), (.t 6), (.t 7)])], 9, []⟩
theorem c260 : chkF Tryz.prog 260 p260 = true := by decide +kernel
/- paling/vector.Ranks$1 -/
def p261 : PFn := ⟨[o 5 (.mv (.k (i 0))), .draw 2 [0, 1, 2, 3, 4, 5, 6, 7, 8, 9, 10, 11, 12, 13] [(13, 13), (16, 16)] [o 8 (.fa 0 (.t 2)), o 9 (.ld none (.t 8)), o 10 (.mv (.t 0)), o 11 (.ia 5 (.t 9) (.t 10)), o 12 (.ld (some 5) (.t 11)),
  o 13 (.fa 0 (.t 2)), o 14 (.ld none (.t 13)), o 15 (.mv (.t 1)), o 16 (.ia 5 (.t 14) (.t 15)), o 17 (.ld (some 5) (.t 16)), o 6 (.al 1 (.agg [(i 0), (i 0), (.str []), (.int .u64 0), (.int .u32 0)])), o 7 (.al 2 (.agg [(i 0), (i 0), (.str []),
  (.int .u64 0), (.int .u32 0)])), .stf 5 6 (.t 12), .stf 5 7 (.t 17)], .draw 0 [0, 1, 2, 3, 4, 5, 6, 7, 8, 9, 10, 11, 12] [] [o 18 (.fa 1 (.t 6)), o 19 (.ld none (.t 18)), o 20 (.fa 1 (.t 7)), o 21 (.ld none (.t 20)),
  o 22 (.call 0 263 [(.t 19), (.t 21)]), o 23 (.fa 3 (.t 6)), o 24 (.ld none (.t 23)), o 25 (.fa 3 (.t 7)), o 26 (.ld none (.t 25)), o 27 (.call 0 264 [(.t 24), (.t 26)]), o 28 (.bsl (i 0) 2 [(0, (.t 22)), (1, (.t 27))]),
  o 29 (.call 0 262 [(.t 28)]), o 5 (.mv (.t 29))], .ret], 30, [.tmp 5]⟩
theorem c261 : chkF Tryz.prog 261 p261 = true := by decide +kernel
/- cmp.Or[int] -/
def p262 : PFn := ⟨[o 2 (.mv (.k (i 0))), o 3 (.mv (.k (i 0))), o 6 (.mv (.t 0)), o 7 (.len false (.t 6)), o 8 (.mv (.k (i 0))), .block 0 [.loop [o 9 (.bn .lss 0 (.t 8) (.t 7)), .cond (.t 9) [] [.exit 0],
  .block 1 [o 10 (.ia 1 (.t 6) (.t 8)), o 11 (.ld none (.t 10)), o 5 (.mv (.t 11)), o 12 (.mv (.t 5)), o 13 (.mv (.t 3)), o 14 (.bn .neq 0 (.t 12) (.t 13)), .cond (.t 14) [o 15 (.mv (.t 5)), o 2 (.mv (.t 15)), .ret] []],
  o 16 (.bn .add 0 (.t 8) (.k (i 1))), o 8 (.mv (.t 16))]], o 17 (.mv (.t 3)), o 2 (.mv (.t 17)), .ret], 18, [.tmp 2]⟩
theorem c262 : chkF Tryz.prog 262 p262 = true := by decide +kernel
/- cmp.Compare[int] -/
def p263 : PFn := ⟨[o 4 (.mv (.k (i 0))), o 7 (.mv (.t 0)), o 8 (.call 7 322 [(.t 7)]), o 5 (.mv (.t 8)), o 9 (.mv (.t 1)), o 10 (.call 7 322 [(.t 9)]), o 6 (.mv (.t 10)), o 11 (.mv (.t 5)), .cond (.t 11) [o 12 (.mv (.t 6)),
  .cond (.t 12) [o 4 (.mv (.k (i 0))), .ret] [], o 4 (.mv (.k (i (-1)))), .ret] [], o 13 (.mv (.t 6)), .cond (.t 13) [o 4 (.mv (.k (i 1))), .ret] [], o 14 (.mv (.t 0)), o 15 (.mv (.t 1)), o 16 (.bn .lss 0 (.t 14) (.t 15)),
  .cond (.t 16) [o 4 (.mv (.k (i (-1)))), .ret] [], o 17 (.mv (.t 0)), o 18 (.mv (.t 1)), o 19 (.bn .gtr 0 (.t 17) (.t 18)), .cond (.t 19) [o 4 (.mv (.k (i 1))), .ret] [], o 4 (.mv (.k (i 0))), .ret], 20, [.tmp 4]⟩
theorem c263 : chkF Tryz.prog 263 p263 = true := by decide +kernel
/- cmp.Compare[uint64] -/
def p264 : PFn := ⟨[o 4 (.mv (.k (i 0))), o 7 (.mv (.t 0)), o 8 (.call 7 323 [(.t 7)]), o 5 (.mv (.t 8)), o 9 (.mv (.t 1)), o 10 (.call 7 323 [(.t 9)]), o 6 (.mv (.t 10)), o 11 (.mv (.t 5)), .cond (.t 11) [o 12 (.mv (.t 6)),
  .cond (.t 12) [o 4 (.mv (.k (i 0))), .ret] [], o 4 (.mv (.k (i (-1)))), .ret] [], o 13 (.mv (.t 6)), .cond (.t 13) [o 4 (.mv (.k (i 1))), .ret] [], o 14 (.mv (.t 0)), o 15 (.mv (.t 1)), o 16 (.bn .lss 0 (.t 14) (.t 15)),
  .cond (.t 16) [o 4 (.mv (.k (i (-1)))), .ret] [], o 17 (.mv (.t 0)), o 18 (.mv (.t 1)), o 19 (.bn .gtr 0 (.t 17) (.t 18)), .cond (.t 19) [o 4 (.mv (.k (i 1))), .ret] [], o 4 (.mv (.k (i 0))), .ret], 20, [.tmp 4]⟩
theorem c264 : chkF Tryz.prog 264 p264 = true := by decide +kernel
/- container/heap.Push -/
def p265 : PFn := ⟨[o 4 (.mv (.t 0)), o 5 (.mv (.t 1)), o 6 (.inv 4 [(390, 418, none)] (.t 4) [(.t 5)]), o 7 (.mv (.t 0)), o 8 (.mv (.t 0)), o 9 (.inv 4 [(390, 266, some none)] (.t 8) []), o 10 (.bn .sub 0 (.t 9) (.k (i 1))),
  o 11 (.call 4 324 [(.t 7), (.t 10)])], 12, []⟩
theorem c265 : chkF Tryz.prog 265 p265 = true := by decide +kernel
/- (paling/tree.queue).Len -/
def p266 : PFn := ⟨[o 2 (.mv (.k (i 0))), o 3 (.mv (.t 0)), o 4 (.len false (.t 3)), o 2 (.mv (.t 4)), .ret], 5, [.tmp 2]⟩
theorem c266 : chkF Tryz.prog 266 p266 = true := by decide +kernel
/- container/heap.Pop -/
def p267 : PFn := ⟨[o 2 (.mv (.k .niface)), o 4 (.mv (.t 0)), o 5 (.inv 4 [(390, 266, some none)] (.t 4) []), o 6 (.bn .sub 0 (.t 5) (.k (i 1))), o 3 (.mv (.t 6)), o 7 (.mv (.t 0)), o 8 (.mv (.t 3)), o 9 (.inv 4 [(390, 419,
  some none)] (.t 7) [(.k (i 0)), (.t 8)]), o 10 (.mv (.t 0)), o 11 (.mv (.t 3)), o 12 (.call 4 325 [(.t 10), (.k (i 0)), (.t 11)]), o 13 (.mv (.t 0)), o 14 (.inv 4 [(390, 417, none)] (.t 13) []), o 2 (.mv (.t 14)), .ret], 15, [.tmp 2]⟩
theorem c267 : chkF Tryz.prog 267 p267 = true := by decide +kernel
/- paling/vector.Least -/
def p268 : PFn := ⟨[o 2 (.al 0 (.agg [(i 0), (i 0), (i 0), (i 0), (i 0)])), o 3 (.mv (.k (.bool false))), o 7 (.mv (.t 0)), o 8 (.len false (.t 7)), o 9 (.bn .eql 0 (.t 8) (.k (i 0))), .cond (.t 9) [o 10 (.bld [(i 0), (i 0), (i 0), (i 0),
  (i 0)] []), e (.st 5 (.t 2) (.t 10)), o 3 (.mv (.k (.bool false))), .ret] [], o 11 (.mv (.t 0)), o 12 (.ia 5 (.t 11) (.k (i 0))), o 13 (.ld (some 5) (.t 12)), o 4 (.al 0 (.agg [(i 0), (i 0), (i 0), (i 0), (i 0)])), e (.st 5 (.t 4) (.t 13)),
  o 14 (.mv (.t 0)), o 15 (.len false (.t 14)), o 16 (.mv (.k (i 0))), .block 0 [.loop [o 17 (.bn .lss 0 (.t 16) (.t 15)), .cond (.t 17) [] [.exit 0], .block 1 [o 18 (.ia 5 (.t 14) (.t 16)), o 19 (.ld (some 5) (.t 18)), o 6 (.al 0 (.agg [(i 0),
  (i 0), (i 0), (i 0), (i 0)])), .stf 5 6 (.t 19), o 20 (.ld (some 5) (.t 6)), o 21 (.ld (some 5) (.t 4)), o 22 (.call 7 326 [(.t 20), (.t 21)]), .cond (.t 22) [o 23 (.ld (some 5) (.t 6)), e (.st 5 (.t 4) (.t 23))] []],
  o 24 (.bn .add 0 (.t 16) (.k (i 1))), o 16 (.mv (.t 24))]], o 25 (.ld (some 5) (.t 4)), e (.st 5 (.t 2) (.t 25)), o 3 (.mv (.k (.bool true))), .ret], 26, [.cell (some 5) 2, .tmp 3]⟩
theorem c268 : chkF Tryz.prog 268 p268 = true := by decide +kernel
/- paling/lookup.open -/
def p270 : PFn := ⟨[o 4 (.bxd 0 (.t 0)), o 8 (.mv (.k .nilp)), o 9 (.mv (.k (.bool false))), o 11 (.mv (.t 2)), o 12 (.bn .lss 0 (.t 11) (.k (i 0))), o 13 (.mv (.t 12)), g 14 13 false (.mv (.t 2)), g 15 13 false (.fa 3 (.t 4)),
  g 16 13 false (.ld none (.t 15)), g 17 13 false (.len false (.t 16)), g 18 13 false (.bn .geq 0 (.t 14) (.t 17)), o 19 (.pick (.t 13) (.k (.bool true)) (.t 18)), o 20 (.mv (.t 19)), g 21 20 false (.mv (.t 1)),
  g 22 20 false (.len false (.t 21)), g 23 20 false (.fa 2 (.t 4)), g 24 20 false (.ld none (.t 23)), g 25 20 false (.len false (.t 24)), g 26 20 false (.bn .neq 0 (.t 22) (.t 25)), o 27 (.pick (.t 20) (.k (.bool true)) (.t 26)),
  o 28 (.mv (.t 27)), g 29 28 false (.ld (some 8) (.t 4)), g 30 28 false (.call 7 24 [(.t 29)]), g 31 28 false (.un .not (.t 30)), o 32 (.pick (.t 28) (.k (.bool true)) (.t 31)), .cond (.t 32) [o 8 (.mv (.k .nilp)), o 9 (.mv (.k (.bool false))),
  .ret] [], .draw 0 [0, 1, 2, 3, 4, 5, 6, 7, 8, 9] [] [o 33 (.ld (some 8) (.t 4)), o 34 (.mv (.t 1)), o 35 (.mv (.t 2)), o 36 (.mv (.t 3)), o 37 (.ld (some 8) (.t 4)), o 38 (.mv (.t 2)), o 39 (.call 0 73 [(.t 37), (.t 38)]), o 40 (.bld [nl, nl,
  nl, nl, nl, nl, nl, nl, nl, (i 0), (i 0), nl] [(0, 8, (.t 33)), (8, 1, (.t 34)), (9, 1, (.t 35)), (10, 1, (.t 36)), (11, 1, (.t 39))]), o 41 (.bx (.t 40)), o 10 (.mv (.t 41))], o 42 (.mv (.t 10)), o 43 (.mv (.t 3)),
  o 44 (.bn .eql 0 (.t 43) (.k (i (-1)))), o 45 (.mv (.t 44)), g 46 45 false (.mv (.t 3)), g 47 45 false (.bn .eql 0 (.t 46) (.k (i (-2)))), o 48 (.pick (.t 45) (.k (.bool true)) (.t 47)), o 49 (.mv (.t 48)), g 50 49 false (.mv (.t 10)),
  g 51 49 false (.nc (.t 50)), g 52 49 false (.fa 11 (.t 51)), g 53 49 false (.ld none (.t 52)), g 54 49 false (.mv (.t 3)), g 55 49 false (.call 7 72 [(.t 53), (.t 54)]), o 56 (.pick (.t 49) (.k (.bool true)) (.t 55)), o 8 (.mv (.t 42)),
  o 9 (.mv (.t 56)), .ret], 57, [.tmp 8, .tmp 9]⟩
theorem c270 : chkF Tryz.prog 270 p270 = true := by decide +kernel
/- (*paling/lookup.room).ports -/
def p271 : PFn := ⟨[o 2 (.bxd 0 (.t 0)), o 4 (.mv (.k nl)), o 6 (.mf 327 [] [(.t 2)]), o 5 (.mv (.t 6)), o 7 (.mv (.t 1)), o 8 (.call 8 143 [(.t 7)]), o 9 (.mv (.t 5)), o 10 (.call 4 329 [(.t 8), (.t 9)]), o 4 (.mv (.t 10)), .ret], 11,
  [.tmp 4]⟩
theorem c271 : chkF Tryz.prog 271 p271 = true := by decide +kernel
/- (*paling/lookup.room).peers -/
def p272 : PFn := ⟨[o 2 (.mv (.k nl)), o 3 (.mv (.t 0)), o 4 (.nc (.t 3)), o 5 (.fa 10 (.t 4)), o 6 (.ld none (.t 5)), o 7 (.bn .eql 0 (.t 6) (.k (i (-1)))), .cond (.t 7) [o 2 (.mv (.k nl)), .ret] [], .draw 0 [0, 1, 2, 3, 4, 5, 6, 7, 8, 9,
  10, 11, 12, 13] [] [o 8 (.mv (.t 0)), o 9 (.nc (.t 8)), o 10 (.fa 0 (.t 9)), o 11 (.fa 3 (.t 10)), o 12 (.ld none (.t 11)), o 13 (.mv (.t 0)), o 14 (.nc (.t 13)), o 15 (.fa 9 (.t 14)), o 16 (.ld none (.t 15)), o 17 (.ia 6 (.t 12) (.t 16)),
  o 18 (.fa 5 (.t 17)), o 19 (.ld none (.t 18)), o 20 (.call 0 143 [(.t 19)]), o 2 (.mv (.t 20))], .ret], 21, [.tmp 2]⟩
theorem c272 : chkF Tryz.prog 272 p272 = true := by decide +kernel
/- paling/table.station -/
def p273 : PFn := ⟨[o 2 (.mv (.k (.bool false))), o 3 (.mv (.t 0)), o 4 (.bn .leq 0 (.t 3) (.k (.int .u64 281474976710655))), o 5 (.mv (.t 4)), g 6 5 true (.mv (.t 0)), g 7 5 true (.call 7 194 [(.t 6)]), g 8 5 true (.un .not (.t 7)),
  o 9 (.pick (.t 5) (.t 8) (.k (.bool false))), o 2 (.mv (.t 9)), .ret], 10, [.tmp 2]⟩
theorem c273 : chkF Tryz.prog 273 p273 = true := by decide +kernel
/- paling/table.index -/
def p274 : PFn := ⟨[o 3 (.bxd 0 (.t 1)), o 4 (.mv (.k (i 0))), o 5 (.mv (.t 0)), o 6 (.mf 330 [] [(.t 3)]), o 7 (.call 7 289 [(.t 5), (.t 6)]), o 4 (.mv (.t 7)), .ret], 8, [.tmp 4]⟩
theorem c274 : chkF Tryz.prog 274 p274 = true := by decide +kernel
/- paling/table.Learn -/
def p275 : PFn := ⟨[o 8 (.mv (.k nl)), o 12 (.mv (.t 0)), o 13 (.call 8 210 [(.t 12)]), o 9 (.mv (.t 13)), o 14 (.mv (.t 0)), o 15 (.call 7 198 [(.t 14)]), o 16 (.un .not (.t 15)), o 17 (.mv (.t 16)), g 18 17 false (.mv (.t 1)),
  g 19 17 false (.call 7 273 [(.t 18)]), g 20 17 false (.un .not (.t 19)), o 21 (.pick (.t 17) (.k (.bool true)) (.t 20)), o 22 (.mv (.t 21)), g 23 22 false (.mv (.t 3)), g 24 22 false (.call 7 211 [(.t 23)]), g 25 22 false (.un .not (.t 24)),
  o 26 (.pick (.t 22) (.k (.bool true)) (.t 25)), .cond (.t 26) [o 27 (.mv (.t 9)), o 8 (.mv (.t 27)), .ret] [], o 28 (.mv (.t 0)), o 29 (.mv (.t 1)), o 30 (.call 7 274 [(.t 28), (.t 29)]), o 10 (.mv (.t 30)), o 31 (.mv (.t 10)),
  o 32 (.bn .geq 0 (.t 31) (.k (i 0))), .cond (.t 32) [o 33 (.mv (.t 9)), o 34 (.mv (.t 10)), o 35 (.mv (.t 9)), o 36 (.mv (.t 10)), o 37 (.mv (.t 2)), o 38 (.mv (.t 3)), o 39 (.ia 3 (.t 33) (.t 34)), o 40 (.fa 1 (.t 39)),
  e (.st 1 (.t 40) (.t 37)), o 41 (.ia 3 (.t 35) (.t 36)), o 42 (.fa 2 (.t 41)), e (.st 1 (.t 42) (.t 38)), o 43 (.mv (.t 9)), o 8 (.mv (.t 43)), .ret] [], o 44 (.mv (.t 9)), o 45 (.len false (.t 44)), o 46 (.bn .eql 0 (.t 45) (.k (i 8))),
  .cond (.t 46) [o 47 (.mv (.t 9)), o 48 (.call 7 331 [(.t 47)]), o 11 (.mv (.t 48)), o 49 (.mv (.t 9)), o 50 (.mv (.t 11)), o 51 (.mv (.t 11)), o 52 (.bn .add 0 (.t 51) (.k (i 1))), o 53 (.call 5 332 [(.t 49), (.t 50), (.t 52)]),
  o 9 (.mv (.t 53))] [], o 54 (.mv (.t 9)), o 55 (.mv (.t 1)), o 56 (.mv (.t 2)), o 57 (.mv (.t 3)), o 58 (.bld [(.int .u64 0), (i 0), (i 0)] [(0, 1, (.t 55)), (1, 1, (.t 56)), (2, 1, (.t 57))]), o 59 (.bsl (.agg [(.int .u64 0), (i 0),
  (i 0)]) 1 [(0, (.t 58))]), o 60 (.app 0 3 (.t 54) (.t 59)), o 8 (.mv (.t 60)), .ret], 61, [.tmp 8]⟩
theorem c275 : chkF Tryz.prog 275 p275 = true := by decide +kernel
/- paling/ipv4.Take -/
def p276 : PFn := ⟨[o 2 (.al 0 (.agg [(i 0), (i 0), (i 0), (i 0), (.int .u32 0), (.int .u32 0), nl])), o 3 (.mv (.k (i 0))), .block 0 [o 5 (.mv (.t 0)), o 6 (.len false (.t 5)), o 7 (.bn .lss 0 (.t 6) (.k (i 20))), o 4 (.mv (.t 7)),
  .cond (.t 4) [o 8 (.bld [(i 0), (i 0), (i 0), (i 0), (.int .u32 0), (.int .u32 0), nl] []), e (.st 7 (.t 2) (.t 8)), o 3 (.mv (.k (i 10))), .ret] [o 10 (.mv (.t 0)), o 11 (.ia 1 (.t 10) (.k (i 0))), o 12 (.ld none (.t 11)),
  o 13 (.bn .neq 0 (.t 12) (.k (u 69))), o 14 (.mv (.t 13)), g 15 14 false (.mv (.t 0)), g 16 14 false (.call 7 333 [(.t 15), (.k (i 2))]), g 17 14 false (.bn .lss 0 (.t 16) (.k (i 20))), o 18 (.pick (.t 14) (.k (.bool true)) (.t 17)),
  o 9 (.mv (.t 18)), .cond (.t 9) [o 19 (.bld [(i 0), (i 0), (i 0), (i 0), (.int .u32 0), (.int .u32 0), nl] []), e (.st 7 (.t 2) (.t 19)), o 3 (.mv (.k (i 11))), .ret] [o 21 (.mv (.t 0)), o 22 (.call 7 333 [(.t 21), (.k (i 2))]),
  o 23 (.mv (.t 0)), o 24 (.len false (.t 23)), o 25 (.bn .gtr 0 (.t 22) (.t 24)), o 20 (.mv (.t 25)), .cond (.t 20) [o 26 (.bld [(i 0), (i 0), (i 0), (i 0), (.int .u32 0), (.int .u32 0), nl] []), e (.st 7 (.t 2) (.t 26)), o 3 (.mv (.k (i 10))),
  .ret] [o 28 (.mv (.t 0)), o 29 (.call 7 333 [(.t 28), (.k (i 6))]), o 30 (.bn .neq 0 (.t 29) (.k (i 0))), o 27 (.mv (.t 30)), .cond (.t 27) [o 31 (.bld [(i 0), (i 0), (i 0), (i 0), (.int .u32 0), (.int .u32 0), nl] []),
  e (.st 7 (.t 2) (.t 31)), o 3 (.mv (.k (i 11))), .ret] [o 33 (.mv (.t 0)), o 34 (.sl 1 (.t 33) none (some (.k (i 20))) none), o 35 (.call 7 334 [(.t 34)]), o 36 (.un .not (.t 35)), o 32 (.mv (.t 36)), .cond (.t 32) [o 37 (.bld [(i 0), (i 0),
  (i 0), (i 0), (.int .u32 0), (.int .u32 0), nl] []), e (.st 7 (.t 2) (.t 37)), o 3 (.mv (.k (i 12))), .ret] []]]]]], .draw 0 [0, 1, 2, 3, 4, 5, 6, 7, 8, 9, 10, 11, 12, 13, 14, 15, 16, 17, 18, 19, 20, 21, 22, 23, 24, 25] [] [o 38 (.mv (.t 0)),
  o 39 (.ia 1 (.t 38) (.k (i 1))), o 40 (.ld none (.t 39)), o 41 (.cv .i64 (.t 40)), o 42 (.mv (.t 0)), o 43 (.call 0 333 [(.t 42), (.k (i 4))]), o 44 (.mv (.t 0)), o 45 (.ia 1 (.t 44) (.k (i 8))), o 46 (.ld none (.t 45)),
  o 47 (.cv .i64 (.t 46)), o 48 (.mv (.t 0)), o 49 (.ia 1 (.t 48) (.k (i 9))), o 50 (.ld none (.t 49)), o 51 (.cv .i64 (.t 50)), o 52 (.mv (.t 0)), o 53 (.call 0 335 [(.t 52), (.k (i 12))]), o 54 (.mv (.t 0)), o 55 (.call 0 335 [(.t 54),
  (.k (i 16))]), o 56 (.mv (.t 0)), o 57 (.mv (.t 0)), o 58 (.call 0 333 [(.t 57), (.k (i 2))]), o 59 (.sl 1 (.t 56) (some (.k (i 20))) (some (.t 58)) none), o 60 (.call 0 269 [(.t 59)]), o 61 (.bld [(i 0), (i 0), (i 0), (i 0), (.int .u32 0),
  (.int .u32 0), nl] [(0, 1, (.t 41)), (1, 1, (.t 43)), (2, 1, (.t 47)), (3, 1, (.t 51)), (4, 1, (.t 53)), (5, 1, (.t 55)), (6, 1, (.t 60))]), e (.st 7 (.t 2) (.t 61)), o 3 (.mv (.k (i 0)))], .ret], 62, [.cell (some 7) 2, .tmp 3]⟩
theorem c276 : chkF Tryz.prog 276 p276 = true := by decide +kernel
/- paling/ipv4.Hop -/
def p277 : PFn := ⟨[o 1 (.bxm 0 (.t 0)), o 2 (.al 0 (.agg [(i 0), (i 0), (i 0), (i 0), (.int .u32 0), (.int .u32 0), nl])), o 3 (.mv (.k (i 0))), o 4 (.fa 2 (.t 1)), o 5 (.ld none (.t 4)), o 6 (.bn .leq 0 (.t 5) (.k (i 1))),
  .cond (.t 6) [o 7 (.bld [(i 0), (i 0), (i 0), (i 0), (.int .u32 0), (.int .u32 0), nl] []), e (.st 7 (.t 2) (.t 7)), o 3 (.mv (.k (i 13))), .ret] [], o 8 (.fa 2 (.t 1)), o 9 (.ld none (.t 8)), o 10 (.bn .sub 0 (.t 9) (.k (i 1))),
  o 11 (.fa 2 (.t 1)), e (.st 1 (.t 11) (.t 10)), o 12 (.fa 6 (.t 1)), o 13 (.ld none (.t 12)), o 14 (.call 7 269 [(.t 13)]), o 15 (.fa 6 (.t 1)), e (.st 1 (.t 15) (.t 14)), o 16 (.ld (some 7) (.t 1)), e (.st 7 (.t 2) (.t 16)),
  o 3 (.mv (.k (i 0))), .ret], 17, [.cell (some 7) 2, .tmp 3]⟩
theorem c277 : chkF Tryz.prog 277 p277 = true := by decide +kernel
/- paling/route.lookup -/
def p278 : PFn := ⟨[o 3 (.bxd 0 (.t 0)), o 4 (.bxm 0 (.t 1)), o 6 (.mv (.k (i 0))), o 7 (.mv (.k (.bool false))), o 8 (.mv (.k nl)), o 12 (.fa 7 (.t 3)), o 13 (.ld none (.t 12)), o 14 (.len false (.t 13)), o 15 (.mv (.k (i 0))),
  .block 0 [.loop [o 16 (.bn .lss 0 (.t 15) (.t 14)), .cond (.t 16) [] [.exit 0], .block 1 [o 17 (.mv (.t 15)), o 18 (.ia 5 (.t 13) (.t 15)), o 19 (.ld (some 5) (.t 18)), o 10 (.al 0 (.agg [(i 0), (i 0), (i 0), (.int .u32 0), (i 0)])),
  o 9 (.mv (.t 17)), .stf 5 10 (.t 19), .draw 0 [0, 1, 2, 3, 4, 5, 6, 7, 8, 9, 10, 11, 12, 13] [] [o 20 (.ld (some 8) (.t 3)), o 21 (.mv (.t 9)), o 22 (.call 0 336 [(.t 20), (.t 21)]), o 23 (.ld (some 8) (.t 3)), o 24 (.ld none (.t 4)),
  o 25 (.call 0 336 [(.t 23), (.t 24)]), o 26 (.bn .eql 0 (.t 22) (.t 25)), o 27 (.mv (.t 26)), g 28 27 true (.fa 3 (.t 10)), g 29 27 true (.fa 0 (.t 28)), g 30 27 true (.ld none (.t 29)), g 31 27 true (.mv (.t 2)),
  g 32 27 true (.bn .eql 0 (.t 30) (.t 31)), o 33 (.pick (.t 27) (.t 32) (.k (.bool false)))], .cond (.t 33) [o 6 (.mv (.k (i 0))), o 7 (.mv (.k (.bool false))), .ret] [], o 34 (.fa 3 (.t 10)), o 35 (.ld (some 2) (.t 34)), o 36 (.mv (.t 2)),
  o 37 (.call 7 337 [(.t 35), (.t 36)]), o 38 (.mv (.t 37)), g 39 38 true (.ld (some 8) (.t 3)), g 40 38 true (.ld none (.t 4)), g 41 38 true (.mv (.t 9)), g 42 38 true (.call 7 338 [(.t 39), (.t 40), (.t 41)]),
  o 43 (.pick (.t 38) (.t 42) (.k (.bool false))), .cond (.t 43) [o 44 (.mv (.t 8)), o 45 (.mv (.t 9)), o 46 (.bsl (i 0) 1 [(0, (.t 45))]), o 47 (.app 0 1 (.t 44) (.t 46)), o 8 (.mv (.t 47))] []], o 48 (.bn .add 0 (.t 15) (.k (i 1))),
  o 15 (.mv (.t 48))]], o 49 (.mv (.t 8)), o 50 (.len false (.t 49)), o 51 (.bn .eql 0 (.t 50) (.k (i 0))), .cond (.t 51) [o 6 (.mv (.k (i 0))), o 7 (.mv (.k (.bool false))), .ret] [], o 52 (.mf 339 [] [(.t 3), (.t 4)]), o 11 (.al 0 .nfun),
  .stf 1 11 (.t 52), o 53 (.mv (.t 8)), o 54 (.mf 341 [] [(.t 3), (.t 11)]), o 55 (.call 7 340 [(.t 53), (.t 54)]), o 6 (.mv (.t 55)), o 7 (.mv (.k (.bool true))), .ret], 56, [.tmp 6, .tmp 7]⟩
theorem c278 : chkF Tryz.prog 278 p278 = true := by decide +kernel
/- (*paling/lookup.room).known -/
def p279 : PFn := ⟨[o 6 (.mv (.k nl)), o 7 (.mv (.k nl)), o 8 (.mv (.k (.bool false))), .draw 0 [0, 1, 2, 3, 4, 5, 6, 7, 8, 9, 10] [] [o 11 (.mv (.t 0)), o 12 (.nc (.t 11)), o 13 (.fa 0 (.t 12)), o 14 (.ld (some 8) (.t 13)),
  o 15 (.mv (.t 0)), o 16 (.nc (.t 15)), o 17 (.fa 9 (.t 16)), o 18 (.ld none (.t 17)), o 19 (.mv (.t 2)), o 20 (.call 0 342 [(.t 14), (.t 18), (.t 19)]), o 9 (.mv (.t 20))], o 21 (.mv (.t 9)), o 22 (.bn .geq 0 (.t 21) (.k (i 0))),
  .cond (.t 22) [o 23 (.mv (.t 0)), o 24 (.mv (.t 9)), o 25 (.bsl (i 0) 1 [(0, (.t 24))]), o 26 (.call 7 271 [(.t 23), (.t 25)]), o 6 (.mv (.t 26)), o 7 (.mv (.k nl)), o 8 (.mv (.k (.bool true))), .ret] [], o 28 (.mv (.t 1)), o 29 (.mv (.t 2)),
  o 30 (.call 7 343 [(.t 28), (.t 29)]), o 27 (.mv (.t 30)), o 31 (.ext (.t 27) 0), o 32 (.ext (.t 27) 1), o 10 (.mv (.t 31)), o 8 (.mv (.t 32)), .block 0 [o 34 (.mv (.t 8)), o 35 (.un .not (.t 34)), o 33 (.mv (.t 35)),
  .cond (.t 33) [o 6 (.mv (.k nl)), o 7 (.mv (.k nl)), o 8 (.mv (.k (.bool false))), .ret] [o 37 (.mv (.t 10)), o 38 (.bn .geq 0 (.t 37) (.k (i 0))), o 39 (.mv (.t 38)), g 40 39 true (.mv (.t 0)), g 41 39 true (.nc (.t 40)),
  g 42 39 true (.fa 11 (.t 41)), g 43 39 true (.ld none (.t 42)), g 44 39 true (.mv (.t 10)), g 45 39 true (.call 7 72 [(.t 43), (.t 44)]), o 46 (.pick (.t 39) (.t 45) (.k (.bool false))), o 36 (.mv (.t 46)), .cond (.t 36) [o 47 (.mv (.t 0)),
  o 48 (.mv (.t 10)), o 49 (.bsl (i 0) 1 [(0, (.t 48))]), o 50 (.call 7 271 [(.t 47), (.t 49)]), o 6 (.mv (.t 50)), o 7 (.mv (.k nl)), o 8 (.mv (.k (.bool true))), .ret] [.draw 0 [0, 1, 2, 3, 4, 5, 6, 7, 8, 9, 10, 11, 12, 13, 14, 15, 16, 17, 18,
  19] [] [o 52 (.mv (.t 10)), o 53 (.bn .lss 0 (.t 52) (.k (i 0))), o 54 (.mv (.t 53)), g 55 54 true (.mv (.t 0)), g 56 54 true (.nc (.t 55)), g 57 54 true (.fa 0 (.t 56)), g 58 54 true (.fa 3 (.t 57)), g 59 54 true (.ld none (.t 58)),
  g 60 54 true (.mv (.t 0)), g 61 54 true (.nc (.t 60)), g 62 54 true (.fa 9 (.t 61)), g 63 54 true (.ld none (.t 62)), g 64 54 true (.ia 6 (.t 59) (.t 63)), g 65 54 true (.fa 5 (.t 64)), g 66 54 true (.ld none (.t 65)),
  g 67 54 true (.mv (.t 10)), g 68 54 true (.bn .sub 0 (.k (i (-1))) (.t 67)), g 69 54 true (.call 0 72 [(.t 66), (.t 68)]), o 70 (.pick (.t 54) (.t 69) (.k (.bool false))), o 51 (.mv (.t 70))], .cond (.t 51) [o 71 (.mv (.t 0)),
  o 72 (.nc (.t 71)), o 73 (.fa 10 (.t 72)), o 74 (.ld none (.t 73)), o 75 (.bn .eql 0 (.t 74) (.k (i (-1)))), .cond (.t 75) [o 6 (.mv (.k nl)), o 7 (.mv (.k nl)), o 8 (.mv (.k (.bool true))), .ret] [], o 76 (.mv (.t 10)),
  o 77 (.bn .sub 0 (.k (i (-1))) (.t 76)), o 78 (.bsl (i 0) 1 [(0, (.t 77))]), o 6 (.mv (.k nl)), o 7 (.mv (.t 78)), o 8 (.mv (.k (.bool true))), .ret] []]]], o 6 (.mv (.k nl)), o 7 (.mv (.k nl)), o 8 (.mv (.k (.bool false))), .ret], 79,
  [.tmp 6, .tmp 7, .tmp 8]⟩
theorem c279 : chkF Tryz.prog 279 p279 = true := by decide +kernel
/- paling/leave.place -/
def p280 : PFn := ⟨[o 4 (.mv (.k (.bool false))), o 5 (.mv (.t 0)), o 6 (.bn .geq 0 (.t 5) (.k (i 0))), o 7 (.mv (.t 6)), g 8 7 true (.mv (.t 0)), g 9 7 true (.mv (.t 1)), g 10 7 true (.bn .lss 0 (.t 8) (.t 9)),
  o 11 (.pick (.t 7) (.t 10) (.k (.bool false))), o 4 (.mv (.t 11)), .ret], 12, [.tmp 4]⟩
theorem c280 : chkF Tryz.prog 280 p280 = true := by decide +kernel
end Go.Proofs.YtjhcempjiokfdaaGreatDoor
