/- The functions' abstract code, each checked against the program's. Part 1. No condition. -/
import Derived.Test.YtjhcempjiokfdaaGreatDoorAbs4
import Derived.Test.YtjhcempjiokfdaaGreatDoorProg
set_option linter.unusedSimpArgs false
set_option linter.unusedVariables false

-- ---- YtjhcempjiokfdaaGreatDoorCode1
namespace Go.Proofs.YtjhcempjiokfdaaGreatDoor
open Go.Proofs.Abs
abbrev o (d : Nat) (p : PO) : PI := .op (some d) p
abbrev e (p : PO) : PI := .op none p
abbrev g (d j : Nat) (w : Bool) (p : PO) : PI := .opg (some d) j w p
abbrev i (n : Int) : AV := .int .i64 n
abbrev u (n : Int) : AV := .int .u8 n
abbrev nl : AV := .lst true []
set_option maxRecDepth 100000
/- gosem.cut.init -/
def p2 : PFn := ⟨[o 0 (.call 7 1 [])], 1, []⟩
theorem c2 : chkF Tryz.prog 2 p2 = true := by decide +kernel
/- paling/palinglaw38.VerdictSames -/
def p3 : PFn := ⟨[o 2 (.bxd 0 (.t 0)), o 3 (.bxd 0 (.t 1)), o 4 (.mv (.k (.bool false))), o 6 (.fa 6 (.t 2)), o 7 (.ld none (.t 6)), o 8 (.len false (.t 7)), o 9 (.bn .gtr 0 (.t 8) (.k (i 100))), o 10 (.mv (.t 9)),
  g 11 10 false (.fa 6 (.t 3)), g 12 10 false (.ld none (.t 11)), g 13 10 false (.len false (.t 12)), g 14 10 false (.bn .gtr 0 (.t 13) (.k (i 100))), o 15 (.pick (.t 10) (.k (.bool true)) (.t 14)), .cond (.t 15) [o 16 (.call 7 4 []),
  o 4 (.mv (.t 16)), .ret] [], o 5 (.mv (.k (i 0))), .block 0 [.mark 0, .loop [.tidy 0 [2, 3, 4, 5], o 17 (.mv (.t 5)), o 18 (.fa 6 (.t 2)), o 19 (.ld none (.t 18)), o 20 (.len false (.t 19)), o 21 (.bn .lss 0 (.t 17) (.t 20)),
  .cond (.t 21) [] [.exit 0], .block 1 [o 24 (.fa 6 (.t 2)), o 25 (.ld none (.t 24)), o 26 (.mv (.t 5)), o 27 (.ia 6 (.t 25) (.t 26)), o 28 (.fa 4 (.t 27)), o 29 (.ld none (.t 28)), o 30 (.len false (.t 29)),
  o 31 (.bn .gtr 0 (.t 30) (.k (i 2000))), o 32 (.mv (.t 31)), g 33 32 false (.fa 6 (.t 2)), g 34 32 false (.ld none (.t 33)), g 35 32 false (.mv (.t 5)), g 36 32 false (.ia 6 (.t 34) (.t 35)), g 37 32 false (.fa 5 (.t 36)),
  g 38 32 false (.ld none (.t 37)), g 39 32 false (.len false (.t 38)), g 40 32 false (.bn .gtr 0 (.t 39) (.k (i 100))), o 41 (.pick (.t 32) (.k (.bool true)) (.t 40)), .cond (.t 41) [o 42 (.call 7 4 []), o 4 (.mv (.t 42)), .ret] []],
  o 22 (.mv (.t 5)), o 23 (.bn .add 0 (.t 22) (.k (i 1))), o 5 (.mv (.t 23))]], .draw 0 [0, 1, 2, 3, 4, 5, 6, 7, 8, 9, 10, 11, 12, 13, 14, 15, 16, 17] [] [o 43 (.ld (some 7) (.t 2)), o 44 (.ld (some 7) (.t 3)), o 45 (.call 0 5 [(.t 43),
  (.t 44)]), o 46 (.ld (some 7) (.t 2)), o 47 (.call 0 7 [(.t 46)]), o 48 (.ld (some 7) (.t 3)), o 49 (.call 0 7 [(.t 48)]), o 50 (.call 7 6 [(.t 47), (.t 49)]), o 51 (.bn .eql 1 (.t 45) (.t 50)), o 52 (.mv (.t 51)),
  g 53 52 true (.ld (some 7) (.t 2)), g 54 52 true (.ld (some 7) (.t 2)), g 55 52 true (.call 0 5 [(.t 53), (.t 54)]), o 56 (.pick (.t 52) (.t 55) (.k (.bool false))), o 57 (.mv (.t 56)), g 58 57 true (.call 0 4 []),
  o 59 (.pick (.t 57) (.t 58) (.k (.bool false))), o 4 (.mv (.t 59))], .ret], 60, [.tmp 4]⟩
theorem c3 : chkF Tryz.prog 3 p3 = true := by decide +kernel
/- paling/palinglaw38.works -/
def p4 : PFn := ⟨[o 0 (.mv (.k (.bool false))), o 4 (.bslm 0 (u 0) 71 [(0, (.k (u 100))), (1, (.k (u 101))), (2, (.k (u 118))), (3, (.k (u 105))), (4, (.k (u 99))), (5, (.k (u 101))), (6, (.k (u 32))), (7, (.k (u 97))), (8, (.k (u 32))), (9,
  (.k (u 49))), (10, (.k (u 32))), (11, (.k (u 48))), (12, (.k (u 48))), (13, (.k (u 58))), (14, (.k (u 48))), (15, (.k (u 48))), (16, (.k (u 58))), (17, (.k (u 48))), (18, (.k (u 48))), (19, (.k (u 58))), (20, (.k (u 48))), (21, (.k (u 48))),
  (22, (.k (u 58))), (23, (.k (u 48))), (24, (.k (u 48))), (25, (.k (u 58))), (26, (.k (u 48))), (27, (.k (u 49))), (28, (.k (u 10))), (29, (.k (u 112))), (30, (.k (u 111))), (31, (.k (u 114))), (32, (.k (u 116))), (33, (.k (u 32))), (34,
  (.k (u 97))), (35, (.k (u 32))), (36, (.k (u 112))), (37, (.k (u 32))), (38, (.k (u 49))), (39, (.k (u 32))), (40, (.k (u 97))), (41, (.k (u 99))), (42, (.k (u 99))), (43, (.k (u 101))), (44, (.k (u 115))), (45, (.k (u 115))), (46,
  (.k (u 32))), (47, (.k (u 49))), (48, (.k (u 48))), (49, (.k (u 10))), (50, (.k (u 112))), (51, (.k (u 111))), (52, (.k (u 114))), (53, (.k (u 116))), (54, (.k (u 32))), (55, (.k (u 97))), (56, (.k (u 32))), (57, (.k (u 113))), (58,
  (.k (u 32))), (59, (.k (u 49))), (60, (.k (u 32))), (61, (.k (u 97))), (62, (.k (u 99))), (63, (.k (u 99))), (64, (.k (u 101))), (65, (.k (u 115))), (66, (.k (u 115))), (67, (.k (u 32))), (68, (.k (u 49))), (69, (.k (u 48))), (70,
  (.k (u 10)))]), o 5 (.cvl (.t 4)), .frz 5, o 6 (.bslm 0 (u 0) 26 [(0, (.k (u 116))), (1, (.k (u 101))), (2, (.k (u 110))), (3, (.k (u 97))), (4, (.k (u 110))), (5, (.k (u 116))), (6, (.k (u 32))), (7, (.k (u 120))), (8, (.k (u 32))), (9,
  (.k (u 97))), (10, (.k (u 46))), (11, (.k (u 112))), (12, (.k (u 10))), (13, (.k (u 116))), (14, (.k (u 101))), (15, (.k (u 110))), (16, (.k (u 97))), (17, (.k (u 110))), (18, (.k (u 116))), (19, (.k (u 32))), (20, (.k (u 121))), (21,
  (.k (u 32))), (22, (.k (u 97))), (23, (.k (u 46))), (24, (.k (u 113))), (25, (.k (u 10)))]), o 7 (.cvl (.t 6)), .frz 7, o 8 (.call 7 8 [(.t 5), (.t 7)]), o 1 (.al 0 (.agg [(i 0), (i 0), (i 0), (i 0), (i 0), (i 0), nl])), .stf 7 1 (.t 8),
  o 9 (.bslm 0 (u 0) 71 [(0, (.k (u 100))), (1, (.k (u 101))), (2, (.k (u 118))), (3, (.k (u 105))), (4, (.k (u 99))), (5, (.k (u 101))), (6, (.k (u 32))), (7, (.k (u 97))), (8, (.k (u 32))), (9, (.k (u 49))), (10, (.k (u 32))), (11,
  (.k (u 48))), (12, (.k (u 48))), (13, (.k (u 58))), (14, (.k (u 48))), (15, (.k (u 48))), (16, (.k (u 58))), (17, (.k (u 48))), (18, (.k (u 48))), (19, (.k (u 58))), (20, (.k (u 48))), (21, (.k (u 48))), (22, (.k (u 58))), (23, (.k (u 48))),
  (24, (.k (u 48))), (25, (.k (u 58))), (26, (.k (u 48))), (27, (.k (u 49))), (28, (.k (u 10))), (29, (.k (u 112))), (30, (.k (u 111))), (31, (.k (u 114))), (32, (.k (u 116))), (33, (.k (u 32))), (34, (.k (u 97))), (35, (.k (u 32))), (36,
  (.k (u 112))), (37, (.k (u 32))), (38, (.k (u 49))), (39, (.k (u 32))), (40, (.k (u 97))), (41, (.k (u 99))), (42, (.k (u 99))), (43, (.k (u 101))), (44, (.k (u 115))), (45, (.k (u 115))), (46, (.k (u 32))), (47, (.k (u 49))), (48,
  (.k (u 48))), (49, (.k (u 10))), (50, (.k (u 112))), (51, (.k (u 111))), (52, (.k (u 114))), (53, (.k (u 116))), (54, (.k (u 32))), (55, (.k (u 97))), (56, (.k (u 32))), (57, (.k (u 113))), (58, (.k (u 32))), (59, (.k (u 49))), (60,
  (.k (u 32))), (61, (.k (u 97))), (62, (.k (u 99))), (63, (.k (u 99))), (64, (.k (u 101))), (65, (.k (u 115))), (66, (.k (u 115))), (67, (.k (u 32))), (68, (.k (u 50))), (69, (.k (u 48))), (70, (.k (u 10)))]), o 10 (.cvl (.t 9)), .frz 10,
  o 11 (.bslm 0 (u 0) 26 [(0, (.k (u 116))), (1, (.k (u 101))), (2, (.k (u 110))), (3, (.k (u 97))), (4, (.k (u 110))), (5, (.k (u 116))), (6, (.k (u 32))), (7, (.k (u 120))), (8, (.k (u 32))), (9, (.k (u 97))), (10, (.k (u 46))), (11,
  (.k (u 112))), (12, (.k (u 10))), (13, (.k (u 116))), (14, (.k (u 101))), (15, (.k (u 110))), (16, (.k (u 97))), (17, (.k (u 110))), (18, (.k (u 116))), (19, (.k (u 32))), (20, (.k (u 121))), (21, (.k (u 32))), (22, (.k (u 97))), (23,
  (.k (u 46))), (24, (.k (u 113))), (25, (.k (u 10)))]), o 12 (.cvl (.t 11)), .frz 12, o 13 (.call 7 8 [(.t 10), (.t 12)]), o 2 (.al 0 (.agg [(i 0), (i 0), (i 0), (i 0), (i 0), (i 0), nl])), .stf 7 2 (.t 13), o 14 (.bslm 0 (u 0) 71 [(0,
  (.k (u 100))), (1, (.k (u 101))), (2, (.k (u 118))), (3, (.k (u 105))), (4, (.k (u 99))), (5, (.k (u 101))), (6, (.k (u 32))), (7, (.k (u 97))), (8, (.k (u 32))), (9, (.k (u 49))), (10, (.k (u 32))), (11, (.k (u 48))), (12, (.k (u 48))), (13,
  (.k (u 58))), (14, (.k (u 48))), (15, (.k (u 48))), (16, (.k (u 58))), (17, (.k (u 48))), (18, (.k (u 48))), (19, (.k (u 58))), (20, (.k (u 48))), (21, (.k (u 48))), (22, (.k (u 58))), (23, (.k (u 48))), (24, (.k (u 48))), (25, (.k (u 58))),
  (26, (.k (u 48))), (27, (.k (u 49))), (28, (.k (u 10))), (29, (.k (u 112))), (30, (.k (u 111))), (31, (.k (u 114))), (32, (.k (u 116))), (33, (.k (u 32))), (34, (.k (u 97))), (35, (.k (u 32))), (36, (.k (u 112))), (37, (.k (u 32))), (38,
  (.k (u 49))), (39, (.k (u 32))), (40, (.k (u 97))), (41, (.k (u 99))), (42, (.k (u 99))), (43, (.k (u 101))), (44, (.k (u 115))), (45, (.k (u 115))), (46, (.k (u 32))), (47, (.k (u 49))), (48, (.k (u 48))), (49, (.k (u 10))), (50,
  (.k (u 112))), (51, (.k (u 111))), (52, (.k (u 114))), (53, (.k (u 116))), (54, (.k (u 32))), (55, (.k (u 97))), (56, (.k (u 32))), (57, (.k (u 113))), (58, (.k (u 32))), (59, (.k (u 49))), (60, (.k (u 32))), (61, (.k (u 97))), (62,
  (.k (u 99))), (63, (.k (u 99))), (64, (.k (u 101))), (65, (.k (u 115))), (66, (.k (u 115))), (67, (.k (u 32))), (68, (.k (u 50))), (69, (.k (u 48))), (70, (.k (u 10)))]), o 15 (.cvl (.t 14)), .frz 15, o 16 (.bslm 0 (u 0) 13 [(0, (.k (u 116))),
  (1, (.k (u 101))), (2, (.k (u 110))), (3, (.k (u 97))), (4, (.k (u 110))), (5, (.k (u 116))), (6, (.k (u 32))), (7, (.k (u 120))), (8, (.k (u 32))), (9, (.k (u 97))), (10, (.k (u 46))), (11, (.k (u 112))), (12, (.k (u 10)))]),
  o 17 (.cvl (.t 16)), .frz 17, o 18 (.call 7 8 [(.t 15), (.t 17)]), o 3 (.al 0 (.agg [(i 0), (i 0), (i 0), (i 0), (i 0), (i 0), nl])), .stf 7 3 (.t 18), o 19 (.fa 0 (.t 1)), o 20 (.ld none (.t 19)), o 21 (.bn .eql 0 (.t 20) (.k (i 2))),
  o 22 (.mv (.t 21)), g 23 22 true (.fa 4 (.t 1)), g 24 22 true (.ld none (.t 23)), g 25 22 true (.bn .eql 0 (.t 24) (.k (i 0))), o 26 (.pick (.t 22) (.t 25) (.k (.bool false))), o 27 (.mv (.t 26)), g 28 27 true (.fa 5 (.t 1)),
  g 29 27 true (.ld none (.t 28)), g 30 27 true (.bn .eql 0 (.t 29) (.k (i 1))), o 31 (.pick (.t 27) (.t 30) (.k (.bool false))), o 32 (.mv (.t 31)), g 33 32 true (.fa 6 (.t 1)), g 34 32 true (.ld none (.t 33)),
  g 35 32 true (.len false (.t 34)), g 36 32 true (.bn .eql 0 (.t 35) (.k (i 2))), o 37 (.pick (.t 32) (.t 36) (.k (.bool false))), o 38 (.mv (.t 37)), g 39 38 true (.fa 0 (.t 2)), g 40 38 true (.ld none (.t 39)),
  g 41 38 true (.bn .eql 0 (.t 40) (.k (i 1))), o 42 (.pick (.t 38) (.t 41) (.k (.bool false))), o 43 (.mv (.t 42)), g 44 43 true (.fa 0 (.t 3)), g 45 43 true (.ld none (.t 44)), g 46 43 true (.bn .eql 0 (.t 45) (.k (i 3))),
  o 47 (.pick (.t 43) (.t 46) (.k (.bool false))), o 48 (.mv (.t 47)), g 49 48 true (.fa 1 (.t 3)), g 50 48 true (.ld none (.t 49)), g 51 48 true (.bn .eql 0 (.t 50) (.k (i 1))), o 52 (.pick (.t 48) (.t 51) (.k (.bool false))),
  o 53 (.mv (.t 52)), g 54 53 true (.fa 2 (.t 3)), g 55 53 true (.ld none (.t 54)), g 56 53 true (.bn .eql 0 (.t 55) (.k (i 3))), o 57 (.pick (.t 53) (.t 56) (.k (.bool false))), o 58 (.mv (.t 57)), g 59 58 true (.fa 3 (.t 3)),
  g 60 58 true (.ld none (.t 59)), g 61 58 true (.bn .eql 0 (.t 60) (.k (i 39))), o 62 (.pick (.t 58) (.t 61) (.k (.bool false))), o 0 (.mv (.t 62)), .ret], 63, [.tmp 0]⟩
theorem c4 : chkF Tryz.prog 4 p4 = true := by decide +kernel
/- paling/verdict.Same -/
def p5 : PFn := ⟨[o 2 (.bxd 0 (.t 0)), o 3 (.bxd 0 (.t 1)), o 4 (.mv (.k (.bool false))), o 5 (.fa 0 (.t 2)), o 6 (.ld none (.t 5)), o 7 (.fa 0 (.t 3)), o 8 (.ld none (.t 7)), o 9 (.bn .eql 0 (.t 6) (.t 8)), o 10 (.mv (.t 9)),
  g 11 10 true (.fa 1 (.t 2)), g 12 10 true (.ld none (.t 11)), g 13 10 true (.fa 1 (.t 3)), g 14 10 true (.ld none (.t 13)), g 15 10 true (.bn .eql 0 (.t 12) (.t 14)), o 16 (.pick (.t 10) (.t 15) (.k (.bool false))), o 17 (.mv (.t 16)),
  g 18 17 true (.fa 2 (.t 2)), g 19 17 true (.ld none (.t 18)), g 20 17 true (.fa 2 (.t 3)), g 21 17 true (.ld none (.t 20)), g 22 17 true (.bn .eql 0 (.t 19) (.t 21)), o 23 (.pick (.t 17) (.t 22) (.k (.bool false))), o 24 (.mv (.t 23)),
  g 25 24 true (.fa 3 (.t 2)), g 26 24 true (.ld none (.t 25)), g 27 24 true (.fa 3 (.t 3)), g 28 24 true (.ld none (.t 27)), g 29 24 true (.bn .eql 0 (.t 26) (.t 28)), o 30 (.pick (.t 24) (.t 29) (.k (.bool false))), o 31 (.mv (.t 30)),
  g 32 31 true (.fa 4 (.t 2)), g 33 31 true (.ld none (.t 32)), g 34 31 true (.fa 4 (.t 3)), g 35 31 true (.ld none (.t 34)), g 36 31 true (.bn .eql 0 (.t 33) (.t 35)), o 37 (.pick (.t 31) (.t 36) (.k (.bool false))), o 38 (.mv (.t 37)),
  g 39 38 true (.fa 5 (.t 2)), g 40 38 true (.ld none (.t 39)), g 41 38 true (.fa 5 (.t 3)), g 42 38 true (.ld none (.t 41)), g 43 38 true (.bn .eql 0 (.t 40) (.t 42)), o 44 (.pick (.t 38) (.t 43) (.k (.bool false))), o 45 (.mv (.t 44)),
  g 46 45 true (.fa 6 (.t 2)), g 47 45 true (.ld none (.t 46)), g 48 45 true (.fa 6 (.t 3)), g 49 45 true (.ld none (.t 48)), g 50 45 true (.call 7 9 [(.t 47), (.t 49), (.f 10)]), o 51 (.pick (.t 45) (.t 50) (.k (.bool false))),
  o 4 (.mv (.t 51)), .ret], 52, [.tmp 4]⟩
theorem c5 : chkF Tryz.prog 5 p5 = true := by decide +kernel
/- paling/palingref38.Same -/
def p6 : PFn := ⟨[o 2 (.bxd 0 (.t 0)), o 3 (.bxd 0 (.t 1)), o 4 (.mv (.k (.bool false))), o 5 (.fa 0 (.t 2)), o 6 (.ld none (.t 5)), o 7 (.fa 0 (.t 3)), o 8 (.ld none (.t 7)), o 9 (.bn .eql 0 (.t 6) (.t 8)), o 10 (.mv (.t 9)),
  g 11 10 true (.fa 1 (.t 2)), g 12 10 true (.ld none (.t 11)), g 13 10 true (.fa 1 (.t 3)), g 14 10 true (.ld none (.t 13)), g 15 10 true (.bn .eql 0 (.t 12) (.t 14)), o 16 (.pick (.t 10) (.t 15) (.k (.bool false))), o 17 (.mv (.t 16)),
  g 18 17 true (.fa 2 (.t 2)), g 19 17 true (.ld none (.t 18)), g 20 17 true (.fa 2 (.t 3)), g 21 17 true (.ld none (.t 20)), g 22 17 true (.bn .eql 0 (.t 19) (.t 21)), o 23 (.pick (.t 17) (.t 22) (.k (.bool false))), o 24 (.mv (.t 23)),
  g 25 24 true (.fa 3 (.t 2)), g 26 24 true (.ld none (.t 25)), g 27 24 true (.fa 3 (.t 3)), g 28 24 true (.ld none (.t 27)), g 29 24 true (.bn .eql 0 (.t 26) (.t 28)), o 30 (.pick (.t 24) (.t 29) (.k (.bool false))), o 31 (.mv (.t 30)),
  g 32 31 true (.fa 4 (.t 2)), g 33 31 true (.ld none (.t 32)), g 34 31 true (.fa 4 (.t 3)), g 35 31 true (.ld none (.t 34)), g 36 31 true (.bn .eql 0 (.t 33) (.t 35)), o 37 (.pick (.t 31) (.t 36) (.k (.bool false))), o 38 (.mv (.t 37)),
  g 39 38 true (.fa 5 (.t 2)), g 40 38 true (.ld none (.t 39)), g 41 38 true (.fa 5 (.t 3)), g 42 38 true (.ld none (.t 41)), g 43 38 true (.bn .eql 0 (.t 40) (.t 42)), o 44 (.pick (.t 38) (.t 43) (.k (.bool false))), o 45 (.mv (.t 44)),
  g 46 45 true (.fa 6 (.t 2)), g 47 45 true (.ld none (.t 46)), g 48 45 true (.fa 6 (.t 3)), g 49 45 true (.ld none (.t 48)), g 50 45 true (.call 7 11 [(.t 47), (.t 49)]), o 51 (.pick (.t 45) (.t 50) (.k (.bool false))), o 4 (.mv (.t 51)),
  .ret], 52, [.tmp 4]⟩
theorem c6 : chkF Tryz.prog 6 p6 = true := by decide +kernel
/- paling/palinglaw38.told -/
def p7 : PFn := ⟨[o 1 (.bxd 0 (.t 0)), o 2 (.al 0 (.agg [(i 0), (i 0), (i 0), (i 0), (i 0), (i 0), nl])), o 3 (.fa 0 (.t 1)), o 4 (.ld none (.t 3)), o 5 (.fa 1 (.t 1)), o 6 (.ld none (.t 5)), o 7 (.fa 2 (.t 1)), o 8 (.ld none (.t 7)),
  o 9 (.fa 3 (.t 1)), o 10 (.ld none (.t 9)), o 11 (.fa 4 (.t 1)), o 12 (.ld none (.t 11)), o 13 (.fa 5 (.t 1)), o 14 (.ld none (.t 13)), o 15 (.fa 6 (.t 1)), o 16 (.ld none (.t 15)), o 17 (.bld [(i 0), (i 0), (i 0), (i 0), (i 0), (i 0),
  nl] [(0, 1, (.t 4)), (1, 1, (.t 6)), (2, 1, (.t 8)), (3, 1, (.t 10)), (4, 1, (.t 12)), (5, 1, (.t 14)), (6, 1, (.t 16))]), .stf 7 2 (.t 17), .ret], 18, [.cell (some 7) 2]⟩
theorem c7 : chkF Tryz.prog 7 p7 = true := by decide +kernel
/- paling/verdict.Verify -/
def p8 : PFn := ⟨[o 4 (.al 0 (.agg [(i 0), (i 0), (i 0), (i 0), (i 0), (i 0), nl])), o 17 (.mv (.t 0)), o 18 (.call 7 12 [(.t 17)]), o 16 (.mv (.t 18)), o 19 (.ext (.t 16) 0), o 20 (.ext (.t 16) 1), o 21 (.ext (.t 16) 2),
  o 5 (.al 0 (.agg [nl, nl, nl, nl, nl, nl, nl, nl])), .stf 8 5 (.t 19), o 6 (.mv (.t 20)), o 7 (.mv (.t 21)), o 22 (.mv (.t 7)), o 23 (.bn .neq 0 (.t 22) (.k (i 0))), .cond (.t 23) [o 24 (.mv (.t 6)), o 25 (.mv (.t 7)),
  o 26 (.call 7 13 [(.k (i 1)), (.t 24), (.t 25)]), e (.st 7 (.t 4) (.t 26)), .ret] [], o 28 (.mv (.t 1)), o 29 (.call 7 14 [(.t 28)]), o 27 (.mv (.t 29)), o 30 (.ext (.t 27) 0), o 31 (.ext (.t 27) 1), o 32 (.ext (.t 27) 2), o 8 (.mv (.t 30)),
  o 6 (.mv (.t 31)), o 7 (.mv (.t 32)), o 33 (.mv (.t 7)), o 34 (.bn .neq 0 (.t 33) (.k (i 0))), .cond (.t 34) [o 35 (.mv (.t 6)), o 36 (.mv (.t 7)), o 37 (.call 7 13 [(.k (i 2)), (.t 35), (.t 36)]), e (.st 7 (.t 4) (.t 37)), .ret] [],
  o 39 (.ld (some 8) (.t 5)), o 40 (.mv (.t 8)), o 41 (.call 7 15 [(.t 39), (.t 40)]), o 38 (.mv (.t 41)), o 42 (.ext (.t 38) 0), o 43 (.ext (.t 38) 1), o 44 (.ext (.t 38) 2), o 45 (.ext (.t 38) 3), o 9 (.mv (.t 42)), o 10 (.mv (.t 43)),
  o 6 (.mv (.t 44)), o 7 (.mv (.t 45)), o 46 (.mv (.t 7)), o 47 (.bn .neq 0 (.t 46) (.k (i 0))), .cond (.t 47) [o 48 (.mv (.t 10)), o 49 (.mv (.t 6)), o 50 (.mv (.t 7)), o 51 (.call 7 13 [(.t 48), (.t 49), (.t 50)]), e (.st 7 (.t 4) (.t 51)),
  .ret] [], o 53 (.ld (some 8) (.t 5)), o 54 (.mv (.t 9)), o 55 (.call 7 16 [(.t 53), (.t 54)]), o 52 (.mv (.t 55)), o 56 (.ext (.t 52) 0), o 57 (.ext (.t 52) 1), o 58 (.ext (.t 52) 2), o 11 (.mv (.t 56)), o 12 (.mv (.t 57)), o 13 (.mv (.t 58)),
  o 59 (.mv (.t 13)), o 60 (.un .not (.t 59)), .cond (.t 60) [o 61 (.bld [(i 0), (i 0), (i 0), (i 0), (i 0), (i 0), nl] [(0, 1, (.k (i 1)))]), e (.st 7 (.t 4) (.t 61)), .ret] [], o 63 (.ld (some 8) (.t 5)), o 64 (.mv (.t 11)),
  o 65 (.mv (.t 12)), o 66 (.call 7 17 [(.t 63), (.t 64), (.t 65)]), o 62 (.mv (.t 66)), o 67 (.ext (.t 62) 0), o 68 (.ext (.t 62) 1), o 14 (.mv (.t 67)), o 15 (.mv (.t 68)), o 69 (.mv (.t 11)), o 70 (.mv (.t 12)), o 71 (.mv (.t 14)),
  o 72 (.bld [(i 0), (i 0), (i 0), (i 0), (i 0), (i 0), nl] [(0, 1, (.k (i 2))), (4, 1, (.t 69)), (5, 1, (.t 70)), (6, 1, (.t 71))]), e (.st 7 (.t 4) (.t 72)), .ret], 73, [.cell (some 7) 4]⟩
theorem c8 : chkF Tryz.prog 8 p8 = true := by decide +kernel
/- slices.EqualFunc[[]paling/api.Step,[]paling/api.Step,paling/api.Step,paling/api.Step] -/
def p9 : PFn := ⟨[o 6 (.mv (.k (.bool false))), o 10 (.mv (.t 0)), o 11 (.len false (.t 10)), o 12 (.mv (.t 1)), o 13 (.len false (.t 12)), o 14 (.bn .neq 0 (.t 11) (.t 13)), .cond (.t 14) [o 6 (.mv (.k (.bool false))), .ret] [],
  o 15 (.mv (.t 0)), o 16 (.len false (.t 15)), o 17 (.mv (.k (i 0))), .block 0 [.mark 0, .loop [.tidy 0 [1, 2, 6, 15, 16, 17], o 18 (.bn .lss 0 (.t 17) (.t 16)), .cond (.t 18) [] [.exit 0], .block 1 [o 19 (.mv (.t 17)),
  o 20 (.ia 6 (.t 15) (.t 17)), o 21 (.ld (some 6) (.t 20)), o 8 (.al 0 (.agg [(i 0), (i 0), (i 0), (i 0), nl, nl])), o 7 (.mv (.t 19)), .stf 6 8 (.t 21), o 22 (.mv (.t 1)), o 23 (.mv (.t 7)), o 24 (.ia 6 (.t 22) (.t 23)),
  o 25 (.ld (some 6) (.t 24)), o 9 (.al 0 (.agg [(i 0), (i 0), (i 0), (i 0), nl, nl])), .stf 6 9 (.t 25), o 26 (.mv (.t 2)), o 27 (.ld (some 6) (.t 8)), o 28 (.ld (some 6) (.t 9)), o 29 (.callv 4 (.t 26) [(.t 27), (.t 28)]),
  o 30 (.un .not (.t 29)), .cond (.t 30) [o 6 (.mv (.k (.bool false))), .ret] []], o 31 (.bn .add 0 (.t 17) (.k (i 1))), o 17 (.mv (.t 31))]], o 6 (.mv (.k (.bool true))), .ret], 32, [.tmp 6]⟩
theorem c9 : chkF Tryz.prog 9 p9 = true := by decide +kernel
/- paling/verdict.sameStep -/
def p10 : PFn := ⟨[o 2 (.bxd 0 (.t 0)), o 3 (.bxd 0 (.t 1)), o 4 (.mv (.k (.bool false))), o 5 (.fa 0 (.t 2)), o 6 (.ld none (.t 5)), o 7 (.fa 0 (.t 3)), o 8 (.ld none (.t 7)), o 9 (.bn .eql 0 (.t 6) (.t 8)), o 10 (.mv (.t 9)),
  g 11 10 true (.fa 1 (.t 2)), g 12 10 true (.ld none (.t 11)), g 13 10 true (.fa 1 (.t 3)), g 14 10 true (.ld none (.t 13)), g 15 10 true (.bn .eql 0 (.t 12) (.t 14)), o 16 (.pick (.t 10) (.t 15) (.k (.bool false))), o 17 (.mv (.t 16)),
  g 18 17 true (.fa 2 (.t 2)), g 19 17 true (.ld none (.t 18)), g 20 17 true (.fa 2 (.t 3)), g 21 17 true (.ld none (.t 20)), g 22 17 true (.bn .eql 0 (.t 19) (.t 21)), o 23 (.pick (.t 17) (.t 22) (.k (.bool false))), o 24 (.mv (.t 23)),
  g 25 24 true (.fa 3 (.t 2)), g 26 24 true (.ld none (.t 25)), g 27 24 true (.fa 3 (.t 3)), g 28 24 true (.ld none (.t 27)), g 29 24 true (.bn .eql 0 (.t 26) (.t 28)), o 30 (.pick (.t 24) (.t 29) (.k (.bool false))), o 31 (.mv (.t 30)),
  g 32 31 true (.fa 4 (.t 2)), g 33 31 true (.ld none (.t 32)), g 34 31 true (.b2s (.t 33)), g 35 31 true (.fa 4 (.t 3)), g 36 31 true (.ld none (.t 35)), g 37 31 true (.b2s (.t 36)), g 38 31 true (.bn .eql 0 (.t 34) (.t 37)),
  o 39 (.pick (.t 31) (.t 38) (.k (.bool false))), o 40 (.mv (.t 39)), g 41 40 true (.fa 5 (.t 2)), g 42 40 true (.ld none (.t 41)), g 43 40 true (.fa 5 (.t 3)), g 44 40 true (.ld none (.t 43)), g 45 40 true (.call 7 18 [(.t 42), (.t 44)]),
  o 46 (.pick (.t 40) (.t 45) (.k (.bool false))), o 4 (.mv (.t 46)), .ret], 47, [.tmp 4]⟩
theorem c10 : chkF Tryz.prog 10 p10 = true := by decide +kernel
/- paling/palingref34.Steps -/
def p11 : PFn := ⟨[o 4 (.mv (.k (.bool false))), o 9 (.mv (.t 0)), o 10 (.len false (.t 9)), o 11 (.mv (.t 1)), o 12 (.len false (.t 11)), o 13 (.bn .neq 0 (.t 10) (.t 12)), .cond (.t 13) [o 4 (.mv (.k (.bool false))), .ret] [],
  o 5 (.mv (.k (i 0))), .block 0 [.mark 0, .loop [.tidy 0 [0, 1, 4, 5], o 14 (.mv (.t 5)), o 15 (.mv (.t 0)), o 16 (.len false (.t 15)), o 17 (.bn .lss 0 (.t 14) (.t 16)), .cond (.t 17) [] [.exit 0], .block 1 [.draw 2 [0, 1, 2, 3, 4, 5, 6, 7, 8,
  9, 10, 11] [(26, 26)] [o 20 (.mv (.t 0)), o 21 (.mv (.t 5)), o 22 (.ia 6 (.t 20) (.t 21)), o 23 (.ld (some 6) (.t 22)), o 24 (.mv (.t 1)), o 25 (.mv (.t 5)), o 26 (.ia 6 (.t 24) (.t 25)), o 27 (.ld (some 6) (.t 26)), o 6 (.al 1 (.agg [(i 0),
  (i 0), (i 0), (i 0), nl, nl])), o 7 (.al 2 (.agg [(i 0), (i 0), (i 0), (i 0), nl, nl])), .stf 6 6 (.t 23), .stf 6 7 (.t 27)], o 28 (.fa 0 (.t 6)), o 29 (.ld none (.t 28)), o 30 (.fa 0 (.t 7)), o 31 (.ld none (.t 30)),
  o 32 (.bn .neq 0 (.t 29) (.t 31)), o 33 (.mv (.t 32)), g 34 33 false (.fa 1 (.t 6)), g 35 33 false (.ld none (.t 34)), g 36 33 false (.fa 1 (.t 7)), g 37 33 false (.ld none (.t 36)), g 38 33 false (.bn .neq 0 (.t 35) (.t 37)),
  o 39 (.pick (.t 33) (.k (.bool true)) (.t 38)), o 40 (.mv (.t 39)), g 41 40 false (.fa 2 (.t 6)), g 42 40 false (.ld none (.t 41)), g 43 40 false (.fa 2 (.t 7)), g 44 40 false (.ld none (.t 43)), g 45 40 false (.bn .neq 0 (.t 42) (.t 44)),
  o 46 (.pick (.t 40) (.k (.bool true)) (.t 45)), o 47 (.mv (.t 46)), g 48 47 false (.fa 3 (.t 6)), g 49 47 false (.ld none (.t 48)), g 50 47 false (.fa 3 (.t 7)), g 51 47 false (.ld none (.t 50)), g 52 47 false (.bn .neq 0 (.t 49) (.t 51)),
  o 53 (.pick (.t 47) (.k (.bool true)) (.t 52)), o 54 (.mv (.t 53)), g 55 54 false (.fa 4 (.t 6)), g 56 54 false (.ld none (.t 55)), g 57 54 false (.b2s (.t 56)), g 58 54 false (.fa 4 (.t 7)), g 59 54 false (.ld none (.t 58)),
  g 60 54 false (.b2s (.t 59)), g 61 54 false (.bn .neq 0 (.t 57) (.t 60)), o 62 (.pick (.t 54) (.k (.bool true)) (.t 61)), o 63 (.mv (.t 62)), g 64 63 false (.fa 5 (.t 6)), g 65 63 false (.ld none (.t 64)), g 66 63 false (.len false (.t 65)),
  g 67 63 false (.fa 5 (.t 7)), g 68 63 false (.ld none (.t 67)), g 69 63 false (.len false (.t 68)), g 70 63 false (.bn .neq 0 (.t 66) (.t 69)), o 71 (.pick (.t 63) (.k (.bool true)) (.t 70)), .cond (.t 71) [o 4 (.mv (.k (.bool false))),
  .ret] [], o 8 (.mv (.k (i 0))), .block 2 [.mark 1, .loop [.tidy 1 [0, 1, 4, 5, 6, 7, 8], o 72 (.mv (.t 8)), o 73 (.fa 5 (.t 6)), o 74 (.ld none (.t 73)), o 75 (.len false (.t 74)), o 76 (.bn .lss 0 (.t 72) (.t 75)), .cond (.t 76) [] [.exit 2],
  .block 3 [.draw 0 [0, 1, 2, 3, 4, 5, 6, 7, 8, 9, 10] [] [o 79 (.fa 5 (.t 6)), o 80 (.ld none (.t 79)), o 81 (.mv (.t 8)), o 82 (.ia 1 (.t 80) (.t 81)), o 83 (.ld none (.t 82)), o 84 (.fa 5 (.t 7)), o 85 (.ld none (.t 84)), o 86 (.mv (.t 8)),
  o 87 (.ia 1 (.t 85) (.t 86)), o 88 (.ld none (.t 87)), o 89 (.bn .neq 1 (.t 83) (.t 88))], .cond (.t 89) [o 4 (.mv (.k (.bool false))), .ret] []], o 77 (.mv (.t 8)), o 78 (.bn .add 0 (.t 77) (.k (i 1))), o 8 (.mv (.t 78))]]],
  o 18 (.mv (.t 5)), o 19 (.bn .add 0 (.t 18) (.k (i 1))), o 5 (.mv (.t 19))]], o 4 (.mv (.k (.bool true))), .ret], 90, [.tmp 4]⟩
theorem c11 : chkF Tryz.prog 11 p11 = true := by decide +kernel
/- paling/net.Text -/
def p12 : PFn := ⟨[o 2 (.al 0 (.agg [nl, nl, nl, nl, nl, nl, nl, nl])), o 3 (.mv (.k (i 0))), o 4 (.mv (.k (i 0))), o 7 (.mv (.t 0)), o 8 (.call 7 19 [(.t 7)]), o 6 (.mv (.t 8)), o 9 (.ext (.t 6) 0), o 10 (.ext (.t 6) 1),
  o 11 (.ext (.t 6) 2), o 5 (.mv (.t 9)), o 3 (.mv (.t 10)), o 4 (.mv (.t 11)), o 12 (.mv (.t 4)), o 13 (.bn .neq 0 (.t 12) (.k (i 0))), .cond (.t 13) [o 14 (.bld [nl, nl, nl, nl, nl, nl, nl, nl] []), o 15 (.mv (.t 3)), o 16 (.mv (.t 4)),
  e (.st 8 (.t 2) (.t 14)), o 3 (.mv (.t 15)), o 4 (.mv (.t 16)), .ret] [], o 17 (.mv (.t 5)), o 18 (.call 7 20 [(.t 17)]), o 19 (.ext (.t 18) 0), o 20 (.ext (.t 18) 1), o 21 (.ext (.t 18) 2), e (.st 8 (.t 2) (.t 19)), o 3 (.mv (.t 20)),
  o 4 (.mv (.t 21)), .ret], 22, [.cell (some 8) 2, .tmp 3, .tmp 4]⟩
theorem c12 : chkF Tryz.prog 12 p12 = true := by decide +kernel
/- paling/verdict.refused -/
def p13 : PFn := ⟨[o 6 (.al 0 (.agg [(i 0), (i 0), (i 0), (i 0), (i 0), (i 0), nl])), o 7 (.mv (.t 0)), o 8 (.mv (.t 1)), o 9 (.mv (.t 2)), o 10 (.bld [(i 0), (i 0), (i 0), (i 0), (i 0), (i 0), nl] [(0, 1, (.k (i 3))), (1, 1, (.t 7)), (2, 1,
  (.t 8)), (3, 1, (.t 9))]), .stf 7 6 (.t 10), .ret], 11, [.cell (some 7) 6]⟩
theorem c13 : chkF Tryz.prog 13 p13 = true := by decide +kernel
/- paling/policy.Read -/
def p14 : PFn := ⟨[o 2 (.mv (.k nl)), o 3 (.mv (.k (i 0))), o 4 (.mv (.k (i 0))), o 12 (.mv (.t 0)), o 13 (.call 7 21 [(.t 12)]), o 11 (.mv (.t 13)), o 14 (.ext (.t 11) 0), o 15 (.ext (.t 11) 1), o 5 (.mv (.t 14)), o 4 (.mv (.t 15)),
  o 16 (.mv (.t 4)), o 17 (.bn .neq 0 (.t 16) (.k (i 0))), .cond (.t 17) [o 18 (.mv (.t 4)), o 2 (.mv (.k nl)), o 3 (.mv (.k (i 0))), o 4 (.mv (.t 18)), .ret] [], o 19 (.mv (.t 5)), o 20 (.len false (.t 19)), o 21 (.mv (.k (i 0))),
  .block 0 [.loop [o 22 (.bn .lss 0 (.t 21) (.t 20)), .cond (.t 22) [] [.exit 0], .block 1 [o 23 (.mv (.t 21)), o 24 (.ia 1 (.t 19) (.t 21)), o 25 (.ld none (.t 24)), o 6 (.mv (.t 23)), o 7 (.mv (.t 25)), o 27 (.mv (.t 7)),
  o 28 (.call 7 22 [(.t 27)]), o 26 (.mv (.t 28)), o 29 (.ext (.t 26) 0), o 30 (.ext (.t 26) 1), o 8 (.mv (.t 29)), o 9 (.mv (.t 30)), o 31 (.mv (.t 9)), o 32 (.bn .eql 0 (.t 31) (.k (i 0))), o 33 (.mv (.t 32)), g 34 33 true (.mv (.t 8)),
  g 35 33 true (.len false (.t 34)), g 36 33 true (.bn .eql 0 (.t 35) (.k (i 0))), o 37 (.pick (.t 33) (.t 36) (.k (.bool false))), .cond (.t 37) [.exit 1] [], o 10 (.al 0 (.agg [(i 0), (.str []), nl, nl])), o 38 (.mv (.t 9)),
  o 39 (.bn .eql 0 (.t 38) (.k (i 0))), .cond (.t 39) [o 41 (.mv (.t 8)), o 42 (.mv (.t 6)), o 43 (.bn .add 0 (.t 42) (.k (i 1))), o 44 (.call 4 23 [(.t 41), (.t 43)]), o 40 (.mv (.t 44)), o 45 (.ext (.t 40) 0), o 46 (.ext (.t 40) 1),
  .stf 4 10 (.t 45), o 9 (.mv (.t 46))] [], o 47 (.mv (.t 9)), o 48 (.bn .eql 0 (.t 47) (.k (i 0))), o 49 (.mv (.t 48)), g 50 49 true (.mv (.t 2)), g 51 49 true (.len false (.t 50)), g 52 49 true (.bn .eql 0 (.t 51) (.k (i 10))),
  o 53 (.pick (.t 49) (.t 52) (.k (.bool false))), .cond (.t 53) [o 9 (.mv (.k (i 3)))] [], o 54 (.mv (.t 9)), o 55 (.bn .neq 0 (.t 54) (.k (i 0))), .cond (.t 55) [o 56 (.mv (.t 6)), o 57 (.bn .add 0 (.t 56) (.k (i 1))), o 58 (.mv (.t 9)),
  o 2 (.mv (.k nl)), o 3 (.mv (.t 57)), o 4 (.mv (.t 58)), .ret] [], o 59 (.mv (.t 2)), o 60 (.ld (some 4) (.t 10)), o 61 (.bsl (.agg [(i 0), (.str []), nl, nl]) 1 [(0, (.t 60))]), o 62 (.app 0 4 (.t 59) (.t 61)), o 2 (.mv (.t 62))],
  o 63 (.bn .add 0 (.t 21) (.k (i 1))), o 21 (.mv (.t 63))]], o 64 (.mv (.t 2)), o 2 (.mv (.t 64)), o 3 (.mv (.k (i 0))), o 4 (.mv (.k (i 0))), .ret], 65, [.tmp 2, .tmp 3, .tmp 4]⟩
theorem c14 : chkF Tryz.prog 14 p14 = true := by decide +kernel
/- paling/owners.Assign -/
def p15 : PFn := ⟨[o 2 (.bxd 0 (.t 0)), o 4 (.mv (.k nl)), o 5 (.mv (.k (i 0))), o 6 (.mv (.k (i 0))), o 7 (.mv (.k (i 0))), o 13 (.ld (some 8) (.t 2)), o 14 (.call 7 24 [(.t 13)]), o 15 (.un .not (.t 14)), .cond (.t 15) [o 4 (.mv (.k nl)),
  o 5 (.mv (.k (i 0))), o 6 (.mv (.k (i 0))), o 7 (.mv (.k (i 2))), .ret] [], o 16 (.bsl (i 0) 1 [(0, (.k (i (-1))))]), o 17 (.fa 1 (.t 2)), o 18 (.ld none (.t 17)), o 19 (.len false (.t 18)), o 20 (.call 8 25 [(.t 16), (.t 19)]),
  o 4 (.mv (.t 20)), o 21 (.mv (.t 1)), o 22 (.len false (.t 21)), o 23 (.mv (.k (i 0))), .block 0 [.loop [o 24 (.bn .lss 0 (.t 23) (.t 22)), .cond (.t 24) [] [.exit 0], .block 1 [o 25 (.mv (.t 23)), o 26 (.ia 4 (.t 21) (.t 23)),
  o 27 (.ld (some 4) (.t 26)), o 9 (.al 0 (.agg [(i 0), (.str []), nl, nl])), o 8 (.mv (.t 25)), .stf 4 9 (.t 27), o 28 (.mf 26 [] [(.t 9)]), o 10 (.mv (.t 28)), o 11 (.mv (.k (i 0))), .block 2 [o 35 (.ld (some 4) (.t 9)),
  o 36 (.call 7 27 [(.t 35)]), o 37 (.un .not (.t 36)), o 38 (.mv (.t 37)), g 39 38 false (.mv (.t 8)), g 40 38 false (.bn .geq 0 (.t 39) (.k (i 10))), o 41 (.pick (.t 38) (.k (.bool true)) (.t 40)), o 34 (.mv (.t 41)),
  .cond (.t 34) [o 11 (.mv (.k (i 2)))] [o 43 (.mv (.t 1)), o 44 (.mv (.t 8)), o 45 (.sl 4 (.t 43) none (some (.t 44)) none), o 46 (.mv (.t 10)), o 47 (.call 7 28 [(.t 45), (.t 46)]), o 42 (.mv (.t 47)),
  .cond (.t 42) [o 11 (.mv (.k (i 30)))] [o 29 (.ld (some 8) (.t 2)), o 30 (.mv (.t 4)), o 31 (.mv (.t 8)), o 32 (.ld (some 4) (.t 9)), o 33 (.call 4 29 [(.t 29), (.t 30), (.t 31), (.t 32)]), o 11 (.mv (.t 33))]]], o 48 (.mv (.t 11)),
  o 49 (.bn .neq 0 (.t 48) (.k (i 0))), .cond (.t 49) [.draw 0 [0, 1, 2, 3, 4, 5, 6] [] [o 50 (.fa 0 (.t 9)), o 51 (.ld none (.t 50)), o 52 (.mv (.t 11)), o 4 (.mv (.k nl)), o 5 (.mv (.k (i 2))), o 6 (.mv (.t 51)), o 7 (.mv (.t 52))], .ret] []],
  o 53 (.bn .add 0 (.t 23) (.k (i 1))), o 23 (.mv (.t 53))]], o 12 (.mv (.k (i 0))), .block 3 [.loop [o 54 (.mv (.t 12)), o 55 (.fa 1 (.t 2)), o 56 (.ld none (.t 55)), o 57 (.len false (.t 56)), o 58 (.bn .lss 0 (.t 54) (.t 57)),
  .cond (.t 58) [] [.exit 3], .block 4 [o 61 (.fa 1 (.t 2)), o 62 (.ld none (.t 61)), o 63 (.mv (.t 12)), o 64 (.ia 7 (.t 62) (.t 63)), o 65 (.fa 4 (.t 64)), o 66 (.ld none (.t 65)), o 67 (.bn .lss 0 (.t 66) (.k (i 0))), o 68 (.mv (.t 67)),
  g 69 68 true (.mv (.t 4)), g 70 68 true (.mv (.t 12)), g 71 68 true (.ia 1 (.t 69) (.t 70)), g 72 68 true (.ld none (.t 71)), g 73 68 true (.bn .eql 0 (.t 72) (.k (i (-1)))), o 74 (.pick (.t 68) (.t 73) (.k (.bool false))),
  .cond (.t 74) [.exit 3] []], o 59 (.mv (.t 12)), o 60 (.bn .add 0 (.t 59) (.k (i 1))), o 12 (.mv (.t 60))]], o 75 (.mv (.t 12)), o 76 (.fa 1 (.t 2)), o 77 (.ld none (.t 76)), o 78 (.len false (.t 77)), o 79 (.bn .lss 0 (.t 75) (.t 78)),
  .cond (.t 79) [.draw 0 [0, 1, 2, 3, 4, 5, 6, 7, 8, 9] [] [o 80 (.fa 1 (.t 2)), o 81 (.ld none (.t 80)), o 82 (.mv (.t 12)), o 83 (.ia 7 (.t 81) (.t 82)), o 84 (.fa 0 (.t 83)), o 85 (.ld none (.t 84)), o 4 (.mv (.k nl)), o 5 (.mv (.k (i 1))),
  o 6 (.mv (.t 85)), o 7 (.mv (.k (i 39)))], .ret] [], o 86 (.mv (.t 4)), o 4 (.mv (.t 86)), o 5 (.mv (.k (i 0))), o 6 (.mv (.k (i 0))), o 7 (.mv (.k (i 0))), .ret], 87, [.tmp 4, .tmp 5, .tmp 6, .tmp 7]⟩
theorem c15 : chkF Tryz.prog 15 p15 = true := by decide +kernel
/- paling/verdict.Leaks -/
def p16 : PFn := ⟨[o 2 (.bxd 0 (.t 0)), o 4 (.mv (.k (i 0))), o 5 (.mv (.k (i 0))), o 6 (.mv (.k (.bool false))), o 13 (.ld (some 8) (.t 2)), o 14 (.mv (.t 1)), o 15 (.call 7 30 [(.t 13), (.t 14)]), o 16 (.un .not (.t 15)),
  .cond (.t 16) [o 4 (.mv (.k (i 0))), o 5 (.mv (.k (i 0))), o 6 (.mv (.k (.bool false))), .ret] [], o 17 (.mv (.t 1)), o 18 (.len false (.t 17)), o 19 (.mv (.k (i 0))), .block 0 [.loop [o 20 (.bn .lss 0 (.t 19) (.t 18)),
  .cond (.t 20) [] [.exit 0], .block 1 [o 21 (.mv (.t 19)), o 22 (.ia 1 (.t 17) (.t 19)), o 23 (.ld none (.t 22)), o 7 (.mv (.t 21)), o 8 (.mv (.t 23)), o 24 (.mv (.t 1)), o 25 (.len false (.t 24)), o 26 (.mv (.k (i 0))),
  .block 2 [.loop [o 27 (.bn .lss 0 (.t 26) (.t 25)), .cond (.t 27) [] [.exit 2], .block 3 [o 28 (.mv (.t 26)), o 29 (.ia 1 (.t 24) (.t 26)), o 30 (.ld none (.t 29)), o 9 (.mv (.t 28)), o 10 (.mv (.t 30)), o 31 (.mv (.t 8)),
  o 32 (.bn .lss 0 (.t 31) (.k (i 0))), o 33 (.mv (.t 32)), g 34 33 false (.mv (.t 10)), g 35 33 false (.bn .lss 0 (.t 34) (.k (i 0))), o 36 (.pick (.t 33) (.k (.bool true)) (.t 35)), o 37 (.mv (.t 36)), g 38 37 false (.mv (.t 8)),
  g 39 37 false (.mv (.t 10)), g 40 37 false (.bn .eql 0 (.t 38) (.t 39)), o 41 (.pick (.t 37) (.k (.bool true)) (.t 40)), .cond (.t 41) [.exit 3] [], o 43 (.ld (some 8) (.t 2)), o 44 (.mv (.t 7)), o 45 (.mv (.t 9)), o 46 (.call 7 31 [(.t 43),
  (.t 44), (.t 45)]), o 42 (.mv (.t 46)), o 47 (.ext (.t 42) 0), o 48 (.ext (.t 42) 1), o 11 (.mv (.t 47)), o 12 (.mv (.t 48)), o 49 (.mv (.t 12)), .cond (.t 49) [o 50 (.mv (.t 7)), o 51 (.mv (.t 9)), o 4 (.mv (.t 50)), o 5 (.mv (.t 51)),
  o 6 (.mv (.k (.bool true))), .ret] []], o 52 (.bn .add 0 (.t 26) (.k (i 1))), o 26 (.mv (.t 52))]]], o 53 (.bn .add 0 (.t 19) (.k (i 1))), o 19 (.mv (.t 53))]], o 4 (.mv (.k (i 0))), o 5 (.mv (.k (i 0))), o 6 (.mv (.k (.bool false))), .ret],
  54, [.tmp 4, .tmp 5, .tmp 6]⟩
theorem c16 : chkF Tryz.prog 16 p16 = true := by decide +kernel
/- paling/witness.Script -/
def p17 : PFn := ⟨[o 3 (.bxd 0 (.t 0)), o 6 (.mv (.k nl)), o 7 (.mv (.k (i 0))), o 18 (.ld (some 8) (.t 3)), o 19 (.mv (.t 1)), o 20 (.call 7 32 [(.t 18), (.t 19)]), o 21 (.un .not (.t 20)), o 22 (.mv (.t 21)),
  g 23 22 false (.ld (some 8) (.t 3)), g 24 22 false (.mv (.t 2)), g 25 22 false (.call 7 32 [(.t 23), (.t 24)]), g 26 22 false (.un .not (.t 25)), o 27 (.pick (.t 22) (.k (.bool true)) (.t 26)), o 28 (.mv (.t 27)), g 29 28 false (.mv (.t 1)),
  g 30 28 false (.mv (.t 2)), g 31 28 false (.bn .eql 0 (.t 29) (.t 30)), o 32 (.pick (.t 28) (.k (.bool true)) (.t 31)), .cond (.t 32) [o 6 (.mv (.k nl)), o 7 (.mv (.k (i 2))), .ret] [], o 34 (.ld (some 8) (.t 3)), o 35 (.call 8 33 [(.t 34)]),
  o 33 (.mv (.t 35)), o 36 (.ext (.t 33) 0), o 37 (.ext (.t 33) 1), o 8 (.al 0 .nilp), .stf 1 8 (.t 36), o 9 (.mv (.t 37)), o 38 (.mv (.t 9)), o 39 (.bn .neq 0 (.t 38) (.k (i 0))), .cond (.t 39) [o 6 (.mv (.k nl)), o 7 (.mv (.k (i 2))),
  .ret] [], o 41 (.ld (some 8) (.t 3)), o 42 (.mv (.t 1)), o 43 (.mv (.t 2)), o 44 (.call 7 31 [(.t 41), (.t 42), (.t 43)]), o 40 (.mv (.t 44)), o 45 (.ext (.t 40) 0), o 46 (.ext (.t 40) 1), o 10 (.mv (.t 45)), o 11 (.mv (.t 46)),
  o 47 (.mv (.t 11)), o 48 (.un .not (.t 47)), .cond (.t 48) [o 6 (.mv (.k nl)), o 7 (.mv (.k (i 31))), .ret] [], o 12 (.al 0 nl), o 49 (.mf 34 [] [(.t 8), (.t 12)]), o 13 (.al 0 .nfun), .stf 1 13 (.t 49), o 50 (.mf 36 [] [(.t 13), (.t 8)]),
  o 14 (.mv (.t 50)), .draw 0 [0, 1, 2, 3, 4, 5] [] [o 51 (.ld none (.t 13)), o 52 (.ld (some 8) (.t 3)), o 53 (.mv (.t 1)), o 54 (.mv (.t 10)), o 55 (.call 0 38 [(.t 52), (.t 53), (.t 54)]), o 56 (.callv 4 (.t 51) [(.t 55)])],
  o 57 (.mv (.t 10)), o 58 (.sl 4 (.t 57) (some (.k (i 1))) none none), o 59 (.len false (.t 58)), o 60 (.mv (.k (i 0))), .block 0 [.loop [o 61 (.bn .lss 0 (.t 60) (.t 59)), .cond (.t 61) [] [.exit 0], .block 1 [o 62 (.mv (.t 60)),
  o 63 (.ia 4 (.t 58) (.t 60)), o 64 (.ld (some 4) (.t 63)), o 16 (.al 0 (.agg [(i 0), (i 0), (i 0), (.int .u32 0)])), o 15 (.mv (.t 62)), .stf 4 16 (.t 64), o 65 (.fa 0 (.t 16)), o 66 (.ld none (.t 65)), o 67 (.bn .eql 0 (.t 66) (.k (i 1))),
  .cond (.t 67) [o 68 (.fa 2 (.t 3)), o 69 (.ld none (.t 68)), o 70 (.len false (.t 69)), o 71 (.mk 0 (.bool false) (.t 70) (.t 70)), o 17 (.mv (.t 71)), o 72 (.mv (.t 17)), o 73 (.fa 1 (.t 3)), o 74 (.ld none (.t 73)), o 75 (.fa 1 (.t 16)),
  o 76 (.ld none (.t 75)), o 77 (.ia 7 (.t 74) (.t 76)), o 78 (.fa 4 (.t 77)), o 79 (.ld none (.t 78)), o 80 (.ia 1 (.t 72) (.t 79)), e (.st 1 (.t 80) (.k (.bool true))), o 81 (.ld none (.t 13)), o 82 (.mv (.t 17)), o 83 (.bld [(i 0), (i 0),
  (i 0), (i 0), nl, nl] [(0, 1, (.k (i 5))), (5, 1, (.t 82))]), o 84 (.callv 4 (.t 81) [(.t 83)])] [], o 85 (.mv (.t 14)), o 86 (.mv (.t 10)), o 87 (.mv (.t 15)), o 88 (.ia 4 (.t 86) (.t 87)), o 89 (.fa 2 (.t 88)), o 90 (.ld none (.t 89)),
  o 91 (.callv 4 (.t 85) [(.t 90)])], o 92 (.bn .add 0 (.t 60) (.k (i 1))), o 60 (.mv (.t 92))]], o 93 (.mv (.t 14)), o 94 (.mv (.t 10)), o 95 (.mv (.t 10)), o 96 (.len false (.t 95)), o 97 (.bn .sub 0 (.t 96) (.k (i 1))),
  o 98 (.ia 4 (.t 94) (.t 97)), o 99 (.fa 2 (.t 98)), o 100 (.ld none (.t 99)), o 101 (.callv 4 (.t 93) [(.t 100)]), o 102 (.ld none (.t 12)), o 6 (.mv (.t 102)), o 7 (.mv (.k (i 0))), .ret], 103, [.tmp 6, .tmp 7]⟩
theorem c17 : chkF Tryz.prog 17 p17 = true := by decide +kernel
/- slices.Equal[[]bool,bool] -/
def p18 : PFn := ⟨[o 4 (.mv (.k (.bool false))), o 6 (.mv (.t 0)), o 7 (.len false (.t 6)), o 8 (.mv (.t 1)), o 9 (.len false (.t 8)), o 10 (.bn .neq 0 (.t 7) (.t 9)), .cond (.t 10) [o 4 (.mv (.k (.bool false))), .ret] [], o 11 (.mv (.t 0)),
  o 12 (.len false (.t 11)), o 13 (.mv (.k (i 0))), .block 0 [.mark 0, .loop [.tidy 0 [0, 1, 4, 12, 13], o 14 (.bn .lss 0 (.t 13) (.t 12)), .cond (.t 14) [] [.exit 0], .block 1 [o 15 (.mv (.t 13)), o 5 (.mv (.t 15)), .draw 0 [0, 1, 2, 3, 4, 5,
  6, 7, 8] [] [o 16 (.mv (.t 0)), o 17 (.mv (.t 5)), o 18 (.ia 1 (.t 16) (.t 17)), o 19 (.ld none (.t 18)), o 20 (.mv (.t 1)), o 21 (.mv (.t 5)), o 22 (.ia 1 (.t 20) (.t 21)), o 23 (.ld none (.t 22)), o 24 (.bn .neq 1 (.t 19) (.t 23))],
  .cond (.t 24) [o 4 (.mv (.k (.bool false))), .ret] []], o 25 (.bn .add 0 (.t 13) (.k (i 1))), o 13 (.mv (.t 25))]], o 4 (.mv (.k (.bool true))), .ret], 26, [.tmp 4]⟩
theorem c18 : chkF Tryz.prog 18 p18 = true := by decide +kernel
/- paling/text.Read -/
def p19 : PFn := ⟨[o 2 (.al 0 nl), o 3 (.mv (.k (i 0))), o 4 (.al 0 (i 0)), o 11 (.mf 39 [] [(.t 4), (.t 2)]), .dfr (.t 11) [], o 13 (.mv (.t 0)), o 14 (.call 7 21 [(.t 13)]), o 12 (.mv (.t 14)), o 15 (.ext (.t 12) 0), o 16 (.ext (.t 12) 1),
  o 5 (.mv (.t 15)), e (.st 1 (.t 4) (.t 16)), o 17 (.ld none (.t 4)), o 18 (.bn .neq 0 (.t 17) (.k (i 0))), .cond (.t 18) [.draw 0 [0, 1, 2, 3] [(2, 4)] [o 19 (.ld none (.t 4)), e (.st 1 (.t 2) (.k nl)), o 3 (.mv (.k (i 0))),
  e (.st 1 (.t 4) (.t 19))], .ret] [], o 20 (.mv (.t 5)), o 21 (.len false (.t 20)), o 22 (.mv (.k (i 0))), .block 0 [.loop [o 23 (.bn .lss 0 (.t 22) (.t 21)), .cond (.t 23) [] [.exit 0], .block 1 [o 24 (.mv (.t 22)),
  o 25 (.ia 1 (.t 20) (.t 22)), o 26 (.ld none (.t 25)), o 6 (.mv (.t 24)), o 7 (.mv (.t 26)), o 28 (.mv (.t 7)), o 29 (.call 7 22 [(.t 28)]), o 27 (.mv (.t 29)), o 30 (.ext (.t 27) 0), o 31 (.ext (.t 27) 1), o 8 (.mv (.t 30)),
  o 9 (.mv (.t 31)), o 32 (.mv (.t 9)), o 33 (.bn .neq 0 (.t 32) (.k (i 0))), .cond (.t 33) [o 34 (.mv (.t 6)), o 35 (.bn .add 0 (.t 34) (.k (i 1))), o 36 (.mv (.t 9)), e (.st 1 (.t 2) (.k nl)), o 3 (.mv (.t 35)), e (.st 1 (.t 4) (.t 36)),
  .ret] [], o 37 (.mv (.t 8)), o 38 (.len false (.t 37)), o 39 (.bn .eql 0 (.t 38) (.k (i 0))), .cond (.t 39) [.exit 1] [], o 41 (.mv (.t 8)), o 42 (.mv (.t 6)), o 43 (.bn .add 0 (.t 42) (.k (i 1))), o 44 (.call 7 40 [(.t 41), (.t 43)]),
  o 40 (.mv (.t 44)), o 45 (.ext (.t 40) 0), o 46 (.ext (.t 40) 1), o 10 (.al 0 (.agg [(i 0), (i 0), (.str []), (.str []), (.str []), (.str []), (.str []), (.int .u64 0), (.int .u32 0), (i 0), (i 0), (i 0), (i 0), nl, nl, nl, nl])),
  .stf 17 10 (.t 45), o 9 (.mv (.t 46)), o 47 (.mv (.t 9)), o 48 (.bn .neq 0 (.t 47) (.k (i 0))), .cond (.t 48) [o 49 (.ld none (.t 2)), o 50 (.mv (.t 6)), o 51 (.bn .add 0 (.t 50) (.k (i 1))), o 52 (.mv (.t 9)), e (.st 1 (.t 2) (.t 49)),
  o 3 (.mv (.t 51)), e (.st 1 (.t 4) (.t 52)), .ret] [], o 53 (.ld none (.t 2)), o 54 (.ld (some 17) (.t 10)), o 55 (.bsl (.agg [(i 0), (i 0), (.str []), (.str []), (.str []), (.str []), (.str []), (.int .u64 0), (.int .u32 0), (i 0), (i 0),
  (i 0), (i 0), nl, nl, nl, nl]) 1 [(0, (.t 54))]), o 56 (.app 0 17 (.t 53) (.t 55)), e (.st 1 (.t 2) (.t 56))], o 57 (.bn .add 0 (.t 22) (.k (i 1))), o 22 (.mv (.t 57))]], o 58 (.ld none (.t 2)), e (.st 1 (.t 2) (.t 58)), o 3 (.mv (.k (i 0))),
  e (.st 1 (.t 4) (.k (i 0))), .ret], 59, [.cell none 2, .tmp 3, .cell none 4]⟩
theorem c19 : chkF Tryz.prog 19 p19 = true := by decide +kernel
/- paling/net.Build -/
def p20 : PFn := ⟨[o 2 (.al 0 (.agg [nl, nl, nl, nl, nl, nl, nl, nl])), o 3 (.mv (.k (i 0))), o 4 (.mv (.k (i 0))), o 6 (.mv (.t 0)), o 7 (.bld [(.int .u32 0), (.int .i32 0), (.int .u32 0), nl, nl, nl, nl, nl, nl, nl, nl, nl, (i 0),
  (i 0)] [(3, 1, (.t 6))]), o 8 (.bxm 0 (.t 7)), o 5 (.mv (.t 8)), o 9 (.mv (.t 5)), o 10 (.call 4 41 [(.t 9)]), o 11 (.ext (.t 10) 0), o 12 (.ext (.t 10) 1), o 13 (.ext (.t 10) 2), .stf 8 2 (.t 11), o 3 (.mv (.t 12)), o 4 (.mv (.t 13)), .ret],
  14, [.cell (some 8) 2, .tmp 3, .tmp 4]⟩
theorem c20 : chkF Tryz.prog 20 p20 = true := by decide +kernel
/- paling/line.Rows -/
def p21 : PFn := ⟨[o 2 (.mv (.k nl)), o 3 (.mv (.k (i 0))), o 7 (.mv (.t 0)), o 8 (.len false (.t 7)), o 9 (.bn .gtr 0 (.t 8) (.k (i 20000))), .cond (.t 9) [o 2 (.mv (.k nl)), o 3 (.mv (.k (i 3))), .ret] [], o 4 (.mv (.k nl)),
  o 10 (.mv (.t 0)), o 11 (.b2s (.t 10)), o 5 (.mv (.t 11)), .block 0 [.loop [o 12 (.mv (.t 5)), o 13 (.bn .neq 0 (.t 12) (.k (.str []))), .cond (.t 13) [] [.exit 0], .block 1 [o 6 (.mv (.k (.str []))), o 15 (.mv (.t 5)),
  o 16 (.call 7 42 [(.t 15), (.k (.str [10]))]), o 14 (.mv (.t 16)), o 17 (.ext (.t 14) 0), o 18 (.ext (.t 14) 1), o 19 (.ext (.t 14) 2), o 6 (.mv (.t 17)), o 5 (.mv (.t 18)), o 20 (.mv (.t 4)), o 21 (.mv (.t 6)), o 22 (.bsl (.str []) 1 [(0,
  (.t 21))]), o 23 (.app 0 1 (.t 20) (.t 22)), o 4 (.mv (.t 23))]]], o 24 (.mv (.t 4)), o 25 (.len false (.t 24)), o 26 (.bn .gtr 0 (.t 25) (.k (i 400))), .cond (.t 26) [o 2 (.mv (.k nl)), o 3 (.mv (.k (i 3))), .ret] [], o 27 (.mv (.t 4)),
  o 2 (.mv (.t 27)), o 3 (.mv (.k (i 0))), .ret], 28, [.tmp 2, .tmp 3]⟩
theorem c21 : chkF Tryz.prog 21 p21 = true := by decide +kernel
/- paling/line.Words -/
def p22 : PFn := ⟨[o 2 (.mv (.k nl)), o 3 (.mv (.k (i 0))), o 7 (.mv (.t 0)), o 8 (.call 7 43 [(.t 7)]), o 4 (.mv (.t 8)), o 9 (.mv (.t 4)), o 10 (.len false (.t 9)), o 11 (.mv (.k (i 0))), .block 0 [.loop [o 12 (.bn .lss 0 (.t 11) (.t 10)),
  .cond (.t 12) [] [.exit 0], .block 1 [o 13 (.ia 1 (.t 9) (.t 11)), o 14 (.ld none (.t 13)), o 6 (.mv (.t 14)), o 15 (.mv (.t 6)), o 16 (.call 7 44 [(.t 15)]), o 17 (.un .not (.t 16)), .cond (.t 17) [o 2 (.mv (.k nl)), o 3 (.mv (.k (i 20))),
  .ret] []], o 18 (.bn .add 0 (.t 11) (.k (i 1))), o 11 (.mv (.t 18))]], o 19 (.mv (.t 4)), o 2 (.mv (.t 19)), o 3 (.mv (.k (i 0))), .ret], 20, [.tmp 2, .tmp 3]⟩
theorem c22 : chkF Tryz.prog 22 p22 = true := by decide +kernel
/- paling/policy.tenant -/
def p23 : PFn := ⟨[o 4 (.al 0 (.agg [(i 0), (.str []), nl, nl])), o 5 (.mv (.k (i 0))), o 11 (.mv (.t 0)), o 12 (.ia 1 (.t 11) (.k (i 0))), o 13 (.ld none (.t 12)), o 14 (.bn .neq 0 (.t 13) (.k (.str [116, 101, 110, 97, 110, 116]))),
  o 15 (.mv (.t 14)), g 16 15 false (.mv (.t 0)), g 17 15 false (.len false (.t 16)), g 18 15 false (.bn .leq 0 (.t 17) (.k (i 2))), o 19 (.pick (.t 15) (.k (.bool true)) (.t 18)), o 20 (.mv (.t 19)), g 21 20 false (.mv (.t 0)),
  g 22 20 false (.len false (.t 21)), g 23 20 false (.bn .gtr 0 (.t 22) (.k (i 18))), o 24 (.pick (.t 20) (.k (.bool true)) (.t 23)), .cond (.t 24) [o 25 (.bld [(i 0), (.str []), nl, nl] []), e (.st 4 (.t 4) (.t 25)), o 5 (.mv (.k (i 22))),
  .ret] [], o 26 (.mv (.t 1)), o 27 (.mv (.t 0)), o 28 (.ia 1 (.t 27) (.k (i 1))), o 29 (.ld none (.t 28)), o 30 (.bld [(i 0), (.str []), nl, nl] [(0, 1, (.t 26)), (1, 1, (.t 29))]), o 6 (.al 0 (.agg [(i 0), (.str []), nl, nl])),
  e (.st 4 (.t 6) (.t 30)), o 31 (.fa 1 (.t 6)), o 32 (.ld none (.t 31)), o 33 (.call 7 45 [(.t 32)]), o 34 (.un .not (.t 33)), .cond (.t 34) [o 35 (.bld [(i 0), (.str []), nl, nl] []), e (.st 4 (.t 4) (.t 35)), o 5 (.mv (.k (i 20))), .ret] [],
  o 36 (.mv (.t 0)), o 37 (.sl 1 (.t 36) (some (.k (i 2))) none none), o 38 (.len false (.t 37)), o 39 (.mv (.k (i 0))), .block 0 [.loop [o 40 (.bn .lss 0 (.t 39) (.t 38)), .cond (.t 40) [] [.exit 0], .block 1 [o 41 (.ia 1 (.t 37) (.t 39)),
  o 42 (.ld none (.t 41)), o 8 (.mv (.t 42)), o 44 (.mv (.t 8)), o 45 (.call 7 46 [(.t 44)]), o 43 (.mv (.t 45)), o 46 (.ext (.t 43) 0), o 47 (.ext (.t 43) 1), o 9 (.al 0 (.agg [(.str []), (.str [])])), .stf 2 9 (.t 46), o 10 (.mv (.t 47)),
  o 48 (.mv (.t 10)), o 49 (.un .not (.t 48)), .cond (.t 49) [o 50 (.bld [(i 0), (.str []), nl, nl] []), e (.st 4 (.t 4) (.t 50)), o 5 (.mv (.k (i 20))), .ret] [], .draw 2 [0, 1, 2, 3, 4, 6, 7, 8, 9, 10, 5, 12, 11, 13, 14, 15] [(52, 57), (52,
  59)] [o 51 (.fa 2 (.t 6)), o 52 (.ld none (.t 51)), o 53 (.iaa 2 1 (.t 9) (.k (i 0))), o 54 (.ld none (.t 53)), o 55 (.bsl (.str []) 1 [(0, (.t 54))]), o 57 (.fa 3 (.t 6)), o 58 (.ld none (.t 57)), o 59 (.iaa 2 1 (.t 9) (.k (i 1))),
  o 60 (.ld none (.t 59)), o 61 (.bsl (.str []) 1 [(0, (.t 60))]), o 56 (.app 1 1 (.t 52) (.t 55)), o 63 (.fa 2 (.t 6)), o 62 (.app 2 1 (.t 58) (.t 61)), e (.st 1 (.t 63) (.t 56)), o 64 (.fa 3 (.t 6)), e (.st 1 (.t 64) (.t 62))]],
  o 65 (.bn .add 0 (.t 39) (.k (i 1))), o 39 (.mv (.t 65))]], o 66 (.ld (some 4) (.t 6)), e (.st 4 (.t 4) (.t 66)), o 5 (.mv (.k (i 0))), .ret], 67, [.cell (some 4) 4, .tmp 5]⟩
theorem c23 : chkF Tryz.prog 23 p23 = true := by decide +kernel
/- paling/names.Right -/
def p24 : PFn := ⟨[o 1 (.bxd 0 (.t 0)), o 2 (.mv (.k (.bool false))), o 4 (.ld (some 8) (.t 1)), o 5 (.bld [nl, nl, nl, nl, nl, nl, nl, nl] [(0, 8, (.t 4))]), o 3 (.al 0 (.agg [nl, nl, nl, nl, nl, nl, nl, nl])), .stf 8 3 (.t 5),
  o 6 (.ld (some 8) (.t 3)), o 7 (.call 7 47 [(.t 6)]), o 8 (.mv (.t 7)), g 9 8 true (.fa 3 (.t 1)), g 10 8 true (.ld none (.t 9)), g 11 8 true (.ld (some 8) (.t 3)), g 12 8 true (.mf 49 [(.t 11)] []), g 13 8 true (.call 7 48 [(.t 10),
  (.t 12)]), o 14 (.pick (.t 8) (.t 13) (.k (.bool false))), o 15 (.mv (.t 14)), g 16 15 true (.fa 3 (.t 1)), g 17 15 true (.ld none (.t 16)), g 18 15 true (.ld (some 8) (.t 3)), g 19 15 true (.mf 50 [(.t 18)] []),
  g 20 15 true (.call 7 48 [(.t 17), (.t 19)]), o 21 (.pick (.t 15) (.t 20) (.k (.bool false))), o 22 (.mv (.t 21)), g 23 22 true (.fa 1 (.t 1)), g 24 22 true (.ld none (.t 23)), g 25 22 true (.ld (some 8) (.t 3)),
  g 26 22 true (.mf 52 [(.t 25)] []), g 27 22 true (.call 7 51 [(.t 24), (.t 26)]), o 28 (.pick (.t 22) (.t 27) (.k (.bool false))), o 29 (.mv (.t 28)), g 30 29 true (.fa 2 (.t 1)), g 31 29 true (.ld none (.t 30)),
  g 32 29 true (.ld (some 8) (.t 3)), g 33 29 true (.mf 54 [(.t 32)] []), g 34 29 true (.call 7 53 [(.t 31), (.t 33)]), o 35 (.pick (.t 29) (.t 34) (.k (.bool false))), o 36 (.mv (.t 35)), g 37 36 true (.fa 4 (.t 1)),
  g 38 36 true (.ld none (.t 37)), g 39 36 true (.ld (some 8) (.t 3)), g 40 36 true (.mf 56 [(.t 39)] []), g 41 36 true (.call 7 55 [(.t 38), (.t 40)]), o 42 (.pick (.t 36) (.t 41) (.k (.bool false))), o 43 (.mv (.t 42)),
  g 44 43 true (.fa 5 (.t 1)), g 45 43 true (.ld none (.t 44)), g 46 43 true (.mf 58 [] [(.t 1)]), g 47 43 true (.call 7 57 [(.t 45), (.t 46)]), o 48 (.pick (.t 43) (.t 47) (.k (.bool false))), o 49 (.mv (.t 48)), g 50 49 true (.fa 6 (.t 1)),
  g 51 49 true (.ld none (.t 50)), g 52 49 true (.mf 61 [] [(.t 1)]), g 53 49 true (.call 7 60 [(.t 51), (.t 52)]), o 54 (.pick (.t 49) (.t 53) (.k (.bool false))), o 55 (.mv (.t 54)), g 56 55 true (.fa 7 (.t 1)),
  g 57 55 true (.ld none (.t 56)), g 58 55 true (.ld (some 8) (.t 3)), g 59 55 true (.mf 64 [(.t 58)] []), g 60 55 true (.call 7 63 [(.t 57), (.t 59)]), o 61 (.pick (.t 55) (.t 60) (.k (.bool false))), o 2 (.mv (.t 61)), .ret], 62, [.tmp 2]⟩
theorem c24 : chkF Tryz.prog 24 p24 = true := by decide +kernel
/- slices.Repeat[[]int,int] -/
def p25 : PFn := ⟨[o 4 (.mv (.k nl)), o 9 (.mv (.t 1)), o 10 (.bn .lss 0 (.t 9) (.k (i 0))), .cond (.t 10) [o 11 (.mi 9 (.k (.str [99, 97, 110, 110, 111, 116, 32, 98, 101, 32, 110, 101, 103, 97, 116, 105, 118, 101]))), e (.bad)] [],
  o 13 (.mv (.t 0)), o 14 (.len false (.t 13)), o 15 (.cv .u64 (.t 14)), o 16 (.mv (.t 1)), o 17 (.cv .u64 (.t 16)), o 18 (.call 7 65 [(.t 15), (.t 17)]), o 12 (.mv (.t 18)), o 19 (.ext (.t 12) 0), o 20 (.ext (.t 12) 1), o 5 (.mv (.t 19)),
  o 6 (.mv (.t 20)), o 21 (.mv (.t 5)), o 22 (.bn .gtr 0 (.t 21) (.k (.int .u64 0))), o 23 (.mv (.t 22)), g 24 23 false (.mv (.t 6)), g 25 23 false (.bn .gtr 0 (.t 24) (.k (.int .u64 9223372036854775807))),
  o 26 (.pick (.t 23) (.k (.bool true)) (.t 25)), .cond (.t 26) [o 27 (.mi 9 (.k (.str [116, 104, 101, 32, 114, 101, 115, 117, 108, 116, 32, 111, 102, 32, 40, 108, 101, 110, 40, 120, 41, 32, 42, 32, 99, 111, 117, 110, 116, 41, 32, 111, 118, 101,
  114, 102, 108, 111, 119, 115]))), e (.bad)] [], o 28 (.mv (.t 6)), o 29 (.cv .i64 (.t 28)), o 30 (.mk 0 (i 0) (.t 29) (.t 29)), o 7 (.mv (.t 30)), o 31 (.mv (.t 7)), o 32 (.mv (.t 0)), o 33 (.cpy 1 (.t 31) (.t 32)), o 8 (.mv (.t 33)),
  .block 0 [.loop [o 34 (.mv (.t 8)), o 35 (.mv (.t 7)), o 36 (.len false (.t 35)), o 37 (.bn .lss 0 (.t 34) (.t 36)), .cond (.t 37) [] [.exit 0], .block 1 [.draw 0 [0, 1, 2, 3, 4, 5, 6, 7, 8, 9] [] [o 38 (.mv (.t 8)), o 39 (.mv (.t 7)),
  o 40 (.mv (.t 8)), o 41 (.sl 1 (.t 39) (some (.t 40)) none none), o 42 (.mv (.t 7)), o 43 (.mv (.t 8)), o 44 (.sl 1 (.t 42) none (some (.t 43)) none), o 45 (.cpy 1 (.t 41) (.t 44)), o 46 (.bn .add 0 (.t 38) (.t 45)), o 8 (.mv (.t 46))]]]],
  o 47 (.mv (.t 7)), o 4 (.mv (.t 47)), .ret], 48, [.tmp 4]⟩
theorem c25 : chkF Tryz.prog 25 p25 = true := by decide +kernel
/- paling/owners.Assign$1 -/
def p26 : PFn := ⟨[o 2 (.bxd 0 (.t 0)), o 3 (.mv (.k (.bool false))), o 4 (.fa 1 (.t 2)), o 5 (.ld none (.t 4)), o 6 (.fa 1 (.t 1)), o 7 (.ld none (.t 6)), o 8 (.bn .eql 0 (.t 5) (.t 7)), o 3 (.mv (.t 8)), .ret], 9, [.tmp 3]⟩
theorem c26 : chkF Tryz.prog 26 p26 = true := by decide +kernel
/- paling/policy.Right -/
def p27 : PFn := ⟨[o 1 (.bxd 0 (.t 0)), o 2 (.mv (.k (.bool false))), o 3 (.mv (.f 66)), o 4 (.fa 1 (.t 1)), o 5 (.ld none (.t 4)), o 6 (.call 7 45 [(.t 5)]), o 7 (.mv (.t 6)), g 8 7 true (.fa 2 (.t 1)), g 9 7 true (.ld none (.t 8)),
  g 10 7 true (.len false (.t 9)), g 11 7 true (.fa 3 (.t 1)), g 12 7 true (.ld none (.t 11)), g 13 7 true (.len false (.t 12)), g 14 7 true (.bn .eql 0 (.t 10) (.t 13)), o 15 (.pick (.t 7) (.t 14) (.k (.bool false))), o 16 (.mv (.t 15)),
  g 17 16 true (.fa 2 (.t 1)), g 18 16 true (.ld none (.t 17)), g 19 16 true (.len false (.t 18)), g 20 16 true (.bn .gtr 0 (.t 19) (.k (i 0))), o 21 (.pick (.t 16) (.t 20) (.k (.bool false))), o 22 (.mv (.t 21)), g 23 22 true (.fa 2 (.t 1)),
  g 24 22 true (.ld none (.t 23)), g 25 22 true (.len false (.t 24)), g 26 22 true (.bn .leq 0 (.t 25) (.k (i 16))), o 27 (.pick (.t 22) (.t 26) (.k (.bool false))), o 28 (.mv (.t 27)), g 29 28 true (.fa 2 (.t 1)),
  g 30 28 true (.ld none (.t 29)), g 31 28 true (.mv (.t 3)), g 32 28 true (.call 7 67 [(.t 30), (.t 31)]), g 33 28 true (.un .not (.t 32)), o 34 (.pick (.t 28) (.t 33) (.k (.bool false))), o 35 (.mv (.t 34)), g 36 35 true (.fa 3 (.t 1)),
  g 37 35 true (.ld none (.t 36)), g 38 35 true (.mv (.t 3)), g 39 35 true (.call 7 67 [(.t 37), (.t 38)]), g 40 35 true (.un .not (.t 39)), o 41 (.pick (.t 35) (.t 40) (.k (.bool false))), o 2 (.mv (.t 41)), .ret], 42, [.tmp 2]⟩
theorem c27 : chkF Tryz.prog 27 p27 = true := by decide +kernel
/- slices.ContainsFunc[[]paling/api.Tenant,paling/api.Tenant] -/
def p28 : PFn := ⟨[o 4 (.mv (.k (.bool false))), o 5 (.mv (.t 0)), o 6 (.mv (.t 1)), o 7 (.call 7 68 [(.t 5), (.t 6)]), o 8 (.bn .geq 0 (.t 7) (.k (i 0))), o 4 (.mv (.t 8)), .ret], 9, [.tmp 4]⟩
theorem c28 : chkF Tryz.prog 28 p28 = true := by decide +kernel
/- paling/owners.claim -/
def p29 : PFn := ⟨[o 4 (.bxd 0 (.t 0)), o 7 (.bxd 0 (.t 3)), o 8 (.mv (.k (i 0))), o 12 (.fa 2 (.t 7)), o 13 (.ld none (.t 12)), o 14 (.len false (.t 13)), o 15 (.mv (.k (i 0))), .block 0 [.loop [o 16 (.bn .lss 0 (.t 15) (.t 14)),
  .cond (.t 16) [] [.exit 0], .block 1 [o 17 (.mv (.t 15)), o 18 (.ia 1 (.t 13) (.t 15)), o 19 (.ld none (.t 18)), o 9 (.mv (.t 17)), o 10 (.mv (.t 19)), .draw 0 [0, 1, 2, 3, 4, 5, 6, 7, 8, 9, 10] [] [o 20 (.ld (some 8) (.t 4)),
  o 21 (.ld (some 8) (.t 4)), o 22 (.mv (.t 10)), o 23 (.call 0 70 [(.t 21), (.t 22)]), o 24 (.fa 3 (.t 7)), o 25 (.ld none (.t 24)), o 26 (.mv (.t 9)), o 27 (.ia 1 (.t 25) (.t 26)), o 28 (.ld none (.t 27)), o 29 (.call 7 69 [(.t 20), (.t 23),
  (.t 28)]), o 11 (.mv (.t 29))], .block 2 [o 31 (.mv (.t 11)), o 32 (.bn .lss 0 (.t 31) (.k (i 0))), o 30 (.mv (.t 32)), .cond (.t 30) [o 8 (.mv (.k (i 31))), .ret] [o 34 (.fa 1 (.t 4)), o 35 (.ld none (.t 34)), o 36 (.mv (.t 11)),
  o 37 (.ia 7 (.t 35) (.t 36)), o 38 (.fa 4 (.t 37)), o 39 (.ld none (.t 38)), o 40 (.bn .geq 0 (.t 39) (.k (i 0))), o 41 (.mv (.t 40)), g 42 41 false (.mv (.t 1)), g 43 41 false (.mv (.t 11)), g 44 41 false (.ia 1 (.t 42) (.t 43)),
  g 45 41 false (.ld none (.t 44)), g 46 41 false (.bn .neq 0 (.t 45) (.k (i (-1)))), o 47 (.pick (.t 41) (.k (.bool true)) (.t 46)), o 33 (.mv (.t 47)), .cond (.t 33) [o 8 (.mv (.k (i 39))), .ret] []]], o 48 (.mv (.t 1)), o 49 (.mv (.t 11)),
  o 50 (.mv (.t 2)), o 51 (.ia 1 (.t 48) (.t 49)), e (.st 1 (.t 51) (.t 50))], o 52 (.bn .add 0 (.t 15) (.k (i 1))), o 15 (.mv (.t 52))]], o 8 (.mv (.k (i 0))), .ret], 53, [.tmp 8]⟩
theorem c29 : chkF Tryz.prog 29 p29 = true := by decide +kernel
/- paling/owners.Right -/
def p30 : PFn := ⟨[o 2 (.bxd 0 (.t 0)), o 4 (.mv (.k (.bool false))), o 8 (.mv (.t 1)), o 9 (.len false (.t 8)), o 10 (.fa 1 (.t 2)), o 11 (.ld none (.t 10)), o 12 (.len false (.t 11)), o 13 (.bn .neq 0 (.t 9) (.t 12)), o 14 (.mv (.t 13)),
  g 15 14 false (.ld (some 8) (.t 2)), g 16 14 false (.call 7 24 [(.t 15)]), g 17 14 false (.un .not (.t 16)), o 18 (.pick (.t 14) (.k (.bool true)) (.t 17)), .cond (.t 18) [o 4 (.mv (.k (.bool false))), .ret] [], o 19 (.mv (.t 1)),
  o 20 (.len false (.t 19)), o 21 (.mv (.k (i 0))), .block 0 [.loop [o 22 (.bn .lss 0 (.t 21) (.t 20)), .cond (.t 22) [] [.exit 0], .block 1 [o 23 (.mv (.t 21)), o 24 (.ia 1 (.t 19) (.t 21)), o 25 (.ld none (.t 24)), o 5 (.mv (.t 23)),
  o 6 (.mv (.t 25)), o 26 (.fa 1 (.t 2)), o 27 (.ld none (.t 26)), o 28 (.mv (.t 5)), o 29 (.ia 7 (.t 27) (.t 28)), o 30 (.fa 4 (.t 29)), o 31 (.ld none (.t 30)), o 32 (.bn .geq 0 (.t 31) (.k (i 0))), o 7 (.mv (.t 32)), o 33 (.mv (.t 7)),
  o 34 (.mv (.t 33)), g 35 34 true (.mv (.t 6)), g 36 34 true (.bn .neq 0 (.t 35) (.k (i (-1)))), o 37 (.pick (.t 34) (.t 36) (.k (.bool false))), o 38 (.mv (.t 37)), g 39 38 false (.mv (.t 7)), g 40 38 false (.un .not (.t 39)),
  g 41 38 false (.mv (.t 40)), g 42 41 true (.mv (.t 6)), g 43 41 true (.bn .lss 0 (.t 42) (.k (i 0))), g 44 41 true (.mv (.t 43)), g 45 44 false (.mv (.t 6)), g 46 44 false (.bn .geq 0 (.t 45) (.k (i 10))),
  g 47 41 true (.pick (.t 44) (.k (.bool true)) (.t 46)), g 48 38 false (.pick (.t 41) (.t 47) (.k (.bool false))), o 49 (.pick (.t 38) (.k (.bool true)) (.t 48)), .cond (.t 49) [o 4 (.mv (.k (.bool false))), .ret] []],
  o 50 (.bn .add 0 (.t 21) (.k (i 1))), o 21 (.mv (.t 50))]], o 4 (.mv (.k (.bool true))), .ret], 51, [.tmp 4]⟩
theorem c30 : chkF Tryz.prog 30 p30 = true := by decide +kernel
/- paling/witness.Way -/
def p31 : PFn := ⟨[o 3 (.bxd 0 (.t 0)), o 6 (.mv (.k nl)), o 7 (.mv (.k (.bool false))), o 10 (.ld (some 8) (.t 3)), o 11 (.mv (.t 1)), o 12 (.call 7 32 [(.t 10), (.t 11)]), o 13 (.un .not (.t 12)), o 14 (.mv (.t 13)),
  g 15 14 false (.ld (some 8) (.t 3)), g 16 14 false (.mv (.t 2)), g 17 14 false (.call 7 32 [(.t 15), (.t 16)]), g 18 14 false (.un .not (.t 17)), o 19 (.pick (.t 14) (.k (.bool true)) (.t 18)), o 20 (.mv (.t 19)), g 21 20 false (.mv (.t 1)),
  g 22 20 false (.mv (.t 2)), g 23 20 false (.bn .eql 0 (.t 21) (.t 22)), o 24 (.pick (.t 20) (.k (.bool true)) (.t 23)), o 25 (.mv (.t 24)), g 26 25 false (.ld (some 8) (.t 3)), g 27 25 false (.call 7 24 [(.t 26)]),
  g 28 25 false (.un .not (.t 27)), o 29 (.pick (.t 25) (.k (.bool true)) (.t 28)), .cond (.t 29) [o 6 (.mv (.k nl)), o 7 (.mv (.k (.bool false))), .ret] [], o 30 (.ld (some 8) (.t 3)), o 31 (.bld [nl, nl, nl, nl, nl, nl, nl, nl, nl, nl,
  nl] [(0, 8, (.t 30))]), o 32 (.bxm 0 (.t 31)), o 8 (.mv (.t 32)), o 33 (.mv (.t 8)), o 34 (.mv (.t 1)), o 35 (.call 4 71 [(.t 33), (.t 34)]), o 9 (.mv (.k (i 0))), .block 0 [.loop [o 36 (.mv (.t 9)), o 37 (.mv (.t 8)), o 38 (.nc (.t 37)),
  o 39 (.fa 10 (.t 38)), o 40 (.ld none (.t 39)), o 41 (.len false (.t 40)), o 42 (.bn .lss 0 (.t 36) (.t 41)), .cond (.t 42) [] [.exit 0], .block 1 [.draw 0 [0, 1, 2, 3, 4, 5, 6, 7, 8, 9, 10, 11, 12] [] [o 45 (.ld (some 8) (.t 3)),
  o 46 (.mv (.t 8)), o 47 (.nc (.t 46)), o 48 (.fa 10 (.t 47)), o 49 (.ld none (.t 48)), o 50 (.mv (.t 9)), o 51 (.ia 7 (.t 49) (.t 50)), o 52 (.fa 0 (.t 51)), o 53 (.fa 0 (.t 52)), o 54 (.ld none (.t 53)), o 55 (.call 0 73 [(.t 45), (.t 54)]),
  o 56 (.mv (.t 2)), o 57 (.call 7 72 [(.t 55), (.t 56)])], .cond (.t 57) [o 58 (.mv (.t 8)), o 59 (.mv (.t 9)), o 60 (.call 4 74 [(.t 58), (.t 59)]), o 6 (.mv (.t 60)), o 7 (.mv (.k (.bool true))), .ret] [], o 61 (.mv (.t 8)),
  o 62 (.mv (.t 9)), o 63 (.call 4 75 [(.t 61), (.t 62)])], o 43 (.mv (.t 9)), o 44 (.bn .add 0 (.t 43) (.k (i 1))), o 9 (.mv (.t 44))]], o 6 (.mv (.k nl)), o 7 (.mv (.k (.bool false))), .ret], 64, [.tmp 6, .tmp 7]⟩
theorem c31 : chkF Tryz.prog 31 p31 = true := by decide +kernel
/- paling/witness.host -/
def p32 : PFn := ⟨[o 2 (.bxd 0 (.t 0)), o 4 (.mv (.k (.bool false))), o 5 (.mv (.t 1)), o 6 (.bn .geq 0 (.t 5) (.k (i 0))), o 7 (.mv (.t 6)), g 8 7 true (.mv (.t 1)), g 9 7 true (.fa 1 (.t 2)), g 10 7 true (.ld none (.t 9)),
  g 11 7 true (.len false (.t 10)), g 12 7 true (.bn .lss 0 (.t 8) (.t 11)), o 13 (.pick (.t 7) (.t 12) (.k (.bool false))), o 14 (.mv (.t 13)), g 15 14 true (.fa 1 (.t 2)), g 16 14 true (.ld none (.t 15)), g 17 14 true (.mv (.t 1)),
  g 18 14 true (.ia 7 (.t 16) (.t 17)), g 19 14 true (.fa 4 (.t 18)), g 20 14 true (.ld none (.t 19)), g 21 14 true (.bn .lss 0 (.t 20) (.k (i 0))), o 22 (.pick (.t 14) (.t 21) (.k (.bool false))), o 4 (.mv (.t 22)), .ret], 23, [.tmp 4]⟩
theorem c32 : chkF Tryz.prog 32 p32 = true := by decide +kernel
/- paling/sim.New -/
def p33 : PFn := ⟨[o 1 (.bxd 0 (.t 0)), o 2 (.mv (.k .nilp)), o 3 (.mv (.k (i 0))), o 7 (.bsl (.bool false) 1 [(0, (.k (.bool true)))]), o 8 (.fa 2 (.t 1)), o 9 (.ld none (.t 8)), o 10 (.len false (.t 9)), o 11 (.call 7 76 [(.t 7),
  (.t 10)]), o 4 (.mv (.t 11)), o 13 (.ld (some 8) (.t 1)), o 14 (.mv (.t 4)), o 15 (.call 7 77 [(.t 13), (.t 14)]), o 12 (.mv (.t 15)), o 16 (.ext (.t 12) 0), o 17 (.ext (.t 12) 1), o 5 (.mv (.t 16)), o 6 (.mv (.t 17)), o 18 (.mv (.t 6)),
  o 19 (.bn .neq 0 (.t 18) (.k (i 0))), .cond (.t 19) [o 2 (.mv (.k .nilp)), o 3 (.mv (.k (i 2))), .ret] [], .draw 4 [0, 1, 2, 3, 5, 6, 7, 9, 10, 11, 4, 8, 12, 13, 14, 15, 16] [] [o 20 (.ld (some 8) (.t 1)), o 21 (.call 0 78 [(.t 20)]),
  o 22 (.mv (.t 4)), o 23 (.bld [nl, (.int .u32 0), (.int .i32 0), (.int .u32 0), nl] [(0, 1, (.t 22))]), o 25 (.fa 3 (.t 1)), o 26 (.ld none (.t 25)), o 27 (.len false (.t 26)), o 29 (.fa 3 (.t 1)), o 30 (.ld none (.t 29)),
  o 31 (.len false (.t 30)), o 24 (.bxm 1 (.t 23)), o 28 (.mk 2 nl (.t 27) (.t 27)), o 32 (.mk 3 nl (.t 31) (.t 31)), o 33 (.bld [nl, nl, nl, nl, nl, nl, nl, nl, .nilp, nl, nl, (i 0), (i 0), (i 0), (i 0), (i 0), (i 0), (i 0), (i 0), (i 0),
  (i 0), (i 0), (i 0), (i 0), (i 0), (i 0), (i 0), (i 0), (i 0), (i 0), (i 0), (i 0), (i 0), (i 0), (i 0), (i 0), (i 0), (i 0), (i 0), (i 0), (i 0), (i 0), (i 0), (i 0), (i 0), (i 0), (i 0), (i 0), (i 0), (i 0), (i 0), (i 0), (i 0), (i 0),
  (i 0), (i 0), (i 0), (i 0), (i 0), (i 0), (i 0), (i 0), (i 0), (i 0), (i 0), (i 0), (i 0), (i 0), (i 0), (i 0), (i 0), (i 0), (i 0), (i 0), (i 0), (i 0), (i 0)] [(0, 8, (.t 21)), (8, 1, (.t 24)), (9, 1, (.t 28)), (10, 1, (.t 32))]),
  o 34 (.bxm 4 (.t 33)), o 2 (.mv (.t 34)), o 3 (.mv (.k (i 0)))], .ret], 35, [.tmp 2, .tmp 3]⟩
theorem c33 : chkF Tryz.prog 33 p33 = true := by decide +kernel
/- paling/witness.Script$1 -/
def p34 : PFn := ⟨[o 3 (.bxd 0 (.t 0)), o 4 (.ld none (.t 1)), o 5 (.ld (some 6) (.t 3)), o 6 (.call 4 35 [(.t 4), (.t 5)]), o 7 (.ld none (.t 2)), o 8 (.ld (some 6) (.t 3)), o 9 (.bsl (.agg [(i 0), (i 0), (i 0), (i 0), nl, nl]) 1 [(0,
  (.t 8))]), o 10 (.app 0 6 (.t 7) (.t 9)), e (.st 1 (.t 2) (.t 10))], 11, []⟩
theorem c34 : chkF Tryz.prog 34 p34 = true := by decide +kernel
/- (*paling/sim.Sim).Do -/
def p35 : PFn := ⟨[o 3 (.bxd 0 (.t 1)), o 4 (.mv (.k nl)), o 5 (.mv (.k (i 0))), o 6 (.mv (.t 0)), o 7 (.bn .eql 2 (.t 6) (.k .nilp)), .cond (.t 7) [o 4 (.mv (.k nl)), o 5 (.mv (.k (i 1))), .ret] [], o 8 (.fa 0 (.t 3)),
  o 9 (.ld none (.t 8)), .block 0 [o 11 (.bn .eql 0 (.t 9) (.k (i 1))), o 10 (.mv (.t 11)), .cond (.t 10) [o 12 (.mv (.t 0)), o 13 (.fa 1 (.t 3)), o 14 (.ld none (.t 13)), o 15 (.fa 4 (.t 3)), o 16 (.ld none (.t 15)), o 17 (.call 4 79 [(.t 12),
  (.t 14), (.t 16)])] [o 19 (.bn .eql 0 (.t 9) (.k (i 2))), o 18 (.mv (.t 19)), .cond (.t 18) [o 20 (.mv (.t 0)), o 21 (.fa 2 (.t 3)), o 22 (.ld none (.t 21)), o 23 (.fa 3 (.t 3)), o 24 (.ld none (.t 23)), o 25 (.call 4 80 [(.t 20), (.t 22),
  (.t 24)]), o 4 (.mv (.t 25)), o 5 (.mv (.k (i 0))), .ret] [o 27 (.bn .eql 0 (.t 9) (.k (i 3))), o 26 (.mv (.t 27)), .cond (.t 26) [o 28 (.mv (.t 0)), o 29 (.fa 2 (.t 3)), o 30 (.ld none (.t 29)), o 31 (.fa 3 (.t 3)), o 32 (.ld none (.t 31)),
  o 33 (.call 4 81 [(.t 28), (.t 30), (.t 32)])] [o 35 (.bn .eql 0 (.t 9) (.k (i 4))), o 34 (.mv (.t 35)), .cond (.t 34) [o 36 (.mv (.t 0)), o 37 (.call 4 82 [(.t 36)])] [o 39 (.bn .eql 0 (.t 9) (.k (i 5))), o 38 (.mv (.t 39)),
  .cond (.t 38) [.draw 0 [0, 1, 2, 3, 4, 5, 6, 7, 8, 9] [] [o 40 (.fa 5 (.t 3)), o 41 (.ld none (.t 40)), o 42 (.len false (.t 41)), o 43 (.mv (.t 0)), o 44 (.nc (.t 43)), o 45 (.fa 0 (.t 44)), o 46 (.fa 2 (.t 45)), o 47 (.ld none (.t 46)),
  o 48 (.len false (.t 47)), o 49 (.bn .eql 0 (.t 42) (.t 48))], .cond (.t 49) [o 50 (.mv (.t 0)), o 51 (.fa 5 (.t 3)), o 52 (.ld none (.t 51)), o 53 (.call 7 83 [(.t 52)]), o 54 (.bld [nl, (.int .u32 0), (.int .i32 0), (.int .u32 0), nl] [(0,
  1, (.t 53))]), o 55 (.bxm 0 (.t 54)), o 56 (.nc (.t 50)), o 57 (.fa 8 (.t 56)), e (.st 1 (.t 57) (.t 55))] []] []]]]]], o 4 (.mv (.k nl)), o 5 (.mv (.k (i 0))), .ret], 58, [.tmp 4, .tmp 5]⟩
theorem c35 : chkF Tryz.prog 35 p35 = true := by decide +kernel
/- paling/witness.Script$2 -/
def p36 : PFn := ⟨[.draw 0 [0, 1, 2, 3, 4, 5, 6, 7, 8, 9] [] [o 4 (.ld none (.t 1)), o 5 (.mv (.t 0)), o 6 (.ld none (.t 2)), o 7 (.mv (.t 0)), o 8 (.call 12 37 [(.t 6), (.t 7)]), o 9 (.len false (.t 8)), o 10 (.bn .sub 0 (.t 9) (.k (i 1))),
  o 11 (.mx [(.t 10), (.k (i 0))]), o 12 (.bld [(i 0), (i 0), (i 0), (i 0), nl, nl] [(0, 1, (.k (i 2))), (2, 1, (.t 5)), (3, 1, (.t 11))]), o 13 (.callv 4 (.t 4) [(.t 12)])]], 14, []⟩
theorem c36 : chkF Tryz.prog 36 p36 = true := by decide +kernel
/- (*paling/sim.Sim).Queue -/
def p37 : PFn := ⟨[o 4 (.mv (.k nl)), o 8 (.mv (.t 0)), o 9 (.mv (.t 1)), o 10 (.call 4 84 [(.t 8), (.t 9)]), o 11 (.un .not (.t 10)), .cond (.t 11) [o 4 (.mv (.k nl)), .ret] [], o 13 (.mv (.t 0)), o 14 (.nc (.t 13)), o 15 (.fa 10 (.t 14)),
  o 16 (.ld none (.t 15)), o 17 (.mv (.t 1)), o 18 (.ia 1 (.t 16) (.t 17)), o 19 (.ld none (.t 18)), o 20 (.call 4 85 [(.t 19), (.k (i (-1)))]), o 12 (.mv (.t 20)), o 21 (.ext (.t 12) 0), o 22 (.ext (.t 12) 1), o 23 (.ext (.t 12) 2),
  o 5 (.al 0 (.agg [(i 0), (i 0), (i 0), (.int .u64 0), (.int .u64 0), (i 0), nl])), .stf 7 5 (.t 21), o 6 (.mv (.t 22)), o 7 (.mv (.t 23)), o 24 (.mv (.t 6)), o 4 (.mv (.t 24)), .ret], 25, [.tmp 4]⟩
theorem c37 : chkF Tryz.prog 37 p37 = true := by decide +kernel
/- paling/witness.inject -/
def p38 : PFn := ⟨[o 3 (.bxd 0 (.t 0)), o 6 (.al 0 (.agg [(i 0), (i 0), (i 0), (i 0), nl, nl])), o 13 (.ld (some 8) (.t 3)), o 14 (.mv (.t 2)), o 15 (.call 7 86 [(.t 13), (.t 14)]), o 12 (.mv (.t 15)), o 16 (.ext (.t 12) 0),
  o 17 (.ext (.t 12) 1), o 7 (.mv (.t 16)), o 8 (.mv (.t 17)), .draw 0 [0, 1, 2, 3, 4, 5, 6, 7, 8, 9] [] [o 18 (.fa 3 (.t 3)), o 19 (.ld none (.t 18)), o 20 (.mv (.t 2)), o 21 (.ia 4 (.t 20) (.k (i 0))), o 22 (.fa 2 (.t 21)),
  o 23 (.ld none (.t 22)), o 24 (.ia 6 (.t 19) (.t 23)), o 25 (.fa 1 (.t 24)), o 26 (.ld none (.t 25)), o 9 (.mv (.t 26))], o 27 (.mv (.t 9)), o 28 (.fa 1 (.t 3)), o 29 (.ld none (.t 28)), o 30 (.mv (.t 1)), o 31 (.ia 7 (.t 29) (.t 30)),
  o 32 (.fa 2 (.t 31)), o 33 (.ld none (.t 32)), o 34 (.bn .neq 0 (.t 27) (.t 33)), .cond (.t 34) [o 36 (.mv (.t 7)), o 37 (.call 7 87 [(.t 36)]), o 35 (.mv (.t 37)), o 38 (.ext (.t 35) 0), o 39 (.ext (.t 35) 1),
  o 10 (.al 0 (.agg [(.int .u64 0), (.int .u64 0), (i 0), nl])), e (.st 4 (.t 10) (.t 38)), o 11 (.mv (.t 39)), o 41 (.ld (some 4) (.t 10)), o 42 (.mv (.t 9)), o 43 (.call 7 88 [(.t 41), (.t 42), (.k (i 0))]), o 40 (.mv (.t 43)),
  o 44 (.ext (.t 40) 0), o 45 (.ext (.t 40) 1), e (.st 4 (.t 10) (.t 44)), o 47 (.ld (some 4) (.t 10)), o 48 (.call 7 89 [(.t 47)]), o 46 (.mv (.t 48)), o 49 (.ext (.t 46) 0), o 50 (.ext (.t 46) 1), o 7 (.mv (.t 49))] [], o 51 (.mv (.t 1)),
  o 52 (.mv (.t 7)), o 53 (.bld [(i 0), (i 0), (i 0), (i 0), nl, nl] [(0, 1, (.k (i 1))), (1, 1, (.t 51)), (4, 1, (.t 52))]), .stf 6 6 (.t 53), .ret], 54, [.cell (some 6) 6]⟩
theorem c38 : chkF Tryz.prog 38 p38 = true := by decide +kernel
/- paling/text.Read$1 -/
def p39 : PFn := ⟨[o 2 (.ld none (.t 0)), o 3 (.bn .neq 0 (.t 2) (.k (i 0))), .cond (.t 3) [e (.st 1 (.t 1) (.k nl))] []], 4, []⟩
theorem c39 : chkF Tryz.prog 39 p39 = true := by decide +kernel
/- paling/stmt.Read -/
def p40 : PFn := ⟨[o 4 (.al 0 (.agg [(i 0), (i 0), (.str []), (.str []), (.str []), (.str []), (.str []), (.int .u64 0), (.int .u32 0), (i 0), (i 0), (i 0), (i 0), nl, nl, nl, nl])), o 5 (.mv (.k (i 0))), o 16 (.mv (.t 0)),
  o 17 (.len false (.t 16)), o 18 (.bn .eql 0 (.t 17) (.k (i 0))), o 19 (.mv (.t 18)), g 20 19 false (.mv (.t 0)), g 21 19 false (.ia 1 (.t 20) (.k (i 0))), g 22 19 false (.ld none (.t 21)), g 23 19 false (.call 7 91 [(.t 22)]),
  g 24 19 false (.mv (.t 0)), g 25 19 false (.call 7 90 [(.t 23), (.t 24)]), g 26 19 false (.un .not (.t 25)), o 27 (.pick (.t 19) (.k (.bool true)) (.t 26)), .cond (.t 27) [o 28 (.bld [(i 0), (i 0), (.str []), (.str []), (.str []), (.str []),
  (.str []), (.int .u64 0), (.int .u32 0), (i 0), (i 0), (i 0), (i 0), nl, nl, nl, nl] []), e (.st 17 (.t 4) (.t 28)), o 5 (.mv (.k (i 22))), .ret] [], o 29 (.mv (.t 0)), o 30 (.bld [nl, (i 0), (i 0)] [(0, 1, (.t 29)), (1, 1, (.k (i 1)))]),
  o 31 (.bxm 0 (.t 30)), o 6 (.mv (.t 31)), o 32 (.mv (.t 6)), o 33 (.mf 92 [(.t 32)] []), o 34 (.mv (.t 6)), o 35 (.mf 93 [(.t 34)] []), o 7 (.mv (.t 33)), o 8 (.mv (.t 35)), o 36 (.mv (.t 1)), o 37 (.mv (.t 0)),
  o 38 (.ia 1 (.t 37) (.k (i 0))), o 39 (.ld none (.t 38)), o 40 (.call 7 91 [(.t 39)]), o 41 (.bld [(i 0), (i 0), (.str []), (.str []), (.str []), (.str []), (.str []), (.int .u64 0), (.int .u32 0), (i 0), (i 0), (i 0), (i 0), nl, nl, nl,
  nl] [(0, 1, (.t 36)), (1, 1, (.t 40))]), o 9 (.al 0 (.agg [(i 0), (i 0), (.str []), (.str []), (.str []), (.str []), (.str []), (.int .u64 0), (.int .u32 0), (i 0), (i 0), (i 0), (i 0), nl, nl, nl, nl])), e (.st 17 (.t 9) (.t 41)),
  o 42 (.mv (.t 7)), o 43 (.callv 4 (.t 42) []), o 44 (.fa 2 (.t 9)), e (.st 1 (.t 44) (.t 43)), o 45 (.fa 1 (.t 9)), o 46 (.ld none (.t 45)), .block 0 [o 48 (.bn .eql 0 (.t 46) (.k (i 1))), o 47 (.mv (.t 48)), .cond (.t 47) [o 49 (.mv (.t 6)),
  o 50 (.call 4 94 [(.t 49), (.k (i 0)), (.k (i 65535))]), o 51 (.mv (.t 6)), o 52 (.call 4 95 [(.t 51)]), o 53 (.fa 11 (.t 9)), e (.st 1 (.t 53) (.t 50)), o 54 (.fa 7 (.t 9)), e (.st 1 (.t 54) (.t 52))] [o 56 (.bn .eql 0 (.t 46) (.k (i 2))),
  o 55 (.mv (.t 56)), .cond (.t 55) [o 57 (.mv (.t 7)), o 58 (.callv 4 (.t 57) []), o 59 (.mv (.t 6)), o 60 (.call 4 94 [(.t 59), (.k (i 1)), (.k (i 65535))]), o 61 (.fa 3 (.t 9)), e (.st 1 (.t 61) (.t 58)), o 62 (.fa 12 (.t 9)),
  e (.st 1 (.t 62) (.t 60)), o 63 (.mv (.t 6)), o 64 (.mv (.t 0)), o 65 (.ia 1 (.t 64) (.k (i 4))), o 66 (.ld none (.t 65)), o 67 (.bn .neq 0 (.t 66) (.k (.str [97, 99, 99, 101, 115, 115]))), o 68 (.mv (.t 67)), g 69 68 true (.mv (.t 0)),
  g 70 68 true (.ia 1 (.t 69) (.k (i 4))), g 71 68 true (.ld none (.t 70)), g 72 68 true (.bn .neq 0 (.t 71) (.k (.str [116, 114, 117, 110, 107]))), o 73 (.pick (.t 68) (.t 72) (.k (.bool false))), o 74 (.call 4 96 [(.t 63), (.t 73),
  (.k (i 20))]), o 75 (.mv (.t 6)), o 76 (.call 4 97 [(.t 75), (.t 9)])] [o 78 (.bn .eql 0 (.t 46) (.k (i 3))), o 77 (.mv (.t 78)), .cond (.t 77) [o 79 (.mv (.t 7)), o 80 (.callv 4 (.t 79) []), o 81 (.mv (.t 7)), o 82 (.callv 4 (.t 81) []),
  o 83 (.mv (.t 7)), o 84 (.callv 4 (.t 83) []), o 85 (.fa 3 (.t 9)), e (.st 1 (.t 85) (.t 80)), o 86 (.fa 4 (.t 9)), e (.st 1 (.t 86) (.t 82)), o 87 (.fa 5 (.t 9)), e (.st 1 (.t 87) (.t 84))] [o 89 (.bn .eql 0 (.t 46) (.k (i 4))),
  o 88 (.mv (.t 89)), .cond (.t 88) [o 90 (.mv (.t 8)), o 91 (.callv 4 (.t 90) []), o 92 (.mv (.t 6)), o 93 (.call 4 95 [(.t 92)]), o 94 (.mv (.t 7)), o 95 (.callv 4 (.t 94) []), o 96 (.fa 10 (.t 9)), e (.st 1 (.t 96) (.t 91)),
  o 97 (.fa 7 (.t 9)), e (.st 1 (.t 97) (.t 93)), o 98 (.fa 3 (.t 9)), e (.st 1 (.t 98) (.t 95))] [o 100 (.bn .eql 0 (.t 46) (.k (i 5))), o 99 (.mv (.t 100)), .cond (.t 99) [o 102 (.mv (.t 6)), o 103 (.call 4 99 [(.t 102)]),
  o 104 (.call 7 98 [(.t 103)]), o 101 (.mv (.t 104)), o 105 (.ext (.t 101) 0), o 106 (.ext (.t 101) 1), o 10 (.mv (.t 105)), o 11 (.mv (.t 106)), o 107 (.mv (.t 6)), o 108 (.mv (.t 11)), o 109 (.un .not (.t 108)), o 110 (.mv (.t 109)),
  g 111 110 false (.mv (.t 10)), g 112 110 false (.bn .eql 0 (.t 111) (.k (.int .u32 0))), o 113 (.pick (.t 110) (.k (.bool true)) (.t 112)), o 114 (.call 4 96 [(.t 107), (.t 113), (.k (i 21))]), o 115 (.mv (.t 10)), o 116 (.fa 8 (.t 9)),
  e (.st 1 (.t 116) (.t 115))] [o 118 (.bn .eql 0 (.t 46) (.k (i 6))), o 117 (.mv (.t 118)), .cond (.t 117) [o 119 (.mv (.t 8)), o 120 (.callv 4 (.t 119) []), o 121 (.mv (.t 6)), o 122 (.call 4 100 [(.t 121)]), o 123 (.fa 10 (.t 9)),
  e (.st 1 (.t 123) (.t 120)), o 124 (.fa 11 (.t 9)), e (.st 1 (.t 124) (.t 122))] [o 126 (.bn .eql 0 (.t 46) (.k (i 7))), o 125 (.mv (.t 126)), .cond (.t 125) [o 127 (.mv (.t 6)), o 128 (.call 4 100 [(.t 127)]), o 129 (.fa 11 (.t 9)),
  e (.st 1 (.t 129) (.t 128)), o 131 (.mv (.t 6)), o 132 (.call 4 99 [(.t 131)]), o 133 (.call 7 101 [(.t 132)]), o 130 (.mv (.t 133)), o 134 (.ext (.t 130) 0), o 135 (.ext (.t 130) 1), o 12 (.mv (.t 134)), o 13 (.mv (.t 135)),
  o 136 (.mv (.t 6)), o 137 (.mv (.t 13)), o 138 (.un .not (.t 137)), o 139 (.mv (.t 138)), g 140 139 false (.mv (.t 12)), g 141 139 false (.ia 1 (.t 140) (.k (i 0))), g 142 139 false (.ld none (.t 141)),
  g 143 139 false (.bn .eql 0 (.t 142) (.k (.int .u32 0))), o 144 (.pick (.t 139) (.k (.bool true)) (.t 143)), o 145 (.call 4 96 [(.t 136), (.t 144), (.k (i 21))]), o 146 (.mv (.t 12)), o 147 (.fa 16 (.t 9)),
  e (.st 1 (.t 147) (.t 146))] [o 149 (.bn .eql 0 (.t 46) (.k (i 8))), o 148 (.mv (.t 149)), .cond (.t 148) [o 150 (.mv (.t 7)), o 151 (.callv 4 (.t 150) []), o 152 (.mv (.t 6)), o 153 (.call 4 102 [(.t 152), (.k (i 65535))]),
  o 154 (.mv (.t 6)), o 155 (.call 4 102 [(.t 154), (.k (i 65535))]), o 156 (.fa 6 (.t 9)), e (.st 1 (.t 156) (.t 151)), o 157 (.fa 14 (.t 9)), e (.st 1 (.t 157) (.t 153)), o 158 (.fa 15 (.t 9)),
  e (.st 1 (.t 158) (.t 155))] [o 160 (.bn .eql 0 (.t 46) (.k (i 9))), o 159 (.mv (.t 160)), .cond (.t 159) [o 161 (.mv (.t 8)), o 162 (.callv 4 (.t 161) []), o 163 (.mv (.t 7)), o 164 (.callv 4 (.t 163) []), o 165 (.fa 10 (.t 9)),
  e (.st 1 (.t 165) (.t 162)), o 166 (.fa 6 (.t 9)), e (.st 1 (.t 166) (.t 164)), o 168 (.mv (.t 6)), o 169 (.call 4 99 [(.t 168)]), o 170 (.call 7 103 [(.t 169)]), o 167 (.mv (.t 170)), o 171 (.ext (.t 167) 0), o 172 (.ext (.t 167) 1),
  o 14 (.al 0 (.agg [(.int .u32 0), (i 0)])), .stf 2 14 (.t 171), o 15 (.mv (.t 172)), o 173 (.mv (.t 6)), o 174 (.mv (.t 15)), o 175 (.un .not (.t 174)), o 176 (.mv (.t 175)), g 177 176 false (.ld (some 2) (.t 14)),
  g 178 176 false (.call 7 104 [(.t 177)]), g 179 176 false (.un .not (.t 178)), o 180 (.pick (.t 176) (.k (.bool true)) (.t 179)), o 181 (.call 4 96 [(.t 173), (.t 180), (.k (i 21))]), .draw 0 [0, 1, 2, 3, 4, 5, 6, 7] [(186,
  184)] [o 182 (.fa 0 (.t 14)), o 183 (.ld none (.t 182)), o 184 (.fa 1 (.t 14)), o 185 (.ld none (.t 184)), o 186 (.fa 8 (.t 9)), e (.st 1 (.t 186) (.t 183)), o 187 (.fa 9 (.t 9)), e (.st 1 (.t 187) (.t 185))]] []]]]]]]]]], o 188 (.mv (.t 6)),
  o 189 (.nc (.t 188)), o 190 (.fa 2 (.t 189)), o 191 (.ld none (.t 190)), o 192 (.bn .neq 0 (.t 191) (.k (i 0))), .cond (.t 192) [.draw 0 [0, 1, 2, 3, 4, 5, 6] [(4, 196)] [o 193 (.bld [(i 0), (i 0), (.str []), (.str []), (.str []), (.str []),
  (.str []), (.int .u64 0), (.int .u32 0), (i 0), (i 0), (i 0), (i 0), nl, nl, nl, nl] []), o 194 (.mv (.t 6)), o 195 (.nc (.t 194)), o 196 (.fa 2 (.t 195)), o 197 (.ld none (.t 196)), e (.st 17 (.t 4) (.t 193)), o 5 (.mv (.t 197))], .ret] [],
  o 198 (.ld (some 17) (.t 9)), e (.st 17 (.t 4) (.t 198)), o 5 (.mv (.k (i 0))), .ret], 199, [.cell (some 17) 4, .tmp 5]⟩
theorem c40 : chkF Tryz.prog 40 p40 = true := by decide +kernel
/- (*paling/net.site).net -/
def p41 : PFn := ⟨[o 2 (.al 0 (.agg [nl, nl, nl, nl, nl, nl, nl, nl])), o 3 (.mv (.k (i 0))), o 4 (.mv (.k (i 0))), o 5 (.mv (.t 0)), o 6 (.nc (.t 5)), o 7 (.fa 0 (.t 6)), o 8 (.mv (.t 0)), o 9 (.mf 106 [(.t 8)] []),
  o 10 (.call 4 105 [(.t 7), (.t 9)]), .draw 0 [0, 1, 2, 3, 4, 5, 6, 7, 8, 9, 10, 11, 12, 13, 14] [(2, 17), (2, 21)] [o 11 (.mv (.t 0)), o 12 (.nc (.t 11)), o 13 (.fa 4 (.t 12)), o 14 (.ld (some 8) (.t 13)), o 15 (.mv (.t 0)),
  o 16 (.nc (.t 15)), o 17 (.fa 12 (.t 16)), o 18 (.ld none (.t 17)), o 19 (.mv (.t 0)), o 20 (.nc (.t 19)), o 21 (.fa 13 (.t 20)), o 22 (.ld none (.t 21)), e (.st 8 (.t 2) (.t 14)), o 3 (.mv (.t 18)), o 4 (.mv (.t 22))], .ret], 23,
  [.cell (some 8) 2, .tmp 3, .tmp 4]⟩
theorem c41 : chkF Tryz.prog 41 p41 = true := by decide +kernel
/- strings.Cut -/
def p42 : PFn := ⟨[o 4 (.mv (.k (.str []))), o 5 (.mv (.k (.str []))), o 6 (.mv (.k (.bool false))), o 7 (.mv (.t 0)), o 8 (.mv (.t 1)), o 9 (.call 7 107 [(.t 7), (.t 8)]), o 10 (.ext (.t 9) 0), o 11 (.ext (.t 9) 1), o 12 (.ext (.t 9) 2),
  o 4 (.mv (.t 10)), o 5 (.mv (.t 11)), o 6 (.mv (.t 12)), .ret], 13, [.tmp 4, .tmp 5, .tmp 6]⟩
theorem c42 : chkF Tryz.prog 42 p42 = true := by decide +kernel
/- paling/line.stretches -/
def p43 : PFn := ⟨[o 1 (.bxm 0 (.t 0)), o 2 (.mv (.k nl)), o 3 (.al 0 nl), o 4 (.al 0 (i 0)), e (.st 1 (.t 4) (.k (i 0))), o 7 (.mf 108 [] [(.t 4), (.t 3), (.t 1)]), o 5 (.mv (.t 7)), o 6 (.mv (.k (i 0))), .block 0 [.loop [o 8 (.mv (.t 6)),
  o 9 (.ld none (.t 1)), o 10 (.len true (.t 9)), o 11 (.bn .lss 0 (.t 8) (.t 10)), .cond (.t 11) [] [.exit 0], .block 1 [o 14 (.ld none (.t 1)), o 15 (.mv (.t 6)), o 16 (.ix (.t 14) (.t 15)), .block 2 [o 18 (.bn .eql 0 (.t 16) (.k (u 35))),
  o 17 (.mv (.t 18)), .cond (.t 17) [.exit 0] [o 20 (.bn .eql 0 (.t 16) (.k (u 32))), o 19 (.mv (.t 20)), .cond (.t 19) [] [o 21 (.bn .eql 0 (.t 16) (.k (u 9))), o 19 (.mv (.t 21))], .cond (.t 19) [o 22 (.mv (.t 5)), o 23 (.mv (.t 6)),
  o 24 (.callv 4 (.t 22) [(.t 23)])] []]]], o 12 (.mv (.t 6)), o 13 (.bn .add 0 (.t 12) (.k (i 1))), o 6 (.mv (.t 13))]], o 25 (.mv (.t 5)), o 26 (.mv (.t 6)), o 27 (.callv 4 (.t 25) [(.t 26)]), o 28 (.ld none (.t 3)), o 2 (.mv (.t 28)), .ret],
  29, [.tmp 2]⟩
theorem c43 : chkF Tryz.prog 43 p43 = true := by decide +kernel
/- paling/line.Word -/
def p44 : PFn := ⟨[o 2 (.mv (.k (.bool false))), o 4 (.mv (.t 0)), o 5 (.len true (.t 4)), o 6 (.mv (.k (i 0))), .block 0 [.loop [o 7 (.bn .lss 0 (.t 6) (.t 5)), .cond (.t 7) [] [.exit 0], .block 1 [o 8 (.mv (.t 6)), o 3 (.mv (.t 8)),
  o 9 (.mv (.t 0)), o 10 (.mv (.t 3)), o 11 (.ix (.t 9) (.t 10)), o 12 (.bn .leq 0 (.t 11) (.k (u 32))), o 13 (.mv (.t 12)), g 14 13 false (.mv (.t 0)), g 15 13 false (.mv (.t 3)), g 16 13 false (.ix (.t 14) (.t 15)),
  g 17 13 false (.bn .gtr 0 (.t 16) (.k (u 126))), o 18 (.pick (.t 13) (.k (.bool true)) (.t 17)), o 19 (.mv (.t 18)), g 20 19 false (.mv (.t 0)), g 21 19 false (.mv (.t 3)), g 22 19 false (.ix (.t 20) (.t 21)),
  g 23 19 false (.bn .eql 0 (.t 22) (.k (u 35))), o 24 (.pick (.t 19) (.k (.bool true)) (.t 23)), .cond (.t 24) [o 2 (.mv (.k (.bool false))), .ret] []], o 25 (.bn .add 0 (.t 6) (.k (i 1))), o 6 (.mv (.t 25))]], o 26 (.mv (.t 0)),
  o 27 (.bn .neq 0 (.t 26) (.k (.str []))), o 28 (.mv (.t 27)), g 29 28 true (.mv (.t 0)), g 30 28 true (.len true (.t 29)), g 31 28 true (.bn .leq 0 (.t 30) (.k (i 40))), o 32 (.pick (.t 28) (.t 31) (.k (.bool false))), o 2 (.mv (.t 32)),
  .ret], 33, [.tmp 2]⟩
theorem c44 : chkF Tryz.prog 44 p44 = true := by decide +kernel
/- paling/num.Name -/
def p45 : PFn := ⟨[o 2 (.mv (.k (.bool false))), o 6 (.mv (.t 0)), o 7 (.len true (.t 6)), o 8 (.mv (.k (i 0))), .block 0 [.loop [o 9 (.bn .lss 0 (.t 8) (.t 7)), .cond (.t 9) [] [.exit 0], .block 1 [o 10 (.mv (.t 8)), o 3 (.mv (.t 10)),
  .draw 0 [0, 1, 2, 3, 4, 5, 6, 7, 8, 9, 10, 11, 12, 13, 14, 15, 16, 17, 18, 19, 20, 21] [] [o 11 (.mv (.t 0)), o 12 (.mv (.t 3)), o 13 (.ix (.t 11) (.t 12)), o 14 (.bn .geq 0 (.t 13) (.k (u 97))), o 15 (.mv (.t 14)), g 16 15 true (.mv (.t 0)),
  g 17 15 true (.mv (.t 3)), g 18 15 true (.ix (.t 16) (.t 17)), g 19 15 true (.bn .leq 0 (.t 18) (.k (u 122))), o 20 (.pick (.t 15) (.t 19) (.k (.bool false))), o 21 (.mv (.t 0)), o 22 (.mv (.t 3)), o 23 (.ix (.t 21) (.t 22)),
  o 24 (.bn .geq 0 (.t 23) (.k (u 48))), o 25 (.mv (.t 24)), g 26 25 true (.mv (.t 0)), g 27 25 true (.mv (.t 3)), g 28 25 true (.ix (.t 26) (.t 27)), g 29 25 true (.bn .leq 0 (.t 28) (.k (u 57))),
  o 30 (.pick (.t 25) (.t 29) (.k (.bool false))), o 4 (.mv (.t 20)), o 5 (.mv (.t 30))], o 31 (.mv (.t 4)), o 32 (.un .not (.t 31)), o 33 (.mv (.t 32)), g 34 33 true (.mv (.t 5)), g 35 33 true (.un .not (.t 34)), g 36 33 true (.mv (.t 35)),
  g 37 36 false (.mv (.t 3)), g 38 36 false (.bn .eql 0 (.t 37) (.k (i 0))), g 39 33 true (.pick (.t 36) (.k (.bool true)) (.t 38)), o 40 (.pick (.t 33) (.t 39) (.k (.bool false))), .cond (.t 40) [o 2 (.mv (.k (.bool false))), .ret] []],
  o 41 (.bn .add 0 (.t 8) (.k (i 1))), o 8 (.mv (.t 41))]], o 42 (.mv (.t 0)), o 43 (.len true (.t 42)), o 44 (.bn .gtr 0 (.t 43) (.k (i 0))), o 45 (.mv (.t 44)), g 46 45 true (.mv (.t 0)), g 47 45 true (.len true (.t 46)),
  g 48 45 true (.bn .leq 0 (.t 47) (.k (i 12))), o 49 (.pick (.t 45) (.t 48) (.k (.bool false))), o 2 (.mv (.t 49)), .ret], 50, [.tmp 2]⟩
theorem c45 : chkF Tryz.prog 45 p45 = true := by decide +kernel
/- paling/policy.halves -/
def p46 : PFn := ⟨[o 2 (.al 0 (.agg [(.str []), (.str [])])), o 3 (.mv (.k (.bool false))), o 11 (.mv (.t 0)), o 12 (.call 7 42 [(.t 11), (.k (.str [46]))]), o 10 (.mv (.t 12)), o 13 (.ext (.t 10) 0), o 14 (.ext (.t 10) 1),
  o 15 (.ext (.t 10) 2), o 4 (.mv (.t 13)), o 5 (.mv (.t 14)), o 6 (.mv (.t 15)), o 16 (.mv (.t 4)), o 17 (.mv (.t 5)), o 18 (.bld [(.str []), (.str [])] [(0, 1, (.t 16)), (1, 1, (.t 17))]), o 7 (.al 0 (.agg [(.str []), (.str [])])),
  .stf 2 7 (.t 18), o 19 (.ld (some 2) (.t 7)), o 20 (.mv (.k (i 0))), .block 0 [.loop [o 21 (.bn .lss 0 (.t 20) (.k (i 2))), .cond (.t 21) [] [.exit 0], .block 1 [o 22 (.ixa 2 1 false (.t 19) (.t 20)), o 9 (.mv (.t 22)), o 23 (.mv (.t 6)),
  o 24 (.mv (.t 23)), g 25 24 true (.mv (.t 9)), g 26 24 true (.call 7 45 [(.t 25)]), o 27 (.pick (.t 24) (.t 26) (.k (.bool false))), o 6 (.mv (.t 27))], o 28 (.bn .add 0 (.t 20) (.k (i 1))), o 20 (.mv (.t 28))]], o 29 (.ld (some 2) (.t 7)),
  o 30 (.mv (.t 6)), .stf 2 2 (.t 29), o 3 (.mv (.t 30)), .ret], 31, [.cell (some 2) 2, .tmp 3]⟩
theorem c46 : chkF Tryz.prog 46 p46 = true := by decide +kernel
/- (paling/names.judge).few -/
def p47 : PFn := ⟨[o 1 (.bxd 0 (.t 0)), o 2 (.mv (.k (.bool false))), o 4 (.fa 0 (.t 1)), o 5 (.ld (some 8) (.t 4)), o 3 (.al 0 (.agg [nl, nl, nl, nl, nl, nl, nl, nl])), .stf 8 3 (.t 5), o 6 (.fa 0 (.t 3)), o 7 (.ld none (.t 6)),
  o 8 (.len false (.t 7)), o 9 (.bn .leq 0 (.t 8) (.k (i 8))), o 10 (.mv (.t 9)), g 11 10 true (.fa 1 (.t 3)), g 12 10 true (.ld none (.t 11)), g 13 10 true (.len false (.t 12)), g 14 10 true (.bn .leq 0 (.t 13) (.k (i 40))),
  o 15 (.pick (.t 10) (.t 14) (.k (.bool false))), o 16 (.mv (.t 15)), g 17 16 true (.fa 2 (.t 3)), g 18 16 true (.ld none (.t 17)), g 19 16 true (.len false (.t 18)), g 20 16 true (.bn .leq 0 (.t 19) (.k (i 20))),
  o 21 (.pick (.t 16) (.t 20) (.k (.bool false))), o 22 (.mv (.t 21)), g 23 22 true (.fa 3 (.t 3)), g 24 22 true (.ld none (.t 23)), g 25 22 true (.len false (.t 24)), g 26 22 true (.bn .leq 0 (.t 25) (.k (i 48))),
  o 27 (.pick (.t 22) (.t 26) (.k (.bool false))), o 28 (.mv (.t 27)), g 29 28 true (.fa 4 (.t 3)), g 30 28 true (.ld none (.t 29)), g 31 28 true (.len false (.t 30)), g 32 28 true (.bn .leq 0 (.t 31) (.k (i 64))),
  o 33 (.pick (.t 28) (.t 32) (.k (.bool false))), o 34 (.mv (.t 33)), g 35 34 true (.fa 5 (.t 3)), g 36 34 true (.ld none (.t 35)), g 37 34 true (.len false (.t 36)), g 38 34 true (.bn .leq 0 (.t 37) (.k (i 48))),
  o 39 (.pick (.t 34) (.t 38) (.k (.bool false))), o 40 (.mv (.t 39)), g 41 40 true (.fa 6 (.t 3)), g 42 40 true (.ld none (.t 41)), g 43 40 true (.len false (.t 42)), g 44 40 true (.bn .leq 0 (.t 43) (.k (i 16))),
  o 45 (.pick (.t 40) (.t 44) (.k (.bool false))), o 46 (.mv (.t 45)), g 47 46 true (.fa 7 (.t 3)), g 48 46 true (.ld none (.t 47)), g 49 46 true (.len false (.t 48)), g 50 46 true (.bn .leq 0 (.t 49) (.k (i 48))),
  o 51 (.pick (.t 46) (.t 50) (.k (.bool false))), o 2 (.mv (.t 51)), .ret], 52, [.tmp 2]⟩
theorem c47 : chkF Tryz.prog 47 p47 = true := by decide +kernel
/- paling/names.all[paling/api.Domain] -/
def p48 : PFn := ⟨[o 4 (.mv (.k (.bool false))), o 7 (.mv (.t 0)), o 8 (.len false (.t 7)), o 9 (.mv (.k (i 0))), .block 0 [.loop [o 10 (.bn .lss 0 (.t 9) (.t 8)), .cond (.t 10) [] [.exit 0], .block 1 [o 11 (.mv (.t 9)),
  o 12 (.ia 6 (.t 7) (.t 9)), o 13 (.ld (some 6) (.t 12)), o 6 (.al 0 (.agg [(i 0), (i 0), (i 0), (i 0), (i 0), nl])), o 5 (.mv (.t 11)), .stf 6 6 (.t 13), o 14 (.mv (.t 1)), o 15 (.mv (.t 5)), o 16 (.ld (some 6) (.t 6)),
  o 17 (.callv 4 (.t 14) [(.t 15), (.t 16)]), o 18 (.un .not (.t 17)), .cond (.t 18) [o 4 (.mv (.k (.bool false))), .ret] []], o 19 (.bn .add 0 (.t 9) (.k (i 1))), o 9 (.mv (.t 19))]], o 4 (.mv (.k (.bool true))), .ret], 20, [.tmp 4]⟩
theorem c48 : chkF Tryz.prog 48 p48 = true := by decide +kernel
/- (paling/names.judge).bare -/
def p49 : PFn := ⟨[o 3 (.bxd 0 (.t 0)), o 5 (.bxd 0 (.t 2)), o 6 (.mv (.k (.bool false))), o 7 (.fa 0 (.t 3)), o 8 (.fa 0 (.t 7)), o 9 (.ld none (.t 8)), o 10 (.fa 0 (.t 5)), o 11 (.ld none (.t 10)), o 12 (.call 7 59 [(.t 9), (.t 11)]),
  o 13 (.mv (.t 12)), g 14 13 true (.fa 1 (.t 5)), g 15 13 true (.ld none (.t 14)), g 16 13 true (.bn .geq 0 (.t 15) (.k (i 1))), o 17 (.pick (.t 13) (.t 16) (.k (.bool false))), o 18 (.mv (.t 17)), g 19 18 true (.fa 1 (.t 5)),
  g 20 18 true (.ld none (.t 19)), g 21 18 true (.bn .leq 0 (.t 20) (.k (i 4094))), o 22 (.pick (.t 18) (.t 21) (.k (.bool false))), o 23 (.mv (.t 22)), g 24 23 true (.fa 2 (.t 5)), g 25 23 true (.ld none (.t 24)),
  g 26 23 true (.bn .geq 0 (.t 25) (.k (i 0))), o 27 (.pick (.t 23) (.t 26) (.k (.bool false))), o 28 (.mv (.t 27)), g 29 28 true (.fa 2 (.t 5)), g 30 28 true (.ld none (.t 29)), g 31 28 true (.bn .leq 0 (.t 30) (.k (i 16777215))),
  o 32 (.pick (.t 28) (.t 31) (.k (.bool false))), o 33 (.mv (.t 32)), g 34 33 true (.fa 3 (.t 5)), g 35 33 true (.ld none (.t 34)), g 36 33 true (.bn .eql 0 (.t 35) (.k (i (-1)))), g 37 33 true (.mv (.t 36)), g 38 37 false (.fa 0 (.t 3)),
  g 39 37 false (.fa 7 (.t 38)), g 40 37 false (.ld none (.t 39)), g 41 37 false (.fa 3 (.t 5)), g 42 37 false (.ld none (.t 41)), g 43 37 false (.call 7 109 [(.t 40), (.t 42)]), g 44 37 false (.mv (.t 43)), g 45 44 true (.fa 0 (.t 3)),
  g 46 44 true (.fa 7 (.t 45)), g 47 44 true (.ld none (.t 46)), g 48 44 true (.fa 3 (.t 5)), g 49 44 true (.ld none (.t 48)), g 50 44 true (.ia 5 (.t 47) (.t 49)), g 51 44 true (.fa 1 (.t 50)), g 52 44 true (.ld none (.t 51)),
  g 53 44 true (.mv (.t 1)), g 54 44 true (.bn .eql 0 (.t 52) (.t 53)), g 55 37 false (.pick (.t 44) (.t 54) (.k (.bool false))), g 56 33 true (.pick (.t 37) (.k (.bool true)) (.t 55)), o 57 (.pick (.t 33) (.t 56) (.k (.bool false))),
  o 58 (.mv (.t 57)), g 59 58 true (.ld (some 8) (.t 3)), g 60 58 true (.fa 0 (.t 5)), g 61 58 true (.ld none (.t 60)), g 62 58 true (.fa 1 (.t 5)), g 63 58 true (.ld none (.t 62)), g 64 58 true (.call 7 110 [(.t 59), (.t 61), (.t 63)]),
  g 65 58 true (.mv (.t 1)), g 66 58 true (.bn .eql 0 (.t 64) (.t 65)), o 67 (.pick (.t 58) (.t 66) (.k (.bool false))), o 6 (.mv (.t 67)), .ret], 68, [.tmp 6]⟩
theorem c49 : chkF Tryz.prog 49 p49 = true := by decide +kernel
/- (paling/names.judge).peers -/
def p50 : PFn := ⟨[o 3 (.bxd 0 (.t 0)), o 4 (.bxm 0 (.t 1)), o 5 (.bxd 0 (.t 2)), o 6 (.mv (.k (.bool false))), o 7 (.fa 5 (.t 5)), o 8 (.ld none (.t 7)), o 9 (.mf 112 [] [(.t 3), (.t 4), (.t 5)]), o 10 (.call 7 111 [(.t 8), (.t 9)]),
  o 6 (.mv (.t 10)), .ret], 11, [.tmp 6]⟩
theorem c50 : chkF Tryz.prog 50 p50 = true := by decide +kernel
/- paling/names.all[paling/api.Port] -/
def p51 : PFn := ⟨[o 4 (.mv (.k (.bool false))), o 7 (.mv (.t 0)), o 8 (.len false (.t 7)), o 9 (.mv (.k (i 0))), .block 0 [.loop [o 10 (.bn .lss 0 (.t 9) (.t 8)), .cond (.t 10) [] [.exit 0], .block 1 [o 11 (.mv (.t 9)),
  o 12 (.ia 7 (.t 7) (.t 9)), o 13 (.ld (some 7) (.t 12)), o 6 (.al 0 (.agg [(i 0), (i 0), (i 0), (i 0), (i 0), (.str []), nl])), o 5 (.mv (.t 11)), .stf 7 6 (.t 13), o 14 (.mv (.t 1)), o 15 (.mv (.t 5)), o 16 (.ld (some 7) (.t 6)),
  o 17 (.callv 4 (.t 14) [(.t 15), (.t 16)]), o 18 (.un .not (.t 17)), .cond (.t 18) [o 4 (.mv (.k (.bool false))), .ret] []], o 19 (.bn .add 0 (.t 9) (.k (i 1))), o 9 (.mv (.t 19))]], o 4 (.mv (.k (.bool true))), .ret], 20, [.tmp 4]⟩
theorem c51 : chkF Tryz.prog 51 p51 = true := by decide +kernel
/- (paling/names.judge).port -/
def p52 : PFn := ⟨[o 3 (.bxd 0 (.t 0)), o 5 (.bxd 0 (.t 2)), o 6 (.mv (.k (.bool false))), o 9 (.fa 0 (.t 3)), o 10 (.fa 0 (.t 9)), o 11 (.ld none (.t 10)), o 12 (.fa 1 (.t 5)), o 13 (.ld none (.t 12)), o 14 (.call 7 59 [(.t 11), (.t 13)]),
  o 15 (.un .not (.t 14)), o 16 (.mv (.t 15)), g 17 16 false (.fa 2 (.t 5)), g 18 16 false (.ld none (.t 17)), g 19 16 false (.bn .lss 0 (.t 18) (.k (i 0))), o 20 (.pick (.t 16) (.k (.bool true)) (.t 19)), o 21 (.mv (.t 20)),
  g 22 21 false (.fa 2 (.t 5)), g 23 21 false (.ld none (.t 22)), g 24 21 false (.bn .gtr 0 (.t 23) (.k (i 4094))), o 25 (.pick (.t 21) (.k (.bool true)) (.t 24)), o 26 (.mv (.t 25)), g 27 26 false (.fa 6 (.t 5)),
  g 28 26 false (.ld none (.t 27)), g 29 26 false (.call 7 62 [(.t 28), (.k (i 4094))]), g 30 26 false (.un .not (.t 29)), o 31 (.pick (.t 26) (.k (.bool true)) (.t 30)), o 32 (.mv (.t 31)), g 33 32 false (.fa 6 (.t 5)),
  g 34 32 false (.ld none (.t 33)), g 35 32 false (.fa 2 (.t 5)), g 36 32 false (.ld none (.t 35)), g 37 32 false (.call 7 72 [(.t 34), (.t 36)]), o 38 (.pick (.t 32) (.k (.bool true)) (.t 37)), o 39 (.mv (.t 38)), g 40 39 false (.fa 2 (.t 5)),
  g 41 39 false (.ld none (.t 40)), g 42 39 false (.bn .eql 0 (.t 41) (.k (i 0))), g 43 39 false (.mv (.t 42)), g 44 43 true (.fa 6 (.t 5)), g 45 43 true (.ld none (.t 44)), g 46 43 true (.len false (.t 45)),
  g 47 43 true (.bn .eql 0 (.t 46) (.k (i 0))), g 48 39 false (.pick (.t 43) (.t 47) (.k (.bool false))), o 49 (.pick (.t 39) (.k (.bool true)) (.t 48)), .cond (.t 49) [o 6 (.mv (.k (.bool false))), .ret] [], o 50 (.fa 6 (.t 5)),
  o 51 (.ld none (.t 50)), o 52 (.len false (.t 51)), o 53 (.mv (.k (i 0))), .block 0 [.loop [o 54 (.bn .lss 0 (.t 53) (.t 52)), .cond (.t 54) [] [.exit 0], .block 1 [o 55 (.ia 1 (.t 51) (.t 53)), o 56 (.ld none (.t 55)), o 8 (.mv (.t 56)),
  o 57 (.ld (some 8) (.t 3)), o 58 (.fa 1 (.t 5)), o 59 (.ld none (.t 58)), o 60 (.mv (.t 8)), o 61 (.call 7 110 [(.t 57), (.t 59), (.t 60)]), o 62 (.bn .lss 0 (.t 61) (.k (i 0))), .cond (.t 62) [o 6 (.mv (.k (.bool false))), .ret] []],
  o 63 (.bn .add 0 (.t 53) (.k (i 1))), o 53 (.mv (.t 63))]], o 64 (.fa 2 (.t 5)), o 65 (.ld none (.t 64)), o 66 (.bn .gtr 0 (.t 65) (.k (i 0))), o 67 (.mv (.t 66)), g 68 67 true (.ld (some 8) (.t 3)), g 69 67 true (.fa 1 (.t 5)),
  g 70 67 true (.ld none (.t 69)), g 71 67 true (.fa 2 (.t 5)), g 72 67 true (.ld none (.t 71)), g 73 67 true (.call 7 110 [(.t 68), (.t 70), (.t 72)]), g 74 67 true (.bn .lss 0 (.t 73) (.k (i 0))),
  o 75 (.pick (.t 67) (.t 74) (.k (.bool false))), .cond (.t 75) [o 6 (.mv (.k (.bool false))), .ret] [], o 76 (.fa 4 (.t 5)), o 77 (.ld none (.t 76)), o 78 (.bn .eql 0 (.t 77) (.k (i (-1)))), o 79 (.mv (.t 78)), g 80 79 false (.fa 0 (.t 3)),
  g 81 79 false (.fa 2 (.t 80)), g 82 79 false (.ld none (.t 81)), g 83 79 false (.fa 4 (.t 5)), g 84 79 false (.ld none (.t 83)), g 85 79 false (.call 7 115 [(.t 82), (.t 84)]), g 86 79 false (.mv (.t 85)), g 87 86 true (.fa 0 (.t 3)),
  g 88 86 true (.fa 2 (.t 87)), g 89 86 true (.ld none (.t 88)), g 90 86 true (.fa 4 (.t 5)), g 91 86 true (.ld none (.t 90)), g 92 86 true (.ia 3 (.t 89) (.t 91)), g 93 86 true (.fa 1 (.t 92)), g 94 86 true (.ld none (.t 93)),
  g 95 86 true (.mv (.t 1)), g 96 86 true (.bn .eql 0 (.t 94) (.t 95)), g 97 86 true (.mv (.t 96)), g 98 97 false (.fa 0 (.t 3)), g 99 97 false (.fa 2 (.t 98)), g 100 97 false (.ld none (.t 99)), g 101 97 false (.fa 4 (.t 5)),
  g 102 97 false (.ld none (.t 101)), g 103 97 false (.ia 3 (.t 100) (.t 102)), g 104 97 false (.fa 2 (.t 103)), g 105 97 false (.ld none (.t 104)), g 106 97 false (.mv (.t 1)), g 107 97 false (.bn .eql 0 (.t 105) (.t 106)),
  g 108 86 true (.pick (.t 97) (.k (.bool true)) (.t 107)), g 109 79 false (.pick (.t 86) (.t 108) (.k (.bool false))), o 110 (.pick (.t 79) (.k (.bool true)) (.t 109)), o 6 (.mv (.t 110)), .ret], 111, [.tmp 6]⟩
theorem c52 : chkF Tryz.prog 52 p52 = true := by decide +kernel
/- paling/names.all[paling/api.Link] -/
def p53 : PFn := ⟨[o 4 (.mv (.k (.bool false))), o 7 (.mv (.t 0)), o 8 (.len false (.t 7)), o 9 (.mv (.k (i 0))), .block 0 [.loop [o 10 (.bn .lss 0 (.t 9) (.t 8)), .cond (.t 10) [] [.exit 0], .block 1 [o 11 (.mv (.t 9)),
  o 12 (.ia 3 (.t 7) (.t 9)), o 13 (.ld (some 3) (.t 12)), o 6 (.al 0 (.agg [(i 0), (i 0), (i 0)])), o 5 (.mv (.t 11)), .stf 3 6 (.t 13), o 14 (.mv (.t 1)), o 15 (.mv (.t 5)), o 16 (.ld (some 3) (.t 6)), o 17 (.callv 4 (.t 14) [(.t 15),
  (.t 16)]), o 18 (.un .not (.t 17)), .cond (.t 18) [o 4 (.mv (.k (.bool false))), .ret] []], o 19 (.bn .add 0 (.t 9) (.k (i 1))), o 9 (.mv (.t 19))]], o 4 (.mv (.k (.bool true))), .ret], 20, [.tmp 4]⟩
theorem c53 : chkF Tryz.prog 53 p53 = true := by decide +kernel
/- (paling/names.judge).link -/
def p54 : PFn := ⟨[o 3 (.bxd 0 (.t 0)), o 5 (.bxd 0 (.t 2)), o 6 (.mv (.k (.bool false))), o 9 (.fa 0 (.t 3)), o 10 (.fa 1 (.t 9)), o 11 (.ld none (.t 10)), o 12 (.fa 1 (.t 5)), o 13 (.ld none (.t 12)), o 14 (.call 7 116 [(.t 11), (.t 13)]),
  o 15 (.un .not (.t 14)), o 16 (.mv (.t 15)), g 17 16 false (.fa 0 (.t 3)), g 18 16 false (.fa 1 (.t 17)), g 19 16 false (.ld none (.t 18)), g 20 16 false (.fa 2 (.t 5)), g 21 16 false (.ld none (.t 20)), g 22 16 false (.call 7 116 [(.t 19),
  (.t 21)]), g 23 16 false (.un .not (.t 22)), o 24 (.pick (.t 16) (.k (.bool true)) (.t 23)), .cond (.t 24) [o 6 (.mv (.k (.bool false))), .ret] [], .draw 2 [0, 1, 2, 3, 4, 5, 6, 7, 8, 9, 10, 11, 12, 13, 14, 15, 16, 17] [(33, 33), (35, 35),
  (37, 37)] [o 25 (.fa 0 (.t 3)), o 26 (.fa 1 (.t 25)), o 27 (.ld none (.t 26)), o 28 (.fa 1 (.t 5)), o 29 (.ld none (.t 28)), o 30 (.ia 7 (.t 27) (.t 29)), o 31 (.ld (some 7) (.t 30)), o 32 (.fa 0 (.t 3)), o 33 (.fa 1 (.t 32)),
  o 34 (.ld none (.t 33)), o 35 (.fa 2 (.t 5)), o 36 (.ld none (.t 35)), o 37 (.ia 7 (.t 34) (.t 36)), o 38 (.ld (some 7) (.t 37)), o 7 (.al 1 (.agg [(i 0), (i 0), (i 0), (i 0), (i 0), (.str []), nl])), o 8 (.al 2 (.agg [(i 0), (i 0), (i 0),
  (i 0), (i 0), (.str []), nl])), .stf 7 7 (.t 31), .stf 7 8 (.t 38)], o 39 (.fa 1 (.t 7)), o 40 (.ld none (.t 39)), o 41 (.fa 1 (.t 8)), o 42 (.ld none (.t 41)), o 43 (.bn .neq 0 (.t 40) (.t 42)), o 44 (.mv (.t 43)),
  g 45 44 true (.fa 4 (.t 7)), g 46 44 true (.ld none (.t 45)), g 47 44 true (.mv (.t 1)), g 48 44 true (.bn .eql 0 (.t 46) (.t 47)), o 49 (.pick (.t 44) (.t 48) (.k (.bool false))), o 50 (.mv (.t 49)), g 51 50 true (.fa 4 (.t 8)),
  g 52 50 true (.ld none (.t 51)), g 53 50 true (.mv (.t 1)), g 54 50 true (.bn .eql 0 (.t 52) (.t 53)), o 55 (.pick (.t 50) (.t 54) (.k (.bool false))), o 6 (.mv (.t 55)), .ret], 56, [.tmp 6]⟩
theorem c54 : chkF Tryz.prog 54 p54 = true := by decide +kernel
/- paling/names.all[paling/api.Static] -/
def p55 : PFn := ⟨[o 4 (.mv (.k (.bool false))), o 7 (.mv (.t 0)), o 8 (.len false (.t 7)), o 9 (.mv (.k (i 0))), .block 0 [.loop [o 10 (.bn .lss 0 (.t 9) (.t 8)), .cond (.t 10) [] [.exit 0], .block 1 [o 11 (.mv (.t 9)),
  o 12 (.ia 4 (.t 7) (.t 9)), o 13 (.ld (some 4) (.t 12)), o 6 (.al 0 (.agg [(i 0), (i 0), (i 0), (.int .u64 0)])), o 5 (.mv (.t 11)), .stf 4 6 (.t 13), o 14 (.mv (.t 1)), o 15 (.mv (.t 5)), o 16 (.ld (some 4) (.t 6)),
  o 17 (.callv 4 (.t 14) [(.t 15), (.t 16)]), o 18 (.un .not (.t 17)), .cond (.t 18) [o 4 (.mv (.k (.bool false))), .ret] []], o 19 (.bn .add 0 (.t 9) (.k (i 1))), o 9 (.mv (.t 19))]], o 4 (.mv (.k (.bool true))), .ret], 20, [.tmp 4]⟩
theorem c55 : chkF Tryz.prog 55 p55 = true := by decide +kernel
/- (paling/names.judge).static -/
def p56 : PFn := ⟨[o 3 (.bxd 0 (.t 0)), o 5 (.bxd 0 (.t 2)), o 6 (.mv (.k (.bool false))), o 9 (.fa 0 (.t 3)), o 10 (.fa 3 (.t 9)), o 11 (.ld none (.t 10)), o 12 (.fa 1 (.t 5)), o 13 (.ld none (.t 12)), o 14 (.call 7 117 [(.t 11), (.t 13)]),
  o 15 (.un .not (.t 14)), o 16 (.mv (.t 15)), g 17 16 false (.fa 0 (.t 3)), g 18 16 false (.fa 1 (.t 17)), g 19 16 false (.ld none (.t 18)), g 20 16 false (.fa 2 (.t 5)), g 21 16 false (.ld none (.t 20)), g 22 16 false (.call 7 116 [(.t 19),
  (.t 21)]), g 23 16 false (.un .not (.t 22)), o 24 (.pick (.t 16) (.k (.bool true)) (.t 23)), .cond (.t 24) [o 6 (.mv (.k (.bool false))), .ret] [], .draw 2 [0, 1, 2, 3, 4, 5, 6, 7, 8, 9, 10, 11, 12, 13, 14, 15, 16, 17] [(33, 33), (35, 35),
  (37, 37)] [o 25 (.fa 0 (.t 3)), o 26 (.fa 1 (.t 25)), o 27 (.ld none (.t 26)), o 28 (.fa 2 (.t 5)), o 29 (.ld none (.t 28)), o 30 (.ia 7 (.t 27) (.t 29)), o 31 (.ld (some 7) (.t 30)), o 32 (.fa 0 (.t 3)), o 33 (.fa 3 (.t 32)),
  o 34 (.ld none (.t 33)), o 35 (.fa 1 (.t 5)), o 36 (.ld none (.t 35)), o 37 (.ia 6 (.t 34) (.t 36)), o 38 (.ld (some 6) (.t 37)), o 7 (.al 1 (.agg [(i 0), (i 0), (i 0), (i 0), (i 0), (.str []), nl])), o 8 (.al 2 (.agg [(i 0), (i 0), (i 0),
  (i 0), (i 0), nl])), .stf 7 7 (.t 31), .stf 6 8 (.t 38)], o 39 (.fa 1 (.t 7)), o 40 (.ld none (.t 39)), o 41 (.fa 0 (.t 8)), o 42 (.ld none (.t 41)), o 43 (.bn .eql 0 (.t 40) (.t 42)), o 44 (.mv (.t 43)), g 45 44 true (.ld (some 7) (.t 7)),
  g 46 44 true (.fa 1 (.t 8)), g 47 44 true (.ld none (.t 46)), g 48 44 true (.call 7 118 [(.t 45), (.t 47)]), o 49 (.pick (.t 44) (.t 48) (.k (.bool false))), o 6 (.mv (.t 49)), .ret], 50, [.tmp 6]⟩
theorem c56 : chkF Tryz.prog 56 p56 = true := by decide +kernel
/- paling/names.all[paling/api.Flood] -/
def p57 : PFn := ⟨[o 4 (.mv (.k (.bool false))), o 7 (.mv (.t 0)), o 8 (.len false (.t 7)), o 9 (.mv (.k (i 0))), .block 0 [.loop [o 10 (.bn .lss 0 (.t 9) (.t 8)), .cond (.t 10) [] [.exit 0], .block 1 [o 11 (.mv (.t 9)),
  o 12 (.ia 4 (.t 7) (.t 9)), o 13 (.ld (some 4) (.t 12)), o 6 (.al 0 (.agg [(i 0), (i 0), (i 0), nl])), o 5 (.mv (.t 11)), .stf 4 6 (.t 13), o 14 (.mv (.t 1)), o 15 (.mv (.t 5)), o 16 (.ld (some 4) (.t 6)), o 17 (.callv 4 (.t 14) [(.t 15),
  (.t 16)]), o 18 (.un .not (.t 17)), .cond (.t 18) [o 4 (.mv (.k (.bool false))), .ret] []], o 19 (.bn .add 0 (.t 9) (.k (i 1))), o 9 (.mv (.t 19))]], o 4 (.mv (.k (.bool true))), .ret], 20, [.tmp 4]⟩
theorem c57 : chkF Tryz.prog 57 p57 = true := by decide +kernel
/- paling/names.Right$1 -/
def p58 : PFn := ⟨[o 4 (.bxd 0 (.t 1)), o 5 (.mv (.k (.bool false))), o 6 (.fa 0 (.t 2)), o 7 (.ld none (.t 6)), o 8 (.fa 1 (.t 4)), o 9 (.ld none (.t 8)), o 10 (.call 7 59 [(.t 7), (.t 9)]), o 11 (.mv (.t 10)), g 12 11 true (.fa 3 (.t 4)),
  g 13 11 true (.ld none (.t 12)), g 14 11 true (.len false (.t 13)), g 15 11 true (.bn .leq 0 (.t 14) (.k (i 16))), o 16 (.pick (.t 11) (.t 15) (.k (.bool false))), o 5 (.mv (.t 16)), .ret], 17, [.tmp 5]⟩
theorem c58 : chkF Tryz.prog 58 p58 = true := by decide +kernel
/- paling/names.place[paling/api.Device] -/
def p59 : PFn := ⟨[o 4 (.mv (.k (.bool false))), o 5 (.mv (.t 1)), o 6 (.bn .geq 0 (.t 5) (.k (i 0))), o 7 (.mv (.t 6)), g 8 7 true (.mv (.t 1)), g 9 7 true (.mv (.t 0)), g 10 7 true (.len false (.t 9)),
  g 11 7 true (.bn .lss 0 (.t 8) (.t 10)), o 12 (.pick (.t 7) (.t 11) (.k (.bool false))), o 4 (.mv (.t 12)), .ret], 13, [.tmp 4]⟩
theorem c59 : chkF Tryz.prog 59 p59 = true := by decide +kernel
/- paling/names.all[paling/api.Vrf] -/
def p60 : PFn := ⟨[o 4 (.mv (.k (.bool false))), o 7 (.mv (.t 0)), o 8 (.len false (.t 7)), o 9 (.mv (.k (i 0))), .block 0 [.loop [o 10 (.bn .lss 0 (.t 9) (.t 8)), .cond (.t 10) [] [.exit 0], .block 1 [o 11 (.mv (.t 9)),
  o 12 (.ia 5 (.t 7) (.t 9)), o 13 (.ld (some 5) (.t 12)), o 6 (.al 0 (.agg [(i 0), (i 0), (.str []), nl, nl])), o 5 (.mv (.t 11)), .stf 5 6 (.t 13), o 14 (.mv (.t 1)), o 15 (.mv (.t 5)), o 16 (.ld (some 5) (.t 6)),
  o 17 (.callv 4 (.t 14) [(.t 15), (.t 16)]), o 18 (.un .not (.t 17)), .cond (.t 18) [o 4 (.mv (.k (.bool false))), .ret] []], o 19 (.bn .add 0 (.t 9) (.k (i 1))), o 9 (.mv (.t 19))]], o 4 (.mv (.k (.bool true))), .ret], 20, [.tmp 4]⟩
theorem c60 : chkF Tryz.prog 60 p60 = true := by decide +kernel
/- paling/names.Right$2 -/
def p61 : PFn := ⟨[o 4 (.bxd 0 (.t 1)), o 5 (.mv (.k (.bool false))), o 6 (.fa 0 (.t 2)), o 7 (.ld none (.t 6)), o 8 (.fa 1 (.t 4)), o 9 (.ld none (.t 8)), o 10 (.call 7 59 [(.t 7), (.t 9)]), o 11 (.mv (.t 10)), g 12 11 true (.fa 3 (.t 4)),
  g 13 11 true (.ld none (.t 12)), g 14 11 true (.call 7 62 [(.t 13), (.k (i 65535))]), o 15 (.pick (.t 11) (.t 14) (.k (.bool false))), o 16 (.mv (.t 15)), g 17 16 true (.fa 4 (.t 4)), g 18 16 true (.ld none (.t 17)),
  g 19 16 true (.call 7 62 [(.t 18), (.k (i 65535))]), o 20 (.pick (.t 16) (.t 19) (.k (.bool false))), o 5 (.mv (.t 20)), .ret], 21, [.tmp 5]⟩
theorem c61 : chkF Tryz.prog 61 p61 = true := by decide +kernel
/- paling/names.rising -/
def p62 : PFn := ⟨[o 4 (.mv (.k (.bool false))), o 5 (.mv (.t 0)), o 6 (.len false (.t 5)), o 7 (.bn .eql 0 (.t 6) (.k (i 0))), o 8 (.mv (.t 7)), g 9 8 false (.mv (.t 0)), g 10 8 false (.mv (.t 1)), g 11 8 false (.call 7 119 [(.t 9),
  (.k (i 1)), (.t 10)]), o 12 (.pick (.t 8) (.k (.bool true)) (.t 11)), o 4 (.mv (.t 12)), .ret], 13, [.tmp 4]⟩
theorem c62 : chkF Tryz.prog 62 p62 = true := by decide +kernel
/- paling/names.all[paling/api.Irb] -/
def p63 : PFn := ⟨[o 4 (.mv (.k (.bool false))), o 7 (.mv (.t 0)), o 8 (.len false (.t 7)), o 9 (.mv (.k (i 0))), .block 0 [.loop [o 10 (.bn .lss 0 (.t 9) (.t 8)), .cond (.t 10) [] [.exit 0], .block 1 [o 11 (.mv (.t 9)),
  o 12 (.ia 5 (.t 7) (.t 9)), o 13 (.ld (some 5) (.t 12)), o 6 (.al 0 (.agg [(i 0), (i 0), (i 0), (.int .u32 0), (i 0)])), o 5 (.mv (.t 11)), .stf 5 6 (.t 13), o 14 (.mv (.t 1)), o 15 (.mv (.t 5)), o 16 (.ld (some 5) (.t 6)),
  o 17 (.callv 4 (.t 14) [(.t 15), (.t 16)]), o 18 (.un .not (.t 17)), .cond (.t 18) [o 4 (.mv (.k (.bool false))), .ret] []], o 19 (.bn .add 0 (.t 9) (.k (i 1))), o 9 (.mv (.t 19))]], o 4 (.mv (.k (.bool true))), .ret], 20, [.tmp 4]⟩
theorem c63 : chkF Tryz.prog 63 p63 = true := by decide +kernel
/- (paling/names.judge).irb -/
def p64 : PFn := ⟨[o 3 (.bxd 0 (.t 0)), o 5 (.bxd 0 (.t 2)), o 6 (.mv (.k (.bool false))), .draw 0 [0, 1, 2, 3, 4, 5, 6, 7, 8, 9, 10, 11, 12, 13, 14, 15, 16, 17, 18, 19, 20, 21, 22, 23, 24, 25, 26, 27, 28, 29, 30, 31, 32, 33, 34, 35, 36, 37,
  38, 39, 40, 41, 42, 43, 44, 45, 46, 47, 48, 49, 50, 51, 52, 53, 54, 55, 56, 57] [] [o 7 (.fa 0 (.t 3)), o 8 (.fa 3 (.t 7)), o 9 (.ld none (.t 8)), o 10 (.fa 1 (.t 5)), o 11 (.ld none (.t 10)), o 12 (.call 0 117 [(.t 9), (.t 11)]),
  o 13 (.mv (.t 12)), g 14 13 true (.fa 0 (.t 3)), g 15 13 true (.fa 6 (.t 14)), g 16 13 true (.ld none (.t 15)), g 17 13 true (.fa 2 (.t 5)), g 18 13 true (.ld none (.t 17)), g 19 13 true (.call 0 120 [(.t 16), (.t 18)]),
  o 20 (.pick (.t 13) (.t 19) (.k (.bool false))), o 21 (.mv (.t 20)), g 22 21 true (.fa 0 (.t 3)), g 23 21 true (.fa 3 (.t 22)), g 24 21 true (.ld none (.t 23)), g 25 21 true (.fa 1 (.t 5)), g 26 21 true (.ld none (.t 25)),
  g 27 21 true (.ia 6 (.t 24) (.t 26)), g 28 21 true (.fa 0 (.t 27)), g 29 21 true (.ld none (.t 28)), g 30 21 true (.fa 0 (.t 3)), g 31 21 true (.fa 6 (.t 30)), g 32 21 true (.ld none (.t 31)), g 33 21 true (.fa 2 (.t 5)),
  g 34 21 true (.ld none (.t 33)), g 35 21 true (.ia 5 (.t 32) (.t 34)), g 36 21 true (.fa 1 (.t 35)), g 37 21 true (.ld none (.t 36)), g 38 21 true (.bn .eql 0 (.t 29) (.t 37)), o 39 (.pick (.t 21) (.t 38) (.k (.bool false))),
  o 40 (.mv (.t 39)), g 41 40 true (.fa 0 (.t 3)), g 42 40 true (.fa 3 (.t 41)), g 43 40 true (.ld none (.t 42)), g 44 40 true (.fa 1 (.t 5)), g 45 40 true (.ld none (.t 44)), g 46 40 true (.ia 6 (.t 43) (.t 45)), g 47 40 true (.fa 3 (.t 46)),
  g 48 40 true (.ld none (.t 47)), g 49 40 true (.mv (.t 1)), g 50 40 true (.bn .eql 0 (.t 48) (.t 49)), o 51 (.pick (.t 40) (.t 50) (.k (.bool false))), o 52 (.mv (.t 51)), g 53 52 true (.fa 3 (.t 5)), g 54 52 true (.fa 1 (.t 53)),
  g 55 52 true (.ld none (.t 54)), g 56 52 true (.bn .geq 0 (.t 55) (.k (i 1))), o 57 (.pick (.t 52) (.t 56) (.k (.bool false))), o 58 (.mv (.t 57)), g 59 58 true (.fa 3 (.t 5)), g 60 58 true (.fa 1 (.t 59)), g 61 58 true (.ld none (.t 60)),
  g 62 58 true (.bn .leq 0 (.t 61) (.k (i 30))), o 63 (.pick (.t 58) (.t 62) (.k (.bool false))), o 6 (.mv (.t 63))], .ret], 64, [.tmp 6]⟩
theorem c64 : chkF Tryz.prog 64 p64 = true := by decide +kernel
/- math/bits.Mul -/
def p65 : PFn := ⟨[o 4 (.mv (.k (.int .u64 0))), o 5 (.mv (.k (.int .u64 0))), .cond (.k (.bool false)) [o 11 (.mv (.t 0)), o 12 (.cv .u32 (.t 11)), o 13 (.mv (.t 1)), o 14 (.cv .u32 (.t 13)), o 15 (.call 7 121 [(.t 12), (.t 14)]),
  o 10 (.mv (.t 15)), o 16 (.ext (.t 10) 0), o 17 (.ext (.t 10) 1), o 6 (.mv (.t 16)), o 7 (.mv (.t 17)), o 18 (.mv (.t 6)), o 19 (.cv .u64 (.t 18)), o 20 (.mv (.t 7)), o 21 (.cv .u64 (.t 20)), o 4 (.mv (.t 19)), o 5 (.mv (.t 21)), .ret] [],
  o 23 (.mv (.t 0)), o 24 (.mv (.t 1)), o 25 (.call 7 122 [(.t 23), (.t 24)]), o 22 (.mv (.t 25)), o 26 (.ext (.t 22) 0), o 27 (.ext (.t 22) 1), o 8 (.mv (.t 26)), o 9 (.mv (.t 27)), o 28 (.mv (.t 8)), o 29 (.mv (.t 9)), o 4 (.mv (.t 28)),
  o 5 (.mv (.t 29)), .ret], 30, [.tmp 4, .tmp 5]⟩
theorem c65 : chkF Tryz.prog 65 p65 = true := by decide +kernel
/- paling/policy.Right$1 -/
def p66 : PFn := ⟨[o 2 (.mv (.k (.bool false))), o 3 (.mv (.t 0)), o 4 (.call 7 45 [(.t 3)]), o 5 (.un .not (.t 4)), o 2 (.mv (.t 5)), .ret], 6, [.tmp 2]⟩
theorem c66 : chkF Tryz.prog 66 p66 = true := by decide +kernel
/- slices.ContainsFunc[[]string,string] -/
def p67 : PFn := ⟨[o 4 (.mv (.k (.bool false))), o 5 (.mv (.t 0)), o 6 (.mv (.t 1)), o 7 (.call 7 123 [(.t 5), (.t 6)]), o 8 (.bn .geq 0 (.t 7) (.k (i 0))), o 4 (.mv (.t 8)), .ret], 9, [.tmp 4]⟩
theorem c67 : chkF Tryz.prog 67 p67 = true := by decide +kernel
/- slices.IndexFunc[[]paling/api.Tenant,paling/api.Tenant] -/
def p68 : PFn := ⟨[o 4 (.mv (.k (i 0))), o 6 (.mv (.t 0)), o 7 (.len false (.t 6)), o 8 (.mv (.k (i 0))), .block 0 [.loop [o 9 (.bn .lss 0 (.t 8) (.t 7)), .cond (.t 9) [] [.exit 0], .block 1 [o 10 (.mv (.t 8)), o 5 (.mv (.t 10)),
  o 11 (.mv (.t 1)), o 12 (.mv (.t 0)), o 13 (.mv (.t 5)), o 14 (.ia 4 (.t 12) (.t 13)), o 15 (.ld (some 4) (.t 14)), o 16 (.callv 4 (.t 11) [(.t 15)]), .cond (.t 16) [o 17 (.mv (.t 5)), o 4 (.mv (.t 17)), .ret] []],
  o 18 (.bn .add 0 (.t 8) (.k (i 1))), o 8 (.mv (.t 18))]], o 4 (.mv (.k (i (-1)))), .ret], 19, [.tmp 4]⟩
theorem c68 : chkF Tryz.prog 68 p68 = true := by decide +kernel
/- paling/names.Port -/
def p69 : PFn := ⟨[o 3 (.bxd 0 (.t 0)), o 4 (.bxm 0 (.t 1)), o 5 (.bxm 0 (.t 2)), o 6 (.mv (.k (i 0))), o 7 (.ld (some 8) (.t 3)), o 8 (.fa 1 (.t 3)), o 9 (.ld none (.t 8)), o 10 (.mf 125 [] [(.t 4), (.t 5)]), o 11 (.call 7 124 [(.t 7),
  (.t 9), (.t 10)]), o 6 (.mv (.t 11)), .ret], 12, [.tmp 6]⟩
theorem c69 : chkF Tryz.prog 69 p69 = true := by decide +kernel
/- paling/names.Device -/
def p70 : PFn := ⟨[o 2 (.bxd 0 (.t 0)), o 3 (.bxm 0 (.t 1)), o 4 (.mv (.k (i 0))), o 5 (.ld (some 8) (.t 2)), o 6 (.fa 0 (.t 2)), o 7 (.ld none (.t 6)), o 8 (.mf 127 [] [(.t 3)]), o 9 (.call 7 126 [(.t 5), (.t 7), (.t 8)]), o 4 (.mv (.t 9)),
  .ret], 10, [.tmp 4]⟩
theorem c70 : chkF Tryz.prog 70 p70 = true := by decide +kernel
/- (*paling/witness.search).begin -/
def p71 : PFn := ⟨[o 9 (.mv (.t 0)), o 10 (.nc (.t 9)), o 11 (.fa 0 (.t 10)), o 12 (.fa 1 (.t 11)), o 13 (.ld none (.t 12)), o 14 (.mv (.t 1)), o 15 (.ia 7 (.t 13) (.t 14)), o 16 (.ld (some 7) (.t 15)), o 4 (.al 0 (.agg [(i 0), (i 0), (i 0),
  (i 0), (i 0), (.str []), nl])), .stf 7 4 (.t 16), o 17 (.mv (.k (i 0))), .block 0 [.loop [o 18 (.bn .lss 0 (.t 17) (.k (i 2))), .cond (.t 18) [] [.exit 0], .block 1 [o 19 (.mv (.t 17)), o 5 (.mv (.t 19)), .draw 1 [0, 1, 2, 3, 4, 5, 6, 7, 9,
  10, 8, 11, 12] [] [o 20 (.mv (.t 0)), o 21 (.mv (.t 5)), o 22 (.mv (.t 0)), o 23 (.nc (.t 22)), o 24 (.fa 0 (.t 23)), o 25 (.fa 3 (.t 24)), o 26 (.ld none (.t 25)), o 27 (.len false (.t 26)), o 29 (.nc (.t 20)), o 30 (.fa 8 (.t 29)),
  o 28 (.mk 1 (.bool false) (.t 27) (.t 27)), o 31 (.iaa 2 1 (.t 30) (.t 21)), e (.st 1 (.t 31) (.t 28))]], o 32 (.bn .add 0 (.t 17) (.k (i 1))), o 17 (.mv (.t 32))]], o 33 (.fa 2 (.t 4)), o 34 (.ld none (.t 33)), o 35 (.bsl (i 0) 1 [(0,
  (.t 34))]), o 36 (.fa 6 (.t 4)), o 37 (.ld none (.t 36)), o 38 (.app 0 1 (.t 35) (.t 37)), o 39 (.len false (.t 38)), o 40 (.mv (.k (i 0))), .block 2 [.loop [o 41 (.bn .lss 0 (.t 40) (.t 39)), .cond (.t 41) [] [.exit 2],
  .block 3 [o 42 (.ia 1 (.t 38) (.t 40)), o 43 (.ld none (.t 42)), o 7 (.mv (.t 43)), o 44 (.mv (.t 7)), o 45 (.bn .neq 0 (.t 44) (.k (i 0))), .cond (.t 45) [.draw 0 [0, 1, 2, 3, 4, 5, 6, 7, 8] [] [o 46 (.mv (.t 0)), o 47 (.nc (.t 46)),
  o 48 (.fa 0 (.t 47)), o 49 (.ld (some 8) (.t 48)), o 50 (.fa 1 (.t 4)), o 51 (.ld none (.t 50)), o 52 (.mv (.t 7)), o 53 (.call 0 128 [(.t 49), (.t 51), (.t 52)]), o 8 (.mv (.t 53))], o 54 (.mv (.t 0)), o 55 (.mv (.t 8)), o 56 (.bld [(i 0),
  (i 0)] [(0, 1, (.t 55)), (1, 1, (.k (i 0)))]), o 57 (.mv (.t 8)), o 58 (.bld [(i 0), (i 0), (i 0), (.int .u32 0)] [(2, 1, (.t 57))]), o 59 (.call 4 129 [(.t 54), (.t 56), (.t 58), (.k (i (-1)))])] []], o 60 (.bn .add 0 (.t 40) (.k (i 1))),
  o 40 (.mv (.t 60))]]], 61, []⟩
theorem c71 : chkF Tryz.prog 71 p71 = true := by decide +kernel
/- slices.Contains[[]int,int] -/
def p72 : PFn := ⟨[o 4 (.mv (.k (.bool false))), o 5 (.mv (.t 0)), o 6 (.mv (.t 1)), o 7 (.call 7 114 [(.t 5), (.t 6)]), o 8 (.bn .geq 0 (.t 7) (.k (i 0))), o 4 (.mv (.t 8)), .ret], 9, [.tmp 4]⟩
theorem c72 : chkF Tryz.prog 72 p72 = true := by decide +kernel
/- paling/names.Members -/
def p73 : PFn := ⟨[o 2 (.bxd 0 (.t 0)), o 4 (.mv (.k nl)), o 8 (.ld (some 8) (.t 2)), o 9 (.call 7 24 [(.t 8)]), o 10 (.un .not (.t 9)), o 11 (.mv (.t 10)), g 12 11 false (.fa 3 (.t 2)), g 13 11 false (.ld none (.t 12)),
  g 14 11 false (.mv (.t 1)), g 15 11 false (.call 7 117 [(.t 13), (.t 14)]), g 16 11 false (.un .not (.t 15)), o 17 (.pick (.t 11) (.k (.bool true)) (.t 16)), .cond (.t 17) [o 4 (.mv (.k nl)), .ret] [], o 5 (.mv (.k nl)), o 18 (.fa 1 (.t 2)),
  o 19 (.ld none (.t 18)), o 20 (.len false (.t 19)), o 21 (.mv (.k (i 0))), .block 0 [.loop [o 22 (.bn .lss 0 (.t 21) (.t 20)), .cond (.t 22) [] [.exit 0], .block 1 [o 23 (.mv (.t 21)), o 24 (.ia 7 (.t 19) (.t 21)), o 25 (.ld (some 7) (.t 24)),
  o 7 (.al 0 (.agg [(i 0), (i 0), (i 0), (i 0), (i 0), (.str []), nl])), o 6 (.mv (.t 23)), .stf 7 7 (.t 25), .draw 0 [0, 1, 2, 3, 4, 5, 6, 7, 8, 9, 10, 11, 12, 13, 14, 15, 16, 17, 18] [] [o 26 (.fa 1 (.t 7)), o 27 (.ld none (.t 26)),
  o 28 (.fa 3 (.t 2)), o 29 (.ld none (.t 28)), o 30 (.mv (.t 1)), o 31 (.ia 6 (.t 29) (.t 30)), o 32 (.fa 0 (.t 31)), o 33 (.ld none (.t 32)), o 34 (.bn .eql 0 (.t 27) (.t 33)), o 35 (.mv (.t 34)), g 36 35 true (.ld (some 7) (.t 7)),
  g 37 35 true (.fa 3 (.t 2)), g 38 35 true (.ld none (.t 37)), g 39 35 true (.mv (.t 1)), g 40 35 true (.ia 6 (.t 38) (.t 39)), g 41 35 true (.fa 1 (.t 40)), g 42 35 true (.ld none (.t 41)), g 43 35 true (.call 0 118 [(.t 36), (.t 42)]),
  o 44 (.pick (.t 35) (.t 43) (.k (.bool false)))], .cond (.t 44) [o 45 (.mv (.t 5)), o 46 (.mv (.t 6)), o 47 (.bsl (i 0) 1 [(0, (.t 46))]), o 48 (.app 0 1 (.t 45) (.t 47)), o 5 (.mv (.t 48))] []], o 49 (.bn .add 0 (.t 21) (.k (i 1))),
  o 21 (.mv (.t 49))]], o 50 (.mv (.t 5)), o 4 (.mv (.t 50)), .ret], 51, [.tmp 4]⟩
theorem c73 : chkF Tryz.prog 73 p73 = true := by decide +kernel
/- (*paling/witness.search).back -/
def p74 : PFn := ⟨[o 4 (.mv (.k nl)), o 5 (.mv (.k nl)), .block 0 [.loop [o 6 (.mv (.t 1)), o 7 (.bn .geq 0 (.t 6) (.k (i 0))), .cond (.t 7) [] [.exit 0], .block 1 [o 16 (.mv (.t 5)), o 17 (.mv (.t 0)), o 18 (.nc (.t 17)),
  o 19 (.fa 10 (.t 18)), o 20 (.ld none (.t 19)), o 21 (.mv (.t 1)), o 22 (.ia 7 (.t 20) (.t 21)), o 23 (.fa 2 (.t 22)), o 24 (.ld (some 4) (.t 23)), o 25 (.bsl (.agg [(i 0), (i 0), (i 0), (.int .u32 0)]) 1 [(0, (.t 24))]),
  o 26 (.app 0 4 (.t 16) (.t 25)), o 5 (.mv (.t 26))], o 8 (.mv (.t 0)), o 9 (.nc (.t 8)), o 10 (.fa 10 (.t 9)), o 11 (.ld none (.t 10)), o 12 (.mv (.t 1)), o 13 (.ia 7 (.t 11) (.t 12)), o 14 (.fa 6 (.t 13)), o 15 (.ld none (.t 14)),
  o 1 (.mv (.t 15))]], o 27 (.mv (.t 5)), o 28 (.call 4 130 [(.t 27)]), o 29 (.mv (.t 5)), o 4 (.mv (.t 29)), .ret], 30, [.tmp 4]⟩
theorem c74 : chkF Tryz.prog 74 p74 = true := by decide +kernel
/- (*paling/witness.search).extend -/
def p75 : PFn := ⟨[o 9 (.mv (.t 0)), o 10 (.nc (.t 9)), o 11 (.fa 10 (.t 10)), o 12 (.ld none (.t 11)), o 13 (.mv (.t 1)), o 14 (.ia 7 (.t 12) (.t 13)), o 15 (.fa 0 (.t 14)), o 16 (.ld (some 2) (.t 15)), o 4 (.al 0 (.agg [(i 0), (i 0)])),
  .stf 2 4 (.t 16), .draw 0 [0, 1, 2, 3, 4, 5, 6, 7, 8] [] [o 17 (.mv (.t 0)), o 18 (.nc (.t 17)), o 19 (.fa 0 (.t 18)), o 20 (.ld (some 8) (.t 19)), o 21 (.fa 0 (.t 4)), o 22 (.ld none (.t 21)), o 23 (.call 0 131 [(.t 20), (.t 22)]),
  o 24 (.len false (.t 23)), o 25 (.mv (.k (i 0)))], .block 0 [.loop [o 26 (.bn .lss 0 (.t 25) (.t 24)), .cond (.t 26) [] [.exit 0], .block 1 [o 27 (.ia 4 (.t 23) (.t 25)), o 28 (.ld (some 4) (.t 27)), o 6 (.al 0 (.agg [(i 0), (i 0), (i 0),
  (.int .u32 0)])), .stf 4 6 (.t 28), o 29 (.mv (.t 0)), o 30 (.fa 2 (.t 6)), o 31 (.ld none (.t 30)), o 32 (.fa 1 (.t 4)), o 33 (.ld none (.t 32)), o 34 (.bld [(i 0), (i 0)] [(0, 1, (.t 31)), (1, 1, (.t 33))]), o 35 (.ld (some 4) (.t 6)),
  o 36 (.mv (.t 1)), o 37 (.call 4 129 [(.t 29), (.t 34), (.t 35), (.t 36)])], o 38 (.bn .add 0 (.t 25) (.k (i 1))), o 25 (.mv (.t 38))]], o 39 (.fa 1 (.t 4)), o 40 (.ld none (.t 39)), o 41 (.bn .eql 0 (.t 40) (.k (i 0))),
  .cond (.t 41) [.draw 0 [0, 1, 2, 3, 4, 5, 6, 7, 8] [] [o 42 (.mv (.t 0)), o 43 (.nc (.t 42)), o 44 (.fa 0 (.t 43)), o 45 (.ld (some 8) (.t 44)), o 46 (.fa 0 (.t 4)), o 47 (.ld none (.t 46)), o 48 (.call 0 132 [(.t 45), (.t 47)]),
  o 49 (.len false (.t 48)), o 50 (.mv (.k (i 0)))], .block 2 [.loop [o 51 (.bn .lss 0 (.t 50) (.t 49)), .cond (.t 51) [] [.exit 2], .block 3 [o 52 (.ia 3 (.t 48) (.t 50)), o 53 (.ld (some 3) (.t 52)), o 8 (.al 0 (.agg [(i 0), (i 0),
  (.int .u32 0)])), .stf 3 8 (.t 53), o 54 (.mv (.t 0)), o 55 (.fa 1 (.t 8)), o 56 (.ld none (.t 55)), o 57 (.bld [(i 0), (i 0)] [(0, 1, (.t 56)), (1, 1, (.k (i 1)))]), o 58 (.fa 1 (.t 8)), o 59 (.ld none (.t 58)), o 60 (.fa 2 (.t 8)),
  o 61 (.ld none (.t 60)), o 62 (.bld [(i 0), (i 0), (i 0), (.int .u32 0)] [(0, 1, (.k (i 3))), (2, 1, (.t 59)), (3, 1, (.t 61))]), o 63 (.mv (.t 1)), o 64 (.call 4 129 [(.t 54), (.t 57), (.t 62), (.t 63)])],
  o 65 (.bn .add 0 (.t 50) (.k (i 1))), o 50 (.mv (.t 65))]]] []], 66, []⟩
theorem c75 : chkF Tryz.prog 75 p75 = true := by decide +kernel
/- slices.Repeat[[]bool,bool] -/
def p76 : PFn := ⟨[o 4 (.mv (.k nl)), o 9 (.mv (.t 1)), o 10 (.bn .lss 0 (.t 9) (.k (i 0))), .cond (.t 10) [o 11 (.mi 9 (.k (.str [99, 97, 110, 110, 111, 116, 32, 98, 101, 32, 110, 101, 103, 97, 116, 105, 118, 101]))), e (.bad)] [],
  o 13 (.mv (.t 0)), o 14 (.len false (.t 13)), o 15 (.cv .u64 (.t 14)), o 16 (.mv (.t 1)), o 17 (.cv .u64 (.t 16)), o 18 (.call 7 65 [(.t 15), (.t 17)]), o 12 (.mv (.t 18)), o 19 (.ext (.t 12) 0), o 20 (.ext (.t 12) 1), o 5 (.mv (.t 19)),
  o 6 (.mv (.t 20)), o 21 (.mv (.t 5)), o 22 (.bn .gtr 0 (.t 21) (.k (.int .u64 0))), o 23 (.mv (.t 22)), g 24 23 false (.mv (.t 6)), g 25 23 false (.bn .gtr 0 (.t 24) (.k (.int .u64 9223372036854775807))),
  o 26 (.pick (.t 23) (.k (.bool true)) (.t 25)), .cond (.t 26) [o 27 (.mi 9 (.k (.str [116, 104, 101, 32, 114, 101, 115, 117, 108, 116, 32, 111, 102, 32, 40, 108, 101, 110, 40, 120, 41, 32, 42, 32, 99, 111, 117, 110, 116, 41, 32, 111, 118, 101,
  114, 102, 108, 111, 119, 115]))), e (.bad)] [], o 28 (.mv (.t 6)), o 29 (.cv .i64 (.t 28)), o 30 (.mk 0 (.bool false) (.t 29) (.t 29)), o 7 (.mv (.t 30)), o 31 (.mv (.t 7)), o 32 (.mv (.t 0)), o 33 (.cpy 1 (.t 31) (.t 32)), o 8 (.mv (.t 33)),
  .block 0 [.loop [o 34 (.mv (.t 8)), o 35 (.mv (.t 7)), o 36 (.len false (.t 35)), o 37 (.bn .lss 0 (.t 34) (.t 36)), .cond (.t 37) [] [.exit 0], .block 1 [.draw 0 [0, 1, 2, 3, 4, 5, 6, 7, 8, 9] [] [o 38 (.mv (.t 8)), o 39 (.mv (.t 7)),
  o 40 (.mv (.t 8)), o 41 (.sl 1 (.t 39) (some (.t 40)) none none), o 42 (.mv (.t 7)), o 43 (.mv (.t 8)), o 44 (.sl 1 (.t 42) none (some (.t 43)) none), o 45 (.cpy 1 (.t 41) (.t 44)), o 46 (.bn .add 0 (.t 38) (.t 45)), o 8 (.mv (.t 46))]]]],
  o 47 (.mv (.t 7)), o 4 (.mv (.t 47)), .ret], 48, [.tmp 4]⟩
theorem c76 : chkF Tryz.prog 76 p76 = true := by decide +kernel
/- paling/tree.Forward -/
def p77 : PFn := ⟨[o 2 (.bxd 0 (.t 0)), o 4 (.mv (.k nl)), o 5 (.mv (.k (i 0))), o 14 (.ld (some 8) (.t 2)), o 15 (.mv (.t 1)), o 16 (.call 8 133 [(.t 14), (.t 15)]), o 13 (.mv (.t 16)), o 17 (.ext (.t 13) 0), o 18 (.ext (.t 13) 1),
  o 6 (.mv (.t 17)), o 7 (.mv (.t 18)), o 19 (.mv (.t 7)), o 20 (.bn .neq 0 (.t 19) (.k (i 0))), .cond (.t 20) [o 21 (.mv (.t 7)), o 4 (.mv (.k nl)), o 5 (.mv (.t 21)), .ret] [], o 22 (.mv (.t 6)), o 23 (.call 4 134 [(.t 22)]),
  o 8 (.mv (.t 23)), o 24 (.fa 2 (.t 2)), o 25 (.ld none (.t 24)), o 26 (.len false (.t 25)), o 27 (.mk 0 (.bool false) (.t 26) (.t 26)), o 9 (.mv (.t 27)), o 28 (.fa 2 (.t 2)), o 29 (.ld none (.t 28)), o 30 (.len false (.t 29)),
  o 31 (.mv (.k (i 0))), .block 0 [.loop [o 32 (.bn .lss 0 (.t 31) (.t 30)), .cond (.t 32) [] [.exit 0], .block 1 [o 33 (.mv (.t 31)), o 34 (.ia 3 (.t 29) (.t 31)), o 35 (.ld (some 3) (.t 34)), o 11 (.al 0 (.agg [(i 0), (i 0), (i 0)])),
  o 10 (.mv (.t 33)), .stf 3 11 (.t 35), .draw 0 [0, 1, 2, 3, 4, 5, 6, 7, 8, 9, 10, 11] [] [o 36 (.mv (.t 8)), o 37 (.fa 1 (.t 11)), o 38 (.ld none (.t 37)), o 39 (.ia 1 (.t 36) (.t 38)), o 40 (.ld none (.t 39)), o 41 (.mv (.t 8)),
  o 42 (.fa 2 (.t 11)), o 43 (.ld none (.t 42)), o 44 (.ia 1 (.t 41) (.t 43)), o 45 (.ld none (.t 44)), o 46 (.bsl (i 0) 2 [(0, (.t 40)), (1, (.t 45))]), o 12 (.mv (.t 46))], o 47 (.mv (.t 9)), o 48 (.mv (.t 10)), o 49 (.mv (.t 12)),
  o 50 (.call 7 72 [(.t 49), (.k (i 1))]), o 51 (.mv (.t 50)), g 52 51 true (.mv (.t 12)), g 53 51 true (.call 7 72 [(.t 52), (.k (i 2))]), o 54 (.pick (.t 51) (.t 53) (.k (.bool false))), o 55 (.ia 1 (.t 47) (.t 48)),
  e (.st 1 (.t 55) (.t 54))], o 56 (.bn .add 0 (.t 31) (.k (i 1))), o 31 (.mv (.t 56))]], o 57 (.mv (.t 9)), o 4 (.mv (.t 57)), o 5 (.mv (.k (i 0))), .ret], 58, [.tmp 4, .tmp 5]⟩
theorem c77 : chkF Tryz.prog 77 p77 = true := by decide +kernel
/- paling/names.Copy -/
def p78 : PFn := ⟨[o 1 (.bxd 0 (.t 0)), o 2 (.al 0 (.agg [nl, nl, nl, nl, nl, nl, nl, nl])), .draw 1 [0, 1, 3, 4, 6, 7, 9, 10, 12, 13, 15, 16, 18, 19, 21, 22, 25, 2, 5, 8, 11, 14, 17, 20, 23, 24, 26] [] [o 9 (.fa 0 (.t 1)),
  o 10 (.ld none (.t 9)), o 12 (.fa 1 (.t 1)), o 13 (.ld none (.t 12)), o 15 (.fa 2 (.t 1)), o 16 (.ld none (.t 15)), o 18 (.fa 3 (.t 1)), o 19 (.ld none (.t 18)), o 21 (.fa 4 (.t 1)), o 22 (.ld none (.t 21)), o 24 (.fa 5 (.t 1)),
  o 25 (.ld none (.t 24)), o 27 (.fa 6 (.t 1)), o 28 (.ld none (.t 27)), o 30 (.fa 7 (.t 1)), o 31 (.ld none (.t 30)), o 3 (.al 1 (.agg [nl, nl, nl, nl, nl, nl, nl, nl])), o 11 (.call 1 135 [(.t 10)]), o 14 (.call 1 136 [(.t 13)]),
  o 17 (.call 1 137 [(.t 16)]), o 20 (.call 1 138 [(.t 19)]), o 23 (.call 1 139 [(.t 22)]), o 26 (.call 1 140 [(.t 25)]), o 29 (.call 1 141 [(.t 28)]), o 32 (.call 1 142 [(.t 31)]), o 33 (.bld [nl, nl, nl, nl, nl, nl, nl, nl] [(0, 1, (.t 11)),
  (1, 1, (.t 14)), (2, 1, (.t 17)), (3, 1, (.t 20)), (4, 1, (.t 23)), (5, 1, (.t 26)), (6, 1, (.t 29)), (7, 1, (.t 32))]), .stf 8 3 (.t 33)], o 34 (.fa 1 (.t 3)), o 35 (.ld none (.t 34)), o 36 (.len false (.t 35)), o 37 (.mv (.k (i 0))),
  .block 0 [.loop [o 38 (.bn .lss 0 (.t 37) (.t 36)), .cond (.t 38) [] [.exit 0], .block 1 [o 39 (.mv (.t 37)), o 4 (.mv (.t 39)), .draw 0 [0, 1, 2, 3, 4, 5, 6, 7, 8, 9, 10, 11, 12] [] [o 40 (.fa 1 (.t 3)), o 41 (.ld none (.t 40)),
  o 42 (.mv (.t 4)), o 43 (.fa 1 (.t 3)), o 44 (.ld none (.t 43)), o 45 (.mv (.t 4)), o 46 (.ia 7 (.t 44) (.t 45)), o 47 (.fa 6 (.t 46)), o 48 (.ld none (.t 47)), o 49 (.call 0 143 [(.t 48)]), o 50 (.ia 7 (.t 41) (.t 42)), o 51 (.fa 6 (.t 50)),
  e (.st 1 (.t 51) (.t 49))]], o 52 (.bn .add 0 (.t 37) (.k (i 1))), o 37 (.mv (.t 52))]], o 53 (.fa 3 (.t 3)), o 54 (.ld none (.t 53)), o 55 (.len false (.t 54)), o 56 (.mv (.k (i 0))), .block 2 [.loop [o 57 (.bn .lss 0 (.t 56) (.t 55)),
  .cond (.t 57) [] [.exit 2], .block 3 [o 58 (.mv (.t 56)), o 5 (.mv (.t 58)), .draw 0 [0, 1, 2, 3, 4, 5, 6, 7, 8, 9, 10, 11, 12] [] [o 59 (.fa 3 (.t 3)), o 60 (.ld none (.t 59)), o 61 (.mv (.t 5)), o 62 (.fa 3 (.t 3)), o 63 (.ld none (.t 62)),
  o 64 (.mv (.t 5)), o 65 (.ia 6 (.t 63) (.t 64)), o 66 (.fa 5 (.t 65)), o 67 (.ld none (.t 66)), o 68 (.call 0 143 [(.t 67)]), o 69 (.ia 6 (.t 60) (.t 61)), o 70 (.fa 5 (.t 69)), e (.st 1 (.t 70) (.t 68))]],
  o 71 (.bn .add 0 (.t 56) (.k (i 1))), o 56 (.mv (.t 71))]], o 72 (.fa 5 (.t 3)), o 73 (.ld none (.t 72)), o 74 (.len false (.t 73)), o 75 (.mv (.k (i 0))), .block 4 [.loop [o 76 (.bn .lss 0 (.t 75) (.t 74)), .cond (.t 76) [] [.exit 4],
  .block 5 [o 77 (.mv (.t 75)), o 6 (.mv (.t 77)), .draw 0 [0, 1, 2, 3, 4, 5, 6, 7, 8, 9, 10, 11, 12] [] [o 78 (.fa 5 (.t 3)), o 79 (.ld none (.t 78)), o 80 (.mv (.t 6)), o 81 (.fa 5 (.t 3)), o 82 (.ld none (.t 81)), o 83 (.mv (.t 6)),
  o 84 (.ia 4 (.t 82) (.t 83)), o 85 (.fa 3 (.t 84)), o 86 (.ld none (.t 85)), o 87 (.call 0 144 [(.t 86)]), o 88 (.ia 4 (.t 79) (.t 80)), o 89 (.fa 3 (.t 88)), e (.st 1 (.t 89) (.t 87))]], o 90 (.bn .add 0 (.t 75) (.k (i 1))),
  o 75 (.mv (.t 90))]], o 91 (.fa 6 (.t 3)), o 92 (.ld none (.t 91)), o 93 (.len false (.t 92)), o 94 (.mv (.k (i 0))), .block 6 [.loop [o 95 (.bn .lss 0 (.t 94) (.t 93)), .cond (.t 95) [] [.exit 6], .block 7 [o 96 (.mv (.t 94)),
  o 7 (.mv (.t 96)), o 97 (.fa 6 (.t 3)), o 98 (.ld none (.t 97)), o 99 (.mv (.t 7)), o 100 (.ia 5 (.t 98) (.t 99)), o 8 (.mv (.t 100)), .draw 0 [0, 1, 2, 3, 4, 5, 6, 7, 8, 9, 10, 11, 12, 13, 14, 15, 16, 17] [] [o 101 (.mv (.t 8)),
  o 102 (.mv (.t 8)), o 103 (.mv (.t 8)), o 104 (.nc (.t 103)), o 105 (.fa 3 (.t 104)), o 106 (.ld none (.t 105)), o 107 (.call 0 143 [(.t 106)]), o 108 (.mv (.t 8)), o 109 (.nc (.t 108)), o 110 (.fa 4 (.t 109)), o 111 (.ld none (.t 110)),
  o 112 (.call 0 143 [(.t 111)]), o 113 (.nc (.t 101)), o 114 (.fa 3 (.t 113)), e (.st 1 (.t 114) (.t 107)), o 115 (.nc (.t 102)), o 116 (.fa 4 (.t 115)), e (.st 1 (.t 116) (.t 112))]], o 117 (.bn .add 0 (.t 94) (.k (i 1))),
  o 94 (.mv (.t 117))]], o 118 (.ld (some 8) (.t 3)), .stf 8 2 (.t 118), .ret], 119, [.cell (some 8) 2]⟩
theorem c78 : chkF Tryz.prog 78 p78 = true := by decide +kernel
end Go.Proofs.YtjhcempjiokfdaaGreatDoor
