/- The functions' abstract code, each checked against the program's. Part 2. No condition. -/
import Derived.Test.YtjhcempjiokfdaaGreatDoorAbs4
import Derived.Test.YtjhcempjiokfdaaGreatDoorCode1
import Derived.Test.YtjhcempjiokfdaaGreatDoorProg
set_option linter.unusedSimpArgs false
set_option linter.unusedVariables false

-- ---- YtjhcempjiokfdaaGreatDoorCode2
namespace Go.Proofs.YtjhcempjiokfdaaGreatDoor
open Go.Proofs.Abs
set_option maxRecDepth 100000
/- (*paling/sim.Sim).inject -/
def p79 : PFn := ⟨[o 9 (.mv (.t 1)), o 10 (.bn .lss 0 (.t 9) (.k (i 0))), o 11 (.mv (.t 10)), g 12 11 false (.mv (.t 1)), g 13 11 false (.mv (.t 0)), g 14 11 false (.nc (.t 13)), g 15 11 false (.fa 0 (.t 14)), g 16 11 false (.fa 1 (.t 15)),
  g 17 11 false (.ld none (.t 16)), g 18 11 false (.len false (.t 17)), g 19 11 false (.bn .geq 0 (.t 12) (.t 18)), o 20 (.pick (.t 11) (.k (.bool true)) (.t 19)), o 21 (.mv (.t 20)), g 22 21 false (.mv (.t 0)), g 23 21 false (.nc (.t 22)),
  g 24 21 false (.fa 0 (.t 23)), g 25 21 false (.fa 1 (.t 24)), g 26 21 false (.ld none (.t 25)), g 27 21 false (.mv (.t 1)), g 28 21 false (.ia 7 (.t 26) (.t 27)), g 29 21 false (.fa 4 (.t 28)), g 30 21 false (.ld none (.t 29)),
  g 31 21 false (.bn .geq 0 (.t 30) (.k (i 0))), o 32 (.pick (.t 21) (.k (.bool true)) (.t 31)), .cond (.t 32) [.ret] [], o 33 (.mv (.t 0)), o 34 (.nc (.t 33)), o 35 (.fa 12 (.t 34)), o 36 (.ld none (.t 35)),
  o 37 (.bn .add 0 (.t 36) (.k (i 1))), o 38 (.nc (.t 33)), o 39 (.fa 12 (.t 38)), e (.st 1 (.t 39) (.t 37)), o 41 (.mv (.t 0)), o 42 (.nc (.t 41)), o 43 (.fa 0 (.t 42)), o 44 (.ld (some 8) (.t 43)), o 45 (.mv (.t 1)), o 46 (.mv (.t 2)),
  o 47 (.call 7 145 [(.t 44), (.t 45), (.t 46)]), o 40 (.mv (.t 47)), o 48 (.ext (.t 40) 0), o 49 (.ext (.t 40) 1), o 50 (.ext (.t 40) 2), o 7 (.al 0 (.agg [(.int .u64 0), (.int .u64 0), (i 0), nl])), o 6 (.mv (.t 48)), .stf 4 7 (.t 49),
  o 8 (.mv (.t 50)), .draw 0 [0, 1, 2, 3, 4, 5, 6, 7, 8, 9, 10] [] [o 51 (.mv (.t 0)), o 52 (.mv (.t 6)), o 53 (.mv (.t 1)), o 54 (.mv (.t 0)), o 55 (.nc (.t 54)), o 56 (.fa 12 (.t 55)), o 57 (.ld none (.t 56)), o 58 (.ld (some 4) (.t 7)),
  o 59 (.bld [(i 0), (i 0), (i 0), (.int .u64 0), (.int .u64 0), (i 0), nl] [(0, 1, (.t 53)), (2, 1, (.t 57)), (3, 4, (.t 58))]), o 60 (.mv (.t 8)), o 61 (.call 4 146 [(.t 51), (.t 52), (.t 59), (.t 60)])]], 62, []⟩
theorem c79 : chkF Tryz.prog 79 p79 = true := by decide +kernel
/- (*paling/sim.Sim).pick -/
def p80 : PFn := ⟨[o 6 (.mv (.k nl)), o 16 (.mv (.t 0)), o 17 (.mv (.t 1)), o 18 (.mv (.t 2)), o 19 (.call 4 81 [(.t 16), (.t 17), (.t 18)]), o 15 (.mv (.t 19)), o 20 (.ext (.t 15) 0), o 21 (.ext (.t 15) 1), o 7 (.al 0 (.agg [(i 0), (i 0),
  (i 0), (.int .u64 0), (.int .u64 0), (i 0), nl])), .stf 7 7 (.t 20), o 8 (.mv (.t 21)), o 22 (.mv (.t 8)), o 23 (.un .not (.t 22)), .cond (.t 23) [o 6 (.mv (.k nl)), .ret] [], .draw 0 [0, 1, 2, 3, 4, 5, 6, 7, 8, 9, 10, 11, 12, 13, 14, 15, 16,
  17, 18, 19, 20, 21, 22, 23, 24, 25, 26, 27, 28, 29, 30, 31, 32, 33] [(32, 27), (32, 40), (32, 43), (32, 7), (32, 49)] [o 25 (.mv (.t 0)), o 26 (.nc (.t 25)), o 27 (.fa 0 (.t 26)), o 28 (.ld (some 8) (.t 27)), o 29 (.mv (.t 0)),
  o 30 (.nc (.t 29)), o 31 (.fa 8 (.t 30)), o 32 (.ld none (.t 31)), o 33 (.mv (.t 0)), o 34 (.nc (.t 33)), o 35 (.fa 0 (.t 34)), o 36 (.ld (some 8) (.t 35)), o 37 (.call 9 148 [(.t 32), (.t 36)]), o 38 (.mv (.t 0)), o 39 (.nc (.t 38)),
  o 40 (.fa 9 (.t 39)), o 41 (.ld none (.t 40)), o 42 (.mv (.t 1)), o 43 (.ia 1 (.t 41) (.t 42)), o 44 (.ld none (.t 43)), o 45 (.mv (.t 1)), o 46 (.ld (some 7) (.t 7)), o 47 (.mv (.t 0)), o 48 (.nc (.t 47)), o 49 (.fa 11 (.t 48)),
  o 50 (.ld none (.t 49)), o 51 (.call 7 147 [(.t 28), (.t 37), (.t 44), (.t 45), (.t 46), (.t 50)]), o 24 (.mv (.t 51)), o 52 (.ext (.t 24) 0), o 53 (.ext (.t 24) 1), o 54 (.ext (.t 24) 2), o 9 (.mv (.t 52)), o 10 (.mv (.t 53)),
  o 11 (.mv (.t 54))], o 55 (.mv (.t 11)), o 56 (.bn .neq 0 (.t 55) (.k (i 2))), .cond (.t 56) [o 57 (.mv (.t 0)), o 58 (.nc (.t 57)), o 59 (.fa 9 (.t 58)), o 60 (.ld none (.t 59)), o 61 (.mv (.t 1)), o 62 (.mv (.t 9)),
  o 63 (.ia 1 (.t 60) (.t 61)), e (.st 1 (.t 63) (.t 62))] [], o 64 (.mv (.t 11)), o 65 (.bn .neq 0 (.t 64) (.k (i 0))), .cond (.t 65) [o 66 (.mv (.t 0)), o 67 (.mv (.t 11)), o 68 (.call 4 149 [(.t 66), (.t 67)])] [], o 12 (.mv (.k nl)),
  o 69 (.mv (.t 10)), o 70 (.len false (.t 69)), o 71 (.mv (.k (i 0))), .block 0 [.loop [o 72 (.bn .lss 0 (.t 71) (.t 70)), .cond (.t 72) [] [.exit 0], .block 1 [o 73 (.ia 9 (.t 69) (.t 71)), o 74 (.ld (some 9) (.t 73)),
  o 14 (.al 0 (.agg [(i 0), (i 0), (i 0), nl, (.int .u64 0), (.int .u64 0), (i 0), nl, (i 0)])), .stf 9 14 (.t 74), o 75 (.mv (.t 12)), o 76 (.mv (.t 0)), o 77 (.ld (some 9) (.t 14)), o 78 (.fa 2 (.t 7)), o 79 (.ld none (.t 78)),
  o 80 (.call 4 150 [(.t 76), (.t 77), (.t 79)]), o 81 (.app 0 3 (.t 75) (.t 80)), o 12 (.mv (.t 81))], o 82 (.bn .add 0 (.t 71) (.k (i 1))), o 71 (.mv (.t 82))]], o 83 (.mv (.t 12)), o 6 (.mv (.t 83)), .ret], 84, [.tmp 6]⟩
theorem c80 : chkF Tryz.prog 80 p80 = true := by decide +kernel
/- (*paling/sim.Sim).take -/
def p81 : PFn := ⟨[o 6 (.al 0 (.agg [(i 0), (i 0), (i 0), (.int .u64 0), (.int .u64 0), (i 0), nl])), o 7 (.mv (.k (.bool false))), o 11 (.mv (.t 0)), o 12 (.mv (.t 1)), o 13 (.call 4 84 [(.t 11), (.t 12)]), o 14 (.un .not (.t 13)),
  .cond (.t 14) [o 15 (.bld [(i 0), (i 0), (i 0), (.int .u64 0), (.int .u64 0), (i 0), nl] []), e (.st 7 (.t 6) (.t 15)), o 7 (.mv (.k (.bool false))), .ret] [], o 17 (.mv (.t 0)), o 18 (.nc (.t 17)), o 19 (.fa 10 (.t 18)),
  o 20 (.ld none (.t 19)), o 21 (.mv (.t 1)), o 22 (.ia 1 (.t 20) (.t 21)), o 23 (.ld none (.t 22)), o 24 (.mv (.t 2)), o 25 (.call 4 85 [(.t 23), (.t 24)]), o 16 (.mv (.t 25)), o 26 (.ext (.t 16) 0), o 27 (.ext (.t 16) 1),
  o 28 (.ext (.t 16) 2), o 8 (.al 0 (.agg [(i 0), (i 0), (i 0), (.int .u64 0), (.int .u64 0), (i 0), nl])), .stf 7 8 (.t 26), o 9 (.mv (.t 27)), o 10 (.mv (.t 28)), o 29 (.mv (.t 0)), o 30 (.nc (.t 29)), o 31 (.fa 10 (.t 30)),
  o 32 (.ld none (.t 31)), o 33 (.mv (.t 1)), o 34 (.mv (.t 9)), o 35 (.ia 1 (.t 32) (.t 33)), e (.st 1 (.t 35) (.t 34)), o 36 (.ld (some 7) (.t 8)), o 37 (.mv (.t 10)), e (.st 7 (.t 6) (.t 36)), o 7 (.mv (.t 37)), .ret], 38, [.cell (some 7) 6,
  .tmp 7]⟩
theorem c81 : chkF Tryz.prog 81 p81 = true := by decide +kernel
/- (*paling/sim.Sim).tick -/
def p82 : PFn := ⟨[o 4 (.mv (.t 0)), o 5 (.mv (.t 0)), o 6 (.nc (.t 5)), o 7 (.fa 11 (.t 6)), o 8 (.ld none (.t 7)), o 9 (.bn .add 0 (.t 8) (.k (i 1))), o 10 (.mn [(.t 9), (.k (i 1099511627776))]), o 11 (.nc (.t 4)), o 12 (.fa 11 (.t 11)),
  e (.st 1 (.t 12) (.t 10)), o 13 (.mv (.t 0)), o 14 (.nc (.t 13)), o 15 (.fa 9 (.t 14)), o 16 (.ld none (.t 15)), o 17 (.len false (.t 16)), o 18 (.mv (.k (i 0))), .block 0 [.loop [o 19 (.bn .lss 0 (.t 18) (.t 17)), .cond (.t 19) [] [.exit 0],
  .block 1 [o 20 (.mv (.t 18)), o 21 (.ia 1 (.t 16) (.t 18)), o 22 (.ld none (.t 21)), o 2 (.mv (.t 20)), o 3 (.mv (.t 22)), .draw 0 [0, 1, 2, 3, 4, 5, 6, 7, 8, 9, 10, 11, 12] [] [o 23 (.mv (.t 0)), o 24 (.nc (.t 23)), o 25 (.fa 9 (.t 24)),
  o 26 (.ld none (.t 25)), o 27 (.mv (.t 2)), o 28 (.mv (.t 3)), o 29 (.mv (.t 0)), o 30 (.nc (.t 29)), o 31 (.fa 11 (.t 30)), o 32 (.ld none (.t 31)), o 33 (.call 0 151 [(.t 28), (.t 32)]), o 34 (.ia 1 (.t 26) (.t 27)),
  e (.st 1 (.t 34) (.t 33))]], o 35 (.bn .add 0 (.t 18) (.k (i 1))), o 18 (.mv (.t 35))]]], 36, []⟩
theorem c82 : chkF Tryz.prog 82 p82 = true := by decide +kernel
/- (*paling/sim.Sim).has -/
def p84 : PFn := ⟨[o 4 (.mv (.k (.bool false))), o 5 (.mv (.t 0)), o 6 (.bn .neq 2 (.t 5) (.k .nilp)), o 7 (.mv (.t 6)), g 8 7 true (.mv (.t 1)), g 9 7 true (.bn .geq 0 (.t 8) (.k (i 0))), o 10 (.pick (.t 7) (.t 9) (.k (.bool false))),
  o 11 (.mv (.t 10)), g 12 11 true (.mv (.t 1)), g 13 11 true (.mv (.t 0)), g 14 11 true (.nc (.t 13)), g 15 11 true (.fa 10 (.t 14)), g 16 11 true (.ld none (.t 15)), g 17 11 true (.len false (.t 16)), g 18 11 true (.bn .lss 0 (.t 12) (.t 17)),
  o 19 (.pick (.t 11) (.t 18) (.k (.bool false))), o 4 (.mv (.t 19)), .ret], 20, [.tmp 4]⟩
theorem c84 : chkF Tryz.prog 84 p84 = true := by decide +kernel
/- paling/queue.Take -/
def p85 : PFn := ⟨[o 4 (.al 0 (.agg [(i 0), (i 0), (i 0), (.int .u64 0), (.int .u64 0), (i 0), nl])), o 5 (.mv (.k nl)), o 6 (.mv (.k (.bool false))), o 7 (.mv (.t 1)), o 8 (.bn .lss 0 (.t 7) (.k (i 0))), o 9 (.mv (.t 8)),
  g 10 9 false (.mv (.t 1)), g 11 9 false (.mv (.t 0)), g 12 9 false (.len false (.t 11)), g 13 9 false (.bn .geq 0 (.t 10) (.t 12)), o 14 (.pick (.t 9) (.k (.bool true)) (.t 13)), .cond (.t 14) [o 15 (.bld [(i 0), (i 0), (i 0), (.int .u64 0),
  (.int .u64 0), (i 0), nl] []), o 16 (.mv (.t 0)), o 17 (.call 7 152 [(.t 16)]), e (.st 7 (.t 4) (.t 15)), o 5 (.mv (.t 17)), o 6 (.mv (.k (.bool false))), .ret] [], .draw 0 [0, 1, 2, 3, 4, 5, 6, 7, 8, 9, 10, 11, 12, 13, 14, 15, 16,
  17] [] [o 18 (.mv (.t 0)), o 19 (.mv (.t 1)), o 20 (.ia 7 (.t 18) (.t 19)), o 21 (.ld (some 7) (.t 20)), o 22 (.call 0 153 [(.t 21)]), o 23 (.mv (.t 0)), o 24 (.mv (.t 1)), o 25 (.mv (.t 1)),
  o 26 (.sl 7 (.t 23) none (some (.t 24)) (some (.t 25))), o 27 (.mv (.t 0)), o 28 (.mv (.t 1)), o 29 (.bn .add 0 (.t 28) (.k (i 1))), o 30 (.sl 7 (.t 27) (some (.t 29)) none none), o 31 (.app 0 7 (.t 26) (.t 30)), o 32 (.call 0 152 [(.t 31)]),
  e (.st 7 (.t 4) (.t 22)), o 5 (.mv (.t 32)), o 6 (.mv (.k (.bool true)))], .ret], 33, [.cell (some 7) 4, .tmp 5, .tmp 6]⟩
theorem c85 : chkF Tryz.prog 85 p85 = true := by decide +kernel
/- paling/witness.Bytes -/
def p86 : PFn := ⟨[o 2 (.bxd 0 (.t 0)), o 4 (.mv (.k nl)), o 5 (.mv (.k (i 0))), o 13 (.mv (.t 1)), o 14 (.len false (.t 13)), o 15 (.bn .eql 0 (.t 14) (.k (i 0))), o 16 (.mv (.t 15)), g 17 16 false (.ld (some 8) (.t 2)),
  g 18 16 false (.call 7 24 [(.t 17)]), g 19 16 false (.un .not (.t 18)), o 20 (.pick (.t 16) (.k (.bool true)) (.t 19)), .cond (.t 20) [o 4 (.mv (.k nl)), o 5 (.mv (.k (i 2))), .ret] [], o 21 (.bld [(.int .u64 0), (.int .u64 0), (i 0), nl] [(0,
  1, (.k (.int .u64 281474976710655))), (1, 1, (.k (.int .u64 2203318222849))), (2, 1, (.k (i 34997)))]), o 6 (.al 0 (.agg [(.int .u64 0), (.int .u64 0), (i 0), nl])), e (.st 4 (.t 6) (.t 21)), o 22 (.mv (.t 1)), o 23 (.len false (.t 22)),
  o 24 (.mv (.k (i 0))), .block 0 [.loop [o 25 (.bn .lss 0 (.t 24) (.t 23)), .cond (.t 25) [] [.exit 0], .block 1 [o 26 (.mv (.t 24)), o 27 (.ia 4 (.t 22) (.t 24)), o 28 (.ld (some 4) (.t 27)), o 8 (.al 0 (.agg [(i 0), (i 0), (i 0),
  (.int .u32 0)])), o 7 (.mv (.t 26)), .stf 4 8 (.t 28), .draw 0 [0, 1, 2, 3, 4, 5, 6, 7, 8, 9, 10, 11, 12, 13, 14, 15, 16, 17, 18, 19, 20, 21, 22, 23, 24, 25, 26, 27, 28, 29, 30, 31, 32, 33] [] [o 29 (.fa 2 (.t 8)), o 30 (.ld none (.t 29)),
  o 31 (.bn .lss 0 (.t 30) (.k (i 0))), o 32 (.mv (.t 31)), g 33 32 false (.fa 2 (.t 8)), g 34 32 false (.ld none (.t 33)), g 35 32 false (.fa 3 (.t 2)), g 36 32 false (.ld none (.t 35)), g 37 32 false (.len false (.t 36)),
  g 38 32 false (.bn .geq 0 (.t 34) (.t 37)), o 39 (.pick (.t 32) (.k (.bool true)) (.t 38)), o 40 (.mv (.t 39)), g 41 40 false (.fa 0 (.t 8)), g 42 40 false (.ld none (.t 41)), g 43 40 false (.bn .eql 0 (.t 42) (.k (i 3))),
  g 44 40 false (.mv (.t 43)), g 45 44 true (.mv (.t 7)), g 46 44 true (.bn .eql 0 (.t 45) (.k (i 0))), g 47 44 true (.mv (.t 46)), g 48 47 false (.fa 3 (.t 2)), g 49 47 false (.ld none (.t 48)), g 50 47 false (.mv (.t 1)),
  g 51 47 false (.mv (.t 7)), g 52 47 false (.bn .sub 0 (.t 51) (.k (i 1))), g 53 47 false (.ia 4 (.t 50) (.t 52)), g 54 47 false (.fa 2 (.t 53)), g 55 47 false (.ld none (.t 54)), g 56 47 false (.ia 6 (.t 49) (.t 55)),
  g 57 47 false (.fa 3 (.t 56)), g 58 47 false (.ld none (.t 57)), g 59 47 false (.bn .lss 0 (.t 58) (.k (i 0))), g 60 44 true (.pick (.t 47) (.k (.bool true)) (.t 59)), g 61 40 false (.pick (.t 44) (.t 60) (.k (.bool false))),
  o 62 (.pick (.t 40) (.k (.bool true)) (.t 61))], .cond (.t 62) [o 4 (.mv (.k nl)), o 5 (.mv (.k (i 2))), .ret] []], o 63 (.bn .add 0 (.t 24) (.k (i 1))), o 24 (.mv (.t 63))]], o 64 (.mv (.t 1)), o 65 (.call 7 154 [(.t 64), (.f 155)]),
  o 9 (.mv (.t 65)), o 66 (.mv (.t 9)), o 67 (.bn .gtr 0 (.t 66) (.k (i 0))), .cond (.t 67) [o 69 (.mv (.t 1)), o 70 (.mv (.t 9)), o 71 (.ia 4 (.t 69) (.t 70)), o 72 (.fa 3 (.t 71)), o 73 (.ld none (.t 72)), o 74 (.bld [(i 0), (i 0), (i 0),
  (i 0), (.int .u32 0), (.int .u32 0), nl] [(2, 1, (.k (i 64))), (3, 1, (.k (i 17))), (4, 1, (.k (.int .u32 1))), (5, 1, (.t 73))]), o 75 (.call 7 156 [(.t 74)]), o 68 (.mv (.t 75)), o 76 (.ext (.t 68) 0), o 77 (.ext (.t 68) 1),
  o 10 (.mv (.t 76)), o 11 (.mv (.t 77)), .draw 1 [0, 1, 2, 3, 4, 5, 6, 7, 8, 9, 10, 11, 12, 13, 14, 15, 16] [] [o 78 (.fa 7 (.t 2)), o 79 (.ld none (.t 78)), o 80 (.fa 3 (.t 2)), o 81 (.ld none (.t 80)), o 82 (.mv (.t 1)), o 83 (.mv (.t 9)),
  o 84 (.bn .sub 0 (.t 83) (.k (i 1))), o 85 (.ia 4 (.t 82) (.t 84)), o 86 (.fa 2 (.t 85)), o 87 (.ld none (.t 86)), o 88 (.ia 6 (.t 81) (.t 87)), o 89 (.fa 3 (.t 88)), o 90 (.ld none (.t 89)), o 91 (.ia 5 (.t 79) (.t 90)),
  o 92 (.ld (some 5) (.t 91)), o 12 (.al 1 (.agg [(i 0), (i 0), (i 0), (.int .u32 0), (i 0)])), .stf 5 12 (.t 92)], o 93 (.fa 3 (.t 12)), o 94 (.fa 0 (.t 93)), o 95 (.ld none (.t 94)), o 96 (.call 7 157 [(.t 95)]), o 97 (.mv (.t 10)),
  o 98 (.bld [(.int .u64 0), (.int .u64 0), (i 0), nl] [(0, 1, (.t 96)), (1, 1, (.k (.int .u64 2203318222849))), (2, 1, (.k (i 2048))), (3, 1, (.t 97))]), e (.st 4 (.t 6) (.t 98))] [], o 99 (.ld (some 4) (.t 6)), o 100 (.call 7 89 [(.t 99)]),
  o 101 (.ext (.t 100) 0), o 102 (.ext (.t 100) 1), o 4 (.mv (.t 101)), o 5 (.mv (.t 102)), .ret], 103, [.tmp 4, .tmp 5]⟩
theorem c86 : chkF Tryz.prog 86 p86 = true := by decide +kernel
/- paling/ether.Take -/
def p87 : PFn := ⟨[o 2 (.al 0 (.agg [(.int .u64 0), (.int .u64 0), (i 0), nl])), o 3 (.mv (.k (i 0))), .block 0 [o 10 (.mv (.t 0)), o 11 (.len false (.t 10)), o 12 (.bn .lss 0 (.t 11) (.k (i 14))), o 9 (.mv (.t 12)),
  .cond (.t 9) [o 13 (.bld [(.int .u64 0), (.int .u64 0), (i 0), nl] []), e (.st 4 (.t 2) (.t 13)), o 3 (.mv (.k (i 10))), .ret] [o 15 (.mv (.t 0)), o 16 (.len false (.t 15)), o 17 (.bn .gtr 0 (.t 16) (.k (i 1518))), o 14 (.mv (.t 17)),
  .cond (.t 14) [o 18 (.bld [(.int .u64 0), (.int .u64 0), (i 0), nl] []), e (.st 4 (.t 2) (.t 18)), o 3 (.mv (.k (i 14))), .ret] []]], o 20 (.mv (.t 0)), o 21 (.call 7 158 [(.t 20), (.k (i 0))]), o 19 (.mv (.t 21)), o 22 (.ext (.t 19) 0),
  o 23 (.ext (.t 19) 1), o 4 (.mv (.t 22)), o 5 (.mv (.t 23)), o 25 (.mv (.t 0)), o 26 (.call 7 158 [(.t 25), (.k (i 6))]), o 24 (.mv (.t 26)), o 27 (.ext (.t 24) 0), o 28 (.ext (.t 24) 1), o 6 (.mv (.t 27)), o 7 (.mv (.t 28)),
  o 29 (.mv (.t 0)), o 30 (.len false (.t 29)), o 31 (.bn .sub 0 (.t 30) (.k (i 14))), o 32 (.mk 0 (u 0) (.t 31) (.t 31)), o 8 (.mv (.t 32)), o 33 (.mv (.t 8)), o 34 (.mv (.t 0)), o 35 (.sl 1 (.t 34) (some (.k (i 14))) none none),
  o 36 (.cpy 1 (.t 33) (.t 35)), .draw 0 [0, 1, 2, 3, 4, 5, 6, 7, 8, 9, 10, 11, 12, 13, 14, 15] [] [o 37 (.mv (.t 4)), o 38 (.mv (.t 6)), o 39 (.mv (.t 0)), o 40 (.ia 1 (.t 39) (.k (i 12))), o 41 (.ld none (.t 40)), o 42 (.cv .i64 (.t 41)),
  o 43 (.bn .shl 0 (.t 42) (.k (.int .u64 8))), o 44 (.mv (.t 0)), o 45 (.ia 1 (.t 44) (.k (i 13))), o 46 (.ld none (.t 45)), o 47 (.cv .i64 (.t 46)), o 48 (.bn .or 0 (.t 43) (.t 47)), o 49 (.mv (.t 8)), o 50 (.bld [(.int .u64 0), (.int .u64 0),
  (i 0), nl] [(0, 1, (.t 37)), (1, 1, (.t 38)), (2, 1, (.t 48)), (3, 1, (.t 49))]), e (.st 4 (.t 2) (.t 50)), o 3 (.mv (.k (i 0)))], .ret], 51, [.cell (some 4) 2, .tmp 3]⟩
theorem c87 : chkF Tryz.prog 87 p87 = true := by decide +kernel
/- paling/tag.Add -/
def p88 : PFn := ⟨[o 3 (.bxd 0 (.t 0)), o 6 (.al 0 (.agg [(.int .u64 0), (.int .u64 0), (i 0), nl])), o 7 (.mv (.k (i 0))), .block 0 [o 11 (.ld (some 4) (.t 3)), o 12 (.call 7 159 [(.t 11)]), o 13 (.mv (.t 12)), g 14 13 false (.mv (.t 1)),
  g 15 13 false (.bn .lss 0 (.t 14) (.k (i 0))), o 16 (.pick (.t 13) (.k (.bool true)) (.t 15)), o 17 (.mv (.t 16)), g 18 17 false (.mv (.t 1)), g 19 17 false (.bn .gtr 0 (.t 18) (.k (i 4094))), o 20 (.pick (.t 17) (.k (.bool true)) (.t 19)),
  o 21 (.mv (.t 20)), g 22 21 false (.mv (.t 2)), g 23 21 false (.bn .lss 0 (.t 22) (.k (i 0))), o 24 (.pick (.t 21) (.k (.bool true)) (.t 23)), o 25 (.mv (.t 24)), g 26 25 false (.mv (.t 2)), g 27 25 false (.bn .gtr 0 (.t 26) (.k (i 15))),
  o 28 (.pick (.t 25) (.k (.bool true)) (.t 27)), o 10 (.mv (.t 28)), .cond (.t 10) [o 29 (.bld [(.int .u64 0), (.int .u64 0), (i 0), nl] []), e (.st 4 (.t 6) (.t 29)), o 7 (.mv (.k (i 15))), .ret] [o 31 (.fa 2 (.t 3)), o 32 (.ld none (.t 31)),
  o 33 (.bn .lss 0 (.t 32) (.k (i 0))), o 34 (.mv (.t 33)), g 35 34 false (.fa 2 (.t 3)), g 36 34 false (.ld none (.t 35)), g 37 34 false (.bn .gtr 0 (.t 36) (.k (i 65535))), o 38 (.pick (.t 34) (.k (.bool true)) (.t 37)), o 30 (.mv (.t 38)),
  .cond (.t 30) [o 39 (.bld [(.int .u64 0), (.int .u64 0), (i 0), nl] []), e (.st 4 (.t 6) (.t 39)), o 7 (.mv (.k (i 11))), .ret] [o 41 (.fa 3 (.t 3)), o 42 (.ld none (.t 41)), o 43 (.len false (.t 42)), o 44 (.bn .gtr 0 (.t 43) (.k (i 1500))),
  o 40 (.mv (.t 44)), .cond (.t 40) [o 45 (.bld [(.int .u64 0), (.int .u64 0), (i 0), nl] []), e (.st 4 (.t 6) (.t 45)), o 7 (.mv (.k (i 14))), .ret] []]]], o 46 (.mv (.t 2)), o 47 (.bn .shl 0 (.t 46) (.k (.int .u64 12))), o 48 (.mv (.t 1)),
  o 49 (.bn .or 0 (.t 47) (.t 48)), o 8 (.mv (.t 49)), o 50 (.mv (.t 8)), o 51 (.bn .shr 0 (.t 50) (.k (.int .u64 8))), o 52 (.cv .u8 (.t 51)), o 53 (.mv (.t 8)), o 54 (.cv .u8 (.t 53)), o 55 (.fa 2 (.t 3)), o 56 (.ld none (.t 55)),
  o 57 (.bn .shr 0 (.t 56) (.k (.int .u64 8))), o 58 (.cv .u8 (.t 57)), o 59 (.fa 2 (.t 3)), o 60 (.ld none (.t 59)), o 61 (.cv .u8 (.t 60)), o 62 (.bsl (u 0) 4 [(0, (.t 52)), (1, (.t 54)), (2, (.t 58)), (3, (.t 61))]), o 9 (.mv (.t 62)),
  .draw 0 [0, 1, 2, 3, 4, 5, 6, 7, 8, 9, 10] [(63, 63), (65, 65)] [o 63 (.fa 0 (.t 3)), o 64 (.ld none (.t 63)), o 65 (.fa 1 (.t 3)), o 66 (.ld none (.t 65)), o 67 (.mv (.t 9)), o 68 (.fa 3 (.t 3)), o 69 (.ld none (.t 68)),
  o 70 (.app 0 1 (.t 67) (.t 69)), o 71 (.bld [(.int .u64 0), (.int .u64 0), (i 0), nl] [(0, 1, (.t 64)), (1, 1, (.t 66)), (2, 1, (.k (i 33024))), (3, 1, (.t 70))]), e (.st 4 (.t 6) (.t 71)), o 7 (.mv (.k (i 0)))], .ret], 72, [.cell (some 4) 6,
  .tmp 7]⟩
theorem c88 : chkF Tryz.prog 88 p88 = true := by decide +kernel
/- paling/ether.Put -/
def p89 : PFn := ⟨[o 1 (.bxd 0 (.t 0)), o 2 (.mv (.k nl)), o 3 (.mv (.k (i 0))), .block 0 [o 6 (.fa 0 (.t 1)), o 7 (.ld none (.t 6)), o 8 (.bn .gtr 0 (.t 7) (.k (.int .u64 281474976710655))), o 9 (.mv (.t 8)), g 10 9 false (.fa 1 (.t 1)),
  g 11 9 false (.ld none (.t 10)), g 12 9 false (.bn .gtr 0 (.t 11) (.k (.int .u64 281474976710655))), o 13 (.pick (.t 9) (.k (.bool true)) (.t 12)), o 14 (.mv (.t 13)), g 15 14 false (.fa 2 (.t 1)), g 16 14 false (.ld none (.t 15)),
  g 17 14 false (.bn .lss 0 (.t 16) (.k (i 0))), o 18 (.pick (.t 14) (.k (.bool true)) (.t 17)), o 19 (.mv (.t 18)), g 20 19 false (.fa 2 (.t 1)), g 21 19 false (.ld none (.t 20)), g 22 19 false (.bn .gtr 0 (.t 21) (.k (i 65535))),
  o 23 (.pick (.t 19) (.k (.bool true)) (.t 22)), o 5 (.mv (.t 23)), .cond (.t 5) [o 2 (.mv (.k nl)), o 3 (.mv (.k (i 11))), .ret] [o 25 (.fa 3 (.t 1)), o 26 (.ld none (.t 25)), o 27 (.len false (.t 26)), o 28 (.bn .gtr 0 (.t 27) (.k (i 1504))),
  o 24 (.mv (.t 28)), .cond (.t 24) [o 2 (.mv (.k nl)), o 3 (.mv (.k (i 14))), .ret] []]], .draw 0 [0, 1, 2, 3, 4, 5, 6] [(32, 32)] [o 29 (.fa 0 (.t 1)), o 30 (.ld none (.t 29)), o 31 (.call 5 160 [(.k nl), (.t 30)]), o 32 (.fa 1 (.t 1)),
  o 33 (.ld none (.t 32)), o 34 (.call 5 160 [(.t 31), (.t 33)]), o 4 (.mv (.t 34))], .draw 2 [0, 1, 2, 3, 4, 5, 6, 7, 8, 10, 11, 9, 12, 13, 14] [(35, 45)] [o 35 (.mv (.t 4)), o 36 (.fa 2 (.t 1)), o 37 (.ld none (.t 36)),
  o 38 (.bn .shr 0 (.t 37) (.k (.int .u64 8))), o 39 (.cv .u8 (.t 38)), o 40 (.fa 2 (.t 1)), o 41 (.ld none (.t 40)), o 42 (.cv .u8 (.t 41)), o 43 (.bsl (u 0) 2 [(0, (.t 39)), (1, (.t 42))]), o 45 (.fa 3 (.t 1)), o 46 (.ld none (.t 45)),
  o 44 (.app 1 1 (.t 35) (.t 43)), o 47 (.app 2 1 (.t 44) (.t 46)), o 2 (.mv (.t 47)), o 3 (.mv (.k (i 0)))], .ret], 48, [.tmp 2, .tmp 3]⟩
theorem c89 : chkF Tryz.prog 89 p89 = true := by decide +kernel
/- paling/stmt.many -/
def p90 : PFn := ⟨[o 4 (.mv (.k (.bool false))), o 5 (.mv (.k (i 4))), o 6 (.mv (.t 0)), .block 0 [o 8 (.bn .eql 0 (.t 6) (.k (i 0))), o 7 (.mv (.t 8)), .cond (.t 7) [o 4 (.mv (.k (.bool false))), .ret] [o 10 (.bn .eql 0 (.t 6) (.k (i 2))),
  o 9 (.mv (.t 10)), .cond (.t 9) [o 11 (.mv (.t 1)), o 12 (.len false (.t 11)), o 13 (.bn .lss 0 (.t 12) (.k (i 6))), .cond (.t 13) [o 4 (.mv (.k (.bool false))), .ret] [], o 14 (.mv (.t 1)), o 15 (.ia 1 (.t 14) (.k (i 4))),
  o 16 (.ld none (.t 15)), o 17 (.bn .eql 0 (.t 16) (.k (.str [97, 99, 99, 101, 115, 115]))), o 18 (.mv (.t 17)), g 19 18 true (.mv (.t 1)), g 20 18 true (.len false (.t 19)), g 21 18 true (.bn .eql 0 (.t 20) (.k (i 6))),
  o 22 (.pick (.t 18) (.t 21) (.k (.bool false))), o 23 (.mv (.t 22)), g 24 23 false (.mv (.t 1)), g 25 23 false (.ia 1 (.t 24) (.k (i 4))), g 26 23 false (.ld none (.t 25)), g 27 23 false (.bn .eql 0 (.t 26) (.k (.str [116, 114, 117, 110,
  107]))), g 28 23 false (.mv (.t 27)), g 29 28 true (.mv (.t 1)), g 30 28 true (.len false (.t 29)), g 31 28 true (.bn .eql 0 (.t 30) (.k (i 7))), g 32 23 false (.pick (.t 28) (.t 31) (.k (.bool false))),
  o 33 (.pick (.t 23) (.k (.bool true)) (.t 32)), o 34 (.mv (.t 33)), g 35 34 false (.mv (.t 1)), g 36 34 false (.ia 1 (.t 35) (.k (i 4))), g 37 34 false (.ld none (.t 36)), g 38 34 false (.bn .neq 0 (.t 37) (.k (.str [97, 99, 99, 101, 115,
  115]))), g 39 34 false (.mv (.t 38)), g 40 39 true (.mv (.t 1)), g 41 39 true (.ia 1 (.t 40) (.k (i 4))), g 42 39 true (.ld none (.t 41)), g 43 39 true (.bn .neq 0 (.t 42) (.k (.str [116, 114, 117, 110, 107]))),
  g 44 34 false (.pick (.t 39) (.t 43) (.k (.bool false))), g 45 34 false (.mv (.t 44)), g 46 45 true (.mv (.t 1)), g 47 45 true (.len false (.t 46)), g 48 45 true (.bn .leq 0 (.t 47) (.k (i 7))),
  g 49 34 false (.pick (.t 45) (.t 48) (.k (.bool false))), o 50 (.pick (.t 34) (.k (.bool true)) (.t 49)), o 4 (.mv (.t 50)), .ret] [o 52 (.bn .eql 0 (.t 6) (.k (i 3))), o 51 (.mv (.t 52)), .cond (.t 51) [] [o 53 (.bn .eql 0 (.t 6) (.k (i 4))),
  o 51 (.mv (.t 53)), .cond (.t 51) [] [o 54 (.bn .eql 0 (.t 6) (.k (i 8))), o 51 (.mv (.t 54)), .cond (.t 51) [] [o 55 (.bn .eql 0 (.t 6) (.k (i 9))), o 51 (.mv (.t 55))]]],
  .cond (.t 51) [o 5 (.mv (.k (i 5)))] [o 57 (.bn .eql 0 (.t 6) (.k (i 5))), o 56 (.mv (.t 57)), .cond (.t 56) [o 5 (.mv (.k (i 3)))] []]]]], o 58 (.mv (.t 1)), o 59 (.len false (.t 58)), o 60 (.mv (.t 5)), o 61 (.bn .eql 0 (.t 59) (.t 60)),
  o 4 (.mv (.t 61)), .ret], 62, [.tmp 4]⟩
theorem c90 : chkF Tryz.prog 90 p90 = true := by decide +kernel
/- paling/stmt.kind -/
def p91 : PFn := ⟨[o 2 (.mv (.k (i 0))), o 3 (.mv (.t 0)), .block 0 [o 5 (.bn .eql 0 (.t 3) (.k (.str [100, 101, 118, 105, 99, 101]))), o 4 (.mv (.t 5)), .cond (.t 4) [o 2 (.mv (.k (i 1))), .ret] [o 7 (.bn .eql 0 (.t 3) (.k (.str [112, 111,
  114, 116]))), o 6 (.mv (.t 7)), .cond (.t 6) [o 2 (.mv (.k (i 2))), .ret] [o 9 (.bn .eql 0 (.t 3) (.k (.str [108, 105, 110, 107]))), o 8 (.mv (.t 9)), .cond (.t 8) [o 2 (.mv (.k (i 3))), .ret] [o 11 (.bn .eql 0 (.t 3) (.k (.str [115, 116, 97,
  116, 105, 99]))), o 10 (.mv (.t 11)), .cond (.t 10) [o 2 (.mv (.k (i 4))), .ret] [o 13 (.bn .eql 0 (.t 3) (.k (.str [118, 116, 101, 112]))), o 12 (.mv (.t 13)), .cond (.t 12) [o 2 (.mv (.k (i 5))),
  .ret] [o 15 (.bn .eql 0 (.t 3) (.k (.str [118, 110, 105]))), o 14 (.mv (.t 15)), .cond (.t 14) [o 2 (.mv (.k (i 6))), .ret] [o 17 (.bn .eql 0 (.t 3) (.k (.str [102, 108, 111, 111, 100]))), o 16 (.mv (.t 17)),
  .cond (.t 16) [o 2 (.mv (.k (i 7))), .ret] [o 19 (.bn .eql 0 (.t 3) (.k (.str [118, 114, 102]))), o 18 (.mv (.t 19)), .cond (.t 18) [o 2 (.mv (.k (i 8))), .ret] [o 21 (.bn .eql 0 (.t 3) (.k (.str [105, 114, 98]))), o 20 (.mv (.t 21)),
  .cond (.t 20) [o 2 (.mv (.k (i 9))), .ret] []]]]]]]]]], o 2 (.mv (.k (i 0))), .ret], 22, [.tmp 2]⟩
theorem c91 : chkF Tryz.prog 91 p91 = true := by decide +kernel
/- (*paling/stmt.reader).name -/
def p92 : PFn := ⟨[o 2 (.mv (.k (.str []))), o 4 (.mv (.t 0)), o 5 (.call 4 99 [(.t 4)]), o 3 (.mv (.t 5)), o 6 (.mv (.t 0)), o 7 (.mv (.t 3)), o 8 (.call 7 45 [(.t 7)]), o 9 (.un .not (.t 8)), o 10 (.call 4 96 [(.t 6), (.t 9),
  (.k (i 20))]), o 11 (.mv (.t 3)), o 2 (.mv (.t 11)), .ret], 12, [.tmp 2]⟩
theorem c92 : chkF Tryz.prog 92 p92 = true := by decide +kernel
/- (*paling/stmt.reader).vlan -/
def p93 : PFn := ⟨[o 2 (.mv (.k (i 0))), o 3 (.mv (.t 0)), o 4 (.call 4 94 [(.t 3), (.k (i 1)), (.k (i 4094))]), o 2 (.mv (.t 4)), .ret], 5, [.tmp 2]⟩
theorem c93 : chkF Tryz.prog 93 p93 = true := by decide +kernel
/- (*paling/stmt.reader).number -/
def p94 : PFn := ⟨[o 6 (.mv (.k (i 0))), o 10 (.mv (.t 0)), o 11 (.call 4 99 [(.t 10)]), o 12 (.mv (.t 1)), o 13 (.mv (.t 2)), o 14 (.call 7 161 [(.t 11), (.t 12), (.t 13)]), o 9 (.mv (.t 14)), o 15 (.ext (.t 9) 0), o 16 (.ext (.t 9) 1),
  o 7 (.mv (.t 15)), o 8 (.mv (.t 16)), o 17 (.mv (.t 0)), o 18 (.mv (.t 8)), o 19 (.un .not (.t 18)), o 20 (.call 4 96 [(.t 17), (.t 19), (.k (i 21))]), o 21 (.mv (.t 7)), o 6 (.mv (.t 21)), .ret], 22, [.tmp 6]⟩
theorem c94 : chkF Tryz.prog 94 p94 = true := by decide +kernel
/- (*paling/stmt.reader).mac -/
def p95 : PFn := ⟨[o 2 (.mv (.k (.int .u64 0))), o 6 (.mv (.t 0)), o 7 (.call 4 99 [(.t 6)]), o 8 (.call 7 162 [(.t 7)]), o 5 (.mv (.t 8)), o 9 (.ext (.t 5) 0), o 10 (.ext (.t 5) 1), o 3 (.mv (.t 9)), o 4 (.mv (.t 10)), o 11 (.mv (.t 0)),
  o 12 (.mv (.t 4)), o 13 (.un .not (.t 12)), o 14 (.mv (.t 13)), g 15 14 false (.mv (.t 3)), g 16 14 false (.call 7 163 [(.t 15)]), g 17 14 false (.un .not (.t 16)), o 18 (.pick (.t 14) (.k (.bool true)) (.t 17)), o 19 (.call 4 96 [(.t 11),
  (.t 18), (.k (i 21))]), o 20 (.mv (.t 3)), o 2 (.mv (.t 20)), .ret], 21, [.tmp 2]⟩
theorem c95 : chkF Tryz.prog 95 p95 = true := by decide +kernel
/- (*paling/stmt.reader).fail -/
def p96 : PFn := ⟨[o 6 (.mv (.t 1)), o 7 (.mv (.t 6)), g 8 7 true (.mv (.t 0)), g 9 7 true (.nc (.t 8)), g 10 7 true (.fa 2 (.t 9)), g 11 7 true (.ld none (.t 10)), g 12 7 true (.bn .eql 0 (.t 11) (.k (i 0))),
  o 13 (.pick (.t 7) (.t 12) (.k (.bool false))), .cond (.t 13) [o 14 (.mv (.t 0)), o 15 (.mv (.t 2)), o 16 (.nc (.t 14)), o 17 (.fa 2 (.t 16)), e (.st 1 (.t 17) (.t 15))] []], 18, []⟩
theorem c96 : chkF Tryz.prog 96 p96 = true := by decide +kernel
/- (*paling/stmt.reader).port -/
def p97 : PFn := ⟨[o 5 (.mv (.t 0)), o 6 (.call 4 99 [(.t 5)]), o 4 (.mv (.t 6)), o 7 (.mv (.t 4)), .block 0 [o 9 (.bn .eql 0 (.t 7) (.k (.str [97, 99, 99, 101, 115, 115]))), o 8 (.mv (.t 9)), .cond (.t 8) [o 10 (.mv (.t 1)),
  o 11 (.mv (.t 0)), o 12 (.call 4 93 [(.t 11)]), o 13 (.nc (.t 10)), o 14 (.fa 10 (.t 13)), e (.st 1 (.t 14) (.t 12))] [o 16 (.bn .eql 0 (.t 7) (.k (.str [116, 114, 117, 110, 107]))), o 15 (.mv (.t 16)), .cond (.t 15) [.draw 0 [0, 1, 2, 3, 4,
  5, 6, 7, 8, 9, 10] [] [o 17 (.mv (.t 0)), o 18 (.nc (.t 17)), o 19 (.fa 0 (.t 18)), o 20 (.ld none (.t 19)), o 21 (.mv (.t 0)), o 22 (.nc (.t 21)), o 23 (.fa 1 (.t 22)), o 24 (.ld none (.t 23)), o 25 (.ia 1 (.t 20) (.t 24)),
  o 26 (.ld none (.t 25)), o 27 (.bn .eql 0 (.t 26) (.k (.str [45])))], .cond (.t 27) [o 28 (.mv (.t 0)), o 29 (.nc (.t 28)), o 30 (.fa 1 (.t 29)), o 31 (.ld none (.t 30)), o 32 (.bn .add 0 (.t 31) (.k (i 1))), o 33 (.nc (.t 28)),
  o 34 (.fa 1 (.t 33)), e (.st 1 (.t 34) (.t 32))] [o 35 (.mv (.t 1)), o 36 (.mv (.t 0)), o 37 (.call 4 93 [(.t 36)]), o 38 (.nc (.t 35)), o 39 (.fa 10 (.t 38)), e (.st 1 (.t 39) (.t 37))], o 40 (.mv (.t 1)), o 41 (.mv (.t 0)),
  o 42 (.call 4 102 [(.t 41), (.k (i 4094))]), o 43 (.nc (.t 40)), o 44 (.fa 13 (.t 43)), e (.st 1 (.t 44) (.t 42))] []]], o 45 (.mv (.t 0)), o 46 (.mv (.t 1)), o 47 (.nc (.t 46)), o 48 (.ld (some 17) (.t 47)), o 49 (.call 7 164 [(.t 48)]),
  o 50 (.un .not (.t 49)), o 51 (.call 4 96 [(.t 45), (.t 50), (.k (i 21))])], 52, []⟩
theorem c97 : chkF Tryz.prog 97 p97 = true := by decide +kernel
/- paling/addr.Read -/
def p98 : PFn := ⟨[o 2 (.mv (.k (.int .u32 0))), o 3 (.mv (.k (.bool false))), o 4 (.al 0 (.int .u32 0)), e (.st 1 (.t 4) (.k (.int .u32 0))), o 5 (.al 0 (i 0)), e (.st 1 (.t 5) (.k (i 0))), o 9 (.mv (.t 0)), o 10 (.call 7 165 [(.t 9),
  (.k (.str [46]))]), .block 0 [.bad], o 30 (.ld none (.t 5)), o 31 (.bn .neq 0 (.t 30) (.k (i 4))), .cond (.t 31) [o 2 (.mv (.k (.int .u32 0))), o 3 (.mv (.k (.bool false))), .ret] [], o 32 (.ld none (.t 4)), o 2 (.mv (.t 32)),
  o 3 (.mv (.k (.bool true))), .ret], 33, [.tmp 2, .tmp 3]⟩
theorem c98 : chkF Tryz.prog 98 p98 = true := by decide +kernel
/- (*paling/stmt.reader).next -/
def p99 : PFn := ⟨[o 2 (.mv (.k (.str []))), o 3 (.mv (.t 0)), o 4 (.nc (.t 3)), o 5 (.fa 1 (.t 4)), o 6 (.ld none (.t 5)), o 7 (.bn .add 0 (.t 6) (.k (i 1))), o 8 (.nc (.t 3)), o 9 (.fa 1 (.t 8)), e (.st 1 (.t 9) (.t 7)), .draw 0 [0, 1, 2,
  3, 4, 5, 6, 7, 8, 9, 10, 11] [] [o 10 (.mv (.t 0)), o 11 (.nc (.t 10)), o 12 (.fa 0 (.t 11)), o 13 (.ld none (.t 12)), o 14 (.mv (.t 0)), o 15 (.nc (.t 14)), o 16 (.fa 1 (.t 15)), o 17 (.ld none (.t 16)), o 18 (.bn .sub 0 (.t 17) (.k (i 1))),
  o 19 (.ia 1 (.t 13) (.t 18)), o 20 (.ld none (.t 19)), o 2 (.mv (.t 20))], .ret], 21, [.tmp 2]⟩
theorem c99 : chkF Tryz.prog 99 p99 = true := by decide +kernel
/- (*paling/stmt.reader).vni -/
def p100 : PFn := ⟨[o 2 (.mv (.k (i 0))), o 3 (.mv (.t 0)), o 4 (.call 4 94 [(.t 3), (.k (i 1)), (.k (i 16777215))]), o 2 (.mv (.t 4)), .ret], 5, [.tmp 2]⟩
theorem c100 : chkF Tryz.prog 100 p100 = true := by decide +kernel
/- paling/num.ReadAddrs -/
def p101 : PFn := ⟨[o 2 (.mv (.k nl)), o 3 (.mv (.k (.bool false))), o 4 (.mv (.t 0)), o 5 (.call 7 167 [(.t 4), (.f 98)]), o 6 (.ext (.t 5) 0), o 7 (.ext (.t 5) 1), o 2 (.mv (.t 6)), o 3 (.mv (.t 7)), .ret], 8, [.tmp 2, .tmp 3]⟩
theorem c101 : chkF Tryz.prog 101 p101 = true := by decide +kernel
/- (*paling/stmt.reader).list -/
def p102 : PFn := ⟨[o 4 (.mv (.k nl)), o 8 (.mv (.t 0)), o 9 (.call 4 99 [(.t 8)]), o 5 (.mv (.t 9)), o 10 (.mv (.t 5)), o 11 (.bn .eql 0 (.t 10) (.k (.str [45]))), .cond (.t 11) [o 4 (.mv (.k nl)), .ret] [], o 13 (.mv (.t 5)),
  o 14 (.mv (.t 1)), o 15 (.call 7 168 [(.t 13), (.k (i 1)), (.t 14)]), o 12 (.mv (.t 15)), o 16 (.ext (.t 12) 0), o 17 (.ext (.t 12) 1), o 6 (.mv (.t 16)), o 7 (.mv (.t 17)), o 18 (.mv (.t 0)), o 19 (.mv (.t 7)), o 20 (.un .not (.t 19)),
  o 21 (.call 4 96 [(.t 18), (.t 20), (.k (i 21))]), o 22 (.mv (.t 6)), o 4 (.mv (.t 22)), .ret], 23, [.tmp 4]⟩
theorem c102 : chkF Tryz.prog 102 p102 = true := by decide +kernel
/- paling/addr.ReadPrefix -/
def p103 : PFn := ⟨[o 2 (.al 0 (.agg [(.int .u32 0), (i 0)])), o 3 (.mv (.k (.bool false))), o 12 (.mv (.t 0)), o 13 (.call 7 42 [(.t 12), (.k (.str [47]))]), o 11 (.mv (.t 13)), o 14 (.ext (.t 11) 0), o 15 (.ext (.t 11) 1),
  o 16 (.ext (.t 11) 2), o 4 (.mv (.t 14)), o 5 (.mv (.t 15)), o 6 (.mv (.t 16)), o 18 (.mv (.t 4)), o 19 (.call 7 98 [(.t 18)]), o 17 (.mv (.t 19)), o 20 (.ext (.t 17) 0), o 21 (.ext (.t 17) 1), o 7 (.mv (.t 20)), o 8 (.mv (.t 21)),
  o 23 (.mv (.t 5)), o 24 (.call 7 166 [(.t 23), (.k (i 32))]), o 22 (.mv (.t 24)), o 25 (.ext (.t 22) 0), o 26 (.ext (.t 22) 1), o 9 (.mv (.t 25)), o 10 (.mv (.t 26)), o 27 (.mv (.t 6)), o 28 (.un .not (.t 27)), o 29 (.mv (.t 28)),
  g 30 29 false (.mv (.t 8)), g 31 29 false (.un .not (.t 30)), o 32 (.pick (.t 29) (.k (.bool true)) (.t 31)), o 33 (.mv (.t 32)), g 34 33 false (.mv (.t 10)), g 35 33 false (.un .not (.t 34)), o 36 (.pick (.t 33) (.k (.bool true)) (.t 35)),
  .cond (.t 36) [o 37 (.bld [(.int .u32 0), (i 0)] []), e (.st 2 (.t 2) (.t 37)), o 3 (.mv (.k (.bool false))), .ret] [], o 38 (.mv (.t 7)), o 39 (.mv (.t 9)), o 40 (.bld [(.int .u32 0), (i 0)] [(0, 1, (.t 38)), (1, 1, (.t 39))]),
  e (.st 2 (.t 2) (.t 40)), o 3 (.mv (.k (.bool true))), .ret], 41, [.cell (some 2) 2, .tmp 3]⟩
theorem c103 : chkF Tryz.prog 103 p103 = true := by decide +kernel
/- paling/stmt.subnet -/
def p104 : PFn := ⟨[o 1 (.bxd 0 (.t 0)), o 2 (.mv (.k (.bool false))), .draw 0 [0, 1, 2, 3, 4, 5, 6, 7, 8, 9, 10, 11, 12, 13, 14, 15, 16, 17, 18, 19, 20, 21, 22] [] [o 3 (.fa 1 (.t 1)), o 4 (.ld none (.t 3)),
  o 5 (.bn .geq 0 (.t 4) (.k (i 1))), o 6 (.mv (.t 5)), g 7 6 true (.fa 1 (.t 1)), g 8 6 true (.ld none (.t 7)), g 9 6 true (.bn .leq 0 (.t 8) (.k (i 30))), o 10 (.pick (.t 6) (.t 9) (.k (.bool false))), o 11 (.mv (.t 10)),
  g 12 11 true (.fa 0 (.t 1)), g 13 11 true (.ld none (.t 12)), g 14 11 true (.ld (some 2) (.t 1)), g 15 11 true (.call 0 169 [(.t 14)]), g 16 11 true (.bn .neq 0 (.t 13) (.t 15)), o 17 (.pick (.t 11) (.t 16) (.k (.bool false))),
  o 18 (.mv (.t 17)), g 19 18 true (.fa 0 (.t 1)), g 20 18 true (.ld none (.t 19)), g 21 18 true (.ld (some 2) (.t 1)), g 22 18 true (.call 0 170 [(.t 21)]), g 23 18 true (.bn .neq 0 (.t 20) (.t 22)),
  o 24 (.pick (.t 18) (.t 23) (.k (.bool false))), o 2 (.mv (.t 24))], .ret], 25, [.tmp 2]⟩
theorem c104 : chkF Tryz.prog 104 p104 = true := by decide +kernel
/- (*sync.Once).Do -/
def p105 : PFn := ⟨[o 4 (.mv (.t 0)), o 5 (.nc (.t 4)), o 6 (.fa 0 (.t 5)), o 7 (.call 4 171 [(.t 6)]), o 8 (.un .not (.t 7)), .cond (.t 8) [o 9 (.mv (.t 0)), o 10 (.mv (.t 1)), o 11 (.call 4 172 [(.t 9), (.t 10)])] []], 12, []⟩
theorem c105 : chkF Tryz.prog 105 p105 = true := by decide +kernel
/- (*paling/net.site).build -/
def p106 : PFn := ⟨[o 6 (.mv (.t 0)), o 7 (.nc (.t 6)), o 8 (.fa 3 (.t 7)), o 9 (.ld none (.t 8)), o 10 (.len false (.t 9)), o 11 (.mv (.k (i 0))), .block 0 [.loop [o 12 (.bn .lss 0 (.t 11) (.t 10)), .cond (.t 12) [] [.exit 0],
  .block 1 [o 13 (.ia 17 (.t 9) (.t 11)), o 14 (.ld (some 17) (.t 13)), o 3 (.al 0 (.agg [(i 0), (i 0), (.str []), (.str []), (.str []), (.str []), (.str []), (.int .u64 0), (.int .u32 0), (i 0), (i 0), (i 0), (i 0), nl, nl, nl, nl])),
  .stf 17 3 (.t 14), .draw 0 [0, 1, 2, 3, 4, 5, 6, 7, 8, 9, 10, 11, 12, 13, 14, 15, 16] [] [o 16 (.mv (.t 0)), o 17 (.mv (.t 0)), o 18 (.mv (.t 0)), o 19 (.nc (.t 18)), o 20 (.fa 4 (.t 19)), o 21 (.ld (some 8) (.t 20)),
  o 22 (.ld (some 17) (.t 3)), o 23 (.call 0 173 [(.t 21), (.t 22)]), o 15 (.mv (.t 23)), o 24 (.ext (.t 15) 0), o 25 (.ext (.t 15) 1), o 26 (.nc (.t 16)), o 27 (.fa 4 (.t 26)), e (.st 8 (.t 27) (.t 24)), o 28 (.nc (.t 17)),
  o 29 (.fa 13 (.t 28)), e (.st 1 (.t 29) (.t 25))], o 30 (.mv (.t 0)), o 31 (.nc (.t 30)), o 32 (.fa 13 (.t 31)), o 33 (.ld none (.t 32)), o 34 (.bn .neq 0 (.t 33) (.k (i 0))), .cond (.t 34) [o 35 (.mv (.t 0)), o 36 (.fa 0 (.t 3)),
  o 37 (.ld none (.t 36)), o 38 (.nc (.t 35)), o 39 (.fa 12 (.t 38)), e (.st 1 (.t 39) (.t 37)), .ret] []], o 40 (.bn .add 0 (.t 11) (.k (i 1))), o 11 (.mv (.t 40))]], o 42 (.mv (.t 0)), o 43 (.mv (.t 0)), o 44 (.mv (.t 0)), o 45 (.mv (.t 0)),
  o 46 (.nc (.t 45)), o 47 (.fa 4 (.t 46)), o 48 (.ld (some 8) (.t 47)), o 49 (.call 7 174 [(.t 48)]), o 41 (.mv (.t 49)), o 50 (.ext (.t 41) 0), o 51 (.ext (.t 41) 1), o 52 (.ext (.t 41) 2), o 53 (.nc (.t 42)), o 54 (.fa 4 (.t 53)),
  e (.st 8 (.t 54) (.t 50)), o 55 (.nc (.t 43)), o 56 (.fa 12 (.t 55)), e (.st 1 (.t 56) (.t 51)), o 57 (.nc (.t 44)), o 58 (.fa 13 (.t 57)), e (.st 1 (.t 58) (.t 52)), o 59 (.mv (.t 0)), o 60 (.nc (.t 59)), o 61 (.fa 13 (.t 60)),
  o 62 (.ld none (.t 61)), o 63 (.bn .neq 0 (.t 62) (.k (i 0))), .cond (.t 63) [.ret] [], o 65 (.mv (.t 0)), o 66 (.nc (.t 65)), o 67 (.fa 4 (.t 66)), o 68 (.ld (some 8) (.t 67)), o 69 (.call 7 175 [(.t 68)]), o 64 (.mv (.t 69)),
  o 70 (.ext (.t 64) 0), o 71 (.ext (.t 64) 1), o 4 (.mv (.t 70)), o 5 (.mv (.t 71)), o 72 (.mv (.t 5)), .cond (.t 72) [o 73 (.mv (.t 0)), o 74 (.mv (.t 0)), o 75 (.mv (.t 0)), o 76 (.bld [nl, nl, nl, nl, nl, nl, nl, nl] []), o 77 (.mv (.t 4)),
  o 78 (.nc (.t 73)), o 79 (.fa 4 (.t 78)), e (.st 8 (.t 79) (.t 76)), o 80 (.nc (.t 74)), o 81 (.fa 12 (.t 80)), e (.st 1 (.t 81) (.t 77)), o 82 (.nc (.t 75)), o 83 (.fa 13 (.t 82)), e (.st 1 (.t 83) (.k (i 38)))] []], 84, []⟩
theorem c106 : chkF Tryz.prog 106 p106 = true := by decide +kernel
/- internal/stringslite.Cut -/
def p107 : PFn := ⟨[o 4 (.mv (.k (.str []))), o 5 (.mv (.k (.str []))), o 6 (.mv (.k (.bool false))), o 8 (.mv (.t 0)), o 9 (.mv (.t 1)), o 10 (.call 7 176 [(.t 8), (.t 9)]), o 7 (.mv (.t 10)), o 11 (.mv (.t 7)),
  o 12 (.bn .geq 0 (.t 11) (.k (i 0))), .cond (.t 12) [.draw 0 [0, 1, 2, 3, 4, 5, 6, 7, 8, 9, 10, 11] [] [o 13 (.mv (.t 0)), o 14 (.mv (.t 7)), o 15 (.sls (.t 13) none (some (.t 14))), o 16 (.mv (.t 0)), o 17 (.mv (.t 7)), o 18 (.mv (.t 1)),
  o 19 (.len true (.t 18)), o 20 (.bn .add 0 (.t 17) (.t 19)), o 21 (.sls (.t 16) (some (.t 20)) none), o 4 (.mv (.t 15)), o 5 (.mv (.t 21)), o 6 (.mv (.k (.bool true)))], .ret] [], o 22 (.mv (.t 0)), o 4 (.mv (.t 22)), o 5 (.mv (.k (.str []))),
  o 6 (.mv (.k (.bool false))), .ret], 23, [.tmp 4, .tmp 5, .tmp 6]⟩
theorem c107 : chkF Tryz.prog 107 p107 = true := by decide +kernel
/- paling/line.stretches$1 -/
def p108 : PFn := ⟨[o 5 (.mv (.t 0)), o 6 (.ld none (.t 1)), o 7 (.bn .gtr 0 (.t 5) (.t 6)), .cond (.t 7) [.draw 0 [0, 1, 2, 3, 4, 5, 6, 7] [] [o 8 (.ld none (.t 2)), o 9 (.ld none (.t 3)), o 10 (.ld none (.t 1)), o 11 (.mv (.t 0)),
  o 12 (.sls (.t 9) (some (.t 10)) (some (.t 11))), o 13 (.bsl (.str []) 1 [(0, (.t 12))]), o 14 (.app 0 1 (.t 8) (.t 13)), e (.st 1 (.t 2) (.t 14))]] [], o 15 (.mv (.t 0)), o 16 (.bn .add 0 (.t 15) (.k (i 1))), e (.st 1 (.t 1) (.t 16))], 17,
  []⟩
theorem c108 : chkF Tryz.prog 108 p108 = true := by decide +kernel
/- paling/names.place[paling/api.Irb] -/
def p109 : PFn := ⟨[o 4 (.mv (.k (.bool false))), o 5 (.mv (.t 1)), o 6 (.bn .geq 0 (.t 5) (.k (i 0))), o 7 (.mv (.t 6)), g 8 7 true (.mv (.t 1)), g 9 7 true (.mv (.t 0)), g 10 7 true (.len false (.t 9)),
  g 11 7 true (.bn .lss 0 (.t 8) (.t 10)), o 12 (.pick (.t 7) (.t 11) (.k (.bool false))), o 4 (.mv (.t 12)), .ret], 13, [.tmp 4]⟩
theorem c109 : chkF Tryz.prog 109 p109 = true := by decide +kernel
/- (paling/names.judge).domain -/
def p110 : PFn := ⟨[o 3 (.bxd 0 (.t 0)), o 4 (.bxm 0 (.t 1)), o 5 (.bxm 0 (.t 2)), o 6 (.mv (.k (i 0))), o 7 (.fa 0 (.t 3)), o 8 (.fa 3 (.t 7)), o 9 (.ld none (.t 8)), o 10 (.mf 178 [] [(.t 4), (.t 5)]), o 11 (.call 7 177 [(.t 9), (.t 10)]),
  o 6 (.mv (.t 11)), .ret], 12, [.tmp 6]⟩
theorem c110 : chkF Tryz.prog 110 p110 = true := by decide +kernel
/- paling/names.all[int] -/
def p111 : PFn := ⟨[o 4 (.mv (.k (.bool false))), o 7 (.mv (.t 0)), o 8 (.len false (.t 7)), o 9 (.mv (.k (i 0))), .block 0 [.loop [o 10 (.bn .lss 0 (.t 9) (.t 8)), .cond (.t 10) [] [.exit 0], .block 1 [o 11 (.mv (.t 9)),
  o 12 (.ia 1 (.t 7) (.t 9)), o 13 (.ld none (.t 12)), o 5 (.mv (.t 11)), o 6 (.mv (.t 13)), o 14 (.mv (.t 1)), o 15 (.mv (.t 5)), o 16 (.mv (.t 6)), o 17 (.callv 4 (.t 14) [(.t 15), (.t 16)]), o 18 (.un .not (.t 17)),
  .cond (.t 18) [o 4 (.mv (.k (.bool false))), .ret] []], o 19 (.bn .add 0 (.t 9) (.k (i 1))), o 9 (.mv (.t 19))]], o 4 (.mv (.k (.bool true))), .ret], 20, [.tmp 4]⟩
theorem c111 : chkF Tryz.prog 111 p111 = true := by decide +kernel
/- (paling/names.judge).peers$1 -/
def p112 : PFn := ⟨[o 7 (.mv (.k (.bool false))), o 8 (.ld (some 8) (.t 2)), o 9 (.ld none (.t 3)), o 10 (.ld (some 6) (.t 4)), o 11 (.mv (.t 1)), o 12 (.call 7 113 [(.t 8), (.t 9), (.t 10), (.t 11)]), o 13 (.mv (.t 12)),
  g 14 13 true (.fa 5 (.t 4)), g 15 13 true (.ld none (.t 14)), g 16 13 true (.mv (.t 1)), g 17 13 true (.call 7 114 [(.t 15), (.t 16)]), g 18 13 true (.mv (.t 0)), g 19 13 true (.bn .eql 0 (.t 17) (.t 18)),
  o 20 (.pick (.t 13) (.t 19) (.k (.bool false))), o 7 (.mv (.t 20)), .ret], 21, [.tmp 7]⟩
theorem c112 : chkF Tryz.prog 112 p112 = true := by decide +kernel
/- (paling/names.judge).peer -/
def p113 : PFn := ⟨[o 4 (.bxd 0 (.t 0)), o 6 (.bxd 0 (.t 2)), o 8 (.mv (.k (.bool false))), o 10 (.fa 0 (.t 4)), o 11 (.fa 3 (.t 10)), o 12 (.ld none (.t 11)), o 13 (.mv (.t 3)), o 14 (.call 7 117 [(.t 12), (.t 13)]),
  o 15 (.un .not (.t 14)), o 16 (.mv (.t 15)), g 17 16 false (.mv (.t 3)), g 18 16 false (.mv (.t 1)), g 19 16 false (.bn .eql 0 (.t 17) (.t 18)), o 20 (.pick (.t 16) (.k (.bool true)) (.t 19)), .cond (.t 20) [o 8 (.mv (.k (.bool false))),
  .ret] [], o 21 (.fa 0 (.t 4)), o 22 (.fa 3 (.t 21)), o 23 (.ld none (.t 22)), o 24 (.mv (.t 3)), o 25 (.ia 6 (.t 23) (.t 24)), o 26 (.ld (some 6) (.t 25)), o 9 (.al 0 (.agg [(i 0), (i 0), (i 0), (i 0), (i 0), nl])), .stf 6 9 (.t 26),
  o 27 (.fa 0 (.t 4)), o 28 (.fa 0 (.t 27)), o 29 (.ld none (.t 28)), o 30 (.fa 0 (.t 9)), o 31 (.ld none (.t 30)), o 32 (.call 7 59 [(.t 29), (.t 31)]), o 33 (.mv (.t 32)), g 34 33 true (.fa 0 (.t 9)), g 35 33 true (.ld none (.t 34)),
  g 36 33 true (.fa 0 (.t 6)), g 37 33 true (.ld none (.t 36)), g 38 33 true (.bn .neq 0 (.t 35) (.t 37)), o 39 (.pick (.t 33) (.t 38) (.k (.bool false))), o 40 (.mv (.t 39)), g 41 40 true (.fa 2 (.t 9)), g 42 40 true (.ld none (.t 41)),
  g 43 40 true (.fa 2 (.t 6)), g 44 40 true (.ld none (.t 43)), g 45 40 true (.bn .eql 0 (.t 42) (.t 44)), o 46 (.pick (.t 40) (.t 45) (.k (.bool false))), o 47 (.mv (.t 46)), g 48 47 true (.fa 2 (.t 6)), g 49 47 true (.ld none (.t 48)),
  g 50 47 true (.bn .neq 0 (.t 49) (.k (i 0))), o 51 (.pick (.t 47) (.t 50) (.k (.bool false))), o 52 (.mv (.t 51)), g 53 52 true (.ld (some 8) (.t 4)), g 54 52 true (.ld (some 6) (.t 9)), g 55 52 true (.call 7 179 [(.t 53), (.t 54)]),
  o 56 (.pick (.t 52) (.t 55) (.k (.bool false))), o 57 (.mv (.t 56)), g 58 57 true (.ld (some 8) (.t 4)), g 59 57 true (.ld (some 6) (.t 6)), g 60 57 true (.call 7 179 [(.t 58), (.t 59)]), o 61 (.pick (.t 57) (.t 60) (.k (.bool false))),
  o 62 (.mv (.t 61)), g 63 62 true (.fa 5 (.t 9)), g 64 62 true (.ld none (.t 63)), g 65 62 true (.mv (.t 1)), g 66 62 true (.call 7 72 [(.t 64), (.t 65)]), o 67 (.pick (.t 62) (.t 66) (.k (.bool false))), o 8 (.mv (.t 67)), .ret], 68,
  [.tmp 8]⟩
theorem c113 : chkF Tryz.prog 113 p113 = true := by decide +kernel
/- slices.Index[[]int,int] -/
def p114 : PFn := ⟨[o 4 (.mv (.k (i 0))), o 6 (.mv (.t 0)), o 7 (.len false (.t 6)), o 8 (.mv (.k (i 0))), .block 0 [.loop [o 9 (.bn .lss 0 (.t 8) (.t 7)), .cond (.t 9) [] [.exit 0], .block 1 [o 10 (.mv (.t 8)), o 5 (.mv (.t 10)),
  o 11 (.mv (.t 1)), o 12 (.mv (.t 0)), o 13 (.mv (.t 5)), o 14 (.ia 1 (.t 12) (.t 13)), o 15 (.ld none (.t 14)), o 16 (.bn .eql 0 (.t 11) (.t 15)), .cond (.t 16) [o 17 (.mv (.t 5)), o 4 (.mv (.t 17)), .ret] []],
  o 18 (.bn .add 0 (.t 8) (.k (i 1))), o 8 (.mv (.t 18))]], o 4 (.mv (.k (i (-1)))), .ret], 19, [.tmp 4]⟩
theorem c114 : chkF Tryz.prog 114 p114 = true := by decide +kernel
/- paling/names.place[paling/api.Link] -/
def p115 : PFn := ⟨[o 4 (.mv (.k (.bool false))), o 5 (.mv (.t 1)), o 6 (.bn .geq 0 (.t 5) (.k (i 0))), o 7 (.mv (.t 6)), g 8 7 true (.mv (.t 1)), g 9 7 true (.mv (.t 0)), g 10 7 true (.len false (.t 9)),
  g 11 7 true (.bn .lss 0 (.t 8) (.t 10)), o 12 (.pick (.t 7) (.t 11) (.k (.bool false))), o 4 (.mv (.t 12)), .ret], 13, [.tmp 4]⟩
theorem c115 : chkF Tryz.prog 115 p115 = true := by decide +kernel
/- paling/names.place[paling/api.Port] -/
def p116 : PFn := ⟨[o 4 (.mv (.k (.bool false))), o 5 (.mv (.t 1)), o 6 (.bn .geq 0 (.t 5) (.k (i 0))), o 7 (.mv (.t 6)), g 8 7 true (.mv (.t 1)), g 9 7 true (.mv (.t 0)), g 10 7 true (.len false (.t 9)),
  g 11 7 true (.bn .lss 0 (.t 8) (.t 10)), o 12 (.pick (.t 7) (.t 11) (.k (.bool false))), o 4 (.mv (.t 12)), .ret], 13, [.tmp 4]⟩
theorem c116 : chkF Tryz.prog 116 p116 = true := by decide +kernel
/- paling/names.place[paling/api.Domain] -/
def p117 : PFn := ⟨[o 4 (.mv (.k (.bool false))), o 5 (.mv (.t 1)), o 6 (.bn .geq 0 (.t 5) (.k (i 0))), o 7 (.mv (.t 6)), g 8 7 true (.mv (.t 1)), g 9 7 true (.mv (.t 0)), g 10 7 true (.len false (.t 9)),
  g 11 7 true (.bn .lss 0 (.t 8) (.t 10)), o 12 (.pick (.t 7) (.t 11) (.k (.bool false))), o 4 (.mv (.t 12)), .ret], 13, [.tmp 4]⟩
theorem c117 : chkF Tryz.prog 117 p117 = true := by decide +kernel
/- paling/names.Member -/
def p118 : PFn := ⟨[o 2 (.bxd 0 (.t 0)), o 4 (.mv (.k (.bool false))), o 5 (.mv (.t 1)), o 6 (.bn .neq 0 (.t 5) (.k (i 0))), o 7 (.mv (.t 6)), g 8 7 true (.mv (.t 1)), g 9 7 true (.fa 2 (.t 2)), g 10 7 true (.ld none (.t 9)),
  g 11 7 true (.bn .eql 0 (.t 8) (.t 10)), g 12 7 true (.mv (.t 11)), g 13 12 false (.fa 6 (.t 2)), g 14 12 false (.ld none (.t 13)), g 15 12 false (.mv (.t 1)), g 16 12 false (.call 7 72 [(.t 14), (.t 15)]),
  g 17 7 true (.pick (.t 12) (.k (.bool true)) (.t 16)), o 18 (.pick (.t 7) (.t 17) (.k (.bool false))), o 4 (.mv (.t 18)), .ret], 19, [.tmp 4]⟩
theorem c118 : chkF Tryz.prog 118 p118 = true := by decide +kernel
/- paling/num.Rising -/
def p119 : PFn := ⟨[o 6 (.mv (.k (.bool false))), o 9 (.mv (.t 0)), o 10 (.len false (.t 9)), o 11 (.mv (.k (i 0))), .block 0 [.loop [o 12 (.bn .lss 0 (.t 11) (.t 10)), .cond (.t 12) [] [.exit 0], .block 1 [o 13 (.mv (.t 11)),
  o 14 (.ia 1 (.t 9) (.t 11)), o 15 (.ld none (.t 14)), o 7 (.mv (.t 13)), o 8 (.mv (.t 15)), o 16 (.mv (.t 8)), o 17 (.mv (.t 1)), o 18 (.bn .lss 0 (.t 16) (.t 17)), o 19 (.mv (.t 18)), g 20 19 false (.mv (.t 8)), g 21 19 false (.mv (.t 2)),
  g 22 19 false (.bn .gtr 0 (.t 20) (.t 21)), o 23 (.pick (.t 19) (.k (.bool true)) (.t 22)), o 24 (.mv (.t 23)), g 25 24 false (.mv (.t 7)), g 26 24 false (.bn .gtr 0 (.t 25) (.k (i 0))), g 27 24 false (.mv (.t 26)), g 28 27 true (.mv (.t 0)),
  g 29 27 true (.mv (.t 7)), g 30 27 true (.bn .sub 0 (.t 29) (.k (i 1))), g 31 27 true (.ia 1 (.t 28) (.t 30)), g 32 27 true (.ld none (.t 31)), g 33 27 true (.mv (.t 8)), g 34 27 true (.bn .geq 0 (.t 32) (.t 33)),
  g 35 24 false (.pick (.t 27) (.t 34) (.k (.bool false))), o 36 (.pick (.t 24) (.k (.bool true)) (.t 35)), .cond (.t 36) [o 6 (.mv (.k (.bool false))), .ret] []], o 37 (.bn .add 0 (.t 11) (.k (i 1))), o 11 (.mv (.t 37))]], o 38 (.mv (.t 0)),
  o 39 (.len false (.t 38)), o 40 (.bn .gtr 0 (.t 39) (.k (i 0))), o 41 (.mv (.t 40)), g 42 41 true (.mv (.t 0)), g 43 41 true (.len false (.t 42)), g 44 41 true (.bn .leq 0 (.t 43) (.k (i 16))), o 45 (.pick (.t 41) (.t 44) (.k (.bool false))),
  o 6 (.mv (.t 45)), .ret], 46, [.tmp 6]⟩
theorem c119 : chkF Tryz.prog 119 p119 = true := by decide +kernel
/- paling/names.place[paling/api.Vrf] -/
def p120 : PFn := ⟨[o 4 (.mv (.k (.bool false))), o 5 (.mv (.t 1)), o 6 (.bn .geq 0 (.t 5) (.k (i 0))), o 7 (.mv (.t 6)), g 8 7 true (.mv (.t 1)), g 9 7 true (.mv (.t 0)), g 10 7 true (.len false (.t 9)),
  g 11 7 true (.bn .lss 0 (.t 8) (.t 10)), o 12 (.pick (.t 7) (.t 11) (.k (.bool false))), o 4 (.mv (.t 12)), .ret], 13, [.tmp 4]⟩
theorem c120 : chkF Tryz.prog 120 p120 = true := by decide +kernel
/- math/bits.Mul32 -/
def p121 : PFn := ⟨[o 4 (.mv (.k (.int .u32 0))), o 5 (.mv (.k (.int .u32 0))), o 7 (.mv (.t 0)), o 8 (.cv .u64 (.t 7)), o 9 (.mv (.t 1)), o 10 (.cv .u64 (.t 9)), o 11 (.bn .mul 0 (.t 8) (.t 10)), o 6 (.mv (.t 11)), o 12 (.mv (.t 6)),
  o 13 (.bn .shr 0 (.t 12) (.k (.int .u64 32))), o 14 (.cv .u32 (.t 13)), o 15 (.mv (.t 6)), o 16 (.cv .u32 (.t 15)), o 4 (.mv (.t 14)), o 5 (.mv (.t 16)), .ret], 17, [.tmp 4, .tmp 5]⟩
theorem c121 : chkF Tryz.prog 121 p121 = true := by decide +kernel
/- math/bits.Mul64 -/
def p122 : PFn := ⟨[o 4 (.mv (.k (.int .u64 0))), o 5 (.mv (.k (.int .u64 0))), o 14 (.mv (.t 0)), o 15 (.bn .and 0 (.t 14) (.k (.int .u64 4294967295))), o 6 (.mv (.t 15)), o 16 (.mv (.t 0)), o 17 (.bn .shr 0 (.t 16) (.k (.int .u64 32))),
  o 7 (.mv (.t 17)), o 18 (.mv (.t 1)), o 19 (.bn .and 0 (.t 18) (.k (.int .u64 4294967295))), o 8 (.mv (.t 19)), o 20 (.mv (.t 1)), o 21 (.bn .shr 0 (.t 20) (.k (.int .u64 32))), o 9 (.mv (.t 21)), o 22 (.mv (.t 6)), o 23 (.mv (.t 8)),
  o 24 (.bn .mul 0 (.t 22) (.t 23)), o 10 (.mv (.t 24)), o 25 (.mv (.t 7)), o 26 (.mv (.t 8)), o 27 (.bn .mul 0 (.t 25) (.t 26)), o 28 (.mv (.t 10)), o 29 (.bn .shr 0 (.t 28) (.k (.int .u64 32))), o 30 (.bn .add 0 (.t 27) (.t 29)),
  o 11 (.mv (.t 30)), o 31 (.mv (.t 11)), o 32 (.bn .and 0 (.t 31) (.k (.int .u64 4294967295))), o 12 (.mv (.t 32)), o 33 (.mv (.t 11)), o 34 (.bn .shr 0 (.t 33) (.k (.int .u64 32))), o 13 (.mv (.t 34)), o 35 (.mv (.t 12)), o 36 (.mv (.t 6)),
  o 37 (.mv (.t 9)), o 38 (.bn .mul 0 (.t 36) (.t 37)), o 39 (.bn .add 0 (.t 35) (.t 38)), o 12 (.mv (.t 39)), o 40 (.mv (.t 7)), o 41 (.mv (.t 9)), o 42 (.bn .mul 0 (.t 40) (.t 41)), o 43 (.mv (.t 13)), o 44 (.bn .add 0 (.t 42) (.t 43)),
  o 45 (.mv (.t 12)), o 46 (.bn .shr 0 (.t 45) (.k (.int .u64 32))), o 47 (.bn .add 0 (.t 44) (.t 46)), o 4 (.mv (.t 47)), o 48 (.mv (.t 0)), o 49 (.mv (.t 1)), o 50 (.bn .mul 0 (.t 48) (.t 49)), o 5 (.mv (.t 50)), .ret], 51, [.tmp 4, .tmp 5]⟩
theorem c122 : chkF Tryz.prog 122 p122 = true := by decide +kernel
/- slices.IndexFunc[[]string,string] -/
def p123 : PFn := ⟨[o 4 (.mv (.k (i 0))), o 6 (.mv (.t 0)), o 7 (.len false (.t 6)), o 8 (.mv (.k (i 0))), .block 0 [.loop [o 9 (.bn .lss 0 (.t 8) (.t 7)), .cond (.t 9) [] [.exit 0], .block 1 [o 10 (.mv (.t 8)), o 5 (.mv (.t 10)),
  o 11 (.mv (.t 1)), o 12 (.mv (.t 0)), o 13 (.mv (.t 5)), o 14 (.ia 1 (.t 12) (.t 13)), o 15 (.ld none (.t 14)), o 16 (.callv 4 (.t 11) [(.t 15)]), .cond (.t 16) [o 17 (.mv (.t 5)), o 4 (.mv (.t 17)), .ret] []],
  o 18 (.bn .add 0 (.t 8) (.k (i 1))), o 8 (.mv (.t 18))]], o 4 (.mv (.k (i (-1)))), .ret], 19, [.tmp 4]⟩
theorem c123 : chkF Tryz.prog 123 p123 = true := by decide +kernel
/- paling/names.find[paling/api.Port] -/
def p124 : PFn := ⟨[o 3 (.bxd 0 (.t 0)), o 6 (.mv (.k (i 0))), o 7 (.ld (some 8) (.t 3)), o 8 (.call 7 24 [(.t 7)]), o 9 (.un .not (.t 8)), .cond (.t 9) [o 6 (.mv (.k (i (-1)))), .ret] [], o 10 (.mv (.t 1)), o 11 (.mv (.t 2)),
  o 12 (.call 7 180 [(.t 10), (.t 11)]), o 6 (.mv (.t 12)), .ret], 13, [.tmp 6]⟩
theorem c124 : chkF Tryz.prog 124 p124 = true := by decide +kernel
/- paling/names.Port$1 -/
def p125 : PFn := ⟨[o 3 (.bxd 0 (.t 0)), o 4 (.mv (.k (.bool false))), o 5 (.fa 1 (.t 3)), o 6 (.ld none (.t 5)), o 7 (.ld none (.t 1)), o 8 (.bn .eql 0 (.t 6) (.t 7)), o 9 (.mv (.t 8)), g 10 9 true (.fa 5 (.t 3)),
  g 11 9 true (.ld none (.t 10)), g 12 9 true (.ld none (.t 2)), g 13 9 true (.bn .eql 0 (.t 11) (.t 12)), o 14 (.pick (.t 9) (.t 13) (.k (.bool false))), o 4 (.mv (.t 14)), .ret], 15, [.tmp 4]⟩
theorem c125 : chkF Tryz.prog 125 p125 = true := by decide +kernel
/- paling/names.find[paling/api.Device] -/
def p126 : PFn := ⟨[o 3 (.bxd 0 (.t 0)), o 6 (.mv (.k (i 0))), o 7 (.ld (some 8) (.t 3)), o 8 (.call 7 24 [(.t 7)]), o 9 (.un .not (.t 8)), .cond (.t 9) [o 6 (.mv (.k (i (-1)))), .ret] [], o 10 (.mv (.t 1)), o 11 (.mv (.t 2)),
  o 12 (.call 7 181 [(.t 10), (.t 11)]), o 6 (.mv (.t 12)), .ret], 13, [.tmp 6]⟩
theorem c126 : chkF Tryz.prog 126 p126 = true := by decide +kernel
/- paling/names.Device$1 -/
def p127 : PFn := ⟨[o 2 (.bxd 0 (.t 0)), o 3 (.mv (.k (.bool false))), o 4 (.fa 2 (.t 2)), o 5 (.ld none (.t 4)), o 6 (.ld none (.t 1)), o 7 (.bn .eql 0 (.t 5) (.t 6)), o 3 (.mv (.t 7)), .ret], 8, [.tmp 3]⟩
theorem c127 : chkF Tryz.prog 127 p127 = true := by decide +kernel
/- paling/names.Domain -/
def p128 : PFn := ⟨[o 3 (.bxd 0 (.t 0)), o 4 (.bxm 0 (.t 1)), o 5 (.bxm 0 (.t 2)), o 6 (.mv (.k (i 0))), o 7 (.ld (some 8) (.t 3)), o 8 (.fa 3 (.t 3)), o 9 (.ld none (.t 8)), o 10 (.mf 183 [] [(.t 4), (.t 5)]), o 11 (.call 7 182 [(.t 7),
  (.t 9), (.t 10)]), o 6 (.mv (.t 11)), .ret], 12, [.tmp 6]⟩
theorem c128 : chkF Tryz.prog 128 p128 = true := by decide +kernel
/- (*paling/witness.search).meet -/
def p129 : PFn := ⟨[o 5 (.bxd 0 (.t 1)), o 6 (.bxd 0 (.t 2)), .draw 0 [0, 1, 2, 3, 4, 5, 6, 7, 8, 9, 10, 11] [] [o 8 (.mv (.t 0)), o 9 (.fa 1 (.t 5)), o 10 (.ld none (.t 9)), o 11 (.nc (.t 8)), o 12 (.fa 8 (.t 11)),
  o 13 (.iaa 2 1 (.t 12) (.t 10)), o 14 (.ld none (.t 13)), o 15 (.fa 0 (.t 5)), o 16 (.ld none (.t 15)), o 17 (.ia 1 (.t 14) (.t 16)), o 18 (.ld none (.t 17)), o 19 (.un .not (.t 18))], .cond (.t 19) [.draw 0 [0, 1, 2, 3, 4, 5, 6, 7, 8, 9,
  10] [] [o 20 (.mv (.t 0)), o 21 (.fa 1 (.t 5)), o 22 (.ld none (.t 21)), o 23 (.nc (.t 20)), o 24 (.fa 8 (.t 23)), o 25 (.iaa 2 1 (.t 24) (.t 22)), o 26 (.ld none (.t 25)), o 27 (.fa 0 (.t 5)), o 28 (.ld none (.t 27)),
  o 29 (.ia 1 (.t 26) (.t 28)), e (.st 1 (.t 29) (.k (.bool true)))], .draw 0 [0, 1, 2, 3, 4, 5, 6, 7, 8, 9, 10, 11, 12, 13] [] [o 30 (.mv (.t 0)), o 31 (.mv (.t 0)), o 32 (.nc (.t 31)), o 33 (.fa 10 (.t 32)), o 34 (.ld none (.t 33)),
  o 35 (.ld (some 2) (.t 5)), o 36 (.ld (some 4) (.t 6)), o 37 (.mv (.t 3)), o 38 (.bld [(i 0), (i 0), (i 0), (i 0), (i 0), (.int .u32 0), (i 0)] [(0, 2, (.t 35)), (2, 4, (.t 36)), (6, 1, (.t 37))]), o 39 (.bsl (.agg [(i 0), (i 0), (i 0), (i 0),
  (i 0), (.int .u32 0), (i 0)]) 1 [(0, (.t 38))]), o 40 (.app 0 7 (.t 34) (.t 39)), o 41 (.nc (.t 30)), o 42 (.fa 10 (.t 41)), e (.st 1 (.t 42) (.t 40))]] []], 43, []⟩
theorem c129 : chkF Tryz.prog 129 p129 = true := by decide +kernel
/- slices.Reverse[[]paling/reach.Hop,paling/reach.Hop] -/
def p130 : PFn := ⟨[o 4 (.mv (.t 0)), o 5 (.len false (.t 4)), o 6 (.bn .sub 0 (.t 5) (.k (i 1))), o 2 (.mv (.k (i 0))), o 3 (.mv (.t 6)), .block 0 [.loop [o 7 (.mv (.t 2)), o 8 (.mv (.t 3)), o 9 (.bn .lss 0 (.t 7) (.t 8)),
  .cond (.t 9) [] [.exit 0], .block 1 [.draw 0 [0, 1, 2, 3, 4, 5, 6, 7, 8, 9, 10, 11, 12, 13, 14, 15] [] [o 14 (.mv (.t 0)), o 15 (.mv (.t 2)), o 16 (.mv (.t 0)), o 17 (.mv (.t 3)), o 18 (.mv (.t 0)), o 19 (.mv (.t 3)),
  o 20 (.ia 4 (.t 18) (.t 19)), o 21 (.ld (some 4) (.t 20)), o 22 (.mv (.t 0)), o 23 (.mv (.t 2)), o 24 (.ia 4 (.t 22) (.t 23)), o 25 (.ld (some 4) (.t 24)), o 26 (.ia 4 (.t 14) (.t 15)), e (.st 4 (.t 26) (.t 21)), o 27 (.ia 4 (.t 16) (.t 17)),
  e (.st 4 (.t 27) (.t 25))]], o 10 (.mv (.t 2)), o 11 (.bn .add 0 (.t 10) (.k (i 1))), o 12 (.mv (.t 3)), o 13 (.bn .sub 0 (.t 12) (.k (i 1))), o 2 (.mv (.t 11)), o 3 (.mv (.t 13))]]], 28, []⟩
theorem c130 : chkF Tryz.prog 130 p130 = true := by decide +kernel
/- paling/reach.Hops -/
def p131 : PFn := ⟨[o 2 (.bxd 0 (.t 0)), o 4 (.mv (.k nl)), o 12 (.ld (some 8) (.t 2)), o 13 (.mv (.t 1)), o 14 (.call 7 184 [(.t 12), (.t 13)]), o 15 (.un .not (.t 14)), .cond (.t 15) [o 4 (.mv (.k nl)), .ret] [], o 5 (.mv (.k nl)),
  o 16 (.ld (some 8) (.t 2)), o 17 (.mv (.t 1)), o 18 (.call 7 73 [(.t 16), (.t 17)]), o 19 (.len false (.t 18)), o 20 (.mv (.k (i 0))), .block 0 [.loop [o 21 (.bn .lss 0 (.t 20) (.t 19)), .cond (.t 21) [] [.exit 0],
  .block 1 [o 22 (.ia 1 (.t 18) (.t 20)), o 23 (.ld none (.t 22)), o 7 (.mv (.t 23)), .draw 0 [0, 1, 2, 3, 4, 5, 6, 7, 8, 9, 10, 11, 12, 13] [] [o 25 (.ld (some 8) (.t 2)), o 26 (.mv (.t 7)), o 27 (.fa 3 (.t 2)), o 28 (.ld none (.t 27)),
  o 29 (.mv (.t 1)), o 30 (.ia 6 (.t 28) (.t 29)), o 31 (.fa 1 (.t 30)), o 32 (.ld none (.t 31)), o 33 (.call 0 185 [(.t 25), (.t 26), (.t 32)]), o 24 (.mv (.t 33)), o 34 (.ext (.t 24) 0), o 35 (.ext (.t 24) 1), o 8 (.mv (.t 34)),
  o 9 (.mv (.t 35))], o 36 (.mv (.t 9)), .cond (.t 36) [o 37 (.mv (.t 5)), o 38 (.mv (.t 7)), o 39 (.mv (.t 8)), o 40 (.bld [(i 0), (i 0), (i 0), (.int .u32 0)] [(0, 1, (.k (i 1))), (1, 1, (.t 38)), (2, 1, (.t 39))]), o 41 (.bsl (.agg [(i 0),
  (i 0), (i 0), (.int .u32 0)]) 1 [(0, (.t 40))]), o 42 (.app 0 4 (.t 37) (.t 41)), o 5 (.mv (.t 42))] []], o 43 (.bn .add 0 (.t 20) (.k (i 1))), o 20 (.mv (.t 43))]], o 44 (.fa 3 (.t 2)), o 45 (.ld none (.t 44)), o 46 (.mv (.t 1)),
  o 47 (.ia 6 (.t 45) (.t 46)), o 48 (.fa 5 (.t 47)), o 49 (.ld none (.t 48)), o 50 (.len false (.t 49)), o 51 (.mv (.k (i 0))), .block 2 [.loop [o 52 (.bn .lss 0 (.t 51) (.t 50)), .cond (.t 52) [] [.exit 2],
  .block 3 [o 53 (.ia 1 (.t 49) (.t 51)), o 54 (.ld none (.t 53)), o 11 (.mv (.t 54)), o 55 (.mv (.t 5)), o 56 (.mv (.t 11)), o 57 (.bld [(i 0), (i 0), (i 0), (.int .u32 0)] [(0, 1, (.k (i 2))), (2, 1, (.t 56))]), o 58 (.bsl (.agg [(i 0), (i 0),
  (i 0), (.int .u32 0)]) 1 [(0, (.t 57))]), o 59 (.app 0 4 (.t 55) (.t 58)), o 5 (.mv (.t 59))], o 60 (.bn .add 0 (.t 51) (.k (i 1))), o 51 (.mv (.t 60))]], o 61 (.mv (.t 5)), o 4 (.mv (.t 61)), .ret], 62, [.tmp 4]⟩
theorem c131 : chkF Tryz.prog 131 p131 = true := by decide +kernel
/- paling/choose.Routes -/
def p132 : PFn := ⟨[o 2 (.bxd 0 (.t 0)), o 4 (.mv (.k nl)), o 10 (.mv (.t 1)), o 11 (.bn .lss 0 (.t 10) (.k (i 0))), o 12 (.mv (.t 11)), g 13 12 false (.mv (.t 1)), g 14 12 false (.fa 3 (.t 2)), g 15 12 false (.ld none (.t 14)),
  g 16 12 false (.len false (.t 15)), g 17 12 false (.bn .geq 0 (.t 13) (.t 16)), o 18 (.pick (.t 12) (.k (.bool true)) (.t 17)), o 19 (.mv (.t 18)), g 20 19 false (.fa 3 (.t 2)), g 21 19 false (.ld none (.t 20)), g 22 19 false (.mv (.t 1)),
  g 23 19 false (.ia 6 (.t 21) (.t 22)), g 24 19 false (.fa 3 (.t 23)), g 25 19 false (.ld none (.t 24)), g 26 19 false (.bn .lss 0 (.t 25) (.k (i 0))), o 27 (.pick (.t 19) (.k (.bool true)) (.t 26)), o 28 (.mv (.t 27)),
  g 29 28 false (.ld (some 8) (.t 2)), g 30 28 false (.call 7 24 [(.t 29)]), g 31 28 false (.un .not (.t 30)), o 32 (.pick (.t 28) (.k (.bool true)) (.t 31)), .cond (.t 32) [o 4 (.mv (.k nl)), .ret] [], o 5 (.mv (.k nl)), o 33 (.fa 7 (.t 2)),
  o 34 (.ld none (.t 33)), o 35 (.len false (.t 34)), o 36 (.mv (.k (i 0))), .block 0 [.loop [o 37 (.bn .lss 0 (.t 36) (.t 35)), .cond (.t 37) [] [.exit 0], .block 1 [o 38 (.mv (.t 36)), o 39 (.ia 5 (.t 34) (.t 36)), o 40 (.ld (some 5) (.t 39)),
  o 7 (.al 0 (.agg [(i 0), (i 0), (i 0), (.int .u32 0), (i 0)])), o 6 (.mv (.t 38)), .stf 5 7 (.t 40), .draw 0 [0, 1, 2, 3, 4, 5, 6, 7, 8, 9, 10, 11, 12, 13] [] [o 42 (.ld (some 8) (.t 2)), o 43 (.fa 3 (.t 2)), o 44 (.ld none (.t 43)),
  o 45 (.mv (.t 1)), o 46 (.ia 6 (.t 44) (.t 45)), o 47 (.fa 3 (.t 46)), o 48 (.ld none (.t 47)), o 49 (.mv (.t 6)), o 50 (.call 0 186 [(.t 42), (.t 48), (.t 49)]), o 41 (.mv (.t 50)), o 51 (.ext (.t 41) 0), o 52 (.ext (.t 41) 1),
  o 8 (.mv (.t 51)), o 9 (.mv (.t 52))], o 53 (.mv (.t 9)), .cond (.t 53) [o 54 (.mv (.t 5)), o 55 (.mv (.t 6)), o 56 (.fa 1 (.t 7)), o 57 (.ld none (.t 56)), o 58 (.mv (.t 8)), o 59 (.bld [(i 0), (i 0), (.int .u32 0)] [(0, 1, (.t 55)), (1, 1,
  (.t 57)), (2, 1, (.t 58))]), o 60 (.bsl (.agg [(i 0), (i 0), (.int .u32 0)]) 1 [(0, (.t 59))]), o 61 (.app 0 3 (.t 54) (.t 60)), o 5 (.mv (.t 61))] []], o 62 (.bn .add 0 (.t 36) (.k (i 1))), o 36 (.mv (.t 62))]], o 63 (.mv (.t 5)),
  o 4 (.mv (.t 63)), .ret], 64, [.tmp 4]⟩
theorem c132 : chkF Tryz.prog 132 p132 = true := by decide +kernel
/- paling/tree.open -/
def p133 : PFn := ⟨[o 2 (.bxd 0 (.t 0)), o 4 (.mv (.k .nilp)), o 5 (.mv (.k (i 0))), o 8 (.mv (.t 1)), o 9 (.len false (.t 8)), o 10 (.fa 2 (.t 2)), o 11 (.ld none (.t 10)), o 12 (.len false (.t 11)), o 13 (.bn .neq 0 (.t 9) (.t 12)),
  o 14 (.mv (.t 13)), g 15 14 false (.ld (some 8) (.t 2)), g 16 14 false (.call 7 24 [(.t 15)]), g 17 14 false (.un .not (.t 16)), o 18 (.pick (.t 14) (.k (.bool true)) (.t 17)), o 19 (.mv (.t 18)), g 20 19 false (.ld (some 8) (.t 2)),
  g 21 19 false (.call 7 187 [(.t 20)]), g 22 19 false (.un .not (.t 21)), o 23 (.pick (.t 19) (.k (.bool true)) (.t 22)), .cond (.t 23) [o 4 (.mv (.k .nilp)), o 5 (.mv (.k (i 2))), .ret] [], .draw 3 [0, 1, 2, 3, 4, 5, 6, 8, 9, 10, 7, 11, 12,
  13, 14] [] [o 24 (.ld (some 8) (.t 2)), o 25 (.mv (.t 1)), o 26 (.ld (some 8) (.t 2)), o 27 (.call 0 188 [(.t 26)]), o 28 (.fa 0 (.t 2)), o 29 (.ld none (.t 28)), o 30 (.len false (.t 29)), o 32 (.fa 0 (.t 2)), o 33 (.ld none (.t 32)),
  o 34 (.len false (.t 33)), o 31 (.mk 1 (i 0) (.t 30) (.t 30)), o 35 (.mk 2 (i 0) (.t 34) (.t 34)), o 36 (.bld [nl, nl, nl, nl, nl, nl, nl, nl, nl, nl, nl, nl] [(0, 8, (.t 24)), (8, 1, (.t 25)), (9, 1, (.t 27)), (10, 1, (.t 31)), (11, 1,
  (.t 35))]), o 37 (.bxm 3 (.t 36)), o 6 (.mv (.t 37))], o 38 (.mv (.t 6)), o 39 (.nc (.t 38)), o 40 (.fa 10 (.t 39)), o 41 (.ld none (.t 40)), o 42 (.len false (.t 41)), o 43 (.mv (.k (i 0))), .block 0 [.loop [o 44 (.bn .lss 0 (.t 43) (.t 42)),
  .cond (.t 44) [] [.exit 0], .block 1 [o 45 (.mv (.t 43)), o 7 (.mv (.t 45)), o 46 (.mv (.t 6)), o 47 (.nc (.t 46)), o 48 (.fa 10 (.t 47)), o 49 (.ld none (.t 48)), o 50 (.mv (.t 7)), o 51 (.ia 1 (.t 49) (.t 50)),
  e (.st 1 (.t 51) (.k (i (-1))))], o 52 (.bn .add 0 (.t 43) (.k (i 1))), o 43 (.mv (.t 52))]], o 53 (.mv (.t 6)), o 54 (.call 4 189 [(.t 53)]), o 55 (.mv (.t 6)), o 4 (.mv (.t 55)), o 5 (.mv (.k (i 0))), .ret], 56, [.tmp 4, .tmp 5]⟩
theorem c133 : chkF Tryz.prog 133 p133 = true := by decide +kernel
/- (*paling/tree.span).roles -/
def p134 : PFn := ⟨[o 2 (.mv (.k nl)), o 8 (.mv (.t 0)), o 9 (.nc (.t 8)), o 10 (.fa 0 (.t 9)), o 11 (.fa 1 (.t 10)), o 12 (.ld none (.t 11)), o 13 (.len false (.t 12)), o 14 (.mk 0 (i 0) (.t 13) (.t 13)), o 3 (.mv (.t 14)),
  o 15 (.mv (.t 0)), o 16 (.nc (.t 15)), o 17 (.fa 0 (.t 16)), o 18 (.fa 1 (.t 17)), o 19 (.ld none (.t 18)), o 20 (.len false (.t 19)), o 21 (.mv (.k (i 0))), .block 0 [.loop [o 22 (.bn .lss 0 (.t 21) (.t 20)), .cond (.t 22) [] [.exit 0],
  .block 1 [o 23 (.mv (.t 21)), o 4 (.mv (.t 23)), o 24 (.mv (.t 0)), o 25 (.mv (.t 4)), o 26 (.call 4 190 [(.t 24), (.t 25)]), o 5 (.mv (.t 26)), .block 2 [o 31 (.mv (.t 5)), o 32 (.bn .lss 0 (.t 31) (.k (i 0))), o 30 (.mv (.t 32)),
  .cond (.t 30) [] [o 34 (.mv (.t 0)), o 35 (.mv (.t 4)), o 36 (.mv (.t 5)), o 37 (.call 4 191 [(.t 34), (.t 35), (.t 36)]), o 33 (.mv (.t 37)), .cond (.t 33) [o 38 (.mv (.t 3)), o 39 (.mv (.t 4)), o 40 (.ia 1 (.t 38) (.t 39)),
  e (.st 1 (.t 40) (.k (i 2)))] [o 27 (.mv (.t 3)), o 28 (.mv (.t 4)), o 29 (.ia 1 (.t 27) (.t 28)), e (.st 1 (.t 29) (.k (i 3)))]]]], o 41 (.bn .add 0 (.t 21) (.k (i 1))), o 21 (.mv (.t 41))]], o 42 (.mv (.t 0)), o 43 (.nc (.t 42)),
  o 44 (.fa 0 (.t 43)), o 45 (.fa 0 (.t 44)), o 46 (.ld none (.t 45)), o 47 (.len false (.t 46)), o 48 (.mv (.k (i 0))), .block 3 [.loop [o 49 (.bn .lss 0 (.t 48) (.t 47)), .cond (.t 49) [] [.exit 3], .block 4 [o 50 (.mv (.t 48)),
  o 6 (.mv (.t 50)), o 51 (.mv (.t 0)), o 52 (.mv (.t 6)), o 53 (.call 4 192 [(.t 51), (.t 52)]), o 7 (.mv (.t 53)), o 54 (.mv (.t 7)), o 55 (.bn .geq 0 (.t 54) (.k (i 0))), .cond (.t 55) [o 56 (.mv (.t 3)), o 57 (.mv (.t 7)),
  o 58 (.ia 1 (.t 56) (.t 57)), e (.st 1 (.t 58) (.k (i 1)))] []], o 59 (.bn .add 0 (.t 48) (.k (i 1))), o 48 (.mv (.t 59))]], o 60 (.mv (.t 3)), o 2 (.mv (.t 60)), .ret], 61, [.tmp 2]⟩
theorem c134 : chkF Tryz.prog 134 p134 = true := by decide +kernel
/- paling/enter.At -/
def p145 : PFn := ⟨[o 3 (.bxd 0 (.t 0)), o 6 (.mv (.k (i 0))), o 7 (.al 0 (.agg [(.int .u64 0), (.int .u64 0), (i 0), nl])), o 8 (.mv (.k (i 0))), o 14 (.mv (.t 1)), o 15 (.bn .lss 0 (.t 14) (.k (i 0))), o 16 (.mv (.t 15)),
  g 17 16 false (.mv (.t 1)), g 18 16 false (.fa 1 (.t 3)), g 19 16 false (.ld none (.t 18)), g 20 16 false (.len false (.t 19)), g 21 16 false (.bn .geq 0 (.t 17) (.t 20)), o 22 (.pick (.t 16) (.k (.bool true)) (.t 21)), o 23 (.mv (.t 22)),
  g 24 23 false (.ld (some 8) (.t 3)), g 25 23 false (.call 7 24 [(.t 24)]), g 26 23 false (.un .not (.t 25)), o 27 (.pick (.t 23) (.k (.bool true)) (.t 26)), .cond (.t 27) [o 28 (.bld [(.int .u64 0), (.int .u64 0), (i 0), nl] []),
  o 6 (.mv (.k (i 0))), e (.st 4 (.t 7) (.t 28)), o 8 (.mv (.k (i 2))), .ret] [], o 30 (.mv (.t 2)), o 31 (.call 7 87 [(.t 30)]), o 29 (.mv (.t 31)), o 32 (.ext (.t 29) 0), o 33 (.ext (.t 29) 1), e (.st 4 (.t 7) (.t 32)), o 8 (.mv (.t 33)),
  o 34 (.ld (some 4) (.t 7)), o 35 (.call 7 159 [(.t 34)]), o 9 (.mv (.t 35)), o 10 (.mv (.k (i 0))), o 36 (.mv (.t 8)), o 37 (.bn .eql 0 (.t 36) (.k (i 0))), o 38 (.mv (.t 37)), g 39 38 true (.mv (.t 9)),
  o 40 (.pick (.t 38) (.t 39) (.k (.bool false))), .cond (.t 40) [o 42 (.ld (some 4) (.t 7)), o 43 (.call 7 193 [(.t 42)]), o 41 (.mv (.t 43)), o 44 (.ext (.t 41) 0), o 45 (.ext (.t 41) 1), o 46 (.ext (.t 41) 2), o 47 (.ext (.t 41) 3),
  e (.st 4 (.t 7) (.t 44)), o 10 (.mv (.t 45)), o 8 (.mv (.t 47))] [], o 48 (.mv (.t 8)), o 49 (.bn .eql 0 (.t 48) (.k (i 0))), o 50 (.mv (.t 49)), g 51 50 true (.fa 1 (.t 7)), g 52 50 true (.ld none (.t 51)),
  g 53 50 true (.call 7 194 [(.t 52)]), o 54 (.pick (.t 50) (.t 53) (.k (.bool false))), .cond (.t 54) [o 8 (.mv (.k (i 11)))] [], o 55 (.fa 1 (.t 3)), o 56 (.ld none (.t 55)), o 57 (.mv (.t 1)), o 58 (.ia 7 (.t 56) (.t 57)),
  o 59 (.ld (some 7) (.t 58)), o 11 (.al 0 (.agg [(i 0), (i 0), (i 0), (i 0), (i 0), (.str []), nl])), .stf 7 11 (.t 59), o 61 (.ld (some 7) (.t 11)), o 62 (.mv (.t 9)), o 63 (.mv (.t 10)), o 64 (.call 7 195 [(.t 61), (.t 62), (.t 63)]),
  o 60 (.mv (.t 64)), o 65 (.ext (.t 60) 0), o 66 (.ext (.t 60) 1), o 12 (.mv (.t 65)), o 13 (.mv (.t 66)), o 67 (.mv (.t 8)), o 68 (.bn .eql 0 (.t 67) (.k (i 0))), o 69 (.mv (.t 68)), g 70 69 true (.mv (.t 13)), g 71 69 true (.un .not (.t 70)),
  o 72 (.pick (.t 69) (.t 71) (.k (.bool false))), .cond (.t 72) [o 8 (.mv (.k (i 16)))] [], o 73 (.mv (.t 8)), o 74 (.bn .neq 0 (.t 73) (.k (i 0))), .cond (.t 74) [o 75 (.bld [(.int .u64 0), (.int .u64 0), (i 0), nl] []), o 76 (.mv (.t 8)),
  o 6 (.mv (.k (i 0))), e (.st 4 (.t 7) (.t 75)), o 8 (.mv (.t 76)), .ret] [], .draw 0 [0, 1, 2, 3, 4, 5, 6, 7, 8] [] [o 77 (.ld (some 8) (.t 3)), o 78 (.fa 1 (.t 11)), o 79 (.ld none (.t 78)), o 80 (.mv (.t 12)), o 81 (.call 0 128 [(.t 77),
  (.t 79), (.t 80)]), o 82 (.ld (some 4) (.t 7)), o 6 (.mv (.t 81)), e (.st 4 (.t 7) (.t 82)), o 8 (.mv (.k (i 0)))], .ret], 83, [.tmp 6, .cell (some 4) 7, .tmp 8]⟩
theorem c145 : chkF Tryz.prog 145 p145 = true := by decide +kernel
/- (*paling/sim.Sim).come -/
def p146 : PFn := ⟨[o 6 (.bxd 0 (.t 2)), o 10 (.mv (.t 3)), o 11 (.bn .neq 0 (.t 10) (.k (i 0))), .cond (.t 11) [o 12 (.mv (.t 0)), o 13 (.mv (.t 3)), o 14 (.call 4 149 [(.t 12), (.t 13)]), .ret] [], .draw 0 [0, 1, 2, 3, 4, 5, 6, 7, 8, 9,
  10, 11, 12, 13] [] [o 16 (.mv (.t 0)), o 17 (.nc (.t 16)), o 18 (.fa 10 (.t 17)), o 19 (.ld none (.t 18)), o 20 (.mv (.t 1)), o 21 (.ia 1 (.t 19) (.t 20)), o 22 (.ld none (.t 21)), o 23 (.ld (some 7) (.t 6)), o 24 (.call 0 196 [(.t 22),
  (.t 23)]), o 15 (.mv (.t 24)), o 25 (.ext (.t 15) 0), o 26 (.ext (.t 15) 1), o 8 (.mv (.t 25)), o 9 (.mv (.t 26))], o 27 (.mv (.t 9)), o 28 (.un .not (.t 27)), .cond (.t 28) [o 29 (.mv (.t 0)), o 30 (.call 4 149 [(.t 29), (.k (i 3))]),
  .ret] [], o 31 (.mv (.t 0)), o 32 (.nc (.t 31)), o 33 (.fa 10 (.t 32)), o 34 (.ld none (.t 33)), o 35 (.mv (.t 1)), o 36 (.mv (.t 8)), o 37 (.ia 1 (.t 34) (.t 35)), e (.st 1 (.t 37) (.t 36))], 38, []⟩
theorem c146 : chkF Tryz.prog 146 p146 = true := by decide +kernel
/- paling/bridge.Step -/
def p147 : PFn := ⟨[o 6 (.bxd 0 (.t 0)), o 10 (.bxd 0 (.t 4)), o 12 (.mv (.k nl)), o 13 (.al 0 nl), o 14 (.mv (.k (i 0))), o 37 (.ld (some 8) (.t 6)), o 38 (.mv (.t 1)), o 39 (.mv (.t 3)), o 40 (.fa 0 (.t 10)), o 41 (.ld none (.t 40)),
  o 42 (.call 7 197 [(.t 37), (.t 38), (.t 39), (.t 41)]), o 36 (.mv (.t 42)), o 43 (.ext (.t 36) 0), o 44 (.ext (.t 36) 1), o 45 (.ext (.t 36) 2), o 15 (.mv (.t 43)), o 16 (.mv (.t 44)), o 17 (.mv (.t 45)), o 46 (.mv (.t 17)),
  o 47 (.bn .neq 0 (.t 46) (.k (i 0))), o 48 (.mv (.t 47)), g 49 48 false (.mv (.t 2)), g 50 48 false (.call 7 198 [(.t 49)]), g 51 48 false (.un .not (.t 50)), o 52 (.pick (.t 48) (.k (.bool true)) (.t 51)), .cond (.t 52) [o 12 (.mv (.k nl)),
  e (.st 1 (.t 13) (.k nl)), o 14 (.mv (.k (i 2))), .ret] [], o 53 (.mv (.t 2)), o 54 (.ld (some 7) (.t 10)), o 55 (.mv (.t 5)), o 56 (.call 7 199 [(.t 53), (.t 54), (.t 55)]), o 12 (.mv (.t 56)), o 58 (.ld (some 8) (.t 6)), o 59 (.mv (.t 3)),
  o 60 (.fa 3 (.t 10)), o 61 (.fa 0 (.t 60)), o 62 (.ld none (.t 61)), o 63 (.call 7 200 [(.t 58), (.t 59), (.t 62)]), o 57 (.mv (.t 63)), o 64 (.ext (.t 57) 0), o 65 (.ext (.t 57) 1), o 18 (.mv (.t 64)), o 19 (.mv (.t 65)), o 66 (.mv (.t 19)),
  .cond (.t 66) [o 68 (.ld (some 8) (.t 6)), o 69 (.mv (.t 18)), o 70 (.fa 3 (.t 10)), o 71 (.ld (some 4) (.t 70)), o 72 (.call 7 201 [(.t 68), (.t 69), (.t 71)]), o 67 (.mv (.t 72)), o 73 (.ext (.t 67) 0), o 74 (.ext (.t 67) 1),
  o 75 (.ext (.t 67) 2), o 21 (.al 0 (.agg [(.int .u64 0), (.int .u64 0), (i 0), nl])), o 20 (.mv (.t 73)), .stf 4 21 (.t 74), o 22 (.mv (.t 75)), o 76 (.mv (.t 22)), o 77 (.bn .neq 0 (.t 76) (.k (i 0))), .cond (.t 77) [o 78 (.mv (.t 12)),
  o 79 (.mv (.t 22)), o 12 (.mv (.t 78)), e (.st 1 (.t 13) (.k nl)), o 14 (.mv (.t 79)), .ret] [], .draw 0 [0, 1, 2, 3, 4, 5, 6, 7] [] [o 80 (.mv (.t 12)), o 81 (.mv (.t 20)), o 82 (.ld (some 4) (.t 21)), o 83 (.bld [(i 0), (i 0), (i 0), nl,
  (.int .u64 0), (.int .u64 0), (i 0), nl, (i 0)] [(0, 1, (.k (i 4))), (2, 1, (.t 81)), (4, 4, (.t 82))]), o 84 (.bsl (.agg [(i 0), (i 0), (i 0), nl, (.int .u64 0), (.int .u64 0), (i 0), nl, (i 0)]) 1 [(0, (.t 83))]), o 12 (.mv (.t 80)),
  e (.st 1 (.t 13) (.t 84)), o 14 (.mv (.k (i 0)))], .ret] [], o 85 (.mf 202 [] [(.t 13)]), o 23 (.mv (.t 85)), o 87 (.ld (some 8) (.t 6)), o 88 (.mv (.t 1)), o 89 (.mv (.t 12)), o 90 (.mv (.t 3)), o 91 (.fa 0 (.t 10)), o 92 (.ld none (.t 91)),
  o 93 (.fa 3 (.t 10)), o 94 (.fa 0 (.t 93)), o 95 (.ld none (.t 94)), o 96 (.call 7 203 [(.t 87), (.t 88), (.t 89), (.t 90), (.t 92), (.t 95)]), o 86 (.mv (.t 96)), o 97 (.ext (.t 86) 0), o 98 (.ext (.t 86) 1), o 99 (.ext (.t 86) 2),
  o 24 (.mv (.t 97)), o 25 (.mv (.t 98)), o 26 (.mv (.t 99)), o 100 (.mv (.t 24)), o 101 (.len false (.t 100)), o 102 (.mv (.k (i 0))), .block 0 [.loop [o 103 (.bn .lss 0 (.t 102) (.t 101)), .cond (.t 103) [] [.exit 0],
  .block 1 [o 104 (.ia 1 (.t 100) (.t 102)), o 105 (.ld none (.t 104)), o 28 (.mv (.t 105)), o 29 (.mv (.k (i 1))), o 106 (.fa 1 (.t 6)), o 107 (.ld none (.t 106)), o 108 (.mv (.t 28)), o 109 (.ia 7 (.t 107) (.t 108)), o 110 (.fa 4 (.t 109)),
  o 111 (.ld none (.t 110)), o 112 (.bn .geq 0 (.t 111) (.k (i 0))), .cond (.t 112) [o 29 (.mv (.k (i 2)))] [], o 114 (.ld (some 8) (.t 6)), o 115 (.mv (.t 28)), o 116 (.mv (.t 3)), o 117 (.fa 3 (.t 10)), o 118 (.ld (some 4) (.t 117)),
  o 119 (.call 7 204 [(.t 114), (.t 115), (.t 116), (.t 118)]), o 113 (.mv (.t 119)), o 120 (.ext (.t 113) 0), o 121 (.ext (.t 113) 1), o 30 (.mv (.t 120)), o 31 (.mv (.t 121)), o 122 (.mv (.t 23)), o 123 (.mv (.t 29)), o 124 (.mv (.t 28)),
  o 125 (.bld [(i 0), (i 0), (i 0), nl, (.int .u64 0), (.int .u64 0), (i 0), nl, (i 0)] [(0, 1, (.t 123)), (1, 1, (.t 124))]), o 126 (.mv (.t 30)), o 127 (.mv (.t 31)), o 128 (.callv 4 (.t 122) [(.t 125), (.t 126), (.t 127)])],
  o 129 (.bn .add 0 (.t 102) (.k (i 1))), o 102 (.mv (.t 129))]], o 130 (.mv (.t 25)), o 131 (.len false (.t 130)), o 132 (.mv (.k (i 0))), .block 2 [.loop [o 133 (.bn .lss 0 (.t 132) (.t 131)), .cond (.t 133) [] [.exit 2],
  .block 3 [o 134 (.ia 1 (.t 130) (.t 132)), o 135 (.ld none (.t 134)), o 33 (.mv (.t 135)), o 137 (.ld (some 8) (.t 6)), o 138 (.mv (.t 3)), o 139 (.mv (.t 33)), o 140 (.fa 3 (.t 10)), o 141 (.ld (some 4) (.t 140)),
  o 142 (.call 7 205 [(.t 137), (.t 138), (.t 139), (.t 141)]), o 136 (.mv (.t 142)), o 143 (.ext (.t 136) 0), o 144 (.ext (.t 136) 1), o 34 (.mv (.t 143)), o 35 (.mv (.t 144)), o 145 (.mv (.t 23)), o 146 (.mv (.t 33)), o 147 (.bld [(i 0),
  (i 0), (i 0), nl, (.int .u64 0), (.int .u64 0), (i 0), nl, (i 0)] [(0, 1, (.k (i 3))), (2, 1, (.t 146))]), o 148 (.mv (.t 34)), o 149 (.mv (.t 35)), o 150 (.callv 4 (.t 145) [(.t 147), (.t 148), (.t 149)])],
  o 151 (.bn .add 0 (.t 132) (.k (i 1))), o 132 (.mv (.t 151))]], .draw 0 [0, 1, 2, 3, 4] [] [o 152 (.mv (.t 12)), o 153 (.ld none (.t 13)), o 12 (.mv (.t 152)), e (.st 1 (.t 13) (.t 153)), o 14 (.mv (.k (i 0)))], .ret], 154, [.tmp 12,
  .cell none 13, .tmp 14]⟩
theorem c147 : chkF Tryz.prog 147 p147 = true := by decide +kernel
/- (*paling/sim.spanning).links -/
def p148 : PFn := ⟨[o 2 (.bxd 0 (.t 0)), o 3 (.bxd 0 (.t 1)), o 4 (.mv (.k nl)), o 5 (.ld none (.t 2)), o 6 (.nc (.t 5)), o 7 (.fa 1 (.t 6)), o 8 (.mf 206 [] [(.t 3), (.t 2)]), o 9 (.call 4 105 [(.t 7), (.t 8)]), o 10 (.ld none (.t 2)),
  o 11 (.nc (.t 10)), o 12 (.fa 4 (.t 11)), o 13 (.ld none (.t 12)), o 4 (.mv (.t 13)), .ret], 14, [.tmp 4]⟩
theorem c148 : chkF Tryz.prog 148 p148 = true := by decide +kernel
/- (*paling/sim.Sim).drop -/
def p149 : PFn := ⟨[o 4 (.mv (.t 0)), o 5 (.mv (.t 1)), o 6 (.nc (.t 4)), o 7 (.fa 13 (.t 6)), o 8 (.iaa 64 1 (.t 7) (.t 5)), o 9 (.call 4 207 [(.t 8), (.k (i 1))])], 10, []⟩
theorem c149 : chkF Tryz.prog 149 p149 = true := by decide +kernel
/- (*paling/sim.Sim).goes -/
def p150 : PFn := ⟨[o 4 (.bxd 0 (.t 1)), o 6 (.mv (.k nl)), o 16 (.mv (.t 2)), o 17 (.fa 4 (.t 4)), o 18 (.ld (some 4) (.t 17)), o 19 (.bld [(i 0), (i 0), (i 0), (.int .u64 0), (.int .u64 0), (i 0), nl] [(2, 1, (.t 16)), (3, 4, (.t 18))]),
  o 7 (.al 0 (.agg [(i 0), (i 0), (i 0), (.int .u64 0), (.int .u64 0), (i 0), nl])), e (.st 7 (.t 7) (.t 19)), o 20 (.fa 0 (.t 4)), o 21 (.ld none (.t 20)), .block 0 [o 27 (.bn .eql 0 (.t 21) (.k (i 1))), o 26 (.mv (.t 27)),
  .cond (.t 26) [o 28 (.fa 1 (.t 4)), o 29 (.ld none (.t 28)), o 30 (.mv (.t 2)), o 31 (.fa 3 (.t 4)), o 32 (.ld none (.t 31)), o 33 (.bld [(i 0), (i 0), nl] [(0, 1, (.t 29)), (1, 1, (.t 30)), (2, 1, (.t 32))]), o 34 (.bsl (.agg [(i 0), (i 0),
  nl]) 1 [(0, (.t 33))]), o 6 (.mv (.t 34)), .ret] [o 36 (.bn .eql 0 (.t 21) (.k (i 2))), o 35 (.mv (.t 36)), .cond (.t 35) [.draw 1 [0, 1, 2, 3, 4, 5, 6, 7, 8, 9, 10, 11, 12, 13, 14, 15, 16, 17, 18] [] [o 38 (.mv (.t 0)), o 39 (.nc (.t 38)),
  o 40 (.fa 0 (.t 39)), o 41 (.ld (some 8) (.t 40)), o 42 (.fa 1 (.t 4)), o 43 (.ld none (.t 42)), o 44 (.fa 3 (.t 4)), o 45 (.ld none (.t 44)), o 46 (.call 0 208 [(.t 41), (.t 43), (.t 45)]), o 37 (.mv (.t 46)), o 47 (.ext (.t 37) 0),
  o 48 (.ext (.t 37) 1), o 49 (.ext (.t 37) 2), o 50 (.ext (.t 37) 3), o 10 (.al 1 (.agg [(.int .u64 0), (.int .u64 0), (i 0), nl])), o 8 (.mv (.t 47)), o 9 (.mv (.t 48)), .stf 4 10 (.t 49), o 11 (.mv (.t 50))], .draw 0 [0, 1, 2, 3, 4, 5] [(53,
  10)] [o 51 (.mv (.t 8)), o 52 (.ld (some 4) (.t 10)), o 53 (.fa 0 (.t 7)), e (.st 1 (.t 53) (.t 51)), o 54 (.fa 3 (.t 7)), e (.st 4 (.t 54) (.t 52))], o 55 (.mv (.t 0)), o 56 (.mv (.t 9)), o 57 (.ld (some 7) (.t 7)), o 58 (.mv (.t 11)),
  o 59 (.call 4 146 [(.t 55), (.t 56), (.t 57), (.t 58)])] [o 61 (.bn .eql 0 (.t 21) (.k (i 3))), o 60 (.mv (.t 61)), .cond (.t 60) [.draw 1 [0, 1, 2, 3, 4, 5, 6, 7, 8, 9, 10, 11, 12, 13, 14, 15, 16] [] [o 63 (.mv (.t 0)), o 64 (.nc (.t 63)),
  o 65 (.fa 0 (.t 64)), o 66 (.ld (some 8) (.t 65)), o 67 (.fa 3 (.t 4)), o 68 (.ld none (.t 67)), o 69 (.call 0 209 [(.t 66), (.t 68)]), o 62 (.mv (.t 69)), o 70 (.ext (.t 62) 0), o 71 (.ext (.t 62) 1), o 72 (.ext (.t 62) 2),
  o 73 (.ext (.t 62) 3), o 14 (.al 1 (.agg [(.int .u64 0), (.int .u64 0), (i 0), nl])), o 12 (.mv (.t 70)), o 13 (.mv (.t 71)), .stf 4 14 (.t 72), o 15 (.mv (.t 73))], .draw 0 [0, 1, 2, 3, 4, 5, 6, 7] [(76, 14), (77, 14)] [o 74 (.mv (.t 12)),
  o 75 (.ld (some 4) (.t 14)), o 76 (.fa 0 (.t 7)), e (.st 1 (.t 76) (.k (i (-1)))), o 77 (.fa 1 (.t 7)), e (.st 1 (.t 77) (.t 74)), o 78 (.fa 3 (.t 7)), e (.st 4 (.t 78) (.t 75))], o 79 (.mv (.t 0)), o 80 (.mv (.t 13)),
  o 81 (.ld (some 7) (.t 7)), o 82 (.mv (.t 15)), o 83 (.call 4 146 [(.t 79), (.t 80), (.t 81), (.t 82)])] [o 85 (.bn .eql 0 (.t 21) (.k (i 4))), o 84 (.mv (.t 85)), .cond (.t 84) [o 86 (.fa 0 (.t 7)), e (.st 1 (.t 86) (.k (i (-2)))),
  o 87 (.mv (.t 0)), o 88 (.fa 2 (.t 4)), o 89 (.ld none (.t 88)), o 90 (.ld (some 7) (.t 7)), o 91 (.call 4 146 [(.t 87), (.t 89), (.t 90), (.k (i 0))])] [o 22 (.mv (.t 0)), o 23 (.fa 8 (.t 4)), o 24 (.ld none (.t 23)),
  o 25 (.call 4 149 [(.t 22), (.t 24)])]]]]], o 6 (.mv (.k nl)), .ret], 92, [.tmp 6]⟩
theorem c150 : chkF Tryz.prog 150 p150 = true := by decide +kernel
/- paling/table.Age -/
def p151 : PFn := ⟨[o 3 (.bxm 0 (.t 1)), o 4 (.mv (.k nl)), o 6 (.mv (.t 0)), o 7 (.call 8 210 [(.t 6)]), o 5 (.mv (.t 7)), o 8 (.mv (.t 0)), o 9 (.call 7 198 [(.t 8)]), o 10 (.un .not (.t 9)), o 11 (.mv (.t 10)),
  g 12 11 false (.ld none (.t 3)), g 13 11 false (.call 7 211 [(.t 12)]), g 14 11 false (.un .not (.t 13)), o 15 (.pick (.t 11) (.k (.bool true)) (.t 14)), .cond (.t 15) [o 16 (.mv (.t 5)), o 4 (.mv (.t 16)), .ret] [], o 17 (.mv (.t 5)),
  o 18 (.mf 213 [] [(.t 3)]), o 19 (.call 4 212 [(.t 17), (.t 18)]), o 4 (.mv (.t 19)), .ret], 20, [.tmp 4]⟩
theorem c151 : chkF Tryz.prog 151 p151 = true := by decide +kernel
/- paling/queue.all -/
def p152 : PFn := ⟨[o 2 (.mv (.k nl)), o 3 (.mv (.k nl)), o 6 (.mv (.t 0)), o 7 (.len false (.t 6)), o 8 (.mv (.k (i 0))), .block 0 [.loop [o 9 (.bn .lss 0 (.t 8) (.t 7)), .cond (.t 9) [] [.exit 0], .block 1 [o 10 (.ia 7 (.t 6) (.t 8)),
  o 11 (.ld (some 7) (.t 10)), o 5 (.al 0 (.agg [(i 0), (i 0), (i 0), (.int .u64 0), (.int .u64 0), (i 0), nl])), .stf 7 5 (.t 11), o 12 (.mv (.t 3)), o 13 (.ld (some 7) (.t 5)), o 14 (.call 7 153 [(.t 13)]), o 15 (.bsl (.agg [(i 0), (i 0),
  (i 0), (.int .u64 0), (.int .u64 0), (i 0), nl]) 1 [(0, (.t 14))]), o 16 (.app 0 7 (.t 12) (.t 15)), o 3 (.mv (.t 16))], o 17 (.bn .add 0 (.t 8) (.k (i 1))), o 8 (.mv (.t 17))]], o 18 (.mv (.t 3)), o 2 (.mv (.t 18)), .ret], 19, [.tmp 2]⟩
theorem c152 : chkF Tryz.prog 152 p152 = true := by decide +kernel
/- paling/queue.copied -/
def p153 : PFn := ⟨[o 1 (.bxm 0 (.t 0)), o 2 (.al 0 (.agg [(i 0), (i 0), (i 0), (.int .u64 0), (.int .u64 0), (i 0), nl])), o 3 (.fa 3 (.t 1)), o 4 (.ld (some 4) (.t 3)), o 5 (.call 7 214 [(.t 4)]), o 6 (.fa 3 (.t 1)),
  e (.st 4 (.t 6) (.t 5)), o 7 (.ld (some 7) (.t 1)), .stf 7 2 (.t 7), .ret], 8, [.cell (some 7) 2]⟩
theorem c153 : chkF Tryz.prog 153 p153 = true := by decide +kernel
/- slices.IndexFunc[[]paling/reach.Hop,paling/reach.Hop] -/
def p154 : PFn := ⟨[o 4 (.mv (.k (i 0))), o 6 (.mv (.t 0)), o 7 (.len false (.t 6)), o 8 (.mv (.k (i 0))), .block 0 [.loop [o 9 (.bn .lss 0 (.t 8) (.t 7)), .cond (.t 9) [] [.exit 0], .block 1 [o 10 (.mv (.t 8)), o 5 (.mv (.t 10)),
  o 11 (.mv (.t 1)), o 12 (.mv (.t 0)), o 13 (.mv (.t 5)), o 14 (.ia 4 (.t 12) (.t 13)), o 15 (.ld (some 4) (.t 14)), o 16 (.callv 4 (.t 11) [(.t 15)]), .cond (.t 16) [o 17 (.mv (.t 5)), o 4 (.mv (.t 17)), .ret] []],
  o 18 (.bn .add 0 (.t 8) (.k (i 1))), o 8 (.mv (.t 18))]], o 4 (.mv (.k (i (-1)))), .ret], 19, [.tmp 4]⟩
theorem c154 : chkF Tryz.prog 154 p154 = true := by decide +kernel
/- paling/witness.Bytes$1 -/
def p155 : PFn := ⟨[o 1 (.bxd 0 (.t 0)), o 2 (.mv (.k (.bool false))), o 3 (.fa 0 (.t 1)), o 4 (.ld none (.t 3)), o 5 (.bn .eql 0 (.t 4) (.k (i 3))), o 2 (.mv (.t 5)), .ret], 6, [.tmp 2]⟩
theorem c155 : chkF Tryz.prog 155 p155 = true := by decide +kernel
/- paling/ipv4.Put -/
def p156 : PFn := ⟨[o 1 (.bxd 0 (.t 0)), o 2 (.mv (.k nl)), o 3 (.mv (.k (i 0))), o 4 (.mv (.f 215)), .block 0 [o 8 (.mv (.t 4)), o 9 (.fa 0 (.t 1)), o 10 (.ld none (.t 9)), o 11 (.callv 4 (.t 8) [(.t 10), (.k (i 255))]),
  o 12 (.un .not (.t 11)), o 13 (.mv (.t 12)), g 14 13 false (.mv (.t 4)), g 15 13 false (.fa 2 (.t 1)), g 16 13 false (.ld none (.t 15)), g 17 13 false (.callv 4 (.t 14) [(.t 16), (.k (i 255))]), g 18 13 false (.un .not (.t 17)),
  o 19 (.pick (.t 13) (.k (.bool true)) (.t 18)), o 20 (.mv (.t 19)), g 21 20 false (.mv (.t 4)), g 22 20 false (.fa 3 (.t 1)), g 23 20 false (.ld none (.t 22)), g 24 20 false (.callv 4 (.t 21) [(.t 23), (.k (i 255))]),
  g 25 20 false (.un .not (.t 24)), o 26 (.pick (.t 20) (.k (.bool true)) (.t 25)), o 27 (.mv (.t 26)), g 28 27 false (.mv (.t 4)), g 29 27 false (.fa 1 (.t 1)), g 30 27 false (.ld none (.t 29)), g 31 27 false (.callv 4 (.t 28) [(.t 30),
  (.k (i 65535))]), g 32 27 false (.un .not (.t 31)), o 33 (.pick (.t 27) (.k (.bool true)) (.t 32)), o 7 (.mv (.t 33)), .cond (.t 7) [o 2 (.mv (.k nl)), o 3 (.mv (.k (i 11))), .ret] [o 35 (.fa 6 (.t 1)), o 36 (.ld none (.t 35)),
  o 37 (.len false (.t 36)), o 38 (.bn .gtr 0 (.t 37) (.k (i 1480))), o 34 (.mv (.t 38)), .cond (.t 34) [o 2 (.mv (.k nl)), o 3 (.mv (.k (i 14))), .ret] []]], o 39 (.fa 0 (.t 1)), o 40 (.ld none (.t 39)), o 41 (.bn .or 0 (.k (i 17664)) (.t 40)),
  o 42 (.fa 6 (.t 1)), o 43 (.ld none (.t 42)), o 44 (.len false (.t 43)), o 45 (.bn .add 0 (.k (i 20)) (.t 44)), o 46 (.fa 1 (.t 1)), o 47 (.ld none (.t 46)), o 48 (.fa 2 (.t 1)), o 49 (.ld none (.t 48)),
  o 50 (.bn .shl 0 (.t 49) (.k (.int .u64 8))), o 51 (.fa 3 (.t 1)), o 52 (.ld none (.t 51)), o 53 (.bn .or 0 (.t 50) (.t 52)), o 54 (.fa 4 (.t 1)), o 55 (.ld none (.t 54)), o 56 (.bn .shr 0 (.t 55) (.k (.int .u64 16))), o 57 (.cv .i64 (.t 56)),
  o 58 (.fa 4 (.t 1)), o 59 (.ld none (.t 58)), o 60 (.cv .i64 (.t 59)), o 61 (.fa 5 (.t 1)), o 62 (.ld none (.t 61)), o 63 (.bn .shr 0 (.t 62) (.k (.int .u64 16))), o 64 (.cv .i64 (.t 63)), o 65 (.fa 5 (.t 1)), o 66 (.ld none (.t 65)),
  o 67 (.cv .i64 (.t 66)), o 68 (.bsl (i 0) 10 [(0, (.t 41)), (1, (.t 45)), (2, (.t 47)), (3, (.k (i 0))), (4, (.t 53)), (5, (.k (i 0))), (6, (.t 57)), (7, (.t 60)), (8, (.t 64)), (9, (.t 67))]), o 69 (.call 5 216 [(.k nl), (.t 68)]),
  o 5 (.mv (.t 69)), o 70 (.mv (.t 5)), o 71 (.call 7 217 [(.t 70)]), o 6 (.mv (.t 71)), o 72 (.mv (.t 5)), o 73 (.mv (.t 5)), o 74 (.mv (.t 6)), o 75 (.bn .shr 0 (.t 74) (.k (.int .u64 8))), o 76 (.cv .u8 (.t 75)), o 77 (.mv (.t 6)),
  o 78 (.cv .u8 (.t 77)), o 79 (.ia 1 (.t 72) (.k (i 10))), e (.st 1 (.t 79) (.t 76)), o 80 (.ia 1 (.t 73) (.k (i 11))), e (.st 1 (.t 80) (.t 78)), o 81 (.mv (.t 5)), o 82 (.fa 6 (.t 1)), o 83 (.ld none (.t 82)), o 84 (.app 0 1 (.t 81) (.t 83)),
  o 2 (.mv (.t 84)), o 3 (.mv (.k (i 0))), .ret], 85, [.tmp 2, .tmp 3]⟩
theorem c156 : chkF Tryz.prog 156 p156 = true := by decide +kernel
/- paling/mac.Host -/
def p157 : PFn := ⟨[o 2 (.mv (.k (.int .u64 0))), o 3 (.mv (.t 0)), o 4 (.cv .u64 (.t 3)), o 5 (.bn .or 0 (.k (.int .u64 2199023255552)) (.t 4)), o 2 (.mv (.t 5)), .ret], 6, [.tmp 2]⟩
theorem c157 : chkF Tryz.prog 157 p157 = true := by decide +kernel
/- paling/mac.Take -/
def p158 : PFn := ⟨[o 4 (.mv (.k (.int .u64 0))), o 5 (.mv (.k (.bool false))), o 8 (.mv (.t 1)), o 9 (.bn .lss 0 (.t 8) (.k (i 0))), o 10 (.mv (.t 9)), g 11 10 false (.mv (.t 1)), g 12 10 false (.mv (.t 0)),
  g 13 10 false (.len false (.t 12)), g 14 10 false (.bn .sub 0 (.t 13) (.k (i 6))), g 15 10 false (.bn .gtr 0 (.t 11) (.t 14)), o 16 (.pick (.t 10) (.k (.bool true)) (.t 15)), .cond (.t 16) [o 4 (.mv (.k (.int .u64 0))),
  o 5 (.mv (.k (.bool false))), .ret] [], o 6 (.mv (.k (.int .u64 0))), o 17 (.mv (.k (i 0))), .block 0 [.loop [o 18 (.bn .lss 0 (.t 17) (.k (i 6))), .cond (.t 18) [] [.exit 0], .block 1 [o 19 (.mv (.t 17)), o 7 (.mv (.t 19)), o 20 (.mv (.t 6)),
  o 21 (.bn .shl 0 (.t 20) (.k (.int .u64 8))), o 22 (.mv (.t 0)), o 23 (.mv (.t 1)), o 24 (.mv (.t 7)), o 25 (.bn .add 0 (.t 23) (.t 24)), o 26 (.ia 1 (.t 22) (.t 25)), o 27 (.ld none (.t 26)), o 28 (.cv .u64 (.t 27)),
  o 29 (.bn .or 0 (.t 21) (.t 28)), o 6 (.mv (.t 29))], o 30 (.bn .add 0 (.t 17) (.k (i 1))), o 17 (.mv (.t 30))]], o 31 (.mv (.t 6)), o 4 (.mv (.t 31)), o 5 (.mv (.k (.bool true))), .ret], 32, [.tmp 4, .tmp 5]⟩
theorem c158 : chkF Tryz.prog 158 p158 = true := by decide +kernel
/- paling/tag.Is -/
def p159 : PFn := ⟨[o 1 (.bxd 0 (.t 0)), o 2 (.mv (.k (.bool false))), o 3 (.fa 2 (.t 1)), o 4 (.ld none (.t 3)), o 5 (.bn .eql 0 (.t 4) (.k (i 33024))), o 2 (.mv (.t 5)), .ret], 6, [.tmp 2]⟩
theorem c159 : chkF Tryz.prog 159 p159 = true := by decide +kernel
/- paling/mac.Put -/
def p160 : PFn := ⟨[o 4 (.mv (.k nl)), o 6 (.mv (.k (i 0))), .block 0 [.loop [o 7 (.bn .lss 0 (.t 6) (.k (i 6))), .cond (.t 7) [] [.exit 0], .block 1 [o 8 (.mv (.t 6)), o 5 (.mv (.t 8)), o 9 (.mv (.t 0)), o 10 (.mv (.t 1)),
  o 11 (.mv (.t 5)), o 12 (.call 7 218 [(.t 11)]), o 13 (.bn .shr 0 (.t 10) (.t 12)), o 14 (.cv .u8 (.t 13)), o 15 (.bsl (u 0) 1 [(0, (.t 14))]), o 16 (.app 0 1 (.t 9) (.t 15)), o 0 (.mv (.t 16))], o 17 (.bn .add 0 (.t 6) (.k (i 1))),
  o 6 (.mv (.t 17))]], o 18 (.mv (.t 0)), o 4 (.mv (.t 18)), .ret], 19, [.tmp 4]⟩
theorem c160 : chkF Tryz.prog 160 p160 = true := by decide +kernel
/- paling/num.Read -/
def p161 : PFn := ⟨[o 6 (.mv (.k (i 0))), o 7 (.mv (.k (.bool false))), o 11 (.mv (.t 0)), o 12 (.call 7 219 [(.t 11), (.k (.str [45]))]), o 8 (.mv (.t 12)), o 13 (.mv (.t 8)), o 14 (.bn .eql 0 (.t 13) (.k (.str []))), o 15 (.mv (.t 14)),
  g 16 15 false (.mv (.t 8)), g 17 15 false (.len true (.t 16)), g 18 15 false (.bn .gtr 0 (.t 17) (.k (i 10))), o 19 (.pick (.t 15) (.k (.bool true)) (.t 18)), .cond (.t 19) [o 6 (.mv (.k (i 0))), o 7 (.mv (.k (.bool false))), .ret] [],
  o 9 (.mv (.k (i 0))), o 20 (.mv (.t 8)), o 21 (.len true (.t 20)), o 22 (.mv (.k (i 0))), .block 0 [.loop [o 23 (.bn .lss 0 (.t 22) (.t 21)), .cond (.t 23) [] [.exit 0], .block 1 [o 24 (.mv (.t 22)), o 10 (.mv (.t 24)), o 25 (.mv (.t 8)),
  o 26 (.mv (.t 10)), o 27 (.ix (.t 25) (.t 26)), o 28 (.bn .lss 0 (.t 27) (.k (u 48))), o 29 (.mv (.t 28)), g 30 29 false (.mv (.t 8)), g 31 29 false (.mv (.t 10)), g 32 29 false (.ix (.t 30) (.t 31)),
  g 33 29 false (.bn .gtr 0 (.t 32) (.k (u 57))), o 34 (.pick (.t 29) (.k (.bool true)) (.t 33)), .cond (.t 34) [o 6 (.mv (.k (i 0))), o 7 (.mv (.k (.bool false))), .ret] [], o 35 (.mv (.t 9)), o 36 (.bn .mul 0 (.k (i 10)) (.t 35)),
  o 37 (.mv (.t 8)), o 38 (.mv (.t 10)), o 39 (.ix (.t 37) (.t 38)), o 40 (.bn .sub 0 (.t 39) (.k (u 48))), o 41 (.cv .i64 (.t 40)), o 42 (.bn .add 0 (.t 36) (.t 41)), o 9 (.mv (.t 42))], o 43 (.bn .add 0 (.t 22) (.k (i 1))),
  o 22 (.mv (.t 43))]], o 44 (.mv (.t 8)), o 45 (.len true (.t 44)), o 46 (.mv (.t 0)), o 47 (.len true (.t 46)), o 48 (.bn .lss 0 (.t 45) (.t 47)), .cond (.t 48) [o 49 (.mv (.t 9)), o 50 (.un .neg (.t 49)), o 9 (.mv (.t 50))] [],
  o 51 (.mv (.t 9)), o 52 (.mv (.t 1)), o 53 (.bn .lss 0 (.t 51) (.t 52)), o 54 (.mv (.t 53)), g 55 54 false (.mv (.t 9)), g 56 54 false (.mv (.t 2)), g 57 54 false (.bn .gtr 0 (.t 55) (.t 56)), o 58 (.pick (.t 54) (.k (.bool true)) (.t 57)),
  o 59 (.mv (.t 58)), g 60 59 false (.mv (.t 9)), g 61 59 false (.call 7 220 [(.t 60)]), g 62 59 false (.mv (.t 0)), g 63 59 false (.bn .neq 0 (.t 61) (.t 62)), o 64 (.pick (.t 59) (.k (.bool true)) (.t 63)), .cond (.t 64) [o 6 (.mv (.k (i 0))),
  o 7 (.mv (.k (.bool false))), .ret] [], o 65 (.mv (.t 9)), o 6 (.mv (.t 65)), o 7 (.mv (.k (.bool true))), .ret], 66, [.tmp 6, .tmp 7]⟩
theorem c161 : chkF Tryz.prog 161 p161 = true := by decide +kernel
/- paling/mac.Read -/
def p162 : PFn := ⟨[o 2 (.mv (.k (.int .u64 0))), o 3 (.mv (.k (.bool false))), o 8 (.mv (.t 0)), o 9 (.len true (.t 8)), o 10 (.bn .neq 0 (.t 9) (.k (i 17))), .cond (.t 10) [o 2 (.mv (.k (.int .u64 0))), o 3 (.mv (.k (.bool false))),
  .ret] [], o 4 (.mv (.k (.int .u64 0))), o 11 (.mv (.k (i 0))), .block 0 [.loop [o 12 (.bn .lss 0 (.t 11) (.k (i 6))), .cond (.t 12) [] [.exit 0], .block 1 [o 13 (.mv (.t 11)), o 5 (.mv (.t 13)), .draw 0 [0, 1, 2, 3, 4, 5, 6, 7, 8, 9, 10, 11,
  12] [] [o 14 (.mv (.t 0)), o 15 (.mv (.t 5)), o 16 (.bn .mul 0 (.k (i 3)) (.t 15)), o 17 (.ix (.t 14) (.t 16)), o 18 (.call 0 221 [(.t 17)]), o 19 (.mv (.t 0)), o 20 (.mv (.t 5)), o 21 (.bn .mul 0 (.k (i 3)) (.t 20)),
  o 22 (.bn .add 0 (.t 21) (.k (i 1))), o 23 (.ix (.t 19) (.t 22)), o 24 (.call 0 221 [(.t 23)]), o 6 (.mv (.t 18)), o 7 (.mv (.t 24))], o 25 (.mv (.t 6)), o 26 (.bn .gtr 0 (.t 25) (.k (.int .u64 15))), o 27 (.mv (.t 26)),
  g 28 27 false (.mv (.t 7)), g 29 27 false (.bn .gtr 0 (.t 28) (.k (.int .u64 15))), o 30 (.pick (.t 27) (.k (.bool true)) (.t 29)), o 31 (.mv (.t 30)), g 32 31 false (.mv (.t 5)), g 33 31 false (.bn .add 0 (.t 32) (.k (i 1))),
  g 34 31 false (.bn .lss 0 (.t 33) (.k (i 6))), g 35 31 false (.mv (.t 34)), g 36 35 true (.mv (.t 0)), g 37 35 true (.mv (.t 5)), g 38 35 true (.bn .mul 0 (.k (i 3)) (.t 37)), g 39 35 true (.bn .add 0 (.t 38) (.k (i 2))),
  g 40 35 true (.ix (.t 36) (.t 39)), g 41 35 true (.bn .neq 0 (.t 40) (.k (u 58))), g 42 31 false (.pick (.t 35) (.t 41) (.k (.bool false))), o 43 (.pick (.t 31) (.k (.bool true)) (.t 42)), .cond (.t 43) [o 2 (.mv (.k (.int .u64 0))),
  o 3 (.mv (.k (.bool false))), .ret] [], o 44 (.mv (.t 4)), o 45 (.bn .shl 0 (.t 44) (.k (.int .u64 8))), o 46 (.mv (.t 6)), o 47 (.bn .shl 0 (.t 46) (.k (.int .u64 4))), o 48 (.bn .or 0 (.t 45) (.t 47)), o 49 (.mv (.t 7)),
  o 50 (.bn .or 0 (.t 48) (.t 49)), o 4 (.mv (.t 50))], o 51 (.bn .add 0 (.t 11) (.k (i 1))), o 11 (.mv (.t 51))]], o 52 (.mv (.t 4)), o 2 (.mv (.t 52)), o 3 (.mv (.k (.bool true))), .ret], 53, [.tmp 2, .tmp 3]⟩
theorem c162 : chkF Tryz.prog 162 p162 = true := by decide +kernel
/- paling/stmt.station -/
def p163 : PFn := ⟨[o 2 (.mv (.k (.bool false))), o 6 (.mv (.t 0)), o 7 (.call 7 222 [(.t 6)]), o 5 (.mv (.t 7)), o 8 (.ext (.t 5) 0), o 9 (.ext (.t 5) 1), o 3 (.mv (.t 8)), o 4 (.mv (.t 9)), o 10 (.mv (.t 0)),
  o 11 (.bn .leq 0 (.t 10) (.k (.int .u64 281474976710655))), o 12 (.mv (.t 11)), g 13 12 true (.mv (.t 4)), g 14 12 true (.un .not (.t 13)), o 15 (.pick (.t 12) (.t 14) (.k (.bool false))), o 16 (.mv (.t 15)), g 17 16 true (.mv (.t 0)),
  g 18 16 true (.call 7 194 [(.t 17)]), g 19 16 true (.un .not (.t 18)), o 20 (.pick (.t 16) (.t 19) (.k (.bool false))), o 2 (.mv (.t 20)), .ret], 21, [.tmp 2]⟩
theorem c163 : chkF Tryz.prog 163 p163 = true := by decide +kernel
/- paling/stmt.members -/
def p164 : PFn := ⟨[o 1 (.bxd 0 (.t 0)), o 2 (.mv (.k (.bool false))), o 3 (.fa 10 (.t 1)), o 4 (.ld none (.t 3)), o 5 (.bn .gtr 0 (.t 4) (.k (i 0))), o 6 (.mv (.t 5)), g 7 6 false (.fa 13 (.t 1)), g 8 6 false (.ld none (.t 7)),
  g 9 6 false (.len false (.t 8)), g 10 6 false (.bn .gtr 0 (.t 9) (.k (i 0))), o 11 (.pick (.t 6) (.k (.bool true)) (.t 10)), o 12 (.mv (.t 11)), g 13 12 true (.fa 13 (.t 1)), g 14 12 true (.ld none (.t 13)), g 15 12 true (.fa 10 (.t 1)),
  g 16 12 true (.ld none (.t 15)), g 17 12 true (.call 7 72 [(.t 14), (.t 16)]), g 18 12 true (.un .not (.t 17)), o 19 (.pick (.t 12) (.t 18) (.k (.bool false))), o 2 (.mv (.t 19)), .ret], 20, [.tmp 2]⟩
theorem c164 : chkF Tryz.prog 164 p164 = true := by decide +kernel
/- strings.SplitSeq -/
def p165 : PFn := ⟨[o 4 (.mv (.k .nfun)), o 5 (.mv (.t 0)), o 6 (.mv (.t 1)), o 7 (.call 7 223 [(.t 5), (.t 6), (.k (i 0))]), o 4 (.mv (.t 7)), .ret], 8, [.tmp 4]⟩
theorem c165 : chkF Tryz.prog 165 p165 = true := by decide +kernel
/- paling/addr.small -/
def p166 : PFn := ⟨[o 4 (.mv (.k (i 0))), o 5 (.mv (.k (.bool false))), o 8 (.mv (.t 0)), o 9 (.len true (.t 8)), o 10 (.bn .eql 0 (.t 9) (.k (i 0))), o 11 (.mv (.t 10)), g 12 11 false (.mv (.t 0)), g 13 11 false (.len true (.t 12)),
  g 14 11 false (.bn .gtr 0 (.t 13) (.k (i 3))), o 15 (.pick (.t 11) (.k (.bool true)) (.t 14)), o 16 (.mv (.t 15)), g 17 16 false (.mv (.t 0)), g 18 16 false (.len true (.t 17)), g 19 16 false (.bn .gtr 0 (.t 18) (.k (i 1))),
  g 20 16 false (.mv (.t 19)), g 21 20 true (.mv (.t 0)), g 22 20 true (.ix (.t 21) (.k (i 0))), g 23 20 true (.bn .eql 0 (.t 22) (.k (u 48))), g 24 16 false (.pick (.t 20) (.t 23) (.k (.bool false))),
  o 25 (.pick (.t 16) (.k (.bool true)) (.t 24)), .cond (.t 25) [o 4 (.mv (.k (i 0))), o 5 (.mv (.k (.bool false))), .ret] [], o 6 (.mv (.k (i 0))), o 26 (.mv (.t 0)), o 27 (.len true (.t 26)), o 28 (.mv (.k (i 0))),
  .block 0 [.loop [o 29 (.bn .lss 0 (.t 28) (.t 27)), .cond (.t 29) [] [.exit 0], .block 1 [o 30 (.mv (.t 28)), o 7 (.mv (.t 30)), o 31 (.mv (.t 0)), o 32 (.mv (.t 7)), o 33 (.ix (.t 31) (.t 32)), o 34 (.bn .lss 0 (.t 33) (.k (u 48))),
  o 35 (.mv (.t 34)), g 36 35 false (.mv (.t 0)), g 37 35 false (.mv (.t 7)), g 38 35 false (.ix (.t 36) (.t 37)), g 39 35 false (.bn .gtr 0 (.t 38) (.k (u 57))), o 40 (.pick (.t 35) (.k (.bool true)) (.t 39)),
  .cond (.t 40) [o 4 (.mv (.k (i 0))), o 5 (.mv (.k (.bool false))), .ret] [], o 41 (.mv (.t 6)), o 42 (.bn .mul 0 (.k (i 10)) (.t 41)), o 43 (.mv (.t 0)), o 44 (.mv (.t 7)), o 45 (.ix (.t 43) (.t 44)), o 46 (.bn .sub 0 (.t 45) (.k (u 48))),
  o 47 (.cv .i64 (.t 46)), o 48 (.bn .add 0 (.t 42) (.t 47)), o 6 (.mv (.t 48))], o 49 (.bn .add 0 (.t 28) (.k (i 1))), o 28 (.mv (.t 49))]], o 50 (.mv (.t 6)), o 51 (.mv (.t 6)), o 52 (.mv (.t 1)), o 53 (.bn .leq 0 (.t 51) (.t 52)),
  o 4 (.mv (.t 50)), o 5 (.mv (.t 53)), .ret], 54, [.tmp 4, .tmp 5]⟩
theorem c166 : chkF Tryz.prog 166 p166 = true := by decide +kernel
/- paling/num.read[uint32] -/
def p167 : PFn := ⟨[o 4 (.mv (.k nl)), o 5 (.mv (.k (.bool false))), o 6 (.mv (.k nl)), o 7 (.mv (.k (.bool true))), .block 0 [.loop [o 11 (.mv (.t 7)), .cond (.t 11) [] [.exit 0], .block 1 [o 8 (.mv (.k (.str []))), o 13 (.mv (.t 0)),
  o 14 (.call 7 42 [(.t 13), (.k (.str [44]))]), o 12 (.mv (.t 14)), o 15 (.ext (.t 12) 0), o 16 (.ext (.t 12) 1), o 17 (.ext (.t 12) 2), o 8 (.mv (.t 15)), o 0 (.mv (.t 16)), o 7 (.mv (.t 17)), o 19 (.mv (.t 1)), o 20 (.mv (.t 8)),
  o 21 (.callv 4 (.t 19) [(.t 20)]), o 18 (.mv (.t 21)), o 22 (.ext (.t 18) 0), o 23 (.ext (.t 18) 1), o 9 (.mv (.t 22)), o 10 (.mv (.t 23)), o 24 (.mv (.t 10)), o 25 (.un .not (.t 24)), o 26 (.mv (.t 25)), g 27 26 false (.mv (.t 6)),
  g 28 26 false (.len false (.t 27)), g 29 26 false (.bn .eql 0 (.t 28) (.k (i 16))), o 30 (.pick (.t 26) (.k (.bool true)) (.t 29)), o 31 (.mv (.t 30)), g 32 31 false (.mv (.t 6)), g 33 31 false (.len false (.t 32)),
  g 34 31 false (.bn .gtr 0 (.t 33) (.k (i 0))), g 35 31 false (.mv (.t 34)), g 36 35 true (.mv (.t 6)), g 37 35 true (.mv (.t 6)), g 38 35 true (.len false (.t 37)), g 39 35 true (.bn .sub 0 (.t 38) (.k (i 1))),
  g 40 35 true (.ia 1 (.t 36) (.t 39)), g 41 35 true (.ld none (.t 40)), g 42 35 true (.mv (.t 9)), g 43 35 true (.bn .geq 0 (.t 41) (.t 42)), g 44 31 false (.pick (.t 35) (.t 43) (.k (.bool false))),
  o 45 (.pick (.t 31) (.k (.bool true)) (.t 44)), .cond (.t 45) [o 4 (.mv (.k nl)), o 5 (.mv (.k (.bool false))), .ret] [], o 46 (.mv (.t 6)), o 47 (.mv (.t 9)), o 48 (.bsl (.int .u32 0) 1 [(0, (.t 47))]), o 49 (.app 0 1 (.t 46) (.t 48)),
  o 6 (.mv (.t 49))]]], o 50 (.mv (.t 6)), o 4 (.mv (.t 50)), o 5 (.mv (.k (.bool true))), .ret], 51, [.tmp 4, .tmp 5]⟩
theorem c167 : chkF Tryz.prog 167 p167 = true := by decide +kernel
/- paling/num.ReadList -/
def p168 : PFn := ⟨[o 4 (.bxm 0 (.t 1)), o 5 (.bxm 0 (.t 2)), o 6 (.mv (.k nl)), o 7 (.mv (.k (.bool false))), o 8 (.mv (.t 0)), o 9 (.mf 225 [] [(.t 4), (.t 5)]), o 10 (.call 7 224 [(.t 8), (.t 9)]), o 11 (.ext (.t 10) 0),
  o 12 (.ext (.t 10) 1), o 6 (.mv (.t 11)), o 7 (.mv (.t 12)), .ret], 13, [.tmp 6, .tmp 7]⟩
theorem c168 : chkF Tryz.prog 168 p168 = true := by decide +kernel
/- paling/addr.First -/
def p169 : PFn := ⟨[o 1 (.bxd 0 (.t 0)), o 2 (.mv (.k (.int .u32 0))), o 3 (.ld (some 2) (.t 1)), o 4 (.call 7 226 [(.t 3)]), o 5 (.un .not (.t 4)), .cond (.t 5) [o 2 (.mv (.k (.int .u32 0))), .ret] [], .draw 0 [0, 1, 2, 3, 4,
  5] [] [o 6 (.fa 0 (.t 1)), o 7 (.ld none (.t 6)), o 8 (.ld (some 2) (.t 1)), o 9 (.call 0 227 [(.t 8)]), o 10 (.bn .andNot 0 (.t 7) (.t 9)), o 2 (.mv (.t 10))], .ret], 11, [.tmp 2]⟩
theorem c169 : chkF Tryz.prog 169 p169 = true := by decide +kernel
/- paling/addr.Last -/
def p170 : PFn := ⟨[o 1 (.bxd 0 (.t 0)), o 2 (.mv (.k (.int .u32 0))), o 3 (.ld (some 2) (.t 1)), o 4 (.call 7 226 [(.t 3)]), o 5 (.un .not (.t 4)), .cond (.t 5) [o 2 (.mv (.k (.int .u32 0))), .ret] [], .draw 0 [0, 1, 2, 3, 4,
  5] [] [o 6 (.fa 0 (.t 1)), o 7 (.ld none (.t 6)), o 8 (.ld (some 2) (.t 1)), o 9 (.call 0 227 [(.t 8)]), o 10 (.bn .or 0 (.t 7) (.t 9)), o 2 (.mv (.t 10))], .ret], 11, [.tmp 2]⟩
theorem c170 : chkF Tryz.prog 170 p170 = true := by decide +kernel
/- (*sync/atomic.Bool).Load -/
def p171 : PFn := ⟨[o 2 (.mv (.k (.bool false))), o 3 (.mv (.t 0)), o 4 (.nc (.t 3)), o 5 (.fa 0 (.t 4)), o 6 (.call 4 228 [(.t 5)]), o 7 (.bn .neq 0 (.t 6) (.k (.int .u32 0))), o 2 (.mv (.t 7)), .ret], 8, [.tmp 2]⟩
theorem c171 : chkF Tryz.prog 171 p171 = true := by decide +kernel
/- (*sync.Once).doSlow -/
def p172 : PFn := ⟨[o 4 (.mv (.t 0)), o 5 (.nc (.t 4)), o 6 (.fa 1 (.t 5)), o 7 (.call 4 229 [(.t 6)]), o 8 (.mv (.t 0)), o 9 (.nc (.t 8)), o 10 (.fa 1 (.t 9)), .dfr (.f 230) [(.t 10)], o 11 (.mv (.t 0)), o 12 (.nc (.t 11)),
  o 13 (.fa 0 (.t 12)), o 14 (.call 4 171 [(.t 13)]), o 15 (.un .not (.t 14)), .cond (.t 15) [o 16 (.mv (.t 0)), o 17 (.nc (.t 16)), o 18 (.fa 0 (.t 17)), .dfr (.f 231) [(.t 18), (.k (.bool true))], o 19 (.mv (.t 1)),
  o 20 (.callv 4 (.t 19) [])] []], 21, []⟩
theorem c172 : chkF Tryz.prog 172 p172 = true := by decide +kernel
/- paling/net.put -/
def p173 : PFn := ⟨[o 2 (.bxd 0 (.t 0)), o 3 (.bxd 0 (.t 1)), o 4 (.al 0 (.agg [nl, nl, nl, nl, nl, nl, nl, nl])), o 5 (.mv (.k (i 0))), o 6 (.fa 1 (.t 3)), o 7 (.ld none (.t 6)), .block 0 [o 9 (.bn .eql 0 (.t 7) (.k (i 1))),
  o 8 (.mv (.t 9)), .cond (.t 8) [o 10 (.ld (some 8) (.t 2)), o 11 (.ld (some 17) (.t 3)), o 12 (.call 7 232 [(.t 10), (.t 11)]), o 13 (.ext (.t 12) 0), o 14 (.ext (.t 12) 1), e (.st 8 (.t 4) (.t 13)), o 5 (.mv (.t 14)),
  .ret] [o 16 (.bn .eql 0 (.t 7) (.k (i 2))), o 15 (.mv (.t 16)), .cond (.t 15) [o 17 (.ld (some 8) (.t 2)), o 18 (.ld (some 17) (.t 3)), o 19 (.call 7 233 [(.t 17), (.t 18)]), o 20 (.ext (.t 19) 0), o 21 (.ext (.t 19) 1),
  e (.st 8 (.t 4) (.t 20)), o 5 (.mv (.t 21)), .ret] [o 23 (.bn .eql 0 (.t 7) (.k (i 3))), o 22 (.mv (.t 23)), .cond (.t 22) [o 24 (.ld (some 8) (.t 2)), o 25 (.ld (some 17) (.t 3)), o 26 (.call 7 234 [(.t 24), (.t 25)]), o 27 (.ext (.t 26) 0),
  o 28 (.ext (.t 26) 1), e (.st 8 (.t 4) (.t 27)), o 5 (.mv (.t 28)), .ret] [o 30 (.bn .eql 0 (.t 7) (.k (i 4))), o 29 (.mv (.t 30)), .cond (.t 29) [o 31 (.ld (some 8) (.t 2)), o 32 (.ld (some 17) (.t 3)), o 33 (.call 7 235 [(.t 31), (.t 32)]),
  o 34 (.ext (.t 33) 0), o 35 (.ext (.t 33) 1), e (.st 8 (.t 4) (.t 34)), o 5 (.mv (.t 35)), .ret] [o 37 (.bn .eql 0 (.t 7) (.k (i 5))), o 36 (.mv (.t 37)), .cond (.t 36) [o 38 (.ld (some 8) (.t 2)), o 39 (.ld (some 17) (.t 3)),
  o 40 (.call 7 236 [(.t 38), (.t 39)]), o 41 (.ext (.t 40) 0), o 42 (.ext (.t 40) 1), e (.st 8 (.t 4) (.t 41)), o 5 (.mv (.t 42)), .ret] [o 44 (.bn .eql 0 (.t 7) (.k (i 6))), o 43 (.mv (.t 44)), .cond (.t 43) [o 45 (.ld (some 8) (.t 2)),
  o 46 (.ld (some 17) (.t 3)), o 47 (.call 7 237 [(.t 45), (.t 46)]), o 48 (.ext (.t 47) 0), o 49 (.ext (.t 47) 1), e (.st 8 (.t 4) (.t 48)), o 5 (.mv (.t 49)), .ret] [o 51 (.bn .eql 0 (.t 7) (.k (i 7))), o 50 (.mv (.t 51)),
  .cond (.t 50) [o 52 (.ld (some 8) (.t 2)), o 53 (.ld (some 17) (.t 3)), o 54 (.call 7 238 [(.t 52), (.t 53)]), o 55 (.ext (.t 54) 0), o 56 (.ext (.t 54) 1), e (.st 8 (.t 4) (.t 55)), o 5 (.mv (.t 56)),
  .ret] [o 58 (.bn .eql 0 (.t 7) (.k (i 8))), o 57 (.mv (.t 58)), .cond (.t 57) [o 59 (.ld (some 8) (.t 2)), o 60 (.ld (some 17) (.t 3)), o 61 (.call 7 239 [(.t 59), (.t 60)]), o 62 (.ext (.t 61) 0), o 63 (.ext (.t 61) 1),
  e (.st 8 (.t 4) (.t 62)), o 5 (.mv (.t 63)), .ret] [o 65 (.bn .eql 0 (.t 7) (.k (i 9))), o 64 (.mv (.t 65)), .cond (.t 64) [o 66 (.ld (some 8) (.t 2)), o 67 (.ld (some 17) (.t 3)), o 68 (.call 7 240 [(.t 66), (.t 67)]), o 69 (.ext (.t 68) 0),
  o 70 (.ext (.t 68) 1), e (.st 8 (.t 4) (.t 69)), o 5 (.mv (.t 70)), .ret] []]]]]]]]]], o 71 (.bld [nl, nl, nl, nl, nl, nl, nl, nl] []), e (.st 8 (.t 4) (.t 71)), o 5 (.mv (.k (i 2))), .ret], 72, [.cell (some 8) 4, .tmp 5]⟩
theorem c173 : chkF Tryz.prog 173 p173 = true := by decide +kernel
/- paling/overlay.Mesh -/
def p174 : PFn := ⟨[o 1 (.bxd 0 (.t 0)), o 2 (.al 0 (.agg [nl, nl, nl, nl, nl, nl, nl, nl])), o 3 (.mv (.k (i 0))), o 4 (.mv (.k (i 0))), o 13 (.ld (some 8) (.t 1)), o 14 (.call 7 24 [(.t 13)]), o 15 (.un .not (.t 14)),
  .cond (.t 15) [o 16 (.bld [nl, nl, nl, nl, nl, nl, nl, nl] []), e (.st 8 (.t 2) (.t 16)), o 3 (.mv (.k (i 0))), o 4 (.mv (.k (i 2))), .ret] [], o 17 (.fa 5 (.t 1)), o 18 (.ld none (.t 17)), o 19 (.len false (.t 18)), o 20 (.mv (.k (i 0))),
  .block 0 [.loop [o 21 (.bn .lss 0 (.t 20) (.t 19)), .cond (.t 21) [] [.exit 0], .block 1 [o 22 (.ia 4 (.t 18) (.t 20)), o 23 (.ld (some 4) (.t 22)), o 6 (.al 0 (.agg [(i 0), (i 0), (i 0), nl])), .stf 4 6 (.t 23), o 24 (.ld (some 8) (.t 1)),
  o 25 (.ld (some 4) (.t 6)), o 26 (.call 7 241 [(.t 24), (.t 25)]), o 27 (.un .not (.t 26)), .cond (.t 27) [.draw 0 [0, 1, 2, 3, 4, 5] [(2, 29)] [o 28 (.bld [nl, nl, nl, nl, nl, nl, nl, nl] []), o 29 (.fa 0 (.t 6)), o 30 (.ld none (.t 29)),
  e (.st 8 (.t 2) (.t 28)), o 3 (.mv (.t 30)), o 4 (.mv (.k (i 36)))], .ret] []], o 31 (.bn .add 0 (.t 20) (.k (i 1))), o 20 (.mv (.t 31))]], o 32 (.ld (some 8) (.t 1)), o 33 (.call 8 78 [(.t 32)]), e (.st 8 (.t 2) (.t 33)), o 34 (.fa 3 (.t 1)),
  o 35 (.ld none (.t 34)), o 36 (.len false (.t 35)), o 37 (.mv (.k (i 0))), .block 2 [.loop [o 38 (.bn .lss 0 (.t 37) (.t 36)), .cond (.t 38) [] [.exit 2], .block 3 [o 39 (.mv (.t 37)), o 40 (.ia 6 (.t 35) (.t 37)), o 41 (.ld (some 6) (.t 40)),
  o 8 (.al 0 (.agg [(i 0), (i 0), (i 0), (i 0), (i 0), nl])), o 7 (.mv (.t 39)), .stf 6 8 (.t 41), o 9 (.mv (.k nl)), o 42 (.ld (some 8) (.t 1)), o 43 (.fa 0 (.t 8)), o 44 (.ld none (.t 43)), o 45 (.fa 2 (.t 8)), o 46 (.ld none (.t 45)),
  o 47 (.call 7 242 [(.t 42), (.t 44), (.t 46)]), o 10 (.mv (.t 47)), o 48 (.fa 2 (.t 8)), o 49 (.ld none (.t 48)), o 50 (.bn .neq 0 (.t 49) (.k (i 0))), o 51 (.mv (.t 50)), g 52 51 true (.mv (.t 10)),
  g 53 51 true (.bn .geq 0 (.t 52) (.k (i 0))), o 54 (.pick (.t 51) (.t 53) (.k (.bool false))), .cond (.t 54) [o 55 (.fa 5 (.t 1)), o 56 (.ld none (.t 55)), o 57 (.mv (.t 10)), o 58 (.ia 4 (.t 56) (.t 57)), o 59 (.fa 3 (.t 58)),
  o 60 (.ld none (.t 59)), o 61 (.len false (.t 60)), o 62 (.mv (.k (i 0))), .block 4 [.loop [o 63 (.bn .lss 0 (.t 62) (.t 61)), .cond (.t 63) [] [.exit 4], .block 5 [o 64 (.ia 1 (.t 60) (.t 62)), o 65 (.ld none (.t 64)), o 12 (.mv (.t 65)),
  .draw 0 [0, 1, 2, 3, 4, 5, 6, 7, 8, 9, 10] [] [o 66 (.mv (.t 9)), o 67 (.ld (some 8) (.t 1)), o 68 (.ld (some 8) (.t 1)), o 69 (.mv (.t 12)), o 70 (.call 0 244 [(.t 68), (.t 69)]), o 71 (.fa 2 (.t 8)), o 72 (.ld none (.t 71)),
  o 73 (.call 7 243 [(.t 67), (.t 70), (.t 72)]), o 74 (.bsl (i 0) 1 [(0, (.t 73))]), o 75 (.app 0 1 (.t 66) (.t 74)), o 9 (.mv (.t 75))]], o 76 (.bn .add 0 (.t 62) (.k (i 1))), o 62 (.mv (.t 76))]]] [], o 77 (.fa 3 (.t 2)),
  o 78 (.ld none (.t 77)), o 79 (.mv (.t 7)), o 80 (.mv (.t 9)), o 81 (.ia 6 (.t 78) (.t 79)), o 82 (.fa 5 (.t 81)), e (.st 1 (.t 82) (.t 80))], o 83 (.bn .add 0 (.t 37) (.k (i 1))), o 37 (.mv (.t 83))]], o 84 (.ld (some 8) (.t 2)),
  o 85 (.call 7 24 [(.t 84)]), o 86 (.un .not (.t 85)), .cond (.t 86) [o 87 (.bld [nl, nl, nl, nl, nl, nl, nl, nl] []), e (.st 8 (.t 2) (.t 87)), o 3 (.mv (.k (i 0))), o 4 (.mv (.k (i 36))), .ret] [], o 88 (.ld (some 8) (.t 2)),
  e (.st 8 (.t 2) (.t 88)), o 3 (.mv (.k (i 0))), o 4 (.mv (.k (i 0))), .ret], 89, [.cell (some 8) 2, .tmp 3, .tmp 4]⟩
theorem c174 : chkF Tryz.prog 174 p174 = true := by decide +kernel
/- paling/comps.Loop -/
def p175 : PFn := ⟨[o 1 (.bxd 0 (.t 0)), o 2 (.mv (.k (i 0))), o 3 (.mv (.k (.bool false))), o 9 (.ld (some 8) (.t 1)), o 10 (.call 7 24 [(.t 9)]), o 11 (.un .not (.t 10)), .cond (.t 11) [o 2 (.mv (.k (i 0))), o 3 (.mv (.k (.bool false))),
  .ret] [], o 12 (.fa 3 (.t 1)), o 13 (.ld none (.t 12)), o 14 (.len false (.t 13)), o 4 (.mv (.t 14)), o 15 (.mv (.t 4)), o 16 (.bn .mul 0 (.k (i 2)) (.t 15)), o 17 (.call 8 245 [(.t 16)]), o 5 (.mv (.t 17)), o 18 (.ld (some 8) (.t 1)),
  o 19 (.mv (.t 5)), o 20 (.call 4 246 [(.t 18), (.t 19)]), o 21 (.fa 3 (.t 1)), o 22 (.ld none (.t 21)), o 23 (.len false (.t 22)), o 24 (.mv (.k (i 0))), .block 0 [.loop [o 25 (.bn .lss 0 (.t 24) (.t 23)), .cond (.t 25) [] [.exit 0],
  .block 1 [o 26 (.mv (.t 24)), o 27 (.ia 6 (.t 22) (.t 24)), o 28 (.ld (some 6) (.t 27)), o 7 (.al 0 (.agg [(i 0), (i 0), (i 0), (i 0), (i 0), nl])), o 6 (.mv (.t 26)), .stf 6 7 (.t 28), o 29 (.fa 5 (.t 7)), o 30 (.ld none (.t 29)),
  o 31 (.len false (.t 30)), o 32 (.bn .eql 0 (.t 31) (.k (i 0))), .cond (.t 32) [.exit 1] [], o 33 (.mv (.t 4)), o 34 (.mv (.t 6)), o 35 (.fa 5 (.t 7)), o 36 (.ld none (.t 35)), o 37 (.call 7 247 [(.t 36)]), o 38 (.mn [(.t 34), (.t 37)]),
  o 39 (.bn .add 0 (.t 33) (.t 38)), o 8 (.mv (.t 39)), o 40 (.mv (.t 5)), o 41 (.mv (.t 6)), o 42 (.mv (.t 8)), o 43 (.call 4 248 [(.t 40), (.t 41), (.t 42)]), o 44 (.un .not (.t 43)), .cond (.t 44) [o 45 (.fa 4 (.t 7)),
  o 46 (.ld none (.t 45)), o 2 (.mv (.t 46)), o 3 (.mv (.k (.bool true))), .ret] []], o 47 (.bn .add 0 (.t 24) (.k (i 1))), o 24 (.mv (.t 47))]], o 2 (.mv (.k (i 0))), o 3 (.mv (.k (.bool false))), .ret], 48, [.tmp 2, .tmp 3]⟩
theorem c175 : chkF Tryz.prog 175 p175 = true := by decide +kernel
/- internal/stringslite.Index -/
def p176 : PFn := ⟨[o 4 (.mv (.k (i 0))), o 14 (.mv (.t 1)), o 15 (.len true (.t 14)), o 5 (.mv (.t 15)), .block 0 [o 17 (.mv (.t 5)), o 18 (.bn .eql 0 (.t 17) (.k (i 0))), o 19 (.mv (.t 18)), g 20 19 false (.mv (.t 1)),
  g 21 19 false (.mv (.t 0)), g 22 19 false (.bn .eql 0 (.t 20) (.t 21)), o 23 (.pick (.t 19) (.k (.bool true)) (.t 22)), o 16 (.mv (.t 23)), .cond (.t 16) [o 4 (.mv (.k (i 0))), .ret] [o 25 (.mv (.t 5)), o 26 (.bn .eql 0 (.t 25) (.k (i 1))),
  o 24 (.mv (.t 26)), .cond (.t 24) [o 27 (.mv (.t 0)), o 28 (.mv (.t 1)), o 29 (.ix (.t 28) (.k (i 0))), o 30 (.call 7 249 [(.t 27), (.t 29)]), o 4 (.mv (.t 30)), .ret] [o 32 (.mv (.t 5)), o 33 (.mv (.t 0)), o 34 (.len true (.t 33)),
  o 35 (.bn .geq 0 (.t 32) (.t 34)), o 31 (.mv (.t 35)), .cond (.t 31) [o 4 (.mv (.k (i (-1)))), .ret] [o 37 (.mv (.t 5)), o 38 (.bad), o 39 (.bn .leq 0 (.t 37) (.t 38)), o 40 (.mv (.t 39)), g 41 40 true (.mv (.t 0)),
  g 42 40 true (.len true (.t 41)), g 43 40 true (.bn .leq 0 (.t 42) (.k (i 64))), o 44 (.pick (.t 40) (.t 43) (.k (.bool false))), o 36 (.mv (.t 44)), .cond (.t 36) [o 45 (.mv (.t 0)), o 46 (.mv (.t 1)), o 47 (.call 7 250 [(.t 45), (.t 46)]),
  o 4 (.mv (.t 47)), .ret] []]]]], o 48 (.mv (.t 1)), o 49 (.ix (.t 48) (.k (i 0))), o 6 (.mv (.t 49)), o 50 (.mv (.t 1)), o 51 (.ix (.t 50) (.k (i 1))), o 7 (.mv (.t 51)), o 8 (.mv (.k (i 0))), o 52 (.mv (.t 0)), o 53 (.len true (.t 52)),
  o 54 (.mv (.t 5)), o 55 (.bn .sub 0 (.t 53) (.t 54)), o 56 (.bn .add 0 (.t 55) (.k (i 1))), o 9 (.mv (.t 56)), o 10 (.mv (.k (i 0))), .block 1 [.loop [o 57 (.mv (.t 8)), o 58 (.mv (.t 9)), o 59 (.bn .lss 0 (.t 57) (.t 58)),
  .cond (.t 59) [] [.exit 1], .block 2 [o 60 (.mv (.t 0)), o 61 (.mv (.t 8)), o 62 (.ix (.t 60) (.t 61)), o 63 (.mv (.t 6)), o 64 (.bn .neq 0 (.t 62) (.t 63)), .cond (.t 64) [o 65 (.mv (.t 0)), o 66 (.mv (.t 8)),
  o 67 (.bn .add 0 (.t 66) (.k (i 1))), o 68 (.mv (.t 9)), o 69 (.sls (.t 65) (some (.t 67)) (some (.t 68))), o 70 (.mv (.t 6)), o 71 (.call 7 249 [(.t 69), (.t 70)]), o 11 (.mv (.t 71)), o 72 (.mv (.t 11)), o 73 (.bn .lss 0 (.t 72) (.k (i 0))),
  .cond (.t 73) [o 4 (.mv (.k (i (-1)))), .ret] [], o 74 (.mv (.t 8)), o 75 (.mv (.t 11)), o 76 (.bn .add 0 (.t 75) (.k (i 1))), o 77 (.bn .add 0 (.t 74) (.t 76)), o 8 (.mv (.t 77))] [], o 78 (.mv (.t 0)), o 79 (.mv (.t 8)),
  o 80 (.bn .add 0 (.t 79) (.k (i 1))), o 81 (.ix (.t 78) (.t 80)), o 82 (.mv (.t 7)), o 83 (.bn .eql 0 (.t 81) (.t 82)), o 84 (.mv (.t 83)), g 85 84 true (.mv (.t 0)), g 86 84 true (.mv (.t 8)), g 87 84 true (.mv (.t 8)),
  g 88 84 true (.mv (.t 5)), g 89 84 true (.bn .add 0 (.t 87) (.t 88)), g 90 84 true (.sls (.t 85) (some (.t 86)) (some (.t 89))), g 91 84 true (.mv (.t 1)), g 92 84 true (.bn .eql 0 (.t 90) (.t 91)),
  o 93 (.pick (.t 84) (.t 92) (.k (.bool false))), .cond (.t 93) [o 94 (.mv (.t 8)), o 4 (.mv (.t 94)), .ret] [], o 95 (.mv (.t 8)), o 96 (.bn .add 0 (.t 95) (.k (i 1))), o 8 (.mv (.t 96)), o 97 (.mv (.t 10)),
  o 98 (.bn .add 0 (.t 97) (.k (i 1))), o 10 (.mv (.t 98)), o 99 (.mv (.t 5)), o 100 (.bad), o 101 (.bn .leq 0 (.t 99) (.t 100)), o 102 (.mv (.t 101)), g 103 102 true (.mv (.t 10)), g 104 102 true (.mv (.t 8)),
  g 105 102 true (.call 7 251 [(.t 104)]), g 106 102 true (.bn .gtr 0 (.t 103) (.t 105)), o 107 (.pick (.t 102) (.t 106) (.k (.bool false))), .cond (.t 107) [o 108 (.mv (.t 0)), o 109 (.mv (.t 8)), o 110 (.sls (.t 108) (some (.t 109)) none),
  o 111 (.mv (.t 1)), o 112 (.call 7 250 [(.t 110), (.t 111)]), o 12 (.mv (.t 112)), o 113 (.mv (.t 12)), o 114 (.bn .geq 0 (.t 113) (.k (i 0))), .cond (.t 114) [o 115 (.mv (.t 12)), o 116 (.mv (.t 8)), o 117 (.bn .add 0 (.t 115) (.t 116)),
  o 4 (.mv (.t 117)), .ret] [], o 4 (.mv (.k (i (-1)))), .ret] [o 118 (.mv (.t 5)), o 119 (.bad), o 120 (.bn .gtr 0 (.t 118) (.t 119)), o 121 (.mv (.t 120)), g 122 121 true (.mv (.t 10)), g 123 121 true (.mv (.t 8)),
  g 124 121 true (.bn .shr 0 (.t 123) (.k (.int .u64 4))), g 125 121 true (.bn .add 0 (.k (i 4)) (.t 124)), g 126 121 true (.bn .geq 0 (.t 122) (.t 125)), o 127 (.pick (.t 121) (.t 126) (.k (.bool false))), o 128 (.mv (.t 127)),
  g 129 128 true (.mv (.t 8)), g 130 128 true (.mv (.t 9)), g 131 128 true (.bn .lss 0 (.t 129) (.t 130)), o 132 (.pick (.t 128) (.t 131) (.k (.bool false))), .cond (.t 132) [o 133 (.mv (.t 0)), o 134 (.mv (.t 8)),
  o 135 (.sls (.t 133) (some (.t 134)) none), o 136 (.mv (.t 1)), o 137 (.call 7 252 [(.t 135), (.t 136)]), o 13 (.mv (.t 137)), o 138 (.mv (.t 13)), o 139 (.bn .lss 0 (.t 138) (.k (i 0))), .cond (.t 139) [o 4 (.mv (.k (i (-1)))), .ret] [],
  o 140 (.mv (.t 8)), o 141 (.mv (.t 13)), o 142 (.bn .add 0 (.t 140) (.t 141)), o 4 (.mv (.t 142)), .ret] []]]]], o 4 (.mv (.k (i (-1)))), .ret], 143, [.tmp 4]⟩
theorem c176 : chkF Tryz.prog 176 p176 = true := by decide +kernel
/- slices.IndexFunc[[]paling/api.Domain,paling/api.Domain] -/
def p177 : PFn := ⟨[o 4 (.mv (.k (i 0))), o 6 (.mv (.t 0)), o 7 (.len false (.t 6)), o 8 (.mv (.k (i 0))), .block 0 [.loop [o 9 (.bn .lss 0 (.t 8) (.t 7)), .cond (.t 9) [] [.exit 0], .block 1 [o 10 (.mv (.t 8)), o 5 (.mv (.t 10)),
  o 11 (.mv (.t 1)), o 12 (.mv (.t 0)), o 13 (.mv (.t 5)), o 14 (.ia 6 (.t 12) (.t 13)), o 15 (.ld (some 6) (.t 14)), o 16 (.callv 4 (.t 11) [(.t 15)]), .cond (.t 16) [o 17 (.mv (.t 5)), o 4 (.mv (.t 17)), .ret] []],
  o 18 (.bn .add 0 (.t 8) (.k (i 1))), o 8 (.mv (.t 18))]], o 4 (.mv (.k (i (-1)))), .ret], 19, [.tmp 4]⟩
theorem c177 : chkF Tryz.prog 177 p177 = true := by decide +kernel
/- (paling/names.judge).domain$1 -/
def p178 : PFn := ⟨[o 3 (.bxd 0 (.t 0)), o 4 (.mv (.k (.bool false))), o 5 (.fa 0 (.t 3)), o 6 (.ld none (.t 5)), o 7 (.ld none (.t 1)), o 8 (.bn .eql 0 (.t 6) (.t 7)), o 9 (.mv (.t 8)), g 10 9 true (.fa 1 (.t 3)),
  g 11 9 true (.ld none (.t 10)), g 12 9 true (.ld none (.t 2)), g 13 9 true (.bn .eql 0 (.t 11) (.t 12)), o 14 (.pick (.t 9) (.t 13) (.k (.bool false))), o 4 (.mv (.t 14)), .ret], 15, [.tmp 4]⟩
theorem c178 : chkF Tryz.prog 178 p178 = true := by decide +kernel
/- (paling/names.judge).vtep -/
def p179 : PFn := ⟨[o 2 (.bxd 0 (.t 0)), o 3 (.bxd 0 (.t 1)), o 4 (.mv (.k (.bool false))), o 5 (.fa 0 (.t 2)), o 6 (.fa 0 (.t 5)), o 7 (.ld none (.t 6)), o 8 (.fa 0 (.t 3)), o 9 (.ld none (.t 8)), o 10 (.ia 5 (.t 7) (.t 9)),
  o 11 (.fa 4 (.t 10)), o 12 (.ld none (.t 11)), o 13 (.bn .neq 0 (.t 12) (.k (.int .u32 0))), o 4 (.mv (.t 13)), .ret], 14, [.tmp 4]⟩
theorem c179 : chkF Tryz.prog 179 p179 = true := by decide +kernel
/- slices.IndexFunc[[]paling/api.Port,paling/api.Port] -/
def p180 : PFn := ⟨[o 4 (.mv (.k (i 0))), o 6 (.mv (.t 0)), o 7 (.len false (.t 6)), o 8 (.mv (.k (i 0))), .block 0 [.loop [o 9 (.bn .lss 0 (.t 8) (.t 7)), .cond (.t 9) [] [.exit 0], .block 1 [o 10 (.mv (.t 8)), o 5 (.mv (.t 10)),
  o 11 (.mv (.t 1)), o 12 (.mv (.t 0)), o 13 (.mv (.t 5)), o 14 (.ia 7 (.t 12) (.t 13)), o 15 (.ld (some 7) (.t 14)), o 16 (.callv 4 (.t 11) [(.t 15)]), .cond (.t 16) [o 17 (.mv (.t 5)), o 4 (.mv (.t 17)), .ret] []],
  o 18 (.bn .add 0 (.t 8) (.k (i 1))), o 8 (.mv (.t 18))]], o 4 (.mv (.k (i (-1)))), .ret], 19, [.tmp 4]⟩
theorem c180 : chkF Tryz.prog 180 p180 = true := by decide +kernel
/- slices.IndexFunc[[]paling/api.Device,paling/api.Device] -/
def p181 : PFn := ⟨[o 4 (.mv (.k (i 0))), o 6 (.mv (.t 0)), o 7 (.len false (.t 6)), o 8 (.mv (.k (i 0))), .block 0 [.loop [o 9 (.bn .lss 0 (.t 8) (.t 7)), .cond (.t 9) [] [.exit 0], .block 1 [o 10 (.mv (.t 8)), o 5 (.mv (.t 10)),
  o 11 (.mv (.t 1)), o 12 (.mv (.t 0)), o 13 (.mv (.t 5)), o 14 (.ia 5 (.t 12) (.t 13)), o 15 (.ld (some 5) (.t 14)), o 16 (.callv 4 (.t 11) [(.t 15)]), .cond (.t 16) [o 17 (.mv (.t 5)), o 4 (.mv (.t 17)), .ret] []],
  o 18 (.bn .add 0 (.t 8) (.k (i 1))), o 8 (.mv (.t 18))]], o 4 (.mv (.k (i (-1)))), .ret], 19, [.tmp 4]⟩
theorem c181 : chkF Tryz.prog 181 p181 = true := by decide +kernel
/- paling/names.find[paling/api.Domain] -/
def p182 : PFn := ⟨[o 3 (.bxd 0 (.t 0)), o 6 (.mv (.k (i 0))), o 7 (.ld (some 8) (.t 3)), o 8 (.call 7 24 [(.t 7)]), o 9 (.un .not (.t 8)), .cond (.t 9) [o 6 (.mv (.k (i (-1)))), .ret] [], o 10 (.mv (.t 1)), o 11 (.mv (.t 2)),
  o 12 (.call 7 177 [(.t 10), (.t 11)]), o 6 (.mv (.t 12)), .ret], 13, [.tmp 6]⟩
theorem c182 : chkF Tryz.prog 182 p182 = true := by decide +kernel
/- paling/names.Domain$1 -/
def p183 : PFn := ⟨[o 3 (.bxd 0 (.t 0)), o 4 (.mv (.k (.bool false))), o 5 (.fa 0 (.t 3)), o 6 (.ld none (.t 5)), o 7 (.ld none (.t 1)), o 8 (.bn .eql 0 (.t 6) (.t 7)), o 9 (.mv (.t 8)), g 10 9 true (.fa 1 (.t 3)),
  g 11 9 true (.ld none (.t 10)), g 12 9 true (.ld none (.t 2)), g 13 9 true (.bn .eql 0 (.t 11) (.t 12)), o 14 (.pick (.t 9) (.t 13) (.k (.bool false))), o 4 (.mv (.t 14)), .ret], 15, [.tmp 4]⟩
theorem c183 : chkF Tryz.prog 183 p183 = true := by decide +kernel
/- paling/reach.place -/
def p184 : PFn := ⟨[o 2 (.bxd 0 (.t 0)), o 4 (.mv (.k (.bool false))), o 5 (.mv (.t 1)), o 6 (.bn .geq 0 (.t 5) (.k (i 0))), o 7 (.mv (.t 6)), g 8 7 true (.mv (.t 1)), g 9 7 true (.fa 3 (.t 2)), g 10 7 true (.ld none (.t 9)),
  g 11 7 true (.len false (.t 10)), g 12 7 true (.bn .lss 0 (.t 8) (.t 11)), o 13 (.pick (.t 7) (.t 12) (.k (.bool false))), o 14 (.mv (.t 13)), g 15 14 true (.ld (some 8) (.t 2)), g 16 14 true (.call 7 24 [(.t 15)]),
  o 17 (.pick (.t 14) (.t 16) (.k (.bool false))), o 4 (.mv (.t 17)), .ret], 18, [.tmp 4]⟩
theorem c184 : chkF Tryz.prog 184 p184 = true := by decide +kernel
/- paling/links.Domain -/
def p185 : PFn := ⟨[o 3 (.bxd 0 (.t 0)), o 6 (.mv (.k (i 0))), o 7 (.mv (.k (.bool false))), o 12 (.ld (some 8) (.t 3)), o 13 (.mv (.t 1)), o 14 (.mv (.t 2)), o 15 (.call 7 253 [(.t 12), (.t 13), (.t 14)]), o 11 (.mv (.t 15)),
  o 16 (.ext (.t 11) 0), o 17 (.ext (.t 11) 1), o 18 (.ext (.t 11) 2), o 8 (.mv (.t 16)), o 9 (.mv (.t 17)), o 10 (.mv (.t 18)), o 19 (.mv (.t 10)), o 20 (.un .not (.t 19)), .cond (.t 20) [o 6 (.mv (.k (i 0))), o 7 (.mv (.k (.bool false))),
  .ret] [], .draw 0 [0, 1, 2, 3, 4, 5, 6, 7, 8, 9, 10] [] [o 21 (.ld (some 8) (.t 3)), o 22 (.fa 1 (.t 3)), o 23 (.ld none (.t 22)), o 24 (.mv (.t 8)), o 25 (.ia 7 (.t 23) (.t 24)), o 26 (.fa 1 (.t 25)), o 27 (.ld none (.t 26)),
  o 28 (.mv (.t 9)), o 29 (.call 0 128 [(.t 21), (.t 27), (.t 28)]), o 6 (.mv (.t 29)), o 7 (.mv (.k (.bool true)))], .ret], 30, [.tmp 6, .tmp 7]⟩
theorem c185 : chkF Tryz.prog 185 p185 = true := by decide +kernel
end Go.Proofs.YtjhcempjiokfdaaGreatDoor
