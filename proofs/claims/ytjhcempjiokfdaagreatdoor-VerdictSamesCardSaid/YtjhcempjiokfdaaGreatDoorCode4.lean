/- The functions' abstract code, each checked against the program's. Part 4. No condition. -/
import Derived.Test.YtjhcempjiokfdaaGreatDoorAbs4
import Derived.Test.YtjhcempjiokfdaaGreatDoorCode1
import Derived.Test.YtjhcempjiokfdaaGreatDoorProg
set_option linter.unusedSimpArgs false
set_option linter.unusedVariables false

-- ---- YtjhcempjiokfdaaGreatDoorCode4
namespace Go.Proofs.YtjhcempjiokfdaaGreatDoor
open Go.Proofs.Abs
set_option maxRecDepth 100000
/- (paling/leave.whole).tagged -/
def p281 : PFn := ⟨[o 3 (.bxd 0 (.t 0)), o 4 (.bxd 0 (.t 1)), o 6 (.mv (.k nl)), o 7 (.mv (.k (i 0))), o 11 (.ld (some 4) (.t 4)), o 12 (.mv (.t 2)), o 13 (.call 7 88 [(.t 11), (.t 12), (.k (i 0))]), o 10 (.mv (.t 13)),
  o 14 (.ext (.t 10) 0), o 15 (.ext (.t 10) 1), o 8 (.al 0 (.agg [(.int .u64 0), (.int .u64 0), (i 0), nl])), .stf 4 8 (.t 14), o 9 (.mv (.t 15)), o 16 (.mv (.t 9)), o 17 (.bn .neq 0 (.t 16) (.k (i 0))), .cond (.t 17) [o 18 (.mv (.t 9)),
  o 6 (.mv (.k nl)), o 7 (.mv (.t 18)), .ret] [], o 19 (.ld (some 4) (.t 8)), o 20 (.call 7 89 [(.t 19)]), o 21 (.ext (.t 20) 0), o 22 (.ext (.t 20) 1), o 6 (.mv (.t 21)), o 7 (.mv (.t 22)), .ret], 23, [.tmp 6, .tmp 7]⟩
theorem c281 : chkF Tryz.prog 281 p281 = true := by decide +kernel
/- (paling/leave.whole).bare -/
def p282 : PFn := ⟨[o 3 (.bxd 0 (.t 0)), o 4 (.bxd 0 (.t 1)), o 6 (.mv (.k nl)), o 7 (.mv (.k (i 0))), o 8 (.ld (some 4) (.t 4)), o 9 (.call 7 89 [(.t 8)]), o 10 (.ext (.t 9) 0), o 11 (.ext (.t 9) 1), o 6 (.mv (.t 10)), o 7 (.mv (.t 11)),
  .ret], 12, [.tmp 6, .tmp 7]⟩
theorem c282 : chkF Tryz.prog 282 p282 = true := by decide +kernel
/- paling/vxlan.Wrap -/
def p283 : PFn := ⟨[o 7 (.bxd 0 (.t 3)), o 8 (.mv (.k nl)), o 9 (.mv (.k (i 0))), o 17 (.ld (some 4) (.t 7)), o 18 (.call 7 159 [(.t 17)]), .cond (.t 18) [o 8 (.mv (.k nl)), o 9 (.mv (.k (i 15))), .ret] [], o 20 (.ld (some 4) (.t 7)),
  o 21 (.call 7 89 [(.t 20)]), o 19 (.mv (.t 21)), o 22 (.ext (.t 19) 0), o 23 (.ext (.t 19) 1), o 10 (.mv (.t 22)), o 11 (.mv (.t 23)), o 24 (.mv (.t 11)), o 25 (.bn .neq 0 (.t 24) (.k (i 0))), .cond (.t 25) [o 26 (.mv (.t 11)),
  o 8 (.mv (.k nl)), o 9 (.mv (.t 26)), .ret] [], o 28 (.mv (.t 2)), o 29 (.call 8 344 [(.t 28)]), o 27 (.mv (.t 29)), o 30 (.ext (.t 27) 0), o 31 (.ext (.t 27) 1), o 12 (.mv (.t 30)), o 11 (.mv (.t 31)), o 32 (.mv (.t 11)),
  o 33 (.bn .neq 0 (.t 32) (.k (i 0))), .cond (.t 33) [o 34 (.mv (.t 11)), o 8 (.mv (.k nl)), o 9 (.mv (.t 34)), .ret] [], o 35 (.mv (.t 10)), o 36 (.len false (.t 35)), o 37 (.bn .gtr 0 (.t 36) (.k (i 1464))), .cond (.t 37) [o 8 (.mv (.k nl)),
  o 9 (.mv (.k (i 14))), .ret] [], o 39 (.fa 0 (.t 7)), o 40 (.ld none (.t 39)), o 41 (.fa 1 (.t 7)), o 42 (.ld none (.t 41)), o 43 (.call 7 346 [(.t 40), (.t 42)]), o 44 (.mv (.t 12)), o 45 (.mv (.t 10)), o 46 (.app 0 1 (.t 44) (.t 45)),
  o 47 (.call 7 345 [(.t 43), (.k (i 4789)), (.t 46)]), o 38 (.mv (.t 47)), o 48 (.ext (.t 38) 0), o 49 (.ext (.t 38) 1), o 13 (.mv (.t 48)), o 14 (.mv (.t 49)), o 51 (.mv (.t 0)), o 52 (.mv (.t 1)), o 53 (.mv (.t 13)), o 54 (.bld [(i 0), (i 0),
  (i 0), (i 0), (.int .u32 0), (.int .u32 0), nl] [(2, 1, (.k (i 64))), (3, 1, (.k (i 17))), (4, 1, (.t 51)), (5, 1, (.t 52)), (6, 1, (.t 53))]), o 55 (.call 7 156 [(.t 54)]), o 50 (.mv (.t 55)), o 56 (.ext (.t 50) 0), o 57 (.ext (.t 50) 1),
  o 15 (.mv (.t 56)), o 16 (.mv (.t 57)), o 58 (.mv (.t 1)), o 59 (.call 7 157 [(.t 58)]), o 60 (.mv (.t 0)), o 61 (.call 7 157 [(.t 60)]), o 62 (.mv (.t 15)), o 63 (.bld [(.int .u64 0), (.int .u64 0), (i 0), nl] [(0, 1, (.t 59)), (1, 1,
  (.t 61)), (2, 1, (.k (i 2048))), (3, 1, (.t 62))]), o 64 (.call 7 89 [(.t 63)]), o 65 (.ext (.t 64) 0), o 66 (.ext (.t 64) 1), o 8 (.mv (.t 65)), o 9 (.mv (.t 66)), .ret], 67, [.tmp 8, .tmp 9]⟩
theorem c283 : chkF Tryz.prog 283 p283 = true := by decide +kernel
/- (paling/leave.whole).vtep -/
def p284 : PFn := ⟨[o 2 (.bxd 0 (.t 0)), o 4 (.mv (.k (.int .u32 0))), .draw 0 [0, 1, 2, 3, 4, 5, 6, 7, 8, 9, 10, 11, 12, 13] [] [o 5 (.fa 0 (.t 2)), o 6 (.fa 0 (.t 5)), o 7 (.ld none (.t 6)), o 8 (.fa 0 (.t 2)), o 9 (.fa 3 (.t 8)),
  o 10 (.ld none (.t 9)), o 11 (.mv (.t 1)), o 12 (.ia 6 (.t 10) (.t 11)), o 13 (.fa 0 (.t 12)), o 14 (.ld none (.t 13)), o 15 (.ia 5 (.t 7) (.t 14)), o 16 (.fa 4 (.t 15)), o 17 (.ld none (.t 16)), o 4 (.mv (.t 17))], .ret], 18, [.tmp 4]⟩
theorem c284 : chkF Tryz.prog 284 p284 = true := by decide +kernel
/- paling/links.Other -/
def p286 : PFn := ⟨[o 2 (.bxd 0 (.t 0)), o 4 (.mv (.k (i 0))), o 6 (.mv (.t 1)), o 7 (.bn .lss 0 (.t 6) (.k (i 0))), o 8 (.mv (.t 7)), g 9 8 false (.mv (.t 1)), g 10 8 false (.fa 1 (.t 2)), g 11 8 false (.ld none (.t 10)),
  g 12 8 false (.len false (.t 11)), g 13 8 false (.bn .geq 0 (.t 9) (.t 12)), o 14 (.pick (.t 8) (.k (.bool true)) (.t 13)), o 15 (.mv (.t 14)), g 16 15 false (.fa 1 (.t 2)), g 17 15 false (.ld none (.t 16)), g 18 15 false (.mv (.t 1)),
  g 19 15 false (.ia 7 (.t 17) (.t 18)), g 20 15 false (.fa 4 (.t 19)), g 21 15 false (.ld none (.t 20)), g 22 15 false (.bn .lss 0 (.t 21) (.k (i 0))), o 23 (.pick (.t 15) (.k (.bool true)) (.t 22)), o 24 (.mv (.t 23)),
  g 25 24 false (.ld (some 8) (.t 2)), g 26 24 false (.call 7 24 [(.t 25)]), g 27 24 false (.un .not (.t 26)), o 28 (.pick (.t 24) (.k (.bool true)) (.t 27)), .cond (.t 28) [o 4 (.mv (.k (i (-1)))), .ret] [], .draw 1 [0, 1, 2, 3, 4, 5, 6, 7, 8,
  9, 10, 11] [] [o 29 (.fa 2 (.t 2)), o 30 (.ld none (.t 29)), o 31 (.fa 1 (.t 2)), o 32 (.ld none (.t 31)), o 33 (.mv (.t 1)), o 34 (.ia 7 (.t 32) (.t 33)), o 35 (.fa 4 (.t 34)), o 36 (.ld none (.t 35)), o 37 (.ia 3 (.t 30) (.t 36)),
  o 38 (.ld (some 3) (.t 37)), o 5 (.al 1 (.agg [(i 0), (i 0), (i 0)])), .stf 3 5 (.t 38)], o 39 (.fa 1 (.t 5)), o 40 (.ld none (.t 39)), o 41 (.mv (.t 1)), o 42 (.bn .eql 0 (.t 40) (.t 41)), .cond (.t 42) [o 43 (.fa 2 (.t 5)),
  o 44 (.ld none (.t 43)), o 4 (.mv (.t 44)), .ret] [], o 45 (.fa 1 (.t 5)), o 46 (.ld none (.t 45)), o 4 (.mv (.t 46)), .ret], 47, [.tmp 4]⟩
theorem c286 : chkF Tryz.prog 286 p286 = true := by decide +kernel
/- paling/vxlan.Unwrap -/
def p287 : PFn := ⟨[o 2 (.mv (.k (.int .u32 0))), o 3 (.mv (.k (.int .u32 0))), o 4 (.mv (.k (i 0))), o 5 (.al 0 (.agg [(.int .u64 0), (.int .u64 0), (i 0), nl])), o 6 (.mv (.k (i 0))), o 8 (.bld [(i 0), (i 0), (i 0), (i 0), (.int .u32 0),
  (.int .u32 0), nl, (i 0), (i 0)] []), o 9 (.bxm 0 (.t 8)), o 7 (.mv (.t 9)), o 10 (.mv (.t 7)), o 11 (.mv (.t 0)), o 12 (.call 4 347 [(.t 10), (.t 11)]), o 13 (.mv (.t 7)), o 14 (.call 4 348 [(.t 13)]), e (.st 4 (.t 5) (.t 14)),
  o 15 (.mv (.t 7)), o 16 (.nc (.t 15)), o 17 (.fa 8 (.t 16)), o 18 (.ld none (.t 17)), o 19 (.bn .neq 0 (.t 18) (.k (i 0))), .cond (.t 19) [.draw 0 [0, 1, 2, 3, 4, 5, 6, 7, 8, 9] [(5, 23)] [o 20 (.bld [(.int .u64 0), (.int .u64 0), (i 0),
  nl] []), o 21 (.mv (.t 7)), o 22 (.nc (.t 21)), o 23 (.fa 8 (.t 22)), o 24 (.ld none (.t 23)), o 2 (.mv (.k (.int .u32 0))), o 3 (.mv (.k (.int .u32 0))), o 4 (.mv (.k (i 0))), e (.st 4 (.t 5) (.t 20)), o 6 (.mv (.t 24))], .ret] [],
  .draw 0 [0, 1, 2, 3, 4, 5, 6, 7, 8, 9, 10, 11, 12, 13, 14, 15, 16, 17, 18, 19, 20, 21, 22] [] [o 25 (.mv (.t 7)), o 26 (.nc (.t 25)), o 27 (.fa 0 (.t 26)), o 28 (.fa 0 (.t 27)), o 29 (.fa 4 (.t 28)), o 30 (.ld none (.t 29)), o 31 (.mv (.t 7)),
  o 32 (.nc (.t 31)), o 33 (.fa 0 (.t 32)), o 34 (.fa 0 (.t 33)), o 35 (.fa 5 (.t 34)), o 36 (.ld none (.t 35)), o 37 (.mv (.t 7)), o 38 (.nc (.t 37)), o 39 (.fa 0 (.t 38)), o 40 (.fa 7 (.t 39)), o 41 (.ld none (.t 40)),
  o 42 (.ld (some 4) (.t 5)), o 2 (.mv (.t 30)), o 3 (.mv (.t 36)), o 4 (.mv (.t 41)), e (.st 4 (.t 5) (.t 42)), o 6 (.mv (.k (i 0)))], .ret], 43, [.tmp 2, .tmp 3, .tmp 4, .cell (some 4) 5, .tmp 6]⟩
theorem c287 : chkF Tryz.prog 287 p287 = true := by decide +kernel
/- (paling/leave.whole).ends -/
def p288 : PFn := ⟨[o 4 (.bxd 0 (.t 0)), o 5 (.bxd 0 (.t 1)), o 6 (.bxd 0 (.t 2)), o 7 (.bxm 0 (.t 3)), o 8 (.mv (.k (i 0))), o 9 (.mv (.k (i 0))), o 14 (.fa 0 (.t 4)), o 15 (.fa 0 (.t 14)), o 16 (.ld none (.t 15)),
  o 17 (.mf 349 [] [(.t 6)]), o 18 (.call 7 181 [(.t 16), (.t 17)]), o 10 (.al 0 (i 0)), .stf 1 10 (.t 18), o 19 (.fa 0 (.t 4)), o 20 (.fa 3 (.t 19)), o 21 (.ld none (.t 20)), o 22 (.mf 350 [] [(.t 10), (.t 7)]), o 23 (.call 7 177 [(.t 21),
  (.t 22)]), o 11 (.mv (.t 23)), o 24 (.ld none (.t 10)), o 25 (.bn .lss 0 (.t 24) (.k (i 0))), o 26 (.mv (.t 25)), g 27 26 false (.mv (.t 11)), g 28 26 false (.bn .lss 0 (.t 27) (.k (i 0))), o 29 (.pick (.t 26) (.k (.bool true)) (.t 28)),
  .cond (.t 29) [o 8 (.mv (.k (i (-1)))), o 9 (.mv (.k (i (-1)))), .ret] [], o 30 (.fa 0 (.t 4)), o 31 (.fa 3 (.t 30)), o 32 (.ld none (.t 31)), o 33 (.mv (.t 11)), o 34 (.ia 6 (.t 32) (.t 33)), o 35 (.fa 5 (.t 34)), o 36 (.ld none (.t 35)),
  o 12 (.mv (.t 36)), o 37 (.mv (.t 12)), o 38 (.mf 352 [] [(.t 4), (.t 5)]), o 39 (.call 7 351 [(.t 37), (.t 38)]), o 13 (.mv (.t 39)), o 40 (.mv (.t 13)), o 41 (.bn .lss 0 (.t 40) (.k (i 0))), .cond (.t 41) [o 8 (.mv (.k (i (-1)))),
  o 9 (.mv (.k (i (-1)))), .ret] [], o 42 (.mv (.t 12)), o 43 (.mv (.t 13)), o 44 (.ia 1 (.t 42) (.t 43)), o 45 (.ld none (.t 44)), o 46 (.mv (.t 11)), o 8 (.mv (.t 45)), o 9 (.mv (.t 46)), .ret], 47, [.tmp 8, .tmp 9]⟩
theorem c288 : chkF Tryz.prog 288 p288 = true := by decide +kernel
/- slices.IndexFunc[[]paling/api.Entry,paling/api.Entry] -/
def p289 : PFn := ⟨[o 4 (.mv (.k (i 0))), o 6 (.mv (.t 0)), o 7 (.len false (.t 6)), o 8 (.mv (.k (i 0))), .block 0 [.loop [o 9 (.bn .lss 0 (.t 8) (.t 7)), .cond (.t 9) [] [.exit 0], .block 1 [o 10 (.mv (.t 8)), o 5 (.mv (.t 10)),
  o 11 (.mv (.t 1)), o 12 (.mv (.t 0)), o 13 (.mv (.t 5)), o 14 (.ia 3 (.t 12) (.t 13)), o 15 (.ld (some 3) (.t 14)), o 16 (.callv 4 (.t 11) [(.t 15)]), .cond (.t 16) [o 17 (.mv (.t 5)), o 4 (.mv (.t 17)), .ret] []],
  o 18 (.bn .add 0 (.t 8) (.k (i 1))), o 8 (.mv (.t 18))]], o 4 (.mv (.k (i (-1)))), .ret], 19, [.tmp 4]⟩
theorem c289 : chkF Tryz.prog 289 p289 = true := by decide +kernel
/- paling/sum.add -/
def p290 : PFn := ⟨[o 2 (.mv (.k (i 0))), o 3 (.mv (.k (i 0))), o 4 (.mv (.k (i 0))), .block 0 [.loop [o 5 (.mv (.t 4)), o 6 (.bn .add 0 (.t 5) (.k (i 1))), o 7 (.mv (.t 0)), o 8 (.len false (.t 7)), o 9 (.bn .lss 0 (.t 6) (.t 8)),
  .cond (.t 9) [] [.exit 0], .block 1 [.draw 0 [0, 1, 2, 3, 4, 5, 6, 7, 8, 9, 10, 11, 12, 13, 14, 15] [] [o 12 (.mv (.t 3)), o 13 (.mv (.t 0)), o 14 (.mv (.t 4)), o 15 (.ia 1 (.t 13) (.t 14)), o 16 (.ld none (.t 15)), o 17 (.cv .i64 (.t 16)),
  o 18 (.bn .shl 0 (.t 17) (.k (.int .u64 8))), o 19 (.mv (.t 0)), o 20 (.mv (.t 4)), o 21 (.bn .add 0 (.t 20) (.k (i 1))), o 22 (.ia 1 (.t 19) (.t 21)), o 23 (.ld none (.t 22)), o 24 (.cv .i64 (.t 23)), o 25 (.bn .or 0 (.t 18) (.t 24)),
  o 26 (.bn .add 0 (.t 12) (.t 25)), o 3 (.mv (.t 26))]], o 10 (.mv (.t 4)), o 11 (.bn .add 0 (.t 10) (.k (i 2))), o 4 (.mv (.t 11))]], o 27 (.mv (.t 0)), o 28 (.len false (.t 27)), o 29 (.bn .and 0 (.t 28) (.k (i 1))),
  o 30 (.bn .eql 0 (.t 29) (.k (i 1))), .cond (.t 30) [o 31 (.mv (.t 3)), o 32 (.mv (.t 0)), o 33 (.mv (.t 0)), o 34 (.len false (.t 33)), o 35 (.bn .sub 0 (.t 34) (.k (i 1))), o 36 (.ia 1 (.t 32) (.t 35)), o 37 (.ld none (.t 36)),
  o 38 (.cv .i64 (.t 37)), o 39 (.bn .shl 0 (.t 38) (.k (.int .u64 8))), o 40 (.bn .add 0 (.t 31) (.t 39)), o 3 (.mv (.t 40))] [], o 41 (.mv (.t 3)), o 42 (.call 7 353 [(.t 41)]), o 2 (.mv (.t 42)), .ret], 43, [.tmp 2]⟩
theorem c290 : chkF Tryz.prog 290 p290 = true := by decide +kernel
/- internal/stringslite.TrimPrefix -/
def p291 : PFn := ⟨[o 4 (.mv (.k (.str []))), o 5 (.mv (.t 0)), o 6 (.mv (.t 1)), o 7 (.call 7 354 [(.t 5), (.t 6)]), .cond (.t 7) [o 8 (.mv (.t 0)), o 9 (.mv (.t 1)), o 10 (.len true (.t 9)), o 11 (.sls (.t 8) (some (.t 10)) none),
  o 4 (.mv (.t 11)), .ret] [], o 12 (.mv (.t 0)), o 4 (.mv (.t 12)), .ret], 13, [.tmp 4]⟩
theorem c291 : chkF Tryz.prog 291 p291 = true := by decide +kernel
/- strings.splitSeq$1 -/
def p292 : PFn := ⟨[o 9 (.ld none (.t 1)), o 10 (.len true (.t 9)), o 11 (.bn .eql 0 (.t 10) (.k (i 0))), .cond (.t 11) [.block 0 [.loop [o 12 (.ld none (.t 2)), o 13 (.len true (.t 12)), o 14 (.bn .gtr 0 (.t 13) (.k (i 0))),
  .cond (.t 14) [] [.exit 0], .block 1 [o 16 (.ld none (.t 2)), o 17 (.call 7 293 [(.t 16)]), o 15 (.mv (.t 17)), o 18 (.ext (.t 15) 0), o 19 (.ext (.t 15) 1), o 5 (.mv (.t 18)), o 6 (.mv (.t 19)), o 20 (.mv (.t 0)), o 21 (.ld none (.t 2)),
  o 22 (.mv (.t 6)), o 23 (.sls (.t 21) none (some (.t 22))), o 24 (.callv 4 (.t 20) [(.t 23)]), o 25 (.un .not (.t 24)), .cond (.t 25) [.ret] [], o 26 (.ld none (.t 2)), o 27 (.mv (.t 6)), o 28 (.sls (.t 26) (some (.t 27)) none),
  e (.st 1 (.t 2) (.t 28))]]], .ret] [], .block 2 [.loop [.block 3 [o 29 (.ld none (.t 2)), o 30 (.ld none (.t 1)), o 31 (.call 7 294 [(.t 29), (.t 30)]), o 7 (.mv (.t 31)), o 32 (.mv (.t 7)), o 33 (.bn .lss 0 (.t 32) (.k (i 0))),
  .cond (.t 33) [.exit 2] [], o 34 (.ld none (.t 2)), o 35 (.mv (.t 7)), o 36 (.ld none (.t 3)), o 37 (.bn .add 0 (.t 35) (.t 36)), o 38 (.sls (.t 34) none (some (.t 37))), o 8 (.mv (.t 38)), o 39 (.mv (.t 0)), o 40 (.mv (.t 8)),
  o 41 (.callv 4 (.t 39) [(.t 40)]), o 42 (.un .not (.t 41)), .cond (.t 42) [.ret] [], o 43 (.ld none (.t 2)), o 44 (.mv (.t 7)), o 45 (.ld none (.t 1)), o 46 (.len true (.t 45)), o 47 (.bn .add 0 (.t 44) (.t 46)),
  o 48 (.sls (.t 43) (some (.t 47)) none), e (.st 1 (.t 2) (.t 48))]]], o 49 (.mv (.t 0)), o 50 (.ld none (.t 2)), o 51 (.callv 4 (.t 49) [(.t 50)])], 52, []⟩
theorem c292 : chkF Tryz.prog 292 p292 = true := by decide +kernel
/- unicode/utf8.DecodeRuneInString -/
def p293 : PFn := ⟨[o 2 (.mv (.k (.int .i32 0))), o 3 (.mv (.k (i 0))), o 4 (.mv (.t 0)), o 5 (.bn .neq 0 (.t 4) (.k (.str []))), o 6 (.mv (.t 5)), g 7 6 true (.mv (.t 0)), g 8 6 true (.ix (.t 7) (.k (i 0))),
  g 9 6 true (.bn .lss 0 (.t 8) (.k (u 128))), o 10 (.pick (.t 6) (.t 9) (.k (.bool false))), .cond (.t 10) [o 11 (.mv (.t 0)), o 12 (.ix (.t 11) (.k (i 0))), o 13 (.cv .i32 (.t 12)), o 2 (.mv (.t 13)), o 3 (.mv (.k (i 1))),
  .ret] [o 15 (.mv (.t 0)), o 16 (.call 7 355 [(.t 15)]), o 14 (.mv (.t 16)), o 17 (.ext (.t 14) 0), o 18 (.ext (.t 14) 1), o 2 (.mv (.t 17)), o 3 (.mv (.t 18))], .ret], 19, [.tmp 2, .tmp 3]⟩
theorem c293 : chkF Tryz.prog 293 p293 = true := by decide +kernel
/- strings.Index -/
def p294 : PFn := ⟨[o 4 (.mv (.k (i 0))), o 5 (.mv (.t 0)), o 6 (.mv (.t 1)), o 7 (.call 7 176 [(.t 5), (.t 6)]), o 4 (.mv (.t 7)), .ret], 8, [.tmp 4]⟩
theorem c294 : chkF Tryz.prog 294 p294 = true := by decide +kernel
/- (*internal/sync.Mutex).Lock -/
def p295 : PFn := ⟨[o 2 (.call 4 356 []), o 3 (.mv (.t 0)), o 4 (.nc (.t 3)), o 5 (.fa 0 (.t 4)), o 6 (.call 4 357 [(.t 5), (.k (.int .i32 0)), (.k (.int .i32 1))]), .cond (.t 6) [.cond (.k (.bool true)) [o 7 (.call 4 358 []),
  o 8 (.mv (.t 0)), o 9 (.cvu (.t 8)), o 10 (.call 4 359 [(.t 9)])] [], .ret] [], o 11 (.mv (.t 0)), o 12 (.call 4 360 [(.t 11)])], 13, []⟩
theorem c295 : chkF Tryz.prog 295 p295 = true := by decide +kernel
/- (*internal/sync.Mutex).Unlock -/
def p296 : PFn := ⟨[.cond (.k (.bool true)) [o 3 (.mv (.t 0)), o 4 (.nc (.t 3)), o 5 (.fa 0 (.t 4)), o 6 (.ld none (.t 5)), o 7 (.mv (.t 0)), o 8 (.cvu (.t 7)), o 9 (.call 4 361 [(.t 8)]), o 10 (.call 4 356 [])] [], o 11 (.mv (.t 0)),
  o 12 (.nc (.t 11)), o 13 (.fa 0 (.t 12)), o 14 (.call 4 362 [(.t 13), (.k (.int .i32 (-1)))]), o 2 (.mv (.t 14)), o 15 (.mv (.t 2)), o 16 (.bn .neq 0 (.t 15) (.k (.int .i32 0))), .cond (.t 16) [o 17 (.mv (.t 0)), o 18 (.mv (.t 2)),
  o 19 (.call 4 363 [(.t 17), (.t 18)])] [], o 20 (.call 4 358 [])], 21, []⟩
theorem c296 : chkF Tryz.prog 296 p296 = true := by decide +kernel
/- sync/atomic.b32 -/
def p298 : PFn := ⟨[o 2 (.mv (.k (.int .u32 0))), o 3 (.mv (.t 0)), .cond (.t 3) [o 2 (.mv (.k (.int .u32 1))), .ret] [], o 2 (.mv (.k (.int .u32 0))), .ret], 4, [.tmp 2]⟩
theorem c298 : chkF Tryz.prog 298 p298 = true := by decide +kernel
/- paling/ports.begin -/
def p299 : PFn := ⟨[o 3 (.bxd 0 (.t 0)), o 4 (.bxd 0 (.t 1)), o 6 (.mv (.k .nilp)), o 7 (.mv (.k (.bool false))), o 8 (.fa 1 (.t 4)), o 9 (.ld none (.t 8)), o 10 (.mv (.t 2)), o 11 (.bn .neq 0 (.t 9) (.t 10)), o 12 (.mv (.t 11)),
  g 13 12 false (.ld (some 17) (.t 4)), g 14 12 false (.call 7 303 [(.t 13)]), g 15 12 false (.un .not (.t 14)), o 16 (.pick (.t 12) (.k (.bool true)) (.t 15)), o 17 (.mv (.t 16)), g 18 17 false (.ld (some 8) (.t 3)),
  g 19 17 false (.call 7 24 [(.t 18)]), g 20 17 false (.un .not (.t 19)), o 21 (.pick (.t 17) (.k (.bool true)) (.t 20)), .cond (.t 21) [o 6 (.mv (.k .nilp)), o 7 (.mv (.k (.bool false))), .ret] [], o 22 (.ld (some 8) (.t 3)),
  o 23 (.call 8 78 [(.t 22)]), o 24 (.bld [nl, nl, nl, nl, nl, nl, nl, nl] [(0, 8, (.t 23))]), o 25 (.bxm 0 (.t 24)), o 6 (.mv (.t 25)), o 7 (.mv (.k (.bool true))), .ret], 26, [.tmp 6, .tmp 7]⟩
theorem c299 : chkF Tryz.prog 299 p299 = true := by decide +kernel
/- slices.ContainsFunc[[]paling/api.Device,paling/api.Device] -/
def p300 : PFn := ⟨[o 4 (.mv (.k (.bool false))), o 5 (.mv (.t 0)), o 6 (.mv (.t 1)), o 7 (.call 7 181 [(.t 5), (.t 6)]), o 8 (.bn .geq 0 (.t 7) (.k (i 0))), o 4 (.mv (.t 8)), .ret], 9, [.tmp 4]⟩
theorem c300 : chkF Tryz.prog 300 p300 = true := by decide +kernel
/- paling/ports.Device$1 -/
def p301 : PFn := ⟨[o 2 (.bxd 0 (.t 0)), o 3 (.mv (.k (.bool false))), o 4 (.fa 2 (.t 2)), o 5 (.ld none (.t 4)), o 6 (.fa 2 (.t 1)), o 7 (.ld none (.t 6)), o 8 (.bn .eql 0 (.t 5) (.t 7)), o 9 (.mv (.t 8)), g 10 9 false (.fa 3 (.t 2)),
  g 11 9 false (.ld none (.t 10)), g 12 9 false (.fa 7 (.t 1)), g 13 9 false (.ld none (.t 12)), g 14 9 false (.bn .eql 0 (.t 11) (.t 13)), o 15 (.pick (.t 9) (.k (.bool true)) (.t 14)), o 3 (.mv (.t 15)), .ret], 16, [.tmp 3]⟩
theorem c301 : chkF Tryz.prog 301 p301 = true := by decide +kernel
/- (*paling/ports.draft).domain -/
def p302 : PFn := ⟨[o 4 (.bxm 0 (.t 1)), o 5 (.bxm 0 (.t 2)), o 6 (.ld none (.t 5)), o 7 (.bn .gtr 0 (.t 6) (.k (i 0))), o 8 (.mv (.t 7)), g 9 8 true (.mv (.t 0)), g 10 8 true (.nc (.t 9)), g 11 8 true (.fa 0 (.t 10)),
  g 12 8 true (.fa 3 (.t 11)), g 13 8 true (.ld none (.t 12)), g 14 8 true (.mf 365 [] [(.t 4), (.t 5)]), g 15 8 true (.call 7 364 [(.t 13), (.t 14)]), g 16 8 true (.un .not (.t 15)), o 17 (.pick (.t 8) (.t 16) (.k (.bool false))),
  .cond (.t 17) [.draw 0 [0, 1, 2, 3, 4, 5, 6, 7, 8, 9, 10, 11, 12, 13, 14] [] [o 18 (.mv (.t 0)), o 19 (.mv (.t 0)), o 20 (.nc (.t 19)), o 21 (.fa 0 (.t 20)), o 22 (.fa 3 (.t 21)), o 23 (.ld none (.t 22)), o 24 (.ld none (.t 4)),
  o 25 (.ld none (.t 5)), o 26 (.bld [(i 0), (i 0), (i 0), (i 0), (i 0), nl] [(0, 1, (.t 24)), (1, 1, (.t 25)), (3, 1, (.k (i (-1))))]), o 27 (.bsl (.agg [(i 0), (i 0), (i 0), (i 0), (i 0), nl]) 1 [(0, (.t 26))]),
  o 28 (.app 0 6 (.t 23) (.t 27)), o 29 (.nc (.t 18)), o 30 (.fa 0 (.t 29)), o 31 (.fa 3 (.t 30)), e (.st 1 (.t 31) (.t 28))]] []], 32, []⟩
theorem c302 : chkF Tryz.prog 302 p302 = true := by decide +kernel
/- paling/stmt.Right -/
def p303 : PFn := ⟨[o 1 (.bxd 0 (.t 0)), o 2 (.mv (.k (.bool false))), o 6 (.ld (some 17) (.t 1)), o 7 (.call 7 366 [(.t 6)]), o 5 (.mv (.t 7)), o 8 (.ext (.t 5) 0), o 9 (.ext (.t 5) 1), o 3 (.al 0 (.agg [(i 0), (i 0), (.str []), (.str []),
  (.str []), (.str []), (.str []), (.int .u64 0), (.int .u32 0), (i 0), (i 0), (i 0), (i 0), nl, nl, nl, nl])), .stf 17 3 (.t 8), o 4 (.mv (.t 9)), o 10 (.mv (.t 4)), o 11 (.mv (.t 10)), g 12 11 true (.fa 2 (.t 1)),
  g 13 11 true (.ld none (.t 12)), g 14 11 true (.call 7 45 [(.t 13)]), o 15 (.pick (.t 11) (.t 14) (.k (.bool false))), o 16 (.mv (.t 15)), g 17 16 true (.ld (some 17) (.t 3)), g 18 16 true (.ld (some 17) (.t 1)),
  g 19 16 true (.call 7 367 [(.t 17), (.t 18)]), o 20 (.pick (.t 16) (.t 19) (.k (.bool false))), o 2 (.mv (.t 20)), .ret], 21, [.tmp 2]⟩
theorem c303 : chkF Tryz.prog 303 p303 = true := by decide +kernel
/- paling/links.end -/
def p304 : PFn := ⟨[o 3 (.bxd 0 (.t 0)), o 6 (.mv (.k (i 0))), o 8 (.ld (some 8) (.t 3)), o 9 (.mv (.t 1)), o 10 (.call 7 70 [(.t 8), (.t 9)]), o 7 (.mv (.t 10)), o 11 (.mv (.t 7)), o 12 (.bn .lss 0 (.t 11) (.k (i 0))),
  .cond (.t 12) [o 6 (.mv (.k (i (-1)))), .ret] [], o 13 (.ld (some 8) (.t 3)), o 14 (.mv (.t 7)), o 15 (.mv (.t 2)), o 16 (.call 7 69 [(.t 13), (.t 14), (.t 15)]), o 6 (.mv (.t 16)), .ret], 17, [.tmp 6]⟩
theorem c304 : chkF Tryz.prog 304 p304 = true := by decide +kernel
/- paling/domains.entry -/
def p305 : PFn := ⟨[o 3 (.bxd 0 (.t 0)), o 4 (.bxm 0 (.t 1)), o 5 (.bxd 0 (.t 2)), o 6 (.mv (.k (i 0))), o 7 (.fa 4 (.t 3)), o 8 (.ld none (.t 7)), o 9 (.mf 369 [] [(.t 4), (.t 5)]), o 10 (.call 7 368 [(.t 8), (.t 9)]), o 6 (.mv (.t 10)),
  .ret], 11, [.tmp 6]⟩
theorem c305 : chkF Tryz.prog 305 p305 = true := by decide +kernel
/- paling/overlay.begin -/
def p306 : PFn := ⟨[o 3 (.bxd 0 (.t 0)), o 4 (.bxd 0 (.t 1)), o 6 (.mv (.k (i 0))), o 7 (.mv (.k (i 0))), o 9 (.fa 1 (.t 4)), o 10 (.ld none (.t 9)), o 11 (.mv (.t 2)), o 12 (.bn .neq 0 (.t 10) (.t 11)), o 13 (.mv (.t 12)),
  g 14 13 false (.ld (some 17) (.t 4)), g 15 13 false (.call 7 303 [(.t 14)]), g 16 13 false (.un .not (.t 15)), o 17 (.pick (.t 13) (.k (.bool true)) (.t 16)), o 18 (.mv (.t 17)), g 19 18 false (.ld (some 8) (.t 3)),
  g 20 18 false (.call 7 24 [(.t 19)]), g 21 18 false (.un .not (.t 20)), o 22 (.pick (.t 18) (.k (.bool true)) (.t 21)), .cond (.t 22) [o 6 (.mv (.k (i 0))), o 7 (.mv (.k (i 2))), .ret] [], o 23 (.ld (some 8) (.t 3)), o 24 (.fa 2 (.t 4)),
  o 25 (.ld none (.t 24)), o 26 (.call 7 70 [(.t 23), (.t 25)]), o 8 (.mv (.t 26)), o 27 (.mv (.t 8)), o 28 (.bn .lss 0 (.t 27) (.k (i 0))), .cond (.t 28) [o 6 (.mv (.k (i 0))), o 7 (.mv (.k (i 31))), .ret] [], o 29 (.mv (.t 8)),
  o 6 (.mv (.t 29)), o 7 (.mv (.k (i 0))), .ret], 30, [.tmp 6, .tmp 7]⟩
theorem c306 : chkF Tryz.prog 306 p306 = true := by decide +kernel
/- slices.Contains[[]uint32,uint32] -/
def p307 : PFn := ⟨[o 4 (.mv (.k (.bool false))), o 5 (.mv (.t 0)), o 6 (.mv (.t 1)), o 7 (.call 7 370 [(.t 5), (.t 6)]), o 8 (.bn .geq 0 (.t 7) (.k (i 0))), o 4 (.mv (.t 8)), .ret], 9, [.tmp 4]⟩
theorem c307 : chkF Tryz.prog 307 p307 = true := by decide +kernel
/- paling/vrfs.begin -/
def p308 : PFn := ⟨[o 3 (.bxd 0 (.t 0)), o 4 (.bxd 0 (.t 1)), o 6 (.mv (.k (i 0))), o 7 (.mv (.k (i 0))), o 9 (.fa 1 (.t 4)), o 10 (.ld none (.t 9)), o 11 (.mv (.t 2)), o 12 (.bn .neq 0 (.t 10) (.t 11)), o 13 (.mv (.t 12)),
  g 14 13 false (.ld (some 17) (.t 4)), g 15 13 false (.call 7 303 [(.t 14)]), g 16 13 false (.un .not (.t 15)), o 17 (.pick (.t 13) (.k (.bool true)) (.t 16)), o 18 (.mv (.t 17)), g 19 18 false (.ld (some 8) (.t 3)),
  g 20 18 false (.call 7 24 [(.t 19)]), g 21 18 false (.un .not (.t 20)), o 22 (.pick (.t 18) (.k (.bool true)) (.t 21)), .cond (.t 22) [o 6 (.mv (.k (i 0))), o 7 (.mv (.k (i 2))), .ret] [], o 23 (.ld (some 8) (.t 3)), o 24 (.fa 2 (.t 4)),
  o 25 (.ld none (.t 24)), o 26 (.call 7 70 [(.t 23), (.t 25)]), o 8 (.mv (.t 26)), o 27 (.mv (.t 8)), o 28 (.bn .lss 0 (.t 27) (.k (i 0))), .cond (.t 28) [o 6 (.mv (.k (i 0))), o 7 (.mv (.k (i 31))), .ret] [], o 29 (.mv (.t 8)),
  o 6 (.mv (.t 29)), o 7 (.mv (.k (i 0))), .ret], 30, [.tmp 6, .tmp 7]⟩
theorem c308 : chkF Tryz.prog 308 p308 = true := by decide +kernel
/- paling/names.Vrf -/
def p309 : PFn := ⟨[o 3 (.bxd 0 (.t 0)), o 4 (.bxm 0 (.t 1)), o 5 (.bxm 0 (.t 2)), o 6 (.mv (.k (i 0))), o 7 (.ld (some 8) (.t 3)), o 8 (.fa 6 (.t 3)), o 9 (.ld none (.t 8)), o 10 (.mf 372 [] [(.t 4), (.t 5)]), o 11 (.call 7 371 [(.t 7),
  (.t 9), (.t 10)]), o 6 (.mv (.t 11)), .ret], 12, [.tmp 6]⟩
theorem c309 : chkF Tryz.prog 309 p309 = true := by decide +kernel
/- paling/vrfs.Irb$1 -/
def p310 : PFn := ⟨[o 4 (.bxd 0 (.t 0)), o 5 (.mv (.k (.bool false))), o 6 (.ld (some 8) (.t 1)), o 7 (.ld (some 5) (.t 4)), o 8 (.ld none (.t 2)), o 9 (.fa 8 (.t 3)), o 10 (.ld none (.t 9)), o 11 (.fa 9 (.t 3)), o 12 (.ld none (.t 11)),
  o 13 (.bld [(.int .u32 0), (i 0)] [(0, 1, (.t 10)), (1, 1, (.t 12))]), o 14 (.call 7 311 [(.t 6), (.t 7), (.t 8), (.t 13)]), o 5 (.mv (.t 14)), .ret], 15, [.tmp 5]⟩
theorem c310 : chkF Tryz.prog 310 p310 = true := by decide +kernel
/- paling/vrfs.clash -/
def p311 : PFn := ⟨[o 4 (.bxd 0 (.t 0)), o 5 (.bxd 0 (.t 1)), o 7 (.bxd 0 (.t 3)), o 8 (.mv (.k (.bool false))), o 10 (.fa 6 (.t 4)), o 11 (.ld none (.t 10)), o 12 (.fa 2 (.t 5)), o 13 (.ld none (.t 12)), o 14 (.ia 5 (.t 11) (.t 13)),
  o 15 (.fa 1 (.t 14)), o 16 (.ld none (.t 15)), o 17 (.mv (.t 2)), o 18 (.bn .neq 0 (.t 16) (.t 17)), o 9 (.mv (.t 18)), o 19 (.fa 3 (.t 5)), o 20 (.fa 0 (.t 19)), o 21 (.ld none (.t 20)), o 22 (.fa 0 (.t 7)), o 23 (.ld none (.t 22)),
  o 24 (.bn .eql 0 (.t 21) (.t 23)), o 25 (.mv (.t 24)), g 26 25 false (.mv (.t 9)), g 27 25 false (.mv (.t 26)), g 28 27 true (.fa 3 (.t 5)), g 29 27 true (.ld (some 2) (.t 28)), g 30 27 true (.fa 0 (.t 7)), g 31 27 true (.ld none (.t 30)),
  g 32 27 true (.call 7 337 [(.t 29), (.t 31)]), g 33 27 true (.mv (.t 32)), g 34 33 false (.ld (some 2) (.t 7)), g 35 33 false (.fa 3 (.t 5)), g 36 33 false (.fa 0 (.t 35)), g 37 33 false (.ld none (.t 36)), g 38 33 false (.call 7 337 [(.t 34),
  (.t 37)]), g 39 27 true (.pick (.t 33) (.k (.bool true)) (.t 38)), g 40 25 false (.pick (.t 27) (.t 39) (.k (.bool false))), o 41 (.pick (.t 25) (.k (.bool true)) (.t 40)), o 8 (.mv (.t 41)), .ret], 42, [.tmp 8]⟩
theorem c311 : chkF Tryz.prog 311 p311 = true := by decide +kernel
/- slices.IndexFunc[[]paling/api.Flood,paling/api.Flood] -/
def p312 : PFn := ⟨[o 4 (.mv (.k (i 0))), o 6 (.mv (.t 0)), o 7 (.len false (.t 6)), o 8 (.mv (.k (i 0))), .block 0 [.loop [o 9 (.bn .lss 0 (.t 8) (.t 7)), .cond (.t 9) [] [.exit 0], .block 1 [o 10 (.mv (.t 8)), o 5 (.mv (.t 10)),
  o 11 (.mv (.t 1)), o 12 (.mv (.t 0)), o 13 (.mv (.t 5)), o 14 (.ia 4 (.t 12) (.t 13)), o 15 (.ld (some 4) (.t 14)), o 16 (.callv 4 (.t 11) [(.t 15)]), .cond (.t 16) [o 17 (.mv (.t 5)), o 4 (.mv (.t 17)), .ret] []],
  o 18 (.bn .add 0 (.t 8) (.k (i 1))), o 8 (.mv (.t 18))]], o 4 (.mv (.k (i (-1)))), .ret], 19, [.tmp 4]⟩
theorem c312 : chkF Tryz.prog 312 p312 = true := by decide +kernel
/- paling/overlay.list$1 -/
def p313 : PFn := ⟨[o 3 (.bxd 0 (.t 0)), o 4 (.mv (.k (.bool false))), o 5 (.fa 1 (.t 3)), o 6 (.ld none (.t 5)), o 7 (.ld none (.t 1)), o 8 (.bn .eql 0 (.t 6) (.t 7)), o 9 (.mv (.t 8)), g 10 9 true (.fa 2 (.t 3)),
  g 11 9 true (.ld none (.t 10)), g 12 9 true (.ld none (.t 2)), g 13 9 true (.bn .eql 0 (.t 11) (.t 12)), o 14 (.pick (.t 9) (.t 13) (.k (.bool false))), o 4 (.mv (.t 14)), .ret], 15, [.tmp 4]⟩
theorem c313 : chkF Tryz.prog 313 p313 = true := by decide +kernel
/- paling/overlay.find$1 -/
def p314 : PFn := ⟨[o 3 (.bxd 0 (.t 0)), o 4 (.mv (.k (.bool false))), o 5 (.fa 0 (.t 3)), o 6 (.ld none (.t 5)), o 7 (.ld none (.t 1)), o 8 (.bn .eql 0 (.t 6) (.t 7)), o 9 (.mv (.t 8)), g 10 9 true (.fa 2 (.t 3)),
  g 11 9 true (.ld none (.t 10)), g 12 9 true (.ld none (.t 2)), g 13 9 true (.bn .eql 0 (.t 11) (.t 12)), o 14 (.pick (.t 9) (.t 13) (.k (.bool false))), o 15 (.mv (.t 14)), g 16 15 true (.ld none (.t 2)),
  g 17 15 true (.bn .neq 0 (.t 16) (.k (i 0))), o 18 (.pick (.t 15) (.t 17) (.k (.bool false))), o 4 (.mv (.t 18)), .ret], 19, [.tmp 4]⟩
theorem c314 : chkF Tryz.prog 314 p314 = true := by decide +kernel
/- paling/overlay.owner$1 -/
def p315 : PFn := ⟨[o 2 (.bxd 0 (.t 0)), o 3 (.mv (.k (.bool false))), o 4 (.fa 4 (.t 2)), o 5 (.ld none (.t 4)), o 6 (.ld none (.t 1)), o 7 (.bn .eql 0 (.t 5) (.t 6)), o 3 (.mv (.t 7)), .ret], 8, [.tmp 3]⟩
theorem c315 : chkF Tryz.prog 315 p315 = true := by decide +kernel
/- (paling/comps.forest).top -/
def p316 : PFn := ⟨[o 4 (.mv (.k (i 0))), .block 0 [.loop [.block 1 [o 5 (.mv (.t 0)), o 6 (.mv (.t 1)), o 7 (.ia 1 (.t 5) (.t 6)), o 8 (.ld none (.t 7)), o 9 (.mv (.t 1)), o 10 (.bn .eql 0 (.t 8) (.t 9)), .cond (.t 10) [.exit 0] [],
  o 11 (.mv (.t 0)), o 12 (.mv (.t 1)), o 13 (.mv (.t 0)), o 14 (.mv (.t 0)), o 15 (.mv (.t 1)), o 16 (.ia 1 (.t 14) (.t 15)), o 17 (.ld none (.t 16)), o 18 (.ia 1 (.t 13) (.t 17)), o 19 (.ld none (.t 18)), o 20 (.ia 1 (.t 11) (.t 12)),
  e (.st 1 (.t 20) (.t 19)), o 21 (.mv (.t 0)), o 22 (.mv (.t 1)), o 23 (.ia 1 (.t 21) (.t 22)), o 24 (.ld none (.t 23)), o 1 (.mv (.t 24))]]], o 25 (.mv (.t 1)), o 4 (.mv (.t 25)), .ret], 26, [.tmp 4]⟩
theorem c316 : chkF Tryz.prog 316 p316 = true := by decide +kernel
/- internal/bytealg.hashStr[string] -/
def p318 : PFn := ⟨[o 2 (.mv (.k (.int .u32 0))), o 3 (.mv (.k (.int .u32 0))), o 4 (.mv (.k (.int .u32 0))), o 5 (.mv (.k (i 0))), .block 0 [.loop [o 9 (.mv (.t 5)), o 10 (.mv (.t 0)), o 11 (.len true (.t 10)),
  o 12 (.bn .lss 0 (.t 9) (.t 11)), .cond (.t 12) [] [.exit 0], .block 1 [o 15 (.mv (.t 4)), o 16 (.bn .mul 0 (.t 15) (.k (.int .u32 16777619))), o 17 (.mv (.t 0)), o 18 (.mv (.t 5)), o 19 (.ix (.t 17) (.t 18)), o 20 (.cv .u32 (.t 19)),
  o 21 (.bn .add 0 (.t 16) (.t 20)), o 4 (.mv (.t 21))], o 13 (.mv (.t 5)), o 14 (.bn .add 0 (.t 13) (.k (i 1))), o 5 (.mv (.t 14))]], o 6 (.mv (.k (.int .u32 1))), o 7 (.mv (.k (.int .u32 16777619))), o 22 (.mv (.t 0)),
  o 23 (.len true (.t 22)), o 8 (.mv (.t 23)), .block 2 [.loop [o 24 (.mv (.t 8)), o 25 (.bn .gtr 0 (.t 24) (.k (i 0))), .cond (.t 25) [] [.exit 2], .block 3 [o 28 (.mv (.t 8)), o 29 (.bn .and 0 (.t 28) (.k (i 1))),
  o 30 (.bn .neq 0 (.t 29) (.k (i 0))), .cond (.t 30) [o 31 (.mv (.t 6)), o 32 (.mv (.t 7)), o 33 (.bn .mul 0 (.t 31) (.t 32)), o 6 (.mv (.t 33))] [], o 34 (.mv (.t 7)), o 35 (.mv (.t 7)), o 36 (.bn .mul 0 (.t 34) (.t 35)), o 7 (.mv (.t 36))],
  o 26 (.mv (.t 8)), o 27 (.bn .shr 0 (.t 26) (.k (.int .u64 1))), o 8 (.mv (.t 27))]], o 37 (.mv (.t 4)), o 38 (.mv (.t 6)), o 2 (.mv (.t 37)), o 3 (.mv (.t 38)), .ret], 39, [.tmp 2, .tmp 3]⟩
theorem c318 : chkF Tryz.prog 318 p318 = true := by decide +kernel
/- slices.IndexFunc[[]paling/api.Irb,paling/api.Irb] -/
def p319 : PFn := ⟨[o 4 (.mv (.k (i 0))), o 6 (.mv (.t 0)), o 7 (.len false (.t 6)), o 8 (.mv (.k (i 0))), .block 0 [.loop [o 9 (.bn .lss 0 (.t 8) (.t 7)), .cond (.t 9) [] [.exit 0], .block 1 [o 10 (.mv (.t 8)), o 5 (.mv (.t 10)),
  o 11 (.mv (.t 1)), o 12 (.mv (.t 0)), o 13 (.mv (.t 5)), o 14 (.ia 5 (.t 12) (.t 13)), o 15 (.ld (some 5) (.t 14)), o 16 (.callv 4 (.t 11) [(.t 15)]), .cond (.t 16) [o 17 (.mv (.t 5)), o 4 (.mv (.t 17)), .ret] []],
  o 18 (.bn .add 0 (.t 8) (.k (i 1))), o 8 (.mv (.t 18))]], o 4 (.mv (.k (i (-1)))), .ret], 19, [.tmp 4]⟩
theorem c319 : chkF Tryz.prog 319 p319 = true := by decide +kernel
/- paling/choose.past$1 -/
def p320 : PFn := ⟨[o 2 (.bxd 0 (.t 0)), o 3 (.mv (.k (.bool false))), o 4 (.fa 3 (.t 2)), o 5 (.fa 0 (.t 4)), o 6 (.ld none (.t 5)), o 7 (.ld none (.t 1)), o 8 (.bn .eql 0 (.t 6) (.t 7)), o 3 (.mv (.t 8)), .ret], 9, [.tmp 3]⟩
theorem c320 : chkF Tryz.prog 320 p320 = true := by decide +kernel
/- slices.stableCmpFunc[int] -/
def p321 : PFn := ⟨[o 6 (.mv (.k (i 20))), o 10 (.mv (.t 6)), o 7 (.mv (.k (i 0))), o 8 (.mv (.t 10)), .block 0 [.loop [o 11 (.mv (.t 8)), o 12 (.mv (.t 1)), o 13 (.bn .leq 0 (.t 11) (.t 12)), .cond (.t 13) [] [.exit 0],
  .block 1 [o 14 (.mv (.t 0)), o 15 (.mv (.t 7)), o 16 (.mv (.t 8)), o 17 (.mv (.t 2)), o 18 (.call 4 373 [(.t 14), (.t 15), (.t 16), (.t 17)]), o 19 (.mv (.t 8)), o 7 (.mv (.t 19)), o 20 (.mv (.t 8)), o 21 (.mv (.t 6)),
  o 22 (.bn .add 0 (.t 20) (.t 21)), o 8 (.mv (.t 22))]]], o 23 (.mv (.t 0)), o 24 (.mv (.t 7)), o 25 (.mv (.t 1)), o 26 (.mv (.t 2)), o 27 (.call 4 373 [(.t 23), (.t 24), (.t 25), (.t 26)]), .block 2 [.loop [o 28 (.mv (.t 6)),
  o 29 (.mv (.t 1)), o 30 (.bn .lss 0 (.t 28) (.t 29)), .cond (.t 30) [] [.exit 2], .block 3 [o 31 (.mv (.t 6)), o 32 (.bn .mul 0 (.k (i 2)) (.t 31)), o 7 (.mv (.k (i 0))), o 8 (.mv (.t 32)), .block 4 [.loop [o 33 (.mv (.t 8)),
  o 34 (.mv (.t 1)), o 35 (.bn .leq 0 (.t 33) (.t 34)), .cond (.t 35) [] [.exit 4], .block 5 [o 36 (.mv (.t 0)), o 37 (.mv (.t 7)), o 38 (.mv (.t 7)), o 39 (.mv (.t 6)), o 40 (.bn .add 0 (.t 38) (.t 39)), o 41 (.mv (.t 8)), o 42 (.mv (.t 2)),
  o 43 (.call 4 374 [(.t 36), (.t 37), (.t 40), (.t 41), (.t 42)]), o 44 (.mv (.t 8)), o 7 (.mv (.t 44)), o 45 (.mv (.t 8)), o 46 (.mv (.t 6)), o 47 (.bn .mul 0 (.k (i 2)) (.t 46)), o 48 (.bn .add 0 (.t 45) (.t 47)), o 8 (.mv (.t 48))]]],
  o 49 (.mv (.t 7)), o 50 (.mv (.t 6)), o 51 (.bn .add 0 (.t 49) (.t 50)), o 9 (.mv (.t 51)), o 52 (.mv (.t 9)), o 53 (.mv (.t 1)), o 54 (.bn .lss 0 (.t 52) (.t 53)), .cond (.t 54) [o 55 (.mv (.t 0)), o 56 (.mv (.t 7)), o 57 (.mv (.t 9)),
  o 58 (.mv (.t 1)), o 59 (.mv (.t 2)), o 60 (.call 4 374 [(.t 55), (.t 56), (.t 57), (.t 58), (.t 59)])] [], o 61 (.mv (.t 6)), o 62 (.bn .mul 0 (.t 61) (.k (i 2))), o 6 (.mv (.t 62))]]]], 63, []⟩
theorem c321 : chkF Tryz.prog 321 p321 = true := by decide +kernel
/- cmp.isNaN[int] -/
def p322 : PFn := ⟨[o 2 (.mv (.k (.bool false))), o 3 (.mv (.t 0)), o 4 (.mv (.t 0)), o 5 (.bn .neq 0 (.t 3) (.t 4)), o 2 (.mv (.t 5)), .ret], 6, [.tmp 2]⟩
theorem c322 : chkF Tryz.prog 322 p322 = true := by decide +kernel
/- cmp.isNaN[uint64] -/
def p323 : PFn := ⟨[o 2 (.mv (.k (.bool false))), o 3 (.mv (.t 0)), o 4 (.mv (.t 0)), o 5 (.bn .neq 0 (.t 3) (.t 4)), o 2 (.mv (.t 5)), .ret], 6, [.tmp 2]⟩
theorem c323 : chkF Tryz.prog 323 p323 = true := by decide +kernel
/- container/heap.up -/
def p324 : PFn := ⟨[.block 0 [.loop [.block 1 [o 5 (.mv (.t 1)), o 6 (.bn .sub 0 (.t 5) (.k (i 1))), o 7 (.bn .quo 0 (.t 6) (.k (i 2))), o 4 (.mv (.t 7)), o 8 (.mv (.t 4)), o 9 (.mv (.t 1)), o 10 (.bn .eql 0 (.t 8) (.t 9)),
  o 11 (.mv (.t 10)), g 12 11 false (.mv (.t 0)), g 13 11 false (.mv (.t 1)), g 14 11 false (.mv (.t 4)), g 15 11 false (.inv 4 [(390, 416, some none)] (.t 12) [(.t 13), (.t 14)]), g 16 11 false (.un .not (.t 15)),
  o 17 (.pick (.t 11) (.k (.bool true)) (.t 16)), .cond (.t 17) [.exit 0] [], o 18 (.mv (.t 0)), o 19 (.mv (.t 4)), o 20 (.mv (.t 1)), o 21 (.inv 4 [(390, 419, some none)] (.t 18) [(.t 19), (.t 20)]), o 22 (.mv (.t 4)), o 1 (.mv (.t 22))]]]],
  23, []⟩
theorem c324 : chkF Tryz.prog 324 p324 = true := by decide +kernel
/- container/heap.down -/
def p325 : PFn := ⟨[o 6 (.mv (.k (.bool false))), o 11 (.mv (.t 1)), o 7 (.mv (.t 11)), .block 0 [.loop [.block 1 [o 12 (.mv (.t 7)), o 13 (.bn .mul 0 (.k (i 2)) (.t 12)), o 14 (.bn .add 0 (.t 13) (.k (i 1))), o 8 (.mv (.t 14)),
  o 15 (.mv (.t 8)), o 16 (.mv (.t 2)), o 17 (.bn .geq 0 (.t 15) (.t 16)), o 18 (.mv (.t 17)), g 19 18 false (.mv (.t 8)), g 20 18 false (.bn .lss 0 (.t 19) (.k (i 0))), o 21 (.pick (.t 18) (.k (.bool true)) (.t 20)), .cond (.t 21) [.exit 0] [],
  o 22 (.mv (.t 8)), o 9 (.mv (.t 22)), o 23 (.mv (.t 8)), o 24 (.bn .add 0 (.t 23) (.k (i 1))), o 10 (.mv (.t 24)), o 25 (.mv (.t 10)), o 26 (.mv (.t 2)), o 27 (.bn .lss 0 (.t 25) (.t 26)), o 28 (.mv (.t 27)), g 29 28 true (.mv (.t 0)),
  g 30 28 true (.mv (.t 10)), g 31 28 true (.mv (.t 8)), g 32 28 true (.inv 4 [(390, 416, some none)] (.t 29) [(.t 30), (.t 31)]), o 33 (.pick (.t 28) (.t 32) (.k (.bool false))), .cond (.t 33) [o 34 (.mv (.t 10)), o 9 (.mv (.t 34))] [],
  o 35 (.mv (.t 0)), o 36 (.mv (.t 9)), o 37 (.mv (.t 7)), o 38 (.inv 4 [(390, 416, some none)] (.t 35) [(.t 36), (.t 37)]), o 39 (.un .not (.t 38)), .cond (.t 39) [.exit 0] [], o 40 (.mv (.t 0)), o 41 (.mv (.t 7)), o 42 (.mv (.t 9)),
  o 43 (.inv 4 [(390, 419, some none)] (.t 40) [(.t 41), (.t 42)]), o 44 (.mv (.t 9)), o 7 (.mv (.t 44))]]], o 45 (.mv (.t 7)), o 46 (.mv (.t 1)), o 47 (.bn .gtr 0 (.t 45) (.t 46)), o 6 (.mv (.t 47)), .ret], 48, [.tmp 6]⟩
theorem c325 : chkF Tryz.prog 325 p325 = true := by decide +kernel
/- paling/vector.Less -/
def p326 : PFn := ⟨[o 2 (.bxd 0 (.t 0)), o 3 (.bxd 0 (.t 1)), o 4 (.mv (.k (.bool false))), o 5 (.ld (some 5) (.t 2)), o 6 (.ld (some 5) (.t 3)), o 7 (.eqs false [0, 0, 0, 0, 0] (.t 5) (.t 6)), .cond (.t 7) [o 4 (.mv (.k (.bool false))),
  .ret] [], .draw 0 [0, 1, 2, 3, 4, 5, 6, 7, 8, 9, 10, 11, 12, 13, 14, 15, 16, 17, 18, 19, 20, 21, 22, 23, 24, 25, 26, 27, 28] [] [o 8 (.fa 0 (.t 2)), o 9 (.ld none (.t 8)), o 10 (.fa 0 (.t 3)), o 11 (.ld none (.t 10)),
  o 12 (.call 0 263 [(.t 9), (.t 11)]), o 13 (.fa 1 (.t 2)), o 14 (.ld none (.t 13)), o 15 (.fa 1 (.t 3)), o 16 (.ld none (.t 15)), o 17 (.call 0 263 [(.t 14), (.t 16)]), o 18 (.fa 2 (.t 2)), o 19 (.ld none (.t 18)), o 20 (.fa 2 (.t 3)),
  o 21 (.ld none (.t 20)), o 22 (.call 0 263 [(.t 19), (.t 21)]), o 23 (.fa 3 (.t 2)), o 24 (.ld none (.t 23)), o 25 (.fa 3 (.t 3)), o 26 (.ld none (.t 25)), o 27 (.call 0 263 [(.t 24), (.t 26)]), o 28 (.fa 4 (.t 2)), o 29 (.ld none (.t 28)),
  o 30 (.fa 4 (.t 3)), o 31 (.ld none (.t 30)), o 32 (.call 0 263 [(.t 29), (.t 31)]), o 33 (.bsl (i 0) 5 [(0, (.t 12)), (1, (.t 17)), (2, (.t 22)), (3, (.t 27)), (4, (.t 32))]), o 34 (.call 0 262 [(.t 33)]),
  o 35 (.bn .lss 0 (.t 34) (.k (i 0))), o 4 (.mv (.t 35))], .ret], 36, [.tmp 4]⟩
theorem c326 : chkF Tryz.prog 326 p326 = true := by decide +kernel
/- (*paling/lookup.room).ports$1 -/
def p327 : PFn := ⟨[o 3 (.mv (.k (.bool false))), .draw 0 [0, 1, 2, 3, 4, 5, 6, 7, 8, 9, 10, 11, 12, 13, 14, 15, 16, 17, 18, 19] [] [o 4 (.mv (.t 0)), o 5 (.ld none (.t 1)), o 6 (.nc (.t 5)), o 7 (.fa 10 (.t 6)), o 8 (.ld none (.t 7)),
  o 9 (.bn .eql 0 (.t 4) (.t 8)), o 10 (.mv (.t 9)), g 11 10 false (.ld none (.t 1)), g 12 10 false (.nc (.t 11)), g 13 10 false (.fa 0 (.t 12)), g 14 10 false (.ld (some 8) (.t 13)), g 15 10 false (.ld none (.t 1)), g 16 10 false (.nc (.t 15)),
  g 17 10 false (.fa 8 (.t 16)), g 18 10 false (.ld none (.t 17)), g 19 10 false (.mv (.t 0)), g 20 10 false (.call 0 328 [(.t 14), (.t 18), (.t 19)]), g 21 10 false (.un .not (.t 20)), o 22 (.pick (.t 10) (.k (.bool true)) (.t 21)),
  o 3 (.mv (.t 22))], .ret], 23, [.tmp 3]⟩
theorem c327 : chkF Tryz.prog 327 p327 = true := by decide +kernel
/- paling/lookup.usable -/
def p328 : PFn := ⟨[o 3 (.bxd 0 (.t 0)), o 6 (.mv (.k (.bool false))), o 8 (.fa 1 (.t 3)), o 9 (.ld none (.t 8)), o 10 (.mv (.t 2)), o 11 (.ia 7 (.t 9) (.t 10)), o 12 (.fa 4 (.t 11)), o 13 (.ld none (.t 12)), o 7 (.mv (.t 13)),
  o 14 (.mv (.t 7)), o 15 (.bn .lss 0 (.t 14) (.k (i 0))), o 16 (.mv (.t 15)), g 17 16 false (.mv (.t 1)), g 18 16 false (.mv (.t 7)), g 19 16 false (.ia 1 (.t 17) (.t 18)), g 20 16 false (.ld none (.t 19)),
  o 21 (.pick (.t 16) (.k (.bool true)) (.t 20)), o 6 (.mv (.t 21)), .ret], 22, [.tmp 6]⟩
theorem c328 : chkF Tryz.prog 328 p328 = true := by decide +kernel
/- slices.DeleteFunc[[]int,int] -/
def p329 : PFn := ⟨[o 4 (.mv (.k nl)), o 8 (.mv (.t 0)), o 9 (.mv (.t 1)), o 10 (.call 7 351 [(.t 8), (.t 9)]), o 5 (.mv (.t 10)), o 11 (.mv (.t 5)), o 12 (.bn .eql 0 (.t 11) (.k (i (-1)))), .cond (.t 12) [o 13 (.mv (.t 0)),
  o 4 (.mv (.t 13)), .ret] [], o 14 (.mv (.t 5)), o 15 (.bn .add 0 (.t 14) (.k (i 1))), o 6 (.mv (.t 15)), .block 0 [.loop [o 16 (.mv (.t 6)), o 17 (.mv (.t 0)), o 18 (.len false (.t 17)), o 19 (.bn .lss 0 (.t 16) (.t 18)),
  .cond (.t 19) [] [.exit 0], .block 1 [o 22 (.mv (.t 0)), o 23 (.mv (.t 6)), o 24 (.ia 1 (.t 22) (.t 23)), o 25 (.ld none (.t 24)), o 7 (.mv (.t 25)), o 26 (.mv (.t 1)), o 27 (.mv (.t 7)), o 28 (.callv 4 (.t 26) [(.t 27)]),
  o 29 (.un .not (.t 28)), .cond (.t 29) [o 30 (.mv (.t 0)), o 31 (.mv (.t 5)), o 32 (.mv (.t 7)), o 33 (.ia 1 (.t 30) (.t 31)), e (.st 1 (.t 33) (.t 32)), o 34 (.mv (.t 5)), o 35 (.bn .add 0 (.t 34) (.k (i 1))), o 5 (.mv (.t 35))] []],
  o 20 (.mv (.t 6)), o 21 (.bn .add 0 (.t 20) (.k (i 1))), o 6 (.mv (.t 21))]], o 36 (.mv (.t 0)), o 37 (.mv (.t 5)), o 38 (.sl 1 (.t 36) (some (.t 37)) none none), e (.clr (i 0) (.t 38)), o 39 (.mv (.t 0)), o 40 (.mv (.t 5)),
  o 41 (.sl 1 (.t 39) none (some (.t 40)) none), o 4 (.mv (.t 41)), .ret], 42, [.tmp 4]⟩
theorem c329 : chkF Tryz.prog 329 p329 = true := by decide +kernel
/- paling/table.index$1 -/
def p330 : PFn := ⟨[o 2 (.bxd 0 (.t 0)), o 3 (.mv (.k (.bool false))), o 4 (.fa 0 (.t 2)), o 5 (.ld none (.t 4)), o 6 (.ld none (.t 1)), o 7 (.bn .eql 0 (.t 5) (.t 6)), o 3 (.mv (.t 7)), .ret], 8, [.tmp 3]⟩
theorem c330 : chkF Tryz.prog 330 p330 = true := by decide +kernel
/- paling/table.oldest -/
def p331 : PFn := ⟨[o 2 (.mv (.k (i 0))), o 3 (.mv (.k (i 0))), o 6 (.mv (.t 0)), o 7 (.len false (.t 6)), o 8 (.mv (.k (i 0))), .block 0 [.loop [o 9 (.bn .lss 0 (.t 8) (.t 7)), .cond (.t 9) [] [.exit 0], .block 1 [o 10 (.mv (.t 8)),
  o 11 (.ia 3 (.t 6) (.t 8)), o 12 (.ld (some 3) (.t 11)), o 5 (.al 0 (.agg [(.int .u64 0), (i 0), (i 0)])), o 4 (.mv (.t 10)), .stf 3 5 (.t 12), .draw 0 [0, 1, 2, 3, 4, 5, 6, 7] [] [o 13 (.fa 2 (.t 5)), o 14 (.ld none (.t 13)),
  o 15 (.mv (.t 0)), o 16 (.mv (.t 3)), o 17 (.ia 3 (.t 15) (.t 16)), o 18 (.fa 2 (.t 17)), o 19 (.ld none (.t 18)), o 20 (.bn .lss 0 (.t 14) (.t 19))], .cond (.t 20) [o 21 (.mv (.t 4)), o 3 (.mv (.t 21))] []],
  o 22 (.bn .add 0 (.t 8) (.k (i 1))), o 8 (.mv (.t 22))]], o 23 (.mv (.t 3)), o 2 (.mv (.t 23)), .ret], 24, [.tmp 2]⟩
theorem c331 : chkF Tryz.prog 331 p331 = true := by decide +kernel
/- slices.Delete[[]paling/api.Entry,paling/api.Entry] -/
def p332 : PFn := ⟨[o 6 (.mv (.k nl)), o 8 (.mv (.t 0)), o 9 (.mv (.t 1)), o 10 (.mv (.t 2)), o 11 (.mv (.t 0)), o 12 (.len false (.t 11)), o 13 (.sl 3 (.t 8) (some (.t 9)) (some (.t 10)) (some (.t 12))), o 14 (.mv (.t 1)),
  o 15 (.mv (.t 2)), o 16 (.bn .eql 0 (.t 14) (.t 15)), .cond (.t 16) [o 17 (.mv (.t 0)), o 6 (.mv (.t 17)), .ret] [], o 18 (.mv (.t 0)), o 19 (.len false (.t 18)), o 7 (.mv (.t 19)), .draw 0 [0, 1, 2, 3, 4, 5, 6, 7] [] [o 20 (.mv (.t 0)),
  o 21 (.mv (.t 1)), o 22 (.sl 3 (.t 20) none (some (.t 21)) none), o 23 (.mv (.t 0)), o 24 (.mv (.t 2)), o 25 (.sl 3 (.t 23) (some (.t 24)) none none), o 26 (.app 0 3 (.t 22) (.t 25)), o 0 (.mv (.t 26))], o 27 (.mv (.t 0)), o 28 (.mv (.t 0)),
  o 29 (.len false (.t 28)), o 30 (.mv (.t 7)), o 31 (.sl 3 (.t 27) (some (.t 29)) (some (.t 30)) none), e (.clr (.agg [(.int .u64 0), (i 0), (i 0)]) (.t 31)), o 32 (.mv (.t 0)), o 6 (.mv (.t 32)), .ret], 33, [.tmp 6]⟩
theorem c332 : chkF Tryz.prog 332 p332 = true := by decide +kernel
/- paling/ipv4.pair -/
def p333 : PFn := ⟨[o 4 (.mv (.k (i 0))), .draw 0 [0, 1, 2, 3, 4, 5, 6, 7, 8, 9, 10, 11, 12, 13] [] [o 5 (.mv (.t 0)), o 6 (.mv (.t 1)), o 7 (.ia 1 (.t 5) (.t 6)), o 8 (.ld none (.t 7)), o 9 (.cv .i64 (.t 8)),
  o 10 (.bn .shl 0 (.t 9) (.k (.int .u64 8))), o 11 (.mv (.t 0)), o 12 (.mv (.t 1)), o 13 (.bn .add 0 (.t 12) (.k (i 1))), o 14 (.ia 1 (.t 11) (.t 13)), o 15 (.ld none (.t 14)), o 16 (.cv .i64 (.t 15)), o 17 (.bn .or 0 (.t 10) (.t 16)),
  o 4 (.mv (.t 17))], .ret], 18, [.tmp 4]⟩
theorem c333 : chkF Tryz.prog 333 p333 = true := by decide +kernel
/- paling/sum.Right -/
def p334 : PFn := ⟨[o 2 (.mv (.k (.bool false))), o 3 (.mv (.t 0)), o 4 (.call 7 290 [(.t 3)]), o 5 (.bn .eql 0 (.t 4) (.k (i 65535))), o 2 (.mv (.t 5)), .ret], 6, [.tmp 2]⟩
theorem c334 : chkF Tryz.prog 334 p334 = true := by decide +kernel
/- paling/ipv4.four -/
def p335 : PFn := ⟨[o 4 (.mv (.k (.int .u32 0))), o 5 (.mv (.t 0)), o 6 (.mv (.t 1)), o 7 (.call 7 333 [(.t 5), (.t 6)]), o 8 (.cv .u32 (.t 7)), o 9 (.bn .shl 0 (.t 8) (.k (.int .u64 16))), o 10 (.mv (.t 0)), o 11 (.mv (.t 1)),
  o 12 (.bn .add 0 (.t 11) (.k (i 2))), o 13 (.call 7 333 [(.t 10), (.t 12)]), o 14 (.cv .u32 (.t 13)), o 15 (.bn .or 0 (.t 9) (.t 14)), o 4 (.mv (.t 15)), .ret], 16, [.tmp 4]⟩
theorem c335 : chkF Tryz.prog 335 p335 = true := by decide +kernel
/- paling/route.device -/
def p336 : PFn := ⟨[o 2 (.bxd 0 (.t 0)), o 4 (.mv (.k (i 0))), .draw 0 [0, 1, 2, 3, 4, 5, 6, 7, 8, 9, 10, 11] [] [o 5 (.fa 3 (.t 2)), o 6 (.ld none (.t 5)), o 7 (.fa 7 (.t 2)), o 8 (.ld none (.t 7)), o 9 (.mv (.t 1)),
  o 10 (.ia 5 (.t 8) (.t 9)), o 11 (.fa 1 (.t 10)), o 12 (.ld none (.t 11)), o 13 (.ia 6 (.t 6) (.t 12)), o 14 (.fa 0 (.t 13)), o 15 (.ld none (.t 14)), o 4 (.mv (.t 15))], .ret], 16, [.tmp 4]⟩
theorem c336 : chkF Tryz.prog 336 p336 = true := by decide +kernel
/- paling/addr.Has -/
def p337 : PFn := ⟨[o 2 (.bxd 0 (.t 0)), o 4 (.mv (.k (.bool false))), .draw 0 [0, 1, 2, 3, 4, 5, 6, 7, 8, 9, 10, 11, 12] [] [o 5 (.ld (some 2) (.t 2)), o 6 (.call 0 226 [(.t 5)]), o 7 (.mv (.t 6)), g 8 7 true (.fa 0 (.t 2)),
  g 9 7 true (.ld none (.t 8)), g 10 7 true (.mv (.t 1)), g 11 7 true (.bn .xor 0 (.t 9) (.t 10)), g 12 7 true (.ld (some 2) (.t 2)), g 13 7 true (.call 0 227 [(.t 12)]), g 14 7 true (.bn .andNot 0 (.t 11) (.t 13)),
  g 15 7 true (.bn .eql 0 (.t 14) (.k (.int .u32 0))), o 16 (.pick (.t 7) (.t 15) (.k (.bool false))), o 4 (.mv (.t 16))], .ret], 17, [.tmp 4]⟩
theorem c337 : chkF Tryz.prog 337 p337 = true := by decide +kernel
/- paling/route.sees -/
def p338 : PFn := ⟨[o 3 (.bxd 0 (.t 0)), o 6 (.mv (.k (.bool false))), .draw 0 [0, 1, 2, 3, 4, 5, 6, 7, 8, 9, 10, 11, 12, 13, 14, 15, 16, 17, 18, 19, 20, 21, 22, 23] [] [o 7 (.ld (some 8) (.t 3)), o 8 (.mv (.t 1)), o 9 (.call 0 336 [(.t 7),
  (.t 8)]), o 10 (.ld (some 8) (.t 3)), o 11 (.mv (.t 2)), o 12 (.call 0 336 [(.t 10), (.t 11)]), o 13 (.bn .eql 0 (.t 9) (.t 12)), o 14 (.mv (.t 13)), g 15 14 true (.ld (some 8) (.t 3)), g 16 14 true (.fa 7 (.t 3)),
  g 17 14 true (.ld none (.t 16)), g 18 14 true (.mv (.t 2)), g 19 14 true (.ia 5 (.t 17) (.t 18)), g 20 14 true (.fa 2 (.t 19)), g 21 14 true (.ld none (.t 20)), g 22 14 true (.fa 7 (.t 3)), g 23 14 true (.ld none (.t 22)),
  g 24 14 true (.mv (.t 1)), g 25 14 true (.ia 5 (.t 23) (.t 24)), g 26 14 true (.fa 2 (.t 25)), g 27 14 true (.ld none (.t 26)), g 28 14 true (.call 0 375 [(.t 15), (.t 21), (.t 27)]), o 29 (.pick (.t 14) (.t 28) (.k (.bool false))),
  o 6 (.mv (.t 29))], .ret], 30, [.tmp 6]⟩
theorem c338 : chkF Tryz.prog 338 p338 = true := by decide +kernel
/- paling/route.lookup$1 -/
def p339 : PFn := ⟨[o 4 (.mv (.k (i 0))), .draw 0 [0, 1, 2, 3, 4, 5, 6, 7, 8, 9, 10, 11, 12] [] [o 5 (.fa 7 (.t 1)), o 6 (.ld none (.t 5)), o 7 (.mv (.t 0)), o 8 (.ia 5 (.t 6) (.t 7)), o 9 (.fa 2 (.t 8)), o 10 (.ld none (.t 9)),
  o 11 (.fa 7 (.t 1)), o 12 (.ld none (.t 11)), o 13 (.ld none (.t 2)), o 14 (.ia 5 (.t 12) (.t 13)), o 15 (.fa 2 (.t 14)), o 16 (.ld none (.t 15)), o 17 (.bn .eql 0 (.t 10) (.t 16))], .cond (.t 17) [o 4 (.mv (.k (i 1))), .ret] [],
  o 4 (.mv (.k (i 0))), .ret], 18, [.tmp 4]⟩
theorem c339 : chkF Tryz.prog 339 p339 = true := by decide +kernel
/- slices.MaxFunc[[]int,int] -/
def p340 : PFn := ⟨[o 4 (.mv (.k (i 0))), o 7 (.mv (.t 0)), o 8 (.len false (.t 7)), o 9 (.bn .lss 0 (.t 8) (.k (i 1))), .cond (.t 9) [o 10 (.mi 9 (.k (.str [115, 108, 105, 99, 101, 115, 46, 77, 97, 120, 70, 117, 110, 99, 58, 32, 101, 109,
  112, 116, 121, 32, 108, 105, 115, 116]))), e (.bad)] [], o 11 (.mv (.t 0)), o 12 (.ia 1 (.t 11) (.k (i 0))), o 13 (.ld none (.t 12)), o 5 (.mv (.t 13)), o 6 (.mv (.k (i 1))), .block 0 [.loop [o 14 (.mv (.t 6)), o 15 (.mv (.t 0)),
  o 16 (.len false (.t 15)), o 17 (.bn .lss 0 (.t 14) (.t 16)), .cond (.t 17) [] [.exit 0], .block 1 [o 20 (.mv (.t 1)), o 21 (.mv (.t 0)), o 22 (.mv (.t 6)), o 23 (.ia 1 (.t 21) (.t 22)), o 24 (.ld none (.t 23)), o 25 (.mv (.t 5)),
  o 26 (.callv 4 (.t 20) [(.t 24), (.t 25)]), o 27 (.bn .gtr 0 (.t 26) (.k (i 0))), .cond (.t 27) [o 28 (.mv (.t 0)), o 29 (.mv (.t 6)), o 30 (.ia 1 (.t 28) (.t 29)), o 31 (.ld none (.t 30)), o 5 (.mv (.t 31))] []], o 18 (.mv (.t 6)),
  o 19 (.bn .add 0 (.t 18) (.k (i 1))), o 6 (.mv (.t 19))]], o 32 (.mv (.t 5)), o 4 (.mv (.t 32)), .ret], 33, [.tmp 4]⟩
theorem c340 : chkF Tryz.prog 340 p340 = true := by decide +kernel
/- paling/route.lookup$2 -/
def p341 : PFn := ⟨[o 6 (.mv (.k (i 0))), .draw 0 [0, 1, 2, 3, 4, 5, 6, 7, 8, 9, 10, 11, 12, 13, 14, 15] [] [o 9 (.fa 7 (.t 2)), o 10 (.ld none (.t 9)), o 11 (.mv (.t 0)), o 12 (.ia 5 (.t 10) (.t 11)), o 13 (.fa 3 (.t 12)),
  o 14 (.fa 1 (.t 13)), o 15 (.ld none (.t 14)), o 16 (.fa 7 (.t 2)), o 17 (.ld none (.t 16)), o 18 (.mv (.t 1)), o 19 (.ia 5 (.t 17) (.t 18)), o 20 (.fa 3 (.t 19)), o 21 (.fa 1 (.t 20)), o 22 (.ld none (.t 21)), o 7 (.mv (.t 15)),
  o 8 (.mv (.t 22))], o 23 (.mv (.t 7)), o 24 (.mv (.t 8)), o 25 (.bn .neq 0 (.t 23) (.t 24)), .cond (.t 25) [o 26 (.mv (.t 7)), o 27 (.mv (.t 8)), o 28 (.bn .sub 0 (.t 26) (.t 27)), o 6 (.mv (.t 28)), .ret] [], .draw 0 [0, 1, 2, 3, 4, 5, 6,
  7] [(3, 3)] [o 29 (.ld none (.t 3)), o 30 (.mv (.t 0)), o 31 (.callv 4 (.t 29) [(.t 30)]), o 32 (.ld none (.t 3)), o 33 (.mv (.t 1)), o 34 (.callv 4 (.t 32) [(.t 33)]), o 35 (.bn .sub 0 (.t 31) (.t 34)), o 6 (.mv (.t 35))], .ret], 36,
  [.tmp 6]⟩
theorem c341 : chkF Tryz.prog 341 p341 = true := by decide +kernel
/- paling/domains.Lookup -/
def p342 : PFn := ⟨[o 3 (.bxd 0 (.t 0)), o 6 (.mv (.k (i 0))), o 8 (.ld (some 8) (.t 3)), o 9 (.mv (.t 1)), o 10 (.mv (.t 2)), o 11 (.call 7 305 [(.t 8), (.t 9), (.t 10)]), o 7 (.mv (.t 11)), o 12 (.mv (.t 7)),
  o 13 (.bn .lss 0 (.t 12) (.k (i 0))), o 14 (.mv (.t 13)), g 15 14 false (.ld (some 8) (.t 3)), g 16 14 false (.call 7 24 [(.t 15)]), g 17 14 false (.un .not (.t 16)), o 18 (.pick (.t 14) (.k (.bool true)) (.t 17)),
  .cond (.t 18) [o 6 (.mv (.k (i (-1)))), .ret] [], o 19 (.fa 4 (.t 3)), o 20 (.ld none (.t 19)), o 21 (.mv (.t 7)), o 22 (.ia 4 (.t 20) (.t 21)), o 23 (.fa 2 (.t 22)), o 24 (.ld none (.t 23)), o 6 (.mv (.t 24)), .ret], 25, [.tmp 6]⟩
theorem c342 : chkF Tryz.prog 342 p342 = true := by decide +kernel
/- paling/table.Find -/
def p343 : PFn := ⟨[o 4 (.mv (.k (i 0))), o 5 (.mv (.k (.bool false))), o 7 (.mv (.t 0)), o 8 (.mv (.t 1)), o 9 (.call 7 274 [(.t 7), (.t 8)]), o 6 (.mv (.t 9)), o 10 (.mv (.t 6)), o 11 (.bn .lss 0 (.t 10) (.k (i 0))),
  .cond (.t 11) [o 4 (.mv (.k (i 0))), o 5 (.mv (.k (.bool false))), .ret] [], o 12 (.mv (.t 0)), o 13 (.mv (.t 6)), o 14 (.ia 3 (.t 12) (.t 13)), o 15 (.fa 1 (.t 14)), o 16 (.ld none (.t 15)), o 4 (.mv (.t 16)), o 5 (.mv (.k (.bool true))),
  .ret], 17, [.tmp 4, .tmp 5]⟩
theorem c343 : chkF Tryz.prog 343 p343 = true := by decide +kernel
/- paling/vxlan.Head -/
def p344 : PFn := ⟨[o 2 (.mv (.k nl)), o 3 (.mv (.k (i 0))), o 4 (.mv (.t 0)), o 5 (.bn .lss 0 (.t 4) (.k (i 1))), o 6 (.mv (.t 5)), g 7 6 false (.mv (.t 0)), g 8 6 false (.bn .gtr 0 (.t 7) (.k (i 16777215))),
  o 9 (.pick (.t 6) (.k (.bool true)) (.t 8)), .cond (.t 9) [o 2 (.mv (.k nl)), o 3 (.mv (.k (i 17))), .ret] [], o 10 (.mv (.t 0)), o 11 (.bn .shr 0 (.t 10) (.k (.int .u64 16))), o 12 (.cv .u8 (.t 11)), o 13 (.mv (.t 0)),
  o 14 (.bn .shr 0 (.t 13) (.k (.int .u64 8))), o 15 (.cv .u8 (.t 14)), o 16 (.mv (.t 0)), o 17 (.cv .u8 (.t 16)), o 18 (.bsl (u 0) 8 [(0, (.k (u 8))), (1, (.k (u 0))), (2, (.k (u 0))), (3, (.k (u 0))), (4, (.t 12)), (5, (.t 15)), (6, (.t 17)),
  (7, (.k (u 0)))]), o 2 (.mv (.t 18)), o 3 (.mv (.k (i 0))), .ret], 19, [.tmp 2, .tmp 3]⟩
theorem c344 : chkF Tryz.prog 344 p344 = true := by decide +kernel
/- paling/udp.Put -/
def p345 : PFn := ⟨[o 6 (.mv (.k nl)), o 7 (.mv (.k (i 0))), .block 0 [o 12 (.mv (.t 0)), o 13 (.bn .lss 0 (.t 12) (.k (i 0))), o 14 (.mv (.t 13)), g 15 14 false (.mv (.t 0)), g 16 14 false (.bn .gtr 0 (.t 15) (.k (i 65535))),
  o 17 (.pick (.t 14) (.k (.bool true)) (.t 16)), o 18 (.mv (.t 17)), g 19 18 false (.mv (.t 1)), g 20 18 false (.bn .lss 0 (.t 19) (.k (i 0))), o 21 (.pick (.t 18) (.k (.bool true)) (.t 20)), o 22 (.mv (.t 21)), g 23 22 false (.mv (.t 1)),
  g 24 22 false (.bn .gtr 0 (.t 23) (.k (i 65535))), o 25 (.pick (.t 22) (.k (.bool true)) (.t 24)), o 11 (.mv (.t 25)), .cond (.t 11) [o 6 (.mv (.k nl)), o 7 (.mv (.k (i 11))), .ret] [o 27 (.mv (.t 2)), o 28 (.len false (.t 27)),
  o 29 (.bn .gtr 0 (.t 28) (.k (i 1472))), o 26 (.mv (.t 29)), .cond (.t 26) [o 6 (.mv (.k nl)), o 7 (.mv (.k (i 14))), .ret] []]], o 8 (.mv (.k nl)), o 30 (.mv (.t 0)), o 31 (.mv (.t 1)), o 32 (.mv (.t 2)), o 33 (.len false (.t 32)),
  o 34 (.bn .add 0 (.k (i 8)) (.t 33)), o 35 (.bld [(i 0), (i 0), (i 0), (i 0)] [(0, 1, (.t 30)), (1, 1, (.t 31)), (2, 1, (.t 34)), (3, 1, (.k (i 0)))]), o 36 (.mv (.k (i 0))), .block 1 [.loop [o 37 (.bn .lss 0 (.t 36) (.k (i 4))),
  .cond (.t 37) [] [.exit 1], .block 2 [o 38 (.ixa 4 1 false (.t 35) (.t 36)), o 10 (.mv (.t 38)), o 39 (.mv (.t 8)), o 40 (.mv (.t 10)), o 41 (.bn .shr 0 (.t 40) (.k (.int .u64 8))), o 42 (.cv .u8 (.t 41)), o 43 (.mv (.t 10)),
  o 44 (.cv .u8 (.t 43)), o 45 (.bsl (u 0) 2 [(0, (.t 42)), (1, (.t 44))]), o 46 (.app 0 1 (.t 39) (.t 45)), o 8 (.mv (.t 46))], o 47 (.bn .add 0 (.t 36) (.k (i 1))), o 36 (.mv (.t 47))]], o 48 (.mv (.t 8)), o 49 (.mv (.t 2)),
  o 50 (.app 0 1 (.t 48) (.t 49)), o 6 (.mv (.t 50)), o 7 (.mv (.k (i 0))), .ret], 51, [.tmp 6, .tmp 7]⟩
theorem c345 : chkF Tryz.prog 345 p345 = true := by decide +kernel
/- paling/udp.Port -/
def p346 : PFn := ⟨[o 4 (.mv (.k (i 0))), o 5 (.mv (.t 0)), o 6 (.mv (.t 1)), o 7 (.bn .xor 0 (.t 5) (.t 6)), o 8 (.bn .rem 0 (.t 7) (.k (.int .u64 16384))), o 9 (.cv .i64 (.t 8)), o 10 (.bn .add 0 (.k (i 49152)) (.t 9)), o 4 (.mv (.t 10)),
  .ret], 11, [.tmp 4]⟩
theorem c346 : chkF Tryz.prog 346 p346 = true := by decide +kernel
/- (*paling/vxlan.reader).packet -/
def p347 : PFn := ⟨[o 7 (.mv (.t 1)), o 8 (.call 7 87 [(.t 7)]), o 6 (.mv (.t 8)), o 9 (.ext (.t 6) 0), o 10 (.ext (.t 6) 1), o 4 (.al 0 (.agg [(.int .u64 0), (.int .u64 0), (i 0), nl])), .stf 4 4 (.t 9), o 5 (.mv (.t 10)),
  o 11 (.mv (.t 0)), o 12 (.mv (.t 5)), o 13 (.call 4 376 [(.t 11), (.k (.bool true)), (.t 12)]), o 14 (.mv (.t 0)), o 15 (.fa 2 (.t 4)), o 16 (.ld none (.t 15)), o 17 (.bn .neq 0 (.t 16) (.k (i 2048))), o 18 (.call 4 376 [(.t 14), (.t 17),
  (.k (i 11))]), o 19 (.mv (.t 0)), o 20 (.nc (.t 19)), o 21 (.fa 8 (.t 20)), o 22 (.ld none (.t 21)), o 23 (.bn .eql 0 (.t 22) (.k (i 0))), .cond (.t 23) [o 25 (.mv (.t 0)), o 26 (.fa 3 (.t 4)), o 27 (.ld none (.t 26)),
  o 28 (.call 7 276 [(.t 27)]), o 24 (.mv (.t 28)), o 29 (.ext (.t 24) 0), o 30 (.ext (.t 24) 1), o 31 (.nc (.t 25)), o 32 (.fa 0 (.t 31)), o 33 (.fa 0 (.t 32)), e (.st 7 (.t 33) (.t 29)), o 5 (.mv (.t 30)), o 34 (.mv (.t 0)), o 35 (.mv (.t 5)),
  o 36 (.call 4 376 [(.t 34), (.k (.bool true)), (.t 35)]), o 37 (.mv (.t 0)), o 38 (.mv (.t 0)), o 39 (.nc (.t 38)), o 40 (.fa 0 (.t 39)), o 41 (.fa 0 (.t 40)), o 42 (.fa 3 (.t 41)), o 43 (.ld none (.t 42)),
  o 44 (.bn .neq 0 (.t 43) (.k (i 17))), o 45 (.call 4 376 [(.t 37), (.t 44), (.k (i 11))])] []], 46, []⟩
theorem c347 : chkF Tryz.prog 347 p347 = true := by decide +kernel
/- (*paling/vxlan.reader).frame -/
def p348 : PFn := ⟨[o 2 (.al 0 (.agg [(.int .u64 0), (.int .u64 0), (i 0), nl])), o 8 (.mv (.t 0)), o 9 (.nc (.t 8)), o 10 (.fa 8 (.t 9)), o 11 (.ld none (.t 10)), o 12 (.bn .neq 0 (.t 11) (.k (i 0))),
  .cond (.t 12) [o 13 (.bld [(.int .u64 0), (.int .u64 0), (i 0), nl] []), e (.st 4 (.t 2) (.t 13)), .ret] [], o 15 (.mv (.t 0)), o 16 (.nc (.t 15)), o 17 (.fa 0 (.t 16)), o 18 (.fa 0 (.t 17)), o 19 (.fa 6 (.t 18)), o 20 (.ld none (.t 19)),
  o 21 (.call 7 377 [(.t 20)]), o 14 (.mv (.t 21)), o 22 (.ext (.t 14) 0), o 23 (.ext (.t 14) 1), o 24 (.ext (.t 14) 2), o 25 (.ext (.t 14) 3), o 3 (.mv (.t 22)), o 4 (.mv (.t 23)), o 5 (.mv (.t 24)), o 6 (.mv (.t 25)), o 26 (.mv (.t 0)),
  o 27 (.mv (.t 6)), o 28 (.call 4 376 [(.t 26), (.k (.bool true)), (.t 27)]), o 29 (.mv (.t 0)), o 30 (.mv (.t 4)), o 31 (.bn .neq 0 (.t 30) (.k (i 4789))), o 32 (.call 4 376 [(.t 29), (.t 31), (.k (i 11))]), o 33 (.mv (.t 0)),
  o 34 (.nc (.t 33)), o 35 (.fa 8 (.t 34)), o 36 (.ld none (.t 35)), o 37 (.bn .eql 0 (.t 36) (.k (i 0))), .cond (.t 37) [o 39 (.mv (.t 0)), o 40 (.mv (.t 5)), o 41 (.call 7 378 [(.t 40)]), o 38 (.mv (.t 41)), o 42 (.ext (.t 38) 0),
  o 43 (.ext (.t 38) 1), o 44 (.ext (.t 38) 2), o 45 (.nc (.t 39)), o 46 (.fa 0 (.t 45)), o 47 (.fa 7 (.t 46)), e (.st 1 (.t 47) (.t 42)), o 5 (.mv (.t 43)), o 6 (.mv (.t 44)), o 48 (.mv (.t 0)), o 49 (.mv (.t 6)), o 50 (.call 4 376 [(.t 48),
  (.k (.bool true)), (.t 49)])] [], o 51 (.mv (.t 0)), o 52 (.nc (.t 51)), o 53 (.fa 8 (.t 52)), o 54 (.ld none (.t 53)), o 55 (.bn .neq 0 (.t 54) (.k (i 0))), .cond (.t 55) [o 56 (.bld [(.int .u64 0), (.int .u64 0), (i 0), nl] []),
  e (.st 4 (.t 2) (.t 56)), .ret] [], o 58 (.mv (.t 5)), o 59 (.call 7 87 [(.t 58)]), o 57 (.mv (.t 59)), o 60 (.ext (.t 57) 0), o 61 (.ext (.t 57) 1), o 7 (.al 0 (.agg [(.int .u64 0), (.int .u64 0), (i 0), nl])), .stf 4 7 (.t 60),
  o 6 (.mv (.t 61)), o 62 (.mv (.t 0)), o 63 (.mv (.t 6)), o 64 (.call 4 376 [(.t 62), (.k (.bool true)), (.t 63)]), o 65 (.mv (.t 0)), o 66 (.ld (some 4) (.t 7)), o 67 (.call 7 159 [(.t 66)]), o 68 (.call 4 376 [(.t 65), (.t 67), (.k (i 15))]),
  o 69 (.ld (some 4) (.t 7)), e (.st 4 (.t 2) (.t 69)), .ret], 70, [.cell (some 4) 2]⟩
theorem c348 : chkF Tryz.prog 348 p348 = true := by decide +kernel
/- (paling/leave.whole).ends$1 -/
def p349 : PFn := ⟨[o 2 (.bxd 0 (.t 0)), o 3 (.mv (.k (.bool false))), o 4 (.fa 4 (.t 2)), o 5 (.ld none (.t 4)), o 6 (.ld none (.t 1)), o 7 (.bn .eql 0 (.t 5) (.t 6)), o 3 (.mv (.t 7)), .ret], 8, [.tmp 3]⟩
theorem c349 : chkF Tryz.prog 349 p349 = true := by decide +kernel
/- (paling/leave.whole).ends$2 -/
def p350 : PFn := ⟨[o 3 (.bxd 0 (.t 0)), o 4 (.mv (.k (.bool false))), o 5 (.fa 0 (.t 3)), o 6 (.ld none (.t 5)), o 7 (.ld none (.t 1)), o 8 (.bn .eql 0 (.t 6) (.t 7)), o 9 (.mv (.t 8)), g 10 9 true (.fa 2 (.t 3)),
  g 11 9 true (.ld none (.t 10)), g 12 9 true (.ld none (.t 2)), g 13 9 true (.bn .eql 0 (.t 11) (.t 12)), o 14 (.pick (.t 9) (.t 13) (.k (.bool false))), o 4 (.mv (.t 14)), .ret], 15, [.tmp 4]⟩
theorem c350 : chkF Tryz.prog 350 p350 = true := by decide +kernel
/- slices.IndexFunc[[]int,int] -/
def p351 : PFn := ⟨[o 4 (.mv (.k (i 0))), o 6 (.mv (.t 0)), o 7 (.len false (.t 6)), o 8 (.mv (.k (i 0))), .block 0 [.loop [o 9 (.bn .lss 0 (.t 8) (.t 7)), .cond (.t 9) [] [.exit 0], .block 1 [o 10 (.mv (.t 8)), o 5 (.mv (.t 10)),
  o 11 (.mv (.t 1)), o 12 (.mv (.t 0)), o 13 (.mv (.t 5)), o 14 (.ia 1 (.t 12) (.t 13)), o 15 (.ld none (.t 14)), o 16 (.callv 4 (.t 11) [(.t 15)]), .cond (.t 16) [o 17 (.mv (.t 5)), o 4 (.mv (.t 17)), .ret] []],
  o 18 (.bn .add 0 (.t 8) (.k (i 1))), o 8 (.mv (.t 18))]], o 4 (.mv (.k (i (-1)))), .ret], 19, [.tmp 4]⟩
theorem c351 : chkF Tryz.prog 351 p351 = true := by decide +kernel
/- (paling/leave.whole).ends$3 -/
def p352 : PFn := ⟨[o 4 (.mv (.k (.bool false))), .draw 0 [0, 1, 2, 3, 4, 5] [] [o 5 (.ld (some 8) (.t 1)), o 6 (.mv (.t 0)), o 7 (.call 0 284 [(.t 5), (.t 6)]), o 8 (.ld none (.t 2)), o 9 (.bn .eql 0 (.t 7) (.t 8)), o 4 (.mv (.t 9))],
  .ret], 10, [.tmp 4]⟩
theorem c352 : chkF Tryz.prog 352 p352 = true := by decide +kernel
/- paling/sum.down -/
def p353 : PFn := ⟨[o 1 (.bxm 0 (.t 0)), o 2 (.mv (.k (i 0))), o 4 (.mf 379 [] [(.t 1)]), o 3 (.mv (.t 4)), .block 0 [.loop [o 5 (.ld none (.t 1)), o 6 (.bn .gtr 0 (.t 5) (.k (i 65535))), .cond (.t 6) [] [.exit 0],
  .block 1 [o 7 (.mv (.t 3)), o 8 (.callv 4 (.t 7) [])]]], o 9 (.ld none (.t 1)), o 2 (.mv (.t 9)), .ret], 10, [.tmp 2]⟩
theorem c353 : chkF Tryz.prog 353 p353 = true := by decide +kernel
/- internal/stringslite.HasPrefix -/
def p354 : PFn := ⟨[o 4 (.mv (.k (.bool false))), o 5 (.mv (.t 0)), o 6 (.len true (.t 5)), o 7 (.mv (.t 1)), o 8 (.len true (.t 7)), o 9 (.bn .geq 0 (.t 6) (.t 8)), o 10 (.mv (.t 9)), g 11 10 true (.mv (.t 0)), g 12 10 true (.mv (.t 1)),
  g 13 10 true (.len true (.t 12)), g 14 10 true (.sls (.t 11) none (some (.t 13))), g 15 10 true (.mv (.t 1)), g 16 10 true (.bn .eql 0 (.t 14) (.t 15)), o 17 (.pick (.t 10) (.t 16) (.k (.bool false))), o 4 (.mv (.t 17)), .ret], 18, [.tmp 4]⟩
theorem c354 : chkF Tryz.prog 354 p354 = true := by decide +kernel
/- unicode/utf8.decodeRuneInStringSlow -/
def p355 : PFn := ⟨[o 2 (.mv (.k (.int .i32 0))), o 3 (.mv (.k (i 0))), o 13 (.mv (.t 0)), o 14 (.len true (.t 13)), o 4 (.mv (.t 14)), o 15 (.mv (.t 4)), o 16 (.bn .lss 0 (.t 15) (.k (i 1))), .cond (.t 16) [o 2 (.mv (.k (.int .i32 65533))),
  o 3 (.mv (.k (i 0))), .ret] [], o 17 (.mv (.t 0)), o 18 (.ix (.t 17) (.k (i 0))), o 5 (.mv (.t 18)), o 19 (.mv (.t 5)), o 20 (.bad), o 21 (.ld none (.t 20)), o 6 (.mv (.t 21)), o 22 (.mv (.t 6)), o 23 (.bn .geq 0 (.t 22) (.k (u 240))),
  .cond (.t 23) [o 24 (.mv (.t 6)), o 25 (.cv .i32 (.t 24)), o 26 (.bn .shl 0 (.t 25) (.k (.int .u64 31))), o 27 (.bn .shr 0 (.t 26) (.k (.int .u64 31))), o 7 (.mv (.t 27)), o 28 (.mv (.t 0)), o 29 (.ix (.t 28) (.k (i 0))),
  o 30 (.cv .i32 (.t 29)), o 31 (.mv (.t 7)), o 32 (.bn .andNot 0 (.t 30) (.t 31)), o 33 (.mv (.t 7)), o 34 (.bn .and 0 (.k (.int .i32 65533)) (.t 33)), o 35 (.bn .or 0 (.t 32) (.t 34)), o 2 (.mv (.t 35)), o 3 (.mv (.k (i 1))), .ret] [],
  o 36 (.mv (.t 6)), o 37 (.bn .and 0 (.t 36) (.k (u 7))), o 38 (.cv .i64 (.t 37)), o 8 (.mv (.t 38)), o 39 (.mv (.t 6)), o 40 (.bn .shr 0 (.t 39) (.k (.int .u64 4))), o 41 (.bad), o 42 (.ld (some 2) (.t 41)), o 9 (.al 0 (.agg [(u 0), (u 0)])),
  .stf 2 9 (.t 42), o 43 (.mv (.t 4)), o 44 (.mv (.t 8)), o 45 (.bn .lss 0 (.t 43) (.t 44)), .cond (.t 45) [o 2 (.mv (.k (.int .i32 65533))), o 3 (.mv (.k (i 1))), .ret] [], o 46 (.mv (.t 0)), o 47 (.ix (.t 46) (.k (i 1))), o 10 (.mv (.t 47)),
  o 48 (.mv (.t 10)), o 49 (.fa 0 (.t 9)), o 50 (.ld none (.t 49)), o 51 (.bn .lss 0 (.t 48) (.t 50)), o 52 (.mv (.t 51)), g 53 52 false (.fa 1 (.t 9)), g 54 52 false (.ld none (.t 53)), g 55 52 false (.mv (.t 10)),
  g 56 52 false (.bn .lss 0 (.t 54) (.t 55)), o 57 (.pick (.t 52) (.k (.bool true)) (.t 56)), .cond (.t 57) [o 2 (.mv (.k (.int .i32 65533))), o 3 (.mv (.k (i 1))), .ret] [], o 58 (.mv (.t 8)), o 59 (.bn .leq 0 (.t 58) (.k (i 2))),
  .cond (.t 59) [o 60 (.mv (.t 5)), o 61 (.bn .and 0 (.t 60) (.k (u 31))), o 62 (.cv .i32 (.t 61)), o 63 (.bn .shl 0 (.t 62) (.k (.int .u64 6))), o 64 (.mv (.t 10)), o 65 (.bn .and 0 (.t 64) (.k (u 63))), o 66 (.cv .i32 (.t 65)),
  o 67 (.bn .or 0 (.t 63) (.t 66)), o 2 (.mv (.t 67)), o 3 (.mv (.k (i 2))), .ret] [], o 68 (.mv (.t 0)), o 69 (.ix (.t 68) (.k (i 2))), o 11 (.mv (.t 69)), o 70 (.mv (.t 11)), o 71 (.bn .lss 0 (.t 70) (.k (u 128))), o 72 (.mv (.t 71)),
  g 73 72 false (.mv (.t 11)), g 74 72 false (.bn .lss 0 (.k (u 191)) (.t 73)), o 75 (.pick (.t 72) (.k (.bool true)) (.t 74)), .cond (.t 75) [o 2 (.mv (.k (.int .i32 65533))), o 3 (.mv (.k (i 1))), .ret] [], o 76 (.mv (.t 8)),
  o 77 (.bn .leq 0 (.t 76) (.k (i 3))), .cond (.t 77) [o 78 (.mv (.t 5)), o 79 (.bn .and 0 (.t 78) (.k (u 15))), o 80 (.cv .i32 (.t 79)), o 81 (.bn .shl 0 (.t 80) (.k (.int .u64 12))), o 82 (.mv (.t 10)), o 83 (.bn .and 0 (.t 82) (.k (u 63))),
  o 84 (.cv .i32 (.t 83)), o 85 (.bn .shl 0 (.t 84) (.k (.int .u64 6))), o 86 (.bn .or 0 (.t 81) (.t 85)), o 87 (.mv (.t 11)), o 88 (.bn .and 0 (.t 87) (.k (u 63))), o 89 (.cv .i32 (.t 88)), o 90 (.bn .or 0 (.t 86) (.t 89)), o 2 (.mv (.t 90)),
  o 3 (.mv (.k (i 3))), .ret] [], o 91 (.mv (.t 0)), o 92 (.ix (.t 91) (.k (i 3))), o 12 (.mv (.t 92)), o 93 (.mv (.t 12)), o 94 (.bn .lss 0 (.t 93) (.k (u 128))), o 95 (.mv (.t 94)), g 96 95 false (.mv (.t 12)),
  g 97 95 false (.bn .lss 0 (.k (u 191)) (.t 96)), o 98 (.pick (.t 95) (.k (.bool true)) (.t 97)), .cond (.t 98) [o 2 (.mv (.k (.int .i32 65533))), o 3 (.mv (.k (i 1))), .ret] [], o 99 (.mv (.t 5)), o 100 (.bn .and 0 (.t 99) (.k (u 7))),
  o 101 (.cv .i32 (.t 100)), o 102 (.bn .shl 0 (.t 101) (.k (.int .u64 18))), o 103 (.mv (.t 10)), o 104 (.bn .and 0 (.t 103) (.k (u 63))), o 105 (.cv .i32 (.t 104)), o 106 (.bn .shl 0 (.t 105) (.k (.int .u64 12))),
  o 107 (.bn .or 0 (.t 102) (.t 106)), o 108 (.mv (.t 11)), o 109 (.bn .and 0 (.t 108) (.k (u 63))), o 110 (.cv .i32 (.t 109)), o 111 (.bn .shl 0 (.t 110) (.k (.int .u64 6))), o 112 (.bn .or 0 (.t 107) (.t 111)), o 113 (.mv (.t 12)),
  o 114 (.bn .and 0 (.t 113) (.k (u 63))), o 115 (.cv .i32 (.t 114)), o 116 (.bn .or 0 (.t 112) (.t 115)), o 2 (.mv (.t 116)), o 3 (.mv (.k (i 4))), .ret], 117, [.tmp 2, .tmp 3]⟩
theorem c355 : chkF Tryz.prog 355 p355 = true := by decide +kernel
/- (*internal/sync.Mutex).lockSlow -/
def p360 : PFn := ⟨[o 2 (.mv (.k (i 0))), o 3 (.mv (.k (.bool false))), o 4 (.mv (.k (.bool false))), o 5 (.mv (.k (i 0))), o 10 (.mv (.t 0)), o 11 (.nc (.t 10)), o 12 (.fa 0 (.t 11)), o 13 (.ld none (.t 12)), o 6 (.mv (.t 13)),
  .block 0 [.loop [.block 1 [o 14 (.mv (.t 6)), o 15 (.bn .and 0 (.t 14) (.k (.int .i32 5))), o 16 (.bn .eql 0 (.t 15) (.k (.int .i32 1))), o 17 (.mv (.t 16)), g 18 17 true (.mv (.t 5)), g 19 17 true (.call 7 380 [(.t 18)]),
  o 20 (.pick (.t 17) (.t 19) (.k (.bool false))), .cond (.t 20) [o 21 (.mv (.t 4)), o 22 (.un .not (.t 21)), o 23 (.mv (.t 22)), g 24 23 true (.mv (.t 6)), g 25 23 true (.bn .and 0 (.t 24) (.k (.int .i32 2))),
  g 26 23 true (.bn .eql 0 (.t 25) (.k (.int .i32 0))), o 27 (.pick (.t 23) (.t 26) (.k (.bool false))), o 28 (.mv (.t 27)), g 29 28 true (.mv (.t 6)), g 30 28 true (.bn .shr 0 (.t 29) (.k (.int .u64 3))),
  g 31 28 true (.bn .neq 0 (.t 30) (.k (.int .i32 0))), o 32 (.pick (.t 28) (.t 31) (.k (.bool false))), o 33 (.mv (.t 32)), g 34 33 true (.mv (.t 0)), g 35 33 true (.nc (.t 34)), g 36 33 true (.fa 0 (.t 35)), g 37 33 true (.mv (.t 6)),
  g 38 33 true (.mv (.t 6)), g 39 33 true (.bn .or 0 (.t 38) (.k (.int .i32 2))), g 40 33 true (.call 4 357 [(.t 36), (.t 37), (.t 39)]), o 41 (.pick (.t 33) (.t 40) (.k (.bool false))), .cond (.t 41) [o 4 (.mv (.k (.bool true)))] [],
  o 42 (.call 7 381 []), o 43 (.mv (.t 5)), o 44 (.bn .add 0 (.t 43) (.k (i 1))), o 5 (.mv (.t 44)), o 45 (.mv (.t 0)), o 46 (.nc (.t 45)), o 47 (.fa 0 (.t 46)), o 48 (.ld none (.t 47)), o 6 (.mv (.t 48)), .exit 1] [], o 49 (.mv (.t 6)),
  o 7 (.mv (.t 49)), o 50 (.mv (.t 6)), o 51 (.bn .and 0 (.t 50) (.k (.int .i32 4))), o 52 (.bn .eql 0 (.t 51) (.k (.int .i32 0))), .cond (.t 52) [o 53 (.mv (.t 7)), o 54 (.bn .or 0 (.t 53) (.k (.int .i32 1))), o 7 (.mv (.t 54))] [],
  o 55 (.mv (.t 6)), o 56 (.bn .and 0 (.t 55) (.k (.int .i32 5))), o 57 (.bn .neq 0 (.t 56) (.k (.int .i32 0))), .cond (.t 57) [o 58 (.mv (.t 7)), o 59 (.bn .add 0 (.t 58) (.k (.int .i32 8))), o 7 (.mv (.t 59))] [], o 60 (.mv (.t 3)),
  o 61 (.mv (.t 60)), g 62 61 true (.mv (.t 6)), g 63 61 true (.bn .and 0 (.t 62) (.k (.int .i32 1))), g 64 61 true (.bn .neq 0 (.t 63) (.k (.int .i32 0))), o 65 (.pick (.t 61) (.t 64) (.k (.bool false))), .cond (.t 65) [o 66 (.mv (.t 7)),
  o 67 (.bn .or 0 (.t 66) (.k (.int .i32 4))), o 7 (.mv (.t 67))] [], o 68 (.mv (.t 4)), .cond (.t 68) [o 69 (.mv (.t 7)), o 70 (.bn .and 0 (.t 69) (.k (.int .i32 2))), o 71 (.bn .eql 0 (.t 70) (.k (.int .i32 0))),
  .cond (.t 71) [o 72 (.call 7 382 [(.k (.str [115, 121, 110, 99, 58, 32, 105, 110, 99, 111, 110, 115, 105, 115, 116, 101, 110, 116, 32, 109, 117, 116, 101, 120, 32, 115, 116, 97, 116, 101]))])] [], o 73 (.mv (.t 7)),
  o 74 (.bn .andNot 0 (.t 73) (.k (.int .i32 2))), o 7 (.mv (.t 74))] [], o 75 (.mv (.t 0)), o 76 (.nc (.t 75)), o 77 (.fa 0 (.t 76)), o 78 (.mv (.t 6)), o 79 (.mv (.t 7)), o 80 (.call 4 357 [(.t 77), (.t 78), (.t 79)]),
  .cond (.t 80) [o 81 (.mv (.t 6)), o 82 (.bn .and 0 (.t 81) (.k (.int .i32 5))), o 83 (.bn .eql 0 (.t 82) (.k (.int .i32 0))), .cond (.t 83) [.exit 0] [], o 84 (.mv (.t 2)), o 85 (.bn .neq 0 (.t 84) (.k (i 0))), o 8 (.mv (.t 85)),
  o 86 (.mv (.t 2)), o 87 (.bn .eql 0 (.t 86) (.k (i 0))), .cond (.t 87) [o 88 (.call 7 383 []), o 2 (.mv (.t 88))] [], o 89 (.mv (.t 0)), o 90 (.nc (.t 89)), o 91 (.fa 1 (.t 90)), o 92 (.mv (.t 8)), o 93 (.call 7 384 [(.t 91), (.t 92),
  (.k (i 2))]), o 94 (.mv (.t 3)), o 95 (.mv (.t 94)), g 96 95 false (.call 7 383 []), g 97 95 false (.mv (.t 2)), g 98 95 false (.bn .sub 0 (.t 96) (.t 97)), g 99 95 false (.bn .gtr 0 (.t 98) (.k (i 1000000))),
  o 100 (.pick (.t 95) (.k (.bool true)) (.t 99)), o 3 (.mv (.t 100)), o 101 (.mv (.t 0)), o 102 (.nc (.t 101)), o 103 (.fa 0 (.t 102)), o 104 (.ld none (.t 103)), o 6 (.mv (.t 104)), o 105 (.mv (.t 6)),
  o 106 (.bn .and 0 (.t 105) (.k (.int .i32 4))), o 107 (.bn .neq 0 (.t 106) (.k (.int .i32 0))), .cond (.t 107) [o 108 (.mv (.t 6)), o 109 (.bn .and 0 (.t 108) (.k (.int .i32 3))), o 110 (.bn .neq 0 (.t 109) (.k (.int .i32 0))),
  o 111 (.mv (.t 110)), g 112 111 false (.mv (.t 6)), g 113 111 false (.bn .shr 0 (.t 112) (.k (.int .u64 3))), g 114 111 false (.bn .eql 0 (.t 113) (.k (.int .i32 0))), o 115 (.pick (.t 111) (.k (.bool true)) (.t 114)),
  .cond (.t 115) [o 116 (.call 7 382 [(.k (.str [115, 121, 110, 99, 58, 32, 105, 110, 99, 111, 110, 115, 105, 115, 116, 101, 110, 116, 32, 109, 117, 116, 101, 120, 32, 115, 116, 97, 116, 101]))])] [], o 9 (.mv (.k (.int .i32 (-7)))),
  o 117 (.mv (.t 3)), o 118 (.un .not (.t 117)), o 119 (.mv (.t 118)), g 120 119 false (.mv (.t 6)), g 121 119 false (.bn .shr 0 (.t 120) (.k (.int .u64 3))), g 122 119 false (.bn .eql 0 (.t 121) (.k (.int .i32 1))),
  o 123 (.pick (.t 119) (.k (.bool true)) (.t 122)), .cond (.t 123) [o 124 (.mv (.t 9)), o 125 (.bn .sub 0 (.t 124) (.k (.int .i32 4))), o 9 (.mv (.t 125))] [], o 126 (.mv (.t 0)), o 127 (.nc (.t 126)), o 128 (.fa 0 (.t 127)),
  o 129 (.mv (.t 9)), o 130 (.call 4 362 [(.t 128), (.t 129)]), .exit 0] [], o 4 (.mv (.k (.bool true))), o 5 (.mv (.k (i 0)))] [o 131 (.mv (.t 0)), o 132 (.nc (.t 131)), o 133 (.fa 0 (.t 132)), o 134 (.ld none (.t 133)), o 6 (.mv (.t 134))]]]],
  .cond (.k (.bool true)) [o 135 (.call 4 358 []), o 136 (.mv (.t 0)), o 137 (.cvu (.t 136)), o 138 (.call 4 359 [(.t 137)])] []], 139, []⟩
theorem c360 : chkF Tryz.prog 360 p360 = true := by decide +kernel
/- (*internal/sync.Mutex).unlockSlow -/
def p363 : PFn := ⟨[o 5 (.mv (.t 1)), o 6 (.bn .add 0 (.t 5) (.k (.int .i32 1))), o 7 (.bn .and 0 (.t 6) (.k (.int .i32 1))), o 8 (.bn .eql 0 (.t 7) (.k (.int .i32 0))), .cond (.t 8) [o 9 (.call 7 385 [(.k (.str [115, 121, 110, 99, 58, 32,
  117, 110, 108, 111, 99, 107, 32, 111, 102, 32, 117, 110, 108, 111, 99, 107, 101, 100, 32, 109, 117, 116, 101, 120]))])] [], o 10 (.mv (.t 1)), o 11 (.bn .and 0 (.t 10) (.k (.int .i32 4))), o 12 (.bn .eql 0 (.t 11) (.k (.int .i32 0))),
  .cond (.t 12) [o 13 (.mv (.t 1)), o 4 (.mv (.t 13)), .block 0 [.loop [.block 1 [o 14 (.mv (.t 4)), o 15 (.bn .shr 0 (.t 14) (.k (.int .u64 3))), o 16 (.bn .eql 0 (.t 15) (.k (.int .i32 0))), o 17 (.mv (.t 16)), g 18 17 false (.mv (.t 4)),
  g 19 17 false (.bn .and 0 (.t 18) (.k (.int .i32 7))), g 20 17 false (.bn .neq 0 (.t 19) (.k (.int .i32 0))), o 21 (.pick (.t 17) (.k (.bool true)) (.t 20)), .cond (.t 21) [.ret] [], o 22 (.mv (.t 4)),
  o 23 (.bn .sub 0 (.t 22) (.k (.int .i32 8))), o 24 (.bn .or 0 (.t 23) (.k (.int .i32 2))), o 1 (.mv (.t 24)), o 25 (.mv (.t 0)), o 26 (.nc (.t 25)), o 27 (.fa 0 (.t 26)), o 28 (.mv (.t 4)), o 29 (.mv (.t 1)), o 30 (.call 4 357 [(.t 27),
  (.t 28), (.t 29)]), .cond (.t 30) [o 31 (.mv (.t 0)), o 32 (.nc (.t 31)), o 33 (.fa 1 (.t 32)), o 34 (.call 7 386 [(.t 33), (.k (.bool false)), (.k (i 2))]), .ret] [], o 35 (.mv (.t 0)), o 36 (.nc (.t 35)), o 37 (.fa 0 (.t 36)),
  o 38 (.ld none (.t 37)), o 4 (.mv (.t 38))]]]] [o 39 (.mv (.t 0)), o 40 (.nc (.t 39)), o 41 (.fa 1 (.t 40)), o 42 (.call 7 386 [(.t 41), (.k (.bool true)), (.k (i 2))])]], 43, []⟩
theorem c363 : chkF Tryz.prog 363 p363 = true := by decide +kernel
/- slices.ContainsFunc[[]paling/api.Domain,paling/api.Domain] -/
def p364 : PFn := ⟨[o 4 (.mv (.k (.bool false))), o 5 (.mv (.t 0)), o 6 (.mv (.t 1)), o 7 (.call 7 177 [(.t 5), (.t 6)]), o 8 (.bn .geq 0 (.t 7) (.k (i 0))), o 4 (.mv (.t 8)), .ret], 9, [.tmp 4]⟩
theorem c364 : chkF Tryz.prog 364 p364 = true := by decide +kernel
/- (*paling/ports.draft).domain$1 -/
def p365 : PFn := ⟨[o 3 (.bxd 0 (.t 0)), o 4 (.mv (.k (.bool false))), o 5 (.fa 0 (.t 3)), o 6 (.ld none (.t 5)), o 7 (.ld none (.t 1)), o 8 (.bn .eql 0 (.t 6) (.t 7)), o 9 (.mv (.t 8)), g 10 9 true (.fa 1 (.t 3)),
  g 11 9 true (.ld none (.t 10)), g 12 9 true (.ld none (.t 2)), g 13 9 true (.bn .eql 0 (.t 11) (.t 12)), o 14 (.pick (.t 9) (.t 13) (.k (.bool false))), o 4 (.mv (.t 14)), .ret], 15, [.tmp 4]⟩
theorem c365 : chkF Tryz.prog 365 p365 = true := by decide +kernel
/- paling/stmt.used -/
def p366 : PFn := ⟨[o 1 (.bxd 0 (.t 0)), o 2 (.al 0 (.agg [(i 0), (i 0), (.str []), (.str []), (.str []), (.str []), (.str []), (.int .u64 0), (.int .u32 0), (i 0), (i 0), (i 0), (i 0), nl, nl, nl, nl])), o 3 (.mv (.k (.bool false))),
  o 5 (.fa 0 (.t 1)), o 6 (.ld none (.t 5)), o 7 (.fa 1 (.t 1)), o 8 (.ld none (.t 7)), o 9 (.fa 2 (.t 1)), o 10 (.ld none (.t 9)), o 11 (.bld [(i 0), (i 0), (.str []), (.str []), (.str []), (.str []), (.str []), (.int .u64 0), (.int .u32 0),
  (i 0), (i 0), (i 0), (i 0), nl, nl, nl, nl] [(0, 1, (.t 6)), (1, 1, (.t 8)), (2, 1, (.t 10))]), o 4 (.al 0 (.agg [(i 0), (i 0), (.str []), (.str []), (.str []), (.str []), (.str []), (.int .u64 0), (.int .u32 0), (i 0), (i 0), (i 0), (i 0),
  nl, nl, nl, nl])), e (.st 17 (.t 4) (.t 11)), o 12 (.fa 1 (.t 1)), o 13 (.ld none (.t 12)), .block 0 [o 15 (.bn .eql 0 (.t 13) (.k (i 1))), o 14 (.mv (.t 15)), .cond (.t 14) [.draw 0 [0, 1, 2, 3, 4, 5, 6, 7] [(20, 18)] [o 16 (.fa 11 (.t 1)),
  o 17 (.ld none (.t 16)), o 18 (.fa 7 (.t 1)), o 19 (.ld none (.t 18)), o 20 (.fa 11 (.t 4)), e (.st 1 (.t 20) (.t 17)), o 21 (.fa 7 (.t 4)), e (.st 1 (.t 21) (.t 19))], .draw 0 [0, 1, 2, 3, 4, 5, 6, 7, 8, 9,
  10] [] [o 22 (.ld (some 17) (.t 4)), o 23 (.fa 11 (.t 1)), o 24 (.ld none (.t 23)), o 25 (.call 0 387 [(.t 24), (.k (i 0)), (.k (i 65535))]), o 26 (.mv (.t 25)), g 27 26 true (.fa 7 (.t 1)), g 28 26 true (.ld none (.t 27)),
  g 29 26 true (.call 0 163 [(.t 28)]), o 30 (.pick (.t 26) (.t 29) (.k (.bool false))), e (.st 17 (.t 2) (.t 22)), o 3 (.mv (.t 30))], .ret] [o 32 (.bn .eql 0 (.t 13) (.k (i 2))), o 31 (.mv (.t 32)), .cond (.t 31) [.draw 0 [0, 1, 2, 3, 4, 5, 6,
  7, 8, 9, 10, 11, 12, 13, 14, 15] [(41, 35), (41, 37), (42, 37), (41, 39), (42, 39), (43, 39)] [o 33 (.fa 3 (.t 1)), o 34 (.ld none (.t 33)), o 35 (.fa 12 (.t 1)), o 36 (.ld none (.t 35)), o 37 (.fa 10 (.t 1)), o 38 (.ld none (.t 37)),
  o 39 (.fa 13 (.t 1)), o 40 (.ld none (.t 39)), o 41 (.fa 3 (.t 4)), e (.st 1 (.t 41) (.t 34)), o 42 (.fa 12 (.t 4)), e (.st 1 (.t 42) (.t 36)), o 43 (.fa 10 (.t 4)), e (.st 1 (.t 43) (.t 38)), o 44 (.fa 13 (.t 4)), e (.st 1 (.t 44) (.t 40))],
  .draw 0 [0, 1, 2, 3, 4, 5, 6, 7, 8, 9, 10, 11, 12, 13, 14, 15, 16, 17, 18, 19, 20, 21, 22, 23, 24] [] [o 45 (.ld (some 17) (.t 4)), o 46 (.fa 3 (.t 1)), o 47 (.ld none (.t 46)), o 48 (.call 0 45 [(.t 47)]), o 49 (.mv (.t 48)),
  g 50 49 true (.fa 12 (.t 1)), g 51 49 true (.ld none (.t 50)), g 52 49 true (.call 0 387 [(.t 51), (.k (i 1)), (.k (i 65535))]), o 53 (.pick (.t 49) (.t 52) (.k (.bool false))), o 54 (.mv (.t 53)), g 55 54 true (.fa 10 (.t 1)),
  g 56 54 true (.ld none (.t 55)), g 57 54 true (.call 0 387 [(.t 56), (.k (i 0)), (.k (i 4094))]), o 58 (.pick (.t 54) (.t 57) (.k (.bool false))), o 59 (.mv (.t 58)), g 60 59 true (.fa 13 (.t 1)), g 61 59 true (.ld none (.t 60)),
  g 62 59 true (.call 0 388 [(.t 61), (.k (i 4094))]), o 63 (.pick (.t 59) (.t 62) (.k (.bool false))), o 64 (.mv (.t 63)), g 65 64 true (.ld (some 17) (.t 1)), g 66 64 true (.call 0 164 [(.t 65)]),
  o 67 (.pick (.t 64) (.t 66) (.k (.bool false))), e (.st 17 (.t 2) (.t 45)), o 3 (.mv (.t 67))], .ret] [o 69 (.bn .eql 0 (.t 13) (.k (i 3))), o 68 (.mv (.t 69)), .cond (.t 68) [.draw 0 [0, 1, 2, 3, 4, 5, 6, 7, 8, 9, 10, 11] [(76, 72), (76, 74),
  (77, 74)] [o 70 (.fa 3 (.t 1)), o 71 (.ld none (.t 70)), o 72 (.fa 4 (.t 1)), o 73 (.ld none (.t 72)), o 74 (.fa 5 (.t 1)), o 75 (.ld none (.t 74)), o 76 (.fa 3 (.t 4)), e (.st 1 (.t 76) (.t 71)), o 77 (.fa 4 (.t 4)),
  e (.st 1 (.t 77) (.t 73)), o 78 (.fa 5 (.t 4)), e (.st 1 (.t 78) (.t 75))], .draw 0 [0, 1, 2, 3, 4, 5, 6, 7, 8, 9, 10, 11, 12, 13, 14, 15] [] [o 79 (.ld (some 17) (.t 4)), o 80 (.fa 3 (.t 1)), o 81 (.ld none (.t 80)),
  o 82 (.call 0 45 [(.t 81)]), o 83 (.mv (.t 82)), g 84 83 true (.fa 4 (.t 1)), g 85 83 true (.ld none (.t 84)), g 86 83 true (.call 0 45 [(.t 85)]), o 87 (.pick (.t 83) (.t 86) (.k (.bool false))), o 88 (.mv (.t 87)),
  g 89 88 true (.fa 5 (.t 1)), g 90 88 true (.ld none (.t 89)), g 91 88 true (.call 0 45 [(.t 90)]), o 92 (.pick (.t 88) (.t 91) (.k (.bool false))), e (.st 17 (.t 2) (.t 79)), o 3 (.mv (.t 92))], .ret] [o 94 (.bn .eql 0 (.t 13) (.k (i 4))),
  o 93 (.mv (.t 94)), .cond (.t 93) [.draw 0 [0, 1, 2, 3, 4, 5, 6, 7, 8, 9, 10, 11] [(101, 97), (101, 99), (102, 99)] [o 95 (.fa 10 (.t 1)), o 96 (.ld none (.t 95)), o 97 (.fa 7 (.t 1)), o 98 (.ld none (.t 97)), o 99 (.fa 3 (.t 1)),
  o 100 (.ld none (.t 99)), o 101 (.fa 10 (.t 4)), e (.st 1 (.t 101) (.t 96)), o 102 (.fa 7 (.t 4)), e (.st 1 (.t 102) (.t 98)), o 103 (.fa 3 (.t 4)), e (.st 1 (.t 103) (.t 100))], .draw 0 [0, 1, 2, 3, 4, 5, 6, 7, 8, 9, 10, 11, 12, 13, 14,
  15] [] [o 104 (.ld (some 17) (.t 4)), o 105 (.fa 10 (.t 1)), o 106 (.ld none (.t 105)), o 107 (.call 0 387 [(.t 106), (.k (i 1)), (.k (i 4094))]), o 108 (.mv (.t 107)), g 109 108 true (.fa 7 (.t 1)), g 110 108 true (.ld none (.t 109)),
  g 111 108 true (.call 0 163 [(.t 110)]), o 112 (.pick (.t 108) (.t 111) (.k (.bool false))), o 113 (.mv (.t 112)), g 114 113 true (.fa 3 (.t 1)), g 115 113 true (.ld none (.t 114)), g 116 113 true (.call 0 45 [(.t 115)]),
  o 117 (.pick (.t 113) (.t 116) (.k (.bool false))), e (.st 17 (.t 2) (.t 104)), o 3 (.mv (.t 117))], .ret] [o 119 (.bn .eql 0 (.t 13) (.k (i 5))), o 118 (.mv (.t 119)), .cond (.t 118) [o 120 (.fa 8 (.t 1)), o 121 (.ld none (.t 120)),
  o 122 (.fa 8 (.t 4)), e (.st 1 (.t 122) (.t 121)), .draw 0 [0, 1, 2, 3, 4, 5] [(2, 124)] [o 123 (.ld (some 17) (.t 4)), o 124 (.fa 8 (.t 1)), o 125 (.ld none (.t 124)), o 126 (.bn .neq 0 (.t 125) (.k (.int .u32 0))),
  e (.st 17 (.t 2) (.t 123)), o 3 (.mv (.t 126))], .ret] [o 128 (.bn .eql 0 (.t 13) (.k (i 6))), o 127 (.mv (.t 128)), .cond (.t 127) [.draw 0 [0, 1, 2, 3, 4, 5, 6, 7] [(133, 131)] [o 129 (.fa 10 (.t 1)), o 130 (.ld none (.t 129)),
  o 131 (.fa 11 (.t 1)), o 132 (.ld none (.t 131)), o 133 (.fa 10 (.t 4)), e (.st 1 (.t 133) (.t 130)), o 134 (.fa 11 (.t 4)), e (.st 1 (.t 134) (.t 132))], .draw 0 [0, 1, 2, 3, 4, 5, 6, 7, 8, 9, 10] [] [o 135 (.ld (some 17) (.t 4)),
  o 136 (.fa 10 (.t 1)), o 137 (.ld none (.t 136)), o 138 (.call 0 387 [(.t 137), (.k (i 1)), (.k (i 4094))]), o 139 (.mv (.t 138)), g 140 139 true (.fa 11 (.t 1)), g 141 139 true (.ld none (.t 140)), g 142 139 true (.call 0 387 [(.t 141),
  (.k (i 1)), (.k (i 16777215))]), o 143 (.pick (.t 139) (.t 142) (.k (.bool false))), e (.st 17 (.t 2) (.t 135)), o 3 (.mv (.t 143))], .ret] [o 145 (.bn .eql 0 (.t 13) (.k (i 7))), o 144 (.mv (.t 145)), .cond (.t 144) [.draw 0 [0, 1, 2, 3, 4,
  5, 6, 7] [(150, 148)] [o 146 (.fa 11 (.t 1)), o 147 (.ld none (.t 146)), o 148 (.fa 16 (.t 1)), o 149 (.ld none (.t 148)), o 150 (.fa 11 (.t 4)), e (.st 1 (.t 150) (.t 147)), o 151 (.fa 16 (.t 4)), e (.st 1 (.t 151) (.t 149))], .draw 0 [0, 1,
  2, 3, 4, 5, 6, 7, 8, 9, 10] [] [o 152 (.ld (some 17) (.t 4)), o 153 (.fa 11 (.t 1)), o 154 (.ld none (.t 153)), o 155 (.call 0 387 [(.t 154), (.k (i 1)), (.k (i 16777215))]), o 156 (.mv (.t 155)), g 157 156 true (.fa 16 (.t 1)),
  g 158 156 true (.ld none (.t 157)), g 159 156 true (.call 0 389 [(.t 158)]), o 160 (.pick (.t 156) (.t 159) (.k (.bool false))), e (.st 17 (.t 2) (.t 152)), o 3 (.mv (.t 160))], .ret] [o 162 (.bn .eql 0 (.t 13) (.k (i 8))),
  o 161 (.mv (.t 162)), .cond (.t 161) [.draw 0 [0, 1, 2, 3, 4, 5, 6, 7, 8, 9, 10, 11] [(169, 165), (169, 167), (170, 167)] [o 163 (.fa 6 (.t 1)), o 164 (.ld none (.t 163)), o 165 (.fa 14 (.t 1)), o 166 (.ld none (.t 165)),
  o 167 (.fa 15 (.t 1)), o 168 (.ld none (.t 167)), o 169 (.fa 6 (.t 4)), e (.st 1 (.t 169) (.t 164)), o 170 (.fa 14 (.t 4)), e (.st 1 (.t 170) (.t 166)), o 171 (.fa 15 (.t 4)), e (.st 1 (.t 171) (.t 168))], .draw 0 [0, 1, 2, 3, 4, 5, 6, 7, 8,
  9, 10, 11, 12, 13, 14, 15] [] [o 172 (.ld (some 17) (.t 4)), o 173 (.fa 6 (.t 1)), o 174 (.ld none (.t 173)), o 175 (.call 0 45 [(.t 174)]), o 176 (.mv (.t 175)), g 177 176 true (.fa 14 (.t 1)), g 178 176 true (.ld none (.t 177)),
  g 179 176 true (.call 0 388 [(.t 178), (.k (i 65535))]), o 180 (.pick (.t 176) (.t 179) (.k (.bool false))), o 181 (.mv (.t 180)), g 182 181 true (.fa 15 (.t 1)), g 183 181 true (.ld none (.t 182)), g 184 181 true (.call 0 388 [(.t 183),
  (.k (i 65535))]), o 185 (.pick (.t 181) (.t 184) (.k (.bool false))), e (.st 17 (.t 2) (.t 172)), o 3 (.mv (.t 185))], .ret] [o 187 (.bn .eql 0 (.t 13) (.k (i 9))), o 186 (.mv (.t 187)), .cond (.t 186) [.draw 0 [0, 1, 2, 3, 4, 5, 6, 7, 8, 9,
  10, 11, 12, 13, 14, 15] [(196, 190), (196, 192), (197, 192), (196, 194), (197, 194), (198, 194)] [o 188 (.fa 10 (.t 1)), o 189 (.ld none (.t 188)), o 190 (.fa 6 (.t 1)), o 191 (.ld none (.t 190)), o 192 (.fa 8 (.t 1)),
  o 193 (.ld none (.t 192)), o 194 (.fa 9 (.t 1)), o 195 (.ld none (.t 194)), o 196 (.fa 10 (.t 4)), e (.st 1 (.t 196) (.t 189)), o 197 (.fa 6 (.t 4)), e (.st 1 (.t 197) (.t 191)), o 198 (.fa 8 (.t 4)), e (.st 1 (.t 198) (.t 193)),
  o 199 (.fa 9 (.t 4)), e (.st 1 (.t 199) (.t 195))], .draw 0 [0, 1, 2, 3, 4, 5, 6, 7, 8, 9, 10, 11, 12, 13, 14, 15, 16, 17, 18] [] [o 200 (.ld (some 17) (.t 4)), o 201 (.fa 10 (.t 1)), o 202 (.ld none (.t 201)), o 203 (.call 0 387 [(.t 202),
  (.k (i 1)), (.k (i 4094))]), o 204 (.mv (.t 203)), g 205 204 true (.fa 6 (.t 1)), g 206 204 true (.ld none (.t 205)), g 207 204 true (.call 0 45 [(.t 206)]), o 208 (.pick (.t 204) (.t 207) (.k (.bool false))), o 209 (.mv (.t 208)),
  g 210 209 true (.fa 8 (.t 1)), g 211 209 true (.ld none (.t 210)), g 212 209 true (.fa 9 (.t 1)), g 213 209 true (.ld none (.t 212)), g 214 209 true (.bld [(.int .u32 0), (i 0)] [(0, 1, (.t 211)), (1, 1, (.t 213))]),
  g 215 209 true (.call 0 104 [(.t 214)]), o 216 (.pick (.t 209) (.t 215) (.k (.bool false))), e (.st 17 (.t 2) (.t 200)), o 3 (.mv (.t 216))], .ret] []]]]]]]]]], o 217 (.ld (some 17) (.t 4)), e (.st 17 (.t 2) (.t 217)),
  o 3 (.mv (.k (.bool false))), .ret], 218, [.cell (some 17) 2, .tmp 3]⟩
theorem c366 : chkF Tryz.prog 366 p366 = true := by decide +kernel
/- paling/stmt.Same -/
def p367 : PFn := ⟨[o 2 (.bxd 0 (.t 0)), o 3 (.bxd 0 (.t 1)), o 4 (.mv (.k (.bool false))), o 5 (.fa 0 (.t 2)), o 6 (.ld none (.t 5)), o 7 (.fa 0 (.t 3)), o 8 (.ld none (.t 7)), o 9 (.bn .eql 0 (.t 6) (.t 8)), o 10 (.mv (.t 9)),
  g 11 10 true (.fa 1 (.t 2)), g 12 10 true (.ld none (.t 11)), g 13 10 true (.fa 1 (.t 3)), g 14 10 true (.ld none (.t 13)), g 15 10 true (.bn .eql 0 (.t 12) (.t 14)), o 16 (.pick (.t 10) (.t 15) (.k (.bool false))), o 17 (.mv (.t 16)),
  g 18 17 true (.fa 2 (.t 2)), g 19 17 true (.ld none (.t 18)), g 20 17 true (.fa 2 (.t 3)), g 21 17 true (.ld none (.t 20)), g 22 17 true (.bn .eql 0 (.t 19) (.t 21)), o 23 (.pick (.t 17) (.t 22) (.k (.bool false))), o 24 (.mv (.t 23)),
  g 25 24 true (.fa 3 (.t 2)), g 26 24 true (.ld none (.t 25)), g 27 24 true (.fa 3 (.t 3)), g 28 24 true (.ld none (.t 27)), g 29 24 true (.bn .eql 0 (.t 26) (.t 28)), o 30 (.pick (.t 24) (.t 29) (.k (.bool false))), o 31 (.mv (.t 30)),
  g 32 31 true (.fa 4 (.t 2)), g 33 31 true (.ld none (.t 32)), g 34 31 true (.fa 4 (.t 3)), g 35 31 true (.ld none (.t 34)), g 36 31 true (.bn .eql 0 (.t 33) (.t 35)), o 37 (.pick (.t 31) (.t 36) (.k (.bool false))), o 38 (.mv (.t 37)),
  g 39 38 true (.fa 5 (.t 2)), g 40 38 true (.ld none (.t 39)), g 41 38 true (.fa 5 (.t 3)), g 42 38 true (.ld none (.t 41)), g 43 38 true (.bn .eql 0 (.t 40) (.t 42)), o 44 (.pick (.t 38) (.t 43) (.k (.bool false))), o 45 (.mv (.t 44)),
  g 46 45 true (.fa 6 (.t 2)), g 47 45 true (.ld none (.t 46)), g 48 45 true (.fa 6 (.t 3)), g 49 45 true (.ld none (.t 48)), g 50 45 true (.bn .eql 0 (.t 47) (.t 49)), o 51 (.pick (.t 45) (.t 50) (.k (.bool false))), o 52 (.mv (.t 51)),
  g 53 52 true (.fa 7 (.t 2)), g 54 52 true (.ld none (.t 53)), g 55 52 true (.fa 7 (.t 3)), g 56 52 true (.ld none (.t 55)), g 57 52 true (.bn .eql 0 (.t 54) (.t 56)), o 58 (.pick (.t 52) (.t 57) (.k (.bool false))), o 59 (.mv (.t 58)),
  g 60 59 true (.fa 8 (.t 2)), g 61 59 true (.ld none (.t 60)), g 62 59 true (.fa 8 (.t 3)), g 63 59 true (.ld none (.t 62)), g 64 59 true (.bn .eql 0 (.t 61) (.t 63)), o 65 (.pick (.t 59) (.t 64) (.k (.bool false))), o 66 (.mv (.t 65)),
  g 67 66 true (.fa 9 (.t 2)), g 68 66 true (.ld none (.t 67)), g 69 66 true (.fa 9 (.t 3)), g 70 66 true (.ld none (.t 69)), g 71 66 true (.bn .eql 0 (.t 68) (.t 70)), o 72 (.pick (.t 66) (.t 71) (.k (.bool false))), o 73 (.mv (.t 72)),
  g 74 73 true (.fa 10 (.t 2)), g 75 73 true (.ld none (.t 74)), g 76 73 true (.fa 10 (.t 3)), g 77 73 true (.ld none (.t 76)), g 78 73 true (.bn .eql 0 (.t 75) (.t 77)), o 79 (.pick (.t 73) (.t 78) (.k (.bool false))), o 80 (.mv (.t 79)),
  g 81 80 true (.fa 11 (.t 2)), g 82 80 true (.ld none (.t 81)), g 83 80 true (.fa 11 (.t 3)), g 84 80 true (.ld none (.t 83)), g 85 80 true (.bn .eql 0 (.t 82) (.t 84)), o 86 (.pick (.t 80) (.t 85) (.k (.bool false))), o 87 (.mv (.t 86)),
  g 88 87 true (.fa 12 (.t 2)), g 89 87 true (.ld none (.t 88)), g 90 87 true (.fa 12 (.t 3)), g 91 87 true (.ld none (.t 90)), g 92 87 true (.bn .eql 0 (.t 89) (.t 91)), o 93 (.pick (.t 87) (.t 92) (.k (.bool false))), o 94 (.mv (.t 93)),
  g 95 94 true (.fa 13 (.t 2)), g 96 94 true (.ld none (.t 95)), g 97 94 true (.fa 13 (.t 3)), g 98 94 true (.ld none (.t 97)), g 99 94 true (.call 7 390 [(.t 96), (.t 98)]), o 100 (.pick (.t 94) (.t 99) (.k (.bool false))),
  o 101 (.mv (.t 100)), g 102 101 true (.fa 14 (.t 2)), g 103 101 true (.ld none (.t 102)), g 104 101 true (.fa 14 (.t 3)), g 105 101 true (.ld none (.t 104)), g 106 101 true (.call 7 390 [(.t 103), (.t 105)]),
  o 107 (.pick (.t 101) (.t 106) (.k (.bool false))), o 108 (.mv (.t 107)), g 109 108 true (.fa 15 (.t 2)), g 110 108 true (.ld none (.t 109)), g 111 108 true (.fa 15 (.t 3)), g 112 108 true (.ld none (.t 111)),
  g 113 108 true (.call 7 390 [(.t 110), (.t 112)]), o 114 (.pick (.t 108) (.t 113) (.k (.bool false))), o 115 (.mv (.t 114)), g 116 115 true (.fa 16 (.t 2)), g 117 115 true (.ld none (.t 116)), g 118 115 true (.fa 16 (.t 3)),
  g 119 115 true (.ld none (.t 118)), g 120 115 true (.call 7 391 [(.t 117), (.t 119)]), o 121 (.pick (.t 115) (.t 120) (.k (.bool false))), o 4 (.mv (.t 121)), .ret], 122, [.tmp 4]⟩
theorem c367 : chkF Tryz.prog 367 p367 = true := by decide +kernel
/- slices.IndexFunc[[]paling/api.Static,paling/api.Static] -/
def p368 : PFn := ⟨[o 4 (.mv (.k (i 0))), o 6 (.mv (.t 0)), o 7 (.len false (.t 6)), o 8 (.mv (.k (i 0))), .block 0 [.loop [o 9 (.bn .lss 0 (.t 8) (.t 7)), .cond (.t 9) [] [.exit 0], .block 1 [o 10 (.mv (.t 8)), o 5 (.mv (.t 10)),
  o 11 (.mv (.t 1)), o 12 (.mv (.t 0)), o 13 (.mv (.t 5)), o 14 (.ia 4 (.t 12) (.t 13)), o 15 (.ld (some 4) (.t 14)), o 16 (.callv 4 (.t 11) [(.t 15)]), .cond (.t 16) [o 17 (.mv (.t 5)), o 4 (.mv (.t 17)), .ret] []],
  o 18 (.bn .add 0 (.t 8) (.k (i 1))), o 8 (.mv (.t 18))]], o 4 (.mv (.k (i (-1)))), .ret], 19, [.tmp 4]⟩
theorem c368 : chkF Tryz.prog 368 p368 = true := by decide +kernel
/- paling/domains.entry$1 -/
def p369 : PFn := ⟨[o 3 (.bxd 0 (.t 0)), o 4 (.mv (.k (.bool false))), o 5 (.fa 1 (.t 3)), o 6 (.ld none (.t 5)), o 7 (.ld none (.t 1)), o 8 (.bn .eql 0 (.t 6) (.t 7)), o 9 (.mv (.t 8)), g 10 9 true (.fa 3 (.t 3)),
  g 11 9 true (.ld none (.t 10)), g 12 9 true (.ld none (.t 2)), g 13 9 true (.bn .eql 0 (.t 11) (.t 12)), o 14 (.pick (.t 9) (.t 13) (.k (.bool false))), o 4 (.mv (.t 14)), .ret], 15, [.tmp 4]⟩
theorem c369 : chkF Tryz.prog 369 p369 = true := by decide +kernel
/- slices.Index[[]uint32,uint32] -/
def p370 : PFn := ⟨[o 4 (.mv (.k (i 0))), o 6 (.mv (.t 0)), o 7 (.len false (.t 6)), o 8 (.mv (.k (i 0))), .block 0 [.loop [o 9 (.bn .lss 0 (.t 8) (.t 7)), .cond (.t 9) [] [.exit 0], .block 1 [o 10 (.mv (.t 8)), o 5 (.mv (.t 10)),
  o 11 (.mv (.t 1)), o 12 (.mv (.t 0)), o 13 (.mv (.t 5)), o 14 (.ia 1 (.t 12) (.t 13)), o 15 (.ld none (.t 14)), o 16 (.bn .eql 0 (.t 11) (.t 15)), .cond (.t 16) [o 17 (.mv (.t 5)), o 4 (.mv (.t 17)), .ret] []],
  o 18 (.bn .add 0 (.t 8) (.k (i 1))), o 8 (.mv (.t 18))]], o 4 (.mv (.k (i (-1)))), .ret], 19, [.tmp 4]⟩
theorem c370 : chkF Tryz.prog 370 p370 = true := by decide +kernel
/- paling/names.find[paling/api.Vrf] -/
def p371 : PFn := ⟨[o 3 (.bxd 0 (.t 0)), o 6 (.mv (.k (i 0))), o 7 (.ld (some 8) (.t 3)), o 8 (.call 7 24 [(.t 7)]), o 9 (.un .not (.t 8)), .cond (.t 9) [o 6 (.mv (.k (i (-1)))), .ret] [], o 10 (.mv (.t 1)), o 11 (.mv (.t 2)),
  o 12 (.call 7 392 [(.t 10), (.t 11)]), o 6 (.mv (.t 12)), .ret], 13, [.tmp 6]⟩
theorem c371 : chkF Tryz.prog 371 p371 = true := by decide +kernel
/- paling/names.Vrf$1 -/
def p372 : PFn := ⟨[o 3 (.bxd 0 (.t 0)), o 4 (.mv (.k (.bool false))), o 5 (.fa 1 (.t 3)), o 6 (.ld none (.t 5)), o 7 (.ld none (.t 1)), o 8 (.bn .eql 0 (.t 6) (.t 7)), o 9 (.mv (.t 8)), g 10 9 true (.fa 2 (.t 3)),
  g 11 9 true (.ld none (.t 10)), g 12 9 true (.ld none (.t 2)), g 13 9 true (.bn .eql 0 (.t 11) (.t 12)), o 14 (.pick (.t 9) (.t 13) (.k (.bool false))), o 4 (.mv (.t 14)), .ret], 15, [.tmp 4]⟩
theorem c372 : chkF Tryz.prog 372 p372 = true := by decide +kernel
/- slices.insertionSortCmpFunc[int] -/
def p373 : PFn := ⟨[o 10 (.mv (.t 1)), o 11 (.bn .add 0 (.t 10) (.k (i 1))), o 8 (.mv (.t 11)), .block 0 [.loop [o 12 (.mv (.t 8)), o 13 (.mv (.t 2)), o 14 (.bn .lss 0 (.t 12) (.t 13)), .cond (.t 14) [] [.exit 0],
  .block 1 [o 17 (.mv (.t 8)), o 9 (.mv (.t 17)), .block 2 [.loop [.draw 0 [0, 1, 2, 3, 4, 5, 6, 7, 8, 9, 10, 11, 12, 13, 14, 15, 16] [] [o 18 (.mv (.t 9)), o 19 (.mv (.t 1)), o 20 (.bn .gtr 0 (.t 18) (.t 19)), o 21 (.mv (.t 20)),
  g 22 21 true (.mv (.t 3)), g 23 21 true (.mv (.t 0)), g 24 21 true (.mv (.t 9)), g 25 21 true (.ia 1 (.t 23) (.t 24)), g 26 21 true (.ld none (.t 25)), g 27 21 true (.mv (.t 0)), g 28 21 true (.mv (.t 9)),
  g 29 21 true (.bn .sub 0 (.t 28) (.k (i 1))), g 30 21 true (.ia 1 (.t 27) (.t 29)), g 31 21 true (.ld none (.t 30)), g 32 21 true (.callv 4 (.t 22) [(.t 26), (.t 31)]), g 33 21 true (.bn .lss 0 (.t 32) (.k (i 0))),
  o 34 (.pick (.t 21) (.t 33) (.k (.bool false)))], .cond (.t 34) [] [.exit 2], .block 3 [.draw 0 [0, 1, 2, 3, 4, 5, 6, 7, 8, 9, 10, 11, 12, 13, 14, 15, 16, 17] [] [o 37 (.mv (.t 0)), o 38 (.mv (.t 9)), o 39 (.mv (.t 0)), o 40 (.mv (.t 9)),
  o 41 (.bn .sub 0 (.t 40) (.k (i 1))), o 42 (.mv (.t 0)), o 43 (.mv (.t 9)), o 44 (.bn .sub 0 (.t 43) (.k (i 1))), o 45 (.ia 1 (.t 42) (.t 44)), o 46 (.ld none (.t 45)), o 47 (.mv (.t 0)), o 48 (.mv (.t 9)), o 49 (.ia 1 (.t 47) (.t 48)),
  o 50 (.ld none (.t 49)), o 51 (.ia 1 (.t 37) (.t 38)), e (.st 1 (.t 51) (.t 46)), o 52 (.ia 1 (.t 39) (.t 41)), e (.st 1 (.t 52) (.t 50))]], o 35 (.mv (.t 9)), o 36 (.bn .sub 0 (.t 35) (.k (i 1))), o 9 (.mv (.t 36))]]], o 15 (.mv (.t 8)),
  o 16 (.bn .add 0 (.t 15) (.k (i 1))), o 8 (.mv (.t 16))]]], 53, []⟩
theorem c373 : chkF Tryz.prog 373 p373 = true := by decide +kernel
/- slices.symMergeCmpFunc[int] -/
def p374 : PFn := ⟨[o 25 (.mv (.t 2)), o 26 (.mv (.t 1)), o 27 (.bn .sub 0 (.t 25) (.t 26)), o 28 (.bn .eql 0 (.t 27) (.k (i 1))), .cond (.t 28) [o 29 (.mv (.t 2)), o 10 (.mv (.t 29)), o 30 (.mv (.t 3)), o 11 (.mv (.t 30)),
  .block 0 [.loop [o 31 (.mv (.t 10)), o 32 (.mv (.t 11)), o 33 (.bn .lss 0 (.t 31) (.t 32)), .cond (.t 33) [] [.exit 0], .block 1 [o 34 (.mv (.t 10)), o 35 (.mv (.t 11)), o 36 (.bn .add 0 (.t 34) (.t 35)), o 37 (.cv .u64 (.t 36)),
  o 38 (.bn .shr 0 (.t 37) (.k (.int .u64 1))), o 39 (.cv .i64 (.t 38)), o 12 (.mv (.t 39)), .draw 0 [0, 1, 2, 3, 4, 5, 6, 7, 8, 9, 10] [] [o 40 (.mv (.t 4)), o 41 (.mv (.t 0)), o 42 (.mv (.t 12)), o 43 (.ia 1 (.t 41) (.t 42)),
  o 44 (.ld none (.t 43)), o 45 (.mv (.t 0)), o 46 (.mv (.t 1)), o 47 (.ia 1 (.t 45) (.t 46)), o 48 (.ld none (.t 47)), o 49 (.callv 4 (.t 40) [(.t 44), (.t 48)]), o 50 (.bn .lss 0 (.t 49) (.k (i 0)))], .cond (.t 50) [o 51 (.mv (.t 12)),
  o 52 (.bn .add 0 (.t 51) (.k (i 1))), o 10 (.mv (.t 52))] [o 53 (.mv (.t 12)), o 11 (.mv (.t 53))]]]], o 54 (.mv (.t 1)), o 13 (.mv (.t 54)), .block 2 [.loop [o 55 (.mv (.t 13)), o 56 (.mv (.t 10)), o 57 (.bn .sub 0 (.t 56) (.k (i 1))),
  o 58 (.bn .lss 0 (.t 55) (.t 57)), .cond (.t 58) [] [.exit 2], .block 3 [.draw 0 [0, 1, 2, 3, 4, 5, 6, 7, 8, 9, 10, 11, 12, 13, 14, 15, 16, 17] [] [o 61 (.mv (.t 0)), o 62 (.mv (.t 13)), o 63 (.mv (.t 0)), o 64 (.mv (.t 13)),
  o 65 (.bn .add 0 (.t 64) (.k (i 1))), o 66 (.mv (.t 0)), o 67 (.mv (.t 13)), o 68 (.bn .add 0 (.t 67) (.k (i 1))), o 69 (.ia 1 (.t 66) (.t 68)), o 70 (.ld none (.t 69)), o 71 (.mv (.t 0)), o 72 (.mv (.t 13)), o 73 (.ia 1 (.t 71) (.t 72)),
  o 74 (.ld none (.t 73)), o 75 (.ia 1 (.t 61) (.t 62)), e (.st 1 (.t 75) (.t 70)), o 76 (.ia 1 (.t 63) (.t 65)), e (.st 1 (.t 76) (.t 74))]], o 59 (.mv (.t 13)), o 60 (.bn .add 0 (.t 59) (.k (i 1))), o 13 (.mv (.t 60))]], .ret] [],
  o 77 (.mv (.t 3)), o 78 (.mv (.t 2)), o 79 (.bn .sub 0 (.t 77) (.t 78)), o 80 (.bn .eql 0 (.t 79) (.k (i 1))), .cond (.t 80) [o 81 (.mv (.t 1)), o 14 (.mv (.t 81)), o 82 (.mv (.t 2)), o 15 (.mv (.t 82)), .block 4 [.loop [o 83 (.mv (.t 14)),
  o 84 (.mv (.t 15)), o 85 (.bn .lss 0 (.t 83) (.t 84)), .cond (.t 85) [] [.exit 4], .block 5 [o 86 (.mv (.t 14)), o 87 (.mv (.t 15)), o 88 (.bn .add 0 (.t 86) (.t 87)), o 89 (.cv .u64 (.t 88)), o 90 (.bn .shr 0 (.t 89) (.k (.int .u64 1))),
  o 91 (.cv .i64 (.t 90)), o 16 (.mv (.t 91)), .draw 0 [0, 1, 2, 3, 4, 5, 6, 7, 8, 9, 10, 11] [] [o 92 (.mv (.t 4)), o 93 (.mv (.t 0)), o 94 (.mv (.t 2)), o 95 (.ia 1 (.t 93) (.t 94)), o 96 (.ld none (.t 95)), o 97 (.mv (.t 0)),
  o 98 (.mv (.t 16)), o 99 (.ia 1 (.t 97) (.t 98)), o 100 (.ld none (.t 99)), o 101 (.callv 4 (.t 92) [(.t 96), (.t 100)]), o 102 (.bn .lss 0 (.t 101) (.k (i 0))), o 103 (.un .not (.t 102))], .cond (.t 103) [o 104 (.mv (.t 16)),
  o 105 (.bn .add 0 (.t 104) (.k (i 1))), o 14 (.mv (.t 105))] [o 106 (.mv (.t 16)), o 15 (.mv (.t 106))]]]], o 107 (.mv (.t 2)), o 17 (.mv (.t 107)), .block 6 [.loop [o 108 (.mv (.t 17)), o 109 (.mv (.t 14)),
  o 110 (.bn .gtr 0 (.t 108) (.t 109)), .cond (.t 110) [] [.exit 6], .block 7 [.draw 0 [0, 1, 2, 3, 4, 5, 6, 7, 8, 9, 10, 11, 12, 13, 14, 15, 16, 17] [] [o 113 (.mv (.t 0)), o 114 (.mv (.t 17)), o 115 (.mv (.t 0)), o 116 (.mv (.t 17)),
  o 117 (.bn .sub 0 (.t 116) (.k (i 1))), o 118 (.mv (.t 0)), o 119 (.mv (.t 17)), o 120 (.bn .sub 0 (.t 119) (.k (i 1))), o 121 (.ia 1 (.t 118) (.t 120)), o 122 (.ld none (.t 121)), o 123 (.mv (.t 0)), o 124 (.mv (.t 17)),
  o 125 (.ia 1 (.t 123) (.t 124)), o 126 (.ld none (.t 125)), o 127 (.ia 1 (.t 113) (.t 114)), e (.st 1 (.t 127) (.t 122)), o 128 (.ia 1 (.t 115) (.t 117)), e (.st 1 (.t 128) (.t 126))]], o 111 (.mv (.t 17)),
  o 112 (.bn .sub 0 (.t 111) (.k (i 1))), o 17 (.mv (.t 112))]], .ret] [], o 129 (.mv (.t 1)), o 130 (.mv (.t 3)), o 131 (.bn .add 0 (.t 129) (.t 130)), o 132 (.cv .u64 (.t 131)), o 133 (.bn .shr 0 (.t 132) (.k (.int .u64 1))),
  o 134 (.cv .i64 (.t 133)), o 18 (.mv (.t 134)), o 135 (.mv (.t 18)), o 136 (.mv (.t 2)), o 137 (.bn .add 0 (.t 135) (.t 136)), o 19 (.mv (.t 137)), o 20 (.mv (.k (i 0))), o 21 (.mv (.k (i 0))), o 138 (.mv (.t 2)), o 139 (.mv (.t 18)),
  o 140 (.bn .gtr 0 (.t 138) (.t 139)), .cond (.t 140) [o 141 (.mv (.t 19)), o 142 (.mv (.t 3)), o 143 (.bn .sub 0 (.t 141) (.t 142)), o 20 (.mv (.t 143)), o 144 (.mv (.t 18)), o 21 (.mv (.t 144))] [o 145 (.mv (.t 1)), o 20 (.mv (.t 145)),
  o 146 (.mv (.t 2)), o 21 (.mv (.t 146))], o 147 (.mv (.t 19)), o 148 (.bn .sub 0 (.t 147) (.k (i 1))), o 22 (.mv (.t 148)), .block 8 [.loop [o 149 (.mv (.t 20)), o 150 (.mv (.t 21)), o 151 (.bn .lss 0 (.t 149) (.t 150)),
  .cond (.t 151) [] [.exit 8], .block 9 [o 152 (.mv (.t 20)), o 153 (.mv (.t 21)), o 154 (.bn .add 0 (.t 152) (.t 153)), o 155 (.cv .u64 (.t 154)), o 156 (.bn .shr 0 (.t 155) (.k (.int .u64 1))), o 157 (.cv .i64 (.t 156)), o 23 (.mv (.t 157)),
  .draw 0 [0, 1, 2, 3, 4, 5, 6, 7, 8, 9, 10, 11, 12, 13] [] [o 158 (.mv (.t 4)), o 159 (.mv (.t 0)), o 160 (.mv (.t 22)), o 161 (.mv (.t 23)), o 162 (.bn .sub 0 (.t 160) (.t 161)), o 163 (.ia 1 (.t 159) (.t 162)), o 164 (.ld none (.t 163)),
  o 165 (.mv (.t 0)), o 166 (.mv (.t 23)), o 167 (.ia 1 (.t 165) (.t 166)), o 168 (.ld none (.t 167)), o 169 (.callv 4 (.t 158) [(.t 164), (.t 168)]), o 170 (.bn .lss 0 (.t 169) (.k (i 0))), o 171 (.un .not (.t 170))],
  .cond (.t 171) [o 172 (.mv (.t 23)), o 173 (.bn .add 0 (.t 172) (.k (i 1))), o 20 (.mv (.t 173))] [o 174 (.mv (.t 23)), o 21 (.mv (.t 174))]]]], o 175 (.mv (.t 19)), o 176 (.mv (.t 20)), o 177 (.bn .sub 0 (.t 175) (.t 176)),
  o 24 (.mv (.t 177)), o 178 (.mv (.t 20)), o 179 (.mv (.t 2)), o 180 (.bn .lss 0 (.t 178) (.t 179)), o 181 (.mv (.t 180)), g 182 181 true (.mv (.t 2)), g 183 181 true (.mv (.t 24)), g 184 181 true (.bn .lss 0 (.t 182) (.t 183)),
  o 185 (.pick (.t 181) (.t 184) (.k (.bool false))), .cond (.t 185) [o 186 (.mv (.t 0)), o 187 (.mv (.t 20)), o 188 (.mv (.t 2)), o 189 (.mv (.t 24)), o 190 (.mv (.t 4)), o 191 (.call 4 393 [(.t 186), (.t 187), (.t 188), (.t 189),
  (.t 190)])] [], o 192 (.mv (.t 1)), o 193 (.mv (.t 20)), o 194 (.bn .lss 0 (.t 192) (.t 193)), o 195 (.mv (.t 194)), g 196 195 true (.mv (.t 20)), g 197 195 true (.mv (.t 18)), g 198 195 true (.bn .lss 0 (.t 196) (.t 197)),
  o 199 (.pick (.t 195) (.t 198) (.k (.bool false))), .cond (.t 199) [o 200 (.mv (.t 0)), o 201 (.mv (.t 1)), o 202 (.mv (.t 20)), o 203 (.mv (.t 18)), o 204 (.mv (.t 4)), o 205 (.call 4 374 [(.t 200), (.t 201), (.t 202), (.t 203),
  (.t 204)])] [], o 206 (.mv (.t 18)), o 207 (.mv (.t 24)), o 208 (.bn .lss 0 (.t 206) (.t 207)), o 209 (.mv (.t 208)), g 210 209 true (.mv (.t 24)), g 211 209 true (.mv (.t 3)), g 212 209 true (.bn .lss 0 (.t 210) (.t 211)),
  o 213 (.pick (.t 209) (.t 212) (.k (.bool false))), .cond (.t 213) [o 214 (.mv (.t 0)), o 215 (.mv (.t 18)), o 216 (.mv (.t 24)), o 217 (.mv (.t 3)), o 218 (.mv (.t 4)), o 219 (.call 4 374 [(.t 214), (.t 215), (.t 216), (.t 217),
  (.t 218)])] []], 220, []⟩
theorem c374 : chkF Tryz.prog 374 p374 = true := by decide +kernel
/- paling/vrfs.Leaks -/
def p375 : PFn := ⟨[o 3 (.bxd 0 (.t 0)), o 6 (.mv (.k (.bool false))), o 10 (.mv (.t 1)), o 11 (.bn .lss 0 (.t 10) (.k (i 0))), o 12 (.mv (.t 11)), g 13 12 false (.mv (.t 2)), g 14 12 false (.bn .lss 0 (.t 13) (.k (i 0))),
  o 15 (.pick (.t 12) (.k (.bool true)) (.t 14)), o 16 (.mv (.t 15)), g 17 16 false (.mv (.t 1)), g 18 16 false (.fa 6 (.t 3)), g 19 16 false (.ld none (.t 18)), g 20 16 false (.len false (.t 19)), g 21 16 false (.bn .geq 0 (.t 17) (.t 20)),
  o 22 (.pick (.t 16) (.k (.bool true)) (.t 21)), o 23 (.mv (.t 22)), g 24 23 false (.mv (.t 2)), g 25 23 false (.fa 6 (.t 3)), g 26 23 false (.ld none (.t 25)), g 27 23 false (.len false (.t 26)), g 28 23 false (.bn .geq 0 (.t 24) (.t 27)),
  o 29 (.pick (.t 23) (.k (.bool true)) (.t 28)), o 30 (.mv (.t 29)), g 31 30 false (.ld (some 8) (.t 3)), g 32 30 false (.call 7 24 [(.t 31)]), g 33 30 false (.un .not (.t 32)), o 34 (.pick (.t 30) (.k (.bool true)) (.t 33)),
  .cond (.t 34) [o 6 (.mv (.k (.bool false))), .ret] [], .draw 2 [0, 1, 2, 3, 4, 5, 6, 7, 8, 9, 10, 11, 12, 13] [(40, 40), (43, 43)] [o 35 (.fa 6 (.t 3)), o 36 (.ld none (.t 35)), o 37 (.mv (.t 1)), o 38 (.ia 5 (.t 36) (.t 37)),
  o 39 (.ld (some 5) (.t 38)), o 40 (.fa 6 (.t 3)), o 41 (.ld none (.t 40)), o 42 (.mv (.t 2)), o 43 (.ia 5 (.t 41) (.t 42)), o 44 (.ld (some 5) (.t 43)), o 7 (.al 1 (.agg [(i 0), (i 0), (.str []), nl, nl])), o 8 (.al 2 (.agg [(i 0), (i 0),
  (.str []), nl, nl])), .stf 5 7 (.t 39), .stf 5 8 (.t 44)], o 45 (.mf 394 [] [(.t 8)]), o 9 (.mv (.t 45)), o 46 (.mv (.t 1)), o 47 (.mv (.t 2)), o 48 (.bn .eql 0 (.t 46) (.t 47)), o 49 (.mv (.t 48)), g 50 49 false (.fa 1 (.t 7)),
  g 51 49 false (.ld none (.t 50)), g 52 49 false (.fa 1 (.t 8)), g 53 49 false (.ld none (.t 52)), g 54 49 false (.bn .eql 0 (.t 51) (.t 53)), g 55 49 false (.mv (.t 54)), g 56 55 true (.fa 4 (.t 7)), g 57 55 true (.ld none (.t 56)),
  g 58 55 true (.mv (.t 9)), g 59 55 true (.call 7 395 [(.t 57), (.t 58)]), g 60 49 false (.pick (.t 55) (.t 59) (.k (.bool false))), o 61 (.pick (.t 49) (.k (.bool true)) (.t 60)), o 6 (.mv (.t 61)), .ret], 62, [.tmp 6]⟩
theorem c375 : chkF Tryz.prog 375 p375 = true := by decide +kernel
/- (*paling/vxlan.reader).fail -/
def p376 : PFn := ⟨[o 6 (.mv (.t 1)), o 7 (.mv (.t 6)), g 8 7 true (.mv (.t 0)), g 9 7 true (.nc (.t 8)), g 10 7 true (.fa 8 (.t 9)), g 11 7 true (.ld none (.t 10)), g 12 7 true (.bn .eql 0 (.t 11) (.k (i 0))),
  o 13 (.pick (.t 7) (.t 12) (.k (.bool false))), .cond (.t 13) [o 14 (.mv (.t 0)), o 15 (.mv (.t 2)), o 16 (.nc (.t 14)), o 17 (.fa 8 (.t 16)), e (.st 1 (.t 17) (.t 15))] []], 18, []⟩
theorem c376 : chkF Tryz.prog 376 p376 = true := by decide +kernel
/- paling/udp.Take -/
def p377 : PFn := ⟨[o 2 (.mv (.k (i 0))), o 3 (.mv (.k (i 0))), o 4 (.mv (.k nl)), o 5 (.mv (.k (i 0))), o 8 (.mv (.t 0)), o 9 (.len false (.t 8)), o 10 (.bn .lss 0 (.t 9) (.k (i 8))), .cond (.t 10) [o 2 (.mv (.k (i 0))),
  o 3 (.mv (.k (i 0))), o 4 (.mv (.k nl)), o 5 (.mv (.k (i 10))), .ret] [], o 6 (.al 0 (.agg [(i 0), (i 0), (i 0), (i 0)])), o 11 (.mv (.k (i 0))), .block 0 [.loop [o 12 (.bn .lss 0 (.t 11) (.k (i 4))), .cond (.t 12) [] [.exit 0],
  .block 1 [o 13 (.mv (.t 11)), o 7 (.mv (.t 13)), .draw 0 [0, 1, 2, 3, 4, 5, 6, 7, 8, 9, 10, 11, 12, 13, 14, 15, 16, 17] [] [o 14 (.mv (.t 7)), o 15 (.mv (.t 0)), o 16 (.mv (.t 7)), o 17 (.bn .mul 0 (.k (i 2)) (.t 16)),
  o 18 (.ia 1 (.t 15) (.t 17)), o 19 (.ld none (.t 18)), o 20 (.cv .i64 (.t 19)), o 21 (.bn .shl 0 (.t 20) (.k (.int .u64 8))), o 22 (.mv (.t 0)), o 23 (.mv (.t 7)), o 24 (.bn .mul 0 (.k (i 2)) (.t 23)), o 25 (.bn .add 0 (.t 24) (.k (i 1))),
  o 26 (.ia 1 (.t 22) (.t 25)), o 27 (.ld none (.t 26)), o 28 (.cv .i64 (.t 27)), o 29 (.bn .or 0 (.t 21) (.t 28)), o 30 (.iaa 4 1 (.t 6) (.t 14)), e (.st 1 (.t 30) (.t 29))]], o 31 (.bn .add 0 (.t 11) (.k (i 1))), o 11 (.mv (.t 31))]],
  .block 2 [o 33 (.iaa 4 1 (.t 6) (.k (i 2))), o 34 (.ld none (.t 33)), o 35 (.bn .lss 0 (.t 34) (.k (i 8))), o 32 (.mv (.t 35)), .cond (.t 32) [o 2 (.mv (.k (i 0))), o 3 (.mv (.k (i 0))), o 4 (.mv (.k nl)), o 5 (.mv (.k (i 11))),
  .ret] [o 37 (.iaa 4 1 (.t 6) (.k (i 2))), o 38 (.ld none (.t 37)), o 39 (.mv (.t 0)), o 40 (.len false (.t 39)), o 41 (.bn .gtr 0 (.t 38) (.t 40)), o 36 (.mv (.t 41)), .cond (.t 36) [o 2 (.mv (.k (i 0))), o 3 (.mv (.k (i 0))),
  o 4 (.mv (.k nl)), o 5 (.mv (.k (i 10))), .ret] [o 43 (.iaa 4 1 (.t 6) (.k (i 3))), o 44 (.ld none (.t 43)), o 45 (.bn .neq 0 (.t 44) (.k (i 0))), o 42 (.mv (.t 45)), .cond (.t 42) [o 2 (.mv (.k (i 0))), o 3 (.mv (.k (i 0))),
  o 4 (.mv (.k nl)), o 5 (.mv (.k (i 12))), .ret] []]]], .draw 0 [0, 1, 2, 3, 4, 5, 6, 7, 8, 9, 10, 11, 12] [] [o 46 (.iaa 4 1 (.t 6) (.k (i 0))), o 47 (.ld none (.t 46)), o 48 (.iaa 4 1 (.t 6) (.k (i 1))), o 49 (.ld none (.t 48)),
  o 50 (.mv (.t 0)), o 51 (.iaa 4 1 (.t 6) (.k (i 2))), o 52 (.ld none (.t 51)), o 53 (.sl 1 (.t 50) (some (.k (i 8))) (some (.t 52)) none), o 54 (.call 0 269 [(.t 53)]), o 2 (.mv (.t 47)), o 3 (.mv (.t 49)), o 4 (.mv (.t 54)),
  o 5 (.mv (.k (i 0)))], .ret], 55, [.tmp 2, .tmp 3, .tmp 4, .tmp 5]⟩
theorem c377 : chkF Tryz.prog 377 p377 = true := by decide +kernel
/- paling/vxlan.Vni -/
def p378 : PFn := ⟨[o 2 (.mv (.k (i 0))), o 3 (.mv (.k nl)), o 4 (.mv (.k (i 0))), o 8 (.mv (.t 0)), o 9 (.len false (.t 8)), o 10 (.bn .lss 0 (.t 9) (.k (i 8))), .cond (.t 10) [o 2 (.mv (.k (i 0))), o 3 (.mv (.k nl)), o 4 (.mv (.k (i 10))),
  .ret] [], .draw 0 [0, 1, 2, 3, 4, 5, 6, 7, 8, 9, 10, 11, 12, 13, 14, 15, 16] [] [o 11 (.mv (.t 0)), o 12 (.ia 1 (.t 11) (.k (i 4))), o 13 (.ld none (.t 12)), o 14 (.cv .i64 (.t 13)), o 15 (.bn .shl 0 (.t 14) (.k (.int .u64 16))),
  o 16 (.mv (.t 0)), o 17 (.ia 1 (.t 16) (.k (i 5))), o 18 (.ld none (.t 17)), o 19 (.cv .i64 (.t 18)), o 20 (.bn .shl 0 (.t 19) (.k (.int .u64 8))), o 21 (.bn .or 0 (.t 15) (.t 20)), o 22 (.mv (.t 0)), o 23 (.ia 1 (.t 22) (.k (i 6))),
  o 24 (.ld none (.t 23)), o 25 (.cv .i64 (.t 24)), o 26 (.bn .or 0 (.t 21) (.t 25)), o 5 (.mv (.t 26))], o 28 (.mv (.t 5)), o 29 (.call 7 344 [(.t 28)]), o 27 (.mv (.t 29)), o 30 (.ext (.t 27) 0), o 31 (.ext (.t 27) 1), o 6 (.mv (.t 30)),
  o 7 (.mv (.t 31)), .draw 0 [0, 1, 2, 3, 4, 5, 6, 7, 8, 9] [] [o 32 (.mv (.t 7)), o 33 (.bn .neq 0 (.t 32) (.k (i 0))), o 34 (.mv (.t 33)), g 35 34 false (.mv (.t 6)), g 36 34 false (.b2s (.t 35)), g 37 34 false (.mv (.t 0)),
  g 38 34 false (.sl 1 (.t 37) none (some (.k (i 8))) none), g 39 34 false (.b2s (.t 38)), g 40 34 false (.bn .neq 0 (.t 36) (.t 39)), o 41 (.pick (.t 34) (.k (.bool true)) (.t 40))], .cond (.t 41) [o 2 (.mv (.k (i 0))), o 3 (.mv (.k nl)),
  o 4 (.mv (.k (i 11))), .ret] [], o 42 (.mv (.t 5)), o 43 (.mv (.t 0)), o 44 (.sl 1 (.t 43) (some (.k (i 8))) none none), o 45 (.app 0 1 (.k nl) (.t 44)), o 2 (.mv (.t 42)), o 3 (.mv (.t 45)), o 4 (.mv (.k (i 0))), .ret], 46, [.tmp 2, .tmp 3,
  .tmp 4]⟩
theorem c378 : chkF Tryz.prog 378 p378 = true := by decide +kernel
/- paling/sum.down$1 -/
def p379 : PFn := ⟨[o 1 (.ld none (.t 0)), o 2 (.bn .shr 0 (.t 1) (.k (.int .u64 16))), o 3 (.ld none (.t 0)), o 4 (.bn .and 0 (.t 3) (.k (i 65535))), o 5 (.bn .add 0 (.t 2) (.t 4)), e (.st 1 (.t 0) (.t 5))], 6, []⟩
theorem c379 : chkF Tryz.prog 379 p379 = true := by decide +kernel
/- paling/stmt.within -/
def p387 : PFn := ⟨[o 6 (.mv (.k (.bool false))), o 7 (.mv (.t 0)), o 8 (.mv (.t 1)), o 9 (.bn .geq 0 (.t 7) (.t 8)), o 10 (.mv (.t 9)), g 11 10 true (.mv (.t 0)), g 12 10 true (.mv (.t 2)), g 13 10 true (.bn .leq 0 (.t 11) (.t 12)),
  o 14 (.pick (.t 10) (.t 13) (.k (.bool false))), o 6 (.mv (.t 14)), .ret], 15, [.tmp 6]⟩
theorem c387 : chkF Tryz.prog 387 p387 = true := by decide +kernel
/- paling/stmt.list -/
def p388 : PFn := ⟨[o 4 (.mv (.k (.bool false))), o 5 (.mv (.t 0)), o 6 (.len false (.t 5)), o 7 (.bn .eql 0 (.t 6) (.k (i 0))), o 8 (.mv (.t 7)), g 9 8 false (.mv (.t 0)), g 10 8 false (.mv (.t 1)), g 11 8 false (.call 7 119 [(.t 9),
  (.k (i 1)), (.t 10)]), o 12 (.pick (.t 8) (.k (.bool true)) (.t 11)), o 4 (.mv (.t 12)), .ret], 13, [.tmp 4]⟩
theorem c388 : chkF Tryz.prog 388 p388 = true := by decide +kernel
/- paling/stmt.addrs -/
def p389 : PFn := ⟨[o 2 (.mv (.k (.bool false))), o 5 (.mv (.t 0)), o 6 (.len false (.t 5)), o 7 (.mv (.k (i 0))), .block 0 [.loop [o 8 (.bn .lss 0 (.t 7) (.t 6)), .cond (.t 8) [] [.exit 0], .block 1 [o 9 (.mv (.t 7)),
  o 10 (.ia 1 (.t 5) (.t 7)), o 11 (.ld none (.t 10)), o 3 (.mv (.t 9)), o 4 (.mv (.t 11)), o 12 (.mv (.t 4)), o 13 (.bn .eql 0 (.t 12) (.k (.int .u32 0))), o 14 (.mv (.t 13)), g 15 14 false (.mv (.t 3)),
  g 16 14 false (.bn .gtr 0 (.t 15) (.k (i 0))), g 17 14 false (.mv (.t 16)), g 18 17 true (.mv (.t 0)), g 19 17 true (.mv (.t 3)), g 20 17 true (.bn .sub 0 (.t 19) (.k (i 1))), g 21 17 true (.ia 1 (.t 18) (.t 20)),
  g 22 17 true (.ld none (.t 21)), g 23 17 true (.mv (.t 4)), g 24 17 true (.bn .geq 0 (.t 22) (.t 23)), g 25 14 false (.pick (.t 17) (.t 24) (.k (.bool false))), o 26 (.pick (.t 14) (.k (.bool true)) (.t 25)),
  .cond (.t 26) [o 2 (.mv (.k (.bool false))), .ret] []], o 27 (.bn .add 0 (.t 7) (.k (i 1))), o 7 (.mv (.t 27))]], o 28 (.mv (.t 0)), o 29 (.len false (.t 28)), o 30 (.bn .gtr 0 (.t 29) (.k (i 0))), o 31 (.mv (.t 30)),
  g 32 31 true (.mv (.t 0)), g 33 31 true (.len false (.t 32)), g 34 31 true (.bn .leq 0 (.t 33) (.k (i 16))), o 35 (.pick (.t 31) (.t 34) (.k (.bool false))), o 2 (.mv (.t 35)), .ret], 36, [.tmp 2]⟩
theorem c389 : chkF Tryz.prog 389 p389 = true := by decide +kernel
/- slices.Equal[[]int,int] -/
def p390 : PFn := ⟨[o 4 (.mv (.k (.bool false))), o 6 (.mv (.t 0)), o 7 (.len false (.t 6)), o 8 (.mv (.t 1)), o 9 (.len false (.t 8)), o 10 (.bn .neq 0 (.t 7) (.t 9)), .cond (.t 10) [o 4 (.mv (.k (.bool false))), .ret] [],
  o 11 (.mv (.t 0)), o 12 (.len false (.t 11)), o 13 (.mv (.k (i 0))), .block 0 [.loop [o 14 (.bn .lss 0 (.t 13) (.t 12)), .cond (.t 14) [] [.exit 0], .block 1 [o 15 (.mv (.t 13)), o 5 (.mv (.t 15)), .draw 0 [0, 1, 2, 3, 4, 5, 6, 7,
  8] [] [o 16 (.mv (.t 0)), o 17 (.mv (.t 5)), o 18 (.ia 1 (.t 16) (.t 17)), o 19 (.ld none (.t 18)), o 20 (.mv (.t 1)), o 21 (.mv (.t 5)), o 22 (.ia 1 (.t 20) (.t 21)), o 23 (.ld none (.t 22)), o 24 (.bn .neq 0 (.t 19) (.t 23))],
  .cond (.t 24) [o 4 (.mv (.k (.bool false))), .ret] []], o 25 (.bn .add 0 (.t 13) (.k (i 1))), o 13 (.mv (.t 25))]], o 4 (.mv (.k (.bool true))), .ret], 26, [.tmp 4]⟩
theorem c390 : chkF Tryz.prog 390 p390 = true := by decide +kernel
/- slices.Equal[[]uint32,uint32] -/
def p391 : PFn := ⟨[o 4 (.mv (.k (.bool false))), o 6 (.mv (.t 0)), o 7 (.len false (.t 6)), o 8 (.mv (.t 1)), o 9 (.len false (.t 8)), o 10 (.bn .neq 0 (.t 7) (.t 9)), .cond (.t 10) [o 4 (.mv (.k (.bool false))), .ret] [],
  o 11 (.mv (.t 0)), o 12 (.len false (.t 11)), o 13 (.mv (.k (i 0))), .block 0 [.loop [o 14 (.bn .lss 0 (.t 13) (.t 12)), .cond (.t 14) [] [.exit 0], .block 1 [o 15 (.mv (.t 13)), o 5 (.mv (.t 15)), .draw 0 [0, 1, 2, 3, 4, 5, 6, 7,
  8] [] [o 16 (.mv (.t 0)), o 17 (.mv (.t 5)), o 18 (.ia 1 (.t 16) (.t 17)), o 19 (.ld none (.t 18)), o 20 (.mv (.t 1)), o 21 (.mv (.t 5)), o 22 (.ia 1 (.t 20) (.t 21)), o 23 (.ld none (.t 22)), o 24 (.bn .neq 0 (.t 19) (.t 23))],
  .cond (.t 24) [o 4 (.mv (.k (.bool false))), .ret] []], o 25 (.bn .add 0 (.t 13) (.k (i 1))), o 13 (.mv (.t 25))]], o 4 (.mv (.k (.bool true))), .ret], 26, [.tmp 4]⟩
theorem c391 : chkF Tryz.prog 391 p391 = true := by decide +kernel
/- slices.IndexFunc[[]paling/api.Vrf,paling/api.Vrf] -/
def p392 : PFn := ⟨[o 4 (.mv (.k (i 0))), o 6 (.mv (.t 0)), o 7 (.len false (.t 6)), o 8 (.mv (.k (i 0))), .block 0 [.loop [o 9 (.bn .lss 0 (.t 8) (.t 7)), .cond (.t 9) [] [.exit 0], .block 1 [o 10 (.mv (.t 8)), o 5 (.mv (.t 10)),
  o 11 (.mv (.t 1)), o 12 (.mv (.t 0)), o 13 (.mv (.t 5)), o 14 (.ia 5 (.t 12) (.t 13)), o 15 (.ld (some 5) (.t 14)), o 16 (.callv 4 (.t 11) [(.t 15)]), .cond (.t 16) [o 17 (.mv (.t 5)), o 4 (.mv (.t 17)), .ret] []],
  o 18 (.bn .add 0 (.t 8) (.k (i 1))), o 8 (.mv (.t 18))]], o 4 (.mv (.k (i (-1)))), .ret], 19, [.tmp 4]⟩
theorem c392 : chkF Tryz.prog 392 p392 = true := by decide +kernel
/- slices.rotateCmpFunc[int] -/
def p393 : PFn := ⟨[o 12 (.mv (.t 2)), o 13 (.mv (.t 1)), o 14 (.bn .sub 0 (.t 12) (.t 13)), o 10 (.mv (.t 14)), o 15 (.mv (.t 3)), o 16 (.mv (.t 2)), o 17 (.bn .sub 0 (.t 15) (.t 16)), o 11 (.mv (.t 17)),
  .block 0 [.loop [o 18 (.mv (.t 10)), o 19 (.mv (.t 11)), o 20 (.bn .neq 0 (.t 18) (.t 19)), .cond (.t 20) [] [.exit 0], .block 1 [o 21 (.mv (.t 10)), o 22 (.mv (.t 11)), o 23 (.bn .gtr 0 (.t 21) (.t 22)), .cond (.t 23) [o 24 (.mv (.t 0)),
  o 25 (.mv (.t 2)), o 26 (.mv (.t 10)), o 27 (.bn .sub 0 (.t 25) (.t 26)), o 28 (.mv (.t 2)), o 29 (.mv (.t 11)), o 30 (.mv (.t 4)), o 31 (.call 4 396 [(.t 24), (.t 27), (.t 28), (.t 29), (.t 30)]), o 32 (.mv (.t 10)), o 33 (.mv (.t 11)),
  o 34 (.bn .sub 0 (.t 32) (.t 33)), o 10 (.mv (.t 34))] [o 35 (.mv (.t 0)), o 36 (.mv (.t 2)), o 37 (.mv (.t 10)), o 38 (.bn .sub 0 (.t 36) (.t 37)), o 39 (.mv (.t 2)), o 40 (.mv (.t 11)), o 41 (.bn .add 0 (.t 39) (.t 40)), o 42 (.mv (.t 10)),
  o 43 (.bn .sub 0 (.t 41) (.t 42)), o 44 (.mv (.t 10)), o 45 (.mv (.t 4)), o 46 (.call 4 396 [(.t 35), (.t 38), (.t 43), (.t 44), (.t 45)]), o 47 (.mv (.t 11)), o 48 (.mv (.t 10)), o 49 (.bn .sub 0 (.t 47) (.t 48)), o 11 (.mv (.t 49))]]]],
  o 50 (.mv (.t 0)), o 51 (.mv (.t 2)), o 52 (.mv (.t 10)), o 53 (.bn .sub 0 (.t 51) (.t 52)), o 54 (.mv (.t 2)), o 55 (.mv (.t 10)), o 56 (.mv (.t 4)), o 57 (.call 4 396 [(.t 50), (.t 53), (.t 54), (.t 55), (.t 56)])], 58, []⟩
theorem c393 : chkF Tryz.prog 393 p393 = true := by decide +kernel
/- paling/vrfs.Leaks$1 -/
def p394 : PFn := ⟨[o 3 (.mv (.k (.bool false))), o 4 (.fa 3 (.t 1)), o 5 (.ld none (.t 4)), o 6 (.mv (.t 0)), o 7 (.call 7 72 [(.t 5), (.t 6)]), o 3 (.mv (.t 7)), .ret], 8, [.tmp 3]⟩
theorem c394 : chkF Tryz.prog 394 p394 = true := by decide +kernel
/- slices.ContainsFunc[[]int,int] -/
def p395 : PFn := ⟨[o 4 (.mv (.k (.bool false))), o 5 (.mv (.t 0)), o 6 (.mv (.t 1)), o 7 (.call 7 351 [(.t 5), (.t 6)]), o 8 (.bn .geq 0 (.t 7) (.k (i 0))), o 4 (.mv (.t 8)), .ret], 9, [.tmp 4]⟩
theorem c395 : chkF Tryz.prog 395 p395 = true := by decide +kernel
/- slices.swapRangeCmpFunc[int] -/
def p396 : PFn := ⟨[o 10 (.mv (.k (i 0))), .block 0 [.loop [o 11 (.mv (.t 10)), o 12 (.mv (.t 3)), o 13 (.bn .lss 0 (.t 11) (.t 12)), .cond (.t 13) [] [.exit 0], .block 1 [.draw 0 [0, 1, 2, 3, 4, 5, 6, 7, 8, 9, 10, 11, 12, 13, 14, 15, 16,
  17, 18, 19, 20, 21, 22, 23] [] [o 16 (.mv (.t 0)), o 17 (.mv (.t 1)), o 18 (.mv (.t 10)), o 19 (.bn .add 0 (.t 17) (.t 18)), o 20 (.mv (.t 0)), o 21 (.mv (.t 2)), o 22 (.mv (.t 10)), o 23 (.bn .add 0 (.t 21) (.t 22)), o 24 (.mv (.t 0)),
  o 25 (.mv (.t 2)), o 26 (.mv (.t 10)), o 27 (.bn .add 0 (.t 25) (.t 26)), o 28 (.ia 1 (.t 24) (.t 27)), o 29 (.ld none (.t 28)), o 30 (.mv (.t 0)), o 31 (.mv (.t 1)), o 32 (.mv (.t 10)), o 33 (.bn .add 0 (.t 31) (.t 32)),
  o 34 (.ia 1 (.t 30) (.t 33)), o 35 (.ld none (.t 34)), o 36 (.ia 1 (.t 16) (.t 19)), e (.st 1 (.t 36) (.t 29)), o 37 (.ia 1 (.t 20) (.t 23)), e (.st 1 (.t 37) (.t 35))]], o 14 (.mv (.t 10)), o 15 (.bn .add 0 (.t 14) (.k (i 1))),
  o 10 (.mv (.t 15))]]], 38, []⟩
theorem c396 : chkF Tryz.prog 396 p396 = true := by decide +kernel
/- (*sync/atomic.Bool).Swap -/
def p414 : PFn := ⟨[o 4 (.mv (.k (.bool false))), .draw 0 [0, 1, 2, 3, 4, 5, 6, 7] [] [o 5 (.mv (.t 0)), o 6 (.nc (.t 5)), o 7 (.fa 0 (.t 6)), o 8 (.mv (.t 1)), o 9 (.call 0 298 [(.t 8)]), o 10 (.call 4 415 [(.t 7), (.t 9)]),
  o 11 (.bn .neq 0 (.t 10) (.k (.int .u32 0))), o 4 (.mv (.t 11))], .ret], 12, [.tmp 4]⟩
theorem c414 : chkF Tryz.prog 414 p414 = true := by decide +kernel
/- (paling/tree.queue).Less -/
def p416 : PFn := ⟨[o 6 (.mv (.k (.bool false))), .draw 0 [0, 1, 2, 3, 4, 5, 6, 7, 8, 9, 10, 11, 12, 13, 14, 15, 16, 17, 18, 19, 20, 21, 22, 23, 24, 25, 26, 27, 28, 29, 30, 31, 32, 33, 34, 35, 36, 37] [] [o 7 (.mv (.t 0)), o 8 (.mv (.t 1)),
  o 9 (.ia 3 (.t 7) (.t 8)), o 10 (.fa 0 (.t 9)), o 11 (.ld none (.t 10)), o 12 (.mv (.t 0)), o 13 (.mv (.t 2)), o 14 (.ia 3 (.t 12) (.t 13)), o 15 (.fa 0 (.t 14)), o 16 (.ld none (.t 15)), o 17 (.bn .lss 0 (.t 11) (.t 16)), o 18 (.mv (.t 17)),
  g 19 18 false (.mv (.t 0)), g 20 18 false (.mv (.t 1)), g 21 18 false (.ia 3 (.t 19) (.t 20)), g 22 18 false (.fa 0 (.t 21)), g 23 18 false (.ld none (.t 22)), g 24 18 false (.mv (.t 0)), g 25 18 false (.mv (.t 2)),
  g 26 18 false (.ia 3 (.t 24) (.t 25)), g 27 18 false (.fa 0 (.t 26)), g 28 18 false (.ld none (.t 27)), g 29 18 false (.bn .eql 0 (.t 23) (.t 28)), g 30 18 false (.mv (.t 29)), g 31 30 true (.mv (.t 0)), g 32 30 true (.mv (.t 1)),
  g 33 30 true (.ia 3 (.t 31) (.t 32)), g 34 30 true (.fa 1 (.t 33)), g 35 30 true (.ld none (.t 34)), g 36 30 true (.mv (.t 0)), g 37 30 true (.mv (.t 2)), g 38 30 true (.ia 3 (.t 36) (.t 37)), g 39 30 true (.fa 1 (.t 38)),
  g 40 30 true (.ld none (.t 39)), g 41 30 true (.bn .lss 0 (.t 35) (.t 40)), g 42 18 false (.pick (.t 30) (.t 41) (.k (.bool false))), o 43 (.pick (.t 18) (.k (.bool true)) (.t 42)), o 6 (.mv (.t 43))], .ret], 44, [.tmp 6]⟩
theorem c416 : chkF Tryz.prog 416 p416 = true := by decide +kernel
/- (*paling/tree.queue).Pop -/
def p417 : PFn := ⟨[o 2 (.mv (.k .niface)), .draw 1 [0, 1, 2, 3, 4, 5, 6, 7, 8, 9, 10, 11] [] [o 4 (.mv (.t 0)), o 5 (.nc (.t 4)), o 6 (.ld none (.t 5)), o 7 (.mv (.t 0)), o 8 (.nc (.t 7)), o 9 (.ld none (.t 8)), o 10 (.len false (.t 9)),
  o 11 (.bn .sub 0 (.t 10) (.k (i 1))), o 12 (.ia 3 (.t 6) (.t 11)), o 13 (.ld (some 3) (.t 12)), o 3 (.al 1 (.agg [(i 0), (i 0), (i 0)])), .stf 3 3 (.t 13)], .draw 0 [0, 1, 2, 3, 4, 5, 6, 7, 8, 9, 10, 11] [] [o 14 (.mv (.t 0)),
  o 15 (.mv (.t 0)), o 16 (.nc (.t 15)), o 17 (.ld none (.t 16)), o 18 (.mv (.t 0)), o 19 (.nc (.t 18)), o 20 (.ld none (.t 19)), o 21 (.len false (.t 20)), o 22 (.bn .sub 0 (.t 21) (.k (i 1))), o 23 (.sl 3 (.t 17) none (some (.t 22)) none),
  o 24 (.nc (.t 14)), e (.st 1 (.t 24) (.t 23))], o 25 (.ld (some 3) (.t 3)), o 26 (.mi 395 (.t 25)), o 2 (.mv (.t 26)), .ret], 27, [.tmp 2]⟩
theorem c417 : chkF Tryz.prog 417 p417 = true := by decide +kernel
/- (*paling/tree.queue).Push -/
def p418 : PFn := ⟨[o 7 (.mv (.t 1)), o 8 (.ta 395 true (.agg [(i 0), (i 0), (i 0)]) (.t 7)), o 6 (.mv (.t 8)), o 9 (.ext (.t 6) 0), o 10 (.ext (.t 6) 1), o 4 (.al 0 (.agg [(i 0), (i 0), (i 0)])), .stf 3 4 (.t 9), o 5 (.mv (.t 10)),
  o 11 (.mv (.t 5)), .cond (.t 11) [.draw 0 [0, 1, 2, 3, 4, 5, 6, 7, 8] [] [o 12 (.mv (.t 0)), o 13 (.mv (.t 0)), o 14 (.nc (.t 13)), o 15 (.ld none (.t 14)), o 16 (.ld (some 3) (.t 4)), o 17 (.bsl (.agg [(i 0), (i 0), (i 0)]) 1 [(0, (.t 16))]),
  o 18 (.app 0 3 (.t 15) (.t 17)), o 19 (.nc (.t 12)), e (.st 1 (.t 19) (.t 18))]] []], 20, []⟩
theorem c418 : chkF Tryz.prog 418 p418 = true := by decide +kernel
/- (paling/tree.queue).Swap -/
def p419 : PFn := ⟨[.draw 0 [0, 1, 2, 3, 4, 5, 6, 7, 8, 9, 10, 11, 12, 13, 14, 15] [] [o 6 (.mv (.t 0)), o 7 (.mv (.t 1)), o 8 (.mv (.t 0)), o 9 (.mv (.t 2)), o 10 (.mv (.t 0)), o 11 (.mv (.t 2)), o 12 (.ia 3 (.t 10) (.t 11)),
  o 13 (.ld (some 3) (.t 12)), o 14 (.mv (.t 0)), o 15 (.mv (.t 1)), o 16 (.ia 3 (.t 14) (.t 15)), o 17 (.ld (some 3) (.t 16)), o 18 (.ia 3 (.t 6) (.t 7)), e (.st 3 (.t 18) (.t 13)), o 19 (.ia 3 (.t 8) (.t 9)), e (.st 3 (.t 19) (.t 17))]], 20,
  []⟩
theorem c419 : chkF Tryz.prog 419 p419 = true := by decide +kernel
/- (*sync/atomic.Int64).Swap -/
def p421 : PFn := ⟨[o 4 (.mv (.k (i 0))), o 5 (.mv (.t 0)), o 6 (.nc (.t 5)), o 7 (.fa 0 (.t 6)), o 8 (.mv (.t 1)), o 9 (.call 4 422 [(.t 7), (.t 8)]), o 4 (.mv (.t 9)), .ret], 10, [.tmp 4]⟩
theorem c421 : chkF Tryz.prog 421 p421 = true := by decide +kernel
/- gosem.cut.vars -/
def p428 : PFn := ⟨[o 0 (.bld [(u 0), (u 0)] [(0, 1, (.k (u 128))), (1, 1, (.k (u 191)))]), o 1 (.bld [(u 0), (u 0)] [(0, 1, (.k (u 160))), (1, 1, (.k (u 191)))]), o 2 (.bld [(u 0), (u 0)] [(0, 1, (.k (u 128))), (1, 1, (.k (u 159)))]),
  o 3 (.bld [(u 0), (u 0)] [(0, 1, (.k (u 144))), (1, 1, (.k (u 191)))]), o 4 (.bld [(u 0), (u 0)] [(0, 1, (.k (u 128))), (1, 1, (.k (u 143)))]), o 5 (.bld [(u 0), (u 0), (u 0), (u 0), (u 0), (u 0), (u 0), (u 0), (u 0), (u 0), (u 0), (u 0),
  (u 0), (u 0), (u 0), (u 0), (u 0), (u 0), (u 0), (u 0), (u 0), (u 0), (u 0), (u 0), (u 0), (u 0), (u 0), (u 0), (u 0), (u 0), (u 0), (u 0)] [(0, 2, (.t 0)), (2, 2, (.t 1)), (4, 2, (.t 2)), (6, 2, (.t 3)), (8, 2, (.t 4))]), e (.bad)], 6, []⟩
theorem c428 : chkF Tryz.prog 428 p428 = true := by decide +kernel
end Go.Proofs.YtjhcempjiokfdaaGreatDoor
