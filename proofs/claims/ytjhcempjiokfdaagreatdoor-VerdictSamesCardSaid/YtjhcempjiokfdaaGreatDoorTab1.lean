/- What closed calls come to, entry by entry. Part 1. No condition. -/
import Derived.Test.YtjhcempjiokfdaaGreatDoorSys
set_option linter.unusedSimpArgs false
set_option linter.unusedVariables false

-- ---- YtjhcempjiokfdaaGreatDoorTab1
namespace Go.Proofs.YtjhcempjiokfdaaGreatDoor
open Go.Proofs.Abs
set_option maxRecDepth 100000
def v0 : AV := (.lst false [(u 100), (u 101), (u 118), (u 105), (u 99), (u 101), (u 32), (u 97), (u 32), (u 49), (u 32), (u 48), (u 48), (u 58), (u 48), (u 48), (u 58), (u 48), (u 48), (u 58), (u 48), (u 48), (u 58), (u 48), (u 48), (u 58),
  (u 48), (u 49), (u 10), (u 112), (u 111), (u 114), (u 116), (u 32), (u 97), (u 32), (u 112), (u 32), (u 49), (u 32), (u 97), (u 99), (u 99), (u 101), (u 115), (u 115), (u 32), (u 49), (u 48), (u 10), (u 112), (u 111), (u 114), (u 116), (u 32),
  (u 97), (u 32), (u 113), (u 32), (u 49), (u 32), (u 97), (u 99), (u 99), (u 101), (u 115), (u 115), (u 32), (u 49), (u 48), (u 10)])
def v1 : AV := (.str [100, 101, 118, 105, 99, 101, 32, 97, 32, 49, 32, 48, 48, 58, 48, 48, 58, 48, 48, 58, 48, 48, 58, 48, 48, 58, 48, 49])
def v2 : AV := (.str [112, 111, 114, 116, 32, 97, 32, 112, 32, 49, 32, 97, 99, 99, 101, 115, 115, 32, 49, 48])
def v3 : AV := (.str [112, 111, 114, 116, 32, 97, 32, 113, 32, 49, 32, 97, 99, 99, 101, 115, 115, 32, 49, 48])
def v4 : AV := (.str [100, 101, 118, 105, 99, 101])
def v5 : AV := (.str [48, 48, 58, 48, 48, 58, 48, 48, 58, 48, 48, 58, 48, 48, 58, 48, 49])
def v6 : AV := (.lst false [v4, (.str [97]), (.str [49]), v5])
def v7 : AV := (.agg [(i 1), (i 1), (.str [97]), (.str []), (.str []), (.str []), (.str []), (.int .u64 1), (.int .u32 0), (i 0), (i 0), (i 1), (i 0), nl, nl, nl, nl])
def v8 : AV := (.str [97, 99, 99, 101, 115, 115])
def v9 : AV := (.lst false [(.str [112, 111, 114, 116]), (.str [97]), (.str [112]), (.str [49]), v8, (.str [49, 48])])
def v10 : AV := (.agg [(i 2), (i 2), (.str [97]), (.str [112]), (.str []), (.str []), (.str []), (.int .u64 0), (.int .u32 0), (i 0), (i 10), (i 0), (i 1), nl, nl, nl, nl])
def v11 : AV := (.lst false [(.str [112, 111, 114, 116]), (.str [97]), (.str [113]), (.str [49]), v8, (.str [49, 48])])
def v12 : AV := (.agg [(i 3), (i 2), (.str [97]), (.str [113]), (.str []), (.str []), (.str []), (.int .u64 0), (.int .u32 0), (i 0), (i 10), (i 0), (i 1), nl, nl, nl, nl])
def v13 : AV := (.agg [(i 1), (i 1), (.str [97]), (.str []), (.str []), (.str []), (.str []), (.int .u64 1), (.int .u32 0), (i 0), (i 0), (i 1), (i 0), (.lst false []), (.lst false []), (.lst false []), (.lst false [])])
def v14 : AV := (.agg [(i 2), (i 2), (.str [97]), (.str [112]), (.str []), (.str []), (.str []), (.int .u64 0), (.int .u32 0), (i 0), (i 10), (i 0), (i 1), (.lst false []), (.lst false []), (.lst false []), (.lst false [])])
def v15 : AV := (.agg [(i 3), (i 2), (.str [97]), (.str [113]), (.str []), (.str []), (.str []), (.int .u64 0), (.int .u32 0), (i 0), (i 10), (i 0), (i 1), (.lst false []), (.lst false []), (.lst false []), (.lst false [])])
def v16 : AV := (.agg [(.lst false []), (.lst false []), (.lst false []), (.lst false []), (.lst false []), (.lst false []), (.lst false []), (.lst false [])])
def v17 : AV := (.agg [(.own 5 1 0 1), nl, nl, nl, nl, nl, nl, nl])
def v18 : AV := (.agg [(i 1), (i 1), (.str [97]), (.int .u64 1), (.int .u32 0)])
def v19 : AV := (.agg [(i 2), (i 2), (.str [97]), (.str [112]), (.str []), (.str []), (.str []), (.int .u64 0), (.int .u32 0), (i 0), (i 10), (i 0), (i 1), (.lst false []), nl, nl, nl])
def v20 : AV := (.lst false [v18])
def v21 : AV := (.agg [v20, (.lst false []), (.lst false []), (.lst false []), (.lst false []), (.lst false []), (.lst false []), (.lst false [])])
def v22 : AV := (.agg [(.own 2 1 0 1), nl, nl, nl, nl, nl, nl, nl])
def v23 : AV := (.agg [(.own 3 1 0 1), (.own 5 1 0 1), nl, (.own 8 1 0 1), nl, nl, nl, nl])
def v24 : AV := (.agg [(.own 3 1 0 1), nl, nl, nl, nl, nl, nl, nl])
def v25 : AV := (.agg [(i 2), (i 0), (i 10), (i 1), (i (-1)), (.str [112]), (.lst false [])])
def v26 : AV := (.agg [(i 0), (i 10), (i 0), (i (-1)), (i 0), nl])
def v27 : AV := (.agg [(i 3), (i 2), (.str [97]), (.str [113]), (.str []), (.str []), (.str []), (.int .u64 0), (.int .u32 0), (i 0), (i 10), (i 0), (i 1), (.lst false []), nl, nl, nl])
def v28 : AV := (.lst false [v26])
def v29 : AV := (.lst false [v25])
def v30 : AV := (.agg [v20, v29, (.lst false []), v28, (.lst false []), (.lst false []), (.lst false []), (.lst false [])])
def v31 : AV := (.agg [(.own 2 1 0 1), (.own 3 1 0 1), nl, (.own 4 1 0 1), nl, nl, nl, nl])
def v32 : AV := (.agg [(i 0), (i 10), (i 0), (i (-1)), (i 0), (.lst false [])])
def v33 : AV := (.agg [(.own 3 1 0 1), (.own 4 2 0 2), nl, (.own 5 1 0 1), nl, nl, nl, nl])
def v34 : AV := (.agg [(.own 3 1 0 1), (.own 4 1 0 1), nl, (.own 5 1 0 1), nl, nl, nl, nl])
def v35 : AV := (.agg [(i 3), (i 0), (i 10), (i 1), (i (-1)), (.str [113]), (.lst false [])])
def v36 : AV := (.lst false [v32])
def v37 : AV := (.lst false [v25, v35])
def v38 : AV := (.agg [v20, v37, (.lst false []), v36, (.lst false []), (.lst false []), (.lst false []), (.lst false [])])
def v39 : AV := (.agg [(.own 2 1 0 1), (.own 3 2 0 2), nl, (.own 4 1 0 1), nl, nl, nl, nl])
def v40 : AV := (.agg [v20, v37, (.lst false []), v28, (.lst false []), (.lst false []), (.lst false []), (.lst false [])])
def v41 : AV := (.lst false [v13, v14, v15])
def v42 : AV := (.lst false [(u 116), (u 101), (u 110), (u 97), (u 110), (u 116), (u 32), (u 120), (u 32), (u 97), (u 46), (u 112), (u 10), (u 116), (u 101), (u 110), (u 97), (u 110), (u 116), (u 32), (u 121), (u 32), (u 97), (u 46),
  (u 113), (u 10)])
def v43 : AV := (.str [116, 101, 110, 97, 110, 116, 32, 120, 32, 97, 46, 112])
def v44 : AV := (.str [116, 101, 110, 97, 110, 116, 32, 121, 32, 97, 46, 113])
def v45 : AV := (.str [116, 101, 110, 97, 110, 116])
def v46 : AV := (.lst false [v45, (.str [120]), (.str [97, 46, 112])])
def v47 : AV := (.agg [(i 1), (.str [120]), (.own 3 1 0 1), (.own 4 1 0 1)])
def v48 : AV := (.lst false [v45, (.str [121]), (.str [97, 46, 113])])
def v49 : AV := (.agg [(i 2), (.str [121]), (.own 3 1 0 1), (.own 4 1 0 1)])
def v50 : AV := (.agg [(i 1), (.str [120]), (.lst false [(.str [97])]), (.lst false [(.str [112])])])
def v51 : AV := (.agg [(i 2), (.str [121]), (.lst false [(.str [97])]), (.lst false [(.str [113])])])
def v52 : AV := (.lst false [v50, v51])
def v53 : AV := (.agg [(i 0), (i 0), (i 0), (i 0), (i 0), (.int .u32 0), (i (-1))])
def v54 : AV := (.agg [v20, v37, (.lst false []), v28, (.lst false []), (.lst false []), (.lst false []), (.lst false []), (.lst false []), (.lst false [(i 0)]), (.own 0 1 0 1), (.own 1 1 0 1)])
def v55 : AV := (.lst false [(u 255), (u 255), (u 255), (u 255), (u 255), (u 255), (u 2), (u 1), (u 0), (u 0), (u 0), (u 1), (u 136), (u 181)])
def v56 : AV := (.agg [v20, v37, (.lst false []), v36, (.lst false []), (.lst false []), (.lst false []), (.lst false []), (.lst false []), (.lst false [(i 0)]), (.own 0 1 0 1), (.own 1 1 0 1)])
def v57 : AV := (.agg [(i 0), (i 0), (i 1), (.int .u64 281474976710655), (.int .u64 2203318222849), (i 34997), (.lst false [])])
def v58 : AV := (.agg [(i 1), (i 1), (i 0), v55, (.int .u64 0), (.int .u64 0), (i 0), nl, (i 0)])
def v59 : AV := (.agg [(i 1), (i 0), (i 0), (i 0), v55, (.lst false [])])
def v60 : AV := (.agg [(i 2), (i 0), (i 0), (i 0), nl, nl])
def v61 : AV := (.lst false [v59, v60])
def v62 : AV := (.agg [(i 2), (i 0), (i 0), (i 0), (i 0), (i 1), v61])
def v63 : AV := (.lst false [(u 100), (u 101), (u 118), (u 105), (u 99), (u 101), (u 32), (u 97), (u 32), (u 49), (u 32), (u 48), (u 48), (u 58), (u 48), (u 48), (u 58), (u 48), (u 48), (u 58), (u 48), (u 48), (u 58), (u 48), (u 48), (u 58),
  (u 48), (u 49), (u 10), (u 112), (u 111), (u 114), (u 116), (u 32), (u 97), (u 32), (u 112), (u 32), (u 49), (u 32), (u 97), (u 99), (u 99), (u 101), (u 115), (u 115), (u 32), (u 49), (u 48), (u 10), (u 112), (u 111), (u 114), (u 116), (u 32),
  (u 97), (u 32), (u 113), (u 32), (u 49), (u 32), (u 97), (u 99), (u 99), (u 101), (u 115), (u 115), (u 32), (u 50), (u 48), (u 10)])
def v64 : AV := (.str [112, 111, 114, 116, 32, 97, 32, 113, 32, 49, 32, 97, 99, 99, 101, 115, 115, 32, 50, 48])
def v65 : AV := (.lst false [(.str [112, 111, 114, 116]), (.str [97]), (.str [113]), (.str [49]), v8, (.str [50, 48])])
def v66 : AV := (.agg [(i 3), (i 2), (.str [97]), (.str [113]), (.str []), (.str []), (.str []), (.int .u64 0), (.int .u32 0), (i 0), (i 20), (i 0), (i 1), nl, nl, nl, nl])
def v67 : AV := (.agg [(i 3), (i 2), (.str [97]), (.str [113]), (.str []), (.str []), (.str []), (.int .u64 0), (.int .u32 0), (i 0), (i 20), (i 0), (i 1), (.lst false []), (.lst false []), (.lst false []), (.lst false [])])
def v68 : AV := (.agg [(i 3), (i 2), (.str [97]), (.str [113]), (.str []), (.str []), (.str []), (.int .u64 0), (.int .u32 0), (i 0), (i 20), (i 0), (i 1), (.lst false []), nl, nl, nl])
def v69 : AV := (.agg [(.own 3 1 0 1), (.own 4 2 0 2), nl, (.own 5 2 0 2), nl, nl, nl, nl])
def v70 : AV := (.agg [(i 3), (i 0), (i 20), (i 1), (i (-1)), (.str [113]), (.lst false [])])
def v71 : AV := (.agg [(i 0), (i 20), (i 0), (i (-1)), (i 0), nl])
def v72 : AV := (.lst false [v25, v70])
def v73 : AV := (.lst false [v32, v71])
def v74 : AV := (.agg [v20, v72, (.lst false []), v73, (.lst false []), (.lst false []), (.lst false []), (.lst false [])])
def v75 : AV := (.agg [(i 0), (i 20), (i 0), (i (-1)), (i 0), (.lst false [])])
def v76 : AV := (.agg [(.own 2 1 0 1), (.own 3 2 0 2), nl, (.own 4 2 0 2), nl, nl, nl, nl])
def v77 : AV := (.lst false [v26, v71])
def v78 : AV := (.agg [v20, v72, (.lst false []), v77, (.lst false []), (.lst false []), (.lst false []), (.lst false [])])
def v79 : AV := (.lst false [v13, v14, v67])
def v80 : AV := (.agg [v20, v72, (.lst false []), v77, (.lst false []), (.lst false []), (.lst false []), (.lst false []), (.own 2 2 0 2), (.own 3 2 0 2), (.own 4 1 0 1)])
def v81 : AV := (.agg [(i 1), (i 0), (i 0), (i 0), (i 0), (i 0), nl])
def e0 : Ent := ⟨21, [v0], (.tup [(.own 0 3 0 3), (i 0)]), [⟨.live, 1, 3, [v1, v2, v3]⟩]⟩
theorem s0 : e0.Sound Tryz.prog := entry tr_ok ext_ok (T := []) fnil 100000 (by decide +kernel)
def e1 : Ent := ⟨43, [v1], (.own 3 4 0 4), [⟨.live, 1, 0, [v1]⟩, ⟨.live, 1, 0, [(.own 3 4 0 4)]⟩, ⟨.live, 1, 0, [(i 29)]⟩, ⟨.live, 1, 4, [v4, (.str [97]), (.str [49]), v5]⟩]⟩
theorem s1 : e1.Sound Tryz.prog := entry tr_ok ext_ok (T := []) fnil 100000 (by decide +kernel)
def e2 : Ent := ⟨44, [v4], (.bool true), []⟩
theorem s2 : e2.Sound Tryz.prog := entry tr_ok ext_ok (T := []) fnil 100000 (by decide +kernel)
def e3 : Ent := ⟨44, [v5], (.bool true), []⟩
theorem s3 : e3.Sound Tryz.prog := entry tr_ok ext_ok (T := []) fnil 100000 (by decide +kernel)
def e4 : Ent := ⟨22, [v1], (.tup [v6, (i 0)]), []⟩
theorem s4 : e4.Sound Tryz.prog := entry tr_ok ext_ok (T := [e3, e2, e1]) (fcons s3 (fcons s2 (fcons s1 fnil))) 100000 (by decide +kernel)
def e5 : Ent := ⟨161, [(.str [49]), (i 0), (i 65535)], (.tup [(i 1), (.bool true)]), []⟩
theorem s5 : e5.Sound Tryz.prog := entry tr_ok ext_ok (T := []) fnil 100000 (by decide +kernel)
def e6 : Ent := ⟨162, [v5], (.tup [(.int .u64 1), (.bool true)]), []⟩
theorem s6 : e6.Sound Tryz.prog := entry tr_ok ext_ok (T := []) fnil 100000 (by decide +kernel)
def e7 : Ent := ⟨40, [v6, (i 1)], (.tup [v7, (i 0)]), [⟨.live, 17, 0, [v7]⟩, ⟨.live, 3, 0, [(.agg [v6, (i 4), (i 0)])]⟩, ⟨.live, 17, 0, [v7]⟩]⟩
theorem s7 : e7.Sound Tryz.prog := entry tr_ok ext_ok (T := [e6, e5]) (fcons s6 (fcons s5 fnil)) 100000 (by decide +kernel)
def e8 : Ent := ⟨43, [v2], (.own 3 6 0 6), [⟨.live, 1, 0, [v2]⟩, ⟨.live, 1, 0, [(.own 3 6 0 6)]⟩, ⟨.live, 1, 0, [(i 21)]⟩, ⟨.live, 1, 6, [(.str [112, 111, 114, 116]), (.str [97]), (.str [112]), (.str [49]), v8, (.str [49, 48])]⟩]⟩
theorem s8 : e8.Sound Tryz.prog := entry tr_ok ext_ok (T := []) fnil 100000 (by decide +kernel)
def e9 : Ent := ⟨44, [v8], (.bool true), []⟩
theorem s9 : e9.Sound Tryz.prog := entry tr_ok ext_ok (T := []) fnil 100000 (by decide +kernel)
def e10 : Ent := ⟨22, [v2], (.tup [v9, (i 0)]), []⟩
theorem s10 : e10.Sound Tryz.prog := entry tr_ok ext_ok (T := [e9, e8]) (fcons s9 (fcons s8 fnil)) 100000 (by decide +kernel)
def e11 : Ent := ⟨161, [(.str [49]), (i 1), (i 65535)], (.tup [(i 1), (.bool true)]), []⟩
theorem s11 : e11.Sound Tryz.prog := entry tr_ok ext_ok (T := []) fnil 100000 (by decide +kernel)
def e12 : Ent := ⟨161, [(.str [49, 48]), (i 1), (i 4094)], (.tup [(i 10), (.bool true)]), []⟩
theorem s12 : e12.Sound Tryz.prog := entry tr_ok ext_ok (T := []) fnil 100000 (by decide +kernel)
def e13 : Ent := ⟨40, [v9, (i 2)], (.tup [v10, (i 0)]), [⟨.live, 17, 0, [v10]⟩, ⟨.live, 3, 0, [(.agg [v9, (i 6), (i 0)])]⟩, ⟨.live, 17, 0, [v10]⟩]⟩
theorem s13 : e13.Sound Tryz.prog := entry tr_ok ext_ok (T := [e12, e11]) (fcons s12 (fcons s11 fnil)) 100000 (by decide +kernel)
def e14 : Ent := ⟨43, [v3], (.own 3 6 0 6), [⟨.live, 1, 0, [v3]⟩, ⟨.live, 1, 0, [(.own 3 6 0 6)]⟩, ⟨.live, 1, 0, [(i 21)]⟩, ⟨.live, 1, 6, [(.str [112, 111, 114, 116]), (.str [97]), (.str [113]), (.str [49]), v8, (.str [49, 48])]⟩]⟩
theorem s14 : e14.Sound Tryz.prog := entry tr_ok ext_ok (T := []) fnil 100000 (by decide +kernel)
def e15 : Ent := ⟨22, [v3], (.tup [v11, (i 0)]), []⟩
theorem s15 : e15.Sound Tryz.prog := entry tr_ok ext_ok (T := [e9, e14]) (fcons s9 (fcons s14 fnil)) 100000 (by decide +kernel)
def e16 : Ent := ⟨40, [v11, (i 3)], (.tup [v12, (i 0)]), [⟨.live, 17, 0, [v12]⟩, ⟨.live, 3, 0, [(.agg [v11, (i 6), (i 0)])]⟩, ⟨.live, 17, 0, [v12]⟩]⟩
theorem s16 : e16.Sound Tryz.prog := entry tr_ok ext_ok (T := [e12, e11]) (fcons s12 (fcons s11 fnil)) 100000 (by decide +kernel)
def e17 : Ent := ⟨19, [v0], (.tup [(.own 3 3 0 3), (i 0), (i 0)]), [⟨.live, 1, 0, [(.own 3 3 0 3)]⟩, ⟨.live, 1, 0, [(i 0)]⟩, ⟨.dead, 17, 0, []⟩, ⟨.live, 17, 3, [v13, v14, v15]⟩, ⟨.dead, 17, 0, []⟩, ⟨.dead, 17, 0, []⟩]⟩
theorem s17 : e17.Sound Tryz.prog := entry tr_ok ext_ok (T := [e16, e15, e13, e10, e7, e4, e0]) (fcons s16 (fcons s15 (fcons s13 (fcons s10 (fcons s7 (fcons s4 (fcons s0 fnil))))))) 100000 (by decide +kernel)
def e18 : Ent := ⟨367, [v13, v13], (.bool true), []⟩
theorem s18 : e18.Sound Tryz.prog := entry tr_ok ext_ok (T := []) fnil 100000 (by decide +kernel)
def e19 : Ent := ⟨303, [v13], (.bool true), [⟨.dead, 17, 0, []⟩]⟩
theorem s19 : e19.Sound Tryz.prog := entry tr_ok ext_ok (T := [e18]) (fcons s18 fnil) 100000 (by decide +kernel)
def e20 : Ent := ⟨24, [v16], (.bool true), [⟨.dead, 8, 0, []⟩]⟩
theorem s20 : e20.Sound Tryz.prog := entry tr_ok ext_ok (T := []) fnil 100000 (by decide +kernel)
def e21 : Ent := ⟨232, [v16, v13], (.tup [v17, (i 0)]), [⟨.live, 17, 0, [v13]⟩, ⟨.live, 8, 0, [v17]⟩, ⟨.dead, 8, 0, []⟩, ⟨.dead, 8, 0, []⟩, ⟨.live, 8, 0, [v17]⟩, ⟨.live, 5, 1, [v18]⟩]⟩
theorem s21 : e21.Sound Tryz.prog := entry tr_ok ext_ok (T := [e19, e20]) (fcons s19 (fcons s20 fnil)) 100000 (by decide +kernel)
def e22 : Ent := ⟨366, [v14], (.tup [v19, (.bool true)]), [⟨.live, 17, 0, [v19]⟩, ⟨.live, 17, 0, [v19]⟩]⟩
theorem s22 : e22.Sound Tryz.prog := entry tr_ok ext_ok (T := []) fnil 100000 (by decide +kernel)
def e23 : Ent := ⟨367, [v14, v14], (.bool true), []⟩
theorem s23 : e23.Sound Tryz.prog := entry tr_ok ext_ok (T := []) fnil 100000 (by decide +kernel)
def e24 : Ent := ⟨24, [v21], (.bool true), [⟨.dead, 8, 0, []⟩]⟩
theorem s24 : e24.Sound Tryz.prog := entry tr_ok ext_ok (T := []) fnil 100000 (by decide +kernel)
end Go.Proofs.YtjhcempjiokfdaaGreatDoor
