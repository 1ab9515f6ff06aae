/- What closed calls come to, entry by entry. Part 2. No condition. -/
import Derived.Test.YtjhcempjiokfdaaGreatDoorTab1
set_option linter.unusedSimpArgs false
set_option linter.unusedVariables false

-- ---- YtjhcempjiokfdaaGreatDoorTab2
namespace Go.Proofs.YtjhcempjiokfdaaGreatDoor
open Go.Proofs.Abs
set_option maxRecDepth 100000
def e25 : Ent := ⟨299, [v21, v14, (i 2)], (.tup [(.ptr 3 0 0 0), (.bool true)]), [⟨.live, 8, 0, [v22]⟩, ⟨.live, 8, 0, [v22]⟩, ⟨.live, 5, 1, [v18]⟩, ⟨.live, 8, 0, [v22]⟩]⟩
theorem s25 : e25.Sound Tryz.prog := entry tr_ok ext_ok (T := [e24, e22, e23]) (fcons s24 (fcons s22 (fcons s23 fnil))) 100000 (by decide +kernel)
def e26 : Ent := ⟨233, [v21, v14], (.tup [v23, (i 0)]), [⟨.live, 8, 0, [v23]⟩, ⟨.live, 8, 0, [v24]⟩, ⟨.live, 8, 0, [v24]⟩, ⟨.live, 5, 1, [v18]⟩, ⟨.live, 8, 0, [v23]⟩, ⟨.live, 7, 1, [v25]⟩, ⟨.live, 1, 0, [(i 0)]⟩, ⟨.live, 1, 0, [(i 10)]⟩, ⟨.live, 6, 1,
  [v26]⟩]⟩
theorem s26 : e26.Sound Tryz.prog := entry tr_ok ext_ok (T := [e24, e25]) (fcons s24 (fcons s25 fnil)) 100000 (by decide +kernel)
def e27 : Ent := ⟨366, [v15], (.tup [v27, (.bool true)]), [⟨.live, 17, 0, [v27]⟩, ⟨.live, 17, 0, [v27]⟩]⟩
theorem s27 : e27.Sound Tryz.prog := entry tr_ok ext_ok (T := []) fnil 100000 (by decide +kernel)
def e28 : Ent := ⟨367, [v15, v15], (.bool true), []⟩
theorem s28 : e28.Sound Tryz.prog := entry tr_ok ext_ok (T := []) fnil 100000 (by decide +kernel)
def e29 : Ent := ⟨48, [v28, (.fn 49 [v30] [])], (.bool true), [⟨.dead, 6, 0, []⟩]⟩
theorem s29 : e29.Sound Tryz.prog := entry tr_ok ext_ok (T := []) fnil 100000 (by decide +kernel)
def e30 : Ent := ⟨52, [v30, (i 0), v25], (.bool true), []⟩
theorem s30 : e30.Sound Tryz.prog := entry tr_ok ext_ok (T := []) fnil 100000 (by decide +kernel)
def e31 : Ent := ⟨24, [v30], (.bool true), [⟨.dead, 8, 0, []⟩]⟩
theorem s31 : e31.Sound Tryz.prog := entry tr_ok ext_ok (T := [e30, e29]) (fcons s30 (fcons s29 fnil)) 100000 (by decide +kernel)
def e32 : Ent := ⟨299, [v30, v15, (i 2)], (.tup [(.ptr 5 0 0 0), (.bool true)]), [⟨.live, 8, 0, [v31]⟩, ⟨.live, 8, 0, [v31]⟩, ⟨.live, 5, 1, [v18]⟩, ⟨.live, 7, 1, [v25]⟩, ⟨.live, 6, 1, [v32]⟩, ⟨.live, 8, 0, [v31]⟩]⟩
theorem s32 : e32.Sound Tryz.prog := entry tr_ok ext_ok (T := [e31, e27, e28]) (fcons s31 (fcons s27 (fcons s28 fnil))) 100000 (by decide +kernel)
def e33 : Ent := ⟨233, [v30, v15], (.tup [v33, (i 0)]), [⟨.live, 8, 0, [v33]⟩, ⟨.live, 8, 0, [v34]⟩, ⟨.live, 8, 0, [v34]⟩, ⟨.live, 5, 1, [v18]⟩, ⟨.live, 7, 2, [v25, v35]⟩, ⟨.live, 6, 1, [v32]⟩, ⟨.live, 8, 0, [v33]⟩, ⟨.live, 1, 0, [(i 0)]⟩, ⟨.live, 1, 0,
  [(i 10)]⟩]⟩
theorem s33 : e33.Sound Tryz.prog := entry tr_ok ext_ok (T := [e31, e32]) (fcons s31 (fcons s32 fnil)) 100000 (by decide +kernel)
def e34 : Ent := ⟨48, [v36, (.fn 49 [v38] [])], (.bool true), [⟨.dead, 6, 0, []⟩]⟩
theorem s34 : e34.Sound Tryz.prog := entry tr_ok ext_ok (T := []) fnil 100000 (by decide +kernel)
def e35 : Ent := ⟨52, [v38, (i 0), v25], (.bool true), []⟩
theorem s35 : e35.Sound Tryz.prog := entry tr_ok ext_ok (T := []) fnil 100000 (by decide +kernel)
def e36 : Ent := ⟨52, [v38, (i 1), v35], (.bool true), []⟩
theorem s36 : e36.Sound Tryz.prog := entry tr_ok ext_ok (T := []) fnil 100000 (by decide +kernel)
def e37 : Ent := ⟨24, [v38], (.bool true), [⟨.dead, 8, 0, []⟩]⟩
theorem s37 : e37.Sound Tryz.prog := entry tr_ok ext_ok (T := [e35, e36, e34]) (fcons s35 (fcons s36 (fcons s34 fnil))) 100000 (by decide +kernel)
def e38 : Ent := ⟨78, [v38], v39, [⟨.live, 8, 0, [v39]⟩, ⟨.live, 8, 0, [v39]⟩, ⟨.live, 5, 1, [v18]⟩, ⟨.live, 7, 2, [v25, v35]⟩, ⟨.live, 6, 1, [v32]⟩]⟩
theorem s38 : e38.Sound Tryz.prog := entry tr_ok ext_ok (T := []) fnil 100000 (by decide +kernel)
def e39 : Ent := ⟨48, [v28, (.fn 49 [v40] [])], (.bool true), [⟨.dead, 6, 0, []⟩]⟩
theorem s39 : e39.Sound Tryz.prog := entry tr_ok ext_ok (T := []) fnil 100000 (by decide +kernel)
def e40 : Ent := ⟨52, [v40, (i 0), v25], (.bool true), []⟩
theorem s40 : e40.Sound Tryz.prog := entry tr_ok ext_ok (T := []) fnil 100000 (by decide +kernel)
def e41 : Ent := ⟨52, [v40, (i 1), v35], (.bool true), []⟩
theorem s41 : e41.Sound Tryz.prog := entry tr_ok ext_ok (T := []) fnil 100000 (by decide +kernel)
def e42 : Ent := ⟨24, [v40], (.bool true), [⟨.dead, 8, 0, []⟩]⟩
theorem s42 : e42.Sound Tryz.prog := entry tr_ok ext_ok (T := [e40, e41, e39]) (fcons s40 (fcons s41 (fcons s39 fnil))) 100000 (by decide +kernel)
def e43 : Ent := ⟨175, [v40], (.tup [(i 0), (.bool false)]), [⟨.live, 1, 2, [(i 0), (i 1)]⟩, ⟨.dead, 7, 0, []⟩, ⟨.live, 1, 1, [(i 10)]⟩, ⟨.dead, 7, 0, []⟩, ⟨.live, 1, 1, [(i 10)]⟩, ⟨.dead, 6, 0, []⟩]⟩
theorem s43 : e43.Sound Tryz.prog := entry tr_ok ext_ok (T := [e42]) (fcons s42 fnil) 100000 (by decide +kernel)
def e44 : Ent := ⟨20, [v41], (.tup [v40, (i 0), (i 0)]), [⟨.dead, 8, 0, []⟩, ⟨.live, 14, 0, [(.agg [(.int .u32 1), (.int .i32 0), (.int .u32 0), v41, v20, v37, (.lst false []), v28, (.lst false []), (.lst false []), (.lst false []), (.lst false []), (i 0),
  (i 0)])]⟩, ⟨.live, 8, 0, [v40]⟩, ⟨.dead, 17, 0, []⟩, ⟨.dead, 17, 0, []⟩, ⟨.dead, 17, 0, []⟩]⟩
theorem s44 : e44.Sound Tryz.prog := entry tr_ok ext_ok (T := [e43, e37, e38, e42, e33, e26, e21]) (fcons s43 (fcons s37 (fcons s38 (fcons s42 (fcons s33 (fcons s26 (fcons s21 fnil))))))) 100000 (by decide +kernel)
def e45 : Ent := ⟨21, [v42], (.tup [(.own 0 2 0 2), (i 0)]), [⟨.live, 1, 2, [v43, v44]⟩]⟩
theorem s45 : e45.Sound Tryz.prog := entry tr_ok ext_ok (T := []) fnil 100000 (by decide +kernel)
def e46 : Ent := ⟨43, [v43], (.own 3 3 0 3), [⟨.live, 1, 0, [v43]⟩, ⟨.live, 1, 0, [(.own 3 3 0 3)]⟩, ⟨.live, 1, 0, [(i 13)]⟩, ⟨.live, 1, 3, [v45, (.str [120]), (.str [97, 46, 112])]⟩]⟩
theorem s46 : e46.Sound Tryz.prog := entry tr_ok ext_ok (T := []) fnil 100000 (by decide +kernel)
def e47 : Ent := ⟨44, [v45], (.bool true), []⟩
theorem s47 : e47.Sound Tryz.prog := entry tr_ok ext_ok (T := []) fnil 100000 (by decide +kernel)
def e48 : Ent := ⟨22, [v43], (.tup [v46, (i 0)]), []⟩
theorem s48 : e48.Sound Tryz.prog := entry tr_ok ext_ok (T := [e47, e46]) (fcons s47 (fcons s46 fnil)) 100000 (by decide +kernel)
def e49 : Ent := ⟨46, [(.str [97, 46, 112])], (.tup [(.agg [(.str [97]), (.str [112])]), (.bool true)]), [⟨.dead, 2, 0, []⟩, ⟨.dead, 2, 0, []⟩]⟩
theorem s49 : e49.Sound Tryz.prog := entry tr_ok ext_ok (T := []) fnil 100000 (by decide +kernel)
def e50 : Ent := ⟨23, [v46, (i 1)], (.tup [v47, (i 0)]), [⟨.live, 4, 0, [v47]⟩, ⟨.live, 4, 0, [v47]⟩, ⟨.dead, 2, 0, []⟩, ⟨.live, 1, 1, [(.str [97])]⟩, ⟨.live, 1, 1, [(.str [112])]⟩]⟩
theorem s50 : e50.Sound Tryz.prog := entry tr_ok ext_ok (T := [e49]) (fcons s49 fnil) 100000 (by decide +kernel)
def e51 : Ent := ⟨43, [v44], (.own 3 3 0 3), [⟨.live, 1, 0, [v44]⟩, ⟨.live, 1, 0, [(.own 3 3 0 3)]⟩, ⟨.live, 1, 0, [(i 13)]⟩, ⟨.live, 1, 3, [v45, (.str [121]), (.str [97, 46, 113])]⟩]⟩
theorem s51 : e51.Sound Tryz.prog := entry tr_ok ext_ok (T := []) fnil 100000 (by decide +kernel)
def e52 : Ent := ⟨22, [v44], (.tup [v48, (i 0)]), []⟩
theorem s52 : e52.Sound Tryz.prog := entry tr_ok ext_ok (T := [e47, e51]) (fcons s47 (fcons s51 fnil)) 100000 (by decide +kernel)
def e53 : Ent := ⟨46, [(.str [97, 46, 113])], (.tup [(.agg [(.str [97]), (.str [113])]), (.bool true)]), [⟨.dead, 2, 0, []⟩, ⟨.dead, 2, 0, []⟩]⟩
theorem s53 : e53.Sound Tryz.prog := entry tr_ok ext_ok (T := []) fnil 100000 (by decide +kernel)
def e54 : Ent := ⟨23, [v48, (i 2)], (.tup [v49, (i 0)]), [⟨.live, 4, 0, [v49]⟩, ⟨.live, 4, 0, [v49]⟩, ⟨.dead, 2, 0, []⟩, ⟨.live, 1, 1, [(.str [97])]⟩, ⟨.live, 1, 1, [(.str [113])]⟩]⟩
theorem s54 : e54.Sound Tryz.prog := entry tr_ok ext_ok (T := [e53]) (fcons s53 fnil) 100000 (by decide +kernel)
def e55 : Ent := ⟨27, [v50], (.bool true), []⟩
theorem s55 : e55.Sound Tryz.prog := entry tr_ok ext_ok (T := []) fnil 100000 (by decide +kernel)
def e56 : Ent := ⟨27, [v51], (.bool true), []⟩
theorem s56 : e56.Sound Tryz.prog := entry tr_ok ext_ok (T := []) fnil 100000 (by decide +kernel)
def e57 : Ent := ⟨15, [v40, v52], (.tup [(.own 0 2 0 2), (i 0), (i 0), (i 0)]), [⟨.live, 1, 2, [(i 0), (i 1)]⟩, ⟨.dead, 4, 0, []⟩, ⟨.dead, 4, 0, []⟩]⟩
theorem s57 : e57.Sound Tryz.prog := entry tr_ok ext_ok (T := [e56, e55, e42]) (fcons s56 (fcons s55 (fcons s42 fnil))) 100000 (by decide +kernel)
end Go.Proofs.YtjhcempjiokfdaaGreatDoor
