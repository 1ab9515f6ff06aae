/- What closed calls come to, entry by entry. Part 3. No condition. -/
import Derived.Test.YtjhcempjiokfdaaGreatDoorTab2
set_option linter.unusedSimpArgs false
set_option linter.unusedVariables false

-- ---- YtjhcempjiokfdaaGreatDoorTab3
namespace Go.Proofs.YtjhcempjiokfdaaGreatDoor
open Go.Proofs.Abs
set_option maxRecDepth 100000
def e58 : Ent := ⟨73, [v40, (i 0)], (.own 1 2 0 2), [⟨.dead, 7, 0, []⟩, ⟨.live, 1, 2, [(i 0), (i 1)]⟩, ⟨.dead, 7, 0, []⟩]⟩
theorem s58 : e58.Sound Tryz.prog := entry tr_ok ext_ok (T := [e42]) (fcons s42 fnil) 100000 (by decide +kernel)
def e59 : Ent := ⟨31, [v40, (i 0), (i 1)], (.tup [(.own 5 1 0 1), (.bool true)]), [⟨.live, 11, 0, [(.agg [v20, v37, (.lst false []), v28, (.lst false []), (.lst false []), (.lst false []), (.lst false []), (.own 2 1 0 1), (.own 3 1 0 1), (.own 4 1 0 1)])]⟩,
  ⟨.dead, 7, 0, []⟩, ⟨.live, 1, 1, [(.bool true)]⟩, ⟨.live, 1, 1, [(.bool false)]⟩, ⟨.live, 7, 1, [v53]⟩, ⟨.live, 4, 1, [(.agg [(i 0), (i 0), (i 0), (.int .u32 0)])]⟩]⟩
theorem s59 : e59.Sound Tryz.prog := entry tr_ok ext_ok (T := [e58, e42]) (fcons s58 (fcons s42 fnil)) 100000 (by decide +kernel)
def e60 : Ent := ⟨16, [v40, (.lst false [(i 0), (i 1)])], (.tup [(i 0), (i 1), (.bool true)]), []⟩
theorem s60 : e60.Sound Tryz.prog := entry tr_ok ext_ok (T := [e59, e42]) (fcons s59 (fcons s42 fnil)) 100000 (by decide +kernel)
def e61 : Ent := ⟨133, [v40, (.lst false [])], (.tup [(.ptr 2 0 0 0), (i 0)]), [⟨.live, 1, 1, [(i 0)]⟩, ⟨.live, 1, 1, [(i 0)]⟩, ⟨.live, 12, 0, [v54]⟩, ⟨.live, 1, 0, [(.own 5 1 0 0)]⟩, ⟨.dead, 3, 0, []⟩, ⟨.live, 3, 1, [(.agg [(i 0), (i 0), (i 0)])]⟩, ⟨.dead,
  3, 0, []⟩, ⟨.dead, 3, 0, []⟩, ⟨.dead, 7, 0, []⟩, ⟨.dead, 7, 0, []⟩, ⟨.dead, 7, 0, []⟩, ⟨.dead, 7, 0, []⟩]⟩
theorem s61 : e61.Sound Tryz.prog := entry tr_ok ext_ok (T := [e42]) (fcons s42 fnil) 100000 (by decide +kernel)
def e62 : Ent := ⟨77, [v40, (.lst false [])], (.tup [(.own 20 0 0 0), (i 0)]), [⟨.live, 1, 1, [(i 0)]⟩, ⟨.live, 1, 1, [(i 0)]⟩, ⟨.live, 12, 0, [v54]⟩, ⟨.live, 1, 0, [(.own 5 1 0 0)]⟩, ⟨.dead, 3, 0, []⟩, ⟨.live, 3, 1, [(.agg [(i 0), (i 0), (i 0)])]⟩, ⟨.dead,
  3, 0, []⟩, ⟨.dead, 3, 0, []⟩, ⟨.dead, 7, 0, []⟩, ⟨.dead, 7, 0, []⟩, ⟨.dead, 7, 0, []⟩, ⟨.dead, 7, 0, []⟩, ⟨.live, 1, 2, [(i 0), (i 0)]⟩, ⟨.dead, 7, 0, []⟩, ⟨.dead, 7, 0, []⟩, ⟨.dead, 7, 0, []⟩, ⟨.dead, 7, 0, []⟩, ⟨.dead, 7, 0, []⟩, ⟨.dead, 7,
  0, []⟩, ⟨.dead, 5, 0, []⟩, ⟨.live, 1, 0, []⟩]⟩
theorem s62 : e62.Sound Tryz.prog := entry tr_ok ext_ok (T := [e61]) (fcons s61 fnil) 100000 (by decide +kernel)
def e63 : Ent := ⟨78, [v40], v39, [⟨.live, 8, 0, [v39]⟩, ⟨.live, 8, 0, [v39]⟩, ⟨.live, 5, 1, [v18]⟩, ⟨.live, 7, 2, [v25, v35]⟩, ⟨.live, 6, 1, [v32]⟩]⟩
theorem s63 : e63.Sound Tryz.prog := entry tr_ok ext_ok (T := []) fnil 100000 (by decide +kernel)
def e64 : Ent := ⟨33, [v40], (.tup [(.ptr 3 0 0 0), (i 0)]), [⟨.live, 5, 0, [(.agg [(.lst false []), (.int .u32 0), (.int .i32 0), (.int .u32 0), nl])]⟩, ⟨.live, 1, 1, [nl]⟩, ⟨.live, 1, 1, [nl]⟩, ⟨.live, 77, 0, [(.agg [v20, v37, (.lst false []), v36,
  (.lst false []), (.lst false []), (.lst false []), (.lst false []), (.ptr 0 0 0 0), (.own 1 1 0 1), (.own 2 1 0 1), (i 0), (i 0), (i 0), (i 0), (i 0), (i 0), (i 0), (i 0), (i 0), (i 0), (i 0), (i 0), (i 0), (i 0), (i 0), (i 0), (i 0), (i 0),
  (i 0), (i 0), (i 0), (i 0), (i 0), (i 0), (i 0), (i 0), (i 0), (i 0), (i 0), (i 0), (i 0), (i 0), (i 0), (i 0), (i 0), (i 0), (i 0), (i 0), (i 0), (i 0), (i 0), (i 0), (i 0), (i 0), (i 0), (i 0), (i 0), (i 0), (i 0), (i 0), (i 0), (i 0),
  (i 0), (i 0), (i 0), (i 0), (i 0), (i 0), (i 0), (i 0), (i 0), (i 0), (i 0), (i 0), (i 0), (i 0)])]⟩]⟩
theorem s64 : e64.Sound Tryz.prog := entry tr_ok ext_ok (T := [e63, e62]) (fcons s63 (fcons s62 fnil)) 100000 (by decide +kernel)
def e65 : Ent := ⟨160, [nl, (.int .u64 281474976710655)], (.own 0 6 0 6), [⟨.live, 1, 6, [(u 255), (u 255), (u 255), (u 255), (u 255), (u 255)]⟩]⟩
theorem s65 : e65.Sound Tryz.prog := entry tr_ok ext_ok (T := []) fnil 100000 (by decide +kernel)
def e66 : Ent := ⟨89, [(.agg [(.int .u64 281474976710655), (.int .u64 2203318222849), (i 34997), (.lst false [])])], (.tup [(.own 0 14 0 14), (i 0)]), [⟨.live, 1, 14, [(u 255), (u 255), (u 255), (u 255), (u 255), (u 255), (u 2), (u 1), (u 0), (u 0), (u 0),
  (u 1), (u 136), (u 181)]⟩, ⟨.hole, 0, 0, []⟩, ⟨.hole, 0, 0, []⟩]⟩
theorem s66 : e66.Sound Tryz.prog := entry tr_ok ext_ok (T := [e65]) (fcons s65 fnil) 100000 (by decide +kernel)
def e67 : Ent := ⟨38, [v40, (i 0), (.lst false [(.agg [(i 0), (i 0), (i 0), (.int .u32 0)])])], (.agg [(i 1), (i 0), (i 0), (i 0), v55, nl]), [⟨.dead, 6, 0, []⟩]⟩
theorem s67 : e67.Sound Tryz.prog := entry tr_ok ext_ok (T := [e42, e66]) (fcons s42 (fcons s66 fnil)) 100000 (by decide +kernel)
def e68 : Ent := ⟨87, [v55], (.tup [(.agg [(.int .u64 281474976710655), (.int .u64 2203318222849), (i 34997), (.own 1 0 0 0)]), (i 0)]), [⟨.live, 4, 0, [(.agg [(.int .u64 281474976710655), (.int .u64 2203318222849), (i 34997), (.own 1 0 0 0)])]⟩, ⟨.live, 1,
  0, []⟩]⟩
theorem s68 : e68.Sound Tryz.prog := entry tr_ok ext_ok (T := []) fnil 100000 (by decide +kernel)
def e69 : Ent := ⟨145, [v38, (i 0), v55], (.tup [(i 0), (.agg [(.int .u64 281474976710655), (.int .u64 2203318222849), (i 34997), (.lst false [])]), (i 0)]), [⟨.live, 4, 0, [(.agg [(.int .u64 281474976710655), (.int .u64 2203318222849), (i 34997),
  (.lst false [])])]⟩, ⟨.dead, 7, 0, []⟩]⟩
theorem s69 : e69.Sound Tryz.prog := entry tr_ok ext_ok (T := [e68, e37]) (fcons s68 (fcons s37 fnil)) 100000 (by decide +kernel)
def e70 : Ent := ⟨133, [v38, (.lst false [])], (.tup [(.ptr 2 0 0 0), (i 0)]), [⟨.live, 1, 1, [(i 0)]⟩, ⟨.live, 1, 1, [(i 0)]⟩, ⟨.live, 12, 0, [v56]⟩, ⟨.live, 1, 0, [(.own 5 1 0 0)]⟩, ⟨.dead, 3, 0, []⟩, ⟨.live, 3, 1, [(.agg [(i 0), (i 0), (i 0)])]⟩, ⟨.dead,
  3, 0, []⟩, ⟨.dead, 3, 0, []⟩, ⟨.dead, 7, 0, []⟩, ⟨.dead, 7, 0, []⟩, ⟨.dead, 7, 0, []⟩, ⟨.dead, 7, 0, []⟩]⟩
theorem s70 : e70.Sound Tryz.prog := entry tr_ok ext_ok (T := [e37]) (fcons s37 fnil) 100000 (by decide +kernel)
def e71 : Ent := ⟨77, [v38, (.lst false [])], (.tup [(.own 20 0 0 0), (i 0)]), [⟨.live, 1, 1, [(i 0)]⟩, ⟨.live, 1, 1, [(i 0)]⟩, ⟨.live, 12, 0, [v56]⟩, ⟨.live, 1, 0, [(.own 5 1 0 0)]⟩, ⟨.dead, 3, 0, []⟩, ⟨.live, 3, 1, [(.agg [(i 0), (i 0), (i 0)])]⟩, ⟨.dead,
  3, 0, []⟩, ⟨.dead, 3, 0, []⟩, ⟨.dead, 7, 0, []⟩, ⟨.dead, 7, 0, []⟩, ⟨.dead, 7, 0, []⟩, ⟨.dead, 7, 0, []⟩, ⟨.live, 1, 2, [(i 0), (i 0)]⟩, ⟨.dead, 7, 0, []⟩, ⟨.dead, 7, 0, []⟩, ⟨.dead, 7, 0, []⟩, ⟨.dead, 7, 0, []⟩, ⟨.dead, 7, 0, []⟩, ⟨.dead, 7,
  0, []⟩, ⟨.dead, 5, 0, []⟩, ⟨.live, 1, 0, []⟩]⟩
theorem s71 : e71.Sound Tryz.prog := entry tr_ok ext_ok (T := [e70]) (fcons s70 fnil) 100000 (by decide +kernel)
def e72 : Ent := ⟨73, [v38, (i 0)], (.own 1 2 0 2), [⟨.dead, 7, 0, []⟩, ⟨.live, 1, 2, [(i 0), (i 1)]⟩, ⟨.dead, 7, 0, []⟩]⟩
theorem s72 : e72.Sound Tryz.prog := entry tr_ok ext_ok (T := [e37]) (fcons s37 fnil) 100000 (by decide +kernel)
def e73 : Ent := ⟨271, [(.fp [v20, v37, (.lst false []), v36, (.lst false []), (.lst false []), (.lst false []), (.lst false []), (.lst false []), (i 0), (i 0), (.lst false [(i 0), (i 1)])]), (.lst false [(i 0), (i 1)])], (.own 0 2 0 1), [⟨.live, 1, 2,
  [(i 1), (i 0)]⟩]⟩
theorem s73 : e73.Sound Tryz.prog := entry tr_ok ext_ok (T := []) fnil 100000 (by decide +kernel)
def e74 : Ent := ⟨147, [v38, (.lst false []), nl, (i 0), v57, (i 0)], (.tup [(.lst false [(.agg [(.int .u64 2203318222849), (i 0), (i 0)])]), (.own 2 1 0 1), (i 0)]), [⟨.live, 1, 0, [(.own 2 1 0 1)]⟩, ⟨.live, 9, 0, [v58]⟩, ⟨.live, 9, 1, [v58]⟩]⟩
theorem s74 : e74.Sound Tryz.prog := entry tr_ok ext_ok (T := [e66, e72, e37, e73]) (fcons s66 (fcons s72 (fcons s37 (fcons s73 fnil)))) 100000 (by decide +kernel)
def e75 : Ent := ⟨17, [v40, (i 0), (i 1)], (.tup [(.own 8 2 0 2), (i 0)]), [⟨.live, 5, 0, [(.agg [(.lst false []), (.int .u32 1), (.int .i32 0), (.int .u32 0), (.lst false [])])]⟩, ⟨.live, 1, 1, [(.lst false [(.agg [(.int .u64 2203318222849), (i 0),
  (i 0)])])]⟩, ⟨.live, 1, 1, [(.lst false [])]⟩, ⟨.live, 77, 0, [(.agg [v20, v37, (.lst false []), v36, (.lst false []), (.lst false []), (.lst false []), (.lst false []), (.ptr 0 0 0 0), (.own 1 1 0 1), (.own 2 1 0 1), (i 0), (i 1), (i 0),
  (i 0), (i 0), (i 0), (i 0), (i 0), (i 0), (i 0), (i 0), (i 0), (i 0), (i 0), (i 0), (i 0), (i 0), (i 0), (i 0), (i 0), (i 0), (i 0), (i 0), (i 0), (i 0), (i 0), (i 0), (i 0), (i 0), (i 0), (i 0), (i 0), (i 0), (i 0), (i 0), (i 0), (i 0),
  (i 0), (i 0), (i 0), (i 0), (i 0), (i 0), (i 0), (i 0), (i 0), (i 0), (i 0), (i 0), (i 0), (i 0), (i 0), (i 0), (i 0), (i 0), (i 0), (i 0), (i 0), (i 0), (i 0), (i 0), (i 0), (i 0), (i 0), (i 0), (i 0)])]⟩, ⟨.live, 1, 0, [(.ptr 3 0 0 0)]⟩,
  ⟨.live, 1, 0, [(.own 8 2 0 2)]⟩, ⟨.live, 1, 0, [(.fn 34 [] [(.ptr 4 0 0 0), (.ptr 5 0 0 0)])]⟩, ⟨.dead, 4, 0, []⟩, ⟨.live, 6, 2, [v59, v60]⟩, ⟨.dead, 7, 0, []⟩, ⟨.live, 7, 0, [v57]⟩, ⟨.dead, 7, 0, []⟩, ⟨.dead, 7, 0, []⟩, ⟨.dead, 9, 0, []⟩,
  ⟨.live, 7, 0, [(.agg [(i 0), (i 0), (i 1), (.int .u64 0), (.int .u64 0), (i 0), nl])]⟩, ⟨.live, 3, 1, [(.agg [(i 1), (i 1), v55])]⟩]⟩
theorem s75 : e75.Sound Tryz.prog := entry tr_ok ext_ok (T := [e74, e71, e69, e67, e59, e64]) (fcons s74 (fcons s71 (fcons s69 (fcons s67 (fcons s59 (fcons s64 fnil)))))) 100000 (by decide +kernel)
def e76 : Ent := ⟨8, [v0, v42], v62, [⟨.live, 7, 0, [v62]⟩, ⟨.dead, 8, 0, []⟩]⟩
theorem s76 : e76.Sound Tryz.prog := entry tr_ok ext_ok (T := [e75, e60, e57, e45, e48, e50, e52, e54, e17, e44]) (fcons s75 (fcons s60 (fcons s57 (fcons s45 (fcons s48 (fcons s50 (fcons s52 (fcons s54 (fcons s17 (fcons s44 fnil)))))))))) 100000 (by decide +kernel)
def e77 : Ent := ⟨21, [v63], (.tup [(.own 0 3 0 3), (i 0)]), [⟨.live, 1, 3, [v1, v2, v64]⟩]⟩
theorem s77 : e77.Sound Tryz.prog := entry tr_ok ext_ok (T := []) fnil 100000 (by decide +kernel)
def e78 : Ent := ⟨43, [v64], (.own 3 6 0 6), [⟨.live, 1, 0, [v64]⟩, ⟨.live, 1, 0, [(.own 3 6 0 6)]⟩, ⟨.live, 1, 0, [(i 21)]⟩, ⟨.live, 1, 6, [(.str [112, 111, 114, 116]), (.str [97]), (.str [113]), (.str [49]), v8, (.str [50, 48])]⟩]⟩
theorem s78 : e78.Sound Tryz.prog := entry tr_ok ext_ok (T := []) fnil 100000 (by decide +kernel)
def e79 : Ent := ⟨22, [v64], (.tup [v65, (i 0)]), []⟩
theorem s79 : e79.Sound Tryz.prog := entry tr_ok ext_ok (T := [e9, e78]) (fcons s9 (fcons s78 fnil)) 100000 (by decide +kernel)
def e80 : Ent := ⟨161, [(.str [50, 48]), (i 1), (i 4094)], (.tup [(i 20), (.bool true)]), []⟩
theorem s80 : e80.Sound Tryz.prog := entry tr_ok ext_ok (T := []) fnil 100000 (by decide +kernel)
def e81 : Ent := ⟨40, [v65, (i 3)], (.tup [v66, (i 0)]), [⟨.live, 17, 0, [v66]⟩, ⟨.live, 3, 0, [(.agg [v65, (i 6), (i 0)])]⟩, ⟨.live, 17, 0, [v66]⟩]⟩
theorem s81 : e81.Sound Tryz.prog := entry tr_ok ext_ok (T := [e80, e11]) (fcons s80 (fcons s11 fnil)) 100000 (by decide +kernel)
end Go.Proofs.YtjhcempjiokfdaaGreatDoor
