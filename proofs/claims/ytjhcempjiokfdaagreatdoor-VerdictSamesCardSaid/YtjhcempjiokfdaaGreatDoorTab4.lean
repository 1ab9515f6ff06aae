/- What closed calls come to, entry by entry. Part 4. No condition. -/
import Derived.Test.YtjhcempjiokfdaaGreatDoorTab3
set_option linter.unusedSimpArgs false
set_option linter.unusedVariables false

-- ---- YtjhcempjiokfdaaGreatDoorTab4
namespace Go.Proofs.YtjhcempjiokfdaaGreatDoor
open Go.Proofs.Abs
set_option maxRecDepth 100000
def e82 : Ent := ⟨19, [v63], (.tup [(.own 3 3 0 3), (i 0), (i 0)]), [⟨.live, 1, 0, [(.own 3 3 0 3)]⟩, ⟨.live, 1, 0, [(i 0)]⟩, ⟨.dead, 17, 0, []⟩, ⟨.live, 17, 3, [v13, v14, v67]⟩, ⟨.dead, 17, 0, []⟩, ⟨.dead, 17, 0, []⟩]⟩
theorem s82 : e82.Sound Tryz.prog := entry tr_ok ext_ok (T := [e81, e79, e13, e10, e7, e4, e77]) (fcons s81 (fcons s79 (fcons s13 (fcons s10 (fcons s7 (fcons s4 (fcons s77 fnil))))))) 100000 (by decide +kernel)
def e83 : Ent := ⟨366, [v67], (.tup [v68, (.bool true)]), [⟨.live, 17, 0, [v68]⟩, ⟨.live, 17, 0, [v68]⟩]⟩
theorem s83 : e83.Sound Tryz.prog := entry tr_ok ext_ok (T := []) fnil 100000 (by decide +kernel)
def e84 : Ent := ⟨367, [v67, v67], (.bool true), []⟩
theorem s84 : e84.Sound Tryz.prog := entry tr_ok ext_ok (T := []) fnil 100000 (by decide +kernel)
def e85 : Ent := ⟨299, [v30, v67, (i 2)], (.tup [(.ptr 5 0 0 0), (.bool true)]), [⟨.live, 8, 0, [v31]⟩, ⟨.live, 8, 0, [v31]⟩, ⟨.live, 5, 1, [v18]⟩, ⟨.live, 7, 1, [v25]⟩, ⟨.live, 6, 1, [v32]⟩, ⟨.live, 8, 0, [v31]⟩]⟩
theorem s85 : e85.Sound Tryz.prog := entry tr_ok ext_ok (T := [e31, e83, e84]) (fcons s31 (fcons s83 (fcons s84 fnil))) 100000 (by decide +kernel)
def e86 : Ent := ⟨233, [v30, v67], (.tup [v69, (i 0)]), [⟨.live, 8, 0, [v69]⟩, ⟨.live, 8, 0, [v34]⟩, ⟨.live, 8, 0, [v34]⟩, ⟨.live, 5, 1, [v18]⟩, ⟨.live, 7, 2, [v25, v70]⟩, ⟨.live, 6, 2, [v32, v71]⟩, ⟨.live, 8, 0, [v69]⟩, ⟨.live, 1, 0, [(i 0)]⟩, ⟨.live, 1, 0,
  [(i 20)]⟩]⟩
theorem s86 : e86.Sound Tryz.prog := entry tr_ok ext_ok (T := [e31, e85]) (fcons s31 (fcons s85 fnil)) 100000 (by decide +kernel)
def e87 : Ent := ⟨49, [v74, (i 1), v75], (.bool true), []⟩
theorem s87 : e87.Sound Tryz.prog := entry tr_ok ext_ok (T := []) fnil 100000 (by decide +kernel)
def e88 : Ent := ⟨48, [v73, (.fn 49 [v74] [])], (.bool true), [⟨.dead, 6, 0, []⟩, ⟨.dead, 6, 0, []⟩]⟩
theorem s88 : e88.Sound Tryz.prog := entry tr_ok ext_ok (T := [e87]) (fcons s87 fnil) 100000 (by decide +kernel)
def e89 : Ent := ⟨52, [v74, (i 0), v25], (.bool true), []⟩
theorem s89 : e89.Sound Tryz.prog := entry tr_ok ext_ok (T := []) fnil 100000 (by decide +kernel)
def e90 : Ent := ⟨52, [v74, (i 1), v70], (.bool true), []⟩
theorem s90 : e90.Sound Tryz.prog := entry tr_ok ext_ok (T := []) fnil 100000 (by decide +kernel)
def e91 : Ent := ⟨24, [v74], (.bool true), [⟨.dead, 8, 0, []⟩]⟩
theorem s91 : e91.Sound Tryz.prog := entry tr_ok ext_ok (T := [e89, e90, e88]) (fcons s89 (fcons s90 (fcons s88 fnil))) 100000 (by decide +kernel)
def e92 : Ent := ⟨78, [v74], v76, [⟨.live, 8, 0, [v76]⟩, ⟨.live, 8, 0, [v76]⟩, ⟨.live, 5, 1, [v18]⟩, ⟨.live, 7, 2, [v25, v70]⟩, ⟨.live, 6, 2, [v32, v75]⟩]⟩
theorem s92 : e92.Sound Tryz.prog := entry tr_ok ext_ok (T := []) fnil 100000 (by decide +kernel)
def e93 : Ent := ⟨49, [v78, (i 1), v75], (.bool true), []⟩
theorem s93 : e93.Sound Tryz.prog := entry tr_ok ext_ok (T := []) fnil 100000 (by decide +kernel)
def e94 : Ent := ⟨48, [v77, (.fn 49 [v78] [])], (.bool true), [⟨.dead, 6, 0, []⟩, ⟨.dead, 6, 0, []⟩]⟩
theorem s94 : e94.Sound Tryz.prog := entry tr_ok ext_ok (T := [e93]) (fcons s93 fnil) 100000 (by decide +kernel)
def e95 : Ent := ⟨52, [v78, (i 0), v25], (.bool true), []⟩
theorem s95 : e95.Sound Tryz.prog := entry tr_ok ext_ok (T := []) fnil 100000 (by decide +kernel)
def e96 : Ent := ⟨52, [v78, (i 1), v70], (.bool true), []⟩
theorem s96 : e96.Sound Tryz.prog := entry tr_ok ext_ok (T := []) fnil 100000 (by decide +kernel)
def e97 : Ent := ⟨24, [v78], (.bool true), [⟨.dead, 8, 0, []⟩]⟩
theorem s97 : e97.Sound Tryz.prog := entry tr_ok ext_ok (T := [e95, e96, e94]) (fcons s95 (fcons s96 (fcons s94 fnil))) 100000 (by decide +kernel)
def e98 : Ent := ⟨174, [v74], (.tup [v69, (i 0), (i 0)]), [⟨.live, 8, 0, [v69]⟩, ⟨.live, 8, 0, [v69]⟩, ⟨.live, 8, 0, [v69]⟩, ⟨.live, 5, 1, [v18]⟩, ⟨.live, 7, 2, [v25, v70]⟩, ⟨.live, 6, 2, [v26, v71]⟩, ⟨.dead, 6, 0, []⟩, ⟨.dead, 6, 0, []⟩, ⟨.dead, 8, 0,
  []⟩]⟩
theorem s98 : e98.Sound Tryz.prog := entry tr_ok ext_ok (T := [e97, e92, e91]) (fcons s97 (fcons s92 (fcons s91 fnil))) 100000 (by decide +kernel)
def e99 : Ent := ⟨175, [v78], (.tup [(i 0), (.bool false)]), [⟨.live, 1, 4, [(i 0), (i 1), (i 2), (i 3)]⟩, ⟨.dead, 7, 0, []⟩, ⟨.live, 1, 1, [(i 10)]⟩, ⟨.dead, 7, 0, []⟩, ⟨.live, 1, 1, [(i 20)]⟩, ⟨.dead, 6, 0, []⟩, ⟨.dead, 6, 0, []⟩]⟩
theorem s99 : e99.Sound Tryz.prog := entry tr_ok ext_ok (T := [e97]) (fcons s97 fnil) 100000 (by decide +kernel)
def e100 : Ent := ⟨20, [v79], (.tup [v78, (i 0), (i 0)]), [⟨.dead, 8, 0, []⟩, ⟨.live, 14, 0, [(.agg [(.int .u32 1), (.int .i32 0), (.int .u32 0), v79, v20, v72, (.lst false []), v77, (.lst false []), (.lst false []), (.lst false []), (.lst false []), (i 0),
  (i 0)])]⟩, ⟨.live, 8, 0, [v78]⟩, ⟨.dead, 17, 0, []⟩, ⟨.dead, 17, 0, []⟩, ⟨.dead, 17, 0, []⟩]⟩
theorem s100 : e100.Sound Tryz.prog := entry tr_ok ext_ok (T := [e99, e98, e86, e26, e21]) (fcons s99 (fcons s98 (fcons s86 (fcons s26 (fcons s21 fnil))))) 100000 (by decide +kernel)
def e101 : Ent := ⟨15, [v78, v52], (.tup [(.own 0 2 0 2), (i 0), (i 0), (i 0)]), [⟨.live, 1, 2, [(i 0), (i 1)]⟩, ⟨.dead, 4, 0, []⟩, ⟨.dead, 4, 0, []⟩]⟩
theorem s101 : e101.Sound Tryz.prog := entry tr_ok ext_ok (T := [e56, e55, e97]) (fcons s56 (fcons s55 (fcons s97 fnil))) 100000 (by decide +kernel)
def e102 : Ent := ⟨73, [v78, (i 0)], (.own 1 1 0 1), [⟨.dead, 7, 0, []⟩, ⟨.live, 1, 1, [(i 0)]⟩, ⟨.dead, 7, 0, []⟩]⟩
theorem s102 : e102.Sound Tryz.prog := entry tr_ok ext_ok (T := [e97]) (fcons s97 fnil) 100000 (by decide +kernel)
def e103 : Ent := ⟨131, [v78, (i 0)], nl, []⟩
theorem s103 : e103.Sound Tryz.prog := entry tr_ok ext_ok (T := [e102, e97]) (fcons s102 (fcons s97 fnil)) 100000 (by decide +kernel)
def e104 : Ent := ⟨31, [v78, (i 0), (i 1)], (.tup [nl, (.bool false)]), [⟨.live, 11, 0, [v80]⟩, ⟨.dead, 7, 0, []⟩, ⟨.live, 1, 2, [(.bool true), (.bool false)]⟩, ⟨.live, 1, 2, [(.bool false), (.bool false)]⟩, ⟨.live, 7, 1, [v53]⟩, ⟨.dead, 2, 0, []⟩]⟩
theorem s104 : e104.Sound Tryz.prog := entry tr_ok ext_ok (T := [e103, e102, e97]) (fcons s103 (fcons s102 (fcons s97 fnil))) 100000 (by decide +kernel)
def e105 : Ent := ⟨73, [v78, (i 1)], (.own 2 1 0 1), [⟨.dead, 7, 0, []⟩, ⟨.dead, 7, 0, []⟩, ⟨.live, 1, 1, [(i 1)]⟩]⟩
theorem s105 : e105.Sound Tryz.prog := entry tr_ok ext_ok (T := [e97]) (fcons s97 fnil) 100000 (by decide +kernel)
def e106 : Ent := ⟨131, [v78, (i 1)], nl, []⟩
theorem s106 : e106.Sound Tryz.prog := entry tr_ok ext_ok (T := [e105, e97]) (fcons s105 (fcons s97 fnil)) 100000 (by decide +kernel)
def e107 : Ent := ⟨31, [v78, (i 1), (i 0)], (.tup [nl, (.bool false)]), [⟨.live, 11, 0, [v80]⟩, ⟨.dead, 7, 0, []⟩, ⟨.live, 1, 2, [(.bool false), (.bool true)]⟩, ⟨.live, 1, 2, [(.bool false), (.bool false)]⟩, ⟨.live, 7, 1, [(.agg [(i 1), (i 0), (i 0), (i 0),
  (i 1), (.int .u32 0), (i (-1))])]⟩, ⟨.dead, 2, 0, []⟩]⟩
theorem s107 : e107.Sound Tryz.prog := entry tr_ok ext_ok (T := [e106, e105, e97]) (fcons s106 (fcons s105 (fcons s97 fnil))) 100000 (by decide +kernel)
def e108 : Ent := ⟨16, [v78, (.lst false [(i 0), (i 1)])], (.tup [(i 0), (i 0), (.bool false)]), []⟩
theorem s108 : e108.Sound Tryz.prog := entry tr_ok ext_ok (T := [e107, e104, e97]) (fcons s107 (fcons s104 (fcons s97 fnil))) 100000 (by decide +kernel)
def e109 : Ent := ⟨8, [v63, v42], v81, [⟨.live, 7, 0, [v81]⟩, ⟨.dead, 8, 0, []⟩]⟩
theorem s109 : e109.Sound Tryz.prog := entry tr_ok ext_ok (T := [e108, e101, e45, e48, e50, e52, e54, e82, e100]) (fcons s108 (fcons s101 (fcons s45 (fcons s48 (fcons s50 (fcons s52 (fcons s54 (fcons s82 (fcons s100 fnil))))))))) 100000 (by decide +kernel)
def e110 : Ent := ⟨14, [(.lst false [(u 116), (u 101), (u 110), (u 97), (u 110), (u 116), (u 32), (u 120), (u 32), (u 97), (u 46), (u 112), (u 10)])], (.tup [(.own 1 1 0 1), (i 0), (i 0)]), [⟨.dead, 4, 0, []⟩, ⟨.live, 4, 1, [v50]⟩]⟩
theorem s110 : e110.Sound Tryz.prog := entry tr_ok ext_ok (T := [e50, e48]) (fcons s50 (fcons s48 fnil)) 100000 (by decide +kernel)
def e111 : Ent := ⟨15, [v78, (.lst false [v50])], (.tup [nl, (i 1), (i 3), (i 39)]), [⟨.live, 1, 2, [(i 0), (i (-1))]⟩, ⟨.dead, 4, 0, []⟩]⟩
theorem s111 : e111.Sound Tryz.prog := entry tr_ok ext_ok (T := [e55, e97]) (fcons s55 (fcons s97 fnil)) 100000 (by decide +kernel)
def e112 : Ent := ⟨4, [], (.bool true), [⟨.dead, 1, 71, []⟩, ⟨.dead, 1, 26, []⟩, ⟨.dead, 7, 0, []⟩, ⟨.dead, 1, 71, []⟩, ⟨.dead, 1, 26, []⟩, ⟨.dead, 7, 0, []⟩, ⟨.dead, 1, 71, []⟩, ⟨.dead, 1, 13, []⟩, ⟨.dead, 7, 0, []⟩]⟩
theorem s112 : e112.Sound Tryz.prog := entry tr_ok ext_ok (T := [e100, e82, e110, e111, e109, e76]) (fcons s100 (fcons s82 (fcons s110 (fcons s111 (fcons s109 (fcons s76 fnil)))))) 100000 (by decide +kernel)
end Go.Proofs.YtjhcempjiokfdaaGreatDoor
