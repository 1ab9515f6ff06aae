/- An abstract evaluator of Go code (plain Lean over any program), proved sound: what it says of a call, the machine does. Part 2. No condition. -/
import Derived.Test.YtjhcempjiokfdaaGreatDoorAbs1
import Derived.Laws.IdiomStrings
import Derived.Laws.AppendOwn
import Derived.Lib.FrozenHead
import Derived.Laws.LoneSync
set_option linter.unusedSimpArgs false
set_option linter.unusedVariables false

-- ---- Abs10
set_option linter.unusedSimpArgs false
set_option linter.unusedVariables false
namespace Go.Proofs.Abs
open Go.RowKit
section
variable {P : Program} {w0 : World} {X0 : Nat → Prop} {w : World} {h : AHeap} {loc : Nat → Nat} {a : Act} {t : List AV} {o : Oper} {b : Nat}

theorem flat_set {s : Nat} {v : AV} (hv : v.cells.length = s) : ∀ {es : List AV} {i : Nat}, (∀ x ∈ es, x.cells.length = s) → i < es.length → flat (es.set i v) = (flat es).take (i * s) ++ v.cells ++ (flat es).drop (i * s + s)
  | [], i, _, hi => by simp at hi
  | x :: es, i, hs, hi => by
    have hx := hs x (List.mem_cons_self ..)
    cases i with
    | zero => simp [flat_cons, hx]
    | succ i =>
      rw [List.set_cons_succ, flat_cons, flat_set hv (fun y hy => hs y (List.mem_cons_of_mem _ hy)) (by simpa using hi), flat_cons]
      have h1 : (i + 1) * s = x.cells.length + i * s := by rw [hx, Nat.add_mul]; omega
      rw [h1, List.take_length_add_append, Nat.add_assoc, List.drop_length_add_append]
      simp

theorem fillE_ok {s : Nat} : ∀ (ps : List (Nat × AV)) (es l : List AV), fillE s es ps = some l → (∀ x ∈ es, x.cells.length = s) → (∀ x ∈ flat es, x.leaf = true) →
    fill (flat es) (ps.map fun p => (p.1 * s, s, p.2)) = some (flat l) ∧ l.length = es.length ∧ (∀ x ∈ l, x.cells.length = s) ∧ (∀ x ∈ flat l, x.leaf = true)
  | [], es, l, hf, hs, hl => by simp [fillE] at hf; subst hf; exact ⟨rfl, rfl, hs, hl⟩
  | (i, v) :: ps, es, l, hf, hs, hl => by
    simp only [fillE] at hf
    split at hf
    case isFalse => cases hf
    rename_i hc
    obtain ⟨hc1, hc2, hc3⟩ := hc
    have hset := flat_set hc1 hs hc2
    have hs' : ∀ x ∈ es.set i v, x.cells.length = s := fun x hx => by
      rcases List.mem_or_eq_of_mem_set hx with hx | rfl
      · exact hs x hx
      · exact hc1
    have hvl : ∀ x ∈ v.cells, x.leaf = true := by
      cases v <;> simp [AV.solid, AV.cells, AV.leaf] at hc3 ⊢
      exact hc3
    have hl' : ∀ x ∈ flat (es.set i v), x.leaf = true := fun x hx => by
      rw [hset] at hx
      simp only [List.mem_append] at hx
      rcases hx with (hx | hx) | hx
      · exact hl x (List.mem_of_mem_take hx)
      · exact hvl x hx
      · exact hl x (List.mem_of_mem_drop hx)
    obtain ⟨h1, h2, h3, h4⟩ := fillE_ok ps _ l hf hs' hl'
    refine ⟨?_, by simpa using h2, h3, h4⟩
    have hle : i * s + s ≤ (flat es).length := by
      rw [flat_length hs]
      have : (i + 1) * s ≤ es.length * s := Nat.mul_le_mul_right _ hc2
      rw [Nat.add_mul] at this
      omega
    simp only [List.map_cons, fill]
    rw [if_pos ⟨hc1, hle, hc3⟩, ← hset]
    exact h1

theorem flat_replicate (z : AV) : ∀ n, flat (List.replicate n z) = (List.replicate n z.cells).flatten
  | 0 => rfl
  | n + 1 => by rw [List.replicate_succ, flat_cons, flat_replicate z n, List.replicate_succ, List.flatten_cons]

theorem flat_replicate_get (z : AV) : ∀ n k (hk : k < (flat (List.replicate n z)).length), ∃ h : k % z.cells.length < z.cells.length, (flat (List.replicate n z))[k] = z.cells[k % z.cells.length]
  | 0, k, hk => by simp [flat] at hk
  | n + 1, k, hk => by
    have hs : ∀ m, ∀ x ∈ List.replicate m z, x.cells.length = z.cells.length := fun m x hx => by rw [(List.mem_replicate.1 hx).2]
    have hpos : 0 < z.cells.length := by
      rcases Nat.eq_zero_or_pos z.cells.length with h0 | h0
      · rw [flat_length (hs (n + 1)), h0] at hk; omega
      · exact h0
    refine ⟨Nat.mod_lt _ hpos, ?_⟩
    simp only [List.replicate_succ, flat_cons]
    by_cases hlt : k < z.cells.length
    · rw [List.getElem_append_left hlt]
      simp [Nat.mod_eq_of_lt hlt]
    · rw [List.getElem_append_right (by omega)]
      obtain ⟨_, h2⟩ := flat_replicate_get z n (k - z.cells.length) (by simp only [List.replicate_succ, flat_cons, List.length_append] at hk; omega)
      rw [h2]
      congr 1
      rw [Nat.mod_eq_sub_mod (a := k) (by omega)]

theorem made_rep {X} {z : AV} {zv : Value} (hz : Rep w h loc X z zv) (hs : z.solid = true) (n m : Nat) (hm : n * z.cells.length ≤ m) :
    (∀ x ∈ flat (List.replicate n z), x.leaf = true) ∧ ∀ k (hk : k < (flat (List.replicate n z)).length) (hk2 : k < (madeCells zv.cells m).size), Rep w h loc X (flat (List.replicate n z))[k] (madeCells zv.cells m)[k] := by
  obtain ⟨e1, e2, e3⟩ := hz.cells hs
  refine ⟨fun x hx => ?_, fun k hk hk2 => ?_⟩
  · rw [flat_replicate] at hx
    simp only [List.mem_flatten, List.mem_replicate] at hx
    obtain ⟨l, ⟨_, rfl⟩, hx⟩ := hx
    exact e2 x hx
  · obtain ⟨hlt, he⟩ := flat_replicate_get z n k hk
    rw [he]
    have hlt2 : k % z.cells.length < zv.cells.size := by omega
    have := e3 _ hlt hlt2
    have hmk : (madeCells zv.cells m)[k] = zv.cells[k % z.cells.length] := by
      simp only [madeCells, Array.getElem_map, Array.getElem_range, e1]
      exact getElem!_pos zv.cells (k % z.cells.length) hlt2
    rw [hmk]
    exact this

theorem run_makeS {ty e : Nat} {i : TypeInfo} {zv : Value} {kl kc : IntKind} {l c : Int} (ht : P.underlying ty = some (.slice e)) (hi : P.info? e = some i) (hz : i.zero = some zv) (hb : i.bytes ≤ 262144) (h0 : 0 ≤ l) (hlc : l ≤ c) (hm : c ≤ (most : Nat)) :
    (Instr.makeSlice ty (.int kl l) (.int kc c)).run P w = .ok (.slice (some ⟨w.heap.size, 0, none⟩) l.toNat c.toNat) (w.alloc (.cells (madeCells zv.cells (c.toNat * i.size)) e)) := by
  have h1 : (i.bytes : Int) * c ≤ 281474976710656 := by
    have h2 : i.bytes * c.toNat ≤ 262144 * 1073741824 := Nat.mul_le_mul hb (by unfold most at hm; omega)
    have h3 : ((i.bytes * c.toNat : Nat) : Int) ≤ 281474976710656 := by omega
    rw [Int.natCast_mul, Int.toNat_of_nonneg (by omega)] at h3
    exact h3
  exact run_make w ty e i zv ht hi hz kl kc l c h0 hlc h1 (by unfold most at hm; omega)

theorem ok_mk {z : AV} {zv : Value} {r ty e : Nat} {l c : PX} {l' c' : Operand} {i : TypeInfo} {v : AV} {h1 : AHeap} (W : Wrel w0 X0 w h loc) (S : Slots w h loc (XH X0 h loc) t a.tmps) (ho : o.op = .makeSlice ty l' c') (hl : chkX l' l = true) (hc : chkX c' c = true)
    (ht : P.underlying ty = some (.slice e)) (hi : P.info? e = some i) (hz : i.zero = some zv) (hzv : isV z zv = true) (hs : z.solid = true) (hsz : i.size = z.cells.length) (hb : i.bytes ≤ 262144)
    (hv : opH t h b (.mk r z l c) = some (v, h1)) : OpOK ((execOp a.eval o).run P w) w0 X0 w h loc v h1 := by
  have hcl := S.x hl
  have hcc := S.x hc
  simp only [opH] at hv
  split at hv
  case h_2 => cases hv
  rename_i k1 n k2 m e1 e2
  split at hv
  case isFalse => cases hv
  rename_i hn
  simp only [Option.map_eq_some_iff, Prod.mk.injEq] at hv
  obtain ⟨⟨id, h2⟩, ha, rfl, rfl⟩ := hv
  rw [e1] at hcl
  rw [e2] at hcc
  have hrun := run_makeS (P := P) (w := w) (kl := k1) (kc := k2) ht hi hz hb hn.1 hn.2.1 hn.2.2
  have hzr : Rep w h loc (XH X0 h loc) z zv := isV_rep _ _ hzv
  have hle : n.toNat * z.cells.length ≤ m.toNat * i.size := by rw [hsz]; exact Nat.mul_le_mul_right _ (by omega)
  obtain ⟨q1, q2⟩ := made_rep hzr hs n.toNat (m.toNat * i.size) hle
  have hlen : (List.replicate n.toNat z).length = n.toNat := by simp
  have hcells : ∀ x ∈ List.replicate n.toNat z, x.cells.length = z.cells.length := fun x hx => by rw [(List.mem_replicate.1 hx).2]
  have := OpOK.newOwn (r := (execOp a.eval o).run P w) (cap := m.toNat) W (Pushed.alloc w (madeCells zv.cells (m.toNat * i.size)) e (0, 0)) (by simp [execOp, ho, hcl.int_inv, hcc.int_inv, hrun]) ha (by rw [hlen]; omega)
    (by simp [size_madeCells, hsz]) hcells q1 (by rw [flat_length hcells, hlen, size_madeCells]; exact hle) (nofr _) q2
  simpa [hlen] using this

theorem ok_mkf {z : AV} (hpz : z.pure = true) {zv : Value} {ty e : Nat} {l c : PX} {l' c' : Operand} {i : TypeInfo} {v : AV} {h1 : AHeap} (W : Wrel w0 X0 w h loc) (S : Slots w h loc (XH X0 h loc) t a.tmps) (ho : o.op = .makeSlice ty l' c') (hl : chkX l' l = true) (hc : chkX c' c = true)
    (ht : P.underlying ty = some (.slice e)) (hi : P.info? e = some i) (hz : i.zero = some zv) (hzv : isV z zv = true) (hs : z.solid = true) (hsz : i.size = z.cells.length) (hb : i.bytes ≤ 262144)
    (hv : opH t h b (.mkf z l c) = some (v, h1)) : OpOK ((execOp a.eval o).run P w) w0 X0 w h loc v h1 := by
  have hcl := S.x hl
  have hcc := S.x hc
  simp only [opH] at hv
  split at hv
  case h_2 => cases hv
  rename_i k1 n k2 m e1 e2
  split at hv
  case isFalse => cases hv
  rename_i hn
  simp only [Option.some.injEq, Prod.mk.injEq] at hv
  obtain ⟨rfl, rfl⟩ := hv
  rw [e1] at hcl
  rw [e2] at hcc
  have hrun := run_makeS (P := P) (w := w) (kl := k1) (kc := k2) ht hi hz hb hn.1 hn.2.1 hn.2.2
  have hzr : Rep w h loc (XH X0 h loc) z zv := isV_rep _ _ hzv
  have hle : n.toNat * z.cells.length ≤ m.toNat * i.size := by rw [hsz]; exact Nat.mul_le_mul_right _ (by omega)
  obtain ⟨q1, q2⟩ := made_rep hzr hs n.toNat (m.toNat * i.size) hle
  have hlen : (List.replicate n.toNat z).length = n.toNat := by simp
  have hcells : ∀ x ∈ List.replicate n.toNat z, x.cells.length = z.cells.length := fun x hx => by rw [(List.mem_replicate.1 hx).2]
  exact OpOK.lst (cap := m.toNat) (full := n == m) W (Pushed.alloc w (madeCells zv.cells (m.toNat * i.size)) e (0, 0)) (by simp [execOp, ho, hcl.int_inv, hcc.int_inv, hrun]) (fun hf => by
      have : n = m := by simpa using hf
      rw [hlen]; omega) (by rw [hlen]; omega) hcells q1 (fun x hx => by rw [(List.mem_replicate.1 hx).2]; exact hpz) (by rw [flat_length hcells, hlen, size_madeCells]; exact hle) q2

/-- The parts of a slice literal. -/
def chkEs : List (Nat × Operand) → List (Nat × PX) → Bool
  | [], [] => true
  | (i, x) :: l, (j, y) :: m => (i == j) && chkX x y && chkEs l m
  | _, _ => false
theorem chkEs_ok {X} {s : Nat} (S : Slots w h loc X t a.tmps) : ∀ {l : List (Nat × Operand)} {m : List (Nat × PX)}, chkEs l m = true →
    ((m.map fun p => (p.1, xv t p.2)).map fun p => (p.1 * s, s, p.2)).length = (l.map fun p => (p.1, a.eval p.2)).length ∧
    ∀ k (h1 : k < ((m.map fun p => (p.1, xv t p.2)).map fun p => (p.1 * s, s, p.2)).length) (h2 : k < (l.map fun p => (p.1, a.eval p.2)).length),
      (fun i => some (i * s, s)) (l.map fun p => (p.1, a.eval p.2))[k].1 = some (((m.map fun p => (p.1, xv t p.2)).map fun p => (p.1 * s, s, p.2))[k].1, ((m.map fun p => (p.1, xv t p.2)).map fun p => (p.1 * s, s, p.2))[k].2.1) ∧
      Rep w h loc X ((m.map fun p => (p.1, xv t p.2)).map fun p => (p.1 * s, s, p.2))[k].2.2 (l.map fun p => (p.1, a.eval p.2))[k].2
  | [], [], _ => ⟨rfl, fun k h1 => by simp at h1⟩
  | (i, x) :: l, (j, y) :: m, hc => by
    simp only [chkEs, Bool.and_eq_true, beq_iff_eq] at hc
    obtain ⟨⟨rfl, hc2⟩, hc3⟩ := hc
    obtain ⟨h1, h2⟩ := chkEs_ok (s := s) S hc3
    refine ⟨by simpa using h1, fun k a b => ?_⟩
    cases k with
    | zero => exact ⟨rfl, S.x hc2⟩
    | succ k => exact h2 k (by simpa using a) (by simpa using b)
  | [], _ :: _, hc => by simp [chkEs] at hc
  | _ :: _, [], hc => by simp [chkEs] at hc

theorem run_lit {ty e n : Nat} {z : AV} {zv : Value} {ps : List (Nat × PX)} {ps' : Array (Nat × Operand)} {i : TypeInfo} {l : List AV} (W : Wrel w0 X0 w h loc) (S : Slots w h loc (XH X0 h loc) t a.tmps) (ho : o.op = .buildSlice ty n ps')
    (ht : P.underlying ty = some (.slice e)) (hi : P.info? e = some i) (hz : i.zero = some zv) (hzv : isV z zv = true) (hs : z.solid = true) (hsz : i.size = z.cells.length) (hn : n * i.size ≤ 16777216) (hps : chkEs ps'.toList ps = true)
    (hf : fillE z.cells.length (List.replicate n z) (ps.map fun p => (p.1, xv t p.2)) = some l) :
    ∃ c : Array Value, (execOp a.eval o).run P w = .ok (.value (.slice (some ⟨w.heap.size, 0, none⟩) n n)) (w.alloc (.cells c e)) ∧ l.length = n ∧ c.size = n * z.cells.length ∧ (∀ x ∈ l, x.cells.length = z.cells.length) ∧ (∀ x ∈ flat l, x.leaf = true) ∧
      (flat l).length = c.size ∧ ∀ k (hk : k < (flat l).length) (hk2 : k < c.size), Rep w h loc (XH X0 h loc) (flat l)[k] c[k] := by
  have hzr : Rep w h loc (XH X0 h loc) z zv := isV_rep _ _ hzv
  obtain ⟨q1, q2⟩ := made_rep hzr hs n (n * z.cells.length) (Nat.le_refl _)
  have hcells : ∀ x ∈ List.replicate n z, x.cells.length = z.cells.length := fun x hx => by rw [(List.mem_replicate.1 hx).2]
  obtain ⟨g1, g2, g3, g4⟩ := fillE_ok _ _ l hf hcells q1
  have hlen : (List.replicate n z).length = n := by simp
  have hz0 : RepL w h loc (XH X0 h loc) (flat (List.replicate n z)) (madeCells zv.cells (n * z.cells.length)).toList := by
    refine ⟨by rw [flat_length hcells, hlen]; simp [size_madeCells], fun k a b => ?_⟩
    have := q2 k a (by simpa using b)
    simpa [Array.getElem_toList] using this
  obtain ⟨e1, e2⟩ := chkEs_ok (s := z.cells.length) S hps
  obtain ⟨c, hc, hr⟩ := fill_ok (place := fun i => some (i * z.cells.length, z.cells.length)) _ _ _ (flat l) _ g1 hz0 e1 e2
  have hcsz : (flat l).length = c.size := by simpa using hr.1
  refine ⟨c, ?_, by rw [g2, hlen], by rw [← hcsz, flat_length g3, g2, hlen], g3, g4, hcsz, fun k a b => by have := hr.2 k a (by simpa using b); simpa [Array.getElem_toList] using this⟩
  have hnn : ¬ (16777216 < n * z.cells.length) := by rw [← hsz]; omega
  by_cases h0 : n * z.cells.length = 0
  · have hmk : madeCells zv.cells (n * z.cells.length) = #[] := by rw [h0]; simp [madeCells]
    rw [hmk] at hc
    simp [execOp, ho, Instr.buildSlice, run_underlying ht, sizeOf, typeInfo, hi, hsz, hnn, h0, newRow, Array.range_zero', hc]
  · simp [execOp, ho, Instr.buildSlice, run_underlying ht, sizeOf, typeInfo, hi, hsz, hnn, h0, newRow, zeroValue, hz]
    unfold madeCells at hc
    simp [hc]

theorem ok_bsl {ty e n : Nat} {z : AV} {zv : Value} {ps : List (Nat × PX)} {ps' : Array (Nat × Operand)} {i : TypeInfo} {v : AV} {h1 : AHeap} (W : Wrel w0 X0 w h loc) (S : Slots w h loc (XH X0 h loc) t a.tmps) (ho : o.op = .buildSlice ty n ps')
    (ht : P.underlying ty = some (.slice e)) (hi : P.info? e = some i) (hz : i.zero = some zv) (hzv : isV z zv = true) (hs : z.solid = true) (hsz : i.size = z.cells.length) (hn : n * i.size ≤ 16777216) (hps : chkEs ps'.toList ps = true)
    (hv : opH t h b (.bsl z n ps) = some (v, h1)) : OpOK ((execOp a.eval o).run P w) w0 X0 w h loc v h1 := by
  simp only [opH, Option.bind_eq_some_iff] at hv
  obtain ⟨l, hl, hv⟩ := hv
  split at hv
  case isFalse => cases hv
  rename_i hpu
  simp only [Option.some.injEq, Prod.mk.injEq] at hv
  obtain ⟨rfl, rfl⟩ := hv
  obtain ⟨c, hr, e1, e2, e3, e4, e5, e6⟩ := run_lit W S ho ht hi hz hzv hs hsz hn hps hl
  exact OpOK.lst (cap := n) W (Pushed.alloc w c e (0, 0)) (by rw [hr, e1]) (fun _ => e1.symm) (by omega) e3 e4 (pures_iff.1 hpu) (by omega) e6

theorem ok_bslm {r ty e n : Nat} {z : AV} {zv : Value} {ps : List (Nat × PX)} {ps' : Array (Nat × Operand)} {i : TypeInfo} {v : AV} {h1 : AHeap} (W : Wrel w0 X0 w h loc) (S : Slots w h loc (XH X0 h loc) t a.tmps) (ho : o.op = .buildSlice ty n ps')
    (ht : P.underlying ty = some (.slice e)) (hi : P.info? e = some i) (hz : i.zero = some zv) (hzv : isV z zv = true) (hs : z.solid = true) (hsz : i.size = z.cells.length) (hn : n * i.size ≤ 16777216) (hps : chkEs ps'.toList ps = true)
    (hv : opH t h b (.bslm r z n ps) = some (v, h1)) : OpOK ((execOp a.eval o).run P w) w0 X0 w h loc v h1 := by
  simp only [opH, Option.bind_eq_some_iff, Option.map_eq_some_iff, Prod.mk.injEq] at hv
  obtain ⟨l, hl, ⟨id, h2⟩, ha, rfl, rfl⟩ := hv
  obtain ⟨c, hr, e1, e2, e3, e4, e5, e6⟩ := run_lit W S ho ht hi hz hzv hs hsz hn hps hl
  have := OpOK.newOwn (r := (execOp a.eval o).run P w) (cap := n) W (Pushed.alloc w c e (0, 0)) (by rw [hr, e1]) ha (by omega) (by omega) e3 e4 (by omega) (nofr _) e6
  simpa [e1] using this

theorem bytes_leaf (l : List UInt8) : flat (l.map avByte) = l.map avByte ∧ (∀ x ∈ l.map avByte, x.cells.length = 1) ∧ ∀ x ∈ l.map avByte, x.leaf = true := by
  refine ⟨?_, ?_, ?_⟩
  · induction l with
    | nil => rfl
    | cons x l ih => rw [List.map_cons, flat_cons, ih]; rfl
  all_goals
    intro x hx
    obtain ⟨c, _, rfl⟩ := List.mem_map.1 hx
    rfl

theorem run_s2b {src dst e : Nat} {x' : Operand} {l : List UInt8} (ho : o.op = .convert src dst x') (hx : a.eval x' = .string ⟨l.toArray⟩) (hu : P.underlying src = some .string) (hu2 : P.underlying dst = some (.slice e)) (he : P.underlying e = some (.int .u8)) :
    ∃ (row : Array Value) (cap : Nat) (w1 : World), (execOp a.eval o).run P w = .ok (.value (.slice (some ⟨w.heap.size, 0, none⟩) l.length cap)) w1 ∧ Pushed w w1 row e (row.size, row.size + 1) ∧ l.length ≤ cap ∧ row.size = cap ∧
      ∀ k (hk : k < l.length), row[k]? = some (.int .u8 l[k].toNat) := by
  have hrun := run_bytes_of_string (P := P) w src dst e ⟨l.toArray⟩ hu hu2 he
  have hge := grownCap_ge w l.length 0 e
  rw [size_mk] at hrun
  refine ⟨_, _, _, by simp only [execOp, ho, hx, Sem.run_bind, hrun]; rfl, (Pushed.alloc w.drew _ _ _).drew, hge, ?_, fun k hk => ?_⟩
  · simp [bytesRow, size_mk]; omega
  · unfold bytesRow
    rw [Array.getElem?_append_left (by simp; exact hk)]
    simp [hk]

theorem ok_s2b {r src dst e : Nat} {x : PX} {x' : Operand} {v : AV} {h1 : AHeap} (W : Wrel w0 X0 w h loc) (S : Slots w h loc (XH X0 h loc) t a.tmps) (ho : o.op = .convert src dst x') (hx : chkX x' x = true)
    (hu : P.underlying src = some .string) (hu2 : P.underlying dst = some (.slice e)) (he : P.underlying e = some (.int .u8))
    (hv : opH t h b (.s2b r x) = some (v, h1)) : OpOK ((execOp a.eval o).run P w) w0 X0 w h loc v h1 := by
  have hc := S.x hx
  have hrep : ∀ (l : List UInt8) (row : Array Value), (∀ k (hk : k < l.length), row[k]? = some (.int .u8 l[k].toNat)) → ∀ k (hk : k < (flat (l.map avByte)).length) (hk2 : k < row.size), Rep w h loc (XH X0 h loc) (flat (l.map avByte))[k] row[k] := by
    intro l row hr k hk hk2
    obtain ⟨e1, _, _⟩ := bytes_leaf l
    have hk' : k < l.length := by rw [e1] at hk; simpa using hk
    have h2 := hr k hk'
    rw [Array.getElem?_eq_getElem hk2] at h2
    rw [Option.some.inj h2]
    simp only [e1, List.getElem_map]
    exact .int _ _
  simp only [opH] at hv
  split at hv
  · rename_i l hz
    simp only [Option.some.injEq, Prod.mk.injEq] at hv
    obtain ⟨rfl, rfl⟩ := hv
    rw [hz] at hc
    obtain ⟨row, cap, w1, hr, hp, hle, hrs, hcell⟩ := run_s2b (P := P) (w := w) ho hc.str_inv hu hu2 he
    obtain ⟨e1, e2, e3⟩ := bytes_leaf l
    exact OpOK.lst (cap := cap) (s := 1) W hp (by simpa using hr) (fun hf => by simp at hf) (by simpa using hle) e2 (by rw [e1]; exact e3) (fun x hx => by obtain ⟨c, _, rfl⟩ := List.mem_map.1 hx; rfl) (by rw [e1]; simp; omega) (hrep l row hcell)
  · rename_i l r' hz
    simp only [Option.map_eq_some_iff, Prod.mk.injEq] at hv
    obtain ⟨⟨id, h2⟩, ha, rfl, rfl⟩ := hv
    rw [hz] at hc
    obtain ⟨row, cap, w1, hr, hp, hle, hrs, hcell⟩ := run_s2b (P := P) (w := w) ho hc.str_inv hu hu2 he
    obtain ⟨e1, e2, e3⟩ := bytes_leaf l
    have := OpOK.newOwn (r := (execOp a.eval o).run P w) (cap := cap) (s := 1) W hp (by simpa using hr) ha (by simpa using hle) (by omega) e2 (by rw [e1]; exact e3) (by rw [e1]; simp; omega) (.inr ⟨Nat.le_refl _, by simp⟩) (hrep l row hcell)
    simpa using this
  · cases hv
end
end Go.Proofs.Abs

-- ---- Abs11
set_option linter.unusedSimpArgs false
set_option linter.unusedVariables false
namespace Go.Proofs.Abs
open Go.RowKit
section
variable {P : Program} {w0 : World} {X0 : Nat → Prop} {w : World} {h : AHeap} {loc : Nat → Nat} {a : Act} {t : List AV} {o : Oper} {b : Nat}

/-- 'run_storeCells_at', the row's frozen range lying outside its cells. -/
theorem run_storeCells_free (P : Program) (g o : Nat) (t : TypeId) (fz : Nat × Nat) : ∀ (vs : List Value) (i : Nat) (cur : Array Value) (w : World), w.heap[g]? = some (.cells cur t fz) → (∀ j, j < cur.size → ¬ (fz.1 ≤ j ∧ j < fz.2)) → o + i + vs.length ≤ cur.size → (∀ v ∈ vs, v.oneCell' = true) →
    (storeCells ⟨g, o, none⟩ vs i).run P w = .ok () (w.setRow g (cur.toList.take (o + i) ++ vs ++ cur.toList.drop (o + i + vs.length)).toArray)
  | [], i, cur, w, hg, _, _, _ => by
    simp only [storeCells, List.append_nil, List.length_nil, Nat.add_zero, List.take_append_drop, Array.toArray_toList]
    rw [setRow_self w g cur t fz hg]
    rfl
  | v :: rest, i, cur, w, hg, hfz, hl, h1 => by
    have hi : o + i < cur.size := by simp at hl; omega
    have hadd : (⟨g, o, none⟩ : Addr).add i = ⟨g, o + i, none⟩ := by unfold Addr.add; split <;> simp_all
    have hcell : w.cell? ⟨g, o + i, none⟩ = some cur[o + i] := by simp [World.cell?, hg, hi]
    have hfro : w.frozen? ⟨g, o + i, none⟩ = false := by
      have := hfz (o + i) hi
      obtain ⟨lo, hi'⟩ := fz
      simp only [World.frozen?, hg, Bool.and_eq_false_iff, decide_eq_false_iff_not]
      simp only at this
      omega
    have hst : (store ((⟨g, o, none⟩ : Addr).add i) v).run P w = .ok () (w.setRow g (cur.setIfInBounds (o + i) v)) := by
      rw [hadd, run_store P w _ v _ (h1 v (by simp)), hcell]
      simp [hfro, setCell_eq_setRow w g (o + i) cur t fz v hg]
    have ih := run_storeCells_free P g o t fz rest (i + 1) (cur.setIfInBounds (o + i) v) (w.setRow g (cur.setIfInBounds (o + i) v)) (setRow_heap w g cur _ t _ hg) (by simpa using hfz) (by simp at hl ⊢; omega) (fun x hx => h1 x (by simp [hx]))
    simp only [storeCells, Sem.run_bind, hst, Result.andThen_ok, ih, setRow_setRow]
    congr 3
    have e := list_seg_step cur.toList (o + i) v rest (by simp at hl ⊢; omega)
    simpa [Array.toList_setIfInBounds, Nat.add_assoc] using e

theorem List.set_eq_take_append_cons_drop' {α : Type} {l : List α} {i : Nat} {x : α} (h : i < l.length) : l.set i x = l.take i ++ [x] ++ l.drop (i + 1) := by
  rw [List.set_eq_take_append_cons_drop, if_pos h]
  simp

/-- A row that begins with what these are. -/
def RepP (w : World) (h : AHeap) (loc : Nat → Nat) (X : Nat → Prop) (l : List AV) (row : List Value) : Prop := ∀ (i : Nat) x, l[i]? = some x → ∃ v, row[i]? = some v ∧ Rep w h loc X x v

theorem RepP.splice {X} {l vs : List AV} {row vs' : List Value} (hl : RepP w h loc X l row) (hv : RepL w h loc X vs vs') (p : Nat) (hp : p ≤ l.length) : RepP w h loc X (l.take p ++ vs ++ l.drop (p + vs.length)) (row.take p ++ vs' ++ row.drop (p + vs.length)) := by
  have hrl : p ≤ row.length := by
    rcases Nat.eq_zero_or_pos p with h0 | h0
    · omega
    · obtain ⟨v, hv, _⟩ := hl (p - 1) (l[p - 1]'(by omega)) (by simp)
      have := (List.getElem?_eq_some_iff.1 hv).1
      omega
  have hvl := hv.1
  intro i x hx
  rw [List.append_assoc] at hx ⊢
  by_cases h1 : i < p
  · rw [List.getElem?_append_left (by simp; omega), List.getElem?_take_of_lt h1] at hx
    rw [List.getElem?_append_left (by simp; omega), List.getElem?_take_of_lt h1]
    exact hl i x hx
  · rw [List.getElem?_append_right (by simp; omega)] at hx ⊢
    have e1 : i - (l.take p).length = i - p := by simp; omega
    have e2 : i - (row.take p).length = i - p := by simp; omega
    rw [e1] at hx
    rw [e2]
    by_cases h2 : i - p < vs.length
    · rw [List.getElem?_append_left h2] at hx
      rw [List.getElem?_append_left (by omega)]
      obtain ⟨_, rfl⟩ := List.getElem?_eq_some_iff.1 hx
      exact ⟨vs'[i - p], by simp, hv.2 _ h2 (by omega)⟩
    · rw [List.getElem?_append_right (by omega), List.getElem?_drop] at hx
      rw [List.getElem?_append_right (by omega), List.getElem?_drop, ← hvl]
      exact hl _ x hx

theorem RepP.cut {X} {l vs : List AV} {row vs' : List Value} (hl : RepP w h loc X l row) (hv : RepL w h loc X vs vs') (p : Nat) (hp : p ≤ l.length) : RepP w h loc X (l.take p ++ vs) (row.take p ++ vs' ++ row.drop (p + vs.length)) := by
  have := hl.splice hv p hp
  intro i x hx
  exact this i x (by rw [List.getElem?_append_left ((List.getElem?_eq_some_iff.1 hx).1)]; exact hx)

theorem BlkAt.repP {B X p s es} (H : BlkAt B w h loc X p s es) : ∃ (row : Array Value) (e : TypeId) (fr : Nat × Nat), w.heap[p]? = some (.cells row e fr) ∧ FrOK row.size fr ∧ (flat es).length ≤ row.size ∧ RepP w h loc X (flat es) row.toList := by
  obtain ⟨row, e, fr, hr, hf, hl, hv⟩ := H.row
  refine ⟨row, e, fr, hr, hf, hl, fun i x hx => ?_⟩
  obtain ⟨hi, rfl⟩ := List.getElem?_eq_some_iff.1 hx
  obtain ⟨v, h1, h2⟩ := hv i hi
  exact ⟨v, by simpa using h1, h2⟩

/-- A block of the abstract heap, and its row, written anew in place. -/
theorem Wrel.setBlk (W : Wrel w0 X0 w h loc) {id s v v1 : Nat} {es es1 : List AV} (hid : h[id]? = some ⟨.live, s, v, es⟩) {row row1 : Array Value} {e : TypeId} {fr : Nat × Nat} (hrow : w.heap[loc id]? = some (.cells row e fr)) (hsz : row1.size = row.size)
    (hv : v ≤ v1) (hvl : v1 = v → es1.length = es.length) (hs : ∀ x ∈ es1, x.cells.length = s) (hlf : ∀ x ∈ flat es1, x.leaf = true) (hl : (flat es1).length ≤ row.size) (hrep : RepP w h loc (XH X0 h loc) (flat es1) row1.toList) :
    Keeps w h loc (XH X0 h loc) (w.setRow (loc id) row1) (h.set id ⟨.live, s, v1, es1⟩) loc (XH X0 (h.set id ⟨.live, s, v1, es1⟩) loc) ∧ Wrel w0 X0 (w.setRow (loc id) row1) (h.set id ⟨.live, s, v1, es1⟩) loc := by
  have hlt := (List.getElem?_eq_some_iff.1 hid).1
  have hat : BlkAt _ _ _ _ _ (loc id) s es := W.heap.blk id _ hid rfl
  obtain ⟨row', e', fr', hrow', hfr, _, _⟩ := hat.row
  rw [hrow] at hrow'
  cases hrow'
  have hheap := setRow_heap w (loc id) row row1 e fr hrow
  have c : Chg w0.heap.size w h loc (w.setRow (loc id) row1) (h.set id ⟨.live, s, v1, es1⟩) loc id ⟨.live, s, v1, es1⟩ :=
    { size := by simp
      blk := fun b hb hn => setRow_other w (loc id) b row1 (hn _ hid rfl)
      oth := fun j hj => by rw [List.getElem?_set_ne (by omega)]
      at1 := by rw [List.getElem?_set_self hlt]
      pl := fun _ _ => rfl
      old := .inr ⟨_, hid, rfl, rfl, by simp, hv, fun _ he => ⟨rfl, hvl he, fun e2 z hz => by simp [World.shape?, hrow] at hz; simp [World.shape?, hheap, hsz]; exact hz⟩⟩
      new := fun _ => .inl ⟨rfl, _, hid, rfl⟩ }
  have K := c.keeps W.heap
  refine ⟨K, ⟨?_, W.x1 K, c.heap W.heap (fun _ => ⟨hat.le, ⟨row1, e, fr, hheap, by rw [hsz]; exact hfr, by rw [hsz]; exact hl, fun i hi => ?_⟩, hs, hlf⟩)⟩⟩
  · have hb := W.below
    exact ⟨hb.os, hb.tape, hb.output, by simpa using hb.size, fun k hk => by rw [setRow_other w (loc id) k row1 (by have := hat.le; omega)]; exact hb.block k hk⟩
  · obtain ⟨u, h1, h2⟩ := hrep i _ (List.getElem?_eq_getElem hi)
    exact ⟨u, by simpa using h1, h2.keep K⟩

/-- A block dies: its place is frozen from here on. -/
theorem Wrel.kill (W : Wrel w0 X0 w h loc) {id : Nat} {k : Blk} (hid : h[id]? = some k) (hl : k.st = .live) :
    Keeps w h loc (XH X0 h loc) w (h.set id { k with st := .dead }) loc (XH X0 (h.set id { k with st := .dead }) loc) ∧ Wrel w0 X0 w (h.set id { k with st := .dead }) loc ∧ ¬ XH X0 (h.set id { k with st := .dead }) loc (loc id) := by
  have hlt := (List.getElem?_eq_some_iff.1 hid).1
  have c : Chg w0.heap.size w h loc w (h.set id { k with st := .dead }) loc id { k with st := .dead } :=
    { size := Nat.le_refl _
      blk := fun _ _ _ => rfl
      oth := fun j hj => by rw [List.getElem?_set_ne (by omega)]
      at1 := by rw [List.getElem?_set_self hlt]
      pl := fun _ _ => rfl
      old := .inr ⟨_, hid, hl, rfl, by simp, Nat.le_refl _, fun hd => by simp at hd⟩
      new := fun hd => by simp at hd }
  refine ⟨c.keeps W.heap, ⟨W.below, W.x1 (c.keeps W.heap), c.heap W.heap (fun hd => by simp at hd)⟩, fun hx => ?_⟩
  rcases hx with hx | ⟨j, k', hk', hl', he⟩
  · exact (W.x0 _ hx).2 ⟨id, k, hid, hl, rfl⟩
  · by_cases hj : j = id
    · subst hj
      rw [List.getElem?_set_self hlt] at hk'
      simp at hk'
      subst hk'
      simp at hl'
    · rw [List.getElem?_set_ne (by omega)] at hk'
      exact hj (W.heap.inj _ _ _ _ hk' hid hl' hl he)

theorem flat_setc {s idx off : Nat} {es vs : List AV} (hs : ∀ x ∈ es, x.cells.length = s) (hlf : ∀ x ∈ flat es, x.leaf = true) (hi : idx < es.length) (ho : off + vs.length ≤ es[idx].cells.length) (hvl : ∀ x ∈ vs, x.leaf = true) :
    flat (es.set idx (setc es[idx] off vs)) = (flat es).take (idx * s + off) ++ vs ++ (flat es).drop (idx * s + off + vs.length) ∧ (∀ x ∈ es.set idx (setc es[idx] off vs), x.cells.length = s) := by
  have he := hs _ (List.getElem_mem hi)
  have hc : (setc es[idx] off vs).cells = es[idx].cells.take off ++ vs ++ es[idx].cells.drop (off + vs.length) := by
    generalize hx : es[idx] = x at ho
    cases x with
    | agg l => simp [setc, AV.cells]
    | _ =>
      simp only [AV.cells, List.length_cons, List.length_nil] at ho
      cases vs with
      | nil =>
        simp only [setc, List.headD, AV.cells, List.append_nil, List.length_nil, Nat.add_zero, List.take_append_drop]
      | cons v vs =>
        have h1 : off = 0 := by simp at ho; omega
        have h2 : vs = [] := by simp at ho; exact List.eq_nil_of_length_eq_zero (by omega)
        subst h1 h2
        have hv := hvl v (by simp)
        simp only [setc, List.headD, AV.cells]
        cases v <;> simp [AV.leaf, AV.cells] at hv ⊢
  have hcl : (setc es[idx] off vs).cells.length = s := by rw [hc]; simp; omega
  refine ⟨?_, fun x hx => ?_⟩
  · rw [flat_set hcl hs hi, hc]
    have hfl : flat es = (flat es).take (idx * s) ++ (es[idx].cells ++ (flat es).drop (idx * s + s)) := by
      have := flat_set he hs hi
      rw [List.set_getElem_self] at this
      rw [← List.append_assoc]; exact this
    have hpre : ((flat es).take (idx * s)).length = idx * s := by
      rw [List.length_take, flat_length hs]
      have : (idx + 1) * s ≤ es.length * s := Nat.mul_le_mul_right _ hi
      rw [Nat.add_mul] at this
      omega
    generalize (flat es).take (idx * s) = A at hfl hpre
    generalize (flat es).drop (idx * s + s) = C at hfl
    rw [hfl]
    have e1 : (A ++ (es[idx].cells ++ C)).take (idx * s + off) = A ++ es[idx].cells.take off := by
      rw [← hpre, List.take_length_add_append, List.take_append_of_le_length (by omega)]
    have e2 : (A ++ (es[idx].cells ++ C)).drop (idx * s + off + vs.length) = es[idx].cells.drop (off + vs.length) ++ C := by
      rw [← hpre, Nat.add_assoc, List.drop_length_add_append, List.drop_append_of_le_length (by omega)]
    rw [e1, e2]
    simp
  · rcases List.mem_or_eq_of_mem_set hx with hx | rfl
    · exact hs x hx
    · exact hcl

theorem Rep.ptr_inv {X} {id n idx off : Nat} {v : Value} (hr : Rep w h loc X (.ptr id n idx off) v) : ∃ ad, v = .pointer (some ad) ∧ begun h id n ∧ (good h id n → ad = ⟨loc id, idx * sizeAt h id + off, none⟩) := by
  cases hr with
  | ptr id n idx off ad hb hg => exact ⟨ad, rfl, hb, hg⟩

/-- What a pointer of the abstract heap leads to. -/
theorem Wrel.cell_at (W : Wrel w0 X0 w h loc) {id n idx off : Nat} {pv : Value} (hr : Rep w h loc (XH X0 h loc) (.ptr id n idx off) pv) {y : AV} {l : List AV} (hl : rdp h id n idx off = some (y :: l)) :
    ∃ ad u, pv = .pointer (some ad) ∧ w.cell? ad = some u ∧ Rep w h loc (XH X0 h loc) y u ∧ w.frozen? ad = false := by
  obtain ⟨ad, rfl, hb, hg⟩ := hr.ptr_inv
  unfold rdp at hl
  split at hl
  case h_2 => cases hl
  rename_i s v es hid
  split at hl
  case isFalse => cases hl
  rename_i hver
  subst hver
  simp only [Option.map_eq_some_iff] at hl
  obtain ⟨e, he, hd⟩ := hl
  obtain rfl := hg ⟨_, hid, rfl, rfl⟩
  have hat : BlkAt _ _ _ _ _ (loc id) s es := W.heap.blk id _ hid rfl
  obtain ⟨row, et, fr, hrow, hfr, hlen, hval⟩ := hat.row
  obtain ⟨hi, rfl⟩ := List.getElem?_eq_some_iff.1 he
  have hs : es[idx].cells.length = s := hat.s _ (List.getElem_mem hi)
  have hsz : sizeAt h id = s := by simp [sizeAt, hid]
  have hol : off < es[idx].cells.length := by
    rcases Nat.lt_or_ge off es[idx].cells.length with h | h
    · exact h
    · rw [List.drop_eq_nil_of_le h] at hd; cases hd
  have hlt : idx * s + off < (flat es).length := by
    rw [flat_length hat.s]
    have : (idx + 1) * s ≤ es.length * s := Nat.mul_le_mul_right _ hi
    rw [Nat.add_mul] at this
    omega
  obtain ⟨u, hu1, hu2⟩ := hval _ hlt
  have hfg := flat_get hat.s hi (j := off) (by omega)
  rw [List.getElem?_eq_getElem hlt] at hfg
  have hy : y = (flat es)[idx * s + off] := by
    have h3 : (es[idx].cells.drop off)[0]? = some y := by rw [hd]; rfl
    rw [List.getElem?_drop, Nat.add_zero, ← hfg] at h3
    exact (Option.some.inj h3).symm
  refine ⟨_, u, rfl, ?_, hy ▸ hu2, ?_⟩
  · rw [hsz]
    simp [World.cell?, hrow, hu1]
  · rw [hsz]
    have h4 := (Array.getElem?_eq_some_iff.1 hu1).1
    have := hfr.free _ h4
    obtain ⟨lo, hi'⟩ := fr
    simp only [World.frozen?, hrow, Bool.and_eq_false_iff, decide_eq_false_iff_not]
    simp only at this
    omega

/-- A number stored through a pointer. -/
theorem Wrel.set_at (W : Wrel w0 X0 w h loc) {id n idx off : Nat} {pv : Value} (hr : Rep w h loc (XH X0 h loc) (.ptr id n idx off) pv) {y : AV} {l : List AV} (hl : rdp h id n idx off = some (y :: l)) {k : IntKind} {z : Int} {h1 : AHeap} (hw : wrp h id n idx off [.int k z] = some h1) :
    ∃ ad u, pv = .pointer (some ad) ∧ w.cell? ad = some u ∧ Rep w h loc (XH X0 h loc) y u ∧ w.frozen? ad = false ∧ Keeps w h loc (XH X0 h loc) (w.setCell ad (.int k z)) h1 loc (XH X0 h1 loc) ∧ Wrel w0 X0 (w.setCell ad (.int k z)) h1 loc := by
  obtain ⟨ad, u, hpv, hcell, hru, hfz⟩ := W.cell_at hr hl
  refine ⟨ad, u, hpv, hcell, hru, hfz, ?_⟩
  subst hpv
  unfold wrp at hw
  split at hw
  case h_2 => cases hw
  rename_i s v es hid
  split at hw
  case isFalse => cases hw
  rename_i hver
  subst hver
  split at hw
  case h_2 => cases hw
  rename_i e he
  split at hw
  case isFalse => cases hw
  rename_i hle
  simp only [Option.some.injEq] at hw
  subst hw
  obtain ⟨hlt, rfl⟩ := List.getElem?_eq_some_iff.1 he
  have hat : BlkAt _ _ _ _ _ (loc id) s es := W.heap.blk id _ hid rfl
  obtain ⟨row, et, fr, hrow, hfr, hlen, hrp⟩ := hat.repP
  obtain ⟨ad', hxe, hb, hg⟩ := hr.ptr_inv
  obtain rfl : ad = ad' := by simpa using hxe
  obtain rfl := hg ⟨_, hid, rfl, rfl⟩
  have hsa : sizeAt h id = s := by simp [sizeAt, hid]
  rw [hsa]
  have hvl : ∀ x ∈ [AV.int k z], x.leaf = true := fun x hx => by rw [List.mem_singleton.1 hx]; rfl
  obtain ⟨f1, f2⟩ := flat_setc hat.s hat.leaf hlt hle hvl
  have hin : idx * s + off + 1 ≤ (flat es).length := by
    rw [flat_length hat.s]
    have h1 : (idx + 1) * s ≤ es.length * s := Nat.mul_le_mul_right _ hlt
    rw [Nat.add_mul] at h1
    have := hat.s _ (List.getElem_mem hlt)
    simp only [List.length_cons, List.length_nil] at hle
    omega
  have hcl : RepL w h loc (XH X0 h loc) [.int k z] [.int k z] := ⟨rfl, fun i h1 h2 => by
    have : i = 0 := by simp at h1; omega
    subst this
    exact .int k z⟩
  have hsp := hrp.splice hcl (idx * s + off) (by omega)
  have hsc : w.setCell ⟨loc id, idx * s + off, none⟩ (.int k z) = w.setRow (loc id) (row.setIfInBounds (idx * s + off) (.int k z)) := setCell_eq_setRow w (loc id) (idx * s + off) row et fr _ hrow
  rw [hsc]
  have hrow1 : (row.setIfInBounds (idx * s + off) (.int k z)).toList = row.toList.take (idx * s + off) ++ [Value.int k z] ++ row.toList.drop (idx * s + off + 1) := by
    rw [Array.toList_setIfInBounds]
    exact List.set_eq_take_append_cons_drop' (by simp; omega)
  refine W.setBlk hid hrow (by simp) (Nat.le_refl _) (fun _ => by simp) f2 (fun x hx => ?_) ?_ (by rw [f1, hrow1]; exact hsp)
  · rw [f1] at hx
    simp only [List.mem_append] at hx
    rcases hx with (hx | hx) | hx
    · exact hat.leaf x (List.mem_of_mem_take hx)
    · exact hvl x hx
    · exact hat.leaf x (List.mem_of_mem_drop hx)
  · rw [f1]; simp; omega

/-- A store through a pointer of the abstract heap. -/
theorem run_st {ty n id ver idx off : Nat} {x' v' : Operand} {va : AV} {i : TypeInfo} {h1 : AHeap} (W : Wrel w0 X0 w h loc) (ho : o.op = .store ty x' v') (hx : Rep w h loc (XH X0 h loc) (.ptr id ver idx off) (a.eval x')) (hv : Rep w h loc (XH X0 h loc) va (a.eval v'))
    (hi : P.info? ty = some i) (hsz : i.size = n) (hn : va.cells.length = n) (hsol : va.solid = true) (hw : wrp h id ver idx off va.cells = some h1) :
    ∃ w1, (execOp a.eval o).run P w = .ok .skip w1 ∧ Keeps w h loc (XH X0 h loc) w1 h1 loc (XH X0 h1 loc) ∧ Wrel w0 X0 w1 h1 loc := by
  unfold wrp at hw
  split at hw
  case h_2 => cases hw
  rename_i s v es hid
  split at hw
  case isFalse => cases hw
  rename_i hver
  subst hver
  split at hw
  case h_2 => cases hw
  rename_i e he
  split at hw
  case isFalse => cases hw
  rename_i hle
  simp only [Option.some.injEq] at hw
  subst hw
  obtain ⟨hlt, rfl⟩ := List.getElem?_eq_some_iff.1 he
  have hat : BlkAt _ _ _ _ _ (loc id) s es := W.heap.blk id _ hid rfl
  obtain ⟨row, et, fr, hrow, hfr, hlen, hrp⟩ := hat.repP
  obtain ⟨ad, hxe, hb, hg⟩ := hx.ptr_inv
  obtain rfl := hg ⟨_, hid, rfl, rfl⟩
  have hsa : sizeAt h id = s := by simp [sizeAt, hid]
  rw [hsa] at hxe
  have hvl := (hv.cells hsol).2.1
  obtain ⟨f1, f2⟩ := flat_setc hat.s hat.leaf hlt hle hvl
  have hcl := RepL.cells hv hsol
  have hvn : (a.eval v').cells.size = n := by have := hcl.1; simp at this; omega
  have hin : idx * s + off + va.cells.length ≤ (flat es).length := by
    rw [flat_length hat.s]
    have h1 : (idx + 1) * s ≤ es.length * s := Nat.mul_le_mul_right _ hlt
    rw [Nat.add_mul] at h1
    have := hat.s _ (List.getElem_mem hlt)
    omega
  have hone : ∀ u ∈ (a.eval v').cells.toList, u.oneCell' = true := by
    intro u hu
    obtain ⟨k, hk, rfl⟩ := List.getElem_of_mem hu
    exact (hcl.2 k (by rw [hcl.1]; exact hk) hk).leaf (hvl _ (List.getElem_mem _))
  have hrun := run_storeCells_free P (loc id) (idx * s + off) et fr (a.eval v').cells.toList 0 row w hrow hfr.free (by simp; omega) hone
  simp only [Nat.add_zero] at hrun
  have hsp := hrp.splice hcl (idx * s + off) (by omega)
  have hlv : (a.eval v').cells.toList.length = va.cells.length := hcl.1.symm
  rw [hlv] at hrun
  refine ⟨_, ?_, W.setBlk hid hrow ?_ (Nat.le_refl _) (fun _ => by simp) f2 (fun x hx => ?_) ?_ (by rw [f1]; simpa using hsp)⟩
  · simp [execOp, ho, Instr.storeAt, hxe, Instr.sureAddr, storeVar, sizeOf, typeInfo, hi, hsz, hvn, hrun]
  · simp; omega
  · rw [f1] at hx
    simp only [List.mem_append] at hx
    rcases hx with (hx | hx) | hx
    · exact hat.leaf x (List.mem_of_mem_take hx)
    · exact hvl x hx
    · exact hat.leaf x (List.mem_of_mem_drop hx)
  · rw [f1]; simp; omega

theorem ok_st {n ty : Nat} {x v : PX} {x' v' : Operand} {i : TypeInfo} {u : AV} {h1 : AHeap} (W : Wrel w0 X0 w h loc) (S : Slots w h loc (XH X0 h loc) t a.tmps) (ho : o.op = .store ty x' v') (hx : chkX x' x = true) (hy : chkX v' v = true)
    (hi : P.info? ty = some i) (hsz : i.size = n) (hv : opH t h b (.st n x v) = some (u, h1)) : OpOK ((execOp a.eval o).run P w) w0 X0 w h loc u h1 := by
  have hc := S.x hx
  simp only [opH] at hv
  split at hv
  case h_2 => cases hv
  rename_i id ver idx off hz
  split at hv
  case isFalse => cases hv
  rename_i hn
  simp only [Option.map_eq_some_iff, Prod.mk.injEq] at hv
  obtain ⟨h2, hw, rfl, rfl⟩ := hv
  rw [hz] at hc
  obtain ⟨w1, hr, K, W1⟩ := run_st W ho hc (S.x hy) hi hsz hn.1 hn.2 hw
  exact ⟨_, undef, w1, loc, hr, .inr ⟨rfl, rfl⟩, K, W1, rep_undef⟩
end
end Go.Proofs.Abs

-- ---- Abs12
set_option linter.unusedSimpArgs false
set_option linter.unusedVariables false
namespace Go.Proofs.Abs
open Go.RowKit
section
variable {P : Program} {w0 : World} {X0 : Nat → Prop} {w : World} {h : AHeap} {loc : Nat → Nat} {a : Act} {t : List AV} {o : Oper} {b : Nat}

theorem RepL.of_val {X} {l : List AV} (val : Nat → Value) (hr : ∀ k (hk : k < l.length), Rep w h loc X l[k] (val k)) : RepL w h loc X l ((List.range l.length).map val) :=
  ⟨by simp, fun i h1 h2 => by simpa using hr i h1⟩

/-- What append and copy read of their second operand. -/
theorem run_elems {s : Nat} {y : AV} {y' : Value} {ys : List AV} (W : Wrel w0 X0 w h loc) (hy : Rep w h loc (XH X0 h loc) y y') (he : elemsOf h s y = some ys) :
    (∀ w', (Builtin.lenOf y').run P w' = .ok ys.length w') ∧ (∀ x ∈ ys, x.cells.length = s) ∧ (∀ x ∈ flat ys, x.leaf = true) ∧
    ∀ n, n ≤ ys.length → ∃ c : Array Value, (∀ w', w'.heap = w.heap → (Builtin.firstCells s n y').run P w' = .ok c w') ∧ RepL w h loc (XH X0 h loc) ((flat ys).take (n * s)) c.toList := by
  have hcellw : ∀ (w' : World) ad, w'.heap = w.heap → w'.cell? ad = w.cell? ad := fun w' ad hw => by simp [World.cell?, hw]
  unfold elemsOf at he
  split at he
  · rename_i f l
    split at he
    case isFalse => cases he
    rename_i hh
    simp only [Option.some.injEq] at he
    subst he
    obtain ⟨ad, cap, rfl, hcap, hfull, hne⟩ := hy.lst_inv
    by_cases h0 : l = []
    · subst h0
      refine ⟨fun _ => rfl, by simp, by simp [flat], fun n hn => ⟨#[], fun w' _ => ?_, by simp [flat, RepL]⟩⟩
      have hn0 : n = 0 := by simpa using hn
      subst hn0
      cases ad <;> simp [Builtin.firstCells, loadCells, loadCellsFrom]
    · obtain ⟨s', bk, o0, val, rfl, hX, hb, hs', hlf, hpu, hcell, hr⟩ := hne h0
      have hss : s' = s := by
        cases l with
        | nil => exact absurd rfl h0
        | cons y l => simp [hds] at hh; rw [← hh]; exact (hs' y (by simp)).symm
      subst hss
      refine ⟨fun _ => rfl, hs', hlf, fun n hn => ?_⟩
      have hle : n * s' ≤ (flat l).length := by rw [flat_length hs']; exact Nat.mul_le_mul_right _ hn
      refine ⟨((List.range (n * s')).map val).toArray, fun w' hw => ?_, ?_⟩
      · have := run_loadCells (P := P) w' ⟨bk, o0, none⟩ (n * s') val (fun j hj => by rw [Addr.add_mid, hcellw w' _ hw]; exact hcell j (by omega))
        simpa [Builtin.firstCells] using this
      · have := (RepL.of_val val hr).take (n * s')
        simpa [← List.map_take, List.take_range, Nat.min_eq_left hle] using this
  · rename_i id n off len
    simp only [Option.bind_eq_some_iff] at he
    obtain ⟨l, hl, he⟩ := he
    split at he
    case isFalse => cases he
    rename_i hh
    simp only [Option.some.injEq] at he
    subst he
    obtain ⟨s1, es, row, et, fr, hid, hle, hle2, hlen, hsl, hlf, hrow, hcv⟩ := win_at W hl
    obtain ⟨ad, cap, rfl, hcap, hb, hg⟩ := hy.own_inv
    obtain ⟨rfl, _⟩ := hg ⟨_, hid, rfl, rfl⟩
    have hsa : sizeAt h id = s1 := by simp [sizeAt, hid]
    rw [hsa]
    refine ⟨fun _ => by rw [hlen]; rfl, ?_, hlf, fun m hm => ?_⟩
    · intro x hx
      cases l with
      | nil => simp at hx
      | cons y l => simp [hds] at hh; rw [hsl x hx, ← hh]; exact (hsl y (by simp)).symm
    · by_cases h0 : l = []
      · subst h0
        have hm0 : m = 0 := by simpa using hm
        subst hm0
        exact ⟨#[], fun w' _ => by simp [Builtin.firstCells, loadCells, loadCellsFrom], by simp [flat, RepL]⟩
      · have hss : s1 = s := by
          cases l with
          | nil => exact absurd rfl h0
          | cons y l => simp [hds] at hh; rw [← hh]; exact (hsl y (by simp)).symm
        subst hss
        have hle3 : m * s1 ≤ (flat l).length := by rw [flat_length hsl]; exact Nat.mul_le_mul_right _ hm
        refine ⟨((List.range (m * s1)).map fun k => row.getD (off * s1 + k) undef).toArray, fun w' hw => ?_, ?_⟩
        · have := run_loadCells (P := P) w' ⟨loc id, off * s1, none⟩ (m * s1) (fun k => row.getD (off * s1 + k) undef) (fun j hj => by rw [Addr.add_mid, hcellw w' _ hw]; exact (hcv j (by omega)).1)
          simpa [Builtin.firstCells] using this
        · have := (RepL.of_val (fun k => row.getD (off * s1 + k) undef) (fun k hk => (hcv k hk).2)).take (m * s1)
          simpa [← List.map_take, List.take_range, Nat.min_eq_left hle3] using this
  · rename_i l
    split at he
    case isFalse => cases he
    rename_i hs
    subst hs
    simp only [Option.some.injEq] at he
    subst he
    obtain rfl := hy.str_inv
    obtain ⟨e1, e2, e3⟩ := bytes_leaf l
    refine ⟨fun _ => by simp [Builtin.lenOf, size_mk], e2, by rw [e1]; exact e3, fun n hn => ?_⟩
    refine ⟨((l.take n).map fun c => Value.int .u8 c.toNat).toArray, fun w' _ => ?_, ?_⟩
    · simp only [Builtin.firstCells]
      have : ((ByteArray.mk l.toArray).extract 0 n).data = (l.take n).toArray := by
        simp [ByteArray.data_extract]
      rw [this]
      simp
    · rw [e1, Nat.mul_one, ← List.map_take]
      refine ⟨by simp, fun i h1 h2 => ?_⟩
      simp only [List.getElem_map]
      exact .int _ _
  · cases he

set_option maxHeartbeats 800000 in
/-- append, its operands read. -/
theorem run_append_gen {tS tX ty e sLen sCap n : Nat} {base : Option Addr} {y' : Value} {dx : TypeDesc} {i : TypeInfo} {zv : Value} {c : Array Value} (hS : P.underlying tS = some (.slice e)) (hX : P.underlying tX = some dx) (hdx : dx = .string ∨ ∃ e', dx = .slice e') (hi : P.info? e = some i) (hz : i.zero = some zv)
    (hlen : ∀ w', (Builtin.lenOf y').run P w' = .ok n w') (hfc : ∀ w', w'.heap = w.heap → (Builtin.firstCells i.size n y').run P w' = .ok c w') :
    (sLen + n ≤ sCap → ∀ w1, (base = none → w1 = w) → (∀ ad, base = some ad → (storeCells (ad.add (sLen * i.size)) c.toList).run P w = .ok () w1) → (Builtin.append_ #[tS, tX] ty #[.slice base sLen sCap, y']).run P w = .ok (.slice base (sLen + n) sCap) w1) ∧
    (sCap < sLen + n → (sLen + n) ≤ most → i.bytes ≤ 131072 → ∀ old : Array Value, (∀ w', w'.heap = w.heap → (Builtin.firstCells i.size sLen (.slice base sLen sCap)).run P w' = .ok old w') →
      (Builtin.append_ #[tS, tX] ty #[.slice base sLen sCap, y']).run P w = .ok (.slice (some ⟨w.heap.size, 0, none⟩) (sLen + n) (grownCap w (sLen + n) sCap e))
        (w.drew.alloc (.cells (old ++ c ++ Builtin.zeroCells zv.cells (grownCap w (sLen + n) sCap e - (sLen + n))) e))) := by
  refine ⟨fun hle w1 hn hst => ?_, fun hlt hm hb old hold => ?_⟩
  · cases base with
    | none =>
      obtain rfl := hn rfl
      rcases hdx with rfl | ⟨e', rfl⟩ <;> simp [Builtin.append_, run_underlying hS, run_underlying hX, sizeOf, typeInfo, hi, hlen, hle, hfc w1 rfl]
    | some ad =>
      have := hst ad rfl
      rcases hdx with rfl | ⟨e', rfl⟩ <;> simp [Builtin.append_, run_underlying hS, run_underlying hX, sizeOf, typeInfo, hi, hlen, hle, hfc w rfl, this]
  · have hn : ¬ (sLen + n ≤ sCap) := by omega
    have h63' : ¬ (9223372036854775807 < ((sLen : Int) + (n : Int))) := by unfold most at hm; omega
    have hfit : Builtin.nextslicecap (sLen + n) sCap * i.bytes ≤ 281474976710656 := growslice_fits hlt (by
      have : (sLen + n) * i.bytes ≤ 1073741824 * 131072 := Nat.mul_le_mul hm hb
      omega)
    have h48' : ¬ (281474976710656 < Builtin.nextslicecap (sLen + n) sCap * i.bytes) := by omega
    have h1 := hfc w.drew rfl
    have h2 := hold w.drew rfl
    rcases hdx with rfl | ⟨e', rfl⟩ <;> simp [Builtin.append_, run_underlying hS, run_underlying hX, sizeOf, typeInfo, zeroValue, hi, hz, hlen, hn, h63', h48', Question.forced, h1, h2, newRow, grownCap]

/-- A block of the abstract heap moves to a new place. -/
theorem Wrel.moveBlk (W : Wrel w0 X0 w h loc) {id s v v1 : Nat} {es es1 : List AV} (hid : h[id]? = some ⟨.live, s, v, es⟩) {w1 : World} {row1 : Array Value} {e : TypeId} {fr : Nat × Nat} (hp : Pushed w w1 row1 e fr)
    (hv : v < v1) (hs : ∀ x ∈ es1, x.cells.length = s) (hlf : ∀ x ∈ flat es1, x.leaf = true) (hl : (flat es1).length ≤ row1.size) (hfr : FrOK row1.size fr) (hrep : RepP w h loc (XH X0 h loc) (flat es1) row1.toList) :
    let loc1 := fun j => if j = id then w.heap.size else loc j
    Keeps w h loc (XH X0 h loc) w1 (h.set id ⟨.live, s, v1, es1⟩) loc1 (XH X0 (h.set id ⟨.live, s, v1, es1⟩) loc1) ∧ Wrel w0 X0 w1 (h.set id ⟨.live, s, v1, es1⟩) loc1 := by
  intro loc1
  have hlt := (List.getElem?_eq_some_iff.1 hid).1
  have hloc : loc1 id = w.heap.size := by simp [loc1]
  have c : Chg w0.heap.size w h loc w1 (h.set id ⟨.live, s, v1, es1⟩) loc1 id ⟨.live, s, v1, es1⟩ :=
    { size := hp.old.1
      blk := fun b hb _ => hp.old.2 b hb
      oth := fun j hj => by rw [List.getElem?_set_ne (by omega)]
      at1 := by rw [List.getElem?_set_self hlt]
      pl := fun j hj => by simp [loc1, hj]
      old := .inr ⟨_, hid, rfl, rfl, by simp, Nat.le_of_lt hv, fun _ he => by simp at he; omega⟩
      new := fun _ => .inr (by rw [hloc]; exact Nat.le_refl _) }
  have K := c.keeps W.heap
  refine ⟨K, ⟨Below.same' W.below W.below.size hp.old.1 hp.old.2 hp.os hp.tape hp.output, W.x1 K, c.heap W.heap (fun _ => ⟨by rw [hloc]; exact W.below.size, ⟨row1, e, fr, by rw [hloc]; exact hp.new, hfr, hl, fun i hi => ?_⟩, hs, hlf⟩)⟩⟩
  obtain ⟨u, h1, h2⟩ := hrep i _ (List.getElem?_eq_getElem hi)
  exact ⟨u, by simpa using h1, h2.keep K⟩

theorem RepL.repP {X} {l : List AV} {c : List Value} (hr : RepL w h loc X l c) (more : List Value) : RepP w h loc X l (c ++ more) := by
  intro i x hx
  obtain ⟨hi, rfl⟩ := List.getElem?_eq_some_iff.1 hx
  have := hr.1
  exact ⟨c[i], by rw [List.getElem?_append_left (by omega)]; simp, hr.2 i hi (by omega)⟩

theorem RepP.repL {X} {l : List AV} {row : List Value} (hr : RepP w h loc X l row) : RepL w h loc X l (row.take l.length) := by
  have hlen : l.length ≤ row.length := by
    rcases Nat.eq_zero_or_pos l.length with h0 | h0
    · omega
    · obtain ⟨v, hv, _⟩ := hr (l.length - 1) (l[l.length - 1]'(by omega)) (by simp)
      have := (List.getElem?_eq_some_iff.1 hv).1
      omega
  refine ⟨by simp; omega, fun i h1 h2 => ?_⟩
  obtain ⟨v, hv, hx⟩ := hr i _ (List.getElem?_eq_getElem h1)
  obtain ⟨h3, rfl⟩ := List.getElem?_eq_some_iff.1 hv
  simpa using hx

theorem size_zeroCells' (z : Array Value) (n : Nat) : (Builtin.zeroCells z n).size = n * z.size := by simp [Builtin.zeroCells]

theorem flat_take {s : Nat} {es : List AV} (hs : ∀ x ∈ es, x.cells.length = s) (n : Nat) (hn : n ≤ es.length) : flat (es.take n) = (flat es).take (n * s) := by
  have h1 : (flat (es.take n)).length = n * s := by rw [flat_length (fun x hx => hs x (List.mem_of_mem_take hx)), List.length_take, Nat.min_eq_left hn]
  have h2 : flat es = flat (es.take n) ++ flat (es.drop n) := by rw [← flat_append, List.take_append_drop]
  rw [h2, ← h1, List.take_left]

theorem elems_room {r s : Nat} {h : AHeap} {y : AV} {ys : List AV} (he : elemsOf (roomH r h) s y = some ys) : elemsOf h s y = some ys := by
  cases r with
  | zero => exact he
  | succ r =>
    cases y <;> first | exact he | (simp [roomH, elemsOf, win] at he)

theorem ok_app {r s tS tX e : Nat} {x y : PX} {x' y' : Operand} {i : TypeInfo} {zv : Value} {dx : TypeDesc} {v : AV} {h1 : AHeap} (W : Wrel w0 X0 w h loc) (S : Slots w h loc (XH X0 h loc) t a.tmps) (ho : o.op = .call ⟨.builtin .append, #[x', y'], #[tS, tX]⟩) (hx : chkX x' x = true) (hy : chkX y' y = true)
    (hS : P.underlying tS = some (.slice e)) (hX : P.underlying tX = some dx) (hdx : dx = .string ∨ ∃ e', dx = .slice e') (hi : P.info? e = some i) (hz : i.zero = some zv) (hzs : zv.cells.size = s) (hsz : i.size = s) (hb : i.bytes ≤ 131072)
    (hv : opH t h b (.app r s x y) = some (v, h1)) : OpOK ((execOp a.eval o).run P w) w0 X0 w h loc v h1 := by
  have hcx := S.x hx
  have hcy := S.x hy
  simp only [opH, Option.bind_eq_some_iff] at hv
  obtain ⟨ys, hys0, hv⟩ := hv
  have hys := elems_room hys0
  obtain ⟨hlen, hss, hlf, hfirst⟩ := run_elems (P := P) W hcy hys
  obtain ⟨c, hc, hrc⟩ := hfirst ys.length (Nat.le_refl _)
  have hall : (flat ys).take (ys.length * s) = flat ys := by rw [← flat_length hss, List.take_length]
  rw [hall] at hrc
  have hcs : c.size = ys.length * s := by have := hrc.1; simp at this; rw [flat_length hss] at this; omega
  have hexec : ∀ u w1, (Builtin.append_ #[tS, tX] o.type #[a.eval x', a.eval y']).run P w = .ok u w1 → (execOp a.eval o).run P w = .ok (.value u) w1 := by
    intro u w1 hr
    simp [execOp, ho, resolve, Go.invoke, builtin, hr]
  subst hsz
  cases ys with
  | nil =>
    have hc0 : c = #[] := by apply Array.eq_empty_of_size_eq_zero; simpa using hcs
    subst hc0
    simp only at hv
    have hst : ∀ base sLen sCap, a.eval x' = .slice base sLen sCap → sLen ≤ sCap → (execOp a.eval o).run P w = .ok (.value (a.eval x')) w := by
      intro base sLen sCap hs hle
      have := (run_append_gen (P := P) (w := w) (sLen := sLen) (sCap := sCap) (base := base) (ty := o.type) (n := 0) hS hX hdx hi hz hlen hc).1 hle w (fun _ => rfl) (fun ad _ => rfl)
      rw [hs]
      exact hexec _ _ (by rw [hs]; simpa using this)
    split at hv
    · rename_i f l hzx
      simp only [Option.some.injEq, Prod.mk.injEq] at hv
      obtain ⟨rfl, rfl⟩ := hv
      rw [hzx] at hcx
      obtain ⟨ad, cap, hs, hcap, _⟩ := hcx.lst_inv
      exact .stay W (hst _ _ _ hs hcap) hcx
    · rename_i id n off len hzx
      simp only [Option.some.injEq, Prod.mk.injEq] at hv
      obtain ⟨rfl, rfl⟩ := hv
      rw [hzx] at hcx
      obtain ⟨ad, cap, hs, hcap, _⟩ := hcx.own_inv
      exact .stay W (hst _ _ _ hs hcap) hcx
    · cases hv
  | cons y0 ys =>
    simp only at hv
    have hm : 0 < (y0 :: ys).length := by simp
    generalize hn : (y0 :: ys).length = n at *
    have hn' : ys.length + 1 = n := by rw [← hn]; rfl
    rw [hn'] at hv
    generalize hyy : y0 :: ys = yy at *
    split at hv
    · rename_i l hzx
      rw [hzx] at hcx
      split at hv
      case isFalse => cases hv
      rename_i hcond
      simp only [Bool.and_eq_true, decide_eq_true_eq] at hcond
      simp only [Option.map_eq_some_iff, Prod.mk.injEq] at hv
      obtain ⟨⟨id, h2⟩, ha, rfl, rfl⟩ := hv
      obtain ⟨ad, cap, hs, hcap, hfull, _⟩ := hcx.lst_inv
      obtain rfl := hfull rfl
      obtain ⟨hlen2, hss2, hlf2, hfirst2⟩ := run_elems (P := P) (s := i.size) (ys := l) W hcx (by simp [elemsOf, hcond.1])
      obtain ⟨old, hold, hrold⟩ := hfirst2 l.length (Nat.le_refl _)
      have hall2 : (flat l).take (l.length * i.size) = flat l := by rw [← flat_length hss2, List.take_length]
      rw [hall2] at hrold
      have hrun := (run_append_gen (P := P) (w := w) (sLen := l.length) (sCap := l.length) (base := ad) (ty := o.type) (n := n) hS hX hdx hi hz hlen hc).2 (by omega) hcond.2 hb old (by rw [← hs]; exact hold)
      rw [← hs] at hrun
      have hex := hexec _ _ hrun
      have hge := grownCap_ge w (l.length + n) l.length e
      have hll : (l ++ yy).length = l.length + n := by simp [hn]
      have hrl := (hrold.append hrc)
      have hsall : ∀ x ∈ l ++ yy, x.cells.length = i.size := fun x hx => by
        rcases List.mem_append.1 hx with hx | hx
        · exact hss2 x hx
        · exact hss x hx
      have hfl : (flat (l ++ yy)).length = (l.length + n) * i.size := by rw [flat_length hsall, hll]
      have hro : (old ++ c).size = (l.length + n) * i.size := by
        have := hrl.1
        rw [← flat_append, hfl] at this
        simp at this ⊢
        omega
      have hrow : (old ++ c ++ Builtin.zeroCells zv.cells (grownCap w (l.length + n) l.length e - (l.length + n))).size = grownCap w (l.length + n) l.length e * i.size := by
        rw [Array.size_append, hro, size_zeroCells', hzs, ← Nat.add_mul]
        congr 1
        omega
      have := OpOK.newOwn (r := (execOp a.eval o).run P w) (cap := grownCap w (l.length + n) l.length e) (s := i.size) W (Pushed.alloc w.drew (old ++ c ++ Builtin.zeroCells zv.cells (grownCap w (l.length + n) l.length e - (l.length + n))) e (0, 0)).drew (by rw [hex, hll]) ha (by omega) (by rw [hrow]; exact Nat.le_refl _) hsall
        (by rw [flat_append]; intro x hx; rcases List.mem_append.1 hx with hx | hx; exact hlf2 x hx; exact hlf x hx) (by rw [hfl, hrow]; exact Nat.mul_le_mul_right _ hge) (nofr _) (fun k hk hk2 => by
          obtain ⟨u, hu1, hu2⟩ := hrl.repP (Builtin.zeroCells zv.cells (grownCap w (l.length + n) l.length e - (l.length + n))).toList k (flat (l ++ yy))[k] (by rw [← flat_append]; exact List.getElem?_eq_getElem hk)
          have he : (old ++ c ++ Builtin.zeroCells zv.cells (grownCap w (l.length + n) l.length e - (l.length + n)))[k] = u := by
            have h3 : (old ++ c ++ Builtin.zeroCells zv.cells (grownCap w (l.length + n) l.length e - (l.length + n)))[k]? = some u := by
              rw [← hu1, ← Array.getElem?_toList]
              simp
            rw [Array.getElem?_eq_getElem hk2] at h3
            exact Option.some.inj h3
          rw [he]; exact hu2)
      rw [hll] at this
      exact this
    · rename_i id ver len hzx
      rw [hzx] at hcx
      split at hv
      case h_2 => cases hv
      rename_i s' v' es hid
      split at hv
      case isFalse => cases hv
      rename_i hcond
      obtain ⟨rfl, rfl, hle, hmost⟩ := hcond
      simp only [Option.some.injEq, Prod.mk.injEq] at hv
      obtain ⟨rfl, rfl⟩ := hv
      obtain ⟨ad, cap, hs, hcap, hbg, hg⟩ := hcx.own_inv
      have hgood : good h id v' := ⟨_, hid, rfl, rfl⟩
      obtain ⟨rfl, _, e', zz, hsh, hzz⟩ := hg hgood
      have hsa : sizeAt h id = i.size := by simp [sizeAt, hid]
      simp only [Nat.zero_mul, Nat.zero_add, hsa] at hs hzz
      have hat : BlkAt _ _ _ _ _ (loc id) i.size es := W.heap.blk id _ hid rfl
      obtain ⟨row, et, fr, hrow, hfr, hflen, hrp⟩ := hat.repP
      obtain ⟨rfl, rfl⟩ : et = e' ∧ row.size = zz := by simpa [World.shape?, hrow] using hsh
      have hlt := (List.getElem?_eq_some_iff.1 hid).1
      have hft := flat_take hat.s len hle
      have hpl : len * i.size ≤ (flat es).length := by rw [flat_length hat.s]; exact Nat.mul_le_mul_right _ hle
      have hs1 : ∀ x ∈ es.take len ++ yy, x.cells.length = i.size := fun x hx => by
        rcases List.mem_append.1 hx with hx | hx
        · exact hat.s x (List.mem_of_mem_take hx)
        · exact hss x hx
      have hlf1 : ∀ x ∈ flat (es.take len ++ yy), x.leaf = true := fun x hx => by
        rw [flat_append] at hx
        rcases List.mem_append.1 hx with hx | hx
        · rw [hft] at hx; exact hat.leaf x (List.mem_of_mem_take hx)
        · exact hlf x hx
      have hl1 : (es.take len ++ yy).length = len + n := by simp [hn]; omega
      have hfl1 : (flat (es.take len ++ yy)).length = (len + n) * i.size := by rw [flat_length hs1, hl1]
      have hcut := hrp.cut hrc (len * i.size) hpl
      rw [flat_length hss, hn, ← hft, ← flat_append] at hcut
      have hone : ∀ u ∈ c.toList, u.oneCell' = true := by
        intro u hu
        obtain ⟨k, hk, rfl⟩ := List.getElem_of_mem hu
        exact (hrc.2 k (by rw [hrc.1]; exact hk) hk).leaf (hlf _ (List.getElem_mem _))
      have hself : ∀ (h2 : AHeap) (hh : h2[id]? = some ⟨.live, i.size, v' + n, es.take len ++ yy⟩) (w1 : World) (loc1 : Nat → Nat) (cap1 : Nat) (row1 : Array Value) (et1 : TypeId) (fr1 : Nat × Nat), w1.heap[loc1 id]? = some (.cells row1 et1 fr1) → len + n ≤ cap1 → cap1 * i.size ≤ row1.size →
          Rep w1 h2 loc1 (XH X0 h2 loc1) (.own id (v' + n) 0 (len + n)) (.slice (some ⟨loc1 id, 0, none⟩) (len + n) cap1) := by
        intro h2 hh w1 loc1 cap1 row1 et1 fr1 hrow1 hc1 hc2
        refine .own _ _ _ _ _ _ ⟨_, hh, by simp, Nat.le_refl _⟩ hc1 (fun _ => ⟨by simp, by simp [lenAt, hh, hn]; omega, et1, row1.size, by simp [World.shape?, hrow1], by simp [sizeAt, hh]; exact hc2⟩)
      by_cases hroom : len + n ≤ cap
      · have hfit : (len + n) * i.size ≤ row.size := Nat.le_trans (Nat.mul_le_mul_right _ hroom) hzz
        have hstore := run_storeCells_free P (loc id) 0 et fr c.toList (len * i.size) row w hrow hfr.free (by simp; rw [hcs, ← Nat.add_mul]; omega) hone
        have hrun := (run_append_gen (P := P) (w := w) (sLen := len) (sCap := cap) (base := some ⟨loc id, 0, none⟩) (ty := o.type) (n := n) hS hX hdx hi hz hlen hc).1 hroom _ (fun hb => by cases hb) (fun ad had => by
          cases had
          have := run_storeCells_free P (loc id) (len * i.size) et fr c.toList 0 row w hrow hfr.free (by simp; rw [hcs, ← Nat.add_mul]; omega) hone
          rw [Addr.add_mid, Nat.zero_add]
          exact this)
        rw [← hs] at hrun
        have hex := hexec _ _ hrun
        simp only [Nat.add_zero, Array.length_toList] at hex
        have hrs : (row.toList.take (len * i.size) ++ c.toList ++ row.toList.drop (len * i.size + c.size)).toArray.size = row.size := by
          simp; rw [hcs, Nat.min_eq_left (by omega)]
          have : len * i.size + n * i.size ≤ row.size := by rw [← Nat.add_mul]; exact hfit
          omega
        obtain ⟨K, W1⟩ := W.setBlk hid hrow (row1 := (row.toList.take (len * i.size) ++ c.toList ++ row.toList.drop (len * i.size + c.size)).toArray) (v1 := v' + n) (es1 := es.take len ++ yy) hrs (by omega) (fun he => by omega) hs1 hlf1 (by rw [hfl1]; exact hfit) (by rw [hcs]; simpa using hcut)
        exact ⟨_, _, _, loc, hex, .inl rfl, K, W1, hself _ (by rw [List.getElem?_set_self hlt]) _ loc cap _ _ _ (setRow_heap w (loc id) row _ et fr hrow) hroom (by rw [hrs]; exact hzz)⟩
      · have hgrow : cap < len + n := by omega
        have hge := grownCap_ge w (len + n) cap e
        -- what was there, read again
        have hfirst : ∃ old : Array Value, (∀ w', w'.heap = w.heap → (Builtin.firstCells i.size len (.slice (some ⟨loc id, 0, none⟩) len cap)).run P w' = .ok old w') ∧ RepL w h loc (XH X0 h loc) ((flat es).take (len * i.size)) old.toList := by
          have hrl := hrp.repL.take (len * i.size)
          refine ⟨(((row.toList.take (flat es).length).take (len * i.size)).toArray), fun w' hw => ?_, by simpa using hrl⟩
          have hll : ((row.toList.take (flat es).length).take (len * i.size)).length = len * i.size := by simp; omega
          have := run_loadCells_list (P := P) w' ⟨loc id, 0, none⟩ ((row.toList.take (flat es).length).take (len * i.size)) (fun j u hj => by
            have hj1 := (List.getElem?_eq_some_iff.1 hj).1
            rw [hll] at hj1
            rw [List.getElem?_take_of_lt hj1, List.getElem?_take_of_lt (by omega)] at hj
            rw [Addr.add_mid, Nat.zero_add]
            simp [World.cell?, hw, hrow]
            simpa using hj)
          rw [hll] at this
          simpa [Builtin.firstCells] using this
        obtain ⟨old, hold, hrold⟩ := hfirst
        have hrun := (run_append_gen (P := P) (w := w) (sLen := len) (sCap := cap) (base := some ⟨loc id, 0, none⟩) (ty := o.type) (n := n) hS hX hdx hi hz hlen hc).2 hgrow hmost hb old hold
        rw [← hs] at hrun
        have hex := hexec _ _ hrun
        rw [← hft] at hrold
        have hrl := hrold.append hrc
        rw [← flat_append] at hrl
        have hro : (old ++ c).size = (len + n) * i.size := by
          have := hrl.1
          rw [hfl1] at this
          simp at this ⊢
          omega
        have hrs : (old ++ c ++ Builtin.zeroCells zv.cells (grownCap w (len + n) cap e - (len + n))).size = grownCap w (len + n) cap e * i.size := by
          rw [Array.size_append, hro, size_zeroCells', hzs, ← Nat.add_mul]
          congr 1
          omega
        have hp := (Pushed.alloc w.drew (old ++ c ++ Builtin.zeroCells zv.cells (grownCap w (len + n) cap e - (len + n))) e (0, 0)).drew
        obtain ⟨K, W1⟩ := W.moveBlk hid hp (v1 := v' + n) (es1 := es.take len ++ yy) (by omega) hs1 hlf1 (by rw [hfl1, hrs]; exact Nat.mul_le_mul_right _ hge) (nofr _) (by
          have := hrl.repP (Builtin.zeroCells zv.cells (grownCap w (len + n) cap e - (len + n))).toList
          simpa using this)
        have hnew := hp.new
        have hlid : (fun j => if j = id then w.heap.size else loc j) id = w.heap.size := by simp
        rw [← hlid] at hnew
        have hself' := hself _ (List.getElem?_set_self hlt) _ (fun j => if j = id then w.heap.size else loc j) (grownCap w (len + n) cap e) _ _ _ hnew hge (by rw [hrs]; exact Nat.le_refl _)
        simp only [if_true] at hself'
        exact ⟨_, _, _, _, hex, .inl rfl, K, W1, hself'⟩
    · cases hv
end
end Go.Proofs.Abs

-- ---- Abs13
set_option linter.unusedSimpArgs false
set_option linter.unusedVariables false
namespace Go.Proofs.Abs
open Go.RowKit
section
variable {P : Program} {w0 : World} {X0 : Nat → Prop} {w : World} {h : AHeap} {loc : Nat → Nat} {a : Act} {t : List AV} {o : Oper} {b : Nat}

theorem flat_drop {s : Nat} {es : List AV} (hs : ∀ x ∈ es, x.cells.length = s) (n : Nat) (hn : n ≤ es.length) : flat (es.drop n) = (flat es).drop (n * s) := by
  have h1 : (flat (es.take n)).length = n * s := by rw [flat_length (fun x hx => hs x (List.mem_of_mem_take hx)), List.length_take, Nat.min_eq_left hn]
  have h2 : flat es = flat (es.take n) ++ flat (es.drop n) := by rw [← flat_append, List.take_append_drop]
  rw [h2, ← h1, List.drop_left]

/-- A stretch of elements laid over: the elements, the cells, the machine's row. -/
theorem Wrel.lay (W : Wrel w0 X0 w h loc) {id s v off m : Nat} {es ys : List AV} {c : List Value} (hid : h[id]? = some ⟨.live, s, v, es⟩) (hy : RepL w h loc (XH X0 h loc) (flat ys) c) (hs : ∀ x ∈ ys, x.cells.length = s) (hlf : ∀ x ∈ flat ys, x.leaf = true)
    (hm : ys.length = m) (hle : off + m ≤ es.length) :
    ∃ w1, (∀ P, (storeCells ⟨loc id, off * s, none⟩ c).run P w = .ok () w1) ∧ Keeps w h loc (XH X0 h loc) w1 (h.set id ⟨.live, s, v, es.take off ++ ys ++ es.drop (off + m)⟩) loc (XH X0 (h.set id ⟨.live, s, v, es.take off ++ ys ++ es.drop (off + m)⟩) loc) ∧
      Wrel w0 X0 w1 (h.set id ⟨.live, s, v, es.take off ++ ys ++ es.drop (off + m)⟩) loc := by
  have hat : BlkAt _ _ _ _ _ (loc id) s es := W.heap.blk id _ hid rfl
  obtain ⟨row, et, fr, hrow, hfr, hlen, hrp⟩ := hat.repP
  have hfy : (flat ys).length = m * s := by rw [flat_length hs, hm]
  have hcl : c.length = m * s := by have := hy.1; omega
  have hfe := flat_length hat.s
  have hbig : (off + m) * s ≤ es.length * s := Nat.mul_le_mul_right _ hle
  have hbig2 := hbig
  rw [Nat.add_mul] at hbig2
  have hone : ∀ u ∈ c, u.oneCell' = true := by
    intro u hu
    obtain ⟨k, hk, rfl⟩ := List.getElem_of_mem hu
    exact (hy.2 k (by omega) hk).leaf (hlf _ (List.getElem_mem _))
  have hsp := hrp.splice hy (off * s) (by omega)
  have hfl : flat (es.take off ++ ys ++ es.drop (off + m)) = (flat es).take (off * s) ++ flat ys ++ (flat es).drop (off * s + (flat ys).length) := by
    rw [flat_append, flat_append, flat_take hat.s off (by omega), flat_drop hat.s (off + m) hle, hfy, Nat.add_mul]
  have hs1 : ∀ x ∈ es.take off ++ ys ++ es.drop (off + m), x.cells.length = s := fun x hx => by
    simp only [List.mem_append] at hx
    rcases hx with (hx | hx) | hx
    · exact hat.s x (List.mem_of_mem_take hx)
    · exact hs x hx
    · exact hat.s x (List.mem_of_mem_drop hx)
  have hlf1 : ∀ x ∈ flat (es.take off ++ ys ++ es.drop (off + m)), x.leaf = true := fun x hx => by
    rw [hfl] at hx
    simp only [List.mem_append] at hx
    rcases hx with (hx | hx) | hx
    · exact hat.leaf x (List.mem_of_mem_take hx)
    · exact hlf x hx
    · exact hat.leaf x (List.mem_of_mem_drop hx)
  rw [hfy] at hsp
  refine ⟨w.setRow (loc id) (row.toList.take (off * s) ++ c ++ row.toList.drop (off * s + m * s)).toArray, fun P => ?_, W.setBlk hid hrow ?_ (Nat.le_refl _) (fun _ => by simp; omega) hs1 hlf1 ?_ ?_⟩
  · have := run_storeCells_free P (loc id) (off * s) et fr c 0 row w hrow hfr.free (by omega) hone
    simpa [hcl] using this
  · simp; omega
  · rw [hfl]; simp; omega
  · rw [hfl, hfy]; simpa using hsp

theorem flat_take_le {s : Nat} {ys : List AV} (hs : ∀ x ∈ ys, x.cells.length = s) (n : Nat) : flat (ys.take n) = (flat ys).take (min n ys.length * s) := by
  by_cases h : n ≤ ys.length
  · rw [Nat.min_eq_left h, flat_take hs n h]
  · rw [Nat.min_eq_right (by omega), List.take_of_length_le (by omega), ← flat_length hs, List.take_length]

theorem ok_cpy {s tS tX e : Nat} {x y : PX} {x' y' : Operand} {i : TypeInfo} {v : AV} {h1 : AHeap} (W : Wrel w0 X0 w h loc) (S : Slots w h loc (XH X0 h loc) t a.tmps) (ho : o.op = .call ⟨.builtin .copy, #[x', y'], #[tS, tX]⟩) (hx : chkX x' x = true) (hy : chkX y' y = true)
    (hS : P.underlying tS = some (.slice e)) (hi : P.info? e = some i) (hsz : i.size = s)
    (hv : opH t h b (.cpy s x y) = some (v, h1)) : OpOK ((execOp a.eval o).run P w) w0 X0 w h loc v h1 := by
  have hcx := S.x hx
  have hcy := S.x hy
  simp only [opH, Option.bind_eq_some_iff] at hv
  obtain ⟨ys, hys, hv⟩ := hv
  split at hv
  case h_2 => cases hv
  rename_i id n off len hzx
  split at hv
  case h_2 => cases hv
  rename_i s' v' es hid
  split at hv
  case isFalse => cases hv
  rename_i hcond
  obtain ⟨rfl, rfl, hle⟩ := hcond
  simp only [Option.some.injEq, Prod.mk.injEq] at hv
  obtain ⟨rfl, rfl⟩ := hv
  rw [hzx] at hcx
  obtain ⟨hlen, hss, hlf, hfirst⟩ := run_elems (P := P) W hcy hys
  obtain ⟨c, hc, hrc⟩ := hfirst (min ys.length len) (Nat.min_le_left _ _)
  obtain ⟨ad, cap, hs, hcap, hbg, hg⟩ := hcx.own_inv
  obtain ⟨rfl, _, _⟩ := hg ⟨_, hid, rfl, rfl⟩
  have hsa : sizeAt h id = s' := by simp [sizeAt, hid]
  rw [hsa] at hs
  have hft : flat (ys.take len) = (flat ys).take (min ys.length len * s') := by rw [flat_take_le hss, Nat.min_comm]
  obtain ⟨w1, hst, K, W1⟩ := W.lay (off := off) (m := min ys.length len) (ys := ys.take len) (c := c.toList) hid (by rw [hft]; exact hrc) (fun x hx => hss x (List.mem_of_mem_take hx)) (fun x hx => by rw [hft] at hx; exact hlf x (List.mem_of_mem_take hx)) (by simp [Nat.min_comm]) (by omega)
  refine ⟨_, _, w1, loc, ?_, .inl rfl, K, W1, .int _ _⟩
  have hcw := hc w rfl
  subst hsz
  simp [execOp, ho, resolve, Go.invoke, builtin, Builtin.copy_, run_underlying hS, sizeOf, typeInfo, hi, hlen, hs, hcw, hst P, goInt]

theorem ok_clr {z : AV} {zv : Value} {ty e : Nat} {x : PX} {x' : Operand} {i : TypeInfo} {v : AV} {h1 : AHeap} (W : Wrel w0 X0 w h loc) (S : Slots w h loc (XH X0 h loc) t a.tmps) (ho : o.op = .call ⟨.builtin .clear, #[x'], #[ty]⟩) (hx : chkX x' x = true)
    (hu : P.underlying ty = some (.slice e)) (hi : P.info? e = some i) (hz : i.zero = some zv) (hzv : isV z zv = true) (hsol : z.solid = true)
    (hv : opH t h b (.clr z x) = some (v, h1)) : OpOK ((execOp a.eval o).run P w) w0 X0 w h loc v h1 := by
  have hcx := S.x hx
  have hexec : ∀ w1, (Builtin.clear_ #[ty] o.type #[a.eval x']).run P w = .ok (.tuple #[]) w1 → (execOp a.eval o).run P w = .ok (.value (.tuple #[])) w1 := by
    intro w1 hr
    simp [execOp, ho, resolve, Go.invoke, builtin, hr]
  simp only [opH] at hv
  split at hv
  · rename_i id n off len hzx
    split at hv
    case h_2 => cases hv
    rename_i s' v' es hid
    split at hv
    case isFalse => cases hv
    rename_i hcond
    obtain ⟨rfl, rfl, hle⟩ := hcond
    simp only [Option.some.injEq, Prod.mk.injEq] at hv
    obtain ⟨rfl, rfl⟩ := hv
    rw [hzx] at hcx
    obtain ⟨ad, cap, hs, hcap, hbg, hg⟩ := hcx.own_inv
    obtain ⟨rfl, _, _⟩ := hg ⟨_, hid, rfl, rfl⟩
    have hsa : sizeAt h id = z.cells.length := by simp [sizeAt, hid]
    rw [hsa] at hs
    have hzr : Rep w h loc (XH X0 h loc) z zv := isV_rep _ _ hzv
    obtain ⟨q1, q2⟩ := made_rep hzr hsol len (len * z.cells.length) (Nat.le_refl _)
    have hcells : ∀ x ∈ List.replicate len z, x.cells.length = z.cells.length := fun x hx => by rw [(List.mem_replicate.1 hx).2]
    have hzc : zv.cells.size = z.cells.length := (hzr.cells hsol).1
    have hmk : Builtin.zeroCells zv.cells len = madeCells zv.cells (len * z.cells.length) := by simp [Builtin.zeroCells, madeCells, hzc]
    have hrl : RepL w h loc (XH X0 h loc) (flat (List.replicate len z)) (madeCells zv.cells (len * z.cells.length)).toList :=
      ⟨by rw [flat_length hcells]; simp [size_madeCells], fun k a b => by have := q2 k a (by simpa using b); simpa [Array.getElem_toList] using this⟩
    obtain ⟨w1, hst, K, W1⟩ := W.lay (off := off) (m := len) (ys := List.replicate len z) hid hrl hcells q1 (by simp) hle
    refine ⟨_, _, w1, loc, hexec w1 ?_, .inl rfl, K, W1, rep_undef⟩
    rw [hs]
    cases len with
    | zero =>
      have : w1 = w := by
        have := hst P
        simp [madeCells, storeCells] at this
        exact this.symm
      subst this
      simp [Builtin.clear_, run_underlying hu]
    | succ len => simp [Builtin.clear_, run_underlying hu, zeroValue, typeInfo, hi, hz, hmk, hst P]
  · rename_i f hzx
    simp only [Option.some.injEq, Prod.mk.injEq] at hv
    obtain ⟨rfl, rfl⟩ := hv
    rw [hzx] at hcx
    obtain ⟨ad, cap, hs, hcap, _⟩ := hcx.lst_inv
    refine .stay W (hexec w ?_) rep_undef
    rw [hs]
    cases ad <;> simp [Builtin.clear_, run_underlying hu]
  · cases hv
end
end Go.Proofs.Abs

-- ---- Abs14
set_option linter.unusedSimpArgs false
set_option linter.unusedVariables false
namespace Go.Proofs.Abs
open Go.RowKit
section
variable {P : Program} {w0 : World} {X0 : Nat → Prop} {w : World} {h : AHeap} {loc : Nat → Nat} {a : Act} {t : List AV} {o : Oper} {b : Nat} {X : Nat → Prop}

/-- The kinds of the cells of fields that lie one behind the other. -/
def kindsFs (ok : TypeId → Option (List Nat)) : Nat → List Field → Option (List Nat)
  | _, [] => some []
  | off, f :: fs => if (f.name == "_") = false ∧ f.offset = off then (ok f.type).bind fun ks => (kindsFs ok (off + ks.length) fs).map fun more => ks ++ more else none

/-- The kinds of a type's cells: of whole numbers, bools, texts, and structs of them. -/
def kindsOf (P : Program) : Nat → TypeId → Option (List Nat)
  | 0, _ => none
  | d + 1, t => match P.underlying t, P.info? t with
    | some .bool, some i => if i.size = 1 then some [1] else none
    | some (.int _), some i => if i.size = 1 then some [0] else none
    | some .string, some i => if i.size = 1 then some [2] else none
    | some (.struct fs), some i => if P.stoodInHeld t = false then (kindsFs (kindsOf P d) 0 fs.toList).bind fun ks => if ks.length = i.size then some ks else none else none
    | _, _ => none

theorem immEqs_split : ∀ (ks ks2 : List Nat) (l m : List AV) (r : Bool), immEqs (ks ++ ks2) l m = some r → ∃ r1 r2, immEqs ks (l.take ks.length) (m.take ks.length) = some r1 ∧ immEqs ks2 (l.drop ks.length) (m.drop ks.length) = some r2 ∧ r = (r1 && r2)
  | [], ks2, l, m, r, h => ⟨true, r, by simp [immEqs], by simpa using h, by simp⟩
  | k :: ks, ks2, x :: l, y :: m, r, h => by
    simp only [List.cons_append, immEqs, Option.bind_eq_some_iff, Option.map_eq_some_iff] at h
    obtain ⟨p, hp, q, hq, rfl⟩ := h
    obtain ⟨r1, r2, h1, h2, rfl⟩ := immEqs_split ks ks2 l m q hq
    exact ⟨p && r1, r2, by simp [immEqs, hp, h1], by simpa using h2, by rw [Bool.and_assoc]⟩
  | _ :: _, _, [], _, _, h => by simp [immEqs] at h
  | _ :: _, _, _ :: _, [], _, h => by simp [immEqs] at h

theorem immEqs_length : ∀ {ks : List Nat} {l m : List AV} {r : Bool}, immEqs ks l m = some r → l.length = ks.length ∧ m.length = ks.length
  | [], [], [], _, _ => ⟨rfl, rfl⟩
  | k :: ks, x :: l, y :: m, r, h => by
    simp only [immEqs, Option.bind_eq_some_iff, Option.map_eq_some_iff] at h
    obtain ⟨p, hp, q, hq, rfl⟩ := h
    simpa using immEqs_length hq
  | [], _ :: _, _, _, h => by simp [immEqs] at h
  | [], [], _ :: _, _, h => by simp [immEqs] at h
  | _ :: _, [], _, _, h => by simp [immEqs] at h
  | _ :: _, _ :: _, [], _, h => by simp [immEqs] at h

/-- A value of a type with such cells, out of its cells. -/
def whole (P : Program) (ty : TypeId) (c : Array Value) (v : Value) : Prop := ((∃ fs, P.underlying ty = some (.struct fs)) → v = .agg c) ∧ ((∀ fs, P.underlying ty ≠ some (.struct fs)) → c = #[v])

theorem run_eqLeaf {k n : Nat} {ty : TypeId} {d : TypeDesc} {u v : AV} {x y : Value} {p : Bool} (hu : P.underlying ty = some d) (hd : (k = 1 ∧ d = .bool) ∨ (k = 0 ∧ ∃ q, d = .int q) ∨ (k = 2 ∧ d = .string)) (hx : Rep w h loc X u x) (hy : Rep w h loc X v y) (he : immEq k u v = some p) :
    (Op.equalIn (n + 1) ty x y).run P w = .ok p w := by
  unfold Op.equalIn
  unfold immEq at he
  split at he
  · split at he
    case isFalse => cases he
    rename_i hk
    subst hk
    simp at he
    subst he
    obtain rfl := hx.int_inv
    obtain rfl := hy.int_inv
    rcases hd with ⟨h1, _⟩ | ⟨_, q, rfl⟩ | ⟨h1, _⟩
    · cases h1
    · simp [run_underlying hu]
    · cases h1
  · simp at he
    subst he
    obtain rfl := hx.bool_inv
    obtain rfl := hy.bool_inv
    rcases hd with ⟨_, rfl⟩ | ⟨h1, _⟩ | ⟨h1, _⟩
    · simp [run_underlying hu]
    · cases h1
    · cases h1
  · simp at he
    subst he
    obtain rfl := hx.str_inv
    obtain rfl := hy.str_inv
    rcases hd with ⟨h1, _⟩ | ⟨h1, _⟩ | ⟨_, rfl⟩
    · cases h1
    · cases h1
    · simp [run_underlying hu]
      rw [Bool.eq_iff_iff]
      have key : ∀ p q : List UInt8, ((ByteArray.mk p.toArray == ByteArray.mk q.toArray) = true) ↔ (p == q) = true := by
        intro p q
        show ((p.toArray == q.toArray) = true) ↔ _
        simp
      exact key _ _
  · cases he

theorem leafCase {k n : Nat} {ty : TypeId} {d : TypeDesc} {l m : List AV} {xs ys : Array Value} {x y : Value} {r : Bool} (hu : P.underlying ty = some d) (hd : (k = 1 ∧ d = .bool) ∨ (k = 0 ∧ ∃ q, d = .int q) ∨ (k = 2 ∧ d = .string))
    (hl : RepL w h loc X l xs.toList) (hm : RepL w h loc X m ys.toList) (he : immEqs [k] l m = some r) (hx : whole P ty xs x) (hy : whole P ty ys y) : (Op.equalIn (n + 1) ty x y).run P w = .ok r w := by
  have hns : ∀ fs, P.underlying ty ≠ some (.struct fs) := fun fs hf => by
    rw [hu] at hf
    cases hf
    rcases hd with ⟨_, h1⟩ | ⟨_, q, h1⟩ | ⟨_, h1⟩ <;> cases h1
  obtain rfl := hx.2 hns
  obtain rfl := hy.2 hns
  obtain ⟨g1, g2⟩ := immEqs_length he
  match l, m, g1, g2 with
  | [u], [v], _, _ =>
    simp only [immEqs, Option.bind_eq_some_iff, Option.map_some, Option.some.injEq, Bool.and_true] at he
    obtain ⟨p, hp, rfl⟩ := he
    exact run_eqLeaf hu hd (hl.2 0 (by simp) (by simp)) (hm.2 0 (by simp) (by simp)) hp

theorem run_equalIn : ∀ (d : Nat) (ty : TypeId) (n : Nat) (ks : List Nat), kindsOf P d ty = some ks → d ≤ n → (∃ i, P.info? ty = some i ∧ i.size = ks.length) ∧ ∀ (l m : List AV) (xs ys : Array Value) (x y : Value) (r : Bool), RepL w h loc X l xs.toList → RepL w h loc X m ys.toList → immEqs ks l m = some r →
    whole P ty xs x → whole P ty ys y → (Op.equalIn n ty x y).run P w = .ok r w
  | 0, ty, n, ks, hok, _ => by simp [kindsOf] at hok
  | d + 1, ty, n, ks, hok, hn => by
    obtain ⟨n, rfl⟩ : ∃ k, n = k + 1 := ⟨n - 1, by omega⟩
    unfold kindsOf at hok
    split at hok
    · rename_i i hu hi
      split at hok <;> simp only [Option.some.injEq, reduceCtorEq] at hok
      subst hok
      exact ⟨⟨i, hi, ‹_›⟩, fun l m xs ys x y r hl hm hr hx hy => leafCase hu (.inl ⟨rfl, rfl⟩) hl hm hr hx hy⟩
    · rename_i k i hu hi
      split at hok <;> simp only [Option.some.injEq, reduceCtorEq] at hok
      subst hok
      exact ⟨⟨i, hi, ‹_›⟩, fun l m xs ys x y r hl hm hr hx hy => leafCase hu (.inr (.inl ⟨rfl, _, rfl⟩)) hl hm hr hx hy⟩
    · rename_i i hu hi
      split at hok <;> simp only [Option.some.injEq, reduceCtorEq] at hok
      subst hok
      exact ⟨⟨i, hi, ‹_›⟩, fun l m xs ys x y r hl hm hr hx hy => leafCase hu (.inr (.inr ⟨rfl, rfl⟩)) hl hm hr hx hy⟩
    · rename_i fs i hu hi
      split at hok
      case isFalse => cases hok
      rename_i hst
      simp only [Option.bind_eq_some_iff] at hok
      obtain ⟨ks', hks, hok⟩ := hok
      split at hok
      case isFalse => cases hok
      rename_i hsz
      simp only [Option.some.injEq] at hok
      subst hok
      refine ⟨⟨i, hi, hsz.symm⟩, fun l m xs ys x y r hl hm hr hx hy => ?_⟩
      obtain rfl := hx.1 ⟨fs, hu⟩
      obtain rfl := hy.1 ⟨fs, hu⟩
      -- the fields, one by one
      have key : ∀ (F : Field → Option Bool × Unit → Sem (ForInStep (Option Bool × Unit))) (hF : ∀ f, ¬ f.name = "_" → F f (none, ()) = (do
              let u ← part f.type xs f.offset
              let v ← part f.type ys f.offset
              let e ← Op.equalIn n f.type u v
              if e = false then pure (ForInStep.done (some false, ())) else pure (ForInStep.yield (none, ())))) (gs : List Field) (off : Nat) (kk : List Nat) (r : Bool), kindsFs (kindsOf P d) off gs = some kk → immEqs kk (l.drop off) (m.drop off) = some r →
          (forIn gs (none, ()) F).run P w = .ok (if r then (none, ()) else (some false, ())) w := by
        intro F hF gs
        induction gs with
        | nil =>
          intro off kk r hk hr
          simp [kindsFs] at hk
          subst hk
          obtain ⟨g1, g2⟩ := immEqs_length hr
          have : l.drop off = [] := List.eq_nil_of_length_eq_zero g1
          have h2 : m.drop off = [] := List.eq_nil_of_length_eq_zero g2
          rw [this, h2] at hr
          simp [immEqs] at hr
          subst hr
          simp
        | cons f gs ih =>
          intro off kk r hk hr
          simp only [kindsFs] at hk
          split at hk
          case isFalse => cases hk
          rename_i hc
          obtain ⟨hname, rfl⟩ := hc
          simp only [Option.bind_eq_some_iff, Option.map_eq_some_iff] at hk
          obtain ⟨k1, hk1, more, hmore, rfl⟩ := hk
          obtain ⟨r1, r2, h1, h2, rfl⟩ := immEqs_split k1 more _ _ r hr
          rw [List.drop_drop, List.drop_drop] at h2
          have hrest := ih _ _ r2 hmore h2
          obtain ⟨⟨fi, hfi, hfs⟩, hmain⟩ := run_equalIn d f.type n k1 hk1 (by omega)
          have hn' : ¬ f.name = "_" := by simpa using hname
          obtain ⟨g1, g2⟩ := immEqs_length h1
          have hparts : ∀ (l : List AV) (xs : Array Value), RepL w h loc X l xs.toList → ((l.drop f.offset).take k1.length).length = k1.length →
              ∃ u, (part f.type xs f.offset).run P w = .ok u w ∧ whole P f.type (xs.extract f.offset (f.offset + k1.length)) u ∧ RepL w h loc X ((l.drop f.offset).take k1.length) (xs.extract f.offset (f.offset + k1.length)).toList := by
            intro l xs hl hlen
            have hrl : RepL w h loc X ((l.drop f.offset).take k1.length) (xs.extract f.offset (f.offset + k1.length)).toList := by
              have := (hl.drop f.offset).take k1.length
              rw [Array.toList_extract]
              simpa [List.extract] using this
            have hll := hl.1
            simp at hlen hll
            by_cases hst : ∃ fs, P.underlying f.type = some (.struct fs)
            · obtain ⟨fs', hfs'⟩ := hst
              exact ⟨.agg (xs.extract f.offset (f.offset + k1.length)), by simp [part, isAgg, run_underlying hfs', sizeOf, typeInfo, hfi, hfs], ⟨fun _ => rfl, fun hno => absurd hfs' (hno fs')⟩, hrl⟩
            · have hns : ∀ fs, P.underlying f.type ≠ some (.struct fs) := fun fs hf => hst ⟨fs, hf⟩
              -- a type of one cell
              have hone : k1.length = 1 ∧ (isAgg f.type).run P w = .ok false w := by
                cases d with
                | zero => simp [kindsOf] at hk1
                | succ d =>
                  unfold kindsOf at hk1
                  split at hk1
                  · rename_i hu _
                    split at hk1 <;> simp only [Option.some.injEq, reduceCtorEq] at hk1
                    subst hk1; exact ⟨rfl, by simp [isAgg, run_underlying hu]⟩
                  · rename_i hu _
                    split at hk1 <;> simp only [Option.some.injEq, reduceCtorEq] at hk1
                    subst hk1; exact ⟨rfl, by simp [isAgg, run_underlying hu]⟩
                  · rename_i hu _
                    split at hk1 <;> simp only [Option.some.injEq, reduceCtorEq] at hk1
                    subst hk1; exact ⟨rfl, by simp [isAgg, run_underlying hu]⟩
                  · rename_i fs' _ hu _
                    exact absurd hu (hns _)
                  · cases hk1
              have hlt : f.offset < xs.size := by omega
              refine ⟨xs[f.offset], by simp [part, hone.2, hlt], ⟨fun hs => absurd hs hst, fun _ => ?_⟩, hrl⟩
              rw [hone.1]
              apply Array.ext
              · simp; omega
              · intro i h1 h2
                simp at h1 h2
                have : i = 0 := by omega
                subst this
                simp
          obtain ⟨u, hu1, hu2, hu3⟩ := hparts l xs hl g1
          obtain ⟨v, hv1, hv2, hv3⟩ := hparts m ys hm g2
          have he := hmain _ _ _ _ u v r1 hu3 hv3 h1 hu2 hv2
          cases hq : r1
          · subst hq
            simp [hF f hn', hu1, hv1, he]
          · subst hq
            simp [hF f hn', hu1, hv1, he, hrest]
      unfold Op.equalIn
      simp [run_underlying hu, hst]
      rw [← Array.forIn_toList, key _ (fun f hf => by simp [hf]) fs.toList 0 ks' r hks (by simpa using hr)]
      cases r <;> simp
    · cases hok

theorem ok_eqs {neg : Bool} {op : BinOp} {ty ty2 : Nat} {ks : List Nat} {fs : Array Field} {x y : PX} {x' y' : Operand} {v : AV} {h1 : AHeap} (W : Wrel w0 X0 w h loc) (S : Slots w h loc (XH X0 h loc) t a.tmps) (ho : o.op = .binOp op ty x' y' ty2) (hx : chkX x' x = true) (hy : chkX y' y = true)
    (hop : (op = .eql ∧ neg = false) ∨ (op = .neq ∧ neg = true)) (hu : P.underlying ty = some (.struct fs)) (hks : kindsOf P 20 ty = some ks) (hg : P.eqGuardType P.depth ty = false)
    (hv : opH t h b (.eqs neg ks x y) = some (v, h1)) : OpOK ((execOp a.eval o).run P w) w0 X0 w h loc v h1 := by
  have hcx := S.x hx
  have hcy := S.x hy
  simp only [opH] at hv
  split at hv
  case h_2 => cases hv
  rename_i l m hzx hzy
  simp only [Option.map_eq_some_iff, Prod.mk.injEq] at hv
  obtain ⟨r, hr, rfl, rfl⟩ := hv
  rw [hzx] at hcx
  rw [hzy] at hcy
  generalize hex : a.eval x' = x1 at hcx
  generalize hey : a.eval y' = y1 at hcy
  cases hcx
  rename_i xs hxl hxr
  cases hcy
  rename_i ys hyl hyr
  have hrl : RepL w h loc (XH X0 h loc) l xs.toList := ⟨by simpa using hxl.symm, fun i h1 h2 => by have := hxr i h1 (by simpa using h2); simpa [Array.getElem_toList] using this⟩
  have hrm : RepL w h loc (XH X0 h loc) m ys.toList := ⟨by simpa using hyl.symm, fun i h1 h2 => by have := hyr i h1 (by simpa using h2); simpa [Array.getElem_toList] using this⟩
  have heq : (Op.equal ty (.agg xs) (.agg ys)).run P w = .ok r w :=
    (run_equalIn 20 ty 10000 ks hks (by omega)).2 l m xs ys _ _ r hrl hrm hr ⟨fun _ => rfl, fun hno => absurd hu (hno fs)⟩ ⟨fun _ => rfl, fun hno => absurd hu (hno fs)⟩
  refine .stay W (x := .bool (r != neg)) ?_ (.bool _)
  rcases hop with ⟨rfl, rfl⟩ | ⟨rfl, rfl⟩ <;> simp [execOp, ho, hex, hey, eqGuard, hg, binOp, heq]
/-- What lies behind a block's cells is marked. -/
theorem Wrel.mark (W : Wrel w0 X0 w h loc) {id s v : Nat} {es : List AV} (hid : h[id]? = some ⟨.live, s, v, es⟩) {row : Array Value} {e : TypeId} {fr : Nat × Nat} (hrow : w.heap[loc id]? = some (.cells row e fr)) :
    Keeps w h loc (XH X0 h loc) (w.freeze ⟨loc id, row.size, none⟩ 1) h loc (XH X0 h loc) ∧ Wrel w0 X0 (w.freeze ⟨loc id, row.size, none⟩ 1) h loc := by
  have hat : BlkAt _ _ _ _ _ (loc id) s es := W.heap.blk id _ hid rfl
  obtain ⟨row', e', fr', hrow', hfr, hlen, hv⟩ := hat.row
  rw [hrow] at hrow'
  cases hrow'
  generalize hw1 : w.freeze ⟨loc id, row.size, none⟩ 1 = w1
  have hlt := (Array.getElem?_eq_some_iff.1 hrow).1
  have hsz : w1.heap.size = w.heap.size := by rw [← hw1]; simp [World.freeze]
  have hoth : ∀ b, b ≠ loc id → w1.heap[b]? = w.heap[b]? := fun b hb => by
    rw [← hw1]
    simp only [World.freeze]
    rw [if_neg (by decide), Array.getElem?_modify, if_neg (Ne.symm hb)]
  obtain ⟨lo, hi⟩ := fr
  have hat1 : w1.heap[loc id]? = some (.cells row e (if lo == hi then (row.size, row.size + 1) else (min lo row.size, max hi (row.size + 1)))) := by
    rw [← hw1]
    simp only [World.freeze]
    rw [if_neg (by decide), Array.getElem?_modify, if_pos rfl, hrow]
    rfl
  have hfr1 : FrOK row.size (if lo == hi then (row.size, row.size + 1) else (min lo row.size, max hi (row.size + 1))) := by
    unfold FrOK at hfr ⊢
    simp only at hfr
    split
    · simp
    · rename_i hne
      simp only [beq_iff_eq] at hne
      simp only
      omega
  have c : Chg w0.heap.size w h loc w1 h loc id ⟨.live, s, v, es⟩ :=
    { size := by omega
      blk := fun b hb hn => hoth b (hn _ hid rfl)
      oth := fun j _ => rfl
      at1 := hid
      pl := fun _ _ => rfl
      old := .inr ⟨_, hid, rfl, rfl, by simp, Nat.le_refl _, fun _ _ => ⟨rfl, rfl, fun e2 z hz => by simp [World.shape?, hrow] at hz; simp [World.shape?, hat1]; exact hz⟩⟩
      new := fun _ => .inl ⟨rfl, _, hid, rfl⟩ }
  have K := c.keeps W.heap
  refine ⟨K, ⟨?_, W.x1 K, c.heap W.heap (fun _ => ⟨hat.le, ⟨row, e, _, hat1, hfr1, hlen, fun i hi => ?_⟩, hat.s, hat.leaf⟩)⟩⟩
  · have hb := W.below
    have hos : w1.os = w.os ∧ w1.tape = w.tape ∧ w1.output = w.output := by rw [← hw1]; simp [World.freeze]
    exact ⟨hos.1.trans hb.os, hos.2.1.trans hb.tape, hos.2.2.trans hb.output, by rw [hsz]; exact hb.size, fun k hk => by rw [hoth k (by have := hat.le; omega)]; exact hb.block k hk⟩
  · obtain ⟨u, h1, h2⟩ := hv i hi
    exact ⟨u, h1, h2.keep K⟩

/-- A text of bytes, laid as a slice, turned into one. -/
theorem ok_cvl {ty e : Nat} {x : PX} {x' : Operand} {v : AV} {h1 : AHeap} (W : Wrel w0 X0 w h loc) (S : Slots w h loc (XH X0 h loc) t a.tmps) (ho : o.op = .convert ty ty x') (hx : chkX x' x = true)
    (hu : P.underlying ty = some (.slice e)) (he : P.underlying e = some (.int .u8)) (hv : opH t h b (.cvl x) = some (v, h1)) : OpOK ((execOp a.eval o).run P w) w0 X0 w h loc v h1 := by
  have hc := S.x hx
  simp only [opH] at hv
  split at hv
  case h_2 => cases hv
  rename_i id n off len hz
  simp only [Option.map_eq_some_iff, Prod.mk.injEq] at hv
  obtain ⟨l, hw, rfl, rfl⟩ := hv
  unfold win at hw
  split at hw
  case h_2 => cases hw
  rename_i s ver es hid
  split at hw
  case isFalse => cases hw
  rename_i hver
  subst hver
  rw [hz] at hc
  obtain ⟨row, et, fr, hrow, _⟩ := (W.heap.blk id _ hid rfl).row
  obtain ⟨K, W1⟩ := W.mark hid hrow
  have hc0 := hc
  generalize hev : a.eval x' = u at hc
  cases hc with
  | own _ _ _ _ ad cap hb hcap hg =>
    obtain ⟨rfl, _⟩ := hg ⟨_, hid, rfl, rfl⟩
    refine ⟨_, a.eval x', _, loc, ?_, .inl rfl, K, W1, hc0.keep K⟩
    have hsh : w.shape? (loc id) = some (et, row.size) := by simp [World.shape?, hrow]
    rw [hev]
    simp [execOp, ho, hev, convert, run_underlying hu, run_underlying he, markStringish, hsh]

/-- A pointer, turned into an unsafe one. -/
theorem ok_cvu {src dst ty : Nat} {x : PX} {x' : Operand} {v : AV} {h1 : AHeap} (W : Wrel w0 X0 w h loc) (S : Slots w h loc (XH X0 h loc) t a.tmps) (ho : o.op = .convert src dst x') (hx : chkX x' x = true)
    (hu : P.underlying src = some (.pointer ty)) (hu2 : P.underlying dst = some .unsafePointer) (hsz : (P.info? ty).map (fun i => decide (i.size = 0)) = some false)
    (hv : opH t h b (.cvu x) = some (v, h1)) : OpOK ((execOp a.eval o).run P w) w0 X0 w h loc v h1 := by
  have hc := S.x hx
  simp only [opH] at hv
  split at hv
  case h_2 => cases hv
  rename_i id n idx off hz
  simp only [Option.bind_eq_some_iff] at hv
  obtain ⟨l, hl, hv⟩ := hv
  split at hv
  case h_2 => cases hv
  rename_i y l
  simp only [Option.some.injEq, Prod.mk.injEq] at hv
  obtain ⟨rfl, rfl⟩ := hv
  rw [hz] at hc
  obtain ⟨ad, u, he, hcell, _⟩ := W.cell_at hc hl
  refine .stay W ?_ hc
  rw [he]
  have := run_convert_to_unsafe (P := P) (w := w) hu hu2 hsz hcell
  simp [execOp, ho, he, this]
end
end Go.Proofs.Abs

-- ---- Abs15
set_option linter.unusedSimpArgs false
set_option linter.unusedVariables false
namespace Go.Proofs.Abs
open Go.RowKit

def chkLd (P : Program) (ty : TypeId) (n : Option Nat) : Bool :=
  match P.underlying ty, P.info? ty, n with
  | some d, some i, some m => d.isRow && i.size == m
  | some d, some _, none => !d.isRow
  | _, _, _ => false
theorem chkLd_ok {P : Program} {ty : TypeId} {n : Option Nat} (hc : chkLd P ty n = true) : ∃ d, P.underlying ty = some d ∧ (∀ m, n = some m → d.isRow = true ∧ (P.info? ty).map (·.size) = some m) ∧ (n = none → d.isRow = false) := by
  unfold chkLd at hc
  split at hc
  · rename_i d i m hu hi
    simp only [Bool.and_eq_true, beq_iff_eq] at hc
    exact ⟨d, hu, (fun m' hm => by
      cases hm
      exact ⟨hc.1, by simp [hi, hc.2]⟩), (fun hn => by cases hn)⟩
  · rename_i d i hu hi
    simp only [Bool.not_eq_true'] at hc
    exact ⟨d, hu, (fun m' hm => by cases hm), fun _ => hc⟩
  · cases hc

/-- The element of a slice's type: its zero value 'z', bounded in bytes. -/
def chkEl (P : Program) (ty : TypeId) (s : Nat) (z : Option AV) : Bool :=
  match P.underlying ty with
  | some (.slice e) => match P.info? e with
    | some i => i.size == s && decide (i.bytes ≤ 131072) && (match i.zero with
      | some zv => zv.cells.size == s && (match z with
        | some z => isV z zv && z.solid && z.cells.length == s
        | none => true)
      | none => false)
    | none => false
  | _ => false
theorem chkEl_ok {P : Program} {ty : TypeId} {s : Nat} {z : Option AV} (hc : chkEl P ty s z = true) : ∃ e i zv, P.underlying ty = some (.slice e) ∧ P.info? e = some i ∧ i.size = s ∧ i.bytes ≤ 131072 ∧ i.zero = some zv ∧ zv.cells.size = s ∧
    ∀ z', z = some z' → isV z' zv = true ∧ z'.solid = true ∧ z'.cells.length = s := by
  unfold chkEl at hc
  split at hc
  case h_2 => cases hc
  rename_i e hu
  split at hc
  case h_2 => cases hc
  rename_i i hi
  simp only [Bool.and_eq_true, beq_iff_eq, decide_eq_true_eq] at hc
  obtain ⟨⟨h1, h2⟩, h3⟩ := hc
  split at h3
  case h_2 => cases h3
  rename_i zv hz
  simp only [Bool.and_eq_true, beq_iff_eq] at h3
  refine ⟨e, i, zv, hu, hi, h1, h2, hz, h3.1, fun z' hz' => ?_⟩
  subst hz'
  have := h3.2
  simp only [Bool.and_eq_true, beq_iff_eq] at this
  exact ⟨this.1.1, this.1.2, this.2⟩

def isInt (P : Program) (ty : TypeId) (k : IntKind) : Bool := match P.underlying ty with | some (.int k') => decide (k' = k) | _ => false
theorem isInt_ok {P : Program} {ty : TypeId} {k : IntKind} (h : isInt P ty k = true) : P.underlying ty = some (.int k) := by
  unfold isInt at h
  split at h
  · rename_i k' hk; simp at h; rw [hk, h]
  · cases h
def isStr (P : Program) (ty : TypeId) : Bool := match P.underlying ty with | some .string => true | _ => false
theorem isStr_ok {P : Program} {ty : TypeId} (h : isStr P ty = true) : P.underlying ty = some .string := by
  unfold isStr at h
  split at h
  · assumption
  · cases h
def isBytes (P : Program) (ty : TypeId) : Bool := match P.underlying ty with | some (.slice e) => isInt P e .u8 | _ => false
theorem isBytes_ok {P : Program} {ty : TypeId} (h : isBytes P ty = true) : ∃ e, P.underlying ty = some (.slice e) ∧ P.underlying e = some (.int .u8) := by
  unfold isBytes at h
  split at h
  · rename_i e he; exact ⟨e, he, isInt_ok h⟩
  · cases h

/-- A type's zero value. -/
def chkZ (P : Program) (ty : TypeId) (z : AV) : Bool := match P.info? ty with
  | some i => (match i.zero with | some zv => isV z zv | none => false)
  | none => false
theorem chkZ_ok {P : Program} {ty : TypeId} {z : AV} (h : chkZ P ty z = true) : ∃ i zv, P.info? ty = some i ∧ i.zero = some zv ∧ isV z zv = true := by
  unfold chkZ at h
  split at h
  case h_2 => cases h
  rename_i i hi
  split at h
  case h_2 => cases h
  rename_i zv hz
  exact ⟨i, zv, hi, hz, h⟩

/-- The places of a struct's, or an array's, parts. -/
def places (P : Program) (ty : TypeId) : Option (Nat → Option (Nat × Nat)) :=
  match P.underlying ty with
  | some (.struct fs) => (fs.toList.mapM fun f => (P.info? f.type).map fun i => (f.offset, i.size)).map fun l => (l.toArray[·]?)
  | some (.array _ e) => (P.info? e).map fun i => fun k => some (k * i.size, i.size)
  | _ => none
theorem places_ok {P : Program} {ty : TypeId} {pl : Nat → Option (Nat × Nat)} {i : TypeInfo} {zv : Value} (h : places P ty = some pl) (hi : P.info? ty = some i) (hz : i.zero = some zv) (parts : List (Nat × Value)) : P.built ty parts = Instr.fill pl zv.cells parts := by
  unfold places at h
  unfold Program.built
  split at h
  · rename_i fs hu
    simp only [Option.map_eq_some_iff] at h
    obtain ⟨l, hl, rfl⟩ := h
    simp [hi, hu, hz, hl]
  · rename_i n e hu
    simp only [Option.map_eq_some_iff] at h
    obtain ⟨ie, hie, rfl⟩ := h
    simp [hi, hu, hz, hie]
  · cases h

/-- That the abstract operation is the program's: operations that call nothing. -/
def chkH (P : Program) (o : Op) : PO → Bool
  | .mv x => (match o with
    | .move y => chkX y x | .assign y => chkX y x
    | _ => false)
  | .pick c x y => (match o with
    | .pick c' x' y' => chkX c' c && chkX x' x && chkX y' y
    | _ => false)
  | .al _ z => (match o with
    | .alloc e => chkZ P e z && z.solid
    | _ => false)
  | .bx x => (match o with
    | .box _ x' => chkX x' x
    | _ => false)
  | .bxm _ x => (match o with
    | .box _ x' => chkX x' x
    | _ => false)
  | .bxd _ x => (match o with
    | .box _ x' => chkX x' x
    | _ => false)
  | .bld z ps => (match o with
    | .build ty ps' => (match P.info? ty, places P ty with
      | some i, some pl => (match i.zero with | some zv => isVs z zv.cells.toList | none => false) && chkPs pl ps'.toList ps
      | _, _ => false)
    | _ => false)
  | .bsl z n ps => (match o with
    | .buildSlice ty n' ps' => n == n' && chkEl P ty z.cells.length (some z) && decide (n * z.cells.length ≤ 16777216) && chkEs ps'.toList ps
    | _ => false)
  | .bslm _ z n ps => (match o with
    | .buildSlice ty n' ps' => n == n' && chkEl P ty z.cells.length (some z) && decide (n * z.cells.length ≤ 16777216) && chkEs ps'.toList ps
    | _ => false)
  | .ld n x => (match o with
    | .load ty x' => chkX x' x && chkLd P ty n
    | _ => false)
  | .st n x v => (match o with
    | .store ty x' v' => chkX x' x && chkX v' v && (match P.info? ty with | some i => i.size == n | none => false)
    | _ => false)
  | .nc x => (match o with
    | .nilCheck x' => chkX x' x
    | _ => false)
  | .bn op kd x y => (match o with
    | .binOp op' ty x' y' _ => decide (op' = op) && chkX x' x && chkX y' y && (kd == 0 || (match P.underlying ty with | some d => kindOf d == kd | none => false))
    | _ => false)
  | .eqs neg ks x y => (match o with
    | .binOp op ty x' y' _ => chkX x' x && chkX y' y && ((decide (op = .eql) && !neg) || (decide (op = .neq) && neg)) && (match P.underlying ty with | some (.struct _) => true | _ => false) && decide (kindsOf P 20 ty = some ks) && !P.eqGuardType P.depth ty
    | _ => false)
  | .nlt neg x => (match o with
    | .binOp op ty x' (.const (.slice none 0 0)) _ => chkX x' x && ((decide (op = .eql) && !neg) || (decide (op = .neq) && neg)) && (match P.underlying ty with | some (.slice _) => true | _ => false)
    | _ => false)
  | .un op x => (match o with
    | .unOp op' _ x' => decide (op' = op) && chkX x' x
    | _ => false)
  | .cv k x => (match o with
    | .convert src dst x' => chkX x' x && (P.underlying src).isSome && isInt P dst k
    | _ => false)
  | .cvs x => (match o with
    | .convert src dst x' => chkX x' x && isStr P src && isStr P dst
    | _ => false)
  | .cvl x => (match o with
    | .convert src dst x' => src == dst && chkX x' x && isBytes P src
    | _ => false)
  | .cvu x => (match o with
    | .convert src dst x' => chkX x' x && (match P.underlying src, P.underlying dst with
      | some (.pointer ty), some .unsafePointer => decide ((P.info? ty).map (fun i => decide (i.size = 0)) = some false)
      | _, _ => false)
    | _ => false)
  | .b2s x => (match o with
    | .convert src dst x' => chkX x' x && isBytes P src && isStr P dst
    | _ => false)
  | .s2b _ x => (match o with
    | .convert src dst x' => chkX x' x && isStr P src && isBytes P dst
    | _ => false)
  | .fa off x => (match o with
    | .fieldAddr s x' f => chkX x' x && (match P.underlying s with
      | some (.struct fs) => (match fs[f]? with
        | some fd => fd.offset == off && (match P.info? fd.type with | some i => i.size != 0 | none => false)
        | none => false)
      | _ => false)
    | _ => false)
  | .fd off n x => (match o with
    | .field s x' f => chkX x' x && (match P.underlying s with
      | some (.struct fs) => (match fs[f]? with
        | some fd => fd.offset == off && chkLd P fd.type n
        | none => false)
      | _ => false)
    | _ => false)
  | .ia s x i => (match o with
    | .indexAddr ty x' i' => chkX x' x && chkX i' i && (match P.underlying ty with
      | some (.slice e) => (match P.info? e with | some inf => inf.size == s | none => false)
      | _ => false)
    | _ => false)
  | .iaa m s x i => (match o with
    | .indexAddr ty x' i' => chkX x' x && chkX i' i && (match P.underlying ty with
      | some (.array m' e) => m' == m && (match P.info? e with | some inf => inf.size == s | none => false)
      | _ => false)
    | _ => false)
  | .ix x i => (match o with
    | .index ty x' i' => chkX x' x && chkX i' i && isStr P ty
    | _ => false)
  | .ixa m s ag x i => (match o with
    | .index ty x' i' => chkX x' x && chkX i' i && (match P.underlying ty with
      | some (.array m' e) => m' == m && (match P.info? e, P.underlying e with | some inf, some d => inf.size == s && d.isRow == ag | _, _ => false)
      | _ => false)
    | _ => false)
  | .sl s x lo hi mx => (match o with
    | .slice ty x' lo' hi' mx' => chkX x' x && chkO lo' lo && chkO hi' hi && chkO mx' mx && (!mx.isSome || hi.isSome) && (match P.underlying ty with
      | some (.slice e) => (match P.info? e with | some inf => inf.size == s | none => false)
      | _ => false)
    | _ => false)
  | .sls x lo hi => (match o with
    | .slice ty x' lo' hi' none => chkX x' x && chkO lo' lo && chkO hi' hi && isStr P ty
    | _ => false)
  | .mk _ z l c => (match o with
    | .makeSlice ty l' c' => chkX l' l && chkX c' c && chkEl P ty z.cells.length (some z)
    | _ => false)
  | .mkf z l c => (match o with
    | .makeSlice ty l' c' => chkX l' l && chkX c' c && chkEl P ty z.cells.length (some z) && z.pure
    | _ => false)
  | .ext x i => (match o with
    | .extract x' i' => chkX x' x && i' == i
    | _ => false)
  | .mf f fi ca => (match o with
    | .makeFunc (.func f') fi' ca' => f' == f && chkXs fi'.toList fi && chkXs ca'.toList ca
    | _ => false)
  | .mi ty x => (match o with
    | .makeInterface ty' x' => ty' == ty && chkX x' x && (match P.underlying ty with | some (.interface _) => false | some _ => true | none => false)
    | _ => false)
  | .ta ty ok z x => (match o with
    | .typeAssert x' _ ty' ok' => ty' == ty && ok' == ok && chkX x' x && chkZ P ty z && (match P.underlying ty with | some (.interface _) => false | some _ => true | none => false)
    | _ => false)
  | .len str x => (match o with
    | .call ⟨.builtin .len, ⟨[x']⟩, ⟨[ty]⟩⟩ => chkX x' x && (match P.underlying ty with | some .string => str | some (.slice _) => !str | _ => false)
    | _ => false)
  | .lenk n => (match o with
    | .call ⟨.builtin .len, ⟨[_]⟩, ⟨[ty]⟩⟩ => (match P.underlying ty with | some (.array n' _) => n' == n | _ => false)
    | _ => false)
  | .app _ s x y => (match o with
    | .call ⟨.builtin .append, ⟨[x', y']⟩, ⟨[tS, tX]⟩⟩ => chkX x' x && chkX y' y && chkEl P tS s none && (match P.underlying tX with | some .string => true | some (.slice _) => true | _ => false)
    | _ => false)
  | .cpy s x y => (match o with
    | .call ⟨.builtin .copy, ⟨[x', y']⟩, ⟨[tS, _]⟩⟩ => chkX x' x && chkX y' y && chkEl P tS s none
    | _ => false)
  | .mn l => (match o with
    | .call ⟨.builtin .min, l', _⟩ => chkXs l'.toList l
    | _ => false)
  | .mx l => (match o with
    | .call ⟨.builtin .max, l', _⟩ => chkXs l'.toList l
    | _ => false)
  | .clr z x => (match o with
    | .call ⟨.builtin .clear, ⟨[x']⟩, ⟨[ty]⟩⟩ => chkX x' x && chkEl P ty z.cells.length (some z)
    | _ => false)
  | .bad => true
  | _ => false

section
variable {P : Program} {w0 : World} {X0 : Nat → Prop} {w : World} {h : AHeap} {loc : Nat → Nat} {a : Act} {t : List AV} {o : Oper} {b : Nat}

set_option maxHeartbeats 1000000 in
theorem opH_sound {po : PO} {v : AV} {h1 : AHeap} (W : Wrel w0 X0 w h loc) (S : Slots w h loc (XH X0 h loc) t a.tmps) (hc : chkH P o.op po = true) (hv : opH t h b po = some (v, h1)) : OpOK ((execOp a.eval o).run P w) w0 X0 w h loc v h1 := by
  cases po with
  | mv x =>
    simp only [chkH] at hc
    simp only [opH, Option.some.injEq, Prod.mk.injEq] at hv
    obtain ⟨rfl, rfl⟩ := hv
    split at hc
    · rename_i y ho; exact ok_mv W S (.inl ho) hc
    · rename_i y ho; exact ok_mv W S (.inr ho) hc
    · cases hc
  | pick c x y =>
    simp only [chkH] at hc
    split at hc
    case h_2 => cases hc
    rename_i ho
    simp only [Bool.and_eq_true] at hc
    exact ok_pick W S ho hc.1.1 hc.1.2 hc.2 hv
  | al r z =>
    simp only [chkH] at hc
    split at hc
    case h_2 => cases hc
    rename_i ho
    simp only [Bool.and_eq_true] at hc
    obtain ⟨i, zv, h1, h2, h3⟩ := chkZ_ok hc.1
    exact ok_al W S ho h1 h2 h3 hc.2 hv
  | bx x =>
    simp only [chkH] at hc
    split at hc
    case h_2 => cases hc
    rename_i ho
    exact ok_bx W S ho hc hv
  | bxm r x =>
    simp only [chkH] at hc
    split at hc
    case h_2 => cases hc
    rename_i ho
    exact ok_bxm W S ho hc hv
  | bxd r x =>
    simp only [chkH] at hc
    split at hc
    case h_2 => cases hc
    rename_i ho
    by_cases hp : ((xv t x).solid && (xv t x).pure) = true
    · exact ok_bx W S ho hc (b := b) (by simp only [opH, hp, if_true] at hv ⊢; exact hv)
    · exact ok_bxm W S ho hc (b := b) (r := r) (by simp only [opH, hp, if_false, Bool.false_eq_true] at hv ⊢; exact hv)
  | bld z ps =>
    simp only [chkH] at hc
    split at hc
    case h_2 => cases hc
    rename_i ho
    split at hc
    case h_2 => cases hc
    rename_i i pl hi hpl
    simp only [Bool.and_eq_true] at hc
    obtain ⟨hc1, hc2⟩ := hc
    split at hc1
    case h_2 => cases hc1
    rename_i zv hz
    exact ok_bld W S ho hi hz hc1 (fun parts => places_ok hpl hi hz parts) hc2 hv
  | bsl z n ps =>
    simp only [chkH] at hc
    split at hc
    case h_2 => cases hc
    rename_i ho
    simp only [Bool.and_eq_true, beq_iff_eq, decide_eq_true_eq] at hc
    obtain ⟨⟨⟨rfl, h2⟩, h3⟩, h4⟩ := hc
    obtain ⟨e, i, zv, g1, g2, g3, g4, g5, g6, g7⟩ := chkEl_ok h2
    obtain ⟨g8, g9, _⟩ := g7 z rfl
    exact ok_bsl W S ho g1 g2 g5 g8 g9 g3 (by rw [g3]; exact h3) h4 hv
  | bslm r z n ps =>
    simp only [chkH] at hc
    split at hc
    case h_2 => cases hc
    rename_i ho
    simp only [Bool.and_eq_true, beq_iff_eq, decide_eq_true_eq] at hc
    obtain ⟨⟨⟨rfl, h2⟩, h3⟩, h4⟩ := hc
    obtain ⟨e, i, zv, g1, g2, g3, g4, g5, g6, g7⟩ := chkEl_ok h2
    obtain ⟨g8, g9, _⟩ := g7 z rfl
    exact ok_bslm W S ho g1 g2 g5 g8 g9 g3 (by rw [g3]; exact h3) h4 hv
  | ld n x =>
    simp only [chkH] at hc
    split at hc
    case h_2 => cases hc
    rename_i ho
    simp only [Bool.and_eq_true] at hc
    obtain ⟨d, g1, g2, g3⟩ := chkLd_ok hc.2
    exact ok_ld W S ho hc.1 g1 g2 g3 hv
  | st n x v =>
    simp only [chkH] at hc
    split at hc
    case h_2 => cases hc
    rename_i ho
    simp only [Bool.and_eq_true] at hc
    obtain ⟨⟨h1, h2⟩, h3⟩ := hc
    split at h3
    case h_2 => cases h3
    rename_i i hi
    exact ok_st W S ho h1 h2 hi (by simpa using h3) hv
  | nc x =>
    simp only [chkH] at hc
    split at hc
    case h_2 => cases hc
    rename_i ho
    exact ok_nc W S ho hc hv
  | bn op kd x y =>
    simp only [chkH] at hc
    split at hc
    case h_2 => cases hc
    rename_i ho
    simp only [Bool.and_eq_true, decide_eq_true_eq, Bool.or_eq_true, beq_iff_eq] at hc
    obtain ⟨⟨⟨rfl, h2⟩, h3⟩, h4⟩ := hc
    refine ok_bn W S ho h2 h3 (fun hk => ?_) hv
    rcases h4 with h4 | h4
    · exact absurd h4 hk
    · split at h4
      · rename_i d hd; exact ⟨d, hd, by simpa using h4⟩
      · cases h4
  | eqs neg ks x y =>
    simp only [chkH] at hc
    split at hc
    case h_2 => cases hc
    rename_i ho
    simp only [Bool.and_eq_true, decide_eq_true_eq, Bool.or_eq_true, Bool.not_eq_true'] at hc
    obtain ⟨⟨⟨⟨⟨h1, h2⟩, h3⟩, h4⟩, h5⟩, h6⟩ := hc
    split at h4
    case h_2 => cases h4
    rename_i fs hu
    exact ok_eqs W S ho h1 h2 h3 hu h5 h6 hv
  | nlt neg x =>
    simp only [chkH] at hc
    split at hc
    case h_2 => cases hc
    rename_i ho
    simp only [Bool.and_eq_true, decide_eq_true_eq, Bool.or_eq_true, Bool.not_eq_true'] at hc
    obtain ⟨⟨h1, h3⟩, h4⟩ := hc
    split at h4
    case h_2 => cases h4
    rename_i e hu
    exact ok_nlt W S ho h1 h3 rfl hu hv
  | un op x =>
    simp only [chkH] at hc
    split at hc
    case h_2 => cases hc
    rename_i ho
    simp only [Bool.and_eq_true, decide_eq_true_eq] at hc
    obtain ⟨rfl, h2⟩ := hc
    exact ok_un W S ho h2 hv
  | cv k x =>
    simp only [chkH] at hc
    split at hc
    case h_2 => cases hc
    rename_i ho
    simp only [Bool.and_eq_true] at hc
    obtain ⟨⟨h1, h2⟩, h3⟩ := hc
    obtain ⟨d, hd⟩ := Option.isSome_iff_exists.1 h2
    exact ok_cv W S ho h1 hd (isInt_ok h3) hv
  | cvs x =>
    simp only [chkH] at hc
    split at hc
    case h_2 => cases hc
    rename_i ho
    simp only [Bool.and_eq_true] at hc
    exact ok_cvs W S ho hc.1.1 (isStr_ok hc.1.2) (isStr_ok hc.2) hv
  | cvl x =>
    simp only [chkH] at hc
    split at hc
    case h_2 => cases hc
    rename_i ho
    simp only [Bool.and_eq_true, beq_iff_eq] at hc
    obtain ⟨⟨rfl, h1⟩, h2⟩ := hc
    obtain ⟨e, h3, h4⟩ := isBytes_ok h2
    exact ok_cvl W S ho h1 h3 h4 hv
  | cvu x =>
    simp only [chkH] at hc
    split at hc
    case h_2 => cases hc
    rename_i ho
    simp only [Bool.and_eq_true] at hc
    obtain ⟨h1, h2⟩ := hc
    split at h2
    case h_2 => cases h2
    rename_i ty hu hu2
    simp only [decide_eq_true_eq] at h2
    exact ok_cvu W S ho h1 hu hu2 h2 hv
  | b2s x =>
    simp only [chkH] at hc
    split at hc
    case h_2 => cases hc
    rename_i ho
    simp only [Bool.and_eq_true] at hc
    obtain ⟨e, g1, g2⟩ := isBytes_ok hc.1.2
    exact ok_b2s W S ho hc.1.1 g1 g2 (isStr_ok hc.2) hv
  | s2b r x =>
    simp only [chkH] at hc
    split at hc
    case h_2 => cases hc
    rename_i ho
    simp only [Bool.and_eq_true] at hc
    obtain ⟨e, g1, g2⟩ := isBytes_ok hc.2
    exact ok_s2b W S ho hc.1.1 (isStr_ok hc.1.2) g1 g2 hv
  | fa off x =>
    simp only [chkH] at hc
    split at hc
    case h_2 => cases hc
    rename_i ho
    simp only [Bool.and_eq_true] at hc
    obtain ⟨h1, h2⟩ := hc
    split at h2
    case h_2 => cases h2
    rename_i fs hs
    split at h2
    case h_2 => cases h2
    rename_i fd hf
    simp only [Bool.and_eq_true, beq_iff_eq] at h2
    obtain ⟨h2, h3⟩ := h2
    split at h3
    case h_2 => cases h3
    rename_i i hi
    exact ok_fa W S ho h1 hs hf h2 hi (by simpa using h3) hv
  | fd off n x =>
    simp only [chkH] at hc
    split at hc
    case h_2 => cases hc
    rename_i ho
    simp only [Bool.and_eq_true] at hc
    obtain ⟨h1, h2⟩ := hc
    split at h2
    case h_2 => cases h2
    rename_i fs hs
    split at h2
    case h_2 => cases h2
    rename_i fd hf
    simp only [Bool.and_eq_true, beq_iff_eq] at h2
    obtain ⟨d, g1, g2, g3⟩ := chkLd_ok h2.2
    exact ok_fd W S ho h1 hs hf h2.1 g1 g2 g3 hv
  | ia s x i =>
    simp only [chkH] at hc
    split at hc
    case h_2 => cases hc
    rename_i ho
    simp only [Bool.and_eq_true] at hc
    obtain ⟨⟨h1, h2⟩, h3⟩ := hc
    split at h3
    case h_2 => cases h3
    rename_i e hs
    split at h3
    case h_2 => cases h3
    rename_i inf he
    exact ok_ia W S ho h1 h2 hs he (by simpa using h3) hv
  | iaa m s x i =>
    simp only [chkH] at hc
    split at hc
    case h_2 => cases hc
    rename_i ho
    simp only [Bool.and_eq_true] at hc
    obtain ⟨⟨h1, h2⟩, h3⟩ := hc
    split at h3
    case h_2 => cases h3
    rename_i m' e hs
    simp only [Bool.and_eq_true, beq_iff_eq] at h3
    obtain ⟨rfl, h3⟩ := h3
    split at h3
    case h_2 => cases h3
    rename_i inf he
    exact ok_iaa W S ho h1 h2 hs he (by simpa using h3) hv
  | ix x i =>
    simp only [chkH] at hc
    split at hc
    case h_2 => cases hc
    rename_i ho
    simp only [Bool.and_eq_true] at hc
    exact ok_ix W S ho hc.1.1 hc.1.2 (isStr_ok hc.2) hv
  | ixa m s ag x i =>
    simp only [chkH] at hc
    split at hc
    case h_2 => cases hc
    rename_i ho
    simp only [Bool.and_eq_true] at hc
    obtain ⟨⟨h1, h2⟩, h3⟩ := hc
    split at h3
    case h_2 => cases h3
    rename_i m' e hs
    simp only [Bool.and_eq_true, beq_iff_eq] at h3
    obtain ⟨rfl, h3⟩ := h3
    split at h3
    case h_2 => cases h3
    rename_i inf d he hd
    simp only [Bool.and_eq_true, beq_iff_eq] at h3
    exact ok_ixa W S ho h1 h2 hs he h3.1 hd h3.2 hv
  | sl s x lo hi mx =>
    simp only [chkH] at hc
    split at hc
    case h_2 => cases hc
    rename_i ho
    simp only [Bool.and_eq_true, Bool.or_eq_true, Bool.not_eq_true'] at hc
    obtain ⟨⟨⟨⟨⟨h1, h2⟩, h3⟩, h4⟩, h5⟩, h6⟩ := hc
    split at h6
    case h_2 => cases h6
    rename_i e hs
    split at h6
    case h_2 => cases h6
    rename_i inf he
    exact ok_sl W S ho h1 h2 h3 h4 (fun hm => by rcases h5 with h5 | h5; rw [hm] at h5; cases h5; exact h5) hs he (by simpa using h6) hv
  | sls x lo hi =>
    simp only [chkH] at hc
    split at hc
    case h_2 => cases hc
    rename_i ho
    simp only [Bool.and_eq_true] at hc
    exact ok_sls W S ho hc.1.1.1 hc.1.1.2 hc.1.2 (isStr_ok hc.2) hv
  | mk r z l c =>
    simp only [chkH] at hc
    split at hc
    case h_2 => cases hc
    rename_i ho
    simp only [Bool.and_eq_true] at hc
    obtain ⟨e, i, zv, g1, g2, g3, g4, g5, g6, g7⟩ := chkEl_ok hc.2
    obtain ⟨g8, g9, _⟩ := g7 z rfl
    exact ok_mk W S ho hc.1.1 hc.1.2 g1 g2 g5 g8 g9 g3 (by omega) hv
  | mkf z l c =>
    simp only [chkH] at hc
    split at hc
    case h_2 => cases hc
    rename_i ho
    simp only [Bool.and_eq_true] at hc
    obtain ⟨e, i, zv, g1, g2, g3, g4, g5, g6, g7⟩ := chkEl_ok hc.1.2
    obtain ⟨g8, g9, _⟩ := g7 z rfl
    exact ok_mkf hc.2 W S ho hc.1.1.1 hc.1.1.2 g1 g2 g5 g8 g9 g3 (by omega) hv
  | ext x i =>
    simp only [chkH] at hc
    split at hc
    case h_2 => cases hc
    rename_i ho
    simp only [Bool.and_eq_true, beq_iff_eq] at hc
    obtain ⟨h1, rfl⟩ := hc
    exact ok_ext W S ho h1 hv
  | mf f fi ca =>
    simp only [chkH] at hc
    split at hc
    case h_2 => cases hc
    rename_i ho
    simp only [Bool.and_eq_true, beq_iff_eq] at hc
    obtain ⟨⟨rfl, h1⟩, h2⟩ := hc
    exact ok_mf W S ho h1 h2 hv
  | mi ty x =>
    simp only [chkH] at hc
    split at hc
    case h_2 => cases hc
    rename_i ho
    simp only [Bool.and_eq_true, beq_iff_eq] at hc
    obtain ⟨⟨rfl, h1⟩, h2⟩ := hc
    split at h2
    · cases h2
    · rename_i d hno hd; exact ok_mi W S ho h1 hd (fun m hm => hno m hm) hv
    · cases h2
  | ta ty ok z x =>
    simp only [chkH] at hc
    split at hc
    case h_2 => cases hc
    rename_i ho
    simp only [Bool.and_eq_true, beq_iff_eq] at hc
    obtain ⟨⟨⟨⟨rfl, rfl⟩, h1⟩, h3⟩, h2⟩ := hc
    obtain ⟨i, zv, g1, g2, g3⟩ := chkZ_ok h3
    split at h2
    · cases h2
    · rename_i d hno hd; exact ok_ta W S ho h1 hd (fun m hm => hno m hm) g1 g2 g3 hv
    · cases h2
  | len str x =>
    simp only [chkH] at hc
    split at hc
    case h_2 => cases hc
    rename_i ho
    simp only [Bool.and_eq_true] at hc
    obtain ⟨h1, h2⟩ := hc
    split at h2
    · rename_i hu; exact ok_len W S ho h1 hu (fun _ => rfl) (fun hs => by rw [h2] at hs; cases hs) hv
    · rename_i e hu; exact ok_len W S ho h1 hu (fun hs => by rw [hs] at h2; cases h2) (fun _ => ⟨e, rfl⟩) hv
    · cases h2
  | lenk n =>
    simp only [chkH] at hc
    split at hc
    case h_2 => cases hc
    rename_i ho
    split at hc
    case h_2 => cases hc
    rename_i n' e hu
    simp only [beq_iff_eq] at hc
    subst hc
    exact ok_lenk (d := .bool) W S ho hu hv
  | app r s x y =>
    simp only [chkH] at hc
    split at hc
    case h_2 => cases hc
    rename_i ho
    simp only [Bool.and_eq_true] at hc
    obtain ⟨⟨⟨h1, h2⟩, h3⟩, h4⟩ := hc
    obtain ⟨e, i, zv, g1, g2, g3, g4, g5, g6, g7⟩ := chkEl_ok h3
    split at h4
    · rename_i hu; exact ok_app W S ho h1 h2 g1 hu (.inl rfl) g2 g5 g6 g3 g4 hv
    · rename_i e' hu; exact ok_app W S ho h1 h2 g1 hu (.inr ⟨e', rfl⟩) g2 g5 g6 g3 g4 hv
    · cases h4
  | cpy s x y =>
    simp only [chkH] at hc
    split at hc
    case h_2 => cases hc
    rename_i ho
    simp only [Bool.and_eq_true] at hc
    obtain ⟨⟨h1, h2⟩, h3⟩ := hc
    obtain ⟨e, i, zv, g1, g2, g3, g4, g5, g6, g7⟩ := chkEl_ok h3
    exact ok_cpy W S ho h1 h2 g1 g2 g3 hv
  | mn l =>
    simp only [chkH] at hc
    split at hc
    case h_2 => cases hc
    rename_i ho
    exact ok_mn W S ho hc hv
  | mx l =>
    simp only [chkH] at hc
    split at hc
    case h_2 => cases hc
    rename_i ho
    exact ok_mx W S ho hc hv
  | clr z x =>
    simp only [chkH] at hc
    split at hc
    case h_2 => cases hc
    rename_i ho
    simp only [Bool.and_eq_true] at hc
    obtain ⟨e, i, zv, g1, g2, g3, g4, g5, g6, g7⟩ := chkEl_ok hc.2
    obtain ⟨g8, g9, _⟩ := g7 z rfl
    exact ok_clr W S ho hc.1 g1 g2 g5 g8 g9 hv
  | call m f args => simp [chkH] at hc
  | callv m x args => simp [chkH] at hc
  | inv m tbl x args => simp [chkH] at hc
  | bad => simp [opH] at hv
end
end Go.Proofs.Abs

-- ---- Abs16
set_option linter.unusedSimpArgs false
set_option linter.unusedVariables false
namespace Go.Proofs.Abs
open Go.RowKit

/-- What has no reference is the same in every abstract heap. -/
theorem Rep.any {w : World} {h : AHeap} {loc : Nat → Nat} {X : Nat → Prop} : ∀ {a : AV} {v : Value}, Rep w h loc X a v → a.pure = true → ∀ (h' : AHeap) (loc' : Nat → Nat), Rep w h' loc' X a v := by
  intro a v hr
  induction hr with
  | int k n => intro _ h' loc'; exact .int k n
  | bool b => intro _ h' loc'; exact .bool b
  | str l => intro _ h' loc'; exact .str l
  | nilp => intro _ h' loc'; exact .nilp
  | niface => intro _ h' loc'; exact .niface
  | nfun => intro _ h' loc'; exact .nfun
  | agg l c hl _ ih =>
    intro hp h' loc'
    simp only [AV.pure] at hp
    exact .agg l c hl (fun i h1 h2 => ih i h1 h2 (pures_iff.1 hp _ (List.getElem_mem h1)) h' loc')
  | tup l c hl _ ih =>
    intro hp h' loc'
    simp only [AV.pure] at hp
    exact .tup l c hl (fun i h1 h2 => ih i h1 h2 (pures_iff.1 hp _ (List.getElem_mem h1)) h' loc')
  | fn f a b c d ha hb _ _ iha ihb =>
    intro hp h' loc'
    simp only [AV.pure, Bool.and_eq_true] at hp
    exact .fn f a b c d ha hb (fun i h1 h2 => iha i h1 h2 (pures_iff.1 hp.1 _ (List.getElem_mem h1)) h' loc') (fun i h1 h2 => ihb i h1 h2 (pures_iff.1 hp.2 _ (List.getElem_mem h1)) h' loc')
  | ifc t v x _ ih => intro hp h' loc'; exact .ifc t v x (ih (by simpa [AV.pure] using hp) h' loc')
  | lst0 full a cap hc => intro _ h' loc'; exact .lst0 full a cap hc
  | lst full l hne s b o cap val hc hcap hX hb hs hlf hp hcell _ ih =>
    intro _ h' loc'
    refine .lst full l hne s b o cap val hc hcap hX hb hs hlf hp hcell (fun k hk => ih k hk ?_ h' loc')
    have hm := List.getElem_mem hk
    simp only [flat, List.mem_flatMap] at hm
    obtain ⟨x, hx, hy⟩ := hm
    exact pure_cells (hp x hx) _ hy
  | own id n off len a cap hb hcap hg => intro hp; simp [AV.pure] at hp
  | ptr id n idx off a hb hg => intro hp; simp [AV.pure] at hp
  | fp l b o val hX hb hlf hp hcell _ ih =>
    intro _ h' loc'
    exact .fp l b o val hX hb hlf hp hcell (fun k hk => ih k hk (hp _ (List.getElem_mem hk)) h' loc')
  | top v => intro _ h' loc'; exact .top v

theorem Rep.mono {w : World} {h : AHeap} {loc : Nat → Nat} {X X' : Nat → Prop} {a : AV} {v : Value} (hr : Rep w h loc X a v) (hX : ∀ b, b < w.heap.size → X' b → X b) : Rep w h loc X' a v :=
  hr.keep (X' := X') ⟨Nat.le_refl _, fun _ _ _ => rfl, fun _ _ _ => rfl, fun _ _ h => h, hX, fun _ _ h => h, fun _ _ _ => rfl, fun _ _ _ _ => rfl, fun _ _ _ h => ⟨h, rfl⟩, fun _ _ _ _ _ _ h => h⟩

mutual
/-- Nothing that leads into memory. -/
def AV.ground : AV → Bool
  | .int .. | .bool _ | .str _ | .nilp | .niface | .nfun => true
  | .agg l | .tup l => grounds l
  | .ifc _ v => v.ground
  | _ => false
def grounds : List AV → Bool
  | [] => true
  | v :: l => v.ground && grounds l
end

theorem grounds_iff : ∀ {l : List AV}, grounds l = true ↔ ∀ x ∈ l, x.ground = true
  | [] => by simp [grounds]
  | x :: l => by simp [grounds, grounds_iff (l := l)]

theorem Rep.ground_any {w : World} {h : AHeap} {loc : Nat → Nat} {X : Nat → Prop} : ∀ {a : AV} {v : Value}, Rep w h loc X a v → a.ground = true → ∀ (w' : World) (h' : AHeap) (loc' : Nat → Nat) (X' : Nat → Prop), Rep w' h' loc' X' a v := by
  intro a v hr
  induction hr with
  | int k n => intro _ w' h' loc' X'; exact .int k n
  | bool b => intro _ w' h' loc' X'; exact .bool b
  | str l => intro _ w' h' loc' X'; exact .str l
  | nilp => intro _ w' h' loc' X'; exact .nilp
  | niface => intro _ w' h' loc' X'; exact .niface
  | nfun => intro _ w' h' loc' X'; exact .nfun
  | agg l c hl _ ih =>
    intro hp w' h' loc' X'
    simp only [AV.ground] at hp
    exact .agg l c hl (fun i h1 h2 => ih i h1 h2 (grounds_iff.1 hp _ (List.getElem_mem h1)) w' h' loc' X')
  | tup l c hl _ ih =>
    intro hp w' h' loc' X'
    simp only [AV.ground] at hp
    exact .tup l c hl (fun i h1 h2 => ih i h1 h2 (grounds_iff.1 hp _ (List.getElem_mem h1)) w' h' loc' X')
  | ifc t v x _ ih => intro hp w' h' loc' X'; exact .ifc t v x (ih (by simpa [AV.ground] using hp) w' h' loc' X')
  | _ => intro hp; simp [AV.ground] at hp

section
variable {P : Program} {w0 : World} {X0 : Nat → Prop} {w : World} {h : AHeap} {loc : Nat → Nat}

theorem frzs_get : ∀ {l l1 : List AV}, frzs h l = some l1 → l1.length = l.length ∧ ∀ i (h1 : i < l.length) (h2 : i < l1.length), (l[i]).frz h = some l1[i]
  | [], l1, hf => by simp [frzs] at hf; subst hf; exact ⟨rfl, fun i h1 => by simp at h1⟩
  | x :: l, l1, hf => by
    simp only [frzs, Option.bind_eq_some_iff, Option.map_eq_some_iff] at hf
    obtain ⟨y, hy, m, hm, rfl⟩ := hf
    obtain ⟨e1, e2⟩ := frzs_get hm
    refine ⟨by simp [e1], fun i h1 h2 => ?_⟩
    cases i with
    | zero => exact hy
    | succ i => exact e2 i (by simpa using h1) (by simpa using h2)

mutual
/-- The blocks that a value leads to. -/
def AV.ids : AV → List Nat
  | .own id .. | .ptr id .. => [id]
  | .agg l | .tup l => idss l
  | .fn _ a b => idss a ++ idss b
  | .ifc _ v => v.ids
  | _ => []
def idss : List AV → List Nat
  | [] => []
  | v :: l => v.ids ++ idss l
end

theorem mem_idss {id : Nat} {x : AV} (hi : id ∈ x.ids) : ∀ {l : List AV}, x ∈ l → id ∈ idss l
  | y :: l, hx => by
    rw [idss, List.mem_append]
    rcases List.mem_cons.1 hx with rfl | hx
    · exact .inl hi
    · exact .inr (mem_idss hi hx)

mutual
theorem frz_live : ∀ (a a1 : AV), a.frz h = some a1 → ∀ id ∈ a.ids, ∃ k, h[id]? = some k ∧ k.st = .live
  | .own id n off len, a1, hf, i, hi => by
    simp only [AV.ids, List.mem_singleton] at hi
    subst hi
    simp only [AV.frz, Option.bind_eq_some_iff] at hf
    obtain ⟨l, hl, _⟩ := hf
    unfold win at hl
    split at hl
    · rename_i hh; exact ⟨_, hh, rfl⟩
    · cases hl
  | .ptr id n idx off, a1, hf, i, hi => by
    simp only [AV.ids, List.mem_singleton] at hi
    subst hi
    simp only [AV.frz] at hf
    split at hf
    · rename_i hh; exact ⟨_, hh, rfl⟩
    · cases hf
  | .agg l, a1, hf, i, hi => by
    simp only [AV.frz, Option.map_eq_some_iff] at hf
    obtain ⟨m, hm, _⟩ := hf
    exact frzs_live l m hm i (by simpa [AV.ids] using hi)
  | .tup l, a1, hf, i, hi => by
    simp only [AV.frz, Option.map_eq_some_iff] at hf
    obtain ⟨m, hm, _⟩ := hf
    exact frzs_live l m hm i (by simpa [AV.ids] using hi)
  | .fn f a b, a1, hf, i, hi => by
    simp only [AV.frz, Option.bind_eq_some_iff, Option.map_eq_some_iff] at hf
    obtain ⟨m, hm, m2, hm2, _⟩ := hf
    simp only [AV.ids, List.mem_append] at hi
    rcases hi with hi | hi
    · exact frzs_live a m hm i hi
    · exact frzs_live b m2 hm2 i hi
  | .ifc t v, a1, hf, i, hi => by
    simp only [AV.frz, Option.map_eq_some_iff] at hf
    obtain ⟨m, hm, _⟩ := hf
    exact frz_live v m hm i (by simpa [AV.ids] using hi)
  | .int .., _, _, _, hi => by simp [AV.ids] at hi
  | .bool _, _, _, _, hi => by simp [AV.ids] at hi
  | .str _, _, _, _, hi => by simp [AV.ids] at hi
  | .nilp, _, _, _, hi => by simp [AV.ids] at hi
  | .niface, _, _, _, hi => by simp [AV.ids] at hi
  | .nfun, _, _, _, hi => by simp [AV.ids] at hi
  | .lst .., _, _, _, hi => by simp [AV.ids] at hi
  | .fp _, _, _, _, hi => by simp [AV.ids] at hi
  | .top, _, _, _, hi => by simp [AV.ids] at hi
theorem frzs_live : ∀ (l m : List AV), frzs h l = some m → ∀ id ∈ idss l, ∃ k, h[id]? = some k ∧ k.st = .live
  | [], _, _, _, hi => by simp [idss] at hi
  | x :: l, m, hf, i, hi => by
    simp only [frzs, Option.bind_eq_some_iff, Option.map_eq_some_iff] at hf
    obtain ⟨y, hy, m, hm, _⟩ := hf
    simp only [idss, List.mem_append] at hi
    rcases hi with hi | hi
    · exact frz_live x y hy i hi
    · exact frzs_live l m hm i hi
end

/-- What is told of a value whose blocks are written no more: where nothing frozen may lie in 'X1'. -/
theorem Rep.frzX (W : Wrel w0 X0 w h loc) {X1 : Nat → Prop} (hXm : ∀ b, b < w.heap.size → X1 b → XH X0 h loc b) : ∀ {a : AV} {v : Value}, Rep w h loc (XH X0 h loc) a v → ∀ a1, a.frz h = some a1 → a1.pure = true ∧ ((∀ id ∈ a.ids, ¬ X1 (loc id)) → ∀ h1 loc', Rep w h1 loc' X1 a1 v) := by
  intro a v hr
  have hr0 := hr
  induction hr with
  | int k n => intro a1 hf; simp [AV.frz] at hf; subst hf; exact ⟨rfl, fun _ _ _ => .int k n⟩
  | bool b => intro a1 hf; simp [AV.frz] at hf; subst hf; exact ⟨rfl, fun _ _ _ => .bool b⟩
  | str l => intro a1 hf; simp [AV.frz] at hf; subst hf; exact ⟨rfl, fun _ _ _ => .str l⟩
  | nilp => intro a1 hf; simp [AV.frz] at hf; subst hf; exact ⟨rfl, fun _ _ _ => .nilp⟩
  | niface => intro a1 hf; simp [AV.frz] at hf; subst hf; exact ⟨rfl, fun _ _ _ => .niface⟩
  | nfun => intro a1 hf; simp [AV.frz] at hf; subst hf; exact ⟨rfl, fun _ _ _ => .nfun⟩
  | agg l c hl hr ih =>
    intro a1 hf
    simp only [AV.frz, Option.map_eq_some_iff] at hf
    obtain ⟨m, hm, rfl⟩ := hf
    obtain ⟨e1, e2⟩ := frzs_get hm
    refine ⟨?_, fun hi h1' loc' => .agg m c (by omega) (fun i h1 h2 => (ih i (by omega) h2 (hr i (by omega) h2) m[i] (e2 i (by omega) h1)).2 (fun j hj => hi j (by simpa [AV.ids] using mem_idss hj (List.getElem_mem (by omega)))) h1' loc')⟩
    simp only [AV.pure]
    rw [pures_iff]
    intro x hx
    obtain ⟨i, hi, rfl⟩ := List.getElem_of_mem hx
    exact (ih i (by omega) (by omega) (hr i (by omega) (by omega)) m[i] (e2 i (by omega) hi)).1
  | tup l c hl hr ih =>
    intro a1 hf
    simp only [AV.frz, Option.map_eq_some_iff] at hf
    obtain ⟨m, hm, rfl⟩ := hf
    obtain ⟨e1, e2⟩ := frzs_get hm
    refine ⟨?_, fun hi h1' loc' => .tup m c (by omega) (fun i h1 h2 => (ih i (by omega) h2 (hr i (by omega) h2) m[i] (e2 i (by omega) h1)).2 (fun j hj => hi j (by simpa [AV.ids] using mem_idss hj (List.getElem_mem (by omega)))) h1' loc')⟩
    simp only [AV.pure]
    rw [pures_iff]
    intro x hx
    obtain ⟨i, hi, rfl⟩ := List.getElem_of_mem hx
    exact (ih i (by omega) (by omega) (hr i (by omega) (by omega)) m[i] (e2 i (by omega) hi)).1
  | fn f a b c d ha hb hra hrb iha ihb =>
    intro a1 hf
    simp only [AV.frz, Option.bind_eq_some_iff, Option.map_eq_some_iff] at hf
    obtain ⟨m, hm, m2, hm2, rfl⟩ := hf
    obtain ⟨e1, e2⟩ := frzs_get hm
    obtain ⟨g1, g2⟩ := frzs_get hm2
    refine ⟨?_, fun hi h1' loc' => .fn f m m2 c d (by omega) (by omega) (fun i h1 h2 => (iha i (by omega) h2 (hra i (by omega) h2) m[i] (e2 i (by omega) h1)).2 (fun j hj => hi j (by simpa [AV.ids] using .inl (mem_idss hj (List.getElem_mem (by omega))))) h1' loc') (fun i h1 h2 => (ihb i (by omega) h2 (hrb i (by omega) h2) m2[i] (g2 i (by omega) h1)).2 (fun j hj => hi j (by simpa [AV.ids] using .inr (mem_idss hj (List.getElem_mem (by omega))))) h1' loc')⟩
    simp only [AV.pure, Bool.and_eq_true]
    rw [pures_iff, pures_iff]
    refine ⟨fun x hx => ?_, fun x hx => ?_⟩
    · obtain ⟨i, hi, rfl⟩ := List.getElem_of_mem hx
      exact (iha i (by omega) (by omega) (hra i (by omega) (by omega)) m[i] (e2 i (by omega) hi)).1
    · obtain ⟨i, hi, rfl⟩ := List.getElem_of_mem hx
      exact (ihb i (by omega) (by omega) (hrb i (by omega) (by omega)) m2[i] (g2 i (by omega) hi)).1
  | ifc t v x hr ih =>
    intro a1 hf
    simp only [AV.frz, Option.map_eq_some_iff] at hf
    obtain ⟨y, hy, rfl⟩ := hf
    obtain ⟨e1, e2⟩ := ih hr y hy
    exact ⟨by simpa [AV.pure] using e1, fun hi h1' loc' => .ifc t y x (e2 (fun j hj => hi j (by simpa [AV.ids] using hj)) h1' loc')⟩
  | lst0 full a cap hc =>
    intro a1 hf
    simp [AV.frz] at hf
    subst hf
    exact ⟨rfl, fun _ _ _ => .lst0 _ _ _ (fun hh => by cases hh)⟩
  | lst full l hne s b o cap val hc hcap hX hb hs hlf hp hcell hr _ =>
    intro a1 hf
    simp [AV.frz] at hf
    subst hf
    refine ⟨rfl, fun _ h1' loc' => ?_⟩
    have h1 : Rep w h loc (XH X0 h loc) (.lst false l) (.slice (some ⟨b, o, none⟩) l.length cap) := .lst false l hne s b o cap val (fun hh => by cases hh) hcap hX hb hs hlf hp hcell hr
    exact (h1.any rfl h1' loc').mono hXm
  | own id n off len ad cap hb hcap hg =>
    intro a1 hf
    simp only [AV.frz, Option.bind_eq_some_iff] at hf
    obtain ⟨l, hl, hf⟩ := hf
    split at hf
    case isFalse => cases hf
    rename_i hpu
    simp only [Option.some.injEq] at hf
    subst hf
    refine ⟨rfl, fun hi h1' loc' => ?_⟩
    obtain ⟨s, es, row, et, fr, hid, hle, hle2, hlen, hsl, hlf, hrow, hcv⟩ := win_at W hl
    obtain ⟨rfl, _⟩ := hg ⟨_, hid, rfl, rfl⟩
    have hsa : sizeAt h id = s := by simp [sizeAt, hid]
    rw [hsa]
    by_cases h0 : l = []
    · subst h0
      have : len = 0 := by simpa using hlen.symm
      subst this
      exact .lst0 _ _ _ (fun hh => by cases hh)
    · rw [← hlen]
      have hat := W.heap.blk id _ hid rfl
      refine .lst false l h0 s (loc id) (off * s) cap (fun k => row.getD (off * s + k) undef) (fun hh => by cases hh) (by omega) (fun hx => hi id (by simp [AV.ids]) hx) (Array.getElem?_eq_some_iff.1 hrow).1 hsl hlf (pures_iff.1 hpu) (fun k hk => (hcv k hk).1) (fun k hk => ?_)
      · have hm := List.getElem_mem hk
        simp only [flat, List.mem_flatMap] at hm
        obtain ⟨x, hx, hy⟩ := hm
        exact ((hcv k hk).2.any (pure_cells (pures_iff.1 hpu x hx) _ hy) h1' loc').mono hXm
  | ptr id n idx off ad hb hg =>
    intro a1 hf
    simp only [AV.frz] at hf
    split at hf
    case h_2 => cases hf
    rename_i s v es hid
    split at hf
    case isFalse => cases hf
    rename_i hv
    subst hv
    simp only [Option.bind_eq_some_iff] at hf
    obtain ⟨e, he, hf⟩ := hf
    split at hf
    case isFalse => cases hf
    rename_i hpu
    simp only [Option.some.injEq] at hf
    subst hf
    refine ⟨rfl, fun hid2 h1' loc' => ?_⟩
    obtain ⟨hi, rfl⟩ := List.getElem?_eq_some_iff.1 he
    obtain rfl := hg ⟨_, hid, rfl, rfl⟩
    have hsa : sizeAt h id = s := by simp [sizeAt, hid]
    rw [hsa]
    have hat : BlkAt _ _ _ _ _ (loc id) s es := W.heap.blk id _ hid rfl
    obtain ⟨row, et, fr, hrow, hfr, hlen, hval⟩ := hat.row
    have hs : es[idx].cells.length = s := hat.s _ (List.getElem_mem hi)
    have hbd : ∀ k, k < s → idx * s + k < (flat es).length := fun k hk => by
      rw [flat_length hat.s]
      have : (idx + 1) * s ≤ es.length * s := Nat.mul_le_mul_right _ hi
      rw [Nat.add_mul] at this
      omega
    have hcv : ∀ k (hk : k < (es[idx].cells.drop off).length), w.cell? ⟨loc id, idx * s + off + k, none⟩ = some (row.getD (idx * s + off + k) undef) ∧
        Rep w h loc (XH X0 h loc) (es[idx].cells.drop off)[k] (row.getD (idx * s + off + k) undef) := by
      intro k hk
      have hk' := hk
      simp at hk'
      have hlt := hbd (off + k) (by omega)
      obtain ⟨u, hu1, hu2⟩ := hval _ hlt
      have hfg := flat_get hat.s hi (j := off + k) (by omega)
      rw [List.getElem?_eq_getElem hlt] at hfg
      have he2 : (es[idx].cells.drop off)[k] = (flat es)[idx * s + (off + k)] := by
        have h3 : (es[idx].cells.drop off)[k]? = some (flat es)[idx * s + (off + k)] := by rw [List.getElem?_drop, ← hfg]
        rw [List.getElem?_eq_getElem hk] at h3
        exact Option.some.inj h3
      have hg1 : row.getD (idx * s + off + k) undef = u := by
        rw [Array.getD_eq_getD_getElem?, Nat.add_assoc, hu1]; rfl
      rw [he2, hg1]
      refine ⟨?_, hu2⟩
      rw [Nat.add_assoc]
      simp [World.cell?, hrow, hu1]
    have hpc := pure_cells hpu
    refine .fp _ _ _ (fun k => row.getD (idx * s + off + k) undef) (fun hx => hid2 id (by simp [AV.ids]) hx) (Array.getElem?_eq_some_iff.1 hrow).1 (fun x hx => ?_) (fun x hx => hpc x (List.mem_of_mem_drop hx)) (fun k hk => (hcv k hk).1) (fun k hk => ?_)
    · refine hat.leaf x ?_
      simp only [flat, List.mem_flatMap]
      exact ⟨_, List.getElem_mem hi, List.mem_of_mem_drop hx⟩
    · exact ((hcv k hk).2.any (hpc _ (List.mem_of_mem_drop (List.getElem_mem hk))) h1' loc').mono hXm
  | fp l b o val hX hb hlf hp hcell hr _ =>
    intro a1 hf
    simp [AV.frz] at hf
    subst hf
    exact ⟨rfl, fun _ h1' loc' => (hr0.any rfl h1' loc').mono hXm⟩
  | top v => intro a1 hf; simp [AV.frz] at hf; subst hf; exact ⟨rfl, fun _ _ _ => .top v⟩

theorem Rep.frz (W : Wrel w0 X0 w h loc) {a : AV} {v : Value} (hr : Rep w h loc (XH X0 h loc) a v) (a1 : AV) (hf : a.frz h = some a1) : a1.pure = true ∧ ∀ loc', Rep w [] loc' X0 a1 v := by
  obtain ⟨e1, e2⟩ := Rep.frzX W (X1 := X0) (fun b _ hx => .inl hx) hr a1 hf
  refine ⟨e1, fun loc' => e2 (fun id hid hx => ?_) [] loc'⟩
  obtain ⟨k, hk, hl⟩ := frz_live a a1 hf id hid
  exact (W.x0 _ hx).2 ⟨id, k, hk, hl, rfl⟩
end
end Go.Proofs.Abs
