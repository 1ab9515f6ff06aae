/- An abstract evaluator of Go code (plain Lean over any program), proved sound: what it says of a call, the machine does. Part 5. No condition. -/
import Derived.Test.YtjhcempjiokfdaaGreatDoorAbs4
import Derived.ChangeStays
import Derived.ChangeBook
set_option linter.unusedSimpArgs false
set_option linter.unusedVariables false

-- ---- Abs31
set_option linter.unusedSimpArgs false
set_option linter.unusedVariables false
namespace Go.Proofs.Abs
open Go.RowKit

/-- Types of plain data. -/
inductive Ty where
  | int (k : IntKind)
  | byte
  | bool
  | str
  | lst (e : Ty)
  | row (fs : List Ty)

mutual
def Val : Ty → Type
  | .int _ => Int
  | .byte => UInt8
  | .bool => Bool
  | .str => List UInt8
  | .lst e => List (Val e)
  | .row fs => Vals fs
def Vals : List Ty → Type
  | [] => Unit
  | t :: ts => Val t × Vals ts
end

mutual
def toAV : (t : Ty) → Val t → AV
  | .int k, n => .int k n
  | .byte, b => avByte b
  | .bool, b => .bool b
  | .str, l => .str l
  | .lst e, l => .lst false (l.map (toAV e))
  | .row fs, x => .agg (cellsV fs x)
def cellsV : (fs : List Ty) → Vals fs → List AV
  | [], _ => []
  | t :: ts, x => (toAV t x.1).cells ++ cellsV ts x.2
end

mutual
def wfV : (t : Ty) → Val t → Prop
  | .int k, n => (Lit.int k n).wf = true
  | .byte, _ => True
  | .bool, _ => True
  | .str, l => l.length ≤ maxLen
  | .lst e, l => List.length (α := Val e) l ≤ maxLen ∧ ∀ x : Val e, List.Mem (α := Val e) x l → wfV e x
  | .row fs, x => wfVs fs x
def wfVs : (fs : List Ty) → Vals fs → Prop
  | [], _ => True
  | t :: ts, x => wfV t x.1 ∧ wfVs ts x.2
end

def tyOf (P : Program) : Nat → TypeId → Option Ty
  | 0, _ => none
  | n + 1, t => match P.underlying t with
    | some (.int .u8) => some .byte
    | some (.int k) => some (.int k)
    | some .bool => some .bool
    | some .string => some .str
    | some (.slice e) => (tyOf P n e).map .lst
    | some (.struct fs) => (fs.toList.mapM fun f => tyOf P n f.type).map .row
    | _ => none

mutual
theorem toAV_pure : ∀ (t : Ty) (x : Val t), (toAV t x).pure = true
  | .int k, n => rfl
  | .byte, b => rfl
  | .bool, b => rfl
  | .str, l => rfl
  | .lst e, l => rfl
  | .row fs, x => by simp only [toAV, AV.pure]; exact cellsV_pure fs x
theorem cellsV_pure : ∀ (fs : List Ty) (x : Vals fs), pures (cellsV fs x) = true
  | [], _ => rfl
  | t :: ts, x => by
    simp only [cellsV]
    rw [pures_iff]
    intro y hy
    rcases List.mem_append.1 hy with hy | hy
    · exact pure_cells (toAV_pure t x.1) y hy
    · exact pures_iff.1 (cellsV_pure ts x.2) y hy
end

mutual
theorem toAV_leaf : ∀ (t : Ty) (x : Val t), ∀ y ∈ (toAV t x).cells, y.leaf = true
  | .int k, n => fun y hy => by simp only [toAV, AV.cells, List.mem_singleton] at hy; subst hy; rfl
  | .byte, b => fun y hy => by simp only [toAV, avByte, AV.cells, List.mem_singleton] at hy; subst hy; rfl
  | .bool, b => fun y hy => by simp only [toAV, AV.cells, List.mem_singleton] at hy; subst hy; rfl
  | .str, l => fun y hy => by simp only [toAV, AV.cells, List.mem_singleton] at hy; subst hy; rfl
  | .lst e, l => fun y hy => by simp only [toAV, AV.cells, List.mem_singleton] at hy; subst hy; rfl
  | .row fs, x => by simp only [toAV, AV.cells]; exact cellsV_leaf fs x
theorem cellsV_leaf : ∀ (fs : List Ty) (x : Vals fs), ∀ y ∈ cellsV fs x, y.leaf = true
  | [], _ => fun y hy => by simp [cellsV] at hy
  | t :: ts, x => fun y hy => by
    simp only [cellsV] at hy
    rcases List.mem_append.1 hy with hy | hy
    · exact toAV_leaf t x.1 y hy
    · exact cellsV_leaf ts x.2 y hy
end

theorem choose_list {α : Type} {Q : Nat → α → Prop} : ∀ n, (∀ i, i < n → ∃ v, Q i v) → ∃ vs : List α, vs.length = n ∧ ∀ i (h : i < vs.length), Q i vs[i]
  | 0, _ => ⟨[], rfl, fun i h => by simp at h⟩
  | n + 1, h => by
    obtain ⟨vs, h1, h2⟩ := choose_list n (fun i hi => h i (by omega))
    obtain ⟨v, hv⟩ := h n (by omega)
    refine ⟨vs ++ [v], by simp [h1], fun i hi => ?_⟩
    rw [List.getElem_append]
    split
    · rename_i hl; exact h2 i hl
    · rename_i hl
      have : i = n := by simp at hi; omega
      subst this
      simpa using hv

theorem spot_of_cell {w : World} {a : Addr} {v : Value} (h : w.cell? a = some v) : a.spot = none := by
  cases hsp : a.spot with
  | none => rfl
  | some s =>
    simp only [World.cell?] at h
    split at h
    · simp [hsp] at h
    · cases h

theorem add_spot {a : Addr} {k : Nat} (h : (a.add k).spot = none) : a.add k = ⟨a.block, a.off + k, none⟩ := by
  unfold Addr.add at h ⊢
  split
  · rename_i h0
    subst h0
    rw [if_pos rfl] at h
    cases a
    simp_all
  · rfl

section
variable {H : Type} {enc : TypeId × Value → H} {P : Program} {w : World} {base : Nat} {spare : Nat → Bool} {held : Bool} {loc : Nat → Nat} {Tk : TypeId → Prop}

abbrev RV (w : World) (loc : Nat → Nat) (l : List AV) (cs : List Value) : Prop := RepL w [] loc (fun _ => False) l cs

theorem byte_back {n : Int} (h : (Lit.int .u8 n).wf = true) : avByte (UInt8.ofNat n.toNat) = .int .u8 n := by
  simp only [Lit.wf, IntKind.min, IntKind.max, IntKind.signed, IntKind.bits, Bool.and_eq_true, decide_eq_true_eq] at h
  have h1 : 0 ≤ n ∧ n ≤ 255 := by simpa using h
  simp only [avByte]
  congr 1
  have : (UInt8.ofNat n.toNat).toNat = n.toNat := by
    rw [UInt8.toNat_ofNat']
    omega
  rw [this]
  omega

theorem one_rep {a : AV} {v : Value} (h : Rep w [] loc (fun _ => False) a v) : RV w loc [a] [v] :=
  ⟨rfl, fun i h1 h2 => by
    have : i = 0 := by simp at h1; omega
    subst this
    exact h⟩

theorem fields_read (n : Nat) (IH : ∀ t T, tyOf P n t = some T → Tk t → ∀ fuel cs x, DataW.trod enc P w base spare held fuel t cs = some x → ∃ v : Val T, wfV T v ∧ RV w loc (toAV T v).cells cs) {fuel : Nat} {cs : List Value} :
    ∀ (fs : List Field) (Ts : List Ty) (off : Nat), (fs.mapM fun f => tyOf P n f.type) = some Ts → (∀ f ∈ fs, Tk f.type) → (∀ (i : Nat) f, fs[i]? = some f → f.offset = off + ((fs.take i).map fun f => P.cellsOf f.type).sum) →
      (∀ (i : Nat) f, fs[i]? = some f → ∃ x, DataW.trod enc P w base spare held fuel f.type ((cs.drop f.offset).take (P.cellsOf f.type)) = some x) → (cs.drop off).length = (fs.map fun f => P.cellsOf f.type).sum →
      ∃ v : Vals Ts, wfVs Ts v ∧ RV w loc (cellsV Ts v) (cs.drop off)
  | [], Ts, off, hT, _, _, _, hl => by
    simp only [List.mapM_nil, Option.pure_def, Option.some.injEq] at hT
    subst hT
    refine ⟨(), trivial, ?_⟩
    have : cs.drop off = [] := List.eq_nil_of_length_eq_zero (by simpa using hl)
    rw [this]
    exact ⟨rfl, fun i h1 => by simp [cellsV] at h1⟩
  | f :: fs, Ts, off, hT, hk, ho, hx, hl => by
    simp only [List.mapM_cons, Option.pure_def, Option.bind_eq_bind, Option.bind_eq_some_iff, Option.some.injEq] at hT
    obtain ⟨T, hT1, Ts', hT2, rfl⟩ := hT
    have ho0 := ho 0 f rfl
    simp only [List.take_zero, List.map_nil, List.sum_nil, Nat.add_zero] at ho0
    obtain ⟨x, hx0⟩ := hx 0 f rfl
    rw [ho0] at hx0
    obtain ⟨v, hv1, hv2⟩ := IH f.type T hT1 (hk f (by simp)) fuel _ x hx0
    simp only [List.map_cons, List.sum_cons] at hl
    obtain ⟨vs, hs1, hs2⟩ := fields_read n IH (fuel := fuel) (cs := cs) fs Ts' (off + P.cellsOf f.type) hT2 (fun g hg => hk g (List.mem_cons_of_mem _ hg))
      (fun i g hg => by
        have := ho (i + 1) g (by simpa using hg)
        simp only [List.take_succ_cons, List.map_cons, List.sum_cons] at this
        omega)
      (fun i g hg => hx (i + 1) g (by simpa using hg))
      (by simp only [List.length_drop] at hl ⊢; omega)
    refine ⟨(v, vs), ⟨hv1, hs1⟩, ?_⟩
    have he : cs.drop off = (cs.drop off).take (P.cellsOf f.type) ++ cs.drop (off + P.cellsOf f.type) := by
      rw [← List.drop_drop, List.take_append_drop]
    rw [he]
    exact RepL.append hv2 hs2

theorem data_read (K : Kids P Tk) (hsz : ∀ {t e : TypeId}, Tk t → P.underlying t = some (.slice e) → 0 < P.cellsOf e) :
    ∀ (n : Nat) (t : TypeId) (T : Ty), tyOf P n t = some T → Tk t → ∀ (fuel : Nat) (cs : List Value) (x : DataW H × List MemPlace), DataW.trod enc P w base spare held fuel t cs = some x → ∃ v : Val T, wfV T v ∧ RV w loc (toAV T v).cells cs := by
  intro n
  induction n with
  | zero => intro t T h; simp [tyOf] at h
  | succ n ih =>
    intro t T hT ht fuel cs x hx
    cases fuel with
    | zero => simp [DataW.trod] at hx
    | succ fuel =>
      have hx0 := hx
      unfold tyOf at hT
      split at hT
      · rename_i hu
        simp only [Option.some.injEq] at hT
        subst hT
        unfold DataW.trod at hx
        rw [hu] at hx
        split at hx <;> simp_all
        obtain ⟨⟨heq, hw⟩, _⟩ := hx
        rename_i k0 k1 n0 hk0 r0
        subst heq
        subst hk0
        exact ⟨(UInt8.ofNat n0.toNat : UInt8), trivial, one_rep (by
          have e : toAV .byte (UInt8.ofNat n0.toNat) = .int .u8 n0 := byte_back hw
          rw [e]
          exact .int _ _)⟩
      · rename_i k hne hu
        simp only [Option.some.injEq] at hT
        subst hT
        unfold DataW.trod at hx
        rw [hu] at hx
        split at hx <;> simp_all
        obtain ⟨⟨heq, hw⟩, _⟩ := hx
        subst heq
        rename_i cs0 k0 n0 hk0 r0
        subst hk0
        exact ⟨(n0 : Int), hw, one_rep (.int _ _)⟩
      · rename_i hu
        simp only [Option.some.injEq] at hT
        subst hT
        unfold DataW.trod at hx
        rw [hu] at hx
        split at hx <;> simp_all
        exact ⟨_, trivial, one_rep (.bool _)⟩
      · rename_i hu
        simp only [Option.some.injEq] at hT
        subst hT
        unfold DataW.trod at hx
        rw [hu] at hx
        split at hx <;> simp_all
        obtain ⟨hl, _⟩ := hx
        rename_i q _
        refine ⟨q.data.toList, by simpa [wfV] using hl, ?_⟩
        have := Rep.str (w := w) (h := []) (loc := loc) (X := fun _ => False) q.data.toList
        rw [Array.toArray_toList] at this
        exact one_rep this
      · rename_i e hu
        rw [Option.map_eq_some_iff] at hT
        obtain ⟨E, hE, rfl⟩ := hT
        have hke := K.slice ht hu
        have hpos := hsz ht hu
        rcases DataW.trod_slice hu hx0 with ⟨rfl, _⟩ | ⟨a, len, cap, elems, rest, m, _, rfl, _, _, hlc, hcm, hel, hat, _, _⟩
        · exact ⟨([] : List (Val E)), ⟨by simp, fun x hx => by cases hx⟩, one_rep (.lst0 _ _ _ (fun h => by cases h))⟩
        · have hq : ∀ i, i < len → ∃ v : Val E, wfV E v ∧ ∃ cs, w.cells? base (a.add (i * P.cellsOf e)) (P.cellsOf e) = some cs ∧ RV w loc (toAV E v).cells cs := by
            intro i hi
            have h1 := hat i hi
            rw [List.getElem?_eq_getElem (by omega), Option.bind_eq_some_iff] at h1
            obtain ⟨cs, hc, hx⟩ := h1
            obtain ⟨v, h2, h3⟩ := ih e E hE hke m cs _ hx
            exact ⟨v, h2, cs, hc, h3⟩
          obtain ⟨vs, hvl, hvs⟩ := choose_list len hq
          refine ⟨vs, ⟨by omega, fun x hx => ?_⟩, one_rep ?_⟩
          · obtain ⟨i, hi, rfl⟩ := List.getElem_of_mem hx
            exact (hvs i hi).1
          · simp only [toAV]
            by_cases h0 : vs = []
            · subst h0
              have : len = 0 := by simpa using hvl.symm
              subst this
              exact .lst0 _ _ _ (fun h => by cases h)
            have hlen : 0 < vs.length := List.length_pos_iff.2 h0
            -- the address
            have hspot : a.spot = none := by
              obtain ⟨_, cs, hc, _⟩ := hvs 0 hlen
              obtain ⟨_, hl, hcell⟩ := World.cells?_some hc
              have h1 := hcell 0 hpos
              rw [List.getElem?_eq_getElem (by omega)] at h1
              have := spot_of_cell h1
              simp only [Nat.zero_mul] at this
              have e1 : (a.add 0).add 0 = a := by simp [Addr.add]
              rw [e1] at this
              exact this
            obtain ⟨blk, off, spot⟩ := a
            simp only at hspot
            subst hspot
            have hadd : ∀ k, (⟨blk, off, none⟩ : Addr).add k = ⟨blk, off + k, none⟩ := fun k => by
              unfold Addr.add
              split
              · rename_i h0; subst h0; rfl
              · rfl
            have hadd2 : ∀ j k, (⟨blk, j, none⟩ : Addr).add k = ⟨blk, j + k, none⟩ := fun j k => by
              unfold Addr.add
              split
              · rename_i h0; subst h0; rfl
              · rfl
            have hs : ∀ x ∈ vs.map (toAV E), x.cells.length = P.cellsOf e := by
              intro x hx
              obtain ⟨v, hv, rfl⟩ := List.mem_map.1 hx
              obtain ⟨i, hi, rfl⟩ := List.getElem_of_mem hv
              obtain ⟨_, cs, hc, hr⟩ := hvs i hi
              rw [hr.1]
              exact (World.cells?_some hc).2.1
            have hcell : ∀ k, k < (flat (vs.map (toAV E))).length → ∃ u, w.cell? ⟨blk, off + k, none⟩ = some u ∧ ∀ x, (flat (vs.map (toAV E)))[k]? = some x → Rep w [] loc (fun _ => False) x u := by
              intro k hk
              rw [flat_length hs, List.length_map] at hk
              have hk1 : k / P.cellsOf e < vs.length := (Nat.div_lt_iff_lt_mul hpos).2 hk
              have hk2 : k % P.cellsOf e < P.cellsOf e := Nat.mod_lt _ hpos
              have hk3 : k / P.cellsOf e * P.cellsOf e + k % P.cellsOf e = k := Nat.div_add_mod' k _
              obtain ⟨_, cs, hc, hr⟩ := hvs _ hk1
              obtain ⟨_, hl, hcc⟩ := World.cells?_some hc
              have h1 := hcc _ hk2
              rw [hadd] at h1; rw [hadd2, Nat.add_assoc, hk3, List.getElem?_eq_getElem (by omega)] at h1
              refine ⟨_, h1, fun x hx => ?_⟩
              have h2 := flat_get hs (i := k / P.cellsOf e) (j := k % P.cellsOf e) (by simpa using hk1) hk2
              rw [hk3] at h2
              rw [h2] at hx
              simp only [List.getElem_map] at hx
              obtain ⟨h3, rfl⟩ := List.getElem?_eq_some_iff.1 hx
              exact hr.2 _ h3 (by omega)
            have hblk : blk < w.heap.size := by
              obtain ⟨u, hu1, _⟩ := hcell 0 (by rw [flat_length hs, List.length_map]; exact Nat.mul_pos hlen hpos)
              exact World.block_lt_of_cell? w ⟨blk, off + 0, none⟩ hu1
            have := Rep.lst (w := w) (h := []) (loc := loc) (X := fun _ => False) false (vs.map (toAV E)) (by simpa using h0) (P.cellsOf e) blk off cap (fun k => (w.cell? ⟨blk, off + k, none⟩).getD undef) (fun h => by cases h) (by simpa [hvl] using hlc) (fun h => h) hblk hs
              (fun x hx => by
                simp only [flat, List.mem_flatMap] at hx
                obtain ⟨y, hy, hx⟩ := hx
                obtain ⟨v, _, rfl⟩ := List.mem_map.1 hy
                exact toAV_leaf E v x hx)
              (fun x hx => by
                obtain ⟨v, _, rfl⟩ := List.mem_map.1 hx
                exact toAV_pure E v)
              (fun k hk => by
                obtain ⟨u, hu1, _⟩ := hcell k hk
                rw [hu1]; rfl)
              (fun k hk => by
                obtain ⟨u, hu1, hu2⟩ := hcell k hk
                rw [hu1]
                exact hu2 _ (List.getElem?_eq_getElem hk))
            rw [List.length_map, hvl] at this
            exact this
      · rename_i fs hu
        rw [Option.map_eq_some_iff] at hT
        obtain ⟨Ts, hTs, rfl⟩ := hT
        obtain ⟨k1, k2, k3⟩ := K.struct ht hu
        obtain ⟨xs, m, _, _, hl, hxl, hf⟩ := DataW.trod_struct hu hx0
        obtain ⟨v, h1, h2⟩ := fields_read (loc := loc) n (fun t T => ih t T) (fuel := m) (cs := cs) fs.toList Ts 0 hTs k1 (fun i f hi => by rw [Nat.zero_add]; exact k3 i f hi)
          (fun i f hi => by
            have hi' : fs[i]? = some f := by simpa using hi
            have := hf i f hi'
            have hlt : i < xs.length := by rw [hxl]; exact (Array.getElem?_eq_some_iff.1 hi').1
            rw [List.getElem?_eq_getElem hlt] at this
            exact ⟨_, this⟩) (by rw [List.drop_zero, hl, k2])
        rw [List.drop_zero] at h2
        exact ⟨v, h1, h2⟩
      · cases hT
end
end Go.Proofs.Abs
