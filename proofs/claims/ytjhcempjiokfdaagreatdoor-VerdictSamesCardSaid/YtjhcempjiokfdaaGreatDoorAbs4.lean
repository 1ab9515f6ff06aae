/- An abstract evaluator of Go code (plain Lean over any program), proved sound: what it says of a call, the machine does. Part 4. No condition. -/
import Derived.Test.YtjhcempjiokfdaaGreatDoorAbs3
import Derived.LoopN
import Derived.Scope
import Derived.Defers
import Derived.Lib.Bytealg
set_option linter.unusedSimpArgs false
set_option linter.unusedVariables false

-- ---- Abs23
set_option linter.unusedSimpArgs false
set_option linter.unusedVariables false
namespace Go.Proofs.Abs
open Go.RowKit

/-- What an operation waits for. -/
def afters (ops : Array Oper) (k : Nat) : List Nat := match ops[k]? with
  | some o => o.after.toList.filterMap fun e => if Region.binds .any e then some e.on else none
  | none => []

def look : List (Nat × Nat) → Nat → Nat
  | [], _ => 0
  | (k, m) :: r, i => if k = i then m else look r i

def maskOf (acc : List (Nat × Nat)) : List Nat → Nat
  | [] => 0
  | e :: r => 2 ^ e ||| look acc e ||| maskOf acc r

/-- What each operation waits for, in the end. -/
def masks (ops : Array Oper) : List Nat → List (Nat × Nat) → List (Nat × Nat)
  | [], acc => acc
  | k :: r, acc => masks ops r ((k, maskOf acc (afters ops k)) :: acc)

def hasT (z : Nat) : List PX → Bool
  | [] => false
  | .t i :: r => i == z || hasT z r
  | _ :: r => hasT z r

def pairsB (l : List (Nat × Nat)) (acc : List (Nat × Nat)) : List (Nat × PI) → Bool
  | [] => true
  | p :: r => r.all (fun q => (look acc q.1).testBit p.1 || swapB l p.2 q.2) && pairsB l acc r

def stabB (zs : List Nat) : List (Nat × PI) → Bool
  | [] => true
  | p :: r => zs.all (fun z => !hasT z p.2.rd || (p :: r).all (fun q => decide (q.2.wr ≠ some z))) && stabB zs r

def ordB (ops : Array Oper) : List Nat → List Nat → Bool
  | _, [] => true
  | seen, k :: r => !seen.contains k && (afters ops k).all seen.contains && ordB ops (k :: seen) r

def zsOf : List (Nat × Nat) → List Nat
  | [] => []
  | p :: r => p.1 :: p.2 :: zsOf r

/-- That a list of instructions, in the order 'ord', is a region's that draws. -/
def chkDraw (P : Program) (ops : Array Oper) (ord : List Nat) (ap : List (Nat × Nat)) (a : List PI) : Bool :=
  ord.length == ops.size && a.length == ops.size && (List.range ops.size).all (fun k => ord.contains k) && ordB ops [] ord &&
  (ord.zip a).all (fun p => match ops[p.1]? with | some o => chkI P ops o p.2 | none => false) &&
  pairsB ap (masks ops ord []) (ord.zip a) && stabB (zsOf ap) (ord.zip a)

theorem zsOf_mem : ∀ {l : List (Nat × Nat)}, ∀ p ∈ l, p.1 ∈ zsOf l ∧ p.2 ∈ zsOf l
  | q :: l, p, hp => by
    rcases List.mem_cons.1 hp with rfl | hp
    · simp [zsOf]
    · obtain ⟨h1, h2⟩ := zsOf_mem p hp
      simp [zsOf, h1, h2]

theorem hasT_iff {z : Nat} : ∀ {l : List PX}, PX.t z ∈ l → hasT z l = true
  | x :: l, h => by
    rcases List.mem_cons.1 h with h | h
    · subst h; simp [hasT]
    · have := hasT_iff h
      cases x <;> simp [hasT, this]

theorem stabB_ok {zs : List Nat} : ∀ {L : List (Nat × PI)}, stabB zs L = true → Stab zs L
  | [], _ => trivial
  | p :: r, h => by
    simp only [stabB, Bool.and_eq_true, List.all_eq_true, Bool.or_eq_true, Bool.not_eq_true', decide_eq_true_eq] at h
    refine ⟨fun z hz hm q hq => ?_, stabB_ok h.2⟩
    rcases h.1 z hz with h1 | h1
    · rw [hasT_iff hm] at h1; cases h1
    · exact h1 q hq

theorem pairsB_ok {l acc : List (Nat × Nat)} : ∀ {L : List (Nat × PI)}, pairsB l acc L = true → L.Pairwise (fun p q => (look acc q.1).testBit p.1 = true ∨ swapB l p.2 q.2 = true)
  | [], _ => .nil
  | p :: r, h => by
    simp only [pairsB, Bool.and_eq_true, List.all_eq_true, Bool.or_eq_true] at h
    exact .cons (fun q hq => h.1 q hq) (pairsB_ok h.2)

theorem maskOf_ok {acc : List (Nat × Nat)} {f : Nat → Prop} {j : Nat} : ∀ {l : List Nat}, (∀ e ∈ l, f e ∧ ∀ j, (look acc e).testBit j = true → f j) → (maskOf acc l).testBit j = true → f j
  | [], _, h => by simp [maskOf] at h
  | e :: r, hl, h => by
    simp only [maskOf, Nat.testBit_or, Bool.or_eq_true] at h
    rcases h with (h | h) | h
    · rw [Nat.testBit_two_pow] at h
      simp only [decide_eq_true_eq] at h
      exact h ▸ (hl e (by simp)).1
    · exact (hl e (by simp)).2 j h
    · exact maskOf_ok (fun e he => hl e (List.mem_cons_of_mem _ he)) h

/-- What an operation waits for in the end is listed when what it waits for is, and the listed are closed. -/
theorem masks_ok {ops : Array Oper} {f : Nat → Prop} (hcl : ∀ k, f k → ∀ e ∈ afters ops k, f e) : ∀ {ord : List Nat} {acc : List (Nat × Nat)},
    (∀ k, (∀ e ∈ afters ops k, f e) → ∀ j, (look acc k).testBit j = true → f j) → ∀ k, (∀ e ∈ afters ops k, f e) → ∀ j, (look (masks ops ord acc) k).testBit j = true → f j
  | [], acc, h => h
  | x :: ord, acc, h => by
    simp only [masks]
    refine masks_ok hcl (fun k hk j hj => ?_)
    simp only [look] at hj
    split at hj
    · rename_i he
      subst he
      exact maskOf_ok (fun e he => ⟨hk e he, h e (hcl e (hk e he))⟩) hj
    · exact h k hk j hj

/-- Each waits only for what is listed, or stands before it. -/
def OrdR (ops : Array Oper) : (Nat → Prop) → List (Nat × PI) → Prop
  | _, [] => True
  | f, p :: r => (∀ e ∈ afters ops p.1, f e) ∧ OrdR ops (fun e => f e ∨ e = p.1) r

theorem OrdR.mono {ops : Array Oper} : ∀ {L : List (Nat × PI)} {f g : Nat → Prop}, (∀ e, f e → g e) → OrdR ops f L → OrdR ops g L
  | [], _, _, _, _ => trivial
  | p :: r, f, g, hfg, h => ⟨fun e he => hfg e (h.1 e he), OrdR.mono (fun e he => he.imp (hfg e) id) h.2⟩

theorem OrdR.drop {ops : Array Oper} {i : Nat × PI} {B : List (Nat × PI)} : ∀ {A : List (Nat × PI)} {f : Nat → Prop}, OrdR ops f (A ++ i :: B) → OrdR ops (fun e => f e ∨ e = i.1) (A ++ B)
  | [], f, h => h.2
  | a :: A, f, h => ⟨fun e he => .inl (h.1 e he), OrdR.mono (fun e he => by rcases he with (he | he) | he <;> simp [he]) (OrdR.drop (A := A) h.2)⟩

theorem ordB_ok {ops : Array Oper} : ∀ {ord : List Nat} {a : List PI} {seen : List Nat}, ordB ops seen ord = true → a.length = ord.length → OrdR ops (fun e => e ∈ seen) (ord.zip a) ∧ ((ord.zip a).map (·.1)).Nodup ∧ ∀ k ∈ (ord.zip a).map (·.1), k ∉ seen
  | [], a, seen, _, _ => ⟨trivial, .nil, fun k hk => by simp at hk⟩
  | k :: ord, [], seen, _, hl => by simp at hl
  | k :: ord, i :: a, seen, h, hl => by
    simp only [ordB, Bool.and_eq_true, List.all_eq_true, Bool.not_eq_true'] at h
    obtain ⟨⟨h1, h2⟩, h3⟩ := h
    obtain ⟨e1, e2, e3⟩ := ordB_ok (a := a) h3 (by simpa using hl)
    refine ⟨⟨fun e he => by simpa using h2 e he, OrdR.mono (fun e he => by simp only [List.mem_cons] at he; exact he.symm) e1⟩, ?_, fun x hx => ?_⟩
    · simp only [List.zip_cons_cons, List.map_cons, List.nodup_cons]
      exact ⟨fun hm => e3 k hm (by simp), e2⟩
    · simp only [List.zip_cons_cons, List.map_cons, List.mem_cons] at hx
      rcases hx with rfl | hx
      · simpa using h1
      · exact fun hs => e3 x hx (by simp [hs])

section
variable {P : Program} {w0 : World} {X0 : Nat → Prop} {wI : World} {hI : AHeap} {locI : Nat → Nat} {dd : List (Nat × List AV)} {b : Nat} {C : CallO}

/-- Whether an operation is listed. -/
def Listed (listed : Array Bool) (k : Nat) : Prop := listed.getD k false = true

theorem mem_afters {ops : Array Oper} {k e : Nat} : e ∈ afters ops k ↔ ∃ o, ops[k]? = some o ∧ ∃ x ∈ o.after, Region.binds .any x = true ∧ x.on = e := by
  unfold afters
  cases ops[k]? with
  | none => simp
  | some o =>
    simp only [List.mem_filterMap, Array.mem_toList_iff, Option.some.injEq, exists_eq_left']
    constructor
    · rintro ⟨x, hx, h⟩
      split at h
      · rename_i hb; exact ⟨x, hx, hb, by simpa using h⟩
      · cases h
    · rintro ⟨x, hx, hb, he⟩
      exact ⟨x, hx, by simp [hb, he]⟩

theorem ready_iff {ops : Array Oper} {listed : Array Bool} {j : Nat} (hs : listed.size = ops.size) : j ∈ Region.ready .any ops listed ↔ j < ops.size ∧ ¬ Listed listed j ∧ ∀ e ∈ afters ops j, Listed listed e := by
  rw [mem_ready]
  constructor
  · rintro ⟨h0, o, ho, hall⟩
    have hj : j < ops.size := (Array.getElem?_eq_some_iff.1 ho).1
    refine ⟨hj, ?_, fun e he => ?_⟩
    · unfold Listed
      simp only [Array.getD_eq_getD_getElem?] at h0 ⊢
      rw [Array.getElem?_eq_getElem (by omega)] at h0 ⊢
      simp only [Option.getD_some] at h0 ⊢
      simp [h0]
    · obtain ⟨o', ho', x, hx, hb, rfl⟩ := mem_afters.1 he
      rw [ho] at ho'
      cases ho'
      exact hall x hx hb
  · rintro ⟨hj, h0, hall⟩
    refine ⟨?_, ops[j], by simp [hj], fun e he hb => hall e.on (mem_afters.2 ⟨ops[j], by simp [hj], e, he, hb, rfl⟩)⟩
    unfold Listed at h0
    simp only [Array.getD_eq_getD_getElem?] at h0 ⊢
    rw [Array.getElem?_eq_getElem (by omega)] at h0 ⊢
    simp only [Option.getD_some] at h0 ⊢
    simpa using h0

theorem listed_set {listed : Array Bool} {i k : Nat} (hi : i < listed.size) : Listed (listed.setIfInBounds i true) k ↔ Listed listed k ∨ k = i := by
  unfold Listed
  simp only [Array.getD_eq_getD_getElem?, Array.getElem?_setIfInBounds]
  by_cases h : i = k
  · subst h; simp [hi]
  · simp [h, Ne.symm h]

theorem draw_any {ops : Array Oper} {ap : List (Nat × Nat)} {acc : List (Nat × Nat)} (hC : ∀ f args h r h', C f args h = some (r, h') → CallSound P f args h r h')
    (hacc : ∀ f : Nat → Prop, (∀ k, f k → ∀ e ∈ afters ops k, f e) → ∀ k, (∀ e ∈ afters ops k, f e) → ∀ j, (look acc k).testBit j = true → f j)
    {fin : List AV} {hF : AHeap} (hap : ∀ p ∈ ap, apartB (xv fin (.t p.1)) (xv fin (.t p.2)) = true) {Q : Exit → Act → World → Prop} (hQ : ∀ a w, SR w0 X0 wI hI locI dd fin hF a w → Q .normal a w) :
    ∀ (fuel : Nat) (L : List (Nat × PI)) (listed : Array Bool) (t : List AV) (h : AHeap) (a : Act) (w : World), L.length ≤ fuel → listed.size = ops.size → (∀ k, k < ops.size → (¬ Listed listed k ↔ k ∈ L.map (·.1))) →
      (∀ k, Listed listed k → ∀ e ∈ afters ops k, Listed listed e) → (∀ p ∈ L, ∃ o, ops[p.1]? = some o ∧ chkI P ops o p.2 = true) →
      L.Pairwise (fun p q => (look acc q.1).testBit p.1 = true ∨ swapB ap p.2 q.2 = true) → Stab (zsOf ap) L → (L.map (·.1)).Nodup → OrdR ops (Listed listed) L →
      runI C b L t h = some (fin, hF) → SR w0 X0 wI hI locI dd t h a w → wpAny P .any ops Q fuel listed a w := by
  have empty : ∀ (L : List (Nat × PI)) (listed : Array Bool), listed.size = ops.size → (∀ k, k < ops.size → (¬ Listed listed k ↔ k ∈ L.map (·.1))) → (∀ p ∈ L, ∃ o, ops[p.1]? = some o ∧ chkI P ops o p.2 = true) → OrdR ops (Listed listed) L →
      Region.ready .any ops listed = [] → L = [] := by
    intro L listed hs hun hck hord hr
    cases L with
    | nil => rfl
    | cons p L =>
      obtain ⟨o, ho, _⟩ := hck p (by simp)
      have hp : p.1 < ops.size := (Array.getElem?_eq_some_iff.1 ho).1
      have : p.1 ∈ Region.ready .any ops listed := (ready_iff hs).2 ⟨hp, (hun p.1 hp).2 (by simp), hord.1⟩
      rw [hr] at this
      cases this
  have fin1 : ∀ {t h a w}, runI C b [] t h = some (fin, hF) → SR w0 X0 wI hI locI dd t h a w → Q .normal a w := by
    intro t h a w hr R
    simp only [runI, Option.some.injEq, Prod.mk.injEq] at hr
    obtain ⟨rfl, rfl⟩ := hr
    exact hQ a w R
  intro fuel
  induction fuel with
  | zero =>
    intro L listed t h a w hl hs hun hcl hck hpw hst hnd hord hr R
    obtain rfl : L = [] := List.eq_nil_of_length_eq_zero (by omega)
    refine ⟨?_, fin1 hr R⟩
    cases hr' : Region.ready .any ops listed with
    | nil => rfl
    | cons j l =>
      have : j ∈ Region.ready .any ops listed := by rw [hr']; simp
      obtain ⟨h1, h2, _⟩ := (ready_iff hs).1 this
      have := (hun j h1).1 h2
      simp at this
  | succ fuel ih =>
    intro L listed t h a w hl hs hun hcl hck hpw hst hnd hord hr R
    refine ⟨fun he => ?_, fun i hi => ?_⟩
    · obtain rfl := empty L listed hs hun hck hord he
      exact fin1 hr R
    · obtain ⟨h1, h2, h3⟩ := (ready_iff hs).1 hi
      have hm := (hun i h1).1 h2
      obtain ⟨⟨i', pi⟩, hmem, rfl⟩ := List.mem_map.1 hm
      obtain ⟨A, B, rfl⟩ := List.append_of_mem hmem
      obtain ⟨o, ho, hck1⟩ := hck (i', pi) (by simp)
      have hsw : ∀ j ∈ A, swapB ap j.2 pi = true := fun j hj => by
        rw [List.pairwise_append] at hpw
        rcases hpw.2.2 j hj (i', pi) (by simp) with hx | hx
        · have hlj := hacc (Listed listed) hcl i' h3 j.1 hx
          obtain ⟨oj, hoj, _⟩ := hck j (by simp [hj])
          exact absurd hlj ((hun j.1 (Array.getElem?_eq_some_iff.1 hoj).1).2 (List.mem_map.2 ⟨j, by simp [hj], rfl⟩))
        · exact hx
      obtain ⟨t1, h1', g1, g2⟩ := bubble (fun p hp => zsOf_mem p hp) hap hr hsw hst
      refine stepI_sound hC ho hck1 g1 R (fun a1 w1 R1 => ?_)
      have hil : i' < listed.size := by rw [hs]; exact h1
      have hsub : (A ++ B).Sublist (A ++ (i', pi) :: B) := (List.sublist_cons_self _ _).append_left A
      have hni : i' ∉ (A ++ B).map (·.1) := by
        rw [List.map_append, List.map_cons, List.nodup_append] at hnd
        rw [List.map_append, List.mem_append]
        rintro (hx | hx)
        · exact hnd.2.2 i' hx i' (by simp) rfl
        · exact (List.nodup_cons.1 hnd.2.1).1 hx
      refine ih (A ++ B) (listed.setIfInBounds i' true) t1 h1' a1 w1 (by simp at hl ⊢; omega) (by simpa using hs) (fun k hk => ?_) (fun k hk e he => ?_) (fun p hp => hck p (hsub.subset hp)) (hpw.sublist hsub) hst.drop (hnd.sublist (hsub.map _)) ?_ g2 R1
      · rw [listed_set hil, not_or, hun k hk]
        constructor
        · rintro ⟨hx, hne⟩
          simp only [List.map_append, List.map_cons, List.mem_append, List.mem_cons] at hx ⊢
          rcases hx with hx | hx | hx
          · exact .inl hx
          · exact absurd hx hne
          · exact .inr hx
        · intro hx
          refine ⟨(hsub.map _).subset hx, ?_⟩
          rintro rfl
          exact hni hx
      · rw [listed_set hil] at hk ⊢
        rcases hk with hk | rfl
        · exact .inl (hcl k hk e he)
        · exact .inl (h3 e he)
      · exact OrdR.mono (fun e he => (listed_set hil).2 he) hord.drop

/-- A region that draws its order. -/
theorem draw_sound {ops : Array Oper} {ap : List (Nat × Nat)} {ord : List Nat} {is : List PI} (hC : ∀ f args h r h', C f args h = some (r, h') → CallSound P f args h r h') (hc : chkDraw P ops ord ap is = true)
    {fin t : List AV} {hF h : AHeap} (hap : ∀ p ∈ ap, apartB (xv fin (.t p.1)) (xv fin (.t p.2)) = true) {Q : Exit → Act → World → Prop} (hQ : ∀ a w, SR w0 X0 wI hI locI dd fin hF a w → Q .normal a w)
    {a : Act} {w : World} (hr : runI C b (ord.zip is) t h = some (fin, hF)) (R : SR w0 X0 wI hI locI dd t h a w) : wpAny P .any ops Q ops.size (Array.replicate ops.size false) a w := by
  simp only [chkDraw, Bool.and_eq_true, beq_iff_eq, List.all_eq_true, decide_eq_true_eq] at hc
  obtain ⟨⟨⟨⟨⟨⟨c1, c2⟩, c3⟩, c4⟩, c5⟩, c6⟩, c7⟩ := hc
  obtain ⟨e1, e2, e3⟩ := ordB_ok (a := is) c4 (by omega)
  have hmap : (ord.zip is).map (·.1) = ord := by
    rw [List.map_fst_zip]
    omega
  have hnl : ∀ k, ¬ Listed (Array.replicate ops.size false) k := fun k hk => by
    unfold Listed at hk
    rw [Array.getD_eq_getD_getElem?, Array.getElem?_replicate] at hk
    split at hk <;> simp at hk
  have hall : ∀ k, k < ops.size → k ∈ ord := fun k hk => by simpa using c3 k (List.mem_range.2 hk)
  refine draw_any hC (acc := masks ops ord []) (fun f hf => masks_ok hf (fun k _ j hj => by simp [look] at hj)) hap hQ ops.size (ord.zip is) _ t h a w ?_ (by simp) (fun k hk => ?_) (fun k hk => absurd hk (hnl k)) (fun p hp => ?_) (pairsB_ok c6) (stabB_ok c7) e2 (OrdR.mono (fun e he => by simp at he) e1) hr R
  · rw [List.length_zip]; omega
  · rw [hmap]
    exact ⟨fun _ => hall k hk, fun _ => hnl k⟩
  · have := c5 p hp
    split at this
    · rename_i o ho; exact ⟨o, ho, this⟩
    · cases this
end
end Go.Proofs.Abs

-- ---- Abs24
set_option linter.unusedSimpArgs false
set_option linter.unusedVariables false
namespace Go.Proofs.Abs
open Go.RowKit

section
variable {C C' : CallO}
theorem callM0_mono (hC : ∀ f args h r, C f args h = some r → C' f args h = some r) {f : Nat} {args : List AV} {h : AHeap} {r : AV × AHeap} (hr : callM0 C f args h = some r) : callM0 C' f args h = some r := by
  unfold callM0 at hr ⊢
  split at hr
  case isFalse => cases hr
  rename_i hp
  rw [if_pos hp]
  simp only [Option.bind_eq_some_iff] at hr ⊢
  obtain ⟨x, hx, hr⟩ := hr
  exact ⟨x, hC _ _ _ _ hx, hr⟩

theorem callM1_mono (hC : ∀ f args h r, C f args h = some r → C' f args h = some r) {f : Nat} {args : List AV} {h : AHeap} {r : AV × AHeap} (hr : callM1 C f args h = some r) : callM1 C' f args h = some r := by
  unfold callM1 at hr ⊢
  split at hr
  case isFalse => cases hr
  rename_i hp
  rw [if_pos hp]
  simp only [Option.map_eq_some_iff] at hr ⊢
  obtain ⟨x, hx, hr⟩ := hr
  exact ⟨x, hC _ _ _ _ hx, hr⟩

theorem callM6_mono (hC : ∀ f args h r, C f args h = some r → C' f args h = some r) {f : Nat} {args : List AV} {h : AHeap} {r : AV × AHeap} (hr : callM6 C f args h = some r) : callM6 C' f args h = some r := by
  simp only [callM6, Option.bind_eq_some_iff] at hr ⊢
  obtain ⟨a, ha, x, hx, hr⟩ := hr
  exact ⟨a, ha, x, hC _ _ _ _ hx, hr⟩

theorem callM9_mono (hC : ∀ f args h r, C f args h = some r → C' f args h = some r) {f : Nat} {args : List AV} {h : AHeap} {r : AV × AHeap} (hr : callM9 C f args h = some r) : callM9 C' f args h = some r := by
  unfold callM9 at hr
  split at hr
  case h_2 => cases hr
  split at hr
  case h_2 => cases hr
  rename_i hid
  split at hr
  case isFalse => cases hr
  rename_i hp
  split at hr
  case h_2 => cases hr
  rename_i hc
  simp only [callM9, hid, if_pos hp, hC _ _ _ _ hc]
  exact hr

theorem callM11_mono (hC : ∀ f args h r, C f args h = some r → C' f args h = some r) {f : Nat} {args : List AV} {h : AHeap} {r : AV × AHeap} (hr : callM11 C f args h = some r) : callM11 C' f args h = some r := by
  simp only [callM11, Option.bind_eq_some_iff] at hr ⊢
  obtain ⟨a, ha, x, hx, hr⟩ := hr
  exact ⟨a, ha, x, hC _ _ _ _ hx, hr⟩

theorem callM12_mono (hC : ∀ f args h r, C f args h = some r → C' f args h = some r) {f : Nat} {args : List AV} {h : AHeap} {r : AV × AHeap} (hr : callM12 C f args h = some r) : callM12 C' f args h = some r := by
  simp only [callM12, Option.bind_eq_some_iff] at hr ⊢
  obtain ⟨x, hx, hr⟩ := hr
  exact ⟨x, hC _ _ _ _ hx, hr⟩

theorem callM_mono (hC : ∀ f args h r, C f args h = some r → C' f args h = some r) {m f : Nat} {args : List AV} {h : AHeap} {r : AV × AHeap} (hr : callM C m f args h = some r) : callM C' m f args h = some r := by
  unfold callM at hr ⊢
  split at hr
  · exact callM0_mono hC hr
  · exact callM1_mono hC hr
  · simp only [Option.bind_eq_some_iff] at hr ⊢
    obtain ⟨a, ha, x, hx, hr⟩ := hr
    exact ⟨a, ha, x, hC _ _ _ _ hx, hr⟩
  · split at hr
    · rename_i hp; rw [if_pos hp]; exact callM0_mono hC hr
    · rename_i hp; rw [if_neg hp]; exact hC _ _ _ _ hr
  · split at hr
    · rename_i hp; rw [if_pos hp]; exact callM1_mono hC hr
    · rename_i hp; rw [if_neg hp]; exact hC _ _ _ _ hr
  · exact callM6_mono hC hr
  · split at hr
    · rename_i hp; rw [if_pos hp]; exact callM0_mono hC hr
    · rename_i hp; rw [if_neg hp]; exact callM6_mono hC hr
  · split at hr
    · rename_i hp; rw [if_pos hp]; exact callM1_mono hC hr
    · rename_i hp; rw [if_neg hp]; exact callM6_mono hC hr
  · exact callM9_mono hC hr
  · exact callM11_mono hC hr
  · exact callM12_mono hC hr
  · exact hC _ _ _ _ hr

theorem opC_mono (hC : ∀ f args h r, C f args h = some r → C' f args h = some r) {t : List AV} {h : AHeap} {b : Nat} {po : PO} {r : AV × AHeap} (hr : opC C t h b po = some r) : opC C' t h b po = some r := by
  cases po <;> try exact hr
  case call m f args => exact callM_mono hC hr
  case callv m x args =>
    simp only [opC] at hr ⊢
    split at hr
    · exact callM_mono hC hr
    · cases hr
  case inv m tbl x args =>
    simp only [opC] at hr ⊢
    split at hr
    · split at hr
      · exact callM_mono hC hr
      · simp only [Option.bind_eq_some_iff] at hr ⊢
        obtain ⟨v, hv, hr⟩ := hr
        exact ⟨v, hv, callM_mono hC hr⟩
      · cases hr
    · cases hr

theorem callM0_lim {Cn : Nat → CallO} (hC : ∀ f args h r, C f args h = some r → ∃ n, Cn n f args h = some r) {f : Nat} {args : List AV} {h : AHeap} {r : AV × AHeap} (hr : callM0 C f args h = some r) : ∃ n, callM0 (Cn n) f args h = some r := by
  unfold callM0 at hr
  split at hr
  case isFalse => cases hr
  rename_i hp
  simp only [Option.bind_eq_some_iff] at hr
  obtain ⟨x, hx, hr⟩ := hr
  obtain ⟨n, hn⟩ := hC _ _ _ _ hx
  exact ⟨n, by simp only [callM0, if_pos hp, hn, Option.bind_some]; exact hr⟩

theorem callM1_lim {Cn : Nat → CallO} (hC : ∀ f args h r, C f args h = some r → ∃ n, Cn n f args h = some r) {f : Nat} {args : List AV} {h : AHeap} {r : AV × AHeap} (hr : callM1 C f args h = some r) : ∃ n, callM1 (Cn n) f args h = some r := by
  unfold callM1 at hr
  split at hr
  case isFalse => cases hr
  rename_i hp
  simp only [Option.map_eq_some_iff] at hr
  obtain ⟨x, hx, hr⟩ := hr
  obtain ⟨n, hn⟩ := hC _ _ _ _ hx
  exact ⟨n, by simp only [callM1, if_pos hp, hn, Option.map_some, hr]⟩

theorem callM6_lim {Cn : Nat → CallO} (hC : ∀ f args h r, C f args h = some r → ∃ n, Cn n f args h = some r) {f : Nat} {args : List AV} {h : AHeap} {r : AV × AHeap} (hr : callM6 C f args h = some r) : ∃ n, callM6 (Cn n) f args h = some r := by
  simp only [callM6, Option.bind_eq_some_iff] at hr
  obtain ⟨a, ha, x, hx, hr⟩ := hr
  obtain ⟨n, hn⟩ := hC _ _ _ _ hx
  exact ⟨n, by simp only [callM6, ha, Option.bind_some, hn]; exact hr⟩

theorem callM9_lim {Cn : Nat → CallO} (hC : ∀ f args h r, C f args h = some r → ∃ n, Cn n f args h = some r) {f : Nat} {args : List AV} {h : AHeap} {r : AV × AHeap} (hr : callM9 C f args h = some r) : ∃ n, callM9 (Cn n) f args h = some r := by
  unfold callM9 at hr
  split at hr
  case h_2 => cases hr
  split at hr
  case h_2 => cases hr
  rename_i hid
  split at hr
  case isFalse => cases hr
  rename_i hp
  split at hr
  case h_2 => cases hr
  rename_i hc
  obtain ⟨n, hn⟩ := hC _ _ _ _ hc
  refine ⟨n, ?_⟩
  simp only [callM9, hid, if_pos hp, hn]
  exact hr

theorem callM11_lim {Cn : Nat → CallO} (hC : ∀ f args h r, C f args h = some r → ∃ n, Cn n f args h = some r) {f : Nat} {args : List AV} {h : AHeap} {r : AV × AHeap} (hr : callM11 C f args h = some r) : ∃ n, callM11 (Cn n) f args h = some r := by
  simp only [callM11, Option.bind_eq_some_iff] at hr
  obtain ⟨a, ha, x, hx, hr⟩ := hr
  obtain ⟨n, hn⟩ := hC _ _ _ _ hx
  exact ⟨n, by simp only [callM11, ha, Option.bind_some, hn]; exact hr⟩

theorem callM12_lim {Cn : Nat → CallO} (hC : ∀ f args h r, C f args h = some r → ∃ n, Cn n f args h = some r) {f : Nat} {args : List AV} {h : AHeap} {r : AV × AHeap} (hr : callM12 C f args h = some r) : ∃ n, callM12 (Cn n) f args h = some r := by
  simp only [callM12, Option.bind_eq_some_iff] at hr
  obtain ⟨x, hx, hr⟩ := hr
  obtain ⟨n, hn⟩ := hC _ _ _ _ hx
  exact ⟨n, by simp only [callM12, hn, Option.bind_some]; exact hr⟩

theorem callM_lim {Cn : Nat → CallO} (hC : ∀ f args h r, C f args h = some r → ∃ n, Cn n f args h = some r) {m f : Nat} {args : List AV} {h : AHeap} {r : AV × AHeap} (hr : callM C m f args h = some r) : ∃ n, callM (Cn n) m f args h = some r := by
  unfold callM at hr
  split at hr
  · exact callM0_lim hC hr
  · exact callM1_lim hC hr
  · simp only [Option.bind_eq_some_iff] at hr
    obtain ⟨a, ha, x, hx, hr⟩ := hr
    obtain ⟨n, hn⟩ := hC _ _ _ _ hx
    exact ⟨n, by simp only [callM, ha, Option.bind_some, hn]; exact hr⟩
  · split at hr
    · rename_i hp
      obtain ⟨n, hn⟩ := callM0_lim hC hr
      exact ⟨n, by simp only [callM, if_pos hp]; exact hn⟩
    · rename_i hp
      obtain ⟨n, hn⟩ := hC _ _ _ _ hr
      exact ⟨n, by simp only [callM, if_neg hp]; exact hn⟩
  · split at hr
    · rename_i hp
      obtain ⟨n, hn⟩ := callM1_lim hC hr
      exact ⟨n, by simp only [callM, if_pos hp]; exact hn⟩
    · rename_i hp
      obtain ⟨n, hn⟩ := hC _ _ _ _ hr
      exact ⟨n, by simp only [callM, if_neg hp]; exact hn⟩
  · exact callM6_lim hC hr
  · split at hr
    · rename_i hp
      obtain ⟨n, hn⟩ := callM0_lim hC hr
      exact ⟨n, by simp only [callM, if_pos hp]; exact hn⟩
    · rename_i hp
      obtain ⟨n, hn⟩ := callM6_lim hC hr
      exact ⟨n, by simp only [callM, if_neg hp]; exact hn⟩
  · split at hr
    · rename_i hp
      obtain ⟨n, hn⟩ := callM1_lim hC hr
      exact ⟨n, by simp only [callM, if_pos hp]; exact hn⟩
    · rename_i hp
      obtain ⟨n, hn⟩ := callM6_lim hC hr
      exact ⟨n, by simp only [callM, if_neg hp]; exact hn⟩
  · exact callM9_lim hC hr
  · exact callM11_lim hC hr
  · exact callM12_lim hC hr
  · rename_i h0 h1 h2 h4 h5 h6 h7 h8 h9 h11 h12
    obtain ⟨n, hn⟩ := hC _ _ _ _ hr
    refine ⟨n, ?_⟩
    unfold callM
    split <;> first | exact hn | (exfalso; simp_all)

theorem opC_lim {Cn : Nat → CallO} (hC : ∀ f args h r, C f args h = some r → ∃ n, Cn n f args h = some r) {t : List AV} {h : AHeap} {b : Nat} {po : PO} {r : AV × AHeap} (hr : opC C t h b po = some r) : ∃ n, opC (Cn n) t h b po = some r := by
  cases po <;> try exact ⟨0, hr⟩
  case call m f args => exact callM_lim hC hr
  case callv m x args =>
    simp only [opC] at hr ⊢
    split at hr
    · exact callM_lim hC hr
    · cases hr
  case inv m tbl x args =>
    simp only [opC] at hr ⊢
    split at hr
    · split at hr
      · exact callM_lim hC hr
      · simp only [Option.bind_eq_some_iff] at hr ⊢
        obtain ⟨v, hv, hr⟩ := hr
        obtain ⟨n, hn⟩ := callM_lim hC hr
        exact ⟨n, v, hv, hn⟩
      · cases hr
    · cases hr
end

section
variable {S : Sys} {R R' : RunF}

theorem callD_mono (hR : ∀ l st x, R l st = some x → R' l st = some x) : ∀ f args h r, callD S R f args h = some r → callD S R' f args h = some r := by
  intro f args h r hr
  unfold callD at hr ⊢
  split at hr
  · cases hr
  · rename_i p hp
    simp only [Option.bind_eq_some_iff] at hr ⊢
    obtain ⟨x, hx, hr⟩ := hr
    exact ⟨x, hR _ _ _ hx, hr⟩

theorem runD_mono {D D' : Nat → List AV → AHeap → Option AHeap} (hD : ∀ f args h r, D f args h = some r → D' f args h = some r) : ∀ d h r, runD D d h = some r → runD D' d h = some r
  | [], h, r, hr => hr
  | x :: d, h, r, hr => by
    simp only [runD, Option.bind_eq_some_iff] at hr ⊢
    obtain ⟨y, hy, hr⟩ := hr
    exact ⟨y, hD _ _ _ _ hy, runD_mono hD d y r hr⟩

theorem codeF_mono (hR : ∀ l st x, R l st = some x → R' l st = some x) {p : PFn} {args : List AV} {h : AHeap} {r : AV × AHeap} (hr : codeF S R p args h = some r) : codeF S R' p args h = some r := by
  simp only [codeF, Option.bind_eq_some_iff] at hr ⊢
  obtain ⟨x, hx, y, hy, hr⟩ := hr
  exact ⟨x, hR _ _ _ hx, y, runD_mono (callD_mono hR) _ _ _ hy, hr⟩

theorem callF_mono (hR : ∀ l st x, R l st = some x → R' l st = some x) : ∀ f args h r, callF S R f args h = some r → callF S R' f args h = some r := by
  intro f args h r hr
  unfold callF at hr ⊢
  cases he : S.ext f args h with
  | some x => simp only [he] at hr ⊢; exact hr
  | none =>
    simp only [he] at hr ⊢
    cases hp : S.fn f with
    | none => simp [hp] at hr
    | some p =>
      simp only [hp] at hr ⊢
      exact codeF_mono hR hr

theorem opF_mono (hR : ∀ l st x, R l st = some x → R' l st = some x) {r : List PI} {t : List AV} {h : AHeap} {b : Nat} {m : Mk} {d : Option Nat} {o : PO} {x : St} (hr : opF S R r t h b m d o = some x) : opF S R' r t h b m d o = some x := by
  simp only [opF, Option.bind_eq_some_iff] at hr ⊢
  obtain ⟨y, hy, hr⟩ := hr
  exact ⟨y, opC_mono (callF_mono hR) hy, hR _ _ _ hr⟩

theorem stepF_mono (hR : ∀ l st x, R l st = some x → R' l st = some x) : ∀ l st x, stepF S R l st = some x → stepF S R' l st = some x := by
  intro l st x hr
  obtain ⟨t, h, b, m, ex⟩ := st
  cases l with
  | nil => exact hr
  | cons i r =>
    cases ex with
    | ret => exact hr
    | exit id =>
      cases i <;> try exact hR _ _ _ hr
      case endb id' =>
        simp only [stepF] at hr ⊢
        split at hr
        · rename_i he; rw [if_pos he]; exact hR _ _ _ hr
        · rename_i he; rw [if_neg he]; exact hR _ _ _ hr
    | normal =>
      cases i <;> simp only [stepF] at hr ⊢ <;> try exact hR _ _ _ hr
      case op d o => exact opF_mono hR hr
      case opg d j w o =>
        simp only [Option.bind_eq_some_iff] at hr ⊢
        obtain ⟨y, hy, hr⟩ := hr
        refine ⟨y, hy, ?_⟩
        cases y
        · exact hR _ _ _ hr
        · exact opF_mono hR hr
      case stf n d v =>
        simp only [Option.bind_eq_some_iff] at hr ⊢
        obtain ⟨y, hy, hr⟩ := hr
        exact ⟨y, hy, hR _ _ _ hr⟩
      case apart l =>
        split at hr
        · rename_i he; rw [if_pos he]; exact hR _ _ _ hr
        · cases hr
      case tidy i keep =>
        split at hr
        case isFalse => cases hr
        rename_i hd
        rw [if_pos hd]
        simp only [Option.bind_eq_some_iff] at hr ⊢
        obtain ⟨y, hy, hr⟩ := hr
        exact ⟨y, hy, hR _ _ _ hr⟩
      case dfr x args =>
        split at hr
        · exact hR _ _ _ hr
        · cases hr
      case frz i =>
        simp only [Option.bind_eq_some_iff] at hr ⊢
        obtain ⟨y, hy, hr⟩ := hr
        exact ⟨y, hy, hR _ _ _ hr⟩
      case cond c a e =>
        split at hr
        · exact hR _ _ _ hr
        · cases hr
      case ret => exact hr
      case bad => exact hr

theorem stepI_mono {C C' : CallO} (hC : ∀ f args h r, C f args h = some r → C' f args h = some r) {b : Nat} {t : List AV} {h : AHeap} {i : PI} {x : List AV × AHeap} (hr : stepI C b t h i = some x) : stepI C' b t h i = some x := by
  cases i <;> try exact hr
  case op d po =>
    simp only [stepI, Option.map_eq_some_iff] at hr ⊢
    obtain ⟨y, hy, hr⟩ := hr
    exact ⟨y, opC_mono hC hy, hr⟩
  case opg d j w po =>
    simp only [stepI, Option.bind_eq_some_iff] at hr ⊢
    obtain ⟨y, hy, hr⟩ := hr
    refine ⟨y, hy, ?_⟩
    cases y
    · exact hr
    · simp only [cond_true, Option.map_eq_some_iff] at hr ⊢
      obtain ⟨z, hz, hr⟩ := hr
      exact ⟨z, opC_mono hC hz, hr⟩

theorem run_succ : ∀ n l st x, run S n l st = some x → run S (n + 1) l st = some x
  | 0, l, st, x, h => by simp [run] at h
  | n + 1, l, st, x, h => stepF_mono (run_succ n) l st x h

theorem run_mono {n m : Nat} (hnm : n ≤ m) {l : List PI} {st x : St} (h : run S n l st = some x) : run S m l st = some x := by
  induction hnm with
  | refl => exact h
  | step _ ih => exact run_succ _ _ _ _ ih

open Classical in
/-- The evaluator. -/
noncomputable def Run (S : Sys) : RunF := fun l st => if h : ∃ x n, run S n l st = some x then some h.choose else none

theorem Run_iff {l : List PI} {st x : St} : Run S l st = some x ↔ ∃ n, run S n l st = some x := by
  unfold Run
  constructor
  · intro h
    split at h
    · rename_i he
      simp only [Option.some.injEq] at h
      rw [← h]
      exact he.choose_spec
    · cases h
  · rintro ⟨n, hn⟩
    have he : ∃ x n, run S n l st = some x := ⟨x, n, hn⟩
    rw [dif_pos he]
    obtain ⟨k, hk⟩ := he.choose_spec
    have h1 := run_mono (Nat.le_max_left n k) hn
    have h2 := run_mono (Nat.le_max_right n k) hk
    rw [h1] at h2
    exact h2.symm

/-- A call, without fuel. -/
noncomputable def Call (S : Sys) : CallO := callF S (Run S)

theorem callD_lim {f : Nat} {args : List AV} {h h' : AHeap} (hr : callD S (Run S) f args h = some h') : ∃ n, callD S (run S n) f args h = some h' := by
  unfold callD at hr
  split at hr
  · cases hr
  · rename_i p hp
    simp only [Option.bind_eq_some_iff] at hr
    obtain ⟨x, hx, hr⟩ := hr
    obtain ⟨n, hn⟩ := Run_iff.1 hx
    refine ⟨n, ?_⟩
    simp only [callD, hp, Option.bind_eq_some_iff]
    exact ⟨x, hn, hr⟩

theorem runD_lim : ∀ {d : List (Nat × List AV)} {h h' : AHeap}, runD (callD S (Run S)) d h = some h' → ∃ n, runD (callD S (run S n)) d h = some h'
  | [], h, r, hr => ⟨0, hr⟩
  | x :: d, h, r, hr => by
    simp only [runD, Option.bind_eq_some_iff] at hr
    obtain ⟨y, hy, hr⟩ := hr
    obtain ⟨n, hn⟩ := callD_lim hy
    obtain ⟨k, hk⟩ := runD_lim hr
    refine ⟨max n k, ?_⟩
    simp only [runD, Option.bind_eq_some_iff]
    exact ⟨y, callD_mono (fun l st x h => run_mono (Nat.le_max_left n k) h) _ _ _ _ hn, runD_mono (callD_mono (fun l st x h => run_mono (Nat.le_max_right n k) h)) _ _ _ hk⟩

theorem codeF_lim {p : PFn} {args : List AV} {h : AHeap} {r : AV × AHeap} (hr : codeF S (Run S) p args h = some r) : ∃ n, codeF S (run S n) p args h = some r := by
  simp only [codeF, Option.bind_eq_some_iff] at hr
  obtain ⟨x, hx, y, hy, hr⟩ := hr
  obtain ⟨n, hn⟩ := Run_iff.1 hx
  obtain ⟨k, hk⟩ := runD_lim hy
  refine ⟨max n k, ?_⟩
  simp only [codeF, Option.bind_eq_some_iff]
  exact ⟨x, run_mono (Nat.le_max_left n k) hn, y, runD_mono (callD_mono (fun l st x h => run_mono (Nat.le_max_right n k) h)) _ _ _ hk, hr⟩

theorem Call_iff {f : Nat} {args : List AV} {h : AHeap} {r : AV × AHeap} : Call S f args h = some r ↔ ∃ n, callF S (run S n) f args h = some r := by
  constructor
  · intro hr
    unfold Call callF at hr
    split at hr
    · rename_i x he
      exact ⟨0, by simp only [callF, he]; exact hr⟩
    · rename_i he
      split at hr
      · cases hr
      · rename_i p hp
        obtain ⟨n, hn⟩ := codeF_lim hr
        exact ⟨n, by simp only [callF, he, hp]; exact hn⟩
  · rintro ⟨n, hn⟩
    exact callF_mono (fun l st x h => Run_iff.2 ⟨n, h⟩) _ _ _ _ hn

theorem opF_lim {r : List PI} {t : List AV} {h : AHeap} {b : Nat} {m : Mk} {d : Option Nat} {o : PO} {x : St} (hr : opF S (Run S) r t h b m d o = some x) : ∃ n, opF S (run S n) r t h b m d o = some x := by
  simp only [opF, Option.bind_eq_some_iff] at hr
  obtain ⟨y, hy, hr⟩ := hr
  obtain ⟨n, hn⟩ := opC_lim (Cn := fun n => callF S (run S n)) (fun f args h r hc => Call_iff.1 hc) hy
  obtain ⟨k, hk⟩ := Run_iff.1 hr
  refine ⟨max n k, ?_⟩
  simp only [opF, Option.bind_eq_some_iff]
  exact ⟨y, opC_mono (callF_mono (fun l st x h => run_mono (Nat.le_max_left n k) h)) hn, run_mono (Nat.le_max_right n k) hk⟩

theorem stepF_lim {l : List PI} {st x : St} (hr : stepF S (Run S) l st = some x) : ∃ n, stepF S (run S n) l st = some x := by
  obtain ⟨t, h, b, m, ex⟩ := st
  cases l with
  | nil => exact ⟨0, hr⟩
  | cons i r =>
    cases ex with
    | ret => exact ⟨0, hr⟩
    | exit id =>
      cases i <;> try exact Run_iff.1 hr
      case endb id' =>
        simp only [stepF] at hr ⊢
        split at hr
        · rename_i he; simp only [if_pos he]; exact Run_iff.1 hr
        · rename_i he; simp only [if_neg he]; exact Run_iff.1 hr
    | normal =>
      cases i <;> simp only [stepF] at hr ⊢ <;> try exact Run_iff.1 hr
      case op d o => exact opF_lim hr
      case opg d j w o =>
        simp only [Option.bind_eq_some_iff] at hr ⊢
        obtain ⟨y, hy, hr⟩ := hr
        cases y
        · obtain ⟨n, hn⟩ := Run_iff.1 hr
          exact ⟨n, false, hy, hn⟩
        · obtain ⟨n, hn⟩ := opF_lim hr
          exact ⟨n, true, hy, hn⟩
      case stf n d v =>
        simp only [Option.bind_eq_some_iff] at hr ⊢
        obtain ⟨y, hy, hr⟩ := hr
        obtain ⟨n, hn⟩ := Run_iff.1 hr
        exact ⟨n, y, hy, hn⟩
      case apart l =>
        split at hr
        · rename_i he; simp only [if_pos he]; exact Run_iff.1 hr
        · cases hr
      case tidy i keep =>
        split at hr
        case isFalse => cases hr
        rename_i hd
        simp only [if_pos hd, Option.bind_eq_some_iff] at hr ⊢
        obtain ⟨y, hy, hr⟩ := hr
        obtain ⟨n, hn⟩ := Run_iff.1 hr
        exact ⟨n, y, hy, hn⟩
      case dfr x args =>
        split at hr
        · exact Run_iff.1 hr
        · cases hr
      case frz i =>
        simp only [Option.bind_eq_some_iff] at hr ⊢
        obtain ⟨y, hy, hr⟩ := hr
        obtain ⟨n, hn⟩ := Run_iff.1 hr
        exact ⟨n, y, hy, hn⟩
      case cond c a e =>
        split at hr
        · exact Run_iff.1 hr
        · cases hr
      case ret => exact ⟨0, hr⟩
      case bad => cases hr

/-- The evaluator is what one instruction and the evaluator are. -/
theorem Run_eq (l : List PI) (st : St) : Run S l st = stepF S (Run S) l st := by
  apply Option.ext
  intro x
  rw [Run_iff]
  constructor
  · rintro ⟨n, hn⟩
    cases n with
    | zero => simp [run] at hn
    | succ n => exact stepF_mono (fun l st x h => Run_iff.2 ⟨n, h⟩) _ _ _ hn
  · intro h
    obtain ⟨n, hn⟩ := stepF_lim h
    exact ⟨n + 1, hn⟩
end
end Go.Proofs.Abs

-- ---- Abs25
set_option linter.unusedSimpArgs false
set_option linter.unusedVariables false
namespace Go.Proofs.Abs
open Go.RowKit

/-- Instructions that are no code. -/
def PI.still : PI → Bool
  | .mark _ | .tidy .. | .frz _ => true
  | _ => false
def strip : List PI → List PI
  | [] => []
  | i :: r => if i.still then strip r else i :: r

/-- A call that is put off. -/
def chkDf (o : Oper) : PI → Bool
  | .dfr x args => o.dst.isNone && o.guard.isNone && (match o.op with
    | .defer ⟨.value x', args', _⟩ => chkX x' x && chkXs args'.toList args
    | _ => false)
  | _ => false

def chkOps (P : Program) (ops : Array Oper) : List Oper → List PI → Option (List PI)
  | [], l => some l
  | o :: os, l => match strip l with
    | i :: r => if chkI P ops o i || chkDf o i then chkOps P ops os r else none
    | [] => none

def done : Option (List PI) → Bool
  | some l => (strip l).isEmpty
  | none => false

/-- Code that is never come to. -/
def chkBad (l : List PI) : Option (List PI) := match strip l with
  | .bad :: r => some r
  | _ => none

/-- That a list of instructions begins with a code's; what is left. -/
def chk (P : Program) : Code → List PI → Option (List PI)
  | .skip, l => some l
  | .label _, l => some l
  | .seq x y, l => (chk P x l).bind (chk P y)
  | .region _ ops false, l => chkOps P ops ops.toList l
  | .region _ ops true, l => match strip l with
    | .draw _ ord ap a :: r => if P.follows .mixedOrders && chkDraw P ops ord ap a then some r else none
    | _ => none
  | .cond c x y, l => match strip l with
    | .cond c' a b :: r => if chkX c c' && done (chk P x a) && done (chk P y b) then some r else none
    | _ => none
  | .block id x, l => match strip l with
    | .block id' a :: r => if id' == id && done (chk P x a) then some r else none
    | _ => none
  | .loop x, l => match strip l with
    | .loop a :: r => if done (chk P x a) then some r else none
    | _ => none
  | .scope x, l => chk P x l
  | .exit id, l => match strip l with
    | .exit id' :: r => if id' == id then some r else none
    | _ => none
  | .ret, l => match strip l with
    | .ret :: r => some r
    | _ => none
  | .rangeFunc .., l => chkBad l
  | .goto _, l => chkBad l
  | .refuse _, l => chkBad l

def chkRes (P : Program) : List ResultVar → List Res → Bool
  | [], [] => true
  | .tmp i :: l, .tmp j :: m => i == j && chkRes P l m
  | .cell i ty :: l, .cell n j :: m => i == j && chkLd P ty n && chkRes P l m
  | _, _ => false

/-- That a text is a function's. -/
def chkF (P : Program) (f : FuncId) (p : PFn) : Bool := match P.funcs[f]? with
  | some fn => fn.name != "runtime.NumGoroutine" && fn.ntmps == p.nt && chkRes P fn.results.toList p.res && (match fn.body with
    | some c => done (chk P c p.code)
    | none => false)
  | none => false

theorem strip_append {x : List PI} : ∀ {l : List PI} {i : PI} {r : List PI}, strip l = i :: r → strip (l ++ x) = i :: (r ++ x)
  | [], _, _, h => by simp [strip] at h
  | j :: l, i, r, h => by
    simp only [strip, List.cons_append] at h ⊢
    split at h
    · rename_i hj; rw [if_pos hj]; exact strip_append h
    · rename_i hj
      rw [if_neg hj]
      simp only [List.cons.injEq] at h
      rw [h.1, h.2]

theorem chkOps_append {P : Program} {ops : Array Oper} {x : List PI} : ∀ {os : List Oper} {l r : List PI}, chkOps P ops os l = some r → chkOps P ops os (l ++ x) = some (r ++ x)
  | [], l, r, h => by simp only [chkOps, Option.some.injEq] at h ⊢; rw [h]
  | o :: os, l, r, h => by
    simp only [chkOps] at h ⊢
    split at h
    case h_2 => cases h
    rename_i i r' hs
    rw [strip_append hs]
    simp only
    split at h
    case isFalse => cases h
    rename_i hc
    rw [if_pos hc]
    exact chkOps_append h

theorem chkBad_append {x l r : List PI} (h : chkBad l = some r) : chkBad (l ++ x) = some (r ++ x) := by
  unfold chkBad at h ⊢
  split at h
  case h_2 => cases h
  rename_i hs
  rw [strip_append hs]
  simp only [Option.some.injEq] at h ⊢
  rw [h]

theorem chk_append {P : Program} {x : List PI} : ∀ {c : Code} {l r : List PI}, chk P c l = some r → chk P c (l ++ x) = some (r ++ x)
  | .skip, l, r, h => by simp only [chk, Option.some.injEq] at h ⊢; rw [h]
  | .label _, l, r, h => by simp only [chk, Option.some.injEq] at h ⊢; rw [h]
  | .seq a b, l, r, h => by
    simp only [chk, Option.bind_eq_some_iff] at h ⊢
    obtain ⟨l1, h1, h2⟩ := h
    exact ⟨_, chk_append h1, chk_append h2⟩
  | .region _ ops false, l, r, h => by simp only [chk] at h ⊢; exact chkOps_append h
  | .region _ ops true, l, r, h => by
    simp only [chk] at h ⊢
    split at h
    case h_2 => cases h
    rename_i hs
    rw [strip_append hs]
    simp only
    split at h
    case isFalse => cases h
    rename_i hc
    simp only [Option.some.injEq] at h
    rw [if_pos hc, h]
  | .cond c a b, l, r, h => by
    simp only [chk] at h ⊢
    split at h
    case h_2 => cases h
    rename_i hs
    rw [strip_append hs]
    simp only
    split at h
    case isFalse => cases h
    rename_i hc
    simp only [Option.some.injEq] at h
    rw [if_pos hc, h]
  | .block _ a, l, r, h => by
    simp only [chk] at h ⊢
    split at h
    case h_2 => cases h
    rename_i hs
    rw [strip_append hs]
    simp only
    split at h
    case isFalse => cases h
    rename_i hc
    simp only [Option.some.injEq] at h
    rw [if_pos hc, h]
  | .loop a, l, r, h => by
    simp only [chk] at h ⊢
    split at h
    case h_2 => cases h
    rename_i hs
    rw [strip_append hs]
    simp only
    split at h
    case isFalse => cases h
    rename_i hc
    simp only [Option.some.injEq] at h
    rw [if_pos hc, h]
  | .scope a, l, r, h => by simp only [chk] at h ⊢; exact chk_append h
  | .exit _, l, r, h => by
    simp only [chk] at h ⊢
    split at h
    case h_2 => cases h
    rename_i hs
    rw [strip_append hs]
    simp only
    split at h
    case isFalse => cases h
    rename_i hc
    simp only [Option.some.injEq] at h
    rw [if_pos hc, h]
  | .ret, l, r, h => by
    simp only [chk] at h ⊢
    split at h
    case h_2 => cases h
    rename_i hs
    rw [strip_append hs]
    simp only [Option.some.injEq] at h ⊢
    rw [h]
  | .rangeFunc .., _, _, h => chkBad_append h
  | .goto _, _, _, h => chkBad_append h
  | .refuse _, _, _, h => chkBad_append h

section
variable {P : Program} {S : Sys} {w0 : World} {X0 : Nat → Prop} {wI : World} {hI : AHeap} {locI : Nat → Nat}

/-- What a code comes to. -/
def Post (S : Sys) (w0 : World) (X0 : Nat → Prop) (wI : World) (hI : AHeap) (locI : Nat → Nat) (N : Nat) (rest : List PI) (stF : St) : Exit → Act → World → Prop
  | .normal, a, w => ∃ n t h b m, n ≤ N ∧ run S n rest ⟨t, h, b, m, .normal⟩ = some stF ∧ m.l.head? = some hI.length ∧ SR w0 X0 wI hI locI m.d t h a w
  | .exit id, a, w => ∃ n t h b m, n ≤ N ∧ run S n rest ⟨t, h, b, m, .exit id⟩ = some stF ∧ m.l.head? = some hI.length ∧ SR w0 X0 wI hI locI m.d t h a w
  | .ret, a, w => ∃ t h b m, stF = ⟨t, h, b, m, .ret⟩ ∧ SR w0 X0 wI hI locI m.d t h a w
  | _, _, _ => False

theorem Post.mono {N N' : Nat} {rest : List PI} {stF : St} (hN : N ≤ N') {e : Exit} {a : Act} {w : World} (h : Post S w0 X0 wI hI locI N rest stF e a w) : Post S w0 X0 wI hI locI N' rest stF e a w := by
  cases e with
  | normal => obtain ⟨n, t, h, b, m, hn, h1⟩ := h; exact ⟨n, t, h, b, m, by omega, h1⟩
  | exit id => obtain ⟨n, t, h, b, m, hn, h1⟩ := h; exact ⟨n, t, h, b, m, by omega, h1⟩
  | ret => exact h
  | _ => exact h.elim

theorem headD_of {m : List Nat} {x : Nat} (h : m.head? = some x) : m.headD 0 = x := by cases m <;> simp_all

theorem still_run {stF : St} {a : Act} {w : World} {i : PI} {l : List PI} {n : Nat} {t : List AV} {h : AHeap} {b : Nat} {m : Mk} (hi : i.still = true) (hr : run S (n + 1) (i :: l) ⟨t, h, b, m, .normal⟩ = some stF) (hm : m.l.head? = some hI.length) (R : SR w0 X0 wI hI locI m.d t h a w) :
    ∃ n' t' h' b' m', n' ≤ n + 1 ∧ run S n' l ⟨t', h', b', m', .normal⟩ = some stF ∧ m'.l.head? = some hI.length ∧ SR w0 X0 wI hI locI m'.d t' h' a w := by
  obtain ⟨⟨loc, K0, W, Sl, hd⟩⟩ := R
  cases i <;> try (simp [PI.still] at hi; done)
  case mark i =>
    simp only [run, stepF] at hr
    refine ⟨n, _, _, _, _, by omega, hr, ?_, ⟨⟨loc, K0, W, Sl, hd⟩⟩⟩
    obtain ⟨ml, md⟩ := m
    cases ml with
    | nil => simp at hm
    | cons x m => simpa using hm
  case tidy i keep =>
    simp only [run, stepF] at hr
    split at hr
    case isFalse => cases hr
    rename_i hemp
    simp only [Option.bind_eq_some_iff] at hr
    obtain ⟨⟨t1, h1⟩, ht, hr⟩ := hr
    obtain ⟨g1, g2, g3⟩ := tidy_ok W Sl K0 (headD_of hm) ht
    refine ⟨n, _, _, _, _, by omega, hr, hm, ⟨⟨loc, g1, g2, g3, ?_⟩⟩⟩
    rw [List.isEmpty_iff] at hemp
    rw [hemp] at hd ⊢
    rw [hd.nil]
    trivial
  case frz i =>
    simp only [run, stepF, Option.bind_eq_some_iff] at hr
    obtain ⟨⟨t1, h1⟩, ht, hr⟩ := hr
    obtain ⟨g1, g2, g3⟩ := frz_ok W Sl ht
    exact ⟨n, _, _, _, _, by omega, hr, hm, ⟨⟨loc, K0.trans g1 (fun b hb hx => K0.X' b hb hx), g2, g3, hd.keep g1⟩⟩⟩

theorem strip_run {stF : St} {a : Act} {w : World} : ∀ {l : List PI} {n : Nat} {t : List AV} {h : AHeap} {b : Nat} {m : Mk}, run S n l ⟨t, h, b, m, .normal⟩ = some stF → m.l.head? = some hI.length → SR w0 X0 wI hI locI m.d t h a w →
    ∃ n' t' h' b' m', n' ≤ n ∧ run S n' (strip l) ⟨t', h', b', m', .normal⟩ = some stF ∧ m'.l.head? = some hI.length ∧ SR w0 X0 wI hI locI m'.d t' h' a w
  | [], n, t, h, b, m, hr, hm, R => ⟨n, t, h, b, m, Nat.le_refl _, hr, hm, R⟩
  | i :: l, n, t, h, b, m, hr, hm, R => by
    simp only [strip]
    split
    case isFalse => exact ⟨n, t, h, b, m, Nat.le_refl _, hr, hm, R⟩
    rename_i hi
    cases n with
    | zero => simp [run] at hr
    | succ n =>
      obtain ⟨n1, t1, h1, b1, m1, e1, e2, e3, e4⟩ := still_run hi hr hm R
      obtain ⟨n', t', h', b', m', k1, k2⟩ := strip_run e2 e3 e4
      exact ⟨n', t', h', b', m', by omega, k2⟩

/-- Room for blocks. -/
theorem room_ok {n : Nat} {h : AHeap} {t : List AV} {dd : List (Nat × List AV)} {a : Act} {w : World} (R : SR w0 X0 wI hI locI dd t h a w) : SR w0 X0 wI hI locI dd t (h ++ List.replicate n ⟨.hole, 0, 0, []⟩) a w := by
  induction n with
  | zero => simpa using R
  | succ n ih =>
    rw [List.replicate_succ', ← List.append_assoc]
    generalize h ++ List.replicate n (⟨.hole, 0, 0, []⟩ : Blk) = h at ih
    obtain ⟨⟨loc, K0, W, Sl, hd⟩⟩ := ih
    have hlen : (h ++ [(⟨.hole, 0, 0, []⟩ : Blk)])[h.length]? = some ⟨.hole, 0, 0, []⟩ := by simp
    have c : Chg w0.heap.size w h loc w (h ++ [⟨.hole, 0, 0, []⟩]) loc h.length ⟨.hole, 0, 0, []⟩ :=
      { size := Nat.le_refl _
        blk := fun _ _ _ => rfl
        oth := fun j hj => by
          rw [List.getElem?_append]
          split
          · rfl
          · rw [List.getElem?_eq_none (by simp; omega), List.getElem?_eq_none (by omega)]
        at1 := hlen
        pl := fun _ _ => rfl
        old := .inl (.inl (by simp))
        new := fun hd => by simp at hd }
    have K := c.keeps W.heap
    exact ⟨⟨loc, K0.trans K (fun b hb hx => K0.X' b hb hx), ⟨W.below, W.x1 K, c.heap W.heap (fun hd => by simp at hd)⟩, Sl.keep K, hd.keep K⟩⟩

/-- The instructions of a region that draws, run. -/
theorem runI_of_run {ops : Array Oper} {rest : List PI} {b : Nat} {m : Mk} {stF : St} {N : Nat} : ∀ {ord : List Nat} {a : List PI} {n : Nat} {t : List AV} {h : AHeap}, a.length = ord.length →
    (∀ p ∈ ord.zip a, ∃ o, ops[p.1]? = some o ∧ chkI P ops o p.2 = true) → n ≤ N + 1 → run S n (a ++ rest) ⟨t, h, b, m, .normal⟩ = some stF →
    ∃ k t1 h1, k ≤ n ∧ runI (callF S (run S N)) b (ord.zip a) t h = some (t1, h1) ∧ run S k rest ⟨t1, h1, b, m, .normal⟩ = some stF
  | [], a, n, t, h, hl, _, _, hr => by
    obtain rfl : a = [] := List.eq_nil_of_length_eq_zero (by simpa using hl)
    exact ⟨n, t, h, Nat.le_refl _, rfl, hr⟩
  | k :: ord, [], n, t, h, hl, _, _, _ => by simp at hl
  | k :: ord, i :: a, n, t, h, hl, hc, hn, hr => by
    cases n with
    | zero => simp [run] at hr
    | succ n =>
      obtain ⟨o, ho, hci⟩ := hc (k, i) (by simp)
      rw [List.cons_append, run_stepI hci, Option.bind_eq_some_iff] at hr
      obtain ⟨⟨t1, h1⟩, hs, hr⟩ := hr
      obtain ⟨k', t2, h2, g1, g2, g3⟩ := runI_of_run (ord := ord) (a := a) (N := N) (by simpa using hl) (fun p hp => hc p (by simp [hp])) (by omega) hr
      refine ⟨k', t2, h2, by omega, ?_, g3⟩
      simp only [List.zip_cons_cons, runI]
      rw [stepI_mono (callF_mono (fun l st x h => run_mono (by omega : n ≤ N) h)) hs]
      exact g2

theorem SR.drew {t : List AV} {h : AHeap} {dd : List (Nat × List AV)} {a : Act} {w : World} (R : SR w0 X0 wI hI locI dd t h a w) (k : Nat) : SR w0 X0 wI hI locI dd t h a { w with drawn := k } := by
  obtain ⟨⟨loc, K0, W, Sl, hd⟩⟩ := R
  obtain ⟨W1, K1⟩ := W.same (w1 := { w with drawn := k }) (Nat.le_refl _) (fun _ _ => rfl) rfl rfl rfl
  exact ⟨⟨loc, K0.trans K1 (fun b hb hx => K0.X' b hb hx), W1, Sl.keep K1, hd.keep K1⟩⟩

/-- A code is sound with fuel 'n'. -/
def BS' (P : Program) (S : Sys) (n : Nat) : Prop := ∀ (w0 : World) (X0 : Nat → Prop) (wI : World) (hI : AHeap) (locI : Nat → Nat) (c : Code) (l rest : List PI) (t : List AV) (h : AHeap) (b : Nat) (m : Mk) (stF : St) (a : Act) (w : World),
  chk P c l = some rest → run S n l ⟨t, h, b, m, .normal⟩ = some stF → m.l.head? = some hI.length → SR w0 X0 wI hI locI m.d t h a w → c.wp P (Post S w0 X0 wI hI locI n rest stF) a w

/-- A call is put off. -/
theorem dfr_sound {ops : Array Oper} {i : PI} {r : List PI} {n : Nat} {t : List AV} {h : AHeap} {b : Nat} {m : Mk} {stF : St} {a : Act} {w : World} {o : Oper} {k : Nat} (hk : ops[k]? = some o) (hc : chkDf o i = true) (hr : run S (n + 1) (i :: r) ⟨t, h, b, m, .normal⟩ = some stF) (R : SR w0 X0 wI hI locI m.d t h a w) :
    ∃ x args, i = .dfr x args ∧ ∃ f e1 e2, xv t x = .fn f e1 e2 ∧ run S n r ⟨t, h, b, ⟨m.l, (f, e1 ++ args.map (xv t) ++ e2) :: m.d⟩, .normal⟩ = some stF ∧
      ∀ {Q : Exit → Act → World → Prop} (K : Act → World → Prop), (∀ a1, SR w0 X0 wI hI locI ((f, e1 ++ args.map (xv t) ++ e2) :: m.d) t h a1 w → K a1 w) → wpOp P ops Q k K a w := by
  cases i <;> try (simp [chkDf] at hc; done)
  rename_i x args
  refine ⟨x, args, rfl, ?_⟩
  simp only [chkDf, Bool.and_eq_true, Option.isNone_iff_eq_none] at hc
  obtain ⟨⟨hdst, hg⟩, hc⟩ := hc
  split at hc
  case h_2 => cases hc
  rename_i x' args' tys ho
  simp only [Bool.and_eq_true] at hc
  obtain ⟨hcx, hca⟩ := hc
  obtain ⟨⟨loc, K0, W, Sl, hd⟩⟩ := R
  simp only [run, stepF] at hr
  split at hr
  case h_2 => cases hr
  rename_i f e1 e2 hx
  refine ⟨f, e1, e2, hx, hr, fun {Q} K hK => ?_⟩
  have hrx := Sl.x hcx
  rw [hx] at hrx
  have hinv : ∃ c1 c2 : Array Value, a.eval x' = .func (.func f) c1 c2 ∧ RepL w h loc (XH X0 h loc) e1 c1.toList ∧ RepL w h loc (XH X0 h loc) e2 c2.toList := by
    generalize a.eval x' = u at hrx
    cases hrx with
    | fn _ _ _ c d ha hb hra hrb =>
      exact ⟨c, d, rfl, ⟨by simpa using ha.symm, fun i g1 g2 => by have := hra i g1 (by simpa using g2); rwa [Array.getElem_toList]⟩, ⟨by simpa using hb.symm, fun i g1 g2 => by have := hrb i g1 (by simpa using g2); rwa [Array.getElem_toList]⟩⟩
  obtain ⟨c1, c2, hv, hr1, hr2⟩ := hinv
  have hra := Sl.xs hca
  unfold wpOp
  rw [hk]
  simp only
  have hw : Region.wanted o (yielded ops a.tmps) = true := by simp [Region.wanted, hg]
  rw [if_pos hw]
  refine .inl ?_
  unfold Oper.wp
  have hrun : (execOp a.eval o).run P w = .ok (.defer { target := .fn (.func f) c2, args := c1 ++ args'.map a.eval }) w := by
    simp [execOp, ho, resolve, hv, Deferred.ofValue]
  rw [hrun, Oper.upon_defer]
  refine hK _ ⟨⟨loc, K0, W, ?_, ?_⟩⟩
  · rw [hdst]; exact Sl
  · rw [hdst]
    refine ⟨⟨c2, rfl, ?_⟩, hd⟩
    have := RepL.append (RepL.append hr1 hra) hr2
    simpa using this

theorem ops_sound {ops : Array Oper} {N : Nat} (hA : ∀ n < N, ∀ f args h r h', callF S (run S n) f args h = some (r, h') → CallSound P f args h r h') {rest : List PI} {stF : St} :
    ∀ (os : List Oper) (k : Nat) (l : List PI) (n : Nat) (t : List AV) (h : AHeap) (b : Nat) (m : Mk) (a : Act) (w : World), (∀ j, os[j]? = ops[k + j]?) → chkOps P ops os l = some rest → n ≤ N → run S n l ⟨t, h, b, m, .normal⟩ = some stF → m.l.head? = some hI.length →
      SR w0 X0 wI hI locI m.d t h a w → wpOps P ops (Post S w0 X0 wI hI locI N rest stF) ((List.range' k os.length)) a w
  | [], k, l, n, t, h, b, m, a, w, hj, hc, hn, hr, hm, R => by
    simp only [chkOps, Option.some.injEq] at hc
    subst hc
    simp only [List.length_nil, List.range'_zero, wpOps]
    exact ⟨n, t, h, b, m, hn, hr, hm, R⟩
  | o :: os, k, l, n, t, h, b, m, a, w, hj, hc, hn, hr, hm, R => by
    simp only [chkOps] at hc
    split at hc
    case h_2 => cases hc
    rename_i i r hs
    split at hc
    case isFalse => cases hc
    rename_i hci
    obtain ⟨n', t', h', b', m', hn', hr', hm', R'⟩ := strip_run hr hm R
    rw [hs] at hr'
    rw [Bool.or_eq_true] at hci
    cases n' with
    | zero => simp [run] at hr'
    | succ n' =>
      have hk : ops[k]? = some o := by simpa using (hj 0).symm
      rcases hci with hci | hci
      case inr =>
        rw [List.length_cons, List.range'_succ, wpOps_cons]
        obtain ⟨x, args, rfl, f, e1, e2, hx, hrun, hd⟩ := dfr_sound hk hci hr' R'
        refine hd _ fun a1 R1 => ?_
        exact ops_sound hA os (k + 1) r n' t' h' b' _ a1 w (fun j => by have := hj (j + 1); simpa [Nat.add_assoc, Nat.add_comm 1 j] using this) hc (by omega) hrun hm' R1
      rw [run_stepI hci, Option.bind_eq_some_iff] at hr'
      obtain ⟨⟨t1, h1⟩, hst, hr1⟩ := hr'
      rw [List.length_cons, List.range'_succ, wpOps_cons]
      refine stepI_sound (hA n' (by omega)) hk hci hst R' (fun a1 w1 R1 => ?_)
      exact ops_sound hA os (k + 1) r n' t1 h1 b' m' a1 w1 (fun j => by have := hj (j + 1); simpa [Nat.add_assoc, Nat.add_comm 1 j] using this) hc (by omega) hr1 hm' R1

end
end Go.Proofs.Abs

-- ---- Abs26
set_option linter.unusedSimpArgs false
set_option linter.unusedVariables false
namespace Go.Proofs.Abs
open Go.RowKit

section
variable {P : Program} {S : Sys} {w0 : World} {X0 : Nat → Prop} {wI : World} {hI : AHeap} {locI : Nat → Nat}

/-- A result's value, in the machine. -/
def resS (tmps : Array Value) : ResultVar → Sem Value
  | .tmp t => pure (tmps.getD t undef)
  | .cell ad t => do loadVar t (← asAddr (tmps.getD ad undef))

theorem res_list {h : AHeap} {w : World} {loc : Nat → Nat} {t : List AV} {a : Act} (W : Wrel w0 X0 w h loc) (Sl : Slots w h loc (XH X0 h loc) t a.tmps) : ∀ (l : List ResultVar) (m : List Res) (vs : List AV), chkRes P l m = true → resL t h m = some vs →
    ∃ xs, (l.mapM (resS a.tmps) : Sem (List Value)).run P w = .ok xs w ∧ RepL w h loc (XH X0 h loc) vs xs
  | [], [], vs, _, hv => by
    simp only [resL, Option.some.injEq] at hv
    subst hv
    exact ⟨[], rfl, rfl, fun i h1 => by simp at h1⟩
  | .tmp i :: l, .tmp j :: m, vs, hc, hv => by
    simp only [chkRes, Bool.and_eq_true, beq_iff_eq] at hc
    obtain ⟨rfl, hc⟩ := hc
    simp only [resL, resV, Option.bind_some, Option.map_eq_some_iff] at hv
    obtain ⟨ms, hm, rfl⟩ := hv
    obtain ⟨xs, h1, h2⟩ := res_list W Sl l m ms hc hm
    refine ⟨a.tmps.getD i undef :: xs, ?_, by simp [h2.1], fun k g1 g2 => ?_⟩
    · have h0 : (resS a.tmps (.tmp i)).run P w = .ok (a.tmps.getD i undef) w := rfl
      simp only [List.mapM_cons, Sem.run_bind, h0, Result.andThen_ok, h1]
      rfl
    · cases k with
      | zero => exact Sl.x (o := .tmp i) (x := .t i) (by simp [chkX])
      | succ k => exact h2.2 k (by simpa using g1) (by simpa using g2)
  | .cell i ty :: l, .cell n j :: m, vs, hc, hv => by
    simp only [chkRes, Bool.and_eq_true, beq_iff_eq] at hc
    obtain ⟨⟨rfl, hk⟩, hc⟩ := hc
    simp only [resL, resV, Option.bind_eq_some_iff, Option.map_eq_some_iff] at hv
    obtain ⟨v, hv, ms, hm, rfl⟩ := hv
    obtain ⟨xs, h1, h2⟩ := res_list W Sl l m ms hc hm
    have hr := Sl.x (o := .tmp i) (x := .t i) (by simp [chkX])
    obtain ⟨ad, x, e1, e2, e3⟩ := run_ldx (P := P) W hr hk hv
    have e1' : a.tmps.getD i undef = .pointer (some ad) := e1
    have h0 : (resS a.tmps (.cell i ty)).run P w = .ok x w := by
      simp only [resS, e1', asAddr, Sem.run_bind, Sem.run_pure, Result.andThen_ok, e2]
    refine ⟨x :: xs, ?_, by simp [h2.1], fun k g1 g2 => ?_⟩
    · simp only [List.mapM_cons, Sem.run_bind, h0, Result.andThen_ok, h1]
      rfl
    · cases k with
      | zero => exact e3
      | succ k => exact h2.2 k (by simpa using g1) (by simpa using g2)
  | [], _ :: _, _, hc, _ => by simp [chkRes] at hc
  | .tmp _ :: _, [], _, hc, _ => by simp [chkRes] at hc
  | .cell .. :: _, [], _, hc, _ => by simp [chkRes] at hc
  | .tmp _ :: _, .cell .. :: _, _, hc, _ => by simp [chkRes] at hc
  | .cell .. :: _, .tmp _ :: _, _, hc, _ => by simp [chkRes] at hc

theorem results_eq (fn : Func) (tmps : Array Value) : results fn tmps = (do
    let vs ← fn.results.mapM (resS tmps)
    pure (if h : vs.size = 1 then vs[0] else .tuple vs)) := by
  unfold results
  congr 1

theorem results_ok {fn : Func} {p : PFn} {h : AHeap} {w : World} {loc : Nat → Nat} {t : List AV} {a : Act} {r : AV} {h' : AHeap} {b : Nat} {m : Mk} {ex : Ex} (W : Wrel w0 X0 w h loc) (Sl : Slots w h loc (XH X0 h loc) t a.tmps) (hc : chkRes P fn.results.toList p.res = true) (hr : retF p.res ⟨t, h, b, m, ex⟩ = some (r, h')) :
    h' = h ∧ ∃ x, (results fn a.tmps).run P w = .ok x w ∧ Rep w h loc (XH X0 h loc) r x := by
  have hr' : (resL t h p.res).map (fun l => (one l, h)) = some (r, h') := by
    cases ex <;> first | exact hr | cases hr
  simp only [Option.map_eq_some_iff, Prod.mk.injEq] at hr'
  obtain ⟨vs, hv, rfl, rfl⟩ := hr'
  obtain ⟨xs, h1, h2⟩ := res_list (P := P) W Sl _ _ vs hc hv
  refine ⟨rfl, if h : xs.length = 1 then xs[0] else .tuple xs.toArray, ?_, ?_⟩
  · rw [results_eq, Array.mapM_eq_mapM_toList]
    simp only [Sem.run_bind, Sem.run_map, h1]
    simp
  · unfold one
    split
    · rename_i v
      have hl : xs.length = 1 := by simpa using h2.1.symm
      rw [dif_pos hl]
      exact h2.2 0 (by simp) (by omega)
    · rename_i l hne
      have hl : ¬ xs.length = 1 := by
        rw [← h2.1]
        intro he
        obtain ⟨v, rfl⟩ := List.length_eq_one_iff.1 he
        exact hne v rfl
      rw [dif_neg hl]
      exact .tup _ _ (by simpa using h2.1.symm) (fun i g1 g2 => by simpa using h2.2 i g1 (by simpa using g2))

/-- What a code takes from a list ends no block. -/
def PI.isEnd : PI → Bool
  | .endb _ => true
  | _ => false

theorem strip_pre : ∀ (l : List PI), ∃ p, l = p ++ strip l ∧ ∀ i ∈ p, i.isEnd = false
  | [] => ⟨[], rfl, fun i h => by cases h⟩
  | j :: l => by
    simp only [strip]
    split
    · rename_i hj
      obtain ⟨p, h1, h2⟩ := strip_pre l
      refine ⟨j :: p, by rw [List.cons_append, ← h1], fun i hi => ?_⟩
      rcases List.mem_cons.1 hi with rfl | hi
      · cases i <;> simp_all [PI.still, PI.isEnd]
      · exact h2 i hi
    · exact ⟨[], rfl, fun i h => by cases h⟩

theorem pre_cons {l r : List PI} {i : PI} (hs : strip l = i :: r) (hi : i.isEnd = false) : ∃ p, l = p ++ r ∧ ∀ i ∈ p, i.isEnd = false := by
  obtain ⟨p, h1, h2⟩ := strip_pre l
  refine ⟨p ++ [i], by rw [List.append_assoc, List.singleton_append, ← hs, ← h1], fun j hj => ?_⟩
  rcases List.mem_append.1 hj with hj | hj
  · exact h2 j hj
  · rw [List.mem_singleton.1 hj]; exact hi

theorem pre_trans {l l1 r : List PI} (h1 : ∃ p, l = p ++ l1 ∧ ∀ i ∈ p, i.isEnd = false) (h2 : ∃ p, l1 = p ++ r ∧ ∀ i ∈ p, i.isEnd = false) : ∃ p, l = p ++ r ∧ ∀ i ∈ p, i.isEnd = false := by
  obtain ⟨p, rfl, hp⟩ := h1
  obtain ⟨q, rfl, hq⟩ := h2
  refine ⟨p ++ q, by simp, fun i hi => ?_⟩
  rcases List.mem_append.1 hi with hi | hi
  · exact hp i hi
  · exact hq i hi

theorem chkOps_pre {ops : Array Oper} : ∀ {os : List Oper} {l r : List PI}, chkOps P ops os l = some r → ∃ p, l = p ++ r ∧ ∀ i ∈ p, i.isEnd = false
  | [], l, r, h => by
    simp only [chkOps, Option.some.injEq] at h
    exact ⟨[], by simp [h], fun i h => by cases h⟩
  | o :: os, l, r, h => by
    simp only [chkOps] at h
    split at h
    case h_2 => cases h
    rename_i i r' hs
    split at h
    case isFalse => cases h
    rename_i hc
    refine pre_trans (pre_cons hs ?_) (chkOps_pre h)
    cases i <;> first | rfl | simp [chkI, chkDf] at hc

theorem chkBad_pre {l r : List PI} (h : chkBad l = some r) : ∃ p, l = p ++ r ∧ ∀ i ∈ p, i.isEnd = false := by
  unfold chkBad at h
  split at h
  case h_2 => cases h
  rename_i hs
  simp only [Option.some.injEq] at h
  exact h ▸ pre_cons hs rfl

theorem bad_none {l r : List PI} {n : Nat} {t : List AV} {h : AHeap} {b : Nat} {m : Mk} {stF : St} {a : Act} {w : World} (hc : chkBad l = some r) (hr : run S n l ⟨t, h, b, m, .normal⟩ = some stF) (hm : m.l.head? = some hI.length) (R : SR w0 X0 wI hI locI m.d t h a w) : False := by
  unfold chkBad at hc
  split at hc
  case h_2 => cases hc
  rename_i hs
  obtain ⟨n', t', h', b', m', hn', hr', hm', R'⟩ := strip_run hr hm R
  rw [hs] at hr'
  cases n' <;> simp [run, stepF] at hr'

theorem chk_pre : ∀ {c : Code} {l r : List PI}, chk P c l = some r → ∃ p, l = p ++ r ∧ ∀ i ∈ p, i.isEnd = false
  | .skip, l, r, h => by simp only [chk, Option.some.injEq] at h; exact ⟨[], by simp [h], fun i h => by cases h⟩
  | .label _, l, r, h => by simp only [chk, Option.some.injEq] at h; exact ⟨[], by simp [h], fun i h => by cases h⟩
  | .seq a b, l, r, h => by
    simp only [chk, Option.bind_eq_some_iff] at h
    obtain ⟨l1, h1, h2⟩ := h
    exact pre_trans (chk_pre h1) (chk_pre h2)
  | .region _ ops false, l, r, h => by simp only [chk] at h; exact chkOps_pre h
  | .region _ ops true, l, r, h => by
    simp only [chk] at h
    split at h
    case h_2 => cases h
    rename_i hs
    split at h
    case isFalse => cases h
    simp only [Option.some.injEq] at h
    exact h ▸ pre_cons hs rfl
  | .cond c a b, l, r, h => by
    simp only [chk] at h
    split at h
    case h_2 => cases h
    rename_i hs
    split at h
    case isFalse => cases h
    simp only [Option.some.injEq] at h
    exact h ▸ pre_cons hs rfl
  | .block _ a, l, r, h => by
    simp only [chk] at h
    split at h
    case h_2 => cases h
    rename_i hs
    split at h
    case isFalse => cases h
    simp only [Option.some.injEq] at h
    exact h ▸ pre_cons hs rfl
  | .loop a, l, r, h => by
    simp only [chk] at h
    split at h
    case h_2 => cases h
    rename_i hs
    split at h
    case isFalse => cases h
    simp only [Option.some.injEq] at h
    exact h ▸ pre_cons hs rfl
  | .scope a, l, r, h => by simp only [chk] at h; exact chk_pre h
  | .exit _, l, r, h => by
    simp only [chk] at h
    split at h
    case h_2 => cases h
    rename_i hs
    split at h
    case isFalse => cases h
    simp only [Option.some.injEq] at h
    exact h ▸ pre_cons hs rfl
  | .ret, l, r, h => by
    simp only [chk] at h
    split at h
    case h_2 => cases h
    rename_i hs
    simp only [Option.some.injEq] at h
    exact h ▸ pre_cons hs rfl
  | .rangeFunc .., _, _, h => chkBad_pre h
  | .goto _, _, _, h => chkBad_pre h
  | .refuse _, _, _, h => chkBad_pre h

/-- What an exit passes over. -/
theorem exit_skip {t : List AV} {h : AHeap} {b : Nat} {m : Mk} {id : Nat} {stF : St} {r : List PI} : ∀ {p : List PI} {k : Nat}, (∀ i ∈ p, i.isEnd = false) → run S k (p ++ r) ⟨t, h, b, m, .exit id⟩ = some stF →
    ∃ k', k' ≤ k ∧ run S k' r ⟨t, h, b, m, .exit id⟩ = some stF
  | [], k, _, hr => ⟨k, Nat.le_refl _, hr⟩
  | i :: p, k, hp, hr => by
    cases k with
    | zero => simp [run] at hr
    | succ k =>
      have hi := hp i (by simp)
      have hr' : run S k (p ++ r) ⟨t, h, b, m, .exit id⟩ = some stF := by
        cases i <;> first | exact hr | (simp [PI.isEnd] at hi)
      obtain ⟨k', h1, h2⟩ := exit_skip (fun j hj => hp j (List.mem_cons_of_mem _ hj)) hr'
      exact ⟨k', by omega, h2⟩

theorem Post.skip {N : Nat} {l rest : List PI} {stF : St} {a : Act} {w : World} {id : Nat} (hp : ∃ p, l = p ++ rest ∧ ∀ i ∈ p, i.isEnd = false) (h : Post S w0 X0 wI hI locI N l stF (.exit id) a w) : Post S w0 X0 wI hI locI N rest stF (.exit id) a w := by
  obtain ⟨p, rfl, hp⟩ := hp
  obtain ⟨k, t, h', b, m, hk, hr, hm, R⟩ := h
  obtain ⟨k', h1, h2⟩ := exit_skip hp hr
  exact ⟨k', t, h', b, m, by omega, h2, hm, R⟩

/-- What is left of a list, and is no code, does nothing. -/
theorem Post.rest {N : Nat} {l r : List PI} {stF : St} {e : Exit} {a : Act} {w : World} (hs : strip l = []) (h : Post S w0 X0 wI hI locI N (l ++ r) stF e a w) : Post S w0 X0 wI hI locI N r stF e a w := by
  cases e with
  | exit id =>
    obtain ⟨p, h1, h2⟩ := strip_pre l
    rw [hs, List.append_nil] at h1
    subst h1
    exact Post.skip ⟨l, rfl, h2⟩ h
  | normal =>
    obtain ⟨k, t, h', b, m, hk, hr, hm, R⟩ := h
    have key : ∀ {l : List PI} {k : Nat} {t : List AV} {h' : AHeap} {b : Nat} {m : Mk}, strip l = [] → run S k (l ++ r) ⟨t, h', b, m, .normal⟩ = some stF → m.l.head? = some hI.length → SR w0 X0 wI hI locI m.d t h' a w →
        ∃ k' t' h' b' m', k' ≤ k ∧ run S k' r ⟨t', h', b', m', .normal⟩ = some stF ∧ m'.l.head? = some hI.length ∧ SR w0 X0 wI hI locI m'.d t' h' a w := by
      intro l
      induction l with
      | nil => intro k t h' b m _ hr hm R; exact ⟨k, t, h', b, m, Nat.le_refl _, hr, hm, R⟩
      | cons i l ih =>
        intro k t h' b m hs hr hm R
        simp only [strip] at hs
        split at hs
        case isFalse => cases hs
        rename_i hi
        -- one instruction that is no code
        have h1 : ∃ k1 t1 h1 b1 m1, k1 ≤ k ∧ run S k1 (l ++ r) ⟨t1, h1, b1, m1, .normal⟩ = some stF ∧ m1.l.head? = some hI.length ∧ SR w0 X0 wI hI locI m1.d t1 h1 a w := by
          cases k with
          | zero => simp [run] at hr
          | succ k => exact still_run hi hr hm R
        obtain ⟨k1, t1, h1, b1, m1, e1, e2, e3, e4⟩ := h1
        obtain ⟨k2, t2, h2, b2, m2, f1, f2⟩ := ih hs e2 e3 e4
        exact ⟨k2, t2, h2, b2, m2, by omega, f2⟩
    obtain ⟨k', t', h2, b', m', g1, g2, g3, g4⟩ := key hs hr hm R
    exact ⟨k', t', h2, b', m', by omega, g2, g3, g4⟩
  | ret => exact h
  | goto l => exact h.elim
  | panic c => exact h.elim
  | outgrown => exact h.elim

/-- What a call comes to. -/
def CallsOK (P : Program) (w0 : World) (X0 : Nat → Prop) (w : World) (h : AHeap) (loc : Nat → Nat) (r : AV) (h' : AHeap) : Ending → World → Prop
  | .returned v, w' => ∃ loc', Keeps w h loc (XH X0 h loc) w' h' loc' (XH X0 h' loc') ∧ Wrel w0 X0 w' h' loc' ∧ Rep w' h' loc' (XH X0 h' loc') r v
  | _, _ => False

/-- What a code comes to in the end. -/
def EndOK (w0 : World) (X0 : Nat → Prop) (w : World) (h : AHeap) (loc : Nat → Nat) (stF : St) : Exit → Act → World → Prop
  | .normal, a, w' | .ret, a, w' => SR w0 X0 w h loc stF.m.d stF.t stF.h a w'
  | _, _, _ => False

/-- A function's code. -/
theorem body_sound (hfn : ∀ f p, S.fn f = some p → chkF P f p = true) {n : Nat} (hB : BS' P S n) {f : Nat} {p : PFn} (hp : S.fn f = some p) {args : List AV} {h : AHeap} {stF : St} (hr : enterF (run S n) p args h = some stF) (hx : ∀ id, stF.ex ≠ .exit id) :
    ∃ fn c, P.funcs[f]? = some fn ∧ fn.body = some c ∧ chkRes P fn.results.toList p.res = true ∧ (∀ vs w, (callFunc f vs).run P w = .ok (.enter f vs) w) ∧ ∀ (w0 : World) (X0 : Nat → Prop) (w : World) (loc : Nat → Nat) (vs : List Value), Wrel w0 X0 w h loc → RepL w h loc (XH X0 h loc) args vs →
      c.wp P (EndOK w0 X0 w h loc stF) { tmps := vs.toArray ++ Array.replicate (fn.ntmps - vs.toArray.size) undef, defers := [] } w := by
  have hc := hfn f p hp
  unfold chkF at hc
  split at hc
  case h_2 => cases hc
  rename_i fn hf
  simp only [Bool.and_eq_true, bne_iff_ne, ne_eq, beq_iff_eq] at hc
  obtain ⟨⟨⟨c1, c2⟩, c3⟩, c4⟩ := hc
  split at c4
  case h_2 => cases c4
  rename_i c hbody
  unfold done at c4
  split at c4
  case h_2 => cases c4
  rename_i rest hchk
  simp only [List.isEmpty_iff] at c4
  refine ⟨fn, c, hf, hbody, c3, fun vs w => by simp [callFunc, Sem.run_bind, hf, c1, hbody], ?_⟩
  intro w0 X0 w loc vs W hargs
  refine wp_mono (hB w0 X0 w h loc c p.code rest _ h 0 ⟨[h.length], []⟩ stF _ w hchk hr rfl ⟨⟨loc, Keeps.refl .., W, ?_, trivial⟩⟩) ?_
  · refine ⟨by simp [hargs.1, c2], fun i h1 h2 => ?_⟩
    simp only [List.getElem_append, Array.getElem_append]
    by_cases hi : i < args.length
    · have hi2 : i < vs.length := by rw [← hargs.1]; exact hi
      simp only [hi, hi2, List.size_toArray, dif_pos, List.getElem_toArray]
      exact hargs.2 i hi hi2
    · have hi2 : ¬ i < vs.length := by rw [← hargs.1]; exact hi
      simp only [hi, hi2, List.size_toArray, dif_neg, not_false_eq_true, List.getElem_replicate, Array.getElem_replicate]
      exact rep_undef
  · intro e a' w' hp
    cases e with
    | normal =>
      obtain ⟨k, t, h2, b, m, hk, hr, hm, R⟩ := hp
      obtain ⟨k', t', h2', b', m', _, hr', _, R'⟩ := strip_run hr hm R
      rw [c4] at hr'
      cases k' with
      | zero => simp [run] at hr'
      | succ k' =>
        simp only [run, stepF, Option.some.injEq] at hr'
        subst hr'
        exact R'
    | exit id =>
      obtain ⟨k, t, h2, b, m, hk, hr, hm, R⟩ := hp
      -- what is left are no blocks' ends
      have key : ∀ {l : List PI} {k : Nat}, strip l = [] → run S k l ⟨t, h2, b, m, .exit id⟩ = some stF → stF.ex = .exit id := by
        intro l
        induction l with
        | nil =>
          intro k _ hr
          cases k with
          | zero => simp [run] at hr
          | succ k =>
            simp only [run, stepF, Option.some.injEq] at hr
            rw [← hr]
        | cons i l ih =>
          intro k hs hr
          simp only [strip] at hs
          split at hs
          case isFalse => cases hs
          rename_i hi
          cases k with
          | zero => simp [run] at hr
          | succ k =>
            cases i <;> try (simp [PI.still] at hi; done)
            all_goals exact ih hs hr
      exact (hx id (key c4 hr)).elim
    | ret =>
      obtain ⟨t, h2, b, m, he, R⟩ := hp
      subst he
      exact R
    | goto l => exact hp.elim
    | panic c => exact hp.elim
    | outgrown => exact hp.elim

theorem retF_ex {res : List Res} {st : St} {x : AV × AHeap} (hr : retF res st = some x) : ∀ id, st.ex ≠ .exit id := by
  intro id he
  simp [retF, he] at hr

/-- A call that was put off. -/
theorem callD_sound (hfn : ∀ f p, S.fn f = some p → chkF P f p = true) {n : Nat} (hB : BS' P S n) {f : Nat} {args : List AV} {h h' : AHeap} (hr : callD S (run S n) f args h = some h') :
    (∀ vs w, (callFunc f vs).run P w = .ok (.enter f vs) w) ∧ ∀ (w0 : World) (X0 : Nat → Prop) (w : World) (loc : Nat → Nat) (vs : List Value) (u : FrameMode), Wrel w0 X0 w h loc → RepL w h loc (XH X0 h loc) args vs →
      CallsD P f vs.toArray u w fun e u' w' => u' = u ∧ ∃ v loc', e = .returned v ∧ Keeps w h loc (XH X0 h loc) w' h' loc' (XH X0 h' loc') ∧ Wrel w0 X0 w' h' loc' := by
  unfold callD at hr
  split at hr
  case h_1 => cases hr
  rename_i p hp
  simp only [Option.bind_eq_some_iff] at hr
  obtain ⟨stF, hent, hr⟩ := hr
  split at hr
  case isFalse => cases hr
  rename_i hemp
  simp only [Option.map_eq_some_iff] at hr
  obtain ⟨⟨v, h2⟩, hret, rfl⟩ := hr
  rw [List.isEmpty_iff] at hemp
  obtain ⟨fn, c, hf, hbody, c3, hcf, hwp⟩ := body_sound hfn hB hp hent (retF_ex hret)
  refine ⟨hcf, fun w0 X0 w loc vs u W hargs => ?_⟩
  have hex := retF_ex hret
  obtain ⟨tF, hF, bF, mF, exF⟩ := stF
  simp only at hemp hex
  refine callsD_of_wp (R := fun e w' => ∃ v loc', e = .returned v ∧ Keeps w h loc (XH X0 h loc) w' h2 loc' (XH X0 h2 loc') ∧ Wrel w0 X0 w' h2 loc') hf hbody (wp_mono (hwp w0 X0 w loc vs W hargs) ?_)
  intro e a' w' he
  have fin : SR w0 X0 w h loc mF.d tF hF a' w' → a'.defers = [] ∧ ∃ v, (results fn a'.tmps).run P w' = .ok v w' ∧ ∃ v' loc', Ending.returned v = .returned v' ∧ Keeps w h loc (XH X0 h loc) w' h2 loc' (XH X0 h2 loc') ∧ Wrel w0 X0 w' h2 loc' := by
    rintro ⟨⟨loc', K0, W', Sl, hd⟩⟩
    rw [hemp] at hd
    obtain ⟨rfl, x, h1, h3⟩ := results_ok (P := P) (fn := fn) W' Sl c3 hret
    exact ⟨hd.nil, x, h1, x, loc', rfl, K0, W'⟩
  cases e with
  | normal => exact fin he
  | ret => exact fin he
  | _ => exact he.elim

theorem leaves_sound (hfn : ∀ f p, S.fn f = some p → chkF P f p = true) {n : Nat} (hB : BS' P S n) {fn : Func} {p : PFn} {tmps : Array Value} {t : List AV} {h0 : AHeap} {loc0 : Nat → Nat} {w1 : World} {r : AV} {h' : AHeap} {b : Nat} {m : Mk} {ex : Ex} (c3 : chkRes P fn.results.toList p.res = true) {hE : AHeap} (hret : retF p.res ⟨t, hE, b, m, ex⟩ = some (r, h')) :
    ∀ (d : List (Nat × List AV)) (ds : List Deferred) (h : AHeap) (w : World) (loc : Nat → Nat), runD (callD S (run S n)) d h = some hE → Keeps w1 h0 loc0 (XH X0 h0 loc0) w h loc (XH X0 h loc) → Wrel w0 X0 w h loc → Slots w h loc (XH X0 h loc) t tmps → DRep w h loc (XH X0 h loc) d ds →
      Leaves P fn tmps (CallsOK P w0 X0 w1 h0 loc0 r h') ds .returning w
  | [], [], h, w, loc, hr, K, W, Sl, _ => by
    simp only [runD, Option.some.injEq] at hr
    subst hr
    obtain ⟨rfl, x, h1, h3⟩ := results_ok (P := P) (fn := fn) (a := { tmps := tmps, defers := [] }) W Sl c3 hret
    exact ⟨x, h1, loc, K, W, h3⟩
  | x :: d, y :: ds, h, w, loc, hr, K, W, Sl, ⟨⟨cap, ht, hra⟩, hd⟩ => by
    simp only [runD, Option.bind_eq_some_iff] at hr
    obtain ⟨h2, hc, hr⟩ := hr
    obtain ⟨hcf, hcd⟩ := callD_sound hfn hB hc
    obtain ⟨tg, ar⟩ := y
    simp only at ht hra
    subst ht
    refine leaves_cons (f := x.1) (args := ar ++ cap) (by simp) ?_ ?_
    · simp only [Go.invoke]
      exact hcf _ _
    · have := hcd w0 X0 w loc _ .returning W hra
      rw [Array.toArray_toList] at this
      refine this.mono ?_
      rintro e u' w' ⟨rfl, v, loc', rfl, K', W'⟩
      exact leaves_sound hfn hB c3 hret d ds h2 w' loc' hr (K.trans K' (fun b hb hx => K.X' b hb hx)) W' (Sl.keep K') (hd.keep K')
  | [], _ :: _, _, _, _, _, _, _, _, hd => hd.elim
  | _ :: _, [], _, _, _, _, _, _, _, hd => hd.elim

/-- A function's call, from its own machine. -/
theorem calls_sound (hfn : ∀ f p, S.fn f = some p → chkF P f p = true) {n : Nat} (hB : BS' P S n) {f : Nat} {p : PFn} (hp : S.fn f = some p) {args : List AV} {h : AHeap} {r : AV} {h' : AHeap} (hr : codeF S (run S n) p args h = some (r, h')) :
    (∀ vs w, (callFunc f vs).run P w = .ok (.enter f vs) w) ∧ ∀ (w0 : World) (X0 : Nat → Prop) (w : World) (loc : Nat → Nat) (vs : List Value), Wrel w0 X0 w h loc → RepL w h loc (XH X0 h loc) args vs → Calls P f vs.toArray w (CallsOK P w0 X0 w h loc r h') := by
  simp only [codeF, Option.bind_eq_some_iff] at hr
  obtain ⟨stF, hent, hE, hrd, hret⟩ := hr
  have hex : ∀ id, stF.ex ≠ .exit id := fun id => retF_ex (st := ⟨stF.t, hE, stF.b, stF.m, stF.ex⟩) hret id
  obtain ⟨fn, c, hf, hbody, c3, hcf, hwp⟩ := body_sound hfn hB hp hent hex
  refine ⟨hcf, fun w0 X0 w loc vs W hargs => ?_⟩
  refine calls_of_wp_defers hf hbody (wp_mono (hwp w0 X0 w loc vs W hargs) ?_)
  intro e a' w' he
  have fin : SR w0 X0 w h loc stF.m.d stF.t stF.h a' w' → Leaves P fn a'.tmps (CallsOK P w0 X0 w h loc r h') a'.defers .returning w' := by
    rintro ⟨⟨loc', K0, W', Sl, hd⟩⟩
    exact leaves_sound hfn hB c3 hret _ _ _ _ _ hrd K0 W' Sl hd
  cases e with
  | normal => exact fin he
  | ret => exact fin he
  | _ => exact he.elim

/-- A function's call is sound, if its code is. -/
theorem call_sound (hext : ∀ f args h r h', S.ext f args h = some (r, h') → CallSound P f args h r h') (hfn : ∀ f p, S.fn f = some p → chkF P f p = true) {n : Nat} (hB : BS' P S n) :
    ∀ f args h r h', callF S (run S n) f args h = some (r, h') → CallSound P f args h r h' := by
  intro f args h r h' hr
  unfold callF at hr
  cases he : S.ext f args h with
  | some x =>
    simp only [he, Option.some.injEq] at hr
    subst hr
    exact hext f args h r h' he
  | none =>
    simp only [he] at hr
    cases hp : S.fn f with
    | none => simp [hp] at hr
    | some p =>
      simp only [hp] at hr
      obtain ⟨hcf, hcs⟩ := calls_sound hfn hB hp hr
      intro w0 X0 w loc vs W hargs o a K Q hK
      rw [hcf, Oper.upon_enter]
      refine (hcs w0 X0 w loc vs W hargs).mono (fun e w' he => ?_)
      cases e with
      | returned v => exact hK v w' he
      | panicked c => exact he.elim
      | outgrown => exact he.elim

theorem code_sound (hext : ∀ f args h r h', S.ext f args h = some (r, h') → CallSound P f args h r h') (hfn : ∀ f p, S.fn f = some p → chkF P f p = true) : ∀ n, BS' P S n := by
  intro n
  induction n using Nat.strongRecOn with
  | _ n ih =>
  intro w0 X0 wI hI locI c
  have hA : ∀ k < n, ∀ f args h r h', callF S (run S k) f args h = some (r, h') → CallSound P f args h r h' := fun k hk => call_sound hext hfn (ih k hk)
  induction c with
  | skip =>
    intro l rest t h b m stF a w hc hr hm R
    simp only [chk, Option.some.injEq] at hc
    subst hc
    exact wp_skip ⟨n, t, h, b, m, Nat.le_refl _, hr, hm, R⟩
  | label _ =>
    intro l rest t h b m stF a w hc hr hm R
    simp only [chk, Option.some.injEq] at hc
    subst hc
    exact wp_label ⟨n, t, h, b, m, Nat.le_refl _, hr, hm, R⟩
  | seq x y ihx ihy =>
    intro l rest t h b m stF a w hc hr hm R
    simp only [chk, Option.bind_eq_some_iff] at hc
    obtain ⟨l1, h1, h2⟩ := hc
    refine wp_seq (wp_mono (ihx l l1 t h b m stF a w h1 hr hm R) (fun e a' w' hp => ?_))
    cases e with
    | normal =>
      obtain ⟨k, t', h', b', m', hk, hr', hm', R'⟩ := hp
      rcases Nat.lt_or_ge k n with hlt | hge
      · exact wp_mono (ih k hlt w0 X0 wI hI locI y l1 rest t' h' b' m' stF a' w' h2 hr' hm' R') (fun e a w hp => hp.mono hk)
      · obtain rfl : k = n := by omega
        exact ihy l1 rest t' h' b' m' stF a' w' h2 hr' hm' R'
    | exit id => exact Post.skip (chk_pre h2) hp
    | ret => exact hp
    | goto l => exact hp.elim
    | panic c => exact hp.elim
    | outgrown => exact hp.elim
  | region id ops draw =>
    intro l rest t h b m stF a w hc hr hm R
    cases draw with
    | false =>
      simp only [chk] at hc
      refine wp_region ?_
      have := ops_sound (N := n) hA ops.toList 0 l n t h b m a w (fun j => by simp) hc (Nat.le_refl _) hr hm R
      rwa [List.range_eq_range', ← Array.length_toList]
    | true =>
      simp only [chk] at hc
      split at hc
      case h_2 => cases hc
      rename_i nb ord ap is r hs
      split at hc
      case isFalse => cases hc
      rename_i hck
      simp only [Option.some.injEq] at hc
      subst hc
      simp only [Bool.and_eq_true] at hck
      obtain ⟨hmx, hck⟩ := hck
      obtain ⟨n', t', h', b', m', hn', hr', hm', R'⟩ := strip_run hr hm R
      rw [hs] at hr'
      cases n' with
      | zero => simp [run] at hr'
      | succ n' =>
        simp only [run, stepF] at hr'
        have hck0 := hck
        simp only [chkDraw, Bool.and_eq_true, beq_iff_eq, List.all_eq_true] at hck
        obtain ⟨⟨⟨⟨⟨⟨c1, c2⟩, c3⟩, c4⟩, c5⟩, c6⟩, c7⟩ := hck
        obtain ⟨k, t1, h1, g1, g2, g3⟩ := runI_of_run (S := S) (P := P) (ops := ops) (N := n') (ord := ord) (by omega) (fun p hp => by
          have := c5 p hp
          split at this
          · rename_i o ho; exact ⟨o, ho, this⟩
          · cases this) (by omega) hr'
        cases k with
        | zero => simp [run] at g3
        | succ k =>
          simp only [run, stepF] at g3
          split at g3
          case isFalse => cases g3
          rename_i hap
          rw [List.all_eq_true] at hap
          refine wp_region_any hmx (draw_sound (hA n' (by omega)) hck0 hap (fun a1 w1 R1 => ?_) g2 (room_ok (R'.drew _)))
          exact ⟨k, t1, h1, _, m', by omega, g3, hm', R1⟩
  | cond c x y ihx ihy =>
    intro l rest t h b m stF a w hc hr hm R
    simp only [chk] at hc
    split at hc
    case h_2 => cases hc
    rename_i c' a1 a2 r hs
    split at hc
    case isFalse => cases hc
    rename_i hck
    simp only [Option.some.injEq] at hc
    subst hc
    simp only [Bool.and_eq_true] at hck
    obtain ⟨⟨hcx, hd1⟩, hd2⟩ := hck
    obtain ⟨n', t', h', b', m', hn', hr', hm', R'⟩ := strip_run hr hm R
    rw [hs] at hr'
    cases n' with
    | zero => simp [run] at hr'
    | succ n' =>
      simp only [run, stepF] at hr'
      split at hr'
      case h_2 => cases hr'
      rename_i v hv
      have hev : a.eval c = .bool v := by
        obtain ⟨⟨loc, K0, W, Sl, _⟩⟩ := R'
        have := Sl.x hcx
        rw [hv] at this
        exact this.bool_inv
      have br : ∀ {z : Code} {a1 : List PI}, done (chk P z a1) = true → run S n' (a1 ++ r) ⟨t', h', b', m', .normal⟩ = some stF → z.wp P (Post S w0 X0 wI hI locI n r stF) a w := by
        intro z a1 hd hrz
        unfold done at hd
        split at hd
        case h_2 => cases hd
        rename_i l1 hl1
        simp only [List.isEmpty_iff] at hd
        refine wp_mono (ih n' (by omega) w0 X0 wI hI locI z (a1 ++ r) (l1 ++ r) t' h' b' m' stF a w (chk_append hl1) hrz hm' R') (fun e a2 w2 hp => ?_)
        exact Post.rest hd (hp.mono (by omega))
      refine wp_cond hev ?_
      cases v with
      | true => exact br hd1 hr'
      | false => exact br hd2 hr'
  | block id x ihx =>
    intro l rest t h b m stF a w hc hr hm R
    simp only [chk] at hc
    split at hc
    case h_2 => cases hc
    rename_i id' a1 r hs
    split at hc
    case isFalse => cases hc
    rename_i hck
    simp only [Option.some.injEq] at hc
    subst hc
    simp only [Bool.and_eq_true, beq_iff_eq] at hck
    obtain ⟨rfl, hd⟩ := hck
    obtain ⟨n', t', h', b', m', hn', hr', hm', R'⟩ := strip_run hr hm R
    rw [hs] at hr'
    cases n' with
    | zero => simp [run] at hr'
    | succ n' =>
      simp only [run, stepF] at hr'
      unfold done at hd
      split at hd
      case h_2 => cases hd
      rename_i l1 hl1
      simp only [List.isEmpty_iff] at hd
      refine wp_block (wp_mono (ih n' (by omega) w0 X0 wI hI locI x (a1 ++ .endb id' :: r) (l1 ++ .endb id' :: r) t' h' b' m' stF a w (chk_append hl1) hr' hm' R') (fun e a2 w2 hp => ?_))
      have hp := Post.rest hd hp
      cases e with
      | normal =>
        obtain ⟨k, t2, h2, b2, m2, hk, hr2, hm2, R2⟩ := hp
        cases k with
        | zero => simp [run] at hr2
        | succ k =>
          simp only [run, stepF] at hr2
          exact ⟨k, t2, h2, b2, m2, by omega, hr2, hm2, R2⟩
      | exit id2 =>
        obtain ⟨k, t2, h2, b2, m2, hk, hr2, hm2, R2⟩ := hp
        cases k with
        | zero => simp [run] at hr2
        | succ k =>
          simp only [run, stepF] at hr2
          simp only [Exit.inBlock]
          split at hr2
          · rename_i he
            rw [if_pos he.symm]
            exact ⟨k, t2, h2, b2, m2, by omega, hr2, hm2, R2⟩
          · rename_i he
            rw [if_neg (fun e => he e.symm)]
            exact ⟨k, t2, h2, b2, m2, by omega, hr2, hm2, R2⟩
      | ret => exact hp
      | goto l => exact hp.elim
      | panic c => exact hp.elim
      | outgrown => exact hp.elim
  | loop x ihx =>
    intro l rest t h b m stF a w hc hr hm R
    simp only [chk] at hc
    split at hc
    case h_2 => cases hc
    rename_i a1 r hs
    split at hc
    case isFalse => cases hc
    rename_i hd
    simp only [Option.some.injEq] at hc
    subst hc
    obtain ⟨n', t', h', b', m', hn', hr', hm', R'⟩ := strip_run hr hm R
    rw [hs] at hr'
    unfold done at hd
    split at hd
    case h_2 => cases hd
    rename_i l1 hl1
    simp only [List.isEmpty_iff] at hd
    have rounds : ∀ k, k ≤ n → ∀ t h b m a w, run S k (.loop a1 :: r) ⟨t, h, b, m, .normal⟩ = some stF → m.l.head? = some hI.length → SR w0 X0 wI hI locI m.d t h a w → Code.rounds P x (Post S w0 X0 wI hI locI n r stF) k a w := by
      intro k
      induction k with
      | zero => intro _ t h b m a w hr; simp [run] at hr
      | succ k ihk =>
        intro hk t h b m a w hr hm R
        simp only [run, stepF] at hr
        rw [rounds_succ]
        refine wp_mono (ih k (by omega) w0 X0 wI hI locI x (a1 ++ .loop a1 :: r) (l1 ++ .loop a1 :: r) t h b m stF a w (chk_append hl1) hr hm R) (fun e a2 w2 hp => ?_)
        have hp := Post.rest hd hp
        cases e with
        | normal =>
          obtain ⟨k2, t2, h2, b2, m2, hk2, hr2, hm2, R2⟩ := hp
          exact ihk (by omega) t2 h2 b2 m2 a2 w2 (run_mono hk2 hr2) hm2 R2
        | exit id =>
          exact (Post.skip (l := .loop a1 :: r) ⟨[.loop a1], rfl, fun i hi => by rw [List.mem_singleton.1 hi]; rfl⟩ hp).mono (by omega)
        | ret => exact hp
        | goto l => exact hp.elim
        | panic c => exact hp.elim
        | outgrown => exact hp.elim
    exact wp_loop_rounds n' (rounds n' hn' t' h' b' m' a w hr' hm' R')
  | scope x ihx =>
    intro l rest t h b m stF a w hc hr hm R
    simp only [chk] at hc
    refine wp_scope_straight (wp_mono (ihx l rest t h b m stF a w hc hr hm R) (fun e a2 w2 hp => ?_))
    cases e <;> first | exact hp | exact hp.elim
  | exit id =>
    intro l rest t h b m stF a w hc hr hm R
    simp only [chk] at hc
    split at hc
    case h_2 => cases hc
    rename_i id' r hs
    split at hc
    case isFalse => cases hc
    rename_i he
    simp only [Option.some.injEq] at hc
    subst hc
    simp only [beq_iff_eq] at he
    subst he
    obtain ⟨n', t', h', b', m', hn', hr', hm', R'⟩ := strip_run hr hm R
    rw [hs] at hr'
    cases n' with
    | zero => simp [run] at hr'
    | succ n' =>
      simp only [run, stepF] at hr'
      exact wp_exit ⟨n', t', h', b', m', by omega, hr', hm', R'⟩
  | ret =>
    intro l rest t h b m stF a w hc hr hm R
    simp only [chk] at hc
    split at hc
    case h_2 => cases hc
    rename_i r hs
    simp only [Option.some.injEq] at hc
    subst hc
    obtain ⟨n', t', h', b', m', hn', hr', hm', R'⟩ := strip_run hr hm R
    rw [hs] at hr'
    cases n' with
    | zero => simp [run] at hr'
    | succ n' =>
      simp only [run, stepF, Option.some.injEq] at hr'
      exact wp_ret ⟨t', h', b', m', hr'.symm, R'⟩
  | rangeFunc f ps x y ihx ihy =>
    intro l rest t h b m stF a w hc hr hm R
    exact (bad_none hc hr hm R).elim
  | goto l =>
    intro l rest t h b m stF a w hc hr hm R
    exact (bad_none hc hr hm R).elim
  | refuse why =>
    intro l rest t h b m stF a w hc hr hm R
    exact (bad_none hc hr hm R).elim

/-- The same, for a whole call. -/
theorem Call_calls (hext : ∀ f args h r h', S.ext f args h = some (r, h') → CallSound P f args h r h') (hfn : ∀ f p, S.fn f = some p → chkF P f p = true) {f : Nat} {p : PFn} (hp : S.fn f = some p) (he : ∀ args h, S.ext f args h = none) {args : List AV} {r : AV} {h' : AHeap}
    (hr : Call S f args [] = some (r, h')) {w : World} {loc : Nat → Nat} {vs : List Value} (hargs : RepL w [] loc (fun _ => False) args vs) : Calls P f vs.toArray w (CallsOK P w (fun _ => False) w [] loc r h') := by
  obtain ⟨n, hn⟩ := Call_iff.1 hr
  simp only [callF, he, hp] at hn
  refine (calls_sound hfn (code_sound hext hfn n) hp hn).2 w (fun _ => False) w loc vs (Wrel.nil w loc (fun b hb => hb.elim)) ⟨hargs.1, fun i h1 h2 => (hargs.2 i h1 h2).mono (fun b _ hb => (XH_nil.1 hb).elim)⟩

/-- THE ONE THEOREM: what the evaluator says of a call, the machine does. -/
theorem Call_sound (hext : ∀ f args h r h', S.ext f args h = some (r, h') → CallSound P f args h r h') (hfn : ∀ f p, S.fn f = some p → chkF P f p = true) {f : Nat} {args : List AV} {h : AHeap} {r : AV} {h' : AHeap}
    (hr : Call S f args h = some (r, h')) : CallSound P f args h r h' := by
  obtain ⟨n, hn⟩ := Call_iff.1 hr
  exact call_sound hext hfn (code_sound hext hfn n) f args h r h' hn
end
end Go.Proofs.Abs

-- ---- Abs27
set_option linter.unusedSimpArgs false
set_option linter.unusedVariables false
namespace Go.Proofs.Abs
open Go.RowKit

theorem RepL.uncons {w h loc X} {x : AV} {l : List AV} {vs : List Value} (H : RepL w h loc X (x :: l) vs) : ∃ v vs', vs = v :: vs' ∧ Rep w h loc X x v ∧ RepL w h loc X l vs' := by
  obtain ⟨h1, h2⟩ := H
  cases vs with
  | nil => simp at h1
  | cons v vs => exact ⟨v, vs, rfl, h2 0 (by simp) (by simp), by simpa using h1, fun i g1 g2 => h2 (i + 1) (by simpa using g1) (by simpa using g2)⟩
theorem RepL.unnil {w h loc X} {vs : List Value} (H : RepL w h loc X [] vs) : vs = [] := by
  cases vs with
  | nil => rfl
  | cons v vs => simp [RepL] at H
def loadO (k : IntKind) : List AV → AHeap → OpR
  | [.ptr id n i o], h => match rdp h id n i o with
    | some (.int k' x :: _) => if k' = k then some (.int k' x, h) else none
    | _ => none
  | _, _ => none
def storeO : List AV → AHeap → OpR
  | [.ptr id n i o, .int k z], h => match rdp h id n i o with
    | some (_ :: _) => (wrp h id n i o [.int k z]).map fun h => (.tup [], h)
    | _ => none
  | _, _ => none
def casO (k : IntKind) : List AV → AHeap → OpR
  | [.ptr id n i o, .int k0 x, .int k1 y], h => match rdp h id n i o with
    | some (.int k' v :: _) => if k' = k ∧ k0 = k ∧ k1 = k then (if v = x then (wrp h id n i o [.int k y]).map fun h => (.bool true, h) else some (.bool false, h)) else none
    | _ => none
  | _, _ => none
def addO (k : IntKind) : List AV → AHeap → OpR
  | [.ptr id n i o, .int k1 y], h => match rdp h id n i o with
    | some (.int k' v :: _) => if k' = k ∧ k1 = k then (wrp h id n i o [.int k (k.wrap (v + y))]).map fun h => (.int k (k.wrap (v + y)), h) else none
    | _ => none
  | _, _ => none
def mark0O : List AV → AHeap → OpR
  | [], h => some (.tup [], h)
  | _, _ => none
def markedO : List AV → AHeap → OpR
  | [.ptr id n i o], h => some (.tup [], h)
  | _, _ => none
def idxO : List AV → AHeap → OpR
  | [.str l, .int .u8 c], h => some (.int .i64 (Lib.indexByte l c.toNat.toUInt8), h)
  | _, _ => none

section
variable {P : Program} {f : FuncId} {fn : Func}
theorem ext_load (hf : P.funcs[f]? = some fn) (hname : (fn.name == "runtime.NumGoroutine") = false) (hb : fn.body.isNone = true) (hn : Extern.findNext fn = none) (k : IntKind) (he : Extern.find fn = some (Extern.Atomic.loadT (.int k))) : ∀ args h r h', loadO k args h = some (r, h') → CallSound P f args h r h' := by
  intro args h r h' hr w0 X0 w loc vs W hargs
  unfold loadO at hr
  split at hr
  case h_2 => cases hr
  rename_i id n i o
  split at hr
  case h_2 => cases hr
  rename_i k' x l hl
  split at hr
  case isFalse => cases hr
  rename_i hk
  subst hk
  simp only [Option.some.injEq, Prod.mk.injEq] at hr
  obtain ⟨rfl, rfl⟩ := hr
  obtain ⟨v, vs, rfl, hv, hvs⟩ := hargs.uncons
  obtain rfl := hvs.unnil
  obtain ⟨ad, u, rfl, hc, hu, hz⟩ := W.cell_at hv hl
  obtain rfl := hu.int_inv
  intro op a K Q hK
  have := run_call_load (P := P) hf hname hb hn _ he hc
  rw [this]
  exact hK _ _ ⟨loc, Keeps.refl .., W, .int _ _⟩

theorem ext_store (hf : P.funcs[f]? = some fn) (hname : (fn.name == "runtime.NumGoroutine") = false) (hb : fn.body.isNone = true) (hn : Extern.findNext fn = none) (he : Extern.find fn = some Extern.Atomic.storeT) : ∀ args h r h', storeO args h = some (r, h') → CallSound P f args h r h' := by
  intro args h r h' hr w0 X0 w loc vs W hargs
  unfold storeO at hr
  split at hr
  case h_2 => cases hr
  rename_i id n i o k z
  split at hr
  case h_2 => cases hr
  rename_i y l hl
  simp only [Option.map_eq_some_iff, Prod.mk.injEq] at hr
  obtain ⟨h1, hw, rfl, rfl⟩ := hr
  obtain ⟨v, vs, rfl, hv, hvs⟩ := hargs.uncons
  obtain ⟨v2, vs, rfl, hv2, hvs⟩ := hvs.uncons
  obtain rfl := hvs.unnil
  obtain rfl := hv2.int_inv
  obtain ⟨ad, u, rfl, hc, hu, hz, K1, W1⟩ := W.set_at hv hl hw
  intro op a K Q hK
  have := run_call_store (P := P) hf hname hb hn he (k := k) (y := z) hc hz
  rw [this]
  exact hK _ _ ⟨loc, K1, W1, .tup [] #[] rfl (fun i h1 => by simp at h1)⟩

theorem ext_cas (hf : P.funcs[f]? = some fn) (hname : (fn.name == "runtime.NumGoroutine") = false) (hb : fn.body.isNone = true) (hn : Extern.findNext fn = none) (k : IntKind) (he : Extern.find fn = some (Extern.Atomic.casT (.int k))) : ∀ args h r h', casO k args h = some (r, h') → CallSound P f args h r h' := by
  intro args h r h' hr w0 X0 w loc vs W hargs
  unfold casO at hr
  split at hr
  case h_2 => cases hr
  rename_i id n i o k0 x k1 y
  split at hr
  case h_2 => cases hr
  rename_i k' v l hl
  split at hr
  case isFalse => cases hr
  rename_i hk
  obtain ⟨rfl, rfl, rfl⟩ := hk
  obtain ⟨v1, vs, rfl, hv, hvs⟩ := hargs.uncons
  obtain ⟨v2, vs, rfl, hv2, hvs⟩ := hvs.uncons
  obtain ⟨v3, vs, rfl, hv3, hvs⟩ := hvs.uncons
  obtain rfl := hvs.unnil
  obtain rfl := hv2.int_inv
  obtain rfl := hv3.int_inv
  intro op a K Q hK
  split at hr
  · rename_i hx
    subst hx
    simp only [Option.map_eq_some_iff, Prod.mk.injEq] at hr
    obtain ⟨h1, hw, rfl, rfl⟩ := hr
    obtain ⟨ad, u, rfl, hc, hu, hz, K1, W1⟩ := W.set_at hv hl hw
    obtain rfl := hu.int_inv
    have := run_call_cas_hit (P := P) hf hname hb hn _ he (y := y) hc hz
    rw [this]
    exact hK _ _ ⟨loc, K1, W1, .bool _⟩
  · rename_i hx
    simp only [Option.some.injEq, Prod.mk.injEq] at hr
    obtain ⟨rfl, rfl⟩ := hr
    obtain ⟨ad, u, rfl, hc, hu, hz⟩ := W.cell_at hv hl
    obtain rfl := hu.int_inv
    have := run_call_cas_miss (P := P) hf hname hb hn _ he (y := y) hc hz hx
    rw [this]
    exact hK _ _ ⟨loc, Keeps.refl .., W, .bool _⟩

theorem ext_add (hf : P.funcs[f]? = some fn) (hname : (fn.name == "runtime.NumGoroutine") = false) (hb : fn.body.isNone = true) (hn : Extern.findNext fn = none) (k : IntKind) (he : Extern.find fn = some (Extern.Atomic.update (Op.intArith .add) k true)) : ∀ args h r h', addO k args h = some (r, h') → CallSound P f args h r h' := by
  intro args h r h' hr w0 X0 w loc vs W hargs
  unfold addO at hr
  split at hr
  case h_2 => cases hr
  rename_i id n i o k1 y
  split at hr
  case h_2 => cases hr
  rename_i k' v l hl
  split at hr
  case isFalse => cases hr
  rename_i hk
  obtain ⟨rfl, rfl⟩ := hk
  simp only [Option.map_eq_some_iff, Prod.mk.injEq] at hr
  obtain ⟨h1, hw, rfl, rfl⟩ := hr
  obtain ⟨v1, vs, rfl, hv, hvs⟩ := hargs.uncons
  obtain ⟨v2, vs, rfl, hv2, hvs⟩ := hvs.uncons
  obtain rfl := hvs.unnil
  obtain rfl := hv2.int_inv
  obtain ⟨ad, u, rfl, hc, hu, hz, K1, W1⟩ := W.set_at hv hl hw
  obtain rfl := hu.int_inv
  intro op a K Q hK
  have := run_call_add (P := P) hf hname hb hn _ he (y := y) (s := k1.wrap (v + y)) hc hz (by simp [Op.intArith])
  rw [this]
  exact hK _ _ ⟨loc, K1, W1, .int _ _⟩

theorem ext_mark0 (hf : P.funcs[f]? = some fn) (hname : (fn.name == "runtime.NumGoroutine") = false) (hb : fn.body.isNone = true) (hn : Extern.findNext fn = none) (m : Mark) (he : Extern.find fn = some (fun _ => do mark m; pure Extern.Race.none_)) : ∀ args h r h', mark0O args h = some (r, h') → CallSound P f args h r h' := by
  intro args h r h' hr w0 X0 w loc vs W hargs
  unfold mark0O at hr
  split at hr
  case h_2 => cases hr
  simp only [Option.some.injEq, Prod.mk.injEq] at hr
  obtain ⟨rfl, rfl⟩ := hr
  obtain rfl := hargs.unnil
  intro op a K Q hK
  have := run_call_mark0 (P := P) hf hname hb hn m he w
  rw [this]
  exact hK _ _ ⟨loc, Keeps.refl .., W, .tup [] #[] rfl (fun i h1 => by simp at h1)⟩

theorem ext_marked (hf : P.funcs[f]? = some fn) (hname : (fn.name == "runtime.NumGoroutine") = false) (hb : fn.body.isNone = true) (hn : Extern.findNext fn = none) (m : Addr → Mark) (he : Extern.find fn = some (Extern.Race.marked m)) : ∀ args h r h', markedO args h = some (r, h') → CallSound P f args h r h' := by
  intro args h r h' hr w0 X0 w loc vs W hargs
  unfold markedO at hr
  split at hr
  case h_2 => cases hr
  simp only [Option.some.injEq, Prod.mk.injEq] at hr
  obtain ⟨rfl, rfl⟩ := hr
  obtain ⟨v1, vs, rfl, hv, hvs⟩ := hargs.uncons
  obtain rfl := hvs.unnil
  obtain ⟨ad, rfl, _⟩ := hv.ptr_inv
  intro op a K Q hK
  have := run_call_marked (P := P) hf hname hb hn m he ad w
  rw [this]
  exact hK _ _ ⟨loc, Keeps.refl .., W, .tup [] #[] rfl (fun i h1 => by simp at h1)⟩

theorem ext_idx (hf : P.funcs[f]? = some fn) (hname : (fn.name == "runtime.NumGoroutine") = false) (hb : fn.body.isNone = true) (hn : Extern.findNext fn = none) (he : Extern.find fn = some Extern.BytealgIndexByte.indexByte) : ∀ args h r h', idxO args h = some (r, h') → CallSound P f args h r h' := by
  intro args h r h' hr w0 X0 w loc vs W hargs
  unfold idxO at hr
  split at hr
  case h_2 => cases hr
  rename_i l c
  simp only [Option.some.injEq, Prod.mk.injEq] at hr
  obtain ⟨rfl, rfl⟩ := hr
  obtain ⟨v1, vs, rfl, hv, hvs⟩ := hargs.uncons
  obtain ⟨v2, vs, rfl, hv2, hvs⟩ := hvs.uncons
  obtain rfl := hvs.unnil
  obtain rfl := hv2.int_inv
  obtain rfl := hv.str_inv
  intro op a K Q hK
  rw [run_callFunc_extern hf hname hb hn he]
  have := Lib.run_indexByteString (P := P) ⟨l.toArray⟩ c w
  have e : (ByteArray.mk l.toArray).data.toList = l := by simp
  rw [e] at this
  have e2 : [Value.string ⟨l.toArray⟩, Value.int .u8 c].toArray = #[Value.string ⟨l.toArray⟩, Value.int .u8 c] := rfl
  rw [e2, this]
  exact hK _ _ ⟨loc, Keeps.refl .., W, .int _ _⟩
end
end Go.Proofs.Abs

-- ---- Abs28
set_option linter.unusedSimpArgs false
set_option linter.unusedVariables false
namespace Go.Proofs.Abs
open Go.RowKit

/-- A copy in a block of its own. -/
def cloneO (z : AV) : List AV → AHeap → OpR
  | [.lst f l], h => opH [.lst true [], .lst f l] h 0 (.app 0 z.cells.length (.t 0) (.t 1))
  | [.own id n off len], h => opH [.lst true [], .own id n off len] h 0 (.app 0 z.cells.length (.t 0) (.t 1))
  | _, _ => none

def cloneY (z : AV) : List PI := [.op (some 5) (.bsl z 0 []), .op (some 6) (.mv (.t 0)), .op (some 7) (.app 0 z.cells.length (.t 5) (.t 6)), .op (some 2) (.mv (.t 7)), .ret]

def cloneB (P : Program) (fn : Func) (z : AV) : Bool := match fn.body with
  | some (.seq c0 (.seq (.seq (.region _ ops false) (.cond (.tmp 4) x .skip)) y)) =>
    fn.name != "runtime.NumGoroutine" && fn.ntmps == 8 && chkRes P fn.results.toList [.tmp 2] &&
    done (chk P c0 [.op (some 2) (.mv (.k (.lst true [])))]) && ops.size == 2 &&
    (match ops[0]?, ops[1]? with
    | some a1, some a2 => chkI P ops a1 (.op (some 3) (.mv (.t 0))) && decide (a2.dst = some 4) && a2.guard.isNone && (match a2.op with
      | .binOp .eql ty (.tmp 3) (.const (.slice none 0 0)) _ => (match P.underlying ty with | some (.slice _) => true | _ => false)
      | _ => false)
    | _, _ => false) &&
    done (chk P x [.op (some 2) (.mv (.k (.lst true []))), .ret]) && done (chk P y (cloneY z))
  | _ => false

def S0 : Sys := ⟨fun _ => none, fun _ _ _ => none⟩

section
variable {P : Program} {w0 : World} {X0 : Nat → Prop} {wI : World} {hI : AHeap} {locI : Nat → Nat}

theorem seg {c : Code} {l : List PI} {n : Nat} {t : List AV} {h : AHeap} {b : Nat} {m : Mk} {stF : St} {a : Act} {w : World} (hd : done (chk P c l) = true) (hr : run S0 n l ⟨t, h, b, m, .normal⟩ = some stF) (hm : m.l.head? = some hI.length) (R : SR w0 X0 wI hI locI m.d t h a w) :
    c.wp P (Post S0 w0 X0 wI hI locI n [] stF) a w := by
  unfold done at hd
  split at hd
  case h_2 => cases hd
  rename_i rest hc
  simp only [List.isEmpty_iff] at hd
  have hB := code_sound (P := P) (S := S0) (fun f args h r h' he => by simp [S0] at he) (fun f p hp => by simp [S0] at hp) n
  refine wp_mono (hB w0 X0 wI hI locI c l rest t h b m stF a w hc hr hm R) (fun e a2 w2 hp => ?_)
  exact Post.rest (r := []) hd (by rw [List.append_nil]; exact hp)

theorem Post.nil {n : Nat} {stF : St} {a : Act} {w : World} (h : Post S0 w0 X0 wI hI locI n [] stF .normal a w) : ∃ t h b m, stF = ⟨t, h, b, m, .normal⟩ ∧ m.l.head? = some hI.length ∧ SR w0 X0 wI hI locI m.d t h a w := by
  obtain ⟨k, t, h, b, m, _, hr, hm, R⟩ := h
  cases k with
  | zero => simp [run] at hr
  | succ k =>
    simp only [run, stepF, Option.some.injEq] at hr
    exact ⟨t, h, b, m, hr.symm, hm, R⟩

theorem clone_sound {f : FuncId} {fn : Func} {z : AV} (hf : P.funcs[f]? = some fn) (hc : cloneB P fn z = true) : ∀ args h r h', cloneO z args h = some (r, h') → CallSound P f args h r h' := by
  intro args h r h' hr w0 X0 w loc vs W hargs
  unfold cloneB at hc
  split at hc
  case h_2 => cases hc
  rename_i c0 i1 ops x y hbody
  simp only [Bool.and_eq_true, bne_iff_ne, ne_eq, beq_iff_eq] at hc
  obtain ⟨⟨⟨⟨⟨⟨⟨k1, k2⟩, k3⟩, k4⟩, k5⟩, k6⟩, k7⟩, k8⟩ := hc
  split at k6
  case h_2 => cases k6
  rename_i a1 a2_ ho1 ho2
  simp only [Bool.and_eq_true, decide_eq_true_eq, Option.isNone_iff_eq_none] at k6
  obtain ⟨⟨⟨j1, j2⟩, j3⟩, j4⟩ := k6
  split at j4
  case h_2 => cases j4
  rename_i ty ty2 hop
  split at j4
  case h_2 => cases j4
  rename_i ety hu
  have hcf : ∀ vs w, (callFunc f vs).run P w = .ok (.enter f vs) w := fun vs w => by simp [callFunc, Sem.run_bind, hf, k1, hbody]
  -- the argument is a slice
  have hx : ∃ xa, args = [xa] ∧ opH [.lst true [], xa] h 0 (.app 0 z.cells.length (.t 0) (.t 1)) = some (r, h') ∧ ((∃ f l, xa = .lst f l) ∨ ∃ id n off len, xa = .own id n off len) := by
    unfold cloneO at hr
    split at hr
    · exact ⟨_, rfl, hr, .inl ⟨_, _, rfl⟩⟩
    · exact ⟨_, rfl, hr, .inr ⟨_, _, _, _, rfl⟩⟩
    · cases hr
  obtain ⟨xa, rfl, hr, hxa⟩ := hx
  obtain ⟨v, vs, rfl, hv, hvs⟩ := hargs.uncons
  obtain rfl := hvs.unnil
  have hsl : ∃ ad len cap, v = .slice ad len cap ∧ (ad = none → ∃ f, xa = .lst f []) := by
    rcases hxa with ⟨fl, l, rfl⟩ | ⟨id, n, off, len, rfl⟩
    · cases hv with
      | lst0 _ a cap _ => exact ⟨_, _, _, rfl, fun _ => ⟨_, rfl⟩⟩
      | lst _ _ _ _ b o cap => exact ⟨_, _, _, rfl, fun h => by cases h⟩
    · cases hv with
      | own _ _ _ _ a cap => exact ⟨_, _, _, rfl, fun h => by cases h⟩
  obtain ⟨ad, len, cap, rfl, hnil⟩ := hsl
  intro o a K Q hK
  rw [hcf, Oper.upon_enter]
  have main : Calls P f [Value.slice ad len cap].toArray w (CallsOK P w0 X0 w h loc r h') := by
    refine calls_of_wp_defers hf hbody ?_
    have R0 : SR w0 X0 w h loc [] [xa, .tup [], .tup [], .tup [], .tup [], .tup [], .tup [], .tup []] h { tmps := [Value.slice ad len cap].toArray ++ Array.replicate (fn.ntmps - [Value.slice ad len cap].toArray.size) undef, defers := [] } w := by
      refine ⟨⟨loc, Keeps.refl .., W, ⟨by simp [k2], fun i h1 h2 => ?_⟩, trivial⟩⟩
      simp only [Array.getElem_append]
      cases i with
      | zero => simpa using hv
      | succ i =>
        have : i = 0 ∨ i = 1 ∨ i = 2 ∨ i = 3 ∨ i = 4 ∨ i = 5 ∨ i = 6 := by simp at h1; omega
        rcases this with rfl | rfl | rfl | rfl | rfl | rfl | rfl <;> (simp; exact rep_undef)
    have fin : ∀ {t : List AV} {h2 : AHeap} {b : Nat} {m : Mk} {ex : Ex} {a' : Act} {w' : World}, m.d = [] → retF [.tmp 2] ⟨t, h2, b, m, ex⟩ = some (r, h') → SR w0 X0 w h loc m.d t h2 a' w' → Leaves P fn a'.tmps (CallsOK P w0 X0 w h loc r h') a'.defers .returning w' := by
      rintro t h2 b m ex a' w' hd hret ⟨⟨loc', K0, W', Sl, hdr⟩⟩
      rw [hd] at hdr
      rw [hdr.nil]
      obtain ⟨rfl, x, h1, h3⟩ := results_ok (P := P) (fn := fn) (p := ⟨[], 0, [.tmp 2]⟩) W' Sl k3 hret
      exact ⟨x, h1, loc', K0, W', h3⟩
    refine wp_seq (wp_mono (seg (n := 5) (m := ⟨[h.length], []⟩) (b := 0) k4 rfl rfl R0) (fun e a1' w1 hp => ?_))
    cases e with
    | normal =>
      obtain ⟨t, h2, b2, m2, he, hm, R1⟩ := hp.nil
      simp only [St.mk.injEq] at he
      obtain ⟨rfl, rfl, rfl, rfl, _⟩ := he
      have hreg : (Code.region i1 ops false).wp P (fun e a w' => e = .normal ∧ ∃ bv, (bv = true → ∃ f, xa = .lst f []) ∧ SR w0 X0 w h loc [] [xa, .tup [], .lst true [], xa, .bool bv, .tup [], .tup [], .tup []] h a w') a1' w1 := by
        refine wp_region ?_
        rw [k5]
        show wpOps P ops _ [0, 1] _ _
        rw [wpOps_cons]
        refine stepI_sound (C := fun _ _ _ => none) (fun f args h r h' he => by cases he) ho1 j1 (b := 0) rfl R1 (fun a2 w2 R2 => ?_)
        rw [wpOps_cons]
        unfold wpOp
        rw [ho2]
        simp only
        rw [if_pos (by simp [Region.wanted, j3])]
        refine .inl ?_
        obtain ⟨⟨loc2, K2, W2, Sl2, hd2⟩⟩ := R2
        have h3 : Rep w2 h loc2 (XH X0 h loc2) xa (a2.eval (.tmp 3)) := Sl2.x (o := .tmp 3) (x := .t 3) (by simp [chkX])
        have h3' : ∃ ad2 len2 cap2, a2.eval (.tmp 3) = .slice ad2 len2 cap2 ∧ (ad2 = none → ∃ f, xa = .lst f []) := by
          generalize a2.eval (.tmp 3) = v at h3
          rcases hxa with ⟨fl, l, rfl⟩ | ⟨id, n, off, len, rfl⟩
          · cases h3 with
            | lst0 _ a cap _ => exact ⟨_, _, _, rfl, fun _ => ⟨_, rfl⟩⟩
            | lst _ _ _ _ b o cap => exact ⟨_, _, _, rfl, fun h => by cases h⟩
          · cases h3 with
            | own _ _ _ _ a cap => exact ⟨_, _, _, rfl, fun h => by cases h⟩
        obtain ⟨ad2, len2, cap2, he3, hn3⟩ := h3'
        have heq : (Op.equal ty (.slice ad2 len2 cap2) (.slice none 0 0)).run P w2 = .ok ad2.isNone w2 := by
          rw [equal_unfold]
          unfold Op.equalIn
          cases ad2 <;> simp [run_underlying hu]
        have hrun : (execOp a2.eval a2_).run P w2 = .ok (.value (.bool ad2.isNone)) w2 := by
          have hye : a2.eval (.const (.slice none 0 0)) = .slice none 0 0 := rfl
          simp [execOp, hop, hye, eqGuard, binOp, heq, he3]
        unfold Oper.wp
        rw [hrun, Oper.upon_value, j2]
        exact ⟨rfl, ad2.isNone, fun hb => hn3 (by simpa using hb), ⟨⟨loc2, K2, W2, (Sl2.put (some 4) (.bool ad2.isNone)), by rw [put_defers]; exact hd2⟩⟩⟩
      have hcond : ∀ (bv : Bool) (a3 : Act) (w3 : World), (bv = true → ∃ f, xa = .lst f []) → SR w0 X0 w h loc [] [xa, .tup [], .lst true [], xa, .bool bv, .tup [], .tup [], .tup []] h a3 w3 →
          (Code.cond (.tmp 4) x .skip).wp P (Exit.then (y.wp P (bodyPostD P fn (CallsOK P w0 X0 w h loc r h'))) (bodyPostD P fn (CallsOK P w0 X0 w h loc r h'))) a3 w3 := by
        intro bv a3 w3 hbv R3
        have hev : a3.eval (.tmp 4) = .bool bv := by
          obtain ⟨⟨loc3, _, _, Sl3, _⟩⟩ := R3
          have h4 : Rep w3 h loc3 (XH X0 h loc3) (.bool bv) (a3.eval (.tmp 4)) := Sl3.x (o := .tmp 4) (x := .t 4) (by simp [chkX])
          exact h4.bool_inv
        refine wp_cond hev ?_
        cases bv with
        | true =>
          obtain ⟨fl, rfl⟩ := hbv rfl
          refine wp_mono (seg (n := 5) (m := ⟨[h.length], []⟩) (b := 0) k7 rfl rfl R3) (fun e a4 w4 hp => ?_)
          have hr1 : r = .lst true [] ∧ h' = h := by
            simp [opH, xv, elemsOf, hds, roomH] at hr
            exact ⟨hr.1.symm, hr.2.symm⟩
          obtain ⟨rfl, rfl⟩ := hr1
          cases e with
          | ret =>
            obtain ⟨t, h2, b, m, he, R4⟩ := hp
            simp only [St.mk.injEq] at he
            obtain ⟨rfl, rfl, rfl, rfl, _⟩ := he
            exact fin (b := 0) (ex := .ret) (m := ⟨[h'.length], []⟩) rfl rfl R4
          | normal => obtain ⟨_, _, _, _, he, _⟩ := hp.nil; cases he
          | exit id =>
            obtain ⟨k, t, h2, b, m, _, hr4, _⟩ := hp
            cases k <;> simp [run, stepF] at hr4
          | goto l => exact hp.elim
          | panic c => exact hp.elim
          | outgrown => exact hp.elim
        | false =>
          refine wp_skip ?_
          show y.wp P _ a3 w3
          have hres : ∃ q, run S0 8 (cloneY z) ⟨[xa, .tup [], .lst true [], xa, .bool false, .tup [], .tup [], .tup []], h, 0, ⟨[h.length], []⟩, .normal⟩ = some q ∧ q.ex = .ret ∧ q.m = ⟨[h.length], []⟩ ∧ q.b = 0 ∧ retF [.tmp 2] q = some (r, h') := by
            refine ⟨⟨[xa, .tup [], r, xa, .bool false, .lst true [], xa, r], h', 0, ⟨[h.length], []⟩, .ret⟩, ?_, rfl, rfl, rfl, rfl⟩
            have h3 : opH [xa, .tup [], .lst true [], xa, .bool false, .lst true [], xa, .tup []] h 0 (.app 0 z.cells.length (.t 5) (.t 6)) = some (r, h') := hr
            have e1 : run S0 8 (cloneY z) ⟨[xa, .tup [], .lst true [], xa, .bool false, .tup [], .tup [], .tup []], h, 0, ⟨[h.length], []⟩, .normal⟩ =
              (opH [xa, .tup [], .lst true [], xa, .bool false, .lst true [], xa, .tup []] h 0 (.app 0 z.cells.length (.t 5) (.t 6))).bind fun q => run S0 5 [.op (some 2) (.mv (.t 7)), .ret] ⟨put [xa, .tup [], .lst true [], xa, .bool false, .lst true [], xa, .tup []] (some 7) q.1, q.2, 0, ⟨[h.length], []⟩, .normal⟩ := rfl
            rw [e1, h3]
            rfl
          obtain ⟨q, hq, q1, q2, q3, q4⟩ := hres
          refine wp_mono (seg (n := 8) (m := ⟨[h.length], []⟩) (b := 0) k8 hq rfl R3) (fun e a4 w4 hp => ?_)
          obtain ⟨qt, qh, qb, qm, qe⟩ := q
          simp only at q1 q2 q3
          subst q1 q2 q3
          cases e with
          | ret =>
            obtain ⟨t, h2, b, m, he, R4⟩ := hp
            simp only [St.mk.injEq] at he
            obtain ⟨rfl, rfl, rfl, rfl, _⟩ := he
            exact fin (b := 0) (ex := .ret) (m := ⟨[h.length], []⟩) rfl q4 R4
          | normal => obtain ⟨_, _, _, _, he, _⟩ := hp.nil; cases he
          | exit id =>
            obtain ⟨k, t, h2, b, m, _, hr4, _⟩ := hp
            cases k <;> simp [run, stepF] at hr4
          | goto l => exact hp.elim
          | panic c => exact hp.elim
          | outgrown => exact hp.elim
      refine wp_seq (wp_seq (wp_mono hreg (fun e a2' w2 hp => ?_)))
      obtain ⟨rfl, bv, hbv, R2⟩ := hp
      exact hcond bv a2' w2 hbv R2
    | exit id =>
      obtain ⟨k, t, h2, b, m, _, hr4, _⟩ := hp
      cases k <;> simp [run, stepF] at hr4
    | ret => obtain ⟨_, _, _, _, he, _⟩ := hp; cases he
    | goto l => exact hp.elim
    | panic c => exact hp.elim
    | outgrown => exact hp.elim
  refine main.mono (fun e w' he => ?_)
  cases e with
  | returned v => exact hK v w' he
  | panicked c => exact he.elim
  | outgrown => exact he.elim
end
end Go.Proofs.Abs

-- ---- Abs29
set_option linter.unusedSimpArgs false
set_option linter.unusedVariables false
namespace Go.Proofs.Abs
open Go.RowKit

theorem fnil {α : Type} {Q : α → Prop} : ∀ x ∈ ([] : List α), Q x := fun x h => by cases h
theorem fcons {α : Type} {Q : α → Prop} {a : α} {l : List α} (h : Q a) (hl : ∀ x ∈ l, Q x) : ∀ x ∈ a :: l, Q x := fun x hx => by
  rcases List.mem_cons.1 hx with rfl | hx
  · exact h
  · exact hl x hx

/-- A call, and what it came to: its result, its heap. -/
structure Ent where
  f : Nat
  args : List AV
  r : AV
  h : AHeap

structure Ent.Sound (P : Program) (e : Ent) : Prop where
  ok : CallSound P e.f e.args [] e.r e.h

def tblO : List Ent → CallO
  | [], _, _, _ => none
  | e :: l, f, args, h => cond (Nat.beq e.f f && (h.isEmpty && eqbs e.args args)) (some (e.r, e.h)) (tblO l f args h)

theorem tblO_ok {P : Program} : ∀ {T : List Ent}, (∀ e ∈ T, e.Sound P) → ∀ f args h r h', tblO T f args h = some (r, h') → CallSound P f args h r h'
  | [], _, f, args, h, r, h', he => by simp [tblO] at he
  | e :: l, hT, f, args, h, r, h', he => by
    unfold tblO at he
    cases hc : (Nat.beq e.f f && (h.isEmpty && eqbs e.args args)) with
    | false => rw [hc] at he; exact tblO_ok (fun x hx => hT x (List.mem_cons_of_mem _ hx)) f args h r h' he
    | true =>
      rw [hc] at he
      simp only [cond_true, Option.some.injEq, Prod.mk.injEq] at he
      obtain ⟨rfl, rfl⟩ := he
      simp only [Bool.and_eq_true] at hc
      obtain ⟨h1, h2, h3⟩ := hc
      have h1 := Nat.eq_of_beq_eq_true h1
      have h2 : h = [] := by simpa using h2
      have h3 := eqbs_eq h3
      subst h1 h2 h3
      exact (hT e (by simp)).ok

abbrev Hand := Nat × (List AV → AHeap → OpR)
def handF : List Hand → CallO
  | [], _, _, _ => none
  | p :: l, f, args, h => cond (Nat.beq p.1 f) (p.2 args h) (handF l f args h)
def handO (mask : Nat) (l : List Hand) : CallO := fun f args h => cond (Nat.testBit mask f) (handF l f args h) none

structure Hand.Sound (P : Program) (p : Hand) : Prop where
  ok : ∀ args h r h', p.2 args h = some (r, h') → CallSound P p.1 args h r h'

section
variable {P : Program} {f : FuncId} {fn : Func}
theorem hand_load (hf : P.funcs[f]? = some fn) (hname : (fn.name == "runtime.NumGoroutine") = false) (hb : fn.body.isNone = true) (hn : Extern.findNext fn = none) (k : IntKind) (he : Extern.find fn = some (Extern.Atomic.loadT (.int k))) : Hand.Sound P (f, loadO k) := ⟨ext_load hf hname hb hn k he⟩
theorem hand_store (hf : P.funcs[f]? = some fn) (hname : (fn.name == "runtime.NumGoroutine") = false) (hb : fn.body.isNone = true) (hn : Extern.findNext fn = none) (he : Extern.find fn = some Extern.Atomic.storeT) : Hand.Sound P (f, storeO) := ⟨ext_store hf hname hb hn he⟩
theorem hand_cas (hf : P.funcs[f]? = some fn) (hname : (fn.name == "runtime.NumGoroutine") = false) (hb : fn.body.isNone = true) (hn : Extern.findNext fn = none) (k : IntKind) (he : Extern.find fn = some (Extern.Atomic.casT (.int k))) : Hand.Sound P (f, casO k) := ⟨ext_cas hf hname hb hn k he⟩
theorem hand_add (hf : P.funcs[f]? = some fn) (hname : (fn.name == "runtime.NumGoroutine") = false) (hb : fn.body.isNone = true) (hn : Extern.findNext fn = none) (k : IntKind) (he : Extern.find fn = some (Extern.Atomic.update (Op.intArith .add) k true)) : Hand.Sound P (f, addO k) := ⟨ext_add hf hname hb hn k he⟩
theorem hand_mark0 (hf : P.funcs[f]? = some fn) (hname : (fn.name == "runtime.NumGoroutine") = false) (hb : fn.body.isNone = true) (hn : Extern.findNext fn = none) (m : Mark) (he : Extern.find fn = some (fun _ => do mark m; pure Extern.Race.none_)) : Hand.Sound P (f, mark0O) := ⟨ext_mark0 hf hname hb hn m he⟩
theorem hand_marked (hf : P.funcs[f]? = some fn) (hname : (fn.name == "runtime.NumGoroutine") = false) (hb : fn.body.isNone = true) (hn : Extern.findNext fn = none) (m : Addr → Mark) (he : Extern.find fn = some (Extern.Race.marked m)) : Hand.Sound P (f, markedO) := ⟨ext_marked hf hname hb hn m he⟩
theorem hand_idx (hf : P.funcs[f]? = some fn) (hname : (fn.name == "runtime.NumGoroutine") = false) (hb : fn.body.isNone = true) (hn : Extern.findNext fn = none) (he : Extern.find fn = some Extern.BytealgIndexByte.indexByte) : Hand.Sound P (f, idxO) := ⟨ext_idx hf hname hb hn he⟩
end
theorem hand_clone {P : Program} {f : FuncId} {fn : Func} {z : AV} (hf : P.funcs[f]? = some fn) (hc : cloneB P fn z = true) : Hand.Sound P (f, cloneO z) := ⟨clone_sound hf hc⟩

/-- What stands for functions is sound. -/
structure ExtOK (P : Program) (E : CallO) : Prop where
  ok : ∀ f args h r h', E f args h = some (r, h') → CallSound P f args h r h'

theorem handF_ok {P : Program} : ∀ {l : List Hand}, (∀ p ∈ l, Hand.Sound P p) → ∀ f args h r h', handF l f args h = some (r, h') → CallSound P f args h r h'
  | [], _, f, args, h, r, h', he => by simp [handF] at he
  | p :: l, hl, f, args, h, r, h', he => by
    unfold handF at he
    cases hc : Nat.beq p.1 f with
    | false => rw [hc] at he; exact handF_ok (fun x hx => hl x (List.mem_cons_of_mem _ hx)) f args h r h' he
    | true =>
      rw [hc] at he
      have h1 := Nat.eq_of_beq_eq_true hc
      subst h1
      exact (hl p (by simp)).ok args h r h' he

theorem handO_ok {P : Program} {m : Nat} {l : List Hand} (hl : ∀ p ∈ l, Hand.Sound P p) : ExtOK P (handO m l) := by
  refine ⟨?_⟩
  intro f args h r h' he
  unfold handO at he
  cases hc : Nat.testBit m f with
  | false => rw [hc] at he; cases he
  | true => rw [hc] at he; exact handF_ok hl f args h r h' he

inductive Tr where
  | leaf (f : Nat) (p : PFn)
  | node (k : Nat) (l r : Tr)
def Tr.get : Tr → Nat → Option PFn
  | .leaf f p, x => cond (Nat.beq f x) (some p) none
  | .node k l r, x => cond (Nat.blt x k) (l.get x) (r.get x)
def Tr.OK (P : Program) : Tr → Prop
  | .leaf f p => chkF P f p = true
  | .node _ l r => l.OK P ∧ r.OK P

theorem Tr.get_ok {P : Program} : ∀ {t : Tr}, t.OK P → ∀ f p, t.get f = some p → chkF P f p = true
  | .leaf k q, h, f, p, he => by
    unfold Tr.get at he
    cases hc : Nat.beq k f with
    | false => rw [hc] at he; cases he
    | true =>
      rw [hc] at he
      simp only [cond_true, Option.some.injEq] at he
      have h1 := Nat.eq_of_beq_eq_true hc
      subst h1 he
      exact h
  | .node k l r, h, f, p, he => by
    unfold Tr.get at he
    cases hc : Nat.blt f k with
    | false => rw [hc] at he; exact Tr.get_ok h.2 f p he
    | true => rw [hc] at he; exact Tr.get_ok h.1 f p he

/-- The functions' texts, externs, and a table. -/
def sysOf (F : Tr) (E : CallO) (T : List Ent) : Sys := ⟨F.get, fun f args h => match tblO T f args h with
  | some x => some x
  | none => E f args h⟩

theorem sysOf_ext {P : Program} {F : Tr} {E : CallO} {T : List Ent} (hE : ExtOK P E) (hT : ∀ e ∈ T, e.Sound P) : ExtOK P (sysOf F E T).ext := by
  refine ⟨?_⟩
  intro f args h r h' he
  simp only [sysOf] at he
  split at he
  · rename_i x hx
    simp only [Option.some.injEq] at he
    subst he
    exact tblO_ok hT f args h r h' hx
  · exact hE.ok f args h r h' he

def heqb : AHeap → AHeap → Bool
  | [], [] => true
  | a :: h, b :: h' => a.eqb b && heqb h h'
  | _, _ => false
theorem heqb_eq : ∀ {h h' : AHeap}, heqb h h' = true → h = h'
  | [], h', e => by cases h' <;> simp_all [heqb]
  | a :: h, h', e => by
    cases h' with
    | nil => simp [heqb] at e
    | cons b h' =>
      simp only [heqb, Bool.and_eq_true] at e
      rw [Blk.eqb_eq e.1, heqb_eq e.2]

def isR (x : OpR) (e : Ent) : Bool := match x with
  | some (v, h) => v.eqb e.r && heqb h e.h
  | none => false

/-- An entry, by the kernel's own reckoning. -/
theorem entry {P : Program} {F : Tr} {E : CallO} (hF : F.OK P) (hE : ExtOK P E) {T : List Ent} (hT : ∀ e ∈ T, e.Sound P) (n : Nat) {x : Ent}
    (hc : isR (callF (sysOf F E T) (run (sysOf F E T) n) x.f x.args []) x = true) : x.Sound P := by
  unfold isR at hc
  split at hc
  case h_2 => cases hc
  rename_i v h he
  simp only [Bool.and_eq_true] at hc
  have h1 := AV.eqb_eq hc.1
  have h2 := heqb_eq hc.2
  subst h1 h2
  exact ⟨Call_sound (sysOf_ext hE hT).ok (Tr.get_ok hF) (Call_iff.2 ⟨n, he⟩)⟩
end Go.Proofs.Abs

-- ---- Abs30
set_option linter.unusedSimpArgs false
set_option linter.unusedVariables false
namespace Go.Proofs.Abs
open Go.RowKit

theorem beqT {b : Bool} : (b == true) = b := by cases b <;> rfl
theorem beqF {b : Bool} : (b == false) = !b := by cases b <;> rfl

theorem cells_agg {l : List AV} : (AV.agg l).cells = l := rfl
theorem cells_int {k : IntKind} {n : Int} : (AV.int k n).cells = [.int k n] := rfl
theorem cells_bool {b : Bool} : (AV.bool b).cells = [.bool b] := rfl
theorem cells_str {l : List UInt8} : (AV.str l).cells = [.str l] := rfl
theorem cells_lst {f : Bool} {l : List AV} : (AV.lst f l).cells = [.lst f l] := rfl
theorem cells_own {a b c d : Nat} : (AV.own a b c d).cells = [.own a b c d] := rfl
theorem cells_ptr {a b c d : Nat} : (AV.ptr a b c d).cells = [.ptr a b c d] := rfl
theorem cells_fp {l : List AV} : (AV.fp l).cells = [.fp l] := rfl
theorem cells_fn {f : Nat} {a b : List AV} : (AV.fn f a b).cells = [.fn f a b] := rfl
theorem cells_ifc {t : Nat} {v : AV} : (AV.ifc t v).cells = [.ifc t v] := rfl
theorem cells_nilp : AV.nilp.cells = [.nilp] := rfl
theorem ldc_one {v : AV} {l : List AV} : ldc none (v :: l) = some v := rfl
theorem ldc_many {n : Nat} {l : List AV} : ldc (some n) l = if n ≤ l.length then some (.agg (l.take n)) else none := by cases l <;> rfl

section
variable {S : Sys}

/-- What a list of instructions comes to, to the end of its function. -/
noncomputable def Fin (S : Sys) (res : List Res) (l : List PI) (st : St) : OpR :=
  (Run S l st).bind fun st => (runD (callD S (Run S)) st.m.d st.h).bind fun h => retF res ⟨st.t, h, st.b, st.m, st.ex⟩

theorem Call_fin {f : Nat} {p : PFn} {args : List AV} {h : AHeap} (he : S.ext f args h = none) (hp : S.fn f = some p) :
    Call S f args h = Fin S p.res p.code ⟨args ++ List.replicate (p.nt - args.length) (.tup []), h, 0, ⟨[h.length], []⟩, .normal⟩ := by
  simp only [Call, callF, he, hp, codeF, enterF, Fin]
theorem Call_ext {f : Nat} {args : List AV} {h : AHeap} {x : AV × AHeap} (he : S.ext f args h = some x) : Call S f args h = some x := by
  simp only [Call, callF, he]

variable {res : List Res} {r : List PI} {t : List AV} {h : AHeap} {b : Nat} {m : Mk}

theorem Fin_op {d : Option Nat} {o : PO} : Fin S res (.op d o :: r) ⟨t, h, b, m, .normal⟩ = (opC (Call S) t h b o).bind fun x => Fin S res r ⟨put t d x.1, x.2, b, m, .normal⟩ := by
  unfold Fin
  rw [Run_eq]
  simp only [stepF, opF, Option.bind_assoc]
  rfl
theorem Fin_opg {d : Option Nat} {j : Nat} {w : Bool} {o : PO} : Fin S res (.opg d j w o :: r) ⟨t, h, b, m, .normal⟩ =
    (guardV (xv t (.t j)) w).bind fun y => cond y ((opC (Call S) t h b o).bind fun x => Fin S res r ⟨put t d x.1, x.2, b, m, .normal⟩) (Fin S res r ⟨put t d (.tup []), h, b, m, .normal⟩) := by
  unfold Fin
  rw [Run_eq]
  simp only [stepF, opF, Option.bind_assoc]
  congr 1
  funext y
  cases y <;> simp only [cond_true, cond_false, Option.bind_assoc] <;> rfl
theorem Fin_opgT {d : Option Nat} {j : Nat} {w : Bool} {o : PO} (hg : guardV (xv t (.t j)) w = some true) : Fin S res (.opg d j w o :: r) ⟨t, h, b, m, .normal⟩ = (opC (Call S) t h b o).bind fun x => Fin S res r ⟨put t d x.1, x.2, b, m, .normal⟩ := by
  rw [Fin_opg, hg]; rfl
theorem Fin_opgF {d : Option Nat} {j : Nat} {w : Bool} {o : PO} (hg : guardV (xv t (.t j)) w = some false) : Fin S res (.opg d j w o :: r) ⟨t, h, b, m, .normal⟩ = Fin S res r ⟨put t d (.tup []), h, b, m, .normal⟩ := by
  rw [Fin_opg, hg]; rfl
theorem Fin_stf {n d : Nat} {v : PX} : Fin S res (.stf n d v :: r) ⟨t, h, b, m, .normal⟩ = (stfF n d (xv t v) t h).bind fun x => Fin S res r ⟨x.1, x.2, b, m, .normal⟩ := by
  unfold Fin
  rw [Run_eq]
  simp only [stepF, Option.bind_assoc]
theorem Fin_draw {n : Nat} {ord : List Nat} {ap : List (Nat × Nat)} {a : List PI} : Fin S res (.draw n ord ap a :: r) ⟨t, h, b, m, .normal⟩ = Fin S res (a ++ .apart ap :: r) ⟨t, h ++ List.replicate n ⟨.hole, 0, 0, []⟩, h.length, m, .normal⟩ := by
  unfold Fin
  rw [Run_eq]
  rfl
theorem Fin_apart {l : List (Nat × Nat)} (hl : l.all (fun p => apartB (xv t (.t p.1)) (xv t (.t p.2))) = true) : Fin S res (.apart l :: r) ⟨t, h, b, m, .normal⟩ = Fin S res r ⟨t, h, b, m, .normal⟩ := by
  unfold Fin
  rw [Run_eq]
  simp only [stepF, hl, if_true]
theorem Fin_mark {i : Nat} {ml : List Nat} {md : List (Nat × List AV)} : Fin S res (.mark i :: r) ⟨t, h, b, ⟨ml, md⟩, .normal⟩ = Fin S res r ⟨t, h, b, ⟨ml.take (i + 1) ++ [h.length], md⟩, .normal⟩ := by
  unfold Fin
  rw [Run_eq]
  rfl
theorem Fin_tidy {i : Nat} {keep : List Nat} {ml : List Nat} : Fin S res (.tidy i keep :: r) ⟨t, h, b, ⟨ml, []⟩, .normal⟩ = (tidyF i keep t h ml).bind fun x => Fin S res r ⟨x.1, x.2, b, ⟨ml, []⟩, .normal⟩ := by
  unfold Fin
  rw [Run_eq]
  simp only [stepF, List.isEmpty_nil, if_true, Option.bind_assoc]
theorem Fin_frz {i : Nat} : Fin S res (.frz i :: r) ⟨t, h, b, m, .normal⟩ = (frzF i t h).bind fun x => Fin S res r ⟨x.1, x.2, b, m, .normal⟩ := by
  unfold Fin
  rw [Run_eq]
  simp only [stepF, Option.bind_assoc]
theorem Fin_cond {c : PX} {a e : List PI} {v : Bool} (hc : xv t c = .bool v) : Fin S res (.cond c a e :: r) ⟨t, h, b, m, .normal⟩ = Fin S res (cond v a e ++ r) ⟨t, h, b, m, .normal⟩ := by
  unfold Fin
  rw [Run_eq]
  simp only [stepF, hc]
theorem Fin_block {id : Nat} {a : List PI} : Fin S res (.block id a :: r) ⟨t, h, b, m, .normal⟩ = Fin S res (a ++ .endb id :: r) ⟨t, h, b, m, .normal⟩ := by
  unfold Fin
  rw [Run_eq]
  rfl
theorem Fin_endb {id : Nat} : Fin S res (.endb id :: r) ⟨t, h, b, m, .normal⟩ = Fin S res r ⟨t, h, b, m, .normal⟩ := by
  unfold Fin
  rw [Run_eq]
  rfl
theorem Fin_loop {a : List PI} : Fin S res (.loop a :: r) ⟨t, h, b, m, .normal⟩ = Fin S res (a ++ .loop a :: r) ⟨t, h, b, m, .normal⟩ := by
  unfold Fin
  rw [Run_eq]
  rfl
theorem Fin_exit {id : Nat} : Fin S res (.exit id :: r) ⟨t, h, b, m, .normal⟩ = Fin S res r ⟨t, h, b, m, .exit id⟩ := by
  unfold Fin
  rw [Run_eq]
  rfl
/-- What an exit passes over. -/
theorem Fin_skip {i : PI} {id : Nat} (hi : i.isEnd = false) : Fin S res (i :: r) ⟨t, h, b, m, .exit id⟩ = Fin S res r ⟨t, h, b, m, .exit id⟩ := by
  unfold Fin
  rw [Run_eq]
  cases i <;> first | rfl | (simp [PI.isEnd] at hi)
theorem Fin_skip_op {d o id} : Fin S res (.op d o :: r) ⟨t, h, b, m, .exit id⟩ = Fin S res r ⟨t, h, b, m, .exit id⟩ := Fin_skip rfl
theorem Fin_skip_opg {d j w o id} : Fin S res (.opg d j w o :: r) ⟨t, h, b, m, .exit id⟩ = Fin S res r ⟨t, h, b, m, .exit id⟩ := Fin_skip rfl
theorem Fin_skip_stf {n d v id} : Fin S res (.stf n d v :: r) ⟨t, h, b, m, .exit id⟩ = Fin S res r ⟨t, h, b, m, .exit id⟩ := Fin_skip rfl
theorem Fin_skip_draw {n ord ap a id} : Fin S res (.draw n ord ap a :: r) ⟨t, h, b, m, .exit id⟩ = Fin S res r ⟨t, h, b, m, .exit id⟩ := Fin_skip rfl
theorem Fin_skip_apart {l id} : Fin S res (.apart l :: r) ⟨t, h, b, m, .exit id⟩ = Fin S res r ⟨t, h, b, m, .exit id⟩ := Fin_skip rfl
theorem Fin_skip_mark {i id} : Fin S res (.mark i :: r) ⟨t, h, b, m, .exit id⟩ = Fin S res r ⟨t, h, b, m, .exit id⟩ := Fin_skip rfl
theorem Fin_skip_tidy {i k id} : Fin S res (.tidy i k :: r) ⟨t, h, b, m, .exit id⟩ = Fin S res r ⟨t, h, b, m, .exit id⟩ := Fin_skip rfl
theorem Fin_skip_frz {i id} : Fin S res (.frz i :: r) ⟨t, h, b, m, .exit id⟩ = Fin S res r ⟨t, h, b, m, .exit id⟩ := Fin_skip rfl
theorem Fin_skip_dfr {x a id} : Fin S res (.dfr x a :: r) ⟨t, h, b, m, .exit id⟩ = Fin S res r ⟨t, h, b, m, .exit id⟩ := Fin_skip rfl
theorem Fin_skip_cond {c a e id} : Fin S res (.cond c a e :: r) ⟨t, h, b, m, .exit id⟩ = Fin S res r ⟨t, h, b, m, .exit id⟩ := Fin_skip rfl
theorem Fin_skip_block {j a id} : Fin S res (.block j a :: r) ⟨t, h, b, m, .exit id⟩ = Fin S res r ⟨t, h, b, m, .exit id⟩ := Fin_skip rfl
theorem Fin_skip_loop {a id} : Fin S res (.loop a :: r) ⟨t, h, b, m, .exit id⟩ = Fin S res r ⟨t, h, b, m, .exit id⟩ := Fin_skip rfl
theorem Fin_skip_exit {j id} : Fin S res (.exit j :: r) ⟨t, h, b, m, .exit id⟩ = Fin S res r ⟨t, h, b, m, .exit id⟩ := Fin_skip rfl
theorem Fin_skip_ret {id} : Fin S res (.ret  :: r) ⟨t, h, b, m, .exit id⟩ = Fin S res r ⟨t, h, b, m, .exit id⟩ := Fin_skip rfl
theorem Fin_skip_bad {id} : Fin S res (.bad  :: r) ⟨t, h, b, m, .exit id⟩ = Fin S res r ⟨t, h, b, m, .exit id⟩ := Fin_skip rfl
theorem Fin_end_same {id : Nat} : Fin S res (.endb id :: r) ⟨t, h, b, m, .exit id⟩ = Fin S res r ⟨t, h, b, m, .normal⟩ := by
  unfold Fin
  rw [Run_eq]
  simp only [stepF, if_true]
theorem Fin_end_other {id id' : Nat} (hne : (id' = id) = False) : Fin S res (.endb id' :: r) ⟨t, h, b, m, .exit id⟩ = Fin S res r ⟨t, h, b, m, .exit id⟩ := by
  unfold Fin
  rw [Run_eq]
  simp only [stepF, hne, if_false]
theorem Fin_ret {ml : List Nat} : Fin S res (.ret :: r) ⟨t, h, b, ⟨ml, []⟩, .normal⟩ = (resL t h res).map fun l => (one l, h) := by
  unfold Fin
  rw [Run_eq]
  rfl
theorem Fin_nil {ml : List Nat} : Fin S res [] ⟨t, h, b, ⟨ml, []⟩, .normal⟩ = (resL t h res).map fun l => (one l, h) := by
  unfold Fin
  rw [Run_eq]
  rfl
def condV : AV → (Bool → OpR) → OpR
  | .bool v, k => k v
  | _, _ => none
theorem condV_bool {v : Bool} {k : Bool → OpR} : condV (.bool v) k = k v := rfl
theorem Fin_if {c : PX} {a e : List PI} : Fin S res (.cond c a e :: r) ⟨t, h, b, m, .normal⟩ = condV (xv t c) fun v => Fin S res (cond v a e ++ r) ⟨t, h, b, m, .normal⟩ := by
  cases hc : xv t c <;> first | (rw [Fin_cond hc]; rfl) | (unfold Fin; rw [Run_eq]; simp only [stepF, hc]; rfl)
theorem Fin_aparts {l : List (Nat × Nat)} : Fin S res (.apart l :: r) ⟨t, h, b, m, .normal⟩ = cond (l.all (fun p => apartB (xv t (.t p.1)) (xv t (.t p.2)))) (Fin S res r ⟨t, h, b, m, .normal⟩) none := by
  cases hl : l.all (fun p => apartB (xv t (.t p.1)) (xv t (.t p.2))) with
  | true => rw [Fin_apart hl]; rfl
  | false => unfold Fin; rw [Run_eq]; simp only [stepF, hl]; rfl

/-- An exit, at once. -/
theorem Fin_out {p : List PI} {id : Nat} (hp : p.all (fun i => !i.isEnd) = true) : Fin S res (p ++ .endb id :: r) ⟨t, h, b, m, .exit id⟩ = Fin S res r ⟨t, h, b, m, .normal⟩ := by
  induction p with
  | nil => exact Fin_end_same
  | cons i p ih =>
    simp only [List.all_cons, Bool.and_eq_true, Bool.not_eq_true'] at hp
    rw [List.cons_append, Fin_skip hp.1]
    exact ih hp.2
mutual
theorem AV.pure_under (b : Nat) : ∀ {x : AV}, x.pure = true → x.under b = true
  | .agg l, h => by simp only [AV.pure] at h; simp only [AV.under]; exact pures_under b h
  | .tup l, h => by simp only [AV.pure] at h; simp only [AV.under]; exact pures_under b h
  | .fn f x y, h => by
    simp only [AV.pure, Bool.and_eq_true] at h
    simp only [AV.under, Bool.and_eq_true]
    exact ⟨pures_under b h.1, pures_under b h.2⟩
  | .ifc t v, h => by simp only [AV.pure] at h; simp only [AV.under]; exact AV.pure_under b h
  | .own .., h => by simp [AV.pure] at h
  | .ptr .., h => by simp [AV.pure] at h
  | .int .., _ => rfl
  | .bool _, _ => rfl
  | .str _, _ => rfl
  | .nilp, _ => rfl
  | .niface, _ => rfl
  | .nfun, _ => rfl
  | .lst .., _ => rfl
  | .fp _, _ => rfl
  | .top, _ => rfl
theorem pures_under (b : Nat) : ∀ {l : List AV}, pures l = true → unders b l = true
  | [], _ => rfl
  | x :: l, h => by
    simp only [pures, Bool.and_eq_true] at h
    simp only [unders, Bool.and_eq_true]
    exact ⟨AV.pure_under b h.1, pures_under b h.2⟩
end

/-- A round's beginning where nothing of the heap is kept. -/
theorem tidy_eq {i : Nat} {keep : List Nat} {t : List AV} {h : AHeap} {ml : List Nat} (hp : pures (keepT 0 keep t) = true) (h0 : ml.headD 0 = 0) (h1 : ml.getD (i + 1) 0 = 0) : tidyF i keep t h ml = some (keepT 0 keep t, []) := by
  unfold tidyF
  rw [h0, h1, if_pos ⟨Nat.le_refl _, Nat.zero_le _, pures_under 0 hp, by simp⟩]
  simp
end
end Go.Proofs.Abs
