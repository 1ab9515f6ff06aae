/- An abstract evaluator of Go code (plain Lean over any program), proved sound: what it says of a call, the machine does. Part 3. No condition. -/
import Derived.Test.YtjhcempjiokfdaaGreatDoorAbs2
set_option linter.unusedSimpArgs false
set_option linter.unusedVariables false

-- ---- Abs17
set_option linter.unusedSimpArgs false
set_option linter.unusedVariables false
namespace Go.Proofs.Abs
open Go.RowKit

abbrev CallO := Nat → List AV → AHeap → OpR

def shiftB (k : Nat) (b : Blk) : Blk := { b with es := shifts k b.es }

/-- A slice within a struct, as it is told. -/
def AV.cn1 : AV → AV
  | .lst _ l => .lst false l
  | v => v
def AV.cn : AV → AV
  | .agg l => .agg (l.map AV.cn1)
  | v => v

/-- A call's way: 0: its own heap, what comes back is written no more; 1: its own heap, which the caller keeps; 2: what is handed over is told as it is, and what comes back leads to no memory; 3: in the caller's heap; 6: what is handed over is told as it is, its own heap is kept, and nothing frozen comes back; 4, 5: 0 or 1 where what is handed over leads to no block, else 3; 7, 8: 0 or 1 there, else 6. -/
def callM0 (C : CallO) (f : Nat) (args : List AV) (h : AHeap) : OpR :=
  if pures args then (C f (args.map AV.cn) []).bind fun r => (r.1.frz r.2).map fun v => (v, h) else none
def callM1 (C : CallO) (f : Nat) (args : List AV) (h : AHeap) : OpR :=
  if pures args then (C f (args.map AV.cn) []).map fun r => (r.1.shift h.length, h ++ r.2.map (shiftB h.length)) else none
mutual
/-- Nothing frozen. -/
def AV.loose : AV → Bool
  | .int .. | .bool _ | .str _ | .nilp | .niface | .nfun | .own .. | .ptr .. => true
  | .lst _ [] => true
  | .agg l | .tup l => looses l
  | .ifc _ v => v.loose
  | _ => false
def looses : List AV → Bool
  | [] => true
  | v :: l => v.loose && looses l
end
def callM6 (C : CallO) (f : Nat) (args : List AV) (h : AHeap) : OpR :=
  (frzs h args).bind fun args => (C f args []).bind fun r => if r.1.loose && r.2.all (fun k => looses k.es) then some (r.1.shift h.length, h ++ r.2.map (shiftB h.length)) else none
/-- A call that is handed a pointer, and has that pointer's block alone. -/
def callM9 (C : CallO) (f : Nat) (args : List AV) (h : AHeap) : OpR :=
  match args with
  | .ptr id n i o :: rest => match h[id]? with
    | some ⟨.live, s, ver, es⟩ => if pures es && pures rest then (match C f (.ptr 0 n i o :: rest.map AV.cn) [⟨.live, s, ver, es⟩] with
      | some (v, ⟨.live, s1, ver1, es1⟩ :: _) => if s1 = s ∧ ver1 = ver ∧ es1.length = es.length ∧ pures es1 = true ∧ v.pure = true then some (v, h.set id ⟨.live, s, ver, es1⟩) else none
      | _ => none) else none
    | _ => none
  | _ => none
/-- A call whose result is a slice of which the length alone is told. -/
def callM11 (C : CallO) (f : Nat) (args : List AV) (h : AHeap) : OpR :=
  (frzs h args).bind fun args => (C f args []).bind fun r => match r.1 with
    | .lst _ [] => some (.lst false [], h)
    | .lst _ l => some (.own h.length 0 0 l.length, h ++ [⟨.dead, 0, 0, []⟩])
    | .own _ _ _ n => some (.own h.length 0 0 n, h ++ [⟨.dead, 0, 0, []⟩])
    | _ => none
mutual
def AV.eqb : AV → AV → Bool
  | .int k n, .int k' n' => decide (k = k') && decide (n = n')
  | .bool b, .bool b' => b == b'
  | .str l, .str l' => l == l'
  | .nilp, .nilp | .niface, .niface | .nfun, .nfun | .top, .top => true
  | .agg l, .agg l' | .tup l, .tup l' | .fp l, .fp l' => eqbs l l'
  | .fn f a b, .fn f' a' b' => f == f' && eqbs a a' && eqbs b b'
  | .ifc t v, .ifc t' v' => t == t' && v.eqb v'
  | .lst f l, .lst f' l' => f == f' && eqbs l l'
  | .own a b c d, .own a' b' c' d' => a == a' && b == b' && c == c' && d == d'
  | .ptr a b c d, .ptr a' b' c' d' => a == a' && b == b' && c == c' && d == d'
  | _, _ => false
def eqbs : List AV → List AV → Bool
  | [], [] => true
  | x :: l, y :: m => x.eqb y && eqbs l m
  | _, _ => false
end

mutual
theorem AV.eqb_eq : ∀ {x y : AV}, x.eqb y = true → x = y
  | .int k n, y, h => by cases y <;> simp_all [AV.eqb]
  | .bool b, y, h => by cases y <;> simp_all [AV.eqb]
  | .str l, y, h => by cases y <;> simp_all [AV.eqb]
  | .nilp, y, h => by cases y <;> simp_all [AV.eqb]
  | .niface, y, h => by cases y <;> simp_all [AV.eqb]
  | .nfun, y, h => by cases y <;> simp_all [AV.eqb]
  | .top, y, h => by cases y <;> simp_all [AV.eqb]
  | .agg l, y, h => by
    cases y <;> simp only [AV.eqb, Bool.false_eq_true] at h
    rw [eqbs_eq h]
  | .tup l, y, h => by
    cases y <;> simp only [AV.eqb, Bool.false_eq_true] at h
    rw [eqbs_eq h]
  | .fp l, y, h => by
    cases y <;> simp only [AV.eqb, Bool.false_eq_true] at h
    rw [eqbs_eq h]
  | .fn f a b, y, h => by
    cases y <;> simp only [AV.eqb, Bool.false_eq_true, Bool.and_eq_true, beq_iff_eq] at h
    rw [h.1.1, eqbs_eq h.1.2, eqbs_eq h.2]
  | .ifc t v, y, h => by
    cases y <;> simp only [AV.eqb, Bool.false_eq_true, Bool.and_eq_true, beq_iff_eq] at h
    rw [h.1, AV.eqb_eq h.2]
  | .lst f l, y, h => by
    cases y <;> simp only [AV.eqb, Bool.false_eq_true, Bool.and_eq_true, beq_iff_eq] at h
    rw [h.1, eqbs_eq h.2]
  | .own a b c d, y, h => by cases y <;> simp_all [AV.eqb]
  | .ptr a b c d, y, h => by cases y <;> simp_all [AV.eqb]
theorem eqbs_eq : ∀ {l m : List AV}, eqbs l m = true → l = m
  | [], m, h => by cases m <;> simp_all [eqbs]
  | x :: l, m, h => by
    cases m <;> simp only [eqbs, Bool.false_eq_true, Bool.and_eq_true] at h
    rw [AV.eqb_eq h.1, eqbs_eq h.2]
end

def Blk.eqb (a b : Blk) : Bool := decide (a.st = b.st) && a.s == b.s && a.ver == b.ver && eqbs a.es b.es
theorem Blk.eqb_eq {a b : Blk} (h : a.eqb b = true) : a = b := by
  obtain ⟨a1, a2, a3, a4⟩ := a
  obtain ⟨b1, b2, b3, b4⟩ := b
  simp only [Blk.eqb, Bool.and_eq_true, decide_eq_true_eq, beq_iff_eq] at h
  rw [h.1.1.1, h.1.1.2, h.1.2, eqbs_eq h.2]

/-- That one heap begins another one. -/
def begB : AHeap → AHeap → Bool
  | [], _ => true
  | a :: h, b :: h' => a.eqb b && begB h h'
  | _, _ => false
theorem begB_ok : ∀ {h h' : AHeap}, begB h h' = true → ∃ new, h' = h ++ new
  | [], h', _ => ⟨h', rfl⟩
  | a :: h, h', e => by
    cases h' with
    | nil => simp [begB] at e
    | cons b h' =>
      simp only [begB, Bool.and_eq_true] at e
      obtain ⟨new, rfl⟩ := begB_ok e.2
      exact ⟨new, by rw [Blk.eqb_eq e.1]; rfl⟩

/-- A call that changes no block there is. -/
def callM12 (C : CallO) (f : Nat) (args : List AV) (h : AHeap) : OpR :=
  (C f args h).bind fun r => if begB h r.2 then some r else none
def callM (C : CallO) (m f : Nat) (args : List AV) (h : AHeap) : OpR :=
  match m with
  | 0 => callM0 C f args h
  | 1 => callM1 C f args h
  | 2 => (frzs h args).bind fun args => (C f args []).bind fun r => if r.1.ground then some (r.1, h) else none
  | 4 => if pures args then callM0 C f args h else C f args h
  | 5 => if pures args then callM1 C f args h else C f args h
  | 6 => callM6 C f args h
  | 7 => if pures args then callM0 C f args h else callM6 C f args h
  | 8 => if pures args then callM1 C f args h else callM6 C f args h
  | 9 => callM9 C f args h
  | 11 => callM11 C f args h
  | 12 => callM12 C f args h
  | _ => C f args h

/-- A call that the machine makes, from the operation's own place. -/
def CallsTo (P : Program) (f : FuncId) (vs : Array Value) (w : World) (R : Value → World → Prop) : Prop :=
  ∀ (o : Oper) (a : Act) (K : Act → World → Prop) (Q : Exit → Act → World → Prop), (∀ v w', R v w' → K (a.put o.dst v) w') → o.upon P a K Q ((callFunc f vs).run P w)

theorem CallsTo.mono {P f vs w} {R R' : Value → World → Prop} (h : CallsTo P f vs w R) (hr : ∀ v w', R v w' → R' v w') : CallsTo P f vs w R' :=
  fun o a K Q hk => h o a K Q (fun v w' hv => hk v w' (hr v w' hv))

/-- What a call comes to, in the machine. -/
def CallSound (P : Program) (f : FuncId) (args : List AV) (h : AHeap) (r : AV) (h' : AHeap) : Prop :=
  ∀ (w0 : World) (X0 : Nat → Prop) (w : World) (loc : Nat → Nat) (vs : List Value), Wrel w0 X0 w h loc → RepL w h loc (XH X0 h loc) args vs →
    CallsTo P f vs.toArray w fun v w' => ∃ loc', Keeps w h loc (XH X0 h loc) w' h' loc' (XH X0 h' loc') ∧ Wrel w0 X0 w' h' loc' ∧ Rep w' h' loc' (XH X0 h' loc') r v

theorem Rep.cn1 {w h loc X} {a : AV} {v : Value} (hr : Rep w h loc X a v) : Rep w h loc X a.cn1 v := by
  cases hr with
  | lst0 full a cap hc => exact .lst0 _ _ _ (fun hh => by cases hh)
  | lst full l hne s b o cap val hc hcap hX hb hs hlf hp hcell hr => exact .lst false l hne s b o cap val (fun hh => by cases hh) hcap hX hb hs hlf hp hcell hr
  | agg l c hl hr => exact .agg l c hl hr
  | tup l c hl hr => exact .tup l c hl hr
  | fn f a b c d ha hb hra hrb => exact .fn f a b c d ha hb hra hrb
  | ifc t v x hr => exact .ifc t v x hr
  | own id n off len a cap hb hcap hg => exact .own id n off len a cap hb hcap hg
  | ptr id n idx off a hb hg => exact .ptr id n idx off a hb hg
  | fp l b o val hX hb hlf hp hcell hr => exact .fp l b o val hX hb hlf hp hcell hr
  | top v => exact .top v
  | int k n => exact .int k n
  | bool b => exact .bool b
  | str l => exact .str l
  | nilp => exact .nilp
  | niface => exact .niface
  | nfun => exact .nfun

theorem Rep.cn {w h loc X} {a : AV} {v : Value} (hr : Rep w h loc X a v) : Rep w h loc X a.cn v := by
  cases hr with
  | agg l c hl hr => exact .agg _ c (by simpa using hl) (fun i h1 h2 => by simpa using (hr i (by simpa using h1) h2).cn1)
  | tup l c hl hr => exact .tup l c hl hr
  | lst0 full a cap hc => exact .lst0 full a cap hc
  | lst full l hne s b o cap val hc hcap hX hb hs hlf hp hcell hr => exact .lst full l hne s b o cap val hc hcap hX hb hs hlf hp hcell hr
  | fn f a b c d ha hb hra hrb => exact .fn f a b c d ha hb hra hrb
  | ifc t v x hr => exact .ifc t v x hr
  | own id n off len a cap hb hcap hg => exact .own id n off len a cap hb hcap hg
  | ptr id n idx off a hb hg => exact .ptr id n idx off a hb hg
  | fp l b o val hX hb hlf hp hcell hr => exact .fp l b o val hX hb hlf hp hcell hr
  | top v => exact .top v
  | int k n => exact .int k n
  | bool b => exact .bool b
  | str l => exact .str l
  | nilp => exact .nilp
  | niface => exact .niface
  | nfun => exact .nfun

theorem pure_cn1 {a : AV} (h : a.pure = true) : a.cn1.pure = true := by cases a <;> simp_all [AV.cn1, AV.pure]
theorem pure_cn {a : AV} (h : a.pure = true) : a.cn.pure = true := by
  cases a <;> try exact h
  simp only [AV.cn, AV.pure] at h ⊢
  rw [pures_iff] at h ⊢
  intro x hx
  obtain ⟨y, hy, rfl⟩ := List.mem_map.1 hx
  exact pure_cn1 (h y hy)

theorem shifts_eq (k : Nat) : ∀ l, shifts k l = l.map (AV.shift k)
  | [] => rfl
  | x :: l => by simp [shifts, shifts_eq k l]

theorem shift_cells (k : Nat) (x : AV) : (x.shift k).cells = x.cells.map (AV.shift k) := by
  cases x <;> simp [AV.shift, AV.cells, shifts_eq]
theorem shift_leaf (k : Nat) (x : AV) : (x.shift k).leaf = x.leaf := by cases x <;> rfl
theorem shift_flat (k : Nat) (es : List AV) : flat (shifts k es) = (flat es).map (AV.shift k) := by
  rw [shifts_eq]
  induction es with
  | nil => rfl
  | cons x es ih => rw [List.map_cons, flat_cons, ih, flat_cons, shift_cells, List.map_append]

section
variable {P : Program} {w0 : World} {X0 : Nat → Prop} {w : World} {h : AHeap} {loc : Nat → Nat}

theorem get_shift {h h' : AHeap} {id : Nat} : (h ++ h'.map (shiftB h.length))[h.length + id]? = (h'[id]?).map (shiftB h.length) := by
  rw [List.getElem?_append_right (by omega)]
  simp

theorem Rep.shift {X : Nat → Prop} {h' : AHeap} {loc' : Nat → Nat} {a : AV} {v : Value} (hr : Rep w h' loc' X a v) :
    Rep w (h ++ h'.map (shiftB h.length)) (fun i => if i < h.length then loc i else loc' (i - h.length)) X (a.shift h.length) v := by
  have hg : ∀ id n, good (h ++ h'.map (shiftB h.length)) (h.length + id) n → good h' id n := by
    rintro id n ⟨b, hb, hl, hv⟩
    rw [get_shift, Option.map_eq_some_iff] at hb
    obtain ⟨b', hb', rfl⟩ := hb
    exact ⟨b', hb', hl, hv⟩
  have hbg : ∀ id n, begun h' id n → begun (h ++ h'.map (shiftB h.length)) (h.length + id) n := by
    rintro id n ⟨b, hb, hl, hv⟩
    exact ⟨shiftB h.length b, by rw [get_shift, hb]; rfl, hl, hv⟩
  have hsz : ∀ id, sizeAt (h ++ h'.map (shiftB h.length)) (h.length + id) = sizeAt h' id := by
    intro id
    unfold sizeAt
    rw [get_shift]
    cases h'[id]? <;> rfl
  have hln : ∀ id, lenAt (h ++ h'.map (shiftB h.length)) (h.length + id) = lenAt h' id := by
    intro id
    unfold lenAt
    rw [get_shift]
    cases h'[id]? with
    | none => rfl
    | some b => simp [shiftB, shifts_eq]
  have hloc : ∀ id, (if h.length + id < h.length then loc (h.length + id) else loc' (h.length + id - h.length)) = loc' id := by
    intro id
    rw [if_neg (by omega), Nat.add_sub_cancel_left]
  have hr0 := hr
  induction hr with
  | int k n => exact .int k n
  | bool b => exact .bool b
  | str l => exact .str l
  | nilp => exact .nilp
  | niface => exact .niface
  | nfun => exact .nfun
  | agg l c hl hr ih =>
    simp only [AV.shift, shifts_eq]
    exact .agg _ c (by simpa using hl) (fun i h1 h2 => by simpa using ih i (by simpa using h1) h2 (hr i (by simpa using h1) h2))
  | tup l c hl hr ih =>
    simp only [AV.shift, shifts_eq]
    exact .tup _ c (by simpa using hl) (fun i h1 h2 => by simpa using ih i (by simpa using h1) h2 (hr i (by simpa using h1) h2))
  | fn f a b c d ha hb hra hrb iha ihb =>
    simp only [AV.shift, shifts_eq]
    exact .fn f _ _ c d (by simpa using ha) (by simpa using hb) (fun i h1 h2 => by simpa using iha i (by simpa using h1) h2 (hra i (by simpa using h1) h2)) (fun i h1 h2 => by simpa using ihb i (by simpa using h1) h2 (hrb i (by simpa using h1) h2))
  | ifc t v x hr ih => exact .ifc t _ x (ih hr)
  | lst0 full a cap hc => exact .lst0 full a cap hc
  | lst full l hne s b o cap val hc hcap hX hb hs hlf hp hcell hr _ => exact hr0.any rfl _ _
  | own id n off len a cap hb hcap hgg =>
    refine .own _ _ _ _ _ _ (hbg _ _ hb) hcap (fun g => ?_)
    obtain ⟨h1, h2, h3⟩ := hgg (hg _ _ g)
    rw [hsz, hln, hloc]
    exact ⟨h1, h2, h3⟩
  | ptr id n idx off a hb hgg =>
    refine .ptr _ _ _ _ _ (hbg _ _ hb) (fun g => ?_)
    rw [hsz, hloc]
    exact hgg (hg _ _ g)
  | fp l b o val hX hb hlf hp hcell hr _ => exact hr0.any rfl _ _
  | top v => exact .top v

theorem Wrel.nil {X0 : Nat → Prop} (w : World) (loc : Nat → Nat) (hx : ∀ b, X0 b → b < w.heap.size) : Wrel w X0 w [] loc :=
  ⟨Below.refl _ _, fun b hb => ⟨hx b hb, fun ⟨j, k, hk, _⟩ => by simp at hk⟩, ⟨fun i j a b ha => by simp at ha, fun id k hk => by simp at hk⟩⟩

theorem XH_nil {X0 : Nat → Prop} {loc : Nat → Nat} {b : Nat} : XH X0 [] loc b ↔ X0 b := by simp [XH]


/-- The callee's world, taken back into the caller's. -/
theorem Wrel.after (W : Wrel w0 X0 w h loc) {X1 : Nat → Prop} {w' : World} {h' : AHeap} {loc' : Nat → Nat} (W' : Wrel w X1 w' h' loc') : Wrel w0 X0 w' h loc ∧ Keeps w h loc (XH X0 h loc) w' h loc (XH X0 h loc) :=
  W.same W'.below.size (fun b hb => W'.below.block b hb) W'.below.os W'.below.tape W'.below.output

theorem flat_pure {es : List AV} (hp : ∀ x ∈ es, x.pure = true) : ∀ x ∈ flat es, x.pure = true := by
  intro x hx
  simp only [flat, List.mem_flatMap] at hx
  obtain ⟨y, hy, hx⟩ := hx
  exact pure_cells (hp y hy) _ hx

/-- The callee's heap, laid behind the caller's. -/
theorem Wrel.join (W : Wrel w0 X0 w h loc) {w' : World} {h' : AHeap} {loc' : Nat → Nat} (W' : Wrel w (XH X0 h loc) w' h' loc') :
    let hc := h ++ h'.map (shiftB h.length)
    let lc := fun i => if i < h.length then loc i else loc' (i - h.length)
    Keeps w h loc (XH X0 h loc) w' hc lc (XH X0 hc lc) ∧ Wrel w0 X0 w' hc lc ∧ ∀ b, XH X0 hc lc b → XH (XH X0 h loc) h' loc' b := by
  intro hc lc
  obtain ⟨W1, K1⟩ := W.after W'
  have hpre : ∀ i, i < h.length → hc[i]? = h[i]? := fun i hi => List.getElem?_append_left hi
  have hpost : ∀ i, h.length ≤ i → hc[i]? = (h'[i - h.length]?).map (shiftB h.length) := fun i hi => by
    have := get_shift (h := h) (h' := h') (id := i - h.length)
    rwa [Nat.add_sub_cancel' hi] at this
  have hx : ∀ b, XH X0 hc lc b → XH (XH X0 h loc) h' loc' b := by
    rintro b (hb | ⟨id, k, hk, hl, rfl⟩)
    · exact .inl (.inl hb)
    · by_cases hi : id < h.length
      · rw [hpre id hi] at hk
        exact .inl (.inr ⟨id, k, hk, hl, by simp [lc, hi]⟩)
      · rw [hpost id (by omega), Option.map_eq_some_iff] at hk
        obtain ⟨k', hk', rfl⟩ := hk
        exact .inr ⟨id - h.length, k', hk', hl, by simp [lc, hi]⟩
  have hlt : ∀ id n, begun h id n → id < h.length := fun id n hb => by
    obtain ⟨k, hk, _⟩ := hb
    exact (List.getElem?_eq_some_iff.1 hk).1
  have hK : Keeps w h loc (XH X0 h loc) w' hc lc (XH X0 hc lc) :=
    { size := K1.size
      blk := K1.blk
      old := K1.old
      liv := fun b hb ⟨id, k, hk, hl, he⟩ => by
        by_cases hi : id < h.length
        · rw [hpre id hi] at hk
          exact ⟨id, k, hk, hl, by simpa [lc, hi] using he⟩
        · rw [hpost id (by omega), Option.map_eq_some_iff] at hk
          obtain ⟨k', hk', rfl⟩ := hk
          have h1 := (W'.heap.blk (id - h.length) k' hk' hl).le
          simp only [lc, hi, if_false] at he
          omega
      X' := fun b hb hxb => by
        rcases hx b hxb with h1 | ⟨id, k, hk, hl, rfl⟩
        · exact h1
        · have := (W'.heap.blk id k hk hl).le
          omega
      begun := fun id n hb => by
        obtain ⟨k, hk, h1, h2⟩ := hb
        exact ⟨k, by rw [hpre id (List.getElem?_eq_some_iff.1 hk).1]; exact hk, h1, h2⟩
      sz := fun id n hb => by simp [sizeAt, hpre id (hlt id n hb)]
      len := fun id n hb _ => by simp [lenAt, hpre id (hlt id n hb)]
      good := fun id n hb hg => by
        obtain ⟨k, hk, h1⟩ := hg
        rw [hpre id (hlt id n hb)] at hk
        exact ⟨⟨k, hk, h1⟩, by simp [lc, hlt id n hb]⟩
      shape := fun id n e z hb hg hs => by
        obtain ⟨k, hk, h1⟩ := hg
        rw [hpre id (hlt id n hb)] at hk
        have hl : loc id < w.heap.size := by
          rcases Nat.lt_or_ge (loc id) w.heap.size with h | h
          · exact h
          · simp [World.shape?, Array.getElem?_eq_none h] at hs
        rw [shape_of_block (W'.below.block _ hl)]
        exact hs }
  refine ⟨hK, ⟨W1.below, W.x1 hK, ⟨?_, ?_⟩⟩, hx⟩
  · intro i j a b hi hj ha hb he
    have hle : ∀ i a, hc[i]? = some a → a.st = .live → (i < h.length → lc i < w.heap.size) ∧ (h.length ≤ i → w.heap.size ≤ lc i) := by
      intro i a hi ha
      refine ⟨fun hlt => ?_, fun hge => ?_⟩
      · rw [hpre i hlt] at hi
        obtain ⟨row, e, fr, hr, _⟩ := (W.heap.blk i a hi ha).row
        simpa [lc, hlt] using (Array.getElem?_eq_some_iff.1 hr).1
      · rw [hpost i hge, Option.map_eq_some_iff] at hi
        obtain ⟨k, hk, rfl⟩ := hi
        have := (W'.heap.blk _ k hk ha).le
        simpa [lc, Nat.not_lt.2 hge] using this
    by_cases h1 : i < h.length
    · by_cases h2 : j < h.length
      · rw [hpre i h1] at hi
        rw [hpre j h2] at hj
        simp [lc, h1, h2] at he
        exact W.heap.inj _ _ _ _ hi hj ha hb he
      · have := (hle i a hi ha).1 h1
        have := (hle j b hj hb).2 (by omega)
        omega
    · by_cases h2 : j < h.length
      · have := (hle i a hi ha).2 (by omega)
        have := (hle j b hj hb).1 h2
        omega
      · rw [hpost i (by omega), Option.map_eq_some_iff] at hi
        rw [hpost j (by omega), Option.map_eq_some_iff] at hj
        obtain ⟨k, hk, rfl⟩ := hi
        obtain ⟨k2, hk2, rfl⟩ := hj
        simp [lc, h1, h2] at he
        have := W'.heap.inj _ _ _ _ hk hk2 ha hb he
        omega
  · intro id k hk hl
    by_cases h1 : id < h.length
    · rw [hpre id h1] at hk
      have hb := W.heap.blk id k hk hl
      obtain ⟨row, e, fr, hr, _⟩ := hb.row
      have hlc : lc id = loc id := by simp [lc, h1]
      rw [hlc]
      exact hb.keep hK (W'.below.block _ (Array.getElem?_eq_some_iff.1 hr).1)
    · rw [hpost id (by omega), Option.map_eq_some_iff] at hk
      obtain ⟨k', hk', rfl⟩ := hk
      have hb := W'.heap.blk _ k' hk' hl
      obtain ⟨row, e, fr, hr, hfr, hlen, hv⟩ := hb.row
      have hlc : lc id = loc' (id - h.length) := by simp [lc, h1]
      rw [hlc]
      refine ⟨Nat.le_trans W.below.size hb.le, ⟨row, e, fr, hr, hfr, ?_, fun i hi => ?_⟩, fun x hx => ?_, fun x hx => ?_⟩
      · simp only [shiftB]
        rw [shift_flat]
        simpa using hlen
      · simp only [shiftB] at hi ⊢
        rw [shift_flat] at hi
        obtain ⟨v, h1, h2⟩ := hv i (by simpa using hi)
        refine ⟨v, h1, ?_⟩
        have h3 := (h2.mono (X' := XH X0 hc lc) (fun b _ hb => hx b hb)).shift (h := h) (loc := loc)
        have h4 : (flat (shifts h.length k'.es))[i]'(by rw [shift_flat]; exact hi) = ((flat k'.es)[i]'(by simpa using hi)).shift h.length := by
          simp [shift_flat]
        rw [h4]
        exact h3
      · simp only [shiftB] at hx
        rw [shifts_eq] at hx
        obtain ⟨y, hy, rfl⟩ := List.mem_map.1 hx
        rw [shift_cells, List.length_map]
        exact hb.s y hy
      · simp only [shiftB] at hx
        rw [shift_flat] at hx
        obtain ⟨y, hy, rfl⟩ := List.mem_map.1 hx
        rw [shift_leaf]
        exact hb.leaf y hy

theorem looses_iff : ∀ {l : List AV}, looses l = true ↔ ∀ x ∈ l, x.loose = true
  | [] => by simp [looses]
  | x :: l => by simp [looses, looses_iff (l := l)]

theorem Rep.loose {w : World} {h : AHeap} {loc : Nat → Nat} {X : Nat → Prop} (X' : Nat → Prop) {a : AV} {v : Value} (hr : Rep w h loc X a v) (hl : a.loose = true) : Rep w h loc X' a v := by
  induction hr with
  | int k n => exact .int k n
  | bool b => exact .bool b
  | str l => exact .str l
  | nilp => exact .nilp
  | niface => exact .niface
  | nfun => exact .nfun
  | agg l c hs _ ih =>
    simp only [AV.loose] at hl
    exact .agg l c hs (fun i h1 h2 => ih i h1 h2 (looses_iff.1 hl _ (List.getElem_mem h1)))
  | tup l c hs _ ih =>
    simp only [AV.loose] at hl
    exact .tup l c hs (fun i h1 h2 => ih i h1 h2 (looses_iff.1 hl _ (List.getElem_mem h1)))
  | ifc t v x _ ih => exact .ifc t v x (ih (by simpa [AV.loose] using hl))
  | lst0 full a cap hc => exact .lst0 full a cap hc
  | own id n off len a cap hb hcap hg => exact .own id n off len a cap hb hcap hg
  | ptr id n idx off a hb hg => exact .ptr id n idx off a hb hg
  | lst full l hne => cases l <;> simp_all [AV.loose]
  | fn => simp [AV.loose] at hl
  | fp => simp [AV.loose] at hl
  | top => simp [AV.loose] at hl

theorem flat_loose {es : List AV} (hu : looses es = true) : ∀ x ∈ flat es, x.loose = true := by
  rw [looses_iff] at hu
  intro x hx
  simp only [flat, List.mem_flatMap] at hx
  obtain ⟨y, hy, hx⟩ := hx
  have := hu y hy
  cases y <;> first
    | (simp only [AV.cells, List.mem_singleton] at hx; subst hx; exact this)
    | (simp only [AV.cells] at hx; simp only [AV.loose] at this; rw [looses_iff] at this; exact this x hx)

theorem callM9_sound {C : CallO} (hC : ∀ f args h r h', C f args h = some (r, h') → CallSound P f args h r h') {f : Nat} {args : List AV} {h : AHeap} {r : AV} {h' : AHeap} (hm : callM9 C f args h = some (r, h')) : CallSound P f args h r h' := by
  intro w0 X0 w loc vs W hargs
  unfold callM9 at hm
  split at hm
  case h_2 => cases hm
  rename_i id n i o rest
  split at hm
  case h_2 => cases hm
  rename_i s ver es hid
  split at hm
  case isFalse => cases hm
  rename_i hp
  simp only [Bool.and_eq_true] at hp
  obtain ⟨hp1, hp2⟩ := hp
  split at hm
  case h_2 => cases hm
  rename_i v s1 ver1 es1 rst hc
  split at hm
  case isFalse => cases hm
  rename_i hq
  obtain ⟨rfl, rfl, q3, q4, q5⟩ := hq
  simp only [Option.some.injEq, Prod.mk.injEq] at hm
  obtain ⟨rfl, rfl⟩ := hm
  have hlen := (List.getElem?_eq_some_iff.1 hid).1
  -- the block alone
  let lc : Nat → Nat := fun _ => loc id
  let X1 : Nat → Prop := fun b => X0 b ∨ ∃ j k, j ≠ id ∧ h[j]? = some k ∧ k.st = .live ∧ loc j = b
  have get1 : ∀ j k, [(⟨.live, s1, ver1, es⟩ : Blk)][j]? = some k → j = 0 ∧ k = ⟨.live, s1, ver1, es⟩ := fun j k hk => by
    cases j with
    | zero => simp at hk; exact ⟨rfl, hk.symm⟩
    | succ j => simp at hk
  have hX : ∀ b, XH X1 [⟨.live, s1, ver1, es⟩] lc b → XH X0 h loc b := by
    rintro b (hb | ⟨j, k, hk, hl, rfl⟩)
    · rcases hb with hb | ⟨j, k, _, hk, hl, rfl⟩
      · exact .inl hb
      · exact .inr ⟨j, k, hk, hl, rfl⟩
    · exact .inr ⟨id, _, hid, rfl, rfl⟩
  have hX' : ∀ b, XH X0 h loc b → XH X1 [⟨.live, s1, ver1, es⟩] lc b := by
    rintro b (hb | ⟨j, k, hk, hl, rfl⟩)
    · exact .inl (.inl hb)
    · by_cases hj : j = id
      · subst hj; exact .inr ⟨0, _, rfl, rfl, rfl⟩
      · exact .inl (.inr ⟨j, k, hj, hk, hl, rfl⟩)
  have W1 : Wrel w0 X1 w [⟨.live, s1, ver1, es⟩] lc := by
    refine ⟨W.below, fun b hb => ⟨?_, ?_⟩, ⟨?_, ?_⟩⟩
    · rcases hb with hb | ⟨j, k, _, hk, hl, rfl⟩
      · exact (W.x0 b hb).1
      · exact W.lt (.inr ⟨j, k, hk, hl, rfl⟩)
    · rintro ⟨j, k, hk, hl, he⟩
      rcases hb with hb | ⟨j2, k2, hj, hk2, hl2, rfl⟩
      · exact (W.x0 b hb).2 ⟨id, _, hid, rfl, he⟩
      · exact hj (W.heap.inj _ _ _ _ hk2 hid hl2 rfl he.symm)
    · intro j1 j2 a b h1 h2 _ _ _
      rw [(get1 _ _ h1).1, (get1 _ _ h2).1]
    · intro j k hk hl
      obtain ⟨rfl, rfl⟩ := get1 _ _ hk
      have hb := W.heap.blk id _ hid rfl
      obtain ⟨row, e, fr, hr, hfr, hle, hv⟩ := hb.row
      refine ⟨hb.le, ⟨row, e, fr, hr, hfr, hle, fun q hq => ?_⟩, hb.s, hb.leaf⟩
      obtain ⟨v, a, b⟩ := hv q hq
      exact ⟨v, a, (b.any (flat_pure (pures_iff.1 hp1) _ (List.getElem_mem hq)) _ lc).mono (fun b _ hb => hX b hb)⟩
  have hargs1 : RepL w [⟨.live, s1, ver1, es⟩] lc (XH X1 [⟨.live, s1, ver1, es⟩] lc) (.ptr 0 n i o :: rest.map AV.cn) vs := by
    refine ⟨by simpa using hargs.1, fun q h1 h2 => ?_⟩
    cases q with
    | zero =>
      have hr := hargs.2 0 (by simp) h2
      simp only [List.getElem_cons_zero] at hr ⊢
      generalize vs[0] = v0 at hr
      cases hr with
      | ptr _ _ _ _ a hb hg =>
        obtain ⟨k, hk, e1, e2⟩ := hb
        rw [hid] at hk
        simp only [Option.some.injEq] at hk
        subst hk
        refine .ptr _ _ _ _ a ⟨_, rfl, e1, e2⟩ fun hg1 => ?_
        obtain ⟨k, hk, e3, e4⟩ := hg1
        simp only [List.getElem?_cons_zero, Option.some.injEq] at hk
        subst hk
        have := hg ⟨_, hid, e3, e4⟩
        simpa [sizeAt, hid, lc] using this
    | succ q =>
      have h1' : q < rest.length := by simpa using h1
      have hr := hargs.2 (q + 1) (by simpa using h1') h2
      simp only [List.getElem_cons_succ, List.getElem_map] at hr ⊢
      have hpu := pures_iff.1 hp2 _ (List.getElem_mem h1')
      exact (hr.cn.any (pure_cn hpu) _ lc).mono (fun b _ hb => hX b hb)
  refine (hC f _ _ _ _ hc w0 X1 w lc vs W1 hargs1).mono ?_
  rintro u w' ⟨loc2, K2, W2, hr2⟩
  have hg2 : good (⟨.live, s1, ver1, es1⟩ :: rst) 0 ver1 := ⟨_, rfl, rfl, rfl⟩
  have hb2 : begun [⟨.live, s1, ver1, es⟩] 0 ver1 := ⟨_, rfl, by simp, Nat.le_refl _⟩
  have hl2 : loc2 0 = loc id := (K2.good 0 ver1 hb2 hg2).2
  have hsz : sizeAt (⟨.live, s1, ver1, es1⟩ :: rst) 0 = s1 := rfl
  have nl : ∀ j k, j ≠ id → h[j]? = some k → k.st = .live → ¬ Lv [⟨.live, s1, ver1, es⟩] lc (loc j) := by
    rintro j k hj hk hl ⟨j2, k2, hk2, hl2, he⟩
    exact hj (W.heap.inj _ _ _ _ hk hid hl rfl he.symm)
  have hoth : ∀ j, j ≠ id → (h.set id ⟨.live, s1, ver1, es1⟩)[j]? = h[j]? := fun j hj => List.getElem?_set_ne (Ne.symm hj)
  have hat : (h.set id ⟨.live, s1, ver1, es1⟩)[id]? = some ⟨.live, s1, ver1, es1⟩ := List.getElem?_set_self hlen
  have hlv : ∀ b, Lv (h.set id ⟨.live, s1, ver1, es1⟩) loc b → Lv h loc b := by
    rintro b ⟨j, k, hk, hl, rfl⟩
    by_cases hj : j = id
    · subst hj; exact ⟨j, _, hid, rfl, rfl⟩
    · rw [hoth j hj] at hk; exact ⟨j, k, hk, hl, rfl⟩
  have hX2 : ∀ b, XH X0 (h.set id ⟨.live, s1, ver1, es1⟩) loc b → XH X1 (⟨.live, s1, ver1, es1⟩ :: rst) loc2 b := by
    rintro b (hb | ⟨j, k, hk, hl, rfl⟩)
    · exact .inl (.inl hb)
    · by_cases hj : j = id
      · subst hj; exact .inr ⟨0, _, rfl, rfl, hl2⟩
      · rw [hoth j hj] at hk; exact .inl (.inr ⟨j, k, hj, hk, hl, rfl⟩)
  have K : Keeps w h loc (XH X0 h loc) w' (h.set id ⟨.live, s1, ver1, es1⟩) loc (XH X0 (h.set id ⟨.live, s1, ver1, es1⟩) loc) :=
    { size := K2.size
      blk := fun b hb hx => K2.blk b hb (fun hx' => hx (hX b hx'))
      old := fun b hb hn => K2.old b hb (fun ⟨j, k, hk, hl, he⟩ => hn ⟨id, _, hid, rfl, he⟩)
      liv := fun b _ hl => hlv b hl
      X' := fun b _ hx => by
        rcases hx with hx | hx
        · exact .inl hx
        · exact .inr (hlv b hx)
      begun := fun j m ⟨k, hk, e1, e2⟩ => by
        by_cases hj : j = id
        · subst hj
          rw [hid] at hk
          simp only [Option.some.injEq] at hk
          subst hk
          exact ⟨_, hat, by simp, e2⟩
        · exact ⟨k, by rw [hoth j hj]; exact hk, e1, e2⟩
      sz := fun j m _ => by
        by_cases hj : j = id
        · subst hj; simp [sizeAt, hat, hid]
        · simp [sizeAt, hoth j hj]
      len := fun j m _ _ => by
        by_cases hj : j = id
        · subst hj; simp [lenAt, hat, hid, q3]
        · simp [lenAt, hoth j hj]
      good := fun j m _ ⟨k, hk, e1, e2⟩ => by
        by_cases hj : j = id
        · subst hj
          rw [hat] at hk
          simp only [Option.some.injEq] at hk
          subst hk
          exact ⟨⟨_, hid, rfl, e2⟩, rfl⟩
        · rw [hoth j hj] at hk; exact ⟨⟨k, hk, e1, e2⟩, rfl⟩
      shape := fun j m e z _ ⟨k, hk, e1, e2⟩ hs => by
        by_cases hj : j = id
        · subst hj
          exact K2.shape 0 ver1 e z hb2 hg2 hs
        · rw [hoth j hj] at hk
          have hlt : loc j < w.heap.size := W.lt (.inr ⟨j, k, hk, e1, rfl⟩)
          rw [shape_of_block (K2.old _ hlt (nl j k hj hk e1))]
          exact hs }
  refine ⟨loc, K, ⟨W2.below, W.x1 K, ⟨?_, ?_⟩⟩, (hr2.any q5 _ loc).mono (fun b _ hb => hX2 b hb)⟩
  · intro i1 i2 a b h1 h2 l1 l2 he
    have g : ∀ (j : Nat) (k : Blk), (h.set id ⟨.live, s1, ver1, es1⟩)[j]? = some k → k.st = .live → ∃ k' : Blk, h[j]? = some k' ∧ k'.st = .live := fun j k hk hl => by
      by_cases hj : j = id
      · subst hj; exact ⟨_, hid, rfl⟩
      · rw [hoth j hj] at hk; exact ⟨k, hk, hl⟩
    obtain ⟨k1, g1, g2⟩ := g _ _ h1 l1
    obtain ⟨k2, g3, g4⟩ := g _ _ h2 l2
    exact W.heap.inj _ _ _ _ g1 g3 g2 g4 he
  · intro j k hk hl
    by_cases hj : j = id
    · subst hj
      rw [hat] at hk
      simp only [Option.some.injEq] at hk
      subst hk
      have hb := W2.heap.blk 0 _ rfl rfl
      obtain ⟨row, e, fr, hr, hfr, hle, hv⟩ := hb.row
      rw [hl2] at hr
      refine ⟨by have := hb.le; rwa [hl2] at this, ⟨row, e, fr, hr, hfr, hle, fun q hq => ?_⟩, hb.s, hb.leaf⟩
      obtain ⟨v, a, b⟩ := hv q hq
      exact ⟨v, a, (b.any (flat_pure (pures_iff.1 q4) _ (List.getElem_mem hq)) _ loc).mono (fun b _ hb => hX2 b hb)⟩
    · rw [hoth j hj] at hk
      have hb := W.heap.blk j k hk hl
      have hlt : loc j < w.heap.size := W.lt (.inr ⟨j, k, hk, hl, rfl⟩)
      exact hb.keep K (K2.old _ hlt (nl j k hj hk hl))

/-- A dead block behind the others. -/
theorem Wrel.dead (W : Wrel w0 X0 w h loc) : Keeps w h loc (XH X0 h loc) w (h ++ [⟨.dead, 0, 0, []⟩]) loc (XH X0 (h ++ [⟨.dead, 0, 0, []⟩]) loc) ∧ Wrel w0 X0 w (h ++ [⟨.dead, 0, 0, []⟩]) loc := by
  have hnone : h[h.length]? = none := by simp
  have hat : (h ++ [(⟨.dead, 0, 0, []⟩ : Blk)])[h.length]? = some ⟨.dead, 0, 0, []⟩ := by simp
  have c : Chg w0.heap.size w h loc w (h ++ [⟨.dead, 0, 0, []⟩]) loc h.length ⟨.dead, 0, 0, []⟩ :=
    { size := Nat.le_refl _
      blk := fun _ _ _ => rfl
      oth := fun j hj => by
        rw [List.getElem?_append]
        split
        · rfl
        · rw [List.getElem?_eq_none (by simp; omega), List.getElem?_eq_none (by omega)]
      at1 := hat
      pl := fun _ _ => rfl
      old := .inl (.inl hnone)
      new := fun hd => by simp at hd }
  have K := c.keeps W.heap
  exact ⟨K, ⟨W.below, W.x1 K, c.heap W.heap (fun hd => by simp at hd)⟩⟩

theorem callM11_sound {C : CallO} (hC : ∀ f args h r h', C f args h = some (r, h') → CallSound P f args h r h') {f : Nat} {args : List AV} {h : AHeap} {r : AV} {h' : AHeap} (hm : callM11 C f args h = some (r, h')) : CallSound P f args h r h' := by
  intro w0 X0 w loc vs W hargs
  have hxlt : ∀ b, XH X0 h loc b → b < w.heap.size := fun b hb => W.lt hb
  simp only [callM11, Option.bind_eq_some_iff] at hm
  obtain ⟨args1, ha, ⟨r0, h0⟩, hc, hm⟩ := hm
  obtain ⟨g1, g2⟩ := frzs_get ha
  have hx0 : ∀ b, X0 b → b < w.heap.size := fun b hb => hxlt b (.inl hb)
  refine (hC f _ [] r0 h0 hc w X0 w loc vs (Wrel.nil w loc hx0) ⟨by rw [g1]; exact hargs.1, fun i h1 h2 => ?_⟩).mono ?_
  · have := (Rep.frz W (hargs.2 i (by omega) h2) _ (g2 i (by omega) h1)).2 loc
    exact this.mono (fun b _ hb => XH_nil.1 hb)
  · rintro u w' ⟨loc', K', W', hr'⟩
    obtain ⟨W1, K1⟩ := W.after W'
    obtain ⟨K2, W2⟩ := W1.dead
    have own : ∀ n, (∃ a cap, u = .slice (some a) n cap ∧ n ≤ cap) → Rep w' (h ++ [⟨.dead, 0, 0, []⟩]) loc (XH X0 (h ++ [⟨.dead, 0, 0, []⟩]) loc) (.own h.length 0 0 n) u := by
      rintro n ⟨a, cap, rfl, hcap⟩
      refine .own _ _ _ _ a cap ⟨⟨.dead, 0, 0, []⟩, by simp, by simp, Nat.le_refl _⟩ hcap (fun hg => ?_)
      obtain ⟨k, hk, hl, _⟩ := hg
      simp at hk
      subst hk
      cases hl
    simp only at hm
    split at hm
    · simp only [Option.some.injEq, Prod.mk.injEq] at hm
      obtain ⟨rfl, rfl⟩ := hm
      refine ⟨loc, K1, W1, ?_⟩
      cases hr' with
      | lst0 _ a cap _ => exact .lst0 _ a cap (fun h => by cases h)
      | lst _ _ hne => exact absurd rfl hne
    · rename_i l hne
      simp only [Option.some.injEq, Prod.mk.injEq] at hm
      obtain ⟨rfl, rfl⟩ := hm
      refine ⟨loc, K1.trans K2 (fun b hb hx => K1.X' b hb hx), W2, own _ ?_⟩
      cases hr' with
      | lst0 _ a cap _ => exact (hne rfl).elim
      | lst _ _ _ _ b o cap _ _ hcap => exact ⟨_, _, rfl, hcap⟩
    · simp only [Option.some.injEq, Prod.mk.injEq] at hm
      obtain ⟨rfl, rfl⟩ := hm
      refine ⟨loc, K1.trans K2 (fun b hb hx => K1.X' b hb hx), W2, own _ ?_⟩
      cases hr' with
      | own _ _ _ _ a cap _ hcap => exact ⟨_, _, rfl, hcap⟩
    · cases hm

theorem callM_sound {C : CallO} (hC : ∀ f args h r h', C f args h = some (r, h') → CallSound P f args h r h') {m f : Nat} {args : List AV} {h : AHeap} {r : AV} {h' : AHeap} (hm : callM C m f args h = some (r, h')) : CallSound P f args h r h' := by
  intro w0 X0 w loc vs W hargs
  have hxlt : ∀ b, XH X0 h loc b → b < w.heap.size := fun b hb => W.lt hb
  -- what is pure can be handed over as it is
  have hpure : pures args = true → RepL w [] loc (XH (XH X0 h loc) [] loc) (args.map AV.cn) vs := fun hp => by
    refine ⟨by simpa using hargs.1, fun i h1 h2 => ?_⟩
    have h1' : i < args.length := by simpa using h1
    have hr := (hargs.2 i h1' h2).cn.any (pure_cn (pures_iff.1 hp _ (List.getElem_mem h1'))) [] loc
    simpa using hr.mono (X' := XH (XH X0 h loc) [] loc) (fun b _ hb => XH_nil.1 hb)
  have zero : callM0 C f args h = some (r, h') → CallsTo P f vs.toArray w fun v w' => ∃ loc', Keeps w h loc (XH X0 h loc) w' h' loc' (XH X0 h' loc') ∧ Wrel w0 X0 w' h' loc' ∧ Rep w' h' loc' (XH X0 h' loc') r v := by
    intro hm
    unfold callM0 at hm
    split at hm
    case isFalse => cases hm
    rename_i hp
    simp only [Option.bind_eq_some_iff, Option.map_eq_some_iff, Prod.mk.injEq] at hm
    obtain ⟨⟨r0, h0⟩, hc, v, hv, rfl, rfl⟩ := hm
    refine (hC f _ [] r0 h0 hc w (XH X0 h loc) w loc vs (Wrel.nil w loc hxlt) (hpure hp)).mono ?_
    rintro u w' ⟨loc', K', W', hr'⟩
    obtain ⟨W1, K1⟩ := W.after W'
    obtain ⟨e1, e2⟩ := Rep.frz W' hr' v hv
    exact ⟨loc, K1, W1, (e2 loc).any e1 h loc⟩
  have one : callM1 C f args h = some (r, h') → CallsTo P f vs.toArray w fun v w' => ∃ loc', Keeps w h loc (XH X0 h loc) w' h' loc' (XH X0 h' loc') ∧ Wrel w0 X0 w' h' loc' ∧ Rep w' h' loc' (XH X0 h' loc') r v := by
    intro hm
    unfold callM1 at hm
    split at hm
    case isFalse => cases hm
    rename_i hp
    simp only [Option.map_eq_some_iff, Prod.mk.injEq] at hm
    obtain ⟨⟨r0, h0⟩, hc, rfl, rfl⟩ := hm
    refine (hC f _ [] r0 h0 hc w (XH X0 h loc) w loc vs (Wrel.nil w loc hxlt) (hpure hp)).mono ?_
    rintro u w' ⟨loc', K', W', hr'⟩
    obtain ⟨K1, W1, hx⟩ := W.join W'
    exact ⟨_, K1, W1, (hr'.mono (X' := XH X0 _ _) (fun b _ hb => hx b hb)).shift⟩
  have six : callM6 C f args h = some (r, h') → CallsTo P f vs.toArray w fun v w' => ∃ loc', Keeps w h loc (XH X0 h loc) w' h' loc' (XH X0 h' loc') ∧ Wrel w0 X0 w' h' loc' ∧ Rep w' h' loc' (XH X0 h' loc') r v := by
    intro hm
    simp only [callM6, Option.bind_eq_some_iff] at hm
    obtain ⟨args1, ha, ⟨r0, h0⟩, hc, hm⟩ := hm
    split at hm
    case isFalse => cases hm
    rename_i hg
    simp only [Bool.and_eq_true, List.all_eq_true] at hg
    simp only [Option.some.injEq, Prod.mk.injEq] at hm
    obtain ⟨rfl, rfl⟩ := hm
    obtain ⟨g1, g2⟩ := frzs_get ha
    have hx0 : ∀ b, X0 b → b < w.heap.size := fun b hb => hxlt b (.inl hb)
    refine (hC f _ [] r0 h0 hc w X0 w loc vs (Wrel.nil w loc hx0) ⟨by rw [g1]; exact hargs.1, fun i h1 h2 => ?_⟩).mono ?_
    · have := (Rep.frz W (hargs.2 i (by omega) h2) _ (g2 i (by omega) h1)).2 loc
      exact this.mono (fun b _ hb => XH_nil.1 hb)
    · rintro u w' ⟨loc', K', W', hr'⟩
      have W2 : Wrel w (XH X0 h loc) w' h0 loc' := ⟨W'.below, fun b hb => ⟨Nat.lt_of_lt_of_le (hxlt b hb) W'.below.size, fun ⟨id, k, hk, hl, he⟩ => by have := (W'.heap.blk id k hk hl).le; have := hxlt b hb; omega⟩, ⟨W'.heap.inj, fun id k hk hl => by
        have hb := W'.heap.blk id k hk hl
        obtain ⟨row, e, fr, hr, hfr, hlen, hv⟩ := hb.row
        refine ⟨hb.le, ⟨row, e, fr, hr, hfr, hlen, fun i hi => ?_⟩, hb.s, hb.leaf⟩
        obtain ⟨v, k1, k2⟩ := hv i hi
        exact ⟨v, k1, k2.loose _ (flat_loose (hg.2 k (List.mem_of_getElem? hk)) _ (List.getElem_mem hi))⟩⟩⟩
      obtain ⟨K1, W1, hx⟩ := W.join W2
      exact ⟨_, K1, W1, (hr'.loose _ hg.1).shift⟩
  have nine : callM9 C f args h = some (r, h') → CallsTo P f vs.toArray w fun v w' => ∃ loc', Keeps w h loc (XH X0 h loc) w' h' loc' (XH X0 h' loc') ∧ Wrel w0 X0 w' h' loc' ∧ Rep w' h' loc' (XH X0 h' loc') r v :=
    fun hm => callM9_sound hC hm w0 X0 w loc vs W hargs
  unfold callM at hm
  split at hm
  · exact zero hm
  · exact one hm
  · simp only [Option.bind_eq_some_iff] at hm
    obtain ⟨args1, ha, ⟨r0, h0⟩, hc, hm⟩ := hm
    split at hm
    case isFalse => cases hm
    rename_i hg
    simp only [Option.some.injEq, Prod.mk.injEq] at hm
    obtain ⟨rfl, rfl⟩ := hm
    obtain ⟨g1, g2⟩ := frzs_get ha
    have hx0 : ∀ b, X0 b → b < w.heap.size := fun b hb => hxlt b (.inl hb)
    refine (hC f _ [] r0 h0 hc w X0 w loc vs (Wrel.nil w loc hx0) ⟨by rw [g1]; exact hargs.1, fun i h1 h2 => ?_⟩).mono ?_
    · have := (Rep.frz W (hargs.2 i (by omega) h2) _ (g2 i (by omega) h1)).2 loc
      exact this.mono (fun b _ hb => XH_nil.1 hb)
    · rintro u w' ⟨loc', K', W', hr'⟩
      obtain ⟨W1, K1⟩ := W.after W'
      exact ⟨loc, K1, W1, hr'.ground_any hg _ _ _ _⟩
  · split at hm
    · exact zero hm
    · exact hC f args h r h' hm w0 X0 w loc vs W hargs
  · split at hm
    · exact one hm
    · exact hC f args h r h' hm w0 X0 w loc vs W hargs
  · exact six hm
  · split at hm
    · exact zero hm
    · exact six hm
  · split at hm
    · exact one hm
    · exact six hm
  · exact nine hm
  · exact callM11_sound hC hm w0 X0 w loc vs W hargs
  · simp only [callM12, Option.bind_eq_some_iff] at hm
    obtain ⟨r1, hc, hm⟩ := hm
    split at hm
    case isFalse => cases hm
    simp only [Option.some.injEq] at hm
    subst hm
    exact hC f args h r h' hc w0 X0 w loc vs W hargs
  · exact hC f args h r h' hm w0 X0 w loc vs W hargs
end
end Go.Proofs.Abs

-- ---- Abs18
set_option linter.unusedSimpArgs false
set_option linter.unusedVariables false
namespace Go.Proofs.Abs
open Go.RowKit

/-- Instructions: an operation into a slot, under a guard; 'stf': a store after which the block is written no more; 'draw': a region that draws, in the order 'ord', with room for 'n' blocks; 'apart': what it reads and what it writes are not one; 'mark', 'tidy': what is behind the mark, and in no kept slot, is told no more; 'frz': a slot's blocks are written no more; 'dfr': a call that is put off. -/
inductive PI where
  | op (d : Option Nat) (o : PO)
  | opg (d : Option Nat) (j : Nat) (w : Bool) (o : PO)
  | stf (n d : Nat) (v : PX)
  | draw (n : Nat) (ord : List Nat) (ap : List (Nat × Nat)) (a : List PI)
  | apart (l : List (Nat × Nat))
  | mark (i : Nat)
  | tidy (i : Nat) (keep : List Nat)
  | frz (i : Nat)
  | dfr (x : PX) (args : List PX)
  | cond (c : PX) (a b : List PI)
  | block (id : Nat) (a : List PI)
  | endb (id : Nat)
  | loop (a : List PI)
  | exit (id : Nat)
  | ret
  | bad
  deriving Inhabited

inductive Ex where
  | normal | ret | exit (id : Nat)

/-- Marks, and calls that are put off. -/
structure Mk where
  l : List Nat
  d : List (Nat × List AV)

structure St where
  t : List AV
  h : AHeap
  b : Nat
  m : Mk
  ex : Ex

inductive Res where
  | tmp (i : Nat)
  | cell (n : Option Nat) (i : Nat)

structure PFn where
  code : List PI
  nt : Nat
  res : List Res

structure Sys where
  fn : Nat → Option PFn
  ext : CallO

def put (t : List AV) : Option Nat → AV → List AV
  | some d, v => t.set d v
  | none, _ => t

/-- What a pointer leads to. -/
def ldx (h : AHeap) (n : Option Nat) : AV → Option AV
  | .fp l => ldc n l
  | .ptr id v i o => (rdp h id v i o).bind (ldc n)
  | _ => none

/-- An operation, calls too. -/
def opC (C : CallO) (t : List AV) (h : AHeap) (b : Nat) : PO → OpR
  | .call m f args => callM C m f (args.map (xv t)) h
  | .callv m x args => match xv t x with
    | .fn f a c => callM C m f (a ++ args.map (xv t) ++ c) h
    | _ => none
  | .inv m tbl x args => match xv t x with
    | .ifc ty v => match tbl.find? (fun e => e.1 == ty) with
      | some (_, f, none) => callM C m f (v :: args.map (xv t)) h
      | some (_, f, some n) => (ldx h n v).bind fun v => callM C m f (v :: args.map (xv t)) h
      | none => none
    | _ => none
  | po => opH t h b po

/-- Whether a guarded operation is wanted. -/
def guardV : AV → Bool → Option Bool
  | .bool v, w => some (v == w)
  | .tup [], _ => some false
  | _, _ => none

/-- A store into a block of one element, which is written no more, if what is stored leads to no block. -/
def stfV (n : Nat) (v p : AV) (h : AHeap) : Option (AV × AHeap) :=
  match p with
  | .ptr id ver 0 0 => match h[id]? with
    | some ⟨.live, s, ver', [e]⟩ => if ver' = ver ∧ s = n ∧ v.cells.length = n ∧ v.solid = true then
        some (if v.pure = true then (.fp v.cells, h.set id ⟨.dead, s, ver, []⟩) else (.ptr id ver 0 0, h.set id ⟨.live, s, ver, [setc e 0 v.cells]⟩)) else none
    | _ => none
  | _ => none
def stfF (n d : Nat) (v : AV) (t : List AV) (h : AHeap) : Option (List AV × AHeap) := (stfV n v (t.getD d (.tup [])) h).map fun x => (t.set d x.1, x.2)

def apartB : AV → AV → Bool
  | .ptr i .., .ptr j .. => i != j
  | .own i .., .ptr j .. => i != j
  | .lst .., .ptr .. => true
  | .own i .., .own j .. => i != j
  | .lst .., .lst .. => true
  | _, .fp _ => true
  | _, _ => false

/-- The slots that are kept. -/
def keepT : Nat → List Nat → List AV → List AV
  | _, _, [] => []
  | i, [], _ :: t => .top :: keepT (i + 1) [] t
  | i, k :: ks, v :: t => if k = i then v :: keepT (i + 1) ks t else .top :: keepT (i + 1) (k :: ks) t

def tidyF (i : Nat) (keep : List Nat) (t : List AV) (h : AHeap) (m : List Nat) : Option (List AV × AHeap) :=
  if m.headD 0 ≤ m.getD (i + 1) 0 ∧ m.getD (i + 1) 0 ≤ h.length ∧ unders (m.getD (i + 1) 0) (keepT 0 keep t) = true ∧ (h.take (m.getD (i + 1) 0)).all (fun k => unders (m.getD (i + 1) 0) k.es) = true then
    some (keepT 0 keep t, h.take (m.getD (i + 1) 0)) else none

/-- A block that is written no more. -/
def killB (k : Blk) : Blk := match k with
  | ⟨.live, s, v, _⟩ => ⟨.dead, s, v, []⟩
  | k => k
def kills (h : AHeap) : List Nat → AHeap
  | [] => h
  | i :: l => kills (h.modify i killB) l

def frzF (i : Nat) (t : List AV) (h : AHeap) : Option (List AV × AHeap) :=
  ((t.getD i (.tup [])).frz h).map fun v => (t.set i v, kills h (t.getD i (.tup [])).ids)

def resV (t : List AV) (h : AHeap) : Res → Option AV
  | .tmp i => some (xv t (.t i))
  | .cell n i => ldx h n (xv t (.t i))
def resL (t : List AV) (h : AHeap) : List Res → Option (List AV)
  | [] => some []
  | r :: l => (resV t h r).bind fun v => (resL t h l).map fun m => v :: m
def one : List AV → AV
  | [v] => v
  | l => .tup l

def retF (res : List Res) (st : St) : OpR :=
  match st.ex with
  | .exit _ => none
  | _ => (resL st.t st.h res).map fun l => (one l, st.h)

abbrev RunF := List PI → St → Option St

def enterF (R : RunF) (p : PFn) (args : List AV) (h : AHeap) : Option St := R p.code ⟨args ++ List.replicate (p.nt - args.length) (.tup []), h, 0, ⟨[h.length], []⟩, .normal⟩

/-- A call that was put off, to a function that puts off none. -/
def callD (S : Sys) (R : RunF) (f : Nat) (args : List AV) (h : AHeap) : Option AHeap :=
  match S.fn f with
  | none => none
  | some p => (enterF R p args h).bind fun st => if st.m.d.isEmpty then (retF p.res st).map (·.2) else none
def runD (D : Nat → List AV → AHeap → Option AHeap) : List (Nat × List AV) → AHeap → Option AHeap
  | [], h => some h
  | x :: ds, h => (D x.1 x.2 h).bind fun h => runD D ds h
def codeF (S : Sys) (R : RunF) (p : PFn) (args : List AV) (h : AHeap) : OpR :=
  (enterF R p args h).bind fun st => (runD (callD S R) st.m.d st.h).bind fun h => retF p.res ⟨st.t, h, st.b, st.m, st.ex⟩

def callF (S : Sys) (R : RunF) : CallO := fun f args h =>
  match S.ext f args h with
  | some x => some x
  | none => match S.fn f with
    | none => none
    | some p => codeF S R p args h

def opF (S : Sys) (R : RunF) (r : List PI) (t : List AV) (h : AHeap) (b : Nat) (m : Mk) (d : Option Nat) (o : PO) : Option St :=
  (opC (callF S R) t h b o).bind fun x => R r ⟨put t d x.1, x.2, b, m, .normal⟩

/-- One instruction, then what 'R' does. -/
def stepF (S : Sys) (R : RunF) : RunF
  | [], st => some st
  | i :: r, ⟨t, h, b, m, .ret⟩ => some ⟨t, h, b, m, .ret⟩
  | i :: r, ⟨t, h, b, m, .exit id⟩ => match i with
    | .endb id' => if id' = id then R r ⟨t, h, b, m, .normal⟩ else R r ⟨t, h, b, m, .exit id⟩
    | _ => R r ⟨t, h, b, m, .exit id⟩
  | i :: r, ⟨t, h, b, m, .normal⟩ => match i with
    | .op d o => opF S R r t h b m d o
    | .opg d j w o => (guardV (xv t (.t j)) w).bind fun y => cond y (opF S R r t h b m d o) (R r ⟨put t d (.tup []), h, b, m, .normal⟩)
    | .stf n d v => (stfF n d (xv t v) t h).bind fun x => R r ⟨x.1, x.2, b, m, .normal⟩
    | .draw n _ ap a => R (a ++ .apart ap :: r) ⟨t, h ++ List.replicate n ⟨.hole, 0, 0, []⟩, h.length, m, .normal⟩
    | .apart l => if l.all (fun p => apartB (xv t (.t p.1)) (xv t (.t p.2))) = true then R r ⟨t, h, b, m, .normal⟩ else none
    | .mark i => R r ⟨t, h, b, ⟨m.l.take (i + 1) ++ [h.length], m.d⟩, .normal⟩
    | .tidy i keep => if m.d.isEmpty then (tidyF i keep t h m.l).bind fun x => R r ⟨x.1, x.2, b, m, .normal⟩ else none
    | .frz i => (frzF i t h).bind fun x => R r ⟨x.1, x.2, b, m, .normal⟩
    | .dfr x args => match xv t x with
      | .fn f a c => R r ⟨t, h, b, ⟨m.l, (f, a ++ args.map (xv t) ++ c) :: m.d⟩, .normal⟩
      | _ => none
    | .cond c a e => match xv t c with
      | .bool v => R (cond v a e ++ r) ⟨t, h, b, m, .normal⟩
      | _ => none
    | .block id a => R (a ++ .endb id :: r) ⟨t, h, b, m, .normal⟩
    | .endb _ => R r ⟨t, h, b, m, .normal⟩
    | .loop a => R (a ++ .loop a :: r) ⟨t, h, b, m, .normal⟩
    | .exit id => R r ⟨t, h, b, m, .exit id⟩
    | .ret => some ⟨t, h, b, m, .ret⟩
    | .bad => none

def run (S : Sys) : Nat → RunF
  | 0 => fun _ _ => none
  | n + 1 => stepF S (run S n)

end Go.Proofs.Abs

-- ---- Abs19
set_option linter.unusedSimpArgs false
set_option linter.unusedVariables false
namespace Go.Proofs.Abs
open Go.RowKit
section
variable {P : Program} {w0 : World} {X0 : Nat → Prop} {w : World} {h : AHeap} {loc : Nat → Nat}

theorem killB_live {k : Blk} (hl : k.st = .live) : killB k = ⟨.dead, k.s, k.ver, []⟩ := by
  obtain ⟨st, s, v, es⟩ := k
  simp only at hl
  subst hl
  rfl
theorem killB_not {k : Blk} (hl : k.st ≠ .live) : killB k = k := by
  obtain ⟨st, s, v, es⟩ := k
  cases st <;> first | rfl | exact absurd rfl hl

theorem Wrel.killB (W : Wrel w0 X0 w h loc) (id : Nat) :
    Keeps w h loc (XH X0 h loc) w (h.modify id killB) loc (XH X0 (h.modify id killB) loc) ∧ Wrel w0 X0 w (h.modify id killB) loc := by
  by_cases hx : ∃ k, h[id]? = some k ∧ k.st = .live
  · obtain ⟨k, hid, hl⟩ := hx
    have hlt := (List.getElem?_eq_some_iff.1 hid).1
    have hm : (h.modify id Abs.killB)[id]? = some ⟨.dead, k.s, k.ver, []⟩ := by simp [hid, killB_live hl]
    have c : Chg w0.heap.size w h loc w (h.modify id Abs.killB) loc id ⟨.dead, k.s, k.ver, []⟩ :=
      { size := Nat.le_refl _
        blk := fun _ _ _ => rfl
        oth := fun j hj => by rw [List.getElem?_modify]; simp [Ne.symm hj]
        at1 := hm
        pl := fun _ _ => rfl
        old := .inr ⟨_, hid, hl, rfl, by simp, Nat.le_refl _, fun hd => by simp at hd⟩
        new := fun hd => by simp at hd }
    exact ⟨c.keeps W.heap, ⟨W.below, W.x1 (c.keeps W.heap), c.heap W.heap (fun hd => by simp at hd)⟩⟩
  · have : h.modify id Abs.killB = h := by
      apply List.ext_getElem?
      intro j
      rw [List.getElem?_modify]
      split
      · rename_i he
        subst he
        cases hk : h[id]? with
        | none => rfl
        | some k => simp [killB_not (fun hl => hx ⟨k, hk, hl⟩)]
      · simp
    rw [this]
    exact ⟨Keeps.refl .., W⟩

theorem XH.sub {X0 : Nat → Prop} {h h1 : AHeap} {loc : Nat → Nat} (hh : ∀ (j : Nat) (k1 : Blk), h1[j]? = some k1 → k1.st = .live → ∃ k, h[j]? = some k ∧ k.st = .live) {b : Nat} (hx : XH X0 h1 loc b) : XH X0 h loc b := by
  rcases hx with hx | ⟨j, k, hk, hl, he⟩
  · exact .inl hx
  · obtain ⟨k', h1, h2⟩ := hh j k hk hl
    exact .inr ⟨j, k', h1, h2, he⟩

theorem killB_sub {id j : Nat} {k1 : Blk} (hk : (h.modify id killB)[j]? = some k1) (hl : k1.st = .live) : h[j]? = some k1 ∧ j ≠ id := by
  rw [List.getElem?_modify] at hk
  split at hk
  · rename_i he
    subst he
    cases h0 : h[id]? with
    | none => simp [h0] at hk
    | some k =>
      simp [h0] at hk
      subst hk
      by_cases hk : k.st = .live
      · rw [killB_live hk] at hl; simp at hl
      · rw [killB_not hk] at hl; exact absurd hl hk
  · rename_i he
    exact ⟨by simpa using hk, fun e => he e.symm⟩

theorem kills_sub : ∀ {l : List Nat} {h : AHeap} {j : Nat} {k1 : Blk}, (kills h l)[j]? = some k1 → k1.st = .live → h[j]? = some k1 ∧ j ∉ l
  | [], h, j, k1, hk, hl => ⟨hk, by simp⟩
  | i :: l, h, j, k1, hk, hl => by
    obtain ⟨h1, h2⟩ := kills_sub (l := l) hk hl
    obtain ⟨h3, h4⟩ := killB_sub h1 hl
    exact ⟨h3, by simp [h2, h4]⟩

theorem Wrel.kills : ∀ (l : List Nat) {h : AHeap} (W : Wrel w0 X0 w h loc),
    Keeps w h loc (XH X0 h loc) w (kills h l) loc (XH X0 (kills h l) loc) ∧ Wrel w0 X0 w (kills h l) loc
  | [], h, W => ⟨Keeps.refl .., W⟩
  | i :: l, h, W => by
    obtain ⟨K1, W1⟩ := W.killB i
    obtain ⟨K2, W2⟩ := Wrel.kills l W1
    exact ⟨K1.trans K2 (fun b hb hx => K1.X' b hb hx), W2⟩

/-- A slot frozen in its place. -/
theorem frz_ok {i : Nat} {t t1 : List AV} {h1 : AHeap} {s : Array Value} (W : Wrel w0 X0 w h loc) (S : Slots w h loc (XH X0 h loc) t s) (hf : frzF i t h = some (t1, h1)) :
    Keeps w h loc (XH X0 h loc) w h1 loc (XH X0 h1 loc) ∧ Wrel w0 X0 w h1 loc ∧ Slots w h1 loc (XH X0 h1 loc) t1 s := by
  simp only [frzF, Option.map_eq_some_iff, Prod.mk.injEq] at hf
  obtain ⟨v, hv, rfl, rfl⟩ := hf
  obtain ⟨K, W1⟩ := W.kills (t.getD i (.tup [])).ids
  refine ⟨K, W1, ?_⟩
  have S1 := S.keep K
  by_cases hi : i < t.length
  · have hi2 : i < s.size := by rw [S.size]; exact hi
    have hr := S.rep i hi hi2
    have hg : t.getD i (.tup []) = t[i] := by simp [hi]
    rw [hg] at hv ⊢
    obtain ⟨e1, e2⟩ := Rep.frzX W (X1 := XH X0 (kills h t[i].ids) loc) (fun b _ hx => hx.sub (fun j k1 hk hl => ⟨k1, (kills_sub hk hl).1, hl⟩)) hr v hv
    have h3 := e2 (fun id hid hx => by
      obtain ⟨k, hk, hl⟩ := frz_live _ _ hv id hid
      rcases hx with hx | ⟨j, k1, hk1, hl1, he⟩
      · exact (W.x0 _ hx).2 ⟨id, k, hk, hl, rfl⟩
      · obtain ⟨h5, h6⟩ := kills_sub hk1 hl1
        have := W.heap.inj _ _ _ _ h5 hk hl1 hl he
        exact h6 (this ▸ hid)) (kills h t[i].ids) loc
    rw [hg] at S1
    refine ⟨by simpa using S.size, fun j h1 h2 => ?_⟩
    simp only [List.length_set] at h1
    by_cases hj : i = j
    · subst hj; simpa using h3
    · rw [List.getElem_set_ne hj]
      exact S1.rep j h1 h2
  · have : t.set i v = t := List.set_eq_of_length_le (by omega)
    rw [this]
    exact S1

theorem solid_leaf {x : AV} (hs : x.solid = true) : ∀ y ∈ x.cells, y.leaf = true := by
  cases x <;> simp_all [AV.cells, AV.leaf, AV.solid]

theorem pure_of_cells {x : AV} (hp : ∀ y ∈ x.cells, y.pure = true) : x.pure = true := by
  cases x <;> first
    | exact hp _ (List.mem_singleton.2 rfl)
    | (simp only [AV.pure]; rw [pures_iff]; exact hp)

theorem setc_leaf {e : AV} {off : Nat} {vs : List AV} (he : ∀ l, e ≠ .agg l) : setc e off vs = vs.headD e ∧ e.cells = [e] := by
  cases e <;> first | exact ⟨rfl, rfl⟩ | exact absurd rfl (he _)

/-- A store into a fresh block of one element, which dies. -/
theorem stf_ok {n d ty : Nat} {va : AV} {t t1 : List AV} {h1 : AHeap} {a : Act} {o : Oper} {v' : Operand} {i : TypeInfo} (W : Wrel w0 X0 w h loc) (S : Slots w h loc (XH X0 h loc) t a.tmps)
    (ho : o.op = .store ty (.tmp d) v') (hv : Rep w h loc (XH X0 h loc) va (a.eval v')) (hi : P.info? ty = some i) (hsz : i.size = n) (hf : stfF n d va t h = some (t1, h1)) :
    ∃ w1, (execOp a.eval o).run P w = .ok .skip w1 ∧ Keeps w h loc (XH X0 h loc) w1 h1 loc (XH X0 h1 loc) ∧ Wrel w0 X0 w1 h1 loc ∧ Slots w1 h1 loc (XH X0 h1 loc) t1 a.tmps := by
  simp only [stfF, Option.map_eq_some_iff, Prod.mk.injEq] at hf
  obtain ⟨⟨va1, h2⟩, hf, rfl, rfl⟩ := hf
  unfold stfV at hf
  split at hf
  case h_2 => cases hf
  rename_i id ver hp
  split at hf
  case h_2 => cases hf
  rename_i s ver' e hid
  split at hf
  case isFalse => cases hf
  rename_i hc
  obtain ⟨rfl, rfl, h3, h4⟩ := hc
  simp only [Option.some.injEq] at hf
  have hd : d < t.length := by
    rcases Nat.lt_or_ge d t.length with h | h
    · exact h
    · rw [List.getD_eq_getElem?_getD, List.getElem?_eq_none h] at hp; cases hp
  have hat : BlkAt _ _ _ _ _ (loc id) s [e] := W.heap.blk id _ hid rfl
  have hes : e.cells.length = s := hat.s e (by simp)
  have hsc : (setc e 0 va.cells).cells = va.cells := by
    have hl : va.cells.length = e.cells.length := by omega
    have hlv := solid_leaf h4
    by_cases hag : ∃ l, e = .agg l
    · obtain ⟨l, rfl⟩ := hag
      simp only [AV.cells] at hl
      simp only [setc, List.take_zero, List.nil_append, Nat.zero_add, AV.cells]
      rw [List.drop_eq_nil_of_le (by omega), List.append_nil]
    · obtain ⟨g1, g2⟩ := setc_leaf (off := 0) (vs := va.cells) (fun l he => hag ⟨l, he⟩)
      rw [g2] at hl
      obtain ⟨y, hy⟩ := List.length_eq_one_iff.1 (by simpa using hl)
      rw [g1, hy, List.headD_cons]
      have := hlv y (by simp [hy])
      cases y <;> first | rfl | (simp [AV.leaf] at this)
  have hw : wrp h id ver' 0 0 va.cells = some (h.set id ⟨.live, s, ver', [setc e 0 va.cells]⟩) := by
    unfold wrp
    rw [hid]
    simp [h3, hes]
  have hx : a.eval (.tmp d) = a.tmps.getD d undef := rfl
  have hd2 : d < a.tmps.size := by rw [S.size]; exact hd
  have hg : t[d] = .ptr id ver' 0 0 := by simpa [hd] using hp
  have hrx : Rep w h loc (XH X0 h loc) (.ptr id ver' 0 0) (a.eval (.tmp d)) := by
    have := S.rep d hd hd2
    rw [hg] at this
    simpa [hx, hd2] using this
  obtain ⟨w1, hr, K, W1⟩ := run_st W ho hrx hv hi hsz h3 h4 hw
  by_cases h5 : va.pure = true
  case neg =>
    rw [if_neg h5] at hf
    simp only [Prod.mk.injEq] at hf
    obtain ⟨rfl, rfl⟩ := hf
    have hts : t.set d (.ptr id ver' 0 0) = t := by rw [← hg, List.set_getElem_self]
    rw [hts]
    exact ⟨w1, hr, K, W1, S.keep K⟩
  rw [if_pos h5] at hf
  simp only [Prod.mk.injEq] at hf
  obtain ⟨rfl, rfl⟩ := hf
  have hlt := (List.getElem?_eq_some_iff.1 hid).1
  obtain ⟨K2, W2⟩ := W1.killB id
  have hh : (h.set id ⟨.live, s, ver', [setc e 0 va.cells]⟩).modify id Abs.killB = h.set id ⟨.dead, s, ver', []⟩ := by
    apply List.ext_getElem?
    intro j
    rw [List.getElem?_modify]
    by_cases hj : id = j
    · subst hj
      simp [hlt, Abs.killB]
    · simp [hj, List.getElem?_set_ne]
  rw [hh] at K2 W2
  refine ⟨w1, hr, K.trans K2 (fun b hb hx => K.X' b hb hx), W2, ?_⟩
  have S2 := (S.keep K).keep K2
  refine ⟨by simpa using S.size, fun j g1 g2 => ?_⟩
  simp only [List.length_set] at g1
  by_cases hj : d = j
  · subst hj
    simp only [List.getElem_set_self]
    have hr1 := (S.keep K).rep d hd hd2
    rw [hg] at hr1
    have hid1 : (h.set id ⟨.live, s, ver', [setc e 0 va.cells]⟩)[id]? = some ⟨.live, s, ver', [setc e 0 va.cells]⟩ := by simp [hlt]
    have hpu : (setc e 0 va.cells).pure = true := pure_of_cells (by rw [hsc]; exact pure_cells h5)
    have hfz : (AV.ptr id ver' 0 0).frz (h.set id ⟨.live, s, ver', [setc e 0 va.cells]⟩) = some (.fp va.cells) := by
      simp only [AV.frz, hid1]
      simp [hpu, hsc]
    obtain ⟨e1, e2⟩ := Rep.frzX W1 (X1 := XH X0 (h.set id ⟨.dead, s, ver', []⟩) loc) (fun b _ hx => by
      rw [← hh] at hx
      exact hx.sub (fun j k1 hk hl => ⟨k1, (killB_sub hk hl).1, hl⟩)) hr1 _ hfz
    refine e2 (fun j hj hx => ?_) _ _
    simp only [AV.ids, List.mem_singleton] at hj
    subst hj
    rcases hx with hx | ⟨j2, k1, hk1, hl1, he⟩
    · exact (W.x0 _ hx).2 ⟨_, _, hid, rfl, rfl⟩
    · by_cases hj2 : j2 = j
      · subst hj2
        rw [List.getElem?_set_self hlt] at hk1
        simp at hk1
        subst hk1
        simp at hl1
      · rw [List.getElem?_set_ne (Ne.symm hj2)] at hk1
        exact hj2 (W.heap.inj _ _ _ _ hk1 hid hl1 rfl he)
  · rw [List.getElem_set_ne hj]
    exact S2.rep j g1 g2

theorem unders_iff {b : Nat} : ∀ {l : List AV}, unders b l = true ↔ ∀ x ∈ l, x.under b = true
  | [] => by simp [unders]
  | x :: l => by simp [unders, unders_iff (l := l)]

/-- What leads only to the front of a heap, in that front. -/
theorem Rep.trim {X : Nat → Prop} {b : Nat} {a : AV} {v : Value} (hr : Rep w h loc X a v) (hu : a.under b = true) : Rep w (h.take b) loc X a v := by
  have get : ∀ id, id < b → (h.take b)[id]? = h[id]? := fun id hi => by rw [List.getElem?_take]; simp [hi]
  have hg : ∀ id n, good (h.take b) id n → good h id n := by
    rintro id n ⟨k, hk, h1⟩
    rw [List.getElem?_take] at hk
    split at hk
    · exact ⟨k, hk, h1⟩
    · cases hk
  have hbg : ∀ id n, id < b → begun h id n → begun (h.take b) id n := fun id n hi ⟨k, hk, h1⟩ => ⟨k, by rw [get id hi]; exact hk, h1⟩
  have hsz : ∀ id, id < b → sizeAt (h.take b) id = sizeAt h id := fun id hi => by unfold sizeAt; rw [get id hi]
  have hln : ∀ id, id < b → lenAt (h.take b) id = lenAt h id := fun id hi => by unfold lenAt; rw [get id hi]
  induction hr with
  | int k n => exact .int k n
  | bool b => exact .bool b
  | str l => exact .str l
  | nilp => exact .nilp
  | niface => exact .niface
  | nfun => exact .nfun
  | agg l c hl _ ih =>
    simp only [AV.under] at hu
    rw [unders_iff] at hu
    exact .agg l c hl (fun i h1 h2 => ih i h1 h2 (hu _ (List.getElem_mem h1)))
  | tup l c hl _ ih =>
    simp only [AV.under] at hu
    rw [unders_iff] at hu
    exact .tup l c hl (fun i h1 h2 => ih i h1 h2 (hu _ (List.getElem_mem h1)))
  | fn f x y c d ha hb _ _ iha ihb =>
    simp only [AV.under, Bool.and_eq_true] at hu
    rw [unders_iff, unders_iff] at hu
    exact .fn f x y c d ha hb (fun i h1 h2 => iha i h1 h2 (hu.1 _ (List.getElem_mem h1))) (fun i h1 h2 => ihb i h1 h2 (hu.2 _ (List.getElem_mem h1)))
  | ifc t v x _ ih => exact .ifc t v x (ih (by simpa [AV.under] using hu))
  | lst0 full a cap hc => exact .lst0 full a cap hc
  | lst full l hne s bk o cap val hc hcap hX hb hs hlf hp hcell hr _ =>
    have h1 : Rep w h loc X (.lst full l) (.slice (some ⟨bk, o, none⟩) l.length cap) := .lst full l hne s bk o cap val hc hcap hX hb hs hlf hp hcell hr
    exact h1.any rfl _ _
  | own id n off len a cap hb hcap hgd =>
    simp only [AV.under, decide_eq_true_eq] at hu
    refine .own id n off len a cap (hbg id n hu hb) hcap fun g => ?_
    rw [hsz id hu, hln id hu]
    exact hgd (hg id n g)
  | ptr id n idx off a hb hgd =>
    simp only [AV.under, decide_eq_true_eq] at hu
    refine .ptr id n idx off a (hbg id n hu hb) fun g => ?_
    rw [hsz id hu]
    exact hgd (hg id n g)
  | fp l bk o val hX hb hlf hp hcell hr _ =>
    have h1 : Rep w h loc X (.fp l) (.pointer (some ⟨bk, o, none⟩)) := .fp l bk o val hX hb hlf hp hcell hr
    exact h1.any rfl _ _
  | top v => exact .top v

theorem keepT_get : ∀ (t : List AV) (i : Nat) (ks : List Nat), (keepT i ks t).length = t.length ∧ ∀ j (h1 : j < t.length) (h2 : j < (keepT i ks t).length), (keepT i ks t)[j] = t[j] ∨ (keepT i ks t)[j] = .top
  | [], i, ks => ⟨by simp [keepT], fun j h1 => by simp at h1⟩
  | v :: t, i, [] => by
    obtain ⟨e1, e2⟩ := keepT_get t (i + 1) []
    refine ⟨by simp [keepT, e1], fun j h1 h2 => ?_⟩
    cases j with
    | zero => simp [keepT]
    | succ j => simpa [keepT] using e2 j (by simpa using h1) (by simpa [keepT] using h2)
  | v :: t, i, k :: ks => by
    simp only [keepT]
    split
    · obtain ⟨e1, e2⟩ := keepT_get t (i + 1) ks
      refine ⟨by simp [e1], fun j h1 h2 => ?_⟩
      cases j with
      | zero => simp
      | succ j => simpa using e2 j (by simpa using h1) (by simpa using h2)
    · obtain ⟨e1, e2⟩ := keepT_get t (i + 1) (k :: ks)
      refine ⟨by simp [e1], fun j h1 h2 => ?_⟩
      cases j with
      | zero => simp
      | succ j => simpa using e2 j (by simpa using h1) (by simpa using h2)

theorem flat_under {b : Nat} {es : List AV} (hu : unders b es = true) : ∀ x ∈ flat es, x.under b = true := by
  rw [unders_iff] at hu
  intro x hx
  simp only [flat, List.mem_flatMap] at hx
  obtain ⟨y, hy, hx⟩ := hx
  have := hu y hy
  cases y <;> first
    | (simp only [AV.cells, List.mem_singleton] at hx; subst hx; exact this)
    | (simp only [AV.cells] at hx; simp only [AV.under] at this; rw [unders_iff] at this; exact this x hx)

/-- A heap cut behind a mark. -/
theorem tidy_ok {i : Nat} {keep m : List Nat} {t t1 : List AV} {h1 : AHeap} {s : Array Value} {wI : World} {hI : AHeap} {locI : Nat → Nat} {XI : Nat → Prop} (W : Wrel w0 X0 w h loc) (S : Slots w h loc (XH X0 h loc) t s)
    (KI : Keeps wI hI locI XI w h loc (XH X0 h loc)) (hm : m.headD 0 = hI.length) (hf : tidyF i keep t h m = some (t1, h1)) :
    Keeps wI hI locI XI w h1 loc (XH X0 h1 loc) ∧ Wrel w0 X0 w h1 loc ∧ Slots w h1 loc (XH X0 h1 loc) t1 s := by
  unfold tidyF at hf
  split at hf
  case isFalse => cases hf
  rename_i hc
  obtain ⟨c1, c2, c3, c4⟩ := hc
  simp only [Option.some.injEq, Prod.mk.injEq] at hf
  obtain ⟨rfl, rfl⟩ := hf
  generalize m.getD (i + 1) 0 = b at *
  rw [hm] at c1
  have sub : ∀ (j : Nat) (k1 : Blk), (h.take b)[j]? = some k1 → h[j]? = some k1 ∧ j < b := fun j k1 hk => by
    rw [List.getElem?_take] at hk
    split at hk
    · rename_i hj; exact ⟨hk, hj⟩
    · cases hk
  have hx : ∀ p, XH X0 (h.take b) loc p → XH X0 h loc p := fun p hp => hp.sub (fun j k1 hk hl => ⟨k1, (sub j k1 hk).1, hl⟩)
  have hlt : ∀ id n, begun hI id n → id < b := fun id n ⟨k, hk, _⟩ => by
    have := (List.getElem?_eq_some_iff.1 hk).1
    omega
  have get : ∀ id, id < b → (h.take b)[id]? = h[id]? := fun id hi => by rw [List.getElem?_take]; simp [hi]
  refine ⟨⟨KI.size, KI.blk, KI.old, fun p hp ⟨j, k1, hk, hl, e⟩ => KI.liv p hp ⟨j, k1, (sub j k1 hk).1, hl, e⟩, fun p hp hxp => KI.X' p hp (hx p hxp), fun id n hb => ?_, fun id n hb => ?_, fun id n hb hg => ?_, fun id n hb hg => ?_, fun id n e z hb hg hs => ?_⟩, ⟨W.below, fun b hb => ⟨(W.x0 b hb).1, fun ⟨j, k1, hk, hl, e⟩ => (W.x0 b hb).2 ⟨j, k1, (sub j k1 hk).1, hl, e⟩⟩, ?_, ?_⟩, ?_⟩
  · obtain ⟨k, hk, h1⟩ := KI.begun id n hb
    exact ⟨k, by rw [get id (hlt id n hb)]; exact hk, h1⟩
  · rw [← KI.sz id n hb]; unfold sizeAt; rw [get id (hlt id n hb)]
  · obtain ⟨k, hk, h1⟩ := hg
    rw [← KI.len id n hb ⟨k, (sub _ _ hk).1, h1⟩]; unfold lenAt; rw [get id (hlt id n hb)]
  · obtain ⟨k, hk, h1⟩ := hg
    exact KI.good id n hb ⟨k, (sub _ _ hk).1, h1⟩
  · obtain ⟨k, hk, h1⟩ := hg
    exact KI.shape id n e z hb ⟨k, (sub _ _ hk).1, h1⟩ hs
  · intro x y k1 k2 h1 h2 l1 l2 he
    exact W.heap.inj x y k1 k2 (sub _ _ h1).1 (sub _ _ h2).1 l1 l2 he
  · intro id k hk hl
    have hb := W.heap.blk id k (sub _ _ hk).1 hl
    obtain ⟨row, e, fr, hr, hfr, hlen, hv⟩ := hb.row
    have hu : unders b k.es = true := by
      have := List.all_eq_true.1 c4 k (List.mem_of_getElem? hk)
      exact this
    refine ⟨hb.le, ⟨row, e, fr, hr, hfr, hlen, fun j hj => ?_⟩, hb.s, hb.leaf⟩
    obtain ⟨v, g1, g2⟩ := hv j hj
    exact ⟨v, g1, (g2.trim (flat_under hu _ (List.getElem_mem hj))).mono (fun p _ hp => hx p hp)⟩
  · obtain ⟨e1, e2⟩ := keepT_get t 0 keep
    rw [unders_iff] at c3
    refine ⟨by rw [e1]; exact S.size, fun j g1 g2 => ?_⟩
    rcases e2 j (by omega) g1 with he | he
    · have hu := c3 _ (List.getElem_mem g1)
      rw [he] at hu ⊢
      exact ((S.rep j (by omega) g2).trim hu).mono (fun p _ hp => hx p hp)
    · rw [he]; exact .top _
end
end Go.Proofs.Abs

-- ---- Abs20
set_option linter.unusedSimpArgs false
set_option linter.unusedVariables false
namespace Go.Proofs.Abs
open Go.RowKit

/-- A row of a table of methods: a type's method, and whether its receiver is what the pointer leads to. -/
def chkTbl (P : Program) (name : String) (ty f : Nat) (n : Option (Option Nat)) : Bool := match P.info? ty with
  | some i => (match i.methods.find? (·.name == name) with
    | some m => m.path.toList.isEmpty && (match m.func, P.underlying ty, n with
      | some (f', true), some (.pointer _), none => f' == f
      | some (f', false), some (.pointer e), some n => f' == f && chkLd P e n
      | _, _, _ => false)
    | none => false)
  | none => false

/-- That the abstract operation is the program's: calls too. -/
def chkC (P : Program) (o : Op) : PO → Bool
  | .call _ f args => (match o with
    | .call ⟨.value (.func f'), args', _⟩ => f' == f && chkXs args'.toList args
    | _ => false)
  | .callv _ x args => (match o with
    | .call ⟨.value x', args', _⟩ => chkX x' x && chkXs args'.toList args
    | _ => false)
  | .inv _ tbl x args => (match o with
    | .call ⟨.invoke x' name, args', _⟩ => chkX x' x && chkXs args'.toList args && tbl.all (fun e => chkTbl P name e.1 e.2.1 e.2.2)
    | _ => false)
  | po => chkH P o po

/-- That an instruction is an operation of a region. -/
def chkI (P : Program) (ops : Array Oper) (o : Oper) : PI → Bool
  | .op d po => decide (o.dst = d) && o.guard.isNone && chkC P o.op po
  | .opg d j w po => decide (o.dst = d) && (match o.guard with | some (g, w') => decide ((ops[g]?).bind (·.dst) = some j) && w == w' | none => false) && chkC P o.op po
  | .stf n d v => o.dst.isNone && o.guard.isNone && (match o.op with
    | .store ty (.tmp d') v' => d' == d && chkX v' v && (match P.info? ty with | some i => i.size == n | none => false)
    | _ => false)
  | _ => false

/-- An operation's instruction. -/
def stepI (C : CallO) (b : Nat) (t : List AV) (h : AHeap) : PI → Option (List AV × AHeap)
  | .op d po => (opC C t h b po).map fun x => (put t d x.1, x.2)
  | .opg d j w po => (guardV (xv t (.t j)) w).bind fun y => cond y ((opC C t h b po).map fun x => (put t d x.1, x.2)) (some (put t d (.tup []), h))
  | .stf n d v => stfF n d (xv t v) t h
  | _ => none

theorem run_stepI {P : Program} {ops : Array Oper} {o : Oper} {S : Sys} {n : Nat} {i : PI} {r : List PI} {t : List AV} {h : AHeap} {b : Nat} {m : Mk} (hc : chkI P ops o i = true) :
    run S (n + 1) (i :: r) ⟨t, h, b, m, .normal⟩ = (stepI (callF S (run S n)) b t h i).bind fun x => run S n r ⟨x.1, x.2, b, m, .normal⟩ := by
  cases i <;> try (simp [chkI] at hc; done)
  case op d po =>
    simp only [run, stepF, opF, stepI, Option.bind_map]
    rfl
  case opg d j w po =>
    simp only [run, stepF, opF, stepI]
    cases guardV (xv t (.t j)) w with
    | none => rfl
    | some y => cases y <;> simp [Option.bind_map, Function.comp_def]
  case stf n d v => rfl

theorem RepL.keep {w h loc X w' h' loc' X'} (k : Keeps w h loc X w' h' loc' X') {l : List AV} {vs : List Value} (H : RepL w h loc X l vs) : RepL w' h' loc' X' l vs :=
  ⟨H.1, fun i h1 h2 => (H.2 i h1 h2).keep k⟩

/-- Calls that were put off. -/
def DRep (w : World) (h : AHeap) (loc : Nat → Nat) (X : Nat → Prop) : List (Nat × List AV) → List Deferred → Prop
  | [], [] => True
  | x :: d, y :: ds => (∃ cap, y.target = .fn (.func x.1) cap ∧ RepL w h loc X x.2 (y.args ++ cap).toList) ∧ DRep w h loc X d ds
  | _, _ => False

theorem DRep.keep {w h loc X w' h' loc' X'} (k : Keeps w h loc X w' h' loc' X') : ∀ {d : List (Nat × List AV)} {ds : List Deferred}, DRep w h loc X d ds → DRep w' h' loc' X' d ds
  | [], [], _ => trivial
  | _ :: _, _ :: _, ⟨⟨cap, h1, h2⟩, h3⟩ => ⟨⟨cap, h1, h2.keep k⟩, DRep.keep k h3⟩
  | [], _ :: _, H => H.elim
  | _ :: _, [], H => H.elim

theorem DRep.nil {w h loc X} {ds : List Deferred} (H : DRep w h loc X [] ds) : ds = [] := by
  cases ds with
  | nil => rfl
  | cons _ _ => exact H.elim

/-- How a state of the abstract code lies in the machine's, behind a beginning 'wI', 'hI', 'locI'. -/
structure SR (w0 : World) (X0 : Nat → Prop) (wI : World) (hI : AHeap) (locI : Nat → Nat) (d : List (Nat × List AV)) (t : List AV) (h : AHeap) (a : Act) (w : World) : Prop where
  ex : ∃ loc, Keeps wI hI locI (XH X0 hI locI) w h loc (XH X0 h loc) ∧ Wrel w0 X0 w h loc ∧ Slots w h loc (XH X0 h loc) t a.tmps ∧ DRep w h loc (XH X0 h loc) d a.defers

section
variable {P : Program} {w0 : World} {X0 : Nat → Prop} {w : World} {h : AHeap} {loc : Nat → Nat} {a : Act} {t : List AV} {o : Oper} {b : Nat}

theorem opH_upon {v : AV} {h1 : AHeap} (H : OpOK ((execOp a.eval o).run P w) w0 X0 w h loc v h1) {K : Act → World → Prop} {Q : Exit → Act → World → Prop}
    (hK : ∀ x w1 loc1, Keeps w h loc (XH X0 h loc) w1 h1 loc1 (XH X0 h1 loc1) → Wrel w0 X0 w1 h1 loc1 → Rep w1 h1 loc1 (XH X0 h1 loc1) v x → K (a.put o.dst x) w1) : o.wp P a w K Q := by
  obtain ⟨n, x, w1, loc1, hr, hn, K1, W1, R1⟩ := H
  unfold Oper.wp
  rw [hr]
  rcases hn with rfl | ⟨rfl, rfl⟩
  · exact hK x w1 loc1 K1 W1 R1
  · exact hK undef w1 loc1 K1 W1 R1

theorem run_ldx {pv v : AV} {u : Value} {ty : TypeId} {n : Option Nat} (W : Wrel w0 X0 w h loc) (hc : Rep w h loc (XH X0 h loc) pv u) (hk : chkLd P ty n = true) (hv : ldx h n pv = some v) :
    ∃ ad x, u = .pointer (some ad) ∧ (loadVar ty ad).run P w = .ok x w ∧ Rep w h loc (XH X0 h loc) v x := by
  obtain ⟨d, hu, hn, hn'⟩ := chkLd_ok hk
  have fin : ∀ {ad : Addr} {x : Value}, (Instr.loadAt ty (.pointer (some ad))).run P w = .ok x w → (loadVar ty ad).run P w = .ok x w := by
    intro ad x h1
    simpa [Instr.loadAt, Instr.sureAddr] using h1
  unfold ldx at hv
  split at hv
  · cases hc with
    | fp l bk o0 val hX hb hlf hpu hcell hr =>
      obtain ⟨z, h1, h2⟩ := ok_ld_at (P := P) hu hn hn' hv val hcell hr
      exact ⟨_, z, rfl, fin h1, h2⟩
  · rename_i id ver idx p
    simp only [Option.bind_eq_some_iff] at hv
    obtain ⟨l, hl, hy⟩ := hv
    have hc0 := hc
    cases hc with
    | ptr _ _ _ _ ad hb hg =>
      unfold rdp at hl
      split at hl <;> simp at hl
      rename_i s v' es hid
      obtain ⟨rfl, e, he, rfl⟩ := hl
      have hgood : good h id v' := ⟨_, hid, rfl, rfl⟩
      have hat : BlkAt _ _ _ _ _ (loc id) s es := W.heap.blk id _ hid rfl
      obtain ⟨row, et, fr, hrow, hfr, hlen, hval⟩ := hat.row
      obtain ⟨hi, rfl⟩ := List.getElem?_eq_some_iff.1 he
      have hs : es[idx].cells.length = s := hat.s _ (List.getElem_mem hi)
      have hsz : sizeAt h id = s := by simp [sizeAt, hid]
      have hcellv : ∀ k (hk : k < (es[idx].cells.drop p).length), w.cell? ⟨loc id, idx * s + p + k, none⟩ = some (row.getD (idx * s + p + k) undef) ∧
          Rep w h loc (XH X0 h loc) (es[idx].cells.drop p)[k] (row.getD (idx * s + p + k) undef) := by
        intro k hk
        have hk' := hk
        simp at hk'
        have hlt : idx * s + (p + k) < (flat es).length := by
          rw [flat_length hat.s]
          have : (idx + 1) * s ≤ es.length * s := Nat.mul_le_mul_right _ hi
          rw [Nat.add_mul] at this
          omega
        obtain ⟨u, hu1, hu2⟩ := hval _ hlt
        have hfg := flat_get hat.s hi (j := p + k) (by omega)
        rw [List.getElem?_eq_getElem hlt] at hfg
        have he2 : (es[idx].cells.drop p)[k] = (flat es)[idx * s + (p + k)] := by
          have h3 : (es[idx].cells.drop p)[k]? = some (flat es)[idx * s + (p + k)] := by rw [List.getElem?_drop, ← hfg]
          rw [List.getElem?_eq_getElem hk] at h3
          exact Option.some.inj h3
        have hg1 : row.getD (idx * s + p + k) undef = u := by
          rw [Array.getD_eq_getD_getElem?, Nat.add_assoc, hu1]; rfl
        rw [he2, hg1]
        refine ⟨?_, hu2⟩
        rw [Nat.add_assoc]
        simp [World.cell?, hrow, hu1]
      obtain ⟨z, h1, h2⟩ := ok_ld_at (P := P) (w := w) (h := h) (loc := loc) (X := XH X0 h loc) (bk := loc id) (o0 := idx * s + p) hu hn hn' hy
        (fun k => row.getD (idx * s + p + k) undef) (fun k hk => (hcellv k hk).1) (fun k hk => (hcellv k hk).2)
      have had := hg hgood
      rw [hsz] at had
      exact ⟨ad, z, rfl, by rw [had]; exact fin h1, h2⟩
  · cases hv

theorem method_own {name : String} {ty f k : Nat} {u : Value} (hc : chkTbl P name ty f none = true) : (method (k + 1) ty u name).run P w = .ok (f, u) w := by
  unfold chkTbl at hc
  split at hc
  case h_2 => cases hc
  rename_i i hi
  split at hc
  case h_2 => cases hc
  rename_i m hm
  simp only [Bool.and_eq_true, List.isEmpty_iff] at hc
  obtain ⟨hp, hc⟩ := hc
  split at hc
  · rename_i f' e hf hu _
    simp only [beq_iff_eq] at hc
    subst hc
    simp [method, typeInfo, hi, hm, hp, follow, hf, receiverAt, run_underlying hu, Place.get]
  · rename_i hn; cases hn
  · cases hc

theorem method_ld {name : String} {ty f k : Nat} {n : Option Nat} {u : Value} {pv v : AV} (W : Wrel w0 X0 w h loc) (hr : Rep w h loc (XH X0 h loc) pv u) (hc : chkTbl P name ty f (some n) = true) (hv : ldx h n pv = some v) :
    ∃ x, (method (k + 1) ty u name).run P w = .ok (f, x) w ∧ Rep w h loc (XH X0 h loc) v x := by
  unfold chkTbl at hc
  split at hc
  case h_2 => cases hc
  rename_i i hi
  split at hc
  case h_2 => cases hc
  rename_i m hm
  simp only [Bool.and_eq_true, List.isEmpty_iff] at hc
  obtain ⟨hp, hc⟩ := hc
  split at hc
  · rename_i hn; cases hn
  · rename_i f' e n' hf hu hn
    simp only [Bool.and_eq_true, beq_iff_eq] at hc
    obtain ⟨rfl, hk⟩ := hc
    cases hn
    obtain ⟨ad, x, rfl, h1, h2⟩ := run_ldx W hr hk hv
    refine ⟨x, ?_, h2⟩
    have hpe : m.path = #[] := by apply Array.ext'; simpa using hp
    have hw : ∀ (ts : Array TypeId) (ty : TypeId) (s m : ByteArray), (Builtin.ssaWrapNilChk_ ts ty #[.pointer (some ad), .string s, .string m]).run P w = .ok (.pointer (some ad)) w := fun _ _ _ _ => rfl
    simp [method, typeInfo, hi, hm, hp, follow, hf, receiverAt, run_underlying hu, Place.get, hpe, strVal, hw, asAddr, h1]
  · cases hc

theorem opC_sound {C : CallO} (hC : ∀ f args h r h', C f args h = some (r, h') → CallSound P f args h r h') {po : PO} {v : AV} {h1 : AHeap} (W : Wrel w0 X0 w h loc) (S : Slots w h loc (XH X0 h loc) t a.tmps)
    (hc : chkC P o.op po = true) (hv : opC C t h b po = some (v, h1)) {K : Act → World → Prop} {Q : Exit → Act → World → Prop}
    (hK : ∀ x w1 loc1, Keeps w h loc (XH X0 h loc) w1 h1 loc1 (XH X0 h1 loc1) → Wrel w0 X0 w1 h1 loc1 → Rep w1 h1 loc1 (XH X0 h1 loc1) v x → K (a.put o.dst x) w1) : o.wp P a w K Q := by
  cases po
  case call m f args =>
    simp only [chkC] at hc
    split at hc
    case h_2 => cases hc
    rename_i f' args' tys ho
    simp only [Bool.and_eq_true, beq_iff_eq] at hc
    obtain ⟨rfl, h2⟩ := hc
    simp only [opC] at hv
    have hs := callM_sound hC hv w0 X0 w loc _ W (S.xs h2)
    have he : (execOp a.eval o).run P w = (callFunc f' (args'.toList.map a.eval).toArray).run P w := by
      have e : (args'.toList.map a.eval).toArray = args'.map a.eval := by rw [← Array.toList_map]
      rw [e]
      simp [execOp, ho, resolve, Act.eval, Deferred.ofValue, invoke]
    unfold Oper.wp
    rw [he]
    exact hs o a K Q (fun x w1 ⟨loc1, K1, W1, R1⟩ => hK x w1 loc1 K1 W1 R1)
  case callv m x args =>
    simp only [chkC] at hc
    split at hc
    case h_2 => cases hc
    rename_i x' args' tys ho
    simp only [Bool.and_eq_true, beq_iff_eq] at hc
    obtain ⟨h1', h2⟩ := hc
    simp only [opC] at hv
    split at hv
    case h_2 => cases hv
    rename_i f l1 l2 hx
    have hx' := S.x h1'
    rw [hx] at hx'
    generalize hu : a.eval x' = u at hx'
    cases hx' with
    | fn _ _ _ c d ha hb hra hrb =>
      have hL : RepL w h loc (XH X0 h loc) (l1 ++ args.map (xv t) ++ l2) (c.toList ++ args'.toList.map a.eval ++ d.toList) := by
        refine RepL.append (RepL.append ⟨by simpa using ha.symm, fun i g1 g2 => ?_⟩ (S.xs h2)) ⟨by simpa using hb.symm, fun i g1 g2 => ?_⟩
        · have := hra i g1 (by simpa using g2); rwa [Array.getElem_toList]
        · have := hrb i g1 (by simpa using g2); rwa [Array.getElem_toList]
      have hs := callM_sound hC hv w0 X0 w loc _ W hL
      have he : (execOp a.eval o).run P w = (callFunc f (c.toList ++ args'.toList.map a.eval ++ d.toList).toArray).run P w := by
        have e : (c.toList ++ args'.toList.map a.eval ++ d.toList).toArray = c ++ args'.map a.eval ++ d := by
          apply Array.ext'
          simp
        rw [e]
        simp [execOp, ho, resolve, hu, Deferred.ofValue, invoke]
      unfold Oper.wp
      rw [he]
      exact hs o a K Q (fun x w1 ⟨loc1, K1, W1, R1⟩ => hK x w1 loc1 K1 W1 R1)
  case inv m tbl x args =>
    simp only [chkC] at hc
    split at hc
    case h_2 => cases hc
    rename_i x' name args' tys ho
    simp only [Bool.and_eq_true, List.all_eq_true] at hc
    obtain ⟨⟨h1', h2⟩, h3⟩ := hc
    simp only [opC] at hv
    split at hv
    case h_2 => cases hv
    rename_i ty va hx
    have hx' := S.x h1'
    rw [hx] at hx'
    generalize hu : a.eval x' = u at hx'
    cases hx' with
    | ifc _ _ u hru =>
      have hgo : ∀ {f : Nat} {vr : AV} {y : Value}, (method (P.types.size + Made.depth) ty u name).run P w = .ok (f, y) w → Rep w h loc (XH X0 h loc) vr y → callM C m f (vr :: args.map (xv t)) h = some (v, h1) → o.wp P a w K Q := by
        intro f vr y hmeth hry hcall
        have hL : RepL w h loc (XH X0 h loc) (vr :: args.map (xv t)) (y :: args'.toList.map a.eval) := by
          obtain ⟨e1, e2⟩ := S.xs h2
          refine ⟨by simpa using e1, fun i g1 g2 => ?_⟩
          cases i with
          | zero => exact hry
          | succ i => exact e2 i (by simpa using g1) (by simpa using g2)
        have hs := callM_sound hC hcall w0 X0 w loc _ W hL
        have he : (execOp a.eval o).run P w = (callFunc f (y :: args'.toList.map a.eval).toArray).run P w := by
          have e : (y :: args'.toList.map a.eval).toArray = #[y] ++ args'.map a.eval := by
            apply Array.ext'
            simp
          rw [e]
          have e2 : (#[Value.iface ty u] ++ args'.map a.eval).extract 1 (#[Value.iface ty u] ++ args'.map a.eval).size = args'.map a.eval := by
            apply Array.ext'
            simp
            rw [List.take_of_length_le (by simp)]
          have e3 : (#[Value.iface ty u] ++ args'.map a.eval)[0]? = some (.iface ty u) := by rw [Array.getElem?_append_left (by simp)]; rfl
          have hprog : (program : Sem Program).run P w = .ok P w := rfl
          simp only [execOp, ho, resolve, hu, Sem.run_bind, Sem.run_pure, Result.andThen_ok, invoke, e3, e2, callMethod, hprog, hmeth]
        unfold Oper.wp
        rw [he]
        exact hs o a K Q (fun x w1 ⟨loc1, K1, W1, R1⟩ => hK x w1 loc1 K1 W1 R1)
      have hd : ∃ k, P.types.size + Made.depth = k + 1 := ⟨P.types.size + (Made.depth - 1), by unfold Made.depth; omega⟩
      obtain ⟨k, hk⟩ := hd
      rw [hk] at hgo
      split at hv
      · rename_i ty' f hfind
        have hm := List.mem_of_find?_eq_some hfind
        have he := List.find?_some hfind
        simp only [beq_iff_eq] at he
        subst he
        exact hgo (method_own (h3 _ hm)) hru hv
      · rename_i ty' f n hfind
        have hm := List.mem_of_find?_eq_some hfind
        have he := List.find?_some hfind
        simp only [beq_iff_eq] at he
        subst he
        simp only [Option.bind_eq_some_iff] at hv
        obtain ⟨vr, hvr, hv⟩ := hv
        obtain ⟨y, g1, g2⟩ := method_ld (k := k) W hru (h3 _ hm) hvr
        exact hgo g1 g2 hv
      · cases hv
  all_goals
    simp only [chkC] at hc
    simp only [opC] at hv
    exact opH_upon (opH_sound W S hc hv) hK

theorem Slots.put {X : Nat → Prop} {t : List AV} {s : Act} (S : Slots w h loc X t s.tmps) (d : Option Nat) {v : AV} {x : Value} (hr : Rep w h loc X v x) : Slots w h loc X (put t d v) (s.put d x).tmps := by
  cases d with
  | none => exact S
  | some d => exact S.set d hr

theorem put_defers (a : Act) (d : Option Nat) (x : Value) : (a.put d x).defers = a.defers := by cases d <;> rfl

theorem guard_wanted {ops : Array Oper} {X : Nat → Prop} (S : Slots w h loc X t a.tmps) {g j : Nat} {w' y : Bool} (hg : o.guard = some (g, w')) (hj : (ops[g]?).bind (·.dst) = some j) (hv : guardV (xv t (.t j)) w' = some y) :
    Region.wanted o (yielded ops a.tmps) = y := by
  have hr := S.x (o := .tmp j) (x := .t j) (by simp [chkX])
  have hw : Region.wanted o (yielded ops a.tmps) = (yielded ops a.tmps g == some w') := by simp [Region.wanted, hg]
  have hyd : yielded ops a.tmps g = match a.tmps[j]? with | some (.bool b) => some b | _ => none := by
    simp only [yielded, hj, Option.bind_some]
    split <;> simp_all
  rw [hw, hyd]
  simp only [Act.eval, Array.getD_eq_getD_getElem?] at hr
  unfold guardV at hv
  split at hv
  · rename_i v hx
    simp only [Option.some.injEq] at hv
    subst hv
    rw [hx] at hr
    cases hq : a.tmps[j]? with
    | none =>
      rw [hq] at hr
      simp only [Option.getD_none] at hr
      cases hr
    | some u =>
      rw [hq] at hr
      simp only [Option.getD_some] at hr
      have := hr.bool_inv
      subst this
      simp
  · rename_i hx
    simp only [Option.some.injEq] at hv
    subst hv
    rw [hx] at hr
    cases hq : a.tmps[j]? with
    | none => rfl
    | some u =>
      rw [hq] at hr
      simp only [Option.getD_some] at hr
      cases hr
      rfl
  · cases hv

variable {wI : World} {hI : AHeap} {locI : Nat → Nat} {dd : List (Nat × List AV)}

theorem stepI_sound {C : CallO} (hC : ∀ f args h r h', C f args h = some (r, h') → CallSound P f args h r h') {ops : Array Oper} {i : PI} {k : Nat} {t1 : List AV} {h1 : AHeap} (hk : ops[k]? = some o) (hc : chkI P ops o i = true)
    (hs : stepI C b t h i = some (t1, h1)) (R : SR w0 X0 wI hI locI dd t h a w) {K : Act → World → Prop} {Q : Exit → Act → World → Prop} (hK : ∀ a1 w1, SR w0 X0 wI hI locI dd t1 h1 a1 w1 → K a1 w1) : wpOp P ops Q k K a w := by
  obtain ⟨⟨loc, K0, W, S, hd⟩⟩ := R
  have done : ∀ {d : Option Nat} {v : AV} {x : Value} {w1 : World} {h1 : AHeap} {loc1 : Nat → Nat}, Keeps w h loc (XH X0 h loc) w1 h1 loc1 (XH X0 h1 loc1) → Wrel w0 X0 w1 h1 loc1 → Rep w1 h1 loc1 (XH X0 h1 loc1) v x →
      SR w0 X0 wI hI locI dd (Abs.put t d v) h1 (a.put d x) w1 := fun K1 W1 R1 =>
    ⟨⟨_, K0.trans K1 (fun b hb hx => K0.X' b hb hx), W1, (S.keep K1).put _ R1, by rw [put_defers]; exact hd.keep K1⟩⟩
  unfold wpOp
  rw [hk]
  simp only
  cases i <;> try (simp [chkI] at hc; done)
  case op d po =>
    simp only [chkI, Bool.and_eq_true, decide_eq_true_eq, Option.isNone_iff_eq_none] at hc
    obtain ⟨⟨rfl, hg⟩, hc⟩ := hc
    simp only [stepI, Option.map_eq_some_iff, Prod.mk.injEq] at hs
    obtain ⟨⟨v, h2⟩, hv, rfl, rfl⟩ := hs
    have hw : Region.wanted o (yielded ops a.tmps) = true := by simp [Region.wanted, hg]
    rw [if_pos hw]
    exact .inl (opC_sound hC W S hc hv (fun x w1 loc1 K1 W1 R1 => hK _ _ (done K1 W1 R1)))
  case opg d j w' po =>
    simp only [chkI, Bool.and_eq_true, decide_eq_true_eq] at hc
    obtain ⟨⟨rfl, hg⟩, hc⟩ := hc
    split at hg
    case h_2 => cases hg
    rename_i g w2 hgd
    simp only [Bool.and_eq_true, decide_eq_true_eq, beq_iff_eq] at hg
    obtain ⟨hj, rfl⟩ := hg
    simp only [stepI, Option.bind_eq_some_iff] at hs
    obtain ⟨y, hy, hs⟩ := hs
    rw [guard_wanted S hgd hj hy]
    cases y with
    | true =>
      simp only [cond_true, Option.map_eq_some_iff, Prod.mk.injEq] at hs
      obtain ⟨⟨v, h2⟩, hv, rfl, rfl⟩ := hs
      rw [if_pos rfl]
      exact .inl (opC_sound hC W S hc hv (fun x w1 loc1 K1 W1 R1 => hK _ _ (done K1 W1 R1)))
    | false =>
      simp only [cond_false, Option.some.injEq, Prod.mk.injEq] at hs
      obtain ⟨rfl, rfl⟩ := hs
      rw [if_neg (by simp)]
      exact hK _ _ (done (Keeps.refl ..) W rep_undef)
  case stf n d v =>
    simp only [chkI, Bool.and_eq_true, Option.isNone_iff_eq_none] at hc
    obtain ⟨⟨hdst, hg⟩, hc⟩ := hc
    split at hc
    case h_2 => cases hc
    rename_i ty d' v' ho
    simp only [Bool.and_eq_true, beq_iff_eq] at hc
    obtain ⟨⟨rfl, hv⟩, hi⟩ := hc
    split at hi
    case h_2 => cases hi
    rename_i inf hinf
    simp only [beq_iff_eq] at hi
    simp only [stepI] at hs
    have hw : Region.wanted o (yielded ops a.tmps) = true := by simp [Region.wanted, hg]
    rw [if_pos hw]
    obtain ⟨w1, hr, K1, W1, S1⟩ := stf_ok W S ho (S.x hv) hinf hi hs
    refine .inl ?_
    unfold Oper.wp
    rw [hr, Oper.upon_skip, hdst]
    exact hK _ _ ⟨⟨_, K0.trans K1 (fun b hb hx => K0.X' b hb hx), W1, S1, hd.keep K1⟩⟩
end
end Go.Proofs.Abs

-- ---- Abs21
set_option linter.unusedSimpArgs false
set_option linter.unusedVariables false
namespace Go.Proofs.Abs
open Go.RowKit

/-- What an operation reads of the slots. -/
def PO.xs : PO → List PX
  | .mv x | .bx x | .bxm _ x | .bxd _ x | .ld _ x | .nc x | .nlt _ x | .un _ x | .cv _ x | .cvs x | .cvl x | .cvu x | .b2s x | .s2b _ x | .fa _ x | .fd _ _ x | .ext x _ | .mi _ x | .ta _ _ _ x | .len _ x | .clr _ x => [x]
  | .pick c a b => [c, a, b]
  | .al .. | .lenk _ | .bad => []
  | .bld _ ps => ps.map (·.2.2)
  | .bsl _ _ ps | .bslm _ _ _ ps => ps.map (·.2)
  | .st _ x v | .bn _ _ x v | .eqs _ _ x v | .ia _ x v | .iaa _ _ x v | .ix x v | .ixa _ _ _ x v | .app _ _ x v | .cpy _ x v | .mk _ _ x v | .mkf _ x v => [x, v]
  | .sl _ x lo hi m3 => x :: lo.toList ++ hi.toList ++ m3.toList
  | .sls x lo hi => x :: lo.toList ++ hi.toList
  | .mf _ a c => a ++ c
  | .mn l | .mx l => l
  | .call _ _ args => args
  | .callv _ x args | .inv _ _ x args => x :: args

theorem bnd_congr {t t' : List AV} {m e : Nat} {x : Option PX} (h : ∀ y ∈ x.toList, xv t y = xv t' y) : bnd t m x e = bnd t' m x e := by
  cases x with
  | none => rfl
  | some y => simp only [bnd, h y (by simp)]

theorem opC_congr {C : CallO} {t t' : List AV} {h : AHeap} {b : Nat} {po : PO} (hx : ∀ x ∈ po.xs, xv t x = xv t' x) : opC C t h b po = opC C t' h b po := by
  have hl : ∀ {l : List PX}, (∀ x ∈ l, xv t x = xv t' x) → l.map (xv t) = l.map (xv t') := fun h => List.map_congr_left h
  cases po
  case bld z ps =>
    have : ps.map (fun p => (p.1, p.2.1, xv t p.2.2)) = ps.map (fun p => (p.1, p.2.1, xv t' p.2.2)) := List.map_congr_left fun p hp => by rw [hx p.2.2 (List.mem_map.2 ⟨p, hp, rfl⟩)]
    simp only [opC, opH, this]
  case bsl z n ps =>
    have : ps.map (fun p => (p.1, xv t p.2)) = ps.map (fun p => (p.1, xv t' p.2)) := List.map_congr_left fun p hp => by rw [hx p.2 (List.mem_map.2 ⟨p, hp, rfl⟩)]
    simp only [opC, opH, this]
  case bslm r z n ps =>
    have : ps.map (fun p => (p.1, xv t p.2)) = ps.map (fun p => (p.1, xv t' p.2)) := List.map_congr_left fun p hp => by rw [hx p.2 (List.mem_map.2 ⟨p, hp, rfl⟩)]
    simp only [opC, opH, this]
  case sl s x lo hi m3 =>
    have h1 := hx x (by simp [PO.xs])
    simp only [opC, opH, h1, bnd_congr (x := lo) (fun y hy => hx y (by simp only [PO.xs, List.mem_cons, List.mem_append]; simp_all)), bnd_congr (x := hi) (fun y hy => hx y (by simp only [PO.xs, List.mem_cons, List.mem_append]; simp_all)),
      bnd_congr (x := m3) (fun y hy => hx y (by simp only [PO.xs, List.mem_cons, List.mem_append]; simp_all))]
  case sls x lo hi =>
    have h1 := hx x (by simp [PO.xs])
    simp only [opC, opH, h1, bnd_congr (x := lo) (fun y hy => hx y (by simp only [PO.xs, List.mem_cons, List.mem_append]; simp_all)), bnd_congr (x := hi) (fun y hy => hx y (by simp only [PO.xs, List.mem_cons, List.mem_append]; simp_all))]
  case mf f a c => simp only [opC, opH, hl (l := a) (fun x h => hx x (by simp [PO.xs, h])), hl (l := c) (fun x h => hx x (by simp [PO.xs, h]))]
  case mn l => simp only [opC, opH, hl (l := l) (fun x h => hx x (by simp [PO.xs, h]))]
  case mx l => simp only [opC, opH, hl (l := l) (fun x h => hx x (by simp [PO.xs, h]))]
  case call m f args => simp only [opC, hl (l := args) (fun x h => hx x (by simp [PO.xs, h]))]
  case callv m x args => simp only [opC, hl (l := args) (fun x h => hx x (by simp [PO.xs, h])), hx x (by simp [PO.xs])]
  case inv m tb x args => simp only [opC, hl (l := args) (fun x h => hx x (by simp [PO.xs, h])), hx x (by simp [PO.xs])]
  case al => rfl
  case lenk => rfl
  case bad => rfl
  case pick c x y => simp only [opC, opH, hx c (by simp [PO.xs]), hx x (by simp [PO.xs]), hx y (by simp [PO.xs])]
  all_goals first
    | (rename_i x; simp only [opC, opH, hx x (by simp [PO.xs])]; done)
    | (rename_i x y; simp only [opC, opH, hx x (by simp [PO.xs]), hx y (by simp [PO.xs])]; done)
    | (rename_i x _; simp only [opC, opH, hx x (by simp [PO.xs])]; done)

/-- How an operation touches the heap: not at all; the sizes of elements; blocks that are; one cell; a new block into room that was left; an append; a write; new blocks behind all; new blocks behind all by what the heap has; who knows. -/
inductive Kd where
  | p | z | r | l (x : PX) | a (r : Nat) | aw (r : Nat) (x : PX) | w (x : Option PX) | n | e | x
  deriving Inhabited

def kindO : PO → Kd
  | .mv _ | .pick .. | .bx _ | .bld .. | .bsl .. | .nc _ | .bn .. | .eqs .. | .nlt .. | .un .. | .cv .. | .cvs _ | .fa .. | .fd .. | .iaa .. | .ix .. | .ixa .. | .sls .. | .mkf .. | .ext .. | .mf .. | .mi .. | .ta .. | .len .. | .lenk _ | .mn _ | .mx _ | .s2b 0 _ | .bad => .p
  | .ia (_ + 1) _ _ | .sl (_ + 1) _ _ _ _ => .z
  | .b2s _ => .r
  | .ld _ x => .l x
  | .al (r + 1) _ | .bxm (r + 1) _ | .bslm (r + 1) _ _ _ | .s2b (r + 2) _ | .mk (r + 1) _ _ _ => .a r
  | .app (r + 1) _ x _ => .aw r x
  | .st _ x _ => .w (some x)
  | .call 9 _ (x :: _) => .w (some x)
  | .call 11 _ _ => .e
  | .call 12 _ _ => .e
  | .call 0 _ _ | .callv 0 _ _ => .p
  | .call 2 _ _ | .callv 2 _ _ => .r
  | .call 1 _ _ | .callv 1 _ _ => .n
  | _ => .x

def kindI : PI → Kd
  | .op _ po | .opg _ _ _ po => kindO po
  | .stf .. => .w none
  | _ => .x

abbrev HF := AHeap → Option (AV × AHeap)
def hole (h : AHeap) (i : Nat) : Prop := ∃ v es, h[i]? = some ⟨.hole, 0, v, es⟩

def SP (f : HF) (v : AV) (h h1 : AHeap) : Prop := h1 = h ∧ ∀ h', f h' = some (v, h')
def SZ (f : HF) (v : AV) (h h1 : AHeap) : Prop := h1 = h ∧ ∀ h', (∀ id, sizeAt h id ≠ 0 → sizeAt h' id = sizeAt h id) → f h' = some (v, h')
def SR' (f : HF) (v : AV) (h h1 : AHeap) : Prop := h1 = h ∧ ∀ (h' : AHeap), (∀ (id : Nat) (k : Blk), h[id]? = some k → k.st ≠ BS.hole → h'[id]? = some k) → f h' = some (v, h')
def SL (f : HF) (id : Nat) (v : AV) (h h1 : AHeap) : Prop := h1 = h ∧ (∃ k, h[id]? = some k ∧ k.st = .live) ∧ ∀ h', h'[id]? = h[id]? → f h' = some (v, h')
def SA (f : HF) (i : Nat) (v : AV) (h h1 : AHeap) : Prop := ∃ k, h1 = h.set i k ∧ hole h i ∧ ∀ h', hole h' i → f h' = some (v, h'.set i k)
def SW (f : HF) (id : Nat) (v : AV) (h h1 : AHeap) : Prop := ∃ k k1, h[id]? = some k ∧ k.st = .live ∧ (k1.s = k.s ∧ k1.st ≠ .hole) ∧ h1 = h.set id k1 ∧ ∀ h', h'[id]? = some k → f h' = some (v, h'.set id k1)

def SN (f : HF) (v : AV) (h h1 : AHeap) : Prop := ∃ new, h1 = h ++ new ∧ ∀ (h' : AHeap), h'.length = h.length → f h' = some (v, h' ++ new)

/-- What a kind says. -/
def Spec (b : Nat) (t : List AV) (f : HF) (v : AV) (h h1 : AHeap) : Kd → Prop
  | .p => SP f v h h1
  | .z => SZ f v h h1
  | .r => SR' f v h h1
  | .l x => match xv t x with
    | .fp _ => SP f v h h1
    | .ptr id _ _ _ => SL f id v h h1
    | _ => False
  | .a r => SA f (b + r) v h h1
  | .aw r x => SP f v h h1 ∨ (SA f (b + r) v h h1 ∧ ∃ fl l, xv t x = .lst fl l) ∨ ∃ id, SW f id v h h1 ∧ ∃ n o len, xv t x = .own id n o len
  | .w x => ∃ id, SW f id v h h1 ∧ ∀ y, x = some y → ∃ n i o, xv t y = .ptr id n i o
  | .n => SN f v h h1
  | .e => ∃ new, h1 = h ++ new
  | .x => True

section
variable {b : Nat} {t : List AV} {C : CallO}

theorem sp_of {f : HF} {v : AV} {h h1 : AHeap} (hv : f h = some (v, h1)) (hf : ∀ h, f h = (f []).map fun x => (x.1, h)) : SP f v h h1 := by
  rw [hf h, Option.map_eq_some_iff] at hv
  obtain ⟨x, hx, he⟩ := hv
  simp only [Prod.mk.injEq] at he
  obtain ⟨rfl, rfl⟩ := he
  exact ⟨rfl, fun h' => by rw [hf h', hx]; rfl⟩

theorem opH_p {po : PO} (hk : kindO po = .p) (hc : ∀ m f args, po ≠ .call m f args) (hc2 : ∀ m x args, po ≠ .callv m x args) (h : AHeap) : opC C t h b po = (opC C t [] b po).map fun x => (x.1, h) := by
  cases po
  case call m f args => exact absurd rfl (hc m f args)
  case callv m x args => exact absurd rfl (hc2 m x args)
  all_goals (try (simp [kindO] at hk; done))
  case s2b r x =>
    rcases r with _ | _ | r
    · simp only [opC, opH]
      cases xv t x <;> simp
    · simp [kindO] at hk
    · simp [kindO] at hk
  case ia s _ _ => cases s <;> simp [kindO] at hk
  case sl s _ _ _ _ => cases s <;> simp [kindO] at hk
  case al r _ => cases r <;> simp [kindO] at hk
  case bxm r _ => cases r <;> simp [kindO] at hk
  case bslm r _ _ _ => cases r <;> simp [kindO] at hk
  case mk r _ _ _ => cases r <;> simp [kindO] at hk
  case app r _ _ _ => cases r <;> simp [kindO] at hk
  case bsl z n ps =>
    simp only [opC, opH]
    cases fillE z.cells.length (List.replicate n z) (ps.map fun p => (p.1, xv t p.2)) with
    | none => rfl
    | some l => simp only [Option.bind_some]; split <;> rfl
  case ix x i =>
    simp only [opC, opH]
    split
    · split
      · split <;> rfl
      · rfl
    · rfl
  all_goals simp only [opC, opH]
  all_goals first
    | rfl
    | (simp only [Option.map_map, Function.comp_def]; done)
    | (split <;> simp_all [Option.map_map, Function.comp_def]; done)
    | (split <;> (try split) <;> simp_all [Option.map_map, Function.comp_def]; done)

mutual
theorem frz_ext {h h' : AHeap} (he : ∀ (id : Nat) (k : Blk), h[id]? = some k → k.st ≠ BS.hole → h'[id]? = some k) : ∀ (a a1 : AV), a.frz h = some a1 → a.frz h' = some a1
  | .own id n off len, a1, hf => by
    simp only [AV.frz] at hf ⊢
    have : win h' id n off len = win h id n off len := by
      unfold win at hf ⊢
      cases hk : h[id]? with
      | none => simp [hk] at hf
      | some k =>
        by_cases hl : k.st = .hole
        · obtain ⟨st, s, v, es⟩ := k
          simp only at hl
          subst hl
          simp [hk] at hf
        · rw [he id k hk hl]
    rw [this]
    exact hf
  | .ptr id n idx off, a1, hf => by
    simp only [AV.frz] at hf ⊢
    cases hk : h[id]? with
    | none => simp [hk] at hf
    | some k =>
      by_cases hl : k.st = .hole
      · obtain ⟨st, s, v, es⟩ := k
        simp only at hl
        subst hl
        simp [hk] at hf
      · rw [he id k hk hl]
        rw [hk] at hf
        exact hf
  | .agg l, a1, hf => by
    simp only [AV.frz, Option.map_eq_some_iff] at hf ⊢
    obtain ⟨m, hm, e⟩ := hf
    exact ⟨m, frzs_ext he l m hm, e⟩
  | .tup l, a1, hf => by
    simp only [AV.frz, Option.map_eq_some_iff] at hf ⊢
    obtain ⟨m, hm, e⟩ := hf
    exact ⟨m, frzs_ext he l m hm, e⟩
  | .fn f a b, a1, hf => by
    simp only [AV.frz, Option.bind_eq_some_iff, Option.map_eq_some_iff] at hf ⊢
    obtain ⟨m, hm, m2, hm2, e⟩ := hf
    exact ⟨m, frzs_ext he a m hm, m2, frzs_ext he b m2 hm2, e⟩
  | .ifc t v, a1, hf => by
    simp only [AV.frz, Option.map_eq_some_iff] at hf ⊢
    obtain ⟨m, hm, e⟩ := hf
    exact ⟨m, frz_ext he v m hm, e⟩
  | .int .., _, hf => hf
  | .bool _, _, hf => hf
  | .str _, _, hf => hf
  | .nilp, _, hf => hf
  | .niface, _, hf => hf
  | .nfun, _, hf => hf
  | .lst .., _, hf => hf
  | .fp _, _, hf => hf
  | .top, _, hf => hf
theorem frzs_ext {h h' : AHeap} (he : ∀ (id : Nat) (k : Blk), h[id]? = some k → k.st ≠ BS.hole → h'[id]? = some k) : ∀ (l m : List AV), frzs h l = some m → frzs h' l = some m
  | [], _, hf => hf
  | x :: l, m, hf => by
    simp only [frzs, Option.bind_eq_some_iff, Option.map_eq_some_iff] at hf ⊢
    obtain ⟨y, hy, m, hm, e⟩ := hf
    exact ⟨y, frz_ext he x y hy, m, frzs_ext he l m hm, e⟩
end

theorem callM0_p (f : Nat) (args : List AV) (h : AHeap) : callM C 0 f args h = (callM C 0 f args []).map fun x => (x.1, h) := by
  simp only [callM, callM0]
  split
  · cases C f (args.map AV.cn) [] with
    | none => rfl
    | some r => simp [Option.map_map, Function.comp_def]
  · rfl
theorem callM2_r {f : Nat} {args : List AV} {v : AV} {h h1 : AHeap} (hv : callM C 2 f args h = some (v, h1)) : SR' (callM C 2 f args) v h h1 := by
  simp only [callM, Option.bind_eq_some_iff] at hv
  obtain ⟨a, ha, r, hr, hg⟩ := hv
  split at hg
  case isFalse => cases hg
  rename_i hgr
  simp only [Option.some.injEq, Prod.mk.injEq] at hg
  obtain ⟨rfl, rfl⟩ := hg
  refine ⟨rfl, fun h' he => ?_⟩
  simp only [callM]
  rw [frzs_ext he _ _ ha]
  simp [hr, hgr]

theorem callM1_n {f : Nat} {args : List AV} {v : AV} {h h1 : AHeap} (hv : callM C 1 f args h = some (v, h1)) : SN (callM C 1 f args) v h h1 := by
  simp only [callM, callM1] at hv
  split at hv
  case isFalse => cases hv
  rename_i hp
  simp only [Option.map_eq_some_iff, Prod.mk.injEq] at hv
  obtain ⟨r, hr, rfl, rfl⟩ := hv
  refine ⟨_, rfl, fun h' hl => ?_⟩
  simp only [callM, callM1, hp, if_true, hr, Option.map_some, hl]

theorem alc_a {h h1 : AHeap} {r id : Nat} {k : Blk} (ha : alc h b (r + 1) k = some (id, h1)) : id = b + r ∧ h1 = h.set (b + r) k ∧ hole h (b + r) ∧ ∀ h', hole h' (b + r) → alc h' b (r + 1) k = some (b + r, h'.set (b + r) k) := by
  simp only [alc] at ha
  split at ha
  case h_2 => cases ha
  rename_i v es hh
  simp only [Option.some.injEq, Prod.mk.injEq] at ha
  obtain ⟨rfl, rfl⟩ := ha
  exact ⟨rfl, rfl, ⟨v, es, hh⟩, fun h' ⟨v', es', hh'⟩ => by simp [alc, hh']⟩

theorem sa_of {f : HF} {v : AV} {h h1 : AHeap} {r : Nat} {k : Blk} {g : Nat → AV} (hf : ∀ h, f h = (alc h b (r + 1) k).map fun p => (g p.1, p.2)) (hv : f h = some (v, h1)) : SA f (b + r) v h h1 := by
  rw [hf h, Option.map_eq_some_iff] at hv
  obtain ⟨⟨id, h2⟩, ha, he⟩ := hv
  simp only [Prod.mk.injEq] at he
  obtain ⟨rfl, rfl⟩ := he
  obtain ⟨rfl, rfl, h3, h4⟩ := alc_a ha
  exact ⟨k, rfl, h3, fun h' hh => by rw [hf h', h4 h' hh]; rfl⟩

theorem wrp_w {h h1 : AHeap} {id n idx off : Nat} {vs : List AV} {v : AV} (hw : wrp h id n idx off vs = some h1) : SW (fun h => (wrp h id n idx off vs).map fun h => (v, h)) id v h h1 := by
  unfold wrp at hw
  split at hw
  case h_2 => cases hw
  rename_i s ver es hid
  split at hw
  case isFalse => cases hw
  rename_i hver
  split at hw
  case h_2 => cases hw
  rename_i e he
  split at hw
  case isFalse => cases hw
  rename_i hle
  simp only [Option.some.injEq] at hw
  subst hw
  exact ⟨_, ⟨.live, s, ver, es.set idx (setc e off vs)⟩, hid, rfl, ⟨rfl, by simp⟩, rfl, fun h' hh => by simp [wrp, hh, hver, he, hle]⟩

theorem opC_spec {po : PO} {v : AV} {h h1 : AHeap} (hv : opC C t h b po = some (v, h1)) : Spec b t (fun h => opC C t h b po) v h h1 (kindO po) := by
  by_cases hp : kindO po = .p
  · rw [hp]
    refine sp_of hv fun h => ?_
    by_cases hc : ∃ m f args, po = .call m f args
    · obtain ⟨m, f, args, rfl⟩ := hc
      have : m = 0 := by
        unfold kindO at hp
        split at hp <;> first | (cases hp; done) | (simp_all; done)
      subst this
      exact callM0_p f _ h
    · by_cases hc2 : ∃ m x args, po = .callv m x args
      · obtain ⟨m, x, args, rfl⟩ := hc2
        have : m = 0 := by
          rcases m with _ | _ | _ | m <;> simp [kindO] at hp
          rfl
        subst this
        simp only [opC]
        cases xv t x <;> first | rfl | exact callM0_p _ _ h
      · exact opH_p hp (fun m f args e => hc ⟨m, f, args, e⟩) (fun m x args e => hc2 ⟨m, x, args, e⟩) h
  · cases po
    case ia s x i =>
      cases s with
      | zero => trivial
      | succ s =>
        simp only [opC, opH] at hv
        split at hv
        · rename_i l j hx hi
          split at hv
          case isFalse => cases hv
          rename_i h0
          split at hv
          case h_2 => cases hv
          rename_i e he
          split at hv
          case isFalse => cases hv
          rename_i hs
          simp only [Option.some.injEq, Prod.mk.injEq] at hv
          obtain ⟨rfl, rfl⟩ := hv
          exact ⟨rfl, fun h' _ => by simp [opC, opH, hx, hi, h0, he, hs]⟩
        · rename_i id n off len kk j hx hi
          split at hv
          case isFalse => cases hv
          rename_i h0
          split at hv
          case isFalse => cases hv
          rename_i hs
          simp only [Option.some.injEq, Prod.mk.injEq] at hv
          obtain ⟨rfl, rfl⟩ := hv
          exact ⟨rfl, fun h' hh => by simp only [opC, opH, hx, hi]; rw [if_pos h0, if_pos (by rw [hh id (by omega)]; exact hs)]⟩
        · cases hv
    case sl s x lo hi m3 =>
      cases s with
      | zero => trivial
      | succ s =>
        simp only [opC, opH] at hv
        split at hv
        · rename_i f l hx
          simp only [Option.bind_eq_some_iff] at hv
          obtain ⟨m, hm, c, hc, a, ha, hv⟩ := hv
          split at hv
          case isFalse => cases hv
          rename_i hh
          simp only [Option.some.injEq, Prod.mk.injEq] at hv
          obtain ⟨rfl, rfl⟩ := hv
          exact ⟨rfl, fun h' _ => by simp [opC, opH, hx, hm, hc, ha, hh]⟩
        · rename_i id n off len hx
          split at hv
          case isTrue => cases hv
          rename_i hmx
          simp only [Option.bind_eq_some_iff] at hv
          obtain ⟨c, hc, a, ha, hv⟩ := hv
          split at hv
          case isFalse => cases hv
          rename_i hs
          simp only [Option.some.injEq, Prod.mk.injEq] at hv
          obtain ⟨rfl, rfl⟩ := hv
          refine ⟨rfl, fun h' hh => ?_⟩
          simp only [opC, opH, hx]
          rw [if_neg hmx, hc, Option.bind_some, ha, Option.bind_some, if_pos (by rw [hh id (by omega)]; exact hs)]
        · cases hv
    case b2s x =>
      simp only [opC, opH] at hv
      split at hv
      · rename_i f l hx
        simp only [Option.map_eq_some_iff, Prod.mk.injEq] at hv
        obtain ⟨m, hm, rfl, rfl⟩ := hv
        exact ⟨rfl, fun h' _ => by simp [opC, opH, hx, hm]⟩
      · rename_i id n off len hx
        simp only [Option.map_eq_some_iff, Option.bind_eq_some_iff, Prod.mk.injEq] at hv
        obtain ⟨m, ⟨l, hl, hm⟩, rfl, rfl⟩ := hv
        refine ⟨rfl, fun h' he => ?_⟩
        have : win h' id n off len = win h id n off len := by
          unfold win at hl ⊢
          cases hk : h[id]? with
          | none => simp [hk] at hl
          | some k =>
            by_cases hh : k.st = .hole
            · obtain ⟨st, s, v, es⟩ := k
              simp only at hh
              subst hh
              simp [hk] at hl
            · rw [he id k hk hh]
        simp [opC, opH, hx, this, hl, hm]
      · cases hv
    case ld n x =>
      simp only [opC, opH] at hv
      split at hv
      · rename_i l hx
        simp only [Option.map_eq_some_iff, Prod.mk.injEq] at hv
        obtain ⟨u, hu, rfl, rfl⟩ := hv
        simp only [kindO, Spec, hx]
        exact ⟨rfl, fun h' => by simp [opC, opH, hx, hu]⟩
      · rename_i id ver i o hx
        simp only [Option.map_eq_some_iff, Option.bind_eq_some_iff, Prod.mk.injEq] at hv
        obtain ⟨u, ⟨l, hl, hu⟩, rfl, rfl⟩ := hv
        simp only [kindO, Spec, hx]
        refine ⟨rfl, ?_, fun h' he => ?_⟩
        · unfold rdp at hl
          split at hl
          · rename_i hh; exact ⟨_, hh, rfl⟩
          · cases hl
        · have : rdp h' id ver i o = rdp h id ver i o := by unfold rdp; rw [he]
          simp [opC, opH, hx, this, hl, hu]
      · cases hv
    case al r z =>
      cases r with
      | zero => trivial
      | succ r => exact sa_of (g := fun i => .ptr i 0 0 0) (fun h => rfl) hv
    case bxm r x =>
      cases r with
      | zero => trivial
      | succ r =>
        have hv0 := hv
        simp only [opC, opH] at hv
        split at hv
        case isFalse => cases hv
        rename_i hs
        exact sa_of (f := fun h => opC C t h b (.bxm (r + 1) x)) (g := fun i => .ptr i 0 0 0) (k := ⟨.live, (xv t x).cells.length, 0, [xv t x]⟩) (fun h => by simp only [opC, opH, hs, if_true]) hv0
    case bslm r z n ps =>
      cases r with
      | zero => trivial
      | succ r =>
        have hv0 := hv
        simp only [opC, opH] at hv
        cases hf : fillE z.cells.length (List.replicate n z) (ps.map fun p => (p.1, xv t p.2)) with
        | none => simp [hf] at hv
        | some l => exact sa_of (f := fun h => opC C t h b (.bslm (r + 1) z n ps)) (g := fun i => .own i n 0 n) (k := ⟨.live, z.cells.length, n, l⟩) (fun h => by simp only [opC, opH, hf, Option.bind_some]) hv0
    case s2b r x =>
      rcases r with _ | _ | r
      · simp [kindO] at hp
      · trivial
      · have hv0 := hv
        simp only [opC, opH] at hv
        split at hv
        · rename_i hx hr; cases hr
        · rename_i l r' hx hr
          cases hr
          exact sa_of (f := fun h => opC C t h b (.s2b (r + 2) x)) (g := fun i => .own i l.length 0 l.length) (k := ⟨.live, 1, l.length, l.map avByte⟩) (fun h => by simp only [opC, opH, hx]) hv0
        · cases hv
    case mk r z l c =>
      cases r with
      | zero => trivial
      | succ r =>
        have hv0 := hv
        simp only [opC, opH] at hv
        split at hv
        · rename_i k1 n k2 m hl hc
          split at hv
          case isFalse => cases hv
          rename_i hb
          exact sa_of (f := fun h => opC C t h b (.mk (r + 1) z l c)) (g := fun i => .own i n.toNat 0 n.toNat) (k := ⟨.live, z.cells.length, n.toNat, List.replicate n.toNat z⟩) (fun h => by simp only [opC, opH, hl, hc, hb, and_self, if_true]) hv0
        · cases hv
    case st n x y =>
      simp only [opC, opH] at hv
      split at hv
      case h_2 => cases hv
      rename_i id ver i o hx
      split at hv
      case isFalse => cases hv
      rename_i hc
      simp only [Option.map_eq_some_iff, Prod.mk.injEq] at hv
      obtain ⟨h2, hw, rfl, rfl⟩ := hv
      have he : (fun h => opC C t h b (.st n x y)) = (fun h => (wrp h id ver i o (xv t y).cells).map fun h => (.tup [], h)) := by
        funext h
        simp only [opC, opH, hx, hc, and_self, if_true]
      rw [he]
      exact ⟨id, wrp_w hw, fun y hy => by cases hy; exact ⟨_, _, _, hx⟩⟩
    case app r s x y =>
      cases r with
      | zero => trivial
      | succ r =>
        have hv0 := hv
        simp only [opC, opH, Option.bind_eq_some_iff, roomH] at hv
        obtain ⟨ys, hys, hv⟩ := hv
        cases ys with
        | nil =>
          simp only at hv
          refine .inl ?_
          split at hv
          · rename_i f l hx
            simp only [Option.some.injEq, Prod.mk.injEq] at hv
            obtain ⟨rfl, rfl⟩ := hv
            exact ⟨rfl, fun h' => by simp [opC, opH, roomH, hys, hx]⟩
          · rename_i id n off len hx
            simp only [Option.some.injEq, Prod.mk.injEq] at hv
            obtain ⟨rfl, rfl⟩ := hv
            exact ⟨rfl, fun h' => by simp [opC, opH, roomH, hys, hx]⟩
          · cases hv
        | cons y1 ys =>
          simp only at hv
          split at hv
          · rename_i l hx
            split at hv
            case isFalse => cases hv
            rename_i hcn
            refine .inr (.inl ⟨sa_of (f := fun h => opC C t h b (.app (r + 1) s x y)) (g := fun i => .own i (l.length + (ys.length + 1)) 0 (l.length + (ys.length + 1))) (k := ⟨.live, s, l.length + (ys.length + 1), l ++ y1 :: ys⟩) (fun h => by simp only [opC, opH, roomH, hys, Option.bind_some, hx, hcn, if_true]) hv0, _, _, hx⟩)
          · rename_i id n len hx
            split at hv
            case h_2 => cases hv
            rename_i s' v' es hid
            split at hv
            case isFalse => cases hv
            rename_i hcn
            simp only [Option.some.injEq, Prod.mk.injEq] at hv
            obtain ⟨rfl, rfl⟩ := hv
            refine .inr (.inr ⟨id, ⟨_, ⟨.live, s, v' + (ys.length + 1), es.take len ++ y1 :: ys⟩, hid, rfl, ⟨hcn.2.1.symm, by simp⟩, rfl, fun h' hh => ?_⟩, _, _, _, hx⟩)
            simp only [opC, opH, roomH, hys, Option.bind_some, hx, hh]
            rw [if_pos hcn]
          · cases hv
    case call m f args =>
      by_cases h9 : m = 9
      · subst h9
        cases args with
        | nil => trivial
        | cons x args =>
          have hv0 := hv
          simp only [opC, callM, callM9, List.map_cons] at hv
          split at hv
          case h_2 => cases hv
          rename_i id n i o rest hx
          simp only [List.cons.injEq] at hx
          obtain ⟨hx, rfl⟩ := hx
          split at hv
          case h_2 => cases hv
          rename_i s ver es hid
          split at hv
          case isFalse => cases hv
          rename_i hpp
          split at hv
          case h_2 => cases hv
          rename_i v1 s1 ver1 es1 rst hc
          split at hv
          case isFalse => cases hv
          rename_i hq
          simp only [Option.some.injEq, Prod.mk.injEq] at hv
          obtain ⟨rfl, rfl⟩ := hv
          refine ⟨id, ⟨_, ⟨.live, s, ver, es1⟩, hid, rfl, ⟨rfl, by simp⟩, rfl, fun h' hh => ?_⟩, fun y hy => by cases hy; exact ⟨_, _, _, hx⟩⟩
          simp only [opC, callM, callM9, List.map_cons, hx, hh, hpp, if_true, hc]
          rw [if_pos hq]
      by_cases h11 : m = 11
      · subst h11
        simp only [opC, callM, callM11, Option.bind_eq_some_iff] at hv
        obtain ⟨a1, _, r1, _, hv⟩ := hv
        show ∃ new, h1 = h ++ new
        split at hv <;> first | cases hv | skip
        · exact ⟨[], by simp⟩
        · exact ⟨_, rfl⟩
        · exact ⟨_, rfl⟩
      by_cases h12 : m = 12
      · subst h12
        simp only [opC, callM, callM12, Option.bind_eq_some_iff] at hv
        obtain ⟨r1, _, hv⟩ := hv
        show ∃ new, h1 = h ++ new
        split at hv
        case isFalse => cases hv
        rename_i hb
        simp only [Option.some.injEq] at hv
        subst hv
        exact begB_ok hb
      rcases m with _ | _ | _ | m
      · simp [kindO] at hp
      · exact callM1_n hv
      · exact callM2_r hv
      · have : kindO (.call (m + 3) f args) = .x := by
          unfold kindO
          split <;> first | rfl | (exfalso; simp_all; done)
        rw [this]
        trivial
    case callv m x args =>
      rcases m with _ | _ | _ | m
      · simp [kindO] at hp
      · simp only [opC] at hv
        split at hv
        · rename_i f a c hx
          obtain ⟨new, e1, e2⟩ := callM1_n hv
          exact ⟨new, e1, fun h' he => by simp only [opC, hx]; exact e2 h' he⟩
        · cases hv
      · simp only [opC] at hv
        split at hv
        · rename_i f a c hx
          obtain ⟨e1, e2⟩ := callM2_r hv
          exact ⟨e1, fun h' he => by simp only [opC, hx]; exact e2 h' he⟩
        · cases hv
      · trivial
    all_goals first | trivial | (exact absurd rfl hp)
end
end Go.Proofs.Abs

-- ---- Abs22
set_option linter.unusedSimpArgs false
set_option linter.unusedVariables false
namespace Go.Proofs.Abs
open Go.RowKit

/-- The slot that an instruction writes, and what it reads. -/
def PI.wr : PI → Option Nat
  | .op d _ | .opg d .. => d
  | .stf _ d _ => some d
  | _ => none
def PI.rd : PI → List PX
  | .op _ po => po.xs
  | .opg _ j _ po => .t j :: po.xs
  | .stf _ d v => [.t d, v]
  | _ => []

/-- A slot is no operand. -/
def offX (d : Option Nat) (x : PX) : Bool := match d, x with
  | some d, .t i => d != i
  | _, _ => true

def valI (C : CallO) (b : Nat) (t : List AV) (i : PI) (h : AHeap) : Option (AV × AHeap) :=
  match i with
  | .op _ po => opC C t h b po
  | .opg _ j w po => (guardV (xv t (.t j)) w).bind fun y => cond y (opC C t h b po) (some (.tup [], h))
  | .stf n d v => stfV n (xv t v) (xv t (.t d)) h
  | _ => none

section
variable {b : Nat} {t : List AV} {C : CallO} {h : AHeap}

theorem stepI_val {i : PI} : stepI C b t h i = (valI C b t i h).map fun x => (put t i.wr x.1, x.2) := by
  cases i <;> try rfl
  case opg d j w po =>
    simp only [stepI, valI, PI.wr]
    cases guardV (xv t (.t j)) w with
    | none => rfl
    | some y => cases y <;> rfl

theorem valI_congr {t' : List AV} {i : PI} (hx : ∀ x ∈ i.rd, xv t x = xv t' x) : valI C b t i h = valI C b t' i h := by
  cases i <;> try rfl
  case op d po => exact opC_congr hx
  case opg d j w po =>
    simp only [valI]
    rw [hx (.t j) (by simp [PI.rd]), opC_congr (fun x hxx => hx x (by simp [PI.rd, hxx]))]
  case stf n d v =>
    simp only [valI]
    have h1 := hx (.t d) (by simp [PI.rd])
    have h2 := hx v (by simp [PI.rd])
    rw [h1, h2]

theorem xv_put {d : Option Nat} {v : AV} {x : PX} (ho : offX d x = true) : xv (put t d v) x = xv t x := by
  cases d with
  | none => rfl
  | some d =>
    cases x with
    | t i =>
      simp only [offX, bne_iff_ne, ne_eq] at ho
      simp [xv, put, List.getElem?_set_ne ho]
    | k v => rfl
    | f g => rfl

theorem put_put {d e : Option Nat} {v u : AV} (hde : d ≠ e ∨ d = none) : put (put t d v) e u = put (put t e u) d v := by
  cases d with
  | none => rfl
  | some d =>
    cases e with
    | none => rfl
    | some e =>
      rcases hde with hde | hde
      · simp only [put]
        exact List.set_comm _ _ (fun he => hde (by rw [he]))
      · cases hde

theorem stf_sw {n : Nat} {va p : AV} {h h1 : AHeap} {v : AV} (hs : stfV n va p h = some (v, h1)) : ∃ id, SW (stfV n va p) id v h h1 := by
  have hs0 := hs
  unfold stfV at hs
  split at hs
  case h_2 => cases hs
  rename_i id ver
  split at hs
  case h_2 => cases hs
  rename_i s ver' e hid
  split at hs
  case isFalse => cases hs
  rename_i hc
  simp only [Option.some.injEq] at hs
  by_cases hp : va.pure = true
  · rw [if_pos hp] at hs
    simp only [Prod.mk.injEq] at hs
    obtain ⟨rfl, rfl⟩ := hs
    exact ⟨id, _, ⟨.dead, s, ver, []⟩, hid, rfl, ⟨rfl, by simp⟩, rfl, fun h' hh => by simp [stfV, hh, hc, hp]⟩
  · rw [if_neg hp] at hs
    simp only [Prod.mk.injEq] at hs
    obtain ⟨rfl, rfl⟩ := hs
    exact ⟨id, _, ⟨.live, s, ver, [setc e 0 va.cells]⟩, hid, rfl, ⟨rfl, by simp⟩, rfl, fun h' hh => by simp [stfV, hh, hc, hp]⟩

theorem valI_spec {i : PI} {v : AV} {h1 : AHeap} (hv : valI C b t i h = some (v, h1)) : SP (valI C b t i) v h h1 ∨ Spec b t (valI C b t i) v h h1 (kindI i) := by
  cases i <;> try (cases hv; done)
  case op d po => exact .inr (opC_spec hv)
  case opg d j w po =>
    simp only [valI, Option.bind_eq_some_iff] at hv
    obtain ⟨y, hy, hv⟩ := hv
    cases y with
    | false =>
      simp only [cond_false, Option.some.injEq, Prod.mk.injEq] at hv
      obtain ⟨rfl, rfl⟩ := hv
      exact .inl ⟨rfl, fun h' => by simp only [valI, hy, Option.bind_some, cond_false]⟩
    | true =>
      have he : valI C b t (.opg d j w po) = fun h => opC C t h b po := by
        funext h
        simp only [valI, hy, Option.bind_some, cond_true]
      rw [he]
      exact .inr (opC_spec hv)
  case stf n d v' =>
    obtain ⟨id, h1⟩ := stf_sw hv
    exact .inr ⟨id, h1, fun y hy => by cases hy⟩

/-- Two kinds that may change places, the second taken first. -/
def kdOK (l : List (Nat × Nat)) : Kd → Kd → Bool
  | .p, _ | _, .p => true
  | .l (.t x), .w (some (.t y)) | .w (some (.t y)), .l (.t x) => l.contains (y, x) || l.contains (x, x)
  | .l _, .l _ | .l _, .z | .z, .l _ | .l _, .r | .r, .l _ | .l _, .a _ | .l _, .n | .z, .n | .r, .n | .w _, .n | .a _, .n => true
  | .l _, .e | .z, .e | .r, .e => true
  | .l (.t x), .aw _ (.t y) => l.contains (y, x) || l.contains (x, x)
  | .l (.t x), _ | _, .l (.t x) => l.contains (x, x)
  | .z, .z | .z, .r | .r, .z | .r, .r => true
  | .z, .a _ | .r, .a _ => true
  | .aw r (.t x), .aw s (.t y) => r != s && l.contains (x, y)
  | .aw s _, .a r => r != s
  | .aw _ _, .n | .z, .aw _ _ => true
  | .a r, .a s => r != s
  | .z, .w _ | .w _, .z => true
  | .w _, .a _ => true
  | _, _ => false

theorem kind_rd3 {i : PI} {r : Nat} {x : PX} (h : kindI i = .aw r x) : x ∈ i.rd := by
  have key : ∀ po : PO, kindO po = .aw r x → x ∈ po.xs := by
    intro po hx
    unfold kindO at hx
    split at hx <;> cases hx
    simp [PO.xs]
  cases i
  case op d po => exact key po h
  case opg d j w po => exact List.mem_cons_of_mem _ (key po h)
  all_goals cases h

theorem kind_rd {i : PI} : (∀ x, kindI i = .l x → x ∈ i.rd) ∧ ∀ y, kindI i = .w (some y) → y ∈ i.rd := by
  have key : ∀ po : PO, (∀ x, kindO po = .l x → x ∈ po.xs) ∧ ∀ y, kindO po = .w (some y) → y ∈ po.xs := by
    intro po
    constructor
    · intro x hx
      unfold kindO at hx
      split at hx <;> cases hx
      simp [PO.xs]
    · intro y hy
      unfold kindO at hy
      split at hy <;> cases hy <;> simp [PO.xs]
  cases i
  case op d po => exact key po
  case opg d j w po => exact ⟨fun x hx => List.mem_cons_of_mem _ ((key po).1 x hx), fun x hx => List.mem_cons_of_mem _ ((key po).2 x hx)⟩
  all_goals exact ⟨fun x hx => (by cases hx), fun x hx => (by cases hx)⟩

section
variable {f g : HF} {v u : AV} {h1 h2 : AHeap}

theorem swap_p (hf : SP f v h h1) (hg : g h1 = some (u, h2)) : ∃ h', g h = some (u, h') ∧ f h' = some (v, h2) := by
  obtain ⟨rfl, hf⟩ := hf
  exact ⟨h2, hg, hf h2⟩
theorem swap_q (hf : f h = some (v, h1)) (hg : SP g u h1 h2) : ∃ h', g h = some (u, h') ∧ f h' = some (v, h2) := by
  obtain ⟨rfl, hg⟩ := hg
  exact ⟨h, hg h, hf⟩
/-- Both only read. -/
theorem swap_rr (hf : f h = some (v, h1)) (e1 : h1 = h) (hg : g h1 = some (u, h2)) (e2 : h2 = h1) : ∃ h', g h = some (u, h') ∧ f h' = some (v, h2) := by
  subst e1
  subst e2
  exact ⟨_, hg, hf⟩

theorem hole_get {i : Nat} (hh : hole h i) {id : Nat} {k : Blk} (hk : h[id]? = some k) (hn : k.st ≠ .hole) : id ≠ i := by
  rintro rfl
  obtain ⟨v, es, h3⟩ := hh
  rw [hk] at h3
  simp only [Option.some.injEq] at h3
  subst h3
  exact hn rfl

theorem hole_set {i j : Nat} {k : Blk} (hij : i ≠ j) : hole (h.set j k) i ↔ hole h i := by
  unfold hole
  rw [List.getElem?_set_ne (Ne.symm hij)]

theorem size_set {id i : Nat} {k k1 : Blk} (hk : h[i]? = some k) (hs : k1.s = k.s) : sizeAt (h.set i k1) id = sizeAt h id := by
  unfold sizeAt
  by_cases hi : i = id
  · subst hi
    rw [List.getElem?_set_self (List.getElem?_eq_some_iff.1 hk).1, hk]
    simp [hs]
  · rw [List.getElem?_set_ne hi]

theorem size_fill {id i : Nat} {k : Blk} (hh : hole h i) (hs : sizeAt h id ≠ 0) : sizeAt (h.set i k) id = sizeAt h id := by
  unfold sizeAt at *
  by_cases hi : i = id
  · subst hi
    obtain ⟨v, es, h3⟩ := hh
    rw [h3] at hs
    simp at hs
  · rw [List.getElem?_set_ne hi]

theorem swap_z_a {i : Nat} (hf : SZ f v h h1) (hg : SA g i u h1 h2) : ∃ h', g h = some (u, h') ∧ f h' = some (v, h2) := by
  obtain ⟨rfl, hf⟩ := hf
  obtain ⟨k, rfl, hh, hg⟩ := hg
  exact ⟨_, hg _ hh, hf _ (fun id hs => size_fill hh hs)⟩
theorem swap_r_a {i : Nat} (hf : SR' f v h h1) (hg : SA g i u h1 h2) : ∃ h', g h = some (u, h') ∧ f h' = some (v, h2) := by
  obtain ⟨rfl, hf⟩ := hf
  obtain ⟨k, rfl, hh, hg⟩ := hg
  exact ⟨_, hg _ hh, hf _ (fun id k2 hk hn => by rw [List.getElem?_set_ne (Ne.symm (hole_get hh hk hn))]; exact hk)⟩
theorem swap_l_a {i id : Nat} (hf : SL f id v h h1) (hg : SA g i u h1 h2) : ∃ h', g h = some (u, h') ∧ f h' = some (v, h2) := by
  obtain ⟨rfl, ⟨k2, hk, hl⟩, hf⟩ := hf
  obtain ⟨k, rfl, hh, hg⟩ := hg
  exact ⟨_, hg _ hh, hf _ (by rw [List.getElem?_set_ne (Ne.symm (hole_get hh hk (by rw [hl]; decide)))])⟩
theorem swap_a_a {i j : Nat} (hij : i ≠ j) (hf : SA f i v h h1) (hg : SA g j u h1 h2) : ∃ h', g h = some (u, h') ∧ f h' = some (v, h2) := by
  obtain ⟨k, rfl, hh, hf⟩ := hf
  obtain ⟨k', rfl, hh', hg⟩ := hg
  rw [hole_set (Ne.symm hij)] at hh'
  refine ⟨_, hg _ hh', ?_⟩
  rw [hf _ ((hole_set hij).2 hh), List.set_comm _ _ hij]
theorem swap_z_w {id : Nat} (hf : SZ f v h h1) (hg : SW g id u h1 h2) : ∃ h', g h = some (u, h') ∧ f h' = some (v, h2) := by
  obtain ⟨rfl, hf⟩ := hf
  obtain ⟨k, k1, hk, hl, ⟨hs, hn⟩, rfl, hg⟩ := hg
  exact ⟨_, hg _ hk, hf _ (fun i _ => size_set hk hs)⟩
theorem swap_w_z {id : Nat} (hf : SW f id v h h1) (hg : SZ g u h1 h2) : ∃ h', g h = some (u, h') ∧ f h' = some (v, h2) := by
  obtain ⟨k, k1, hk, hl, ⟨hs, hn⟩, rfl, hf⟩ := hf
  obtain ⟨rfl, hg⟩ := hg
  exact ⟨_, hg h (fun i _ => (size_set hk hs).symm), hf _ hk⟩
theorem swap_l_w {id i : Nat} (hi : id ≠ i) (hf : SL f i v h h1) (hg : SW g id u h1 h2) : ∃ h', g h = some (u, h') ∧ f h' = some (v, h2) := by
  obtain ⟨rfl, _, hf⟩ := hf
  obtain ⟨k, k1, hk, hl, ⟨hs, hn⟩, rfl, hg⟩ := hg
  exact ⟨_, hg _ hk, hf _ (by rw [List.getElem?_set_ne hi])⟩
theorem swap_w_l {id i : Nat} (hi : id ≠ i) (hf : SW f id v h h1) (hg : SL g i u h1 h2) : ∃ h', g h = some (u, h') ∧ f h' = some (v, h2) := by
  obtain ⟨k, k1, hk, hl, ⟨hs, hn⟩, rfl, hf⟩ := hf
  obtain ⟨rfl, _, hg⟩ := hg
  exact ⟨_, hg h (by rw [List.getElem?_set_ne hi]), hf _ hk⟩
theorem swap_w_a {id i : Nat} (hf : SW f id v h h1) (hg : SA g i u h1 h2) : ∃ h', g h = some (u, h') ∧ f h' = some (v, h2) := by
  obtain ⟨k, k1, hk, hl, ⟨hs, hn⟩, rfl, hf⟩ := hf
  obtain ⟨k', rfl, hh, hg⟩ := hg
  have hne : i ≠ id := by
    rintro rfl
    obtain ⟨x, es, h3⟩ := hh
    rw [List.getElem?_set_self (List.getElem?_eq_some_iff.1 hk).1] at h3
    simp only [Option.some.injEq] at h3
    subst h3
    exact hn rfl
  rw [hole_set hne] at hh
  refine ⟨_, hg _ hh, ?_⟩
  rw [hf _ (by rw [List.getElem?_set_ne hne]; exact hk), List.set_comm _ _ (Ne.symm hne)]
theorem get_app {new : AHeap} {id : Nat} {k : Blk} (hk : h[id]? = some k) : (h ++ new)[id]? = some k := by
  rw [List.getElem?_append_left (List.getElem?_eq_some_iff.1 hk).1]; exact hk
theorem swap_z_n (hf : SZ f v h h1) (hg : SN g u h1 h2) : ∃ h', g h = some (u, h') ∧ f h' = some (v, h2) := by
  obtain ⟨rfl, hf⟩ := hf
  obtain ⟨new, rfl, hg⟩ := hg
  refine ⟨_, hg _ rfl, hf _ (fun id hs => ?_)⟩
  unfold sizeAt at *
  cases hk : h1[id]? with
  | none => simp [hk] at hs
  | some k => rw [get_app hk]
theorem swap_r_n (hf : SR' f v h h1) (hg : SN g u h1 h2) : ∃ h', g h = some (u, h') ∧ f h' = some (v, h2) := by
  obtain ⟨rfl, hf⟩ := hf
  obtain ⟨new, rfl, hg⟩ := hg
  exact ⟨_, hg _ rfl, hf _ (fun id k hk _ => get_app hk)⟩
theorem swap_z_e {new : AHeap} (hf : SZ f v h h1) (hg : g h1 = some (u, h2)) (he : h2 = h1 ++ new) : ∃ h', g h = some (u, h') ∧ f h' = some (v, h2) := by
  obtain ⟨rfl, hf⟩ := hf
  subst he
  refine ⟨_, hg, hf _ (fun id hs => ?_)⟩
  unfold sizeAt at *
  cases hk : h1[id]? with
  | none => simp [hk] at hs
  | some k => rw [get_app hk]
theorem swap_r_e {new : AHeap} (hf : SR' f v h h1) (hg : g h1 = some (u, h2)) (he : h2 = h1 ++ new) : ∃ h', g h = some (u, h') ∧ f h' = some (v, h2) := by
  obtain ⟨rfl, hf⟩ := hf
  subst he
  exact ⟨_, hg, hf _ (fun id k hk _ => get_app hk)⟩
theorem swap_l_e {id : Nat} {new : AHeap} (hf : SL f id v h h1) (hg : g h1 = some (u, h2)) (he : h2 = h1 ++ new) : ∃ h', g h = some (u, h') ∧ f h' = some (v, h2) := by
  obtain ⟨rfl, ⟨k, hk, _⟩, hf⟩ := hf
  subst he
  exact ⟨_, hg, hf _ (by rw [get_app hk, hk])⟩
theorem swap_l_n {id : Nat} (hf : SL f id v h h1) (hg : SN g u h1 h2) : ∃ h', g h = some (u, h') ∧ f h' = some (v, h2) := by
  obtain ⟨rfl, ⟨k, hk, _⟩, hf⟩ := hf
  obtain ⟨new, rfl, hg⟩ := hg
  exact ⟨_, hg _ rfl, hf _ (by rw [get_app hk, hk])⟩
theorem swap_w_n {id : Nat} (hf : SW f id v h h1) (hg : SN g u h1 h2) : ∃ h', g h = some (u, h') ∧ f h' = some (v, h2) := by
  obtain ⟨k, k1, hk, hl, ⟨hs, hn⟩, rfl, hf⟩ := hf
  obtain ⟨new, rfl, hg⟩ := hg
  refine ⟨_, hg h (by simp), ?_⟩
  rw [hf _ (get_app hk), List.set_append_left _ _ (List.getElem?_eq_some_iff.1 hk).1]
theorem swap_a_n {i : Nat} (hf : SA f i v h h1) (hg : SN g u h1 h2) : ∃ h', g h = some (u, h') ∧ f h' = some (v, h2) := by
  obtain ⟨k, rfl, ⟨x, es, hk⟩, hf⟩ := hf
  obtain ⟨new, rfl, hg⟩ := hg
  refine ⟨_, hg h (by simp), ?_⟩
  rw [hf _ ⟨x, es, get_app hk⟩, List.set_append_left _ _ (List.getElem?_eq_some_iff.1 hk).1]
end

theorem swap_w_w {id id2 : Nat} {f g : HF} {v u : AV} {h1 h2 : AHeap} (hi : id ≠ id2) (hf : SW f id v h h1) (hg : SW g id2 u h1 h2) : ∃ h', g h = some (u, h') ∧ f h' = some (v, h2) := by
  obtain ⟨k, k1, hk, hl, _, rfl, hf⟩ := hf
  obtain ⟨k', k1', hk', hl', _, rfl, hg⟩ := hg
  rw [List.getElem?_set_ne hi] at hk'
  refine ⟨_, hg _ hk', ?_⟩
  rw [hf _ (by rw [List.getElem?_set_ne (Ne.symm hi)]; exact hk), List.set_comm _ _ (Ne.symm hi)]

theorem fp_of_apart {x : AV} (h : apartB x x = true) : (∃ l, x = .fp l) ∨ ∃ f l, x = .lst f l := by
  cases x <;> simp [apartB] at h
  · exact .inr ⟨_, _, rfl⟩
  · exact .inl ⟨_, rfl⟩

theorem valI_swap {i j : PI} {l : List (Nat × Nat)} {v u : AV} {h1 h2 : AHeap} (hk : kdOK l (kindI j) (kindI i) = true)
    (hap : ∀ p ∈ l, PX.t p.1 ∈ i.rd ++ j.rd → PX.t p.2 ∈ i.rd ++ j.rd → apartB (xv t (.t p.1)) (xv t (.t p.2)) = true)
    (hf : valI C b t j h = some (v, h1)) (hg : valI C b t i h1 = some (u, h2)) : ∃ h', valI C b t i h = some (u, h') ∧ valI C b t j h' = some (v, h2) := by
  rcases valI_spec hf with hs | hs
  · exact swap_p hs hg
  rcases valI_spec hg with hr | hr
  · exact swap_q hf hr
  -- a load from what is frozen
  have fpL : ∀ {k : PI} {v : AV} {h h1 : AHeap} {x : Nat}, k = i ∨ k = j → kindI k = .l (.t x) → Spec b t (valI C b t k) v h h1 (kindI k) → l.contains (x, x) = true → SP (valI C b t k) v h h1 := by
    intro k v h h1 x hk hkd hsp hc
    have hm : PX.t x ∈ i.rd ++ j.rd := by
      have := kind_rd.1 _ hkd
      rcases hk with rfl | rfl <;> simp [this]
    rw [hkd] at hsp
    rcases fp_of_apart (hap (x, x) (by simpa using hc) hm hm) with ⟨fl, hfl⟩ | ⟨f, fl, hfl⟩
    · simpa only [Spec, hfl] using hsp
    · simp only [Spec, hfl] at hsp
  -- a load is pure, or of one block
  have spL : ∀ {k : PI} {v : AV} {h h1 : AHeap} {x : PX}, kindI k = .l x → Spec b t (valI C b t k) v h h1 (kindI k) → SP (valI C b t k) v h h1 ∨ ∃ id n i o, xv t x = .ptr id n i o ∧ SL (valI C b t k) id v h h1 := by
    intro k v h h1 x hkd hsp
    rw [hkd] at hsp
    simp only [Spec] at hsp
    split at hsp
    · exact .inl hsp
    · rename_i id n i o hx; exact .inr ⟨id, n, i, o, hx, hsp⟩
    · exact hsp.elim
  generalize hkj : kindI j = kj at *
  generalize hki : kindI i = ki at *
  have hs' : Spec b t (valI C b t j) v h h1 (kindI j) := hkj ▸ hs
  have hr' : Spec b t (valI C b t i) u h1 h2 (kindI i) := hki ▸ hr
  cases kj with
  | p => exact swap_p hs hg
  | n =>
    cases ki with
    | p => exact swap_q hf hr
    | l x =>
      cases x <;> simp [kdOK] at hk
      exact swap_q hf (fpL (.inl rfl) hki hr' (by simpa using hk))
    | _ => simp [kdOK] at hk
  | x =>
    cases ki with
    | p => exact swap_q hf hr
    | l x =>
      cases x <;> simp [kdOK] at hk
      exact swap_q hf (fpL (.inl rfl) hki hr' (by simpa using hk))
    | _ => simp [kdOK] at hk
  | e =>
    cases ki with
    | p => exact swap_q hf hr
    | l x =>
      cases x <;> simp [kdOK] at hk
      exact swap_q hf (fpL (.inl rfl) hki hr' (by simpa using hk))
    | _ => simp [kdOK] at hk
  | z =>
    cases ki with
    | p => exact swap_q hf hr
    | z => exact swap_rr hf hs.1 hg hr.1
    | r => exact swap_rr hf hs.1 hg hr.1
    | l x =>
      rcases spL hki hr' with h3 | ⟨id, _, _, _, _, h3⟩
      · exact swap_q hf h3
      · exact swap_rr hf hs.1 hg h3.1
    | a r => exact swap_z_a hs hr
    | aw r x =>
      rcases hr with h3 | ⟨h3, _⟩ | ⟨id, h3, _⟩
      · exact swap_q hf h3
      · exact swap_z_a hs h3
      · exact swap_z_w hs h3
    | w x =>
      obtain ⟨id, h3, _⟩ := hr
      exact swap_z_w hs h3
    | n => exact swap_z_n hs hr
    | e => obtain ⟨_, he⟩ := hr; exact swap_z_e hs hg he
    | x => simp [kdOK] at hk
  | r =>
    cases ki with
    | p => exact swap_q hf hr
    | z => exact swap_rr hf hs.1 hg hr.1
    | r => exact swap_rr hf hs.1 hg hr.1
    | l x =>
      rcases spL hki hr' with h3 | ⟨id, _, _, _, _, h3⟩
      · exact swap_q hf h3
      · exact swap_rr hf hs.1 hg h3.1
    | a r => exact swap_r_a hs hr
    | n => exact swap_r_n hs hr
    | e => obtain ⟨_, he⟩ := hr; exact swap_r_e hs hg he
    | aw r x => simp [kdOK] at hk
    | w x => simp [kdOK] at hk
    | x => simp [kdOK] at hk
  | l x =>
    rcases spL hkj hs' with h3 | ⟨id, _, _, _, hx, h3⟩
    · exact swap_p h3 hg
    · cases ki with
      | p => exact swap_q hf hr
      | z => exact swap_rr hf h3.1 hg hr.1
      | r => exact swap_rr hf h3.1 hg hr.1
      | l y =>
        rcases spL hki hr' with h4 | ⟨_, _, _, _, _, h4⟩
        · exact swap_q hf h4
        · exact swap_rr hf h3.1 hg h4.1
      | a r => exact swap_l_a h3 hr
      | aw r y =>
        rcases hr with h4 | ⟨h4, _⟩ | ⟨id2, h4, n2, o2, len2, hy2⟩
        · exact swap_q hf h4
        · exact swap_l_a h3 h4
        · cases x with
          | t x =>
            cases y with
            | t y =>
              simp only [kdOK, Bool.or_eq_true] at hk
              rcases hk with hk | hk
              · have := hap (y, x) (by simpa using hk) (by simp [kind_rd3 hki]) (by simp [kind_rd.1 _ hkj])
                rw [hx, hy2] at this
                simp only [apartB, bne_iff_ne, ne_eq] at this
                exact swap_l_w this h3 h4
              · exact swap_p (fpL (.inr rfl) hkj hs' hk) hg
            | k _ =>
              simp only [kdOK] at hk
              exact swap_p (fpL (.inr rfl) hkj hs' hk) hg
            | f _ =>
              simp only [kdOK] at hk
              exact swap_p (fpL (.inr rfl) hkj hs' hk) hg
          | k _ => simp [kdOK] at hk
          | f _ => simp [kdOK] at hk
      | n => exact swap_l_n h3 hr
      | e => obtain ⟨_, he⟩ := hr; exact swap_l_e h3 hg he
      | w y =>
        obtain ⟨id2, h4, hy⟩ := hr
        cases x with
        | t x =>
          cases y with
          | none =>
            simp only [kdOK] at hk
            exact swap_p (fpL (.inr rfl) hkj hs' hk) hg
          | some y =>
            obtain ⟨n2, i2, o2, hy2⟩ := hy y rfl
            cases y with
            | t y =>
              simp only [kdOK, Bool.or_eq_true] at hk
              rcases hk with hk | hk
              · have := hap (y, x) (by simpa using hk) (by simp [kind_rd.2 _ hki]) (by simp [kind_rd.1 _ hkj])
                rw [hx, hy2] at this
                simp only [apartB, bne_iff_ne, ne_eq] at this
                exact swap_l_w this h3 h4
              · exact swap_p (fpL (.inr rfl) hkj hs' hk) hg
            | k _ =>
              simp only [kdOK] at hk
              exact swap_p (fpL (.inr rfl) hkj hs' hk) hg
            | f _ =>
              simp only [kdOK] at hk
              exact swap_p (fpL (.inr rfl) hkj hs' hk) hg
        | k _ => simp [kdOK] at hk
        | f _ => simp [kdOK] at hk
      | x =>
        cases x <;> simp only [kdOK] at hk
        · exact swap_p (fpL (.inr rfl) hkj hs' hk) hg
        · cases hk
        · cases hk
  | a r =>
    cases ki with
    | p => exact swap_q hf hr
    | a s =>
      simp only [kdOK, bne_iff_ne, ne_eq] at hk
      exact swap_a_a (by omega) hs hr
    | n => exact swap_a_n hs hr
    | l x =>
      cases x <;> simp only [kdOK] at hk
      · exact swap_q hf (fpL (.inl rfl) hki hr' hk)
      · cases hk
      · cases hk
    | _ => simp [kdOK] at hk
  | aw r x =>
    cases ki with
    | p => exact swap_q hf hr
    | a s =>
      simp only [kdOK, bne_iff_ne, ne_eq] at hk
      rcases hs with h4 | ⟨h4, _⟩ | ⟨id2, h4, _⟩
      · exact swap_p h4 hg
      · exact swap_a_a (by omega) h4 hr
      · exact swap_w_a h4 hr
    | n =>
      rcases hs with h4 | ⟨h4, _⟩ | ⟨id2, h4, _⟩
      · exact swap_p h4 hg
      · exact swap_a_n h4 hr
      · exact swap_w_n h4 hr
    | aw s y =>
      cases x with
      | t x =>
        cases y with
        | t y =>
          simp only [kdOK, Bool.and_eq_true, bne_iff_ne, ne_eq] at hk
          have hap' := hap (x, y) (by simpa using hk.2) (by simp [kind_rd3 hkj]) (by simp [kind_rd3 hki])
          rcases hs with h4 | ⟨h4, _, _, hx⟩ | ⟨id2, h4, _, _, _, hx⟩
          · exact swap_p h4 hg
          · rcases hr with h5 | ⟨h5, _⟩ | ⟨id3, h5, _, _, _, hy⟩
            · exact swap_q hf h5
            · exact swap_a_a (by omega) h4 h5
            · rw [hx, hy] at hap'
              simp [apartB] at hap'
          · rcases hr with h5 | ⟨h5, _⟩ | ⟨id3, h5, _, _, _, hy⟩
            · exact swap_q hf h5
            · exact swap_w_a h4 h5
            · rw [hx, hy] at hap'
              simp only [apartB, bne_iff_ne, ne_eq] at hap'
              exact swap_w_w hap' h4 h5
        | k _ => simp [kdOK] at hk
        | f _ => simp [kdOK] at hk
      | k _ => simp [kdOK] at hk
      | f _ => simp [kdOK] at hk
    | l y =>
      cases y <;> simp only [kdOK] at hk
      · exact swap_q hf (fpL (.inl rfl) hki hr' hk)
      · cases x <;> cases hk
      · cases x <;> cases hk
    | _ => cases x <;> simp [kdOK] at hk
  | w y =>
    obtain ⟨id2, h4, hy⟩ := hs
    cases ki with
    | p => exact swap_q hf hr
    | z => exact swap_w_z h4 hr
    | a r => exact swap_w_a h4 hr
    | n => exact swap_w_n h4 hr
    | l x =>
      rcases spL hki hr' with h3 | ⟨id, _, _, _, hx, h3⟩
      · exact swap_q hf h3
      cases x with
      | t x =>
        cases y with
        | none =>
          simp only [kdOK] at hk
          exact swap_q hf (fpL (.inl rfl) hki hr' hk)
        | some y =>
          obtain ⟨n2, i2, o2, hy2⟩ := hy y rfl
          cases y with
          | t y =>
            simp only [kdOK, Bool.or_eq_true] at hk
            rcases hk with hk | hk
            · have := hap (y, x) (by simpa using hk) (by simp [kind_rd.2 _ hkj]) (by simp [kind_rd.1 _ hki])
              rw [hx, hy2] at this
              simp only [apartB, bne_iff_ne, ne_eq] at this
              exact swap_w_l this h4 h3
            · exact swap_q hf (fpL (.inl rfl) hki hr' hk)
          | k _ =>
            simp only [kdOK] at hk
            exact swap_q hf (fpL (.inl rfl) hki hr' hk)
          | f _ =>
            simp only [kdOK] at hk
            exact swap_q hf (fpL (.inl rfl) hki hr' hk)
      | k _ => cases y <;> simp [kdOK] at hk
      | f _ => cases y <;> simp [kdOK] at hk
    | r => simp [kdOK] at hk
    | aw _ _ => simp [kdOK] at hk
    | w _ => simp [kdOK] at hk
    | e => simp [kdOK] at hk
    | x => simp [kdOK] at hk

def swapB (l : List (Nat × Nat)) (j i : PI) : Bool :=
  i.rd.all (offX j.wr) && j.rd.all (offX i.wr) && (j.wr != i.wr || j.wr.isNone) && kdOK l (kindI j) (kindI i)

theorem stepI_swap {i j : PI} {l : List (Nat × Nat)} {t1 t2 : List AV} {h1 h2 : AHeap} (hsw : swapB l j i = true)
    (hap : ∀ p ∈ l, PX.t p.1 ∈ i.rd ++ j.rd → PX.t p.2 ∈ i.rd ++ j.rd → apartB (xv t (.t p.1)) (xv t (.t p.2)) = true)
    (hf : stepI C b t h j = some (t1, h1)) (hg : stepI C b t1 h1 i = some (t2, h2)) : ∃ t1' h1', stepI C b t h i = some (t1', h1') ∧ stepI C b t1' h1' j = some (t2, h2) := by
  simp only [swapB, Bool.and_eq_true, Bool.or_eq_true, bne_iff_ne, ne_eq, Option.isNone_iff_eq_none, List.all_eq_true] at hsw
  obtain ⟨⟨⟨o1, o2⟩, o3⟩, hk⟩ := hsw
  rw [stepI_val, Option.map_eq_some_iff] at hf hg
  obtain ⟨⟨v, h1⟩, hf, e⟩ := hf
  simp only [Prod.mk.injEq] at e
  obtain ⟨rfl, rfl⟩ := e
  obtain ⟨⟨u, h2⟩, hg, e⟩ := hg
  simp only [Prod.mk.injEq] at e
  obtain ⟨rfl, rfl⟩ := e
  rw [valI_congr (t' := t) (fun x hx => xv_put (o1 x hx))] at hg
  obtain ⟨h', g1, g2⟩ := valI_swap hk hap hf hg
  refine ⟨put t i.wr u, h', by rw [stepI_val, g1]; rfl, ?_⟩
  rw [stepI_val, valI_congr (t' := t) (fun x hx => xv_put (o2 x hx)), g2]
  simp only [Option.map_some, Option.some.injEq, Prod.mk.injEq, and_true]
  exact (put_put o3).symm

/-- Operations one after the other. -/
def runI (C : CallO) (b : Nat) : List (Nat × PI) → List AV → AHeap → Option (List AV × AHeap)
  | [], t, h => some (t, h)
  | i :: r, t, h => (stepI C b t h i.2).bind fun x => runI C b r x.1 x.2

theorem runI_keeps {z : Nat} : ∀ {L : List (Nat × PI)} {t tF : List AV} {h hF : AHeap}, (∀ q ∈ L, q.2.wr ≠ some z) → runI C b L t h = some (tF, hF) → xv tF (.t z) = xv t (.t z)
  | [], t, tF, h, hF, _, hr => by
    simp only [runI, Option.some.injEq, Prod.mk.injEq] at hr
    rw [hr.1]
  | i :: L, t, tF, h, hF, hw, hr => by
    simp only [runI, Option.bind_eq_some_iff] at hr
    obtain ⟨⟨t1, h1⟩, hs, hr⟩ := hr
    rw [runI_keeps (fun q hq => hw q (List.mem_cons_of_mem _ hq)) hr]
    rw [stepI_val, Option.map_eq_some_iff] at hs
    obtain ⟨⟨v, h2⟩, _, e⟩ := hs
    simp only [Prod.mk.injEq] at e
    obtain ⟨rfl, rfl⟩ := e
    refine xv_put ?_
    have := hw i (by simp)
    cases hwi : i.2.wr with
    | none => rfl
    | some d => rw [hwi] at this; simp only [offX, bne_iff_ne, ne_eq]; exact fun e => this (by rw [e])

/-- Slots of 'zs' that are read are written no more. -/
def Stab (zs : List Nat) : List (Nat × PI) → Prop
  | [] => True
  | p :: r => (∀ z ∈ zs, PX.t z ∈ p.2.rd → ∀ q ∈ p :: r, q.2.wr ≠ some z) ∧ Stab zs r

theorem Stab.tail {zs : List Nat} : ∀ {A B : List (Nat × PI)}, Stab zs (A ++ B) → Stab zs B
  | [], _, h => h
  | _ :: A, _, h => Stab.tail (A := A) h.2

theorem Stab.drop {zs : List Nat} {i : Nat × PI} : ∀ {A B : List (Nat × PI)}, Stab zs (A ++ i :: B) → Stab zs (A ++ B)
  | [], _, h => h.2
  | a :: A, B, h => ⟨fun z hz hr q hq => h.1 z hz hr q (by
      have h1 : q = a ∨ q ∈ A ++ B := List.mem_cons.1 hq
      rcases h1 with h1 | h1
      · exact List.mem_cons.2 (.inl h1)
      · refine List.mem_cons.2 (.inr ?_)
        rcases List.mem_append.1 h1 with h1 | h1
        · exact List.mem_append.2 (.inl h1)
        · exact List.mem_append.2 (.inr (List.mem_cons.2 (.inr h1)))), Stab.drop (A := A) h.2⟩

theorem bubble {l : List (Nat × Nat)} {zs : List Nat} (hz : ∀ p ∈ l, p.1 ∈ zs ∧ p.2 ∈ zs) {fin : List AV} {hF : AHeap} {i : Nat × PI} {B : List (Nat × PI)} (hap : ∀ p ∈ l, apartB (xv fin (.t p.1)) (xv fin (.t p.2)) = true) :
    ∀ {A : List (Nat × PI)} {t : List AV} {h : AHeap}, runI C b (A ++ i :: B) t h = some (fin, hF) → (∀ j ∈ A, swapB l j.2 i.2 = true) → Stab zs (A ++ i :: B) →
      ∃ t1 h1, stepI C b t h i.2 = some (t1, h1) ∧ runI C b (A ++ B) t1 h1 = some (fin, hF)
  | [], t, h, hr, _, _ => by
    simp only [List.nil_append, runI, Option.bind_eq_some_iff] at hr
    obtain ⟨⟨t1, h1⟩, h2, h3⟩ := hr
    exact ⟨t1, h1, h2, h3⟩
  | j :: A, t, h, hr, hsw, hst => by
    have hr0 := hr
    simp only [List.cons_append, runI, Option.bind_eq_some_iff] at hr
    obtain ⟨⟨t', h'⟩, hj, hr⟩ := hr
    obtain ⟨t1', h1', hi, hr2⟩ := bubble hz hap (A := A) hr (fun k hk => hsw k (List.mem_cons_of_mem _ hk)) hst.2
    have hji := hsw j (by simp)
    have off : ∀ (k : Nat × PI) (z : Nat), swapB l k.2 i.2 = true → PX.t z ∈ i.2.rd → k.2.wr ≠ some z := by
      intro k z hk hm he
      simp only [swapB, Bool.and_eq_true, List.all_eq_true] at hk
      have := hk.1.1.1 _ hm
      rw [he] at this
      simp [offX] at this
    have same : ∀ z ∈ zs, PX.t z ∈ i.2.rd ++ j.2.rd → xv fin (.t z) = xv t (.t z) := by
      intro z hzz hm
      refine runI_keeps (fun q hq => ?_) hr0
      rcases List.mem_append.1 hm with hm' | hm'
      · simp only [List.cons_append, List.mem_cons, List.mem_append] at hq
        rcases hq with hq | hq | hq
        · rw [hq]; exact off _ z hji hm'
        · exact off q z (hsw q (by simp [hq])) hm'
        · have hst2 : Stab zs (i :: B) := Stab.tail (A := j :: A) hst
          exact hst2.1 z hzz hm' q (List.mem_cons.2 hq)
      · exact hst.1 z hzz hm' q (by simpa using hq)
    obtain ⟨t1, h1, g1, g2⟩ := stepI_swap hji (fun p hp m1 m2 => by
      rw [← same p.1 (hz p hp).1 m1, ← same p.2 (hz p hp).2 m2]
      exact hap p hp) hj hi
    refine ⟨t1, h1, g1, ?_⟩
    simp only [List.cons_append, runI, g2, Option.bind_some]
    exact hr2
end
end Go.Proofs.Abs
