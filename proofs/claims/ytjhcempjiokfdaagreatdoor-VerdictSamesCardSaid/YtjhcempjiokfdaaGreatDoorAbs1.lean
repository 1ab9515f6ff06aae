/- An abstract evaluator of Go code (plain Lean over any program), proved sound: what it says of a call, the machine does. Part 1. No condition. -/
import GoSem.Step
import Derived.Calls
import Derived.Below
import Derived.Orders
import Derived.Laws.Tables
import Derived.Laws.Cells
import Derived.Deep.Draws
import Derived.Laws.Sem
import Derived.Deep.MidRow
import Derived.Laws.MakeOwn
import Derived.Laws.Append
import Derived.Laws.Strings
set_option linter.unusedSimpArgs false
set_option linter.unusedVariables false

-- ---- Abs1
namespace Go.Proofs.Abs
open Go.RowKit

/-- Abstract values: 'lst' a slice that nobody writes, 'fp' a pointer to cells that nobody writes, 'own' and 'ptr' a slice of, and a pointer into, a block of the abstract heap. -/
inductive AV where
  | int (k : IntKind) (n : Int)
  | bool (b : Bool)
  | str (l : List UInt8)
  | nilp
  | niface
  | nfun
  | agg (l : List AV)
  | tup (l : List AV)
  | fn (f : Nat) (first cap : List AV)
  | ifc (t : Nat) (v : AV)
  | lst (full : Bool) (l : List AV)
  | own (id n off len : Nat)
  | ptr (id n idx off : Nat)
  | fp (l : List AV)
  | top
  deriving Inhabited

def AV.cells : AV → List AV
  | .agg l => l
  | v => [v]

/-- A value of one cell, whose real value is no aggregate. -/
def AV.leaf : AV → Bool
  | .agg _ | .tup _ | .top => false
  | _ => true

mutual
/-- No reference into the abstract heap. -/
def AV.pure : AV → Bool
  | .own .. | .ptr .. => false
  | .agg l | .tup l => pures l
  | .fn _ a b => pures a && pures b
  | .ifc _ v => v.pure
  | _ => true
def pures : List AV → Bool
  | [] => true
  | v :: l => v.pure && pures l
end

theorem pures_iff : ∀ {l : List AV}, pures l = true ↔ ∀ x ∈ l, x.pure = true
  | [] => by simp [pures]
  | x :: l => by simp [pures, pures_iff (l := l)]

theorem pure_cells {x : AV} (h : x.pure = true) : ∀ y ∈ x.cells, y.pure = true := by
  cases x <;> simp_all [AV.cells, AV.pure, pures_iff]

inductive BS where
  | hole | live | dead
  deriving DecidableEq

/-- A block of the abstract heap: elements of 's' cells each. -/
structure Blk where
  st : BS
  s : Nat
  ver : Nat
  es : List AV

abbrev AHeap := List Blk

def flat (l : List AV) : List AV := l.flatMap AV.cells

/-- A reference to 'id' at its version 'n' is good. -/
def good (h : AHeap) (id n : Nat) : Prop := ∃ b, h[id]? = some b ∧ b.st = .live ∧ b.ver = n
def lenAt (h : AHeap) (id : Nat) : Nat := ((h[id]?).map (·.es.length)).getD 0
def sizeAt (h : AHeap) (id : Nat) : Nat := ((h[id]?).map (·.s)).getD 0
/-- A reference may only be to a block that was begun. -/
def begun (h : AHeap) (id n : Nat) : Prop := ∃ b, h[id]? = some b ∧ b.st ≠ .hole ∧ n ≤ b.ver

/-- What a real value is for an abstract one: in world 'w', abstract heap 'h' whose block 'id' lies at 'loc id', no frozen thing within a block of 'X'. -/
inductive Rep (w : World) (h : AHeap) (loc : Nat → Nat) (X : Nat → Prop) : AV → Value → Prop
  | int (k n) : Rep w h loc X (.int k n) (.int k n)
  | bool (b) : Rep w h loc X (.bool b) (.bool b)
  | str (l) : Rep w h loc X (.str l) (.string ⟨l.toArray⟩)
  | nilp : Rep w h loc X .nilp (.pointer none)
  | niface : Rep w h loc X .niface .nilIface
  | nfun : Rep w h loc X .nfun .nilFunc
  | agg (l : List AV) (c : Array Value) (hl : c.size = l.length) (hr : ∀ i (h1 : i < l.length) (h2 : i < c.size), Rep w h loc X l[i] c[i]) : Rep w h loc X (.agg l) (.agg c)
  | tup (l : List AV) (c : Array Value) (hl : c.size = l.length) (hr : ∀ i (h1 : i < l.length) (h2 : i < c.size), Rep w h loc X l[i] c[i]) : Rep w h loc X (.tup l) (.tuple c)
  | fn (f : Nat) (a b : List AV) (c d : Array Value) (ha : c.size = a.length) (hb : d.size = b.length)
      (hra : ∀ i (h1 : i < a.length) (h2 : i < c.size), Rep w h loc X a[i] c[i]) (hrb : ∀ i (h1 : i < b.length) (h2 : i < d.size), Rep w h loc X b[i] d[i]) :
      Rep w h loc X (.fn f a b) (.func (.func f) c d)
  | ifc (t v x) (hr : Rep w h loc X v x) : Rep w h loc X (.ifc t v) (.iface t x)
  | lst0 (full : Bool) (a : Option Addr) (cap : Nat) (hc : full = true → cap = 0) : Rep w h loc X (.lst full []) (.slice a 0 cap)
  | lst (full : Bool) (l : List AV) (hne : l ≠ []) (s b o cap : Nat) (val : Nat → Value) (hc : full = true → cap = l.length) (hcap : l.length ≤ cap) (hX : ¬ X b) (hb : b < w.heap.size)
      (hs : ∀ x ∈ l, x.cells.length = s) (hlf : ∀ x ∈ flat l, x.leaf = true) (hp : ∀ x ∈ l, x.pure = true)
      (hcell : ∀ k, k < (flat l).length → w.cell? ⟨b, o + k, none⟩ = some (val k))
      (hr : ∀ k (hk : k < (flat l).length), Rep w h loc X (flat l)[k] (val k)) : Rep w h loc X (.lst full l) (.slice (some ⟨b, o, none⟩) l.length cap)
  | own (id n off len : Nat) (a : Addr) (cap : Nat) (hb : begun h id n) (hcap : len ≤ cap)
      (hg : good h id n → a = ⟨loc id, off * sizeAt h id, none⟩ ∧ off + len ≤ lenAt h id ∧ ∃ e z, w.shape? (loc id) = some (e, z) ∧ (off + cap) * sizeAt h id ≤ z) : Rep w h loc X (.own id n off len) (.slice (some a) len cap)
  | ptr (id n idx off : Nat) (a : Addr) (hb : begun h id n) (hg : good h id n → a = ⟨loc id, idx * sizeAt h id + off, none⟩) : Rep w h loc X (.ptr id n idx off) (.pointer (some a))
  | fp (l : List AV) (b o : Nat) (val : Nat → Value) (hX : ¬ X b) (hb : b < w.heap.size) (hlf : ∀ x ∈ l, x.leaf = true) (hp : ∀ x ∈ l, x.pure = true)
      (hcell : ∀ k, k < l.length → w.cell? ⟨b, o + k, none⟩ = some (val k))
      (hr : ∀ k (hk : k < l.length), Rep w h loc X l[k] (val k)) : Rep w h loc X (.fp l) (.pointer (some ⟨b, o, none⟩))
  | top (v : Value) : Rep w h loc X .top v

/-- The place of a block that lives. -/
def Lv (h : AHeap) (loc : Nat → Nat) (b : Nat) : Prop := ∃ id k, h[id]? = some k ∧ k.st = .live ∧ loc id = b

/-- How a world, an abstract heap and its places may change so that whatever was represented still is. -/
structure Keeps (w : World) (h : AHeap) (loc : Nat → Nat) (X : Nat → Prop) (w' : World) (h' : AHeap) (loc' : Nat → Nat) (X' : Nat → Prop) : Prop where
  size : w.heap.size ≤ w'.heap.size
  blk : ∀ b, b < w.heap.size → ¬ X b → w'.heap[b]? = w.heap[b]?
  old : ∀ b, b < w.heap.size → ¬ Lv h loc b → w'.heap[b]? = w.heap[b]?
  liv : ∀ b, b < w.heap.size → Lv h' loc' b → Lv h loc b
  X' : ∀ b, b < w.heap.size → X' b → X b
  begun : ∀ id n, begun h id n → begun h' id n
  sz : ∀ id n, Abs.begun h id n → sizeAt h' id = sizeAt h id
  len : ∀ id n, Abs.begun h id n → Abs.good h' id n → lenAt h' id = lenAt h id
  good : ∀ id n, Abs.begun h id n → good h' id n → good h id n ∧ loc' id = loc id
  shape : ∀ id n e z, Abs.begun h id n → Abs.good h' id n → w.shape? (loc id) = some (e, z) → w'.shape? (loc id) = some (e, z)

theorem Keeps.cell {w h loc X w' h' loc' X'} (k : Keeps w h loc X w' h' loc' X') (b o : Nat) (v : Value) (hX : ¬ X b) (hc : w.cell? ⟨b, o, none⟩ = some v) : w'.cell? ⟨b, o, none⟩ = some v := by
  have hlt : b < w.heap.size := World.block_lt_of_cell? w ⟨b, o, none⟩ hc
  rw [← hc]
  exact World.cell?_of_block (w := w) (k.blk b hlt hX)

theorem Keeps.refl (w h loc X) : Keeps w h loc X w h loc X :=
  ⟨Nat.le_refl _, fun _ _ _ => rfl, fun _ _ _ => rfl, fun _ _ h => h, fun _ _ h => h, fun _ _ h => h, fun _ _ _ => rfl, fun _ _ _ _ => rfl, fun _ _ _ h => ⟨h, rfl⟩, fun _ _ _ _ _ _ h => h⟩

theorem Keeps.trans {w h loc X w1 h1 loc1 X1 w2 h2 loc2 X2} (a : Keeps w h loc X w1 h1 loc1 X1) (b : Keeps w1 h1 loc1 X1 w2 h2 loc2 X2) (hx : ∀ b, b < w.heap.size → X1 b → X b) : Keeps w h loc X w2 h2 loc2 X2 where
  size := Nat.le_trans a.size b.size
  blk := fun bk hlt hX => (b.blk bk (Nat.lt_of_lt_of_le hlt a.size) (fun h => hX (hx bk hlt h))).trans (a.blk bk hlt hX)
  old := fun bk hlt hn => (b.old bk (Nat.lt_of_lt_of_le hlt a.size) (fun h => hn (a.liv bk hlt h))).trans (a.old bk hlt hn)
  liv := fun bk hlt h => a.liv bk hlt (b.liv bk (Nat.lt_of_lt_of_le hlt a.size) h)
  X' := fun bk hlt h => hx bk hlt (b.X' bk (Nat.lt_of_lt_of_le hlt a.size) h)
  begun := fun id n h => b.begun id n (a.begun id n h)
  sz := fun id n h => (b.sz id n (a.begun id n h)).trans (a.sz id n h)
  len := fun id n hb hg => (b.len id n (a.begun id n hb) hg).trans (a.len id n hb (b.good id n (a.begun id n hb) hg).1)
  good := fun id n hb hg => by
    obtain ⟨g1, e1⟩ := b.good id n (a.begun id n hb) hg
    obtain ⟨g0, e0⟩ := a.good id n hb g1
    exact ⟨g0, e1.trans e0⟩
  shape := fun id n e z hb hg hs => by
    obtain ⟨g1, e1⟩ := b.good id n (a.begun id n hb) hg
    have h1 := a.shape id n e z hb g1 hs
    obtain ⟨g0, e0⟩ := a.good id n hb g1
    rw [← e0] at h1 ⊢
    exact b.shape id n e z (a.begun id n hb) hg h1

theorem Rep.keep {w h loc X w' h' loc' X'} (k : Keeps w h loc X w' h' loc' X') : ∀ {a : AV} {v : Value}, Rep w h loc X a v → Rep w' h' loc' X' a v := by
  intro a v hr
  induction hr with
  | int k n => exact .int k n
  | bool b => exact .bool b
  | str l => exact .str l
  | nilp => exact .nilp
  | niface => exact .niface
  | nfun => exact .nfun
  | agg l c hl _ ih => exact .agg l c hl ih
  | tup l c hl _ ih => exact .tup l c hl ih
  | fn f a b c d ha hb _ _ iha ihb => exact .fn f a b c d ha hb iha ihb
  | ifc t v x _ ih => exact .ifc t v x ih
  | lst0 full a cap hc => exact .lst0 full a cap hc
  | lst full l hne s b o cap val hc hcap hX hb hs hlf hp hcell _ ih =>
    exact .lst full l hne s b o cap val hc hcap (fun hx => hX (k.X' b hb hx)) (Nat.lt_of_lt_of_le hb k.size) hs hlf hp (fun i hi => k.cell _ _ _ hX (hcell i hi)) ih
  | own id n off len a cap hb hcap hg =>
    refine .own id n off len a cap (k.begun _ _ hb) hcap fun hg' => ?_
    obtain ⟨g, e⟩ := k.good id n hb hg'
    obtain ⟨ha, hlen, el, z, hz, hle'⟩ := hg g
    rw [e, k.sz id n hb, k.len id n hb hg']
    exact ⟨ha, hlen, el, z, k.shape id n el z hb hg' hz, hle'⟩
  | ptr id n idx off a hb hg =>
    refine .ptr id n idx off a (k.begun _ _ hb) fun hg' => ?_
    obtain ⟨g, e⟩ := k.good id n hb hg'
    rw [e, k.sz id n hb]
    exact hg g
  | fp l b o val hX hb hlf hp hcell _ ih =>
    exact .fp l b o val (fun hx => hX (k.X' b hb hx)) (Nat.lt_of_lt_of_le hb k.size) hlf hp (fun i hi => k.cell _ _ _ hX (hcell i hi)) ih
  | top v => exact .top v

end Go.Proofs.Abs

-- ---- Abs2
namespace Go.Proofs.Abs

inductive PX where
  | t (i : Nat)
  | k (v : AV)
  | f (g : Nat)
  deriving Inhabited

inductive PO where
  | mv (x : PX)
  | pick (c a b : PX)
  | al (r : Nat) (z : AV)
  | bx (x : PX)
  | bxm (r : Nat) (x : PX)
  | bxd (r : Nat) (x : PX)
  | bld (z : List AV) (ps : List (Nat × Nat × PX))
  | bsl (z : AV) (n : Nat) (ps : List (Nat × PX))
  | bslm (r : Nat) (z : AV) (n : Nat) (ps : List (Nat × PX))
  | ld (n : Option Nat) (x : PX)
  | st (n : Nat) (x v : PX)
  | nc (x : PX)
  | bn (op : BinOp) (kd : Nat) (x y : PX)
  | eqs (neg : Bool) (ks : List Nat) (x y : PX)
  | nlt (neg : Bool) (x : PX)
  | un (op : UnOp) (x : PX)
  | cv (k : IntKind) (x : PX)
  | cvs (x : PX)
  | cvl (x : PX)
  | cvu (x : PX)
  | b2s (x : PX)
  | s2b (r : Nat) (x : PX)
  | fa (o : Nat) (x : PX)
  | fd (o : Nat) (n : Option Nat) (x : PX)
  | ia (s : Nat) (x i : PX)
  | iaa (len s : Nat) (x i : PX)
  | ix (x i : PX)
  | ixa (len s : Nat) (ag : Bool) (x i : PX)
  | sl (s : Nat) (x : PX) (lo hi mx : Option PX)
  | sls (x : PX) (lo hi : Option PX)
  | mk (r : Nat) (z : AV) (l c : PX)
  | mkf (z : AV) (l c : PX)
  | ext (x : PX) (i : Nat)
  | mf (f : Nat) (first cap : List PX)
  | mi (t : Nat) (x : PX)
  | ta (t : Nat) (ok : Bool) (z : AV) (x : PX)
  | len (str : Bool) (x : PX)
  | lenk (n : Nat)
  | app (r s : Nat) (x y : PX)
  | cpy (s : Nat) (x y : PX)
  | mn (l : List PX)
  | mx (l : List PX)
  | clr (z : AV) (x : PX)
  | call (m f : Nat) (args : List PX)
  | callv (m : Nat) (x : PX) (args : List PX)
  | inv (m : Nat) (tbl : List (Nat × Nat × Option (Option Nat))) (x : PX) (args : List PX)
  | bad
  deriving Inhabited

def xv (t : List AV) : PX → AV
  | .t i => t.getD i (.tup [])
  | .k v => v
  | .f g => .fn g [] []

def AV.solid : AV → Bool
  | .agg l => l.all AV.leaf
  | .tup _ | .top => false
  | _ => true

mutual
/-- No reference to a block from 'b' on. -/
def AV.under (b : Nat) : AV → Bool
  | .own id .. | .ptr id .. => id < b
  | .agg l | .tup l => unders b l
  | .fn _ x y => unders b x && unders b y
  | .ifc _ v => v.under b
  | _ => true
def unders (b : Nat) : List AV → Bool
  | [] => true
  | v :: l => v.under b && unders b l
end

/-- The elements that a good slice of the heap has. -/
def win (h : AHeap) (id n off len : Nat) : Option (List AV) :=
  match h[id]? with
  | some ⟨.live, _, v, es⟩ => if v = n then (if off + len ≤ es.length then some ((es.drop off).take len) else none) else none
  | _ => none

mutual
/-- What is told of a value when its blocks are written no more. -/
def AV.frz (h : AHeap) : AV → Option AV
  | .own id n off len => ((win h id n off len).bind fun l => if pures l then some (.lst false l) else none)
  | .ptr id n idx off => match h[id]? with
    | some ⟨.live, _, v, es⟩ => if v = n then ((es[idx]?).bind fun e => if e.pure then some (.fp (e.cells.drop off)) else none) else none
    | _ => none
  | .agg l => (frzs h l).map .agg
  | .tup l => (frzs h l).map .tup
  | .fn f a b => (frzs h a).bind fun a => (frzs h b).map fun b => .fn f a b
  | .ifc t v => (v.frz h).map (.ifc t)
  | .lst _ l => some (.lst false l)
  | v => some v
def frzs (h : AHeap) : List AV → Option (List AV)
  | [] => some []
  | v :: l => (v.frz h).bind fun v => (frzs h l).map fun l => v :: l
end

mutual
/-- References moved by 'k'. -/
def AV.shift (k : Nat) : AV → AV
  | .own id n off len => .own (k + id) n off len
  | .ptr id n idx off => .ptr (k + id) n idx off
  | .agg l => .agg (shifts k l)
  | .tup l => .tup (shifts k l)
  | .fn f a b => .fn f (shifts k a) (shifts k b)
  | .ifc t v => .ifc t (v.shift k)
  | v => v
def shifts (k : Nat) : List AV → List AV
  | [] => []
  | v :: l => v.shift k :: shifts k l
end

def ldc : Option Nat → List AV → Option AV
  | none, v :: _ => some v
  | none, [] => none
  | some n, l => if n ≤ l.length then some (.agg (l.take n)) else none

def setc (e : AV) (off : Nat) (vs : List AV) : AV :=
  match e with
  | .agg l => .agg (l.take off ++ vs ++ l.drop (off + vs.length))
  | _ => vs.headD e

def rdp (h : AHeap) (id n idx off : Nat) : Option (List AV) :=
  match h[id]? with
  | some ⟨.live, _, v, es⟩ => if v = n then (es[idx]?).map (fun e => e.cells.drop off) else none
  | _ => none

def wrp (h : AHeap) (id n idx off : Nat) (vs : List AV) : Option AHeap :=
  match h[id]? with
  | some ⟨.live, s, v, es⟩ => if v = n then (match es[idx]? with
      | some e => if off + vs.length ≤ e.cells.length then some (h.set id ⟨.live, s, v, es.set idx (setc e off vs)⟩) else none
      | none => none) else none
  | _ => none

/-- A new block: behind the others ('r' is 0), or in the room that was left. -/
def alc (h : AHeap) (b r : Nat) (k : Blk) : Option (Nat × AHeap) :=
  match r with
  | 0 => some (h.length, h ++ [k])
  | r + 1 => match h[b + r]? with
    | some ⟨.hole, 0, _, _⟩ => some (b + r, h.set (b + r) k)
    | _ => none

def most : Nat := 1073741824

/-- Cells of structs held against one another: whole numbers (0), bools (1), texts (2). -/
def immEq : Nat → AV → AV → Option Bool
  | 0, .int k a, .int k' b => if k = k' then some (a == b) else none
  | 1, .bool a, .bool b => some (a == b)
  | 2, .str a, .str b => some (a == b)
  | _, _, _ => none
def immEqs : List Nat → List AV → List AV → Option Bool
  | [], [], [] => some true
  | k :: ks, a :: l, b :: m => (immEq k a b).bind fun x => (immEqs ks l m).map fun y => x && y
  | _, _, _ => none

def bnInt (op : BinOp) (k : IntKind) (a b : Int) : Option AV :=
  match op with
  | .add => some (.int k (k.wrap (a + b)))
  | .sub => some (.int k (k.wrap (a - b)))
  | .mul => some (.int k (k.wrap (a * b)))
  | .quo => if b = 0 then none else some (.int k (k.wrap (a.tdiv b)))
  | .rem => if b = 0 then none else some (.int k (a.tmod b))
  | .and => some (.int k (k.wrap (BitVec.ofInt k.bits a &&& BitVec.ofInt k.bits b).toNat))
  | .or => some (.int k (k.wrap (BitVec.ofInt k.bits a ||| BitVec.ofInt k.bits b).toNat))
  | .xor => some (.int k (k.wrap (BitVec.ofInt k.bits a ^^^ BitVec.ofInt k.bits b).toNat))
  | .andNot => some (.int k (k.wrap (BitVec.ofInt k.bits a &&& ~~~ BitVec.ofInt k.bits b).toNat))
  | .eql => some (.bool (a == b))
  | .neq => some (.bool (a != b))
  | .lss => some (.bool (decide (a < b)))
  | .leq => some (.bool (decide (a ≤ b)))
  | .gtr => some (.bool (decide (a > b)))
  | .geq => some (.bool (decide (a ≥ b)))
  | _ => none

def bnShift (op : BinOp) (k : IntKind) (a b : Int) : Option AV :=
  match op with
  | .shl => if b < 0 then none else some (.int k (k.wrap (a * 2 ^ (min b.toNat k.bits))))
  | .shr => if b < 0 then none else some (.int k (a.fdiv (2 ^ (min b.toNat k.bits))))
  | _ => none

def isShift : BinOp → Bool
  | .shl | .shr => true
  | _ => false

def bnStr (op : BinOp) (a b : List UInt8) : Option AV :=
  match op with
  | .add => if a.length + b.length ≤ most then some (.str (a ++ b)) else none
  | .eql => some (.bool (a == b))
  | .neq => some (.bool (!(a == b)))
  | .lss => some (.bool (Op.bytesLess a b))
  | .leq => some (.bool (Op.bytesLess a b || a == b))
  | .gtr => some (.bool (!(Op.bytesLess a b || a == b)))
  | .geq => some (.bool (!(Op.bytesLess a b)))
  | _ => none

/-- Two values held against each other by sight, by the kind of their type: bools (1), pointers (2), functions (3), interfaces (5) against nil. -/
def eqv : Nat → AV → AV → Option Bool
  | 1, .bool a, .bool b => some (a == b)
  | 2, .nilp, .nilp => some true
  | 2, .nilp, .ptr .. | 2, .nilp, .fp _ | 2, .ptr .., .nilp | 2, .fp _, .nilp => some false
  | 3, .nfun, .nfun => some true
  | 3, .nfun, .fn .. | 3, .fn .., .nfun => some false
  | 5, .niface, .ifc .. | 5, .ifc .., .niface => some false
  | _, _, _ => none

def bn (op : BinOp) (kd : Nat) (x y : AV) : Option AV :=
  match x, y with
  | .int k a, .int k' b => if isShift op then bnShift op k a b else if k = k' then bnInt op k a b else none
  | .str a, .str b => bnStr op a b
  | x, y => match op with
    | .eql => (eqv kd x y).map .bool
    | .neq => (eqv kd x y).map fun b => .bool !b
    | _ => none

def un (op : UnOp) (x : AV) : Option AV :=
  match op, x with
  | .not, .bool b => some (.bool !b)
  | .neg, .int k n => some (.int k (k.wrap (0 - n)))
  | .xor, .int k n => some (.int k (k.wrap (BitVec.ofInt k.bits (if k.signed then -1 else k.max) ^^^ BitVec.ofInt k.bits n).toNat))
  | _, _ => none

def byteOf? : AV → Option UInt8
  | .int .u8 n => some (UInt8.ofNat n.toNat)
  | _ => none
def bytesOf? : List AV → Option (List UInt8)
  | [] => some []
  | v :: l => (byteOf? v).bind fun b => (bytesOf? l).map fun m => b :: m
def avByte (b : UInt8) : AV := .int .u8 b.toNat

/-- A bound of a slice expression. -/
def bnd (t : List AV) (most : Nat) : Option PX → (els : Nat) → Option Nat
  | none, e => some e
  | some x, _ => match xv t x with
    | .int _ i => if 0 ≤ i ∧ i ≤ most then some i.toNat else none
    | _ => none

def fill : List AV → List (Nat × Nat × AV) → Option (List AV)
  | cs, [] => some cs
  | cs, (off, size, v) :: r => if v.cells.length = size ∧ off + size ≤ cs.length ∧ v.solid = true then fill (cs.take off ++ v.cells ++ cs.drop (off + size)) r else none

def fillE (s : Nat) : List AV → List (Nat × AV) → Option (List AV)
  | es, [] => some es
  | es, (i, v) :: r => if v.cells.length = s ∧ i < es.length ∧ v.solid = true then fillE s (es.set i v) r else none

def hds (s : Nat) : List AV → Bool
  | [] => true
  | v :: _ => v.cells.length == s

/-- The elements of whatever can be appended, or copied from. -/
def elemsOf (h : AHeap) (s : Nat) : AV → Option (List AV)
  | .lst _ l => if hds s l then some l else none
  | .own id n off len => (win h id n off len).bind fun l => if hds s l then some l else none
  | .str l => if s = 1 then some (l.map avByte) else none
  | _ => none

/-- What an append may look at: with room that was left, no block. -/
def roomH : Nat → AHeap → AHeap
  | 0, h => h
  | _ + 1, _ => []

def minL : List AV → Option AV
  | .int k x :: .int _ y :: r => minL (.int k (if y < x then y else x) :: r)
  | [.int k x] => some (.int k x)
  | _ => none
  termination_by l => l.length
def maxL : List AV → Option AV
  | .int k x :: .int _ y :: r => maxL (.int k (if y > x then y else x) :: r)
  | [.int k x] => some (.int k x)
  | _ => none
  termination_by l => l.length

abbrev OpR := Option (AV × AHeap)

/-- An operation that calls nothing. -/
def opH (t : List AV) (h : AHeap) (b : Nat) : PO → OpR
  | .mv x => some (xv t x, h)
  | .pick c x y => match xv t c with
    | .bool v => some (cond v (xv t x) (xv t y), h)
    | _ => none
  | .al r z => (alc h b r ⟨.live, z.cells.length, 0, [z]⟩).map fun p => (.ptr p.1 0 0 0, p.2)
  | .bx x => if (xv t x).solid && (xv t x).pure then some (.fp (xv t x).cells, h) else none
  | .bxd r x => if (xv t x).solid && (xv t x).pure then some (.fp (xv t x).cells, h) else if (xv t x).solid then (alc h b r ⟨.live, (xv t x).cells.length, 0, [xv t x]⟩).map fun p => (.ptr p.1 0 0 0, p.2) else none
  | .bxm r x => if (xv t x).solid then (alc h b r ⟨.live, (xv t x).cells.length, 0, [xv t x]⟩).map fun p => (.ptr p.1 0 0 0, p.2) else none
  | .bld z ps => (fill z (ps.map fun p => (p.1, p.2.1, xv t p.2.2))).map fun l => (.agg l, h)
  | .bsl z n ps => (fillE z.cells.length (List.replicate n z) (ps.map fun p => (p.1, xv t p.2))).bind fun l => if pures l then some (.lst true l, h) else none
  | .bslm r z n ps => (fillE z.cells.length (List.replicate n z) (ps.map fun p => (p.1, xv t p.2))).bind fun l =>
      (alc h b r ⟨.live, z.cells.length, n, l⟩).map fun p => (.own p.1 n 0 n, p.2)
  | .ld n x => match xv t x with
    | .fp l => (ldc n l).map fun v => (v, h)
    | .ptr id v i o => ((rdp h id v i o).bind (ldc n)).map fun v => (v, h)
    | _ => none
  | .st n x v => match xv t x with
    | .ptr id ver i o => if (xv t v).cells.length = n ∧ (xv t v).solid = true then (wrp h id ver i o (xv t v).cells).map fun h => (.tup [], h) else none
    | _ => none
  | .nc x => match xv t x with
    | .fp l => some (.fp l, h)
    | .ptr id v i o => some (.ptr id v i o, h)
    | .fn f x y => some (.fn f x y, h)
    | _ => none
  | .bn op kd x y => (bn op kd (xv t x) (xv t y)).map fun v => (v, h)
  | .eqs neg ks x y => match xv t x, xv t y with
    | .agg l, .agg m => (immEqs ks l m).map fun v => (.bool (v != neg), h)
    | _, _ => none
  | .nlt neg x => match xv t x with
    | .lst _ (_ :: _) => some (.bool neg, h)
    | .own .. => some (.bool neg, h)
    | _ => none
  | .un op x => (un op (xv t x)).map fun v => (v, h)
  | .cv k x => match xv t x with
    | .int _ n => some (.int k (k.wrap n), h)
    | _ => none
  | .cvs x => match xv t x with
    | .str l => some (.str l, h)
    | _ => none
  | .cvl x => match xv t x with
    | .own id n off len => (win h id n off len).map fun _ => (.own id n off len, h)
    | _ => none
  | .cvu x => match xv t x with
    | .ptr id n i o => (rdp h id n i o).bind fun l => match l with
      | _ :: _ => some (.ptr id n i o, h)
      | [] => none
    | _ => none
  | .b2s x => match xv t x with
    | .lst _ l => (bytesOf? l).map fun m => (.str m, h)
    | .own id n off len => ((win h id n off len).bind bytesOf?).map fun m => (.str m, h)
    | _ => none
  | .s2b r x => match xv t x, r with
    | .str l, 0 => some (.lst false (l.map avByte), h)
    | .str l, r + 1 => (alc h b r ⟨.live, 1, l.length, l.map avByte⟩).map fun p => (.own p.1 l.length 0 l.length, p.2)
    | _, _ => none
  | .fa o x => match xv t x with
    | .fp l => some (.fp (l.drop o), h)
    | .ptr id v i p => some (.ptr id v i (p + o), h)
    | _ => none
  | .fd o n x => match xv t x with
    | .agg l => (ldc n (l.drop o)).map fun v => (v, h)
    | _ => none
  | .ia s x i => match xv t x, xv t i with
    | .lst _ l, .int _ j => if 0 ≤ j then (match l[j.toNat]? with
      | some e => if e.cells.length = s then some (.fp e.cells, h) else none
      | none => none) else none
    | .own id n off len, .int _ j => if 0 ≤ j ∧ j < len then (if sizeAt h id = s then some (.ptr id n (off + j.toNat) 0, h) else none) else none
    | _, _ => none
  | .iaa m s x i => match xv t x, xv t i with
    | .fp l, .int _ j => if 0 ≤ j ∧ j < m then some (.fp (l.drop (j.toNat * s)), h) else none
    | .ptr id n k o, .int _ j => if 0 ≤ j ∧ j < m then some (.ptr id n k (o + j.toNat * s), h) else none
    | _, _ => none
  | .ix x i => match xv t x, xv t i with
    | .str l, .int _ j => if 0 ≤ j then (match l[j.toNat]? with
      | some c => some (avByte c, h)
      | none => none) else none
    | _, _ => none
  | .ixa m s ag x i => match xv t x, xv t i with
    | .agg l, .int _ j => if 0 ≤ j ∧ j < m then (ldc (cond ag (some s) none) (l.drop (j.toNat * s))).map fun v => (v, h) else none
    | _, _ => none
  | .sl s x lo hi mx => match xv t x with
    | .lst f l => (bnd t l.length mx l.length).bind fun m => (bnd t m hi l.length).bind fun c => (bnd t c lo 0).bind fun a =>
        if hds s l then some (.lst (mx.isSome && m == c || f && mx.isNone && c == l.length) ((l.take c).drop a), h) else none
    | .own id n off len => if mx.isSome then none else (bnd t len hi len).bind fun c => (bnd t c lo 0).bind fun a =>
        if sizeAt h id = s then some (if a = 0 then .own id n off c else if a = c then .lst false [] else .own id n (off + a) (c - a), h) else none
    | _ => none
  | .sls x lo hi => match xv t x with
    | .str l => (bnd t l.length hi l.length).bind fun c => (bnd t c lo 0).bind fun a => some (.str ((l.take c).drop a), h)
    | _ => none
  | .mk r z l c => match xv t l, xv t c with
    | .int _ n, .int _ m => if 0 ≤ n ∧ n ≤ m ∧ m ≤ most then (alc h b r ⟨.live, z.cells.length, n.toNat, List.replicate n.toNat z⟩).map fun p => (.own p.1 n.toNat 0 n.toNat, p.2) else none
    | _, _ => none
  | .mkf z l c => match xv t l, xv t c with
    | .int _ n, .int _ m => if 0 ≤ n ∧ n ≤ m ∧ m ≤ most then some (.lst (n == m) (List.replicate n.toNat z), h) else none
    | _, _ => none
  | .ext x i => match xv t x with
    | .tup l => (l[i]?).map fun v => (v, h)
    | _ => none
  | .mf f a c => some (.fn f (a.map (xv t)) (c.map (xv t)), h)
  | .mi ty x => some (.ifc ty (xv t x), h)
  | .ta ty ok z x => match xv t x with
    | .ifc ty' v => if ty' = ty then some (cond ok (.tup [v, .bool true]) v, h) else if ok then some (.tup [z, .bool false], h) else none
    | .niface => if ok then some (.tup [z, .bool false], h) else none
    | _ => none
  | .len str x => match str, xv t x with
    | false, .lst _ l => some (.int .i64 l.length, h)
    | false, .own _ _ _ len => some (.int .i64 len, h)
    | true, .str l => some (.int .i64 l.length, h)
    | _, _ => none
  | .lenk n => some (.int .i64 n, h)
  | .app r s x y => (elemsOf (roomH r h) s (xv t y)).bind fun ys => match ys with
    | [] => (match xv t x with
      | .lst f l => some (.lst f l, h)
      | .own id n off len => some (.own id n off len, h)
      | _ => none)
    | y :: ys => match xv t x with
      | .lst true l => if hds s l && decide (l.length + (ys.length + 1) ≤ most) then (alc h b r ⟨.live, s, l.length + (ys.length + 1), l ++ y :: ys⟩).map fun p => (.own p.1 (l.length + (ys.length + 1)) 0 (l.length + (ys.length + 1)), p.2) else none
      | .own id n 0 len => match h[id]? with
        | some ⟨.live, s', v, es⟩ => if v = n ∧ s' = s ∧ len ≤ es.length ∧ len + (ys.length + 1) ≤ most then
            some (.own id (v + (ys.length + 1)) 0 (len + (ys.length + 1)), h.set id ⟨.live, s, v + (ys.length + 1), es.take len ++ y :: ys⟩) else none
        | _ => none
      | _ => none
  | .cpy s x y => (elemsOf h s (xv t y)).bind fun ys => match xv t x with
    | .own id n off len => match h[id]? with
      | some ⟨.live, s', v, es⟩ => if v = n ∧ s' = s ∧ off + len ≤ es.length then
          some (.int .i64 ((min ys.length len : Nat) : Int), h.set id ⟨.live, s, v, es.take off ++ ys.take len ++ es.drop (off + min ys.length len)⟩) else none
      | _ => none
    | _ => none
  | .mn l => (minL (l.map (xv t))).map fun v => (v, h)
  | .mx l => (maxL (l.map (xv t))).map fun v => (v, h)
  | .clr z x => match xv t x with
    | .own id n off len => match h[id]? with
      | some ⟨.live, s, v, es⟩ => if v = n ∧ s = z.cells.length ∧ off + len ≤ es.length then
          some (.tup [], h.set id ⟨.live, s, v, es.take off ++ List.replicate len z ++ es.drop (off + len)⟩) else none
      | _ => none
    | .lst _ [] => some (.tup [], h)
    | _ => none
  | _ => none

end Go.Proofs.Abs

-- ---- Abs3
set_option linter.unusedSimpArgs false
set_option linter.unusedVariables false
namespace Go.Proofs.Abs
open Go.RowKit

/-- What no frozen thing lies in: what the caller keeps from us, and the places of our own blocks. -/
def XH (X0 : Nat → Prop) (h : AHeap) (loc : Nat → Nat) (b : Nat) : Prop := X0 b ∨ ∃ id k, h[id]? = some k ∧ k.st = .live ∧ loc id = b

/-- Of a row at most what lies behind its cells is frozen. -/
def FrOK (n : Nat) (fr : Nat × Nat) : Prop := fr.1 = fr.2 ∨ (n ≤ fr.1 ∧ fr.1 ≤ fr.2)

theorem FrOK.free {n : Nat} {fr : Nat × Nat} (h : FrOK n fr) : ∀ j, j < n → ¬ (fr.1 ≤ j ∧ j < fr.2) := by
  unfold FrOK at h
  intro j hj
  omega

structure BlkAt (B : Nat) (w : World) (h : AHeap) (loc : Nat → Nat) (X : Nat → Prop) (p : Nat) (s : Nat) (es : List AV) : Prop where
  le : B ≤ p
  row : ∃ (row : Array Value) (e : TypeId) (fr : Nat × Nat), w.heap[p]? = some (.cells row e fr) ∧ FrOK row.size fr ∧ (flat es).length ≤ row.size ∧
    ∀ i (hi : i < (flat es).length), ∃ v, row[i]? = some v ∧ Rep w h loc X (flat es)[i] v
  s : ∀ x ∈ es, x.cells.length = s
  leaf : ∀ x ∈ flat es, x.leaf = true

structure HRel (B : Nat) (X0 : Nat → Prop) (w : World) (h : AHeap) (loc : Nat → Nat) : Prop where
  inj : ∀ i j a b, h[i]? = some a → h[j]? = some b → a.st = .live → b.st = .live → loc i = loc j → i = j
  blk : ∀ id k, h[id]? = some k → k.st = .live → BlkAt B w h loc (XH X0 h loc) (loc id) k.s k.es

/-- The state of memory, since world 'w0'. -/
structure Wrel (w0 : World) (X0 : Nat → Prop) (w : World) (h : AHeap) (loc : Nat → Nat) : Prop where
  below : Below w0.heap.size w0 w
  x0 : ∀ b, X0 b → b < w.heap.size ∧ ¬ Lv h loc b
  heap : HRel w0.heap.size X0 w h loc

theorem Wrel.x1 {w0 : World} {X0 : Nat → Prop} {w : World} {h : AHeap} {loc : Nat → Nat} {X w1 h1 loc1 X1} (W : Wrel w0 X0 w h loc) (K : Keeps w h loc X w1 h1 loc1 X1) : ∀ b, X0 b → b < w1.heap.size ∧ ¬ Lv h1 loc1 b :=
  fun b hb => ⟨Nat.lt_of_lt_of_le (W.x0 b hb).1 K.size, fun hl => (W.x0 b hb).2 (K.liv b (W.x0 b hb).1 hl)⟩

theorem BlkAt.keep {B w h loc X w1 h1 loc1 X1 p s es} (k : Keeps w h loc X w1 h1 loc1 X1) (hp : w1.heap[p]? = w.heap[p]?) (H : BlkAt B w h loc X p s es) : BlkAt B w1 h1 loc1 X1 p s es := by
  refine ⟨H.le, ?_, H.s, H.leaf⟩
  obtain ⟨row, e, fr, hr, hf, hl, hv⟩ := H.row
  exact ⟨row, e, fr, hp.trans hr, hf, hl, fun i hi => by obtain ⟨v, a, b⟩ := hv i hi; exact ⟨v, a, b.keep k⟩⟩

/-- One block of the abstract heap changes, and with it at most its own place in memory, or a new place. -/
structure Chg (B : Nat) (w : World) (h : AHeap) (loc : Nat → Nat) (w1 : World) (h1 : AHeap) (loc1 : Nat → Nat) (id : Nat) (k1 : Blk) : Prop where
  size : w.heap.size ≤ w1.heap.size
  blk : ∀ b, b < w.heap.size → (∀ k, h[id]? = some k → k.st = .live → b ≠ loc id) → w1.heap[b]? = w.heap[b]?
  oth : ∀ j, j ≠ id → h1[j]? = h[j]?
  at1 : h1[id]? = some k1
  pl : ∀ j, j ≠ id → loc1 j = loc j
  old : (h[id]? = none ∨ ∃ k, h[id]? = some k ∧ k.st = .hole) ∨ ∃ k, h[id]? = some k ∧ k.st = .live ∧ k.s = k1.s ∧ k1.st ≠ .hole ∧ k.ver ≤ k1.ver ∧
    (k1.st = .live → k1.ver = k.ver → loc1 id = loc id ∧ k1.es.length = k.es.length ∧ ∀ e z, w.shape? (loc id) = some (e, z) → w1.shape? (loc id) = some (e, z))
  new : k1.st = .live → (loc1 id = loc id ∧ ∃ k, h[id]? = some k ∧ k.st = .live) ∨ w.heap.size ≤ loc1 id

theorem shape_of_block {w w1 : World} {b : Nat} (h : w1.heap[b]? = w.heap[b]?) : w1.shape? b = w.shape? b := by simp [World.shape?, h]

theorem Chg.keeps {B X0 w h loc w1 h1 loc1 id k1} (H : HRel B X0 w h loc) (c : Chg B w h loc w1 h1 loc1 id k1) :
    Keeps w h loc (XH X0 h loc) w1 h1 loc1 (XH X0 h1 loc1) where
  size := c.size
  blk := fun b hlt hX => c.blk b hlt (fun k hk hl hb => hX (.inr ⟨id, k, hk, hl, hb.symm⟩))
  old := fun b hlt hn => c.blk b hlt (fun k hk hl hb => hn ⟨id, k, hk, hl, hb.symm⟩)
  liv := fun b hlt hx => by
    obtain ⟨j, k, hk, hl, rfl⟩ := hx
    by_cases hj : j = id
    · subst hj
      rw [c.at1] at hk
      obtain rfl : k1 = k := by simpa using hk
      rcases c.new hl with ⟨e, k, hk, hl⟩ | h
      · exact ⟨j, k, hk, hl, e.symm⟩
      · omega
    · rw [c.oth j hj] at hk
      exact ⟨j, k, hk, hl, (c.pl j hj).symm⟩
  X' := fun b hlt hx => by
    rcases hx with hx | ⟨j, k, hk, hl, rfl⟩
    · exact .inl hx
    · by_cases hj : j = id
      · subst hj
        rw [c.at1] at hk
        obtain rfl : k1 = k := by simpa using hk
        rcases c.new hl with ⟨e, k, hk, hl⟩ | h
        · exact .inr ⟨j, k, hk, hl, e.symm⟩
        · omega
      · rw [c.oth j hj] at hk
        exact .inr ⟨j, k, hk, hl, (c.pl j hj).symm⟩
  begun := fun j n hb => by
    by_cases hj : j = id
    · subst hj
      obtain ⟨k, hk, hn, hle⟩ := hb
      rcases c.old with (h0 | ⟨k', hk', hh⟩) | ⟨k', hk', _, _, h2, h3, _⟩
      · simp [h0] at hk
      · rw [hk'] at hk; simp at hk; subst hk; exact absurd hh hn
      · rw [hk'] at hk; simp at hk; subst hk; exact ⟨k1, c.at1, h2, by omega⟩
    · obtain ⟨k, hk, hn, hle⟩ := hb
      exact ⟨k, (c.oth j hj).trans hk, hn, hle⟩
  sz := fun j n hb => by
    by_cases hj : j = id
    · subst hj
      obtain ⟨k, hk, hn, hle⟩ := hb
      rcases c.old with (h0 | ⟨k', hk', hh⟩) | ⟨k', hk', _, h1, h2, h3, _⟩
      · simp [h0] at hk
      · rw [hk'] at hk; simp at hk; subst hk; exact absurd hh hn
      · simp [sizeAt, c.at1, hk', h1]
    · simp [sizeAt, c.oth j hj]
  len := fun j n hb hg => by
    by_cases hj : j = id
    · subst hj
      obtain ⟨k, hk, hn, hle⟩ := hb
      obtain ⟨k', hk', hl', hv'⟩ := hg
      rw [c.at1] at hk'
      obtain rfl : k1 = k' := by simpa using hk'
      rcases c.old with (h0 | ⟨k', hk', hh⟩) | ⟨k', hk', _, h1, h2, h3, h4⟩
      · simp [h0] at hk
      · rw [hk'] at hk; simp at hk; subst hk; exact absurd hh hn
      · rw [hk'] at hk; simp at hk; subst hk
        simp [lenAt, c.at1, hk', (h4 hl' (by omega)).2.1]
    · simp [lenAt, c.oth j hj]
  good := fun j n hb hg => by
    by_cases hj : j = id
    · subst hj
      obtain ⟨k, hk, hn, hle⟩ := hb
      obtain ⟨k', hk', hl', hv'⟩ := hg
      rw [c.at1] at hk'
      obtain rfl : k1 = k' := by simpa using hk'
      rcases c.old with (h0 | ⟨k', hk', hh⟩) | ⟨k', hk', hl, h1, h2, h3, h4⟩
      · simp [h0] at hk
      · rw [hk'] at hk; simp at hk; subst hk; exact absurd hh hn
      · rw [hk'] at hk; simp at hk; subst hk
        exact ⟨⟨k', hk', hl, by omega⟩, (h4 hl' (by omega)).1⟩
    · obtain ⟨k', hk', hl', hv'⟩ := hg
      rw [c.oth j hj] at hk'
      exact ⟨⟨k', hk', hl', hv'⟩, c.pl j hj⟩
  shape := fun j n e z hb hg hs => by
    by_cases hj : j = id
    · subst hj
      obtain ⟨k, hk, hn, hle⟩ := hb
      obtain ⟨k', hk', hl', hv'⟩ := hg
      rw [c.at1] at hk'
      obtain rfl : k1 = k' := by simpa using hk'
      rcases c.old with (h0 | ⟨k', hk', hh⟩) | ⟨k', hk', hl, h1, h2, h3, h4⟩
      · simp [h0] at hk
      · rw [hk'] at hk; simp at hk; subst hk; exact absurd hh hn
      · rw [hk'] at hk; simp at hk; subst hk
        exact (h4 hl' (by omega)).2.2 e z hs
    · obtain ⟨k', hk', hl', hv'⟩ := hg
      rw [c.oth j hj] at hk'
      have hlt : loc j < w.heap.size := by
        rcases Nat.lt_or_ge (loc j) w.heap.size with h | h
        · exact h
        · simp [World.shape?, Array.getElem?_eq_none h] at hs
      rw [shape_of_block (c.blk (loc j) hlt (fun k hk hl e => hj (H.inj _ _ _ _ hk' hk hl' hl e)))]
      exact hs

theorem Chg.heap {B X0 w h loc w1 h1 loc1 id k1} (H : HRel B X0 w h loc) (c : Chg B w h loc w1 h1 loc1 id k1)
    (hat : k1.st = .live → BlkAt B w1 h1 loc1 (XH X0 h1 loc1) (loc1 id) k1.s k1.es) : HRel B X0 w1 h1 loc1 where
  inj := fun i j a b hi hj ha hb he => by
    have lt : ∀ j b, j ≠ id → h1[j]? = some b → b.st = .live → loc1 j < w.heap.size := fun j b hj hb hl => by
      rw [c.oth j hj] at hb
      rw [c.pl j hj]
      obtain ⟨row, e, fr, hr, _⟩ := (H.blk j b hb hl).row
      exact (Array.getElem?_eq_some_iff.1 hr).1
    have key : ∀ i j a b, i = id → j ≠ id → h1[i]? = some a → h1[j]? = some b → a.st = .live → b.st = .live → loc1 i = loc1 j → False := by
      intro i j a b hi' hj' hi hj ha hb he
      subst hi'
      rw [c.at1] at hi
      obtain rfl : k1 = a := by simpa using hi
      rcases c.new ha with ⟨e, k, hk, hl⟩ | h
      · have hj0 := hj
        rw [c.oth j hj'] at hj0
        rw [e, c.pl j hj'] at he
        exact hj' (H.inj _ _ _ _ hj0 hk hb hl he.symm)
      · have := lt j b hj' hj hb
        omega
    by_cases hii : i = id
    · by_cases hjj : j = id
      · rw [hii, hjj]
      · exact (key i j a b hii hjj hi hj ha hb he).elim
    · by_cases hjj : j = id
      · exact (key j i b a hjj hii hj hi hb ha he.symm).elim
      · rw [c.oth i hii] at hi
        rw [c.oth j hjj] at hj
        rw [c.pl i hii, c.pl j hjj] at he
        exact H.inj _ _ _ _ hi hj ha hb he
  blk := fun j k hk hl => by
    by_cases hj : j = id
    · subst hj
      rw [c.at1] at hk
      obtain rfl : k1 = k := by simpa using hk
      exact hat hl
    · rw [c.oth j hj] at hk
      rw [c.pl j hj]
      have hb := H.blk j k hk hl
      obtain ⟨row, e, fr, hr, _⟩ := hb.row
      exact hb.keep (c.keeps H) (c.blk _ (Array.getElem?_eq_some_iff.1 hr).1 (fun k' hk' hl' e => hj (H.inj _ _ _ _ hk hk' hl hl' e)))

/-- Memory changes without the abstract heap: no old block does. -/
theorem keeps_same {X0 w h loc w1} (hs : w.heap.size ≤ w1.heap.size) (hb : ∀ b, b < w.heap.size → w1.heap[b]? = w.heap[b]?) : Keeps w h loc (XH X0 h loc) w1 h loc (XH X0 h loc) where
  size := hs
  blk := fun b hlt _ => hb b hlt
  old := fun b hlt _ => hb b hlt
  liv := fun _ _ h => h
  X' := fun _ _ h => h
  begun := fun _ _ h => h
  sz := fun _ _ _ => rfl
  len := fun _ _ _ _ => rfl
  good := fun _ _ _ h => ⟨h, rfl⟩
  shape := fun j _ e z _ _ hz => by
    have hlt : loc j < w.heap.size := by
      rcases Nat.lt_or_ge (loc j) w.heap.size with h | h
      · exact h
      · simp [World.shape?, Array.getElem?_eq_none h] at hz
    rw [shape_of_block (hb _ hlt)]
    exact hz

theorem heap_same {B X0 w h loc w1} (H : HRel B X0 w h loc) (hs : w.heap.size ≤ w1.heap.size) (hb : ∀ b, b < w.heap.size → w1.heap[b]? = w.heap[b]?) : HRel B X0 w1 h loc :=
  ⟨H.inj, fun id k hk hl => by
    have h0 := H.blk id k hk hl
    obtain ⟨row, e, fr, hr, _⟩ := h0.row
    exact h0.keep (keeps_same hs hb) (hb _ (Array.getElem?_eq_some_iff.1 hr).1)⟩

end Go.Proofs.Abs

-- ---- Abs4
set_option linter.unusedSimpArgs false
set_option linter.unusedVariables false
namespace Go.Proofs.Abs
open Go.RowKit

def lst0 : Bool → List AV → Value → Bool
  | true, [], .slice none 0 0 => true
  | _, _, _ => false
theorem lst0_rep {w h loc X} : ∀ {f : Bool} {l : List AV} {v : Value}, lst0 f l v = true → Rep w h loc X (.lst f l) v
  | true, [], .slice none 0 0, _ => .lst0 _ _ _ (fun _ => rfl)

mutual
/-- A constant that an abstract value is. -/
def isV : AV → Value → Bool
  | .int k n, .int k' n' => decide (k = k') && decide (n = n')
  | .bool b, .bool b' => b == b'
  | .str l, .string s => s.data.toList == l
  | .nilp, .pointer none => true
  | .niface, .nilIface => true
  | .nfun, .nilFunc => true
  | .agg l, .agg c => isVs l c.toList
  | .tup l, .tuple c => isVs l c.toList
  | .lst f l, v => lst0 f l v
  | .top, _ => true
  | _, _ => false
def isVs : List AV → List Value → Bool
  | [], [] => true
  | a :: l, v :: m => isV a v && isVs l m
  | _, _ => false
end

section
variable {w : World} {h : AHeap} {loc : Nat → Nat} {X : Nat → Prop}

mutual
theorem isV_rep : ∀ (a : AV) (v : Value), isV a v = true → Rep w h loc X a v
  | .int k n, v, hv => by
    cases v <;> simp [isV] at hv
    obtain ⟨rfl, rfl⟩ := hv; exact .int _ _
  | .bool b, v, hv => by
    cases v <;> simp [isV] at hv
    subst hv; exact .bool _
  | .str l, v, hv => by
    cases v <;> simp [isV] at hv
    subst hv; exact .str _
  | .nilp, v, hv => by
    cases v with
    | pointer a => cases a <;> simp [isV] at hv; exact .nilp
    | _ => simp [isV] at hv
  | .niface, v, hv => by
    cases v <;> simp [isV] at hv
    exact .niface
  | .nfun, v, hv => by
    cases v <;> simp [isV] at hv
    exact .nfun
  | .agg l, v, hv => by
    cases v with
    | agg c =>
      obtain ⟨hl, hr⟩ := isVs_rep l c.toList (by simpa [isV] using hv)
      exact .agg l c (by simpa using hl.symm) (fun i h1 h2 => by have := hr i h1 (by simpa using h2); rwa [Array.getElem_toList] at this)
    | _ => simp [isV] at hv
  | .tup l, v, hv => by
    cases v with
    | tuple c =>
      obtain ⟨hl, hr⟩ := isVs_rep l c.toList (by simpa [isV] using hv)
      exact .tup l c (by simpa using hl.symm) (fun i h1 h2 => by have := hr i h1 (by simpa using h2); rwa [Array.getElem_toList] at this)
    | _ => simp [isV] at hv
  | .lst full l, v, hv => lst0_rep (by simpa [isV] using hv)
  | .top, v, _ => .top v
  | .fn .., v, hv => by cases v <;> simp [isV] at hv
  | .ifc .., v, hv => by cases v <;> simp [isV] at hv
  | .own .., v, hv => by cases v <;> simp [isV] at hv
  | .ptr .., v, hv => by cases v <;> simp [isV] at hv
  | .fp .., v, hv => by cases v <;> simp [isV] at hv
theorem isVs_rep : ∀ (l : List AV) (m : List Value), isVs l m = true → l.length = m.length ∧ ∀ i (h1 : i < l.length) (h2 : i < m.length), Rep w h loc X l[i] m[i]
  | [], m, hv => by
    cases m <;> simp [isVs] at hv
    exact ⟨rfl, fun i h1 => by simp at h1⟩
  | a :: l, m, hv => by
    cases m with
    | nil => simp [isVs] at hv
    | cons v m =>
      simp only [isVs, Bool.and_eq_true] at hv
      obtain ⟨hl, hr⟩ := isVs_rep l m hv.2
      refine ⟨by simp [hl], fun i h1 h2 => ?_⟩
      cases i with
      | zero => exact isV_rep a v hv.1
      | succ i => exact hr i (by simpa using h1) (by simpa using h2)
end
end

/-- An operand that an abstract one is. -/
def chkX : Operand → PX → Bool
  | .tmp i, .t j => i == j
  | .const v, .k a => isV a v
  | .func f, .f g => f == g
  | _, _ => false

structure Slots (w : World) (h : AHeap) (loc : Nat → Nat) (X : Nat → Prop) (t : List AV) (s : Array Value) : Prop where
  size : s.size = t.length
  rep : ∀ i (h1 : i < t.length) (h2 : i < s.size), Rep w h loc X t[i] s[i]

theorem rep_undef {w h loc X} : Rep w h loc X (.tup []) undef := .tup [] #[] rfl (fun i h1 => by simp at h1)

theorem Slots.x {w h loc X t} {a : Act} (S : Slots w h loc X t a.tmps) {o : Operand} {x : PX} (hc : chkX o x = true) : Rep w h loc X (xv t x) (a.eval o) := by
  cases x with
  | t j =>
    cases o <;> simp [chkX] at hc
    subst hc
    rename_i i
    simp only [xv, Act.eval, List.getD_eq_getElem?_getD, Array.getD_eq_getD_getElem?]
    by_cases hi : i < t.length
    · have hi2 : i < a.tmps.size := by rw [S.size]; exact hi
      simpa [hi, hi2] using S.rep i hi hi2
    · have hi2 : ¬ i < a.tmps.size := by rw [S.size]; exact hi
      simpa [hi, hi2] using rep_undef
  | k v =>
    cases o with
    | const u => exact isV_rep _ _ hc
    | _ => simp [chkX] at hc
  | f g =>
    cases o <;> simp [chkX] at hc
    subst hc
    exact .fn _ [] [] #[] #[] rfl rfl (fun i h1 => by simp at h1) (fun i h1 => by simp at h1)

theorem Slots.keep {w h loc X w' h' loc' X' t s} (k : Keeps w h loc X w' h' loc' X') (S : Slots w h loc X t s) : Slots w' h' loc' X' t s :=
  ⟨S.size, fun i h1 h2 => (S.rep i h1 h2).keep k⟩

theorem Slots.set {w h loc X t s} (S : Slots w h loc X t s) (d : Nat) {v : AV} {x : Value} (hr : Rep w h loc X v x) : Slots w h loc X (t.set d v) (s.setIfInBounds d x) :=
  ⟨by simp [S.size], fun i h1 h2 => by
    simp at h1 h2
    by_cases hd : d = i
    · subst hd; simpa using hr
    · rw [Array.getElem_setIfInBounds_ne h2 hd, List.getElem_set_ne hd]
      exact S.rep i h1 h2⟩

/-- The cells of what is solid. -/
theorem Rep.cells {w h loc X} {a : AV} {v : Value} (hr : Rep w h loc X a v) (hs : a.solid = true) :
    v.cells.size = a.cells.length ∧ (∀ x ∈ a.cells, x.leaf = true) ∧ ∀ i (h1 : i < a.cells.length) (h2 : i < v.cells.size), Rep w h loc X a.cells[i] v.cells[i] := by
  cases hr with
  | agg l c hl hr => exact ⟨hl, by simpa [AV.solid, AV.cells] using hs, hr⟩
  | tup l c hl hr => simp [AV.solid] at hs
  | top v => simp [AV.solid] at hs
  | _ =>
    refine ⟨rfl, by simp [AV.cells, AV.leaf], fun i h1 h2 => ?_⟩
    simp [AV.cells] at h1
    subst h1
    simp only [AV.cells, Value.cells]
    first
    | exact .int _ _ | exact .bool _ | exact .str _ | exact .nilp | exact .niface | exact .nfun
    | (exact .fn _ _ _ _ _ ‹_› ‹_› ‹_› ‹_›) | (exact .ifc _ _ _ ‹_›) | (exact .lst0 _ _ _ ‹_›) | (exact .lst _ _ ‹_› _ _ _ _ _ ‹_› ‹_› ‹_› ‹_› ‹_› ‹_› ‹_› ‹_› ‹_›)
    | (exact .own _ _ _ _ _ _ ‹_› ‹_› ‹_›) | (exact .ptr _ _ _ _ _ ‹_› ‹_›) | (exact .fp _ _ _ _ ‹_› ‹_› ‹_› ‹_› ‹_› ‹_›)

theorem Rep.leaf {w h loc X} {a : AV} {v : Value} (hr : Rep w h loc X a v) (hs : a.leaf = true) : v.oneCell' = true := by
  cases hr <;> simp [AV.leaf] at hs <;> rfl

end Go.Proofs.Abs

-- ---- Abs5
set_option linter.unusedSimpArgs false
set_option linter.unusedVariables false
namespace Go.Proofs.Abs
open Go.RowKit

/-- The machine's result of an operation, for the abstract one. -/
def OpOK (r : Result Next) (w0 : World) (X0 : Nat → Prop) (w : World) (h : AHeap) (loc : Nat → Nat) (v : AV) (h1 : AHeap) : Prop :=
  ∃ n x w1 loc1, r = .ok n w1 ∧ (n = .value x ∨ (n = .skip ∧ x = undef)) ∧ Keeps w h loc (XH X0 h loc) w1 h1 loc1 (XH X0 h1 loc1) ∧
    Wrel w0 X0 w1 h1 loc1 ∧ Rep w1 h1 loc1 (XH X0 h1 loc1) v x

section
variable {P : Program} {w0 : World} {X0 : Nat → Prop} {w : World} {h : AHeap} {loc : Nat → Nat} {a : Act} {t : List AV} {o : Oper} {b : Nat}

theorem OpOK.stay {r : Result Next} {v : AV} {x : Value} (W : Wrel w0 X0 w h loc) (hr : r = .ok (.value x) w) (hv : Rep w h loc (XH X0 h loc) v x) : OpOK r w0 X0 w h loc v h :=
  ⟨_, x, w, loc, hr, .inl rfl, Keeps.refl .., W, hv⟩

theorem ok_mv {x : PX} {y : Operand} (W : Wrel w0 X0 w h loc) (S : Slots w h loc (XH X0 h loc) t a.tmps) (ho : o.op = .move y ∨ o.op = .assign y) (hx : chkX y x = true) :
    OpOK ((execOp a.eval o).run P w) w0 X0 w h loc (xv t x) h := by
  refine .stay W (x := a.eval y) ?_ (S.x hx)
  rcases ho with ho | ho <;> simp [execOp, ho]

theorem Rep.bool_inv {X} {b : Bool} {v : Value} (hr : Rep w h loc X (.bool b) v) : v = .bool b := by cases hr; rfl
theorem Rep.int_inv {X} {k n} {v : Value} (hr : Rep w h loc X (.int k n) v) : v = .int k n := by cases hr; rfl
theorem Rep.str_inv {X} {l} {v : Value} (hr : Rep w h loc X (.str l) v) : v = .string ⟨l.toArray⟩ := by cases hr; rfl

theorem ok_pick {c x y : PX} {c' x' y' : Operand} {v : AV} (W : Wrel w0 X0 w h loc) (S : Slots w h loc (XH X0 h loc) t a.tmps) (ho : o.op = .pick c' x' y')
    (h1 : chkX c' c = true) (h2 : chkX x' x = true) (h3 : chkX y' y = true) {h1' : AHeap} (hv : opH t h b (.pick c x y) = some (v, h1')) :
    OpOK ((execOp a.eval o).run P w) w0 X0 w h loc v h1' := by
  simp only [opH] at hv
  split at hv <;> simp at hv
  rename_i z hz
  obtain ⟨rfl, rfl⟩ := hv
  have hc := S.x h1
  rw [hz] at hc
  refine .stay W (x := if z then a.eval x' else a.eval y') ?_ ?_
  · simp [execOp, ho, hc.bool_inv, asBool]
  · cases z <;> simp
    · exact S.x h3
    · exact S.x h2

theorem ok_ext {x : PX} {x' : Operand} {i : Nat} {v : AV} {h1 : AHeap} (W : Wrel w0 X0 w h loc) (S : Slots w h loc (XH X0 h loc) t a.tmps) (ho : o.op = .extract x' i) (hx : chkX x' x = true)
    (hv : opH t h b (.ext x i) = some (v, h1)) : OpOK ((execOp a.eval o).run P w) w0 X0 w h loc v h1 := by
  simp only [opH] at hv
  split at hv <;> simp at hv
  rename_i l hz
  obtain ⟨y, hy, rfl, rfl⟩ := hv
  have hc := S.x hx
  rw [hz] at hc
  generalize hu : a.eval x' = u at hc
  obtain ⟨hi, hy⟩ := List.getElem?_eq_some_iff.1 hy
  cases hc
  rename_i c hl hr
  subst hy
  have hi' : i < c.size := by omega
  refine .stay W (x := c[i]) ?_ (hr i hi hi')
  simp [execOp, ho, Instr.extract, hu, hi']

theorem ok_fa {x : PX} {x' : Operand} {s f off : Nat} {fs : Array Field} {fd : Field} {i : TypeInfo} {v : AV} {h1 : AHeap} (W : Wrel w0 X0 w h loc) (S : Slots w h loc (XH X0 h loc) t a.tmps) (ho : o.op = .fieldAddr s x' f) (hx : chkX x' x = true)
    (hs : P.underlying s = some (.struct fs)) (hf : fs[f]? = some fd) (hoff : fd.offset = off) (hi : P.info? fd.type = some i) (hz : i.size ≠ 0)
    (hv : opH t h b (.fa off x) = some (v, h1)) : OpOK ((execOp a.eval o).run P w) w0 X0 w h loc v h1 := by
  have hrun : ∀ ad : Addr, a.eval x' = .pointer (some ad) → (execOp a.eval o).run P w = .ok (.value (.pointer (some (ad.add off)))) w := by
    intro ad had
    simp [execOp, ho, Instr.fieldAt, had, run_underlying hs, hf, Instr.sureAddr, fieldPlace, sizeOf, typeInfo, hi, hz, hoff]
  simp only [opH] at hv
  have hc := S.x hx
  split at hv <;> simp at hv
  · rename_i l hz
    obtain ⟨rfl, rfl⟩ := hv
    rw [hz] at hc
    generalize hu : a.eval x' = u at hc
    cases hc
    rename_i bk o0 val hX hb hlf hpu hcell hr
    refine .stay W (hrun _ hu) ?_
    have hadd : (⟨bk, o0, none⟩ : Addr).add off = ⟨bk, o0 + off, none⟩ := Addr.add_mid ..
    rw [hadd]
    refine .fp _ _ _ (fun k => val (off + k)) hX hb (fun y hy => hlf y (List.mem_of_mem_drop hy)) (fun y hy => hpu y (List.mem_of_mem_drop hy)) (fun k hk => ?_) (fun k hk => ?_)
    · rw [Nat.add_assoc]; exact hcell _ (by simp at hk; omega)
    · simpa using hr (off + k) (by simp at hk; omega)
  · rename_i id n idx p hz
    obtain ⟨rfl, rfl⟩ := hv
    rw [hz] at hc
    generalize hu : a.eval x' = u at hc
    cases hc
    rename_i ad hb hg
    refine .stay W (hrun _ hu) (.ptr _ _ _ _ _ hb fun g => ?_)
    rw [hg g, Addr.add_mid, Nat.add_assoc]

theorem flat_cons (x : AV) (es : List AV) : flat (x :: es) = x.cells ++ flat es := by simp [flat]
theorem flat_append (a b : List AV) : flat (a ++ b) = flat a ++ flat b := by simp [flat]
theorem flat_length {s : Nat} : ∀ {es : List AV}, (∀ x ∈ es, x.cells.length = s) → (flat es).length = es.length * s
  | [], _ => by simp [flat]
  | x :: es, hs => by
    rw [flat_cons, List.length_append, flat_length (fun y hy => hs y (List.mem_cons_of_mem _ hy)), hs x (List.mem_cons_self ..)]
    simp [Nat.add_mul]; omega
theorem flat_get {s : Nat} : ∀ {es : List AV}, (∀ x ∈ es, x.cells.length = s) → ∀ {i j : Nat} (hi : i < es.length), j < s → (flat es)[i * s + j]? = es[i].cells[j]?
  | [], _, i, j, hi, _ => by simp at hi
  | x :: es, hs, i, j, hi, hj => by
    have hx := hs x (List.mem_cons_self ..)
    rw [flat_cons]
    cases i with
    | zero => simp [List.getElem?_append_left, hx, hj]
    | succ i =>
      rw [List.getElem?_append_right (by rw [hx, Nat.add_mul]; omega), hx]
      have : (i + 1) * s + j - s = i * s + j := by rw [Nat.add_mul]; omega
      rw [this, flat_get (fun y hy => hs y (List.mem_cons_of_mem _ hy)) (by simpa using hi) hj]
      simp

/-- What a row of cells gives to a load. -/
theorem ok_ld_at {P : Program} {w : World} {h : AHeap} {loc : Nat → Nat} {X : Nat → Prop} {ty : TypeId} {n : Option Nat} {l : List AV} {v : AV} {bk o0 : Nat} {d : TypeDesc}
    (hu : P.underlying ty = some d) (hn : ∀ m, n = some m → d.isRow = true ∧ (P.info? ty).map (·.size) = some m) (hn' : n = none → d.isRow = false)
    (hv : ldc n l = some v) (val : Nat → Value) (hcell : ∀ k, k < l.length → w.cell? ⟨bk, o0 + k, none⟩ = some (val k)) (hr : ∀ k (hk : k < l.length), Rep w h loc X l[k] (val k)) :
    ∃ x, (Instr.loadAt ty (.pointer (some ⟨bk, o0, none⟩))).run P w = .ok x w ∧ Rep w h loc X v x := by
  cases n with
  | none =>
    cases l with
    | nil => simp [ldc] at hv
    | cons y l =>
      simp [ldc] at hv
      subst hv
      have hd := hn' rfl
      have h0 := hcell 0 (by simp)
      rw [Nat.add_zero] at h0
      refine ⟨val 0, ?_, hr 0 (by simp)⟩
      have hagg : (isAgg ty).run P w = .ok false w := by
        unfold isAgg
        rw [Sem.run_bind, run_underlying hu w]
        cases d <;> simp_all
      simp [Instr.loadAt, Instr.sureAddr, loadVar, Sem.run_bind, hagg, load, Sem.run, h0]
  | some m =>
    simp only [ldc] at hv
    split at hv <;> simp at hv
    rename_i hm
    subst hv
    obtain ⟨hd, hi⟩ := hn m rfl
    have hrun := run_loadAt_mid (P := P) w bk o0 ty ((List.range m).map val) d (fun j u hj => by
      rw [List.getElem?_map] at hj
      obtain ⟨k, hk, rfl⟩ := Option.map_eq_some_iff.1 hj
      obtain ⟨hk1, hk2⟩ := List.getElem?_eq_some_iff.1 hk
      simp at hk1 hk2
      subst hk2
      exact hcell j (by omega)) hu hd (by simpa using hi)
    refine ⟨_, hrun, .agg _ _ (by simp; omega) (fun i h1 h2 => ?_)⟩
    simp at h1 h2
    simpa using hr i (by omega)

theorem ok_ld {x : PX} {x' : Operand} {ty : TypeId} {n : Option Nat} {d : TypeDesc} {v : AV} {h1 : AHeap} (W : Wrel w0 X0 w h loc) (S : Slots w h loc (XH X0 h loc) t a.tmps) (ho : o.op = .load ty x') (hx : chkX x' x = true)
    (hu : P.underlying ty = some d) (hn : ∀ m, n = some m → d.isRow = true ∧ (P.info? ty).map (·.size) = some m) (hn' : n = none → d.isRow = false)
    (hv : opH t h b (.ld n x) = some (v, h1)) : OpOK ((execOp a.eval o).run P w) w0 X0 w h loc v h1 := by
  have hrun : (execOp a.eval o).run P w = ((Instr.loadAt ty (a.eval x')).run P w).andThen fun x w => .ok (.value x) w := by
    simp [execOp, ho]
  simp only [opH] at hv
  have hc := S.x hx
  split at hv <;> simp only [Option.map_eq_some_iff, Option.bind_eq_some_iff, Prod.mk.injEq, reduceCtorEq] at hv
  · rename_i l hz
    obtain ⟨y, hy, rfl, rfl⟩ := hv
    rw [hz] at hc
    generalize hu : a.eval x' = u at hc hrun
    cases hc
    rename_i bk o0 val hX hb hlf hpu hcell hr
    obtain ⟨z, h1, h2⟩ := ok_ld_at (P := P) ‹_› hn hn' hy val hcell hr
    exact .stay W (by rw [hrun, h1]; rfl) h2
  · rename_i id n' idx p hz
    obtain ⟨y, ⟨l, hl, hy⟩, rfl, rfl⟩ := hv
    rw [hz] at hc
    generalize hu : a.eval x' = u at hc hrun
    cases hc
    rename_i ad hb hg
    unfold rdp at hl
    split at hl <;> simp at hl
    rename_i s v es hid
    obtain ⟨rfl, e, he, rfl⟩ := hl
    have hgood : good h id v := ⟨_, hid, rfl, rfl⟩
    have hat : BlkAt _ _ _ _ _ (loc id) s es := W.heap.blk id _ hid rfl
    obtain ⟨row, et, fr, hrow, hfr, hlen, hval⟩ := hat.row
    obtain ⟨hi, rfl⟩ := List.getElem?_eq_some_iff.1 he
    have hs : es[idx].cells.length = s := hat.s _ (List.getElem_mem hi)
    rw [hg hgood] at hrun
    have hsz : sizeAt h id = s := by simp [sizeAt, hid]
    rw [hsz] at hrun
    have hcellv : ∀ k (hk : k < (es[idx].cells.drop p).length), w.cell? ⟨loc id, idx * s + p + k, none⟩ = some (row.getD (idx * s + p + k) undef) ∧
        Rep w h loc (XH X0 h loc) (es[idx].cells.drop p)[k] (row.getD (idx * s + p + k) undef) := by
      intro k hk
      have hk' := hk
      simp at hk'
      have hlt : idx * s + (p + k) < (flat es).length := by
        rw [flat_length hat.s]
        have : (idx + 1) * s ≤ es.length * s := Nat.mul_le_mul_right _ hi
        rw [Nat.add_mul] at this
        omega
      obtain ⟨u, hu1, hu2⟩ := hval _ hlt
      have hfg := flat_get hat.s hi (j := p + k) (by omega)
      rw [List.getElem?_eq_getElem hlt] at hfg
      have he2 : (es[idx].cells.drop p)[k] = (flat es)[idx * s + (p + k)] := by
        have h3 : (es[idx].cells.drop p)[k]? = some (flat es)[idx * s + (p + k)] := by rw [List.getElem?_drop, ← hfg]
        rw [List.getElem?_eq_getElem hk] at h3
        exact Option.some.inj h3
      have hg1 : row.getD (idx * s + p + k) undef = u := by
        rw [Array.getD_eq_getD_getElem?, Nat.add_assoc, hu1]; rfl
      rw [he2, hg1]
      refine ⟨?_, hu2⟩
      rw [Nat.add_assoc]
      simp [World.cell?, hrow, hu1]
    obtain ⟨z, h1, h2⟩ := ok_ld_at (P := P) (w := w) (h := h) (loc := loc) (X := XH X0 h loc) (bk := loc id) (o0 := idx * s + p) ‹P.underlying ty = some d› hn hn' hy
      (fun k => row.getD (idx * s + p + k) undef) (fun k hk => (hcellv k hk).1) (fun k hk => (hcellv k hk).2)
    exact .stay W (by rw [hrun, h1]; rfl) h2
end

end Go.Proofs.Abs

-- ---- Abs6
set_option linter.unusedSimpArgs false
set_option linter.unusedVariables false
namespace Go.Proofs.Abs
open Go.RowKit
section
variable {P : Program} {w0 : World} {X0 : Nat → Prop} {w : World} {h : AHeap} {loc : Nat → Nat} {a : Act} {t : List AV} {o : Oper} {b : Nat}

theorem ok_nc {x : PX} {x' : Operand} {v : AV} {h1 : AHeap} (W : Wrel w0 X0 w h loc) (S : Slots w h loc (XH X0 h loc) t a.tmps) (ho : o.op = .nilCheck x') (hx : chkX x' x = true)
    (hv : opH t h b (.nc x) = some (v, h1)) : OpOK ((execOp a.eval o).run P w) w0 X0 w h loc v h1 := by
  have hc := S.x hx
  simp only [opH] at hv
  generalize hu : a.eval x' = u at hc
  split at hv <;> simp at hv <;> (rename_i hz; rw [hz] at hc; obtain ⟨rfl, rfl⟩ := hv)
  · have hc0 := hc
    cases hc
    exact .stay W (by simp [execOp, ho, hu]) hc0
  · have hc0 := hc
    cases hc
    exact .stay W (by simp [execOp, ho, hu]) hc0
  · have hc0 := hc
    cases hc
    exact .stay W (by simp [execOp, ho, hu]) hc0

theorem getElem_extract_rep {X} {l : List AV} {c : Array Value} (hl : c.size = l.length) (hr : ∀ i (h1 : i < l.length) (h2 : i < c.size), Rep w h loc X l[i] c[i]) (off : Nat) {n : Option Nat} {v : AV} (hv : ldc n (l.drop off) = some v)
    {ty : TypeId} {d : TypeDesc} (hu : P.underlying ty = some d) (hn : ∀ m, n = some m → d.isRow = true ∧ (P.info? ty).map (·.size) = some m) (hn' : n = none → d.isRow = false) :
    ∃ x, (part ty c off).run P w = .ok x w ∧ Rep w h loc X v x := by
  cases n with
  | none =>
    have hd := hn' rfl
    have hagg : (isAgg ty).run P w = .ok false w := by
      unfold isAgg
      rw [Sem.run_bind, run_underlying hu w]
      cases d <;> simp_all
    have hlt : off < l.length := by
      rcases Nat.lt_or_ge off l.length with h | h
      · exact h
      · rw [List.drop_eq_nil_of_le h] at hv; simp [ldc] at hv
    rw [List.drop_eq_getElem_cons hlt] at hv
    simp [ldc] at hv
    subst hv
    have h2 : off < c.size := by omega
    exact ⟨c[off], by simp [part, Sem.run_bind, hagg, h2], hr off hlt h2⟩
  | some m =>
    obtain ⟨hd, hi⟩ := hn m rfl
    simp only [ldc] at hv
    split at hv <;> simp at hv
    rename_i hm
    subst hv
    simp at hm
    cases hq : P.info? ty with
    | none => simp [hq] at hi
    | some i =>
      have hs : i.size = m := by simpa [hq] using hi
      have hagg : (isAgg ty).run P w = .ok true w := by
        unfold isAgg
        rw [Sem.run_bind, run_underlying hu w]
        cases d <;> simp_all
      refine ⟨.agg (c.extract off (off + m)), by simp [part, Sem.run_bind, hagg, sizeOf, typeInfo, hq, hs], .agg _ _ (by simp; omega) (fun k h1 h2 => ?_)⟩
      simp at h1 h2
      simpa using hr (off + k) (by omega) (by omega)

theorem ok_fd {x : PX} {x' : Operand} {s f off : Nat} {fs : Array Field} {fd : Field} {n : Option Nat} {d : TypeDesc} {v : AV} {h1 : AHeap} (W : Wrel w0 X0 w h loc) (S : Slots w h loc (XH X0 h loc) t a.tmps) (ho : o.op = .field s x' f) (hx : chkX x' x = true)
    (hs : P.underlying s = some (.struct fs)) (hf : fs[f]? = some fd) (hoff : fd.offset = off)
    (hu : P.underlying fd.type = some d) (hn : ∀ m, n = some m → d.isRow = true ∧ (P.info? fd.type).map (·.size) = some m) (hn' : n = none → d.isRow = false)
    (hv : opH t h b (.fd off n x) = some (v, h1)) : OpOK ((execOp a.eval o).run P w) w0 X0 w h loc v h1 := by
  have hc := S.x hx
  simp only [opH] at hv
  generalize hu' : a.eval x' = u at hc
  split at hv <;> simp at hv
  rename_i l hz
  obtain ⟨y, hy, rfl, rfl⟩ := hv
  rw [hz] at hc
  cases hc
  rename_i c hl hr
  obtain ⟨z, h1, h2⟩ := getElem_extract_rep (P := P) hl hr off hy hu hn hn'
  exact .stay W (by simp [execOp, ho, hu', Instr.field, run_underlying hs, hf, asAgg, hoff, h1]) h2

theorem ok_ixa {x i : PX} {x' i' : Operand} {ty e len s : Nat} {ag : Bool} {inf : TypeInfo} {d : TypeDesc} {v : AV} {h1 : AHeap} (W : Wrel w0 X0 w h loc) (S : Slots w h loc (XH X0 h loc) t a.tmps) (ho : o.op = .index ty x' i') (hx : chkX x' x = true) (hi : chkX i' i = true)
    (hs : P.underlying ty = some (.array len e)) (he : P.info? e = some inf) (hsz : inf.size = s) (hu : P.underlying e = some d) (hag : d.isRow = ag)
    (hv : opH t h b (.ixa len s ag x i) = some (v, h1)) : OpOK ((execOp a.eval o).run P w) w0 X0 w h loc v h1 := by
  have hc := S.x hx
  have hci := S.x hi
  simp only [opH] at hv
  generalize hu' : a.eval x' = u at hc
  split at hv <;> simp at hv
  rename_i l k j hz hzi
  obtain ⟨⟨hj0, hj1⟩, y, hy, rfl, rfl⟩ := hv
  rw [hz] at hc
  rw [hzi] at hci
  have hie := hci.int_inv
  cases hc
  rename_i c hl hr
  obtain ⟨z, h1, h2⟩ := getElem_extract_rep (P := P) (n := cond ag (some s) none) hl hr (j.toNat * s) hy hu
    (fun m hm => by cases ag <;> simp at hm; exact ⟨hag, by simp [he, hsz, hm]⟩) (fun hm => by cases ag <;> simp at hm; exact hag)
  exact .stay W (by simp [execOp, ho, hu', hie, Instr.index, asIntOf, run_underlying hs, hj0, hj1, sizeOf, typeInfo, he, hsz, h1]) h2

theorem ok_ix {x i : PX} {x' i' : Operand} {ty : Nat} {v : AV} {h1 : AHeap} (W : Wrel w0 X0 w h loc) (S : Slots w h loc (XH X0 h loc) t a.tmps) (ho : o.op = .index ty x' i') (hx : chkX x' x = true) (hi : chkX i' i = true)
    (hs : P.underlying ty = some .string) (hv : opH t h b (.ix x i) = some (v, h1)) : OpOK ((execOp a.eval o).run P w) w0 X0 w h loc v h1 := by
  have hc := S.x hx
  have hci := S.x hi
  simp only [opH] at hv
  split at hv <;> simp at hv
  rename_i l k j hz hzi
  obtain ⟨hj0, hv⟩ := hv
  split at hv <;> simp at hv
  rename_i c hcj
  obtain ⟨rfl, rfl⟩ := hv
  rw [hz] at hc
  rw [hzi] at hci
  have hie := hci.int_inv
  have hxe := hc.str_inv
  refine .stay W (x := .int .u8 c.toNat) ?_ (.int _ _)
  have hgb : (ByteArray.mk l.toArray)[j.toNat]? = some c := by
    obtain ⟨hlt, rfl⟩ := List.getElem?_eq_some_iff.1 hcj
    have hlt' : j.toNat < (ByteArray.mk l.toArray).size := by simpa [ByteArray.size] using hlt
    rw [getElem?_pos (ByteArray.mk l.toArray) j.toNat hlt']
    rfl
  simp [execOp, ho, hie, hxe, Instr.index, asIntOf, run_underlying hs, hj0, hgb]

theorem Rep.lst_inv {X} {f : Bool} {l : List AV} {v : Value} (hr : Rep w h loc X (.lst f l) v) : ∃ a cap, v = .slice a l.length cap ∧ l.length ≤ cap ∧ (f = true → cap = l.length) ∧
    (l ≠ [] → ∃ (s b o : Nat) (val : Nat → Value), a = some ⟨b, o, none⟩ ∧ ¬ X b ∧ b < w.heap.size ∧ (∀ x ∈ l, x.cells.length = s) ∧ (∀ x ∈ flat l, x.leaf = true) ∧ (∀ x ∈ l, x.pure = true) ∧
      (∀ k, k < (flat l).length → w.cell? ⟨b, o + k, none⟩ = some (val k)) ∧ ∀ k (hk : k < (flat l).length), Rep w h loc X (flat l)[k] (val k)) := by
  cases hr with
  | lst0 full a cap hc => exact ⟨a, cap, rfl, Nat.zero_le _, hc, fun h => absurd rfl h⟩
  | lst full l hne s b o cap val hc hcap hX hb hs hlf hp hcell hr => exact ⟨_, cap, rfl, hcap, hc, fun _ => ⟨s, b, o, val, rfl, hX, hb, hs, hlf, hp, hcell, hr⟩⟩

theorem ok_ia {x i : PX} {x' i' : Operand} {ty e s : Nat} {inf : TypeInfo} {v : AV} {h1 : AHeap} (W : Wrel w0 X0 w h loc) (S : Slots w h loc (XH X0 h loc) t a.tmps) (ho : o.op = .indexAddr ty x' i') (hx : chkX x' x = true) (hi : chkX i' i = true)
    (hs : P.underlying ty = some (.slice e)) (he : P.info? e = some inf) (hsz : inf.size = s)
    (hv : opH t h b (.ia s x i) = some (v, h1)) : OpOK ((execOp a.eval o).run P w) w0 X0 w h loc v h1 := by
  have hc := S.x hx
  have hci := S.x hi
  have hrun : ∀ (ad : Addr) (len cap : Nat) (k : IntKind) (j : Int), a.eval x' = .slice (some ad) len cap → a.eval i' = .int k j → 0 ≤ j → j < len →
      (execOp a.eval o).run P w = .ok (.value (.pointer (some (ad.add (j.toNat * s))))) w := by
    intro ad len cap k j h1 h2 h3 h4
    simp [execOp, ho, h1, h2, Instr.indexAt, asIntOf, run_underlying hs, h3, h4, sizeOf, typeInfo, he, hsz]
  simp only [opH] at hv
  split at hv <;> simp at hv
  · rename_i fl l k j hz hzi
    obtain ⟨hj0, hv⟩ := hv
    split at hv <;> simp at hv
    rename_i y hy
    obtain ⟨hys, rfl, rfl⟩ := hv
    rw [hz] at hc
    rw [hzi] at hci
    have hie := hci.int_inv
    generalize hu' : a.eval x' = u at hc
    obtain ⟨hlt, rfl⟩ := List.getElem?_eq_some_iff.1 hy
    obtain ⟨ad, cap, rfl, hcap, hfull, hne⟩ := hc.lst_inv
    obtain ⟨s', bk, o0, val, rfl, hX, hb, hs', hlf, hpu, hcell, hr⟩ := hne (by intro e; subst e; simp at hlt)
    · have hss : s' = s := by rw [← hys]; exact (hs' _ (List.getElem_mem hlt)).symm
      subst hss
      refine .stay W (hrun _ _ _ _ _ hu' hie hj0 (by omega)) ?_
      rw [Addr.add_mid]
      have hbound : ∀ q, q < l[j.toNat].cells.length → j.toNat * s' + q < (flat l).length := by
        intro q hq
        rw [flat_length hs']
        have : (j.toNat + 1) * s' ≤ l.length * s' := Nat.mul_le_mul_right _ hlt
        rw [Nat.add_mul] at this
        omega
      have hget : ∀ q (hq : q < l[j.toNat].cells.length), (flat l)[j.toNat * s' + q]'(hbound q hq) = l[j.toNat].cells[q] := by
        intro q hq
        have hfg := flat_get hs' hlt (j := q) (by omega)
        rw [List.getElem?_eq_getElem (hbound q hq), List.getElem?_eq_getElem hq] at hfg
        exact Option.some.inj hfg
      refine .fp _ _ _ (fun q => val (j.toNat * s' + q)) hX hb (fun y hy => ?_) (pure_cells (hpu _ (List.getElem_mem hlt))) (fun q hq => ?_) (fun q hq => ?_)
      · obtain ⟨q, hq, rfl⟩ := List.getElem_of_mem hy
        rw [← hget q hq]
        exact hlf _ (List.getElem_mem _)
      · rw [Nat.add_assoc]; exact hcell _ (hbound q hq)
      · rw [← hget q hq]; exact hr _ (hbound q hq)
  · rename_i id n off len k j hz hzi
    obtain ⟨⟨hj0, hj1⟩, hsa, rfl, rfl⟩ := hv
    rw [hz] at hc
    rw [hzi] at hci
    have hie := hci.int_inv
    generalize hu' : a.eval x' = u at hc
    cases hc
    rename_i ad cap hb hcap hg
    refine .stay W (hrun _ _ _ _ _ hu' hie hj0 hj1) (.ptr _ _ _ _ _ hb fun g => ?_)
    rw [(hg g).1, Addr.add_mid, hsa, Nat.add_mul, Nat.add_zero]

theorem ok_iaa {x i : PX} {x' i' : Operand} {ty e m s : Nat} {inf : TypeInfo} {v : AV} {h1 : AHeap} (W : Wrel w0 X0 w h loc) (S : Slots w h loc (XH X0 h loc) t a.tmps) (ho : o.op = .indexAddr ty x' i') (hx : chkX x' x = true) (hi : chkX i' i = true)
    (hs : P.underlying ty = some (.array m e)) (he : P.info? e = some inf) (hsz : inf.size = s)
    (hv : opH t h b (.iaa m s x i) = some (v, h1)) : OpOK ((execOp a.eval o).run P w) w0 X0 w h loc v h1 := by
  have hc := S.x hx
  have hci := S.x hi
  have hrun : ∀ (ad : Addr) (k : IntKind) (j : Int), a.eval x' = .pointer (some ad) → a.eval i' = .int k j → 0 ≤ j → j < m →
      (execOp a.eval o).run P w = .ok (.value (.pointer (some (ad.add (j.toNat * s))))) w := by
    intro ad k j h1 h2 h3 h4
    simp [execOp, ho, h1, h2, Instr.indexAt, Instr.sureAddr, asIntOf, run_underlying hs, h3, h4, sizeOf, typeInfo, he, hsz]
  simp only [opH] at hv
  split at hv <;> simp at hv
  · rename_i l k j hz hzi
    obtain ⟨⟨hj0, hj1⟩, rfl, rfl⟩ := hv
    rw [hz] at hc
    rw [hzi] at hci
    have hie := hci.int_inv
    generalize hu' : a.eval x' = u at hc
    cases hc
    rename_i bk o0 val hX hb hlf hpu hcell hr
    refine .stay W (hrun _ _ _ hu' hie hj0 hj1) ?_
    rw [Addr.add_mid]
    refine .fp _ _ _ (fun k => val (j.toNat * s + k)) hX hb (fun y hy => hlf y (List.mem_of_mem_drop hy)) (fun y hy => hpu y (List.mem_of_mem_drop hy)) (fun k hk => ?_) (fun k hk => ?_)
    · rw [Nat.add_assoc]; exact hcell _ (by simp at hk; omega)
    · simpa using hr (j.toNat * s + k) (by simp at hk; omega)
  · rename_i id n idx p k j hz hzi
    obtain ⟨⟨hj0, hj1⟩, rfl, rfl⟩ := hv
    rw [hz] at hc
    rw [hzi] at hci
    have hie := hci.int_inv
    generalize hu' : a.eval x' = u at hc
    cases hc
    rename_i ad hb hg
    refine .stay W (hrun _ _ _ hu' hie hj0 hj1) (.ptr _ _ _ _ _ hb fun g => ?_)
    rw [hg g, Addr.add_mid, Nat.add_assoc]

/-- Lists of operands. -/
def chkXs : List Operand → List PX → Bool
  | [], [] => true
  | x :: l, y :: m => chkX x y && chkXs l m
  | _, _ => false
theorem Slots.xs {X} (S : Slots w h loc X t a.tmps) : ∀ {l : List Operand} {m : List PX}, chkXs l m = true → (m.map (xv t)).length = (l.map a.eval).length ∧
    ∀ i (h1 : i < (m.map (xv t)).length) (h2 : i < (l.map a.eval).length), Rep w h loc X (m.map (xv t))[i] (l.map a.eval)[i]
  | [], [], _ => ⟨rfl, fun i h1 => by simp at h1⟩
  | x :: l, y :: m, hc => by
    simp only [chkXs, Bool.and_eq_true] at hc
    obtain ⟨hl, hr⟩ := S.xs hc.2
    refine ⟨by simpa using hl, fun i h1 h2 => ?_⟩
    cases i with
    | zero => exact S.x hc.1
    | succ i => exact hr i (by simpa using h1) (by simpa using h2)
  | [], _ :: _, hc => by simp [chkXs] at hc
  | _ :: _, [], hc => by simp [chkXs] at hc

theorem ok_mf {f : Nat} {fi ca : List PX} {fi' ca' : Array Operand} {v : AV} {h1 : AHeap} (W : Wrel w0 X0 w h loc) (S : Slots w h loc (XH X0 h loc) t a.tmps) (ho : o.op = .makeFunc (.func f) fi' ca') (hx : chkXs fi'.toList fi = true) (hy : chkXs ca'.toList ca = true)
    (hv : opH t h b (.mf f fi ca) = some (v, h1)) : OpOK ((execOp a.eval o).run P w) w0 X0 w h loc v h1 := by
  simp only [opH, Option.some.injEq, Prod.mk.injEq] at hv
  obtain ⟨rfl, rfl⟩ := hv
  obtain ⟨l1, r1⟩ := S.xs hx
  obtain ⟨l2, r2⟩ := S.xs hy
  refine .stay W (x := .func (.func f) (fi'.map a.eval) (ca'.map a.eval)) (by simp [execOp, ho, Instr.makeFunc]) (.fn _ _ _ _ _ (by simpa using l1.symm) (by simpa using l2.symm) (fun i h1 h2 => ?_) (fun i h1 h2 => ?_))
  · have := r1 i h1 (by simpa using h2)
    simpa [Array.getElem_toList] using this
  · have := r2 i h1 (by simpa using h2)
    simpa [Array.getElem_toList] using this

theorem ok_mi {ty : Nat} {x : PX} {x' : Operand} {d : TypeDesc} {v : AV} {h1 : AHeap} (W : Wrel w0 X0 w h loc) (S : Slots w h loc (XH X0 h loc) t a.tmps) (ho : o.op = .makeInterface ty x') (hx : chkX x' x = true)
    (hu : P.underlying ty = some d) (hd : ∀ m, d ≠ .interface m)
    (hv : opH t h b (.mi ty x) = some (v, h1)) : OpOK ((execOp a.eval o).run P w) w0 X0 w h loc v h1 := by
  simp only [opH, Option.some.injEq, Prod.mk.injEq] at hv
  obtain ⟨rfl, rfl⟩ := hv
  refine .stay W (x := .iface ty (a.eval x')) ?_ (.ifc _ _ _ (S.x hx))
  cases d <;> simp_all [execOp, Instr.makeInterface, run_underlying hu]

theorem ok_ta {ty : Nat} {ok : Bool} {z : AV} {zv : Value} {x : PX} {x' : Operand} {xt : Nat} {d : TypeDesc} {i : TypeInfo} {v : AV} {h1 : AHeap} (W : Wrel w0 X0 w h loc) (S : Slots w h loc (XH X0 h loc) t a.tmps) (ho : o.op = .typeAssert x' xt ty ok) (hx : chkX x' x = true)
    (hu : P.underlying ty = some d) (hd : ∀ m, d ≠ .interface m) (hi : P.info? ty = some i) (hz : i.zero = some zv) (hzv : isV z zv = true)
    (hv : opH t h b (.ta ty ok z x) = some (v, h1)) : OpOK ((execOp a.eval o).run P w) w0 X0 w h loc v h1 := by
  have hc := S.x hx
  simp only [opH] at hv
  generalize hu' : a.eval x' = u at hc
  have rtup : ∀ {p q : AV} {p' q' : Value}, Rep w h loc (XH X0 h loc) p p' → Rep w h loc (XH X0 h loc) q q' → Rep w h loc (XH X0 h loc) (.tup [p, q]) (.tuple #[p', q']) := by
    intro p q p' q' hp hq
    refine .tup _ _ rfl (fun i h1 h2 => ?_)
    match i with
    | 0 => exact hp
    | 1 => exact hq
    | i + 2 => simp at h1; omega
  split at hv
  · rename_i ty' y hz'
    rw [hz'] at hc
    cases hc
    rename_i y' hy
    split at hv
    · rename_i hty
      simp at hv
      obtain ⟨rfl, rfl⟩ := hv
      subst hty
      cases ok
      · refine .stay W (x := y') ?_ hy
        cases d <;> simp_all [execOp, Instr.typeAssert, run_underlying hu]
      · refine .stay W (x := .tuple #[y', .bool true]) ?_ (rtup hy (.bool _))
        cases d <;> simp_all [execOp, Instr.typeAssert, run_underlying hu]
    · rename_i hty
      split at hv <;> simp at hv
      rename_i hok
      obtain ⟨rfl, rfl⟩ := hv
      refine .stay W (x := .tuple #[zv, .bool false]) ?_ (rtup (isV_rep _ _ hzv) (.bool _))
      cases d <;> simp_all [execOp, Instr.typeAssert, run_underlying hu, zeroValue, typeInfo]
  · rename_i hz'
    split at hv <;> simp at hv
    rename_i hok
    obtain ⟨rfl, rfl⟩ := hv
    rw [hz'] at hc
    cases hc
    refine .stay W (x := .tuple #[zv, .bool false]) ?_ (rtup (isV_rep _ _ hzv) (.bool _))
    cases d <;> simp_all [execOp, Instr.typeAssert, run_underlying hu, zeroValue, typeInfo]
  · simp at hv
end
end Go.Proofs.Abs

-- ---- Abs7
set_option linter.unusedSimpArgs false
set_option linter.unusedVariables false
namespace Go.Proofs.Abs
open Go.RowKit
section
variable {P : Program} {w0 : World} {X0 : Nat → Prop} {w : World} {h : AHeap} {loc : Nat → Nat} {a : Act} {t : List AV} {o : Oper} {b : Nat}

theorem ok_un {op : UnOp} {ty : Nat} {x : PX} {x' : Operand} {v : AV} {h1 : AHeap} (W : Wrel w0 X0 w h loc) (S : Slots w h loc (XH X0 h loc) t a.tmps) (ho : o.op = .unOp op ty x') (hx : chkX x' x = true)
    (hv : opH t h b (.un op x) = some (v, h1)) : OpOK ((execOp a.eval o).run P w) w0 X0 w h loc v h1 := by
  have hc := S.x hx
  simp only [opH, Option.map_eq_some_iff, Prod.mk.injEq] at hv
  obtain ⟨y, hy, rfl, rfl⟩ := hv
  unfold un at hy
  split at hy <;> simp at hy <;> subst hy <;> (rename_i hz; rw [hz] at hc)
  · exact .stay W (by simp [execOp, ho, hc.bool_inv, Op.unary]) (.bool _)
  · exact .stay W (by simp [execOp, ho, hc.int_inv, Op.unary, Op.intArith]) (.int _ _)
  · exact .stay W (by simp [execOp, ho, hc.int_inv, Op.unary, Op.intBits]) (.int _ _)

theorem run_bnInt {op : BinOp} {k : IntKind} {p q : Int} {v : AV} {ty : Nat} (hs : isShift op = false) (hv : bnInt op k p q = some v) :
    ∃ x, (binOp op ty (.int k p) (.int k q)).run P w = .ok x w ∧ ∀ w h loc X, Rep w h loc X v x := by
  cases op <;> simp only [bnInt, isShift, reduceCtorEq, Option.some.injEq] at hv hs
  case quo =>
    split at hv <;> simp only [Option.some.injEq, reduceCtorEq] at hv
    rename_i hq; subst hv
    exact ⟨.int _ _, by simp [binOp, Op.intDiv, hq], fun _ _ _ _ => .int _ _⟩
  case rem =>
    split at hv <;> simp only [Option.some.injEq, reduceCtorEq] at hv
    rename_i hq; subst hv
    exact ⟨.int _ _, by simp [binOp, Op.intDiv, hq], fun _ _ _ _ => .int _ _⟩
  all_goals
    subst hv
    first
    | (refine ⟨.int _ _, ?_, fun _ _ _ _ => .int _ _⟩; simp [binOp, Op.intArith]; done)
    | (refine ⟨.int _ _, ?_, fun _ _ _ _ => .int _ _⟩; simp [binOp, Op.intBits]; done)
    | (refine ⟨.bool _, ?_, fun _ _ _ _ => .bool _⟩; simp [binOp, Op.intCmp]; done)

theorem run_bnShift {op : BinOp} {k k' : IntKind} {p q : Int} {v : AV} {ty : Nat} (hv : bnShift op k p q = some v) :
    ∃ x, (binOp op ty (.int k p) (.int k' q)).run P w = .ok x w ∧ ∀ w h loc X, Rep w h loc X v x := by
  cases op <;> simp [bnShift] at hv
  all_goals
    obtain ⟨hq, rfl⟩ := hv
    exact ⟨.int _ _, by simp [binOp, Op.shift, Int.not_lt.2 hq], fun _ _ _ _ => .int _ _⟩

theorem toList_mk (l : List UInt8) : (ByteArray.mk l.toArray).toList = l := by
  rw [ByteArray.toList_eq]

theorem run_bnStr {op : BinOp} {p q : List UInt8} {v : AV} {ty : Nat} (hv : bnStr op p q = some v) :
    ∃ x, (binOp op ty (.string ⟨p.toArray⟩) (.string ⟨q.toArray⟩)).run P w = .ok x w ∧ ∀ w h loc X, Rep w h loc X v x := by
  cases op <;> simp only [bnStr, reduceCtorEq, Option.some.injEq] at hv
  case add =>
    split at hv <;> simp only [Option.some.injEq, reduceCtorEq] at hv
    rename_i hq; subst hv
    refine ⟨.string ⟨(p ++ q).toArray⟩, ?_, fun _ _ _ _ => .str _⟩
    have h1 : ¬ (((ByteArray.mk p.toArray).size + (ByteArray.mk q.toArray).size : Nat) : Int) > IntKind.i64.max := by
      unfold most at hq
      simp [ByteArray.size, IntKind.max, IntKind.signed, IntKind.bits]
      omega
    have h2 : ByteArray.mk p.toArray ++ ByteArray.mk q.toArray = ByteArray.mk (p ++ q).toArray := by
      apply ByteArray.ext
      simp
    simp only [binOp, Op.stringOp, h1, if_false, h2]
    rfl
  all_goals
    subst hv
    exact ⟨.bool _, by simp [binOp, Op.stringOp, toList_mk], fun _ _ _ _ => .bool _⟩

/-- The kind of a type whose values '==' takes by sight. -/
def kindOf : TypeDesc → Nat
  | .bool => 1
  | .pointer _ => 2
  | .func .. => 3
  | .interface _ => 5
  | _ => 0

theorem equal_unfold (ty : Nat) (x y : Value) : Op.equal ty x y = Op.equalIn (9999 + 1) ty x y := rfl

theorem run_eqv {x y : AV} {x' y' : Value} {r : Bool} {ty kd : Nat} {d : TypeDesc} (hx : Rep w h loc (XH X0 h loc) x x') (hy : Rep w h loc (XH X0 h loc) y y') (hv : eqv kd x y = some r)
    (hu : P.underlying ty = some d) (hd : kindOf d = kd) : (Op.equal ty x' y').run P w = .ok r w := by
  rw [equal_unfold]
  unfold eqv at hv
  split at hv <;> simp only [reduceCtorEq, Option.some.injEq] at hv <;> subst hv
  all_goals
    cases d <;> simp [kindOf] at hd
    unfold Op.equalIn
    cases hx <;> cases hy <;> simp [run_underlying hu]

theorem ok_bn {op : BinOp} {kd ty ty2 : Nat} {x y : PX} {x' y' : Operand} {v : AV} {h1 : AHeap} (W : Wrel w0 X0 w h loc) (S : Slots w h loc (XH X0 h loc) t a.tmps) (ho : o.op = .binOp op ty x' y' ty2) (hx : chkX x' x = true) (hy : chkX y' y = true)
    (hd : kd ≠ 0 → ∃ d, P.underlying ty = some d ∧ kindOf d = kd) (hv : opH t h b (.bn op kd x y) = some (v, h1)) : OpOK ((execOp a.eval o).run P w) w0 X0 w h loc v h1 := by
  have hcx := S.x hx
  have hcy := S.x hy
  simp only [opH, Option.map_eq_some_iff, Prod.mk.injEq] at hv
  obtain ⟨z, hz, rfl, rfl⟩ := hv
  have hrun : ∀ x, (eqGuard op ty x' y' (a.eval x') (a.eval y')).run P w = .ok () w → (binOp op ty (a.eval x') (a.eval y')).run P w = .ok x w → (execOp a.eval o).run P w = .ok (.value x) w := by
    intro x h1 h2
    simp [execOp, ho, h1, h2]
  have hgo : ∀ u u' : Value, (∀ p q, u = .agg p → u' = .agg q → False) → (u = .nilIface → u' = .nilIface → False) → (eqGuard op ty x' y' u u').run P w = .ok () w := by
    intro u u' h1 h2
    cases op <;> unfold eqGuard <;> simp only [Bool.not_true, Bool.not_false, if_true, Bool.false_eq_true, if_false] <;> first
      | rfl
      | (split
         · exact (h2 rfl rfl).elim
         · exact (h1 _ _ rfl rfl).elim
         · rfl)
  unfold bn at hz
  split at hz
  · rename_i k p k' q hzx hzy
    rw [hzx] at hcx
    rw [hzy] at hcy
    have ex := hcx.int_inv
    have ey := hcy.int_inv
    have hg := hgo (a.eval x') (a.eval y') (by rw [ex]; intro p q h; cases h) (by rw [ex]; intro h; cases h)
    rw [ex, ey] at hrun hg
    split at hz
    · rename_i hsh
      obtain ⟨u, h1, h2⟩ := run_bnShift (P := P) (w := w) (ty := ty) (k' := k') hz
      exact .stay W (hrun _ hg h1) (h2 ..)
    · split at hz
      · rename_i hsh hk
        subst hk
        obtain ⟨u, h1, h2⟩ := run_bnInt (P := P) (w := w) (ty := ty) (by simpa using hsh) hz
        exact .stay W (hrun _ hg h1) (h2 ..)
      · cases hz
  · rename_i p q hzx hzy
    rw [hzx] at hcx
    rw [hzy] at hcy
    have ex := hcx.str_inv
    have ey := hcy.str_inv
    have hg := hgo (a.eval x') (a.eval y') (by rw [ex]; intro p q h; cases h) (by rw [ex]; intro h; cases h)
    rw [ex, ey] at hrun hg
    obtain ⟨u, h1, h2⟩ := run_bnStr (P := P) (w := w) (ty := ty) hz
    exact .stay W (hrun _ hg h1) (h2 ..)
  · rename_i hni hns
    have key : ∀ r, eqv kd (xv t x) (xv t y) = some r → (eqGuard op ty x' y' (a.eval x') (a.eval y')).run P w = .ok () w ∧ (Op.equal ty (a.eval x') (a.eval y')).run P w = .ok r w ∧
        (∀ k p k' q, a.eval x' = .int k p → a.eval y' = .int k' q → False) ∧ (∀ k p k' q, a.eval x' = .float k p → a.eval y' = .float k' q → False) ∧ (∀ k p q k' p' q', a.eval x' = .complex k p q → a.eval y' = .complex k' p' q' → False) ∧ (∀ p q, a.eval x' = .string p → a.eval y' = .string q → False) := by
      intro r hr
      have hk : kd ≠ 0 := by intro h0; subst h0; simp [eqv] at hr
      obtain ⟨d, hu, hd'⟩ := hd hk
      refine ⟨hgo _ _ ?_ ?_, run_eqv hcx hcy hr hu hd', ?_, ?_, ?_, ?_⟩
      all_goals
        unfold eqv at hr
        split at hr <;> simp only [reduceCtorEq, Option.some.injEq] at hr <;> (rename_i e1 e2; rw [e1] at hcx; rw [e2] at hcy; generalize a.eval x' = u at hcx; generalize a.eval y' = u' at hcy; cases hcx <;> cases hcy <;> simp)
    split at hz
    · obtain ⟨r, hr, rfl⟩ := Option.map_eq_some_iff.1 hz
      obtain ⟨k1, k2, k3, k4, k5, k6⟩ := key r hr
      refine .stay W (x := .bool r) ?_ (.bool _)
      have h2 : (binOp .eql ty (a.eval x') (a.eval y')).run P w = .ok (.bool r) w := by
        unfold binOp
        split <;> first
          | (exfalso; first | exact k3 _ _ _ _ ‹_› ‹_› | exact k4 _ _ _ _ ‹_› ‹_› | exact k5 _ _ _ _ _ _ ‹_› ‹_› | exact k6 _ _ ‹_› ‹_›)
          | (simp_all; done)
      exact hrun _ k1 h2
    · obtain ⟨r, hr, rfl⟩ := Option.map_eq_some_iff.1 hz
      obtain ⟨k1, k2, k3, k4, k5, k6⟩ := key r hr
      refine .stay W (x := .bool !r) ?_ (.bool _)
      have h2 : (binOp .neq ty (a.eval x') (a.eval y')).run P w = .ok (.bool !r) w := by
        unfold binOp
        split <;> first
          | (exfalso; first | exact k3 _ _ _ _ ‹_› ‹_› | exact k4 _ _ _ _ ‹_› ‹_› | exact k5 _ _ _ _ _ _ ‹_› ‹_› | exact k6 _ _ ‹_› ‹_›)
          | (simp_all; done)
      exact hrun _ k1 h2
    · cases hz
end
end Go.Proofs.Abs

-- ---- Abs8
set_option linter.unusedSimpArgs false
set_option linter.unusedVariables false
namespace Go.Proofs.Abs
open Go.RowKit
section
variable {P : Program} {w0 : World} {X0 : Nat → Prop} {w : World} {h : AHeap} {loc : Nat → Nat} {a : Act} {t : List AV} {o : Oper} {b : Nat}

theorem Rep.own_inv {X} {id n off len : Nat} {v : Value} (hr : Rep w h loc X (.own id n off len) v) : ∃ ad cap, v = .slice (some ad) len cap ∧ len ≤ cap ∧ begun h id n ∧
    (good h id n → ad = ⟨loc id, off * sizeAt h id, none⟩ ∧ off + len ≤ lenAt h id ∧ ∃ e z, w.shape? (loc id) = some (e, z) ∧ (off + cap) * sizeAt h id ≤ z) := by
  cases hr with
  | own id n off len ad cap hb hcap hg => exact ⟨ad, cap, rfl, hcap, hb, hg⟩

theorem size_mk (l : List UInt8) : (ByteArray.mk l.toArray).size = l.length := by show l.toArray.size = _; simp

theorem ok_nlt {neg : Bool} {op : BinOp} {ty ty2 e : Nat} {x : PX} {x' y' : Operand} {v : AV} {h1 : AHeap} (W : Wrel w0 X0 w h loc) (S : Slots w h loc (XH X0 h loc) t a.tmps) (ho : o.op = .binOp op ty x' y' ty2) (hx : chkX x' x = true)
    (hop : (op = .eql ∧ neg = false) ∨ (op = .neq ∧ neg = true)) (hy : y' = .const (.slice none 0 0)) (hu : P.underlying ty = some (.slice e))
    (hv : opH t h b (.nlt neg x) = some (v, h1)) : OpOK ((execOp a.eval o).run P w) w0 X0 w h loc v h1 := by
  have hc := S.x hx
  have key : ∀ ad n c, a.eval x' = .slice (some ad) n c → (execOp a.eval o).run P w = .ok (.value (.bool neg)) w := by
    intro ad n c hs
    have he : (Op.equal ty (.slice (some ad) n c) (.slice none 0 0)).run P w = .ok false w := by
      rw [equal_unfold]
      unfold Op.equalIn
      simp [run_underlying hu]
    have hye : a.eval y' = .slice none 0 0 := by rw [hy]; rfl
    rcases hop with ⟨rfl, rfl⟩ | ⟨rfl, rfl⟩ <;> simp [execOp, ho, hye, eqGuard, binOp, he, hs]
  simp only [opH] at hv
  split at hv <;> simp at hv <;> (rename_i hz; rw [hz] at hc; obtain ⟨rfl, rfl⟩ := hv)
  · obtain ⟨ad, cap, hs, hcap, hfull, hne⟩ := hc.lst_inv
    obtain ⟨s', bk, o0, val, rfl, _⟩ := hne (by simp)
    exact .stay W (key _ _ _ hs) (.bool _)
  · obtain ⟨ad, cap, hs, _⟩ := hc.own_inv
    exact .stay W (key _ _ _ hs) (.bool _)

theorem ok_len {str : Bool} {x : PX} {x' : Operand} {ty : Nat} {d : TypeDesc} {v : AV} {h1 : AHeap} (W : Wrel w0 X0 w h loc) (S : Slots w h loc (XH X0 h loc) t a.tmps) (ho : o.op = .call ⟨.builtin .len, #[x'], #[ty]⟩) (hx : chkX x' x = true)
    (hu : P.underlying ty = some d) (hd2 : str = true → d = .string) (hd3 : str = false → ∃ e, d = .slice e)
    (hv : opH t h b (.len str x) = some (v, h1)) : OpOK ((execOp a.eval o).run P w) w0 X0 w h loc v h1 := by
  have hc := S.x hx
  simp only [opH] at hv
  split at hv <;> simp at hv <;> (rename_i hz; rw [hz] at hc; obtain ⟨rfl, rfl⟩ := hv)
  · obtain ⟨e, rfl⟩ := hd3 rfl
    obtain ⟨ad, cap, hs, _⟩ := hc.lst_inv
    refine .stay W ?_ (.int _ _)
    simp [execOp, ho, resolve, Go.invoke, builtin, Builtin.len_, run_underlying hu, hs, goInt]
  · obtain ⟨e, rfl⟩ := hd3 rfl
    obtain ⟨ad, cap, hs, _⟩ := hc.own_inv
    refine .stay W ?_ (.int _ _)
    simp [execOp, ho, resolve, Go.invoke, builtin, Builtin.len_, run_underlying hu, hs, goInt]
  · obtain rfl := hd2 rfl
    refine .stay W ?_ (.int _ _)
    simp [execOp, ho, resolve, Go.invoke, builtin, Builtin.len_, run_underlying hu, hc.str_inv, goInt, size_mk]

theorem ok_lenk {n : Nat} {x' : Operand} {ty e : Nat} {d : TypeDesc} {v : AV} {h1 : AHeap} (W : Wrel w0 X0 w h loc) (S : Slots w h loc (XH X0 h loc) t a.tmps) (ho : o.op = .call ⟨.builtin .len, #[x'], #[ty]⟩)
    (hu : P.underlying ty = some (.array n e))
    (hv : opH t h b (.lenk n) = some (v, h1)) : OpOK ((execOp a.eval o).run P w) w0 X0 w h loc v h1 := by
  simp only [opH, Option.some.injEq, Prod.mk.injEq] at hv
  obtain ⟨rfl, rfl⟩ := hv
  refine .stay W ?_ (.int _ _)
  simp [execOp, ho, resolve, Go.invoke, builtin, Builtin.len_, run_underlying hu, goInt]

theorem ok_cv {k : IntKind} {src dst : Nat} {x : PX} {x' : Operand} {d : TypeDesc} {v : AV} {h1 : AHeap} (W : Wrel w0 X0 w h loc) (S : Slots w h loc (XH X0 h loc) t a.tmps) (ho : o.op = .convert src dst x') (hx : chkX x' x = true)
    (hu : P.underlying src = some d) (hu2 : P.underlying dst = some (.int k)) (hv : opH t h b (.cv k x) = some (v, h1)) : OpOK ((execOp a.eval o).run P w) w0 X0 w h loc v h1 := by
  have hc := S.x hx
  simp only [opH] at hv
  split at hv <;> simp at hv
  rename_i k1 n hz
  rw [hz] at hc
  obtain ⟨rfl, rfl⟩ := hv
  refine .stay W ?_ (.int _ _)
  simp [execOp, ho, convert, run_underlying hu, run_underlying hu2, hc.int_inv, Conv.intToInt]

theorem ok_cvs {src dst : Nat} {x : PX} {x' : Operand} {v : AV} {h1 : AHeap} (W : Wrel w0 X0 w h loc) (S : Slots w h loc (XH X0 h loc) t a.tmps) (ho : o.op = .convert src dst x') (hx : chkX x' x = true)
    (hu : P.underlying src = some .string) (hu2 : P.underlying dst = some .string) (hv : opH t h b (.cvs x) = some (v, h1)) : OpOK ((execOp a.eval o).run P w) w0 X0 w h loc v h1 := by
  have hc := S.x hx
  simp only [opH] at hv
  split at hv <;> simp at hv
  rename_i l hz
  rw [hz] at hc
  obtain ⟨rfl, rfl⟩ := hv
  refine .stay W ?_ (.str _)
  simp [execOp, ho, convert, run_underlying hu, run_underlying hu2, hc.str_inv]

/-- The bytes that a row of cells has. -/
theorem bytes_rep : ∀ {l : List AV} {m : List UInt8} (val : Nat → Value), bytesOf? l = some m → (∀ k (hk : k < l.length), Rep w h loc (XH X0 h loc) l[k] (val k)) → m.length = l.length ∧ ∀ k (hk : k < m.length), ∃ n : Int, val k = .int .u8 n ∧ m[k] = UInt8.ofNat n.toNat
  | [], m, val, hb, _ => by simp [bytesOf?] at hb; subst hb; exact ⟨rfl, fun k hk => by simp at hk⟩
  | x :: l, m, val, hb, hr => by
    simp only [bytesOf?, Option.bind_eq_some_iff, Option.map_eq_some_iff] at hb
    obtain ⟨c, hc, m', hm, rfl⟩ := hb
    obtain ⟨h1, h2⟩ := bytes_rep (fun k => val (k + 1)) hm (fun k hk => hr (k + 1) (by simpa using hk))
    refine ⟨by simp [h1], fun k hk => ?_⟩
    cases k with
    | zero =>
      have h0 := hr 0 (by simp)
      simp only [List.getElem_cons_zero] at h0
      unfold byteOf? at hc
      split at hc <;> simp at hc
      subst hc
      exact ⟨_, h0.int_inv, rfl⟩
    | succ k => exact h2 k (by simpa using hk)

theorem run_bytes (f : Value → ByteArray → Sem (ForInStep ByteArray)) (hf : ∀ (n : Int) (s : ByteArray), f (.int .u8 n) s = pure (.yield (s.push (UInt8.ofNat n.toNat)))) (l : List Value) : ∀ (m : List UInt8) (hl : m.length = l.length)
    (hr : ∀ k (hk : k < m.length), ∃ n : Int, l[k]'(by omega) = .int .u8 n ∧ m[k] = UInt8.ofNat n.toNat) (s : ByteArray), (forIn (m := Sem) l s f).run P w = .ok ⟨s.data ++ m.toArray⟩ w := by
  induction l with
  | nil => intro m hl hr s; cases m <;> simp at hl ⊢
  | cons v l ih =>
    intro m hl hr s
    cases m with
    | nil => simp at hl
    | cons c m =>
      obtain ⟨n, h1, h2⟩ := hr 0 (by simp)
      simp at h1 h2
      subst h1
      have := ih m (by simpa using hl) (fun k hk => by
        have h3 := hr (k + 1) (by simpa using hk)
        simp only [List.getElem_cons_succ] at h3
        exact h3) (s.push c)
      subst h2
      simp [hf, this]

theorem bytes_flat : ∀ {l : List AV} {m : List UInt8}, bytesOf? l = some m → flat l = l
  | [], _, _ => rfl
  | x :: l, m, hb => by
    simp only [bytesOf?, Option.bind_eq_some_iff, Option.map_eq_some_iff] at hb
    obtain ⟨c, hc, m', hm, rfl⟩ := hb
    rw [flat_cons, bytes_flat hm]
    unfold byteOf? at hc
    split at hc <;> simp at hc
    rfl

/-- The cells of a stretch of a block. -/
theorem win_at {id n off len : Nat} {l : List AV} (W : Wrel w0 X0 w h loc) (hl : win h id n off len = some l) : ∃ (s : Nat) (es : List AV) (row : Array Value) (e : TypeId) (fr : Nat × Nat), h[id]? = some ⟨.live, s, n, es⟩ ∧ off + len ≤ es.length ∧
    l = (es.drop off).take len ∧ l.length = len ∧ (∀ x ∈ l, x.cells.length = s) ∧ (∀ x ∈ flat l, x.leaf = true) ∧ w.heap[loc id]? = some (.cells row e fr) ∧
    ∀ k (hk : k < (flat l).length), w.cell? ⟨loc id, off * s + k, none⟩ = some (row.getD (off * s + k) undef) ∧ Rep w h loc (XH X0 h loc) (flat l)[k] (row.getD (off * s + k) undef) := by
  unfold win at hl
  split at hl <;> simp at hl
  rename_i s v es hid
  obtain ⟨rfl, hle, rfl⟩ := hl
  have hat : BlkAt _ _ _ _ _ (loc id) s es := W.heap.blk id _ hid rfl
  obtain ⟨row, et, fr, hrow, hfr, hlen, hval⟩ := hat.row
  have hmem : ∀ x, x ∈ (es.drop off).take len → x ∈ es := fun x hx => List.mem_of_mem_drop (List.mem_of_mem_take hx)
  have hsl : ∀ x ∈ (es.drop off).take len, x.cells.length = s := fun x hx => hat.s x (hmem x hx)
  have hsplit : flat es = flat (es.take off) ++ (flat ((es.drop off).take len) ++ flat ((es.drop off).drop len)) := by
    rw [← flat_append, List.take_append_drop, ← flat_append, List.take_append_drop]
  have hpre : (flat (es.take off)).length = off * s := by
    rw [flat_length (fun x hx => hat.s x (List.mem_of_mem_take hx)), List.length_take, Nat.min_eq_left (by omega)]
  refine ⟨s, es, row, et, fr, hid, hle, rfl, by simp; omega, hsl, fun x hx => hat.leaf x (by rw [hsplit]; simp [hx]), hrow, fun k hk => ?_⟩
  have hk2 : off * s + k < (flat es).length := by rw [hsplit, List.length_append, List.length_append, hpre]; omega
  obtain ⟨u, hu1, hu2⟩ := hval _ hk2
  have hg1 : row.getD (off * s + k) undef = u := by rw [Array.getD_eq_getD_getElem?, hu1]; rfl
  have he : (flat es)[off * s + k] = (flat ((es.drop off).take len))[k] := by
    have h3 : (flat es)[off * s + k]? = (flat ((es.drop off).take len))[k]? := by
      rw [hsplit, List.getElem?_append_right (by omega), hpre, List.getElem?_append_left (by omega)]
      congr 1
      omega
    rw [List.getElem?_eq_getElem hk2, List.getElem?_eq_getElem hk] at h3
    exact Option.some.inj h3
  rw [hg1, ← he]
  exact ⟨by simp [World.cell?, hrow, hu1], hu2⟩

theorem ok_b2s {src dst e : Nat} {x : PX} {x' : Operand} {v : AV} {h1 : AHeap} (W : Wrel w0 X0 w h loc) (S : Slots w h loc (XH X0 h loc) t a.tmps) (ho : o.op = .convert src dst x') (hx : chkX x' x = true)
    (hu : P.underlying src = some (.slice e)) (he : P.underlying e = some (.int .u8)) (hu2 : P.underlying dst = some .string) (hv : opH t h b (.b2s x) = some (v, h1)) : OpOK ((execOp a.eval o).run P w) w0 X0 w h loc v h1 := by
  have hc := S.x hx
  have hrun : ∀ (l : List AV) (m : List UInt8) (ad : Addr) (cap : Nat) (val : Nat → Value), a.eval x' = .slice (some ad) l.length cap → bytesOf? l = some m → (∀ k, k < l.length → w.cell? (ad.add k) = some (val k)) →
      (∀ k (hk : k < l.length), Rep w h loc (XH X0 h loc) l[k] (val k)) → (execOp a.eval o).run P w = .ok (.value (.string ⟨m.toArray⟩)) w := by
    intro l m ad cap val hs hm hcell hr
    obtain ⟨hl, hb⟩ := bytes_rep val hm hr
    have h1 := run_loadCells (P := P) w ad l.length val hcell
    simp only [execOp, ho, convert, Sem.run_bind, run_underlying hu, run_underlying hu2, run_underlying he, Result.andThen_ok, hs, Conv.bytesToString, h1, List.forIn_toArray]
    rw [run_bytes (P := P) (w := w) _ (fun n s => by simp) ((List.range l.length).map val) m (by simpa using hl) (fun k hk => by simpa using hb k hk) ByteArray.empty]
    simp
  simp only [opH] at hv
  split at hv <;> simp only [Option.map_eq_some_iff, Option.bind_eq_some_iff, Prod.mk.injEq, reduceCtorEq] at hv
  · rename_i f l hz
    obtain ⟨m, hm, rfl, rfl⟩ := hv
    rw [hz] at hc
    obtain ⟨ad, cap, hs, hcap, hfull, hne⟩ := hc.lst_inv
    refine .stay W (x := .string ⟨m.toArray⟩) ?_ (.str _)
    by_cases hl : l = []
    · subst hl
      simp [bytesOf?] at hm
      subst hm
      simp only [List.length_nil] at hs
      cases ad with
      | none => simp [execOp, ho, convert, run_underlying hu, run_underlying hu2, run_underlying he, hs, Conv.bytesToString]; rfl
      | some ad => exact hrun [] [] ad cap (fun _ => undef) hs rfl (fun k hk => by simp at hk) (fun k hk => by simp at hk)
    · obtain ⟨s', bk, o0, val, rfl, hX, hb, hs', hlf, hpu, hcell, hr⟩ := hne hl
      have hfl := bytes_flat hm
      refine hrun l m _ cap val hs hm (fun k hk => ?_) (fun k hk => ?_)
      · rw [Addr.add_mid]; exact hcell k (by rw [hfl]; exact hk)
      · simpa [hfl] using hr k (by rw [hfl]; exact hk)
  · rename_i id n off len hz
    obtain ⟨m, ⟨l, hl, hm⟩, rfl, rfl⟩ := hv
    rw [hz] at hc
    obtain ⟨ad, cap, hs, hcap, hb, hg⟩ := hc.own_inv
    obtain ⟨s, es, row, et, fr, hid, hle, hle2, hlen, hsl, hlf, hrow, hcv⟩ := win_at W hl
    obtain ⟨rfl, _⟩ := hg ⟨_, hid, rfl, rfl⟩
    have hsz : sizeAt h id = s := by simp [sizeAt, hid]
    have hfl := bytes_flat hm
    refine .stay W (x := .string ⟨m.toArray⟩) (hrun l m _ cap (fun k => row.getD (off * s + k) undef) (by rw [hlen]; exact hs) hm (fun k hk => ?_) (fun k hk => ?_)) (.str _)
    · rw [Addr.add_mid, hsz]; exact (hcv k (by rw [hfl]; exact hk)).1
    · have := (hcv k (by rw [hfl]; exact hk)).2
      simpa [hfl] using this

/-- A bound of a slice expression. -/
def chkO : Option Operand → Option PX → Bool
  | none, none => true
  | some x, some y => chkX x y
  | _, _ => false

theorem run_bound {x : PX} {x' : Operand} {y e n : Nat} {code : BoundsCode} (S : Slots w h loc (XH X0 h loc) t a.tmps) (hx : chkX x' x = true) {m : Nat} (hb : bnd t m (some x) e = some n) (hm : m ≤ y) :
    (Instr.sliceBound (a.eval x') y code).run P w = .ok n w ∧ n ≤ m := by
  have hc := S.x hx
  simp only [bnd] at hb
  split at hb
  · rename_i k i hz
    rw [hz] at hc
    split at hb <;> simp at hb
    rename_i hi
    subst hb
    have h1 : i ≤ y := by omega
    exact ⟨by simp [Instr.sliceBound, hc.int_inv, asIntOf, hi.1, h1], by omega⟩
  · simp at hb

theorem ok_sl {s ty e : Nat} {x : PX} {lo hi mx : Option PX} {x' : Operand} {lo' hi' mx' : Option Operand} {inf : TypeInfo} {v : AV} {h1 : AHeap} (W : Wrel w0 X0 w h loc) (S : Slots w h loc (XH X0 h loc) t a.tmps) (ho : o.op = .slice ty x' lo' hi' mx') (hx : chkX x' x = true)
    (hlo : chkO lo' lo = true) (hhi : chkO hi' hi = true) (hmx : chkO mx' mx = true) (hmh : mx.isSome = true → hi.isSome = true)
    (hu : P.underlying ty = some (.slice e)) (he : P.info? e = some inf) (hsz : inf.size = s)
    (hv : opH t h b (.sl s x lo hi mx) = some (v, h1)) : OpOK ((execOp a.eval o).run P w) w0 X0 w h loc v h1 := by
  have hc := S.x hx
  -- the bounds, as the machine reads them
  have hbounds : ∀ (len cap m c p : Nat), len ≤ cap → bnd t len mx len = some m → bnd t m hi len = some c → bnd t c lo 0 = some p →
      (mx = none → ∃ m', m' = cap ∧ (Instr.sliceBounds true len cap (lo'.map a.eval) (hi'.map a.eval) (mx'.map a.eval)).run P w = .ok (p, c, cap) w) ∧
      (mx.isSome = true → (Instr.sliceBounds true len cap (lo'.map a.eval) (hi'.map a.eval) (mx'.map a.eval)).run P w = .ok (p, c, m) w) ∧ p ≤ c ∧ c ≤ len ∧ c ≤ m ∧ m ≤ len := by
    intro len cap m c p hlc hm hc hp
    have hm' : m ≤ len := by
      cases mx with
      | none => simp [bnd] at hm; omega
      | some y => cases mx' <;> simp [chkO] at hmx; exact (run_bound (P := P) (code := .index) S hmx hm (Nat.le_refl _)).2
    have hc' : c ≤ m := by
      cases hi with
      | none =>
        simp [bnd] at hc
        cases mx with
        | none => simp [bnd] at hm; omega
        | some y => simp at hmh
      | some y => cases hi' <;> simp [chkO] at hhi; exact (run_bound (P := P) (code := .index) S hhi hc (Nat.le_refl _)).2
    have hp' : p ≤ c := by
      cases lo with
      | none => simp [bnd] at hp; omega
      | some y => cases lo' <;> simp [chkO] at hlo; exact (run_bound (P := P) (code := .index) S hlo hp (Nat.le_refl _)).2
    have hlow : ∀ code, (match lo'.map a.eval with | some v => Instr.sliceBound v c code | none => pure 0 : Sem Nat).run P w = .ok p w := by
      intro code
      cases lo with
      | none => cases lo' <;> simp [chkO] at hlo; simp [bnd] at hp; subst hp; rfl
      | some y => cases lo' <;> simp [chkO] at hlo; exact (run_bound (P := P) S hlo hp (Nat.le_refl _)).1
    refine ⟨fun hmn => ⟨cap, rfl, ?_⟩, fun hms => ?_, hp', by omega, hc', hm'⟩
    · subst hmn
      cases mx' <;> simp [chkO] at hmx
      simp [bnd] at hm
      subst hm
      cases hi with
      | none =>
        cases hi' <;> simp [chkO] at hhi
        simp [bnd] at hc
        subst hc
        cases lo' with
        | none => have := hlow .sliceB; simp [Instr.sliceBounds] at this ⊢; exact this
        | some y => have := hlow .sliceB; simp [Instr.sliceBounds] at this ⊢; simp [this]
      | some y =>
        cases hi' <;> simp [chkO] at hhi
        have h1 := (run_bound (P := P) (code := .sliceAcap) S hhi hc hlc).1
        cases lo' with
        | none => have := hlow .sliceB; simp [Instr.sliceBounds, h1] at this ⊢; exact this
        | some y => have := hlow .sliceB; simp [Instr.sliceBounds, h1] at this ⊢; simp [this]
    · cases mx with
      | none => simp at hms
      | some y =>
        cases mx' <;> simp [chkO] at hmx
        have h0 := (run_bound (P := P) (code := .slice3Acap) S hmx hm hlc).1
        cases hi with
        | none => simp at hmh
        | some z =>
          cases hi' <;> simp [chkO] at hhi
          have h1 := (run_bound (P := P) (code := .slice3B) S hhi hc (Nat.le_refl _)).1
          cases lo' with
          | none => have := hlow .slice3C; simp [Instr.sliceBounds, h0, h1] at this ⊢; exact this
          | some y => have := hlow .slice3C; simp [Instr.sliceBounds, h0, h1] at this ⊢; simp [this]
  have hrun : ∀ (ad : Option Addr) (len cap p c m : Nat), a.eval x' = .slice ad len cap → (Instr.sliceBounds true len cap (lo'.map a.eval) (hi'.map a.eval) (mx'.map a.eval)).run P w = .ok (p, c, m) w →
      (execOp a.eval o).run P w = .ok (.value (.slice (if m = p then ad else ad.map (·.add (p * s))) (c - p) (m - p))) w := by
    intro ad len cap p c m hs hb
    simp [execOp, ho, Instr.sliceAt, Instr.slice, run_underlying hu, hs, hb, sizeOf, typeInfo, he, hsz]
  simp only [opH] at hv
  split at hv
  · rename_i f l hz
    simp only [Option.bind_eq_some_iff] at hv
    obtain ⟨m, hm, c, hcc, p, hp, hv⟩ := hv
    split at hv <;> simp at hv
    obtain ⟨rfl, rfl⟩ := hv
    rw [hz] at hc
    obtain ⟨ad, cap, hs, hcap, hfull, hne⟩ := hc.lst_inv
    obtain ⟨hb1, hb2, hpc, hcl, hcm, hml⟩ := hbounds l.length cap m c p hcap hm hcc hp
    -- the machine's result
    obtain ⟨M, hM, hMr, hcM, hMf⟩ : ∃ M, (Instr.sliceBounds true l.length cap (lo'.map a.eval) (hi'.map a.eval) (mx'.map a.eval)).run P w = .ok (p, c, M) w ∧ c ≤ M ∧ M ≤ cap ∧
        (((mx.isSome = true ∧ m = c) ∨ (f = true ∧ mx = none) ∧ c = l.length) → M = c) := by
      by_cases hms : mx.isSome = true
      · exact ⟨m, hb2 hms, hcm, by omega, fun hh => by rcases hh with ⟨_, h⟩ | ⟨⟨_, h⟩, _⟩; exact h; simp [h] at hms⟩
      · have hmn : mx = none := by cases mx <;> simp at hms ⊢
        obtain ⟨_, rfl, hr⟩ := hb1 hmn
        exact ⟨_, hr, by omega, Nat.le_refl _, fun hh => by rcases hh with ⟨h, _⟩ | ⟨⟨hf, _⟩, hc⟩; simp [hmn] at h; have := hfull hf; omega⟩
    have hlen : ((l.take c).drop p).length = c - p := by simp; omega
    refine .stay W (hrun ad _ cap p c M hs hM) ?_
    by_cases hcp : c = p
    · have h0 : (l.take c).drop p = [] := List.eq_nil_of_length_eq_zero (by omega)
      rw [h0, show c - p = 0 from by omega]
      refine .lst0 _ _ _ (fun hf => ?_)
      have := hMf (by simpa using hf)
      omega
    · obtain ⟨s', bk, o0, val, rfl, hX, hb, hs', hlf, hpu, hcell, hr⟩ := hne (by intro e; subst e; simp at hcl; omega)
      have hMp : M ≠ p := by omega
      rw [if_neg hMp]
      have hss : s' = s := by
        have hh : hds s l = true := ‹hds s l = true›
        cases l with
        | nil => simp at hcl; omega
        | cons y l => simp [hds] at hh; rw [← hh]; exact (hs' y (by simp)).symm
      subst hss
      have hsub : flat l = flat (l.take p) ++ (flat ((l.take c).drop p) ++ flat (l.drop c)) := by
        rw [← flat_append, ← flat_append]
        congr 1
        rw [← List.append_assoc]
        have : l.take p ++ (l.take c).drop p = l.take c := by
          have h1 := List.take_append_drop p (l.take c)
          rwa [List.take_take, Nat.min_eq_left hpc] at h1
        rw [this, List.take_append_drop]
      have hpre : (flat (l.take p)).length = p * s' := by
        rw [flat_length (fun y hy => hs' y (List.mem_of_mem_take hy)), List.length_take, Nat.min_eq_left (by omega)]
      have hget : ∀ k (hk : k < (flat ((l.take c).drop p)).length), ∃ hk2 : p * s' + k < (flat l).length, (flat l)[p * s' + k] = (flat ((l.take c).drop p))[k] := by
        intro k hk
        have hk2 : p * s' + k < (flat l).length := by rw [hsub, List.length_append, List.length_append, hpre]; omega
        refine ⟨hk2, ?_⟩
        have h3 : (flat l)[p * s' + k]? = (flat ((l.take c).drop p))[k]? := by
          rw [hsub, List.getElem?_append_right (by omega), hpre, List.getElem?_append_left (by omega)]
          congr 1
          omega
        rw [List.getElem?_eq_getElem hk2, List.getElem?_eq_getElem hk] at h3
        exact Option.some.inj h3
      have hmem : ∀ y, y ∈ (l.take c).drop p → y ∈ l := fun y hy => List.mem_of_mem_take (List.mem_of_mem_drop hy)
      have hnn : (l.take c).drop p ≠ [] := fun e => by rw [e] at hlen; simp at hlen; omega
      have hadd : (some (⟨bk, o0, none⟩ : Addr)).map (·.add (p * s')) = some ⟨bk, o0 + p * s', none⟩ := by simp [Addr.add_mid]
      rw [hadd, ← hlen]
      refine .lst _ _ hnn s' bk (o0 + p * s') (M - p) (fun k => val (p * s' + k)) (fun hf => ?_) (by omega) hX hb (fun y hy => hs' y (hmem y hy)) (fun y hy => hlf y (by rw [hsub]; simp [hy])) (fun y hy => hpu y (hmem y hy)) (fun k hk => ?_) (fun k hk => ?_)
      · have := hMf (by simpa using hf)
        omega
      · rw [Nat.add_assoc]; exact hcell _ (hget k hk).1
      · obtain ⟨hk2, he⟩ := hget k hk
        rw [← he]; exact hr _ hk2
  · rename_i id n off len hz
    split at hv
    · simp at hv
    rename_i hms
    have hmn : mx = none := by cases mx <;> simp at hms ⊢
    simp only [Option.bind_eq_some_iff] at hv
    obtain ⟨c, hcc, p, hp, hv⟩ := hv
    split at hv <;> simp at hv
    rename_i hsa
    obtain ⟨rfl, rfl⟩ := hv
    rw [hz] at hc
    obtain ⟨ad, cap, hs, hcap, hb, hg⟩ := hc.own_inv
    obtain ⟨hb1, hb2, hpc, hcl, hcm, hml⟩ := hbounds len cap len c p hcap (by rw [hmn]; rfl) hcc hp
    obtain ⟨_, _, hr⟩ := hb1 hmn
    refine .stay W (hrun _ _ _ p c _ hs hr) ?_
    split
    · rename_i h0
      subst h0
      have hif : (if cap = 0 then some ad else (some ad).map (·.add (0 * s))) = some ad := by split <;> simp [Addr.add]
      rw [hif]
      simp only [Nat.sub_zero]
      refine .own _ _ _ _ _ _ hb (by omega) (fun g => ?_)
      obtain ⟨h1, h2, h3⟩ := hg g
      exact ⟨h1, by omega, h3⟩
    · split
      · rename_i h0 h1
        subst h1
        rw [Nat.sub_self]
        exact .lst0 _ _ _ (fun hf => by simp at hf)
      · rename_i h0 h1
        have hcp : cap ≠ p := by omega
        rw [if_neg hcp]
        refine .own _ _ _ _ _ _ hb (by omega) (fun g => ?_)
        obtain ⟨h1, h2, e', z, h3, h4⟩ := hg g
        refine ⟨?_, by omega, e', z, h3, ?_⟩
        · rw [h1]; show (⟨loc id, off * sizeAt h id, none⟩ : Addr).add (p * s) = _; rw [Addr.add_mid, hsa, Nat.add_mul]
        · have : off + p + (cap - p) = off + cap := by omega
          rw [this]; exact h4
  · simp at hv

theorem ok_sls {ty : Nat} {x : PX} {lo hi : Option PX} {x' : Operand} {lo' hi' : Option Operand} {v : AV} {h1 : AHeap} (W : Wrel w0 X0 w h loc) (S : Slots w h loc (XH X0 h loc) t a.tmps) (ho : o.op = .slice ty x' lo' hi' none) (hx : chkX x' x = true)
    (hlo : chkO lo' lo = true) (hhi : chkO hi' hi = true) (hu : P.underlying ty = some .string)
    (hv : opH t h b (.sls x lo hi) = some (v, h1)) : OpOK ((execOp a.eval o).run P w) w0 X0 w h loc v h1 := by
  have hc := S.x hx
  simp only [opH] at hv
  split at hv
  · rename_i l hz
    simp only [Option.bind_eq_some_iff, Option.some.injEq, Prod.mk.injEq] at hv
    obtain ⟨c, hcc, p, hp, rfl, rfl⟩ := hv
    rw [hz] at hc
    refine .stay W (x := .string ⟨((l.take c).drop p).toArray⟩) ?_ (.str _)
    have hsize := size_mk l
    have hex : (ByteArray.mk l.toArray).extract p c = ByteArray.mk ((l.take c).drop p).toArray := by
      apply ByteArray.ext
      simp [ByteArray.data_extract, List.drop_take]
    have hb : (Instr.sliceBounds false l.length l.length (lo'.map a.eval) (hi'.map a.eval) none).run P w = .ok (p, c, l.length) w := by
      cases hi with
      | none =>
        cases hi' <;> simp [chkO] at hhi
        simp [bnd] at hcc
        subst hcc
        cases lo with
        | none => cases lo' <;> simp [chkO] at hlo; simp [bnd] at hp; subst hp; simp [Instr.sliceBounds]
        | some y => cases lo' <;> simp [chkO] at hlo; have := (run_bound (P := P) (code := .sliceB) S hlo hp (Nat.le_refl _)).1; simp [Instr.sliceBounds, this]
      | some y =>
        cases hi' <;> simp [chkO] at hhi
        have h1 := (run_bound (P := P) (code := .sliceAlen) S hhi hcc (Nat.le_refl _)).1
        cases lo with
        | none => cases lo' <;> simp [chkO] at hlo; simp [bnd] at hp; subst hp; simp [Instr.sliceBounds, h1]
        | some y => cases lo' <;> simp [chkO] at hlo; have := (run_bound (P := P) (code := .sliceB) S hlo hp (Nat.le_refl _)).1; simp [Instr.sliceBounds, h1, this]
    simp [execOp, ho, Instr.sliceAt, Instr.slice, run_underlying hu, hc.str_inv, hsize, hb, hex]
  · simp at hv

theorem run_min : ∀ (l : List AV) (vs : List Value) (v : AV), minL l = some v → l.length = vs.length → (∀ i (h1 : i < l.length) (h2 : i < vs.length), Rep w h loc (XH X0 h loc) l[i] vs[i]) →
    ∃ x xs y, vs = x :: xs ∧ (xs.foldlM Builtin.min2 x).run P w = .ok y w ∧ Rep w h loc (XH X0 h loc) v y := by
  intro l
  induction l using minL.induct with
  | case1 k x k2 y r ih =>
    intro vs v hv hl hr
    cases vs with
    | nil => simp at hl
    | cons u vs =>
      cases vs with
      | nil => simp at hl
      | cons u2 vs =>
        rw [minL] at hv
        have e1 := (hr 0 (by simp) (by simp)).int_inv
        have e2 := (hr 1 (by simp) (by simp)).int_inv
        simp at e1 e2
        subst e1 e2
        obtain ⟨x', xs, y', he, h1, h2⟩ := ih (.int k (if y < x then y else x) :: vs) v hv (by simpa using hl) (fun i h1 h2 => by
          cases i with
          | zero => exact .int _ _
          | succ i => exact hr (i + 2) (by simp at h1 ⊢; omega) (by simp at h2 ⊢; omega))
        cases he
        exact ⟨_, _, _, rfl, by simp [Builtin.min2, h1], h2⟩
  | case2 k x =>
    intro vs v hv hl hr
    cases vs with
    | nil => simp at hl
    | cons u vs =>
      cases vs with
      | nil =>
        simp [minL] at hv
        subst hv
        exact ⟨_, _, _, rfl, rfl, hr 0 (by simp) (by simp)⟩
      | cons u2 vs => simp at hl
  | case3 l h1 h2 =>
    intro vs v hv
    rw [minL] at hv
    · simp at hv
    · exact h1
    · exact h2

theorem ok_mn {l : List PX} {l' : Array Operand} {tys : Array Nat} {v : AV} {h1 : AHeap} (W : Wrel w0 X0 w h loc) (S : Slots w h loc (XH X0 h loc) t a.tmps) (ho : o.op = .call ⟨.builtin .min, l', tys⟩) (hx : chkXs l'.toList l = true)
    (hv : opH t h b (.mn l) = some (v, h1)) : OpOK ((execOp a.eval o).run P w) w0 X0 w h loc v h1 := by
  simp only [opH, Option.map_eq_some_iff, Prod.mk.injEq] at hv
  obtain ⟨u, hu, rfl, rfl⟩ := hv
  obtain ⟨hl, hr⟩ := S.xs hx
  obtain ⟨x, xs, y, he, h1, h2⟩ := run_min (P := P) _ _ _ hu hl hr
  refine .stay W ?_ h2
  have he' : (l'.map a.eval).toList = x :: xs := by simpa using he
  simp [execOp, ho, resolve, Go.invoke, builtin, Builtin.min_, he, h1]

theorem run_max : ∀ (l : List AV) (vs : List Value) (v : AV), maxL l = some v → l.length = vs.length → (∀ i (h1 : i < l.length) (h2 : i < vs.length), Rep w h loc (XH X0 h loc) l[i] vs[i]) →
    ∃ x xs y, vs = x :: xs ∧ (xs.foldlM Builtin.max2 x).run P w = .ok y w ∧ Rep w h loc (XH X0 h loc) v y := by
  intro l
  induction l using maxL.induct with
  | case1 k x k2 y r ih =>
    intro vs v hv hl hr
    cases vs with
    | nil => simp at hl
    | cons u vs =>
      cases vs with
      | nil => simp at hl
      | cons u2 vs =>
        rw [maxL] at hv
        have e1 := (hr 0 (by simp) (by simp)).int_inv
        have e2 := (hr 1 (by simp) (by simp)).int_inv
        simp at e1 e2
        subst e1 e2
        obtain ⟨x', xs, y', he, h1, h2⟩ := ih (.int k (if y > x then y else x) :: vs) v hv (by simpa using hl) (fun i h1 h2 => by
          cases i with
          | zero => exact .int _ _
          | succ i => exact hr (i + 2) (by simp at h1 ⊢; omega) (by simp at h2 ⊢; omega))
        cases he
        exact ⟨_, _, _, rfl, by simp [Builtin.max2, h1], h2⟩
  | case2 k x =>
    intro vs v hv hl hr
    cases vs with
    | nil => simp at hl
    | cons u vs =>
      cases vs with
      | nil =>
        simp [maxL] at hv
        subst hv
        exact ⟨_, _, _, rfl, rfl, hr 0 (by simp) (by simp)⟩
      | cons u2 vs => simp at hl
  | case3 l h1 h2 =>
    intro vs v hv
    rw [maxL] at hv
    · simp at hv
    · exact h1
    · exact h2

theorem ok_mx {l : List PX} {l' : Array Operand} {tys : Array Nat} {v : AV} {h1 : AHeap} (W : Wrel w0 X0 w h loc) (S : Slots w h loc (XH X0 h loc) t a.tmps) (ho : o.op = .call ⟨.builtin .max, l', tys⟩) (hx : chkXs l'.toList l = true)
    (hv : opH t h b (.mx l) = some (v, h1)) : OpOK ((execOp a.eval o).run P w) w0 X0 w h loc v h1 := by
  simp only [opH, Option.map_eq_some_iff, Prod.mk.injEq] at hv
  obtain ⟨u, hu, rfl, rfl⟩ := hv
  obtain ⟨hl, hr⟩ := S.xs hx
  obtain ⟨x, xs, y, he, h1, h2⟩ := run_max (P := P) _ _ _ hu hl hr
  refine .stay W ?_ h2
  simp [execOp, ho, resolve, Go.invoke, builtin, Builtin.max_, he, h1]
end
end Go.Proofs.Abs

-- ---- Abs9
set_option linter.unusedSimpArgs false
set_option linter.unusedVariables false
namespace Go.Proofs.Abs
open Go.RowKit
section
variable {P : Program} {w0 : World} {X0 : Nat → Prop} {w : World} {h : AHeap} {loc : Nat → Nat} {a : Act} {t : List AV} {o : Oper} {b : Nat}

/-- A world with one block more. -/
structure Pushed (w w1 : World) (row : Array Value) (e : TypeId) (fr : Nat × Nat) : Prop where
  heap : w1.heap = w.heap.push (.cells row e fr)
  os : w1.os = w.os
  tape : w1.tape = w.tape
  output : w1.output = w.output

theorem Pushed.alloc (w : World) (row : Array Value) (e : TypeId) (fr : Nat × Nat) : Pushed w (w.alloc (.cells row e fr)) row e fr := ⟨rfl, rfl, rfl, rfl⟩
theorem Pushed.drew {w w1 : World} {row : Array Value} {e : TypeId} {fr : Nat × Nat} (hp : Pushed w.drew w1 row e fr) : Pushed w w1 row e fr := ⟨hp.heap, hp.os, hp.tape, hp.output⟩

theorem Pushed.old {w w1 : World} {row : Array Value} {e : TypeId} {fr : Nat × Nat} (hp : Pushed w w1 row e fr) : w.heap.size ≤ w1.heap.size ∧ ∀ b, b < w.heap.size → w1.heap[b]? = w.heap[b]? := by
  rw [hp.heap]
  exact ⟨by simp, fun b hb => by rw [Array.getElem?_push, if_neg (by omega)]⟩
theorem Pushed.new {w w1 : World} {row : Array Value} {e : TypeId} {fr : Nat × Nat} (hp : Pushed w w1 row e fr) : w1.heap[w.heap.size]? = some (.cells row e fr) := by
  rw [hp.heap]; simp
theorem Pushed.cell {w w1 : World} {row : Array Value} {e : TypeId} {fr : Nat × Nat} (hp : Pushed w w1 row e fr) (k : Nat) : w1.cell? ⟨w.heap.size, k, none⟩ = row[k]? := by
  simp [World.cell?, hp.new]

theorem Below.same' {B : Nat} {w0 w w1 : World} (hb : Below B w0 w) (hB : B ≤ w.heap.size) (hs : w.heap.size ≤ w1.heap.size) (hbl : ∀ b, b < w.heap.size → w1.heap[b]? = w.heap[b]?) (h1 : w1.os = w.os) (h2 : w1.tape = w.tape) (h3 : w1.output = w.output) : Below B w0 w1 :=
  ⟨h1.trans hb.os, h2.trans hb.tape, h3.trans hb.output, Nat.le_trans hb.size hs, fun k hk => (hbl k (by omega)).trans (hb.block k hk)⟩

theorem Wrel.lt (W : Wrel w0 X0 w h loc) {b : Nat} (hx : XH X0 h loc b) : b < w.heap.size := by
  rcases hx with hx | ⟨id, k, hk, hl, rfl⟩
  · exact (W.x0 b hx).1
  · obtain ⟨row, e, fr, hr, _⟩ := (W.heap.blk id k hk hl).row
    exact (Array.getElem?_eq_some_iff.1 hr).1

theorem Wrel.same (W : Wrel w0 X0 w h loc) {w1 : World} (hs : w.heap.size ≤ w1.heap.size) (hbl : ∀ b, b < w.heap.size → w1.heap[b]? = w.heap[b]?) (h1 : w1.os = w.os) (h2 : w1.tape = w.tape) (h3 : w1.output = w.output) :
    Wrel w0 X0 w1 h loc ∧ Keeps w h loc (XH X0 h loc) w1 h loc (XH X0 h loc) :=
  ⟨⟨Below.same' W.below W.below.size hs hbl h1 h2 h3, W.x1 (keeps_same (X0 := X0) (h := h) (loc := loc) hs hbl), heap_same W.heap hs hbl⟩, keeps_same hs hbl⟩

theorem Wrel.pushed (W : Wrel w0 X0 w h loc) {w1 : World} {row : Array Value} {e : TypeId} {fr : Nat × Nat} (hp : Pushed w w1 row e fr) : Wrel w0 X0 w1 h loc ∧ Keeps w h loc (XH X0 h loc) w1 h loc (XH X0 h loc) :=
  W.same hp.old.1 hp.old.2 hp.os hp.tape hp.output

theorem OpOK.fp {r : Result Next} {w1 : World} {row : Array Value} {e : TypeId} {fr : Nat × Nat} {l : List AV} (W : Wrel w0 X0 w h loc) (hp : Pushed w w1 row e fr) (hr : r = .ok (.value (.pointer (some ⟨w.heap.size, 0, none⟩))) w1)
    (hlf : ∀ x ∈ l, x.leaf = true) (hpu : ∀ x ∈ l, x.pure = true) (hl : l.length ≤ row.size) (hrep : ∀ k (hk : k < l.length) (hk2 : k < row.size), Rep w h loc (XH X0 h loc) l[k] row[k]) : OpOK r w0 X0 w h loc (.fp l) h := by
  obtain ⟨W1, K⟩ := W.pushed hp
  refine ⟨_, _, w1, loc, hr, .inl rfl, K, W1, ?_⟩
  refine .fp l _ 0 (fun k => row.getD k undef) (fun hx => Nat.lt_irrefl _ (W.lt hx)) (by rw [hp.heap]; simp) hlf hpu (fun k hk => ?_) (fun k hk => ?_)
  · have hk2 : k < row.size := by omega
    rw [Nat.zero_add, hp.cell]
    simp [hk2]
  · have hk2 : k < row.size := by omega
    have := (hrep k hk hk2).keep K
    simpa [hk2] using this

theorem OpOK.lst {r : Result Next} {w1 : World} {row : Array Value} {e : TypeId} {fr : Nat × Nat} {l : List AV} {full : Bool} {s cap : Nat} (W : Wrel w0 X0 w h loc) (hp : Pushed w w1 row e fr) (hr : r = .ok (.value (.slice (some ⟨w.heap.size, 0, none⟩) l.length cap)) w1)
    (hfull : full = true → cap = l.length) (hcap : l.length ≤ cap) (hs : ∀ x ∈ l, x.cells.length = s) (hlf : ∀ x ∈ flat l, x.leaf = true) (hpu : ∀ x ∈ l, x.pure = true) (hl : (flat l).length ≤ row.size) (hrep : ∀ k (hk : k < (flat l).length) (hk2 : k < row.size), Rep w h loc (XH X0 h loc) (flat l)[k] row[k]) : OpOK r w0 X0 w h loc (.lst full l) h := by
  obtain ⟨W1, K⟩ := W.pushed hp
  refine ⟨_, _, w1, loc, hr, .inl rfl, K, W1, ?_⟩
  by_cases h0 : l = []
  · subst h0; exact .lst0 _ _ _ (fun hf => by simpa using hfull hf)
  refine .lst full l h0 s _ 0 cap (fun k => row.getD k undef) hfull hcap (fun hx => Nat.lt_irrefl _ (W.lt hx)) (by rw [hp.heap]; simp) hs hlf hpu (fun k hk => ?_) (fun k hk => ?_)
  · have hk2 : k < row.size := by omega
    rw [Nat.zero_add, hp.cell]
    simp [hk2]
  · have hk2 : k < row.size := by omega
    have := (hrep k hk hk2).keep K
    simpa [hk2] using this

theorem alc_spec {h h1 : AHeap} {b r id : Nat} {k : Blk} (ha : alc h b r k = some (id, h1)) : (h[id]? = none ∨ ∃ k, h[id]? = some k ∧ k.st = .hole) ∧ h1[id]? = some k ∧ ∀ j, j ≠ id → h1[j]? = h[j]? := by
  unfold alc at ha
  split at ha
  · simp at ha
    obtain ⟨rfl, rfl⟩ := ha
    refine ⟨.inl (by simp), by simp, fun j hj => ?_⟩
    rw [List.getElem?_append]
    split
    · rfl
    · rename_i hlt
      rw [List.getElem?_eq_none (by simp; omega), List.getElem?_eq_none (by omega)]
  · split at ha <;> simp at ha
    rename_i hh
    obtain ⟨rfl, rfl⟩ := ha
    refine ⟨.inr ⟨_, hh, rfl⟩, ?_, fun j hj => ?_⟩
    · rw [List.getElem?_set_self (List.getElem?_eq_some_iff.1 hh).1]
    · rw [List.getElem?_set_ne (by omega)]

/-- A new block of the abstract heap, at a new place. -/
theorem Wrel.newBlk (W : Wrel w0 X0 w h loc) {w1 : World} {row : Array Value} {e : TypeId} {fr : Nat × Nat} (hp : Pushed w w1 row e fr) {h1 : AHeap} {r id s ver : Nat} {es : List AV} (ha : alc h b r ⟨.live, s, ver, es⟩ = some (id, h1))
    (hs : ∀ x ∈ es, x.cells.length = s) (hlf : ∀ x ∈ flat es, x.leaf = true) (hl : (flat es).length ≤ row.size) (hfr : FrOK row.size fr)
    (hrep : ∀ k (hk : k < (flat es).length) (hk2 : k < row.size), Rep w h loc (XH X0 h loc) (flat es)[k] row[k]) :
    let loc1 := fun j => if j = id then w.heap.size else loc j
    Keeps w h loc (XH X0 h loc) w1 h1 loc1 (XH X0 h1 loc1) ∧ Wrel w0 X0 w1 h1 loc1 ∧ h1[id]? = some ⟨.live, s, ver, es⟩ ∧ loc1 id = w.heap.size := by
  intro loc1
  obtain ⟨ho, hat, hoth⟩ := alc_spec ha
  have hloc : loc1 id = w.heap.size := by simp [loc1]
  have c : Chg w0.heap.size w h loc w1 h1 loc1 id ⟨.live, s, ver, es⟩ :=
    { size := hp.old.1, blk := fun b hb _ => hp.old.2 b hb, oth := hoth, at1 := hat, pl := fun j hj => by simp [loc1, hj], old := .inl ho, new := fun _ => .inr (by rw [hloc]; exact Nat.le_refl _) }
  have K := c.keeps W.heap
  refine ⟨K, ⟨Below.same' W.below W.below.size hp.old.1 hp.old.2 hp.os hp.tape hp.output, W.x1 K, c.heap W.heap (fun _ => ⟨by rw [hloc]; exact W.below.size, ⟨row, e, fr, by rw [hloc]; exact hp.new, hfr, hl, fun i hi => ?_⟩, hs, hlf⟩)⟩, hat, hloc⟩
  have hk2 : i < row.size := by simp at hi; omega
  exact ⟨row[i], by simp [hk2], (hrep i hi hk2).keep K⟩

theorem flat_one (x : AV) : flat [x] = x.cells := by simp [flat]

theorem OpOK.newPtr {r : Result Next} {w1 : World} {row : Array Value} {e : TypeId} {fr : Nat × Nat} {x : AV} {ar id : Nat} {h1 : AHeap} (W : Wrel w0 X0 w h loc) (hp : Pushed w w1 row e fr) (hr : r = .ok (.value (.pointer (some ⟨w.heap.size, 0, none⟩))) w1)
    (ha : alc h b ar ⟨.live, x.cells.length, 0, [x]⟩ = some (id, h1)) (hlf : ∀ y ∈ x.cells, y.leaf = true) (hl : x.cells.length ≤ row.size) (hfr : FrOK row.size fr)
    (hrep : ∀ k (hk : k < x.cells.length) (hk2 : k < row.size), Rep w h loc (XH X0 h loc) x.cells[k] row[k]) : OpOK r w0 X0 w h loc (.ptr id 0 0 0) h1 := by
  obtain ⟨K, W1, hat, hloc⟩ := W.newBlk hp ha (fun y hy => by simp at hy; rw [hy]) (by rw [flat_one]; exact hlf) (by rw [flat_one]; exact hl) hfr (fun k hk hk2 => by
    have := hrep k (by rw [flat_one] at hk; exact hk) hk2
    simpa [flat_one] using this)
  exact ⟨_, _, w1, _, hr, .inl rfl, K, W1, .ptr _ _ _ _ _ ⟨_, hat, by simp, Nat.le_refl _⟩ (fun _ => by simp)⟩

theorem OpOK.newOwn {r : Result Next} {w1 : World} {row : Array Value} {e : TypeId} {fr : Nat × Nat} {es : List AV} {ar id s ver cap : Nat} {h1 : AHeap} (W : Wrel w0 X0 w h loc) (hp : Pushed w w1 row e fr) (hr : r = .ok (.value (.slice (some ⟨w.heap.size, 0, none⟩) es.length cap)) w1)
    (ha : alc h b ar ⟨.live, s, ver, es⟩ = some (id, h1)) (hcap : es.length ≤ cap) (hrow : cap * s ≤ row.size) (hs : ∀ x ∈ es, x.cells.length = s) (hlf : ∀ y ∈ flat es, y.leaf = true) (hl : (flat es).length ≤ row.size) (hfr : FrOK row.size fr)
    (hrep : ∀ k (hk : k < (flat es).length) (hk2 : k < row.size), Rep w h loc (XH X0 h loc) (flat es)[k] row[k]) : OpOK r w0 X0 w h loc (.own id ver 0 es.length) h1 := by
  obtain ⟨K, W1, hat, hloc⟩ := W.newBlk hp ha hs hlf hl hfr hrep
  refine ⟨_, _, w1, _, hr, .inl rfl, K, W1, .own _ _ _ _ _ _ ⟨_, hat, by simp, Nat.le_refl _⟩ hcap (fun _ => ⟨by simp, by simp [lenAt, hat], e, row.size, ?_, ?_⟩)⟩
  · simp [World.shape?, hp.new]
  · simp [sizeAt, hat]; exact hrow

theorem nofr (n : Nat) : FrOK n (0, 0) := .inl rfl

theorem ok_bx {x : PX} {x' : Operand} {ty : Nat} {v : AV} {h1 : AHeap} (W : Wrel w0 X0 w h loc) (S : Slots w h loc (XH X0 h loc) t a.tmps) (ho : o.op = .box ty x') (hx : chkX x' x = true)
    (hv : opH t h b (.bx x) = some (v, h1)) : OpOK ((execOp a.eval o).run P w) w0 X0 w h loc v h1 := by
  have hc := S.x hx
  simp only [opH] at hv
  split at hv <;> simp at hv
  rename_i hs
  simp only [Bool.and_eq_true] at hs
  obtain ⟨rfl, rfl⟩ := hv
  obtain ⟨hl, hlf, hr⟩ := hc.cells hs.1
  exact .fp W (Pushed.alloc w (a.eval x').cells ty (0, 0)) (by simp [execOp, ho, Instr.box, newVar, newRow]) hlf (pure_cells hs.2) (by omega) hr

theorem ok_bxm {x : PX} {x' : Operand} {r ty : Nat} {v : AV} {h1 : AHeap} (W : Wrel w0 X0 w h loc) (S : Slots w h loc (XH X0 h loc) t a.tmps) (ho : o.op = .box ty x') (hx : chkX x' x = true)
    (hv : opH t h b (.bxm r x) = some (v, h1)) : OpOK ((execOp a.eval o).run P w) w0 X0 w h loc v h1 := by
  have hc := S.x hx
  simp only [opH] at hv
  split at hv <;> simp at hv
  rename_i hs
  obtain ⟨id, ha, rfl⟩ := hv
  obtain ⟨hl, hlf, hr⟩ := hc.cells hs
  exact .newPtr W (Pushed.alloc w (a.eval x').cells ty (0, 0)) (by simp [execOp, ho, Instr.box, newVar, newRow]) ha hlf (by omega) (nofr _) hr

theorem ok_al {z : AV} {zv : Value} {r ty : Nat} {i : TypeInfo} {v : AV} {h1 : AHeap} (W : Wrel w0 X0 w h loc) (S : Slots w h loc (XH X0 h loc) t a.tmps) (ho : o.op = .alloc ty)
    (hi : P.info? ty = some i) (hz : i.zero = some zv) (hzv : isV z zv = true) (hs : z.solid = true)
    (hv : opH t h b (.al r z) = some (v, h1)) : OpOK ((execOp a.eval o).run P w) w0 X0 w h loc v h1 := by
  have hc : Rep w h loc (XH X0 h loc) z zv := isV_rep _ _ hzv
  simp only [opH, Option.map_eq_some_iff, Prod.mk.injEq] at hv
  obtain ⟨⟨id, h2⟩, ha, rfl, rfl⟩ := hv
  obtain ⟨hl, hlf, hr⟩ := hc.cells hs
  exact .newPtr W (Pushed.alloc w zv.cells ty (0, 0)) (by simp [execOp, ho, Instr.alloc, zeroValue, typeInfo, hi, hz, newVar, newRow]) ha hlf (by omega) (nofr _) hr

/-- Lists of values, cell by cell. -/
def RepL (w : World) (h : AHeap) (loc : Nat → Nat) (X : Nat → Prop) (l : List AV) (c : List Value) : Prop := l.length = c.length ∧ ∀ i (h1 : i < l.length) (h2 : i < c.length), Rep w h loc X l[i] c[i]

theorem RepL.append {X} {l l2 : List AV} {c c2 : List Value} (a : RepL w h loc X l c) (b : RepL w h loc X l2 c2) : RepL w h loc X (l ++ l2) (c ++ c2) := by
  refine ⟨by simp [a.1, b.1], fun i h1 h2 => ?_⟩
  by_cases hi : i < l.length
  · rw [List.getElem_append_left hi, List.getElem_append_left (by have := a.1; omega)]
    exact a.2 i hi _
  · have ha := a.1
    have hb := b.1
    simp at h1 h2
    rw [List.getElem_append_right (by omega), List.getElem_append_right (by omega)]
    have h3 := b.2 (i - l.length) (by omega) (by omega)
    simpa [ha] using h3
theorem RepL.take {X} {l : List AV} {c : List Value} (a : RepL w h loc X l c) (n : Nat) : RepL w h loc X (l.take n) (c.take n) :=
  ⟨by simp [a.1], fun i h1 h2 => by simp at h1 h2; simpa using a.2 i (by omega) (by omega)⟩
theorem RepL.drop {X} {l : List AV} {c : List Value} (a : RepL w h loc X l c) (n : Nat) : RepL w h loc X (l.drop n) (c.drop n) :=
  ⟨by simp [a.1], fun i h1 h2 => by simp at h1 h2; simpa using a.2 (n + i) (by omega) (by omega)⟩
theorem RepL.cells {X} {x : AV} {v : Value} (hr : Rep w h loc X x v) (hs : x.solid = true) : RepL w h loc X x.cells v.cells.toList := by
  obtain ⟨h1, _, h3⟩ := hr.cells hs
  exact ⟨by simpa using h1.symm, fun i a b => by have := h3 i a (by simpa using b); simpa [Array.getElem_toList] using this⟩

/-- A value laid over a stretch of cells. -/
theorem splice_fold : ∀ (vs : List Value) (off i : Nat) (cs : Array Value), off + i + vs.length ≤ cs.size →
    (((vs.zipIdx i).foldl (fun cs (c, j) => cs.setIfInBounds (off + j) c) cs).toList = cs.toList.take (off + i) ++ vs ++ cs.toList.drop (off + i + vs.length))
  | [], off, i, cs, _ => by simp
  | v :: vs, off, i, cs, hl => by
    simp only [List.zipIdx_cons, List.foldl_cons]
    rw [splice_fold vs off (i + 1) _ (by simp at hl ⊢; omega)]
    have hi : off + i < cs.toList.length := by simp at hl ⊢; omega
    simp only [Array.toList_setIfInBounds]
    rw [← Nat.add_assoc off i 1, List.take_succ_eq_append_getElem (by simpa using hi), List.getElem_set_self]
    rw [List.take_set_of_le (by omega), List.drop_set_of_lt (by omega)]
    simp only [List.length_cons, List.append_assoc, List.cons_append, List.nil_append]
    rw [show off + i + 1 + vs.length = off + i + (vs.length + 1) from by omega]

theorem fill_ok {X} {place : Nat → Option (Nat × Nat)} : ∀ (ps : List (Nat × Nat × AV)) (vs : List (Nat × Value)) (z l : List AV) (zc : Array Value), fill z ps = some l → RepL w h loc X z zc.toList →
    ps.length = vs.length → (∀ k (h1 : k < ps.length) (h2 : k < vs.length), place vs[k].1 = some (ps[k].1, ps[k].2.1) ∧ Rep w h loc X ps[k].2.2 vs[k].2) →
    ∃ c, Instr.fill place zc vs = some c ∧ RepL w h loc X l c.toList
  | [], vs, z, l, zc, hf, hr, hl, _ => by
    cases vs with
    | nil => simp [fill] at hf; subst hf; exact ⟨zc, rfl, hr⟩
    | cons v vs => simp at hl
  | (off, size, x) :: ps, vs, z, l, zc, hf, hr, hl, hp => by
    cases vs with
    | nil => simp at hl
    | cons v vs =>
      obtain ⟨i, u⟩ := v
      simp only [fill] at hf
      split at hf
      case isFalse => cases hf
      rename_i hc
      obtain ⟨hc1, hc2, hc3⟩ := hc
      obtain ⟨hpl, hrx⟩ := hp 0 (by simp) (by simp)
      simp only [List.getElem_cons_zero] at hpl hrx
      obtain ⟨e1, e2, e3⟩ := hrx.cells hc3
      have hcl := RepL.cells hrx hc3
      have hzl : z.length = zc.size := by simpa using hr.1
      have hspl := splice_fold u.cells.toList off 0 zc (by simp; omega)
      simp only [Nat.add_zero] at hspl
      have hnew : RepL w h loc X (z.take off ++ x.cells ++ z.drop (off + size)) ((u.cells.toList.zipIdx 0).foldl (fun cs (c, j) => cs.setIfInBounds (off + j) c) zc).toList := by
        rw [hspl]
        have : u.cells.toList.length = size := by simp; omega
        rw [this]
        exact ((hr.take off).append hcl).append (hr.drop (off + size))
      obtain ⟨c, h1, h2⟩ := fill_ok ps vs _ l _ hf hnew (by simpa using hl) (fun k a b => hp (k + 1) (by simpa using a) (by simpa using b))
      refine ⟨c, ?_, h2⟩
      have g1 : ¬ (u.cells.size ≠ size) := by omega
      have g2 : ¬ (off + u.cells.size > zc.size) := by omega
      simp only [Instr.fill, hpl]
      simp only [g1, g2, decide_false, Bool.or_self, Bool.false_eq_true, if_false]
      rw [← h1]
      congr 1
      rw [← Array.foldl_toList, Array.toList_zipIdx]

/-- The parts of a struct. -/
def chkPs (pl : Nat → Option (Nat × Nat)) : List (Nat × Operand) → List (Nat × Nat × PX) → Bool
  | [], [] => true
  | (i, x) :: l, (off, size, y) :: m => decide (pl i = some (off, size)) && chkX x y && chkPs pl l m
  | _, _ => false

theorem chkPs_ok {X} {pl : Nat → Option (Nat × Nat)} (S : Slots w h loc X t a.tmps) : ∀ {l : List (Nat × Operand)} {m : List (Nat × Nat × PX)}, chkPs pl l m = true →
    (m.map fun p => (p.1, p.2.1, xv t p.2.2)).length = (l.map fun p => (p.1, a.eval p.2)).length ∧
    ∀ k (h1 : k < (m.map fun p => (p.1, p.2.1, xv t p.2.2)).length) (h2 : k < (l.map fun p => (p.1, a.eval p.2)).length),
      pl (l.map fun p => (p.1, a.eval p.2))[k].1 = some ((m.map fun p => (p.1, p.2.1, xv t p.2.2))[k].1, (m.map fun p => (p.1, p.2.1, xv t p.2.2))[k].2.1) ∧
      Rep w h loc X (m.map fun p => (p.1, p.2.1, xv t p.2.2))[k].2.2 (l.map fun p => (p.1, a.eval p.2))[k].2
  | [], [], _ => ⟨rfl, fun k h1 => by simp at h1⟩
  | (i, x) :: l, (off, size, y) :: m, hc => by
    simp only [chkPs, Bool.and_eq_true, decide_eq_true_eq] at hc
    obtain ⟨⟨hc1, hc2⟩, hc3⟩ := hc
    obtain ⟨h1, h2⟩ := chkPs_ok S hc3
    refine ⟨by simpa using h1, fun k a b => ?_⟩
    cases k with
    | zero => exact ⟨hc1, S.x hc2⟩
    | succ k => exact h2 k (by simpa using a) (by simpa using b)
  | [], _ :: _, hc => by simp [chkPs] at hc
  | _ :: _, [], hc => by simp [chkPs] at hc

theorem ok_bld {ty : Nat} {z : List AV} {zv : Value} {ps : List (Nat × Nat × PX)} {ps' : Array (Nat × Operand)} {i : TypeInfo} {pl : Nat → Option (Nat × Nat)} {v : AV} {h1 : AHeap} (W : Wrel w0 X0 w h loc) (S : Slots w h loc (XH X0 h loc) t a.tmps) (ho : o.op = .build ty ps')
    (hi : P.info? ty = some i) (hz : i.zero = some zv) (hzv : isVs z zv.cells.toList = true) (hbuilt : ∀ parts, P.built ty parts = Instr.fill pl zv.cells parts) (hps : chkPs pl ps'.toList ps = true)
    (hv : opH t h b (.bld z ps) = some (v, h1)) : OpOK ((execOp a.eval o).run P w) w0 X0 w h loc v h1 := by
  simp only [opH, Option.map_eq_some_iff, Prod.mk.injEq] at hv
  obtain ⟨l, hl, rfl, rfl⟩ := hv
  obtain ⟨e1, e2⟩ := chkPs_ok S hps
  have hz0 : RepL w h loc (XH X0 h loc) z zv.cells.toList := isVs_rep _ _ hzv
  obtain ⟨c, hc, hr⟩ := fill_ok _ _ z l zv.cells hl hz0 e1 e2
  have hb : P.built ty (ps'.map fun (i, x) => (i, a.eval x)).toList = some c := by
    rw [hbuilt, ← hc]; simp
  refine .stay W (x := .agg c) ?_ (.agg _ _ (by simpa using hr.1.symm) (fun i h1 h2 => by have := hr.2 i h1 (by simpa using h2); simpa [Array.getElem_toList] using this))
  have := run_build (P := P) w ty _ c hb
  simp [execOp, ho, this]
end
end Go.Proofs.Abs
