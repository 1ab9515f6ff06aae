/- For every two reports the law's code answers true and leaves what came in: the contract of the law, for every argument. No condition. -/
import Derived.Test.YtjhcempjiokfdaaGreatDoorSym
import Derived.Test.YtjhcempjiokfdaaGreatDoorTab4
import Derived.Test.YtjhcempjiokfdaaGreatDoorAbs5
import Derived.Test.YtjhcempjiokfdaaGreatDoorCards
import Derived.Test.YtjhcempjiokfdaaGreatDoorTie
import Derived.WalkKit
import Derived.ProofKit
import Derived.OpenShut
import Derived.Deep.DeepHandedRow
import Derived.Below
import Derived.ChangeSame
import Derived.ChangeStays
import Derived.ChangeBook
set_option linter.unusedSimpArgs false
set_option linter.unusedVariables false

-- ---- Main1
namespace Go.Proofs.YtjhcempjiokfdaaGreatDoor
open Go.ChangeShapes Go.WideShapes Go.ChangeAt Go.RowKit Go.Proofs.Abs
set_option maxRecDepth 100000
set_option linter.unusedVariables false
set_option linter.unusedSimpArgs false

section
variable {H : Type} {enc : TypeId × Value → H} {P : Program}
theorem post_of_below {f : Func} {s : ChangeSpec} {apart fresh handsOn again : Bool} {W W' : World} {args : Array Value} {v : Value} {ds gs : List (DataW H)} {before pa pv : List MemPlace}
    (hW : DataW.Whole enc P f.params.toList s.vars apart W args.toList ds gs before)
    (hres : ∀ (b : Nat) (sp : Nat → Bool) (hd : Bool), DataW.TrodAll enc P W' b sp hd f.resultTypes.toList (v.resultList f.resultTypes.size) (s.fn H (ds ++ gs)).results [])
    (hargs : ∀ sp : Nat → Bool, (∀ p ∈ before, sp p.block = true) → DataW.TrodAll enc P W' 0 sp true f.params.toList args.toList (s.fn H (ds ++ gs)).args pa)
    (hvars : ∀ sp : Nat → Bool, (∀ p ∈ before, sp p.block = true) → DataW.TrodVars enc P W' sp s.vars (s.fn H (ds ++ gs)).vars pv)
    (hps : before = pa ++ pv) (hb : Below W.heap.size W W')
    (hok : ∀ (j : Nat) (t : TypeId) (r : Value), f.resultTypes[j]? = some t → (v.resultList f.resultTypes.size)[j]? = some r → Value.okWide P W' .any 0 t r) :
    s.post enc P f apart fresh handsOn again W args v W' := by
  have hlt : ∀ p ∈ before, p.block < W.heap.size := fun p hp => hW.lt p hp
  have hold : ∀ p ∈ before, (fun b => decide (b < W.heap.size)) p.block = true := fun p hp => by simpa using hlt p hp
  refine ⟨ds, gs, before, [], pa, pv, hW, hres _ _ _, hargs _ hold, hvars _ hold, World.keptBut_mono (fun p hp => ⟨hp, ?_⟩) (hb.frame (· ∈ before)), fun _ => ?_⟩
  · rw [hps, List.mem_append] at hp
    exact Or.inr hp
  · obtain ⟨_, _, _, _, _, hz, hn⟩ := hW
    refine ⟨hok, _, _, ([] ++ pa) ++ pv, ⟨[] ++ pa, pv, trodAll_append (hargs _ (fun _ _ => rfl)) (hres _ _ _), hvars _ (fun _ _ => rfl), rfl, ?_, ?_⟩, ?_⟩
    · intro b off hp
      have hin : MemPlace.cell b off ∈ before := by rw [hps]; simpa using hp
      rw [hb.frozen (hlt _ hin)]
      exact hz b off hin
    · intro ha
      have := hn ha
      rw [hps] at this
      simpa using this
    · intro p hp _
      rw [hps]
      simpa using hp
end

abbrev stpT : Ty := .row [.int .i64, .int .i64, .int .i64, .int .i64, .lst .byte, .lst .bool]
abbrev rptT : Ty := .row [.int .i64, .int .i64, .int .i64, .int .i64, .int .i64, .int .i64, .lst stpT]

/-- A step, a report, as they are read. -/
def toStp (v : Val stpT) : Stp := ⟨v.1, v.2.1, v.2.2.1, v.2.2.2.1, v.2.2.2.2.1, v.2.2.2.2.2.1⟩
def toRpt (v : Val rptT) : Rpt := ⟨v.1, v.2.1, v.2.2.1, v.2.2.2.1, v.2.2.2.2.1, v.2.2.2.2.2.1, List.map (α := Val stpT) toStp v.2.2.2.2.2.2.1⟩
theorem stp_av (v : Val stpT) : (toStp v).av = toAV stpT v := by
  obtain ⟨a, b, c, d, e, f, g⟩ := v
  rfl
theorem rpt_av (v : Val rptT) : (toRpt v).av = toAV rptT v := by
  obtain ⟨a, b, c, d, e, f, g, x⟩ := v
  have h : List.map Stp.av (List.map (α := Val stpT) toStp g) = List.map (α := Val stpT) (toAV stpT) g :=
     (List.map_map (l := (g : List (Val stpT)))).trans (List.map_congr_left (fun v _ => stp_av v))
  show AV.agg [_, _, _, _, _, _, .lst false (List.map Stp.av (List.map (α := Val stpT) toStp g))] = AV.agg [_, _, _, _, _, _, .lst false (List.map (α := Val stpT) (toAV stpT) g)]
  rw [h]
  rfl

theorem own : ownKnob Tryz.prog.godebug = none := by kernel_rfl
theorem laidOut : laidOutB Tryz.prog = true := by kernel_rfl
theorem rec25 : Tryz.prog.readableRec 25 = true := by kernel_rfl
theorem lt25 : 25 < Tryz.prog.types.size := of_decide_eq_true (by kernel_rfl)
theorem ty25 : tyOf Tryz.prog 10 25 = some rptT := by kernel_rfl
theorem st25 : (match Tryz.prog.underlying 25 with | some (.struct _) => true | _ => false) = true := by kernel_rfl
theorem res3 : Tryz.f3.resultTypes.toList = [4] := by kernel_rfl

/-- A report that comes in. -/
theorem open_rpt {H : Type} {enc : TypeId × Value → H} {W : World} {base : Nat} {b : Nat} {sp : Nat → Bool} {hd : Bool} {loc : Nat → Nat} {v : Value} {d : DataW H} {ps : List MemPlace}
    (hv : Value.okWide Tryz.prog W .any base 25 v) (h : DataW.Trod enc Tryz.prog W b sp hd 25 v d ps) : ∃ x : Rpt, Rep W [] loc (fun _ => False) x.av v := by
  obtain ⟨n, h⟩ := h
  have hs := st25
  unfold Value.okWide at hv
  split at hs
  · rename_i fs hu
    rw [hu] at hv
    obtain ⟨cs, rfl, _, _⟩ := hv
    obtain ⟨x, _, h2⟩ := data_read (loc := loc) (kids_book laidOut rec25) (book_sized rec25) 10 25 rptT ty25 ⟨lt25, book_self 25⟩ n _ _ h
    refine ⟨toRpt x, ?_⟩
    rw [rpt_av]
    exact .agg _ _ h2.1.symm (fun i h1 h3 => h2.2 i h1 h3)
  · cases hs

/-- What has come in stays as it is. -/
theorem kept {H : Type} {enc : TypeId × Value → H} {W W' : World} {v : Value} {d : DataW H} {ps : List MemPlace} (hb : Below W.heap.size W W') {sp : Nat → Bool}
    (h : DataW.Trod enc Tryz.prog W 0 (fun _ => true) true 25 v d ps) (hlt : ∀ p ∈ ps, p.block < W.heap.size) (hsp : ∀ p ∈ ps, sp p.block = true) : DataW.Trod enc Tryz.prog W' 0 sp true 25 v d ps := by
  obtain ⟨n, h⟩ := h
  exact ⟨n, DataW.trod_stays (kids_book laidOut rec25) (book_sized rec25) (fun h => by cases h) ⟨lt25, book_self 25⟩ h (fun p hp => hb.same (hlt p hp)) hsp⟩

def tab1 : List Ent := [e112]
theorem tab1_ok : ∀ e ∈ tab1, e.Sound Tryz.prog := fcons s112 fnil
theorem off1 {f : Nat} (hf : Nat.beq 4 f = false) : Off tab1 f := fun args h => by
  show cond (Nat.beq 4 f && _) _ none = none
  rw [hf]
  rfl
theorem works : Abs.Call (Sm tab1) 4 [] [] = some (.bool true, e112.h) := Call_ext rfl

/-- What the machine does with two reports. -/
theorem machine (x y : Rpt) : ∃ h', ∀ (w : World) (loc : Nat → Nat) (vs : List Value), RepL w [] loc (fun _ => False) [x.av, y.av] vs → Calls Tryz.prog 3 vs.toArray w (CallsOK Tryz.prog w (fun _ => False) w [] loc (.bool true) h') := by
  obtain ⟨h', hr⟩ := eq3 (T := tab1) (off1 rfl) (off1 rfl) (off1 rfl) (off1 rfl) (off1 rfl) (off1 rfl) (off1 rfl) (off1 rfl) works x y
  exact ⟨h', fun w loc vs hv => Call_calls (sysOf_ext ext_ok tab1_ok).ok (Tr.get_ok tr_ok) (p := p3) rfl (off_ext (off1 rfl) rfl) hr hv⟩

/-- WHAT THE WALK GIVES, FOR EVERY ARGUMENT. -/
theorem contract (H : Type) (enc : TypeId × Value → H) (W : World) (base : Nat) (args : Array Value) (ds gs : List (DataW H)) (before : List MemPlace)
    (hval : ∀ (j : Nat) t v, Tryz.f3.params[j]? = some t → args[j]? = some v → Value.okWide Tryz.prog W .any base t v)
    (hW : DataW.Whole enc Tryz.prog Tryz.f3.params.toList Rows.verdictSamesSpec.vars false W args.toList ds gs before) :
    Calls Tryz.prog 3 args W fun e W' => ∃ v, e = .returned v ∧ Rows.verdictSamesSpec.post enc Tryz.prog Tryz.f3 false true false false W args v W' := by
  have hW' := hW
  obtain ⟨p, q, hA0, hV, rfl, hfz, hnd⟩ := hW
  have hA : DataW.TrodAll enc Tryz.prog W 0 (fun _ => true) true Tryz.f3.params.toList args.toList ds p := hA0
  rw [Tryz.params3] at hA hval
  obtain ⟨v0, vs0, d0, ds0, p0, q0, hargs, rfl, rfl, h0, r0⟩ := trodAll_cons hA
  obtain ⟨v1, vs1, d1, ds1, p1, q1, rfl, rfl, rfl, h1, r1⟩ := trodAll_cons r0
  obtain ⟨rfl, rfl, rfl⟩ := trodAll_nil r1
  obtain rfl : args = #[v0, v1] := by cases args; simp_all
  obtain ⟨rfl, rfl⟩ := trodVars_none hV
  obtain ⟨x, hx⟩ := open_rpt (loc := fun _ => 0) (hval 0 25 v0 rfl rfl) h0
  obtain ⟨y, hy⟩ := open_rpt (loc := fun _ => 0) (hval 1 25 v1 rfl rfl) h1
  clear hA0
  simp only [List.append_nil] at hW'
  obtain ⟨h', hm⟩ := machine x y
  refine (hm W (fun _ => 0) [v0, v1] ⟨rfl, fun i h1 h2 => ?_⟩).mono fun e W' he => ?_
  · rcases i with _ | _ | i
    · exact hx
    · exact hy
    · exact absurd h1 (by simp)
  · cases e with
    | returned v =>
      obtain ⟨loc', _, hw, hr⟩ := he
      cases hr
      have hb : Below W.heap.size W W' := hw.below
      have hlt : ∀ p ∈ p0 ++ p1, p.block < W.heap.size := fun p hp => hW'.lt p hp
      exact ⟨_, rfl, post_of_below (pa := p0 ++ p1) (pv := []) hW' (fun _ _ _ => trodAll_cons_mk (shut_bool Tryz.underlying4 _) trodAll_mk0)
        (fun sp hsp => trodAll_cons_mk (kept hb h0 (fun p hp => hlt p (List.mem_append_left _ hp)) (fun p hp => hsp p (List.mem_append_left _ hp)))
          (trodAll_mk1 (kept hb h1 (fun p hp => hlt p (List.mem_append_right _ hp)) (fun p hp => hsp p (List.mem_append_right _ hp)))))
        (fun _ _ => rfl) (by simp) hb (ok_one (by kernel_rfl) rfl (okWide_bool_mk Tryz.underlying4 _))⟩
    | _ => exact he.elim

end Go.Proofs.YtjhcempjiokfdaaGreatDoor
