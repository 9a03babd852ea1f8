/-
  Of nothing the ledger tells nothing: the law of layer 28 answers true at every identifier, and the identifier reads as it did; with what the program lays at start tied to its text.
-/
import Derived.Test.YtpbpeieakbjolaaGreatDoorCards
import Derived.Test.YtpbpeieakbjolaaGreatDoorTie
import Derived.Test.YtpbpeieakbjolaaGreatDoorLaw
import Derived.WalkKit
import Derived.ProofKit
import Derived.OpenShut
import Derived.Deep.DeepHandedRow
import Derived.Carry
import Derived.Lib.LaidTab
set_option linter.unusedVariables false
set_option maxRecDepth 100000
namespace Go.Proofs.YtpbpeieakbjolaaGreatDoor.LedCard
open Go.ChangeShapes Go.WideShapes Go.ChangeAt Go.RowKit

theorem own : ownKnob Tryz.prog.godebug = none := by kernel_rfl
theorem laidOut : laidOutB Tryz.prog = true := by kernel_rfl

theorem toArr10 {xs : Array Value} (h : xs.size = 10) : ∃ c0 c1 c2 c3 c4 c5 c6 c7 c8 c9, xs = #[c0, c1, c2, c3, c4, c5, c6, c7, c8, c9] := by
  obtain ⟨l⟩ := xs
  match l, h with
  | [c0, c1, c2, c3, c4, c5, c6, c7, c8, c9], _ => exact ⟨c0, c1, c2, c3, c4, c5, c6, c7, c8, c9, rfl⟩

theorem open27 {H : Type} {enc : TypeId × Value → H} {w : World} {base : Nat} {sp : Nat → Bool} {held : Bool} {n : Nat} {c0 c1 : Value} {x : DataW H × List MemPlace}
    (h : DataW.trod enc Tryz.prog w base sp held n 27 [c0, c1] = some x) : ∃ a b, c0 = .int .u8 a ∧ c1 = .int .u8 b := by
  have hc5 : Tryz.prog.cellsOf 5 = 1 := by kernel_rfl
  obtain ⟨ys, m, _, _, _, hl, hf⟩ := DataW.trod_struct Tryz.underlying27 h
  have h0 := hf 0 _ rfl
  have h1 := hf 1 _ rfl
  match ys, hl with
  | [y0, y1], _ =>
    simp [hc5] at h0 h1
    obtain ⟨a, e0, _, _⟩ := DataW.trod_int Tryz.underlying5 h0
    obtain ⟨b, e1, _, _⟩ := DataW.trod_int Tryz.underlying5 h1
    exact ⟨a, b, by simpa using e0, by simpa using e1⟩

theorem open24 {H : Type} {enc : TypeId × Value → H} {w : World} {base : Nat} {sp : Nat → Bool} {held : Bool} {n : Nat} {c0 c1 : Value} {x : DataW H × List MemPlace}
    (h : DataW.trod enc Tryz.prog w base sp held n 24 [c0, c1] = some x) : ∃ a b, c0 = .int .u8 a ∧ c1 = .int .u16 b := by
  have hc5 : Tryz.prog.cellsOf 5 = 1 := by kernel_rfl
  have hc6 : Tryz.prog.cellsOf 22 = 1 := by kernel_rfl
  obtain ⟨ys, m, _, _, _, hl, hf⟩ := DataW.trod_struct Tryz.underlying24 h
  have h0 := hf 0 _ rfl
  have h1 := hf 1 _ rfl
  match ys, hl with
  | [y0, y1], _ =>
    simp [hc5, hc6] at h0 h1
    obtain ⟨a, e0, _, _⟩ := DataW.trod_int Tryz.underlying5 h0
    obtain ⟨b, e1, _, _⟩ := DataW.trod_int Tryz.underlying22 h1
    exact ⟨a, b, by simpa using e0, by simpa using e1⟩

theorem open28 {H : Type} {enc : TypeId × Value → H} {w : World} {base : Nat} {sp : Nat → Bool} {held : Bool} {n : Nat} {c0 c1 c2 c3 c4 c5 : Value} {x : DataW H × List MemPlace}
    (h : DataW.trod enc Tryz.prog w base sp held n 28 [c0, c1, c2, c3, c4, c5] = some x) :
    ∃ p0 p1 p2 p3 p4 p5, c0 = .int .u8 p0 ∧ c1 = .int .u8 p1 ∧ c2 = .int .u8 p2 ∧ c3 = .int .u8 p3 ∧ c4 = .int .u8 p4 ∧ c5 = .int .u8 p5 := by
  have hc27 : Tryz.prog.cellsOf 27 = 2 := by kernel_rfl
  obtain ⟨ys, m, _, _, _, hl, hf⟩ := DataW.trod_array Tryz.underlying28 h
  have h0 := hf 0 (by omega)
  have h1 := hf 1 (by omega)
  have h2 := hf 2 (by omega)
  match ys, hl with
  | [y0, y1, y2], _ =>
    simp [hc27] at h0 h1 h2
    obtain ⟨p0, p1, rfl, rfl⟩ := open27 h0
    obtain ⟨p2, p3, rfl, rfl⟩ := open27 h1
    obtain ⟨p4, p5, rfl, rfl⟩ := open27 h2
    exact ⟨p0, p1, p2, p3, p4, p5, rfl, rfl, rfl, rfl, rfl, rfl⟩

theorem open30 {H : Type} {enc : TypeId × Value → H} {w : World} {base : Nat} {sp : Nat → Bool} {held : Bool} {r : Reach} {b0 : Nat} {v : Value} {d : DataW H} {ps : List MemPlace}
    (hval : Value.okWide Tryz.prog w r b0 30 v) (hd : DataW.Trod enc Tryz.prog w base sp held 30 v d ps) :
    ∃ a b s d p0 p1 p2 p3 p4 p5, v = .agg #[.int .u8 a, .int .u16 b, .int .u32 s, .int .u8 d, .int .u8 p0, .int .u8 p1, .int .u8 p2, .int .u8 p3, .int .u8 p4, .int .u8 p5] := by
  have hc30 : Tryz.prog.cellsOf 30 = 10 := by kernel_rfl
  have hc28 : Tryz.prog.cellsOf 28 = 6 := by kernel_rfl
  have hc24 : Tryz.prog.cellsOf 24 = 2 := by kernel_rfl
  have hc25 : Tryz.prog.cellsOf 25 = 1 := by kernel_rfl
  have hc5 : Tryz.prog.cellsOf 5 = 1 := by kernel_rfl
  obtain ⟨cs, rfl, hsz⟩ := okWide_struct Tryz.underlying30 hval
  obtain ⟨c0, c1, c2, c3, c4, c5, c6, c7, c8, c9, rfl⟩ := toArr10 (hsz.trans hc30)
  obtain ⟨fuel, hf⟩ := hd
  obtain ⟨ys, m, _, _, _, hl, hf⟩ := DataW.trod_struct Tryz.underlying30 hf
  have h0 := hf 0 _ rfl
  have h1 := hf 1 _ rfl
  have h2 := hf 2 _ rfl
  have h3 := hf 3 _ rfl
  match ys, hl with
  | [y0, y1, y2, y3], _ =>
    simp [hc28, hc24, hc25, hc5, Value.cells] at h0 h1 h2 h3
    obtain ⟨a, b, rfl, rfl⟩ := open24 h0
    obtain ⟨s, e1, _, _⟩ := DataW.trod_int Tryz.underlying25 h1
    obtain ⟨d, e2, _, _⟩ := DataW.trod_int Tryz.underlying5 h2
    obtain ⟨p0, p1, p2, p3, p4, p5, rfl, rfl, rfl, rfl, rfl, rfl⟩ := open28 h3
    simp at e1 e2
    subst e1 e2
    exact ⟨a, b, s, d, p0, p1, p2, p3, p4, p5, rfl⟩

/-- What the walk gives, for every argument and every world. -/
theorem contract (H : Type) (enc : TypeId × Value → H) (W : World) (base : Nat) (args : Array Value) (ds gs : List (DataW H)) (before : List MemPlace)
    (hval : ∀ (j : Nat) t v, Tryz.f3.params[j]? = some t → args[j]? = some v → Value.okWide Tryz.prog W .any base t v)
    (hW : DataW.Whole enc Tryz.prog Tryz.f3.params.toList Rows.ledgerNilSpec.vars false W args.toList ds gs before) :
    Calls Tryz.prog 3 args W fun e W' => ∃ v, e = .returned v ∧ Rows.ledgerNilSpec.post enc Tryz.prog Tryz.f3 false true false false W args v W' := by
  have hW' := hW
  obtain ⟨p, q, hA0, hV, rfl, _, _⟩ := hW
  have hA : DataW.TrodAll enc Tryz.prog W 0 (fun _ => true) true Tryz.f3.params.toList args.toList ds p := hA0
  rw [Tryz.params3] at hA hval
  obtain ⟨v0, d0, rfl, rfl, h0⟩ := trodAll_one hA
  obtain ⟨rfl, rfl⟩ := trodVars_none hV
  have h0k := h0
  obtain ⟨a, b, s, d, p0, p1, p2, p3, p4, p5, rfl⟩ := open30 (hval 0 30 v0 rfl rfl) h0
  clear hA0
  simp only [List.append_nil] at hW'
  have hlt : ∀ x ∈ p, x.block < W.heap.size := fun x hx => by simpa using hW'.lt x hx
  refine (LedLaw.law_true a b s d p0 p1 p2 p3 p4 p5 W).mono ?_
  rintro e W' ⟨rfl, hb⟩
  refine ⟨_, rfl, _, _, _, [], p, [], hW', ?_, ?_, rfl, hb.frame _, fun h => by cases h⟩
  · exact trodAll_mk1 (shut_bool Tryz.underlying4 _)
  · exact trodAll_mk1 (Below.trod laidOut (by kernel_rfl) (of_decide_eq_true (by kernel_rfl)) h0k hb hlt)

/-- A world for the witness: the settled one, the three tables holding what their initialisers lay. -/
def row (d : DataW Unit) : Array Value :=
  match d with
  | .agg l => (l.map fun x => match x with | .lit (.int k n) => Value.int k n | _ => Value.nilIface).toArray
  | _ => #[]
noncomputable def lay (h : Array Obj) (b : Nat) (d : DataW Unit) : Array Obj :=
  h.modify b fun o => match o with
    | .cells _ t frozen => .cells (row d) t frozen
    | o => o
noncomputable def laidWorld (os : Os) : World :=
  { World.holding Tryz.prog os ⟨#[], #[], []⟩ with heap := lay (lay (lay (World.holding Tryz.prog os ⟨#[], #[], []⟩).heap 2 Rows.laid_math_bits_deBruijn32tab) 3 Rows.laid_math_bits_deBruijn64tab) 0 Rows.laid_internal_strconv_uint64pow10 }
noncomputable def wit : Value := .agg #[.int .u8 0, .int .u16 0, .int .u32 0, .int .u8 0, .int .u8 0, .int .u8 0, .int .u8 0, .int .u8 0, .int .u8 0, .int .u8 0]
theorem laid_met (os : Os) : laidMet Tryz.prog Rows.ledgerNilRow.laid ((laidWorld os).forCall (fun _ _ => 0) ⟨#[], #[wit], []⟩).memory :=
  laidMet_of_run' 8 (by kernel_rfl) (by kernel_rfl)
theorem reads (os : Os) {H : Type} (enc : TypeId × Value → H) : ∃ places, DataW.whole enc Tryz.prog ((laidWorld os).forCall (fun _ _ => 0) ⟨#[], #[wit], []⟩).memory Tryz.f3.params.toList Rows.ledgerNilSpec.vars false #[wit].toList 8 = some ([.agg [.agg [.lit (.int .u8 0), .lit (.int .u16 0)], .lit (.int .u32 0), .lit (.int .u8 0), .agg [.agg [.lit (.int .u8 0), .lit (.int .u8 0)], .agg [.lit (.int .u8 0), .lit (.int .u8 0)], .agg [.lit (.int .u8 0), .lit (.int .u8 0)]]]], [], places) :=
  ⟨[], by kernel_rfl⟩

set_option maxRecDepth 100000 in
theorem lifted (os : Os) (started : os.Started) (H : Type) (enc : TypeId × Value → H) (F : Stop.Interp) :
    ReturnsInHanded {} Tryz.checked os 3 .any ((OpenSpec.ofChange Rows.ledgerNilSpec).preRow enc Tryz.prog Tryz.f3 Rows.ledgerNilRow.domain false Rows.ledgerNilRow.laid) (((OpenSpec.ofChange Rows.ledgerNilSpec).at F).post enc Tryz.prog Tryz.f3 false true false false) := by
  obtain ⟨places, hx⟩ := reads os enc
  refine returnsInHanded_of_row (C := Tryz.checked) (s := OpenSpec.ofChange Rows.ledgerNilSpec) own started (by kernel_rfl) Tryz.func3
    (witness_row_at (enc := enc) (C := Tryz.checked) false (laidWorld os) #[wit] rfl (by kernel_rfl) (by kernel_rfl) (by kernel_rfl)
      (OpenSpec.preRow_of_cond 8 hx (by kernel_rfl) (fun k hk => by cases hk) (by kernel_rfl) (laid_met os))) ?_
  intro W base args ds gs before hval hW _ _ _ hL _ _
  exact contract H enc W base args ds gs before hval hW

theorem said : Rows.LedgerNilSaid :=
  OpenClaim.holds_of_cond 3 Tryz.f3 rfl rfl rfl rfl rfl rfl rfl ⟨rfl, rfl, rfl, rfl, rfl⟩ rfl rfl rfl rfl rfl (by kernel_rfl) Tryz.func3 (by kernel_rfl)
    (of_decide_eq_true (by kernel_rfl)) (by unfold Func.isWrapper; first | (rw [if_pos (by decide +kernel)]; kernel_rfl) | (rw [if_neg (by decide +kernel)]; exact ⟨rfl, rfl⟩))
    (fun os started H enc _ F => by rw [OpenClaim.pre_eq_preRow]; exact lifted os started H enc F)

theorem plain (f : FuncId) (fn : Func) (hf : Tryz.pinned.checked.prog.funcNamed "gemot/gemotlaw28.LedgerNil" = some f) (hfn : Tryz.pinned.checked.prog.funcs[f]? = some fn) :
    true = Tryz.pinned.checked.prog.looks [] ∧ ∀ (j : Nat) t, fn.params[j]? = some t → Tryz.pinned.checked.prog.wantsStandIn t = false := by
  obtain rfl : f = 3 := Option.some.inj ((show Tryz.prog.funcNamed "gemot/gemotlaw28.LedgerNil" = some 3 by kernel_rfl).symm.trans hf) |>.symm
  obtain rfl : fn = Tryz.f3 := (Option.some.inj (Tryz.func3.symm.trans hfn)).symm
  refine ⟨by kernel_rfl, fun j t ht => ?_⟩
  rw [Tryz.params3] at ht
  obtain rfl : t = 30 := by simpa using Array.mem_of_getElem? ht
  exact (show Tryz.prog.wantsStandIn 30 = false by kernel_rfl)

/-- The card. -/
theorem card : Rows.LedgerNilCardSaid :=
  Claim7.holds_tied_plain_at .later [] _ _ _ _ said (fun _ h => by cases h) (by kernel_rfl) (fun _ h => by cases h) ledgerNil_row_tie rfl ⟨rfl, rfl⟩ (by kernel_rfl) rfl plain (by kernel_rfl)
end Go.Proofs.YtpbpeieakbjolaaGreatDoor.LedCard
