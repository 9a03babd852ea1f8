/-
  DERIVED. An identifier to the program's and back: as it was.
-/
import Derived.Test.YtpbpeieakbjolaaGreatDoorProg
import Derived.WalkKit
import Derived.Deep.RegionHeld3
import Derived.Deep.QuietTactic
import Derived.BigQuiet
import Derived.BigRegion
import Derived.Lib.Hide
import Derived.KernelRfl
set_option linter.unusedVariables false
namespace Go.Proofs.LedIds
open Go.RowKit

set_option maxHeartbeats 1000000 in
set_option maxRecDepth 100000 in
theorem refProc (a b : Int) (w : World) :
    Calls Tryz.prog 38 #[.agg #[.int .u8 a, .int .u16 b]] w fun e w' => e = .returned (.agg #[.int .u8 a, .int .u16 b]) ∧ Below w.heap.size w w' := by
  go_enter Tryz.func38, Tryz.ntmps38
  go_wp2
  exact bodyPost_ret (v := .agg #[.int .u8 a, .int .u16 b]) (by simp [results, Tryz.results38, go_sem]) rfl ⟨rfl, ((Below.refl _ _).alloc (Nat.le_refl _) _).alloc (by simp) _⟩

set_option maxHeartbeats 1000000 in
set_option maxRecDepth 100000 in
theorem proc (a b : Int) (w : World) :
    Calls Tryz.prog 39 #[.agg #[.int .u8 a, .int .u16 b]] w fun e w' => e = .returned (.agg #[.int .u8 a, .int .u16 b]) ∧ Below w.heap.size w w' := by
  go_enter Tryz.func39, Tryz.ntmps39
  go_wp2
  exact bodyPost_ret (v := .agg #[.int .u8 a, .int .u16 b]) (by simp [results, Tryz.results39, go_sem]) rfl ⟨rfl, ((Below.refl _ _).alloc (Nat.le_refl _) _).alloc (by simp) _⟩

theorem allocBelow (w : World) (o : Obj) : Below w.heap.size w (w.alloc o) := (Below.refl _ _).alloc (Nat.le_refl _) o

theorem bcell {W w1 : World} (hb : Below W.heap.size W w1) : (∀ b o, b < W.heap.size → w1.cell? ⟨b, o, none⟩ = W.cell? ⟨b, o, none⟩) ∧ (∀ b o, b < W.heap.size → w1.frozen? ⟨b, o, none⟩ = W.frozen? ⟨b, o, none⟩) :=
  ⟨fun b o h => hb.cell (p := ⟨b, o, none⟩) h, fun b o h => hb.frozen (p := ⟨b, o, none⟩) h⟩

theorem heap_set_same {w : World} {b : Nat} {c : Array Value} {T : TypeId} (h : w.heap[b]? = some (.cells c T (0, 0))) (j : Nat) (v : Value) :
    (w.setCell ⟨b, j, none⟩ v).heap[b]? = some (.cells (c.setIfInBounds j v) T (0, 0)) := by simp [World.setCell, Array.getElem?_modify, h]
theorem heap_set_far {w : World} {b b' : Nat} {o : Option Obj} (h : w.heap[b]? = o) (hne : b' ≠ b) (j : Nat) (v : Value) : (w.setCell ⟨b', j, none⟩ v).heap[b]? = o := by
  simp [World.setCell, Array.getElem?_modify, hne, h]

theorem two0 (w : World) (a b : Obj) : ((w.alloc a).alloc b).heap[w.heap.size]? = some a := ((MapKept.heap_alloc (w.alloc a) b).2 _ (by simp)).trans (MapKept.heap_alloc w a).1
theorem two1 (w : World) (a b : Obj) : ((w.alloc a).alloc b).heap[w.heap.size + 1]? = some b := by
  have := (MapKept.heap_alloc (w.alloc a) b).1
  rwa [World.size_alloc] at this
theorem three0 (w : World) (a b c : Obj) : (((w.alloc a).alloc b).alloc c).heap[w.heap.size]? = some a := ((MapKept.heap_alloc ((w.alloc a).alloc b) c).2 _ (by simp; omega)).trans (two0 w a b)
theorem three1 (w : World) (a b c : Obj) : (((w.alloc a).alloc b).alloc c).heap[w.heap.size + 1]? = some b := ((MapKept.heap_alloc ((w.alloc a).alloc b) c).2 _ (by simp)).trans (two1 w a b)
theorem three2 (w : World) (a b c : Obj) : (((w.alloc a).alloc b).alloc c).heap[w.heap.size + 1 + 1]? = some c := by
  have := (MapKept.heap_alloc ((w.alloc a).alloc b) c).1
  rwa [World.size_alloc, World.size_alloc] at this
theorem below2 {w w1 : World} {a b : Obj} (h : Below ((w.alloc a).alloc b).drew.heap.size ((w.alloc a).alloc b).drew w1) : Below w.heap.size w w1 :=
  ((((Below.refl _ _).alloc (Nat.le_refl _) a).alloc (by simp) b).drew).trans (h.mono (by simp; omega))
theorem below3 {w w1 : World} {a b c : Obj} (h : Below (((w.alloc a).alloc b).alloc c).drew.heap.size (((w.alloc a).alloc b).alloc c).drew w1) : Below w.heap.size w w1 :=
  (((((Below.refl _ _).alloc (Nat.le_refl _) a).alloc (by simp) b).alloc (by simp; omega) c).drew).trans (h.mono (by simp; omega))

/-- What stands in a round: the block of the one that comes in (type T1), of the result (type T), and the one that is built, of which k steps are there. -/
def IdRel (T T1 : TypeId) (a b s d p0 p1 p2 p3 p4 p5 : Int) (B3 k : Nat) (w wr : World) : Prop :=
  ∃ x0 x1 x2 x3 x4 x5 : Int, w.heap.size + 1 < B3 ∧ Below w.heap.size w wr ∧
    wr.heap[w.heap.size]? = some (.cells #[.int .u8 a, .int .u16 b, .int .u32 s, .int .u8 d, .int .u8 p0, .int .u8 p1, .int .u8 p2, .int .u8 p3, .int .u8 p4, .int .u8 p5] T1 (0, 0)) ∧
    wr.heap[w.heap.size + 1]? = some (.cells #[.int .u8 0, .int .u16 0, .int .u32 0, .int .u8 0, .int .u8 0, .int .u8 0, .int .u8 0, .int .u8 0, .int .u8 0, .int .u8 0] T (0, 0)) ∧
    wr.heap[B3]? = some (.cells #[.int .u8 a, .int .u16 b, .int .u32 s, .int .u8 d, .int .u8 x0, .int .u8 x1, .int .u8 x2, .int .u8 x3, .int .u8 x4, .int .u8 x5] T (0, 0)) ∧
    (k = 0 ∨ (k = 1 ∧ x0 = p0 ∧ x1 = p1) ∨ (k = 2 ∧ x0 = p0 ∧ x1 = p1 ∧ x2 = p2 ∧ x3 = p3) ∨ (k = 3 ∧ x0 = p0 ∧ x1 = p1 ∧ x2 = p2 ∧ x3 = p3 ∧ x4 = p4 ∧ x5 = p5))

set_option maxHeartbeats 4000000 in
set_option maxRecDepth 100000 in
theorem id_any (a b s d p0 p1 p2 p3 p4 p5 : Int) (w : World) :
    Calls Tryz.prog 10 #[.agg #[.int .u8 a, .int .u16 b, .int .u32 s, .int .u8 d, .int .u8 p0, .int .u8 p1, .int .u8 p2, .int .u8 p3, .int .u8 p4, .int .u8 p5]] w
      fun e w' => e = .returned (.agg #[.int .u8 a, .int .u16 b, .int .u32 s, .int .u8 d, .int .u8 p0, .int .u8 p1, .int .u8 p2, .int .u8 p3, .int .u8 p4, .int .u8 p5]) ∧ Below w.heap.size w w' := by
  have hF : ∀ (W : World) (j : Nat) (v : Value) (k : Nat), (W.setCell ⟨w.heap.size + 1 + 1, j, none⟩ v).cell? ⟨w.heap.size, k, none⟩ = W.cell? ⟨w.heap.size, k, none⟩ := fun W j v k => World.cell?_setCell_far _ _ _ _ (by simp; omega)
  go_enter Tryz.func10, Tryz.ntmps10
  go_wp2_with fail
  go_region_held3 (fun w' => w'.cell? ⟨w.heap.size, 0, none⟩ = some (.int .u8 a) ∧ w'.cell? ⟨w.heap.size, 1, none⟩ = some (.int .u16 b) ∧ w'.cell? ⟨w.heap.size, 2, none⟩ = some (.int .u32 s) ∧ w'.cell? ⟨w.heap.size, 3, none⟩ = some (.int .u8 d))
    (first
      | (with_reducible exact ⟨q0, q1, q2, q3⟩)
      | (with_reducible (refine ⟨?_, ?_, ?_, ?_⟩ <;> (rw [hA]; assumption)))
      | (with_reducible (refine ⟨?_, ?_, ?_, ?_⟩ <;> (simp only [hF]; assumption)))
      | go_keep)
    ((go_at_call 39; refine (proc _ _ _).mono ?_; rintro e w1 ⟨rfl, hb1⟩; have hz : w.heap.size + 2 ≤ w1.heap.size := (by have := hb1.size; simp at this; omega); have hA : ∀ o k, (w1.alloc o).cell? ⟨w.heap.size, k, none⟩ = w1.cell? ⟨w.heap.size, k, none⟩ := (fun o k => World.cell?_alloc_lt w1 o ⟨w.heap.size, k, none⟩ (by simp; omega)); obtain ⟨hc1, hf1⟩ := bcell hb1; have q0 : w1.cell? ⟨w.heap.size, 0, none⟩ = some (.int .u8 a) := (hc1 _ _ (by simp; try omega)).trans (by go_simp); have q1 : w1.cell? ⟨w.heap.size, 1, none⟩ = some (.int .u16 b) := (hc1 _ _ (by simp; try omega)).trans (by go_simp); have q2 : w1.cell? ⟨w.heap.size, 2, none⟩ = some (.int .u32 s) := (hc1 _ _ (by simp; try omega)).trans (by go_simp); have q3 : w1.cell? ⟨w.heap.size, 3, none⟩ = some (.int .u8 d) := (hc1 _ _ (by simp; try omega)).trans (by go_simp)))
  focus
    have hrel0 : IdRel 71 30 a b s d p0 p1 p2 p3 p4 p5 w1.heap.size 0 w (w1.alloc (.cells #[.int .u8 a, .int .u16 b, .int .u32 s, .int .u8 d, .int .u8 0, .int .u8 0, .int .u8 0, .int .u8 0, .int .u8 0, .int .u8 0] 71)) := by
      refine ⟨0, 0, 0, 0, 0, 0, by omega, ?_, ?_, ?_, (MapKept.heap_alloc w1 _).1, .inl rfl⟩
      · exact (below2 hb1).alloc (by omega) _
      · exact ((MapKept.heap_alloc w1 _).2 _ (by omega)).trans ((hb1.block _ (by simp; omega)).trans (two0 _ _ _))
      · exact ((MapKept.heap_alloc w1 _).2 _ (by omega)).trans ((hb1.block _ (by simp)).trans (two1 _ _ _))
    go_wp2_with fail
    generalize (w1.alloc (.cells #[.int .u8 a, .int .u16 b, .int .u32 s, .int .u8 d, .int .u8 0, .int .u8 0, .int .u8 0, .int .u8 0, .int .u8 0, .int .u8 0] 71)) = W0 at hrel0 ⊢
    generalize w1.heap.size = B3 at hrel0 ⊢
  rotate_left
  focus
    have hrel0 : IdRel 71 30 a b s d p0 p1 p2 p3 p4 p5 (w.heap.size + 1 + 1) 0 w ((((((((((w1.setCell ⟨w.heap.size + 1 + 1, 0, none⟩ (.int .u8 a)).setCell ⟨w.heap.size + 1 + 1, 1, none⟩ (.int .u16 b)).setCell ⟨w.heap.size + 1 + 1, 2, none⟩ (.int .u32 s)).setCell ⟨w.heap.size + 1 + 1, 3, none⟩ (.int .u8 d)).setCell ⟨w.heap.size + 1 + 1, 4, none⟩ (.int .u8 0)).setCell ⟨w.heap.size + 1 + 1, 5, none⟩ (.int .u8 0)).setCell ⟨w.heap.size + 1 + 1, 6, none⟩ (.int .u8 0)).setCell ⟨w.heap.size + 1 + 1, 7, none⟩ (.int .u8 0)).setCell ⟨w.heap.size + 1 + 1, 8, none⟩ (.int .u8 0)).setCell ⟨w.heap.size + 1 + 1, 9, none⟩ (.int .u8 0)) := by
      refine ⟨0, 0, 0, 0, 0, 0, by omega, ?_, ?_, ?_, ?_, .inl rfl⟩
      · repeat (refine Below.setCell (p := ⟨_, _, none⟩) ?_ (by simp; omega) _)
        exact below3 hb1
      · repeat (refine heap_set_far ?_ (by omega) _ _)
        exact (hb1.block _ (by simp; omega)).trans (three0 _ _ _ _)
      · repeat (refine heap_set_far ?_ (by omega) _ _)
        exact (hb1.block _ (by simp)).trans (three1 _ _ _ _)
      · have h0 := (hb1.block (w.heap.size + 1 + 1) (by simp)).trans (three2 _ _ _ _)
        have h1 := heap_set_same h0 0 (.int .u8 a)
        have h2 := heap_set_same h1 1 (.int .u16 b)
        have h3 := heap_set_same h2 2 (.int .u32 s)
        have h4 := heap_set_same h3 3 (.int .u8 d)
        have h5 := heap_set_same h4 4 (.int .u8 0)
        have h6 := heap_set_same h5 5 (.int .u8 0)
        have h7 := heap_set_same h6 6 (.int .u8 0)
        have h8 := heap_set_same h7 7 (.int .u8 0)
        have h9 := heap_set_same h8 8 (.int .u8 0)
        have h10 := heap_set_same h9 9 (.int .u8 0)
        simp only [List.setIfInBounds_toArray, List.set_cons_zero, List.set_cons_succ] at h10
        exact h10
    go_wp2_with fail
    generalize ((((((((((w1.setCell ⟨w.heap.size + 1 + 1, 0, none⟩ (.int .u8 a)).setCell ⟨w.heap.size + 1 + 1, 1, none⟩ (.int .u16 b)).setCell ⟨w.heap.size + 1 + 1, 2, none⟩ (.int .u32 s)).setCell ⟨w.heap.size + 1 + 1, 3, none⟩ (.int .u8 d)).setCell ⟨w.heap.size + 1 + 1, 4, none⟩ (.int .u8 0)).setCell ⟨w.heap.size + 1 + 1, 5, none⟩ (.int .u8 0)).setCell ⟨w.heap.size + 1 + 1, 6, none⟩ (.int .u8 0)).setCell ⟨w.heap.size + 1 + 1, 7, none⟩ (.int .u8 0)).setCell ⟨w.heap.size + 1 + 1, 8, none⟩ (.int .u8 0)).setCell ⟨w.heap.size + 1 + 1, 9, none⟩ (.int .u8 0)) = W0 at hrel0 ⊢
    generalize w.heap.size + 1 + 1 = B3 at hrel0 ⊢
  all_goals
    clear hA hc1 hf1 q0 q1 q2 q3 hz hb1 hF
    go_loopw [4] (fun i wr => ∃ k : Nat, i = .int .i64 k ∧ IdRel 71 30 a b s d p0 p1 p2 p3 p4 p5 B3 k w wr) (fun i _ => 3 - (intOf i).toNat)
    case atStart => exact ⟨0, rfl, hrel0⟩
    case round =>
      obtain ⟨k, rfl, x0, x1, x2, x3, x4, x5, hlt, hbel, hb1, hb2, hb3, hk⟩ := hrel
      have hne : B3 ≠ w.heap.size := by omega
      rcases hk with rfl | ⟨rfl, rfl, rfl⟩ | ⟨rfl, rfl, rfl, rfl, rfl⟩ | ⟨rfl, rfl, rfl, rfl, rfl, rfl, rfl⟩
      · have c4 : wr.cell? ⟨w.heap.size, 4, none⟩ = some (.int .u8 p0) := by simp [World.cell?, hb1]
        have c5 : wr.cell? ⟨w.heap.size, 5, none⟩ = some (.int .u8 p1) := by simp [World.cell?, hb1]
        have e4 : wr.cell? ⟨B3, 4, none⟩ = some (.int .u8 x0) := by simp [World.cell?, hb3]
        have e5 : wr.cell? ⟨B3, 5, none⟩ = some (.int .u8 x1) := by simp [World.cell?, hb3]
        have f4 : wr.frozen? ⟨B3, 4, none⟩ = false := by simp [World.frozen?, hb3]
        have f5 : wr.frozen? ⟨B3, 5, none⟩ = false := by simp [World.frozen?, hb3]
        have H1 := Lib.hid hb1; have H2 := Lib.hid hb2; have H3 := Lib.hid hb3; clear hb1 hb2 hb3
        go_wp2_with fail
        go_region
        go_wp2_with fail
        go_roundw
        case rel =>
          refine ⟨1, by go_num, p0, p1, x2, x3, x4, x5, hlt, ?_, ?_, ?_, ?_, .inr (.inl ⟨rfl, rfl, rfl⟩)⟩
          · exact ((hbel.drew.setCell (by simp; omega) _).setCell (by simp; omega) _)
          · exact heap_set_far (heap_set_far (w := wr.drew) H1.out (by omega) _ _) (by omega) _ _
          · exact heap_set_far (heap_set_far (w := wr.drew) H2.out (by omega) _ _) (by omega) _ _
          · exact heap_set_same (heap_set_same (w := wr.drew) H3.out _ _) _ _
        case measure => simp [intOf]
      · have c4 : wr.cell? ⟨w.heap.size, 6, none⟩ = some (.int .u8 p2) := by simp [World.cell?, hb1]
        have c5 : wr.cell? ⟨w.heap.size, 7, none⟩ = some (.int .u8 p3) := by simp [World.cell?, hb1]
        have e4 : wr.cell? ⟨B3, 6, none⟩ = some (.int .u8 x2) := by simp [World.cell?, hb3]
        have e5 : wr.cell? ⟨B3, 7, none⟩ = some (.int .u8 x3) := by simp [World.cell?, hb3]
        have f4 : wr.frozen? ⟨B3, 6, none⟩ = false := by simp [World.frozen?, hb3]
        have f5 : wr.frozen? ⟨B3, 7, none⟩ = false := by simp [World.frozen?, hb3]
        have H1 := Lib.hid hb1; have H2 := Lib.hid hb2; have H3 := Lib.hid hb3; clear hb1 hb2 hb3
        go_wp2_with fail
        go_region
        go_wp2_with fail
        go_roundw
        case rel =>
          refine ⟨2, by go_num, x0, x1, p2, p3, x4, x5, hlt, ?_, ?_, ?_, ?_, .inr (.inr (.inl ⟨rfl, rfl, rfl, rfl, rfl⟩))⟩
          · exact ((hbel.drew.setCell (by simp; omega) _).setCell (by simp; omega) _)
          · exact heap_set_far (heap_set_far (w := wr.drew) H1.out (by omega) _ _) (by omega) _ _
          · exact heap_set_far (heap_set_far (w := wr.drew) H2.out (by omega) _ _) (by omega) _ _
          · exact heap_set_same (heap_set_same (w := wr.drew) H3.out _ _) _ _
        case measure => simp [intOf]
      · have c4 : wr.cell? ⟨w.heap.size, 8, none⟩ = some (.int .u8 p4) := by simp [World.cell?, hb1]
        have c5 : wr.cell? ⟨w.heap.size, 9, none⟩ = some (.int .u8 p5) := by simp [World.cell?, hb1]
        have e4 : wr.cell? ⟨B3, 8, none⟩ = some (.int .u8 x4) := by simp [World.cell?, hb3]
        have e5 : wr.cell? ⟨B3, 9, none⟩ = some (.int .u8 x5) := by simp [World.cell?, hb3]
        have f4 : wr.frozen? ⟨B3, 8, none⟩ = false := by simp [World.frozen?, hb3]
        have f5 : wr.frozen? ⟨B3, 9, none⟩ = false := by simp [World.frozen?, hb3]
        have H1 := Lib.hid hb1; have H2 := Lib.hid hb2; have H3 := Lib.hid hb3; clear hb1 hb2 hb3
        go_wp2_with fail
        go_region
        go_wp2_with fail
        go_roundw
        case rel =>
          refine ⟨3, by go_num, x0, x1, x2, x3, p4, p5, hlt, ?_, ?_, ?_, ?_, .inr (.inr (.inr ⟨rfl, rfl, rfl, rfl, rfl, rfl, rfl⟩))⟩
          · exact ((hbel.drew.setCell (by simp; omega) _).setCell (by simp; omega) _)
          · exact heap_set_far (heap_set_far (w := wr.drew) H1.out (by omega) _ _) (by omega) _ _
          · exact heap_set_far (heap_set_far (w := wr.drew) H2.out (by omega) _ _) (by omega) _ _
          · exact heap_set_same (heap_set_same (w := wr.drew) H3.out _ _) _ _
        case measure => simp [intOf]
      · have e0 : wr.cell? ⟨B3, 0, none⟩ = some (.int .u8 a) := by simp [World.cell?, hb3]
        have e1 : wr.cell? ⟨B3, 1, none⟩ = some (.int .u16 b) := by simp [World.cell?, hb3]
        have e2 : wr.cell? ⟨B3, 2, none⟩ = some (.int .u32 s) := by simp [World.cell?, hb3]
        have e3 : wr.cell? ⟨B3, 3, none⟩ = some (.int .u8 d) := by simp [World.cell?, hb3]
        have e4 : wr.cell? ⟨B3, 4, none⟩ = some (.int .u8 x0) := by simp [World.cell?, hb3]
        have e5 : wr.cell? ⟨B3, 5, none⟩ = some (.int .u8 x1) := by simp [World.cell?, hb3]
        have e6 : wr.cell? ⟨B3, 6, none⟩ = some (.int .u8 x2) := by simp [World.cell?, hb3]
        have e7 : wr.cell? ⟨B3, 7, none⟩ = some (.int .u8 x3) := by simp [World.cell?, hb3]
        have e8 : wr.cell? ⟨B3, 8, none⟩ = some (.int .u8 x4) := by simp [World.cell?, hb3]
        have e9 : wr.cell? ⟨B3, 9, none⟩ = some (.int .u8 x5) := by simp [World.cell?, hb3]
        have r0 : wr.cell? ⟨w.heap.size + 1, 0, none⟩ = some (.int .u8 0) := by simp [World.cell?, hb2]
        have f0 : wr.frozen? ⟨w.heap.size + 1, 0, none⟩ = false := by simp [World.frozen?, hb2]
        have r1 : wr.cell? ⟨w.heap.size + 1, 1, none⟩ = some (.int .u16 0) := by simp [World.cell?, hb2]
        have f1 : wr.frozen? ⟨w.heap.size + 1, 1, none⟩ = false := by simp [World.frozen?, hb2]
        have r2 : wr.cell? ⟨w.heap.size + 1, 2, none⟩ = some (.int .u32 0) := by simp [World.cell?, hb2]
        have f2 : wr.frozen? ⟨w.heap.size + 1, 2, none⟩ = false := by simp [World.frozen?, hb2]
        have r3 : wr.cell? ⟨w.heap.size + 1, 3, none⟩ = some (.int .u8 0) := by simp [World.cell?, hb2]
        have f3 : wr.frozen? ⟨w.heap.size + 1, 3, none⟩ = false := by simp [World.frozen?, hb2]
        have r4 : wr.cell? ⟨w.heap.size + 1, 4, none⟩ = some (.int .u8 0) := by simp [World.cell?, hb2]
        have f4 : wr.frozen? ⟨w.heap.size + 1, 4, none⟩ = false := by simp [World.frozen?, hb2]
        have r5 : wr.cell? ⟨w.heap.size + 1, 5, none⟩ = some (.int .u8 0) := by simp [World.cell?, hb2]
        have f5 : wr.frozen? ⟨w.heap.size + 1, 5, none⟩ = false := by simp [World.frozen?, hb2]
        have r6 : wr.cell? ⟨w.heap.size + 1, 6, none⟩ = some (.int .u8 0) := by simp [World.cell?, hb2]
        have f6 : wr.frozen? ⟨w.heap.size + 1, 6, none⟩ = false := by simp [World.frozen?, hb2]
        have r7 : wr.cell? ⟨w.heap.size + 1, 7, none⟩ = some (.int .u8 0) := by simp [World.cell?, hb2]
        have f7 : wr.frozen? ⟨w.heap.size + 1, 7, none⟩ = false := by simp [World.frozen?, hb2]
        have r8 : wr.cell? ⟨w.heap.size + 1, 8, none⟩ = some (.int .u8 0) := by simp [World.cell?, hb2]
        have f8 : wr.frozen? ⟨w.heap.size + 1, 8, none⟩ = false := by simp [World.frozen?, hb2]
        have r9 : wr.cell? ⟨w.heap.size + 1, 9, none⟩ = some (.int .u8 0) := by simp [World.cell?, hb2]
        have f9 : wr.frozen? ⟨w.heap.size + 1, 9, none⟩ = false := by simp [World.frozen?, hb2]
        have hz : w.heap.size + 1 < wr.heap.size := by
          rcases Nat.lt_or_ge (w.heap.size + 1) wr.heap.size with h | h
          · exact h
          · simp [Array.getElem?_eq_none h] at hb2
        clear hb1 hb2 hb3
        go_wp2
        refine bodyPost_ret (v := .agg #[.int .u8 a, .int .u16 b, .int .u32 s, .int .u8 d, .int .u8 x0, .int .u8 x1, .int .u8 x2, .int .u8 x3, .int .u8 x4, .int .u8 x5]) (by simp [results, Tryz.results10, go_sem, r0, r1, r2, r3, r4, r5, r6, r7, r8, r9]) rfl ⟨rfl, ?_⟩
        iterate 10 refine Below.setCell (p := ⟨_, _, none⟩) ?_ (Nat.le_succ _) _
        exact hbel

set_option maxHeartbeats 4000000 in
set_option maxRecDepth 100000 in
theorem refID_any (a b s d p0 p1 p2 p3 p4 p5 : Int) (w : World) :
    Calls Tryz.prog 9 #[.agg #[.int .u8 a, .int .u16 b, .int .u32 s, .int .u8 d, .int .u8 p0, .int .u8 p1, .int .u8 p2, .int .u8 p3, .int .u8 p4, .int .u8 p5]] w
      fun e w' => e = .returned (.agg #[.int .u8 a, .int .u16 b, .int .u32 s, .int .u8 d, .int .u8 p0, .int .u8 p1, .int .u8 p2, .int .u8 p3, .int .u8 p4, .int .u8 p5]) ∧ Below w.heap.size w w' := by
  have hF : ∀ (W : World) (j : Nat) (v : Value) (k : Nat), (W.setCell ⟨w.heap.size + 1 + 1, j, none⟩ v).cell? ⟨w.heap.size, k, none⟩ = W.cell? ⟨w.heap.size, k, none⟩ := fun W j v k => World.cell?_setCell_far _ _ _ _ (by simp; omega)
  go_enter Tryz.func9, Tryz.ntmps9
  go_wp2_with fail
  go_region_held3 (fun w' => w'.cell? ⟨w.heap.size, 0, none⟩ = some (.int .u8 a) ∧ w'.cell? ⟨w.heap.size, 1, none⟩ = some (.int .u16 b) ∧ w'.cell? ⟨w.heap.size, 2, none⟩ = some (.int .u32 s) ∧ w'.cell? ⟨w.heap.size, 3, none⟩ = some (.int .u8 d))
    (first
      | (with_reducible exact ⟨q0, q1, q2, q3⟩)
      | (with_reducible (refine ⟨?_, ?_, ?_, ?_⟩ <;> (rw [hA]; assumption)))
      | (with_reducible (refine ⟨?_, ?_, ?_, ?_⟩ <;> (simp only [hF]; assumption)))
      | go_keep)
    ((go_at_call 38; refine (refProc _ _ _).mono ?_; rintro e w1 ⟨rfl, hb1⟩; have hz : w.heap.size + 2 ≤ w1.heap.size := (by have := hb1.size; simp at this; omega); have hA : ∀ o k, (w1.alloc o).cell? ⟨w.heap.size, k, none⟩ = w1.cell? ⟨w.heap.size, k, none⟩ := (fun o k => World.cell?_alloc_lt w1 o ⟨w.heap.size, k, none⟩ (by simp; omega)); obtain ⟨hc1, hf1⟩ := bcell hb1; have q0 : w1.cell? ⟨w.heap.size, 0, none⟩ = some (.int .u8 a) := (hc1 _ _ (by simp; try omega)).trans (by go_simp); have q1 : w1.cell? ⟨w.heap.size, 1, none⟩ = some (.int .u16 b) := (hc1 _ _ (by simp; try omega)).trans (by go_simp); have q2 : w1.cell? ⟨w.heap.size, 2, none⟩ = some (.int .u32 s) := (hc1 _ _ (by simp; try omega)).trans (by go_simp); have q3 : w1.cell? ⟨w.heap.size, 3, none⟩ = some (.int .u8 d) := (hc1 _ _ (by simp; try omega)).trans (by go_simp)))
  focus
    have hrel0 : IdRel 30 71 a b s d p0 p1 p2 p3 p4 p5 w1.heap.size 0 w (w1.alloc (.cells #[.int .u8 a, .int .u16 b, .int .u32 s, .int .u8 d, .int .u8 0, .int .u8 0, .int .u8 0, .int .u8 0, .int .u8 0, .int .u8 0] 30)) := by
      refine ⟨0, 0, 0, 0, 0, 0, by omega, ?_, ?_, ?_, (MapKept.heap_alloc w1 _).1, .inl rfl⟩
      · exact (below2 hb1).alloc (by omega) _
      · exact ((MapKept.heap_alloc w1 _).2 _ (by omega)).trans ((hb1.block _ (by simp; omega)).trans (two0 _ _ _))
      · exact ((MapKept.heap_alloc w1 _).2 _ (by omega)).trans ((hb1.block _ (by simp)).trans (two1 _ _ _))
    go_wp2_with fail
    generalize (w1.alloc (.cells #[.int .u8 a, .int .u16 b, .int .u32 s, .int .u8 d, .int .u8 0, .int .u8 0, .int .u8 0, .int .u8 0, .int .u8 0, .int .u8 0] 30)) = W0 at hrel0 ⊢
    generalize w1.heap.size = B3 at hrel0 ⊢
  rotate_left
  focus
    have hrel0 : IdRel 30 71 a b s d p0 p1 p2 p3 p4 p5 (w.heap.size + 1 + 1) 0 w ((((((((((w1.setCell ⟨w.heap.size + 1 + 1, 0, none⟩ (.int .u8 a)).setCell ⟨w.heap.size + 1 + 1, 1, none⟩ (.int .u16 b)).setCell ⟨w.heap.size + 1 + 1, 2, none⟩ (.int .u32 s)).setCell ⟨w.heap.size + 1 + 1, 3, none⟩ (.int .u8 d)).setCell ⟨w.heap.size + 1 + 1, 4, none⟩ (.int .u8 0)).setCell ⟨w.heap.size + 1 + 1, 5, none⟩ (.int .u8 0)).setCell ⟨w.heap.size + 1 + 1, 6, none⟩ (.int .u8 0)).setCell ⟨w.heap.size + 1 + 1, 7, none⟩ (.int .u8 0)).setCell ⟨w.heap.size + 1 + 1, 8, none⟩ (.int .u8 0)).setCell ⟨w.heap.size + 1 + 1, 9, none⟩ (.int .u8 0)) := by
      refine ⟨0, 0, 0, 0, 0, 0, by omega, ?_, ?_, ?_, ?_, .inl rfl⟩
      · repeat (refine Below.setCell (p := ⟨_, _, none⟩) ?_ (by simp; omega) _)
        exact below3 hb1
      · repeat (refine heap_set_far ?_ (by omega) _ _)
        exact (hb1.block _ (by simp; omega)).trans (three0 _ _ _ _)
      · repeat (refine heap_set_far ?_ (by omega) _ _)
        exact (hb1.block _ (by simp)).trans (three1 _ _ _ _)
      · have h0 := (hb1.block (w.heap.size + 1 + 1) (by simp)).trans (three2 _ _ _ _)
        have h1 := heap_set_same h0 0 (.int .u8 a)
        have h2 := heap_set_same h1 1 (.int .u16 b)
        have h3 := heap_set_same h2 2 (.int .u32 s)
        have h4 := heap_set_same h3 3 (.int .u8 d)
        have h5 := heap_set_same h4 4 (.int .u8 0)
        have h6 := heap_set_same h5 5 (.int .u8 0)
        have h7 := heap_set_same h6 6 (.int .u8 0)
        have h8 := heap_set_same h7 7 (.int .u8 0)
        have h9 := heap_set_same h8 8 (.int .u8 0)
        have h10 := heap_set_same h9 9 (.int .u8 0)
        simp only [List.setIfInBounds_toArray, List.set_cons_zero, List.set_cons_succ] at h10
        exact h10
    go_wp2_with fail
    generalize ((((((((((w1.setCell ⟨w.heap.size + 1 + 1, 0, none⟩ (.int .u8 a)).setCell ⟨w.heap.size + 1 + 1, 1, none⟩ (.int .u16 b)).setCell ⟨w.heap.size + 1 + 1, 2, none⟩ (.int .u32 s)).setCell ⟨w.heap.size + 1 + 1, 3, none⟩ (.int .u8 d)).setCell ⟨w.heap.size + 1 + 1, 4, none⟩ (.int .u8 0)).setCell ⟨w.heap.size + 1 + 1, 5, none⟩ (.int .u8 0)).setCell ⟨w.heap.size + 1 + 1, 6, none⟩ (.int .u8 0)).setCell ⟨w.heap.size + 1 + 1, 7, none⟩ (.int .u8 0)).setCell ⟨w.heap.size + 1 + 1, 8, none⟩ (.int .u8 0)).setCell ⟨w.heap.size + 1 + 1, 9, none⟩ (.int .u8 0)) = W0 at hrel0 ⊢
    generalize w.heap.size + 1 + 1 = B3 at hrel0 ⊢
  all_goals
    clear hA hc1 hf1 q0 q1 q2 q3 hz hb1 hF
    go_loopw [4] (fun i wr => ∃ k : Nat, i = .int .i64 k ∧ IdRel 30 71 a b s d p0 p1 p2 p3 p4 p5 B3 k w wr) (fun i _ => 3 - (intOf i).toNat)
    case atStart => exact ⟨0, rfl, hrel0⟩
    case round =>
      obtain ⟨k, rfl, x0, x1, x2, x3, x4, x5, hlt, hbel, hb1, hb2, hb3, hk⟩ := hrel
      have hne : B3 ≠ w.heap.size := by omega
      rcases hk with rfl | ⟨rfl, rfl, rfl⟩ | ⟨rfl, rfl, rfl, rfl, rfl⟩ | ⟨rfl, rfl, rfl, rfl, rfl, rfl, rfl⟩
      · have c4 : wr.cell? ⟨w.heap.size, 4, none⟩ = some (.int .u8 p0) := by simp [World.cell?, hb1]
        have c5 : wr.cell? ⟨w.heap.size, 5, none⟩ = some (.int .u8 p1) := by simp [World.cell?, hb1]
        have e4 : wr.cell? ⟨B3, 4, none⟩ = some (.int .u8 x0) := by simp [World.cell?, hb3]
        have e5 : wr.cell? ⟨B3, 5, none⟩ = some (.int .u8 x1) := by simp [World.cell?, hb3]
        have f4 : wr.frozen? ⟨B3, 4, none⟩ = false := by simp [World.frozen?, hb3]
        have f5 : wr.frozen? ⟨B3, 5, none⟩ = false := by simp [World.frozen?, hb3]
        have H1 := Lib.hid hb1; have H2 := Lib.hid hb2; have H3 := Lib.hid hb3; clear hb1 hb2 hb3
        go_wp2_with fail
        go_region
        go_wp2_with fail
        go_roundw
        case rel =>
          refine ⟨1, by go_num, p0, p1, x2, x3, x4, x5, hlt, ?_, ?_, ?_, ?_, .inr (.inl ⟨rfl, rfl, rfl⟩)⟩
          · exact ((hbel.drew.setCell (by simp; omega) _).setCell (by simp; omega) _)
          · exact heap_set_far (heap_set_far (w := wr.drew) H1.out (by omega) _ _) (by omega) _ _
          · exact heap_set_far (heap_set_far (w := wr.drew) H2.out (by omega) _ _) (by omega) _ _
          · exact heap_set_same (heap_set_same (w := wr.drew) H3.out _ _) _ _
        case measure => simp [intOf]
      · have c4 : wr.cell? ⟨w.heap.size, 6, none⟩ = some (.int .u8 p2) := by simp [World.cell?, hb1]
        have c5 : wr.cell? ⟨w.heap.size, 7, none⟩ = some (.int .u8 p3) := by simp [World.cell?, hb1]
        have e4 : wr.cell? ⟨B3, 6, none⟩ = some (.int .u8 x2) := by simp [World.cell?, hb3]
        have e5 : wr.cell? ⟨B3, 7, none⟩ = some (.int .u8 x3) := by simp [World.cell?, hb3]
        have f4 : wr.frozen? ⟨B3, 6, none⟩ = false := by simp [World.frozen?, hb3]
        have f5 : wr.frozen? ⟨B3, 7, none⟩ = false := by simp [World.frozen?, hb3]
        have H1 := Lib.hid hb1; have H2 := Lib.hid hb2; have H3 := Lib.hid hb3; clear hb1 hb2 hb3
        go_wp2_with fail
        go_region
        go_wp2_with fail
        go_roundw
        case rel =>
          refine ⟨2, by go_num, x0, x1, p2, p3, x4, x5, hlt, ?_, ?_, ?_, ?_, .inr (.inr (.inl ⟨rfl, rfl, rfl, rfl, rfl⟩))⟩
          · exact ((hbel.drew.setCell (by simp; omega) _).setCell (by simp; omega) _)
          · exact heap_set_far (heap_set_far (w := wr.drew) H1.out (by omega) _ _) (by omega) _ _
          · exact heap_set_far (heap_set_far (w := wr.drew) H2.out (by omega) _ _) (by omega) _ _
          · exact heap_set_same (heap_set_same (w := wr.drew) H3.out _ _) _ _
        case measure => simp [intOf]
      · have c4 : wr.cell? ⟨w.heap.size, 8, none⟩ = some (.int .u8 p4) := by simp [World.cell?, hb1]
        have c5 : wr.cell? ⟨w.heap.size, 9, none⟩ = some (.int .u8 p5) := by simp [World.cell?, hb1]
        have e4 : wr.cell? ⟨B3, 8, none⟩ = some (.int .u8 x4) := by simp [World.cell?, hb3]
        have e5 : wr.cell? ⟨B3, 9, none⟩ = some (.int .u8 x5) := by simp [World.cell?, hb3]
        have f4 : wr.frozen? ⟨B3, 8, none⟩ = false := by simp [World.frozen?, hb3]
        have f5 : wr.frozen? ⟨B3, 9, none⟩ = false := by simp [World.frozen?, hb3]
        have H1 := Lib.hid hb1; have H2 := Lib.hid hb2; have H3 := Lib.hid hb3; clear hb1 hb2 hb3
        go_wp2_with fail
        go_region
        go_wp2_with fail
        go_roundw
        case rel =>
          refine ⟨3, by go_num, x0, x1, x2, x3, p4, p5, hlt, ?_, ?_, ?_, ?_, .inr (.inr (.inr ⟨rfl, rfl, rfl, rfl, rfl, rfl, rfl⟩))⟩
          · exact ((hbel.drew.setCell (by simp; omega) _).setCell (by simp; omega) _)
          · exact heap_set_far (heap_set_far (w := wr.drew) H1.out (by omega) _ _) (by omega) _ _
          · exact heap_set_far (heap_set_far (w := wr.drew) H2.out (by omega) _ _) (by omega) _ _
          · exact heap_set_same (heap_set_same (w := wr.drew) H3.out _ _) _ _
        case measure => simp [intOf]
      · have e0 : wr.cell? ⟨B3, 0, none⟩ = some (.int .u8 a) := by simp [World.cell?, hb3]
        have e1 : wr.cell? ⟨B3, 1, none⟩ = some (.int .u16 b) := by simp [World.cell?, hb3]
        have e2 : wr.cell? ⟨B3, 2, none⟩ = some (.int .u32 s) := by simp [World.cell?, hb3]
        have e3 : wr.cell? ⟨B3, 3, none⟩ = some (.int .u8 d) := by simp [World.cell?, hb3]
        have e4 : wr.cell? ⟨B3, 4, none⟩ = some (.int .u8 x0) := by simp [World.cell?, hb3]
        have e5 : wr.cell? ⟨B3, 5, none⟩ = some (.int .u8 x1) := by simp [World.cell?, hb3]
        have e6 : wr.cell? ⟨B3, 6, none⟩ = some (.int .u8 x2) := by simp [World.cell?, hb3]
        have e7 : wr.cell? ⟨B3, 7, none⟩ = some (.int .u8 x3) := by simp [World.cell?, hb3]
        have e8 : wr.cell? ⟨B3, 8, none⟩ = some (.int .u8 x4) := by simp [World.cell?, hb3]
        have e9 : wr.cell? ⟨B3, 9, none⟩ = some (.int .u8 x5) := by simp [World.cell?, hb3]
        have r0 : wr.cell? ⟨w.heap.size + 1, 0, none⟩ = some (.int .u8 0) := by simp [World.cell?, hb2]
        have f0 : wr.frozen? ⟨w.heap.size + 1, 0, none⟩ = false := by simp [World.frozen?, hb2]
        have r1 : wr.cell? ⟨w.heap.size + 1, 1, none⟩ = some (.int .u16 0) := by simp [World.cell?, hb2]
        have f1 : wr.frozen? ⟨w.heap.size + 1, 1, none⟩ = false := by simp [World.frozen?, hb2]
        have r2 : wr.cell? ⟨w.heap.size + 1, 2, none⟩ = some (.int .u32 0) := by simp [World.cell?, hb2]
        have f2 : wr.frozen? ⟨w.heap.size + 1, 2, none⟩ = false := by simp [World.frozen?, hb2]
        have r3 : wr.cell? ⟨w.heap.size + 1, 3, none⟩ = some (.int .u8 0) := by simp [World.cell?, hb2]
        have f3 : wr.frozen? ⟨w.heap.size + 1, 3, none⟩ = false := by simp [World.frozen?, hb2]
        have r4 : wr.cell? ⟨w.heap.size + 1, 4, none⟩ = some (.int .u8 0) := by simp [World.cell?, hb2]
        have f4 : wr.frozen? ⟨w.heap.size + 1, 4, none⟩ = false := by simp [World.frozen?, hb2]
        have r5 : wr.cell? ⟨w.heap.size + 1, 5, none⟩ = some (.int .u8 0) := by simp [World.cell?, hb2]
        have f5 : wr.frozen? ⟨w.heap.size + 1, 5, none⟩ = false := by simp [World.frozen?, hb2]
        have r6 : wr.cell? ⟨w.heap.size + 1, 6, none⟩ = some (.int .u8 0) := by simp [World.cell?, hb2]
        have f6 : wr.frozen? ⟨w.heap.size + 1, 6, none⟩ = false := by simp [World.frozen?, hb2]
        have r7 : wr.cell? ⟨w.heap.size + 1, 7, none⟩ = some (.int .u8 0) := by simp [World.cell?, hb2]
        have f7 : wr.frozen? ⟨w.heap.size + 1, 7, none⟩ = false := by simp [World.frozen?, hb2]
        have r8 : wr.cell? ⟨w.heap.size + 1, 8, none⟩ = some (.int .u8 0) := by simp [World.cell?, hb2]
        have f8 : wr.frozen? ⟨w.heap.size + 1, 8, none⟩ = false := by simp [World.frozen?, hb2]
        have r9 : wr.cell? ⟨w.heap.size + 1, 9, none⟩ = some (.int .u8 0) := by simp [World.cell?, hb2]
        have f9 : wr.frozen? ⟨w.heap.size + 1, 9, none⟩ = false := by simp [World.frozen?, hb2]
        have hz : w.heap.size + 1 < wr.heap.size := by
          rcases Nat.lt_or_ge (w.heap.size + 1) wr.heap.size with h | h
          · exact h
          · simp [Array.getElem?_eq_none h] at hb2
        clear hb1 hb2 hb3
        go_wp2
        refine bodyPost_ret (v := .agg #[.int .u8 a, .int .u16 b, .int .u32 s, .int .u8 d, .int .u8 x0, .int .u8 x1, .int .u8 x2, .int .u8 x3, .int .u8 x4, .int .u8 x5]) (by simp [results, Tryz.results9, go_sem, r0, r1, r2, r3, r4, r5, r6, r7, r8, r9]) rfl ⟨rfl, ?_⟩
        iterate 10 refine Below.setCell (p := ⟨_, _, none⟩) ?_ (Nat.le_succ _) _
        exact hbel

end Go.Proofs.LedIds
