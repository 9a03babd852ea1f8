/-
  DERIVED. A new annal, and the first call that begins in it.
-/
import Derived.Test.YtpbpeieakbjolaaGreatDoorNote
import Derived.Lib.BufferMore
set_option linter.unusedVariables false
namespace Go.Proofs.LedBegin
open Go.RowKit Go.Proofs.LedPage Go.Proofs.LedNote

set_option maxHeartbeats 1000000 in
set_option maxRecDepth 100000 in
theorem clone_parts_nil (w : World) : Calls Tryz.prog 52 #[.slice none 0 0] w fun e w' => e = .returned (.slice none 0 0) ∧ w = w' := by
  have hn := fun w => Lib.run_eql_slice_nil_nil (P := Tryz.prog) w 0 0 Tryz.underlying84
  go_enter Tryz.func52, Tryz.ntmps52
  go_wp2
  go_ret
  exact ⟨rfl, rfl⟩

set_option maxHeartbeats 1000000 in
set_option maxRecDepth 100000 in
theorem clone_ends_nil (w : World) : Calls Tryz.prog 51 #[.slice none 0 0] w fun e w' => e = .returned (.slice none 0 0) ∧ w = w' := by
  have hn := fun w => Lib.run_eql_slice_nil_nil (P := Tryz.prog) w 0 0 Tryz.underlying51
  go_enter Tryz.func51, Tryz.ntmps51
  go_wp2
  go_ret
  exact ⟨rfl, rfl⟩

set_option maxHeartbeats 1000000 in
set_option maxRecDepth 100000 in
theorem annal_made (b : Nat) (w : World) (hc : w.cell? ⟨b, 13, none⟩ = some (.bool true)) :
    Calls Tryz.prog 42 #[.pointer (some ⟨b, 0, none⟩)] w fun e w' => e = .returned (.bool false) ∧ w = w' := by
  go_enter Tryz.func42, Tryz.ntmps42
  go_wp2
  go_ret
  exact ⟨rfl, rfl⟩

set_option maxHeartbeats 1000000 in
set_option maxRecDepth 100000 in
theorem new_annal (w : World) : Calls Tryz.prog 40 #[] w fun e w' => e = .returned (.pointer (some ⟨w.heap.size, 0, none⟩)) ∧ w' = w.alloc (.cells #[.map none, .slice none 0 0, .map none, .slice none 0 0, .map none, .slice none 0 0, .map none, .slice none 0 0, .slice none 0 0, .slice none 0 0, .slice none 0 0, .slice none 0 0, .int .i64 0, .bool true] 65) := by
  go_enter Tryz.func40, Tryz.ntmps40
  go_wp2
  go_ret
  exact ⟨rfl, rfl⟩

theorem noted_far {w w1 : World} {ab i : Nat} (h : Noted w ab w1) (hi : i < w.heap.size) (hne : i ≠ ab) : w1.heap[i]? = w.heap[i]? := by
  obtain ⟨m, g, cap, n1, n2, n3⟩ := h
  exact n3.block i hi (fun e => hne (Option.some.inj e))

/-- What was noted behind a new block (and a draw) was noted. -/
theorem noted_alloc {w w1 : World} {ab : Nat} {o : Obj} (h : Noted (w.alloc o).drew ab w1) : Noted w ab w1 := by
  obtain ⟨m, g, cap, n1, n2, n3⟩ := h
  have hs := n3.size
  simp at hs
  refine ⟨m, g, cap, n1, ?_, ⟨n3.os, n3.tape, n3.output, by omega, fun i hi hne => (n3.block i (by simp; omega) hne).trans ((MapKept.heap_alloc w o).2 i hi)⟩⟩
  refine ⟨n2.1, n2.2.imp (fun x => x) ?_⟩
  rintro ⟨g', cap', cur, e, hb, r⟩
  exact ⟨g', cap', cur, e, by simp at hb; omega, r⟩

set_option maxHeartbeats 2000000 in
set_option maxRecDepth 100000 in
theorem begin_first (ab : Nat) (w : World) (ha : w.heap[ab]? = some (.cells #[.map none, .slice none 0 0, .map none, .slice none 0 0, .map none, .slice none 0 0, .map none, .slice none 0 0, .slice none 0 0, .slice none 0 0, .slice none 0 0, .slice none 0 0, .int .i64 0, .bool true] 65 (0, 0))) :
    Calls Tryz.prog 41 #[.pointer (some ⟨ab, 0, none⟩), .agg #[.int .u8 9, .int .u16 1, .int .u32 1, .int .u8 0, .int .u8 0, .int .u8 0, .int .u8 0, .int .u8 0, .int .u8 0, .int .u8 0, .int .u8 0, .int .i64 2, .int .i64 0, .slice none 0 0]] w fun e w' => e = .returned (.bool true) ∧ Noted w ab w' := by
  have c13 : w.cell? ⟨ab, 13, none⟩ = some (.bool true) := by rw [Lib.cell_of_heap ha]; rfl
  have hlt : ab < w.heap.size := World.block_lt_of_cell? w _ c13
  have c13' := fun o => old1 c13 o
  have HA := Lib.hid ha; clear ha
  go_enter Tryz.func41, Tryz.ntmps41
  go_wp2_with (go_at_call 52; refine (clone_parts_nil _).mono ?_; rintro e w' ⟨rfl, rfl⟩)
  go_region_held3 (fun w' => w'.cell? ⟨w.heap.size, 0, none⟩ = some (.int .u8 9) ∧ w'.cell? ⟨w.heap.size, 1, none⟩ = some (.int .u16 1) ∧ w'.cell? ⟨w.heap.size, 2, none⟩ = some (.int .u32 1) ∧ w'.cell? ⟨w.heap.size, 3, none⟩ = some (.int .u8 0) ∧ w'.cell? ⟨w.heap.size, 4, none⟩ = some (.int .u8 0) ∧ w'.cell? ⟨w.heap.size, 5, none⟩ = some (.int .u8 0) ∧ w'.cell? ⟨w.heap.size, 6, none⟩ = some (.int .u8 0) ∧ w'.cell? ⟨w.heap.size, 7, none⟩ = some (.int .u8 0) ∧ w'.cell? ⟨w.heap.size, 8, none⟩ = some (.int .u8 0) ∧ w'.cell? ⟨w.heap.size, 9, none⟩ = some (.int .u8 0) ∧ w'.cell? ⟨w.heap.size, 10, none⟩ = some (.int .u8 0) ∧ w'.cell? ⟨w.heap.size, 11, none⟩ = some (.int .i64 2) ∧ w'.cell? ⟨w.heap.size, 12, none⟩ = some (.int .i64 0) ∧ w'.cell? ⟨w.heap.size, 13, none⟩ = some (.slice none 0 0))
    (first | ((refine ⟨?_, ?_, ?_, ?_, ?_, ?_, ?_, ?_, ?_, ?_, ?_, ?_, ?_, ?_⟩ <;> (rw [Lib.cell_of_heap HX.out]; rfl))) | go_keep)
    (first
      | (go_at_call 42; refine (annal_made ab _ (by first | assumption | (exact c13' _))).mono ?_; rintro e w' ⟨rfl, rfl⟩)
      | (go_at_call 68; refine (note_first ab _ (by exact ((MapKept.heap_alloc w _).2 ab hlt).trans HA.out)).mono ?_; rintro e w1 ⟨rfl, hN⟩; have hX : w1.heap[w.heap.size]? = some (.cells #[.int .u8 9, .int .u16 1, .int .u32 1, .int .u8 0, .int .u8 0, .int .u8 0, .int .u8 0, .int .u8 0, .int .u8 0, .int .u8 0, .int .u8 0, .int .i64 2, .int .i64 0, .slice none 0 0] 99 (0, 0)) := (noted_far hN (by simp) (by omega)).trans (MapKept.heap_alloc w _).1; have HX := Lib.hid hX; clear hX; have HN := Lib.hid hN; clear hN))
  all_goals go_wp2_with fail
  all_goals go_ret
  all_goals exact ⟨rfl, noted_alloc HN.out⟩

end Go.Proofs.LedBegin
