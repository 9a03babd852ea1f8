/-
  DERIVED. THE LAW OF LAYER 28: of nothing nothing is told: it answers true, whatever identifier it is given; nothing that was there turns.
-/
import Derived.Test.YtpbpeieakbjolaaGreatDoorNil
import Derived.Test.YtpbpeieakbjolaaGreatDoorIds
import Derived.Test.YtpbpeieakbjolaaGreatDoorText
import Derived.ChangeKeysEq
set_option linter.unusedVariables false
namespace Go.Proofs.LedLaw
open Go.RowKit Go.Proofs.LedPage Go.Proofs.LedNote Go.Proofs.LedBegin Go.Proofs.LedTells Go.Proofs.LedText Go.Proofs.LedNil

set_option maxHeartbeats 2000000 in
set_option maxRecDepth 100000 in
theorem knows_true (w : World) : Calls Tryz.prog 11 #[] w fun e w' => e = .returned (.bool true) ∧ Below w.heap.size w w' := by
  go_enter Tryz.func11, Tryz.ntmps11
  go_wp2_with fail
  refine (new_annal w).mono ?_
  rintro e w' ⟨rfl, rfl⟩
  go_wp2_with fail
  refine (begin_first w.heap.size _ (MapKept.heap_alloc w _).1).mono ?_
  rintro e w1 ⟨rfl, m, g, cap, h1, h2, h3⟩
  have c13 : w1.cell? ⟨w.heap.size, 13, none⟩ = some (.bool true) := by rw [Lib.cell_of_heap h1]; rfl
  have c1 : w1.cell? ⟨w.heap.size, 1, none⟩ = some (.slice (some ⟨g, 0, none⟩) 1 cap) := by rw [Lib.cell_of_heap h1]; rfl
  have c3 : w1.cell? ⟨w.heap.size, 3, none⟩ = some (.slice none 0 0) := by rw [Lib.cell_of_heap h1]; rfl
  have hb1 : Below w.heap.size w w1 := ((Below.refl _ _).alloc (Nat.le_refl _) _).grown h3 (by simp) (fun k hk => by simp at hk; omega)
  clear h1
  go_wp2_with fail
  refine (calls_one w.heap.size g cap _ w1 c13 c1 c3 h2).mono ?_
  rintro e w2 ⟨rfl, hb2⟩
  have hs := hb1.size
  go_wp2
  go_ret
  exact ⟨rfl, hb1.trans (hb2.mono hs)⟩

theorem keepX {W wn : World} {n : Nat} {o : Obj} (hb : Below W.heap.size W wn) (h : W.heap[n]? = some o) : wn.heap[n]? = some o := by
  have hn : n < W.heap.size := (Array.getElem?_eq_some_iff.1 h).1
  exact (hb.block n hn).trans h
theorem keepY {w W wn : World} (hb : Below W.heap.size W wn) (h : Below w.heap.size w W) : Below w.heap.size w wn := h.trans (hb.mono h.size)

theorem keepXa {W wn : World} {n : Nat} {o o' : Obj} (hb : Below (W.alloc o').heap.size (W.alloc o') wn) (h : W.heap[n]? = some o) : wn.heap[n]? = some o :=
  keepX hb (((MapKept.heap_alloc W o').2 n (Array.getElem?_eq_some_iff.1 h).1).trans h)
theorem keepYa {w W wn : World} {o' : Obj} (hb : Below (W.alloc o').heap.size (W.alloc o') wn) (h : Below w.heap.size w W) : Below w.heap.size w wn := keepY hb (h.alloc h.size o')

theorem eq30 (a b s d p0 p1 p2 p3 p4 p5 : Int) (W : World) : (binOp .eql 30 (.agg #[.int .u8 a, .int .u16 b, .int .u32 s, .int .u8 d, .int .u8 p0, .int .u8 p1, .int .u8 p2, .int .u8 p3, .int .u8 p4, .int .u8 p5]) (.agg #[.int .u8 a, .int .u16 b, .int .u32 s, .int .u8 d, .int .u8 p0, .int .u8 p1, .int .u8 p2, .int .u8 p3, .int .u8 p4, .int .u8 p5])).run Tryz.prog W = .ok (.bool true) W := by
  obtain ⟨i, hi⟩ : ∃ i, Tryz.prog.info? 27 = some i := Option.isSome_iff_exists.1 (by kernel_rfl)
  have h := fun xs ys => run_equalIn_array W 9998 xs ys Tryz.underlying28 hi
  simp [go_sem, h, Op.eqItems, List.range, List.range.loop, show Tryz.prog.cellsOf 27 = 2 by kernel_rfl]

set_option maxHeartbeats 8000000 in
set_option maxRecDepth 100000 in
theorem law_true (a b s d p0 p1 p2 p3 p4 p5 : Int) (w : World) :
    Calls Tryz.prog 3 #[.agg #[.int .u8 a, .int .u16 b, .int .u32 s, .int .u8 d, .int .u8 p0, .int .u8 p1, .int .u8 p2, .int .u8 p3, .int .u8 p4, .int .u8 p5]] w fun e w' => e = .returned (.bool true) ∧ Below w.heap.size w w' := by
  have hX : (w.alloc (.cells #[.int .u8 a, .int .u16 b, .int .u32 s, .int .u8 d, .int .u8 p0, .int .u8 p1, .int .u8 p2, .int .u8 p3, .int .u8 p4, .int .u8 p5] 30)).drew.heap[w.heap.size]? = some (.cells #[.int .u8 a, .int .u16 b, .int .u32 s, .int .u8 d, .int .u8 p0, .int .u8 p1, .int .u8 p2, .int .u8 p3, .int .u8 p4, .int .u8 p5] 30 (0, 0)) := (MapKept.heap_alloc w _).1
  have HX := Lib.hid hX
  have hY : Below w.heap.size w (w.alloc (.cells #[.int .u8 a, .int .u16 b, .int .u32 s, .int .u8 d, .int .u8 p0, .int .u8 p1, .int .u8 p2, .int .u8 p3, .int .u8 p4, .int .u8 p5] 30)).drew := ((Below.refl _ _).alloc (Nat.le_refl _) _).drew
  have HY := Lib.hid hY
  clear hX hY
  have happ : ((⟨#[]⟩ : ByteArray) ++ ⟨#[]⟩) = ⟨#[]⟩ := rfl
  have heq30 := eq30
  go_enter Tryz.func3, Tryz.ntmps3
  go_wp2_with fail
  go_region_held3 (fun w' => w'.cell? ⟨w.heap.size, 0, none⟩ = some (.int .u8 a) ∧ w'.cell? ⟨w.heap.size, 1, none⟩ = some (.int .u16 b) ∧ w'.cell? ⟨w.heap.size, 2, none⟩ = some (.int .u32 s) ∧ w'.cell? ⟨w.heap.size, 3, none⟩ = some (.int .u8 d) ∧ w'.cell? ⟨w.heap.size, 4, none⟩ = some (.int .u8 p0) ∧ w'.cell? ⟨w.heap.size, 5, none⟩ = some (.int .u8 p1) ∧ w'.cell? ⟨w.heap.size, 6, none⟩ = some (.int .u8 p2) ∧ w'.cell? ⟨w.heap.size, 7, none⟩ = some (.int .u8 p3) ∧ w'.cell? ⟨w.heap.size, 8, none⟩ = some (.int .u8 p4) ∧ w'.cell? ⟨w.heap.size, 9, none⟩ = some (.int .u8 p5))
    (first
      | ((refine ⟨?_, ?_, ?_, ?_, ?_, ?_, ?_, ?_, ?_, ?_⟩ <;> (rw [Lib.cell_of_heap HX.out]; rfl)))
      | go_keep)
    (first
      | (go_at_call 4; refine (orders_nil _).mono ?_; rintro e wn ⟨rfl, hbn⟩; have hX : wn.heap[w.heap.size]? = some (.cells #[.int .u8 a, .int .u16 b, .int .u32 s, .int .u8 d, .int .u8 p0, .int .u8 p1, .int .u8 p2, .int .u8 p3, .int .u8 p4, .int .u8 p5] 30 (0, 0)) := keepX hbn HX.out; have HX := Lib.hid hX; have hY : Below w.heap.size w wn := keepY hbn HY.out; have HY := Lib.hid hY; clear hX hY)
      | (go_at_call_of 5 (Value.pointer none); refine (calls_none none _ (.inl rfl)).mono ?_; rintro e wn ⟨rfl, hbn⟩; have hX : wn.heap[w.heap.size]? = some (.cells #[.int .u8 a, .int .u16 b, .int .u32 s, .int .u8 d, .int .u8 p0, .int .u8 p1, .int .u8 p2, .int .u8 p3, .int .u8 p4, .int .u8 p5] 30 (0, 0)) := keepX hbn HX.out; have HX := Lib.hid hX; have hY : Below w.heap.size w wn := keepY hbn HY.out; have HY := Lib.hid hY; clear hX hY)
      | (go_at_call 6; refine (faults_nil _).mono ?_; rintro e wn ⟨rfl, hbn⟩; have hX : wn.heap[w.heap.size]? = some (.cells #[.int .u8 a, .int .u16 b, .int .u32 s, .int .u8 d, .int .u8 p0, .int .u8 p1, .int .u8 p2, .int .u8 p3, .int .u8 p4, .int .u8 p5] 30 (0, 0)) := keepX hbn HX.out; have HX := Lib.hid hX; have hY : Below w.heap.size w wn := keepY hbn HY.out; have HY := Lib.hid hY; clear hX hY)
      | (go_at_call_of 7 (Value.pointer none); refine (nodes_none none _ (.inl rfl)).mono ?_; rintro e wn ⟨rfl, hbn⟩; have hX : wn.heap[w.heap.size]? = some (.cells #[.int .u8 a, .int .u16 b, .int .u32 s, .int .u8 d, .int .u8 p0, .int .u8 p1, .int .u8 p2, .int .u8 p3, .int .u8 p4, .int .u8 p5] 30 (0, 0)) := keepX hbn HX.out; have HX := Lib.hid hX; have hY : Below w.heap.size w wn := keepY hbn HY.out; have HY := Lib.hid hY; clear hX hY)
      | (go_at_call 8; refine (flight_none none _ (.inl rfl)).mono ?_; rintro e wn ⟨rfl, hbn⟩; have hX : wn.heap[w.heap.size]? = some (.cells #[.int .u8 a, .int .u16 b, .int .u32 s, .int .u8 d, .int .u8 p0, .int .u8 p1, .int .u8 p2, .int .u8 p3, .int .u8 p4, .int .u8 p5] 30 (0, 0)) := keepX hbn HX.out; have HX := Lib.hid hX; have hY : Below w.heap.size w wn := keepY hbn HY.out; have HY := Lib.hid hY; clear hX hY)
      | (go_at_call 7; refine (nodes_none _ _ (.inr ⟨_, rfl, by (go_simp; all_goals first | kernel_rfl | rfl)⟩)).mono ?_; rintro e wn ⟨rfl, hbn⟩; have hX : wn.heap[w.heap.size]? = some (.cells #[.int .u8 a, .int .u16 b, .int .u32 s, .int .u8 d, .int .u8 p0, .int .u8 p1, .int .u8 p2, .int .u8 p3, .int .u8 p4, .int .u8 p5] 30 (0, 0)) := keepXa hbn HX.out; have HX := Lib.hid hX; have hY : Below w.heap.size w wn := keepYa hbn HY.out; have HY := Lib.hid hY; clear hX hY)
      | (go_at_call 5; refine (calls_none _ _ (.inr ⟨_, rfl, by (go_simp; all_goals first | kernel_rfl | rfl)⟩)).mono ?_; rintro e wn ⟨rfl, hbn⟩; have hX : wn.heap[w.heap.size]? = some (.cells #[.int .u8 a, .int .u16 b, .int .u32 s, .int .u8 d, .int .u8 p0, .int .u8 p1, .int .u8 p2, .int .u8 p3, .int .u8 p4, .int .u8 p5] 30 (0, 0)) := keepXa hbn HX.out; have HX := Lib.hid hX; have hY : Below w.heap.size w wn := keepYa hbn HY.out; have HY := Lib.hid hY; clear hX hY)
      | (go_at_call 10; refine (LedIds.id_any a b s d p0 p1 p2 p3 p4 p5 _).mono ?_; rintro e wn ⟨rfl, hbn⟩; have hX : wn.heap[w.heap.size]? = some (.cells #[.int .u8 a, .int .u16 b, .int .u32 s, .int .u8 d, .int .u8 p0, .int .u8 p1, .int .u8 p2, .int .u8 p3, .int .u8 p4, .int .u8 p5] 30 (0, 0)) := keepX hbn HX.out; have HX := Lib.hid hX; have hY : Below w.heap.size w wn := keepY hbn HY.out; have HY := Lib.hid hY; clear hX hY)
      | (go_at_call 9; refine (LedIds.refID_any a b s d p0 p1 p2 p3 p4 p5 _).mono ?_; rintro e wn ⟨rfl, hbn⟩; have hX : wn.heap[w.heap.size]? = some (.cells #[.int .u8 a, .int .u16 b, .int .u32 s, .int .u8 d, .int .u8 p0, .int .u8 p1, .int .u8 p2, .int .u8 p3, .int .u8 p4, .int .u8 p5] 30 (0, 0)) := keepX hbn HX.out; have HX := Lib.hid hX; have hY : Below w.heap.size w wn := keepY hbn HY.out; have HY := Lib.hid hY; clear hX hY)
      | (go_at_call 11; refine (knows_true _).mono ?_; rintro e wn ⟨rfl, hbn⟩; have hX : wn.heap[w.heap.size]? = some (.cells #[.int .u8 a, .int .u16 b, .int .u32 s, .int .u8 d, .int .u8 p0, .int .u8 p1, .int .u8 p2, .int .u8 p3, .int .u8 p4, .int .u8 p5] 30 (0, 0)) := keepX hbn HX.out; have HX := Lib.hid hX; have hY : Below w.heap.size w wn := keepY hbn HY.out; have HY := Lib.hid hY; clear hX hY))
  all_goals go_wp2
  all_goals go_ret
  all_goals exact ⟨rfl, HY.out⟩

end Go.Proofs.LedLaw
