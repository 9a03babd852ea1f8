/-
  DERIVED. Small numbers, points and names of calls as text.
-/
import Derived.Test.YtpbpeieakbjolaaGreatDoorPage
import Derived.Test.YtpbpeieakbjolaaGreatDoorShelf
import Derived.Deep.RegionHeld3
import Derived.Deep.QuietTactic
import Derived.BigQuiet
import Derived.StillTailTactics
import Derived.WalkLawsBesides
import Derived.Lib.Hide
set_option linter.unusedVariables false
namespace Go.Proofs.LedWords
open Go.RowKit Go.Proofs.LedPage

set_option maxHeartbeats 1000000 in
set_option maxRecDepth 100000 in
theorem itoa0 (w : World) : Calls Tryz.prog 14 #[.int .i64 0] w fun e w' => e = .returned (.string ⟨#[48]⟩) ∧ w = w' := by
  go_enter Tryz.func14, Tryz.ntmps14
  go_wp2
  go_ret
  exact ⟨rfl, rfl⟩

set_option maxHeartbeats 1000000 in
set_option maxRecDepth 100000 in
theorem itoa1 (w : World) : Calls Tryz.prog 14 #[.int .i64 1] w fun e w' => e = .returned (.string ⟨#[49]⟩) ∧ w = w' := by
  go_enter Tryz.func14, Tryz.ntmps14
  go_wp2
  go_ret
  exact ⟨rfl, rfl⟩

set_option maxHeartbeats 1000000 in
set_option maxRecDepth 100000 in
theorem itoa9 (w : World) : Calls Tryz.prog 14 #[.int .i64 9] w fun e w' => e = .returned (.string ⟨#[57]⟩) ∧ w = w' := by
  go_enter Tryz.func14, Tryz.ntmps14
  go_wp2
  go_ret
  exact ⟨rfl, rfl⟩

set_option maxHeartbeats 1000000 in
set_option maxRecDepth 100000 in
theorem point91 (w : World) : Calls Tryz.prog 37 #[.int .i64 9, .int .i64 1] w fun e w' => e = .returned (.string ⟨#[57, 46, 49]⟩) ∧ w = w' := by
  go_enter Tryz.func37, Tryz.ntmps37
  go_wp2_with fail
  refine (itoa9 _).mono ?_
  rintro e w' ⟨rfl, rfl⟩
  go_wp2_with fail
  refine (itoa1 _).mono ?_
  rintro e w' ⟨rfl, rfl⟩
  go_wp2
  go_ret
  exact ⟨rfl, rfl⟩

set_option maxHeartbeats 1000000 in
set_option maxRecDepth 100000 in
theorem pick2 (b : Nat) (s0 s1 s2 : ByteArray) (w : World) (h2 : w.cell? ⟨b, 2, none⟩ = some (.string s2)) :
    Calls Tryz.prog 20 #[.int .i64 2, .slice (some ⟨b, 0, none⟩) 3 3] w fun e w' => e = .returned (.string s2) ∧ w = w' := by
  go_enter Tryz.func20, Tryz.ntmps20
  go_wp2
  go_ret
  exact ⟨rfl, rfl⟩

set_option maxHeartbeats 1000000 in
set_option maxRecDepth 100000 in
theorem name911 (w : World) :
    Calls Tryz.prog 19 #[.agg #[.int .u8 9, .int .u16 1, .int .u32 1, .int .u8 0, .int .u8 0, .int .u8 0, .int .u8 0, .int .u8 0, .int .u8 0, .int .u8 0]] w
      fun e w' => e = .returned (.string ⟨#[57, 46, 49, 47, 49]⟩) ∧ Below w.heap.size w w' := by
  go_enter Tryz.func19, Tryz.ntmps19
  go_wp2_with fail
  go_region_held3 (fun w' => w'.cell? ⟨w.heap.size, 0, none⟩ = some (.int .u8 9) ∧ w'.cell? ⟨w.heap.size, 1, none⟩ = some (.int .u16 1) ∧ w'.cell? ⟨w.heap.size, 2, none⟩ = some (.int .u32 1))
    (go_keep)
    (first
      | (go_at_call 37; refine (point91 _).mono ?_; rintro e w' ⟨rfl, rfl⟩)
      | (go_at_call 14; refine (itoa1 _).mono ?_; rintro e w' ⟨rfl, rfl⟩))
  have hmin : min (0 : Int) 3 = 0 := by decide
  go_wp2_with fail
  have hcells : ∀ (W : World) (x y : ByteArray) (cs : Array Value), ∀ (j : Nat) (z : ByteArray), [x, y][j]? = some z → ((w.alloc (.cells cs 71)).alloc (.cells #[.string x, .string y] 9)).drew.cell? ⟨w.heap.size + 1, 0 + j, none⟩ = some (.string z) := by
    intro W x y cs j z h
    have hb : ((w.alloc (.cells cs 71)).alloc (.cells #[.string x, .string y] 9)).heap[w.heap.size + 1]? = some (.cells #[.string x, .string y] 9 (0, 0)) := by
      have := (MapKept.heap_alloc (w.alloc (.cells cs 71)) (.cells #[.string x, .string y] 9)).1
      rwa [World.size_alloc] at this
    have hb' : ((w.alloc (.cells cs 71)).alloc (.cells #[.string x, .string y] 9)).drew.heap[w.heap.size + 1]? = some (.cells #[.string x, .string y] 9 (0, 0)) := hb
    rw [Lib.cell_of_heap hb']
    match j, h with
    | 0, h => simp at h; subst h; rfl
    | 1, h => simp at h; subst h; rfl
    | j + 2, h => simp at h
  go_loop [3, 27] (fun l i => l = .slice (some ⟨w.heap.size + 1, 0, none⟩) 2 2 ∧ i = .int .i64 0) (fun _ _ => 0)
  case atStart => exact ⟨rfl, rfl⟩
  case round =>
    obtain ⟨rfl, rfl⟩ := hrel
    go_wp2_with fail
    refine (Tryz.strings_Join (w.heap.size + 1) 0 2 [⟨#[57, 46, 49]⟩, ⟨#[49]⟩] ⟨#[47]⟩ _ (hcells w _ _ _) (by simp) (by decide) (by decide) (by decide)).mono ?_
    rintro e w1 ⟨rfl, hb1⟩
    go_wp2
    go_ret
    exact ⟨rfl, (((Below.refl _ _).alloc (Nat.le_refl _) _).alloc (by simp) _).drew.trans (hb1.mono (by simp; omega))⟩

theorem grown_below {w w1 : World} (h : Below w.heap.size w w1) (row : Option Nat) : w.grownBy w1 row := ⟨h.os, h.tape, h.output, h.size, fun i hi _ => h.block i hi⟩

theorem at_below {T e : TypeId} {B b : Nat} {p : Value} {bs : List Value} {w w1 : World} (h : Lib.BuilderAt T e B b p bs w) (hb : Below w.heap.size w w1) : Lib.BuilderAt T e B b p bs w1 := by
  have hlt := h.lt
  obtain ⟨hB, v, hbk, hown, hne⟩ := h
  exact ⟨hB, v, (hb.block b hlt).trans hbk, hown.kept (grown_below hb none) (by cases v.ownBlock <;> simp), hne⟩

theorem is_below {T e : TypeId} {B b : Nat} {bs : List Value} {w w1 : World} (h : Lib.IsBuilder T e B b bs w) (hb : Below w.heap.size w w1) : Lib.IsBuilder T e B b bs w1 :=
  h.imp (fun x => at_below x hb) (fun x => at_below x hb)

set_option maxHeartbeats 1000000 in
set_option maxRecDepth 100000 in
theorem line_any (B b : Nat) (bs : List Value) (bk o c : Nat) (xs : List ByteArray) (w : World) (h : Lib.IsBuilder 80 5 B b bs w) (hBw : B ≤ w.heap.size)
    (hcells : ∀ (j : Nat) x, xs[j]? = some x → w.cell? ⟨bk, o + j, none⟩ = some (.string x)) (hbk : bk < w.heap.size) (hN : xs.length ≤ 140737488355328) (hcap : xs.length ≤ c)
    (hlen : bs.length + (Lib.join (xs.map (·.data.toList)) [32]).length + 1 ≤ 140737488355328) :
    Calls Tryz.prog 13 #[.pointer (some ⟨b, 0, none⟩), .slice (some ⟨bk, o, none⟩) xs.length c] w fun e w' => e = .returned (.tuple #[]) ∧
      (Lib.BuilderAt 80 5 B b (.pointer (some ⟨b, 0, none⟩)) (bs ++ Lib.strCells ⟨(Lib.join (xs.map (·.data.toList)) [32]).toArray⟩ ++ [.int .u8 10]) w' ∧ Below B w w') := by
  have H := Lib.hid h; clear h
  have HC := Lib.hid hcells; clear hcells
  go_enter Tryz.func13, Tryz.ntmps13
  go_wp2_with fail
  have hs : (⟨(Lib.join (xs.map (·.data.toList)) [32]).toArray⟩ : ByteArray).size = (Lib.join (xs.map (·.data.toList)) [32]).length := by simp [ByteArray.size]
  have HS := Lib.hid hs; clear hs
  go_region_with (first
    | (go_at_call 45; refine (Tryz.strings_Join bk o c xs ⟨#[32]⟩ _ (by exact HC.out) (by exact hbk) hN hcap (by show (Lib.join _ [32]).length ≤ _; omega)).mono ?_; rintro e w1 ⟨rfl, hb1⟩; have hB1 : Lib.IsBuilder 80 5 B b bs w1 := is_below (w := w.drew) H.out hb1; have hz1 : B ≤ w1.heap.size := Nat.le_trans hBw hb1.size; have HB1 := Lib.hid hB1; clear hB1)
    | (go_at_call 44; refine (pg_WriteString B b bs _ _ HB1.out (by rw [HS.out]; omega) hz1).mono ?_; rintro e w2 ⟨rfl, hB2, hb2⟩; have HB2 := Lib.hid hB2; clear hB2))
  go_wp2_with fail
  refine (pg_WriteByte B b _ 10 _ (.inr HB2.out) (by rw [List.length_append, Lib.strCells_length, HS.out]; omega) (Nat.le_trans hz1 hb2.size)).mono ?_
  rintro e w3 ⟨rfl, hB3, hb3⟩
  go_wp2
  go_end0
  exact ⟨rfl, hB3, ((Below.refl B w).drew.trans (hb1.mono (by simpa using hBw))).trans (hb2.trans hb3)⟩

end Go.Proofs.LedWords
