/-
  DERIVED. What an annal tells that has noted the first call.
-/
import Derived.Test.YtpbpeieakbjolaaGreatDoorBegin
set_option linter.unusedVariables false
namespace Go.Proofs.LedTells
open Go.RowKit Go.Proofs.LedPage Go.Proofs.LedNote Go.Proofs.LedBegin

/-- A row that holds the first call alone. -/
def RowOut (w : World) (l : Value) (wr : World) : Prop := ∃ g cap, l = .slice (some ⟨g, 0, none⟩) 1 cap ∧ wr.ownsRow w.heap.size 99 14 (.slice (some ⟨g, 0, none⟩) 1 cap) 1 [.int .u8 9, .int .u16 1, .int .u32 1, .int .u8 0, .int .u8 0, .int .u8 0, .int .u8 0, .int .u8 0, .int .u8 0, .int .u8 0, .int .u8 0, .int .i64 2, .int .i64 0, .slice none 0 0] ∧ Below w.heap.size w wr

theorem row_cell {w : World} {base g n cap : Nat} {e : TypeId} {s : Nat} {xs : List Value} (h : w.ownsRow base e s (.slice (some ⟨g, 0, none⟩) n cap) n xs) (j : Nat) (v : Value) (hv : xs[j]? = some v) : w.cell? ⟨g, j, none⟩ = some v := by
  have := h.cells (g := g) rfl j v hv
  have ha : (⟨g, 0, none⟩ : Addr).add j = ⟨g, j, none⟩ := by unfold Addr.add; split <;> simp_all
  rwa [ha] at this

set_option maxHeartbeats 4000000 in
set_option maxRecDepth 100000 in
theorem begins_one (ab g cap base : Nat) (w : World) (c13 : w.cell? ⟨ab, 13, none⟩ = some (.bool true)) (c1 : w.cell? ⟨ab, 1, none⟩ = some (.slice (some ⟨g, 0, none⟩) 1 cap))
    (hown : w.ownsRow base 99 14 (.slice (some ⟨g, 0, none⟩) 1 cap) 1 [.int .u8 9, .int .u16 1, .int .u32 1, .int .u8 0, .int .u8 0, .int .u8 0, .int .u8 0, .int .u8 0, .int .u8 0, .int .u8 0, .int .u8 0, .int .i64 2, .int .i64 0, .slice none 0 0]) :
    Calls Tryz.prog 18 #[.pointer (some ⟨ab, 0, none⟩)] w fun e w' => ∃ l, e = .returned l ∧ RowOut w l w' := by
  have e0 : w.cell? ⟨g, 0, none⟩ = some (.int .u8 9) := row_cell hown 0 (.int .u8 9) rfl
  have e1 : w.cell? ⟨g, 1, none⟩ = some (.int .u16 1) := row_cell hown 1 (.int .u16 1) rfl
  have e2 : w.cell? ⟨g, 2, none⟩ = some (.int .u32 1) := row_cell hown 2 (.int .u32 1) rfl
  have e3 : w.cell? ⟨g, 3, none⟩ = some (.int .u8 0) := row_cell hown 3 (.int .u8 0) rfl
  have e4 : w.cell? ⟨g, 4, none⟩ = some (.int .u8 0) := row_cell hown 4 (.int .u8 0) rfl
  have e5 : w.cell? ⟨g, 5, none⟩ = some (.int .u8 0) := row_cell hown 5 (.int .u8 0) rfl
  have e6 : w.cell? ⟨g, 6, none⟩ = some (.int .u8 0) := row_cell hown 6 (.int .u8 0) rfl
  have e7 : w.cell? ⟨g, 7, none⟩ = some (.int .u8 0) := row_cell hown 7 (.int .u8 0) rfl
  have e8 : w.cell? ⟨g, 8, none⟩ = some (.int .u8 0) := row_cell hown 8 (.int .u8 0) rfl
  have e9 : w.cell? ⟨g, 9, none⟩ = some (.int .u8 0) := row_cell hown 9 (.int .u8 0) rfl
  have e10 : w.cell? ⟨g, 10, none⟩ = some (.int .u8 0) := row_cell hown 10 (.int .u8 0) rfl
  have e11 : w.cell? ⟨g, 11, none⟩ = some (.int .i64 2) := row_cell hown 11 (.int .i64 2) rfl
  have e12 : w.cell? ⟨g, 12, none⟩ = some (.int .i64 0) := row_cell hown 12 (.int .i64 0) rfl
  have e13 : w.cell? ⟨g, 13, none⟩ = some (.slice none 0 0) := row_cell hown 13 (.slice none 0 0) rfl
  obtain ⟨i0, hi0, hz0, hz1, hzb⟩ := info_parts info99
  go_enter Tryz.func18, Tryz.ntmps18
  go_wp2_with (go_at_call 42; refine (annal_made ab _ c13).mono ?_; rintro e w' ⟨rfl, rfl⟩)
  go_loopw [3, 14] (fun l i wr => (i = .int .i64 0 ∧ l = .slice none 0 0 ∧ wr = w) ∨ (i = .int .i64 1 ∧ RowOut w l wr)) (fun _ i _ => 1 - (intOf i).toNat)
  case atStart => exact .inl ⟨rfl, rfl, rfl⟩
  case round =>
    rcases hrel with ⟨rfl, rfl, rfl⟩ | ⟨rfl, hR⟩
    · have hown0 : wr.ownsRow wr.heap.size 99 14 (.slice none 0 0) 0 [] := ⟨by simp, .inl ⟨rfl, rfl⟩⟩
      go_wp2_with (first
        | (go_at_call 52; refine (clone_parts_nil _).mono ?_; rintro e w' ⟨rfl, rfl⟩)
        | (at_builtin; refine wpList_append_own _ rfl _ _ 48 rfl wr.heap.size 99 i0 _ 14 64 Tryz.underlying48 hi0 hz0 hz1 hzb rfl (by decide) _ _ _ rfl ((hown0.alloc _).alloc _) ⟨wr.heap.size + 1, 0, none⟩ 1 1 [.int .u8 9, .int .u16 1, .int .u32 1, .int .u8 0, .int .u8 0, .int .u8 0, .int .u8 0, .int .u8 0, .int .u8 0, .int .u8 0, .int .u8 0, .int .i64 2, .int .i64 0, .slice none 0 0] rfl rfl ?c1 ?c2 ?c3 ?c4 ?c5 ?_))
      case c1 =>
        have h := (MapKept.heap_alloc (wr.alloc (.cells #[.int .u8 9, .int .u16 1, .int .u32 1, .int .u8 0, .int .u8 0, .int .u8 0, .int .u8 0, .int .u8 0, .int .u8 0, .int .u8 0, .int .u8 0, .int .i64 2, .int .i64 0, .slice none 0 0] 99)) (.cells #[.int .u8 9, .int .u16 1, .int .u32 1, .int .u8 0, .int .u8 0, .int .u8 0, .int .u8 0, .int .u8 0, .int .u8 0, .int .u8 0, .int .u8 0, .int .i64 2, .int .i64 0, .slice none 0 0] 99)).1
        rw [World.size_alloc] at h
        exact World.news_of_block h
      case c2 => intro u hu; simp at hu; rcases hu with rfl | rfl | rfl | rfl | rfl | rfl | rfl <;> rfl
      case c3 => unfold maxLen; omega
      case c4 => omega
      case c5 => simp; omega
      intro v' w2 hown' hgrow _
      obtain ⟨g2, cap2, rfl, _, _⟩ := hown'.form (by omega)
      have hB : Below wr.heap.size wr w2 := (((Below.refl _ _).alloc (Nat.le_refl _) _).alloc (by simp) _).grown hgrow (by simp; omega) (fun k hk => by simp [Value.ownBlock] at hk)
      have HR : RowOut wr (.slice (some ⟨g2, 0, none⟩) 1 cap2) w2 := ⟨g2, cap2, rfl, hown', hB⟩
      have H := Lib.hid HR; clear HR hown' hgrow hB
      go_wp2
      go_roundw
      case rel => exact .inr ⟨by go_num, H.out⟩
      case measure => simp [intOf]
    · obtain ⟨g2, cap2, rfl, h2, h3⟩ := hR
      go_wp2
      go_ret
      exact ⟨_, rfl, g2, cap2, rfl, h2, h3⟩

set_option maxHeartbeats 1000000 in
set_option maxRecDepth 100000 in
theorem ends_no (ab : Nat) (w : World) (c13 : w.cell? ⟨ab, 13, none⟩ = some (.bool true)) (c3 : w.cell? ⟨ab, 3, none⟩ = some (.slice none 0 0)) :
    Calls Tryz.prog 17 #[.pointer (some ⟨ab, 0, none⟩)] w fun e w' => e = .returned (.slice none 0 0) ∧ w = w' := by
  go_enter Tryz.func17, Tryz.ntmps17
  go_wp2_with (first
    | (go_at_call 42; refine (annal_made ab _ c13).mono ?_; rintro e w' ⟨rfl, rfl⟩)
    | (go_at_call 51; refine (clone_ends_nil _).mono ?_; rintro e w' ⟨rfl, rfl⟩))
  go_ret
  exact ⟨rfl, rfl⟩

end Go.Proofs.LedTells
