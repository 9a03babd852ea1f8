/-
  DERIVED. The calls of an annal that has noted the first call, as text.
-/
import Derived.Test.YtpbpeieakbjolaaGreatDoorTells
import Derived.Test.YtpbpeieakbjolaaGreatDoorWords
import Derived.Deep.DeepCutAuto
set_option linter.unusedVariables false
namespace Go.Proofs.LedText
open Go.RowKit Go.Proofs.LedPage Go.Proofs.LedNote Go.Proofs.LedBegin Go.Proofs.LedTells Go.Proofs.LedWords

theorem check71t (W : World) : (Instr.checkKey true 10000 71 (.agg #[.int .u8 9, .int .u16 1, .int .u32 1, .int .u8 0, .int .u8 0, .int .u8 0, .int .u8 0, .int .u8 0, .int .u8 0, .int .u8 0])).run Tryz.prog W = .ok () W := by kernel_rfl
theorem look92 (W : World) (m : Nat) (hb : W.heap[m]? = some (.map #[] 0)) : (Instr.lookup 92 (.map (some m)) (.agg #[.int .u8 9, .int .u16 1, .int .u32 1, .int .u8 0, .int .u8 0, .int .u8 0, .int .u8 0, .int .u8 0, .int .u8 0, .int .u8 0]) true).run Tryz.prog W = .ok (.tuple #[.agg #[.int .u8 0, .int .u16 0, .int .u32 0, .int .u8 0, .int .u8 0, .int .u8 0, .int .u8 0, .int .u8 0, .int .u8 0, .int .u8 0, .int .u8 0, .int .i64 0, .int .i64 0, .int .i64 0, .int .i64 0, .int .u8 0, .string ⟨#[]⟩], .bool false]) W := by
  simp [Instr.lookup, run_underlying Tryz.underlying92, MapKept.run_getObj_map hb, check71t, find71, Result.andThen]

theorem bcell {W w1 : World} (hb : Below W.heap.size W w1) : (∀ b o, b < W.heap.size → w1.cell? ⟨b, o, none⟩ = W.cell? ⟨b, o, none⟩) ∧ (∀ b o, b < W.heap.size → w1.frozen? ⟨b, o, none⟩ = W.frozen? ⟨b, o, none⟩) :=
  ⟨fun b o h => hb.cell (p := ⟨b, o, none⟩) h, fun b o h => hb.frozen (p := ⟨b, o, none⟩) h⟩

theorem info9 : (Tryz.prog.info? 9).map (fun i => (i.zero, i.size, i.bytes)) = some (some (.string ⟨#[]⟩), 1, 16) := by kernel_rfl

/-- What stands behind the list of words: its row, its four texts. -/
def Four (w4 : World) (l : Value) (wr : World) : Prop := ∃ g, w4.heap.size ≤ g ∧ l = .slice (some ⟨g, 0, none⟩) 4 4 ∧ wr.heap[g]? = some (.cells #[.string ⟨#[99, 97, 108, 108]⟩, .string ⟨#[57, 46, 49, 47, 49]⟩, .string ⟨#[97, 108, 108]⟩, .string ⟨#[48]⟩] 9 (0, 0)) ∧ Below w4.heap.size w4 wr

set_option maxHeartbeats 8000000 in
set_option maxRecDepth 100000 in
theorem calls_one (ab g cap base : Nat) (w : World) (c13 : w.cell? ⟨ab, 13, none⟩ = some (.bool true)) (c1 : w.cell? ⟨ab, 1, none⟩ = some (.slice (some ⟨g, 0, none⟩) 1 cap)) (c3 : w.cell? ⟨ab, 3, none⟩ = some (.slice none 0 0))
    (hown : w.ownsRow base 99 14 (.slice (some ⟨g, 0, none⟩) 1 cap) 1 [.int .u8 9, .int .u16 1, .int .u32 1, .int .u8 0, .int .u8 0, .int .u8 0, .int .u8 0, .int .u8 0, .int .u8 0, .int .u8 0, .int .u8 0, .int .i64 2, .int .i64 0, .slice none 0 0]) :
    Calls Tryz.prog 5 #[.pointer (some ⟨ab, 0, none⟩)] w fun e w' => e = .returned (.string ⟨#[99, 97, 108, 108, 32, 57, 46, 49, 47, 49, 32, 97, 108, 108, 32, 48, 32, 111, 112, 101, 110, 10]⟩) ∧ Below w.heap.size w w' := by
  have hmm := @run_makeMap Tryz.prog
  have hz : ab < w.heap.size := World.block_lt_of_cell? w _ c13
  go_enter Tryz.func5, Tryz.ntmps5
  go_wp2_with (go_at_call 17; refine (ends_no ab _ (old1 c13 _) (old1 c3 _)).mono ?_; rintro e w' ⟨rfl, rfl⟩)
  go_loop [16] (fun i => i = .int .i64 0) (fun _ => 0)
  case atStart => rfl
  case round =>
    subst hrel
    go_wp2_with fail
    refine (begins_one ab g cap base _ (old1 (old1 c13 _) _) (old1 (old1 c1 _) _) ((hown.alloc _).alloc _)).mono ?_
    rintro e w3 ⟨l, rfl, g2, cap2, rfl, hown2, hb3⟩
    have hz3 : w.heap.size + 2 ≤ w3.heap.size := by have := hb3.size; simp at this; omega
    have hm3 : w3.heap[w.heap.size]? = some (.map #[] 0) := (hb3.block _ (by simp; omega)).trans (((MapKept.heap_alloc (w.alloc _) _).2 _ (by simp)).trans (MapKept.heap_alloc w _).1)
    have hp3 : w3.heap[w.heap.size + 1]? = some (.cells #[.pointer none, .slice none 0 0] 80 (0, 0)) := by
      have h := (MapKept.heap_alloc (w.alloc (.map #[] 0)) (.cells #[.pointer none, .slice none 0 0] 80)).1
      rw [World.size_alloc] at h
      exact (hb3.block _ (by simp)).trans h
    have hbel3 : Below w.heap.size w w3 := (((Below.refl _ _).alloc (Nat.le_refl _) _).alloc (by simp) _).trans (hb3.mono (by simp; omega))
    have e0 : w3.cell? ⟨g2, 0, none⟩ = some (.int .u8 9) := row_cell hown2 0 (.int .u8 9) rfl
    have e1 : w3.cell? ⟨g2, 1, none⟩ = some (.int .u16 1) := row_cell hown2 1 (.int .u16 1) rfl
    have e2 : w3.cell? ⟨g2, 2, none⟩ = some (.int .u32 1) := row_cell hown2 2 (.int .u32 1) rfl
    have e3 : w3.cell? ⟨g2, 3, none⟩ = some (.int .u8 0) := row_cell hown2 3 (.int .u8 0) rfl
    have e4 : w3.cell? ⟨g2, 4, none⟩ = some (.int .u8 0) := row_cell hown2 4 (.int .u8 0) rfl
    have e5 : w3.cell? ⟨g2, 5, none⟩ = some (.int .u8 0) := row_cell hown2 5 (.int .u8 0) rfl
    have e6 : w3.cell? ⟨g2, 6, none⟩ = some (.int .u8 0) := row_cell hown2 6 (.int .u8 0) rfl
    have e7 : w3.cell? ⟨g2, 7, none⟩ = some (.int .u8 0) := row_cell hown2 7 (.int .u8 0) rfl
    have e8 : w3.cell? ⟨g2, 8, none⟩ = some (.int .u8 0) := row_cell hown2 8 (.int .u8 0) rfl
    have e9 : w3.cell? ⟨g2, 9, none⟩ = some (.int .u8 0) := row_cell hown2 9 (.int .u8 0) rfl
    have e10 : w3.cell? ⟨g2, 10, none⟩ = some (.int .u8 0) := row_cell hown2 10 (.int .u8 0) rfl
    have e11 : w3.cell? ⟨g2, 11, none⟩ = some (.int .i64 2) := row_cell hown2 11 (.int .i64 2) rfl
    have e12 : w3.cell? ⟨g2, 12, none⟩ = some (.int .i64 0) := row_cell hown2 12 (.int .i64 0) rfl
    have e13 : w3.cell? ⟨g2, 13, none⟩ = some (.slice none 0 0) := row_cell hown2 13 (.slice none 0 0) rfl
    have HM := Lib.hid hm3; have HP := Lib.hid hp3; clear hm3 hp3
    go_wp2_with fail
    go_loopw [28] (fun i wr => (i = .int .i64 0 ∧ wr = w3) ∨ (i = .int .i64 1 ∧ Below w.heap.size w wr ∧ Lib.IsBuilder 80 5 w.heap.size (w.heap.size + 1) (Lib.byteCells [99, 97, 108, 108, 32, 57, 46, 49, 47, 49, 32, 97, 108, 108, 32, 48, 32, 111, 112, 101, 110, 10]) wr)) (fun i _ => 1 - (intOf i).toNat)
    case atStart => exact .inl ⟨rfl, rfl⟩
    case round =>
      rcases hrel with ⟨rfl, rfl⟩ | ⟨rfl, hbw, hB⟩
      · go_upto_region 11 with fail
        have hX0 : (wr.alloc (.cells #[.int .u8 9, .int .u16 1, .int .u32 1, .int .u8 0, .int .u8 0, .int .u8 0, .int .u8 0, .int .u8 0, .int .u8 0, .int .u8 0, .int .u8 0, .int .i64 2, .int .i64 0, .slice none 0 0] 99)).heap[wr.heap.size]? = some (.cells #[.int .u8 9, .int .u16 1, .int .u32 1, .int .u8 0, .int .u8 0, .int .u8 0, .int .u8 0, .int .u8 0, .int .u8 0, .int .u8 0, .int .u8 0, .int .i64 2, .int .i64 0, .slice none 0 0] 99 (0, 0)) := (MapKept.heap_alloc wr _).1
        have HX0 := Lib.hid hX0; clear hX0
        go_cut [9] (fun l wx => Four (wr.alloc (.cells #[.int .u8 9, .int .u16 1, .int .u32 1, .int .u8 0, .int .u8 0, .int .u8 0, .int .u8 0, .int .u8 0, .int .u8 0, .int .u8 0, .int .u8 0, .int .i64 2, .int .i64 0, .slice none 0 0] 99)) l wx)
        case first =>
          go_region_held3 (fun w' => w'.cell? ⟨wr.heap.size, 0, none⟩ = some (.int .u8 9) ∧ w'.cell? ⟨wr.heap.size, 1, none⟩ = some (.int .u16 1) ∧ w'.cell? ⟨wr.heap.size, 2, none⟩ = some (.int .u32 1) ∧ w'.cell? ⟨wr.heap.size, 3, none⟩ = some (.int .u8 0) ∧ w'.cell? ⟨wr.heap.size, 4, none⟩ = some (.int .u8 0) ∧ w'.cell? ⟨wr.heap.size, 5, none⟩ = some (.int .u8 0) ∧ w'.cell? ⟨wr.heap.size, 6, none⟩ = some (.int .u8 0) ∧ w'.cell? ⟨wr.heap.size, 7, none⟩ = some (.int .u8 0) ∧ w'.cell? ⟨wr.heap.size, 8, none⟩ = some (.int .u8 0) ∧ w'.cell? ⟨wr.heap.size, 9, none⟩ = some (.int .u8 0) ∧ w'.cell? ⟨wr.heap.size, 11, none⟩ = some (.int .i64 2) ∧ w'.cell? ⟨wr.heap.size, 12, none⟩ = some (.int .i64 0))
            (first
              | ((refine ⟨?_, ?_, ?_, ?_, ?_, ?_, ?_, ?_, ?_, ?_, ?_, ?_⟩ <;> (rw [Lib.cell_of_heap HX.out]; rfl)))
              | go_keep)
            (first
              | (go_at_call 19; refine (name911 _).mono ?_; rintro e w5 ⟨rfl, hb5⟩; obtain ⟨hc5, hf5⟩ := bcell hb5; have hX : w5.heap[wr.heap.size]? = some (.cells #[.int .u8 9, .int .u16 1, .int .u32 1, .int .u8 0, .int .u8 0, .int .u8 0, .int .u8 0, .int .u8 0, .int .u8 0, .int .u8 0, .int .u8 0, .int .i64 2, .int .i64 0, .slice none 0 0] 99 (0, 0)) := (hb5.block _ (by simp; try omega)).trans (by first | exact HX0.out | exact ((MapKept.heap_alloc _ _).2 _ (by simp)).trans HX0.out); have HX := Lib.hid hX; clear hX)
              | (go_at_call 20; refine (pick2 _ ⟨#[102, 105, 114, 115, 116]⟩ ⟨#[109, 97, 106, 111, 114, 105, 116, 121]⟩ ⟨#[97, 108, 108]⟩ _ (by go_simp)).mono ?_; rintro e w' ⟨rfl, rfl⟩)
              | (go_at_call 14; refine (itoa0 _).mono ?_; rintro e w' ⟨rfl, rfl⟩))
          all_goals go_wp2_with fail
          all_goals go_meet
          focus
            refine ⟨w5.heap.size + 1, by have := hb5.size; simp at this; simp; omega, rfl, ?_, ?_⟩
            · have h := (MapKept.heap_alloc (w5.alloc (.cells #[.string ⟨#[102, 105, 114, 115, 116]⟩, .string ⟨#[109, 97, 106, 111, 114, 105, 116, 121]⟩, .string ⟨#[97, 108, 108]⟩] 9)) (.cells #[.string ⟨#[99, 97, 108, 108]⟩, .string ⟨#[57, 46, 49, 47, 49]⟩, .string ⟨#[97, 108, 108]⟩, .string ⟨#[48]⟩] 9)).1
              rw [World.size_alloc] at h
              exact h
            · have hs := hb5.size
              simp at hs
              exact ((((Below.refl _ _).drew).trans (hb5.mono (by simp))).alloc (by simp; omega) _).alloc (by simp; omega) _
          focus
            refine ⟨w5.heap.size, by have := hb5.size; simp at this; simp; omega, rfl, (MapKept.heap_alloc w5 _).1, ?_⟩
            have hs := hb5.size
            simp at hs
            exact ((((Below.refl _ _).alloc (Nat.le_refl _) _).drew).trans (hb5.mono (by simp))).alloc (by simp; omega) _
        case rest =>
          obtain ⟨gl, hgl, rfl, hl4, hb4⟩ := hcut
          have hbc : Below w.heap.size w wc := (hbel3.alloc (by omega) _).trans (hb4.mono (by simp; omega))
          have hx : wc.heap[wr.heap.size]? = some (.cells #[.int .u8 9, .int .u16 1, .int .u32 1, .int .u8 0, .int .u8 0, .int .u8 0, .int .u8 0, .int .u8 0, .int .u8 0, .int .u8 0, .int .u8 0, .int .i64 2, .int .i64 0, .slice none 0 0] 99 (0, 0)) := (hb4.block _ (by simp)).trans HX0.out
          have hm : wc.heap[w.heap.size]? = some (.map #[] 0) := (hb4.block _ (by simp; omega)).trans (((MapKept.heap_alloc wr _).2 _ (by omega)).trans HM.out)
          have hp : wc.heap[w.heap.size + 1]? = some (.cells #[.pointer none, .slice none 0 0] 80 (0, 0)) := (hb4.block _ (by simp; omega)).trans (((MapKept.heap_alloc wr _).2 _ (by omega)).trans HP.out)
          have hz4 : wr.heap.size + 1 ≤ wc.heap.size := by have := hb4.size; simpa using this
          have hglt : gl < wc.heap.size := by
            rcases Nat.lt_or_ge gl wc.heap.size with h | h
            · exact h
            · simp [Array.getElem?_eq_none h] at hl4
          have hgl' : wr.heap.size + 1 ≤ gl := by simpa using hgl
          have hrow : wc.ownsRow wr.heap.size 9 1 (.slice (some ⟨gl, 0, none⟩) 4 4) 4 [.string ⟨#[99, 97, 108, 108]⟩, .string ⟨#[57, 46, 49, 47, 49]⟩, .string ⟨#[97, 108, 108]⟩, .string ⟨#[48]⟩] := ⟨rfl, .inr ⟨gl, 4, _, rfl, by simp at hgl; omega, hl4, Nat.le_refl _, by unfold maxLen; omega, rfl, rfl⟩⟩
          have hlk := look92 wc w.heap.size hm
          have q0 : wc.cell? ⟨wr.heap.size, 0, none⟩ = some (.int .u8 9) := by rw [Lib.cell_of_heap hx]; rfl
          have q1 : wc.cell? ⟨wr.heap.size, 1, none⟩ = some (.int .u16 1) := by rw [Lib.cell_of_heap hx]; rfl
          have q2 : wc.cell? ⟨wr.heap.size, 2, none⟩ = some (.int .u32 1) := by rw [Lib.cell_of_heap hx]; rfl
          have q3 : wc.cell? ⟨wr.heap.size, 3, none⟩ = some (.int .u8 0) := by rw [Lib.cell_of_heap hx]; rfl
          have q4 : wc.cell? ⟨wr.heap.size, 4, none⟩ = some (.int .u8 0) := by rw [Lib.cell_of_heap hx]; rfl
          have q5 : wc.cell? ⟨wr.heap.size, 5, none⟩ = some (.int .u8 0) := by rw [Lib.cell_of_heap hx]; rfl
          have q6 : wc.cell? ⟨wr.heap.size, 6, none⟩ = some (.int .u8 0) := by rw [Lib.cell_of_heap hx]; rfl
          have q7 : wc.cell? ⟨wr.heap.size, 7, none⟩ = some (.int .u8 0) := by rw [Lib.cell_of_heap hx]; rfl
          have q8 : wc.cell? ⟨wr.heap.size, 8, none⟩ = some (.int .u8 0) := by rw [Lib.cell_of_heap hx]; rfl
          have q9 : wc.cell? ⟨wr.heap.size, 9, none⟩ = some (.int .u8 0) := by rw [Lib.cell_of_heap hx]; rfl
          have HR := Lib.hid hrow; have HPc := Lib.hid hp; clear hx hm hp hrow hl4 hgl e0 e1 e2 e3 e4 e5 e6 e7 e8 e9 e10 e11 e12 e13
          obtain ⟨i9, hi9, hy0, hy1, hy2⟩ := info_parts info9
          go_wp2_with (at_builtin; refine wpList_append_own _ rfl _ _ 102 rfl wr.heap.size 9 i9 (.string ⟨#[]⟩) 1 16 Tryz.underlying102 hi9 hy0 hy1 hy2 rfl (by decide) _ _ _ rfl ((HR.out.alloc _).alloc _) ⟨wc.heap.size + 1, 0, none⟩ 1 1 [.string ⟨#[111, 112, 101, 110]⟩] rfl rfl ?c1 ?c2 ?c3 ?c4 ?c5 ?_)
          case c1 =>
            have h := (MapKept.heap_alloc (wc.alloc (.cells #[.int .u8 0, .int .u16 0, .int .u32 0, .int .u8 0, .int .u8 0, .int .u8 0, .int .u8 0, .int .u8 0, .int .u8 0, .int .u8 0, .int .u8 0, .int .i64 0, .int .i64 0, .int .i64 0, .int .i64 0, .int .u8 0, .string ⟨#[]⟩] 96)) (.cells #[.string ⟨#[111, 112, 101, 110]⟩] 9)).1
            rw [World.size_alloc] at h
            exact World.news_of_block h
          case c2 => intro u hu; simp at hu; subst hu; rfl
          case c3 => unfold maxLen; omega
          case c4 => omega
          case c5 => simp; omega
          intro v' w6 hown6 hgrow6 _
          obtain ⟨g5, cap5, rfl, hg5, _⟩ := hown6.form (by omega)
          have hcap5 : 5 ≤ cap5 := by
            rcases hown6.2 with ⟨h, _⟩ | ⟨_, _, _, h, _, _, h2, _⟩
            · cases h
            · simp at h; omega
          have hlt5 : g5 < w6.heap.size := by
            rcases hown6.2 with ⟨h, _⟩ | ⟨_, _, _, h, _, h2, _⟩
            · cases h
            · simp at h
              rw [h.1]
              exact (Array.getElem?_eq_some_iff.1 h2).1
          have hz6 := hgrow6.size
          simp at hz6
          have hp6 : w6.heap[w.heap.size + 1]? = some (.cells #[.pointer none, .slice none 0 0] 80 (0, 0)) :=
            (hgrow6.block _ (by simp; omega) (by simp [Value.ownBlock]; omega)).trans (((MapKept.heap_alloc (wc.alloc _) _).2 _ (by simp; omega)).trans (((MapKept.heap_alloc wc _).2 _ (by omega)).trans HPc.out))
          have hb6 : Below w.heap.size w w6 := ((hbc.alloc (by omega) _).alloc (by simp; omega) _).grown hgrow6 (by simp; omega) (fun k hk => by simp [Value.ownBlock] at hk; omega)
          have hB6 : Lib.IsBuilder 80 5 w.heap.size (w.heap.size + 1) [] w6 := .inl ⟨by omega, _, hp6, ⟨rfl, .inl ⟨rfl, rfl⟩⟩, by simp [Value.ownBlock]⟩
          have hcells : ∀ (j : Nat) (x : ByteArray), ([⟨#[99, 97, 108, 108]⟩, ⟨#[57, 46, 49, 47, 49]⟩, ⟨#[97, 108, 108]⟩, ⟨#[48]⟩, ⟨#[111, 112, 101, 110]⟩] : List ByteArray)[j]? = some x → w6.cell? ⟨g5, 0 + j, none⟩ = some (.string x) := fun j x h => by
            rw [Nat.zero_add]
            refine row_cell hown6 j (.string x) ?_
            match j, h with
            | 0, h => simp at h; subst h; rfl
            | 1, h => simp at h; subst h; rfl
            | 2, h => simp at h; subst h; rfl
            | 3, h => simp at h; subst h; rfl
            | 4, h => simp at h; subst h; rfl
            | j + 5, h => simp at h
          have HC := Lib.hid hcells; have HB := Lib.hid hB6; clear hcells hB6 hp6 hown6 hgrow6 hlk
          go_wp2_with fail
          refine (line_any w.heap.size (w.heap.size + 1) [] g5 0 cap5 [⟨#[99, 97, 108, 108]⟩, ⟨#[57, 46, 49, 47, 49]⟩, ⟨#[97, 108, 108]⟩, ⟨#[48]⟩, ⟨#[111, 112, 101, 110]⟩] _ HB.out (by omega) HC.out hlt5 (by simp) (by simpa using hcap5) (by decide)).mono ?_
          rintro e w7 ⟨rfl, hB7, hb7⟩
          have hB8 : Lib.IsBuilder 80 5 w.heap.size (w.heap.size + 1) (Lib.byteCells [99, 97, 108, 108, 32, 57, 46, 49, 47, 49, 32, 97, 108, 108, 32, 48, 32, 111, 112, 101, 110, 10]) w7 := .inr hB7
          have H8 := Lib.hid hB8; clear hB7 hB8
          have hb8 := hb6.trans hb7
          go_wp2
          go_roundw
          case rel => exact .inr ⟨rfl, hb8, H8.out⟩
          case measure => simp [intOf]
      · have H := Lib.hid hB; clear hB
        go_wp2_with fail
        refine (pg_String w.heap.size (w.heap.size + 1) [99, 97, 108, 108, 32, 57, 46, 49, 47, 49, 32, 97, 108, 108, 32, 48, 32, 111, 112, 101, 110, 10] _ H.out (by decide)).mono ?_
        rintro e w9 ⟨rfl, hb9⟩
        go_wp2
        go_ret
        exact ⟨rfl, hbw.trans hb9⟩

end Go.Proofs.LedText
