/-
  DERIVED. The calls of ledger's functions at nil, and at zero objects: each tells the empty text.
-/
import Derived.Test.YtpbpeieakbjolaaGreatDoorPage
set_option linter.unusedVariables false
namespace Go.Proofs.LedNil
open Go.RowKit Go.Proofs.LedPage

theorem below_alloc' (w : World) (o : Obj) : Below w.heap.size w (w.alloc o) := (Below.refl _ _).alloc (Nat.le_refl _) o

set_option maxHeartbeats 1000000 in
set_option maxRecDepth 100000 in
theorem order_nil (g : Int) (w : World) :
    Calls Tryz.prog 12 #[.pointer none, .int .u8 g] w fun e w' => e = .returned (.slice none 0 0) ∧ w = w' := by
  go_enter Tryz.func12, Tryz.ntmps12
  go_wp2
  go_ret
  exact ⟨rfl, rfl⟩

set_option maxHeartbeats 1000000 in
set_option maxRecDepth 100000 in
theorem orders_nil (w : World) :
    Calls Tryz.prog 4 #[.pointer none] w fun e w' => e = .returned (.string ⟨#[]⟩) ∧ Below w.heap.size w w' := by
  go_enter Tryz.func4, Tryz.ntmps4
  go_wp2_with fail
  go_loop [8] (fun i => ∃ k : Nat, k ≤ 4 ∧ i = .int .u8 k) (fun i => 4 - (intOf i).toNat)
  case atStart => exact ⟨0, by omega, rfl⟩
  case round =>
    obtain ⟨k, hk, rfl⟩ := hrel
    by_cases hlt : k < 4
    · go_wp2_with (go_at_call 12; refine (order_nil _ _).mono ?_; rintro e w' ⟨rfl, rfl⟩)
      go_loop [24] (fun i => i = .int .i64 0) (fun _ => 0)
      case atStart => rfl
      case round =>
        subst hrel
        go_wp2
        go_round
        case rel => exact ⟨k + 1, by omega, by go_num⟩
        case measure => simp [intOf]; omega
    · obtain rfl : k = 4 := by omega
      go_wp2_with (go_at_call 16; refine (pg_String_nil w.heap.size w.heap.size (.pointer none) _ (MapKept.heap_alloc w _).1).mono ?_; rintro e w1 ⟨rfl, hb1⟩)
      go_ret
      exact ⟨rfl, ((Below.refl _ _).alloc (Nat.le_refl _) _).trans hb1⟩

/-- An annal that there is not, or that nobody made. -/
def NoAnnal (p : Option Addr) (w : World) : Prop := p = none ∨ ∃ b, p = some ⟨b, 0, none⟩ ∧ w.cell? ⟨b, 13, none⟩ = some (.bool false)

set_option maxHeartbeats 1000000 in
set_option maxRecDepth 100000 in
theorem annal_none (p : Option Addr) (w : World) (h : NoAnnal p w) :
    Calls Tryz.prog 42 #[.pointer p] w fun e w' => e = .returned (.bool true) ∧ w = w' := by
  rcases h with rfl | ⟨b, rfl, hc⟩
  · go_enter Tryz.func42, Tryz.ntmps42
    go_wp2
    go_ret
    exact ⟨rfl, rfl⟩
  · go_enter Tryz.func42, Tryz.ntmps42
    go_wp2
    go_ret
    exact ⟨rfl, rfl⟩

set_option maxHeartbeats 1000000 in
set_option maxRecDepth 100000 in
theorem ends_none (p : Option Addr) (w : World) (h : NoAnnal p w) :
    Calls Tryz.prog 17 #[.pointer p] w fun e w' => e = .returned (.slice none 0 0) ∧ w = w' := by
  go_enter Tryz.func17, Tryz.ntmps17
  go_wp2_with (go_at_call 42; refine (annal_none _ _ h).mono ?_; rintro e w' ⟨rfl, rfl⟩)
  go_ret
  exact ⟨rfl, rfl⟩

set_option maxHeartbeats 1000000 in
set_option maxRecDepth 100000 in
theorem begins_none (p : Option Addr) (w : World) (h : NoAnnal p w) :
    Calls Tryz.prog 18 #[.pointer p] w fun e w' => e = .returned (.slice none 0 0) ∧ w = w' := by
  go_enter Tryz.func18, Tryz.ntmps18
  go_wp2_with (go_at_call 42; refine (annal_none _ _ h).mono ?_; rintro e w' ⟨rfl, rfl⟩)
  go_ret
  exact ⟨rfl, rfl⟩

theorem NoAnnal.alloc {p : Option Addr} {w : World} (h : NoAnnal p w) (o : Obj) : NoAnnal p (w.alloc o) := by
  rcases h with rfl | ⟨b, rfl, hc⟩
  · exact .inl rfl
  · refine .inr ⟨b, rfl, ?_⟩
    have hb : b < w.heap.size := World.block_lt_of_cell? w _ hc
    rw [← hc]
    exact (below_alloc' w o).cell (p := ⟨b, 13, none⟩) hb

set_option maxHeartbeats 1000000 in
set_option maxRecDepth 100000 in
theorem calls_none (p : Option Addr) (w : World) (h : NoAnnal p w) :
    Calls Tryz.prog 5 #[.pointer p] w fun e w' => e = .returned (.string ⟨#[]⟩) ∧ Below w.heap.size w w' := by
  have hmm := @run_makeMap Tryz.prog
  have h1 := h.alloc (.map #[] 0)
  go_enter Tryz.func5, Tryz.ntmps5
  go_wp2_with (go_at_call 17; refine (ends_none _ _ h1).mono ?_; rintro e w' ⟨rfl, rfl⟩)
  go_loop [16] (fun i => i = .int .i64 0) (fun _ => 0)
  case atStart => rfl
  case round =>
    subst hrel
    go_wp2_with fail
    have h2 := h1.alloc (.cells #[.pointer none, .slice none 0 0] 80)
    go_wp2_with (go_at_call 18; refine (begins_none _ _ h2).mono ?_; rintro e w' ⟨rfl, rfl⟩)
    go_loop [28] (fun i => i = .int .i64 0) (fun _ => 0)
    case atStart => rfl
    case round =>
      subst hrel
      have hbk : ((w.alloc (.map #[] 0)).alloc (.cells #[.pointer none, .slice none 0 0] 80)).heap[w.heap.size + 1]? = some (.cells #[.pointer none, .slice none 0 0] 80 (0, 0)) := by
        have := (MapKept.heap_alloc (w.alloc (.map #[] 0)) (.cells #[.pointer none, .slice none 0 0] 80)).1
        rwa [World.size_alloc] at this
      go_wp2_with (go_at_call 16; refine (pg_String_nil (w.heap.size + 1) (w.heap.size + 1) (.pointer none) _ hbk).mono ?_; rintro e w1 ⟨rfl, hb1⟩)
      go_ret
      exact ⟨rfl, (((Below.refl _ _).alloc (Nat.le_refl _) _).alloc (by simp) _).trans (hb1.mono (by omega))⟩

set_option maxHeartbeats 1000000 in
set_option maxRecDepth 100000 in
theorem faults_nil (w : World) :
    Calls Tryz.prog 6 #[.slice none 0 0] w fun e w' => e = .returned (.string ⟨#[]⟩) ∧ Below w.heap.size w w' := by
  go_enter Tryz.func6, Tryz.ntmps6
  go_wp2_with fail
  go_loop [8] (fun i => i = .int .i64 0) (fun _ => 0)
  case atStart => rfl
  case round =>
    subst hrel
    go_wp2_with (go_at_call 16; refine (pg_String_nil w.heap.size w.heap.size (.pointer none) _ (MapKept.heap_alloc w _).1).mono ?_; rintro e w1 ⟨rfl, hb1⟩)
    go_ret
    exact ⟨rfl, ((Below.refl _ _).alloc (Nat.le_refl _) _).trans hb1⟩

/-- A system that there is not, or that nobody made (offset 90: the place of its annal). -/
def NoWorld (p : Option Addr) (w : World) : Prop := p = none ∨ ∃ b, p = some ⟨b, 0, none⟩ ∧ w.cell? ⟨b, 90, none⟩ = some (.pointer none)

set_option maxHeartbeats 1000000 in
set_option maxRecDepth 100000 in
theorem world_none (p : Option Addr) (w : World) (h : NoWorld p w) :
    Calls Tryz.prog 53 #[.pointer p] w fun e w' => e = .returned (.bool true) ∧ w = w' := by
  rcases h with rfl | ⟨b, rfl, hc⟩
  · go_enter Tryz.func53, Tryz.ntmps53
    go_wp2
    go_ret
    exact ⟨rfl, rfl⟩
  · go_enter Tryz.func53, Tryz.ntmps53
    go_wp2
    go_ret
    exact ⟨rfl, rfl⟩

set_option maxHeartbeats 1000000 in
set_option maxRecDepth 100000 in
theorem size_none (p : Option Addr) (w : World) (h : NoWorld p w) :
    Calls Tryz.prog 23 #[.pointer p] w fun e w' => e = .returned (.int .i64 0) ∧ w = w' := by
  go_enter Tryz.func23, Tryz.ntmps23
  go_wp2_with (go_at_call 53; refine (world_none _ _ h).mono ?_; rintro e w' ⟨rfl, rfl⟩)
  go_ret
  exact ⟨rfl, rfl⟩

set_option maxHeartbeats 1000000 in
set_option maxRecDepth 100000 in
theorem len_none (p : Option Addr) (w : World) (h : NoWorld p w) :
    Calls Tryz.prog 34 #[.pointer p] w fun e w' => e = .returned (.int .i64 0) ∧ w = w' := by
  go_enter Tryz.func34, Tryz.ntmps34
  go_wp2_with (go_at_call 53; refine (world_none _ _ h).mono ?_; rintro e w' ⟨rfl, rfl⟩)
  go_ret
  exact ⟨rfl, rfl⟩

theorem NoWorld.alloc {p : Option Addr} {w : World} (h : NoWorld p w) (o : Obj) : NoWorld p (w.alloc o) := by
  rcases h with rfl | ⟨b, rfl, hc⟩
  · exact .inl rfl
  · refine .inr ⟨b, rfl, ?_⟩
    have hb : b < w.heap.size := World.block_lt_of_cell? w _ hc
    rw [← hc]
    exact (below_alloc' w o).cell (p := ⟨b, 90, none⟩) hb

set_option maxHeartbeats 1000000 in
set_option maxRecDepth 100000 in
theorem nodes_none (p : Option Addr) (w : World) (h : NoWorld p w) :
    Calls Tryz.prog 7 #[.pointer p] w fun e w' => e = .returned (.string ⟨#[]⟩) ∧ Below w.heap.size w w' := by
  have h1 := h.alloc (.cells #[.pointer none, .slice none 0 0] 80)
  go_enter Tryz.func7, Tryz.ntmps7
  go_wp2_with (go_at_call 23; refine (size_none _ _ h1).mono ?_; rintro e w' ⟨rfl, rfl⟩)
  go_loop [11] (fun i => i = .int .i64 0) (fun _ => 0)
  case atStart => rfl
  case round =>
    subst hrel
    go_wp2_with (go_at_call 16; refine (pg_String_nil w.heap.size w.heap.size (.pointer none) _ (MapKept.heap_alloc w _).1).mono ?_; rintro e w1 ⟨rfl, hb1⟩)
    go_ret
    exact ⟨rfl, ((Below.refl _ _).alloc (Nat.le_refl _) _).trans hb1⟩

set_option maxHeartbeats 1000000 in
set_option maxRecDepth 100000 in
theorem flight_none (p : Option Addr) (w : World) (h : NoWorld p w) :
    Calls Tryz.prog 8 #[.pointer p] w fun e w' => e = .returned (.string ⟨#[]⟩) ∧ Below w.heap.size w w' := by
  have h1 := h.alloc (.cells #[.pointer none, .slice none 0 0] 80)
  go_enter Tryz.func8, Tryz.ntmps8
  go_wp2_with (go_at_call 34; refine (len_none _ _ h1).mono ?_; rintro e w' ⟨rfl, rfl⟩)
  go_loop [10] (fun i => i = .int .i64 0) (fun _ => 0)
  case atStart => rfl
  case round =>
    subst hrel
    go_wp2_with (go_at_call 16; refine (pg_String_nil w.heap.size w.heap.size (.pointer none) _ (MapKept.heap_alloc w _).1).mono ?_; rintro e w1 ⟨rfl, hb1⟩)
    go_ret
    exact ⟨rfl, ((Below.refl _ _).alloc (Nat.le_refl _) _).trans hb1⟩

end Go.Proofs.LedNil
