/-
  DERIVED. An annal that notes the first call: what it holds then.
-/
import Derived.Test.YtpbpeieakbjolaaGreatDoorPage
import Derived.Deep.RegionHeld3
import Derived.Deep.RegionLaw
import Derived.Deep.RegionLawGrows
import Derived.Deep.AppendLies
import Derived.Deep.QuietTactic
import Derived.BigQuiet
import Derived.BigRegion
import Derived.WalkSpells
import Derived.WalkLawsBesides
import Derived.Lib.Hide
import Derived.Maps.OwnSet
set_option linter.unusedVariables false
namespace Go.Proofs.LedNote
open Go.RowKit Go.Proofs.LedPage
open Go.ChangeMaps (setBlock)

/-- The identifier 9.1/1, and the call that began with it. -/
def key : Value := .agg #[.int .u8 9, .int .u16 1, .int .u32 1, .int .u8 0, .int .u8 0, .int .u8 0, .int .u8 0, .int .u8 0, .int .u8 0, .int .u8 0]
def beg : Value := .agg #[.int .u8 9, .int .u16 1, .int .u32 1, .int .u8 0, .int .u8 0, .int .u8 0, .int .u8 0, .int .u8 0, .int .u8 0, .int .u8 0, .int .u8 0, .int .i64 2, .int .i64 0, .slice none 0 0]

theorem look47 (W : World) : (Instr.lookup 47 (.map none) (.agg #[.int .u8 9, .int .u16 1, .int .u32 1, .int .u8 0, .int .u8 0, .int .u8 0, .int .u8 0, .int .u8 0, .int .u8 0, .int .u8 0]) false).run Tryz.prog W = .ok (.bool false) W := by kernel_rfl
theorem check71 (W : World) : (Instr.checkKey false 10000 71 (.agg #[.int .u8 9, .int .u16 1, .int .u32 1, .int .u8 0, .int .u8 0, .int .u8 0, .int .u8 0, .int .u8 0, .int .u8 0, .int .u8 0])).run Tryz.prog W = .ok () W := by kernel_rfl
theorem find71 (W : World) : (Instr.findKey 71 (.agg #[.int .u8 9, .int .u16 1, .int .u32 1, .int .u8 0, .int .u8 0, .int .u8 0, .int .u8 0, .int .u8 0, .int .u8 0, .int .u8 0]) []).run Tryz.prog W = .ok none W := by kernel_rfl

theorem upd47 (W : World) (m : Nat) (hb : W.heap[m]? = some (.map #[] 0)) : (Instr.mapUpdate 47 (.map (some m)) (.agg #[.int .u8 9, .int .u16 1, .int .u32 1, .int .u8 0, .int .u8 0, .int .u8 0, .int .u8 0, .int .u8 0, .int .u8 0, .int .u8 0]) (.bool true)).run Tryz.prog W =
    .ok () (setBlock W m (.map #[⟨.agg #[.int .u8 9, .int .u16 1, .int .u32 1, .int .u8 0, .int .u8 0, .int .u8 0, .int .u8 0, .int .u8 0, .int .u8 0, .int .u8 0], .bool true, 0⟩] 1)) := by
  simp [Instr.mapUpdate, run_underlying Tryz.underlying47, MapKept.run_getObj_map hb, check71, find71, MapKept.run_setObj_map _ hb, Result.andThen, setBlock]

theorem old1 {w : World} {p : Addr} {v : Value} (h : w.cell? p = some v) (o : Obj) : (w.alloc o).cell? p = some v := (World.cell?_alloc_lt w o p (World.block_lt_of_cell? w p h)).trans h
theorem oldf1 {w : World} {p : Addr} (h : w.frozen? p = false) (hp : p.block < w.heap.size) (o : Obj) : (w.alloc o).frozen? p = false :=
  (((Below.refl w.heap.size w).alloc (Nat.le_refl _) o).frozen hp).trans h

/-- What is there behind the map's making, and behind the map's first entry: block ab (the annal's), the two boxes, the map. -/
structure Mid (w : World) (ab : Nat) (o : Obj) (W : World) : Prop where
  size : W.heap.size = w.heap.size + 3
  bel : ∀ i, i < w.heap.size → i ≠ ab → W.heap[i]? = w.heap[i]?
  os : W.os = w.os
  tape : W.tape = w.tape
  output : W.output = w.output
  k : W.heap[w.heap.size]? = some (.cells #[.int .u8 9, .int .u16 1, .int .u32 1, .int .u8 0, .int .u8 0, .int .u8 0, .int .u8 0, .int .u8 0, .int .u8 0, .int .u8 0] 71 (0, 0))
  b : W.heap[w.heap.size + 1]? = some (.cells #[.int .u8 9, .int .u16 1, .int .u32 1, .int .u8 0, .int .u8 0, .int .u8 0, .int .u8 0, .int .u8 0, .int .u8 0, .int .u8 0, .int .u8 0, .int .i64 2, .int .i64 0, .slice none 0 0] 99 (0, 0))
  m : W.heap[w.heap.size + 1 + 1]? = some o
  a : W.heap[ab]? = some (.cells #[.map (some (w.heap.size + 1 + 1)), .slice none 0 0, .map none, .slice none 0 0, .map none, .slice none 0 0, .map none, .slice none 0 0, .slice none 0 0, .slice none 0 0, .slice none 0 0, .slice none 0 0, .int .i64 0, .bool true] 65 (0, 0))

theorem set_far {w : World} {b b' : Nat} {o : Option Obj} (h : w.heap[b]? = o) (hne : b' ≠ b) (j : Nat) (v : Value) : (w.setCell ⟨b', j, none⟩ v).heap[b]? = o := by
  simp [World.setCell, Array.getElem?_modify, hne, h]
theorem set_same {w : World} {b : Nat} {c : Array Value} {T : TypeId} (h : w.heap[b]? = some (.cells c T (0, 0))) (j : Nat) (v : Value) :
    (w.setCell ⟨b, j, none⟩ v).heap[b]? = some (.cells (c.setIfInBounds j v) T (0, 0)) := by simp [World.setCell, Array.getElem?_modify, h]
theorem two0 (w : World) (a b c : Obj) : (((w.alloc a).alloc b).alloc c).heap[w.heap.size]? = some a :=
  ((MapKept.heap_alloc ((w.alloc a).alloc b) c).2 _ (by simp; omega)).trans (((MapKept.heap_alloc (w.alloc a) b).2 _ (by simp)).trans (MapKept.heap_alloc w a).1)
theorem two1 (w : World) (a b c : Obj) : (((w.alloc a).alloc b).alloc c).heap[w.heap.size + 1]? = some b := by
  have h := (MapKept.heap_alloc (w.alloc a) b).1
  rw [World.size_alloc] at h
  exact ((MapKept.heap_alloc ((w.alloc a).alloc b) c).2 _ (by simp)).trans h
theorem two2 (w : World) (a b c : Obj) : (((w.alloc a).alloc b).alloc c).heap[w.heap.size + 1 + 1]? = some c := by
  have h := (MapKept.heap_alloc ((w.alloc a).alloc b) c).1
  rwa [World.size_alloc, World.size_alloc] at h

theorem mid_mk (w : World) (ab : Nat) (hlt : ab < w.heap.size) (ha : w.heap[ab]? = some (.cells #[.map none, .slice none 0 0, .map none, .slice none 0 0, .map none, .slice none 0 0, .map none, .slice none 0 0, .slice none 0 0, .slice none 0 0, .slice none 0 0, .slice none 0 0, .int .i64 0, .bool true] 65 (0, 0))) :
    Mid w ab (.map #[] 0) ((((w.alloc (.cells #[.int .u8 9, .int .u16 1, .int .u32 1, .int .u8 0, .int .u8 0, .int .u8 0, .int .u8 0, .int .u8 0, .int .u8 0, .int .u8 0] 71)).alloc (.cells #[.int .u8 9, .int .u16 1, .int .u32 1, .int .u8 0, .int .u8 0, .int .u8 0, .int .u8 0, .int .u8 0, .int .u8 0, .int .u8 0, .int .u8 0, .int .i64 2, .int .i64 0, .slice none 0 0] 99)).alloc (.map #[] 0)).setCell ⟨ab, 0, none⟩ (.map (some (w.heap.size + 1 + 1)))) := by
  have h0 : ∀ i, i < w.heap.size → (((w.alloc (.cells #[.int .u8 9, .int .u16 1, .int .u32 1, .int .u8 0, .int .u8 0, .int .u8 0, .int .u8 0, .int .u8 0, .int .u8 0, .int .u8 0] 71)).alloc (.cells #[.int .u8 9, .int .u16 1, .int .u32 1, .int .u8 0, .int .u8 0, .int .u8 0, .int .u8 0, .int .u8 0, .int .u8 0, .int .u8 0, .int .u8 0, .int .i64 2, .int .i64 0, .slice none 0 0] 99)).alloc (.map #[] 0)).heap[i]? = w.heap[i]? := fun i hi => by
    rw [(MapKept.heap_alloc ((w.alloc _).alloc _) _).2 _ (by simp; omega), (MapKept.heap_alloc (w.alloc _) _).2 _ (by simp; omega), (MapKept.heap_alloc w _).2 _ hi]
  refine ⟨?_, fun i hi hne => set_far (h0 i hi) (Ne.symm hne) _ _, rfl, rfl, rfl, set_far (two0 _ _ _ _) (by omega) _ _, set_far (two1 _ _ _ _) (by omega) _ _, set_far (two2 _ _ _ _) (by omega) _ _, ?_⟩
  · simp only [World.setCell, Array.size_modify, World.size_alloc]
  · exact set_same ((h0 ab hlt).trans ha) 0 _

theorem mid_drew {w : World} {ab : Nat} {o : Obj} {W : World} (h : Mid w ab o W) : Mid w ab o W.drew := ⟨h.size, h.bel, h.os, h.tape, h.output, h.k, h.b, h.m, h.a⟩

theorem mid_set (w : World) (ab : Nat) (hlt : ab < w.heap.size) (es : Array MapEntry) (c : Nat) (o' : Obj) (W : World) (h : Mid w ab (.map es c) W) : Mid w ab o' (setBlock W (w.heap.size + 1 + 1) o') := by
  refine ⟨by simp [setBlock, h.size], fun i hi hne => ?_, h.os, h.tape, h.output, ?_, ?_, ChangeMaps.heap_setBlock_same h.m _, ?_⟩
  · exact (ChangeMaps.heap_setBlock_other h.m _ (by omega)).trans (h.bel i hi hne)
  · exact (ChangeMaps.heap_setBlock_other h.m _ (by omega)).trans h.k
  · exact (ChangeMaps.heap_setBlock_other h.m _ (by omega)).trans h.b
  · exact (ChangeMaps.heap_setBlock_other h.m _ (by omega)).trans h.a

theorem info99 : (Tryz.prog.info? 99).map (fun i => (i.zero, i.size, i.bytes)) = some (some (.agg #[.int .u8 0, .int .u16 0, .int .u32 0, .int .u8 0, .int .u8 0, .int .u8 0, .int .u8 0, .int .u8 0, .int .u8 0, .int .u8 0, .int .u8 0, .int .i64 0, .int .i64 0, .slice none 0 0]), 14, 64) := by kernel_rfl

/-- The annal ab has noted the first call; nothing else that was there has turned. -/
def Noted (w : World) (ab : Nat) (w' : World) : Prop := ∃ m g cap, w'.heap[ab]? = some (.cells #[.map (some m), .slice (some ⟨g, 0, none⟩) 1 cap, .map none, .slice none 0 0, .map none, .slice none 0 0, .map none, .slice none 0 0, .slice none 0 0, .slice none 0 0, .slice none 0 0, .slice none 0 0, .int .i64 0, .bool true] 65 (0, 0)) ∧
  w'.ownsRow w.heap.size 99 14 (.slice (some ⟨g, 0, none⟩) 1 cap) 1 [.int .u8 9, .int .u16 1, .int .u32 1, .int .u8 0, .int .u8 0, .int .u8 0, .int .u8 0, .int .u8 0, .int .u8 0, .int .u8 0, .int .u8 0, .int .i64 2, .int .i64 0, .slice none 0 0] ∧ w.grownBy w' (some ab)

theorem noted_fin {w : World} {ab : Nat} {o : Obj} {W2 w1 : World} {gg cap : Nat} (hlt : ab < w.heap.size) (F2 : Mid w ab o W2) (box : Obj) (hgrow : (W2.alloc box).drew.grownBy w1 (Value.slice none 0 0).ownBlock)
    (hown1 : w1.ownsRow w.heap.size 99 14 (.slice (some ⟨gg, 0, none⟩) 1 cap) 1 [.int .u8 9, .int .u16 1, .int .u32 1, .int .u8 0, .int .u8 0, .int .u8 0, .int .u8 0, .int .u8 0, .int .u8 0, .int .u8 0, .int .u8 0, .int .i64 2, .int .i64 0, .slice none 0 0]) (hat : (Value.slice none 0 0).ownBlock = some gg ∨ gg = W2.heap.size + 1)
    (hA1 : w1.heap[ab]? = some (.cells #[.map (some (w.heap.size + 1 + 1)), .slice none 0 0, .map none, .slice none 0 0, .map none, .slice none 0 0, .map none, .slice none 0 0, .slice none 0 0, .slice none 0 0, .slice none 0 0, .slice none 0 0, .int .i64 0, .bool true] 65 (0, 0))) : Noted w ab (w1.setCell ⟨ab, 1, none⟩ (.slice (some ⟨gg, 0, none⟩) 1 cap)) := by
  have hg : gg = W2.heap.size + 1 := hat.resolve_left (by simp [Value.ownBlock])
  have hz := F2.size
  have hgs := hgrow.size
  simp at hgs
  have hold : ∀ i, i < w.heap.size → i ≠ ab → w1.heap[i]? = w.heap[i]? := fun i hi hne =>
    ((hgrow.block i (by simp; omega) (by simp [Value.ownBlock])).trans ((MapKept.heap_alloc W2 box).2 i (by omega))).trans (F2.bel i hi hne)
  have hset : ∀ i, i ≠ ab → (w1.setCell ⟨ab, 1, none⟩ (.slice (some ⟨gg, 0, none⟩) 1 cap)).heap[i]? = w1.heap[i]? := fun i hne => set_far rfl (Ne.symm hne) _ _
  have hsz : (w1.setCell ⟨ab, 1, none⟩ (.slice (some ⟨gg, 0, none⟩) 1 cap)).heap.size = w1.heap.size := by simp [World.setCell]
  refine ⟨w.heap.size + 1 + 1, gg, cap, set_same hA1 1 _, ?_, ⟨hgrow.os.trans F2.os, hgrow.tape.trans F2.tape, hgrow.output.trans F2.output, by rw [hsz]; omega, fun i hi hne => ?_⟩⟩
  · refine hown1.kept (row := some ab) ⟨rfl, rfl, rfl, by rw [hsz]; omega, fun i _ hne => hset i (fun e => hne (by rw [e]))⟩ ?_
    right; simp [Value.ownBlock]; omega
  · have hne' : i ≠ ab := fun e => hne (by rw [e])
    exact (hset i hne').trans (hold i hi hne')

set_option maxHeartbeats 4000000 in
set_option maxRecDepth 100000 in
theorem note_first (ab : Nat) (w : World) (ha : w.heap[ab]? = some (.cells #[.map none, .slice none 0 0, .map none, .slice none 0 0, .map none, .slice none 0 0, .map none, .slice none 0 0, .slice none 0 0, .slice none 0 0, .slice none 0 0, .slice none 0 0, .int .i64 0, .bool true] 65 (0, 0))) :
    Calls Tryz.prog 68 #[.pointer (some ⟨ab, 0, none⟩), .agg #[.int .u8 9, .int .u16 1, .int .u32 1, .int .u8 0, .int .u8 0, .int .u8 0, .int .u8 0, .int .u8 0, .int .u8 0, .int .u8 0], .agg #[.int .u8 9, .int .u16 1, .int .u32 1, .int .u8 0, .int .u8 0, .int .u8 0, .int .u8 0, .int .u8 0, .int .u8 0, .int .u8 0, .int .u8 0, .int .i64 2, .int .i64 0, .slice none 0 0]] w fun e w' => e = .returned (.bool true) ∧ Noted w ab w' := by
  have hmm := @run_makeMap Tryz.prog
  have hl := look47
  have hn := fun w r => run_eql_map_nil (P := Tryz.prog) w 47 _ _ r Tryz.underlying47
  have c0 : w.cell? ⟨ab, 0, none⟩ = some (.map none) := by rw [Lib.cell_of_heap ha]; rfl
  have f0 : w.frozen? ⟨ab, 0, none⟩ = false := by simp [World.frozen?, ha]
  have hlt : ab < w.heap.size := World.block_lt_of_cell? w _ c0
  have HA := Lib.hid ha; clear ha
  have d0 := fun o1 o2 o3 => old1 (old1 (old1 c0 o1) o2) o3
  have g0 := fun o1 o2 o3 => oldf1 (oldf1 (oldf1 f0 hlt o1) (by simp; omega) o2) (by simp; omega) o3
  go_enter Tryz.func68, Tryz.ntmps68
  go_wp2_with fail
  go_region
  go_wp2_with fail
  have F := mid_mk w ab hlt HA.out
  generalize ((((w.alloc (.cells #[.int .u8 9, .int .u16 1, .int .u32 1, .int .u8 0, .int .u8 0, .int .u8 0, .int .u8 0, .int .u8 0, .int .u8 0, .int .u8 0] 71)).alloc (.cells #[.int .u8 9, .int .u16 1, .int .u32 1, .int .u8 0, .int .u8 0, .int .u8 0, .int .u8 0, .int .u8 0, .int .u8 0, .int .u8 0, .int .u8 0, .int .i64 2, .int .i64 0, .slice none 0 0] 99)).alloc (.map #[] 0)).setCell ⟨ab, 0, none⟩ (.map (some (w.heap.size + 1 + 1)))) = W1 at F ⊢
  clear d0 g0 c0 f0
  have k0 : W1.cell? ⟨w.heap.size, 0, none⟩ = some (.int .u8 9) := by rw [Lib.cell_of_heap F.k]; rfl
  have k1 : W1.cell? ⟨w.heap.size, 1, none⟩ = some (.int .u16 1) := by rw [Lib.cell_of_heap F.k]; rfl
  have k2 : W1.cell? ⟨w.heap.size, 2, none⟩ = some (.int .u32 1) := by rw [Lib.cell_of_heap F.k]; rfl
  have k3 : W1.cell? ⟨w.heap.size, 3, none⟩ = some (.int .u8 0) := by rw [Lib.cell_of_heap F.k]; rfl
  have k4 : W1.cell? ⟨w.heap.size, 4, none⟩ = some (.int .u8 0) := by rw [Lib.cell_of_heap F.k]; rfl
  have k5 : W1.cell? ⟨w.heap.size, 5, none⟩ = some (.int .u8 0) := by rw [Lib.cell_of_heap F.k]; rfl
  have k6 : W1.cell? ⟨w.heap.size, 6, none⟩ = some (.int .u8 0) := by rw [Lib.cell_of_heap F.k]; rfl
  have k7 : W1.cell? ⟨w.heap.size, 7, none⟩ = some (.int .u8 0) := by rw [Lib.cell_of_heap F.k]; rfl
  have k8 : W1.cell? ⟨w.heap.size, 8, none⟩ = some (.int .u8 0) := by rw [Lib.cell_of_heap F.k]; rfl
  have k9 : W1.cell? ⟨w.heap.size, 9, none⟩ = some (.int .u8 0) := by rw [Lib.cell_of_heap F.k]; rfl
  have hu := upd47 W1.drew.drew (w.heap.size + 1 + 1) F.m
  have a0 : W1.cell? ⟨ab, 0, none⟩ = some (.map (some (w.heap.size + 1 + 1))) := by rw [Lib.cell_of_heap F.a]; rfl
  go_region
  go_wp2_with fail
  have F2 := mid_set w ab hlt _ _ (.map #[⟨.agg #[.int .u8 9, .int .u16 1, .int .u32 1, .int .u8 0, .int .u8 0, .int .u8 0, .int .u8 0, .int .u8 0, .int .u8 0, .int .u8 0], .bool true, 0⟩] 1) _ (mid_drew (mid_drew F))
  generalize (setBlock W1.drew.drew (w.heap.size + 1 + 1) (.map #[⟨.agg #[.int .u8 9, .int .u16 1, .int .u32 1, .int .u8 0, .int .u8 0, .int .u8 0, .int .u8 0, .int .u8 0, .int .u8 0, .int .u8 0], .bool true, 0⟩] 1)) = W2 at F2 ⊢
  clear hu a0 F k0 k1 k2 k3 k4 k5 k6 k7 k8 k9
  have b0 : W2.cell? ⟨w.heap.size + 1, 0, none⟩ = some (.int .u8 9) := by rw [Lib.cell_of_heap F2.b]; rfl
  have b1 : W2.cell? ⟨w.heap.size + 1, 1, none⟩ = some (.int .u16 1) := by rw [Lib.cell_of_heap F2.b]; rfl
  have b2 : W2.cell? ⟨w.heap.size + 1, 2, none⟩ = some (.int .u32 1) := by rw [Lib.cell_of_heap F2.b]; rfl
  have b3 : W2.cell? ⟨w.heap.size + 1, 3, none⟩ = some (.int .u8 0) := by rw [Lib.cell_of_heap F2.b]; rfl
  have b4 : W2.cell? ⟨w.heap.size + 1, 4, none⟩ = some (.int .u8 0) := by rw [Lib.cell_of_heap F2.b]; rfl
  have b5 : W2.cell? ⟨w.heap.size + 1, 5, none⟩ = some (.int .u8 0) := by rw [Lib.cell_of_heap F2.b]; rfl
  have b6 : W2.cell? ⟨w.heap.size + 1, 6, none⟩ = some (.int .u8 0) := by rw [Lib.cell_of_heap F2.b]; rfl
  have b7 : W2.cell? ⟨w.heap.size + 1, 7, none⟩ = some (.int .u8 0) := by rw [Lib.cell_of_heap F2.b]; rfl
  have b8 : W2.cell? ⟨w.heap.size + 1, 8, none⟩ = some (.int .u8 0) := by rw [Lib.cell_of_heap F2.b]; rfl
  have b9 : W2.cell? ⟨w.heap.size + 1, 9, none⟩ = some (.int .u8 0) := by rw [Lib.cell_of_heap F2.b]; rfl
  have b10 : W2.cell? ⟨w.heap.size + 1, 10, none⟩ = some (.int .u8 0) := by rw [Lib.cell_of_heap F2.b]; rfl
  have b11 : W2.cell? ⟨w.heap.size + 1, 11, none⟩ = some (.int .i64 2) := by rw [Lib.cell_of_heap F2.b]; rfl
  have b12 : W2.cell? ⟨w.heap.size + 1, 12, none⟩ = some (.int .i64 0) := by rw [Lib.cell_of_heap F2.b]; rfl
  have b13 : W2.cell? ⟨w.heap.size + 1, 13, none⟩ = some (.slice none 0 0) := by rw [Lib.cell_of_heap F2.b]; rfl
  have a1 : W2.cell? ⟨ab, 1, none⟩ = some (.slice none 0 0) := by rw [Lib.cell_of_heap F2.a]; rfl
  have a1' := fun o => old1 a1 o
  have hz2 : W2.heap.size = w.heap.size + 3 := F2.size
  have HZ := Lib.hid hz2; clear hz2
  obtain ⟨i0, hi0, hz0, hz1, hzb⟩ := info_parts info99
  have hown : W2.ownsRow w.heap.size 99 14 (.slice none 0 0) 0 [] := ⟨by simp, .inl ⟨rfl, rfl⟩⟩
  go_region_law
    ((refine step_append_lies _ (by rfl) _ _ _ (by rfl) w.heap.size 99 i0 _ 14 64 Tryz.underlying48 hi0 hz0 hz1 hzb rfl (by omega) (.slice none 0 0) 0 [] (by rfl) ((hown.alloc _).drew) ⟨W2.heap.size, 0, none⟩ 1 1 [.int .u8 9, .int .u16 1, .int .u32 1, .int .u8 0, .int .u8 0, .int .u8 0, .int .u8 0, .int .u8 0, .int .u8 0, .int .u8 0, .int .u8 0, .int .i64 2, .int .i64 0, .slice none 0 0] (by rfl) (by rfl) (World.news_of_block (cs := #[.int .u8 9, .int .u16 1, .int .u32 1, .int .u8 0, .int .u8 0, .int .u8 0, .int .u8 0, .int .u8 0, .int .u8 0, .int .u8 0, .int .u8 0, .int .i64 2, .int .i64 0, .slice none 0 0]) (t := 99) (fr := (0, 0)) (heap_alloc_new W2 _)) (by simp [Value.oneCell']) (by omega) (by unfold maxLen; omega) (by omega) (by simp [HZ.out]; omega) (W2.heap.size + 1) (by simp) ?_; intro gg cap w1 hown1 hgrow hat hlt1; have hA1 := (hgrow.block ab (by simp [HZ.out]; omega) (by simp [Value.ownBlock])).trans (((MapKept.heap_alloc W2 _).2 ab (by rw [HZ.out]; omega)).trans F2.a); have x1 : w1.cell? ⟨ab, 1, none⟩ = some (.slice none 0 0) := (by rw [Lib.cell_of_heap hA1]; rfl); have y1 : w1.frozen? ⟨ab, 1, none⟩ = false := (by simp [World.frozen?, hA1]); have HA1 := Lib.hid hA1; clear hA1))
  go_wp2_with fail
  all_goals go_ret
  all_goals exact ⟨rfl, noted_fin hlt F2 _ hgrow hown1 hat HA1.out⟩

end Go.Proofs.LedNote
