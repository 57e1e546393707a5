/- A disk of few sectors; no replica begins over it, nor over none. -/
import Derived.Test.YtjolgpfbdonoaaaGreatDoorN4
import Derived.Laws.MakeOwn
import Derived.OwnWalk
namespace Go.Proofs.YtjolgpfbdonoaaaGreatDoor
open Go.RowKit
set_option maxRecDepth 20000
/-- A disk of n sectors, at rest. -/
def DiskN (w : World) (b n : Nat) : Prop := w.cell? ⟨b, 0, none⟩ = some (.slice (some ⟨b - 1, 0, none⟩) n n) ∧ w.cell? ⟨b, 2, none⟩ = some (.bool false) ∧ w.cell? ⟨b, 3, none⟩ = some (.bool false)
theorem cellB {w w1 : World} (h : Below w.heap.size w w1) {a : Addr} {v : Value} (hc : w.cell? a = some v) : w1.cell? a = some v := (h.cell (World.block_lt_of_cell? w a hc)).trans hc
theorem cellA {w : World} {a : Addr} {v : Value} (hc : w.cell? a = some v) (o : Obj) : (w.alloc o).cell? a = some v := (World.cell?_alloc_lt _ _ _ (World.block_lt_of_cell? w a hc)).trans hc
theorem diskN_below {w w1 : World} {b n : Nat} (h : DiskN w b n) (hb : Below w.heap.size w w1) : DiskN w1 b n := ⟨cellB hb h.1, cellB hb h.2.1, cellB hb h.2.2⟩
theorem diskN_alloc {w : World} {b n : Nat} (h : DiskN w b n) (o : Obj) : DiskN (w.alloc o) b n := ⟨cellA h.1 o, cellA h.2.1 o, cellA h.2.2 o⟩
theorem size_nil (w : World) : Calls Tryz.prog 33 #[.pointer none] w fun e w' => e = .returned (.int .i64 0) ∧ w = w' := by
  go_enter Tryz.func33, Tryz.ntmps33
  go_wp2
  go_ret
  exact ⟨rfl, rfl⟩
theorem size_n (b n : Nat) (w : World) (h : DiskN w b n) : Calls Tryz.prog 33 #[.pointer (some ⟨b, 0, none⟩)] w fun e w' => e = .returned (.int .i64 n) ∧ w = w' := by
  have h0 := h.1
  clear h
  go_enter Tryz.func33, Tryz.ntmps33
  go_wp2
  go_ret
  exact ⟨rfl, rfl⟩
theorem info114 : (Tryz.prog.info? 394).map (fun i => (i.size, i.bytes)) = some (129, 129) := by kernel_rfl
set_option maxRecDepth 20000 in
theorem new_any (n : Nat) (h0 : 1 ≤ n) (h1 : n ≤ 155) (w : World) :
    Calls Tryz.prog 12 #[.int .i64 n] w fun e w' => e = .returned (.tuple #[.pointer (some ⟨w.heap.size + 1, 0, none⟩), .int .i64 0]) ∧ DiskN w' (w.heap.size + 1) n ∧ Below w.heap.size w w' := by
  have hn1 : ¬ ((n : Int) < 1) := by omega
  have hn2 : ¬ ((1024 : Int) < n) := by omega
  obtain ⟨C, hmk⟩ : ∃ C : Array Value, (Instr.makeSlice 115 (.int .i64 n) (.int .i64 n)).run Tryz.prog w = .ok (.slice (some ⟨w.heap.size, 0, none⟩) n n) (w.alloc (.cells C 394)) := by
    cases hi : Tryz.prog.info? 394 with
    | none => have := info114; rw [hi] at this; simp at this
    | some i0 =>
      have hs := info114
      rw [hi] at hs
      simp at hs
      have hz : ∃ z, i0.zero = some z := by
        have : ((Tryz.prog.info? 394).bind (·.zero)).isSome = true := by kernel_rfl
        rw [hi] at this
        exact Option.isSome_iff_exists.1 this
      obtain ⟨z, hz⟩ := hz
      rw [run_make (P := Tryz.prog) w 115 394 i0 z Tryz.underlying115 hi hz .i64 .i64 n n (by omega) (Int.le_refl _) (by rw [hs.2]; omega) (by omega)]
      simp only [Int.toNat_natCast]
      exact ⟨_, rfl⟩
  go_enter Tryz.func12, Tryz.ntmps12
  go_wp2
  go_ret2
  refine ⟨rfl, ⟨?_, ?_, ?_⟩, ((Below.refl _ _).alloc (Nat.le_refl _) _).alloc (by simp) _⟩
  all_goals
    have e := heap_alloc_new (w.alloc (.cells C 394)) (.cells #[.slice (some ⟨w.heap.size, 0, none⟩) n n, .slice none 0 0, .bool false, .bool false, .int .i64 (-1)] 118)
    simp only [World.size_alloc] at e
    rw [cell_of_row _ _ _ _ _ _ e]
    rfl
theorem new_nil (id n : Int) (w : World) : Calls Tryz.prog 13 #[.int .i64 id, .int .i64 n, .pointer none, .bool false] w fun e w' => e = .returned (.tuple #[.pointer none, .int .i64 1]) ∧ w = w' := by
  go_enter Tryz.func13, Tryz.ntmps13
  go_wp2_with (go_at_call 33; refine (size_nil _).mono ?_; rintro e w' ⟨rfl, rfl⟩)
  go_ret2
  exact ⟨rfl, rfl⟩
theorem up_n (b n : Nat) (w : World) (h : DiskN w b n) (h0 : 1 ≤ n) : Calls Tryz.prog 89 #[.pointer (some ⟨b, 0, none⟩)] w fun e w' => e = .returned (.bool true) ∧ w = w' := by
  have hn : (0 : Int) < n := by omega
  have H := Lib.hid h
  have h2 := h.2.1
  have h3 := h.2.2
  clear h
  go_enter Tryz.func89, Tryz.ntmps89
  go_wp2_with (go_at_call 33; refine (size_n b n _ (by exact H.out)).mono ?_; rintro e w' ⟨rfl, rfl⟩)
  go_ret
  exact ⟨rfl, rfl⟩
set_option maxRecDepth 20000 in
set_option maxHeartbeats 1000000 in
theorem open_few (b n : Nat) (id : Int) (w : World) (h : DiskN w b n) (h0 : 1 ≤ n) (h1 : n ≤ 155) : Calls Tryz.prog 146 #[.pointer (some ⟨b, 0, none⟩), .int .i64 id, .int .i64 1] w fun e w' => e = .returned (.tuple #[.pointer none, .int .i64 2]) ∧ Below w.heap.size w w' := by
  have hz : ((n : Int) == 0) = false := by simp; omega
  have hl : (n : Int) < 156 := by omega
  have H := Lib.hid h
  clear h
  go_enter Tryz.func146, Tryz.ntmps146
  go_wp2_with (first | (go_at_call 33; refine (size_n b n _ (by exact H.out)).mono ?_; rintro e w' ⟨rfl, rfl⟩) | (go_at_call 86; refine (all_any _).mono ?_; rintro e w1 ⟨rfl, hb1⟩))
  go_ret2
  exact ⟨rfl, hb1⟩
set_option maxRecDepth 20000 in
set_option maxHeartbeats 1000000 in
theorem load_few (b n : Nat) (id : Int) (w : World) (h : DiskN w b n) (h0 : 1 ≤ n) (h1 : n ≤ 155) : Calls Tryz.prog 82 #[.pointer (some ⟨b, 0, none⟩), .int .i64 id, .int .i64 1] w fun e w' => e = .returned (.tuple #[.int .i64 0, .slice none 0 0, .int .i64 2]) ∧ Below w.heap.size w w' := by
  have H := Lib.hid h
  clear h
  go_enter Tryz.func82, Tryz.ntmps82
  go_wp2_with (go_at_call 146; refine (open_few b n id _ (by exact H.out) h0 h1).mono ?_; rintro e w1 ⟨rfl, hb1⟩)
  go_ret3
  exact ⟨rfl, hb1⟩
set_option maxRecDepth 20000 in
set_option maxHeartbeats 1000000 in
theorem begin_few (b n : Nat) (id : Int) (w : World) (h : DiskN w b n) (h0 : 1 ≤ n) (h1 : n ≤ 155) : Calls Tryz.prog 35 #[.pointer (some ⟨b, 0, none⟩), .int .i64 id] w fun e w' => e = .returned (.tuple #[.agg #[.int .i64 0, .int .i64 0, .int .i64 0], .int .i64 2]) ∧ Below w.heap.size w w' := by
  have H := Lib.hid (diskN_alloc h (.cells #[.int .i64 0, .int .i64 0, .int .i64 0] 51))
  clear h
  go_enter Tryz.func35, Tryz.ntmps35
  go_wp2_with fail
  refine (load_few b n id _ (by exact H.out) h0 h1).mono ?_
  rintro e w1 ⟨rfl, hb1⟩
  have hc : ∀ j v, (#[Value.int .i64 0, .int .i64 0, .int .i64 0] : Array Value)[j]? = some v → w1.cell? ⟨w.heap.size, j, none⟩ = some v := fun j v hv => by
    refine cellB hb1 ?_
    rw [cell_of_row _ _ j _ 51 (0, 0) (heap_alloc_new w _)]; exact hv
  have hf : ∀ j, w1.frozen? ⟨w.heap.size, j, none⟩ = false := fun j => by
    rw [hb1.frozen (p := ⟨w.heap.size, j, none⟩) (by simp)]
    exact frozen_of_row _ _ _ _ 51 (heap_alloc_new w _)
  have c0 : w1.cell? ⟨w.heap.size, 0, none⟩ = some (.int .i64 0) := hc 0 _ rfl
  have c1 : w1.cell? ⟨w.heap.size, 1, none⟩ = some (.int .i64 0) := hc 1 _ rfl
  have c2 : w1.cell? ⟨w.heap.size, 2, none⟩ = some (.int .i64 0) := hc 2 _ rfl
  have f0 := hf 0
  have f1 := hf 1
  have f2 := hf 2
  have B1 := (below_alloc (Below.refl w.heap.size w) (.cells #[.int .i64 0, .int .i64 0, .int .i64 0] 51)).trans (hb1.mono (by simp))
  clear hc hf
  have hz1 := B1.size
  have hz2 : w.heap.size < w1.heap.size := by have := hb1.size; simp at this; omega
  go_wp2
  exact bodyPost_ret (v := .tuple #[.agg #[.int .i64 0, .int .i64 0, .int .i64 0], .int .i64 2]) (by simp [results, Tryz.results35, go_sem, c0, c1, c2]) rfl ⟨rfl, ((B1.setCell (p := ⟨w.heap.size, 0, none⟩) (Nat.le_refl _) _).setCell (p := ⟨w.heap.size, 1, none⟩) (Nat.le_refl _) _).setCell (p := ⟨w.heap.size, 2, none⟩) (Nat.le_refl _) _⟩
theorem crowd_any (n : Int) (w : World) : Calls Tryz.prog 81 #[.int .i64 n] w fun e w' => e = .returned (.bool (decide (n = 3 ∨ n = 5 ∨ n = 7))) ∧ w = w' := by
  by_cases h3 : n = 3
  · subst h3
    go_enter Tryz.func81, Tryz.ntmps81
    go_wp2
    go_ret
    exact ⟨rfl, rfl⟩
  · by_cases h5 : n = 5
    · subst h5
      go_enter Tryz.func81, Tryz.ntmps81
      go_wp2
      go_ret
      exact ⟨rfl, rfl⟩
    · have e3 : (n == 3) = false := by simpa using h3
      have e5 : (n == 5) = false := by simpa using h5
      by_cases h7 : n = 7
      · subst h7
        go_enter Tryz.func81, Tryz.ntmps81
        go_wp2
        go_ret
        exact ⟨rfl, rfl⟩
      · have e7 : (n == 7) = false := by simpa using h7
        have e : decide (n = 3 ∨ n = 5 ∨ n = 7) = false := by simp [h3, h5, h7]
        have E := Lib.hid e
        clear e h3 h5 h7
        go_enter Tryz.func81, Tryz.ntmps81
        go_wp2
        go_ret
        rw [E.out]
        exact ⟨rfl, rfl⟩
end Go.Proofs.YtjolgpfbdonoaaaGreatDoor
