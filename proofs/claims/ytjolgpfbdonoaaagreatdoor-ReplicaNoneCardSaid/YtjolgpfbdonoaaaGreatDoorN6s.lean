/- Whether a replica of that name in that crowd may be, and that none is made over a small disk. -/
import Derived.Test.YtjolgpfbdonoaaaGreatDoorN5
namespace Go.Proofs.YtjolgpfbdonoaaaGreatDoor
open Go.RowKit
set_option maxRecDepth 20000
theorem new_row {W w2 : World} {C : List Value} {t : TypeId} (h : Below (W.alloc (.cells C.toArray t)).heap.size (W.alloc (.cells C.toArray t)) w2) : (∀ j v, C[j]? = some v → w2.cell? ⟨W.heap.size, j, none⟩ = some v) ∧ (∀ j, w2.frozen? ⟨W.heap.size, j, none⟩ = false) := by
  refine ⟨fun j v hv => cellB h ?_, fun j => ?_⟩
  · rw [cell_of_row _ _ j _ t (0, 0) (heap_alloc_new W _)]; simpa using hv
  · rw [h.frozen (p := ⟨W.heap.size, j, none⟩) (by simp)]
    exact frozen_of_row _ _ _ _ t (heap_alloc_new W _)
set_option maxHeartbeats 1000000 in
theorem may_any (id n : Int) (w : World) : Calls Tryz.prog 34 #[.agg #[.int .i64 1, .int .i64 id], .int .i64 n] w fun e w' => (e = .returned (.bool true) ∨ e = .returned (.bool false)) ∧ Below w.heap.size w w' := by
  by_cases hn : n = 3 ∨ n = 5 ∨ n = 7
  · have hd : decide (n = 3 ∨ n = 5 ∨ n = 7) = true := by simp [hn]
    clear hn
    by_cases h0 : 0 ≤ id
    · by_cases h1 : id < n
      · go_enter Tryz.func34, Tryz.ntmps34
        go_wp2_with (go_at_call 81; refine (crowd_any n _).mono ?_; rintro e w' ⟨rfl, rfl⟩; simp only [hd])
        go_ret
        exact ⟨by first | exact .inl rfl | exact .inr rfl, below_alloc (Below.refl _ _) _⟩
      · go_enter Tryz.func34, Tryz.ntmps34
        go_wp2_with (go_at_call 81; refine (crowd_any n _).mono ?_; rintro e w' ⟨rfl, rfl⟩; simp only [hd])
        go_ret
        exact ⟨by first | exact .inl rfl | exact .inr rfl, below_alloc (Below.refl _ _) _⟩
    · go_enter Tryz.func34, Tryz.ntmps34
      go_wp2_with (go_at_call 81; refine (crowd_any n _).mono ?_; rintro e w' ⟨rfl, rfl⟩; simp only [hd])
      go_ret
      exact ⟨by first | exact .inl rfl | exact .inr rfl, below_alloc (Below.refl _ _) _⟩
  · have hd : decide (n = 3 ∨ n = 5 ∨ n = 7) = false := by simp [hn]
    clear hn
    go_enter Tryz.func34, Tryz.ntmps34
    go_wp2_with (go_at_call 81; refine (crowd_any n _).mono ?_; rintro e w' ⟨rfl, rfl⟩; simp only [hd])
    go_ret
    exact ⟨by first | exact .inl rfl | exact .inr rfl, below_alloc (Below.refl _ _) _⟩
set_option maxRecDepth 20000 in
set_option maxHeartbeats 2000000 in
theorem new_few (b n : Nat) (id m : Int) (w : World) (h : DiskN w b n) (h0 : 1 ≤ n) (h1 : n ≤ 155) : Calls Tryz.prog 13 #[.int .i64 id, .int .i64 m, .pointer (some ⟨b, 0, none⟩), .bool false] w fun e w' => e = .returned (.tuple #[.pointer none, .int .i64 2]) ∧ Below w.heap.size w w' := by
  have hz : ((n : Int) == 0) = false := by simp; omega
  have H := Lib.hid h
  have hmm := @run_makeMap Tryz.prog
  clear h
  go_enter Tryz.func13, Tryz.ntmps13
  go_wp2_with (first
    | (go_at_call 33; refine (size_n b n _ (by exact H.out)).mono ?_; rintro e w' ⟨rfl, rfl⟩)
    | (go_at_call 34; refine (may_any id m _).mono ?_; rintro e w1 ⟨rfl | rfl, hb1⟩))
  · have hd := diskN_alloc (diskN_alloc (diskN_below H.out hb1) (.map #[] 0)) (.map #[] 0)
    refine (begin_few b n id _ (by exact diskN_alloc hd _) h0 h1).mono ?_
    rintro e w2 ⟨rfl, hb2⟩
    obtain ⟨hc, hf⟩ := new_row hb2
    have c0 : w2.cell? ⟨w1.heap.size + 1 + 1, 15, none⟩ = some (.int .i64 0) := by simpa using hc 15 _ rfl
    have c1 : w2.cell? ⟨w1.heap.size + 1 + 1, 16, none⟩ = some (.int .i64 0) := by simpa using hc 16 _ rfl
    have c2 : w2.cell? ⟨w1.heap.size + 1 + 1, 17, none⟩ = some (.int .i64 0) := by simpa using hc 17 _ rfl
    have f0 : w2.frozen? ⟨w1.heap.size + 1 + 1, 15, none⟩ = false := by simpa using hf 15
    have f1 : w2.frozen? ⟨w1.heap.size + 1 + 1, 16, none⟩ = false := by simpa using hf 16
    have f2 : w2.frozen? ⟨w1.heap.size + 1 + 1, 17, none⟩ = false := by simpa using hf 17
    have B := below_alloc (below_alloc (below_alloc hb1 (.map #[] 0)) (.map #[] 0))
    have B2 := (B _).trans (hb2.mono (by have := hb1.size; simp; omega))
    have hz1 := hb1.size
    have hz2 : w1.heap.size + 1 + 1 < w2.heap.size := by have := hb2.size; simp at this; omega
    clear hc hf hb2 hd B
    go_wp2
    have hl : w.heap.size ≤ w1.heap.size + 1 + 1 := by omega
    exact bodyPost_ret (v := .tuple #[.pointer none, .int .i64 2]) (by simp [results, Tryz.results13, go_sem]) rfl ⟨rfl, ((B2.setCell (p := ⟨w1.heap.size + 1 + 1, 15, none⟩) hl _).setCell (p := ⟨w1.heap.size + 1 + 1, 16, none⟩) hl _).setCell (p := ⟨w1.heap.size + 1 + 1, 17, none⟩) hl _⟩
  · go_ret2
    exact ⟨rfl, hb1⟩
end Go.Proofs.YtjolgpfbdonoaaaGreatDoor
