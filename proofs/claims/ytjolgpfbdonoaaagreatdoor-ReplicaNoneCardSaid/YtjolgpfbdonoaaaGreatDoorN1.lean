/- A replica that nobody made: what each of its methods tells. -/
import Derived.Test.YtjolgpfbdonoaaaGreatDoorProg
import Derived.WalkKit
import Derived.WalkLawsBesides
import Derived.WalkSpells
import Derived.Lib.Hide
import Derived.Laws.EntriesVeiled
namespace Go.Proofs.YtjolgpfbdonoaaaGreatDoor
open Go.RowKit
theorem none_nil (w : World) : Calls Tryz.prog 26 #[.pointer none] w fun e w' => e = .returned (.bool true) ∧ w = w' := by
  go_enter Tryz.func26, Tryz.ntmps26
  go_wp2
  go_ret
  exact ⟨rfl, rfl⟩
theorem none_zero (b : Nat) (w : World) (h : w.cell? ⟨b, 11, none⟩ = some (.int .i64 0)) : Calls Tryz.prog 26 #[.pointer (some ⟨b, 0, none⟩)] w fun e w' => e = .returned (.bool true) ∧ w = w' := by
  go_enter Tryz.func26, Tryz.ntmps26
  go_wp2
  go_ret
  exact ⟨rfl, rfl⟩
/-- Of nobody's, or of no replicas. -/
def Nobody (w : World) (v : Option Addr) : Prop := v = none ∨ ∃ b C, v = some ⟨b, 0, none⟩ ∧ w.heap[b]? = some (.cells C 75 (0, 0)) ∧ C[11]? = some (.int .i64 0) ∧ C[55]? = some (.slice none 0 0)
theorem none_any (v : Option Addr) (w : World) (h : Nobody w v) : Calls Tryz.prog 26 #[.pointer v] w fun e w' => e = .returned (.bool true) ∧ w = w' := by
  rcases h with rfl | ⟨b, C, rfl, hb, hC, _⟩
  · exact none_nil w
  · exact none_zero b w ((cell_of_row w b 11 C 75 (0, 0) hb).trans hC)
theorem nobody_alloc {w : World} {v : Option Addr} (h : Nobody w v) (o : Obj) : Nobody (w.alloc o) v := by
  rcases h with rfl | ⟨b, C, rfl, hb, hC⟩
  · exact .inl rfl
  · exact .inr ⟨b, C, rfl, by rw [Below.heap_alloc w o b (Array.getElem?_eq_some_iff.1 hb).1]; exact hb, hC⟩
theorem nobody_below {w w' : World} {v : Option Addr} (h : Nobody w v) (hb : Below w.heap.size w w') : Nobody w' v := by
  rcases h with rfl | ⟨b, C, rfl, hbk, hC⟩
  · exact .inl rfl
  · exact .inr ⟨b, C, rfl, (hb.block b (Array.getElem?_eq_some_iff.1 hbk).1).trans hbk, hC⟩
theorem below_alloc {w W : World} (h : Below w.heap.size w W) (o : Obj) : Below w.heap.size w (W.alloc o) := h.alloc h.size o
set_option maxRecDepth 20000 in
set_option maxHeartbeats 400000 in
theorem safely_any (v : Option Addr) (f : Value) (w : World) (h : Nobody w v) : Calls Tryz.prog 16 #[.pointer v, f] w fun e w' => e = .returned (.slice none 0 0) ∧ Below w.heap.size w w' := by
  have H := Lib.hid h
  clear h
  go_enter Tryz.func16, Tryz.ntmps16
  go_wp2_with fail
  refine (none_any v _ (by exact nobody_alloc (nobody_alloc H.out _) _)).mono ?_
  rintro e w' ⟨rfl, rfl⟩
  go_wp2
  exact bodyPost_ret (v := .slice none 0 0) (by simp [results, Tryz.results16, go_sem]) rfl ⟨rfl, below_alloc (below_alloc (Below.refl _ _) _) _⟩
set_option maxRecDepth 20000 in
set_option maxHeartbeats 400000 in
theorem tick_any (v : Option Addr) (w : World) (h : Nobody w v) : Calls Tryz.prog 6 #[.pointer v] w fun e w' => e = .returned (.slice none 0 0) ∧ Below w.heap.size w w' := by
  have H := Lib.hid h
  clear h
  go_enter Tryz.func6, Tryz.ntmps6
  go_wp2_with fail
  refine (safely_any v _ _ (by exact nobody_alloc H.out _)).mono ?_
  rintro e w' ⟨rfl, hb⟩
  go_wp2
  go_ret
  exact ⟨rfl, (below_alloc (Below.refl _ _) _).trans (hb.mono (by simp))⟩
set_option maxRecDepth 20000 in
set_option maxHeartbeats 400000 in
theorem step_any (v : Option Addr) (cs : Array Value) (w : World) (h : Nobody w v) : Calls Tryz.prog 5 #[.pointer v, .agg cs] w fun e w' => e = .returned (.slice none 0 0) ∧ Below w.heap.size w w' := by
  have H := Lib.hid h
  clear h
  go_enter Tryz.func5, Tryz.ntmps5
  go_wp2_with fail
  refine (safely_any v _ _ (by exact nobody_alloc (nobody_alloc H.out _) _)).mono ?_
  rintro e w' ⟨rfl, hb⟩
  go_wp2
  go_ret
  exact ⟨rfl, (below_alloc (below_alloc (Below.refl _ _) _) _).trans (hb.mono (by simp; omega))⟩
theorem up_any (v : Option Addr) (w : World) (h : Nobody w v) : Calls Tryz.prog 7 #[.pointer v] w fun e w' => e = .returned (.bool false) ∧ w = w' := by
  have H := Lib.hid h
  clear h
  go_enter Tryz.func7, Tryz.ntmps7
  go_wp2_with (go_at_call 26; refine (none_any v _ (by exact H.out)).mono ?_; rintro e w' ⟨rfl, rfl⟩)
  go_ret
  exact ⟨rfl, rfl⟩
set_option maxRecDepth 20000 in
set_option maxHeartbeats 400000 in
theorem tells_any (v : Option Addr) (w : World) (h : Nobody w v) : Calls Tryz.prog 9 #[.pointer v] w fun e w' => e = .returned (.agg #[.int .u8 0, .int .i64 0, .int .i64 0, .int .i64 0, .int .i64 0, .int .i64 0, .int .i64 0, .int .i64 0, .int .i64 0, .int .i64 0, .bool false, .slice none 0 0, .slice none 0 0]) ∧ Below w.heap.size w w' := by
  have H := Lib.hid h
  clear h
  go_enter Tryz.func9, Tryz.ntmps9
  go_wp2_with fail
  refine (none_any v _ (by exact nobody_alloc H.out _)).mono ?_
  rintro e w' ⟨rfl, rfl⟩
  go_wp2
  exact bodyPost_ret (by simp [results, Tryz.results9, go_sem]) rfl ⟨rfl, below_alloc (Below.refl _ _) _⟩
theorem clone_nil (w : World) : Calls Tryz.prog 31 #[.slice none 0 0] w fun e w' => e = .returned (.slice none 0 0) ∧ w = w' := by
  have e0 := @Lib.run_eql_slice_nil Tryz.prog
  go_enter Tryz.func31, Tryz.ntmps31
  go_wp2
  go_ret
  exact ⟨rfl, rfl⟩
theorem done_nil (w : World) : Calls Tryz.prog 10 #[.pointer none] w fun e w' => e = .returned (.slice none 0 0) ∧ w = w' := by
  go_enter Tryz.func10, Tryz.ntmps10
  go_wp2
  go_ret
  exact ⟨rfl, rfl⟩
theorem done_zero (b : Nat) (w : World) (h : w.cell? ⟨b, 55, none⟩ = some (.slice none 0 0)) : Calls Tryz.prog 10 #[.pointer (some ⟨b, 0, none⟩)] w fun e w' => e = .returned (.slice none 0 0) ∧ w = w' := by
  go_enter Tryz.func10, Tryz.ntmps10
  go_wp2_with (go_at_call 31; refine (clone_nil _).mono ?_; rintro e w' ⟨rfl, rfl⟩)
  go_ret
  exact ⟨rfl, rfl⟩
theorem done_any (v : Option Addr) (w : World) (h : Nobody w v) : Calls Tryz.prog 10 #[.pointer v] w fun e w' => e = .returned (.slice none 0 0) ∧ w = w' := by
  rcases h with rfl | ⟨b, C, rfl, hb, _, hC⟩
  · exact done_nil w
  · exact done_zero b w ((cell_of_row w b 55 C 75 (0, 0) hb).trans hC)
end Go.Proofs.YtjolgpfbdonoaaaGreatDoor
