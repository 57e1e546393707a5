/- How many sectors all regions take. -/
import Derived.Test.YtjolgpfbdonoaaaGreatDoorN1
namespace Go.Proofs.YtjolgpfbdonoaaaGreatDoor
open Go.RowKit
def regionsV : Value := .agg #[.int .i64 0, .int .i64 0, .int .i64 2, .int .i64 1, .int .i64 2, .int .i64 1, .int .i64 24, .int .i64 1, .int .i64 48, .int .i64 2, .int .i64 16, .int .i64 2]
theorem regions_any (w : World) :
    Calls Tryz.prog 227 #[] w fun e w' => e = .returned (.agg #[.int .i64 0, .int .i64 0, .int .i64 2, .int .i64 1, .int .i64 2, .int .i64 1, .int .i64 24, .int .i64 1, .int .i64 48, .int .i64 2, .int .i64 16, .int .i64 2]) ∧ Below w.heap.size w w' := by
  go_enter Tryz.func227, Tryz.ntmps227
  go_wp2
  exact bodyPost_ret (by simp [results, Tryz.results227, go_sem]) rfl ⟨rfl, (Below.refl _ _).alloc (Nat.le_refl _) _⟩
theorem regions_ix0 (w : World) : (Instr.index 344 (.agg #[.int .i64 0, .int .i64 0, .int .i64 2, .int .i64 1, .int .i64 2, .int .i64 1, .int .i64 24, .int .i64 1, .int .i64 48, .int .i64 2, .int .i64 16, .int .i64 2]) (.int .i64 0)).run Tryz.prog w = .ok (.agg #[.int .i64 0, .int .i64 0]) w := by kernel_rfl
theorem regions_ix1 (w : World) : (Instr.index 344 (.agg #[.int .i64 0, .int .i64 0, .int .i64 2, .int .i64 1, .int .i64 2, .int .i64 1, .int .i64 24, .int .i64 1, .int .i64 48, .int .i64 2, .int .i64 16, .int .i64 2]) (.int .i64 1)).run Tryz.prog w = .ok (.agg #[.int .i64 2, .int .i64 1]) w := by kernel_rfl
theorem regions_ix2 (w : World) : (Instr.index 344 (.agg #[.int .i64 0, .int .i64 0, .int .i64 2, .int .i64 1, .int .i64 2, .int .i64 1, .int .i64 24, .int .i64 1, .int .i64 48, .int .i64 2, .int .i64 16, .int .i64 2]) (.int .i64 2)).run Tryz.prog w = .ok (.agg #[.int .i64 2, .int .i64 1]) w := by kernel_rfl
theorem regions_ix3 (w : World) : (Instr.index 344 (.agg #[.int .i64 0, .int .i64 0, .int .i64 2, .int .i64 1, .int .i64 2, .int .i64 1, .int .i64 24, .int .i64 1, .int .i64 48, .int .i64 2, .int .i64 16, .int .i64 2]) (.int .i64 3)).run Tryz.prog w = .ok (.agg #[.int .i64 24, .int .i64 1]) w := by kernel_rfl
theorem regions_ix4 (w : World) : (Instr.index 344 (.agg #[.int .i64 0, .int .i64 0, .int .i64 2, .int .i64 1, .int .i64 2, .int .i64 1, .int .i64 24, .int .i64 1, .int .i64 48, .int .i64 2, .int .i64 16, .int .i64 2]) (.int .i64 4)).run Tryz.prog w = .ok (.agg #[.int .i64 48, .int .i64 2]) w := by kernel_rfl
theorem regions_ix5 (w : World) : (Instr.index 344 (.agg #[.int .i64 0, .int .i64 0, .int .i64 2, .int .i64 1, .int .i64 2, .int .i64 1, .int .i64 24, .int .i64 1, .int .i64 48, .int .i64 2, .int .i64 16, .int .i64 2]) (.int .i64 5)).run Tryz.prog w = .ok (.agg #[.int .i64 16, .int .i64 2]) w := by kernel_rfl
attribute [local go_sem high] regions_ix0 regions_ix1 regions_ix2 regions_ix3 regions_ix4 regions_ix5
def partOf (k : Int) : Int := if k = 0 then 0 else if k = 1 then 0 else if k = 2 then 2 else if k = 3 then 4 else if k = 4 then 28 else if k = 5 then 124 else 156
/-- The first sector of region n; behind all, where there is none. -/
def startOf (n : Int) : Int := if 0 ≤ n ∧ n < 6 then partOf n else 156
theorem startOf_at (k : Int) (h0 : 0 ≤ k) (h : k < 6) : startOf k = partOf k := by unfold startOf; rw [if_pos ⟨h0, h⟩]
set_option maxHeartbeats 1000000 in
set_option maxRecDepth 20000 in
theorem start_any (n : Int) (w : World) :
    Calls Tryz.prog 155 #[.int .i64 n] w fun e w' => e = .returned (.int .i64 (startOf n)) ∧ Below w.heap.size w w' := by
  go_enter Tryz.func155, Tryz.ntmps155
  go_wp2_with (go_at_call 227; refine (regions_any _).mono ?_; rintro e w1 ⟨rfl, hb1⟩)
  have hs1 := hb1.size
  go_loopw [3, 7] (fun s i wr => ∃ k : Int, 0 ≤ k ∧ k ≤ 6 ∧ ¬ (0 ≤ n ∧ n < k) ∧ i = .int .i64 k ∧ s = .int .i64 (partOf k) ∧ Below w.heap.size w wr) (fun _ i _ => 6 - (intOf i).toNat)
  case atStart => exact ⟨0, by omega, by omega, by omega, rfl, rfl, hb1⟩
  case round =>
    obtain ⟨k, hk0, hk, hne, rfl, rfl, hb⟩ := hrel
    have hsz := hb.size
    have p0 : partOf 0 = 0 := rfl
    have p1 : partOf 1 = 0 := rfl
    have p2 : partOf 2 = 2 := rfl
    have p3 : partOf 3 = 4 := rfl
    have p4 : partOf 4 = 28 := rfl
    have p5 : partOf 5 = 124 := rfl
    have p6 : partOf 6 = 156 := rfl
    by_cases hkn : k = 6
    · subst hkn
      go_wp2
      go_ret
      exact ⟨by unfold startOf; rw [if_neg hne]; rfl, hb⟩
    · by_cases hn : k = n
      · subst hn
        have Hn := Lib.hid hne
        clear hne
        have e1 := startOf_at k hk0 (by omega)
        have h7 : k = 0 ∨ k = 1 ∨ k = 2 ∨ k = 3 ∨ k = 4 ∨ k = 5 := by omega
        have E1 := Lib.hid e1
        clear e1
        rcases h7 with rfl | rfl | rfl | rfl | rfl | rfl
        all_goals
          go_wp2
          go_ret
          exact ⟨by rw [E1.out]; rfl, hb.alloc hsz _⟩
      · have hlt : k < 6 := by omega
        have hn' : (k == n) = false := by simpa using hn
        have Hn := Lib.hid hne
        clear hne
        have h7 : k = 0 ∨ k = 1 ∨ k = 2 ∨ k = 3 ∨ k = 4 ∨ k = 5 := by omega
        rcases h7 with rfl | rfl | rfl | rfl | rfl | rfl
        all_goals
          go_wp2
          go_roundw
          case rel => exact ⟨_, by omega, by omega, by have := Hn.out; omega, rfl, rfl, hb.alloc hsz _⟩
          case measure => simp [intOf]

theorem all_any (w : World) : Calls Tryz.prog 86 #[] w fun e w' => e = .returned (.int .i64 156) ∧ Below w.heap.size w w' := by
  go_enter Tryz.func86, Tryz.ntmps86
  go_wp2_with (go_at_call 155; refine (start_any _ _).mono ?_; rintro e w1 ⟨rfl, hb1⟩)
  go_ret
  exact ⟨rfl, hb1⟩
end Go.Proofs.YtjolgpfbdonoaaaGreatDoor
