/- A replica that nobody made: its image. -/
import Derived.Test.YtjolgpfbdonoaaaGreatDoorN2
namespace Go.Proofs.YtjolgpfbdonoaaaGreatDoor
open Go.RowKit
theorem results_cell {fn : Func} {p : Tmp} {ty : TypeId} (h : fn.results = #[.cell p ty]) (tmps : Array Value) (P : Program) (w : World) :
    (results fn tmps).run P w = ((asAddr (tmps.getD p undef)).run P w).andThen fun a w₁ => (loadVar ty a).run P w₁ := by
  simp only [results, h]
  simp [Sem.run_bind, Result.andThen]
abbrev zImg : List Value := [.int .i64 0, .slice none 0 0, .int .i64 0, .int .i64 0, .bool false, .string ⟨#[]⟩, .int .i64 0, .int .i64 0, .bool false, .string ⟨#[]⟩, .int .i64 0, .int .i64 0, .bool false, .string ⟨#[]⟩, .int .i64 0, .int .i64 0, .bool false, .string ⟨#[]⟩]
theorem size61 : (Tryz.prog.info? 61).map (·.size) = some 18 := by kernel_rfl
theorem isRow61 : ∃ d, Tryz.prog.underlying 61 = some d ∧ d.isRow = true := ⟨_, Tryz.underlying61, rfl⟩
theorem one61 : zImg.toArray.all (·.oneCell') = true := all_oneCell_toArray (by simp [zImg, Value.oneCell'])
set_option maxRecDepth 20000 in
set_option maxHeartbeats 400000 in
theorem image_any (v : Option Addr) (w : World) (h : Nobody w v) : Calls Tryz.prog 11 #[.pointer v] w fun e w' => e = .returned (.agg zImg.toArray) ∧ Below w.heap.size w w' := by
  have H := Lib.hid h
  clear h
  go_enter Tryz.func11, Tryz.ntmps11
  go_wp2_with fail
  refine (none_any v _ (by exact nobody_alloc H.out _)).mono ?_
  rintro e w' ⟨rfl, rfl⟩
  go_wp2_with (refine wpList_store_new rfl 61 (.tmp 2) (.tmp 6) rfl _ _ _ rfl rfl size61 (by rfl) one61 ?_)
  obtain ⟨d, hd, hr⟩ := isRow61
  refine bodyPost_ret (v := .agg zImg.toArray) ?_ rfl ⟨rfl, below_alloc (Below.refl _ _) _⟩
  rw [results_cell (by exact Tryz.results11)]
  have := run_loadVar_mid (P := Tryz.prog) (w.alloc (.cells zImg.toArray 61)) w.heap.size 0 61 zImg d (fun j u hu => by rw [cell_of_row _ _ _ _ 61 (0, 0) (heap_alloc_new w _)]; simpa using hu) hd hr size61
  simpa [asAddr, Act.put] using this
end Go.Proofs.YtjolgpfbdonoaaaGreatDoor
