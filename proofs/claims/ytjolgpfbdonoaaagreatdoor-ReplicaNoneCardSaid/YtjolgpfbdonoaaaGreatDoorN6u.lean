/- A slice of one act. -/
import Derived.Test.YtjolgpfbdonoaaaGreatDoorN5
import Derived.Great.BuildSlice
import Derived.Deep.MidRow
import Derived.Deep.WholeRow
namespace Go.Proofs.YtjolgpfbdonoaaaGreatDoor
open Go.RowKit
set_option maxRecDepth 20000
theorem foldl_sets0 : ∀ (vs : List Value) (k : Nat) (pre C : List Value), pre.length = k → vs.length = C.length →
    (vs.zipIdx k).foldl (fun (cs : Array Value) (x : Value × Nat) => cs.setIfInBounds x.2 x.1) (pre ++ C).toArray = (pre ++ vs).toArray
  | [], k, pre, C, h, hl => by
    have : C = [] := List.length_eq_zero_iff.1 hl.symm
    simp [this]
  | v :: r, k, pre, [], h, hl => by simp at hl
  | v :: r, k, pre, c :: C, h, hl => by
    rw [List.zipIdx_cons, List.foldl_cons]
    simp only [List.setIfInBounds_toArray]
    have e : (pre ++ c :: C).set k v = (pre ++ [v]) ++ C := by
      subst h
      simp
    rw [e, foldl_sets0 r (k + 1) (pre ++ [v]) C (by simp [h]) (by simpa using hl)]
    simp
theorem foldl_whole0 (Y : List Value) (Z : Array Value) (h : Z.size = Y.length) : List.foldl (fun (cs : Array Value) (x : Value × Nat) => cs.setIfInBounds x.snd x.fst) Z Y.zipIdx = Y.toArray := by
  have := foldl_sets0 Y 0 [] Z.toList rfl (by simpa using h.symm)
  simpa using this
theorem bslice41 (Y : List Value) (h : Y.length = 34) (w : World) : (Instr.buildSlice 41 1 #[(0, .agg Y.toArray)]).run Tryz.prog w = .ok (.slice (some ⟨w.heap.size, 0, none⟩) 1 1) (w.alloc (.cells Y.toArray 39)) := by
  have H := Lib.hid h
  clear h
  unfold Instr.buildSlice
  go_simp
  rw [foldl_whole0 Y _ (by rw [H.out]; rfl), if_neg (by rw [H.out]; omega)]
  go_simp
theorem exec_buildSlice {P : Program} {ρ : Operand → Value} {o : Oper} {t : TypeId} {n : Nat} {parts : Array (Nat × Operand)} {vs : Array (Nat × Value)} {r : Value} {w w' : World} (ho : o.op = .buildSlice t n parts) (hp : parts.map (fun x => (x.1, ρ x.2)) = vs) (hr : (Instr.buildSlice t n vs).run P w = .ok r w') :
    (execOp ρ o).run P w = .ok (.value r) w' := by
  unfold execOp
  simp only [ho]
  rw [show (parts.map fun (i, x) => (i, ρ x)) = vs from hp, Sem.run_bind, hr]
  rfl
theorem wpList_of_exec {P : Program} {ops : Array Oper} {rest : List Oper} {o : Oper} {a : Act} {w w' : World} {r : Value} {Q : Exit → Act → World → Prop} (hg : o.guard = none) (h : (execOp a.eval o).run P w = .ok (.value r) w') (hK : wpList P ops Q rest (a.put o.dst r) w') : wpList P ops Q (o :: rest) a w :=
  wpList_plain hg fun _ hk => by
    unfold Oper.wp
    rw [h]
    exact hk _ _ hK
theorem range_new (w : World) (C : List Value) (t : TypeId) : (w.alloc (.cells C.toArray t)).rangeAt w.heap.size 0 C := fun j u hu => by
  rw [cell_of_row _ _ _ _ t (0, 0) (heap_alloc_new w _)]; simpa using hu
end Go.Proofs.YtjolgpfbdonoaaaGreatDoor
