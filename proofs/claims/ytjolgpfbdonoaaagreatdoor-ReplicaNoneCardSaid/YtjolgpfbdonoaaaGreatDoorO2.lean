/- An act of the law, opened. -/
import Derived.Test.YtjolgpfbdonoaaaGreatDoorO1
namespace Go.Proofs.YtjolgpfbdonoaaaGreatDoor
/-- A slice as it is read: its shape, its elements. -/
structure Sl (P : Program) (w : World) (e : TypeId) (A : Option Addr) (len cap : Nat) : Prop where
  le : len ≤ cap
  max : cap ≤ maxLen
  nil : A = none → len = 0 ∧ cap = 0
  el : ∀ i, i < len → ∃ (a : Addr) (cs' : List Value), A = some a ∧ cs'.length = P.cellsOf e ∧ Rd P w e cs' ∧ ∀ j, j < P.cellsOf e → w.cell? ((a.add (i * P.cellsOf e)).add j) = cs'[j]?
theorem sl_of {P : Program} {w : World} {t e : TypeId} {cs : List Value} (h : Rd P w t cs) (ht : P.underlying t = some (.slice e)) : ∃ A len cap, cs = [.slice A len cap] ∧ Sl P w e A len cap := by
  obtain ⟨A, len, cap, h0, h1, h2, h3, h4⟩ := h.slice ht
  exact ⟨A, len, cap, h0, ⟨h1, h2, h3, h4⟩⟩
theorem cellsOf3 : Tryz.prog.cellsOf 3 = 1 := by kernel_rfl
theorem cellsOf4 : Tryz.prog.cellsOf 4 = 1 := by kernel_rfl
theorem cellsOf5 : Tryz.prog.cellsOf 5 = 1 := by kernel_rfl
theorem cellsOf9 : Tryz.prog.cellsOf 9 = 1 := by kernel_rfl
theorem cellsOf28 : Tryz.prog.cellsOf 28 = 1 := by kernel_rfl
theorem cellsOf23 : Tryz.prog.cellsOf 23 = 2 := by kernel_rfl
theorem cellsOf25 : Tryz.prog.cellsOf 25 = 4 := by kernel_rfl
theorem cellsOf27 : Tryz.prog.cellsOf 27 = 7 := by kernel_rfl
theorem cellsOf30 : Tryz.prog.cellsOf 30 = 3 := by kernel_rfl
theorem cellsOf31 : Tryz.prog.cellsOf 31 = 1 := by kernel_rfl
theorem cellsOf32 : Tryz.prog.cellsOf 32 = 1 := by kernel_rfl
theorem cellsOf35 : Tryz.prog.cellsOf 35 = 1 := by kernel_rfl
theorem cellsOf34 : Tryz.prog.cellsOf 34 = 27 := by kernel_rfl
theorem cellsOf37 : Tryz.prog.cellsOf 37 = 5 := by kernel_rfl
theorem cellsOf39 : Tryz.prog.cellsOf 39 = 34 := by kernel_rfl
theorem cellsOf96 : Tryz.prog.cellsOf 96 = 11 := by kernel_rfl
theorem open23 {w : World} {cs : List Value} (h : Rd Tryz.prog w 23 cs) : ∃ (xa : Int) (xb : Int), cs = [.int .i64 xa, .int .i64 xb] ∧ (Lit.int .i64 xa).wf = true ∧ (Lit.int .i64 xb).wf = true := by
  obtain ⟨hl, hf⟩ := h.struct Tryz.underlying23
  rw [cellsOf23] at hl
  obtain ⟨c0, r0, rfl, hl0⟩ := len_succ hl
  obtain ⟨c1, r1, rfl, hl1⟩ := len_succ hl0
  obtain rfl := len_zero hl1
  have h0 : Rd Tryz.prog w 3 (([c0, c1].drop 0).take (Tryz.prog.cellsOf 3)) := hf 0 _ rfl
  simp only [cellsOf3, List.drop_succ_cons, List.drop_zero, List.take_succ_cons, List.take_zero] at h0
  obtain ⟨z0, e0, q0⟩ := h0.int Tryz.underlying3
  simp only [List.cons.injEq, and_true] at e0
  subst e0
  have h1 : Rd Tryz.prog w 3 (([.int .i64 z0, c1].drop 1).take (Tryz.prog.cellsOf 3)) := hf 1 _ rfl
  simp only [cellsOf3, List.drop_succ_cons, List.drop_zero, List.take_succ_cons, List.take_zero] at h1
  obtain ⟨z1, e1, q1⟩ := h1.int Tryz.underlying3
  simp only [List.cons.injEq, and_true] at e1
  subst e1
  exact ⟨z0, z1, rfl, q0, q1⟩
theorem open25 {w : World} {cs : List Value} (h : Rd Tryz.prog w 25 cs) : ∃ (xk : Int) (xp : ByteArray) (xq : ByteArray) (xr : ByteArray), cs = [.int .u8 xk, .string xp, .string xq, .string xr] ∧ (Lit.int .u8 xk).wf = true ∧ xp.size ≤ maxLen ∧ xq.size ≤ maxLen ∧ xr.size ≤ maxLen := by
  obtain ⟨hl, hf⟩ := h.struct Tryz.underlying25
  rw [cellsOf25] at hl
  obtain ⟨c0, r0, rfl, hl0⟩ := len_succ hl
  obtain ⟨c1, r1, rfl, hl1⟩ := len_succ hl0
  obtain ⟨c2, r2, rfl, hl2⟩ := len_succ hl1
  obtain ⟨c3, r3, rfl, hl3⟩ := len_succ hl2
  obtain rfl := len_zero hl3
  have h0 : Rd Tryz.prog w 5 (([c0, c1, c2, c3].drop 0).take (Tryz.prog.cellsOf 5)) := hf 0 _ rfl
  simp only [cellsOf5, List.drop_succ_cons, List.drop_zero, List.take_succ_cons, List.take_zero] at h0
  obtain ⟨z0, e0, q0⟩ := h0.int Tryz.underlying5
  simp only [List.cons.injEq, and_true] at e0
  subst e0
  have h1 : Rd Tryz.prog w 9 (([.int .u8 z0, c1, c2, c3].drop 1).take (Tryz.prog.cellsOf 9)) := hf 1 _ rfl
  simp only [cellsOf9, List.drop_succ_cons, List.drop_zero, List.take_succ_cons, List.take_zero] at h1
  obtain ⟨z1, e1, q1⟩ := h1.str Tryz.underlying9
  simp only [List.cons.injEq, and_true] at e1
  subst e1
  have h2 : Rd Tryz.prog w 9 (([.int .u8 z0, .string z1, c2, c3].drop 2).take (Tryz.prog.cellsOf 9)) := hf 2 _ rfl
  simp only [cellsOf9, List.drop_succ_cons, List.drop_zero, List.take_succ_cons, List.take_zero] at h2
  obtain ⟨z2, e2, q2⟩ := h2.str Tryz.underlying9
  simp only [List.cons.injEq, and_true] at e2
  subst e2
  have h3 : Rd Tryz.prog w 9 (([.int .u8 z0, .string z1, .string z2, c3].drop 3).take (Tryz.prog.cellsOf 9)) := hf 3 _ rfl
  simp only [cellsOf9, List.drop_succ_cons, List.drop_zero, List.take_succ_cons, List.take_zero] at h3
  obtain ⟨z3, e3, q3⟩ := h3.str Tryz.underlying9
  simp only [List.cons.injEq, and_true] at e3
  subst e3
  exact ⟨z0, z1, z2, z3, rfl, q0, q1, q2, q3⟩
theorem open27 {w : World} {cs : List Value} (h : Rd Tryz.prog w 27 cs) : ∃ (xk : Int) (xc : Int) (xs : Int) (xok : Int) (xop : ByteArray) (xoq : ByteArray) (xor : ByteArray), cs = [.int .u8 xk, .int .i64 xc, .int .i64 xs, .int .u8 xok, .string xop, .string xoq, .string xor] ∧ (Lit.int .u8 xk).wf = true ∧ (Lit.int .i64 xc).wf = true ∧ (Lit.int .i64 xs).wf = true ∧ (Lit.int .u8 xok).wf = true ∧ xop.size ≤ maxLen ∧ xoq.size ≤ maxLen ∧ xor.size ≤ maxLen := by
  obtain ⟨hl, hf⟩ := h.struct Tryz.underlying27
  rw [cellsOf27] at hl
  obtain ⟨c0, r0, rfl, hl0⟩ := len_succ hl
  obtain ⟨c1, r1, rfl, hl1⟩ := len_succ hl0
  obtain ⟨c2, r2, rfl, hl2⟩ := len_succ hl1
  obtain ⟨c3, r3, rfl, hl3⟩ := len_succ hl2
  obtain ⟨c4, r4, rfl, hl4⟩ := len_succ hl3
  obtain ⟨c5, r5, rfl, hl5⟩ := len_succ hl4
  obtain ⟨c6, r6, rfl, hl6⟩ := len_succ hl5
  obtain rfl := len_zero hl6
  have h0 : Rd Tryz.prog w 5 (([c0, c1, c2, c3, c4, c5, c6].drop 0).take (Tryz.prog.cellsOf 5)) := hf 0 _ rfl
  simp only [cellsOf5, List.drop_succ_cons, List.drop_zero, List.take_succ_cons, List.take_zero] at h0
  obtain ⟨z0, e0, q0⟩ := h0.int Tryz.underlying5
  simp only [List.cons.injEq, and_true] at e0
  subst e0
  have h1 : Rd Tryz.prog w 3 (([.int .u8 z0, c1, c2, c3, c4, c5, c6].drop 1).take (Tryz.prog.cellsOf 3)) := hf 1 _ rfl
  simp only [cellsOf3, List.drop_succ_cons, List.drop_zero, List.take_succ_cons, List.take_zero] at h1
  obtain ⟨z1, e1, q1⟩ := h1.int Tryz.underlying3
  simp only [List.cons.injEq, and_true] at e1
  subst e1
  have h2 : Rd Tryz.prog w 3 (([.int .u8 z0, .int .i64 z1, c2, c3, c4, c5, c6].drop 2).take (Tryz.prog.cellsOf 3)) := hf 2 _ rfl
  simp only [cellsOf3, List.drop_succ_cons, List.drop_zero, List.take_succ_cons, List.take_zero] at h2
  obtain ⟨z2, e2, q2⟩ := h2.int Tryz.underlying3
  simp only [List.cons.injEq, and_true] at e2
  subst e2
  have h3 : Rd Tryz.prog w 25 (([.int .u8 z0, .int .i64 z1, .int .i64 z2, c3, c4, c5, c6].drop 3).take (Tryz.prog.cellsOf 25)) := hf 3 _ rfl
  simp only [cellsOf25, List.drop_succ_cons, List.drop_zero, List.take_succ_cons, List.take_zero] at h3
  obtain ⟨y3k, y3p, y3q, y3r, e3, q3_0, q3_1, q3_2, q3_3⟩ := open25 h3
  simp only [List.cons.injEq, and_true] at e3
  obtain ⟨rfl, rfl, rfl, rfl⟩ := e3
  exact ⟨z0, z1, z2, y3k, y3p, y3q, y3r, rfl, q0, q1, q2, q3_0, q3_1, q3_2, q3_3⟩
theorem open30 {w : World} {cs : List Value} (h : Rd Tryz.prog w 30 cs) : ∃ (xe : Int) (xf : Bool) (xv : ByteArray), cs = [.int .i64 xe, .bool xf, .string xv] ∧ (Lit.int .i64 xe).wf = true ∧ xv.size ≤ maxLen := by
  obtain ⟨hl, hf⟩ := h.struct Tryz.underlying30
  rw [cellsOf30] at hl
  obtain ⟨c0, r0, rfl, hl0⟩ := len_succ hl
  obtain ⟨c1, r1, rfl, hl1⟩ := len_succ hl0
  obtain ⟨c2, r2, rfl, hl2⟩ := len_succ hl1
  obtain rfl := len_zero hl2
  have h0 : Rd Tryz.prog w 28 (([c0, c1, c2].drop 0).take (Tryz.prog.cellsOf 28)) := hf 0 _ rfl
  simp only [cellsOf28, List.drop_succ_cons, List.drop_zero, List.take_succ_cons, List.take_zero] at h0
  obtain ⟨z0, e0, q0⟩ := h0.int Tryz.underlying28
  simp only [List.cons.injEq, and_true] at e0
  subst e0
  have h1 : Rd Tryz.prog w 4 (([.int .i64 z0, c1, c2].drop 1).take (Tryz.prog.cellsOf 4)) := hf 1 _ rfl
  simp only [cellsOf4, List.drop_succ_cons, List.drop_zero, List.take_succ_cons, List.take_zero] at h1
  obtain ⟨z1, e1⟩ := h1.bool Tryz.underlying4
  simp only [List.cons.injEq, and_true] at e1
  subst e1
  have h2 : Rd Tryz.prog w 9 (([.int .i64 z0, .bool z1, c2].drop 2).take (Tryz.prog.cellsOf 9)) := hf 2 _ rfl
  simp only [cellsOf9, List.drop_succ_cons, List.drop_zero, List.take_succ_cons, List.take_zero] at h2
  obtain ⟨z2, e2, q2⟩ := h2.str Tryz.underlying9
  simp only [List.cons.injEq, and_true] at e2
  subst e2
  exact ⟨z0, z1, z2, rfl, q0, q2⟩
theorem open34 {w : World} {cs : List Value} (h : Rd Tryz.prog w 34 cs) : ∃ (xk : Int) (xf : Int) (xt : Int) (xba : Int) (xbb : Int) (xi : Int) (xc : Int) (xn : Int) (xh : Int) (xm : Int) (xs : Int) (xek : Int) (xec : Int) (xes : Int) (xeok : Int) (xeop : ByteArray) (xeoq : ByteArray) (xeor : ByteArray) (xok : Int) (xop : ByteArray) (xoq : ByteArray) (xor : ByteArray) (xre : Int) (xrf : Bool) (xrv : ByteArray) (xRA : Option Addr) (xRn xRc : Nat) (xBA : Option Addr) (xBn xBc : Nat), cs = [.int .u8 xk, .int .i64 xf, .int .i64 xt, .int .i64 xba, .int .i64 xbb, .int .i64 xi, .int .i64 xc, .int .i64 xn, .int .i64 xh, .int .i64 xm, .int .i64 xs, .int .u8 xek, .int .i64 xec, .int .i64 xes, .int .u8 xeok, .string xeop, .string xeoq, .string xeor, .int .u8 xok, .string xop, .string xoq, .string xor, .int .i64 xre, .bool xrf, .string xrv, .slice xRA xRn xRc, .slice xBA xBn xBc] ∧ (Lit.int .u8 xk).wf = true ∧ (Lit.int .i64 xf).wf = true ∧ (Lit.int .i64 xt).wf = true ∧ (Lit.int .i64 xba).wf = true ∧ (Lit.int .i64 xbb).wf = true ∧ (Lit.int .i64 xi).wf = true ∧ (Lit.int .i64 xc).wf = true ∧ (Lit.int .i64 xn).wf = true ∧ (Lit.int .i64 xh).wf = true ∧ (Lit.int .i64 xm).wf = true ∧ (Lit.int .i64 xs).wf = true ∧ (Lit.int .u8 xek).wf = true ∧ (Lit.int .i64 xec).wf = true ∧ (Lit.int .i64 xes).wf = true ∧ (Lit.int .u8 xeok).wf = true ∧ xeop.size ≤ maxLen ∧ xeoq.size ≤ maxLen ∧ xeor.size ≤ maxLen ∧ (Lit.int .u8 xok).wf = true ∧ xop.size ≤ maxLen ∧ xoq.size ≤ maxLen ∧ xor.size ≤ maxLen ∧ (Lit.int .i64 xre).wf = true ∧ xrv.size ≤ maxLen ∧ Sl Tryz.prog w 96 xRA xRn xRc ∧ Sl Tryz.prog w 5 xBA xBn xBc := by
  obtain ⟨hl, hf⟩ := h.struct Tryz.underlying34
  rw [cellsOf34] at hl
  obtain ⟨c0, r0, rfl, hl0⟩ := len_succ hl
  obtain ⟨c1, r1, rfl, hl1⟩ := len_succ hl0
  obtain ⟨c2, r2, rfl, hl2⟩ := len_succ hl1
  obtain ⟨c3, r3, rfl, hl3⟩ := len_succ hl2
  obtain ⟨c4, r4, rfl, hl4⟩ := len_succ hl3
  obtain ⟨c5, r5, rfl, hl5⟩ := len_succ hl4
  obtain ⟨c6, r6, rfl, hl6⟩ := len_succ hl5
  obtain ⟨c7, r7, rfl, hl7⟩ := len_succ hl6
  obtain ⟨c8, r8, rfl, hl8⟩ := len_succ hl7
  obtain ⟨c9, r9, rfl, hl9⟩ := len_succ hl8
  obtain ⟨c10, r10, rfl, hl10⟩ := len_succ hl9
  obtain ⟨c11, r11, rfl, hl11⟩ := len_succ hl10
  obtain ⟨c12, r12, rfl, hl12⟩ := len_succ hl11
  obtain ⟨c13, r13, rfl, hl13⟩ := len_succ hl12
  obtain ⟨c14, r14, rfl, hl14⟩ := len_succ hl13
  obtain ⟨c15, r15, rfl, hl15⟩ := len_succ hl14
  obtain ⟨c16, r16, rfl, hl16⟩ := len_succ hl15
  obtain ⟨c17, r17, rfl, hl17⟩ := len_succ hl16
  obtain ⟨c18, r18, rfl, hl18⟩ := len_succ hl17
  obtain ⟨c19, r19, rfl, hl19⟩ := len_succ hl18
  obtain ⟨c20, r20, rfl, hl20⟩ := len_succ hl19
  obtain ⟨c21, r21, rfl, hl21⟩ := len_succ hl20
  obtain ⟨c22, r22, rfl, hl22⟩ := len_succ hl21
  obtain ⟨c23, r23, rfl, hl23⟩ := len_succ hl22
  obtain ⟨c24, r24, rfl, hl24⟩ := len_succ hl23
  obtain ⟨c25, r25, rfl, hl25⟩ := len_succ hl24
  obtain ⟨c26, r26, rfl, hl26⟩ := len_succ hl25
  obtain rfl := len_zero hl26
  have h0 : Rd Tryz.prog w 5 (([c0, c1, c2, c3, c4, c5, c6, c7, c8, c9, c10, c11, c12, c13, c14, c15, c16, c17, c18, c19, c20, c21, c22, c23, c24, c25, c26].drop 0).take (Tryz.prog.cellsOf 5)) := hf 0 _ rfl
  simp only [cellsOf5, List.drop_succ_cons, List.drop_zero, List.take_succ_cons, List.take_zero] at h0
  obtain ⟨z0, e0, q0⟩ := h0.int Tryz.underlying5
  simp only [List.cons.injEq, and_true] at e0
  subst e0
  have h1 : Rd Tryz.prog w 3 (([.int .u8 z0, c1, c2, c3, c4, c5, c6, c7, c8, c9, c10, c11, c12, c13, c14, c15, c16, c17, c18, c19, c20, c21, c22, c23, c24, c25, c26].drop 1).take (Tryz.prog.cellsOf 3)) := hf 1 _ rfl
  simp only [cellsOf3, List.drop_succ_cons, List.drop_zero, List.take_succ_cons, List.take_zero] at h1
  obtain ⟨z1, e1, q1⟩ := h1.int Tryz.underlying3
  simp only [List.cons.injEq, and_true] at e1
  subst e1
  have h2 : Rd Tryz.prog w 3 (([.int .u8 z0, .int .i64 z1, c2, c3, c4, c5, c6, c7, c8, c9, c10, c11, c12, c13, c14, c15, c16, c17, c18, c19, c20, c21, c22, c23, c24, c25, c26].drop 2).take (Tryz.prog.cellsOf 3)) := hf 2 _ rfl
  simp only [cellsOf3, List.drop_succ_cons, List.drop_zero, List.take_succ_cons, List.take_zero] at h2
  obtain ⟨z2, e2, q2⟩ := h2.int Tryz.underlying3
  simp only [List.cons.injEq, and_true] at e2
  subst e2
  have h3 : Rd Tryz.prog w 23 (([.int .u8 z0, .int .i64 z1, .int .i64 z2, c3, c4, c5, c6, c7, c8, c9, c10, c11, c12, c13, c14, c15, c16, c17, c18, c19, c20, c21, c22, c23, c24, c25, c26].drop 3).take (Tryz.prog.cellsOf 23)) := hf 3 _ rfl
  simp only [cellsOf23, List.drop_succ_cons, List.drop_zero, List.take_succ_cons, List.take_zero] at h3
  obtain ⟨y3a, y3b, e3, q3_0, q3_1⟩ := open23 h3
  simp only [List.cons.injEq, and_true] at e3
  obtain ⟨rfl, rfl⟩ := e3
  have h4 : Rd Tryz.prog w 3 (([.int .u8 z0, .int .i64 z1, .int .i64 z2, .int .i64 y3a, .int .i64 y3b, c5, c6, c7, c8, c9, c10, c11, c12, c13, c14, c15, c16, c17, c18, c19, c20, c21, c22, c23, c24, c25, c26].drop 5).take (Tryz.prog.cellsOf 3)) := hf 4 _ rfl
  simp only [cellsOf3, List.drop_succ_cons, List.drop_zero, List.take_succ_cons, List.take_zero] at h4
  obtain ⟨z4, e4, q4⟩ := h4.int Tryz.underlying3
  simp only [List.cons.injEq, and_true] at e4
  subst e4
  have h5 : Rd Tryz.prog w 3 (([.int .u8 z0, .int .i64 z1, .int .i64 z2, .int .i64 y3a, .int .i64 y3b, .int .i64 z4, c6, c7, c8, c9, c10, c11, c12, c13, c14, c15, c16, c17, c18, c19, c20, c21, c22, c23, c24, c25, c26].drop 6).take (Tryz.prog.cellsOf 3)) := hf 5 _ rfl
  simp only [cellsOf3, List.drop_succ_cons, List.drop_zero, List.take_succ_cons, List.take_zero] at h5
  obtain ⟨z5, e5, q5⟩ := h5.int Tryz.underlying3
  simp only [List.cons.injEq, and_true] at e5
  subst e5
  have h6 : Rd Tryz.prog w 3 (([.int .u8 z0, .int .i64 z1, .int .i64 z2, .int .i64 y3a, .int .i64 y3b, .int .i64 z4, .int .i64 z5, c7, c8, c9, c10, c11, c12, c13, c14, c15, c16, c17, c18, c19, c20, c21, c22, c23, c24, c25, c26].drop 7).take (Tryz.prog.cellsOf 3)) := hf 6 _ rfl
  simp only [cellsOf3, List.drop_succ_cons, List.drop_zero, List.take_succ_cons, List.take_zero] at h6
  obtain ⟨z6, e6, q6⟩ := h6.int Tryz.underlying3
  simp only [List.cons.injEq, and_true] at e6
  subst e6
  have h7 : Rd Tryz.prog w 3 (([.int .u8 z0, .int .i64 z1, .int .i64 z2, .int .i64 y3a, .int .i64 y3b, .int .i64 z4, .int .i64 z5, .int .i64 z6, c8, c9, c10, c11, c12, c13, c14, c15, c16, c17, c18, c19, c20, c21, c22, c23, c24, c25, c26].drop 8).take (Tryz.prog.cellsOf 3)) := hf 7 _ rfl
  simp only [cellsOf3, List.drop_succ_cons, List.drop_zero, List.take_succ_cons, List.take_zero] at h7
  obtain ⟨z7, e7, q7⟩ := h7.int Tryz.underlying3
  simp only [List.cons.injEq, and_true] at e7
  subst e7
  have h8 : Rd Tryz.prog w 3 (([.int .u8 z0, .int .i64 z1, .int .i64 z2, .int .i64 y3a, .int .i64 y3b, .int .i64 z4, .int .i64 z5, .int .i64 z6, .int .i64 z7, c9, c10, c11, c12, c13, c14, c15, c16, c17, c18, c19, c20, c21, c22, c23, c24, c25, c26].drop 9).take (Tryz.prog.cellsOf 3)) := hf 8 _ rfl
  simp only [cellsOf3, List.drop_succ_cons, List.drop_zero, List.take_succ_cons, List.take_zero] at h8
  obtain ⟨z8, e8, q8⟩ := h8.int Tryz.underlying3
  simp only [List.cons.injEq, and_true] at e8
  subst e8
  have h9 : Rd Tryz.prog w 3 (([.int .u8 z0, .int .i64 z1, .int .i64 z2, .int .i64 y3a, .int .i64 y3b, .int .i64 z4, .int .i64 z5, .int .i64 z6, .int .i64 z7, .int .i64 z8, c10, c11, c12, c13, c14, c15, c16, c17, c18, c19, c20, c21, c22, c23, c24, c25, c26].drop 10).take (Tryz.prog.cellsOf 3)) := hf 9 _ rfl
  simp only [cellsOf3, List.drop_succ_cons, List.drop_zero, List.take_succ_cons, List.take_zero] at h9
  obtain ⟨z9, e9, q9⟩ := h9.int Tryz.underlying3
  simp only [List.cons.injEq, and_true] at e9
  subst e9
  have h10 : Rd Tryz.prog w 27 (([.int .u8 z0, .int .i64 z1, .int .i64 z2, .int .i64 y3a, .int .i64 y3b, .int .i64 z4, .int .i64 z5, .int .i64 z6, .int .i64 z7, .int .i64 z8, .int .i64 z9, c11, c12, c13, c14, c15, c16, c17, c18, c19, c20, c21, c22, c23, c24, c25, c26].drop 11).take (Tryz.prog.cellsOf 27)) := hf 10 _ rfl
  simp only [cellsOf27, List.drop_succ_cons, List.drop_zero, List.take_succ_cons, List.take_zero] at h10
  obtain ⟨y10k, y10c, y10s, y10ok, y10op, y10oq, y10or, e10, q10_0, q10_1, q10_2, q10_3, q10_4, q10_5, q10_6⟩ := open27 h10
  simp only [List.cons.injEq, and_true] at e10
  obtain ⟨rfl, rfl, rfl, rfl, rfl, rfl, rfl⟩ := e10
  have h11 : Rd Tryz.prog w 25 (([.int .u8 z0, .int .i64 z1, .int .i64 z2, .int .i64 y3a, .int .i64 y3b, .int .i64 z4, .int .i64 z5, .int .i64 z6, .int .i64 z7, .int .i64 z8, .int .i64 z9, .int .u8 y10k, .int .i64 y10c, .int .i64 y10s, .int .u8 y10ok, .string y10op, .string y10oq, .string y10or, c18, c19, c20, c21, c22, c23, c24, c25, c26].drop 18).take (Tryz.prog.cellsOf 25)) := hf 11 _ rfl
  simp only [cellsOf25, List.drop_succ_cons, List.drop_zero, List.take_succ_cons, List.take_zero] at h11
  obtain ⟨y11k, y11p, y11q, y11r, e11, q11_0, q11_1, q11_2, q11_3⟩ := open25 h11
  simp only [List.cons.injEq, and_true] at e11
  obtain ⟨rfl, rfl, rfl, rfl⟩ := e11
  have h12 : Rd Tryz.prog w 30 (([.int .u8 z0, .int .i64 z1, .int .i64 z2, .int .i64 y3a, .int .i64 y3b, .int .i64 z4, .int .i64 z5, .int .i64 z6, .int .i64 z7, .int .i64 z8, .int .i64 z9, .int .u8 y10k, .int .i64 y10c, .int .i64 y10s, .int .u8 y10ok, .string y10op, .string y10oq, .string y10or, .int .u8 y11k, .string y11p, .string y11q, .string y11r, c22, c23, c24, c25, c26].drop 22).take (Tryz.prog.cellsOf 30)) := hf 12 _ rfl
  simp only [cellsOf30, List.drop_succ_cons, List.drop_zero, List.take_succ_cons, List.take_zero] at h12
  obtain ⟨y12e, y12f, y12v, e12, q12_0, q12_1⟩ := open30 h12
  simp only [List.cons.injEq, and_true] at e12
  obtain ⟨rfl, rfl, rfl⟩ := e12
  have h13 : Rd Tryz.prog w 31 (([.int .u8 z0, .int .i64 z1, .int .i64 z2, .int .i64 y3a, .int .i64 y3b, .int .i64 z4, .int .i64 z5, .int .i64 z6, .int .i64 z7, .int .i64 z8, .int .i64 z9, .int .u8 y10k, .int .i64 y10c, .int .i64 y10s, .int .u8 y10ok, .string y10op, .string y10oq, .string y10or, .int .u8 y11k, .string y11p, .string y11q, .string y11r, .int .i64 y12e, .bool y12f, .string y12v, c25, c26].drop 25).take (Tryz.prog.cellsOf 31)) := hf 13 _ rfl
  simp only [cellsOf31, List.drop_succ_cons, List.drop_zero, List.take_succ_cons, List.take_zero] at h13
  obtain ⟨z13A, z13n, z13c, e13, q13⟩ := sl_of h13 Tryz.underlying31
  simp only [List.cons.injEq, and_true] at e13
  subst e13
  have h14 : Rd Tryz.prog w 32 (([.int .u8 z0, .int .i64 z1, .int .i64 z2, .int .i64 y3a, .int .i64 y3b, .int .i64 z4, .int .i64 z5, .int .i64 z6, .int .i64 z7, .int .i64 z8, .int .i64 z9, .int .u8 y10k, .int .i64 y10c, .int .i64 y10s, .int .u8 y10ok, .string y10op, .string y10oq, .string y10or, .int .u8 y11k, .string y11p, .string y11q, .string y11r, .int .i64 y12e, .bool y12f, .string y12v, .slice z13A z13n z13c, c26].drop 26).take (Tryz.prog.cellsOf 32)) := hf 14 _ rfl
  simp only [cellsOf32, List.drop_succ_cons, List.drop_zero, List.take_succ_cons, List.take_zero] at h14
  obtain ⟨z14A, z14n, z14c, e14, q14⟩ := sl_of h14 Tryz.underlying32
  simp only [List.cons.injEq, and_true] at e14
  subst e14
  exact ⟨z0, z1, z2, y3a, y3b, z4, z5, z6, z7, z8, z9, y10k, y10c, y10s, y10ok, y10op, y10oq, y10or, y11k, y11p, y11q, y11r, y12e, y12f, y12v, z13A, z13n, z13c, z14A, z14n, z14c, rfl, q0, q1, q2, q3_0, q3_1, q4, q5, q6, q7, q8, q9, q10_0, q10_1, q10_2, q10_3, q10_4, q10_5, q10_6, q11_0, q11_1, q11_2, q11_3, q12_0, q12_1, q13, q14⟩
theorem open37 {w : World} {cs : List Value} (h : Rd Tryz.prog w 37 cs) : ∃ (xk : Int) (xs : Int) (xn : Int) (xBA : Option Addr) (xBn xBc : Nat) (xKA : Option Addr) (xKn xKc : Nat), cs = [.int .u8 xk, .int .i64 xs, .int .i64 xn, .slice xBA xBn xBc, .slice xKA xKn xKc] ∧ (Lit.int .u8 xk).wf = true ∧ (Lit.int .i64 xs).wf = true ∧ (Lit.int .i64 xn).wf = true ∧ Sl Tryz.prog w 5 xBA xBn xBc ∧ Sl Tryz.prog w 4 xKA xKn xKc := by
  obtain ⟨hl, hf⟩ := h.struct Tryz.underlying37
  rw [cellsOf37] at hl
  obtain ⟨c0, r0, rfl, hl0⟩ := len_succ hl
  obtain ⟨c1, r1, rfl, hl1⟩ := len_succ hl0
  obtain ⟨c2, r2, rfl, hl2⟩ := len_succ hl1
  obtain ⟨c3, r3, rfl, hl3⟩ := len_succ hl2
  obtain ⟨c4, r4, rfl, hl4⟩ := len_succ hl3
  obtain rfl := len_zero hl4
  have h0 : Rd Tryz.prog w 5 (([c0, c1, c2, c3, c4].drop 0).take (Tryz.prog.cellsOf 5)) := hf 0 _ rfl
  simp only [cellsOf5, List.drop_succ_cons, List.drop_zero, List.take_succ_cons, List.take_zero] at h0
  obtain ⟨z0, e0, q0⟩ := h0.int Tryz.underlying5
  simp only [List.cons.injEq, and_true] at e0
  subst e0
  have h1 : Rd Tryz.prog w 3 (([.int .u8 z0, c1, c2, c3, c4].drop 1).take (Tryz.prog.cellsOf 3)) := hf 1 _ rfl
  simp only [cellsOf3, List.drop_succ_cons, List.drop_zero, List.take_succ_cons, List.take_zero] at h1
  obtain ⟨z1, e1, q1⟩ := h1.int Tryz.underlying3
  simp only [List.cons.injEq, and_true] at e1
  subst e1
  have h2 : Rd Tryz.prog w 3 (([.int .u8 z0, .int .i64 z1, c2, c3, c4].drop 2).take (Tryz.prog.cellsOf 3)) := hf 2 _ rfl
  simp only [cellsOf3, List.drop_succ_cons, List.drop_zero, List.take_succ_cons, List.take_zero] at h2
  obtain ⟨z2, e2, q2⟩ := h2.int Tryz.underlying3
  simp only [List.cons.injEq, and_true] at e2
  subst e2
  have h3 : Rd Tryz.prog w 32 (([.int .u8 z0, .int .i64 z1, .int .i64 z2, c3, c4].drop 3).take (Tryz.prog.cellsOf 32)) := hf 3 _ rfl
  simp only [cellsOf32, List.drop_succ_cons, List.drop_zero, List.take_succ_cons, List.take_zero] at h3
  obtain ⟨z3A, z3n, z3c, e3, q3⟩ := sl_of h3 Tryz.underlying32
  simp only [List.cons.injEq, and_true] at e3
  subst e3
  have h4 : Rd Tryz.prog w 35 (([.int .u8 z0, .int .i64 z1, .int .i64 z2, .slice z3A z3n z3c, c4].drop 4).take (Tryz.prog.cellsOf 35)) := hf 4 _ rfl
  simp only [cellsOf35, List.drop_succ_cons, List.drop_zero, List.take_succ_cons, List.take_zero] at h4
  obtain ⟨z4A, z4n, z4c, e4, q4⟩ := sl_of h4 Tryz.underlying35
  simp only [List.cons.injEq, and_true] at e4
  subst e4
  exact ⟨z0, z1, z2, z3A, z3n, z3c, z4A, z4n, z4c, rfl, q0, q1, q2, q3, q4⟩
theorem open39 {w : World} {cs : List Value} (h : Rd Tryz.prog w 39 cs) : ∃ (xk : Int) (xmk : Int) (xmf : Int) (xmt : Int) (xmba : Int) (xmbb : Int) (xmi : Int) (xmc : Int) (xmn : Int) (xmh : Int) (xmm : Int) (xms : Int) (xmek : Int) (xmec : Int) (xmes : Int) (xmeok : Int) (xmeop : ByteArray) (xmeoq : ByteArray) (xmeor : ByteArray) (xmok : Int) (xmop : ByteArray) (xmoq : ByteArray) (xmor : ByteArray) (xmre : Int) (xmrf : Bool) (xmrv : ByteArray) (xmRA : Option Addr) (xmRn xmRc : Nat) (xmBA : Option Addr) (xmBn xmBc : Nat) (xdk : Int) (xds : Int) (xdn : Int) (xdBA : Option Addr) (xdBn xdBc : Nat) (xdKA : Option Addr) (xdKn xdKc : Nat) (xKA : Option Addr) (xKn xKc : Nat), cs = [.int .u8 xk, .int .u8 xmk, .int .i64 xmf, .int .i64 xmt, .int .i64 xmba, .int .i64 xmbb, .int .i64 xmi, .int .i64 xmc, .int .i64 xmn, .int .i64 xmh, .int .i64 xmm, .int .i64 xms, .int .u8 xmek, .int .i64 xmec, .int .i64 xmes, .int .u8 xmeok, .string xmeop, .string xmeoq, .string xmeor, .int .u8 xmok, .string xmop, .string xmoq, .string xmor, .int .i64 xmre, .bool xmrf, .string xmrv, .slice xmRA xmRn xmRc, .slice xmBA xmBn xmBc, .int .u8 xdk, .int .i64 xds, .int .i64 xdn, .slice xdBA xdBn xdBc, .slice xdKA xdKn xdKc, .slice xKA xKn xKc] ∧ (Lit.int .u8 xk).wf = true ∧ (Lit.int .u8 xmk).wf = true ∧ (Lit.int .i64 xmf).wf = true ∧ (Lit.int .i64 xmt).wf = true ∧ (Lit.int .i64 xmba).wf = true ∧ (Lit.int .i64 xmbb).wf = true ∧ (Lit.int .i64 xmi).wf = true ∧ (Lit.int .i64 xmc).wf = true ∧ (Lit.int .i64 xmn).wf = true ∧ (Lit.int .i64 xmh).wf = true ∧ (Lit.int .i64 xmm).wf = true ∧ (Lit.int .i64 xms).wf = true ∧ (Lit.int .u8 xmek).wf = true ∧ (Lit.int .i64 xmec).wf = true ∧ (Lit.int .i64 xmes).wf = true ∧ (Lit.int .u8 xmeok).wf = true ∧ xmeop.size ≤ maxLen ∧ xmeoq.size ≤ maxLen ∧ xmeor.size ≤ maxLen ∧ (Lit.int .u8 xmok).wf = true ∧ xmop.size ≤ maxLen ∧ xmoq.size ≤ maxLen ∧ xmor.size ≤ maxLen ∧ (Lit.int .i64 xmre).wf = true ∧ xmrv.size ≤ maxLen ∧ Sl Tryz.prog w 96 xmRA xmRn xmRc ∧ Sl Tryz.prog w 5 xmBA xmBn xmBc ∧ (Lit.int .u8 xdk).wf = true ∧ (Lit.int .i64 xds).wf = true ∧ (Lit.int .i64 xdn).wf = true ∧ Sl Tryz.prog w 5 xdBA xdBn xdBc ∧ Sl Tryz.prog w 4 xdKA xdKn xdKc ∧ Sl Tryz.prog w 4 xKA xKn xKc := by
  obtain ⟨hl, hf⟩ := h.struct Tryz.underlying39
  rw [cellsOf39] at hl
  obtain ⟨c0, r0, rfl, hl0⟩ := len_succ hl
  obtain ⟨c1, r1, rfl, hl1⟩ := len_succ hl0
  obtain ⟨c2, r2, rfl, hl2⟩ := len_succ hl1
  obtain ⟨c3, r3, rfl, hl3⟩ := len_succ hl2
  obtain ⟨c4, r4, rfl, hl4⟩ := len_succ hl3
  obtain ⟨c5, r5, rfl, hl5⟩ := len_succ hl4
  obtain ⟨c6, r6, rfl, hl6⟩ := len_succ hl5
  obtain ⟨c7, r7, rfl, hl7⟩ := len_succ hl6
  obtain ⟨c8, r8, rfl, hl8⟩ := len_succ hl7
  obtain ⟨c9, r9, rfl, hl9⟩ := len_succ hl8
  obtain ⟨c10, r10, rfl, hl10⟩ := len_succ hl9
  obtain ⟨c11, r11, rfl, hl11⟩ := len_succ hl10
  obtain ⟨c12, r12, rfl, hl12⟩ := len_succ hl11
  obtain ⟨c13, r13, rfl, hl13⟩ := len_succ hl12
  obtain ⟨c14, r14, rfl, hl14⟩ := len_succ hl13
  obtain ⟨c15, r15, rfl, hl15⟩ := len_succ hl14
  obtain ⟨c16, r16, rfl, hl16⟩ := len_succ hl15
  obtain ⟨c17, r17, rfl, hl17⟩ := len_succ hl16
  obtain ⟨c18, r18, rfl, hl18⟩ := len_succ hl17
  obtain ⟨c19, r19, rfl, hl19⟩ := len_succ hl18
  obtain ⟨c20, r20, rfl, hl20⟩ := len_succ hl19
  obtain ⟨c21, r21, rfl, hl21⟩ := len_succ hl20
  obtain ⟨c22, r22, rfl, hl22⟩ := len_succ hl21
  obtain ⟨c23, r23, rfl, hl23⟩ := len_succ hl22
  obtain ⟨c24, r24, rfl, hl24⟩ := len_succ hl23
  obtain ⟨c25, r25, rfl, hl25⟩ := len_succ hl24
  obtain ⟨c26, r26, rfl, hl26⟩ := len_succ hl25
  obtain ⟨c27, r27, rfl, hl27⟩ := len_succ hl26
  obtain ⟨c28, r28, rfl, hl28⟩ := len_succ hl27
  obtain ⟨c29, r29, rfl, hl29⟩ := len_succ hl28
  obtain ⟨c30, r30, rfl, hl30⟩ := len_succ hl29
  obtain ⟨c31, r31, rfl, hl31⟩ := len_succ hl30
  obtain ⟨c32, r32, rfl, hl32⟩ := len_succ hl31
  obtain ⟨c33, r33, rfl, hl33⟩ := len_succ hl32
  obtain rfl := len_zero hl33
  have h0 : Rd Tryz.prog w 5 (([c0, c1, c2, c3, c4, c5, c6, c7, c8, c9, c10, c11, c12, c13, c14, c15, c16, c17, c18, c19, c20, c21, c22, c23, c24, c25, c26, c27, c28, c29, c30, c31, c32, c33].drop 0).take (Tryz.prog.cellsOf 5)) := hf 0 _ rfl
  simp only [cellsOf5, List.drop_succ_cons, List.drop_zero, List.take_succ_cons, List.take_zero] at h0
  obtain ⟨z0, e0, q0⟩ := h0.int Tryz.underlying5
  simp only [List.cons.injEq, and_true] at e0
  subst e0
  have h1 : Rd Tryz.prog w 34 (([.int .u8 z0, c1, c2, c3, c4, c5, c6, c7, c8, c9, c10, c11, c12, c13, c14, c15, c16, c17, c18, c19, c20, c21, c22, c23, c24, c25, c26, c27, c28, c29, c30, c31, c32, c33].drop 1).take (Tryz.prog.cellsOf 34)) := hf 1 _ rfl
  simp only [cellsOf34, List.drop_succ_cons, List.drop_zero, List.take_succ_cons, List.take_zero] at h1
  obtain ⟨y1k, y1f, y1t, y1ba, y1bb, y1i, y1c, y1n, y1h, y1m, y1s, y1ek, y1ec, y1es, y1eok, y1eop, y1eoq, y1eor, y1ok, y1op, y1oq, y1or, y1re, y1rf, y1rv, y1RA, y1Rn, y1Rc, y1BA, y1Bn, y1Bc, e1, q1_0, q1_1, q1_2, q1_3, q1_4, q1_5, q1_6, q1_7, q1_8, q1_9, q1_10, q1_11, q1_12, q1_13, q1_14, q1_15, q1_16, q1_17, q1_18, q1_19, q1_20, q1_21, q1_22, q1_23, q1_24, q1_25⟩ := open34 h1
  simp only [List.cons.injEq, and_true] at e1
  obtain ⟨rfl, rfl, rfl, rfl, rfl, rfl, rfl, rfl, rfl, rfl, rfl, rfl, rfl, rfl, rfl, rfl, rfl, rfl, rfl, rfl, rfl, rfl, rfl, rfl, rfl, rfl, rfl⟩ := e1
  have h2 : Rd Tryz.prog w 37 (([.int .u8 z0, .int .u8 y1k, .int .i64 y1f, .int .i64 y1t, .int .i64 y1ba, .int .i64 y1bb, .int .i64 y1i, .int .i64 y1c, .int .i64 y1n, .int .i64 y1h, .int .i64 y1m, .int .i64 y1s, .int .u8 y1ek, .int .i64 y1ec, .int .i64 y1es, .int .u8 y1eok, .string y1eop, .string y1eoq, .string y1eor, .int .u8 y1ok, .string y1op, .string y1oq, .string y1or, .int .i64 y1re, .bool y1rf, .string y1rv, .slice y1RA y1Rn y1Rc, .slice y1BA y1Bn y1Bc, c28, c29, c30, c31, c32, c33].drop 28).take (Tryz.prog.cellsOf 37)) := hf 2 _ rfl
  simp only [cellsOf37, List.drop_succ_cons, List.drop_zero, List.take_succ_cons, List.take_zero] at h2
  obtain ⟨y2k, y2s, y2n, y2BA, y2Bn, y2Bc, y2KA, y2Kn, y2Kc, e2, q2_0, q2_1, q2_2, q2_3, q2_4⟩ := open37 h2
  simp only [List.cons.injEq, and_true] at e2
  obtain ⟨rfl, rfl, rfl, rfl, rfl⟩ := e2
  have h3 : Rd Tryz.prog w 35 (([.int .u8 z0, .int .u8 y1k, .int .i64 y1f, .int .i64 y1t, .int .i64 y1ba, .int .i64 y1bb, .int .i64 y1i, .int .i64 y1c, .int .i64 y1n, .int .i64 y1h, .int .i64 y1m, .int .i64 y1s, .int .u8 y1ek, .int .i64 y1ec, .int .i64 y1es, .int .u8 y1eok, .string y1eop, .string y1eoq, .string y1eor, .int .u8 y1ok, .string y1op, .string y1oq, .string y1or, .int .i64 y1re, .bool y1rf, .string y1rv, .slice y1RA y1Rn y1Rc, .slice y1BA y1Bn y1Bc, .int .u8 y2k, .int .i64 y2s, .int .i64 y2n, .slice y2BA y2Bn y2Bc, .slice y2KA y2Kn y2Kc, c33].drop 33).take (Tryz.prog.cellsOf 35)) := hf 3 _ rfl
  simp only [cellsOf35, List.drop_succ_cons, List.drop_zero, List.take_succ_cons, List.take_zero] at h3
  obtain ⟨z3A, z3n, z3c, e3, q3⟩ := sl_of h3 Tryz.underlying35
  simp only [List.cons.injEq, and_true] at e3
  subst e3
  exact ⟨z0, y1k, y1f, y1t, y1ba, y1bb, y1i, y1c, y1n, y1h, y1m, y1s, y1ek, y1ec, y1es, y1eok, y1eop, y1eoq, y1eor, y1ok, y1op, y1oq, y1or, y1re, y1rf, y1rv, y1RA, y1Rn, y1Rc, y1BA, y1Bn, y1Bc, y2k, y2s, y2n, y2BA, y2Bn, y2Bc, y2KA, y2Kn, y2Kc, z3A, z3n, z3c, rfl, q0, q1_0, q1_1, q1_2, q1_3, q1_4, q1_5, q1_6, q1_7, q1_8, q1_9, q1_10, q1_11, q1_12, q1_13, q1_14, q1_15, q1_16, q1_17, q1_18, q1_19, q1_20, q1_21, q1_22, q1_23, q1_24, q1_25, q2_0, q2_1, q2_2, q2_3, q2_4, q3⟩
theorem open96 {w : World} {cs : List Value} (h : Rd Tryz.prog w 96 cs) : ∃ (xi : Int) (xs : Int) (xba : Int) (xbb : Int) (xek : Int) (xec : Int) (xes : Int) (xeok : Int) (xeop : ByteArray) (xeoq : ByteArray) (xeor : ByteArray), cs = [.int .i64 xi, .int .u8 xs, .int .i64 xba, .int .i64 xbb, .int .u8 xek, .int .i64 xec, .int .i64 xes, .int .u8 xeok, .string xeop, .string xeoq, .string xeor] ∧ (Lit.int .i64 xi).wf = true ∧ (Lit.int .u8 xs).wf = true ∧ (Lit.int .i64 xba).wf = true ∧ (Lit.int .i64 xbb).wf = true ∧ (Lit.int .u8 xek).wf = true ∧ (Lit.int .i64 xec).wf = true ∧ (Lit.int .i64 xes).wf = true ∧ (Lit.int .u8 xeok).wf = true ∧ xeop.size ≤ maxLen ∧ xeoq.size ≤ maxLen ∧ xeor.size ≤ maxLen := by
  obtain ⟨hl, hf⟩ := h.struct Tryz.underlying96
  rw [cellsOf96] at hl
  obtain ⟨c0, r0, rfl, hl0⟩ := len_succ hl
  obtain ⟨c1, r1, rfl, hl1⟩ := len_succ hl0
  obtain ⟨c2, r2, rfl, hl2⟩ := len_succ hl1
  obtain ⟨c3, r3, rfl, hl3⟩ := len_succ hl2
  obtain ⟨c4, r4, rfl, hl4⟩ := len_succ hl3
  obtain ⟨c5, r5, rfl, hl5⟩ := len_succ hl4
  obtain ⟨c6, r6, rfl, hl6⟩ := len_succ hl5
  obtain ⟨c7, r7, rfl, hl7⟩ := len_succ hl6
  obtain ⟨c8, r8, rfl, hl8⟩ := len_succ hl7
  obtain ⟨c9, r9, rfl, hl9⟩ := len_succ hl8
  obtain ⟨c10, r10, rfl, hl10⟩ := len_succ hl9
  obtain rfl := len_zero hl10
  have h0 : Rd Tryz.prog w 3 (([c0, c1, c2, c3, c4, c5, c6, c7, c8, c9, c10].drop 0).take (Tryz.prog.cellsOf 3)) := hf 0 _ rfl
  simp only [cellsOf3, List.drop_succ_cons, List.drop_zero, List.take_succ_cons, List.take_zero] at h0
  obtain ⟨z0, e0, q0⟩ := h0.int Tryz.underlying3
  simp only [List.cons.injEq, and_true] at e0
  subst e0
  have h1 : Rd Tryz.prog w 5 (([.int .i64 z0, c1, c2, c3, c4, c5, c6, c7, c8, c9, c10].drop 1).take (Tryz.prog.cellsOf 5)) := hf 1 _ rfl
  simp only [cellsOf5, List.drop_succ_cons, List.drop_zero, List.take_succ_cons, List.take_zero] at h1
  obtain ⟨z1, e1, q1⟩ := h1.int Tryz.underlying5
  simp only [List.cons.injEq, and_true] at e1
  subst e1
  have h2 : Rd Tryz.prog w 23 (([.int .i64 z0, .int .u8 z1, c2, c3, c4, c5, c6, c7, c8, c9, c10].drop 2).take (Tryz.prog.cellsOf 23)) := hf 2 _ rfl
  simp only [cellsOf23, List.drop_succ_cons, List.drop_zero, List.take_succ_cons, List.take_zero] at h2
  obtain ⟨y2a, y2b, e2, q2_0, q2_1⟩ := open23 h2
  simp only [List.cons.injEq, and_true] at e2
  obtain ⟨rfl, rfl⟩ := e2
  have h3 : Rd Tryz.prog w 27 (([.int .i64 z0, .int .u8 z1, .int .i64 y2a, .int .i64 y2b, c4, c5, c6, c7, c8, c9, c10].drop 4).take (Tryz.prog.cellsOf 27)) := hf 3 _ rfl
  simp only [cellsOf27, List.drop_succ_cons, List.drop_zero, List.take_succ_cons, List.take_zero] at h3
  obtain ⟨y3k, y3c, y3s, y3ok, y3op, y3oq, y3or, e3, q3_0, q3_1, q3_2, q3_3, q3_4, q3_5, q3_6⟩ := open27 h3
  simp only [List.cons.injEq, and_true] at e3
  obtain ⟨rfl, rfl, rfl, rfl, rfl, rfl, rfl⟩ := e3
  exact ⟨z0, z1, y2a, y2b, y3k, y3c, y3s, y3ok, y3op, y3oq, y3or, rfl, q0, q1, q2_0, q2_1, q3_0, q3_1, q3_2, q3_3, q3_4, q3_5, q3_6⟩
end Go.Proofs.YtjolgpfbdonoaaaGreatDoor
