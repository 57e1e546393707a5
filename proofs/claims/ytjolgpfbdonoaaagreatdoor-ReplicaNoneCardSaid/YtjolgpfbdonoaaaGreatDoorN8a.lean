/- Whatever message, ID, n and small number of sectors: a replica that nobody made tells nothing, and none begins over a disk that nobody made, or over one that is too small. Conditions: none but the card's own: the listed tables are as the program's text lays them. -/
import Derived.Test.YtjolgpfbdonoaaaGreatDoorCards
import Derived.Test.YtjolgpfbdonoaaaGreatDoorTie
import Derived.Test.YtjolgpfbdonoaaaGreatDoorN6
import Derived.Test.YtjolgpfbdonoaaaGreatDoorO2
import Derived.WalkKit
import Derived.ProofKit
import Derived.OpenShut
import Derived.Below
import Derived.ChangeOld
import Derived.Deep.DeepHandedRow
import Derived.Lib.LaidTab
import Derived.Lib.DecodeN
namespace Go.Proofs.YtjolgpfbdonoaaaGreatDoor.replicaNone
open Go.ChangeShapes Go.WideShapes Go.ChangeAt Go.RowKit
set_option linter.unusedVariables false
theorem own : ownKnob Tryz.prog.godebug = none := by kernel_rfl
theorem laidOut : laidOutB Tryz.prog = true := by kernel_rfl
theorem repAt_of {W : World} {A : Option Addr} {n c : Nat} (h : Sl Tryz.prog W 96 A n c) : RepAt W A n := fun i hi => by
  obtain ⟨a, cs', e, hl, hr, hat⟩ := h.el i hi
  obtain ⟨x1, x2, x3, x4, x5, x6, x7, x8, x9, x10, x11, e2, _⟩ := open96 hr
  rw [cellsOf96] at hat
  subst e2
  refine ⟨a, x8, x9, x10, x11, e, fun j v hv => ?_⟩
  have hj : j < 4 := (List.getElem?_eq_some_iff.1 hv).1
  have h1 := hat (7 + j) (by omega)
  rw [add_off _ _ (by omega)] at h1
  rw [show (a.add (i * 11)).off + 7 + j = (a.add (i * 11)).off + (7 + j) by omega, h1]
  match j, hj with
  | 0, _ => exact hv
  | 1, _ => exact hv
  | 2, _ => exact hv
  | 3, _ => exact hv
set_option maxRecDepth 100000 in
set_option maxHeartbeats 4000000 in
theorem contract (H : Type) (enc : TypeId × Value → H) (W : World) (base : Nat) (args : Array Value) (ds gs : List (DataW H)) (before : List MemPlace)
    (hval0 : ∀ (j : Nat) t v, Tryz.f3.params[j]? = some t → args[j]? = some v → Value.okWide Tryz.prog W .any base t v)
    (hW : DataW.Whole enc Tryz.prog Tryz.f3.params.toList Rows.replicaNoneSpec.vars false W args.toList ds gs before) :
    Calls Tryz.prog 3 args W fun e W' => ∃ v, e = .returned v ∧ Rows.replicaNoneSpec.post enc Tryz.prog Tryz.f3 false true false false W args v W' := by
  have hval : ∀ (j : Nat) t v, Tryz.f3.params[j]? = some t → args[j]? = some v → Value.okWide Tryz.prog W .any base t v := hval0
  have hW' := hW
  obtain ⟨p, q, hA0, hV, rfl, hfz, hnd⟩ := hW
  have hA : DataW.TrodAll enc Tryz.prog W 0 (fun _ => true) true Tryz.f3.params.toList args.toList ds p := hA0
  rw [Tryz.params3] at hA hval
  obtain ⟨v0, vs0, d0, ds0, p0, q0, hargs, rfl, rfl, h0, r0⟩ := trodAll_cons hA
  obtain ⟨v1, vs1, d1, ds1, p1, q1, rfl, rfl, rfl, h1, r1⟩ := trodAll_cons r0
  obtain ⟨v2, vs2, d2, ds2, p2, q2, rfl, rfl, rfl, h2, r2⟩ := trodAll_cons r1
  obtain ⟨v3, vs3, d3, ds3, p3, q3, rfl, rfl, rfl, h3, r3⟩ := trodAll_cons r2
  obtain ⟨rfl, rfl, rfl⟩ := trodAll_nil r3
  obtain rfl : args = #[v0, v1, v2, v3] := by cases args; simp_all
  obtain ⟨rfl, rfl⟩ := trodVars_none hV
  obtain ⟨a0, rfl, rfl, rfl, w0⟩ := open_int Tryz.underlying3 (hval 0 3 v0 rfl rfl) h0
  obtain ⟨a1, rfl, rfl, rfl, w1⟩ := open_int Tryz.underlying3 (hval 1 3 v1 rfl rfl) h1
  obtain ⟨a2, rfl, rfl, rfl, w2⟩ := open_int Tryz.underlying3 (hval 2 3 v2 rfl rfl) h2
  obtain ⟨cs, rfl, _⟩ := okWide_struct Tryz.underlying39 (hval 3 39 v3 rfl rfl)
  have k3 := h3
  have lt3 : ∀ x ∈ p3, x.block < W.heap.size := by obtain ⟨m, hm⟩ := k3; exact DataW.trod_lt m _ _ _ hm
  have hr := Rd.of_trod h3
  clear hA0 hval0 hA hval h3 r0 r1 r2 r3
  obtain ⟨xk, xmk, xmf, xmt, xmba, xmbb, xmi, xmc, xmn, xmh, xmm, xms, xmek, xmec, xmes, xmeok, xmeop, xmeoq, xmeor, xmok, xmop, xmoq, xmor, xmre, xmrf, xmrv, xmRA, xmRn, xmRc, xmBA, xmBn, xmBc, xdk, xds, xdn, xdBA, xdBn, xdBc, xdKA, xdKn, xdKc, xKA, xKn, xKc, e3, hc⟩ := open39 hr
  have hsl : Sl Tryz.prog W 96 xmRA xmRn xmRc := by
    (repeat (first | exact hc.1 | (obtain ⟨_, hc⟩ := hc)))
  have hs2 : (Lit.int .i64 a2).wf = true := w2
  obtain rfl : cs = #[.int .u8 xk, .int .u8 xmk, .int .i64 xmf, .int .i64 xmt, .int .i64 xmba, .int .i64 xmbb, .int .i64 xmi, .int .i64 xmc, .int .i64 xmn, .int .i64 xmh, .int .i64 xmm, .int .i64 xms, .int .u8 xmek, .int .i64 xmec, .int .i64 xmes, .int .u8 xmeok, .string xmeop, .string xmeoq, .string xmeor, .int .u8 xmok, .string xmop, .string xmoq, .string xmor, .int .i64 xmre, .bool xmrf, .string xmrv, .slice xmRA xmRn xmRc, .slice xmBA xmBn xmBc, .int .u8 xdk, .int .i64 xds, .int .i64 xdn, .slice xdBA xdBn xdBc, .slice xdKA xdKn xdKc, .slice xKA xKn xKc] := by cases cs; simpa [Value.cells] using e3
  refine (law_any a0 a1 a2 xk xmk xmf xmt xmba xmbb xmi xmc xmn xmh xmm xms xmek xmec xmes xmeok xmok xmre xmeop xmeoq xmeor xmop xmoq xmor xmrv xmrf xmRA xmRn xmRc xmBA xmBn xmBc xdk xds xdn xdBA xdBn xdBc xdKA xdKn xdKc xKA xKn xKc W (repAt_of hsl) (by have h1 := hsl.le; have h2 := hsl.max; unfold maxLen at h2; omega) hs2).mono fun e W' ⟨he, bel⟩ => ?_
  subst he
  exact ⟨_, rfl, _, _, _, [], _, [], hW', trodAll_mk1 (shut_bool Tryz.underlying4 _), trodAll_cons_mk (shut_int Tryz.underlying3 w0) (trodAll_cons_mk (shut_int Tryz.underlying3 w1) (trodAll_cons_mk (shut_int Tryz.underlying3 w2) (trodAll_cons_mk (Below.trod laidOut (by kernel_rfl) (of_decide_eq_true (by kernel_rfl)) k3 bel lt3) trodAll_mk0))), rfl, bel.frame _, fun h => by cases h⟩
end Go.Proofs.YtjolgpfbdonoaaaGreatDoor.replicaNone
