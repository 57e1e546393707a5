/- The law's guard over a row of one act: some bool. -/
import Derived.Test.YtjolgpfbdonoaaaGreatDoorN2
namespace Go.Proofs.YtjolgpfbdonoaaaGreatDoor
open Go.RowKit
/-- The elements that a report has of its operation. -/
def RepAt (w : World) (Ar : Option Addr) (nr : Nat) : Prop := ∀ i : Nat, i < nr → ∃ (ad : Addr) (u : Int) (a b c : ByteArray), Ar = some ad ∧ w.rangeAt (ad.add (i * 11)).block ((ad.add (i * 11)).off + 7) [.int .u8 u, .string a, .string b, .string c]
theorem repAt_below {w w1 : World} (h : Below w.heap.size w w1) {Ar : Option Addr} {nr : Nat} (hr : RepAt w Ar nr) : RepAt w1 Ar nr := fun i hi => by
  obtain ⟨ad, u, a, b, c, e, hc⟩ := hr i hi
  exact ⟨ad, u, a, b, c, e, fun j v hv => cell_below h (hc j v hv)⟩
theorem oneM (mk mf mt br bp mi mc mn mh mo ms ek ec es eo oo re : Int) (k1 k2 k3 o1 o2 o3 rv : ByteArray) (rf : Bool) (Ar : Option Addr) (nr cr : Nat) (Ab : Option Addr) (nb cb : Nat) : (List.toArray ([.int .u8 mk, .int .i64 mf, .int .i64 mt, .int .i64 br, .int .i64 bp, .int .i64 mi, .int .i64 mc, .int .i64 mn, .int .i64 mh, .int .i64 mo, .int .i64 ms, .int .u8 ek, .int .i64 ec, .int .i64 es, .int .u8 eo, .string k1, .string k2, .string k3, .int .u8 oo, .string o1, .string o2, .string o3, .int .i64 re, .bool rf, .string rv, .slice Ar nr cr, .slice Ab nb cb] : List Value)).all (·.oneCell') = true := all_oneCell_toArray (by simp [Value.oneCell'])
set_option maxRecDepth 20000 in
set_option maxHeartbeats 2000000 in
theorem great_0 (mk mf mt br bp mi mc mn mh mo ms ek ec es eo oo re : Int) (k1 k2 k3 o1 o2 o3 rv : ByteArray) (rf : Bool) (Ar : Option Addr) (nr cr : Nat) (Ab : Option Addr) (nb cb : Nat) (dk ds dn : Int) (Ad : Option Addr) (nd cd : Nat) (Ae : Option Addr) (ne ce : Nat) (Ak : Option Addr) (nk ck : Nat) (b : Nat) (w : World) (hm : w.rangeAt b 1 [.int .u8 mk, .int .i64 mf, .int .i64 mt, .int .i64 br, .int .i64 bp, .int .i64 mi, .int .i64 mc, .int .i64 mn, .int .i64 mh, .int .i64 mo, .int .i64 ms, .int .u8 ek, .int .i64 ec, .int .i64 es, .int .u8 eo, .string k1, .string k2, .string k3, .int .u8 oo, .string o1, .string o2, .string o3, .int .i64 re, .bool rf, .string rv, .slice Ar nr cr, .slice Ab nb cb]) (d0 : w.cell? ⟨b, 28, none⟩ = some (.int .u8 dk)) (d1 : w.cell? ⟨b, 29, none⟩ = some (.int .i64 ds)) (d2 : w.cell? ⟨b, 30, none⟩ = some (.int .i64 dn)) (d3 : w.cell? ⟨b, 31, none⟩ = some (.slice Ad nd cd)) (d4 : w.cell? ⟨b, 32, none⟩ = some (.slice Ae ne ce)) (d5 : w.cell? ⟨b, 33, none⟩ = some (.slice Ak nk ck)) (hrep : RepAt w Ar nr) (hnr : nr ≤ 9223372036854775807)
    (t0 : (30 : Int) < (nr : Int)) :
    Calls Tryz.prog 4 #[.slice (some ⟨b, 0, none⟩) 1 1] w (SomeBool w) := by
  have HM := Lib.hid hm
  have HR := Lib.hid hrep
  clear hm hrep
  have hbz := block_lt_of_cell d5
  have hu := Tryz.underlying34
  have hu25 := Tryz.underlying25
  go_enter Tryz.func4, Tryz.ntmps4
  go_wp2_with fail
  go_loopw [3] (fun i wr => (i = .int .i64 0 ∧ wr = w) ∨ (i = .int .i64 1 ∧ Below w.heap.size w wr)) (fun i _ => 1 - (intOf i).toNat)
  case atStart => exact .inl ⟨rfl, rfl⟩
  case round =>
    rcases hrel with ⟨rfl, rfl⟩ | ⟨rfl, hbr⟩
    · go_wp2_with (first | (refine wpList_load_mid rfl 34 (.tmp 18) rfl b 1 rfl _ _ HM.out hu rfl (by kernel_rfl) ?_) | (refine wpList_store_new rfl 34 (.tmp 4) (.tmp 19) rfl _ _ _ rfl rfl (by kernel_rfl) (by rfl) (oneM mk mf mt br bp mi mc mn mh mo ms ek ec es eo oo re k1 k2 k3 o1 o2 o3 rv rf Ar nr cr Ab nb cb) ?_) | fail)
      go_ret
      exact ⟨_, rfl, below_alloc (Below.refl _ _) _⟩
    · go_wp2_with fail
      go_ret
      exact ⟨_, rfl, hbr⟩
set_option maxRecDepth 20000 in
set_option maxHeartbeats 2000000 in
theorem great_1 (mk mf mt br bp mi mc mn mh mo ms ek ec es eo oo re : Int) (k1 k2 k3 o1 o2 o3 rv : ByteArray) (rf : Bool) (Ar : Option Addr) (nr cr : Nat) (Ab : Option Addr) (nb cb : Nat) (dk ds dn : Int) (Ad : Option Addr) (nd cd : Nat) (Ae : Option Addr) (ne ce : Nat) (Ak : Option Addr) (nk ck : Nat) (b : Nat) (w : World) (hm : w.rangeAt b 1 [.int .u8 mk, .int .i64 mf, .int .i64 mt, .int .i64 br, .int .i64 bp, .int .i64 mi, .int .i64 mc, .int .i64 mn, .int .i64 mh, .int .i64 mo, .int .i64 ms, .int .u8 ek, .int .i64 ec, .int .i64 es, .int .u8 eo, .string k1, .string k2, .string k3, .int .u8 oo, .string o1, .string o2, .string o3, .int .i64 re, .bool rf, .string rv, .slice Ar nr cr, .slice Ab nb cb]) (d0 : w.cell? ⟨b, 28, none⟩ = some (.int .u8 dk)) (d1 : w.cell? ⟨b, 29, none⟩ = some (.int .i64 ds)) (d2 : w.cell? ⟨b, 30, none⟩ = some (.int .i64 dn)) (d3 : w.cell? ⟨b, 31, none⟩ = some (.slice Ad nd cd)) (d4 : w.cell? ⟨b, 32, none⟩ = some (.slice Ae ne ce)) (d5 : w.cell? ⟨b, 33, none⟩ = some (.slice Ak nk ck)) (hrep : RepAt w Ar nr) (hnr : nr ≤ 9223372036854775807)
    (t0 : ¬ ((30 : Int) < (nr : Int))) (t1 : (200 : Int) < (nb : Int)) :
    Calls Tryz.prog 4 #[.slice (some ⟨b, 0, none⟩) 1 1] w (SomeBool w) := by
  have HM := Lib.hid hm
  have HR := Lib.hid hrep
  clear hm hrep
  have hbz := block_lt_of_cell d5
  have hu := Tryz.underlying34
  have hu25 := Tryz.underlying25
  go_enter Tryz.func4, Tryz.ntmps4
  go_wp2_with fail
  go_loopw [3] (fun i wr => (i = .int .i64 0 ∧ wr = w) ∨ (i = .int .i64 1 ∧ Below w.heap.size w wr)) (fun i _ => 1 - (intOf i).toNat)
  case atStart => exact .inl ⟨rfl, rfl⟩
  case round =>
    rcases hrel with ⟨rfl, rfl⟩ | ⟨rfl, hbr⟩
    · go_wp2_with (first | (refine wpList_load_mid rfl 34 (.tmp 18) rfl b 1 rfl _ _ HM.out hu rfl (by kernel_rfl) ?_) | (refine wpList_store_new rfl 34 (.tmp 4) (.tmp 19) rfl _ _ _ rfl rfl (by kernel_rfl) (by rfl) (oneM mk mf mt br bp mi mc mn mh mo ms ek ec es eo oo re k1 k2 k3 o1 o2 o3 rv rf Ar nr cr Ab nb cb) ?_) | fail)
      go_ret
      exact ⟨_, rfl, below_alloc (Below.refl _ _) _⟩
    · go_wp2_with fail
      go_ret
      exact ⟨_, rfl, hbr⟩
set_option maxRecDepth 20000 in
set_option maxHeartbeats 2000000 in
theorem great_2 (mk mf mt br bp mi mc mn mh mo ms ek ec es eo oo re : Int) (k1 k2 k3 o1 o2 o3 rv : ByteArray) (rf : Bool) (Ar : Option Addr) (nr cr : Nat) (Ab : Option Addr) (nb cb : Nat) (dk ds dn : Int) (Ad : Option Addr) (nd cd : Nat) (Ae : Option Addr) (ne ce : Nat) (Ak : Option Addr) (nk ck : Nat) (b : Nat) (w : World) (hm : w.rangeAt b 1 [.int .u8 mk, .int .i64 mf, .int .i64 mt, .int .i64 br, .int .i64 bp, .int .i64 mi, .int .i64 mc, .int .i64 mn, .int .i64 mh, .int .i64 mo, .int .i64 ms, .int .u8 ek, .int .i64 ec, .int .i64 es, .int .u8 eo, .string k1, .string k2, .string k3, .int .u8 oo, .string o1, .string o2, .string o3, .int .i64 re, .bool rf, .string rv, .slice Ar nr cr, .slice Ab nb cb]) (d0 : w.cell? ⟨b, 28, none⟩ = some (.int .u8 dk)) (d1 : w.cell? ⟨b, 29, none⟩ = some (.int .i64 ds)) (d2 : w.cell? ⟨b, 30, none⟩ = some (.int .i64 dn)) (d3 : w.cell? ⟨b, 31, none⟩ = some (.slice Ad nd cd)) (d4 : w.cell? ⟨b, 32, none⟩ = some (.slice Ae ne ce)) (d5 : w.cell? ⟨b, 33, none⟩ = some (.slice Ak nk ck)) (hrep : RepAt w Ar nr) (hnr : nr ≤ 9223372036854775807)
    (t0 : ¬ ((30 : Int) < (nr : Int))) (t1 : ¬ ((200 : Int) < (nb : Int))) (t2 : opB o1 o2 o3 = false) :
    Calls Tryz.prog 4 #[.slice (some ⟨b, 0, none⟩) 1 1] w (SomeBool w) := by
  have HM := Lib.hid hm
  have HR := Lib.hid hrep
  clear hm hrep
  have T2 := Lib.hid t2
  clear t2
  have hbz := block_lt_of_cell d5
  have hu := Tryz.underlying34
  have hu25 := Tryz.underlying25
  go_enter Tryz.func4, Tryz.ntmps4
  go_wp2_with fail
  go_loopw [3] (fun i wr => (i = .int .i64 0 ∧ wr = w) ∨ (i = .int .i64 1 ∧ Below w.heap.size w wr)) (fun i _ => 1 - (intOf i).toNat)
  case atStart => exact .inl ⟨rfl, rfl⟩
  case round =>
    rcases hrel with ⟨rfl, rfl⟩ | ⟨rfl, hbr⟩
    · go_wp2_with (first | (refine wpList_load_mid rfl 34 (.tmp 18) rfl b 1 rfl _ _ HM.out hu rfl (by kernel_rfl) ?_) | (refine wpList_store_new rfl 34 (.tmp 4) (.tmp 19) rfl _ _ _ rfl rfl (by kernel_rfl) (by rfl) (oneM mk mf mt br bp mi mc mn mh mo ms ek ec es eo oo re k1 k2 k3 o1 o2 o3 rv rf Ar nr cr Ab nb cb) ?_) | fail)
      refine (op_any oo o1 o2 o3 _).mono ?_
      rintro e w1 ⟨rfl, hb1⟩
      have B1 := (below_alloc (Below.refl _ _) _).trans (hb1.mono (by simp))
      have p14 := cell_below hb1 (a := ⟨wr.heap.size, 14, none⟩) (v := .int .u8 eo) (by simp)
      have p15 := cell_below hb1 (a := ⟨wr.heap.size, 15, none⟩) (v := .string k1) (by simp)
      have p16 := cell_below hb1 (a := ⟨wr.heap.size, 16, none⟩) (v := .string k2) (by simp)
      have p17 := cell_below hb1 (a := ⟨wr.heap.size, 17, none⟩) (v := .string k3) (by simp)
      have p24 := cell_below hb1 (a := ⟨wr.heap.size, 24, none⟩) (v := .string rv) (by simp)
      have p25 := cell_below hb1 (a := ⟨wr.heap.size, 25, none⟩) (v := .slice Ar nr cr) (by simp)
      have e0 := cell_below B1 d0
      have e1 := cell_below B1 d1
      have e2 := cell_below B1 d2
      have e3 := cell_below B1 d3
      have e4 := cell_below B1 d4
      have e5 := cell_below B1 d5
      rw [T2.out]
      go_wp2_with fail
      go_ret
      exact ⟨_, rfl, B1⟩
    · go_wp2_with fail
      go_ret
      exact ⟨_, rfl, hbr⟩
set_option maxRecDepth 20000 in
set_option maxHeartbeats 2000000 in
theorem great_3 (mk mf mt br bp mi mc mn mh mo ms ek ec es eo oo re : Int) (k1 k2 k3 o1 o2 o3 rv : ByteArray) (rf : Bool) (Ar : Option Addr) (nr cr : Nat) (Ab : Option Addr) (nb cb : Nat) (dk ds dn : Int) (Ad : Option Addr) (nd cd : Nat) (Ae : Option Addr) (ne ce : Nat) (Ak : Option Addr) (nk ck : Nat) (b : Nat) (w : World) (hm : w.rangeAt b 1 [.int .u8 mk, .int .i64 mf, .int .i64 mt, .int .i64 br, .int .i64 bp, .int .i64 mi, .int .i64 mc, .int .i64 mn, .int .i64 mh, .int .i64 mo, .int .i64 ms, .int .u8 ek, .int .i64 ec, .int .i64 es, .int .u8 eo, .string k1, .string k2, .string k3, .int .u8 oo, .string o1, .string o2, .string o3, .int .i64 re, .bool rf, .string rv, .slice Ar nr cr, .slice Ab nb cb]) (d0 : w.cell? ⟨b, 28, none⟩ = some (.int .u8 dk)) (d1 : w.cell? ⟨b, 29, none⟩ = some (.int .i64 ds)) (d2 : w.cell? ⟨b, 30, none⟩ = some (.int .i64 dn)) (d3 : w.cell? ⟨b, 31, none⟩ = some (.slice Ad nd cd)) (d4 : w.cell? ⟨b, 32, none⟩ = some (.slice Ae ne ce)) (d5 : w.cell? ⟨b, 33, none⟩ = some (.slice Ak nk ck)) (hrep : RepAt w Ar nr) (hnr : nr ≤ 9223372036854775807)
    (t0 : ¬ ((30 : Int) < (nr : Int))) (t1 : ¬ ((200 : Int) < (nb : Int))) (t2 : opB o1 o2 o3 = true) (t3 : opB k1 k2 k3 = false) :
    Calls Tryz.prog 4 #[.slice (some ⟨b, 0, none⟩) 1 1] w (SomeBool w) := by
  have HM := Lib.hid hm
  have HR := Lib.hid hrep
  clear hm hrep
  have T2 := Lib.hid t2
  clear t2
  have T3 := Lib.hid t3
  clear t3
  have hbz := block_lt_of_cell d5
  have hu := Tryz.underlying34
  have hu25 := Tryz.underlying25
  go_enter Tryz.func4, Tryz.ntmps4
  go_wp2_with fail
  go_loopw [3] (fun i wr => (i = .int .i64 0 ∧ wr = w) ∨ (i = .int .i64 1 ∧ Below w.heap.size w wr)) (fun i _ => 1 - (intOf i).toNat)
  case atStart => exact .inl ⟨rfl, rfl⟩
  case round =>
    rcases hrel with ⟨rfl, rfl⟩ | ⟨rfl, hbr⟩
    · go_wp2_with (first | (refine wpList_load_mid rfl 34 (.tmp 18) rfl b 1 rfl _ _ HM.out hu rfl (by kernel_rfl) ?_) | (refine wpList_store_new rfl 34 (.tmp 4) (.tmp 19) rfl _ _ _ rfl rfl (by kernel_rfl) (by rfl) (oneM mk mf mt br bp mi mc mn mh mo ms ek ec es eo oo re k1 k2 k3 o1 o2 o3 rv rf Ar nr cr Ab nb cb) ?_) | fail)
      refine (op_any oo o1 o2 o3 _).mono ?_
      rintro e w1 ⟨rfl, hb1⟩
      have B1 := (below_alloc (Below.refl _ _) _).trans (hb1.mono (by simp))
      have p14 := cell_below hb1 (a := ⟨wr.heap.size, 14, none⟩) (v := .int .u8 eo) (by simp)
      have p15 := cell_below hb1 (a := ⟨wr.heap.size, 15, none⟩) (v := .string k1) (by simp)
      have p16 := cell_below hb1 (a := ⟨wr.heap.size, 16, none⟩) (v := .string k2) (by simp)
      have p17 := cell_below hb1 (a := ⟨wr.heap.size, 17, none⟩) (v := .string k3) (by simp)
      have p24 := cell_below hb1 (a := ⟨wr.heap.size, 24, none⟩) (v := .string rv) (by simp)
      have p25 := cell_below hb1 (a := ⟨wr.heap.size, 25, none⟩) (v := .slice Ar nr cr) (by simp)
      have e0 := cell_below B1 d0
      have e1 := cell_below B1 d1
      have e2 := cell_below B1 d2
      have e3 := cell_below B1 d3
      have e4 := cell_below B1 d4
      have e5 := cell_below B1 d5
      rw [T2.out]
      go_wp2_with fail
      refine (op_any eo k1 k2 k3 _).mono ?_
      rintro e w2 ⟨rfl, hb2⟩
      have B2 := B1.trans (hb2.mono B1.size)
      have q24 := cell_below hb2 p24
      have q25 := cell_below hb2 p25
      have f0 := cell_below hb2 e0
      have f1 := cell_below hb2 e1
      have f2 := cell_below hb2 e2
      have f3 := cell_below hb2 e3
      have f4 := cell_below hb2 e4
      have f5 := cell_below hb2 e5
      clear p14 p15 p16 p17 p24 p25 e0 e1 e2 e3 e4 e5
      rw [T3.out]
      go_wp2_with fail
      go_ret
      exact ⟨_, rfl, B2⟩
    · go_wp2_with fail
      go_ret
      exact ⟨_, rfl, hbr⟩
set_option maxRecDepth 20000 in
set_option maxHeartbeats 2000000 in
theorem great_4 (mk mf mt br bp mi mc mn mh mo ms ek ec es eo oo re : Int) (k1 k2 k3 o1 o2 o3 rv : ByteArray) (rf : Bool) (Ar : Option Addr) (nr cr : Nat) (Ab : Option Addr) (nb cb : Nat) (dk ds dn : Int) (Ad : Option Addr) (nd cd : Nat) (Ae : Option Addr) (ne ce : Nat) (Ak : Option Addr) (nk ck : Nat) (b : Nat) (w : World) (hm : w.rangeAt b 1 [.int .u8 mk, .int .i64 mf, .int .i64 mt, .int .i64 br, .int .i64 bp, .int .i64 mi, .int .i64 mc, .int .i64 mn, .int .i64 mh, .int .i64 mo, .int .i64 ms, .int .u8 ek, .int .i64 ec, .int .i64 es, .int .u8 eo, .string k1, .string k2, .string k3, .int .u8 oo, .string o1, .string o2, .string o3, .int .i64 re, .bool rf, .string rv, .slice Ar nr cr, .slice Ab nb cb]) (d0 : w.cell? ⟨b, 28, none⟩ = some (.int .u8 dk)) (d1 : w.cell? ⟨b, 29, none⟩ = some (.int .i64 ds)) (d2 : w.cell? ⟨b, 30, none⟩ = some (.int .i64 dn)) (d3 : w.cell? ⟨b, 31, none⟩ = some (.slice Ad nd cd)) (d4 : w.cell? ⟨b, 32, none⟩ = some (.slice Ae ne ce)) (d5 : w.cell? ⟨b, 33, none⟩ = some (.slice Ak nk ck)) (hrep : RepAt w Ar nr) (hnr : nr ≤ 9223372036854775807)
    (t0 : ¬ ((30 : Int) < (nr : Int))) (t1 : ¬ ((200 : Int) < (nb : Int))) (t2 : opB o1 o2 o3 = true) (t3 : opB k1 k2 k3 = true) (t4 : (100 : Int) < (rv.size : Int)) :
    Calls Tryz.prog 4 #[.slice (some ⟨b, 0, none⟩) 1 1] w (SomeBool w) := by
  have HM := Lib.hid hm
  have HR := Lib.hid hrep
  clear hm hrep
  have T2 := Lib.hid t2
  clear t2
  have T3 := Lib.hid t3
  clear t3
  have hbz := block_lt_of_cell d5
  have hu := Tryz.underlying34
  have hu25 := Tryz.underlying25
  go_enter Tryz.func4, Tryz.ntmps4
  go_wp2_with fail
  go_loopw [3] (fun i wr => (i = .int .i64 0 ∧ wr = w) ∨ (i = .int .i64 1 ∧ Below w.heap.size w wr)) (fun i _ => 1 - (intOf i).toNat)
  case atStart => exact .inl ⟨rfl, rfl⟩
  case round =>
    rcases hrel with ⟨rfl, rfl⟩ | ⟨rfl, hbr⟩
    · go_wp2_with (first | (refine wpList_load_mid rfl 34 (.tmp 18) rfl b 1 rfl _ _ HM.out hu rfl (by kernel_rfl) ?_) | (refine wpList_store_new rfl 34 (.tmp 4) (.tmp 19) rfl _ _ _ rfl rfl (by kernel_rfl) (by rfl) (oneM mk mf mt br bp mi mc mn mh mo ms ek ec es eo oo re k1 k2 k3 o1 o2 o3 rv rf Ar nr cr Ab nb cb) ?_) | fail)
      refine (op_any oo o1 o2 o3 _).mono ?_
      rintro e w1 ⟨rfl, hb1⟩
      have B1 := (below_alloc (Below.refl _ _) _).trans (hb1.mono (by simp))
      have p14 := cell_below hb1 (a := ⟨wr.heap.size, 14, none⟩) (v := .int .u8 eo) (by simp)
      have p15 := cell_below hb1 (a := ⟨wr.heap.size, 15, none⟩) (v := .string k1) (by simp)
      have p16 := cell_below hb1 (a := ⟨wr.heap.size, 16, none⟩) (v := .string k2) (by simp)
      have p17 := cell_below hb1 (a := ⟨wr.heap.size, 17, none⟩) (v := .string k3) (by simp)
      have p24 := cell_below hb1 (a := ⟨wr.heap.size, 24, none⟩) (v := .string rv) (by simp)
      have p25 := cell_below hb1 (a := ⟨wr.heap.size, 25, none⟩) (v := .slice Ar nr cr) (by simp)
      have e0 := cell_below B1 d0
      have e1 := cell_below B1 d1
      have e2 := cell_below B1 d2
      have e3 := cell_below B1 d3
      have e4 := cell_below B1 d4
      have e5 := cell_below B1 d5
      rw [T2.out]
      go_wp2_with fail
      refine (op_any eo k1 k2 k3 _).mono ?_
      rintro e w2 ⟨rfl, hb2⟩
      have B2 := B1.trans (hb2.mono B1.size)
      have q24 := cell_below hb2 p24
      have q25 := cell_below hb2 p25
      have f0 := cell_below hb2 e0
      have f1 := cell_below hb2 e1
      have f2 := cell_below hb2 e2
      have f3 := cell_below hb2 e3
      have f4 := cell_below hb2 e4
      have f5 := cell_below hb2 e5
      clear p14 p15 p16 p17 p24 p25 e0 e1 e2 e3 e4 e5
      rw [T3.out]
      go_wp2_with fail
      go_ret
      exact ⟨_, rfl, B2⟩
    · go_wp2_with fail
      go_ret
      exact ⟨_, rfl, hbr⟩
set_option maxRecDepth 20000 in
set_option maxHeartbeats 2000000 in
theorem great_5 (mk mf mt br bp mi mc mn mh mo ms ek ec es eo oo re : Int) (k1 k2 k3 o1 o2 o3 rv : ByteArray) (rf : Bool) (Ar : Option Addr) (nr cr : Nat) (Ab : Option Addr) (nb cb : Nat) (dk ds dn : Int) (Ad : Option Addr) (nd cd : Nat) (Ae : Option Addr) (ne ce : Nat) (Ak : Option Addr) (nk ck : Nat) (b : Nat) (w : World) (hm : w.rangeAt b 1 [.int .u8 mk, .int .i64 mf, .int .i64 mt, .int .i64 br, .int .i64 bp, .int .i64 mi, .int .i64 mc, .int .i64 mn, .int .i64 mh, .int .i64 mo, .int .i64 ms, .int .u8 ek, .int .i64 ec, .int .i64 es, .int .u8 eo, .string k1, .string k2, .string k3, .int .u8 oo, .string o1, .string o2, .string o3, .int .i64 re, .bool rf, .string rv, .slice Ar nr cr, .slice Ab nb cb]) (d0 : w.cell? ⟨b, 28, none⟩ = some (.int .u8 dk)) (d1 : w.cell? ⟨b, 29, none⟩ = some (.int .i64 ds)) (d2 : w.cell? ⟨b, 30, none⟩ = some (.int .i64 dn)) (d3 : w.cell? ⟨b, 31, none⟩ = some (.slice Ad nd cd)) (d4 : w.cell? ⟨b, 32, none⟩ = some (.slice Ae ne ce)) (d5 : w.cell? ⟨b, 33, none⟩ = some (.slice Ak nk ck)) (hrep : RepAt w Ar nr) (hnr : nr ≤ 9223372036854775807)
    (t0 : ¬ ((30 : Int) < (nr : Int))) (t1 : ¬ ((200 : Int) < (nb : Int))) (t2 : opB o1 o2 o3 = true) (t3 : opB k1 k2 k3 = true) (t4 : ¬ ((100 : Int) < (rv.size : Int))) (t5 : (100 : Int) < (nk : Int)) :
    Calls Tryz.prog 4 #[.slice (some ⟨b, 0, none⟩) 1 1] w (SomeBool w) := by
  have HM := Lib.hid hm
  have HR := Lib.hid hrep
  clear hm hrep
  have T2 := Lib.hid t2
  clear t2
  have T3 := Lib.hid t3
  clear t3
  have hbz := block_lt_of_cell d5
  have hu := Tryz.underlying34
  have hu25 := Tryz.underlying25
  go_enter Tryz.func4, Tryz.ntmps4
  go_wp2_with fail
  go_loopw [3] (fun i wr => (i = .int .i64 0 ∧ wr = w) ∨ (i = .int .i64 1 ∧ Below w.heap.size w wr)) (fun i _ => 1 - (intOf i).toNat)
  case atStart => exact .inl ⟨rfl, rfl⟩
  case round =>
    rcases hrel with ⟨rfl, rfl⟩ | ⟨rfl, hbr⟩
    · go_wp2_with (first | (refine wpList_load_mid rfl 34 (.tmp 18) rfl b 1 rfl _ _ HM.out hu rfl (by kernel_rfl) ?_) | (refine wpList_store_new rfl 34 (.tmp 4) (.tmp 19) rfl _ _ _ rfl rfl (by kernel_rfl) (by rfl) (oneM mk mf mt br bp mi mc mn mh mo ms ek ec es eo oo re k1 k2 k3 o1 o2 o3 rv rf Ar nr cr Ab nb cb) ?_) | fail)
      refine (op_any oo o1 o2 o3 _).mono ?_
      rintro e w1 ⟨rfl, hb1⟩
      have B1 := (below_alloc (Below.refl _ _) _).trans (hb1.mono (by simp))
      have p14 := cell_below hb1 (a := ⟨wr.heap.size, 14, none⟩) (v := .int .u8 eo) (by simp)
      have p15 := cell_below hb1 (a := ⟨wr.heap.size, 15, none⟩) (v := .string k1) (by simp)
      have p16 := cell_below hb1 (a := ⟨wr.heap.size, 16, none⟩) (v := .string k2) (by simp)
      have p17 := cell_below hb1 (a := ⟨wr.heap.size, 17, none⟩) (v := .string k3) (by simp)
      have p24 := cell_below hb1 (a := ⟨wr.heap.size, 24, none⟩) (v := .string rv) (by simp)
      have p25 := cell_below hb1 (a := ⟨wr.heap.size, 25, none⟩) (v := .slice Ar nr cr) (by simp)
      have e0 := cell_below B1 d0
      have e1 := cell_below B1 d1
      have e2 := cell_below B1 d2
      have e3 := cell_below B1 d3
      have e4 := cell_below B1 d4
      have e5 := cell_below B1 d5
      rw [T2.out]
      go_wp2_with fail
      refine (op_any eo k1 k2 k3 _).mono ?_
      rintro e w2 ⟨rfl, hb2⟩
      have B2 := B1.trans (hb2.mono B1.size)
      have q24 := cell_below hb2 p24
      have q25 := cell_below hb2 p25
      have f0 := cell_below hb2 e0
      have f1 := cell_below hb2 e1
      have f2 := cell_below hb2 e2
      have f3 := cell_below hb2 e3
      have f4 := cell_below hb2 e4
      have f5 := cell_below hb2 e5
      clear p14 p15 p16 p17 p24 p25 e0 e1 e2 e3 e4 e5
      rw [T3.out]
      go_wp2_with fail
      go_ret
      exact ⟨_, rfl, B2⟩
    · go_wp2_with fail
      go_ret
      exact ⟨_, rfl, hbr⟩
set_option maxRecDepth 20000 in
set_option maxHeartbeats 2000000 in
theorem great_6 (mk mf mt br bp mi mc mn mh mo ms ek ec es eo oo re : Int) (k1 k2 k3 o1 o2 o3 rv : ByteArray) (rf : Bool) (Ar : Option Addr) (nr cr : Nat) (Ab : Option Addr) (nb cb : Nat) (dk ds dn : Int) (Ad : Option Addr) (nd cd : Nat) (Ae : Option Addr) (ne ce : Nat) (Ak : Option Addr) (nk ck : Nat) (b : Nat) (w : World) (hm : w.rangeAt b 1 [.int .u8 mk, .int .i64 mf, .int .i64 mt, .int .i64 br, .int .i64 bp, .int .i64 mi, .int .i64 mc, .int .i64 mn, .int .i64 mh, .int .i64 mo, .int .i64 ms, .int .u8 ek, .int .i64 ec, .int .i64 es, .int .u8 eo, .string k1, .string k2, .string k3, .int .u8 oo, .string o1, .string o2, .string o3, .int .i64 re, .bool rf, .string rv, .slice Ar nr cr, .slice Ab nb cb]) (d0 : w.cell? ⟨b, 28, none⟩ = some (.int .u8 dk)) (d1 : w.cell? ⟨b, 29, none⟩ = some (.int .i64 ds)) (d2 : w.cell? ⟨b, 30, none⟩ = some (.int .i64 dn)) (d3 : w.cell? ⟨b, 31, none⟩ = some (.slice Ad nd cd)) (d4 : w.cell? ⟨b, 32, none⟩ = some (.slice Ae ne ce)) (d5 : w.cell? ⟨b, 33, none⟩ = some (.slice Ak nk ck)) (hrep : RepAt w Ar nr) (hnr : nr ≤ 9223372036854775807)
    (t0 : ¬ ((30 : Int) < (nr : Int))) (t1 : ¬ ((200 : Int) < (nb : Int))) (t2 : opB o1 o2 o3 = true) (t3 : opB k1 k2 k3 = true) (t4 : ¬ ((100 : Int) < (rv.size : Int))) (t5 : ¬ ((100 : Int) < (nk : Int))) :
    Calls Tryz.prog 4 #[.slice (some ⟨b, 0, none⟩) 1 1] w (SomeBool w) := by
  have HM := Lib.hid hm
  have HR := Lib.hid hrep
  clear hm hrep
  have T2 := Lib.hid t2
  clear t2
  have T3 := Lib.hid t3
  clear t3
  have hbz := block_lt_of_cell d5
  have hu := Tryz.underlying34
  have hu25 := Tryz.underlying25
  go_enter Tryz.func4, Tryz.ntmps4
  go_wp2_with fail
  go_loopw [3] (fun i wr => (i = .int .i64 0 ∧ wr = w) ∨ (i = .int .i64 1 ∧ Below w.heap.size w wr)) (fun i _ => 1 - (intOf i).toNat)
  case atStart => exact .inl ⟨rfl, rfl⟩
  case round =>
    rcases hrel with ⟨rfl, rfl⟩ | ⟨rfl, hbr⟩
    · go_wp2_with (first | (refine wpList_load_mid rfl 34 (.tmp 18) rfl b 1 rfl _ _ HM.out hu rfl (by kernel_rfl) ?_) | (refine wpList_store_new rfl 34 (.tmp 4) (.tmp 19) rfl _ _ _ rfl rfl (by kernel_rfl) (by rfl) (oneM mk mf mt br bp mi mc mn mh mo ms ek ec es eo oo re k1 k2 k3 o1 o2 o3 rv rf Ar nr cr Ab nb cb) ?_) | fail)
      refine (op_any oo o1 o2 o3 _).mono ?_
      rintro e w1 ⟨rfl, hb1⟩
      have B1 := (below_alloc (Below.refl _ _) _).trans (hb1.mono (by simp))
      have p14 := cell_below hb1 (a := ⟨wr.heap.size, 14, none⟩) (v := .int .u8 eo) (by simp)
      have p15 := cell_below hb1 (a := ⟨wr.heap.size, 15, none⟩) (v := .string k1) (by simp)
      have p16 := cell_below hb1 (a := ⟨wr.heap.size, 16, none⟩) (v := .string k2) (by simp)
      have p17 := cell_below hb1 (a := ⟨wr.heap.size, 17, none⟩) (v := .string k3) (by simp)
      have p24 := cell_below hb1 (a := ⟨wr.heap.size, 24, none⟩) (v := .string rv) (by simp)
      have p25 := cell_below hb1 (a := ⟨wr.heap.size, 25, none⟩) (v := .slice Ar nr cr) (by simp)
      have e0 := cell_below B1 d0
      have e1 := cell_below B1 d1
      have e2 := cell_below B1 d2
      have e3 := cell_below B1 d3
      have e4 := cell_below B1 d4
      have e5 := cell_below B1 d5
      rw [T2.out]
      go_wp2_with fail
      refine (op_any eo k1 k2 k3 _).mono ?_
      rintro e w2 ⟨rfl, hb2⟩
      have B2 := B1.trans (hb2.mono B1.size)
      have q24 := cell_below hb2 p24
      have q25 := cell_below hb2 p25
      have f0 := cell_below hb2 e0
      have f1 := cell_below hb2 e1
      have f2 := cell_below hb2 e2
      have f3 := cell_below hb2 e3
      have f4 := cell_below hb2 e4
      have f5 := cell_below hb2 e5
      clear p14 p15 p16 p17 p24 p25 e0 e1 e2 e3 e4 e5
      rw [T3.out]
      go_wp2_with fail
      refine (great05_any _ Ad nd cd Ae ne ce _ (by rw [cell_of_row _ _ 3 _ 37 (0, 0) (heap_alloc_new _ _)]; rfl) (by rw [cell_of_row _ _ 4 _ 37 (0, 0) (heap_alloc_new _ _)]; rfl)).mono ?_
      rintro e w3 ⟨r, rfl, hb3⟩
      have B3 := (B2.alloc B2.size (.cells #[.int .u8 dk, .int .i64 ds, .int .i64 dn, .slice Ad nd cd, .slice Ae ne ce] 37)).trans (hb3.mono (by have := B2.size; simp; omega))
      have s25 := cell_below hb3 ((World.cell?_alloc_lt _ _ _ (block_lt_of_cell q25)).trans q25)
      have R3 := Lib.hid (repAt_below B3 HR.out)
      clear q24 q25 f0 f1 f2 f3 f4 f5 d0 d1 d2 d3 d4 d5
      have hz3 := B3.size
      cases r with
      | true =>
        go_wp2_with fail
        go_ret
        exact ⟨_, rfl, B3⟩
      | false =>
        go_wp2_with fail
        go_loopw [5] (fun k wq => ∃ i : Nat, i ≤ nr ∧ k = .int .i64 i ∧ wq.cell? ⟨wr.heap.size, 25, none⟩ = some (.slice Ar nr cr) ∧ Below wr.heap.size wr wq) (fun k _ => nr - (intOf k).toNat)
        case atStart => exact ⟨0, Nat.zero_le _, rfl, s25, B3⟩
        case round =>
          obtain ⟨i, hi, rfl, g25, Bq⟩ := hrel
          clear s25
          by_cases hlt : i < nr
          · obtain ⟨ad, u, x, y, z, hA, hc⟩ := (repAt_below Bq HR.out) i hlt
            subst hA
            have HC := Lib.hid hc
            clear hc
            cases ht : opB x y z with
            | true =>
              have HT := Lib.hid ht
              clear ht
              go_wp2_with (first | (refine wpList_load_mid rfl 25 (.tmp 80) rfl _ _ rfl _ _ (by exact HC.out) hu25 rfl (by kernel_rfl) ?_) | fail)
              refine (op_any u x y z _).mono ?_
              rintro e w4 ⟨rfl, hb4⟩
              have g4 := cell_below hb4 g25
              have B4 := Bq.trans (hb4.mono Bq.size)
              rw [HT.out]
              go_wp2_with fail
              go_roundw
              case rel => exact ⟨i + 1, by omega, by go_num, g4, B4⟩
              case measure => simp [intOf]; omega
            | false =>
              have HT := Lib.hid ht
              clear ht
              go_wp2_with (first | (refine wpList_load_mid rfl 25 (.tmp 80) rfl _ _ rfl _ _ (by exact HC.out) hu25 rfl (by kernel_rfl) ?_) | fail)
              refine (op_any u x y z _).mono ?_
              rintro e w4 ⟨rfl, hb4⟩
              have g4 := cell_below hb4 g25
              have B4 := Bq.trans (hb4.mono Bq.size)
              rw [HT.out]
              go_wp2_with fail
              go_ret
              exact ⟨_, rfl, B4⟩
          · go_wp2_with fail
            go_roundw
            case rel => exact .inr ⟨rfl, Bq⟩
            case measure => simp [intOf]
    · go_wp2_with fail
      go_ret
      exact ⟨_, rfl, hbr⟩
theorem great_any (mk mf mt br bp mi mc mn mh mo ms ek ec es eo oo re : Int) (k1 k2 k3 o1 o2 o3 rv : ByteArray) (rf : Bool) (Ar : Option Addr) (nr cr : Nat) (Ab : Option Addr) (nb cb : Nat) (dk ds dn : Int) (Ad : Option Addr) (nd cd : Nat) (Ae : Option Addr) (ne ce : Nat) (Ak : Option Addr) (nk ck : Nat) (b : Nat) (w : World) (hm : w.rangeAt b 1 [.int .u8 mk, .int .i64 mf, .int .i64 mt, .int .i64 br, .int .i64 bp, .int .i64 mi, .int .i64 mc, .int .i64 mn, .int .i64 mh, .int .i64 mo, .int .i64 ms, .int .u8 ek, .int .i64 ec, .int .i64 es, .int .u8 eo, .string k1, .string k2, .string k3, .int .u8 oo, .string o1, .string o2, .string o3, .int .i64 re, .bool rf, .string rv, .slice Ar nr cr, .slice Ab nb cb]) (d0 : w.cell? ⟨b, 28, none⟩ = some (.int .u8 dk)) (d1 : w.cell? ⟨b, 29, none⟩ = some (.int .i64 ds)) (d2 : w.cell? ⟨b, 30, none⟩ = some (.int .i64 dn)) (d3 : w.cell? ⟨b, 31, none⟩ = some (.slice Ad nd cd)) (d4 : w.cell? ⟨b, 32, none⟩ = some (.slice Ae ne ce)) (d5 : w.cell? ⟨b, 33, none⟩ = some (.slice Ak nk ck)) (hrep : RepAt w Ar nr) (hnr : nr ≤ 9223372036854775807) :
    Calls Tryz.prog 4 #[.slice (some ⟨b, 0, none⟩) 1 1] w (SomeBool w) := by
  by_cases t0 : (30 : Int) < (nr : Int)
  · exact great_0 mk mf mt br bp mi mc mn mh mo ms ek ec es eo oo re k1 k2 k3 o1 o2 o3 rv rf Ar nr cr Ab nb cb dk ds dn Ad nd cd Ae ne ce Ak nk ck b w hm d0 d1 d2 d3 d4 d5 hrep hnr t0
  by_cases t1 : (200 : Int) < (nb : Int)
  · exact great_1 mk mf mt br bp mi mc mn mh mo ms ek ec es eo oo re k1 k2 k3 o1 o2 o3 rv rf Ar nr cr Ab nb cb dk ds dn Ad nd cd Ae ne ce Ak nk ck b w hm d0 d1 d2 d3 d4 d5 hrep hnr t0 t1
  cases t2 : opB o1 o2 o3 with
  | false => exact great_2 mk mf mt br bp mi mc mn mh mo ms ek ec es eo oo re k1 k2 k3 o1 o2 o3 rv rf Ar nr cr Ab nb cb dk ds dn Ad nd cd Ae ne ce Ak nk ck b w hm d0 d1 d2 d3 d4 d5 hrep hnr t0 t1 t2
  | true =>
    cases t3 : opB k1 k2 k3 with
    | false => exact great_3 mk mf mt br bp mi mc mn mh mo ms ek ec es eo oo re k1 k2 k3 o1 o2 o3 rv rf Ar nr cr Ab nb cb dk ds dn Ad nd cd Ae ne ce Ak nk ck b w hm d0 d1 d2 d3 d4 d5 hrep hnr t0 t1 t2 t3
    | true =>
      by_cases t4 : (100 : Int) < (rv.size : Int)
      · exact great_4 mk mf mt br bp mi mc mn mh mo ms ek ec es eo oo re k1 k2 k3 o1 o2 o3 rv rf Ar nr cr Ab nb cb dk ds dn Ad nd cd Ae ne ce Ak nk ck b w hm d0 d1 d2 d3 d4 d5 hrep hnr t0 t1 t2 t3 t4
      by_cases t5 : (100 : Int) < (nk : Int)
      · exact great_5 mk mf mt br bp mi mc mn mh mo ms ek ec es eo oo re k1 k2 k3 o1 o2 o3 rv rf Ar nr cr Ab nb cb dk ds dn Ad nd cd Ae ne ce Ak nk ck b w hm d0 d1 d2 d3 d4 d5 hrep hnr t0 t1 t2 t3 t4 t5
      exact great_6 mk mf mt br bp mi mc mn mh mo ms ek ec es eo oo re k1 k2 k3 o1 o2 o3 rv rf Ar nr cr Ab nb cb dk ds dn Ad nd cd Ae ne ce Ak nk ck b w hm d0 d1 d2 d3 d4 d5 hrep hnr t0 t1 t2 t3 t4 t5
end Go.Proofs.YtjolgpfbdonoaaaGreatDoor
