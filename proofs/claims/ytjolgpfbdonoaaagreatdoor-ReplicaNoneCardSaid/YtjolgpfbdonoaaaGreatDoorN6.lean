/- The law's walk: what a replica that nobody made tells, and that none begins over no disk, nor a small one. -/
import Derived.Test.YtjolgpfbdonoaaaGreatDoorN3
import Derived.Test.YtjolgpfbdonoaaaGreatDoorN5
import Derived.Test.YtjolgpfbdonoaaaGreatDoorN2i
import Derived.Test.YtjolgpfbdonoaaaGreatDoorN6s
import Derived.Test.YtjolgpfbdonoaaaGreatDoorN6t
import Derived.Test.YtjolgpfbdonoaaaGreatDoorN6u
import Derived.Test.YtjolgpfbdonoaaaGreatDoorWLast
namespace Go.Proofs.YtjolgpfbdonoaaaGreatDoor
open Go.RowKit Go.Proofs.YtjolgpfbdonoaaaGreatDoorW.PrintLast
theorem mixed : Tryz.prog.follows .mixedOrders = true := by kernel_rfl
theorem image_lit (v : Option Addr) (w : World) (h : Nobody w v) : Calls Tryz.prog 11 #[.pointer v] w fun e w' => e = .returned (.agg #[.int .i64 0, .slice none 0 0, .int .i64 0, .int .i64 0, .bool false, .string ⟨#[]⟩, .int .i64 0, .int .i64 0, .bool false, .string ⟨#[]⟩, .int .i64 0, .int .i64 0, .bool false, .string ⟨#[]⟩, .int .i64 0, .int .i64 0, .bool false, .string ⟨#[]⟩]) ∧ Below w.heap.size w w' := image_any v w h
theorem field61 (w : World) : (Instr.field 61 (.agg #[.int .i64 0, .slice none 0 0, .int .i64 0, .int .i64 0, .bool false, .string ⟨#[]⟩, .int .i64 0, .int .i64 0, .bool false, .string ⟨#[]⟩, .int .i64 0, .int .i64 0, .bool false, .string ⟨#[]⟩, .int .i64 0, .int .i64 0, .bool false, .string ⟨#[]⟩]) 0).run Tryz.prog w = .ok (.int .i64 0) w := by kernel_rfl
theorem sectors (sec : Int) : ∃ d : Nat, 1 ≤ d ∧ d ≤ 155 ∧ wrap64 (1 + wrap64 ((IntKind.u64.wrap sec).tmod 155)) = (d : Int) := by
  have h0 : 0 ≤ IntKind.u64.wrap sec := Int.emod_nonneg _ (by decide)
  have h1 := Int.tmod_nonneg 155 h0
  have h2 := Int.tmod_lt_of_pos (IntKind.u64.wrap sec) (show (0:Int) < 155 by decide)
  refine ⟨(1 + (IntKind.u64.wrap sec).tmod 155).toNat, by omega, by omega, ?_⟩
  unfold wrap64
  omega
theorem heap_alloc_lt (w : World) (o : Obj) {b : Nat} (h : b < w.heap.size) : (w.alloc o).heap[b]? = w.heap[b]? := by
  unfold World.alloc
  exact Array.getElem?_push_lt h ▸ (Array.getElem?_eq_getElem h).symm
theorem range_sub {w : World} {b o : Nat} (A M D : List Value) (h : w.rangeAt b o (A ++ (M ++ D))) : w.rangeAt b (o + A.length) M := fun j v hv => by
  rw [Nat.add_assoc]
  refine h (A.length + j) v ?_
  rw [List.getElem?_append_right (by omega), Nat.add_sub_cancel_left, List.getElem?_append_left (List.getElem?_eq_some_iff.1 hv).1]
  exact hv
/-- What a round reads. -/
def RdS (L B : Nat) (j : Nat) (v : Option Addr) (M : List Value) (w : World) : Prop := w.cell? ⟨L, j, none⟩ = some (.pointer v) ∧ w.rangeAt B 1 M ∧ Nobody w v
theorem rdS_below {L B j : Nat} {v : Option Addr} {M : List Value} {w w1 : World} (h : RdS L B j v M w) (hb : Below w.heap.size w w1) : RdS L B j v M w1 :=
  ⟨cell_below hb h.1, fun i u hu => cell_below hb (h.2.1 i u hu), nobody_below h.2.2 hb⟩
def RdT (L B p : Nat) (M : List Value) (w : World) : Prop := RdS L B 0 none M w ∧ RdS L B 1 (some ⟨p, 0, none⟩) M w
theorem rdT_below {L B p : Nat} {M : List Value} {w w1 : World} (h : RdT L B p M w) (hb : Below w.heap.size w w1) : RdT L B p M w1 := ⟨rdS_below h.1 hb, rdS_below h.2 hb⟩
set_option maxRecDepth 100000 in
set_option maxHeartbeats 8000000 in
theorem law_any (id n sec ak : Int) (mk mf mt br bp mi mc mn mh mo ms ek ec es eo oo re : Int) (k1 k2 k3 o1 o2 o3 rv : ByteArray) (rf : Bool) (Ar : Option Addr) (nr cr : Nat) (Ab : Option Addr) (nb cb : Nat) (dk ds dn : Int) (Ad : Option Addr) (nd cd : Nat) (Ae : Option Addr) (ne ce : Nat) (Ak : Option Addr) (nk ck : Nat) (w : World) (hrep : RepAt w Ar nr) (hnr : nr ≤ 9223372036854775807) (hsec : (Lit.int .i64 sec).wf = true) :
    Calls Tryz.prog 3 #[.int .i64 id, .int .i64 n, .int .i64 sec, .agg #[.int .u8 ak, .int .u8 mk, .int .i64 mf, .int .i64 mt, .int .i64 br, .int .i64 bp, .int .i64 mi, .int .i64 mc, .int .i64 mn, .int .i64 mh, .int .i64 mo, .int .i64 ms, .int .u8 ek, .int .i64 ec, .int .i64 es, .int .u8 eo, .string k1, .string k2, .string k3, .int .u8 oo, .string o1, .string o2, .string o3, .int .i64 re, .bool rf, .string rv, .slice Ar nr cr, .slice Ab nb cb, .int .u8 dk, .int .i64 ds, .int .i64 dn, .slice Ad nd cd, .slice Ae ne ce, .slice Ak nk ck]] w fun e w' => e = .returned (.bool true) ∧ Below w.heap.size w w' := by
  have HR := Lib.hid hrep
  clear hrep
  have hu34 := Lib.hid Tryz.underlying34
  go_enter Tryz.func3, Tryz.ntmps3
  have HR1 := range_new w [.int .u8 ak, .int .u8 mk, .int .i64 mf, .int .i64 mt, .int .i64 br, .int .i64 bp, .int .i64 mi, .int .i64 mc, .int .i64 mn, .int .i64 mh, .int .i64 mo, .int .i64 ms, .int .u8 ek, .int .i64 ec, .int .i64 es, .int .u8 eo, .string k1, .string k2, .string k3, .int .u8 oo, .string o1, .string o2, .string o3, .int .i64 re, .bool rf, .string rv, .slice Ar nr cr, .slice Ab nb cb, .int .u8 dk, .int .i64 ds, .int .i64 dn, .slice Ad nd cd, .slice Ae ne ce, .slice Ak nk ck] 39
  have hu39 := Tryz.underlying39
  go_wp2_with (first | (refine wpList_load_mid rfl 39 (.tmp 7) rfl _ _ rfl [.int .u8 ak, .int .u8 mk, .int .i64 mf, .int .i64 mt, .int .i64 br, .int .i64 bp, .int .i64 mi, .int .i64 mc, .int .i64 mn, .int .i64 mh, .int .i64 mo, .int .i64 ms, .int .u8 ek, .int .i64 ec, .int .i64 es, .int .u8 eo, .string k1, .string k2, .string k3, .int .u8 oo, .string o1, .string o2, .string o3, .int .i64 re, .bool rf, .string rv, .slice Ar nr cr, .slice Ab nb cb, .int .u8 dk, .int .i64 ds, .int .i64 dn, .slice Ad nd cd, .slice Ae ne ce, .slice Ak nk ck] _ HR1 hu39 rfl (by kernel_rfl) ?_) | (refine wpList_of_exec rfl (exec_buildSlice rfl (by simp [Act.eval]; rfl) (bslice41 [.int .u8 ak, .int .u8 mk, .int .i64 mf, .int .i64 mt, .int .i64 br, .int .i64 bp, .int .i64 mi, .int .i64 mc, .int .i64 mn, .int .i64 mh, .int .i64 mo, .int .i64 ms, .int .u8 ek, .int .i64 ec, .int .i64 es, .int .u8 eo, .string k1, .string k2, .string k3, .int .u8 oo, .string o1, .string o2, .string o3, .int .i64 re, .bool rf, .string rv, .slice Ar nr cr, .slice Ab nb cb, .int .u8 dk, .int .i64 ds, .int .i64 dn, .slice Ad nd cd, .slice Ae ne ce, .slice Ak nk ck] rfl _)) ?_) | fail)
  have HN : ∀ j v, ([.int .u8 ak, .int .u8 mk, .int .i64 mf, .int .i64 mt, .int .i64 br, .int .i64 bp, .int .i64 mi, .int .i64 mc, .int .i64 mn, .int .i64 mh, .int .i64 mo, .int .i64 ms, .int .u8 ek, .int .i64 ec, .int .i64 es, .int .u8 eo, .string k1, .string k2, .string k3, .int .u8 oo, .string o1, .string o2, .string o3, .int .i64 re, .bool rf, .string rv, .slice Ar nr cr, .slice Ab nb cb, .int .u8 dk, .int .i64 ds, .int .i64 dn, .slice Ad nd cd, .slice Ae ne ce, .slice Ak nk ck] : List Value)[j]? = some v → ((w.alloc (.cells #[.int .u8 ak, .int .u8 mk, .int .i64 mf, .int .i64 mt, .int .i64 br, .int .i64 bp, .int .i64 mi, .int .i64 mc, .int .i64 mn, .int .i64 mh, .int .i64 mo, .int .i64 ms, .int .u8 ek, .int .i64 ec, .int .i64 es, .int .u8 eo, .string k1, .string k2, .string k3, .int .u8 oo, .string o1, .string o2, .string o3, .int .i64 re, .bool rf, .string rv, .slice Ar nr cr, .slice Ab nb cb, .int .u8 dk, .int .i64 ds, .int .i64 dn, .slice Ad nd cd, .slice Ae ne ce, .slice Ak nk ck] 39)).alloc (.cells #[.int .u8 ak, .int .u8 mk, .int .i64 mf, .int .i64 mt, .int .i64 br, .int .i64 bp, .int .i64 mi, .int .i64 mc, .int .i64 mn, .int .i64 mh, .int .i64 mo, .int .i64 ms, .int .u8 ek, .int .i64 ec, .int .i64 es, .int .u8 eo, .string k1, .string k2, .string k3, .int .u8 oo, .string o1, .string o2, .string o3, .int .i64 re, .bool rf, .string rv, .slice Ar nr cr, .slice Ab nb cb, .int .u8 dk, .int .i64 ds, .int .i64 dn, .slice Ad nd cd, .slice Ae ne ce, .slice Ak nk ck] 39)).cell? ⟨w.heap.size + 1, j, none⟩ = some v := fun j v hv => by
    have := range_new (w.alloc (.cells #[.int .u8 ak, .int .u8 mk, .int .i64 mf, .int .i64 mt, .int .i64 br, .int .i64 bp, .int .i64 mi, .int .i64 mc, .int .i64 mn, .int .i64 mh, .int .i64 mo, .int .i64 ms, .int .u8 ek, .int .i64 ec, .int .i64 es, .int .u8 eo, .string k1, .string k2, .string k3, .int .u8 oo, .string o1, .string o2, .string o3, .int .i64 re, .bool rf, .string rv, .slice Ar nr cr, .slice Ab nb cb, .int .u8 dk, .int .i64 ds, .int .i64 dn, .slice Ad nd cd, .slice Ae ne ce, .slice Ak nk ck] 39)) [.int .u8 ak, .int .u8 mk, .int .i64 mf, .int .i64 mt, .int .i64 br, .int .i64 bp, .int .i64 mi, .int .i64 mc, .int .i64 mn, .int .i64 mh, .int .i64 mo, .int .i64 ms, .int .u8 ek, .int .i64 ec, .int .i64 es, .int .u8 eo, .string k1, .string k2, .string k3, .int .u8 oo, .string o1, .string o2, .string o3, .int .i64 re, .bool rf, .string rv, .slice Ar nr cr, .slice Ab nb cb, .int .u8 dk, .int .i64 ds, .int .i64 dn, .slice Ad nd cd, .slice Ae ne ce, .slice Ak nk ck] 39 j v hv
    simpa using this
  have hm : ((w.alloc (.cells #[.int .u8 ak, .int .u8 mk, .int .i64 mf, .int .i64 mt, .int .i64 br, .int .i64 bp, .int .i64 mi, .int .i64 mc, .int .i64 mn, .int .i64 mh, .int .i64 mo, .int .i64 ms, .int .u8 ek, .int .i64 ec, .int .i64 es, .int .u8 eo, .string k1, .string k2, .string k3, .int .u8 oo, .string o1, .string o2, .string o3, .int .i64 re, .bool rf, .string rv, .slice Ar nr cr, .slice Ab nb cb, .int .u8 dk, .int .i64 ds, .int .i64 dn, .slice Ad nd cd, .slice Ae ne ce, .slice Ak nk ck] 39)).alloc (.cells #[.int .u8 ak, .int .u8 mk, .int .i64 mf, .int .i64 mt, .int .i64 br, .int .i64 bp, .int .i64 mi, .int .i64 mc, .int .i64 mn, .int .i64 mh, .int .i64 mo, .int .i64 ms, .int .u8 ek, .int .i64 ec, .int .i64 es, .int .u8 eo, .string k1, .string k2, .string k3, .int .u8 oo, .string o1, .string o2, .string o3, .int .i64 re, .bool rf, .string rv, .slice Ar nr cr, .slice Ab nb cb, .int .u8 dk, .int .i64 ds, .int .i64 dn, .slice Ad nd cd, .slice Ae ne ce, .slice Ak nk ck] 39)).rangeAt (w.heap.size + 1) 1 [.int .u8 mk, .int .i64 mf, .int .i64 mt, .int .i64 br, .int .i64 bp, .int .i64 mi, .int .i64 mc, .int .i64 mn, .int .i64 mh, .int .i64 mo, .int .i64 ms, .int .u8 ek, .int .i64 ec, .int .i64 es, .int .u8 eo, .string k1, .string k2, .string k3, .int .u8 oo, .string o1, .string o2, .string o3, .int .i64 re, .bool rf, .string rv, .slice Ar nr cr, .slice Ab nb cb] := range_sub [.int .u8 ak] [.int .u8 mk, .int .i64 mf, .int .i64 mt, .int .i64 br, .int .i64 bp, .int .i64 mi, .int .i64 mc, .int .i64 mn, .int .i64 mh, .int .i64 mo, .int .i64 ms, .int .u8 ek, .int .i64 ec, .int .i64 es, .int .u8 eo, .string k1, .string k2, .string k3, .int .u8 oo, .string o1, .string o2, .string o3, .int .i64 re, .bool rf, .string rv, .slice Ar nr cr, .slice Ab nb cb] [.int .u8 dk, .int .i64 ds, .int .i64 dn, .slice Ad nd cd, .slice Ae ne ce, .slice Ak nk ck] (b := w.heap.size + 1) (o := 0) (fun j v hv => by rw [Nat.zero_add]; exact HN j v hv)
  refine (great_any mk mf mt br bp mi mc mn mh mo ms ek ec es eo oo re k1 k2 k3 o1 o2 o3 rv rf Ar nr cr Ab nb cb dk ds dn Ad nd cd Ae ne ce Ak nk ck _ _ hm (HN 28 _ rfl) (HN 29 _ rfl) (HN 30 _ rfl) (HN 31 _ rfl) (HN 32 _ rfl) (HN 33 _ rfl) (repAt_below (below_alloc (below_alloc (Below.refl _ _) _) _) HR.out) hnr).mono ?_
  rintro e w1 ⟨r, rfl, hb1⟩
  have B1 := (below_alloc (below_alloc (Below.refl w.heap.size w) (.cells #[.int .u8 ak, .int .u8 mk, .int .i64 mf, .int .i64 mt, .int .i64 br, .int .i64 bp, .int .i64 mi, .int .i64 mc, .int .i64 mn, .int .i64 mh, .int .i64 mo, .int .i64 ms, .int .u8 ek, .int .i64 ec, .int .i64 es, .int .u8 eo, .string k1, .string k2, .string k3, .int .u8 oo, .string o1, .string o2, .string o3, .int .i64 re, .bool rf, .string rv, .slice Ar nr cr, .slice Ab nb cb, .int .u8 dk, .int .i64 ds, .int .i64 dn, .slice Ad nd cd, .slice Ae ne ce, .slice Ak nk ck] 39)) (.cells #[.int .u8 ak, .int .u8 mk, .int .i64 mf, .int .i64 mt, .int .i64 br, .int .i64 bp, .int .i64 mi, .int .i64 mc, .int .i64 mn, .int .i64 mh, .int .i64 mo, .int .i64 ms, .int .u8 ek, .int .i64 ec, .int .i64 es, .int .u8 eo, .string k1, .string k2, .string k3, .int .u8 oo, .string o1, .string o2, .string o3, .int .i64 re, .bool rf, .string rv, .slice Ar nr cr, .slice Ab nb cb, .int .u8 dk, .int .i64 ds, .int .i64 dn, .slice Ad nd cd, .slice Ae ne ce, .slice Ak nk ck] 39)).trans (hb1.mono (by simp; omega))
  cases r with
  | true =>
    go_wp2_with fail
    go_ret
    exact ⟨rfl, B1⟩
  | false =>
    have R0 : w1.rangeAt w.heap.size 1 [.int .u8 mk, .int .i64 mf, .int .i64 mt, .int .i64 br, .int .i64 bp, .int .i64 mi, .int .i64 mc, .int .i64 mn, .int .i64 mh, .int .i64 mo, .int .i64 ms, .int .u8 ek, .int .i64 ec, .int .i64 es, .int .u8 eo, .string k1, .string k2, .string k3, .int .u8 oo, .string o1, .string o2, .string o3, .int .i64 re, .bool rf, .string rv, .slice Ar nr cr, .slice Ab nb cb] := fun j v hv => cell_below hb1 ((World.cell?_alloc_lt _ _ _ (by simp)).trans (range_sub [.int .u8 ak] [.int .u8 mk, .int .i64 mf, .int .i64 mt, .int .i64 br, .int .i64 bp, .int .i64 mi, .int .i64 mc, .int .i64 mn, .int .i64 mh, .int .i64 mo, .int .i64 ms, .int .u8 ek, .int .i64 ec, .int .i64 es, .int .u8 eo, .string k1, .string k2, .string k3, .int .u8 oo, .string o1, .string o2, .string o3, .int .i64 re, .bool rf, .string rv, .slice Ar nr cr, .slice Ab nb cb] [.int .u8 dk, .int .i64 ds, .int .i64 dn, .slice Ad nd cd, .slice Ae ne ce, .slice Ak nk ck] (b := w.heap.size) (o := 0) HR1 j v hv))
    clear HN hm HR1 hb1
    have R1 := Lib.hid R0
    clear R0
    have hz1 := B1.size
    go_wp2_with fail
    go_loopw [11] (fun i wr => ∃ k : Nat, k ≤ 2 ∧ i = .int .i64 k ∧ Below w.heap.size w wr ∧ RdT (w1.heap.size + 1) w.heap.size w1.heap.size [.int .u8 mk, .int .i64 mf, .int .i64 mt, .int .i64 br, .int .i64 bp, .int .i64 mi, .int .i64 mc, .int .i64 mn, .int .i64 mh, .int .i64 mo, .int .i64 ms, .int .u8 ek, .int .i64 ec, .int .i64 es, .int .u8 eo, .string k1, .string k2, .string k3, .int .u8 oo, .string o1, .string o2, .string o3, .int .i64 re, .bool rf, .string rv, .slice Ar nr cr, .slice Ab nb cb] wr) (fun i _ => 2 - (intOf i).toNat)
    case atStart =>
      have hN := fun (C C2 : Array Value) (h11 : C[11]? = some (.int .i64 0)) (h55 : C[55]? = some (.slice none 0 0)) => (.inr ⟨w1.heap.size, C, rfl, by rw [heap_alloc_lt _ _ (by simp)]; exact heap_alloc_new w1 _, h11, h55⟩ : Nobody ((w1.alloc (.cells C 75)).alloc (.cells C2 42)) (some ⟨w1.heap.size, 0, none⟩))
      have hR := fun (x1 x2 : Obj) => (fun j v hv => cellA (cellA (R1.out j v hv) x1) x2 : ((w1.alloc x1).alloc x2).rangeAt w.heap.size 1 [.int .u8 mk, .int .i64 mf, .int .i64 mt, .int .i64 br, .int .i64 bp, .int .i64 mi, .int .i64 mc, .int .i64 mn, .int .i64 mh, .int .i64 mo, .int .i64 ms, .int .u8 ek, .int .i64 ec, .int .i64 es, .int .u8 eo, .string k1, .string k2, .string k3, .int .u8 oo, .string o1, .string o2, .string o3, .int .i64 re, .bool rf, .string rv, .slice Ar nr cr, .slice Ab nb cb])
      have hL := fun (C C2 : List Value) j v (hv : C2[j]? = some v) => (by have := range_new (w1.alloc (.cells C.toArray 75)) C2 42 j v hv; simpa using this : ((w1.alloc (.cells C.toArray 75)).alloc (.cells C2.toArray 42)).cell? ⟨w1.heap.size + 1, j, none⟩ = some v)
      refine ⟨0, by omega, rfl, below_alloc (below_alloc B1 _) _, ⟨hL _ [_, _] 0 _ rfl, hR _ _, .inl rfl⟩, ⟨hL _ [_, _] 1 _ rfl, hR _ _, hN _ _ rfl rfl⟩⟩
    case round =>
      obtain ⟨k, hk, rfl, Bk, S0⟩ := hrel
      have H0 := Lib.hid S0
      clear S0
      by_cases e0 : k = 0
      · clear hk
        subst e0
        go_wp2_with fail
        have Bd : Below w.heap.size w wr.drew := Bk.trans ⟨rfl, rfl, rfl, Nat.le_refl _, fun _ _ => rfl⟩
        have HS : RdT (w1.heap.size + 1) w.heap.size w1.heap.size [.int .u8 mk, .int .i64 mf, .int .i64 mt, .int .i64 br, .int .i64 bp, .int .i64 mi, .int .i64 mc, .int .i64 mn, .int .i64 mh, .int .i64 mo, .int .i64 ms, .int .u8 ek, .int .i64 ec, .int .i64 es, .int .u8 eo, .string k1, .string k2, .string k3, .int .u8 oo, .string o1, .string o2, .string o3, .int .i64 re, .bool rf, .string rv, .slice Ar nr cr, .slice Ab nb cb] wr.drew := H0.out
        refine start_ (n := 53) (S := RdT (w1.heap.size + 1) w.heap.size w1.heap.size [.int .u8 mk, .int .i64 mf, .int .i64 mt, .int .i64 br, .int .i64 bp, .int .i64 mi, .int .i64 mc, .int .i64 mn, .int .i64 mh, .int .i64 mo, .int .i64 ms, .int .u8 ek, .int .i64 ec, .int .i64 es, .int .u8 eo, .string k1, .string k2, .string k3, .int .u8 oo, .string o1, .string o2, .string o3, .int .i64 re, .bool rf, .string rv, .slice Ar nr cr, .slice Ab nb cb]) (ds := []) #[false, false, false, false, false, false, false, false, false, false, false, false, false, false, false, false, false, false, false, false, false, false, false, false, false, false, false, false, false, false, false, false, false, false, false, false, false, false, false, false, false, false, false, false, false, false, false, false, false, false, false, false, false] mixed rfl rfl HS (fun hHeld => ?_)
        refine pure_ (i := 0) (N := (some 32)) (v := ?_) (a' := ?_) #[true, false, false, false, false, false, false, false, false, false, false, false, false, false, false, false, false, false, false, false, false, false, false, false, false, false, false, false, false, false, false, false, false, false, false, false, false, false, false, false, false, false, false, false, false, false, false, false, false, false, false, false, false] rfl rfl (by kernel_rfl) (fun _ _ _ h => h) (Or.inl ⟨by rfl, ?_⟩) ?_ ?_
        rotate_left
        · intro w_
          go_simp
          with_reducible rfl
        rotate_left
        · simp only [Act.put, List.setIfInBounds_toArray, List.set_cons_zero, List.set_cons_succ]; rfl
        refine pure_ (i := 1) (N := (some 33)) (v := ?_) (a' := ?_) #[true, true, false, false, false, false, false, false, false, false, false, false, false, false, false, false, false, false, false, false, false, false, false, false, false, false, false, false, false, false, false, false, false, false, false, false, false, false, false, false, false, false, false, false, false, false, false, false, false, false, false, false, false] rfl rfl (by kernel_rfl) (fun _ _ _ h => h) (Or.inl ⟨by rfl, ?_⟩) ?_ ?_
        rotate_left
        · intro w_
          go_simp
          with_reducible rfl
        rotate_left
        · simp only [Act.put, List.setIfInBounds_toArray, List.set_cons_zero, List.set_cons_succ]; rfl
        refine pure_ (i := 2) (N := (some 34)) (v := ?_) (a' := ?_) #[true, true, true, false, false, false, false, false, false, false, false, false, false, false, false, false, false, false, false, false, false, false, false, false, false, false, false, false, false, false, false, false, false, false, false, false, false, false, false, false, false, false, false, false, false, false, false, false, false, false, false, false, false] rfl rfl (by kernel_rfl) (fun _ _ _ h => h) (Or.inl ⟨by rfl, ?_⟩) ?_ ?_
        rotate_left
        · intro w_
          go_simp
          with_reducible rfl
        rotate_left
        · simp only [Act.put, List.setIfInBounds_toArray, List.set_cons_zero, List.set_cons_succ]; rfl
        refine take_ (i := 3) (N := (some 35)) (v := .pointer none) (a' := ?_) #[true, true, true, true, false, false, false, false, false, false, false, false, false, false, false, false, false, false, false, false, false, false, false, false, false, false, false, false, false, false, false, false, false, false, false, false, false, false, false, false, false, false, false, false, false, false, false, false, false, false, false, false, false] rfl rfl (by kernel_rfl) (fun _ _ _ h => h) (Or.inl ⟨by rfl, fun w_ hS_ => ?_⟩) hHeld ?_ ?_
        · have hA_ := hS_.1.1
          clear hHeld hS_
          go_simp
        rotate_left
        · simp only [Act.put, List.setIfInBounds_toArray, List.set_cons_zero, List.set_cons_succ]; rfl
        refine pure_ (i := 4) (N := (some 36)) (v := ?_) (a' := ?_) #[true, true, true, true, true, false, false, false, false, false, false, false, false, false, false, false, false, false, false, false, false, false, false, false, false, false, false, false, false, false, false, false, false, false, false, false, false, false, false, false, false, false, false, false, false, false, false, false, false, false, false, false, false] rfl rfl (by kernel_rfl) (fun _ _ _ h => h) (Or.inl ⟨by rfl, ?_⟩) ?_ ?_
        rotate_left
        · intro w_
          go_simp
          with_reducible rfl
        rotate_left
        · simp only [Act.put, List.setIfInBounds_toArray, List.set_cons_zero, List.set_cons_succ]; rfl
        refine take_ (i := 5) (N := (some 37)) (v := .agg ([.int .u8 mk, .int .i64 mf, .int .i64 mt, .int .i64 br, .int .i64 bp, .int .i64 mi, .int .i64 mc, .int .i64 mn, .int .i64 mh, .int .i64 mo, .int .i64 ms, .int .u8 ek, .int .i64 ec, .int .i64 es, .int .u8 eo, .string k1, .string k2, .string k3, .int .u8 oo, .string o1, .string o2, .string o3, .int .i64 re, .bool rf, .string rv, .slice Ar nr cr, .slice Ab nb cb]).toArray) (a' := ?_) #[true, true, true, true, true, true, false, false, false, false, false, false, false, false, false, false, false, false, false, false, false, false, false, false, false, false, false, false, false, false, false, false, false, false, false, false, false, false, false, false, false, false, false, false, false, false, false, false, false, false, false, false, false] rfl rfl (by kernel_rfl) (fun _ _ _ h => h) (yieldsIf_load_mid rfl 34 _ rfl (w.heap.size) (1) rfl ([.int .u8 mk, .int .i64 mf, .int .i64 mt, .int .i64 br, .int .i64 bp, .int .i64 mi, .int .i64 mc, .int .i64 mn, .int .i64 mh, .int .i64 mo, .int .i64 ms, .int .u8 ek, .int .i64 ec, .int .i64 es, .int .u8 eo, .string k1, .string k2, .string k3, .int .u8 oo, .string o1, .string o2, .string o3, .int .i64 re, .bool rf, .string rv, .slice Ar nr cr, .slice Ab nb cb]) _ (fun w_ hS_ => hS_.1.2.1) hu34.out rfl (by kernel_rfl)) hHeld ?_ ?_
        rotate_left
        · simp only [Act.put, List.setIfInBounds_toArray, List.set_cons_zero, List.set_cons_succ]; rfl
        refine one_ (i := 6) (N := (some 38)) #[true, true, true, true, true, true, true, false, false, false, false, false, false, false, false, false, false, false, false, false, false, false, false, false, false, false, false, false, false, false, false, false, false, false, false, false, false, false, false, false, false, false, false, false, false, false, false, false, false, false, false, false, false] rfl rfl (by kernel_rfl) (by decide) (fun K hK => ?_)
        refine goes_ Tryz.func5 (by kernel_rfl) rfl #[.pointer none, .agg #[.int .u8 mk, .int .i64 mf, .int .i64 mt, .int .i64 br, .int .i64 bp, .int .i64 mi, .int .i64 mc, .int .i64 mn, .int .i64 mh, .int .i64 mo, .int .i64 ms, .int .u8 ek, .int .i64 ec, .int .i64 es, .int .u8 eo, .string k1, .string k2, .string k3, .int .u8 oo, .string o1, .string o2, .string o3, .int .i64 re, .bool rf, .string rv, .slice Ar nr cr, .slice Ab nb cb]] (by rfl) rfl rfl (by simp [Act.eval]) ?_
        refine (step_any _ _ _ hHeld.1.2.2).mono ?_
        rintro _ x6 ⟨rfl, hx6⟩
        refine ⟨_, rfl, ?_⟩
        have Bx6 := Bd.trans (hx6.mono Bd.size)
        clear Bd
        refine hK.out _ _ (rdT_below hHeld hx6) (fun hHeld => ?_)
        clear hK K
        refine norm_ (a' := ?_) ?_ ?_
        rotate_left
        · show Act.put _ (some 38) _ = _
          simp only [Act.put, List.setIfInBounds_toArray, List.set_cons_zero, List.set_cons_succ]; rfl
        clear hx6
        refine pure_ (i := 7) (N := (some 39)) (v := ?_) (a' := ?_) #[true, true, true, true, true, true, true, true, false, false, false, false, false, false, false, false, false, false, false, false, false, false, false, false, false, false, false, false, false, false, false, false, false, false, false, false, false, false, false, false, false, false, false, false, false, false, false, false, false, false, false, false, false] rfl rfl (by kernel_rfl) (fun _ _ _ h => h) (Or.inl ⟨by rfl, ?_⟩) ?_ ?_
        rotate_left
        · intro w_
          go_simp
          with_reducible rfl
        rotate_left
        · simp only [Act.put, List.setIfInBounds_toArray, List.set_cons_zero, List.set_cons_succ]; rfl
        refine pure_ (i := 8) (N := (some 40)) (v := ?_) (a' := ?_) #[true, true, true, true, true, true, true, true, true, false, false, false, false, false, false, false, false, false, false, false, false, false, false, false, false, false, false, false, false, false, false, false, false, false, false, false, false, false, false, false, false, false, false, false, false, false, false, false, false, false, false, false, false] rfl rfl (by kernel_rfl) (fun _ _ _ h => h) (Or.inl ⟨by rfl, ?_⟩) ?_ ?_
        rotate_left
        · intro w_
          go_simp
          with_reducible rfl
        rotate_left
        · simp only [Act.put, List.setIfInBounds_toArray, List.set_cons_zero, List.set_cons_succ]; rfl
        refine pure_ (i := 9) (N := (some 41)) (v := ?_) (a' := ?_) #[true, true, true, true, true, true, true, true, true, true, false, false, false, false, false, false, false, false, false, false, false, false, false, false, false, false, false, false, false, false, false, false, false, false, false, false, false, false, false, false, false, false, false, false, false, false, false, false, false, false, false, false, false] rfl rfl (by kernel_rfl) (fun _ _ _ h => h) (Or.inl ⟨by rfl, ?_⟩) ?_ ?_
        rotate_left
        · intro w_
          go_simp
          with_reducible rfl
        rotate_left
        · simp only [Act.put, List.setIfInBounds_toArray, List.set_cons_zero, List.set_cons_succ]; rfl
        refine pure_ (i := 10) (N := (some 42)) (v := ?_) (a' := ?_) #[true, true, true, true, true, true, true, true, true, true, true, false, false, false, false, false, false, false, false, false, false, false, false, false, false, false, false, false, false, false, false, false, false, false, false, false, false, false, false, false, false, false, false, false, false, false, false, false, false, false, false, false, false] rfl rfl (by kernel_rfl) (fun _ _ _ h => h) (Or.inl ⟨by rfl, ?_⟩) ?_ ?_
        rotate_left
        · intro w_
          go_simp
          with_reducible rfl
        rotate_left
        · simp only [Act.put, List.setIfInBounds_toArray, List.set_cons_zero, List.set_cons_succ]; rfl
        refine pure_ (i := 11) (N := (some 43)) (v := ?_) (a' := ?_) #[true, true, true, true, true, true, true, true, true, true, true, true, false, false, false, false, false, false, false, false, false, false, false, false, false, false, false, false, false, false, false, false, false, false, false, false, false, false, false, false, false, false, false, false, false, false, false, false, false, false, false, false, false] rfl rfl (by kernel_rfl) (fun _ _ _ h => h) (Or.inl ⟨by rfl, ?_⟩) ?_ ?_
        rotate_left
        · intro w_
          go_simp
          with_reducible rfl
        rotate_left
        · simp only [Act.put, List.setIfInBounds_toArray, List.set_cons_zero, List.set_cons_succ]; rfl
        refine pure_ (i := 12) (N := (some 44)) (v := ?_) (a' := ?_) #[true, true, true, true, true, true, true, true, true, true, true, true, true, false, false, false, false, false, false, false, false, false, false, false, false, false, false, false, false, false, false, false, false, false, false, false, false, false, false, false, false, false, false, false, false, false, false, false, false, false, false, false, false] rfl rfl (by kernel_rfl) (fun _ _ _ h => h) (Or.inl ⟨by rfl, ?_⟩) ?_ ?_
        rotate_left
        · intro w_
          go_simp
          with_reducible rfl
        rotate_left
        · simp only [Act.put, List.setIfInBounds_toArray, List.set_cons_zero, List.set_cons_succ]; rfl
        refine take_ (i := 13) (N := (some 45)) (v := .pointer none) (a' := ?_) #[true, true, true, true, true, true, true, true, true, true, true, true, true, true, false, false, false, false, false, false, false, false, false, false, false, false, false, false, false, false, false, false, false, false, false, false, false, false, false, false, false, false, false, false, false, false, false, false, false, false, false, false, false] rfl rfl (by kernel_rfl) (fun _ _ _ h => h) (Or.inl ⟨by rfl, fun w_ hS_ => ?_⟩) hHeld ?_ ?_
        · have hA_ := hS_.1.1
          clear hHeld hS_
          go_simp
        rotate_left
        · simp only [Act.put, List.setIfInBounds_toArray, List.set_cons_zero, List.set_cons_succ]; rfl
        refine one_ (i := 14) (N := (some 46)) #[true, true, true, true, true, true, true, true, true, true, true, true, true, true, true, false, false, false, false, false, false, false, false, false, false, false, false, false, false, false, false, false, false, false, false, false, false, false, false, false, false, false, false, false, false, false, false, false, false, false, false, false, false] rfl rfl (by kernel_rfl) (by decide) (fun K hK => ?_)
        refine goes_ Tryz.func6 (by kernel_rfl) rfl #[.pointer none] (by rfl) rfl rfl (by simp [Act.eval]) ?_
        refine (tick_any _ _ hHeld.1.2.2).mono ?_
        rintro _ x14 ⟨rfl, hx14⟩
        refine ⟨_, rfl, ?_⟩
        have Bx14 := Bx6.trans (hx14.mono Bx6.size)
        clear Bx6
        refine hK.out _ _ (rdT_below hHeld hx14) (fun hHeld => ?_)
        clear hK K
        refine norm_ (a' := ?_) ?_ ?_
        rotate_left
        · show Act.put _ (some 46) _ = _
          simp only [Act.put, List.setIfInBounds_toArray, List.set_cons_zero, List.set_cons_succ]; rfl
        clear hx14
        refine pure_ (i := 15) (N := (some 47)) (v := ?_) (a' := ?_) #[true, true, true, true, true, true, true, true, true, true, true, true, true, true, true, true, false, false, false, false, false, false, false, false, false, false, false, false, false, false, false, false, false, false, false, false, false, false, false, false, false, false, false, false, false, false, false, false, false, false, false, false, false] rfl rfl (by kernel_rfl) (fun _ _ _ h => h) (Or.inl ⟨by rfl, ?_⟩) ?_ ?_
        rotate_left
        · intro w_
          go_simp
          with_reducible rfl
        rotate_left
        · simp only [Act.put, List.setIfInBounds_toArray, List.set_cons_zero, List.set_cons_succ]; rfl
        refine pure_ (i := 16) (N := (some 48)) (v := ?_) (a' := ?_) #[true, true, true, true, true, true, true, true, true, true, true, true, true, true, true, true, true, false, false, false, false, false, false, false, false, false, false, false, false, false, false, false, false, false, false, false, false, false, false, false, false, false, false, false, false, false, false, false, false, false, false, false, false] rfl rfl (by kernel_rfl) (fun _ _ _ h => h) (Or.inl ⟨by rfl, ?_⟩) ?_ ?_
        rotate_left
        · intro w_
          go_simp
          with_reducible rfl
        rotate_left
        · simp only [Act.put, List.setIfInBounds_toArray, List.set_cons_zero, List.set_cons_succ]; rfl
        refine pure_ (i := 17) (N := (some 49)) (v := ?_) (a' := ?_) #[true, true, true, true, true, true, true, true, true, true, true, true, true, true, true, true, true, true, false, false, false, false, false, false, false, false, false, false, false, false, false, false, false, false, false, false, false, false, false, false, false, false, false, false, false, false, false, false, false, false, false, false, false] rfl rfl (by kernel_rfl) (fun _ _ _ h => h) (Or.inl ⟨by rfl, ?_⟩) ?_ ?_
        rotate_left
        · intro w_
          go_simp
          with_reducible rfl
        rotate_left
        · simp only [Act.put, List.setIfInBounds_toArray, List.set_cons_zero, List.set_cons_succ]; rfl
        refine pure_ (i := 18) (N := (some 50)) (v := ?_) (a' := ?_) #[true, true, true, true, true, true, true, true, true, true, true, true, true, true, true, true, true, true, true, false, false, false, false, false, false, false, false, false, false, false, false, false, false, false, false, false, false, false, false, false, false, false, false, false, false, false, false, false, false, false, false, false, false] rfl rfl (by kernel_rfl) (fun _ _ _ h => h) (Or.inl ⟨by rfl, ?_⟩) ?_ ?_
        rotate_left
        · intro w_
          go_simp
          with_reducible rfl
        rotate_left
        · simp only [Act.put, List.setIfInBounds_toArray, List.set_cons_zero, List.set_cons_succ]; rfl
        refine pure_ (i := 19) (N := (some 51)) (v := ?_) (a' := ?_) #[true, true, true, true, true, true, true, true, true, true, true, true, true, true, true, true, true, true, true, true, false, false, false, false, false, false, false, false, false, false, false, false, false, false, false, false, false, false, false, false, false, false, false, false, false, false, false, false, false, false, false, false, false] rfl rfl (by kernel_rfl) (fun _ _ _ h => h) (Or.inl ⟨by rfl, ?_⟩) ?_ ?_
        rotate_left
        · intro w_
          go_simp
          with_reducible rfl
        rotate_left
        · simp only [Act.put, List.setIfInBounds_toArray, List.set_cons_zero, List.set_cons_succ]; rfl
        refine pure_ (i := 20) (N := (some 52)) (v := ?_) (a' := ?_) #[true, true, true, true, true, true, true, true, true, true, true, true, true, true, true, true, true, true, true, true, true, false, false, false, false, false, false, false, false, false, false, false, false, false, false, false, false, false, false, false, false, false, false, false, false, false, false, false, false, false, false, false, false] rfl rfl (by kernel_rfl) (fun _ _ _ h => h) (Or.inl ⟨by rfl, ?_⟩) ?_ ?_
        rotate_left
        · intro w_
          go_simp
          with_reducible rfl
        rotate_left
        · simp only [Act.put, List.setIfInBounds_toArray, List.set_cons_zero, List.set_cons_succ]; rfl
        refine pure_ (i := 21) (N := (some 53)) (v := ?_) (a' := ?_) #[true, true, true, true, true, true, true, true, true, true, true, true, true, true, true, true, true, true, true, true, true, true, false, false, false, false, false, false, false, false, false, false, false, false, false, false, false, false, false, false, false, false, false, false, false, false, false, false, false, false, false, false, false] rfl rfl (by kernel_rfl) (fun _ _ _ h => h) (Or.inl ⟨by rfl, ?_⟩) ?_ ?_
        rotate_left
        · intro w_
          go_simp
          with_reducible rfl
        rotate_left
        · simp only [Act.put, List.setIfInBounds_toArray, List.set_cons_zero, List.set_cons_succ]; rfl
        refine take_ (i := 22) (N := (some 54)) (v := .pointer none) (a' := ?_) #[true, true, true, true, true, true, true, true, true, true, true, true, true, true, true, true, true, true, true, true, true, true, true, false, false, false, false, false, false, false, false, false, false, false, false, false, false, false, false, false, false, false, false, false, false, false, false, false, false, false, false, false, false] rfl rfl (by kernel_rfl) (fun _ _ _ h => h) (Or.inl ⟨by rfl, fun w_ hS_ => ?_⟩) hHeld ?_ ?_
        · have hA_ := hS_.1.1
          clear hHeld hS_
          go_simp
        rotate_left
        · simp only [Act.put, List.setIfInBounds_toArray, List.set_cons_zero, List.set_cons_succ]; rfl
        refine one_ (i := 23) (N := (some 55)) #[true, true, true, true, true, true, true, true, true, true, true, true, true, true, true, true, true, true, true, true, true, true, true, true, false, false, false, false, false, false, false, false, false, false, false, false, false, false, false, false, false, false, false, false, false, false, false, false, false, false, false, false, false] rfl rfl (by kernel_rfl) (by decide) (fun K hK => ?_)
        refine goes_ Tryz.func7 (by kernel_rfl) rfl #[.pointer none] (by rfl) rfl rfl (by simp [Act.eval]) ?_
        refine (up_any _ _ hHeld.1.2.2).mono ?_
        rintro _ x23 ⟨rfl, rfl⟩
        refine ⟨_, rfl, ?_⟩
        refine hK.out _ _ hHeld (fun hHeld => ?_)
        clear hK K
        refine norm_ (a' := ?_) ?_ ?_
        rotate_left
        · show Act.put _ (some 55) _ = _
          simp only [Act.put, List.setIfInBounds_toArray, List.set_cons_zero, List.set_cons_succ]; rfl
        refine pure_ (i := 24) (N := (some 56)) (v := ?_) (a' := ?_) #[true, true, true, true, true, true, true, true, true, true, true, true, true, true, true, true, true, true, true, true, true, true, true, true, true, false, false, false, false, false, false, false, false, false, false, false, false, false, false, false, false, false, false, false, false, false, false, false, false, false, false, false, false] rfl rfl (by kernel_rfl) (fun _ _ _ h => h) (Or.inl ⟨by rfl, ?_⟩) ?_ ?_
        rotate_left
        · intro w_
          go_simp
          with_reducible rfl
        rotate_left
        · simp only [Act.put, List.setIfInBounds_toArray, List.set_cons_zero, List.set_cons_succ]; rfl
        refine pure_ (i := 25) (N := (some 57)) (v := ?_) (a' := ?_) #[true, true, true, true, true, true, true, true, true, true, true, true, true, true, true, true, true, true, true, true, true, true, true, true, true, true, false, false, false, false, false, false, false, false, false, false, false, false, false, false, false, false, false, false, false, false, false, false, false, false, false, false, false] rfl rfl (by kernel_rfl) (fun _ _ _ h => h) (Or.inl ⟨by rfl, ?_⟩) ?_ ?_
        rotate_left
        · intro w_
          go_simp
          with_reducible rfl
        rotate_left
        · simp only [Act.put, List.setIfInBounds_toArray, List.set_cons_zero, List.set_cons_succ]; rfl
        refine pure_ (i := 26) (N := (some 58)) (v := ?_) (a' := ?_) #[true, true, true, true, true, true, true, true, true, true, true, true, true, true, true, true, true, true, true, true, true, true, true, true, true, true, true, false, false, false, false, false, false, false, false, false, false, false, false, false, false, false, false, false, false, false, false, false, false, false, false, false, false] rfl rfl (by kernel_rfl) (fun _ _ _ h => h) (Or.inl ⟨by rfl, ?_⟩) ?_ ?_
        rotate_left
        · intro w_
          go_simp
          with_reducible rfl
        rotate_left
        · simp only [Act.put, List.setIfInBounds_toArray, List.set_cons_zero, List.set_cons_succ]; rfl
        refine pure_ (i := 27) (N := (some 59)) (v := ?_) (a' := ?_) #[true, true, true, true, true, true, true, true, true, true, true, true, true, true, true, true, true, true, true, true, true, true, true, true, true, true, true, true, false, false, false, false, false, false, false, false, false, false, false, false, false, false, false, false, false, false, false, false, false, false, false, false, false] rfl rfl (by kernel_rfl) (fun _ _ _ h => h) (Or.inl ⟨by rfl, ?_⟩) ?_ ?_
        rotate_left
        · intro w_
          go_simp
          with_reducible rfl
        rotate_left
        · simp only [Act.put, List.setIfInBounds_toArray, List.set_cons_zero, List.set_cons_succ]; rfl
        refine pure_ (i := 28) (N := (some 60)) (v := ?_) (a' := ?_) #[true, true, true, true, true, true, true, true, true, true, true, true, true, true, true, true, true, true, true, true, true, true, true, true, true, true, true, true, true, false, false, false, false, false, false, false, false, false, false, false, false, false, false, false, false, false, false, false, false, false, false, false, false] rfl rfl (by kernel_rfl) (fun _ _ _ h => h) (Or.inl ⟨by rfl, ?_⟩) ?_ ?_
        rotate_left
        · intro w_
          go_simp
          with_reducible rfl
        rotate_left
        · simp only [Act.put, List.setIfInBounds_toArray, List.set_cons_zero, List.set_cons_succ]; rfl
        refine take_ (i := 29) (N := (some 61)) (v := .pointer none) (a' := ?_) #[true, true, true, true, true, true, true, true, true, true, true, true, true, true, true, true, true, true, true, true, true, true, true, true, true, true, true, true, true, true, false, false, false, false, false, false, false, false, false, false, false, false, false, false, false, false, false, false, false, false, false, false, false] rfl rfl (by kernel_rfl) (fun _ _ _ h => h) (Or.inl ⟨by rfl, fun w_ hS_ => ?_⟩) hHeld ?_ ?_
        · have hA_ := hS_.1.1
          clear hHeld hS_
          go_simp
        rotate_left
        · simp only [Act.put, List.setIfInBounds_toArray, List.set_cons_zero, List.set_cons_succ]; rfl
        refine pure_ (i := 31) (N := (some 63)) (v := ?_) (a' := ?_) #[true, true, true, true, true, true, true, true, true, true, true, true, true, true, true, true, true, true, true, true, true, true, true, true, true, true, true, true, true, true, false, true, false, false, false, false, false, false, false, false, false, false, false, false, false, false, false, false, false, false, false, false, false] rfl rfl (by kernel_rfl) (fun _ _ _ h => h) (Or.inl ⟨by rfl, ?_⟩) ?_ ?_
        rotate_left
        · intro w_
          go_simp
          with_reducible rfl
        rotate_left
        · simp only [Act.put, List.setIfInBounds_toArray, List.set_cons_zero, List.set_cons_succ]; rfl
        refine one_ (i := 30) (N := (some 62)) #[true, true, true, true, true, true, true, true, true, true, true, true, true, true, true, true, true, true, true, true, true, true, true, true, true, true, true, true, true, true, true, true, false, false, false, false, false, false, false, false, false, false, false, false, false, false, false, false, false, false, false, false, false] rfl rfl (by kernel_rfl) (by decide) (fun K hK => ?_)
        refine goes_ Tryz.func9 (by kernel_rfl) rfl #[.pointer none] (by rfl) rfl rfl (by simp [Act.eval]) ?_
        refine (tells_any _ _ hHeld.1.2.2).mono ?_
        rintro _ x30 ⟨rfl, hx30⟩
        refine ⟨_, rfl, ?_⟩
        have Bx30 := Bx14.trans (hx30.mono Bx14.size)
        clear Bx14
        refine hK.out _ _ (rdT_below hHeld hx30) (fun hHeld => ?_)
        clear hK K
        refine norm_ (a' := ?_) ?_ ?_
        rotate_left
        · show Act.put _ (some 62) _ = _
          simp only [Act.put, List.setIfInBounds_toArray, List.set_cons_zero, List.set_cons_succ]; rfl
        clear hx30
        refine one_ (i := 32) (N := (some 64)) #[true, true, true, true, true, true, true, true, true, true, true, true, true, true, true, true, true, true, true, true, true, true, true, true, true, true, true, true, true, true, true, true, true, false, false, false, false, false, false, false, false, false, false, false, false, false, false, false, false, false, false, false, false] rfl rfl (by kernel_rfl) (by decide) (fun K hK => ?_)
        refine goes_ Tryz.func8 (by kernel_rfl) rfl #[.agg #[.int .u8 0, .int .i64 0, .int .i64 0, .int .i64 0, .int .i64 0, .int .i64 0, .int .i64 0, .int .i64 0, .int .i64 0, .int .i64 0, .bool false, .slice none 0 0, .slice none 0 0], .agg #[.int .u8 0, .int .i64 0, .int .i64 0, .int .i64 0, .int .i64 0, .int .i64 0, .int .i64 0, .int .i64 0, .int .i64 0, .int .i64 0, .bool false, .slice none 0 0, .slice none 0 0]] (by rfl) rfl rfl (by simp [Act.eval]) ?_
        refine (same_zero _).mono ?_
        rintro _ x32 ⟨rfl, hx32⟩
        refine ⟨_, rfl, ?_⟩
        have Bx32 := Bx30.trans (hx32.mono Bx30.size)
        clear Bx30
        refine hK.out _ _ (rdT_below hHeld hx32) (fun hHeld => ?_)
        clear hK K
        refine norm_ (a' := ?_) ?_ ?_
        rotate_left
        · show Act.put _ (some 64) _ = _
          simp only [Act.put, List.setIfInBounds_toArray, List.set_cons_zero, List.set_cons_succ]; rfl
        clear hx32
        refine pure_ (i := 33) (N := (some 65)) (v := ?_) (a' := ?_) #[true, true, true, true, true, true, true, true, true, true, true, true, true, true, true, true, true, true, true, true, true, true, true, true, true, true, true, true, true, true, true, true, true, true, false, false, false, false, false, false, false, false, false, false, false, false, false, false, false, false, false, false, false] rfl rfl (by kernel_rfl) (fun _ _ _ h => h) (Or.inl ⟨by rfl, ?_⟩) ?_ ?_
        rotate_left
        · intro w_
          go_simp
          with_reducible rfl
        rotate_left
        · simp only [Act.put, List.setIfInBounds_toArray, List.set_cons_zero, List.set_cons_succ]; rfl
        refine pure_ (i := 34) (N := (some 66)) (v := ?_) (a' := ?_) #[true, true, true, true, true, true, true, true, true, true, true, true, true, true, true, true, true, true, true, true, true, true, true, true, true, true, true, true, true, true, true, true, true, true, true, false, false, false, false, false, false, false, false, false, false, false, false, false, false, false, false, false, false] rfl rfl (by kernel_rfl) (fun _ _ _ h => h) (Or.inl ⟨by rfl, ?_⟩) ?_ ?_
        rotate_left
        · intro w_
          go_simp
          with_reducible rfl
        rotate_left
        · simp only [Act.put, List.setIfInBounds_toArray, List.set_cons_zero, List.set_cons_succ]; rfl
        refine pure_ (i := 35) (N := (some 67)) (v := ?_) (a' := ?_) #[true, true, true, true, true, true, true, true, true, true, true, true, true, true, true, true, true, true, true, true, true, true, true, true, true, true, true, true, true, true, true, true, true, true, true, true, false, false, false, false, false, false, false, false, false, false, false, false, false, false, false, false, false] rfl rfl (by kernel_rfl) (fun _ _ _ h => h) (Or.inl ⟨by rfl, ?_⟩) ?_ ?_
        rotate_left
        · intro w_
          go_simp
          with_reducible rfl
        rotate_left
        · simp only [Act.put, List.setIfInBounds_toArray, List.set_cons_zero, List.set_cons_succ]; rfl
        refine pure_ (i := 36) (N := (some 68)) (v := ?_) (a' := ?_) #[true, true, true, true, true, true, true, true, true, true, true, true, true, true, true, true, true, true, true, true, true, true, true, true, true, true, true, true, true, true, true, true, true, true, true, true, true, false, false, false, false, false, false, false, false, false, false, false, false, false, false, false, false] rfl rfl (by kernel_rfl) (fun _ _ _ h => h) (Or.inl ⟨by rfl, ?_⟩) ?_ ?_
        rotate_left
        · intro w_
          go_simp
          with_reducible rfl
        rotate_left
        · simp only [Act.put, List.setIfInBounds_toArray, List.set_cons_zero, List.set_cons_succ]; rfl
        refine pure_ (i := 37) (N := (some 69)) (v := ?_) (a' := ?_) #[true, true, true, true, true, true, true, true, true, true, true, true, true, true, true, true, true, true, true, true, true, true, true, true, true, true, true, true, true, true, true, true, true, true, true, true, true, true, false, false, false, false, false, false, false, false, false, false, false, false, false, false, false] rfl rfl (by kernel_rfl) (fun _ _ _ h => h) (Or.inl ⟨by rfl, ?_⟩) ?_ ?_
        rotate_left
        · intro w_
          go_simp
          with_reducible rfl
        rotate_left
        · simp only [Act.put, List.setIfInBounds_toArray, List.set_cons_zero, List.set_cons_succ]; rfl
        refine pure_ (i := 38) (N := (some 70)) (v := ?_) (a' := ?_) #[true, true, true, true, true, true, true, true, true, true, true, true, true, true, true, true, true, true, true, true, true, true, true, true, true, true, true, true, true, true, true, true, true, true, true, true, true, true, true, false, false, false, false, false, false, false, false, false, false, false, false, false, false] rfl rfl (by kernel_rfl) (fun _ _ _ h => h) (Or.inl ⟨by rfl, ?_⟩) ?_ ?_
        rotate_left
        · intro w_
          go_simp
          with_reducible rfl
        rotate_left
        · simp only [Act.put, List.setIfInBounds_toArray, List.set_cons_zero, List.set_cons_succ]; rfl
        refine take_ (i := 39) (N := (some 71)) (v := .pointer none) (a' := ?_) #[true, true, true, true, true, true, true, true, true, true, true, true, true, true, true, true, true, true, true, true, true, true, true, true, true, true, true, true, true, true, true, true, true, true, true, true, true, true, true, true, false, false, false, false, false, false, false, false, false, false, false, false, false] rfl rfl (by kernel_rfl) (fun _ _ _ h => h) (Or.inl ⟨by rfl, fun w_ hS_ => ?_⟩) hHeld ?_ ?_
        · have hA_ := hS_.1.1
          clear hHeld hS_
          go_simp
        rotate_left
        · simp only [Act.put, List.setIfInBounds_toArray, List.set_cons_zero, List.set_cons_succ]; rfl
        refine one_ (i := 40) (N := (some 72)) #[true, true, true, true, true, true, true, true, true, true, true, true, true, true, true, true, true, true, true, true, true, true, true, true, true, true, true, true, true, true, true, true, true, true, true, true, true, true, true, true, true, false, false, false, false, false, false, false, false, false, false, false, false] rfl rfl (by kernel_rfl) (by decide) (fun K hK => ?_)
        refine goes_ Tryz.func10 (by kernel_rfl) rfl #[.pointer none] (by rfl) rfl rfl (by simp [Act.eval]) ?_
        refine (done_any _ _ hHeld.1.2.2).mono ?_
        rintro _ x40 ⟨rfl, rfl⟩
        refine ⟨_, rfl, ?_⟩
        refine hK.out _ _ hHeld (fun hHeld => ?_)
        clear hK K
        refine norm_ (a' := ?_) ?_ ?_
        rotate_left
        · show Act.put _ (some 72) _ = _
          simp only [Act.put, List.setIfInBounds_toArray, List.set_cons_zero, List.set_cons_succ]; rfl
        refine pure_ (i := 41) (N := (some 73)) (v := ?_) (a' := ?_) #[true, true, true, true, true, true, true, true, true, true, true, true, true, true, true, true, true, true, true, true, true, true, true, true, true, true, true, true, true, true, true, true, true, true, true, true, true, true, true, true, true, true, false, false, false, false, false, false, false, false, false, false, false] rfl rfl (by kernel_rfl) (fun _ _ _ h => h) (Or.inl ⟨by rfl, ?_⟩) ?_ ?_
        rotate_left
        · intro w_
          go_simp
          with_reducible rfl
        rotate_left
        · simp only [Act.put, List.setIfInBounds_toArray, List.set_cons_zero, List.set_cons_succ]; rfl
        refine pure_ (i := 42) (N := (some 74)) (v := ?_) (a' := ?_) #[true, true, true, true, true, true, true, true, true, true, true, true, true, true, true, true, true, true, true, true, true, true, true, true, true, true, true, true, true, true, true, true, true, true, true, true, true, true, true, true, true, true, true, false, false, false, false, false, false, false, false, false, false] rfl rfl (by kernel_rfl) (fun _ _ _ h => h) (Or.inl ⟨by rfl, ?_⟩) ?_ ?_
        rotate_left
        · intro w_
          go_simp
          with_reducible rfl
        rotate_left
        · simp only [Act.put, List.setIfInBounds_toArray, List.set_cons_zero, List.set_cons_succ]; rfl
        refine pure_ (i := 43) (N := (some 75)) (v := ?_) (a' := ?_) #[true, true, true, true, true, true, true, true, true, true, true, true, true, true, true, true, true, true, true, true, true, true, true, true, true, true, true, true, true, true, true, true, true, true, true, true, true, true, true, true, true, true, true, true, false, false, false, false, false, false, false, false, false] rfl rfl (by kernel_rfl) (fun _ _ _ h => h) (Or.inl ⟨by rfl, ?_⟩) ?_ ?_
        rotate_left
        · intro w_
          go_simp
          with_reducible rfl
        rotate_left
        · simp only [Act.put, List.setIfInBounds_toArray, List.set_cons_zero, List.set_cons_succ]; rfl
        refine pure_ (i := 44) (N := (some 76)) (v := ?_) (a' := ?_) #[true, true, true, true, true, true, true, true, true, true, true, true, true, true, true, true, true, true, true, true, true, true, true, true, true, true, true, true, true, true, true, true, true, true, true, true, true, true, true, true, true, true, true, true, true, false, false, false, false, false, false, false, false] rfl rfl (by kernel_rfl) (fun _ _ _ h => h) (Or.inl ⟨by rfl, ?_⟩) ?_ ?_
        rotate_left
        · intro w_
          go_simp
          with_reducible rfl
        rotate_left
        · simp only [Act.put, List.setIfInBounds_toArray, List.set_cons_zero, List.set_cons_succ]; rfl
        refine pure_ (i := 45) (N := (some 77)) (v := ?_) (a' := ?_) #[true, true, true, true, true, true, true, true, true, true, true, true, true, true, true, true, true, true, true, true, true, true, true, true, true, true, true, true, true, true, true, true, true, true, true, true, true, true, true, true, true, true, true, true, true, true, false, false, false, false, false, false, false] rfl rfl (by kernel_rfl) (fun _ _ _ h => h) (Or.inl ⟨by rfl, ?_⟩) ?_ ?_
        rotate_left
        · intro w_
          go_simp
          with_reducible rfl
        rotate_left
        · simp only [Act.put, List.setIfInBounds_toArray, List.set_cons_zero, List.set_cons_succ]; rfl
        refine pure_ (i := 46) (N := (some 78)) (v := ?_) (a' := ?_) #[true, true, true, true, true, true, true, true, true, true, true, true, true, true, true, true, true, true, true, true, true, true, true, true, true, true, true, true, true, true, true, true, true, true, true, true, true, true, true, true, true, true, true, true, true, true, true, false, false, false, false, false, false] rfl rfl (by kernel_rfl) (fun _ _ _ h => h) (Or.inl ⟨by rfl, ?_⟩) ?_ ?_
        rotate_left
        · intro w_
          go_simp
          with_reducible rfl
        rotate_left
        · simp only [Act.put, List.setIfInBounds_toArray, List.set_cons_zero, List.set_cons_succ]; rfl
        refine pure_ (i := 47) (N := (some 79)) (v := ?_) (a' := ?_) #[true, true, true, true, true, true, true, true, true, true, true, true, true, true, true, true, true, true, true, true, true, true, true, true, true, true, true, true, true, true, true, true, true, true, true, true, true, true, true, true, true, true, true, true, true, true, true, true, false, false, false, false, false] rfl rfl (by kernel_rfl) (fun _ _ _ h => h) (Or.inl ⟨by rfl, ?_⟩) ?_ ?_
        rotate_left
        · intro w_
          go_simp
          with_reducible rfl
        rotate_left
        · simp only [Act.put, List.setIfInBounds_toArray, List.set_cons_zero, List.set_cons_succ]; rfl
        refine take_ (i := 48) (N := (some 80)) (v := .pointer none) (a' := ?_) #[true, true, true, true, true, true, true, true, true, true, true, true, true, true, true, true, true, true, true, true, true, true, true, true, true, true, true, true, true, true, true, true, true, true, true, true, true, true, true, true, true, true, true, true, true, true, true, true, true, false, false, false, false] rfl rfl (by kernel_rfl) (fun _ _ _ h => h) (Or.inl ⟨by rfl, fun w_ hS_ => ?_⟩) hHeld ?_ ?_
        · have hA_ := hS_.1.1
          clear hHeld hS_
          go_simp
        rotate_left
        · simp only [Act.put, List.setIfInBounds_toArray, List.set_cons_zero, List.set_cons_succ]; rfl
        refine one_ (i := 49) (N := (some 81)) #[true, true, true, true, true, true, true, true, true, true, true, true, true, true, true, true, true, true, true, true, true, true, true, true, true, true, true, true, true, true, true, true, true, true, true, true, true, true, true, true, true, true, true, true, true, true, true, true, true, true, false, false, false] rfl rfl (by kernel_rfl) (by decide) (fun K hK => ?_)
        refine goes_ Tryz.func11 (by kernel_rfl) rfl #[.pointer none] (by rfl) rfl rfl (by simp [Act.eval]) ?_
        refine (image_lit _ _ hHeld.1.2.2).mono ?_
        rintro _ x49 ⟨rfl, hx49⟩
        refine ⟨_, rfl, ?_⟩
        have Bx49 := Bx32.trans (hx49.mono Bx32.size)
        clear Bx32
        refine hK.out _ _ (rdT_below hHeld hx49) (fun hHeld => ?_)
        clear hK K
        refine norm_ (a' := ?_) ?_ ?_
        rotate_left
        · show Act.put _ (some 81) _ = _
          simp only [Act.put, List.setIfInBounds_toArray, List.set_cons_zero, List.set_cons_succ]; rfl
        clear hx49
        refine pure_ (i := 50) (N := (some 82)) (v := (.int .i64 0)) (a' := ?_) #[true, true, true, true, true, true, true, true, true, true, true, true, true, true, true, true, true, true, true, true, true, true, true, true, true, true, true, true, true, true, true, true, true, true, true, true, true, true, true, true, true, true, true, true, true, true, true, true, true, true, true, false, false] rfl rfl (by kernel_rfl) (fun _ _ _ h => h) (Or.inl ⟨by rfl, ?_⟩) ?_ ?_
        · intro w_
          go_simp
          rw [field61]
          go_simp
        rotate_left
        · simp only [Act.put, List.setIfInBounds_toArray, List.set_cons_zero, List.set_cons_succ]; rfl
        refine pure_ (i := 51) (N := (some 83)) (v := ?_) (a' := ?_) #[true, true, true, true, true, true, true, true, true, true, true, true, true, true, true, true, true, true, true, true, true, true, true, true, true, true, true, true, true, true, true, true, true, true, true, true, true, true, true, true, true, true, true, true, true, true, true, true, true, true, true, true, false] rfl rfl (by kernel_rfl) (fun _ _ _ h => h) (Or.inl ⟨by rfl, ?_⟩) ?_ ?_
        rotate_left
        · intro w_
          go_simp
          with_reducible rfl
        rotate_left
        · simp only [Act.put, List.setIfInBounds_toArray, List.set_cons_zero, List.set_cons_succ]; rfl
        refine pure_ (i := 52) (N := (some 84)) (v := ?_) (a' := ?_) #[true, true, true, true, true, true, true, true, true, true, true, true, true, true, true, true, true, true, true, true, true, true, true, true, true, true, true, true, true, true, true, true, true, true, true, true, true, true, true, true, true, true, true, true, true, true, true, true, true, true, true, true, true] rfl rfl (by kernel_rfl) (fun _ _ _ h => h) (Or.inl ⟨by rfl, ?_⟩) ?_ ?_
        rotate_left
        · intro w_
          go_simp
          with_reducible rfl
        rotate_left
        · simp only [Act.put, List.setIfInBounds_toArray, List.set_cons_zero, List.set_cons_succ]; rfl
        refine done_ (by kernel_rfl) ?_
        have HH := Lib.hid hHeld
        clear hHeld
        go_wp2_with fail
        go_roundw
        case rel => exact ⟨1, by omega, rfl, Bx49, HH.out⟩
        case measure => simp [intOf]
      · by_cases e1 : k = 1
        · clear hk e0
          subst e1
          go_wp2_with fail
          have Bd : Below w.heap.size w wr.drew := Bk.trans ⟨rfl, rfl, rfl, Nat.le_refl _, fun _ _ => rfl⟩
          have HS : RdT (w1.heap.size + 1) w.heap.size w1.heap.size [.int .u8 mk, .int .i64 mf, .int .i64 mt, .int .i64 br, .int .i64 bp, .int .i64 mi, .int .i64 mc, .int .i64 mn, .int .i64 mh, .int .i64 mo, .int .i64 ms, .int .u8 ek, .int .i64 ec, .int .i64 es, .int .u8 eo, .string k1, .string k2, .string k3, .int .u8 oo, .string o1, .string o2, .string o3, .int .i64 re, .bool rf, .string rv, .slice Ar nr cr, .slice Ab nb cb] wr.drew := H0.out
          refine start_ (n := 53) (S := RdT (w1.heap.size + 1) w.heap.size w1.heap.size [.int .u8 mk, .int .i64 mf, .int .i64 mt, .int .i64 br, .int .i64 bp, .int .i64 mi, .int .i64 mc, .int .i64 mn, .int .i64 mh, .int .i64 mo, .int .i64 ms, .int .u8 ek, .int .i64 ec, .int .i64 es, .int .u8 eo, .string k1, .string k2, .string k3, .int .u8 oo, .string o1, .string o2, .string o3, .int .i64 re, .bool rf, .string rv, .slice Ar nr cr, .slice Ab nb cb]) (ds := []) #[false, false, false, false, false, false, false, false, false, false, false, false, false, false, false, false, false, false, false, false, false, false, false, false, false, false, false, false, false, false, false, false, false, false, false, false, false, false, false, false, false, false, false, false, false, false, false, false, false, false, false, false, false] mixed rfl rfl HS (fun hHeld => ?_)
          refine pure_ (i := 0) (N := (some 32)) (v := ?_) (a' := ?_) #[true, false, false, false, false, false, false, false, false, false, false, false, false, false, false, false, false, false, false, false, false, false, false, false, false, false, false, false, false, false, false, false, false, false, false, false, false, false, false, false, false, false, false, false, false, false, false, false, false, false, false, false, false] rfl rfl (by kernel_rfl) (fun _ _ _ h => h) (Or.inl ⟨by rfl, ?_⟩) ?_ ?_
          rotate_left
          · intro w_
            go_simp
            with_reducible rfl
          rotate_left
          · simp only [Act.put, List.setIfInBounds_toArray, List.set_cons_zero, List.set_cons_succ]; rfl
          refine pure_ (i := 1) (N := (some 33)) (v := ?_) (a' := ?_) #[true, true, false, false, false, false, false, false, false, false, false, false, false, false, false, false, false, false, false, false, false, false, false, false, false, false, false, false, false, false, false, false, false, false, false, false, false, false, false, false, false, false, false, false, false, false, false, false, false, false, false, false, false] rfl rfl (by kernel_rfl) (fun _ _ _ h => h) (Or.inl ⟨by rfl, ?_⟩) ?_ ?_
          rotate_left
          · intro w_
            go_simp
            with_reducible rfl
          rotate_left
          · simp only [Act.put, List.setIfInBounds_toArray, List.set_cons_zero, List.set_cons_succ]; rfl
          refine pure_ (i := 2) (N := (some 34)) (v := ?_) (a' := ?_) #[true, true, true, false, false, false, false, false, false, false, false, false, false, false, false, false, false, false, false, false, false, false, false, false, false, false, false, false, false, false, false, false, false, false, false, false, false, false, false, false, false, false, false, false, false, false, false, false, false, false, false, false, false] rfl rfl (by kernel_rfl) (fun _ _ _ h => h) (Or.inl ⟨by rfl, ?_⟩) ?_ ?_
          rotate_left
          · intro w_
            go_simp
            with_reducible rfl
          rotate_left
          · simp only [Act.put, List.setIfInBounds_toArray, List.set_cons_zero, List.set_cons_succ]; rfl
          refine take_ (i := 3) (N := (some 35)) (v := .pointer (some ⟨w1.heap.size, 0, none⟩)) (a' := ?_) #[true, true, true, true, false, false, false, false, false, false, false, false, false, false, false, false, false, false, false, false, false, false, false, false, false, false, false, false, false, false, false, false, false, false, false, false, false, false, false, false, false, false, false, false, false, false, false, false, false, false, false, false, false] rfl rfl (by kernel_rfl) (fun _ _ _ h => h) (Or.inl ⟨by rfl, fun w_ hS_ => ?_⟩) hHeld ?_ ?_
          · have hA_ := hS_.2.1
            clear hHeld hS_
            go_simp
          rotate_left
          · simp only [Act.put, List.setIfInBounds_toArray, List.set_cons_zero, List.set_cons_succ]; rfl
          refine pure_ (i := 4) (N := (some 36)) (v := ?_) (a' := ?_) #[true, true, true, true, true, false, false, false, false, false, false, false, false, false, false, false, false, false, false, false, false, false, false, false, false, false, false, false, false, false, false, false, false, false, false, false, false, false, false, false, false, false, false, false, false, false, false, false, false, false, false, false, false] rfl rfl (by kernel_rfl) (fun _ _ _ h => h) (Or.inl ⟨by rfl, ?_⟩) ?_ ?_
          rotate_left
          · intro w_
            go_simp
            with_reducible rfl
          rotate_left
          · simp only [Act.put, List.setIfInBounds_toArray, List.set_cons_zero, List.set_cons_succ]; rfl
          refine take_ (i := 5) (N := (some 37)) (v := .agg ([.int .u8 mk, .int .i64 mf, .int .i64 mt, .int .i64 br, .int .i64 bp, .int .i64 mi, .int .i64 mc, .int .i64 mn, .int .i64 mh, .int .i64 mo, .int .i64 ms, .int .u8 ek, .int .i64 ec, .int .i64 es, .int .u8 eo, .string k1, .string k2, .string k3, .int .u8 oo, .string o1, .string o2, .string o3, .int .i64 re, .bool rf, .string rv, .slice Ar nr cr, .slice Ab nb cb]).toArray) (a' := ?_) #[true, true, true, true, true, true, false, false, false, false, false, false, false, false, false, false, false, false, false, false, false, false, false, false, false, false, false, false, false, false, false, false, false, false, false, false, false, false, false, false, false, false, false, false, false, false, false, false, false, false, false, false, false] rfl rfl (by kernel_rfl) (fun _ _ _ h => h) (yieldsIf_load_mid rfl 34 _ rfl (w.heap.size) (1) rfl ([.int .u8 mk, .int .i64 mf, .int .i64 mt, .int .i64 br, .int .i64 bp, .int .i64 mi, .int .i64 mc, .int .i64 mn, .int .i64 mh, .int .i64 mo, .int .i64 ms, .int .u8 ek, .int .i64 ec, .int .i64 es, .int .u8 eo, .string k1, .string k2, .string k3, .int .u8 oo, .string o1, .string o2, .string o3, .int .i64 re, .bool rf, .string rv, .slice Ar nr cr, .slice Ab nb cb]) _ (fun w_ hS_ => hS_.1.2.1) hu34.out rfl (by kernel_rfl)) hHeld ?_ ?_
          rotate_left
          · simp only [Act.put, List.setIfInBounds_toArray, List.set_cons_zero, List.set_cons_succ]; rfl
          refine one_ (i := 6) (N := (some 38)) #[true, true, true, true, true, true, true, false, false, false, false, false, false, false, false, false, false, false, false, false, false, false, false, false, false, false, false, false, false, false, false, false, false, false, false, false, false, false, false, false, false, false, false, false, false, false, false, false, false, false, false, false, false] rfl rfl (by kernel_rfl) (by decide) (fun K hK => ?_)
          refine goes_ Tryz.func5 (by kernel_rfl) rfl #[.pointer (some ⟨w1.heap.size, 0, none⟩), .agg #[.int .u8 mk, .int .i64 mf, .int .i64 mt, .int .i64 br, .int .i64 bp, .int .i64 mi, .int .i64 mc, .int .i64 mn, .int .i64 mh, .int .i64 mo, .int .i64 ms, .int .u8 ek, .int .i64 ec, .int .i64 es, .int .u8 eo, .string k1, .string k2, .string k3, .int .u8 oo, .string o1, .string o2, .string o3, .int .i64 re, .bool rf, .string rv, .slice Ar nr cr, .slice Ab nb cb]] (by rfl) rfl rfl (by simp [Act.eval]) ?_
          refine (step_any _ _ _ hHeld.2.2.2).mono ?_
          rintro _ x6 ⟨rfl, hx6⟩
          refine ⟨_, rfl, ?_⟩
          have Bx6 := Bd.trans (hx6.mono Bd.size)
          clear Bd
          refine hK.out _ _ (rdT_below hHeld hx6) (fun hHeld => ?_)
          clear hK K
          refine norm_ (a' := ?_) ?_ ?_
          rotate_left
          · show Act.put _ (some 38) _ = _
            simp only [Act.put, List.setIfInBounds_toArray, List.set_cons_zero, List.set_cons_succ]; rfl
          clear hx6
          refine pure_ (i := 7) (N := (some 39)) (v := ?_) (a' := ?_) #[true, true, true, true, true, true, true, true, false, false, false, false, false, false, false, false, false, false, false, false, false, false, false, false, false, false, false, false, false, false, false, false, false, false, false, false, false, false, false, false, false, false, false, false, false, false, false, false, false, false, false, false, false] rfl rfl (by kernel_rfl) (fun _ _ _ h => h) (Or.inl ⟨by rfl, ?_⟩) ?_ ?_
          rotate_left
          · intro w_
            go_simp
            with_reducible rfl
          rotate_left
          · simp only [Act.put, List.setIfInBounds_toArray, List.set_cons_zero, List.set_cons_succ]; rfl
          refine pure_ (i := 8) (N := (some 40)) (v := ?_) (a' := ?_) #[true, true, true, true, true, true, true, true, true, false, false, false, false, false, false, false, false, false, false, false, false, false, false, false, false, false, false, false, false, false, false, false, false, false, false, false, false, false, false, false, false, false, false, false, false, false, false, false, false, false, false, false, false] rfl rfl (by kernel_rfl) (fun _ _ _ h => h) (Or.inl ⟨by rfl, ?_⟩) ?_ ?_
          rotate_left
          · intro w_
            go_simp
            with_reducible rfl
          rotate_left
          · simp only [Act.put, List.setIfInBounds_toArray, List.set_cons_zero, List.set_cons_succ]; rfl
          refine pure_ (i := 9) (N := (some 41)) (v := ?_) (a' := ?_) #[true, true, true, true, true, true, true, true, true, true, false, false, false, false, false, false, false, false, false, false, false, false, false, false, false, false, false, false, false, false, false, false, false, false, false, false, false, false, false, false, false, false, false, false, false, false, false, false, false, false, false, false, false] rfl rfl (by kernel_rfl) (fun _ _ _ h => h) (Or.inl ⟨by rfl, ?_⟩) ?_ ?_
          rotate_left
          · intro w_
            go_simp
            with_reducible rfl
          rotate_left
          · simp only [Act.put, List.setIfInBounds_toArray, List.set_cons_zero, List.set_cons_succ]; rfl
          refine pure_ (i := 10) (N := (some 42)) (v := ?_) (a' := ?_) #[true, true, true, true, true, true, true, true, true, true, true, false, false, false, false, false, false, false, false, false, false, false, false, false, false, false, false, false, false, false, false, false, false, false, false, false, false, false, false, false, false, false, false, false, false, false, false, false, false, false, false, false, false] rfl rfl (by kernel_rfl) (fun _ _ _ h => h) (Or.inl ⟨by rfl, ?_⟩) ?_ ?_
          rotate_left
          · intro w_
            go_simp
            with_reducible rfl
          rotate_left
          · simp only [Act.put, List.setIfInBounds_toArray, List.set_cons_zero, List.set_cons_succ]; rfl
          refine pure_ (i := 11) (N := (some 43)) (v := ?_) (a' := ?_) #[true, true, true, true, true, true, true, true, true, true, true, true, false, false, false, false, false, false, false, false, false, false, false, false, false, false, false, false, false, false, false, false, false, false, false, false, false, false, false, false, false, false, false, false, false, false, false, false, false, false, false, false, false] rfl rfl (by kernel_rfl) (fun _ _ _ h => h) (Or.inl ⟨by rfl, ?_⟩) ?_ ?_
          rotate_left
          · intro w_
            go_simp
            with_reducible rfl
          rotate_left
          · simp only [Act.put, List.setIfInBounds_toArray, List.set_cons_zero, List.set_cons_succ]; rfl
          refine pure_ (i := 12) (N := (some 44)) (v := ?_) (a' := ?_) #[true, true, true, true, true, true, true, true, true, true, true, true, true, false, false, false, false, false, false, false, false, false, false, false, false, false, false, false, false, false, false, false, false, false, false, false, false, false, false, false, false, false, false, false, false, false, false, false, false, false, false, false, false] rfl rfl (by kernel_rfl) (fun _ _ _ h => h) (Or.inl ⟨by rfl, ?_⟩) ?_ ?_
          rotate_left
          · intro w_
            go_simp
            with_reducible rfl
          rotate_left
          · simp only [Act.put, List.setIfInBounds_toArray, List.set_cons_zero, List.set_cons_succ]; rfl
          refine take_ (i := 13) (N := (some 45)) (v := .pointer (some ⟨w1.heap.size, 0, none⟩)) (a' := ?_) #[true, true, true, true, true, true, true, true, true, true, true, true, true, true, false, false, false, false, false, false, false, false, false, false, false, false, false, false, false, false, false, false, false, false, false, false, false, false, false, false, false, false, false, false, false, false, false, false, false, false, false, false, false] rfl rfl (by kernel_rfl) (fun _ _ _ h => h) (Or.inl ⟨by rfl, fun w_ hS_ => ?_⟩) hHeld ?_ ?_
          · have hA_ := hS_.2.1
            clear hHeld hS_
            go_simp
          rotate_left
          · simp only [Act.put, List.setIfInBounds_toArray, List.set_cons_zero, List.set_cons_succ]; rfl
          refine one_ (i := 14) (N := (some 46)) #[true, true, true, true, true, true, true, true, true, true, true, true, true, true, true, false, false, false, false, false, false, false, false, false, false, false, false, false, false, false, false, false, false, false, false, false, false, false, false, false, false, false, false, false, false, false, false, false, false, false, false, false, false] rfl rfl (by kernel_rfl) (by decide) (fun K hK => ?_)
          refine goes_ Tryz.func6 (by kernel_rfl) rfl #[.pointer (some ⟨w1.heap.size, 0, none⟩)] (by rfl) rfl rfl (by simp [Act.eval]) ?_
          refine (tick_any _ _ hHeld.2.2.2).mono ?_
          rintro _ x14 ⟨rfl, hx14⟩
          refine ⟨_, rfl, ?_⟩
          have Bx14 := Bx6.trans (hx14.mono Bx6.size)
          clear Bx6
          refine hK.out _ _ (rdT_below hHeld hx14) (fun hHeld => ?_)
          clear hK K
          refine norm_ (a' := ?_) ?_ ?_
          rotate_left
          · show Act.put _ (some 46) _ = _
            simp only [Act.put, List.setIfInBounds_toArray, List.set_cons_zero, List.set_cons_succ]; rfl
          clear hx14
          refine pure_ (i := 15) (N := (some 47)) (v := ?_) (a' := ?_) #[true, true, true, true, true, true, true, true, true, true, true, true, true, true, true, true, false, false, false, false, false, false, false, false, false, false, false, false, false, false, false, false, false, false, false, false, false, false, false, false, false, false, false, false, false, false, false, false, false, false, false, false, false] rfl rfl (by kernel_rfl) (fun _ _ _ h => h) (Or.inl ⟨by rfl, ?_⟩) ?_ ?_
          rotate_left
          · intro w_
            go_simp
            with_reducible rfl
          rotate_left
          · simp only [Act.put, List.setIfInBounds_toArray, List.set_cons_zero, List.set_cons_succ]; rfl
          refine pure_ (i := 16) (N := (some 48)) (v := ?_) (a' := ?_) #[true, true, true, true, true, true, true, true, true, true, true, true, true, true, true, true, true, false, false, false, false, false, false, false, false, false, false, false, false, false, false, false, false, false, false, false, false, false, false, false, false, false, false, false, false, false, false, false, false, false, false, false, false] rfl rfl (by kernel_rfl) (fun _ _ _ h => h) (Or.inl ⟨by rfl, ?_⟩) ?_ ?_
          rotate_left
          · intro w_
            go_simp
            with_reducible rfl
          rotate_left
          · simp only [Act.put, List.setIfInBounds_toArray, List.set_cons_zero, List.set_cons_succ]; rfl
          refine pure_ (i := 17) (N := (some 49)) (v := ?_) (a' := ?_) #[true, true, true, true, true, true, true, true, true, true, true, true, true, true, true, true, true, true, false, false, false, false, false, false, false, false, false, false, false, false, false, false, false, false, false, false, false, false, false, false, false, false, false, false, false, false, false, false, false, false, false, false, false] rfl rfl (by kernel_rfl) (fun _ _ _ h => h) (Or.inl ⟨by rfl, ?_⟩) ?_ ?_
          rotate_left
          · intro w_
            go_simp
            with_reducible rfl
          rotate_left
          · simp only [Act.put, List.setIfInBounds_toArray, List.set_cons_zero, List.set_cons_succ]; rfl
          refine pure_ (i := 18) (N := (some 50)) (v := ?_) (a' := ?_) #[true, true, true, true, true, true, true, true, true, true, true, true, true, true, true, true, true, true, true, false, false, false, false, false, false, false, false, false, false, false, false, false, false, false, false, false, false, false, false, false, false, false, false, false, false, false, false, false, false, false, false, false, false] rfl rfl (by kernel_rfl) (fun _ _ _ h => h) (Or.inl ⟨by rfl, ?_⟩) ?_ ?_
          rotate_left
          · intro w_
            go_simp
            with_reducible rfl
          rotate_left
          · simp only [Act.put, List.setIfInBounds_toArray, List.set_cons_zero, List.set_cons_succ]; rfl
          refine pure_ (i := 19) (N := (some 51)) (v := ?_) (a' := ?_) #[true, true, true, true, true, true, true, true, true, true, true, true, true, true, true, true, true, true, true, true, false, false, false, false, false, false, false, false, false, false, false, false, false, false, false, false, false, false, false, false, false, false, false, false, false, false, false, false, false, false, false, false, false] rfl rfl (by kernel_rfl) (fun _ _ _ h => h) (Or.inl ⟨by rfl, ?_⟩) ?_ ?_
          rotate_left
          · intro w_
            go_simp
            with_reducible rfl
          rotate_left
          · simp only [Act.put, List.setIfInBounds_toArray, List.set_cons_zero, List.set_cons_succ]; rfl
          refine pure_ (i := 20) (N := (some 52)) (v := ?_) (a' := ?_) #[true, true, true, true, true, true, true, true, true, true, true, true, true, true, true, true, true, true, true, true, true, false, false, false, false, false, false, false, false, false, false, false, false, false, false, false, false, false, false, false, false, false, false, false, false, false, false, false, false, false, false, false, false] rfl rfl (by kernel_rfl) (fun _ _ _ h => h) (Or.inl ⟨by rfl, ?_⟩) ?_ ?_
          rotate_left
          · intro w_
            go_simp
            with_reducible rfl
          rotate_left
          · simp only [Act.put, List.setIfInBounds_toArray, List.set_cons_zero, List.set_cons_succ]; rfl
          refine pure_ (i := 21) (N := (some 53)) (v := ?_) (a' := ?_) #[true, true, true, true, true, true, true, true, true, true, true, true, true, true, true, true, true, true, true, true, true, true, false, false, false, false, false, false, false, false, false, false, false, false, false, false, false, false, false, false, false, false, false, false, false, false, false, false, false, false, false, false, false] rfl rfl (by kernel_rfl) (fun _ _ _ h => h) (Or.inl ⟨by rfl, ?_⟩) ?_ ?_
          rotate_left
          · intro w_
            go_simp
            with_reducible rfl
          rotate_left
          · simp only [Act.put, List.setIfInBounds_toArray, List.set_cons_zero, List.set_cons_succ]; rfl
          refine take_ (i := 22) (N := (some 54)) (v := .pointer (some ⟨w1.heap.size, 0, none⟩)) (a' := ?_) #[true, true, true, true, true, true, true, true, true, true, true, true, true, true, true, true, true, true, true, true, true, true, true, false, false, false, false, false, false, false, false, false, false, false, false, false, false, false, false, false, false, false, false, false, false, false, false, false, false, false, false, false, false] rfl rfl (by kernel_rfl) (fun _ _ _ h => h) (Or.inl ⟨by rfl, fun w_ hS_ => ?_⟩) hHeld ?_ ?_
          · have hA_ := hS_.2.1
            clear hHeld hS_
            go_simp
          rotate_left
          · simp only [Act.put, List.setIfInBounds_toArray, List.set_cons_zero, List.set_cons_succ]; rfl
          refine one_ (i := 23) (N := (some 55)) #[true, true, true, true, true, true, true, true, true, true, true, true, true, true, true, true, true, true, true, true, true, true, true, true, false, false, false, false, false, false, false, false, false, false, false, false, false, false, false, false, false, false, false, false, false, false, false, false, false, false, false, false, false] rfl rfl (by kernel_rfl) (by decide) (fun K hK => ?_)
          refine goes_ Tryz.func7 (by kernel_rfl) rfl #[.pointer (some ⟨w1.heap.size, 0, none⟩)] (by rfl) rfl rfl (by simp [Act.eval]) ?_
          refine (up_any _ _ hHeld.2.2.2).mono ?_
          rintro _ x23 ⟨rfl, rfl⟩
          refine ⟨_, rfl, ?_⟩
          refine hK.out _ _ hHeld (fun hHeld => ?_)
          clear hK K
          refine norm_ (a' := ?_) ?_ ?_
          rotate_left
          · show Act.put _ (some 55) _ = _
            simp only [Act.put, List.setIfInBounds_toArray, List.set_cons_zero, List.set_cons_succ]; rfl
          refine pure_ (i := 24) (N := (some 56)) (v := ?_) (a' := ?_) #[true, true, true, true, true, true, true, true, true, true, true, true, true, true, true, true, true, true, true, true, true, true, true, true, true, false, false, false, false, false, false, false, false, false, false, false, false, false, false, false, false, false, false, false, false, false, false, false, false, false, false, false, false] rfl rfl (by kernel_rfl) (fun _ _ _ h => h) (Or.inl ⟨by rfl, ?_⟩) ?_ ?_
          rotate_left
          · intro w_
            go_simp
            with_reducible rfl
          rotate_left
          · simp only [Act.put, List.setIfInBounds_toArray, List.set_cons_zero, List.set_cons_succ]; rfl
          refine pure_ (i := 25) (N := (some 57)) (v := ?_) (a' := ?_) #[true, true, true, true, true, true, true, true, true, true, true, true, true, true, true, true, true, true, true, true, true, true, true, true, true, true, false, false, false, false, false, false, false, false, false, false, false, false, false, false, false, false, false, false, false, false, false, false, false, false, false, false, false] rfl rfl (by kernel_rfl) (fun _ _ _ h => h) (Or.inl ⟨by rfl, ?_⟩) ?_ ?_
          rotate_left
          · intro w_
            go_simp
            with_reducible rfl
          rotate_left
          · simp only [Act.put, List.setIfInBounds_toArray, List.set_cons_zero, List.set_cons_succ]; rfl
          refine pure_ (i := 26) (N := (some 58)) (v := ?_) (a' := ?_) #[true, true, true, true, true, true, true, true, true, true, true, true, true, true, true, true, true, true, true, true, true, true, true, true, true, true, true, false, false, false, false, false, false, false, false, false, false, false, false, false, false, false, false, false, false, false, false, false, false, false, false, false, false] rfl rfl (by kernel_rfl) (fun _ _ _ h => h) (Or.inl ⟨by rfl, ?_⟩) ?_ ?_
          rotate_left
          · intro w_
            go_simp
            with_reducible rfl
          rotate_left
          · simp only [Act.put, List.setIfInBounds_toArray, List.set_cons_zero, List.set_cons_succ]; rfl
          refine pure_ (i := 27) (N := (some 59)) (v := ?_) (a' := ?_) #[true, true, true, true, true, true, true, true, true, true, true, true, true, true, true, true, true, true, true, true, true, true, true, true, true, true, true, true, false, false, false, false, false, false, false, false, false, false, false, false, false, false, false, false, false, false, false, false, false, false, false, false, false] rfl rfl (by kernel_rfl) (fun _ _ _ h => h) (Or.inl ⟨by rfl, ?_⟩) ?_ ?_
          rotate_left
          · intro w_
            go_simp
            with_reducible rfl
          rotate_left
          · simp only [Act.put, List.setIfInBounds_toArray, List.set_cons_zero, List.set_cons_succ]; rfl
          refine pure_ (i := 28) (N := (some 60)) (v := ?_) (a' := ?_) #[true, true, true, true, true, true, true, true, true, true, true, true, true, true, true, true, true, true, true, true, true, true, true, true, true, true, true, true, true, false, false, false, false, false, false, false, false, false, false, false, false, false, false, false, false, false, false, false, false, false, false, false, false] rfl rfl (by kernel_rfl) (fun _ _ _ h => h) (Or.inl ⟨by rfl, ?_⟩) ?_ ?_
          rotate_left
          · intro w_
            go_simp
            with_reducible rfl
          rotate_left
          · simp only [Act.put, List.setIfInBounds_toArray, List.set_cons_zero, List.set_cons_succ]; rfl
          refine take_ (i := 29) (N := (some 61)) (v := .pointer (some ⟨w1.heap.size, 0, none⟩)) (a' := ?_) #[true, true, true, true, true, true, true, true, true, true, true, true, true, true, true, true, true, true, true, true, true, true, true, true, true, true, true, true, true, true, false, false, false, false, false, false, false, false, false, false, false, false, false, false, false, false, false, false, false, false, false, false, false] rfl rfl (by kernel_rfl) (fun _ _ _ h => h) (Or.inl ⟨by rfl, fun w_ hS_ => ?_⟩) hHeld ?_ ?_
          · have hA_ := hS_.2.1
            clear hHeld hS_
            go_simp
          rotate_left
          · simp only [Act.put, List.setIfInBounds_toArray, List.set_cons_zero, List.set_cons_succ]; rfl
          refine pure_ (i := 31) (N := (some 63)) (v := ?_) (a' := ?_) #[true, true, true, true, true, true, true, true, true, true, true, true, true, true, true, true, true, true, true, true, true, true, true, true, true, true, true, true, true, true, false, true, false, false, false, false, false, false, false, false, false, false, false, false, false, false, false, false, false, false, false, false, false] rfl rfl (by kernel_rfl) (fun _ _ _ h => h) (Or.inl ⟨by rfl, ?_⟩) ?_ ?_
          rotate_left
          · intro w_
            go_simp
            with_reducible rfl
          rotate_left
          · simp only [Act.put, List.setIfInBounds_toArray, List.set_cons_zero, List.set_cons_succ]; rfl
          refine one_ (i := 30) (N := (some 62)) #[true, true, true, true, true, true, true, true, true, true, true, true, true, true, true, true, true, true, true, true, true, true, true, true, true, true, true, true, true, true, true, true, false, false, false, false, false, false, false, false, false, false, false, false, false, false, false, false, false, false, false, false, false] rfl rfl (by kernel_rfl) (by decide) (fun K hK => ?_)
          refine goes_ Tryz.func9 (by kernel_rfl) rfl #[.pointer (some ⟨w1.heap.size, 0, none⟩)] (by rfl) rfl rfl (by simp [Act.eval]) ?_
          refine (tells_any _ _ hHeld.2.2.2).mono ?_
          rintro _ x30 ⟨rfl, hx30⟩
          refine ⟨_, rfl, ?_⟩
          have Bx30 := Bx14.trans (hx30.mono Bx14.size)
          clear Bx14
          refine hK.out _ _ (rdT_below hHeld hx30) (fun hHeld => ?_)
          clear hK K
          refine norm_ (a' := ?_) ?_ ?_
          rotate_left
          · show Act.put _ (some 62) _ = _
            simp only [Act.put, List.setIfInBounds_toArray, List.set_cons_zero, List.set_cons_succ]; rfl
          clear hx30
          refine one_ (i := 32) (N := (some 64)) #[true, true, true, true, true, true, true, true, true, true, true, true, true, true, true, true, true, true, true, true, true, true, true, true, true, true, true, true, true, true, true, true, true, false, false, false, false, false, false, false, false, false, false, false, false, false, false, false, false, false, false, false, false] rfl rfl (by kernel_rfl) (by decide) (fun K hK => ?_)
          refine goes_ Tryz.func8 (by kernel_rfl) rfl #[.agg #[.int .u8 0, .int .i64 0, .int .i64 0, .int .i64 0, .int .i64 0, .int .i64 0, .int .i64 0, .int .i64 0, .int .i64 0, .int .i64 0, .bool false, .slice none 0 0, .slice none 0 0], .agg #[.int .u8 0, .int .i64 0, .int .i64 0, .int .i64 0, .int .i64 0, .int .i64 0, .int .i64 0, .int .i64 0, .int .i64 0, .int .i64 0, .bool false, .slice none 0 0, .slice none 0 0]] (by rfl) rfl rfl (by simp [Act.eval]) ?_
          refine (same_zero _).mono ?_
          rintro _ x32 ⟨rfl, hx32⟩
          refine ⟨_, rfl, ?_⟩
          have Bx32 := Bx30.trans (hx32.mono Bx30.size)
          clear Bx30
          refine hK.out _ _ (rdT_below hHeld hx32) (fun hHeld => ?_)
          clear hK K
          refine norm_ (a' := ?_) ?_ ?_
          rotate_left
          · show Act.put _ (some 64) _ = _
            simp only [Act.put, List.setIfInBounds_toArray, List.set_cons_zero, List.set_cons_succ]; rfl
          clear hx32
          refine pure_ (i := 33) (N := (some 65)) (v := ?_) (a' := ?_) #[true, true, true, true, true, true, true, true, true, true, true, true, true, true, true, true, true, true, true, true, true, true, true, true, true, true, true, true, true, true, true, true, true, true, false, false, false, false, false, false, false, false, false, false, false, false, false, false, false, false, false, false, false] rfl rfl (by kernel_rfl) (fun _ _ _ h => h) (Or.inl ⟨by rfl, ?_⟩) ?_ ?_
          rotate_left
          · intro w_
            go_simp
            with_reducible rfl
          rotate_left
          · simp only [Act.put, List.setIfInBounds_toArray, List.set_cons_zero, List.set_cons_succ]; rfl
          refine pure_ (i := 34) (N := (some 66)) (v := ?_) (a' := ?_) #[true, true, true, true, true, true, true, true, true, true, true, true, true, true, true, true, true, true, true, true, true, true, true, true, true, true, true, true, true, true, true, true, true, true, true, false, false, false, false, false, false, false, false, false, false, false, false, false, false, false, false, false, false] rfl rfl (by kernel_rfl) (fun _ _ _ h => h) (Or.inl ⟨by rfl, ?_⟩) ?_ ?_
          rotate_left
          · intro w_
            go_simp
            with_reducible rfl
          rotate_left
          · simp only [Act.put, List.setIfInBounds_toArray, List.set_cons_zero, List.set_cons_succ]; rfl
          refine pure_ (i := 35) (N := (some 67)) (v := ?_) (a' := ?_) #[true, true, true, true, true, true, true, true, true, true, true, true, true, true, true, true, true, true, true, true, true, true, true, true, true, true, true, true, true, true, true, true, true, true, true, true, false, false, false, false, false, false, false, false, false, false, false, false, false, false, false, false, false] rfl rfl (by kernel_rfl) (fun _ _ _ h => h) (Or.inl ⟨by rfl, ?_⟩) ?_ ?_
          rotate_left
          · intro w_
            go_simp
            with_reducible rfl
          rotate_left
          · simp only [Act.put, List.setIfInBounds_toArray, List.set_cons_zero, List.set_cons_succ]; rfl
          refine pure_ (i := 36) (N := (some 68)) (v := ?_) (a' := ?_) #[true, true, true, true, true, true, true, true, true, true, true, true, true, true, true, true, true, true, true, true, true, true, true, true, true, true, true, true, true, true, true, true, true, true, true, true, true, false, false, false, false, false, false, false, false, false, false, false, false, false, false, false, false] rfl rfl (by kernel_rfl) (fun _ _ _ h => h) (Or.inl ⟨by rfl, ?_⟩) ?_ ?_
          rotate_left
          · intro w_
            go_simp
            with_reducible rfl
          rotate_left
          · simp only [Act.put, List.setIfInBounds_toArray, List.set_cons_zero, List.set_cons_succ]; rfl
          refine pure_ (i := 37) (N := (some 69)) (v := ?_) (a' := ?_) #[true, true, true, true, true, true, true, true, true, true, true, true, true, true, true, true, true, true, true, true, true, true, true, true, true, true, true, true, true, true, true, true, true, true, true, true, true, true, false, false, false, false, false, false, false, false, false, false, false, false, false, false, false] rfl rfl (by kernel_rfl) (fun _ _ _ h => h) (Or.inl ⟨by rfl, ?_⟩) ?_ ?_
          rotate_left
          · intro w_
            go_simp
            with_reducible rfl
          rotate_left
          · simp only [Act.put, List.setIfInBounds_toArray, List.set_cons_zero, List.set_cons_succ]; rfl
          refine pure_ (i := 38) (N := (some 70)) (v := ?_) (a' := ?_) #[true, true, true, true, true, true, true, true, true, true, true, true, true, true, true, true, true, true, true, true, true, true, true, true, true, true, true, true, true, true, true, true, true, true, true, true, true, true, true, false, false, false, false, false, false, false, false, false, false, false, false, false, false] rfl rfl (by kernel_rfl) (fun _ _ _ h => h) (Or.inl ⟨by rfl, ?_⟩) ?_ ?_
          rotate_left
          · intro w_
            go_simp
            with_reducible rfl
          rotate_left
          · simp only [Act.put, List.setIfInBounds_toArray, List.set_cons_zero, List.set_cons_succ]; rfl
          refine take_ (i := 39) (N := (some 71)) (v := .pointer (some ⟨w1.heap.size, 0, none⟩)) (a' := ?_) #[true, true, true, true, true, true, true, true, true, true, true, true, true, true, true, true, true, true, true, true, true, true, true, true, true, true, true, true, true, true, true, true, true, true, true, true, true, true, true, true, false, false, false, false, false, false, false, false, false, false, false, false, false] rfl rfl (by kernel_rfl) (fun _ _ _ h => h) (Or.inl ⟨by rfl, fun w_ hS_ => ?_⟩) hHeld ?_ ?_
          · have hA_ := hS_.2.1
            clear hHeld hS_
            go_simp
          rotate_left
          · simp only [Act.put, List.setIfInBounds_toArray, List.set_cons_zero, List.set_cons_succ]; rfl
          refine one_ (i := 40) (N := (some 72)) #[true, true, true, true, true, true, true, true, true, true, true, true, true, true, true, true, true, true, true, true, true, true, true, true, true, true, true, true, true, true, true, true, true, true, true, true, true, true, true, true, true, false, false, false, false, false, false, false, false, false, false, false, false] rfl rfl (by kernel_rfl) (by decide) (fun K hK => ?_)
          refine goes_ Tryz.func10 (by kernel_rfl) rfl #[.pointer (some ⟨w1.heap.size, 0, none⟩)] (by rfl) rfl rfl (by simp [Act.eval]) ?_
          refine (done_any _ _ hHeld.2.2.2).mono ?_
          rintro _ x40 ⟨rfl, rfl⟩
          refine ⟨_, rfl, ?_⟩
          refine hK.out _ _ hHeld (fun hHeld => ?_)
          clear hK K
          refine norm_ (a' := ?_) ?_ ?_
          rotate_left
          · show Act.put _ (some 72) _ = _
            simp only [Act.put, List.setIfInBounds_toArray, List.set_cons_zero, List.set_cons_succ]; rfl
          refine pure_ (i := 41) (N := (some 73)) (v := ?_) (a' := ?_) #[true, true, true, true, true, true, true, true, true, true, true, true, true, true, true, true, true, true, true, true, true, true, true, true, true, true, true, true, true, true, true, true, true, true, true, true, true, true, true, true, true, true, false, false, false, false, false, false, false, false, false, false, false] rfl rfl (by kernel_rfl) (fun _ _ _ h => h) (Or.inl ⟨by rfl, ?_⟩) ?_ ?_
          rotate_left
          · intro w_
            go_simp
            with_reducible rfl
          rotate_left
          · simp only [Act.put, List.setIfInBounds_toArray, List.set_cons_zero, List.set_cons_succ]; rfl
          refine pure_ (i := 42) (N := (some 74)) (v := ?_) (a' := ?_) #[true, true, true, true, true, true, true, true, true, true, true, true, true, true, true, true, true, true, true, true, true, true, true, true, true, true, true, true, true, true, true, true, true, true, true, true, true, true, true, true, true, true, true, false, false, false, false, false, false, false, false, false, false] rfl rfl (by kernel_rfl) (fun _ _ _ h => h) (Or.inl ⟨by rfl, ?_⟩) ?_ ?_
          rotate_left
          · intro w_
            go_simp
            with_reducible rfl
          rotate_left
          · simp only [Act.put, List.setIfInBounds_toArray, List.set_cons_zero, List.set_cons_succ]; rfl
          refine pure_ (i := 43) (N := (some 75)) (v := ?_) (a' := ?_) #[true, true, true, true, true, true, true, true, true, true, true, true, true, true, true, true, true, true, true, true, true, true, true, true, true, true, true, true, true, true, true, true, true, true, true, true, true, true, true, true, true, true, true, true, false, false, false, false, false, false, false, false, false] rfl rfl (by kernel_rfl) (fun _ _ _ h => h) (Or.inl ⟨by rfl, ?_⟩) ?_ ?_
          rotate_left
          · intro w_
            go_simp
            with_reducible rfl
          rotate_left
          · simp only [Act.put, List.setIfInBounds_toArray, List.set_cons_zero, List.set_cons_succ]; rfl
          refine pure_ (i := 44) (N := (some 76)) (v := ?_) (a' := ?_) #[true, true, true, true, true, true, true, true, true, true, true, true, true, true, true, true, true, true, true, true, true, true, true, true, true, true, true, true, true, true, true, true, true, true, true, true, true, true, true, true, true, true, true, true, true, false, false, false, false, false, false, false, false] rfl rfl (by kernel_rfl) (fun _ _ _ h => h) (Or.inl ⟨by rfl, ?_⟩) ?_ ?_
          rotate_left
          · intro w_
            go_simp
            with_reducible rfl
          rotate_left
          · simp only [Act.put, List.setIfInBounds_toArray, List.set_cons_zero, List.set_cons_succ]; rfl
          refine pure_ (i := 45) (N := (some 77)) (v := ?_) (a' := ?_) #[true, true, true, true, true, true, true, true, true, true, true, true, true, true, true, true, true, true, true, true, true, true, true, true, true, true, true, true, true, true, true, true, true, true, true, true, true, true, true, true, true, true, true, true, true, true, false, false, false, false, false, false, false] rfl rfl (by kernel_rfl) (fun _ _ _ h => h) (Or.inl ⟨by rfl, ?_⟩) ?_ ?_
          rotate_left
          · intro w_
            go_simp
            with_reducible rfl
          rotate_left
          · simp only [Act.put, List.setIfInBounds_toArray, List.set_cons_zero, List.set_cons_succ]; rfl
          refine pure_ (i := 46) (N := (some 78)) (v := ?_) (a' := ?_) #[true, true, true, true, true, true, true, true, true, true, true, true, true, true, true, true, true, true, true, true, true, true, true, true, true, true, true, true, true, true, true, true, true, true, true, true, true, true, true, true, true, true, true, true, true, true, true, false, false, false, false, false, false] rfl rfl (by kernel_rfl) (fun _ _ _ h => h) (Or.inl ⟨by rfl, ?_⟩) ?_ ?_
          rotate_left
          · intro w_
            go_simp
            with_reducible rfl
          rotate_left
          · simp only [Act.put, List.setIfInBounds_toArray, List.set_cons_zero, List.set_cons_succ]; rfl
          refine pure_ (i := 47) (N := (some 79)) (v := ?_) (a' := ?_) #[true, true, true, true, true, true, true, true, true, true, true, true, true, true, true, true, true, true, true, true, true, true, true, true, true, true, true, true, true, true, true, true, true, true, true, true, true, true, true, true, true, true, true, true, true, true, true, true, false, false, false, false, false] rfl rfl (by kernel_rfl) (fun _ _ _ h => h) (Or.inl ⟨by rfl, ?_⟩) ?_ ?_
          rotate_left
          · intro w_
            go_simp
            with_reducible rfl
          rotate_left
          · simp only [Act.put, List.setIfInBounds_toArray, List.set_cons_zero, List.set_cons_succ]; rfl
          refine take_ (i := 48) (N := (some 80)) (v := .pointer (some ⟨w1.heap.size, 0, none⟩)) (a' := ?_) #[true, true, true, true, true, true, true, true, true, true, true, true, true, true, true, true, true, true, true, true, true, true, true, true, true, true, true, true, true, true, true, true, true, true, true, true, true, true, true, true, true, true, true, true, true, true, true, true, true, false, false, false, false] rfl rfl (by kernel_rfl) (fun _ _ _ h => h) (Or.inl ⟨by rfl, fun w_ hS_ => ?_⟩) hHeld ?_ ?_
          · have hA_ := hS_.2.1
            clear hHeld hS_
            go_simp
          rotate_left
          · simp only [Act.put, List.setIfInBounds_toArray, List.set_cons_zero, List.set_cons_succ]; rfl
          refine one_ (i := 49) (N := (some 81)) #[true, true, true, true, true, true, true, true, true, true, true, true, true, true, true, true, true, true, true, true, true, true, true, true, true, true, true, true, true, true, true, true, true, true, true, true, true, true, true, true, true, true, true, true, true, true, true, true, true, true, false, false, false] rfl rfl (by kernel_rfl) (by decide) (fun K hK => ?_)
          refine goes_ Tryz.func11 (by kernel_rfl) rfl #[.pointer (some ⟨w1.heap.size, 0, none⟩)] (by rfl) rfl rfl (by simp [Act.eval]) ?_
          refine (image_lit _ _ hHeld.2.2.2).mono ?_
          rintro _ x49 ⟨rfl, hx49⟩
          refine ⟨_, rfl, ?_⟩
          have Bx49 := Bx32.trans (hx49.mono Bx32.size)
          clear Bx32
          refine hK.out _ _ (rdT_below hHeld hx49) (fun hHeld => ?_)
          clear hK K
          refine norm_ (a' := ?_) ?_ ?_
          rotate_left
          · show Act.put _ (some 81) _ = _
            simp only [Act.put, List.setIfInBounds_toArray, List.set_cons_zero, List.set_cons_succ]; rfl
          clear hx49
          refine pure_ (i := 50) (N := (some 82)) (v := (.int .i64 0)) (a' := ?_) #[true, true, true, true, true, true, true, true, true, true, true, true, true, true, true, true, true, true, true, true, true, true, true, true, true, true, true, true, true, true, true, true, true, true, true, true, true, true, true, true, true, true, true, true, true, true, true, true, true, true, true, false, false] rfl rfl (by kernel_rfl) (fun _ _ _ h => h) (Or.inl ⟨by rfl, ?_⟩) ?_ ?_
          · intro w_
            go_simp
            rw [field61]
            go_simp
          rotate_left
          · simp only [Act.put, List.setIfInBounds_toArray, List.set_cons_zero, List.set_cons_succ]; rfl
          refine pure_ (i := 51) (N := (some 83)) (v := ?_) (a' := ?_) #[true, true, true, true, true, true, true, true, true, true, true, true, true, true, true, true, true, true, true, true, true, true, true, true, true, true, true, true, true, true, true, true, true, true, true, true, true, true, true, true, true, true, true, true, true, true, true, true, true, true, true, true, false] rfl rfl (by kernel_rfl) (fun _ _ _ h => h) (Or.inl ⟨by rfl, ?_⟩) ?_ ?_
          rotate_left
          · intro w_
            go_simp
            with_reducible rfl
          rotate_left
          · simp only [Act.put, List.setIfInBounds_toArray, List.set_cons_zero, List.set_cons_succ]; rfl
          refine pure_ (i := 52) (N := (some 84)) (v := ?_) (a' := ?_) #[true, true, true, true, true, true, true, true, true, true, true, true, true, true, true, true, true, true, true, true, true, true, true, true, true, true, true, true, true, true, true, true, true, true, true, true, true, true, true, true, true, true, true, true, true, true, true, true, true, true, true, true, true] rfl rfl (by kernel_rfl) (fun _ _ _ h => h) (Or.inl ⟨by rfl, ?_⟩) ?_ ?_
          rotate_left
          · intro w_
            go_simp
            with_reducible rfl
          rotate_left
          · simp only [Act.put, List.setIfInBounds_toArray, List.set_cons_zero, List.set_cons_succ]; rfl
          refine done_ (by kernel_rfl) ?_
          have HH := Lib.hid hHeld
          clear hHeld
          go_wp2_with fail
          go_roundw
          case rel => exact ⟨2, by omega, rfl, Bx49, HH.out⟩
          case measure => simp [intOf]
        · obtain rfl : k = 2 := by omega
          clear hk e0 e1
          obtain ⟨d, hd0, hd1, hd⟩ := sectors sec
          go_wp2_with fail
          rw [hd]
          refine (new_any d hd0 hd1 _).mono ?_
          rintro e w2 ⟨rfl, hD, hb2⟩
          have B2 := Bk.trans (hb2.mono Bk.size)
          have HD := Lib.hid hD
          clear hD hb2 Bk H0
          go_wp2_with fail
          refine (new_nil _ _ _).mono ?_
          rintro e w3 ⟨rfl, rfl⟩
          go_wp2_with fail
          refine (new_few _ d _ _ _ HD.out hd0 hd1).mono ?_
          rintro e w4 ⟨rfl, hb4⟩
          have B4 := B2.trans (hb4.mono B2.size)
          go_wp2_with fail
          go_ret
          exact ⟨rfl, B4⟩
end Go.Proofs.YtjolgpfbdonoaaaGreatDoor
