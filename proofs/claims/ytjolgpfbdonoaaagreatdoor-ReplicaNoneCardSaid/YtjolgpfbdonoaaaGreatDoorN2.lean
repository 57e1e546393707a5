/- What the law's guards tell of an act: some bool, and nothing that was there has turned. -/
import Derived.Test.YtjolgpfbdonoaaaGreatDoorN1
import Derived.Deep.MidRow
import Derived.Deep.WholeRow
import Derived.OwnWalk
namespace Go.Proofs.YtjolgpfbdonoaaaGreatDoor
open Go.RowKit
theorem wpList_store_new {P : Program} {ops : Array Oper} {rest : List Oper} {o : Oper} {a : Act} {Q : Exit → Act → World → Prop} (hg : o.guard = none) (t : TypeId) (x y : Operand) (ho : o.op = .store t x y) (w : World) (c c' : Array Value)
    (hx : a.eval x = .pointer (some ⟨w.heap.size, 0, none⟩)) (hy : a.eval y = .agg c') (hi : (P.info? t).map (·.size) = some c'.size) (hsz : c.size = c'.size) (h1 : c'.all (·.oneCell') = true)
    (h : wpList P ops Q rest (a.put o.dst undef) (w.alloc (.cells c' t))) : wpList P ops Q (o :: rest) a (w.alloc (.cells c t)) :=
  wpList_plain hg fun _ hK => by
    have e := run_storeAt_new (P := P) w t c c' hi hsz h1
    unfold Oper.wp execOp
    simp only [ho, hx, hy, Sem.run_bind, e]
    exact hK _ _ h
theorem cell_below {w w1 : World} (h : Below w.heap.size w w1) {a : Addr} {v : Value} (hc : w.cell? a = some v) : w1.cell? a = some v := (h.cell (World.block_lt_of_cell? w a hc)).trans hc
def opB (a b c : ByteArray) : Bool := decide ((a.size : Int) ≤ 100) && (decide ((b.size : Int) ≤ 100) && decide ((c.size : Int) ≤ 100))
set_option maxRecDepth 20000 in
set_option maxHeartbeats 1000000 in
theorem op_any (k : Int) (a b c : ByteArray) (w : World) : Calls Tryz.prog 14 #[.agg #[.int .u8 k, .string a, .string b, .string c]] w fun e w' => e = .returned (.bool (opB a b c)) ∧ Below w.heap.size w w' := by
  have hb := below_alloc (Below.refl w.heap.size w) (.cells #[.int .u8 k, .string a, .string b, .string c] 25)
  by_cases h1 : (a.size : Int) ≤ 100
  · by_cases h2 : (b.size : Int) ≤ 100
    · have e : opB a b c = decide ((c.size : Int) ≤ 100) := by simp [opB, h1, h2]
      have E := Lib.hid e
      clear e
      go_enter Tryz.func14, Tryz.ntmps14
      go_wp2
      go_ret
      rw [E.out]
      exact ⟨rfl, hb⟩
    · have e : opB a b c = false := by simp [opB, h2]
      have E := Lib.hid e
      clear e
      go_enter Tryz.func14, Tryz.ntmps14
      go_wp2
      go_ret
      rw [E.out]
      exact ⟨rfl, hb⟩
  · have e : opB a b c = false := by simp [opB, h1]
    have E := Lib.hid e
    clear e
    go_enter Tryz.func14, Tryz.ntmps14
    go_wp2
    go_ret
    rw [E.out]
    exact ⟨rfl, hb⟩
/-- Some bool; the world as it was. -/
def SomeBool (w : World) (e : Ending) (w' : World) : Prop := ∃ r, e = .returned (.bool r) ∧ Below w.heap.size w w'
set_option maxRecDepth 20000 in
set_option maxHeartbeats 1000000 in
theorem great05_any (b : Nat) (A1 : Option Addr) (n1 c1 : Nat) (A2 : Option Addr) (n2 c2 : Nat) (w : World) (h1 : w.cell? ⟨b, 3, none⟩ = some (.slice A1 n1 c1)) (h2 : w.cell? ⟨b, 4, none⟩ = some (.slice A2 n2 c2)) :
    Calls Tryz.prog 15 #[.slice (some ⟨b, 0, none⟩) 1 1] w (SomeBool w) := by
  by_cases t1 : (200 : Int) < (n1 : Int)
  · go_enter Tryz.func15, Tryz.ntmps15
    go_wp2
    go_loop [3] (fun i => i = .int .i64 0) (fun _ => 0)
    case atStart => rfl
    case round =>
      subst hrel
      go_wp2
      go_ret
      exact ⟨_, rfl, Below.refl _ _⟩
  · by_cases t2 : (100 : Int) < (n2 : Int)
    · go_enter Tryz.func15, Tryz.ntmps15
      go_wp2
      go_loop [3] (fun i => i = .int .i64 0) (fun _ => 0)
      case atStart => rfl
      case round =>
        subst hrel
        go_wp2
        go_ret
        exact ⟨_, rfl, Below.refl _ _⟩
    · go_enter Tryz.func15, Tryz.ntmps15
      go_wp2
      go_loop [3] (fun i => i = .int .i64 0 ∨ i = .int .i64 1) (fun i => 1 - (intOf i).toNat)
      case atStart => exact .inl rfl
      case round =>
        rcases hrel with rfl | rfl
        · go_wp2
          go_round
          case rel => exact .inr rfl
          case measure => simp [intOf]
        · go_wp2
          go_ret
          exact ⟨_, rfl, Below.refl _ _⟩
end Go.Proofs.YtjolgpfbdonoaaaGreatDoor
