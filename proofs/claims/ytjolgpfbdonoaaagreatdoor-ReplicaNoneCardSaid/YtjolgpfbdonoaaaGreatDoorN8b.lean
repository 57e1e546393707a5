/- Whatever the message, the ID, n and the number of sectors: a replica that nobody made tells nothing and changes nothing, and none begins over a disk that nobody made, nor over one that is too small. Conditions: none but the card's own (the listed tables are as the program's text lays them). -/
import Derived.Test.YtjolgpfbdonoaaaGreatDoorN8a
import Derived.Test.YtjolgpfbdonoaaaGreatDoorN8c
namespace Go.Proofs.YtjolgpfbdonoaaaGreatDoor.replicaNone
open Go.ChangeShapes Go.WideShapes Go.ChangeAt Go.RowKit
set_option linter.unusedVariables false
/-- A row turned. -/
def setRow (cs : Array Value) : Obj → Obj
  | .cells _ t frozen => .cells cs t frozen
  | o => o
/-- A world for the witness: the tables as their initialisers lay them. -/
noncomputable def laidWorld (os : Os) : World :=
  { World.holding Tryz.prog os ⟨#[], #[], []⟩ with heap := (((((World.holding Tryz.prog os ⟨#[], #[], []⟩).heap.modify 0 (setRow #[.string ⟨#[]⟩, .string ⟨#[115, 111]⟩, .string ⟨#[115, 114]⟩, .string ⟨#[98, 105]⟩, .string ⟨#[98, 122, 99, 108]⟩, .string ⟨#[98]⟩, .string ⟨#[98, 105, 99, 101]⟩, .string ⟨#[98, 105]⟩, .string ⟨#[98, 99, 110]⟩, .string ⟨#[98, 110]⟩, .string ⟨#[105]⟩, .string ⟨#[98, 105, 101]⟩, .string ⟨#[122, 107]⟩, .string ⟨#[122, 107, 109, 121]⟩, .string ⟨#[105]⟩, .string ⟨#[122, 107]⟩])).modify 1 (setRow #[.int .u8 1, .int .u8 3, .int .u8 2])).modify 2 (setRow ((List.range 256).map fun b => Value.int .u8 (Lib.firstT b)).toArray)).modify 3 (setRow #[.int .u8 128, .int .u8 191, .int .u8 160, .int .u8 191, .int .u8 128, .int .u8 159, .int .u8 144, .int .u8 191, .int .u8 128, .int .u8 143, .int .u8 0, .int .u8 0, .int .u8 0, .int .u8 0, .int .u8 0, .int .u8 0, .int .u8 0, .int .u8 0, .int .u8 0, .int .u8 0, .int .u8 0, .int .u8 0, .int .u8 0, .int .u8 0, .int .u8 0, .int .u8 0, .int .u8 0, .int .u8 0, .int .u8 0, .int .u8 0, .int .u8 0, .int .u8 0])) }
abbrev zeroArgs : Array Value := #[.int .i64 0, .int .i64 0, .int .i64 0, .agg #[.int .u8 0, .int .u8 0, .int .i64 0, .int .i64 0, .int .i64 0, .int .i64 0, .int .i64 0, .int .i64 0, .int .i64 0, .int .i64 0, .int .i64 0, .int .i64 0, .int .u8 0, .int .i64 0, .int .i64 0, .int .u8 0, .string ByteArray.empty, .string ByteArray.empty, .string ByteArray.empty, .int .u8 0, .string ByteArray.empty, .string ByteArray.empty, .string ByteArray.empty, .int .i64 0, .bool false, .string ByteArray.empty, .slice none 0 0, .slice none 0 0, .int .u8 0, .int .i64 0, .int .i64 0, .slice none 0 0, .slice none 0 0, .slice none 0 0]]
theorem laid_met (os : Os) : laidMet Tryz.prog Rows.replicaNoneRow.laid ((laidWorld os).forCall (fun _ _ => 0) ⟨#[], zeroArgs, []⟩).memory :=
  laidMet_of_run' 8 (by kernel_rfl) (by kernel_rfl)
theorem reads (os : Os) {H : Type} (enc : TypeId × Value → H) : ∃ places, DataW.whole enc Tryz.prog ((laidWorld os).forCall (fun _ _ => 0) ⟨#[], zeroArgs, []⟩).memory Tryz.f3.params.toList Rows.replicaNoneSpec.vars false zeroArgs.toList 8 = some ([.lit (.int .i64 0), .lit (.int .i64 0), .lit (.int .i64 0), .agg [.lit (.int .u8 0), .agg [.lit (.int .u8 0), .lit (.int .i64 0), .lit (.int .i64 0), .agg [.lit (.int .i64 0), .lit (.int .i64 0)], .lit (.int .i64 0), .lit (.int .i64 0), .lit (.int .i64 0), .lit (.int .i64 0), .lit (.int .i64 0), .lit (.int .i64 0), .agg [.lit (.int .u8 0), .lit (.int .i64 0), .lit (.int .i64 0), .agg [.lit (.int .u8 0), .lit (.string []), .lit (.string []), .lit (.string [])]], .agg [.lit (.int .u8 0), .lit (.string []), .lit (.string []), .lit (.string [])], .agg [.lit (.int .i64 0), .lit (.bool false), .lit (.string [])], .nil, .nil], .agg [.lit (.int .u8 0), .lit (.int .i64 0), .lit (.int .i64 0), .nil, .nil], .nil]], [], places) :=
  ⟨[], by kernel_rfl⟩
set_option maxRecDepth 100000 in
theorem lifted (os : Os) (started : os.Started) (H : Type) (enc : TypeId × Value → H) (F : Stop.Interp) :
    ReturnsInHanded {} Tryz.checked os 3 .any ((OpenSpec.ofChange Rows.replicaNoneSpec).preRow enc Tryz.prog Tryz.f3 Rows.replicaNoneRow.domain false Rows.replicaNoneRow.laid) (((OpenSpec.ofChange Rows.replicaNoneSpec).at F).post enc Tryz.prog Tryz.f3 false true false false) := by
  obtain ⟨places, hx⟩ := reads os enc
  refine returnsInHanded_of_row (C := Tryz.checked) (s := OpenSpec.ofChange Rows.replicaNoneSpec) own started (by kernel_rfl) Tryz.func3
    (witness_row_at (enc := enc) (C := Tryz.checked) false (laidWorld os) zeroArgs rfl (by kernel_rfl) (by kernel_rfl) (by kernel_rfl)
      (OpenSpec.preRow_of_cond 8 hx (by kernel_rfl) (fun k hk => by cases hk) (by kernel_rfl) (laid_met os))) ?_
  intro W base args ds gs before hval hW _ _ _ _ _ _
  exact contract H enc W base args ds gs before hval hW
theorem said : Rows.ReplicaNoneSaid :=
  OpenClaim.holds_of_cond 3 Tryz.f3 rfl rfl rfl rfl rfl rfl rfl ⟨rfl, rfl, rfl, rfl, rfl⟩ rfl rfl rfl rfl rfl (by kernel_rfl) Tryz.func3 facts
    (of_decide_eq_true (by kernel_rfl)) (by unfold Func.isWrapper; first | (rw [if_pos (by decide +kernel)]; kernel_rfl) | (rw [if_neg (by decide +kernel)]; exact ⟨rfl, rfl⟩))
    (fun os started H enc _ F => by rw [OpenClaim.pre_eq_preRow]; exact lifted os started H enc F)
theorem plain (f : FuncId) (fn : Func) (hf : Tryz.pinned.checked.prog.funcNamed "sexton/sextonlaw27.ReplicaNone" = some f) (hfn : Tryz.pinned.checked.prog.funcs[f]? = some fn) :
    true = Tryz.pinned.checked.prog.looks [] ∧ ∀ (j : Nat) t, fn.params[j]? = some t → Tryz.pinned.checked.prog.wantsStandIn t = false := by
  obtain rfl : f = 3 := Option.some.inj ((show Tryz.prog.funcNamed "sexton/sextonlaw27.ReplicaNone" = some 3 by kernel_rfl).symm.trans hf) |>.symm
  obtain rfl : fn = Tryz.f3 := (Option.some.inj (Tryz.func3.symm.trans hfn)).symm
  refine ⟨by kernel_rfl, fun j t ht => ?_⟩
  rw [Tryz.params3] at ht
  have h3 : Tryz.prog.wantsStandIn 3 = false := by kernel_rfl
  have h39 : Tryz.prog.wantsStandIn 39 = false := by kernel_rfl
  match j, ht with
  | 0, ht => obtain rfl : 3 = t := by simpa using ht
             exact h3
  | 1, ht => obtain rfl : 3 = t := by simpa using ht
             exact h3
  | 2, ht => obtain rfl : 3 = t := by simpa using ht
             exact h3
  | 3, ht => obtain rfl : 39 = t := by simpa using ht
             exact h39
  | j + 4, ht => simp at ht
/-- THE CARD -/
theorem card : Rows.ReplicaNoneCardSaid :=
  Claim7.holds_tied_plain_at .later [] _ _ _ _ said (fun _ h => by cases h) (by kernel_rfl) (fun _ h => by cases h) replicaNone_row_tie rfl ⟨rfl, rfl⟩ (by kernel_rfl) rfl plain (by kernel_rfl)
end Go.Proofs.YtjolgpfbdonoaaaGreatDoor.replicaNone
namespace Go.Proofs.YtjolgpfbdonoaaaGreatDoor
theorem replicaNone_card : Rows.ReplicaNoneCardSaid := replicaNone.card
end Go.Proofs.YtjolgpfbdonoaaaGreatDoor
