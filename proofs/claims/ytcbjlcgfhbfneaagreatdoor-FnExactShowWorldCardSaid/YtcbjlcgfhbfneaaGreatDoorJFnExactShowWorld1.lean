/- Contracts of functions of the program and of the reference, and plain lemmas on what they compute: a part of the proof of the law FnExactShowWorld. No condition. -/
import Derived.Test.YtcbjlcgfhbfneaaGreatDoorProg
import Derived.Below
import Derived.Deep.Draws
import Derived.Deep.AppendLies
import Derived.Maps.AppendAt
import Derived.OwnWalk
import Derived.Laws.BytesArg
import Derived.Laws.MakeOwn
import Derived.Laws.OwnMore
import Derived.Deep.OwnRows
import Derived.Tactics
import Derived.Lib.ConvBytes
import Derived.Laws.Slices
import Derived.WalkKit
import Derived.KernelRfl
import Derived.RowKit3
import Derived.Deep.LoopGhost
import Derived.Deep.QuietTactic
import Derived.BigQuiet
import Derived.WideLaws
import Derived.Deep.DeepCutAuto
import Derived.Deep.CutBlock
import Derived.Deep.RegionHeld3
import Derived.Laws.Rows
import Derived.Lib.AppendStr
import Derived.ArgAppend
import Derived.Laws.IdiomCopy
import Derived.OrdersHeld
import Derived.Laws.BitsLemmas
import Derived.RowKit
import Derived.Test.YtcbjlcgfhbfneaaGreatDoorV0
import Derived.Lib.LaidTab
import Derived.RegionTactic
import Derived.ChangeAlike
import Derived.BigRegion
import Derived.StillTailTactics
import Derived.Laws.Tables
import Derived.Laws.CopyOwn
import Derived.Laws.CopyRow
import Derived.Deep.WholeRow
import Derived.Laws.AppendOwn
import Derived.Test.YtcbjlcgfhbfneaaGreatDoorShortV
set_option maxHeartbeats 8000000
set_option maxRecDepth 100000
namespace Go.Proofs.YtcbjlcgfhbfneaaGreatDoor.PH
open Go.RowKit Go.Proofs.YtcbjlcgfhbfneaaGreatDoorW.PrintWords Go.Proofs.YtcbjlcgfhbfneaaGreatDoorW.PrintLast Go.Proofs.YtcbjlcgfhbfneaaGreatDoorW.PrintMore
attribute [local go_sem] max2_int min2_int max_two min_two max_three min_three max_four min_four   -- for this text's walks alone
set_option linter.unusedVariables false
set_option linter.unusedSimpArgs false



def errW : Option Int → Value
 | none => .nilIface
 | some c => .iface 0 (.int .i64 c)
theorem errW_none : errW none = .nilIface := rfl
theorem errW_some (c : Int) : errW (some c) = .iface 0 (.int .i64 c) := rfl

theorem info3 : (Tryz.prog.info? 3).map (fun i => (i.zero, i.size, i.bytes)) = some (some (.int .i64 0), 1, 8) := by kernel_rfl
theorem info5 : (Tryz.prog.info? 5).map (fun i => (i.zero, i.size, i.bytes)) = some (some (.int .u8 0), 1, 1) := by kernel_rfl
-- the values' own types

end Go.Proofs.YtcbjlcgfhbfneaaGreatDoor.PH

namespace Go.Proofs.YtcbjlcgfhbfneaaGreatDoor.PH
open Go.RowKit Go.Proofs.YtcbjlcgfhbfneaaGreatDoor.Short Go.Proofs.YtcbjlcgfhbfneaaGreatDoorW.PrintWords Go.Proofs.YtcbjlcgfhbfneaaGreatDoorW.PrintLast Go.Proofs.YtcbjlcgfhbfneaaGreatDoorW.PrintMore
attribute [local go_sem] max2_int min2_int max_two min_two max_three min_three max_four min_four   -- for this text's walks alone
set_option linter.unusedVariables false
set_option linter.unusedSimpArgs false

def impl_within.f (a0 : Int) (a1 : Int) (a2 : Int) : Option (Bool) := if a0 ≥ a1 then (some (decide (a0 ≤ a2))) else (some false)
theorem impl_within.calls (a0 : Int) (a1 : Int) (a2 : Int) (r : Bool) (w : World) (h : impl_within.f a0 a1 a2 = some r) :
 Calls Tryz.prog 105 #[.int .i64 a0, .int .i64 a1, .int .i64 a2] w fun e w' => e = .returned (.bool r) ∧ Drawn0 w w' := by
 have H := h
 unfold impl_within.f at H
 clear h
 by_cases c4 : a0 ≥ a1
 rotate_left
 ·rw [if_neg c4] at H
  have c4b0 := decide_eq_false c4
  clear c4
  obtain rfl := Option.some.inj H
  go_enter Tryz.func105, Tryz.ntmps105
  go_wp2
  go_ret
  exact ⟨sr_, by repeat (first | exact Drawn0.refl _ | apply Drawn0.step)⟩
 rw [if_pos c4] at H
 have c4b0 := decide_eq_true c4
 clear c4
 obtain rfl := Option.some.inj H
 go_enter Tryz.func105, Tryz.ntmps105
 go_wp2
 go_ret
 exact ⟨sr_, by repeat (first | exact Drawn0.refl _ | apply Drawn0.step)⟩


def impl_HalfOk.f (a0 : Int) : Option (Bool) := (impl_within.f a0 0 4294967295).bind fun t101 => (some t101)
theorem impl_HalfOk.calls (a0 : Int) (r : Bool) (w : World) (h : impl_HalfOk.f a0 = some r) :
 Calls Tryz.prog 93 #[.int .i64 a0] w fun e w' => e = .returned (.bool r) ∧ Drawn0 w w' := by
 have H := h
 unfold impl_HalfOk.f at H
 clear h
 replace H := bs_ H
 obtain ⟨t101, A2, H⟩ := H
 try dsimp only at H
 obtain rfl := Option.some.inj H
 go_enter Tryz.func93, Tryz.ntmps93
 go_wp2_with (first | ((with_reducible refine gate_callee (f := 105) rfl ?_); refine gs_ (some 4) Tryz.func105 #[.int .i64 a0, .int .i64 0, .int .i64 4294967295] ?_; (with_reducible refine (impl_within.calls a0 0 4294967295 t101 _ A2.out).mono ?_); rintro e w' ⟨rfl, ⟨nd, rfl⟩⟩; refine ⟨_, rfl, ?_⟩))
 go_ret
 exact ⟨sr_, by repeat (first | exact Drawn0.refl _ | apply Drawn0.step)⟩

def impl_HalfOk.Pure : Prop := ∀ (a0 : Int), (Lit.int .i64 a0).wf = true → impl_HalfOk.f a0 = some true
theorem impl_HalfOk.walk (P : impl_HalfOk.Pure) (a0 : Int) (w : World) (w0 : (Lit.int .i64 a0).wf = true) :
 Calls Tryz.prog 93 #[.int .i64 a0] w fun e w' => e = .returned (.bool true) ∧ Below w.heap.size w w' := by
 have h := P a0 w0
 refine (impl_HalfOk.calls a0 true w h).mono ?_
 rintro e w' ⟨rfl, hd⟩
 exact ⟨rfl, hd.below⟩


def impl_fourAt.f (a0 : ByteArray) (a1 : Int) : Option (Int) := if 0 ≤ a1 then (if a1 < (a0.size : Int) then (if 0 ≤ (wrap64 (a1 + 1)) then (if (wrap64 (a1 + 1)) < (a0.size : Int) then (if 0 ≤ (wrap64 (a1 + 2)) then (if (wrap64 (a1 + 2)) < (a0.size : Int) then (if 0 ≤ (wrap64 (a1 + 3)) then (if (wrap64 (a1 + 3)) < (a0.size : Int) then (some (Go.bits .or .i64 (Go.bits .or .i64 (Go.bits .or .i64 (wrap64 ((wrap64 (bt a0 a1)) * 16777216)) (wrap64 ((wrap64 (bt a0 (wrap64 (a1 + 1)))) * 65536))) (wrap64 ((wrap64 (bt a0 (wrap64 (a1 + 2)))) * 256))) (wrap64 (bt a0 (wrap64 (a1 + 3)))))) else (none)) else (none)) else (none)) else (none)) else (none)) else (none)) else (none)) else (none)
theorem impl_fourAt.calls (a0 : ByteArray) (a1 : Int) (r : Int) (w : World) (h : impl_fourAt.f a0 a1 = some r) :
 Calls Tryz.prog 94 #[.string a0, .int .i64 a1] w fun e w' => e = .returned (.int .i64 r) ∧ Drawn0 w w' := by
 have H := h
 unfold impl_fourAt.f at H
 clear h
 by_cases c3 : 0 ≤ a1
 rotate_left
 ·exact nn_ c3 H
 rw [if_pos c3] at H
 have c3b0 := decide_eq_true c3
 clear c3
 by_cases c4 : a1 < (a0.size : Int)
 rotate_left
 ·exact nn_ c4 H
 rw [if_pos c4] at H
 have c4b0 := decide_eq_true c4
 clear c4
 obtain ⟨ji6, hji6⟩ : ∃ j_ : Int, (wrap64 (a1 + 1)) = j_ := ⟨_, rfl⟩
 replace H : (if 0 ≤ (ji6) then (if (ji6) < (a0.size : Int) then (if 0 ≤ (wrap64 (a1 + 2)) then (if (wrap64 (a1 + 2)) < (a0.size : Int) then (if 0 ≤ (wrap64 (a1 + 3)) then (if (wrap64 (a1 + 3)) < (a0.size : Int) then (some (Go.bits .or .i64 (Go.bits .or .i64 (Go.bits .or .i64 (wrap64 ((wrap64 (bt a0 a1)) * 16777216)) (wrap64 ((wrap64 (bt a0 (ji6))) * 65536))) (wrap64 ((wrap64 (bt a0 (wrap64 (a1 + 2)))) * 256))) (wrap64 (bt a0 (wrap64 (a1 + 3)))))) else (none)) else (none)) else (none)) else (none)) else (none)) else (none)) = some r := by first | (rw [hji6] at H; exact H) | (simp only [hji6] at H ⊢; exact H)
 have hji6w : (IntKind.i64.wrap (a1 + 1)) = ji6 := (i64_w _).trans hji6
 by_cases c7 : 0 ≤ (ji6)
 rotate_left
 ·exact nn_ c7 H
 rw [if_pos c7] at H
 have c7b0 := decide_eq_true c7
 clear c7
 by_cases c8 : (ji6) < (a0.size : Int)
 rotate_left
 ·exact nn_ c8 H
 rw [if_pos c8] at H
 have c8b0 := decide_eq_true c8
 clear c8
 obtain ⟨ji10, hji10⟩ : ∃ j_ : Int, (wrap64 (a1 + 2)) = j_ := ⟨_, rfl⟩
 replace H : (if 0 ≤ (ji10) then (if (ji10) < (a0.size : Int) then (if 0 ≤ (wrap64 (a1 + 3)) then (if (wrap64 (a1 + 3)) < (a0.size : Int) then (some (Go.bits .or .i64 (Go.bits .or .i64 (Go.bits .or .i64 (wrap64 ((wrap64 (bt a0 a1)) * 16777216)) (wrap64 ((wrap64 (bt a0 (ji6))) * 65536))) (wrap64 ((wrap64 (bt a0 (ji10))) * 256))) (wrap64 (bt a0 (wrap64 (a1 + 3)))))) else (none)) else (none)) else (none)) else (none)) = some r := by first | (rw [hji10] at H; exact H) | (simp only [hji10] at H ⊢; exact H)
 have hji10w : (IntKind.i64.wrap (a1 + 2)) = ji10 := (i64_w _).trans hji10
 by_cases c11 : 0 ≤ (ji10)
 rotate_left
 ·exact nn_ c11 H
 rw [if_pos c11] at H
 have c11b0 := decide_eq_true c11
 clear c11
 by_cases c12 : (ji10) < (a0.size : Int)
 rotate_left
 ·exact nn_ c12 H
 rw [if_pos c12] at H
 have c12b0 := decide_eq_true c12
 clear c12
 obtain ⟨ji14, hji14⟩ : ∃ j_ : Int, (wrap64 (a1 + 3)) = j_ := ⟨_, rfl⟩
 replace H : (if 0 ≤ (ji14) then (if (ji14) < (a0.size : Int) then (some (Go.bits .or .i64 (Go.bits .or .i64 (Go.bits .or .i64 (wrap64 ((wrap64 (bt a0 a1)) * 16777216)) (wrap64 ((wrap64 (bt a0 (ji6))) * 65536))) (wrap64 ((wrap64 (bt a0 (ji10))) * 256))) (wrap64 (bt a0 (ji14))))) else (none)) else (none)) = some r := by first | (rw [hji14] at H; exact H) | (simp only [hji14] at H ⊢; exact H)
 have hji14w : (IntKind.i64.wrap (a1 + 3)) = ji14 := (i64_w _).trans hji14
 by_cases c15 : 0 ≤ (ji14)
 rotate_left
 ·exact nn_ c15 H
 rw [if_pos c15] at H
 have c15b0 := decide_eq_true c15
 clear c15
 by_cases c16 : (ji14) < (a0.size : Int)
 rotate_left
 ·exact nn_ c16 H
 rw [if_pos c16] at H
 have c16b0 := decide_eq_true c16
 clear c16
 obtain rfl := Option.some.inj H
 have p5 : 0 ≤ (a1 : Int) := of_decide_eq_true as_
 have q5 : a1 < (a0.size : Int) := of_decide_eq_true as_
 have hx5 := bt_at a0 a1
 replace p5 := eq_true p5
 replace q5 := eq_true q5
 have p9 : 0 ≤ ((ji6) : Int) := of_decide_eq_true as_
 have q9 : (ji6) < (a0.size : Int) := of_decide_eq_true as_
 have hx9 := bt_at a0 (ji6)
 replace p9 := eq_true p9
 replace q9 := eq_true q9
 have p13 : 0 ≤ ((ji10) : Int) := of_decide_eq_true as_
 have q13 : (ji10) < (a0.size : Int) := of_decide_eq_true as_
 have hx13 := bt_at a0 (ji10)
 replace p13 := eq_true p13
 replace q13 := eq_true q13
 have p17 : 0 ≤ ((ji14) : Int) := of_decide_eq_true as_
 have q17 : (ji14) < (a0.size : Int) := of_decide_eq_true as_
 have hx17 := bt_at a0 (ji14)
 replace p17 := eq_true p17
 replace q17 := eq_true q17
 go_enter Tryz.func94, Tryz.ntmps94
 go_wp2
 repeat (go_quiet (fail); try go_wp2)
 go_ret
 exact ⟨by first | rfl | (simp; done) | (simp only [← hji6, ← hji10, ← hji14] <;> (first | rfl | simp)) | (simp [*]; done), by repeat (first | exact Drawn0.refl _ | apply Drawn0.step)⟩


def bits_RotateLeft32.f (a0 : Int) (a1 : Int) : Option (Int) := if 0 ≤ (Go.bits .and .u64 (IntKind.u64.wrap (a1)) 31) then (if 0 ≤ (IntKind.u64.wrap (32 - (Go.bits .and .u64 (IntKind.u64.wrap (a1)) 31))) then (some (Go.bits .or .u32 (shl .u32 a0 (Go.bits .and .u64 (IntKind.u64.wrap (a1)) 31)) (shr .u32 a0 (IntKind.u64.wrap (32 - (Go.bits .and .u64 (IntKind.u64.wrap (a1)) 31)))))) else (none)) else (none)
theorem bits_RotateLeft32.calls (a0 : Int) (a1 : Int) (r : Int) (w : World) (h : bits_RotateLeft32.f a0 a1 = some r) :
 Calls Tryz.prog 95 #[.int .u32 a0, .int .i64 a1] w fun e w' => e = .returned (.int .u32 r) ∧ Drawn0 w w' := by
 have H := h
 unfold bits_RotateLeft32.f at H
 clear h
 obtain ⟨ji3, hji3⟩ : ∃ j_ : Int, (Go.bits .and .u64 (IntKind.u64.wrap (a1)) 31) = j_ := ⟨_, rfl⟩
 replace H : (if 0 ≤ (ji3) then (if 0 ≤ (IntKind.u64.wrap (32 - (ji3))) then (some (Go.bits .or .u32 (shl .u32 a0 (ji3)) (shr .u32 a0 (IntKind.u64.wrap (32 - (ji3)))))) else (none)) else (none)) = some r := by first | (rw [hji3] at H; exact H) | (simp only [hji3] at H ⊢; exact H)
 by_cases c4 : 0 ≤ (ji3)
 rotate_left
 ·exact nn_ c4 H
 rw [if_pos c4] at H
 have c4b0 := eq_true c4
 have c4b1 : decide (0 ≤ (ji3)) = true := decide_eq_true c4
 clear c4
 obtain ⟨ji5, hji5⟩ : ∃ j_ : Int, (shl .u32 a0 (ji3)) = j_ := ⟨_, rfl⟩
 replace H : (if 0 ≤ (IntKind.u64.wrap (32 - (ji3))) then (some (Go.bits .or .u32 (ji5) (shr .u32 a0 (IntKind.u64.wrap (32 - (ji3)))))) else (none)) = some r := by first | (rw [hji5] at H; exact H) | (simp only [hji5] at H ⊢; exact H)
 have hji5_ : (IntKind.u32.wrap (a0 * 2 ^ min (ji3).toNat 32)) = ji5 := hji5
 have hji5z : (ji3) ≤ 32 → (IntKind.u32.wrap (a0 * 2 ^ (ji3).toNat)) = ji5 := shl_small hji5
 obtain ⟨ji6, hji6⟩ : ∃ j_ : Int, (IntKind.u64.wrap (32 - (ji3))) = j_ := ⟨_, rfl⟩
 replace H : (if 0 ≤ (ji6) then (some (Go.bits .or .u32 (ji5) (shr .u32 a0 (ji6)))) else (none)) = some r := by first | (rw [hji6] at H; exact H) | (simp only [hji6] at H ⊢; exact H)
 by_cases c7 : 0 ≤ (ji6)
 rotate_left
 ·exact nn_ c7 H
 rw [if_pos c7] at H
 have c7b0 := eq_true c7
 have c7b1 : decide (0 ≤ (ji6)) = true := decide_eq_true c7
 clear c7
 obtain ⟨ji8, hji8⟩ : ∃ j_ : Int, (shr .u32 a0 (ji6)) = j_ := ⟨_, rfl⟩
 replace H : (some (Go.bits .or .u32 (ji5) (ji8))) = some r := by first | (rw [hji8] at H; exact H) | (simp only [hji8] at H ⊢; exact H)
 have hji8_ : (a0 / 2 ^ min (ji6).toNat 32) = ji8 := hji8
 have hji8z : (ji6) ≤ 32 → (a0 / 2 ^ (ji6).toNat) = ji8 := shr_small hji8
 obtain rfl := Option.some.inj H
 go_enter Tryz.func95, Tryz.ntmps95
 go_wp2
 go_ret
 exact ⟨by first | rfl | (simp; done) | (simp only [← hji3, ← hji5, ← hji6, ← hji8] <;> (first | rfl | simp)) | (simp [*]; done), by repeat (first | exact Drawn0.refl _ | apply Drawn0.step)⟩


def spec_l03Turn.f (a0 : Int) (a1 : Int) : Option (Int) := if 0 ≤ a1 then (if 0 ≤ (IntKind.u64.wrap (32 - a1)) then (some (Go.bits .or .u32 (shr .u32 a0 a1) (shl .u32 a0 (IntKind.u64.wrap (32 - a1))))) else (none)) else (none)
theorem spec_l03Turn.calls (a0 : Int) (a1 : Int) (r : Int) (w : World) (h : spec_l03Turn.f a0 a1 = some r) :
 Calls Tryz.prog 85 #[.int .u32 a0, .int .u64 a1] w fun e w' => e = .returned (.int .u32 r) ∧ Drawn0 w w' := by
 have H := h
 unfold spec_l03Turn.f at H
 clear h
 by_cases c3 : 0 ≤ a1
 rotate_left
 ·exact nn_ c3 H
 rw [if_pos c3] at H
 have c3b0 := eq_true c3
 have c3b1 : decide (0 ≤ a1) = true := decide_eq_true c3
 clear c3
 obtain ⟨ji4, hji4⟩ : ∃ j_ : Int, (shr .u32 a0 a1) = j_ := ⟨_, rfl⟩
 replace H : (if 0 ≤ (IntKind.u64.wrap (32 - a1)) then (some (Go.bits .or .u32 (ji4) (shl .u32 a0 (IntKind.u64.wrap (32 - a1))))) else (none)) = some r := by first | (rw [hji4] at H; exact H) | (simp only [hji4] at H ⊢; exact H)
 have hji4_ : (a0 / 2 ^ min a1.toNat 32) = ji4 := hji4
 have hji4z : a1 ≤ 32 → (a0 / 2 ^ a1.toNat) = ji4 := shr_small hji4
 obtain ⟨ji5, hji5⟩ : ∃ j_ : Int, (IntKind.u64.wrap (32 - a1)) = j_ := ⟨_, rfl⟩
 replace H : (if 0 ≤ (ji5) then (some (Go.bits .or .u32 (ji4) (shl .u32 a0 (ji5)))) else (none)) = some r := by first | (rw [hji5] at H; exact H) | (simp only [hji5] at H ⊢; exact H)
 by_cases c6 : 0 ≤ (ji5)
 rotate_left
 ·exact nn_ c6 H
 rw [if_pos c6] at H
 have c6b0 := eq_true c6
 have c6b1 : decide (0 ≤ (ji5)) = true := decide_eq_true c6
 clear c6
 obtain ⟨ji7, hji7⟩ : ∃ j_ : Int, (shl .u32 a0 (ji5)) = j_ := ⟨_, rfl⟩
 replace H : (some (Go.bits .or .u32 (ji4) (ji7))) = some r := by first | (rw [hji7] at H; exact H) | (simp only [hji7] at H ⊢; exact H)
 have hji7_ : (IntKind.u32.wrap (a0 * 2 ^ min (ji5).toNat 32)) = ji7 := hji7
 have hji7z : (ji5) ≤ 32 → (IntKind.u32.wrap (a0 * 2 ^ (ji5).toNat)) = ji7 := shl_small hji7
 obtain rfl := Option.some.inj H
 go_enter Tryz.func85, Tryz.ntmps85
 go_wp2
 go_ret
 exact ⟨by first | rfl | (simp; done) | (simp only [← hji4, ← hji5, ← hji7] <;> (first | rfl | simp)) | (simp [*]; done), by repeat (first | exact Drawn0.refl _ | apply Drawn0.step)⟩

end Go.Proofs.YtcbjlcgfhbfneaaGreatDoor.PH

namespace Go.Proofs.YtcbjlcgfhbfneaaGreatDoor.PH
open Go.RowKit Go.Proofs.YtcbjlcgfhbfneaaGreatDoorW.PrintWords Go.Proofs.YtcbjlcgfhbfneaaGreatDoorW.PrintLast Go.Proofs.YtcbjlcgfhbfneaaGreatDoorW.PrintMore
attribute [local go_sem] max2_int min2_int max_two min_two max_three min_three max_four min_four   -- for this text's walks alone
set_option linter.unusedVariables false
set_option linter.unusedSimpArgs false

end Go.Proofs.YtcbjlcgfhbfneaaGreatDoor.PH

namespace Go.Proofs.YtcbjlcgfhbfneaaGreatDoor.PH
open Go.RowKit Go.Proofs.YtcbjlcgfhbfneaaGreatDoorW.PrintWords Go.Proofs.YtcbjlcgfhbfneaaGreatDoorW.PrintLast Go.Proofs.YtcbjlcgfhbfneaaGreatDoorW.PrintMore
attribute [local go_sem] max2_int min2_int max_two min_two max_three min_three max_four min_four
set_option linter.unusedVariables false
set_option linter.unusedSimpArgs false

def U (l : List Int) : Array Value := (l.map (Value.int .u32)).toArray
theorem U_cell {w : World} {g t : Nat} {l : List Int} (hb : w.heap[g]? = some (.cells (U l) t (0, 0))) (i : Nat) (hi : i < l.length) : w.cell? ⟨g, i, none⟩ = some (.int .u32 (l.getD i 0)) := by
 rw [blk_cell hb i]; simp [U, hi]
theorem U_set (l : List Int) (i : Nat) (x : Int) : (U l).setIfInBounds i (.int .u32 x) = U (l.set i x) := by
 simp [U, List.map_set]
theorem U_put {w : World} {g t : Nat} {l : List Int} (hb : w.heap[g]? = some (.cells (U l) t (0, 0))) (i : Nat) (x : Int) : (w.setCell ⟨g, i, none⟩ (.int .u32 x)).heap[g]? = some (.cells (U (l.set i x)) t (0, 0)) := blk_put hb i _ (U_set l i x)


theorem info3' : (Tryz.prog.info? 3).map (fun i => (i.zero, i.size, i.bytes)) = some (some (.int .i64 0), 1, 8) := by kernel_rfl
def fourV (t : ByteArray) (i : Int) : Int := (Go.bits .or .i64 (Go.bits .or .i64 (Go.bits .or .i64 (wrap64 ((wrap64 (bt t i)) * 16777216)) (wrap64 ((wrap64 (bt t (i + 1))) * 65536))) (wrap64 ((wrap64 (bt t (i + 2))) * 256))) (wrap64 (bt t (i + 3))))
theorem w64 {x : Int} (h0 : -9223372036854775808 ≤ x) (h1 : x ≤ 9223372036854775807) : wrap64 x = x := by unfold wrap64; omega
theorem fourAt_impl (t : ByteArray) (i : Int) (h0 : 0 ≤ i) (h1 : i + 4 ≤ (t.size : Int)) (hb : t.size ≤ 140737488351232) : impl_fourAt.f t i = some (fourV t i) := by
 unfold impl_fourAt.f
 rw [w64 (x := i + 1) (by omega) (by omega), w64 (x := i + 2) (by omega) (by omega), w64 (x := i + 3) (by omega) (by omega),
  if_pos (by omega), if_pos (by omega), if_pos (by omega), if_pos (by omega), if_pos (by omega), if_pos (by omega), if_pos (by omega), if_pos (by omega)]
 rfl
def wordOf (t : ByteArray) (j : Nat) : Int := fourV t (4 * (j : Int)) % 4294967296
theorem words_set (f : Nat → Int) (n j : Nat) (hj : j < n) : ((List.range j).map f ++ List.replicate (n - j) 0).set j (f j) = (List.range (j + 1)).map f ++ List.replicate (n - (j + 1)) 0 := by
 have h1 : ((List.range j).map f).length = j := by simp
 rw [show n - j = (n - (j + 1)) + 1 by omega, List.replicate_succ, List.set_append_right _ _ (by omega), h1, Nat.sub_self, List.set_cons_zero, List.range_succ, List.map_append, List.append_assoc]
 rfl
theorem wrap_u64_nonneg (n : Int) : 0 ≤ IntKind.u64.wrap n := by
 simp [IntKind.wrap, IntKind.bits, IntKind.signed]; omega
theorem bits_u64_nonneg (op : BinOp) (x y : Int) : 0 ≤ Go.bits op .u64 x y := by
 unfold Go.bits; exact wrap_u64_nonneg _
def rl (x k : Int) : Int := Go.bits .or .u32 (shl .u32 x (Go.bits .and .u64 (IntKind.u64.wrap k) 31)) (shr .u32 x (IntKind.u64.wrap (32 - (Go.bits .and .u64 (IntKind.u64.wrap k) 31))))
theorem rotf (x k : Int) : bits_RotateLeft32.f x k = some (rl x k) := by
 unfold bits_RotateLeft32.f rl
 rw [if_pos (bits_u64_nonneg _ _ _), if_pos (wrap_u64_nonneg _)]
theorem rl_rr (x k n : Int) (h : Go.bits .and .u64 (IntKind.u64.wrap k) 31 = 32 - n) (h2 : IntKind.u64.wrap n = n) : rl x k = Go.bits .or .u32 (shr .u32 x n) (shl .u32 x (32 - n)) := by
 unfold rl
 rw [h, show 32 - (32 - n) = n by omega, h2]
 simp [Go.bits, BitVec.or_comm]
def rr (x n : Int) : Int := Go.bits .or .u32 (shr .u32 x n) (shl .u32 x (32 - n))
def sg0 (x : Int) : Int := Go.bits .xor .u32 (Go.bits .xor .u32 (rl x (-7)) (rl x (-18))) (x / 8)
def sg1 (x : Int) : Int := Go.bits .xor .u32 (Go.bits .xor .u32 (rl x (-17)) (rl x (-19))) (x / 1024)
def stepW (ws : List Int) (i : Nat) : List Int := ws.set i ((ws.getD (i - 16) 0 + sg0 (ws.getD (i - 15) 0) + ws.getD (i - 7) 0 + sg1 (ws.getD (i - 2) 0)) % 4294967296)
def sch (t : ByteArray) : Nat → List Int
 | 0 => (List.range 16).map (wordOf t) ++ List.replicate (64 - 16) 0
 | n + 1 => stepW (sch t n) (16 + n)
theorem sch_len (t : ByteArray) : ∀ n, (sch t n).length = 64
 | 0 => by simp [sch]
 | n + 1 => by unfold sch stepW; rw [List.length_set]; exact sch_len t n
def outs (l v : List Int) (n : Nat) : List Int := (List.range n).map (fun i => (l.getD i 0 + v.getD i 0) % 4294967296) ++ l.drop n
theorem outs_at (l v : List Int) (n : Nat) (h : l.length = 8) (hn : n < 8) : rdOf (0 : Int) (outs l v n) (n : Int) = l.getD n 0 := by
 have h1 : ((List.range n).map (fun i => (l.getD i 0 + v.getD i 0) % 4294967296)).length = n := by simp
 unfold rdOf outs
 rw [Int.toNat_natCast, List.getD, List.getElem?_append_right (by omega), h1, Nat.sub_self, List.getElem?_drop, Nat.add_zero]
 rfl
theorem outs_set (l v : List Int) (n : Nat) (h : l.length = 8) (hn : n < 8) : (outs l v n).set n ((l.getD n 0 + v.getD n 0) % 4294967296) = outs l v (n + 1) := by
 have h1 : ((List.range n).map (fun i => (l.getD i 0 + v.getD i 0) % 4294967296)).length = n := by simp
 unfold outs
 rw [List.set_append_right _ _ (by omega), h1, Nat.sub_self, List.drop_eq_getElem_cons (by omega), List.set_cons_zero, List.range_succ, List.map_append, List.append_assoc]
 rfl
def st8 (w : World) (g : Nat) (x0 x1 x2 x3 x4 x5 x6 x7 : Int) : World :=
 (((((((w.setCell ⟨g, 0, none⟩ (.int .u32 x0)).setCell ⟨g, 1, none⟩ (.int .u32 x1)).setCell ⟨g, 2, none⟩ (.int .u32 x2)).setCell ⟨g, 3, none⟩ (.int .u32 x3)).setCell ⟨g, 4, none⟩ (.int .u32 x4)).setCell ⟨g, 5, none⟩ (.int .u32 x5)).setCell ⟨g, 6, none⟩ (.int .u32 x6)).setCell ⟨g, 7, none⟩ (.int .u32 x7)
theorem st8_blk {w : World} {g t : Nat} {a0 a1 a2 a3 a4 a5 a6 a7 : Int} (h : w.heap[g]? = some (.cells (U [a0, a1, a2, a3, a4, a5, a6, a7]) t (0, 0))) (x0 x1 x2 x3 x4 x5 x6 x7 : Int) :
 (st8 w g x0 x1 x2 x3 x4 x5 x6 x7).heap[g]? = some (.cells (U [x0, x1, x2, x3, x4, x5, x6, x7]) t (0, 0)) :=
 U_put (U_put (U_put (U_put (U_put (U_put (U_put (U_put h 0 x0) 1 x1) 2 x2) 3 x3) 4 x4) 5 x5) 6 x6) 7 x7
theorem st8_far {w : World} {g g' t : Nat} {cs : Array Value} (h : w.heap[g']? = some (.cells cs t (0, 0))) (hg : g' ≠ g) (x0 x1 x2 x3 x4 x5 x6 x7 : Int) :
 (st8 w g x0 x1 x2 x3 x4 x5 x6 x7).heap[g']? = some (.cells cs t (0, 0)) :=
 blk_far (blk_far (blk_far (blk_far (blk_far (blk_far (blk_far (blk_far h (p := ⟨g, 0, none⟩) hg _) (p := ⟨g, 1, none⟩) hg _) (p := ⟨g, 2, none⟩) hg _) (p := ⟨g, 3, none⟩) hg _) (p := ⟨g, 4, none⟩) hg _) (p := ⟨g, 5, none⟩) hg _) (p := ⟨g, 6, none⟩) hg _) (p := ⟨g, 7, none⟩) hg _
theorem st8_R {w : World} {g t base : Nat} {ok : Nat → Prop} {v : Value} {l : List Int} {cs : Array Value} (h : (Kd.int .i64).R 3 w base ok v l) (hb : w.heap[g]? = some (.cells cs t (0, 0))) (ht : 3 ≠ t) (x0 x1 x2 x3 x4 x5 x6 x7 : Int) :
 (Kd.int .i64).R 3 (st8 w g x0 x1 x2 x3 x4 x5 x6 x7) base ok v l := by
 have hq : ∀ q, q ∈ 3 :: (Kd.int .i64).E → q ≠ t := by intro q hq; simp [Kd.int, Kd.scalar] at hq; subst hq; exact ht
 exact Kd.R_set (Kd.R_set (Kd.R_set (Kd.R_set (Kd.R_set (Kd.R_set (Kd.R_set (Kd.R_set h hb hq 0 _) (blk_set hb 0 _) hq 1 _) (blk_set (blk_set hb 0 _) 1 _) hq 2 _) (blk_set (blk_set (blk_set hb 0 _) 1 _) 2 _) hq 3 _) (blk_set (blk_set (blk_set (blk_set hb 0 _) 1 _) 2 _) 3 _) hq 4 _)
  (blk_set (blk_set (blk_set (blk_set (blk_set hb 0 _) 1 _) 2 _) 3 _) 4 _) hq 5 _) (blk_set (blk_set (blk_set (blk_set (blk_set (blk_set hb 0 _) 1 _) 2 _) 3 _) 4 _) 5 _) hq 6 _) (blk_set (blk_set (blk_set (blk_set (blk_set (blk_set (blk_set hb 0 _) 1 _) 2 _) 3 _) 4 _) 5 _) 6 _) hq 7 _
theorem st8_below {w W : World} {g : Nat} (h : Below w.heap.size w W) (hg : w.heap.size ≤ g) (x0 x1 x2 x3 x4 x5 x6 x7 : Int) : Below w.heap.size w (st8 W g x0 x1 x2 x3 x4 x5 x6 x7) :=
 below_set (below_set (below_set (below_set (below_set (below_set (below_set (below_set h hg) hg) hg) hg) hg) hg) hg) hg
theorem eight (l : List Int) (h : l.length = 8) : ∃ a b c d e f g i, l = [a, b, c, d, e, f, g, i] := by
 match l, h with
 | [a, b, c, d, e, f, g, i], _ => exact ⟨a, b, c, d, e, f, g, i, rfl⟩
def kWords : List Int := [1116352408, 1899447441, 3049323471, 3921009573, 961987163, 1508970993, 2453635748, 2870763221, 3624381080, 310598401, 607225278, 1426881987, 1925078388, 2162078206, 2614888103, 3248222580, 3835390401, 4022224774, 264347078, 604807628, 770255983, 1249150122, 1555081692, 1996064986, 2554220882, 2821834349, 2952996808, 3210313671, 3336571891, 3584528711, 113926993, 338241895, 666307205, 773529912, 1294757372, 1396182291, 1695183700, 1986661051, 2177026350, 2456956037, 2730485921, 2820302411, 3259730800, 3345764771, 3516065817, 3600352804, 4094571909, 275423344, 430227734, 506948616, 659060556, 883997877, 958139571, 1322822218, 1537002063, 1747873779, 1955562222, 2024104815, 2227730452, 2361852424, 2428436474, 2756734187, 3204031479, 3329325298]
def Tab (w : World) : Prop := Lib.TabIs Tryz.prog w "loop.example/g00397/impl.shaWords" .u32 kWords
theorem shaGlobal : Tryz.prog.globalNamed "loop.example/g00397/impl.shaWords" = some 0 := by kernel_rfl
theorem tab_cell {w : World} (h : Tab w) (i : Nat) (hi : i < 64) : w.cell? ⟨0, i, none⟩ = some (.int .u32 (kWords.getD i 0)) := h.cell shaGlobal i hi
def S1 (x : Int) : Int := bits BinOp.xor IntKind.u32 (bits BinOp.xor IntKind.u32 (rl x (-6)) (rl x (-11))) (rl x (-25))
def S0 (x : Int) : Int := bits BinOp.xor IntKind.u32 (bits BinOp.xor IntKind.u32 (rl x (-2)) (rl x (-13))) (rl x (-22))
def Ch (e f g : Int) : Int := bits BinOp.xor IntKind.u32 (bits BinOp.and IntKind.u32 e f) (bits BinOp.and IntKind.u32 (bits BinOp.xor IntKind.u32 IntKind.u32.max e) g)
def Mj (a b c : Int) : Int := bits BinOp.xor IntKind.u32 (bits BinOp.xor IntKind.u32 (bits BinOp.and IntKind.u32 a b) (bits BinOp.and IntKind.u32 a c)) (bits BinOp.and IntKind.u32 b c)
def rnd (v : List Int) (k w : Int) : List Int :=
 [(v.getD 7 0 + S1 (v.getD 4 0) + Ch (v.getD 4 0) (v.getD 5 0) (v.getD 6 0) + k + w + S0 (v.getD 0 0) + Mj (v.getD 0 0) (v.getD 1 0) (v.getD 2 0)) % 4294967296, v.getD 0 0, v.getD 1 0, v.getD 2 0,
  (v.getD 3 0 + (v.getD 7 0 + S1 (v.getD 4 0) + Ch (v.getD 4 0) (v.getD 5 0) (v.getD 6 0) + k + w)) % 4294967296, v.getD 4 0, v.getD 5 0, v.getD 6 0]
def rnds (v : List Int) (ws : List Int) : Nat → List Int
 | 0 => v
 | n + 1 => rnd (rnds v ws n) (kWords.getD n 0) (ws.getD n 0)
def shaB (l : List Int) (t : ByteArray) : List Int := outs l (rnds l (sch t 48) 64) 8
theorem U_zero (n : Nat) : U (List.replicate n 0) = Array.replicate n (Value.int .u32 0) := by simp [U]
theorem half_rng {x : Int} (h : impl_HalfOk.f x = some true) : 0 ≤ x ∧ x ≤ 4294967295 := by
 unfold impl_HalfOk.f impl_within.f at h
 by_cases c : x ≥ 0
 ·simp [c] at h; omega
 ·simp [c] at h
theorem take_set (l : List Int) (n j : Nat) (hn : l.length = n) (hj : j < n) : (l.take j ++ List.replicate (n - j) 0).set j (l.getD j 0) = l.take (j + 1) ++ List.replicate (n - (j + 1)) 0 := by
 have h1 : (l.take j).length = j := by simp; omega
 rw [show n - j = (n - (j + 1)) + 1 by omega, List.replicate_succ, List.set_append_right _ _ (by omega), h1, Nat.sub_self, List.set_cons_zero, List.take_succ_eq_append_getElem (by omega), List.append_assoc]
 simp [List.getD, show j < l.length by omega]
theorem sha_calls (A0 : Option Addr) (c0 : Nat) (l0 : List Int) (a1 : ByteArray) (w : World) (hr0 : Kd.C (Kd.int .i64) w A0 l0.length l0) (hc0 : l0.length ≤ c0)
 (h8 : l0.length = 8) (h64 : a1.size = 64) (hf : ∀ x ∈ l0, impl_HalfOk.f x = some true) (hT : Tab w) :
 Calls Tryz.prog 79 #[.slice A0 l0.length c0, .string a1] w fun e w' => ∃ v0_ : Value, e = .returned (v0_) ∧ Kd.R (Kd.int .i64) 3 w' w.heap.size (fun _ => True) v0_ (shaB l0 a1) ∧ Below w.heap.size w w' := by
 have HB := Aside0.mk (Below.refl w.heap.size w)
 obtain ⟨ad, rfl, _⟩ := hr0.2.2 (by omega)
 have HR0 := Aside0.mk (show Kd.C (Kd.int .i64) w (some ad) 8 l0 by rw [h8] at hr0; exact hr0)
 have H8 := Aside0.mk h8
 have H64 := Aside0.mk h64
 have HF := Aside0.mk hf
 have HT := Aside0.mk hT
 clear hT
 have b64 : ((a1.size : Int) != 64) = false := by rw [bne_eq_false_iff_eq]; omega
 clear h64 hf hr0 hc0
 rw [h8]
 clear h8
 go_enter Tryz.func79, Tryz.ntmps79
 go_wp2_with (first
  | ((with_reducible refine gate_dst (N := 25) rfl ?_); refine Kd.R_lit (Kd.int .i64) _ 3 ?hg (N := 25) ?hd (xs := ([] : List Int)) (inner := []) (ok := fun _ => True) (okp := fun _ => True) ?hr ?hp (fun _ hk => hk) trivial (Below.refl _ _) (Nat.le_refl _) (by simp) ?_; (case hd => rfl); (case hg => rfl); (case hr => first | (go_simp; done) | (go_simp; rfl)); (case hp => exact (Reps.none _ _)); intro v1 w3 ho4 hb hg_ hnew_; clear hg_ hnew_; have HO1 := Aside0.mk (Kd.R_lower ho4 (below_size HB.out)); replace HB := Aside0.mk (below_step HB.out hb); clear hb ho4)
  | ((with_reducible refine gate_builtin (b := .append) (xs := #[.tmp 25, .tmp 26]) rfl ?_); at_builtin; refine Kd.R_append_rows (Kd.int .i64) (w0 := w) w.heap.size rfl (.tmp 25) (.tmp 26) 26 3 (.int .i64 0) 8 rfl Tryz.underlying26 info3 rfl (by decide) (by omega) v1 ([] : List Int) l0 _ _ _ (fun _ => True) (fun _ => False) rfl rfl ?aO ?aR (fun _ _ h => h) (fun _ h => h.elim) ?aF ?aB ?aS ?aL ?_; (case aO => exact HO1.out); (case aR => exact Kd.C_below HR0.out HB.out); (case aF => exact fun _ _ => trivial); (case aB => exact HB.out); (case aS => exact below_size HB.out); (case aL => simp); intro v2 w4 ho5 hb hg_ hnew_; clear hg_ hnew_ HO1 HB; have HO2 := Aside0.mk ho5; have HB := Aside0.mk hb; clear ho5 hb))

 have BKV := Aside0.mk (show (w4.alloc (.cells #[Value.int .u32 0, Value.int .u32 0, Value.int .u32 0, Value.int .u32 0, Value.int .u32 0, Value.int .u32 0, Value.int .u32 0, Value.int .u32 0] 127)).heap[w4.heap.size]? = some (.cells (U (l0.take 0 ++ List.replicate (8 - 0) 0)) 127 (0, 0)) from blk_new w4 _)
 have GEV := Aside0.mk (below_size HB.out)
 have n0_ := Aside0.mk (below_alloc HB.out (.cells #[Value.int .u32 0, Value.int .u32 0, Value.int .u32 0, Value.int .u32 0, Value.int .u32 0, Value.int .u32 0, Value.int .u32 0, Value.int .u32 0] 127))
 have n1_ := Aside0.mk (Kd.R_alloc HO2.out (.cells #[Value.int .u32 0, Value.int .u32 0, Value.int .u32 0, Value.int .u32 0, Value.int .u32 0, Value.int .u32 0, Value.int .u32 0, Value.int .u32 0] 127))
 clear HB HO2
 generalize w4.alloc (.cells #[Value.int .u32 0, Value.int .u32 0, Value.int .u32 0, Value.int .u32 0, Value.int .u32 0, Value.int .u32 0, Value.int .u32 0, Value.int .u32 0] 127) = w5 at BKV n0_ n1_ ⊢
 generalize w4.heap.size = gv at BKV GEV ⊢
 have HB := n0_
 have HO2 : Aside0 ((Kd.int .i64).R 3 w5 w.heap.size (fun _ => True) v2 l0) := n1_
 clear n0_ n1_
 go_loopg [39] 8 (fun kq v39 w' => ∃ (j : Nat), v39 = .int .i64 j ∧ Aside0 (j + kq = 8) ∧ Aside0 (w'.heap[gv]? = some (.cells (U (l0.take j ++ List.replicate (8 - j) 0)) 127 (0, 0))) ∧ Aside0 ((Kd.int .i64).R 3 w' w.heap.size (fun _ => True) v2 l0) ∧ Aside0 (Below w.heap.size w w'))
 case atStart => exact ⟨0, rfl, ⟨rfl⟩, BKV, HO2, HB⟩
 case round =>
  clear HB BKV HO2
  obtain ⟨j, rfl, HJ, BKV, HO2, HB⟩ := hrel
  cases gk with
  | succ k1 =>
   have hj : j < 8 := by have := HJ.out; omega
   have hl : j < l0.length := by have := H8.out; omega
   obtain ⟨ad', e', hx⟩ := Kd.at_int HR0.out (j : Int) (by omega) (by omega)
   cases e'
   replace hx := pw_cell_below HB.out hx
   rw [Int.toNat_natCast] at hx
   have hrd : rd l0 (j : Int) = l0.getD j 0 := by simp [rd]
   rw [hrd] at hx
   have hmem : l0.getD j 0 ∈ l0 := by simp [List.getD, hl]
   have HH := Aside0.mk (HF.out _ hmem)
   obtain ⟨r0, r1⟩ := half_rng HH.out
   have hjl : decide ((j : Int) < 8) = true := decide_eq_true (by omega)
   have hlen : (U (l0.take j ++ List.replicate (8 - j) 0)).size = 8 := by simp [U]; omega
   have hset := Aside0.mk (take_set l0 8 j H8.out hj)
   clear hrd hmem
   generalize l0.getD j 0 = x at hx HH r0 r1 hset ⊢
   have hcv : ∃ u, wr.cell? ⟨gv, j, none⟩ = some (.int .u32 u) := ⟨_, U_cell BKV.out j (by simp; omega)⟩
   obtain ⟨u, hcv⟩ := hcv
   have hfz := blk_frozen BKV.out j
   go_wp2_with (first | (go_at_call 93; (with_reducible refine (impl_HalfOk.calls x true _ HH.out).mono ?_); rintro e w1 ⟨rfl, ⟨nd, rfl⟩⟩))
   go_roundg k1
   case measure => have := HJ.out; omega
   case rel =>
    refine ⟨j + 1, by simp, ⟨by have := HJ.out; omega⟩, ⟨?_⟩, ⟨?_⟩, ⟨?_⟩⟩
    ·rw [← hset.out]; exact U_put (blk_drewN BKV.out nd) j x
    ·exact Kd.R_set (Kd.R_drewN HO2.out nd) (blk_drewN BKV.out nd) (by simp [Kd.int, Kd.scalar]) j _
    ·exact below_set (pw_below_drewN HB.out nd) GEV.out
  | zero =>
   obtain rfl : j = 8 := HJ.out
   have n0_ := Aside0.mk (show wr.heap[gv]? = some (.cells (U l0) 127 (0, 0)) from by have h_ := BKV.out; rw [List.take_of_length_le (by have := H8.out; omega)] at h_; simpa using h_)
   clear BKV
   have BKV := n0_
   clear n0_
   go_wp2_with (fail)
   have BKW := Aside0.mk (show (wr.alloc (.cells (U (List.replicate 64 0)) 129)).heap[wr.heap.size]? = some (.cells (U (List.replicate 64 0)) 129 (0, 0)) from blk_new wr _)
   have GEW := Aside0.mk (below_size HB.out)
   have n0_ := Aside0.mk (below_alloc HB.out (.cells (U (List.replicate 64 0)) 129))
   have n1_ := Aside0.mk (Kd.R_alloc HO2.out (.cells (U (List.replicate 64 0)) 129))
   have n2_ := Aside0.mk (blk_alloc BKV.out (.cells (U (List.replicate 64 0)) 129))
   have hgw : gv ≠ wr.heap.size := Nat.ne_of_lt (blk_lt BKV.out)
   clear HB HO2 BKV
   rw [show (Obj.cells #[Value.int .u32 0, Value.int .u32 0, Value.int .u32 0, Value.int .u32 0, Value.int .u32 0, Value.int .u32 0, Value.int .u32 0, Value.int .u32 0, Value.int .u32 0, Value.int .u32 0, Value.int .u32 0, Value.int .u32 0, Value.int .u32 0, Value.int .u32 0, Value.int .u32 0, Value.int .u32 0, Value.int .u32 0, Value.int .u32 0, Value.int .u32 0, Value.int .u32 0, Value.int .u32 0, Value.int .u32 0, Value.int .u32 0, Value.int .u32 0, Value.int .u32 0, Value.int .u32 0, Value.int .u32 0, Value.int .u32 0, Value.int .u32 0, Value.int .u32 0, Value.int .u32 0, Value.int .u32 0, Value.int .u32 0, Value.int .u32 0, Value.int .u32 0, Value.int .u32 0, Value.int .u32 0, Value.int .u32 0, Value.int .u32 0, Value.int .u32 0, Value.int .u32 0, Value.int .u32 0, Value.int .u32 0, Value.int .u32 0, Value.int .u32 0, Value.int .u32 0, Value.int .u32 0, Value.int .u32 0, Value.int .u32 0, Value.int .u32 0, Value.int .u32 0, Value.int .u32 0, Value.int .u32 0, Value.int .u32 0, Value.int .u32 0, Value.int .u32 0, Value.int .u32 0, Value.int .u32 0, Value.int .u32 0, Value.int .u32 0, Value.int .u32 0, Value.int .u32 0, Value.int .u32 0, Value.int .u32 0] 129) = Obj.cells (U (List.replicate 64 0)) 129 from rfl]
   generalize wr.alloc (.cells (U (List.replicate 64 0)) 129) = w6 at BKW n0_ n1_ n2_ ⊢
   generalize wr.heap.size = gw at BKW GEW hgw ⊢
   have HGW := Aside0.mk hgw
   clear hgw
   have HB := n0_
   have HO2 := n1_
   have BKV := n2_
   clear n0_ n1_ n2_
   go_loopg [53] 16 (fun kq v53 w' => ∃ (j : Nat), v53 = .int .i64 j ∧ Aside0 (j + kq = 16) ∧ Aside0 (w'.heap[gv]? = some (.cells (U l0) 127 (0, 0))) ∧ Aside0 (w'.heap[gw]? = some (.cells (U ((List.range j).map (wordOf a1) ++ List.replicate (64 - j) 0)) 129 (0, 0))) ∧ Aside0 ((Kd.int .i64).R 3 w' w.heap.size (fun _ => True) v2 l0) ∧ Aside0 (Below w.heap.size w w'))
   case atStart => exact ⟨0, rfl, ⟨rfl⟩, BKV, BKW, HO2, HB⟩
   case round =>
    clear HB BKV HO2 BKW
    obtain ⟨j, rfl, HJ, BKV, BKW, HO2, HB⟩ := hrel
    cases gk with
    | succ k1 =>
     have hj : j < 16 := by have := HJ.out; omega
     have hjl : decide ((j : Int) < 16) = true := decide_eq_true (by omega)
     have HH := Aside0.mk (fourAt_impl a1 (4 * (j : Int)) (by omega) (by have := H64.out; omega) (by have := H64.out; omega))
     have hcv : ∃ u, wr.cell? ⟨gw, j, none⟩ = some (.int .u32 u) := ⟨_, U_cell BKW.out j (by simp; omega)⟩
     obtain ⟨u, hcv⟩ := hcv
     have hfz := blk_frozen BKW.out j
     go_wp2_with (first | (go_at_call 94; (with_reducible refine (impl_fourAt.calls a1 (4 * (j : Int)) _ _ HH.out).mono ?_); rintro e w1 ⟨rfl, ⟨nd, rfl⟩⟩))
     go_roundg k1
     case measure => have := HJ.out; omega
     case rel =>
      refine ⟨j + 1, by simp, ⟨by have := HJ.out; omega⟩, ⟨?_⟩, ⟨?_⟩, ⟨?_⟩, ⟨?_⟩⟩
      ·exact blk_far (blk_drewN BKV.out nd) HGW.out _
      ·rw [← words_set (wordOf a1) 64 j (by omega)]; exact U_put (blk_drewN BKW.out nd) j _
      ·exact Kd.R_set (Kd.R_drewN HO2.out nd) (blk_drewN BKW.out nd) (by simp [Kd.int, Kd.scalar]) j _
      ·exact below_set (pw_below_drewN HB.out nd) GEW.out
    | zero =>
     obtain rfl : j = 16 := HJ.out
     go_wp2_with (fail)
     go_loopg [11] 48 (fun kq v11 w' => ∃ (m : Nat), v11 = .int .i64 m ∧ Aside0 (m + kq = 64 ∧ 16 ≤ m) ∧ Aside0 (w'.heap[gv]? = some (.cells (U l0) 127 (0, 0))) ∧ Aside0 (w'.heap[gw]? = some (.cells (U (sch a1 (m - 16))) 129 (0, 0))) ∧ Aside0 ((Kd.int .i64).R 3 w' w.heap.size (fun _ => True) v2 l0) ∧ Aside0 (Below w.heap.size w w'))
     case atStart => exact ⟨16, rfl, ⟨rfl, by omega⟩, BKV, BKW, HO2, HB⟩
     case round =>
      clear HB BKV HO2 BKW HJ
      obtain ⟨m, rfl, HJ, BKV, BKW, HO2, HB⟩ := hrel
      cases gk with
      | succ k1 =>
       have hm1 : m < 64 := by have := HJ.out; omega
       have hm0 : 16 ≤ m := HJ.out.2
       have hjl : decide ((m : Int) < 64) = true := decide_eq_true (by omega)
       go_wp2_with (fail)
       have e15 : IntKind.i64.wrap ((m : Int) - 15) = ((m - 15 : Nat) : Int) := by simp [IntKind.wrap, IntKind.bits, IntKind.signed]; omega
       have e2 : IntKind.i64.wrap ((m : Int) - 2) = ((m - 2 : Nat) : Int) := by simp [IntKind.wrap, IntKind.bits, IntKind.signed]; omega
       have hc15 := U_cell BKW.out (m - 15) (by rw [sch_len]; omega)
       have hc2 := U_cell BKW.out (m - 2) (by rw [sch_len]; omega)
       have i15 : m - 15 < 64 := by omega
       have i2 : m - 2 < 64 := by omega
       have hwa : ∃ wa, (sch a1 (m - 16)).getD (m - 15) 0 = wa := ⟨_, rfl⟩
       obtain ⟨wa, hwa⟩ := hwa
       have hwb : ∃ wb, (sch a1 (m - 16)).getD (m - 2) 0 = wb := ⟨_, rfl⟩
       obtain ⟨wb, hwb⟩ := hwb
       rw [hwa] at hc15
       rw [hwb] at hc2
       have HWA := Aside0.mk hwa
       have HWB := Aside0.mk hwb
       clear hwa hwb
       go_quiet (fail)
       go_wp2_with (first | (go_at_call 95; (with_reducible refine (bits_RotateLeft32.calls _ _ _ _ (rotf _ _)).mono ?_); rintro e w1 ⟨rfl, ⟨nd, rfl⟩⟩))
       generalize hxa : bits BinOp.xor IntKind.u32 (bits BinOp.xor IntKind.u32 (rl wa (-7)) (rl wa (-18))) (wa / 8) = xa
       generalize hxb : bits BinOp.xor IntKind.u32 (bits BinOp.xor IntKind.u32 (rl wb (-17)) (rl wb (-19))) (wb / 1024) = xb
       have HXA := Aside0.mk hxa
       have HXB := Aside0.mk hxb
       clear hxa hxb
       rename_i nd1 nd2 nd3
       generalize nq + nd1 + nd2 + nd3 + nd = nn
       have e16 : IntKind.i64.wrap ((m : Int) - 16) = ((m - 16 : Nat) : Int) := by simp [IntKind.wrap, IntKind.bits, IntKind.signed]; omega
       have e7 : IntKind.i64.wrap ((m : Int) - 7) = ((m - 7 : Nat) : Int) := by simp [IntKind.wrap, IntKind.bits, IntKind.signed]; omega
       have hc16 := U_cell BKW.out (m - 16) (by rw [sch_len]; omega)
       have hc7 := U_cell BKW.out (m - 7) (by rw [sch_len]; omega)
       have hcm := U_cell BKW.out m (by rw [sch_len]; omega)
       have hfm := blk_frozen BKW.out m
       have i16 : m - 16 < 64 := by omega
       have i7 : m - 7 < 64 := by omega
       clear hc15 hc2 e15 e2 i15 i2
       generalize hwc : (sch a1 (m - 16)).getD (m - 16) 0 = wc at hc16
       generalize hwd : (sch a1 (m - 16)).getD (m - 7) 0 = wd at hc7
       generalize hwe : (sch a1 (m - 16)).getD m 0 = we at hcm
       have HWC := Aside0.mk hwc
       have HWD := Aside0.mk hwd
       clear hwc hwd hwe
       go_region
       go_wp2
       go_roundg k1
       case measure => have := HJ.out; omega
       case rel =>
        refine ⟨m + 1, by simp, ⟨by have := HJ.out; omega⟩, ⟨?_⟩, ⟨?_⟩, ⟨?_⟩, ⟨?_⟩⟩
        ·exact blk_far (blk_drewN BKV.out _) HGW.out _
        ·rw [show sch a1 (m + 1 - 16) = (sch a1 (m - 16)).set m ((wc + xa + wd + xb) % 4294967296) by
          rw [show m + 1 - 16 = (m - 16) + 1 by omega]
          show stepW (sch a1 (m - 16)) (16 + (m - 16)) = _
          unfold stepW
          rw [show 16 + (m - 16) = m by omega, HWA.out, HWB.out, HWC.out, HWD.out]
          unfold sg0 sg1
          rw [HXA.out, HXB.out]]
         exact U_put (blk_drewN BKW.out _) m _
        ·exact Kd.R_set (Kd.R_drewN HO2.out _) (blk_drewN BKW.out _) (by simp [Kd.int, Kd.scalar]) m _
        ·exact below_set (pw_below_drewN HB.out _) GEW.out
      | zero =>
       obtain rfl : m = 64 := by have := HJ.out.1; omega
       go_wp2_with (fail)
       have hv8 := H8.out
       go_loopg [107] 64 (fun kq v107 w' => ∃ (n : Nat) (v0 v1 v2' v3 v4 v5 v6 v7 : Int), v107 = .int .i64 n ∧ Aside0 (n + kq = 64) ∧ Aside0 (rnds l0 (sch a1 48) n = [v0, v1, v2', v3, v4, v5, v6, v7]) ∧ Aside0 (w'.heap[gv]? = some (.cells (U [v0, v1, v2', v3, v4, v5, v6, v7]) 127 (0, 0))) ∧ Aside0 (w'.heap[gw]? = some (.cells (U (sch a1 48)) 129 (0, 0))) ∧ Aside0 ((Kd.int .i64).R 3 w' w.heap.size (fun _ => True) v2 l0) ∧ Aside0 (Below w.heap.size w w'))
       case atStart =>
        obtain ⟨v0, v1, v2', v3, v4, v5, v6, v7, e8⟩ := eight l0 H8.out
        exact ⟨0, v0, v1, v2', v3, v4, v5, v6, v7, rfl, ⟨rfl⟩, ⟨e8⟩, ⟨e8 ▸ BKV.out⟩, BKW, HO2, HB⟩
       case round =>
        clear HB BKV HO2 BKW HJ hv8
        obtain ⟨n, a0, a1', a2, a3, a4, a5, a6, a7, rfl, HJ, HRN, BKV, BKW, HO2, HB⟩ := hrel
        cases gk with
        | succ k1 =>
         have hn : n < 64 := by have := HJ.out; omega
         have hjl : decide ((n : Int) < 64) = true := decide_eq_true (by omega)
         have hc0 : wr.cell? ⟨gv, 0, none⟩ = some (.int .u32 a0) := U_cell BKV.out 0 (by simp)
         have hc1 : wr.cell? ⟨gv, 1, none⟩ = some (.int .u32 a1') := U_cell BKV.out 1 (by simp)
         have hc2 : wr.cell? ⟨gv, 2, none⟩ = some (.int .u32 a2) := U_cell BKV.out 2 (by simp)
         have hc3 : wr.cell? ⟨gv, 3, none⟩ = some (.int .u32 a3) := U_cell BKV.out 3 (by simp)
         have hc4 : wr.cell? ⟨gv, 4, none⟩ = some (.int .u32 a4) := U_cell BKV.out 4 (by simp)
         have hc5 : wr.cell? ⟨gv, 5, none⟩ = some (.int .u32 a5) := U_cell BKV.out 5 (by simp)
         have hc6 : wr.cell? ⟨gv, 6, none⟩ = some (.int .u32 a6) := U_cell BKV.out 6 (by simp)
         have hc7 : wr.cell? ⟨gv, 7, none⟩ = some (.int .u32 a7) := U_cell BKV.out 7 (by simp)
         go_wp2_with (fail)
         go_quiet (fail)
         go_wp2_with (first | (go_at_call 95; (with_reducible refine (bits_RotateLeft32.calls _ _ _ _ (rotf _ _)).mono ?_); rintro e w1 ⟨rfl, ⟨nd, rfl⟩⟩))
         have hk := pw_cell_below HB.out (tab_cell HT.out n hn)
         have hw := U_cell BKW.out n (by rw [sch_len]; omega)
         have hfz0 := blk_frozen BKV.out 0
         have hfz1 := blk_frozen BKV.out 1
         have hfz2 := blk_frozen BKV.out 2
         have hfz3 := blk_frozen BKV.out 3
         have hfz4 := blk_frozen BKV.out 4
         have hfz5 := blk_frozen BKV.out 5
         have hfz6 := blk_frozen BKV.out 6
         have hfz7 := blk_frozen BKV.out 7
         obtain ⟨kk, hkk⟩ : ∃ kk, kWords.getD n 0 = kk := ⟨_, rfl⟩
         obtain ⟨ww, hww⟩ : ∃ ww, (sch a1 48).getD n 0 = ww := ⟨_, rfl⟩
         rw [hkk] at hk
         rw [hww] at hw
         have HKK := Aside0.mk hkk
         have HWW := Aside0.mk hww
         clear hkk hww
         go_quiet (fail)
         go_wp2_with (first | (go_at_call 95; (with_reducible refine (bits_RotateLeft32.calls _ _ _ _ (rotf _ _)).mono ?_); rintro e w1 ⟨rfl, ⟨nd, rfl⟩⟩))
         go_roundg k1
         case measure => have := HJ.out; omega
         case rel =>
          refine ⟨n + 1, _, _, _, _, _, _, _, _, by simp, ⟨by have := HJ.out; omega⟩, ⟨?_⟩, ⟨st8_blk (blk_drewN BKV.out _) _ _ _ _ _ _ _ _⟩, ⟨st8_far (blk_drewN BKW.out _) HGW.out.symm _ _ _ _ _ _ _ _⟩, ⟨st8_R (Kd.R_drewN HO2.out _) (blk_drewN BKV.out _) (by decide) _ _ _ _ _ _ _ _⟩, ⟨st8_below (pw_below_drewN HB.out _) GEV.out _ _ _ _ _ _ _ _⟩⟩
          show rnd (rnds l0 (sch a1 48) n) (kWords.getD n 0) ((sch a1 48).getD n 0) = _
          rw [HRN.out, HKK.out, HWW.out]
          rfl
        | zero =>
         obtain rfl : n = 64 := by have := HJ.out; omega
         obtain ⟨A2, cb, rfl, _, hC2⟩ := Kd.R_reads HO2.out
         obtain ⟨ad2, rfl, _⟩ := hC2.2.2 (by have := H8.out; omega)
         obtain ⟨gb, rfl⟩ := Kd.R_head HO2.out
         have hgb : gv ≠ gb := by
          intro e_; exact Kd.R_ne HO2.out BKV.out (by decide) (by rw [e_]; rfl)
         have hbs : w.heap.size ≤ gb := Kd.R_base HO2.out gb rfl
         have HGB := Aside0.mk hgb
         have HBS := Aside0.mk hbs
         clear hgb hbs hC2
         have n0_ := HO2
         rw [H8.out] at n0_
         clear HO2
         have HO2 := n0_
         clear n0_
         have hl8 : (l0.length : Int) = 8 := by have := H8.out; omega
         rw [show (l0.length) = 8 from H8.out]
         clear hl8
         go_wp2_with (fail)
         go_loopg [194] 8 (fun kq v194 w' => ∃ (n : Nat), v194 = .int .i64 n ∧ Aside0 (n + kq = 8) ∧ Aside0 (w'.heap[gv]? = some (.cells (U [a0, a1', a2, a3, a4, a5, a6, a7]) 127 (0, 0))) ∧ Aside0 ((Kd.int .i64).R 3 w' w.heap.size (fun _ => True) (.slice (some ⟨gb, 0, none⟩) 8 cb) (outs l0 [a0, a1', a2, a3, a4, a5, a6, a7] n)) ∧ Aside0 (Below w.heap.size w w'))
         case atStart => exact ⟨0, rfl, ⟨rfl⟩, BKV, HO2, HB⟩
         case round =>
          clear HB BKV HO2 BKW HJ
          obtain ⟨n, rfl, HJ, BKV, HO2, HB⟩ := hrel
          cases gk with
          | succ k1 =>
           have hn : n < 8 := by have := HJ.out; omega
           have hjl : decide ((n : Int) < 8) = true := decide_eq_true (by omega)
           have hcv := U_cell BKV.out n (by simp; omega)
           obtain ⟨hco, hfo⟩ := Kd.R_celln (0 : Int) HO2.out (n : Int) (by omega) (by omega)
           rw [Int.toNat_natCast] at hco hfo
           rw [show rdOf (0 : Int) (outs l0 [a0, a1', a2, a3, a4, a5, a6, a7] n) (n : Int) = l0.getD n 0 from outs_at _ _ _ H8.out hn] at hco
           obtain ⟨r0, r1⟩ := half_rng (HF.out (l0.getD n 0) (by have := H8.out; simp [List.getD, show n < l0.length by omega]))
           obtain ⟨xo, hxo⟩ : ∃ xo, l0.getD n 0 = xo := ⟨_, rfl⟩
           obtain ⟨xv, hxv⟩ : ∃ xv, [a0, a1', a2, a3, a4, a5, a6, a7].getD n 0 = xv := ⟨_, rfl⟩
           rw [hxo] at hco r0 r1
           rw [hxv] at hcv
           have HXO := Aside0.mk hxo
           have HXV := Aside0.mk hxv
           clear hxo hxv
           go_wp2_with (fail)
           go_region
           go_wp2
           go_roundg k1
           case measure => have := HJ.out; omega
           case rel =>
            refine ⟨n + 1, by simp, ⟨by have := HJ.out; omega⟩, ⟨?_⟩, ⟨?_⟩, ⟨?_⟩⟩
            ·exact blk_far (blk_drewN BKV.out _) HGB.out _
            ·refine Kd.R_drew ?_
             rw [← outs_set l0 [a0, a1', a2, a3, a4, a5, a6, a7] n H8.out hn, HXO.out, HXV.out]
             have h_ := Kd.R_putn HO2.out (n : Int) ((xo + xv) % 4294967296)
             rw [Int.toNat_natCast] at h_
             exact h_
            ·exact below_set (pw_below_drewN HB.out _) HBS.out
          | zero =>
           obtain rfl : n = 8 := by have := HJ.out; omega
           go_wp2
           go_ret
           refine ⟨_, rfl, ?_, HB.out⟩
           unfold shaB
           rw [HRN.out]
           exact HO2.out
end Go.Proofs.YtcbjlcgfhbfneaaGreatDoor.PH
namespace Go.Proofs.YtcbjlcgfhbfneaaGreatDoor.PA
open Go.RowKit Go.Proofs.YtcbjlcgfhbfneaaGreatDoorW.PrintWords Go.Proofs.YtcbjlcgfhbfneaaGreatDoorW.PrintLast Go.Proofs.YtcbjlcgfhbfneaaGreatDoorW.PrintMore
def Tab (w : World) : Prop := PH.Tab w
theorem tab_of {w w' : World} (h : Tab w) (hb : Below w.heap.size w w') : Tab w' := by
 unfold Tab PH.Tab Lib.TabIs at h ⊢
 rw [← h]
 have hg : (0 : Nat) < w.heap.size := World.block_lt_of_cell? w _ (PH.tab_cell h 0 (by decide))
 have e := hb.block 0 hg
 unfold World.var?
 rw [PH.shaGlobal, Option.bind_some, Option.bind_some, e]
def impl_ShaBlock.f (a0 : List Int) (a1 : ByteArray) : Option (List Int) := if a0.length = 8 ∧ a1.size = 64 ∧ ∀ x ∈ a0, 0 ≤ x ∧ x ≤ 4294967295 then some (PH.shaB a0 a1) else none
theorem impl_ShaBlock.calls (A0 : Option Addr) (c0 : Nat) (l0 : List Int) (a1 : ByteArray) (r : List Int) (w : World) (hr0 : Kd.C (Kd.int .i64) w A0 l0.length l0) (hc0 : l0.length ≤ c0) (hT : Tab w) (h : impl_ShaBlock.f l0 a1 = some r) :
 Calls Tryz.prog 79 #[.slice A0 l0.length c0, .string a1] w fun e w' => ∃ v0_ : Value, e = .returned (v0_) ∧ Kd.R (Kd.int .i64) 3 w' w.heap.size (fun _ => True) v0_ r ∧ Below w.heap.size w w' := by
 unfold impl_ShaBlock.f at h
 split at h
 ·rename_i hc
  obtain rfl := Option.some.inj h
  refine PH.sha_calls A0 c0 l0 a1 w hr0 hc0 hc.1 hc.2.1 (fun x hx => ?_) hT
  have hr := hc.2.2 x hx
  unfold PH.impl_HalfOk.f PH.impl_within.f
  rw [if_pos hr.1]
  simp [hr.2]
 ·cases h
end Go.Proofs.YtcbjlcgfhbfneaaGreatDoor.PA

namespace Go.Proofs.YtcbjlcgfhbfneaaGreatDoor.PH
open Go.RowKit Go.Proofs.YtcbjlcgfhbfneaaGreatDoorW.PrintWords Go.Proofs.YtcbjlcgfhbfneaaGreatDoorW.PrintLast Go.Proofs.YtcbjlcgfhbfneaaGreatDoorW.PrintMore
attribute [local go_sem] max2_int min2_int max_two min_two max_three min_three max_four min_four
set_option linter.unusedVariables false
set_option linter.unusedSimpArgs false
section
variable {P : Program} {ops : Array Oper} {rest : List Oper} {o : Oper} {a : Act} {Q : Exit → Act → World → Prop} {W : World}
theorem load_row (hgd : o.guard = none) {N : Tmp} (_hd : o.dst = some N) {t : TypeId} {p : Operand} (ho : o.op = .load t p) (g : Nat) (hp : a.eval p = .pointer (some ⟨g, 0, none⟩)) {cs : Array Value} {t' : TypeId} {fr : Nat × Nat} (hg : W.heap[g]? = some (.cells cs t' fr)) {n : Nat} {e : TypeId} (hu : P.underlying t = some (.array n e)) (hi : (P.info? t).map (·.size) = some cs.size)
 (h : wpList P ops Q rest (a.put o.dst (.agg cs)) W) : wpList P ops Q (o :: rest) a W := by
 refine Kd.event_run hgd ?_ h
 unfold execOp
 rw [ho]
 show (do let x ← Instr.loadAt t (a.eval p); pure (Next.value x) : Sem Next).run P W = _
 rw [hp]
 simp only [Instr.loadAt, Instr.sureAddr, Sem.run_bind, Sem.run_pure, Result.andThen, run_loadVar_row W g t' t cs fr _ hg hu rfl hi]
theorem store_row (hgd : o.guard = none) (hN : o.dst = none) {t : TypeId} {p : Tmp} {x : Operand} (ho : o.op = .store t (.tmp p) x) (g : Nat) (hp : a.eval (.tmp p) = .pointer (some ⟨g, 0, none⟩)) {cs old : Array Value} (hx : a.eval x = .agg cs) {t' : TypeId} (hg : W.heap[g]? = some (.cells old t' (0, 0))) (hi : (P.info? t).map (·.size) = some cs.size) (hs : old.size = cs.size) (h1 : cs.all (·.oneCell') = true)
 (h : ∀ w', w' = W.setRow g cs → wpList P ops Q rest a w') : wpList P ops Q (o :: rest) a W := by
 refine store_event hgd ho hN (w1 := W.setRow g cs) ?_ h
 unfold execOp
 rw [ho]
 show (do Instr.storeAt t (a.eval (.tmp p)) (a.eval x); pure Next.skip : Sem Next).run P W = _
 rw [hp, hx]
 simp only [Instr.storeAt, Instr.sureAddr, Sem.run_bind, Sem.run_pure, Result.andThen, run_storeVar_row W g t' t old cs hg hi hs h1]
end
theorem U_one (l : List Int) : (U l).all (·.oneCell') = true := by
 simp [U, Value.oneCell']
theorem U_size (l : List Int) : (U l).size = l.length := by simp [U]
def hFirst : List Int := [1779033703, 3144134277, 1013904242, 2773480762, 1359893119, 2600822924, 528734635, 1541459225]
theorem info127 : (Tryz.prog.info? 127).map (·.size) = some 8 := by kernel_rfl
theorem info129 : (Tryz.prog.info? 129).map (·.size) = some 64 := by kernel_rfl
theorem und127 : Tryz.prog.underlying 127 = some (.array 8 126) := by kernel_rfl
theorem und129 : Tryz.prog.underlying 129 = some (.array 64 126) := by kernel_rfl
theorem first_calls (w : World) : Calls Tryz.prog 67 #[] w fun e w' => e = .returned (.agg (U hFirst)) ∧ Below w.heap.size w w' := by
 have HB := Aside0.mk (Below.refl w.heap.size w)
 go_enter Tryz.func67, Tryz.ntmps67
 go_wp2_with (fail)
 refine bodyPost_ret (results_cell_row rfl _ _ w.heap.size 127 (U hFirst) (0, 0) _ rfl (blk_new w _) und127 rfl (by rw [U_size]; exact info127)) rfl ⟨rfl, below_alloc HB.out _⟩
set_option maxHeartbeats 400000 in
set_option maxRecDepth 100000 in
theorem keys_calls (w : World) : Calls Tryz.prog 68 #[] w fun e w' => e = .returned (.agg (U kWords)) ∧ Below w.heap.size w w' := by
 have HB := Aside0.mk (Below.refl w.heap.size w)
 go_enter Tryz.func68, Tryz.ntmps68
 go_wp2_with (first
  | ((with_reducible refine gate_dst (N := 1) rfl ?_); refine Kd.event_run rfl (v := .agg (U kWords)) (w1 := w.alloc (.cells (U (List.replicate 64 0)) 129)) ?hr ?_; (case hr => kernel_rfl))
  | ((with_reducible refine gate_store (t := 129) (p := 0) (v := .tmp 1) rfl ?_); refine store_row rfl rfl rfl w.heap.size rfl (cs := U kWords) (old := U (List.replicate 64 0)) rfl (blk_new w _) (by rw [U_size]; exact info129) (by rw [U_size, U_size]; rfl) (U_one _) ?_; intro w5 e5))
 subst e5
 rw [World.setRow_alloc_new]
 refine bodyPost_ret (results_cell_row rfl _ _ w.heap.size 129 (U kWords) (0, 0) _ rfl (blk_new w _) und129 rfl (by rw [U_size]; exact info129)) rfl ⟨rfl, below_alloc HB.out _⟩
theorem ofInt_32_64 (x : Int) : BitVec.ofInt 32 x = (BitVec.ofInt 64 x).setWidth 32 := by
 apply BitVec.eq_of_toNat_eq
 rw [BitVec.toNat_setWidth, BitVec.toNat_ofInt, BitVec.toNat_ofInt]
 omega
theorem or_u32 (x y : Int) : Go.bits .or .u32 x y = Go.bits .or .i64 x y % 4294967296 := by
 have e : (BitVec.ofInt 32 x ||| BitVec.ofInt 32 y).toNat = (BitVec.ofInt 64 x ||| BitVec.ofInt 64 y).toNat % 2 ^ 32 := by
  rw [ofInt_32_64, ofInt_32_64, ← BitVec.setWidth_or, BitVec.toNat_setWidth]
 simp only [Go.bits, IntKind.wrap]
 show (if (IntKind.u32.signed && _) = true then _ else ((BitVec.ofInt 32 x ||| BitVec.ofInt 32 y).toNat : Int) % 2 ^ 32) = (if (true && decide (((BitVec.ofInt 64 x ||| BitVec.ofInt 64 y).toNat : Int) % 2 ^ 64 ≥ 2 ^ (64 - 1))) = true then ((BitVec.ofInt 64 x ||| BitVec.ofInt 64 y).toNat : Int) % 2 ^ 64 - 2 ^ 64 else ((BitVec.ofInt 64 x ||| BitVec.ofInt 64 y).toNat : Int) % 2 ^ 64) % 4294967296
 rw [e, if_neg (by simp [IntKind.signed])]
 have h := (BitVec.ofInt 64 x ||| BitVec.ofInt 64 y).isLt
 split
 ·omega
 ·omega
theorem bits_u32_mod (op : BinOp) (x y : Int) : Go.bits op .u32 (x % 4294967296) y = Go.bits op .u32 x y := by
 have : BitVec.ofInt 32 (x % 4294967296) = BitVec.ofInt 32 x := by
  apply BitVec.eq_of_toNat_eq
  rw [BitVec.toNat_ofInt, BitVec.toNat_ofInt]
  omega
 simp only [Go.bits, IntKind.bits, this]
theorem bits_u32_mod' (op : BinOp) (x y : Int) : Go.bits op .u32 x (y % 4294967296) = Go.bits op .u32 x y := by
 have : BitVec.ofInt 32 (y % 4294967296) = BitVec.ofInt 32 y := by
  apply BitVec.eq_of_toNat_eq
  rw [BitVec.toNat_ofInt, BitVec.toNat_ofInt]
  omega
 simp only [Go.bits, IntKind.bits, this]
theorem bt_rng (t : ByteArray) (i : Int) : 0 ≤ bt t i ∧ bt t i ≤ 255 := by
 unfold bt
 split
 ·rename_i h
  have := (t[i.toNat]'h).toNat_lt
  constructor <;> omega
 ·constructor <;> omega
theorem word_spec (t : ByteArray) (i : Int) :
 bits BinOp.or IntKind.u32 (bits BinOp.or IntKind.u32 (bits BinOp.or IntKind.u32 (bt t i % 4294967296 * 16777216 % 4294967296) (bt t (i + 1) % 4294967296 * 65536 % 4294967296)) (bt t (i + 2) % 4294967296 * 256 % 4294967296)) (bt t (i + 3) % 4294967296) = fourV t i % 4294967296 := by
 have m (x : Int) : x % 4294967296 % 4294967296 = x % 4294967296 := by omega
 have h0 := bt_rng t i
 have h1 := bt_rng t (i + 1)
 have h2 := bt_rng t (i + 2)
 have h3 := bt_rng t (i + 3)
 unfold fourV
 rw [w64 (x := bt t i) (by omega) (by omega), w64 (x := bt t (i + 1)) (by omega) (by omega), w64 (x := bt t (i + 2)) (by omega) (by omega), w64 (x := bt t (i + 3)) (by omega) (by omega),
  w64 (by omega) (by omega), w64 (by omega) (by omega), w64 (by omega) (by omega)]
 rw [show bt t i % 4294967296 = bt t i by omega, show bt t (i + 1) % 4294967296 = bt t (i + 1) by omega, show bt t (i + 2) % 4294967296 = bt t (i + 2) by omega]
 have key (x y z : Int) : bits .or .u32 (bits .or .i64 x y) z = bits .or .u32 (bits .or .u32 x y) z := by
  rw [← bits_u32_mod .or (bits .or .i64 x y) z, ← or_u32]
 rw [← or_u32, key, key]
 simp only [bits_u32_mod, bits_u32_mod']
theorem turn7 (x : Int) : spec_l03Turn.f x 7 = some (rl x (-7)) := by rw [rl_rr x (-7) 7 (by decide) (by decide)]; rfl
theorem turnAll (x n k : Int) (h : Go.bits .and .u64 (IntKind.u64.wrap k) 31 = 32 - n) (h2 : IntKind.u64.wrap n = n) (h0 : 0 ≤ n) (h3 : IntKind.u64.wrap (32 - n) = 32 - n) (h4 : 0 ≤ 32 - n) : spec_l03Turn.f x n = some (rl x k) := by
 rw [rl_rr x k n h h2]; unfold spec_l03Turn.f; rw [if_pos h0, h3, if_pos h4]
theorem t7 (x : Int) : spec_l03Turn.f x 7 = some (rl x (-7)) := turnAll x 7 (-7) (by decide) (by decide) (by decide) (by decide) (by decide)
theorem t18 (x : Int) : spec_l03Turn.f x 18 = some (rl x (-18)) := turnAll x 18 (-18) (by decide) (by decide) (by decide) (by decide) (by decide)
theorem t17 (x : Int) : spec_l03Turn.f x 17 = some (rl x (-17)) := turnAll x 17 (-17) (by decide) (by decide) (by decide) (by decide) (by decide)
theorem t19 (x : Int) : spec_l03Turn.f x 19 = some (rl x (-19)) := turnAll x 19 (-19) (by decide) (by decide) (by decide) (by decide) (by decide)
theorem t6 (x : Int) : spec_l03Turn.f x 6 = some (rl x (-6)) := turnAll x 6 (-6) (by decide) (by decide) (by decide) (by decide) (by decide)
theorem t11 (x : Int) : spec_l03Turn.f x 11 = some (rl x (-11)) := turnAll x 11 (-11) (by decide) (by decide) (by decide) (by decide) (by decide)
theorem t25 (x : Int) : spec_l03Turn.f x 25 = some (rl x (-25)) := turnAll x 25 (-25) (by decide) (by decide) (by decide) (by decide) (by decide)
theorem t2 (x : Int) : spec_l03Turn.f x 2 = some (rl x (-2)) := turnAll x 2 (-2) (by decide) (by decide) (by decide) (by decide) (by decide)
theorem t13 (x : Int) : spec_l03Turn.f x 13 = some (rl x (-13)) := turnAll x 13 (-13) (by decide) (by decide) (by decide) (by decide) (by decide)
theorem t22 (x : Int) : spec_l03Turn.f x 22 = some (rl x (-22)) := turnAll x 22 (-22) (by decide) (by decide) (by decide) (by decide) (by decide)
theorem turn_q (x n k : Int) (h : spec_l03Turn.f x n = some (rl x k)) (w : World) (m : Nat) : Calls Tryz.prog 85 #[.int .u32 x, .int .u64 n] (w.drewN m) fun e w'' => e = .returned (.int .u32 (rl x k)) ∧ ∃ m', w'' = w.drewN m' := by
 refine Calls.quiet_of ((spec_l03Turn.calls x n _ _ h).mono ?_)
 rintro e w1 ⟨rfl, ⟨nd, rfl⟩⟩
 exact ⟨rfl, nd, rfl⟩
def rv8 (w : World) (g : Nat) (x0 x1 x2 x3 x4 x5 x6 x7 : Int) : World :=
 (((((((w.setCell ⟨g, 7, none⟩ (.int .u32 x7)).setCell ⟨g, 6, none⟩ (.int .u32 x6)).setCell ⟨g, 5, none⟩ (.int .u32 x5)).setCell ⟨g, 4, none⟩ (.int .u32 x4)).setCell ⟨g, 3, none⟩ (.int .u32 x3)).setCell ⟨g, 2, none⟩ (.int .u32 x2)).setCell ⟨g, 1, none⟩ (.int .u32 x1)).setCell ⟨g, 0, none⟩ (.int .u32 x0)
theorem rv8_blk {w : World} {g t : Nat} {a0 a1 a2 a3 a4 a5 a6 a7 : Int} (h : w.heap[g]? = some (.cells (U [a0, a1, a2, a3, a4, a5, a6, a7]) t (0, 0))) (x0 x1 x2 x3 x4 x5 x6 x7 : Int) :
 (rv8 w g x0 x1 x2 x3 x4 x5 x6 x7).heap[g]? = some (.cells (U [x0, x1, x2, x3, x4, x5, x6, x7]) t (0, 0)) :=
 U_put (U_put (U_put (U_put (U_put (U_put (U_put (U_put h 7 x7) 6 x6) 5 x5) 4 x4) 3 x3) 2 x2) 1 x1) 0 x0
theorem rv8_far {w : World} {g g' t : Nat} {cs : Array Value} (h : w.heap[g']? = some (.cells cs t (0, 0))) (hg : g' ≠ g) (x0 x1 x2 x3 x4 x5 x6 x7 : Int) :
 (rv8 w g x0 x1 x2 x3 x4 x5 x6 x7).heap[g']? = some (.cells cs t (0, 0)) :=
 blk_far (blk_far (blk_far (blk_far (blk_far (blk_far (blk_far (blk_far h (p := ⟨g, 7, none⟩) hg _) (p := ⟨g, 6, none⟩) hg _) (p := ⟨g, 5, none⟩) hg _) (p := ⟨g, 4, none⟩) hg _) (p := ⟨g, 3, none⟩) hg _) (p := ⟨g, 2, none⟩) hg _) (p := ⟨g, 1, none⟩) hg _) (p := ⟨g, 0, none⟩) hg _
theorem rv8_below {w W : World} {g : Nat} (h : Below w.heap.size w W) (hg : w.heap.size ≤ g) (x0 x1 x2 x3 x4 x5 x6 x7 : Int) : Below w.heap.size w (rv8 W g x0 x1 x2 x3 x4 x5 x6 x7) :=
 below_set (below_set (below_set (below_set (below_set (below_set (below_set (below_set h hg) hg) hg) hg) hg) hg) hg) hg
theorem not_comm (e : Int) : bits BinOp.xor IntKind.u32 e 4294967295 = bits BinOp.xor IntKind.u32 IntKind.u32.max e := by
 have : IntKind.u32.max = 4294967295 := by decide
 rw [this]
 simp [Go.bits, BitVec.xor_comm]
theorem outs_getD (l v : List Int) (n : Nat) (h : l.length = 8) (hn : n < 8) : (outs l v n).getD n 0 = l.getD n 0 := by
 have := outs_at l v n h hn
 unfold rdOf at this
 rwa [Int.toNat_natCast] at this
theorem outs_len (l v : List Int) (n : Nat) (h : l.length = 8) (hn : n ≤ 8) : (outs l v n).length = 8 := by
 unfold outs; simp; omega
set_option maxHeartbeats 2000000 in
set_option maxRecDepth 100000 in
theorem block_calls (h0 : List Int) (a1 : ByteArray) (w : World) (h8 : h0.length = 8) (h64 : a1.size = 64) :
 Calls Tryz.prog 70 #[.agg (U h0), .string a1, .agg (U kWords)] w fun e w' => e = .returned (.agg (U (shaB h0 a1))) ∧ Below w.heap.size w w' := by
 have HB := Aside0.mk (Below.refl w.heap.size w)
 have H8 := Aside0.mk h8
 have H64 := Aside0.mk h64
 clear h8 h64
 generalize hks : kWords = ks
 have HK := Aside0.mk hks
 clear hks
 go_enter Tryz.func70, Tryz.ntmps70
 go_wp2_with (first
  | ((with_reducible refine gate_dst (N := 3) rfl ?_); refine box_event rfl (N := 3) rfl (cs := U h0) (t := 127) rfl ?_; intro g3 hg w3 hbox hb; have B3 := Aside0.mk hbox; have G3 := Aside0.mk (by rw [hg]; exact below_size HB.out : w.heap.size ≤ g3); have n1_ := Aside0.mk (below_step HB.out hb); clear HB; have HB := n1_; clear n1_ hbox hb hg)
  | ((with_reducible refine gate_dst (N := 5) rfl ?_); refine box_event rfl (N := 5) rfl (cs := U ks) (t := 129) rfl ?_; intro g5 hg w5 hbox hb; have B5 := Aside0.mk hbox; have G5 := Aside0.mk (by rw [hg]; exact below_size HB.out : w.heap.size ≤ g5); have n1_ := Aside0.mk (below_step HB.out hb); have n2_ := Aside0.mk (blk_below B3.out hb); have N35 := Aside0.mk (by rw [hg]; exact Nat.ne_of_lt (blk_lt B3.out) : g3 ≠ g5); clear HB B3; have HB := n1_; have B3 := n2_; clear n1_ n2_ hbox hb hg)
  | ((with_reducible refine gate_dst (N := 6) rfl ?_); refine box_event rfl (N := 6) rfl (cs := U (List.replicate 8 0)) (t := 127) (by kernel_rfl) ?_; intro g6 hg w6 hbox hb; have B6 := Aside0.mk hbox; have G6 := Aside0.mk (by rw [hg]; exact below_size HB.out : w.heap.size ≤ g6); have n1_ := Aside0.mk (below_step HB.out hb); have n2_ := Aside0.mk (blk_below B3.out hb); have n3_ := Aside0.mk (blk_below B5.out hb); have N36 := Aside0.mk (by rw [hg]; exact Nat.ne_of_lt (blk_lt B3.out) : g3 ≠ g6); have N56 := Aside0.mk (by rw [hg]; exact Nat.ne_of_lt (blk_lt B5.out) : g5 ≠ g6); clear HB B3 B5; have HB := n1_; have B3 := n2_; have B5 := n3_; clear n1_ n2_ n3_ hbox hb hg)
  | ((with_reducible refine gate_dst (N := 21) rfl ?_); refine Kd.event_run rfl (v := .agg (U (List.replicate 64 0))) (w1 := w6) (by kernel_rfl) ?_)
  | ((with_reducible refine gate_dst (N := 7) rfl ?_); refine box_event rfl (N := 7) rfl (cs := U (List.replicate 64 0)) (t := 129) (by kernel_rfl) ?_; intro g7 hg w7 hbox hb; have B7 := Aside0.mk hbox; have G7 := Aside0.mk (by rw [hg]; exact below_size HB.out : w.heap.size ≤ g7); have n1_ := Aside0.mk (below_step HB.out hb); have n2_ := Aside0.mk (blk_below B3.out hb); have n3_ := Aside0.mk (blk_below B5.out hb); have n4_ := Aside0.mk (blk_below B6.out hb); have N37 := Aside0.mk (by rw [hg]; exact Nat.ne_of_lt (blk_lt B3.out) : g3 ≠ g7); have N57 := Aside0.mk (by rw [hg]; exact Nat.ne_of_lt (blk_lt B5.out) : g5 ≠ g7); have N67 := Aside0.mk (by rw [hg]; exact Nat.ne_of_lt (blk_lt B6.out) : g6 ≠ g7); clear HB B3 B5 B6; have HB := n1_; have B3 := n2_; have B5 := n3_; have B6 := n4_; clear n1_ n2_ n3_ n4_ hbox hb hg)
  | ((with_reducible refine gate_store (t := 129) (p := 7) (v := .tmp 21) rfl ?_); refine store_row rfl rfl rfl g7 rfl (cs := U (List.replicate 64 0)) (old := U (List.replicate 64 0)) rfl B7.out (by rw [U_size]; exact info129) rfl (U_one _) ?_; intro w8 e8; rw [setRow_self _ _ _ _ _ B7.out] at e8; subst e8))
 go_loopg [8] 16 (fun kq v8 w' => ∃ (j : Nat), v8 = .int .i64 j ∧ Aside0 (j + kq = 16) ∧ Aside0 (w'.heap[g3]? = some (.cells (U h0) 127 (0, 0))) ∧ Aside0 (w'.heap[g5]? = some (.cells (U ks) 129 (0, 0))) ∧ Aside0 (w'.heap[g6]? = some (.cells (U (List.replicate 8 0)) 127 (0, 0))) ∧ Aside0 (w'.heap[g7]? = some (.cells (U ((List.range j).map (wordOf a1) ++ List.replicate (64 - j) 0)) 129 (0, 0))) ∧ Aside0 (Below w.heap.size w w'))
 case atStart => exact ⟨0, rfl, ⟨rfl⟩, B3, B5, B6, B7, HB⟩
 case round =>
  clear B3 B5 B6 B7 HB
  obtain ⟨j, rfl, HJ, B3, B5, B6, B7, HB⟩ := hrel
  cases gk with
  | succ k1 =>
   have hj : j < 16 := by have := HJ.out; omega
   have hjl : decide ((j : Int) < 16) = true := decide_eq_true (by omega)
   have hcv : ∃ u, wr.cell? ⟨g7, j, none⟩ = some (.int .u32 u) := ⟨_, U_cell B7.out j (by simp; omega)⟩
   obtain ⟨u, hcv⟩ := hcv
   have hfz := blk_frozen B7.out j
   obtain ⟨x0, hx0⟩ : ∃ x0, 4 * (j : Int) = x0 := ⟨_, rfl⟩
   have hw0 : IntKind.i64.wrap (4 * (j : Int)) = x0 := by rw [i64_w, w64 (by omega) (by omega), hx0]
   obtain ⟨x1, hx1⟩ : ∃ x1, x0 + 1 = x1 := ⟨_, rfl⟩
   have hw1 : IntKind.i64.wrap (x0 + 1) = x1 := by rw [i64_w, w64 (by omega) (by omega), hx1]
   obtain ⟨x2, hx2⟩ : ∃ x2, x0 + 2 = x2 := ⟨_, rfl⟩
   have hw2 : IntKind.i64.wrap (x0 + 2) = x2 := by rw [i64_w, w64 (by omega) (by omega), hx2]
   obtain ⟨x3, hx3⟩ : ∃ x3, x0 + 3 = x3 := ⟨_, rfl⟩
   have hw3 : IntKind.i64.wrap (x0 + 3) = x3 := by rw [i64_w, w64 (by omega) (by omega), hx3]
   have h64 := H64.out
   have p0 := eq_true (show 0 ≤ x0 by omega)
   have q0 := eq_true (show x0 < (a1.size : Int) by omega)
   have p1 := eq_true (show 0 ≤ x1 by omega)
   have q1 := eq_true (show x1 < (a1.size : Int) by omega)
   have p2 := eq_true (show 0 ≤ x2 by omega)
   have q2 := eq_true (show x2 < (a1.size : Int) by omega)
   have p3 := eq_true (show 0 ≤ x3 by omega)
   have q3 := eq_true (show x3 < (a1.size : Int) by omega)
   have b0 := bt_at a1 x0
   have b1 := bt_at a1 x1
   have b2 := bt_at a1 x2
   have b3 := bt_at a1 x3
   have X0 := Aside0.mk hx0
   have X1 := Aside0.mk hx1
   have X2 := Aside0.mk hx2
   have X3 := Aside0.mk hx3
   clear hx0 hx1 hx2 hx3 h64
   go_wp2_with (fail)
   go_region
   go_wp2
   go_roundg k1
   case measure => have := HJ.out; omega
   case rel =>
    have hv := word_spec a1 x0
    rw [X1.out, X2.out, X3.out, ← X0.out] at hv
    rw [X0.out] at hv
    refine ⟨j + 1, by simp, ⟨by have := HJ.out; omega⟩, ⟨?_⟩, ⟨?_⟩, ⟨?_⟩, ⟨?_⟩, ⟨?_⟩⟩
    ·exact blk_drew (blk_far B3.out N37.out _)
    ·exact blk_drew (blk_far B5.out N57.out _)
    ·exact blk_drew (blk_far B6.out N67.out _)
    ·rw [← words_set (wordOf a1) 64 j (by omega)]
     rw [hv]
     have e_ : fourV a1 x0 % 4294967296 = wordOf a1 j := by unfold wordOf; rw [X0.out]
     rw [e_]
     exact blk_drew (U_put B7.out j _)
    ·exact below_drew1 (below_set HB.out G7.out)
  | zero =>
   obtain rfl : j = 16 := HJ.out
   go_wp2_with (fail)
   go_loopg [9] 48 (fun kq v9 w' => ∃ (m : Nat), v9 = .int .i64 m ∧ Aside0 (m + kq = 64 ∧ 16 ≤ m) ∧ Aside0 (w'.heap[g3]? = some (.cells (U h0) 127 (0, 0))) ∧ Aside0 (w'.heap[g5]? = some (.cells (U ks) 129 (0, 0))) ∧ Aside0 (w'.heap[g6]? = some (.cells (U (List.replicate 8 0)) 127 (0, 0))) ∧ Aside0 (w'.heap[g7]? = some (.cells (U (sch a1 (m - 16))) 129 (0, 0))) ∧ Aside0 (Below w.heap.size w w'))
   case atStart => exact ⟨16, rfl, ⟨rfl, by omega⟩, B3, B5, B6, B7, HB⟩
   case round =>
    clear B3 B5 B6 B7 HB HJ
    obtain ⟨m, rfl, HJ, B3, B5, B6, B7, HB⟩ := hrel
    cases gk with
    | succ k1 =>
     have hm1 : m < 64 := by have := HJ.out; omega
     have hm0 : 16 ≤ m := HJ.out.2
     have hjl : decide ((m : Int) < 64) = true := decide_eq_true (by omega)
     go_wp2_with (fail)
     have e15 : IntKind.i64.wrap ((m : Int) - 15) = ((m - 15 : Nat) : Int) := by simp [IntKind.wrap, IntKind.bits, IntKind.signed]; omega
     have hc15 := U_cell B7.out (m - 15) (by rw [sch_len]; omega)
     have i15 : m - 15 < 64 := by omega
     have hwa : ∃ wa, (sch a1 (m - 16)).getD (m - 15) 0 = wa := ⟨_, rfl⟩
     obtain ⟨wa, hwa⟩ := hwa
     rw [hwa] at hc15
     have HWA := Aside0.mk hwa
     clear hwa
     go_quiet ((go_at_call 85; first | (with_reducible exact turn_q _ 7 _ (t7 _) _ _) | (with_reducible exact turn_q _ 18 _ (t18 _) _ _)))
     obtain ⟨xa, hxa⟩ : ∃ xa, bits BinOp.xor IntKind.u32 (bits BinOp.xor IntKind.u32 (rl wa (-7)) (rl wa (-18))) (wa / 8) = xa := ⟨_, rfl⟩
     try rw [hxa]
     have HXA := Aside0.mk hxa
     clear hxa
     go_wp2_with (fail)
     have n3_ := Aside0.mk (blk_drewN B3.out nq)
     have n5_ := Aside0.mk (blk_drewN B5.out nq)
     have n6_ := Aside0.mk (blk_drewN B6.out nq)
     have n7_ := Aside0.mk (blk_drewN B7.out nq)
     have nb_ := Aside0.mk (pw_below_drewN HB.out nq)
     clear B3 B5 B6 B7 HB hc15 e15 i15
     generalize wr.drewN nq = wq at n3_ n5_ n6_ n7_ nb_ ⊢
     have B3 := n3_
     have B5 := n5_
     have B6 := n6_
     have B7 := n7_
     have HB := nb_
     clear n3_ n5_ n6_ n7_ nb_
     have e2 : IntKind.i64.wrap ((m : Int) - 2) = ((m - 2 : Nat) : Int) := by simp [IntKind.wrap, IntKind.bits, IntKind.signed]; omega
     have hc2 := U_cell B7.out (m - 2) (by rw [sch_len]; omega)
     have i2 : m - 2 < 64 := by omega
     have hwb : ∃ wb, (sch a1 (m - 16)).getD (m - 2) 0 = wb := ⟨_, rfl⟩
     obtain ⟨wb, hwb⟩ := hwb
     rw [hwb] at hc2
     have HWB := Aside0.mk hwb
     clear hwb
     go_quiet ((go_at_call 85; first | (with_reducible exact turn_q _ 17 _ (t17 _) _ _) | (with_reducible exact turn_q _ 19 _ (t19 _) _ _)))
     obtain ⟨xb, hxb⟩ : ∃ xb, bits BinOp.xor IntKind.u32 (bits BinOp.xor IntKind.u32 (rl wb (-17)) (rl wb (-19))) (wb / 1024) = xb := ⟨_, rfl⟩
     try rw [hxb]
     have HXB := Aside0.mk hxb
     clear hxb
     go_wp2_with (fail)
     rename_i nq1
     have n3_ := Aside0.mk (blk_drewN B3.out nq)
     have n5_ := Aside0.mk (blk_drewN B5.out nq)
     have n6_ := Aside0.mk (blk_drewN B6.out nq)
     have n7_ := Aside0.mk (blk_drewN B7.out nq)
     have nb_ := Aside0.mk (pw_below_drewN HB.out nq)
     clear B3 B5 B6 B7 HB hc2 e2 i2
     generalize wq.drewN nq = wz at n3_ n5_ n6_ n7_ nb_ ⊢
     have B3 := n3_
     have B5 := n5_
     have B6 := n6_
     have B7 := n7_
     have HB := nb_
     clear n3_ n5_ n6_ n7_ nb_
     have e16 : IntKind.i64.wrap ((m : Int) - 16) = ((m - 16 : Nat) : Int) := by simp [IntKind.wrap, IntKind.bits, IntKind.signed]; omega
     have e7 : IntKind.i64.wrap ((m : Int) - 7) = ((m - 7 : Nat) : Int) := by simp [IntKind.wrap, IntKind.bits, IntKind.signed]; omega
     have hc16 := U_cell B7.out (m - 16) (by rw [sch_len]; omega)
     have hc7 := U_cell B7.out (m - 7) (by rw [sch_len]; omega)
     have hcm := U_cell B7.out m (by rw [sch_len]; omega)
     have hfm := blk_frozen B7.out m
     have i16 : m - 16 < 64 := by omega
     have i7 : m - 7 < 64 := by omega
     generalize hwc : (sch a1 (m - 16)).getD (m - 16) 0 = wc at hc16
     generalize hwd : (sch a1 (m - 16)).getD (m - 7) 0 = wd at hc7
     generalize hwe : (sch a1 (m - 16)).getD m 0 = we at hcm
     have HWC := Aside0.mk hwc
     have HWD := Aside0.mk hwd
     clear hwc hwd hwe
     go_region
     go_wp2
     go_roundg k1
     case measure => have := HJ.out; omega
     case rel =>
      refine ⟨m + 1, by simp, ⟨by have := HJ.out; omega⟩, ⟨?_⟩, ⟨?_⟩, ⟨?_⟩, ⟨?_⟩, ⟨?_⟩⟩
      ·exact blk_drew (blk_far B3.out N37.out _)
      ·exact blk_drew (blk_far B5.out N57.out _)
      ·exact blk_drew (blk_far B6.out N67.out _)
      ·rw [show sch a1 (m + 1 - 16) = (sch a1 (m - 16)).set m ((wc + xa + wd + xb) % 4294967296) by
        rw [show m + 1 - 16 = (m - 16) + 1 by omega]
        show stepW (sch a1 (m - 16)) (16 + (m - 16)) = _
        unfold stepW
        rw [show 16 + (m - 16) = m by omega, HWA.out, HWB.out, HWC.out, HWD.out]
        unfold sg0 sg1
        rw [HXA.out, HXB.out]]
       exact blk_drew (U_put B7.out m _)
      ·exact below_drew1 (below_set HB.out G7.out)
    | zero =>
     obtain rfl : m = 64 := by have := HJ.out.1; omega
     go_wp2_with (first
      | ((with_reducible refine gate_dst (N := 110) rfl ?_); refine load_row rfl rfl (t := 127) (p := .tmp 3) rfl g3 rfl B3.out und127 (by rw [U_size, H8.out]; exact info127) ?_)
      | ((with_reducible refine gate_dst (N := 12) rfl ?_); refine box_event rfl (N := 12) rfl (cs := U (List.replicate 8 0)) (t := 127) (by kernel_rfl) ?_; intro g12 hg w12 hbox hb; have B12 := Aside0.mk hbox; have G12 := Aside0.mk (by rw [hg]; exact below_size HB.out : w.heap.size ≤ g12); have n1_ := Aside0.mk (below_step HB.out hb); have n2_ := Aside0.mk (blk_below B3.out hb); have n3_ := Aside0.mk (blk_below B5.out hb); have n4_ := Aside0.mk (blk_below B6.out hb); have n5_ := Aside0.mk (blk_below B7.out hb); have M3 := Aside0.mk (by rw [hg]; exact Nat.ne_of_lt (blk_lt B3.out) : g3 ≠ g12); have M5 := Aside0.mk (by rw [hg]; exact Nat.ne_of_lt (blk_lt B5.out) : g5 ≠ g12); have M6 := Aside0.mk (by rw [hg]; exact Nat.ne_of_lt (blk_lt B6.out) : g6 ≠ g12); have M7 := Aside0.mk (by rw [hg]; exact Nat.ne_of_lt (blk_lt B7.out) : g7 ≠ g12); clear HB B3 B5 B6 B7; have HB := n1_; have B3 := n2_; have B5 := n3_; have B6 := n4_; have B7 := n5_; clear n1_ n2_ n3_ n4_ n5_ hbox hb hg)
      | ((with_reducible refine gate_store (t := 127) (p := 12) (v := .tmp 110) rfl ?_); refine store_row rfl rfl rfl g12 rfl (cs := U h0) (old := U (List.replicate 8 0)) rfl B12.out (by rw [U_size, H8.out]; exact info127) (by rw [U_size, U_size, H8.out]; rfl) (U_one _) ?_; intro w13 e13; have n0_ := Aside0.mk (show w13.heap[g12]? = some (.cells (U h0) 127 (0, 0)) by rw [e13]; exact setRow_heap _ _ _ _ _ _ B12.out); have n1_ := Aside0.mk (show Below w.heap.size w w13 by rw [e13]; exact below_setRow HB.out G12.out _); have n2_ := Aside0.mk (show w13.heap[g3]? = some (.cells (U h0) 127 (0, 0)) by rw [e13, setRow_other _ _ _ _ M3.out]; exact B3.out); have n3_ := Aside0.mk (show w13.heap[g5]? = some (.cells (U ks) 129 (0, 0)) by rw [e13, setRow_other _ _ _ _ M5.out]; exact B5.out); have n4_ := Aside0.mk (show w13.heap[g6]? = some (.cells (U (List.replicate 8 0)) 127 (0, 0)) by rw [e13, setRow_other _ _ _ _ M6.out]; exact B6.out); have n5_ := Aside0.mk (show w13.heap[g7]? = some (.cells (U (sch a1 48)) 129 (0, 0)) by rw [e13, setRow_other _ _ _ _ M7.out]; exact B7.out); clear HB B3 B5 B6 B7 B12 e13; have B12 := n0_; have HB := n1_; have B3 := n2_; have B5 := n3_; have B6 := n4_; have B7 := n5_; clear n0_ n1_ n2_ n3_ n4_ n5_))
     go_loopg [13] 64 (fun kq v13 w' => ∃ (n : Nat) (v0 v1 v2' v3 v4 v5 v6 v7 : Int), v13 = .int .i64 n ∧ Aside0 (n + kq = 64) ∧ Aside0 (rnds h0 (sch a1 48) n = [v0, v1, v2', v3, v4, v5, v6, v7]) ∧ Aside0 (w'.heap[g3]? = some (.cells (U h0) 127 (0, 0))) ∧ Aside0 (w'.heap[g5]? = some (.cells (U ks) 129 (0, 0))) ∧ Aside0 (w'.heap[g6]? = some (.cells (U (List.replicate 8 0)) 127 (0, 0))) ∧ Aside0 (w'.heap[g7]? = some (.cells (U (sch a1 48)) 129 (0, 0))) ∧ Aside0 (w'.heap[g12]? = some (.cells (U [v0, v1, v2', v3, v4, v5, v6, v7]) 127 (0, 0))) ∧ Aside0 (Below w.heap.size w w'))
     case atStart =>
      obtain ⟨v0, v1, v2', v3, v4, v5, v6, v7, e8⟩ := eight h0 H8.out
      exact ⟨0, v0, v1, v2', v3, v4, v5, v6, v7, rfl, ⟨rfl⟩, ⟨e8⟩, B3, B5, B6, B7, ⟨by rw [← e8]; exact B12.out⟩, HB⟩
     case round =>
      clear B3 B5 B6 B7 B12 HB HJ
      obtain ⟨n, a0, b1, a2, a3, a4, a5, a6, a7, rfl, HJ, HRN, B3, B5, B6, B7, B12, HB⟩ := hrel
      cases gk with
      | succ k1 =>
       have hn : n < 64 := by have := HJ.out; omega
       have hjl : decide ((n : Int) < 64) = true := decide_eq_true (by omega)
       go_wp2_with (fail)
       have hc4 : wr.cell? ⟨g12, 4, none⟩ = some (.int .u32 a4) := U_cell B12.out 4 (by simp)
       go_quiet ((go_at_call 85; first | (with_reducible exact turn_q _ 6 _ (t6 _) _ _) | (with_reducible exact turn_q _ 11 _ (t11 _) _ _) | (with_reducible exact turn_q _ 25 _ (t25 _) _ _)))
       obtain ⟨s1, hs1⟩ : ∃ x, bits BinOp.xor IntKind.u32 (bits BinOp.xor IntKind.u32 (rl a4 (-6)) (rl a4 (-11))) (rl a4 (-25)) = x := ⟨_, rfl⟩
       try rw [hs1]
       have HS1 := Aside0.mk (show S1 a4 = s1 from hs1)
       clear hs1 hc4
       have n_B3 := Aside0.mk (blk_drewN B3.out nq)
       have n_B5 := Aside0.mk (blk_drewN B5.out nq)
       have n_B6 := Aside0.mk (blk_drewN B6.out nq)
       have n_B7 := Aside0.mk (blk_drewN B7.out nq)
       have n_B12 := Aside0.mk (blk_drewN B12.out nq)
       have n_HB := Aside0.mk (pw_below_drewN HB.out nq)
       clear B3 B5 B6 B7 B12 HB
       generalize wr.drewN nq = wq at n_B3 n_B5 n_B6 n_B7 n_B12 n_HB ⊢
       have B3 := n_B3
       have B5 := n_B5
       have B6 := n_B6
       have B7 := n_B7
       have B12 := n_B12
       have HB := n_HB
       clear n_B3 n_B5 n_B6 n_B7 n_B12 n_HB
       have hc0 : wq.cell? ⟨g12, 0, none⟩ = some (.int .u32 a0) := U_cell B12.out 0 (by simp)
       have hc1 : wq.cell? ⟨g12, 1, none⟩ = some (.int .u32 b1) := U_cell B12.out 1 (by simp)
       have hc2 : wq.cell? ⟨g12, 2, none⟩ = some (.int .u32 a2) := U_cell B12.out 2 (by simp)
       have hc3 : wq.cell? ⟨g12, 3, none⟩ = some (.int .u32 a3) := U_cell B12.out 3 (by simp)
       have hc4 : wq.cell? ⟨g12, 4, none⟩ = some (.int .u32 a4) := U_cell B12.out 4 (by simp)
       have hc5 : wq.cell? ⟨g12, 5, none⟩ = some (.int .u32 a5) := U_cell B12.out 5 (by simp)
       have hc6 : wq.cell? ⟨g12, 6, none⟩ = some (.int .u32 a6) := U_cell B12.out 6 (by simp)
       have hc7 : wq.cell? ⟨g12, 7, none⟩ = some (.int .u32 a7) := U_cell B12.out 7 (by simp)
       go_wp2_with (fail)
       obtain ⟨ch, hch⟩ : ∃ x, bits BinOp.xor IntKind.u32 (bits BinOp.and IntKind.u32 a4 a5) (bits BinOp.and IntKind.u32 (bits BinOp.xor IntKind.u32 a4 4294967295) a6) = x := ⟨_, rfl⟩
       try rw [hch]
       have HCH := Aside0.mk hch
       clear hch
       have hk := U_cell B5.out n (by rw [← HK.out]; exact hn)
       have hw := U_cell B7.out n (by rw [sch_len]; omega)
       obtain ⟨kk, hkk⟩ : ∃ kk, ks.getD n 0 = kk := ⟨_, rfl⟩
       obtain ⟨ww, hww⟩ : ∃ ww, (sch a1 48).getD n 0 = ww := ⟨_, rfl⟩
       rw [hkk] at hk
       rw [hww] at hw
       have HKK := Aside0.mk hkk
       have HWW := Aside0.mk hww
       clear hkk hww
       go_quiet (fail)
       go_wp2_with (fail)
       rename_i nq1
       obtain ⟨one, hone⟩ : ∃ x, ((a7 + s1 + ch + kk) % 4294967296 + ww) % 4294967296 = x := ⟨_, rfl⟩
       rw [hone]
       have HONE := Aside0.mk (show (a7 + s1 + ch + kk + ww) % 4294967296 = one by omega)
       clear hone hc0 hc1 hc2 hc3 hc4 hc5 hc6 hc7 hk hw
       have n_B3 := Aside0.mk (blk_drewN B3.out nq)
       have n_B5 := Aside0.mk (blk_drewN B5.out nq)
       have n_B6 := Aside0.mk (blk_drewN B6.out nq)
       have n_B7 := Aside0.mk (blk_drewN B7.out nq)
       have n_B12 := Aside0.mk (blk_drewN B12.out nq)
       have n_HB := Aside0.mk (pw_below_drewN HB.out nq)
       clear B3 B5 B6 B7 B12 HB
       generalize wq.drewN nq = wy at n_B3 n_B5 n_B6 n_B7 n_B12 n_HB ⊢
       have B3 := n_B3
       have B5 := n_B5
       have B6 := n_B6
       have B7 := n_B7
       have B12 := n_B12
       have HB := n_HB
       clear n_B3 n_B5 n_B6 n_B7 n_B12 n_HB
       have hc0 : wy.cell? ⟨g12, 0, none⟩ = some (.int .u32 a0) := U_cell B12.out 0 (by simp)
       go_quiet ((go_at_call 85; first | (with_reducible exact turn_q _ 2 _ (t2 _) _ _) | (with_reducible exact turn_q _ 13 _ (t13 _) _ _) | (with_reducible exact turn_q _ 22 _ (t22 _) _ _)))
       obtain ⟨s0, hs0⟩ : ∃ x, bits BinOp.xor IntKind.u32 (bits BinOp.xor IntKind.u32 (rl a0 (-2)) (rl a0 (-13))) (rl a0 (-22)) = x := ⟨_, rfl⟩
       try rw [hs0]
       have HS0 := Aside0.mk (show S0 a0 = s0 from hs0)
       clear hs0 hc0
       rename_i nq2
       have n_B3 := Aside0.mk (blk_drewN B3.out nq)
       have n_B5 := Aside0.mk (blk_drewN B5.out nq)
       have n_B6 := Aside0.mk (blk_drewN B6.out nq)
       have n_B7 := Aside0.mk (blk_drewN B7.out nq)
       have n_B12 := Aside0.mk (blk_drewN B12.out nq)
       have n_HB := Aside0.mk (pw_below_drewN HB.out nq)
       clear B3 B5 B6 B7 B12 HB
       generalize wy.drewN nq = wx at n_B3 n_B5 n_B6 n_B7 n_B12 n_HB ⊢
       have B3 := n_B3
       have B5 := n_B5
       have B6 := n_B6
       have B7 := n_B7
       have B12 := n_B12
       have HB := n_HB
       clear n_B3 n_B5 n_B6 n_B7 n_B12 n_HB
       have hc0 : wx.cell? ⟨g12, 0, none⟩ = some (.int .u32 a0) := U_cell B12.out 0 (by simp)
       have hc1 : wx.cell? ⟨g12, 1, none⟩ = some (.int .u32 b1) := U_cell B12.out 1 (by simp)
       have hc2 : wx.cell? ⟨g12, 2, none⟩ = some (.int .u32 a2) := U_cell B12.out 2 (by simp)
       have hc3 : wx.cell? ⟨g12, 3, none⟩ = some (.int .u32 a3) := U_cell B12.out 3 (by simp)
       have hc4 : wx.cell? ⟨g12, 4, none⟩ = some (.int .u32 a4) := U_cell B12.out 4 (by simp)
       have hc5 : wx.cell? ⟨g12, 5, none⟩ = some (.int .u32 a5) := U_cell B12.out 5 (by simp)
       have hc6 : wx.cell? ⟨g12, 6, none⟩ = some (.int .u32 a6) := U_cell B12.out 6 (by simp)
       have hc7 : wx.cell? ⟨g12, 7, none⟩ = some (.int .u32 a7) := U_cell B12.out 7 (by simp)
       have hfz0 := blk_frozen B12.out 0
       have hfz1 := blk_frozen B12.out 1
       have hfz2 := blk_frozen B12.out 2
       have hfz3 := blk_frozen B12.out 3
       have hfz4 := blk_frozen B12.out 4
       have hfz5 := blk_frozen B12.out 5
       have hfz6 := blk_frozen B12.out 6
       have hfz7 := blk_frozen B12.out 7
       go_wp2_with (fail)
       go_roundg k1
       case measure => have := HJ.out; omega
       case rel =>
        refine ⟨n + 1, _, _, _, _, _, _, _, _, by simp, ⟨by have := HJ.out; omega⟩, ⟨?_⟩, ⟨rv8_far B3.out M3.out _ _ _ _ _ _ _ _⟩, ⟨rv8_far B5.out M5.out _ _ _ _ _ _ _ _⟩, ⟨rv8_far B6.out M6.out _ _ _ _ _ _ _ _⟩, ⟨rv8_far B7.out M7.out _ _ _ _ _ _ _ _⟩, ⟨rv8_blk B12.out _ _ _ _ _ _ _ _⟩, ⟨rv8_below HB.out G12.out _ _ _ _ _ _ _ _⟩⟩
        have hch : Ch a4 a5 a6 = ch := by unfold Ch; rw [← not_comm]; exact HCH.out
        have e1 : (a7 + S1 a4 + Ch a4 a5 a6 + kk + ww + S0 a0 + Mj a0 b1 a2) % 4294967296 = (one + (s0 + Mj a0 b1 a2)) % 4294967296 := by
         have h1 := HONE.out
         rw [HS1.out, HS0.out, hch]; omega
        have e4 : (a3 + (a7 + S1 a4 + Ch a4 a5 a6 + kk + ww)) % 4294967296 = (a3 + one) % 4294967296 := by
         have h1 := HONE.out
         rw [HS1.out, hch]; omega
        show rnd (rnds h0 (sch a1 48) n) (kWords.getD n 0) ((sch a1 48).getD n 0) = _
        rw [HRN.out, HK.out, HKK.out, HWW.out]
        show [(a7 + S1 a4 + Ch a4 a5 a6 + kk + ww + S0 a0 + Mj a0 b1 a2) % 4294967296, a0, b1, a2, (a3 + (a7 + S1 a4 + Ch a4 a5 a6 + kk + ww)) % 4294967296, a4, a5, a6] = _
        rw [e1, e4]
        rfl
      | zero =>
       obtain rfl : n = 64 := by have := HJ.out; omega
       clear HJ
       go_wp2_with (fail)
       go_loopg [20] 8 (fun kq v20 w' => ∃ (n : Nat), v20 = .int .i64 n ∧ Aside0 (n + kq = 8) ∧ Aside0 (w'.heap[g3]? = some (.cells (U (outs h0 [a0, b1, a2, a3, a4, a5, a6, a7] n)) 127 (0, 0))) ∧ Aside0 (w'.heap[g6]? = some (.cells (U (List.replicate 8 0)) 127 (0, 0))) ∧ Aside0 (w'.heap[g12]? = some (.cells (U [a0, b1, a2, a3, a4, a5, a6, a7]) 127 (0, 0))) ∧ Aside0 (Below w.heap.size w w'))
       case atStart => exact ⟨0, rfl, ⟨rfl⟩, B3, B6, B12, HB⟩
       case round =>
        clear B3 B5 B6 B7 B12 HB
        obtain ⟨n, rfl, HJ, B3, B6, B12, HB⟩ := hrel
        cases gk with
        | succ k1 =>
         have hn : n < 8 := by have := HJ.out; omega
         have hjl : decide ((n : Int) < 8) = true := decide_eq_true (by omega)
         have hcv := U_cell B12.out n (by simp; omega)
         have hco := U_cell B3.out n (by rw [outs_len _ _ _ H8.out (by omega)]; exact hn)
         rw [outs_getD _ _ _ H8.out hn] at hco
         have hfz := blk_frozen B3.out n
         obtain ⟨xo, hxo⟩ : ∃ xo, h0.getD n 0 = xo := ⟨_, rfl⟩
         obtain ⟨xv, hxv⟩ : ∃ xv, [a0, b1, a2, a3, a4, a5, a6, a7].getD n 0 = xv := ⟨_, rfl⟩
         rw [hxo] at hco
         rw [hxv] at hcv
         have HXO := Aside0.mk hxo
         have HXV := Aside0.mk hxv
         clear hxo hxv
         go_wp2_with (fail)
         go_region
         go_wp2
         go_roundg k1
         case measure => have := HJ.out; omega
         case rel =>
          refine ⟨n + 1, by simp, ⟨by have := HJ.out; omega⟩, ⟨?_⟩, ⟨?_⟩, ⟨?_⟩, ⟨?_⟩⟩
          ·rw [← outs_set h0 [a0, b1, a2, a3, a4, a5, a6, a7] n H8.out hn, HXO.out, HXV.out]
           exact blk_drew (U_put B3.out n _)
          ·exact blk_drew (blk_far B6.out (fun e_ => N36.out e_.symm) _)
          ·exact blk_drew (blk_far B12.out (fun e_ => M3.out e_.symm) _)
          ·exact below_drew1 (below_set HB.out G3.out)
        | zero =>
         obtain rfl : n = 8 := by have := HJ.out; omega
         go_wp2_with (first
          | ((with_reducible refine gate_dst (N := 223) rfl ?_); refine load_row rfl rfl (t := 127) (p := .tmp 3) rfl g3 rfl B3.out und127 (by rw [U_size, outs_len _ _ _ H8.out (Nat.le_refl _)]; exact info127) ?_)
          | ((with_reducible refine gate_store (t := 127) (p := 6) (v := .tmp 223) rfl ?_); refine store_row rfl rfl rfl g6 rfl (cs := U (outs h0 [a0, b1, a2, a3, a4, a5, a6, a7] 8)) (old := U (List.replicate 8 0)) rfl B6.out (by rw [U_size, outs_len _ _ _ H8.out (Nat.le_refl _)]; exact info127) (by rw [U_size, U_size, outs_len _ _ _ H8.out (Nat.le_refl _)]; rfl) (U_one _) ?_; intro w14 e14))
         refine bodyPost_ret (results_cell_row rfl _ _ g6 127 (U (outs h0 [a0, b1, a2, a3, a4, a5, a6, a7] 8)) (0, 0) _ rfl (setRow_heap _ _ _ _ _ _ B6.out) und127 rfl (by rw [U_size, outs_len _ _ _ H8.out (Nat.le_refl _)]; exact info127)) rfl ⟨?_, ?_⟩
         ·unfold shaB
          rw [HRN.out]
         ·exact below_setRow HB.out G6.out _
end Go.Proofs.YtcbjlcgfhbfneaaGreatDoor.PH

namespace Go.Proofs.YtcbjlcgfhbfneaaGreatDoor.PH
open Go.RowKit Go.Proofs.YtcbjlcgfhbfneaaGreatDoorW.PrintWords Go.Proofs.YtcbjlcgfhbfneaaGreatDoorW.PrintLast Go.Proofs.YtcbjlcgfhbfneaaGreatDoorW.PrintMore
theorem append_room1 {P : Program} (w : World) {t ty e : TypeId} {i : TypeInfo} (ht : P.underlying t = some (.slice e)) (hi : P.info? e = some i) (hs : i.size = 1) (g n cap : Nat) (cur : Array Value) (fr : Nat × Nat) (hg : w.heap[g]? = some (.cells cur e fr))
 (hfz : w.frozen? ⟨g, n, none⟩ = false) (a : Addr) (c : Nat) (v : Value) (hv : w.cell? a = some v) (ho : v.oneCell' = true) (hroom : n + 1 ≤ cap) (hfit : n < cur.size) :
 (Builtin.append_ #[t, t] ty #[.slice (some ⟨g, 0, none⟩) n cap, .slice (some a) 1 c]).run P w = .ok (.slice (some ⟨g, 0, none⟩) (n + 1) cap) (w.setCell ⟨g, n, none⟩ v) := by
 have ha : a.add 0 = a := by unfold Addr.add; simp
 have hf := run_firstCells_some (P := P) w i.size 1 a 1 c [v] (by simp [hs]) (fun j u hj => by
  cases j with
  | zero => simp at hj; subst hj; rw [ha]; exact hv
  | succ j => simp at hj)
 have hst := run_storeCells_cells (P := P) g n [v] 0 w (fun j hj => by
  have : j = 0 := by simpa using hj
  subst this
  rw [cell_of_row w g _ cur e fr hg]; simp; exact hfit) (fun j hj => by
  have : j = 0 := by simpa using hj
  subst this
  simpa using hfz) (fun u hu => by simp at hu; subst hu; exact ho)
 simp only [Nat.add_zero, World.setCells] at hst
 rw [hs] at hf
 simp [Builtin.append_, run_underlying ht, sizeOf, typeInfo, hi, Builtin.lenOf, hroom, hf, Addr.add_lit, hst, hs]
def MB (w : World) (base : Nat) (v : Value) (xs : List Int) : Prop :=
 ∃ g cap cur fr, v = .slice (some ⟨g, 0, none⟩) xs.length cap ∧ base ≤ g ∧ w.heap[g]? = some (.cells cur 5 fr) ∧ (fr = (0, 0) ∨ fr = (cur.size, cur.size + 1)) ∧ xs.length ≤ cap ∧ cap ≤ maxLen ∧ cur.size = cap ∧ cur.toList.take xs.length = xs.map (Value.int .u8)
theorem blk_set_any {w : World} {g t : Nat} {cs : Array Value} {fr : Nat × Nat} (h : w.heap[g]? = some (.cells cs t fr)) (i : Nat) (v : Value) : (w.setCell ⟨g, i, none⟩ v).heap[g]? = some (.cells (cs.setIfInBounds i v) t fr) := by
 simp [World.setCell, Array.getElem?_modify, h]
theorem MB_append {w0 w : World} {v : Value} {xs : List Int} {ty : TypeId} (h : MB w w0.heap.size v xs) (hb : Below w0.heap.size w0 w) (a : Addr) (x : Int) (hv : w.cell? a = some (.int .u8 x)) (hl : xs.length + 1 ≤ 1073741925) :
 ∃ v' w', (Builtin.append_ #[94, 94] ty #[v, .slice (some a) 1 1]).run Tryz.prog w = .ok v' w' ∧ MB w' w0.heap.size v' (xs ++ [x]) ∧ Below w0.heap.size w0 w' := by
 have hbase := below_size hb
 obtain ⟨g, cap, cur, fr, rfl, hg, hh, hfr, hn, hm, hcs, ht⟩ := h
 obtain ⟨i, hi, hz⟩ := Option.map_eq_some_iff.1 info5
 have hz0 : i.zero = some (.int .u8 0) := by injection hz
 have hz1 : i.size = 1 := by simp at hz; exact hz.2.1
 have hz2 : i.bytes = 1 := by simp at hz; exact hz.2.2
 by_cases hroom : xs.length + 1 ≤ cap
 ·have hfz : w.frozen? ⟨g, xs.length, none⟩ = false := by
   unfold World.frozen?
   rcases hfr with rfl | rfl
   ·simp [hh]
   ·simp [hh]; omega
  refine ⟨_, _, append_room1 w Tryz.underlying94 hi hz1 g xs.length cap cur fr hh hfz a 1 _ hv rfl hroom (by omega), ⟨g, cap, _, fr, by simp, hg, blk_set_any hh _ _, ?_, by simpa using hroom, hm, by simpa using hcs, ?_⟩, below_set hb hg⟩
  ·simpa using hfr
  ·rw [List.map_append, List.length_append]
   have hl : (xs.map (Value.int .u8)).length = xs.length := by simp
   show List.take (xs.length + 1) _ = _
   rw [Array.toList_setIfInBounds, List.take_add_one, List.take_set_of_le (Nat.le_refl _), ht]
   have : (cur.toList.set xs.length (Value.int .u8 x))[xs.length]? = some (Value.int .u8 x) := by
    rw [List.getElem?_set_self (by simp; omega)]
   simp [this]
 ·have holds : ∀ j u, (xs.map (Value.int .u8))[j]? = some u → w.cell? ((⟨g, 0, none⟩ : Addr).add j) = some u := by
   intro j u hu
   have hadd : (⟨g, 0, none⟩ : Addr).add j = ⟨g, j, none⟩ := by unfold Addr.add; split <;> simp_all
   rw [hadd, cell_of_row w g j cur 5 fr hh]
   rw [← ht, List.getElem?_take] at hu
   split at hu
   ·simpa using hu
   ·cases hu
  have ha : a.add 0 = a := by unfold Addr.add; simp
  have hr := run_append_grow (P := Tryz.prog) w 94 ty 5 i (.int .u8 0) Tryz.underlying94 hi hz0 ⟨g, 0, none⟩ xs.length cap (xs.map (Value.int .u8)) (by simp [hz1]) holds a 1 1 [.int .u8 x] (by simp [hz1]) (fun j u hj => by
   cases j with
   | zero => simp at hj; subst hj; rw [ha]; exact hv
   | succ j => simp at hj) (by omega) (by omega) (growslice_fits (by omega) (by rw [hz2]; omega))
  have hge := grownCap_ge w (xs.length + 1) cap 5
  have hcm : grownCap w (xs.length + 1) cap 5 ≤ maxLen := grownCap_le_maxLen w _ cap 5 (by simp only [maxLen]; omega)
  refine ⟨_, _, hr, ⟨w.heap.size, _, _, (0, 0), by simp, hbase, heap_alloc_new w.drew _, .inl rfl, by simpa using hge, hcm, ?_, ?_⟩, below_alloc (below_drew1 hb) _⟩
  ·simp only [Array.size_append, List.size_toArray, size_zeroCells]
   simp [Value.cells]
   omega
  ·simp only [Array.toList_append, List.append_assoc]
   rw [← List.append_assoc, List.map_append, List.length_append]
   exact List.take_left' (by simp)
theorem bytesCells_list (w : World) (s : ByteArray) : (Lib.bytesCells w 5 s).toList = (bytesOf s).map (Value.int .u8) ++ List.replicate (grownCap w s.size 0 5 - s.size) (.int .u8 0) := by
 simp [Lib.bytesCells, bytesOf]
theorem MB_bytes (w0 w : World) (s : ByteArray) (hs : s.size ≤ 9223372036854775807) (hb : Below w0.heap.size w0 w) :
 MB (Lib.bytesWorld w 5 s) w0.heap.size (.slice (some ⟨w.heap.size, 0, none⟩) s.size (grownCap w s.size 0 5)) (bytesOf s) ∧ Below w0.heap.size w0 (Lib.bytesWorld w 5 s) := by
 have hge := grownCap_ge w s.size 0 5
 have hl := bytesOf_length s
 refine ⟨⟨w.heap.size, _, _, _, by rw [hl], below_size hb, Lib.bytesWorld_at_new w 5 s, .inr rfl, by rw [hl]; exact hge, grownCap_le_maxLen w _ 0 5 (by simp only [maxLen]; omega), ?_, ?_⟩, bytes_below hb (below_size hb) 5 s⟩
 ·rw [← Array.length_toList, bytesCells_list]
  simp [hl]; omega
 ·rw [bytesCells_list]
  exact List.take_left' (by simp)
theorem MB_reads {w : World} {base : Nat} {v : Value} {xs : List Int} (h : MB w base v xs) : ∃ A c, v = .slice A xs.length c ∧ ReadsInt w .u8 A xs.length xs := by
 obtain ⟨g, cap, cur, fr, rfl, hg, hh, hfr, hn, hm, hcs, ht⟩ := h
 refine ⟨_, _, rfl, rfl, Nat.le_trans hn hm, fun _ => ⟨_, rfl, fun j hj => ?_⟩⟩
 rw [show (⟨g, 0, none⟩ : Addr).add j = ⟨g, j, none⟩ by unfold Addr.add; split <;> simp_all, cell_of_row w g j cur 5 fr hh]
 have := congrArg (fun l => l[j]?) ht
 simp only [List.getElem?_take, if_pos hj] at this
 rw [← Array.getElem?_toList, this]
 simp [List.getElem?_eq_getElem hj]
section
variable {ops : Array Oper} {rest : List Oper} {o : Oper} {a : Act} {Q : Exit → Act → World → Prop} {W : World}
theorem MB_event {w0 : World} (hgd : o.guard = none) (s x : Operand) (ho : o.op = .call { callee := .builtin .append, args := #[s, x], argTypes := #[94, 94] })
 {v : Value} {xs : List Int} (hs : a.eval s = v) (h : MB W w0.heap.size v xs) (hb : Below w0.heap.size w0 W) (ad : Addr) (y : Int) (hx : a.eval x = .slice (some ad) 1 1) (hv : W.cell? ad = some (.int .u8 y)) (hl : xs.length + 1 ≤ 1073741925)
 (hk : ∀ v' w', MB w' w0.heap.size v' (xs ++ [y]) → Below w0.heap.size w0 w' → wpList Tryz.prog ops Q rest (a.put o.dst v') w') : wpList Tryz.prog ops Q (o :: rest) a W := by
 obtain ⟨v', w', hr, h2, h3⟩ := MB_append (ty := o.type) h hb ad y hv hl
 refine wpList_plain hgd fun K hK => ?_
 unfold Oper.wp execOp
 simp only [ho, resolve, invoke, builtin, Sem.run_bind, Sem.run_pure, Result.andThen_ok, List.map_toArray, List.map_cons, List.map_nil, hs, hx, hr]
 exact hK _ _ (hk v' w' h2 h3)
theorem MB_conv {w0 : World} (hgd : o.guard = none) {N : Tmp} (_hd : o.dst = some N) (x : Operand) (ho : o.op = .convert 9 94 x) (s : ByteArray) (hx : a.eval x = .string s) (hs : s.size ≤ 9223372036854775807) (hb : Below w0.heap.size w0 W)
 (hk : ∀ v' w', MB w' w0.heap.size v' (bytesOf s) → Below w0.heap.size w0 w' → wpList Tryz.prog ops Q rest (a.put o.dst v') w') : wpList Tryz.prog ops Q (o :: rest) a W := by
 obtain ⟨h1, h2⟩ := MB_bytes w0 W s hs hb
 refine Kd.event_run hgd ?_ (hk _ _ h1 h2)
 unfold execOp
 rw [ho]
 show (do let y ← convert 9 94 (a.eval x); pure (Next.value y) : Sem Next).run Tryz.prog W = _
 rw [hx, Sem.run_bind, print_bytes (P := Tryz.prog) 9 94 5 Tryz.underlying9 Tryz.underlying94 Tryz.underlying5 s W]
 rfl
end
theorem MB_alloc {w : World} {base : Nat} {v : Value} {xs : List Int} (h : MB w base v xs) (o : Obj) : MB (w.alloc o) base v xs := by
 obtain ⟨g, cap, cur, fr, e, hg, hh, r⟩ := h
 refine ⟨g, cap, cur, fr, e, hg, ?_, r⟩
 exact blk_alloc hh o
theorem MB_val {w : World} {base n : Nat} {v : Value} {xs : List Int} (h : MB w base v xs) (hn : xs.length = n) : ∃ g c, v = .slice (some ⟨g, 0, none⟩) n c := by
 obtain ⟨g, cap, cur, fr, e, _⟩ := h
 exact ⟨g, cap, by rw [e, hn]⟩
theorem new_cell (w : World) (v : Value) : (w.alloc (.cells #[v] 5)).cell? ⟨w.heap.size, 0, none⟩ = some v := by
 rw [cell_of_row _ _ 0 #[v] 5 (0, 0) (blk_new w _)]; rfl
def padZ (n : Nat) : Nat := (64 - (n + 9) % 64) % 64
def padBytes (a0 : ByteArray) (j : Nat) : List Int := bytesOf a0 ++ 128 :: (List.replicate (padZ a0.size) 0 ++ (List.range j).map (fun q => 8 * (a0.size : Int) / 2 ^ (8 * (7 - q)) % 256))
attribute [local go_sem] max2_int min2_int max_two min_two max_three min_three max_four min_four
set_option linter.unusedVariables false
set_option linter.unusedSimpArgs false
set_option maxHeartbeats 2000000 in
set_option maxRecDepth 100000 in
theorem pad_calls (a0 : ByteArray) (w : World) (hs : a0.size ≤ 1073741824) :
 Calls Tryz.prog 69 #[.string a0] w fun e w' => e = .returned (.string (strOfNums (padBytes a0 8))) ∧ Below w.heap.size w w' := by
 have HB := Aside0.mk (Below.refl w.heap.size w)
 have HS := Aside0.mk hs
 have hl := bytesOf_length a0
 have HL := Aside0.mk hl
 clear hs hl
 go_enter Tryz.func69, Tryz.ntmps69
 go_wp2_with (first
  | ((with_reducible refine gate_dst (N := 7) rfl ?_); refine MB_conv (w0 := w) rfl (N := 7) rfl (.tmp 6) rfl a0 rfl (by have := HS.out; omega) HB.out ?_; intro v1 w1 hm hb; clear HB; have HM := Aside0.mk hm; have HB := Aside0.mk hb; clear hm hb)
  | ((with_reducible refine gate_builtin (b := .append) (xs := #[.tmp 8, .tmp 9]) rfl ?_); refine MB_event (w0 := w) rfl (.tmp 8) (.tmp 9) rfl rfl (MB_alloc HM.out _) (below_alloc HB.out _) _ 128 rfl (new_cell _ _) (by have := HS.out; have := HL.out; omega) ?_; intro v2 w2 hm hb; clear HB HM; have HM := Aside0.mk hm; have HB := Aside0.mk hb; clear hm hb))
 go_loopg [3] (padZ a0.size) (fun kq v3 w' => ∃ (j g c : Nat), v3 = .slice (some ⟨g, 0, none⟩) (a0.size + 1 + j) c ∧ Aside0 (j + kq = padZ a0.size) ∧ Aside0 (MB w' w.heap.size v3 (bytesOf a0 ++ 128 :: List.replicate j 0)) ∧ Aside0 (Below w.heap.size w w'))
 case atStart =>
  obtain ⟨g, c, e⟩ := MB_val HM.out (n := a0.size + 1 + 0) (by have := HL.out; simp; omega)
  exact ⟨0, g, c, e, ⟨by omega⟩, HM, HB⟩
 case round =>
  clear HB HM
  obtain ⟨j, g, c, rfl, HJ, HM, HB⟩ := hrel
  cases gk with
  | succ k1 =>
   have hne : ((((a0.size : Int) + 1 + (j : Int)) % 64) != 56) = true := by
    have h1 := HJ.out
    unfold padZ at h1
    have : ((a0.size : Int) + 1 + (j : Int)) % 64 ≠ 56 := by omega
    simpa using this
   go_wp2_with (first
    | ((with_reducible refine gate_builtin (b := .append) (xs := #[.tmp 15, .tmp 16]) rfl ?_); refine MB_event (w0 := w) rfl (.tmp 15) (.tmp 16) rfl rfl (MB_alloc HM.out _) (below_alloc HB.out _) _ 0 rfl (new_cell _ _) (by have := HS.out; have := HL.out; have := HJ.out; unfold padZ at this; simp; omega) ?_; intro v2' w2' hm hb; clear HB HM; have HM := Aside0.mk hm; have HB := Aside0.mk hb; clear hm hb))
   go_roundg k1
   case measure => have := HJ.out; omega
   case rel =>
    have hm := HM.out
    rw [List.append_assoc, List.cons_append, ← List.replicate_succ'] at hm
    obtain ⟨g', c', e'⟩ := MB_val hm (n := a0.size + 1 + (j + 1)) (by have := HL.out; simp; omega)
    exact ⟨j + 1, g', c', e', ⟨by have := HJ.out; omega⟩, ⟨hm⟩, HB⟩
  | zero =>
   have hne : ((((a0.size : Int) + 1 + (j : Int)) % 64) != 56) = false := by
    have h1 := HJ.out
    unfold padZ at h1
    have : ((a0.size : Int) + 1 + (j : Int)) % 64 = 56 := by omega
    simpa using this
   have e8 : IntKind.i64.wrap (8 * (a0.size : Int)) = 8 * (a0.size : Int) := by rw [i64_w, w64 (by have := HS.out; omega) (by have := HS.out; omega)]
   have hj : j = padZ a0.size := by have := HJ.out; omega
   subst hj
   clear HJ
   go_wp2_with (fail)
   clear hne
   go_loopg [5, 3] 8 (fun kq v5 v3 w' => ∃ (j g c : Nat), v5 = .int .i64 (7 - (j : Int)) ∧ v3 = .slice (some ⟨g, 0, none⟩) (a0.size + 1 + padZ a0.size + j) c ∧ Aside0 (j + kq = 8) ∧ Aside0 (MB w' w.heap.size v3 (padBytes a0 j)) ∧ Aside0 (Below w.heap.size w w'))
   case atStart => exact ⟨0, g, c, rfl, rfl, ⟨rfl⟩, ⟨by have := HM.out; simpa [padBytes] using this⟩, HB⟩
   case round =>
    clear HB HM
    obtain ⟨j, g, c, rfl, rfl, HJ, HM, HB⟩ := hrel
    cases gk with
    | succ k1 =>
     have hj8 : j < 8 := by have := HJ.out; omega
     have hge : decide ((j : Int) ≤ 7) = true := decide_eq_true (by omega)
     go_wp2_with (first
      | ((with_reducible refine gate_builtin (b := .append) (xs := #[.tmp 25, .tmp 32]) rfl ?_); refine MB_event (w0 := w) rfl (.tmp 25) (.tmp 32) rfl rfl (MB_alloc HM.out _) (below_alloc HB.out _) _ (8 * (a0.size : Int) / 2 ^ (8 * (7 - j)) % 256) rfl (new_cell _ _) (by have := HS.out; have := HL.out; have : padZ a0.size < 64 := (by unfold padZ; omega); simp [padBytes]; omega) ?_; intro v2' w2' hm hb; clear HB HM; have HM := Aside0.mk hm; have HB := Aside0.mk hb; clear hm hb))
     go_roundg k1
     case measure => have := HJ.out; omega
     case rel =>
      have hm := HM.out
      have e_ : padBytes a0 j ++ [8 * (a0.size : Int) / 2 ^ (8 * (7 - j)) % 256] = padBytes a0 (j + 1) := by
       unfold padBytes
       rw [List.range_succ, List.map_append]
       simp
      rw [e_] at hm
      obtain ⟨g', c', e'⟩ := MB_val hm (n := a0.size + 1 + padZ a0.size + (j + 1)) (by have := HL.out; simp [padBytes]; omega)
      exact ⟨j + 1, g', c', by simp; omega, e', ⟨by have := HJ.out; omega⟩, ⟨hm⟩, HB⟩
    | zero =>
     obtain rfl : j = 8 := by have := HJ.out; omega
     obtain ⟨A, c2, e2, hr⟩ := MB_reads HM.out
     have kc := string_of_reads (P := Tryz.prog) (c := c2) Tryz.underlying94 Tryz.underlying5 Tryz.underlying9 hr
     go_wp2_with (fail)
     go_ret
     exact ⟨rfl, HB.out⟩
end Go.Proofs.YtcbjlcgfhbfneaaGreatDoor.PH

namespace Go.Proofs.YtcbjlcgfhbfneaaGreatDoor.PH
open Go.RowKit Go.Proofs.YtcbjlcgfhbfneaaGreatDoorW.PrintWords Go.Proofs.YtcbjlcgfhbfneaaGreatDoorW.PrintLast Go.Proofs.YtcbjlcgfhbfneaaGreatDoorW.PrintMore
attribute [local go_sem] max2_int min2_int max_two min_two max_three min_three max_four min_four
set_option linter.unusedVariables false
set_option linter.unusedSimpArgs false
theorem still_row {P : Program} {ops : Array Oper} {rest : List Oper} {o : Oper} {a : Act} {Q : Act → Prop} {W : World} (hw : Region.wanted o (yielded ops a.tmps) = true) {t : TypeId} {p : Operand} (ho : o.op = .load t p) (g : Nat) (hp : a.eval p = .pointer (some ⟨g, 0, none⟩)) {cs : Array Value} {t' : TypeId} {fr : Nat × Nat} (hg : W.heap[g]? = some (.cells cs t' fr)) {n : Nat} {e : TypeId} (hu : P.underlying t = some (.array n e)) (hi : (P.info? t).map (·.size) = some cs.size)
 (h : wpStill P ops W Q rest (a.put o.dst (.agg cs))) : wpStill P ops W Q (o :: rest) a := by
 refine wpStill_step fun K hK => ?_
 rw [if_pos hw]
 have hr : (execOp a.eval o).run P W = .ok (.value (.agg cs)) W := by
  unfold execOp
  rw [ho]
  show (do let x ← Instr.loadAt t (a.eval p); pure (Next.value x) : Sem Next).run P W = _
  rw [hp]
  simp only [Instr.loadAt, Instr.sureAddr, Sem.run_bind, Sem.run_pure, Result.andThen, run_loadVar_row W g t' t cs fr _ hg hu rfl hi]
 unfold Oper.still
 rw [hr, Oper.stillUpon_value]
 exact hK _ h
theorem hFirst_len : hFirst.length = 8 := rfl
theorem shaB_len (l : List Int) (t : ByteArray) (h : l.length = 8) : (shaB l t).length = 8 := outs_len _ _ _ h (Nat.le_refl _)
def hs (p : ByteArray) : Nat → List Int
 | 0 => hFirst
 | j + 1 => shaB (hs p j) (p.extract (64 * j) (64 * j + 64))
theorem hs_len (p : ByteArray) : ∀ j, (hs p j).length = 8
 | 0 => rfl
 | j + 1 => shaB_len _ _ (hs_len p j)
def padS (a0 : ByteArray) : ByteArray := strOfNums (padBytes a0 8)
def blocks (n : Nat) : Nat := (n + 72) / 64
theorem padBytes_len (a0 : ByteArray) : (padBytes a0 8).length = 64 * blocks a0.size := by
 simp [padBytes, bytesOf_length, blocks, padZ]; omega
theorem strOfNums_size (l : List Int) : (strOfNums l).size = l.length := by
 simp [strOfNums, ByteArray.size]
theorem padS_size (a0 : ByteArray) : (padS a0).size = 64 * blocks a0.size := by
 unfold padS; rw [strOfNums_size, padBytes_len]
theorem kWords_len : kWords.length = 64 := by decide
def f4 (x : Int) : List Int := [x / 16777216 % 256, x / 65536 % 256, x / 256 % 256, x % 256]
theorem f4_len (l : List Int) : (l.flatMap f4).length = 4 * l.length := by
 induction l with
 | nil => rfl
 | cons x l ih => rw [List.flatMap_cons, List.length_append, ih]; simp [f4]; omega
def outB (l : List Int) (n : Nat) : List Int := (l.take n).flatMap f4 ++ List.replicate (32 - 4 * n) 0
theorem outB_len (l : List Int) (n : Nat) (h : l.length = 8) (hn : n ≤ 8) : (outB l n).length = 32 := by
 unfold outB
 rw [List.length_append, f4_len, List.length_replicate, List.length_take]
 omega
theorem outB_next (l : List Int) (n : Nat) (h : l.length = 8) (hn : n < 8) : ((((outB l n).set (4 * n) (l.getD n 0 / 16777216 % 256)).set (4 * n + 1) (l.getD n 0 / 65536 % 256)).set (4 * n + 2) (l.getD n 0 / 256 % 256)).set (4 * n + 3) (l.getD n 0 % 256) = outB l (n + 1) := by
 have h1 : ((l.take n).flatMap f4).length = 4 * n := by rw [f4_len, List.length_take]; omega
 unfold outB
 rw [show 32 - 4 * n = (32 - 4 * (n + 1)) + 1 + 1 + 1 + 1 by omega]
 simp only [List.replicate_succ]
 rw [List.set_append_right _ _ (by omega), h1, Nat.sub_self, List.set_cons_zero, List.set_append_right _ _ (by omega), h1, show 4 * n + 1 - 4 * n = 1 by omega,
  List.set_append_right _ _ (by omega), h1, show 4 * n + 2 - 4 * n = 2 by omega, List.set_append_right _ _ (by omega), h1, show 4 * n + 3 - 4 * n = 3 by omega]
 rw [List.take_succ_eq_append_getElem (by omega), List.flatMap_append, List.append_assoc]
 simp [List.getD, f4, show n < l.length by omega]
set_option maxHeartbeats 2000000 in
set_option maxRecDepth 100000 in
theorem digest_calls (a0 : ByteArray) (w : World) (hs0 : a0.size ≤ 1073741824) :
 Calls Tryz.prog 45 #[.string a0] w fun e w' => e = .returned (.string (strOfNums ((hs (padS a0) (blocks a0.size)).flatMap f4))) ∧ Below w.heap.size w w' := by
 have HB := Aside0.mk (Below.refl w.heap.size w)
 have HS := Aside0.mk hs0
 clear hs0
 go_enter Tryz.func45, Tryz.ntmps45
 go_wp2_with (first
  | (go_at_call 67; (with_reducible refine (first_calls _).mono ?_); rintro e w1 ⟨rfl, hb⟩; have n1_ := Aside0.mk (below_step HB.out hb); clear HB; have HB := n1_; clear n1_ hb)
  | ((with_reducible refine gate_dst (N := 3) rfl ?_); refine box_event rfl (N := 3) rfl (cs := U (List.replicate 8 0)) (t := 127) (by kernel_rfl) ?_; intro g3 hg w3 hbox hb; have B3 := Aside0.mk hbox; have G3 := Aside0.mk (by rw [hg]; exact below_size HB.out : w.heap.size ≤ g3); have n1_ := Aside0.mk (below_step HB.out hb); clear HB; have HB := n1_; clear n1_ hbox hb hg)
  | ((with_reducible refine gate_store (t := 127) (p := 3) (v := .tmp 9) rfl ?_); refine store_row rfl rfl rfl g3 rfl (cs := U hFirst) (old := U (List.replicate 8 0)) rfl B3.out (by rw [U_size]; exact info127) rfl (U_one _) ?_; intro w4 e4; have n0_ := Aside0.mk (show w4.heap[g3]? = some (.cells (U hFirst) 127 (0, 0)) by rw [e4]; exact setRow_heap _ _ _ _ _ _ B3.out); have n1_ := Aside0.mk (show Below w.heap.size w w4 by rw [e4]; exact below_setRow HB.out G3.out _); clear HB B3 e4; have B3 := n0_; have HB := n1_; clear n0_ n1_)
  | (go_at_call 68; (with_reducible refine (keys_calls _).mono ?_); rintro e w5 ⟨rfl, hb⟩; have n1_ := Aside0.mk (below_step HB.out hb); have n2_ := Aside0.mk (blk_below B3.out hb); clear HB B3; have HB := n1_; have B3 := n2_; clear n1_ n2_ hb)
  | ((with_reducible refine gate_dst (N := 4) rfl ?_); refine box_event rfl (N := 4) rfl (cs := U (List.replicate 64 0)) (t := 129) (by kernel_rfl) ?_; intro g4 hg w6 hbox hb; have B4 := Aside0.mk hbox; have G4 := Aside0.mk (by rw [hg]; exact below_size HB.out : w.heap.size ≤ g4); have n1_ := Aside0.mk (below_step HB.out hb); have n2_ := Aside0.mk (blk_below B3.out hb); have N34 := Aside0.mk (by rw [hg]; exact Nat.ne_of_lt (blk_lt B3.out) : g3 ≠ g4); clear HB B3; have HB := n1_; have B3 := n2_; clear n1_ n2_ hbox hb hg)
  | ((with_reducible refine gate_store (t := 129) (p := 4) (v := .tmp 10) rfl ?_); refine store_row rfl rfl rfl g4 rfl (cs := U kWords) (old := U (List.replicate 64 0)) rfl B4.out (by rw [U_size]; exact info129) rfl (U_one _) ?_; intro w7 e7; have n0_ := Aside0.mk (show w7.heap[g4]? = some (.cells (U kWords) 129 (0, 0)) by rw [e7]; exact setRow_heap _ _ _ _ _ _ B4.out); have n1_ := Aside0.mk (show Below w.heap.size w w7 by rw [e7]; exact below_setRow HB.out G4.out _); have n2_ := Aside0.mk (show w7.heap[g3]? = some (.cells (U hFirst) 127 (0, 0)) by rw [e7, setRow_other _ _ _ _ N34.out]; exact B3.out); clear HB B3 B4 e7; have B4 := n0_; have HB := n1_; have B3 := n2_; clear n0_ n1_ n2_)
  | (go_at_call 69; (with_reducible refine (pad_calls _ _ HS.out).mono ?_); rintro e w8 ⟨rfl, hb⟩; have n1_ := Aside0.mk (below_step HB.out hb); have n2_ := Aside0.mk (blk_below B3.out hb); have n3_ := Aside0.mk (blk_below B4.out hb); clear HB B3 B4; have HB := n1_; have B3 := n2_; have B4 := n3_; clear n1_ n2_ n3_ hb))
 rw [show strOfNums (padBytes a0 8) = padS a0 from rfl]
 have hps := padS_size a0
 obtain ⟨nb, hnb⟩ : ∃ nb, blocks a0.size = nb := ⟨_, rfl⟩
 obtain ⟨p, hp⟩ : ∃ p, padS a0 = p := ⟨_, rfl⟩
 have hnbl : nb ≤ 16777218 := by rw [← hnb]; unfold blocks; have := HS.out; omega
 rw [hp, hnb] at hps
 rw [hp]
 have HPS := Aside0.mk hps
 have HNB := Aside0.mk hnbl
 clear hps hnbl
 go_loopg [6] nb (fun kq v6 w' => ∃ (j : Nat), v6 = .int .i64 (64 * (j : Int)) ∧ Aside0 (j + kq = nb) ∧ Aside0 (w'.heap[g3]? = some (.cells (U (hs p j)) 127 (0, 0))) ∧ Aside0 (w'.heap[g4]? = some (.cells (U kWords) 129 (0, 0))) ∧ Aside0 (Below w.heap.size w w'))
 case atStart => exact ⟨0, rfl, ⟨by omega⟩, B3, B4, HB⟩
 case round =>
  clear HB B3 B4
  obtain ⟨j, rfl, HJ, B3, B4, HB⟩ := hrel
  have HSZ : (p.size : Int) = 64 * (nb : Int) := by have := HPS.out; omega
  cases gk with
  | succ k1 =>
   have hjl : decide (j < nb) = true := decide_eq_true (by have := HJ.out; omega)
   go_wp2_with (fail)
   have e64 : IntKind.i64.wrap (64 * (j : Int) + 64) = 64 * (j : Int) + 64 := by rw [i64_w, w64 (by have := HJ.out; have := HNB.out; omega) (by have := HJ.out; have := HNB.out; omega)]
   have lo0 : (0 : Int) ≤ 64 * (j : Int) := by omega
   have lo1 : 64 * (j : Int) ≤ 64 * (j : Int) + 64 := by omega
   have lo2 : 64 * (j : Int) + 64 ≤ (p.size : Int) := by have := HJ.out; omega
   have ks : ∀ W : World, (Instr.slice 9 (.string p) (some (.int .i64 (64 * (j : Int)))) (some (.int .i64 (64 * (j : Int) + 64))) none).run Tryz.prog W = .ok (.string (p.extract (64 * j) (64 * j + 64))) W := by
    intro W
    rw [run_slice_string W 9 p _ _ _ _ Tryz.underlying9 lo0 lo1 lo2, show ((64 * (j : Int)).toNat) = 64 * j by omega, show ((64 * (j : Int) + 64).toNat) = 64 * j + 64 by omega]
   have hex : (p.extract (64 * j) (64 * j + 64)).size = 64 := by rw [ByteArray.size_extract]; omega
   have HEX := Aside0.mk hex
   clear hex
   refine wp_region_still_tail 7 (by kernel_rfl) (by kernel_rfl) ?_
   simp only [List.take_succ_cons, List.take_zero, List.drop_succ_cons, List.drop_zero]
   refine still_row (by rfl) rfl g3 rfl (blk_drew B3.out) und127 (by rw [U_size, hs_len]; exact info127) ?_
   still_step
   still_step
   still_step
   still_step
   still_step
   refine still_row (by rfl) rfl g4 rfl (blk_drew B4.out) und129 (by rw [U_size]; exact info129) ?_
   refine wpStill_nil ?_
   change wpList _ _ _ _ _ wr.drew
   have n1_ := Aside0.mk (below_drew1 HB.out)
   have n2_ := Aside0.mk (blk_drew B3.out)
   have n3_ := Aside0.mk (blk_drew B4.out)
   clear HB B3 B4
   generalize wr.drew = wq at n1_ n2_ n3_ ⊢
   have HB := n1_
   have B3 := n2_
   have B4 := n3_
   clear n1_ n2_ n3_
   go_wp2_with (first
    | (go_at_call 70; (with_reducible refine (block_calls _ _ _ (hs_len p j) HEX.out).mono ?_); rintro e w8 ⟨rfl, hb⟩; have n1_ := Aside0.mk (below_step HB.out hb); have n2_ := Aside0.mk (blk_below B3.out hb); have n3_ := Aside0.mk (blk_below B4.out hb); clear HB B3 B4; have HB := n1_; have B3 := n2_; have B4 := n3_; clear n1_ n2_ n3_ hb)
    | ((with_reducible refine gate_store (t := 127) (p := 3) (v := .tmp 26) rfl ?_); refine store_row rfl rfl rfl g3 rfl (cs := U (hs p (j + 1))) (old := U (hs p j)) rfl B3.out (by rw [U_size, hs_len]; exact info127) (by rw [U_size, U_size, hs_len, hs_len]) (U_one _) ?_; intro w9 e9; have n0_ := Aside0.mk (show w9.heap[g3]? = some (.cells (U (hs p (j + 1))) 127 (0, 0)) by rw [e9]; exact setRow_heap _ _ _ _ _ _ B3.out); have n1_ := Aside0.mk (show Below w.heap.size w w9 by rw [e9]; exact below_setRow HB.out G3.out _); have n2_ := Aside0.mk (show w9.heap[g4]? = some (.cells (U kWords) 129 (0, 0)) by rw [e9, setRow_other _ _ _ _ (fun h_ => N34.out h_.symm)]; exact B4.out); clear HB B3 B4 e9; have B3 := n0_; have HB := n1_; have B4 := n2_; clear n0_ n1_ n2_))
   go_roundg k1
   case measure => have := HJ.out; omega
   case rel => exact ⟨j + 1, by simp; omega, ⟨by have := HJ.out; omega⟩, B3, B4, HB⟩
  | zero =>
   obtain rfl : j = nb := by have := HJ.out; omega
   clear HJ
   go_wp2_with (first
    | ((with_reducible refine gate_dst (N := 27) rfl ?_); refine Kd.R_make (Kd.int .u8) _ 5 rfl (N := 27) rfl 94 _ _ rfl 32 rfl rfl Tryz.underlying94 (.int .u8 0) 1 info5 rfl (by decide) (by omega) 0 (ok := fun _ => True) (okp := fun _ => True) rfl (fun _ hk => hk) trivial (by omega) (by decide) (Below.refl _ _) (Nat.le_refl _) ?_; intro v7 w10 ho hb hg_ hnew_; clear hg_ hnew_; have n0_ := Aside0.mk (Kd.R_lower ho (below_size HB.out)); have n1_ := Aside0.mk (below_step HB.out hb); have n2_ := Aside0.mk (blk_below B3.out hb); have N3 := Aside0.mk (blk_lt B3.out); clear HB B3; have HO := n0_; have HB := n1_; have B3 := n2_; clear n0_ n1_ n2_ ho hb))
   have n0_ := HO
   rw [show List.replicate (Int.toNat 32) 0 = outB (hs p j) 0 from rfl] at n0_
   clear HO
   have HO := n0_
   clear n0_
   obtain ⟨A2, cb, rfl, _, hC2⟩ := Kd.R_reads HO.out
   obtain ⟨ad2, rfl, _⟩ := hC2.2.2 (by rw [outB_len _ _ (hs_len p j) (by omega)]; decide)
   obtain ⟨gb, rfl⟩ := Kd.R_head HO.out
   have hgb : g3 ≠ gb := by
    intro e_; exact Kd.R_ne HO.out B3.out (by decide) (by rw [e_]; rfl)
   have hbs : w.heap.size ≤ gb := Kd.R_base HO.out gb rfl
   have HGB := Aside0.mk hgb
   have HBS := Aside0.mk hbs
   clear hgb hbs hC2
   have n0_ := HO
   rw [outB_len _ _ (hs_len p j) (by omega)] at n0_
   clear HO
   have HO := n0_
   clear n0_
   rw [outB_len _ _ (hs_len p j) (by omega)]
   go_loopg [8] 8 (fun kq v8 w' => ∃ (n : Nat), v8 = .int .i64 n ∧ Aside0 (n + kq = 8) ∧ Aside0 (w'.heap[g3]? = some (.cells (U (hs p j)) 127 (0, 0))) ∧ Aside0 ((Kd.int .u8).R 5 w' w.heap.size (fun _ => True) (.slice (some ⟨gb, 0, none⟩) 32 cb) (outB (hs p j) n)) ∧ Aside0 (Below w.heap.size w w'))
   case atStart => exact ⟨0, rfl, ⟨rfl⟩, B3, HO, HB⟩
   case round =>
    clear HB B3 HO
    obtain ⟨n, rfl, HJ, B3, HO, HB⟩ := hrel
    cases gk with
    | succ k1 =>
     have hn : n < 8 := by have := HJ.out; omega
     have HN := Aside0.mk hn
     have hjl : decide ((n : Int) < 8) = true := decide_eq_true (by omega)
     obtain ⟨q0, hq0⟩ : ∃ q, 4 * n = q := ⟨_, rfl⟩
     obtain ⟨q1, hq1⟩ : ∃ q, q0 + 1 = q := ⟨_, rfl⟩
     obtain ⟨q2, hq2⟩ : ∃ q, q0 + 2 = q := ⟨_, rfl⟩
     obtain ⟨q3, hq3⟩ : ∃ q, q0 + 3 = q := ⟨_, rfl⟩
     have e0 : IntKind.i64.wrap (4 * (n : Int)) = (q0 : Int) := by rw [i64_w, w64 (by omega) (by omega)]; omega
     have e1 : IntKind.i64.wrap ((q0 : Int) + 1) = (q1 : Int) := by rw [i64_w, w64 (by omega) (by omega)]; omega
     have e2 : IntKind.i64.wrap ((q0 : Int) + 2) = (q2 : Int) := by rw [i64_w, w64 (by omega) (by omega)]; omega
     have e3 : IntKind.i64.wrap ((q0 : Int) + 3) = (q3 : Int) := by rw [i64_w, w64 (by omega) (by omega)]; omega
     have l0 : q0 < 32 := by omega
     have l1 : q1 < 32 := by omega
     have l2 : q2 < 32 := by omega
     have l3 : q3 < 32 := by omega
     have HQ := Aside0.mk (show q0 < 32 ∧ q1 < 32 ∧ q2 < 32 ∧ q3 < 32 from ⟨l0, l1, l2, l3⟩)
     have HQ0 := Aside0.mk hq0
     have HQ1 := Aside0.mk hq1
     have HQ2 := Aside0.mk hq2
     have HQ3 := Aside0.mk hq3
     clear hq0 hq1 hq2 hq3
     obtain ⟨x, hx⟩ : ∃ x, (hs p j).getD n 0 = x := ⟨_, rfl⟩
     have HX := Aside0.mk hx
     clear hx
     obtain ⟨hc0, hz0⟩ := Kd.R_celln (0 : Int) HO.out (q0 : Int) (by omega) (by have := HQ.out; omega)
     rw [Int.toNat_natCast] at hc0 hz0
     obtain ⟨hc1, hz1⟩ := Kd.R_celln (0 : Int) HO.out (q1 : Int) (by omega) (by have := HQ.out; omega)
     rw [Int.toNat_natCast] at hc1 hz1
     obtain ⟨hc2, hz2⟩ := Kd.R_celln (0 : Int) HO.out (q2 : Int) (by omega) (by have := HQ.out; omega)
     rw [Int.toNat_natCast] at hc2 hz2
     obtain ⟨hc3, hz3⟩ := Kd.R_celln (0 : Int) HO.out (q3 : Int) (by omega) (by have := HQ.out; omega)
     rw [Int.toNat_natCast] at hc3 hz3
     have hx0 := U_cell B3.out n (by rw [hs_len]; exact HN.out)
     rw [HX.out] at hx0
     have hgb := HGB.out
     have d01 : q0 ≠ q1 := by have := HQ0.out; have := HQ1.out; omega
     have d02 : q0 ≠ q2 := by have := HQ0.out; have := HQ2.out; omega
     have d03 : q0 ≠ q3 := by have := HQ0.out; have := HQ3.out; omega
     have d12 : q1 ≠ q2 := by have := HQ1.out; have := HQ2.out; omega
     have d13 : q1 ≠ q3 := by have := HQ1.out; have := HQ3.out; omega
     have d23 : q2 ≠ q3 := by have := HQ2.out; have := HQ3.out; omega
     go_wp2_with (fail)
     go_roundg k1
     case measure => have := HJ.out; omega
     case rel =>
      refine ⟨n + 1, by simp, ⟨by have := HJ.out; omega⟩, ⟨?_⟩, ⟨?_⟩, ⟨?_⟩⟩
      ·exact blk_far (blk_far (blk_far (blk_far B3.out HGB.out _) HGB.out _) HGB.out _) HGB.out _
      ·rw [← outB_next _ n (hs_len p j) HN.out, HX.out, HQ0.out, HQ1.out, HQ2.out, HQ3.out]
       have r0 := Kd.R_putn HO.out (q0 : Int) (x / 16777216 % 256)
       have r1 := Kd.R_putn r0 (q1 : Int) (x / 65536 % 256)
       have r2 := Kd.R_putn r1 (q2 : Int) (x / 256 % 256)
       have r3 := Kd.R_putn r2 (q3 : Int) (x % 256)
       simp only [Int.toNat_natCast] at r3
       exact r3
      ·exact below_set (below_set (below_set (below_set HB.out HBS.out) HBS.out) HBS.out) HBS.out
    | zero =>
     obtain rfl : n = 8 := by have := HJ.out; omega
     obtain ⟨A3, c3, e3, _, hC3⟩ := Kd.R_reads HO.out
     rw [outB_len _ _ (hs_len p j) (Nat.le_refl _)] at e3
     cases e3
     rw [outB_len _ _ (hs_len p j) (Nat.le_refl _)] at hC3
     have kc := Kd.C_string (P := Tryz.prog) (c := cb) Tryz.underlying94 Tryz.underlying5 Tryz.underlying9 hC3
     go_wp2_with (fail)
     go_ret
     refine ⟨?_, HB.out⟩
     have e_ : outB (hs p j) 8 = (hs p j).flatMap f4 := by
      unfold outB; rw [List.take_of_length_le (Nat.le_of_eq (hs_len p j))]; simp
     rw [← e_]
     rfl
end Go.Proofs.YtcbjlcgfhbfneaaGreatDoor.PH
namespace Go.Proofs.YtcbjlcgfhbfneaaGreatDoor.PA
open Go.RowKit Go.Proofs.YtcbjlcgfhbfneaaGreatDoorW.PrintWords Go.Proofs.YtcbjlcgfhbfneaaGreatDoorW.PrintLast Go.Proofs.YtcbjlcgfhbfneaaGreatDoorW.PrintMore
def spec_Digest.f (a0 : ByteArray) : Option ByteArray := if a0.size ≤ 1073741824 then some (strOfNums ((PH.hs (PH.padS a0) (PH.blocks a0.size)).flatMap PH.f4)) else none
theorem spec_Digest.calls (a0 : ByteArray) (r : ByteArray) (w : World) (h : spec_Digest.f a0 = some r) :
 Calls Tryz.prog 45 #[.string a0] w fun e w' => e = .returned (.string r) ∧ Below w.heap.size w w' := by
 unfold spec_Digest.f at h
 split at h
 ·rename_i hc
  obtain rfl := Option.some.inj h
  exact PH.digest_calls a0 w hc
 ·cases h
end Go.Proofs.YtcbjlcgfhbfneaaGreatDoor.PA

namespace Go.Proofs.YtcbjlcgfhbfneaaGreatDoor.PA
open Go.RowKit Go.Proofs.YtcbjlcgfhbfneaaGreatDoorW.PrintWords Go.Proofs.YtcbjlcgfhbfneaaGreatDoorW.PrintLast Go.Proofs.YtcbjlcgfhbfneaaGreatDoorW.PrintMore
attribute [local go_sem] max2_int min2_int max_two min_two max_three min_three max_four min_four   -- for this text's walks alone
set_option linter.unusedVariables false
set_option linter.unusedSimpArgs false



def errW : Option Int → Value
 | none => .nilIface
 | some c => .iface 0 (.int .i64 c)
theorem errW_none : errW none = .nilIface := rfl
theorem errW_some (c : Int) : errW (some c) = .iface 0 (.int .i64 c) := rfl

theorem info3 : (Tryz.prog.info? 3).map (fun i => (i.zero, i.size, i.bytes)) = some (some (.int .i64 0), 1, 8) := by kernel_rfl
theorem info5 : (Tryz.prog.info? 5).map (fun i => (i.zero, i.size, i.bytes)) = some (some (.int .u8 0), 1, 1) := by kernel_rfl
theorem info59 : (Tryz.prog.info? 59).map (fun i => (i.zero, i.size, i.bytes)) = some (some (.agg #[(.int .i64 0), (.int .i64 0), (.int .i64 0), (.int .i64 0)]), 4, 32) := by kernel_rfl
theorem info61 : (Tryz.prog.info? 61).map (fun i => (i.zero, i.size, i.bytes)) = some (some (.agg #[(.int .i64 0), (.int .i64 0), (.int .i64 0), (.int .i64 0), (.int .i64 0), (.int .i64 0)]), 6, 48) := by kernel_rfl
theorem info97 : (Tryz.prog.info? 97).map (fun i => (i.zero, i.size, i.bytes)) = some (some (.slice none 0 0), 1, 24) := by kernel_rfl
theorem info101 : (Tryz.prog.info? 101).map (fun i => (i.zero, i.size, i.bytes)) = some (some (.agg #[(.slice none 0 0), (.int .i64 0), (.int .i64 0), (.int .i64 0)]), 4, 48) := by kernel_rfl
theorem info104 : (Tryz.prog.info? 104).map (fun i => (i.zero, i.size, i.bytes)) = some (some (.agg #[(.int .i64 0), (.int .i64 0), (.slice none 0 0), (.int .i64 0), (.int .i64 0)]), 5, 56) := by kernel_rfl
theorem info108 : (Tryz.prog.info? 108).map (fun i => (i.zero, i.size, i.bytes)) = some (some (.agg #[(.bool false), (.string ⟨#[]⟩), (.bool false)]), 3, 32) := by kernel_rfl
theorem info111 : (Tryz.prog.info? 111).map (fun i => (i.zero, i.size, i.bytes)) = some (some (.agg #[(.int .i64 0), (.int .i64 0), (.int .i64 0), (.bool false)]), 4, 32) := by kernel_rfl
theorem info135 : (Tryz.prog.info? 135).map (fun i => (i.zero, i.size, i.bytes)) = some (some (.slice none 0 0), 1, 24) := by kernel_rfl
theorem info142 : (Tryz.prog.info? 142).map (fun i => (i.zero, i.size, i.bytes)) = some (some (.agg #[(.int .i64 0), (.int .i64 0), (.int .i64 0), (.int .i64 0), (.int .i64 0), (.int .i64 0)]), 6, 48) := by kernel_rfl
theorem info154 : (Tryz.prog.info? 154).map (fun i => (i.zero, i.size, i.bytes)) = some (some (.agg #[(.int .i64 0), (.int .i64 0), (.int .i64 0), (.int .i64 0)]), 4, 32) := by kernel_rfl
-- the values' own types
structure S156 where
 f0 : Int
 f1 : Int
 f2 : Int
 f3 : Int
def z156 : S156 := ⟨(0 : Int), (0 : Int), (0 : Int), (0 : Int)⟩
def k156 : Kd S156 := Kd.iso (Kd.pair (Kd.int .i64) (Kd.pair (Kd.int .i64) (Kd.pair (Kd.int .i64) (Kd.int .i64)))) (fun x : S156 => (x.f0, x.f1, x.f2, x.f3))
theorem k156_open {w : World} {x : S156} {cs : List Value} (h : k156.K w x cs) : cs = [.int .i64 x.f0, .int .i64 x.f1, .int .i64 x.f2, .int .i64 x.f3] := by
 obtain ⟨_, _, rfl, rfl, ⟨_, _, rfl, rfl, ⟨_, _, rfl, rfl, rfl⟩⟩⟩ := h
 exact rfl
theorem k156_openM {w : World} {base : Nat} {ok : Nat → Prop} {x : S156} {cs : List Value} (h : k156.M w base ok x cs) : cs = [.int .i64 x.f0, .int .i64 x.f1, .int .i64 x.f2, .int .i64 x.f3] := by
 obtain ⟨_, _, rfl, rfl, ⟨_, _, rfl, rfl, ⟨_, _, rfl, rfl, rfl⟩⟩⟩ := h
 exact rfl
theorem k156_mk (w : World) (x : S156)  : k156.K w x [.int .i64 x.f0, .int .i64 x.f1, .int .i64 x.f2, .int .i64 x.f3] := ⟨[.int .i64 x.f0], [.int .i64 x.f1, .int .i64 x.f2, .int .i64 x.f3], rfl, rfl, ⟨[.int .i64 x.f1], [.int .i64 x.f2, .int .i64 x.f3], rfl, rfl, ⟨[.int .i64 x.f2], [.int .i64 x.f3], rfl, rfl, rfl⟩⟩⟩
theorem k156_mkM (w : World) (base : Nat) (ok : Nat → Prop) (x : S156)  : k156.M w base ok x [.int .i64 x.f0, .int .i64 x.f1, .int .i64 x.f2, .int .i64 x.f3] := ⟨[.int .i64 x.f0], [.int .i64 x.f1, .int .i64 x.f2, .int .i64 x.f3], rfl, rfl, ⟨[.int .i64 x.f1], [.int .i64 x.f2, .int .i64 x.f3], rfl, rfl, ⟨[.int .i64 x.f2], [.int .i64 x.f3], rfl, rfl, rfl⟩⟩⟩
def rd_T156 (xs : List S156) (i : Int) : S156 := xs.getD i.toNat z156
theorem at_T156 {w : World} {A : Option Addr} {n : Nat} {xs : List S156} (h : Kd.C k156 w A n xs) (i : Int) (h0 : 0 ≤ i) (h1 : i < n) : ∃ ad , A = some ad ∧ w.cell? (ad.add (i.toNat * 4)) = some (.int .i64 (rd_T156 xs i).f0) ∧ w.cell? ⟨(ad.add (i.toNat * 4)).block, (ad.add (i.toNat * 4)).off + 1, none⟩ = some (.int .i64 (rd_T156 xs i).f1) ∧ w.cell? ⟨(ad.add (i.toNat * 4)).block, (ad.add (i.toNat * 4)).off + 2, none⟩ = some (.int .i64 (rd_T156 xs i).f2) ∧ w.cell? ⟨(ad.add (i.toNat * 4)).block, (ad.add (i.toNat * 4)).off + 3, none⟩ = some (.int .i64 (rd_T156 xs i).f3) := by
 obtain ⟨ad, c, e, _, hK, hc0⟩ := Kd.C_get h z156 i h0 h1
 have hc : ∀ j u, c[j]? = some u → w.cell? (ad.add (i.toNat * 4 + j)) = some u := hc0
 obtain rfl := k156_open hK
 exact ⟨ad, e, hc 0 _ rfl, by rw [← add_field _ _ 1 (by omega)]; exact hc 1 _ rfl, by rw [← add_field _ _ 2 (by omega)]; exact hc 2 _ rfl, by rw [← add_field _ _ 3 (by omega)]; exact hc 3 _ rfl⟩

def rd_L2 (xs : List (List S156)) (i : Int) : (List S156) := xs.getD i.toNat ([] : List S156)
theorem at_L2 {w : World} {A : Option Addr} {n : Nat} {xs : List (List S156)} (h : Kd.C (Kd.slice 156 k156) w A n xs) (i : Int) (h0 : 0 ≤ i) (h1 : i < n) : ∃ ad A0 c0, A = some ad ∧ w.cell? (ad.add i.toNat) = some (.slice A0 (rd_L2 xs i).length c0) ∧ (rd_L2 xs i).length ≤ c0 ∧ k156.C w A0 (rd_L2 xs i).length (rd_L2 xs i) := by
 obtain ⟨ad, c, e, _, hK, hc0⟩ := Kd.C_get h ([] : List S156) i h0 h1
 have hc : ∀ j u, c[j]? = some u → w.cell? (ad.add (i.toNat * 1 + j)) = some u := hc0
 obtain ⟨A0, c0, rfl, l0, g0⟩ := hK
 exact ⟨ad, A0, c0, e, by have hq := hc 0 _ rfl; rwa [Nat.mul_one, Nat.add_zero] at hq, l0, g0⟩

def rd_L3 (xs : List (List (List S156))) (i : Int) : (List (List S156)) := xs.getD i.toNat ([] : List (List S156))
theorem at_L3 {w : World} {A : Option Addr} {n : Nat} {xs : List (List (List S156))} (h : Kd.C (Kd.slice 124 (Kd.slice 156 k156)) w A n xs) (i : Int) (h0 : 0 ≤ i) (h1 : i < n) : ∃ ad A0 c0, A = some ad ∧ w.cell? (ad.add i.toNat) = some (.slice A0 (rd_L3 xs i).length c0) ∧ (rd_L3 xs i).length ≤ c0 ∧ (Kd.slice 156 k156).C w A0 (rd_L3 xs i).length (rd_L3 xs i) := by
 obtain ⟨ad, c, e, _, hK, hc0⟩ := Kd.C_get h ([] : List (List S156)) i h0 h1
 have hc : ∀ j u, c[j]? = some u → w.cell? (ad.add (i.toNat * 1 + j)) = some u := hc0
 obtain ⟨A0, c0, rfl, l0, g0⟩ := hK
 exact ⟨ad, A0, c0, e, by have hq := hc 0 _ rfl; rwa [Nat.mul_one, Nat.add_zero] at hq, l0, g0⟩

structure S139 where
 f0 : Int
 f1 : Int
 f2 : Int
 f3 : Int
def z139 : S139 := ⟨(0 : Int), (0 : Int), (0 : Int), (0 : Int)⟩
def k139 : Kd S139 := Kd.iso (Kd.pair (Kd.int .i64) (Kd.pair (Kd.int .i64) (Kd.pair (Kd.int .i64) (Kd.int .i64)))) (fun x : S139 => (x.f0, x.f1, x.f2, x.f3))
theorem k139_open {w : World} {x : S139} {cs : List Value} (h : k139.K w x cs) : cs = [.int .i64 x.f0, .int .i64 x.f1, .int .i64 x.f2, .int .i64 x.f3] := by
 obtain ⟨_, _, rfl, rfl, ⟨_, _, rfl, rfl, ⟨_, _, rfl, rfl, rfl⟩⟩⟩ := h
 exact rfl
theorem k139_openM {w : World} {base : Nat} {ok : Nat → Prop} {x : S139} {cs : List Value} (h : k139.M w base ok x cs) : cs = [.int .i64 x.f0, .int .i64 x.f1, .int .i64 x.f2, .int .i64 x.f3] := by
 obtain ⟨_, _, rfl, rfl, ⟨_, _, rfl, rfl, ⟨_, _, rfl, rfl, rfl⟩⟩⟩ := h
 exact rfl
theorem k139_mk (w : World) (x : S139)  : k139.K w x [.int .i64 x.f0, .int .i64 x.f1, .int .i64 x.f2, .int .i64 x.f3] := ⟨[.int .i64 x.f0], [.int .i64 x.f1, .int .i64 x.f2, .int .i64 x.f3], rfl, rfl, ⟨[.int .i64 x.f1], [.int .i64 x.f2, .int .i64 x.f3], rfl, rfl, ⟨[.int .i64 x.f2], [.int .i64 x.f3], rfl, rfl, rfl⟩⟩⟩
theorem k139_mkM (w : World) (base : Nat) (ok : Nat → Prop) (x : S139)  : k139.M w base ok x [.int .i64 x.f0, .int .i64 x.f1, .int .i64 x.f2, .int .i64 x.f3] := ⟨[.int .i64 x.f0], [.int .i64 x.f1, .int .i64 x.f2, .int .i64 x.f3], rfl, rfl, ⟨[.int .i64 x.f1], [.int .i64 x.f2, .int .i64 x.f3], rfl, rfl, ⟨[.int .i64 x.f2], [.int .i64 x.f3], rfl, rfl, rfl⟩⟩⟩
def rd_T139 (xs : List S139) (i : Int) : S139 := xs.getD i.toNat z139
theorem at_T139 {w : World} {A : Option Addr} {n : Nat} {xs : List S139} (h : Kd.C k139 w A n xs) (i : Int) (h0 : 0 ≤ i) (h1 : i < n) : ∃ ad , A = some ad ∧ w.cell? (ad.add (i.toNat * 4)) = some (.int .i64 (rd_T139 xs i).f0) ∧ w.cell? ⟨(ad.add (i.toNat * 4)).block, (ad.add (i.toNat * 4)).off + 1, none⟩ = some (.int .i64 (rd_T139 xs i).f1) ∧ w.cell? ⟨(ad.add (i.toNat * 4)).block, (ad.add (i.toNat * 4)).off + 2, none⟩ = some (.int .i64 (rd_T139 xs i).f2) ∧ w.cell? ⟨(ad.add (i.toNat * 4)).block, (ad.add (i.toNat * 4)).off + 3, none⟩ = some (.int .i64 (rd_T139 xs i).f3) := by
 obtain ⟨ad, c, e, _, hK, hc0⟩ := Kd.C_get h z139 i h0 h1
 have hc : ∀ j u, c[j]? = some u → w.cell? (ad.add (i.toNat * 4 + j)) = some u := hc0
 obtain rfl := k139_open hK
 exact ⟨ad, e, hc 0 _ rfl, by rw [← add_field _ _ 1 (by omega)]; exact hc 1 _ rfl, by rw [← add_field _ _ 2 (by omega)]; exact hc 2 _ rfl, by rw [← add_field _ _ 3 (by omega)]; exact hc 3 _ rfl⟩

def rd_L5 (xs : List (List S139)) (i : Int) : (List S139) := xs.getD i.toNat ([] : List S139)
theorem at_L5 {w : World} {A : Option Addr} {n : Nat} {xs : List (List S139)} (h : Kd.C (Kd.slice 139 k139) w A n xs) (i : Int) (h0 : 0 ≤ i) (h1 : i < n) : ∃ ad A0 c0, A = some ad ∧ w.cell? (ad.add i.toNat) = some (.slice A0 (rd_L5 xs i).length c0) ∧ (rd_L5 xs i).length ≤ c0 ∧ k139.C w A0 (rd_L5 xs i).length (rd_L5 xs i) := by
 obtain ⟨ad, c, e, _, hK, hc0⟩ := Kd.C_get h ([] : List S139) i h0 h1
 have hc : ∀ j u, c[j]? = some u → w.cell? (ad.add (i.toNat * 1 + j)) = some u := hc0
 obtain ⟨A0, c0, rfl, l0, g0⟩ := hK
 exact ⟨ad, A0, c0, e, by have hq := hc 0 _ rfl; rwa [Nat.mul_one, Nat.add_zero] at hq, l0, g0⟩

structure S85 where
 f0 : (List S139)
 f1 : Int
 f2 : Int
 f3 : Int
def z85 : S85 := ⟨([] : List S139), (0 : Int), (0 : Int), (0 : Int)⟩
def k85 : Kd S85 := Kd.iso (Kd.pair (Kd.slice 139 k139) (Kd.pair (Kd.int .i64) (Kd.pair (Kd.int .i64) (Kd.int .i64)))) (fun x : S85 => (x.f0, x.f1, x.f2, x.f3))
theorem k85_open {w : World} {x : S85} {cs : List Value} (h : k85.K w x cs) : ∃ A0 c0, cs = [.slice A0 x.f0.length c0, .int .i64 x.f1, .int .i64 x.f2, .int .i64 x.f3] ∧ x.f0.length ≤ c0 ∧ k139.C w A0 x.f0.length x.f0 := by
 obtain ⟨_, _, rfl, ⟨A0, c0, rfl, l0, g0⟩, ⟨_, _, rfl, rfl, ⟨_, _, rfl, rfl, rfl⟩⟩⟩ := h
 exact ⟨A0, c0, rfl, l0, g0⟩
theorem k85_openM {w : World} {base : Nat} {ok : Nat → Prop} {x : S85} {cs : List Value} (h : k85.M w base ok x cs) : ∃ v0, cs = [v0, .int .i64 x.f1, .int .i64 x.f2, .int .i64 x.f3] ∧ k139.R 139 w base ok v0 x.f0 := by
 obtain ⟨_, _, rfl, ⟨v0, rfl, g0⟩, ⟨_, _, rfl, rfl, ⟨_, _, rfl, rfl, rfl⟩⟩⟩ := h
 exact ⟨v0, rfl, g0⟩
theorem k85_mk (w : World) (x : S85) {A0 : Option Addr} {c0 : Nat} (l0 : x.f0.length ≤ c0) (g0 : k139.C w A0 x.f0.length x.f0) : k85.K w x [.slice A0 x.f0.length c0, .int .i64 x.f1, .int .i64 x.f2, .int .i64 x.f3] := ⟨[.slice A0 x.f0.length c0], [.int .i64 x.f1, .int .i64 x.f2, .int .i64 x.f3], rfl, ⟨A0, c0, rfl, l0, g0⟩, ⟨[.int .i64 x.f1], [.int .i64 x.f2, .int .i64 x.f3], rfl, rfl, ⟨[.int .i64 x.f2], [.int .i64 x.f3], rfl, rfl, rfl⟩⟩⟩
theorem k85_mkM (w : World) (base : Nat) (ok : Nat → Prop) (x : S85) {v0 : Value} (g0 : k139.R 139 w base ok v0 x.f0) : k85.M w base ok x [v0, .int .i64 x.f1, .int .i64 x.f2, .int .i64 x.f3] := ⟨[v0], [.int .i64 x.f1, .int .i64 x.f2, .int .i64 x.f3], rfl, ⟨v0, rfl, g0⟩, ⟨[.int .i64 x.f1], [.int .i64 x.f2, .int .i64 x.f3], rfl, rfl, ⟨[.int .i64 x.f2], [.int .i64 x.f3], rfl, rfl, rfl⟩⟩⟩
def rd_T85 (xs : List S85) (i : Int) : S85 := xs.getD i.toNat z85
theorem at_T85 {w : World} {A : Option Addr} {n : Nat} {xs : List S85} (h : Kd.C k85 w A n xs) (i : Int) (h0 : 0 ≤ i) (h1 : i < n) : ∃ ad A0 c0, A = some ad ∧ w.cell? (ad.add (i.toNat * 4)) = some (.slice A0 (rd_T85 xs i).f0.length c0) ∧ w.cell? ⟨(ad.add (i.toNat * 4)).block, (ad.add (i.toNat * 4)).off + 1, none⟩ = some (.int .i64 (rd_T85 xs i).f1) ∧ w.cell? ⟨(ad.add (i.toNat * 4)).block, (ad.add (i.toNat * 4)).off + 2, none⟩ = some (.int .i64 (rd_T85 xs i).f2) ∧ w.cell? ⟨(ad.add (i.toNat * 4)).block, (ad.add (i.toNat * 4)).off + 3, none⟩ = some (.int .i64 (rd_T85 xs i).f3) ∧ (rd_T85 xs i).f0.length ≤ c0 ∧ k139.C w A0 (rd_T85 xs i).f0.length (rd_T85 xs i).f0 := by
 obtain ⟨ad, c, e, _, hK, hc0⟩ := Kd.C_get h z85 i h0 h1
 have hc : ∀ j u, c[j]? = some u → w.cell? (ad.add (i.toNat * 4 + j)) = some u := hc0
 obtain ⟨A0, c0, rfl, l0, g0⟩ := k85_open hK
 exact ⟨ad, A0, c0, e, hc 0 _ rfl, by rw [← add_field _ _ 1 (by omega)]; exact hc 1 _ rfl, by rw [← add_field _ _ 2 (by omega)]; exact hc 2 _ rfl, by rw [← add_field _ _ 3 (by omega)]; exact hc 3 _ rfl, l0, g0⟩

structure S88 where
 f0 : Int
 f1 : Int
 f2 : (List S139)
 f3 : Int
 f4 : Int
def z88 : S88 := ⟨(0 : Int), (0 : Int), ([] : List S139), (0 : Int), (0 : Int)⟩
def k88 : Kd S88 := Kd.iso (Kd.pair (Kd.int .i64) (Kd.pair (Kd.int .i64) (Kd.pair (Kd.slice 139 k139) (Kd.pair (Kd.int .i64) (Kd.int .i64))))) (fun x : S88 => (x.f0, x.f1, x.f2, x.f3, x.f4))
theorem k88_open {w : World} {x : S88} {cs : List Value} (h : k88.K w x cs) : ∃ A2 c2, cs = [.int .i64 x.f0, .int .i64 x.f1, .slice A2 x.f2.length c2, .int .i64 x.f3, .int .i64 x.f4] ∧ x.f2.length ≤ c2 ∧ k139.C w A2 x.f2.length x.f2 := by
 obtain ⟨_, _, rfl, rfl, ⟨_, _, rfl, rfl, ⟨_, _, rfl, ⟨A2, c2, rfl, l2, g2⟩, ⟨_, _, rfl, rfl, rfl⟩⟩⟩⟩ := h
 exact ⟨A2, c2, rfl, l2, g2⟩
theorem k88_openM {w : World} {base : Nat} {ok : Nat → Prop} {x : S88} {cs : List Value} (h : k88.M w base ok x cs) : ∃ v2, cs = [.int .i64 x.f0, .int .i64 x.f1, v2, .int .i64 x.f3, .int .i64 x.f4] ∧ k139.R 139 w base ok v2 x.f2 := by
 obtain ⟨_, _, rfl, rfl, ⟨_, _, rfl, rfl, ⟨_, _, rfl, ⟨v2, rfl, g2⟩, ⟨_, _, rfl, rfl, rfl⟩⟩⟩⟩ := h
 exact ⟨v2, rfl, g2⟩
theorem k88_mk (w : World) (x : S88) {A2 : Option Addr} {c2 : Nat} (l2 : x.f2.length ≤ c2) (g2 : k139.C w A2 x.f2.length x.f2) : k88.K w x [.int .i64 x.f0, .int .i64 x.f1, .slice A2 x.f2.length c2, .int .i64 x.f3, .int .i64 x.f4] := ⟨[.int .i64 x.f0], [.int .i64 x.f1, .slice A2 x.f2.length c2, .int .i64 x.f3, .int .i64 x.f4], rfl, rfl, ⟨[.int .i64 x.f1], [.slice A2 x.f2.length c2, .int .i64 x.f3, .int .i64 x.f4], rfl, rfl, ⟨[.slice A2 x.f2.length c2], [.int .i64 x.f3, .int .i64 x.f4], rfl, ⟨A2, c2, rfl, l2, g2⟩, ⟨[.int .i64 x.f3], [.int .i64 x.f4], rfl, rfl, rfl⟩⟩⟩⟩
theorem k88_mkM (w : World) (base : Nat) (ok : Nat → Prop) (x : S88) {v2 : Value} (g2 : k139.R 139 w base ok v2 x.f2) : k88.M w base ok x [.int .i64 x.f0, .int .i64 x.f1, v2, .int .i64 x.f3, .int .i64 x.f4] := ⟨[.int .i64 x.f0], [.int .i64 x.f1, v2, .int .i64 x.f3, .int .i64 x.f4], rfl, rfl, ⟨[.int .i64 x.f1], [v2, .int .i64 x.f3, .int .i64 x.f4], rfl, rfl, ⟨[v2], [.int .i64 x.f3, .int .i64 x.f4], rfl, ⟨v2, rfl, g2⟩, ⟨[.int .i64 x.f3], [.int .i64 x.f4], rfl, rfl, rfl⟩⟩⟩⟩
def rd_T88 (xs : List S88) (i : Int) : S88 := xs.getD i.toNat z88
theorem at_T88 {w : World} {A : Option Addr} {n : Nat} {xs : List S88} (h : Kd.C k88 w A n xs) (i : Int) (h0 : 0 ≤ i) (h1 : i < n) : ∃ ad A2 c2, A = some ad ∧ w.cell? (ad.add (i.toNat * 5)) = some (.int .i64 (rd_T88 xs i).f0) ∧ w.cell? ⟨(ad.add (i.toNat * 5)).block, (ad.add (i.toNat * 5)).off + 1, none⟩ = some (.int .i64 (rd_T88 xs i).f1) ∧ w.cell? ⟨(ad.add (i.toNat * 5)).block, (ad.add (i.toNat * 5)).off + 2, none⟩ = some (.slice A2 (rd_T88 xs i).f2.length c2) ∧ w.cell? ⟨(ad.add (i.toNat * 5)).block, (ad.add (i.toNat * 5)).off + 3, none⟩ = some (.int .i64 (rd_T88 xs i).f3) ∧ w.cell? ⟨(ad.add (i.toNat * 5)).block, (ad.add (i.toNat * 5)).off + 4, none⟩ = some (.int .i64 (rd_T88 xs i).f4) ∧ (rd_T88 xs i).f2.length ≤ c2 ∧ k139.C w A2 (rd_T88 xs i).f2.length (rd_T88 xs i).f2 := by
 obtain ⟨ad, c, e, _, hK, hc0⟩ := Kd.C_get h z88 i h0 h1
 have hc : ∀ j u, c[j]? = some u → w.cell? (ad.add (i.toNat * 5 + j)) = some u := hc0
 obtain ⟨A2, c2, rfl, l2, g2⟩ := k88_open hK
 exact ⟨ad, A2, c2, e, hc 0 _ rfl, by rw [← add_field _ _ 1 (by omega)]; exact hc 1 _ rfl, by rw [← add_field _ _ 2 (by omega)]; exact hc 2 _ rfl, by rw [← add_field _ _ 3 (by omega)]; exact hc 3 _ rfl, by rw [← add_field _ _ 4 (by omega)]; exact hc 4 _ rfl, l2, g2⟩

structure S141 where
 f0 : Int
 f1 : Int
 f2 : S139
def z141 : S141 := ⟨(0 : Int), (0 : Int), z139⟩
def k141 : Kd S141 := Kd.iso (Kd.pair (Kd.int .i64) (Kd.pair (Kd.int .i64) k139)) (fun x : S141 => (x.f0, x.f1, x.f2))
theorem k141_open {w : World} {x : S141} {cs : List Value} (h : k141.K w x cs) : cs = [.int .i64 x.f0, .int .i64 x.f1, .int .i64 x.f2.f0, .int .i64 x.f2.f1, .int .i64 x.f2.f2, .int .i64 x.f2.f3] := by
 obtain ⟨_, _, rfl, rfl, ⟨_, _, rfl, rfl, s2⟩⟩ := h
 obtain rfl := k139_open s2
 exact rfl
theorem k141_openM {w : World} {base : Nat} {ok : Nat → Prop} {x : S141} {cs : List Value} (h : k141.M w base ok x cs) : cs = [.int .i64 x.f0, .int .i64 x.f1, .int .i64 x.f2.f0, .int .i64 x.f2.f1, .int .i64 x.f2.f2, .int .i64 x.f2.f3] := by
 obtain ⟨_, _, rfl, rfl, ⟨_, _, rfl, rfl, s2⟩⟩ := h
 obtain rfl := k139_openM s2
 exact rfl
theorem k141_mk (w : World) (x : S141)  : k141.K w x [.int .i64 x.f0, .int .i64 x.f1, .int .i64 x.f2.f0, .int .i64 x.f2.f1, .int .i64 x.f2.f2, .int .i64 x.f2.f3] := ⟨[.int .i64 x.f0], [.int .i64 x.f1, .int .i64 x.f2.f0, .int .i64 x.f2.f1, .int .i64 x.f2.f2, .int .i64 x.f2.f3], rfl, rfl, ⟨[.int .i64 x.f1], [.int .i64 x.f2.f0, .int .i64 x.f2.f1, .int .i64 x.f2.f2, .int .i64 x.f2.f3], rfl, rfl, (k139_mk w x.f2 )⟩⟩
theorem k141_mkM (w : World) (base : Nat) (ok : Nat → Prop) (x : S141)  : k141.M w base ok x [.int .i64 x.f0, .int .i64 x.f1, .int .i64 x.f2.f0, .int .i64 x.f2.f1, .int .i64 x.f2.f2, .int .i64 x.f2.f3] := ⟨[.int .i64 x.f0], [.int .i64 x.f1, .int .i64 x.f2.f0, .int .i64 x.f2.f1, .int .i64 x.f2.f2, .int .i64 x.f2.f3], rfl, rfl, ⟨[.int .i64 x.f1], [.int .i64 x.f2.f0, .int .i64 x.f2.f1, .int .i64 x.f2.f2, .int .i64 x.f2.f3], rfl, rfl, (k139_mkM w base ok x.f2 )⟩⟩
def rd_T141 (xs : List S141) (i : Int) : S141 := xs.getD i.toNat z141
theorem at_T141 {w : World} {A : Option Addr} {n : Nat} {xs : List S141} (h : Kd.C k141 w A n xs) (i : Int) (h0 : 0 ≤ i) (h1 : i < n) : ∃ ad , A = some ad ∧ w.cell? (ad.add (i.toNat * 6)) = some (.int .i64 (rd_T141 xs i).f0) ∧ w.cell? ⟨(ad.add (i.toNat * 6)).block, (ad.add (i.toNat * 6)).off + 1, none⟩ = some (.int .i64 (rd_T141 xs i).f1) ∧ w.cell? ⟨(ad.add (i.toNat * 6)).block, (ad.add (i.toNat * 6)).off + 2, none⟩ = some (.int .i64 (rd_T141 xs i).f2.f0) ∧ w.cell? ⟨(ad.add (i.toNat * 6)).block, (ad.add (i.toNat * 6)).off + 3, none⟩ = some (.int .i64 (rd_T141 xs i).f2.f1) ∧ w.cell? ⟨(ad.add (i.toNat * 6)).block, (ad.add (i.toNat * 6)).off + 4, none⟩ = some (.int .i64 (rd_T141 xs i).f2.f2) ∧ w.cell? ⟨(ad.add (i.toNat * 6)).block, (ad.add (i.toNat * 6)).off + 5, none⟩ = some (.int .i64 (rd_T141 xs i).f2.f3) := by
 obtain ⟨ad, c, e, _, hK, hc0⟩ := Kd.C_get h z141 i h0 h1
 have hc : ∀ j u, c[j]? = some u → w.cell? (ad.add (i.toNat * 6 + j)) = some u := hc0
 obtain rfl := k141_open hK
 exact ⟨ad, e, hc 0 _ rfl, by rw [← add_field _ _ 1 (by omega)]; exact hc 1 _ rfl, by rw [← add_field _ _ 2 (by omega)]; exact hc 2 _ rfl, by rw [← add_field _ _ 3 (by omega)]; exact hc 3 _ rfl, by rw [← add_field _ _ 4 (by omega)]; exact hc 4 _ rfl, by rw [← add_field _ _ 5 (by omega)]; exact hc 5 _ rfl⟩

structure S144 where
 f0 : Int
 f1 : Int
 f2 : S139
def z144 : S144 := ⟨(0 : Int), (0 : Int), z139⟩
def k144 : Kd S144 := Kd.iso (Kd.pair (Kd.int .i64) (Kd.pair (Kd.int .i64) k139)) (fun x : S144 => (x.f0, x.f1, x.f2))
theorem k144_open {w : World} {x : S144} {cs : List Value} (h : k144.K w x cs) : cs = [.int .i64 x.f0, .int .i64 x.f1, .int .i64 x.f2.f0, .int .i64 x.f2.f1, .int .i64 x.f2.f2, .int .i64 x.f2.f3] := by
 obtain ⟨_, _, rfl, rfl, ⟨_, _, rfl, rfl, s2⟩⟩ := h
 obtain rfl := k139_open s2
 exact rfl
theorem k144_openM {w : World} {base : Nat} {ok : Nat → Prop} {x : S144} {cs : List Value} (h : k144.M w base ok x cs) : cs = [.int .i64 x.f0, .int .i64 x.f1, .int .i64 x.f2.f0, .int .i64 x.f2.f1, .int .i64 x.f2.f2, .int .i64 x.f2.f3] := by
 obtain ⟨_, _, rfl, rfl, ⟨_, _, rfl, rfl, s2⟩⟩ := h
 obtain rfl := k139_openM s2
 exact rfl
theorem k144_mk (w : World) (x : S144)  : k144.K w x [.int .i64 x.f0, .int .i64 x.f1, .int .i64 x.f2.f0, .int .i64 x.f2.f1, .int .i64 x.f2.f2, .int .i64 x.f2.f3] := ⟨[.int .i64 x.f0], [.int .i64 x.f1, .int .i64 x.f2.f0, .int .i64 x.f2.f1, .int .i64 x.f2.f2, .int .i64 x.f2.f3], rfl, rfl, ⟨[.int .i64 x.f1], [.int .i64 x.f2.f0, .int .i64 x.f2.f1, .int .i64 x.f2.f2, .int .i64 x.f2.f3], rfl, rfl, (k139_mk w x.f2 )⟩⟩
theorem k144_mkM (w : World) (base : Nat) (ok : Nat → Prop) (x : S144)  : k144.M w base ok x [.int .i64 x.f0, .int .i64 x.f1, .int .i64 x.f2.f0, .int .i64 x.f2.f1, .int .i64 x.f2.f2, .int .i64 x.f2.f3] := ⟨[.int .i64 x.f0], [.int .i64 x.f1, .int .i64 x.f2.f0, .int .i64 x.f2.f1, .int .i64 x.f2.f2, .int .i64 x.f2.f3], rfl, rfl, ⟨[.int .i64 x.f1], [.int .i64 x.f2.f0, .int .i64 x.f2.f1, .int .i64 x.f2.f2, .int .i64 x.f2.f3], rfl, rfl, (k139_mkM w base ok x.f2 )⟩⟩
def rd_T144 (xs : List S144) (i : Int) : S144 := xs.getD i.toNat z144
theorem at_T144 {w : World} {A : Option Addr} {n : Nat} {xs : List S144} (h : Kd.C k144 w A n xs) (i : Int) (h0 : 0 ≤ i) (h1 : i < n) : ∃ ad , A = some ad ∧ w.cell? (ad.add (i.toNat * 6)) = some (.int .i64 (rd_T144 xs i).f0) ∧ w.cell? ⟨(ad.add (i.toNat * 6)).block, (ad.add (i.toNat * 6)).off + 1, none⟩ = some (.int .i64 (rd_T144 xs i).f1) ∧ w.cell? ⟨(ad.add (i.toNat * 6)).block, (ad.add (i.toNat * 6)).off + 2, none⟩ = some (.int .i64 (rd_T144 xs i).f2.f0) ∧ w.cell? ⟨(ad.add (i.toNat * 6)).block, (ad.add (i.toNat * 6)).off + 3, none⟩ = some (.int .i64 (rd_T144 xs i).f2.f1) ∧ w.cell? ⟨(ad.add (i.toNat * 6)).block, (ad.add (i.toNat * 6)).off + 4, none⟩ = some (.int .i64 (rd_T144 xs i).f2.f2) ∧ w.cell? ⟨(ad.add (i.toNat * 6)).block, (ad.add (i.toNat * 6)).off + 5, none⟩ = some (.int .i64 (rd_T144 xs i).f2.f3) := by
 obtain ⟨ad, c, e, _, hK, hc0⟩ := Kd.C_get h z144 i h0 h1
 have hc : ∀ j u, c[j]? = some u → w.cell? (ad.add (i.toNat * 6 + j)) = some u := hc0
 obtain rfl := k144_open hK
 exact ⟨ad, e, hc 0 _ rfl, by rw [← add_field _ _ 1 (by omega)]; exact hc 1 _ rfl, by rw [← add_field _ _ 2 (by omega)]; exact hc 2 _ rfl, by rw [← add_field _ _ 3 (by omega)]; exact hc 3 _ rfl, by rw [← add_field _ _ 4 (by omega)]; exact hc 4 _ rfl, by rw [← add_field _ _ 5 (by omega)]; exact hc 5 _ rfl⟩

structure S93 where
 f0 : Bool
 f1 : ByteArray
 f2 : Bool
def z93 : S93 := ⟨false, (⟨#[]⟩ : ByteArray), false⟩
def k93 : Kd S93 := Kd.iso (Kd.pair Kd.bool (Kd.pair Kd.string Kd.bool)) (fun x : S93 => (x.f0, x.f1, x.f2))
theorem k93_open {w : World} {x : S93} {cs : List Value} (h : k93.K w x cs) : cs = [.bool x.f0, .string x.f1, .bool x.f2] := by
 obtain ⟨_, _, rfl, rfl, ⟨_, _, rfl, rfl, rfl⟩⟩ := h
 exact rfl
theorem k93_openM {w : World} {base : Nat} {ok : Nat → Prop} {x : S93} {cs : List Value} (h : k93.M w base ok x cs) : cs = [.bool x.f0, .string x.f1, .bool x.f2] := by
 obtain ⟨_, _, rfl, rfl, ⟨_, _, rfl, rfl, rfl⟩⟩ := h
 exact rfl
theorem k93_mk (w : World) (x : S93)  : k93.K w x [.bool x.f0, .string x.f1, .bool x.f2] := ⟨[.bool x.f0], [.string x.f1, .bool x.f2], rfl, rfl, ⟨[.string x.f1], [.bool x.f2], rfl, rfl, rfl⟩⟩
theorem k93_mkM (w : World) (base : Nat) (ok : Nat → Prop) (x : S93)  : k93.M w base ok x [.bool x.f0, .string x.f1, .bool x.f2] := ⟨[.bool x.f0], [.string x.f1, .bool x.f2], rfl, rfl, ⟨[.string x.f1], [.bool x.f2], rfl, rfl, rfl⟩⟩
def rd_T93 (xs : List S93) (i : Int) : S93 := xs.getD i.toNat z93
theorem at_T93 {w : World} {A : Option Addr} {n : Nat} {xs : List S93} (h : Kd.C k93 w A n xs) (i : Int) (h0 : 0 ≤ i) (h1 : i < n) : ∃ ad , A = some ad ∧ w.cell? (ad.add (i.toNat * 3)) = some (.bool (rd_T93 xs i).f0) ∧ w.cell? ⟨(ad.add (i.toNat * 3)).block, (ad.add (i.toNat * 3)).off + 1, none⟩ = some (.string (rd_T93 xs i).f1) ∧ w.cell? ⟨(ad.add (i.toNat * 3)).block, (ad.add (i.toNat * 3)).off + 2, none⟩ = some (.bool (rd_T93 xs i).f2) := by
 obtain ⟨ad, c, e, _, hK, hc0⟩ := Kd.C_get h z93 i h0 h1
 have hc : ∀ j u, c[j]? = some u → w.cell? (ad.add (i.toNat * 3 + j)) = some u := hc0
 obtain rfl := k93_open hK
 exact ⟨ad, e, hc 0 _ rfl, by rw [← add_field _ _ 1 (by omega)]; exact hc 1 _ rfl, by rw [← add_field _ _ 2 (by omega)]; exact hc 2 _ rfl⟩

structure S113 where
 f0 : Int
 f1 : Int
 f2 : Int
 f3 : Bool
def z113 : S113 := ⟨(0 : Int), (0 : Int), (0 : Int), false⟩
def k113 : Kd S113 := Kd.iso (Kd.pair (Kd.int .i64) (Kd.pair (Kd.int .i64) (Kd.pair (Kd.int .i64) Kd.bool))) (fun x : S113 => (x.f0, x.f1, x.f2, x.f3))
theorem k113_open {w : World} {x : S113} {cs : List Value} (h : k113.K w x cs) : cs = [.int .i64 x.f0, .int .i64 x.f1, .int .i64 x.f2, .bool x.f3] := by
 obtain ⟨_, _, rfl, rfl, ⟨_, _, rfl, rfl, ⟨_, _, rfl, rfl, rfl⟩⟩⟩ := h
 exact rfl
theorem k113_openM {w : World} {base : Nat} {ok : Nat → Prop} {x : S113} {cs : List Value} (h : k113.M w base ok x cs) : cs = [.int .i64 x.f0, .int .i64 x.f1, .int .i64 x.f2, .bool x.f3] := by
 obtain ⟨_, _, rfl, rfl, ⟨_, _, rfl, rfl, ⟨_, _, rfl, rfl, rfl⟩⟩⟩ := h
 exact rfl
theorem k113_mk (w : World) (x : S113)  : k113.K w x [.int .i64 x.f0, .int .i64 x.f1, .int .i64 x.f2, .bool x.f3] := ⟨[.int .i64 x.f0], [.int .i64 x.f1, .int .i64 x.f2, .bool x.f3], rfl, rfl, ⟨[.int .i64 x.f1], [.int .i64 x.f2, .bool x.f3], rfl, rfl, ⟨[.int .i64 x.f2], [.bool x.f3], rfl, rfl, rfl⟩⟩⟩
theorem k113_mkM (w : World) (base : Nat) (ok : Nat → Prop) (x : S113)  : k113.M w base ok x [.int .i64 x.f0, .int .i64 x.f1, .int .i64 x.f2, .bool x.f3] := ⟨[.int .i64 x.f0], [.int .i64 x.f1, .int .i64 x.f2, .bool x.f3], rfl, rfl, ⟨[.int .i64 x.f1], [.int .i64 x.f2, .bool x.f3], rfl, rfl, ⟨[.int .i64 x.f2], [.bool x.f3], rfl, rfl, rfl⟩⟩⟩
def rd_T113 (xs : List S113) (i : Int) : S113 := xs.getD i.toNat z113
theorem at_T113 {w : World} {A : Option Addr} {n : Nat} {xs : List S113} (h : Kd.C k113 w A n xs) (i : Int) (h0 : 0 ≤ i) (h1 : i < n) : ∃ ad , A = some ad ∧ w.cell? (ad.add (i.toNat * 4)) = some (.int .i64 (rd_T113 xs i).f0) ∧ w.cell? ⟨(ad.add (i.toNat * 4)).block, (ad.add (i.toNat * 4)).off + 1, none⟩ = some (.int .i64 (rd_T113 xs i).f1) ∧ w.cell? ⟨(ad.add (i.toNat * 4)).block, (ad.add (i.toNat * 4)).off + 2, none⟩ = some (.int .i64 (rd_T113 xs i).f2) ∧ w.cell? ⟨(ad.add (i.toNat * 4)).block, (ad.add (i.toNat * 4)).off + 3, none⟩ = some (.bool (rd_T113 xs i).f3) := by
 obtain ⟨ad, c, e, _, hK, hc0⟩ := Kd.C_get h z113 i h0 h1
 have hc : ∀ j u, c[j]? = some u → w.cell? (ad.add (i.toNat * 4 + j)) = some u := hc0
 obtain rfl := k113_open hK
 exact ⟨ad, e, hc 0 _ rfl, by rw [← add_field _ _ 1 (by omega)]; exact hc 1 _ rfl, by rw [← add_field _ _ 2 (by omega)]; exact hc 2 _ rfl, by rw [← add_field _ _ 3 (by omega)]; exact hc 3 _ rfl⟩

structure S59 where
 f0 : Int
 f1 : Int
 f2 : Int
 f3 : Int
def z59 : S59 := ⟨(0 : Int), (0 : Int), (0 : Int), (0 : Int)⟩
def k59 : Kd S59 := Kd.iso (Kd.pair (Kd.int .i64) (Kd.pair (Kd.int .i64) (Kd.pair (Kd.int .i64) (Kd.int .i64)))) (fun x : S59 => (x.f0, x.f1, x.f2, x.f3))
theorem k59_open {w : World} {x : S59} {cs : List Value} (h : k59.K w x cs) : cs = [.int .i64 x.f0, .int .i64 x.f1, .int .i64 x.f2, .int .i64 x.f3] := by
 obtain ⟨_, _, rfl, rfl, ⟨_, _, rfl, rfl, ⟨_, _, rfl, rfl, rfl⟩⟩⟩ := h
 exact rfl
theorem k59_openM {w : World} {base : Nat} {ok : Nat → Prop} {x : S59} {cs : List Value} (h : k59.M w base ok x cs) : cs = [.int .i64 x.f0, .int .i64 x.f1, .int .i64 x.f2, .int .i64 x.f3] := by
 obtain ⟨_, _, rfl, rfl, ⟨_, _, rfl, rfl, ⟨_, _, rfl, rfl, rfl⟩⟩⟩ := h
 exact rfl
theorem k59_mk (w : World) (x : S59)  : k59.K w x [.int .i64 x.f0, .int .i64 x.f1, .int .i64 x.f2, .int .i64 x.f3] := ⟨[.int .i64 x.f0], [.int .i64 x.f1, .int .i64 x.f2, .int .i64 x.f3], rfl, rfl, ⟨[.int .i64 x.f1], [.int .i64 x.f2, .int .i64 x.f3], rfl, rfl, ⟨[.int .i64 x.f2], [.int .i64 x.f3], rfl, rfl, rfl⟩⟩⟩
theorem k59_mkM (w : World) (base : Nat) (ok : Nat → Prop) (x : S59)  : k59.M w base ok x [.int .i64 x.f0, .int .i64 x.f1, .int .i64 x.f2, .int .i64 x.f3] := ⟨[.int .i64 x.f0], [.int .i64 x.f1, .int .i64 x.f2, .int .i64 x.f3], rfl, rfl, ⟨[.int .i64 x.f1], [.int .i64 x.f2, .int .i64 x.f3], rfl, rfl, ⟨[.int .i64 x.f2], [.int .i64 x.f3], rfl, rfl, rfl⟩⟩⟩
def rd_T59 (xs : List S59) (i : Int) : S59 := xs.getD i.toNat z59
theorem at_T59 {w : World} {A : Option Addr} {n : Nat} {xs : List S59} (h : Kd.C k59 w A n xs) (i : Int) (h0 : 0 ≤ i) (h1 : i < n) : ∃ ad , A = some ad ∧ w.cell? (ad.add (i.toNat * 4)) = some (.int .i64 (rd_T59 xs i).f0) ∧ w.cell? ⟨(ad.add (i.toNat * 4)).block, (ad.add (i.toNat * 4)).off + 1, none⟩ = some (.int .i64 (rd_T59 xs i).f1) ∧ w.cell? ⟨(ad.add (i.toNat * 4)).block, (ad.add (i.toNat * 4)).off + 2, none⟩ = some (.int .i64 (rd_T59 xs i).f2) ∧ w.cell? ⟨(ad.add (i.toNat * 4)).block, (ad.add (i.toNat * 4)).off + 3, none⟩ = some (.int .i64 (rd_T59 xs i).f3) := by
 obtain ⟨ad, c, e, _, hK, hc0⟩ := Kd.C_get h z59 i h0 h1
 have hc : ∀ j u, c[j]? = some u → w.cell? (ad.add (i.toNat * 4 + j)) = some u := hc0
 obtain rfl := k59_open hK
 exact ⟨ad, e, hc 0 _ rfl, by rw [← add_field _ _ 1 (by omega)]; exact hc 1 _ rfl, by rw [← add_field _ _ 2 (by omega)]; exact hc 2 _ rfl, by rw [← add_field _ _ 3 (by omega)]; exact hc 3 _ rfl⟩

structure S61 where
 f0 : Int
 f1 : Int
 f2 : S59
def z61 : S61 := ⟨(0 : Int), (0 : Int), z59⟩
def k61 : Kd S61 := Kd.iso (Kd.pair (Kd.int .i64) (Kd.pair (Kd.int .i64) k59)) (fun x : S61 => (x.f0, x.f1, x.f2))
theorem k61_open {w : World} {x : S61} {cs : List Value} (h : k61.K w x cs) : cs = [.int .i64 x.f0, .int .i64 x.f1, .int .i64 x.f2.f0, .int .i64 x.f2.f1, .int .i64 x.f2.f2, .int .i64 x.f2.f3] := by
 obtain ⟨_, _, rfl, rfl, ⟨_, _, rfl, rfl, s2⟩⟩ := h
 obtain rfl := k59_open s2
 exact rfl
theorem k61_openM {w : World} {base : Nat} {ok : Nat → Prop} {x : S61} {cs : List Value} (h : k61.M w base ok x cs) : cs = [.int .i64 x.f0, .int .i64 x.f1, .int .i64 x.f2.f0, .int .i64 x.f2.f1, .int .i64 x.f2.f2, .int .i64 x.f2.f3] := by
 obtain ⟨_, _, rfl, rfl, ⟨_, _, rfl, rfl, s2⟩⟩ := h
 obtain rfl := k59_openM s2
 exact rfl
theorem k61_mk (w : World) (x : S61)  : k61.K w x [.int .i64 x.f0, .int .i64 x.f1, .int .i64 x.f2.f0, .int .i64 x.f2.f1, .int .i64 x.f2.f2, .int .i64 x.f2.f3] := ⟨[.int .i64 x.f0], [.int .i64 x.f1, .int .i64 x.f2.f0, .int .i64 x.f2.f1, .int .i64 x.f2.f2, .int .i64 x.f2.f3], rfl, rfl, ⟨[.int .i64 x.f1], [.int .i64 x.f2.f0, .int .i64 x.f2.f1, .int .i64 x.f2.f2, .int .i64 x.f2.f3], rfl, rfl, (k59_mk w x.f2 )⟩⟩
theorem k61_mkM (w : World) (base : Nat) (ok : Nat → Prop) (x : S61)  : k61.M w base ok x [.int .i64 x.f0, .int .i64 x.f1, .int .i64 x.f2.f0, .int .i64 x.f2.f1, .int .i64 x.f2.f2, .int .i64 x.f2.f3] := ⟨[.int .i64 x.f0], [.int .i64 x.f1, .int .i64 x.f2.f0, .int .i64 x.f2.f1, .int .i64 x.f2.f2, .int .i64 x.f2.f3], rfl, rfl, ⟨[.int .i64 x.f1], [.int .i64 x.f2.f0, .int .i64 x.f2.f1, .int .i64 x.f2.f2, .int .i64 x.f2.f3], rfl, rfl, (k59_mkM w base ok x.f2 )⟩⟩
def rd_T61 (xs : List S61) (i : Int) : S61 := xs.getD i.toNat z61
theorem at_T61 {w : World} {A : Option Addr} {n : Nat} {xs : List S61} (h : Kd.C k61 w A n xs) (i : Int) (h0 : 0 ≤ i) (h1 : i < n) : ∃ ad , A = some ad ∧ w.cell? (ad.add (i.toNat * 6)) = some (.int .i64 (rd_T61 xs i).f0) ∧ w.cell? ⟨(ad.add (i.toNat * 6)).block, (ad.add (i.toNat * 6)).off + 1, none⟩ = some (.int .i64 (rd_T61 xs i).f1) ∧ w.cell? ⟨(ad.add (i.toNat * 6)).block, (ad.add (i.toNat * 6)).off + 2, none⟩ = some (.int .i64 (rd_T61 xs i).f2.f0) ∧ w.cell? ⟨(ad.add (i.toNat * 6)).block, (ad.add (i.toNat * 6)).off + 3, none⟩ = some (.int .i64 (rd_T61 xs i).f2.f1) ∧ w.cell? ⟨(ad.add (i.toNat * 6)).block, (ad.add (i.toNat * 6)).off + 4, none⟩ = some (.int .i64 (rd_T61 xs i).f2.f2) ∧ w.cell? ⟨(ad.add (i.toNat * 6)).block, (ad.add (i.toNat * 6)).off + 5, none⟩ = some (.int .i64 (rd_T61 xs i).f2.f3) := by
 obtain ⟨ad, c, e, _, hK, hc0⟩ := Kd.C_get h z61 i h0 h1
 have hc : ∀ j u, c[j]? = some u → w.cell? (ad.add (i.toNat * 6 + j)) = some u := hc0
 obtain rfl := k61_open hK
 exact ⟨ad, e, hc 0 _ rfl, by rw [← add_field _ _ 1 (by omega)]; exact hc 1 _ rfl, by rw [← add_field _ _ 2 (by omega)]; exact hc 2 _ rfl, by rw [← add_field _ _ 3 (by omega)]; exact hc 3 _ rfl, by rw [← add_field _ _ 4 (by omega)]; exact hc 4 _ rfl, by rw [← add_field _ _ 5 (by omega)]; exact hc 5 _ rfl⟩

structure S154 where
 f0 : Int
 f1 : Int
 f2 : Int
 f3 : Int
def z154 : S154 := ⟨(0 : Int), (0 : Int), (0 : Int), (0 : Int)⟩
def k154 : Kd S154 := Kd.iso (Kd.pair (Kd.int .i64) (Kd.pair (Kd.int .i64) (Kd.pair (Kd.int .i64) (Kd.int .i64)))) (fun x : S154 => (x.f0, x.f1, x.f2, x.f3))
theorem k154_open {w : World} {x : S154} {cs : List Value} (h : k154.K w x cs) : cs = [.int .i64 x.f0, .int .i64 x.f1, .int .i64 x.f2, .int .i64 x.f3] := by
 obtain ⟨_, _, rfl, rfl, ⟨_, _, rfl, rfl, ⟨_, _, rfl, rfl, rfl⟩⟩⟩ := h
 exact rfl
theorem k154_openM {w : World} {base : Nat} {ok : Nat → Prop} {x : S154} {cs : List Value} (h : k154.M w base ok x cs) : cs = [.int .i64 x.f0, .int .i64 x.f1, .int .i64 x.f2, .int .i64 x.f3] := by
 obtain ⟨_, _, rfl, rfl, ⟨_, _, rfl, rfl, ⟨_, _, rfl, rfl, rfl⟩⟩⟩ := h
 exact rfl
theorem k154_mk (w : World) (x : S154)  : k154.K w x [.int .i64 x.f0, .int .i64 x.f1, .int .i64 x.f2, .int .i64 x.f3] := ⟨[.int .i64 x.f0], [.int .i64 x.f1, .int .i64 x.f2, .int .i64 x.f3], rfl, rfl, ⟨[.int .i64 x.f1], [.int .i64 x.f2, .int .i64 x.f3], rfl, rfl, ⟨[.int .i64 x.f2], [.int .i64 x.f3], rfl, rfl, rfl⟩⟩⟩
theorem k154_mkM (w : World) (base : Nat) (ok : Nat → Prop) (x : S154)  : k154.M w base ok x [.int .i64 x.f0, .int .i64 x.f1, .int .i64 x.f2, .int .i64 x.f3] := ⟨[.int .i64 x.f0], [.int .i64 x.f1, .int .i64 x.f2, .int .i64 x.f3], rfl, rfl, ⟨[.int .i64 x.f1], [.int .i64 x.f2, .int .i64 x.f3], rfl, rfl, ⟨[.int .i64 x.f2], [.int .i64 x.f3], rfl, rfl, rfl⟩⟩⟩
def rd_T154 (xs : List S154) (i : Int) : S154 := xs.getD i.toNat z154
theorem at_T154 {w : World} {A : Option Addr} {n : Nat} {xs : List S154} (h : Kd.C k154 w A n xs) (i : Int) (h0 : 0 ≤ i) (h1 : i < n) : ∃ ad , A = some ad ∧ w.cell? (ad.add (i.toNat * 4)) = some (.int .i64 (rd_T154 xs i).f0) ∧ w.cell? ⟨(ad.add (i.toNat * 4)).block, (ad.add (i.toNat * 4)).off + 1, none⟩ = some (.int .i64 (rd_T154 xs i).f1) ∧ w.cell? ⟨(ad.add (i.toNat * 4)).block, (ad.add (i.toNat * 4)).off + 2, none⟩ = some (.int .i64 (rd_T154 xs i).f2) ∧ w.cell? ⟨(ad.add (i.toNat * 4)).block, (ad.add (i.toNat * 4)).off + 3, none⟩ = some (.int .i64 (rd_T154 xs i).f3) := by
 obtain ⟨ad, c, e, _, hK, hc0⟩ := Kd.C_get h z154 i h0 h1
 have hc : ∀ j u, c[j]? = some u → w.cell? (ad.add (i.toNat * 4 + j)) = some u := hc0
 obtain rfl := k154_open hK
 exact ⟨ad, e, hc 0 _ rfl, by rw [← add_field _ _ 1 (by omega)]; exact hc 1 _ rfl, by rw [← add_field _ _ 2 (by omega)]; exact hc 2 _ rfl, by rw [← add_field _ _ 3 (by omega)]; exact hc 3 _ rfl⟩

def rd_L18 (xs : List (List S154)) (i : Int) : (List S154) := xs.getD i.toNat ([] : List S154)
theorem at_L18 {w : World} {A : Option Addr} {n : Nat} {xs : List (List S154)} (h : Kd.C (Kd.slice 154 k154) w A n xs) (i : Int) (h0 : 0 ≤ i) (h1 : i < n) : ∃ ad A0 c0, A = some ad ∧ w.cell? (ad.add i.toNat) = some (.slice A0 (rd_L18 xs i).length c0) ∧ (rd_L18 xs i).length ≤ c0 ∧ k154.C w A0 (rd_L18 xs i).length (rd_L18 xs i) := by
 obtain ⟨ad, c, e, _, hK, hc0⟩ := Kd.C_get h ([] : List S154) i h0 h1
 have hc : ∀ j u, c[j]? = some u → w.cell? (ad.add (i.toNat * 1 + j)) = some u := hc0
 obtain ⟨A0, c0, rfl, l0, g0⟩ := hK
 exact ⟨ad, A0, c0, e, by have hq := hc 0 _ rfl; rwa [Nat.mul_one, Nat.add_zero] at hq, l0, g0⟩

def rd_L19 (xs : List (List (List S154))) (i : Int) : (List (List S154)) := xs.getD i.toNat ([] : List (List S154))
theorem at_L19 {w : World} {A : Option Addr} {n : Nat} {xs : List (List (List S154))} (h : Kd.C (Kd.slice 135 (Kd.slice 154 k154)) w A n xs) (i : Int) (h0 : 0 ≤ i) (h1 : i < n) : ∃ ad A0 c0, A = some ad ∧ w.cell? (ad.add i.toNat) = some (.slice A0 (rd_L19 xs i).length c0) ∧ (rd_L19 xs i).length ≤ c0 ∧ (Kd.slice 154 k154).C w A0 (rd_L19 xs i).length (rd_L19 xs i) := by
 obtain ⟨ad, c, e, _, hK, hc0⟩ := Kd.C_get h ([] : List (List S154)) i h0 h1
 have hc : ∀ j u, c[j]? = some u → w.cell? (ad.add (i.toNat * 1 + j)) = some u := hc0
 obtain ⟨A0, c0, rfl, l0, g0⟩ := hK
 exact ⟨ad, A0, c0, e, by have hq := hc 0 _ rfl; rwa [Nat.mul_one, Nat.add_zero] at hq, l0, g0⟩

def rd_L20 (xs : List (List S59)) (i : Int) : (List S59) := xs.getD i.toNat ([] : List S59)
theorem at_L20 {w : World} {A : Option Addr} {n : Nat} {xs : List (List S59)} (h : Kd.C (Kd.slice 59 k59) w A n xs) (i : Int) (h0 : 0 ≤ i) (h1 : i < n) : ∃ ad A0 c0, A = some ad ∧ w.cell? (ad.add i.toNat) = some (.slice A0 (rd_L20 xs i).length c0) ∧ (rd_L20 xs i).length ≤ c0 ∧ k59.C w A0 (rd_L20 xs i).length (rd_L20 xs i) := by
 obtain ⟨ad, c, e, _, hK, hc0⟩ := Kd.C_get h ([] : List S59) i h0 h1
 have hc : ∀ j u, c[j]? = some u → w.cell? (ad.add (i.toNat * 1 + j)) = some u := hc0
 obtain ⟨A0, c0, rfl, l0, g0⟩ := hK
 exact ⟨ad, A0, c0, e, by have hq := hc 0 _ rfl; rwa [Nat.mul_one, Nat.add_zero] at hq, l0, g0⟩

structure S101 where
 f0 : (List S59)
 f1 : Int
 f2 : Int
 f3 : Int
def z101 : S101 := ⟨([] : List S59), (0 : Int), (0 : Int), (0 : Int)⟩
def k101 : Kd S101 := Kd.iso (Kd.pair (Kd.slice 59 k59) (Kd.pair (Kd.int .i64) (Kd.pair (Kd.int .i64) (Kd.int .i64)))) (fun x : S101 => (x.f0, x.f1, x.f2, x.f3))
theorem k101_open {w : World} {x : S101} {cs : List Value} (h : k101.K w x cs) : ∃ A0 c0, cs = [.slice A0 x.f0.length c0, .int .i64 x.f1, .int .i64 x.f2, .int .i64 x.f3] ∧ x.f0.length ≤ c0 ∧ k59.C w A0 x.f0.length x.f0 := by
 obtain ⟨_, _, rfl, ⟨A0, c0, rfl, l0, g0⟩, ⟨_, _, rfl, rfl, ⟨_, _, rfl, rfl, rfl⟩⟩⟩ := h
 exact ⟨A0, c0, rfl, l0, g0⟩
theorem k101_openM {w : World} {base : Nat} {ok : Nat → Prop} {x : S101} {cs : List Value} (h : k101.M w base ok x cs) : ∃ v0, cs = [v0, .int .i64 x.f1, .int .i64 x.f2, .int .i64 x.f3] ∧ k59.R 59 w base ok v0 x.f0 := by
 obtain ⟨_, _, rfl, ⟨v0, rfl, g0⟩, ⟨_, _, rfl, rfl, ⟨_, _, rfl, rfl, rfl⟩⟩⟩ := h
 exact ⟨v0, rfl, g0⟩
theorem k101_mk (w : World) (x : S101) {A0 : Option Addr} {c0 : Nat} (l0 : x.f0.length ≤ c0) (g0 : k59.C w A0 x.f0.length x.f0) : k101.K w x [.slice A0 x.f0.length c0, .int .i64 x.f1, .int .i64 x.f2, .int .i64 x.f3] := ⟨[.slice A0 x.f0.length c0], [.int .i64 x.f1, .int .i64 x.f2, .int .i64 x.f3], rfl, ⟨A0, c0, rfl, l0, g0⟩, ⟨[.int .i64 x.f1], [.int .i64 x.f2, .int .i64 x.f3], rfl, rfl, ⟨[.int .i64 x.f2], [.int .i64 x.f3], rfl, rfl, rfl⟩⟩⟩
theorem k101_mkM (w : World) (base : Nat) (ok : Nat → Prop) (x : S101) {v0 : Value} (g0 : k59.R 59 w base ok v0 x.f0) : k101.M w base ok x [v0, .int .i64 x.f1, .int .i64 x.f2, .int .i64 x.f3] := ⟨[v0], [.int .i64 x.f1, .int .i64 x.f2, .int .i64 x.f3], rfl, ⟨v0, rfl, g0⟩, ⟨[.int .i64 x.f1], [.int .i64 x.f2, .int .i64 x.f3], rfl, rfl, ⟨[.int .i64 x.f2], [.int .i64 x.f3], rfl, rfl, rfl⟩⟩⟩
def rd_T101 (xs : List S101) (i : Int) : S101 := xs.getD i.toNat z101
theorem at_T101 {w : World} {A : Option Addr} {n : Nat} {xs : List S101} (h : Kd.C k101 w A n xs) (i : Int) (h0 : 0 ≤ i) (h1 : i < n) : ∃ ad A0 c0, A = some ad ∧ w.cell? (ad.add (i.toNat * 4)) = some (.slice A0 (rd_T101 xs i).f0.length c0) ∧ w.cell? ⟨(ad.add (i.toNat * 4)).block, (ad.add (i.toNat * 4)).off + 1, none⟩ = some (.int .i64 (rd_T101 xs i).f1) ∧ w.cell? ⟨(ad.add (i.toNat * 4)).block, (ad.add (i.toNat * 4)).off + 2, none⟩ = some (.int .i64 (rd_T101 xs i).f2) ∧ w.cell? ⟨(ad.add (i.toNat * 4)).block, (ad.add (i.toNat * 4)).off + 3, none⟩ = some (.int .i64 (rd_T101 xs i).f3) ∧ (rd_T101 xs i).f0.length ≤ c0 ∧ k59.C w A0 (rd_T101 xs i).f0.length (rd_T101 xs i).f0 := by
 obtain ⟨ad, c, e, _, hK, hc0⟩ := Kd.C_get h z101 i h0 h1
 have hc : ∀ j u, c[j]? = some u → w.cell? (ad.add (i.toNat * 4 + j)) = some u := hc0
 obtain ⟨A0, c0, rfl, l0, g0⟩ := k101_open hK
 exact ⟨ad, A0, c0, e, hc 0 _ rfl, by rw [← add_field _ _ 1 (by omega)]; exact hc 1 _ rfl, by rw [← add_field _ _ 2 (by omega)]; exact hc 2 _ rfl, by rw [← add_field _ _ 3 (by omega)]; exact hc 3 _ rfl, l0, g0⟩

structure S104 where
 f0 : Int
 f1 : Int
 f2 : (List S59)
 f3 : Int
 f4 : Int
def z104 : S104 := ⟨(0 : Int), (0 : Int), ([] : List S59), (0 : Int), (0 : Int)⟩
def k104 : Kd S104 := Kd.iso (Kd.pair (Kd.int .i64) (Kd.pair (Kd.int .i64) (Kd.pair (Kd.slice 59 k59) (Kd.pair (Kd.int .i64) (Kd.int .i64))))) (fun x : S104 => (x.f0, x.f1, x.f2, x.f3, x.f4))
theorem k104_open {w : World} {x : S104} {cs : List Value} (h : k104.K w x cs) : ∃ A2 c2, cs = [.int .i64 x.f0, .int .i64 x.f1, .slice A2 x.f2.length c2, .int .i64 x.f3, .int .i64 x.f4] ∧ x.f2.length ≤ c2 ∧ k59.C w A2 x.f2.length x.f2 := by
 obtain ⟨_, _, rfl, rfl, ⟨_, _, rfl, rfl, ⟨_, _, rfl, ⟨A2, c2, rfl, l2, g2⟩, ⟨_, _, rfl, rfl, rfl⟩⟩⟩⟩ := h
 exact ⟨A2, c2, rfl, l2, g2⟩
theorem k104_openM {w : World} {base : Nat} {ok : Nat → Prop} {x : S104} {cs : List Value} (h : k104.M w base ok x cs) : ∃ v2, cs = [.int .i64 x.f0, .int .i64 x.f1, v2, .int .i64 x.f3, .int .i64 x.f4] ∧ k59.R 59 w base ok v2 x.f2 := by
 obtain ⟨_, _, rfl, rfl, ⟨_, _, rfl, rfl, ⟨_, _, rfl, ⟨v2, rfl, g2⟩, ⟨_, _, rfl, rfl, rfl⟩⟩⟩⟩ := h
 exact ⟨v2, rfl, g2⟩
theorem k104_mk (w : World) (x : S104) {A2 : Option Addr} {c2 : Nat} (l2 : x.f2.length ≤ c2) (g2 : k59.C w A2 x.f2.length x.f2) : k104.K w x [.int .i64 x.f0, .int .i64 x.f1, .slice A2 x.f2.length c2, .int .i64 x.f3, .int .i64 x.f4] := ⟨[.int .i64 x.f0], [.int .i64 x.f1, .slice A2 x.f2.length c2, .int .i64 x.f3, .int .i64 x.f4], rfl, rfl, ⟨[.int .i64 x.f1], [.slice A2 x.f2.length c2, .int .i64 x.f3, .int .i64 x.f4], rfl, rfl, ⟨[.slice A2 x.f2.length c2], [.int .i64 x.f3, .int .i64 x.f4], rfl, ⟨A2, c2, rfl, l2, g2⟩, ⟨[.int .i64 x.f3], [.int .i64 x.f4], rfl, rfl, rfl⟩⟩⟩⟩
theorem k104_mkM (w : World) (base : Nat) (ok : Nat → Prop) (x : S104) {v2 : Value} (g2 : k59.R 59 w base ok v2 x.f2) : k104.M w base ok x [.int .i64 x.f0, .int .i64 x.f1, v2, .int .i64 x.f3, .int .i64 x.f4] := ⟨[.int .i64 x.f0], [.int .i64 x.f1, v2, .int .i64 x.f3, .int .i64 x.f4], rfl, rfl, ⟨[.int .i64 x.f1], [v2, .int .i64 x.f3, .int .i64 x.f4], rfl, rfl, ⟨[v2], [.int .i64 x.f3, .int .i64 x.f4], rfl, ⟨v2, rfl, g2⟩, ⟨[.int .i64 x.f3], [.int .i64 x.f4], rfl, rfl, rfl⟩⟩⟩⟩
def rd_T104 (xs : List S104) (i : Int) : S104 := xs.getD i.toNat z104
theorem at_T104 {w : World} {A : Option Addr} {n : Nat} {xs : List S104} (h : Kd.C k104 w A n xs) (i : Int) (h0 : 0 ≤ i) (h1 : i < n) : ∃ ad A2 c2, A = some ad ∧ w.cell? (ad.add (i.toNat * 5)) = some (.int .i64 (rd_T104 xs i).f0) ∧ w.cell? ⟨(ad.add (i.toNat * 5)).block, (ad.add (i.toNat * 5)).off + 1, none⟩ = some (.int .i64 (rd_T104 xs i).f1) ∧ w.cell? ⟨(ad.add (i.toNat * 5)).block, (ad.add (i.toNat * 5)).off + 2, none⟩ = some (.slice A2 (rd_T104 xs i).f2.length c2) ∧ w.cell? ⟨(ad.add (i.toNat * 5)).block, (ad.add (i.toNat * 5)).off + 3, none⟩ = some (.int .i64 (rd_T104 xs i).f3) ∧ w.cell? ⟨(ad.add (i.toNat * 5)).block, (ad.add (i.toNat * 5)).off + 4, none⟩ = some (.int .i64 (rd_T104 xs i).f4) ∧ (rd_T104 xs i).f2.length ≤ c2 ∧ k59.C w A2 (rd_T104 xs i).f2.length (rd_T104 xs i).f2 := by
 obtain ⟨ad, c, e, _, hK, hc0⟩ := Kd.C_get h z104 i h0 h1
 have hc : ∀ j u, c[j]? = some u → w.cell? (ad.add (i.toNat * 5 + j)) = some u := hc0
 obtain ⟨A2, c2, rfl, l2, g2⟩ := k104_open hK
 exact ⟨ad, A2, c2, e, hc 0 _ rfl, by rw [← add_field _ _ 1 (by omega)]; exact hc 1 _ rfl, by rw [← add_field _ _ 2 (by omega)]; exact hc 2 _ rfl, by rw [← add_field _ _ 3 (by omega)]; exact hc 3 _ rfl, by rw [← add_field _ _ 4 (by omega)]; exact hc 4 _ rfl, l2, g2⟩

structure S142 where
 f0 : Int
 f1 : Int
 f2 : S59
def z142 : S142 := ⟨(0 : Int), (0 : Int), z59⟩
def k142 : Kd S142 := Kd.iso (Kd.pair (Kd.int .i64) (Kd.pair (Kd.int .i64) k59)) (fun x : S142 => (x.f0, x.f1, x.f2))
theorem k142_open {w : World} {x : S142} {cs : List Value} (h : k142.K w x cs) : cs = [.int .i64 x.f0, .int .i64 x.f1, .int .i64 x.f2.f0, .int .i64 x.f2.f1, .int .i64 x.f2.f2, .int .i64 x.f2.f3] := by
 obtain ⟨_, _, rfl, rfl, ⟨_, _, rfl, rfl, s2⟩⟩ := h
 obtain rfl := k59_open s2
 exact rfl
theorem k142_openM {w : World} {base : Nat} {ok : Nat → Prop} {x : S142} {cs : List Value} (h : k142.M w base ok x cs) : cs = [.int .i64 x.f0, .int .i64 x.f1, .int .i64 x.f2.f0, .int .i64 x.f2.f1, .int .i64 x.f2.f2, .int .i64 x.f2.f3] := by
 obtain ⟨_, _, rfl, rfl, ⟨_, _, rfl, rfl, s2⟩⟩ := h
 obtain rfl := k59_openM s2
 exact rfl
theorem k142_mk (w : World) (x : S142)  : k142.K w x [.int .i64 x.f0, .int .i64 x.f1, .int .i64 x.f2.f0, .int .i64 x.f2.f1, .int .i64 x.f2.f2, .int .i64 x.f2.f3] := ⟨[.int .i64 x.f0], [.int .i64 x.f1, .int .i64 x.f2.f0, .int .i64 x.f2.f1, .int .i64 x.f2.f2, .int .i64 x.f2.f3], rfl, rfl, ⟨[.int .i64 x.f1], [.int .i64 x.f2.f0, .int .i64 x.f2.f1, .int .i64 x.f2.f2, .int .i64 x.f2.f3], rfl, rfl, (k59_mk w x.f2 )⟩⟩
theorem k142_mkM (w : World) (base : Nat) (ok : Nat → Prop) (x : S142)  : k142.M w base ok x [.int .i64 x.f0, .int .i64 x.f1, .int .i64 x.f2.f0, .int .i64 x.f2.f1, .int .i64 x.f2.f2, .int .i64 x.f2.f3] := ⟨[.int .i64 x.f0], [.int .i64 x.f1, .int .i64 x.f2.f0, .int .i64 x.f2.f1, .int .i64 x.f2.f2, .int .i64 x.f2.f3], rfl, rfl, ⟨[.int .i64 x.f1], [.int .i64 x.f2.f0, .int .i64 x.f2.f1, .int .i64 x.f2.f2, .int .i64 x.f2.f3], rfl, rfl, (k59_mkM w base ok x.f2 )⟩⟩
def rd_T142 (xs : List S142) (i : Int) : S142 := xs.getD i.toNat z142
theorem at_T142 {w : World} {A : Option Addr} {n : Nat} {xs : List S142} (h : Kd.C k142 w A n xs) (i : Int) (h0 : 0 ≤ i) (h1 : i < n) : ∃ ad , A = some ad ∧ w.cell? (ad.add (i.toNat * 6)) = some (.int .i64 (rd_T142 xs i).f0) ∧ w.cell? ⟨(ad.add (i.toNat * 6)).block, (ad.add (i.toNat * 6)).off + 1, none⟩ = some (.int .i64 (rd_T142 xs i).f1) ∧ w.cell? ⟨(ad.add (i.toNat * 6)).block, (ad.add (i.toNat * 6)).off + 2, none⟩ = some (.int .i64 (rd_T142 xs i).f2.f0) ∧ w.cell? ⟨(ad.add (i.toNat * 6)).block, (ad.add (i.toNat * 6)).off + 3, none⟩ = some (.int .i64 (rd_T142 xs i).f2.f1) ∧ w.cell? ⟨(ad.add (i.toNat * 6)).block, (ad.add (i.toNat * 6)).off + 4, none⟩ = some (.int .i64 (rd_T142 xs i).f2.f2) ∧ w.cell? ⟨(ad.add (i.toNat * 6)).block, (ad.add (i.toNat * 6)).off + 5, none⟩ = some (.int .i64 (rd_T142 xs i).f2.f3) := by
 obtain ⟨ad, c, e, _, hK, hc0⟩ := Kd.C_get h z142 i h0 h1
 have hc : ∀ j u, c[j]? = some u → w.cell? (ad.add (i.toNat * 6 + j)) = some u := hc0
 obtain rfl := k142_open hK
 exact ⟨ad, e, hc 0 _ rfl, by rw [← add_field _ _ 1 (by omega)]; exact hc 1 _ rfl, by rw [← add_field _ _ 2 (by omega)]; exact hc 2 _ rfl, by rw [← add_field _ _ 3 (by omega)]; exact hc 3 _ rfl, by rw [← add_field _ _ 4 (by omega)]; exact hc 4 _ rfl, by rw [← add_field _ _ 5 (by omega)]; exact hc 5 _ rfl⟩

structure S108 where
 f0 : Bool
 f1 : ByteArray
 f2 : Bool
def z108 : S108 := ⟨false, (⟨#[]⟩ : ByteArray), false⟩
def k108 : Kd S108 := Kd.iso (Kd.pair Kd.bool (Kd.pair Kd.string Kd.bool)) (fun x : S108 => (x.f0, x.f1, x.f2))
theorem k108_open {w : World} {x : S108} {cs : List Value} (h : k108.K w x cs) : cs = [.bool x.f0, .string x.f1, .bool x.f2] := by
 obtain ⟨_, _, rfl, rfl, ⟨_, _, rfl, rfl, rfl⟩⟩ := h
 exact rfl
theorem k108_openM {w : World} {base : Nat} {ok : Nat → Prop} {x : S108} {cs : List Value} (h : k108.M w base ok x cs) : cs = [.bool x.f0, .string x.f1, .bool x.f2] := by
 obtain ⟨_, _, rfl, rfl, ⟨_, _, rfl, rfl, rfl⟩⟩ := h
 exact rfl
theorem k108_mk (w : World) (x : S108)  : k108.K w x [.bool x.f0, .string x.f1, .bool x.f2] := ⟨[.bool x.f0], [.string x.f1, .bool x.f2], rfl, rfl, ⟨[.string x.f1], [.bool x.f2], rfl, rfl, rfl⟩⟩
theorem k108_mkM (w : World) (base : Nat) (ok : Nat → Prop) (x : S108)  : k108.M w base ok x [.bool x.f0, .string x.f1, .bool x.f2] := ⟨[.bool x.f0], [.string x.f1, .bool x.f2], rfl, rfl, ⟨[.string x.f1], [.bool x.f2], rfl, rfl, rfl⟩⟩
def rd_T108 (xs : List S108) (i : Int) : S108 := xs.getD i.toNat z108
theorem at_T108 {w : World} {A : Option Addr} {n : Nat} {xs : List S108} (h : Kd.C k108 w A n xs) (i : Int) (h0 : 0 ≤ i) (h1 : i < n) : ∃ ad , A = some ad ∧ w.cell? (ad.add (i.toNat * 3)) = some (.bool (rd_T108 xs i).f0) ∧ w.cell? ⟨(ad.add (i.toNat * 3)).block, (ad.add (i.toNat * 3)).off + 1, none⟩ = some (.string (rd_T108 xs i).f1) ∧ w.cell? ⟨(ad.add (i.toNat * 3)).block, (ad.add (i.toNat * 3)).off + 2, none⟩ = some (.bool (rd_T108 xs i).f2) := by
 obtain ⟨ad, c, e, _, hK, hc0⟩ := Kd.C_get h z108 i h0 h1
 have hc : ∀ j u, c[j]? = some u → w.cell? (ad.add (i.toNat * 3 + j)) = some u := hc0
 obtain rfl := k108_open hK
 exact ⟨ad, e, hc 0 _ rfl, by rw [← add_field _ _ 1 (by omega)]; exact hc 1 _ rfl, by rw [← add_field _ _ 2 (by omega)]; exact hc 2 _ rfl⟩

structure S111 where
 f0 : Int
 f1 : Int
 f2 : Int
 f3 : Bool
def z111 : S111 := ⟨(0 : Int), (0 : Int), (0 : Int), false⟩
def k111 : Kd S111 := Kd.iso (Kd.pair (Kd.int .i64) (Kd.pair (Kd.int .i64) (Kd.pair (Kd.int .i64) Kd.bool))) (fun x : S111 => (x.f0, x.f1, x.f2, x.f3))
theorem k111_open {w : World} {x : S111} {cs : List Value} (h : k111.K w x cs) : cs = [.int .i64 x.f0, .int .i64 x.f1, .int .i64 x.f2, .bool x.f3] := by
 obtain ⟨_, _, rfl, rfl, ⟨_, _, rfl, rfl, ⟨_, _, rfl, rfl, rfl⟩⟩⟩ := h
 exact rfl
theorem k111_openM {w : World} {base : Nat} {ok : Nat → Prop} {x : S111} {cs : List Value} (h : k111.M w base ok x cs) : cs = [.int .i64 x.f0, .int .i64 x.f1, .int .i64 x.f2, .bool x.f3] := by
 obtain ⟨_, _, rfl, rfl, ⟨_, _, rfl, rfl, ⟨_, _, rfl, rfl, rfl⟩⟩⟩ := h
 exact rfl
theorem k111_mk (w : World) (x : S111)  : k111.K w x [.int .i64 x.f0, .int .i64 x.f1, .int .i64 x.f2, .bool x.f3] := ⟨[.int .i64 x.f0], [.int .i64 x.f1, .int .i64 x.f2, .bool x.f3], rfl, rfl, ⟨[.int .i64 x.f1], [.int .i64 x.f2, .bool x.f3], rfl, rfl, ⟨[.int .i64 x.f2], [.bool x.f3], rfl, rfl, rfl⟩⟩⟩
theorem k111_mkM (w : World) (base : Nat) (ok : Nat → Prop) (x : S111)  : k111.M w base ok x [.int .i64 x.f0, .int .i64 x.f1, .int .i64 x.f2, .bool x.f3] := ⟨[.int .i64 x.f0], [.int .i64 x.f1, .int .i64 x.f2, .bool x.f3], rfl, rfl, ⟨[.int .i64 x.f1], [.int .i64 x.f2, .bool x.f3], rfl, rfl, ⟨[.int .i64 x.f2], [.bool x.f3], rfl, rfl, rfl⟩⟩⟩
def rd_T111 (xs : List S111) (i : Int) : S111 := xs.getD i.toNat z111
theorem at_T111 {w : World} {A : Option Addr} {n : Nat} {xs : List S111} (h : Kd.C k111 w A n xs) (i : Int) (h0 : 0 ≤ i) (h1 : i < n) : ∃ ad , A = some ad ∧ w.cell? (ad.add (i.toNat * 4)) = some (.int .i64 (rd_T111 xs i).f0) ∧ w.cell? ⟨(ad.add (i.toNat * 4)).block, (ad.add (i.toNat * 4)).off + 1, none⟩ = some (.int .i64 (rd_T111 xs i).f1) ∧ w.cell? ⟨(ad.add (i.toNat * 4)).block, (ad.add (i.toNat * 4)).off + 2, none⟩ = some (.int .i64 (rd_T111 xs i).f2) ∧ w.cell? ⟨(ad.add (i.toNat * 4)).block, (ad.add (i.toNat * 4)).off + 3, none⟩ = some (.bool (rd_T111 xs i).f3) := by
 obtain ⟨ad, c, e, _, hK, hc0⟩ := Kd.C_get h z111 i h0 h1
 have hc : ∀ j u, c[j]? = some u → w.cell? (ad.add (i.toNat * 4 + j)) = some u := hc0
 obtain rfl := k111_open hK
 exact ⟨ad, e, hc 0 _ rfl, by rw [← add_field _ _ 1 (by omega)]; exact hc 1 _ rfl, by rw [← add_field _ _ 2 (by omega)]; exact hc 2 _ rfl, by rw [← add_field _ _ 3 (by omega)]; exact hc 3 _ rfl⟩

def rd_L26 (xs : List (List Int)) (i : Int) : (List Int) := xs.getD i.toNat ([] : List Int)
theorem at_L26 {w : World} {A : Option Addr} {n : Nat} {xs : List (List Int)} (h : Kd.C (Kd.slice 3 (Kd.int .i64)) w A n xs) (i : Int) (h0 : 0 ≤ i) (h1 : i < n) : ∃ ad A0 c0, A = some ad ∧ w.cell? (ad.add i.toNat) = some (.slice A0 (rd_L26 xs i).length c0) ∧ (rd_L26 xs i).length ≤ c0 ∧ (Kd.int .i64).C w A0 (rd_L26 xs i).length (rd_L26 xs i) := by
 obtain ⟨ad, c, e, _, hK, hc0⟩ := Kd.C_get h ([] : List Int) i h0 h1
 have hc : ∀ j u, c[j]? = some u → w.cell? (ad.add (i.toNat * 1 + j)) = some u := hc0
 obtain ⟨A0, c0, rfl, l0, g0⟩ := hK
 exact ⟨ad, A0, c0, e, by have hq := hc 0 _ rfl; rwa [Nat.mul_one, Nat.add_zero] at hq, l0, g0⟩

end Go.Proofs.YtcbjlcgfhbfneaaGreatDoor.PA

namespace Go.Proofs.YtcbjlcgfhbfneaaGreatDoor.PA
open Go.RowKit Go.Proofs.YtcbjlcgfhbfneaaGreatDoor.Short Go.Proofs.YtcbjlcgfhbfneaaGreatDoorW.PrintWords Go.Proofs.YtcbjlcgfhbfneaaGreatDoorW.PrintLast Go.Proofs.YtcbjlcgfhbfneaaGreatDoorW.PrintMore
attribute [local go_sem] max2_int min2_int max_two min_two max_three min_three max_four min_four   -- for this text's walks alone
set_option linter.unusedVariables false
set_option linter.unusedSimpArgs false

def laws_szInsS.f (l0 : List (S156)) (a1 : Int) : Option (Int) := if (wrap64 (a1 - (l0.length : Int))) < 0 then (some (-1)) else (some (wrap64 (a1 - (l0.length : Int))))
theorem laws_szInsS.calls (A0 : Option Addr) (c0 : Nat) (l0 : List (S156)) (a1 : Int) (r : Int) (w : World) (hr0 : Kd.C k156 w A0 l0.length l0) (hc0 : l0.length ≤ c0) (h : laws_szInsS.f l0 a1 = some r) :
 Calls Tryz.prog 65 #[.slice A0 l0.length c0, .int .i64 a1] w fun e w' => e = .returned (.int .i64 r) ∧ Drawn0 w w' := by
 have HR0 := Aside0.mk hr0
 have HC0 := Aside0.mk hc0
 clear hr0 hc0
 have H := h
 unfold laws_szInsS.f at H
 clear h
 by_cases c3 : (wrap64 (a1 - (l0.length : Int))) < 0
 rw [if_pos c3] at H
 have c3b0 := decide_eq_true c3
 clear c3
 obtain rfl := Option.some.inj H
 rotate_left
 rw [if_neg c3] at H
 have c3b0 := decide_eq_false c3
 clear c3
 obtain rfl := Option.some.inj H
 rotate_left
 all_goals go_enter Tryz.func65, Tryz.ntmps65
 all_goals go_wp2
 all_goals go_ret
 all_goals exact ⟨sr_, by repeat (first | exact Drawn0.refl _ | apply Drawn0.step)⟩

def laws_szInsSS.l0 : Nat → List (List (S156)) → Int → Int → Option (Int)
 | 0, _, _, _ => none
 | k + 1, x0, x1, x5 => if x5 < (x0.length : Int) then (if 0 ≤ x5 then ((laws_szInsS.f (rd_L2 x0 x5) x1).bind fun t102 => (if t102 < 0 then (some (-1)) else (laws_szInsSS.l0 k x0 t102 (wrap64 (x5 + 1))))) else (none)) else (some x1)
def laws_szInsSS.f (k : Nat) (l0 : List (List (S156))) (a1 : Int) : Option (Int) := if (wrap64 (a1 - (l0.length : Int))) < 0 then (some (-1)) else (laws_szInsSS.l0 k l0 (wrap64 (a1 - (l0.length : Int))) 0)
theorem laws_szInsSS.mono_l : ∀ k, (∀ y0 y1 y2, LeO (laws_szInsSS.l0 k y0 y1 y2) (laws_szInsSS.l0 (k + 1) y0 y1 y2))
 | 0 => fun _ _ _ r h => by simp [laws_szInsSS.l0] at h
 | k + 1 => by
  have ih0 := laws_szInsSS.mono_l k
  ·intro y0 y1 y2
   unfold laws_szInsSS.l0
   exact mo_
theorem laws_szInsSS.mono : ∀ a0 a1 k, LeO (laws_szInsSS.f k a0 a1) (laws_szInsSS.f (k + 1) a0 a1) := by
 intro a0 a1 k
 have ih0 := laws_szInsSS.mono_l k
 unfold laws_szInsSS.f
 exact mo_
theorem laws_szInsSS.calls (k : Nat) (A0 : Option Addr) (c0 : Nat) (l0 : List (List (S156))) (a1 : Int) (r : Int) (w : World) (hr0 : Kd.C (Kd.slice 156 k156) w A0 l0.length l0) (hc0 : l0.length ≤ c0) (h : laws_szInsSS.f k l0 a1 = some r) :
 Calls Tryz.prog 38 #[.slice A0 l0.length c0, .int .i64 a1] w fun e w' => e = .returned (.int .i64 r) ∧ Drawn0 w w' := by
 have HR0 := Aside0.mk hr0
 have HC0 := Aside0.mk hc0
 clear hr0 hc0
 have H := h
 unfold laws_szInsSS.f at H
 clear h
 by_cases c3 : (wrap64 (a1 - (l0.length : Int))) < 0
 ·rw [if_pos c3] at H
  have c3b0 := decide_eq_true c3
  clear c3
  obtain rfl := Option.some.inj H
  go_enter Tryz.func38, Tryz.ntmps38
  go_wp2
  go_ret
  exact ⟨sr_, by repeat (first | exact Drawn0.refl _ | apply Drawn0.step)⟩
 rw [if_neg c3] at H
 have c3b0 := decide_eq_false c3
 clear c3
 have H' := Aside0.mk H
 clear H
 go_enter Tryz.func38, Tryz.ntmps38
 go_wp2
 go_loopg [1, 5] k (fun kq v1 v5 w' => ∃ (x1_1 : Int) (x5_1 : Int), v1 = .int .i64 x1_1 ∧ v5 = .int .i64 x5_1 ∧ Aside0 (laws_szInsSS.l0 kq l0 x1_1 x5_1 = some r) ∧ Aside0 (kq ≤ k) ∧ Drawn0 w w')
 case atStart => exact ⟨(wrap64 (a1 - (l0.length : Int))), (0), (sr_), (sr_), H', ⟨Nat.le_refl _⟩, by repeat (first | exact Drawn0.refl _ | apply Drawn0.step)⟩
 clear H'
 try clear c3
 try clear c3b0
 obtain ⟨x1_1, x5_1, rfl, rfl, HA, HK1, ⟨m1, rfl⟩⟩ := hrel
 cases gk with
 | zero => exact absurd HA.out (by simp [laws_szInsSS.l0])
 | succ k1 => ?_
 have H := HA.out
 clear HA
 simp only [laws_szInsSS.l0] at H
 by_cases c4 : x5_1 < (l0.length : Int)
 rotate_left
 ·rw [if_neg c4] at H
  have c4b0 := decide_eq_false c4
  clear c4
  obtain rfl := Option.some.inj H
  go_wp2
  go_ret
  exact ⟨sr_, by repeat (first | exact Drawn0.refl _ | apply Drawn0.step)⟩
 rw [if_pos c4] at H
 have c4b0 := decide_eq_true c4
 clear c4
 by_cases c5 : 0 ≤ x5_1
 rotate_left
 ·exact nn_ c5 H
 rw [if_pos c5] at H
 have c5b0 := decide_eq_true c5
 clear c5
 replace H := bs_ H
 obtain ⟨t102, A6, H⟩ := H
 try dsimp only at H
 by_cases c7 : t102 < 0
 ·rw [if_pos c7] at H
  have c7b0 := decide_eq_true c7
  clear c7
  obtain rfl := Option.some.inj H
  have p101 : 0 ≤ (x5_1 : Int) := of_decide_eq_true as_
  have q101 : x5_1 < (l0.length : Int) := of_decide_eq_true as_
  obtain ⟨ad101, A101_0, c101_0, e101, hx101_0, hl101_0, hi101_0⟩ := at_L2 HR0.out x5_1 p101 q101
  cases e101
  have HR101_0 := Aside0.mk hi101_0
  have HC101_0 := Aside0.mk hl101_0
  clear hi101_0 hl101_0
  replace p101 := eq_true p101
  replace q101 := eq_true q101
  go_wp2_with (first | ((with_reducible refine gate_callee (f := 65) rfl ?_); refine gs_ (some 23) Tryz.func65 #[.slice A101_0 (rd_L2 l0 x5_1).length c101_0, .int .i64 x1_1] ?_; (with_reducible refine (laws_szInsS.calls _ _ (rd_L2 l0 x5_1) x1_1 t102 _ ?side1 ?side2 A6.out).mono ?_); (case side1 => exact cs_ HR101_0.out); (case side2 => exact HC101_0.out); rintro e w' ⟨rfl, ⟨nd, rfl⟩⟩; refine ⟨_, rfl, ?_⟩))
  go_ret
  exact ⟨sr_, by repeat (first | exact Drawn0.refl _ | apply Drawn0.step)⟩
 rw [if_neg c7] at H
 have c7b0 := decide_eq_false c7
 clear c7
 have H' := Aside0.mk H
 clear H
 have p101 : 0 ≤ (x5_1 : Int) := of_decide_eq_true as_
 have q101 : x5_1 < (l0.length : Int) := of_decide_eq_true as_
 obtain ⟨ad101, A101_0, c101_0, e101, hx101_0, hl101_0, hi101_0⟩ := at_L2 HR0.out x5_1 p101 q101
 cases e101
 have HR101_0 := Aside0.mk hi101_0
 have HC101_0 := Aside0.mk hl101_0
 clear hi101_0 hl101_0
 replace p101 := eq_true p101
 replace q101 := eq_true q101
 go_wp2_with (first | ((with_reducible refine gate_callee (f := 65) rfl ?_); refine gs_ (some 23) Tryz.func65 #[.slice A101_0 (rd_L2 l0 x5_1).length c101_0, .int .i64 x1_1] ?_; (with_reducible refine (laws_szInsS.calls _ _ (rd_L2 l0 x5_1) x1_1 t102 _ ?side1 ?side2 A6.out).mono ?_); (case side1 => exact cs_ HR101_0.out); (case side2 => exact HC101_0.out); rintro e w' ⟨rfl, ⟨nd, rfl⟩⟩; refine ⟨_, rfl, ?_⟩))
 go_roundg k1
 case measure => have := HK1.out; omega
 case rel => exact ⟨(t102), (wrap64 (x5_1 + 1)), (sr_), (sr_), H', ⟨by have := HK1.out; omega⟩, by repeat (first | exact Drawn0.refl _ | apply Drawn0.step)⟩


def laws_szInsSSS.l0 : Nat → List (List (List (S156))) → Int → Int → Option (Int)
 | 0, _, _, _ => none
 | k + 1, x0, x1, x5 => if x5 < (x0.length : Int) then (if 0 ≤ x5 then ((laws_szInsSS.f k (rd_L3 x0 x5) x1).bind fun t104 => (if t104 < 0 then (some (-1)) else (laws_szInsSSS.l0 k x0 t104 (wrap64 (x5 + 1))))) else (none)) else (some x1)
def laws_szInsSSS.f (k : Nat) (l0 : List (List (List (S156)))) (a1 : Int) : Option (Int) := if (wrap64 (a1 - (l0.length : Int))) < 0 then (some (-1)) else (laws_szInsSSS.l0 k l0 (wrap64 (a1 - (l0.length : Int))) 0)
theorem laws_szInsSSS.mono_l : ∀ k, (∀ y0 y1 y2, LeO (laws_szInsSSS.l0 k y0 y1 y2) (laws_szInsSSS.l0 (k + 1) y0 y1 y2))
 | 0 => fun _ _ _ r h => by simp [laws_szInsSSS.l0] at h
 | k + 1 => by
  have ih0 := laws_szInsSSS.mono_l k
  ·intro y0 y1 y2
   unfold laws_szInsSSS.l0
   have m0 := @laws_szInsSS.mono
   exact mo_
theorem laws_szInsSSS.mono : ∀ a0 a1 k, LeO (laws_szInsSSS.f k a0 a1) (laws_szInsSSS.f (k + 1) a0 a1) := by
 intro a0 a1 k
 have ih0 := laws_szInsSSS.mono_l k
 unfold laws_szInsSSS.f
 have m0 := @laws_szInsSS.mono
 exact mo_
theorem laws_szInsSSS.calls (k : Nat) (A0 : Option Addr) (c0 : Nat) (l0 : List (List (List (S156)))) (a1 : Int) (r : Int) (w : World) (hr0 : Kd.C (Kd.slice 124 (Kd.slice 156 k156)) w A0 l0.length l0) (hc0 : l0.length ≤ c0) (h : laws_szInsSSS.f k l0 a1 = some r) :
 Calls Tryz.prog 9 #[.slice A0 l0.length c0, .int .i64 a1] w fun e w' => e = .returned (.int .i64 r) ∧ Drawn0 w w' := by
 have HR0 := Aside0.mk hr0
 have HC0 := Aside0.mk hc0
 clear hr0 hc0
 have H := h
 unfold laws_szInsSSS.f at H
 clear h
 by_cases c3 : (wrap64 (a1 - (l0.length : Int))) < 0
 ·rw [if_pos c3] at H
  have c3b0 := decide_eq_true c3
  clear c3
  obtain rfl := Option.some.inj H
  go_enter Tryz.func9, Tryz.ntmps9
  go_wp2
  go_ret
  exact ⟨sr_, by repeat (first | exact Drawn0.refl _ | apply Drawn0.step)⟩
 rw [if_neg c3] at H
 have c3b0 := decide_eq_false c3
 clear c3
 have H' := Aside0.mk H
 clear H
 go_enter Tryz.func9, Tryz.ntmps9
 go_wp2
 go_loopg [1, 5] k (fun kq v1 v5 w' => ∃ (x1_1 : Int) (x5_1 : Int), v1 = .int .i64 x1_1 ∧ v5 = .int .i64 x5_1 ∧ Aside0 (laws_szInsSSS.l0 kq l0 x1_1 x5_1 = some r) ∧ Aside0 (kq ≤ k) ∧ Drawn0 w w')
 case atStart => exact ⟨(wrap64 (a1 - (l0.length : Int))), (0), (sr_), (sr_), H', ⟨Nat.le_refl _⟩, by repeat (first | exact Drawn0.refl _ | apply Drawn0.step)⟩
 clear H'
 try clear c3
 try clear c3b0
 obtain ⟨x1_1, x5_1, rfl, rfl, HA, HK1, ⟨m1, rfl⟩⟩ := hrel
 cases gk with
 | zero => exact absurd HA.out (by simp [laws_szInsSSS.l0])
 | succ k1 => ?_
 have H := HA.out
 clear HA
 simp only [laws_szInsSSS.l0] at H
 by_cases c4 : x5_1 < (l0.length : Int)
 rotate_left
 ·rw [if_neg c4] at H
  have c4b0 := decide_eq_false c4
  clear c4
  obtain rfl := Option.some.inj H
  go_wp2
  go_ret
  exact ⟨sr_, by repeat (first | exact Drawn0.refl _ | apply Drawn0.step)⟩
 rw [if_pos c4] at H
 have c4b0 := decide_eq_true c4
 clear c4
 by_cases c5 : 0 ≤ x5_1
 rotate_left
 ·exact nn_ c5 H
 rw [if_pos c5] at H
 have c5b0 := decide_eq_true c5
 clear c5
 replace H := bs_ H
 obtain ⟨t104, A6, H⟩ := H
 try dsimp only at H
 by_cases c7 : t104 < 0
 ·rw [if_pos c7] at H
  have c7b0 := decide_eq_true c7
  clear c7
  obtain rfl := Option.some.inj H
  have p103 : 0 ≤ (x5_1 : Int) := of_decide_eq_true as_
  have q103 : x5_1 < (l0.length : Int) := of_decide_eq_true as_
  obtain ⟨ad103, A103_0, c103_0, e103, hx103_0, hl103_0, hi103_0⟩ := at_L3 HR0.out x5_1 p103 q103
  cases e103
  have HR103_0 := Aside0.mk hi103_0
  have HC103_0 := Aside0.mk hl103_0
  clear hi103_0 hl103_0
  replace p103 := eq_true p103
  replace q103 := eq_true q103
  go_wp2_with (first | ((with_reducible refine gate_callee (f := 38) rfl ?_); refine gs_ (some 23) Tryz.func38 #[.slice A103_0 (rd_L3 l0 x5_1).length c103_0, .int .i64 x1_1] ?_; (with_reducible refine (laws_szInsSS.calls k1 _ _ (rd_L3 l0 x5_1) x1_1 t104 _ ?side1 ?side2 A6.out).mono ?_); (case side1 => exact cs_ HR103_0.out); (case side2 => exact HC103_0.out); rintro e w' ⟨rfl, ⟨nd, rfl⟩⟩; refine ⟨_, rfl, ?_⟩))
  go_ret
  exact ⟨sr_, by repeat (first | exact Drawn0.refl _ | apply Drawn0.step)⟩
 rw [if_neg c7] at H
 have c7b0 := decide_eq_false c7
 clear c7
 have H' := Aside0.mk H
 clear H
 have p103 : 0 ≤ (x5_1 : Int) := of_decide_eq_true as_
 have q103 : x5_1 < (l0.length : Int) := of_decide_eq_true as_
 obtain ⟨ad103, A103_0, c103_0, e103, hx103_0, hl103_0, hi103_0⟩ := at_L3 HR0.out x5_1 p103 q103
 cases e103
 have HR103_0 := Aside0.mk hi103_0
 have HC103_0 := Aside0.mk hl103_0
 clear hi103_0 hl103_0
 replace p103 := eq_true p103
 replace q103 := eq_true q103
 go_wp2_with (first | ((with_reducible refine gate_callee (f := 38) rfl ?_); refine gs_ (some 23) Tryz.func38 #[.slice A103_0 (rd_L3 l0 x5_1).length c103_0, .int .i64 x1_1] ?_; (with_reducible refine (laws_szInsSS.calls k1 _ _ (rd_L3 l0 x5_1) x1_1 t104 _ ?side1 ?side2 A6.out).mono ?_); (case side1 => exact cs_ HR103_0.out); (case side2 => exact HC103_0.out); rintro e w' ⟨rfl, ⟨nd, rfl⟩⟩; refine ⟨_, rfl, ?_⟩))
 go_roundg k1
 case measure => have := HK1.out; omega
 case rel => exact ⟨(t104), (wrap64 (x5_1 + 1)), (sr_), (sr_), H', ⟨by have := HK1.out; omega⟩, by repeat (first | exact Drawn0.refl _ | apply Drawn0.step)⟩


def laws_szItemS.f (l0 : List (S139)) (a1 : Int) : Option (Int) := if (wrap64 (a1 - (l0.length : Int))) < 0 then (some (-1)) else (some (wrap64 (a1 - (l0.length : Int))))
theorem laws_szItemS.calls (A0 : Option Addr) (c0 : Nat) (l0 : List (S139)) (a1 : Int) (r : Int) (w : World) (hr0 : Kd.C k139 w A0 l0.length l0) (hc0 : l0.length ≤ c0) (h : laws_szItemS.f l0 a1 = some r) :
 Calls Tryz.prog 66 #[.slice A0 l0.length c0, .int .i64 a1] w fun e w' => e = .returned (.int .i64 r) ∧ Drawn0 w w' := by
 have HR0 := Aside0.mk hr0
 have HC0 := Aside0.mk hc0
 clear hr0 hc0
 have H := h
 unfold laws_szItemS.f at H
 clear h
 by_cases c3 : (wrap64 (a1 - (l0.length : Int))) < 0
 rw [if_pos c3] at H
 have c3b0 := decide_eq_true c3
 clear c3
 obtain rfl := Option.some.inj H
 rotate_left
 rw [if_neg c3] at H
 have c3b0 := decide_eq_false c3
 clear c3
 obtain rfl := Option.some.inj H
 rotate_left
 all_goals go_enter Tryz.func66, Tryz.ntmps66
 all_goals go_wp2
 all_goals go_ret
 all_goals exact ⟨sr_, by repeat (first | exact Drawn0.refl _ | apply Drawn0.step)⟩

def laws_szRing.f (l0_0 : List (S139)) (a0_1 : Int) (a0_2 : Int) (a0_3 : Int) (a1 : Int) : Option (Int) := (laws_szItemS.f l0_0 a1).bind fun t106 => (if t106 < 0 then (some (-1)) else (some t106))
theorem laws_szRing.calls (A0_0 : Option Addr) (c0_0 : Nat) (l0_0 : List (S139)) (a0_1 : Int) (a0_2 : Int) (a0_3 : Int) (a1 : Int) (r : Int) (w : World) (hr0_0 : Kd.C k139 w A0_0 l0_0.length l0_0) (hc0_0 : l0_0.length ≤ c0_0) (h : laws_szRing.f l0_0 a0_1 a0_2 a0_3 a1 = some r) :
 Calls Tryz.prog 39 #[.agg #[.slice A0_0 l0_0.length c0_0, .int .i64 a0_1, .int .i64 a0_2, .int .i64 a0_3], .int .i64 a1] w fun e w' => e = .returned (.int .i64 r) ∧ Below w.heap.size w w' := by
 have hu85 := Tryz.underlying85
 have HR0_0 := Aside0.mk hr0_0
 have HC0_0 := Aside0.mk hc0_0
 clear hr0_0 hc0_0
 have HB := Aside0.mk (Below.refl w.heap.size w)
 have H := h
 unfold laws_szRing.f at H
 clear h
 replace H := bs_ H
 obtain ⟨t106, A3, H⟩ := H
 try dsimp only at H
 by_cases c4 : t106 < 0
 rw [if_pos c4] at H
 have c4b0 := decide_eq_true c4
 clear c4
 obtain rfl := Option.some.inj H
 rotate_left
 rw [if_neg c4] at H
 have c4b0 := decide_eq_false c4
 clear c4
 obtain rfl := Option.some.inj H
 rotate_left
 all_goals go_enter Tryz.func39, Tryz.ntmps39
 all_goals (go_wp2_with (first | ((with_reducible refine gate_dst (N := 2) rfl ?_); refine bx_ 2 85 #[.slice A0_0 l0_0.length c0_0, .int .i64 a0_1, .int .i64 a0_2, .int .i64 a0_3] ?_; intro gb105 hg w5 hbox hb; have BK105 := Aside0.mk (hbox); have GW105 := Aside0.mk ((hz_ : w.heap.size ≤ gb105)); have GE105 := Aside0.mk ((hz_ : w.heap.size ≤ gb105)); replace HB := Aside0.mk (below_step bl_ hb); clear hb hbox hg; obtain ⟨hcz6_0, hcz6_1, hcz6_2, hcz6_3, hfz6_0, hfz6_1, hfz6_2, hfz6_3⟩ := cf4_ BK105.out) | ((with_reducible refine gate_callee (f := 66) rfl ?_); refine gs_ (some 8) Tryz.func66 #[.slice A0_0 l0_0.length c0_0, .int .i64 a1] ?_; (with_reducible refine (laws_szItemS.calls _ _ l0_0 a1 t106 _ ?side1 ?side2 A3.out).mono ?_); (case side1 => exact cb_ HR0_0.out HB.out); (case side2 => exact HC0_0.out); rintro e w' ⟨rfl, ⟨nd, rfl⟩⟩; refine ⟨_, rfl, ?_⟩)))
 all_goals go_ret
 all_goals exact ⟨er_, bl_⟩
end Go.Proofs.YtcbjlcgfhbfneaaGreatDoor.PA
