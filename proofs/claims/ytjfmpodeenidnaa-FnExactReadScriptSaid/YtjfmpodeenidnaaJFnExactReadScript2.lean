/- Contracts of functions of the program and of the reference, and plain lemmas on what they compute: a part of the proof of the law FnExactReadScript. No condition. -/
import Derived.Test.YtjfmpodeenidnaaJFnExactReadScript1
import Derived.Test.YtjfmpodeenidnaaShortV
set_option maxHeartbeats 8000000
set_option maxRecDepth 100000
namespace Go.Proofs.Ytjfmpodeenidnaa.PA
open Go.RowKit Go.Proofs.Ytjfmpodeenidnaa.Short Go.Proofs.YtjfmpodeenidnaaW.PrintWords Go.Proofs.YtjfmpodeenidnaaW.PrintLast Go.Proofs.YtjfmpodeenidnaaW.PrintMore
attribute [local go_sem] max2_int min2_int max_two min_two max_three min_three max_four min_four   -- for this text's walks alone
set_option linter.unusedVariables false
set_option linter.unusedSimpArgs false

def spec_l30Join.l0 : Nat → List ByteArray → ByteArray → Int → Option (ByteArray)
 | 0, _, _, _ => none
 | k + 1, x0, x3, x4 => if x4 < (x0.length : Int) then (if x4 > 0 then (if x3.size + 1 ≤ 9223372036854775807 then (if 0 ≤ x4 then (if (x3 ++ (⟨#[32]⟩ : ByteArray)).size + (rdOf ByteArray.empty x0 x4).size ≤ 9223372036854775807 then (spec_l30Join.l0 k x0 ((x3 ++ (⟨#[32]⟩ : ByteArray)) ++ (rdOf ByteArray.empty x0 x4)) (wrap64 (x4 + 1))) else (none)) else (none)) else (none)) else (if 0 ≤ x4 then (if x3.size + (rdOf ByteArray.empty x0 x4).size ≤ 9223372036854775807 then (spec_l30Join.l0 k x0 (x3 ++ (rdOf ByteArray.empty x0 x4)) (wrap64 (x4 + 1))) else (none)) else (none))) else (some x3)
def spec_l30Join.f (k : Nat) (l0 : List ByteArray) : Option (ByteArray) := spec_l30Join.l0 k l0 (⟨#[]⟩ : ByteArray) 0
theorem spec_l30Join.mono_l : ∀ k, (∀ y0 y1 y2, LeO (spec_l30Join.l0 k y0 y1 y2) (spec_l30Join.l0 (k + 1) y0 y1 y2))
 | 0 => fun _ _ _ r h => by simp [spec_l30Join.l0] at h
 | k + 1 => by
  have ih0 := spec_l30Join.mono_l k
  ·intro y0 y1 y2
   unfold spec_l30Join.l0
   exact mo_
theorem spec_l30Join.mono : ∀ a0 k, LeO (spec_l30Join.f k a0) (spec_l30Join.f (k + 1) a0) := by
 intro a0 k
 have ih0 := spec_l30Join.mono_l k
 unfold spec_l30Join.f
 exact mo_
theorem spec_l30Join.calls (k : Nat) (A0 : Option Addr) (c0 : Nat) (l0 : List ByteArray) (r : ByteArray) (w : World) (hr0 : Kd.C Kd.string w A0 l0.length l0) (hc0 : l0.length ≤ c0) (h : spec_l30Join.f k l0 = some r) :
 Calls Try.prog 85 #[.slice A0 l0.length c0] w fun e w' => e = .returned (.string r) ∧ Drawn0 w w' := by
 have HR0 := Aside0.mk hr0
 have HC0 := Aside0.mk hc0
 clear hr0 hc0
 have H := h
 unfold spec_l30Join.f at H
 clear h
 have H' := Aside0.mk H
 clear H
 go_enter Try.func85, Try.ntmps85
 go_wp2
 go_loopg [3, 4] k (fun kq v3 v4 w' => ∃ (x3_1 : ByteArray) (x4_1 : Int), v3 = .string x3_1 ∧ v4 = .int .i64 x4_1 ∧ Aside0 (spec_l30Join.l0 kq l0 x3_1 x4_1 = some r) ∧ Aside0 (kq ≤ k) ∧ Drawn0 w w')
 case atStart => exact ⟨((⟨#[]⟩ : ByteArray)), (0), (sr_), (sr_), H', ⟨Nat.le_refl _⟩, by repeat (first | exact Drawn0.refl _ | apply Drawn0.step)⟩
 clear H'
 obtain ⟨x3_1, x4_1, rfl, rfl, HA, HK1, ⟨m1, rfl⟩⟩ := hrel
 cases gk with
 | zero => exact absurd HA.out (by simp [spec_l30Join.l0])
 | succ k1 => ?_
 have H := HA.out
 clear HA
 simp only [spec_l30Join.l0] at H
 by_cases c2 : x4_1 < (l0.length : Int)
 rotate_left
 ·rw [if_neg c2] at H
  have c2b0 := decide_eq_false c2
  clear c2
  obtain rfl := Option.some.inj H
  go_wp2
  go_ret
  exact ⟨sr_, by repeat (first | exact Drawn0.refl _ | apply Drawn0.step)⟩
 rw [if_pos c2] at H
 have c2b0 := decide_eq_true c2
 clear c2
 by_cases c3 : x4_1 > 0
 rotate_left
 ·rw [if_neg c3] at H
  have c3b0 := decide_eq_false c3
  clear c3
  by_cases c7 : 0 ≤ x4_1
  rotate_left
  ·exact nn_ c7 H
  rw [if_pos c7] at H
  have c7b0 := decide_eq_true c7
  clear c7
  by_cases c8 : x3_1.size + (rdOf ByteArray.empty l0 x4_1).size ≤ 9223372036854775807
  rotate_left
  ·exact nn_ c8 H
  rw [if_pos c8] at H
  have c8b0 := eq_true c8
  have c8b1 : decide (x3_1.size + (rdOf ByteArray.empty l0 x4_1).size ≤ 9223372036854775807) = true := decide_eq_true c8
  try have c8b2 : (9223372036854775807 < x3_1.size + (rdOf ByteArray.empty l0 x4_1).size) = False := eq_false (Nat.not_lt.2 c8)
  have H' := Aside0.mk H
  clear H
  have p155 : 0 ≤ (x4_1 : Int) := of_decide_eq_true as_
  have q155 : x4_1 < (l0.length : Int) := of_decide_eq_true as_
  obtain ⟨ad155, e155, hx155_0⟩ := Kd.at_string HR0.out x4_1 p155 q155
  cases e155
  replace p155 := eq_true p155
  replace q155 := eq_true q155
  go_wp2
  go_roundg k1
  case measure => have := HK1.out; omega
  case rel => exact ⟨(x3_1 ++ (rdOf ByteArray.empty l0 x4_1)), (wrap64 (x4_1 + 1)), (sr_), (sr_), H', ⟨by have := HK1.out; omega⟩, by repeat (first | exact Drawn0.refl _ | apply Drawn0.step)⟩
 rw [if_pos c3] at H
 have c3b0 := decide_eq_true c3
 clear c3
 by_cases c4 : x3_1.size + 1 ≤ 9223372036854775807
 rotate_left
 ·exact nn_ c4 H
 rw [if_pos c4] at H
 have c4b0 := eq_true c4
 have c4b1 : decide (x3_1.size + 1 ≤ 9223372036854775807) = true := decide_eq_true c4
 try have c4b2 : (9223372036854775807 < x3_1.size + 1) = False := eq_false (Nat.not_lt.2 c4)
 by_cases c5 : 0 ≤ x4_1
 rotate_left
 ·exact nn_ c5 H
 rw [if_pos c5] at H
 have c5b0 := decide_eq_true c5
 clear c5
 by_cases c6 : (x3_1 ++ (⟨#[32]⟩ : ByteArray)).size + (rdOf ByteArray.empty l0 x4_1).size ≤ 9223372036854775807
 rotate_left
 ·exact nn_ c6 H
 rw [if_pos c6] at H
 have c6b0 := eq_true c6
 have c6b1 : decide ((x3_1 ++ (⟨#[32]⟩ : ByteArray)).size + (rdOf ByteArray.empty l0 x4_1).size ≤ 9223372036854775807) = true := decide_eq_true c6
 try have c6b2 : (9223372036854775807 < (x3_1 ++ (⟨#[32]⟩ : ByteArray)).size + (rdOf ByteArray.empty l0 x4_1).size) = False := eq_false (Nat.not_lt.2 c6)
 try have c6b3 : (9223372036854775807 < x3_1.size + 1 + (rdOf ByteArray.empty l0 x4_1).size) = False := eq_false (by have h_ := c6; (repeat rw [ByteArray.size_append] at h_); exact Nat.not_lt.2 h_)
 have H' := Aside0.mk H
 clear H
 have p154 : 0 ≤ (x4_1 : Int) := of_decide_eq_true as_
 have q154 : x4_1 < (l0.length : Int) := of_decide_eq_true as_
 obtain ⟨ad154, e154, hx154_0⟩ := Kd.at_string HR0.out x4_1 p154 q154
 cases e154
 replace p154 := eq_true p154
 replace q154 := eq_true q154
 go_wp2
 go_roundg k1
 case measure => have := HK1.out; omega
 case rel => exact ⟨((x3_1 ++ (⟨#[32]⟩ : ByteArray)) ++ (rdOf ByteArray.empty l0 x4_1)), (wrap64 (x4_1 + 1)), (sr_), (sr_), H', ⟨by have := HK1.out; omega⟩, by repeat (first | exact Drawn0.refl _ | apply Drawn0.step)⟩


def spec_l30Kind.f (a0 : ByteArray) : Option (Int × Bool × Bool) := if a0.toList = ([116, 105, 99, 107] : List UInt8) then (some (3, false, true)) else (if a0.toList = ([100, 114, 97, 105, 110] : List UInt8) then (some (4, true, false)) else (if a0.toList = ([115, 97, 121] : List UInt8) then (some (5, true, true)) else (if a0.toList = ([99, 97, 114, 114, 121] : List UInt8) then (some (6, false, true)) else (if a0.toList = ([108, 111, 115, 101] : List UInt8) then (some (7, false, true)) else (if a0.toList = ([116, 119, 105, 99, 101] : List UInt8) then (some (8, false, true)) else (if a0.toList = ([115, 97, 118, 101] : List UInt8) then (some (10, false, false)) else (if a0.toList = ([102, 97, 108, 108] : List UInt8) then (some (11, false, false)) else (if a0.toList = ([97, 99, 107] : List UInt8) then (some (12, true, false)) else (some (0, false, false))))))))))
theorem spec_l30Kind.calls (a0 : ByteArray) (r1 : Int) (r2 : Bool) (r3 : Bool) (w : World) (h : spec_l30Kind.f a0 = some (r1, r2, r3)) :
 Calls Try.prog 86 #[.string a0] w fun e w' => e = .returned (.tuple #[.int .i64 r1, .bool r2, .bool r3]) ∧ Drawn0 w w' := by
 have H := h
 unfold spec_l30Kind.f at H
 clear h
 by_cases c2 : a0.toList = ([116, 105, 99, 107] : List UInt8)
 ·rw [if_pos c2] at H
  have c2b0 : (a0.toList == ([116, 105, 99, 107] : List UInt8)) = true := beq_iff_eq.mpr c2
  have c2b1 : (a0.toList != ([116, 105, 99, 107] : List UInt8)) = false := bne_eq_false_iff_eq.mpr c2
  clear c2
  simp only [Option.some.injEq, Prod.mk.injEq] at H
  obtain ⟨rfl, rfl, rfl⟩ := H
  go_enter Try.func86, Try.ntmps86
  go_wp2
  go_ret3
  exact ⟨sr_, by repeat (first | exact Drawn0.refl _ | apply Drawn0.step)⟩
 rw [if_neg c2] at H
 have c2b0 : (a0.toList == ([116, 105, 99, 107] : List UInt8)) = false := beq_eq_false_iff_ne.mpr c2
 have c2b1 : (a0.toList != ([116, 105, 99, 107] : List UInt8)) = true := bne_iff_ne.mpr c2
 by_cases c3 : a0.toList = ([100, 114, 97, 105, 110] : List UInt8)
 ·rw [if_pos c3] at H
  have c3b0 : (a0.toList == ([100, 114, 97, 105, 110] : List UInt8)) = true := beq_iff_eq.mpr c3
  have c3b1 : (a0.toList != ([100, 114, 97, 105, 110] : List UInt8)) = false := bne_eq_false_iff_eq.mpr c3
  clear c3
  simp only [Option.some.injEq, Prod.mk.injEq] at H
  obtain ⟨rfl, rfl, rfl⟩ := H
  go_enter Try.func86, Try.ntmps86
  go_wp2
  go_ret3
  exact ⟨sr_, by repeat (first | exact Drawn0.refl _ | apply Drawn0.step)⟩
 rw [if_neg c3] at H
 have c3b0 : (a0.toList == ([100, 114, 97, 105, 110] : List UInt8)) = false := beq_eq_false_iff_ne.mpr c3
 have c3b1 : (a0.toList != ([100, 114, 97, 105, 110] : List UInt8)) = true := bne_iff_ne.mpr c3
 by_cases c4 : a0.toList = ([115, 97, 121] : List UInt8)
 ·rw [if_pos c4] at H
  have c4b0 : (a0.toList == ([115, 97, 121] : List UInt8)) = true := beq_iff_eq.mpr c4
  have c4b1 : (a0.toList != ([115, 97, 121] : List UInt8)) = false := bne_eq_false_iff_eq.mpr c4
  clear c4
  simp only [Option.some.injEq, Prod.mk.injEq] at H
  obtain ⟨rfl, rfl, rfl⟩ := H
  go_enter Try.func86, Try.ntmps86
  go_wp2
  go_ret3
  exact ⟨sr_, by repeat (first | exact Drawn0.refl _ | apply Drawn0.step)⟩
 rw [if_neg c4] at H
 have c4b0 : (a0.toList == ([115, 97, 121] : List UInt8)) = false := beq_eq_false_iff_ne.mpr c4
 have c4b1 : (a0.toList != ([115, 97, 121] : List UInt8)) = true := bne_iff_ne.mpr c4
 by_cases c5 : a0.toList = ([99, 97, 114, 114, 121] : List UInt8)
 ·rw [if_pos c5] at H
  have c5b0 : (a0.toList == ([99, 97, 114, 114, 121] : List UInt8)) = true := beq_iff_eq.mpr c5
  have c5b1 : (a0.toList != ([99, 97, 114, 114, 121] : List UInt8)) = false := bne_eq_false_iff_eq.mpr c5
  clear c5
  simp only [Option.some.injEq, Prod.mk.injEq] at H
  obtain ⟨rfl, rfl, rfl⟩ := H
  go_enter Try.func86, Try.ntmps86
  go_wp2
  go_ret3
  exact ⟨sr_, by repeat (first | exact Drawn0.refl _ | apply Drawn0.step)⟩
 rw [if_neg c5] at H
 have c5b0 : (a0.toList == ([99, 97, 114, 114, 121] : List UInt8)) = false := beq_eq_false_iff_ne.mpr c5
 have c5b1 : (a0.toList != ([99, 97, 114, 114, 121] : List UInt8)) = true := bne_iff_ne.mpr c5
 by_cases c6 : a0.toList = ([108, 111, 115, 101] : List UInt8)
 ·rw [if_pos c6] at H
  have c6b0 : (a0.toList == ([108, 111, 115, 101] : List UInt8)) = true := beq_iff_eq.mpr c6
  have c6b1 : (a0.toList != ([108, 111, 115, 101] : List UInt8)) = false := bne_eq_false_iff_eq.mpr c6
  clear c6
  simp only [Option.some.injEq, Prod.mk.injEq] at H
  obtain ⟨rfl, rfl, rfl⟩ := H
  go_enter Try.func86, Try.ntmps86
  go_wp2
  go_ret3
  exact ⟨sr_, by repeat (first | exact Drawn0.refl _ | apply Drawn0.step)⟩
 rw [if_neg c6] at H
 have c6b0 : (a0.toList == ([108, 111, 115, 101] : List UInt8)) = false := beq_eq_false_iff_ne.mpr c6
 have c6b1 : (a0.toList != ([108, 111, 115, 101] : List UInt8)) = true := bne_iff_ne.mpr c6
 by_cases c7 : a0.toList = ([116, 119, 105, 99, 101] : List UInt8)
 ·rw [if_pos c7] at H
  have c7b0 : (a0.toList == ([116, 119, 105, 99, 101] : List UInt8)) = true := beq_iff_eq.mpr c7
  have c7b1 : (a0.toList != ([116, 119, 105, 99, 101] : List UInt8)) = false := bne_eq_false_iff_eq.mpr c7
  clear c7
  simp only [Option.some.injEq, Prod.mk.injEq] at H
  obtain ⟨rfl, rfl, rfl⟩ := H
  go_enter Try.func86, Try.ntmps86
  go_wp2
  go_ret3
  exact ⟨sr_, by repeat (first | exact Drawn0.refl _ | apply Drawn0.step)⟩
 rw [if_neg c7] at H
 have c7b0 : (a0.toList == ([116, 119, 105, 99, 101] : List UInt8)) = false := beq_eq_false_iff_ne.mpr c7
 have c7b1 : (a0.toList != ([116, 119, 105, 99, 101] : List UInt8)) = true := bne_iff_ne.mpr c7
 by_cases c8 : a0.toList = ([115, 97, 118, 101] : List UInt8)
 ·rw [if_pos c8] at H
  have c8b0 : (a0.toList == ([115, 97, 118, 101] : List UInt8)) = true := beq_iff_eq.mpr c8
  have c8b1 : (a0.toList != ([115, 97, 118, 101] : List UInt8)) = false := bne_eq_false_iff_eq.mpr c8
  clear c8
  simp only [Option.some.injEq, Prod.mk.injEq] at H
  obtain ⟨rfl, rfl, rfl⟩ := H
  go_enter Try.func86, Try.ntmps86
  go_wp2
  go_ret3
  exact ⟨sr_, by repeat (first | exact Drawn0.refl _ | apply Drawn0.step)⟩
 rw [if_neg c8] at H
 have c8b0 : (a0.toList == ([115, 97, 118, 101] : List UInt8)) = false := beq_eq_false_iff_ne.mpr c8
 have c8b1 : (a0.toList != ([115, 97, 118, 101] : List UInt8)) = true := bne_iff_ne.mpr c8
 by_cases c9 : a0.toList = ([102, 97, 108, 108] : List UInt8)
 ·rw [if_pos c9] at H
  have c9b0 : (a0.toList == ([102, 97, 108, 108] : List UInt8)) = true := beq_iff_eq.mpr c9
  have c9b1 : (a0.toList != ([102, 97, 108, 108] : List UInt8)) = false := bne_eq_false_iff_eq.mpr c9
  clear c9
  simp only [Option.some.injEq, Prod.mk.injEq] at H
  obtain ⟨rfl, rfl, rfl⟩ := H
  go_enter Try.func86, Try.ntmps86
  go_wp2
  go_ret3
  exact ⟨sr_, by repeat (first | exact Drawn0.refl _ | apply Drawn0.step)⟩
 rw [if_neg c9] at H
 have c9b0 : (a0.toList == ([102, 97, 108, 108] : List UInt8)) = false := beq_eq_false_iff_ne.mpr c9
 have c9b1 : (a0.toList != ([102, 97, 108, 108] : List UInt8)) = true := bne_iff_ne.mpr c9
 by_cases c10 : a0.toList = ([97, 99, 107] : List UInt8)
 rotate_left
 ·rw [if_neg c10] at H
  have c10b0 : (a0.toList == ([97, 99, 107] : List UInt8)) = false := beq_eq_false_iff_ne.mpr c10
  have c10b1 : (a0.toList != ([97, 99, 107] : List UInt8)) = true := bne_iff_ne.mpr c10
  simp only [Option.some.injEq, Prod.mk.injEq] at H
  obtain ⟨rfl, rfl, rfl⟩ := H
  go_enter Try.func86, Try.ntmps86
  go_wp2
  go_ret3
  exact ⟨sr_, by repeat (first | exact Drawn0.refl _ | apply Drawn0.step)⟩
 rw [if_pos c10] at H
 have c10b0 : (a0.toList == ([97, 99, 107] : List UInt8)) = true := beq_iff_eq.mpr c10
 have c10b1 : (a0.toList != ([97, 99, 107] : List UInt8)) = false := bne_eq_false_iff_eq.mpr c10
 clear c10
 simp only [Option.some.injEq, Prod.mk.injEq] at H
 obtain ⟨rfl, rfl, rfl⟩ := H
 go_enter Try.func86, Try.ntmps86
 go_wp2
 go_ret3
 exact ⟨sr_, by repeat (first | exact Drawn0.refl _ | apply Drawn0.step)⟩

end Go.Proofs.Ytjfmpodeenidnaa.PA
