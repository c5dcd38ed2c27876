/- The functions of the program and of the reference that laws of this seat reach: each is shown to compute a plain Lean function; written by a program of this session. No condition. -/
import Derived.Test.YtfgkniegbdpanaaPAx0
import Derived.Test.YtfgkniegbdpanaaPAx7
namespace Go.Proofs.Ytfgkniegbdpanaa.PA
open Go.RowKit Go.Proofs.YtfgkniegbdpanaaW.PrintWords Go.Proofs.YtfgkniegbdpanaaW.PrintLast Go.Proofs.YtfgkniegbdpanaaW.PrintMore
attribute [local go_sem] max2_int min2_int max_two min_two max_three min_three max_four min_four   -- for this text's walks alone
set_option linter.unusedVariables false
set_option linter.unusedSimpArgs false

/-! ### impl_ShowEntry: function 11 -/
def impl_ShowEntry.f (k : Nat) (a0_0 : Int) (a0_1 : Int) (a0_2 : Int) (a0_3 : Int) (a0_4 : Int) (a0_5 : Int) : Option (ByteArray) := (impl_shown.f k a0_0).bind fun t126 => (if 1 + t126.size ≤ 9223372036854775807 then (if ((⟨#[112]⟩ : ByteArray) ++ t126).size + 1 ≤ 9223372036854775807 then ((impl_shown.f k a0_1).bind fun t127 => (if (((⟨#[112]⟩ : ByteArray) ++ t126) ++ (⟨#[35]⟩ : ByteArray)).size + t127.size ≤ 9223372036854775807 then (if a0_2 = 2 then (if ((((⟨#[112]⟩ : ByteArray) ++ t126) ++ (⟨#[35]⟩ : ByteArray)) ++ t127).size + 5 ≤ 9223372036854775807 then ((impl_shown.f k a0_5).bind fun t128 => (if (((((⟨#[112]⟩ : ByteArray) ++ t126) ++ (⟨#[35]⟩ : ByteArray)) ++ t127) ++ (⟨#[32, 103, 97, 112, 32]⟩ : ByteArray)).size + t128.size ≤ 9223372036854775807 then (if ((((((⟨#[112]⟩ : ByteArray) ++ t126) ++ (⟨#[35]⟩ : ByteArray)) ++ t127) ++ (⟨#[32, 103, 97, 112, 32]⟩ : ByteArray)) ++ t128).size + 1 ≤ 9223372036854775807 then (some (((((((⟨#[112]⟩ : ByteArray) ++ t126) ++ (⟨#[35]⟩ : ByteArray)) ++ t127) ++ (⟨#[32, 103, 97, 112, 32]⟩ : ByteArray)) ++ t128) ++ (⟨#[10]⟩ : ByteArray))) else (none)) else (none))) else (none)) else (if ((((⟨#[112]⟩ : ByteArray) ++ t126) ++ (⟨#[35]⟩ : ByteArray)) ++ t127).size + 6 ≤ 9223372036854775807 then ((impl_shown.f k a0_3).bind fun t129 => (if (((((⟨#[112]⟩ : ByteArray) ++ t126) ++ (⟨#[35]⟩ : ByteArray)) ++ t127) ++ (⟨#[32, 99, 97, 108, 108, 32]⟩ : ByteArray)).size + t129.size ≤ 9223372036854775807 then (if ((((((⟨#[112]⟩ : ByteArray) ++ t126) ++ (⟨#[35]⟩ : ByteArray)) ++ t127) ++ (⟨#[32, 99, 97, 108, 108, 32]⟩ : ByteArray)) ++ t129).size + 1 ≤ 9223372036854775807 then ((impl_shown.f k a0_4).bind fun t130 => (if (((((((⟨#[112]⟩ : ByteArray) ++ t126) ++ (⟨#[35]⟩ : ByteArray)) ++ t127) ++ (⟨#[32, 99, 97, 108, 108, 32]⟩ : ByteArray)) ++ t129) ++ (⟨#[32]⟩ : ByteArray)).size + t130.size ≤ 9223372036854775807 then (if ((((((((⟨#[112]⟩ : ByteArray) ++ t126) ++ (⟨#[35]⟩ : ByteArray)) ++ t127) ++ (⟨#[32, 99, 97, 108, 108, 32]⟩ : ByteArray)) ++ t129) ++ (⟨#[32]⟩ : ByteArray)) ++ t130).size + 1 ≤ 9223372036854775807 then (some (((((((((⟨#[112]⟩ : ByteArray) ++ t126) ++ (⟨#[35]⟩ : ByteArray)) ++ t127) ++ (⟨#[32, 99, 97, 108, 108, 32]⟩ : ByteArray)) ++ t129) ++ (⟨#[32]⟩ : ByteArray)) ++ t130) ++ (⟨#[10]⟩ : ByteArray))) else (none)) else (none))) else (none)) else (none))) else (none))) else (none))) else (none)) else (none))
theorem impl_ShowEntry.mono : ∀ a0 a1 a2 a3 a4 a5 k, LeO (impl_ShowEntry.f k a0 a1 a2 a3 a4 a5) (impl_ShowEntry.f (k + 1) a0 a1 a2 a3 a4 a5) := by
  intro a0 a1 a2 a3 a4 a5 k
  unfold impl_ShowEntry.f
  repeat' first
      | (with_reducible exact impl_shown.mono _ _)
      | (with_reducible exact LeO.refl _)
      | (with_reducible exact LeO.none _)
      | (with_reducible refine LeO.ite ?_ ?_)
      | (with_reducible refine LeO.bind ?_ (fun _ => ?_))
      | exact impl_shown.mono _ _
      | exact LeO.none _
      | refine LeO.ite ?_ ?_
      | refine LeO.bind ?_ (fun _ => ?_)
def impl_ShowEntry.T1 : Bool × List (List Nat × List Nat) := (true, [([], []), ([0], [0]), ([1], [1]), ([2], [2]), ([3], [3]), ([], []), ([5], [5]), ([6, 2], [6]), ([4, 7], [4, 7]), ([8, 7, 0, 1, 2, 3, 4, 5, 6, 7, 8], [8])])
def impl_ShowEntry.B1 : List Nat := [0, 1, 3, 7, 15, 0, 32, 103, 255, 511]
theorem impl_ShowEntry.tab1 : rtab .any (opsOf Try.f11 1) = impl_ShowEntry.T1 := by kernel_rfl
theorem impl_ShowEntry.bits1 : waitsOk impl_ShowEntry.T1.2 impl_ShowEntry.B1 = true := by kernel_rfl
def impl_ShowEntry.T4 : Bool × List (List Nat × List Nat) := (true, [([], []), ([0], [0]), ([], []), ([2], [2]), ([3], [3]), ([4], [4]), ([1, 5], [1, 5]), ([6], [6]), ([], []), ([8], [8]), ([9], [9]), ([10, 5], [10]), ([7, 11], [7, 11]), ([12], [12]), ([13, 11, 0, 1, 2, 3, 4, 5, 6, 7, 8, 9, 10, 11, 12, 13], [13])])
def impl_ShowEntry.B4 : List Nat := [0, 1, 0, 4, 12, 28, 63, 127, 0, 256, 768, 1852, 4095, 8191, 16383]
theorem impl_ShowEntry.tab4 : rtab .any (opsOf Try.f11 4) = impl_ShowEntry.T4 := by kernel_rfl
theorem impl_ShowEntry.bits4 : waitsOk impl_ShowEntry.T4.2 impl_ShowEntry.B4 = true := by kernel_rfl
set_option maxHeartbeats 8000000 in
set_option maxRecDepth 100000 in
theorem impl_ShowEntry.calls (k : Nat) (a0_0 : Int) (a0_1 : Int) (a0_2 : Int) (a0_3 : Int) (a0_4 : Int) (a0_5 : Int) (r : ByteArray) (w : World) (h : impl_ShowEntry.f k a0_0 a0_1 a0_2 a0_3 a0_4 a0_5 = some r) :
    Calls Try.prog 11 #[.agg #[.int .i64 a0_0, .int .i64 a0_1, .int .i64 a0_2, .int .i64 a0_3, .int .i64 a0_4, .int .i64 a0_5]] w fun e w' => e = .returned (.string r) ∧ Below w.heap.size w w' := by
  have hu29 := Try.underlying29
  have HB := Aside0.mk (Below.refl w.heap.size w)
  have H : ((impl_shown.f k a0_0).bind fun t126 => (if 1 + t126.size ≤ 9223372036854775807 then (if ((⟨#[112]⟩ : ByteArray) ++ t126).size + 1 ≤ 9223372036854775807 then ((impl_shown.f k a0_1).bind fun t127 => (if (((⟨#[112]⟩ : ByteArray) ++ t126) ++ (⟨#[35]⟩ : ByteArray)).size + t127.size ≤ 9223372036854775807 then (if a0_2 = 2 then (if ((((⟨#[112]⟩ : ByteArray) ++ t126) ++ (⟨#[35]⟩ : ByteArray)) ++ t127).size + 5 ≤ 9223372036854775807 then ((impl_shown.f k a0_5).bind fun t128 => (if (((((⟨#[112]⟩ : ByteArray) ++ t126) ++ (⟨#[35]⟩ : ByteArray)) ++ t127) ++ (⟨#[32, 103, 97, 112, 32]⟩ : ByteArray)).size + t128.size ≤ 9223372036854775807 then (if ((((((⟨#[112]⟩ : ByteArray) ++ t126) ++ (⟨#[35]⟩ : ByteArray)) ++ t127) ++ (⟨#[32, 103, 97, 112, 32]⟩ : ByteArray)) ++ t128).size + 1 ≤ 9223372036854775807 then (some (((((((⟨#[112]⟩ : ByteArray) ++ t126) ++ (⟨#[35]⟩ : ByteArray)) ++ t127) ++ (⟨#[32, 103, 97, 112, 32]⟩ : ByteArray)) ++ t128) ++ (⟨#[10]⟩ : ByteArray))) else (none)) else (none))) else (none)) else (if ((((⟨#[112]⟩ : ByteArray) ++ t126) ++ (⟨#[35]⟩ : ByteArray)) ++ t127).size + 6 ≤ 9223372036854775807 then ((impl_shown.f k a0_3).bind fun t129 => (if (((((⟨#[112]⟩ : ByteArray) ++ t126) ++ (⟨#[35]⟩ : ByteArray)) ++ t127) ++ (⟨#[32, 99, 97, 108, 108, 32]⟩ : ByteArray)).size + t129.size ≤ 9223372036854775807 then (if ((((((⟨#[112]⟩ : ByteArray) ++ t126) ++ (⟨#[35]⟩ : ByteArray)) ++ t127) ++ (⟨#[32, 99, 97, 108, 108, 32]⟩ : ByteArray)) ++ t129).size + 1 ≤ 9223372036854775807 then ((impl_shown.f k a0_4).bind fun t130 => (if (((((((⟨#[112]⟩ : ByteArray) ++ t126) ++ (⟨#[35]⟩ : ByteArray)) ++ t127) ++ (⟨#[32, 99, 97, 108, 108, 32]⟩ : ByteArray)) ++ t129) ++ (⟨#[32]⟩ : ByteArray)).size + t130.size ≤ 9223372036854775807 then (if ((((((((⟨#[112]⟩ : ByteArray) ++ t126) ++ (⟨#[35]⟩ : ByteArray)) ++ t127) ++ (⟨#[32, 99, 97, 108, 108, 32]⟩ : ByteArray)) ++ t129) ++ (⟨#[32]⟩ : ByteArray)) ++ t130).size + 1 ≤ 9223372036854775807 then (some (((((((((⟨#[112]⟩ : ByteArray) ++ t126) ++ (⟨#[35]⟩ : ByteArray)) ++ t127) ++ (⟨#[32, 99, 97, 108, 108, 32]⟩ : ByteArray)) ++ t129) ++ (⟨#[32]⟩ : ByteArray)) ++ t130) ++ (⟨#[10]⟩ : ByteArray))) else (none)) else (none))) else (none)) else (none))) else (none))) else (none))) else (none)) else (none))) = some r := h
  clear h
  replace H := Option.bind_eq_some_iff.mp H
  obtain ⟨t126, A20, H⟩ := H
  replace H : (if 1 + t126.size ≤ 9223372036854775807 then (if ((⟨#[112]⟩ : ByteArray) ++ t126).size + 1 ≤ 9223372036854775807 then ((impl_shown.f k a0_1).bind fun t127 => (if (((⟨#[112]⟩ : ByteArray) ++ t126) ++ (⟨#[35]⟩ : ByteArray)).size + t127.size ≤ 9223372036854775807 then (if a0_2 = 2 then (if ((((⟨#[112]⟩ : ByteArray) ++ t126) ++ (⟨#[35]⟩ : ByteArray)) ++ t127).size + 5 ≤ 9223372036854775807 then ((impl_shown.f k a0_5).bind fun t128 => (if (((((⟨#[112]⟩ : ByteArray) ++ t126) ++ (⟨#[35]⟩ : ByteArray)) ++ t127) ++ (⟨#[32, 103, 97, 112, 32]⟩ : ByteArray)).size + t128.size ≤ 9223372036854775807 then (if ((((((⟨#[112]⟩ : ByteArray) ++ t126) ++ (⟨#[35]⟩ : ByteArray)) ++ t127) ++ (⟨#[32, 103, 97, 112, 32]⟩ : ByteArray)) ++ t128).size + 1 ≤ 9223372036854775807 then (some (((((((⟨#[112]⟩ : ByteArray) ++ t126) ++ (⟨#[35]⟩ : ByteArray)) ++ t127) ++ (⟨#[32, 103, 97, 112, 32]⟩ : ByteArray)) ++ t128) ++ (⟨#[10]⟩ : ByteArray))) else (none)) else (none))) else (none)) else (if ((((⟨#[112]⟩ : ByteArray) ++ t126) ++ (⟨#[35]⟩ : ByteArray)) ++ t127).size + 6 ≤ 9223372036854775807 then ((impl_shown.f k a0_3).bind fun t129 => (if (((((⟨#[112]⟩ : ByteArray) ++ t126) ++ (⟨#[35]⟩ : ByteArray)) ++ t127) ++ (⟨#[32, 99, 97, 108, 108, 32]⟩ : ByteArray)).size + t129.size ≤ 9223372036854775807 then (if ((((((⟨#[112]⟩ : ByteArray) ++ t126) ++ (⟨#[35]⟩ : ByteArray)) ++ t127) ++ (⟨#[32, 99, 97, 108, 108, 32]⟩ : ByteArray)) ++ t129).size + 1 ≤ 9223372036854775807 then ((impl_shown.f k a0_4).bind fun t130 => (if (((((((⟨#[112]⟩ : ByteArray) ++ t126) ++ (⟨#[35]⟩ : ByteArray)) ++ t127) ++ (⟨#[32, 99, 97, 108, 108, 32]⟩ : ByteArray)) ++ t129) ++ (⟨#[32]⟩ : ByteArray)).size + t130.size ≤ 9223372036854775807 then (if ((((((((⟨#[112]⟩ : ByteArray) ++ t126) ++ (⟨#[35]⟩ : ByteArray)) ++ t127) ++ (⟨#[32, 99, 97, 108, 108, 32]⟩ : ByteArray)) ++ t129) ++ (⟨#[32]⟩ : ByteArray)) ++ t130).size + 1 ≤ 9223372036854775807 then (some (((((((((⟨#[112]⟩ : ByteArray) ++ t126) ++ (⟨#[35]⟩ : ByteArray)) ++ t127) ++ (⟨#[32, 99, 97, 108, 108, 32]⟩ : ByteArray)) ++ t129) ++ (⟨#[32]⟩ : ByteArray)) ++ t130) ++ (⟨#[10]⟩ : ByteArray))) else (none)) else (none))) else (none)) else (none))) else (none))) else (none))) else (none)) else (none)) = some r := H
  have A2 := Aside0.mk A20
  clear A20
  by_cases c3 : 1 + t126.size ≤ 9223372036854775807
  · rw [if_pos c3] at H
    have c3b0 := eq_true c3
    have c3b1 : decide (1 + t126.size ≤ 9223372036854775807) = true := decide_eq_true c3
    try have c3b2 : (9223372036854775807 < 1 + t126.size) = False := eq_false (Nat.not_lt.2 c3)
    by_cases c4 : ((⟨#[112]⟩ : ByteArray) ++ t126).size + 1 ≤ 9223372036854775807
    · rw [if_pos c4] at H
      have c4b0 := eq_true c4
      have c4b1 : decide (((⟨#[112]⟩ : ByteArray) ++ t126).size + 1 ≤ 9223372036854775807) = true := decide_eq_true c4
      try have c4b2 : (9223372036854775807 < ((⟨#[112]⟩ : ByteArray) ++ t126).size + 1) = False := eq_false (Nat.not_lt.2 c4)
      try have c4b3 : (9223372036854775807 < 1 + t126.size + 1) = False := eq_false (by have h_ := c4; (repeat rw [ByteArray.size_append] at h_); exact Nat.not_lt.2 h_)
      replace H := Option.bind_eq_some_iff.mp H
      obtain ⟨t127, A50, H⟩ := H
      replace H : (if (((⟨#[112]⟩ : ByteArray) ++ t126) ++ (⟨#[35]⟩ : ByteArray)).size + t127.size ≤ 9223372036854775807 then (if a0_2 = 2 then (if ((((⟨#[112]⟩ : ByteArray) ++ t126) ++ (⟨#[35]⟩ : ByteArray)) ++ t127).size + 5 ≤ 9223372036854775807 then ((impl_shown.f k a0_5).bind fun t128 => (if (((((⟨#[112]⟩ : ByteArray) ++ t126) ++ (⟨#[35]⟩ : ByteArray)) ++ t127) ++ (⟨#[32, 103, 97, 112, 32]⟩ : ByteArray)).size + t128.size ≤ 9223372036854775807 then (if ((((((⟨#[112]⟩ : ByteArray) ++ t126) ++ (⟨#[35]⟩ : ByteArray)) ++ t127) ++ (⟨#[32, 103, 97, 112, 32]⟩ : ByteArray)) ++ t128).size + 1 ≤ 9223372036854775807 then (some (((((((⟨#[112]⟩ : ByteArray) ++ t126) ++ (⟨#[35]⟩ : ByteArray)) ++ t127) ++ (⟨#[32, 103, 97, 112, 32]⟩ : ByteArray)) ++ t128) ++ (⟨#[10]⟩ : ByteArray))) else (none)) else (none))) else (none)) else (if ((((⟨#[112]⟩ : ByteArray) ++ t126) ++ (⟨#[35]⟩ : ByteArray)) ++ t127).size + 6 ≤ 9223372036854775807 then ((impl_shown.f k a0_3).bind fun t129 => (if (((((⟨#[112]⟩ : ByteArray) ++ t126) ++ (⟨#[35]⟩ : ByteArray)) ++ t127) ++ (⟨#[32, 99, 97, 108, 108, 32]⟩ : ByteArray)).size + t129.size ≤ 9223372036854775807 then (if ((((((⟨#[112]⟩ : ByteArray) ++ t126) ++ (⟨#[35]⟩ : ByteArray)) ++ t127) ++ (⟨#[32, 99, 97, 108, 108, 32]⟩ : ByteArray)) ++ t129).size + 1 ≤ 9223372036854775807 then ((impl_shown.f k a0_4).bind fun t130 => (if (((((((⟨#[112]⟩ : ByteArray) ++ t126) ++ (⟨#[35]⟩ : ByteArray)) ++ t127) ++ (⟨#[32, 99, 97, 108, 108, 32]⟩ : ByteArray)) ++ t129) ++ (⟨#[32]⟩ : ByteArray)).size + t130.size ≤ 9223372036854775807 then (if ((((((((⟨#[112]⟩ : ByteArray) ++ t126) ++ (⟨#[35]⟩ : ByteArray)) ++ t127) ++ (⟨#[32, 99, 97, 108, 108, 32]⟩ : ByteArray)) ++ t129) ++ (⟨#[32]⟩ : ByteArray)) ++ t130).size + 1 ≤ 9223372036854775807 then (some (((((((((⟨#[112]⟩ : ByteArray) ++ t126) ++ (⟨#[35]⟩ : ByteArray)) ++ t127) ++ (⟨#[32, 99, 97, 108, 108, 32]⟩ : ByteArray)) ++ t129) ++ (⟨#[32]⟩ : ByteArray)) ++ t130) ++ (⟨#[10]⟩ : ByteArray))) else (none)) else (none))) else (none)) else (none))) else (none))) else (none)) = some r := H
      have A5 := Aside0.mk A50
      clear A50
      by_cases c6 : (((⟨#[112]⟩ : ByteArray) ++ t126) ++ (⟨#[35]⟩ : ByteArray)).size + t127.size ≤ 9223372036854775807
      · rw [if_pos c6] at H
        have c6b0 := eq_true c6
        have c6b1 : decide ((((⟨#[112]⟩ : ByteArray) ++ t126) ++ (⟨#[35]⟩ : ByteArray)).size + t127.size ≤ 9223372036854775807) = true := decide_eq_true c6
        try have c6b2 : (9223372036854775807 < (((⟨#[112]⟩ : ByteArray) ++ t126) ++ (⟨#[35]⟩ : ByteArray)).size + t127.size) = False := eq_false (Nat.not_lt.2 c6)
        try have c6b3 : (9223372036854775807 < 1 + t126.size + 1 + t127.size) = False := eq_false (by have h_ := c6; (repeat rw [ByteArray.size_append] at h_); exact Nat.not_lt.2 h_)
        by_cases c7 : a0_2 = 2
        · rw [if_pos c7] at H
          have c7b0 : (a0_2 == 2) = true := beq_iff_eq.mpr c7
          have c7b1 : (a0_2 != 2) = false := bne_eq_false_iff_eq.mpr c7
          clear c7
          by_cases c8 : ((((⟨#[112]⟩ : ByteArray) ++ t126) ++ (⟨#[35]⟩ : ByteArray)) ++ t127).size + 5 ≤ 9223372036854775807
          · rw [if_pos c8] at H
            have c8b0 := eq_true c8
            have c8b1 : decide (((((⟨#[112]⟩ : ByteArray) ++ t126) ++ (⟨#[35]⟩ : ByteArray)) ++ t127).size + 5 ≤ 9223372036854775807) = true := decide_eq_true c8
            try have c8b2 : (9223372036854775807 < ((((⟨#[112]⟩ : ByteArray) ++ t126) ++ (⟨#[35]⟩ : ByteArray)) ++ t127).size + 5) = False := eq_false (Nat.not_lt.2 c8)
            try have c8b3 : (9223372036854775807 < 1 + t126.size + 1 + t127.size + 5) = False := eq_false (by have h_ := c8; (repeat rw [ByteArray.size_append] at h_); exact Nat.not_lt.2 h_)
            replace H := Option.bind_eq_some_iff.mp H
            obtain ⟨t128, A90, H⟩ := H
            replace H : (if (((((⟨#[112]⟩ : ByteArray) ++ t126) ++ (⟨#[35]⟩ : ByteArray)) ++ t127) ++ (⟨#[32, 103, 97, 112, 32]⟩ : ByteArray)).size + t128.size ≤ 9223372036854775807 then (if ((((((⟨#[112]⟩ : ByteArray) ++ t126) ++ (⟨#[35]⟩ : ByteArray)) ++ t127) ++ (⟨#[32, 103, 97, 112, 32]⟩ : ByteArray)) ++ t128).size + 1 ≤ 9223372036854775807 then (some (((((((⟨#[112]⟩ : ByteArray) ++ t126) ++ (⟨#[35]⟩ : ByteArray)) ++ t127) ++ (⟨#[32, 103, 97, 112, 32]⟩ : ByteArray)) ++ t128) ++ (⟨#[10]⟩ : ByteArray))) else (none)) else (none)) = some r := H
            have A9 := Aside0.mk A90
            clear A90
            by_cases c10 : (((((⟨#[112]⟩ : ByteArray) ++ t126) ++ (⟨#[35]⟩ : ByteArray)) ++ t127) ++ (⟨#[32, 103, 97, 112, 32]⟩ : ByteArray)).size + t128.size ≤ 9223372036854775807
            · rw [if_pos c10] at H
              have c10b0 := eq_true c10
              have c10b1 : decide ((((((⟨#[112]⟩ : ByteArray) ++ t126) ++ (⟨#[35]⟩ : ByteArray)) ++ t127) ++ (⟨#[32, 103, 97, 112, 32]⟩ : ByteArray)).size + t128.size ≤ 9223372036854775807) = true := decide_eq_true c10
              try have c10b2 : (9223372036854775807 < (((((⟨#[112]⟩ : ByteArray) ++ t126) ++ (⟨#[35]⟩ : ByteArray)) ++ t127) ++ (⟨#[32, 103, 97, 112, 32]⟩ : ByteArray)).size + t128.size) = False := eq_false (Nat.not_lt.2 c10)
              try have c10b3 : (9223372036854775807 < 1 + t126.size + 1 + t127.size + 5 + t128.size) = False := eq_false (by have h_ := c10; (repeat rw [ByteArray.size_append] at h_); exact Nat.not_lt.2 h_)
              by_cases c11 : ((((((⟨#[112]⟩ : ByteArray) ++ t126) ++ (⟨#[35]⟩ : ByteArray)) ++ t127) ++ (⟨#[32, 103, 97, 112, 32]⟩ : ByteArray)) ++ t128).size + 1 ≤ 9223372036854775807
              · rw [if_pos c11] at H
                have c11b0 := eq_true c11
                have c11b1 : decide (((((((⟨#[112]⟩ : ByteArray) ++ t126) ++ (⟨#[35]⟩ : ByteArray)) ++ t127) ++ (⟨#[32, 103, 97, 112, 32]⟩ : ByteArray)) ++ t128).size + 1 ≤ 9223372036854775807) = true := decide_eq_true c11
                try have c11b2 : (9223372036854775807 < ((((((⟨#[112]⟩ : ByteArray) ++ t126) ++ (⟨#[35]⟩ : ByteArray)) ++ t127) ++ (⟨#[32, 103, 97, 112, 32]⟩ : ByteArray)) ++ t128).size + 1) = False := eq_false (Nat.not_lt.2 c11)
                try have c11b3 : (9223372036854775807 < 1 + t126.size + 1 + t127.size + 5 + t128.size + 1) = False := eq_false (by have h_ := c11; (repeat rw [ByteArray.size_append] at h_); exact Nat.not_lt.2 h_)
                obtain rfl := Option.some.inj H
                go_enter Try.func11, Try.ntmps11
                try go_wp2_with (first | ((with_reducible refine gate_dst (N := 1) rfl ?_); refine box_event ?hg (N := 1) ?hd (cs := #[.int .i64 a0_0, .int .i64 a0_1, .int .i64 a0_2, .int .i64 a0_3, .int .i64 a0_4, .int .i64 a0_5]) (t := 29) ?hr ?_; (case hd => rfl); (case hg => rfl); (case hr => first | (go_simp; done) | (go_simp; rfl)); intro gb125 hg w12 hbox hb; have n0_ := Aside0.mk (below_step (by repeat (first | (with_reducible first | exact HB.out | apply below_alloc | apply pw_below_drewN | apply below_drew1) | exact HB.out)) hb); have n1_ := Aside0.mk (hbox); have n2_ := Aside0.mk ((by rw [hg]; exact (below_size (by repeat (first | (with_reducible first | exact HB.out | apply below_alloc | apply pw_below_drewN | apply below_drew1) | exact HB.out))) : w.heap.size ≤ gb125)); have n3_ := Aside0.mk ((by rw [hg]; exact (below_size (by repeat (first | (with_reducible first | exact HB.out | apply below_alloc | apply pw_below_drewN | apply below_drew1) | exact HB.out))) : w.heap.size ≤ gb125)); clear HB; have HB := n0_; have BK125 := n1_; have GW125 := n2_; have GE125 := n3_; clear n0_ n1_ n2_ n3_; clear hb hbox hg))
                have n0_ := Aside0.mk (blk_drew BK125.out)
                have n1_ := Aside0.mk (below_drew1 HB.out)
                clear BK125
                clear HB
                have BK125 := n0_
                have HB := n1_
                clear n0_ n1_
                refine start_ (n := 10) (S := fun w' => w'.cell? ⟨gb125, 0, none⟩ = some (.int .i64 a0_0) ∧ w'.cell? ⟨gb125, 1, none⟩ = some (.int .i64 a0_1) ∧ w'.cell? ⟨gb125, 2, none⟩ = some (.int .i64 a0_2) ∧ w'.cell? ⟨gb125, 3, none⟩ = some (.int .i64 a0_3) ∧ w'.cell? ⟨gb125, 4, none⟩ = some (.int .i64 a0_4) ∧ w'.cell? ⟨gb125, 5, none⟩ = some (.int .i64 a0_5)) (ds := []) #[false, false, false, false, false, false, false, false, false, false] (by kernel_rfl) rfl rfl ⟨(blk_cell BK125.out 0).trans rfl, (blk_cell BK125.out 1).trans rfl, (blk_cell BK125.out 2).trans rfl, (blk_cell BK125.out 3).trans rfl, (blk_cell BK125.out 4).trans rfl, (blk_cell BK125.out 5).trans rfl⟩ (fun hHeld => ?_); refine with_tabW impl_ShowEntry.tab1 impl_ShowEntry.bits1 (fun HT_ HW_ => ?_)
                generalize w12.drew = w13 at BK125 HB hHeld ⊢
                refine pure_ (i := 0) (N := some 4) (v := ?_) (a' := ?_) #[true, false, false, false, false, false, false, false, false, false] rfl rfl (any_of HT_.out (by kernel_rfl)) (fun _ _ _ h => h) (Or.inl ⟨by rfl, ?_⟩) ?_ ?_
                rotate_left
                · intro w'
                  go_simp
                  with_reducible rfl
                rotate_left
                · simp only [Act.put, List.setIfInBounds_toArray, List.set_cons_zero, List.set_cons_succ, i64_w, i32_w]
                  rfl
                refine pure_ (i := 5) (N := some 9) (v := ?_) (a' := ?_) #[true, false, false, false, false, true, false, false, false, false] rfl rfl (any_of HT_.out (by kernel_rfl)) (fun _ _ _ h => h) (Or.inl ⟨by rfl, ?_⟩) ?_ ?_
                rotate_left
                · intro w'
                  go_simp
                  with_reducible rfl
                rotate_left
                · simp only [Act.put, List.setIfInBounds_toArray, List.set_cons_zero, List.set_cons_succ, i64_w, i32_w]
                  rfl
                refine take_ (i := 1) (N := some 5) (v := ?_) (a' := ?_) #[true, true, false, false, false, true, false, false, false, false] rfl rfl (take_ofW HT_.out HW_.out (by kernel_rfl)) (fun _ _ _ h => h) (Or.inl ⟨by rfl, ?_⟩) hHeld ?_ ?_
                rotate_left
                · rintro w' ⟨s0, s1, s2, s3, s4, s5⟩
                  go_simp
                  with_reducible rfl
                rotate_left
                · simp only [Act.put, List.setIfInBounds_toArray, List.set_cons_zero, List.set_cons_succ, i64_w, i32_w]
                  rfl
                refine take_ (i := 6) (N := some 10) (v := ?_) (a' := ?_) #[true, true, false, false, false, true, true, false, false, false] rfl rfl (take_ofW HT_.out HW_.out (by kernel_rfl)) (fun _ _ _ h => h) (Or.inl ⟨by rfl, ?_⟩) hHeld ?_ ?_
                rotate_left
                · rintro w' ⟨s0, s1, s2, s3, s4, s5⟩
                  go_simp
                  with_reducible rfl
                rotate_left
                · simp only [Act.put, List.setIfInBounds_toArray, List.set_cons_zero, List.set_cons_succ, i64_w, i32_w]
                  rfl
                refine one_ (i := 2) (N := some 6) #[true, true, true, false, false, true, true, false, false, false] rfl rfl (one_of HT_.out (by kernel_rfl)) (by decide) (fun K hK => ?_)
                refine goes_ Try.func33 (by kernel_rfl) rfl #[.int .i64 a0_0] (by rfl) rfl rfl (by (try simp only [List.map_toArray, List.map_cons, List.map_nil]); first | done | rfl | (simp only [List.length_drop, List.length_take]; rfl)) ?_
                with_reducible refine (impl_shown.calls k a0_0 t126 _ A2.out).mono ?_
                rintro e w14 ⟨rfl, hb⟩
                refine ⟨_, rfl, ?_⟩
                have n0_ := Aside0.mk (blk_below (g := gb125) (o := .cells #[.int .i64 a0_0, .int .i64 a0_1, .int .i64 a0_2, .int .i64 a0_3, .int .i64 a0_4, .int .i64 a0_5] 29 (0, 0)) (by (with_reducible repeat (first | refine blk_drewN ?_ _ | refine blk_drew ?_ | refine blk_alloc ?_ _)); exact BK125.out) hb)
                have n1_ := Aside0.mk (below_step (by repeat (first | (with_reducible first | exact HB.out | apply below_alloc | apply pw_below_drewN | apply below_drew1 | refine below_set ?_ GE125.out) | exact HB.out)) hb)
                clear BK125
                clear HB
                have BK125 := n0_
                have HB := n1_
                clear n0_ n1_
                (try clear hb)
                (try clear hb2)
                (try clear hk)
                (try clear hi)
                refine hK.out _ _ ⟨(blk_cell BK125.out 0).trans rfl, (blk_cell BK125.out 1).trans rfl, (blk_cell BK125.out 2).trans rfl, (blk_cell BK125.out 3).trans rfl, (blk_cell BK125.out 4).trans rfl, (blk_cell BK125.out 5).trans rfl⟩ (fun hHeld => ?_)
                clear hK K
                refine norm_ (a' := ?_) ?_ ?_
                rotate_left
                · show Act.put _ (some 6) _ = _
                  simp only [Act.put, List.setIfInBounds_toArray, List.set_cons_zero, List.set_cons_succ, i64_w, i32_w]
                  rfl
                refine pure_ (i := 3) (N := some 7) (v := ?_) (a' := ?_) #[true, true, true, true, false, true, true, false, false, false] rfl rfl (any_of HT_.out (by kernel_rfl)) (fun _ _ _ h => h) (Or.inl ⟨by rfl, ?_⟩) ?_ ?_
                rotate_left
                · intro w'
                  go_simp
                  with_reducible rfl
                rotate_left
                · simp only [Act.put, List.setIfInBounds_toArray, List.set_cons_zero, List.set_cons_succ, i64_w, i32_w]
                  rfl
                refine pure_ (i := 4) (N := some 8) (v := ?_) (a' := ?_) #[true, true, true, true, true, true, true, false, false, false] rfl rfl (any_of HT_.out (by kernel_rfl)) (fun _ _ _ h => h) (Or.inl ⟨by rfl, ?_⟩) ?_ ?_
                rotate_left
                · intro w'
                  go_simp
                  with_reducible rfl
                rotate_left
                · simp only [Act.put, List.setIfInBounds_toArray, List.set_cons_zero, List.set_cons_succ, i64_w, i32_w]
                  rfl
                refine one_ (i := 7) (N := some 11) #[true, true, true, true, true, true, true, true, false, false] rfl rfl (one_of HT_.out (by kernel_rfl)) (by decide) (fun K hK => ?_)
                refine goes_ Try.func33 (by kernel_rfl) rfl #[.int .i64 a0_1] (by rfl) rfl rfl (by (try simp only [List.map_toArray, List.map_cons, List.map_nil]); first | done | rfl | (simp only [List.length_drop, List.length_take]; rfl)) ?_
                with_reducible refine (impl_shown.calls k a0_1 t127 _ A5.out).mono ?_
                rintro e w15 ⟨rfl, hb⟩
                refine ⟨_, rfl, ?_⟩
                have n0_ := Aside0.mk (blk_below (g := gb125) (o := .cells #[.int .i64 a0_0, .int .i64 a0_1, .int .i64 a0_2, .int .i64 a0_3, .int .i64 a0_4, .int .i64 a0_5] 29 (0, 0)) (by (with_reducible repeat (first | refine blk_drewN ?_ _ | refine blk_drew ?_ | refine blk_alloc ?_ _)); exact BK125.out) hb)
                have n1_ := Aside0.mk (below_step (by repeat (first | (with_reducible first | exact HB.out | apply below_alloc | apply pw_below_drewN | apply below_drew1 | refine below_set ?_ GE125.out) | exact HB.out)) hb)
                clear BK125
                clear HB
                have BK125 := n0_
                have HB := n1_
                clear n0_ n1_
                (try clear hb)
                (try clear hb2)
                (try clear hk)
                (try clear hi)
                refine hK.out _ _ ⟨(blk_cell BK125.out 0).trans rfl, (blk_cell BK125.out 1).trans rfl, (blk_cell BK125.out 2).trans rfl, (blk_cell BK125.out 3).trans rfl, (blk_cell BK125.out 4).trans rfl, (blk_cell BK125.out 5).trans rfl⟩ (fun hHeld => ?_)
                clear hK K
                refine norm_ (a' := ?_) ?_ ?_
                rotate_left
                · show Act.put _ (some 11) _ = _
                  simp only [Act.put, List.setIfInBounds_toArray, List.set_cons_zero, List.set_cons_succ, i64_w, i32_w]
                  rfl
                refine pure_ (i := 8) (N := some 12) (v := ?_) (a' := ?_) #[true, true, true, true, true, true, true, true, true, false] rfl rfl (any_of HT_.out (by kernel_rfl)) (fun _ _ _ h => h) (Or.inl ⟨by rfl, ?_⟩) ?_ ?_
                rotate_left
                · intro w'
                  go_simp
                  with_reducible rfl
                rotate_left
                · simp only [Act.put, List.setIfInBounds_toArray, List.set_cons_zero, List.set_cons_succ, i64_w, i32_w]
                  rfl
                refine pure_ (i := 9) (N := some 3) (v := ?_) (a' := ?_) #[true, true, true, true, true, true, true, true, true, true] rfl rfl (any_of HT_.out (by kernel_rfl)) (fun _ _ _ h => h) (Or.inl ⟨by rfl, ?_⟩) ?_ ?_
                rotate_left
                · intro w'
                  go_simp
                  with_reducible rfl
                rotate_left
                · simp only [Act.put, List.setIfInBounds_toArray, List.set_cons_zero, List.set_cons_succ, i64_w, i32_w]
                  rfl
                refine done_ (done_of HT_.out (by kernel_rfl)) ?_
                have hcz16_0 : w15.cell? ⟨gb125, 0, none⟩ = some (.int .i64 a0_0) := (blk_cell BK125.out 0).trans rfl
                have hcz16_1 : w15.cell? ⟨gb125, 1, none⟩ = some (.int .i64 a0_1) := (blk_cell BK125.out 1).trans rfl
                have hcz16_2 : w15.cell? ⟨gb125, 2, none⟩ = some (.int .i64 a0_2) := (blk_cell BK125.out 2).trans rfl
                have hcz16_3 : w15.cell? ⟨gb125, 3, none⟩ = some (.int .i64 a0_3) := (blk_cell BK125.out 3).trans rfl
                have hcz16_4 : w15.cell? ⟨gb125, 4, none⟩ = some (.int .i64 a0_4) := (blk_cell BK125.out 4).trans rfl
                have hcz16_5 : w15.cell? ⟨gb125, 5, none⟩ = some (.int .i64 a0_5) := (blk_cell BK125.out 5).trans rfl
                have hfz16_0 := blk_frozen BK125.out 0
                have hfz16_1 := blk_frozen BK125.out 1
                have hfz16_2 := blk_frozen BK125.out 2
                have hfz16_3 := blk_frozen BK125.out 3
                have hfz16_4 := blk_frozen BK125.out 4
                have hfz16_5 := blk_frozen BK125.out 5
                try go_wp2_with (first | ((with_reducible refine gate_callee (f := 33) rfl ?_); refine goesL_ (some 22) rfl rfl Try.func33 (by kernel_rfl) rfl #[.int .i64 a0_5] rfl (by (try simp only [List.map_toArray, List.map_cons, List.map_nil]); first | done | rfl | (simp only [List.length_drop, List.length_take]; rfl)) ?_; (with_reducible refine (impl_shown.calls k a0_5 t128 _ A9.out).mono ?_); rintro e w17 ⟨rfl, hb⟩; refine ⟨_, rfl, ?_⟩; have n0_ := Aside0.mk (blk_below (g := gb125) (o := .cells #[.int .i64 a0_0, .int .i64 a0_1, .int .i64 a0_2, .int .i64 a0_3, .int .i64 a0_4, .int .i64 a0_5] 29 (0, 0)) (by (with_reducible repeat (first | refine blk_drewN ?_ _ | refine blk_drew ?_ | refine blk_alloc ?_ _)); exact BK125.out) hb); have n1_ := Aside0.mk (below_step (by repeat (first | (with_reducible first | exact HB.out | apply below_alloc | apply pw_below_drewN | apply below_drew1 | refine below_set ?_ GE125.out) | exact HB.out)) hb); clear BK125; clear HB; have BK125 := n0_; have HB := n1_; clear n0_ n1_; (try clear hb); (try clear hb2); (try clear hk); (try clear hi)))
                go_ret
                exact ⟨by first | rfl | (simp [errW_none, errW_some] <;> rfl) | (simp [*, errW_none, errW_some] <;> rfl), by repeat (first | (with_reducible first | exact HB.out | apply below_alloc | apply pw_below_drewN | apply below_drew1 | refine below_set ?_ GE125.out) | exact HB.out)⟩
              · rw [if_neg c11] at H
                exact absurd H (by simp)
            · rw [if_neg c10] at H
              exact absurd H (by simp)
          · rw [if_neg c8] at H
            exact absurd H (by simp)
        · rw [if_neg c7] at H
          have c7b0 : (a0_2 == 2) = false := beq_eq_false_iff_ne.mpr c7
          have c7b1 : (a0_2 != 2) = true := bne_iff_ne.mpr c7
          by_cases c18 : ((((⟨#[112]⟩ : ByteArray) ++ t126) ++ (⟨#[35]⟩ : ByteArray)) ++ t127).size + 6 ≤ 9223372036854775807
          · rw [if_pos c18] at H
            have c18b0 := eq_true c18
            have c18b1 : decide (((((⟨#[112]⟩ : ByteArray) ++ t126) ++ (⟨#[35]⟩ : ByteArray)) ++ t127).size + 6 ≤ 9223372036854775807) = true := decide_eq_true c18
            try have c18b2 : (9223372036854775807 < ((((⟨#[112]⟩ : ByteArray) ++ t126) ++ (⟨#[35]⟩ : ByteArray)) ++ t127).size + 6) = False := eq_false (Nat.not_lt.2 c18)
            try have c18b3 : (9223372036854775807 < 1 + t126.size + 1 + t127.size + 6) = False := eq_false (by have h_ := c18; (repeat rw [ByteArray.size_append] at h_); exact Nat.not_lt.2 h_)
            replace H := Option.bind_eq_some_iff.mp H
            obtain ⟨t129, A190, H⟩ := H
            replace H : (if (((((⟨#[112]⟩ : ByteArray) ++ t126) ++ (⟨#[35]⟩ : ByteArray)) ++ t127) ++ (⟨#[32, 99, 97, 108, 108, 32]⟩ : ByteArray)).size + t129.size ≤ 9223372036854775807 then (if ((((((⟨#[112]⟩ : ByteArray) ++ t126) ++ (⟨#[35]⟩ : ByteArray)) ++ t127) ++ (⟨#[32, 99, 97, 108, 108, 32]⟩ : ByteArray)) ++ t129).size + 1 ≤ 9223372036854775807 then ((impl_shown.f k a0_4).bind fun t130 => (if (((((((⟨#[112]⟩ : ByteArray) ++ t126) ++ (⟨#[35]⟩ : ByteArray)) ++ t127) ++ (⟨#[32, 99, 97, 108, 108, 32]⟩ : ByteArray)) ++ t129) ++ (⟨#[32]⟩ : ByteArray)).size + t130.size ≤ 9223372036854775807 then (if ((((((((⟨#[112]⟩ : ByteArray) ++ t126) ++ (⟨#[35]⟩ : ByteArray)) ++ t127) ++ (⟨#[32, 99, 97, 108, 108, 32]⟩ : ByteArray)) ++ t129) ++ (⟨#[32]⟩ : ByteArray)) ++ t130).size + 1 ≤ 9223372036854775807 then (some (((((((((⟨#[112]⟩ : ByteArray) ++ t126) ++ (⟨#[35]⟩ : ByteArray)) ++ t127) ++ (⟨#[32, 99, 97, 108, 108, 32]⟩ : ByteArray)) ++ t129) ++ (⟨#[32]⟩ : ByteArray)) ++ t130) ++ (⟨#[10]⟩ : ByteArray))) else (none)) else (none))) else (none)) else (none)) = some r := H
            have A19 := Aside0.mk A190
            clear A190
            by_cases c20 : (((((⟨#[112]⟩ : ByteArray) ++ t126) ++ (⟨#[35]⟩ : ByteArray)) ++ t127) ++ (⟨#[32, 99, 97, 108, 108, 32]⟩ : ByteArray)).size + t129.size ≤ 9223372036854775807
            · rw [if_pos c20] at H
              have c20b0 := eq_true c20
              have c20b1 : decide ((((((⟨#[112]⟩ : ByteArray) ++ t126) ++ (⟨#[35]⟩ : ByteArray)) ++ t127) ++ (⟨#[32, 99, 97, 108, 108, 32]⟩ : ByteArray)).size + t129.size ≤ 9223372036854775807) = true := decide_eq_true c20
              try have c20b2 : (9223372036854775807 < (((((⟨#[112]⟩ : ByteArray) ++ t126) ++ (⟨#[35]⟩ : ByteArray)) ++ t127) ++ (⟨#[32, 99, 97, 108, 108, 32]⟩ : ByteArray)).size + t129.size) = False := eq_false (Nat.not_lt.2 c20)
              try have c20b3 : (9223372036854775807 < 1 + t126.size + 1 + t127.size + 6 + t129.size) = False := eq_false (by have h_ := c20; (repeat rw [ByteArray.size_append] at h_); exact Nat.not_lt.2 h_)
              by_cases c21 : ((((((⟨#[112]⟩ : ByteArray) ++ t126) ++ (⟨#[35]⟩ : ByteArray)) ++ t127) ++ (⟨#[32, 99, 97, 108, 108, 32]⟩ : ByteArray)) ++ t129).size + 1 ≤ 9223372036854775807
              · rw [if_pos c21] at H
                have c21b0 := eq_true c21
                have c21b1 : decide (((((((⟨#[112]⟩ : ByteArray) ++ t126) ++ (⟨#[35]⟩ : ByteArray)) ++ t127) ++ (⟨#[32, 99, 97, 108, 108, 32]⟩ : ByteArray)) ++ t129).size + 1 ≤ 9223372036854775807) = true := decide_eq_true c21
                try have c21b2 : (9223372036854775807 < ((((((⟨#[112]⟩ : ByteArray) ++ t126) ++ (⟨#[35]⟩ : ByteArray)) ++ t127) ++ (⟨#[32, 99, 97, 108, 108, 32]⟩ : ByteArray)) ++ t129).size + 1) = False := eq_false (Nat.not_lt.2 c21)
                try have c21b3 : (9223372036854775807 < 1 + t126.size + 1 + t127.size + 6 + t129.size + 1) = False := eq_false (by have h_ := c21; (repeat rw [ByteArray.size_append] at h_); exact Nat.not_lt.2 h_)
                replace H := Option.bind_eq_some_iff.mp H
                obtain ⟨t130, A220, H⟩ := H
                replace H : (if (((((((⟨#[112]⟩ : ByteArray) ++ t126) ++ (⟨#[35]⟩ : ByteArray)) ++ t127) ++ (⟨#[32, 99, 97, 108, 108, 32]⟩ : ByteArray)) ++ t129) ++ (⟨#[32]⟩ : ByteArray)).size + t130.size ≤ 9223372036854775807 then (if ((((((((⟨#[112]⟩ : ByteArray) ++ t126) ++ (⟨#[35]⟩ : ByteArray)) ++ t127) ++ (⟨#[32, 99, 97, 108, 108, 32]⟩ : ByteArray)) ++ t129) ++ (⟨#[32]⟩ : ByteArray)) ++ t130).size + 1 ≤ 9223372036854775807 then (some (((((((((⟨#[112]⟩ : ByteArray) ++ t126) ++ (⟨#[35]⟩ : ByteArray)) ++ t127) ++ (⟨#[32, 99, 97, 108, 108, 32]⟩ : ByteArray)) ++ t129) ++ (⟨#[32]⟩ : ByteArray)) ++ t130) ++ (⟨#[10]⟩ : ByteArray))) else (none)) else (none)) = some r := H
                have A22 := Aside0.mk A220
                clear A220
                by_cases c23 : (((((((⟨#[112]⟩ : ByteArray) ++ t126) ++ (⟨#[35]⟩ : ByteArray)) ++ t127) ++ (⟨#[32, 99, 97, 108, 108, 32]⟩ : ByteArray)) ++ t129) ++ (⟨#[32]⟩ : ByteArray)).size + t130.size ≤ 9223372036854775807
                · rw [if_pos c23] at H
                  have c23b0 := eq_true c23
                  have c23b1 : decide ((((((((⟨#[112]⟩ : ByteArray) ++ t126) ++ (⟨#[35]⟩ : ByteArray)) ++ t127) ++ (⟨#[32, 99, 97, 108, 108, 32]⟩ : ByteArray)) ++ t129) ++ (⟨#[32]⟩ : ByteArray)).size + t130.size ≤ 9223372036854775807) = true := decide_eq_true c23
                  try have c23b2 : (9223372036854775807 < (((((((⟨#[112]⟩ : ByteArray) ++ t126) ++ (⟨#[35]⟩ : ByteArray)) ++ t127) ++ (⟨#[32, 99, 97, 108, 108, 32]⟩ : ByteArray)) ++ t129) ++ (⟨#[32]⟩ : ByteArray)).size + t130.size) = False := eq_false (Nat.not_lt.2 c23)
                  try have c23b3 : (9223372036854775807 < 1 + t126.size + 1 + t127.size + 6 + t129.size + 1 + t130.size) = False := eq_false (by have h_ := c23; (repeat rw [ByteArray.size_append] at h_); exact Nat.not_lt.2 h_)
                  by_cases c24 : ((((((((⟨#[112]⟩ : ByteArray) ++ t126) ++ (⟨#[35]⟩ : ByteArray)) ++ t127) ++ (⟨#[32, 99, 97, 108, 108, 32]⟩ : ByteArray)) ++ t129) ++ (⟨#[32]⟩ : ByteArray)) ++ t130).size + 1 ≤ 9223372036854775807
                  · rw [if_pos c24] at H
                    have c24b0 := eq_true c24
                    have c24b1 : decide (((((((((⟨#[112]⟩ : ByteArray) ++ t126) ++ (⟨#[35]⟩ : ByteArray)) ++ t127) ++ (⟨#[32, 99, 97, 108, 108, 32]⟩ : ByteArray)) ++ t129) ++ (⟨#[32]⟩ : ByteArray)) ++ t130).size + 1 ≤ 9223372036854775807) = true := decide_eq_true c24
                    try have c24b2 : (9223372036854775807 < ((((((((⟨#[112]⟩ : ByteArray) ++ t126) ++ (⟨#[35]⟩ : ByteArray)) ++ t127) ++ (⟨#[32, 99, 97, 108, 108, 32]⟩ : ByteArray)) ++ t129) ++ (⟨#[32]⟩ : ByteArray)) ++ t130).size + 1) = False := eq_false (Nat.not_lt.2 c24)
                    try have c24b3 : (9223372036854775807 < 1 + t126.size + 1 + t127.size + 6 + t129.size + 1 + t130.size + 1) = False := eq_false (by have h_ := c24; (repeat rw [ByteArray.size_append] at h_); exact Nat.not_lt.2 h_)
                    obtain rfl := Option.some.inj H
                    go_enter Try.func11, Try.ntmps11
                    try go_wp2_with (first | ((with_reducible refine gate_dst (N := 1) rfl ?_); refine box_event ?hg (N := 1) ?hd (cs := #[.int .i64 a0_0, .int .i64 a0_1, .int .i64 a0_2, .int .i64 a0_3, .int .i64 a0_4, .int .i64 a0_5]) (t := 29) ?hr ?_; (case hd => rfl); (case hg => rfl); (case hr => first | (go_simp; done) | (go_simp; rfl)); intro gb125 hg w25 hbox hb; have n0_ := Aside0.mk (below_step (by repeat (first | (with_reducible first | exact HB.out | apply below_alloc | apply pw_below_drewN | apply below_drew1) | exact HB.out)) hb); have n1_ := Aside0.mk (hbox); have n2_ := Aside0.mk ((by rw [hg]; exact (below_size (by repeat (first | (with_reducible first | exact HB.out | apply below_alloc | apply pw_below_drewN | apply below_drew1) | exact HB.out))) : w.heap.size ≤ gb125)); have n3_ := Aside0.mk ((by rw [hg]; exact (below_size (by repeat (first | (with_reducible first | exact HB.out | apply below_alloc | apply pw_below_drewN | apply below_drew1) | exact HB.out))) : w.heap.size ≤ gb125)); clear HB; have HB := n0_; have BK125 := n1_; have GW125 := n2_; have GE125 := n3_; clear n0_ n1_ n2_ n3_; clear hb hbox hg))
                    have n0_ := Aside0.mk (blk_drew BK125.out)
                    have n1_ := Aside0.mk (below_drew1 HB.out)
                    clear BK125
                    clear HB
                    have BK125 := n0_
                    have HB := n1_
                    clear n0_ n1_
                    refine start_ (n := 10) (S := fun w' => w'.cell? ⟨gb125, 0, none⟩ = some (.int .i64 a0_0) ∧ w'.cell? ⟨gb125, 1, none⟩ = some (.int .i64 a0_1) ∧ w'.cell? ⟨gb125, 2, none⟩ = some (.int .i64 a0_2) ∧ w'.cell? ⟨gb125, 3, none⟩ = some (.int .i64 a0_3) ∧ w'.cell? ⟨gb125, 4, none⟩ = some (.int .i64 a0_4) ∧ w'.cell? ⟨gb125, 5, none⟩ = some (.int .i64 a0_5)) (ds := []) #[false, false, false, false, false, false, false, false, false, false] (by kernel_rfl) rfl rfl ⟨(blk_cell BK125.out 0).trans rfl, (blk_cell BK125.out 1).trans rfl, (blk_cell BK125.out 2).trans rfl, (blk_cell BK125.out 3).trans rfl, (blk_cell BK125.out 4).trans rfl, (blk_cell BK125.out 5).trans rfl⟩ (fun hHeld => ?_); refine with_tabW impl_ShowEntry.tab1 impl_ShowEntry.bits1 (fun HT_ HW_ => ?_)
                    generalize w25.drew = w26 at BK125 HB hHeld ⊢
                    refine pure_ (i := 0) (N := some 4) (v := ?_) (a' := ?_) #[true, false, false, false, false, false, false, false, false, false] rfl rfl (any_of HT_.out (by kernel_rfl)) (fun _ _ _ h => h) (Or.inl ⟨by rfl, ?_⟩) ?_ ?_
                    rotate_left
                    · intro w'
                      go_simp
                      with_reducible rfl
                    rotate_left
                    · simp only [Act.put, List.setIfInBounds_toArray, List.set_cons_zero, List.set_cons_succ, i64_w, i32_w]
                      rfl
                    refine pure_ (i := 5) (N := some 9) (v := ?_) (a' := ?_) #[true, false, false, false, false, true, false, false, false, false] rfl rfl (any_of HT_.out (by kernel_rfl)) (fun _ _ _ h => h) (Or.inl ⟨by rfl, ?_⟩) ?_ ?_
                    rotate_left
                    · intro w'
                      go_simp
                      with_reducible rfl
                    rotate_left
                    · simp only [Act.put, List.setIfInBounds_toArray, List.set_cons_zero, List.set_cons_succ, i64_w, i32_w]
                      rfl
                    refine take_ (i := 1) (N := some 5) (v := ?_) (a' := ?_) #[true, true, false, false, false, true, false, false, false, false] rfl rfl (take_ofW HT_.out HW_.out (by kernel_rfl)) (fun _ _ _ h => h) (Or.inl ⟨by rfl, ?_⟩) hHeld ?_ ?_
                    rotate_left
                    · rintro w' ⟨s0, s1, s2, s3, s4, s5⟩
                      go_simp
                      with_reducible rfl
                    rotate_left
                    · simp only [Act.put, List.setIfInBounds_toArray, List.set_cons_zero, List.set_cons_succ, i64_w, i32_w]
                      rfl
                    refine take_ (i := 6) (N := some 10) (v := ?_) (a' := ?_) #[true, true, false, false, false, true, true, false, false, false] rfl rfl (take_ofW HT_.out HW_.out (by kernel_rfl)) (fun _ _ _ h => h) (Or.inl ⟨by rfl, ?_⟩) hHeld ?_ ?_
                    rotate_left
                    · rintro w' ⟨s0, s1, s2, s3, s4, s5⟩
                      go_simp
                      with_reducible rfl
                    rotate_left
                    · simp only [Act.put, List.setIfInBounds_toArray, List.set_cons_zero, List.set_cons_succ, i64_w, i32_w]
                      rfl
                    refine one_ (i := 2) (N := some 6) #[true, true, true, false, false, true, true, false, false, false] rfl rfl (one_of HT_.out (by kernel_rfl)) (by decide) (fun K hK => ?_)
                    refine goes_ Try.func33 (by kernel_rfl) rfl #[.int .i64 a0_0] (by rfl) rfl rfl (by (try simp only [List.map_toArray, List.map_cons, List.map_nil]); first | done | rfl | (simp only [List.length_drop, List.length_take]; rfl)) ?_
                    with_reducible refine (impl_shown.calls k a0_0 t126 _ A2.out).mono ?_
                    rintro e w27 ⟨rfl, hb⟩
                    refine ⟨_, rfl, ?_⟩
                    have n0_ := Aside0.mk (blk_below (g := gb125) (o := .cells #[.int .i64 a0_0, .int .i64 a0_1, .int .i64 a0_2, .int .i64 a0_3, .int .i64 a0_4, .int .i64 a0_5] 29 (0, 0)) (by (with_reducible repeat (first | refine blk_drewN ?_ _ | refine blk_drew ?_ | refine blk_alloc ?_ _)); exact BK125.out) hb)
                    have n1_ := Aside0.mk (below_step (by repeat (first | (with_reducible first | exact HB.out | apply below_alloc | apply pw_below_drewN | apply below_drew1 | refine below_set ?_ GE125.out) | exact HB.out)) hb)
                    clear BK125
                    clear HB
                    have BK125 := n0_
                    have HB := n1_
                    clear n0_ n1_
                    (try clear hb)
                    (try clear hb2)
                    (try clear hk)
                    (try clear hi)
                    refine hK.out _ _ ⟨(blk_cell BK125.out 0).trans rfl, (blk_cell BK125.out 1).trans rfl, (blk_cell BK125.out 2).trans rfl, (blk_cell BK125.out 3).trans rfl, (blk_cell BK125.out 4).trans rfl, (blk_cell BK125.out 5).trans rfl⟩ (fun hHeld => ?_)
                    clear hK K
                    refine norm_ (a' := ?_) ?_ ?_
                    rotate_left
                    · show Act.put _ (some 6) _ = _
                      simp only [Act.put, List.setIfInBounds_toArray, List.set_cons_zero, List.set_cons_succ, i64_w, i32_w]
                      rfl
                    refine pure_ (i := 3) (N := some 7) (v := ?_) (a' := ?_) #[true, true, true, true, false, true, true, false, false, false] rfl rfl (any_of HT_.out (by kernel_rfl)) (fun _ _ _ h => h) (Or.inl ⟨by rfl, ?_⟩) ?_ ?_
                    rotate_left
                    · intro w'
                      go_simp
                      with_reducible rfl
                    rotate_left
                    · simp only [Act.put, List.setIfInBounds_toArray, List.set_cons_zero, List.set_cons_succ, i64_w, i32_w]
                      rfl
                    refine pure_ (i := 4) (N := some 8) (v := ?_) (a' := ?_) #[true, true, true, true, true, true, true, false, false, false] rfl rfl (any_of HT_.out (by kernel_rfl)) (fun _ _ _ h => h) (Or.inl ⟨by rfl, ?_⟩) ?_ ?_
                    rotate_left
                    · intro w'
                      go_simp
                      with_reducible rfl
                    rotate_left
                    · simp only [Act.put, List.setIfInBounds_toArray, List.set_cons_zero, List.set_cons_succ, i64_w, i32_w]
                      rfl
                    refine one_ (i := 7) (N := some 11) #[true, true, true, true, true, true, true, true, false, false] rfl rfl (one_of HT_.out (by kernel_rfl)) (by decide) (fun K hK => ?_)
                    refine goes_ Try.func33 (by kernel_rfl) rfl #[.int .i64 a0_1] (by rfl) rfl rfl (by (try simp only [List.map_toArray, List.map_cons, List.map_nil]); first | done | rfl | (simp only [List.length_drop, List.length_take]; rfl)) ?_
                    with_reducible refine (impl_shown.calls k a0_1 t127 _ A5.out).mono ?_
                    rintro e w28 ⟨rfl, hb⟩
                    refine ⟨_, rfl, ?_⟩
                    have n0_ := Aside0.mk (blk_below (g := gb125) (o := .cells #[.int .i64 a0_0, .int .i64 a0_1, .int .i64 a0_2, .int .i64 a0_3, .int .i64 a0_4, .int .i64 a0_5] 29 (0, 0)) (by (with_reducible repeat (first | refine blk_drewN ?_ _ | refine blk_drew ?_ | refine blk_alloc ?_ _)); exact BK125.out) hb)
                    have n1_ := Aside0.mk (below_step (by repeat (first | (with_reducible first | exact HB.out | apply below_alloc | apply pw_below_drewN | apply below_drew1 | refine below_set ?_ GE125.out) | exact HB.out)) hb)
                    clear BK125
                    clear HB
                    have BK125 := n0_
                    have HB := n1_
                    clear n0_ n1_
                    (try clear hb)
                    (try clear hb2)
                    (try clear hk)
                    (try clear hi)
                    refine hK.out _ _ ⟨(blk_cell BK125.out 0).trans rfl, (blk_cell BK125.out 1).trans rfl, (blk_cell BK125.out 2).trans rfl, (blk_cell BK125.out 3).trans rfl, (blk_cell BK125.out 4).trans rfl, (blk_cell BK125.out 5).trans rfl⟩ (fun hHeld => ?_)
                    clear hK K
                    refine norm_ (a' := ?_) ?_ ?_
                    rotate_left
                    · show Act.put _ (some 11) _ = _
                      simp only [Act.put, List.setIfInBounds_toArray, List.set_cons_zero, List.set_cons_succ, i64_w, i32_w]
                      rfl
                    refine pure_ (i := 8) (N := some 12) (v := ?_) (a' := ?_) #[true, true, true, true, true, true, true, true, true, false] rfl rfl (any_of HT_.out (by kernel_rfl)) (fun _ _ _ h => h) (Or.inl ⟨by rfl, ?_⟩) ?_ ?_
                    rotate_left
                    · intro w'
                      go_simp
                      with_reducible rfl
                    rotate_left
                    · simp only [Act.put, List.setIfInBounds_toArray, List.set_cons_zero, List.set_cons_succ, i64_w, i32_w]
                      rfl
                    refine pure_ (i := 9) (N := some 3) (v := ?_) (a' := ?_) #[true, true, true, true, true, true, true, true, true, true] rfl rfl (any_of HT_.out (by kernel_rfl)) (fun _ _ _ h => h) (Or.inl ⟨by rfl, ?_⟩) ?_ ?_
                    rotate_left
                    · intro w'
                      go_simp
                      with_reducible rfl
                    rotate_left
                    · simp only [Act.put, List.setIfInBounds_toArray, List.set_cons_zero, List.set_cons_succ, i64_w, i32_w]
                      rfl
                    refine done_ (done_of HT_.out (by kernel_rfl)) ?_
                    have hcz29_0 : w28.cell? ⟨gb125, 0, none⟩ = some (.int .i64 a0_0) := (blk_cell BK125.out 0).trans rfl
                    have hcz29_1 : w28.cell? ⟨gb125, 1, none⟩ = some (.int .i64 a0_1) := (blk_cell BK125.out 1).trans rfl
                    have hcz29_2 : w28.cell? ⟨gb125, 2, none⟩ = some (.int .i64 a0_2) := (blk_cell BK125.out 2).trans rfl
                    have hcz29_3 : w28.cell? ⟨gb125, 3, none⟩ = some (.int .i64 a0_3) := (blk_cell BK125.out 3).trans rfl
                    have hcz29_4 : w28.cell? ⟨gb125, 4, none⟩ = some (.int .i64 a0_4) := (blk_cell BK125.out 4).trans rfl
                    have hcz29_5 : w28.cell? ⟨gb125, 5, none⟩ = some (.int .i64 a0_5) := (blk_cell BK125.out 5).trans rfl
                    have hfz29_0 := blk_frozen BK125.out 0
                    have hfz29_1 := blk_frozen BK125.out 1
                    have hfz29_2 := blk_frozen BK125.out 2
                    have hfz29_3 := blk_frozen BK125.out 3
                    have hfz29_4 := blk_frozen BK125.out 4
                    have hfz29_5 := blk_frozen BK125.out 5
                    try go_wp2
                    have n0_ := Aside0.mk (blk_drew BK125.out)
                    have n1_ := Aside0.mk (below_drew1 HB.out)
                    clear BK125
                    clear HB
                    have BK125 := n0_
                    have HB := n1_
                    clear n0_ n1_
                    refine start_ (n := 15) (S := fun w' => w'.cell? ⟨gb125, 0, none⟩ = some (.int .i64 a0_0) ∧ w'.cell? ⟨gb125, 1, none⟩ = some (.int .i64 a0_1) ∧ w'.cell? ⟨gb125, 2, none⟩ = some (.int .i64 a0_2) ∧ w'.cell? ⟨gb125, 3, none⟩ = some (.int .i64 a0_3) ∧ w'.cell? ⟨gb125, 4, none⟩ = some (.int .i64 a0_4) ∧ w'.cell? ⟨gb125, 5, none⟩ = some (.int .i64 a0_5)) (ds := []) #[false, false, false, false, false, false, false, false, false, false, false, false, false, false, false] (by kernel_rfl) rfl rfl ⟨(blk_cell BK125.out 0).trans rfl, (blk_cell BK125.out 1).trans rfl, (blk_cell BK125.out 2).trans rfl, (blk_cell BK125.out 3).trans rfl, (blk_cell BK125.out 4).trans rfl, (blk_cell BK125.out 5).trans rfl⟩ (fun hHeld => ?_); refine with_tabW impl_ShowEntry.tab4 impl_ShowEntry.bits4 (fun HT_ HW_ => ?_)
                    generalize w28.drew = w30 at BK125 HB hHeld ⊢
                    refine pure_ (i := 0) (N := some 25) (v := ?_) (a' := ?_) #[true, false, false, false, false, false, false, false, false, false, false, false, false, false, false] rfl rfl (any_of HT_.out (by kernel_rfl)) (fun _ _ _ h => h) (Or.inl ⟨by rfl, ?_⟩) ?_ ?_
                    rotate_left
                    · intro w'
                      go_simp
                      with_reducible rfl
                    rotate_left
                    · simp only [Act.put, List.setIfInBounds_toArray, List.set_cons_zero, List.set_cons_succ, i64_w, i32_w]
                      rfl
                    refine pure_ (i := 1) (N := some 26) (v := ?_) (a' := ?_) #[true, true, false, false, false, false, false, false, false, false, false, false, false, false, false] rfl rfl (any_of HT_.out (by kernel_rfl)) (fun _ _ _ h => h) (Or.inl ⟨by rfl, ?_⟩) ?_ ?_
                    rotate_left
                    · intro w'
                      go_simp
                      with_reducible rfl
                    rotate_left
                    · simp only [Act.put, List.setIfInBounds_toArray, List.set_cons_zero, List.set_cons_succ, i64_w, i32_w]
                      rfl
                    refine pure_ (i := 2) (N := some 27) (v := ?_) (a' := ?_) #[true, true, true, false, false, false, false, false, false, false, false, false, false, false, false] rfl rfl (any_of HT_.out (by kernel_rfl)) (fun _ _ _ h => h) (Or.inl ⟨by rfl, ?_⟩) ?_ ?_
                    rotate_left
                    · intro w'
                      go_simp
                      with_reducible rfl
                    rotate_left
                    · simp only [Act.put, List.setIfInBounds_toArray, List.set_cons_zero, List.set_cons_succ, i64_w, i32_w]
                      rfl
                    refine pure_ (i := 3) (N := some 28) (v := ?_) (a' := ?_) #[true, true, true, true, false, false, false, false, false, false, false, false, false, false, false] rfl rfl (any_of HT_.out (by kernel_rfl)) (fun _ _ _ h => h) (Or.inl ⟨by rfl, ?_⟩) ?_ ?_
                    rotate_left
                    · intro w'
                      go_simp
                      with_reducible rfl
                    rotate_left
                    · simp only [Act.put, List.setIfInBounds_toArray, List.set_cons_zero, List.set_cons_succ, i64_w, i32_w]
                      rfl
                    refine pure_ (i := 8) (N := some 33) (v := ?_) (a' := ?_) #[true, true, true, true, false, false, false, false, true, false, false, false, false, false, false] rfl rfl (any_of HT_.out (by kernel_rfl)) (fun _ _ _ h => h) (Or.inl ⟨by rfl, ?_⟩) ?_ ?_
                    rotate_left
                    · intro w'
                      go_simp
                      with_reducible rfl
                    rotate_left
                    · simp only [Act.put, List.setIfInBounds_toArray, List.set_cons_zero, List.set_cons_succ, i64_w, i32_w]
                      rfl
                    refine pure_ (i := 9) (N := some 34) (v := ?_) (a' := ?_) #[true, true, true, true, false, false, false, false, true, true, false, false, false, false, false] rfl rfl (any_of HT_.out (by kernel_rfl)) (fun _ _ _ h => h) (Or.inl ⟨by rfl, ?_⟩) ?_ ?_
                    rotate_left
                    · intro w'
                      go_simp
                      with_reducible rfl
                    rotate_left
                    · simp only [Act.put, List.setIfInBounds_toArray, List.set_cons_zero, List.set_cons_succ, i64_w, i32_w]
                      rfl
                    refine take_ (i := 4) (N := some 29) (v := ?_) (a' := ?_) #[true, true, true, true, true, false, false, false, true, true, false, false, false, false, false] rfl rfl (take_ofW HT_.out HW_.out (by kernel_rfl)) (fun _ _ _ h => h) (Or.inl ⟨by rfl, ?_⟩) hHeld ?_ ?_
                    rotate_left
                    · rintro w' ⟨s0, s1, s2, s3, s4, s5⟩
                      go_simp
                      with_reducible rfl
                    rotate_left
                    · simp only [Act.put, List.setIfInBounds_toArray, List.set_cons_zero, List.set_cons_succ, i64_w, i32_w]
                      rfl
                    refine take_ (i := 10) (N := some 35) (v := ?_) (a' := ?_) #[true, true, true, true, true, false, false, false, true, true, true, false, false, false, false] rfl rfl (take_ofW HT_.out HW_.out (by kernel_rfl)) (fun _ _ _ h => h) (Or.inl ⟨by rfl, ?_⟩) hHeld ?_ ?_
                    rotate_left
                    · rintro w' ⟨s0, s1, s2, s3, s4, s5⟩
                      go_simp
                      with_reducible rfl
                    rotate_left
                    · simp only [Act.put, List.setIfInBounds_toArray, List.set_cons_zero, List.set_cons_succ, i64_w, i32_w]
                      rfl
                    refine one_ (i := 5) (N := some 30) #[true, true, true, true, true, true, false, false, true, true, true, false, false, false, false] rfl rfl (one_of HT_.out (by kernel_rfl)) (by decide) (fun K hK => ?_)
                    refine goes_ Try.func33 (by kernel_rfl) rfl #[.int .i64 a0_3] (by rfl) rfl rfl (by (try simp only [List.map_toArray, List.map_cons, List.map_nil]); first | done | rfl | (simp only [List.length_drop, List.length_take]; rfl)) ?_
                    with_reducible refine (impl_shown.calls k a0_3 t129 _ A19.out).mono ?_
                    rintro e w31 ⟨rfl, hb⟩
                    refine ⟨_, rfl, ?_⟩
                    have n0_ := Aside0.mk (blk_below (g := gb125) (o := .cells #[.int .i64 a0_0, .int .i64 a0_1, .int .i64 a0_2, .int .i64 a0_3, .int .i64 a0_4, .int .i64 a0_5] 29 (0, 0)) (by (with_reducible repeat (first | refine blk_drewN ?_ _ | refine blk_drew ?_ | refine blk_alloc ?_ _)); exact BK125.out) hb)
                    have n1_ := Aside0.mk (below_step (by repeat (first | (with_reducible first | exact HB.out | apply below_alloc | apply pw_below_drewN | apply below_drew1 | refine below_set ?_ GE125.out) | exact HB.out)) hb)
                    clear BK125
                    clear HB
                    have BK125 := n0_
                    have HB := n1_
                    clear n0_ n1_
                    (try clear hb)
                    (try clear hb2)
                    (try clear hk)
                    (try clear hi)
                    refine hK.out _ _ ⟨(blk_cell BK125.out 0).trans rfl, (blk_cell BK125.out 1).trans rfl, (blk_cell BK125.out 2).trans rfl, (blk_cell BK125.out 3).trans rfl, (blk_cell BK125.out 4).trans rfl, (blk_cell BK125.out 5).trans rfl⟩ (fun hHeld => ?_)
                    clear hK K
                    refine norm_ (a' := ?_) ?_ ?_
                    rotate_left
                    · show Act.put _ (some 30) _ = _
                      simp only [Act.put, List.setIfInBounds_toArray, List.set_cons_zero, List.set_cons_succ, i64_w, i32_w]
                      rfl
                    refine pure_ (i := 6) (N := some 31) (v := ?_) (a' := ?_) #[true, true, true, true, true, true, true, false, true, true, true, false, false, false, false] rfl rfl (any_of HT_.out (by kernel_rfl)) (fun _ _ _ h => h) (Or.inl ⟨by rfl, ?_⟩) ?_ ?_
                    rotate_left
                    · intro w'
                      go_simp
                      with_reducible rfl
                    rotate_left
                    · simp only [Act.put, List.setIfInBounds_toArray, List.set_cons_zero, List.set_cons_succ, i64_w, i32_w]
                      rfl
                    refine pure_ (i := 7) (N := some 32) (v := ?_) (a' := ?_) #[true, true, true, true, true, true, true, true, true, true, true, false, false, false, false] rfl rfl (any_of HT_.out (by kernel_rfl)) (fun _ _ _ h => h) (Or.inl ⟨by rfl, ?_⟩) ?_ ?_
                    rotate_left
                    · intro w'
                      go_simp
                      with_reducible rfl
                    rotate_left
                    · simp only [Act.put, List.setIfInBounds_toArray, List.set_cons_zero, List.set_cons_succ, i64_w, i32_w]
                      rfl
                    refine one_ (i := 11) (N := some 36) #[true, true, true, true, true, true, true, true, true, true, true, true, false, false, false] rfl rfl (one_of HT_.out (by kernel_rfl)) (by decide) (fun K hK => ?_)
                    refine goes_ Try.func33 (by kernel_rfl) rfl #[.int .i64 a0_4] (by rfl) rfl rfl (by (try simp only [List.map_toArray, List.map_cons, List.map_nil]); first | done | rfl | (simp only [List.length_drop, List.length_take]; rfl)) ?_
                    with_reducible refine (impl_shown.calls k a0_4 t130 _ A22.out).mono ?_
                    rintro e w32 ⟨rfl, hb⟩
                    refine ⟨_, rfl, ?_⟩
                    have n0_ := Aside0.mk (blk_below (g := gb125) (o := .cells #[.int .i64 a0_0, .int .i64 a0_1, .int .i64 a0_2, .int .i64 a0_3, .int .i64 a0_4, .int .i64 a0_5] 29 (0, 0)) (by (with_reducible repeat (first | refine blk_drewN ?_ _ | refine blk_drew ?_ | refine blk_alloc ?_ _)); exact BK125.out) hb)
                    have n1_ := Aside0.mk (below_step (by repeat (first | (with_reducible first | exact HB.out | apply below_alloc | apply pw_below_drewN | apply below_drew1 | refine below_set ?_ GE125.out) | exact HB.out)) hb)
                    clear BK125
                    clear HB
                    have BK125 := n0_
                    have HB := n1_
                    clear n0_ n1_
                    (try clear hb)
                    (try clear hb2)
                    (try clear hk)
                    (try clear hi)
                    refine hK.out _ _ ⟨(blk_cell BK125.out 0).trans rfl, (blk_cell BK125.out 1).trans rfl, (blk_cell BK125.out 2).trans rfl, (blk_cell BK125.out 3).trans rfl, (blk_cell BK125.out 4).trans rfl, (blk_cell BK125.out 5).trans rfl⟩ (fun hHeld => ?_)
                    clear hK K
                    refine norm_ (a' := ?_) ?_ ?_
                    rotate_left
                    · show Act.put _ (some 36) _ = _
                      simp only [Act.put, List.setIfInBounds_toArray, List.set_cons_zero, List.set_cons_succ, i64_w, i32_w]
                      rfl
                    refine pure_ (i := 12) (N := some 37) (v := ?_) (a' := ?_) #[true, true, true, true, true, true, true, true, true, true, true, true, true, false, false] rfl rfl (any_of HT_.out (by kernel_rfl)) (fun _ _ _ h => h) (Or.inl ⟨by rfl, ?_⟩) ?_ ?_
                    rotate_left
                    · intro w'
                      go_simp
                      with_reducible rfl
                    rotate_left
                    · simp only [Act.put, List.setIfInBounds_toArray, List.set_cons_zero, List.set_cons_succ, i64_w, i32_w]
                      rfl
                    refine pure_ (i := 13) (N := some 38) (v := ?_) (a' := ?_) #[true, true, true, true, true, true, true, true, true, true, true, true, true, true, false] rfl rfl (any_of HT_.out (by kernel_rfl)) (fun _ _ _ h => h) (Or.inl ⟨by rfl, ?_⟩) ?_ ?_
                    rotate_left
                    · intro w'
                      go_simp
                      with_reducible rfl
                    rotate_left
                    · simp only [Act.put, List.setIfInBounds_toArray, List.set_cons_zero, List.set_cons_succ, i64_w, i32_w]
                      rfl
                    refine pure_ (i := 14) (N := some 2) (v := ?_) (a' := ?_) #[true, true, true, true, true, true, true, true, true, true, true, true, true, true, true] rfl rfl (any_of HT_.out (by kernel_rfl)) (fun _ _ _ h => h) (Or.inl ⟨by rfl, ?_⟩) ?_ ?_
                    rotate_left
                    · intro w'
                      go_simp
                      with_reducible rfl
                    rotate_left
                    · simp only [Act.put, List.setIfInBounds_toArray, List.set_cons_zero, List.set_cons_succ, i64_w, i32_w]
                      rfl
                    refine done_ (done_of HT_.out (by kernel_rfl)) ?_
                    try go_wp2
                    go_ret
                    exact ⟨by first | rfl | (simp [errW_none, errW_some] <;> rfl) | (simp [*, errW_none, errW_some] <;> rfl), by repeat (first | (with_reducible first | exact HB.out | apply below_alloc | apply pw_below_drewN | apply below_drew1 | refine below_set ?_ GE125.out) | exact HB.out)⟩
                  · rw [if_neg c24] at H
                    exact absurd H (by simp)
                · rw [if_neg c23] at H
                  exact absurd H (by simp)
              · rw [if_neg c21] at H
                exact absurd H (by simp)
            · rw [if_neg c20] at H
              exact absurd H (by simp)
          · rw [if_neg c18] at H
            exact absurd H (by simp)
      · rw [if_neg c6] at H
        exact absurd H (by simp)
    · rw [if_neg c4] at H
      exact absurd H (by simp)
  · rw [if_neg c3] at H
    exact absurd H (by simp)

end Go.Proofs.Ytfgkniegbdpanaa.PA
