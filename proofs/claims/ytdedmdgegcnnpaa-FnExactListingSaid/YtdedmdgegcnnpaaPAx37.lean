/- The functions of the program and of the reference that laws of this seat reach: each is shown to compute a plain Lean function; written by a program of this session. No condition. -/
import Derived.Test.YtdedmdgegcnnpaaPAx0
import Derived.Test.YtdedmdgegcnnpaaPAx18
import Derived.Test.YtdedmdgegcnnpaaPAx35
import Derived.Test.YtdedmdgegcnnpaaPAx36
namespace Go.Proofs.Ytdedmdgegcnnpaa.PA
open Go.RowKit Go.Proofs.YtdedmdgegcnnpaaW.PrintWords Go.Proofs.YtdedmdgegcnnpaaW.PrintLast Go.Proofs.YtdedmdgegcnnpaaW.PrintMore
attribute [local go_sem] max2_int min2_int max_two min_two max_three min_three max_four min_four   -- for this text's walks alone
set_option linter.unusedVariables false
set_option linter.unusedSimpArgs false

/-! ### impl_ShowIns: function 49 -/
def impl_ShowIns.f (k : Nat) (a0_0 : Int) (a0_1 : Int) (a0_2 : Int) (a0_3 : Int) : Option (ByteArray) := (impl_InsOk.f k a0_0 a0_1 a0_2 a0_3).bind fun t257 => (if t257 = true then ((some (([(⟨#[108, 111, 97, 100]⟩ : ByteArray), (⟨#[97, 110, 100]⟩ : ByteArray), (⟨#[101, 113]⟩ : ByteArray), (⟨#[109, 111, 114, 101]⟩ : ByteArray), (⟨#[108, 101, 97, 115, 116]⟩ : ByteArray), (⟨#[115, 101, 116]⟩ : ByteArray), (⟨#[106, 117, 109, 112]⟩ : ByteArray), (⟨#[114, 101, 116]⟩ : ByteArray)] : List ByteArray) : List ByteArray)).bind fun y258 => (if 0 ≤ (wrap64 (a0_0 - 1)) then (if (wrap64 (a0_0 - 1)) < (y258.length : Int) then (if (rdOf ByteArray.empty y258 (wrap64 (a0_0 - 1))).size + 1 ≤ 9223372036854775807 then ((impl_Decimal.f k a0_1).bind fun t262 => (if ((rdOf ByteArray.empty y258 (wrap64 (a0_0 - 1))) ++ (⟨#[32]⟩ : ByteArray)).size + t262.size ≤ 9223372036854775807 then ((impl_Ins_asks.f a0_0 a0_1 a0_2 a0_3).bind fun t263 => (if t263 = true then (if (((rdOf ByteArray.empty y258 (wrap64 (a0_0 - 1))) ++ (⟨#[32]⟩ : ByteArray)) ++ t262).size + 1 ≤ 9223372036854775807 then ((impl_Decimal.f k a0_2).bind fun t264 => (if ((((rdOf ByteArray.empty y258 (wrap64 (a0_0 - 1))) ++ (⟨#[32]⟩ : ByteArray)) ++ t262) ++ (⟨#[32]⟩ : ByteArray)).size + t264.size ≤ 9223372036854775807 then (if (((((rdOf ByteArray.empty y258 (wrap64 (a0_0 - 1))) ++ (⟨#[32]⟩ : ByteArray)) ++ t262) ++ (⟨#[32]⟩ : ByteArray)) ++ t264).size + 1 ≤ 9223372036854775807 then ((impl_Decimal.f k a0_3).bind fun t265 => (if ((((((rdOf ByteArray.empty y258 (wrap64 (a0_0 - 1))) ++ (⟨#[32]⟩ : ByteArray)) ++ t262) ++ (⟨#[32]⟩ : ByteArray)) ++ t264) ++ (⟨#[32]⟩ : ByteArray)).size + t265.size ≤ 9223372036854775807 then (some (((((((rdOf ByteArray.empty y258 (wrap64 (a0_0 - 1))) ++ (⟨#[32]⟩ : ByteArray)) ++ t262) ++ (⟨#[32]⟩ : ByteArray)) ++ t264) ++ (⟨#[32]⟩ : ByteArray)) ++ t265)) else (none))) else (none)) else (none))) else (none)) else (some (((rdOf ByteArray.empty y258 (wrap64 (a0_0 - 1))) ++ (⟨#[32]⟩ : ByteArray)) ++ t262)))) else (none))) else (none)) else (none)) else (none))) else (some (⟨#[]⟩ : ByteArray)))
theorem impl_ShowIns.mono : ∀ a0 a1 a2 a3 k, LeO (impl_ShowIns.f k a0 a1 a2 a3) (impl_ShowIns.f (k + 1) a0 a1 a2 a3) := by
  intro a0 a1 a2 a3 k
  unfold impl_ShowIns.f
  repeat' first
      | (with_reducible exact impl_Decimal.mono _ _)
      | (with_reducible exact impl_InsOk.mono _ _ _ _ _)
      | (with_reducible exact LeO.refl _)
      | (with_reducible exact LeO.none _)
      | (with_reducible refine LeO.ite ?_ ?_)
      | (with_reducible refine LeO.bind ?_ (fun _ => ?_))
      | exact impl_Decimal.mono _ _
      | exact impl_InsOk.mono _ _ _ _ _
      | exact LeO.none _
      | refine LeO.ite ?_ ?_
      | refine LeO.bind ?_ (fun _ => ?_)
def impl_ShowIns.T3 : Bool × List (List Nat × List Nat) := (true, [([], []), ([], []), ([1], [1]), ([2], [2]), ([0, 3], [0, 3]), ([4], [4]), ([5], [5]), ([], []), ([7], [7]), ([8], [8]), ([6, 9], [6, 9]), ([10, 9, 0, 1, 2, 3, 4, 5, 6, 7, 8, 9, 10], [10])])
def impl_ShowIns.B3 : List Nat := [0, 0, 2, 6, 15, 31, 63, 0, 128, 384, 1023, 2047]
theorem impl_ShowIns.tab3 : rtab .any (opsOf Try.f49 3) = impl_ShowIns.T3 := by kernel_rfl
theorem impl_ShowIns.bits3 : waitsOk impl_ShowIns.T3.2 impl_ShowIns.B3 = true := by kernel_rfl
def impl_ShowIns.T5 : Bool × List (List Nat × List Nat) := (true, [([], []), ([0], [0]), ([], []), ([2], [2]), ([3], [3]), ([1, 4], [1, 4]), ([5], [5]), ([], []), ([7], [7]), ([8, 4], [8]), ([6, 9], [6, 9]), ([10, 9, 0, 1, 2, 3, 4, 5, 6, 7, 8, 9, 10], [0, 10])])
def impl_ShowIns.B5 : List Nat := [0, 1, 0, 4, 12, 31, 63, 0, 128, 412, 1023, 2047]
theorem impl_ShowIns.tab5 : rtab .any (opsOf Try.f49 5) = impl_ShowIns.T5 := by kernel_rfl
theorem impl_ShowIns.bits5 : waitsOk impl_ShowIns.T5.2 impl_ShowIns.B5 = true := by kernel_rfl
set_option maxHeartbeats 8000000 in
set_option maxRecDepth 100000 in
theorem impl_ShowIns.calls (k : Nat) (a0_0 : Int) (a0_1 : Int) (a0_2 : Int) (a0_3 : Int) (r : ByteArray) (w : World) (h : impl_ShowIns.f k a0_0 a0_1 a0_2 a0_3 = some r) :
    Calls Try.prog 49 #[.agg #[.int .i64 a0_0, .int .i64 a0_1, .int .i64 a0_2, .int .i64 a0_3]] w fun e w' => e = .returned (.string r) ∧ Below w.heap.size w w' := by
  have hu70 := Try.underlying70
  have HB := Aside0.mk (Below.refl w.heap.size w)
  have H : ((impl_InsOk.f k a0_0 a0_1 a0_2 a0_3).bind fun t257 => (if t257 = true then ((some (([(⟨#[108, 111, 97, 100]⟩ : ByteArray), (⟨#[97, 110, 100]⟩ : ByteArray), (⟨#[101, 113]⟩ : ByteArray), (⟨#[109, 111, 114, 101]⟩ : ByteArray), (⟨#[108, 101, 97, 115, 116]⟩ : ByteArray), (⟨#[115, 101, 116]⟩ : ByteArray), (⟨#[106, 117, 109, 112]⟩ : ByteArray), (⟨#[114, 101, 116]⟩ : ByteArray)] : List ByteArray) : List ByteArray)).bind fun y258 => (if 0 ≤ (wrap64 (a0_0 - 1)) then (if (wrap64 (a0_0 - 1)) < (y258.length : Int) then (if (rdOf ByteArray.empty y258 (wrap64 (a0_0 - 1))).size + 1 ≤ 9223372036854775807 then ((impl_Decimal.f k a0_1).bind fun t262 => (if ((rdOf ByteArray.empty y258 (wrap64 (a0_0 - 1))) ++ (⟨#[32]⟩ : ByteArray)).size + t262.size ≤ 9223372036854775807 then ((impl_Ins_asks.f a0_0 a0_1 a0_2 a0_3).bind fun t263 => (if t263 = true then (if (((rdOf ByteArray.empty y258 (wrap64 (a0_0 - 1))) ++ (⟨#[32]⟩ : ByteArray)) ++ t262).size + 1 ≤ 9223372036854775807 then ((impl_Decimal.f k a0_2).bind fun t264 => (if ((((rdOf ByteArray.empty y258 (wrap64 (a0_0 - 1))) ++ (⟨#[32]⟩ : ByteArray)) ++ t262) ++ (⟨#[32]⟩ : ByteArray)).size + t264.size ≤ 9223372036854775807 then (if (((((rdOf ByteArray.empty y258 (wrap64 (a0_0 - 1))) ++ (⟨#[32]⟩ : ByteArray)) ++ t262) ++ (⟨#[32]⟩ : ByteArray)) ++ t264).size + 1 ≤ 9223372036854775807 then ((impl_Decimal.f k a0_3).bind fun t265 => (if ((((((rdOf ByteArray.empty y258 (wrap64 (a0_0 - 1))) ++ (⟨#[32]⟩ : ByteArray)) ++ t262) ++ (⟨#[32]⟩ : ByteArray)) ++ t264) ++ (⟨#[32]⟩ : ByteArray)).size + t265.size ≤ 9223372036854775807 then (some (((((((rdOf ByteArray.empty y258 (wrap64 (a0_0 - 1))) ++ (⟨#[32]⟩ : ByteArray)) ++ t262) ++ (⟨#[32]⟩ : ByteArray)) ++ t264) ++ (⟨#[32]⟩ : ByteArray)) ++ t265)) else (none))) else (none)) else (none))) else (none)) else (some (((rdOf ByteArray.empty y258 (wrap64 (a0_0 - 1))) ++ (⟨#[32]⟩ : ByteArray)) ++ t262)))) else (none))) else (none)) else (none)) else (none))) else (some (⟨#[]⟩ : ByteArray)))) = some r := h
  clear h
  replace H := Option.bind_eq_some_iff.mp H
  obtain ⟨t257, A20, H⟩ := H
  replace H : (if t257 = true then ((some (([(⟨#[108, 111, 97, 100]⟩ : ByteArray), (⟨#[97, 110, 100]⟩ : ByteArray), (⟨#[101, 113]⟩ : ByteArray), (⟨#[109, 111, 114, 101]⟩ : ByteArray), (⟨#[108, 101, 97, 115, 116]⟩ : ByteArray), (⟨#[115, 101, 116]⟩ : ByteArray), (⟨#[106, 117, 109, 112]⟩ : ByteArray), (⟨#[114, 101, 116]⟩ : ByteArray)] : List ByteArray) : List ByteArray)).bind fun y258 => (if 0 ≤ (wrap64 (a0_0 - 1)) then (if (wrap64 (a0_0 - 1)) < (y258.length : Int) then (if (rdOf ByteArray.empty y258 (wrap64 (a0_0 - 1))).size + 1 ≤ 9223372036854775807 then ((impl_Decimal.f k a0_1).bind fun t262 => (if ((rdOf ByteArray.empty y258 (wrap64 (a0_0 - 1))) ++ (⟨#[32]⟩ : ByteArray)).size + t262.size ≤ 9223372036854775807 then ((impl_Ins_asks.f a0_0 a0_1 a0_2 a0_3).bind fun t263 => (if t263 = true then (if (((rdOf ByteArray.empty y258 (wrap64 (a0_0 - 1))) ++ (⟨#[32]⟩ : ByteArray)) ++ t262).size + 1 ≤ 9223372036854775807 then ((impl_Decimal.f k a0_2).bind fun t264 => (if ((((rdOf ByteArray.empty y258 (wrap64 (a0_0 - 1))) ++ (⟨#[32]⟩ : ByteArray)) ++ t262) ++ (⟨#[32]⟩ : ByteArray)).size + t264.size ≤ 9223372036854775807 then (if (((((rdOf ByteArray.empty y258 (wrap64 (a0_0 - 1))) ++ (⟨#[32]⟩ : ByteArray)) ++ t262) ++ (⟨#[32]⟩ : ByteArray)) ++ t264).size + 1 ≤ 9223372036854775807 then ((impl_Decimal.f k a0_3).bind fun t265 => (if ((((((rdOf ByteArray.empty y258 (wrap64 (a0_0 - 1))) ++ (⟨#[32]⟩ : ByteArray)) ++ t262) ++ (⟨#[32]⟩ : ByteArray)) ++ t264) ++ (⟨#[32]⟩ : ByteArray)).size + t265.size ≤ 9223372036854775807 then (some (((((((rdOf ByteArray.empty y258 (wrap64 (a0_0 - 1))) ++ (⟨#[32]⟩ : ByteArray)) ++ t262) ++ (⟨#[32]⟩ : ByteArray)) ++ t264) ++ (⟨#[32]⟩ : ByteArray)) ++ t265)) else (none))) else (none)) else (none))) else (none)) else (some (((rdOf ByteArray.empty y258 (wrap64 (a0_0 - 1))) ++ (⟨#[32]⟩ : ByteArray)) ++ t262)))) else (none))) else (none)) else (none)) else (none))) else (some (⟨#[]⟩ : ByteArray))) = some r := H
  have A2 := Aside0.mk A20
  clear A20
  by_cases c3 : t257 = true
  · subst c3
    have H1 : ((some (([(⟨#[108, 111, 97, 100]⟩ : ByteArray), (⟨#[97, 110, 100]⟩ : ByteArray), (⟨#[101, 113]⟩ : ByteArray), (⟨#[109, 111, 114, 101]⟩ : ByteArray), (⟨#[108, 101, 97, 115, 116]⟩ : ByteArray), (⟨#[115, 101, 116]⟩ : ByteArray), (⟨#[106, 117, 109, 112]⟩ : ByteArray), (⟨#[114, 101, 116]⟩ : ByteArray)] : List ByteArray) : List ByteArray)).bind fun y258 => (if 0 ≤ (wrap64 (a0_0 - 1)) then (if (wrap64 (a0_0 - 1)) < (y258.length : Int) then (if (rdOf ByteArray.empty y258 (wrap64 (a0_0 - 1))).size + 1 ≤ 9223372036854775807 then ((impl_Decimal.f k a0_1).bind fun t262 => (if ((rdOf ByteArray.empty y258 (wrap64 (a0_0 - 1))) ++ (⟨#[32]⟩ : ByteArray)).size + t262.size ≤ 9223372036854775807 then ((impl_Ins_asks.f a0_0 a0_1 a0_2 a0_3).bind fun t263 => (if t263 = true then (if (((rdOf ByteArray.empty y258 (wrap64 (a0_0 - 1))) ++ (⟨#[32]⟩ : ByteArray)) ++ t262).size + 1 ≤ 9223372036854775807 then ((impl_Decimal.f k a0_2).bind fun t264 => (if ((((rdOf ByteArray.empty y258 (wrap64 (a0_0 - 1))) ++ (⟨#[32]⟩ : ByteArray)) ++ t262) ++ (⟨#[32]⟩ : ByteArray)).size + t264.size ≤ 9223372036854775807 then (if (((((rdOf ByteArray.empty y258 (wrap64 (a0_0 - 1))) ++ (⟨#[32]⟩ : ByteArray)) ++ t262) ++ (⟨#[32]⟩ : ByteArray)) ++ t264).size + 1 ≤ 9223372036854775807 then ((impl_Decimal.f k a0_3).bind fun t265 => (if ((((((rdOf ByteArray.empty y258 (wrap64 (a0_0 - 1))) ++ (⟨#[32]⟩ : ByteArray)) ++ t262) ++ (⟨#[32]⟩ : ByteArray)) ++ t264) ++ (⟨#[32]⟩ : ByteArray)).size + t265.size ≤ 9223372036854775807 then (some (((((((rdOf ByteArray.empty y258 (wrap64 (a0_0 - 1))) ++ (⟨#[32]⟩ : ByteArray)) ++ t262) ++ (⟨#[32]⟩ : ByteArray)) ++ t264) ++ (⟨#[32]⟩ : ByteArray)) ++ t265)) else (none))) else (none)) else (none))) else (none)) else (some (((rdOf ByteArray.empty y258 (wrap64 (a0_0 - 1))) ++ (⟨#[32]⟩ : ByteArray)) ++ t262)))) else (none))) else (none)) else (none)) else (none))) = some r := by rw [if_pos rfl] at H; exact H
    clear H
    have H := H1
    clear H1
    obtain ⟨y258, hy258⟩ : ∃ y_ : List ByteArray, y_ = (([(⟨#[108, 111, 97, 100]⟩ : ByteArray), (⟨#[97, 110, 100]⟩ : ByteArray), (⟨#[101, 113]⟩ : ByteArray), (⟨#[109, 111, 114, 101]⟩ : ByteArray), (⟨#[108, 101, 97, 115, 116]⟩ : ByteArray), (⟨#[115, 101, 116]⟩ : ByteArray), (⟨#[106, 117, 109, 112]⟩ : ByteArray), (⟨#[114, 101, 116]⟩ : ByteArray)] : List ByteArray)) := ⟨_, rfl⟩
    replace H : (if 0 ≤ (wrap64 (a0_0 - 1)) then (if (wrap64 (a0_0 - 1)) < (y258.length : Int) then (if (rdOf ByteArray.empty y258 (wrap64 (a0_0 - 1))).size + 1 ≤ 9223372036854775807 then ((impl_Decimal.f k a0_1).bind fun t262 => (if ((rdOf ByteArray.empty y258 (wrap64 (a0_0 - 1))) ++ (⟨#[32]⟩ : ByteArray)).size + t262.size ≤ 9223372036854775807 then ((impl_Ins_asks.f a0_0 a0_1 a0_2 a0_3).bind fun t263 => (if t263 = true then (if (((rdOf ByteArray.empty y258 (wrap64 (a0_0 - 1))) ++ (⟨#[32]⟩ : ByteArray)) ++ t262).size + 1 ≤ 9223372036854775807 then ((impl_Decimal.f k a0_2).bind fun t264 => (if ((((rdOf ByteArray.empty y258 (wrap64 (a0_0 - 1))) ++ (⟨#[32]⟩ : ByteArray)) ++ t262) ++ (⟨#[32]⟩ : ByteArray)).size + t264.size ≤ 9223372036854775807 then (if (((((rdOf ByteArray.empty y258 (wrap64 (a0_0 - 1))) ++ (⟨#[32]⟩ : ByteArray)) ++ t262) ++ (⟨#[32]⟩ : ByteArray)) ++ t264).size + 1 ≤ 9223372036854775807 then ((impl_Decimal.f k a0_3).bind fun t265 => (if ((((((rdOf ByteArray.empty y258 (wrap64 (a0_0 - 1))) ++ (⟨#[32]⟩ : ByteArray)) ++ t262) ++ (⟨#[32]⟩ : ByteArray)) ++ t264) ++ (⟨#[32]⟩ : ByteArray)).size + t265.size ≤ 9223372036854775807 then (some (((((((rdOf ByteArray.empty y258 (wrap64 (a0_0 - 1))) ++ (⟨#[32]⟩ : ByteArray)) ++ t262) ++ (⟨#[32]⟩ : ByteArray)) ++ t264) ++ (⟨#[32]⟩ : ByteArray)) ++ t265)) else (none))) else (none)) else (none))) else (none)) else (some (((rdOf ByteArray.empty y258 (wrap64 (a0_0 - 1))) ++ (⟨#[32]⟩ : ByteArray)) ++ t262)))) else (none))) else (none)) else (none)) else (none)) = some r := by first | (rw [hy258]; with_reducible exact H) | (have H2_ := (Option.bind_some _ _).symm.trans H; rw [hy258]; with_reducible exact H2_) | (have H2_ := (Option.bind_some _ _).symm.trans H; with_reducible exact H2_) | with_reducible exact H | (rw [hy258]; exact H) | exact H
    have Ny258 := Aside0.mk hy258
    clear hy258
    obtain ⟨ji4, hji4⟩ : ∃ j_ : Int, (wrap64 (a0_0 - 1)) = j_ := ⟨_, rfl⟩
    replace H : (if 0 ≤ (ji4) then (if (ji4) < (y258.length : Int) then (if (rdOf ByteArray.empty y258 (ji4)).size + 1 ≤ 9223372036854775807 then ((impl_Decimal.f k a0_1).bind fun t262 => (if ((rdOf ByteArray.empty y258 (ji4)) ++ (⟨#[32]⟩ : ByteArray)).size + t262.size ≤ 9223372036854775807 then ((impl_Ins_asks.f a0_0 a0_1 a0_2 a0_3).bind fun t263 => (if t263 = true then (if (((rdOf ByteArray.empty y258 (ji4)) ++ (⟨#[32]⟩ : ByteArray)) ++ t262).size + 1 ≤ 9223372036854775807 then ((impl_Decimal.f k a0_2).bind fun t264 => (if ((((rdOf ByteArray.empty y258 (ji4)) ++ (⟨#[32]⟩ : ByteArray)) ++ t262) ++ (⟨#[32]⟩ : ByteArray)).size + t264.size ≤ 9223372036854775807 then (if (((((rdOf ByteArray.empty y258 (ji4)) ++ (⟨#[32]⟩ : ByteArray)) ++ t262) ++ (⟨#[32]⟩ : ByteArray)) ++ t264).size + 1 ≤ 9223372036854775807 then ((impl_Decimal.f k a0_3).bind fun t265 => (if ((((((rdOf ByteArray.empty y258 (ji4)) ++ (⟨#[32]⟩ : ByteArray)) ++ t262) ++ (⟨#[32]⟩ : ByteArray)) ++ t264) ++ (⟨#[32]⟩ : ByteArray)).size + t265.size ≤ 9223372036854775807 then (some (((((((rdOf ByteArray.empty y258 (ji4)) ++ (⟨#[32]⟩ : ByteArray)) ++ t262) ++ (⟨#[32]⟩ : ByteArray)) ++ t264) ++ (⟨#[32]⟩ : ByteArray)) ++ t265)) else (none))) else (none)) else (none))) else (none)) else (some (((rdOf ByteArray.empty y258 (ji4)) ++ (⟨#[32]⟩ : ByteArray)) ++ t262)))) else (none))) else (none)) else (none)) else (none)) = some r := by first | (rw [hji4] at H; exact H) | (simp only [hji4] at H ⊢; exact H)
    (try rw [hji4] at A2)
    have hji4w : (IntKind.i64.wrap (a0_0 - 1)) = ji4 := (i64_w _).trans hji4
    by_cases c5 : 0 ≤ (ji4)
    · rw [if_pos c5] at H
      have c5b0 : decide (0 ≤ (ji4)) = true := decide_eq_true c5
      clear c5
      by_cases c6 : (ji4) < (y258.length : Int)
      · rw [if_pos c6] at H
        have c6b0 : decide ((ji4) < (y258.length : Int)) = true := decide_eq_true c6
        clear c6
        by_cases c7 : (rdOf ByteArray.empty y258 (ji4)).size + 1 ≤ 9223372036854775807
        · rw [if_pos c7] at H
          have c7b0 := eq_true c7
          have c7b1 : decide ((rdOf ByteArray.empty y258 (ji4)).size + 1 ≤ 9223372036854775807) = true := decide_eq_true c7
          try have c7b2 : (9223372036854775807 < (rdOf ByteArray.empty y258 (ji4)).size + 1) = False := eq_false (Nat.not_lt.2 c7)
          replace H := Option.bind_eq_some_iff.mp H
          obtain ⟨t262, A80, H⟩ := H
          replace H : (if ((rdOf ByteArray.empty y258 (ji4)) ++ (⟨#[32]⟩ : ByteArray)).size + t262.size ≤ 9223372036854775807 then ((impl_Ins_asks.f a0_0 a0_1 a0_2 a0_3).bind fun t263 => (if t263 = true then (if (((rdOf ByteArray.empty y258 (ji4)) ++ (⟨#[32]⟩ : ByteArray)) ++ t262).size + 1 ≤ 9223372036854775807 then ((impl_Decimal.f k a0_2).bind fun t264 => (if ((((rdOf ByteArray.empty y258 (ji4)) ++ (⟨#[32]⟩ : ByteArray)) ++ t262) ++ (⟨#[32]⟩ : ByteArray)).size + t264.size ≤ 9223372036854775807 then (if (((((rdOf ByteArray.empty y258 (ji4)) ++ (⟨#[32]⟩ : ByteArray)) ++ t262) ++ (⟨#[32]⟩ : ByteArray)) ++ t264).size + 1 ≤ 9223372036854775807 then ((impl_Decimal.f k a0_3).bind fun t265 => (if ((((((rdOf ByteArray.empty y258 (ji4)) ++ (⟨#[32]⟩ : ByteArray)) ++ t262) ++ (⟨#[32]⟩ : ByteArray)) ++ t264) ++ (⟨#[32]⟩ : ByteArray)).size + t265.size ≤ 9223372036854775807 then (some (((((((rdOf ByteArray.empty y258 (ji4)) ++ (⟨#[32]⟩ : ByteArray)) ++ t262) ++ (⟨#[32]⟩ : ByteArray)) ++ t264) ++ (⟨#[32]⟩ : ByteArray)) ++ t265)) else (none))) else (none)) else (none))) else (none)) else (some (((rdOf ByteArray.empty y258 (ji4)) ++ (⟨#[32]⟩ : ByteArray)) ++ t262)))) else (none)) = some r := H
          have A8 := Aside0.mk A80
          clear A80
          by_cases c9 : ((rdOf ByteArray.empty y258 (ji4)) ++ (⟨#[32]⟩ : ByteArray)).size + t262.size ≤ 9223372036854775807
          · rw [if_pos c9] at H
            have c9b0 := eq_true c9
            have c9b1 : decide (((rdOf ByteArray.empty y258 (ji4)) ++ (⟨#[32]⟩ : ByteArray)).size + t262.size ≤ 9223372036854775807) = true := decide_eq_true c9
            try have c9b2 : (9223372036854775807 < ((rdOf ByteArray.empty y258 (ji4)) ++ (⟨#[32]⟩ : ByteArray)).size + t262.size) = False := eq_false (Nat.not_lt.2 c9)
            try have c9b3 : (9223372036854775807 < (rdOf ByteArray.empty y258 (ji4)).size + 1 + t262.size) = False := eq_false (by have h_ := c9; (repeat rw [ByteArray.size_append] at h_); exact Nat.not_lt.2 h_)
            replace H := Option.bind_eq_some_iff.mp H
            obtain ⟨t263, A100, H⟩ := H
            replace H : (if t263 = true then (if (((rdOf ByteArray.empty y258 (ji4)) ++ (⟨#[32]⟩ : ByteArray)) ++ t262).size + 1 ≤ 9223372036854775807 then ((impl_Decimal.f k a0_2).bind fun t264 => (if ((((rdOf ByteArray.empty y258 (ji4)) ++ (⟨#[32]⟩ : ByteArray)) ++ t262) ++ (⟨#[32]⟩ : ByteArray)).size + t264.size ≤ 9223372036854775807 then (if (((((rdOf ByteArray.empty y258 (ji4)) ++ (⟨#[32]⟩ : ByteArray)) ++ t262) ++ (⟨#[32]⟩ : ByteArray)) ++ t264).size + 1 ≤ 9223372036854775807 then ((impl_Decimal.f k a0_3).bind fun t265 => (if ((((((rdOf ByteArray.empty y258 (ji4)) ++ (⟨#[32]⟩ : ByteArray)) ++ t262) ++ (⟨#[32]⟩ : ByteArray)) ++ t264) ++ (⟨#[32]⟩ : ByteArray)).size + t265.size ≤ 9223372036854775807 then (some (((((((rdOf ByteArray.empty y258 (ji4)) ++ (⟨#[32]⟩ : ByteArray)) ++ t262) ++ (⟨#[32]⟩ : ByteArray)) ++ t264) ++ (⟨#[32]⟩ : ByteArray)) ++ t265)) else (none))) else (none)) else (none))) else (none)) else (some (((rdOf ByteArray.empty y258 (ji4)) ++ (⟨#[32]⟩ : ByteArray)) ++ t262))) = some r := H
            have A10 := Aside0.mk A100
            clear A100
            by_cases c11 : t263 = true
            · subst c11
              have H1 : (if (((rdOf ByteArray.empty y258 (ji4)) ++ (⟨#[32]⟩ : ByteArray)) ++ t262).size + 1 ≤ 9223372036854775807 then ((impl_Decimal.f k a0_2).bind fun t264 => (if ((((rdOf ByteArray.empty y258 (ji4)) ++ (⟨#[32]⟩ : ByteArray)) ++ t262) ++ (⟨#[32]⟩ : ByteArray)).size + t264.size ≤ 9223372036854775807 then (if (((((rdOf ByteArray.empty y258 (ji4)) ++ (⟨#[32]⟩ : ByteArray)) ++ t262) ++ (⟨#[32]⟩ : ByteArray)) ++ t264).size + 1 ≤ 9223372036854775807 then ((impl_Decimal.f k a0_3).bind fun t265 => (if ((((((rdOf ByteArray.empty y258 (ji4)) ++ (⟨#[32]⟩ : ByteArray)) ++ t262) ++ (⟨#[32]⟩ : ByteArray)) ++ t264) ++ (⟨#[32]⟩ : ByteArray)).size + t265.size ≤ 9223372036854775807 then (some (((((((rdOf ByteArray.empty y258 (ji4)) ++ (⟨#[32]⟩ : ByteArray)) ++ t262) ++ (⟨#[32]⟩ : ByteArray)) ++ t264) ++ (⟨#[32]⟩ : ByteArray)) ++ t265)) else (none))) else (none)) else (none))) else (none)) = some r := by rw [if_pos rfl] at H; exact H
              clear H
              have H := H1
              clear H1
              by_cases c12 : (((rdOf ByteArray.empty y258 (ji4)) ++ (⟨#[32]⟩ : ByteArray)) ++ t262).size + 1 ≤ 9223372036854775807
              · rw [if_pos c12] at H
                have c12b0 := eq_true c12
                have c12b1 : decide ((((rdOf ByteArray.empty y258 (ji4)) ++ (⟨#[32]⟩ : ByteArray)) ++ t262).size + 1 ≤ 9223372036854775807) = true := decide_eq_true c12
                try have c12b2 : (9223372036854775807 < (((rdOf ByteArray.empty y258 (ji4)) ++ (⟨#[32]⟩ : ByteArray)) ++ t262).size + 1) = False := eq_false (Nat.not_lt.2 c12)
                try have c12b3 : (9223372036854775807 < (rdOf ByteArray.empty y258 (ji4)).size + 1 + t262.size + 1) = False := eq_false (by have h_ := c12; (repeat rw [ByteArray.size_append] at h_); exact Nat.not_lt.2 h_)
                replace H := Option.bind_eq_some_iff.mp H
                obtain ⟨t264, A130, H⟩ := H
                replace H : (if ((((rdOf ByteArray.empty y258 (ji4)) ++ (⟨#[32]⟩ : ByteArray)) ++ t262) ++ (⟨#[32]⟩ : ByteArray)).size + t264.size ≤ 9223372036854775807 then (if (((((rdOf ByteArray.empty y258 (ji4)) ++ (⟨#[32]⟩ : ByteArray)) ++ t262) ++ (⟨#[32]⟩ : ByteArray)) ++ t264).size + 1 ≤ 9223372036854775807 then ((impl_Decimal.f k a0_3).bind fun t265 => (if ((((((rdOf ByteArray.empty y258 (ji4)) ++ (⟨#[32]⟩ : ByteArray)) ++ t262) ++ (⟨#[32]⟩ : ByteArray)) ++ t264) ++ (⟨#[32]⟩ : ByteArray)).size + t265.size ≤ 9223372036854775807 then (some (((((((rdOf ByteArray.empty y258 (ji4)) ++ (⟨#[32]⟩ : ByteArray)) ++ t262) ++ (⟨#[32]⟩ : ByteArray)) ++ t264) ++ (⟨#[32]⟩ : ByteArray)) ++ t265)) else (none))) else (none)) else (none)) = some r := H
                have A13 := Aside0.mk A130
                clear A130
                by_cases c14 : ((((rdOf ByteArray.empty y258 (ji4)) ++ (⟨#[32]⟩ : ByteArray)) ++ t262) ++ (⟨#[32]⟩ : ByteArray)).size + t264.size ≤ 9223372036854775807
                · rw [if_pos c14] at H
                  have c14b0 := eq_true c14
                  have c14b1 : decide (((((rdOf ByteArray.empty y258 (ji4)) ++ (⟨#[32]⟩ : ByteArray)) ++ t262) ++ (⟨#[32]⟩ : ByteArray)).size + t264.size ≤ 9223372036854775807) = true := decide_eq_true c14
                  try have c14b2 : (9223372036854775807 < ((((rdOf ByteArray.empty y258 (ji4)) ++ (⟨#[32]⟩ : ByteArray)) ++ t262) ++ (⟨#[32]⟩ : ByteArray)).size + t264.size) = False := eq_false (Nat.not_lt.2 c14)
                  try have c14b3 : (9223372036854775807 < (rdOf ByteArray.empty y258 (ji4)).size + 1 + t262.size + 1 + t264.size) = False := eq_false (by have h_ := c14; (repeat rw [ByteArray.size_append] at h_); exact Nat.not_lt.2 h_)
                  by_cases c15 : (((((rdOf ByteArray.empty y258 (ji4)) ++ (⟨#[32]⟩ : ByteArray)) ++ t262) ++ (⟨#[32]⟩ : ByteArray)) ++ t264).size + 1 ≤ 9223372036854775807
                  · rw [if_pos c15] at H
                    have c15b0 := eq_true c15
                    have c15b1 : decide ((((((rdOf ByteArray.empty y258 (ji4)) ++ (⟨#[32]⟩ : ByteArray)) ++ t262) ++ (⟨#[32]⟩ : ByteArray)) ++ t264).size + 1 ≤ 9223372036854775807) = true := decide_eq_true c15
                    try have c15b2 : (9223372036854775807 < (((((rdOf ByteArray.empty y258 (ji4)) ++ (⟨#[32]⟩ : ByteArray)) ++ t262) ++ (⟨#[32]⟩ : ByteArray)) ++ t264).size + 1) = False := eq_false (Nat.not_lt.2 c15)
                    try have c15b3 : (9223372036854775807 < (rdOf ByteArray.empty y258 (ji4)).size + 1 + t262.size + 1 + t264.size + 1) = False := eq_false (by have h_ := c15; (repeat rw [ByteArray.size_append] at h_); exact Nat.not_lt.2 h_)
                    replace H := Option.bind_eq_some_iff.mp H
                    obtain ⟨t265, A160, H⟩ := H
                    replace H : (if ((((((rdOf ByteArray.empty y258 (ji4)) ++ (⟨#[32]⟩ : ByteArray)) ++ t262) ++ (⟨#[32]⟩ : ByteArray)) ++ t264) ++ (⟨#[32]⟩ : ByteArray)).size + t265.size ≤ 9223372036854775807 then (some (((((((rdOf ByteArray.empty y258 (ji4)) ++ (⟨#[32]⟩ : ByteArray)) ++ t262) ++ (⟨#[32]⟩ : ByteArray)) ++ t264) ++ (⟨#[32]⟩ : ByteArray)) ++ t265)) else (none)) = some r := H
                    have A16 := Aside0.mk A160
                    clear A160
                    by_cases c17 : ((((((rdOf ByteArray.empty y258 (ji4)) ++ (⟨#[32]⟩ : ByteArray)) ++ t262) ++ (⟨#[32]⟩ : ByteArray)) ++ t264) ++ (⟨#[32]⟩ : ByteArray)).size + t265.size ≤ 9223372036854775807
                    · rw [if_pos c17] at H
                      have c17b0 := eq_true c17
                      have c17b1 : decide (((((((rdOf ByteArray.empty y258 (ji4)) ++ (⟨#[32]⟩ : ByteArray)) ++ t262) ++ (⟨#[32]⟩ : ByteArray)) ++ t264) ++ (⟨#[32]⟩ : ByteArray)).size + t265.size ≤ 9223372036854775807) = true := decide_eq_true c17
                      try have c17b2 : (9223372036854775807 < ((((((rdOf ByteArray.empty y258 (ji4)) ++ (⟨#[32]⟩ : ByteArray)) ++ t262) ++ (⟨#[32]⟩ : ByteArray)) ++ t264) ++ (⟨#[32]⟩ : ByteArray)).size + t265.size) = False := eq_false (Nat.not_lt.2 c17)
                      try have c17b3 : (9223372036854775807 < (rdOf ByteArray.empty y258 (ji4)).size + 1 + t262.size + 1 + t264.size + 1 + t265.size) = False := eq_false (by have h_ := c17; (repeat rw [ByteArray.size_append] at h_); exact Nat.not_lt.2 h_)
                      obtain rfl := Option.some.inj H
                      go_enter Try.func49, Try.ntmps49
                      try go_wp2_with (first | ((with_reducible refine gate_dst (N := 1) rfl ?_); refine box_event ?hg (N := 1) ?hd (cs := #[.int .i64 a0_0, .int .i64 a0_1, .int .i64 a0_2, .int .i64 a0_3]) (t := 70) ?hr ?_; (case hd => rfl); (case hg => rfl); (case hr => first | (go_simp; done) | (go_simp; rfl)); intro gb256 hg w18 hbox hb; have n0_ := Aside0.mk (below_step (by repeat (first | (with_reducible first | exact HB.out | apply below_alloc | apply pw_below_drewN | apply below_drew1) | exact HB.out)) hb); have n1_ := Aside0.mk (hbox); have n2_ := Aside0.mk ((by rw [hg]; exact (below_size (by repeat (first | (with_reducible first | exact HB.out | apply below_alloc | apply pw_below_drewN | apply below_drew1) | exact HB.out))) : w.heap.size ≤ gb256)); have n3_ := Aside0.mk ((by rw [hg]; exact (below_size (by repeat (first | (with_reducible first | exact HB.out | apply below_alloc | apply pw_below_drewN | apply below_drew1) | exact HB.out))) : w.heap.size ≤ gb256)); clear HB; have HB := n0_; have BK256 := n1_; have GW256 := n2_; have GE256 := n3_; clear n0_ n1_ n2_ n3_; clear hb hbox hg; have hcz19_0 : w18.cell? ⟨gb256, 0, none⟩ = some (.int .i64 a0_0) := (blk_cell BK256.out 0).trans rfl; have hcz19_1 : w18.cell? ⟨gb256, 1, none⟩ = some (.int .i64 a0_1) := (blk_cell BK256.out 1).trans rfl; have hcz19_2 : w18.cell? ⟨gb256, 2, none⟩ = some (.int .i64 a0_2) := (blk_cell BK256.out 2).trans rfl; have hcz19_3 : w18.cell? ⟨gb256, 3, none⟩ = some (.int .i64 a0_3) := (blk_cell BK256.out 3).trans rfl; have hfz19_0 := blk_frozen BK256.out 0; have hfz19_1 := blk_frozen BK256.out 1; have hfz19_2 := blk_frozen BK256.out 2; have hfz19_3 := blk_frozen BK256.out 3) | ((with_reducible refine gate_callee (f := 93) rfl ?_); refine goesL_ (some 5) rfl rfl Try.func93 (by kernel_rfl) rfl #[.agg #[.int .i64 a0_0, .int .i64 a0_1, .int .i64 a0_2, .int .i64 a0_3]] rfl (by (try simp only [List.map_toArray, List.map_cons, List.map_nil]); first | done | rfl | (simp only [List.length_drop, List.length_take]; rfl)) ?_; (with_reducible refine (impl_InsOk.calls k a0_0 a0_1 a0_2 a0_3 true _ A2.out).mono ?_); rintro e w20 ⟨rfl, hb⟩; refine ⟨_, rfl, ?_⟩; have n0_ := Aside0.mk (blk_below (g := gb256) (o := .cells #[.int .i64 a0_0, .int .i64 a0_1, .int .i64 a0_2, .int .i64 a0_3] 70 (0, 0)) (by (with_reducible repeat (first | refine blk_drewN ?_ _ | refine blk_drew ?_ | refine blk_alloc ?_ _)); exact BK256.out) hb); have n1_ := Aside0.mk (below_step (by repeat (first | (with_reducible first | exact HB.out | apply below_alloc | apply pw_below_drewN | apply below_drew1 | refine below_set ?_ GE256.out) | exact HB.out)) hb); clear BK256; clear HB; have BK256 := n0_; have HB := n1_; clear n0_ n1_; (try clear hb); (try clear hb2); (try clear hk); (try clear hi)))
                      have pi261 : (0 ≤ ((ji4) : Int)) = True := eq_true (of_decide_eq_true (by first | (with_reducible assumption) | assumption))
                      have qi261 : ((ji4) < (y258.length : Int)) = True := eq_true (of_decide_eq_true (by first | (with_reducible assumption) | assumption))
                      have n0_ := Aside0.mk (blk_drew BK256.out)
                      have n1_ := Aside0.mk (below_drew1 HB.out)
                      clear BK256
                      clear HB
                      have BK256 := n0_
                      have HB := n1_
                      clear n0_ n1_
                      refine start_ (n := 12) (S := fun w' => True) (ds := []) #[false, false, false, false, false, false, false, false, false, false, false, false] (by kernel_rfl) rfl rfl trivial (fun hHeld => ?_); refine with_tabW impl_ShowIns.tab3 impl_ShowIns.bits3 (fun HT_ HW_ => ?_)
                      generalize w20.drew = w21 at BK256 HB hHeld ⊢
                      refine pure_ (i := 1) (N := some 8) (v := ?_) (a' := ?_) #[false, true, false, false, false, false, false, false, false, false, false, false] rfl rfl (any_of HT_.out (by kernel_rfl)) (fun _ _ _ h => h) (Or.inl ⟨by rfl, ?_⟩) ?_ ?_
                      rotate_left
                      · intro w'
                        go_simp
                        with_reducible rfl
                      rotate_left
                      · simp only [Act.put, List.setIfInBounds_toArray, List.set_cons_zero, List.set_cons_succ, i64_w, i32_w]
                        rfl
                      refine pure_ (i := 7) (N := some 14) (v := ?_) (a' := ?_) #[false, true, false, false, false, false, false, true, false, false, false, false] rfl rfl (any_of HT_.out (by kernel_rfl)) (fun _ _ _ h => h) (Or.inl ⟨by rfl, ?_⟩) ?_ ?_
                      rotate_left
                      · intro w'
                        go_simp
                        with_reducible rfl
                      rotate_left
                      · simp only [Act.put, List.setIfInBounds_toArray, List.set_cons_zero, List.set_cons_succ, i64_w, i32_w]
                        rfl
                      refine inv_at [0, 2, 3, 4, 5, 6, 8, 9, 10, 11] (fun a0_ b a w' => ∃ (v259 : Value) (adz_v259 : Addr) (m4_ : Value), a = putSel a0_ b [(0, 7, v259), (2, 9, .int .i64 a0_0), (3, 10, .int .i64 ji4), (4, 11, m4_), (5, 12, .string (rdOf ByteArray.empty y258 (ji4))), (6, 13, .string ((rdOf ByteArray.empty y258 (ji4)) ++ (⟨#[32]⟩ : ByteArray))), (8, 15, .int .i64 a0_1), (9, 16, .string t262), (10, 17, .string (((rdOf ByteArray.empty y258 (ji4)) ++ (⟨#[32]⟩ : ByteArray)) ++ t262)), (11, 3, .string (((rdOf ByteArray.empty y258 (ji4)) ++ (⟨#[32]⟩ : ByteArray)) ++ t262))] ∧ (w'.heap[gb256]? = some (.cells #[.int .i64 a0_0, .int .i64 a0_1, .int .i64 a0_2, .int .i64 a0_3] 70 (0, 0))) ∧ (Below w.heap.size w w') ∧ (b 0 = true → Kd.R Kd.string 9 w' w.heap.size (fun _ => True) v259 y258) ∧ (b 0 = true → ∃ c_, (v259 : Value) = .slice (some adz_v259) y258.length c_) ∧ (b 4 = true → (m4_ : Value) = .pointer (some (adz_v259.add ((ji4)).toNat)))) HT_.out HW_.out (by kernel_rfl) (by kernel_rfl) ?_ ?_ ?_
                      · exact ⟨.bool false, ⟨0, 0, none⟩, .bool false, by simp only [putSel, Bool.false_eq_true, if_false], BK256.out, HB.out, fun h_ => absurd h_ (by decide), fun h_ => absurd h_ (by decide), fun h_ => absurd h_ (by decide)⟩
                      · skip
                        clear BK256 HB
                        refine steps_cons ?_ ?_
                        · rintro b a w' ⟨v259, adz_v259, m4_, ha, Q_BK256, Q_HB, Q_HO260, Q_HA_HO260, Q_X4_⟩ hb_ hon hoff
                          refine ⟨_, rfl, fun K hK => ?_⟩
                          replace ha := Aside0.mk ha
                          have BK256 := Aside0.mk Q_BK256
                          have HB := Aside0.mk Q_HB
                          refine Kd.R_lit_step Kd.string _ 9 ?hg (N := 7) ?hd (xs := ([(⟨#[108, 111, 97, 100]⟩ : ByteArray), (⟨#[97, 110, 100]⟩ : ByteArray), (⟨#[101, 113]⟩ : ByteArray), (⟨#[109, 111, 114, 101]⟩ : ByteArray), (⟨#[108, 101, 97, 115, 116]⟩ : ByteArray), (⟨#[115, 101, 116]⟩ : ByteArray), (⟨#[106, 117, 109, 112]⟩ : ByteArray), (⟨#[114, 101, 116]⟩ : ByteArray)] : List ByteArray)) (inner := [.string (⟨#[108, 111, 97, 100]⟩ : ByteArray), .string (⟨#[97, 110, 100]⟩ : ByteArray), .string (⟨#[101, 113]⟩ : ByteArray), .string (⟨#[109, 111, 114, 101]⟩ : ByteArray), .string (⟨#[108, 101, 97, 115, 116]⟩ : ByteArray), .string (⟨#[115, 101, 116]⟩ : ByteArray), .string (⟨#[106, 117, 109, 112]⟩ : ByteArray), .string (⟨#[114, 101, 116]⟩ : ByteArray)]) (ok := fun _ => True) (okp := fun _ => True) ?hr ?hp (fun _ hk => hk) trivial (Below.refl _ _) (Nat.le_refl _) (by simp) ?_; (case hd => rfl); (case hg => rfl); (case hr => first | (go_simp; done) | (go_simp; rfl)); (case hp => exact (Reps.one (show Kd.M Kd.string _ _ _ (⟨#[108, 111, 97, 100]⟩ : ByteArray) [.string (⟨#[108, 111, 97, 100]⟩ : ByteArray)] from rfl) (Reps.one (show Kd.M Kd.string _ _ _ (⟨#[97, 110, 100]⟩ : ByteArray) [.string (⟨#[97, 110, 100]⟩ : ByteArray)] from rfl) (Reps.one (show Kd.M Kd.string _ _ _ (⟨#[101, 113]⟩ : ByteArray) [.string (⟨#[101, 113]⟩ : ByteArray)] from rfl) (Reps.one (show Kd.M Kd.string _ _ _ (⟨#[109, 111, 114, 101]⟩ : ByteArray) [.string (⟨#[109, 111, 114, 101]⟩ : ByteArray)] from rfl) (Reps.one (show Kd.M Kd.string _ _ _ (⟨#[108, 101, 97, 115, 116]⟩ : ByteArray) [.string (⟨#[108, 101, 97, 115, 116]⟩ : ByteArray)] from rfl) (Reps.one (show Kd.M Kd.string _ _ _ (⟨#[115, 101, 116]⟩ : ByteArray) [.string (⟨#[115, 101, 116]⟩ : ByteArray)] from rfl) (Reps.one (show Kd.M Kd.string _ _ _ (⟨#[106, 117, 109, 112]⟩ : ByteArray) [.string (⟨#[106, 117, 109, 112]⟩ : ByteArray)] from rfl) (Reps.one (show Kd.M Kd.string _ _ _ (⟨#[114, 101, 116]⟩ : ByteArray) [.string (⟨#[114, 101, 116]⟩ : ByteArray)] from rfl) (Reps.none _ _))))))))))
                          intro v259 w22 ho23 hb hg_ hnew_
                          clear hg_ hnew_
                          (first | rw [← Ny258.out] at ho23 | (simp only [Int.reduceToNat] at ho23; rw [← Ny258.out] at ho23))
                          have n0_ := Aside0.mk (Kd.R_lower ho23 (below_size (by repeat (first | (with_reducible first | exact HB.out | apply below_alloc | apply pw_below_drewN | apply below_drew1 | refine below_set ?_ GE256.out) | exact HB.out))))
                          have n1_ := Aside0.mk (blk_below (g := gb256) (o := .cells #[.int .i64 a0_0, .int .i64 a0_1, .int .i64 a0_2, .int .i64 a0_3] 70 (0, 0)) (by (with_reducible repeat (first | refine blk_drewN ?_ _ | refine blk_drew ?_ | refine blk_alloc ?_ _)); exact BK256.out) hb)
                          have n2_ := Aside0.mk (below_step (by repeat (first | (with_reducible first | exact HB.out | apply below_alloc | apply pw_below_drewN | apply below_drew1 | refine below_set ?_ GE256.out) | exact HB.out)) hb)
                          clear BK256
                          clear HB
                          have HO260 := n0_
                          have BK256 := n1_
                          have HB := n2_
                          clear n0_ n1_ n2_
                          clear hb ho23
                          obtain ⟨Ao24, co24, eo24⟩ := Kd.R_slice HO260.out
                          subst eo24
                          obtain ⟨ado24, fo24, _⟩ := Kd.at_string (Kd.R_reads' HO260.out).2.2 0 (by decide) (by rw [Ny258.out]; simp)
                          cases fo24
                          refine hK.out _ _ ⟨.slice (some ado24) y258.length co24, ado24, m4_, (by rw [ha.out]; exact putSel_upk 0 hb_ rfl rfl rfl), (by (with_reducible repeat (first | refine blk_drewN ?_ _ | refine blk_drew ?_ | refine blk_alloc ?_ _)); exact BK256.out), (by repeat (first | (with_reducible first | exact HB.out | apply below_alloc | apply pw_below_drewN | apply below_drew1 | refine below_set ?_ GE256.out) | exact HB.out)), fun _ => (by (with_reducible repeat (first | apply Kd.R_alloc | apply Kd.R_drewN | apply Kd.R_drew)); exact HO260.out), fun _ => ⟨_, rfl⟩, fun h0_ => absurd ((hoff 4 (by kernel_rfl)).symm.trans h0_) (by decide)⟩
                        refine steps_cons ?_ ?_
                        · rintro b a w' ⟨v259, adz_v259, m4_, ha, Q_BK256, Q_HB, Q_HO260, Q_HA_HO260, Q_X4_⟩ hb_ hon hoff
                          refine ⟨_, rfl, fun K hK => ?_⟩
                          have e8 : a.tmps[8]? = some (.pointer (some ⟨gb256, 0, none⟩)) := by rw [ha]; exact (putSel_off rfl).trans rfl
                          replace ha := Aside0.mk ha
                          have BK256 := Aside0.mk Q_BK256
                          have HB := Aside0.mk Q_HB
                          have hc0_ : w'.cell? ⟨gb256, 0, none⟩ = some (.int .i64 a0_0) := (blk_cell BK256.out 0).trans rfl
                          have hc1_ : w'.cell? ⟨gb256, 1, none⟩ = some (.int .i64 a0_1) := (blk_cell BK256.out 1).trans rfl
                          have hc2_ : w'.cell? ⟨gb256, 2, none⟩ = some (.int .i64 a0_2) := (blk_cell BK256.out 2).trans rfl
                          have hc3_ : w'.cell? ⟨gb256, 3, none⟩ = some (.int .i64 a0_3) := (blk_cell BK256.out 3).trans rfl
                          refine value_ (w1 := w') (v := .int .i64 a0_0) (by rfl) rfl ?_ ?_
                          · go_simp
                            (try simp only [i64_w])
                            try rfl
                          refine hK.out _ _ ⟨v259, adz_v259, m4_, (by rw [ha.out]; exact putSel_upk 1 hb_ rfl rfl rfl), Q_BK256, Q_HB, Q_HO260, Q_HA_HO260, fun h0_ => absurd ((hoff 4 (by kernel_rfl)).symm.trans h0_) (by decide)⟩
                        refine steps_cons ?_ ?_
                        · rintro b a w' ⟨v259, adz_v259, m4_, ha, Q_BK256, Q_HB, Q_HO260, Q_HA_HO260, Q_X4_⟩ hb_ hon hoff
                          refine ⟨_, rfl, fun K hK => ?_⟩
                          have e9 : a.tmps[9]? = some (.int .i64 a0_0) := by rw [ha]; exact putSel_on (e := (2, 9, .int .i64 a0_0)) 1 rfl rfl (hon 2 (by kernel_rfl)) rfl
                          replace ha := Aside0.mk ha
                          have BK256 := Aside0.mk Q_BK256
                          have HB := Aside0.mk Q_HB
                          refine value_ (w1 := w') (v := .int .i64 ji4) (by rfl) rfl ?_ ?_
                          · go_simp
                            (try simp only [i64_w])
                            try rfl
                          refine hK.out _ _ ⟨v259, adz_v259, m4_, (by rw [ha.out]; exact putSel_upk 2 hb_ rfl rfl rfl), Q_BK256, Q_HB, Q_HO260, Q_HA_HO260, fun h0_ => absurd ((hoff 4 (by kernel_rfl)).symm.trans h0_) (by decide)⟩
                        refine steps_cons ?_ ?_
                        · rintro b a w' ⟨v259, adz_v259, m4_, ha, Q_BK256, Q_HB, Q_HO260, Q_HA_HO260, Q_X4_⟩ hb_ hon hoff
                          refine ⟨_, rfl, fun K hK => ?_⟩
                          have e7 : a.tmps[7]? = some (v259) := by rw [ha]; exact putSel_on (e := (0, 7, v259)) 0 rfl rfl (hon 0 (by kernel_rfl)) rfl
                          have e10 : a.tmps[10]? = some (.int .i64 ji4) := by rw [ha]; exact putSel_on (e := (3, 10, .int .i64 ji4)) 2 rfl rfl (hon 3 (by kernel_rfl)) rfl
                          replace ha := Aside0.mk ha
                          have BK256 := Aside0.mk Q_BK256
                          have HB := Aside0.mk Q_HB
                          have HO260 := Aside0.mk (Q_HO260 (hon 0 (by kernel_rfl)))
                          have HA_HO260 := Aside0.mk (Q_HA_HO260 (hon 0 (by kernel_rfl)))
                          obtain ⟨c_, hv_⟩ := HA_HO260.out
                          rw [hv_] at e7
                          refine value_ (w1 := w') (v := .pointer (some (adz_v259.add ((ji4)).toNat))) (by rfl) rfl ?_ ?_
                          · go_simp
                            (try simp only [i64_w])
                            try rfl
                          refine hK.out _ _ ⟨v259, adz_v259, (.pointer (some (adz_v259.add ((ji4)).toNat))), (by rw [ha.out]; exact putSel_upk 3 hb_ rfl rfl rfl), Q_BK256, Q_HB, Q_HO260, Q_HA_HO260, fun _ => rfl⟩
                        refine steps_cons ?_ ?_
                        · rintro b a w' ⟨v259, adz_v259, m4_, ha, Q_BK256, Q_HB, Q_HO260, Q_HA_HO260, Q_X4_⟩ hb_ hon hoff
                          refine ⟨_, rfl, fun K hK => ?_⟩
                          have e11 : a.tmps[11]? = some (m4_) := by rw [ha]; exact putSel_on (e := (4, 11, m4_)) 3 rfl rfl (hon 4 (by kernel_rfl)) rfl
                          rw [Q_X4_ (hon 4 (by kernel_rfl))] at e11
                          replace ha := Aside0.mk ha
                          have BK256 := Aside0.mk Q_BK256
                          have HB := Aside0.mk Q_HB
                          have HO260 := Aside0.mk (Q_HO260 (hon 0 (by kernel_rfl)))
                          have HA_HO260 := Aside0.mk (Q_HA_HO260 (hon 0 (by kernel_rfl)))
                          obtain ⟨c_, hv_⟩ := HA_HO260.out
                          have hF_ := HO260.out
                          rw [hv_] at hF_
                          obtain ⟨ad_, ea_, hx_⟩ := Kd.at_string (Kd.R_reads' hF_).2.2 (ji4) (of_eq_true pi261) (of_eq_true qi261)
                          cases ea_
                          refine value_ (w1 := w') (v := .string (rdOf ByteArray.empty y258 (ji4))) (by rfl) rfl ?_ ?_
                          · go_simp
                            (try simp only [i64_w])
                            try rfl
                          refine hK.out _ _ ⟨v259, adz_v259, m4_, (by rw [ha.out]; exact putSel_upk 4 hb_ rfl rfl rfl), Q_BK256, Q_HB, Q_HO260, Q_HA_HO260, Q_X4_⟩
                        refine steps_cons ?_ ?_
                        · rintro b a w' ⟨v259, adz_v259, m4_, ha, Q_BK256, Q_HB, Q_HO260, Q_HA_HO260, Q_X4_⟩ hb_ hon hoff
                          refine ⟨_, rfl, fun K hK => ?_⟩
                          have e12 : a.tmps[12]? = some (.string (rdOf ByteArray.empty y258 (ji4))) := by rw [ha]; exact putSel_on (e := (5, 12, .string (rdOf ByteArray.empty y258 (ji4)))) 4 rfl rfl (hon 5 (by kernel_rfl)) rfl
                          replace ha := Aside0.mk ha
                          have BK256 := Aside0.mk Q_BK256
                          have HB := Aside0.mk Q_HB
                          have HO260 := Aside0.mk (Q_HO260 (hon 0 (by kernel_rfl)))
                          have HA_HO260 := Aside0.mk (Q_HA_HO260 (hon 0 (by kernel_rfl)))
                          refine value_ (w1 := w') (v := .string ((rdOf ByteArray.empty y258 (ji4)) ++ (⟨#[32]⟩ : ByteArray))) (by rfl) rfl ?_ ?_
                          · go_simp
                            (try simp only [i64_w])
                            try rfl
                          refine hK.out _ _ ⟨v259, adz_v259, m4_, (by rw [ha.out]; exact putSel_upk 5 hb_ rfl rfl rfl), Q_BK256, Q_HB, Q_HO260, Q_HA_HO260, Q_X4_⟩
                        refine steps_cons ?_ ?_
                        · rintro b a w' ⟨v259, adz_v259, m4_, ha, Q_BK256, Q_HB, Q_HO260, Q_HA_HO260, Q_X4_⟩ hb_ hon hoff
                          refine ⟨_, rfl, fun K hK => ?_⟩
                          have e14 : a.tmps[14]? = some (.pointer (some ⟨gb256, 1, none⟩)) := by rw [ha]; exact (putSel_off rfl).trans rfl
                          replace ha := Aside0.mk ha
                          have BK256 := Aside0.mk Q_BK256
                          have HB := Aside0.mk Q_HB
                          have hc0_ : w'.cell? ⟨gb256, 0, none⟩ = some (.int .i64 a0_0) := (blk_cell BK256.out 0).trans rfl
                          have hc1_ : w'.cell? ⟨gb256, 1, none⟩ = some (.int .i64 a0_1) := (blk_cell BK256.out 1).trans rfl
                          have hc2_ : w'.cell? ⟨gb256, 2, none⟩ = some (.int .i64 a0_2) := (blk_cell BK256.out 2).trans rfl
                          have hc3_ : w'.cell? ⟨gb256, 3, none⟩ = some (.int .i64 a0_3) := (blk_cell BK256.out 3).trans rfl
                          refine value_ (w1 := w') (v := .int .i64 a0_1) (by rfl) rfl ?_ ?_
                          · go_simp
                            (try simp only [i64_w])
                            try rfl
                          refine hK.out _ _ ⟨v259, adz_v259, m4_, (by rw [ha.out]; exact putSel_upk 6 hb_ rfl rfl rfl), Q_BK256, Q_HB, Q_HO260, Q_HA_HO260, Q_X4_⟩
                        refine steps_cons ?_ ?_
                        · rintro b a w' ⟨v259, adz_v259, m4_, ha, Q_BK256, Q_HB, Q_HO260, Q_HA_HO260, Q_X4_⟩ hb_ hon hoff
                          refine ⟨_, rfl, fun K hK => ?_⟩
                          have e15 : a.tmps[15]? = some (.int .i64 a0_1) := by rw [ha]; exact putSel_on (e := (8, 15, .int .i64 a0_1)) 6 rfl rfl (hon 8 (by kernel_rfl)) rfl
                          replace ha := Aside0.mk ha
                          have BK256 := Aside0.mk Q_BK256
                          have HB := Aside0.mk Q_HB
                          refine goes_ Try.func44 (by kernel_rfl) rfl #[.int .i64 a0_1] (by rfl) rfl rfl (by first | (simp only [List.map_toArray, List.map_cons, List.map_nil, Act.eval, Array.getD_eq_getD_getElem?, Option.getD_some, e15]; done) | (simp only [List.map_toArray, List.map_cons, List.map_nil, Act.eval, Array.getD_eq_getD_getElem?, Option.getD_some, e15]; rfl)) ?_
                          with_reducible refine (impl_Decimal.calls k a0_1 t262 _ A8.out).mono ?_
                          rintro e w22 ⟨rfl, hb⟩
                          refine ⟨_, rfl, ?_⟩
                          have n0_ := Aside0.mk (blk_below (g := gb256) (o := .cells #[.int .i64 a0_0, .int .i64 a0_1, .int .i64 a0_2, .int .i64 a0_3] 70 (0, 0)) (by (with_reducible repeat (first | refine blk_drewN ?_ _ | refine blk_drew ?_ | refine blk_alloc ?_ _)); exact BK256.out) hb)
                          have n1_ := Aside0.mk (below_step (by repeat (first | (with_reducible first | exact HB.out | apply below_alloc | apply pw_below_drewN | apply below_drew1 | refine below_set ?_ GE256.out) | exact HB.out)) hb)
                          have z_HO260 := fun (h0_ : b 0 = true) => (show Kd.R Kd.string 9 w22 w.heap.size (fun _ => True) v259 y258 from by first | exact (Kd.R_below (by (with_reducible repeat (first | apply Kd.R_alloc | apply Kd.R_drewN | apply Kd.R_drew)); exact (Q_HO260 h0_)) hb) | exact Kd.R_mono (Kd.R_below (by (with_reducible repeat (first | apply Kd.R_alloc | apply Kd.R_drewN | apply Kd.R_drew)); exact (Q_HO260 h0_)) hb) (fun _ h_ => by first | trivial | exact h_ | exact h_.1))
                          clear BK256
                          clear HB
                          have BK256 := n0_
                          have HB := n1_
                          clear n0_ n1_
                          (try clear hb)
                          (try clear hb2)
                          (try clear hk)
                          (try clear hi)
                          refine hK.out _ _ ⟨v259, adz_v259, m4_, (by rw [ha.out]; exact putSel_upk 7 hb_ rfl rfl rfl), (by (with_reducible repeat (first | refine blk_drewN ?_ _ | refine blk_drew ?_ | refine blk_alloc ?_ _)); exact BK256.out), (by repeat (first | (with_reducible first | exact HB.out | apply below_alloc | apply pw_below_drewN | apply below_drew1 | refine below_set ?_ GE256.out) | exact HB.out)), z_HO260, Q_HA_HO260, Q_X4_⟩
                        refine steps_cons ?_ ?_
                        · rintro b a w' ⟨v259, adz_v259, m4_, ha, Q_BK256, Q_HB, Q_HO260, Q_HA_HO260, Q_X4_⟩ hb_ hon hoff
                          refine ⟨_, rfl, fun K hK => ?_⟩
                          have e13 : a.tmps[13]? = some (.string ((rdOf ByteArray.empty y258 (ji4)) ++ (⟨#[32]⟩ : ByteArray))) := by rw [ha]; exact putSel_on (e := (6, 13, .string ((rdOf ByteArray.empty y258 (ji4)) ++ (⟨#[32]⟩ : ByteArray)))) 5 rfl rfl (hon 6 (by kernel_rfl)) rfl
                          have e16 : a.tmps[16]? = some (.string t262) := by rw [ha]; exact putSel_on (e := (9, 16, .string t262)) 7 rfl rfl (hon 9 (by kernel_rfl)) rfl
                          replace ha := Aside0.mk ha
                          have BK256 := Aside0.mk Q_BK256
                          have HB := Aside0.mk Q_HB
                          have HO260 := Aside0.mk (Q_HO260 (hon 0 (by kernel_rfl)))
                          have HA_HO260 := Aside0.mk (Q_HA_HO260 (hon 0 (by kernel_rfl)))
                          refine value_ (w1 := w') (v := .string (((rdOf ByteArray.empty y258 (ji4)) ++ (⟨#[32]⟩ : ByteArray)) ++ t262)) (by rfl) rfl ?_ ?_
                          · go_simp
                            (try simp only [i64_w])
                            try rfl
                          refine hK.out _ _ ⟨v259, adz_v259, m4_, (by rw [ha.out]; exact putSel_upk 8 hb_ rfl rfl rfl), Q_BK256, Q_HB, Q_HO260, Q_HA_HO260, Q_X4_⟩
                        refine steps_cons ?_ ?_
                        · rintro b a w' ⟨v259, adz_v259, m4_, ha, Q_BK256, Q_HB, Q_HO260, Q_HA_HO260, Q_X4_⟩ hb_ hon hoff
                          refine ⟨_, rfl, fun K hK => ?_⟩
                          have e17 : a.tmps[17]? = some (.string (((rdOf ByteArray.empty y258 (ji4)) ++ (⟨#[32]⟩ : ByteArray)) ++ t262)) := by rw [ha]; exact putSel_on (e := (10, 17, .string (((rdOf ByteArray.empty y258 (ji4)) ++ (⟨#[32]⟩ : ByteArray)) ++ t262))) 8 rfl rfl (hon 10 (by kernel_rfl)) rfl
                          replace ha := Aside0.mk ha
                          have BK256 := Aside0.mk Q_BK256
                          have HB := Aside0.mk Q_HB
                          have HO260 := Aside0.mk (Q_HO260 (hon 0 (by kernel_rfl)))
                          have HA_HO260 := Aside0.mk (Q_HA_HO260 (hon 0 (by kernel_rfl)))
                          refine value_ (w1 := w') (v := .string (((rdOf ByteArray.empty y258 (ji4)) ++ (⟨#[32]⟩ : ByteArray)) ++ t262)) (by rfl) rfl ?_ ?_
                          · go_simp
                            (try simp only [i64_w])
                            try rfl
                          refine hK.out _ _ ⟨v259, adz_v259, m4_, (by rw [ha.out]; exact putSel_upk 9 hb_ rfl rfl rfl), Q_BK256, Q_HB, Q_HO260, Q_HA_HO260, Q_X4_⟩
                        exact steps_nil
                      rintro b a w26 hall ⟨v259, adz_v259, m4_, ha, Q_BK256, Q_HB, Q_HO260, Q_HA_HO260, Q_X4_⟩
                      clear BK256 HB
                      have hb0_ := hall 0 (by kernel_rfl)
                      have hb2_ := hall 2 (by kernel_rfl)
                      have hb3_ := hall 3 (by kernel_rfl)
                      have hb4_ := hall 4 (by kernel_rfl)
                      have hb5_ := hall 5 (by kernel_rfl)
                      have hb6_ := hall 6 (by kernel_rfl)
                      have hb8_ := hall 8 (by kernel_rfl)
                      have hb9_ := hall 9 (by kernel_rfl)
                      have hb10_ := hall 10 (by kernel_rfl)
                      have hb11_ := hall 11 (by kernel_rfl)
                      subst ha
                      obtain rfl := Q_X4_ hb4_
                      simp only [putSel, hb0_, hb2_, hb3_, hb4_, hb5_, hb6_, hb8_, hb9_, hb10_, hb11_, if_true, Act.put, List.setIfInBounds_toArray, List.set_cons_zero, List.set_cons_succ]
                      have BK256 := Aside0.mk Q_BK256
                      clear Q_BK256
                      have HB := Aside0.mk Q_HB
                      clear Q_HB
                      have HO260 := Aside0.mk (Q_HO260 hb0_)
                      clear Q_HO260
                      have HA_HO260 := Aside0.mk (Q_HA_HO260 hb0_)
                      clear Q_HA_HO260
                      clear hall hb0_ hb2_ hb3_ hb4_ hb5_ hb6_ hb8_ hb9_ hb10_ hb11_
                      obtain ⟨co27, eo27⟩ := HA_HO260.out
                      clear HA_HO260
                      subst eo27
                      have hcz28_0 : w26.cell? ⟨gb256, 0, none⟩ = some (.int .i64 a0_0) := (blk_cell BK256.out 0).trans rfl
                      have hcz28_1 : w26.cell? ⟨gb256, 1, none⟩ = some (.int .i64 a0_1) := (blk_cell BK256.out 1).trans rfl
                      have hcz28_2 : w26.cell? ⟨gb256, 2, none⟩ = some (.int .i64 a0_2) := (blk_cell BK256.out 2).trans rfl
                      have hcz28_3 : w26.cell? ⟨gb256, 3, none⟩ = some (.int .i64 a0_3) := (blk_cell BK256.out 3).trans rfl
                      have hfz28_0 := blk_frozen BK256.out 0
                      have hfz28_1 := blk_frozen BK256.out 1
                      have hfz28_2 := blk_frozen BK256.out 2
                      have hfz28_3 := blk_frozen BK256.out 3
                      try go_wp2_with (first | ((with_reducible refine gate_callee (f := 94) rfl ?_); refine goesL_ (some 19) rfl rfl Try.func94 (by kernel_rfl) rfl #[.agg #[.int .i64 a0_0, .int .i64 a0_1, .int .i64 a0_2, .int .i64 a0_3]] rfl (by (try simp only [List.map_toArray, List.map_cons, List.map_nil]); first | done | rfl | (simp only [List.length_drop, List.length_take]; rfl)) ?_; (with_reducible refine (impl_Ins_asks.calls a0_0 a0_1 a0_2 a0_3 true _ A10.out).mono ?_); rintro e w29 ⟨rfl, hb⟩; refine ⟨_, rfl, ?_⟩; have n0_ := Aside0.mk (Kd.R_below (by (with_reducible repeat (first | apply Kd.R_alloc | apply Kd.R_drewN | apply Kd.R_drew)); exact HO260.out) hb); have n1_ := Aside0.mk (blk_below (g := gb256) (o := .cells #[.int .i64 a0_0, .int .i64 a0_1, .int .i64 a0_2, .int .i64 a0_3] 70 (0, 0)) (by (with_reducible repeat (first | refine blk_drewN ?_ _ | refine blk_drew ?_ | refine blk_alloc ?_ _)); exact BK256.out) hb); have n2_ := Aside0.mk (below_step (by repeat (first | (with_reducible first | exact HB.out | apply below_alloc | apply pw_below_drewN | apply below_drew1 | refine below_set ?_ GE256.out) | exact HB.out)) hb); clear HO260; clear BK256; clear HB; have HO260 := n0_; have BK256 := n1_; have HB := n2_; clear n0_ n1_ n2_; (try clear hb); (try clear hb2); (try clear hk); (try clear hi)))
                      have n0_ := Aside0.mk (Kd.R_drew HO260.out)
                      have n1_ := Aside0.mk (blk_drew BK256.out)
                      have n2_ := Aside0.mk (below_drew1 HB.out)
                      clear HO260
                      clear BK256
                      clear HB
                      have HO260 := n0_
                      have BK256 := n1_
                      have HB := n2_
                      clear n0_ n1_ n2_
                      refine start_ (n := 12) (S := fun w' => w'.cell? ⟨gb256, 0, none⟩ = some (.int .i64 a0_0) ∧ w'.cell? ⟨gb256, 1, none⟩ = some (.int .i64 a0_1) ∧ w'.cell? ⟨gb256, 2, none⟩ = some (.int .i64 a0_2) ∧ w'.cell? ⟨gb256, 3, none⟩ = some (.int .i64 a0_3)) (ds := []) #[false, false, false, false, false, false, false, false, false, false, false, false] (by kernel_rfl) rfl rfl ⟨(blk_cell BK256.out 0).trans rfl, (blk_cell BK256.out 1).trans rfl, (blk_cell BK256.out 2).trans rfl, (blk_cell BK256.out 3).trans rfl⟩ (fun hHeld => ?_); refine with_tabW impl_ShowIns.tab5 impl_ShowIns.bits5 (fun HT_ HW_ => ?_)
                      generalize w29.drew = w30 at HO260 BK256 HB hHeld ⊢
                      refine pure_ (i := 0) (N := some 20) (v := ?_) (a' := ?_) #[true, false, false, false, false, false, false, false, false, false, false, false] rfl rfl (any_of HT_.out (by kernel_rfl)) (fun _ _ _ h => h) (Or.inl ⟨by rfl, ?_⟩) ?_ ?_
                      rotate_left
                      · intro w'
                        go_simp
                        with_reducible rfl
                      rotate_left
                      · simp only [Act.put, List.setIfInBounds_toArray, List.set_cons_zero, List.set_cons_succ, i64_w, i32_w]
                        rfl
                      refine pure_ (i := 1) (N := some 21) (v := ?_) (a' := ?_) #[true, true, false, false, false, false, false, false, false, false, false, false] rfl rfl (any_of HT_.out (by kernel_rfl)) (fun _ _ _ h => h) (Or.inl ⟨by rfl, ?_⟩) ?_ ?_
                      rotate_left
                      · intro w'
                        go_simp
                        with_reducible rfl
                      rotate_left
                      · simp only [Act.put, List.setIfInBounds_toArray, List.set_cons_zero, List.set_cons_succ, i64_w, i32_w]
                        rfl
                      refine pure_ (i := 2) (N := some 22) (v := ?_) (a' := ?_) #[true, true, true, false, false, false, false, false, false, false, false, false] rfl rfl (any_of HT_.out (by kernel_rfl)) (fun _ _ _ h => h) (Or.inl ⟨by rfl, ?_⟩) ?_ ?_
                      rotate_left
                      · intro w'
                        go_simp
                        with_reducible rfl
                      rotate_left
                      · simp only [Act.put, List.setIfInBounds_toArray, List.set_cons_zero, List.set_cons_succ, i64_w, i32_w]
                        rfl
                      refine pure_ (i := 7) (N := some 27) (v := ?_) (a' := ?_) #[true, true, true, false, false, false, false, true, false, false, false, false] rfl rfl (any_of HT_.out (by kernel_rfl)) (fun _ _ _ h => h) (Or.inl ⟨by rfl, ?_⟩) ?_ ?_
                      rotate_left
                      · intro w'
                        go_simp
                        with_reducible rfl
                      rotate_left
                      · simp only [Act.put, List.setIfInBounds_toArray, List.set_cons_zero, List.set_cons_succ, i64_w, i32_w]
                        rfl
                      refine take_ (i := 3) (N := some 23) (v := ?_) (a' := ?_) #[true, true, true, true, false, false, false, true, false, false, false, false] rfl rfl (take_ofW HT_.out HW_.out (by kernel_rfl)) (fun _ _ _ h => h) (Or.inl ⟨by rfl, ?_⟩) hHeld ?_ ?_
                      rotate_left
                      · rintro w' ⟨s0, s1, s2, s3⟩
                        go_simp
                        with_reducible rfl
                      rotate_left
                      · simp only [Act.put, List.setIfInBounds_toArray, List.set_cons_zero, List.set_cons_succ, i64_w, i32_w]
                        rfl
                      refine take_ (i := 8) (N := some 28) (v := ?_) (a' := ?_) #[true, true, true, true, false, false, false, true, true, false, false, false] rfl rfl (take_ofW HT_.out HW_.out (by kernel_rfl)) (fun _ _ _ h => h) (Or.inl ⟨by rfl, ?_⟩) hHeld ?_ ?_
                      rotate_left
                      · rintro w' ⟨s0, s1, s2, s3⟩
                        go_simp
                        with_reducible rfl
                      rotate_left
                      · simp only [Act.put, List.setIfInBounds_toArray, List.set_cons_zero, List.set_cons_succ, i64_w, i32_w]
                        rfl
                      refine one_ (i := 4) (N := some 24) #[true, true, true, true, true, false, false, true, true, false, false, false] rfl rfl (one_of HT_.out (by kernel_rfl)) (by decide) (fun K hK => ?_)
                      refine goes_ Try.func44 (by kernel_rfl) rfl #[.int .i64 a0_2] (by rfl) rfl rfl (by (try simp only [List.map_toArray, List.map_cons, List.map_nil]); first | done | rfl | (simp only [List.length_drop, List.length_take]; rfl)) ?_
                      with_reducible refine (impl_Decimal.calls k a0_2 t264 _ A13.out).mono ?_
                      rintro e w31 ⟨rfl, hb⟩
                      refine ⟨_, rfl, ?_⟩
                      have n0_ := Aside0.mk (Kd.R_below (by (with_reducible repeat (first | apply Kd.R_alloc | apply Kd.R_drewN | apply Kd.R_drew)); exact HO260.out) hb)
                      have n1_ := Aside0.mk (blk_below (g := gb256) (o := .cells #[.int .i64 a0_0, .int .i64 a0_1, .int .i64 a0_2, .int .i64 a0_3] 70 (0, 0)) (by (with_reducible repeat (first | refine blk_drewN ?_ _ | refine blk_drew ?_ | refine blk_alloc ?_ _)); exact BK256.out) hb)
                      have n2_ := Aside0.mk (below_step (by repeat (first | (with_reducible first | exact HB.out | apply below_alloc | apply pw_below_drewN | apply below_drew1 | refine below_set ?_ GE256.out) | exact HB.out)) hb)
                      clear HO260
                      clear BK256
                      clear HB
                      have HO260 := n0_
                      have BK256 := n1_
                      have HB := n2_
                      clear n0_ n1_ n2_
                      (try clear hb)
                      (try clear hb2)
                      (try clear hk)
                      (try clear hi)
                      refine hK.out _ _ ⟨(blk_cell BK256.out 0).trans rfl, (blk_cell BK256.out 1).trans rfl, (blk_cell BK256.out 2).trans rfl, (blk_cell BK256.out 3).trans rfl⟩ (fun hHeld => ?_)
                      clear hK K
                      refine norm_ (a' := ?_) ?_ ?_
                      rotate_left
                      · show Act.put _ (some 24) _ = _
                        simp only [Act.put, List.setIfInBounds_toArray, List.set_cons_zero, List.set_cons_succ, i64_w, i32_w]
                        rfl
                      refine pure_ (i := 5) (N := some 25) (v := ?_) (a' := ?_) #[true, true, true, true, true, true, false, true, true, false, false, false] rfl rfl (any_of HT_.out (by kernel_rfl)) (fun _ _ _ h => h) (Or.inl ⟨by rfl, ?_⟩) ?_ ?_
                      rotate_left
                      · intro w'
                        go_simp
                        with_reducible rfl
                      rotate_left
                      · simp only [Act.put, List.setIfInBounds_toArray, List.set_cons_zero, List.set_cons_succ, i64_w, i32_w]
                        rfl
                      refine pure_ (i := 6) (N := some 26) (v := ?_) (a' := ?_) #[true, true, true, true, true, true, true, true, true, false, false, false] rfl rfl (any_of HT_.out (by kernel_rfl)) (fun _ _ _ h => h) (Or.inl ⟨by rfl, ?_⟩) ?_ ?_
                      rotate_left
                      · intro w'
                        go_simp
                        with_reducible rfl
                      rotate_left
                      · simp only [Act.put, List.setIfInBounds_toArray, List.set_cons_zero, List.set_cons_succ, i64_w, i32_w]
                        rfl
                      refine one_ (i := 9) (N := some 29) #[true, true, true, true, true, true, true, true, true, true, false, false] rfl rfl (one_of HT_.out (by kernel_rfl)) (by decide) (fun K hK => ?_)
                      refine goes_ Try.func44 (by kernel_rfl) rfl #[.int .i64 a0_3] (by rfl) rfl rfl (by (try simp only [List.map_toArray, List.map_cons, List.map_nil]); first | done | rfl | (simp only [List.length_drop, List.length_take]; rfl)) ?_
                      with_reducible refine (impl_Decimal.calls k a0_3 t265 _ A16.out).mono ?_
                      rintro e w32 ⟨rfl, hb⟩
                      refine ⟨_, rfl, ?_⟩
                      have n0_ := Aside0.mk (Kd.R_below (by (with_reducible repeat (first | apply Kd.R_alloc | apply Kd.R_drewN | apply Kd.R_drew)); exact HO260.out) hb)
                      have n1_ := Aside0.mk (blk_below (g := gb256) (o := .cells #[.int .i64 a0_0, .int .i64 a0_1, .int .i64 a0_2, .int .i64 a0_3] 70 (0, 0)) (by (with_reducible repeat (first | refine blk_drewN ?_ _ | refine blk_drew ?_ | refine blk_alloc ?_ _)); exact BK256.out) hb)
                      have n2_ := Aside0.mk (below_step (by repeat (first | (with_reducible first | exact HB.out | apply below_alloc | apply pw_below_drewN | apply below_drew1 | refine below_set ?_ GE256.out) | exact HB.out)) hb)
                      clear HO260
                      clear BK256
                      clear HB
                      have HO260 := n0_
                      have BK256 := n1_
                      have HB := n2_
                      clear n0_ n1_ n2_
                      (try clear hb)
                      (try clear hb2)
                      (try clear hk)
                      (try clear hi)
                      refine hK.out _ _ ⟨(blk_cell BK256.out 0).trans rfl, (blk_cell BK256.out 1).trans rfl, (blk_cell BK256.out 2).trans rfl, (blk_cell BK256.out 3).trans rfl⟩ (fun hHeld => ?_)
                      clear hK K
                      refine norm_ (a' := ?_) ?_ ?_
                      rotate_left
                      · show Act.put _ (some 29) _ = _
                        simp only [Act.put, List.setIfInBounds_toArray, List.set_cons_zero, List.set_cons_succ, i64_w, i32_w]
                        rfl
                      refine pure_ (i := 10) (N := some 30) (v := ?_) (a' := ?_) #[true, true, true, true, true, true, true, true, true, true, true, false] rfl rfl (any_of HT_.out (by kernel_rfl)) (fun _ _ _ h => h) (Or.inl ⟨by rfl, ?_⟩) ?_ ?_
                      rotate_left
                      · intro w'
                        go_simp
                        with_reducible rfl
                      rotate_left
                      · simp only [Act.put, List.setIfInBounds_toArray, List.set_cons_zero, List.set_cons_succ, i64_w, i32_w]
                        rfl
                      refine pure_ (i := 11) (N := some 3) (v := ?_) (a' := ?_) #[true, true, true, true, true, true, true, true, true, true, true, true] rfl rfl (any_of HT_.out (by kernel_rfl)) (fun _ _ _ h => h) (Or.inl ⟨by rfl, ?_⟩) ?_ ?_
                      rotate_left
                      · intro w'
                        go_simp
                        with_reducible rfl
                      rotate_left
                      · simp only [Act.put, List.setIfInBounds_toArray, List.set_cons_zero, List.set_cons_succ, i64_w, i32_w]
                        rfl
                      refine done_ (done_of HT_.out (by kernel_rfl)) ?_
                      try go_wp2
                      go_ret
                      exact ⟨by first | rfl | (simp [errW_none, errW_some] <;> rfl) | (simp only [← hji4]; first | rfl | (simp [errW_none, errW_some] <;> rfl)) | (simp [*, errW_none, errW_some] <;> rfl), by repeat (first | (with_reducible first | exact HB.out | apply below_alloc | apply pw_below_drewN | apply below_drew1 | refine below_set ?_ GE256.out) | exact HB.out)⟩
                    · rw [if_neg c17] at H
                      exact absurd H (by simp)
                  · rw [if_neg c15] at H
                    exact absurd H (by simp)
                · rw [if_neg c14] at H
                  exact absurd H (by simp)
              · rw [if_neg c12] at H
                exact absurd H (by simp)
            · replace c11 := Bool.eq_false_iff.mpr c11
              subst c11
              have H1 : (some (((rdOf ByteArray.empty y258 (ji4)) ++ (⟨#[32]⟩ : ByteArray)) ++ t262)) = some r := by rw [if_neg (show ¬ (false = true) by decide)] at H; exact H
              clear H
              have H := H1
              clear H1
              obtain rfl := Option.some.inj H
              go_enter Try.func49, Try.ntmps49
              try go_wp2_with (first | ((with_reducible refine gate_dst (N := 1) rfl ?_); refine box_event ?hg (N := 1) ?hd (cs := #[.int .i64 a0_0, .int .i64 a0_1, .int .i64 a0_2, .int .i64 a0_3]) (t := 70) ?hr ?_; (case hd => rfl); (case hg => rfl); (case hr => first | (go_simp; done) | (go_simp; rfl)); intro gb256 hg w33 hbox hb; have n0_ := Aside0.mk (below_step (by repeat (first | (with_reducible first | exact HB.out | apply below_alloc | apply pw_below_drewN | apply below_drew1) | exact HB.out)) hb); have n1_ := Aside0.mk (hbox); have n2_ := Aside0.mk ((by rw [hg]; exact (below_size (by repeat (first | (with_reducible first | exact HB.out | apply below_alloc | apply pw_below_drewN | apply below_drew1) | exact HB.out))) : w.heap.size ≤ gb256)); have n3_ := Aside0.mk ((by rw [hg]; exact (below_size (by repeat (first | (with_reducible first | exact HB.out | apply below_alloc | apply pw_below_drewN | apply below_drew1) | exact HB.out))) : w.heap.size ≤ gb256)); clear HB; have HB := n0_; have BK256 := n1_; have GW256 := n2_; have GE256 := n3_; clear n0_ n1_ n2_ n3_; clear hb hbox hg; have hcz34_0 : w33.cell? ⟨gb256, 0, none⟩ = some (.int .i64 a0_0) := (blk_cell BK256.out 0).trans rfl; have hcz34_1 : w33.cell? ⟨gb256, 1, none⟩ = some (.int .i64 a0_1) := (blk_cell BK256.out 1).trans rfl; have hcz34_2 : w33.cell? ⟨gb256, 2, none⟩ = some (.int .i64 a0_2) := (blk_cell BK256.out 2).trans rfl; have hcz34_3 : w33.cell? ⟨gb256, 3, none⟩ = some (.int .i64 a0_3) := (blk_cell BK256.out 3).trans rfl; have hfz34_0 := blk_frozen BK256.out 0; have hfz34_1 := blk_frozen BK256.out 1; have hfz34_2 := blk_frozen BK256.out 2; have hfz34_3 := blk_frozen BK256.out 3) | ((with_reducible refine gate_callee (f := 93) rfl ?_); refine goesL_ (some 5) rfl rfl Try.func93 (by kernel_rfl) rfl #[.agg #[.int .i64 a0_0, .int .i64 a0_1, .int .i64 a0_2, .int .i64 a0_3]] rfl (by (try simp only [List.map_toArray, List.map_cons, List.map_nil]); first | done | rfl | (simp only [List.length_drop, List.length_take]; rfl)) ?_; (with_reducible refine (impl_InsOk.calls k a0_0 a0_1 a0_2 a0_3 true _ A2.out).mono ?_); rintro e w35 ⟨rfl, hb⟩; refine ⟨_, rfl, ?_⟩; have n0_ := Aside0.mk (blk_below (g := gb256) (o := .cells #[.int .i64 a0_0, .int .i64 a0_1, .int .i64 a0_2, .int .i64 a0_3] 70 (0, 0)) (by (with_reducible repeat (first | refine blk_drewN ?_ _ | refine blk_drew ?_ | refine blk_alloc ?_ _)); exact BK256.out) hb); have n1_ := Aside0.mk (below_step (by repeat (first | (with_reducible first | exact HB.out | apply below_alloc | apply pw_below_drewN | apply below_drew1 | refine below_set ?_ GE256.out) | exact HB.out)) hb); clear BK256; clear HB; have BK256 := n0_; have HB := n1_; clear n0_ n1_; (try clear hb); (try clear hb2); (try clear hk); (try clear hi)))
              have pi261 : (0 ≤ ((ji4) : Int)) = True := eq_true (of_decide_eq_true (by first | (with_reducible assumption) | assumption))
              have qi261 : ((ji4) < (y258.length : Int)) = True := eq_true (of_decide_eq_true (by first | (with_reducible assumption) | assumption))
              have n0_ := Aside0.mk (blk_drew BK256.out)
              have n1_ := Aside0.mk (below_drew1 HB.out)
              clear BK256
              clear HB
              have BK256 := n0_
              have HB := n1_
              clear n0_ n1_
              refine start_ (n := 12) (S := fun w' => True) (ds := []) #[false, false, false, false, false, false, false, false, false, false, false, false] (by kernel_rfl) rfl rfl trivial (fun hHeld => ?_); refine with_tabW impl_ShowIns.tab3 impl_ShowIns.bits3 (fun HT_ HW_ => ?_)
              generalize w35.drew = w36 at BK256 HB hHeld ⊢
              refine pure_ (i := 1) (N := some 8) (v := ?_) (a' := ?_) #[false, true, false, false, false, false, false, false, false, false, false, false] rfl rfl (any_of HT_.out (by kernel_rfl)) (fun _ _ _ h => h) (Or.inl ⟨by rfl, ?_⟩) ?_ ?_
              rotate_left
              · intro w'
                go_simp
                with_reducible rfl
              rotate_left
              · simp only [Act.put, List.setIfInBounds_toArray, List.set_cons_zero, List.set_cons_succ, i64_w, i32_w]
                rfl
              refine pure_ (i := 7) (N := some 14) (v := ?_) (a' := ?_) #[false, true, false, false, false, false, false, true, false, false, false, false] rfl rfl (any_of HT_.out (by kernel_rfl)) (fun _ _ _ h => h) (Or.inl ⟨by rfl, ?_⟩) ?_ ?_
              rotate_left
              · intro w'
                go_simp
                with_reducible rfl
              rotate_left
              · simp only [Act.put, List.setIfInBounds_toArray, List.set_cons_zero, List.set_cons_succ, i64_w, i32_w]
                rfl
              refine inv_at [0, 2, 3, 4, 5, 6, 8, 9, 10, 11] (fun a0_ b a w' => ∃ (v259 : Value) (adz_v259 : Addr) (m4_ : Value), a = putSel a0_ b [(0, 7, v259), (2, 9, .int .i64 a0_0), (3, 10, .int .i64 ji4), (4, 11, m4_), (5, 12, .string (rdOf ByteArray.empty y258 (ji4))), (6, 13, .string ((rdOf ByteArray.empty y258 (ji4)) ++ (⟨#[32]⟩ : ByteArray))), (8, 15, .int .i64 a0_1), (9, 16, .string t262), (10, 17, .string (((rdOf ByteArray.empty y258 (ji4)) ++ (⟨#[32]⟩ : ByteArray)) ++ t262)), (11, 3, .string (((rdOf ByteArray.empty y258 (ji4)) ++ (⟨#[32]⟩ : ByteArray)) ++ t262))] ∧ (w'.heap[gb256]? = some (.cells #[.int .i64 a0_0, .int .i64 a0_1, .int .i64 a0_2, .int .i64 a0_3] 70 (0, 0))) ∧ (Below w.heap.size w w') ∧ (b 0 = true → Kd.R Kd.string 9 w' w.heap.size (fun _ => True) v259 y258) ∧ (b 0 = true → ∃ c_, (v259 : Value) = .slice (some adz_v259) y258.length c_) ∧ (b 4 = true → (m4_ : Value) = .pointer (some (adz_v259.add ((ji4)).toNat)))) HT_.out HW_.out (by kernel_rfl) (by kernel_rfl) ?_ ?_ ?_
              · exact ⟨.bool false, ⟨0, 0, none⟩, .bool false, by simp only [putSel, Bool.false_eq_true, if_false], BK256.out, HB.out, fun h_ => absurd h_ (by decide), fun h_ => absurd h_ (by decide), fun h_ => absurd h_ (by decide)⟩
              · skip
                clear BK256 HB
                refine steps_cons ?_ ?_
                · rintro b a w' ⟨v259, adz_v259, m4_, ha, Q_BK256, Q_HB, Q_HO260, Q_HA_HO260, Q_X4_⟩ hb_ hon hoff
                  refine ⟨_, rfl, fun K hK => ?_⟩
                  replace ha := Aside0.mk ha
                  have BK256 := Aside0.mk Q_BK256
                  have HB := Aside0.mk Q_HB
                  refine Kd.R_lit_step Kd.string _ 9 ?hg (N := 7) ?hd (xs := ([(⟨#[108, 111, 97, 100]⟩ : ByteArray), (⟨#[97, 110, 100]⟩ : ByteArray), (⟨#[101, 113]⟩ : ByteArray), (⟨#[109, 111, 114, 101]⟩ : ByteArray), (⟨#[108, 101, 97, 115, 116]⟩ : ByteArray), (⟨#[115, 101, 116]⟩ : ByteArray), (⟨#[106, 117, 109, 112]⟩ : ByteArray), (⟨#[114, 101, 116]⟩ : ByteArray)] : List ByteArray)) (inner := [.string (⟨#[108, 111, 97, 100]⟩ : ByteArray), .string (⟨#[97, 110, 100]⟩ : ByteArray), .string (⟨#[101, 113]⟩ : ByteArray), .string (⟨#[109, 111, 114, 101]⟩ : ByteArray), .string (⟨#[108, 101, 97, 115, 116]⟩ : ByteArray), .string (⟨#[115, 101, 116]⟩ : ByteArray), .string (⟨#[106, 117, 109, 112]⟩ : ByteArray), .string (⟨#[114, 101, 116]⟩ : ByteArray)]) (ok := fun _ => True) (okp := fun _ => True) ?hr ?hp (fun _ hk => hk) trivial (Below.refl _ _) (Nat.le_refl _) (by simp) ?_; (case hd => rfl); (case hg => rfl); (case hr => first | (go_simp; done) | (go_simp; rfl)); (case hp => exact (Reps.one (show Kd.M Kd.string _ _ _ (⟨#[108, 111, 97, 100]⟩ : ByteArray) [.string (⟨#[108, 111, 97, 100]⟩ : ByteArray)] from rfl) (Reps.one (show Kd.M Kd.string _ _ _ (⟨#[97, 110, 100]⟩ : ByteArray) [.string (⟨#[97, 110, 100]⟩ : ByteArray)] from rfl) (Reps.one (show Kd.M Kd.string _ _ _ (⟨#[101, 113]⟩ : ByteArray) [.string (⟨#[101, 113]⟩ : ByteArray)] from rfl) (Reps.one (show Kd.M Kd.string _ _ _ (⟨#[109, 111, 114, 101]⟩ : ByteArray) [.string (⟨#[109, 111, 114, 101]⟩ : ByteArray)] from rfl) (Reps.one (show Kd.M Kd.string _ _ _ (⟨#[108, 101, 97, 115, 116]⟩ : ByteArray) [.string (⟨#[108, 101, 97, 115, 116]⟩ : ByteArray)] from rfl) (Reps.one (show Kd.M Kd.string _ _ _ (⟨#[115, 101, 116]⟩ : ByteArray) [.string (⟨#[115, 101, 116]⟩ : ByteArray)] from rfl) (Reps.one (show Kd.M Kd.string _ _ _ (⟨#[106, 117, 109, 112]⟩ : ByteArray) [.string (⟨#[106, 117, 109, 112]⟩ : ByteArray)] from rfl) (Reps.one (show Kd.M Kd.string _ _ _ (⟨#[114, 101, 116]⟩ : ByteArray) [.string (⟨#[114, 101, 116]⟩ : ByteArray)] from rfl) (Reps.none _ _))))))))))
                  intro v259 w37 ho38 hb hg_ hnew_
                  clear hg_ hnew_
                  (first | rw [← Ny258.out] at ho38 | (simp only [Int.reduceToNat] at ho38; rw [← Ny258.out] at ho38))
                  have n0_ := Aside0.mk (Kd.R_lower ho38 (below_size (by repeat (first | (with_reducible first | exact HB.out | apply below_alloc | apply pw_below_drewN | apply below_drew1 | refine below_set ?_ GE256.out) | exact HB.out))))
                  have n1_ := Aside0.mk (blk_below (g := gb256) (o := .cells #[.int .i64 a0_0, .int .i64 a0_1, .int .i64 a0_2, .int .i64 a0_3] 70 (0, 0)) (by (with_reducible repeat (first | refine blk_drewN ?_ _ | refine blk_drew ?_ | refine blk_alloc ?_ _)); exact BK256.out) hb)
                  have n2_ := Aside0.mk (below_step (by repeat (first | (with_reducible first | exact HB.out | apply below_alloc | apply pw_below_drewN | apply below_drew1 | refine below_set ?_ GE256.out) | exact HB.out)) hb)
                  clear BK256
                  clear HB
                  have HO260 := n0_
                  have BK256 := n1_
                  have HB := n2_
                  clear n0_ n1_ n2_
                  clear hb ho38
                  obtain ⟨Ao39, co39, eo39⟩ := Kd.R_slice HO260.out
                  subst eo39
                  obtain ⟨ado39, fo39, _⟩ := Kd.at_string (Kd.R_reads' HO260.out).2.2 0 (by decide) (by rw [Ny258.out]; simp)
                  cases fo39
                  refine hK.out _ _ ⟨.slice (some ado39) y258.length co39, ado39, m4_, (by rw [ha.out]; exact putSel_upk 0 hb_ rfl rfl rfl), (by (with_reducible repeat (first | refine blk_drewN ?_ _ | refine blk_drew ?_ | refine blk_alloc ?_ _)); exact BK256.out), (by repeat (first | (with_reducible first | exact HB.out | apply below_alloc | apply pw_below_drewN | apply below_drew1 | refine below_set ?_ GE256.out) | exact HB.out)), fun _ => (by (with_reducible repeat (first | apply Kd.R_alloc | apply Kd.R_drewN | apply Kd.R_drew)); exact HO260.out), fun _ => ⟨_, rfl⟩, fun h0_ => absurd ((hoff 4 (by kernel_rfl)).symm.trans h0_) (by decide)⟩
                refine steps_cons ?_ ?_
                · rintro b a w' ⟨v259, adz_v259, m4_, ha, Q_BK256, Q_HB, Q_HO260, Q_HA_HO260, Q_X4_⟩ hb_ hon hoff
                  refine ⟨_, rfl, fun K hK => ?_⟩
                  have e8 : a.tmps[8]? = some (.pointer (some ⟨gb256, 0, none⟩)) := by rw [ha]; exact (putSel_off rfl).trans rfl
                  replace ha := Aside0.mk ha
                  have BK256 := Aside0.mk Q_BK256
                  have HB := Aside0.mk Q_HB
                  have hc0_ : w'.cell? ⟨gb256, 0, none⟩ = some (.int .i64 a0_0) := (blk_cell BK256.out 0).trans rfl
                  have hc1_ : w'.cell? ⟨gb256, 1, none⟩ = some (.int .i64 a0_1) := (blk_cell BK256.out 1).trans rfl
                  have hc2_ : w'.cell? ⟨gb256, 2, none⟩ = some (.int .i64 a0_2) := (blk_cell BK256.out 2).trans rfl
                  have hc3_ : w'.cell? ⟨gb256, 3, none⟩ = some (.int .i64 a0_3) := (blk_cell BK256.out 3).trans rfl
                  refine value_ (w1 := w') (v := .int .i64 a0_0) (by rfl) rfl ?_ ?_
                  · go_simp
                    (try simp only [i64_w])
                    try rfl
                  refine hK.out _ _ ⟨v259, adz_v259, m4_, (by rw [ha.out]; exact putSel_upk 1 hb_ rfl rfl rfl), Q_BK256, Q_HB, Q_HO260, Q_HA_HO260, fun h0_ => absurd ((hoff 4 (by kernel_rfl)).symm.trans h0_) (by decide)⟩
                refine steps_cons ?_ ?_
                · rintro b a w' ⟨v259, adz_v259, m4_, ha, Q_BK256, Q_HB, Q_HO260, Q_HA_HO260, Q_X4_⟩ hb_ hon hoff
                  refine ⟨_, rfl, fun K hK => ?_⟩
                  have e9 : a.tmps[9]? = some (.int .i64 a0_0) := by rw [ha]; exact putSel_on (e := (2, 9, .int .i64 a0_0)) 1 rfl rfl (hon 2 (by kernel_rfl)) rfl
                  replace ha := Aside0.mk ha
                  have BK256 := Aside0.mk Q_BK256
                  have HB := Aside0.mk Q_HB
                  refine value_ (w1 := w') (v := .int .i64 ji4) (by rfl) rfl ?_ ?_
                  · go_simp
                    (try simp only [i64_w])
                    try rfl
                  refine hK.out _ _ ⟨v259, adz_v259, m4_, (by rw [ha.out]; exact putSel_upk 2 hb_ rfl rfl rfl), Q_BK256, Q_HB, Q_HO260, Q_HA_HO260, fun h0_ => absurd ((hoff 4 (by kernel_rfl)).symm.trans h0_) (by decide)⟩
                refine steps_cons ?_ ?_
                · rintro b a w' ⟨v259, adz_v259, m4_, ha, Q_BK256, Q_HB, Q_HO260, Q_HA_HO260, Q_X4_⟩ hb_ hon hoff
                  refine ⟨_, rfl, fun K hK => ?_⟩
                  have e7 : a.tmps[7]? = some (v259) := by rw [ha]; exact putSel_on (e := (0, 7, v259)) 0 rfl rfl (hon 0 (by kernel_rfl)) rfl
                  have e10 : a.tmps[10]? = some (.int .i64 ji4) := by rw [ha]; exact putSel_on (e := (3, 10, .int .i64 ji4)) 2 rfl rfl (hon 3 (by kernel_rfl)) rfl
                  replace ha := Aside0.mk ha
                  have BK256 := Aside0.mk Q_BK256
                  have HB := Aside0.mk Q_HB
                  have HO260 := Aside0.mk (Q_HO260 (hon 0 (by kernel_rfl)))
                  have HA_HO260 := Aside0.mk (Q_HA_HO260 (hon 0 (by kernel_rfl)))
                  obtain ⟨c_, hv_⟩ := HA_HO260.out
                  rw [hv_] at e7
                  refine value_ (w1 := w') (v := .pointer (some (adz_v259.add ((ji4)).toNat))) (by rfl) rfl ?_ ?_
                  · go_simp
                    (try simp only [i64_w])
                    try rfl
                  refine hK.out _ _ ⟨v259, adz_v259, (.pointer (some (adz_v259.add ((ji4)).toNat))), (by rw [ha.out]; exact putSel_upk 3 hb_ rfl rfl rfl), Q_BK256, Q_HB, Q_HO260, Q_HA_HO260, fun _ => rfl⟩
                refine steps_cons ?_ ?_
                · rintro b a w' ⟨v259, adz_v259, m4_, ha, Q_BK256, Q_HB, Q_HO260, Q_HA_HO260, Q_X4_⟩ hb_ hon hoff
                  refine ⟨_, rfl, fun K hK => ?_⟩
                  have e11 : a.tmps[11]? = some (m4_) := by rw [ha]; exact putSel_on (e := (4, 11, m4_)) 3 rfl rfl (hon 4 (by kernel_rfl)) rfl
                  rw [Q_X4_ (hon 4 (by kernel_rfl))] at e11
                  replace ha := Aside0.mk ha
                  have BK256 := Aside0.mk Q_BK256
                  have HB := Aside0.mk Q_HB
                  have HO260 := Aside0.mk (Q_HO260 (hon 0 (by kernel_rfl)))
                  have HA_HO260 := Aside0.mk (Q_HA_HO260 (hon 0 (by kernel_rfl)))
                  obtain ⟨c_, hv_⟩ := HA_HO260.out
                  have hF_ := HO260.out
                  rw [hv_] at hF_
                  obtain ⟨ad_, ea_, hx_⟩ := Kd.at_string (Kd.R_reads' hF_).2.2 (ji4) (of_eq_true pi261) (of_eq_true qi261)
                  cases ea_
                  refine value_ (w1 := w') (v := .string (rdOf ByteArray.empty y258 (ji4))) (by rfl) rfl ?_ ?_
                  · go_simp
                    (try simp only [i64_w])
                    try rfl
                  refine hK.out _ _ ⟨v259, adz_v259, m4_, (by rw [ha.out]; exact putSel_upk 4 hb_ rfl rfl rfl), Q_BK256, Q_HB, Q_HO260, Q_HA_HO260, Q_X4_⟩
                refine steps_cons ?_ ?_
                · rintro b a w' ⟨v259, adz_v259, m4_, ha, Q_BK256, Q_HB, Q_HO260, Q_HA_HO260, Q_X4_⟩ hb_ hon hoff
                  refine ⟨_, rfl, fun K hK => ?_⟩
                  have e12 : a.tmps[12]? = some (.string (rdOf ByteArray.empty y258 (ji4))) := by rw [ha]; exact putSel_on (e := (5, 12, .string (rdOf ByteArray.empty y258 (ji4)))) 4 rfl rfl (hon 5 (by kernel_rfl)) rfl
                  replace ha := Aside0.mk ha
                  have BK256 := Aside0.mk Q_BK256
                  have HB := Aside0.mk Q_HB
                  have HO260 := Aside0.mk (Q_HO260 (hon 0 (by kernel_rfl)))
                  have HA_HO260 := Aside0.mk (Q_HA_HO260 (hon 0 (by kernel_rfl)))
                  refine value_ (w1 := w') (v := .string ((rdOf ByteArray.empty y258 (ji4)) ++ (⟨#[32]⟩ : ByteArray))) (by rfl) rfl ?_ ?_
                  · go_simp
                    (try simp only [i64_w])
                    try rfl
                  refine hK.out _ _ ⟨v259, adz_v259, m4_, (by rw [ha.out]; exact putSel_upk 5 hb_ rfl rfl rfl), Q_BK256, Q_HB, Q_HO260, Q_HA_HO260, Q_X4_⟩
                refine steps_cons ?_ ?_
                · rintro b a w' ⟨v259, adz_v259, m4_, ha, Q_BK256, Q_HB, Q_HO260, Q_HA_HO260, Q_X4_⟩ hb_ hon hoff
                  refine ⟨_, rfl, fun K hK => ?_⟩
                  have e14 : a.tmps[14]? = some (.pointer (some ⟨gb256, 1, none⟩)) := by rw [ha]; exact (putSel_off rfl).trans rfl
                  replace ha := Aside0.mk ha
                  have BK256 := Aside0.mk Q_BK256
                  have HB := Aside0.mk Q_HB
                  have hc0_ : w'.cell? ⟨gb256, 0, none⟩ = some (.int .i64 a0_0) := (blk_cell BK256.out 0).trans rfl
                  have hc1_ : w'.cell? ⟨gb256, 1, none⟩ = some (.int .i64 a0_1) := (blk_cell BK256.out 1).trans rfl
                  have hc2_ : w'.cell? ⟨gb256, 2, none⟩ = some (.int .i64 a0_2) := (blk_cell BK256.out 2).trans rfl
                  have hc3_ : w'.cell? ⟨gb256, 3, none⟩ = some (.int .i64 a0_3) := (blk_cell BK256.out 3).trans rfl
                  refine value_ (w1 := w') (v := .int .i64 a0_1) (by rfl) rfl ?_ ?_
                  · go_simp
                    (try simp only [i64_w])
                    try rfl
                  refine hK.out _ _ ⟨v259, adz_v259, m4_, (by rw [ha.out]; exact putSel_upk 6 hb_ rfl rfl rfl), Q_BK256, Q_HB, Q_HO260, Q_HA_HO260, Q_X4_⟩
                refine steps_cons ?_ ?_
                · rintro b a w' ⟨v259, adz_v259, m4_, ha, Q_BK256, Q_HB, Q_HO260, Q_HA_HO260, Q_X4_⟩ hb_ hon hoff
                  refine ⟨_, rfl, fun K hK => ?_⟩
                  have e15 : a.tmps[15]? = some (.int .i64 a0_1) := by rw [ha]; exact putSel_on (e := (8, 15, .int .i64 a0_1)) 6 rfl rfl (hon 8 (by kernel_rfl)) rfl
                  replace ha := Aside0.mk ha
                  have BK256 := Aside0.mk Q_BK256
                  have HB := Aside0.mk Q_HB
                  refine goes_ Try.func44 (by kernel_rfl) rfl #[.int .i64 a0_1] (by rfl) rfl rfl (by first | (simp only [List.map_toArray, List.map_cons, List.map_nil, Act.eval, Array.getD_eq_getD_getElem?, Option.getD_some, e15]; done) | (simp only [List.map_toArray, List.map_cons, List.map_nil, Act.eval, Array.getD_eq_getD_getElem?, Option.getD_some, e15]; rfl)) ?_
                  with_reducible refine (impl_Decimal.calls k a0_1 t262 _ A8.out).mono ?_
                  rintro e w37 ⟨rfl, hb⟩
                  refine ⟨_, rfl, ?_⟩
                  have n0_ := Aside0.mk (blk_below (g := gb256) (o := .cells #[.int .i64 a0_0, .int .i64 a0_1, .int .i64 a0_2, .int .i64 a0_3] 70 (0, 0)) (by (with_reducible repeat (first | refine blk_drewN ?_ _ | refine blk_drew ?_ | refine blk_alloc ?_ _)); exact BK256.out) hb)
                  have n1_ := Aside0.mk (below_step (by repeat (first | (with_reducible first | exact HB.out | apply below_alloc | apply pw_below_drewN | apply below_drew1 | refine below_set ?_ GE256.out) | exact HB.out)) hb)
                  have z_HO260 := fun (h0_ : b 0 = true) => (show Kd.R Kd.string 9 w37 w.heap.size (fun _ => True) v259 y258 from by first | exact (Kd.R_below (by (with_reducible repeat (first | apply Kd.R_alloc | apply Kd.R_drewN | apply Kd.R_drew)); exact (Q_HO260 h0_)) hb) | exact Kd.R_mono (Kd.R_below (by (with_reducible repeat (first | apply Kd.R_alloc | apply Kd.R_drewN | apply Kd.R_drew)); exact (Q_HO260 h0_)) hb) (fun _ h_ => by first | trivial | exact h_ | exact h_.1))
                  clear BK256
                  clear HB
                  have BK256 := n0_
                  have HB := n1_
                  clear n0_ n1_
                  (try clear hb)
                  (try clear hb2)
                  (try clear hk)
                  (try clear hi)
                  refine hK.out _ _ ⟨v259, adz_v259, m4_, (by rw [ha.out]; exact putSel_upk 7 hb_ rfl rfl rfl), (by (with_reducible repeat (first | refine blk_drewN ?_ _ | refine blk_drew ?_ | refine blk_alloc ?_ _)); exact BK256.out), (by repeat (first | (with_reducible first | exact HB.out | apply below_alloc | apply pw_below_drewN | apply below_drew1 | refine below_set ?_ GE256.out) | exact HB.out)), z_HO260, Q_HA_HO260, Q_X4_⟩
                refine steps_cons ?_ ?_
                · rintro b a w' ⟨v259, adz_v259, m4_, ha, Q_BK256, Q_HB, Q_HO260, Q_HA_HO260, Q_X4_⟩ hb_ hon hoff
                  refine ⟨_, rfl, fun K hK => ?_⟩
                  have e13 : a.tmps[13]? = some (.string ((rdOf ByteArray.empty y258 (ji4)) ++ (⟨#[32]⟩ : ByteArray))) := by rw [ha]; exact putSel_on (e := (6, 13, .string ((rdOf ByteArray.empty y258 (ji4)) ++ (⟨#[32]⟩ : ByteArray)))) 5 rfl rfl (hon 6 (by kernel_rfl)) rfl
                  have e16 : a.tmps[16]? = some (.string t262) := by rw [ha]; exact putSel_on (e := (9, 16, .string t262)) 7 rfl rfl (hon 9 (by kernel_rfl)) rfl
                  replace ha := Aside0.mk ha
                  have BK256 := Aside0.mk Q_BK256
                  have HB := Aside0.mk Q_HB
                  have HO260 := Aside0.mk (Q_HO260 (hon 0 (by kernel_rfl)))
                  have HA_HO260 := Aside0.mk (Q_HA_HO260 (hon 0 (by kernel_rfl)))
                  refine value_ (w1 := w') (v := .string (((rdOf ByteArray.empty y258 (ji4)) ++ (⟨#[32]⟩ : ByteArray)) ++ t262)) (by rfl) rfl ?_ ?_
                  · go_simp
                    (try simp only [i64_w])
                    try rfl
                  refine hK.out _ _ ⟨v259, adz_v259, m4_, (by rw [ha.out]; exact putSel_upk 8 hb_ rfl rfl rfl), Q_BK256, Q_HB, Q_HO260, Q_HA_HO260, Q_X4_⟩
                refine steps_cons ?_ ?_
                · rintro b a w' ⟨v259, adz_v259, m4_, ha, Q_BK256, Q_HB, Q_HO260, Q_HA_HO260, Q_X4_⟩ hb_ hon hoff
                  refine ⟨_, rfl, fun K hK => ?_⟩
                  have e17 : a.tmps[17]? = some (.string (((rdOf ByteArray.empty y258 (ji4)) ++ (⟨#[32]⟩ : ByteArray)) ++ t262)) := by rw [ha]; exact putSel_on (e := (10, 17, .string (((rdOf ByteArray.empty y258 (ji4)) ++ (⟨#[32]⟩ : ByteArray)) ++ t262))) 8 rfl rfl (hon 10 (by kernel_rfl)) rfl
                  replace ha := Aside0.mk ha
                  have BK256 := Aside0.mk Q_BK256
                  have HB := Aside0.mk Q_HB
                  have HO260 := Aside0.mk (Q_HO260 (hon 0 (by kernel_rfl)))
                  have HA_HO260 := Aside0.mk (Q_HA_HO260 (hon 0 (by kernel_rfl)))
                  refine value_ (w1 := w') (v := .string (((rdOf ByteArray.empty y258 (ji4)) ++ (⟨#[32]⟩ : ByteArray)) ++ t262)) (by rfl) rfl ?_ ?_
                  · go_simp
                    (try simp only [i64_w])
                    try rfl
                  refine hK.out _ _ ⟨v259, adz_v259, m4_, (by rw [ha.out]; exact putSel_upk 9 hb_ rfl rfl rfl), Q_BK256, Q_HB, Q_HO260, Q_HA_HO260, Q_X4_⟩
                exact steps_nil
              rintro b a w41 hall ⟨v259, adz_v259, m4_, ha, Q_BK256, Q_HB, Q_HO260, Q_HA_HO260, Q_X4_⟩
              clear BK256 HB
              have hb0_ := hall 0 (by kernel_rfl)
              have hb2_ := hall 2 (by kernel_rfl)
              have hb3_ := hall 3 (by kernel_rfl)
              have hb4_ := hall 4 (by kernel_rfl)
              have hb5_ := hall 5 (by kernel_rfl)
              have hb6_ := hall 6 (by kernel_rfl)
              have hb8_ := hall 8 (by kernel_rfl)
              have hb9_ := hall 9 (by kernel_rfl)
              have hb10_ := hall 10 (by kernel_rfl)
              have hb11_ := hall 11 (by kernel_rfl)
              subst ha
              obtain rfl := Q_X4_ hb4_
              simp only [putSel, hb0_, hb2_, hb3_, hb4_, hb5_, hb6_, hb8_, hb9_, hb10_, hb11_, if_true, Act.put, List.setIfInBounds_toArray, List.set_cons_zero, List.set_cons_succ]
              have BK256 := Aside0.mk Q_BK256
              clear Q_BK256
              have HB := Aside0.mk Q_HB
              clear Q_HB
              have HO260 := Aside0.mk (Q_HO260 hb0_)
              clear Q_HO260
              have HA_HO260 := Aside0.mk (Q_HA_HO260 hb0_)
              clear Q_HA_HO260
              clear hall hb0_ hb2_ hb3_ hb4_ hb5_ hb6_ hb8_ hb9_ hb10_ hb11_
              obtain ⟨co42, eo42⟩ := HA_HO260.out
              clear HA_HO260
              subst eo42
              have hcz43_0 : w41.cell? ⟨gb256, 0, none⟩ = some (.int .i64 a0_0) := (blk_cell BK256.out 0).trans rfl
              have hcz43_1 : w41.cell? ⟨gb256, 1, none⟩ = some (.int .i64 a0_1) := (blk_cell BK256.out 1).trans rfl
              have hcz43_2 : w41.cell? ⟨gb256, 2, none⟩ = some (.int .i64 a0_2) := (blk_cell BK256.out 2).trans rfl
              have hcz43_3 : w41.cell? ⟨gb256, 3, none⟩ = some (.int .i64 a0_3) := (blk_cell BK256.out 3).trans rfl
              have hfz43_0 := blk_frozen BK256.out 0
              have hfz43_1 := blk_frozen BK256.out 1
              have hfz43_2 := blk_frozen BK256.out 2
              have hfz43_3 := blk_frozen BK256.out 3
              try go_wp2_with (first | ((with_reducible refine gate_callee (f := 94) rfl ?_); refine goesL_ (some 19) rfl rfl Try.func94 (by kernel_rfl) rfl #[.agg #[.int .i64 a0_0, .int .i64 a0_1, .int .i64 a0_2, .int .i64 a0_3]] rfl (by (try simp only [List.map_toArray, List.map_cons, List.map_nil]); first | done | rfl | (simp only [List.length_drop, List.length_take]; rfl)) ?_; (with_reducible refine (impl_Ins_asks.calls a0_0 a0_1 a0_2 a0_3 false _ A10.out).mono ?_); rintro e w44 ⟨rfl, hb⟩; refine ⟨_, rfl, ?_⟩; have n0_ := Aside0.mk (Kd.R_below (by (with_reducible repeat (first | apply Kd.R_alloc | apply Kd.R_drewN | apply Kd.R_drew)); exact HO260.out) hb); have n1_ := Aside0.mk (blk_below (g := gb256) (o := .cells #[.int .i64 a0_0, .int .i64 a0_1, .int .i64 a0_2, .int .i64 a0_3] 70 (0, 0)) (by (with_reducible repeat (first | refine blk_drewN ?_ _ | refine blk_drew ?_ | refine blk_alloc ?_ _)); exact BK256.out) hb); have n2_ := Aside0.mk (below_step (by repeat (first | (with_reducible first | exact HB.out | apply below_alloc | apply pw_below_drewN | apply below_drew1 | refine below_set ?_ GE256.out) | exact HB.out)) hb); clear HO260; clear BK256; clear HB; have HO260 := n0_; have BK256 := n1_; have HB := n2_; clear n0_ n1_ n2_; (try clear hb); (try clear hb2); (try clear hk); (try clear hi)))
              go_ret
              exact ⟨by first | rfl | (simp [errW_none, errW_some] <;> rfl) | (simp only [← hji4]; first | rfl | (simp [errW_none, errW_some] <;> rfl)) | (simp [*, errW_none, errW_some] <;> rfl), by repeat (first | (with_reducible first | exact HB.out | apply below_alloc | apply pw_below_drewN | apply below_drew1 | refine below_set ?_ GE256.out) | exact HB.out)⟩
          · rw [if_neg c9] at H
            exact absurd H (by simp)
        · rw [if_neg c7] at H
          exact absurd H (by simp)
      · rw [if_neg c6] at H
        exact absurd H (by simp)
    · rw [if_neg c5] at H
      exact absurd H (by simp)
  · replace c3 := Bool.eq_false_iff.mpr c3
    subst c3
    have H1 : (some (⟨#[]⟩ : ByteArray)) = some r := by rw [if_neg (show ¬ (false = true) by decide)] at H; exact H
    clear H
    have H := H1
    clear H1
    obtain rfl := Option.some.inj H
    go_enter Try.func49, Try.ntmps49
    go_wp2_with (first | ((with_reducible refine gate_dst (N := 1) rfl ?_); refine box_event ?hg (N := 1) ?hd (cs := #[.int .i64 a0_0, .int .i64 a0_1, .int .i64 a0_2, .int .i64 a0_3]) (t := 70) ?hr ?_; (case hd => rfl); (case hg => rfl); (case hr => first | (go_simp; done) | (go_simp; rfl)); intro gb256 hg w45 hbox hb; have n0_ := Aside0.mk (below_step (by repeat (first | (with_reducible first | exact HB.out | apply below_alloc | apply pw_below_drewN | apply below_drew1) | exact HB.out)) hb); have n1_ := Aside0.mk (hbox); have n2_ := Aside0.mk ((by rw [hg]; exact (below_size (by repeat (first | (with_reducible first | exact HB.out | apply below_alloc | apply pw_below_drewN | apply below_drew1) | exact HB.out))) : w.heap.size ≤ gb256)); have n3_ := Aside0.mk ((by rw [hg]; exact (below_size (by repeat (first | (with_reducible first | exact HB.out | apply below_alloc | apply pw_below_drewN | apply below_drew1) | exact HB.out))) : w.heap.size ≤ gb256)); clear HB; have HB := n0_; have BK256 := n1_; have GW256 := n2_; have GE256 := n3_; clear n0_ n1_ n2_ n3_; clear hb hbox hg; have hcz46_0 : w45.cell? ⟨gb256, 0, none⟩ = some (.int .i64 a0_0) := (blk_cell BK256.out 0).trans rfl; have hcz46_1 : w45.cell? ⟨gb256, 1, none⟩ = some (.int .i64 a0_1) := (blk_cell BK256.out 1).trans rfl; have hcz46_2 : w45.cell? ⟨gb256, 2, none⟩ = some (.int .i64 a0_2) := (blk_cell BK256.out 2).trans rfl; have hcz46_3 : w45.cell? ⟨gb256, 3, none⟩ = some (.int .i64 a0_3) := (blk_cell BK256.out 3).trans rfl; have hfz46_0 := blk_frozen BK256.out 0; have hfz46_1 := blk_frozen BK256.out 1; have hfz46_2 := blk_frozen BK256.out 2; have hfz46_3 := blk_frozen BK256.out 3) | ((with_reducible refine gate_callee (f := 93) rfl ?_); refine goesL_ (some 5) rfl rfl Try.func93 (by kernel_rfl) rfl #[.agg #[.int .i64 a0_0, .int .i64 a0_1, .int .i64 a0_2, .int .i64 a0_3]] rfl (by (try simp only [List.map_toArray, List.map_cons, List.map_nil]); first | done | rfl | (simp only [List.length_drop, List.length_take]; rfl)) ?_; (with_reducible refine (impl_InsOk.calls k a0_0 a0_1 a0_2 a0_3 false _ A2.out).mono ?_); rintro e w47 ⟨rfl, hb⟩; refine ⟨_, rfl, ?_⟩; have n0_ := Aside0.mk (blk_below (g := gb256) (o := .cells #[.int .i64 a0_0, .int .i64 a0_1, .int .i64 a0_2, .int .i64 a0_3] 70 (0, 0)) (by (with_reducible repeat (first | refine blk_drewN ?_ _ | refine blk_drew ?_ | refine blk_alloc ?_ _)); exact BK256.out) hb); have n1_ := Aside0.mk (below_step (by repeat (first | (with_reducible first | exact HB.out | apply below_alloc | apply pw_below_drewN | apply below_drew1 | refine below_set ?_ GE256.out) | exact HB.out)) hb); clear BK256; clear HB; have BK256 := n0_; have HB := n1_; clear n0_ n1_; (try clear hb); (try clear hb2); (try clear hk); (try clear hi)))
    go_ret
    exact ⟨by first | rfl | (simp [errW_none, errW_some] <;> rfl) | (simp [*, errW_none, errW_some] <;> rfl), by repeat (first | (with_reducible first | exact HB.out | apply below_alloc | apply pw_below_drewN | apply below_drew1 | refine below_set ?_ GE256.out) | exact HB.out)⟩

end Go.Proofs.Ytdedmdgegcnnpaa.PA
