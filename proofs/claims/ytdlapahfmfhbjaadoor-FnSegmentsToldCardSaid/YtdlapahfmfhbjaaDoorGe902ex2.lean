/- Contracts of functions of the program and of the reference, and plain lemmas on what they compute. No condition. -/
import Derived.Test.YtdlapahfmfhbjaaDoorG523dfx0
import Derived.Test.YtdlapahfmfhbjaaDoorG523dfx2
import Derived.Test.YtdlapahfmfhbjaaDoorGe902ex1
import Derived.Test.YtdlapahfmfhbjaaDoorGe902ex0
import Derived.Test.YtdlapahfmfhbjaaDoorShortV
set_option maxHeartbeats 8000000
set_option maxRecDepth 100000
namespace Go.Proofs.YtdlapahfmfhbjaaDoor.PA
open Go.RowKit Go.Proofs.YtdlapahfmfhbjaaDoor.Short Go.Proofs.YtdlapahfmfhbjaaDoorW.PrintWords Go.Proofs.YtdlapahfmfhbjaaDoorW.PrintLast Go.Proofs.YtdlapahfmfhbjaaDoorW.PrintMore
attribute [local go_sem] max2_int min2_int max_two min_two max_three min_three max_four min_four   -- for this text's walks alone
set_option linter.unusedVariables false
set_option linter.unusedSimpArgs false

def spec_Unsealed.f (k : Nat) (a0 : ByteArray) : Option (ByteArray × Bool) := if (wrap64 ((a0.size : Int) - 4)) < 0 then (some ((⟨#[]⟩ : ByteArray), false)) else (if (wrap64 ((a0.size : Int) - 4)) > 20000 then (some ((⟨#[]⟩ : ByteArray), false)) else (if 0 ≤ (wrap64 ((a0.size : Int) - 4)) then (if (wrap64 ((a0.size : Int) - 4)) ≤ (a0.size : Int) then ((spec_SumOf.f k (a0.extract 0 ((wrap64 ((a0.size : Int) - 4)) : Int).toNat)).bind fun t769 => ((spec_l02Four.f t769).bind fun t770 => (if (a0.extract ((wrap64 ((a0.size : Int) - 4)) : Int).toNat a0.size).toList = t770.toList then (some (a0.extract 0 ((wrap64 ((a0.size : Int) - 4)) : Int).toNat, true)) else (some ((⟨#[]⟩ : ByteArray), false))))) else (none)) else (none)))
theorem spec_Unsealed.mono : ∀ a0 k, LeO (spec_Unsealed.f k a0) (spec_Unsealed.f (k + 1) a0) := by
 intro a0 k
 unfold spec_Unsealed.f
 have m0 := @spec_SumOf.mono
 exact mo_
def spec_Unsealed.T2 : Bool × List (List Nat × List Nat) := (true, [([], []), ([0], [0]), ([1], [1]), ([2], [2]), ([3, 2], [2, 3]), ([2, 4], [2, 4]), ([5, 2], [5]), ([6], [6]), ([6], [6]), ([7, 8, 6], [6, 7, 8]), ([6], [6]), ([6], [6]), ([10, 11, 6], [6, 10, 11]), ([12, 6, 6], [6, 12]), ([13, 13, 6], [6, 13]), ([9, 14, 6], [6, 9, 14]), ([6, 15], [6, 15])])
def spec_Unsealed.B2 : List Nat := [0, 1, 3, 7, 15, 31, 63, 127, 127, 511, 127, 127, 3199, 7295, 15487, 32767, 65535]
theorem spec_Unsealed.tab2 : rtab .any (opsOf Tryd.f90 2) = spec_Unsealed.T2 := by kernel_rfl
theorem spec_Unsealed.bits2 : waitsOk spec_Unsealed.T2.2 spec_Unsealed.B2 = true := by kernel_rfl
theorem spec_Unsealed.calls (k : Nat) (a0 : ByteArray) (r1 : ByteArray) (r2 : Bool) (w : World) (h : spec_Unsealed.f k a0 = some (r1, r2)) :
 Calls Tryd.prog 90 #[.string a0] w fun e w' => e = .returned (.tuple #[.string r1, .bool r2]) ∧ Below w.heap.size w w' := by
 have HB := Aside0.mk (Below.refl w.heap.size w)
 have H := h
 unfold spec_Unsealed.f at H
 clear h
 by_cases c2 : (wrap64 ((a0.size : Int) - 4)) < 0
 ·rw [if_pos c2] at H
  have c2b0 := decide_eq_true c2
  clear c2
  simp only [Option.some.injEq, Prod.mk.injEq] at H
  obtain ⟨rfl, rfl⟩ := H
  go_enter Tryd.func90, Tryd.ntmps90
  try go_wp2
  have n0_ := Aside0.mk (below_drew1 HB.out)
  clear HB
  have HB := n0_
  clear n0_
  refine start_ (n := 17) (S := fun w' => True) (ds := []) #[false, false, false, false, false, false, false, false, false, false, false, false, false, false, false, false, false] (by kernel_rfl) rfl rfl trivial (fun hHeld => ?_); refine with_tabW spec_Unsealed.tab2 spec_Unsealed.bits2 (fun HT_ HW_ => ?_)
  generalize w.drew = w3 at HB hHeld ⊢
  refine pu_ 0 8 HT_ ?_
  refine pu_ 1 9 HT_ ?_
  refine pu_ 2 10 HT_ ?_
  refine pn_ 3 11 HT_ ?_
  refine pn_ 4 12 HT_ ?_
  refine pu_ 5 13 HT_ ?_
  refine pu_ 6 14 HT_ ?_
  refine pn_ 7 15 HT_ ?_
  refine pn_ 8 16 HT_ ?_
  refine pn_ 9 17 HT_ ?_
  refine pn_ 10 18 HT_ ?_
  refine pn_ 11 19 HT_ ?_
  refine pn_ 12 20 HT_ ?_
  refine pn_ 13 21 HT_ ?_
  refine pn_ 14 22 HT_ ?_
  refine pn_ 15 23 HT_ ?_
  refine pu_ 16 24 HT_ ?_
  refine done_ (done_of HT_.out (by kernel_rfl)) ?_
  try go_wp2
  go_ret2
  exact ⟨er_, bl_⟩
 rw [if_neg c2] at H
 have c2b0 := decide_eq_false c2
 clear c2
 by_cases c4 : (wrap64 ((a0.size : Int) - 4)) > 20000
 ·rw [if_pos c4] at H
  have c4b0 := decide_eq_true c4
  clear c4
  simp only [Option.some.injEq, Prod.mk.injEq] at H
  obtain ⟨rfl, rfl⟩ := H
  go_enter Tryd.func90, Tryd.ntmps90
  try go_wp2
  have n0_ := Aside0.mk (below_drew1 HB.out)
  clear HB
  have HB := n0_
  clear n0_
  refine start_ (n := 17) (S := fun w' => True) (ds := []) #[false, false, false, false, false, false, false, false, false, false, false, false, false, false, false, false, false] (by kernel_rfl) rfl rfl trivial (fun hHeld => ?_); refine with_tabW spec_Unsealed.tab2 spec_Unsealed.bits2 (fun HT_ HW_ => ?_)
  generalize w.drew = w5 at HB hHeld ⊢
  refine pu_ 0 8 HT_ ?_
  refine pu_ 1 9 HT_ ?_
  refine pu_ 2 10 HT_ ?_
  refine pu_ 3 11 HT_ ?_
  refine pu_ 4 12 HT_ ?_
  refine pu_ 5 13 HT_ ?_
  refine pu_ 6 14 HT_ ?_
  refine pn_ 7 15 HT_ ?_
  refine pn_ 8 16 HT_ ?_
  refine pn_ 9 17 HT_ ?_
  refine pn_ 10 18 HT_ ?_
  refine pn_ 11 19 HT_ ?_
  refine pn_ 12 20 HT_ ?_
  refine pn_ 13 21 HT_ ?_
  refine pn_ 14 22 HT_ ?_
  refine pn_ 15 23 HT_ ?_
  refine pu_ 16 24 HT_ ?_
  refine done_ (done_of HT_.out (by kernel_rfl)) ?_
  try go_wp2
  go_ret2
  exact ⟨er_, bl_⟩
 rw [if_neg c4] at H
 have c4b0 := decide_eq_false c4
 clear c4
 obtain ⟨ji6, hji6⟩ : ∃ j_ : Int, (wrap64 ((a0.size : Int) - 4)) = j_ := ⟨_, rfl⟩
 replace H : (if 0 ≤ (ji6) then (if (ji6) ≤ (a0.size : Int) then ((spec_SumOf.f k (a0.extract 0 ((ji6) : Int).toNat)).bind fun t769 => ((spec_l02Four.f t769).bind fun t770 => (if (a0.extract ((ji6) : Int).toNat a0.size).toList = t770.toList then (some (a0.extract 0 ((ji6) : Int).toNat, true)) else (some ((⟨#[]⟩ : ByteArray), false))))) else (none)) else (none)) = some (r1, r2) := by first | (rw [hji6] at H; exact H) | (simp only [hji6] at H ⊢; exact H)
 (try rw [hji6] at c2b0)
 (try rw [hji6] at c4b0)
 have hji6w : (IntKind.i64.wrap ((a0.size : Int) - 4)) = ji6 := (i64_w _).trans hji6
 by_cases c7 : 0 ≤ (ji6)
 rotate_left
 ·exact nn_ c7 H
 rw [if_pos c7] at H
 have c7b0 := eq_true c7
 have c7b1 : decide (0 ≤ (ji6)) = true := decide_eq_true c7
 clear c7
 by_cases c8 : (ji6) ≤ (a0.size : Int)
 rotate_left
 ·exact nn_ c8 H
 rw [if_pos c8] at H
 have c8b0 := eq_true c8
 have c8b1 : decide ((ji6) ≤ (a0.size : Int)) = true := decide_eq_true c8
 clear c8
 have c9b0 := eq_true (of_decide_eq_true as_ : 0 ≤ (ji6))
 have c10b0 := eq_true (of_decide_eq_true as_ : (ji6) ≤ (a0.size : Int))
 replace H := bs_ H
 obtain ⟨t769, A11, H⟩ := H
 try dsimp only at H
 replace H := bs_ H
 obtain ⟨t770, A12, H⟩ := H
 try dsimp only at H
 by_cases c13 : (a0.extract ((ji6) : Int).toNat a0.size).toList = t770.toList
 rotate_left
 ·rw [if_neg c13] at H
  have c13b0 : ((a0.extract ((ji6) : Int).toNat a0.size).toList == t770.toList) = false := beq_eq_false_iff_ne.mpr c13
  have c13b1 : ((a0.extract ((ji6) : Int).toNat a0.size).toList != t770.toList) = true := bne_iff_ne.mpr c13
  simp only [Option.some.injEq, Prod.mk.injEq] at H
  obtain ⟨rfl, rfl⟩ := H
  go_enter Tryd.func90, Tryd.ntmps90
  try go_wp2
  have n0_ := Aside0.mk (below_drew1 HB.out)
  clear HB
  have HB := n0_
  clear n0_
  refine start_ (n := 17) (S := fun w' => True) (ds := []) #[false, false, false, false, false, false, false, false, false, false, false, false, false, false, false, false, false] (by kernel_rfl) rfl rfl trivial (fun hHeld => ?_); refine with_tabW spec_Unsealed.tab2 spec_Unsealed.bits2 (fun HT_ HW_ => ?_)
  generalize w.drew = w18 at HB hHeld ⊢
  refine pu_ 0 8 HT_ ?_
  refine pu_ 1 9 HT_ ?_
  refine pu_ 2 10 HT_ ?_
  refine pu_ 3 11 HT_ ?_
  refine pu_ 4 12 HT_ ?_
  refine pu_ 5 13 HT_ ?_
  refine pu_ 6 14 HT_ ?_
  refine pu_ 7 15 HT_ ?_
  refine pu_ 8 16 HT_ ?_
  refine pu_ 9 17 HT_ ?_
  refine pu_ 10 18 HT_ ?_
  refine pu_ 11 19 HT_ ?_
  refine pu_ 12 20 HT_ ?_
  refine on_ 13 21 HT_ (fun K hK => ?_)
  refine goes_ Tryd.func112 (by kernel_rfl) rfl #[.string (a0.extract 0 ((ji6) : Int).toNat)] (by rfl) rfl rfl (by (try simp only [List.map_toArray, List.map_cons, List.map_nil]); first | done | (simp only [hji6]; rfl) | rfl | (simp only [List.length_drop, List.length_take]; rfl)) ?_
  with_reducible refine (spec_SumOf.calls k (a0.extract 0 ((ji6) : Int).toNat) t769 _ A11.out).mono ?_
  rintro e w' ⟨rfl, ⟨nd, rfl⟩⟩
  refine ⟨_, rfl, ?_⟩
  refine hK.out _ _ trivial (fun hHeld => ?_)
  clear hK K
  refine norm_ (a' := ?_) ?_ ?_
  rotate_left
  ·show Act.put _ (some 21) _ = _
   simp only [Act.put, List.setIfInBounds_toArray, List.set_cons_zero, List.set_cons_succ, i64_w, i32_w]
   rfl
  refine on_ 14 22 HT_ (fun K hK => ?_)
  refine goes_ Tryd.func111 (by kernel_rfl) rfl #[.int .u32 t769] (by rfl) rfl rfl lm_ ?_
  with_reducible refine (spec_l02Four.calls t769 t770 _ A12.out).mono ?_
  rintro e w19 ⟨rfl, hb⟩
  refine ⟨_, rfl, ?_⟩
  have n0_ := Aside0.mk (below_step bl_ hb)
  clear HB
  have HB := n0_
  clear n0_
  (try clear hb)
  (try clear hb2)
  (try clear hk)
  (try clear hi)
  refine hK.out _ _ trivial (fun hHeld => ?_)
  clear hK K
  refine norm_ (a' := ?_) ?_ ?_
  rotate_left
  ·show Act.put _ (some 22) _ = _
   simp only [Act.put, List.setIfInBounds_toArray, List.set_cons_zero, List.set_cons_succ, i64_w, i32_w]
   rfl
  refine pu_ 15 23 HT_ ?_
  refine pu_ 16 24 HT_ ?_
  refine done_ (done_of HT_.out (by kernel_rfl)) ?_
  try go_wp2
  go_ret2
  exact ⟨by first | rfl | (simp [errW_none, errW_some] <;> rfl) | (simp only [← hji6]; first | rfl | (simp [errW_none, errW_some] <;> rfl)) | (simp [*, errW_none, errW_some] <;> rfl) | exact False.elim (Bool.noConfusion ((decide_eq_true (of_eq_true (by assumption))).symm.trans (by assumption))), bl_⟩
 rw [if_pos c13] at H
 have c13b0 : ((a0.extract ((ji6) : Int).toNat a0.size).toList == t770.toList) = true := beq_iff_eq.mpr c13
 have c13b1 : ((a0.extract ((ji6) : Int).toNat a0.size).toList != t770.toList) = false := bne_eq_false_iff_eq.mpr c13
 clear c13
 have c14b0 := eq_true (of_decide_eq_true as_ : 0 ≤ (ji6))
 have c15b0 := eq_true (of_decide_eq_true as_ : (ji6) ≤ (a0.size : Int))
 simp only [Option.some.injEq, Prod.mk.injEq] at H
 obtain ⟨rfl, rfl⟩ := H
 go_enter Tryd.func90, Tryd.ntmps90
 try go_wp2
 have n0_ := Aside0.mk (below_drew1 HB.out)
 clear HB
 have HB := n0_
 clear n0_
 refine start_ (n := 17) (S := fun w' => True) (ds := []) #[false, false, false, false, false, false, false, false, false, false, false, false, false, false, false, false, false] (by kernel_rfl) rfl rfl trivial (fun hHeld => ?_); refine with_tabW spec_Unsealed.tab2 spec_Unsealed.bits2 (fun HT_ HW_ => ?_)
 generalize w.drew = w16 at HB hHeld ⊢
 refine pu_ 0 8 HT_ ?_
 refine pu_ 1 9 HT_ ?_
 refine pu_ 2 10 HT_ ?_
 refine pu_ 3 11 HT_ ?_
 refine pu_ 4 12 HT_ ?_
 refine pu_ 5 13 HT_ ?_
 refine pu_ 6 14 HT_ ?_
 refine pu_ 7 15 HT_ ?_
 refine pu_ 8 16 HT_ ?_
 refine pu_ 9 17 HT_ ?_
 refine pu_ 10 18 HT_ ?_
 refine pu_ 11 19 HT_ ?_
 refine pu_ 12 20 HT_ ?_
 refine on_ 13 21 HT_ (fun K hK => ?_)
 refine goes_ Tryd.func112 (by kernel_rfl) rfl #[.string (a0.extract 0 ((ji6) : Int).toNat)] (by rfl) rfl rfl (by (try simp only [List.map_toArray, List.map_cons, List.map_nil]); first | done | (simp only [hji6]; rfl) | rfl | (simp only [List.length_drop, List.length_take]; rfl)) ?_
 with_reducible refine (spec_SumOf.calls k (a0.extract 0 ((ji6) : Int).toNat) t769 _ A11.out).mono ?_
 rintro e w' ⟨rfl, ⟨nd, rfl⟩⟩
 refine ⟨_, rfl, ?_⟩
 refine hK.out _ _ trivial (fun hHeld => ?_)
 clear hK K
 refine norm_ (a' := ?_) ?_ ?_
 rotate_left
 ·show Act.put _ (some 21) _ = _
  simp only [Act.put, List.setIfInBounds_toArray, List.set_cons_zero, List.set_cons_succ, i64_w, i32_w]
  rfl
 refine on_ 14 22 HT_ (fun K hK => ?_)
 refine goes_ Tryd.func111 (by kernel_rfl) rfl #[.int .u32 t769] (by rfl) rfl rfl lm_ ?_
 with_reducible refine (spec_l02Four.calls t769 t770 _ A12.out).mono ?_
 rintro e w17 ⟨rfl, hb⟩
 refine ⟨_, rfl, ?_⟩
 have n0_ := Aside0.mk (below_step bl_ hb)
 clear HB
 have HB := n0_
 clear n0_
 (try clear hb)
 (try clear hb2)
 (try clear hk)
 (try clear hi)
 refine hK.out _ _ trivial (fun hHeld => ?_)
 clear hK K
 refine norm_ (a' := ?_) ?_ ?_
 rotate_left
 ·show Act.put _ (some 22) _ = _
  simp only [Act.put, List.setIfInBounds_toArray, List.set_cons_zero, List.set_cons_succ, i64_w, i32_w]
  rfl
 refine pu_ 15 23 HT_ ?_
 refine pu_ 16 24 HT_ ?_
 refine done_ (done_of HT_.out (by kernel_rfl)) ?_
 try go_wp2
 go_ret2
 exact ⟨by first | rfl | (simp [errW_none, errW_some] <;> rfl) | (simp only [← hji6]; first | rfl | (simp [errW_none, errW_some] <;> rfl)) | (simp [*, errW_none, errW_some] <;> rfl) | exact False.elim (Bool.noConfusion ((decide_eq_true (of_eq_true (by assumption))).symm.trans (by assumption))), bl_⟩


def spec_l17Four.f (a0 : ByteArray) (a1 : Int) : Option (Int) := if 0 ≤ a1 then (if a1 < (a0.size : Int) then (if 0 ≤ (wrap64 (a1 + 1)) then (if (wrap64 (a1 + 1)) < (a0.size : Int) then (if 0 ≤ (wrap64 (a1 + 2)) then (if (wrap64 (a1 + 2)) < (a0.size : Int) then (if 0 ≤ (wrap64 (a1 + 3)) then (if (wrap64 (a1 + 3)) < (a0.size : Int) then (some (Go.bits .or .i64 (Go.bits .or .i64 (Go.bits .or .i64 (wrap64 ((wrap64 (bt a0 a1)) * 16777216)) (wrap64 ((wrap64 (bt a0 (wrap64 (a1 + 1)))) * 65536))) (wrap64 ((wrap64 (bt a0 (wrap64 (a1 + 2)))) * 256))) (wrap64 (bt a0 (wrap64 (a1 + 3)))))) else (none)) else (none)) else (none)) else (none)) else (none)) else (none)) else (none)) else (none)
theorem spec_l17Four.calls (a0 : ByteArray) (a1 : Int) (r : Int) (w : World) (h : spec_l17Four.f a0 a1 = some r) :
 Calls Tryd.prog 107 #[.string a0, .int .i64 a1] w fun e w' => e = .returned (.int .i64 r) ∧ Drawn0 w w' := by
 have H := h
 unfold spec_l17Four.f at H
 clear h
 by_cases c3 : 0 ≤ a1
 rotate_left
 ·exact nn_ c3 H
 rw [if_pos c3] at H
 have c3b0 := decide_eq_true c3
 clear c3
 by_cases c4 : a1 < (a0.size : Int)
 rotate_left
 ·exact nn_ c4 H
 rw [if_pos c4] at H
 have c4b0 := decide_eq_true c4
 clear c4
 obtain ⟨ji6, hji6⟩ : ∃ j_ : Int, (wrap64 (a1 + 1)) = j_ := ⟨_, rfl⟩
 replace H : (if 0 ≤ (ji6) then (if (ji6) < (a0.size : Int) then (if 0 ≤ (wrap64 (a1 + 2)) then (if (wrap64 (a1 + 2)) < (a0.size : Int) then (if 0 ≤ (wrap64 (a1 + 3)) then (if (wrap64 (a1 + 3)) < (a0.size : Int) then (some (Go.bits .or .i64 (Go.bits .or .i64 (Go.bits .or .i64 (wrap64 ((wrap64 (bt a0 a1)) * 16777216)) (wrap64 ((wrap64 (bt a0 (ji6))) * 65536))) (wrap64 ((wrap64 (bt a0 (wrap64 (a1 + 2)))) * 256))) (wrap64 (bt a0 (wrap64 (a1 + 3)))))) else (none)) else (none)) else (none)) else (none)) else (none)) else (none)) = some r := by first | (rw [hji6] at H; exact H) | (simp only [hji6] at H ⊢; exact H)
 have hji6w : (IntKind.i64.wrap (a1 + 1)) = ji6 := (i64_w _).trans hji6
 by_cases c7 : 0 ≤ (ji6)
 rotate_left
 ·exact nn_ c7 H
 rw [if_pos c7] at H
 have c7b0 := decide_eq_true c7
 clear c7
 by_cases c8 : (ji6) < (a0.size : Int)
 rotate_left
 ·exact nn_ c8 H
 rw [if_pos c8] at H
 have c8b0 := decide_eq_true c8
 clear c8
 obtain ⟨ji10, hji10⟩ : ∃ j_ : Int, (wrap64 (a1 + 2)) = j_ := ⟨_, rfl⟩
 replace H : (if 0 ≤ (ji10) then (if (ji10) < (a0.size : Int) then (if 0 ≤ (wrap64 (a1 + 3)) then (if (wrap64 (a1 + 3)) < (a0.size : Int) then (some (Go.bits .or .i64 (Go.bits .or .i64 (Go.bits .or .i64 (wrap64 ((wrap64 (bt a0 a1)) * 16777216)) (wrap64 ((wrap64 (bt a0 (ji6))) * 65536))) (wrap64 ((wrap64 (bt a0 (ji10))) * 256))) (wrap64 (bt a0 (wrap64 (a1 + 3)))))) else (none)) else (none)) else (none)) else (none)) = some r := by first | (rw [hji10] at H; exact H) | (simp only [hji10] at H ⊢; exact H)
 have hji10w : (IntKind.i64.wrap (a1 + 2)) = ji10 := (i64_w _).trans hji10
 by_cases c11 : 0 ≤ (ji10)
 rotate_left
 ·exact nn_ c11 H
 rw [if_pos c11] at H
 have c11b0 := decide_eq_true c11
 clear c11
 by_cases c12 : (ji10) < (a0.size : Int)
 rotate_left
 ·exact nn_ c12 H
 rw [if_pos c12] at H
 have c12b0 := decide_eq_true c12
 clear c12
 obtain ⟨ji14, hji14⟩ : ∃ j_ : Int, (wrap64 (a1 + 3)) = j_ := ⟨_, rfl⟩
 replace H : (if 0 ≤ (ji14) then (if (ji14) < (a0.size : Int) then (some (Go.bits .or .i64 (Go.bits .or .i64 (Go.bits .or .i64 (wrap64 ((wrap64 (bt a0 a1)) * 16777216)) (wrap64 ((wrap64 (bt a0 (ji6))) * 65536))) (wrap64 ((wrap64 (bt a0 (ji10))) * 256))) (wrap64 (bt a0 (ji14))))) else (none)) else (none)) = some r := by first | (rw [hji14] at H; exact H) | (simp only [hji14] at H ⊢; exact H)
 have hji14w : (IntKind.i64.wrap (a1 + 3)) = ji14 := (i64_w _).trans hji14
 by_cases c15 : 0 ≤ (ji14)
 rotate_left
 ·exact nn_ c15 H
 rw [if_pos c15] at H
 have c15b0 := decide_eq_true c15
 clear c15
 by_cases c16 : (ji14) < (a0.size : Int)
 rotate_left
 ·exact nn_ c16 H
 rw [if_pos c16] at H
 have c16b0 := decide_eq_true c16
 clear c16
 obtain rfl := Option.some.inj H
 have p5 : 0 ≤ (a1 : Int) := of_decide_eq_true as_
 have q5 : a1 < (a0.size : Int) := of_decide_eq_true as_
 have hx5 := bt_at a0 a1
 replace p5 := eq_true p5
 replace q5 := eq_true q5
 have p9 : 0 ≤ ((ji6) : Int) := of_decide_eq_true as_
 have q9 : (ji6) < (a0.size : Int) := of_decide_eq_true as_
 have hx9 := bt_at a0 (ji6)
 replace p9 := eq_true p9
 replace q9 := eq_true q9
 have p13 : 0 ≤ ((ji10) : Int) := of_decide_eq_true as_
 have q13 : (ji10) < (a0.size : Int) := of_decide_eq_true as_
 have hx13 := bt_at a0 (ji10)
 replace p13 := eq_true p13
 replace q13 := eq_true q13
 have p17 : 0 ≤ ((ji14) : Int) := of_decide_eq_true as_
 have q17 : (ji14) < (a0.size : Int) := of_decide_eq_true as_
 have hx17 := bt_at a0 (ji14)
 replace p17 := eq_true p17
 replace q17 := eq_true q17
 go_enter Tryd.func107, Tryd.ntmps107
 go_wp2
 repeat (go_quiet (fail); try go_wp2)
 go_ret
 exact ⟨by first | rfl | (simp; done) | (simp only [← hji6, ← hji10, ← hji14] <;> (first | rfl | simp)) | (simp [*]; done), by repeat (first | exact Drawn0.refl _ | apply Drawn0.step)⟩


mutual
def spec_ReadFrame.j0 : Nat → ByteArray → ByteArray → Bool → Option (Int × Int × Int × Int × Int × Int × Int × Bool)
 | 0, _, _, _ => none
 | k + 1, x0, x4, x26 => if x26 = true then (some (0, 0, 0, 0, 0, 0, 0, false)) else ((spec_ReadVar.f k x4 2).bind fun bt774 => (if bt774.2.2 = true then (spec_ReadFrame.j1 k x0 x4 bt774.1 bt774.2.1 (decide ((wrap64 ((x4.size : Int) - bt774.2.1)) < 9))) else (spec_ReadFrame.j1 k x0 x4 bt774.1 bt774.2.1 true)))
def spec_ReadFrame.j1 : Nat → ByteArray → ByteArray → Int → Int → Bool → Option (Int × Int × Int × Int × Int × Int × Int × Bool)
 | 0, _, _, _, _, _ => none
 | k + 1, x0, x4, x6, x7, x42 => if x42 = true then (some (0, 0, 0, 0, 0, 0, 0, false)) else ((spec_ReadVar.f k x4 (wrap64 (x7 + 9))).bind fun bt777 => (if 0 < (x4.size : Int) then (if 1 < (x4.size : Int) then (if 0 ≤ x7 then (if x7 < (x4.size : Int) then ((spec_l17Four.f x4 (wrap64 (x7 + 1))).bind fun t780 => ((spec_l17Four.f x4 (wrap64 (x7 + 5))).bind fun t781 => ((spec_FrameText.f k (wrap64 (bt x4 0)) (wrap64 (bt x4 1)) x6 (wrap64 (bt x4 x7)) t780 t781 bt777.1).bind fun bt783 => (if bt777.2.2 = true then (if bt783.2 = true then (if bt783.1.toList = x0.toList then (some (wrap64 (bt x4 0), wrap64 (bt x4 1), x6, wrap64 (bt x4 x7), t780, t781, bt777.1, true)) else (some (0, 0, 0, 0, 0, 0, 0, false))) else (some (0, 0, 0, 0, 0, 0, 0, false))) else (some (0, 0, 0, 0, 0, 0, 0, false)))))) else (none)) else (none)) else (none)) else (none)))
end
def spec_ReadFrame.f (k : Nat) (a0 : ByteArray) : Option (Int × Int × Int × Int × Int × Int × Int × Bool) := (spec_Unsealed.f k a0).bind fun bt772 => (if bt772.2 = true then (spec_ReadFrame.j0 k a0 bt772.1 (decide ((bt772.1.size : Int) < 2))) else (spec_ReadFrame.j0 k a0 bt772.1 true))
theorem spec_ReadFrame.mono_l : ∀ k, (∀ y0 y1 y2, LeO (spec_ReadFrame.j0 k y0 y1 y2) (spec_ReadFrame.j0 (k + 1) y0 y1 y2)) ∧ (∀ y0 y1 y2 y3 y4, LeO (spec_ReadFrame.j1 k y0 y1 y2 y3 y4) (spec_ReadFrame.j1 (k + 1) y0 y1 y2 y3 y4))
 | 0 => ⟨fun _ _ _ r h => by simp [spec_ReadFrame.j0] at h, fun _ _ _ _ _ r h => by simp [spec_ReadFrame.j1] at h⟩
 | k + 1 => by
  obtain ⟨ih0, ih1⟩ := spec_ReadFrame.mono_l k
  refine ⟨?_, ?_⟩
  ·intro y0 y1 y2
   unfold spec_ReadFrame.j0
   have m0 := @spec_FrameText.mono
   have m1 := @spec_ReadVar.mono
   have m2 := @spec_Unsealed.mono
   exact mo_
  ·intro y0 y1 y2 y3 y4
   unfold spec_ReadFrame.j1
   have m0 := @spec_FrameText.mono
   have m1 := @spec_ReadVar.mono
   have m2 := @spec_Unsealed.mono
   exact mo_
theorem spec_ReadFrame.mono : ∀ a0 k, LeO (spec_ReadFrame.f k a0) (spec_ReadFrame.f (k + 1) a0) := by
 intro a0 k
 obtain ⟨ih0, ih1⟩ := spec_ReadFrame.mono_l k
 unfold spec_ReadFrame.f
 have m0 := @spec_FrameText.mono
 have m1 := @spec_ReadVar.mono
 have m2 := @spec_Unsealed.mono
 exact mo_
def spec_ReadFrame.T8 : Bool × List (List Nat × List Nat) := (true, [([], []), ([0], [0]), ([1], [1]), ([], []), ([3], [3]), ([4], [4]), ([], []), ([], []), ([], []), ([7, 8], [7, 8]), ([9], [9]), ([], []), ([], []), ([12], [12]), ([11, 13], [11, 13]), ([], []), ([], []), ([16], [16]), ([15, 17, 14], [15, 17]), ([], []), ([10, 14, 18, 19], [10, 14, 18, 19]), ([2, 5, 6, 20], [2, 5, 6, 20]), ([], []), ([22, 21, 18, 0, 1, 2, 3, 4, 5, 6, 7, 8, 9, 10, 11, 12, 13, 14, 15, 16, 17, 18, 19, 20, 21, 22], [21, 22])])
def spec_ReadFrame.B8 : List Nat := [0, 1, 3, 0, 8, 24, 0, 0, 0, 384, 896, 0, 0, 4096, 14336, 0, 0, 65536, 260096, 0, 1048448, 2097151, 0, 8388607]
theorem spec_ReadFrame.tab8 : rtab .any (opsOf Tryd.f78 8) = spec_ReadFrame.T8 := by kernel_rfl
theorem spec_ReadFrame.bits8 : waitsOk spec_ReadFrame.T8.2 spec_ReadFrame.B8 = true := by kernel_rfl
theorem spec_ReadFrame.calls (k : Nat) (a0 : ByteArray) (r1 : Int) (r2 : Int) (r3 : Int) (r4 : Int) (r5 : Int) (r6 : Int) (r7 : Int) (r8 : Bool) (w : World) (h : spec_ReadFrame.f k a0 = some (r1, r2, r3, r4, r5, r6, r7, r8)) :
 Calls Tryd.prog 78 #[.string a0] w fun e w' => e = .returned (.tuple #[.agg #[.int .i64 r1, .int .i64 r2, .int .i64 r3, .int .i64 r4, .int .i64 r5, .int .i64 r6, .int .i64 r7], .bool r8]) ∧ Below w.heap.size w w' := by
 have hu80 := Tryd.underlying80
 have hu25 := Tryd.underlying25
 have HB := Aside0.mk (Below.refl w.heap.size w)
 have H := h
 unfold spec_ReadFrame.f at H
 clear h
 replace H := bs_ H
 obtain ⟨⟨t772, t773⟩, A2, H⟩ := H
 try dsimp only at H
 have HC3 := Aside0.mk H
 clear H
 go_enter Tryd.func78, Tryd.ntmps78
 go_upto_region 2 with (first | ((with_reducible refine gate_dst (N := 2) rfl ?_); (try (refine gate_guard (by rfl) ?_; dsimp only)); refine bx_ 2 80 #[.int .i64 0, .int .i64 0, .int .i64 0, .int .i64 0, .int .i64 0, .int .i64 0, .int .i64 0] ?_; intro gb771 hg w4 hbox hb; have BK771 := Aside0.mk (hbox); have GW771 := Aside0.mk ((hz_ : w.heap.size ≤ gb771)); have GE771 := Aside0.mk ((hz_ : w.heap.size ≤ gb771)); replace HB := Aside0.mk (below_step bl_ hb); clear hb hbox hg) | ((with_reducible refine gate_callee (f := 90) rfl ?_); refine gs_ (some 17) Tryd.func90 #[.string a0] ?_; (with_reducible refine (spec_Unsealed.calls k a0 t772 t773 _ A2.out).mono ?_); rintro e w5 ⟨rfl, hb⟩; refine ⟨_, rfl, ?_⟩; replace BK771 := Aside0.mk (blk_below (bn0_ BK771.out) hb); replace HB := Aside0.mk (below_step bl_ hb); (try clear hb)))
 (try simp only [Act.put, List.setIfInBounds_toArray, List.set_cons_zero, List.set_cons_succ])
 go_cut [26] (fun v26 wc => ∃ (kq : Nat) (x26_2 : Bool), v26 = .bool x26_2 ∧ Aside0 (spec_ReadFrame.j0 kq a0 t772 x26_2 = some (r1, r2, r3, r4, r5, r6, r7, r8)) ∧ Aside0 (kq ≤ k) ∧ Aside0 (wc.heap[gb771]? = some (.cells #[.int .i64 0, .int .i64 0, .int .i64 0, .int .i64 0, .int .i64 0, .int .i64 0, .int .i64 0] 80 (0, 0))) ∧ Aside0 (Below w.heap.size w wc))
 case first =>
  have H := HC3.out
  clear HC3
  by_cases c6 : t773 = true
  ·subst c6
   rw [if_pos rfl] at H
   have H' := Aside0.mk H
   clear H
   go_wp2
   go_meet
   case rel => exact ⟨_, (decide ((t772.size : Int) < 2)), (sr_), H', ⟨by first | omega | exact Nat.le_refl _⟩, ⟨bk_ BK771.out⟩, ⟨bl_⟩⟩
  replace c6 := Bool.eq_false_iff.mpr c6
  subst c6
  rw [nf_] at H
  have H' := Aside0.mk H
  clear H
  go_wp2
  go_meet
  case rel => exact ⟨_, (true), (sr_), H', ⟨by first | omega | exact Nat.le_refl _⟩, ⟨bk_ BK771.out⟩, ⟨bl_⟩⟩
 clear HC3
 obtain ⟨kq, x26_2, rfl, HA, HJ2, BK771, HB⟩ := hcut
 cases kq with
 | zero => exact absurd HA.out (by simp [spec_ReadFrame.j0])
 | succ kj2 => ?_
 have H := HA.out
 clear HA
 simp only [spec_ReadFrame.j0] at H
 by_cases c7 : x26_2 = true
 ·subst c7
  rw [if_pos rfl] at H
  simp only [Option.some.injEq, Prod.mk.injEq] at H
  obtain ⟨rfl, rfl, rfl, rfl, rfl, rfl, rfl, rfl⟩ := H
  obtain ⟨hcz8_0, hcz8_1, hcz8_2, hcz8_3, hcz8_4, hcz8_5, hcz8_6, hfz8_0, hfz8_1, hfz8_2, hfz8_3, hfz8_4, hfz8_5, hfz8_6⟩ := cf7_ BK771.out
  go_wp2
  refine bodyPost_ret (results_ct rfl _ _ gb771 80 #[.int .i64 0, .int .i64 0, .int .i64 0, .int .i64 0, .int .i64 0, .int .i64 0, .int .i64 0] (0, 0) _ rfl (bp0_ BK771.out) Tryd.underlying80 rfl (by kernel_rfl)) rfl ?_
  exact ⟨er_, bl_⟩
 replace c7 := Bool.eq_false_iff.mpr c7
 subst c7
 rw [nf_] at H
 replace H := bs_ H
 obtain ⟨⟨t774, t775, t776⟩, A9, H⟩ := H
 try dsimp only at H
 have HC10 := Aside0.mk H
 clear H
 go_upto_region 5 with (first | ((with_reducible refine gate_callee (f := 91) rfl ?_); refine gs_ (some 30) Tryd.func91 #[.string t772, .int .i64 2] ?_; (with_reducible refine (spec_ReadVar.calls kj2 t772 2 t774 t775 t776 _ A9.out).mono ?_); rintro e w11 ⟨rfl, hb⟩; refine ⟨_, rfl, ?_⟩; replace BK771 := Aside0.mk (blk_below (bn0_ BK771.out) hb); replace HB := Aside0.mk (below_step bl_ hb); (try clear hb)))
 (try simp only [Act.put, List.setIfInBounds_toArray, List.set_cons_zero, List.set_cons_succ])
 go_cut [42] (fun v42 wc => ∃ (kq : Nat) (x42_9 : Bool), v42 = .bool x42_9 ∧ Aside0 (spec_ReadFrame.j1 kq a0 t772 t774 t775 x42_9 = some (r1, r2, r3, r4, r5, r6, r7, r8)) ∧ Aside0 (kq ≤ kj2) ∧ Aside0 (wc.heap[gb771]? = some (.cells #[.int .i64 0, .int .i64 0, .int .i64 0, .int .i64 0, .int .i64 0, .int .i64 0, .int .i64 0] 80 (0, 0))) ∧ Aside0 (Below w.heap.size w wc))
 case first =>
  have H := HC10.out
  clear HC10
  by_cases c12 : t776 = true
  ·subst c12
   rw [if_pos rfl] at H
   have H' := Aside0.mk H
   clear H
   go_wp2
   go_meet
   case rel => exact ⟨_, (decide ((wrap64 ((t772.size : Int) - t775)) < 9)), (sr_), H', ⟨by have := HJ2.out; first | omega | exact Nat.le_refl _⟩, ⟨bk_ BK771.out⟩, ⟨bl_⟩⟩
  replace c12 := Bool.eq_false_iff.mpr c12
  subst c12
  rw [nf_] at H
  have H' := Aside0.mk H
  clear H
  go_wp2
  go_meet
  case rel => exact ⟨_, (true), (sr_), H', ⟨by have := HJ2.out; first | omega | exact Nat.le_refl _⟩, ⟨bk_ BK771.out⟩, ⟨bl_⟩⟩
 clear HC10
 try clear c7
 obtain ⟨kq, x42_9, rfl, HA, HJ9, BK771, HB⟩ := hcut
 cases kq with
 | zero => exact absurd HA.out (by simp [spec_ReadFrame.j1])
 | succ kj9 => ?_
 have H := HA.out
 clear HA
 simp only [spec_ReadFrame.j1] at H
 by_cases c13 : x42_9 = true
 ·subst c13
  rw [if_pos rfl] at H
  simp only [Option.some.injEq, Prod.mk.injEq] at H
  obtain ⟨rfl, rfl, rfl, rfl, rfl, rfl, rfl, rfl⟩ := H
  obtain ⟨hcz14_0, hcz14_1, hcz14_2, hcz14_3, hcz14_4, hcz14_5, hcz14_6, hfz14_0, hfz14_1, hfz14_2, hfz14_3, hfz14_4, hfz14_5, hfz14_6⟩ := cf7_ BK771.out
  go_wp2
  refine bodyPost_ret (results_ct rfl _ _ gb771 80 #[.int .i64 0, .int .i64 0, .int .i64 0, .int .i64 0, .int .i64 0, .int .i64 0, .int .i64 0] (0, 0) _ rfl (bp0_ BK771.out) Tryd.underlying80 rfl (by kernel_rfl)) rfl ?_
  exact ⟨er_, bl_⟩
 replace c13 := Bool.eq_false_iff.mpr c13
 subst c13
 rw [nf_] at H
 replace H := bs_ H
 obtain ⟨⟨t777, t778, t779⟩, A15, H⟩ := H
 try dsimp only at H
 by_cases c16 : 0 < (t772.size : Int)
 rotate_left
 ·exact nn_ c16 H
 rw [if_pos c16] at H
 have c16b0 := decide_eq_true c16
 have c16b1 : decide (0 < t772.size) = true := decide_eq_true (by omega)
 clear c16
 by_cases c18 : 1 < (t772.size : Int)
 rotate_left
 ·exact nn_ c18 H
 rw [if_pos c18] at H
 have c18b0 := decide_eq_true c18
 have c18b1 : decide (1 < t772.size) = true := decide_eq_true (by omega)
 clear c18
 by_cases c20 : 0 ≤ t775
 rotate_left
 ·exact nn_ c20 H
 rw [if_pos c20] at H
 have c20b0 := decide_eq_true c20
 clear c20
 by_cases c21 : t775 < (t772.size : Int)
 rotate_left
 ·exact nn_ c21 H
 rw [if_pos c21] at H
 have c21b0 := decide_eq_true c21
 clear c21
 replace H := bs_ H
 obtain ⟨t780, A23, H⟩ := H
 try dsimp only at H
 replace H := bs_ H
 obtain ⟨t781, A24, H⟩ := H
 try dsimp only at H
 replace H := bs_ H
 obtain ⟨⟨t783, t784⟩, A25, H⟩ := H
 try dsimp only at H
 have HXX := Aside0.mk H
 clear H
 try go_wp2_with (first | ((with_reducible refine gate_callee (f := 91) rfl ?_); refine gs_ (some 48) Tryd.func91 #[.string t772, .int .i64 (wrap64 (t775 + 9))] ?_; (with_reducible refine (spec_ReadVar.calls kj9 t772 (wrap64 (t775 + 9)) t777 t778 t779 _ A15.out).mono ?_); rintro e w29 ⟨rfl, hb⟩; refine ⟨_, rfl, ?_⟩; replace BK771 := Aside0.mk (blk_below (bn0_ BK771.out) hb); replace HB := Aside0.mk (below_step bl_ hb); (try clear hb)))
 have n0_ := Aside0.mk (blk_drew BK771.out)
 have n1_ := Aside0.mk (below_drew1 HB.out)
 clear BK771
 clear HB
 have BK771 := n0_
 have HB := n1_
 clear n0_ n1_
 have p17 : 0 ≤ (0 : Int) := (by omega)
 have q17 : 0 < t772.size := (by have : (0 : Int) < (t772.size : Int) := of_decide_eq_true as_; omega)
 have hx17 : ∀ h : 0 < t772.size, ((t772[0]'h).toNat : Int) = bt t772 0 := bt_at t772 0
 clear p17
 have qi17 : (0 < (t772.size : Int)) = True := eq_true (of_decide_eq_true as_)
 replace q17 := eq_true q17
 have p19 : 0 ≤ (1 : Int) := (by omega)
 have q19 : 1 < t772.size := (by have : (1 : Int) < (t772.size : Int) := of_decide_eq_true as_; omega)
 have hx19 : ∀ h : 1 < t772.size, ((t772[1]'h).toNat : Int) = bt t772 1 := bt_at t772 1
 clear p19
 have qi19 : (1 < (t772.size : Int)) = True := eq_true (of_decide_eq_true as_)
 replace q19 := eq_true q19
 have p22 : 0 ≤ (t775 : Int) := of_decide_eq_true as_
 have q22 : t775 < (t772.size : Int) := of_decide_eq_true as_
 have hx22 := bt_at t772 t775
 replace p22 := eq_true p22
 replace q22 := eq_true q22
 refine start_ (n := 24) (S := fun w' => True) (ds := []) #[false, false, false, false, false, false, false, false, false, false, false, false, false, false, false, false, false, false, false, false, false, false, false, false] (by kernel_rfl) rfl rfl trivial (fun hHeld => ?_); refine with_tabW spec_ReadFrame.tab8 spec_ReadFrame.bits8 (fun HT_ HW_ => ?_)
 generalize w29.drew = w30 at BK771 HB hHeld ⊢
 refine pu_ 0 52 HT_ ?_
 refine pu_ 3 55 HT_ ?_
 refine pu_ 6 58 HT_ ?_
 refine pu_ 7 59 HT_ ?_
 refine pu_ 8 60 HT_ ?_
 refine pu_ 11 63 HT_ ?_
 refine pu_ 12 64 HT_ ?_
 refine pu_ 13 65 HT_ ?_
 refine pu_ 15 67 HT_ ?_
 refine pu_ 16 68 HT_ ?_
 refine pu_ 17 69 HT_ ?_
 refine pu_ 19 71 HT_ ?_
 refine ta_ 1 53 HT_ HW_ hHeld ?_
 refine pu_ 2 54 HT_ ?_
 refine ta_ 4 56 HT_ HW_ hHeld ?_
 refine pu_ 5 57 HT_ ?_
 refine ta_ 9 61 HT_ HW_ hHeld ?_
 refine pu_ 10 62 HT_ ?_
 refine join_ (σ := Nat) 1 #[true, true, true, true, true, true, true, true, true, true, true, true, true, true, true, true, true, true, true, true, true, true, true, false] (fun s_ => [(66, .int .i64 t780), (70, .int .i64 t781), (12, .pointer (some ⟨s_, 0, none⟩)), (72, .agg #[.int .i64 (wrap64 (bt t772 t775)), .int .i64 t780, .int .i64 t781, .int .i64 t777]), (73, .agg #[.int .i64 (wrap64 (bt t772 0)), .int .i64 (wrap64 (bt t772 1)), .int .i64 t774, .int .i64 (wrap64 (bt t772 t775)), .int .i64 t780, .int .i64 t781, .int .i64 t777])]) (fun s_ w' => (w'.heap[gb771]? = some (.cells #[.int .i64 0, .int .i64 0, .int .i64 0, .int .i64 0, .int .i64 0, .int .i64 0, .int .i64 0] 80 (0, 0))) ∧ (w'.heap[s_]? = some (.cells #[.int .i64 0, .int .i64 0, .int .i64 0, .int .i64 0, .int .i64 0, .int .i64 0, .int .i64 0] 80 (0, 0))) ∧ (w.heap.size ≤ s_) ∧ (w.heap.size ≤ s_) ∧ (gb771 ≠ s_) ∧ (s_ ≠ gb771) ∧ (Below w.heap.size w w')) ?_ ?_
 rotate_left
 ·intro hCont
  refine two_ (i := 14) (j := 22) (Ni := some 66) (Nj := some 12) #[true, true, true, true, true, true, true, true, true, true, true, true, true, true, true, true, true, true, false, true, false, false, false, false] #[true, true, true, true, true, true, true, true, true, true, true, true, true, true, false, true, true, true, false, true, false, false, true, false] rfl rfl rfl rfl (two_of HT_.out (by kernel_rfl)) (by decide) (by decide) (fun K hK => ?_) (fun K hK => ?_)
  ·skip
   refine goes_ Tryd.func107 (by kernel_rfl) rfl #[.string t772, .int .i64 (wrap64 (t775 + 1))] (by rfl) rfl rfl lm_ ?_
   with_reducible refine (spec_l17Four.calls t772 (wrap64 (t775 + 1)) t780 _ A23.out).mono ?_
   rintro e w' ⟨rfl, ⟨nd, rfl⟩⟩
   refine ⟨_, rfl, ?_⟩
   refine hK.out _ _ trivial (fun hHeld => ?_)
   clear hK K
   refine norm_ (a' := ?_) ?_ ?_
   rotate_left
   ·show Act.put _ (some 66) _ = _
    simp only [Act.put, List.setIfInBounds_toArray, List.set_cons_zero, List.set_cons_succ, i64_w, i32_w]
    rfl
   refine two_ (i := 18) (j := 22) (Ni := some 70) (Nj := some 12) #[true, true, true, true, true, true, true, true, true, true, true, true, true, true, true, true, true, true, true, true, false, false, false, false] #[true, true, true, true, true, true, true, true, true, true, true, true, true, true, true, true, true, true, false, true, false, false, true, false] rfl rfl rfl rfl (two_of HT_.out (by kernel_rfl)) (by decide) (by decide) (fun K hK => ?_) (fun K hK => ?_)
   ·skip
    refine goes_ Tryd.func107 (by kernel_rfl) rfl #[.string t772, .int .i64 (wrap64 (t775 + 5))] (by rfl) rfl rfl lm_ ?_
    with_reducible refine (spec_l17Four.calls t772 (wrap64 (t775 + 5)) t781 _ A24.out).mono ?_
    rintro e w' ⟨rfl, ⟨nd, rfl⟩⟩
    refine ⟨_, rfl, ?_⟩
    refine hK.out _ _ trivial (fun hHeld => ?_)
    clear hK K
    refine norm_ (a' := ?_) ?_ ?_
    rotate_left
    ·show Act.put _ (some 70) _ = _
     simp only [Act.put, List.setIfInBounds_toArray, List.set_cons_zero, List.set_cons_succ, i64_w, i32_w]
     rfl
    refine pu_ 20 72 HT_ ?_
    refine pu_ 21 73 HT_ ?_
    refine on_ 22 12 HT_ (fun K hK => ?_)
    refine box_step ?hg (N := 12) ?hd (cs := #[.int .i64 0, .int .i64 0, .int .i64 0, .int .i64 0, .int .i64 0, .int .i64 0, .int .i64 0]) (t := 80) ?hr ?_; (case hd => rfl); (case hg => rfl); (case hr => first | (go_simp; done) | (go_simp; rfl))
    intro gb782 hg w31 hbox hb
    have n0_ := Aside0.mk (blk_below (bn0_ BK771.out) hb)
    have n1_ := Aside0.mk (below_step bl_ hb)
    have n2_ := Aside0.mk (hbox)
    have n3_ := Aside0.mk ((hz_ : w.heap.size ≤ gb782))
    have n4_ := Aside0.mk ((hz_ : w.heap.size ≤ gb782))
    have n5_ := Aside0.mk ((by rw [hg]; exact Nat.ne_of_lt (blk_lt (g := gb771) (o := .cells #[.int .i64 0, .int .i64 0, .int .i64 0, .int .i64 0, .int .i64 0, .int .i64 0, .int .i64 0] 80 (0, 0)) (bk_ BK771.out)) : gb771 ≠ gb782))
    have n6_ := Aside0.mk ((by rw [hg]; exact Nat.ne_of_gt (blk_lt (g := gb771) (o := .cells #[.int .i64 0, .int .i64 0, .int .i64 0, .int .i64 0, .int .i64 0, .int .i64 0, .int .i64 0] 80 (0, 0)) (bk_ BK771.out)) : gb782 ≠ gb771))
    clear BK771
    clear HB
    have BK771 := n0_
    have HB := n1_
    have BK782 := n2_
    have GW782 := n3_
    have GE782 := n4_
    have NB771_782 := n5_
    have NB782_771 := n6_
    clear n0_ n1_ n2_ n3_ n4_ n5_ n6_
    clear hb hbox hg
    refine hK.out _ _ trivial (fun hHeld => ?_)
    clear hK K
    refine norm_ (a' := ?_) ?_ ?_
    rotate_left
    ·show Act.put _ (some 12) _ = _
     simp only [Act.put, List.setIfInBounds_toArray, List.set_cons_zero, List.set_cons_succ, i64_w, i32_w]
     rfl
    exact norm_ (by simp only [putAll, Act.put, List.setIfInBounds_toArray, List.set_cons_zero, List.set_cons_succ]) (hCont (gb782) _ ⟨(bk_ BK771.out), (bk_ BK782.out), GW782.out, GE782.out, NB771_782.out, NB782_771.out, bl_⟩)
   ·skip
    refine box_step ?hg (N := 12) ?hd (cs := #[.int .i64 0, .int .i64 0, .int .i64 0, .int .i64 0, .int .i64 0, .int .i64 0, .int .i64 0]) (t := 80) ?hr ?_; (case hd => rfl); (case hg => rfl); (case hr => first | (go_simp; done) | (go_simp; rfl))
    intro gb782 hg w31 hbox hb
    have n0_ := Aside0.mk (blk_below (bn0_ BK771.out) hb)
    have n1_ := Aside0.mk (below_step bl_ hb)
    have n2_ := Aside0.mk (hbox)
    have n3_ := Aside0.mk ((hz_ : w.heap.size ≤ gb782))
    have n4_ := Aside0.mk ((hz_ : w.heap.size ≤ gb782))
    have n5_ := Aside0.mk ((by rw [hg]; exact Nat.ne_of_lt (blk_lt (g := gb771) (o := .cells #[.int .i64 0, .int .i64 0, .int .i64 0, .int .i64 0, .int .i64 0, .int .i64 0, .int .i64 0] 80 (0, 0)) (bk_ BK771.out)) : gb771 ≠ gb782))
    have n6_ := Aside0.mk ((by rw [hg]; exact Nat.ne_of_gt (blk_lt (g := gb771) (o := .cells #[.int .i64 0, .int .i64 0, .int .i64 0, .int .i64 0, .int .i64 0, .int .i64 0, .int .i64 0] 80 (0, 0)) (bk_ BK771.out)) : gb782 ≠ gb771))
    clear BK771
    clear HB
    have BK771 := n0_
    have HB := n1_
    have BK782 := n2_
    have GW782 := n3_
    have GE782 := n4_
    have NB771_782 := n5_
    have NB782_771 := n6_
    clear n0_ n1_ n2_ n3_ n4_ n5_ n6_
    clear hb hbox hg
    refine hK.out _ _ trivial (fun hHeld => ?_)
    clear hK K
    refine norm_ (a' := ?_) ?_ ?_
    rotate_left
    ·show Act.put _ (some 12) _ = _
     simp only [Act.put, List.setIfInBounds_toArray, List.set_cons_zero, List.set_cons_succ, i64_w, i32_w]
     rfl
    refine on_ 18 70 HT_ (fun K hK => ?_)
    refine goes_ Tryd.func107 (by kernel_rfl) rfl #[.string t772, .int .i64 (wrap64 (t775 + 5))] (by rfl) rfl rfl lm_ ?_
    with_reducible refine (spec_l17Four.calls t772 (wrap64 (t775 + 5)) t781 _ A24.out).mono ?_
    rintro e w' ⟨rfl, ⟨nd, rfl⟩⟩
    refine ⟨_, rfl, ?_⟩
    refine hK.out _ _ trivial (fun hHeld => ?_)
    clear hK K
    refine norm_ (a' := ?_) ?_ ?_
    rotate_left
    ·show Act.put _ (some 70) _ = _
     simp only [Act.put, List.setIfInBounds_toArray, List.set_cons_zero, List.set_cons_succ, i64_w, i32_w]
     rfl
    refine pu_ 20 72 HT_ ?_
    refine pu_ 21 73 HT_ ?_
    exact norm_ (by simp only [putAll, Act.put, List.setIfInBounds_toArray, List.set_cons_zero, List.set_cons_succ]) (hCont (gb782) _ ⟨(bk_ BK771.out), (bk_ BK782.out), GW782.out, GE782.out, NB771_782.out, NB782_771.out, bl_⟩)
  ·skip
   refine box_step ?hg (N := 12) ?hd (cs := #[.int .i64 0, .int .i64 0, .int .i64 0, .int .i64 0, .int .i64 0, .int .i64 0, .int .i64 0]) (t := 80) ?hr ?_; (case hd => rfl); (case hg => rfl); (case hr => first | (go_simp; done) | (go_simp; rfl))
   intro gb782 hg w31 hbox hb
   have n0_ := Aside0.mk (blk_below (bn0_ BK771.out) hb)
   have n1_ := Aside0.mk (below_step bl_ hb)
   have n2_ := Aside0.mk (hbox)
   have n3_ := Aside0.mk ((hz_ : w.heap.size ≤ gb782))
   have n4_ := Aside0.mk ((hz_ : w.heap.size ≤ gb782))
   have n5_ := Aside0.mk ((by rw [hg]; exact Nat.ne_of_lt (blk_lt (g := gb771) (o := .cells #[.int .i64 0, .int .i64 0, .int .i64 0, .int .i64 0, .int .i64 0, .int .i64 0, .int .i64 0] 80 (0, 0)) (bk_ BK771.out)) : gb771 ≠ gb782))
   have n6_ := Aside0.mk ((by rw [hg]; exact Nat.ne_of_gt (blk_lt (g := gb771) (o := .cells #[.int .i64 0, .int .i64 0, .int .i64 0, .int .i64 0, .int .i64 0, .int .i64 0, .int .i64 0] 80 (0, 0)) (bk_ BK771.out)) : gb782 ≠ gb771))
   clear BK771
   clear HB
   have BK771 := n0_
   have HB := n1_
   have BK782 := n2_
   have GW782 := n3_
   have GE782 := n4_
   have NB771_782 := n5_
   have NB782_771 := n6_
   clear n0_ n1_ n2_ n3_ n4_ n5_ n6_
   clear hb hbox hg
   refine hK.out _ _ trivial (fun hHeld => ?_)
   clear hK K
   refine norm_ (a' := ?_) ?_ ?_
   rotate_left
   ·show Act.put _ (some 12) _ = _
    simp only [Act.put, List.setIfInBounds_toArray, List.set_cons_zero, List.set_cons_succ, i64_w, i32_w]
    rfl
   refine on_ 14 66 HT_ (fun K hK => ?_)
   refine goes_ Tryd.func107 (by kernel_rfl) rfl #[.string t772, .int .i64 (wrap64 (t775 + 1))] (by rfl) rfl rfl lm_ ?_
   with_reducible refine (spec_l17Four.calls t772 (wrap64 (t775 + 1)) t780 _ A23.out).mono ?_
   rintro e w' ⟨rfl, ⟨nd, rfl⟩⟩
   refine ⟨_, rfl, ?_⟩
   refine hK.out _ _ trivial (fun hHeld => ?_)
   clear hK K
   refine norm_ (a' := ?_) ?_ ?_
   rotate_left
   ·show Act.put _ (some 66) _ = _
    simp only [Act.put, List.setIfInBounds_toArray, List.set_cons_zero, List.set_cons_succ, i64_w, i32_w]
    rfl
   refine on_ 18 70 HT_ (fun K hK => ?_)
   refine goes_ Tryd.func107 (by kernel_rfl) rfl #[.string t772, .int .i64 (wrap64 (t775 + 5))] (by rfl) rfl rfl lm_ ?_
   with_reducible refine (spec_l17Four.calls t772 (wrap64 (t775 + 5)) t781 _ A24.out).mono ?_
   rintro e w' ⟨rfl, ⟨nd, rfl⟩⟩
   refine ⟨_, rfl, ?_⟩
   refine hK.out _ _ trivial (fun hHeld => ?_)
   clear hK K
   refine norm_ (a' := ?_) ?_ ?_
   rotate_left
   ·show Act.put _ (some 70) _ = _
    simp only [Act.put, List.setIfInBounds_toArray, List.set_cons_zero, List.set_cons_succ, i64_w, i32_w]
    rfl
   refine pu_ 20 72 HT_ ?_
   refine pu_ 21 73 HT_ ?_
   exact norm_ (by simp only [putAll, Act.put, List.setIfInBounds_toArray, List.set_cons_zero, List.set_cons_succ]) (hCont (gb782) _ ⟨(bk_ BK771.out), (bk_ BK782.out), GW782.out, GE782.out, NB771_782.out, NB782_771.out, bl_⟩)
 rintro gb782 w32 ⟨h0_, h1_, h2_, h3_, h4_, h5_, h6_⟩
 have n0_ : Aside0 (w32.heap[gb771]? = some (.cells #[.int .i64 0, .int .i64 0, .int .i64 0, .int .i64 0, .int .i64 0, .int .i64 0, .int .i64 0] 80 (0, 0))) := ⟨h0_⟩
 have n1_ : Aside0 (w32.heap[gb782]? = some (.cells #[.int .i64 0, .int .i64 0, .int .i64 0, .int .i64 0, .int .i64 0, .int .i64 0, .int .i64 0] 80 (0, 0))) := ⟨h1_⟩
 have n2_ : Aside0 (w.heap.size ≤ gb782) := ⟨h2_⟩
 have n3_ : Aside0 (w.heap.size ≤ gb782) := ⟨h3_⟩
 have n4_ : Aside0 (gb771 ≠ gb782) := ⟨h4_⟩
 have n5_ : Aside0 (gb782 ≠ gb771) := ⟨h5_⟩
 have n6_ : Aside0 (Below w.heap.size w w32) := ⟨h6_⟩
 clear BK771
 clear HB
 clear h0_ h1_ h2_ h3_ h4_ h5_ h6_
 have BK771 := n0_
 have BK782 := n1_
 have GW782 := n2_
 have GE782 := n3_
 have NB771_782 := n4_
 have NB782_771 := n5_
 have HB := n6_
 clear n0_ n1_ n2_ n3_ n4_ n5_ n6_
 have hHeld := trivial
 refine norm_ (a' := ?_) ?_ ?_
 rotate_left
 ·simp only [putAll, Act.put, List.setIfInBounds_toArray, List.set_cons_zero, List.set_cons_succ]
  rfl
 refine one_ (i := 23) (N := none) #[true, true, true, true, true, true, true, true, true, true, true, true, true, true, true, true, true, true, true, true, true, true, true, true] rfl rfl (one_of HT_.out (by kernel_rfl)) (by decide) (fun K hK => ?_)
 have hs33 : w32.cell? ⟨gb782, 0, none⟩ = some (.int .i64 0) := (blk_cell BK782.out 0).trans rfl
 have hfs33 := blk_frozen BK782.out 0
 have hns33_0 := NB771_782.out
 have hms33_0 := NB782_771.out
 have hs34 : w32.cell? ⟨gb782, 1, none⟩ = some (.int .i64 0) := (blk_cell BK782.out 1).trans rfl
 have hfs34 := blk_frozen BK782.out 1
 have hns34_0 := NB771_782.out
 have hms34_0 := NB782_771.out
 have hs35 : w32.cell? ⟨gb782, 2, none⟩ = some (.int .i64 0) := (blk_cell BK782.out 2).trans rfl
 have hfs35 := blk_frozen BK782.out 2
 have hns35_0 := NB771_782.out
 have hms35_0 := NB782_771.out
 have hs36 : w32.cell? ⟨gb782, 3, none⟩ = some (.int .i64 0) := (blk_cell BK782.out 3).trans rfl
 have hfs36 := blk_frozen BK782.out 3
 have hns36_0 := NB771_782.out
 have hms36_0 := NB782_771.out
 have hs37 : w32.cell? ⟨gb782, 4, none⟩ = some (.int .i64 0) := (blk_cell BK782.out 4).trans rfl
 have hfs37 := blk_frozen BK782.out 4
 have hns37_0 := NB771_782.out
 have hms37_0 := NB782_771.out
 have hs38 : w32.cell? ⟨gb782, 5, none⟩ = some (.int .i64 0) := (blk_cell BK782.out 5).trans rfl
 have hfs38 := blk_frozen BK782.out 5
 have hns38_0 := NB771_782.out
 have hms38_0 := NB782_771.out
 have hs39 : w32.cell? ⟨gb782, 6, none⟩ = some (.int .i64 0) := (blk_cell BK782.out 6).trans rfl
 have hfs39 := blk_frozen BK782.out 6
 have hns39_0 := NB771_782.out
 have hms39_0 := NB782_771.out
 refine skip_ (w1 := ?_) (by rfl) rfl ?_ ?_
 rotate_left
 ·go_simp
  rfl
 refine hK.out _ _ trivial (fun hHeld => ?_)
 clear hK K
 refine done_ (done_of HT_.out (by kernel_rfl)) ?_
 have H := HXX.out
 clear HXX
 by_cases c26 : t779 = true
 rotate_left
 ·replace c26 := Bool.eq_false_iff.mpr c26
  subst c26
  rw [nf_] at H
  simp only [Option.some.injEq, Prod.mk.injEq] at H
  obtain ⟨rfl, rfl, rfl, rfl, rfl, rfl, rfl, rfl⟩ := H
  have hnb86 := NB782_771.out
  have hnc86 := NB771_782.out
  obtain ⟨hcz87_0, hcz87_1, hcz87_2, hcz87_3, hcz87_4, hcz87_5, hcz87_6, hfz87_0, hfz87_1, hfz87_2, hfz87_3, hfz87_4, hfz87_5, hfz87_6⟩ := cf7_ BK782.out
  try go_wp2_with (first | ((with_reducible refine gate_callee (f := 80) rfl ?_); refine gs_ (some 76) Tryd.func80 #[.agg #[.int .i64 (wrap64 (bt t772 0)), .int .i64 (wrap64 (bt t772 1)), .int .i64 t774, .int .i64 (wrap64 (bt t772 t775)), .int .i64 t780, .int .i64 t781, .int .i64 t777]] ?_; (with_reducible refine (spec_FrameText.calls kj9 (wrap64 (bt t772 0)) (wrap64 (bt t772 1)) t774 (wrap64 (bt t772 t775)) t780 t781 t777 t783 t784 _ A25.out).mono ?_); rintro e w88 ⟨rfl, hb⟩; refine ⟨_, rfl, ?_⟩; replace BK771 := Aside0.mk (blk_below (bn1_ BK771.out NB771_782.out) hb); replace BK782 := Aside0.mk (blk_below (g := gb782) (o := .cells #[.int .i64 (wrap64 (bt t772 0)), .int .i64 (wrap64 (bt t772 1)), .int .i64 t774, .int .i64 (wrap64 (bt t772 t775)), .int .i64 t780, .int .i64 t781, .int .i64 t777] 80 (0, 0)) (bp0_ BK782.out) hb); replace HB := Aside0.mk (below_step bl_ hb); (try clear hb); obtain ⟨hcz89_0, hcz89_1, hcz89_2, hcz89_3, hcz89_4, hcz89_5, hcz89_6, hfz89_0, hfz89_1, hfz89_2, hfz89_3, hfz89_4, hfz89_5, hfz89_6⟩ := cf7_ BK771.out))
  refine bodyPost_ret (results_ct rfl _ _ gb771 80 #[.int .i64 0, .int .i64 0, .int .i64 0, .int .i64 0, .int .i64 0, .int .i64 0, .int .i64 0] (0, 0) _ rfl (bp0_ BK771.out) Tryd.underlying80 rfl (by kernel_rfl)) rfl ?_
  exact ⟨er_, bl_⟩
 subst c26
 rw [if_pos rfl] at H
 by_cases c27 : t784 = true
 rotate_left
 ·replace c27 := Bool.eq_false_iff.mpr c27
  subst c27
  rw [nf_] at H
  simp only [Option.some.injEq, Prod.mk.injEq] at H
  obtain ⟨rfl, rfl, rfl, rfl, rfl, rfl, rfl, rfl⟩ := H
  have hnb71 := NB782_771.out
  have hnc71 := NB771_782.out
  obtain ⟨hcz72_0, hcz72_1, hcz72_2, hcz72_3, hcz72_4, hcz72_5, hcz72_6, hfz72_0, hfz72_1, hfz72_2, hfz72_3, hfz72_4, hfz72_5, hfz72_6⟩ := cf7_ BK782.out
  try go_wp2_with (first | ((with_reducible refine gate_callee (f := 80) rfl ?_); refine gs_ (some 76) Tryd.func80 #[.agg #[.int .i64 (wrap64 (bt t772 0)), .int .i64 (wrap64 (bt t772 1)), .int .i64 t774, .int .i64 (wrap64 (bt t772 t775)), .int .i64 t780, .int .i64 t781, .int .i64 t777]] ?_; (with_reducible refine (spec_FrameText.calls kj9 (wrap64 (bt t772 0)) (wrap64 (bt t772 1)) t774 (wrap64 (bt t772 t775)) t780 t781 t777 t783 false _ A25.out).mono ?_); rintro e w73 ⟨rfl, hb⟩; refine ⟨_, rfl, ?_⟩; replace BK771 := Aside0.mk (blk_below (bn1_ BK771.out NB771_782.out) hb); replace BK782 := Aside0.mk (blk_below (g := gb782) (o := .cells #[.int .i64 (wrap64 (bt t772 0)), .int .i64 (wrap64 (bt t772 1)), .int .i64 t774, .int .i64 (wrap64 (bt t772 t775)), .int .i64 t780, .int .i64 t781, .int .i64 t777] 80 (0, 0)) (bp0_ BK782.out) hb); replace HB := Aside0.mk (below_step bl_ hb); (try clear hb); obtain ⟨hcz74_0, hcz74_1, hcz74_2, hcz74_3, hcz74_4, hcz74_5, hcz74_6, hfz74_0, hfz74_1, hfz74_2, hfz74_3, hfz74_4, hfz74_5, hfz74_6⟩ := cf7_ BK771.out))
  refine bodyPost_ret (results_ct rfl _ _ gb771 80 #[.int .i64 0, .int .i64 0, .int .i64 0, .int .i64 0, .int .i64 0, .int .i64 0, .int .i64 0] (0, 0) _ rfl (bp0_ BK771.out) Tryd.underlying80 rfl (by kernel_rfl)) rfl ?_
  exact ⟨er_, bl_⟩
 subst c27
 rw [if_pos rfl] at H
 by_cases c28 : t783.toList = a0.toList
 rotate_left
 ·rw [if_neg c28] at H
  have c28b0 : (t783.toList == a0.toList) = false := beq_eq_false_iff_ne.mpr c28
  have c28b1 : (t783.toList != a0.toList) = true := bne_iff_ne.mpr c28
  simp only [Option.some.injEq, Prod.mk.injEq] at H
  obtain ⟨rfl, rfl, rfl, rfl, rfl, rfl, rfl, rfl⟩ := H
  have hnb56 := NB782_771.out
  have hnc56 := NB771_782.out
  obtain ⟨hcz57_0, hcz57_1, hcz57_2, hcz57_3, hcz57_4, hcz57_5, hcz57_6, hfz57_0, hfz57_1, hfz57_2, hfz57_3, hfz57_4, hfz57_5, hfz57_6⟩ := cf7_ BK782.out
  try go_wp2_with (first | ((with_reducible refine gate_callee (f := 80) rfl ?_); refine gs_ (some 76) Tryd.func80 #[.agg #[.int .i64 (wrap64 (bt t772 0)), .int .i64 (wrap64 (bt t772 1)), .int .i64 t774, .int .i64 (wrap64 (bt t772 t775)), .int .i64 t780, .int .i64 t781, .int .i64 t777]] ?_; (with_reducible refine (spec_FrameText.calls kj9 (wrap64 (bt t772 0)) (wrap64 (bt t772 1)) t774 (wrap64 (bt t772 t775)) t780 t781 t777 t783 true _ A25.out).mono ?_); rintro e w58 ⟨rfl, hb⟩; refine ⟨_, rfl, ?_⟩; replace BK771 := Aside0.mk (blk_below (bn1_ BK771.out NB771_782.out) hb); replace BK782 := Aside0.mk (blk_below (g := gb782) (o := .cells #[.int .i64 (wrap64 (bt t772 0)), .int .i64 (wrap64 (bt t772 1)), .int .i64 t774, .int .i64 (wrap64 (bt t772 t775)), .int .i64 t780, .int .i64 t781, .int .i64 t777] 80 (0, 0)) (bp0_ BK782.out) hb); replace HB := Aside0.mk (below_step bl_ hb); (try clear hb); obtain ⟨hcz59_0, hcz59_1, hcz59_2, hcz59_3, hcz59_4, hcz59_5, hcz59_6, hfz59_0, hfz59_1, hfz59_2, hfz59_3, hfz59_4, hfz59_5, hfz59_6⟩ := cf7_ BK771.out))
  refine bodyPost_ret (results_ct rfl _ _ gb771 80 #[.int .i64 0, .int .i64 0, .int .i64 0, .int .i64 0, .int .i64 0, .int .i64 0, .int .i64 0] (0, 0) _ rfl (bp0_ BK771.out) Tryd.underlying80 rfl (by kernel_rfl)) rfl ?_
  exact ⟨er_, bl_⟩
 rw [if_pos c28] at H
 have c28b0 : (t783.toList == a0.toList) = true := beq_iff_eq.mpr c28
 have c28b1 : (t783.toList != a0.toList) = false := bne_eq_false_iff_eq.mpr c28
 clear c28
 simp only [Option.some.injEq, Prod.mk.injEq] at H
 obtain ⟨rfl, rfl, rfl, rfl, rfl, rfl, rfl, rfl⟩ := H
 have hnb40 := NB782_771.out
 have hnc40 := NB771_782.out
 obtain ⟨hcz41_0, hcz41_1, hcz41_2, hcz41_3, hcz41_4, hcz41_5, hcz41_6, hfz41_0, hfz41_1, hfz41_2, hfz41_3, hfz41_4, hfz41_5, hfz41_6⟩ := cf7_ BK782.out
 try go_wp2_with (first | ((with_reducible refine gate_callee (f := 80) rfl ?_); refine gs_ (some 76) Tryd.func80 #[.agg #[.int .i64 (wrap64 (bt t772 0)), .int .i64 (wrap64 (bt t772 1)), .int .i64 t774, .int .i64 (wrap64 (bt t772 t775)), .int .i64 t780, .int .i64 t781, .int .i64 t777]] ?_; (with_reducible refine (spec_FrameText.calls kj9 (wrap64 (bt t772 0)) (wrap64 (bt t772 1)) t774 (wrap64 (bt t772 t775)) t780 t781 t777 t783 true _ A25.out).mono ?_); rintro e w42 ⟨rfl, hb⟩; refine ⟨_, rfl, ?_⟩; replace BK771 := Aside0.mk (blk_below (bn1_ BK771.out NB771_782.out) hb); replace BK782 := Aside0.mk (blk_below (g := gb782) (o := .cells #[.int .i64 (wrap64 (bt t772 0)), .int .i64 (wrap64 (bt t772 1)), .int .i64 t774, .int .i64 (wrap64 (bt t772 t775)), .int .i64 t780, .int .i64 t781, .int .i64 t777] 80 (0, 0)) (bp0_ BK782.out) hb); replace HB := Aside0.mk (below_step bl_ hb); (try clear hb); obtain ⟨hcz43_0, hcz43_1, hcz43_2, hcz43_3, hcz43_4, hcz43_5, hcz43_6, hfz43_0, hfz43_1, hfz43_2, hfz43_3, hfz43_4, hfz43_5, hfz43_6⟩ := cf7_ BK782.out; obtain ⟨hcz44_0, hcz44_1, hcz44_2, hcz44_3, hcz44_4, hcz44_5, hcz44_6, hfz44_0, hfz44_1, hfz44_2, hfz44_3, hfz44_4, hfz44_5, hfz44_6⟩ := cf7_ BK771.out))
 refine bodyPost_ret (results_ct rfl _ _ gb771 80 #[.int .i64 (wrap64 (bt t772 0)), .int .i64 (wrap64 (bt t772 1)), .int .i64 t774, .int .i64 (wrap64 (bt t772 t775)), .int .i64 t780, .int .i64 t781, .int .i64 t777] (0, 0) _ rfl (bp0_ BK771.out) Tryd.underlying80 rfl (by kernel_rfl)) rfl ?_
 exact ⟨er_, bl_⟩


mutual
def spec_ReadLog.l0 : Nat → ByteArray → List (S27) → List (S27) → Int → Option ((List (S27)) × Bool)
 | 0, _, _, _, _ => none
 | k + 1, x0, x4, x5, x6 => if x6 < (x0.size : Int) then (spec_ReadLog.j1 k x0 x4 x5 x6 (decide ((x5.length : Int) ≤ 200))) else (spec_ReadLog.j1 k x0 x4 x5 x6 false)
def spec_ReadLog.j1 : Nat → ByteArray → List (S27) → List (S27) → Int → Bool → Option ((List (S27)) × Bool)
 | 0, _, _, _, _, _ => none
 | k + 1, x0, x4, x5, x6, x24 => if x24 = true then ((spec_ReadShort.f k x0 x6).bind fun bt793 => ((spec_ReadFrame.f k bt793.1).bind fun bt796 => (if bt793.2.2 = true then (if bt796.2.2.2.2.2.2.2 = true then (if bt796.1 = 1 then (if x5.length < 2932031007402 then (spec_ReadLog.l0 k x0 x4 (x5 ++ [(⟨bt796.2.1, bt796.2.2.1, (⟨bt796.2.2.2.1, bt796.2.2.2.2.1, bt796.2.2.2.2.2.1, bt796.2.2.2.2.2.2.1⟩ : S25)⟩ : S27)]) bt793.2.1) else (none)) else (some (x4, false))) else (some (x4, false))) else (some (x4, false))))) else ((spec_LogText.f k x5).bind fun bt791 => (if bt791.2 = true then (if bt791.1.toList = x0.toList then (some (x5, true)) else (some (x4, false))) else (some (x4, false))))
end
def spec_ReadLog.f (k : Nat) (a0 : ByteArray) : Option ((List (S27)) × Bool) := spec_ReadLog.l0 k a0 (([] : List (S27))) (([] : List (S27))) 0
theorem spec_ReadLog.mono_l : ∀ k, (∀ y0 y1 y2 y3, LeO (spec_ReadLog.l0 k y0 y1 y2 y3) (spec_ReadLog.l0 (k + 1) y0 y1 y2 y3)) ∧ (∀ y0 y1 y2 y3 y4, LeO (spec_ReadLog.j1 k y0 y1 y2 y3 y4) (spec_ReadLog.j1 (k + 1) y0 y1 y2 y3 y4))
 | 0 => ⟨fun _ _ _ _ r h => by simp [spec_ReadLog.l0] at h, fun _ _ _ _ _ r h => by simp [spec_ReadLog.j1] at h⟩
 | k + 1 => by
  obtain ⟨ih0, ih1⟩ := spec_ReadLog.mono_l k
  refine ⟨?_, ?_⟩
  ·intro y0 y1 y2 y3
   unfold spec_ReadLog.l0
   have m0 := @spec_LogText.mono
   have m1 := @spec_ReadFrame.mono
   have m2 := @spec_ReadShort.mono
   exact mo_
  ·intro y0 y1 y2 y3 y4
   unfold spec_ReadLog.j1
   have m0 := @spec_LogText.mono
   have m1 := @spec_ReadFrame.mono
   have m2 := @spec_ReadShort.mono
   exact mo_
theorem spec_ReadLog.mono : ∀ a0 k, LeO (spec_ReadLog.f k a0) (spec_ReadLog.f (k + 1) a0) := by
 intro a0 k
 obtain ⟨ih0, ih1⟩ := spec_ReadLog.mono_l k
 unfold spec_ReadLog.f
 have m0 := @spec_LogText.mono
 have m1 := @spec_ReadFrame.mono
 have m2 := @spec_ReadShort.mono
 exact mo_
theorem spec_ReadLog.calls (k : Nat) (a0 : ByteArray) (r1 : List (S27)) (r2 : Bool) (w : World) (h : spec_ReadLog.f k a0 = some (r1, r2)) :
 Calls Tryd.prog 29 #[.string a0] w fun e w' => ∃ v0_ : Value, e = .returned (.tuple #[v0_, .bool r2]) ∧ Kd.R k27 27 w' w.heap.size (fun _ => True) v0_ r1 ∧ Below w.heap.size w w' := by
 have hu80 := Tryd.underlying80
 have hu25 := Tryd.underlying25
 have hu27 := Tryd.underlying27
 have HB := Aside0.mk (Below.refl w.heap.size w)
 have H := h
 unfold spec_ReadLog.f at H
 clear h
 obtain ⟨y785, hy785⟩ : ∃ y_ : List (S27), y_ = (([] : List (S27))) := ⟨_, rfl⟩
 replace H : (spec_ReadLog.l0 k a0 y785 (([] : List (S27))) 0) = some (r1, r2) := rp_ H hy785
 have Ny785 := Aside0.mk hy785
 clear hy785
 obtain ⟨y788, hy788⟩ : ∃ y_ : List (S27), y_ = (([] : List (S27))) := ⟨_, rfl⟩
 replace H : (spec_ReadLog.l0 k a0 y785 y788 0) = some (r1, r2) := rp_ H hy788
 have Ny788 := Aside0.mk hy788
 clear hy788
 have H' := Aside0.mk H
 clear H
 go_enter Tryd.func29, Tryd.ntmps29
 go_wp2_with (first | ((with_reducible refine gate_dst (N := 14) rfl ?_); (try (refine gate_guard (by rfl) ?_; dsimp only)); refine Kd.R_lit k27 _ 27 ?hg (N := 14) ?hd (xs := ([] : List (S27))) (inner := []) (ok := fun _ => True) (okp := fun _ => True) ?hr ?hp (fun _ hk => hk) trivial (Below.refl _ _) (Nat.le_refl _) (by simp) ?_; (case hd => rfl); (case hg => rfl); (case hr => first | (go_simp; done) | (go_simp; rfl)); (case hp => exact (Reps.none _ _)); intro v786 w2 ho3 hb hg_ hnew_; clear hg_ hnew_; (first | rw [← Ny785.out] at ho3 | (simp only [Int.reduceToNat] at ho3; rw [← Ny785.out] at ho3)); have HO787 := Aside0.mk (Kd.R_lower ho3 (below_size bl_)); replace HB := Aside0.mk (below_step bl_ hb); clear hb ho3) | ((with_reducible refine gate_dst (N := 15) rfl ?_); (try (refine gate_guard (by rfl) ?_; dsimp only)); refine Kd.R_lit k27 _ 27 ?hg (N := 15) ?hd (xs := ([] : List (S27))) (inner := []) (ok := fun _ => True) (okp := fun _ => True) ?hr ?hp (fun _ hk => hk) trivial (Below.refl _ _) (Nat.le_refl _) (by simp) ?_; (case hd => rfl); (case hg => rfl); (case hr => first | (go_simp; done) | (go_simp; rfl)); (case hp => exact (Reps.none _ _)); intro v789 w4 ho5 hb hg_ hnew_; clear hg_ hnew_; (first | rw [← Ny788.out] at ho5 | (simp only [Int.reduceToNat] at ho5; rw [← Ny788.out] at ho5)); have HO790 := Aside0.mk (Kd.R_lower (Kd.R_new' ho5 (Kd.R_lt (ra_ HO787.out))) (below_size bl_)); replace HO787 := Aside0.mk (Kd.R_elder' (ra_ HO787.out) (Kd.R_base ho5) hb); replace HB := Aside0.mk (below_step bl_ hb); clear hb ho5))
 go_loopg [5, 6] k (fun kq v5 v6 w' => ∃ (x5_1 : List (S27)) (x6_1 : Int), v6 = .int .i64 x6_1 ∧ Aside0 (spec_ReadLog.l0 kq a0 y785 x5_1 x6_1 = some (r1, r2)) ∧ Aside0 (kq ≤ k) ∧ Aside0 (Kd.R k27 27 w' w.heap.size (fun k_ => some k_ ≠ (v5 : Value).ownBlock) v786 y785) ∧ Aside0 (Kd.R k27 27 w' w.heap.size (fun k_ => some k_ ≠ (v786 : Value).ownBlock) v5 x5_1) ∧ Aside0 (Below w.heap.size w w'))
 case atStart => exact ⟨(y788), (0), (sr_), H', ⟨Nat.le_refl _⟩, ⟨by (with_reducible repeat (first | apply Kd.R_alloc | apply Kd.R_drewN | apply Kd.R_drew)); exact Kd.R_mono HO787.out (fun _ hk => hk.2)⟩, ⟨by (with_reducible repeat (first | apply Kd.R_alloc | apply Kd.R_drewN | apply Kd.R_drew)); exact Kd.R_mono HO790.out (fun _ hk => hk.2)⟩, ⟨bl_⟩⟩
 clear H'
 obtain ⟨x5_1, x6_1, rfl, HA, HK1, HO_4, HO_5, HB⟩ := hrel
 cases gk with
 | zero => exact absurd HA.out (by simp [spec_ReadLog.l0])
 | succ k1 => ?_
 have H := HA.out
 clear HA
 simp only [spec_ReadLog.l0] at H
 have HC6 := Aside0.mk H
 clear H
 go_upto_region 4 with (fail)
 go_cut [24] (fun v24 wc => ∃ (kq : Nat) (x24_5 : Bool), v24 = .bool x24_5 ∧ Aside0 (spec_ReadLog.j1 kq a0 y785 x5_1 x6_1 x24_5 = some (r1, r2)) ∧ Aside0 (kq ≤ k1) ∧ Aside0 (Kd.R k27 27 wc w.heap.size (fun k_ => some k_ ≠ (u5 : Value).ownBlock) v786 y785) ∧ Aside0 (Kd.R k27 27 wc w.heap.size (fun k_ => some k_ ≠ (v786 : Value).ownBlock) u5 x5_1) ∧ Aside0 (Below w.heap.size w wc))
 case first =>
  have H := HC6.out
  clear HC6
  by_cases c7 : x6_1 < (a0.size : Int)
  rotate_left
  ·rw [if_neg c7] at H
   have c7b0 := decide_eq_false c7
   clear c7
   (first | rw [c7b0] | (simp only [i64_w, i32_w]; rw [c7b0]) | skip)
   have H' := Aside0.mk H
   clear H
   go_wp2
   go_meet
   case rel => exact ⟨_, (false), (sr_), H', ⟨by have := HK1.out; first | omega | exact Nat.le_refl _⟩, ⟨ra_ HO_4.out⟩, ⟨ra_ HO_5.out⟩, ⟨bl_⟩⟩
  rw [if_pos c7] at H
  have c7b0 := decide_eq_true c7
  clear c7
  (first | rw [c7b0] | (simp only [i64_w, i32_w]; rw [c7b0]) | skip)
  have H' := Aside0.mk H
  clear H
  obtain ⟨Ao8, co8, eo8⟩ := Kd.R_slice HO_5.out
  subst eo8
  go_wp2
  go_meet
  case rel => exact ⟨_, (decide ((x5_1.length : Int) ≤ 200)), (sr_), H', ⟨by have := HK1.out; first | omega | exact Nat.le_refl _⟩, ⟨ra_ HO_4.out⟩, ⟨ra_ HO_5.out⟩, ⟨bl_⟩⟩
 clear HC6
 obtain ⟨kq, x24_5, rfl, HA, HJ5, HO_4, HO_5, HB⟩ := hcut
 cases kq with
 | zero => exact absurd HA.out (by simp [spec_ReadLog.j1])
 | succ kj5 => ?_
 have H := HA.out
 clear HA
 simp only [spec_ReadLog.j1] at H
 by_cases c9 : x24_5 = true
 rotate_left
 ·replace c9 := Bool.eq_false_iff.mpr c9
  subst c9
  rw [nf_] at H
  replace H := bs_ H
  obtain ⟨⟨t791, t792⟩, A33, H⟩ := H
  try dsimp only at H
  by_cases c34 : t792 = true
  rotate_left
  ·replace c34 := Bool.eq_false_iff.mpr c34
   subst c34
   rw [nf_] at H
   simp only [Option.some.injEq, Prod.mk.injEq] at H
   obtain ⟨rfl, rfl⟩ := H
   obtain ⟨Ao40, co40, eo40⟩ := Kd.R_slice HO_5.out
   subst eo40
   go_wp2_with (first | ((with_reducible refine gate_callee (f := 26) rfl ?_); refine gs_ (some 62) Tryd.func26 #[.slice Ao40 x5_1.length co40] ?_; (with_reducible refine (spec_LogText.calls kj5 _ _ x5_1 t791 false _ ?side1 ?side2 A33.out).mono ?_); (case side1 => exact cs_ ((Kd.R_reads' HO_5.out).2.2)); (case side2 => exact (Kd.R_reads' HO_5.out).2.1); rintro e w41 ⟨rfl, hb⟩; refine ⟨_, rfl, ?_⟩; replace HO_4 := Aside0.mk (Kd.R_below (ra_ HO_4.out) hb); replace HO_5 := Aside0.mk (Kd.R_below (ra_ HO_5.out) hb); replace HB := Aside0.mk (below_step bl_ hb); (try clear hb)))
   go_ret2
   exact ⟨_, er_, by (with_reducible repeat (first | apply Kd.R_alloc | apply Kd.R_drewN | apply Kd.R_drew)); exact Kd.R_mono HO_4.out (fun _ hk => trivial), bl_⟩
  subst c34
  rw [if_pos rfl] at H
  by_cases c35 : t791.toList = a0.toList
  rotate_left
  ·rw [if_neg c35] at H
   have c35b0 : (t791.toList == a0.toList) = false := beq_eq_false_iff_ne.mpr c35
   have c35b1 : (t791.toList != a0.toList) = true := bne_iff_ne.mpr c35
   simp only [Option.some.injEq, Prod.mk.injEq] at H
   obtain ⟨rfl, rfl⟩ := H
   obtain ⟨Ao38, co38, eo38⟩ := Kd.R_slice HO_5.out
   subst eo38
   go_wp2_with (first | ((with_reducible refine gate_callee (f := 26) rfl ?_); refine gs_ (some 62) Tryd.func26 #[.slice Ao38 x5_1.length co38] ?_; (with_reducible refine (spec_LogText.calls kj5 _ _ x5_1 t791 true _ ?side1 ?side2 A33.out).mono ?_); (case side1 => exact cs_ ((Kd.R_reads' HO_5.out).2.2)); (case side2 => exact (Kd.R_reads' HO_5.out).2.1); rintro e w39 ⟨rfl, hb⟩; refine ⟨_, rfl, ?_⟩; replace HO_4 := Aside0.mk (Kd.R_below (ra_ HO_4.out) hb); replace HO_5 := Aside0.mk (Kd.R_below (ra_ HO_5.out) hb); replace HB := Aside0.mk (below_step bl_ hb); (try clear hb)))
   go_ret2
   exact ⟨_, er_, by (with_reducible repeat (first | apply Kd.R_alloc | apply Kd.R_drewN | apply Kd.R_drew)); exact Kd.R_mono HO_4.out (fun _ hk => trivial), bl_⟩
  rw [if_pos c35] at H
  have c35b0 : (t791.toList == a0.toList) = true := beq_iff_eq.mpr c35
  have c35b1 : (t791.toList != a0.toList) = false := bne_eq_false_iff_eq.mpr c35
  clear c35
  simp only [Option.some.injEq, Prod.mk.injEq] at H
  obtain ⟨rfl, rfl⟩ := H
  obtain ⟨Ao36, co36, eo36⟩ := Kd.R_slice HO_5.out
  subst eo36
  go_wp2_with (first | ((with_reducible refine gate_callee (f := 26) rfl ?_); refine gs_ (some 62) Tryd.func26 #[.slice Ao36 x5_1.length co36] ?_; (with_reducible refine (spec_LogText.calls kj5 _ _ x5_1 t791 true _ ?side1 ?side2 A33.out).mono ?_); (case side1 => exact cs_ ((Kd.R_reads' HO_5.out).2.2)); (case side2 => exact (Kd.R_reads' HO_5.out).2.1); rintro e w37 ⟨rfl, hb⟩; refine ⟨_, rfl, ?_⟩; replace HO_4 := Aside0.mk (Kd.R_below (ra_ HO_4.out) hb); replace HO_5 := Aside0.mk (Kd.R_below (ra_ HO_5.out) hb); replace HB := Aside0.mk (below_step bl_ hb); (try clear hb)))
  go_ret2
  exact ⟨_, er_, by (with_reducible repeat (first | apply Kd.R_alloc | apply Kd.R_drewN | apply Kd.R_drew)); exact Kd.R_mono HO_5.out (fun _ hk => trivial), bl_⟩
 subst c9
 rw [if_pos rfl] at H
 replace H := bs_ H
 obtain ⟨⟨t793, t794, t795⟩, A10, H⟩ := H
 try dsimp only at H
 replace H := bs_ H
 obtain ⟨⟨t796, t797, t798, t799, t800, t801, t802, t803⟩, A11, H⟩ := H
 try dsimp only at H
 by_cases c12 : t795 = true
 rotate_left
 ·replace c12 := Bool.eq_false_iff.mpr c12
  subst c12
  rw [nf_] at H
  simp only [Option.some.injEq, Prod.mk.injEq] at H
  obtain ⟨rfl, rfl⟩ := H
  go_wp2_with (first | ((with_reducible refine gate_callee (f := 77) rfl ?_); refine gs_ (some 28) Tryd.func77 #[.string a0, .int .i64 x6_1] ?_; (with_reducible refine (spec_ReadShort.calls kj5 a0 x6_1 t793 t794 false _ A10.out).mono ?_); rintro e w29 ⟨rfl, hb⟩; refine ⟨_, rfl, ?_⟩; replace HO_4 := Aside0.mk (Kd.R_below (ra_ HO_4.out) hb); replace HO_5 := Aside0.mk (Kd.R_below (ra_ HO_5.out) hb); replace HB := Aside0.mk (below_step bl_ hb); (try clear hb)) | ((with_reducible refine gate_callee (f := 78) rfl ?_); refine gs_ (some 34) Tryd.func78 #[.string t793] ?_; (with_reducible refine (spec_ReadFrame.calls kj5 t793 t796 t797 t798 t799 t800 t801 t802 t803 _ A11.out).mono ?_); rintro e w30 ⟨rfl, hb⟩; refine ⟨_, rfl, ?_⟩; replace HO_4 := Aside0.mk (Kd.R_below (ra_ HO_4.out) hb); replace HO_5 := Aside0.mk (Kd.R_below (ra_ HO_5.out) hb); replace HB := Aside0.mk (below_step bl_ hb); (try clear hb)) | ((with_reducible refine gate_dst (N := 10) rfl ?_); (try (refine gate_guard (by rfl) ?_; dsimp only)); refine bx_ 10 80 #[.int .i64 0, .int .i64 0, .int .i64 0, .int .i64 0, .int .i64 0, .int .i64 0, .int .i64 0] ?_; intro gb804 hg w31 hbox hb; replace HO_4 := Aside0.mk (Kd.R_below (ra_ HO_4.out) hb); replace HO_5 := Aside0.mk (Kd.R_below (ra_ HO_5.out) hb); have BK804 := Aside0.mk (hbox); have GW804 := Aside0.mk ((hz_ : w.heap.size ≤ gb804)); have GE804 := Aside0.mk ((hz_ : w.heap.size ≤ gb804)); replace HB := Aside0.mk (below_step bl_ hb); clear hb hbox hg; obtain ⟨hcz32_0, hcz32_1, hcz32_2, hcz32_3, hcz32_4, hcz32_5, hcz32_6, hfz32_0, hfz32_1, hfz32_2, hfz32_3, hfz32_4, hfz32_5, hfz32_6⟩ := cf7_ BK804.out))
  go_ret2
  exact ⟨_, er_, by (with_reducible repeat (first | apply Kd.R_alloc | apply Kd.R_drewN | apply Kd.R_drew)); exact Kd.R_mono (Kd.R_far (p := ⟨gb804, 6, none⟩) (Kd.R_far (p := ⟨gb804, 5, none⟩) (Kd.R_far (p := ⟨gb804, 4, none⟩) (Kd.R_far (p := ⟨gb804, 3, none⟩) (Kd.R_far (p := ⟨gb804, 2, none⟩) (Kd.R_far (p := ⟨gb804, 1, none⟩) (Kd.R_far (p := ⟨gb804, 0, none⟩) (Kd.R_types HO_4.out BK804.out (by decide)) (fun _ hk => hk.2) (.int .i64 t796)) (fun _ hk => hk.2) (.int .i64 t797)) (fun _ hk => hk.2) (.int .i64 t798)) (fun _ hk => hk.2) (.int .i64 t799)) (fun _ hk => hk.2) (.int .i64 t800)) (fun _ hk => hk.2) (.int .i64 t801)) (fun _ hk => hk.2) (.int .i64 t802)) (fun _ hk => trivial), bl_⟩
 subst c12
 rw [if_pos rfl] at H
 by_cases c13 : t803 = true
 rotate_left
 ·replace c13 := Bool.eq_false_iff.mpr c13
  subst c13
  rw [nf_] at H
  simp only [Option.some.injEq, Prod.mk.injEq] at H
  obtain ⟨rfl, rfl⟩ := H
  go_wp2_with (first | ((with_reducible refine gate_callee (f := 77) rfl ?_); refine gs_ (some 28) Tryd.func77 #[.string a0, .int .i64 x6_1] ?_; (with_reducible refine (spec_ReadShort.calls kj5 a0 x6_1 t793 t794 true _ A10.out).mono ?_); rintro e w25 ⟨rfl, hb⟩; refine ⟨_, rfl, ?_⟩; replace HO_4 := Aside0.mk (Kd.R_below (ra_ HO_4.out) hb); replace HO_5 := Aside0.mk (Kd.R_below (ra_ HO_5.out) hb); replace HB := Aside0.mk (below_step bl_ hb); (try clear hb)) | ((with_reducible refine gate_callee (f := 78) rfl ?_); refine gs_ (some 34) Tryd.func78 #[.string t793] ?_; (with_reducible refine (spec_ReadFrame.calls kj5 t793 t796 t797 t798 t799 t800 t801 t802 false _ A11.out).mono ?_); rintro e w26 ⟨rfl, hb⟩; refine ⟨_, rfl, ?_⟩; replace HO_4 := Aside0.mk (Kd.R_below (ra_ HO_4.out) hb); replace HO_5 := Aside0.mk (Kd.R_below (ra_ HO_5.out) hb); replace HB := Aside0.mk (below_step bl_ hb); (try clear hb)) | ((with_reducible refine gate_dst (N := 10) rfl ?_); (try (refine gate_guard (by rfl) ?_; dsimp only)); refine bx_ 10 80 #[.int .i64 0, .int .i64 0, .int .i64 0, .int .i64 0, .int .i64 0, .int .i64 0, .int .i64 0] ?_; intro gb804 hg w27 hbox hb; replace HO_4 := Aside0.mk (Kd.R_below (ra_ HO_4.out) hb); replace HO_5 := Aside0.mk (Kd.R_below (ra_ HO_5.out) hb); have BK804 := Aside0.mk (hbox); have GW804 := Aside0.mk ((hz_ : w.heap.size ≤ gb804)); have GE804 := Aside0.mk ((hz_ : w.heap.size ≤ gb804)); replace HB := Aside0.mk (below_step bl_ hb); clear hb hbox hg; obtain ⟨hcz28_0, hcz28_1, hcz28_2, hcz28_3, hcz28_4, hcz28_5, hcz28_6, hfz28_0, hfz28_1, hfz28_2, hfz28_3, hfz28_4, hfz28_5, hfz28_6⟩ := cf7_ BK804.out))
  go_ret2
  exact ⟨_, er_, by (with_reducible repeat (first | apply Kd.R_alloc | apply Kd.R_drewN | apply Kd.R_drew)); exact Kd.R_mono (Kd.R_far (p := ⟨gb804, 6, none⟩) (Kd.R_far (p := ⟨gb804, 5, none⟩) (Kd.R_far (p := ⟨gb804, 4, none⟩) (Kd.R_far (p := ⟨gb804, 3, none⟩) (Kd.R_far (p := ⟨gb804, 2, none⟩) (Kd.R_far (p := ⟨gb804, 1, none⟩) (Kd.R_far (p := ⟨gb804, 0, none⟩) (Kd.R_types HO_4.out BK804.out (by decide)) (fun _ hk => hk.2) (.int .i64 t796)) (fun _ hk => hk.2) (.int .i64 t797)) (fun _ hk => hk.2) (.int .i64 t798)) (fun _ hk => hk.2) (.int .i64 t799)) (fun _ hk => hk.2) (.int .i64 t800)) (fun _ hk => hk.2) (.int .i64 t801)) (fun _ hk => hk.2) (.int .i64 t802)) (fun _ hk => trivial), bl_⟩
 subst c13
 rw [if_pos rfl] at H
 by_cases c14 : t796 = 1
 rotate_left
 ·rw [if_neg c14] at H
  have c14b0 : (t796 == 1) = false := beq_eq_false_iff_ne.mpr c14
  have c14b1 : (t796 != 1) = true := bne_iff_ne.mpr c14
  simp only [Option.some.injEq, Prod.mk.injEq] at H
  obtain ⟨rfl, rfl⟩ := H
  go_wp2_with (first | ((with_reducible refine gate_callee (f := 77) rfl ?_); refine gs_ (some 28) Tryd.func77 #[.string a0, .int .i64 x6_1] ?_; (with_reducible refine (spec_ReadShort.calls kj5 a0 x6_1 t793 t794 true _ A10.out).mono ?_); rintro e w21 ⟨rfl, hb⟩; refine ⟨_, rfl, ?_⟩; replace HO_4 := Aside0.mk (Kd.R_below (ra_ HO_4.out) hb); replace HO_5 := Aside0.mk (Kd.R_below (ra_ HO_5.out) hb); replace HB := Aside0.mk (below_step bl_ hb); (try clear hb)) | ((with_reducible refine gate_callee (f := 78) rfl ?_); refine gs_ (some 34) Tryd.func78 #[.string t793] ?_; (with_reducible refine (spec_ReadFrame.calls kj5 t793 t796 t797 t798 t799 t800 t801 t802 true _ A11.out).mono ?_); rintro e w22 ⟨rfl, hb⟩; refine ⟨_, rfl, ?_⟩; replace HO_4 := Aside0.mk (Kd.R_below (ra_ HO_4.out) hb); replace HO_5 := Aside0.mk (Kd.R_below (ra_ HO_5.out) hb); replace HB := Aside0.mk (below_step bl_ hb); (try clear hb)) | ((with_reducible refine gate_dst (N := 10) rfl ?_); (try (refine gate_guard (by rfl) ?_; dsimp only)); refine bx_ 10 80 #[.int .i64 0, .int .i64 0, .int .i64 0, .int .i64 0, .int .i64 0, .int .i64 0, .int .i64 0] ?_; intro gb804 hg w23 hbox hb; replace HO_4 := Aside0.mk (Kd.R_below (ra_ HO_4.out) hb); replace HO_5 := Aside0.mk (Kd.R_below (ra_ HO_5.out) hb); have BK804 := Aside0.mk (hbox); have GW804 := Aside0.mk ((hz_ : w.heap.size ≤ gb804)); have GE804 := Aside0.mk ((hz_ : w.heap.size ≤ gb804)); replace HB := Aside0.mk (below_step bl_ hb); clear hb hbox hg; obtain ⟨hcz24_0, hcz24_1, hcz24_2, hcz24_3, hcz24_4, hcz24_5, hcz24_6, hfz24_0, hfz24_1, hfz24_2, hfz24_3, hfz24_4, hfz24_5, hfz24_6⟩ := cf7_ BK804.out))
  go_ret2
  exact ⟨_, er_, by (with_reducible repeat (first | apply Kd.R_alloc | apply Kd.R_drewN | apply Kd.R_drew)); exact Kd.R_mono (Kd.R_far (p := ⟨gb804, 6, none⟩) (Kd.R_far (p := ⟨gb804, 5, none⟩) (Kd.R_far (p := ⟨gb804, 4, none⟩) (Kd.R_far (p := ⟨gb804, 3, none⟩) (Kd.R_far (p := ⟨gb804, 2, none⟩) (Kd.R_far (p := ⟨gb804, 1, none⟩) (Kd.R_far (p := ⟨gb804, 0, none⟩) (Kd.R_types HO_4.out BK804.out (by decide)) (fun _ hk => hk.2) (.int .i64 t796)) (fun _ hk => hk.2) (.int .i64 t797)) (fun _ hk => hk.2) (.int .i64 t798)) (fun _ hk => hk.2) (.int .i64 t799)) (fun _ hk => hk.2) (.int .i64 t800)) (fun _ hk => hk.2) (.int .i64 t801)) (fun _ hk => hk.2) (.int .i64 t802)) (fun _ hk => trivial), bl_⟩
 rw [if_pos c14] at H
 have c14b0 : (t796 == 1) = true := beq_iff_eq.mpr c14
 have c14b1 : (t796 != 1) = false := bne_eq_false_iff_eq.mpr c14
 clear c14
 by_cases c15 : x5_1.length < 2932031007402
 rotate_left
 ·exact nn_ c15 H
 rw [if_pos c15] at H
 have LMc15 := Aside0.mk c15
 clear c15
 obtain ⟨y805, hy805⟩ : ∃ y_ : List (S27), y_ = (x5_1 ++ [(⟨t797, t798, (⟨t799, t800, t801, t802⟩ : S25)⟩ : S27)]) := ⟨_, rfl⟩
 replace H : (spec_ReadLog.l0 kj5 a0 y785 y805 t794) = some (r1, r2) := rp_ H hy805
 have Ny805 := Aside0.mk hy805
 clear hy805
 have H' := Aside0.mk H
 clear H
 go_wp2_with (first | ((with_reducible refine gate_callee (f := 77) rfl ?_); refine gs_ (some 28) Tryd.func77 #[.string a0, .int .i64 x6_1] ?_; (with_reducible refine (spec_ReadShort.calls kj5 a0 x6_1 t793 t794 true _ A10.out).mono ?_); rintro e w16 ⟨rfl, hb⟩; refine ⟨_, rfl, ?_⟩; replace HO_4 := Aside0.mk (Kd.R_below (ra_ HO_4.out) hb); replace HO_5 := Aside0.mk (Kd.R_below (ra_ HO_5.out) hb); replace HB := Aside0.mk (below_step bl_ hb); (try clear hb)) | ((with_reducible refine gate_callee (f := 78) rfl ?_); refine gs_ (some 34) Tryd.func78 #[.string t793] ?_; (with_reducible refine (spec_ReadFrame.calls kj5 t793 t796 t797 t798 t799 t800 t801 t802 true _ A11.out).mono ?_); rintro e w17 ⟨rfl, hb⟩; refine ⟨_, rfl, ?_⟩; replace HO_4 := Aside0.mk (Kd.R_below (ra_ HO_4.out) hb); replace HO_5 := Aside0.mk (Kd.R_below (ra_ HO_5.out) hb); replace HB := Aside0.mk (below_step bl_ hb); (try clear hb)) | ((with_reducible refine gate_dst (N := 10) rfl ?_); (try (refine gate_guard (by rfl) ?_; dsimp only)); refine bx_ 10 80 #[.int .i64 0, .int .i64 0, .int .i64 0, .int .i64 0, .int .i64 0, .int .i64 0, .int .i64 0] ?_; intro gb804 hg w18 hbox hb; replace HO_4 := Aside0.mk (Kd.R_below (ra_ HO_4.out) hb); replace HO_5 := Aside0.mk (Kd.R_below (ra_ HO_5.out) hb); have BK804 := Aside0.mk (hbox); have GW804 := Aside0.mk ((hz_ : w.heap.size ≤ gb804)); have GE804 := Aside0.mk ((hz_ : w.heap.size ≤ gb804)); replace HB := Aside0.mk (below_step bl_ hb); clear hb hbox hg; obtain ⟨hcz19_0, hcz19_1, hcz19_2, hcz19_3, hcz19_4, hcz19_5, hcz19_6, hfz19_0, hfz19_1, hfz19_2, hfz19_3, hfz19_4, hfz19_5, hfz19_6⟩ := cf7_ BK804.out) | ((with_reducible refine gate_builtin (b := .append) (xs := #[.tmp 49, .tmp 57]) rfl ?_); (try (refine gate_guard (by rfl) ?_; dsimp only)); at_builtin; refine Kd.R_append k27 (w0 := w) w.heap.size rfl (.tmp 49) (.tmp 57) 31 27 (.agg #[(.int .i64 0), (.int .i64 0), (.int .i64 0), (.int .i64 0), (.int .i64 0), (.int .i64 0)]) 48 rfl Tryd.underlying31 info27 rfl (by decide) (by omega) u5 x5_1 (⟨t797, t798, (⟨t799, t800, t801, t802⟩ : S25)⟩ : S27) [.int .i64 t797, .int .i64 t798, .int .i64 t799, .int .i64 t800, .int .i64 t801, .int .i64 t802] (fun k_ => some k_ ≠ (v786 : Value).ownBlock) (fun _ => False) rfl (by first | (go_simp; done) | (go_simp; rfl)) ?aP (fun _ hk => hk.elim) ?aF ?aO ?aB ?aS ?aL ?_; (case aP => exact k27_mkM _ _ _ (⟨t797, t798, (⟨t799, t800, t801, t802⟩ : S25)⟩ : S27)); (case aB => exact bl_); (case aF => exact (fun k_ hk => Kd.fresh' (Kd.R_lt (rfa_ HO_4.out BK804.out)) k_ hk)); (case aO => exact (by (with_reducible repeat (first | apply Kd.R_alloc | apply Kd.R_drewN | apply Kd.R_drew)); exact Kd.R_mono (Kd.R_far (p := ⟨gb804, 6, none⟩) (Kd.R_far (p := ⟨gb804, 5, none⟩) (Kd.R_far (p := ⟨gb804, 4, none⟩) (Kd.R_far (p := ⟨gb804, 3, none⟩) (Kd.R_far (p := ⟨gb804, 2, none⟩) (Kd.R_far (p := ⟨gb804, 1, none⟩) (Kd.R_far (p := ⟨gb804, 0, none⟩) (Kd.R_types HO_5.out BK804.out (by decide)) (fun _ hk => hk.2) (.int .i64 t796)) (fun _ hk => hk.2) (.int .i64 t797)) (fun _ hk => hk.2) (.int .i64 t798)) (fun _ hk => hk.2) (.int .i64 t799)) (fun _ hk => hk.2) (.int .i64 t800)) (fun _ hk => hk.2) (.int .i64 t801)) (fun _ hk => hk.2) (.int .i64 t802)) (fun _ hk => hk.1))); (case aS => exact (below_size bl_)); (case aL => have := LMc15.out; omega); intro v806 w20 ho hb hg hat; rw [← Ny805.out] at ho; replace HO_4 := Aside0.mk (Kd.R_after (ok := (fun _ => True)) (by (with_reducible repeat (first | apply Kd.R_alloc | apply Kd.R_drewN | apply Kd.R_drew)); exact Kd.R_mono (Kd.R_far (p := ⟨gb804, 6, none⟩) (Kd.R_far (p := ⟨gb804, 5, none⟩) (Kd.R_far (p := ⟨gb804, 4, none⟩) (Kd.R_far (p := ⟨gb804, 3, none⟩) (Kd.R_far (p := ⟨gb804, 2, none⟩) (Kd.R_far (p := ⟨gb804, 1, none⟩) (Kd.R_far (p := ⟨gb804, 0, none⟩) (Kd.R_types HO_4.out BK804.out (by decide)) (fun _ hk => hk.2) (.int .i64 t796)) (fun _ hk => hk.2) (.int .i64 t797)) (fun _ hk => hk.2) (.int .i64 t798)) (fun _ hk => hk.2) (.int .i64 t799)) (fun _ hk => hk.2) (.int .i64 t800)) (fun _ hk => hk.2) (.int .i64 t801)) (fun _ hk => hk.2) (.int .i64 t802)) (fun _ hk => ⟨trivial, hk.1⟩)) hg hat); replace BK804 := Aside0.mk (blk_grown (g := gb804) (o := .cells #[.int .i64 t796, .int .i64 t797, .int .i64 t798, .int .i64 t799, .int .i64 t800, .int .i64 t801, .int .i64 t802] 80 (0, 0)) (bp0_ BK804.out) hg (Kd.R_ne HO_5.out BK804.out (by decide))); replace HB := Aside0.mk (hb); have HO807 := Aside0.mk (ho); clear HO_5; clear ho hb hg hat))
 go_roundg kj5
 case measure => have := HK1.out; have := HJ5.out; omega
 case rel => exact ⟨(y805), (t794), (sr_), H', ⟨by have := HK1.out; have := HJ5.out; omega⟩, ⟨by (with_reducible repeat (first | apply Kd.R_alloc | apply Kd.R_drewN | apply Kd.R_drew)); exact Kd.R_mono HO_4.out (fun _ hk => hk.2)⟩, ⟨ra_ HO807.out⟩, ⟨bl_⟩⟩

end Go.Proofs.YtdlapahfmfhbjaaDoor.PA
