/- Contracts of functions of the program and of the reference, and plain lemmas on what they compute. No condition. -/
import Derived.Test.YtdhjolglbcoijaaDoorG88178x0
import Derived.Test.YtdhjolglbcoijaaDoorG88178x2
import Derived.Test.YtdhjolglbcoijaaDoorG88178x1
import Derived.Test.YtdhjolglbcoijaaDoorShortV
set_option maxHeartbeats 8000000
set_option maxRecDepth 100000
namespace Go.Proofs.YtdhjolglbcoijaaDoor.PA
open Go.RowKit Go.Proofs.YtdhjolglbcoijaaDoor.Short Go.Proofs.YtdhjolglbcoijaaDoorW.PrintWords Go.Proofs.YtdhjolglbcoijaaDoorW.PrintLast Go.Proofs.YtdhjolglbcoijaaDoorW.PrintMore
attribute [local go_sem] max2_int min2_int max_two min_two max_three min_three max_four min_four   -- for this text's walks alone
set_option linter.unusedVariables false
set_option linter.unusedSimpArgs false

def impl_ReadShort.f (k : Nat) (a0 : ByteArray) (a1 : Int) : Option (ByteArray × Int × Bool) := (impl_ReadVar.f k a0 a1).bind fun bt332 => (if bt332.2.2 = true then (if bt332.1 > 20000 then (some ((⟨#[]⟩ : ByteArray), 0, false)) else (if bt332.1 > (wrap64 ((a0.size : Int) - bt332.2.1)) then (some ((⟨#[]⟩ : ByteArray), 0, false)) else (if 0 ≤ bt332.2.1 then (if bt332.2.1 ≤ (wrap64 (bt332.2.1 + bt332.1)) then (if (wrap64 (bt332.2.1 + bt332.1)) ≤ (a0.size : Int) then (some (a0.extract (bt332.2.1 : Int).toNat ((wrap64 (bt332.2.1 + bt332.1)) : Int).toNat, wrap64 (bt332.2.1 + bt332.1), true)) else (none)) else (none)) else (none)))) else (some ((⟨#[]⟩ : ByteArray), 0, false)))
theorem impl_ReadShort.mono : ∀ a0 a1 k, LeO (impl_ReadShort.f k a0 a1) (impl_ReadShort.f (k + 1) a0 a1) := by
 intro a0 a1 k
 unfold impl_ReadShort.f
 have m0 := @impl_ReadVar.mono
 exact mo_
theorem impl_ReadShort.calls (k : Nat) (a0 : ByteArray) (a1 : Int) (r1 : ByteArray) (r2 : Int) (r3 : Bool) (w : World) (h : impl_ReadShort.f k a0 a1 = some (r1, r2, r3)) :
 Calls Tryd.prog 92 #[.string a0, .int .i64 a1] w fun e w' => e = .returned (.tuple #[.string r1, .int .i64 r2, .bool r3]) ∧ Below w.heap.size w w' := by
 have HB := Aside0.mk (Below.refl w.heap.size w)
 have H := h
 unfold impl_ReadShort.f at H
 clear h
 replace H := bs_ H
 obtain ⟨⟨t332, t333, t334⟩, A3, H⟩ := H
 try dsimp only at H
 by_cases c4 : t334 = true
 rotate_left
 ·replace c4 := Bool.eq_false_iff.mpr c4
  subst c4
  rw [nf_] at H
  simp only [Option.some.injEq, Prod.mk.injEq] at H
  obtain ⟨rfl, rfl, rfl⟩ := H
  go_enter Tryd.func92, Tryd.ntmps92
  go_wp2_with (first | ((with_reducible refine gate_callee (f := 91) rfl ?_); refine gs_ (some 13) Tryd.func91 #[.string a0, .int .i64 a1] ?_; (with_reducible refine (impl_ReadVar.calls k a0 a1 t332 t333 false _ A3.out).mono ?_); rintro e w13 ⟨rfl, hb⟩; refine ⟨_, rfl, ?_⟩; replace HB := Aside0.mk (below_step bl_ hb); (try clear hb)))
  go_ret3
  exact ⟨er_, bl_⟩
 subst c4
 rw [if_pos rfl] at H
 by_cases c5 : t332 > 20000
 ·rw [if_pos c5] at H
  have c5b0 := decide_eq_true c5
  clear c5
  simp only [Option.some.injEq, Prod.mk.injEq] at H
  obtain ⟨rfl, rfl, rfl⟩ := H
  go_enter Tryd.func92, Tryd.ntmps92
  go_wp2_with (first | ((with_reducible refine gate_callee (f := 91) rfl ?_); refine gs_ (some 13) Tryd.func91 #[.string a0, .int .i64 a1] ?_; (with_reducible refine (impl_ReadVar.calls k a0 a1 t332 t333 true _ A3.out).mono ?_); rintro e w6 ⟨rfl, hb⟩; refine ⟨_, rfl, ?_⟩; replace HB := Aside0.mk (below_step bl_ hb); (try clear hb)))
  go_ret3
  exact ⟨er_, bl_⟩
 rw [if_neg c5] at H
 have c5b0 := decide_eq_false c5
 clear c5
 by_cases c7 : t332 > (wrap64 ((a0.size : Int) - t333))
 ·rw [if_pos c7] at H
  have c7b0 := decide_eq_true c7
  clear c7
  simp only [Option.some.injEq, Prod.mk.injEq] at H
  obtain ⟨rfl, rfl, rfl⟩ := H
  go_enter Tryd.func92, Tryd.ntmps92
  go_wp2_with (first | ((with_reducible refine gate_callee (f := 91) rfl ?_); refine gs_ (some 13) Tryd.func91 #[.string a0, .int .i64 a1] ?_; (with_reducible refine (impl_ReadVar.calls k a0 a1 t332 t333 true _ A3.out).mono ?_); rintro e w8 ⟨rfl, hb⟩; refine ⟨_, rfl, ?_⟩; replace HB := Aside0.mk (below_step bl_ hb); (try clear hb)))
  go_ret3
  exact ⟨er_, bl_⟩
 rw [if_neg c7] at H
 have c7b0 := decide_eq_false c7
 clear c7
 by_cases c9 : 0 ≤ t333
 rotate_left
 ·exact nn_ c9 H
 rw [if_pos c9] at H
 have c9b0 := eq_true c9
 have c9b1 : decide (0 ≤ t333) = true := decide_eq_true c9
 clear c9
 by_cases c10 : t333 ≤ (wrap64 (t333 + t332))
 rotate_left
 ·exact nn_ c10 H
 rw [if_pos c10] at H
 have c10b0 := eq_true c10
 have c10b1 : decide (t333 ≤ (wrap64 (t333 + t332))) = true := decide_eq_true c10
 by_cases c11 : (wrap64 (t333 + t332)) ≤ (a0.size : Int)
 rotate_left
 ·exact nn_ c11 H
 rw [if_pos c11] at H
 have c11b0 := eq_true c11
 have c11b1 : decide ((wrap64 (t333 + t332)) ≤ (a0.size : Int)) = true := decide_eq_true c11
 simp only [Option.some.injEq, Prod.mk.injEq] at H
 obtain ⟨rfl, rfl, rfl⟩ := H
 go_enter Tryd.func92, Tryd.ntmps92
 go_wp2_with (first | ((with_reducible refine gate_callee (f := 91) rfl ?_); refine gs_ (some 13) Tryd.func91 #[.string a0, .int .i64 a1] ?_; (with_reducible refine (impl_ReadVar.calls k a0 a1 t332 t333 true _ A3.out).mono ?_); rintro e w12 ⟨rfl, hb⟩; refine ⟨_, rfl, ?_⟩; replace HB := Aside0.mk (below_step bl_ hb); (try clear hb)))
 go_ret3
 exact ⟨er_, bl_⟩


def impl_fourAt.f (a0 : ByteArray) (a1 : Int) : Option (Int) := if 0 ≤ a1 then (if a1 < (a0.size : Int) then (if 0 ≤ (wrap64 (a1 + 1)) then (if (wrap64 (a1 + 1)) < (a0.size : Int) then (if 0 ≤ (wrap64 (a1 + 2)) then (if (wrap64 (a1 + 2)) < (a0.size : Int) then (if 0 ≤ (wrap64 (a1 + 3)) then (if (wrap64 (a1 + 3)) < (a0.size : Int) then (some (Go.bits .or .i64 (Go.bits .or .i64 (Go.bits .or .i64 (wrap64 ((wrap64 (bt a0 a1)) * 16777216)) (wrap64 ((wrap64 (bt a0 (wrap64 (a1 + 1)))) * 65536))) (wrap64 ((wrap64 (bt a0 (wrap64 (a1 + 2)))) * 256))) (wrap64 (bt a0 (wrap64 (a1 + 3)))))) else (none)) else (none)) else (none)) else (none)) else (none)) else (none)) else (none)) else (none)
theorem impl_fourAt.calls (a0 : ByteArray) (a1 : Int) (r : Int) (w : World) (h : impl_fourAt.f a0 a1 = some r) :
 Calls Tryd.prog 122 #[.string a0, .int .i64 a1] w fun e w' => e = .returned (.int .i64 r) ∧ Drawn0 w w' := by
 have H := h
 unfold impl_fourAt.f at H
 clear h
 by_cases c3 : 0 ≤ a1
 rotate_left
 ·exact nn_ c3 H
 rw [if_pos c3] at H
 have c3b0 := decide_eq_true c3
 clear c3
 by_cases c4 : a1 < (a0.size : Int)
 rotate_left
 ·exact nn_ c4 H
 rw [if_pos c4] at H
 have c4b0 := decide_eq_true c4
 clear c4
 obtain ⟨ji6, hji6⟩ : ∃ j_ : Int, (wrap64 (a1 + 1)) = j_ := ⟨_, rfl⟩
 replace H : (if 0 ≤ (ji6) then (if (ji6) < (a0.size : Int) then (if 0 ≤ (wrap64 (a1 + 2)) then (if (wrap64 (a1 + 2)) < (a0.size : Int) then (if 0 ≤ (wrap64 (a1 + 3)) then (if (wrap64 (a1 + 3)) < (a0.size : Int) then (some (Go.bits .or .i64 (Go.bits .or .i64 (Go.bits .or .i64 (wrap64 ((wrap64 (bt a0 a1)) * 16777216)) (wrap64 ((wrap64 (bt a0 (ji6))) * 65536))) (wrap64 ((wrap64 (bt a0 (wrap64 (a1 + 2)))) * 256))) (wrap64 (bt a0 (wrap64 (a1 + 3)))))) else (none)) else (none)) else (none)) else (none)) else (none)) else (none)) = some r := by first | (rw [hji6] at H; exact H) | (simp only [hji6] at H ⊢; exact H)
 have hji6w : (IntKind.i64.wrap (a1 + 1)) = ji6 := (i64_w _).trans hji6
 by_cases c7 : 0 ≤ (ji6)
 rotate_left
 ·exact nn_ c7 H
 rw [if_pos c7] at H
 have c7b0 := decide_eq_true c7
 clear c7
 by_cases c8 : (ji6) < (a0.size : Int)
 rotate_left
 ·exact nn_ c8 H
 rw [if_pos c8] at H
 have c8b0 := decide_eq_true c8
 clear c8
 obtain ⟨ji10, hji10⟩ : ∃ j_ : Int, (wrap64 (a1 + 2)) = j_ := ⟨_, rfl⟩
 replace H : (if 0 ≤ (ji10) then (if (ji10) < (a0.size : Int) then (if 0 ≤ (wrap64 (a1 + 3)) then (if (wrap64 (a1 + 3)) < (a0.size : Int) then (some (Go.bits .or .i64 (Go.bits .or .i64 (Go.bits .or .i64 (wrap64 ((wrap64 (bt a0 a1)) * 16777216)) (wrap64 ((wrap64 (bt a0 (ji6))) * 65536))) (wrap64 ((wrap64 (bt a0 (ji10))) * 256))) (wrap64 (bt a0 (wrap64 (a1 + 3)))))) else (none)) else (none)) else (none)) else (none)) = some r := by first | (rw [hji10] at H; exact H) | (simp only [hji10] at H ⊢; exact H)
 have hji10w : (IntKind.i64.wrap (a1 + 2)) = ji10 := (i64_w _).trans hji10
 by_cases c11 : 0 ≤ (ji10)
 rotate_left
 ·exact nn_ c11 H
 rw [if_pos c11] at H
 have c11b0 := decide_eq_true c11
 clear c11
 by_cases c12 : (ji10) < (a0.size : Int)
 rotate_left
 ·exact nn_ c12 H
 rw [if_pos c12] at H
 have c12b0 := decide_eq_true c12
 clear c12
 obtain ⟨ji14, hji14⟩ : ∃ j_ : Int, (wrap64 (a1 + 3)) = j_ := ⟨_, rfl⟩
 replace H : (if 0 ≤ (ji14) then (if (ji14) < (a0.size : Int) then (some (Go.bits .or .i64 (Go.bits .or .i64 (Go.bits .or .i64 (wrap64 ((wrap64 (bt a0 a1)) * 16777216)) (wrap64 ((wrap64 (bt a0 (ji6))) * 65536))) (wrap64 ((wrap64 (bt a0 (ji10))) * 256))) (wrap64 (bt a0 (ji14))))) else (none)) else (none)) = some r := by first | (rw [hji14] at H; exact H) | (simp only [hji14] at H ⊢; exact H)
 have hji14w : (IntKind.i64.wrap (a1 + 3)) = ji14 := (i64_w _).trans hji14
 by_cases c15 : 0 ≤ (ji14)
 rotate_left
 ·exact nn_ c15 H
 rw [if_pos c15] at H
 have c15b0 := decide_eq_true c15
 clear c15
 by_cases c16 : (ji14) < (a0.size : Int)
 rotate_left
 ·exact nn_ c16 H
 rw [if_pos c16] at H
 have c16b0 := decide_eq_true c16
 clear c16
 obtain rfl := Option.some.inj H
 have p5 : 0 ≤ (a1 : Int) := of_decide_eq_true as_
 have q5 : a1 < (a0.size : Int) := of_decide_eq_true as_
 have hx5 := bt_at a0 a1
 replace p5 := eq_true p5
 replace q5 := eq_true q5
 have p9 : 0 ≤ ((ji6) : Int) := of_decide_eq_true as_
 have q9 : (ji6) < (a0.size : Int) := of_decide_eq_true as_
 have hx9 := bt_at a0 (ji6)
 replace p9 := eq_true p9
 replace q9 := eq_true q9
 have p13 : 0 ≤ ((ji10) : Int) := of_decide_eq_true as_
 have q13 : (ji10) < (a0.size : Int) := of_decide_eq_true as_
 have hx13 := bt_at a0 (ji10)
 replace p13 := eq_true p13
 replace q13 := eq_true q13
 have p17 : 0 ≤ ((ji14) : Int) := of_decide_eq_true as_
 have q17 : (ji14) < (a0.size : Int) := of_decide_eq_true as_
 have hx17 := bt_at a0 (ji14)
 replace p17 := eq_true p17
 replace q17 := eq_true q17
 go_enter Tryd.func122, Tryd.ntmps122
 go_wp2
 repeat (go_quiet (fail); try go_wp2)
 go_ret
 exact ⟨by first | rfl | (simp; done) | (simp only [← hji6, ← hji10, ← hji14] <;> (first | rfl | simp)) | (simp [*]; done), by repeat (first | exact Drawn0.refl _ | apply Drawn0.step)⟩


def impl_Unsealed.f (k : Nat) (a0 : ByteArray) : Option (ByteArray × Bool) := (impl_within.f (wrap64 ((a0.size : Int) - 4)) 0 20000).bind fun t335 => (if t335 = true then (if 0 ≤ (wrap64 ((a0.size : Int) - 4)) then (if (wrap64 ((a0.size : Int) - 4)) ≤ (a0.size : Int) then ((impl_SumOf.f k (a0.extract 0 ((wrap64 ((a0.size : Int) - 4)) : Int).toNat)).bind fun t336 => ((impl_fourAt.f a0 (wrap64 ((a0.size : Int) - 4))).bind fun t337 => (if (wrap64 (t336)) = t337 then (some (a0.extract 0 ((wrap64 ((a0.size : Int) - 4)) : Int).toNat, true)) else (some ((⟨#[]⟩ : ByteArray), false))))) else (none)) else (none)) else (some ((⟨#[]⟩ : ByteArray), false)))
theorem impl_Unsealed.mono : ∀ a0 k, LeO (impl_Unsealed.f k a0) (impl_Unsealed.f (k + 1) a0) := by
 intro a0 k
 unfold impl_Unsealed.f
 have m0 := @impl_SumOf.mono
 exact mo_
theorem impl_Unsealed.calls (k : Nat) (a0 : ByteArray) (r1 : ByteArray) (r2 : Bool) (w : World) (h : impl_Unsealed.f k a0 = some (r1, r2)) :
 Calls Tryd.prog 90 #[.string a0] w fun e w' => e = .returned (.tuple #[.string r1, .bool r2]) ∧ Drawn0 w w' := by
 have H := h
 unfold impl_Unsealed.f at H
 clear h
 replace H := bs_ H
 obtain ⟨t335, A2, H⟩ := H
 try dsimp only at H
 by_cases c3 : t335 = true
 rotate_left
 ·replace c3 := Bool.eq_false_iff.mpr c3
  subst c3
  rw [nf_] at H
  simp only [Option.some.injEq, Prod.mk.injEq] at H
  obtain ⟨rfl, rfl⟩ := H
  go_enter Tryd.func90, Tryd.ntmps90
  go_wp2_with (first | ((with_reducible refine gate_callee (f := 72) rfl ?_); refine gs_ (some 9) Tryd.func72 #[.int .i64 (wrap64 ((a0.size : Int) - 4)), .int .i64 0, .int .i64 20000] ?_; (with_reducible refine (impl_within.calls (wrap64 ((a0.size : Int) - 4)) 0 20000 false _ A2.out).mono ?_); rintro e w' ⟨rfl, ⟨nd, rfl⟩⟩; refine ⟨_, rfl, ?_⟩))
  go_ret2
  exact ⟨sr_, by repeat (first | exact Drawn0.refl _ | apply Drawn0.step)⟩
 subst c3
 rw [if_pos rfl] at H
 obtain ⟨ji4, hji4⟩ : ∃ j_ : Int, (wrap64 ((a0.size : Int) - 4)) = j_ := ⟨_, rfl⟩
 replace H : (if 0 ≤ (ji4) then (if (ji4) ≤ (a0.size : Int) then ((impl_SumOf.f k (a0.extract 0 ((ji4) : Int).toNat)).bind fun t336 => ((impl_fourAt.f a0 (ji4)).bind fun t337 => (if (wrap64 (t336)) = t337 then (some (a0.extract 0 ((ji4) : Int).toNat, true)) else (some ((⟨#[]⟩ : ByteArray), false))))) else (none)) else (none)) = some (r1, r2) := by first | (rw [hji4] at H; exact H) | (simp only [hji4] at H ⊢; exact H)
 (try rw [hji4] at A2)
 have hji4w : (IntKind.i64.wrap ((a0.size : Int) - 4)) = ji4 := (i64_w _).trans hji4
 by_cases c5 : 0 ≤ (ji4)
 rotate_left
 ·exact nn_ c5 H
 rw [if_pos c5] at H
 have c5b0 := eq_true c5
 have c5b1 : decide (0 ≤ (ji4)) = true := decide_eq_true c5
 clear c5
 by_cases c6 : (ji4) ≤ (a0.size : Int)
 rotate_left
 ·exact nn_ c6 H
 rw [if_pos c6] at H
 have c6b0 := eq_true c6
 have c6b1 : decide ((ji4) ≤ (a0.size : Int)) = true := decide_eq_true c6
 clear c6
 replace H := bs_ H
 obtain ⟨t336, A7, H⟩ := H
 try dsimp only at H
 replace H := bs_ H
 obtain ⟨t337, A8, H⟩ := H
 try dsimp only at H
 by_cases c9 : (wrap64 (t336)) = t337
 rotate_left
 ·rw [if_neg c9] at H
  have c9b0 : ((wrap64 (t336)) == t337) = false := beq_eq_false_iff_ne.mpr c9
  have c9b1 : ((wrap64 (t336)) != t337) = true := bne_iff_ne.mpr c9
  simp only [Option.some.injEq, Prod.mk.injEq] at H
  obtain ⟨rfl, rfl⟩ := H
  go_enter Tryd.func90, Tryd.ntmps90
  go_wp2_with (first | ((with_reducible refine gate_callee (f := 72) rfl ?_); refine goesL_ (some 9) rfl rfl Tryd.func72 (by kernel_rfl) rfl #[.int .i64 ji4, .int .i64 0, .int .i64 20000] rfl (by (try simp only [List.map_toArray, List.map_cons, List.map_nil]); first | done | (simp only [hji4]; rfl) | rfl | (simp only [List.length_drop, List.length_take]; rfl)) ?_; (with_reducible refine (impl_within.calls ji4 0 20000 true _ A2.out).mono ?_); rintro e w' ⟨rfl, ⟨nd, rfl⟩⟩; refine ⟨_, rfl, ?_⟩) | (go_at_call 116; (with_reducible refine (impl_SumOf.calls k (a0.extract 0 ((ji4) : Int).toNat) t336 _ A7.out).mono ?_); rintro e w' ⟨rfl, ⟨nd, rfl⟩⟩) | (go_at_call 122; (with_reducible refine (impl_fourAt.calls a0 ji4 t337 _ A8.out).mono ?_); rintro e w' ⟨rfl, ⟨nd, rfl⟩⟩))
  go_ret2
  exact ⟨by first | rfl | (simp; done) | (simp only [← hji4] <;> (first | rfl | simp)) | (simp [*]; done), by repeat (first | exact Drawn0.refl _ | apply Drawn0.step)⟩
 rw [if_pos c9] at H
 have c9b0 : ((wrap64 (t336)) == t337) = true := beq_iff_eq.mpr c9
 have c9b1 : ((wrap64 (t336)) != t337) = false := bne_eq_false_iff_eq.mpr c9
 clear c9
 have c10b0 := eq_true (of_decide_eq_true as_ : 0 ≤ (ji4))
 have c11b0 := eq_true (of_decide_eq_true as_ : (ji4) ≤ (a0.size : Int))
 simp only [Option.some.injEq, Prod.mk.injEq] at H
 obtain ⟨rfl, rfl⟩ := H
 go_enter Tryd.func90, Tryd.ntmps90
 go_wp2_with (first | ((with_reducible refine gate_callee (f := 72) rfl ?_); refine goesL_ (some 9) rfl rfl Tryd.func72 (by kernel_rfl) rfl #[.int .i64 ji4, .int .i64 0, .int .i64 20000] rfl (by (try simp only [List.map_toArray, List.map_cons, List.map_nil]); first | done | (simp only [hji4]; rfl) | rfl | (simp only [List.length_drop, List.length_take]; rfl)) ?_; (with_reducible refine (impl_within.calls ji4 0 20000 true _ A2.out).mono ?_); rintro e w' ⟨rfl, ⟨nd, rfl⟩⟩; refine ⟨_, rfl, ?_⟩) | (go_at_call 116; (with_reducible refine (impl_SumOf.calls k (a0.extract 0 ((ji4) : Int).toNat) t336 _ A7.out).mono ?_); rintro e w' ⟨rfl, ⟨nd, rfl⟩⟩) | (go_at_call 122; (with_reducible refine (impl_fourAt.calls a0 ji4 t337 _ A8.out).mono ?_); rintro e w' ⟨rfl, ⟨nd, rfl⟩⟩))
 go_ret2
 exact ⟨by first | rfl | (simp; done) | (simp only [← hji4] <;> (first | rfl | simp)) | (simp [*]; done), by repeat (first | exact Drawn0.refl _ | apply Drawn0.step)⟩


mutual
def impl_ReadFrame.j0 : Nat → ByteArray → Bool → Option (Int × Int × Int × Int × Int × Int × Int × Bool)
 | 0, _, _ => none
 | k + 1, x4, x24 => if x24 = true then (some (0, 0, 0, 0, 0, 0, 0, false)) else ((impl_ReadVar.f k x4 2).bind fun bt341 => (if bt341.2.2 = true then (impl_ReadFrame.j1 k x4 bt341.1 bt341.2.1 (decide ((wrap64 ((x4.size : Int) - bt341.2.1)) < 9))) else (impl_ReadFrame.j1 k x4 bt341.1 bt341.2.1 true)))
def impl_ReadFrame.j1 : Nat → ByteArray → Int → Int → Bool → Option (Int × Int × Int × Int × Int × Int × Int × Bool)
 | 0, _, _, _, _ => none
 | k + 1, x4, x6, x7, x40 => if x40 = true then (some (0, 0, 0, 0, 0, 0, 0, false)) else ((impl_ReadVar.f k x4 (wrap64 (x7 + 9))).bind fun bt344 => (if 0 < (x4.size : Int) then (if 1 < (x4.size : Int) then (if 0 ≤ x7 then (if x7 < (x4.size : Int) then ((impl_fourAt.f x4 (wrap64 (x7 + 1))).bind fun t347 => ((impl_fourAt.f x4 (wrap64 (x7 + 5))).bind fun t348 => (if bt344.2.2 = true then (if bt344.2.1 = (x4.size : Int) then ((impl_FrameOk.f k (wrap64 (bt x4 0)) (wrap64 (bt x4 1)) x6 (wrap64 (bt x4 x7)) t347 t348 bt344.1).bind fun t350 => (if t350 = true then (some (wrap64 (bt x4 0), wrap64 (bt x4 1), x6, wrap64 (bt x4 x7), t347, t348, bt344.1, true)) else (some (0, 0, 0, 0, 0, 0, 0, false)))) else (some (0, 0, 0, 0, 0, 0, 0, false))) else (some (0, 0, 0, 0, 0, 0, 0, false))))) else (none)) else (none)) else (none)) else (none)))
end
def impl_ReadFrame.f (k : Nat) (a0 : ByteArray) : Option (Int × Int × Int × Int × Int × Int × Int × Bool) := (impl_Unsealed.f k a0).bind fun bt339 => (if bt339.2 = true then (impl_ReadFrame.j0 k bt339.1 (decide ((bt339.1.size : Int) < 2))) else (impl_ReadFrame.j0 k bt339.1 true))
theorem impl_ReadFrame.mono_l : ∀ k, (∀ y0 y1, LeO (impl_ReadFrame.j0 k y0 y1) (impl_ReadFrame.j0 (k + 1) y0 y1)) ∧ (∀ y0 y1 y2 y3, LeO (impl_ReadFrame.j1 k y0 y1 y2 y3) (impl_ReadFrame.j1 (k + 1) y0 y1 y2 y3))
 | 0 => ⟨fun _ _ r h => by simp [impl_ReadFrame.j0] at h, fun _ _ _ _ r h => by simp [impl_ReadFrame.j1] at h⟩
 | k + 1 => by
  obtain ⟨ih0, ih1⟩ := impl_ReadFrame.mono_l k
  refine ⟨?_, ?_⟩
  ·intro y0 y1
   unfold impl_ReadFrame.j0
   have m0 := @impl_FrameOk.mono
   have m1 := @impl_ReadVar.mono
   have m2 := @impl_Unsealed.mono
   exact mo_
  ·intro y0 y1 y2 y3
   unfold impl_ReadFrame.j1
   have m0 := @impl_FrameOk.mono
   have m1 := @impl_ReadVar.mono
   have m2 := @impl_Unsealed.mono
   exact mo_
theorem impl_ReadFrame.mono : ∀ a0 k, LeO (impl_ReadFrame.f k a0) (impl_ReadFrame.f (k + 1) a0) := by
 intro a0 k
 obtain ⟨ih0, ih1⟩ := impl_ReadFrame.mono_l k
 unfold impl_ReadFrame.f
 have m0 := @impl_FrameOk.mono
 have m1 := @impl_ReadVar.mono
 have m2 := @impl_Unsealed.mono
 exact mo_
def impl_ReadFrame.T8 : Bool × List (List Nat × List Nat) := (true, [([], []), ([0], [0]), ([1], [1]), ([], []), ([3], [3]), ([4], [4]), ([], []), ([], []), ([], []), ([7, 8], [7, 8]), ([9], [9]), ([], []), ([], []), ([12], [12]), ([11, 13], [11, 13]), ([], []), ([], []), ([16], [16]), ([15, 17, 14], [15, 17]), ([], []), ([10, 14, 18, 19], [10, 14, 18, 19]), ([2, 5, 6, 20], [2, 5, 6, 20]), ([], []), ([22, 21, 18, 0, 1, 2, 3, 4, 5, 6, 7, 8, 9, 10, 11, 12, 13, 14, 15, 16, 17, 18, 19, 20, 21, 22], [21, 22])])
def impl_ReadFrame.B8 : List Nat := [0, 1, 3, 0, 8, 24, 0, 0, 0, 384, 896, 0, 0, 4096, 14336, 0, 0, 65536, 260096, 0, 1048448, 2097151, 0, 8388607]
theorem impl_ReadFrame.tab8 : rtab .any (opsOf Tryd.f106 8) = impl_ReadFrame.T8 := by kernel_rfl
theorem impl_ReadFrame.bits8 : waitsOk impl_ReadFrame.T8.2 impl_ReadFrame.B8 = true := by kernel_rfl
theorem impl_ReadFrame.calls (k : Nat) (a0 : ByteArray) (r1 : Int) (r2 : Int) (r3 : Int) (r4 : Int) (r5 : Int) (r6 : Int) (r7 : Int) (r8 : Bool) (w : World) (h : impl_ReadFrame.f k a0 = some (r1, r2, r3, r4, r5, r6, r7, r8)) :
 Calls Tryd.prog 106 #[.string a0] w fun e w' => e = .returned (.tuple #[.agg #[.int .i64 r1, .int .i64 r2, .int .i64 r3, .int .i64 r4, .int .i64 r5, .int .i64 r6, .int .i64 r7], .bool r8]) ∧ Below w.heap.size w w' := by
 have hu115 := Tryd.underlying115
 have hu68 := Tryd.underlying68
 have HB := Aside0.mk (Below.refl w.heap.size w)
 have H := h
 unfold impl_ReadFrame.f at H
 clear h
 replace H := bs_ H
 obtain ⟨⟨t339, t340⟩, A2, H⟩ := H
 try dsimp only at H
 have HC3 := Aside0.mk H
 clear H
 go_enter Tryd.func106, Tryd.ntmps106
 go_upto_region 2 with (first | ((with_reducible refine gate_dst (N := 2) rfl ?_); (try (refine gate_guard (by rfl) ?_; dsimp only)); refine bx_ 2 115 #[.int .i64 0, .int .i64 0, .int .i64 0, .int .i64 0, .int .i64 0, .int .i64 0, .int .i64 0] ?_; intro gb338 hg w4 hbox hb; have BK338 := Aside0.mk (hbox); have GW338 := Aside0.mk ((hz_ : w.heap.size ≤ gb338)); have GE338 := Aside0.mk ((hz_ : w.heap.size ≤ gb338)); replace HB := Aside0.mk (below_step bl_ hb); clear hb hbox hg) | ((with_reducible refine gate_callee (f := 90) rfl ?_); refine gs_ (some 15) Tryd.func90 #[.string a0] ?_; (with_reducible refine (impl_Unsealed.calls k a0 t339 t340 _ A2.out).mono ?_); rintro e w' ⟨rfl, ⟨nd, rfl⟩⟩; refine ⟨_, rfl, ?_⟩))
 (try simp only [Act.put, List.setIfInBounds_toArray, List.set_cons_zero, List.set_cons_succ])
 go_cut [24] (fun v24 wc => ∃ (kq : Nat) (x24_2 : Bool), v24 = .bool x24_2 ∧ Aside0 (impl_ReadFrame.j0 kq t339 x24_2 = some (r1, r2, r3, r4, r5, r6, r7, r8)) ∧ Aside0 (kq ≤ k) ∧ Aside0 (wc.heap[gb338]? = some (.cells #[.int .i64 0, .int .i64 0, .int .i64 0, .int .i64 0, .int .i64 0, .int .i64 0, .int .i64 0] 115 (0, 0))) ∧ Aside0 (Below w.heap.size w wc))
 case first =>
  have H := HC3.out
  clear HC3
  by_cases c5 : t340 = true
  ·subst c5
   rw [if_pos rfl] at H
   have H' := Aside0.mk H
   clear H
   go_wp2
   go_meet
   case rel => exact ⟨_, (decide ((t339.size : Int) < 2)), (sr_), H', ⟨by first | omega | exact Nat.le_refl _⟩, ⟨bk_ BK338.out⟩, ⟨bl_⟩⟩
  replace c5 := Bool.eq_false_iff.mpr c5
  subst c5
  rw [nf_] at H
  have H' := Aside0.mk H
  clear H
  go_wp2
  go_meet
  case rel => exact ⟨_, (true), (sr_), H', ⟨by first | omega | exact Nat.le_refl _⟩, ⟨bk_ BK338.out⟩, ⟨bl_⟩⟩
 clear HC3
 obtain ⟨kq, x24_2, rfl, HA, HJ2, BK338, HB⟩ := hcut
 cases kq with
 | zero => exact absurd HA.out (by simp [impl_ReadFrame.j0])
 | succ kj2 => ?_
 have H := HA.out
 clear HA
 simp only [impl_ReadFrame.j0] at H
 by_cases c6 : x24_2 = true
 ·subst c6
  rw [if_pos rfl] at H
  simp only [Option.some.injEq, Prod.mk.injEq] at H
  obtain ⟨rfl, rfl, rfl, rfl, rfl, rfl, rfl, rfl⟩ := H
  obtain ⟨hcz7_0, hcz7_1, hcz7_2, hcz7_3, hcz7_4, hcz7_5, hcz7_6, hfz7_0, hfz7_1, hfz7_2, hfz7_3, hfz7_4, hfz7_5, hfz7_6⟩ := cf7_ BK338.out
  go_wp2
  refine bodyPost_ret (results_ct rfl _ _ gb338 115 #[.int .i64 0, .int .i64 0, .int .i64 0, .int .i64 0, .int .i64 0, .int .i64 0, .int .i64 0] (0, 0) _ rfl (bp0_ BK338.out) Tryd.underlying115 rfl (by kernel_rfl)) rfl ?_
  exact ⟨er_, bl_⟩
 replace c6 := Bool.eq_false_iff.mpr c6
 subst c6
 rw [nf_] at H
 replace H := bs_ H
 obtain ⟨⟨t341, t342, t343⟩, A8, H⟩ := H
 try dsimp only at H
 have HC9 := Aside0.mk H
 clear H
 go_upto_region 5 with (first | ((with_reducible refine gate_callee (f := 91) rfl ?_); refine gs_ (some 28) Tryd.func91 #[.string t339, .int .i64 2] ?_; (with_reducible refine (impl_ReadVar.calls kj2 t339 2 t341 t342 t343 _ A8.out).mono ?_); rintro e w10 ⟨rfl, hb⟩; refine ⟨_, rfl, ?_⟩; replace BK338 := Aside0.mk (blk_below (bn0_ BK338.out) hb); replace HB := Aside0.mk (below_step bl_ hb); (try clear hb)))
 (try simp only [Act.put, List.setIfInBounds_toArray, List.set_cons_zero, List.set_cons_succ])
 go_cut [40] (fun v40 wc => ∃ (kq : Nat) (x40_8 : Bool), v40 = .bool x40_8 ∧ Aside0 (impl_ReadFrame.j1 kq t339 t341 t342 x40_8 = some (r1, r2, r3, r4, r5, r6, r7, r8)) ∧ Aside0 (kq ≤ kj2) ∧ Aside0 (wc.heap[gb338]? = some (.cells #[.int .i64 0, .int .i64 0, .int .i64 0, .int .i64 0, .int .i64 0, .int .i64 0, .int .i64 0] 115 (0, 0))) ∧ Aside0 (Below w.heap.size w wc))
 case first =>
  have H := HC9.out
  clear HC9
  by_cases c11 : t343 = true
  ·subst c11
   rw [if_pos rfl] at H
   have H' := Aside0.mk H
   clear H
   go_wp2
   go_meet
   case rel => exact ⟨_, (decide ((wrap64 ((t339.size : Int) - t342)) < 9)), (sr_), H', ⟨by have := HJ2.out; first | omega | exact Nat.le_refl _⟩, ⟨bk_ BK338.out⟩, ⟨bl_⟩⟩
  replace c11 := Bool.eq_false_iff.mpr c11
  subst c11
  rw [nf_] at H
  have H' := Aside0.mk H
  clear H
  go_wp2
  go_meet
  case rel => exact ⟨_, (true), (sr_), H', ⟨by have := HJ2.out; first | omega | exact Nat.le_refl _⟩, ⟨bk_ BK338.out⟩, ⟨bl_⟩⟩
 clear HC9
 try clear c6
 obtain ⟨kq, x40_8, rfl, HA, HJ8, BK338, HB⟩ := hcut
 cases kq with
 | zero => exact absurd HA.out (by simp [impl_ReadFrame.j1])
 | succ kj8 => ?_
 have H := HA.out
 clear HA
 simp only [impl_ReadFrame.j1] at H
 by_cases c12 : x40_8 = true
 ·subst c12
  rw [if_pos rfl] at H
  simp only [Option.some.injEq, Prod.mk.injEq] at H
  obtain ⟨rfl, rfl, rfl, rfl, rfl, rfl, rfl, rfl⟩ := H
  obtain ⟨hcz13_0, hcz13_1, hcz13_2, hcz13_3, hcz13_4, hcz13_5, hcz13_6, hfz13_0, hfz13_1, hfz13_2, hfz13_3, hfz13_4, hfz13_5, hfz13_6⟩ := cf7_ BK338.out
  go_wp2
  refine bodyPost_ret (results_ct rfl _ _ gb338 115 #[.int .i64 0, .int .i64 0, .int .i64 0, .int .i64 0, .int .i64 0, .int .i64 0, .int .i64 0] (0, 0) _ rfl (bp0_ BK338.out) Tryd.underlying115 rfl (by kernel_rfl)) rfl ?_
  exact ⟨er_, bl_⟩
 replace c12 := Bool.eq_false_iff.mpr c12
 subst c12
 rw [nf_] at H
 replace H := bs_ H
 obtain ⟨⟨t344, t345, t346⟩, A14, H⟩ := H
 try dsimp only at H
 by_cases c15 : 0 < (t339.size : Int)
 rotate_left
 ·exact nn_ c15 H
 rw [if_pos c15] at H
 have c15b0 := decide_eq_true c15
 have c15b1 : decide (0 < t339.size) = true := decide_eq_true (by omega)
 clear c15
 by_cases c17 : 1 < (t339.size : Int)
 rotate_left
 ·exact nn_ c17 H
 rw [if_pos c17] at H
 have c17b0 := decide_eq_true c17
 have c17b1 : decide (1 < t339.size) = true := decide_eq_true (by omega)
 clear c17
 by_cases c19 : 0 ≤ t342
 rotate_left
 ·exact nn_ c19 H
 rw [if_pos c19] at H
 have c19b0 := decide_eq_true c19
 clear c19
 by_cases c20 : t342 < (t339.size : Int)
 rotate_left
 ·exact nn_ c20 H
 rw [if_pos c20] at H
 have c20b0 := decide_eq_true c20
 clear c20
 replace H := bs_ H
 obtain ⟨t347, A22, H⟩ := H
 try dsimp only at H
 replace H := bs_ H
 obtain ⟨t348, A23, H⟩ := H
 try dsimp only at H
 have HXX := Aside0.mk H
 clear H
 try go_wp2_with (first | ((with_reducible refine gate_callee (f := 91) rfl ?_); refine gs_ (some 46) Tryd.func91 #[.string t339, .int .i64 (wrap64 (t342 + 9))] ?_; (with_reducible refine (impl_ReadVar.calls kj8 t339 (wrap64 (t342 + 9)) t344 t345 t346 _ A14.out).mono ?_); rintro e w28 ⟨rfl, hb⟩; refine ⟨_, rfl, ?_⟩; replace BK338 := Aside0.mk (blk_below (bn0_ BK338.out) hb); replace HB := Aside0.mk (below_step bl_ hb); (try clear hb)))
 have n0_ := Aside0.mk (blk_drew BK338.out)
 have n1_ := Aside0.mk (below_drew1 HB.out)
 clear BK338
 clear HB
 have BK338 := n0_
 have HB := n1_
 clear n0_ n1_
 have p16 : 0 ≤ (0 : Int) := (by omega)
 have q16 : 0 < t339.size := (by have : (0 : Int) < (t339.size : Int) := of_decide_eq_true as_; omega)
 have hx16 : ∀ h : 0 < t339.size, ((t339[0]'h).toNat : Int) = bt t339 0 := bt_at t339 0
 clear p16
 have qi16 : (0 < (t339.size : Int)) = True := eq_true (of_decide_eq_true as_)
 replace q16 := eq_true q16
 have p18 : 0 ≤ (1 : Int) := (by omega)
 have q18 : 1 < t339.size := (by have : (1 : Int) < (t339.size : Int) := of_decide_eq_true as_; omega)
 have hx18 : ∀ h : 1 < t339.size, ((t339[1]'h).toNat : Int) = bt t339 1 := bt_at t339 1
 clear p18
 have qi18 : (1 < (t339.size : Int)) = True := eq_true (of_decide_eq_true as_)
 replace q18 := eq_true q18
 have p21 : 0 ≤ (t342 : Int) := of_decide_eq_true as_
 have q21 : t342 < (t339.size : Int) := of_decide_eq_true as_
 have hx21 := bt_at t339 t342
 replace p21 := eq_true p21
 replace q21 := eq_true q21
 refine start_ (n := 24) (S := fun w' => True) (ds := []) #[false, false, false, false, false, false, false, false, false, false, false, false, false, false, false, false, false, false, false, false, false, false, false, false] (by kernel_rfl) rfl rfl trivial (fun hHeld => ?_); refine with_tabW impl_ReadFrame.tab8 impl_ReadFrame.bits8 (fun HT_ HW_ => ?_)
 generalize w28.drew = w29 at BK338 HB hHeld ⊢
 refine pu_ 0 50 HT_ ?_
 refine pu_ 3 53 HT_ ?_
 refine pu_ 6 56 HT_ ?_
 refine pu_ 7 57 HT_ ?_
 refine pu_ 8 58 HT_ ?_
 refine pu_ 11 61 HT_ ?_
 refine pu_ 12 62 HT_ ?_
 refine pu_ 13 63 HT_ ?_
 refine pu_ 15 65 HT_ ?_
 refine pu_ 16 66 HT_ ?_
 refine pu_ 17 67 HT_ ?_
 refine pu_ 19 69 HT_ ?_
 refine ta_ 1 51 HT_ HW_ hHeld ?_
 refine pu_ 2 52 HT_ ?_
 refine ta_ 4 54 HT_ HW_ hHeld ?_
 refine pu_ 5 55 HT_ ?_
 refine ta_ 9 59 HT_ HW_ hHeld ?_
 refine pu_ 10 60 HT_ ?_
 refine join_ (σ := Nat) 1 #[true, true, true, true, true, true, true, true, true, true, true, true, true, true, true, true, true, true, true, true, true, true, true, false] (fun s_ => [(64, .int .i64 t347), (68, .int .i64 t348), (12, .pointer (some ⟨s_, 0, none⟩)), (70, .agg #[.int .i64 (wrap64 (bt t339 t342)), .int .i64 t347, .int .i64 t348, .int .i64 t344]), (71, .agg #[.int .i64 (wrap64 (bt t339 0)), .int .i64 (wrap64 (bt t339 1)), .int .i64 t341, .int .i64 (wrap64 (bt t339 t342)), .int .i64 t347, .int .i64 t348, .int .i64 t344])]) (fun s_ w' => (w'.heap[gb338]? = some (.cells #[.int .i64 0, .int .i64 0, .int .i64 0, .int .i64 0, .int .i64 0, .int .i64 0, .int .i64 0] 115 (0, 0))) ∧ (w'.heap[s_]? = some (.cells #[.int .i64 0, .int .i64 0, .int .i64 0, .int .i64 0, .int .i64 0, .int .i64 0, .int .i64 0] 115 (0, 0))) ∧ (w.heap.size ≤ s_) ∧ (w.heap.size ≤ s_) ∧ (gb338 ≠ s_) ∧ (s_ ≠ gb338) ∧ (Below w.heap.size w w')) ?_ ?_
 rotate_left
 ·intro hCont
  refine two_ (i := 14) (j := 22) (Ni := some 64) (Nj := some 12) #[true, true, true, true, true, true, true, true, true, true, true, true, true, true, true, true, true, true, false, true, false, false, false, false] #[true, true, true, true, true, true, true, true, true, true, true, true, true, true, false, true, true, true, false, true, false, false, true, false] rfl rfl rfl rfl (two_of HT_.out (by kernel_rfl)) (by decide) (by decide) (fun K hK => ?_) (fun K hK => ?_)
  ·skip
   refine goes_ Tryd.func122 (by kernel_rfl) rfl #[.string t339, .int .i64 (wrap64 (t342 + 1))] (by rfl) rfl rfl lm_ ?_
   with_reducible refine (impl_fourAt.calls t339 (wrap64 (t342 + 1)) t347 _ A22.out).mono ?_
   rintro e w' ⟨rfl, ⟨nd, rfl⟩⟩
   refine ⟨_, rfl, ?_⟩
   refine hK.out _ _ trivial (fun hHeld => ?_)
   clear hK K
   refine norm_ (a' := ?_) ?_ ?_
   rotate_left
   ·show Act.put _ (some 64) _ = _
    simp only [Act.put, List.setIfInBounds_toArray, List.set_cons_zero, List.set_cons_succ, i64_w, i32_w]
    rfl
   refine two_ (i := 18) (j := 22) (Ni := some 68) (Nj := some 12) #[true, true, true, true, true, true, true, true, true, true, true, true, true, true, true, true, true, true, true, true, false, false, false, false] #[true, true, true, true, true, true, true, true, true, true, true, true, true, true, true, true, true, true, false, true, false, false, true, false] rfl rfl rfl rfl (two_of HT_.out (by kernel_rfl)) (by decide) (by decide) (fun K hK => ?_) (fun K hK => ?_)
   ·skip
    refine goes_ Tryd.func122 (by kernel_rfl) rfl #[.string t339, .int .i64 (wrap64 (t342 + 5))] (by rfl) rfl rfl lm_ ?_
    with_reducible refine (impl_fourAt.calls t339 (wrap64 (t342 + 5)) t348 _ A23.out).mono ?_
    rintro e w' ⟨rfl, ⟨nd, rfl⟩⟩
    refine ⟨_, rfl, ?_⟩
    refine hK.out _ _ trivial (fun hHeld => ?_)
    clear hK K
    refine norm_ (a' := ?_) ?_ ?_
    rotate_left
    ·show Act.put _ (some 68) _ = _
     simp only [Act.put, List.setIfInBounds_toArray, List.set_cons_zero, List.set_cons_succ, i64_w, i32_w]
     rfl
    refine pu_ 20 70 HT_ ?_
    refine pu_ 21 71 HT_ ?_
    refine on_ 22 12 HT_ (fun K hK => ?_)
    refine box_step ?hg (N := 12) ?hd (cs := #[.int .i64 0, .int .i64 0, .int .i64 0, .int .i64 0, .int .i64 0, .int .i64 0, .int .i64 0]) (t := 115) ?hr ?_; (case hd => rfl); (case hg => rfl); (case hr => first | (go_simp; done) | (go_simp; rfl))
    intro gb349 hg w30 hbox hb
    have n0_ := Aside0.mk (blk_below (bn0_ BK338.out) hb)
    have n1_ := Aside0.mk (below_step bl_ hb)
    have n2_ := Aside0.mk (hbox)
    have n3_ := Aside0.mk ((hz_ : w.heap.size ≤ gb349))
    have n4_ := Aside0.mk ((hz_ : w.heap.size ≤ gb349))
    have n5_ := Aside0.mk ((by rw [hg]; exact Nat.ne_of_lt (blk_lt (g := gb338) (o := .cells #[.int .i64 0, .int .i64 0, .int .i64 0, .int .i64 0, .int .i64 0, .int .i64 0, .int .i64 0] 115 (0, 0)) (bk_ BK338.out)) : gb338 ≠ gb349))
    have n6_ := Aside0.mk ((by rw [hg]; exact Nat.ne_of_gt (blk_lt (g := gb338) (o := .cells #[.int .i64 0, .int .i64 0, .int .i64 0, .int .i64 0, .int .i64 0, .int .i64 0, .int .i64 0] 115 (0, 0)) (bk_ BK338.out)) : gb349 ≠ gb338))
    clear BK338
    clear HB
    have BK338 := n0_
    have HB := n1_
    have BK349 := n2_
    have GW349 := n3_
    have GE349 := n4_
    have NB338_349 := n5_
    have NB349_338 := n6_
    clear n0_ n1_ n2_ n3_ n4_ n5_ n6_
    clear hb hbox hg
    refine hK.out _ _ trivial (fun hHeld => ?_)
    clear hK K
    refine norm_ (a' := ?_) ?_ ?_
    rotate_left
    ·show Act.put _ (some 12) _ = _
     simp only [Act.put, List.setIfInBounds_toArray, List.set_cons_zero, List.set_cons_succ, i64_w, i32_w]
     rfl
    exact norm_ (by simp only [putAll, Act.put, List.setIfInBounds_toArray, List.set_cons_zero, List.set_cons_succ]) (hCont (gb349) _ ⟨(bk_ BK338.out), (bk_ BK349.out), GW349.out, GE349.out, NB338_349.out, NB349_338.out, bl_⟩)
   ·skip
    refine box_step ?hg (N := 12) ?hd (cs := #[.int .i64 0, .int .i64 0, .int .i64 0, .int .i64 0, .int .i64 0, .int .i64 0, .int .i64 0]) (t := 115) ?hr ?_; (case hd => rfl); (case hg => rfl); (case hr => first | (go_simp; done) | (go_simp; rfl))
    intro gb349 hg w30 hbox hb
    have n0_ := Aside0.mk (blk_below (bn0_ BK338.out) hb)
    have n1_ := Aside0.mk (below_step bl_ hb)
    have n2_ := Aside0.mk (hbox)
    have n3_ := Aside0.mk ((hz_ : w.heap.size ≤ gb349))
    have n4_ := Aside0.mk ((hz_ : w.heap.size ≤ gb349))
    have n5_ := Aside0.mk ((by rw [hg]; exact Nat.ne_of_lt (blk_lt (g := gb338) (o := .cells #[.int .i64 0, .int .i64 0, .int .i64 0, .int .i64 0, .int .i64 0, .int .i64 0, .int .i64 0] 115 (0, 0)) (bk_ BK338.out)) : gb338 ≠ gb349))
    have n6_ := Aside0.mk ((by rw [hg]; exact Nat.ne_of_gt (blk_lt (g := gb338) (o := .cells #[.int .i64 0, .int .i64 0, .int .i64 0, .int .i64 0, .int .i64 0, .int .i64 0, .int .i64 0] 115 (0, 0)) (bk_ BK338.out)) : gb349 ≠ gb338))
    clear BK338
    clear HB
    have BK338 := n0_
    have HB := n1_
    have BK349 := n2_
    have GW349 := n3_
    have GE349 := n4_
    have NB338_349 := n5_
    have NB349_338 := n6_
    clear n0_ n1_ n2_ n3_ n4_ n5_ n6_
    clear hb hbox hg
    refine hK.out _ _ trivial (fun hHeld => ?_)
    clear hK K
    refine norm_ (a' := ?_) ?_ ?_
    rotate_left
    ·show Act.put _ (some 12) _ = _
     simp only [Act.put, List.setIfInBounds_toArray, List.set_cons_zero, List.set_cons_succ, i64_w, i32_w]
     rfl
    refine on_ 18 68 HT_ (fun K hK => ?_)
    refine goes_ Tryd.func122 (by kernel_rfl) rfl #[.string t339, .int .i64 (wrap64 (t342 + 5))] (by rfl) rfl rfl lm_ ?_
    with_reducible refine (impl_fourAt.calls t339 (wrap64 (t342 + 5)) t348 _ A23.out).mono ?_
    rintro e w' ⟨rfl, ⟨nd, rfl⟩⟩
    refine ⟨_, rfl, ?_⟩
    refine hK.out _ _ trivial (fun hHeld => ?_)
    clear hK K
    refine norm_ (a' := ?_) ?_ ?_
    rotate_left
    ·show Act.put _ (some 68) _ = _
     simp only [Act.put, List.setIfInBounds_toArray, List.set_cons_zero, List.set_cons_succ, i64_w, i32_w]
     rfl
    refine pu_ 20 70 HT_ ?_
    refine pu_ 21 71 HT_ ?_
    exact norm_ (by simp only [putAll, Act.put, List.setIfInBounds_toArray, List.set_cons_zero, List.set_cons_succ]) (hCont (gb349) _ ⟨(bk_ BK338.out), (bk_ BK349.out), GW349.out, GE349.out, NB338_349.out, NB349_338.out, bl_⟩)
  ·skip
   refine box_step ?hg (N := 12) ?hd (cs := #[.int .i64 0, .int .i64 0, .int .i64 0, .int .i64 0, .int .i64 0, .int .i64 0, .int .i64 0]) (t := 115) ?hr ?_; (case hd => rfl); (case hg => rfl); (case hr => first | (go_simp; done) | (go_simp; rfl))
   intro gb349 hg w30 hbox hb
   have n0_ := Aside0.mk (blk_below (bn0_ BK338.out) hb)
   have n1_ := Aside0.mk (below_step bl_ hb)
   have n2_ := Aside0.mk (hbox)
   have n3_ := Aside0.mk ((hz_ : w.heap.size ≤ gb349))
   have n4_ := Aside0.mk ((hz_ : w.heap.size ≤ gb349))
   have n5_ := Aside0.mk ((by rw [hg]; exact Nat.ne_of_lt (blk_lt (g := gb338) (o := .cells #[.int .i64 0, .int .i64 0, .int .i64 0, .int .i64 0, .int .i64 0, .int .i64 0, .int .i64 0] 115 (0, 0)) (bk_ BK338.out)) : gb338 ≠ gb349))
   have n6_ := Aside0.mk ((by rw [hg]; exact Nat.ne_of_gt (blk_lt (g := gb338) (o := .cells #[.int .i64 0, .int .i64 0, .int .i64 0, .int .i64 0, .int .i64 0, .int .i64 0, .int .i64 0] 115 (0, 0)) (bk_ BK338.out)) : gb349 ≠ gb338))
   clear BK338
   clear HB
   have BK338 := n0_
   have HB := n1_
   have BK349 := n2_
   have GW349 := n3_
   have GE349 := n4_
   have NB338_349 := n5_
   have NB349_338 := n6_
   clear n0_ n1_ n2_ n3_ n4_ n5_ n6_
   clear hb hbox hg
   refine hK.out _ _ trivial (fun hHeld => ?_)
   clear hK K
   refine norm_ (a' := ?_) ?_ ?_
   rotate_left
   ·show Act.put _ (some 12) _ = _
    simp only [Act.put, List.setIfInBounds_toArray, List.set_cons_zero, List.set_cons_succ, i64_w, i32_w]
    rfl
   refine on_ 14 64 HT_ (fun K hK => ?_)
   refine goes_ Tryd.func122 (by kernel_rfl) rfl #[.string t339, .int .i64 (wrap64 (t342 + 1))] (by rfl) rfl rfl lm_ ?_
   with_reducible refine (impl_fourAt.calls t339 (wrap64 (t342 + 1)) t347 _ A22.out).mono ?_
   rintro e w' ⟨rfl, ⟨nd, rfl⟩⟩
   refine ⟨_, rfl, ?_⟩
   refine hK.out _ _ trivial (fun hHeld => ?_)
   clear hK K
   refine norm_ (a' := ?_) ?_ ?_
   rotate_left
   ·show Act.put _ (some 64) _ = _
    simp only [Act.put, List.setIfInBounds_toArray, List.set_cons_zero, List.set_cons_succ, i64_w, i32_w]
    rfl
   refine on_ 18 68 HT_ (fun K hK => ?_)
   refine goes_ Tryd.func122 (by kernel_rfl) rfl #[.string t339, .int .i64 (wrap64 (t342 + 5))] (by rfl) rfl rfl lm_ ?_
   with_reducible refine (impl_fourAt.calls t339 (wrap64 (t342 + 5)) t348 _ A23.out).mono ?_
   rintro e w' ⟨rfl, ⟨nd, rfl⟩⟩
   refine ⟨_, rfl, ?_⟩
   refine hK.out _ _ trivial (fun hHeld => ?_)
   clear hK K
   refine norm_ (a' := ?_) ?_ ?_
   rotate_left
   ·show Act.put _ (some 68) _ = _
    simp only [Act.put, List.setIfInBounds_toArray, List.set_cons_zero, List.set_cons_succ, i64_w, i32_w]
    rfl
   refine pu_ 20 70 HT_ ?_
   refine pu_ 21 71 HT_ ?_
   exact norm_ (by simp only [putAll, Act.put, List.setIfInBounds_toArray, List.set_cons_zero, List.set_cons_succ]) (hCont (gb349) _ ⟨(bk_ BK338.out), (bk_ BK349.out), GW349.out, GE349.out, NB338_349.out, NB349_338.out, bl_⟩)
 rintro gb349 w31 ⟨h0_, h1_, h2_, h3_, h4_, h5_, h6_⟩
 have n0_ : Aside0 (w31.heap[gb338]? = some (.cells #[.int .i64 0, .int .i64 0, .int .i64 0, .int .i64 0, .int .i64 0, .int .i64 0, .int .i64 0] 115 (0, 0))) := ⟨h0_⟩
 have n1_ : Aside0 (w31.heap[gb349]? = some (.cells #[.int .i64 0, .int .i64 0, .int .i64 0, .int .i64 0, .int .i64 0, .int .i64 0, .int .i64 0] 115 (0, 0))) := ⟨h1_⟩
 have n2_ : Aside0 (w.heap.size ≤ gb349) := ⟨h2_⟩
 have n3_ : Aside0 (w.heap.size ≤ gb349) := ⟨h3_⟩
 have n4_ : Aside0 (gb338 ≠ gb349) := ⟨h4_⟩
 have n5_ : Aside0 (gb349 ≠ gb338) := ⟨h5_⟩
 have n6_ : Aside0 (Below w.heap.size w w31) := ⟨h6_⟩
 clear BK338
 clear HB
 clear h0_ h1_ h2_ h3_ h4_ h5_ h6_
 have BK338 := n0_
 have BK349 := n1_
 have GW349 := n2_
 have GE349 := n3_
 have NB338_349 := n4_
 have NB349_338 := n5_
 have HB := n6_
 clear n0_ n1_ n2_ n3_ n4_ n5_ n6_
 have hHeld := trivial
 refine norm_ (a' := ?_) ?_ ?_
 rotate_left
 ·simp only [putAll, Act.put, List.setIfInBounds_toArray, List.set_cons_zero, List.set_cons_succ]
  rfl
 refine one_ (i := 23) (N := none) #[true, true, true, true, true, true, true, true, true, true, true, true, true, true, true, true, true, true, true, true, true, true, true, true] rfl rfl (one_of HT_.out (by kernel_rfl)) (by decide) (fun K hK => ?_)
 have hs32 : w31.cell? ⟨gb349, 0, none⟩ = some (.int .i64 0) := (blk_cell BK349.out 0).trans rfl
 have hfs32 := blk_frozen BK349.out 0
 have hns32_0 := NB338_349.out
 have hms32_0 := NB349_338.out
 have hs33 : w31.cell? ⟨gb349, 1, none⟩ = some (.int .i64 0) := (blk_cell BK349.out 1).trans rfl
 have hfs33 := blk_frozen BK349.out 1
 have hns33_0 := NB338_349.out
 have hms33_0 := NB349_338.out
 have hs34 : w31.cell? ⟨gb349, 2, none⟩ = some (.int .i64 0) := (blk_cell BK349.out 2).trans rfl
 have hfs34 := blk_frozen BK349.out 2
 have hns34_0 := NB338_349.out
 have hms34_0 := NB349_338.out
 have hs35 : w31.cell? ⟨gb349, 3, none⟩ = some (.int .i64 0) := (blk_cell BK349.out 3).trans rfl
 have hfs35 := blk_frozen BK349.out 3
 have hns35_0 := NB338_349.out
 have hms35_0 := NB349_338.out
 have hs36 : w31.cell? ⟨gb349, 4, none⟩ = some (.int .i64 0) := (blk_cell BK349.out 4).trans rfl
 have hfs36 := blk_frozen BK349.out 4
 have hns36_0 := NB338_349.out
 have hms36_0 := NB349_338.out
 have hs37 : w31.cell? ⟨gb349, 5, none⟩ = some (.int .i64 0) := (blk_cell BK349.out 5).trans rfl
 have hfs37 := blk_frozen BK349.out 5
 have hns37_0 := NB338_349.out
 have hms37_0 := NB349_338.out
 have hs38 : w31.cell? ⟨gb349, 6, none⟩ = some (.int .i64 0) := (blk_cell BK349.out 6).trans rfl
 have hfs38 := blk_frozen BK349.out 6
 have hns38_0 := NB338_349.out
 have hms38_0 := NB349_338.out
 refine skip_ (w1 := ?_) (by rfl) rfl ?_ ?_
 rotate_left
 ·go_simp
  rfl
 refine hK.out _ _ trivial (fun hHeld => ?_)
 clear hK K
 refine done_ (done_of HT_.out (by kernel_rfl)) ?_
 have H := HXX.out
 clear HXX
 by_cases c24 : t346 = true
 rotate_left
 ·replace c24 := Bool.eq_false_iff.mpr c24
  subst c24
  rw [nf_] at H
  simp only [Option.some.injEq, Prod.mk.injEq] at H
  obtain ⟨rfl, rfl, rfl, rfl, rfl, rfl, rfl, rfl⟩ := H
  have hnb83 := NB338_349.out
  have hnc83 := NB349_338.out
  obtain ⟨hcz84_0, hcz84_1, hcz84_2, hcz84_3, hcz84_4, hcz84_5, hcz84_6, hfz84_0, hfz84_1, hfz84_2, hfz84_3, hfz84_4, hfz84_5, hfz84_6⟩ := cf7_ BK338.out
  try go_wp2
  refine bodyPost_ret (results_ct rfl _ _ gb338 115 #[.int .i64 0, .int .i64 0, .int .i64 0, .int .i64 0, .int .i64 0, .int .i64 0, .int .i64 0] (0, 0) _ rfl (bp1_ BK338.out NB338_349.out) Tryd.underlying115 rfl (by kernel_rfl)) rfl ?_
  exact ⟨er_, bl_⟩
 subst c24
 rw [if_pos rfl] at H
 by_cases c25 : t345 = (t339.size : Int)
 rotate_left
 ·rw [if_neg c25] at H
  have c25b0 : (t345 == (t339.size : Int)) = false := beq_eq_false_iff_ne.mpr c25
  have c25b1 : (t345 != (t339.size : Int)) = true := bne_iff_ne.mpr c25
  simp only [Option.some.injEq, Prod.mk.injEq] at H
  obtain ⟨rfl, rfl, rfl, rfl, rfl, rfl, rfl, rfl⟩ := H
  have hnb70 := NB338_349.out
  have hnc70 := NB349_338.out
  obtain ⟨hcz71_0, hcz71_1, hcz71_2, hcz71_3, hcz71_4, hcz71_5, hcz71_6, hfz71_0, hfz71_1, hfz71_2, hfz71_3, hfz71_4, hfz71_5, hfz71_6⟩ := cf7_ BK338.out
  try go_wp2
  refine bodyPost_ret (results_ct rfl _ _ gb338 115 #[.int .i64 0, .int .i64 0, .int .i64 0, .int .i64 0, .int .i64 0, .int .i64 0, .int .i64 0] (0, 0) _ rfl (bp1_ BK338.out NB338_349.out) Tryd.underlying115 rfl (by kernel_rfl)) rfl ?_
  exact ⟨er_, bl_⟩
 rw [if_pos c25] at H
 have c25b0 : (t345 == (t339.size : Int)) = true := beq_iff_eq.mpr c25
 have c25b1 : (t345 != (t339.size : Int)) = false := bne_eq_false_iff_eq.mpr c25
 clear c25
 replace H := bs_ H
 obtain ⟨t350, A26, H⟩ := H
 try dsimp only at H
 by_cases c27 : t350 = true
 ·subst c27
  rw [if_pos rfl] at H
  simp only [Option.some.injEq, Prod.mk.injEq] at H
  obtain ⟨rfl, rfl, rfl, rfl, rfl, rfl, rfl, rfl⟩ := H
  have hnb39 := NB349_338.out
  have hnc39 := NB338_349.out
  obtain ⟨hcz40_0, hcz40_1, hcz40_2, hcz40_3, hcz40_4, hcz40_5, hcz40_6, hfz40_0, hfz40_1, hfz40_2, hfz40_3, hfz40_4, hfz40_5, hfz40_6⟩ := cf7_ BK349.out
  try go_wp2_with (first | (go_at_call 125; (with_reducible refine (impl_FrameOk.calls kj8 (wrap64 (bt t339 0)) (wrap64 (bt t339 1)) t341 (wrap64 (bt t339 t342)) t347 t348 t344 true _ A26.out).mono ?_); rintro e w41 ⟨rfl, hb⟩; replace BK338 := Aside0.mk (blk_below (bn1_ BK338.out NB338_349.out) hb); replace BK349 := Aside0.mk (blk_below (g := gb349) (o := .cells #[.int .i64 (wrap64 (bt t339 0)), .int .i64 (wrap64 (bt t339 1)), .int .i64 t341, .int .i64 (wrap64 (bt t339 t342)), .int .i64 t347, .int .i64 t348, .int .i64 t344] 115 (0, 0)) (bp0_ BK349.out) hb); replace HB := Aside0.mk (below_step bl_ hb); (try clear hb); obtain ⟨hcz42_0, hcz42_1, hcz42_2, hcz42_3, hcz42_4, hcz42_5, hcz42_6, hfz42_0, hfz42_1, hfz42_2, hfz42_3, hfz42_4, hfz42_5, hfz42_6⟩ := cf7_ BK349.out; obtain ⟨hcz43_0, hcz43_1, hcz43_2, hcz43_3, hcz43_4, hcz43_5, hcz43_6, hfz43_0, hfz43_1, hfz43_2, hfz43_3, hfz43_4, hfz43_5, hfz43_6⟩ := cf7_ BK338.out))
  refine bodyPost_ret (results_ct rfl _ _ gb338 115 #[.int .i64 (wrap64 (bt t339 0)), .int .i64 (wrap64 (bt t339 1)), .int .i64 t341, .int .i64 (wrap64 (bt t339 t342)), .int .i64 t347, .int .i64 t348, .int .i64 t344] (0, 0) _ rfl (bp0_ BK338.out) Tryd.underlying115 rfl (by kernel_rfl)) rfl ?_
  exact ⟨er_, bl_⟩
 replace c27 := Bool.eq_false_iff.mpr c27
 subst c27
 rw [nf_] at H
 simp only [Option.some.injEq, Prod.mk.injEq] at H
 obtain ⟨rfl, rfl, rfl, rfl, rfl, rfl, rfl, rfl⟩ := H
 have hnb55 := NB349_338.out
 have hnc55 := NB338_349.out
 obtain ⟨hcz56_0, hcz56_1, hcz56_2, hcz56_3, hcz56_4, hcz56_5, hcz56_6, hfz56_0, hfz56_1, hfz56_2, hfz56_3, hfz56_4, hfz56_5, hfz56_6⟩ := cf7_ BK349.out
 try go_wp2_with (first | (go_at_call 125; (with_reducible refine (impl_FrameOk.calls kj8 (wrap64 (bt t339 0)) (wrap64 (bt t339 1)) t341 (wrap64 (bt t339 t342)) t347 t348 t344 false _ A26.out).mono ?_); rintro e w57 ⟨rfl, hb⟩; replace BK338 := Aside0.mk (blk_below (bn1_ BK338.out NB338_349.out) hb); replace BK349 := Aside0.mk (blk_below (g := gb349) (o := .cells #[.int .i64 (wrap64 (bt t339 0)), .int .i64 (wrap64 (bt t339 1)), .int .i64 t341, .int .i64 (wrap64 (bt t339 t342)), .int .i64 t347, .int .i64 t348, .int .i64 t344] 115 (0, 0)) (bp0_ BK349.out) hb); replace HB := Aside0.mk (below_step bl_ hb); (try clear hb); obtain ⟨hcz58_0, hcz58_1, hcz58_2, hcz58_3, hcz58_4, hcz58_5, hcz58_6, hfz58_0, hfz58_1, hfz58_2, hfz58_3, hfz58_4, hfz58_5, hfz58_6⟩ := cf7_ BK338.out))
 refine bodyPost_ret (results_ct rfl _ _ gb338 115 #[.int .i64 0, .int .i64 0, .int .i64 0, .int .i64 0, .int .i64 0, .int .i64 0, .int .i64 0] (0, 0) _ rfl (bp0_ BK338.out) Tryd.underlying115 rfl (by kernel_rfl)) rfl ?_
 exact ⟨er_, bl_⟩


def impl_ReadLog.l0 : Nat → ByteArray → List (S70) → Int → Option ((List (S70)) × Bool)
 | 0, _, _, _ => none
 | k + 1, x0, x4, x5 => if x5 < (x0.size : Int) then ((impl_ReadShort.f k x0 x5).bind fun bt354 => ((impl_ReadFrame.f k bt354.1).bind fun bt357 => (if bt354.2.2 = true then (if bt357.2.2.2.2.2.2.2 = true then (if bt357.1 = 1 then (if (x4.length : Int) = 200 then (some ((([] : List (S70))), false)) else (if x4.length < 2932031007402 then (impl_ReadLog.l0 k x0 (x4 ++ [(⟨bt357.2.1, bt357.2.2.1, (⟨bt357.2.2.2.1, bt357.2.2.2.2.1, bt357.2.2.2.2.2.1, bt357.2.2.2.2.2.2.1⟩ : S68)⟩ : S70)]) bt354.2.1) else (none))) else (some ((([] : List (S70))), false))) else (some ((([] : List (S70))), false))) else (some ((([] : List (S70))), false))))) else (some (x4, true))
def impl_ReadLog.f (k : Nat) (a0 : ByteArray) : Option ((List (S70)) × Bool) := impl_ReadLog.l0 k a0 (([] : List (S70))) 0
theorem impl_ReadLog.mono_l : ∀ k, (∀ y0 y1 y2, LeO (impl_ReadLog.l0 k y0 y1 y2) (impl_ReadLog.l0 (k + 1) y0 y1 y2))
 | 0 => fun _ _ _ r h => by simp [impl_ReadLog.l0] at h
 | k + 1 => by
  have ih0 := impl_ReadLog.mono_l k
  ·intro y0 y1 y2
   unfold impl_ReadLog.l0
   have m0 := @impl_ReadFrame.mono
   have m1 := @impl_ReadShort.mono
   exact mo_
theorem impl_ReadLog.mono : ∀ a0 k, LeO (impl_ReadLog.f k a0) (impl_ReadLog.f (k + 1) a0) := by
 intro a0 k
 have ih0 := impl_ReadLog.mono_l k
 unfold impl_ReadLog.f
 have m0 := @impl_ReadFrame.mono
 have m1 := @impl_ReadShort.mono
 exact mo_
theorem impl_ReadLog.calls (k : Nat) (a0 : ByteArray) (r1 : List (S70)) (r2 : Bool) (w : World) (h : impl_ReadLog.f k a0 = some (r1, r2)) :
 Calls Tryd.prog 61 #[.string a0] w fun e w' => ∃ v0_ : Value, e = .returned (.tuple #[v0_, .bool r2]) ∧ Kd.R k70 70 w' w.heap.size (fun _ => True) v0_ r1 ∧ Below w.heap.size w w' := by
 have hu115 := Tryd.underlying115
 have hu68 := Tryd.underlying68
 have hu70 := Tryd.underlying70
 have HB := Aside0.mk (Below.refl w.heap.size w)
 have H := h
 unfold impl_ReadLog.f at H
 clear h
 obtain ⟨y351, hy351⟩ : ∃ y_ : List (S70), y_ = (([] : List (S70))) := ⟨_, rfl⟩
 replace H : (impl_ReadLog.l0 k a0 y351 0) = some (r1, r2) := rp_ H hy351
 have Ny351 := Aside0.mk hy351
 clear hy351
 have H' := Aside0.mk H
 clear H
 go_enter Tryd.func61, Tryd.ntmps61
 go_wp2_with (first | ((with_reducible refine gate_dst (N := 11) rfl ?_); (try (refine gate_guard (by rfl) ?_; dsimp only)); refine Kd.R_lit k70 _ 70 ?hg (N := 11) ?hd (xs := ([] : List (S70))) (inner := []) (ok := fun _ => True) (okp := fun _ => True) ?hr ?hp (fun _ hk => hk) trivial (Below.refl _ _) (Nat.le_refl _) (by simp) ?_; (case hd => rfl); (case hg => rfl); (case hr => first | (go_simp; done) | (go_simp; rfl)); (case hp => exact (Reps.none _ _)); intro v352 w2 ho3 hb hg_ hnew_; clear hg_ hnew_; (first | rw [← Ny351.out] at ho3 | (simp only [Int.reduceToNat] at ho3; rw [← Ny351.out] at ho3)); have HO353 := Aside0.mk (Kd.R_lower ho3 (below_size bl_)); replace HB := Aside0.mk (below_step bl_ hb); clear hb ho3))
 go_loopg [4, 5] k (fun kq v4 v5 w' => ∃ (x4_1 : List (S70)) (x5_1 : Int), v5 = .int .i64 x5_1 ∧ Aside0 (impl_ReadLog.l0 kq a0 x4_1 x5_1 = some (r1, r2)) ∧ Aside0 (kq ≤ k) ∧ Aside0 (Kd.R k70 70 w' w.heap.size (fun _ => True) v4 x4_1) ∧ Aside0 (Below w.heap.size w w'))
 case atStart => exact ⟨(y351), (0), (sr_), H', ⟨Nat.le_refl _⟩, ⟨ra_ HO353.out⟩, ⟨bl_⟩⟩
 clear H'
 obtain ⟨x4_1, x5_1, rfl, HA, HK1, HO_4, HB⟩ := hrel
 cases gk with
 | zero => exact absurd HA.out (by simp [impl_ReadLog.l0])
 | succ k1 => ?_
 have H := HA.out
 clear HA
 simp only [impl_ReadLog.l0] at H
 by_cases c4 : x5_1 < (a0.size : Int)
 rotate_left
 ·rw [if_neg c4] at H
  have c4b0 := decide_eq_false c4
  clear c4
  simp only [Option.some.injEq, Prod.mk.injEq] at H
  obtain ⟨rfl, rfl⟩ := H
  go_wp2
  go_ret2
  exact ⟨_, er_, ra_ HO_4.out, bl_⟩
 rw [if_pos c4] at H
 have c4b0 := decide_eq_true c4
 clear c4
 replace H := bs_ H
 obtain ⟨⟨t354, t355, t356⟩, A5, H⟩ := H
 try dsimp only at H
 replace H := bs_ H
 obtain ⟨⟨t357, t358, t359, t360, t361, t362, t363, t364⟩, A6, H⟩ := H
 try dsimp only at H
 by_cases c7 : t356 = true
 rotate_left
 ·replace c7 := Bool.eq_false_iff.mpr c7
  subst c7
  rw [nf_] at H
  obtain ⟨y378, hy378⟩ : ∃ y_ : List (S70), y_ = (([] : List (S70))) := ⟨_, rfl⟩
  replace H : (some (y378, false)) = some (r1, r2) := rp_ H hy378
  have Ny378 := Aside0.mk hy378
  clear hy378
  simp only [Option.some.injEq, Prod.mk.injEq] at H
  obtain ⟨rfl, rfl⟩ := H
  go_wp2_with (first | ((with_reducible refine gate_callee (f := 92) rfl ?_); refine gs_ (some 19) Tryd.func92 #[.string a0, .int .i64 x5_1] ?_; (with_reducible refine (impl_ReadShort.calls k1 a0 x5_1 t354 t355 false _ A5.out).mono ?_); rintro e w37 ⟨rfl, hb⟩; refine ⟨_, rfl, ?_⟩; replace HO_4 := Aside0.mk (Kd.R_below (ra_ HO_4.out) hb); replace HB := Aside0.mk (below_step bl_ hb); (try clear hb)) | ((with_reducible refine gate_callee (f := 106) rfl ?_); refine gs_ (some 25) Tryd.func106 #[.string t354] ?_; (with_reducible refine (impl_ReadFrame.calls k1 t354 t357 t358 t359 t360 t361 t362 t363 t364 _ A6.out).mono ?_); rintro e w38 ⟨rfl, hb⟩; refine ⟨_, rfl, ?_⟩; replace HO_4 := Aside0.mk (Kd.R_below (ra_ HO_4.out) hb); replace HB := Aside0.mk (below_step bl_ hb); (try clear hb)) | ((with_reducible refine gate_dst (N := 9) rfl ?_); (try (refine gate_guard (by rfl) ?_; dsimp only)); refine bx_ 9 115 #[.int .i64 0, .int .i64 0, .int .i64 0, .int .i64 0, .int .i64 0, .int .i64 0, .int .i64 0] ?_; intro gb365 hg w39 hbox hb; replace HO_4 := Aside0.mk (Kd.R_below (ra_ HO_4.out) hb); have BK365 := Aside0.mk (hbox); have GW365 := Aside0.mk ((hz_ : w.heap.size ≤ gb365)); have GE365 := Aside0.mk ((hz_ : w.heap.size ≤ gb365)); replace HB := Aside0.mk (below_step bl_ hb); clear hb hbox hg; obtain ⟨hcz40_0, hcz40_1, hcz40_2, hcz40_3, hcz40_4, hcz40_5, hcz40_6, hfz40_0, hfz40_1, hfz40_2, hfz40_3, hfz40_4, hfz40_5, hfz40_6⟩ := cf7_ BK365.out) | ((with_reducible refine gate_dst (N := 44) rfl ?_); (try (refine gate_guard (by rfl) ?_; dsimp only)); refine Kd.R_lit k70 _ 70 ?hg (N := 44) ?hd (xs := ([] : List (S70))) (inner := []) (ok := fun _ => True) (okp := fun _ => True) ?hr ?hp (fun _ hk => hk) trivial (Below.refl _ _) (Nat.le_refl _) (by simp) ?_; (case hd => rfl); (case hg => rfl); (case hr => first | (go_simp; done) | (go_simp; rfl)); (case hp => exact (Reps.none _ _)); intro v379 w41 ho42 hb hg_ hnew_; clear hg_ hnew_; (first | rw [← Ny378.out] at ho42 | (simp only [Int.reduceToNat] at ho42; rw [← Ny378.out] at ho42)); have HO380 := Aside0.mk (Kd.R_lower (Kd.R_new' ho42 (Kd.R_lt (rfa_ HO_4.out BK365.out))) (below_size bl_)); replace HO_4 := Aside0.mk (Kd.R_elder' (rfa_ HO_4.out BK365.out) (Kd.R_base ho42) hb); replace BK365 := Aside0.mk (blk_below (g := gb365) (o := .cells #[.int .i64 t357, .int .i64 t358, .int .i64 t359, .int .i64 t360, .int .i64 t361, .int .i64 t362, .int .i64 t363] 115 (0, 0)) (bp0_ BK365.out) hb); replace HB := Aside0.mk (below_step bl_ hb); clear hb ho42))
  go_ret2
  exact ⟨_, er_, by (with_reducible repeat (first | apply Kd.R_alloc | apply Kd.R_drewN | apply Kd.R_drew)); exact Kd.R_mono HO380.out (fun _ hk => trivial), bl_⟩
 subst c7
 rw [if_pos rfl] at H
 by_cases c8 : t364 = true
 rotate_left
 ·replace c8 := Bool.eq_false_iff.mpr c8
  subst c8
  rw [nf_] at H
  obtain ⟨y375, hy375⟩ : ∃ y_ : List (S70), y_ = (([] : List (S70))) := ⟨_, rfl⟩
  replace H : (some (y375, false)) = some (r1, r2) := rp_ H hy375
  have Ny375 := Aside0.mk hy375
  clear hy375
  simp only [Option.some.injEq, Prod.mk.injEq] at H
  obtain ⟨rfl, rfl⟩ := H
  go_wp2_with (first | ((with_reducible refine gate_callee (f := 92) rfl ?_); refine gs_ (some 19) Tryd.func92 #[.string a0, .int .i64 x5_1] ?_; (with_reducible refine (impl_ReadShort.calls k1 a0 x5_1 t354 t355 true _ A5.out).mono ?_); rintro e w31 ⟨rfl, hb⟩; refine ⟨_, rfl, ?_⟩; replace HO_4 := Aside0.mk (Kd.R_below (ra_ HO_4.out) hb); replace HB := Aside0.mk (below_step bl_ hb); (try clear hb)) | ((with_reducible refine gate_callee (f := 106) rfl ?_); refine gs_ (some 25) Tryd.func106 #[.string t354] ?_; (with_reducible refine (impl_ReadFrame.calls k1 t354 t357 t358 t359 t360 t361 t362 t363 false _ A6.out).mono ?_); rintro e w32 ⟨rfl, hb⟩; refine ⟨_, rfl, ?_⟩; replace HO_4 := Aside0.mk (Kd.R_below (ra_ HO_4.out) hb); replace HB := Aside0.mk (below_step bl_ hb); (try clear hb)) | ((with_reducible refine gate_dst (N := 9) rfl ?_); (try (refine gate_guard (by rfl) ?_; dsimp only)); refine bx_ 9 115 #[.int .i64 0, .int .i64 0, .int .i64 0, .int .i64 0, .int .i64 0, .int .i64 0, .int .i64 0] ?_; intro gb365 hg w33 hbox hb; replace HO_4 := Aside0.mk (Kd.R_below (ra_ HO_4.out) hb); have BK365 := Aside0.mk (hbox); have GW365 := Aside0.mk ((hz_ : w.heap.size ≤ gb365)); have GE365 := Aside0.mk ((hz_ : w.heap.size ≤ gb365)); replace HB := Aside0.mk (below_step bl_ hb); clear hb hbox hg; obtain ⟨hcz34_0, hcz34_1, hcz34_2, hcz34_3, hcz34_4, hcz34_5, hcz34_6, hfz34_0, hfz34_1, hfz34_2, hfz34_3, hfz34_4, hfz34_5, hfz34_6⟩ := cf7_ BK365.out) | ((with_reducible refine gate_dst (N := 44) rfl ?_); (try (refine gate_guard (by rfl) ?_; dsimp only)); refine Kd.R_lit k70 _ 70 ?hg (N := 44) ?hd (xs := ([] : List (S70))) (inner := []) (ok := fun _ => True) (okp := fun _ => True) ?hr ?hp (fun _ hk => hk) trivial (Below.refl _ _) (Nat.le_refl _) (by simp) ?_; (case hd => rfl); (case hg => rfl); (case hr => first | (go_simp; done) | (go_simp; rfl)); (case hp => exact (Reps.none _ _)); intro v376 w35 ho36 hb hg_ hnew_; clear hg_ hnew_; (first | rw [← Ny375.out] at ho36 | (simp only [Int.reduceToNat] at ho36; rw [← Ny375.out] at ho36)); have HO377 := Aside0.mk (Kd.R_lower (Kd.R_new' ho36 (Kd.R_lt (rfa_ HO_4.out BK365.out))) (below_size bl_)); replace HO_4 := Aside0.mk (Kd.R_elder' (rfa_ HO_4.out BK365.out) (Kd.R_base ho36) hb); replace BK365 := Aside0.mk (blk_below (g := gb365) (o := .cells #[.int .i64 t357, .int .i64 t358, .int .i64 t359, .int .i64 t360, .int .i64 t361, .int .i64 t362, .int .i64 t363] 115 (0, 0)) (bp0_ BK365.out) hb); replace HB := Aside0.mk (below_step bl_ hb); clear hb ho36))
  go_ret2
  exact ⟨_, er_, by (with_reducible repeat (first | apply Kd.R_alloc | apply Kd.R_drewN | apply Kd.R_drew)); exact Kd.R_mono HO377.out (fun _ hk => trivial), bl_⟩
 subst c8
 rw [if_pos rfl] at H
 by_cases c9 : t357 = 1
 rotate_left
 ·rw [if_neg c9] at H
  have c9b0 : (t357 == 1) = false := beq_eq_false_iff_ne.mpr c9
  have c9b1 : (t357 != 1) = true := bne_iff_ne.mpr c9
  obtain ⟨y372, hy372⟩ : ∃ y_ : List (S70), y_ = (([] : List (S70))) := ⟨_, rfl⟩
  replace H : (some (y372, false)) = some (r1, r2) := rp_ H hy372
  have Ny372 := Aside0.mk hy372
  clear hy372
  simp only [Option.some.injEq, Prod.mk.injEq] at H
  obtain ⟨rfl, rfl⟩ := H
  go_wp2_with (first | ((with_reducible refine gate_callee (f := 92) rfl ?_); refine gs_ (some 19) Tryd.func92 #[.string a0, .int .i64 x5_1] ?_; (with_reducible refine (impl_ReadShort.calls k1 a0 x5_1 t354 t355 true _ A5.out).mono ?_); rintro e w25 ⟨rfl, hb⟩; refine ⟨_, rfl, ?_⟩; replace HO_4 := Aside0.mk (Kd.R_below (ra_ HO_4.out) hb); replace HB := Aside0.mk (below_step bl_ hb); (try clear hb)) | ((with_reducible refine gate_callee (f := 106) rfl ?_); refine gs_ (some 25) Tryd.func106 #[.string t354] ?_; (with_reducible refine (impl_ReadFrame.calls k1 t354 t357 t358 t359 t360 t361 t362 t363 true _ A6.out).mono ?_); rintro e w26 ⟨rfl, hb⟩; refine ⟨_, rfl, ?_⟩; replace HO_4 := Aside0.mk (Kd.R_below (ra_ HO_4.out) hb); replace HB := Aside0.mk (below_step bl_ hb); (try clear hb)) | ((with_reducible refine gate_dst (N := 9) rfl ?_); (try (refine gate_guard (by rfl) ?_; dsimp only)); refine bx_ 9 115 #[.int .i64 0, .int .i64 0, .int .i64 0, .int .i64 0, .int .i64 0, .int .i64 0, .int .i64 0] ?_; intro gb365 hg w27 hbox hb; replace HO_4 := Aside0.mk (Kd.R_below (ra_ HO_4.out) hb); have BK365 := Aside0.mk (hbox); have GW365 := Aside0.mk ((hz_ : w.heap.size ≤ gb365)); have GE365 := Aside0.mk ((hz_ : w.heap.size ≤ gb365)); replace HB := Aside0.mk (below_step bl_ hb); clear hb hbox hg; obtain ⟨hcz28_0, hcz28_1, hcz28_2, hcz28_3, hcz28_4, hcz28_5, hcz28_6, hfz28_0, hfz28_1, hfz28_2, hfz28_3, hfz28_4, hfz28_5, hfz28_6⟩ := cf7_ BK365.out) | ((with_reducible refine gate_dst (N := 44) rfl ?_); (try (refine gate_guard (by rfl) ?_; dsimp only)); refine Kd.R_lit k70 _ 70 ?hg (N := 44) ?hd (xs := ([] : List (S70))) (inner := []) (ok := fun _ => True) (okp := fun _ => True) ?hr ?hp (fun _ hk => hk) trivial (Below.refl _ _) (Nat.le_refl _) (by simp) ?_; (case hd => rfl); (case hg => rfl); (case hr => first | (go_simp; done) | (go_simp; rfl)); (case hp => exact (Reps.none _ _)); intro v373 w29 ho30 hb hg_ hnew_; clear hg_ hnew_; (first | rw [← Ny372.out] at ho30 | (simp only [Int.reduceToNat] at ho30; rw [← Ny372.out] at ho30)); have HO374 := Aside0.mk (Kd.R_lower (Kd.R_new' ho30 (Kd.R_lt (rfa_ HO_4.out BK365.out))) (below_size bl_)); replace HO_4 := Aside0.mk (Kd.R_elder' (rfa_ HO_4.out BK365.out) (Kd.R_base ho30) hb); replace BK365 := Aside0.mk (blk_below (g := gb365) (o := .cells #[.int .i64 t357, .int .i64 t358, .int .i64 t359, .int .i64 t360, .int .i64 t361, .int .i64 t362, .int .i64 t363] 115 (0, 0)) (bp0_ BK365.out) hb); replace HB := Aside0.mk (below_step bl_ hb); clear hb ho30))
  go_ret2
  exact ⟨_, er_, by (with_reducible repeat (first | apply Kd.R_alloc | apply Kd.R_drewN | apply Kd.R_drew)); exact Kd.R_mono HO374.out (fun _ hk => trivial), bl_⟩
 rw [if_pos c9] at H
 have c9b0 : (t357 == 1) = true := beq_iff_eq.mpr c9
 have c9b1 : (t357 != 1) = false := bne_eq_false_iff_eq.mpr c9
 clear c9
 by_cases c10 : (x4_1.length : Int) = 200
 ·rw [if_pos c10] at H
  have c10b0 : ((x4_1.length : Int) == 200) = true := beq_iff_eq.mpr c10
  have c10b1 : ((x4_1.length : Int) != 200) = false := bne_eq_false_iff_eq.mpr c10
  clear c10
  obtain ⟨y366, hy366⟩ : ∃ y_ : List (S70), y_ = (([] : List (S70))) := ⟨_, rfl⟩
  replace H : (some (y366, false)) = some (r1, r2) := rp_ H hy366
  have Ny366 := Aside0.mk hy366
  clear hy366
  simp only [Option.some.injEq, Prod.mk.injEq] at H
  obtain ⟨rfl, rfl⟩ := H
  go_wp2_with (first | ((with_reducible refine gate_callee (f := 92) rfl ?_); refine gs_ (some 19) Tryd.func92 #[.string a0, .int .i64 x5_1] ?_; (with_reducible refine (impl_ReadShort.calls k1 a0 x5_1 t354 t355 true _ A5.out).mono ?_); rintro e w11 ⟨rfl, hb⟩; refine ⟨_, rfl, ?_⟩; replace HO_4 := Aside0.mk (Kd.R_below (ra_ HO_4.out) hb); replace HB := Aside0.mk (below_step bl_ hb); (try clear hb)) | ((with_reducible refine gate_callee (f := 106) rfl ?_); refine gs_ (some 25) Tryd.func106 #[.string t354] ?_; (with_reducible refine (impl_ReadFrame.calls k1 t354 t357 t358 t359 t360 t361 t362 t363 true _ A6.out).mono ?_); rintro e w12 ⟨rfl, hb⟩; refine ⟨_, rfl, ?_⟩; replace HO_4 := Aside0.mk (Kd.R_below (ra_ HO_4.out) hb); replace HB := Aside0.mk (below_step bl_ hb); (try clear hb)) | ((with_reducible refine gate_dst (N := 9) rfl ?_); (try (refine gate_guard (by rfl) ?_; dsimp only)); refine bx_ 9 115 #[.int .i64 0, .int .i64 0, .int .i64 0, .int .i64 0, .int .i64 0, .int .i64 0, .int .i64 0] ?_; intro gb365 hg w13 hbox hb; replace HO_4 := Aside0.mk (Kd.R_below (ra_ HO_4.out) hb); have BK365 := Aside0.mk (hbox); have GW365 := Aside0.mk ((hz_ : w.heap.size ≤ gb365)); have GE365 := Aside0.mk ((hz_ : w.heap.size ≤ gb365)); replace HB := Aside0.mk (below_step bl_ hb); clear hb hbox hg; obtain ⟨hcz14_0, hcz14_1, hcz14_2, hcz14_3, hcz14_4, hcz14_5, hcz14_6, hfz14_0, hfz14_1, hfz14_2, hfz14_3, hfz14_4, hfz14_5, hfz14_6⟩ := cf7_ BK365.out; obtain ⟨Ao15, co15, eo15⟩ := Kd.R_slice HO_4.out; subst eo15) | ((with_reducible refine gate_dst (N := 44) rfl ?_); (try (refine gate_guard (by rfl) ?_; dsimp only)); refine Kd.R_lit k70 _ 70 ?hg (N := 44) ?hd (xs := ([] : List (S70))) (inner := []) (ok := fun _ => True) (okp := fun _ => True) ?hr ?hp (fun _ hk => hk) trivial (Below.refl _ _) (Nat.le_refl _) (by simp) ?_; (case hd => rfl); (case hg => rfl); (case hr => first | (go_simp; done) | (go_simp; rfl)); (case hp => exact (Reps.none _ _)); intro v367 w16 ho17 hb hg_ hnew_; clear hg_ hnew_; (first | rw [← Ny366.out] at ho17 | (simp only [Int.reduceToNat] at ho17; rw [← Ny366.out] at ho17)); have HO368 := Aside0.mk (Kd.R_lower (Kd.R_new' ho17 (Kd.R_lt (rfa_ HO_4.out BK365.out))) (below_size bl_)); replace HO_4 := Aside0.mk (Kd.R_elder' (rfa_ HO_4.out BK365.out) (Kd.R_base ho17) hb); replace BK365 := Aside0.mk (blk_below (g := gb365) (o := .cells #[.int .i64 t357, .int .i64 t358, .int .i64 t359, .int .i64 t360, .int .i64 t361, .int .i64 t362, .int .i64 t363] 115 (0, 0)) (bp0_ BK365.out) hb); replace HB := Aside0.mk (below_step bl_ hb); clear hb ho17))
  go_ret2
  exact ⟨_, er_, by (with_reducible repeat (first | apply Kd.R_alloc | apply Kd.R_drewN | apply Kd.R_drew)); exact Kd.R_mono HO368.out (fun _ hk => trivial), bl_⟩
 rw [if_neg c10] at H
 have c10b0 : ((x4_1.length : Int) == 200) = false := beq_eq_false_iff_ne.mpr c10
 have c10b1 : ((x4_1.length : Int) != 200) = true := bne_iff_ne.mpr c10
 by_cases c18 : x4_1.length < 2932031007402
 rotate_left
 ·exact nn_ c18 H
 rw [if_pos c18] at H
 have LMc18 := Aside0.mk c18
 clear c18
 obtain ⟨y369, hy369⟩ : ∃ y_ : List (S70), y_ = (x4_1 ++ [(⟨t358, t359, (⟨t360, t361, t362, t363⟩ : S68)⟩ : S70)]) := ⟨_, rfl⟩
 replace H : (impl_ReadLog.l0 k1 a0 y369 t355) = some (r1, r2) := rp_ H hy369
 have Ny369 := Aside0.mk hy369
 clear hy369
 have H' := Aside0.mk H
 clear H
 go_wp2_with (first | ((with_reducible refine gate_callee (f := 92) rfl ?_); refine gs_ (some 19) Tryd.func92 #[.string a0, .int .i64 x5_1] ?_; (with_reducible refine (impl_ReadShort.calls k1 a0 x5_1 t354 t355 true _ A5.out).mono ?_); rintro e w19 ⟨rfl, hb⟩; refine ⟨_, rfl, ?_⟩; replace HO_4 := Aside0.mk (Kd.R_below (ra_ HO_4.out) hb); replace HB := Aside0.mk (below_step bl_ hb); (try clear hb)) | ((with_reducible refine gate_callee (f := 106) rfl ?_); refine gs_ (some 25) Tryd.func106 #[.string t354] ?_; (with_reducible refine (impl_ReadFrame.calls k1 t354 t357 t358 t359 t360 t361 t362 t363 true _ A6.out).mono ?_); rintro e w20 ⟨rfl, hb⟩; refine ⟨_, rfl, ?_⟩; replace HO_4 := Aside0.mk (Kd.R_below (ra_ HO_4.out) hb); replace HB := Aside0.mk (below_step bl_ hb); (try clear hb)) | ((with_reducible refine gate_dst (N := 9) rfl ?_); (try (refine gate_guard (by rfl) ?_; dsimp only)); refine bx_ 9 115 #[.int .i64 0, .int .i64 0, .int .i64 0, .int .i64 0, .int .i64 0, .int .i64 0, .int .i64 0] ?_; intro gb365 hg w21 hbox hb; replace HO_4 := Aside0.mk (Kd.R_below (ra_ HO_4.out) hb); have BK365 := Aside0.mk (hbox); have GW365 := Aside0.mk ((hz_ : w.heap.size ≤ gb365)); have GE365 := Aside0.mk ((hz_ : w.heap.size ≤ gb365)); replace HB := Aside0.mk (below_step bl_ hb); clear hb hbox hg; obtain ⟨hcz22_0, hcz22_1, hcz22_2, hcz22_3, hcz22_4, hcz22_5, hcz22_6, hfz22_0, hfz22_1, hfz22_2, hfz22_3, hfz22_4, hfz22_5, hfz22_6⟩ := cf7_ BK365.out; obtain ⟨Ao23, co23, eo23⟩ := Kd.R_slice HO_4.out; subst eo23) | ((with_reducible refine gate_builtin (b := .append) (xs := #[.tmp 45, .tmp 53]) rfl ?_); (try (refine gate_guard (by rfl) ?_; dsimp only)); at_builtin; refine Kd.R_append k70 (w0 := w) w.heap.size rfl (.tmp 45) (.tmp 53) 28 70 (.agg #[(.int .i64 0), (.int .i64 0), (.int .i64 0), (.int .i64 0), (.int .i64 0), (.int .i64 0)]) 48 rfl Tryd.underlying28 info70 rfl (by decide) (by omega) (.slice Ao23 x4_1.length co23) x4_1 (⟨t358, t359, (⟨t360, t361, t362, t363⟩ : S68)⟩ : S70) [.int .i64 t358, .int .i64 t359, .int .i64 t360, .int .i64 t361, .int .i64 t362, .int .i64 t363] (fun _ => True) (fun _ => False) rfl (by first | (go_simp; done) | (go_simp; rfl)) ?aP (fun _ hk => hk.elim) ?aF ?aO ?aB ?aS ?aL ?_; (case aP => exact k70_mkM _ _ _ (⟨t358, t359, (⟨t360, t361, t362, t363⟩ : S68)⟩ : S70)); (case aB => exact bl_); (case aF => exact (fun _ _ => trivial)); (case aO => exact (by (with_reducible repeat (first | apply Kd.R_alloc | apply Kd.R_drewN | apply Kd.R_drew)); exact Kd.R_mono (Kd.R_far (p := ⟨gb365, 6, none⟩) (Kd.R_far (p := ⟨gb365, 5, none⟩) (Kd.R_far (p := ⟨gb365, 4, none⟩) (Kd.R_far (p := ⟨gb365, 3, none⟩) (Kd.R_far (p := ⟨gb365, 2, none⟩) (Kd.R_far (p := ⟨gb365, 1, none⟩) (Kd.R_far (p := ⟨gb365, 0, none⟩) (Kd.R_types HO_4.out BK365.out (by decide)) (fun _ hk => hk.2) (.int .i64 t357)) (fun _ hk => hk.2) (.int .i64 t358)) (fun _ hk => hk.2) (.int .i64 t359)) (fun _ hk => hk.2) (.int .i64 t360)) (fun _ hk => hk.2) (.int .i64 t361)) (fun _ hk => hk.2) (.int .i64 t362)) (fun _ hk => hk.2) (.int .i64 t363)) (fun _ hk => trivial))); (case aS => exact (below_size bl_)); (case aL => have := LMc18.out; omega); intro v370 w24 ho hb hg hat; rw [← Ny369.out] at ho; replace BK365 := Aside0.mk (blk_grown (g := gb365) (o := .cells #[.int .i64 t357, .int .i64 t358, .int .i64 t359, .int .i64 t360, .int .i64 t361, .int .i64 t362, .int .i64 t363] 115 (0, 0)) (bp0_ BK365.out) hg (Kd.R_ne HO_4.out BK365.out (by decide))); replace HB := Aside0.mk (hb); have HO371 := Aside0.mk (ho); clear HO_4; clear ho hb hg hat))
 go_roundg k1
 case measure => have := HK1.out; omega
 case rel => exact ⟨(y369), (t355), (sr_), H', ⟨by have := HK1.out; omega⟩, ⟨ra_ HO371.out⟩, ⟨bl_⟩⟩

end Go.Proofs.YtdhjolglbcoijaaDoor.PA
