/- Contracts of functions of the program and of the reference, and plain lemmas on what they compute: a part of the proof of the law FnExactReadScript. No condition. -/
import Derived.Test.YtjfmpodeenidnaaJFnExactReadScript1
import Derived.Test.YtjfmpodeenidnaaJFnExactReadScript4
import Derived.Test.YtjfmpodeenidnaaJFnExactReadScript5
import Derived.Test.YtjfmpodeenidnaaJFnExactReadScript7
import Derived.Test.YtjfmpodeenidnaaShortV
set_option maxHeartbeats 8000000
set_option maxRecDepth 100000
namespace Go.Proofs.Ytjfmpodeenidnaa.PA
open Go.RowKit Go.Proofs.Ytjfmpodeenidnaa.Short Go.Proofs.YtjfmpodeenidnaaW.PrintWords Go.Proofs.YtjfmpodeenidnaaW.PrintLast Go.Proofs.YtjfmpodeenidnaaW.PrintMore
attribute [local go_sem] max2_int min2_int max_two min_two max_three min_three max_four min_four   -- for this text's walks alone
set_option linter.unusedVariables false
set_option linter.unusedSimpArgs false

mutual
def impl_ReadScript.l0 : Nat → List (S69) → Int → Bool → List ByteArray → Int → Int → Option ((List (S69)) × Int × Int)
 | 0, _, _, _, _, _, _ => none
 | k + 1, x5, x6, x7, x22, x23, x24 => if x24 < x23 then (if 0 ≤ x24 then (if x24 < (x22.length : Int) then ((impl_PartsOf.f k (rdOf ByteArray.empty x22 x24)).bind fun bt363 => (if bt363.2 = true then (if (bt363.1.length : Int) = 0 then (impl_ReadScript.j1 k x5 x6 x7 x24 bt363.1 bt363.2 x22 x23 x24 true) else (if 0 < (bt363.1.length : Int) then (if 0 < ((rdOf ByteArray.empty bt363.1 0).size : Int) then (impl_ReadScript.j1 k x5 x6 x7 x24 bt363.1 bt363.2 x22 x23 x24 ((bt (rdOf ByteArray.empty bt363.1 0) 0) == 35)) else (none)) else (none))) else (impl_ReadScript.j1 k x5 x6 x7 x24 bt363.1 bt363.2 x22 x23 x24 false))) else (none)) else (none)) else (some (x5, x6, 0))
def impl_ReadScript.j1 : Nat → List (S69) → Int → Bool → Int → List ByteArray → Bool → List ByteArray → Int → Int → Bool → Option ((List (S69)) × Int × Int)
 | 0, _, _, _, _, _, _, _, _, _, _ => none
 | k + 1, x5, x6, x7, x8, x10, x11, x22, x23, x24, x46 => if x46 = true then (impl_ReadScript.l0 k x5 x6 x7 x22 x23 (wrap64 (x24 + 1))) else (if x11 = true then (if x7 = true then (impl_ReadScript.j2 k x5 x6 x7 x8 x10 x22 x23 x24 true) else (impl_ReadScript.j2 k x5 x6 x7 x8 x10 x22 x23 x24 ((x10.length : Int) == 0))) else (impl_ReadScript.j2 k x5 x6 x7 x8 x10 x22 x23 x24 true))
def impl_ReadScript.j2 : Nat → List (S69) → Int → Bool → Int → List ByteArray → List ByteArray → Int → Int → Bool → Option ((List (S69)) × Int × Int)
 | 0, _, _, _, _, _, _, _, _, _ => none
 | k + 1, x5, x6, x7, x8, x10, x22, x23, x24, x56 => if x56 = true then (some ((([] : List (S69))), 0, wrap64 (x8 + 1))) else (if 0 < (x10.length : Int) then (if (rdOf ByteArray.empty x10 0).toList = ([99, 97, 108, 109] : List UInt8) then (if 1 ≤ (x10.length : Int) then ((impl_numbersOf.f k (x10.drop 1)).bind fun bt376 => (if bt376.2 = true then (impl_ReadScript.j3 k x5 x8 bt376.1 x22 x23 x24 ((bt376.1.length : Int) != 1)) else (impl_ReadScript.j3 k x5 x8 bt376.1 x22 x23 x24 true))) else (none)) else ((impl_eventOf.f k x10).bind fun bt384 => (if bt384.2.2.2.2.2.2.2 = true then (if (x5.length : Int) = 90 then (some ((([] : List (S69))), 0, wrap64 (x8 + 1))) else (if x5.length < 1759218604441 then (impl_ReadScript.l0 k (x5 ++ [(⟨bt384.1, bt384.2.1, bt384.2.2.1, (⟨bt384.2.2.2.1, bt384.2.2.2.2.1, bt384.2.2.2.2.2.1⟩ : S47), bt384.2.2.2.2.2.2.1⟩ : S69)]) x6 x7 x22 x23 (wrap64 (x24 + 1))) else (none))) else (some ((([] : List (S69))), 0, wrap64 (x8 + 1)))))) else (none))
def impl_ReadScript.j3 : Nat → List (S69) → Int → List Int → List ByteArray → Int → Int → Bool → Option ((List (S69)) × Int × Int)
 | 0, _, _, _, _, _, _, _ => none
 | k + 1, x5, x8, x12, x22, x23, x24, x76 => if x76 = true then (some ((([] : List (S69))), 0, wrap64 (x8 + 1))) else (if 0 < (x12.length : Int) then (impl_ReadScript.l0 k x5 (rd x12 0) true x22 x23 (wrap64 (x24 + 1))) else (none))
end
def impl_ReadScript.f (k : Nat) (a0 : ByteArray) : Option ((List (S69)) × Int × Int) := if (a0.size : Int) > 3000 then (some ((([] : List (S69))), 0, (-1))) else ((impl_linesOf.f k a0).bind fun t359 => (impl_ReadScript.l0 k (([] : List (S69))) 0 false t359 (t359.length : Int) 0))
theorem impl_ReadScript.mono_l : ∀ k, (∀ y0 y1 y2 y3 y4 y5, LeO (impl_ReadScript.l0 k y0 y1 y2 y3 y4 y5) (impl_ReadScript.l0 (k + 1) y0 y1 y2 y3 y4 y5)) ∧ (∀ y0 y1 y2 y3 y4 y5 y6 y7 y8 y9, LeO (impl_ReadScript.j1 k y0 y1 y2 y3 y4 y5 y6 y7 y8 y9) (impl_ReadScript.j1 (k + 1) y0 y1 y2 y3 y4 y5 y6 y7 y8 y9)) ∧ (∀ y0 y1 y2 y3 y4 y5 y6 y7 y8, LeO (impl_ReadScript.j2 k y0 y1 y2 y3 y4 y5 y6 y7 y8) (impl_ReadScript.j2 (k + 1) y0 y1 y2 y3 y4 y5 y6 y7 y8)) ∧ (∀ y0 y1 y2 y3 y4 y5 y6, LeO (impl_ReadScript.j3 k y0 y1 y2 y3 y4 y5 y6) (impl_ReadScript.j3 (k + 1) y0 y1 y2 y3 y4 y5 y6))
 | 0 => ⟨fun _ _ _ _ _ _ r h => by simp [impl_ReadScript.l0] at h, fun _ _ _ _ _ _ _ _ _ _ r h => by simp [impl_ReadScript.j1] at h, fun _ _ _ _ _ _ _ _ _ r h => by simp [impl_ReadScript.j2] at h, fun _ _ _ _ _ _ _ r h => by simp [impl_ReadScript.j3] at h⟩
 | k + 1 => by
  obtain ⟨ih0, ih1, ih2, ih3⟩ := impl_ReadScript.mono_l k
  refine ⟨?_, ?_, ?_, ?_⟩
  ·intro y0 y1 y2 y3 y4 y5
   unfold impl_ReadScript.l0
   have m0 := @impl_PartsOf.mono
   have m1 := @impl_eventOf.mono
   have m2 := @impl_linesOf.mono
   have m3 := @impl_numbersOf.mono
   exact mo_
  ·intro y0 y1 y2 y3 y4 y5 y6 y7 y8 y9
   unfold impl_ReadScript.j1
   have m0 := @impl_PartsOf.mono
   have m1 := @impl_eventOf.mono
   have m2 := @impl_linesOf.mono
   have m3 := @impl_numbersOf.mono
   exact mo_
  ·intro y0 y1 y2 y3 y4 y5 y6 y7 y8
   unfold impl_ReadScript.j2
   have m0 := @impl_PartsOf.mono
   have m1 := @impl_eventOf.mono
   have m2 := @impl_linesOf.mono
   have m3 := @impl_numbersOf.mono
   exact mo_
  ·intro y0 y1 y2 y3 y4 y5 y6
   unfold impl_ReadScript.j3
   have m0 := @impl_PartsOf.mono
   have m1 := @impl_eventOf.mono
   have m2 := @impl_linesOf.mono
   have m3 := @impl_numbersOf.mono
   exact mo_
theorem impl_ReadScript.mono : ∀ a0 k, LeO (impl_ReadScript.f k a0) (impl_ReadScript.f (k + 1) a0) := by
 intro a0 k
 obtain ⟨ih0, ih1, ih2, ih3⟩ := impl_ReadScript.mono_l k
 unfold impl_ReadScript.f
 have m0 := @impl_PartsOf.mono
 have m1 := @impl_eventOf.mono
 have m2 := @impl_linesOf.mono
 have m3 := @impl_numbersOf.mono
 exact mo_
theorem impl_ReadScript.calls (k : Nat) (a0 : ByteArray) (r1 : List (S69)) (r2 : Int) (r3 : Int) (w : World) (h : impl_ReadScript.f k a0 = some (r1, r2, r3)) :
 Calls Try.prog 8 #[.string a0] w fun e w' => ∃ v0_ : Value, e = .returned (.tuple #[v0_, .int .i64 r2, .int .i64 r3]) ∧ Kd.S k69 69 w' w.heap.size (fun _ => True) v0_ r1 ∧ Below w.heap.size w w' := by
 have hu69 := Try.underlying69
 have HB := Aside0.mk (Below.refl w.heap.size w)
 have H := h
 unfold impl_ReadScript.f at H
 clear h
 by_cases c2 : (a0.size : Int) > 3000
 ·rw [if_pos c2] at H
  have c2b0 := decide_eq_true c2
  have c2b1 : decide (3000 < a0.size) = true := decide_eq_true (by omega)
  clear c2
  obtain ⟨y353, hy353⟩ : ∃ y_ : List (S69), y_ = (([] : List (S69))) := ⟨_, rfl⟩
  replace H : (some (y353, 0, (-1))) = some (r1, r2, r3) := rp_ H hy353
  have Ny353 := Aside0.mk hy353
  clear hy353
  simp only [Option.some.injEq, Prod.mk.injEq] at H
  obtain ⟨rfl, rfl, rfl⟩ := H
  go_enter Try.func8, Try.ntmps8
  go_wp2_with (first | ((with_reducible refine gate_dst (N := 19) rfl ?_); (try (refine gate_guard (by rfl) ?_; dsimp only)); refine Kd.S_lit k69 _ 69 ?hg (N := 19) ?hd (xs := ([] : List (S69))) (inner := []) (ok := fun _ => True) (okp := fun _ => True) ?hr ?hp (fun _ hk => hk) trivial (Below.refl _ _) (Nat.le_refl _) (by simp) ?_; (case hd => rfl); (case hg => rfl); (case hr => first | (go_simp; done) | (go_simp; rfl)); (case hp => exact (Reps.none _ _)); intro v354 w3 ho4 hb hg_ hnew_; clear hg_ hnew_; (first | rw [← Ny353.out] at ho4 | (simp only [Int.reduceToNat] at ho4; rw [← Ny353.out] at ho4)); have HO355 := Aside0.mk (Kd.S_lower ho4 (below_size bl_)); replace HB := Aside0.mk (below_step bl_ hb); clear hb ho4))
  go_ret3
  exact ⟨_, er_, by (with_reducible repeat (first | apply Kd.S_alloc | apply Kd.S_drewN | apply Kd.S_drew)); exact HO355.out, bl_⟩
 rw [if_neg c2] at H
 have c2b0 := decide_eq_false c2
 have c2b1 : decide (3000 < a0.size) = false := decide_eq_false (by omega)
 clear c2
 obtain ⟨y356, hy356⟩ : ∃ y_ : List (S69), y_ = (([] : List (S69))) := ⟨_, rfl⟩
 replace H : ((impl_linesOf.f k a0).bind fun t359 => (impl_ReadScript.l0 k y356 0 false t359 (t359.length : Int) 0)) = some (r1, r2, r3) := rp_ H hy356
 have Ny356 := Aside0.mk hy356
 clear hy356
 replace H := bs_ H
 obtain ⟨t359, A5, H⟩ := H
 try dsimp only at H
 have H' := Aside0.mk H
 clear H
 go_enter Try.func8, Try.ntmps8
 go_wp2_with (first | ((with_reducible refine gate_dst (N := 20) rfl ?_); (try (refine gate_guard (by rfl) ?_; dsimp only)); refine Kd.S_lit k69 _ 69 ?hg (N := 20) ?hd (xs := ([] : List (S69))) (inner := []) (ok := fun _ => True) (okp := fun _ => True) ?hr ?hp (fun _ hk => hk) trivial (Below.refl _ _) (Nat.le_refl _) (by simp) ?_; (case hd => rfl); (case hg => rfl); (case hr => first | (go_simp; done) | (go_simp; rfl)); (case hp => exact (Reps.none _ _)); intro v357 w6 ho7 hb hg_ hnew_; clear hg_ hnew_; (first | rw [← Ny356.out] at ho7 | (simp only [Int.reduceToNat] at ho7; rw [← Ny356.out] at ho7)); have HO358 := Aside0.mk (Kd.S_lower ho7 (below_size bl_)); replace HB := Aside0.mk (below_step bl_ hb); clear hb ho7) | ((with_reducible refine gate_callee (f := 44) rfl ?_); refine gs_ (some 22) Try.func44 #[.string a0] ?_; (with_reducible refine (impl_linesOf.calls k a0 t359 _ A5.out).mono ?_); rintro e w8 ⟨v360, rfl, ho0, hb⟩; refine ⟨_, rfl, ?_⟩; replace HO358 := Aside0.mk (Kd.S_below (by (with_reducible repeat (first | apply Kd.S_alloc | apply Kd.S_drewN | apply Kd.S_drew)); exact HO358.out) hb); have HO361 := Aside0.mk (Kd.R_lower ho0 (below_size bl_)); replace HB := Aside0.mk (below_step bl_ hb); (try clear hb); (try clear ho0); obtain ⟨Ao9, co9, eo9⟩ := Kd.R_slice HO361.out; subst eo9))
 go_loopg [5, 6, 7, 24] k (fun kq v5 v6 v7 v24 w' => ∃ (x5_1 : List (S69)) (x6_1 : Int) (x7_1 : Bool) (x24_1 : Int), v6 = .int .i64 x6_1 ∧ v7 = .bool x7_1 ∧ v24 = .int .i64 x24_1 ∧ Aside0 (impl_ReadScript.l0 kq x5_1 x6_1 x7_1 t359 (t359.length : Int) x24_1 = some (r1, r2, r3)) ∧ Aside0 (kq ≤ k) ∧ Aside0 (Kd.S k69 69 w' w.heap.size (fun _ => True) v5 x5_1) ∧ Aside0 (Kd.R Kd.string 9 w' w.heap.size (fun _ => True) (.slice Ao9 t359.length co9) t359) ∧ Aside0 (Below w.heap.size w w'))
 case atStart => exact ⟨(y356), (0), (false), (0), (sr_), (sr_), (sr_), H', ⟨Nat.le_refl _⟩, ⟨by (with_reducible repeat (first | apply Kd.S_alloc | apply Kd.S_drewN | apply Kd.S_drew)); exact HO358.out⟩, ⟨ra_ HO361.out⟩, ⟨bl_⟩⟩
 clear H'
 try clear c2
 try clear c2b0
 try clear c2b1
 obtain ⟨x5_1, x6_1, x7_1, x24_1, rfl, rfl, rfl, HA, HK1, HO_5, HO_22, HB⟩ := hrel
 cases gk with
 | zero => exact absurd HA.out (by simp [impl_ReadScript.l0])
 | succ k1 => ?_
 have H := HA.out
 clear HA
 simp only [impl_ReadScript.l0] at H
 by_cases c10 : x24_1 < (t359.length : Int)
 rotate_left
 ·rw [if_neg c10] at H
  have c10b0 := decide_eq_false c10
  clear c10
  simp only [Option.some.injEq, Prod.mk.injEq] at H
  obtain ⟨rfl, rfl, rfl⟩ := H
  go_wp2
  go_ret3
  exact ⟨_, er_, by (with_reducible repeat (first | apply Kd.S_alloc | apply Kd.S_drewN | apply Kd.S_drew)); exact HO_5.out, bl_⟩
 rw [if_pos c10] at H
 have c10b0 := decide_eq_true c10
 clear c10
 by_cases c11 : 0 ≤ x24_1
 rotate_left
 ·exact nn_ c11 H
 rw [if_pos c11] at H
 have c11b0 := decide_eq_true c11
 clear c11
 by_cases c12 : x24_1 < (t359.length : Int)
 rotate_left
 ·exact nn_ c12 H
 rw [if_pos c12] at H
 have c12b0 := decide_eq_true c12
 clear c12
 replace H := bs_ H
 obtain ⟨⟨t363, t364⟩, A13, H⟩ := H
 try dsimp only at H
 have HC14 := Aside0.mk H
 clear H
 have p362 : 0 ≤ (x24_1 : Int) := of_decide_eq_true as_
 have q362 : x24_1 < (t359.length : Int) := of_decide_eq_true as_
 obtain ⟨ad362, e362, hx362_0⟩ := Kd.at_string (Kd.R_reads' HO_22.out).2.2 x24_1 p362 q362
 cases e362
 replace p362 := eq_true p362
 replace q362 := eq_true q362
 go_upto_region 9 with (first | ((with_reducible refine gate_callee (f := 45) rfl ?_); refine gs_ (some 31) Try.func45 #[.string (rdOf ByteArray.empty t359 x24_1)] ?_; (with_reducible refine (impl_PartsOf.calls k1 (rdOf ByteArray.empty t359 x24_1) t363 t364 _ A13.out).mono ?_); rintro e w15 ⟨v365, rfl, ho0, hb⟩; refine ⟨_, rfl, ?_⟩; replace HO_5 := Aside0.mk (Kd.S_below (by (with_reducible repeat (first | apply Kd.S_alloc | apply Kd.S_drewN | apply Kd.S_drew)); exact HO_5.out) hb); have HO366 := Aside0.mk (Kd.R_lower (Kd.R_new' ho0 (Kd.R_lt (ra_ HO_22.out))) (below_size bl_)); replace HO_22 := Aside0.mk (Kd.R_elder' (ra_ HO_22.out) (Kd.R_base ho0) hb); replace HB := Aside0.mk (below_step bl_ hb); (try clear hb); (try clear ho0)))
 (try simp only [Act.put, List.setIfInBounds_toArray, List.set_cons_zero, List.set_cons_succ])
 go_cut [46] (fun v46 wc => ∃ (kq : Nat) (x46_13 : Bool), v46 = .bool x46_13 ∧ Aside0 (impl_ReadScript.j1 kq x5_1 x6_1 x7_1 x24_1 t363 t364 t359 (t359.length : Int) x24_1 x46_13 = some (r1, r2, r3)) ∧ Aside0 (kq ≤ k1) ∧ Aside0 (Kd.S k69 69 wc w.heap.size (fun _ => True) u5 x5_1) ∧ Aside0 (Kd.R Kd.string 9 wc w.heap.size (fun k_ => some k_ ≠ ((.slice (some ad362) t359.length co9) : Value).ownBlock) v365 t363) ∧ Aside0 (Kd.R Kd.string 9 wc w.heap.size (fun k_ => some k_ ≠ (v365 : Value).ownBlock) (.slice (some ad362) t359.length co9) t359) ∧ Aside0 (Below w.heap.size w wc))
 case first =>
  have H := HC14.out
  clear HC14
  by_cases c16 : t364 = true
  rotate_left
  ·replace c16 := Bool.eq_false_iff.mpr c16
   subst c16
   rw [nf_] at H
   have H' := Aside0.mk H
   clear H
   go_wp2
   go_meet
   case rel => exact ⟨_, (false), (sr_), H', ⟨by have := HK1.out; first | omega | exact Nat.le_refl _⟩, ⟨by (with_reducible repeat (first | apply Kd.S_alloc | apply Kd.S_drewN | apply Kd.S_drew)); exact HO_5.out⟩, ⟨by (with_reducible repeat (first | apply Kd.R_alloc | apply Kd.R_drewN | apply Kd.R_drew)); exact Kd.R_mono HO366.out (fun _ hk => hk.2)⟩, ⟨by (with_reducible repeat (first | apply Kd.R_alloc | apply Kd.R_drewN | apply Kd.R_drew)); exact Kd.R_mono HO_22.out (fun _ hk => hk.2)⟩, ⟨bl_⟩⟩
  subst c16
  rw [if_pos rfl] at H
  by_cases c17 : (t363.length : Int) = 0
  ·rw [if_pos c17] at H
   have c17b0 : ((t363.length : Int) == 0) = true := beq_iff_eq.mpr c17
   have c17b1 : ((t363.length : Int) != 0) = false := bne_eq_false_iff_eq.mpr c17
   clear c17
   (first | rw [c17b0] | (simp only [i64_w, i32_w]; rw [c17b0]) | skip)
   have H' := Aside0.mk H
   clear H
   obtain ⟨Ao18, co18, eo18⟩ := Kd.R_slice HO366.out
   subst eo18
   go_wp2
   go_meet
   case rel => exact ⟨_, (true), (sr_), H', ⟨by have := HK1.out; first | omega | exact Nat.le_refl _⟩, ⟨by (with_reducible repeat (first | apply Kd.S_alloc | apply Kd.S_drewN | apply Kd.S_drew)); exact HO_5.out⟩, ⟨by (with_reducible repeat (first | apply Kd.R_alloc | apply Kd.R_drewN | apply Kd.R_drew)); exact Kd.R_mono HO366.out (fun _ hk => hk.2)⟩, ⟨by (with_reducible repeat (first | apply Kd.R_alloc | apply Kd.R_drewN | apply Kd.R_drew)); exact Kd.R_mono HO_22.out (fun _ hk => hk.2)⟩, ⟨bl_⟩⟩
  rw [if_neg c17] at H
  have c17b0 : ((t363.length : Int) == 0) = false := beq_eq_false_iff_ne.mpr c17
  have c17b1 : ((t363.length : Int) != 0) = true := bne_iff_ne.mpr c17
  have c17b2 : ¬ (t363 = []) := fun h_ => c17 (by rw [h_]; rfl)
  (first | rw [c17b0] | (simp only [i64_w, i32_w]; rw [c17b0]) | skip)
  by_cases c19 : 0 < (t363.length : Int)
  rotate_left
  ·exact nn_ c19 H
  rw [if_pos c19] at H
  have c19b0 := decide_eq_true c19
  have c19b1 : decide (0 < t363.length) = true := decide_eq_true (by omega)
  clear c19
  by_cases c20 : 0 < ((rdOf ByteArray.empty t363 0).size : Int)
  rotate_left
  ·exact nn_ c20 H
  rw [if_pos c20] at H
  have c20b0 := decide_eq_true c20
  have c20b1 : decide (0 < (rdOf ByteArray.empty t363 0).size) = true := decide_eq_true (by omega)
  clear c20
  have H' := Aside0.mk H
  clear H
  obtain ⟨Ao22, co22, eo22⟩ := Kd.R_slice HO366.out
  subst eo22
  have p367 : 0 ≤ (0 : Int) := (by omega)
  have q367 : 0 < (t363.length : Int) := of_decide_eq_true as_
  obtain ⟨ad367, e367, hx367_0⟩ := Kd.at_string (Kd.R_reads' HO366.out).2.2 0 p367 q367
  cases e367
  have qi367 : (0 < t363.length) = True := eq_true (by omega)
  (try rw [show ((0 : Int)).toNat = 0 from rfl] at hx367_0)
  (try rw [Addr.add_zero'] at hx367_0)
  replace p367 := eq_true p367
  replace q367 := eq_true q367
  have p21 : 0 ≤ (0 : Int) := (by omega)
  have q21 : 0 < (rdOf ByteArray.empty t363 0).size := (by have : (0 : Int) < ((rdOf ByteArray.empty t363 0).size : Int) := of_decide_eq_true as_; omega)
  have hx21 : ∀ h : 0 < (rdOf ByteArray.empty t363 0).size, (((rdOf ByteArray.empty t363 0)[0]'h).toNat : Int) = bt (rdOf ByteArray.empty t363 0) 0 := bt_at (rdOf ByteArray.empty t363 0) 0
  clear p21
  have qi21 : (0 < ((rdOf ByteArray.empty t363 0).size : Int)) = True := eq_true (of_decide_eq_true as_)
  replace q21 := eq_true q21
  go_wp2
  go_meet
  case rel => exact ⟨_, (((bt (rdOf ByteArray.empty t363 0) 0) == 35)), (sr_), H', ⟨by have := HK1.out; first | omega | exact Nat.le_refl _⟩, ⟨by (with_reducible repeat (first | apply Kd.S_alloc | apply Kd.S_drewN | apply Kd.S_drew)); exact HO_5.out⟩, ⟨by (with_reducible repeat (first | apply Kd.R_alloc | apply Kd.R_drewN | apply Kd.R_drew)); exact Kd.R_mono HO366.out (fun _ hk => hk.2)⟩, ⟨by (with_reducible repeat (first | apply Kd.R_alloc | apply Kd.R_drewN | apply Kd.R_drew)); exact Kd.R_mono HO_22.out (fun _ hk => hk.2)⟩, ⟨bl_⟩⟩
 clear HC14
 try clear c2
 try clear c2b0
 try clear c2b1
 try clear c10
 try clear c10b0
 try clear c11
 try clear c11b0
 try clear c12
 try clear c12b0
 try clear hx362_0
 try clear p362
 try clear q362
 obtain ⟨kq, x46_13, rfl, HA, HJ13, HO_5, HO_10, HO_22, HB⟩ := hcut
 cases kq with
 | zero => exact absurd HA.out (by simp [impl_ReadScript.j1])
 | succ kj13 => ?_
 have H := HA.out
 clear HA
 simp only [impl_ReadScript.j1] at H
 by_cases c23 : x46_13 = true
 ·subst c23
  rw [if_pos rfl] at H
  have H' := Aside0.mk H
  clear H
  go_wp2
  go_roundg kj13
  case measure => have := HK1.out; have := HJ13.out; omega
  case rel => exact ⟨(x5_1), (x6_1), (x7_1), (wrap64 (x24_1 + 1)), (sr_), (sr_), (sr_), H', ⟨by have := HK1.out; have := HJ13.out; omega⟩, ⟨by (with_reducible repeat (first | apply Kd.S_alloc | apply Kd.S_drewN | apply Kd.S_drew)); exact HO_5.out⟩, ⟨by (with_reducible repeat (first | apply Kd.R_alloc | apply Kd.R_drewN | apply Kd.R_drew)); exact Kd.R_mono HO_22.out (fun _ hk => trivial)⟩, ⟨bl_⟩⟩
 replace c23 := Bool.eq_false_iff.mpr c23
 subst c23
 rw [nf_] at H
 have HC24 := Aside0.mk H
 clear H
 go_upto_region 10 with (fail)
 go_cut [56] (fun v56 wc => ∃ (kq : Nat) (x56_23 : Bool), v56 = .bool x56_23 ∧ Aside0 (impl_ReadScript.j2 kq x5_1 x6_1 x7_1 x24_1 t363 t359 (t359.length : Int) x24_1 x56_23 = some (r1, r2, r3)) ∧ Aside0 (kq ≤ kj13) ∧ Aside0 (Kd.S k69 69 wc w.heap.size (fun _ => True) u5 x5_1) ∧ Aside0 (Kd.R Kd.string 9 wc w.heap.size (fun k_ => some k_ ≠ ((.slice (some ad362) t359.length co9) : Value).ownBlock) v365 t363) ∧ Aside0 (Kd.R Kd.string 9 wc w.heap.size (fun k_ => some k_ ≠ (v365 : Value).ownBlock) (.slice (some ad362) t359.length co9) t359) ∧ Aside0 (Below w.heap.size w wc))
 case first =>
  have H := HC24.out
  clear HC24
  by_cases c25 : t364 = true
  rotate_left
  ·replace c25 := Bool.eq_false_iff.mpr c25
   subst c25
   rw [nf_] at H
   have H' := Aside0.mk H
   clear H
   go_wp2
   go_meet
   case rel => exact ⟨_, (true), (sr_), H', ⟨by have := HK1.out; have := HJ13.out; first | omega | exact Nat.le_refl _⟩, ⟨by (with_reducible repeat (first | apply Kd.S_alloc | apply Kd.S_drewN | apply Kd.S_drew)); exact HO_5.out⟩, ⟨ra_ HO_10.out⟩, ⟨ra_ HO_22.out⟩, ⟨bl_⟩⟩
  subst c25
  rw [if_pos rfl] at H
  by_cases c26 : x7_1 = true
  ·subst c26
   rw [if_pos rfl] at H
   have H' := Aside0.mk H
   clear H
   go_wp2
   go_meet
   case rel => exact ⟨_, (true), (sr_), H', ⟨by have := HK1.out; have := HJ13.out; first | omega | exact Nat.le_refl _⟩, ⟨by (with_reducible repeat (first | apply Kd.S_alloc | apply Kd.S_drewN | apply Kd.S_drew)); exact HO_5.out⟩, ⟨ra_ HO_10.out⟩, ⟨ra_ HO_22.out⟩, ⟨bl_⟩⟩
  replace c26 := Bool.eq_false_iff.mpr c26
  subst c26
  rw [nf_] at H
  have H' := Aside0.mk H
  clear H
  obtain ⟨Ao27, co27, eo27⟩ := Kd.R_slice HO_10.out
  subst eo27
  go_wp2
  go_meet
  case rel => exact ⟨_, (((t363.length : Int) == 0)), (sr_), H', ⟨by have := HK1.out; have := HJ13.out; first | omega | exact Nat.le_refl _⟩, ⟨by (with_reducible repeat (first | apply Kd.S_alloc | apply Kd.S_drewN | apply Kd.S_drew)); exact HO_5.out⟩, ⟨ra_ HO_10.out⟩, ⟨ra_ HO_22.out⟩, ⟨bl_⟩⟩
 clear HC24
 try clear c2
 try clear c2b0
 try clear c2b1
 try clear c10
 try clear c10b0
 try clear c11
 try clear c11b0
 try clear c12
 try clear c12b0
 try clear c23
 try clear hx362_0
 try clear p362
 try clear q362
 obtain ⟨kq, x56_23, rfl, HA, HJ23, HO_5, HO_10, HO_22, HB⟩ := hcut
 cases kq with
 | zero => exact absurd HA.out (by simp [impl_ReadScript.j2])
 | succ kj23 => ?_
 have H := HA.out
 clear HA
 simp only [impl_ReadScript.j2] at H
 by_cases c28 : x56_23 = true
 ·subst c28
  rw [if_pos rfl] at H
  obtain ⟨y368, hy368⟩ : ∃ y_ : List (S69), y_ = (([] : List (S69))) := ⟨_, rfl⟩
  replace H : (some (y368, 0, wrap64 (x24_1 + 1))) = some (r1, r2, r3) := rp_ H hy368
  have Ny368 := Aside0.mk hy368
  clear hy368
  simp only [Option.some.injEq, Prod.mk.injEq] at H
  obtain ⟨rfl, rfl, rfl⟩ := H
  go_wp2_with (first | ((with_reducible refine gate_dst (N := 57) rfl ?_); (try (refine gate_guard (by rfl) ?_; dsimp only)); refine Kd.S_lit k69 _ 69 ?hg (N := 57) ?hd (xs := ([] : List (S69))) (inner := []) (ok := fun _ => True) (okp := fun _ => True) ?hr ?hp (fun _ hk => hk) trivial (Below.refl _ _) (Nat.le_refl _) (by simp) ?_; (case hd => rfl); (case hg => rfl); (case hr => first | (go_simp; done) | (go_simp; rfl)); (case hp => exact (Reps.none _ _)); intro v369 w29 ho30 hb hg_ hnew_; clear hg_ hnew_; (first | rw [← Ny368.out] at ho30 | (simp only [Int.reduceToNat] at ho30; rw [← Ny368.out] at ho30)); replace HO_10 := Aside0.mk (Kd.R_below (ra_ HO_10.out) hb); replace HO_22 := Aside0.mk (Kd.R_below (ra_ HO_22.out) hb); have HO370 := Aside0.mk (Kd.S_lower (Kd.S_new' ho30 (Kd.S_lt (by (with_reducible repeat (first | apply Kd.S_alloc | apply Kd.S_drewN | apply Kd.S_drew)); exact HO_5.out))) (below_size bl_)); replace HO_5 := Aside0.mk (Kd.S_elder' (by (with_reducible repeat (first | apply Kd.S_alloc | apply Kd.S_drewN | apply Kd.S_drew)); exact HO_5.out) (Kd.S_base ho30) hb); replace HB := Aside0.mk (below_step bl_ hb); clear hb ho30))
  go_ret3
  exact ⟨_, er_, by (with_reducible repeat (first | apply Kd.S_alloc | apply Kd.S_drewN | apply Kd.S_drew)); exact Kd.S_mono HO370.out (fun _ hk => trivial), bl_⟩
 replace c28 := Bool.eq_false_iff.mpr c28
 subst c28
 rw [nf_] at H
 by_cases c31 : 0 < (t363.length : Int)
 rotate_left
 ·exact nn_ c31 H
 rw [if_pos c31] at H
 have c31b0 := decide_eq_true c31
 have c31b1 : decide (0 < t363.length) = true := decide_eq_true (by omega)
 clear c31
 by_cases c32 : (rdOf ByteArray.empty t363 0).toList = ([99, 97, 108, 109] : List UInt8)
 rotate_left
 ·rw [if_neg c32] at H
  have c32b0 : ((rdOf ByteArray.empty t363 0).toList == ([99, 97, 108, 109] : List UInt8)) = false := beq_eq_false_iff_ne.mpr c32
  have c32b1 : ((rdOf ByteArray.empty t363 0).toList != ([99, 97, 108, 109] : List UInt8)) = true := bne_iff_ne.mpr c32
  replace H := bs_ H
  obtain ⟨⟨t384, t385, t386, t387, t388, t389, t392, t393⟩, A46, H⟩ := H
  try dsimp only at H
  by_cases c47 : t393 = true
  rotate_left
  ·replace c47 := Bool.eq_false_iff.mpr c47
   subst c47
   rw [nf_] at H
   obtain ⟨y401, hy401⟩ : ∃ y_ : List (S69), y_ = (([] : List (S69))) := ⟨_, rfl⟩
   replace H : (some (y401, 0, wrap64 (x24_1 + 1))) = some (r1, r2, r3) := rp_ H hy401
   have Ny401 := Aside0.mk hy401
   clear hy401
   simp only [Option.some.injEq, Prod.mk.injEq] at H
   obtain ⟨rfl, rfl, rfl⟩ := H
   obtain ⟨Ao67, co67, eo67⟩ := Kd.R_slice HO_10.out
   subst eo67
   have p371 : 0 ≤ (0 : Int) := (by omega)
   have q371 : 0 < (t363.length : Int) := of_decide_eq_true as_
   obtain ⟨ad371, e371, hx371_0⟩ := Kd.at_string (Kd.R_reads' HO_10.out).2.2 0 p371 q371
   cases e371
   have qi371 : (0 < t363.length) = True := eq_true (by omega)
   (try rw [show ((0 : Int)).toNat = 0 from rfl] at hx371_0)
   (try rw [Addr.add_zero'] at hx371_0)
   replace p371 := eq_true p371
   replace q371 := eq_true q371
   go_wp2_with (first | ((with_reducible refine gate_callee (f := 47) rfl ?_); refine gs_ (some 85) Try.func47 #[.slice (some ad371) t363.length co67] ?_; (with_reducible refine (impl_eventOf.calls kj23 _ _ t363 t384 t385 t386 t387 t388 t389 t392 false _ ?side1 ?side2 A46.out).mono ?_); (case side1 => exact cs_ ((Kd.R_reads' HO_10.out).2.2)); (case side2 => exact (Kd.R_reads' HO_10.out).2.1); rintro e w68 ⟨v390, rfl, ho0, hb⟩; refine ⟨_, rfl, ?_⟩; replace HO_5 := Aside0.mk (Kd.S_elder' (by (with_reducible repeat (first | apply Kd.S_alloc | apply Kd.S_drewN | apply Kd.S_drew)); exact HO_5.out) (Kd.R_base ho0) hb); replace HO_10 := Aside0.mk (Kd.R_below (ra_ HO_10.out) hb); replace HO_22 := Aside0.mk (Kd.R_below (ra_ HO_22.out) hb); have HO391 := Aside0.mk (Kd.R_lower ho0 (below_size bl_)); replace HB := Aside0.mk (below_step bl_ hb); (try clear hb); (try clear ho0)) | ((with_reducible refine gate_dst (N := 14) rfl ?_); (try (refine gate_guard (by rfl) ?_; dsimp only)); refine bx_ 14 69 #[.int .i64 0, .int .i64 0, .int .i64 0, .int .i64 0, .int .i64 0, .slice none 0 0, .string (⟨#[]⟩ : ByteArray)] ?_; intro gb394 hg w69 hbox hb; replace HO_5 := Aside0.mk (Kd.S_below (Kd.S_elderB (by (with_reducible repeat (first | apply Kd.S_alloc | apply Kd.S_drewN | apply Kd.S_drew)); exact HO_5.out) gb394 (Nat.le_of_eq hg.symm)) hb); replace HO_10 := Aside0.mk (Kd.R_below (ra_ HO_10.out) hb); replace HO_22 := Aside0.mk (Kd.R_below (ra_ HO_22.out) hb); replace HO391 := Aside0.mk (Kd.R_below (ra_ HO391.out) hb); have BK394 := Aside0.mk (hbox); have GW394 := Aside0.mk ((hz_ : w.heap.size ≤ gb394)); have GE394 := Aside0.mk ((hz_ : w.heap.size ≤ gb394)); replace HB := Aside0.mk (below_step bl_ hb); clear hb hbox hg; obtain ⟨hcz70_0, hcz70_1, hcz70_2, hcz70_3, hcz70_4, hcz70_5, hcz70_6, hfz70_0, hfz70_1, hfz70_2, hfz70_3, hfz70_4, hfz70_5, hfz70_6⟩ := cf7_ BK394.out; obtain ⟨Ao71, co71, eo71⟩ := Kd.R_slice HO391.out; subst eo71) | ((with_reducible refine gate_dst (N := 95) rfl ?_); (try (refine gate_guard (by rfl) ?_; dsimp only)); refine Kd.S_lit k69 _ 69 ?hg (N := 95) ?hd (xs := ([] : List (S69))) (inner := []) (ok := fun _ => True) (okp := fun _ => True) ?hr ?hp (fun _ hk => hk) trivial (Below.refl _ _) (Nat.le_refl _) (by simp) ?_; (case hd => rfl); (case hg => rfl); (case hr => first | (go_simp; done) | (go_simp; rfl)); (case hp => exact (Reps.none _ _)); intro v402 w72 ho73 hb hg_ hnew_; clear hg_ hnew_; (first | rw [← Ny401.out] at ho73 | (simp only [Int.reduceToNat] at ho73; rw [← Ny401.out] at ho73)); replace HO_10 := Aside0.mk (Kd.R_below (rfa_ HO_10.out BK394.out) hb); replace HO_22 := Aside0.mk (Kd.R_below (rfa_ HO_22.out BK394.out) hb); have HO403 := Aside0.mk (Kd.S_lower (Kd.S_newB (Kd.S_new' (Kd.S_new' ho73 (Kd.S_lt (by (with_reducible repeat (first | apply Kd.S_alloc | apply Kd.S_drewN | apply Kd.S_drew)); exact (Kd.S_mono (Kd.S_far (p := ⟨gb394, 6, none⟩) (Kd.S_far (p := ⟨gb394, 5, none⟩) (Kd.S_far (p := ⟨gb394, 4, none⟩) (Kd.S_far (p := ⟨gb394, 3, none⟩) (Kd.S_far (p := ⟨gb394, 2, none⟩) (Kd.S_far (p := ⟨gb394, 1, none⟩) (Kd.S_far (p := ⟨gb394, 0, none⟩) (Kd.S_mono HO_5.out (fun k_ hk => (⟨hk, hk.2⟩ : _ ∧ k_ ≠ gb394))) (fun _ hk => hk.2) (.int .i64 t384)) (fun _ hk => hk.2) (.int .i64 t385)) (fun _ hk => hk.2) (.int .i64 t386)) (fun _ hk => hk.2) (.int .i64 t387)) (fun _ hk => hk.2) (.int .i64 t388)) (fun _ hk => hk.2) (.slice Ao71 t389.length co71)) (fun _ hk => hk.2) (.string t392)) (fun _ h_ => h_.1))))) (Kd.R_lt (rfa_ HO391.out BK394.out))) (g := gb394) (o := .cells #[.int .i64 t384, .int .i64 t385, .int .i64 t386, .int .i64 t387, .int .i64 t388, .slice Ao71 t389.length co71, .string t392] 69 (0, 0)) (bp0_ BK394.out)) (below_size bl_)); replace HO_5 := Aside0.mk (Kd.S_elder' (by (with_reducible repeat (first | apply Kd.S_alloc | apply Kd.S_drewN | apply Kd.S_drew)); exact (Kd.S_mono (Kd.S_far (p := ⟨gb394, 6, none⟩) (Kd.S_far (p := ⟨gb394, 5, none⟩) (Kd.S_far (p := ⟨gb394, 4, none⟩) (Kd.S_far (p := ⟨gb394, 3, none⟩) (Kd.S_far (p := ⟨gb394, 2, none⟩) (Kd.S_far (p := ⟨gb394, 1, none⟩) (Kd.S_far (p := ⟨gb394, 0, none⟩) (Kd.S_mono HO_5.out (fun k_ hk => (⟨hk, hk.2⟩ : _ ∧ k_ ≠ gb394))) (fun _ hk => hk.2) (.int .i64 t384)) (fun _ hk => hk.2) (.int .i64 t385)) (fun _ hk => hk.2) (.int .i64 t386)) (fun _ hk => hk.2) (.int .i64 t387)) (fun _ hk => hk.2) (.int .i64 t388)) (fun _ hk => hk.2) (.slice Ao71 t389.length co71)) (fun _ hk => hk.2) (.string t392)) (fun _ h_ => h_.1))) (Kd.S_base ho73) hb); replace HO391 := Aside0.mk (Kd.R_below (rfa_ HO391.out BK394.out) hb); replace BK394 := Aside0.mk (blk_below (g := gb394) (o := .cells #[.int .i64 t384, .int .i64 t385, .int .i64 t386, .int .i64 t387, .int .i64 t388, .slice Ao71 t389.length co71, .string t392] 69 (0, 0)) (bp0_ BK394.out) hb); replace HB := Aside0.mk (below_step bl_ hb); clear hb ho73))
   go_ret3
   exact ⟨_, er_, by (with_reducible repeat (first | apply Kd.S_alloc | apply Kd.S_drewN | apply Kd.S_drew)); exact Kd.S_mono HO403.out (fun _ hk => trivial), bl_⟩
  subst c47
  rw [if_pos rfl] at H
  by_cases c48 : (x5_1.length : Int) = 90
  ·rw [if_pos c48] at H
   have c48b0 : ((x5_1.length : Int) == 90) = true := beq_iff_eq.mpr c48
   have c48b1 : ((x5_1.length : Int) != 90) = false := bne_eq_false_iff_eq.mpr c48
   clear c48
   obtain ⟨y395, hy395⟩ : ∃ y_ : List (S69), y_ = (([] : List (S69))) := ⟨_, rfl⟩
   replace H : (some (y395, 0, wrap64 (x24_1 + 1))) = some (r1, r2, r3) := rp_ H hy395
   have Ny395 := Aside0.mk hy395
   clear hy395
   simp only [Option.some.injEq, Prod.mk.injEq] at H
   obtain ⟨rfl, rfl, rfl⟩ := H
   obtain ⟨Ao49, co49, eo49⟩ := Kd.R_slice HO_10.out
   subst eo49
   have p371 : 0 ≤ (0 : Int) := (by omega)
   have q371 : 0 < (t363.length : Int) := of_decide_eq_true as_
   obtain ⟨ad371, e371, hx371_0⟩ := Kd.at_string (Kd.R_reads' HO_10.out).2.2 0 p371 q371
   cases e371
   have qi371 : (0 < t363.length) = True := eq_true (by omega)
   (try rw [show ((0 : Int)).toNat = 0 from rfl] at hx371_0)
   (try rw [Addr.add_zero'] at hx371_0)
   replace p371 := eq_true p371
   replace q371 := eq_true q371
   go_wp2_with (first | ((with_reducible refine gate_callee (f := 47) rfl ?_); refine gs_ (some 85) Try.func47 #[.slice (some ad371) t363.length co49] ?_; (with_reducible refine (impl_eventOf.calls kj23 _ _ t363 t384 t385 t386 t387 t388 t389 t392 true _ ?side1 ?side2 A46.out).mono ?_); (case side1 => exact cs_ ((Kd.R_reads' HO_10.out).2.2)); (case side2 => exact (Kd.R_reads' HO_10.out).2.1); rintro e w50 ⟨v390, rfl, ho0, hb⟩; refine ⟨_, rfl, ?_⟩; replace HO_5 := Aside0.mk (Kd.S_elder' (by (with_reducible repeat (first | apply Kd.S_alloc | apply Kd.S_drewN | apply Kd.S_drew)); exact HO_5.out) (Kd.R_base ho0) hb); replace HO_10 := Aside0.mk (Kd.R_below (ra_ HO_10.out) hb); replace HO_22 := Aside0.mk (Kd.R_below (ra_ HO_22.out) hb); have HO391 := Aside0.mk (Kd.R_lower ho0 (below_size bl_)); replace HB := Aside0.mk (below_step bl_ hb); (try clear hb); (try clear ho0)) | ((with_reducible refine gate_dst (N := 14) rfl ?_); (try (refine gate_guard (by rfl) ?_; dsimp only)); refine bx_ 14 69 #[.int .i64 0, .int .i64 0, .int .i64 0, .int .i64 0, .int .i64 0, .slice none 0 0, .string (⟨#[]⟩ : ByteArray)] ?_; intro gb394 hg w51 hbox hb; replace HO_5 := Aside0.mk (Kd.S_below (Kd.S_elderB (by (with_reducible repeat (first | apply Kd.S_alloc | apply Kd.S_drewN | apply Kd.S_drew)); exact HO_5.out) gb394 (Nat.le_of_eq hg.symm)) hb); replace HO_10 := Aside0.mk (Kd.R_below (ra_ HO_10.out) hb); replace HO_22 := Aside0.mk (Kd.R_below (ra_ HO_22.out) hb); replace HO391 := Aside0.mk (Kd.R_below (ra_ HO391.out) hb); have BK394 := Aside0.mk (hbox); have GW394 := Aside0.mk ((hz_ : w.heap.size ≤ gb394)); have GE394 := Aside0.mk ((hz_ : w.heap.size ≤ gb394)); replace HB := Aside0.mk (below_step bl_ hb); clear hb hbox hg; obtain ⟨hcz52_0, hcz52_1, hcz52_2, hcz52_3, hcz52_4, hcz52_5, hcz52_6, hfz52_0, hfz52_1, hfz52_2, hfz52_3, hfz52_4, hfz52_5, hfz52_6⟩ := cf7_ BK394.out; obtain ⟨Ao53, co53, eo53⟩ := Kd.R_slice HO391.out; subst eo53; obtain ⟨Ao54, co54, eo54⟩ := Kd.S_slice HO_5.out; subst eo54) | ((with_reducible refine gate_dst (N := 95) rfl ?_); (try (refine gate_guard (by rfl) ?_; dsimp only)); refine Kd.S_lit k69 _ 69 ?hg (N := 95) ?hd (xs := ([] : List (S69))) (inner := []) (ok := fun _ => True) (okp := fun _ => True) ?hr ?hp (fun _ hk => hk) trivial (Below.refl _ _) (Nat.le_refl _) (by simp) ?_; (case hd => rfl); (case hg => rfl); (case hr => first | (go_simp; done) | (go_simp; rfl)); (case hp => exact (Reps.none _ _)); intro v396 w55 ho56 hb hg_ hnew_; clear hg_ hnew_; (first | rw [← Ny395.out] at ho56 | (simp only [Int.reduceToNat] at ho56; rw [← Ny395.out] at ho56)); replace HO_10 := Aside0.mk (Kd.R_below (rfa_ HO_10.out BK394.out) hb); replace HO_22 := Aside0.mk (Kd.R_below (rfa_ HO_22.out BK394.out) hb); have HO397 := Aside0.mk (Kd.S_lower (Kd.S_newB (Kd.S_new' (Kd.S_new' ho56 (Kd.S_lt (by (with_reducible repeat (first | apply Kd.S_alloc | apply Kd.S_drewN | apply Kd.S_drew)); exact (Kd.S_mono (Kd.S_far (p := ⟨gb394, 6, none⟩) (Kd.S_far (p := ⟨gb394, 5, none⟩) (Kd.S_far (p := ⟨gb394, 4, none⟩) (Kd.S_far (p := ⟨gb394, 3, none⟩) (Kd.S_far (p := ⟨gb394, 2, none⟩) (Kd.S_far (p := ⟨gb394, 1, none⟩) (Kd.S_far (p := ⟨gb394, 0, none⟩) (Kd.S_mono HO_5.out (fun k_ hk => (⟨hk, hk.2⟩ : _ ∧ k_ ≠ gb394))) (fun _ hk => hk.2) (.int .i64 t384)) (fun _ hk => hk.2) (.int .i64 t385)) (fun _ hk => hk.2) (.int .i64 t386)) (fun _ hk => hk.2) (.int .i64 t387)) (fun _ hk => hk.2) (.int .i64 t388)) (fun _ hk => hk.2) (.slice Ao53 t389.length co53)) (fun _ hk => hk.2) (.string t392)) (fun _ h_ => h_.1))))) (Kd.R_lt (rfa_ HO391.out BK394.out))) (g := gb394) (o := .cells #[.int .i64 t384, .int .i64 t385, .int .i64 t386, .int .i64 t387, .int .i64 t388, .slice Ao53 t389.length co53, .string t392] 69 (0, 0)) (bp0_ BK394.out)) (below_size bl_)); replace HO_5 := Aside0.mk (Kd.S_elder' (by (with_reducible repeat (first | apply Kd.S_alloc | apply Kd.S_drewN | apply Kd.S_drew)); exact (Kd.S_mono (Kd.S_far (p := ⟨gb394, 6, none⟩) (Kd.S_far (p := ⟨gb394, 5, none⟩) (Kd.S_far (p := ⟨gb394, 4, none⟩) (Kd.S_far (p := ⟨gb394, 3, none⟩) (Kd.S_far (p := ⟨gb394, 2, none⟩) (Kd.S_far (p := ⟨gb394, 1, none⟩) (Kd.S_far (p := ⟨gb394, 0, none⟩) (Kd.S_mono HO_5.out (fun k_ hk => (⟨hk, hk.2⟩ : _ ∧ k_ ≠ gb394))) (fun _ hk => hk.2) (.int .i64 t384)) (fun _ hk => hk.2) (.int .i64 t385)) (fun _ hk => hk.2) (.int .i64 t386)) (fun _ hk => hk.2) (.int .i64 t387)) (fun _ hk => hk.2) (.int .i64 t388)) (fun _ hk => hk.2) (.slice Ao53 t389.length co53)) (fun _ hk => hk.2) (.string t392)) (fun _ h_ => h_.1))) (Kd.S_base ho56) hb); replace HO391 := Aside0.mk (Kd.R_below (rfa_ HO391.out BK394.out) hb); replace BK394 := Aside0.mk (blk_below (g := gb394) (o := .cells #[.int .i64 t384, .int .i64 t385, .int .i64 t386, .int .i64 t387, .int .i64 t388, .slice Ao53 t389.length co53, .string t392] 69 (0, 0)) (bp0_ BK394.out) hb); replace HB := Aside0.mk (below_step bl_ hb); clear hb ho56))
   go_ret3
   exact ⟨_, er_, by (with_reducible repeat (first | apply Kd.S_alloc | apply Kd.S_drewN | apply Kd.S_drew)); exact Kd.S_mono HO397.out (fun _ hk => trivial), bl_⟩
  rw [if_neg c48] at H
  have c48b0 : ((x5_1.length : Int) == 90) = false := beq_eq_false_iff_ne.mpr c48
  have c48b1 : ((x5_1.length : Int) != 90) = true := bne_iff_ne.mpr c48
  by_cases c57 : x5_1.length < 1759218604441
  rotate_left
  ·exact nn_ c57 H
  rw [if_pos c57] at H
  have LMc57 := Aside0.mk c57
  clear c57
  obtain ⟨y398, hy398⟩ : ∃ y_ : List (S69), y_ = (x5_1 ++ [(⟨t384, t385, t386, (⟨t387, t388, t389⟩ : S47), t392⟩ : S69)]) := ⟨_, rfl⟩
  replace H : (impl_ReadScript.l0 kj23 y398 x6_1 x7_1 t359 (t359.length : Int) (wrap64 (x24_1 + 1))) = some (r1, r2, r3) := rp_ H hy398
  have Ny398 := Aside0.mk hy398
  clear hy398
  have H' := Aside0.mk H
  clear H
  obtain ⟨Ao58, co58, eo58⟩ := Kd.R_slice HO_10.out
  subst eo58
  have p371 : 0 ≤ (0 : Int) := (by omega)
  have q371 : 0 < (t363.length : Int) := of_decide_eq_true as_
  obtain ⟨ad371, e371, hx371_0⟩ := Kd.at_string (Kd.R_reads' HO_10.out).2.2 0 p371 q371
  cases e371
  have qi371 : (0 < t363.length) = True := eq_true (by omega)
  (try rw [show ((0 : Int)).toNat = 0 from rfl] at hx371_0)
  (try rw [Addr.add_zero'] at hx371_0)
  replace p371 := eq_true p371
  replace q371 := eq_true q371
  go_wp2_with (first | ((with_reducible refine gate_callee (f := 47) rfl ?_); refine gs_ (some 85) Try.func47 #[.slice (some ad371) t363.length co58] ?_; (with_reducible refine (impl_eventOf.calls kj23 _ _ t363 t384 t385 t386 t387 t388 t389 t392 true _ ?side1 ?side2 A46.out).mono ?_); (case side1 => exact cs_ ((Kd.R_reads' HO_10.out).2.2)); (case side2 => exact (Kd.R_reads' HO_10.out).2.1); rintro e w59 ⟨v390, rfl, ho0, hb⟩; refine ⟨_, rfl, ?_⟩; replace HO_5 := Aside0.mk (Kd.S_elder' (by (with_reducible repeat (first | apply Kd.S_alloc | apply Kd.S_drewN | apply Kd.S_drew)); exact HO_5.out) (Kd.R_base ho0) hb); replace HO_10 := Aside0.mk (Kd.R_below (ra_ HO_10.out) hb); replace HO_22 := Aside0.mk (Kd.R_below (ra_ HO_22.out) hb); have HO391 := Aside0.mk (Kd.R_lower ho0 (below_size bl_)); replace HB := Aside0.mk (below_step bl_ hb); (try clear hb); (try clear ho0)) | ((with_reducible refine gate_dst (N := 14) rfl ?_); (try (refine gate_guard (by rfl) ?_; dsimp only)); refine bx_ 14 69 #[.int .i64 0, .int .i64 0, .int .i64 0, .int .i64 0, .int .i64 0, .slice none 0 0, .string (⟨#[]⟩ : ByteArray)] ?_; intro gb394 hg w60 hbox hb; replace HO_5 := Aside0.mk (Kd.S_below (Kd.S_elderB (by (with_reducible repeat (first | apply Kd.S_alloc | apply Kd.S_drewN | apply Kd.S_drew)); exact HO_5.out) gb394 (Nat.le_of_eq hg.symm)) hb); replace HO_10 := Aside0.mk (Kd.R_below (ra_ HO_10.out) hb); replace HO_22 := Aside0.mk (Kd.R_below (ra_ HO_22.out) hb); replace HO391 := Aside0.mk (Kd.R_below (ra_ HO391.out) hb); have BK394 := Aside0.mk (hbox); have GW394 := Aside0.mk ((hz_ : w.heap.size ≤ gb394)); have GE394 := Aside0.mk ((hz_ : w.heap.size ≤ gb394)); replace HB := Aside0.mk (below_step bl_ hb); clear hb hbox hg; obtain ⟨hcz61_0, hcz61_1, hcz61_2, hcz61_3, hcz61_4, hcz61_5, hcz61_6, hfz61_0, hfz61_1, hfz61_2, hfz61_3, hfz61_4, hfz61_5, hfz61_6⟩ := cf7_ BK394.out; obtain ⟨Ao62, co62, eo62⟩ := Kd.R_slice HO391.out; subst eo62) | ((with_reducible refine gate_store (t := 69) (p := 14) rfl ?_); refine store_event (t := 69) (p := 14) (v := ?vo_w63) (w1 := (((((((w60.setCell ⟨gb394, 0, none⟩ (.int .i64 t384)).setCell ⟨gb394, 1, none⟩ (.int .i64 t385)).setCell ⟨gb394, 2, none⟩ (.int .i64 t386)).setCell ⟨gb394, 3, none⟩ (.int .i64 t387)).setCell ⟨gb394, 4, none⟩ (.int .i64 t388)).setCell ⟨gb394, 5, none⟩ (.slice Ao62 t389.length co62)).setCell ⟨gb394, 6, none⟩ (.string t392))) ?hg ?ho ?hn ?hr ?_; (case ho => rfl); (case hg => rfl); (case hn => rfl); (case hr => first | (go_simp; done) | (go_simp; rfl)); intro w63 hw; have n0_ : Aside0 (Kd.S k69 69 w63 w.heap.size (fun k_ => some k_ ≠ (.slice Ao62 t389.length co62 : Value).ownBlock ∧ k_ ≠ gb394) u5 x5_1) := ⟨(by rw [hw]; exact (by (with_reducible repeat (first | apply Kd.S_alloc | apply Kd.S_drewN | apply Kd.S_drew)); exact Kd.S_mono (Kd.S_far (p := ⟨gb394, 6, none⟩) (Kd.S_far (p := ⟨gb394, 5, none⟩) (Kd.S_far (p := ⟨gb394, 4, none⟩) (Kd.S_far (p := ⟨gb394, 3, none⟩) (Kd.S_far (p := ⟨gb394, 2, none⟩) (Kd.S_far (p := ⟨gb394, 1, none⟩) (Kd.S_far (p := ⟨gb394, 0, none⟩) (Kd.S_mono HO_5.out (fun k_ hk => (⟨hk, hk.2⟩ : _ ∧ k_ ≠ gb394))) (fun _ hk => hk.2) (.int .i64 t384)) (fun _ hk => hk.2) (.int .i64 t385)) (fun _ hk => hk.2) (.int .i64 t386)) (fun _ hk => hk.2) (.int .i64 t387)) (fun _ hk => hk.2) (.int .i64 t388)) (fun _ hk => hk.2) (.slice Ao62 t389.length co62)) (fun _ hk => hk.2) (.string t392)) (fun _ hk => ⟨hk.1.1.2, hk.1.2⟩)))⟩; have n1_ : Aside0 (Kd.R Kd.string 9 w63 w.heap.size (fun k_ => some k_ ≠ (.slice (some ad362) t359.length co9 : Value).ownBlock) (.slice (some ad371) t363.length co58) t363) := ⟨(by rw [hw]; exact (by (with_reducible repeat (first | apply Kd.R_alloc | apply Kd.R_drewN | apply Kd.R_drew)); exact Kd.R_mono (Kd.R_far (p := ⟨gb394, 6, none⟩) (Kd.R_far (p := ⟨gb394, 5, none⟩) (Kd.R_far (p := ⟨gb394, 4, none⟩) (Kd.R_far (p := ⟨gb394, 3, none⟩) (Kd.R_far (p := ⟨gb394, 2, none⟩) (Kd.R_far (p := ⟨gb394, 1, none⟩) (Kd.R_far (p := ⟨gb394, 0, none⟩) (Kd.R_types HO_10.out BK394.out (by decide)) (fun _ hk => hk.2) (.int .i64 t384)) (fun _ hk => hk.2) (.int .i64 t385)) (fun _ hk => hk.2) (.int .i64 t386)) (fun _ hk => hk.2) (.int .i64 t387)) (fun _ hk => hk.2) (.int .i64 t388)) (fun _ hk => hk.2) (.slice Ao62 t389.length co62)) (fun _ hk => hk.2) (.string t392)) (fun _ hk => hk.1)))⟩; have n2_ : Aside0 (Kd.R Kd.string 9 w63 w.heap.size (fun k_ => some k_ ≠ (.slice (some ad371) t363.length co58 : Value).ownBlock) (.slice (some ad362) t359.length co9) t359) := ⟨(by rw [hw]; exact (by (with_reducible repeat (first | apply Kd.R_alloc | apply Kd.R_drewN | apply Kd.R_drew)); exact Kd.R_mono (Kd.R_far (p := ⟨gb394, 6, none⟩) (Kd.R_far (p := ⟨gb394, 5, none⟩) (Kd.R_far (p := ⟨gb394, 4, none⟩) (Kd.R_far (p := ⟨gb394, 3, none⟩) (Kd.R_far (p := ⟨gb394, 2, none⟩) (Kd.R_far (p := ⟨gb394, 1, none⟩) (Kd.R_far (p := ⟨gb394, 0, none⟩) (Kd.R_types HO_22.out BK394.out (by decide)) (fun _ hk => hk.2) (.int .i64 t384)) (fun _ hk => hk.2) (.int .i64 t385)) (fun _ hk => hk.2) (.int .i64 t386)) (fun _ hk => hk.2) (.int .i64 t387)) (fun _ hk => hk.2) (.int .i64 t388)) (fun _ hk => hk.2) (.slice Ao62 t389.length co62)) (fun _ hk => hk.2) (.string t392)) (fun _ hk => hk.1)))⟩; have n3_ : Aside0 (Kd.R k98 98 w63 w.heap.size (fun _ => True) (.slice Ao62 t389.length co62) t389) := ⟨(by rw [hw]; exact (by (with_reducible repeat (first | apply Kd.R_alloc | apply Kd.R_drewN | apply Kd.R_drew)); exact Kd.R_mono (Kd.R_far (p := ⟨gb394, 6, none⟩) (Kd.R_far (p := ⟨gb394, 5, none⟩) (Kd.R_far (p := ⟨gb394, 4, none⟩) (Kd.R_far (p := ⟨gb394, 3, none⟩) (Kd.R_far (p := ⟨gb394, 2, none⟩) (Kd.R_far (p := ⟨gb394, 1, none⟩) (Kd.R_far (p := ⟨gb394, 0, none⟩) (Kd.R_types HO391.out BK394.out (by decide)) (fun _ hk => hk.2) (.int .i64 t384)) (fun _ hk => hk.2) (.int .i64 t385)) (fun _ hk => hk.2) (.int .i64 t386)) (fun _ hk => hk.2) (.int .i64 t387)) (fun _ hk => hk.2) (.int .i64 t388)) (fun _ hk => hk.2) (.slice Ao62 t389.length co62)) (fun _ hk => hk.2) (.string t392)) (fun _ hk => trivial)))⟩; have n4_ : Aside0 (w63.heap[gb394]? = some (.cells #[.int .i64 t384, .int .i64 t385, .int .i64 t386, .int .i64 t387, .int .i64 t388, .slice Ao62 t389.length co62, .string t392] 69 (0, 0))) := ⟨(by rw [hw]; exact (bp0_ BK394.out))⟩; have n5_ : Aside0 (Below w.heap.size w w63) := ⟨(by rw [hw]; exact bl_)⟩; clear hw; clear HO_5; clear HO_10; clear HO_22; clear HO391; clear BK394; clear HB; have HO_5 := n0_; have HO_10 := n1_; have HO_22 := n2_; have HO391 := n3_; have BK394 := n4_; have HB := n5_; clear n0_ n1_ n2_ n3_ n4_ n5_; obtain ⟨Ao64, co64, eo64⟩ := Kd.S_slice HO_5.out; subst eo64; obtain ⟨hcz65_0, hcz65_1, hcz65_2, hcz65_3, hcz65_4, hcz65_5, hcz65_6, hfz65_0, hfz65_1, hfz65_2, hfz65_3, hfz65_4, hfz65_5, hfz65_6⟩ := cf7_ BK394.out) | ((with_reducible refine gate_builtin (b := .append) (xs := #[.tmp 98, .tmp 100]) rfl ?_); (try (refine gate_guard (by rfl) ?_; dsimp only)); at_builtin; refine Kd.S_append k69 (w0 := w) w.heap.size rfl (.tmp 98) (.tmp 100) 22 69 (.agg #[(.int .i64 0), (.int .i64 0), (.int .i64 0), (.int .i64 0), (.int .i64 0), (.slice none 0 0), (.string ⟨#[]⟩)]) 80 rfl Try.underlying22 info69 rfl (by decide) (by omega) (.slice Ao64 x5_1.length co64) x5_1 (⟨t384, t385, t386, (⟨t387, t388, t389⟩ : S47), t392⟩ : S69) [.int .i64 t384, .int .i64 t385, .int .i64 t386, .int .i64 t387, .int .i64 t388, .slice Ao62 t389.length co62, .string t392] (fun k_ => k_ ≠ gb394) (fun k_ => some k_ = (.slice Ao62 t389.length co62 : Value).ownBlock) rfl rfl ?aP (fun k_ hk_ => ((Kd.R_mono (ok' := fun k_ => ((fun k_ => k_ ≠ gb394)) k_ ∧ some k_ ≠ (.slice Ao64 x5_1.length co64 : Value).ownBlock) (Kd.R_types (Kd.R_apart' (HO391.out) (Kd.S_typed HO_5.out) (by decide)) BK394.out (by decide)) (fun k_ hk => ⟨hk.2, hk.1.2⟩))).1 k_ hk_.symm) ?aF ?aO ?aB ?aS ?aL ?_; (case aP => exact k69_mkM _ _ _ (⟨t384, t385, t386, (⟨t387, t388, t389⟩ : S47), t392⟩ : S69) (Kd.R_mono (Kd.R_tight rfl (Kd.R_mono (ok' := fun k_ => ((fun k_ => k_ ≠ gb394)) k_ ∧ some k_ ≠ (.slice Ao64 x5_1.length co64 : Value).ownBlock) (Kd.R_types (Kd.R_apart' (HO391.out) (Kd.S_typed HO_5.out) (by decide)) BK394.out (by decide)) (fun k_ hk => ⟨hk.2, hk.1.2⟩))) (fun _ h_ => h_))); (case aB => exact bl_); (case aF => exact (fun k_ hk => Kd.freshB (g := gb394) (o := .cells #[.int .i64 t384, .int .i64 t385, .int .i64 t386, .int .i64 t387, .int .i64 t388, .slice Ao62 t389.length co62, .string t392] 69 (0, 0)) (bk_ BK394.out) k_ hk)); (case aO => exact (by (with_reducible repeat (first | apply Kd.S_alloc | apply Kd.S_drewN | apply Kd.S_drew)); exact Kd.S_mono HO_5.out (fun k_ hk => ⟨hk.2, fun e_ => hk.1 e_⟩))); (case aS => exact (below_size bl_)); (case aL => have := LMc57.out; omega); intro v399 w66 ho hb hg hat; rw [← Ny398.out] at ho; replace HO_10 := Aside0.mk (Kd.R_over' (ra_ HO_10.out) (Kd.S_typed (by (with_reducible repeat (first | apply Kd.S_alloc | apply Kd.S_drewN | apply Kd.S_drew)); exact HO_5.out)) (by decide) hg); replace HO_22 := Aside0.mk (Kd.R_over' (ra_ HO_22.out) (Kd.S_typed (by (with_reducible repeat (first | apply Kd.S_alloc | apply Kd.S_drewN | apply Kd.S_drew)); exact HO_5.out)) (by decide) hg); replace BK394 := Aside0.mk (blk_grown (g := gb394) (o := .cells #[.int .i64 t384, .int .i64 t385, .int .i64 t386, .int .i64 t387, .int .i64 t388, .slice Ao62 t389.length co62, .string t392] 69 (0, 0)) (bk_ BK394.out) hg (Kd.S_away HO_5.out (fun _ hk => hk.2))); replace HB := Aside0.mk (hb); have HO400 := Aside0.mk (ho); clear HO_5 HO391; clear ho hb hg hat))
  go_roundg kj23
  case measure => have := HK1.out; have := HJ13.out; have := HJ23.out; omega
  case rel => exact ⟨(y398), (x6_1), (x7_1), (wrap64 (x24_1 + 1)), (sr_), (sr_), (sr_), H', ⟨by have := HK1.out; have := HJ13.out; have := HJ23.out; omega⟩, ⟨by (with_reducible repeat (first | apply Kd.S_alloc | apply Kd.S_drewN | apply Kd.S_drew)); exact Kd.S_mono HO400.out (fun _ hk => trivial)⟩, ⟨by (with_reducible repeat (first | apply Kd.R_alloc | apply Kd.R_drewN | apply Kd.R_drew)); exact Kd.R_mono HO_22.out (fun _ hk => trivial)⟩, ⟨bl_⟩⟩
 rw [if_pos c32] at H
 have c32b0 : ((rdOf ByteArray.empty t363 0).toList == ([99, 97, 108, 109] : List UInt8)) = true := beq_iff_eq.mpr c32
 have c32b1 : ((rdOf ByteArray.empty t363 0).toList != ([99, 97, 108, 109] : List UInt8)) = false := bne_eq_false_iff_eq.mpr c32
 clear c32
 by_cases c33 : 1 ≤ (t363.length : Int)
 rotate_left
 ·exact nn_ c33 H
 rw [if_pos c33] at H
 have c33b0 := eq_true c33
 have c33b1 : decide (1 ≤ (t363.length : Int)) = true := decide_eq_true c33
 clear c33
 obtain ⟨y372, hy372⟩ : ∃ y_ : List ByteArray, y_ = (t363.drop 1) := ⟨_, rfl⟩
 replace H : ((impl_numbersOf.f kj23 y372).bind fun bt376 => (if bt376.2 = true then (impl_ReadScript.j3 kj23 x5_1 x24_1 bt376.1 t359 (t359.length : Int) x24_1 ((bt376.1.length : Int) != 1)) else (impl_ReadScript.j3 kj23 x5_1 x24_1 bt376.1 t359 (t359.length : Int) x24_1 true))) = some (r1, r2, r3) := rp_ H hy372
 have Ny372 := Aside0.mk hy372
 clear hy372
 replace H := bs_ H
 obtain ⟨⟨t376, t377⟩, A34, H⟩ := H
 try dsimp only at H
 have HC35 := Aside0.mk H
 clear H
 obtain ⟨Ao36, co36, eo36⟩ := Kd.R_slice HO_10.out
 subst eo36
 have p371 : 0 ≤ (0 : Int) := (by omega)
 have q371 : 0 < (t363.length : Int) := of_decide_eq_true as_
 obtain ⟨ad371, e371, hx371_0⟩ := Kd.at_string (Kd.R_reads' HO_10.out).2.2 0 p371 q371
 cases e371
 have qi371 : (0 < t363.length) = True := eq_true (by omega)
 (try rw [show ((0 : Int)).toNat = 0 from rfl] at hx371_0)
 (try rw [Addr.add_zero'] at hx371_0)
 replace p371 := eq_true p371
 replace q371 := eq_true q371
 have q37 : (1 : Int) ≤ ((t363.length : Int) : Int) := of_decide_eq_true as_
 obtain ⟨i037, hi037, _, hsz37, _⟩ := info_parts info9
 have hroom37 : t363.length ≤ co36 := (Kd.R_reads' HO_10.out).2.1
 have hC37 : Kd.C Kd.string _ (some ad371) t363.length t363 := (Kd.R_reads' HO_10.out).2.2
 have hcut37 := cut_from (P := Try.prog) 62 9 .i64 Try.underlying62 hi037 1 hsz37 (some ad371) t363.length co36 1 (by omega) q37
 have hr37 := Kd.C_drop (m := (1 : Int).toNat) (c := co36) hC37 (by omega) hroom37
 obtain ⟨A37, hA37⟩ : ∃ A1, A1 = (if co36 = (1 : Int).toNat then (some ad371) else ((some ad371) : Option Addr).map (·.add ((1 : Int).toNat * 1))) := ⟨_, rfl⟩
 obtain ⟨c37, hc37⟩ : ∃ c1, c1 = co36 - (1 : Int).toNat := ⟨_, rfl⟩
 have hy37 : y372.length = t363.length - (1 : Int).toNat := (by rw [Ny372.out, List.length_drop] <;> omega)
 rw [show (t363).drop (1 : Int).toNat = y372 from Ny372.out.symm] at hr37
 replace hr37 : Kd.C Kd.string _ A37 y372.length y372 := (by rw [hA37]; exact hr37)
 rw [← hy37, ← hA37, ← hc37] at hcut37
 have HR375 := Aside0.mk hr37
 have HC375 := Aside0.mk (show y372.length ≤ c37 from by rw [hy37, hc37]; exact Nat.sub_le_sub_right hroom37 _)
 clear hr37 hC37 hroom37 hi037 hsz37 hc37
 have KY37 := Aside0.mk hy37
 have KA37 := Aside0.mk hA37
 clear hy37 hA37
 have KL37 := Aside0.mk (show 1 ≤ t363.length from by omega)
 replace q37 := eq_true q37
 go_upto_region 14 with (first | ((with_reducible refine gate_callee (f := 46) rfl ?_); refine gs_ (some 67) Try.func46 #[.slice A37 y372.length c37] ?_; (with_reducible refine (impl_numbersOf.calls kj23 _ _ y372 t376 t377 _ ?side1 ?side2 A34.out).mono ?_); (case side1 => repeat (first | exact (by repeat (first | (with_reducible exact HR375.out) | (with_reducible refine Kd.C_alloc ?_ _) | (with_reducible refine Kd.C_drewN ?_ _) | (with_reducible refine Kd.C_drew ?_) | exact HR375.out)) | (with_reducible refine Kd.C_alloc ?_ _) | (with_reducible refine Kd.C_drewN ?_ _) | (with_reducible refine Kd.C_drew ?_))); (case side2 => exact HC375.out); rintro e w38 ⟨v378, rfl, ho0, hb⟩; refine ⟨_, rfl, ?_⟩; replace HO_5 := Aside0.mk (Kd.S_below (by (with_reducible repeat (first | apply Kd.S_alloc | apply Kd.S_drewN | apply Kd.S_drew)); exact HO_5.out) hb); replace HO_10 := Aside0.mk (Kd.R_below (ra_ HO_10.out) hb); replace HO_22 := Aside0.mk (Kd.R_below (ra_ HO_22.out) hb); have HO379 := Aside0.mk (Kd.R_lower ho0 (below_size bl_)); replace HR375 := Aside0.mk (Kd.C_below (by repeat (first | (with_reducible exact HR375.out) | (with_reducible refine Kd.C_alloc ?_ _) | (with_reducible refine Kd.C_drewN ?_ _) | (with_reducible refine Kd.C_drew ?_) | exact HR375.out)) hb); replace HB := Aside0.mk (below_step bl_ hb); (try clear hb); (try clear ho0)))
 (try simp only [Act.put, List.setIfInBounds_toArray, List.set_cons_zero, List.set_cons_succ])
 go_cut [76] (fun v76 wc => ∃ (kq : Nat) (x76_34 : Bool), v76 = .bool x76_34 ∧ Aside0 (impl_ReadScript.j3 kq x5_1 x24_1 t376 t359 (t359.length : Int) x24_1 x76_34 = some (r1, r2, r3)) ∧ Aside0 (kq ≤ kj23) ∧ Aside0 (Kd.S k69 69 wc w.heap.size (fun _ => True) u5 x5_1) ∧ Aside0 (Kd.R (Kd.int .i64) 3 wc w.heap.size (fun _ => True) v378 t376) ∧ Aside0 (Kd.R Kd.string 9 wc w.heap.size (fun _ => True) (.slice (some ad362) t359.length co9) t359) ∧ Aside0 (Kd.C Kd.string wc A37 y372.length y372) ∧ Aside0 (Below w.heap.size w wc))
 case first =>
  have H := HC35.out
  clear HC35
  by_cases c39 : t377 = true
  rotate_left
  ·replace c39 := Bool.eq_false_iff.mpr c39
   subst c39
   rw [nf_] at H
   have H' := Aside0.mk H
   clear H
   go_wp2
   go_meet
   case rel => exact ⟨_, (true), (sr_), H', ⟨by have := HK1.out; have := HJ13.out; have := HJ23.out; first | omega | exact Nat.le_refl _⟩, ⟨by (with_reducible repeat (first | apply Kd.S_alloc | apply Kd.S_drewN | apply Kd.S_drew)); exact HO_5.out⟩, ⟨ra_ HO379.out⟩, ⟨by (with_reducible repeat (first | apply Kd.R_alloc | apply Kd.R_drewN | apply Kd.R_drew)); exact Kd.R_mono HO_22.out (fun _ hk => trivial)⟩, ⟨by repeat (first | (with_reducible exact HR375.out) | (with_reducible refine Kd.C_alloc ?_ _) | (with_reducible refine Kd.C_drewN ?_ _) | (with_reducible refine Kd.C_drew ?_) | exact HR375.out)⟩, ⟨bl_⟩⟩
  subst c39
  rw [if_pos rfl] at H
  have H' := Aside0.mk H
  clear H
  obtain ⟨Ao40, co40, eo40⟩ := Kd.R_slice HO379.out
  subst eo40
  go_wp2
  go_meet
  case rel => exact ⟨_, (((t376.length : Int) != 1)), (sr_), H', ⟨by have := HK1.out; have := HJ13.out; have := HJ23.out; first | omega | exact Nat.le_refl _⟩, ⟨by (with_reducible repeat (first | apply Kd.S_alloc | apply Kd.S_drewN | apply Kd.S_drew)); exact HO_5.out⟩, ⟨ra_ HO379.out⟩, ⟨by (with_reducible repeat (first | apply Kd.R_alloc | apply Kd.R_drewN | apply Kd.R_drew)); exact Kd.R_mono HO_22.out (fun _ hk => trivial)⟩, ⟨by repeat (first | (with_reducible exact HR375.out) | (with_reducible refine Kd.C_alloc ?_ _) | (with_reducible refine Kd.C_drewN ?_ _) | (with_reducible refine Kd.C_drew ?_) | exact HR375.out)⟩, ⟨bl_⟩⟩
 clear HC35
 try clear c1
 try clear c2
 try clear c2b0
 try clear c2b1
 try clear c10
 try clear c10b0
 try clear c11
 try clear c11b0
 try clear c12
 try clear c12b0
 try clear c23
 try clear c28
 try clear c31
 try clear c31b0
 try clear c31b1
 try clear c32
 try clear c32b0
 try clear c32b1
 try clear c33
 try clear c33b0
 try clear c33b1
 try clear c37
 try clear q37
 try clear hx362_0
 try clear hx371_0
 try clear p362
 try clear p371
 try clear q362
 try clear q37
 try clear q371
 obtain ⟨kq, x76_34, rfl, HA, HJ34, HO_5, HO_12, HO_22, HR375, HB⟩ := hcut
 cases kq with
 | zero => exact absurd HA.out (by simp [impl_ReadScript.j3])
 | succ kj34 => ?_
 have H := HA.out
 clear HA
 simp only [impl_ReadScript.j3] at H
 by_cases c41 : x76_34 = true
 ·subst c41
  rw [if_pos rfl] at H
  obtain ⟨y380, hy380⟩ : ∃ y_ : List (S69), y_ = (([] : List (S69))) := ⟨_, rfl⟩
  replace H : (some (y380, 0, wrap64 (x24_1 + 1))) = some (r1, r2, r3) := rp_ H hy380
  have Ny380 := Aside0.mk hy380
  clear hy380
  simp only [Option.some.injEq, Prod.mk.injEq] at H
  obtain ⟨rfl, rfl, rfl⟩ := H
  go_wp2_with (first | ((with_reducible refine gate_dst (N := 77) rfl ?_); (try (refine gate_guard (by rfl) ?_; dsimp only)); refine Kd.S_lit k69 _ 69 ?hg (N := 77) ?hd (xs := ([] : List (S69))) (inner := []) (ok := fun _ => True) (okp := fun _ => True) ?hr ?hp (fun _ hk => hk) trivial (Below.refl _ _) (Nat.le_refl _) (by simp) ?_; (case hd => rfl); (case hg => rfl); (case hr => first | (go_simp; done) | (go_simp; rfl)); (case hp => exact (Reps.none _ _)); intro v381 w42 ho43 hb hg_ hnew_; clear hg_ hnew_; (first | rw [← Ny380.out] at ho43 | (simp only [Int.reduceToNat] at ho43; rw [← Ny380.out] at ho43)); replace HO_12 := Aside0.mk (Kd.R_below (ra_ HO_12.out) hb); replace HO_22 := Aside0.mk (Kd.R_below (ra_ HO_22.out) hb); have HO382 := Aside0.mk (Kd.S_lower (Kd.S_new' ho43 (Kd.S_lt (by (with_reducible repeat (first | apply Kd.S_alloc | apply Kd.S_drewN | apply Kd.S_drew)); exact HO_5.out))) (below_size bl_)); replace HO_5 := Aside0.mk (Kd.S_elder' (by (with_reducible repeat (first | apply Kd.S_alloc | apply Kd.S_drewN | apply Kd.S_drew)); exact HO_5.out) (Kd.S_base ho43) hb); replace HR375 := Aside0.mk (Kd.C_below (by repeat (first | (with_reducible exact HR375.out) | (with_reducible refine Kd.C_alloc ?_ _) | (with_reducible refine Kd.C_drewN ?_ _) | (with_reducible refine Kd.C_drew ?_) | exact HR375.out)) hb); replace HB := Aside0.mk (below_step bl_ hb); clear hb ho43))
  go_ret3
  exact ⟨_, er_, by (with_reducible repeat (first | apply Kd.S_alloc | apply Kd.S_drewN | apply Kd.S_drew)); exact Kd.S_mono HO382.out (fun _ hk => trivial), bl_⟩
 replace c41 := Bool.eq_false_iff.mpr c41
 subst c41
 rw [nf_] at H
 by_cases c44 : 0 < (t376.length : Int)
 rotate_left
 ·exact nn_ c44 H
 rw [if_pos c44] at H
 have c44b0 := decide_eq_true c44
 have c44b1 : decide (0 < t376.length) = true := decide_eq_true (by omega)
 clear c44
 have H' := Aside0.mk H
 clear H
 obtain ⟨Ao45, co45, eo45⟩ := Kd.R_slice HO_12.out
 subst eo45
 have p383 : 0 ≤ (0 : Int) := (by omega)
 have q383 : 0 < (t376.length : Int) := of_decide_eq_true as_
 obtain ⟨ad383, e383, hx383_0⟩ := Kd.at_int (Kd.R_reads' HO_12.out).2.2 0 p383 q383
 cases e383
 have qi383 : (0 < t376.length) = True := eq_true (by omega)
 (try rw [show ((0 : Int)).toNat = 0 from rfl] at hx383_0)
 (try rw [Addr.add_zero'] at hx383_0)
 replace p383 := eq_true p383
 replace q383 := eq_true q383
 go_wp2
 go_roundg kj34
 case measure => have := HK1.out; have := HJ13.out; have := HJ23.out; have := HJ34.out; omega
 case rel => exact ⟨(x5_1), (rd t376 0), (true), (wrap64 (x24_1 + 1)), (sr_), (sr_), (sr_), H', ⟨by have := HK1.out; have := HJ13.out; have := HJ23.out; have := HJ34.out; omega⟩, ⟨by (with_reducible repeat (first | apply Kd.S_alloc | apply Kd.S_drewN | apply Kd.S_drew)); exact HO_5.out⟩, ⟨ra_ HO_22.out⟩, ⟨bl_⟩⟩


def laws_eqWide.f (a0_0 : Int) (a0_1 : Int) (a1_0 : Int) (a1_1 : Int) : Option (Bool) := if a0_0 = a1_0 then (if a0_1 = a1_1 then (some true) else (some false)) else (some false)
theorem laws_eqWide.calls (a0_0 : Int) (a0_1 : Int) (a1_0 : Int) (a1_1 : Int) (r : Bool) (w : World) (h : laws_eqWide.f a0_0 a0_1 a1_0 a1_1 = some r) :
 Calls Try.prog 135 #[.agg #[.int .i64 a0_0, .int .i64 a0_1], .agg #[.int .i64 a1_0, .int .i64 a1_1]] w fun e w' => e = .returned (.bool r) ∧ Below w.heap.size w w' := by
 have hu98 := Try.underlying98
 have HB := Aside0.mk (Below.refl w.heap.size w)
 have H := h
 unfold laws_eqWide.f at H
 clear h
 by_cases c3 : a0_0 = a1_0
 rotate_left
 ·rw [if_neg c3] at H
  have c3b0 : (a0_0 == a1_0) = false := beq_eq_false_iff_ne.mpr c3
  have c3b1 : (a0_0 != a1_0) = true := bne_iff_ne.mpr c3
  obtain rfl := Option.some.inj H
  go_enter Try.func135, Try.ntmps135
  go_wp2_with (first | ((with_reducible refine gate_dst (N := 2) rfl ?_); refine bx_ 2 98 #[.int .i64 a0_0, .int .i64 a0_1] ?_; intro gb404 hg w15 hbox hb; have BK404 := Aside0.mk (hbox); have GW404 := Aside0.mk ((hz_ : w.heap.size ≤ gb404)); have GE404 := Aside0.mk ((hz_ : w.heap.size ≤ gb404)); replace HB := Aside0.mk (below_step bl_ hb); clear hb hbox hg) | ((with_reducible refine gate_dst (N := 3) rfl ?_); refine bx_ 3 98 #[.int .i64 a1_0, .int .i64 a1_1] ?_; intro gb405 hg w16 hbox hb; have BK405 := Aside0.mk (hbox); have GW405 := Aside0.mk ((hz_ : w.heap.size ≤ gb405)); have GE405 := Aside0.mk ((hz_ : w.heap.size ≤ gb405)); replace HB := Aside0.mk (below_step bl_ hb); have NB404_405 := Aside0.mk ((by rw [hg]; exact Nat.ne_of_lt (blk_lt (g := gb404) (o := .cells #[.int .i64 a0_0, .int .i64 a0_1] 98 (0, 0)) (bk_ BK404.out)) : gb404 ≠ gb405)); have NB405_404 := Aside0.mk ((by rw [hg]; exact Nat.ne_of_gt (blk_lt (g := gb404) (o := .cells #[.int .i64 a0_0, .int .i64 a0_1] 98 (0, 0)) (bk_ BK404.out)) : gb405 ≠ gb404)); replace BK404 := Aside0.mk (blk_below (bn0_ BK404.out) hb); clear hb hbox hg; have hnb17 := NB404_405.out; have hnc17 := NB405_404.out; obtain ⟨hcz18_0, hcz18_1, hfz18_0, hfz18_1⟩ := cf2_ BK404.out; obtain ⟨hcz19_0, hcz19_1, hfz19_0, hfz19_1⟩ := cf2_ BK405.out))
  go_ret
  exact ⟨er_, bl_⟩
 rw [if_pos c3] at H
 have c3b0 : (a0_0 == a1_0) = true := beq_iff_eq.mpr c3
 have c3b1 : (a0_0 != a1_0) = false := bne_eq_false_iff_eq.mpr c3
 clear c3
 by_cases c4 : a0_1 = a1_1
 rotate_left
 ·rw [if_neg c4] at H
  have c4b0 : (a0_1 == a1_1) = false := beq_eq_false_iff_ne.mpr c4
  have c4b1 : (a0_1 != a1_1) = true := bne_iff_ne.mpr c4
  obtain rfl := Option.some.inj H
  go_enter Try.func135, Try.ntmps135
  go_wp2_with (first | ((with_reducible refine gate_dst (N := 2) rfl ?_); refine bx_ 2 98 #[.int .i64 a0_0, .int .i64 a0_1] ?_; intro gb404 hg w10 hbox hb; have BK404 := Aside0.mk (hbox); have GW404 := Aside0.mk ((hz_ : w.heap.size ≤ gb404)); have GE404 := Aside0.mk ((hz_ : w.heap.size ≤ gb404)); replace HB := Aside0.mk (below_step bl_ hb); clear hb hbox hg) | ((with_reducible refine gate_dst (N := 3) rfl ?_); refine bx_ 3 98 #[.int .i64 a1_0, .int .i64 a1_1] ?_; intro gb405 hg w11 hbox hb; have BK405 := Aside0.mk (hbox); have GW405 := Aside0.mk ((hz_ : w.heap.size ≤ gb405)); have GE405 := Aside0.mk ((hz_ : w.heap.size ≤ gb405)); replace HB := Aside0.mk (below_step bl_ hb); have NB404_405 := Aside0.mk ((by rw [hg]; exact Nat.ne_of_lt (blk_lt (g := gb404) (o := .cells #[.int .i64 a0_0, .int .i64 a0_1] 98 (0, 0)) (bk_ BK404.out)) : gb404 ≠ gb405)); have NB405_404 := Aside0.mk ((by rw [hg]; exact Nat.ne_of_gt (blk_lt (g := gb404) (o := .cells #[.int .i64 a0_0, .int .i64 a0_1] 98 (0, 0)) (bk_ BK404.out)) : gb405 ≠ gb404)); replace BK404 := Aside0.mk (blk_below (bn0_ BK404.out) hb); clear hb hbox hg; have hnb12 := NB404_405.out; have hnc12 := NB405_404.out; obtain ⟨hcz13_0, hcz13_1, hfz13_0, hfz13_1⟩ := cf2_ BK404.out; obtain ⟨hcz14_0, hcz14_1, hfz14_0, hfz14_1⟩ := cf2_ BK405.out))
  go_ret
  exact ⟨er_, bl_⟩
 rw [if_pos c4] at H
 have c4b0 : (a0_1 == a1_1) = true := beq_iff_eq.mpr c4
 have c4b1 : (a0_1 != a1_1) = false := bne_eq_false_iff_eq.mpr c4
 clear c4
 obtain rfl := Option.some.inj H
 go_enter Try.func135, Try.ntmps135
 go_wp2_with (first | ((with_reducible refine gate_dst (N := 2) rfl ?_); refine bx_ 2 98 #[.int .i64 a0_0, .int .i64 a0_1] ?_; intro gb404 hg w5 hbox hb; have BK404 := Aside0.mk (hbox); have GW404 := Aside0.mk ((hz_ : w.heap.size ≤ gb404)); have GE404 := Aside0.mk ((hz_ : w.heap.size ≤ gb404)); replace HB := Aside0.mk (below_step bl_ hb); clear hb hbox hg) | ((with_reducible refine gate_dst (N := 3) rfl ?_); refine bx_ 3 98 #[.int .i64 a1_0, .int .i64 a1_1] ?_; intro gb405 hg w6 hbox hb; have BK405 := Aside0.mk (hbox); have GW405 := Aside0.mk ((hz_ : w.heap.size ≤ gb405)); have GE405 := Aside0.mk ((hz_ : w.heap.size ≤ gb405)); replace HB := Aside0.mk (below_step bl_ hb); have NB404_405 := Aside0.mk ((by rw [hg]; exact Nat.ne_of_lt (blk_lt (g := gb404) (o := .cells #[.int .i64 a0_0, .int .i64 a0_1] 98 (0, 0)) (bk_ BK404.out)) : gb404 ≠ gb405)); have NB405_404 := Aside0.mk ((by rw [hg]; exact Nat.ne_of_gt (blk_lt (g := gb404) (o := .cells #[.int .i64 a0_0, .int .i64 a0_1] 98 (0, 0)) (bk_ BK404.out)) : gb405 ≠ gb404)); replace BK404 := Aside0.mk (blk_below (bn0_ BK404.out) hb); clear hb hbox hg; have hnb7 := NB404_405.out; have hnc7 := NB405_404.out; obtain ⟨hcz8_0, hcz8_1, hfz8_0, hfz8_1⟩ := cf2_ BK404.out; obtain ⟨hcz9_0, hcz9_1, hfz9_0, hfz9_1⟩ := cf2_ BK405.out))
 go_ret
 exact ⟨er_, bl_⟩


def laws_eqWideS.l0 : Nat → List (S98) → List (S98) → Int → Option (Bool)
 | 0, _, _, _ => none
 | k + 1, x0, x1, x5 => if x5 < (x0.length : Int) then (if 0 ≤ x5 then (if x5 < (x1.length : Int) then ((laws_eqWide.f ((rd_T98 x0 x5).f0) ((rd_T98 x0 x5).f1) ((rd_T98 x1 x5).f0) ((rd_T98 x1 x5).f1)).bind fun t408 => (if t408 = true then (laws_eqWideS.l0 k x0 x1 (wrap64 (x5 + 1))) else (some false))) else (none)) else (none)) else (some true)
def laws_eqWideS.f (k : Nat) (l0 : List (S98)) (l1 : List (S98)) : Option (Bool) := if (l0.length : Int) = (l1.length : Int) then (laws_eqWideS.l0 k l0 l1 0) else (some false)
theorem laws_eqWideS.mono_l : ∀ k, (∀ y0 y1 y2, LeO (laws_eqWideS.l0 k y0 y1 y2) (laws_eqWideS.l0 (k + 1) y0 y1 y2))
 | 0 => fun _ _ _ r h => by simp [laws_eqWideS.l0] at h
 | k + 1 => by
  have ih0 := laws_eqWideS.mono_l k
  ·intro y0 y1 y2
   unfold laws_eqWideS.l0
   exact mo_
theorem laws_eqWideS.mono : ∀ a0 a1 k, LeO (laws_eqWideS.f k a0 a1) (laws_eqWideS.f (k + 1) a0 a1) := by
 intro a0 a1 k
 have ih0 := laws_eqWideS.mono_l k
 unfold laws_eqWideS.f
 exact mo_
def laws_eqWideS.T6 : Bool × List (List Nat × List Nat) := (true, [([], []), ([], []), ([0, 1], [0, 1]), ([2], [2]), ([], []), ([], []), ([4, 5], [4, 5]), ([6], [6]), ([3, 7], [3, 7]), ([8], [8])])
def laws_eqWideS.B6 : List Nat := [0, 0, 3, 7, 0, 0, 48, 112, 255, 511]
theorem laws_eqWideS.tab6 : rtab .any (opsOf Try.f119 6) = laws_eqWideS.T6 := by kernel_rfl
theorem laws_eqWideS.bits6 : waitsOk laws_eqWideS.T6.2 laws_eqWideS.B6 = true := by kernel_rfl
theorem laws_eqWideS.calls (k : Nat) (A0 : Option Addr) (c0 : Nat) (l0 : List (S98)) (A1 : Option Addr) (c1 : Nat) (l1 : List (S98)) (r : Bool) (w : World) (hr0 : Kd.C k98 w A0 l0.length l0) (hc0 : l0.length ≤ c0) (hr1 : Kd.C k98 w A1 l1.length l1) (hc1 : l1.length ≤ c1) (h : laws_eqWideS.f k l0 l1 = some r) :
 Calls Try.prog 119 #[.slice A0 l0.length c0, .slice A1 l1.length c1] w fun e w' => e = .returned (.bool r) ∧ Below w.heap.size w w' := by
 have hu98 := Try.underlying98
 have HR0 := Aside0.mk hr0
 have HC0 := Aside0.mk hc0
 clear hr0 hc0
 have HR1 := Aside0.mk hr1
 have HC1 := Aside0.mk hc1
 clear hr1 hc1
 have HB := Aside0.mk (Below.refl w.heap.size w)
 have H := h
 unfold laws_eqWideS.f at H
 clear h
 by_cases c3 : (l0.length : Int) = (l1.length : Int)
 rotate_left
 ·rw [if_neg c3] at H
  have c3b0 : ((l0.length : Int) == (l1.length : Int)) = false := beq_eq_false_iff_ne.mpr c3
  have c3b1 : ((l0.length : Int) != (l1.length : Int)) = true := bne_iff_ne.mpr c3
  have c3b2 : (l0.length == l1.length) = false := by first | simpa using c3 | (simp at c3 ⊢; omega)
  obtain rfl := Option.some.inj H
  go_enter Try.func119, Try.ntmps119
  go_wp2
  go_ret
  exact ⟨er_, bl_⟩
 rw [if_pos c3] at H
 have c3b0 : ((l0.length : Int) == (l1.length : Int)) = true := beq_iff_eq.mpr c3
 have c3b1 : ((l0.length : Int) != (l1.length : Int)) = false := bne_eq_false_iff_eq.mpr c3
 have c3b2 : (l0.length == l1.length) = true := by first | simpa using c3 | (simp at c3 ⊢; omega)
 clear c3
 have H' := Aside0.mk H
 clear H
 go_enter Try.func119, Try.ntmps119
 go_wp2
 go_loopg [5] k (fun kq v5 w' => ∃ (x5_1 : Int), v5 = .int .i64 x5_1 ∧ Aside0 (laws_eqWideS.l0 kq l0 l1 x5_1 = some r) ∧ Aside0 (kq ≤ k) ∧ Aside0 (Below w.heap.size w w'))
 case atStart => exact ⟨(0), (sr_), H', ⟨Nat.le_refl _⟩, ⟨bl_⟩⟩
 clear H'
 try clear c1
 try clear c3
 try clear c3b0
 try clear c3b1
 try clear c3b2
 obtain ⟨x5_1, rfl, HA, HK1, HB⟩ := hrel
 cases gk with
 | zero => exact absurd HA.out (by simp [laws_eqWideS.l0])
 | succ k1 => ?_
 have H := HA.out
 clear HA
 simp only [laws_eqWideS.l0] at H
 by_cases c4 : x5_1 < (l0.length : Int)
 rotate_left
 ·rw [if_neg c4] at H
  have c4b0 := decide_eq_false c4
  clear c4
  obtain rfl := Option.some.inj H
  go_wp2
  go_ret
  exact ⟨er_, bl_⟩
 rw [if_pos c4] at H
 have c4b0 := decide_eq_true c4
 clear c4
 by_cases c5 : 0 ≤ x5_1
 rotate_left
 ·exact nn_ c5 H
 rw [if_pos c5] at H
 have c5b0 := decide_eq_true c5
 clear c5
 by_cases c6 : x5_1 < (l1.length : Int)
 rotate_left
 ·exact nn_ c6 H
 rw [if_pos c6] at H
 have c6b0 := decide_eq_true c6
 clear c6
 replace H := bs_ H
 obtain ⟨t408, A7, H⟩ := H
 try dsimp only at H
 by_cases c8 : t408 = true
 rotate_left
 ·replace c8 := Bool.eq_false_iff.mpr c8
  subst c8
  rw [nf_] at H
  obtain rfl := Option.some.inj H
  try go_wp2
  have n0_ := Aside0.mk (below_drew1 HB.out)
  clear HB
  have HB := n0_
  clear n0_
  have p406 : 0 ≤ (x5_1 : Int) := of_decide_eq_true as_
  have q406 : x5_1 < (l0.length : Int) := of_decide_eq_true as_
  obtain ⟨ad406, e406, hx406_0, hx406_1⟩ := at_T98 HR0.out x5_1 p406 q406
  have hw406_1 := hx406_1
  have hw406_0 := hx406_0
  cases e406
  replace hx406_0 := (HB.out.cell (World.block_lt_of_cell? w _ hx406_0)).trans hx406_0
  replace hx406_1 := (HB.out.cell (World.block_lt_of_cell? w _ hx406_1)).trans hx406_1
  replace p406 := eq_true p406
  replace q406 := eq_true q406
  have p407 : 0 ≤ (x5_1 : Int) := of_decide_eq_true as_
  have q407 : x5_1 < (l1.length : Int) := of_decide_eq_true as_
  obtain ⟨ad407, e407, hx407_0, hx407_1⟩ := at_T98 HR1.out x5_1 p407 q407
  have hw407_1 := hx407_1
  have hw407_0 := hx407_0
  cases e407
  replace hx407_0 := (HB.out.cell (World.block_lt_of_cell? w _ hx407_0)).trans hx407_0
  replace hx407_1 := (HB.out.cell (World.block_lt_of_cell? w _ hx407_1)).trans hx407_1
  replace p407 := eq_true p407
  replace q407 := eq_true q407
  refine start_ (n := 10) (S := fun w' => w'.cell? (ad406.add ((x5_1).toNat * 2)) = some (.int .i64 ((rd_T98 l0 x5_1).f0)) ∧ w'.cell? ⟨(ad406.add ((x5_1).toNat * 2)).block, (ad406.add ((x5_1).toNat * 2)).off + 1, none⟩ = some (.int .i64 ((rd_T98 l0 x5_1).f1)) ∧ w'.cell? (ad407.add ((x5_1).toNat * 2)) = some (.int .i64 ((rd_T98 l1 x5_1).f0)) ∧ w'.cell? ⟨(ad407.add ((x5_1).toNat * 2)).block, (ad407.add ((x5_1).toNat * 2)).off + 1, none⟩ = some (.int .i64 ((rd_T98 l1 x5_1).f1))) (ds := []) #[false, false, false, false, false, false, false, false, false, false] (by kernel_rfl) rfl rfl ⟨((HB.out.cell (World.block_lt_of_cell? w _ hw406_0)).trans hw406_0), ((HB.out.cell (World.block_lt_of_cell? w _ hw406_1)).trans hw406_1), ((HB.out.cell (World.block_lt_of_cell? w _ hw407_0)).trans hw407_0), ((HB.out.cell (World.block_lt_of_cell? w _ hw407_1)).trans hw407_1)⟩ (fun hHeld => ?_); refine with_tabW laws_eqWideS.tab6 laws_eqWideS.bits6 (fun HT_ HW_ => ?_)
  generalize wr.drew = w11 at HB hx406_0 hx406_1 hx407_0 hx407_1 hHeld ⊢
  refine pu_ 0 17 HT_ ?_
  refine pu_ 1 18 HT_ ?_
  refine pu_ 2 19 HT_ ?_
  refine pu_ 4 21 HT_ ?_
  refine pu_ 5 22 HT_ ?_
  refine pu_ 6 23 HT_ ?_
  refine ta_ 3 20 HT_ HW_ hHeld ?_ (r := by rintro w' ⟨s0, s1, s2, s3⟩; go_simp; with_reducible rfl)
  refine ta_ 7 24 HT_ HW_ hHeld ?_ (r := by rintro w' ⟨s0, s1, s2, s3⟩; go_simp; with_reducible rfl)
  refine on_ 8 25 HT_ (fun K hK => ?_)
  refine goes_ Try.func135 (by kernel_rfl) rfl #[.agg #[.int .i64 ((rd_T98 l0 x5_1).f0), .int .i64 ((rd_T98 l0 x5_1).f1)], .agg #[.int .i64 ((rd_T98 l1 x5_1).f0), .int .i64 ((rd_T98 l1 x5_1).f1)]] (by rfl) rfl rfl lm_ ?_
  with_reducible refine (laws_eqWide.calls ((rd_T98 l0 x5_1).f0) ((rd_T98 l0 x5_1).f1) ((rd_T98 l1 x5_1).f0) ((rd_T98 l1 x5_1).f1) false _ A7.out).mono ?_
  rintro e w12 ⟨rfl, hb⟩
  refine ⟨_, rfl, ?_⟩
  have n0_ := Aside0.mk (below_step bl_ hb)
  clear HB
  have HB := n0_
  clear n0_
  (try clear hb)
  (try clear hb2)
  (try clear hk)
  (try clear hi)
  refine hK.out _ _ ⟨((HB.out.cell (World.block_lt_of_cell? w _ hw406_0)).trans hw406_0), ((HB.out.cell (World.block_lt_of_cell? w _ hw406_1)).trans hw406_1), ((HB.out.cell (World.block_lt_of_cell? w _ hw407_0)).trans hw407_0), ((HB.out.cell (World.block_lt_of_cell? w _ hw407_1)).trans hw407_1)⟩ (fun hHeld => ?_)
  clear hK K
  refine norm_ (a' := ?_) ?_ ?_
  rotate_left
  ·show Act.put _ (some 25) _ = _
   simp only [Act.put, List.setIfInBounds_toArray, List.set_cons_zero, List.set_cons_succ, i64_w, i32_w]
   rfl
  refine pu_ 9 26 HT_ ?_
  refine done_ (done_of HT_.out (by kernel_rfl)) ?_
  try go_wp2
  go_ret
  exact ⟨er_, bl_⟩
 subst c8
 rw [if_pos rfl] at H
 have H' := Aside0.mk H
 clear H
 try go_wp2
 have n0_ := Aside0.mk (below_drew1 HB.out)
 clear HB
 have HB := n0_
 clear n0_
 have p406 : 0 ≤ (x5_1 : Int) := of_decide_eq_true as_
 have q406 : x5_1 < (l0.length : Int) := of_decide_eq_true as_
 obtain ⟨ad406, e406, hx406_0, hx406_1⟩ := at_T98 HR0.out x5_1 p406 q406
 have hw406_1 := hx406_1
 have hw406_0 := hx406_0
 cases e406
 replace hx406_0 := (HB.out.cell (World.block_lt_of_cell? w _ hx406_0)).trans hx406_0
 replace hx406_1 := (HB.out.cell (World.block_lt_of_cell? w _ hx406_1)).trans hx406_1
 replace p406 := eq_true p406
 replace q406 := eq_true q406
 have p407 : 0 ≤ (x5_1 : Int) := of_decide_eq_true as_
 have q407 : x5_1 < (l1.length : Int) := of_decide_eq_true as_
 obtain ⟨ad407, e407, hx407_0, hx407_1⟩ := at_T98 HR1.out x5_1 p407 q407
 have hw407_1 := hx407_1
 have hw407_0 := hx407_0
 cases e407
 replace hx407_0 := (HB.out.cell (World.block_lt_of_cell? w _ hx407_0)).trans hx407_0
 replace hx407_1 := (HB.out.cell (World.block_lt_of_cell? w _ hx407_1)).trans hx407_1
 replace p407 := eq_true p407
 replace q407 := eq_true q407
 refine start_ (n := 10) (S := fun w' => w'.cell? (ad406.add ((x5_1).toNat * 2)) = some (.int .i64 ((rd_T98 l0 x5_1).f0)) ∧ w'.cell? ⟨(ad406.add ((x5_1).toNat * 2)).block, (ad406.add ((x5_1).toNat * 2)).off + 1, none⟩ = some (.int .i64 ((rd_T98 l0 x5_1).f1)) ∧ w'.cell? (ad407.add ((x5_1).toNat * 2)) = some (.int .i64 ((rd_T98 l1 x5_1).f0)) ∧ w'.cell? ⟨(ad407.add ((x5_1).toNat * 2)).block, (ad407.add ((x5_1).toNat * 2)).off + 1, none⟩ = some (.int .i64 ((rd_T98 l1 x5_1).f1))) (ds := []) #[false, false, false, false, false, false, false, false, false, false] (by kernel_rfl) rfl rfl ⟨((HB.out.cell (World.block_lt_of_cell? w _ hw406_0)).trans hw406_0), ((HB.out.cell (World.block_lt_of_cell? w _ hw406_1)).trans hw406_1), ((HB.out.cell (World.block_lt_of_cell? w _ hw407_0)).trans hw407_0), ((HB.out.cell (World.block_lt_of_cell? w _ hw407_1)).trans hw407_1)⟩ (fun hHeld => ?_); refine with_tabW laws_eqWideS.tab6 laws_eqWideS.bits6 (fun HT_ HW_ => ?_)
 generalize wr.drew = w9 at HB hx406_0 hx406_1 hx407_0 hx407_1 hHeld ⊢
 refine pu_ 0 17 HT_ ?_
 refine pu_ 1 18 HT_ ?_
 refine pu_ 2 19 HT_ ?_
 refine pu_ 4 21 HT_ ?_
 refine pu_ 5 22 HT_ ?_
 refine pu_ 6 23 HT_ ?_
 refine ta_ 3 20 HT_ HW_ hHeld ?_ (r := by rintro w' ⟨s0, s1, s2, s3⟩; go_simp; with_reducible rfl)
 refine ta_ 7 24 HT_ HW_ hHeld ?_ (r := by rintro w' ⟨s0, s1, s2, s3⟩; go_simp; with_reducible rfl)
 refine on_ 8 25 HT_ (fun K hK => ?_)
 refine goes_ Try.func135 (by kernel_rfl) rfl #[.agg #[.int .i64 ((rd_T98 l0 x5_1).f0), .int .i64 ((rd_T98 l0 x5_1).f1)], .agg #[.int .i64 ((rd_T98 l1 x5_1).f0), .int .i64 ((rd_T98 l1 x5_1).f1)]] (by rfl) rfl rfl lm_ ?_
 with_reducible refine (laws_eqWide.calls ((rd_T98 l0 x5_1).f0) ((rd_T98 l0 x5_1).f1) ((rd_T98 l1 x5_1).f0) ((rd_T98 l1 x5_1).f1) true _ A7.out).mono ?_
 rintro e w10 ⟨rfl, hb⟩
 refine ⟨_, rfl, ?_⟩
 have n0_ := Aside0.mk (below_step bl_ hb)
 clear HB
 have HB := n0_
 clear n0_
 (try clear hb)
 (try clear hb2)
 (try clear hk)
 (try clear hi)
 refine hK.out _ _ ⟨((HB.out.cell (World.block_lt_of_cell? w _ hw406_0)).trans hw406_0), ((HB.out.cell (World.block_lt_of_cell? w _ hw406_1)).trans hw406_1), ((HB.out.cell (World.block_lt_of_cell? w _ hw407_0)).trans hw407_0), ((HB.out.cell (World.block_lt_of_cell? w _ hw407_1)).trans hw407_1)⟩ (fun hHeld => ?_)
 clear hK K
 refine norm_ (a' := ?_) ?_ ?_
 rotate_left
 ·show Act.put _ (some 25) _ = _
  simp only [Act.put, List.setIfInBounds_toArray, List.set_cons_zero, List.set_cons_succ, i64_w, i32_w]
  rfl
 refine pu_ 9 26 HT_ ?_
 refine done_ (done_of HT_.out (by kernel_rfl)) ?_
 try go_wp2
 go_roundg k1
 case measure => have := HK1.out; omega
 case rel => exact ⟨(wrap64 (x5_1 + 1)), (sr_), H', ⟨by have := HK1.out; omega⟩, ⟨bl_⟩⟩


def laws_eqCall.f (k : Nat) (a0_0 : Int) (a0_1 : Int) (l0_2 : List (S98)) (a1_0 : Int) (a1_1 : Int) (l1_2 : List (S98)) : Option (Bool) := if a0_0 = a1_0 then (if a0_1 = a1_1 then ((laws_eqWideS.f k l0_2 l1_2).bind fun t411 => (if t411 = true then (some true) else (some false))) else (some false)) else (some false)
theorem laws_eqCall.mono : ∀ a0 a1 a2 a3 a4 a5 k, LeO (laws_eqCall.f k a0 a1 a2 a3 a4 a5) (laws_eqCall.f (k + 1) a0 a1 a2 a3 a4 a5) := by
 intro a0 a1 a2 a3 a4 a5 k
 unfold laws_eqCall.f
 have m0 := @laws_eqWideS.mono
 exact mo_
theorem laws_eqCall.calls (k : Nat) (a0_0 : Int) (a0_1 : Int) (A0_2 : Option Addr) (c0_2 : Nat) (l0_2 : List (S98)) (a1_0 : Int) (a1_1 : Int) (A1_2 : Option Addr) (c1_2 : Nat) (l1_2 : List (S98)) (r : Bool) (w : World) (hr0_2 : Kd.C k98 w A0_2 l0_2.length l0_2) (hc0_2 : l0_2.length ≤ c0_2) (hr1_2 : Kd.C k98 w A1_2 l1_2.length l1_2) (hc1_2 : l1_2.length ≤ c1_2) (h : laws_eqCall.f k a0_0 a0_1 l0_2 a1_0 a1_1 l1_2 = some r) :
 Calls Try.prog 94 #[.agg #[.int .i64 a0_0, .int .i64 a0_1, .slice A0_2 l0_2.length c0_2], .agg #[.int .i64 a1_0, .int .i64 a1_1, .slice A1_2 l1_2.length c1_2]] w fun e w' => e = .returned (.bool r) ∧ Below w.heap.size w w' := by
 have hu47 := Try.underlying47
 have HR0_2 := Aside0.mk hr0_2
 have HC0_2 := Aside0.mk hc0_2
 clear hr0_2 hc0_2
 have HR1_2 := Aside0.mk hr1_2
 have HC1_2 := Aside0.mk hc1_2
 clear hr1_2 hc1_2
 have HB := Aside0.mk (Below.refl w.heap.size w)
 have H := h
 unfold laws_eqCall.f at H
 clear h
 by_cases c3 : a0_0 = a1_0
 rotate_left
 ·rw [if_neg c3] at H
  have c3b0 : (a0_0 == a1_0) = false := beq_eq_false_iff_ne.mpr c3
  have c3b1 : (a0_0 != a1_0) = true := bne_iff_ne.mpr c3
  obtain rfl := Option.some.inj H
  go_enter Try.func94, Try.ntmps94
  go_wp2_with (first | ((with_reducible refine gate_dst (N := 2) rfl ?_); refine bx_ 2 47 #[.int .i64 a0_0, .int .i64 a0_1, .slice A0_2 l0_2.length c0_2] ?_; intro gb409 hg w24 hbox hb; have BK409 := Aside0.mk (hbox); have GW409 := Aside0.mk ((hz_ : w.heap.size ≤ gb409)); have GE409 := Aside0.mk ((hz_ : w.heap.size ≤ gb409)); replace HB := Aside0.mk (below_step bl_ hb); clear hb hbox hg) | ((with_reducible refine gate_dst (N := 3) rfl ?_); refine bx_ 3 47 #[.int .i64 a1_0, .int .i64 a1_1, .slice A1_2 l1_2.length c1_2] ?_; intro gb410 hg w25 hbox hb; have BK410 := Aside0.mk (hbox); have GW410 := Aside0.mk ((hz_ : w.heap.size ≤ gb410)); have GE410 := Aside0.mk ((hz_ : w.heap.size ≤ gb410)); replace HB := Aside0.mk (below_step bl_ hb); have NB409_410 := Aside0.mk ((by rw [hg]; exact Nat.ne_of_lt (blk_lt (g := gb409) (o := .cells #[.int .i64 a0_0, .int .i64 a0_1, .slice A0_2 l0_2.length c0_2] 47 (0, 0)) (bk_ BK409.out)) : gb409 ≠ gb410)); have NB410_409 := Aside0.mk ((by rw [hg]; exact Nat.ne_of_gt (blk_lt (g := gb409) (o := .cells #[.int .i64 a0_0, .int .i64 a0_1, .slice A0_2 l0_2.length c0_2] 47 (0, 0)) (bk_ BK409.out)) : gb410 ≠ gb409)); replace BK409 := Aside0.mk (blk_below (bn0_ BK409.out) hb); clear hb hbox hg; have hnb26 := NB409_410.out; have hnc26 := NB410_409.out; obtain ⟨hcz27_0, hcz27_1, hcz27_2, hfz27_0, hfz27_1, hfz27_2⟩ := cf3_ BK409.out; obtain ⟨hcz28_0, hcz28_1, hcz28_2, hfz28_0, hfz28_1, hfz28_2⟩ := cf3_ BK410.out))
  go_ret
  exact ⟨er_, bl_⟩
 rw [if_pos c3] at H
 have c3b0 : (a0_0 == a1_0) = true := beq_iff_eq.mpr c3
 have c3b1 : (a0_0 != a1_0) = false := bne_eq_false_iff_eq.mpr c3
 clear c3
 by_cases c4 : a0_1 = a1_1
 rotate_left
 ·rw [if_neg c4] at H
  have c4b0 : (a0_1 == a1_1) = false := beq_eq_false_iff_ne.mpr c4
  have c4b1 : (a0_1 != a1_1) = true := bne_iff_ne.mpr c4
  obtain rfl := Option.some.inj H
  go_enter Try.func94, Try.ntmps94
  go_wp2_with (first | ((with_reducible refine gate_dst (N := 2) rfl ?_); refine bx_ 2 47 #[.int .i64 a0_0, .int .i64 a0_1, .slice A0_2 l0_2.length c0_2] ?_; intro gb409 hg w19 hbox hb; have BK409 := Aside0.mk (hbox); have GW409 := Aside0.mk ((hz_ : w.heap.size ≤ gb409)); have GE409 := Aside0.mk ((hz_ : w.heap.size ≤ gb409)); replace HB := Aside0.mk (below_step bl_ hb); clear hb hbox hg) | ((with_reducible refine gate_dst (N := 3) rfl ?_); refine bx_ 3 47 #[.int .i64 a1_0, .int .i64 a1_1, .slice A1_2 l1_2.length c1_2] ?_; intro gb410 hg w20 hbox hb; have BK410 := Aside0.mk (hbox); have GW410 := Aside0.mk ((hz_ : w.heap.size ≤ gb410)); have GE410 := Aside0.mk ((hz_ : w.heap.size ≤ gb410)); replace HB := Aside0.mk (below_step bl_ hb); have NB409_410 := Aside0.mk ((by rw [hg]; exact Nat.ne_of_lt (blk_lt (g := gb409) (o := .cells #[.int .i64 a0_0, .int .i64 a0_1, .slice A0_2 l0_2.length c0_2] 47 (0, 0)) (bk_ BK409.out)) : gb409 ≠ gb410)); have NB410_409 := Aside0.mk ((by rw [hg]; exact Nat.ne_of_gt (blk_lt (g := gb409) (o := .cells #[.int .i64 a0_0, .int .i64 a0_1, .slice A0_2 l0_2.length c0_2] 47 (0, 0)) (bk_ BK409.out)) : gb410 ≠ gb409)); replace BK409 := Aside0.mk (blk_below (bn0_ BK409.out) hb); clear hb hbox hg; have hnb21 := NB409_410.out; have hnc21 := NB410_409.out; obtain ⟨hcz22_0, hcz22_1, hcz22_2, hfz22_0, hfz22_1, hfz22_2⟩ := cf3_ BK409.out; obtain ⟨hcz23_0, hcz23_1, hcz23_2, hfz23_0, hfz23_1, hfz23_2⟩ := cf3_ BK410.out))
  go_ret
  exact ⟨er_, bl_⟩
 rw [if_pos c4] at H
 have c4b0 : (a0_1 == a1_1) = true := beq_iff_eq.mpr c4
 have c4b1 : (a0_1 != a1_1) = false := bne_eq_false_iff_eq.mpr c4
 clear c4
 replace H := bs_ H
 obtain ⟨t411, A5, H⟩ := H
 try dsimp only at H
 by_cases c6 : t411 = true
 ·subst c6
  rw [if_pos rfl] at H
  obtain rfl := Option.some.inj H
  go_enter Try.func94, Try.ntmps94
  go_wp2_with (first | ((with_reducible refine gate_dst (N := 2) rfl ?_); refine bx_ 2 47 #[.int .i64 a0_0, .int .i64 a0_1, .slice A0_2 l0_2.length c0_2] ?_; intro gb409 hg w7 hbox hb; have BK409 := Aside0.mk (hbox); have GW409 := Aside0.mk ((hz_ : w.heap.size ≤ gb409)); have GE409 := Aside0.mk ((hz_ : w.heap.size ≤ gb409)); replace HB := Aside0.mk (below_step bl_ hb); clear hb hbox hg) | ((with_reducible refine gate_dst (N := 3) rfl ?_); refine bx_ 3 47 #[.int .i64 a1_0, .int .i64 a1_1, .slice A1_2 l1_2.length c1_2] ?_; intro gb410 hg w8 hbox hb; have BK410 := Aside0.mk (hbox); have GW410 := Aside0.mk ((hz_ : w.heap.size ≤ gb410)); have GE410 := Aside0.mk ((hz_ : w.heap.size ≤ gb410)); replace HB := Aside0.mk (below_step bl_ hb); have NB409_410 := Aside0.mk ((by rw [hg]; exact Nat.ne_of_lt (blk_lt (g := gb409) (o := .cells #[.int .i64 a0_0, .int .i64 a0_1, .slice A0_2 l0_2.length c0_2] 47 (0, 0)) (bk_ BK409.out)) : gb409 ≠ gb410)); have NB410_409 := Aside0.mk ((by rw [hg]; exact Nat.ne_of_gt (blk_lt (g := gb409) (o := .cells #[.int .i64 a0_0, .int .i64 a0_1, .slice A0_2 l0_2.length c0_2] 47 (0, 0)) (bk_ BK409.out)) : gb410 ≠ gb409)); replace BK409 := Aside0.mk (blk_below (bn0_ BK409.out) hb); clear hb hbox hg; have hnb9 := NB409_410.out; have hnc9 := NB410_409.out; obtain ⟨hcz10_0, hcz10_1, hcz10_2, hfz10_0, hfz10_1, hfz10_2⟩ := cf3_ BK409.out; obtain ⟨hcz11_0, hcz11_1, hcz11_2, hfz11_0, hfz11_1, hfz11_2⟩ := cf3_ BK410.out) | ((with_reducible refine gate_callee (f := 119) rfl ?_); refine gs_ (some 19) Try.func119 #[.slice A0_2 l0_2.length c0_2, .slice A1_2 l1_2.length c1_2] ?_; (with_reducible refine (laws_eqWideS.calls k _ _ l0_2 _ _ l1_2 true _ ?side1 ?side2 ?side3 ?side4 A5.out).mono ?_); (case side1 => exact cb_ HR0_2.out HB.out); (case side2 => exact HC0_2.out); (case side3 => exact cb_ HR1_2.out HB.out); (case side4 => exact HC1_2.out); rintro e w12 ⟨rfl, hb⟩; refine ⟨_, rfl, ?_⟩; replace BK409 := Aside0.mk (blk_below (bn0_ BK409.out) hb); replace BK410 := Aside0.mk (blk_below (bn0_ BK410.out) hb); replace HB := Aside0.mk (below_step bl_ hb); (try clear hb)))
  go_ret
  exact ⟨er_, bl_⟩
 replace c6 := Bool.eq_false_iff.mpr c6
 subst c6
 rw [nf_] at H
 obtain rfl := Option.some.inj H
 go_enter Try.func94, Try.ntmps94
 go_wp2_with (first | ((with_reducible refine gate_dst (N := 2) rfl ?_); refine bx_ 2 47 #[.int .i64 a0_0, .int .i64 a0_1, .slice A0_2 l0_2.length c0_2] ?_; intro gb409 hg w13 hbox hb; have BK409 := Aside0.mk (hbox); have GW409 := Aside0.mk ((hz_ : w.heap.size ≤ gb409)); have GE409 := Aside0.mk ((hz_ : w.heap.size ≤ gb409)); replace HB := Aside0.mk (below_step bl_ hb); clear hb hbox hg) | ((with_reducible refine gate_dst (N := 3) rfl ?_); refine bx_ 3 47 #[.int .i64 a1_0, .int .i64 a1_1, .slice A1_2 l1_2.length c1_2] ?_; intro gb410 hg w14 hbox hb; have BK410 := Aside0.mk (hbox); have GW410 := Aside0.mk ((hz_ : w.heap.size ≤ gb410)); have GE410 := Aside0.mk ((hz_ : w.heap.size ≤ gb410)); replace HB := Aside0.mk (below_step bl_ hb); have NB409_410 := Aside0.mk ((by rw [hg]; exact Nat.ne_of_lt (blk_lt (g := gb409) (o := .cells #[.int .i64 a0_0, .int .i64 a0_1, .slice A0_2 l0_2.length c0_2] 47 (0, 0)) (bk_ BK409.out)) : gb409 ≠ gb410)); have NB410_409 := Aside0.mk ((by rw [hg]; exact Nat.ne_of_gt (blk_lt (g := gb409) (o := .cells #[.int .i64 a0_0, .int .i64 a0_1, .slice A0_2 l0_2.length c0_2] 47 (0, 0)) (bk_ BK409.out)) : gb410 ≠ gb409)); replace BK409 := Aside0.mk (blk_below (bn0_ BK409.out) hb); clear hb hbox hg; have hnb15 := NB409_410.out; have hnc15 := NB410_409.out; obtain ⟨hcz16_0, hcz16_1, hcz16_2, hfz16_0, hfz16_1, hfz16_2⟩ := cf3_ BK409.out; obtain ⟨hcz17_0, hcz17_1, hcz17_2, hfz17_0, hfz17_1, hfz17_2⟩ := cf3_ BK410.out) | ((with_reducible refine gate_callee (f := 119) rfl ?_); refine gs_ (some 19) Try.func119 #[.slice A0_2 l0_2.length c0_2, .slice A1_2 l1_2.length c1_2] ?_; (with_reducible refine (laws_eqWideS.calls k _ _ l0_2 _ _ l1_2 false _ ?side1 ?side2 ?side3 ?side4 A5.out).mono ?_); (case side1 => exact cb_ HR0_2.out HB.out); (case side2 => exact HC0_2.out); (case side3 => exact cb_ HR1_2.out HB.out); (case side4 => exact HC1_2.out); rintro e w18 ⟨rfl, hb⟩; refine ⟨_, rfl, ?_⟩; replace BK409 := Aside0.mk (blk_below (bn0_ BK409.out) hb); replace BK410 := Aside0.mk (blk_below (bn0_ BK410.out) hb); replace HB := Aside0.mk (below_step bl_ hb); (try clear hb)))
 go_ret
 exact ⟨er_, bl_⟩

end Go.Proofs.Ytjfmpodeenidnaa.PA
