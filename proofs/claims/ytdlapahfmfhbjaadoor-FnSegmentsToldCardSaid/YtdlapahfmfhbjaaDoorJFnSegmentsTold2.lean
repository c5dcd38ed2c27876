/- Contracts of functions of the program and of the reference, and plain lemmas on what they compute: a part of the proof of the law FnSegmentsTold. No condition. -/
import Derived.Test.YtdlapahfmfhbjaaDoorG523dfx0
import Derived.Test.YtdlapahfmfhbjaaDoorG523dfx1
import Derived.Test.YtdlapahfmfhbjaaDoorJFnSegmentsTold1
import Derived.Test.YtdlapahfmfhbjaaDoorGe902ex0
import Derived.Test.YtdlapahfmfhbjaaDoorShortV
set_option maxHeartbeats 8000000
set_option maxRecDepth 100000
namespace Go.Proofs.YtdlapahfmfhbjaaDoor.PA
open Go.RowKit Go.Proofs.YtdlapahfmfhbjaaDoor.Short Go.Proofs.YtdlapahfmfhbjaaDoorW.PrintWords Go.Proofs.YtdlapahfmfhbjaaDoorW.PrintLast Go.Proofs.YtdlapahfmfhbjaaDoorW.PrintMore
attribute [local go_sem] max2_int min2_int max_two min_two max_three min_three max_four min_four   -- for this text's walks alone
set_option linter.unusedVariables false
set_option linter.unusedSimpArgs false

def spec_l28Any.f (k : Nat) (s0_0 : List Int) (s0_1 : Int) (s0_2 : Int) : Option ((List (S58)) × Int × Int) := (spec_l01Below.f s0_0 s0_1 s0_2 8).bind fun bt997 => ((spec_l28Segments.f k s0_0 bt997.2.1 bt997.2.2).bind fun bt1000 => (if (bt1000.1.length : Int) = 0 then (some (bt1000.1, bt1000.2.1, bt1000.2.2)) else ((spec_l01Below.f s0_0 bt1000.2.1 bt1000.2.2 (bt1000.1.length : Int)).bind fun bt1005 => (if bt997.1 = 0 then ((spec_l01PickInt.f s0_0 bt1005.2.1 bt1005.2.2 (([(-1), 201, 3] : List Int))).bind fun bt1011 => (if 0 ≤ bt1005.1 then (if bt1005.1 < (bt1000.1.length : Int) then (some ((bt1000.1.set (bt1005.1 : Int).toNat (⟨bt1011.1, (rd_T58 bt1000.1 bt1005.1).f1, (rd_T58 bt1000.1 bt1005.1).f2, (rd_T58 bt1000.1 bt1005.1).f3⟩ : S58)), bt1011.2.1, bt1011.2.2)) else (none)) else (none))) else (if bt997.1 = 1 then ((spec_Digest.f (⟨#[122]⟩ : ByteArray)).bind fun t1015 => (if 0 ≤ bt1005.1 then (if bt1005.1 < (bt1000.1.length : Int) then (some ((bt1000.1.set (bt1005.1 : Int).toNat (⟨(rd_T58 bt1000.1 bt1005.1).f0, t1015, (rd_T58 bt1000.1 bt1005.1).f2, (rd_T58 bt1000.1 bt1005.1).f3⟩ : S58)), bt1005.2.1, bt1005.2.2)) else (none)) else (none))) else (if bt997.1 = 2 then (if 0 ≤ bt1005.1 then (if bt1005.1 < (bt1000.1.length : Int) then (some ((bt1000.1.set (bt1005.1 : Int).toNat (⟨(rd_T58 bt1000.1 bt1005.1).f0, (rd_T58 bt1000.1 bt1005.1).f1, (rd_T58 bt1000.1 bt1005.1).f2, (⟨#[115, 104, 111, 114, 116]⟩ : ByteArray)⟩ : S58)), bt1005.2.1, bt1005.2.2)) else (none)) else (none)) else (if bt997.1 = 3 then (if 0 ≤ bt1005.1 then (if bt1005.1 ≤ (bt1000.1.length : Int) then (if 0 ≤ (wrap64 (bt1005.1 + 1)) then (if (wrap64 (bt1005.1 + 1)) ≤ (bt1000.1.length : Int) then (some ((bt1000.1.eraseIdx (bt1005.1 : Int).toNat), bt1005.2.1, bt1005.2.2)) else (none)) else (none)) else (none)) else (none)) else (if bt997.1 = 4 then (if 0 ≤ bt1005.1 then (if bt1005.1 < (bt1000.1.length : Int) then ((spec_l28Entries.f ((rd_T58 bt1000.1 bt1005.1).f2)).bind fun t1030 => (if t1030.length < 2932031007402 then (some ((bt1000.1.set (bt1005.1 : Int).toNat (⟨(rd_T58 bt1000.1 bt1005.1).f0, (rd_T58 bt1000.1 bt1005.1).f1, (t1030 ++ [(⟨0, 0, (⟨0, 0, 0, 0⟩ : S25)⟩ : S27)]), (rd_T58 bt1000.1 bt1005.1).f3⟩ : S58)), bt1005.2.1, bt1005.2.2)) else (none))) else (none)) else (none)) else (some (bt1000.1, bt1005.2.1, bt1005.2.2))))))))))
theorem spec_l28Any.mono : ∀ a0 a1 a2 k, LeO (spec_l28Any.f k a0 a1 a2) (spec_l28Any.f (k + 1) a0 a1 a2) := by
 intro a0 a1 a2 k
 unfold spec_l28Any.f
 have m0 := @spec_l28Segments.mono
 exact mo_
def spec_l28Any.T14 : Bool × List (List Nat × List Nat) := (true, [([], []), ([], []), ([0, 1], [0, 1]), ([], []), ([], []), ([4], [4]), ([3, 5], [3, 5]), ([2, 6], [2, 6]), ([7, 7, 0, 1, 2, 3, 4, 5, 6, 7], [0, 3, 7])])
def spec_l28Any.B14 : List Nat := [0, 0, 3, 0, 0, 16, 56, 127, 255]
theorem spec_l28Any.tab14 : rtab .any (opsOf Tryd.f92 14) = spec_l28Any.T14 := by kernel_rfl
theorem spec_l28Any.bits14 : waitsOk spec_l28Any.T14.2 spec_l28Any.B14 = true := by kernel_rfl
theorem spec_l28Any.calls (k : Nat) (g : Nat) (s0_0 : List Int) (s0_1 : Int) (s0_2 : Int) (r1 : List (S58)) (r2 : Int) (r3 : Int) (w0 w : World) (hI : IsS100 w0 w g s0_0 s0_1 s0_2) (hB : Below w0.heap.size w0 w) (h : spec_l28Any.f k s0_0 s0_1 s0_2 = some (r1, r2, r3)) :
 Calls Tryd.prog 92 #[.pointer (some ⟨g, 0, none⟩)] w fun e w' => ∃ v0_ : Value, e = .returned (v0_) ∧ Kd.S k58 58 w' w.heap.size (fun _ => True) v0_ r1 ∧ IsS100 w0 w' g s0_0 r2 r3 ∧ Below w0.heap.size w0 w' ∧ KeepBut w w' g none := by
 have hu27 := Tryd.underlying27
 have HI0 := Aside0.mk hI
 have HK := Aside0.mk (KeepBut.refl w g none)
 have HL := Aside0.mk hB.size
 clear hI
 have HW0 := Aside0.mk hB.size
 have HB := Aside0.mk hB
 clear hB
 have H := h
 unfold spec_l28Any.f at H
 clear h
 replace H := bs_ H
 obtain ⟨⟨t997, t998, t999⟩, A2, H⟩ := H
 try dsimp only at H
 replace H := bs_ H
 obtain ⟨⟨t1000, t1003, t1004⟩, A3, H⟩ := H
 try dsimp only at H
 by_cases c4 : (t1000.length : Int) = 0
 ·rw [if_pos c4] at H
  have c4b0 : ((t1000.length : Int) == 0) = true := beq_iff_eq.mpr c4
  have c4b1 : ((t1000.length : Int) != 0) = false := bne_eq_false_iff_eq.mpr c4
  clear c4
  simp only [Option.some.injEq, Prod.mk.injEq] at H
  obtain ⟨rfl, rfl, rfl⟩ := H
  go_enter Tryd.func92, Tryd.ntmps92
  go_wp2_with (first | ((with_reducible refine gate_callee (f := 64) rfl ?_); refine gs_ (some 7) Tryd.func64 #[.pointer (some ⟨g, 0, none⟩), .int .i64 8] ?_; (with_reducible refine (spec_l01Below.calls g s0_0 s0_1 s0_2 8 t997 t998 t999 w0 _ ?side1 ?side2 A2.out).mono ?_); (case side1 => exact is0_); (case side2 => exact bi0_); rintro e w5 ⟨rfl, hi, hb, hk⟩; refine ⟨_, rfl, ?_⟩; replace HK := Aside0.mk (KeepBut.trans hkx_ hk (.inl rfl)); replace HB := Aside0.mk (hb); replace HI0 := Aside0.mk (hi); (try clear hb); (try clear hk); (try clear hi)) | ((with_reducible refine gate_callee (f := 113) rfl ?_); refine gs_ (some 9) Tryd.func113 #[.pointer (some ⟨g, 0, none⟩)] ?_; (with_reducible refine (spec_l28Segments.calls k g s0_0 t998 t999 t1000 t1003 t1004 w0 _ ?side1 ?side2 A3.out).mono ?_); (case side1 => exact is0_); (case side2 => exact bi0_); rintro e w6 ⟨v1001, rfl, ho0, hi, hb, hk⟩; refine ⟨_, rfl, ?_⟩; have HO1002 := Aside0.mk (Kd.S_lower ho0 (keep_size (w := w) (g := g) (row := none) hkx_)); replace HK := Aside0.mk (KeepBut.trans hkx_ hk (.inl rfl)); replace HB := Aside0.mk (hb); replace HI0 := Aside0.mk (hi); (try clear hb); (try clear hk); (try clear hi); (try clear ho0); obtain ⟨Ao7, co7, eo7⟩ := Kd.S_slice HO1002.out; subst eo7))
  go_ret
  exact ⟨_, er_, by (with_reducible repeat (first | apply Kd.S_alloc | apply Kd.S_drewN | apply Kd.S_drew)); exact HO1002.out, is0_, bi0_, hkx_⟩
 rw [if_neg c4] at H
 have c4b0 : ((t1000.length : Int) == 0) = false := beq_eq_false_iff_ne.mpr c4
 have c4b1 : ((t1000.length : Int) != 0) = true := bne_iff_ne.mpr c4
 have c4b2 : ¬ (t1000 = []) := fun h_ => c4 (by rw [h_]; rfl)
 replace H := bs_ H
 obtain ⟨⟨t1005, t1006, t1007⟩, A8, H⟩ := H
 try dsimp only at H
 by_cases c9 : t997 = 0
 ·rw [if_pos c9] at H
  have c9b0 : (t997 == 0) = true := beq_iff_eq.mpr c9
  have c9b1 : (t997 != 0) = false := bne_eq_false_iff_eq.mpr c9
  clear c9
  obtain ⟨y1008, hy1008⟩ : ∃ y_ : List Int, y_ = (([(-1), 201, 3] : List Int)) := ⟨_, rfl⟩
  replace H : ((spec_l01PickInt.f s0_0 t1006 t1007 y1008).bind fun bt1011 => (if 0 ≤ t1005 then (if t1005 < (t1000.length : Int) then (some ((t1000.set (t1005 : Int).toNat (⟨bt1011.1, (rd_T58 t1000 t1005).f1, (rd_T58 t1000 t1005).f2, (rd_T58 t1000 t1005).f3⟩ : S58)), bt1011.2.1, bt1011.2.2)) else (none)) else (none))) = some (r1, r2, r3) := rp_ H hy1008
  have Ny1008 := Aside0.mk hy1008
  clear hy1008
  replace H := bs_ H
  obtain ⟨⟨t1011, t1012, t1013⟩, A10, H⟩ := H
  try dsimp only at H
  by_cases c11 : 0 ≤ t1005
  rotate_left
  ·exact nn_ c11 H
  rw [if_pos c11] at H
  have c11b0 := decide_eq_true c11
  clear c11
  by_cases c12 : t1005 < (t1000.length : Int)
  rotate_left
  ·exact nn_ c12 H
  rw [if_pos c12] at H
  have c12b0 := decide_eq_true c12
  clear c12
  obtain ⟨y1014, hy1014⟩ : ∃ y_ : List (S58), y_ = (t1000.set (t1005 : Int).toNat (⟨t1011, (rd_T58 t1000 t1005).f1, (rd_T58 t1000 t1005).f2, (rd_T58 t1000 t1005).f3⟩ : S58)) := ⟨_, rfl⟩
  replace H : (some (y1014, t1012, t1013)) = some (r1, r2, r3) := rp_ H hy1014
  have Ny1014 := Aside0.mk hy1014
  clear hy1014
  simp only [Option.some.injEq, Prod.mk.injEq] at H
  obtain ⟨rfl, rfl, rfl⟩ := H
  go_enter Tryd.func92, Tryd.ntmps92
  go_wp2_with (first | ((with_reducible refine gate_callee (f := 64) rfl ?_); refine gs_ (some 7) Tryd.func64 #[.pointer (some ⟨g, 0, none⟩), .int .i64 8] ?_; (with_reducible refine (spec_l01Below.calls g s0_0 s0_1 s0_2 8 t997 t998 t999 w0 _ ?side1 ?side2 A2.out).mono ?_); (case side1 => exact is0_); (case side2 => exact bi0_); rintro e w14 ⟨rfl, hi, hb, hk⟩; refine ⟨_, rfl, ?_⟩; replace HK := Aside0.mk (KeepBut.trans hkx_ hk (.inl rfl)); replace HB := Aside0.mk (hb); replace HI0 := Aside0.mk (hi); (try clear hb); (try clear hk); (try clear hi)) | ((with_reducible refine gate_callee (f := 113) rfl ?_); refine gs_ (some 9) Tryd.func113 #[.pointer (some ⟨g, 0, none⟩)] ?_; (with_reducible refine (spec_l28Segments.calls k g s0_0 t998 t999 t1000 t1003 t1004 w0 _ ?side1 ?side2 A3.out).mono ?_); (case side1 => exact is0_); (case side2 => exact bi0_); rintro e w15 ⟨v1001, rfl, ho0, hi, hb, hk⟩; refine ⟨_, rfl, ?_⟩; have HO1002 := Aside0.mk (Kd.S_lower ho0 (keep_size (w := w) (g := g) (row := none) hkx_)); replace HK := Aside0.mk (KeepBut.trans hkx_ hk (.inl rfl)); replace HB := Aside0.mk (hb); replace HI0 := Aside0.mk (hi); (try clear hb); (try clear hk); (try clear hi); (try clear ho0); obtain ⟨Ao16, co16, eo16⟩ := Kd.S_slice HO1002.out; subst eo16) | ((with_reducible refine gate_callee (f := 64) rfl ?_); refine gs_ (some 17) Tryd.func64 #[.pointer (some ⟨g, 0, none⟩), .int .i64 (t1000.length : Int)] ?_; (with_reducible refine (spec_l01Below.calls g s0_0 t1003 t1004 (t1000.length : Int) t1005 t1006 t1007 w0 _ ?side1 ?side2 A8.out).mono ?_); (case side1 => exact is0_); (case side2 => exact bi0_); rintro e w17 ⟨rfl, hi, hb, hk⟩; refine ⟨_, rfl, ?_⟩; replace HO1002 := Aside0.mk (Kd.S_mono (Kd.S_keep (IsS100.apartS (show IsS100 w0 _ g s0_0 t1003 t1004 from is0_) (by (with_reducible repeat (first | apply Kd.S_alloc | apply Kd.S_drewN | apply Kd.S_drew)); exact HO1002.out) (by decide)) hk (fun _ h => h.2)) (fun _ h => h.1)); replace HK := Aside0.mk (KeepBut.trans hkx_ hk (.inl rfl)); replace HB := Aside0.mk (hb); replace HI0 := Aside0.mk (hi); (try clear hb); (try clear hk); (try clear hi)) | ((with_reducible refine gate_dst (N := 24) rfl ?_); refine Kd.R_lit (Kd.int .i64) _ 3 ?hg (N := 24) ?hd (xs := ([(-1), 201, 3] : List Int)) (inner := [.int .i64 (-1), .int .i64 201, .int .i64 3]) (ok := fun _ => True) (okp := fun _ => True) ?hr ?hp (fun _ hk => hk) trivial (Below.refl _ _) (Nat.le_refl _) (by simp) ?_; (case hd => rfl); (case hg => rfl); (case hr => first | (go_simp; done) | (go_simp; rfl)); (case hp => exact (Reps.one (show Kd.M (Kd.int .i64) _ _ _ (-1) [.int .i64 (-1)] from rfl) (Reps.one (show Kd.M (Kd.int .i64) _ _ _ 201 [.int .i64 201] from rfl) (Reps.one (show Kd.M (Kd.int .i64) _ _ _ 3 [.int .i64 3] from rfl) (Reps.none _ _))))); intro v1009 w18 ho19 hb hg_ hnew_; clear hg_ hnew_; (first | rw [← Ny1008.out] at ho19 | (simp only [Int.reduceToNat] at ho19; rw [← Ny1008.out] at ho19)); replace HO1002 := Aside0.mk (Kd.S_below (by (with_reducible repeat (first | apply Kd.S_alloc | apply Kd.S_drewN | apply Kd.S_drew)); exact HO1002.out) hb); have HO1010 := Aside0.mk (Kd.R_lower ho19 (keep_size (w := w) (g := g) (row := none) hkx_)); replace HK := Aside0.mk (KeepBut.trans hkx_ (KeepBut.of_below hb g none) (.inl rfl)); replace HB := Aside0.mk (below_step bi0_ hb); replace HI0 := Aside0.mk (IsS100.below is0_ hb); clear hb ho19; obtain ⟨Ao20, co20, eo20⟩ := Kd.R_slice HO1010.out; subst eo20) | ((with_reducible refine gate_callee (f := 81) rfl ?_); refine gs_ (some 25) Tryd.func81 #[.pointer (some ⟨g, 0, none⟩), .slice Ao20 y1008.length co20] ?_; (with_reducible refine (spec_l01PickInt.calls g s0_0 t1006 t1007 _ _ y1008 t1011 t1012 t1013 w0 _ ?side1 ?side2 ?side3 ?side4 ?side5 A10.out).mono ?_); (case side1 => exact is0_); (case side2 => exact bi0_); (case side3 => exact cs_ ((Kd.R_reads' HO1010.out).2.2)); (case side4 => exact (Kd.R_reads' HO1010.out).2.1); (case side5 => exact far_slice (IsS100.own_ne HI0.out HO1010.out (by decide))); rintro e w21 ⟨rfl, hi, hb, hk⟩; refine ⟨_, rfl, ?_⟩; replace HO1002 := Aside0.mk (Kd.S_mono (Kd.S_keep (IsS100.apartS (show IsS100 w0 _ g s0_0 t1006 t1007 from is0_) (by (with_reducible repeat (first | apply Kd.S_alloc | apply Kd.S_drewN | apply Kd.S_drew)); exact HO1002.out) (by decide)) hk (fun _ h => h.2)) (fun _ h => h.1)); replace HO1010 := Aside0.mk (Kd.R_mono (Kd.R_keep (IsS100.apart (show IsS100 w0 _ g s0_0 t1006 t1007 from is0_) (ra_ HO1010.out) (by decide)) hk (fun _ h => h.2)) (fun _ h => h.1)); replace HK := Aside0.mk (KeepBut.trans hkx_ hk (.inl rfl)); replace HB := Aside0.mk (hb); replace HI0 := Aside0.mk (hi); (try clear hb); (try clear hk); (try clear hi); have p13 : 0 ≤ (t1005 : Int) := of_decide_eq_true as_; have q13 : (t1005 : Int) < ((t1000.length : Int) : Int) := of_decide_eq_true as_; obtain ⟨go13, co13, eo13, gb13, gl13, cl13, HG13⟩ := Kd.S_form HO1002.out (by omega); (first | cases eo13 | (injection eo13 with ea_ en_ ec_; (first | subst ea_ | (injection ea_ with ea_; subst ea_)); subst ec_; clear en_)); have GB13 := Aside0.mk gb13; have GG13 := Aside0.mk HG13; clear gb13 gl13 HG13; obtain ⟨_, ce13, hcl13, hM13, hcc13, hfr13, _, _⟩ := Kd.S_elem HO1002.out z58 (t1005 : Int) p13 q13; obtain ⟨ve13_2, rfl, ge13_2⟩ := k58_openM hM13; have hx13_0 : w21.cell? ⟨go13, (t1005 : Int).toNat * 4, none⟩ = some (.int .i64 ((rd_T58 t1000 t1005).f0)) := hcc13 0 _ rfl; have hx13_1 : w21.cell? ⟨go13, (t1005 : Int).toNat * 4 + 1, none⟩ = some (.string ((rd_T58 t1000 t1005).f1)) := hcc13 1 _ rfl; have hx13_2 : w21.cell? ⟨go13, (t1005 : Int).toNat * 4 + 2, none⟩ = some (ve13_2) := hcc13 2 _ rfl; have hx13_3 : w21.cell? ⟨go13, (t1005 : Int).toNat * 4 + 3, none⟩ = some (.string ((rd_T58 t1000 t1005).f3)) := hcc13 3 _ rfl; have hf13_0 : w21.frozen? ⟨go13, (t1005 : Int).toNat * 4, none⟩ = false := hfr13 0; have hf13_1 : w21.frozen? ⟨go13, (t1005 : Int).toNat * 4 + 1, none⟩ = false := hfr13 1; have hf13_2 : w21.frozen? ⟨go13, (t1005 : Int).toNat * 4 + 2, none⟩ = false := hfr13 2; have hf13_3 : w21.frozen? ⟨go13, (t1005 : Int).toNat * 4 + 3, none⟩ = false := hfr13 3; clear hcl13 hcc13 hfr13 hM13; replace p13 := eq_true p13; replace q13 := eq_true q13; have HX22 := Aside0.mk (show Kd.S k58 58 w21 w.heap.size (fun k_ => ((fun _ => True)) k_ ∧ ¬ ((fun _ => False)) k_) (.slice (some ⟨go13, 0, none⟩) t1000.length co16) t1000 from (by (with_reducible repeat (first | apply Kd.S_alloc | apply Kd.S_drewN | apply Kd.S_drew)); exact Kd.S_mono HO1002.out (fun k_ hk => ⟨trivial, fun e_ => e_⟩))); obtain ⟨oki22, ce22, hcl22, hM22, hcc22, hfr22, hoki22, hH22⟩ := Kd.S_elem HX22.out z58 (t1005 : Int) (of_decide_eq_true as_) (by have h_ : (t1005 : Int) < ((t1000.length : Int) : Int) := of_decide_eq_true as_; first | exact h_ | (have e_ := (Kd.S_reads' HO1002.out).1; omega) | simpa using h_); obtain ⟨ve22_2, rfl, ge22_2⟩ := k58_openM hM22; have HP22 := Kd.S_seg hH22 (of_decide_eq_true as_) (by have h_ : (t1005 : Int) < ((t1000.length : Int) : Int) := of_decide_eq_true as_; first | exact h_ | (have e_ := (Kd.S_reads' HO1002.out).1; omega) | simpa using h_) (seg := [.int .i64 t1011]) (j := 0) (show 1 ≤ 4 from by decide) (x' := (⟨t1011, (rd_T58 t1000 t1005).f1, (rd_T58 t1000 t1005).f2, (rd_T58 t1000 t1005).f3⟩ : S58)) (k58_mkM _ _ _ (⟨t1011, (rd_T58 t1000 t1005).f1, (rd_T58 t1000 t1005).f2, (rd_T58 t1000 t1005).f3⟩ : S58) (Kd.R_mono ge22_2 (fun _ h_ => Or.inl h_))) (fun _ hk => hk) (fun k_ hk_ => hk_.elim); have hx22_0 := hcc22 0 _ rfl; (try simp only [show (k58).sz = 4 from rfl, Nat.mul_one, Nat.add_zero] at hx22_0); have hf22_0 := hfr22 0; (try simp only [show (k58).sz = 4 from rfl, Nat.mul_one, Nat.add_zero] at hf22_0); clear hcl22 hcc22 hfr22 hM22 hoki22 hH22) | ((with_reducible refine gate_store (t := 3) (p := 27) rfl ?_); refine store_event (t := 3) (p := 27) (v := ?vo_w23) (w1 := (w21.setCell ⟨go13, (t1005 : Int).toNat * 4, none⟩ (.int .i64 t1011))) ?hg ?ho ?hn ?hr ?_; (case ho => rfl); (case hg => rfl); (case hn => rfl); (case hr => first | (go_simp; done) | (go_simp; rfl)); intro w23 hw; have hg : w21.grownBy w23 (some go13) := (by rw [hw]; exact HP22.2); have hp_ : Kd.S k58 58 w23 w.heap.size (fun _ => True) (.slice (some ⟨go13, 0, none⟩) t1000.length co16) y1014 := (by rw [hw, Ny1014.out]; exact HP22.1); clear HP22; replace HI0 := Aside0.mk (IsS100.grown (show IsS100 w0 _ g s0_0 t1012 t1013 from is0_) hg (IsS100.own_neS HI0.out HO1002.out (by decide))); replace HO1010 := Aside0.mk (Kd.R_over' (v := (.slice (some ⟨go13, 0, none⟩) t1000.length co16)) (ra_ HO1010.out) (Kd.S_typed HO1002.out) (by decide) hg); replace HB := Aside0.mk ((by rw [hw]; exact below_set (HB.out) (Nat.le_trans HL.out GB13.out) : Below w0.heap.size w0 w23)); replace HK := Aside0.mk (KeepBut.trans hkx_ (KeepBut.of_grown hg g) (Kd.S_base2 HO1002.out)); replace HO1002 := Aside0.mk (hp_); clear hg hw hp_))
  go_ret
  exact ⟨_, er_, by (with_reducible repeat (first | apply Kd.S_alloc | apply Kd.S_drewN | apply Kd.S_drew)); exact HO1002.out, is0_, bi0_, hkx_⟩
 rw [if_neg c9] at H
 have c9b0 : (t997 == 0) = false := beq_eq_false_iff_ne.mpr c9
 have c9b1 : (t997 != 0) = true := bne_iff_ne.mpr c9
 by_cases c24 : t997 = 1
 ·rw [if_pos c24] at H
  have c24b0 : (t997 == 1) = true := beq_iff_eq.mpr c24
  have c24b1 : (t997 != 1) = false := bne_eq_false_iff_eq.mpr c24
  clear c24
  replace H := bs_ H
  obtain ⟨t1015, A25, H⟩ := H
  try dsimp only at H
  by_cases c26 : 0 ≤ t1005
  rotate_left
  ·exact nn_ c26 H
  rw [if_pos c26] at H
  have c26b0 := decide_eq_true c26
  clear c26
  by_cases c27 : t1005 < (t1000.length : Int)
  rotate_left
  ·exact nn_ c27 H
  rw [if_pos c27] at H
  have c27b0 := decide_eq_true c27
  clear c27
  obtain ⟨y1016, hy1016⟩ : ∃ y_ : List (S58), y_ = (t1000.set (t1005 : Int).toNat (⟨(rd_T58 t1000 t1005).f0, t1015, (rd_T58 t1000 t1005).f2, (rd_T58 t1000 t1005).f3⟩ : S58)) := ⟨_, rfl⟩
  replace H : (some (y1016, t1006, t1007)) = some (r1, r2, r3) := rp_ H hy1016
  have Ny1016 := Aside0.mk hy1016
  clear hy1016
  simp only [Option.some.injEq, Prod.mk.injEq] at H
  obtain ⟨rfl, rfl, rfl⟩ := H
  go_enter Tryd.func92, Tryd.ntmps92
  go_wp2_with (first | ((with_reducible refine gate_callee (f := 64) rfl ?_); refine gs_ (some 7) Tryd.func64 #[.pointer (some ⟨g, 0, none⟩), .int .i64 8] ?_; (with_reducible refine (spec_l01Below.calls g s0_0 s0_1 s0_2 8 t997 t998 t999 w0 _ ?side1 ?side2 A2.out).mono ?_); (case side1 => exact is0_); (case side2 => exact bi0_); rintro e w29 ⟨rfl, hi, hb, hk⟩; refine ⟨_, rfl, ?_⟩; replace HK := Aside0.mk (KeepBut.trans hkx_ hk (.inl rfl)); replace HB := Aside0.mk (hb); replace HI0 := Aside0.mk (hi); (try clear hb); (try clear hk); (try clear hi)) | ((with_reducible refine gate_callee (f := 113) rfl ?_); refine gs_ (some 9) Tryd.func113 #[.pointer (some ⟨g, 0, none⟩)] ?_; (with_reducible refine (spec_l28Segments.calls k g s0_0 t998 t999 t1000 t1003 t1004 w0 _ ?side1 ?side2 A3.out).mono ?_); (case side1 => exact is0_); (case side2 => exact bi0_); rintro e w30 ⟨v1001, rfl, ho0, hi, hb, hk⟩; refine ⟨_, rfl, ?_⟩; have HO1002 := Aside0.mk (Kd.S_lower ho0 (keep_size (w := w) (g := g) (row := none) hkx_)); replace HK := Aside0.mk (KeepBut.trans hkx_ hk (.inl rfl)); replace HB := Aside0.mk (hb); replace HI0 := Aside0.mk (hi); (try clear hb); (try clear hk); (try clear hi); (try clear ho0); obtain ⟨Ao31, co31, eo31⟩ := Kd.S_slice HO1002.out; subst eo31) | ((with_reducible refine gate_callee (f := 64) rfl ?_); refine gs_ (some 17) Tryd.func64 #[.pointer (some ⟨g, 0, none⟩), .int .i64 (t1000.length : Int)] ?_; (with_reducible refine (spec_l01Below.calls g s0_0 t1003 t1004 (t1000.length : Int) t1005 t1006 t1007 w0 _ ?side1 ?side2 A8.out).mono ?_); (case side1 => exact is0_); (case side2 => exact bi0_); rintro e w32 ⟨rfl, hi, hb, hk⟩; refine ⟨_, rfl, ?_⟩; replace HO1002 := Aside0.mk (Kd.S_mono (Kd.S_keep (IsS100.apartS (show IsS100 w0 _ g s0_0 t1003 t1004 from is0_) (by (with_reducible repeat (first | apply Kd.S_alloc | apply Kd.S_drewN | apply Kd.S_drew)); exact HO1002.out) (by decide)) hk (fun _ h => h.2)) (fun _ h => h.1)); replace HK := Aside0.mk (KeepBut.trans hkx_ hk (.inl rfl)); replace HB := Aside0.mk (hb); replace HI0 := Aside0.mk (hi); (try clear hb); (try clear hk); (try clear hi)) | ((with_reducible refine gate_callee (f := 65) rfl ?_); refine gs_ (some 32) Tryd.func65 #[.string (⟨#[122]⟩ : ByteArray)] ?_; (with_reducible refine (spec_Digest.calls (⟨#[122]⟩ : ByteArray) t1015 _ A25.out).mono ?_); rintro e w33 ⟨rfl, hb⟩; refine ⟨_, rfl, ?_⟩; replace HO1002 := Aside0.mk (Kd.S_below (by (with_reducible repeat (first | apply Kd.S_alloc | apply Kd.S_drewN | apply Kd.S_drew)); exact HO1002.out) hb); replace HK := Aside0.mk (KeepBut.trans hkx_ (KeepBut.of_below hb g none) (.inl rfl)); replace HB := Aside0.mk (below_step bi0_ hb); replace HI0 := Aside0.mk (IsS100.below is0_ hb); (try clear hb); have p28 : 0 ≤ (t1005 : Int) := of_decide_eq_true as_; have q28 : (t1005 : Int) < ((t1000.length : Int) : Int) := of_decide_eq_true as_; obtain ⟨go28, co28, eo28, gb28, gl28, cl28, HG28⟩ := Kd.S_form HO1002.out (by omega); (first | cases eo28 | (injection eo28 with ea_ en_ ec_; (first | subst ea_ | (injection ea_ with ea_; subst ea_)); subst ec_; clear en_)); have GB28 := Aside0.mk gb28; have GG28 := Aside0.mk HG28; clear gb28 gl28 HG28; obtain ⟨_, ce28, hcl28, hM28, hcc28, hfr28, _, _⟩ := Kd.S_elem HO1002.out z58 (t1005 : Int) p28 q28; obtain ⟨ve28_2, rfl, ge28_2⟩ := k58_openM hM28; have hx28_0 : w33.cell? ⟨go28, (t1005 : Int).toNat * 4, none⟩ = some (.int .i64 ((rd_T58 t1000 t1005).f0)) := hcc28 0 _ rfl; have hx28_1 : w33.cell? ⟨go28, (t1005 : Int).toNat * 4 + 1, none⟩ = some (.string ((rd_T58 t1000 t1005).f1)) := hcc28 1 _ rfl; have hx28_2 : w33.cell? ⟨go28, (t1005 : Int).toNat * 4 + 2, none⟩ = some (ve28_2) := hcc28 2 _ rfl; have hx28_3 : w33.cell? ⟨go28, (t1005 : Int).toNat * 4 + 3, none⟩ = some (.string ((rd_T58 t1000 t1005).f3)) := hcc28 3 _ rfl; have hf28_0 : w33.frozen? ⟨go28, (t1005 : Int).toNat * 4, none⟩ = false := hfr28 0; have hf28_1 : w33.frozen? ⟨go28, (t1005 : Int).toNat * 4 + 1, none⟩ = false := hfr28 1; have hf28_2 : w33.frozen? ⟨go28, (t1005 : Int).toNat * 4 + 2, none⟩ = false := hfr28 2; have hf28_3 : w33.frozen? ⟨go28, (t1005 : Int).toNat * 4 + 3, none⟩ = false := hfr28 3; clear hcl28 hcc28 hfr28 hM28; replace p28 := eq_true p28; replace q28 := eq_true q28; have HX34 := Aside0.mk (show Kd.S k58 58 w33 w.heap.size (fun k_ => ((fun _ => True)) k_ ∧ ¬ ((fun _ => False)) k_) (.slice (some ⟨go28, 0, none⟩) t1000.length co31) t1000 from (by (with_reducible repeat (first | apply Kd.S_alloc | apply Kd.S_drewN | apply Kd.S_drew)); exact Kd.S_mono HO1002.out (fun k_ hk => ⟨trivial, fun e_ => e_⟩))); obtain ⟨oki34, ce34, hcl34, hM34, hcc34, hfr34, hoki34, hH34⟩ := Kd.S_elem HX34.out z58 (t1005 : Int) (of_decide_eq_true as_) (by have h_ : (t1005 : Int) < ((t1000.length : Int) : Int) := of_decide_eq_true as_; first | exact h_ | (have e_ := (Kd.S_reads' HO1002.out).1; omega) | simpa using h_); obtain ⟨ve34_2, rfl, ge34_2⟩ := k58_openM hM34; have HP34 := Kd.S_seg hH34 (of_decide_eq_true as_) (by have h_ : (t1005 : Int) < ((t1000.length : Int) : Int) := of_decide_eq_true as_; first | exact h_ | (have e_ := (Kd.S_reads' HO1002.out).1; omega) | simpa using h_) (seg := [.string t1015]) (j := 1) (show 2 ≤ 4 from by decide) (x' := (⟨(rd_T58 t1000 t1005).f0, t1015, (rd_T58 t1000 t1005).f2, (rd_T58 t1000 t1005).f3⟩ : S58)) (k58_mkM _ _ _ (⟨(rd_T58 t1000 t1005).f0, t1015, (rd_T58 t1000 t1005).f2, (rd_T58 t1000 t1005).f3⟩ : S58) (Kd.R_mono ge34_2 (fun _ h_ => Or.inl h_))) (fun _ hk => hk) (fun k_ hk_ => hk_.elim); have hx34_1 := hcc34 1 _ rfl; (try simp only [show (k58).sz = 4 from rfl, Nat.mul_one, Nat.add_zero] at hx34_1); have hf34_1 := hfr34 1; (try simp only [show (k58).sz = 4 from rfl, Nat.mul_one, Nat.add_zero] at hf34_1); clear hcl34 hcc34 hfr34 hM34 hoki34 hH34) | ((with_reducible refine gate_store (t := 9) (p := 34) rfl ?_); refine store_event (t := 9) (p := 34) (v := ?vo_w35) (w1 := (w33.setCell ⟨go28, (t1005 : Int).toNat * 4 + 1, none⟩ (.string t1015))) ?hg ?ho ?hn ?hr ?_; (case ho => rfl); (case hg => rfl); (case hn => rfl); (case hr => first | (go_simp; done) | (go_simp; rfl)); intro w35 hw; have hg : w33.grownBy w35 (some go28) := (by rw [hw]; exact HP34.2); have hp_ : Kd.S k58 58 w35 w.heap.size (fun _ => True) (.slice (some ⟨go28, 0, none⟩) t1000.length co31) y1016 := (by rw [hw, Ny1016.out]; exact HP34.1); clear HP34; replace HI0 := Aside0.mk (IsS100.grown (show IsS100 w0 _ g s0_0 t1006 t1007 from is0_) hg (IsS100.own_neS HI0.out HO1002.out (by decide))); replace HB := Aside0.mk ((by rw [hw]; exact below_set (HB.out) (Nat.le_trans HL.out GB28.out) : Below w0.heap.size w0 w35)); replace HK := Aside0.mk (KeepBut.trans hkx_ (KeepBut.of_grown hg g) (Kd.S_base2 HO1002.out)); replace HO1002 := Aside0.mk (hp_); clear hg hw hp_))
  go_ret
  exact ⟨_, er_, by (with_reducible repeat (first | apply Kd.S_alloc | apply Kd.S_drewN | apply Kd.S_drew)); exact HO1002.out, is0_, bi0_, hkx_⟩
 rw [if_neg c24] at H
 have c24b0 : (t997 == 1) = false := beq_eq_false_iff_ne.mpr c24
 have c24b1 : (t997 != 1) = true := bne_iff_ne.mpr c24
 by_cases c36 : t997 = 2
 ·rw [if_pos c36] at H
  have c36b0 : (t997 == 2) = true := beq_iff_eq.mpr c36
  have c36b1 : (t997 != 2) = false := bne_eq_false_iff_eq.mpr c36
  clear c36
  by_cases c37 : 0 ≤ t1005
  rotate_left
  ·exact nn_ c37 H
  rw [if_pos c37] at H
  have c37b0 := decide_eq_true c37
  clear c37
  by_cases c38 : t1005 < (t1000.length : Int)
  rotate_left
  ·exact nn_ c38 H
  rw [if_pos c38] at H
  have c38b0 := decide_eq_true c38
  clear c38
  obtain ⟨y1017, hy1017⟩ : ∃ y_ : List (S58), y_ = (t1000.set (t1005 : Int).toNat (⟨(rd_T58 t1000 t1005).f0, (rd_T58 t1000 t1005).f1, (rd_T58 t1000 t1005).f2, (⟨#[115, 104, 111, 114, 116]⟩ : ByteArray)⟩ : S58)) := ⟨_, rfl⟩
  replace H : (some (y1017, t1006, t1007)) = some (r1, r2, r3) := rp_ H hy1017
  have Ny1017 := Aside0.mk hy1017
  clear hy1017
  simp only [Option.some.injEq, Prod.mk.injEq] at H
  obtain ⟨rfl, rfl, rfl⟩ := H
  go_enter Tryd.func92, Tryd.ntmps92
  go_wp2_with (first | ((with_reducible refine gate_callee (f := 64) rfl ?_); refine gs_ (some 7) Tryd.func64 #[.pointer (some ⟨g, 0, none⟩), .int .i64 8] ?_; (with_reducible refine (spec_l01Below.calls g s0_0 s0_1 s0_2 8 t997 t998 t999 w0 _ ?side1 ?side2 A2.out).mono ?_); (case side1 => exact is0_); (case side2 => exact bi0_); rintro e w40 ⟨rfl, hi, hb, hk⟩; refine ⟨_, rfl, ?_⟩; replace HK := Aside0.mk (KeepBut.trans hkx_ hk (.inl rfl)); replace HB := Aside0.mk (hb); replace HI0 := Aside0.mk (hi); (try clear hb); (try clear hk); (try clear hi)) | ((with_reducible refine gate_callee (f := 113) rfl ?_); refine gs_ (some 9) Tryd.func113 #[.pointer (some ⟨g, 0, none⟩)] ?_; (with_reducible refine (spec_l28Segments.calls k g s0_0 t998 t999 t1000 t1003 t1004 w0 _ ?side1 ?side2 A3.out).mono ?_); (case side1 => exact is0_); (case side2 => exact bi0_); rintro e w41 ⟨v1001, rfl, ho0, hi, hb, hk⟩; refine ⟨_, rfl, ?_⟩; have HO1002 := Aside0.mk (Kd.S_lower ho0 (keep_size (w := w) (g := g) (row := none) hkx_)); replace HK := Aside0.mk (KeepBut.trans hkx_ hk (.inl rfl)); replace HB := Aside0.mk (hb); replace HI0 := Aside0.mk (hi); (try clear hb); (try clear hk); (try clear hi); (try clear ho0); obtain ⟨Ao42, co42, eo42⟩ := Kd.S_slice HO1002.out; subst eo42) | ((with_reducible refine gate_callee (f := 64) rfl ?_); refine gs_ (some 17) Tryd.func64 #[.pointer (some ⟨g, 0, none⟩), .int .i64 (t1000.length : Int)] ?_; (with_reducible refine (spec_l01Below.calls g s0_0 t1003 t1004 (t1000.length : Int) t1005 t1006 t1007 w0 _ ?side1 ?side2 A8.out).mono ?_); (case side1 => exact is0_); (case side2 => exact bi0_); rintro e w43 ⟨rfl, hi, hb, hk⟩; refine ⟨_, rfl, ?_⟩; replace HO1002 := Aside0.mk (Kd.S_mono (Kd.S_keep (IsS100.apartS (show IsS100 w0 _ g s0_0 t1003 t1004 from is0_) (by (with_reducible repeat (first | apply Kd.S_alloc | apply Kd.S_drewN | apply Kd.S_drew)); exact HO1002.out) (by decide)) hk (fun _ h => h.2)) (fun _ h => h.1)); replace HK := Aside0.mk (KeepBut.trans hkx_ hk (.inl rfl)); replace HB := Aside0.mk (hb); replace HI0 := Aside0.mk (hi); (try clear hb); (try clear hk); (try clear hi); have p39 : 0 ≤ (t1005 : Int) := of_decide_eq_true as_; have q39 : (t1005 : Int) < ((t1000.length : Int) : Int) := of_decide_eq_true as_; obtain ⟨go39, co39, eo39, gb39, gl39, cl39, HG39⟩ := Kd.S_form HO1002.out (by omega); (first | cases eo39 | (injection eo39 with ea_ en_ ec_; (first | subst ea_ | (injection ea_ with ea_; subst ea_)); subst ec_; clear en_)); have GB39 := Aside0.mk gb39; have GG39 := Aside0.mk HG39; clear gb39 gl39 HG39; obtain ⟨_, ce39, hcl39, hM39, hcc39, hfr39, _, _⟩ := Kd.S_elem HO1002.out z58 (t1005 : Int) p39 q39; obtain ⟨ve39_2, rfl, ge39_2⟩ := k58_openM hM39; have hx39_0 : w43.cell? ⟨go39, (t1005 : Int).toNat * 4, none⟩ = some (.int .i64 ((rd_T58 t1000 t1005).f0)) := hcc39 0 _ rfl; have hx39_1 : w43.cell? ⟨go39, (t1005 : Int).toNat * 4 + 1, none⟩ = some (.string ((rd_T58 t1000 t1005).f1)) := hcc39 1 _ rfl; have hx39_2 : w43.cell? ⟨go39, (t1005 : Int).toNat * 4 + 2, none⟩ = some (ve39_2) := hcc39 2 _ rfl; have hx39_3 : w43.cell? ⟨go39, (t1005 : Int).toNat * 4 + 3, none⟩ = some (.string ((rd_T58 t1000 t1005).f3)) := hcc39 3 _ rfl; have hf39_0 : w43.frozen? ⟨go39, (t1005 : Int).toNat * 4, none⟩ = false := hfr39 0; have hf39_1 : w43.frozen? ⟨go39, (t1005 : Int).toNat * 4 + 1, none⟩ = false := hfr39 1; have hf39_2 : w43.frozen? ⟨go39, (t1005 : Int).toNat * 4 + 2, none⟩ = false := hfr39 2; have hf39_3 : w43.frozen? ⟨go39, (t1005 : Int).toNat * 4 + 3, none⟩ = false := hfr39 3; clear hcl39 hcc39 hfr39 hM39; replace p39 := eq_true p39; replace q39 := eq_true q39; have HX44 := Aside0.mk (show Kd.S k58 58 w43 w.heap.size (fun k_ => ((fun _ => True)) k_ ∧ ¬ ((fun _ => False)) k_) (.slice (some ⟨go39, 0, none⟩) t1000.length co42) t1000 from (by (with_reducible repeat (first | apply Kd.S_alloc | apply Kd.S_drewN | apply Kd.S_drew)); exact Kd.S_mono HO1002.out (fun k_ hk => ⟨trivial, fun e_ => e_⟩))); obtain ⟨oki44, ce44, hcl44, hM44, hcc44, hfr44, hoki44, hH44⟩ := Kd.S_elem HX44.out z58 (t1005 : Int) (of_decide_eq_true as_) (by have h_ : (t1005 : Int) < ((t1000.length : Int) : Int) := of_decide_eq_true as_; first | exact h_ | (have e_ := (Kd.S_reads' HO1002.out).1; omega) | simpa using h_); obtain ⟨ve44_2, rfl, ge44_2⟩ := k58_openM hM44; have HP44 := Kd.S_seg hH44 (of_decide_eq_true as_) (by have h_ : (t1005 : Int) < ((t1000.length : Int) : Int) := of_decide_eq_true as_; first | exact h_ | (have e_ := (Kd.S_reads' HO1002.out).1; omega) | simpa using h_) (seg := [.string (⟨#[115, 104, 111, 114, 116]⟩ : ByteArray)]) (j := 3) (show 4 ≤ 4 from by decide) (x' := (⟨(rd_T58 t1000 t1005).f0, (rd_T58 t1000 t1005).f1, (rd_T58 t1000 t1005).f2, (⟨#[115, 104, 111, 114, 116]⟩ : ByteArray)⟩ : S58)) (k58_mkM _ _ _ (⟨(rd_T58 t1000 t1005).f0, (rd_T58 t1000 t1005).f1, (rd_T58 t1000 t1005).f2, (⟨#[115, 104, 111, 114, 116]⟩ : ByteArray)⟩ : S58) (Kd.R_mono ge44_2 (fun _ h_ => Or.inl h_))) (fun _ hk => hk) (fun k_ hk_ => hk_.elim); have hx44_3 := hcc44 3 _ rfl; (try simp only [show (k58).sz = 4 from rfl, Nat.mul_one, Nat.add_zero] at hx44_3); have hf44_3 := hfr44 3; (try simp only [show (k58).sz = 4 from rfl, Nat.mul_one, Nat.add_zero] at hf44_3); clear hcl44 hcc44 hfr44 hM44 hoki44 hH44) | ((with_reducible refine gate_store (t := 9) (p := 40) rfl ?_); refine store_event (t := 9) (p := 40) (v := ?vo_w45) (w1 := (w43.setCell ⟨go39, (t1005 : Int).toNat * 4 + 3, none⟩ (.string (⟨#[115, 104, 111, 114, 116]⟩ : ByteArray)))) ?hg ?ho ?hn ?hr ?_; (case ho => rfl); (case hg => rfl); (case hn => rfl); (case hr => first | (go_simp; done) | (go_simp; rfl)); intro w45 hw; have hg : w43.grownBy w45 (some go39) := (by rw [hw]; exact HP44.2); have hp_ : Kd.S k58 58 w45 w.heap.size (fun _ => True) (.slice (some ⟨go39, 0, none⟩) t1000.length co42) y1017 := (by rw [hw, Ny1017.out]; exact HP44.1); clear HP44; replace HI0 := Aside0.mk (IsS100.grown (show IsS100 w0 _ g s0_0 t1006 t1007 from is0_) hg (IsS100.own_neS HI0.out HO1002.out (by decide))); replace HB := Aside0.mk ((by rw [hw]; exact below_set (HB.out) (Nat.le_trans HL.out GB39.out) : Below w0.heap.size w0 w45)); replace HK := Aside0.mk (KeepBut.trans hkx_ (KeepBut.of_grown hg g) (Kd.S_base2 HO1002.out)); replace HO1002 := Aside0.mk (hp_); clear hg hw hp_))
  go_ret
  exact ⟨_, er_, by (with_reducible repeat (first | apply Kd.S_alloc | apply Kd.S_drewN | apply Kd.S_drew)); exact HO1002.out, is0_, bi0_, hkx_⟩
 rw [if_neg c36] at H
 have c36b0 : (t997 == 2) = false := beq_eq_false_iff_ne.mpr c36
 have c36b1 : (t997 != 2) = true := bne_iff_ne.mpr c36
 by_cases c46 : t997 = 3
 rotate_left
 ·rw [if_neg c46] at H
  have c46b0 : (t997 == 3) = false := beq_eq_false_iff_ne.mpr c46
  have c46b1 : (t997 != 3) = true := bne_iff_ne.mpr c46
  by_cases c61 : t997 = 4
  rotate_left
  ·rw [if_neg c61] at H
   have c61b0 : (t997 == 4) = false := beq_eq_false_iff_ne.mpr c61
   have c61b1 : (t997 != 4) = true := bne_iff_ne.mpr c61
   simp only [Option.some.injEq, Prod.mk.injEq] at H
   obtain ⟨rfl, rfl, rfl⟩ := H
   go_enter Tryd.func92, Tryd.ntmps92
   go_wp2_with (first | ((with_reducible refine gate_callee (f := 64) rfl ?_); refine gs_ (some 7) Tryd.func64 #[.pointer (some ⟨g, 0, none⟩), .int .i64 8] ?_; (with_reducible refine (spec_l01Below.calls g s0_0 s0_1 s0_2 8 t997 t998 t999 w0 _ ?side1 ?side2 A2.out).mono ?_); (case side1 => exact is0_); (case side2 => exact bi0_); rintro e w75 ⟨rfl, hi, hb, hk⟩; refine ⟨_, rfl, ?_⟩; replace HK := Aside0.mk (KeepBut.trans hkx_ hk (.inl rfl)); replace HB := Aside0.mk (hb); replace HI0 := Aside0.mk (hi); (try clear hb); (try clear hk); (try clear hi)) | ((with_reducible refine gate_callee (f := 113) rfl ?_); refine gs_ (some 9) Tryd.func113 #[.pointer (some ⟨g, 0, none⟩)] ?_; (with_reducible refine (spec_l28Segments.calls k g s0_0 t998 t999 t1000 t1003 t1004 w0 _ ?side1 ?side2 A3.out).mono ?_); (case side1 => exact is0_); (case side2 => exact bi0_); rintro e w76 ⟨v1001, rfl, ho0, hi, hb, hk⟩; refine ⟨_, rfl, ?_⟩; have HO1002 := Aside0.mk (Kd.S_lower ho0 (keep_size (w := w) (g := g) (row := none) hkx_)); replace HK := Aside0.mk (KeepBut.trans hkx_ hk (.inl rfl)); replace HB := Aside0.mk (hb); replace HI0 := Aside0.mk (hi); (try clear hb); (try clear hk); (try clear hi); (try clear ho0); obtain ⟨Ao77, co77, eo77⟩ := Kd.S_slice HO1002.out; subst eo77) | ((with_reducible refine gate_callee (f := 64) rfl ?_); refine gs_ (some 17) Tryd.func64 #[.pointer (some ⟨g, 0, none⟩), .int .i64 (t1000.length : Int)] ?_; (with_reducible refine (spec_l01Below.calls g s0_0 t1003 t1004 (t1000.length : Int) t1005 t1006 t1007 w0 _ ?side1 ?side2 A8.out).mono ?_); (case side1 => exact is0_); (case side2 => exact bi0_); rintro e w78 ⟨rfl, hi, hb, hk⟩; refine ⟨_, rfl, ?_⟩; replace HO1002 := Aside0.mk (Kd.S_mono (Kd.S_keep (IsS100.apartS (show IsS100 w0 _ g s0_0 t1003 t1004 from is0_) (by (with_reducible repeat (first | apply Kd.S_alloc | apply Kd.S_drewN | apply Kd.S_drew)); exact HO1002.out) (by decide)) hk (fun _ h => h.2)) (fun _ h => h.1)); replace HK := Aside0.mk (KeepBut.trans hkx_ hk (.inl rfl)); replace HB := Aside0.mk (hb); replace HI0 := Aside0.mk (hi); (try clear hb); (try clear hk); (try clear hi)))
   go_ret
   exact ⟨_, er_, by (with_reducible repeat (first | apply Kd.S_alloc | apply Kd.S_drewN | apply Kd.S_drew)); exact HO1002.out, is0_, bi0_, hkx_⟩
  rw [if_pos c61] at H
  have c61b0 : (t997 == 4) = true := beq_iff_eq.mpr c61
  have c61b1 : (t997 != 4) = false := bne_eq_false_iff_eq.mpr c61
  clear c61
  by_cases c62 : 0 ≤ t1005
  rotate_left
  ·exact nn_ c62 H
  rw [if_pos c62] at H
  have c62b0 := decide_eq_true c62
  clear c62
  by_cases c63 : t1005 < (t1000.length : Int)
  rotate_left
  ·exact nn_ c63 H
  rw [if_pos c63] at H
  have c63b0 := decide_eq_true c63
  clear c63
  replace H := bs_ H
  obtain ⟨t1030, A64, H⟩ := H
  try dsimp only at H
  by_cases c65 : t1030.length < 2932031007402
  rotate_left
  ·exact nn_ c65 H
  rw [if_pos c65] at H
  have LMc65 := Aside0.mk c65
  clear c65
  obtain ⟨y1033, hy1033⟩ : ∃ y_ : List (S27), y_ = (t1030 ++ [(⟨0, 0, (⟨0, 0, 0, 0⟩ : S25)⟩ : S27)]) := ⟨_, rfl⟩
  replace H : (some ((t1000.set (t1005 : Int).toNat (⟨(rd_T58 t1000 t1005).f0, (rd_T58 t1000 t1005).f1, y1033, (rd_T58 t1000 t1005).f3⟩ : S58)), t1006, t1007)) = some (r1, r2, r3) := rp_ H hy1033
  have Ny1033 := Aside0.mk hy1033
  clear hy1033
  obtain ⟨y1036, hy1036⟩ : ∃ y_ : List (S58), y_ = (t1000.set (t1005 : Int).toNat (⟨(rd_T58 t1000 t1005).f0, (rd_T58 t1000 t1005).f1, y1033, (rd_T58 t1000 t1005).f3⟩ : S58)) := ⟨_, rfl⟩
  replace H : (some (y1036, t1006, t1007)) = some (r1, r2, r3) := rp_ H hy1036
  have Ny1036 := Aside0.mk hy1036
  clear hy1036
  simp only [Option.some.injEq, Prod.mk.injEq] at H
  obtain ⟨rfl, rfl, rfl⟩ := H
  go_enter Tryd.func92, Tryd.ntmps92
  go_wp2_with (first | ((with_reducible refine gate_callee (f := 64) rfl ?_); refine gs_ (some 7) Tryd.func64 #[.pointer (some ⟨g, 0, none⟩), .int .i64 8] ?_; (with_reducible refine (spec_l01Below.calls g s0_0 s0_1 s0_2 8 t997 t998 t999 w0 _ ?side1 ?side2 A2.out).mono ?_); (case side1 => exact is0_); (case side2 => exact bi0_); rintro e w67 ⟨rfl, hi, hb, hk⟩; refine ⟨_, rfl, ?_⟩; replace HK := Aside0.mk (KeepBut.trans hkx_ hk (.inl rfl)); replace HB := Aside0.mk (hb); replace HI0 := Aside0.mk (hi); (try clear hb); (try clear hk); (try clear hi)) | ((with_reducible refine gate_callee (f := 113) rfl ?_); refine gs_ (some 9) Tryd.func113 #[.pointer (some ⟨g, 0, none⟩)] ?_; (with_reducible refine (spec_l28Segments.calls k g s0_0 t998 t999 t1000 t1003 t1004 w0 _ ?side1 ?side2 A3.out).mono ?_); (case side1 => exact is0_); (case side2 => exact bi0_); rintro e w68 ⟨v1001, rfl, ho0, hi, hb, hk⟩; refine ⟨_, rfl, ?_⟩; have HO1002 := Aside0.mk (Kd.S_lower ho0 (keep_size (w := w) (g := g) (row := none) hkx_)); replace HK := Aside0.mk (KeepBut.trans hkx_ hk (.inl rfl)); replace HB := Aside0.mk (hb); replace HI0 := Aside0.mk (hi); (try clear hb); (try clear hk); (try clear hi); (try clear ho0); obtain ⟨Ao69, co69, eo69⟩ := Kd.S_slice HO1002.out; subst eo69) | ((with_reducible refine gate_callee (f := 64) rfl ?_); refine gs_ (some 17) Tryd.func64 #[.pointer (some ⟨g, 0, none⟩), .int .i64 (t1000.length : Int)] ?_; (with_reducible refine (spec_l01Below.calls g s0_0 t1003 t1004 (t1000.length : Int) t1005 t1006 t1007 w0 _ ?side1 ?side2 A8.out).mono ?_); (case side1 => exact is0_); (case side2 => exact bi0_); rintro e w70 ⟨rfl, hi, hb, hk⟩; refine ⟨_, rfl, ?_⟩; replace HO1002 := Aside0.mk (Kd.S_mono (Kd.S_keep (IsS100.apartS (show IsS100 w0 _ g s0_0 t1003 t1004 from is0_) (by (with_reducible repeat (first | apply Kd.S_alloc | apply Kd.S_drewN | apply Kd.S_drew)); exact HO1002.out) (by decide)) hk (fun _ h => h.2)) (fun _ h => h.1)); replace HK := Aside0.mk (KeepBut.trans hkx_ hk (.inl rfl)); replace HB := Aside0.mk (hb); replace HI0 := Aside0.mk (hi); (try clear hb); (try clear hk); (try clear hi); have p1029 : 0 ≤ (t1005 : Int) := of_decide_eq_true as_; have q1029 : t1005 < (t1000.length : Int) := of_decide_eq_true as_; obtain ⟨ad1029, A1029_2, c1029_2, e1029, hx1029_0, hx1029_1, hx1029_2, hx1029_3, hl1029_2, hi1029_2⟩ := at_T58 (Kd.S_reads' HO1002.out).2.2 t1005 p1029 q1029; cases e1029; obtain ⟨ce1029, hce1029, hMe1029, hcc1029⟩ := Kd.S_get HO1002.out z58 t1005 p1029 (by first | exact q1029 | exact of_decide_eq_true as_ | (have e_ := (Kd.S_reads' HO1002.out).1; omega)); obtain ⟨ve1029_2, rfl, ge1029_2⟩ := k58_openM hMe1029; have hv1029_2 := hcc1029 2 _ rfl; rw [add_field _ _ 2 (by omega)] at hv1029_2; replace hv1029_2 := Option.some.inj (hv1029_2.symm.trans hx1029_2); rw [hv1029_2] at ge1029_2; have HL1029_2 := Aside0.mk (show Kd.R k27 27 _ _ _ _ ((rd_T58 t1000 t1005).f2) from ge1029_2); clear hv1029_2 ge1029_2; clear hcc1029 hce1029; have HR1029_2 := Aside0.mk hi1029_2; have HC1029_2 := Aside0.mk hl1029_2; clear hi1029_2 hl1029_2; replace p1029 := eq_true p1029; replace q1029 := eq_true q1029) | ((with_reducible refine gate_callee (f := 82) rfl ?_); refine gs_ (some 60) Tryd.func82 #[.slice A1029_2 ((rd_T58 t1000 t1005).f2).length c1029_2] ?_; (with_reducible refine (spec_l28Entries.calls _ _ ((rd_T58 t1000 t1005).f2) t1030 _ ?side1 ?side2 A64.out).mono ?_); (case side1 => repeat (first | exact (by repeat (first | (with_reducible exact HR1029_2.out) | (with_reducible refine Kd.C_alloc ?_ _) | (with_reducible refine Kd.C_drewN ?_ _) | (with_reducible refine Kd.C_drew ?_) | exact HR1029_2.out)) | (with_reducible refine Kd.C_alloc ?_ _) | (with_reducible refine Kd.C_drewN ?_ _) | (with_reducible refine Kd.C_drew ?_))); (case side2 => exact HC1029_2.out); rintro e w71 ⟨v1031, rfl, ho0, hb⟩; refine ⟨_, rfl, ?_⟩; replace HO1002 := Aside0.mk (Kd.S_elder' (by (with_reducible repeat (first | apply Kd.S_alloc | apply Kd.S_drewN | apply Kd.S_drew)); exact HO1002.out) (Kd.R_base ho0) hb); have HO1032 := Aside0.mk (Kd.R_lower (Kd.R_new' ho0 (Kd.R_lt (ra_ HL1029_2.out))) (keep_size (w := w) (g := g) (row := none) hkx_)); replace HL1029_2 := Aside0.mk (Kd.R_elder' (ra_ HL1029_2.out) (Kd.R_base ho0) hb); replace HR1029_2 := Aside0.mk (Kd.C_below (by repeat (first | (with_reducible exact HR1029_2.out) | (with_reducible refine Kd.C_alloc ?_ _) | (with_reducible refine Kd.C_drewN ?_ _) | (with_reducible refine Kd.C_drew ?_) | exact HR1029_2.out)) hb); replace HK := Aside0.mk (KeepBut.trans hkx_ (KeepBut.of_below hb g none) (.inl rfl)); replace HB := Aside0.mk (below_step bi0_ hb); replace HI0 := Aside0.mk (IsS100.below is0_ hb); (try clear hb); (try clear ho0)) | ((with_reducible refine gate_builtin (b := .append) (xs := #[.tmp 60, .tmp 62]) rfl ?_); at_builtin; refine Kd.R_append k27 w.heap.size rfl (.tmp 60) (.tmp 62) 31 27 (.agg #[(.int .i64 0), (.int .i64 0), (.int .i64 0), (.int .i64 0), (.int .i64 0), (.int .i64 0)]) 48 rfl Tryd.underlying31 info27 rfl (by decide) (by omega) v1031 t1030 (⟨0, 0, (⟨0, 0, 0, 0⟩ : S25)⟩ : S27) [.int .i64 0, .int .i64 0, .int .i64 0, .int .i64 0, .int .i64 0, .int .i64 0] (fun k_ => some k_ ≠ (.slice A1029_2 ((rd_T58 t1000 t1005).f2).length c1029_2 : Value).ownBlock) (fun _ => False) rfl rfl ?aP (fun _ hk => hk.elim) ?aF ?aO (Below.refl _ _) ?aS ?aL ?_; (case aP => exact k27_mkM _ _ _ (⟨0, 0, (⟨0, 0, 0, 0⟩ : S25)⟩ : S27)); (case aF => exact (fun k_ hk => Kd.fresh' (Kd.R_lt (ra_ HL1029_2.out)) k_ hk)); (case aO => exact (by (with_reducible repeat (first | apply Kd.R_alloc | apply Kd.R_drewN | apply Kd.R_drew)); exact Kd.R_mono HO1032.out (fun _ hk => hk.2))); (case aS => exact (keep_size (w := w) (g := g) (row := none) hkx_)); (case aL => have := LMc65.out; omega); intro v1034 w72 ho hb hg hat; rw [← Ny1033.out] at ho; replace HO1002 := Aside0.mk (Kd.S_after (ok := (fun _ => True)) (by (with_reducible repeat (first | apply Kd.S_alloc | apply Kd.S_drewN | apply Kd.S_drew)); exact HO1002.out) hg hat); replace HL1029_2 := Aside0.mk (Kd.R_after (ok := (fun k_ => some k_ ≠ (.slice (some ad1029) t1000.length co69 : Value).ownBlock)) (by (with_reducible repeat (first | apply Kd.R_alloc | apply Kd.R_drewN | apply Kd.R_drew)); exact Kd.R_mono HL1029_2.out (fun _ hk => ⟨hk.1.2, hk.2⟩)) hg hat); replace HB := Aside0.mk (below_weaken bi0_ HL.out hb); replace HI0 := Aside0.mk (IsS100.grown (show IsS100 w0 _ g s0_0 t1006 t1007 from is0_) hg (IsS100.own_ne HI0.out HO1032.out (by decide))); replace HK := Aside0.mk (KeepBut.trans hkx_ (KeepBut.of_grown hg g) (Kd.R_base2 HO1032.out)); have HO1035 := Aside0.mk (ho); clear HO1032; clear ho hb hg hat; have p66 : 0 ≤ (t1005 : Int) := of_decide_eq_true as_; have q66 : (t1005 : Int) < ((t1000.length : Int) : Int) := of_decide_eq_true as_; obtain ⟨go66, co66, eo66, gb66, gl66, cl66, HG66⟩ := Kd.S_form HO1002.out (by omega); (first | cases eo66 | (injection eo66 with ea_ en_ ec_; (first | subst ea_ | (injection ea_ with ea_; subst ea_)); subst ec_; clear en_)); have GB66 := Aside0.mk gb66; have GG66 := Aside0.mk HG66; clear gb66 gl66 HG66; (first | simp only [add_plain] at hx1029_0 | skip); (first | simp only [add_plain] at hx1029_1 | skip); (first | simp only [add_plain] at hx1029_2 | skip); (first | simp only [add_plain] at hx1029_3 | skip); obtain ⟨_, ce66, hcl66, hM66, hcc66, hfr66, _, _⟩ := Kd.S_elem HO1002.out z58 (t1005 : Int) p66 q66; obtain ⟨ve66_2, rfl, ge66_2⟩ := k58_openM hM66; have hx66_0 : w72.cell? ⟨go66, (t1005 : Int).toNat * 4, none⟩ = some (.int .i64 ((rd_T58 t1000 t1005).f0)) := hcc66 0 _ rfl; have hx66_1 : w72.cell? ⟨go66, (t1005 : Int).toNat * 4 + 1, none⟩ = some (.string ((rd_T58 t1000 t1005).f1)) := hcc66 1 _ rfl; have hx66_2 : w72.cell? ⟨go66, (t1005 : Int).toNat * 4 + 2, none⟩ = some (ve66_2) := hcc66 2 _ rfl; have hx66_3 : w72.cell? ⟨go66, (t1005 : Int).toNat * 4 + 3, none⟩ = some (.string ((rd_T58 t1000 t1005).f3)) := hcc66 3 _ rfl; have hf66_0 : w72.frozen? ⟨go66, (t1005 : Int).toNat * 4, none⟩ = false := hfr66 0; have hf66_1 : w72.frozen? ⟨go66, (t1005 : Int).toNat * 4 + 1, none⟩ = false := hfr66 1; have hf66_2 : w72.frozen? ⟨go66, (t1005 : Int).toNat * 4 + 2, none⟩ = false := hfr66 2; have hf66_3 : w72.frozen? ⟨go66, (t1005 : Int).toNat * 4 + 3, none⟩ = false := hfr66 3; clear hcl66 hcc66 hfr66 hM66; replace p66 := eq_true p66; replace q66 := eq_true q66; have n_ := Aside0.mk (Kd.S_mono (ok' := (fun k_ => some k_ ≠ (v1034 : Value).ownBlock)) HO1002.out (fun k_ hk => hk.2)); clear HO1002; have HO1002 := n_; clear n_; have HX73 := Aside0.mk (show Kd.S k58 58 w72 w.heap.size (fun k_ => ((fun _ => True)) k_ ∧ ¬ ((fun k_ => some k_ = (v1034 : Value).ownBlock)) k_) (.slice (some ⟨go66, 0, none⟩) t1000.length co69) t1000 from (by (with_reducible repeat (first | apply Kd.S_alloc | apply Kd.S_drewN | apply Kd.S_drew)); exact Kd.S_mono HO1002.out (fun k_ hk => ⟨trivial, fun e_ => hk e_⟩))); obtain ⟨oki73, ce73, hcl73, hM73, hcc73, hfr73, hoki73, hH73⟩ := Kd.S_elem HX73.out z58 (t1005 : Int) (of_decide_eq_true as_) (by have h_ : (t1005 : Int) < ((t1000.length : Int) : Int) := of_decide_eq_true as_; first | exact h_ | (have e_ := (Kd.S_reads' HO1002.out).1; omega) | simpa using h_); obtain ⟨ve73_2, rfl, ge73_2⟩ := k58_openM hM73; have HP73 := Kd.S_seg hH73 (of_decide_eq_true as_) (by have h_ : (t1005 : Int) < ((t1000.length : Int) : Int) := of_decide_eq_true as_; first | exact h_ | (have e_ := (Kd.S_reads' HO1002.out).1; omega) | simpa using h_) (seg := [v1034]) (j := 2) (show 3 ≤ 4 from by decide) (x' := (⟨(rd_T58 t1000 t1005).f0, (rd_T58 t1000 t1005).f1, y1033, (rd_T58 t1000 t1005).f3⟩ : S58)) (k58_mkM _ _ _ (⟨(rd_T58 t1000 t1005).f0, (rd_T58 t1000 t1005).f1, y1033, (rd_T58 t1000 t1005).f3⟩ : S58) (Kd.R_mono (Kd.R_tight rfl (Kd.R_mono (ok' := fun k_ => ((fun _ => True)) k_ ∧ k_ ≠ go66) (Kd.R_apart' (HO1035.out) (Kd.S_typed HO1002.out) (by decide)) (fun k_ hk => ⟨trivial, fun e_ => (hk.2) (by rw [e_]; rfl)⟩))) (fun _ h_ => Or.inr (h_)))) (fun _ hk => hk) (fun k_ hk_ => ((Kd.R_mono (ok' := fun k_ => ((fun _ => True)) k_ ∧ k_ ≠ go66) (Kd.R_apart' (HO1035.out) (Kd.S_typed HO1002.out) (by decide)) (fun k_ hk => ⟨trivial, fun e_ => (hk.2) (by rw [e_]; rfl)⟩))).1 k_ hk_.symm); have hx73_2 := hcc73 2 _ rfl; (try simp only [show (k58).sz = 4 from rfl, Nat.mul_one, Nat.add_zero] at hx73_2); have hf73_2 := hfr73 2; (try simp only [show (k58).sz = 4 from rfl, Nat.mul_one, Nat.add_zero] at hf73_2); clear hcl73 hcc73 hfr73 hM73 hoki73 hH73) | ((with_reducible refine gate_store (t := 31) (p := 65) rfl ?_); refine store_event (t := 31) (p := 65) (v := ?vo_w74) (w1 := (w72.setCell ⟨go66, (t1005 : Int).toNat * 4 + 2, none⟩ (v1034))) ?hg ?ho ?hn ?hr ?_; (case ho => rfl); (case hg => rfl); (case hn => rfl); (case hr => first | (go_simp; done) | (go_simp; rfl) | (obtain ⟨A_, c_, e_⟩ := Kd.R_slice HO1035.out; rw [e_]; first | (go_simp; done) | (go_simp; rfl))); intro w74 hw; have hg : w72.grownBy w74 (some go66) := (by rw [hw]; exact HP73.2); have hp_ : Kd.S k58 58 w74 w.heap.size (fun _ => True) (.slice (some ⟨go66, 0, none⟩) t1000.length co69) y1036 := (by rw [hw, Ny1036.out]; exact HP73.1); clear HP73; replace HI0 := Aside0.mk (IsS100.grown (show IsS100 w0 _ g s0_0 t1006 t1007 from is0_) hg (IsS100.own_neS HI0.out HO1002.out (by decide))); replace HL1029_2 := Aside0.mk (Kd.R_after (v := (.slice (some ⟨go66, 0, none⟩) t1000.length co69)) (v1 := (.slice (some ⟨go66, 0, none⟩) t1000.length co69)) (ok := (fun k_ => some k_ ≠ (v1034 : Value).ownBlock)) (by (with_reducible repeat (first | apply Kd.R_alloc | apply Kd.R_drewN | apply Kd.R_drew)); exact Kd.R_mono HL1029_2.out (fun _ hk => ⟨hk.2, hk.1⟩)) hg (.inl rfl)); replace HB := Aside0.mk ((by rw [hw]; exact below_set (HB.out) (Nat.le_trans HL.out GB66.out) : Below w0.heap.size w0 w74)); replace HK := Aside0.mk (KeepBut.trans hkx_ (KeepBut.of_grown hg g) (Kd.S_base2 HO1002.out)); replace HO1002 := Aside0.mk (hp_); clear HO1035; clear hg hw hp_))
  go_ret
  exact ⟨_, er_, by (with_reducible repeat (first | apply Kd.S_alloc | apply Kd.S_drewN | apply Kd.S_drew)); exact HO1002.out, is0_, bi0_, hkx_⟩
 rw [if_pos c46] at H
 have c46b0 : (t997 == 3) = true := beq_iff_eq.mpr c46
 have c46b1 : (t997 != 3) = false := bne_eq_false_iff_eq.mpr c46
 clear c46
 by_cases c47 : 0 ≤ t1005
 rotate_left
 ·exact nn_ c47 H
 rw [if_pos c47] at H
 have c47b0 := eq_true c47
 have c47b1 : decide (0 ≤ t1005) = true := decide_eq_true c47
 clear c47
 by_cases c48 : t1005 ≤ (t1000.length : Int)
 rotate_left
 ·exact nn_ c48 H
 rw [if_pos c48] at H
 have c48b0 := eq_true c48
 have c48b1 : decide (t1005 ≤ (t1000.length : Int)) = true := decide_eq_true c48
 clear c48
 obtain ⟨y1018, hy1018⟩ : ∃ y_ : List (S58), y_ = (t1000.take (t1005 : Int).toNat) := ⟨_, rfl⟩
 replace H : (if 0 ≤ (wrap64 (t1005 + 1)) then (if (wrap64 (t1005 + 1)) ≤ (t1000.length : Int) then (some ((t1000.eraseIdx (t1005 : Int).toNat), t1006, t1007)) else (none)) else (none)) = some (r1, r2, r3) := rp_ H hy1018
 have Ny1018 := Aside0.mk hy1018
 clear hy1018
 obtain ⟨ji49, hji49⟩ : ∃ j_ : Int, (wrap64 (t1005 + 1)) = j_ := ⟨_, rfl⟩
 replace H : (if 0 ≤ (ji49) then (if (ji49) ≤ (t1000.length : Int) then (some ((t1000.eraseIdx (t1005 : Int).toNat), t1006, t1007)) else (none)) else (none)) = some (r1, r2, r3) := by first | (rw [hji49] at H; exact H) | (simp only [hji49] at H ⊢; exact H)
 (try rw [hji49] at A2)
 (try rw [hji49] at A3)
 (try rw [hji49] at A8)
 have hji49w : (IntKind.i64.wrap (t1005 + 1)) = ji49 := (i64_w _).trans hji49
 by_cases c50 : 0 ≤ (ji49)
 rotate_left
 ·exact nn_ c50 H
 rw [if_pos c50] at H
 have c50b0 := eq_true c50
 have c50b1 : decide (0 ≤ (ji49)) = true := decide_eq_true c50
 clear c50
 by_cases c51 : (ji49) ≤ (t1000.length : Int)
 rotate_left
 ·exact nn_ c51 H
 rw [if_pos c51] at H
 have c51b0 := eq_true c51
 have c51b1 : decide ((ji49) ≤ (t1000.length : Int)) = true := decide_eq_true c51
 clear c51
 obtain ⟨y1022, hy1022⟩ : ∃ y_ : List (S58), y_ = (t1000.drop ((ji49) : Int).toNat) := ⟨_, rfl⟩
 replace H : (some ((t1000.eraseIdx (t1005 : Int).toNat), t1006, t1007)) = some (r1, r2, r3) := rp_ H hy1022
 have Ny1022 := Aside0.mk hy1022
 clear hy1022
 obtain ⟨y1026, hy1026⟩ : ∃ y_ : List (S58), y_ = (t1000.eraseIdx (t1005 : Int).toNat) := ⟨_, rfl⟩
 replace H : (some (y1026, t1006, t1007)) = some (r1, r2, r3) := rp_ H hy1026
 have Ny1026 := Aside0.mk hy1026
 clear hy1026
 simp only [Option.some.injEq, Prod.mk.injEq] at H
 obtain ⟨rfl, rfl, rfl⟩ := H
 go_enter Tryd.func92, Tryd.ntmps92
 try go_wp2_with (first | ((with_reducible refine gate_callee (f := 64) rfl ?_); refine gs_ (some 7) Tryd.func64 #[.pointer (some ⟨g, 0, none⟩), .int .i64 8] ?_; (with_reducible refine (spec_l01Below.calls g s0_0 s0_1 s0_2 8 t997 t998 t999 w0 _ ?side1 ?side2 A2.out).mono ?_); (case side1 => exact is0_); (case side2 => exact bi0_); rintro e w52 ⟨rfl, hi, hb, hk⟩; refine ⟨_, rfl, ?_⟩; replace HK := Aside0.mk (KeepBut.trans hkx_ hk (.inl rfl)); replace HB := Aside0.mk (hb); replace HI0 := Aside0.mk (hi); (try clear hb); (try clear hk); (try clear hi)) | ((with_reducible refine gate_callee (f := 113) rfl ?_); refine gs_ (some 9) Tryd.func113 #[.pointer (some ⟨g, 0, none⟩)] ?_; (with_reducible refine (spec_l28Segments.calls k g s0_0 t998 t999 t1000 t1003 t1004 w0 _ ?side1 ?side2 A3.out).mono ?_); (case side1 => exact is0_); (case side2 => exact bi0_); rintro e w53 ⟨v1001, rfl, ho0, hi, hb, hk⟩; refine ⟨_, rfl, ?_⟩; have HO1002 := Aside0.mk (Kd.S_lower ho0 (keep_size (w := w) (g := g) (row := none) hkx_)); replace HK := Aside0.mk (KeepBut.trans hkx_ hk (.inl rfl)); replace HB := Aside0.mk (hb); replace HI0 := Aside0.mk (hi); (try clear hb); (try clear hk); (try clear hi); (try clear ho0); obtain ⟨Ao54, co54, eo54⟩ := Kd.S_slice HO1002.out; subst eo54) | ((with_reducible refine gate_callee (f := 64) rfl ?_); refine gs_ (some 17) Tryd.func64 #[.pointer (some ⟨g, 0, none⟩), .int .i64 (t1000.length : Int)] ?_; (with_reducible refine (spec_l01Below.calls g s0_0 t1003 t1004 (t1000.length : Int) t1005 t1006 t1007 w0 _ ?side1 ?side2 A8.out).mono ?_); (case side1 => exact is0_); (case side2 => exact bi0_); rintro e w55 ⟨rfl, hi, hb, hk⟩; refine ⟨_, rfl, ?_⟩; replace HO1002 := Aside0.mk (Kd.S_mono (Kd.S_keep (IsS100.apartS (show IsS100 w0 _ g s0_0 t1003 t1004 from is0_) (by (with_reducible repeat (first | apply Kd.S_alloc | apply Kd.S_drewN | apply Kd.S_drew)); exact HO1002.out) (by decide)) hk (fun _ h => h.2)) (fun _ h => h.1)); replace HK := Aside0.mk (KeepBut.trans hkx_ hk (.inl rfl)); replace HB := Aside0.mk (hb); replace HI0 := Aside0.mk (hi); (try clear hb); (try clear hk); (try clear hi)))
 have n0_ := Aside0.mk (Kd.S_drew HO1002.out)
 have n1_ := Aside0.mk (IsS100.drew HI0.out)
 have n2_ := Aside0.mk (keep_drew HK.out)
 have n3_ := Aside0.mk (below_drew1 HB.out)
 clear HO1002
 clear HI0
 clear HK
 clear HB
 have HO1002 := n0_
 have HI0 := n1_
 have HK := n2_
 have HB := n3_
 clear n0_ n1_ n2_ n3_
 have q57 : (t1005 : Int) ≤ ((t1000.length : Int) : Int) := of_decide_eq_true as_
 obtain ⟨i057, hi057, _, hsz57, _⟩ := info_parts info58
 have hroom57 : t1000.length ≤ co54 := (Kd.S_reads' HO1002.out).2.1
 have hC57 : Kd.C k58 _ Ao54 t1000.length t1000 := (Kd.S_reads' HO1002.out).2.2
 have hcut57 := cut_to (P := Tryd.prog) 54 58 .i64 Tryd.underlying54 hi057 Ao54 t1000.length co54 t1005 (of_decide_eq_true as_) q57 hroom57
 have hr57 := Kd.C_take (m := (t1005 : Int).toNat) hC57 (by omega)
 have hy57 : y1018.length = (t1005 : Int).toNat := (by rw [Ny1018.out, List.length_take]; omega)
 rw [← Ny1018.out] at hr57
 rw [← hy57] at hcut57
 have HR1021 := Aside0.mk hr57
 have HC1021 := Aside0.mk (show y1018.length ≤ co54 from by omega)
 clear hr57 hC57 hroom57 hi057 hsz57
 have KY57 := Aside0.mk hy57
 clear hy57
 have KL57 := Aside0.mk (show (t1005 : Int).toNat ≤ t1000.length from by omega)
 replace q57 := eq_true q57
 have q58 : ((ji49) : Int) ≤ ((t1000.length : Int) : Int) := of_decide_eq_true as_
 obtain ⟨i058, hi058, _, hsz58, _⟩ := info_parts info58
 have hroom58 : t1000.length ≤ co54 := (Kd.S_reads' HO1002.out).2.1
 have hC58 : Kd.C k58 _ Ao54 t1000.length t1000 := (Kd.S_reads' HO1002.out).2.2
 have q058 : (0 : Int) ≤ ((ji49) : Int) := of_decide_eq_true as_
 have hcut58 := cut_from (P := Tryd.prog) 54 58 .i64 Tryd.underlying54 hi058 4 hsz58 Ao54 t1000.length co54 (ji49) q058 q58
 have hr58 := Kd.C_drop (m := ((ji49) : Int).toNat) (c := co54) hC58 (by omega) hroom58
 obtain ⟨A58, hA58⟩ : ∃ A1, A1 = (if co54 = ((ji49) : Int).toNat then Ao54 else (Ao54 : Option Addr).map (·.add (((ji49) : Int).toNat * 4))) := ⟨_, rfl⟩
 obtain ⟨c58, hc58⟩ : ∃ c1, c1 = co54 - ((ji49) : Int).toNat := ⟨_, rfl⟩
 have hy58 : y1022.length = t1000.length - ((ji49) : Int).toNat := (by rw [Ny1022.out, List.length_drop] <;> omega)
 rw [show (t1000).drop ((ji49) : Int).toNat = y1022 from Ny1022.out.symm] at hr58
 replace hr58 : Kd.C k58 _ A58 y1022.length y1022 := (by rw [hA58]; exact hr58)
 rw [← hy58, ← hA58, ← hc58] at hcut58
 have HR1025 := Aside0.mk hr58
 have HC1025 := Aside0.mk (show y1022.length ≤ c58 from by rw [hy58, hc58]; exact Nat.sub_le_sub_right hroom58 _)
 clear hr58 hC58 hroom58 hi058 hsz58 hc58
 have KY58 := Aside0.mk hy58
 have KA58 := Aside0.mk hA58
 clear hy58 hA58
 have KL58 := Aside0.mk (show ((ji49) : Int).toNat ≤ t1000.length from by omega)
 replace q58 := eq_true q58
 obtain ⟨go60, co60, eo60, gb60, gl60, cl60, HG60⟩ := Kd.S_form HO1002.out (by have hj_ : 0 ≤ (t1005 : Int) := of_decide_eq_true as_; have hl_ : (ji49 : Int) ≤ (t1000.length : Int) := of_decide_eq_true as_; have hh_ : (t1005 : Int) ≤ (t1000.length : Int) := of_decide_eq_true as_; rw [← hji49] at hl_; unfold wrap64 at hl_; omega)
 (first | cases eo60 | (injection eo60 with ea_ en_ ec_; (first | subst ea_ | (injection ea_ with ea_; subst ea_)); subst ec_; clear en_))
 have GB60 := Aside0.mk gb60
 have GG60 := Aside0.mk HG60
 clear gb60 gl60 HG60
 refine start_ (n := 9) (S := fun w' => True) (ds := []) #[false, false, false, false, false, false, false, false, false] (by kernel_rfl) rfl rfl trivial (fun hHeld => ?_); refine with_tabW spec_l28Any.tab14 spec_l28Any.bits14 (fun HT_ HW_ => ?_)
 generalize w55.drew = w56 at HO1002 HI0 HK HB GG60 HR1021 HR1025 hHeld ⊢
 refine pu_ 0 43 HT_ ?_
 refine pu_ 1 44 HT_ ?_
 refine pu_ 2 45 HT_ ?_
 refine pu_ 3 46 HT_ ?_
 refine pu_ 4 47 HT_ ?_
 refine pu_ 5 48 HT_ ?_
 refine pu_ 6 49 HT_ ?_
 refine on_ 7 50 HT_ (fun K hK => ?_)
 have hj_ : 0 ≤ (t1005 : Int) := of_decide_eq_true as_
 have hl_ : (ji49 : Int) ≤ (t1000.length : Int) := of_decide_eq_true as_
 have hh_ : (t1005 : Int) ≤ (t1000.length : Int) := of_decide_eq_true as_
 have hb_ := (Kd.S_reads' HO1002.out).2.2.2.1
 have h0_ : (0 : Int) ≤ (ji49 : Int) := of_decide_eq_true as_
 have hy1_ := KY57.out
 have hk_ : (ji49 : Int).toNat = y1018.length + 1 := (by have hw_ : (ji49 : Int) = t1005 + 1 := (by have h00_ := h0_; rw [← hji49] at h00_ ⊢; unfold wrap64 at h00_ ⊢; omega); rw [hw_]; omega)
 refine Kd.S_delete_step k58 w.heap.size (by rfl) (.tmp 45) (.tmp 49) 54 58 rfl Tryd.underlying54 (by kernel_rfl) (g := go60) (n := t1000.length) (c := co54) (k := y1018.length) rfl rfl ?hA ?hm (by (with_reducible repeat (first | apply Kd.S_alloc | apply Kd.S_drewN | apply Kd.S_drew)); exact HO1002.out) ?hk (Below.refl _ _) (keep_size (w := w) (g := g) (row := none) hkx_) ?_
 (case hA => have ha_ := KA58.out; rw [hk_] at ha_; exact ha_)
 (case hm => have ha_ := KY58.out; omega)
 (case hk => omega)
 intro w59 ho hb hg
 clear hj_ hl_ hh_ hb_ hk_ h0_
 rw [hy1_, ← Ny1026.out] at ho
 clear hy1_
 have hn_ : t1000.length - 1 = y1026.length := (by have := (Kd.S_reads' ho).1; omega)
 rw [hn_] at ho ⊢
 clear hn_
 have n0_ := Aside0.mk (ho)
 have n1_ := Aside0.mk (IsS100.grown is0_ hg (IsS100.own_neS HI0.out HO1002.out (by decide)))
 have n2_ := Aside0.mk (below_weaken bi0_ HL.out hb)
 have n3_ := Aside0.mk (KeepBut.trans hkx_ (KeepBut.of_grown hg g) (Kd.S_base2 HO1002.out))
 clear HO1002
 clear HI0
 clear HB
 clear HK
 have HO1002 := n0_
 have HI0 := n1_
 have HB := n2_
 have HK := n3_
 clear n0_ n1_ n2_ n3_
 clear ho hb hg
 refine hK.out _ _ trivial (fun hHeld => ?_)
 clear hK K
 refine norm_ (a' := ?_) ?_ ?_
 rotate_left
 ·show Act.put _ (some 50) _ = _
  simp only [Act.put, List.setIfInBounds_toArray, List.set_cons_zero, List.set_cons_succ, i64_w, i32_w]
  rfl
 refine pu_ 8 4 HT_ ?_
 refine done_ (done_of HT_.out (by kernel_rfl)) ?_
 try go_wp2
 go_ret
 exact ⟨_, by first | rfl | (simp [errW_none, errW_some] <;> rfl) | (simp only [← hji49]; first | rfl | (simp [errW_none, errW_some] <;> rfl)) | (simp [*, errW_none, errW_some] <;> rfl) | exact False.elim (Bool.noConfusion ((decide_eq_true (of_eq_true (by assumption))).symm.trans (by assumption))), by (with_reducible repeat (first | apply Kd.S_alloc | apply Kd.S_drewN | apply Kd.S_drew)); exact HO1002.out, is0_, bi0_, hkx_⟩


def spec_l28One.f (k : Nat) (l0 : List Int) : Option (Int × ByteArray × (List (S27)) × ByteArray) := (spec_l01New.f k l0).bind fun bt1038 => ((spec_l01Below.f bt1038.1 bt1038.2.1 bt1038.2.2 9).bind fun bt1042 => ((spec_l28Any.f k bt1038.1 bt1042.2.1 bt1042.2.2).bind fun bt1045 => (if (bt1045.1.length : Int) = 0 then (some (0, (⟨#[]⟩ : ByteArray), ([] : List (S27)), (⟨#[]⟩ : ByteArray))) else (if 0 ≤ (Int.tmod bt1042.1 (bt1045.1.length : Int)) then (if (Int.tmod bt1042.1 (bt1045.1.length : Int)) < (bt1045.1.length : Int) then (some ((rd_T58 bt1045.1 (Int.tmod bt1042.1 (bt1045.1.length : Int))).f0, (rd_T58 bt1045.1 (Int.tmod bt1042.1 (bt1045.1.length : Int))).f1, (rd_T58 bt1045.1 (Int.tmod bt1042.1 (bt1045.1.length : Int))).f2, (rd_T58 bt1045.1 (Int.tmod bt1042.1 (bt1045.1.length : Int))).f3)) else (none)) else (none)))))
theorem spec_l28One.mono : ∀ a0 k, LeO (spec_l28One.f k a0) (spec_l28One.f (k + 1) a0) := by
 intro a0 k
 unfold spec_l28One.f
 have m0 := @spec_l01New.mono
 have m1 := @spec_l28Any.mono
 exact mo_
theorem spec_l28One.calls (k : Nat) (A0 : Option Addr) (c0 : Nat) (l0 : List Int) (r1 : Int) (r2 : ByteArray) (r3 : List (S27)) (r4 : ByteArray) (w : World) (hr0 : Kd.C (Kd.int .u8) w A0 l0.length l0) (hc0 : l0.length ≤ c0) (h : spec_l28One.f k l0 = some (r1, r2, r3, r4)) :
 Calls Tryd.prog 83 #[.slice A0 l0.length c0] w fun e w' => ∃ v2_ : Value, e = .returned (.agg #[.int .i64 r1, .string r2, v2_, .string r4]) ∧ Kd.R k27 27 w' w.heap.size (fun _ => True) v2_ r3 ∧ Below w.heap.size w w' := by
 have hu58 := Tryd.underlying58
 have HR0 := Aside0.mk hr0
 have HC0 := Aside0.mk hc0
 clear hr0 hc0
 have HB := Aside0.mk (Below.refl w.heap.size w)
 have H := h
 unfold spec_l28One.f at H
 clear h
 replace H := bs_ H
 obtain ⟨⟨t1038, t1039, t1040⟩, A2, H⟩ := H
 try dsimp only at H
 replace H := bs_ H
 obtain ⟨⟨t1042, t1043, t1044⟩, A3, H⟩ := H
 try dsimp only at H
 replace H := bs_ H
 obtain ⟨⟨t1045, t1048, t1049⟩, A4, H⟩ := H
 try dsimp only at H
 by_cases c5 : (t1045.length : Int) = 0
 ·rw [if_pos c5] at H
  have c5b0 : ((t1045.length : Int) == 0) = true := beq_iff_eq.mpr c5
  have c5b1 : ((t1045.length : Int) != 0) = false := bne_eq_false_iff_eq.mpr c5
  clear c5
  simp only [Option.some.injEq, Prod.mk.injEq] at H
  obtain ⟨rfl, rfl, rfl, rfl⟩ := H
  go_enter Tryd.func83, Tryd.ntmps83
  go_wp2_with (first | ((with_reducible refine gate_dst (N := 2) rfl ?_); refine bx_ 2 58 #[.int .i64 0, .string (⟨#[]⟩ : ByteArray), .slice none 0 0, .string (⟨#[]⟩ : ByteArray)] ?_; intro gb1037 hg w6 hbox hb; have BK1037 := Aside0.mk (hbox); have GW1037 := Aside0.mk ((hz_ : w.heap.size ≤ gb1037)); have GE1037 := Aside0.mk ((hz_ : w.heap.size ≤ gb1037)); replace HB := Aside0.mk (below_step bl_ hb); clear hb hbox hg) | ((with_reducible refine gate_callee (f := 58) rfl ?_); refine gs_ (some 7) Tryd.func58 #[.slice A0 l0.length c0] ?_; (with_reducible refine (spec_l01New.calls k _ _ l0 t1038 t1039 t1040 w _ ?side1 ?side2 ?side3 A2.out).mono ?_); (case side1 => repeat (first | (with_reducible first | exact HB.out | apply below_alloc | apply pw_below_drewN | apply below_drew1 | refine below_set ?_ GE1037.out) | exact HB.out)); (case side2 => exact HR0.out); (case side3 => exact HC0.out); rintro e w7 ⟨g1041, rfl, hi, hb, hb2⟩; refine ⟨_, rfl, ?_⟩; replace HB := Aside0.mk (hb); have HI1041 := Aside0.mk (hi); have NB1041_1037 := Aside0.mk (IsS100.ne_blk hi (blk_below (bn0_ BK1037.out) hb2) (by decide)); have NB1037_1041 := Aside0.mk (Ne.symm (IsS100.ne_blk hi (blk_below (bn0_ BK1037.out) hb2) (by decide))); replace BK1037 := Aside0.mk (blk_below (bn0_ BK1037.out) hb2); (try clear hb); (try clear hb2); (try clear hi)) | ((with_reducible refine gate_callee (f := 64) rfl ?_); refine gs_ (some 9) Tryd.func64 #[.pointer (some ⟨g1041, 0, none⟩), .int .i64 9] ?_; (with_reducible refine (spec_l01Below.calls g1041 t1038 t1039 t1040 9 t1042 t1043 t1044 w _ ?side1 ?side2 A3.out).mono ?_); (case side1 => exact is1_); (case side2 => exact bi1_); rintro e w8 ⟨rfl, hi, hb, hk⟩; refine ⟨_, rfl, ?_⟩; replace BK1037 := Aside0.mk (KeepBut.blk hk (g' := gb1037) (o := .cells #[.int .i64 0, .string (⟨#[]⟩ : ByteArray), .slice none 0 0, .string (⟨#[]⟩ : ByteArray)] 58 (0, 0)) (bk_ BK1037.out) NB1037_1041.out (by simp)); replace HB := Aside0.mk (hb); replace HI1041 := Aside0.mk (hi); (try clear hb); (try clear hk); (try clear hi)) | ((with_reducible refine gate_callee (f := 92) rfl ?_); refine gs_ (some 11) Tryd.func92 #[.pointer (some ⟨g1041, 0, none⟩)] ?_; (with_reducible refine (spec_l28Any.calls k g1041 t1038 t1043 t1044 t1045 t1048 t1049 w _ ?side1 ?side2 A4.out).mono ?_); (case side1 => exact is1_); (case side2 => exact bi1_); rintro e w9 ⟨v1046, rfl, ho0, hi, hb, hk⟩; refine ⟨_, rfl, ?_⟩; have HO1047 := Aside0.mk (Kd.S_lower (Kd.S_newB ho0 (g := gb1037) (o := .cells #[.int .i64 0, .string (⟨#[]⟩ : ByteArray), .slice none 0 0, .string (⟨#[]⟩ : ByteArray)] 58 (0, 0)) (bk_ BK1037.out)) (below_size bi1_)); replace BK1037 := Aside0.mk (KeepBut.blk hk (g' := gb1037) (o := .cells #[.int .i64 0, .string (⟨#[]⟩ : ByteArray), .slice none 0 0, .string (⟨#[]⟩ : ByteArray)] 58 (0, 0)) (bk_ BK1037.out) NB1037_1041.out (by simp)); replace HB := Aside0.mk (hb); replace HI1041 := Aside0.mk (hi); (try clear hb); (try clear hk); (try clear hi); (try clear ho0); obtain ⟨Ao10, co10, eo10⟩ := Kd.S_slice HO1047.out; subst eo10; have hnb11 := NB1037_1041.out; have hnc11 := NB1041_1037.out; obtain ⟨hcz12_0, hcz12_1, hcz12_2, hcz12_3, hfz12_0, hfz12_1, hfz12_2, hfz12_3⟩ := cf4_ BK1037.out))
  refine bodyPost_ret (results_cell_row rfl _ _ gb1037 58 #[.int .i64 0, .string (⟨#[]⟩ : ByteArray), .slice none 0 0, .string (⟨#[]⟩ : ByteArray)] (0, 0) _ rfl (bp0_ BK1037.out) Tryd.underlying58 rfl (by kernel_rfl)) rfl ?_
  exact ⟨_, er_, by first | exact Kd.R_nil _ _ _ _ _ | exact Kd.N_nil _ _ _ _ _ | exact Kd.V_nil _ _ _ _ _ | exact Kd.Q_nil _ _ _ _ _ | exact Kd.S_nil _ _ _ _ _, bi1_⟩
 rw [if_neg c5] at H
 have c5b0 : ((t1045.length : Int) == 0) = false := beq_eq_false_iff_ne.mpr c5
 have c5b1 : ((t1045.length : Int) != 0) = true := bne_iff_ne.mpr c5
 have c5b2 : ¬ (t1045 = []) := fun h_ => c5 (by rw [h_]; rfl)
 obtain ⟨ji13, hji13⟩ : ∃ j_ : Int, (Int.tmod t1042 (t1045.length : Int)) = j_ := ⟨_, rfl⟩
 replace H : (if 0 ≤ (ji13) then (if (ji13) < (t1045.length : Int) then (some ((rd_T58 t1045 (ji13)).f0, (rd_T58 t1045 (ji13)).f1, (rd_T58 t1045 (ji13)).f2, (rd_T58 t1045 (ji13)).f3)) else (none)) else (none)) = some (r1, r2, r3, r4) := by first | (rw [hji13] at H; exact H) | (simp only [hji13] at H ⊢; exact H)
 (try rw [hji13] at A2)
 (try rw [hji13] at A3)
 (try rw [hji13] at A4)
 by_cases c14 : 0 ≤ (ji13)
 rotate_left
 ·exact nn_ c14 H
 rw [if_pos c14] at H
 have c14b0 := decide_eq_true c14
 clear c14
 by_cases c15 : (ji13) < (t1045.length : Int)
 rotate_left
 ·exact nn_ c15 H
 rw [if_pos c15] at H
 have c15b0 := decide_eq_true c15
 clear c15
 simp only [Option.some.injEq, Prod.mk.injEq] at H
 obtain ⟨rfl, rfl, rfl, rfl⟩ := H
 go_enter Tryd.func83, Tryd.ntmps83
 go_wp2_with (first | ((with_reducible refine gate_dst (N := 2) rfl ?_); refine bx_ 2 58 #[.int .i64 0, .string (⟨#[]⟩ : ByteArray), .slice none 0 0, .string (⟨#[]⟩ : ByteArray)] ?_; intro gb1037 hg w16 hbox hb; have BK1037 := Aside0.mk (hbox); have GW1037 := Aside0.mk ((hz_ : w.heap.size ≤ gb1037)); have GE1037 := Aside0.mk ((hz_ : w.heap.size ≤ gb1037)); replace HB := Aside0.mk (below_step bl_ hb); clear hb hbox hg) | ((with_reducible refine gate_callee (f := 58) rfl ?_); refine gs_ (some 7) Tryd.func58 #[.slice A0 l0.length c0] ?_; (with_reducible refine (spec_l01New.calls k _ _ l0 t1038 t1039 t1040 w _ ?side1 ?side2 ?side3 A2.out).mono ?_); (case side1 => repeat (first | (with_reducible first | exact HB.out | apply below_alloc | apply pw_below_drewN | apply below_drew1 | refine below_set ?_ GE1037.out) | exact HB.out)); (case side2 => exact HR0.out); (case side3 => exact HC0.out); rintro e w17 ⟨g1041, rfl, hi, hb, hb2⟩; refine ⟨_, rfl, ?_⟩; replace HB := Aside0.mk (hb); have HI1041 := Aside0.mk (hi); have NB1041_1037 := Aside0.mk (IsS100.ne_blk hi (blk_below (bn0_ BK1037.out) hb2) (by decide)); have NB1037_1041 := Aside0.mk (Ne.symm (IsS100.ne_blk hi (blk_below (bn0_ BK1037.out) hb2) (by decide))); replace BK1037 := Aside0.mk (blk_below (bn0_ BK1037.out) hb2); (try clear hb); (try clear hb2); (try clear hi)) | ((with_reducible refine gate_callee (f := 64) rfl ?_); refine gs_ (some 9) Tryd.func64 #[.pointer (some ⟨g1041, 0, none⟩), .int .i64 9] ?_; (with_reducible refine (spec_l01Below.calls g1041 t1038 t1039 t1040 9 t1042 t1043 t1044 w _ ?side1 ?side2 A3.out).mono ?_); (case side1 => exact is1_); (case side2 => exact bi1_); rintro e w18 ⟨rfl, hi, hb, hk⟩; refine ⟨_, rfl, ?_⟩; replace BK1037 := Aside0.mk (KeepBut.blk hk (g' := gb1037) (o := .cells #[.int .i64 0, .string (⟨#[]⟩ : ByteArray), .slice none 0 0, .string (⟨#[]⟩ : ByteArray)] 58 (0, 0)) (bk_ BK1037.out) NB1037_1041.out (by simp)); replace HB := Aside0.mk (hb); replace HI1041 := Aside0.mk (hi); (try clear hb); (try clear hk); (try clear hi)) | ((with_reducible refine gate_callee (f := 92) rfl ?_); refine gs_ (some 11) Tryd.func92 #[.pointer (some ⟨g1041, 0, none⟩)] ?_; (with_reducible refine (spec_l28Any.calls k g1041 t1038 t1043 t1044 t1045 t1048 t1049 w _ ?side1 ?side2 A4.out).mono ?_); (case side1 => exact is1_); (case side2 => exact bi1_); rintro e w19 ⟨v1046, rfl, ho0, hi, hb, hk⟩; refine ⟨_, rfl, ?_⟩; have HO1047 := Aside0.mk (Kd.S_lower (Kd.S_newB ho0 (g := gb1037) (o := .cells #[.int .i64 0, .string (⟨#[]⟩ : ByteArray), .slice none 0 0, .string (⟨#[]⟩ : ByteArray)] 58 (0, 0)) (bk_ BK1037.out)) (below_size bi1_)); replace BK1037 := Aside0.mk (KeepBut.blk hk (g' := gb1037) (o := .cells #[.int .i64 0, .string (⟨#[]⟩ : ByteArray), .slice none 0 0, .string (⟨#[]⟩ : ByteArray)] 58 (0, 0)) (bk_ BK1037.out) NB1037_1041.out (by simp)); replace HB := Aside0.mk (hb); replace HI1041 := Aside0.mk (hi); (try clear hb); (try clear hk); (try clear hi); (try clear ho0); obtain ⟨Ao20, co20, eo20⟩ := Kd.S_slice HO1047.out; subst eo20; have p1050 : 0 ≤ ((ji13) : Int) := of_decide_eq_true as_; have q1050 : (ji13) < (t1045.length : Int) := of_decide_eq_true as_; obtain ⟨ad1050, A1050_2, c1050_2, e1050, hx1050_0, hx1050_1, hx1050_2, hx1050_3, hl1050_2, hi1050_2⟩ := at_T58 (Kd.S_reads' HO1047.out).2.2 (ji13) p1050 q1050; cases e1050; obtain ⟨ce1050, hce1050, hMe1050, hcc1050⟩ := Kd.S_get HO1047.out z58 (ji13) p1050 (by first | exact q1050 | exact of_decide_eq_true as_ | (have e_ := (Kd.S_reads' HO1047.out).1; omega)); obtain ⟨ve1050_2, rfl, ge1050_2⟩ := k58_openM hMe1050; have hv1050_2 := hcc1050 2 _ rfl; rw [add_field _ _ 2 (by omega)] at hv1050_2; replace hv1050_2 := Option.some.inj (hv1050_2.symm.trans hx1050_2); rw [hv1050_2] at ge1050_2; have HL1050_2 := Aside0.mk (show Kd.R k27 27 _ _ _ _ ((rd_T58 t1045 (ji13)).f2) from ge1050_2); clear hv1050_2 ge1050_2; clear hcc1050 hce1050; have HR1050_2 := Aside0.mk hi1050_2; have HC1050_2 := Aside0.mk hl1050_2; clear hi1050_2 hl1050_2; replace p1050 := eq_true p1050; replace q1050 := eq_true q1050; have hnb21 := NB1037_1041.out; have hnc21 := NB1041_1037.out; obtain ⟨hcz22_0, hcz22_1, hcz22_2, hcz22_3, hfz22_0, hfz22_1, hfz22_2, hfz22_3⟩ := cf4_ BK1037.out))
 refine bodyPost_ret (results_cell_row rfl _ _ gb1037 58 #[.int .i64 ((rd_T58 t1045 (ji13)).f0), .string ((rd_T58 t1045 (ji13)).f1), .slice A1050_2 ((rd_T58 t1045 (ji13)).f2).length c1050_2, .string ((rd_T58 t1045 (ji13)).f3)] (0, 0) _ rfl (bp0_ BK1037.out) Tryd.underlying58 rfl (by kernel_rfl)) rfl ?_
 exact ⟨_, by first | rfl | (simp [errW_none, errW_some] <;> rfl) | (simp only [← hji13]; first | rfl | (simp [errW_none, errW_some] <;> rfl)) | (simp [*, errW_none, errW_some] <;> rfl) | exact False.elim (Bool.noConfusion ((decide_eq_true (of_eq_true (by assumption))).symm.trans (by assumption))), by (with_reducible repeat (first | apply Kd.R_alloc | apply Kd.R_drewN | apply Kd.R_drew)); exact Kd.R_mono (Kd.R_far (p := ⟨gb1037, 3, none⟩) (Kd.R_far (p := ⟨gb1037, 2, none⟩) (Kd.R_far (p := ⟨gb1037, 1, none⟩) (Kd.R_far (p := ⟨gb1037, 0, none⟩) (Kd.R_types HL1050_2.out BK1037.out (by decide)) (fun _ hk => hk.2) (.int .i64 ((rd_T58 t1045 (ji13)).f0))) (fun _ hk => hk.2) (.string ((rd_T58 t1045 (ji13)).f1))) (fun _ hk => hk.2) (.slice A1050_2 ((rd_T58 t1045 (ji13)).f2).length c1050_2)) (fun _ hk => hk.2) (.string ((rd_T58 t1045 (ji13)).f3))) (fun _ hk => trivial), bi1_⟩


def spec_DrawSegmentText.f (k : Nat) (l0 : List Int) : Option (Int × ByteArray × (List (S27)) × ByteArray) := (spec_l28One.f k l0).bind fun bt1052 => (some (bt1052.1, bt1052.2.1, bt1052.2.2.1, bt1052.2.2.2))
theorem spec_DrawSegmentText.mono : ∀ a0 k, LeO (spec_DrawSegmentText.f k a0) (spec_DrawSegmentText.f (k + 1) a0) := by
 intro a0 k
 unfold spec_DrawSegmentText.f
 have m0 := @spec_l28One.mono
 exact mo_
theorem spec_DrawSegmentText.calls (k : Nat) (A0 : Option Addr) (c0 : Nat) (l0 : List Int) (r1 : Int) (r2 : ByteArray) (r3 : List (S27)) (r4 : ByteArray) (w : World) (hr0 : Kd.C (Kd.int .u8) w A0 l0.length l0) (hc0 : l0.length ≤ c0) (h : spec_DrawSegmentText.f k l0 = some (r1, r2, r3, r4)) :
 Calls Tryd.prog 42 #[.slice A0 l0.length c0] w fun e w' => ∃ v2_ : Value, e = .returned (.agg #[.int .i64 r1, .string r2, v2_, .string r4]) ∧ Kd.R k27 27 w' w.heap.size (fun _ => True) v2_ r3 ∧ Below w.heap.size w w' := by
 have hu58 := Tryd.underlying58
 have HR0 := Aside0.mk hr0
 have HC0 := Aside0.mk hc0
 clear hr0 hc0
 have HB := Aside0.mk (Below.refl w.heap.size w)
 have H := h
 unfold spec_DrawSegmentText.f at H
 clear h
 replace H := bs_ H
 obtain ⟨⟨t1052, t1053, t1054, t1057⟩, A2, H⟩ := H
 try dsimp only at H
 simp only [Option.some.injEq, Prod.mk.injEq] at H
 obtain ⟨rfl, rfl, rfl, rfl⟩ := H
 go_enter Tryd.func42, Tryd.ntmps42
 go_wp2_with (first | ((with_reducible refine gate_dst (N := 2) rfl ?_); refine bx_ 2 58 #[.int .i64 0, .string (⟨#[]⟩ : ByteArray), .slice none 0 0, .string (⟨#[]⟩ : ByteArray)] ?_; intro gb1051 hg w3 hbox hb; have BK1051 := Aside0.mk (hbox); have GW1051 := Aside0.mk ((hz_ : w.heap.size ≤ gb1051)); have GE1051 := Aside0.mk ((hz_ : w.heap.size ≤ gb1051)); replace HB := Aside0.mk (below_step bl_ hb); clear hb hbox hg) | ((with_reducible refine gate_callee (f := 83) rfl ?_); refine gs_ (some 4) Tryd.func83 #[.slice A0 l0.length c0] ?_; (with_reducible refine (spec_l28One.calls k _ _ l0 t1052 t1053 t1054 t1057 _ ?side1 ?side2 A2.out).mono ?_); (case side1 => exact cb_ HR0.out HB.out); (case side2 => exact HC0.out); rintro e w4 ⟨v1055, rfl, ho0, hb⟩; refine ⟨_, rfl, ?_⟩; have HO1056 := Aside0.mk (Kd.R_lower ho0 (below_size bl_)); replace BK1051 := Aside0.mk (blk_below (bn0_ BK1051.out) hb); replace HB := Aside0.mk (below_step bl_ hb); (try clear hb); (try clear ho0); obtain ⟨hcz5_0, hcz5_1, hcz5_2, hcz5_3, hfz5_0, hfz5_1, hfz5_2, hfz5_3⟩ := cf4_ BK1051.out; obtain ⟨Ao6, co6, eo6⟩ := Kd.R_slice HO1056.out; subst eo6))
 refine bodyPost_ret (results_cell_row rfl _ _ gb1051 58 #[.int .i64 t1052, .string t1053, .slice Ao6 t1054.length co6, .string t1057] (0, 0) _ rfl (bp0_ BK1051.out) Tryd.underlying58 rfl (by kernel_rfl)) rfl ?_
 exact ⟨_, er_, by (with_reducible repeat (first | apply Kd.R_alloc | apply Kd.R_drewN | apply Kd.R_drew)); exact Kd.R_mono (Kd.R_far (p := ⟨gb1051, 3, none⟩) (Kd.R_far (p := ⟨gb1051, 2, none⟩) (Kd.R_far (p := ⟨gb1051, 1, none⟩) (Kd.R_far (p := ⟨gb1051, 0, none⟩) (Kd.R_types HO1056.out BK1051.out (by decide)) (fun _ hk => hk.2) (.int .i64 t1052)) (fun _ hk => hk.2) (.string t1053)) (fun _ hk => hk.2) (.slice Ao6 t1054.length co6)) (fun _ hk => hk.2) (.string t1057)) (fun _ hk => trivial), bl_⟩


mutual
def impl_SegmentOk.j0 : Nat → Bool → Int → ByteArray → List (S27) → ByteArray → Option (Bool)
 | 0, _, _, _, _, _ => none
 | k + 1, x21, x1059000, x1059001, x1059002, x1059003 => if x21 = true then (some false) else (impl_SegmentOk.l0 k x1059002 (x1059002.length : Int) 0 x1059000 x1059001 x1059002 x1059003)
def impl_SegmentOk.l0 : Nat → List (S27) → Int → Int → Int → ByteArray → List (S27) → ByteArray → Option (Bool)
 | 0, _, _, _, _, _, _, _ => none
 | k + 1, x23, x24, x25, x1059000, x1059001, x1059002, x1059003 => if x25 < x24 then (if 0 ≤ x25 then (if x25 < (x23.length : Int) then ((impl_EntryText.f k ((rd_T27 x23 x25).f0) ((rd_T27 x23 x25).f1) ((rd_T27 x23 x25).f2.f0) ((rd_T27 x23 x25).f2.f1) ((rd_T27 x23 x25).f2.f2) ((rd_T27 x23 x25).f2.f3)).bind fun t1063 => (if t1063.toList = ([] : List UInt8) then (some false) else (impl_SegmentOk.l0 k x23 x24 (wrap64 (x25 + 1)) x1059000 x1059001 x1059002 x1059003))) else (none)) else (none)) else ((impl_HeadFrom.f k x1059001 x1059002).bind fun t1064 => (some (x1059003.toList == t1064.toList)))
end
def impl_SegmentOk.f (k : Nat) (a0_0 : Int) (a0_1 : ByteArray) (l0_2 : List (S27)) (a0_3 : ByteArray) : Option (Bool) := (impl_within.f a0_0 0 200).bind fun t1059 => (if t1059 = true then (if (a0_1.size : Int) = 32 then ((impl_within.f (l0_2.length : Int) 1 200).bind fun t1060 => (impl_SegmentOk.j0 k (!t1060) a0_0 a0_1 l0_2 a0_3)) else (impl_SegmentOk.j0 k true a0_0 a0_1 l0_2 a0_3)) else (impl_SegmentOk.j0 k true a0_0 a0_1 l0_2 a0_3))
theorem impl_SegmentOk.mono_l : ∀ k, (∀ y0 y1 y2 y3 y4, LeO (impl_SegmentOk.j0 k y0 y1 y2 y3 y4) (impl_SegmentOk.j0 (k + 1) y0 y1 y2 y3 y4)) ∧ (∀ y0 y1 y2 y3 y4 y5 y6, LeO (impl_SegmentOk.l0 k y0 y1 y2 y3 y4 y5 y6) (impl_SegmentOk.l0 (k + 1) y0 y1 y2 y3 y4 y5 y6))
 | 0 => ⟨fun _ _ _ _ _ r h => by simp [impl_SegmentOk.j0] at h, fun _ _ _ _ _ _ _ r h => by simp [impl_SegmentOk.l0] at h⟩
 | k + 1 => by
  obtain ⟨ih0, ih1⟩ := impl_SegmentOk.mono_l k
  refine ⟨?_, ?_⟩
  ·intro y0 y1 y2 y3 y4
   unfold impl_SegmentOk.j0
   have m0 := @impl_EntryText.mono
   have m1 := @impl_HeadFrom.mono
   exact mo_
  ·intro y0 y1 y2 y3 y4 y5 y6
   unfold impl_SegmentOk.l0
   have m0 := @impl_EntryText.mono
   have m1 := @impl_HeadFrom.mono
   exact mo_
theorem impl_SegmentOk.mono : ∀ a0 a1 a2 a3 k, LeO (impl_SegmentOk.f k a0 a1 a2 a3) (impl_SegmentOk.f (k + 1) a0 a1 a2 a3) := by
 intro a0 a1 a2 a3 k
 obtain ⟨ih0, ih1⟩ := impl_SegmentOk.mono_l k
 unfold impl_SegmentOk.f
 have m0 := @impl_EntryText.mono
 have m1 := @impl_HeadFrom.mono
 exact mo_
def impl_SegmentOk.T9 : Bool × List (List Nat × List Nat) := (true, [([], []), ([0], [0]), ([], []), ([2], [2]), ([], []), ([4], [4]), ([3, 5], [3, 5]), ([1, 6], [1, 6]), ([7, 6, 0, 1, 2, 3, 4, 5, 6, 7], [7])])
def impl_SegmentOk.B9 : List Nat := [0, 1, 0, 4, 0, 16, 60, 127, 255]
theorem impl_SegmentOk.tab9 : rtab .any (opsOf Tryd.f55 9) = impl_SegmentOk.T9 := by kernel_rfl
theorem impl_SegmentOk.bits9 : waitsOk impl_SegmentOk.T9.2 impl_SegmentOk.B9 = true := by kernel_rfl
theorem impl_SegmentOk.calls (k : Nat) (a0_0 : Int) (a0_1 : ByteArray) (A0_2 : Option Addr) (c0_2 : Nat) (l0_2 : List (S27)) (a0_3 : ByteArray) (r : Bool) (w : World) (hr0_2 : Kd.C k27 w A0_2 l0_2.length l0_2) (hc0_2 : l0_2.length ≤ c0_2) (hT : Tab w) (h : impl_SegmentOk.f k a0_0 a0_1 l0_2 a0_3 = some r) :
 Calls Tryd.prog 55 #[.agg #[.int .i64 a0_0, .string a0_1, .slice A0_2 l0_2.length c0_2, .string a0_3]] w fun e w' => e = .returned (.bool r) ∧ Below w.heap.size w w' := by
 have hu58 := Tryd.underlying58
 have hu27 := Tryd.underlying27
 have HR0_2 := Aside0.mk hr0_2
 have HC0_2 := Aside0.mk hc0_2
 clear hr0_2 hc0_2
 have HT := Aside0.mk hT
 clear hT
 have HB := Aside0.mk (Below.refl w.heap.size w)
 have H := h
 unfold impl_SegmentOk.f at H
 clear h
 have HC2 := Aside0.mk H
 clear H
 go_enter Tryd.func55, Tryd.ntmps55
 go_upto_region 1 with (first | ((with_reducible refine gate_dst (N := 1) rfl ?_); (try (refine gate_guard (by rfl) ?_; dsimp only)); refine bx_ 1 58 #[.int .i64 a0_0, .string a0_1, .slice A0_2 l0_2.length c0_2, .string a0_3] ?_; intro gb1058 hg w3 hbox hb; have BK1058 := Aside0.mk (hbox); have GW1058 := Aside0.mk ((hz_ : w.heap.size ≤ gb1058)); have GE1058 := Aside0.mk ((hz_ : w.heap.size ≤ gb1058)); replace HB := Aside0.mk (below_step bl_ hb); clear hb hbox hg))
 (try simp only [Act.put, List.setIfInBounds_toArray, List.set_cons_zero, List.set_cons_succ])
 go_cut [21] (fun v21 wc => ∃ (kq : Nat) (x21_1 : Bool), v21 = .bool x21_1 ∧ Aside0 (impl_SegmentOk.j0 kq x21_1 a0_0 a0_1 l0_2 a0_3 = some r) ∧ Aside0 (kq ≤ k) ∧ Aside0 (wc.heap[gb1058]? = some (.cells #[.int .i64 a0_0, .string a0_1, (.slice A0_2 l0_2.length c0_2), .string a0_3] 58 (0, 0))) ∧ Aside0 (Below w.heap.size w wc))
 case first =>
  have H := HC2.out
  clear HC2
  replace H := bs_ H
  obtain ⟨t1059, A4, H⟩ := H
  try dsimp only at H
  by_cases c5 : t1059 = true
  rotate_left
  ·replace c5 := Bool.eq_false_iff.mpr c5
   subst c5
   rw [nf_] at H
   have H' := Aside0.mk H
   clear H
   obtain ⟨hcz10_0, hcz10_1, hcz10_2, hcz10_3, hfz10_0, hfz10_1, hfz10_2, hfz10_3⟩ := cf4_ BK1058.out
   go_wp2_with (first | ((with_reducible refine gate_callee (f := 60) rfl ?_); refine gs_ (some 7) Tryd.func60 #[.int .i64 a0_0, .int .i64 0, .int .i64 200] ?_; (with_reducible refine (impl_within.calls a0_0 0 200 false _ A4.out).mono ?_); rintro e w' ⟨rfl, ⟨nd, rfl⟩⟩; refine ⟨_, rfl, ?_⟩))
   go_meet
   case rel => exact ⟨_, (true), (sr_), H', ⟨by first | omega | exact Nat.le_refl _⟩, ⟨bk_ BK1058.out⟩, ⟨bl_⟩⟩
  subst c5
  rw [if_pos rfl] at H
  by_cases c6 : (a0_1.size : Int) = 32
  rotate_left
  ·rw [if_neg c6] at H
   have c6b0 : ((a0_1.size : Int) == 32) = false := beq_eq_false_iff_ne.mpr c6
   have c6b1 : ((a0_1.size : Int) != 32) = true := bne_iff_ne.mpr c6
   (first | rw [c6b0] | (simp only [i64_w, i32_w]; rw [c6b0]) | skip)
   have H' := Aside0.mk H
   clear H
   obtain ⟨hcz9_0, hcz9_1, hcz9_2, hcz9_3, hfz9_0, hfz9_1, hfz9_2, hfz9_3⟩ := cf4_ BK1058.out
   go_wp2_with (first | ((with_reducible refine gate_callee (f := 60) rfl ?_); refine gs_ (some 7) Tryd.func60 #[.int .i64 a0_0, .int .i64 0, .int .i64 200] ?_; (with_reducible refine (impl_within.calls a0_0 0 200 true _ A4.out).mono ?_); rintro e w' ⟨rfl, ⟨nd, rfl⟩⟩; refine ⟨_, rfl, ?_⟩))
   go_meet
   case rel => exact ⟨_, (true), (sr_), H', ⟨by first | omega | exact Nat.le_refl _⟩, ⟨bk_ BK1058.out⟩, ⟨bl_⟩⟩
  rw [if_pos c6] at H
  have c6b0 : ((a0_1.size : Int) == 32) = true := beq_iff_eq.mpr c6
  have c6b1 : ((a0_1.size : Int) != 32) = false := bne_eq_false_iff_eq.mpr c6
  clear c6
  (first | rw [c6b0] | (simp only [i64_w, i32_w]; rw [c6b0]) | skip)
  replace H := bs_ H
  obtain ⟨t1060, A7, H⟩ := H
  try dsimp only at H
  have H' := Aside0.mk H
  clear H
  obtain ⟨hcz8_0, hcz8_1, hcz8_2, hcz8_3, hfz8_0, hfz8_1, hfz8_2, hfz8_3⟩ := cf4_ BK1058.out
  go_wp2_with (first | ((with_reducible refine gate_callee (f := 60) rfl ?_); refine gs_ (some 7) Tryd.func60 #[.int .i64 a0_0, .int .i64 0, .int .i64 200] ?_; (with_reducible refine (impl_within.calls a0_0 0 200 true _ A4.out).mono ?_); rintro e w' ⟨rfl, ⟨nd, rfl⟩⟩; refine ⟨_, rfl, ?_⟩) | (go_at_call 60; (with_reducible refine (impl_within.calls (l0_2.length : Int) 1 200 t1060 _ A7.out).mono ?_); rintro e w' ⟨rfl, ⟨nd, rfl⟩⟩))
  go_meet
  case rel => exact ⟨_, (!t1060), (sr_), H', ⟨by first | omega | exact Nat.le_refl _⟩, ⟨bk_ BK1058.out⟩, ⟨bl_⟩⟩
 clear HC2
 obtain ⟨kq, x21_1, rfl, HA, HJ1, BK1058, HB⟩ := hcut
 cases kq with
 | zero => exact absurd HA.out (by simp [impl_SegmentOk.j0])
 | succ kj1 => ?_
 have H := HA.out
 clear HA
 simp only [impl_SegmentOk.j0] at H
 by_cases c11 : x21_1 = true
 ·subst c11
  rw [if_pos rfl] at H
  obtain rfl := Option.some.inj H
  go_wp2
  go_ret
  exact ⟨er_, bl_⟩
 replace c11 := Bool.eq_false_iff.mpr c11
 subst c11
 rw [nf_] at H
 have H' := Aside0.mk H
 clear H
 obtain ⟨hcz12_0, hcz12_1, hcz12_2, hcz12_3, hfz12_0, hfz12_1, hfz12_2, hfz12_3⟩ := cf4_ BK1058.out
 go_wp2
 go_loopg [25] kj1 (fun kq v25 w' => ∃ (x25_2 : Int), v25 = .int .i64 x25_2 ∧ Aside0 (impl_SegmentOk.l0 kq l0_2 (l0_2.length : Int) x25_2 a0_0 a0_1 l0_2 a0_3 = some r) ∧ Aside0 (kq ≤ kj1) ∧ Aside0 (w'.heap[gb1058]? = some (.cells #[.int .i64 a0_0, .string a0_1, (.slice A0_2 l0_2.length c0_2), .string a0_3] 58 (0, 0))) ∧ Aside0 (Below w.heap.size w w'))
 case atStart => exact ⟨(0), (sr_), H', ⟨Nat.le_refl _⟩, ⟨bk_ BK1058.out⟩, ⟨bl_⟩⟩
 clear H'
 try clear c11
 try clear hcz12_0
 try clear hcz12_1
 try clear hcz12_2
 try clear hcz12_3
 try clear hfz12_0
 try clear hfz12_1
 try clear hfz12_2
 try clear hfz12_3
 obtain ⟨x25_2, rfl, HA, HK2, BK1058, HB⟩ := hrel
 cases gk with
 | zero => exact absurd HA.out (by simp [impl_SegmentOk.l0])
 | succ k2 => ?_
 have H := HA.out
 clear HA
 simp only [impl_SegmentOk.l0] at H
 by_cases c13 : x25_2 < (l0_2.length : Int)
 rotate_left
 ·rw [if_neg c13] at H
  have c13b0 := decide_eq_false c13
  clear c13
  replace H := bs_ H
  obtain ⟨t1064, A26, H⟩ := H
  try dsimp only at H
  obtain rfl := Option.some.inj H
  try go_wp2
  have n0_ := Aside0.mk (blk_drew BK1058.out)
  have n1_ := Aside0.mk (below_drew1 HB.out)
  clear BK1058
  clear HB
  have BK1058 := n0_
  have HB := n1_
  clear n0_ n1_
  refine start_ (n := 9) (S := fun w' => w'.cell? ⟨gb1058, 0, none⟩ = some (.int .i64 a0_0) ∧ w'.cell? ⟨gb1058, 1, none⟩ = some (.string a0_1) ∧ w'.cell? ⟨gb1058, 2, none⟩ = some (.slice A0_2 l0_2.length c0_2) ∧ w'.cell? ⟨gb1058, 3, none⟩ = some (.string a0_3)) (ds := []) #[false, false, false, false, false, false, false, false, false] (by kernel_rfl) rfl rfl ⟨(blk_cell BK1058.out 0).trans rfl, (blk_cell BK1058.out 1).trans rfl, (blk_cell BK1058.out 2).trans rfl, (blk_cell BK1058.out 3).trans rfl⟩ (fun hHeld => ?_); refine with_tabW impl_SegmentOk.tab9 impl_SegmentOk.bits9 (fun HT_ HW_ => ?_)
  generalize wr.drew = w27 at BK1058 HB hHeld ⊢
  refine pu_ 0 33 HT_ ?_
  refine pu_ 2 35 HT_ ?_
  refine pu_ 4 37 HT_ ?_
  refine ta_ 1 34 HT_ HW_ hHeld ?_ (r := by rintro w' ⟨s0, s1, s2, s3⟩; go_simp; with_reducible rfl)
  refine ta_ 3 36 HT_ HW_ hHeld ?_ (r := by rintro w' ⟨s0, s1, s2, s3⟩; go_simp; with_reducible rfl)
  refine ta_ 5 38 HT_ HW_ hHeld ?_ (r := by rintro w' ⟨s0, s1, s2, s3⟩; go_simp; with_reducible rfl)
  refine on_ 6 39 HT_ (fun K hK => ?_)
  refine goes_ Tryd.func51 (by kernel_rfl) rfl #[.string a0_1, .slice A0_2 l0_2.length c0_2] (by rfl) rfl rfl lm_ ?_
  with_reducible refine (impl_HeadFrom.calls k2 a0_1 _ _ l0_2 t1064 _ ?side1 ?side2 ?side3 A26.out).mono ?_
  (case side1 => exact cb_ HR0_2.out HB.out)
  (case side2 => exact HC0_2.out)
  (case side3 => exact tab_of HT.out bl_)
  rintro e w28 ⟨rfl, hb⟩
  refine ⟨_, rfl, ?_⟩
  have n0_ := Aside0.mk (blk_below (bn0_ BK1058.out) hb)
  have n1_ := Aside0.mk (below_step bl_ hb)
  clear BK1058
  clear HB
  have BK1058 := n0_
  have HB := n1_
  clear n0_ n1_
  (try clear hb)
  (try clear hb2)
  (try clear hk)
  (try clear hi)
  refine hK.out _ _ ⟨(blk_cell BK1058.out 0).trans rfl, (blk_cell BK1058.out 1).trans rfl, (blk_cell BK1058.out 2).trans rfl, (blk_cell BK1058.out 3).trans rfl⟩ (fun hHeld => ?_)
  clear hK K
  refine norm_ (a' := ?_) ?_ ?_
  rotate_left
  ·show Act.put _ (some 39) _ = _
   simp only [Act.put, List.setIfInBounds_toArray, List.set_cons_zero, List.set_cons_succ, i64_w, i32_w]
   rfl
  refine pu_ 7 40 HT_ ?_
  refine pu_ 8 2 HT_ ?_
  refine done_ (done_of HT_.out (by kernel_rfl)) ?_
  try go_wp2
  go_ret
  exact ⟨er_, bl_⟩
 rw [if_pos c13] at H
 have c13b0 := decide_eq_true c13
 clear c13
 by_cases c14 : 0 ≤ x25_2
 rotate_left
 ·exact nn_ c14 H
 rw [if_pos c14] at H
 have c14b0 := decide_eq_true c14
 clear c14
 by_cases c15 : x25_2 < (l0_2.length : Int)
 rotate_left
 ·exact nn_ c15 H
 rw [if_pos c15] at H
 have c15b0 := decide_eq_true c15
 clear c15
 replace H := bs_ H
 obtain ⟨t1063, A16, H⟩ := H
 try dsimp only at H
 by_cases c17 : t1063.toList = ([] : List UInt8)
 ·rw [if_pos c17] at H
  have c17b0 : (t1063.toList == ([] : List UInt8)) = true := beq_iff_eq.mpr c17
  have c17b1 : (t1063.toList != ([] : List UInt8)) = false := bne_eq_false_iff_eq.mpr c17
  clear c17
  obtain rfl := Option.some.inj H
  have p1061 : 0 ≤ (x25_2 : Int) := of_decide_eq_true as_
  have q1061 : x25_2 < (l0_2.length : Int) := of_decide_eq_true as_
  obtain ⟨ad1061, e1061, hx1061_0, hx1061_1, hx1061_2, hx1061_3, hx1061_4, hx1061_5⟩ := at_T27 HR0_2.out x25_2 p1061 q1061
  cases e1061
  replace hx1061_0 := (HB.out.cell (World.block_lt_of_cell? w _ hx1061_0)).trans hx1061_0
  replace hx1061_1 := (HB.out.cell (World.block_lt_of_cell? w _ hx1061_1)).trans hx1061_1
  replace hx1061_2 := (HB.out.cell (World.block_lt_of_cell? w _ hx1061_2)).trans hx1061_2
  replace hx1061_3 := (HB.out.cell (World.block_lt_of_cell? w _ hx1061_3)).trans hx1061_3
  replace hx1061_4 := (HB.out.cell (World.block_lt_of_cell? w _ hx1061_4)).trans hx1061_4
  replace hx1061_5 := (HB.out.cell (World.block_lt_of_cell? w _ hx1061_5)).trans hx1061_5
  replace p1061 := eq_true p1061
  replace q1061 := eq_true q1061
  go_wp2_with (first | ((with_reducible refine gate_dst (N := 4) rfl ?_); (try (refine gate_guard (by rfl) ?_; dsimp only)); refine bx_ 4 27 #[.int .i64 0, .int .i64 0, .int .i64 0, .int .i64 0, .int .i64 0, .int .i64 0] ?_; intro gb1062 hg w18 hbox hb; have BK1062 := Aside0.mk (hbox); have GW1062 := Aside0.mk ((hz_ : w.heap.size ≤ gb1062)); have GE1062 := Aside0.mk ((hz_ : w.heap.size ≤ gb1062)); replace HB := Aside0.mk (below_step bl_ hb); have NB1058_1062 := Aside0.mk ((by rw [hg]; exact Nat.ne_of_lt (blk_lt (g := gb1058) (o := .cells #[.int .i64 a0_0, .string a0_1, .slice (some ad1061) l0_2.length c0_2, .string a0_3] 58 (0, 0)) (bk_ BK1058.out)) : gb1058 ≠ gb1062)); have NB1062_1058 := Aside0.mk ((by rw [hg]; exact Nat.ne_of_gt (blk_lt (g := gb1058) (o := .cells #[.int .i64 a0_0, .string a0_1, .slice (some ad1061) l0_2.length c0_2, .string a0_3] 58 (0, 0)) (bk_ BK1058.out)) : gb1062 ≠ gb1058)); replace BK1058 := Aside0.mk (blk_below (bn0_ BK1058.out) hb); clear hb hbox hg; have hnb19 := NB1062_1058.out; have hnc19 := NB1058_1062.out; obtain ⟨hcz20_0, hcz20_1, hcz20_2, hcz20_3, hcz20_4, hcz20_5, hfz20_0, hfz20_1, hfz20_2, hfz20_3, hfz20_4, hfz20_5⟩ := cf6_ BK1062.out) | ((with_reducible refine gate_callee (f := 31) rfl ?_); refine gs_ (some 30) Tryd.func31 #[.agg #[.int .i64 ((rd_T27 l0_2 x25_2).f0), .int .i64 ((rd_T27 l0_2 x25_2).f1), .int .i64 ((rd_T27 l0_2 x25_2).f2.f0), .int .i64 ((rd_T27 l0_2 x25_2).f2.f1), .int .i64 ((rd_T27 l0_2 x25_2).f2.f2), .int .i64 ((rd_T27 l0_2 x25_2).f2.f3)]] ?_; (with_reducible refine (impl_EntryText.calls k2 ((rd_T27 l0_2 x25_2).f0) ((rd_T27 l0_2 x25_2).f1) ((rd_T27 l0_2 x25_2).f2.f0) ((rd_T27 l0_2 x25_2).f2.f1) ((rd_T27 l0_2 x25_2).f2.f2) ((rd_T27 l0_2 x25_2).f2.f3) t1063 _ A16.out).mono ?_); rintro e w21 ⟨rfl, hb⟩; refine ⟨_, rfl, ?_⟩; replace BK1058 := Aside0.mk (blk_below (bn1_ BK1058.out NB1058_1062.out) hb); replace BK1062 := Aside0.mk (blk_below (g := gb1062) (o := .cells #[.int .i64 ((rd_T27 l0_2 x25_2).f0), .int .i64 ((rd_T27 l0_2 x25_2).f1), .int .i64 ((rd_T27 l0_2 x25_2).f2.f0), .int .i64 ((rd_T27 l0_2 x25_2).f2.f1), .int .i64 ((rd_T27 l0_2 x25_2).f2.f2), .int .i64 ((rd_T27 l0_2 x25_2).f2.f3)] 27 (0, 0)) (bp0_ BK1062.out) hb); replace HB := Aside0.mk (below_step bl_ hb); (try clear hb)))
  go_ret
  exact ⟨er_, bl_⟩
 rw [if_neg c17] at H
 have c17b0 : (t1063.toList == ([] : List UInt8)) = false := beq_eq_false_iff_ne.mpr c17
 have c17b1 : (t1063.toList != ([] : List UInt8)) = true := bne_iff_ne.mpr c17
 have H' := Aside0.mk H
 clear H
 have p1061 : 0 ≤ (x25_2 : Int) := of_decide_eq_true as_
 have q1061 : x25_2 < (l0_2.length : Int) := of_decide_eq_true as_
 obtain ⟨ad1061, e1061, hx1061_0, hx1061_1, hx1061_2, hx1061_3, hx1061_4, hx1061_5⟩ := at_T27 HR0_2.out x25_2 p1061 q1061
 cases e1061
 replace hx1061_0 := (HB.out.cell (World.block_lt_of_cell? w _ hx1061_0)).trans hx1061_0
 replace hx1061_1 := (HB.out.cell (World.block_lt_of_cell? w _ hx1061_1)).trans hx1061_1
 replace hx1061_2 := (HB.out.cell (World.block_lt_of_cell? w _ hx1061_2)).trans hx1061_2
 replace hx1061_3 := (HB.out.cell (World.block_lt_of_cell? w _ hx1061_3)).trans hx1061_3
 replace hx1061_4 := (HB.out.cell (World.block_lt_of_cell? w _ hx1061_4)).trans hx1061_4
 replace hx1061_5 := (HB.out.cell (World.block_lt_of_cell? w _ hx1061_5)).trans hx1061_5
 replace p1061 := eq_true p1061
 replace q1061 := eq_true q1061
 go_wp2_with (first | ((with_reducible refine gate_dst (N := 4) rfl ?_); (try (refine gate_guard (by rfl) ?_; dsimp only)); refine bx_ 4 27 #[.int .i64 0, .int .i64 0, .int .i64 0, .int .i64 0, .int .i64 0, .int .i64 0] ?_; intro gb1062 hg w22 hbox hb; have BK1062 := Aside0.mk (hbox); have GW1062 := Aside0.mk ((hz_ : w.heap.size ≤ gb1062)); have GE1062 := Aside0.mk ((hz_ : w.heap.size ≤ gb1062)); replace HB := Aside0.mk (below_step bl_ hb); have NB1058_1062 := Aside0.mk ((by rw [hg]; exact Nat.ne_of_lt (blk_lt (g := gb1058) (o := .cells #[.int .i64 a0_0, .string a0_1, .slice (some ad1061) l0_2.length c0_2, .string a0_3] 58 (0, 0)) (bk_ BK1058.out)) : gb1058 ≠ gb1062)); have NB1062_1058 := Aside0.mk ((by rw [hg]; exact Nat.ne_of_gt (blk_lt (g := gb1058) (o := .cells #[.int .i64 a0_0, .string a0_1, .slice (some ad1061) l0_2.length c0_2, .string a0_3] 58 (0, 0)) (bk_ BK1058.out)) : gb1062 ≠ gb1058)); replace BK1058 := Aside0.mk (blk_below (bn0_ BK1058.out) hb); clear hb hbox hg; have hnb23 := NB1062_1058.out; have hnc23 := NB1058_1062.out; obtain ⟨hcz24_0, hcz24_1, hcz24_2, hcz24_3, hcz24_4, hcz24_5, hfz24_0, hfz24_1, hfz24_2, hfz24_3, hfz24_4, hfz24_5⟩ := cf6_ BK1062.out) | ((with_reducible refine gate_callee (f := 31) rfl ?_); refine gs_ (some 30) Tryd.func31 #[.agg #[.int .i64 ((rd_T27 l0_2 x25_2).f0), .int .i64 ((rd_T27 l0_2 x25_2).f1), .int .i64 ((rd_T27 l0_2 x25_2).f2.f0), .int .i64 ((rd_T27 l0_2 x25_2).f2.f1), .int .i64 ((rd_T27 l0_2 x25_2).f2.f2), .int .i64 ((rd_T27 l0_2 x25_2).f2.f3)]] ?_; (with_reducible refine (impl_EntryText.calls k2 ((rd_T27 l0_2 x25_2).f0) ((rd_T27 l0_2 x25_2).f1) ((rd_T27 l0_2 x25_2).f2.f0) ((rd_T27 l0_2 x25_2).f2.f1) ((rd_T27 l0_2 x25_2).f2.f2) ((rd_T27 l0_2 x25_2).f2.f3) t1063 _ A16.out).mono ?_); rintro e w25 ⟨rfl, hb⟩; refine ⟨_, rfl, ?_⟩; replace BK1058 := Aside0.mk (blk_below (bn1_ BK1058.out NB1058_1062.out) hb); replace BK1062 := Aside0.mk (blk_below (g := gb1062) (o := .cells #[.int .i64 ((rd_T27 l0_2 x25_2).f0), .int .i64 ((rd_T27 l0_2 x25_2).f1), .int .i64 ((rd_T27 l0_2 x25_2).f2.f0), .int .i64 ((rd_T27 l0_2 x25_2).f2.f1), .int .i64 ((rd_T27 l0_2 x25_2).f2.f2), .int .i64 ((rd_T27 l0_2 x25_2).f2.f3)] 27 (0, 0)) (bp0_ BK1062.out) hb); replace HB := Aside0.mk (below_step bl_ hb); (try clear hb)))
 go_roundg k2
 case measure => have := HJ1.out; have := HK2.out; omega
 case rel => exact ⟨(wrap64 (x25_2 + 1)), (sr_), H', ⟨by have := HJ1.out; have := HK2.out; omega⟩, ⟨bk_ BK1058.out⟩, ⟨bl_⟩⟩

end Go.Proofs.YtdlapahfmfhbjaaDoor.PA
