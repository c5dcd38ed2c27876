/- Contracts of functions of the program and of the reference, and plain lemmas on what they compute: a part of the proof of the law FnChainsTold. No condition. -/
import Derived.Test.YtdlapahfmfhbjaaDoorG523dfx0
import Derived.Test.YtdlapahfmfhbjaaDoorG523dfx1
import Derived.Test.YtdlapahfmfhbjaaDoorG523dfx2
import Derived.Test.YtdlapahfmfhbjaaDoorGe902ex0
import Derived.Test.YtdlapahfmfhbjaaDoorShortV
namespace Go.Proofs.YtdlapahfmfhbjaaDoor.PA
open Go.RowKit Go.Proofs.YtdlapahfmfhbjaaDoor.Short Go.Proofs.YtdlapahfmfhbjaaDoorW.PrintWords Go.Proofs.YtdlapahfmfhbjaaDoorW.PrintLast Go.Proofs.YtdlapahfmfhbjaaDoorW.PrintMore
attribute [local go_sem] max2_int min2_int max_two min_two max_three min_three max_four min_four   -- for this text's walks alone
set_option linter.unusedVariables false
set_option linter.unusedSimpArgs false

/-! ### spec_l17Frame: function 103 -/
def spec_l17Frame.f (s0_0 : List Int) (s0_1 : Int) (s0_2 : Int) : Option (Int × Int × Int × Int × Int × Int × Int × Int × Int) := (spec_l01Once.f s0_0 s0_1 s0_2 4).bind fun bt586 => (if bt586.1 = true then ((spec_l01Below.f s0_0 bt586.2.1 bt586.2.2 3).bind fun bt589 => ((spec_l01Below.f s0_0 bt589.2.1 bt589.2.2 6).bind fun bt592 => (some (2, bt589.1, wrap64 (1 + bt592.1), 0, 0, 0, 0, bt592.2.1, bt592.2.2)))) else ((spec_l01Below.f s0_0 bt586.2.1 bt586.2.2 3).bind fun bt595 => ((spec_l01Below.f s0_0 bt595.2.1 bt595.2.2 6).bind fun bt598 => ((spec_l17Item.f s0_0 bt598.2.1 bt598.2.2).bind fun bt601 => (some (1, bt595.1, wrap64 (1 + bt598.1), bt601.1, bt601.2.1, bt601.2.2.1, bt601.2.2.2.1, bt601.2.2.2.2.1, bt601.2.2.2.2.2))))))
set_option maxHeartbeats 8000000 in
set_option maxRecDepth 100000 in
theorem spec_l17Frame.calls (g : Nat) (s0_0 : List Int) (s0_1 : Int) (s0_2 : Int) (r1 : Int) (r2 : Int) (r3 : Int) (r4 : Int) (r5 : Int) (r6 : Int) (r7 : Int) (r8 : Int) (r9 : Int) (w0 w : World) (hI : IsS100 w0 w g s0_0 s0_1 s0_2) (hB : Below w0.heap.size w0 w) (h : spec_l17Frame.f s0_0 s0_1 s0_2 = some (r1, r2, r3, r4, r5, r6, r7, r8, r9)) :
 Calls Tryd.prog 103 #[.pointer (some ⟨g, 0, none⟩)] w fun e w' => e = .returned (.agg #[.int .i64 r1, .int .i64 r2, .int .i64 r3, .int .i64 r4, .int .i64 r5, .int .i64 r6, .int .i64 r7]) ∧ IsS100 w0 w' g s0_0 r8 r9 ∧ Below w0.heap.size w0 w' ∧ KeepBut w w' g none := by
 have hu80 := Tryd.underlying80
 have HI0 := Aside0.mk hI
 have HK := Aside0.mk (KeepBut.refl w g none)
 have HL := Aside0.mk hB.size
 clear hI
 have HW0 := Aside0.mk hB.size
 have HB := Aside0.mk hB
 clear hB
 have H : ((spec_l01Once.f s0_0 s0_1 s0_2 4).bind fun bt586 => (if bt586.1 = true then ((spec_l01Below.f s0_0 bt586.2.1 bt586.2.2 3).bind fun bt589 => ((spec_l01Below.f s0_0 bt589.2.1 bt589.2.2 6).bind fun bt592 => (some (2, bt589.1, wrap64 (1 + bt592.1), 0, 0, 0, 0, bt592.2.1, bt592.2.2)))) else ((spec_l01Below.f s0_0 bt586.2.1 bt586.2.2 3).bind fun bt595 => ((spec_l01Below.f s0_0 bt595.2.1 bt595.2.2 6).bind fun bt598 => ((spec_l17Item.f s0_0 bt598.2.1 bt598.2.2).bind fun bt601 => (some (1, bt595.1, wrap64 (1 + bt598.1), bt601.1, bt601.2.1, bt601.2.2.1, bt601.2.2.2.1, bt601.2.2.2.2.1, bt601.2.2.2.2.2))))))) = some (r1, r2, r3, r4, r5, r6, r7, r8, r9) := h
 clear h
 replace H := bs_ H
 obtain ⟨⟨t586, t587, t588⟩, A2, H⟩ := H
 try dsimp only at H
 by_cases c3 : t586 = true
 ·subst c3
  rw [if_pos rfl] at H
  replace H := bs_ H
  obtain ⟨⟨t589, t590, t591⟩, A4, H⟩ := H
  try dsimp only at H
  replace H := bs_ H
  obtain ⟨⟨t592, t593, t594⟩, A5, H⟩ := H
  try dsimp only at H
  simp only [Option.some.injEq, Prod.mk.injEq] at H
  obtain ⟨rfl, rfl, rfl, rfl, rfl, rfl, rfl, rfl, rfl⟩ := H
  go_enter Tryd.func103, Tryd.ntmps103
  go_wp2_with (first | ((with_reducible refine gate_dst (N := 2) rfl ?_); refine bx_ 2 80 #[.int .i64 0, .int .i64 0, .int .i64 0, .int .i64 0, .int .i64 0, .int .i64 0, .int .i64 0] ?_; intro gb585 hg w6 hbox hb; replace HB := Aside0.mk (below_step bi0_ hb); have BK585 := Aside0.mk (hbox); have GW585 := Aside0.mk ((by rw [hg]; exact (keep_size (w := w) (g := g) (row := none) hk_) : w.heap.size ≤ gb585)); have GE585 := Aside0.mk ((Nat.le_trans HW0.out (by rw [hg]; exact (keep_size (w := w) (g := g) (row := none) hk_) : w.heap.size ≤ gb585) : w0.heap.size ≤ gb585)); replace HK := Aside0.mk (KeepBut.trans hk_ (KeepBut.of_below hb g none) (.inl rfl)); have NB0_585 := Aside0.mk ((by rw [hg]; exact Nat.ne_of_lt (IsS100.lt (show IsS100 w0 _ g s0_0 s0_1 s0_2 from is0_)) : g ≠ gb585)); have NB585_0 := Aside0.mk ((by rw [hg]; exact Nat.ne_of_gt (IsS100.lt (show IsS100 w0 _ g s0_0 s0_1 s0_2 from is0_)) : gb585 ≠ g)); replace HI0 := Aside0.mk (IsS100.below is0_ hb); clear hb hbox hg) | ((with_reducible refine gate_callee (f := 87) rfl ?_); refine gs_ (some 4) Tryd.func87 #[.pointer (some ⟨g, 0, none⟩), .int .i64 4] ?_; (with_reducible refine (spec_l01Once.calls g s0_0 s0_1 s0_2 4 true t587 t588 w0 _ ?side1 ?side2 A2.out).mono ?_); (case side1 => exact is0_); (case side2 => exact bi0_); rintro e w7 ⟨rfl, hi, hb, hk⟩; refine ⟨_, rfl, ?_⟩; replace BK585 := Aside0.mk (KeepBut.blk hk (g' := gb585) (o := .cells #[.int .i64 0, .int .i64 0, .int .i64 0, .int .i64 0, .int .i64 0, .int .i64 0, .int .i64 0] 80 (0, 0)) (bk_ BK585.out) NB585_0.out (by simp)); replace HK := Aside0.mk (KeepBut.trans (by repeat (first | (with_reducible first | exact HK.out | apply KeepBut.set_ | apply keep_drewN | apply keep_drew | apply keep_alloc | refine keep_far ?_ GW585.out _) | exact HK.out)) hk (.inl rfl)); replace HB := Aside0.mk (hb); replace HI0 := Aside0.mk (hi); (try clear hb); (try clear hk); (try clear hi)) | ((with_reducible refine gate_callee (f := 64) rfl ?_); refine gs_ (some 6) Tryd.func64 #[.pointer (some ⟨g, 0, none⟩), .int .i64 3] ?_; (with_reducible refine (spec_l01Below.calls g s0_0 t587 t588 3 t589 t590 t591 w0 _ ?side1 ?side2 A4.out).mono ?_); (case side1 => exact is0_); (case side2 => exact bi0_); rintro e w8 ⟨rfl, hi, hb, hk⟩; refine ⟨_, rfl, ?_⟩; replace BK585 := Aside0.mk (KeepBut.blk hk (g' := gb585) (o := .cells #[.int .i64 0, .int .i64 0, .int .i64 0, .int .i64 0, .int .i64 0, .int .i64 0, .int .i64 0] 80 (0, 0)) (bk_ BK585.out) NB585_0.out (by simp)); replace HK := Aside0.mk (KeepBut.trans (by repeat (first | (with_reducible first | exact HK.out | apply KeepBut.set_ | apply keep_drewN | apply keep_drew | apply keep_alloc | refine keep_far ?_ GW585.out _) | exact HK.out)) hk (.inl rfl)); replace HB := Aside0.mk (hb); replace HI0 := Aside0.mk (hi); (try clear hb); (try clear hk); (try clear hi)) | ((with_reducible refine gate_callee (f := 64) rfl ?_); refine gs_ (some 8) Tryd.func64 #[.pointer (some ⟨g, 0, none⟩), .int .i64 6] ?_; (with_reducible refine (spec_l01Below.calls g s0_0 t590 t591 6 t592 t593 t594 w0 _ ?side1 ?side2 A5.out).mono ?_); (case side1 => exact is0_); (case side2 => exact bi0_); rintro e w9 ⟨rfl, hi, hb, hk⟩; refine ⟨_, rfl, ?_⟩; replace BK585 := Aside0.mk (KeepBut.blk hk (g' := gb585) (o := .cells #[.int .i64 0, .int .i64 0, .int .i64 0, .int .i64 0, .int .i64 0, .int .i64 0, .int .i64 0] 80 (0, 0)) (bk_ BK585.out) NB585_0.out (by simp)); replace HK := Aside0.mk (KeepBut.trans (by repeat (first | (with_reducible first | exact HK.out | apply KeepBut.set_ | apply keep_drewN | apply keep_drew | apply keep_alloc | refine keep_far ?_ GW585.out _) | exact HK.out)) hk (.inl rfl)); replace HB := Aside0.mk (hb); replace HI0 := Aside0.mk (hi); (try clear hb); (try clear hk); (try clear hi); have hnb10 := NB585_0.out; have hnc10 := NB0_585.out; obtain ⟨hcz11_0, hcz11_1, hcz11_2, hcz11_3, hcz11_4, hcz11_5, hcz11_6, hfz11_0, hfz11_1, hfz11_2, hfz11_3, hfz11_4, hfz11_5, hfz11_6⟩ := cf7_ BK585.out))
  refine bodyPost_ret (results_cell_row rfl _ _ gb585 80 #[.int .i64 2, .int .i64 t589, .int .i64 (wrap64 (1 + t592)), .int .i64 0, .int .i64 0, .int .i64 0, .int .i64 0] (0, 0) _ rfl (bp0_ BK585.out) Tryd.underlying80 rfl (by kernel_rfl)) rfl ?_
  exact ⟨er_, is0_, bi0_, hk_⟩
 replace c3 := Bool.eq_false_iff.mpr c3
 subst c3
 rw [if_neg (show ¬ (false = true) by decide)] at H
 replace H := bs_ H
 obtain ⟨⟨t595, t596, t597⟩, A12, H⟩ := H
 try dsimp only at H
 replace H := bs_ H
 obtain ⟨⟨t598, t599, t600⟩, A13, H⟩ := H
 try dsimp only at H
 replace H := bs_ H
 obtain ⟨⟨t601, t602, t603, t604, t605, t606⟩, A14, H⟩ := H
 try dsimp only at H
 simp only [Option.some.injEq, Prod.mk.injEq] at H
 obtain ⟨rfl, rfl, rfl, rfl, rfl, rfl, rfl, rfl, rfl⟩ := H
 go_enter Tryd.func103, Tryd.ntmps103
 go_wp2_with (first | ((with_reducible refine gate_dst (N := 2) rfl ?_); refine bx_ 2 80 #[.int .i64 0, .int .i64 0, .int .i64 0, .int .i64 0, .int .i64 0, .int .i64 0, .int .i64 0] ?_; intro gb585 hg w15 hbox hb; replace HB := Aside0.mk (below_step bi0_ hb); have BK585 := Aside0.mk (hbox); have GW585 := Aside0.mk ((by rw [hg]; exact (keep_size (w := w) (g := g) (row := none) hk_) : w.heap.size ≤ gb585)); have GE585 := Aside0.mk ((Nat.le_trans HW0.out (by rw [hg]; exact (keep_size (w := w) (g := g) (row := none) hk_) : w.heap.size ≤ gb585) : w0.heap.size ≤ gb585)); replace HK := Aside0.mk (KeepBut.trans hk_ (KeepBut.of_below hb g none) (.inl rfl)); have NB0_585 := Aside0.mk ((by rw [hg]; exact Nat.ne_of_lt (IsS100.lt (show IsS100 w0 _ g s0_0 s0_1 s0_2 from is0_)) : g ≠ gb585)); have NB585_0 := Aside0.mk ((by rw [hg]; exact Nat.ne_of_gt (IsS100.lt (show IsS100 w0 _ g s0_0 s0_1 s0_2 from is0_)) : gb585 ≠ g)); replace HI0 := Aside0.mk (IsS100.below is0_ hb); clear hb hbox hg) | ((with_reducible refine gate_callee (f := 87) rfl ?_); refine gs_ (some 4) Tryd.func87 #[.pointer (some ⟨g, 0, none⟩), .int .i64 4] ?_; (with_reducible refine (spec_l01Once.calls g s0_0 s0_1 s0_2 4 false t587 t588 w0 _ ?side1 ?side2 A2.out).mono ?_); (case side1 => exact is0_); (case side2 => exact bi0_); rintro e w16 ⟨rfl, hi, hb, hk⟩; refine ⟨_, rfl, ?_⟩; replace BK585 := Aside0.mk (KeepBut.blk hk (g' := gb585) (o := .cells #[.int .i64 0, .int .i64 0, .int .i64 0, .int .i64 0, .int .i64 0, .int .i64 0, .int .i64 0] 80 (0, 0)) (bk_ BK585.out) NB585_0.out (by simp)); replace HK := Aside0.mk (KeepBut.trans (by repeat (first | (with_reducible first | exact HK.out | apply KeepBut.set_ | apply keep_drewN | apply keep_drew | apply keep_alloc | refine keep_far ?_ GW585.out _) | exact HK.out)) hk (.inl rfl)); replace HB := Aside0.mk (hb); replace HI0 := Aside0.mk (hi); (try clear hb); (try clear hk); (try clear hi)) | ((with_reducible refine gate_callee (f := 64) rfl ?_); refine gs_ (some 12) Tryd.func64 #[.pointer (some ⟨g, 0, none⟩), .int .i64 3] ?_; (with_reducible refine (spec_l01Below.calls g s0_0 t587 t588 3 t595 t596 t597 w0 _ ?side1 ?side2 A12.out).mono ?_); (case side1 => exact is0_); (case side2 => exact bi0_); rintro e w17 ⟨rfl, hi, hb, hk⟩; refine ⟨_, rfl, ?_⟩; replace BK585 := Aside0.mk (KeepBut.blk hk (g' := gb585) (o := .cells #[.int .i64 0, .int .i64 0, .int .i64 0, .int .i64 0, .int .i64 0, .int .i64 0, .int .i64 0] 80 (0, 0)) (bk_ BK585.out) NB585_0.out (by simp)); replace HK := Aside0.mk (KeepBut.trans (by repeat (first | (with_reducible first | exact HK.out | apply KeepBut.set_ | apply keep_drewN | apply keep_drew | apply keep_alloc | refine keep_far ?_ GW585.out _) | exact HK.out)) hk (.inl rfl)); replace HB := Aside0.mk (hb); replace HI0 := Aside0.mk (hi); (try clear hb); (try clear hk); (try clear hi)) | ((with_reducible refine gate_callee (f := 64) rfl ?_); refine gs_ (some 14) Tryd.func64 #[.pointer (some ⟨g, 0, none⟩), .int .i64 6] ?_; (with_reducible refine (spec_l01Below.calls g s0_0 t596 t597 6 t598 t599 t600 w0 _ ?side1 ?side2 A13.out).mono ?_); (case side1 => exact is0_); (case side2 => exact bi0_); rintro e w18 ⟨rfl, hi, hb, hk⟩; refine ⟨_, rfl, ?_⟩; replace BK585 := Aside0.mk (KeepBut.blk hk (g' := gb585) (o := .cells #[.int .i64 0, .int .i64 0, .int .i64 0, .int .i64 0, .int .i64 0, .int .i64 0, .int .i64 0] 80 (0, 0)) (bk_ BK585.out) NB585_0.out (by simp)); replace HK := Aside0.mk (KeepBut.trans (by repeat (first | (with_reducible first | exact HK.out | apply KeepBut.set_ | apply keep_drewN | apply keep_drew | apply keep_alloc | refine keep_far ?_ GW585.out _) | exact HK.out)) hk (.inl rfl)); replace HB := Aside0.mk (hb); replace HI0 := Aside0.mk (hi); (try clear hb); (try clear hk); (try clear hi)) | ((with_reducible refine gate_callee (f := 114) rfl ?_); refine gs_ (some 17) Tryd.func114 #[.pointer (some ⟨g, 0, none⟩)] ?_; (with_reducible refine (spec_l17Item.calls g s0_0 t599 t600 t601 t602 t603 t604 t605 t606 w0 _ ?side1 ?side2 A14.out).mono ?_); (case side1 => exact is0_); (case side2 => exact bi0_); rintro e w19 ⟨rfl, hi, hb, hk⟩; refine ⟨_, rfl, ?_⟩; replace BK585 := Aside0.mk (KeepBut.blk hk (g' := gb585) (o := .cells #[.int .i64 0, .int .i64 0, .int .i64 0, .int .i64 0, .int .i64 0, .int .i64 0, .int .i64 0] 80 (0, 0)) (bk_ BK585.out) NB585_0.out (by simp)); replace HK := Aside0.mk (KeepBut.trans (by repeat (first | (with_reducible first | exact HK.out | apply KeepBut.set_ | apply keep_drewN | apply keep_drew | apply keep_alloc | refine keep_far ?_ GW585.out _) | exact HK.out)) hk (.inl rfl)); replace HB := Aside0.mk (hb); replace HI0 := Aside0.mk (hi); (try clear hb); (try clear hk); (try clear hi); have hnb20 := NB585_0.out; have hnc20 := NB0_585.out; obtain ⟨hcz21_0, hcz21_1, hcz21_2, hcz21_3, hcz21_4, hcz21_5, hcz21_6, hfz21_0, hfz21_1, hfz21_2, hfz21_3, hfz21_4, hfz21_5, hfz21_6⟩ := cf7_ BK585.out))
 refine bodyPost_ret (results_cell_row rfl _ _ gb585 80 #[.int .i64 1, .int .i64 t595, .int .i64 (wrap64 (1 + t598)), .int .i64 t601, .int .i64 t602, .int .i64 t603, .int .i64 t604] (0, 0) _ rfl (bp0_ BK585.out) Tryd.underlying80 rfl (by kernel_rfl)) rfl ?_
 exact ⟨er_, is0_, bi0_, hk_⟩


section
theorem isSome_setCell_l17Any (w : World) (p a : Addr) (v : Value) : ((w.setCell p v).cell? a).isSome = (w.cell? a).isSome := by
 unfold World.setCell World.cell?
 simp only [Array.getElem?_modify]
 by_cases h : p.block = a.block
 ·rw [if_pos h]
  cases hb : w.heap[a.block]? with
  | none => rfl
  | some o =>
   cases o <;> try rfl
   rename_i c e f
   simp only [Option.map_some]
   by_cases hs : a.spot.isSome = true
   ·rw [if_pos hs, if_pos hs]
   ·rw [if_neg hs, if_neg hs]
    by_cases hp : p.spot.isSome = true
    ·rw [if_pos hp]
    ·rw [if_neg hp, Array.getElem?_setIfInBounds]
     split
     ·rename_i he
      split
      ·rename_i hl
       rw [he] at hl
       rw [Array.getElem?_eq_getElem hl]
       rfl
      ·rename_i hl
       rw [he] at hl
       rw [Array.getElem?_eq_none (by omega)]
     ·rfl
 ·rw [if_neg h]
attribute [local go_sem] isSome_setCell_l17Any
/-! ### spec_l17Any: function 70 -/
def spec_l17Any.f (s0_0 : List Int) (s0_1 : Int) (s0_2 : Int) : Option (Int × Int × Int × Int × Int × Int × Int × Int × Int) := (spec_l01Below.f s0_0 s0_1 s0_2 10).bind fun bt608 => ((spec_l01Below.f s0_0 bt608.2.1 bt608.2.2 60).bind fun bt611 => ((spec_l17Frame.f s0_0 bt611.2.1 bt611.2.2).bind fun bt614 => (if bt608.1 = 0 then (some (Int.tmod bt611.1 4, bt614.2.1, bt614.2.2.1, bt614.2.2.2.1, bt614.2.2.2.2.1, bt614.2.2.2.2.2.1, bt614.2.2.2.2.2.2.1, bt614.2.2.2.2.2.2.2.1, bt614.2.2.2.2.2.2.2.2)) else (if bt608.1 = 1 then (some (bt614.1, wrap64 ((Int.tmod bt611.1 6) - 1), bt614.2.2.1, bt614.2.2.2.1, bt614.2.2.2.2.1, bt614.2.2.2.2.2.1, bt614.2.2.2.2.2.2.1, bt614.2.2.2.2.2.2.2.1, bt614.2.2.2.2.2.2.2.2)) else (if bt608.1 = 2 then ((some (([0, 1000000000, 1000000001, (-1)] : List Int) : List Int)).bind fun y624 => (if 0 ≤ (Int.tmod bt611.1 4) then (if (Int.tmod bt611.1 4) < (y624.length : Int) then (some (bt614.1, bt614.2.1, rd y624 (Int.tmod bt611.1 4), bt614.2.2.2.1, bt614.2.2.2.2.1, bt614.2.2.2.2.2.1, bt614.2.2.2.2.2.2.1, bt614.2.2.2.2.2.2.2.1, bt614.2.2.2.2.2.2.2.2)) else (none)) else (none))) else (if bt608.1 = 3 then (some (bt614.1, bt614.2.1, bt614.2.2.1, bt614.2.2.2.1, bt614.2.2.2.2.1, bt614.2.2.2.2.2.1, Int.tmod bt611.1 3, bt614.2.2.2.2.2.2.2.1, bt614.2.2.2.2.2.2.2.2)) else (some (bt614.1, bt614.2.1, bt614.2.2.1, bt614.2.2.2.1, bt614.2.2.2.2.1, bt614.2.2.2.2.2.1, bt614.2.2.2.2.2.2.1, bt614.2.2.2.2.2.2.2.1, bt614.2.2.2.2.2.2.2.2))))))))
set_option maxHeartbeats 8000000 in
set_option maxRecDepth 100000 in
theorem spec_l17Any.calls (g : Nat) (s0_0 : List Int) (s0_1 : Int) (s0_2 : Int) (r1 : Int) (r2 : Int) (r3 : Int) (r4 : Int) (r5 : Int) (r6 : Int) (r7 : Int) (r8 : Int) (r9 : Int) (w0 w : World) (hI : IsS100 w0 w g s0_0 s0_1 s0_2) (hB : Below w0.heap.size w0 w) (h : spec_l17Any.f s0_0 s0_1 s0_2 = some (r1, r2, r3, r4, r5, r6, r7, r8, r9)) :
 Calls Tryd.prog 70 #[.pointer (some ⟨g, 0, none⟩)] w fun e w' => e = .returned (.agg #[.int .i64 r1, .int .i64 r2, .int .i64 r3, .int .i64 r4, .int .i64 r5, .int .i64 r6, .int .i64 r7]) ∧ IsS100 w0 w' g s0_0 r8 r9 ∧ Below w0.heap.size w0 w' ∧ KeepBut w w' g none := by
 have hu80 := Tryd.underlying80
 have HI0 := Aside0.mk hI
 have HK := Aside0.mk (KeepBut.refl w g none)
 have HL := Aside0.mk hB.size
 clear hI
 have HW0 := Aside0.mk hB.size
 have HB := Aside0.mk hB
 clear hB
 have H : ((spec_l01Below.f s0_0 s0_1 s0_2 10).bind fun bt608 => ((spec_l01Below.f s0_0 bt608.2.1 bt608.2.2 60).bind fun bt611 => ((spec_l17Frame.f s0_0 bt611.2.1 bt611.2.2).bind fun bt614 => (if bt608.1 = 0 then (some (Int.tmod bt611.1 4, bt614.2.1, bt614.2.2.1, bt614.2.2.2.1, bt614.2.2.2.2.1, bt614.2.2.2.2.2.1, bt614.2.2.2.2.2.2.1, bt614.2.2.2.2.2.2.2.1, bt614.2.2.2.2.2.2.2.2)) else (if bt608.1 = 1 then (some (bt614.1, wrap64 ((Int.tmod bt611.1 6) - 1), bt614.2.2.1, bt614.2.2.2.1, bt614.2.2.2.2.1, bt614.2.2.2.2.2.1, bt614.2.2.2.2.2.2.1, bt614.2.2.2.2.2.2.2.1, bt614.2.2.2.2.2.2.2.2)) else (if bt608.1 = 2 then ((some (([0, 1000000000, 1000000001, (-1)] : List Int) : List Int)).bind fun y624 => (if 0 ≤ (Int.tmod bt611.1 4) then (if (Int.tmod bt611.1 4) < (y624.length : Int) then (some (bt614.1, bt614.2.1, rd y624 (Int.tmod bt611.1 4), bt614.2.2.2.1, bt614.2.2.2.2.1, bt614.2.2.2.2.2.1, bt614.2.2.2.2.2.2.1, bt614.2.2.2.2.2.2.2.1, bt614.2.2.2.2.2.2.2.2)) else (none)) else (none))) else (if bt608.1 = 3 then (some (bt614.1, bt614.2.1, bt614.2.2.1, bt614.2.2.2.1, bt614.2.2.2.2.1, bt614.2.2.2.2.2.1, Int.tmod bt611.1 3, bt614.2.2.2.2.2.2.2.1, bt614.2.2.2.2.2.2.2.2)) else (some (bt614.1, bt614.2.1, bt614.2.2.1, bt614.2.2.2.1, bt614.2.2.2.2.1, bt614.2.2.2.2.2.1, bt614.2.2.2.2.2.2.1, bt614.2.2.2.2.2.2.2.1, bt614.2.2.2.2.2.2.2.2))))))))) = some (r1, r2, r3, r4, r5, r6, r7, r8, r9) := h
 clear h
 replace H := bs_ H
 obtain ⟨⟨t608, t609, t610⟩, A2, H⟩ := H
 try dsimp only at H
 replace H := bs_ H
 obtain ⟨⟨t611, t612, t613⟩, A3, H⟩ := H
 try dsimp only at H
 replace H := bs_ H
 obtain ⟨⟨t614, t615, t616, t617, t618, t619, t620, t621, t622⟩, A4, H⟩ := H
 try dsimp only at H
 by_cases c5 : t608 = 0
 ·rw [if_pos c5] at H
  have c5b0 : (t608 == 0) = true := beq_iff_eq.mpr c5
  have c5b1 : (t608 != 0) = false := bne_eq_false_iff_eq.mpr c5
  clear c5
  simp only [Option.some.injEq, Prod.mk.injEq] at H
  obtain ⟨rfl, rfl, rfl, rfl, rfl, rfl, rfl, rfl, rfl⟩ := H
  go_enter Tryd.func70, Tryd.ntmps70
  go_wp2_with (first | ((with_reducible refine gate_dst (N := 2) rfl ?_); refine bx_ 2 80 #[.int .i64 0, .int .i64 0, .int .i64 0, .int .i64 0, .int .i64 0, .int .i64 0, .int .i64 0] ?_; intro gb607 hg w6 hbox hb; replace HB := Aside0.mk (below_step bi0_ hb); have BK607 := Aside0.mk (hbox); have GW607 := Aside0.mk ((by rw [hg]; exact (keep_size (w := w) (g := g) (row := none) hk_) : w.heap.size ≤ gb607)); have GE607 := Aside0.mk ((Nat.le_trans HW0.out (by rw [hg]; exact (keep_size (w := w) (g := g) (row := none) hk_) : w.heap.size ≤ gb607) : w0.heap.size ≤ gb607)); replace HK := Aside0.mk (KeepBut.trans hk_ (KeepBut.of_below hb g none) (.inl rfl)); have NB0_607 := Aside0.mk ((by rw [hg]; exact Nat.ne_of_lt (IsS100.lt (show IsS100 w0 _ g s0_0 s0_1 s0_2 from is0_)) : g ≠ gb607)); have NB607_0 := Aside0.mk ((by rw [hg]; exact Nat.ne_of_gt (IsS100.lt (show IsS100 w0 _ g s0_0 s0_1 s0_2 from is0_)) : gb607 ≠ g)); replace HI0 := Aside0.mk (IsS100.below is0_ hb); clear hb hbox hg) | ((with_reducible refine gate_callee (f := 64) rfl ?_); refine gs_ (some 7) Tryd.func64 #[.pointer (some ⟨g, 0, none⟩), .int .i64 10] ?_; (with_reducible refine (spec_l01Below.calls g s0_0 s0_1 s0_2 10 t608 t609 t610 w0 _ ?side1 ?side2 A2.out).mono ?_); (case side1 => exact is0_); (case side2 => exact bi0_); rintro e w7 ⟨rfl, hi, hb, hk⟩; refine ⟨_, rfl, ?_⟩; replace BK607 := Aside0.mk (KeepBut.blk hk (g' := gb607) (o := .cells #[.int .i64 0, .int .i64 0, .int .i64 0, .int .i64 0, .int .i64 0, .int .i64 0, .int .i64 0] 80 (0, 0)) (bk_ BK607.out) NB607_0.out (by simp)); replace HK := Aside0.mk (KeepBut.trans (by repeat (first | (with_reducible first | exact HK.out | apply KeepBut.set_ | apply keep_drewN | apply keep_drew | apply keep_alloc | refine keep_far ?_ GW607.out _) | exact HK.out)) hk (.inl rfl)); replace HB := Aside0.mk (hb); replace HI0 := Aside0.mk (hi); (try clear hb); (try clear hk); (try clear hi)) | ((with_reducible refine gate_callee (f := 64) rfl ?_); refine gs_ (some 9) Tryd.func64 #[.pointer (some ⟨g, 0, none⟩), .int .i64 60] ?_; (with_reducible refine (spec_l01Below.calls g s0_0 t609 t610 60 t611 t612 t613 w0 _ ?side1 ?side2 A3.out).mono ?_); (case side1 => exact is0_); (case side2 => exact bi0_); rintro e w8 ⟨rfl, hi, hb, hk⟩; refine ⟨_, rfl, ?_⟩; replace BK607 := Aside0.mk (KeepBut.blk hk (g' := gb607) (o := .cells #[.int .i64 0, .int .i64 0, .int .i64 0, .int .i64 0, .int .i64 0, .int .i64 0, .int .i64 0] 80 (0, 0)) (bk_ BK607.out) NB607_0.out (by simp)); replace HK := Aside0.mk (KeepBut.trans (by repeat (first | (with_reducible first | exact HK.out | apply KeepBut.set_ | apply keep_drewN | apply keep_drew | apply keep_alloc | refine keep_far ?_ GW607.out _) | exact HK.out)) hk (.inl rfl)); replace HB := Aside0.mk (hb); replace HI0 := Aside0.mk (hi); (try clear hb); (try clear hk); (try clear hi)) | ((with_reducible refine gate_callee (f := 103) rfl ?_); refine gs_ (some 11) Tryd.func103 #[.pointer (some ⟨g, 0, none⟩)] ?_; (with_reducible refine (spec_l17Frame.calls g s0_0 t612 t613 t614 t615 t616 t617 t618 t619 t620 t621 t622 w0 _ ?side1 ?side2 A4.out).mono ?_); (case side1 => exact is0_); (case side2 => exact bi0_); rintro e w9 ⟨rfl, hi, hb, hk⟩; refine ⟨_, rfl, ?_⟩; replace BK607 := Aside0.mk (KeepBut.blk hk (g' := gb607) (o := .cells #[.int .i64 0, .int .i64 0, .int .i64 0, .int .i64 0, .int .i64 0, .int .i64 0, .int .i64 0] 80 (0, 0)) (bk_ BK607.out) NB607_0.out (by simp)); replace HK := Aside0.mk (KeepBut.trans (by repeat (first | (with_reducible first | exact HK.out | apply KeepBut.set_ | apply keep_drewN | apply keep_drew | apply keep_alloc | refine keep_far ?_ GW607.out _) | exact HK.out)) hk (.inl rfl)); replace HB := Aside0.mk (hb); replace HI0 := Aside0.mk (hi); (try clear hb); (try clear hk); (try clear hi)) | ((with_reducible refine gate_dst (N := 5) rfl ?_); refine bx_ 5 80 #[.int .i64 0, .int .i64 0, .int .i64 0, .int .i64 0, .int .i64 0, .int .i64 0, .int .i64 0] ?_; intro gb623 hg w10 hbox hb; replace HB := Aside0.mk (below_step bi0_ hb); have BK623 := Aside0.mk (hbox); have GW623 := Aside0.mk ((by rw [hg]; exact (keep_size (w := w) (g := g) (row := none) hk_) : w.heap.size ≤ gb623)); have GE623 := Aside0.mk ((Nat.le_trans HW0.out (by rw [hg]; exact (keep_size (w := w) (g := g) (row := none) hk_) : w.heap.size ≤ gb623) : w0.heap.size ≤ gb623)); replace HK := Aside0.mk (KeepBut.trans (by repeat (first | (with_reducible first | exact HK.out | apply KeepBut.set_ | apply keep_drewN | apply keep_drew | apply keep_alloc | refine keep_far ?_ GW607.out _) | exact HK.out)) (KeepBut.of_below hb g none) (.inl rfl)); have NB607_623 := Aside0.mk ((by rw [hg]; exact Nat.ne_of_lt (blk_lt (g := gb607) (o := .cells #[.int .i64 0, .int .i64 0, .int .i64 0, .int .i64 0, .int .i64 0, .int .i64 0, .int .i64 0] 80 (0, 0)) (bk_ BK607.out)) : gb607 ≠ gb623)); have NB623_607 := Aside0.mk ((by rw [hg]; exact Nat.ne_of_gt (blk_lt (g := gb607) (o := .cells #[.int .i64 0, .int .i64 0, .int .i64 0, .int .i64 0, .int .i64 0, .int .i64 0, .int .i64 0] 80 (0, 0)) (bk_ BK607.out)) : gb623 ≠ gb607)); replace BK607 := Aside0.mk (blk_below (bn0_ BK607.out) hb); have NB0_623 := Aside0.mk ((by rw [hg]; exact Nat.ne_of_lt (IsS100.lt (show IsS100 w0 _ g s0_0 t621 t622 from is0_)) : g ≠ gb623)); have NB623_0 := Aside0.mk ((by rw [hg]; exact Nat.ne_of_gt (IsS100.lt (show IsS100 w0 _ g s0_0 t621 t622 from is0_)) : gb623 ≠ g)); replace HI0 := Aside0.mk (IsS100.below is0_ hb); clear hb hbox hg; have hnb11 := NB623_607.out; have hnc11 := NB607_623.out; have hnb12 := NB623_0.out; have hnc12 := NB0_623.out; obtain ⟨hcz13_0, hcz13_1, hcz13_2, hcz13_3, hcz13_4, hcz13_5, hcz13_6, hfz13_0, hfz13_1, hfz13_2, hfz13_3, hfz13_4, hfz13_5, hfz13_6⟩ := cf7_ BK623.out; have hnb14 := NB607_0.out; have hnc14 := NB0_607.out; obtain ⟨hcz15_0, hcz15_1, hcz15_2, hcz15_3, hcz15_4, hcz15_5, hcz15_6, hfz15_0, hfz15_1, hfz15_2, hfz15_3, hfz15_4, hfz15_5, hfz15_6⟩ := cf7_ BK607.out))
  refine bodyPost_ret (results_cell_row rfl _ _ gb607 80 #[.int .i64 (Int.tmod t611 4), .int .i64 t615, .int .i64 t616, .int .i64 t617, .int .i64 t618, .int .i64 t619, .int .i64 t620] (0, 0) _ rfl (bp1_ BK607.out NB607_623.out) Tryd.underlying80 rfl (by kernel_rfl)) rfl ?_
  exact ⟨er_, is0_, bi0_, hk_⟩
 rw [if_neg c5] at H
 have c5b0 : (t608 == 0) = false := beq_eq_false_iff_ne.mpr c5
 have c5b1 : (t608 != 0) = true := bne_iff_ne.mpr c5
 by_cases c16 : t608 = 1
 ·rw [if_pos c16] at H
  have c16b0 : (t608 == 1) = true := beq_iff_eq.mpr c16
  have c16b1 : (t608 != 1) = false := bne_eq_false_iff_eq.mpr c16
  clear c16
  simp only [Option.some.injEq, Prod.mk.injEq] at H
  obtain ⟨rfl, rfl, rfl, rfl, rfl, rfl, rfl, rfl, rfl⟩ := H
  go_enter Tryd.func70, Tryd.ntmps70
  go_wp2_with (first | ((with_reducible refine gate_dst (N := 2) rfl ?_); refine bx_ 2 80 #[.int .i64 0, .int .i64 0, .int .i64 0, .int .i64 0, .int .i64 0, .int .i64 0, .int .i64 0] ?_; intro gb607 hg w17 hbox hb; replace HB := Aside0.mk (below_step bi0_ hb); have BK607 := Aside0.mk (hbox); have GW607 := Aside0.mk ((by rw [hg]; exact (keep_size (w := w) (g := g) (row := none) hk_) : w.heap.size ≤ gb607)); have GE607 := Aside0.mk ((Nat.le_trans HW0.out (by rw [hg]; exact (keep_size (w := w) (g := g) (row := none) hk_) : w.heap.size ≤ gb607) : w0.heap.size ≤ gb607)); replace HK := Aside0.mk (KeepBut.trans hk_ (KeepBut.of_below hb g none) (.inl rfl)); have NB0_607 := Aside0.mk ((by rw [hg]; exact Nat.ne_of_lt (IsS100.lt (show IsS100 w0 _ g s0_0 s0_1 s0_2 from is0_)) : g ≠ gb607)); have NB607_0 := Aside0.mk ((by rw [hg]; exact Nat.ne_of_gt (IsS100.lt (show IsS100 w0 _ g s0_0 s0_1 s0_2 from is0_)) : gb607 ≠ g)); replace HI0 := Aside0.mk (IsS100.below is0_ hb); clear hb hbox hg) | ((with_reducible refine gate_callee (f := 64) rfl ?_); refine gs_ (some 7) Tryd.func64 #[.pointer (some ⟨g, 0, none⟩), .int .i64 10] ?_; (with_reducible refine (spec_l01Below.calls g s0_0 s0_1 s0_2 10 t608 t609 t610 w0 _ ?side1 ?side2 A2.out).mono ?_); (case side1 => exact is0_); (case side2 => exact bi0_); rintro e w18 ⟨rfl, hi, hb, hk⟩; refine ⟨_, rfl, ?_⟩; replace BK607 := Aside0.mk (KeepBut.blk hk (g' := gb607) (o := .cells #[.int .i64 0, .int .i64 0, .int .i64 0, .int .i64 0, .int .i64 0, .int .i64 0, .int .i64 0] 80 (0, 0)) (bk_ BK607.out) NB607_0.out (by simp)); replace HK := Aside0.mk (KeepBut.trans (by repeat (first | (with_reducible first | exact HK.out | apply KeepBut.set_ | apply keep_drewN | apply keep_drew | apply keep_alloc | refine keep_far ?_ GW607.out _) | exact HK.out)) hk (.inl rfl)); replace HB := Aside0.mk (hb); replace HI0 := Aside0.mk (hi); (try clear hb); (try clear hk); (try clear hi)) | ((with_reducible refine gate_callee (f := 64) rfl ?_); refine gs_ (some 9) Tryd.func64 #[.pointer (some ⟨g, 0, none⟩), .int .i64 60] ?_; (with_reducible refine (spec_l01Below.calls g s0_0 t609 t610 60 t611 t612 t613 w0 _ ?side1 ?side2 A3.out).mono ?_); (case side1 => exact is0_); (case side2 => exact bi0_); rintro e w19 ⟨rfl, hi, hb, hk⟩; refine ⟨_, rfl, ?_⟩; replace BK607 := Aside0.mk (KeepBut.blk hk (g' := gb607) (o := .cells #[.int .i64 0, .int .i64 0, .int .i64 0, .int .i64 0, .int .i64 0, .int .i64 0, .int .i64 0] 80 (0, 0)) (bk_ BK607.out) NB607_0.out (by simp)); replace HK := Aside0.mk (KeepBut.trans (by repeat (first | (with_reducible first | exact HK.out | apply KeepBut.set_ | apply keep_drewN | apply keep_drew | apply keep_alloc | refine keep_far ?_ GW607.out _) | exact HK.out)) hk (.inl rfl)); replace HB := Aside0.mk (hb); replace HI0 := Aside0.mk (hi); (try clear hb); (try clear hk); (try clear hi)) | ((with_reducible refine gate_callee (f := 103) rfl ?_); refine gs_ (some 11) Tryd.func103 #[.pointer (some ⟨g, 0, none⟩)] ?_; (with_reducible refine (spec_l17Frame.calls g s0_0 t612 t613 t614 t615 t616 t617 t618 t619 t620 t621 t622 w0 _ ?side1 ?side2 A4.out).mono ?_); (case side1 => exact is0_); (case side2 => exact bi0_); rintro e w20 ⟨rfl, hi, hb, hk⟩; refine ⟨_, rfl, ?_⟩; replace BK607 := Aside0.mk (KeepBut.blk hk (g' := gb607) (o := .cells #[.int .i64 0, .int .i64 0, .int .i64 0, .int .i64 0, .int .i64 0, .int .i64 0, .int .i64 0] 80 (0, 0)) (bk_ BK607.out) NB607_0.out (by simp)); replace HK := Aside0.mk (KeepBut.trans (by repeat (first | (with_reducible first | exact HK.out | apply KeepBut.set_ | apply keep_drewN | apply keep_drew | apply keep_alloc | refine keep_far ?_ GW607.out _) | exact HK.out)) hk (.inl rfl)); replace HB := Aside0.mk (hb); replace HI0 := Aside0.mk (hi); (try clear hb); (try clear hk); (try clear hi)) | ((with_reducible refine gate_dst (N := 5) rfl ?_); refine bx_ 5 80 #[.int .i64 0, .int .i64 0, .int .i64 0, .int .i64 0, .int .i64 0, .int .i64 0, .int .i64 0] ?_; intro gb623 hg w21 hbox hb; replace HB := Aside0.mk (below_step bi0_ hb); have BK623 := Aside0.mk (hbox); have GW623 := Aside0.mk ((by rw [hg]; exact (keep_size (w := w) (g := g) (row := none) hk_) : w.heap.size ≤ gb623)); have GE623 := Aside0.mk ((Nat.le_trans HW0.out (by rw [hg]; exact (keep_size (w := w) (g := g) (row := none) hk_) : w.heap.size ≤ gb623) : w0.heap.size ≤ gb623)); replace HK := Aside0.mk (KeepBut.trans (by repeat (first | (with_reducible first | exact HK.out | apply KeepBut.set_ | apply keep_drewN | apply keep_drew | apply keep_alloc | refine keep_far ?_ GW607.out _) | exact HK.out)) (KeepBut.of_below hb g none) (.inl rfl)); have NB607_623 := Aside0.mk ((by rw [hg]; exact Nat.ne_of_lt (blk_lt (g := gb607) (o := .cells #[.int .i64 0, .int .i64 0, .int .i64 0, .int .i64 0, .int .i64 0, .int .i64 0, .int .i64 0] 80 (0, 0)) (bk_ BK607.out)) : gb607 ≠ gb623)); have NB623_607 := Aside0.mk ((by rw [hg]; exact Nat.ne_of_gt (blk_lt (g := gb607) (o := .cells #[.int .i64 0, .int .i64 0, .int .i64 0, .int .i64 0, .int .i64 0, .int .i64 0, .int .i64 0] 80 (0, 0)) (bk_ BK607.out)) : gb623 ≠ gb607)); replace BK607 := Aside0.mk (blk_below (bn0_ BK607.out) hb); have NB0_623 := Aside0.mk ((by rw [hg]; exact Nat.ne_of_lt (IsS100.lt (show IsS100 w0 _ g s0_0 t621 t622 from is0_)) : g ≠ gb623)); have NB623_0 := Aside0.mk ((by rw [hg]; exact Nat.ne_of_gt (IsS100.lt (show IsS100 w0 _ g s0_0 t621 t622 from is0_)) : gb623 ≠ g)); replace HI0 := Aside0.mk (IsS100.below is0_ hb); clear hb hbox hg; have hnb22 := NB623_607.out; have hnc22 := NB607_623.out; have hnb23 := NB623_0.out; have hnc23 := NB0_623.out; obtain ⟨hcz24_0, hcz24_1, hcz24_2, hcz24_3, hcz24_4, hcz24_5, hcz24_6, hfz24_0, hfz24_1, hfz24_2, hfz24_3, hfz24_4, hfz24_5, hfz24_6⟩ := cf7_ BK623.out; have hnb25 := NB607_0.out; have hnc25 := NB0_607.out; obtain ⟨hcz26_0, hcz26_1, hcz26_2, hcz26_3, hcz26_4, hcz26_5, hcz26_6, hfz26_0, hfz26_1, hfz26_2, hfz26_3, hfz26_4, hfz26_5, hfz26_6⟩ := cf7_ BK607.out))
  refine bodyPost_ret (results_cell_row rfl _ _ gb607 80 #[.int .i64 t614, .int .i64 (wrap64 ((Int.tmod t611 6) - 1)), .int .i64 t616, .int .i64 t617, .int .i64 t618, .int .i64 t619, .int .i64 t620] (0, 0) _ rfl (bp1_ BK607.out NB607_623.out) Tryd.underlying80 rfl (by kernel_rfl)) rfl ?_
  exact ⟨er_, is0_, bi0_, hk_⟩
 rw [if_neg c16] at H
 have c16b0 : (t608 == 1) = false := beq_eq_false_iff_ne.mpr c16
 have c16b1 : (t608 != 1) = true := bne_iff_ne.mpr c16
 by_cases c27 : t608 = 2
 rotate_left
 ·rw [if_neg c27] at H
  have c27b0 : (t608 == 2) = false := beq_eq_false_iff_ne.mpr c27
  have c27b1 : (t608 != 2) = true := bne_iff_ne.mpr c27
  by_cases c45 : t608 = 3
  rotate_left
  ·rw [if_neg c45] at H
   have c45b0 : (t608 == 3) = false := beq_eq_false_iff_ne.mpr c45
   have c45b1 : (t608 != 3) = true := bne_iff_ne.mpr c45
   simp only [Option.some.injEq, Prod.mk.injEq] at H
   obtain ⟨rfl, rfl, rfl, rfl, rfl, rfl, rfl, rfl, rfl⟩ := H
   go_enter Tryd.func70, Tryd.ntmps70
   go_wp2_with (first | ((with_reducible refine gate_dst (N := 2) rfl ?_); refine bx_ 2 80 #[.int .i64 0, .int .i64 0, .int .i64 0, .int .i64 0, .int .i64 0, .int .i64 0, .int .i64 0] ?_; intro gb607 hg w56 hbox hb; replace HB := Aside0.mk (below_step bi0_ hb); have BK607 := Aside0.mk (hbox); have GW607 := Aside0.mk ((by rw [hg]; exact (keep_size (w := w) (g := g) (row := none) hk_) : w.heap.size ≤ gb607)); have GE607 := Aside0.mk ((Nat.le_trans HW0.out (by rw [hg]; exact (keep_size (w := w) (g := g) (row := none) hk_) : w.heap.size ≤ gb607) : w0.heap.size ≤ gb607)); replace HK := Aside0.mk (KeepBut.trans hk_ (KeepBut.of_below hb g none) (.inl rfl)); have NB0_607 := Aside0.mk ((by rw [hg]; exact Nat.ne_of_lt (IsS100.lt (show IsS100 w0 _ g s0_0 s0_1 s0_2 from is0_)) : g ≠ gb607)); have NB607_0 := Aside0.mk ((by rw [hg]; exact Nat.ne_of_gt (IsS100.lt (show IsS100 w0 _ g s0_0 s0_1 s0_2 from is0_)) : gb607 ≠ g)); replace HI0 := Aside0.mk (IsS100.below is0_ hb); clear hb hbox hg) | ((with_reducible refine gate_callee (f := 64) rfl ?_); refine gs_ (some 7) Tryd.func64 #[.pointer (some ⟨g, 0, none⟩), .int .i64 10] ?_; (with_reducible refine (spec_l01Below.calls g s0_0 s0_1 s0_2 10 t608 t609 t610 w0 _ ?side1 ?side2 A2.out).mono ?_); (case side1 => exact is0_); (case side2 => exact bi0_); rintro e w57 ⟨rfl, hi, hb, hk⟩; refine ⟨_, rfl, ?_⟩; replace BK607 := Aside0.mk (KeepBut.blk hk (g' := gb607) (o := .cells #[.int .i64 0, .int .i64 0, .int .i64 0, .int .i64 0, .int .i64 0, .int .i64 0, .int .i64 0] 80 (0, 0)) (bk_ BK607.out) NB607_0.out (by simp)); replace HK := Aside0.mk (KeepBut.trans (by repeat (first | (with_reducible first | exact HK.out | apply KeepBut.set_ | apply keep_drewN | apply keep_drew | apply keep_alloc | refine keep_far ?_ GW607.out _) | exact HK.out)) hk (.inl rfl)); replace HB := Aside0.mk (hb); replace HI0 := Aside0.mk (hi); (try clear hb); (try clear hk); (try clear hi)) | ((with_reducible refine gate_callee (f := 64) rfl ?_); refine gs_ (some 9) Tryd.func64 #[.pointer (some ⟨g, 0, none⟩), .int .i64 60] ?_; (with_reducible refine (spec_l01Below.calls g s0_0 t609 t610 60 t611 t612 t613 w0 _ ?side1 ?side2 A3.out).mono ?_); (case side1 => exact is0_); (case side2 => exact bi0_); rintro e w58 ⟨rfl, hi, hb, hk⟩; refine ⟨_, rfl, ?_⟩; replace BK607 := Aside0.mk (KeepBut.blk hk (g' := gb607) (o := .cells #[.int .i64 0, .int .i64 0, .int .i64 0, .int .i64 0, .int .i64 0, .int .i64 0, .int .i64 0] 80 (0, 0)) (bk_ BK607.out) NB607_0.out (by simp)); replace HK := Aside0.mk (KeepBut.trans (by repeat (first | (with_reducible first | exact HK.out | apply KeepBut.set_ | apply keep_drewN | apply keep_drew | apply keep_alloc | refine keep_far ?_ GW607.out _) | exact HK.out)) hk (.inl rfl)); replace HB := Aside0.mk (hb); replace HI0 := Aside0.mk (hi); (try clear hb); (try clear hk); (try clear hi)) | ((with_reducible refine gate_callee (f := 103) rfl ?_); refine gs_ (some 11) Tryd.func103 #[.pointer (some ⟨g, 0, none⟩)] ?_; (with_reducible refine (spec_l17Frame.calls g s0_0 t612 t613 t614 t615 t616 t617 t618 t619 t620 t621 t622 w0 _ ?side1 ?side2 A4.out).mono ?_); (case side1 => exact is0_); (case side2 => exact bi0_); rintro e w59 ⟨rfl, hi, hb, hk⟩; refine ⟨_, rfl, ?_⟩; replace BK607 := Aside0.mk (KeepBut.blk hk (g' := gb607) (o := .cells #[.int .i64 0, .int .i64 0, .int .i64 0, .int .i64 0, .int .i64 0, .int .i64 0, .int .i64 0] 80 (0, 0)) (bk_ BK607.out) NB607_0.out (by simp)); replace HK := Aside0.mk (KeepBut.trans (by repeat (first | (with_reducible first | exact HK.out | apply KeepBut.set_ | apply keep_drewN | apply keep_drew | apply keep_alloc | refine keep_far ?_ GW607.out _) | exact HK.out)) hk (.inl rfl)); replace HB := Aside0.mk (hb); replace HI0 := Aside0.mk (hi); (try clear hb); (try clear hk); (try clear hi)) | ((with_reducible refine gate_dst (N := 5) rfl ?_); refine bx_ 5 80 #[.int .i64 0, .int .i64 0, .int .i64 0, .int .i64 0, .int .i64 0, .int .i64 0, .int .i64 0] ?_; intro gb623 hg w60 hbox hb; replace HB := Aside0.mk (below_step bi0_ hb); have BK623 := Aside0.mk (hbox); have GW623 := Aside0.mk ((by rw [hg]; exact (keep_size (w := w) (g := g) (row := none) hk_) : w.heap.size ≤ gb623)); have GE623 := Aside0.mk ((Nat.le_trans HW0.out (by rw [hg]; exact (keep_size (w := w) (g := g) (row := none) hk_) : w.heap.size ≤ gb623) : w0.heap.size ≤ gb623)); replace HK := Aside0.mk (KeepBut.trans (by repeat (first | (with_reducible first | exact HK.out | apply KeepBut.set_ | apply keep_drewN | apply keep_drew | apply keep_alloc | refine keep_far ?_ GW607.out _) | exact HK.out)) (KeepBut.of_below hb g none) (.inl rfl)); have NB607_623 := Aside0.mk ((by rw [hg]; exact Nat.ne_of_lt (blk_lt (g := gb607) (o := .cells #[.int .i64 0, .int .i64 0, .int .i64 0, .int .i64 0, .int .i64 0, .int .i64 0, .int .i64 0] 80 (0, 0)) (bk_ BK607.out)) : gb607 ≠ gb623)); have NB623_607 := Aside0.mk ((by rw [hg]; exact Nat.ne_of_gt (blk_lt (g := gb607) (o := .cells #[.int .i64 0, .int .i64 0, .int .i64 0, .int .i64 0, .int .i64 0, .int .i64 0, .int .i64 0] 80 (0, 0)) (bk_ BK607.out)) : gb623 ≠ gb607)); replace BK607 := Aside0.mk (blk_below (bn0_ BK607.out) hb); have NB0_623 := Aside0.mk ((by rw [hg]; exact Nat.ne_of_lt (IsS100.lt (show IsS100 w0 _ g s0_0 t621 t622 from is0_)) : g ≠ gb623)); have NB623_0 := Aside0.mk ((by rw [hg]; exact Nat.ne_of_gt (IsS100.lt (show IsS100 w0 _ g s0_0 t621 t622 from is0_)) : gb623 ≠ g)); replace HI0 := Aside0.mk (IsS100.below is0_ hb); clear hb hbox hg; have hnb61 := NB623_607.out; have hnc61 := NB607_623.out; have hnb62 := NB623_0.out; have hnc62 := NB0_623.out; obtain ⟨hcz63_0, hcz63_1, hcz63_2, hcz63_3, hcz63_4, hcz63_5, hcz63_6, hfz63_0, hfz63_1, hfz63_2, hfz63_3, hfz63_4, hfz63_5, hfz63_6⟩ := cf7_ BK623.out; have hnb64 := NB607_0.out; have hnc64 := NB0_607.out; obtain ⟨hcz65_0, hcz65_1, hcz65_2, hcz65_3, hcz65_4, hcz65_5, hcz65_6, hfz65_0, hfz65_1, hfz65_2, hfz65_3, hfz65_4, hfz65_5, hfz65_6⟩ := cf7_ BK607.out))
   refine bodyPost_ret (results_cell_row rfl _ _ gb607 80 #[.int .i64 t614, .int .i64 t615, .int .i64 t616, .int .i64 t617, .int .i64 t618, .int .i64 t619, .int .i64 t620] (0, 0) _ rfl (bp1_ BK607.out NB607_623.out) Tryd.underlying80 rfl (by kernel_rfl)) rfl ?_
   exact ⟨er_, is0_, bi0_, hk_⟩
  rw [if_pos c45] at H
  have c45b0 : (t608 == 3) = true := beq_iff_eq.mpr c45
  have c45b1 : (t608 != 3) = false := bne_eq_false_iff_eq.mpr c45
  clear c45
  simp only [Option.some.injEq, Prod.mk.injEq] at H
  obtain ⟨rfl, rfl, rfl, rfl, rfl, rfl, rfl, rfl, rfl⟩ := H
  go_enter Tryd.func70, Tryd.ntmps70
  go_wp2_with (first | ((with_reducible refine gate_dst (N := 2) rfl ?_); refine bx_ 2 80 #[.int .i64 0, .int .i64 0, .int .i64 0, .int .i64 0, .int .i64 0, .int .i64 0, .int .i64 0] ?_; intro gb607 hg w46 hbox hb; replace HB := Aside0.mk (below_step bi0_ hb); have BK607 := Aside0.mk (hbox); have GW607 := Aside0.mk ((by rw [hg]; exact (keep_size (w := w) (g := g) (row := none) hk_) : w.heap.size ≤ gb607)); have GE607 := Aside0.mk ((Nat.le_trans HW0.out (by rw [hg]; exact (keep_size (w := w) (g := g) (row := none) hk_) : w.heap.size ≤ gb607) : w0.heap.size ≤ gb607)); replace HK := Aside0.mk (KeepBut.trans hk_ (KeepBut.of_below hb g none) (.inl rfl)); have NB0_607 := Aside0.mk ((by rw [hg]; exact Nat.ne_of_lt (IsS100.lt (show IsS100 w0 _ g s0_0 s0_1 s0_2 from is0_)) : g ≠ gb607)); have NB607_0 := Aside0.mk ((by rw [hg]; exact Nat.ne_of_gt (IsS100.lt (show IsS100 w0 _ g s0_0 s0_1 s0_2 from is0_)) : gb607 ≠ g)); replace HI0 := Aside0.mk (IsS100.below is0_ hb); clear hb hbox hg) | ((with_reducible refine gate_callee (f := 64) rfl ?_); refine gs_ (some 7) Tryd.func64 #[.pointer (some ⟨g, 0, none⟩), .int .i64 10] ?_; (with_reducible refine (spec_l01Below.calls g s0_0 s0_1 s0_2 10 t608 t609 t610 w0 _ ?side1 ?side2 A2.out).mono ?_); (case side1 => exact is0_); (case side2 => exact bi0_); rintro e w47 ⟨rfl, hi, hb, hk⟩; refine ⟨_, rfl, ?_⟩; replace BK607 := Aside0.mk (KeepBut.blk hk (g' := gb607) (o := .cells #[.int .i64 0, .int .i64 0, .int .i64 0, .int .i64 0, .int .i64 0, .int .i64 0, .int .i64 0] 80 (0, 0)) (bk_ BK607.out) NB607_0.out (by simp)); replace HK := Aside0.mk (KeepBut.trans (by repeat (first | (with_reducible first | exact HK.out | apply KeepBut.set_ | apply keep_drewN | apply keep_drew | apply keep_alloc | refine keep_far ?_ GW607.out _) | exact HK.out)) hk (.inl rfl)); replace HB := Aside0.mk (hb); replace HI0 := Aside0.mk (hi); (try clear hb); (try clear hk); (try clear hi)) | ((with_reducible refine gate_callee (f := 64) rfl ?_); refine gs_ (some 9) Tryd.func64 #[.pointer (some ⟨g, 0, none⟩), .int .i64 60] ?_; (with_reducible refine (spec_l01Below.calls g s0_0 t609 t610 60 t611 t612 t613 w0 _ ?side1 ?side2 A3.out).mono ?_); (case side1 => exact is0_); (case side2 => exact bi0_); rintro e w48 ⟨rfl, hi, hb, hk⟩; refine ⟨_, rfl, ?_⟩; replace BK607 := Aside0.mk (KeepBut.blk hk (g' := gb607) (o := .cells #[.int .i64 0, .int .i64 0, .int .i64 0, .int .i64 0, .int .i64 0, .int .i64 0, .int .i64 0] 80 (0, 0)) (bk_ BK607.out) NB607_0.out (by simp)); replace HK := Aside0.mk (KeepBut.trans (by repeat (first | (with_reducible first | exact HK.out | apply KeepBut.set_ | apply keep_drewN | apply keep_drew | apply keep_alloc | refine keep_far ?_ GW607.out _) | exact HK.out)) hk (.inl rfl)); replace HB := Aside0.mk (hb); replace HI0 := Aside0.mk (hi); (try clear hb); (try clear hk); (try clear hi)) | ((with_reducible refine gate_callee (f := 103) rfl ?_); refine gs_ (some 11) Tryd.func103 #[.pointer (some ⟨g, 0, none⟩)] ?_; (with_reducible refine (spec_l17Frame.calls g s0_0 t612 t613 t614 t615 t616 t617 t618 t619 t620 t621 t622 w0 _ ?side1 ?side2 A4.out).mono ?_); (case side1 => exact is0_); (case side2 => exact bi0_); rintro e w49 ⟨rfl, hi, hb, hk⟩; refine ⟨_, rfl, ?_⟩; replace BK607 := Aside0.mk (KeepBut.blk hk (g' := gb607) (o := .cells #[.int .i64 0, .int .i64 0, .int .i64 0, .int .i64 0, .int .i64 0, .int .i64 0, .int .i64 0] 80 (0, 0)) (bk_ BK607.out) NB607_0.out (by simp)); replace HK := Aside0.mk (KeepBut.trans (by repeat (first | (with_reducible first | exact HK.out | apply KeepBut.set_ | apply keep_drewN | apply keep_drew | apply keep_alloc | refine keep_far ?_ GW607.out _) | exact HK.out)) hk (.inl rfl)); replace HB := Aside0.mk (hb); replace HI0 := Aside0.mk (hi); (try clear hb); (try clear hk); (try clear hi)) | ((with_reducible refine gate_dst (N := 5) rfl ?_); refine bx_ 5 80 #[.int .i64 0, .int .i64 0, .int .i64 0, .int .i64 0, .int .i64 0, .int .i64 0, .int .i64 0] ?_; intro gb623 hg w50 hbox hb; replace HB := Aside0.mk (below_step bi0_ hb); have BK623 := Aside0.mk (hbox); have GW623 := Aside0.mk ((by rw [hg]; exact (keep_size (w := w) (g := g) (row := none) hk_) : w.heap.size ≤ gb623)); have GE623 := Aside0.mk ((Nat.le_trans HW0.out (by rw [hg]; exact (keep_size (w := w) (g := g) (row := none) hk_) : w.heap.size ≤ gb623) : w0.heap.size ≤ gb623)); replace HK := Aside0.mk (KeepBut.trans (by repeat (first | (with_reducible first | exact HK.out | apply KeepBut.set_ | apply keep_drewN | apply keep_drew | apply keep_alloc | refine keep_far ?_ GW607.out _) | exact HK.out)) (KeepBut.of_below hb g none) (.inl rfl)); have NB607_623 := Aside0.mk ((by rw [hg]; exact Nat.ne_of_lt (blk_lt (g := gb607) (o := .cells #[.int .i64 0, .int .i64 0, .int .i64 0, .int .i64 0, .int .i64 0, .int .i64 0, .int .i64 0] 80 (0, 0)) (bk_ BK607.out)) : gb607 ≠ gb623)); have NB623_607 := Aside0.mk ((by rw [hg]; exact Nat.ne_of_gt (blk_lt (g := gb607) (o := .cells #[.int .i64 0, .int .i64 0, .int .i64 0, .int .i64 0, .int .i64 0, .int .i64 0, .int .i64 0] 80 (0, 0)) (bk_ BK607.out)) : gb623 ≠ gb607)); replace BK607 := Aside0.mk (blk_below (bn0_ BK607.out) hb); have NB0_623 := Aside0.mk ((by rw [hg]; exact Nat.ne_of_lt (IsS100.lt (show IsS100 w0 _ g s0_0 t621 t622 from is0_)) : g ≠ gb623)); have NB623_0 := Aside0.mk ((by rw [hg]; exact Nat.ne_of_gt (IsS100.lt (show IsS100 w0 _ g s0_0 t621 t622 from is0_)) : gb623 ≠ g)); replace HI0 := Aside0.mk (IsS100.below is0_ hb); clear hb hbox hg; have hnb51 := NB623_607.out; have hnc51 := NB607_623.out; have hnb52 := NB623_0.out; have hnc52 := NB0_623.out; obtain ⟨hcz53_0, hcz53_1, hcz53_2, hcz53_3, hcz53_4, hcz53_5, hcz53_6, hfz53_0, hfz53_1, hfz53_2, hfz53_3, hfz53_4, hfz53_5, hfz53_6⟩ := cf7_ BK623.out; have hnb54 := NB607_0.out; have hnc54 := NB0_607.out; obtain ⟨hcz55_0, hcz55_1, hcz55_2, hcz55_3, hcz55_4, hcz55_5, hcz55_6, hfz55_0, hfz55_1, hfz55_2, hfz55_3, hfz55_4, hfz55_5, hfz55_6⟩ := cf7_ BK607.out))
  refine bodyPost_ret (results_cell_row rfl _ _ gb607 80 #[.int .i64 t614, .int .i64 t615, .int .i64 t616, .int .i64 t617, .int .i64 t618, .int .i64 t619, .int .i64 (Int.tmod t611 3)] (0, 0) _ rfl (bp1_ BK607.out NB607_623.out) Tryd.underlying80 rfl (by kernel_rfl)) rfl ?_
  exact ⟨er_, is0_, bi0_, hk_⟩
 rw [if_pos c27] at H
 have c27b0 : (t608 == 2) = true := beq_iff_eq.mpr c27
 have c27b1 : (t608 != 2) = false := bne_eq_false_iff_eq.mpr c27
 clear c27
 obtain ⟨y624, hy624⟩ : ∃ y_ : List Int, y_ = (([0, 1000000000, 1000000001, (-1)] : List Int)) := ⟨_, rfl⟩
 replace H : (if 0 ≤ (Int.tmod t611 4) then (if (Int.tmod t611 4) < (y624.length : Int) then (some (t614, t615, rd y624 (Int.tmod t611 4), t617, t618, t619, t620, t621, t622)) else (none)) else (none)) = some (r1, r2, r3, r4, r5, r6, r7, r8, r9) := rp_ H hy624
 have Ny624 := Aside0.mk hy624
 clear hy624
 obtain ⟨ji28, hji28⟩ : ∃ j_ : Int, (Int.tmod t611 4) = j_ := ⟨_, rfl⟩
 replace H : (if 0 ≤ (ji28) then (if (ji28) < (y624.length : Int) then (some (t614, t615, rd y624 (ji28), t617, t618, t619, t620, t621, t622)) else (none)) else (none)) = some (r1, r2, r3, r4, r5, r6, r7, r8, r9) := by first | (rw [hji28] at H; exact H) | (simp only [hji28] at H ⊢; exact H)
 (try rw [hji28] at A2)
 (try rw [hji28] at A3)
 (try rw [hji28] at A4)
 by_cases c29 : 0 ≤ (ji28)
 rotate_left
 ·exact nn_ c29 H
 rw [if_pos c29] at H
 have c29b0 := decide_eq_true c29
 clear c29
 by_cases c30 : (ji28) < (y624.length : Int)
 rotate_left
 ·exact nn_ c30 H
 rw [if_pos c30] at H
 have c30b0 := decide_eq_true c30
 clear c30
 simp only [Option.some.injEq, Prod.mk.injEq] at H
 obtain ⟨rfl, rfl, rfl, rfl, rfl, rfl, rfl, rfl, rfl⟩ := H
 go_enter Tryd.func70, Tryd.ntmps70
 go_wp2_with (first | ((with_reducible refine gate_dst (N := 2) rfl ?_); refine bx_ 2 80 #[.int .i64 0, .int .i64 0, .int .i64 0, .int .i64 0, .int .i64 0, .int .i64 0, .int .i64 0] ?_; intro gb607 hg w31 hbox hb; replace HB := Aside0.mk (below_step bi0_ hb); have BK607 := Aside0.mk (hbox); have GW607 := Aside0.mk ((by rw [hg]; exact (keep_size (w := w) (g := g) (row := none) hk_) : w.heap.size ≤ gb607)); have GE607 := Aside0.mk ((Nat.le_trans HW0.out (by rw [hg]; exact (keep_size (w := w) (g := g) (row := none) hk_) : w.heap.size ≤ gb607) : w0.heap.size ≤ gb607)); replace HK := Aside0.mk (KeepBut.trans hk_ (KeepBut.of_below hb g none) (.inl rfl)); have NB0_607 := Aside0.mk ((by rw [hg]; exact Nat.ne_of_lt (IsS100.lt (show IsS100 w0 _ g s0_0 s0_1 s0_2 from is0_)) : g ≠ gb607)); have NB607_0 := Aside0.mk ((by rw [hg]; exact Nat.ne_of_gt (IsS100.lt (show IsS100 w0 _ g s0_0 s0_1 s0_2 from is0_)) : gb607 ≠ g)); replace HI0 := Aside0.mk (IsS100.below is0_ hb); clear hb hbox hg) | ((with_reducible refine gate_callee (f := 64) rfl ?_); refine gs_ (some 7) Tryd.func64 #[.pointer (some ⟨g, 0, none⟩), .int .i64 10] ?_; (with_reducible refine (spec_l01Below.calls g s0_0 s0_1 s0_2 10 t608 t609 t610 w0 _ ?side1 ?side2 A2.out).mono ?_); (case side1 => exact is0_); (case side2 => exact bi0_); rintro e w32 ⟨rfl, hi, hb, hk⟩; refine ⟨_, rfl, ?_⟩; replace BK607 := Aside0.mk (KeepBut.blk hk (g' := gb607) (o := .cells #[.int .i64 0, .int .i64 0, .int .i64 0, .int .i64 0, .int .i64 0, .int .i64 0, .int .i64 0] 80 (0, 0)) (bk_ BK607.out) NB607_0.out (by simp)); replace HK := Aside0.mk (KeepBut.trans (by repeat (first | (with_reducible first | exact HK.out | apply KeepBut.set_ | apply keep_drewN | apply keep_drew | apply keep_alloc | refine keep_far ?_ GW607.out _) | exact HK.out)) hk (.inl rfl)); replace HB := Aside0.mk (hb); replace HI0 := Aside0.mk (hi); (try clear hb); (try clear hk); (try clear hi)) | ((with_reducible refine gate_callee (f := 64) rfl ?_); refine gs_ (some 9) Tryd.func64 #[.pointer (some ⟨g, 0, none⟩), .int .i64 60] ?_; (with_reducible refine (spec_l01Below.calls g s0_0 t609 t610 60 t611 t612 t613 w0 _ ?side1 ?side2 A3.out).mono ?_); (case side1 => exact is0_); (case side2 => exact bi0_); rintro e w33 ⟨rfl, hi, hb, hk⟩; refine ⟨_, rfl, ?_⟩; replace BK607 := Aside0.mk (KeepBut.blk hk (g' := gb607) (o := .cells #[.int .i64 0, .int .i64 0, .int .i64 0, .int .i64 0, .int .i64 0, .int .i64 0, .int .i64 0] 80 (0, 0)) (bk_ BK607.out) NB607_0.out (by simp)); replace HK := Aside0.mk (KeepBut.trans (by repeat (first | (with_reducible first | exact HK.out | apply KeepBut.set_ | apply keep_drewN | apply keep_drew | apply keep_alloc | refine keep_far ?_ GW607.out _) | exact HK.out)) hk (.inl rfl)); replace HB := Aside0.mk (hb); replace HI0 := Aside0.mk (hi); (try clear hb); (try clear hk); (try clear hi)) | ((with_reducible refine gate_callee (f := 103) rfl ?_); refine gs_ (some 11) Tryd.func103 #[.pointer (some ⟨g, 0, none⟩)] ?_; (with_reducible refine (spec_l17Frame.calls g s0_0 t612 t613 t614 t615 t616 t617 t618 t619 t620 t621 t622 w0 _ ?side1 ?side2 A4.out).mono ?_); (case side1 => exact is0_); (case side2 => exact bi0_); rintro e w34 ⟨rfl, hi, hb, hk⟩; refine ⟨_, rfl, ?_⟩; replace BK607 := Aside0.mk (KeepBut.blk hk (g' := gb607) (o := .cells #[.int .i64 0, .int .i64 0, .int .i64 0, .int .i64 0, .int .i64 0, .int .i64 0, .int .i64 0] 80 (0, 0)) (bk_ BK607.out) NB607_0.out (by simp)); replace HK := Aside0.mk (KeepBut.trans (by repeat (first | (with_reducible first | exact HK.out | apply KeepBut.set_ | apply keep_drewN | apply keep_drew | apply keep_alloc | refine keep_far ?_ GW607.out _) | exact HK.out)) hk (.inl rfl)); replace HB := Aside0.mk (hb); replace HI0 := Aside0.mk (hi); (try clear hb); (try clear hk); (try clear hi)) | ((with_reducible refine gate_dst (N := 5) rfl ?_); refine bx_ 5 80 #[.int .i64 0, .int .i64 0, .int .i64 0, .int .i64 0, .int .i64 0, .int .i64 0, .int .i64 0] ?_; intro gb623 hg w35 hbox hb; replace HB := Aside0.mk (below_step bi0_ hb); have BK623 := Aside0.mk (hbox); have GW623 := Aside0.mk ((by rw [hg]; exact (keep_size (w := w) (g := g) (row := none) hk_) : w.heap.size ≤ gb623)); have GE623 := Aside0.mk ((Nat.le_trans HW0.out (by rw [hg]; exact (keep_size (w := w) (g := g) (row := none) hk_) : w.heap.size ≤ gb623) : w0.heap.size ≤ gb623)); replace HK := Aside0.mk (KeepBut.trans (by repeat (first | (with_reducible first | exact HK.out | apply KeepBut.set_ | apply keep_drewN | apply keep_drew | apply keep_alloc | refine keep_far ?_ GW607.out _) | exact HK.out)) (KeepBut.of_below hb g none) (.inl rfl)); have NB607_623 := Aside0.mk ((by rw [hg]; exact Nat.ne_of_lt (blk_lt (g := gb607) (o := .cells #[.int .i64 0, .int .i64 0, .int .i64 0, .int .i64 0, .int .i64 0, .int .i64 0, .int .i64 0] 80 (0, 0)) (bk_ BK607.out)) : gb607 ≠ gb623)); have NB623_607 := Aside0.mk ((by rw [hg]; exact Nat.ne_of_gt (blk_lt (g := gb607) (o := .cells #[.int .i64 0, .int .i64 0, .int .i64 0, .int .i64 0, .int .i64 0, .int .i64 0, .int .i64 0] 80 (0, 0)) (bk_ BK607.out)) : gb623 ≠ gb607)); replace BK607 := Aside0.mk (blk_below (bn0_ BK607.out) hb); have NB0_623 := Aside0.mk ((by rw [hg]; exact Nat.ne_of_lt (IsS100.lt (show IsS100 w0 _ g s0_0 t621 t622 from is0_)) : g ≠ gb623)); have NB623_0 := Aside0.mk ((by rw [hg]; exact Nat.ne_of_gt (IsS100.lt (show IsS100 w0 _ g s0_0 t621 t622 from is0_)) : gb623 ≠ g)); replace HI0 := Aside0.mk (IsS100.below is0_ hb); clear hb hbox hg; have hnb36 := NB623_607.out; have hnc36 := NB607_623.out; have hnb37 := NB623_0.out; have hnc37 := NB0_623.out; obtain ⟨hcz38_0, hcz38_1, hcz38_2, hcz38_3, hcz38_4, hcz38_5, hcz38_6, hfz38_0, hfz38_1, hfz38_2, hfz38_3, hfz38_4, hfz38_5, hfz38_6⟩ := cf7_ BK623.out) | ((with_reducible refine gate_dst (N := 26) rfl ?_); refine Kd.R_lit (Kd.int .i64) _ 3 ?hg (N := 26) ?hd (xs := ([0, 1000000000, 1000000001, (-1)] : List Int)) (inner := [.int .i64 0, .int .i64 1000000000, .int .i64 1000000001, .int .i64 (-1)]) (ok := fun _ => True) (okp := fun _ => True) ?hr ?hp (fun _ hk => hk) trivial (Below.refl _ _) (Nat.le_refl _) (by simp) ?_; (case hd => rfl); (case hg => rfl); (case hr => first | (go_simp; done) | (go_simp; rfl)); (case hp => exact (Reps.one (show Kd.M (Kd.int .i64) _ _ _ 0 [.int .i64 0] from rfl) (Reps.one (show Kd.M (Kd.int .i64) _ _ _ 1000000000 [.int .i64 1000000000] from rfl) (Reps.one (show Kd.M (Kd.int .i64) _ _ _ 1000000001 [.int .i64 1000000001] from rfl) (Reps.one (show Kd.M (Kd.int .i64) _ _ _ (-1) [.int .i64 (-1)] from rfl) (Reps.none _ _)))))); intro v625 w39 ho40 hb hg_ hnew_; clear hg_ hnew_; (first | rw [← Ny624.out] at ho40 | (simp only [Int.reduceToNat] at ho40; rw [← Ny624.out] at ho40)); have HO626 := Aside0.mk (Kd.R_lower ho40 (keep_size (w := w) (g := g) (row := none) hk_)); replace BK607 := Aside0.mk (blk_below (bn1_ BK607.out NB607_623.out) hb); replace BK623 := Aside0.mk (blk_below (g := gb623) (o := .cells #[.int .i64 t614, .int .i64 t615, .int .i64 t616, .int .i64 t617, .int .i64 t618, .int .i64 t619, .int .i64 t620] 80 (0, 0)) (bp0_ BK623.out) hb); replace HK := Aside0.mk (KeepBut.trans (by repeat (first | (with_reducible first | exact HK.out | apply KeepBut.set_ | apply keep_drewN | apply keep_drew | apply keep_alloc | refine keep_far ?_ GW607.out _ | refine keep_far ?_ GW623.out _) | exact HK.out)) (KeepBut.of_below hb g none) (.inl rfl)); replace HB := Aside0.mk (below_step bi0_ hb); replace HI0 := Aside0.mk (IsS100.below (show IsS100 w0 (((((((w35.setCell ⟨gb623, 0, none⟩ (.int .i64 t614)).setCell ⟨gb623, 1, none⟩ (.int .i64 t615)).setCell ⟨gb623, 2, none⟩ (.int .i64 t616)).setCell ⟨gb623, 3, none⟩ (.int .i64 t617)).setCell ⟨gb623, 4, none⟩ (.int .i64 t618)).setCell ⟨gb623, 5, none⟩ (.int .i64 t619)).setCell ⟨gb623, 6, none⟩ (.int .i64 t620)) g s0_0 t621 t622 from is0_) hb); clear hb ho40; obtain ⟨Ao41, co41, eo41⟩ := Kd.R_slice HO626.out; subst eo41; have p627 : 0 ≤ ((ji28) : Int) := of_decide_eq_true as_; have q627 : (ji28) < (y624.length : Int) := of_decide_eq_true as_; obtain ⟨ad627, e627, hx627_0⟩ := Kd.at_int (Kd.R_reads' HO626.out).2.2 (ji28) p627 q627; cases e627; replace p627 := eq_true p627; replace q627 := eq_true q627; obtain ⟨hcz42_0, hcz42_1, hcz42_2, hcz42_3, hcz42_4, hcz42_5, hcz42_6, hfz42_0, hfz42_1, hfz42_2, hfz42_3, hfz42_4, hfz42_5, hfz42_6⟩ := cf7_ BK623.out; have hnb43 := NB607_0.out; have hnc43 := NB0_607.out; obtain ⟨hcz44_0, hcz44_1, hcz44_2, hcz44_3, hcz44_4, hcz44_5, hcz44_6, hfz44_0, hfz44_1, hfz44_2, hfz44_3, hfz44_4, hfz44_5, hfz44_6⟩ := cf7_ BK607.out))
 refine bodyPost_ret (results_cell_row rfl _ _ gb607 80 #[.int .i64 t614, .int .i64 t615, .int .i64 (rd y624 (ji28)), .int .i64 t617, .int .i64 t618, .int .i64 t619, .int .i64 t620] (0, 0) _ rfl (bp1_ BK607.out NB607_623.out) Tryd.underlying80 rfl (by kernel_rfl)) rfl ?_
 exact ⟨by first | rfl | (simp [errW_none, errW_some] <;> rfl) | (simp only [← hji28]; first | rfl | (simp [errW_none, errW_some] <;> rfl)) | (simp [*, errW_none, errW_some] <;> rfl) | exact False.elim (Bool.noConfusion ((decide_eq_true (of_eq_true (by assumption))).symm.trans (by assumption))), is0_, bi0_, hk_⟩

end


/-! ### spec_DrawEntryText: function 22 -/
def spec_DrawEntryText.f (k : Nat) (l0 : List Int) : Option (Int × Int × Int × Int × Int × Int) := (spec_l01New.f k l0).bind fun bt629 => ((spec_l17Any.f bt629.1 bt629.2.1 bt629.2.2).bind fun bt633 => (some (bt633.2.1, bt633.2.2.1, bt633.2.2.2.1, bt633.2.2.2.2.1, bt633.2.2.2.2.2.1, bt633.2.2.2.2.2.2.1)))
theorem spec_DrawEntryText.mono : ∀ a0 k, LeO (spec_DrawEntryText.f k a0) (spec_DrawEntryText.f (k + 1) a0) := by
 intro a0 k
 unfold spec_DrawEntryText.f
 have m0 := @spec_l01New.mono
 exact mo_
set_option maxHeartbeats 8000000 in
set_option maxRecDepth 100000 in
theorem spec_DrawEntryText.calls (k : Nat) (A0 : Option Addr) (c0 : Nat) (l0 : List Int) (r1 : Int) (r2 : Int) (r3 : Int) (r4 : Int) (r5 : Int) (r6 : Int) (w : World) (hr0 : Kd.C (Kd.int .u8) w A0 l0.length l0) (hc0 : l0.length ≤ c0) (h : spec_DrawEntryText.f k l0 = some (r1, r2, r3, r4, r5, r6)) :
 Calls Tryd.prog 22 #[.slice A0 l0.length c0] w fun e w' => e = .returned (.agg #[.int .i64 r1, .int .i64 r2, .int .i64 r3, .int .i64 r4, .int .i64 r5, .int .i64 r6]) ∧ Below w.heap.size w w' := by
 have hu27 := Tryd.underlying27
 have hu80 := Tryd.underlying80
 have hu25 := Tryd.underlying25
 have HR0 := Aside0.mk hr0
 have HC0 := Aside0.mk hc0
 clear hr0 hc0
 have HB := Aside0.mk (Below.refl w.heap.size w)
 have H : ((spec_l01New.f k l0).bind fun bt629 => ((spec_l17Any.f bt629.1 bt629.2.1 bt629.2.2).bind fun bt633 => (some (bt633.2.1, bt633.2.2.1, bt633.2.2.2.1, bt633.2.2.2.2.1, bt633.2.2.2.2.2.1, bt633.2.2.2.2.2.2.1)))) = some (r1, r2, r3, r4, r5, r6) := h
 clear h
 replace H := bs_ H
 obtain ⟨⟨t629, t630, t631⟩, A2, H⟩ := H
 try dsimp only at H
 replace H := bs_ H
 obtain ⟨⟨t633, t634, t635, t636, t637, t638, t639, t640, t641⟩, A3, H⟩ := H
 try dsimp only at H
 simp only [Option.some.injEq, Prod.mk.injEq] at H
 obtain ⟨rfl, rfl, rfl, rfl, rfl, rfl⟩ := H
 go_enter Tryd.func22, Tryd.ntmps22
 go_wp2_with (first | ((with_reducible refine gate_dst (N := 2) rfl ?_); refine bx_ 2 27 #[.int .i64 0, .int .i64 0, .int .i64 0, .int .i64 0, .int .i64 0, .int .i64 0] ?_; intro gb628 hg w4 hbox hb; have BK628 := Aside0.mk (hbox); have GW628 := Aside0.mk ((hz_ : w.heap.size ≤ gb628)); have GE628 := Aside0.mk ((hz_ : w.heap.size ≤ gb628)); replace HB := Aside0.mk (below_step bl_ hb); clear hb hbox hg) | ((with_reducible refine gate_callee (f := 58) rfl ?_); refine gs_ (some 6) Tryd.func58 #[.slice A0 l0.length c0] ?_; (with_reducible refine (spec_l01New.calls k _ _ l0 t629 t630 t631 w _ ?side1 ?side2 ?side3 A2.out).mono ?_); (case side1 => repeat (first | (with_reducible first | exact HB.out | apply below_alloc | apply pw_below_drewN | apply below_drew1 | refine below_set ?_ GE628.out) | exact HB.out)); (case side2 => exact HR0.out); (case side3 => exact HC0.out); rintro e w5 ⟨g632, rfl, hi, hb, hb2⟩; refine ⟨_, rfl, ?_⟩; replace HB := Aside0.mk (hb); have HI632 := Aside0.mk (hi); have NB632_628 := Aside0.mk (IsS100.ne_blk hi (blk_below (bn0_ BK628.out) hb2) (by decide)); have NB628_632 := Aside0.mk (Ne.symm (IsS100.ne_blk hi (blk_below (bn0_ BK628.out) hb2) (by decide))); replace BK628 := Aside0.mk (blk_below (bn0_ BK628.out) hb2); (try clear hb); (try clear hb2); (try clear hi)) | ((with_reducible refine gate_callee (f := 70) rfl ?_); refine gs_ (some 8) Tryd.func70 #[.pointer (some ⟨g632, 0, none⟩)] ?_; (with_reducible refine (spec_l17Any.calls g632 t629 t630 t631 t633 t634 t635 t636 t637 t638 t639 t640 t641 w _ ?side1 ?side2 A3.out).mono ?_); (case side1 => exact is7_); (case side2 => exact bi7_); rintro e w6 ⟨rfl, hi, hb, hk⟩; refine ⟨_, rfl, ?_⟩; replace BK628 := Aside0.mk (KeepBut.blk hk (g' := gb628) (o := .cells #[.int .i64 0, .int .i64 0, .int .i64 0, .int .i64 0, .int .i64 0, .int .i64 0] 27 (0, 0)) (bk_ BK628.out) NB628_632.out (by simp)); replace HB := Aside0.mk (hb); replace HI632 := Aside0.mk (hi); (try clear hb); (try clear hk); (try clear hi)) | ((with_reducible refine gate_dst (N := 4) rfl ?_); refine bx_ 4 80 #[.int .i64 0, .int .i64 0, .int .i64 0, .int .i64 0, .int .i64 0, .int .i64 0, .int .i64 0] ?_; intro gb642 hg w7 hbox hb; have BK642 := Aside0.mk (hbox); have GW642 := Aside0.mk ((by rw [hg]; exact (below_size bi7_) : w.heap.size ≤ gb642)); have GE642 := Aside0.mk ((by rw [hg]; exact (below_size bi7_) : w.heap.size ≤ gb642)); replace HB := Aside0.mk (below_step bi7_ hb); have NB628_642 := Aside0.mk ((by rw [hg]; exact Nat.ne_of_lt (blk_lt (g := gb628) (o := .cells #[.int .i64 0, .int .i64 0, .int .i64 0, .int .i64 0, .int .i64 0, .int .i64 0] 27 (0, 0)) (bk_ BK628.out)) : gb628 ≠ gb642)); have NB642_628 := Aside0.mk ((by rw [hg]; exact Nat.ne_of_gt (blk_lt (g := gb628) (o := .cells #[.int .i64 0, .int .i64 0, .int .i64 0, .int .i64 0, .int .i64 0, .int .i64 0] 27 (0, 0)) (bk_ BK628.out)) : gb642 ≠ gb628)); replace BK628 := Aside0.mk (blk_below (bn0_ BK628.out) hb); have NB632_642 := Aside0.mk ((by rw [hg]; exact Nat.ne_of_lt (IsS100.lt (show IsS100 w _ g632 t629 t640 t641 from is7_)) : g632 ≠ gb642)); have NB642_632 := Aside0.mk ((by rw [hg]; exact Nat.ne_of_gt (IsS100.lt (show IsS100 w _ g632 t629 t640 t641 from is7_)) : gb642 ≠ g632)); replace HI632 := Aside0.mk (IsS100.below is7_ hb); clear hb hbox hg; have hnb8 := NB642_628.out; have hnc8 := NB628_642.out; have hnb9 := NB642_632.out; have hnc9 := NB632_642.out; obtain ⟨hcz10_0, hcz10_1, hcz10_2, hcz10_3, hcz10_4, hcz10_5, hcz10_6, hfz10_0, hfz10_1, hfz10_2, hfz10_3, hfz10_4, hfz10_5, hfz10_6⟩ := cf7_ BK642.out; have hnb11 := NB628_632.out; have hnc11 := NB632_628.out; obtain ⟨hcz12_0, hcz12_1, hcz12_2, hcz12_3, hcz12_4, hcz12_5, hfz12_0, hfz12_1, hfz12_2, hfz12_3, hfz12_4, hfz12_5⟩ := cf6_ BK628.out))
 refine bodyPost_ret (results_cell_row rfl _ _ gb628 27 #[.int .i64 t634, .int .i64 t635, .int .i64 t636, .int .i64 t637, .int .i64 t638, .int .i64 t639] (0, 0) _ rfl (bp1_ BK628.out NB628_642.out) Tryd.underlying27 rfl (by kernel_rfl)) rfl ?_
 exact ⟨er_, bi7_⟩


/-! ### spec_DrawHeadOf: function 23 -/
def spec_DrawHeadOf.f (k : Nat) (l0 : List Int) : Option ((List (S27))) := (spec_l01New.f k l0).bind fun bt643 => ((spec_l19Any.f k bt643.1 bt643.2.1 bt643.2.2).bind fun bt647 => (some bt647.1))
theorem spec_DrawHeadOf.mono : ∀ a0 k, LeO (spec_DrawHeadOf.f k a0) (spec_DrawHeadOf.f (k + 1) a0) := by
 intro a0 k
 unfold spec_DrawHeadOf.f
 have m0 := @spec_l01New.mono
 have m1 := @spec_l19Any.mono
 exact mo_
set_option maxHeartbeats 8000000 in
set_option maxRecDepth 100000 in
theorem spec_DrawHeadOf.calls (k : Nat) (A0 : Option Addr) (c0 : Nat) (l0 : List Int) (r : List (S27)) (w : World) (hr0 : Kd.C (Kd.int .u8) w A0 l0.length l0) (hc0 : l0.length ≤ c0) (h : spec_DrawHeadOf.f k l0 = some r) :
 Calls Tryd.prog 23 #[.slice A0 l0.length c0] w fun e w' => ∃ v0_ : Value, e = .returned (v0_) ∧ Kd.R k27 27 w' w.heap.size (fun _ => True) v0_ r ∧ Below w.heap.size w w' := by
 have HR0 := Aside0.mk hr0
 have HC0 := Aside0.mk hc0
 clear hr0 hc0
 have HB := Aside0.mk (Below.refl w.heap.size w)
 have H : ((spec_l01New.f k l0).bind fun bt643 => ((spec_l19Any.f k bt643.1 bt643.2.1 bt643.2.2).bind fun bt647 => (some bt647.1))) = some r := h
 clear h
 replace H := bs_ H
 obtain ⟨⟨t643, t644, t645⟩, A2, H⟩ := H
 try dsimp only at H
 replace H := bs_ H
 obtain ⟨⟨t647, t650, t651⟩, A3, H⟩ := H
 try dsimp only at H
 obtain rfl := Option.some.inj H
 go_enter Tryd.func23, Tryd.ntmps23
 go_wp2_with (first | ((with_reducible refine gate_callee (f := 58) rfl ?_); refine gs_ (some 4) Tryd.func58 #[.slice A0 l0.length c0] ?_; (with_reducible refine (spec_l01New.calls k _ _ l0 t643 t644 t645 w _ ?side1 ?side2 ?side3 A2.out).mono ?_); (case side1 => repeat (first | (with_reducible first | exact HB.out | apply below_alloc | apply pw_below_drewN | apply below_drew1) | exact HB.out)); (case side2 => exact HR0.out); (case side3 => exact HC0.out); rintro e w4 ⟨g646, rfl, hi, hb, hb2⟩; refine ⟨_, rfl, ?_⟩; replace HB := Aside0.mk (hb); have HI646 := Aside0.mk (hi); (try clear hb); (try clear hb2); (try clear hi)) | ((with_reducible refine gate_callee (f := 71) rfl ?_); refine gs_ (some 5) Tryd.func71 #[.pointer (some ⟨g646, 0, none⟩)] ?_; (with_reducible refine (spec_l19Any.calls k g646 t643 t644 t645 t647 t650 t651 w _ ?side1 ?side2 A3.out).mono ?_); (case side1 => exact is8_); (case side2 => exact bi8_); rintro e w5 ⟨v648, rfl, ho0, hi, hb, hk⟩; refine ⟨_, rfl, ?_⟩; have HO649 := Aside0.mk (Kd.R_lower ho0 (below_size bi8_)); replace HB := Aside0.mk (hb); replace HI646 := Aside0.mk (hi); (try clear hb); (try clear hk); (try clear hi); (try clear ho0)))
 go_ret
 exact ⟨_, er_, ra_ HO649.out, bi8_⟩


/-! ### spec_DrawLogText: function 24 -/
def spec_DrawLogText.f (k : Nat) (l0 : List Int) : Option ((List (S27))) := (spec_l01New.f k l0).bind fun bt652 => ((spec_l19Any.f k bt652.1 bt652.2.1 bt652.2.2).bind fun bt656 => (some bt656.1))
theorem spec_DrawLogText.mono : ∀ a0 k, LeO (spec_DrawLogText.f k a0) (spec_DrawLogText.f (k + 1) a0) := by
 intro a0 k
 unfold spec_DrawLogText.f
 have m0 := @spec_l01New.mono
 have m1 := @spec_l19Any.mono
 exact mo_
set_option maxHeartbeats 8000000 in
set_option maxRecDepth 100000 in
theorem spec_DrawLogText.calls (k : Nat) (A0 : Option Addr) (c0 : Nat) (l0 : List Int) (r : List (S27)) (w : World) (hr0 : Kd.C (Kd.int .u8) w A0 l0.length l0) (hc0 : l0.length ≤ c0) (h : spec_DrawLogText.f k l0 = some r) :
 Calls Tryd.prog 24 #[.slice A0 l0.length c0] w fun e w' => ∃ v0_ : Value, e = .returned (v0_) ∧ Kd.R k27 27 w' w.heap.size (fun _ => True) v0_ r ∧ Below w.heap.size w w' := by
 have HR0 := Aside0.mk hr0
 have HC0 := Aside0.mk hc0
 clear hr0 hc0
 have HB := Aside0.mk (Below.refl w.heap.size w)
 have H : ((spec_l01New.f k l0).bind fun bt652 => ((spec_l19Any.f k bt652.1 bt652.2.1 bt652.2.2).bind fun bt656 => (some bt656.1))) = some r := h
 clear h
 replace H := bs_ H
 obtain ⟨⟨t652, t653, t654⟩, A2, H⟩ := H
 try dsimp only at H
 replace H := bs_ H
 obtain ⟨⟨t656, t659, t660⟩, A3, H⟩ := H
 try dsimp only at H
 obtain rfl := Option.some.inj H
 go_enter Tryd.func24, Tryd.ntmps24
 go_wp2_with (first | ((with_reducible refine gate_callee (f := 58) rfl ?_); refine gs_ (some 4) Tryd.func58 #[.slice A0 l0.length c0] ?_; (with_reducible refine (spec_l01New.calls k _ _ l0 t652 t653 t654 w _ ?side1 ?side2 ?side3 A2.out).mono ?_); (case side1 => repeat (first | (with_reducible first | exact HB.out | apply below_alloc | apply pw_below_drewN | apply below_drew1) | exact HB.out)); (case side2 => exact HR0.out); (case side3 => exact HC0.out); rintro e w4 ⟨g655, rfl, hi, hb, hb2⟩; refine ⟨_, rfl, ?_⟩; replace HB := Aside0.mk (hb); have HI655 := Aside0.mk (hi); (try clear hb); (try clear hb2); (try clear hi)) | ((with_reducible refine gate_callee (f := 71) rfl ?_); refine gs_ (some 5) Tryd.func71 #[.pointer (some ⟨g655, 0, none⟩)] ?_; (with_reducible refine (spec_l19Any.calls k g655 t652 t653 t654 t656 t659 t660 w _ ?side1 ?side2 A3.out).mono ?_); (case side1 => exact is9_); (case side2 => exact bi9_); rintro e w5 ⟨v657, rfl, ho0, hi, hb, hk⟩; refine ⟨_, rfl, ?_⟩; have HO658 := Aside0.mk (Kd.R_lower ho0 (below_size bi9_)); replace HB := Aside0.mk (hb); replace HI655 := Aside0.mk (hi); (try clear hb); (try clear hk); (try clear hi); (try clear ho0)))
 go_ret
 exact ⟨_, er_, ra_ HO658.out, bi9_⟩


/-! ### spec_DrawReadLog: function 27 -/
def spec_DrawReadLog.f (k : Nat) (l0 : List Int) : Option (ByteArray) := (spec_l01New.f k l0).bind fun bt695 => ((spec_l01Below.f bt695.1 bt695.2.1 bt695.2.2 4).bind fun bt699 => ((spec_l19Any.f k bt695.1 bt699.2.1 bt699.2.2).bind fun bt702 => ((spec_LogText.f k bt702.1).bind fun bt707 => (if bt699.1 = 0 then ((spec_l02Spoilt.f k bt695.1 bt702.2.1 bt702.2.2 bt707.1).bind fun bt709 => (some bt709.1)) else (some bt707.1)))))
theorem spec_DrawReadLog.mono : ∀ a0 k, LeO (spec_DrawReadLog.f k a0) (spec_DrawReadLog.f (k + 1) a0) := by
 intro a0 k
 unfold spec_DrawReadLog.f
 have m0 := @spec_LogText.mono
 have m1 := @spec_l01New.mono
 have m2 := @spec_l02Spoilt.mono
 have m3 := @spec_l19Any.mono
 exact mo_
set_option maxHeartbeats 8000000 in
set_option maxRecDepth 100000 in
theorem spec_DrawReadLog.calls (k : Nat) (A0 : Option Addr) (c0 : Nat) (l0 : List Int) (r : ByteArray) (w : World) (hr0 : Kd.C (Kd.int .u8) w A0 l0.length l0) (hc0 : l0.length ≤ c0) (h : spec_DrawReadLog.f k l0 = some r) :
 Calls Tryd.prog 27 #[.slice A0 l0.length c0] w fun e w' => e = .returned (.string r) ∧ Below w.heap.size w w' := by
 have HR0 := Aside0.mk hr0
 have HC0 := Aside0.mk hc0
 clear hr0 hc0
 have HB := Aside0.mk (Below.refl w.heap.size w)
 have H : ((spec_l01New.f k l0).bind fun bt695 => ((spec_l01Below.f bt695.1 bt695.2.1 bt695.2.2 4).bind fun bt699 => ((spec_l19Any.f k bt695.1 bt699.2.1 bt699.2.2).bind fun bt702 => ((spec_LogText.f k bt702.1).bind fun bt707 => (if bt699.1 = 0 then ((spec_l02Spoilt.f k bt695.1 bt702.2.1 bt702.2.2 bt707.1).bind fun bt709 => (some bt709.1)) else (some bt707.1)))))) = some r := h
 clear h
 replace H := bs_ H
 obtain ⟨⟨t695, t696, t697⟩, A2, H⟩ := H
 try dsimp only at H
 replace H := bs_ H
 obtain ⟨⟨t699, t700, t701⟩, A3, H⟩ := H
 try dsimp only at H
 replace H := bs_ H
 obtain ⟨⟨t702, t705, t706⟩, A4, H⟩ := H
 try dsimp only at H
 replace H := bs_ H
 obtain ⟨⟨t707, t708⟩, A5, H⟩ := H
 try dsimp only at H
 by_cases c6 : t699 = 0
 rotate_left
 ·rw [if_neg c6] at H
  have c6b0 : (t699 == 0) = false := beq_eq_false_iff_ne.mpr c6
  have c6b1 : (t699 != 0) = true := bne_iff_ne.mpr c6
  obtain rfl := Option.some.inj H
  go_enter Tryd.func27, Tryd.ntmps27
  go_wp2_with (first | ((with_reducible refine gate_callee (f := 58) rfl ?_); refine gs_ (some 8) Tryd.func58 #[.slice A0 l0.length c0] ?_; (with_reducible refine (spec_l01New.calls k _ _ l0 t695 t696 t697 w _ ?side1 ?side2 ?side3 A2.out).mono ?_); (case side1 => repeat (first | (with_reducible first | exact HB.out | apply below_alloc | apply pw_below_drewN | apply below_drew1) | exact HB.out)); (case side2 => exact HR0.out); (case side3 => exact HC0.out); rintro e w14 ⟨g698, rfl, hi, hb, hb2⟩; refine ⟨_, rfl, ?_⟩; replace HB := Aside0.mk (hb); have HI698 := Aside0.mk (hi); (try clear hb); (try clear hb2); (try clear hi)) | ((with_reducible refine gate_callee (f := 64) rfl ?_); refine gs_ (some 10) Tryd.func64 #[.pointer (some ⟨g698, 0, none⟩), .int .i64 4] ?_; (with_reducible refine (spec_l01Below.calls g698 t695 t696 t697 4 t699 t700 t701 w _ ?side1 ?side2 A3.out).mono ?_); (case side1 => exact is10_); (case side2 => exact bi10_); rintro e w15 ⟨rfl, hi, hb, hk⟩; refine ⟨_, rfl, ?_⟩; replace HB := Aside0.mk (hb); replace HI698 := Aside0.mk (hi); (try clear hb); (try clear hk); (try clear hi)) | ((with_reducible refine gate_callee (f := 71) rfl ?_); refine gs_ (some 13) Tryd.func71 #[.pointer (some ⟨g698, 0, none⟩)] ?_; (with_reducible refine (spec_l19Any.calls k g698 t695 t700 t701 t702 t705 t706 w _ ?side1 ?side2 A4.out).mono ?_); (case side1 => exact is10_); (case side2 => exact bi10_); rintro e w16 ⟨v703, rfl, ho0, hi, hb, hk⟩; refine ⟨_, rfl, ?_⟩; have HO704 := Aside0.mk (Kd.R_lower ho0 (below_size bi10_)); replace HB := Aside0.mk (hb); replace HI698 := Aside0.mk (hi); (try clear hb); (try clear hk); (try clear hi); (try clear ho0); obtain ⟨Ao17, co17, eo17⟩ := Kd.R_slice HO704.out; subst eo17) | ((with_reducible refine gate_callee (f := 26) rfl ?_); refine gs_ (some 14) Tryd.func26 #[.slice Ao17 t702.length co17] ?_; (with_reducible refine (spec_LogText.calls k _ _ t702 t707 t708 _ ?side1 ?side2 A5.out).mono ?_); (case side1 => repeat (first | exact (Kd.R_reads' HO704.out).2.2 | (with_reducible refine Kd.C_alloc ?_ _) | (with_reducible refine Kd.C_drewN ?_ _) | (with_reducible refine Kd.C_drew ?_))); (case side2 => exact (Kd.R_reads' HO704.out).2.1); rintro e w18 ⟨rfl, hb⟩; refine ⟨_, rfl, ?_⟩; replace HO704 := Aside0.mk (Kd.R_below (ra_ HO704.out) hb); replace HB := Aside0.mk (below_step bi10_ hb); replace HI698 := Aside0.mk (IsS100.below is10_ hb); (try clear hb)))
  go_ret
  exact ⟨er_, bi10_⟩
 rw [if_pos c6] at H
 have c6b0 : (t699 == 0) = true := beq_iff_eq.mpr c6
 have c6b1 : (t699 != 0) = false := bne_eq_false_iff_eq.mpr c6
 clear c6
 replace H := bs_ H
 obtain ⟨⟨t709, t710, t711⟩, A7, H⟩ := H
 try dsimp only at H
 obtain rfl := Option.some.inj H
 go_enter Tryd.func27, Tryd.ntmps27
 go_wp2_with (first | ((with_reducible refine gate_callee (f := 58) rfl ?_); refine gs_ (some 8) Tryd.func58 #[.slice A0 l0.length c0] ?_; (with_reducible refine (spec_l01New.calls k _ _ l0 t695 t696 t697 w _ ?side1 ?side2 ?side3 A2.out).mono ?_); (case side1 => repeat (first | (with_reducible first | exact HB.out | apply below_alloc | apply pw_below_drewN | apply below_drew1) | exact HB.out)); (case side2 => exact HR0.out); (case side3 => exact HC0.out); rintro e w8 ⟨g698, rfl, hi, hb, hb2⟩; refine ⟨_, rfl, ?_⟩; replace HB := Aside0.mk (hb); have HI698 := Aside0.mk (hi); (try clear hb); (try clear hb2); (try clear hi)) | ((with_reducible refine gate_callee (f := 64) rfl ?_); refine gs_ (some 10) Tryd.func64 #[.pointer (some ⟨g698, 0, none⟩), .int .i64 4] ?_; (with_reducible refine (spec_l01Below.calls g698 t695 t696 t697 4 t699 t700 t701 w _ ?side1 ?side2 A3.out).mono ?_); (case side1 => exact is10_); (case side2 => exact bi10_); rintro e w9 ⟨rfl, hi, hb, hk⟩; refine ⟨_, rfl, ?_⟩; replace HB := Aside0.mk (hb); replace HI698 := Aside0.mk (hi); (try clear hb); (try clear hk); (try clear hi)) | ((with_reducible refine gate_callee (f := 71) rfl ?_); refine gs_ (some 13) Tryd.func71 #[.pointer (some ⟨g698, 0, none⟩)] ?_; (with_reducible refine (spec_l19Any.calls k g698 t695 t700 t701 t702 t705 t706 w _ ?side1 ?side2 A4.out).mono ?_); (case side1 => exact is10_); (case side2 => exact bi10_); rintro e w10 ⟨v703, rfl, ho0, hi, hb, hk⟩; refine ⟨_, rfl, ?_⟩; have HO704 := Aside0.mk (Kd.R_lower ho0 (below_size bi10_)); replace HB := Aside0.mk (hb); replace HI698 := Aside0.mk (hi); (try clear hb); (try clear hk); (try clear hi); (try clear ho0); obtain ⟨Ao11, co11, eo11⟩ := Kd.R_slice HO704.out; subst eo11) | ((with_reducible refine gate_callee (f := 26) rfl ?_); refine gs_ (some 14) Tryd.func26 #[.slice Ao11 t702.length co11] ?_; (with_reducible refine (spec_LogText.calls k _ _ t702 t707 t708 _ ?side1 ?side2 A5.out).mono ?_); (case side1 => repeat (first | exact (Kd.R_reads' HO704.out).2.2 | (with_reducible refine Kd.C_alloc ?_ _) | (with_reducible refine Kd.C_drewN ?_ _) | (with_reducible refine Kd.C_drew ?_))); (case side2 => exact (Kd.R_reads' HO704.out).2.1); rintro e w12 ⟨rfl, hb⟩; refine ⟨_, rfl, ?_⟩; replace HO704 := Aside0.mk (Kd.R_below (ra_ HO704.out) hb); replace HB := Aside0.mk (below_step bi10_ hb); replace HI698 := Aside0.mk (IsS100.below is10_ hb); (try clear hb)) | ((with_reducible refine gate_callee (f := 74) rfl ?_); refine gs_ (some 21) Tryd.func74 #[.pointer (some ⟨g698, 0, none⟩), .string t707] ?_; (with_reducible refine (spec_l02Spoilt.calls k g698 t695 t705 t706 t707 t709 t710 t711 w _ ?side1 ?side2 A7.out).mono ?_); (case side1 => exact is10_); (case side2 => exact bi10_); rintro e w13 ⟨rfl, hi, hb, hk⟩; refine ⟨_, rfl, ?_⟩; replace HO704 := Aside0.mk (Kd.R_mono (Kd.R_keep (IsS100.apart (show IsS100 w _ g698 t695 t705 t706 from is10_) (ra_ HO704.out) (by decide)) hk (fun _ h => h.2)) (fun _ h => h.1)); replace HB := Aside0.mk (hb); replace HI698 := Aside0.mk (hi); (try clear hb); (try clear hk); (try clear hi)))
 go_ret
 exact ⟨er_, bi10_⟩


/-! ### spec_HeadOf: function 34 -/
def spec_HeadOf.l0 : Nat → List (S27) → ByteArray → Int → Option (ByteArray)
 | 0, _, _, _ => none
 | k + 1, x0, x3, x4 => if x4 < (x0.length : Int) then (if 0 ≤ x4 then ((spec_EntryText.f k ((rd_T27 x0 x4).f0) ((rd_T27 x0 x4).f1) ((rd_T27 x0 x4).f2.f0) ((rd_T27 x0 x4).f2.f1) ((rd_T27 x0 x4).f2.f2) ((rd_T27 x0 x4).f2.f3)).bind fun t810 => (if x3.size + t810.size ≤ 9223372036854775807 then ((spec_Digest.f (x3 ++ t810)).bind fun t811 => (spec_HeadOf.l0 k x0 t811 (wrap64 (x4 + 1)))) else (none))) else (none)) else (some x3)
def spec_HeadOf.f (k : Nat) (l0 : List (S27)) : Option (ByteArray) := (spec_Digest.f (⟨#[]⟩ : ByteArray)).bind fun t808 => (spec_HeadOf.l0 k l0 t808 0)
theorem spec_HeadOf.mono_l : ∀ k, (∀ y0 y1 y2, LeO (spec_HeadOf.l0 k y0 y1 y2) (spec_HeadOf.l0 (k + 1) y0 y1 y2))
 | 0 => fun _ _ _ r h => by simp [spec_HeadOf.l0] at h
 | k + 1 => by
  have ih0 := spec_HeadOf.mono_l k
  ·intro y0 y1 y2
   unfold spec_HeadOf.l0
   have m0 := @spec_EntryText.mono
   exact mo_
theorem spec_HeadOf.mono : ∀ a0 k, LeO (spec_HeadOf.f k a0) (spec_HeadOf.f (k + 1) a0) := by
 intro a0 k
 have ih0 := spec_HeadOf.mono_l k
 unfold spec_HeadOf.f
 have m0 := @spec_EntryText.mono
 exact mo_
set_option maxHeartbeats 8000000 in
set_option maxRecDepth 100000 in
theorem spec_HeadOf.calls (k : Nat) (A0 : Option Addr) (c0 : Nat) (l0 : List (S27)) (r : ByteArray) (w : World) (hr0 : Kd.C k27 w A0 l0.length l0) (hc0 : l0.length ≤ c0) (h : spec_HeadOf.f k l0 = some r) :
 Calls Tryd.prog 34 #[.slice A0 l0.length c0] w fun e w' => e = .returned (.string r) ∧ Below w.heap.size w w' := by
 have hu27 := Tryd.underlying27
 have HR0 := Aside0.mk hr0
 have HC0 := Aside0.mk hc0
 clear hr0 hc0
 have HB := Aside0.mk (Below.refl w.heap.size w)
 have H : ((spec_Digest.f (⟨#[]⟩ : ByteArray)).bind fun t808 => (spec_HeadOf.l0 k l0 t808 0)) = some r := h
 clear h
 replace H := bs_ H
 obtain ⟨t808, A2, H⟩ := H
 try dsimp only at H
 have H' := Aside0.mk H
 clear H
 go_enter Tryd.func34, Tryd.ntmps34
 go_wp2_with (first | ((with_reducible refine gate_callee (f := 65) rfl ?_); refine gs_ (some 5) Tryd.func65 #[.string (⟨#[]⟩ : ByteArray)] ?_; (with_reducible refine (spec_Digest.calls (⟨#[]⟩ : ByteArray) t808 _ A2.out).mono ?_); rintro e w3 ⟨rfl, hb⟩; refine ⟨_, rfl, ?_⟩; replace HB := Aside0.mk (below_step bl_ hb); (try clear hb)))
 go_loopg [3, 4] k (fun kq v3 v4 w' => ∃ (x3_1 : ByteArray) (x4_1 : Int), v3 = .string x3_1 ∧ v4 = .int .i64 x4_1 ∧ Aside0 (spec_HeadOf.l0 kq l0 x3_1 x4_1 = some r) ∧ Aside0 (kq ≤ k) ∧ Aside0 (Below w.heap.size w w'))
 case atStart => exact ⟨(t808), (0), (sr_), (sr_), H', ⟨Nat.le_refl _⟩, ⟨bl_⟩⟩
 clear H'
 obtain ⟨x3_1, x4_1, rfl, rfl, HA, HK1, HB⟩ := hrel
 cases gk with
 | zero => exact absurd HA.out (by simp [spec_HeadOf.l0])
 | succ k1 => ?_
 have H := HA.out
 clear HA
 simp only [spec_HeadOf.l0] at H
 by_cases c4 : x4_1 < (l0.length : Int)
 rotate_left
 ·rw [if_neg c4] at H
  have c4b0 := decide_eq_false c4
  clear c4
  obtain rfl := Option.some.inj H
  go_wp2
  go_ret
  exact ⟨er_, bl_⟩
 rw [if_pos c4] at H
 have c4b0 := decide_eq_true c4
 clear c4
 by_cases c5 : 0 ≤ x4_1
 rotate_left
 ·exact nn_ c5 H
 rw [if_pos c5] at H
 have c5b0 := decide_eq_true c5
 clear c5
 replace H := bs_ H
 obtain ⟨t810, A6, H⟩ := H
 try dsimp only at H
 by_cases c7 : x3_1.size + t810.size ≤ 9223372036854775807
 rotate_left
 ·exact nn_ c7 H
 rw [if_pos c7] at H
 have c7b0 := eq_true c7
 have c7b1 : decide (x3_1.size + t810.size ≤ 9223372036854775807) = true := decide_eq_true c7
 try have c7b2 : (9223372036854775807 < x3_1.size + t810.size) = False := eq_false (Nat.not_lt.2 c7)
 replace H := bs_ H
 obtain ⟨t811, A8, H⟩ := H
 try dsimp only at H
 have H' := Aside0.mk H
 clear H
 have p809 : 0 ≤ (x4_1 : Int) := of_decide_eq_true as_
 have q809 : x4_1 < (l0.length : Int) := of_decide_eq_true as_
 obtain ⟨ad809, e809, hx809_0, hx809_1, hx809_2, hx809_3, hx809_4, hx809_5⟩ := at_T27 HR0.out x4_1 p809 q809
 cases e809
 replace hx809_0 := (HB.out.cell (World.block_lt_of_cell? w _ hx809_0)).trans hx809_0
 replace hx809_1 := (HB.out.cell (World.block_lt_of_cell? w _ hx809_1)).trans hx809_1
 replace hx809_2 := (HB.out.cell (World.block_lt_of_cell? w _ hx809_2)).trans hx809_2
 replace hx809_3 := (HB.out.cell (World.block_lt_of_cell? w _ hx809_3)).trans hx809_3
 replace hx809_4 := (HB.out.cell (World.block_lt_of_cell? w _ hx809_4)).trans hx809_4
 replace hx809_5 := (HB.out.cell (World.block_lt_of_cell? w _ hx809_5)).trans hx809_5
 replace p809 := eq_true p809
 replace q809 := eq_true q809
 go_wp2_with (first | ((with_reducible refine gate_callee (f := 32) rfl ?_); refine gs_ (some 17) Tryd.func32 #[.agg #[.int .i64 ((rd_T27 l0 x4_1).f0), .int .i64 ((rd_T27 l0 x4_1).f1), .int .i64 ((rd_T27 l0 x4_1).f2.f0), .int .i64 ((rd_T27 l0 x4_1).f2.f1), .int .i64 ((rd_T27 l0 x4_1).f2.f2), .int .i64 ((rd_T27 l0 x4_1).f2.f3)]] ?_; (with_reducible refine (spec_EntryText.calls k1 ((rd_T27 l0 x4_1).f0) ((rd_T27 l0 x4_1).f1) ((rd_T27 l0 x4_1).f2.f0) ((rd_T27 l0 x4_1).f2.f1) ((rd_T27 l0 x4_1).f2.f2) ((rd_T27 l0 x4_1).f2.f3) t810 _ A6.out).mono ?_); rintro e w9 ⟨rfl, hb⟩; refine ⟨_, rfl, ?_⟩; replace HB := Aside0.mk (below_step bl_ hb); (try clear hb)) | ((with_reducible refine gate_callee (f := 65) rfl ?_); refine gs_ (some 19) Tryd.func65 #[.string (x3_1 ++ t810)] ?_; (with_reducible refine (spec_Digest.calls (x3_1 ++ t810) t811 _ A8.out).mono ?_); rintro e w10 ⟨rfl, hb⟩; refine ⟨_, rfl, ?_⟩; replace HB := Aside0.mk (below_step bl_ hb); (try clear hb)))
 go_roundg k1
 case measure => have := HK1.out; omega
 case rel => exact ⟨(t811), (wrap64 (x4_1 + 1)), (sr_), (sr_), H', ⟨by have := HK1.out; omega⟩, ⟨bl_⟩⟩


/-! ### spec_DrawVerified: function 30 -/
def spec_DrawVerified.f (k : Nat) (l0 : List Int) : Option (ByteArray × ByteArray) := (spec_l01New.f k l0).bind fun bt812 => ((spec_l01Below.f bt812.1 bt812.2.1 bt812.2.2 4).bind fun bt816 => ((spec_l19Any.f k bt812.1 bt816.2.1 bt816.2.2).bind fun bt819 => ((spec_LogText.f k bt819.1).bind fun bt824 => ((spec_HeadOf.f k bt819.1).bind fun t826 => (if bt816.1 = 0 then ((spec_l02Spoilt.f k bt812.1 bt819.2.1 bt819.2.2 bt824.1).bind fun bt827 => (some (bt827.1, t826))) else (if bt816.1 = 1 then ((spec_l02Spoilt.f k bt812.1 bt819.2.1 bt819.2.2 t826).bind fun bt830 => (some (bt824.1, bt830.1))) else (some (bt824.1, t826))))))))
theorem spec_DrawVerified.mono : ∀ a0 k, LeO (spec_DrawVerified.f k a0) (spec_DrawVerified.f (k + 1) a0) := by
 intro a0 k
 unfold spec_DrawVerified.f
 have m0 := @spec_HeadOf.mono
 have m1 := @spec_LogText.mono
 have m2 := @spec_l01New.mono
 have m3 := @spec_l02Spoilt.mono
 have m4 := @spec_l19Any.mono
 exact mo_
set_option maxHeartbeats 8000000 in
set_option maxRecDepth 100000 in
theorem spec_DrawVerified.calls (k : Nat) (A0 : Option Addr) (c0 : Nat) (l0 : List Int) (r1 : ByteArray) (r2 : ByteArray) (w : World) (hr0 : Kd.C (Kd.int .u8) w A0 l0.length l0) (hc0 : l0.length ≤ c0) (h : spec_DrawVerified.f k l0 = some (r1, r2)) :
 Calls Tryd.prog 30 #[.slice A0 l0.length c0] w fun e w' => e = .returned (.tuple #[.string r1, .string r2]) ∧ Below w.heap.size w w' := by
 have HR0 := Aside0.mk hr0
 have HC0 := Aside0.mk hc0
 clear hr0 hc0
 have HB := Aside0.mk (Below.refl w.heap.size w)
 have H : ((spec_l01New.f k l0).bind fun bt812 => ((spec_l01Below.f bt812.1 bt812.2.1 bt812.2.2 4).bind fun bt816 => ((spec_l19Any.f k bt812.1 bt816.2.1 bt816.2.2).bind fun bt819 => ((spec_LogText.f k bt819.1).bind fun bt824 => ((spec_HeadOf.f k bt819.1).bind fun t826 => (if bt816.1 = 0 then ((spec_l02Spoilt.f k bt812.1 bt819.2.1 bt819.2.2 bt824.1).bind fun bt827 => (some (bt827.1, t826))) else (if bt816.1 = 1 then ((spec_l02Spoilt.f k bt812.1 bt819.2.1 bt819.2.2 t826).bind fun bt830 => (some (bt824.1, bt830.1))) else (some (bt824.1, t826))))))))) = some (r1, r2) := h
 clear h
 replace H := bs_ H
 obtain ⟨⟨t812, t813, t814⟩, A2, H⟩ := H
 try dsimp only at H
 replace H := bs_ H
 obtain ⟨⟨t816, t817, t818⟩, A3, H⟩ := H
 try dsimp only at H
 replace H := bs_ H
 obtain ⟨⟨t819, t822, t823⟩, A4, H⟩ := H
 try dsimp only at H
 replace H := bs_ H
 obtain ⟨⟨t824, t825⟩, A5, H⟩ := H
 try dsimp only at H
 replace H := bs_ H
 obtain ⟨t826, A6, H⟩ := H
 try dsimp only at H
 by_cases c7 : t816 = 0
 ·rw [if_pos c7] at H
  have c7b0 : (t816 == 0) = true := beq_iff_eq.mpr c7
  have c7b1 : (t816 != 0) = false := bne_eq_false_iff_eq.mpr c7
  clear c7
  replace H := bs_ H
  obtain ⟨⟨t827, t828, t829⟩, A8, H⟩ := H
  try dsimp only at H
  simp only [Option.some.injEq, Prod.mk.injEq] at H
  obtain ⟨rfl, rfl⟩ := H
  go_enter Tryd.func30, Tryd.ntmps30
  go_wp2_with (first | ((with_reducible refine gate_callee (f := 58) rfl ?_); refine gs_ (some 11) Tryd.func58 #[.slice A0 l0.length c0] ?_; (with_reducible refine (spec_l01New.calls k _ _ l0 t812 t813 t814 w _ ?side1 ?side2 ?side3 A2.out).mono ?_); (case side1 => repeat (first | (with_reducible first | exact HB.out | apply below_alloc | apply pw_below_drewN | apply below_drew1) | exact HB.out)); (case side2 => exact HR0.out); (case side3 => exact HC0.out); rintro e w9 ⟨g815, rfl, hi, hb, hb2⟩; refine ⟨_, rfl, ?_⟩; replace HB := Aside0.mk (hb); have HI815 := Aside0.mk (hi); (try clear hb); (try clear hb2); (try clear hi)) | ((with_reducible refine gate_callee (f := 64) rfl ?_); refine gs_ (some 13) Tryd.func64 #[.pointer (some ⟨g815, 0, none⟩), .int .i64 4] ?_; (with_reducible refine (spec_l01Below.calls g815 t812 t813 t814 4 t816 t817 t818 w _ ?side1 ?side2 A3.out).mono ?_); (case side1 => exact is11_); (case side2 => exact bi11_); rintro e w10 ⟨rfl, hi, hb, hk⟩; refine ⟨_, rfl, ?_⟩; replace HB := Aside0.mk (hb); replace HI815 := Aside0.mk (hi); (try clear hb); (try clear hk); (try clear hi)) | ((with_reducible refine gate_callee (f := 71) rfl ?_); refine gs_ (some 15) Tryd.func71 #[.pointer (some ⟨g815, 0, none⟩)] ?_; (with_reducible refine (spec_l19Any.calls k g815 t812 t817 t818 t819 t822 t823 w _ ?side1 ?side2 A4.out).mono ?_); (case side1 => exact is11_); (case side2 => exact bi11_); rintro e w11 ⟨v820, rfl, ho0, hi, hb, hk⟩; refine ⟨_, rfl, ?_⟩; have HO821 := Aside0.mk (Kd.R_lower ho0 (below_size bi11_)); replace HB := Aside0.mk (hb); replace HI815 := Aside0.mk (hi); (try clear hb); (try clear hk); (try clear hi); (try clear ho0); obtain ⟨Ao12, co12, eo12⟩ := Kd.R_slice HO821.out; subst eo12) | ((with_reducible refine gate_callee (f := 26) rfl ?_); refine gs_ (some 18) Tryd.func26 #[.slice Ao12 t819.length co12] ?_; (with_reducible refine (spec_LogText.calls k _ _ t819 t824 t825 _ ?side1 ?side2 A5.out).mono ?_); (case side1 => repeat (first | exact (Kd.R_reads' HO821.out).2.2 | (with_reducible refine Kd.C_alloc ?_ _) | (with_reducible refine Kd.C_drewN ?_ _) | (with_reducible refine Kd.C_drew ?_))); (case side2 => exact (Kd.R_reads' HO821.out).2.1); rintro e w13 ⟨rfl, hb⟩; refine ⟨_, rfl, ?_⟩; replace HO821 := Aside0.mk (Kd.R_below (ra_ HO821.out) hb); replace HB := Aside0.mk (below_step bi11_ hb); replace HI815 := Aside0.mk (IsS100.below is11_ hb); (try clear hb)) | ((with_reducible refine gate_callee (f := 34) rfl ?_); refine gs_ (some 22) Tryd.func34 #[.slice Ao12 t819.length co12] ?_; (with_reducible refine (spec_HeadOf.calls k _ _ t819 t826 _ ?side1 ?side2 A6.out).mono ?_); (case side1 => repeat (first | exact (Kd.R_reads' HO821.out).2.2 | (with_reducible refine Kd.C_alloc ?_ _) | (with_reducible refine Kd.C_drewN ?_ _) | (with_reducible refine Kd.C_drew ?_))); (case side2 => exact (Kd.R_reads' HO821.out).2.1); rintro e w14 ⟨rfl, hb⟩; refine ⟨_, rfl, ?_⟩; replace HO821 := Aside0.mk (Kd.R_below (ra_ HO821.out) hb); replace HB := Aside0.mk (below_step bi11_ hb); replace HI815 := Aside0.mk (IsS100.below is11_ hb); (try clear hb)) | ((with_reducible refine gate_callee (f := 74) rfl ?_); refine gs_ (some 28) Tryd.func74 #[.pointer (some ⟨g815, 0, none⟩), .string t824] ?_; (with_reducible refine (spec_l02Spoilt.calls k g815 t812 t822 t823 t824 t827 t828 t829 w _ ?side1 ?side2 A8.out).mono ?_); (case side1 => exact is11_); (case side2 => exact bi11_); rintro e w15 ⟨rfl, hi, hb, hk⟩; refine ⟨_, rfl, ?_⟩; replace HO821 := Aside0.mk (Kd.R_mono (Kd.R_keep (IsS100.apart (show IsS100 w _ g815 t812 t822 t823 from is11_) (ra_ HO821.out) (by decide)) hk (fun _ h => h.2)) (fun _ h => h.1)); replace HB := Aside0.mk (hb); replace HI815 := Aside0.mk (hi); (try clear hb); (try clear hk); (try clear hi)))
  go_ret2
  exact ⟨er_, bi11_⟩
 rw [if_neg c7] at H
 have c7b0 : (t816 == 0) = false := beq_eq_false_iff_ne.mpr c7
 have c7b1 : (t816 != 0) = true := bne_iff_ne.mpr c7
 by_cases c16 : t816 = 1
 rotate_left
 ·rw [if_neg c16] at H
  have c16b0 : (t816 == 1) = false := beq_eq_false_iff_ne.mpr c16
  have c16b1 : (t816 != 1) = true := bne_iff_ne.mpr c16
  simp only [Option.some.injEq, Prod.mk.injEq] at H
  obtain ⟨rfl, rfl⟩ := H
  go_enter Tryd.func30, Tryd.ntmps30
  go_wp2_with (first | ((with_reducible refine gate_callee (f := 58) rfl ?_); refine gs_ (some 11) Tryd.func58 #[.slice A0 l0.length c0] ?_; (with_reducible refine (spec_l01New.calls k _ _ l0 t812 t813 t814 w _ ?side1 ?side2 ?side3 A2.out).mono ?_); (case side1 => repeat (first | (with_reducible first | exact HB.out | apply below_alloc | apply pw_below_drewN | apply below_drew1) | exact HB.out)); (case side2 => exact HR0.out); (case side3 => exact HC0.out); rintro e w25 ⟨g815, rfl, hi, hb, hb2⟩; refine ⟨_, rfl, ?_⟩; replace HB := Aside0.mk (hb); have HI815 := Aside0.mk (hi); (try clear hb); (try clear hb2); (try clear hi)) | ((with_reducible refine gate_callee (f := 64) rfl ?_); refine gs_ (some 13) Tryd.func64 #[.pointer (some ⟨g815, 0, none⟩), .int .i64 4] ?_; (with_reducible refine (spec_l01Below.calls g815 t812 t813 t814 4 t816 t817 t818 w _ ?side1 ?side2 A3.out).mono ?_); (case side1 => exact is11_); (case side2 => exact bi11_); rintro e w26 ⟨rfl, hi, hb, hk⟩; refine ⟨_, rfl, ?_⟩; replace HB := Aside0.mk (hb); replace HI815 := Aside0.mk (hi); (try clear hb); (try clear hk); (try clear hi)) | ((with_reducible refine gate_callee (f := 71) rfl ?_); refine gs_ (some 15) Tryd.func71 #[.pointer (some ⟨g815, 0, none⟩)] ?_; (with_reducible refine (spec_l19Any.calls k g815 t812 t817 t818 t819 t822 t823 w _ ?side1 ?side2 A4.out).mono ?_); (case side1 => exact is11_); (case side2 => exact bi11_); rintro e w27 ⟨v820, rfl, ho0, hi, hb, hk⟩; refine ⟨_, rfl, ?_⟩; have HO821 := Aside0.mk (Kd.R_lower ho0 (below_size bi11_)); replace HB := Aside0.mk (hb); replace HI815 := Aside0.mk (hi); (try clear hb); (try clear hk); (try clear hi); (try clear ho0); obtain ⟨Ao28, co28, eo28⟩ := Kd.R_slice HO821.out; subst eo28) | ((with_reducible refine gate_callee (f := 26) rfl ?_); refine gs_ (some 18) Tryd.func26 #[.slice Ao28 t819.length co28] ?_; (with_reducible refine (spec_LogText.calls k _ _ t819 t824 t825 _ ?side1 ?side2 A5.out).mono ?_); (case side1 => repeat (first | exact (Kd.R_reads' HO821.out).2.2 | (with_reducible refine Kd.C_alloc ?_ _) | (with_reducible refine Kd.C_drewN ?_ _) | (with_reducible refine Kd.C_drew ?_))); (case side2 => exact (Kd.R_reads' HO821.out).2.1); rintro e w29 ⟨rfl, hb⟩; refine ⟨_, rfl, ?_⟩; replace HO821 := Aside0.mk (Kd.R_below (ra_ HO821.out) hb); replace HB := Aside0.mk (below_step bi11_ hb); replace HI815 := Aside0.mk (IsS100.below is11_ hb); (try clear hb)) | ((with_reducible refine gate_callee (f := 34) rfl ?_); refine gs_ (some 22) Tryd.func34 #[.slice Ao28 t819.length co28] ?_; (with_reducible refine (spec_HeadOf.calls k _ _ t819 t826 _ ?side1 ?side2 A6.out).mono ?_); (case side1 => repeat (first | exact (Kd.R_reads' HO821.out).2.2 | (with_reducible refine Kd.C_alloc ?_ _) | (with_reducible refine Kd.C_drewN ?_ _) | (with_reducible refine Kd.C_drew ?_))); (case side2 => exact (Kd.R_reads' HO821.out).2.1); rintro e w30 ⟨rfl, hb⟩; refine ⟨_, rfl, ?_⟩; replace HO821 := Aside0.mk (Kd.R_below (ra_ HO821.out) hb); replace HB := Aside0.mk (below_step bi11_ hb); replace HI815 := Aside0.mk (IsS100.below is11_ hb); (try clear hb)))
  go_ret2
  exact ⟨er_, bi11_⟩
 rw [if_pos c16] at H
 have c16b0 : (t816 == 1) = true := beq_iff_eq.mpr c16
 have c16b1 : (t816 != 1) = false := bne_eq_false_iff_eq.mpr c16
 clear c16
 replace H := bs_ H
 obtain ⟨⟨t830, t831, t832⟩, A17, H⟩ := H
 try dsimp only at H
 simp only [Option.some.injEq, Prod.mk.injEq] at H
 obtain ⟨rfl, rfl⟩ := H
 go_enter Tryd.func30, Tryd.ntmps30
 go_wp2_with (first | ((with_reducible refine gate_callee (f := 58) rfl ?_); refine gs_ (some 11) Tryd.func58 #[.slice A0 l0.length c0] ?_; (with_reducible refine (spec_l01New.calls k _ _ l0 t812 t813 t814 w _ ?side1 ?side2 ?side3 A2.out).mono ?_); (case side1 => repeat (first | (with_reducible first | exact HB.out | apply below_alloc | apply pw_below_drewN | apply below_drew1) | exact HB.out)); (case side2 => exact HR0.out); (case side3 => exact HC0.out); rintro e w18 ⟨g815, rfl, hi, hb, hb2⟩; refine ⟨_, rfl, ?_⟩; replace HB := Aside0.mk (hb); have HI815 := Aside0.mk (hi); (try clear hb); (try clear hb2); (try clear hi)) | ((with_reducible refine gate_callee (f := 64) rfl ?_); refine gs_ (some 13) Tryd.func64 #[.pointer (some ⟨g815, 0, none⟩), .int .i64 4] ?_; (with_reducible refine (spec_l01Below.calls g815 t812 t813 t814 4 t816 t817 t818 w _ ?side1 ?side2 A3.out).mono ?_); (case side1 => exact is11_); (case side2 => exact bi11_); rintro e w19 ⟨rfl, hi, hb, hk⟩; refine ⟨_, rfl, ?_⟩; replace HB := Aside0.mk (hb); replace HI815 := Aside0.mk (hi); (try clear hb); (try clear hk); (try clear hi)) | ((with_reducible refine gate_callee (f := 71) rfl ?_); refine gs_ (some 15) Tryd.func71 #[.pointer (some ⟨g815, 0, none⟩)] ?_; (with_reducible refine (spec_l19Any.calls k g815 t812 t817 t818 t819 t822 t823 w _ ?side1 ?side2 A4.out).mono ?_); (case side1 => exact is11_); (case side2 => exact bi11_); rintro e w20 ⟨v820, rfl, ho0, hi, hb, hk⟩; refine ⟨_, rfl, ?_⟩; have HO821 := Aside0.mk (Kd.R_lower ho0 (below_size bi11_)); replace HB := Aside0.mk (hb); replace HI815 := Aside0.mk (hi); (try clear hb); (try clear hk); (try clear hi); (try clear ho0); obtain ⟨Ao21, co21, eo21⟩ := Kd.R_slice HO821.out; subst eo21) | ((with_reducible refine gate_callee (f := 26) rfl ?_); refine gs_ (some 18) Tryd.func26 #[.slice Ao21 t819.length co21] ?_; (with_reducible refine (spec_LogText.calls k _ _ t819 t824 t825 _ ?side1 ?side2 A5.out).mono ?_); (case side1 => repeat (first | exact (Kd.R_reads' HO821.out).2.2 | (with_reducible refine Kd.C_alloc ?_ _) | (with_reducible refine Kd.C_drewN ?_ _) | (with_reducible refine Kd.C_drew ?_))); (case side2 => exact (Kd.R_reads' HO821.out).2.1); rintro e w22 ⟨rfl, hb⟩; refine ⟨_, rfl, ?_⟩; replace HO821 := Aside0.mk (Kd.R_below (ra_ HO821.out) hb); replace HB := Aside0.mk (below_step bi11_ hb); replace HI815 := Aside0.mk (IsS100.below is11_ hb); (try clear hb)) | ((with_reducible refine gate_callee (f := 34) rfl ?_); refine gs_ (some 22) Tryd.func34 #[.slice Ao21 t819.length co21] ?_; (with_reducible refine (spec_HeadOf.calls k _ _ t819 t826 _ ?side1 ?side2 A6.out).mono ?_); (case side1 => repeat (first | exact (Kd.R_reads' HO821.out).2.2 | (with_reducible refine Kd.C_alloc ?_ _) | (with_reducible refine Kd.C_drewN ?_ _) | (with_reducible refine Kd.C_drew ?_))); (case side2 => exact (Kd.R_reads' HO821.out).2.1); rintro e w23 ⟨rfl, hb⟩; refine ⟨_, rfl, ?_⟩; replace HO821 := Aside0.mk (Kd.R_below (ra_ HO821.out) hb); replace HB := Aside0.mk (below_step bi11_ hb); replace HI815 := Aside0.mk (IsS100.below is11_ hb); (try clear hb)) | ((with_reducible refine gate_callee (f := 74) rfl ?_); refine gs_ (some 35) Tryd.func74 #[.pointer (some ⟨g815, 0, none⟩), .string t826] ?_; (with_reducible refine (spec_l02Spoilt.calls k g815 t812 t822 t823 t826 t830 t831 t832 w _ ?side1 ?side2 A17.out).mono ?_); (case side1 => exact is11_); (case side2 => exact bi11_); rintro e w24 ⟨rfl, hi, hb, hk⟩; refine ⟨_, rfl, ?_⟩; replace HO821 := Aside0.mk (Kd.R_mono (Kd.R_keep (IsS100.apart (show IsS100 w _ g815 t812 t822 t823 from is11_) (ra_ HO821.out) (by decide)) hk (fun _ h => h.2)) (fun _ h => h.1)); replace HB := Aside0.mk (hb); replace HI815 := Aside0.mk (hi); (try clear hb); (try clear hk); (try clear hi)))
 go_ret2
 exact ⟨er_, bi11_⟩

end Go.Proofs.YtdlapahfmfhbjaaDoor.PA
