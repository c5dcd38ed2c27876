/- Contracts of functions of the program and of the reference, and plain lemmas on what they compute. No condition. -/
import Derived.Test.YtjfmpodeenidnaaG90508x0
import Derived.Test.YtjfmpodeenidnaaG90508x1
import Derived.Test.YtjfmpodeenidnaaShortV
set_option maxHeartbeats 8000000
set_option maxRecDepth 100000
namespace Go.Proofs.Ytjfmpodeenidnaa.PC
open Go.RowKit Go.Proofs.Ytjfmpodeenidnaa.Short Go.Proofs.YtjfmpodeenidnaaW.PrintWords Go.Proofs.YtjfmpodeenidnaaW.PrintLast Go.Proofs.YtjfmpodeenidnaaW.PrintMore
attribute [local go_sem] max2_int min2_int max_two min_two max_three min_three max_four min_four   -- for this text's walks alone
set_option linter.unusedVariables false
set_option linter.unusedSimpArgs false

def spec_l04Wide.f (s0_0 : List Int) (s0_1 : Int) (s0_2 : Int) : Option (Int × Int × Int × Int) := (spec_l04Half.f s0_0 s0_1 s0_2).bind fun bt244 => ((spec_l01Once.f s0_0 bt244.2.1 bt244.2.2 3).bind fun bt248 => (if bt248.1 = true then ((spec_l04Half.f s0_0 bt248.2.1 bt248.2.2).bind fun bt251 => (some (bt251.1, bt244.1, bt251.2.1, bt251.2.2))) else (some (0, bt244.1, bt248.2.1, bt248.2.2))))
theorem spec_l04Wide.calls (g : Nat) (s0_0 : List Int) (s0_1 : Int) (s0_2 : Int) (r1 : Int) (r2 : Int) (r3 : Int) (r4 : Int) (w0 w : World) (hI : IsS118 w0 w g s0_0 s0_1 s0_2) (hB : Below w0.heap.size w0 w) (h : spec_l04Wide.f s0_0 s0_1 s0_2 = some (r1, r2, r3, r4)) :
 Calls Try.prog 105 #[.pointer (some ⟨g, 0, none⟩)] w fun e w' => e = .returned (.agg #[.int .i64 r1, .int .i64 r2]) ∧ IsS118 w0 w' g s0_0 r3 r4 ∧ Below w0.heap.size w0 w' ∧ KeepBut w w' g none := by
 have hu98 := Try.underlying98
 have HI0 := Aside0.mk hI
 have HK := Aside0.mk (KeepBut.refl w g none)
 have HL := Aside0.mk hB.size
 clear hI
 have HW0 := Aside0.mk hB.size
 have HB := Aside0.mk hB
 clear hB
 have H := h
 unfold spec_l04Wide.f at H
 clear h
 replace H := bs_ H
 obtain ⟨⟨t244, t245, t246⟩, A2, H⟩ := H
 try dsimp only at H
 replace H := bs_ H
 obtain ⟨⟨t248, t249, t250⟩, A3, H⟩ := H
 try dsimp only at H
 by_cases c4 : t248 = true
 rotate_left
 ·replace c4 := Bool.eq_false_iff.mpr c4
  subst c4
  rw [nf_] at H
  simp only [Option.some.injEq, Prod.mk.injEq] at H
  obtain ⟨rfl, rfl, rfl, rfl⟩ := H
  go_enter Try.func105, Try.ntmps105
  go_wp2_with (first | ((with_reducible refine gate_dst (N := 2) rfl ?_); refine bx_ 2 98 #[.int .i64 0, .int .i64 0] ?_; intro gb243 hg w17 hbox hb; replace HB := Aside0.mk (below_step bi0_ hb); have BK243 := Aside0.mk (hbox); have GW243 := Aside0.mk ((by rw [hg]; exact (keep_size (w := w) (g := g) (row := none) hkx_) : w.heap.size ≤ gb243)); have GE243 := Aside0.mk ((Nat.le_trans HW0.out (by rw [hg]; exact (keep_size (w := w) (g := g) (row := none) hkx_) : w.heap.size ≤ gb243) : w0.heap.size ≤ gb243)); replace HK := Aside0.mk (KeepBut.trans hkx_ (KeepBut.of_below hb g none) (.inl rfl)); have NB0_243 := Aside0.mk (il_ hg (IsS118.lt (show IsS118 w0 _ g s0_0 s0_1 s0_2 from is0_))); have NB243_0 := Aside0.mk (ig_ hg (IsS118.lt (show IsS118 w0 _ g s0_0 s0_1 s0_2 from is0_))); replace HI0 := Aside0.mk (IsS118.below is0_ hb); clear hb hbox hg) | ((with_reducible refine gate_callee (f := 128) rfl ?_); refine gs_ (some 5) Try.func128 #[.pointer (some ⟨g, 0, none⟩)] ?_; (with_reducible refine (spec_l04Half.calls g s0_0 s0_1 s0_2 t244 t245 t246 w0 _ ?side1 ?side2 A2.out).mono ?_); (case side1 => exact is0_); (case side2 => exact bi0_); rintro e w18 ⟨rfl, hi, hb, hk⟩; refine ⟨_, rfl, ?_⟩; replace BK243 := Aside0.mk (KeepBut.blk hk (g' := gb243) (o := .cells #[.int .i64 0, .int .i64 0] 98 (0, 0)) (bk_ BK243.out) NB243_0.out (by simp)); replace HK := Aside0.mk (KeepBut.trans (by repeat (first | (with_reducible first | exact HK.out | apply KeepBut.set_ | apply keep_drewN | apply keep_drew | apply keep_alloc | refine keep_far ?_ GW243.out _) | exact HK.out)) hk (.inl rfl)); replace HB := Aside0.mk (hb); replace HI0 := Aside0.mk (hi); (try clear hb); (try clear hk); (try clear hi)) | ((with_reducible refine gate_dst (N := 3) rfl ?_); refine bx_ 3 98 #[.int .i64 0, .int .i64 0] ?_; intro gb247 hg w19 hbox hb; replace HB := Aside0.mk (below_step bi0_ hb); have BK247 := Aside0.mk (hbox); have GW247 := Aside0.mk ((by rw [hg]; exact (keep_size (w := w) (g := g) (row := none) hkx_) : w.heap.size ≤ gb247)); have GE247 := Aside0.mk ((Nat.le_trans HW0.out (by rw [hg]; exact (keep_size (w := w) (g := g) (row := none) hkx_) : w.heap.size ≤ gb247) : w0.heap.size ≤ gb247)); replace HK := Aside0.mk (KeepBut.trans (by repeat (first | (with_reducible first | exact HK.out | apply KeepBut.set_ | apply keep_drewN | apply keep_drew | apply keep_alloc | refine keep_far ?_ GW243.out _) | exact HK.out)) (KeepBut.of_below hb g none) (.inl rfl)); have NB243_247 := Aside0.mk (nl_ BK243.out hg); have NB247_243 := Aside0.mk (ng_ BK243.out hg); replace BK243 := bb0_ BK243.out hb; have NB0_247 := Aside0.mk (il_ hg (IsS118.lt (show IsS118 w0 _ g s0_0 t245 t246 from is0_))); have NB247_0 := Aside0.mk (ig_ hg (IsS118.lt (show IsS118 w0 _ g s0_0 t245 t246 from is0_))); replace HI0 := Aside0.mk (IsS118.below is0_ hb); clear hb hbox hg; have hnb20 := NB247_243.out; have hnc20 := NB243_247.out; have hnb21 := NB247_0.out; have hnc21 := NB0_247.out; obtain ⟨hcz22_0, hcz22_1, hfz22_0, hfz22_1⟩ := cf2_ BK247.out) | ((with_reducible refine gate_callee (f := 65) rfl ?_); refine gs_ (some 8) Try.func65 #[.pointer (some ⟨g, 0, none⟩), .int .i64 3] ?_; (with_reducible refine (spec_l01Once.calls g s0_0 t245 t246 3 false t249 t250 w0 _ ?side1 ?side2 A3.out).mono ?_); (case side1 => exact is0_); (case side2 => exact bi0_); rintro e w23 ⟨rfl, hi, hb, hk⟩; refine ⟨_, rfl, ?_⟩; replace BK243 := Aside0.mk (KeepBut.blk hk (g' := gb243) (o := .cells #[.int .i64 0, .int .i64 0] 98 (0, 0)) (bp1_ BK243.out NB243_247.out) NB243_0.out (by simp)); replace BK247 := Aside0.mk (KeepBut.blk hk (g' := gb247) (o := .cells #[.int .i64 0, .int .i64 t244] 98 (0, 0)) (bp0_ BK247.out) NB247_0.out (by simp)); replace HK := Aside0.mk (KeepBut.trans (by repeat (first | (with_reducible first | exact HK.out | apply KeepBut.set_ | apply keep_drewN | apply keep_drew | apply keep_alloc | refine keep_far ?_ GW243.out _ | refine keep_far ?_ GW247.out _) | exact HK.out)) hk (.inl rfl)); replace HB := Aside0.mk (hb); replace HI0 := Aside0.mk (hi); (try clear hb); (try clear hk); (try clear hi); obtain ⟨hcz24_0, hcz24_1, hfz24_0, hfz24_1⟩ := cf2_ BK247.out; have hnb25 := NB243_0.out; have hnc25 := NB0_243.out; obtain ⟨hcz26_0, hcz26_1, hfz26_0, hfz26_1⟩ := cf2_ BK243.out))
  refine bodyPost_ret (results_cell_row rfl _ _ gb243 98 #[.int .i64 0, .int .i64 t244] (0, 0) _ rfl (bp0_ BK243.out) Try.underlying98 rfl (by kernel_rfl)) rfl ?_
  exact ⟨er_, is0_, bi0_, hkx_⟩
 subst c4
 rw [if_pos rfl] at H
 replace H := bs_ H
 obtain ⟨⟨t251, t252, t253⟩, A5, H⟩ := H
 try dsimp only at H
 simp only [Option.some.injEq, Prod.mk.injEq] at H
 obtain ⟨rfl, rfl, rfl, rfl⟩ := H
 go_enter Try.func105, Try.ntmps105
 go_wp2_with (first | ((with_reducible refine gate_dst (N := 2) rfl ?_); refine bx_ 2 98 #[.int .i64 0, .int .i64 0] ?_; intro gb243 hg w6 hbox hb; replace HB := Aside0.mk (below_step bi0_ hb); have BK243 := Aside0.mk (hbox); have GW243 := Aside0.mk ((by rw [hg]; exact (keep_size (w := w) (g := g) (row := none) hkx_) : w.heap.size ≤ gb243)); have GE243 := Aside0.mk ((Nat.le_trans HW0.out (by rw [hg]; exact (keep_size (w := w) (g := g) (row := none) hkx_) : w.heap.size ≤ gb243) : w0.heap.size ≤ gb243)); replace HK := Aside0.mk (KeepBut.trans hkx_ (KeepBut.of_below hb g none) (.inl rfl)); have NB0_243 := Aside0.mk (il_ hg (IsS118.lt (show IsS118 w0 _ g s0_0 s0_1 s0_2 from is0_))); have NB243_0 := Aside0.mk (ig_ hg (IsS118.lt (show IsS118 w0 _ g s0_0 s0_1 s0_2 from is0_))); replace HI0 := Aside0.mk (IsS118.below is0_ hb); clear hb hbox hg) | ((with_reducible refine gate_callee (f := 128) rfl ?_); refine gs_ (some 5) Try.func128 #[.pointer (some ⟨g, 0, none⟩)] ?_; (with_reducible refine (spec_l04Half.calls g s0_0 s0_1 s0_2 t244 t245 t246 w0 _ ?side1 ?side2 A2.out).mono ?_); (case side1 => exact is0_); (case side2 => exact bi0_); rintro e w7 ⟨rfl, hi, hb, hk⟩; refine ⟨_, rfl, ?_⟩; replace BK243 := Aside0.mk (KeepBut.blk hk (g' := gb243) (o := .cells #[.int .i64 0, .int .i64 0] 98 (0, 0)) (bk_ BK243.out) NB243_0.out (by simp)); replace HK := Aside0.mk (KeepBut.trans (by repeat (first | (with_reducible first | exact HK.out | apply KeepBut.set_ | apply keep_drewN | apply keep_drew | apply keep_alloc | refine keep_far ?_ GW243.out _) | exact HK.out)) hk (.inl rfl)); replace HB := Aside0.mk (hb); replace HI0 := Aside0.mk (hi); (try clear hb); (try clear hk); (try clear hi)) | ((with_reducible refine gate_dst (N := 3) rfl ?_); refine bx_ 3 98 #[.int .i64 0, .int .i64 0] ?_; intro gb247 hg w8 hbox hb; replace HB := Aside0.mk (below_step bi0_ hb); have BK247 := Aside0.mk (hbox); have GW247 := Aside0.mk ((by rw [hg]; exact (keep_size (w := w) (g := g) (row := none) hkx_) : w.heap.size ≤ gb247)); have GE247 := Aside0.mk ((Nat.le_trans HW0.out (by rw [hg]; exact (keep_size (w := w) (g := g) (row := none) hkx_) : w.heap.size ≤ gb247) : w0.heap.size ≤ gb247)); replace HK := Aside0.mk (KeepBut.trans (by repeat (first | (with_reducible first | exact HK.out | apply KeepBut.set_ | apply keep_drewN | apply keep_drew | apply keep_alloc | refine keep_far ?_ GW243.out _) | exact HK.out)) (KeepBut.of_below hb g none) (.inl rfl)); have NB243_247 := Aside0.mk (nl_ BK243.out hg); have NB247_243 := Aside0.mk (ng_ BK243.out hg); replace BK243 := bb0_ BK243.out hb; have NB0_247 := Aside0.mk (il_ hg (IsS118.lt (show IsS118 w0 _ g s0_0 t245 t246 from is0_))); have NB247_0 := Aside0.mk (ig_ hg (IsS118.lt (show IsS118 w0 _ g s0_0 t245 t246 from is0_))); replace HI0 := Aside0.mk (IsS118.below is0_ hb); clear hb hbox hg; have hnb9 := NB247_243.out; have hnc9 := NB243_247.out; have hnb10 := NB247_0.out; have hnc10 := NB0_247.out; obtain ⟨hcz11_0, hcz11_1, hfz11_0, hfz11_1⟩ := cf2_ BK247.out) | ((with_reducible refine gate_callee (f := 65) rfl ?_); refine gs_ (some 8) Try.func65 #[.pointer (some ⟨g, 0, none⟩), .int .i64 3] ?_; (with_reducible refine (spec_l01Once.calls g s0_0 t245 t246 3 true t249 t250 w0 _ ?side1 ?side2 A3.out).mono ?_); (case side1 => exact is0_); (case side2 => exact bi0_); rintro e w12 ⟨rfl, hi, hb, hk⟩; refine ⟨_, rfl, ?_⟩; replace BK243 := Aside0.mk (KeepBut.blk hk (g' := gb243) (o := .cells #[.int .i64 0, .int .i64 0] 98 (0, 0)) (bp1_ BK243.out NB243_247.out) NB243_0.out (by simp)); replace BK247 := Aside0.mk (KeepBut.blk hk (g' := gb247) (o := .cells #[.int .i64 0, .int .i64 t244] 98 (0, 0)) (bp0_ BK247.out) NB247_0.out (by simp)); replace HK := Aside0.mk (KeepBut.trans (by repeat (first | (with_reducible first | exact HK.out | apply KeepBut.set_ | apply keep_drewN | apply keep_drew | apply keep_alloc | refine keep_far ?_ GW243.out _ | refine keep_far ?_ GW247.out _) | exact HK.out)) hk (.inl rfl)); replace HB := Aside0.mk (hb); replace HI0 := Aside0.mk (hi); (try clear hb); (try clear hk); (try clear hi)) | ((with_reducible refine gate_callee (f := 128) rfl ?_); refine gs_ (some 10) Try.func128 #[.pointer (some ⟨g, 0, none⟩)] ?_; (with_reducible refine (spec_l04Half.calls g s0_0 t249 t250 t251 t252 t253 w0 _ ?side1 ?side2 A5.out).mono ?_); (case side1 => exact is0_); (case side2 => exact bi0_); rintro e w13 ⟨rfl, hi, hb, hk⟩; refine ⟨_, rfl, ?_⟩; replace BK243 := Aside0.mk (KeepBut.blk hk (g' := gb243) (o := .cells #[.int .i64 0, .int .i64 0] 98 (0, 0)) (bk_ BK243.out) NB243_0.out (by simp)); replace BK247 := Aside0.mk (KeepBut.blk hk (g' := gb247) (o := .cells #[.int .i64 0, .int .i64 t244] 98 (0, 0)) (bk_ BK247.out) NB247_0.out (by simp)); replace HK := Aside0.mk (KeepBut.trans (by repeat (first | (with_reducible first | exact HK.out | apply KeepBut.set_ | apply keep_drewN | apply keep_drew | apply keep_alloc | refine keep_far ?_ GW243.out _ | refine keep_far ?_ GW247.out _) | exact HK.out)) hk (.inl rfl)); replace HB := Aside0.mk (hb); replace HI0 := Aside0.mk (hi); (try clear hb); (try clear hk); (try clear hi); obtain ⟨hcz14_0, hcz14_1, hfz14_0, hfz14_1⟩ := cf2_ BK247.out; have hnb15 := NB243_0.out; have hnc15 := NB0_243.out; obtain ⟨hcz16_0, hcz16_1, hfz16_0, hfz16_1⟩ := cf2_ BK243.out))
 refine bodyPost_ret (results_cell_row rfl _ _ gb243 98 #[.int .i64 t251, .int .i64 t244] (0, 0) _ rfl (bp1_ BK243.out NB243_247.out) Try.underlying98 rfl (by kernel_rfl)) rfl ?_
 exact ⟨er_, is0_, bi0_, hkx_⟩


def spec_l09Cond.f (s0_0 : List Int) (s0_1 : Int) (s0_2 : Int) : Option (Int × Int × Int × Int × Int × Int × Int × Int) := (spec_l01Below.f s0_0 s0_1 s0_2 3).bind fun bt277 => ((spec_l01Below.f s0_0 bt277.2.1 bt277.2.2 6).bind fun bt280 => ((spec_l04Wide.f s0_0 bt280.2.1 bt280.2.2).bind fun bt283 => ((spec_l01Once.f s0_0 bt283.2.2.1 bt283.2.2.2 3).bind fun bt288 => (if bt288.1 = true then ((spec_l04Wide.f s0_0 bt288.2.1 bt288.2.2).bind fun bt291 => (some (bt277.1, bt291.1, bt291.2.1, wrap64 (1 + bt280.1), bt283.1, bt283.2.1, bt291.2.2.1, bt291.2.2.2))) else (some (bt277.1, 4294967295, 4294967295, wrap64 (1 + bt280.1), bt283.1, bt283.2.1, bt288.2.1, bt288.2.2))))))
theorem spec_l09Cond.calls (g : Nat) (s0_0 : List Int) (s0_1 : Int) (s0_2 : Int) (r1 : Int) (r2 : Int) (r3 : Int) (r4 : Int) (r5 : Int) (r6 : Int) (r7 : Int) (r8 : Int) (w0 w : World) (hI : IsS118 w0 w g s0_0 s0_1 s0_2) (hB : Below w0.heap.size w0 w) (h : spec_l09Cond.f s0_0 s0_1 s0_2 = some (r1, r2, r3, r4, r5, r6, r7, r8)) :
 Calls Try.prog 129 #[.pointer (some ⟨g, 0, none⟩)] w fun e w' => e = .returned (.agg #[.int .i64 r1, .int .i64 r2, .int .i64 r3, .int .i64 r4, .int .i64 r5, .int .i64 r6]) ∧ IsS118 w0 w' g s0_0 r7 r8 ∧ Below w0.heap.size w0 w' ∧ KeepBut w w' g none := by
 have hu100 := Try.underlying100
 have hu98 := Try.underlying98
 have HI0 := Aside0.mk hI
 have HK := Aside0.mk (KeepBut.refl w g none)
 have HL := Aside0.mk hB.size
 clear hI
 have HW0 := Aside0.mk hB.size
 have HB := Aside0.mk hB
 clear hB
 have H := h
 unfold spec_l09Cond.f at H
 clear h
 replace H := bs_ H
 obtain ⟨⟨t277, t278, t279⟩, A2, H⟩ := H
 try dsimp only at H
 replace H := bs_ H
 obtain ⟨⟨t280, t281, t282⟩, A3, H⟩ := H
 try dsimp only at H
 replace H := bs_ H
 obtain ⟨⟨t283, t284, t285, t286⟩, A4, H⟩ := H
 try dsimp only at H
 replace H := bs_ H
 obtain ⟨⟨t288, t289, t290⟩, A5, H⟩ := H
 try dsimp only at H
 by_cases c6 : t288 = true
 rotate_left
 ·replace c6 := Bool.eq_false_iff.mpr c6
  subst c6
  rw [nf_] at H
  simp only [Option.some.injEq, Prod.mk.injEq] at H
  obtain ⟨rfl, rfl, rfl, rfl, rfl, rfl, rfl, rfl⟩ := H
  go_enter Try.func129, Try.ntmps129
  go_wp2_with (first | ((with_reducible refine gate_dst (N := 2) rfl ?_); refine bx_ 2 100 #[.int .i64 0, .int .i64 0, .int .i64 0, .int .i64 0, .int .i64 0, .int .i64 0] ?_; intro gb276 hg w21 hbox hb; replace HB := Aside0.mk (below_step bi0_ hb); have BK276 := Aside0.mk (hbox); have GW276 := Aside0.mk ((by rw [hg]; exact (keep_size (w := w) (g := g) (row := none) hkx_) : w.heap.size ≤ gb276)); have GE276 := Aside0.mk ((Nat.le_trans HW0.out (by rw [hg]; exact (keep_size (w := w) (g := g) (row := none) hkx_) : w.heap.size ≤ gb276) : w0.heap.size ≤ gb276)); replace HK := Aside0.mk (KeepBut.trans hkx_ (KeepBut.of_below hb g none) (.inl rfl)); have NB0_276 := Aside0.mk (il_ hg (IsS118.lt (show IsS118 w0 _ g s0_0 s0_1 s0_2 from is0_))); have NB276_0 := Aside0.mk (ig_ hg (IsS118.lt (show IsS118 w0 _ g s0_0 s0_1 s0_2 from is0_))); replace HI0 := Aside0.mk (IsS118.below is0_ hb); clear hb hbox hg) | ((with_reducible refine gate_callee (f := 62) rfl ?_); refine gs_ (some 5) Try.func62 #[.pointer (some ⟨g, 0, none⟩), .int .i64 3] ?_; (with_reducible refine (spec_l01Below.calls g s0_0 s0_1 s0_2 3 t277 t278 t279 w0 _ ?side1 ?side2 A2.out).mono ?_); (case side1 => exact is0_); (case side2 => exact bi0_); rintro e w22 ⟨rfl, hi, hb, hk⟩; refine ⟨_, rfl, ?_⟩; replace BK276 := Aside0.mk (KeepBut.blk hk (g' := gb276) (o := .cells #[.int .i64 0, .int .i64 0, .int .i64 0, .int .i64 0, .int .i64 0, .int .i64 0] 100 (0, 0)) (bk_ BK276.out) NB276_0.out (by simp)); replace HK := Aside0.mk (KeepBut.trans (by repeat (first | (with_reducible first | exact HK.out | apply KeepBut.set_ | apply keep_drewN | apply keep_drew | apply keep_alloc | refine keep_far ?_ GW276.out _) | exact HK.out)) hk (.inl rfl)); replace HB := Aside0.mk (hb); replace HI0 := Aside0.mk (hi); (try clear hb); (try clear hk); (try clear hi)) | ((with_reducible refine gate_callee (f := 62) rfl ?_); refine gs_ (some 7) Try.func62 #[.pointer (some ⟨g, 0, none⟩), .int .i64 6] ?_; (with_reducible refine (spec_l01Below.calls g s0_0 t278 t279 6 t280 t281 t282 w0 _ ?side1 ?side2 A3.out).mono ?_); (case side1 => exact is0_); (case side2 => exact bi0_); rintro e w23 ⟨rfl, hi, hb, hk⟩; refine ⟨_, rfl, ?_⟩; replace BK276 := Aside0.mk (KeepBut.blk hk (g' := gb276) (o := .cells #[.int .i64 0, .int .i64 0, .int .i64 0, .int .i64 0, .int .i64 0, .int .i64 0] 100 (0, 0)) (bk_ BK276.out) NB276_0.out (by simp)); replace HK := Aside0.mk (KeepBut.trans (by repeat (first | (with_reducible first | exact HK.out | apply KeepBut.set_ | apply keep_drewN | apply keep_drew | apply keep_alloc | refine keep_far ?_ GW276.out _) | exact HK.out)) hk (.inl rfl)); replace HB := Aside0.mk (hb); replace HI0 := Aside0.mk (hi); (try clear hb); (try clear hk); (try clear hi)) | ((with_reducible refine gate_callee (f := 105) rfl ?_); refine gs_ (some 10) Try.func105 #[.pointer (some ⟨g, 0, none⟩)] ?_; (with_reducible refine (spec_l04Wide.calls g s0_0 t281 t282 t283 t284 t285 t286 w0 _ ?side1 ?side2 A4.out).mono ?_); (case side1 => exact is0_); (case side2 => exact bi0_); rintro e w24 ⟨rfl, hi, hb, hk⟩; refine ⟨_, rfl, ?_⟩; replace BK276 := Aside0.mk (KeepBut.blk hk (g' := gb276) (o := .cells #[.int .i64 0, .int .i64 0, .int .i64 0, .int .i64 0, .int .i64 0, .int .i64 0] 100 (0, 0)) (bk_ BK276.out) NB276_0.out (by simp)); replace HK := Aside0.mk (KeepBut.trans (by repeat (first | (with_reducible first | exact HK.out | apply KeepBut.set_ | apply keep_drewN | apply keep_drew | apply keep_alloc | refine keep_far ?_ GW276.out _) | exact HK.out)) hk (.inl rfl)); replace HB := Aside0.mk (hb); replace HI0 := Aside0.mk (hi); (try clear hb); (try clear hk); (try clear hi)) | ((with_reducible refine gate_dst (N := 3) rfl ?_); refine bx_ 3 100 #[.int .i64 0, .int .i64 0, .int .i64 0, .int .i64 0, .int .i64 0, .int .i64 0] ?_; intro gb287 hg w25 hbox hb; replace HB := Aside0.mk (below_step bi0_ hb); have BK287 := Aside0.mk (hbox); have GW287 := Aside0.mk ((by rw [hg]; exact (keep_size (w := w) (g := g) (row := none) hkx_) : w.heap.size ≤ gb287)); have GE287 := Aside0.mk ((Nat.le_trans HW0.out (by rw [hg]; exact (keep_size (w := w) (g := g) (row := none) hkx_) : w.heap.size ≤ gb287) : w0.heap.size ≤ gb287)); replace HK := Aside0.mk (KeepBut.trans (by repeat (first | (with_reducible first | exact HK.out | apply KeepBut.set_ | apply keep_drewN | apply keep_drew | apply keep_alloc | refine keep_far ?_ GW276.out _) | exact HK.out)) (KeepBut.of_below hb g none) (.inl rfl)); have NB276_287 := Aside0.mk (nl_ BK276.out hg); have NB287_276 := Aside0.mk (ng_ BK276.out hg); replace BK276 := bb0_ BK276.out hb; have NB0_287 := Aside0.mk (il_ hg (IsS118.lt (show IsS118 w0 _ g s0_0 t285 t286 from is0_))); have NB287_0 := Aside0.mk (ig_ hg (IsS118.lt (show IsS118 w0 _ g s0_0 t285 t286 from is0_))); replace HI0 := Aside0.mk (IsS118.below is0_ hb); clear hb hbox hg; have hnb26 := NB287_276.out; have hnc26 := NB276_287.out; have hnb27 := NB287_0.out; have hnc27 := NB0_287.out; obtain ⟨hcz28_0, hcz28_1, hcz28_2, hcz28_3, hcz28_4, hcz28_5, hfz28_0, hfz28_1, hfz28_2, hfz28_3, hfz28_4, hfz28_5⟩ := cf6_ BK287.out) | ((with_reducible refine gate_callee (f := 65) rfl ?_); refine gs_ (some 14) Try.func65 #[.pointer (some ⟨g, 0, none⟩), .int .i64 3] ?_; (with_reducible refine (spec_l01Once.calls g s0_0 t285 t286 3 false t289 t290 w0 _ ?side1 ?side2 A5.out).mono ?_); (case side1 => exact is0_); (case side2 => exact bi0_); rintro e w29 ⟨rfl, hi, hb, hk⟩; refine ⟨_, rfl, ?_⟩; replace BK276 := Aside0.mk (KeepBut.blk hk (g' := gb276) (o := .cells #[.int .i64 0, .int .i64 0, .int .i64 0, .int .i64 0, .int .i64 0, .int .i64 0] 100 (0, 0)) (bp1_ BK276.out NB276_287.out) NB276_0.out (by simp)); replace BK287 := Aside0.mk (KeepBut.blk hk (g' := gb287) (o := .cells #[.int .i64 t277, .int .i64 4294967295, .int .i64 4294967295, .int .i64 (wrap64 (1 + t280)), .int .i64 t283, .int .i64 t284] 100 (0, 0)) (bp0_ BK287.out) NB287_0.out (by simp)); replace HK := Aside0.mk (KeepBut.trans (by repeat (first | (with_reducible first | exact HK.out | apply KeepBut.set_ | apply keep_drewN | apply keep_drew | apply keep_alloc | refine keep_far ?_ GW276.out _ | refine keep_far ?_ GW287.out _) | exact HK.out)) hk (.inl rfl)); replace HB := Aside0.mk (hb); replace HI0 := Aside0.mk (hi); (try clear hb); (try clear hk); (try clear hi); obtain ⟨hcz30_0, hcz30_1, hcz30_2, hcz30_3, hcz30_4, hcz30_5, hfz30_0, hfz30_1, hfz30_2, hfz30_3, hfz30_4, hfz30_5⟩ := cf6_ BK287.out; have hnb31 := NB276_0.out; have hnc31 := NB0_276.out; obtain ⟨hcz32_0, hcz32_1, hcz32_2, hcz32_3, hcz32_4, hcz32_5, hfz32_0, hfz32_1, hfz32_2, hfz32_3, hfz32_4, hfz32_5⟩ := cf6_ BK276.out))
  refine bodyPost_ret (results_cell_row rfl _ _ gb276 100 #[.int .i64 t277, .int .i64 4294967295, .int .i64 4294967295, .int .i64 (wrap64 (1 + t280)), .int .i64 t283, .int .i64 t284] (0, 0) _ rfl (bp0_ BK276.out) Try.underlying100 rfl (by kernel_rfl)) rfl ?_
  exact ⟨er_, is0_, bi0_, hkx_⟩
 subst c6
 rw [if_pos rfl] at H
 replace H := bs_ H
 obtain ⟨⟨t291, t292, t293, t294⟩, A7, H⟩ := H
 try dsimp only at H
 simp only [Option.some.injEq, Prod.mk.injEq] at H
 obtain ⟨rfl, rfl, rfl, rfl, rfl, rfl, rfl, rfl⟩ := H
 go_enter Try.func129, Try.ntmps129
 go_wp2_with (first | ((with_reducible refine gate_dst (N := 2) rfl ?_); refine bx_ 2 100 #[.int .i64 0, .int .i64 0, .int .i64 0, .int .i64 0, .int .i64 0, .int .i64 0] ?_; intro gb276 hg w8 hbox hb; replace HB := Aside0.mk (below_step bi0_ hb); have BK276 := Aside0.mk (hbox); have GW276 := Aside0.mk ((by rw [hg]; exact (keep_size (w := w) (g := g) (row := none) hkx_) : w.heap.size ≤ gb276)); have GE276 := Aside0.mk ((Nat.le_trans HW0.out (by rw [hg]; exact (keep_size (w := w) (g := g) (row := none) hkx_) : w.heap.size ≤ gb276) : w0.heap.size ≤ gb276)); replace HK := Aside0.mk (KeepBut.trans hkx_ (KeepBut.of_below hb g none) (.inl rfl)); have NB0_276 := Aside0.mk (il_ hg (IsS118.lt (show IsS118 w0 _ g s0_0 s0_1 s0_2 from is0_))); have NB276_0 := Aside0.mk (ig_ hg (IsS118.lt (show IsS118 w0 _ g s0_0 s0_1 s0_2 from is0_))); replace HI0 := Aside0.mk (IsS118.below is0_ hb); clear hb hbox hg) | ((with_reducible refine gate_callee (f := 62) rfl ?_); refine gs_ (some 5) Try.func62 #[.pointer (some ⟨g, 0, none⟩), .int .i64 3] ?_; (with_reducible refine (spec_l01Below.calls g s0_0 s0_1 s0_2 3 t277 t278 t279 w0 _ ?side1 ?side2 A2.out).mono ?_); (case side1 => exact is0_); (case side2 => exact bi0_); rintro e w9 ⟨rfl, hi, hb, hk⟩; refine ⟨_, rfl, ?_⟩; replace BK276 := Aside0.mk (KeepBut.blk hk (g' := gb276) (o := .cells #[.int .i64 0, .int .i64 0, .int .i64 0, .int .i64 0, .int .i64 0, .int .i64 0] 100 (0, 0)) (bk_ BK276.out) NB276_0.out (by simp)); replace HK := Aside0.mk (KeepBut.trans (by repeat (first | (with_reducible first | exact HK.out | apply KeepBut.set_ | apply keep_drewN | apply keep_drew | apply keep_alloc | refine keep_far ?_ GW276.out _) | exact HK.out)) hk (.inl rfl)); replace HB := Aside0.mk (hb); replace HI0 := Aside0.mk (hi); (try clear hb); (try clear hk); (try clear hi)) | ((with_reducible refine gate_callee (f := 62) rfl ?_); refine gs_ (some 7) Try.func62 #[.pointer (some ⟨g, 0, none⟩), .int .i64 6] ?_; (with_reducible refine (spec_l01Below.calls g s0_0 t278 t279 6 t280 t281 t282 w0 _ ?side1 ?side2 A3.out).mono ?_); (case side1 => exact is0_); (case side2 => exact bi0_); rintro e w10 ⟨rfl, hi, hb, hk⟩; refine ⟨_, rfl, ?_⟩; replace BK276 := Aside0.mk (KeepBut.blk hk (g' := gb276) (o := .cells #[.int .i64 0, .int .i64 0, .int .i64 0, .int .i64 0, .int .i64 0, .int .i64 0] 100 (0, 0)) (bk_ BK276.out) NB276_0.out (by simp)); replace HK := Aside0.mk (KeepBut.trans (by repeat (first | (with_reducible first | exact HK.out | apply KeepBut.set_ | apply keep_drewN | apply keep_drew | apply keep_alloc | refine keep_far ?_ GW276.out _) | exact HK.out)) hk (.inl rfl)); replace HB := Aside0.mk (hb); replace HI0 := Aside0.mk (hi); (try clear hb); (try clear hk); (try clear hi)) | ((with_reducible refine gate_callee (f := 105) rfl ?_); refine gs_ (some 10) Try.func105 #[.pointer (some ⟨g, 0, none⟩)] ?_; (with_reducible refine (spec_l04Wide.calls g s0_0 t281 t282 t283 t284 t285 t286 w0 _ ?side1 ?side2 A4.out).mono ?_); (case side1 => exact is0_); (case side2 => exact bi0_); rintro e w11 ⟨rfl, hi, hb, hk⟩; refine ⟨_, rfl, ?_⟩; replace BK276 := Aside0.mk (KeepBut.blk hk (g' := gb276) (o := .cells #[.int .i64 0, .int .i64 0, .int .i64 0, .int .i64 0, .int .i64 0, .int .i64 0] 100 (0, 0)) (bk_ BK276.out) NB276_0.out (by simp)); replace HK := Aside0.mk (KeepBut.trans (by repeat (first | (with_reducible first | exact HK.out | apply KeepBut.set_ | apply keep_drewN | apply keep_drew | apply keep_alloc | refine keep_far ?_ GW276.out _) | exact HK.out)) hk (.inl rfl)); replace HB := Aside0.mk (hb); replace HI0 := Aside0.mk (hi); (try clear hb); (try clear hk); (try clear hi)) | ((with_reducible refine gate_dst (N := 3) rfl ?_); refine bx_ 3 100 #[.int .i64 0, .int .i64 0, .int .i64 0, .int .i64 0, .int .i64 0, .int .i64 0] ?_; intro gb287 hg w12 hbox hb; replace HB := Aside0.mk (below_step bi0_ hb); have BK287 := Aside0.mk (hbox); have GW287 := Aside0.mk ((by rw [hg]; exact (keep_size (w := w) (g := g) (row := none) hkx_) : w.heap.size ≤ gb287)); have GE287 := Aside0.mk ((Nat.le_trans HW0.out (by rw [hg]; exact (keep_size (w := w) (g := g) (row := none) hkx_) : w.heap.size ≤ gb287) : w0.heap.size ≤ gb287)); replace HK := Aside0.mk (KeepBut.trans (by repeat (first | (with_reducible first | exact HK.out | apply KeepBut.set_ | apply keep_drewN | apply keep_drew | apply keep_alloc | refine keep_far ?_ GW276.out _) | exact HK.out)) (KeepBut.of_below hb g none) (.inl rfl)); have NB276_287 := Aside0.mk (nl_ BK276.out hg); have NB287_276 := Aside0.mk (ng_ BK276.out hg); replace BK276 := bb0_ BK276.out hb; have NB0_287 := Aside0.mk (il_ hg (IsS118.lt (show IsS118 w0 _ g s0_0 t285 t286 from is0_))); have NB287_0 := Aside0.mk (ig_ hg (IsS118.lt (show IsS118 w0 _ g s0_0 t285 t286 from is0_))); replace HI0 := Aside0.mk (IsS118.below is0_ hb); clear hb hbox hg; have hnb13 := NB287_276.out; have hnc13 := NB276_287.out; have hnb14 := NB287_0.out; have hnc14 := NB0_287.out; obtain ⟨hcz15_0, hcz15_1, hcz15_2, hcz15_3, hcz15_4, hcz15_5, hfz15_0, hfz15_1, hfz15_2, hfz15_3, hfz15_4, hfz15_5⟩ := cf6_ BK287.out) | ((with_reducible refine gate_callee (f := 65) rfl ?_); refine gs_ (some 14) Try.func65 #[.pointer (some ⟨g, 0, none⟩), .int .i64 3] ?_; (with_reducible refine (spec_l01Once.calls g s0_0 t285 t286 3 true t289 t290 w0 _ ?side1 ?side2 A5.out).mono ?_); (case side1 => exact is0_); (case side2 => exact bi0_); rintro e w16 ⟨rfl, hi, hb, hk⟩; refine ⟨_, rfl, ?_⟩; replace BK276 := Aside0.mk (KeepBut.blk hk (g' := gb276) (o := .cells #[.int .i64 0, .int .i64 0, .int .i64 0, .int .i64 0, .int .i64 0, .int .i64 0] 100 (0, 0)) (bp1_ BK276.out NB276_287.out) NB276_0.out (by simp)); replace BK287 := Aside0.mk (KeepBut.blk hk (g' := gb287) (o := .cells #[.int .i64 t277, .int .i64 4294967295, .int .i64 4294967295, .int .i64 (wrap64 (1 + t280)), .int .i64 t283, .int .i64 t284] 100 (0, 0)) (bp0_ BK287.out) NB287_0.out (by simp)); replace HK := Aside0.mk (KeepBut.trans (by repeat (first | (with_reducible first | exact HK.out | apply KeepBut.set_ | apply keep_drewN | apply keep_drew | apply keep_alloc | refine keep_far ?_ GW276.out _ | refine keep_far ?_ GW287.out _) | exact HK.out)) hk (.inl rfl)); replace HB := Aside0.mk (hb); replace HI0 := Aside0.mk (hi); (try clear hb); (try clear hk); (try clear hi)) | ((with_reducible refine gate_callee (f := 105) rfl ?_); refine gs_ (some 16) Try.func105 #[.pointer (some ⟨g, 0, none⟩)] ?_; (with_reducible refine (spec_l04Wide.calls g s0_0 t289 t290 t291 t292 t293 t294 w0 _ ?side1 ?side2 A7.out).mono ?_); (case side1 => exact is0_); (case side2 => exact bi0_); rintro e w17 ⟨rfl, hi, hb, hk⟩; refine ⟨_, rfl, ?_⟩; replace BK276 := Aside0.mk (KeepBut.blk hk (g' := gb276) (o := .cells #[.int .i64 0, .int .i64 0, .int .i64 0, .int .i64 0, .int .i64 0, .int .i64 0] 100 (0, 0)) (bk_ BK276.out) NB276_0.out (by simp)); replace BK287 := Aside0.mk (KeepBut.blk hk (g' := gb287) (o := .cells #[.int .i64 t277, .int .i64 4294967295, .int .i64 4294967295, .int .i64 (wrap64 (1 + t280)), .int .i64 t283, .int .i64 t284] 100 (0, 0)) (bk_ BK287.out) NB287_0.out (by simp)); replace HK := Aside0.mk (KeepBut.trans (by repeat (first | (with_reducible first | exact HK.out | apply KeepBut.set_ | apply keep_drewN | apply keep_drew | apply keep_alloc | refine keep_far ?_ GW276.out _ | refine keep_far ?_ GW287.out _) | exact HK.out)) hk (.inl rfl)); replace HB := Aside0.mk (hb); replace HI0 := Aside0.mk (hi); (try clear hb); (try clear hk); (try clear hi); obtain ⟨hcz18_0, hcz18_1, hcz18_2, hcz18_3, hcz18_4, hcz18_5, hfz18_0, hfz18_1, hfz18_2, hfz18_3, hfz18_4, hfz18_5⟩ := cf6_ BK287.out; have hnb19 := NB276_0.out; have hnc19 := NB0_276.out; obtain ⟨hcz20_0, hcz20_1, hcz20_2, hcz20_3, hcz20_4, hcz20_5, hfz20_0, hfz20_1, hfz20_2, hfz20_3, hfz20_4, hfz20_5⟩ := cf6_ BK276.out))
 refine bodyPost_ret (results_cell_row rfl _ _ gb276 100 #[.int .i64 t277, .int .i64 t291, .int .i64 t292, .int .i64 (wrap64 (1 + t280)), .int .i64 t283, .int .i64 t284] (0, 0) _ rfl (bp1_ BK276.out NB276_287.out) Try.underlying100 rfl (by kernel_rfl)) rfl ?_
 exact ⟨er_, is0_, bi0_, hkx_⟩


mutual
def spec_l09Made.j0 : Nat → List Int → Int → Int → Int → Int → Option (List Int × (List (S100)) × Int × Int × Int × Int)
 | 0, _, _, _, _, _ => none
 | k + 1, x1000, x1001, x1002, x303002, x303003 => (spec_l01Below.f x1000 x1001 x1002 4).bind fun bt309 => (spec_l09Made.l0 k (wrap64 (bt309.1 - 1)) 0 0 x1000 bt309.2.1 bt309.2.2 ([] : List Int) x303002 x303003)
def spec_l09Made.l0 : Nat → Int → Int → Int → List Int → Int → Int → List Int → Int → Int → Option (List Int × (List (S100)) × Int × Int × Int × Int)
 | 0, _, _, _, _, _, _, _, _, _ => none
 | k + 1, x4, x5, x6, x1000, x1001, x1002, x303000, x303002, x303003 => if x6 < x4 then ((spec_l01Below.f x1000 x1001 x1002 3).bind fun bt312 => (if x303000.length < 17592186044416 then (spec_l09Made.l0 k x4 (wrap64 ((wrap64 (x5 + 1)) + bt312.1)) (wrap64 (x6 + 1)) x1000 bt312.2.1 bt312.2.2 (x303000 ++ [wrap64 ((wrap64 ((wrap64 (x5 + 1)) + bt312.1)) - 1)]) x303002 x303003) else (none))) else (spec_l09Made.l1 k 0 x1000 x1001 x1002 x303000 ([] : List (S100)) x303002 x303003)
def spec_l09Made.l1 : Nat → Int → List Int → Int → Int → List Int → List (S100) → Int → Int → Option (List Int × (List (S100)) × Int × Int × Int × Int)
 | 0, _, _, _, _, _, _, _, _ => none
 | k + 1, x7, x1000, x1001, x1002, x303000, x303001, x303002, x303003 => (spec_l01Below.f x1000 x1001 x1002 3).bind fun bt318 => (if x7 < bt318.1 then ((spec_l09Cond.f x1000 bt318.2.1 bt318.2.2).bind fun bt321 => (if x303001.length < 2932031007402 then (spec_l09Made.l1 k (wrap64 (x7 + 1)) x1000 bt321.2.2.2.2.2.2.1 bt321.2.2.2.2.2.2.2 x303000 (x303001 ++ [(⟨bt321.1, (⟨bt321.2.1, bt321.2.2.1⟩ : S98), bt321.2.2.2.1, (⟨bt321.2.2.2.2.1, bt321.2.2.2.2.2.1⟩ : S98)⟩ : S100)]) x303002 x303003) else (none))) else (some (x303000, x303001, x303002, x303003, bt318.2.1, bt318.2.2)))
end
def spec_l09Made.f (k : Nat) (s0_0 : List Int) (s0_1 : Int) (s0_2 : Int) : Option (List Int × (List (S100)) × Int × Int × Int × Int) := (spec_l01PickInt.f s0_0 s0_1 s0_2 (([0, 1, 2, 3, 4, 4, 5] : List Int))).bind fun bt299 => (if bt299.1 = 2 then ((spec_l01PickInt.f s0_0 bt299.2.1 bt299.2.2 (([1, 13, 65535] : List Int))).bind fun bt306 => (spec_l09Made.j0 k s0_0 bt306.2.1 bt306.2.2 bt299.1 bt306.1)) else (spec_l09Made.j0 k s0_0 bt299.2.1 bt299.2.2 bt299.1 0))
theorem spec_l09Made.mono_l : ∀ k, (∀ y0 y1 y2 y3 y4, LeO (spec_l09Made.j0 k y0 y1 y2 y3 y4) (spec_l09Made.j0 (k + 1) y0 y1 y2 y3 y4)) ∧ (∀ y0 y1 y2 y3 y4 y5 y6 y7 y8, LeO (spec_l09Made.l0 k y0 y1 y2 y3 y4 y5 y6 y7 y8) (spec_l09Made.l0 (k + 1) y0 y1 y2 y3 y4 y5 y6 y7 y8)) ∧ (∀ y0 y1 y2 y3 y4 y5 y6 y7, LeO (spec_l09Made.l1 k y0 y1 y2 y3 y4 y5 y6 y7) (spec_l09Made.l1 (k + 1) y0 y1 y2 y3 y4 y5 y6 y7))
 | 0 => ⟨fun _ _ _ _ _ r h => by simp [spec_l09Made.j0] at h, fun _ _ _ _ _ _ _ _ _ r h => by simp [spec_l09Made.l0] at h, fun _ _ _ _ _ _ _ _ r h => by simp [spec_l09Made.l1] at h⟩
 | k + 1 => by
  obtain ⟨ih0, ih1, ih2⟩ := spec_l09Made.mono_l k
  refine ⟨?_, ?_, ?_⟩
  ·intro y0 y1 y2 y3 y4
   unfold spec_l09Made.j0
   exact mo_
  ·intro y0 y1 y2 y3 y4 y5 y6 y7 y8
   unfold spec_l09Made.l0
   exact mo_
  ·intro y0 y1 y2 y3 y4 y5 y6 y7
   unfold spec_l09Made.l1
   exact mo_
theorem spec_l09Made.mono : ∀ a0 a1 a2 k, LeO (spec_l09Made.f k a0 a1 a2) (spec_l09Made.f (k + 1) a0 a1 a2) := by
 intro a0 a1 a2 k
 obtain ⟨ih0, ih1, ih2⟩ := spec_l09Made.mono_l k
 unfold spec_l09Made.f
 exact mo_
def spec_l09Made.T14 : Bool × List (List Nat × List Nat) := (true, [([], []), ([0], [0]), ([], []), ([2], [2]), ([3], [3]), ([1, 4, 3], [1, 4]), ([0, 1, 2, 3, 4, 5], []), ([6, 5, 5, 0, 1, 2, 3, 4, 5], [5, 6])])
def spec_l09Made.B14 : List Nat := [0, 1, 0, 4, 12, 31, 63, 127]
theorem spec_l09Made.tab14 : rtab .any (opsOf Try.f106 14) = spec_l09Made.T14 := by kernel_rfl
theorem spec_l09Made.bits14 : waitsOk spec_l09Made.T14.2 spec_l09Made.B14 = true := by kernel_rfl
theorem spec_l09Made.calls (k : Nat) (g : Nat) (s0_0 : List Int) (s0_1 : Int) (s0_2 : Int) (r1 : List Int) (r2 : List (S100)) (r3 : Int) (r4 : Int) (r5 : Int) (r6 : Int) (w0 w : World) (hI : IsS118 w0 w g s0_0 s0_1 s0_2) (hB : Below w0.heap.size w0 w) (h : spec_l09Made.f k s0_0 s0_1 s0_2 = some (r1, r2, r3, r4, r5, r6)) :
 Calls Try.prog 106 #[.pointer (some ⟨g, 0, none⟩)] w fun e w' => ∃ v0_ v1_ : Value, e = .returned (.agg #[v0_, v1_, .int .i64 r3, .int .i64 r4]) ∧ Kd.R (Kd.int .i64) 3 w' w.heap.size (fun _ => True) v0_ r1 ∧ Kd.R k100 100 w' w.heap.size (fun _ => True) v1_ r2 ∧ IsS118 w0 w' g s0_0 r5 r6 ∧ Below w0.heap.size w0 w' ∧ KeepBut w w' g none := by
 have hu53 := Try.underlying53
 have HI0 := Aside0.mk hI
 have HK := Aside0.mk (KeepBut.refl w g none)
 have HL := Aside0.mk hB.size
 clear hI
 have HW0 := Aside0.mk hB.size
 have HB := Aside0.mk hB
 clear hB
 have H := h
 unfold spec_l09Made.f at H
 clear h
 obtain ⟨y296, hy296⟩ : ∃ y_ : List Int, y_ = (([0, 1, 2, 3, 4, 4, 5] : List Int)) := ⟨_, rfl⟩
 replace H : ((spec_l01PickInt.f s0_0 s0_1 s0_2 y296).bind fun bt299 => (if bt299.1 = 2 then ((spec_l01PickInt.f s0_0 bt299.2.1 bt299.2.2 (([1, 13, 65535] : List Int))).bind fun bt306 => (spec_l09Made.j0 k s0_0 bt306.2.1 bt306.2.2 bt299.1 bt306.1)) else (spec_l09Made.j0 k s0_0 bt299.2.1 bt299.2.2 bt299.1 0))) = some (r1, r2, r3, r4, r5, r6) := rp_ H hy296
 have Ny296 := Aside0.mk hy296
 clear hy296
 replace H := bs_ H
 obtain ⟨⟨t299, t300, t301⟩, A2, H⟩ := H
 try dsimp only at H
 have HC3 := Aside0.mk H
 clear H
 go_enter Try.func106, Try.ntmps106
 go_upto_if 14 with (first | ((with_reducible refine gate_dst (N := 2) rfl ?_); refine bx_ 2 53 #[.slice none 0 0, .slice none 0 0, .int .i64 0, .int .i64 0] ?_; intro gb295 hg w4 hbox hb; replace HB := Aside0.mk (below_step bi0_ hb); have BK295 := Aside0.mk (hbox); have GW295 := Aside0.mk ((by rw [hg]; exact (keep_size (w := w) (g := g) (row := none) hkx_) : w.heap.size ≤ gb295)); have GE295 := Aside0.mk ((Nat.le_trans HW0.out (by rw [hg]; exact (keep_size (w := w) (g := g) (row := none) hkx_) : w.heap.size ≤ gb295) : w0.heap.size ≤ gb295)); replace HK := Aside0.mk (KeepBut.trans hkx_ (KeepBut.of_below hb g none) (.inl rfl)); have NB0_295 := Aside0.mk (il_ hg (IsS118.lt (show IsS118 w0 _ g s0_0 s0_1 s0_2 from is0_))); have NB295_0 := Aside0.mk (ig_ hg (IsS118.lt (show IsS118 w0 _ g s0_0 s0_1 s0_2 from is0_))); replace HI0 := Aside0.mk (IsS118.below is0_ hb); clear hb hbox hg) | ((with_reducible refine gate_dst (N := 9) rfl ?_); refine Kd.R_lit (Kd.int .i64) _ 3 ?hg (N := 9) ?hd (xs := ([0, 1, 2, 3, 4, 4, 5] : List Int)) (inner := [.int .i64 0, .int .i64 1, .int .i64 2, .int .i64 3, .int .i64 4, .int .i64 4, .int .i64 5]) (ok := fun _ => True) (okp := fun _ => True) ?hr ?hp (fun _ hk => hk) trivial (Below.refl _ _) (Nat.le_refl _) (by simp) ?_; (case hd => rfl); (case hg => rfl); (case hr => first | (go_simp; done) | (go_simp; rfl)); (case hp => exact (Reps.one (show Kd.M (Kd.int .i64) _ _ _ 0 [.int .i64 0] from rfl) (Reps.one (show Kd.M (Kd.int .i64) _ _ _ 1 [.int .i64 1] from rfl) (Reps.one (show Kd.M (Kd.int .i64) _ _ _ 2 [.int .i64 2] from rfl) (Reps.one (show Kd.M (Kd.int .i64) _ _ _ 3 [.int .i64 3] from rfl) (Reps.one (show Kd.M (Kd.int .i64) _ _ _ 4 [.int .i64 4] from rfl) (Reps.one (show Kd.M (Kd.int .i64) _ _ _ 4 [.int .i64 4] from rfl) (Reps.one (show Kd.M (Kd.int .i64) _ _ _ 5 [.int .i64 5] from rfl) (Reps.none _ _))))))))); intro v297 w5 ho6 hb hg_ hnew_; clear hg_ hnew_; (first | rw [← Ny296.out] at ho6 | (simp only [Int.reduceToNat] at ho6; rw [← Ny296.out] at ho6)); have HO298 := Aside0.mk (Kd.R_lower ho6 (keep_size (w := w) (g := g) (row := none) hkx_)); replace BK295 := bb0_ BK295.out hb; replace HK := Aside0.mk (KeepBut.trans (by repeat (first | (with_reducible first | exact HK.out | apply KeepBut.set_ | apply keep_drewN | apply keep_drew | apply keep_alloc | refine keep_far ?_ GW295.out _) | exact HK.out)) (KeepBut.of_below hb g none) (.inl rfl)); replace HB := Aside0.mk (below_step bi0_ hb); replace HI0 := Aside0.mk (IsS118.below is0_ hb); clear hb ho6; obtain ⟨Ao7, co7, eo7⟩ := Kd.R_slice HO298.out; subst eo7) | ((with_reducible refine gate_callee (f := 104) rfl ?_); refine gs_ (some 10) Try.func104 #[.pointer (some ⟨g, 0, none⟩), .slice Ao7 y296.length co7] ?_; (with_reducible refine (spec_l01PickInt.calls g s0_0 s0_1 s0_2 _ _ y296 t299 t300 t301 w0 _ ?side1 ?side2 ?side3 ?side4 ?side5 A2.out).mono ?_); (case side1 => exact is0_); (case side2 => exact bi0_); (case side3 => exact cs_ ((Kd.R_reads' HO298.out).2.2)); (case side4 => exact (Kd.R_reads' HO298.out).2.1); (case side5 => exact far_slice (IsS118.own_ne HI0.out HO298.out (by decide))); rintro e w8 ⟨rfl, hi, hb, hk⟩; refine ⟨_, rfl, ?_⟩; replace BK295 := Aside0.mk (KeepBut.blk hk (g' := gb295) (o := .cells #[.slice none 0 0, .slice none 0 0, .int .i64 0, .int .i64 0] 53 (0, 0)) (bk_ BK295.out) NB295_0.out (by simp)); replace HO298 := Aside0.mk (Kd.R_mono (Kd.R_keep (IsS118.apart (show IsS118 w0 _ g s0_0 s0_1 s0_2 from is0_) (ra_ HO298.out) (by decide)) hk (fun _ h => h.2)) (fun _ h => h.1)); replace HK := Aside0.mk (KeepBut.trans (by repeat (first | (with_reducible first | exact HK.out | apply KeepBut.set_ | apply keep_drewN | apply keep_drew | apply keep_alloc | refine keep_far ?_ GW295.out _) | exact HK.out)) hk (.inl rfl)); replace HB := Aside0.mk (hb); replace HI0 := Aside0.mk (hi); (try clear hb); (try clear hk); (try clear hi)) | ((with_reducible refine gate_dst (N := 3) rfl ?_); refine bx_ 3 53 #[.slice none 0 0, .slice none 0 0, .int .i64 0, .int .i64 0] ?_; intro gb302 hg w9 hbox hb; replace HO298 := Aside0.mk (Kd.R_below (ra_ HO298.out) hb); replace HB := Aside0.mk (below_step bi0_ hb); have BK302 := Aside0.mk (hbox); have GW302 := Aside0.mk ((by rw [hg]; exact (keep_size (w := w) (g := g) (row := none) hkx_) : w.heap.size ≤ gb302)); have GE302 := Aside0.mk ((Nat.le_trans HW0.out (by rw [hg]; exact (keep_size (w := w) (g := g) (row := none) hkx_) : w.heap.size ≤ gb302) : w0.heap.size ≤ gb302)); replace HK := Aside0.mk (KeepBut.trans (by repeat (first | (with_reducible first | exact HK.out | apply KeepBut.set_ | apply keep_drewN | apply keep_drew | apply keep_alloc | refine keep_far ?_ GW295.out _) | exact HK.out)) (KeepBut.of_below hb g none) (.inl rfl)); have NB295_302 := Aside0.mk (nl_ BK295.out hg); have NB302_295 := Aside0.mk (ng_ BK295.out hg); replace BK295 := bb0_ BK295.out hb; have NB0_302 := Aside0.mk (il_ hg (IsS118.lt (show IsS118 w0 _ g s0_0 t300 t301 from is0_))); have NB302_0 := Aside0.mk (ig_ hg (IsS118.lt (show IsS118 w0 _ g s0_0 t300 t301 from is0_))); replace HI0 := Aside0.mk (IsS118.below is0_ hb); clear hb hbox hg; have hnb10 := NB302_295.out; have hnc10 := NB295_302.out; have hnb11 := NB302_0.out; have hnc11 := NB0_302.out; obtain ⟨hcz12_0, hcz12_1, hcz12_2, hcz12_3, hfz12_0, hfz12_1, hfz12_2, hfz12_3⟩ := cf4_ BK302.out))
 (try simp only [Act.put, List.setIfInBounds_toArray, List.set_cons_zero, List.set_cons_succ])
 go_cut [] (fun wc => ∃ (kq : Nat) (x1001_2 : Int) (x1002_2 : Int) (x303003_2 : Int), Aside0 (spec_l09Made.j0 kq s0_0 x1001_2 x1002_2 t299 x303003_2 = some (r1, r2, r3, r4, r5, r6)) ∧ Aside0 (kq ≤ k) ∧ Aside0 (wc.heap[gb295]? = some (.cells #[(.slice none 0 0), (.slice none 0 0), .int .i64 0, .int .i64 0] 53 (0, 0))) ∧ Aside0 (wc.heap[gb302]? = some (.cells #[(.slice none 0 0), (.slice none 0 0), .int .i64 t299, .int .i64 x303003_2] 53 (0, 0))) ∧ Aside0 (IsS118 w0 wc g s0_0 x1001_2 x1002_2) ∧ Aside0 (KeepBut w wc g none) ∧ Aside0 (Below w0.heap.size w0 wc))
 case first =>
  have H := HC3.out
  clear HC3
  by_cases c13 : t299 = 2
  rotate_left
  ·rw [if_neg c13] at H
   have c13b0 : (t299 == 2) = false := beq_eq_false_iff_ne.mpr c13
   have c13b1 : (t299 != 2) = true := bne_iff_ne.mpr c13
   (first | rw [c13b0] | (simp only [i64_w, i32_w]; rw [c13b0]) | skip)
   have H' := Aside0.mk H
   clear H
   go_wp2
   go_meet
   case rel => exact ⟨_, (t300), (t301), (0), H', ⟨by first | omega | exact Nat.le_refl _⟩, ⟨bp1_ BK295.out NB295_302.out⟩, ⟨bp0_ BK302.out⟩, ⟨is0_⟩, ⟨hkx_⟩, ⟨bi0_⟩⟩
  rw [if_pos c13] at H
  have c13b0 : (t299 == 2) = true := beq_iff_eq.mpr c13
  have c13b1 : (t299 != 2) = false := bne_eq_false_iff_eq.mpr c13
  clear c13
  (first | rw [c13b0] | (simp only [i64_w, i32_w]; rw [c13b0]) | skip)
  obtain ⟨y303, hy303⟩ : ∃ y_ : List Int, y_ = (([1, 13, 65535] : List Int)) := ⟨_, rfl⟩
  replace H : ((spec_l01PickInt.f s0_0 t300 t301 y303).bind fun bt306 => (spec_l09Made.j0 k s0_0 bt306.2.1 bt306.2.2 t299 bt306.1)) = some (r1, r2, r3, r4, r5, r6) := rp_ H hy303
  have Ny303 := Aside0.mk hy303
  clear hy303
  replace H := bs_ H
  obtain ⟨⟨t306, t307, t308⟩, A14, H⟩ := H
  try dsimp only at H
  have H' := Aside0.mk H
  clear H
  go_wp2_with (first | ((with_reducible refine gate_dst (N := 16) rfl ?_); refine Kd.R_lit (Kd.int .i64) _ 3 ?hg (N := 16) ?hd (xs := ([1, 13, 65535] : List Int)) (inner := [.int .i64 1, .int .i64 13, .int .i64 65535]) (ok := fun _ => True) (okp := fun _ => True) ?hr ?hp (fun _ hk => hk) trivial (Below.refl _ _) (Nat.le_refl _) (by simp) ?_; (case hd => rfl); (case hg => rfl); (case hr => first | (go_simp; done) | (go_simp; rfl)); (case hp => exact (Reps.one (show Kd.M (Kd.int .i64) _ _ _ 1 [.int .i64 1] from rfl) (Reps.one (show Kd.M (Kd.int .i64) _ _ _ 13 [.int .i64 13] from rfl) (Reps.one (show Kd.M (Kd.int .i64) _ _ _ 65535 [.int .i64 65535] from rfl) (Reps.none _ _))))); intro v304 w15 ho16 hb hg_ hnew_; clear hg_ hnew_; (first | rw [← Ny303.out] at ho16 | (simp only [Int.reduceToNat] at ho16; rw [← Ny303.out] at ho16)); have HO305 := Aside0.mk (Kd.R_lower (Kd.R_new' ho16 (Kd.R_lt (rfa_ HO298.out BK302.out))) (keep_size (w := w) (g := g) (row := none) hkx_)); replace HO298 := Aside0.mk (Kd.R_elder' (rfa_ HO298.out BK302.out) (Kd.R_base ho16) hb); replace BK295 := bb1_ BK295.out NB295_302.out hb; replace BK302 := Aside0.mk (blk_below (g := gb302) (o := .cells #[.slice none 0 0, .slice none 0 0, .int .i64 t299, .int .i64 0] 53 (0, 0)) (bp0_ BK302.out) hb); replace HK := Aside0.mk (KeepBut.trans (by repeat (first | (with_reducible first | exact HK.out | apply KeepBut.set_ | apply keep_drewN | apply keep_drew | apply keep_alloc | refine keep_far ?_ GW295.out _ | refine keep_far ?_ GW302.out _) | exact HK.out)) (KeepBut.of_below hb g none) (.inl rfl)); replace HB := Aside0.mk (below_step bi0_ hb); replace HI0 := Aside0.mk (IsS118.below (show IsS118 w0 ((((w9.setCell ⟨gb302, 0, none⟩ (.slice none 0 0)).setCell ⟨gb302, 1, none⟩ (.slice none 0 0)).setCell ⟨gb302, 2, none⟩ (.int .i64 t299)).setCell ⟨gb302, 3, none⟩ (.int .i64 0)) g s0_0 t300 t301 from is0_) hb); clear hb ho16; obtain ⟨Ao17, co17, eo17⟩ := Kd.R_slice HO305.out; subst eo17) | ((with_reducible refine gate_callee (f := 104) rfl ?_); refine gs_ (some 17) Try.func104 #[.pointer (some ⟨g, 0, none⟩), .slice Ao17 y303.length co17] ?_; (with_reducible refine (spec_l01PickInt.calls g s0_0 t300 t301 _ _ y303 t306 t307 t308 w0 _ ?side1 ?side2 ?side3 ?side4 ?side5 A14.out).mono ?_); (case side1 => exact is0_); (case side2 => exact bi0_); (case side3 => exact cs_ ((Kd.R_reads' HO305.out).2.2)); (case side4 => exact (Kd.R_reads' HO305.out).2.1); (case side5 => exact far_slice (IsS118.own_ne HI0.out HO305.out (by decide))); rintro e w18 ⟨rfl, hi, hb, hk⟩; refine ⟨_, rfl, ?_⟩; replace BK295 := Aside0.mk (KeepBut.blk hk (g' := gb295) (o := .cells #[.slice none 0 0, .slice none 0 0, .int .i64 0, .int .i64 0] 53 (0, 0)) (bk_ BK295.out) NB295_0.out (by simp)); replace HO298 := Aside0.mk (Kd.R_mono (Kd.R_keep (IsS118.apart (show IsS118 w0 _ g s0_0 t300 t301 from is0_) (ra_ HO298.out) (by decide)) hk (fun _ h => h.2)) (fun _ h => h.1)); replace BK302 := Aside0.mk (KeepBut.blk hk (g' := gb302) (o := .cells #[.slice none 0 0, .slice none 0 0, .int .i64 t299, .int .i64 0] 53 (0, 0)) (bk_ BK302.out) NB302_0.out (by simp)); replace HO305 := Aside0.mk (Kd.R_mono (Kd.R_keep (IsS118.apart (show IsS118 w0 _ g s0_0 t300 t301 from is0_) (ra_ HO305.out) (by decide)) hk (fun _ h => h.2)) (fun _ h => h.1)); replace HK := Aside0.mk (KeepBut.trans (by repeat (first | (with_reducible first | exact HK.out | apply KeepBut.set_ | apply keep_drewN | apply keep_drew | apply keep_alloc | refine keep_far ?_ GW295.out _ | refine keep_far ?_ GW302.out _) | exact HK.out)) hk (.inl rfl)); replace HB := Aside0.mk (hb); replace HI0 := Aside0.mk (hi); (try clear hb); (try clear hk); (try clear hi); have hnb19 := NB302_295.out; have hnc19 := NB295_302.out; have hnb20 := NB302_0.out; have hnc20 := NB0_302.out; obtain ⟨hcz21_0, hcz21_1, hcz21_2, hcz21_3, hfz21_0, hfz21_1, hfz21_2, hfz21_3⟩ := cf4_ BK302.out))
  go_meet
  case rel => exact ⟨_, (t307), (t308), (t306), H', ⟨by first | omega | exact Nat.le_refl _⟩, ⟨bp1_ BK295.out NB295_302.out⟩, ⟨bp0_ BK302.out⟩, ⟨is0_⟩, ⟨hkx_⟩, ⟨bi0_⟩⟩
 clear HC3
 try clear hcz12_0
 try clear hcz12_1
 try clear hcz12_2
 try clear hcz12_3
 try clear hfz12_0
 try clear hfz12_1
 try clear hfz12_2
 try clear hfz12_3
 obtain ⟨kq, x1001_2, x1002_2, x303003_2, HA, HJ2, BK295, BK302, HI0, HK, HB⟩ := hcut
 cases kq with
 | zero => exact absurd HA.out (by simp [spec_l09Made.j0])
 | succ kj2 => ?_
 have H := HA.out
 clear HA
 simp only [spec_l09Made.j0] at H
 replace H := bs_ H
 obtain ⟨⟨t309, t310, t311⟩, A22, H⟩ := H
 try dsimp only at H
 have H' := Aside0.mk H
 clear H
 go_wp2_with (first | ((with_reducible refine gate_callee (f := 62) rfl ?_); refine gs_ (some 20) Try.func62 #[.pointer (some ⟨g, 0, none⟩), .int .i64 4] ?_; (with_reducible refine (spec_l01Below.calls g s0_0 x1001_2 x1002_2 4 t309 t310 t311 w0 _ ?side1 ?side2 A22.out).mono ?_); (case side1 => exact is0_); (case side2 => exact bi0_); rintro e w23 ⟨rfl, hi, hb, hk⟩; refine ⟨_, rfl, ?_⟩; replace BK295 := Aside0.mk (KeepBut.blk hk (g' := gb295) (o := .cells #[.slice none 0 0, .slice none 0 0, .int .i64 0, .int .i64 0] 53 (0, 0)) (bk_ BK295.out) NB295_0.out (by simp)); replace BK302 := Aside0.mk (KeepBut.blk hk (g' := gb302) (o := .cells #[.slice none 0 0, .slice none 0 0, .int .i64 t299, .int .i64 x303003_2] 53 (0, 0)) (bk_ BK302.out) NB302_0.out (by simp)); replace HK := Aside0.mk (KeepBut.trans (by repeat (first | (with_reducible first | exact HK.out | apply KeepBut.set_ | apply keep_drewN | apply keep_drew | apply keep_alloc | refine keep_far ?_ GW295.out _ | refine keep_far ?_ GW302.out _) | exact HK.out)) hk (.inl rfl)); replace HB := Aside0.mk (hb); replace HI0 := Aside0.mk (hi); (try clear hb); (try clear hk); (try clear hi)))
 go_loopg [5, 6] kj2 (fun kq v5 v6 w' => ∃ (x5_2 : Int) (x6_2 : Int) (x1001_2 : Int) (x1002_2 : Int) (x303000_2 : List Int) (u303000 : Value), v5 = .int .i64 x5_2 ∧ v6 = .int .i64 x6_2 ∧ Aside0 (spec_l09Made.l0 kq (wrap64 (t309 - 1)) x5_2 x6_2 s0_0 x1001_2 x1002_2 x303000_2 t299 x303003_2 = some (r1, r2, r3, r4, r5, r6)) ∧ Aside0 (kq ≤ kj2) ∧ Aside0 (Kd.R (Kd.int .i64) 3 w' w.heap.size (fun _ => True) u303000 x303000_2) ∧ Aside0 (w'.heap[gb295]? = some (.cells #[(.slice none 0 0), (.slice none 0 0), .int .i64 0, .int .i64 0] 53 (0, 0))) ∧ Aside0 (w'.heap[gb302]? = some (.cells #[u303000, (.slice none 0 0), .int .i64 t299, .int .i64 x303003_2] 53 (0, 0))) ∧ Aside0 (IsS118 w0 w' g s0_0 x1001_2 x1002_2) ∧ Aside0 (KeepBut w w' g none) ∧ Aside0 (Below w0.heap.size w0 w'))
 case atStart => exact ⟨(0), (0), (t310), (t311), (([] : List Int)), (.slice none 0 0), (sr_), (sr_), H', ⟨Nat.le_refl _⟩, ⟨by first | exact Kd.R_nil _ _ _ _ _ | exact Kd.N_nil _ _ _ _ _ | exact Kd.V_nil _ _ _ _ _ | exact Kd.Q_nil _ _ _ _ _ | exact Kd.S_nil _ _ _ _ _⟩, ⟨bk_ BK295.out⟩, ⟨bk_ BK302.out⟩, ⟨is0_⟩, ⟨hkx_⟩, ⟨bi0_⟩⟩
 clear H'
 try clear hcz12_0
 try clear hcz12_1
 try clear hcz12_2
 try clear hcz12_3
 try clear hfz12_0
 try clear hfz12_1
 try clear hfz12_2
 try clear hfz12_3
 obtain ⟨x5_2, x6_2, x1001_2, x1002_2, x303000_2, u303000, rfl, rfl, HA, HK2, HO_303000, BK295, BK302, HI0, HK, HB⟩ := hrel
 cases gk with
 | zero => exact absurd HA.out (by simp [spec_l09Made.l0])
 | succ k2 => ?_
 have H := HA.out
 clear HA
 simp only [spec_l09Made.l0] at H
 by_cases c24 : x6_2 < (wrap64 (t309 - 1))
 ·rw [if_pos c24] at H
  have c24b0 := decide_eq_true c24
  clear c24
  replace H := bs_ H
  obtain ⟨⟨t312, t313, t314⟩, A25, H⟩ := H
  try dsimp only at H
  by_cases c26 : x303000_2.length < 17592186044416
  rotate_left
  ·exact nn_ c26 H
  rw [if_pos c26] at H
  have LMc26 := Aside0.mk c26
  clear c26
  obtain ⟨y315, hy315⟩ : ∃ y_ : List Int, y_ = (x303000_2 ++ [wrap64 ((wrap64 ((wrap64 (x5_2 + 1)) + t312)) - 1)]) := ⟨_, rfl⟩
  replace H : (spec_l09Made.l0 k2 (wrap64 (t309 - 1)) (wrap64 ((wrap64 (x5_2 + 1)) + t312)) (wrap64 (x6_2 + 1)) s0_0 t313 t314 y315 t299 x303003_2) = some (r1, r2, r3, r4, r5, r6) := rp_ H hy315
  have Ny315 := Aside0.mk hy315
  clear hy315
  have H' := Aside0.mk H
  clear H
  go_wp2_with (first | ((with_reducible refine gate_callee (f := 62) rfl ?_); refine gs_ (some 30) Try.func62 #[.pointer (some ⟨g, 0, none⟩), .int .i64 3] ?_; (with_reducible refine (spec_l01Below.calls g s0_0 x1001_2 x1002_2 3 t312 t313 t314 w0 _ ?side1 ?side2 A25.out).mono ?_); (case side1 => exact is0_); (case side2 => exact bi0_); rintro e w27 ⟨rfl, hi, hb, hk⟩; refine ⟨_, rfl, ?_⟩; replace HO_303000 := Aside0.mk (Kd.R_mono (Kd.R_keep (IsS118.apart (show IsS118 w0 _ g s0_0 x1001_2 x1002_2 from is0_) (ra_ HO_303000.out) (by decide)) hk (fun _ h => h.2)) (fun _ h => h.1)); replace BK295 := Aside0.mk (KeepBut.blk hk (g' := gb295) (o := .cells #[.slice none 0 0, .slice none 0 0, .int .i64 0, .int .i64 0] 53 (0, 0)) (bk_ BK295.out) NB295_0.out (by simp)); replace BK302 := Aside0.mk (KeepBut.blk hk (g' := gb302) (o := .cells #[u303000, .slice none 0 0, .int .i64 t299, .int .i64 x303003_2] 53 (0, 0)) (bk_ BK302.out) NB302_0.out (by simp)); replace HK := Aside0.mk (KeepBut.trans (by repeat (first | (with_reducible first | exact HK.out | apply KeepBut.set_ | apply keep_drewN | apply keep_drew | apply keep_alloc | refine keep_far ?_ GW295.out _ | refine keep_far ?_ GW302.out _) | exact HK.out)) hk (.inl rfl)); replace HB := Aside0.mk (hb); replace HI0 := Aside0.mk (hi); (try clear hb); (try clear hk); (try clear hi); have hnb28 := NB302_295.out; have hnc28 := NB295_302.out; have hnb29 := NB302_0.out; have hnc29 := NB0_302.out; obtain ⟨hcz30_0, hcz30_1, hcz30_2, hcz30_3, hfz30_0, hfz30_1, hfz30_2, hfz30_3⟩ := cf4_ BK302.out) | ((with_reducible refine gate_builtin (b := .append) (xs := #[.tmp 33, .tmp 36]) rfl ?_); at_builtin; refine Kd.R_append (Kd.int .i64) w.heap.size rfl (.tmp 33) (.tmp 36) 32 3 (.int .i64 0) 8 rfl Try.underlying32 info3 rfl (by decide) (by omega) u303000 x303000_2 (wrap64 ((wrap64 ((wrap64 (x5_2 + 1)) + t312)) - 1)) [.int .i64 (wrap64 ((wrap64 ((wrap64 (x5_2 + 1)) + t312)) - 1))] (fun _ => True) (fun _ => False) rfl rfl ?aP (fun _ hk => hk.elim) ?aF ?aO (Below.refl _ _) ?aS ?aL ?_; (case aP => exact rfl); (case aF => exact (fun _ _ => trivial)); (case aO => exact (ra_ HO_303000.out)); (case aS => exact (keep_size (w := w) (g := g) (row := none) hkx_)); (case aL => have := LMc26.out; omega); intro v316 w31 ho hb hg hat; rw [← Ny315.out] at ho; replace BK295 := Aside0.mk (blk_grown (g := gb295) (o := .cells #[.slice none 0 0, .slice none 0 0, .int .i64 0, .int .i64 0] 53 (0, 0)) (bk_ BK295.out) hg (Kd.R_ne HO_303000.out BK295.out (by decide))); replace BK302 := Aside0.mk (blk_grown (g := gb302) (o := .cells #[u303000, .slice none 0 0, .int .i64 t299, .int .i64 x303003_2] 53 (0, 0)) (bk_ BK302.out) hg (Kd.R_ne HO_303000.out BK302.out (by decide))); replace HB := Aside0.mk (below_weaken bi0_ HL.out hb); replace HI0 := Aside0.mk (IsS118.grown (show IsS118 w0 _ g s0_0 t313 t314 from is0_) hg (IsS118.own_ne HI0.out HO_303000.out (by decide))); replace HK := Aside0.mk (KeepBut.trans (by repeat (first | (with_reducible first | exact HK.out | apply KeepBut.set_ | apply keep_drewN | apply keep_drew | apply keep_alloc | refine keep_far ?_ GW295.out _ | refine keep_far ?_ GW302.out _) | exact HK.out)) (KeepBut.of_grown hg g) (Kd.R_base2 HO_303000.out)); have HO317 := Aside0.mk (ho); clear HO_303000; clear ho hb hg hat; obtain ⟨Ao32, co32, eo32⟩ := Kd.R_slice HO317.out; subst eo32; obtain ⟨hcz33_0, hcz33_1, hcz33_2, hcz33_3, hfz33_0, hfz33_1, hfz33_2, hfz33_3⟩ := cf4_ BK302.out))
  go_roundg k2
  case measure => have := HJ2.out; have := HK2.out; omega
  case rel => exact ⟨(wrap64 ((wrap64 (x5_2 + 1)) + t312)), (wrap64 (x6_2 + 1)), (t313), (t314), (y315), (.slice Ao32 y315.length co32), (sr_), (sr_), H', ⟨by have := HJ2.out; have := HK2.out; omega⟩, ⟨by (with_reducible repeat (first | apply Kd.R_alloc | apply Kd.R_drewN | apply Kd.R_drew)); exact Kd.R_mono (Kd.R_far (p := ⟨gb302, 0, none⟩) (Kd.R_types HO317.out BK302.out (by decide)) (fun _ hk => hk.2) (.slice Ao32 y315.length co32)) (fun _ hk => trivial)⟩, ⟨bp1_ BK295.out NB295_302.out⟩, ⟨bp0_ BK302.out⟩, ⟨is0_⟩, ⟨hkx_⟩, ⟨bi0_⟩⟩
 rw [if_neg c24] at H
 have c24b0 := decide_eq_false c24
 clear c24
 have H' := Aside0.mk H
 clear H
 go_wp2
 go_loopg [7] k2 (fun kq v7 w' => ∃ (x7_3 : Int) (x1001_3 : Int) (x1002_3 : Int) (x303001_3 : List (S100)) (u303001 : Value), v7 = .int .i64 x7_3 ∧ Aside0 (spec_l09Made.l1 kq x7_3 s0_0 x1001_3 x1002_3 x303000_2 x303001_3 t299 x303003_2 = some (r1, r2, r3, r4, r5, r6)) ∧ Aside0 (kq ≤ k2) ∧ Aside0 (Kd.R (Kd.int .i64) 3 w' w.heap.size (fun _ => True) u303000 x303000_2) ∧ Aside0 (Kd.R k100 100 w' w.heap.size (fun _ => True) u303001 x303001_3) ∧ Aside0 (w'.heap[gb295]? = some (.cells #[(.slice none 0 0), (.slice none 0 0), .int .i64 0, .int .i64 0] 53 (0, 0))) ∧ Aside0 (w'.heap[gb302]? = some (.cells #[u303000, u303001, .int .i64 t299, .int .i64 x303003_2] 53 (0, 0))) ∧ Aside0 (IsS118 w0 w' g s0_0 x1001_3 x1002_3) ∧ Aside0 (KeepBut w w' g none) ∧ Aside0 (Below w0.heap.size w0 w'))
 case atStart => exact ⟨(0), (x1001_2), (x1002_2), (([] : List (S100))), (.slice none 0 0), (sr_), H', ⟨Nat.le_refl _⟩, ⟨ra_ HO_303000.out⟩, ⟨by first | exact Kd.R_nil _ _ _ _ _ | exact Kd.N_nil _ _ _ _ _ | exact Kd.V_nil _ _ _ _ _ | exact Kd.Q_nil _ _ _ _ _ | exact Kd.S_nil _ _ _ _ _⟩, ⟨bk_ BK295.out⟩, ⟨bk_ BK302.out⟩, ⟨is0_⟩, ⟨hkx_⟩, ⟨bi0_⟩⟩
 clear H'
 try clear c24
 try clear c24b0
 try clear hcz12_0
 try clear hcz12_1
 try clear hcz12_2
 try clear hcz12_3
 try clear hfz12_0
 try clear hfz12_1
 try clear hfz12_2
 try clear hfz12_3
 obtain ⟨x7_3, x1001_3, x1002_3, x303001_3, u303001, rfl, HA, HK3, HO_303000, HO_303001, BK295, BK302, HI0, HK, HB⟩ := hrel
 cases gk with
 | zero => exact absurd HA.out (by simp [spec_l09Made.l1])
 | succ k3 => ?_
 have H := HA.out
 clear HA
 simp only [spec_l09Made.l1] at H
 replace H := bs_ H
 obtain ⟨⟨t318, t319, t320⟩, A34, H⟩ := H
 try dsimp only at H
 by_cases c35 : x7_3 < t318
 rotate_left
 ·rw [if_neg c35] at H
  have c35b0 := decide_eq_false c35
  clear c35
  simp only [Option.some.injEq, Prod.mk.injEq] at H
  obtain ⟨rfl, rfl, rfl, rfl, rfl, rfl⟩ := H
  go_wp2_with (first | ((with_reducible refine gate_callee (f := 62) rfl ?_); refine gs_ (some 41) Try.func62 #[.pointer (some ⟨g, 0, none⟩), .int .i64 3] ?_; (with_reducible refine (spec_l01Below.calls g s0_0 x1001_3 x1002_3 3 t318 t319 t320 w0 _ ?side1 ?side2 A34.out).mono ?_); (case side1 => exact is0_); (case side2 => exact bi0_); rintro e w44 ⟨rfl, hi, hb, hk⟩; refine ⟨_, rfl, ?_⟩; replace HO_303000 := Aside0.mk (Kd.R_mono (Kd.R_keep (IsS118.apart (show IsS118 w0 _ g s0_0 x1001_3 x1002_3 from is0_) (ra_ HO_303000.out) (by decide)) hk (fun _ h => h.2)) (fun _ h => h.1)); replace HO_303001 := Aside0.mk (Kd.R_mono (Kd.R_keep (IsS118.apart (show IsS118 w0 _ g s0_0 x1001_3 x1002_3 from is0_) (ra_ HO_303001.out) (by decide)) hk (fun _ h => h.2)) (fun _ h => h.1)); replace BK295 := Aside0.mk (KeepBut.blk hk (g' := gb295) (o := .cells #[.slice none 0 0, .slice none 0 0, .int .i64 0, .int .i64 0] 53 (0, 0)) (bk_ BK295.out) NB295_0.out (by simp)); replace BK302 := Aside0.mk (KeepBut.blk hk (g' := gb302) (o := .cells #[u303000, u303001, .int .i64 t299, .int .i64 x303003_2] 53 (0, 0)) (bk_ BK302.out) NB302_0.out (by simp)); replace HK := Aside0.mk (KeepBut.trans (by repeat (first | (with_reducible first | exact HK.out | apply KeepBut.set_ | apply keep_drewN | apply keep_drew | apply keep_alloc | refine keep_far ?_ GW295.out _ | refine keep_far ?_ GW302.out _) | exact HK.out)) hk (.inl rfl)); replace HB := Aside0.mk (hb); replace HI0 := Aside0.mk (hi); (try clear hb); (try clear hk); (try clear hi); have hnb45 := NB302_295.out; have hnc45 := NB295_302.out; have hnb46 := NB302_0.out; have hnc46 := NB0_302.out; obtain ⟨hcz47_0, hcz47_1, hcz47_2, hcz47_3, hfz47_0, hfz47_1, hfz47_2, hfz47_3⟩ := cf4_ BK302.out; obtain ⟨Ao48, co48, eo48⟩ := Kd.R_slice HO_303000.out; subst eo48; have hnb49 := NB295_0.out; have hnc49 := NB0_295.out; obtain ⟨hcz50_0, hcz50_1, hcz50_2, hcz50_3, hfz50_0, hfz50_1, hfz50_2, hfz50_3⟩ := cf4_ BK295.out; obtain ⟨Ao51, co51, eo51⟩ := Kd.R_slice HO_303001.out; subst eo51))
  refine bodyPost_ret (results_cell_row rfl _ _ gb295 53 #[.slice Ao48 x303000_2.length co48, .slice Ao51 x303001_3.length co51, .int .i64 t299, .int .i64 x303003_2] (0, 0) _ rfl (bp0_ BK295.out) Try.underlying53 rfl (by kernel_rfl)) rfl ?_
  exact ⟨_, _, er_, by (with_reducible repeat (first | apply Kd.R_alloc | apply Kd.R_drewN | apply Kd.R_drew)); exact Kd.R_mono (Kd.R_far (p := ⟨gb295, 3, none⟩) (Kd.R_far (p := ⟨gb295, 2, none⟩) (Kd.R_far (p := ⟨gb295, 1, none⟩) (Kd.R_far (p := ⟨gb295, 0, none⟩) (Kd.R_types HO_303000.out BK295.out (by decide)) (fun _ hk => hk.2) (.slice Ao48 x303000_2.length co48)) (fun _ hk => hk.2) (.slice Ao51 x303001_3.length co51)) (fun _ hk => hk.2) (.int .i64 t299)) (fun _ hk => hk.2) (.int .i64 x303003_2)) (fun _ hk => trivial), by (with_reducible repeat (first | apply Kd.R_alloc | apply Kd.R_drewN | apply Kd.R_drew)); exact Kd.R_mono (Kd.R_far (p := ⟨gb295, 3, none⟩) (Kd.R_far (p := ⟨gb295, 2, none⟩) (Kd.R_far (p := ⟨gb295, 1, none⟩) (Kd.R_far (p := ⟨gb295, 0, none⟩) (Kd.R_types HO_303001.out BK295.out (by decide)) (fun _ hk => hk.2) (.slice Ao48 x303000_2.length co48)) (fun _ hk => hk.2) (.slice Ao51 x303001_3.length co51)) (fun _ hk => hk.2) (.int .i64 t299)) (fun _ hk => hk.2) (.int .i64 x303003_2)) (fun _ hk => trivial), is0_, bi0_, hkx_⟩
 rw [if_pos c35] at H
 have c35b0 := decide_eq_true c35
 clear c35
 replace H := bs_ H
 obtain ⟨⟨t321, t322, t323, t324, t325, t326, t327, t328⟩, A36, H⟩ := H
 try dsimp only at H
 by_cases c37 : x303001_3.length < 2932031007402
 rotate_left
 ·exact nn_ c37 H
 rw [if_pos c37] at H
 have LMc37 := Aside0.mk c37
 clear c37
 obtain ⟨y329, hy329⟩ : ∃ y_ : List (S100), y_ = (x303001_3 ++ [(⟨t321, (⟨t322, t323⟩ : S98), t324, (⟨t325, t326⟩ : S98)⟩ : S100)]) := ⟨_, rfl⟩
 replace H : (spec_l09Made.l1 k3 (wrap64 (x7_3 + 1)) s0_0 t327 t328 x303000_2 y329 t299 x303003_2) = some (r1, r2, r3, r4, r5, r6) := rp_ H hy329
 have Ny329 := Aside0.mk hy329
 clear hy329
 have H' := Aside0.mk H
 clear H
 try go_wp2_with (first | ((with_reducible refine gate_callee (f := 62) rfl ?_); refine gs_ (some 41) Try.func62 #[.pointer (some ⟨g, 0, none⟩), .int .i64 3] ?_; (with_reducible refine (spec_l01Below.calls g s0_0 x1001_3 x1002_3 3 t318 t319 t320 w0 _ ?side1 ?side2 A34.out).mono ?_); (case side1 => exact is0_); (case side2 => exact bi0_); rintro e w38 ⟨rfl, hi, hb, hk⟩; refine ⟨_, rfl, ?_⟩; replace HO_303000 := Aside0.mk (Kd.R_mono (Kd.R_keep (IsS118.apart (show IsS118 w0 _ g s0_0 x1001_3 x1002_3 from is0_) (ra_ HO_303000.out) (by decide)) hk (fun _ h => h.2)) (fun _ h => h.1)); replace HO_303001 := Aside0.mk (Kd.R_mono (Kd.R_keep (IsS118.apart (show IsS118 w0 _ g s0_0 x1001_3 x1002_3 from is0_) (ra_ HO_303001.out) (by decide)) hk (fun _ h => h.2)) (fun _ h => h.1)); replace BK295 := Aside0.mk (KeepBut.blk hk (g' := gb295) (o := .cells #[.slice none 0 0, .slice none 0 0, .int .i64 0, .int .i64 0] 53 (0, 0)) (bk_ BK295.out) NB295_0.out (by simp)); replace BK302 := Aside0.mk (KeepBut.blk hk (g' := gb302) (o := .cells #[u303000, u303001, .int .i64 t299, .int .i64 x303003_2] 53 (0, 0)) (bk_ BK302.out) NB302_0.out (by simp)); replace HK := Aside0.mk (KeepBut.trans (by repeat (first | (with_reducible first | exact HK.out | apply KeepBut.set_ | apply keep_drewN | apply keep_drew | apply keep_alloc | refine keep_far ?_ GW295.out _ | refine keep_far ?_ GW302.out _) | exact HK.out)) hk (.inl rfl)); replace HB := Aside0.mk (hb); replace HI0 := Aside0.mk (hi); (try clear hb); (try clear hk); (try clear hi)))
 have n0_ := Aside0.mk (Kd.R_drew HO_303000.out)
 have n1_ := Aside0.mk (Kd.R_drew HO_303001.out)
 have n2_ := Aside0.mk (blk_drew BK295.out)
 have n3_ := Aside0.mk (blk_drew BK302.out)
 have n4_ := Aside0.mk (IsS118.drew HI0.out)
 have n5_ := Aside0.mk (keep_drew HK.out)
 have n6_ := Aside0.mk (below_drew1 HB.out)
 clear HO_303000
 clear HO_303001
 clear BK295
 clear BK302
 clear HI0
 clear HK
 clear HB
 have HO_303000 := n0_
 have HO_303001 := n1_
 have BK295 := n2_
 have BK302 := n3_
 have HI0 := n4_
 have HK := n5_
 have HB := n6_
 clear n0_ n1_ n2_ n3_ n4_ n5_ n6_
 refine start_ (n := 8) (S := fun w' => w'.cell? ⟨gb302, 0, none⟩ = some (u303000) ∧ w'.cell? ⟨gb302, 1, none⟩ = some (u303001) ∧ w'.cell? ⟨gb302, 2, none⟩ = some (.int .i64 t299) ∧ w'.cell? ⟨gb302, 3, none⟩ = some (.int .i64 x303003_2)) (ds := [7]) #[false, false, false, false, false, false, false, false] (by kernel_rfl) rfl rfl ⟨(blk_cell BK302.out 0).trans rfl, (blk_cell BK302.out 1).trans rfl, (blk_cell BK302.out 2).trans rfl, (blk_cell BK302.out 3).trans rfl⟩ (fun hHeld => ?_); refine with_tabW spec_l09Made.tab14 spec_l09Made.bits14 (fun HT_ HW_ => ?_)
 generalize w38.drew = w39 at HO_303000 HO_303001 BK295 BK302 HI0 HK HB hHeld ⊢
 refine pu_ 0 45 HT_ ?_
 refine pu_ 2 47 HT_ ?_
 refine ta_ 1 46 HT_ HW_ hHeld ?_ (r := by rintro w' ⟨s0, s1, s2, s3⟩; go_simp; with_reducible rfl)
 refine on_ 3 48 HT_ (fun K hK => ?_)
 refine goes_ Try.func129 (by kernel_rfl) rfl #[.pointer (some ⟨g, 0, none⟩)] (by rfl) rfl rfl lm_ ?_
 with_reducible refine (spec_l09Cond.calls g s0_0 t319 t320 t321 t322 t323 t324 t325 t326 t327 t328 w0 _ ?side1 ?side2 A36.out).mono ?_
 (case side1 => exact is0_)
 (case side2 => exact bi0_)
 rintro e w40 ⟨rfl, hi, hb, hk⟩
 refine ⟨_, rfl, ?_⟩
 have n0_ := Aside0.mk (Kd.R_mono (Kd.R_keep (IsS118.apart (show IsS118 w0 _ g s0_0 t319 t320 from is0_) (ra_ HO_303000.out) (by decide)) hk (fun _ h => h.2)) (fun _ h => h.1))
 have n1_ := Aside0.mk (Kd.R_mono (Kd.R_keep (IsS118.apart (show IsS118 w0 _ g s0_0 t319 t320 from is0_) (ra_ HO_303001.out) (by decide)) hk (fun _ h => h.2)) (fun _ h => h.1))
 have n2_ := Aside0.mk (KeepBut.blk hk (g' := gb295) (o := .cells #[.slice none 0 0, .slice none 0 0, .int .i64 0, .int .i64 0] 53 (0, 0)) (bk_ BK295.out) NB295_0.out (by simp))
 have n3_ := Aside0.mk (KeepBut.blk hk (g' := gb302) (o := .cells #[u303000, u303001, .int .i64 t299, .int .i64 x303003_2] 53 (0, 0)) (bk_ BK302.out) NB302_0.out (by simp))
 have n4_ := Aside0.mk (KeepBut.trans (by repeat (first | (with_reducible first | exact HK.out | apply KeepBut.set_ | apply keep_drewN | apply keep_drew | apply keep_alloc | refine keep_far ?_ GW295.out _ | refine keep_far ?_ GW302.out _) | exact HK.out)) hk (.inl rfl))
 have n5_ := Aside0.mk (hb)
 have n6_ := Aside0.mk (hi)
 clear HO_303000
 clear HO_303001
 clear BK295
 clear BK302
 clear HK
 clear HB
 clear HI0
 have HO_303000 := n0_
 have HO_303001 := n1_
 have BK295 := n2_
 have BK302 := n3_
 have HK := n4_
 have HB := n5_
 have HI0 := n6_
 clear n0_ n1_ n2_ n3_ n4_ n5_ n6_
 (try clear hb)
 (try clear hb2)
 (try clear hk)
 (try clear hi)
 refine hK.out _ _ ⟨(blk_cell BK302.out 0).trans rfl, (blk_cell BK302.out 1).trans rfl, (blk_cell BK302.out 2).trans rfl, (blk_cell BK302.out 3).trans rfl⟩ (fun hHeld => ?_)
 clear hK K
 refine norm_ (a' := ?_) ?_ ?_
 rotate_left
 ·show Act.put _ (some 48) _ = _
  simp only [Act.put, List.setIfInBounds_toArray, List.set_cons_zero, List.set_cons_succ, i64_w, i32_w]
  rfl
 refine on_ 4 49 HT_ (fun K hK => ?_)
 refine value_ (w1 := ?_) (v := ?_) (by rfl) rfl ?_ ?_
 rotate_left 2
 ·go_simp
  constructor
  ·rfl
  ·rfl
 refine hK.out _ _ ⟨(blk_cell (blk_alloc BK302.out _) 0).trans rfl, (blk_cell (blk_alloc BK302.out _) 1).trans rfl, (blk_cell (blk_alloc BK302.out _) 2).trans rfl, (blk_cell (blk_alloc BK302.out _) 3).trans rfl⟩ (fun hHeld => ?_)
 clear hK K
 refine norm_ (a' := ?_) ?_ ?_
 rotate_left
 ·show Act.put _ (some 49) _ = _
  simp only [Act.put, List.setIfInBounds_toArray, List.set_cons_zero, List.set_cons_succ, i64_w, i32_w]
  rfl
 refine on_ 5 50 HT_ (fun K hK => ?_)
 refine Kd.R_append_step k100 w.heap.size (by rfl) (.tmp 46) (.tmp 49) 51 100 (.agg #[(.int .i64 0), (.int .i64 0), (.int .i64 0), (.int .i64 0), (.int .i64 0), (.int .i64 0)]) 48 rfl Try.underlying51 info100 rfl (by decide) (by omega) u303001 x303001_3 (⟨t321, (⟨t322, t323⟩ : S98), t324, (⟨t325, t326⟩ : S98)⟩ : S100) [.int .i64 t321, .int .i64 t322, .int .i64 t323, .int .i64 t324, .int .i64 t325, .int .i64 t326] (fun _ => True) (fun _ => False) rfl rfl ?aP (fun _ hk => hk.elim) ?aF ?aO (Below.refl _ _) ?aS ?aL ?_
 (case aP => exact k100_mkM _ _ _ (⟨t321, (⟨t322, t323⟩ : S98), t324, (⟨t325, t326⟩ : S98)⟩ : S100))
 (case aF => exact (fun _ _ => trivial))
 (case aO => exact (ra_ HO_303001.out))
 (case aS => exact (keep_size (w := w) (g := g) (row := none) hkx_))
 (case aL => have := LMc37.out; omega)
 intro v330 w41 ho hb hg hat
 rw [← Ny329.out] at ho
 have n0_ := Aside0.mk (Kd.R_over' (ra_ HO_303000.out) (Kd.R_typed (ra_ HO_303001.out)) (by decide) hg)
 have n1_ := Aside0.mk (blk_grown (g := gb295) (o := .cells #[.slice none 0 0, .slice none 0 0, .int .i64 0, .int .i64 0] 53 (0, 0)) (bk_ BK295.out) hg (Kd.R_ne HO_303001.out BK295.out (by decide)))
 have n2_ := Aside0.mk (blk_grown (g := gb302) (o := .cells #[u303000, u303001, .int .i64 t299, .int .i64 x303003_2] 53 (0, 0)) (bk_ BK302.out) hg (Kd.R_ne HO_303001.out BK302.out (by decide)))
 have n3_ := Aside0.mk (IsS118.grown (show IsS118 w0 _ g s0_0 t327 t328 from is0_) hg (IsS118.own_ne HI0.out HO_303001.out (by decide)))
 have n4_ := Aside0.mk (below_weaken bi0_ HL.out hb)
 have n5_ := Aside0.mk (KeepBut.trans (by repeat (first | (with_reducible first | exact HK.out | apply KeepBut.set_ | apply keep_drewN | apply keep_drew | apply keep_alloc | refine keep_far ?_ GW295.out _ | refine keep_far ?_ GW302.out _) | exact HK.out)) (KeepBut.of_grown hg g) (Kd.R_base2 HO_303001.out))
 have n6_ := Aside0.mk (ho)
 clear HO_303000
 clear BK295
 clear BK302
 clear HI0
 clear HB
 clear HK
 clear HO_303001
 have HO_303000 := n0_
 have BK295 := n1_
 have BK302 := n2_
 have HI0 := n3_
 have HB := n4_
 have HK := n5_
 have HO331 := n6_
 clear n0_ n1_ n2_ n3_ n4_ n5_ n6_
 clear ho hb hg hat
 obtain ⟨Ao42, co42, eo42⟩ := Kd.R_slice HO331.out
 (first | subst eo42 | (injection eo42 with f1_ f2_ f3_; have f4_ := f1_.symm; have f5_ := f3_.symm; clear f1_ f2_ f3_; subst f4_; subst f5_))
 refine hK.out _ _ ⟨(blk_cell BK302.out 0).trans rfl, (blk_cell BK302.out 1).trans rfl, (blk_cell BK302.out 2).trans rfl, (blk_cell BK302.out 3).trans rfl⟩ (fun hHeld => ?_)
 clear hK K
 refine norm_ (a' := ?_) ?_ ?_
 rotate_left
 ·show Act.put _ (some 50) _ = _
  simp only [Act.put, List.setIfInBounds_toArray, List.set_cons_zero, List.set_cons_succ, i64_w, i32_w]
  rfl
 refine pu_ 6 51 HT_ ?_
 refine last_ (i := 7) (N := none) #[true, true, true, true, true, true, true, true] rfl rfl (one_of HT_.out (by kernel_rfl)) (by decide) (fun K hK => ?_)
 have hs43 : w41.cell? ⟨gb302, 1, none⟩ = some (u303001) := (blk_cell BK302.out 1).trans rfl
 have hfs43 := blk_frozen BK302.out 1
 have hns43_0 := NB295_302.out
 have hms43_0 := NB302_295.out
 refine skip_ (w1 := ?_) (by rfl) rfl ?_ ?_
 rotate_left
 ·go_simp
  rfl
 refine hK.out _ _ ?_
 clear hK K
 refine done_ (done_of HT_.out (by kernel_rfl)) ?_
 try go_wp2
 go_roundg k3
 case measure => have := HJ2.out; have := HK2.out; have := HK3.out; omega
 case rel => exact ⟨(wrap64 (x7_3 + 1)), (t327), (t328), (y329), (.slice Ao42 y329.length co42), (sr_), H', ⟨by have := HJ2.out; have := HK2.out; have := HK3.out; omega⟩, ⟨by (with_reducible repeat (first | apply Kd.R_alloc | apply Kd.R_drewN | apply Kd.R_drew)); exact Kd.R_mono (Kd.R_far (p := ⟨gb302, 1, none⟩) (Kd.R_types HO_303000.out BK302.out (by decide)) (fun _ hk => hk.2) (.slice Ao42 y329.length co42)) (fun _ hk => trivial)⟩, ⟨by (with_reducible repeat (first | apply Kd.R_alloc | apply Kd.R_drewN | apply Kd.R_drew)); exact Kd.R_mono (Kd.R_far (p := ⟨gb302, 1, none⟩) (Kd.R_types HO331.out BK302.out (by decide)) (fun _ hk => hk.2) (.slice Ao42 y329.length co42)) (fun _ hk => trivial)⟩, ⟨bp1_ BK295.out NB295_302.out⟩, ⟨bp0_ BK302.out⟩, ⟨is0_⟩, ⟨hkx_⟩, ⟨bi0_⟩⟩

end Go.Proofs.Ytjfmpodeenidnaa.PC
