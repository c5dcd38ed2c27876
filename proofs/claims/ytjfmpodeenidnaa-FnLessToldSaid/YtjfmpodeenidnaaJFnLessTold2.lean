/- Contracts of functions of the program and of the reference, and plain lemmas on what they compute: a part of the proof of the law FnLessTold. No condition. -/
import Derived.Test.YtjfmpodeenidnaaG90508x0
import Derived.Test.YtjfmpodeenidnaaG90508x1
import Derived.Test.YtjfmpodeenidnaaJFnLessTold1
import Derived.Test.YtjfmpodeenidnaaG90508x5
import Derived.Test.YtjfmpodeenidnaaShortV
set_option maxHeartbeats 8000000
set_option maxRecDepth 100000
namespace Go.Proofs.Ytjfmpodeenidnaa.PC
open Go.RowKit Go.Proofs.Ytjfmpodeenidnaa.Short Go.Proofs.YtjfmpodeenidnaaW.PrintWords Go.Proofs.YtjfmpodeenidnaaW.PrintLast Go.Proofs.YtjfmpodeenidnaaW.PrintMore
attribute [local go_sem] max2_int min2_int max_two min_two max_three min_three max_four min_four   -- for this text's walks alone
set_option linter.unusedVariables false
set_option linter.unusedSimpArgs false

def spec_DrawShadowed.f (k : Nat) (l0 : List Int) : Option (Int × Int × Int × (List (S53))) := (spec_l01New.f k l0).bind fun bt699 => ((spec_l24Any.f k bt699.1 bt699.2.1 bt699.2.2).bind fun bt703 => (some (bt703.1, bt703.2.1, bt703.2.2.1, bt703.2.2.2.1)))
theorem spec_DrawShadowed.mono : ∀ a0 k, LeO (spec_DrawShadowed.f k a0) (spec_DrawShadowed.f (k + 1) a0) := by
 intro a0 k
 unfold spec_DrawShadowed.f
 have m0 := @spec_l01New.mono
 have m1 := @spec_l24Any.mono
 exact mo_
theorem spec_DrawShadowed.calls (k : Nat) (A0 : Option Addr) (c0 : Nat) (l0 : List Int) (r1 : Int) (r2 : Int) (r3 : Int) (r4 : List (S53)) (w : World) (hr0 : Kd.C (Kd.int .u8) w A0 l0.length l0) (hc0 : l0.length ≤ c0) (h : spec_DrawShadowed.f k l0 = some (r1, r2, r3, r4)) :
 Calls Try.prog 29 #[.slice A0 l0.length c0] w fun e w' => ∃ v3_ : Value, e = .returned (.agg #[.int .i64 r1, .int .i64 r2, .int .i64 r3, v3_]) ∧ Kd.N k53 53 w' w.heap.size (fun k_ => (w.heap.size ≤ k_)) v3_ r4 ∧ Below w.heap.size w w' := by
 have hu36 := Try.underlying36
 have HR0 := Aside0.mk hr0
 have HC0 := Aside0.mk hc0
 clear hr0 hc0
 have HB := Aside0.mk (Below.refl w.heap.size w)
 have H := h
 unfold spec_DrawShadowed.f at H
 clear h
 replace H := bs_ H
 obtain ⟨⟨t699, t700, t701⟩, A2, H⟩ := H
 try dsimp only at H
 replace H := bs_ H
 obtain ⟨⟨t703, t704, t705, t706, t709, t710⟩, A3, H⟩ := H
 try dsimp only at H
 simp only [Option.some.injEq, Prod.mk.injEq] at H
 obtain ⟨rfl, rfl, rfl, rfl⟩ := H
 go_enter Try.func29, Try.ntmps29
 go_wp2_with (first | ((with_reducible refine gate_dst (N := 2) rfl ?_); refine bx_ 2 36 #[.int .i64 0, .int .i64 0, .int .i64 0, .slice none 0 0] ?_; intro gb698 hg w4 hbox hb; have BK698 := Aside0.mk (hbox); have GW698 := Aside0.mk ((hz_ : w.heap.size ≤ gb698)); have GE698 := GW698; replace HB := Aside0.mk (below_step bl_ hb); clear hb hbox hg) | ((with_reducible refine gate_callee (f := 60) rfl ?_); refine gs_ (some 4) Try.func60 #[.slice A0 l0.length c0] ?_; (with_reducible refine (spec_l01New.calls k _ _ l0 t699 t700 t701 w _ ?side1 ?side2 ?side3 A2.out).mono ?_); (case side1 => repeat (first | (with_reducible first | exact HB.out | apply below_alloc | apply pw_below_drewN | apply below_drew1 | refine below_set ?_ GE698.out) | exact HB.out)); (case side2 => exact HR0.out); (case side3 => exact HC0.out); rintro e w5 ⟨g702, rfl, hi, hb, hb2⟩; refine ⟨_, rfl, ?_⟩; replace HB := Aside0.mk (hb); have HI702 := Aside0.mk (hi); have NB702_698 := Aside0.mk (IsS118.ne_blk hi (blk_below (bn0_ BK698.out) hb2) (by decide)); have NB698_702 := Aside0.mk (Ne.symm (IsS118.ne_blk hi (blk_below (bn0_ BK698.out) hb2) (by decide))); replace BK698 := Aside0.mk (blk_below (bn0_ BK698.out) hb2); (try clear hb); (try clear hb2); (try clear hi)) | ((with_reducible refine gate_callee (f := 77) rfl ?_); refine gs_ (some 5) Try.func77 #[.pointer (some ⟨g702, 0, none⟩)] ?_; (with_reducible refine (spec_l24Any.calls k g702 t699 t700 t701 t703 t704 t705 t706 t709 t710 w _ ?side1 ?side2 A3.out).mono ?_); (case side1 => exact is3_); (case side2 => exact bi3_); rintro e w6 ⟨v707, rfl, ho0, hi, hb, hk⟩; refine ⟨_, rfl, ?_⟩; have HO708 := Aside0.mk (Kd.N_lower (Kd.N_mono (ok' := fun k_ => (w.heap.size ≤ k_) ∧ k_ ≠ gb698 ∧ k_ ≠ g702) ho0 (fun k_ hk_ => ⟨(Nat.le_trans (below_size bi3_) hk_), (fb_ BK698.out k_ hk_), (IsS118.fresh is3_ k_ hk_)⟩)) (below_size bi3_)); replace BK698 := Aside0.mk (KeepBut.blk hk (g' := gb698) (o := .cells #[.int .i64 0, .int .i64 0, .int .i64 0, .slice none 0 0] 36 (0, 0)) (bk_ BK698.out) NB698_702.out (by simp)); replace HB := Aside0.mk (hb); replace HI702 := Aside0.mk (hi); (try clear hb); (try clear hk); (try clear hi); (try clear ho0); have hnb7 := NB698_702.out; have hnc7 := NB702_698.out; obtain ⟨hcz8_0, hcz8_1, hcz8_2, hcz8_3, hfz8_0, hfz8_1, hfz8_2, hfz8_3⟩ := cf4_ BK698.out; obtain ⟨Ao9, co9, eo9⟩ := Kd.N_slice HO708.out; subst eo9))
 refine bodyPost_ret (results_cell_row rfl _ _ gb698 36 #[.int .i64 t703, .int .i64 t704, .int .i64 t705, .slice Ao9 t706.length co9] (0, 0) _ rfl (bp0_ BK698.out) Try.underlying36 rfl (by kernel_rfl)) rfl ?_
 exact ⟨_, er_, by (with_reducible repeat (first | apply Kd.N_alloc | apply Kd.N_drewN | apply Kd.N_drew)); exact Kd.N_mono (Kd.N_far (p := ⟨gb698, 3, none⟩) (Kd.N_far (p := ⟨gb698, 2, none⟩) (Kd.N_far (p := ⟨gb698, 1, none⟩) (Kd.N_far (p := ⟨gb698, 0, none⟩) (Kd.N_mono HO708.out (fun k_ hk => (⟨hk, hk.2.1⟩ : _ ∧ k_ ≠ gb698))) (fun _ hk => hk.2) (.int .i64 t703)) (fun _ hk => hk.2) (.int .i64 t704)) (fun _ hk => hk.2) (.int .i64 t705)) (fun _ hk => hk.2) (.slice Ao9 t706.length co9)) (fun _ hk => hk.1.1), bi3_⟩


def spec_DrawOnlyFor.f (k : Nat) (l0 : List Int) : Option (Int × Int × Int × (List (S53)) × Int) := (spec_l01New.f k l0).bind fun bt712 => ((spec_l01Below.f bt712.1 bt712.2.1 bt712.2.2 12).bind fun bt716 => ((spec_l24Any.f k bt712.1 bt716.2.1 bt716.2.2).bind fun bt719 => (some (bt719.1, bt719.2.1, bt719.2.2.1, bt719.2.2.2.1, bt716.1))))
theorem spec_DrawOnlyFor.mono : ∀ a0 k, LeO (spec_DrawOnlyFor.f k a0) (spec_DrawOnlyFor.f (k + 1) a0) := by
 intro a0 k
 unfold spec_DrawOnlyFor.f
 have m0 := @spec_l01New.mono
 have m1 := @spec_l24Any.mono
 exact mo_
theorem spec_DrawOnlyFor.calls (k : Nat) (A0 : Option Addr) (c0 : Nat) (l0 : List Int) (r1 : Int) (r2 : Int) (r3 : Int) (r4 : List (S53)) (r5 : Int) (w : World) (hr0 : Kd.C (Kd.int .u8) w A0 l0.length l0) (hc0 : l0.length ≤ c0) (h : spec_DrawOnlyFor.f k l0 = some (r1, r2, r3, r4, r5)) :
 Calls Try.prog 30 #[.slice A0 l0.length c0] w fun e w' => ∃ v3_ : Value, e = .returned (.tuple #[.agg #[.int .i64 r1, .int .i64 r2, .int .i64 r3, v3_], .int .i64 r5]) ∧ Kd.N k53 53 w' w.heap.size (fun k_ => (w.heap.size ≤ k_)) v3_ r4 ∧ Below w.heap.size w w' := by
 have hu36 := Try.underlying36
 have HR0 := Aside0.mk hr0
 have HC0 := Aside0.mk hc0
 clear hr0 hc0
 have HB := Aside0.mk (Below.refl w.heap.size w)
 have H := h
 unfold spec_DrawOnlyFor.f at H
 clear h
 replace H := bs_ H
 obtain ⟨⟨t712, t713, t714⟩, A2, H⟩ := H
 try dsimp only at H
 replace H := bs_ H
 obtain ⟨⟨t716, t717, t718⟩, A3, H⟩ := H
 try dsimp only at H
 replace H := bs_ H
 obtain ⟨⟨t719, t720, t721, t722, t725, t726⟩, A4, H⟩ := H
 try dsimp only at H
 simp only [Option.some.injEq, Prod.mk.injEq] at H
 obtain ⟨rfl, rfl, rfl, rfl, rfl⟩ := H
 go_enter Try.func30, Try.ntmps30
 go_wp2_with (first | ((with_reducible refine gate_dst (N := 2) rfl ?_); refine bx_ 2 36 #[.int .i64 0, .int .i64 0, .int .i64 0, .slice none 0 0] ?_; intro gb711 hg w5 hbox hb; have BK711 := Aside0.mk (hbox); have GW711 := Aside0.mk ((hz_ : w.heap.size ≤ gb711)); have GE711 := GW711; replace HB := Aside0.mk (below_step bl_ hb); clear hb hbox hg) | ((with_reducible refine gate_callee (f := 60) rfl ?_); refine gs_ (some 7) Try.func60 #[.slice A0 l0.length c0] ?_; (with_reducible refine (spec_l01New.calls k _ _ l0 t712 t713 t714 w _ ?side1 ?side2 ?side3 A2.out).mono ?_); (case side1 => repeat (first | (with_reducible first | exact HB.out | apply below_alloc | apply pw_below_drewN | apply below_drew1 | refine below_set ?_ GE711.out) | exact HB.out)); (case side2 => exact HR0.out); (case side3 => exact HC0.out); rintro e w6 ⟨g715, rfl, hi, hb, hb2⟩; refine ⟨_, rfl, ?_⟩; replace HB := Aside0.mk (hb); have HI715 := Aside0.mk (hi); have NB715_711 := Aside0.mk (IsS118.ne_blk hi (blk_below (bn0_ BK711.out) hb2) (by decide)); have NB711_715 := Aside0.mk (Ne.symm (IsS118.ne_blk hi (blk_below (bn0_ BK711.out) hb2) (by decide))); replace BK711 := Aside0.mk (blk_below (bn0_ BK711.out) hb2); (try clear hb); (try clear hb2); (try clear hi)) | ((with_reducible refine gate_callee (f := 62) rfl ?_); refine gs_ (some 9) Try.func62 #[.pointer (some ⟨g715, 0, none⟩), .int .i64 12] ?_; (with_reducible refine (spec_l01Below.calls g715 t712 t713 t714 12 t716 t717 t718 w _ ?side1 ?side2 A3.out).mono ?_); (case side1 => exact is4_); (case side2 => exact bi4_); rintro e w7 ⟨rfl, hi, hb, hk⟩; refine ⟨_, rfl, ?_⟩; replace BK711 := Aside0.mk (KeepBut.blk hk (g' := gb711) (o := .cells #[.int .i64 0, .int .i64 0, .int .i64 0, .slice none 0 0] 36 (0, 0)) (bk_ BK711.out) NB711_715.out (by simp)); replace HB := Aside0.mk (hb); replace HI715 := Aside0.mk (hi); (try clear hb); (try clear hk); (try clear hi)) | ((with_reducible refine gate_callee (f := 77) rfl ?_); refine gs_ (some 11) Try.func77 #[.pointer (some ⟨g715, 0, none⟩)] ?_; (with_reducible refine (spec_l24Any.calls k g715 t712 t717 t718 t719 t720 t721 t722 t725 t726 w _ ?side1 ?side2 A4.out).mono ?_); (case side1 => exact is4_); (case side2 => exact bi4_); rintro e w8 ⟨v723, rfl, ho0, hi, hb, hk⟩; refine ⟨_, rfl, ?_⟩; have HO724 := Aside0.mk (Kd.N_lower (Kd.N_mono (ok' := fun k_ => (w.heap.size ≤ k_) ∧ k_ ≠ gb711 ∧ k_ ≠ g715) ho0 (fun k_ hk_ => ⟨(Nat.le_trans (below_size bi4_) hk_), (fb_ BK711.out k_ hk_), (IsS118.fresh is4_ k_ hk_)⟩)) (below_size bi4_)); replace BK711 := Aside0.mk (KeepBut.blk hk (g' := gb711) (o := .cells #[.int .i64 0, .int .i64 0, .int .i64 0, .slice none 0 0] 36 (0, 0)) (bk_ BK711.out) NB711_715.out (by simp)); replace HB := Aside0.mk (hb); replace HI715 := Aside0.mk (hi); (try clear hb); (try clear hk); (try clear hi); (try clear ho0); have hnb9 := NB711_715.out; have hnc9 := NB715_711.out; obtain ⟨hcz10_0, hcz10_1, hcz10_2, hcz10_3, hfz10_0, hfz10_1, hfz10_2, hfz10_3⟩ := cf4_ BK711.out; obtain ⟨Ao11, co11, eo11⟩ := Kd.N_slice HO724.out; subst eo11))
 refine bodyPost_ret (results_ct rfl _ _ gb711 36 #[.int .i64 t719, .int .i64 t720, .int .i64 t721, .slice Ao11 t722.length co11] (0, 0) _ rfl (bp0_ BK711.out) Try.underlying36 rfl (by kernel_rfl)) rfl ?_
 exact ⟨_, er_, by (with_reducible repeat (first | apply Kd.N_alloc | apply Kd.N_drewN | apply Kd.N_drew)); exact Kd.N_mono (Kd.N_far (p := ⟨gb711, 3, none⟩) (Kd.N_far (p := ⟨gb711, 2, none⟩) (Kd.N_far (p := ⟨gb711, 1, none⟩) (Kd.N_far (p := ⟨gb711, 0, none⟩) (Kd.N_mono HO724.out (fun k_ hk => (⟨hk, hk.2.1⟩ : _ ∧ k_ ≠ gb711))) (fun _ hk => hk.2) (.int .i64 t719)) (fun _ hk => hk.2) (.int .i64 t720)) (fun _ hk => hk.2) (.int .i64 t721)) (fun _ hk => hk.2) (.slice Ao11 t722.length co11)) (fun _ hk => hk.1.1), bi4_⟩

end Go.Proofs.Ytjfmpodeenidnaa.PC

namespace Go.Proofs.Ytjfmpodeenidnaa.PC
open Go.RowKit Go.Proofs.YtjfmpodeenidnaaW.PrintWords Go.Proofs.YtjfmpodeenidnaaW.PrintLast Go.Proofs.YtjfmpodeenidnaaW.PrintMore
attribute [local go_sem] max2_int min2_int max_two min_two max_three min_three max_four min_four   -- for this text's walks alone
set_option linter.unusedVariables false
set_option linter.unusedSimpArgs false

theorem eqA98 (d : Nat) (w : World) (x0 y0 : Int) (x1 y1 : Int) :
 (Op.equalIn (d + 2) 98 (.agg #[.int .i64 x0, .int .i64 x1]) (.agg #[.int .i64 y0, .int .i64 y1])).run Try.prog w = .ok (x0 == y0 && (x1 == y1)) w := by
 refine eqA_of Try.underlying98 (by kernel_rfl) ?_
 refine eqf_cons (by rfl) (by go_simp; rfl) (by go_simp; rfl) (by go_simp) ?_
 exact eqf_last (by rfl) (by go_simp; rfl) (by go_simp; rfl) (by go_simp)
theorem eqA100 (d : Nat) (w : World) (x0 y0 : Int) (x1 y1 : Int) (x2 y2 : Int) (x3 y3 : Int) (x4 y4 : Int) (x5 y5 : Int) :
 (Op.equalIn (d + 3) 100 (.agg #[.int .i64 x0, .int .i64 x1, .int .i64 x2, .int .i64 x3, .int .i64 x4, .int .i64 x5]) (.agg #[.int .i64 y0, .int .i64 y1, .int .i64 y2, .int .i64 y3, .int .i64 y4, .int .i64 y5])).run Try.prog w = .ok (x0 == y0 && ((x1 == y1 && (x2 == y2)) && (x3 == y3 && ((x4 == y4 && (x5 == y5)))))) w := by
 refine eqA_of Try.underlying100 (by kernel_rfl) ?_
 refine eqf_cons (by rfl) (by go_simp; rfl) (by go_simp; rfl) (by go_simp) ?_
 refine eqf_cons (by rfl) (by go_simp) (by go_simp) (eqA98 (d + 0) w _ _ _ _) ?_
 refine eqf_cons (by rfl) (by go_simp; rfl) (by go_simp; rfl) (by go_simp) ?_
 exact eqf_last (by rfl) (by go_simp) (by go_simp) (eqA98 (d + 0) w _ _ _ _)
end Go.Proofs.Ytjfmpodeenidnaa.PC

namespace Go.Proofs.Ytjfmpodeenidnaa.PC
open Go.RowKit Go.Proofs.Ytjfmpodeenidnaa.Short Go.Proofs.YtjfmpodeenidnaaW.PrintWords Go.Proofs.YtjfmpodeenidnaaW.PrintLast Go.Proofs.YtjfmpodeenidnaaW.PrintMore
attribute [local go_sem] max2_int min2_int max_two min_two max_three min_three max_four min_four   -- for this text's walks alone
set_option linter.unusedVariables false
set_option linter.unusedSimpArgs false

attribute [local go_sem high] eqA100
def impl_Cond_132.l0 : Nat → List (S100) → Int → Int → Int → Int → Int → Int → Int → Int → Option (Int)
 | 0, _, _, _, _, _, _, _, _, _ => none
 | k + 1, x0, x7, x8, x730000, x730001, x730002, x730003, x730004, x730005 => if x8 < x7 then (if 0 ≤ x8 then (if x8 < (x0.length : Int) then (if (x730000 == ((rd_T100 x0 x8).f0) && ((x730001 == ((rd_T100 x0 x8).f1.f0) && (x730002 == ((rd_T100 x0 x8).f1.f1))) && (x730003 == ((rd_T100 x0 x8).f2) && ((x730004 == ((rd_T100 x0 x8).f3.f0) && (x730005 == ((rd_T100 x0 x8).f3.f1))))))) = true then (some x8) else (impl_Cond_132.l0 k x0 x7 (wrap64 (x8 + 1)) x730000 x730001 x730002 x730003 x730004 x730005)) else (none)) else (none)) else (some (-1))
def impl_Cond_132.f (k : Nat) (l0 : List (S100)) (a1_0 : Int) (a1_1 : Int) (a1_2 : Int) (a1_3 : Int) (a1_4 : Int) (a1_5 : Int) : Option (Int) := impl_Cond_132.l0 k l0 (l0.length : Int) 0 a1_0 a1_1 a1_2 a1_3 a1_4 a1_5
theorem impl_Cond_132.mono_l : ∀ k, (∀ y0 y1 y2 y3 y4 y5 y6 y7 y8, LeO (impl_Cond_132.l0 k y0 y1 y2 y3 y4 y5 y6 y7 y8) (impl_Cond_132.l0 (k + 1) y0 y1 y2 y3 y4 y5 y6 y7 y8))
 | 0 => fun _ _ _ _ _ _ _ _ _ r h => by simp [impl_Cond_132.l0] at h
 | k + 1 => by
  have ih0 := impl_Cond_132.mono_l k
  ·intro y0 y1 y2 y3 y4 y5 y6 y7 y8
   unfold impl_Cond_132.l0
   exact mo_
theorem impl_Cond_132.mono : ∀ a0 a1 a2 a3 a4 a5 a6 k, LeO (impl_Cond_132.f k a0 a1 a2 a3 a4 a5 a6) (impl_Cond_132.f (k + 1) a0 a1 a2 a3 a4 a5 a6) := by
 intro a0 a1 a2 a3 a4 a5 a6 k
 have ih0 := impl_Cond_132.mono_l k
 unfold impl_Cond_132.f
 exact mo_
theorem impl_Cond_132.calls (k : Nat) (A0 : Option Addr) (c0 : Nat) (l0 : List (S100)) (a1_0 : Int) (a1_1 : Int) (a1_2 : Int) (a1_3 : Int) (a1_4 : Int) (a1_5 : Int) (r : Int) (w : World) (hr0 : Kd.C k100 w A0 l0.length l0) (hc0 : l0.length ≤ c0) (h : impl_Cond_132.f k l0 a1_0 a1_1 a1_2 a1_3 a1_4 a1_5 = some r) :
 Calls Try.prog 132 #[.slice A0 l0.length c0, .agg #[.int .i64 a1_0, .int .i64 a1_1, .int .i64 a1_2, .int .i64 a1_3, .int .i64 a1_4, .int .i64 a1_5]] w fun e w' => e = .returned (.int .i64 r) ∧ Below w.heap.size w w' := by
 have hu100 := Try.underlying100
 have HR0 := Aside0.mk hr0
 have HC0 := Aside0.mk hc0
 clear hr0 hc0
 have HB := Aside0.mk (Below.refl w.heap.size w)
 have H := h
 unfold impl_Cond_132.f at H
 clear h
 have H' := Aside0.mk H
 clear H
 go_enter Try.func132, Try.ntmps132
 go_wp2_with (((with_reducible refine gate_dst (N := 3) rfl ?_); refine bx_ 3 100 #[.int .i64 a1_0, .int .i64 a1_1, .int .i64 a1_2, .int .i64 a1_3, .int .i64 a1_4, .int .i64 a1_5] ?_; intro gb729 hg w3 hbox hb; have BK729 := Aside0.mk (hbox); have GW729 := Aside0.mk ((hz_ : w.heap.size ≤ gb729)); have GE729 := GW729; replace HB := Aside0.mk (below_step bl_ hb); clear hb hbox hg))
 repeat (go_quiet (fail); try go_wp2_with (fail))
 go_loopg [8] k (fun kq v8 w' => ∃ (x8_1 : Int), v8 = .int .i64 x8_1 ∧ Aside0 (impl_Cond_132.l0 kq l0 (l0.length : Int) x8_1 a1_0 a1_1 a1_2 a1_3 a1_4 a1_5 = some r) ∧ Aside0 (kq ≤ k) ∧ Aside0 (w'.heap[gb729]? = some (.cells #[.int .i64 a1_0, .int .i64 a1_1, .int .i64 a1_2, .int .i64 a1_3, .int .i64 a1_4, .int .i64 a1_5] 100 (0, 0))) ∧ Aside0 (Below w.heap.size w w'))
 case atStart => exact ⟨(0), (sr_), H', ⟨Nat.le_refl _⟩, ⟨bk_ BK729.out⟩, ⟨bl_⟩⟩
 clear H'
 obtain ⟨x8_1, rfl, HA, HK1, BK729, HB⟩ := hrel
 cases gk with
 | zero => exact absurd HA.out (by simp [impl_Cond_132.l0])
 | succ k1 => ?_
 have H := HA.out
 clear HA
 simp only [impl_Cond_132.l0] at H
 by_cases c4 : x8_1 < (l0.length : Int)
 rotate_left
 ·rw [if_neg c4] at H
  have c4b0 := decide_eq_false c4
  clear c4
  obtain rfl := Option.some.inj H
  go_wp2
  repeat (go_quiet (fail); try go_wp2)
  go_ret
  exact ⟨er_, bl_⟩
 rw [if_pos c4] at H
 have c4b0 := decide_eq_true c4
 clear c4
 by_cases c5 : 0 ≤ x8_1
 rotate_left
 ·exact nn_ c5 H
 rw [if_pos c5] at H
 have c5b0 := decide_eq_true c5
 clear c5
 by_cases c6 : x8_1 < (l0.length : Int)
 rotate_left
 ·exact nn_ c6 H
 rw [if_pos c6] at H
 have c6b0 := decide_eq_true c6
 clear c6
 by_cases c7 : (a1_0 == ((rd_T100 l0 x8_1).f0) && ((a1_1 == ((rd_T100 l0 x8_1).f1.f0) && (a1_2 == ((rd_T100 l0 x8_1).f1.f1))) && (a1_3 == ((rd_T100 l0 x8_1).f2) && ((a1_4 == ((rd_T100 l0 x8_1).f3.f0) && (a1_5 == ((rd_T100 l0 x8_1).f3.f1))))))) = true
 ·rw [if_pos c7] at H
  have c7b0 : (a1_0 == ((rd_T100 l0 x8_1).f0) && ((a1_1 == ((rd_T100 l0 x8_1).f1.f0) && (a1_2 == ((rd_T100 l0 x8_1).f1.f1))) && (a1_3 == ((rd_T100 l0 x8_1).f2) && ((a1_4 == ((rd_T100 l0 x8_1).f3.f0) && (a1_5 == ((rd_T100 l0 x8_1).f3.f1))))))) = true := c7
  (try (have c7b1 : decide (a1_0 = ((rd_T100 l0 x8_1).f0) && ((a1_1 == ((rd_T100 l0 x8_1).f1.f0) && (a1_2 == ((rd_T100 l0 x8_1).f1.f1))) && (a1_3 == ((rd_T100 l0 x8_1).f2) && ((a1_4 == ((rd_T100 l0 x8_1).f3.f0) && (a1_5 == ((rd_T100 l0 x8_1).f3.f1))))))) = true := by simpa using c7))
  (try (have c7b2 : (a1_0 == ((rd_T100 l0 x8_1).f0) && ((a1_1 == ((rd_T100 l0 x8_1).f1.f0) && (a1_2 == ((rd_T100 l0 x8_1).f1.f1))) && (a1_3 == ((rd_T100 l0 x8_1).f2) && ((a1_4 == ((rd_T100 l0 x8_1).f3.f0) && (a1_5 == ((rd_T100 l0 x8_1).f3.f1))))))) = true := by simpa using c7))
  clear c7
  obtain rfl := Option.some.inj H
  obtain ⟨hcz8_0, hcz8_1, hcz8_2, hcz8_3, hcz8_4, hcz8_5, hfz8_0, hfz8_1, hfz8_2, hfz8_3, hfz8_4, hfz8_5⟩ := cf6_ BK729.out
  have p730 : 0 ≤ (x8_1 : Int) := of_decide_eq_true as_
  have q730 : x8_1 < (l0.length : Int) := of_decide_eq_true as_
  obtain ⟨ad730, e730, hx730_0, hx730_1, hx730_2, hx730_3, hx730_4, hx730_5⟩ := at_T100 HR0.out x8_1 p730 q730
  cases e730
  replace hx730_0 := (HB.out.cell (World.block_lt_of_cell? w _ hx730_0)).trans hx730_0
  replace hx730_1 := (HB.out.cell (World.block_lt_of_cell? w _ hx730_1)).trans hx730_1
  replace hx730_2 := (HB.out.cell (World.block_lt_of_cell? w _ hx730_2)).trans hx730_2
  replace hx730_3 := (HB.out.cell (World.block_lt_of_cell? w _ hx730_3)).trans hx730_3
  replace hx730_4 := (HB.out.cell (World.block_lt_of_cell? w _ hx730_4)).trans hx730_4
  replace hx730_5 := (HB.out.cell (World.block_lt_of_cell? w _ hx730_5)).trans hx730_5
  replace p730 := eq_true p730
  replace q730 := eq_true q730
  go_wp2
  repeat (go_quiet (fail); try go_wp2)
  go_ret
  exact ⟨er_, bl_⟩
 rw [if_neg c7] at H
 have c7b0 : (a1_0 == ((rd_T100 l0 x8_1).f0) && ((a1_1 == ((rd_T100 l0 x8_1).f1.f0) && (a1_2 == ((rd_T100 l0 x8_1).f1.f1))) && (a1_3 == ((rd_T100 l0 x8_1).f2) && ((a1_4 == ((rd_T100 l0 x8_1).f3.f0) && (a1_5 == ((rd_T100 l0 x8_1).f3.f1))))))) = false := by simpa using c7
 (try (have c7b1 : decide (a1_0 = ((rd_T100 l0 x8_1).f0) && ((a1_1 == ((rd_T100 l0 x8_1).f1.f0) && (a1_2 == ((rd_T100 l0 x8_1).f1.f1))) && (a1_3 == ((rd_T100 l0 x8_1).f2) && ((a1_4 == ((rd_T100 l0 x8_1).f3.f0) && (a1_5 == ((rd_T100 l0 x8_1).f3.f1))))))) = false := by simpa using c7))
 (try (have c7b2 : (a1_0 == ((rd_T100 l0 x8_1).f0) && ((a1_1 == ((rd_T100 l0 x8_1).f1.f0) && (a1_2 == ((rd_T100 l0 x8_1).f1.f1))) && (a1_3 == ((rd_T100 l0 x8_1).f2) && ((a1_4 == ((rd_T100 l0 x8_1).f3.f0) && (a1_5 == ((rd_T100 l0 x8_1).f3.f1))))))) = false := by simpa using c7))
 (try (have c7b3 : ¬ (a1_0 = ((rd_T100 l0 x8_1).f0) && ((a1_1 == ((rd_T100 l0 x8_1).f1.f0) && (a1_2 == ((rd_T100 l0 x8_1).f1.f1))) && (a1_3 == ((rd_T100 l0 x8_1).f2) && ((a1_4 == ((rd_T100 l0 x8_1).f3.f0) && (a1_5 == ((rd_T100 l0 x8_1).f3.f1))))))) := by simpa using c7))
 clear c7
 have H' := Aside0.mk H
 clear H
 obtain ⟨hcz9_0, hcz9_1, hcz9_2, hcz9_3, hcz9_4, hcz9_5, hfz9_0, hfz9_1, hfz9_2, hfz9_3, hfz9_4, hfz9_5⟩ := cf6_ BK729.out
 have p730 : 0 ≤ (x8_1 : Int) := of_decide_eq_true as_
 have q730 : x8_1 < (l0.length : Int) := of_decide_eq_true as_
 obtain ⟨ad730, e730, hx730_0, hx730_1, hx730_2, hx730_3, hx730_4, hx730_5⟩ := at_T100 HR0.out x8_1 p730 q730
 cases e730
 replace hx730_0 := (HB.out.cell (World.block_lt_of_cell? w _ hx730_0)).trans hx730_0
 replace hx730_1 := (HB.out.cell (World.block_lt_of_cell? w _ hx730_1)).trans hx730_1
 replace hx730_2 := (HB.out.cell (World.block_lt_of_cell? w _ hx730_2)).trans hx730_2
 replace hx730_3 := (HB.out.cell (World.block_lt_of_cell? w _ hx730_3)).trans hx730_3
 replace hx730_4 := (HB.out.cell (World.block_lt_of_cell? w _ hx730_4)).trans hx730_4
 replace hx730_5 := (HB.out.cell (World.block_lt_of_cell? w _ hx730_5)).trans hx730_5
 replace p730 := eq_true p730
 replace q730 := eq_true q730
 go_wp2
 repeat (go_quiet (fail); try go_wp2)
 go_roundg k1
 case measure => have := HK1.out; omega
 case rel => exact ⟨(wrap64 (x8_1 + 1)), (sr_), H', ⟨by have := HK1.out; omega⟩, ⟨bk_ BK729.out⟩, ⟨bl_⟩⟩


def impl_Cond_114.f (k : Nat) (l0 : List (S100)) (a1_0 : Int) (a1_1 : Int) (a1_2 : Int) (a1_3 : Int) (a1_4 : Int) (a1_5 : Int) : Option (Bool) := (impl_Cond_132.f k l0 a1_0 a1_1 a1_2 a1_3 a1_4 a1_5).bind fun t732 => (some (decide (t732 ≥ 0)))
theorem impl_Cond_114.mono : ∀ a0 a1 a2 a3 a4 a5 a6 k, LeO (impl_Cond_114.f k a0 a1 a2 a3 a4 a5 a6) (impl_Cond_114.f (k + 1) a0 a1 a2 a3 a4 a5 a6) := by
 intro a0 a1 a2 a3 a4 a5 a6 k
 unfold impl_Cond_114.f
 have m0 := @impl_Cond_132.mono
 exact mo_
theorem impl_Cond_114.calls (k : Nat) (A0 : Option Addr) (c0 : Nat) (l0 : List (S100)) (a1_0 : Int) (a1_1 : Int) (a1_2 : Int) (a1_3 : Int) (a1_4 : Int) (a1_5 : Int) (r : Bool) (w : World) (hr0 : Kd.C k100 w A0 l0.length l0) (hc0 : l0.length ≤ c0) (h : impl_Cond_114.f k l0 a1_0 a1_1 a1_2 a1_3 a1_4 a1_5 = some r) :
 Calls Try.prog 114 #[.slice A0 l0.length c0, .agg #[.int .i64 a1_0, .int .i64 a1_1, .int .i64 a1_2, .int .i64 a1_3, .int .i64 a1_4, .int .i64 a1_5]] w fun e w' => e = .returned (.bool r) ∧ Below w.heap.size w w' := by
 have hu100 := Try.underlying100
 have HR0 := Aside0.mk hr0
 have HC0 := Aside0.mk hc0
 clear hr0 hc0
 have HB := Aside0.mk (Below.refl w.heap.size w)
 have H := h
 unfold impl_Cond_114.f at H
 clear h
 replace H := bs_ H
 obtain ⟨t732, A3, H⟩ := H
 try dsimp only at H
 obtain rfl := Option.some.inj H
 go_enter Try.func114, Try.ntmps114
 go_wp2_with (first | ((with_reducible refine gate_dst (N := 3) rfl ?_); refine bx_ 3 100 #[.int .i64 a1_0, .int .i64 a1_1, .int .i64 a1_2, .int .i64 a1_3, .int .i64 a1_4, .int .i64 a1_5] ?_; intro gb731 hg w4 hbox hb; have BK731 := Aside0.mk (hbox); have GW731 := Aside0.mk ((hz_ : w.heap.size ≤ gb731)); have GE731 := GW731; replace HB := Aside0.mk (below_step bl_ hb); clear hb hbox hg; obtain ⟨hcz5_0, hcz5_1, hcz5_2, hcz5_3, hcz5_4, hcz5_5, hfz5_0, hfz5_1, hfz5_2, hfz5_3, hfz5_4, hfz5_5⟩ := cf6_ BK731.out) | ((with_reducible refine gate_callee (f := 132) rfl ?_); refine gs_ (some 7) Try.func132 #[.slice A0 l0.length c0, .agg #[.int .i64 a1_0, .int .i64 a1_1, .int .i64 a1_2, .int .i64 a1_3, .int .i64 a1_4, .int .i64 a1_5]] ?_; (with_reducible refine (impl_Cond_132.calls k _ _ l0 a1_0 a1_1 a1_2 a1_3 a1_4 a1_5 t732 _ ?side1 ?side2 A3.out).mono ?_); (case side1 => exact cb_ HR0.out HB.out); (case side2 => exact HC0.out); rintro e w6 ⟨rfl, hb⟩; refine ⟨_, rfl, ?_⟩; replace BK731 := bb0_ BK731.out hb; replace HB := Aside0.mk (below_step bl_ hb); (try clear hb)))
 go_ret
 exact ⟨er_, bl_⟩


mutual
def impl_covers.l0 : Nat → List (S100) → Int → Int → List Int → List (S100) → Int → Int → List Int → List (S100) → Int → Int → Option (Bool)
 | 0, _, _, _, _, _, _, _, _, _, _, _ => none
 | k + 1, x10, x11, x12, x734000, x734001, x734002, x734003, x735000, x735001, x735002, x735003 => if x12 < x11 then (if 0 ≤ x12 then (if x12 < (x10.length : Int) then ((impl_Cond_114.f k x735001 ((rd_T100 x10 x12).f0) ((rd_T100 x10 x12).f1.f0) ((rd_T100 x10 x12).f1.f1) ((rd_T100 x10 x12).f2) ((rd_T100 x10 x12).f3.f0) ((rd_T100 x10 x12).f3.f1)).bind fun t737 => (if t737 = true then (impl_covers.l0 k x10 x11 (wrap64 (x12 + 1)) x734000 x734001 x734002 x734003 x735000 x735001 x735002 x735003) else (some false))) else (none)) else (none)) else (if (x734000.length : Int) = 0 then (some true) else (impl_covers.l1 k x735000 (x735000.length : Int) 0 x734000 x734001 x734002 x734003 x735000 x735001 x735002 x735003))
def impl_covers.l1 : Nat → List Int → Int → Int → List Int → List (S100) → Int → Int → List Int → List (S100) → Int → Int → Option (Bool)
 | 0, _, _, _, _, _, _, _, _, _, _, _ => none
 | k + 1, x27, x28, x29, x734000, x734001, x734002, x734003, x735000, x735001, x735002, x735003 => if x29 < x28 then (if 0 ≤ x29 then (if x29 < (x27.length : Int) then ((slices_Contains_int_int.f k x734000 (rd x27 x29)).bind fun t739 => (if t739 = true then (impl_covers.l1 k x27 x28 (wrap64 (x29 + 1)) x734000 x734001 x734002 x734003 x735000 x735001 x735002 x735003) else (some false))) else (none)) else (none)) else (some (decide ((x735000.length : Int) > 0)))
end
def impl_covers.f (k : Nat) (l0_0 : List Int) (l0_1 : List (S100)) (a0_2 : Int) (a0_3 : Int) (l1_0 : List Int) (l1_1 : List (S100)) (a1_2 : Int) (a1_3 : Int) : Option (Bool) := impl_covers.l0 k l0_1 (l0_1.length : Int) 0 l0_0 l0_1 a0_2 a0_3 l1_0 l1_1 a1_2 a1_3
theorem impl_covers.mono_l : ∀ k, (∀ y0 y1 y2 y3 y4 y5 y6 y7 y8 y9 y10, LeO (impl_covers.l0 k y0 y1 y2 y3 y4 y5 y6 y7 y8 y9 y10) (impl_covers.l0 (k + 1) y0 y1 y2 y3 y4 y5 y6 y7 y8 y9 y10)) ∧ (∀ y0 y1 y2 y3 y4 y5 y6 y7 y8 y9 y10, LeO (impl_covers.l1 k y0 y1 y2 y3 y4 y5 y6 y7 y8 y9 y10) (impl_covers.l1 (k + 1) y0 y1 y2 y3 y4 y5 y6 y7 y8 y9 y10))
 | 0 => ⟨fun _ _ _ _ _ _ _ _ _ _ _ r h => by simp [impl_covers.l0] at h, fun _ _ _ _ _ _ _ _ _ _ _ r h => by simp [impl_covers.l1] at h⟩
 | k + 1 => by
  obtain ⟨ih0, ih1⟩ := impl_covers.mono_l k
  refine ⟨?_, ?_⟩
  ·intro y0 y1 y2 y3 y4 y5 y6 y7 y8 y9 y10
   unfold impl_covers.l0
   have m0 := @impl_Cond_114.mono
   have m1 := @slices_Contains_int_int.mono
   exact mo_
  ·intro y0 y1 y2 y3 y4 y5 y6 y7 y8 y9 y10
   unfold impl_covers.l1
   have m0 := @impl_Cond_114.mono
   have m1 := @slices_Contains_int_int.mono
   exact mo_
theorem impl_covers.mono : ∀ a0 a1 a2 a3 a4 a5 a6 a7 k, LeO (impl_covers.f k a0 a1 a2 a3 a4 a5 a6 a7) (impl_covers.f (k + 1) a0 a1 a2 a3 a4 a5 a6 a7) := by
 intro a0 a1 a2 a3 a4 a5 a6 a7 k
 obtain ⟨ih0, ih1⟩ := impl_covers.mono_l k
 unfold impl_covers.f
 have m0 := @impl_Cond_114.mono
 have m1 := @slices_Contains_int_int.mono
 exact mo_
theorem impl_covers.calls (k : Nat) (A0_0 : Option Addr) (c0_0 : Nat) (l0_0 : List Int) (A0_1 : Option Addr) (c0_1 : Nat) (l0_1 : List (S100)) (a0_2 : Int) (a0_3 : Int) (A1_0 : Option Addr) (c1_0 : Nat) (l1_0 : List Int) (A1_1 : Option Addr) (c1_1 : Nat) (l1_1 : List (S100)) (a1_2 : Int) (a1_3 : Int) (r : Bool) (w : World) (hr0_0 : Kd.C (Kd.int .i64) w A0_0 l0_0.length l0_0) (hc0_0 : l0_0.length ≤ c0_0) (hr0_1 : Kd.C k100 w A0_1 l0_1.length l0_1) (hc0_1 : l0_1.length ≤ c0_1) (hr1_0 : Kd.C (Kd.int .i64) w A1_0 l1_0.length l1_0) (hc1_0 : l1_0.length ≤ c1_0) (hr1_1 : Kd.C k100 w A1_1 l1_1.length l1_1) (hc1_1 : l1_1.length ≤ c1_1) (h : impl_covers.f k l0_0 l0_1 a0_2 a0_3 l1_0 l1_1 a1_2 a1_3 = some r) :
 Calls Try.prog 80 #[.agg #[.slice A0_0 l0_0.length c0_0, .slice A0_1 l0_1.length c0_1, .int .i64 a0_2, .int .i64 a0_3], .agg #[.slice A1_0 l1_0.length c1_0, .slice A1_1 l1_1.length c1_1, .int .i64 a1_2, .int .i64 a1_3]] w fun e w' => e = .returned (.bool r) ∧ Below w.heap.size w w' := by
 have hu53 := Try.underlying53
 have hu100 := Try.underlying100
 have HR0_0 := Aside0.mk hr0_0
 have HC0_0 := Aside0.mk hc0_0
 clear hr0_0 hc0_0
 have HR0_1 := Aside0.mk hr0_1
 have HC0_1 := Aside0.mk hc0_1
 clear hr0_1 hc0_1
 have HR1_0 := Aside0.mk hr1_0
 have HC1_0 := Aside0.mk hc1_0
 clear hr1_0 hc1_0
 have HR1_1 := Aside0.mk hr1_1
 have HC1_1 := Aside0.mk hc1_1
 clear hr1_1 hc1_1
 have HB := Aside0.mk (Below.refl w.heap.size w)
 have H := h
 unfold impl_covers.f at H
 clear h
 have H' := Aside0.mk H
 clear H
 go_enter Try.func80, Try.ntmps80
 go_wp2_with (first | ((with_reducible refine gate_dst (N := 2) rfl ?_); refine bx_ 2 53 #[.slice A0_0 l0_0.length c0_0, .slice A0_1 l0_1.length c0_1, .int .i64 a0_2, .int .i64 a0_3] ?_; intro gb733 hg w3 hbox hb; have BK733 := Aside0.mk (hbox); have GW733 := Aside0.mk ((hz_ : w.heap.size ≤ gb733)); have GE733 := GW733; replace HB := Aside0.mk (below_step bl_ hb); clear hb hbox hg) | ((with_reducible refine gate_dst (N := 3) rfl ?_); refine bx_ 3 53 #[.slice A1_0 l1_0.length c1_0, .slice A1_1 l1_1.length c1_1, .int .i64 a1_2, .int .i64 a1_3] ?_; intro gb734 hg w4 hbox hb; have BK734 := Aside0.mk (hbox); have GW734 := Aside0.mk ((hz_ : w.heap.size ≤ gb734)); have GE734 := GW734; replace HB := Aside0.mk (below_step bl_ hb); have NB733_734 := Aside0.mk (nl_ BK733.out hg); have NB734_733 := Aside0.mk (ng_ BK733.out hg); replace BK733 := bb0_ BK733.out hb; clear hb hbox hg; have hnb5 := NB733_734.out; have hnc5 := NB734_733.out; obtain ⟨hcz6_0, hcz6_1, hcz6_2, hcz6_3, hfz6_0, hfz6_1, hfz6_2, hfz6_3⟩ := cf4_ BK733.out))
 go_loopg [12] k (fun kq v12 w' => ∃ (x12_1 : Int), v12 = .int .i64 x12_1 ∧ Aside0 (impl_covers.l0 kq l0_1 (l0_1.length : Int) x12_1 l0_0 l0_1 a0_2 a0_3 l1_0 l1_1 a1_2 a1_3 = some r) ∧ Aside0 (kq ≤ k) ∧ Aside0 (w'.heap[gb733]? = some (.cells #[(.slice A0_0 l0_0.length c0_0), (.slice A0_1 l0_1.length c0_1), .int .i64 a0_2, .int .i64 a0_3] 53 (0, 0))) ∧ Aside0 (w'.heap[gb734]? = some (.cells #[(.slice A1_0 l1_0.length c1_0), (.slice A1_1 l1_1.length c1_1), .int .i64 a1_2, .int .i64 a1_3] 53 (0, 0))) ∧ Aside0 (Below w.heap.size w w'))
 case atStart => exact ⟨(0), (sr_), H', ⟨Nat.le_refl _⟩, ⟨bk_ BK733.out⟩, ⟨bk_ BK734.out⟩, ⟨bl_⟩⟩
 clear H'
 try clear hcz6_0
 try clear hcz6_1
 try clear hcz6_2
 try clear hcz6_3
 try clear hfz6_0
 try clear hfz6_1
 try clear hfz6_2
 try clear hfz6_3
 obtain ⟨x12_1, rfl, HA, HK1, BK733, BK734, HB⟩ := hrel
 cases gk with
 | zero => exact absurd HA.out (by simp [impl_covers.l0])
 | succ k1 => ?_
 have H := HA.out
 clear HA
 simp only [impl_covers.l0] at H
 by_cases c7 : x12_1 < (l0_1.length : Int)
 ·rw [if_pos c7] at H
  have c7b0 := decide_eq_true c7
  clear c7
  by_cases c8 : 0 ≤ x12_1
  rotate_left
  ·exact nn_ c8 H
  rw [if_pos c8] at H
  have c8b0 := decide_eq_true c8
  clear c8
  by_cases c9 : x12_1 < (l0_1.length : Int)
  rotate_left
  ·exact nn_ c9 H
  rw [if_pos c9] at H
  have c9b0 := decide_eq_true c9
  clear c9
  replace H := bs_ H
  obtain ⟨t737, A10, H⟩ := H
  try dsimp only at H
  by_cases c11 : t737 = true
  rotate_left
  ·replace c11 := Bool.eq_false_iff.mpr c11
   subst c11
   rw [nf_] at H
   obtain rfl := Option.some.inj H
   have p735 : 0 ≤ (x12_1 : Int) := of_decide_eq_true as_
   have q735 : x12_1 < (l0_1.length : Int) := of_decide_eq_true as_
   obtain ⟨ad735, e735, hx735_0, hx735_1, hx735_2, hx735_3, hx735_4, hx735_5⟩ := at_T100 HR0_1.out x12_1 p735 q735
   cases e735
   replace hx735_0 := (HB.out.cell (World.block_lt_of_cell? w _ hx735_0)).trans hx735_0
   replace hx735_1 := (HB.out.cell (World.block_lt_of_cell? w _ hx735_1)).trans hx735_1
   replace hx735_2 := (HB.out.cell (World.block_lt_of_cell? w _ hx735_2)).trans hx735_2
   replace hx735_3 := (HB.out.cell (World.block_lt_of_cell? w _ hx735_3)).trans hx735_3
   replace hx735_4 := (HB.out.cell (World.block_lt_of_cell? w _ hx735_4)).trans hx735_4
   replace hx735_5 := (HB.out.cell (World.block_lt_of_cell? w _ hx735_5)).trans hx735_5
   replace p735 := eq_true p735
   replace q735 := eq_true q735
   go_wp2_with (first | ((with_reducible refine gate_dst (N := 6) rfl ?_); refine bx_ 6 100 #[.int .i64 0, .int .i64 0, .int .i64 0, .int .i64 0, .int .i64 0, .int .i64 0] ?_; intro gb736 hg w19 hbox hb; have BK736 := Aside0.mk (hbox); have GW736 := Aside0.mk ((hz_ : w.heap.size ≤ gb736)); have GE736 := GW736; replace HB := Aside0.mk (below_step bl_ hb); have NB733_736 := Aside0.mk (nl_ BK733.out hg); have NB736_733 := Aside0.mk (ng_ BK733.out hg); replace BK733 := bb0_ BK733.out hb; have NB734_736 := Aside0.mk (nl_ BK734.out hg); have NB736_734 := Aside0.mk (ng_ BK734.out hg); replace BK734 := bb0_ BK734.out hb; clear hb hbox hg; have hnb20 := NB736_733.out; have hnc20 := NB733_736.out; have hnb21 := NB736_734.out; have hnc21 := NB734_736.out; obtain ⟨hcz22_0, hcz22_1, hcz22_2, hcz22_3, hcz22_4, hcz22_5, hfz22_0, hfz22_1, hfz22_2, hfz22_3, hfz22_4, hfz22_5⟩ := cf6_ BK736.out; have hnb23 := NB734_733.out; have hnc23 := NB733_734.out; obtain ⟨hcz24_0, hcz24_1, hcz24_2, hcz24_3, hfz24_0, hfz24_1, hfz24_2, hfz24_3⟩ := cf4_ BK734.out) | ((with_reducible refine gate_callee (f := 114) rfl ?_); refine gs_ (some 19) Try.func114 #[.slice A1_1 l1_1.length c1_1, .agg #[.int .i64 ((rd_T100 l0_1 x12_1).f0), .int .i64 ((rd_T100 l0_1 x12_1).f1.f0), .int .i64 ((rd_T100 l0_1 x12_1).f1.f1), .int .i64 ((rd_T100 l0_1 x12_1).f2), .int .i64 ((rd_T100 l0_1 x12_1).f3.f0), .int .i64 ((rd_T100 l0_1 x12_1).f3.f1)]] ?_; (with_reducible refine (impl_Cond_114.calls k1 _ _ l1_1 ((rd_T100 l0_1 x12_1).f0) ((rd_T100 l0_1 x12_1).f1.f0) ((rd_T100 l0_1 x12_1).f1.f1) ((rd_T100 l0_1 x12_1).f2) ((rd_T100 l0_1 x12_1).f3.f0) ((rd_T100 l0_1 x12_1).f3.f1) false _ ?side1 ?side2 A10.out).mono ?_); (case side1 => exact Kd.C_below HR1_1.out bl_); (case side2 => exact HC1_1.out); rintro e w25 ⟨rfl, hb⟩; refine ⟨_, rfl, ?_⟩; replace BK733 := bb1_ BK733.out NB733_736.out hb; replace BK734 := bb1_ BK734.out NB734_736.out hb; replace BK736 := Aside0.mk (blk_below (g := gb736) (o := .cells #[.int .i64 ((rd_T100 l0_1 x12_1).f0), .int .i64 ((rd_T100 l0_1 x12_1).f1.f0), .int .i64 ((rd_T100 l0_1 x12_1).f1.f1), .int .i64 ((rd_T100 l0_1 x12_1).f2), .int .i64 ((rd_T100 l0_1 x12_1).f3.f0), .int .i64 ((rd_T100 l0_1 x12_1).f3.f1)] 100 (0, 0)) (bp0_ BK736.out) hb); replace HB := Aside0.mk (below_step bl_ hb); (try clear hb)))
   go_ret
   exact ⟨er_, bl_⟩
  subst c11
  rw [if_pos rfl] at H
  have H' := Aside0.mk H
  clear H
  have p735 : 0 ≤ (x12_1 : Int) := of_decide_eq_true as_
  have q735 : x12_1 < (l0_1.length : Int) := of_decide_eq_true as_
  obtain ⟨ad735, e735, hx735_0, hx735_1, hx735_2, hx735_3, hx735_4, hx735_5⟩ := at_T100 HR0_1.out x12_1 p735 q735
  cases e735
  replace hx735_0 := (HB.out.cell (World.block_lt_of_cell? w _ hx735_0)).trans hx735_0
  replace hx735_1 := (HB.out.cell (World.block_lt_of_cell? w _ hx735_1)).trans hx735_1
  replace hx735_2 := (HB.out.cell (World.block_lt_of_cell? w _ hx735_2)).trans hx735_2
  replace hx735_3 := (HB.out.cell (World.block_lt_of_cell? w _ hx735_3)).trans hx735_3
  replace hx735_4 := (HB.out.cell (World.block_lt_of_cell? w _ hx735_4)).trans hx735_4
  replace hx735_5 := (HB.out.cell (World.block_lt_of_cell? w _ hx735_5)).trans hx735_5
  replace p735 := eq_true p735
  replace q735 := eq_true q735
  go_wp2_with (first | ((with_reducible refine gate_dst (N := 6) rfl ?_); refine bx_ 6 100 #[.int .i64 0, .int .i64 0, .int .i64 0, .int .i64 0, .int .i64 0, .int .i64 0] ?_; intro gb736 hg w12 hbox hb; have BK736 := Aside0.mk (hbox); have GW736 := Aside0.mk ((hz_ : w.heap.size ≤ gb736)); have GE736 := GW736; replace HB := Aside0.mk (below_step bl_ hb); have NB733_736 := Aside0.mk (nl_ BK733.out hg); have NB736_733 := Aside0.mk (ng_ BK733.out hg); replace BK733 := bb0_ BK733.out hb; have NB734_736 := Aside0.mk (nl_ BK734.out hg); have NB736_734 := Aside0.mk (ng_ BK734.out hg); replace BK734 := bb0_ BK734.out hb; clear hb hbox hg; have hnb13 := NB736_733.out; have hnc13 := NB733_736.out; have hnb14 := NB736_734.out; have hnc14 := NB734_736.out; obtain ⟨hcz15_0, hcz15_1, hcz15_2, hcz15_3, hcz15_4, hcz15_5, hfz15_0, hfz15_1, hfz15_2, hfz15_3, hfz15_4, hfz15_5⟩ := cf6_ BK736.out; have hnb16 := NB734_733.out; have hnc16 := NB733_734.out; obtain ⟨hcz17_0, hcz17_1, hcz17_2, hcz17_3, hfz17_0, hfz17_1, hfz17_2, hfz17_3⟩ := cf4_ BK734.out) | ((with_reducible refine gate_callee (f := 114) rfl ?_); refine gs_ (some 19) Try.func114 #[.slice A1_1 l1_1.length c1_1, .agg #[.int .i64 ((rd_T100 l0_1 x12_1).f0), .int .i64 ((rd_T100 l0_1 x12_1).f1.f0), .int .i64 ((rd_T100 l0_1 x12_1).f1.f1), .int .i64 ((rd_T100 l0_1 x12_1).f2), .int .i64 ((rd_T100 l0_1 x12_1).f3.f0), .int .i64 ((rd_T100 l0_1 x12_1).f3.f1)]] ?_; (with_reducible refine (impl_Cond_114.calls k1 _ _ l1_1 ((rd_T100 l0_1 x12_1).f0) ((rd_T100 l0_1 x12_1).f1.f0) ((rd_T100 l0_1 x12_1).f1.f1) ((rd_T100 l0_1 x12_1).f2) ((rd_T100 l0_1 x12_1).f3.f0) ((rd_T100 l0_1 x12_1).f3.f1) true _ ?side1 ?side2 A10.out).mono ?_); (case side1 => exact Kd.C_below HR1_1.out bl_); (case side2 => exact HC1_1.out); rintro e w18 ⟨rfl, hb⟩; refine ⟨_, rfl, ?_⟩; replace BK733 := bb1_ BK733.out NB733_736.out hb; replace BK734 := bb1_ BK734.out NB734_736.out hb; replace BK736 := Aside0.mk (blk_below (g := gb736) (o := .cells #[.int .i64 ((rd_T100 l0_1 x12_1).f0), .int .i64 ((rd_T100 l0_1 x12_1).f1.f0), .int .i64 ((rd_T100 l0_1 x12_1).f1.f1), .int .i64 ((rd_T100 l0_1 x12_1).f2), .int .i64 ((rd_T100 l0_1 x12_1).f3.f0), .int .i64 ((rd_T100 l0_1 x12_1).f3.f1)] 100 (0, 0)) (bp0_ BK736.out) hb); replace HB := Aside0.mk (below_step bl_ hb); (try clear hb)))
  go_roundg k1
  case measure => have := HK1.out; omega
  case rel => exact ⟨(wrap64 (x12_1 + 1)), (sr_), H', ⟨by have := HK1.out; omega⟩, ⟨bk_ BK733.out⟩, ⟨bk_ BK734.out⟩, ⟨bl_⟩⟩
 rw [if_neg c7] at H
 have c7b0 := decide_eq_false c7
 clear c7
 by_cases c26 : (l0_0.length : Int) = 0
 ·rw [if_pos c26] at H
  have c26b0 : ((l0_0.length : Int) == 0) = true := beq_iff_eq.mpr c26
  have c26b1 : ((l0_0.length : Int) != 0) = false := bne_eq_false_iff_eq.mpr c26
  clear c26
  obtain rfl := Option.some.inj H
  have hnb27 := NB733_734.out
  have hnc27 := NB734_733.out
  obtain ⟨hcz28_0, hcz28_1, hcz28_2, hcz28_3, hfz28_0, hfz28_1, hfz28_2, hfz28_3⟩ := cf4_ BK733.out
  go_wp2
  go_ret
  exact ⟨er_, bl_⟩
 rw [if_neg c26] at H
 have c26b0 : ((l0_0.length : Int) == 0) = false := beq_eq_false_iff_ne.mpr c26
 have c26b1 : ((l0_0.length : Int) != 0) = true := bne_iff_ne.mpr c26
 have c26b2 : ¬ (l0_0 = []) := fun h_ => c26 (by rw [h_]; rfl)
 have H' := Aside0.mk H
 clear H
 have hnb29 := NB733_734.out
 have hnc29 := NB734_733.out
 obtain ⟨hcz30_0, hcz30_1, hcz30_2, hcz30_3, hfz30_0, hfz30_1, hfz30_2, hfz30_3⟩ := cf4_ BK733.out
 obtain ⟨hcz31_0, hcz31_1, hcz31_2, hcz31_3, hfz31_0, hfz31_1, hfz31_2, hfz31_3⟩ := cf4_ BK734.out
 go_wp2
 go_loopg [29] k1 (fun kq v29 w' => ∃ (x29_2 : Int), v29 = .int .i64 x29_2 ∧ Aside0 (impl_covers.l1 kq l1_0 (l1_0.length : Int) x29_2 l0_0 l0_1 a0_2 a0_3 l1_0 l1_1 a1_2 a1_3 = some r) ∧ Aside0 (kq ≤ k1) ∧ Aside0 (w'.heap[gb733]? = some (.cells #[(.slice A0_0 l0_0.length c0_0), (.slice A0_1 l0_1.length c0_1), .int .i64 a0_2, .int .i64 a0_3] 53 (0, 0))) ∧ Aside0 (w'.heap[gb734]? = some (.cells #[(.slice A1_0 l1_0.length c1_0), (.slice A1_1 l1_1.length c1_1), .int .i64 a1_2, .int .i64 a1_3] 53 (0, 0))) ∧ Aside0 (Below w.heap.size w w'))
 case atStart => exact ⟨(0), (sr_), H', ⟨Nat.le_refl _⟩, ⟨bk_ BK733.out⟩, ⟨bk_ BK734.out⟩, ⟨bl_⟩⟩
 clear H'
 try clear c7
 try clear c7b0
 try clear c26
 try clear c26b0
 try clear c26b1
 try clear c26b2
 try clear hcz30_0
 try clear hcz30_1
 try clear hcz30_2
 try clear hcz30_3
 try clear hcz31_0
 try clear hcz31_1
 try clear hcz31_2
 try clear hcz31_3
 try clear hcz6_0
 try clear hcz6_1
 try clear hcz6_2
 try clear hcz6_3
 try clear hfz30_0
 try clear hfz30_1
 try clear hfz30_2
 try clear hfz30_3
 try clear hfz31_0
 try clear hfz31_1
 try clear hfz31_2
 try clear hfz31_3
 try clear hfz6_0
 try clear hfz6_1
 try clear hfz6_2
 try clear hfz6_3
 obtain ⟨x29_2, rfl, HA, HK2, BK733, BK734, HB⟩ := hrel
 cases gk with
 | zero => exact absurd HA.out (by simp [impl_covers.l1])
 | succ k2 => ?_
 have H := HA.out
 clear HA
 simp only [impl_covers.l1] at H
 by_cases c32 : x29_2 < (l1_0.length : Int)
 rotate_left
 ·rw [if_neg c32] at H
  have c32b0 := decide_eq_false c32
  clear c32
  obtain rfl := Option.some.inj H
  have hnb41 := NB734_733.out
  have hnc41 := NB733_734.out
  obtain ⟨hcz42_0, hcz42_1, hcz42_2, hcz42_3, hfz42_0, hfz42_1, hfz42_2, hfz42_3⟩ := cf4_ BK734.out
  go_wp2
  go_ret
  exact ⟨er_, bl_⟩
 rw [if_pos c32] at H
 have c32b0 := decide_eq_true c32
 clear c32
 by_cases c33 : 0 ≤ x29_2
 rotate_left
 ·exact nn_ c33 H
 rw [if_pos c33] at H
 have c33b0 := decide_eq_true c33
 clear c33
 by_cases c34 : x29_2 < (l1_0.length : Int)
 rotate_left
 ·exact nn_ c34 H
 rw [if_pos c34] at H
 have c34b0 := decide_eq_true c34
 clear c34
 replace H := bs_ H
 obtain ⟨t739, A35, H⟩ := H
 try dsimp only at H
 by_cases c36 : t739 = true
 rotate_left
 ·replace c36 := Bool.eq_false_iff.mpr c36
  subst c36
  rw [nf_] at H
  obtain rfl := Option.some.inj H
  have p738 : 0 ≤ (x29_2 : Int) := of_decide_eq_true as_
  have q738 : x29_2 < (l1_0.length : Int) := of_decide_eq_true as_
  obtain ⟨ad738, e738, hx738_0⟩ := Kd.at_int HR1_0.out x29_2 p738 q738
  cases e738
  replace hx738_0 := (HB.out.cell (World.block_lt_of_cell? w _ hx738_0)).trans hx738_0
  replace p738 := eq_true p738
  replace q738 := eq_true q738
  have hnb39 := NB733_734.out
  have hnc39 := NB734_733.out
  obtain ⟨hcz40_0, hcz40_1, hcz40_2, hcz40_3, hfz40_0, hfz40_1, hfz40_2, hfz40_3⟩ := cf4_ BK733.out
  go_wp2_with (first | ((with_reducible refine gate_callee (f := 70) rfl ?_); refine gs_ (some 36) Try.func70 #[.slice A0_0 l0_0.length c0_0, .int .i64 (rd l1_0 x29_2)] ?_; (with_reducible refine (slices_Contains_int_int.calls k2 _ _ l0_0 (rd l1_0 x29_2) false _ ?side1 ?side2 A35.out).mono ?_); (case side1 => exact cb_ HR0_0.out HB.out); (case side2 => exact HC0_0.out); rintro e w' ⟨rfl, ⟨nd, rfl⟩⟩; refine ⟨_, rfl, ?_⟩))
  go_ret
  exact ⟨er_, bl_⟩
 subst c36
 rw [if_pos rfl] at H
 have H' := Aside0.mk H
 clear H
 have p738 : 0 ≤ (x29_2 : Int) := of_decide_eq_true as_
 have q738 : x29_2 < (l1_0.length : Int) := of_decide_eq_true as_
 obtain ⟨ad738, e738, hx738_0⟩ := Kd.at_int HR1_0.out x29_2 p738 q738
 cases e738
 replace hx738_0 := (HB.out.cell (World.block_lt_of_cell? w _ hx738_0)).trans hx738_0
 replace p738 := eq_true p738
 replace q738 := eq_true q738
 have hnb37 := NB733_734.out
 have hnc37 := NB734_733.out
 obtain ⟨hcz38_0, hcz38_1, hcz38_2, hcz38_3, hfz38_0, hfz38_1, hfz38_2, hfz38_3⟩ := cf4_ BK733.out
 go_wp2_with (first | ((with_reducible refine gate_callee (f := 70) rfl ?_); refine gs_ (some 36) Try.func70 #[.slice A0_0 l0_0.length c0_0, .int .i64 (rd l1_0 x29_2)] ?_; (with_reducible refine (slices_Contains_int_int.calls k2 _ _ l0_0 (rd l1_0 x29_2) true _ ?side1 ?side2 A35.out).mono ?_); (case side1 => exact cb_ HR0_0.out HB.out); (case side2 => exact HC0_0.out); rintro e w' ⟨rfl, ⟨nd, rfl⟩⟩; refine ⟨_, rfl, ?_⟩))
 go_roundg k2
 case measure => have := HK1.out; have := HK2.out; omega
 case rel => exact ⟨(wrap64 (x29_2 + 1)), (sr_), H', ⟨by have := HK1.out; have := HK2.out; omega⟩, ⟨bk_ BK733.out⟩, ⟨bk_ BK734.out⟩, ⟨bl_⟩⟩

end Go.Proofs.Ytjfmpodeenidnaa.PC

namespace Go.Proofs.Ytjfmpodeenidnaa.PC
open Go.RowKit Go.Proofs.Ytjfmpodeenidnaa.Short Go.Proofs.YtjfmpodeenidnaaW.PrintWords Go.Proofs.YtjfmpodeenidnaaW.PrintLast Go.Proofs.YtjfmpodeenidnaaW.PrintMore
set_option linter.unusedVariables false
set_option linter.unusedSimpArgs false
theorem hasFunc_calls (gf : Nat) (lb : Array Value) (eg : ∀ args w, (callFunc gf args).run Try.prog w = .ok (.enter gf args) w) (A : Option Addr) (n c : Nat) (rows : List (List Value)) (hlen : ∀ r ∈ rows, r.length = 4) (hn : rows.length = n) (hb : n ≤ 9223372036854775807) (q : Nat → Bool) (w : World)
 (hc : ∀ (j : Nat) (r : List Value), rows[j]? = some r → ∃ ad, A = some ad ∧ ad.block < w.heap.size ∧ ∀ (t : Nat) u, r[t]? = some u → w.cell? (ad.add (j * 4 + t)) = some u)
 (hp : ∀ (W : World) (j : Nat) (r : List Value), w.grownBy W none → rows[j]? = some r → Calls Try.prog gf (#[.agg r.toArray] ++ lb) W fun e w' => e = .returned (.bool (q j)) ∧ Below W.heap.size W w') :
 Calls Try.prog 78 #[.slice A n c, .func (.func gf) #[] lb] w fun e w' => e = .returned (.bool (decide (0 ≤ firstAt q n))) ∧ Below w.heap.size w w' := by
 have e108 : ∀ args w, (callFunc 108 args).run Try.prog w = .ok (.enter 108 args) w := enters_of Try.func108 (by kernel_rfl) rfl
 have hcall := idxFunc_calls gf lb eg A n c rows hlen hn hb q none w hc hp
 generalize firstAt q n = t at hcall ⊢
 clear hp hc
 go_enter Try.func78, Try.ntmps78
 go_wp2_with (go_at_call 108; refine hcall.mono ?_; rintro e w' ⟨rfl, hb'⟩)
 go_ret
 exact ⟨by rfl, hb'⟩
def covK (k : Nat) (x r : S53) : Option Bool := impl_covers.f k x.f0 x.f1 x.f2 x.f3 r.f0 r.f1 r.f2 r.f3
theorem covK_mono (k : Nat) (x r : S53) : LeO (covK k x r) (covK (k + 1) x r) := impl_covers.mono _ _ _ _ _ _ _ _ _
theorem shadPred_calls (k : Nat) (x r : S53) (cx cr : List Value) (b : Nat) (t : Bool) (W : World) (hx : k53.K W x cx) (hr : k53.K W r cr) (hb : W.heap[b]? = some (.cells cr.toArray 53 (0, 0))) (h : covK k x r = some t) :
 Calls Try.prog 79 #[.agg cx.toArray, .pointer (some ⟨b, 0, none⟩)] W fun e w' => e = .returned (.bool t) ∧ Below W.heap.size W w' := by
 have hk : impl_covers.f k x.f0 x.f1 x.f2 x.f3 r.f0 r.f1 r.f2 r.f3 = some t := h
 obtain ⟨A0, c0, A1, c1, rfl, l0, h0, l1, h1⟩ := k53_open hx
 obtain ⟨B0, d0, B1, d1, rfl, m0, g0, m1, g1⟩ := k53_open hr
 have hu53 := Try.underlying53
 have hlt := blk_lt hb
 have hne : b ≠ W.heap.size := by omega
 have hc0 : W.cell? ⟨b, 0, none⟩ = some (.slice B0 r.f0.length d0) := (blk_cell hb 0).trans rfl
 have hc1 : W.cell? ⟨b, 1, none⟩ = some (.slice B1 r.f1.length d1) := (blk_cell hb 1).trans rfl
 have hc2 : W.cell? ⟨b, 2, none⟩ = some (.int .i64 r.f2) := (blk_cell hb 2).trans rfl
 have hc3 : W.cell? ⟨b, 3, none⟩ = some (.int .i64 r.f3) := (blk_cell hb 3).trans rfl
 clear hb hx hr h
 have H0 := Aside0.mk h0
 have H1 := Aside0.mk h1
 have G0 := Aside0.mk g0
 have G1 := Aside0.mk g1
 clear h0 h1 g0 g1
 show Calls Try.prog 79 #[.agg #[.slice A0 x.f0.length c0, .slice A1 x.f1.length c1, .int .i64 x.f2, .int .i64 x.f3], .pointer (some ⟨b, 0, none⟩)] W _
 go_enter Try.func79, Try.ntmps79
 go_wp2_with (go_at_call 80; refine (impl_covers.calls k _ _ x.f0 _ _ x.f1 x.f2 x.f3 _ _ r.f0 _ _ r.f1 r.f2 r.f3 t _ ?s1 l0 ?s2 l1 ?s3 m0 ?s4 m1 hk).mono ?_; (case s1 => repeat (first | exact H0.out | refine Kd.C_alloc ?_ _ | refine Kd.C_drewN ?_ _ | refine Kd.C_drew ?_)); (case s2 => repeat (first | exact H1.out | refine Kd.C_alloc ?_ _ | refine Kd.C_drewN ?_ _ | refine Kd.C_drew ?_)); (case s3 => repeat (first | exact G0.out | refine Kd.C_alloc ?_ _ | refine Kd.C_drewN ?_ _ | refine Kd.C_drew ?_)); (case s4 => repeat (first | exact G1.out | refine Kd.C_alloc ?_ _ | refine Kd.C_drewN ?_ _ | refine Kd.C_drew ?_)); rintro e w' ⟨rfl, hb'⟩)
 go_ret
 exact ⟨by rfl, below_step (by repeat (first | exact Below.refl _ _ | apply below_alloc | apply pw_below_drewN | apply below_drew1)) hb'⟩
theorem firstAt_any (q : Nat → Bool) (n : Nat) : decide (0 ≤ firstAt q n) = (List.range n).any q := by
 unfold firstAt
 cases h : (List.range n).find? q with
 | none =>
  rw [List.find?_eq_none] at h
  have : (List.range n).any q = false := by
   rw [List.any_eq_false]
   exact h
  rw [this]
  rfl
 | some j =>
  have hj := List.find?_some h
  have hm := List.mem_of_find?_eq_some h
  have : (List.range n).any q = true := List.any_eq_true.2 ⟨j, hm, hj⟩
  rw [this]
  exact decide_eq_true (show (0 : Int) ≤ (j : Int) by omega)
theorem rows_of {A : Option Addr} {l : List S53} {w : World} (h : Kd.C k53 w A l.length l) : ∃ rows : List (List Value), rows.length = l.length ∧ ∀ (j : Nat) (r : List Value), rows[j]? = some r → r.length = 4 ∧ k53.K w (l.getD j z53) r ∧ ∃ ad, A = some ad ∧ ad.block < w.heap.size ∧ ∀ (t : Nat) u, r[t]? = some u → w.cell? (ad.add (j * 4 + t)) = some u := by
 have one : ∀ j, j < l.length → ∃ r : List Value, r.length = 4 ∧ k53.K w (l.getD j z53) r ∧ ∃ ad, A = some ad ∧ ad.block < w.heap.size ∧ ∀ (t : Nat) u, r[t]? = some u → w.cell? (ad.add (j * 4 + t)) = some u := by
  intro j hj
  obtain ⟨ad, c, e, hl, hK, hcc⟩ := Kd.C_get h z53 (j : Int) (by omega) (by omega)
  have hl4 : c.length = 4 := hl
  refine ⟨c, hl4, hK, ad, e, ?_, hcc⟩
  have := World.block_lt_of_cell? w _ (hcc 0 _ (List.getElem?_eq_getElem (by omega)))
  rwa [add_block] at this
 let f : Nat → List Value := fun j => if hj : j < l.length then Classical.choose (one j hj) else []
 refine ⟨(List.range l.length).map f, by simp, fun j r hr => ?_⟩
 have hj : j < l.length := by have := (List.getElem?_eq_some_iff.1 hr).1; simpa using this
 have : r = f j := by
  rw [List.getElem?_map, List.getElem?_range hj] at hr
  exact (Option.some.inj hr).symm
 rw [this]
 show (f j).length = 4 ∧ _
 have hf : f j = Classical.choose (one j hj) := dif_pos hj
 rw [hf]
 exact Classical.choose_spec (one j hj)
def anyO (k : Nat) (l : List S53) (i : Nat) : Option Bool := if (List.range i).all (fun j => (covK k (l.getD j z53) (l.getD i z53)).isSome) then some ((List.range i).any (fun j => (covK k (l.getD j z53) (l.getD i z53)).getD false)) else none
theorem shadCall (k : Nat) (l : List S53) (x5 : S53) (i c0 : Nat) (ad : Addr) (rows : List (List Value)) (w W5 : World) (g5 : Nat) (cr : List Value) (hB : Below w.heap.size w W5) (hrl : rows.length = l.length) (hi : i ≤ l.length) (hn : l.length ≤ 9223372036854775807)
 (hrows : ∀ (j : Nat) (r : List Value), rows[j]? = some r → r.length = 4 ∧ k53.K w (l.getD j z53) r ∧ ∃ ad_, some ad = some ad_ ∧ ad_.block < w.heap.size ∧ ∀ (t : Nat) u, r[t]? = some u → w.cell? (ad_.add (j * 4 + t)) = some u)
 (hK5 : k53.K w x5 cr) (hg5 : W5.heap[g5]? = some (.cells cr.toArray 53 (0, 0))) (q : Nat → Bool) (hq : ∀ j, j < i → covK k (l.getD j z53) x5 = some (q j)) :
 Calls Try.prog 78 #[.slice (some ad) i c0, .func (.func 79) #[] #[.pointer (some ⟨g5, 0, none⟩)]] W5 fun e w' => e = .returned (.bool (decide (0 ≤ firstAt q i))) ∧ Below W5.heap.size W5 w' := by
 have get : ∀ (j : Nat) (r : List Value), (rows.take i)[j]? = some r → j < i ∧ rows[j]? = some r := by
  intro j r h
  have hj : j < (rows.take i).length := (List.getElem?_eq_some_iff.1 h).1
  rw [List.length_take] at hj
  rw [List.getElem?_take, if_pos (by omega)] at h
  exact ⟨by omega, h⟩
 have e79 : ∀ args w, (callFunc 79 args).run Try.prog w = .ok (.enter 79 args) w := enters_of Try.func79 (by kernel_rfl) rfl
 refine hasFunc_calls 79 #[.pointer (some ⟨g5, 0, none⟩)] e79 (some ad) i c0 (rows.take i) ?_ (by rw [List.length_take]; omega) (by omega) q W5 ?_ ?_
 ·intro r hr
  obtain ⟨j, hj, rfl⟩ := List.getElem_of_mem hr
  have := get j _ (List.getElem?_eq_getElem hj)
  exact (hrows j _ this.2).1
 ·intro j r hr
  obtain ⟨_, _, ad_, he, hbl, hc⟩ := hrows j r (get j r hr).2
  exact ⟨ad_, he, Nat.lt_of_lt_of_le hbl hB.size, fun t u hu => (hB.cell (by rw [add_block]; exact hbl)).trans (hc t u hu)⟩
 ·intro W j r hW hr
  obtain ⟨hj, hr'⟩ := get j r hr
  obtain ⟨_, hK, _⟩ := hrows j r hr'
  have hB2 : Below w.heap.size w W := Below.trans hB ⟨hW.os, hW.tape, hW.output, hW.size, fun k hk => hW.block k (Nat.lt_of_lt_of_le hk hB.size) (by simp)⟩
  have hb2 : W.heap[g5]? = some (.cells cr.toArray 53 (0, 0)) := (hW.block g5 (blk_lt hg5) (by simp)).trans hg5
  exact shadPred_calls k (l.getD j z53) x5 r cr g5 (q j) W (k53.K_below hB2 hK) (k53.K_below hB2 hK5) hb2 (hq j hj)
theorem anyO_some {k : Nat} {l : List S53} {i : Nat} {t : Bool} (h : anyO k l i = some t) : (∀ j, j < i → covK k (l.getD j z53) (l.getD i z53) = some ((covK k (l.getD j z53) (l.getD i z53)).getD false)) ∧ decide (0 ≤ firstAt (fun j => (covK k (l.getD j z53) (l.getD i z53)).getD false) i) = t := by
 unfold anyO at h
 split at h
 ·rename_i ha
  refine ⟨fun j hj => ?_, ?_⟩
  ·have := List.all_eq_true.1 ha j (List.mem_range.2 hj)
   obtain ⟨b, hb⟩ := Option.isSome_iff_exists.1 this
   rw [hb]
   rfl
  ·rw [firstAt_any]
   exact Option.some.inj h
 ·cases h
def shadGo (k : Nat) (l : List S53) : Nat → Nat → List Int → Option (List Int)
 | 0, _, acc => some acc
 | d + 1, i, acc => (anyO k l i).bind fun t => if t = true then (if acc.length < 17592186044416 then shadGo k l d (i + 1) (acc ++ [(i : Int)]) else none) else shadGo k l d (i + 1) acc
def impl_Shadowed.f (k : Nat) (a0_0 : Int) (a0_1 : Int) (a0_2 : Int) (l0_3 : List (S53)) : Option (List Int) := (impl_PolicyOk.f k a0_0 a0_1 a0_2 l0_3).bind fun t => if t = true then shadGo k l0_3 l0_3.length 0 [] else some []
theorem anyO_mono (k : Nat) (l : List S53) (i : Nat) : LeO (anyO k l i) (anyO (k + 1) l i) := by
 intro r h
 have h0 := h
 unfold anyO at h ⊢
 split at h
 ·rename_i ha
  have e : ∀ j, j < i → covK (k + 1) (l.getD j z53) (l.getD i z53) = covK k (l.getD j z53) (l.getD i z53) := by
   intro j hj
   obtain ⟨b, hb⟩ := Option.isSome_iff_exists.1 (List.all_eq_true.1 ha j (List.mem_range.2 hj))
   rw [covK_mono k _ _ b hb, hb]
  have e1 : (List.range i).all (fun j => (covK (k + 1) (l.getD j z53) (l.getD i z53)).isSome) = true := List.all_eq_true.2 (fun j hj => by rw [e j (List.mem_range.1 hj)]; exact List.all_eq_true.1 ha j hj)
  rw [if_pos e1]
  rw [← h]
  congr 1
  rw [Bool.eq_iff_iff, List.any_eq_true, List.any_eq_true]
  exact ⟨fun ⟨j, hj, hc⟩ => ⟨j, hj, by rw [← e j (List.mem_range.1 hj)]; exact hc⟩, fun ⟨j, hj, hc⟩ => ⟨j, hj, by rw [e j (List.mem_range.1 hj)]; exact hc⟩⟩
 ·cases h
theorem shadGo_mono (k : Nat) (l : List S53) : ∀ d i acc, LeO (shadGo k l d i acc) (shadGo (k + 1) l d i acc) := by
 intro d
 induction d with
 | zero => intro i acc; exact LeO.refl _
 | succ d ih =>
  intro i acc
  unfold shadGo
  exact LeO.bind (anyO_mono k l i) (fun _ => LeO.ite (LeO.ite (ih _ _) (LeO.refl _)) (ih _ _))
theorem impl_Shadowed.mono : ∀ a0 a1 a2 a3 k, LeO (impl_Shadowed.f k a0 a1 a2 a3) (impl_Shadowed.f (k + 1) a0 a1 a2 a3) := by
 intro a0 a1 a2 a3 k
 unfold impl_Shadowed.f
 exact LeO.bind (impl_PolicyOk.mono _ _ _ _ _) (fun _ => LeO.ite (shadGo_mono _ _ _ _ _) (LeO.refl _))
theorem impl_Shadowed.calls (k : Nat) (a0_0 : Int) (a0_1 : Int) (a0_2 : Int) (A0_3 : Option Addr) (c0_3 : Nat) (l0_3 : List (S53)) (r : List Int) (w : World) (hr0_3 : Kd.C k53 w A0_3 l0_3.length l0_3) (hc0_3 : l0_3.length ≤ c0_3) (h : impl_Shadowed.f k a0_0 a0_1 a0_2 l0_3 = some r) :
 Calls Try.prog 31 #[.agg #[.int .i64 a0_0, .int .i64 a0_1, .int .i64 a0_2, .slice A0_3 l0_3.length c0_3]] w fun e w' => ∃ v0_ : Value, e = .returned (v0_) ∧ Kd.R (Kd.int .i64) 3 w' w.heap.size (fun _ => True) v0_ r ∧ Below w.heap.size w w' := by
 have hu36 := Try.underlying36
 have hu53 := Try.underlying53
 have HR := Aside0.mk hr0_3
 have HC := Aside0.mk hc0_3
 have HN := Aside0.mk (show l0_3.length ≤ 9223372036854775807 from hr0_3.2.1)
 clear hr0_3
 have HB := Aside0.mk (Below.refl w.heap.size w)
 unfold impl_Shadowed.f at h
 obtain ⟨t, A2_, H⟩ := Option.bind_eq_some_iff.mp h
 have A2 := Aside0.mk A2_
 clear A2_ h
 obtain ⟨y0, hy0⟩ : ∃ y_ : List Int, y_ = ([] : List Int) := ⟨_, rfl⟩
 have Ny := Aside0.mk hy0
 clear hy0
 go_enter Try.func31, Try.ntmps31
 cases t with
 | false =>
  obtain rfl := Option.some.inj H
  clear H
  go_wp2_with (first
   | ((with_reducible refine gate_dst (N := 1) rfl ?_); refine bx_ 1 36 #[.int .i64 a0_0, .int .i64 a0_1, .int .i64 a0_2, .slice A0_3 l0_3.length c0_3] ?_; intro gp hg w4 BK_ hb; have HB1 := Aside0.mk (below_step HB.out hb); have BK := Aside0.mk BK_; have GE := Aside0.mk (Nat.le_of_eq hg.symm); clear HB BK_ hb hg; have HB := HB1; clear HB1)
   | ((with_reducible refine gate_dst (N := 6) rfl ?_); refine Kd.R_lit (Kd.int .i64) _ 3 ?hg (N := 6) ?hd (xs := ([] : List Int)) (inner := []) (ok := fun _ => True) (okp := fun _ => True) ?hr ?hp (fun _ hk => hk) trivial (Below.refl _ _) (Nat.le_refl _) (by simp) ?_; (case hd => rfl); (case hg => rfl); (case hr => first | (go_simp; done) | (go_simp; rfl)); (case hp => exact (Reps.none _ _)); intro v3 w5 ho hb hg_ hnew_; clear hg_ hnew_; have HO := Aside0.mk (Kd.R_lower ho HB.out.size); have BK1 := Aside0.mk (blk_below BK.out hb); have HB1 := Aside0.mk (below_step HB.out hb); clear BK HB ho hb; have BK := BK1; have HB := HB1; clear BK1 HB1; have hcz_0 : w5.cell? ⟨gp, 0, none⟩ = some (.int .i64 a0_0) := (blk_cell BK.out 0).trans rfl; have hcz_1 : w5.cell? ⟨gp, 1, none⟩ = some (.int .i64 a0_1) := (blk_cell BK.out 1).trans rfl; have hcz_2 : w5.cell? ⟨gp, 2, none⟩ = some (.int .i64 a0_2) := (blk_cell BK.out 2).trans rfl; have hcz_3 : w5.cell? ⟨gp, 3, none⟩ = some (.slice A0_3 l0_3.length c0_3) := (blk_cell BK.out 3).trans rfl)
   | (go_at_call 56; refine (impl_PolicyOk.calls k a0_0 a0_1 a0_2 _ _ l0_3 false _ (Kd.C_below HR.out HB.out) HC.out A2.out).mono ?_; rintro e w8 ⟨rfl, hb⟩; have HO1 := Aside0.mk (Kd.R_below HO.out hb); have BK1 := Aside0.mk (blk_below BK.out hb); have HB1 := Aside0.mk (below_step HB.out hb); clear HO BK HB hb; have HO := HO1; have BK := BK1; have HB := HB1; clear HO1 BK1 HB1; have hcy_3 : w8.cell? ⟨gp, 3, none⟩ = some (.slice A0_3 l0_3.length c0_3) := (blk_cell BK.out 3).trans rfl))
  go_ret
  exact ⟨_, rfl, HO.out, HB.out⟩
 | true =>
  have H' := Aside0.mk (show shadGo k l0_3 l0_3.length 0 [] = some r from H)
  clear H
  obtain ⟨rows, hrl, hrows⟩ := rows_of HR.out
  have HRW := Aside0.mk hrows
  clear hrows
  go_wp2_with (first
   | ((with_reducible refine gate_dst (N := 1) rfl ?_); refine bx_ 1 36 #[.int .i64 a0_0, .int .i64 a0_1, .int .i64 a0_2, .slice A0_3 l0_3.length c0_3] ?_; intro gp hg w4 BK_ hb; have HB1 := Aside0.mk (below_step HB.out hb); have BK := Aside0.mk BK_; have GE := Aside0.mk (Nat.le_of_eq hg.symm); clear HB BK_ hb hg; have HB := HB1; clear HB1)
   | ((with_reducible refine gate_dst (N := 6) rfl ?_); refine Kd.R_lit (Kd.int .i64) _ 3 ?hg (N := 6) ?hd (xs := ([] : List Int)) (inner := []) (ok := fun _ => True) (okp := fun _ => True) ?hr ?hp (fun _ hk => hk) trivial (Below.refl _ _) (Nat.le_refl _) (by simp) ?_; (case hd => rfl); (case hg => rfl); (case hr => first | (go_simp; done) | (go_simp; rfl)); (case hp => exact (Reps.none _ _)); intro v3 w5 ho hb hg_ hnew_; clear hg_ hnew_; have HO := Aside0.mk (Kd.R_lower ho HB.out.size); have BK1 := Aside0.mk (blk_below BK.out hb); have HB1 := Aside0.mk (below_step HB.out hb); clear BK HB ho hb; have BK := BK1; have HB := HB1; clear BK1 HB1; have hcz_0 : w5.cell? ⟨gp, 0, none⟩ = some (.int .i64 a0_0) := (blk_cell BK.out 0).trans rfl; have hcz_1 : w5.cell? ⟨gp, 1, none⟩ = some (.int .i64 a0_1) := (blk_cell BK.out 1).trans rfl; have hcz_2 : w5.cell? ⟨gp, 2, none⟩ = some (.int .i64 a0_2) := (blk_cell BK.out 2).trans rfl; have hcz_3 : w5.cell? ⟨gp, 3, none⟩ = some (.slice A0_3 l0_3.length c0_3) := (blk_cell BK.out 3).trans rfl)
   | (go_at_call 56; refine (impl_PolicyOk.calls k a0_0 a0_1 a0_2 _ _ l0_3 true _ (Kd.C_below HR.out HB.out) HC.out A2.out).mono ?_; rintro e w8 ⟨rfl, hb⟩; have HO1 := Aside0.mk (Kd.R_below HO.out hb); have BK1 := Aside0.mk (blk_below BK.out hb); have HB1 := Aside0.mk (below_step HB.out hb); clear HO BK HB hb; have HO := HO1; have BK := BK1; have HB := HB1; clear HO1 BK1 HB1; have hcy_3 : w8.cell? ⟨gp, 3, none⟩ = some (.slice A0_3 l0_3.length c0_3) := (blk_cell BK.out 3).trans rfl))
  go_loopg [3, 14] l0_3.length (fun kq v3 v14 w' => ∃ (acc : List Int) (i : Nat), v14 = .int .i64 i ∧ i ≤ l0_3.length ∧ l0_3.length - i ≤ kq ∧ Aside0 (shadGo k l0_3 (l0_3.length - i) i acc = some r) ∧ Aside0 (Kd.R (Kd.int .i64) 3 w' w.heap.size (fun _ => True) v3 acc) ∧ Aside0 (w'.heap[gp]? = some (.cells #[.int .i64 a0_0, .int .i64 a0_1, .int .i64 a0_2, (.slice A0_3 l0_3.length c0_3)] 36 (0, 0))) ∧ Aside0 (Below w.heap.size w w'))
  case atStart => exact ⟨[], 0, rfl, Nat.zero_le _, by omega, H', ⟨ra_ HO.out⟩, ⟨bk_ BK.out⟩, ⟨by repeat (first | exact HB.out | apply below_alloc | apply pw_below_drewN | apply below_drew1)⟩⟩
  case round =>
   clear H' HO BK HB
   obtain ⟨acc, i, rfl, hi, hk, HA, HO, BK, HB⟩ := hrel
   by_cases hlt : i < l0_3.length
   ·have hltz : decide ((i : Int) < (l0_3.length : Int)) = true := decide_eq_true (by omega)
    obtain ⟨d, hd⟩ : ∃ d, l0_3.length - i = d + 1 := ⟨l0_3.length - i - 1, by omega⟩
    have H := HA.out
    rw [hd] at H
    simp only [shadGo] at H
    obtain ⟨t, ht, H⟩ := Option.bind_eq_some_iff.mp H
    have H' := Aside0.mk H
    clear H HA
    obtain ⟨r5, hr5⟩ : ∃ r5, rows[i]? = some r5 := ⟨rows[i]'(by omega), List.getElem?_eq_getElem (by omega)⟩
    obtain ⟨hl5, hK5, ad, had, hbl, hcell⟩ := HRW.out i r5 hr5
    subst had
    obtain ⟨hq, htq⟩ := anyO_some ht
    clear ht
    generalize l0_3.getD i z53 = x5 at hK5 hq htq
    obtain ⟨q, hqd⟩ : ∃ q : Nat → Bool, (fun j => (covK k (l0_3.getD j z53) x5).getD false) = q := ⟨_, rfl⟩
    rw [hqd] at htq
    have HQ := Aside0.mk (show ∀ j, j < i → covK k (l0_3.getD j z53) x5 = some (q j) by rw [← hqd]; exact hq)
    clear hq hqd
    have HTQ := Aside0.mk htq
    clear htq
    obtain ⟨A0, d0, A1, d1, rfl, _, _, _, _⟩ := k53_open hK5
    have hx_0 : wr.cell? (ad.add (i * 4)) = some (.slice A0 x5.f0.length d0) := (HB.out.cell (p := ad.add (i * 4 + 0)) (by rw [add_block]; exact hbl)).trans (hcell 0 (.slice A0 x5.f0.length d0) rfl)
    have hx_1 := (HB.out.cell (p := ad.add (i * 4 + 1)) (by rw [add_block]; exact hbl)).trans (hcell 1 (.slice A1 x5.f1.length d1) rfl)
    have hx_2 := (HB.out.cell (p := ad.add (i * 4 + 2)) (by rw [add_block]; exact hbl)).trans (hcell 2 (.int .i64 x5.f2) rfl)
    have hx_3 := (HB.out.cell (p := ad.add (i * 4 + 3)) (by rw [add_block]; exact hbl)).trans (hcell 3 (.int .i64 x5.f3) rfl)
    rw [add_field _ _ 1 (by omega)] at hx_1
    rw [add_field _ _ 2 (by omega)] at hx_2
    rw [add_field _ _ 3 (by omega)] at hx_3
    have p0 : (0 ≤ (i : Int)) = True := eq_true (by omega)
    have q0 : ((i : Int) < (l0_3.length : Int)) = True := eq_true (by omega)
    have p1 : decide (0 ≤ (i : Int)) = true := decide_eq_true (by omega)
    have q1 : ((i : Int) ≤ (l0_3.length : Int)) = True := eq_true (by omega)
    have q2 : ((i : Int) ≤ (c0_3 : Int)) = True := eq_true (by omega)
    have q3 : decide ((i : Int) ≤ (c0_3 : Int)) = true := decide_eq_true (by omega)
    have HK5 := Aside0.mk hK5
    have HBL := Aside0.mk hbl
    clear hK5 hbl hcell hr5 hl5
    obtain rfl : l0_3.length - (i + 1) = d := by omega
    clear hd
    have HLT := Aside0.mk hlt
    cases t with
    | true =>
     have H := H'.out
     clear H'
     rw [if_pos rfl] at H
     by_cases hlm : acc.length < 17592186044416
     ·rw [if_pos hlm] at H
      have LM := Aside0.mk hlm
      have H' := Aside0.mk H
      clear H hlm
      go_wp2_with (first
       | ((with_reducible refine gate_dst (N := 5) rfl ?_); refine bx_ 5 53 #[.slice none 0 0, .slice none 0 0, .int .i64 0, .int .i64 0] ?_; intro g5 hg w6 BK_ hb; have HO1 := Aside0.mk (Kd.R_below HO.out hb); have BK1 := Aside0.mk (blk_below BK.out hb); have HB1 := Aside0.mk (below_step HB.out hb); have B5 := Aside0.mk BK_; have GE5 := Aside0.mk (show w.heap.size ≤ g5 by rw [hg]; exact HB.out.size); have NE5 := Aside0.mk (show gp ≠ g5 by rw [hg]; exact Nat.ne_of_lt (blk_lt BK.out)); clear HO BK HB BK_ hb hg; have HO := HO1; have BK := BK1; have HB := HB1; clear HO1 BK1 HB1; have hne := NE5.out; have hne' := Ne.symm NE5.out; have hcz_0 := (blk_cell B5.out 0).trans rfl; have hcz_1 := (blk_cell B5.out 1).trans rfl; have hcz_2 := (blk_cell B5.out 2).trans rfl; have hcz_3 := (blk_cell B5.out 3).trans rfl; have hfz_0 := blk_frozen B5.out 0; have hfz_1 := blk_frozen B5.out 1; have hfz_2 := blk_frozen B5.out 2; have hfz_3 := blk_frozen B5.out 3; have hcy_3 : w6.cell? ⟨gp, 3, none⟩ = some (.slice (some ad) l0_3.length c0_3) := (blk_cell BK.out 3).trans rfl)
       | (go_at_call 78; have P := put4 (.slice A0 x5.f0.length d0) (.slice A1 x5.f1.length d1) (.int .i64 x5.f2) (.int .i64 x5.f3) B5.out; refine (shadCall k l0_3 x5 i c0_3 ad rows w _ g5 _ (below_set (below_set (below_set (below_set HB.out GE5.out) GE5.out) GE5.out) GE5.out) hrl hi HN.out HRW.out HK5.out P.1 q HQ.out).mono ?_; rintro e w9 ⟨rfl, hb⟩; rw [HTQ.out]; have HO1 := Aside0.mk (Kd.R_below (Kd.R_set (Kd.R_set (Kd.R_set (Kd.R_set HO.out B5.out (by decide) 0 (.slice A0 x5.f0.length d0)) (blk_put (cs := #[.slice none 0 0, .slice none 0 0, .int .i64 0, .int .i64 0]) B5.out 0 _ rfl) (by decide) 1 (.slice A1 x5.f1.length d1)) (blk_put (cs := #[.slice A0 x5.f0.length d0, .slice none 0 0, .int .i64 0, .int .i64 0]) (blk_put (cs := #[.slice none 0 0, .slice none 0 0, .int .i64 0, .int .i64 0]) B5.out 0 _ rfl) 1 _ rfl) (by decide) 2 (.int .i64 x5.f2)) (blk_put (cs := #[.slice A0 x5.f0.length d0, .slice A1 x5.f1.length d1, .int .i64 0, .int .i64 0]) (blk_put (cs := #[.slice A0 x5.f0.length d0, .slice none 0 0, .int .i64 0, .int .i64 0]) (blk_put (cs := #[.slice none 0 0, .slice none 0 0, .int .i64 0, .int .i64 0]) B5.out 0 _ rfl) 1 _ rfl) 2 _ rfl) (by decide) 3 (.int .i64 x5.f3)) hb); have BK1 := Aside0.mk (blk_below ((P.2 gp NE5.out).trans BK.out) hb); have HB1 := Aside0.mk (below_step (below_set (below_set (below_set (below_set HB.out GE5.out) GE5.out) GE5.out) GE5.out) hb); clear P HO BK HB hb B5; have HO := HO1; have BK := BK1; have HB := HB1; clear HO1 BK1 HB1)
       | ((with_reducible refine gate_builtin (b := .append) (xs := #[.tmp 25, .tmp 27]) rfl ?_); at_builtin; refine Kd.R_append (Kd.int .i64) (w0 := w) w.heap.size rfl (.tmp 25) (.tmp 27) 32 3 (.int .i64 0) 8 rfl Try.underlying32 info3 rfl (by decide) (by omega) u3 acc (i : Int) [.int .i64 (i : Int)] (fun _ => True) (fun _ => False) rfl rfl ?aP (fun _ hk => hk.elim) ?aF ?aO ?aB ?aS ?aL ?_; (case aP => exact rfl); (case aB => exact HB.out); (case aF => exact (fun _ _ => trivial)); (case aO => exact HO.out); (case aS => exact HB.out.size); (case aL => have := LM.out; omega); intro v28 w23 ho hb hg hat; have BK1 := Aside0.mk (blk_grown (g := gp) (o := .cells #[.int .i64 a0_0, .int .i64 a0_1, .int .i64 a0_2, .slice (some ad) l0_3.length c0_3] 36 (0, 0)) BK.out hg (Kd.R_ne HO.out BK.out (by decide))); have HB1 := Aside0.mk hb; have HO1 := Aside0.mk ho; clear BK HB HO; have BK := BK1; have HB := HB1; have HO := HO1; clear BK1 HB1 HO1 ho hb hg hat))
      go_roundg (l0_3.length - (i + 1))
      case measure => have := HLT.out; omega
      case rel => exact ⟨acc ++ [(i : Int)], i + 1, (by have hn_ := HN.out; have hl_ := HLT.out; rw [show wrap64 ((i : Int) + 1) = ((i + 1 : Nat) : Int) by unfold wrap64; omega]), HLT.out, Nat.le_refl _, H', HO, BK, HB⟩
     ·rw [if_neg hlm] at H
      cases H
    | false =>
     have H := H'.out
     clear H'
     rw [if_neg (by decide)] at H
     have H' := Aside0.mk H
     clear H
     go_wp2_with (first
      | ((with_reducible refine gate_dst (N := 5) rfl ?_); refine bx_ 5 53 #[.slice none 0 0, .slice none 0 0, .int .i64 0, .int .i64 0] ?_; intro g5 hg w6 BK_ hb; have HO1 := Aside0.mk (Kd.R_below HO.out hb); have BK1 := Aside0.mk (blk_below BK.out hb); have HB1 := Aside0.mk (below_step HB.out hb); have B5 := Aside0.mk BK_; have GE5 := Aside0.mk (show w.heap.size ≤ g5 by rw [hg]; exact HB.out.size); have NE5 := Aside0.mk (show gp ≠ g5 by rw [hg]; exact Nat.ne_of_lt (blk_lt BK.out)); clear HO BK HB BK_ hb hg; have HO := HO1; have BK := BK1; have HB := HB1; clear HO1 BK1 HB1; have hne := NE5.out; have hne' := Ne.symm NE5.out; have hcz_0 := (blk_cell B5.out 0).trans rfl; have hcz_1 := (blk_cell B5.out 1).trans rfl; have hcz_2 := (blk_cell B5.out 2).trans rfl; have hcz_3 := (blk_cell B5.out 3).trans rfl; have hfz_0 := blk_frozen B5.out 0; have hfz_1 := blk_frozen B5.out 1; have hfz_2 := blk_frozen B5.out 2; have hfz_3 := blk_frozen B5.out 3; have hcy_3 : w6.cell? ⟨gp, 3, none⟩ = some (.slice (some ad) l0_3.length c0_3) := (blk_cell BK.out 3).trans rfl)
      | (go_at_call 78; have P := put4 (.slice A0 x5.f0.length d0) (.slice A1 x5.f1.length d1) (.int .i64 x5.f2) (.int .i64 x5.f3) B5.out; refine (shadCall k l0_3 x5 i c0_3 ad rows w _ g5 _ (below_set (below_set (below_set (below_set HB.out GE5.out) GE5.out) GE5.out) GE5.out) hrl hi HN.out HRW.out HK5.out P.1 q HQ.out).mono ?_; rintro e w9 ⟨rfl, hb⟩; rw [HTQ.out]; have HO1 := Aside0.mk (Kd.R_below (Kd.R_set (Kd.R_set (Kd.R_set (Kd.R_set HO.out B5.out (by decide) 0 (.slice A0 x5.f0.length d0)) (blk_put (cs := #[.slice none 0 0, .slice none 0 0, .int .i64 0, .int .i64 0]) B5.out 0 _ rfl) (by decide) 1 (.slice A1 x5.f1.length d1)) (blk_put (cs := #[.slice A0 x5.f0.length d0, .slice none 0 0, .int .i64 0, .int .i64 0]) (blk_put (cs := #[.slice none 0 0, .slice none 0 0, .int .i64 0, .int .i64 0]) B5.out 0 _ rfl) 1 _ rfl) (by decide) 2 (.int .i64 x5.f2)) (blk_put (cs := #[.slice A0 x5.f0.length d0, .slice A1 x5.f1.length d1, .int .i64 0, .int .i64 0]) (blk_put (cs := #[.slice A0 x5.f0.length d0, .slice none 0 0, .int .i64 0, .int .i64 0]) (blk_put (cs := #[.slice none 0 0, .slice none 0 0, .int .i64 0, .int .i64 0]) B5.out 0 _ rfl) 1 _ rfl) 2 _ rfl) (by decide) 3 (.int .i64 x5.f3)) hb); have BK1 := Aside0.mk (blk_below ((P.2 gp NE5.out).trans BK.out) hb); have HB1 := Aside0.mk (below_step (below_set (below_set (below_set (below_set HB.out GE5.out) GE5.out) GE5.out) GE5.out) hb); clear P HO BK HB hb B5; have HO := HO1; have BK := BK1; have HB := HB1; clear HO1 BK1 HB1))
     go_roundg (l0_3.length - (i + 1))
     case measure => have := HLT.out; omega
     case rel => exact ⟨acc, i + 1, (by have hn_ := HN.out; have hl_ := HLT.out; rw [show wrap64 ((i : Int) + 1) = ((i + 1 : Nat) : Int) by unfold wrap64; omega]), HLT.out, Nat.le_refl _, H', HO, BK, HB⟩
   ·have hltz : decide ((i : Int) < (l0_3.length : Int)) = false := decide_eq_false (by omega)
    have hz : l0_3.length - i = 0 := by omega
    have H := HA.out
    rw [hz] at H
    obtain rfl := Option.some.inj H
    clear H HA
    go_wp2
    go_ret
    exact ⟨_, rfl, ra_ HO.out, by repeat (first | exact HB.out | apply below_alloc | apply pw_below_drewN | apply below_drew1)⟩
end Go.Proofs.Ytjfmpodeenidnaa.PC

namespace Go.Proofs.Ytjfmpodeenidnaa.PC
open Go.RowKit Go.Proofs.Ytjfmpodeenidnaa.Short Go.Proofs.YtjfmpodeenidnaaW.PrintWords Go.Proofs.YtjfmpodeenidnaaW.PrintLast Go.Proofs.YtjfmpodeenidnaaW.PrintMore
attribute [local go_sem] max2_int min2_int max_two min_two max_three min_three max_four min_four   -- for this text's walks alone
set_option linter.unusedVariables false
set_option linter.unusedSimpArgs false

attribute [local go_sem high] eqA100
def spec_l24HasCond.l0 : Nat → List (S100) → Int → Int → Int → Int → Int → Int → Int → Option (Bool)
 | 0, _, _, _, _, _, _, _, _ => none
 | k + 1, x0, x5, x741000, x741001, x741002, x741003, x741004, x741005 => if x5 < (x0.length : Int) then (if 0 ≤ x5 then (if (((rd_T100 x0 x5).f0) == x741000 && ((((rd_T100 x0 x5).f1.f0) == x741001 && (((rd_T100 x0 x5).f1.f1) == x741002)) && (((rd_T100 x0 x5).f2) == x741003 && ((((rd_T100 x0 x5).f3.f0) == x741004 && (((rd_T100 x0 x5).f3.f1) == x741005)))))) = true then (some true) else (spec_l24HasCond.l0 k x0 (wrap64 (x5 + 1)) x741000 x741001 x741002 x741003 x741004 x741005)) else (none)) else (some false)
def spec_l24HasCond.f (k : Nat) (l0 : List (S100)) (a1_0 : Int) (a1_1 : Int) (a1_2 : Int) (a1_3 : Int) (a1_4 : Int) (a1_5 : Int) : Option (Bool) := spec_l24HasCond.l0 k l0 0 a1_0 a1_1 a1_2 a1_3 a1_4 a1_5
theorem spec_l24HasCond.mono_l : ∀ k, (∀ y0 y1 y2 y3 y4 y5 y6 y7, LeO (spec_l24HasCond.l0 k y0 y1 y2 y3 y4 y5 y6 y7) (spec_l24HasCond.l0 (k + 1) y0 y1 y2 y3 y4 y5 y6 y7))
 | 0 => fun _ _ _ _ _ _ _ _ r h => by simp [spec_l24HasCond.l0] at h
 | k + 1 => by
  have ih0 := spec_l24HasCond.mono_l k
  ·intro y0 y1 y2 y3 y4 y5 y6 y7
   unfold spec_l24HasCond.l0
   exact mo_
theorem spec_l24HasCond.mono : ∀ a0 a1 a2 a3 a4 a5 a6 k, LeO (spec_l24HasCond.f k a0 a1 a2 a3 a4 a5 a6) (spec_l24HasCond.f (k + 1) a0 a1 a2 a3 a4 a5 a6) := by
 intro a0 a1 a2 a3 a4 a5 a6 k
 have ih0 := spec_l24HasCond.mono_l k
 unfold spec_l24HasCond.f
 exact mo_
theorem spec_l24HasCond.calls (k : Nat) (A0 : Option Addr) (c0 : Nat) (l0 : List (S100)) (a1_0 : Int) (a1_1 : Int) (a1_2 : Int) (a1_3 : Int) (a1_4 : Int) (a1_5 : Int) (r : Bool) (w : World) (hr0 : Kd.C k100 w A0 l0.length l0) (hc0 : l0.length ≤ c0) (h : spec_l24HasCond.f k l0 a1_0 a1_1 a1_2 a1_3 a1_4 a1_5 = some r) :
 Calls Try.prog 115 #[.slice A0 l0.length c0, .agg #[.int .i64 a1_0, .int .i64 a1_1, .int .i64 a1_2, .int .i64 a1_3, .int .i64 a1_4, .int .i64 a1_5]] w fun e w' => e = .returned (.bool r) ∧ Below w.heap.size w w' := by
 have hu100 := Try.underlying100
 have HR0 := Aside0.mk hr0
 have HC0 := Aside0.mk hc0
 clear hr0 hc0
 have HB := Aside0.mk (Below.refl w.heap.size w)
 have H := h
 unfold spec_l24HasCond.f at H
 clear h
 have H' := Aside0.mk H
 clear H
 go_enter Try.func115, Try.ntmps115
 go_wp2_with (((with_reducible refine gate_dst (N := 3) rfl ?_); refine bx_ 3 100 #[.int .i64 a1_0, .int .i64 a1_1, .int .i64 a1_2, .int .i64 a1_3, .int .i64 a1_4, .int .i64 a1_5] ?_; intro gb740 hg w3 hbox hb; have BK740 := Aside0.mk (hbox); have GW740 := Aside0.mk ((hz_ : w.heap.size ≤ gb740)); have GE740 := GW740; replace HB := Aside0.mk (below_step bl_ hb); clear hb hbox hg))
 repeat (go_quiet (fail); try go_wp2_with (fail))
 go_loopg [5] k (fun kq v5 w' => ∃ (x5_1 : Int), v5 = .int .i64 x5_1 ∧ Aside0 (spec_l24HasCond.l0 kq l0 x5_1 a1_0 a1_1 a1_2 a1_3 a1_4 a1_5 = some r) ∧ Aside0 (kq ≤ k) ∧ Aside0 (w'.heap[gb740]? = some (.cells #[.int .i64 a1_0, .int .i64 a1_1, .int .i64 a1_2, .int .i64 a1_3, .int .i64 a1_4, .int .i64 a1_5] 100 (0, 0))) ∧ Aside0 (Below w.heap.size w w'))
 case atStart => exact ⟨(0), (sr_), H', ⟨Nat.le_refl _⟩, ⟨bk_ BK740.out⟩, ⟨bl_⟩⟩
 clear H'
 obtain ⟨x5_1, rfl, HA, HK1, BK740, HB⟩ := hrel
 cases gk with
 | zero => exact absurd HA.out (by simp [spec_l24HasCond.l0])
 | succ k1 => ?_
 have H := HA.out
 clear HA
 simp only [spec_l24HasCond.l0] at H
 by_cases c4 : x5_1 < (l0.length : Int)
 rotate_left
 ·rw [if_neg c4] at H
  have c4b0 := decide_eq_false c4
  clear c4
  obtain rfl := Option.some.inj H
  go_wp2
  repeat (go_quiet (fail); try go_wp2)
  go_ret
  exact ⟨er_, bl_⟩
 rw [if_pos c4] at H
 have c4b0 := decide_eq_true c4
 clear c4
 by_cases c5 : 0 ≤ x5_1
 rotate_left
 ·exact nn_ c5 H
 rw [if_pos c5] at H
 have c5b0 := decide_eq_true c5
 clear c5
 by_cases c6 : (((rd_T100 l0 x5_1).f0) == a1_0 && ((((rd_T100 l0 x5_1).f1.f0) == a1_1 && (((rd_T100 l0 x5_1).f1.f1) == a1_2)) && (((rd_T100 l0 x5_1).f2) == a1_3 && ((((rd_T100 l0 x5_1).f3.f0) == a1_4 && (((rd_T100 l0 x5_1).f3.f1) == a1_5)))))) = true
 ·rw [if_pos c6] at H
  have c6b0 : (((rd_T100 l0 x5_1).f0) == a1_0 && ((((rd_T100 l0 x5_1).f1.f0) == a1_1 && (((rd_T100 l0 x5_1).f1.f1) == a1_2)) && (((rd_T100 l0 x5_1).f2) == a1_3 && ((((rd_T100 l0 x5_1).f3.f0) == a1_4 && (((rd_T100 l0 x5_1).f3.f1) == a1_5)))))) = true := c6
  (try (have c6b1 : decide (((rd_T100 l0 x5_1).f0) = a1_0 && ((((rd_T100 l0 x5_1).f1.f0) == a1_1 && (((rd_T100 l0 x5_1).f1.f1) == a1_2)) && (((rd_T100 l0 x5_1).f2) == a1_3 && ((((rd_T100 l0 x5_1).f3.f0) == a1_4 && (((rd_T100 l0 x5_1).f3.f1) == a1_5)))))) = true := by simpa using c6))
  (try (have c6b2 : (((rd_T100 l0 x5_1).f0) == a1_0 && ((((rd_T100 l0 x5_1).f1.f0) == a1_1 && (((rd_T100 l0 x5_1).f1.f1) == a1_2)) && (((rd_T100 l0 x5_1).f2) == a1_3 && ((((rd_T100 l0 x5_1).f3.f0) == a1_4 && (((rd_T100 l0 x5_1).f3.f1) == a1_5)))))) = true := by simpa using c6))
  clear c6
  obtain rfl := Option.some.inj H
  have p741 : 0 ≤ (x5_1 : Int) := of_decide_eq_true as_
  have q741 : x5_1 < (l0.length : Int) := of_decide_eq_true as_
  obtain ⟨ad741, e741, hx741_0, hx741_1, hx741_2, hx741_3, hx741_4, hx741_5⟩ := at_T100 HR0.out x5_1 p741 q741
  cases e741
  replace hx741_0 := (HB.out.cell (World.block_lt_of_cell? w _ hx741_0)).trans hx741_0
  replace hx741_1 := (HB.out.cell (World.block_lt_of_cell? w _ hx741_1)).trans hx741_1
  replace hx741_2 := (HB.out.cell (World.block_lt_of_cell? w _ hx741_2)).trans hx741_2
  replace hx741_3 := (HB.out.cell (World.block_lt_of_cell? w _ hx741_3)).trans hx741_3
  replace hx741_4 := (HB.out.cell (World.block_lt_of_cell? w _ hx741_4)).trans hx741_4
  replace hx741_5 := (HB.out.cell (World.block_lt_of_cell? w _ hx741_5)).trans hx741_5
  replace p741 := eq_true p741
  replace q741 := eq_true q741
  obtain ⟨hcz7_0, hcz7_1, hcz7_2, hcz7_3, hcz7_4, hcz7_5, hfz7_0, hfz7_1, hfz7_2, hfz7_3, hfz7_4, hfz7_5⟩ := cf6_ BK740.out
  go_wp2
  repeat (go_quiet (fail); try go_wp2)
  go_ret
  exact ⟨er_, bl_⟩
 rw [if_neg c6] at H
 have c6b0 : (((rd_T100 l0 x5_1).f0) == a1_0 && ((((rd_T100 l0 x5_1).f1.f0) == a1_1 && (((rd_T100 l0 x5_1).f1.f1) == a1_2)) && (((rd_T100 l0 x5_1).f2) == a1_3 && ((((rd_T100 l0 x5_1).f3.f0) == a1_4 && (((rd_T100 l0 x5_1).f3.f1) == a1_5)))))) = false := by simpa using c6
 (try (have c6b1 : decide (((rd_T100 l0 x5_1).f0) = a1_0 && ((((rd_T100 l0 x5_1).f1.f0) == a1_1 && (((rd_T100 l0 x5_1).f1.f1) == a1_2)) && (((rd_T100 l0 x5_1).f2) == a1_3 && ((((rd_T100 l0 x5_1).f3.f0) == a1_4 && (((rd_T100 l0 x5_1).f3.f1) == a1_5)))))) = false := by simpa using c6))
 (try (have c6b2 : (((rd_T100 l0 x5_1).f0) == a1_0 && ((((rd_T100 l0 x5_1).f1.f0) == a1_1 && (((rd_T100 l0 x5_1).f1.f1) == a1_2)) && (((rd_T100 l0 x5_1).f2) == a1_3 && ((((rd_T100 l0 x5_1).f3.f0) == a1_4 && (((rd_T100 l0 x5_1).f3.f1) == a1_5)))))) = false := by simpa using c6))
 (try (have c6b3 : ¬ (((rd_T100 l0 x5_1).f0) = a1_0 && ((((rd_T100 l0 x5_1).f1.f0) == a1_1 && (((rd_T100 l0 x5_1).f1.f1) == a1_2)) && (((rd_T100 l0 x5_1).f2) == a1_3 && ((((rd_T100 l0 x5_1).f3.f0) == a1_4 && (((rd_T100 l0 x5_1).f3.f1) == a1_5)))))) := by simpa using c6))
 clear c6
 have H' := Aside0.mk H
 clear H
 have p741 : 0 ≤ (x5_1 : Int) := of_decide_eq_true as_
 have q741 : x5_1 < (l0.length : Int) := of_decide_eq_true as_
 obtain ⟨ad741, e741, hx741_0, hx741_1, hx741_2, hx741_3, hx741_4, hx741_5⟩ := at_T100 HR0.out x5_1 p741 q741
 cases e741
 replace hx741_0 := (HB.out.cell (World.block_lt_of_cell? w _ hx741_0)).trans hx741_0
 replace hx741_1 := (HB.out.cell (World.block_lt_of_cell? w _ hx741_1)).trans hx741_1
 replace hx741_2 := (HB.out.cell (World.block_lt_of_cell? w _ hx741_2)).trans hx741_2
 replace hx741_3 := (HB.out.cell (World.block_lt_of_cell? w _ hx741_3)).trans hx741_3
 replace hx741_4 := (HB.out.cell (World.block_lt_of_cell? w _ hx741_4)).trans hx741_4
 replace hx741_5 := (HB.out.cell (World.block_lt_of_cell? w _ hx741_5)).trans hx741_5
 replace p741 := eq_true p741
 replace q741 := eq_true q741
 obtain ⟨hcz8_0, hcz8_1, hcz8_2, hcz8_3, hcz8_4, hcz8_5, hfz8_0, hfz8_1, hfz8_2, hfz8_3, hfz8_4, hfz8_5⟩ := cf6_ BK740.out
 go_wp2
 repeat (go_quiet (fail); try go_wp2)
 go_roundg k1
 case measure => have := HK1.out; omega
 case rel => exact ⟨(wrap64 (x5_1 + 1)), (sr_), H', ⟨by have := HK1.out; omega⟩, ⟨bk_ BK740.out⟩, ⟨bl_⟩⟩


mutual
def spec_l24Covers.l0 : Nat → Int → List Int → List (S100) → Int → Int → List Int → List (S100) → Int → Int → Option (Bool)
 | 0, _, _, _, _, _, _, _, _, _ => none
 | k + 1, x5, x743000, x743001, x743002, x743003, x744000, x744001, x744002, x744003 => if x5 < (x743001.length : Int) then (if 0 ≤ x5 then ((spec_l24HasCond.f k x744001 ((rd_T100 x743001 x5).f0) ((rd_T100 x743001 x5).f1.f0) ((rd_T100 x743001 x5).f1.f1) ((rd_T100 x743001 x5).f2) ((rd_T100 x743001 x5).f3.f0) ((rd_T100 x743001 x5).f3.f1)).bind fun t745 => (if t745 = true then (spec_l24Covers.l0 k (wrap64 (x5 + 1)) x743000 x743001 x743002 x743003 x744000 x744001 x744002 x744003) else (some false))) else (none)) else (if (x743000.length : Int) = 0 then (some true) else (spec_l24Covers.l1 k 0 x743000 x743001 x743002 x743003 x744000 x744001 x744002 x744003))
def spec_l24Covers.l1 : Nat → Int → List Int → List (S100) → Int → Int → List Int → List (S100) → Int → Int → Option (Bool)
 | 0, _, _, _, _, _, _, _, _, _ => none
 | k + 1, x6, x743000, x743001, x743002, x743003, x744000, x744001, x744002, x744003 => if x6 < (x744000.length : Int) then (if 0 ≤ x6 then ((spec_l09In.f k x743000 (rd x744000 x6)).bind fun t747 => (if t747 = true then (spec_l24Covers.l1 k (wrap64 (x6 + 1)) x743000 x743001 x743002 x743003 x744000 x744001 x744002 x744003) else (some false))) else (none)) else (some (decide ((x744000.length : Int) > 0)))
end
def spec_l24Covers.f (k : Nat) (l0_0 : List Int) (l0_1 : List (S100)) (a0_2 : Int) (a0_3 : Int) (l1_0 : List Int) (l1_1 : List (S100)) (a1_2 : Int) (a1_3 : Int) : Option (Bool) := spec_l24Covers.l0 k 0 l0_0 l0_1 a0_2 a0_3 l1_0 l1_1 a1_2 a1_3
theorem spec_l24Covers.mono_l : ∀ k, (∀ y0 y1 y2 y3 y4 y5 y6 y7 y8, LeO (spec_l24Covers.l0 k y0 y1 y2 y3 y4 y5 y6 y7 y8) (spec_l24Covers.l0 (k + 1) y0 y1 y2 y3 y4 y5 y6 y7 y8)) ∧ (∀ y0 y1 y2 y3 y4 y5 y6 y7 y8, LeO (spec_l24Covers.l1 k y0 y1 y2 y3 y4 y5 y6 y7 y8) (spec_l24Covers.l1 (k + 1) y0 y1 y2 y3 y4 y5 y6 y7 y8))
 | 0 => ⟨fun _ _ _ _ _ _ _ _ _ r h => by simp [spec_l24Covers.l0] at h, fun _ _ _ _ _ _ _ _ _ r h => by simp [spec_l24Covers.l1] at h⟩
 | k + 1 => by
  obtain ⟨ih0, ih1⟩ := spec_l24Covers.mono_l k
  refine ⟨?_, ?_⟩
  ·intro y0 y1 y2 y3 y4 y5 y6 y7 y8
   unfold spec_l24Covers.l0
   have m0 := @spec_l09In.mono
   have m1 := @spec_l24HasCond.mono
   exact mo_
  ·intro y0 y1 y2 y3 y4 y5 y6 y7 y8
   unfold spec_l24Covers.l1
   have m0 := @spec_l09In.mono
   have m1 := @spec_l24HasCond.mono
   exact mo_
theorem spec_l24Covers.mono : ∀ a0 a1 a2 a3 a4 a5 a6 a7 k, LeO (spec_l24Covers.f k a0 a1 a2 a3 a4 a5 a6 a7) (spec_l24Covers.f (k + 1) a0 a1 a2 a3 a4 a5 a6 a7) := by
 intro a0 a1 a2 a3 a4 a5 a6 a7 k
 obtain ⟨ih0, ih1⟩ := spec_l24Covers.mono_l k
 unfold spec_l24Covers.f
 have m0 := @spec_l09In.mono
 have m1 := @spec_l24HasCond.mono
 exact mo_
def spec_l24Covers.T4 : Bool × List (List Nat × List Nat) := (true, [([], []), ([0], [0]), ([], []), ([2], [2]), ([], []), ([3, 4], [3, 4]), ([5], [5]), ([1, 6], [1, 6]), ([7], [7])])
def spec_l24Covers.B4 : List Nat := [0, 1, 0, 4, 0, 28, 60, 127, 255]
theorem spec_l24Covers.tab4 : rtab .any (opsOf Try.f81 4) = spec_l24Covers.T4 := by kernel_rfl
theorem spec_l24Covers.bits4 : waitsOk spec_l24Covers.T4.2 spec_l24Covers.B4 = true := by kernel_rfl
def spec_l24Covers.T11 : Bool × List (List Nat × List Nat) := (true, [([], []), ([0], [0]), ([], []), ([2], [2]), ([], []), ([3, 4], [3, 4]), ([5], [5]), ([1, 6], [1, 6]), ([7], [7])])
def spec_l24Covers.B11 : List Nat := [0, 1, 0, 4, 0, 28, 60, 127, 255]
theorem spec_l24Covers.tab11 : rtab .any (opsOf Try.f81 11) = spec_l24Covers.T11 := by kernel_rfl
theorem spec_l24Covers.bits11 : waitsOk spec_l24Covers.T11.2 spec_l24Covers.B11 = true := by kernel_rfl
theorem spec_l24Covers.calls (k : Nat) (A0_0 : Option Addr) (c0_0 : Nat) (l0_0 : List Int) (A0_1 : Option Addr) (c0_1 : Nat) (l0_1 : List (S100)) (a0_2 : Int) (a0_3 : Int) (A1_0 : Option Addr) (c1_0 : Nat) (l1_0 : List Int) (A1_1 : Option Addr) (c1_1 : Nat) (l1_1 : List (S100)) (a1_2 : Int) (a1_3 : Int) (r : Bool) (w : World) (hr0_0 : Kd.C (Kd.int .i64) w A0_0 l0_0.length l0_0) (hc0_0 : l0_0.length ≤ c0_0) (hr0_1 : Kd.C k100 w A0_1 l0_1.length l0_1) (hc0_1 : l0_1.length ≤ c0_1) (hr1_0 : Kd.C (Kd.int .i64) w A1_0 l1_0.length l1_0) (hc1_0 : l1_0.length ≤ c1_0) (hr1_1 : Kd.C k100 w A1_1 l1_1.length l1_1) (hc1_1 : l1_1.length ≤ c1_1) (h : spec_l24Covers.f k l0_0 l0_1 a0_2 a0_3 l1_0 l1_1 a1_2 a1_3 = some r) :
 Calls Try.prog 81 #[.agg #[.slice A0_0 l0_0.length c0_0, .slice A0_1 l0_1.length c0_1, .int .i64 a0_2, .int .i64 a0_3], .agg #[.slice A1_0 l1_0.length c1_0, .slice A1_1 l1_1.length c1_1, .int .i64 a1_2, .int .i64 a1_3]] w fun e w' => e = .returned (.bool r) ∧ Below w.heap.size w w' := by
 have hu53 := Try.underlying53
 have hu100 := Try.underlying100
 have HR0_0 := Aside0.mk hr0_0
 have HC0_0 := Aside0.mk hc0_0
 clear hr0_0 hc0_0
 have HR0_1 := Aside0.mk hr0_1
 have HC0_1 := Aside0.mk hc0_1
 clear hr0_1 hc0_1
 have HR1_0 := Aside0.mk hr1_0
 have HC1_0 := Aside0.mk hc1_0
 clear hr1_0 hc1_0
 have HR1_1 := Aside0.mk hr1_1
 have HC1_1 := Aside0.mk hc1_1
 clear hr1_1 hc1_1
 have HB := Aside0.mk (Below.refl w.heap.size w)
 have H := h
 unfold spec_l24Covers.f at H
 clear h
 have H' := Aside0.mk H
 clear H
 go_enter Try.func81, Try.ntmps81
 go_wp2_with (first | ((with_reducible refine gate_dst (N := 2) rfl ?_); refine bx_ 2 53 #[.slice A0_0 l0_0.length c0_0, .slice A0_1 l0_1.length c0_1, .int .i64 a0_2, .int .i64 a0_3] ?_; intro gb742 hg w3 hbox hb; have BK742 := Aside0.mk (hbox); have GW742 := Aside0.mk ((hz_ : w.heap.size ≤ gb742)); have GE742 := GW742; replace HB := Aside0.mk (below_step bl_ hb); clear hb hbox hg) | ((with_reducible refine gate_dst (N := 3) rfl ?_); refine bx_ 3 53 #[.slice A1_0 l1_0.length c1_0, .slice A1_1 l1_1.length c1_1, .int .i64 a1_2, .int .i64 a1_3] ?_; intro gb743 hg w4 hbox hb; have BK743 := Aside0.mk (hbox); have GW743 := Aside0.mk ((hz_ : w.heap.size ≤ gb743)); have GE743 := GW743; replace HB := Aside0.mk (below_step bl_ hb); have NB742_743 := Aside0.mk (nl_ BK742.out hg); have NB743_742 := Aside0.mk (ng_ BK742.out hg); replace BK742 := bb0_ BK742.out hb; clear hb hbox hg))
 go_loopg [5] k (fun kq v5 w' => ∃ (x5_1 : Int), v5 = .int .i64 x5_1 ∧ Aside0 (spec_l24Covers.l0 kq x5_1 l0_0 l0_1 a0_2 a0_3 l1_0 l1_1 a1_2 a1_3 = some r) ∧ Aside0 (kq ≤ k) ∧ Aside0 (w'.heap[gb742]? = some (.cells #[(.slice A0_0 l0_0.length c0_0), (.slice A0_1 l0_1.length c0_1), .int .i64 a0_2, .int .i64 a0_3] 53 (0, 0))) ∧ Aside0 (w'.heap[gb743]? = some (.cells #[(.slice A1_0 l1_0.length c1_0), (.slice A1_1 l1_1.length c1_1), .int .i64 a1_2, .int .i64 a1_3] 53 (0, 0))) ∧ Aside0 (Below w.heap.size w w'))
 case atStart => exact ⟨(0), (sr_), H', ⟨Nat.le_refl _⟩, ⟨bk_ BK742.out⟩, ⟨bk_ BK743.out⟩, ⟨bl_⟩⟩
 clear H'
 obtain ⟨x5_1, rfl, HA, HK1, BK742, BK743, HB⟩ := hrel
 cases gk with
 | zero => exact absurd HA.out (by simp [spec_l24Covers.l0])
 | succ k1 => ?_
 have H := HA.out
 clear HA
 simp only [spec_l24Covers.l0] at H
 by_cases c5 : x5_1 < (l0_1.length : Int)
 ·rw [if_pos c5] at H
  have c5b0 := decide_eq_true c5
  clear c5
  by_cases c6 : 0 ≤ x5_1
  rotate_left
  ·exact nn_ c6 H
  rw [if_pos c6] at H
  have c6b0 := decide_eq_true c6
  clear c6
  replace H := bs_ H
  obtain ⟨t745, A7, H⟩ := H
  try dsimp only at H
  by_cases c8 : t745 = true
  rotate_left
  ·replace c8 := Bool.eq_false_iff.mpr c8
   subst c8
   rw [nf_] at H
   obtain rfl := Option.some.inj H
   have hnb13 := NB742_743.out
   have hnc13 := NB743_742.out
   obtain ⟨hcz14_0, hcz14_1, hcz14_2, hcz14_3, hfz14_0, hfz14_1, hfz14_2, hfz14_3⟩ := cf4_ BK742.out
   try go_wp2
   have n0_ := Aside0.mk (blk_drew BK742.out)
   have n1_ := Aside0.mk (blk_drew BK743.out)
   have n2_ := Aside0.mk (below_drew1 HB.out)
   clear BK742
   clear BK743
   clear HB
   have BK742 := n0_
   have BK743 := n1_
   have HB := n2_
   clear n0_ n1_ n2_
   have p744 : 0 ≤ (x5_1 : Int) := of_decide_eq_true as_
   have q744 : x5_1 < (l0_1.length : Int) := of_decide_eq_true as_
   obtain ⟨ad744, e744, hx744_0, hx744_1, hx744_2, hx744_3, hx744_4, hx744_5⟩ := at_T100 HR0_1.out x5_1 p744 q744
   have hw744_5 := hx744_5
   have hw744_4 := hx744_4
   have hw744_3 := hx744_3
   have hw744_2 := hx744_2
   have hw744_1 := hx744_1
   have hw744_0 := hx744_0
   cases e744
   replace hx744_0 := (HB.out.cell (World.block_lt_of_cell? w _ hx744_0)).trans hx744_0
   replace hx744_1 := (HB.out.cell (World.block_lt_of_cell? w _ hx744_1)).trans hx744_1
   replace hx744_2 := (HB.out.cell (World.block_lt_of_cell? w _ hx744_2)).trans hx744_2
   replace hx744_3 := (HB.out.cell (World.block_lt_of_cell? w _ hx744_3)).trans hx744_3
   replace hx744_4 := (HB.out.cell (World.block_lt_of_cell? w _ hx744_4)).trans hx744_4
   replace hx744_5 := (HB.out.cell (World.block_lt_of_cell? w _ hx744_5)).trans hx744_5
   replace p744 := eq_true p744
   replace q744 := eq_true q744
   refine start_ (n := 9) (S := fun w' => w'.cell? ⟨gb743, 0, none⟩ = some (.slice A1_0 l1_0.length c1_0) ∧ w'.cell? ⟨gb743, 1, none⟩ = some (.slice A1_1 l1_1.length c1_1) ∧ w'.cell? ⟨gb743, 2, none⟩ = some (.int .i64 a1_2) ∧ w'.cell? ⟨gb743, 3, none⟩ = some (.int .i64 a1_3) ∧ w'.cell? ⟨gb742, 0, none⟩ = some (.slice A0_0 l0_0.length c0_0) ∧ w'.cell? ⟨gb742, 1, none⟩ = some (.slice (some ad744) l0_1.length c0_1) ∧ w'.cell? ⟨gb742, 2, none⟩ = some (.int .i64 a0_2) ∧ w'.cell? ⟨gb742, 3, none⟩ = some (.int .i64 a0_3) ∧ w'.cell? (ad744.add ((x5_1).toNat * 6)) = some (.int .i64 ((rd_T100 l0_1 x5_1).f0)) ∧ w'.cell? ⟨(ad744.add ((x5_1).toNat * 6)).block, (ad744.add ((x5_1).toNat * 6)).off + 1, none⟩ = some (.int .i64 ((rd_T100 l0_1 x5_1).f1.f0)) ∧ w'.cell? ⟨(ad744.add ((x5_1).toNat * 6)).block, (ad744.add ((x5_1).toNat * 6)).off + 2, none⟩ = some (.int .i64 ((rd_T100 l0_1 x5_1).f1.f1)) ∧ w'.cell? ⟨(ad744.add ((x5_1).toNat * 6)).block, (ad744.add ((x5_1).toNat * 6)).off + 3, none⟩ = some (.int .i64 ((rd_T100 l0_1 x5_1).f2)) ∧ w'.cell? ⟨(ad744.add ((x5_1).toNat * 6)).block, (ad744.add ((x5_1).toNat * 6)).off + 4, none⟩ = some (.int .i64 ((rd_T100 l0_1 x5_1).f3.f0)) ∧ w'.cell? ⟨(ad744.add ((x5_1).toNat * 6)).block, (ad744.add ((x5_1).toNat * 6)).off + 5, none⟩ = some (.int .i64 ((rd_T100 l0_1 x5_1).f3.f1))) (ds := []) #[false, false, false, false, false, false, false, false, false] (by kernel_rfl) rfl rfl ⟨(blk_cell BK743.out 0).trans rfl, (blk_cell BK743.out 1).trans rfl, (blk_cell BK743.out 2).trans rfl, (blk_cell BK743.out 3).trans rfl, (blk_cell BK742.out 0).trans rfl, (blk_cell BK742.out 1).trans rfl, (blk_cell BK742.out 2).trans rfl, (blk_cell BK742.out 3).trans rfl, ((HB.out.cell (World.block_lt_of_cell? w _ hw744_0)).trans hw744_0), ((HB.out.cell (World.block_lt_of_cell? w _ hw744_1)).trans hw744_1), ((HB.out.cell (World.block_lt_of_cell? w _ hw744_2)).trans hw744_2), ((HB.out.cell (World.block_lt_of_cell? w _ hw744_3)).trans hw744_3), ((HB.out.cell (World.block_lt_of_cell? w _ hw744_4)).trans hw744_4), ((HB.out.cell (World.block_lt_of_cell? w _ hw744_5)).trans hw744_5)⟩ (fun hHeld => ?_); refine with_tabW spec_l24Covers.tab4 spec_l24Covers.bits4 (fun HT_ HW_ => ?_)
   generalize wr.drew = w15 at BK742 BK743 HB hx744_0 hx744_1 hx744_2 hx744_3 hx744_4 hx744_5 hHeld ⊢
   refine pu_ 0 14 HT_ ?_
   refine pu_ 2 16 HT_ ?_
   refine pu_ 4 18 HT_ ?_
   refine ta_ 1 15 HT_ HW_ hHeld ?_ (r := by rintro w' ⟨s0, s1, s2, s3, s4, s5, s6, s7, s8, s9, s10, s11, s12, s13⟩; go_simp; with_reducible rfl)
   refine ta_ 3 17 HT_ HW_ hHeld ?_ (r := by rintro w' ⟨s0, s1, s2, s3, s4, s5, s6, s7, s8, s9, s10, s11, s12, s13⟩; go_simp; with_reducible rfl)
   refine pu_ 5 19 HT_ ?_
   refine ta_ 6 20 HT_ HW_ hHeld ?_ (r := by rintro w' ⟨s0, s1, s2, s3, s4, s5, s6, s7, s8, s9, s10, s11, s12, s13⟩; go_simp; with_reducible rfl)
   refine on_ 7 21 HT_ (fun K hK => ?_)
   refine goes_ Try.func115 (by kernel_rfl) rfl #[.slice A1_1 l1_1.length c1_1, .agg #[.int .i64 ((rd_T100 l0_1 x5_1).f0), .int .i64 ((rd_T100 l0_1 x5_1).f1.f0), .int .i64 ((rd_T100 l0_1 x5_1).f1.f1), .int .i64 ((rd_T100 l0_1 x5_1).f2), .int .i64 ((rd_T100 l0_1 x5_1).f3.f0), .int .i64 ((rd_T100 l0_1 x5_1).f3.f1)]] (by rfl) rfl rfl lm_ ?_
   with_reducible refine (spec_l24HasCond.calls k1 _ _ l1_1 ((rd_T100 l0_1 x5_1).f0) ((rd_T100 l0_1 x5_1).f1.f0) ((rd_T100 l0_1 x5_1).f1.f1) ((rd_T100 l0_1 x5_1).f2) ((rd_T100 l0_1 x5_1).f3.f0) ((rd_T100 l0_1 x5_1).f3.f1) false _ ?side1 ?side2 A7.out).mono ?_
   (case side1 => exact cb_ HR1_1.out HB.out)
   (case side2 => exact HC1_1.out)
   rintro e w16 ⟨rfl, hb⟩
   refine ⟨_, rfl, ?_⟩
   have n0_ := bb0_ BK742.out hb
   have n1_ := bb0_ BK743.out hb
   have n2_ := Aside0.mk (below_step bl_ hb)
   clear BK742
   clear BK743
   clear HB
   have BK742 := n0_
   have BK743 := n1_
   have HB := n2_
   clear n0_ n1_ n2_
   (try clear hb)
   (try clear hb2)
   (try clear hk)
   (try clear hi)
   refine hK.out _ _ ⟨(blk_cell BK743.out 0).trans rfl, (blk_cell BK743.out 1).trans rfl, (blk_cell BK743.out 2).trans rfl, (blk_cell BK743.out 3).trans rfl, (blk_cell BK742.out 0).trans rfl, (blk_cell BK742.out 1).trans rfl, (blk_cell BK742.out 2).trans rfl, (blk_cell BK742.out 3).trans rfl, ((HB.out.cell (World.block_lt_of_cell? w _ hw744_0)).trans hw744_0), ((HB.out.cell (World.block_lt_of_cell? w _ hw744_1)).trans hw744_1), ((HB.out.cell (World.block_lt_of_cell? w _ hw744_2)).trans hw744_2), ((HB.out.cell (World.block_lt_of_cell? w _ hw744_3)).trans hw744_3), ((HB.out.cell (World.block_lt_of_cell? w _ hw744_4)).trans hw744_4), ((HB.out.cell (World.block_lt_of_cell? w _ hw744_5)).trans hw744_5)⟩ (fun hHeld => ?_)
   clear hK K
   refine norm_ (a' := ?_) ?_ ?_
   rotate_left
   ·show Act.put _ (some 21) _ = _
    simp only [Act.put, List.setIfInBounds_toArray, List.set_cons_zero, List.set_cons_succ, i64_w, i32_w]
    rfl
   refine pu_ 8 22 HT_ ?_
   refine done_ (done_of HT_.out (by kernel_rfl)) ?_
   try go_wp2
   go_ret
   exact ⟨er_, bl_⟩
  subst c8
  rw [if_pos rfl] at H
  have H' := Aside0.mk H
  clear H
  have hnb9 := NB742_743.out
  have hnc9 := NB743_742.out
  obtain ⟨hcz10_0, hcz10_1, hcz10_2, hcz10_3, hfz10_0, hfz10_1, hfz10_2, hfz10_3⟩ := cf4_ BK742.out
  try go_wp2
  have n0_ := Aside0.mk (blk_drew BK742.out)
  have n1_ := Aside0.mk (blk_drew BK743.out)
  have n2_ := Aside0.mk (below_drew1 HB.out)
  clear BK742
  clear BK743
  clear HB
  have BK742 := n0_
  have BK743 := n1_
  have HB := n2_
  clear n0_ n1_ n2_
  have p744 : 0 ≤ (x5_1 : Int) := of_decide_eq_true as_
  have q744 : x5_1 < (l0_1.length : Int) := of_decide_eq_true as_
  obtain ⟨ad744, e744, hx744_0, hx744_1, hx744_2, hx744_3, hx744_4, hx744_5⟩ := at_T100 HR0_1.out x5_1 p744 q744
  have hw744_5 := hx744_5
  have hw744_4 := hx744_4
  have hw744_3 := hx744_3
  have hw744_2 := hx744_2
  have hw744_1 := hx744_1
  have hw744_0 := hx744_0
  cases e744
  replace hx744_0 := (HB.out.cell (World.block_lt_of_cell? w _ hx744_0)).trans hx744_0
  replace hx744_1 := (HB.out.cell (World.block_lt_of_cell? w _ hx744_1)).trans hx744_1
  replace hx744_2 := (HB.out.cell (World.block_lt_of_cell? w _ hx744_2)).trans hx744_2
  replace hx744_3 := (HB.out.cell (World.block_lt_of_cell? w _ hx744_3)).trans hx744_3
  replace hx744_4 := (HB.out.cell (World.block_lt_of_cell? w _ hx744_4)).trans hx744_4
  replace hx744_5 := (HB.out.cell (World.block_lt_of_cell? w _ hx744_5)).trans hx744_5
  replace p744 := eq_true p744
  replace q744 := eq_true q744
  refine start_ (n := 9) (S := fun w' => w'.cell? ⟨gb743, 0, none⟩ = some (.slice A1_0 l1_0.length c1_0) ∧ w'.cell? ⟨gb743, 1, none⟩ = some (.slice A1_1 l1_1.length c1_1) ∧ w'.cell? ⟨gb743, 2, none⟩ = some (.int .i64 a1_2) ∧ w'.cell? ⟨gb743, 3, none⟩ = some (.int .i64 a1_3) ∧ w'.cell? ⟨gb742, 0, none⟩ = some (.slice A0_0 l0_0.length c0_0) ∧ w'.cell? ⟨gb742, 1, none⟩ = some (.slice (some ad744) l0_1.length c0_1) ∧ w'.cell? ⟨gb742, 2, none⟩ = some (.int .i64 a0_2) ∧ w'.cell? ⟨gb742, 3, none⟩ = some (.int .i64 a0_3) ∧ w'.cell? (ad744.add ((x5_1).toNat * 6)) = some (.int .i64 ((rd_T100 l0_1 x5_1).f0)) ∧ w'.cell? ⟨(ad744.add ((x5_1).toNat * 6)).block, (ad744.add ((x5_1).toNat * 6)).off + 1, none⟩ = some (.int .i64 ((rd_T100 l0_1 x5_1).f1.f0)) ∧ w'.cell? ⟨(ad744.add ((x5_1).toNat * 6)).block, (ad744.add ((x5_1).toNat * 6)).off + 2, none⟩ = some (.int .i64 ((rd_T100 l0_1 x5_1).f1.f1)) ∧ w'.cell? ⟨(ad744.add ((x5_1).toNat * 6)).block, (ad744.add ((x5_1).toNat * 6)).off + 3, none⟩ = some (.int .i64 ((rd_T100 l0_1 x5_1).f2)) ∧ w'.cell? ⟨(ad744.add ((x5_1).toNat * 6)).block, (ad744.add ((x5_1).toNat * 6)).off + 4, none⟩ = some (.int .i64 ((rd_T100 l0_1 x5_1).f3.f0)) ∧ w'.cell? ⟨(ad744.add ((x5_1).toNat * 6)).block, (ad744.add ((x5_1).toNat * 6)).off + 5, none⟩ = some (.int .i64 ((rd_T100 l0_1 x5_1).f3.f1))) (ds := []) #[false, false, false, false, false, false, false, false, false] (by kernel_rfl) rfl rfl ⟨(blk_cell BK743.out 0).trans rfl, (blk_cell BK743.out 1).trans rfl, (blk_cell BK743.out 2).trans rfl, (blk_cell BK743.out 3).trans rfl, (blk_cell BK742.out 0).trans rfl, (blk_cell BK742.out 1).trans rfl, (blk_cell BK742.out 2).trans rfl, (blk_cell BK742.out 3).trans rfl, ((HB.out.cell (World.block_lt_of_cell? w _ hw744_0)).trans hw744_0), ((HB.out.cell (World.block_lt_of_cell? w _ hw744_1)).trans hw744_1), ((HB.out.cell (World.block_lt_of_cell? w _ hw744_2)).trans hw744_2), ((HB.out.cell (World.block_lt_of_cell? w _ hw744_3)).trans hw744_3), ((HB.out.cell (World.block_lt_of_cell? w _ hw744_4)).trans hw744_4), ((HB.out.cell (World.block_lt_of_cell? w _ hw744_5)).trans hw744_5)⟩ (fun hHeld => ?_); refine with_tabW spec_l24Covers.tab4 spec_l24Covers.bits4 (fun HT_ HW_ => ?_)
  generalize wr.drew = w11 at BK742 BK743 HB hx744_0 hx744_1 hx744_2 hx744_3 hx744_4 hx744_5 hHeld ⊢
  refine pu_ 0 14 HT_ ?_
  refine pu_ 2 16 HT_ ?_
  refine pu_ 4 18 HT_ ?_
  refine ta_ 1 15 HT_ HW_ hHeld ?_ (r := by rintro w' ⟨s0, s1, s2, s3, s4, s5, s6, s7, s8, s9, s10, s11, s12, s13⟩; go_simp; with_reducible rfl)
  refine ta_ 3 17 HT_ HW_ hHeld ?_ (r := by rintro w' ⟨s0, s1, s2, s3, s4, s5, s6, s7, s8, s9, s10, s11, s12, s13⟩; go_simp; with_reducible rfl)
  refine pu_ 5 19 HT_ ?_
  refine ta_ 6 20 HT_ HW_ hHeld ?_ (r := by rintro w' ⟨s0, s1, s2, s3, s4, s5, s6, s7, s8, s9, s10, s11, s12, s13⟩; go_simp; with_reducible rfl)
  refine on_ 7 21 HT_ (fun K hK => ?_)
  refine goes_ Try.func115 (by kernel_rfl) rfl #[.slice A1_1 l1_1.length c1_1, .agg #[.int .i64 ((rd_T100 l0_1 x5_1).f0), .int .i64 ((rd_T100 l0_1 x5_1).f1.f0), .int .i64 ((rd_T100 l0_1 x5_1).f1.f1), .int .i64 ((rd_T100 l0_1 x5_1).f2), .int .i64 ((rd_T100 l0_1 x5_1).f3.f0), .int .i64 ((rd_T100 l0_1 x5_1).f3.f1)]] (by rfl) rfl rfl lm_ ?_
  with_reducible refine (spec_l24HasCond.calls k1 _ _ l1_1 ((rd_T100 l0_1 x5_1).f0) ((rd_T100 l0_1 x5_1).f1.f0) ((rd_T100 l0_1 x5_1).f1.f1) ((rd_T100 l0_1 x5_1).f2) ((rd_T100 l0_1 x5_1).f3.f0) ((rd_T100 l0_1 x5_1).f3.f1) true _ ?side1 ?side2 A7.out).mono ?_
  (case side1 => exact cb_ HR1_1.out HB.out)
  (case side2 => exact HC1_1.out)
  rintro e w12 ⟨rfl, hb⟩
  refine ⟨_, rfl, ?_⟩
  have n0_ := bb0_ BK742.out hb
  have n1_ := bb0_ BK743.out hb
  have n2_ := Aside0.mk (below_step bl_ hb)
  clear BK742
  clear BK743
  clear HB
  have BK742 := n0_
  have BK743 := n1_
  have HB := n2_
  clear n0_ n1_ n2_
  (try clear hb)
  (try clear hb2)
  (try clear hk)
  (try clear hi)
  refine hK.out _ _ ⟨(blk_cell BK743.out 0).trans rfl, (blk_cell BK743.out 1).trans rfl, (blk_cell BK743.out 2).trans rfl, (blk_cell BK743.out 3).trans rfl, (blk_cell BK742.out 0).trans rfl, (blk_cell BK742.out 1).trans rfl, (blk_cell BK742.out 2).trans rfl, (blk_cell BK742.out 3).trans rfl, ((HB.out.cell (World.block_lt_of_cell? w _ hw744_0)).trans hw744_0), ((HB.out.cell (World.block_lt_of_cell? w _ hw744_1)).trans hw744_1), ((HB.out.cell (World.block_lt_of_cell? w _ hw744_2)).trans hw744_2), ((HB.out.cell (World.block_lt_of_cell? w _ hw744_3)).trans hw744_3), ((HB.out.cell (World.block_lt_of_cell? w _ hw744_4)).trans hw744_4), ((HB.out.cell (World.block_lt_of_cell? w _ hw744_5)).trans hw744_5)⟩ (fun hHeld => ?_)
  clear hK K
  refine norm_ (a' := ?_) ?_ ?_
  rotate_left
  ·show Act.put _ (some 21) _ = _
   simp only [Act.put, List.setIfInBounds_toArray, List.set_cons_zero, List.set_cons_succ, i64_w, i32_w]
   rfl
  refine pu_ 8 22 HT_ ?_
  refine done_ (done_of HT_.out (by kernel_rfl)) ?_
  try go_wp2
  go_roundg k1
  case measure => have := HK1.out; omega
  case rel => exact ⟨(wrap64 (x5_1 + 1)), (sr_), H', ⟨by have := HK1.out; omega⟩, ⟨bk_ BK742.out⟩, ⟨bk_ BK743.out⟩, ⟨bl_⟩⟩
 rw [if_neg c5] at H
 have c5b0 := decide_eq_false c5
 clear c5
 by_cases c17 : (l0_0.length : Int) = 0
 ·rw [if_pos c17] at H
  have c17b0 : ((l0_0.length : Int) == 0) = true := beq_iff_eq.mpr c17
  have c17b1 : ((l0_0.length : Int) != 0) = false := bne_eq_false_iff_eq.mpr c17
  clear c17
  obtain rfl := Option.some.inj H
  have hnb18 := NB742_743.out
  have hnc18 := NB743_742.out
  obtain ⟨hcz19_0, hcz19_1, hcz19_2, hcz19_3, hfz19_0, hfz19_1, hfz19_2, hfz19_3⟩ := cf4_ BK742.out
  go_wp2
  go_ret
  exact ⟨er_, bl_⟩
 rw [if_neg c17] at H
 have c17b0 : ((l0_0.length : Int) == 0) = false := beq_eq_false_iff_ne.mpr c17
 have c17b1 : ((l0_0.length : Int) != 0) = true := bne_iff_ne.mpr c17
 have c17b2 : ¬ (l0_0 = []) := fun h_ => c17 (by rw [h_]; rfl)
 have H' := Aside0.mk H
 clear H
 have hnb20 := NB742_743.out
 have hnc20 := NB743_742.out
 obtain ⟨hcz21_0, hcz21_1, hcz21_2, hcz21_3, hfz21_0, hfz21_1, hfz21_2, hfz21_3⟩ := cf4_ BK742.out
 go_wp2
 go_loopg [6] k1 (fun kq v6 w' => ∃ (x6_2 : Int), v6 = .int .i64 x6_2 ∧ Aside0 (spec_l24Covers.l1 kq x6_2 l0_0 l0_1 a0_2 a0_3 l1_0 l1_1 a1_2 a1_3 = some r) ∧ Aside0 (kq ≤ k1) ∧ Aside0 (w'.heap[gb742]? = some (.cells #[(.slice A0_0 l0_0.length c0_0), (.slice A0_1 l0_1.length c0_1), .int .i64 a0_2, .int .i64 a0_3] 53 (0, 0))) ∧ Aside0 (w'.heap[gb743]? = some (.cells #[(.slice A1_0 l1_0.length c1_0), (.slice A1_1 l1_1.length c1_1), .int .i64 a1_2, .int .i64 a1_3] 53 (0, 0))) ∧ Aside0 (Below w.heap.size w w'))
 case atStart => exact ⟨(0), (sr_), H', ⟨Nat.le_refl _⟩, ⟨bk_ BK742.out⟩, ⟨bk_ BK743.out⟩, ⟨bl_⟩⟩
 clear H'
 try clear c5
 try clear c5b0
 try clear c17
 try clear c17b0
 try clear c17b1
 try clear c17b2
 try clear hcz21_0
 try clear hcz21_1
 try clear hcz21_2
 try clear hcz21_3
 try clear hfz21_0
 try clear hfz21_1
 try clear hfz21_2
 try clear hfz21_3
 obtain ⟨x6_2, rfl, HA, HK2, BK742, BK743, HB⟩ := hrel
 cases gk with
 | zero => exact absurd HA.out (by simp [spec_l24Covers.l1])
 | succ k2 => ?_
 have H := HA.out
 clear HA
 simp only [spec_l24Covers.l1] at H
 by_cases c22 : x6_2 < (l1_0.length : Int)
 rotate_left
 ·rw [if_neg c22] at H
  have c22b0 := decide_eq_false c22
  clear c22
  obtain rfl := Option.some.inj H
  have hnb32 := NB743_742.out
  have hnc32 := NB742_743.out
  obtain ⟨hcz33_0, hcz33_1, hcz33_2, hcz33_3, hfz33_0, hfz33_1, hfz33_2, hfz33_3⟩ := cf4_ BK743.out
  go_wp2
  go_ret
  exact ⟨er_, bl_⟩
 rw [if_pos c22] at H
 have c22b0 := decide_eq_true c22
 clear c22
 by_cases c23 : 0 ≤ x6_2
 rotate_left
 ·exact nn_ c23 H
 rw [if_pos c23] at H
 have c23b0 := decide_eq_true c23
 clear c23
 replace H := bs_ H
 obtain ⟨t747, A24, H⟩ := H
 try dsimp only at H
 by_cases c25 : t747 = true
 rotate_left
 ·replace c25 := Bool.eq_false_iff.mpr c25
  subst c25
  rw [nf_] at H
  obtain rfl := Option.some.inj H
  have hnb29 := NB743_742.out
  have hnc29 := NB742_743.out
  obtain ⟨hcz30_0, hcz30_1, hcz30_2, hcz30_3, hfz30_0, hfz30_1, hfz30_2, hfz30_3⟩ := cf4_ BK743.out
  try go_wp2
  have n0_ := Aside0.mk (blk_drew BK742.out)
  have n1_ := Aside0.mk (blk_drew BK743.out)
  have n2_ := Aside0.mk (below_drew1 HB.out)
  clear BK742
  clear BK743
  clear HB
  have BK742 := n0_
  have BK743 := n1_
  have HB := n2_
  clear n0_ n1_ n2_
  have p746 : 0 ≤ (x6_2 : Int) := of_decide_eq_true as_
  have q746 : x6_2 < (l1_0.length : Int) := of_decide_eq_true as_
  obtain ⟨ad746, e746, hx746_0⟩ := Kd.at_int HR1_0.out x6_2 p746 q746
  have hw746_0 := hx746_0
  cases e746
  replace hx746_0 := (HB.out.cell (World.block_lt_of_cell? w _ hx746_0)).trans hx746_0
  replace p746 := eq_true p746
  replace q746 := eq_true q746
  refine start_ (n := 9) (S := fun w' => w'.cell? ⟨gb742, 0, none⟩ = some (.slice A0_0 l0_0.length c0_0) ∧ w'.cell? ⟨gb742, 1, none⟩ = some (.slice A0_1 l0_1.length c0_1) ∧ w'.cell? ⟨gb742, 2, none⟩ = some (.int .i64 a0_2) ∧ w'.cell? ⟨gb742, 3, none⟩ = some (.int .i64 a0_3) ∧ w'.cell? ⟨gb743, 0, none⟩ = some (.slice (some ad746) l1_0.length c1_0) ∧ w'.cell? ⟨gb743, 1, none⟩ = some (.slice A1_1 l1_1.length c1_1) ∧ w'.cell? ⟨gb743, 2, none⟩ = some (.int .i64 a1_2) ∧ w'.cell? ⟨gb743, 3, none⟩ = some (.int .i64 a1_3) ∧ w'.cell? (ad746.add (x6_2).toNat) = some (.int .i64 (rd l1_0 x6_2))) (ds := []) #[false, false, false, false, false, false, false, false, false] (by kernel_rfl) rfl rfl ⟨(blk_cell BK742.out 0).trans rfl, (blk_cell BK742.out 1).trans rfl, (blk_cell BK742.out 2).trans rfl, (blk_cell BK742.out 3).trans rfl, (blk_cell BK743.out 0).trans rfl, (blk_cell BK743.out 1).trans rfl, (blk_cell BK743.out 2).trans rfl, (blk_cell BK743.out 3).trans rfl, ((HB.out.cell (World.block_lt_of_cell? w _ hw746_0)).trans hw746_0)⟩ (fun hHeld => ?_); refine with_tabW spec_l24Covers.tab11 spec_l24Covers.bits11 (fun HT_ HW_ => ?_)
  generalize wr.drew = w31 at BK742 BK743 HB hx746_0 hHeld ⊢
  refine pu_ 0 34 HT_ ?_
  refine pu_ 2 36 HT_ ?_
  refine pu_ 4 38 HT_ ?_
  refine ta_ 1 35 HT_ HW_ hHeld ?_ (r := by rintro w' ⟨s0, s1, s2, s3, s4, s5, s6, s7, s8⟩; go_simp; with_reducible rfl)
  refine ta_ 3 37 HT_ HW_ hHeld ?_ (r := by rintro w' ⟨s0, s1, s2, s3, s4, s5, s6, s7, s8⟩; go_simp; with_reducible rfl)
  refine pu_ 5 39 HT_ ?_
  refine ta_ 6 40 HT_ HW_ hHeld ?_ (r := by rintro w' ⟨s0, s1, s2, s3, s4, s5, s6, s7, s8⟩; go_simp; with_reducible rfl)
  refine on_ 7 41 HT_ (fun K hK => ?_)
  refine goes_ Try.func53 (by kernel_rfl) rfl #[.slice A0_0 l0_0.length c0_0, .int .i64 (rd l1_0 x6_2)] (by rfl) rfl rfl lm_ ?_
  with_reducible refine (spec_l09In.calls k2 _ _ l0_0 (rd l1_0 x6_2) false _ ?side1 ?side2 A24.out).mono ?_
  (case side1 => exact cb_ HR0_0.out HB.out)
  (case side2 => exact HC0_0.out)
  rintro e w' ⟨rfl, ⟨nd, rfl⟩⟩
  refine ⟨_, rfl, ?_⟩
  refine hK.out _ _ ⟨(blk_cell BK742.out 0).trans rfl, (blk_cell BK742.out 1).trans rfl, (blk_cell BK742.out 2).trans rfl, (blk_cell BK742.out 3).trans rfl, (blk_cell BK743.out 0).trans rfl, (blk_cell BK743.out 1).trans rfl, (blk_cell BK743.out 2).trans rfl, (blk_cell BK743.out 3).trans rfl, ((HB.out.cell (World.block_lt_of_cell? w _ hw746_0)).trans hw746_0)⟩ (fun hHeld => ?_)
  clear hK K
  refine norm_ (a' := ?_) ?_ ?_
  rotate_left
  ·show Act.put _ (some 41) _ = _
   simp only [Act.put, List.setIfInBounds_toArray, List.set_cons_zero, List.set_cons_succ, i64_w, i32_w]
   rfl
  refine pu_ 8 42 HT_ ?_
  refine done_ (done_of HT_.out (by kernel_rfl)) ?_
  try go_wp2
  go_ret
  exact ⟨er_, bl_⟩
 subst c25
 rw [if_pos rfl] at H
 have H' := Aside0.mk H
 clear H
 have hnb26 := NB743_742.out
 have hnc26 := NB742_743.out
 obtain ⟨hcz27_0, hcz27_1, hcz27_2, hcz27_3, hfz27_0, hfz27_1, hfz27_2, hfz27_3⟩ := cf4_ BK743.out
 try go_wp2
 have n0_ := Aside0.mk (blk_drew BK742.out)
 have n1_ := Aside0.mk (blk_drew BK743.out)
 have n2_ := Aside0.mk (below_drew1 HB.out)
 clear BK742
 clear BK743
 clear HB
 have BK742 := n0_
 have BK743 := n1_
 have HB := n2_
 clear n0_ n1_ n2_
 have p746 : 0 ≤ (x6_2 : Int) := of_decide_eq_true as_
 have q746 : x6_2 < (l1_0.length : Int) := of_decide_eq_true as_
 obtain ⟨ad746, e746, hx746_0⟩ := Kd.at_int HR1_0.out x6_2 p746 q746
 have hw746_0 := hx746_0
 cases e746
 replace hx746_0 := (HB.out.cell (World.block_lt_of_cell? w _ hx746_0)).trans hx746_0
 replace p746 := eq_true p746
 replace q746 := eq_true q746
 refine start_ (n := 9) (S := fun w' => w'.cell? ⟨gb742, 0, none⟩ = some (.slice A0_0 l0_0.length c0_0) ∧ w'.cell? ⟨gb742, 1, none⟩ = some (.slice A0_1 l0_1.length c0_1) ∧ w'.cell? ⟨gb742, 2, none⟩ = some (.int .i64 a0_2) ∧ w'.cell? ⟨gb742, 3, none⟩ = some (.int .i64 a0_3) ∧ w'.cell? ⟨gb743, 0, none⟩ = some (.slice (some ad746) l1_0.length c1_0) ∧ w'.cell? ⟨gb743, 1, none⟩ = some (.slice A1_1 l1_1.length c1_1) ∧ w'.cell? ⟨gb743, 2, none⟩ = some (.int .i64 a1_2) ∧ w'.cell? ⟨gb743, 3, none⟩ = some (.int .i64 a1_3) ∧ w'.cell? (ad746.add (x6_2).toNat) = some (.int .i64 (rd l1_0 x6_2))) (ds := []) #[false, false, false, false, false, false, false, false, false] (by kernel_rfl) rfl rfl ⟨(blk_cell BK742.out 0).trans rfl, (blk_cell BK742.out 1).trans rfl, (blk_cell BK742.out 2).trans rfl, (blk_cell BK742.out 3).trans rfl, (blk_cell BK743.out 0).trans rfl, (blk_cell BK743.out 1).trans rfl, (blk_cell BK743.out 2).trans rfl, (blk_cell BK743.out 3).trans rfl, ((HB.out.cell (World.block_lt_of_cell? w _ hw746_0)).trans hw746_0)⟩ (fun hHeld => ?_); refine with_tabW spec_l24Covers.tab11 spec_l24Covers.bits11 (fun HT_ HW_ => ?_)
 generalize wr.drew = w28 at BK742 BK743 HB hx746_0 hHeld ⊢
 refine pu_ 0 34 HT_ ?_
 refine pu_ 2 36 HT_ ?_
 refine pu_ 4 38 HT_ ?_
 refine ta_ 1 35 HT_ HW_ hHeld ?_ (r := by rintro w' ⟨s0, s1, s2, s3, s4, s5, s6, s7, s8⟩; go_simp; with_reducible rfl)
 refine ta_ 3 37 HT_ HW_ hHeld ?_ (r := by rintro w' ⟨s0, s1, s2, s3, s4, s5, s6, s7, s8⟩; go_simp; with_reducible rfl)
 refine pu_ 5 39 HT_ ?_
 refine ta_ 6 40 HT_ HW_ hHeld ?_ (r := by rintro w' ⟨s0, s1, s2, s3, s4, s5, s6, s7, s8⟩; go_simp; with_reducible rfl)
 refine on_ 7 41 HT_ (fun K hK => ?_)
 refine goes_ Try.func53 (by kernel_rfl) rfl #[.slice A0_0 l0_0.length c0_0, .int .i64 (rd l1_0 x6_2)] (by rfl) rfl rfl lm_ ?_
 with_reducible refine (spec_l09In.calls k2 _ _ l0_0 (rd l1_0 x6_2) true _ ?side1 ?side2 A24.out).mono ?_
 (case side1 => exact cb_ HR0_0.out HB.out)
 (case side2 => exact HC0_0.out)
 rintro e w' ⟨rfl, ⟨nd, rfl⟩⟩
 refine ⟨_, rfl, ?_⟩
 refine hK.out _ _ ⟨(blk_cell BK742.out 0).trans rfl, (blk_cell BK742.out 1).trans rfl, (blk_cell BK742.out 2).trans rfl, (blk_cell BK742.out 3).trans rfl, (blk_cell BK743.out 0).trans rfl, (blk_cell BK743.out 1).trans rfl, (blk_cell BK743.out 2).trans rfl, (blk_cell BK743.out 3).trans rfl, ((HB.out.cell (World.block_lt_of_cell? w _ hw746_0)).trans hw746_0)⟩ (fun hHeld => ?_)
 clear hK K
 refine norm_ (a' := ?_) ?_ ?_
 rotate_left
 ·show Act.put _ (some 41) _ = _
  simp only [Act.put, List.setIfInBounds_toArray, List.set_cons_zero, List.set_cons_succ, i64_w, i32_w]
  rfl
 refine pu_ 8 42 HT_ ?_
 refine done_ (done_of HT_.out (by kernel_rfl)) ?_
 try go_wp2
 go_roundg k2
 case measure => have := HK1.out; have := HK2.out; omega
 case rel => exact ⟨(wrap64 (x6_2 + 1)), (sr_), H', ⟨by have := HK1.out; have := HK2.out; omega⟩, ⟨bk_ BK742.out⟩, ⟨bk_ BK743.out⟩, ⟨bl_⟩⟩

end Go.Proofs.Ytjfmpodeenidnaa.PC
