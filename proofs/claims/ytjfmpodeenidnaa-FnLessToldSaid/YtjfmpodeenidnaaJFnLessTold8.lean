/- Contracts of functions of the program and of the reference, and plain lemmas on what they compute: a part of the proof of the law FnLessTold. No condition. -/
import Derived.Test.YtjfmpodeenidnaaG90508x0
import Derived.Test.YtjfmpodeenidnaaG90508x3
import Derived.Test.YtjfmpodeenidnaaShortV
set_option maxHeartbeats 8000000
set_option maxRecDepth 100000
namespace Go.Proofs.Ytjfmpodeenidnaa.PC
open Go.RowKit Go.Proofs.Ytjfmpodeenidnaa.Short Go.Proofs.YtjfmpodeenidnaaW.PrintWords Go.Proofs.YtjfmpodeenidnaaW.PrintLast Go.Proofs.YtjfmpodeenidnaaW.PrintMore
attribute [local go_sem] max2_int min2_int max_two min_two max_three min_three max_four min_four   -- for this text's walks alone
set_option linter.unusedVariables false
set_option linter.unusedSimpArgs false

def spec_OnlyFor.l0 : Nat → Int → List (S53) → Int → Int → Int → Int → List (S53) → Option (Int × Int × Int × (List (S53)))
 | 0, _, _, _, _, _, _, _ => none
 | k + 1, x1, x6, x7, x892000, x892001, x892002, x892003 => if x7 < (x892003.length : Int) then (if 0 ≤ x7 then (if (((rd_T53 x892003 x7).f0).length : Int) = 0 then (if x6.length < 2199023255552 then (spec_OnlyFor.l0 k x1 (x6 ++ [(⟨(rd_T53 x892003 x7).f0, (rd_T53 x892003 x7).f1, (rd_T53 x892003 x7).f2, (rd_T53 x892003 x7).f3⟩ : S53)]) (wrap64 (x7 + 1)) x892000 x892001 x892002 x892003) else (none)) else ((spec_l09In.f k ((rd_T53 x892003 x7).f0) x1).bind fun t902 => (if t902 = true then (if x6.length < 2199023255552 then (spec_OnlyFor.l0 k x1 (x6 ++ [(⟨(rd_T53 x892003 x7).f0, (rd_T53 x892003 x7).f1, (rd_T53 x892003 x7).f2, (rd_T53 x892003 x7).f3⟩ : S53)]) (wrap64 (x7 + 1)) x892000 x892001 x892002 x892003) else (none)) else (spec_OnlyFor.l0 k x1 x6 (wrap64 (x7 + 1)) x892000 x892001 x892002 x892003)))) else (none)) else (some (x892000, x892001, x892002, x6))
def spec_OnlyFor.f (k : Nat) (a0_0 : Int) (a0_1 : Int) (a0_2 : Int) (l0_3 : List (S53)) (a1 : Int) : Option (Int × Int × Int × (List (S53))) := (spec_l09Copy.f k a0_0 a0_1 a0_2 l0_3).bind fun bt885 => ((spec_PolicyOk.f k a0_0 a0_1 a0_2 l0_3).bind fun t892 => (if t892 = true then (spec_OnlyFor.l0 k a1 (([] : List (S53))) 0 bt885.1 bt885.2.1 bt885.2.2.1 bt885.2.2.2) else (some (bt885.1, bt885.2.1, bt885.2.2.1, bt885.2.2.2))))
theorem spec_OnlyFor.mono_l : ∀ k, (∀ y0 y1 y2 y3 y4 y5 y6, LeO (spec_OnlyFor.l0 k y0 y1 y2 y3 y4 y5 y6) (spec_OnlyFor.l0 (k + 1) y0 y1 y2 y3 y4 y5 y6))
 | 0 => fun _ _ _ _ _ _ _ r h => by simp [spec_OnlyFor.l0] at h
 | k + 1 => by
  have ih0 := spec_OnlyFor.mono_l k
  ·intro y0 y1 y2 y3 y4 y5 y6
   unfold spec_OnlyFor.l0
   have m0 := @spec_PolicyOk.mono
   have m1 := @spec_l09Copy.mono
   have m2 := @spec_l09In.mono
   exact mo_
theorem spec_OnlyFor.mono : ∀ a0 a1 a2 a3 a4 k, LeO (spec_OnlyFor.f k a0 a1 a2 a3 a4) (spec_OnlyFor.f (k + 1) a0 a1 a2 a3 a4) := by
 intro a0 a1 a2 a3 a4 k
 have ih0 := spec_OnlyFor.mono_l k
 unfold spec_OnlyFor.f
 have m0 := @spec_PolicyOk.mono
 have m1 := @spec_l09Copy.mono
 have m2 := @spec_l09In.mono
 exact mo_
theorem spec_OnlyFor.calls (k : Nat) (a0_0 : Int) (a0_1 : Int) (a0_2 : Int) (A0_3 : Option Addr) (c0_3 : Nat) (l0_3 : List (S53)) (a1 : Int) (r1 : Int) (r2 : Int) (r3 : Int) (r4 : List (S53)) (w : World) (hr0_3 : Kd.C k53 w A0_3 l0_3.length l0_3) (hc0_3 : l0_3.length ≤ c0_3) (h : spec_OnlyFor.f k a0_0 a0_1 a0_2 l0_3 a1 = some (r1, r2, r3, r4)) :
 Calls Try.prog 38 #[.agg #[.int .i64 a0_0, .int .i64 a0_1, .int .i64 a0_2, .slice A0_3 l0_3.length c0_3], .int .i64 a1] w fun e w' => ∃ v3_ : Value, e = .returned (.agg #[.int .i64 r1, .int .i64 r2, .int .i64 r3, v3_]) ∧ Kd.N k53 53 w' w.heap.size (fun k_ => (w.heap.size ≤ k_)) v3_ r4 ∧ Below w.heap.size w w' := by
 have hu36 := Try.underlying36
 have hu53 := Try.underlying53
 have HR0_3 := Aside0.mk hr0_3
 have HC0_3 := Aside0.mk hc0_3
 clear hr0_3 hc0_3
 have HB := Aside0.mk (Below.refl w.heap.size w)
 have H := h
 unfold spec_OnlyFor.f at H
 clear h
 replace H := bs_ H
 obtain ⟨⟨t885, t886, t887, t888⟩, A3, H⟩ := H
 try dsimp only at H
 replace H := bs_ H
 obtain ⟨t892, A4, H⟩ := H
 try dsimp only at H
 by_cases c5 : t892 = true
 rotate_left
 ·replace c5 := Bool.eq_false_iff.mpr c5
  subst c5
  rw [nf_] at H
  simp only [Option.some.injEq, Prod.mk.injEq] at H
  obtain ⟨rfl, rfl, rfl, rfl⟩ := H
  go_enter Try.func38, Try.ntmps38
  go_wp2_with (first | ((with_reducible refine gate_dst (N := 2) rfl ?_); refine bx_ 2 36 #[.int .i64 a0_0, .int .i64 a0_1, .int .i64 a0_2, .slice A0_3 l0_3.length c0_3] ?_; intro gb883 hg w44 hbox hb; have BK883 := Aside0.mk (hbox); have GW883 := Aside0.mk ((hz_ : w.heap.size ≤ gb883)); have GE883 := GW883; replace HB := Aside0.mk (below_step bl_ hb); clear hb hbox hg) | ((with_reducible refine gate_dst (N := 4) rfl ?_); refine bx_ 4 36 #[.int .i64 0, .int .i64 0, .int .i64 0, .slice none 0 0] ?_; intro gb884 hg w45 hbox hb; have BK884 := Aside0.mk (hbox); have GW884 := Aside0.mk ((hz_ : w.heap.size ≤ gb884)); have GE884 := GW884; replace HB := Aside0.mk (below_step bl_ hb); have NB883_884 := Aside0.mk (nl_ BK883.out hg); have NB884_883 := Aside0.mk (ng_ BK883.out hg); replace BK883 := bb0_ BK883.out hb; clear hb hbox hg; have hnb46 := NB883_884.out; have hnc46 := NB884_883.out; obtain ⟨hcz47_0, hcz47_1, hcz47_2, hcz47_3, hfz47_0, hfz47_1, hfz47_2, hfz47_3⟩ := cf4_ BK883.out) | ((with_reducible refine gate_callee (f := 83) rfl ?_); refine gs_ (some 9) Try.func83 #[.agg #[.int .i64 a0_0, .int .i64 a0_1, .int .i64 a0_2, .slice A0_3 l0_3.length c0_3]] ?_; (with_reducible refine (spec_l09Copy.calls k a0_0 a0_1 a0_2 _ _ l0_3 t885 t886 t887 t888 _ ?side1 ?side2 A3.out).mono ?_); (case side1 => exact cb_ HR0_3.out HB.out); (case side2 => exact HC0_3.out); rintro e w48 ⟨v889, rfl, ho0, hb⟩; refine ⟨_, rfl, ?_⟩; have HO890 := Aside0.mk (Kd.N_lower (Kd.N_mono (ok' := fun k_ => (w.heap.size ≤ k_) ∧ k_ ≠ gb883 ∧ k_ ≠ gb884) (Kd.S_N (Kd.S_bound ho0)) (fun k_ hk_ => ⟨(Nat.le_trans (below_size bl_) hk_.2.1), (fb_ BK883.out k_ hk_.2.1), (fb_ BK884.out k_ hk_.2.1)⟩)) (below_size bl_)); replace BK883 := bb0_ BK883.out hb; replace BK884 := bb0_ BK884.out hb; replace HB := Aside0.mk (below_step bl_ hb); (try clear hb); (try clear ho0)) | ((with_reducible refine gate_dst (N := 5) rfl ?_); refine bx_ 5 36 #[.int .i64 0, .int .i64 0, .int .i64 0, .slice none 0 0] ?_; intro gb891 hg w49 hbox hb; replace HO890 := Aside0.mk (Kd.N_below (Kd.N_elderB (na_ HO890.out) gb891 (Nat.le_of_eq hg.symm)) hb); have BK891 := Aside0.mk (hbox); have GW891 := Aside0.mk ((hz_ : w.heap.size ≤ gb891)); have GE891 := GW891; replace HB := Aside0.mk (below_step bl_ hb); have NB883_891 := Aside0.mk (nl_ BK883.out hg); have NB891_883 := Aside0.mk (ng_ BK883.out hg); replace BK883 := bb0_ BK883.out hb; have NB884_891 := Aside0.mk (nl_ BK884.out hg); have NB891_884 := Aside0.mk (ng_ BK884.out hg); replace BK884 := bb0_ BK884.out hb; clear hb hbox hg; have hnb50 := NB891_883.out; have hnc50 := NB883_891.out; have hnb51 := NB891_884.out; have hnc51 := NB884_891.out; obtain ⟨hcz52_0, hcz52_1, hcz52_2, hcz52_3, hfz52_0, hfz52_1, hfz52_2, hfz52_3⟩ := cf4_ BK891.out; obtain ⟨Ao53, co53, eo53⟩ := Kd.N_slice HO890.out; subst eo53; obtain ⟨hcz54_0, hcz54_1, hcz54_2, hcz54_3, hfz54_0, hfz54_1, hfz54_2, hfz54_3⟩ := cf4_ BK883.out) | ((with_reducible refine gate_callee (f := 27) rfl ?_); refine gs_ (some 11) Try.func27 #[.agg #[.int .i64 a0_0, .int .i64 a0_1, .int .i64 a0_2, .slice A0_3 l0_3.length c0_3]] ?_; (with_reducible refine (spec_PolicyOk.calls k a0_0 a0_1 a0_2 _ _ l0_3 false _ ?side1 ?side2 A4.out).mono ?_); (case side1 => exact Kd.C_below HR0_3.out bl_); (case side2 => exact HC0_3.out); rintro e w55 ⟨rfl, hb⟩; refine ⟨_, rfl, ?_⟩; replace HO890 := Aside0.mk (Kd.N_below (by (with_reducible repeat (first | apply Kd.N_alloc | apply Kd.N_drewN | apply Kd.N_drew)); exact (Kd.N_mono (Kd.N_far (p := ⟨gb891, 3, none⟩) (Kd.N_far (p := ⟨gb891, 2, none⟩) (Kd.N_far (p := ⟨gb891, 1, none⟩) (Kd.N_far (p := ⟨gb891, 0, none⟩) (Kd.N_mono HO890.out (fun k_ hk => (⟨hk, hk.2⟩ : _ ∧ k_ ≠ gb891))) (fun _ hk => hk.2) (.int .i64 t885)) (fun _ hk => hk.2) (.int .i64 t886)) (fun _ hk => hk.2) (.int .i64 t887)) (fun _ hk => hk.2) (.slice Ao53 t888.length co53)) (fun _ h_ => h_.1))) hb); replace BK883 := bb1_ BK883.out NB883_891.out hb; replace BK884 := bb1_ BK884.out NB884_891.out hb; replace BK891 := Aside0.mk (blk_below (g := gb891) (o := .cells #[.int .i64 t885, .int .i64 t886, .int .i64 t887, .slice Ao53 t888.length co53] 36 (0, 0)) (bp0_ BK891.out) hb); replace HB := Aside0.mk (below_step bl_ hb); (try clear hb); obtain ⟨hcz56_0, hcz56_1, hcz56_2, hcz56_3, hfz56_0, hfz56_1, hfz56_2, hfz56_3⟩ := cf4_ BK891.out; obtain ⟨hcz57_0, hcz57_1, hcz57_2, hcz57_3, hfz57_0, hfz57_1, hfz57_2, hfz57_3⟩ := cf4_ BK884.out))
  refine bodyPost_ret (results_cell_row rfl _ _ gb884 36 #[.int .i64 t885, .int .i64 t886, .int .i64 t887, .slice Ao53 t888.length co53] (0, 0) _ rfl (bp0_ BK884.out) Try.underlying36 rfl (by kernel_rfl)) rfl ?_
  exact ⟨_, er_, by (with_reducible repeat (first | apply Kd.N_alloc | apply Kd.N_drewN | apply Kd.N_drew)); exact Kd.N_mono (Kd.N_far (p := ⟨gb884, 3, none⟩) (Kd.N_far (p := ⟨gb884, 2, none⟩) (Kd.N_far (p := ⟨gb884, 1, none⟩) (Kd.N_far (p := ⟨gb884, 0, none⟩) (Kd.N_mono HO890.out (fun k_ hk => (⟨hk, hk.1.2.2⟩ : _ ∧ k_ ≠ gb884))) (fun _ hk => hk.2) (.int .i64 t885)) (fun _ hk => hk.2) (.int .i64 t886)) (fun _ hk => hk.2) (.int .i64 t887)) (fun _ hk => hk.2) (.slice Ao53 t888.length co53)) (fun _ hk => hk.1.1.1), bl_⟩
 subst c5
 rw [if_pos rfl] at H
 obtain ⟨y893, hy893⟩ : ∃ y_ : List (S53), y_ = (([] : List (S53))) := ⟨_, rfl⟩
 replace H : (spec_OnlyFor.l0 k a1 y893 0 t885 t886 t887 t888) = some (r1, r2, r3, r4) := rp_ H hy893
 have Ny893 := Aside0.mk hy893
 clear hy893
 have H' := Aside0.mk H
 clear H
 go_enter Try.func38, Try.ntmps38
 go_wp2_with (first | ((with_reducible refine gate_dst (N := 2) rfl ?_); refine bx_ 2 36 #[.int .i64 a0_0, .int .i64 a0_1, .int .i64 a0_2, .slice A0_3 l0_3.length c0_3] ?_; intro gb883 hg w6 hbox hb; have BK883 := Aside0.mk (hbox); have GW883 := Aside0.mk ((hz_ : w.heap.size ≤ gb883)); have GE883 := GW883; replace HB := Aside0.mk (below_step bl_ hb); clear hb hbox hg) | ((with_reducible refine gate_dst (N := 4) rfl ?_); refine bx_ 4 36 #[.int .i64 0, .int .i64 0, .int .i64 0, .slice none 0 0] ?_; intro gb884 hg w7 hbox hb; have BK884 := Aside0.mk (hbox); have GW884 := Aside0.mk ((hz_ : w.heap.size ≤ gb884)); have GE884 := GW884; replace HB := Aside0.mk (below_step bl_ hb); have NB883_884 := Aside0.mk (nl_ BK883.out hg); have NB884_883 := Aside0.mk (ng_ BK883.out hg); replace BK883 := bb0_ BK883.out hb; clear hb hbox hg; have hnb8 := NB883_884.out; have hnc8 := NB884_883.out; obtain ⟨hcz9_0, hcz9_1, hcz9_2, hcz9_3, hfz9_0, hfz9_1, hfz9_2, hfz9_3⟩ := cf4_ BK883.out) | ((with_reducible refine gate_callee (f := 83) rfl ?_); refine gs_ (some 9) Try.func83 #[.agg #[.int .i64 a0_0, .int .i64 a0_1, .int .i64 a0_2, .slice A0_3 l0_3.length c0_3]] ?_; (with_reducible refine (spec_l09Copy.calls k a0_0 a0_1 a0_2 _ _ l0_3 t885 t886 t887 t888 _ ?side1 ?side2 A3.out).mono ?_); (case side1 => exact cb_ HR0_3.out HB.out); (case side2 => exact HC0_3.out); rintro e w10 ⟨v889, rfl, ho0, hb⟩; refine ⟨_, rfl, ?_⟩; have HO890 := Aside0.mk (Kd.N_lower (Kd.N_mono (ok' := fun k_ => (w.heap.size ≤ k_) ∧ k_ ≠ gb883 ∧ k_ ≠ gb884) (Kd.S_N (Kd.S_bound ho0)) (fun k_ hk_ => ⟨(Nat.le_trans (below_size bl_) hk_.2.1), (fb_ BK883.out k_ hk_.2.1), (fb_ BK884.out k_ hk_.2.1)⟩)) (below_size bl_)); replace BK883 := bb0_ BK883.out hb; replace BK884 := bb0_ BK884.out hb; replace HB := Aside0.mk (below_step bl_ hb); (try clear hb); (try clear ho0)) | ((with_reducible refine gate_dst (N := 5) rfl ?_); refine bx_ 5 36 #[.int .i64 0, .int .i64 0, .int .i64 0, .slice none 0 0] ?_; intro gb891 hg w11 hbox hb; replace HO890 := Aside0.mk (Kd.N_below (Kd.N_elderB (na_ HO890.out) gb891 (Nat.le_of_eq hg.symm)) hb); have BK891 := Aside0.mk (hbox); have GW891 := Aside0.mk ((hz_ : w.heap.size ≤ gb891)); have GE891 := GW891; replace HB := Aside0.mk (below_step bl_ hb); have NB883_891 := Aside0.mk (nl_ BK883.out hg); have NB891_883 := Aside0.mk (ng_ BK883.out hg); replace BK883 := bb0_ BK883.out hb; have NB884_891 := Aside0.mk (nl_ BK884.out hg); have NB891_884 := Aside0.mk (ng_ BK884.out hg); replace BK884 := bb0_ BK884.out hb; clear hb hbox hg; have hnb12 := NB891_883.out; have hnc12 := NB883_891.out; have hnb13 := NB891_884.out; have hnc13 := NB884_891.out; obtain ⟨hcz14_0, hcz14_1, hcz14_2, hcz14_3, hfz14_0, hfz14_1, hfz14_2, hfz14_3⟩ := cf4_ BK891.out; obtain ⟨Ao15, co15, eo15⟩ := Kd.N_slice HO890.out; subst eo15; obtain ⟨hcz16_0, hcz16_1, hcz16_2, hcz16_3, hfz16_0, hfz16_1, hfz16_2, hfz16_3⟩ := cf4_ BK883.out) | ((with_reducible refine gate_callee (f := 27) rfl ?_); refine gs_ (some 11) Try.func27 #[.agg #[.int .i64 a0_0, .int .i64 a0_1, .int .i64 a0_2, .slice A0_3 l0_3.length c0_3]] ?_; (with_reducible refine (spec_PolicyOk.calls k a0_0 a0_1 a0_2 _ _ l0_3 true _ ?side1 ?side2 A4.out).mono ?_); (case side1 => exact Kd.C_below HR0_3.out bl_); (case side2 => exact HC0_3.out); rintro e w17 ⟨rfl, hb⟩; refine ⟨_, rfl, ?_⟩; replace HO890 := Aside0.mk (Kd.N_below (by (with_reducible repeat (first | apply Kd.N_alloc | apply Kd.N_drewN | apply Kd.N_drew)); exact (Kd.N_mono (Kd.N_far (p := ⟨gb891, 3, none⟩) (Kd.N_far (p := ⟨gb891, 2, none⟩) (Kd.N_far (p := ⟨gb891, 1, none⟩) (Kd.N_far (p := ⟨gb891, 0, none⟩) (Kd.N_mono HO890.out (fun k_ hk => (⟨hk, hk.2⟩ : _ ∧ k_ ≠ gb891))) (fun _ hk => hk.2) (.int .i64 t885)) (fun _ hk => hk.2) (.int .i64 t886)) (fun _ hk => hk.2) (.int .i64 t887)) (fun _ hk => hk.2) (.slice Ao15 t888.length co15)) (fun _ h_ => h_.1))) hb); replace BK883 := bb1_ BK883.out NB883_891.out hb; replace BK884 := bb1_ BK884.out NB884_891.out hb; replace BK891 := Aside0.mk (blk_below (g := gb891) (o := .cells #[.int .i64 t885, .int .i64 t886, .int .i64 t887, .slice Ao15 t888.length co15] 36 (0, 0)) (bp0_ BK891.out) hb); replace HB := Aside0.mk (below_step bl_ hb); (try clear hb)) | ((with_reducible refine gate_dst (N := 14) rfl ?_); refine Kd.N_lit k53 _ 53 ?hg (N' := 14) ?hd (xs := ([] : List (S53))) (inner := []) (ok := (fun k_ => (w.heap.size ≤ k_) ∧ some k_ ≠ (.slice Ao15 t888.length co15 : Value).ownBlock ∧ k_ ≠ gb883 ∧ k_ ≠ gb884 ∧ k_ ≠ gb891)) (okp := (fun k_ => (w.heap.size ≤ k_) ∧ some k_ ≠ (.slice Ao15 t888.length co15 : Value).ownBlock ∧ k_ ≠ gb883 ∧ k_ ≠ gb884 ∧ k_ ≠ gb891)) ?hr ?hp (fun _ hk => hk) ((show ∀ k_, w17.heap.size ≤ k_ → (fun k_ => (w.heap.size ≤ k_) ∧ some k_ ≠ (.slice Ao15 t888.length co15 : Value).ownBlock ∧ k_ ≠ gb883 ∧ k_ ≠ gb884 ∧ k_ ≠ gb891) k_ from fun k_ hk => ⟨(Nat.le_trans (below_size bl_) hk), Kd.fresh' (Kd.N_lt (na_ HO890.out)) k_ hk, fb_ BK883.out k_ hk, fb_ BK884.out k_ hk, fb_ BK891.out k_ hk⟩) _ (Nat.le_refl _)) (Below.refl _ _) (Nat.le_refl _) (by simp) ?_; (case hd => rfl); (case hg => rfl); (case hr => first | (go_simp; done) | (go_simp; rfl)); (case hp => exact (Reps.none _ _)); intro v894 w18 ho19 hb hg_ hnew_; clear hg_ hnew_; (first | rw [← Ny893.out] at ho19 | (simp only [Int.reduceToNat] at ho19; rw [← Ny893.out] at ho19)); replace HO890 := Aside0.mk (Kd.N_elder' (na_ HO890.out) (Kd.N_base ho19) hb); have HO895 := Aside0.mk (Kd.N_lower ho19 (below_size bl_)); replace BK883 := bb0_ BK883.out hb; replace BK884 := bb0_ BK884.out hb; replace BK891 := bb0_ BK891.out hb; replace HB := Aside0.mk (below_step bl_ hb); clear hb ho19))
 go_loopg [6, 7] k (fun kq v6 v7 w' => ∃ (x6_1 : List (S53)) (x7_1 : Int), v7 = .int .i64 x7_1 ∧ Aside0 (spec_OnlyFor.l0 kq a1 x6_1 x7_1 t885 t886 t887 t888 = some (r1, r2, r3, r4)) ∧ Aside0 (kq ≤ k) ∧ Aside0 (Kd.N k53 53 w' w.heap.size (fun k_ => (w.heap.size ≤ k_) ∧ some k_ ≠ ((.slice Ao15 t888.length co15) : Value).ownBlock ∧ k_ ≠ gb883 ∧ k_ ≠ gb884 ∧ k_ ≠ gb891) v6 x6_1) ∧ Aside0 (Kd.N k53 53 w' w.heap.size (fun k_ => (w.heap.size ≤ k_) ∧ some k_ ≠ (v6 : Value).ownBlock ∧ k_ ≠ gb883 ∧ k_ ≠ gb884 ∧ k_ ≠ gb891) (.slice Ao15 t888.length co15) t888) ∧ Aside0 (w'.heap[gb883]? = some (.cells #[.int .i64 a0_0, .int .i64 a0_1, .int .i64 a0_2, (.slice A0_3 l0_3.length c0_3)] 36 (0, 0))) ∧ Aside0 (w'.heap[gb884]? = some (.cells #[.int .i64 0, .int .i64 0, .int .i64 0, (.slice none 0 0)] 36 (0, 0))) ∧ Aside0 (w'.heap[gb891]? = some (.cells #[.int .i64 t885, .int .i64 t886, .int .i64 t887, (.slice Ao15 t888.length co15)] 36 (0, 0))) ∧ Aside0 (Below w.heap.size w w'))
 case atStart => exact ⟨(y893), (0), (sr_), H', ⟨Nat.le_refl _⟩, ⟨by (with_reducible repeat (first | apply Kd.N_alloc | apply Kd.N_drewN | apply Kd.N_drew)); exact HO895.out⟩, ⟨by (with_reducible repeat (first | apply Kd.N_alloc | apply Kd.N_drewN | apply Kd.N_drew)); exact Kd.N_mono HO890.out (fun _ hk => ⟨hk.1.1.1, ⟨hk.2, ⟨hk.1.1.2.1, ⟨hk.1.1.2.2, hk.1.2⟩⟩⟩⟩)⟩, ⟨bk_ BK883.out⟩, ⟨bk_ BK884.out⟩, ⟨bk_ BK891.out⟩, ⟨bl_⟩⟩
 clear H'
 try clear c5
 try clear hcz14_0
 try clear hcz14_1
 try clear hcz14_2
 try clear hcz14_3
 try clear hcz16_0
 try clear hcz16_1
 try clear hcz16_2
 try clear hcz16_3
 try clear hcz9_0
 try clear hcz9_1
 try clear hcz9_2
 try clear hcz9_3
 try clear hfz14_0
 try clear hfz14_1
 try clear hfz14_2
 try clear hfz14_3
 try clear hfz16_0
 try clear hfz16_1
 try clear hfz16_2
 try clear hfz16_3
 try clear hfz9_0
 try clear hfz9_1
 try clear hfz9_2
 try clear hfz9_3
 obtain ⟨x6_1, x7_1, rfl, HA, HK1, HO_6, HO_892003, BK883, BK884, BK891, HB⟩ := hrel
 cases gk with
 | zero => exact absurd HA.out (by simp [spec_OnlyFor.l0])
 | succ k1 => ?_
 have H := HA.out
 clear HA
 simp only [spec_OnlyFor.l0] at H
 by_cases c20 : x7_1 < (t888.length : Int)
 rotate_left
 ·rw [if_neg c20] at H
  have c20b0 := decide_eq_false c20
  clear c20
  simp only [Option.some.injEq, Prod.mk.injEq] at H
  obtain ⟨rfl, rfl, rfl, rfl⟩ := H
  have hnb38 := NB891_883.out
  have hnc38 := NB883_891.out
  have hnb39 := NB891_884.out
  have hnc39 := NB884_891.out
  obtain ⟨hcz40_0, hcz40_1, hcz40_2, hcz40_3, hfz40_0, hfz40_1, hfz40_2, hfz40_3⟩ := cf4_ BK891.out
  obtain ⟨Ao41, co41, eo41⟩ := Kd.N_slice HO_6.out
  subst eo41
  have hnb42 := NB884_883.out
  have hnc42 := NB883_884.out
  obtain ⟨hcz43_0, hcz43_1, hcz43_2, hcz43_3, hfz43_0, hfz43_1, hfz43_2, hfz43_3⟩ := cf4_ BK884.out
  go_wp2
  refine bodyPost_ret (results_cell_row rfl _ _ gb884 36 #[.int .i64 t885, .int .i64 t886, .int .i64 t887, .slice Ao41 x6_1.length co41] (0, 0) _ rfl (bp1_ BK884.out NB884_891.out) Try.underlying36 rfl (by kernel_rfl)) rfl ?_
  exact ⟨_, er_, by (with_reducible repeat (first | apply Kd.N_alloc | apply Kd.N_drewN | apply Kd.N_drew)); exact Kd.N_mono (Kd.N_far (p := ⟨gb884, 3, none⟩) (Kd.N_far (p := ⟨gb884, 2, none⟩) (Kd.N_far (p := ⟨gb884, 1, none⟩) (Kd.N_far (p := ⟨gb884, 0, none⟩) (Kd.N_far (p := ⟨gb891, 3, none⟩) (Kd.N_mono (Kd.N_mono HO_6.out (fun k_ hk => (⟨hk, hk.2.2.2.2⟩ : _ ∧ k_ ≠ gb891))) (fun k_ hk => (⟨hk, hk.1.2.2.2.1⟩ : _ ∧ k_ ≠ gb884))) (fun _ hk => hk.1.2) (.slice Ao41 x6_1.length co41)) (fun _ hk => hk.2) (.int .i64 t885)) (fun _ hk => hk.2) (.int .i64 t886)) (fun _ hk => hk.2) (.int .i64 t887)) (fun _ hk => hk.2) (.slice Ao41 x6_1.length co41)) (fun _ hk => hk.1.1.1), bl_⟩
 rw [if_pos c20] at H
 have c20b0 := decide_eq_true c20
 clear c20
 by_cases c21 : 0 ≤ x7_1
 rotate_left
 ·exact nn_ c21 H
 rw [if_pos c21] at H
 have c21b0 := decide_eq_true c21
 clear c21
 by_cases c22 : (((rd_T53 t888 x7_1).f0).length : Int) = 0
 ·rw [if_pos c22] at H
  have c22b0 : ((((rd_T53 t888 x7_1).f0).length : Int) == 0) = true := beq_iff_eq.mpr c22
  have c22b1 : ((((rd_T53 t888 x7_1).f0).length : Int) != 0) = false := bne_eq_false_iff_eq.mpr c22
  clear c22
  by_cases c23 : x6_1.length < 2199023255552
  rotate_left
  ·exact nn_ c23 H
  rw [if_pos c23] at H
  have LMc23 := Aside0.mk c23
  clear c23
  obtain ⟨y898, hy898⟩ : ∃ y_ : List (S53), y_ = (x6_1 ++ [(⟨(rd_T53 t888 x7_1).f0, (rd_T53 t888 x7_1).f1, (rd_T53 t888 x7_1).f2, (rd_T53 t888 x7_1).f3⟩ : S53)]) := ⟨_, rfl⟩
  replace H : (spec_OnlyFor.l0 k1 a1 y898 (wrap64 (x7_1 + 1)) t885 t886 t887 t888) = some (r1, r2, r3, r4) := rp_ H hy898
  have Ny898 := Aside0.mk hy898
  clear hy898
  have H' := Aside0.mk H
  clear H
  have hnb24 := NB891_883.out
  have hnc24 := NB883_891.out
  have hnb25 := NB891_884.out
  have hnc25 := NB884_891.out
  obtain ⟨hcz26_0, hcz26_1, hcz26_2, hcz26_3, hfz26_0, hfz26_1, hfz26_2, hfz26_3⟩ := cf4_ BK891.out
  have p896 : 0 ≤ (x7_1 : Int) := of_decide_eq_true as_
  have q896 : x7_1 < (t888.length : Int) := of_decide_eq_true as_
  obtain ⟨ad896, A896_0, c896_0, A896_1, c896_1, e896, hx896_0, hx896_1, hx896_2, hx896_3, hl896_0, hi896_0, hl896_1, hi896_1⟩ := at_T53 (Kd.N_reads' HO_892003.out).2.2 x7_1 p896 q896
  cases e896
  obtain ⟨ce896, hce896, hMe896, hcc896⟩ := Kd.N_get HO_892003.out z53 x7_1 p896 (by first | exact q896 | exact of_decide_eq_true as_ | (have e_ := (Kd.N_reads' HO_892003.out).1; omega))
  obtain ⟨ua896_0, uc896_0, ua896_1, uc896_1, rfl, ul896_0, ge896_0, ul896_1, ge896_1⟩ := k53_openF hMe896
  have hv896_0 := hcc896 0 _ rfl
  rw [Nat.add_zero] at hv896_0
  replace hv896_0 := Option.some.inj (hv896_0.symm.trans hx896_0)
  injection hv896_0 with hva_ hvn_ hvc_
  rw [hva_] at ge896_0
  rw [hvc_] at ul896_0
  have HL896_0 := Aside0.mk (show Kd.V (Kd.int .i64) 3 _ w.heap.size _ _ ((rd_T53 t888 x7_1).f0) from Kd.V_mk ul896_0 ge896_0)
  clear hva_ hvn_ hvc_ ge896_0 ul896_0
  have hv896_1 := hcc896 1 _ rfl
  rw [add_field _ _ 1 (by omega)] at hv896_1
  replace hv896_1 := Option.some.inj (hv896_1.symm.trans hx896_1)
  injection hv896_1 with hva_ hvn_ hvc_
  rw [hva_] at ge896_1
  rw [hvc_] at ul896_1
  have HL896_1 := Aside0.mk (show Kd.V k100 100 _ w.heap.size _ _ ((rd_T53 t888 x7_1).f1) from Kd.V_mk ul896_1 ge896_1)
  clear hva_ hvn_ hvc_ ge896_1 ul896_1
  clear hcc896 hce896
  have HR896_0 := Aside0.mk hi896_0
  have HC896_0 := Aside0.mk hl896_0
  clear hi896_0 hl896_0
  have HR896_1 := Aside0.mk hi896_1
  have HC896_1 := Aside0.mk hl896_1
  clear hi896_1 hl896_1
  replace p896 := eq_true p896
  replace q896 := eq_true q896
  have p897 : 0 ≤ (x7_1 : Int) := of_decide_eq_true as_
  have q897 : x7_1 < (t888.length : Int) := of_decide_eq_true as_
  obtain ⟨ad897, A897_0, c897_0, A897_1, c897_1, e897, hx897_0, hx897_1, hx897_2, hx897_3, hl897_0, hi897_0, hl897_1, hi897_1⟩ := at_T53 (Kd.N_reads' HO_892003.out).2.2 x7_1 p897 q897
  obtain rfl : ad896 = ad897 := (by injection e897)
  obtain ⟨ce897, hce897, hMe897, hcc897⟩ := Kd.N_get HO_892003.out z53 x7_1 p897 (by first | exact q897 | exact of_decide_eq_true as_ | (have e_ := (Kd.N_reads' HO_892003.out).1; omega))
  obtain ⟨ua897_0, uc897_0, ua897_1, uc897_1, rfl, ul897_0, ge897_0, ul897_1, ge897_1⟩ := k53_openF hMe897
  have hv897_0 := hcc897 0 _ rfl
  rw [Nat.add_zero] at hv897_0
  replace hv897_0 := Option.some.inj (hv897_0.symm.trans hx897_0)
  injection hv897_0 with hva_ hvn_ hvc_
  rw [hva_] at ge897_0
  rw [hvc_] at ul897_0
  have HL897_0 := Aside0.mk (show Kd.V (Kd.int .i64) 3 _ w.heap.size _ _ ((rd_T53 t888 x7_1).f0) from Kd.V_mk ul897_0 ge897_0)
  clear hva_ hvn_ hvc_ ge897_0 ul897_0
  have hv897_1 := hcc897 1 _ rfl
  rw [add_field _ _ 1 (by omega)] at hv897_1
  replace hv897_1 := Option.some.inj (hv897_1.symm.trans hx897_1)
  injection hv897_1 with hva_ hvn_ hvc_
  rw [hva_] at ge897_1
  rw [hvc_] at ul897_1
  have HL897_1 := Aside0.mk (show Kd.V k100 100 _ w.heap.size _ _ ((rd_T53 t888 x7_1).f1) from Kd.V_mk ul897_1 ge897_1)
  clear hva_ hvn_ hvc_ ge897_1 ul897_1
  clear hcc897 hce897
  have HR897_0 := Aside0.mk hi897_0
  have HC897_0 := Aside0.mk hl897_0
  clear hi897_0 hl897_0
  have HR897_1 := Aside0.mk hi897_1
  have HC897_1 := Aside0.mk hl897_1
  clear hi897_1 hl897_1
  replace p897 := eq_true p897
  replace q897 := eq_true q897
  have ea_ := Option.some.inj (hx896_0.symm.trans hx897_0)
  injection ea_ with ea_ en_ ec_
  subst ea_
  subst ec_
  clear en_
  have ea_ := Option.some.inj (hx896_1.symm.trans hx897_1)
  injection ea_ with ea_ en_ ec_
  subst ea_
  subst ec_
  clear en_
  go_wp2_with (first | ((with_reducible refine gate_builtin (b := .append) (xs := #[.tmp 40, .tmp 46]) rfl ?_); at_builtin; refine Kd.N_append k53 (w0 := w) w.heap.size rfl (.tmp 40) (.tmp 46) 34 53 (.agg #[(.slice none 0 0), (.slice none 0 0), (.int .i64 0), (.int .i64 0)]) 64 rfl Try.underlying34 info53 rfl (by decide) (by omega) u6 x6_1 (⟨(rd_T53 t888 x7_1).f0, (rd_T53 t888 x7_1).f1, (rd_T53 t888 x7_1).f2, (rd_T53 t888 x7_1).f3⟩ : S53) [.slice A896_0 ((rd_T53 t888 x7_1).f0).length c896_0, .slice A896_1 ((rd_T53 t888 x7_1).f1).length c896_1, .int .i64 ((rd_T53 t888 x7_1).f2), .int .i64 ((rd_T53 t888 x7_1).f3)] (fun k_ => (w.heap.size ≤ k_) ∧ some k_ ≠ (.slice (some ad896) t888.length co15 : Value).ownBlock ∧ k_ ≠ gb883 ∧ k_ ≠ gb884 ∧ k_ ≠ gb891) (fun k_ => ((fun k_ => (w.heap.size ≤ k_) ∧ some k_ ≠ (.slice (some ad896) t888.length co15 : Value).ownBlock ∧ k_ ≠ gb883 ∧ k_ ≠ gb884 ∧ k_ ≠ gb891)) k_ ∧ some k_ ≠ (u6 : Value).ownBlock) rfl rfl ?aP (fun _ hk => hk) ?aF ?aO ?aB ?aS ?aL ?_; (case aP => exact (k53_mkF _ _ (⟨(rd_T53 t888 x7_1).f0, (rd_T53 t888 x7_1).f1, (rd_T53 t888 x7_1).f2, (rd_T53 t888 x7_1).f3⟩ : S53) (Kd.V_reads' (Kd.V_mono (ok' := (fun k_ => ((fun k_ => (w.heap.size ≤ k_) ∧ some k_ ≠ (.slice (some ad896) t888.length co15 : Value).ownBlock ∧ k_ ≠ gb883 ∧ k_ ≠ gb884 ∧ k_ ≠ gb891)) k_ ∧ some k_ ≠ (u6 : Value).ownBlock)) (HL897_0.out) (fun k_ hk => ⟨⟨hk.1.1, ⟨hk.2, ⟨hk.1.2.2.1, ⟨hk.1.2.2.2.1, hk.1.2.2.2.2⟩⟩⟩⟩, hk.1.2.1⟩))).2.1 (Kd.V_F (Kd.V_mono (ok' := (fun k_ => ((fun k_ => (w.heap.size ≤ k_) ∧ some k_ ≠ (.slice (some ad896) t888.length co15 : Value).ownBlock ∧ k_ ≠ gb883 ∧ k_ ≠ gb884 ∧ k_ ≠ gb891)) k_ ∧ some k_ ≠ (u6 : Value).ownBlock)) (HL897_0.out) (fun k_ hk => ⟨⟨hk.1.1, ⟨hk.2, ⟨hk.1.2.2.1, ⟨hk.1.2.2.2.1, hk.1.2.2.2.2⟩⟩⟩⟩, hk.1.2.1⟩))) (Kd.V_reads' (Kd.V_mono (ok' := (fun k_ => ((fun k_ => (w.heap.size ≤ k_) ∧ some k_ ≠ (.slice (some ad896) t888.length co15 : Value).ownBlock ∧ k_ ≠ gb883 ∧ k_ ≠ gb884 ∧ k_ ≠ gb891)) k_ ∧ some k_ ≠ (u6 : Value).ownBlock)) (HL897_1.out) (fun k_ hk => ⟨⟨hk.1.1, ⟨hk.2, ⟨hk.1.2.2.1, ⟨hk.1.2.2.2.1, hk.1.2.2.2.2⟩⟩⟩⟩, hk.1.2.1⟩))).2.1 (Kd.V_F (Kd.V_mono (ok' := (fun k_ => ((fun k_ => (w.heap.size ≤ k_) ∧ some k_ ≠ (.slice (some ad896) t888.length co15 : Value).ownBlock ∧ k_ ≠ gb883 ∧ k_ ≠ gb884 ∧ k_ ≠ gb891)) k_ ∧ some k_ ≠ (u6 : Value).ownBlock)) (HL897_1.out) (fun k_ hk => ⟨⟨hk.1.1, ⟨hk.2, ⟨hk.1.2.2.1, ⟨hk.1.2.2.2.1, hk.1.2.2.2.2⟩⟩⟩⟩, hk.1.2.1⟩))))); (case aB => exact bl_); (case aF => exact (fun k_ hk => ⟨(Nat.le_trans (below_size bl_) hk), Kd.fresh' (Kd.N_lt (na_ HO_892003.out)) k_ hk, fb_ BK883.out k_ hk, fb_ BK884.out k_ hk, fb_ BK891.out k_ hk⟩)); (case aO => exact (na_ HO_6.out)); (case aS => exact (below_size bl_)); (case aL => have := LMc23.out; omega); intro v899 w27 ho hb hg hat; rw [← Ny898.out] at ho; replace HO_892003 := Aside0.mk (Kd.N_afterv (ok := (fun k_ => (w.heap.size ≤ k_) ∧ k_ ≠ gb883 ∧ k_ ≠ gb884 ∧ k_ ≠ gb891)) (by (with_reducible repeat (first | apply Kd.N_alloc | apply Kd.N_drewN | apply Kd.N_drew)); exact Kd.N_mono HO_892003.out (fun _ hk => ⟨⟨hk.1, ⟨hk.2.2.1, ⟨hk.2.2.2.1, hk.2.2.2.2⟩⟩⟩, hk.2.1⟩)) hg hat); replace BK883 := Aside0.mk (blk_grown (g := gb883) (o := .cells #[.int .i64 a0_0, .int .i64 a0_1, .int .i64 a0_2, .slice A0_3 l0_3.length c0_3] 36 (0, 0)) (bk_ BK883.out) hg (Kd.N_ne HO_6.out BK883.out (by decide))); replace BK884 := Aside0.mk (blk_grown (g := gb884) (o := .cells #[.int .i64 0, .int .i64 0, .int .i64 0, .slice none 0 0] 36 (0, 0)) (bk_ BK884.out) hg (Kd.N_ne HO_6.out BK884.out (by decide))); replace BK891 := Aside0.mk (blk_grown (g := gb891) (o := .cells #[.int .i64 t885, .int .i64 t886, .int .i64 t887, .slice (some ad896) t888.length co15] 36 (0, 0)) (bk_ BK891.out) hg (Kd.N_ne HO_6.out BK891.out (by decide))); replace HL896_0 := Aside0.mk (Kd.V_afterv (ok := (fun k_ => (w.heap.size ≤ k_) ∧ some k_ ≠ (.slice (some ad896) t888.length co15 : Value).ownBlock ∧ k_ ≠ gb883 ∧ k_ ≠ gb884 ∧ k_ ≠ gb891)) (by (with_reducible repeat (first | apply Kd.V_alloc | apply Kd.V_drewN | apply Kd.V_drew)); exact Kd.V_mono HL896_0.out (fun _ hk => ⟨⟨hk.1.1, ⟨hk.2, ⟨hk.1.2.2.1, ⟨hk.1.2.2.2.1, hk.1.2.2.2.2⟩⟩⟩⟩, hk.1.2.1⟩)) hg hat); replace HL896_1 := Aside0.mk (Kd.V_afterv (ok := (fun k_ => (w.heap.size ≤ k_) ∧ some k_ ≠ (.slice (some ad896) t888.length co15 : Value).ownBlock ∧ k_ ≠ gb883 ∧ k_ ≠ gb884 ∧ k_ ≠ gb891)) (by (with_reducible repeat (first | apply Kd.V_alloc | apply Kd.V_drewN | apply Kd.V_drew)); exact Kd.V_mono HL896_1.out (fun _ hk => ⟨⟨hk.1.1, ⟨hk.2, ⟨hk.1.2.2.1, ⟨hk.1.2.2.2.1, hk.1.2.2.2.2⟩⟩⟩⟩, hk.1.2.1⟩)) hg hat); replace HL897_0 := Aside0.mk (Kd.V_afterv (ok := (fun k_ => (w.heap.size ≤ k_) ∧ some k_ ≠ (.slice (some ad896) t888.length co15 : Value).ownBlock ∧ k_ ≠ gb883 ∧ k_ ≠ gb884 ∧ k_ ≠ gb891)) (by (with_reducible repeat (first | apply Kd.V_alloc | apply Kd.V_drewN | apply Kd.V_drew)); exact Kd.V_mono HL897_0.out (fun _ hk => ⟨⟨hk.1.1, ⟨hk.2, ⟨hk.1.2.2.1, ⟨hk.1.2.2.2.1, hk.1.2.2.2.2⟩⟩⟩⟩, hk.1.2.1⟩)) hg hat); replace HL897_1 := Aside0.mk (Kd.V_afterv (ok := (fun k_ => (w.heap.size ≤ k_) ∧ some k_ ≠ (.slice (some ad896) t888.length co15 : Value).ownBlock ∧ k_ ≠ gb883 ∧ k_ ≠ gb884 ∧ k_ ≠ gb891)) (by (with_reducible repeat (first | apply Kd.V_alloc | apply Kd.V_drewN | apply Kd.V_drew)); exact Kd.V_mono HL897_1.out (fun _ hk => ⟨⟨hk.1.1, ⟨hk.2, ⟨hk.1.2.2.1, ⟨hk.1.2.2.2.1, hk.1.2.2.2.2⟩⟩⟩⟩, hk.1.2.1⟩)) hg hat); replace HB := Aside0.mk (hb); have HO900 := Aside0.mk (ho); clear HO_6; clear ho hb hg hat))
  go_roundg k1
  case measure => have := HK1.out; omega
  case rel => exact ⟨(y898), (wrap64 (x7_1 + 1)), (sr_), H', ⟨by have := HK1.out; omega⟩, ⟨by (with_reducible repeat (first | apply Kd.N_alloc | apply Kd.N_drewN | apply Kd.N_drew)); exact HO900.out⟩, ⟨by (with_reducible repeat (first | apply Kd.N_alloc | apply Kd.N_drewN | apply Kd.N_drew)); exact Kd.N_mono HO_892003.out (fun _ hk => ⟨hk.1.1, ⟨hk.2, ⟨hk.1.2.1, ⟨hk.1.2.2.1, hk.1.2.2.2⟩⟩⟩⟩)⟩, ⟨bk_ BK883.out⟩, ⟨bk_ BK884.out⟩, ⟨bk_ BK891.out⟩, ⟨bl_⟩⟩
 rw [if_neg c22] at H
 have c22b0 : ((((rd_T53 t888 x7_1).f0).length : Int) == 0) = false := beq_eq_false_iff_ne.mpr c22
 have c22b1 : ((((rd_T53 t888 x7_1).f0).length : Int) != 0) = true := bne_iff_ne.mpr c22
 have c22b2 : ¬ (((rd_T53 t888 x7_1).f0) = []) := fun h_ => c22 (by rw [h_]; rfl)
 replace H := bs_ H
 obtain ⟨t902, A28, H⟩ := H
 try dsimp only at H
 by_cases c29 : t902 = true
 rotate_left
 ·replace c29 := Bool.eq_false_iff.mpr c29
  subst c29
  rw [nf_] at H
  have H' := Aside0.mk H
  clear H
  have hnb35 := NB891_883.out
  have hnc35 := NB883_891.out
  have hnb36 := NB891_884.out
  have hnc36 := NB884_891.out
  obtain ⟨hcz37_0, hcz37_1, hcz37_2, hcz37_3, hfz37_0, hfz37_1, hfz37_2, hfz37_3⟩ := cf4_ BK891.out
  have p896 : 0 ≤ (x7_1 : Int) := of_decide_eq_true as_
  have q896 : x7_1 < (t888.length : Int) := of_decide_eq_true as_
  obtain ⟨ad896, A896_0, c896_0, A896_1, c896_1, e896, hx896_0, hx896_1, hx896_2, hx896_3, hl896_0, hi896_0, hl896_1, hi896_1⟩ := at_T53 (Kd.N_reads' HO_892003.out).2.2 x7_1 p896 q896
  cases e896
  obtain ⟨ce896, hce896, hMe896, hcc896⟩ := Kd.N_get HO_892003.out z53 x7_1 p896 (by first | exact q896 | exact of_decide_eq_true as_ | (have e_ := (Kd.N_reads' HO_892003.out).1; omega))
  obtain ⟨ua896_0, uc896_0, ua896_1, uc896_1, rfl, ul896_0, ge896_0, ul896_1, ge896_1⟩ := k53_openF hMe896
  have hv896_0 := hcc896 0 _ rfl
  rw [Nat.add_zero] at hv896_0
  replace hv896_0 := Option.some.inj (hv896_0.symm.trans hx896_0)
  injection hv896_0 with hva_ hvn_ hvc_
  rw [hva_] at ge896_0
  rw [hvc_] at ul896_0
  have HL896_0 := Aside0.mk (show Kd.V (Kd.int .i64) 3 _ w.heap.size _ _ ((rd_T53 t888 x7_1).f0) from Kd.V_mk ul896_0 ge896_0)
  clear hva_ hvn_ hvc_ ge896_0 ul896_0
  have hv896_1 := hcc896 1 _ rfl
  rw [add_field _ _ 1 (by omega)] at hv896_1
  replace hv896_1 := Option.some.inj (hv896_1.symm.trans hx896_1)
  injection hv896_1 with hva_ hvn_ hvc_
  rw [hva_] at ge896_1
  rw [hvc_] at ul896_1
  have HL896_1 := Aside0.mk (show Kd.V k100 100 _ w.heap.size _ _ ((rd_T53 t888 x7_1).f1) from Kd.V_mk ul896_1 ge896_1)
  clear hva_ hvn_ hvc_ ge896_1 ul896_1
  clear hcc896 hce896
  have HR896_0 := Aside0.mk hi896_0
  have HC896_0 := Aside0.mk hl896_0
  clear hi896_0 hl896_0
  have HR896_1 := Aside0.mk hi896_1
  have HC896_1 := Aside0.mk hl896_1
  clear hi896_1 hl896_1
  replace p896 := eq_true p896
  replace q896 := eq_true q896
  have p901 : 0 ≤ (x7_1 : Int) := of_decide_eq_true as_
  have q901 : x7_1 < (t888.length : Int) := of_decide_eq_true as_
  obtain ⟨ad901, A901_0, c901_0, A901_1, c901_1, e901, hx901_0, hx901_1, hx901_2, hx901_3, hl901_0, hi901_0, hl901_1, hi901_1⟩ := at_T53 (Kd.N_reads' HO_892003.out).2.2 x7_1 p901 q901
  obtain rfl : ad896 = ad901 := (by injection e901)
  obtain ⟨ce901, hce901, hMe901, hcc901⟩ := Kd.N_get HO_892003.out z53 x7_1 p901 (by first | exact q901 | exact of_decide_eq_true as_ | (have e_ := (Kd.N_reads' HO_892003.out).1; omega))
  obtain ⟨ua901_0, uc901_0, ua901_1, uc901_1, rfl, ul901_0, ge901_0, ul901_1, ge901_1⟩ := k53_openF hMe901
  have hv901_0 := hcc901 0 _ rfl
  rw [Nat.add_zero] at hv901_0
  replace hv901_0 := Option.some.inj (hv901_0.symm.trans hx901_0)
  injection hv901_0 with hva_ hvn_ hvc_
  rw [hva_] at ge901_0
  rw [hvc_] at ul901_0
  have HL901_0 := Aside0.mk (show Kd.V (Kd.int .i64) 3 _ w.heap.size _ _ ((rd_T53 t888 x7_1).f0) from Kd.V_mk ul901_0 ge901_0)
  clear hva_ hvn_ hvc_ ge901_0 ul901_0
  have hv901_1 := hcc901 1 _ rfl
  rw [add_field _ _ 1 (by omega)] at hv901_1
  replace hv901_1 := Option.some.inj (hv901_1.symm.trans hx901_1)
  injection hv901_1 with hva_ hvn_ hvc_
  rw [hva_] at ge901_1
  rw [hvc_] at ul901_1
  have HL901_1 := Aside0.mk (show Kd.V k100 100 _ w.heap.size _ _ ((rd_T53 t888 x7_1).f1) from Kd.V_mk ul901_1 ge901_1)
  clear hva_ hvn_ hvc_ ge901_1 ul901_1
  clear hcc901 hce901
  have HR901_0 := Aside0.mk hi901_0
  have HC901_0 := Aside0.mk hl901_0
  clear hi901_0 hl901_0
  have HR901_1 := Aside0.mk hi901_1
  have HC901_1 := Aside0.mk hl901_1
  clear hi901_1 hl901_1
  replace p901 := eq_true p901
  replace q901 := eq_true q901
  have ea_ := Option.some.inj (hx896_0.symm.trans hx901_0)
  injection ea_ with ea_ en_ ec_
  subst ea_
  subst ec_
  clear en_
  have ea_ := Option.some.inj (hx896_1.symm.trans hx901_1)
  injection ea_ with ea_ en_ ec_
  subst ea_
  subst ec_
  clear en_
  go_wp2_with (first | (go_at_call 53; (with_reducible refine (spec_l09In.calls k1 _ _ ((rd_T53 t888 x7_1).f0) a1 false _ ?side1 ?side2 A28.out).mono ?_); (case side1 => repeat (first | exact (by repeat (first | (with_reducible exact HR901_0.out) | (with_reducible refine Kd.C_alloc ?_ _) | (with_reducible refine Kd.C_drewN ?_ _) | (with_reducible refine Kd.C_drew ?_) | exact HR901_0.out)) | (with_reducible refine Kd.C_alloc ?_ _) | (with_reducible refine Kd.C_drewN ?_ _) | (with_reducible refine Kd.C_drew ?_))); (case side2 => exact HC901_0.out); rintro e w' ⟨rfl, ⟨nd, rfl⟩⟩))
  go_roundg k1
  case measure => have := HK1.out; omega
  case rel => exact ⟨(x6_1), (wrap64 (x7_1 + 1)), (sr_), H', ⟨by have := HK1.out; omega⟩, ⟨by (with_reducible repeat (first | apply Kd.N_alloc | apply Kd.N_drewN | apply Kd.N_drew)); exact HO_6.out⟩, ⟨by (with_reducible repeat (first | apply Kd.N_alloc | apply Kd.N_drewN | apply Kd.N_drew)); exact HO_892003.out⟩, ⟨bk_ BK883.out⟩, ⟨bk_ BK884.out⟩, ⟨bk_ BK891.out⟩, ⟨bl_⟩⟩
 subst c29
 rw [if_pos rfl] at H
 by_cases c30 : x6_1.length < 2199023255552
 rotate_left
 ·exact nn_ c30 H
 rw [if_pos c30] at H
 have LMc30 := Aside0.mk c30
 clear c30
 obtain ⟨y904, hy904⟩ : ∃ y_ : List (S53), y_ = (x6_1 ++ [(⟨(rd_T53 t888 x7_1).f0, (rd_T53 t888 x7_1).f1, (rd_T53 t888 x7_1).f2, (rd_T53 t888 x7_1).f3⟩ : S53)]) := ⟨_, rfl⟩
 replace H : (spec_OnlyFor.l0 k1 a1 y904 (wrap64 (x7_1 + 1)) t885 t886 t887 t888) = some (r1, r2, r3, r4) := rp_ H hy904
 have Ny904 := Aside0.mk hy904
 clear hy904
 have H' := Aside0.mk H
 clear H
 have hnb31 := NB891_883.out
 have hnc31 := NB883_891.out
 have hnb32 := NB891_884.out
 have hnc32 := NB884_891.out
 obtain ⟨hcz33_0, hcz33_1, hcz33_2, hcz33_3, hfz33_0, hfz33_1, hfz33_2, hfz33_3⟩ := cf4_ BK891.out
 have p896 : 0 ≤ (x7_1 : Int) := of_decide_eq_true as_
 have q896 : x7_1 < (t888.length : Int) := of_decide_eq_true as_
 obtain ⟨ad896, A896_0, c896_0, A896_1, c896_1, e896, hx896_0, hx896_1, hx896_2, hx896_3, hl896_0, hi896_0, hl896_1, hi896_1⟩ := at_T53 (Kd.N_reads' HO_892003.out).2.2 x7_1 p896 q896
 cases e896
 obtain ⟨ce896, hce896, hMe896, hcc896⟩ := Kd.N_get HO_892003.out z53 x7_1 p896 (by first | exact q896 | exact of_decide_eq_true as_ | (have e_ := (Kd.N_reads' HO_892003.out).1; omega))
 obtain ⟨ua896_0, uc896_0, ua896_1, uc896_1, rfl, ul896_0, ge896_0, ul896_1, ge896_1⟩ := k53_openF hMe896
 have hv896_0 := hcc896 0 _ rfl
 rw [Nat.add_zero] at hv896_0
 replace hv896_0 := Option.some.inj (hv896_0.symm.trans hx896_0)
 injection hv896_0 with hva_ hvn_ hvc_
 rw [hva_] at ge896_0
 rw [hvc_] at ul896_0
 have HL896_0 := Aside0.mk (show Kd.V (Kd.int .i64) 3 _ w.heap.size _ _ ((rd_T53 t888 x7_1).f0) from Kd.V_mk ul896_0 ge896_0)
 clear hva_ hvn_ hvc_ ge896_0 ul896_0
 have hv896_1 := hcc896 1 _ rfl
 rw [add_field _ _ 1 (by omega)] at hv896_1
 replace hv896_1 := Option.some.inj (hv896_1.symm.trans hx896_1)
 injection hv896_1 with hva_ hvn_ hvc_
 rw [hva_] at ge896_1
 rw [hvc_] at ul896_1
 have HL896_1 := Aside0.mk (show Kd.V k100 100 _ w.heap.size _ _ ((rd_T53 t888 x7_1).f1) from Kd.V_mk ul896_1 ge896_1)
 clear hva_ hvn_ hvc_ ge896_1 ul896_1
 clear hcc896 hce896
 have HR896_0 := Aside0.mk hi896_0
 have HC896_0 := Aside0.mk hl896_0
 clear hi896_0 hl896_0
 have HR896_1 := Aside0.mk hi896_1
 have HC896_1 := Aside0.mk hl896_1
 clear hi896_1 hl896_1
 replace p896 := eq_true p896
 replace q896 := eq_true q896
 have p901 : 0 ≤ (x7_1 : Int) := of_decide_eq_true as_
 have q901 : x7_1 < (t888.length : Int) := of_decide_eq_true as_
 obtain ⟨ad901, A901_0, c901_0, A901_1, c901_1, e901, hx901_0, hx901_1, hx901_2, hx901_3, hl901_0, hi901_0, hl901_1, hi901_1⟩ := at_T53 (Kd.N_reads' HO_892003.out).2.2 x7_1 p901 q901
 obtain rfl : ad896 = ad901 := (by injection e901)
 obtain ⟨ce901, hce901, hMe901, hcc901⟩ := Kd.N_get HO_892003.out z53 x7_1 p901 (by first | exact q901 | exact of_decide_eq_true as_ | (have e_ := (Kd.N_reads' HO_892003.out).1; omega))
 obtain ⟨ua901_0, uc901_0, ua901_1, uc901_1, rfl, ul901_0, ge901_0, ul901_1, ge901_1⟩ := k53_openF hMe901
 have hv901_0 := hcc901 0 _ rfl
 rw [Nat.add_zero] at hv901_0
 replace hv901_0 := Option.some.inj (hv901_0.symm.trans hx901_0)
 injection hv901_0 with hva_ hvn_ hvc_
 rw [hva_] at ge901_0
 rw [hvc_] at ul901_0
 have HL901_0 := Aside0.mk (show Kd.V (Kd.int .i64) 3 _ w.heap.size _ _ ((rd_T53 t888 x7_1).f0) from Kd.V_mk ul901_0 ge901_0)
 clear hva_ hvn_ hvc_ ge901_0 ul901_0
 have hv901_1 := hcc901 1 _ rfl
 rw [add_field _ _ 1 (by omega)] at hv901_1
 replace hv901_1 := Option.some.inj (hv901_1.symm.trans hx901_1)
 injection hv901_1 with hva_ hvn_ hvc_
 rw [hva_] at ge901_1
 rw [hvc_] at ul901_1
 have HL901_1 := Aside0.mk (show Kd.V k100 100 _ w.heap.size _ _ ((rd_T53 t888 x7_1).f1) from Kd.V_mk ul901_1 ge901_1)
 clear hva_ hvn_ hvc_ ge901_1 ul901_1
 clear hcc901 hce901
 have HR901_0 := Aside0.mk hi901_0
 have HC901_0 := Aside0.mk hl901_0
 clear hi901_0 hl901_0
 have HR901_1 := Aside0.mk hi901_1
 have HC901_1 := Aside0.mk hl901_1
 clear hi901_1 hl901_1
 replace p901 := eq_true p901
 replace q901 := eq_true q901
 have ea_ := Option.some.inj (hx896_0.symm.trans hx901_0)
 injection ea_ with ea_ en_ ec_
 subst ea_
 subst ec_
 clear en_
 have ea_ := Option.some.inj (hx896_1.symm.trans hx901_1)
 injection ea_ with ea_ en_ ec_
 subst ea_
 subst ec_
 clear en_
 go_wp2_with (first | (go_at_call 53; (with_reducible refine (spec_l09In.calls k1 _ _ ((rd_T53 t888 x7_1).f0) a1 true _ ?side1 ?side2 A28.out).mono ?_); (case side1 => repeat (first | exact (by repeat (first | (with_reducible exact HR901_0.out) | (with_reducible refine Kd.C_alloc ?_ _) | (with_reducible refine Kd.C_drewN ?_ _) | (with_reducible refine Kd.C_drew ?_) | exact HR901_0.out)) | (with_reducible refine Kd.C_alloc ?_ _) | (with_reducible refine Kd.C_drewN ?_ _) | (with_reducible refine Kd.C_drew ?_))); (case side2 => exact HC901_0.out); rintro e w' ⟨rfl, ⟨nd, rfl⟩⟩; have p903 : 0 ≤ (x7_1 : Int) := of_decide_eq_true as_; have q903 : x7_1 < (t888.length : Int) := of_decide_eq_true as_; obtain ⟨ad903, A903_0, c903_0, A903_1, c903_1, e903, hx903_0, hx903_1, hx903_2, hx903_3, hl903_0, hi903_0, hl903_1, hi903_1⟩ := at_T53 (Kd.N_reads' HO_892003.out).2.2 x7_1 p903 q903; obtain rfl : ad896 = ad903 := (by injection e903); obtain ⟨ce903, hce903, hMe903, hcc903⟩ := Kd.N_get HO_892003.out z53 x7_1 p903 (by first | exact q903 | exact of_decide_eq_true as_ | (have e_ := (Kd.N_reads' HO_892003.out).1; omega)); obtain ⟨ua903_0, uc903_0, ua903_1, uc903_1, rfl, ul903_0, ge903_0, ul903_1, ge903_1⟩ := k53_openF hMe903; have hv903_0 := hcc903 0 _ rfl; rw [Nat.add_zero] at hv903_0; replace hv903_0 := Option.some.inj (hv903_0.symm.trans hx903_0); injection hv903_0 with hva_ hvn_ hvc_; rw [hva_] at ge903_0; rw [hvc_] at ul903_0; have HL903_0 := Aside0.mk (show Kd.V (Kd.int .i64) 3 _ w.heap.size _ _ ((rd_T53 t888 x7_1).f0) from Kd.V_mk ul903_0 ge903_0); clear hva_ hvn_ hvc_ ge903_0 ul903_0; have hv903_1 := hcc903 1 _ rfl; rw [add_field _ _ 1 (by omega)] at hv903_1; replace hv903_1 := Option.some.inj (hv903_1.symm.trans hx903_1); injection hv903_1 with hva_ hvn_ hvc_; rw [hva_] at ge903_1; rw [hvc_] at ul903_1; have HL903_1 := Aside0.mk (show Kd.V k100 100 _ w.heap.size _ _ ((rd_T53 t888 x7_1).f1) from Kd.V_mk ul903_1 ge903_1); clear hva_ hvn_ hvc_ ge903_1 ul903_1; clear hcc903 hce903; have HR903_0 := Aside0.mk hi903_0; have HC903_0 := Aside0.mk hl903_0; clear hi903_0 hl903_0; have HR903_1 := Aside0.mk hi903_1; have HC903_1 := Aside0.mk hl903_1; clear hi903_1 hl903_1; replace p903 := eq_true p903; replace q903 := eq_true q903; have ea_ := Option.some.inj (hx896_0.symm.trans hx903_0); injection ea_ with ea_ en_ ec_; subst ea_; subst ec_; clear en_; have ea_ := Option.some.inj (hx896_1.symm.trans hx903_1); injection ea_ with ea_ en_ ec_; subst ea_; subst ec_; clear en_) | ((with_reducible refine gate_builtin (b := .append) (xs := #[.tmp 40, .tmp 46]) rfl ?_); at_builtin; refine Kd.N_append k53 (w0 := w) w.heap.size rfl (.tmp 40) (.tmp 46) 34 53 (.agg #[(.slice none 0 0), (.slice none 0 0), (.int .i64 0), (.int .i64 0)]) 64 rfl Try.underlying34 info53 rfl (by decide) (by omega) u6 x6_1 (⟨(rd_T53 t888 x7_1).f0, (rd_T53 t888 x7_1).f1, (rd_T53 t888 x7_1).f2, (rd_T53 t888 x7_1).f3⟩ : S53) [.slice A896_0 ((rd_T53 t888 x7_1).f0).length c896_0, .slice A896_1 ((rd_T53 t888 x7_1).f1).length c896_1, .int .i64 ((rd_T53 t888 x7_1).f2), .int .i64 ((rd_T53 t888 x7_1).f3)] (fun k_ => (w.heap.size ≤ k_) ∧ some k_ ≠ (.slice (some ad896) t888.length co15 : Value).ownBlock ∧ k_ ≠ gb883 ∧ k_ ≠ gb884 ∧ k_ ≠ gb891) (fun k_ => ((fun k_ => (w.heap.size ≤ k_) ∧ some k_ ≠ (.slice (some ad896) t888.length co15 : Value).ownBlock ∧ k_ ≠ gb883 ∧ k_ ≠ gb884 ∧ k_ ≠ gb891)) k_ ∧ some k_ ≠ (u6 : Value).ownBlock) rfl rfl ?aP (fun _ hk => hk) ?aF ?aO ?aB ?aS ?aL ?_; (case aP => exact (k53_mkF _ _ (⟨(rd_T53 t888 x7_1).f0, (rd_T53 t888 x7_1).f1, (rd_T53 t888 x7_1).f2, (rd_T53 t888 x7_1).f3⟩ : S53) (Kd.V_reads' (Kd.V_mono (ok' := (fun k_ => ((fun k_ => (w.heap.size ≤ k_) ∧ some k_ ≠ (.slice (some ad896) t888.length co15 : Value).ownBlock ∧ k_ ≠ gb883 ∧ k_ ≠ gb884 ∧ k_ ≠ gb891)) k_ ∧ some k_ ≠ (u6 : Value).ownBlock)) (HL903_0.out) (fun k_ hk => ⟨⟨hk.1.1, ⟨hk.2, ⟨hk.1.2.2.1, ⟨hk.1.2.2.2.1, hk.1.2.2.2.2⟩⟩⟩⟩, hk.1.2.1⟩))).2.1 (Kd.V_F (Kd.V_mono (ok' := (fun k_ => ((fun k_ => (w.heap.size ≤ k_) ∧ some k_ ≠ (.slice (some ad896) t888.length co15 : Value).ownBlock ∧ k_ ≠ gb883 ∧ k_ ≠ gb884 ∧ k_ ≠ gb891)) k_ ∧ some k_ ≠ (u6 : Value).ownBlock)) (HL903_0.out) (fun k_ hk => ⟨⟨hk.1.1, ⟨hk.2, ⟨hk.1.2.2.1, ⟨hk.1.2.2.2.1, hk.1.2.2.2.2⟩⟩⟩⟩, hk.1.2.1⟩))) (Kd.V_reads' (Kd.V_mono (ok' := (fun k_ => ((fun k_ => (w.heap.size ≤ k_) ∧ some k_ ≠ (.slice (some ad896) t888.length co15 : Value).ownBlock ∧ k_ ≠ gb883 ∧ k_ ≠ gb884 ∧ k_ ≠ gb891)) k_ ∧ some k_ ≠ (u6 : Value).ownBlock)) (HL903_1.out) (fun k_ hk => ⟨⟨hk.1.1, ⟨hk.2, ⟨hk.1.2.2.1, ⟨hk.1.2.2.2.1, hk.1.2.2.2.2⟩⟩⟩⟩, hk.1.2.1⟩))).2.1 (Kd.V_F (Kd.V_mono (ok' := (fun k_ => ((fun k_ => (w.heap.size ≤ k_) ∧ some k_ ≠ (.slice (some ad896) t888.length co15 : Value).ownBlock ∧ k_ ≠ gb883 ∧ k_ ≠ gb884 ∧ k_ ≠ gb891)) k_ ∧ some k_ ≠ (u6 : Value).ownBlock)) (HL903_1.out) (fun k_ hk => ⟨⟨hk.1.1, ⟨hk.2, ⟨hk.1.2.2.1, ⟨hk.1.2.2.2.1, hk.1.2.2.2.2⟩⟩⟩⟩, hk.1.2.1⟩))))); (case aB => exact bl_); (case aF => exact (fun k_ hk => ⟨(Nat.le_trans (below_size bl_) hk), Kd.fresh' (Kd.N_lt (na_ HO_892003.out)) k_ hk, fb_ BK883.out k_ hk, fb_ BK884.out k_ hk, fb_ BK891.out k_ hk⟩)); (case aO => exact (na_ HO_6.out)); (case aS => exact (below_size bl_)); (case aL => have := LMc30.out; omega); intro v905 w34 ho hb hg hat; rw [← Ny904.out] at ho; replace HO_892003 := Aside0.mk (Kd.N_afterv (ok := (fun k_ => (w.heap.size ≤ k_) ∧ k_ ≠ gb883 ∧ k_ ≠ gb884 ∧ k_ ≠ gb891)) (by (with_reducible repeat (first | apply Kd.N_alloc | apply Kd.N_drewN | apply Kd.N_drew)); exact Kd.N_mono HO_892003.out (fun _ hk => ⟨⟨hk.1, ⟨hk.2.2.1, ⟨hk.2.2.2.1, hk.2.2.2.2⟩⟩⟩, hk.2.1⟩)) hg hat); replace BK883 := Aside0.mk (blk_grown (g := gb883) (o := .cells #[.int .i64 a0_0, .int .i64 a0_1, .int .i64 a0_2, .slice A0_3 l0_3.length c0_3] 36 (0, 0)) (bk_ BK883.out) hg (Kd.N_ne HO_6.out BK883.out (by decide))); replace BK884 := Aside0.mk (blk_grown (g := gb884) (o := .cells #[.int .i64 0, .int .i64 0, .int .i64 0, .slice none 0 0] 36 (0, 0)) (bk_ BK884.out) hg (Kd.N_ne HO_6.out BK884.out (by decide))); replace BK891 := Aside0.mk (blk_grown (g := gb891) (o := .cells #[.int .i64 t885, .int .i64 t886, .int .i64 t887, .slice (some ad896) t888.length co15] 36 (0, 0)) (bk_ BK891.out) hg (Kd.N_ne HO_6.out BK891.out (by decide))); replace HL896_0 := Aside0.mk (Kd.V_afterv (ok := (fun k_ => (w.heap.size ≤ k_) ∧ some k_ ≠ (.slice (some ad896) t888.length co15 : Value).ownBlock ∧ k_ ≠ gb883 ∧ k_ ≠ gb884 ∧ k_ ≠ gb891)) (by (with_reducible repeat (first | apply Kd.V_alloc | apply Kd.V_drewN | apply Kd.V_drew)); exact Kd.V_mono HL896_0.out (fun _ hk => ⟨⟨hk.1.1, ⟨hk.2, ⟨hk.1.2.2.1, ⟨hk.1.2.2.2.1, hk.1.2.2.2.2⟩⟩⟩⟩, hk.1.2.1⟩)) hg hat); replace HL896_1 := Aside0.mk (Kd.V_afterv (ok := (fun k_ => (w.heap.size ≤ k_) ∧ some k_ ≠ (.slice (some ad896) t888.length co15 : Value).ownBlock ∧ k_ ≠ gb883 ∧ k_ ≠ gb884 ∧ k_ ≠ gb891)) (by (with_reducible repeat (first | apply Kd.V_alloc | apply Kd.V_drewN | apply Kd.V_drew)); exact Kd.V_mono HL896_1.out (fun _ hk => ⟨⟨hk.1.1, ⟨hk.2, ⟨hk.1.2.2.1, ⟨hk.1.2.2.2.1, hk.1.2.2.2.2⟩⟩⟩⟩, hk.1.2.1⟩)) hg hat); replace HL901_0 := Aside0.mk (Kd.V_afterv (ok := (fun k_ => (w.heap.size ≤ k_) ∧ some k_ ≠ (.slice (some ad896) t888.length co15 : Value).ownBlock ∧ k_ ≠ gb883 ∧ k_ ≠ gb884 ∧ k_ ≠ gb891)) (by (with_reducible repeat (first | apply Kd.V_alloc | apply Kd.V_drewN | apply Kd.V_drew)); exact Kd.V_mono HL901_0.out (fun _ hk => ⟨⟨hk.1.1, ⟨hk.2, ⟨hk.1.2.2.1, ⟨hk.1.2.2.2.1, hk.1.2.2.2.2⟩⟩⟩⟩, hk.1.2.1⟩)) hg hat); replace HL901_1 := Aside0.mk (Kd.V_afterv (ok := (fun k_ => (w.heap.size ≤ k_) ∧ some k_ ≠ (.slice (some ad896) t888.length co15 : Value).ownBlock ∧ k_ ≠ gb883 ∧ k_ ≠ gb884 ∧ k_ ≠ gb891)) (by (with_reducible repeat (first | apply Kd.V_alloc | apply Kd.V_drewN | apply Kd.V_drew)); exact Kd.V_mono HL901_1.out (fun _ hk => ⟨⟨hk.1.1, ⟨hk.2, ⟨hk.1.2.2.1, ⟨hk.1.2.2.2.1, hk.1.2.2.2.2⟩⟩⟩⟩, hk.1.2.1⟩)) hg hat); replace HL903_0 := Aside0.mk (Kd.V_afterv (ok := (fun k_ => (w.heap.size ≤ k_) ∧ some k_ ≠ (.slice (some ad896) t888.length co15 : Value).ownBlock ∧ k_ ≠ gb883 ∧ k_ ≠ gb884 ∧ k_ ≠ gb891)) (by (with_reducible repeat (first | apply Kd.V_alloc | apply Kd.V_drewN | apply Kd.V_drew)); exact Kd.V_mono HL903_0.out (fun _ hk => ⟨⟨hk.1.1, ⟨hk.2, ⟨hk.1.2.2.1, ⟨hk.1.2.2.2.1, hk.1.2.2.2.2⟩⟩⟩⟩, hk.1.2.1⟩)) hg hat); replace HL903_1 := Aside0.mk (Kd.V_afterv (ok := (fun k_ => (w.heap.size ≤ k_) ∧ some k_ ≠ (.slice (some ad896) t888.length co15 : Value).ownBlock ∧ k_ ≠ gb883 ∧ k_ ≠ gb884 ∧ k_ ≠ gb891)) (by (with_reducible repeat (first | apply Kd.V_alloc | apply Kd.V_drewN | apply Kd.V_drew)); exact Kd.V_mono HL903_1.out (fun _ hk => ⟨⟨hk.1.1, ⟨hk.2, ⟨hk.1.2.2.1, ⟨hk.1.2.2.2.1, hk.1.2.2.2.2⟩⟩⟩⟩, hk.1.2.1⟩)) hg hat); replace HB := Aside0.mk (hb); have HO906 := Aside0.mk (ho); clear HO_6; clear ho hb hg hat))
 go_roundg k1
 case measure => have := HK1.out; omega
 case rel => exact ⟨(y904), (wrap64 (x7_1 + 1)), (sr_), H', ⟨by have := HK1.out; omega⟩, ⟨by (with_reducible repeat (first | apply Kd.N_alloc | apply Kd.N_drewN | apply Kd.N_drew)); exact HO906.out⟩, ⟨by (with_reducible repeat (first | apply Kd.N_alloc | apply Kd.N_drewN | apply Kd.N_drew)); exact Kd.N_mono HO_892003.out (fun _ hk => ⟨hk.1.1, ⟨hk.2, ⟨hk.1.2.1, ⟨hk.1.2.2.1, hk.1.2.2.2⟩⟩⟩⟩)⟩, ⟨bk_ BK883.out⟩, ⟨bk_ BK884.out⟩, ⟨bk_ BK891.out⟩, ⟨bl_⟩⟩

end Go.Proofs.Ytjfmpodeenidnaa.PC
