/- Contracts of functions of the program and of the reference, and plain lemmas on what they compute: a part of the proof of the law FnLessTold. No condition. -/
import Derived.Test.YtjfmpodeenidnaaG90508x0
import Derived.Test.YtjfmpodeenidnaaG90508x5
import Derived.Test.YtjfmpodeenidnaaJFnLessTold2
import Derived.Test.YtjfmpodeenidnaaG90508x3
import Derived.Test.YtjfmpodeenidnaaJFnLessTold3
import Derived.Test.YtjfmpodeenidnaaShortV
set_option maxHeartbeats 8000000
set_option maxRecDepth 100000
namespace Go.Proofs.Ytjfmpodeenidnaa.PC
open Go.RowKit Go.Proofs.Ytjfmpodeenidnaa.Short Go.Proofs.YtjfmpodeenidnaaW.PrintWords Go.Proofs.YtjfmpodeenidnaaW.PrintLast Go.Proofs.YtjfmpodeenidnaaW.PrintMore
attribute [local go_sem] max2_int min2_int max_two min_two max_three min_three max_four min_four   -- for this text's walks alone
set_option linter.unusedVariables false
set_option linter.unusedSimpArgs false

def impl_Unshadowed.l0 : Nat → List Int → List (S53) → List (S53) → Int → Int → Int → Int → Int → List (S53) → Option (Int × Int × Int × (List (S53)))
 | 0, _, _, _, _, _, _, _, _, _ => none
 | k + 1, x4, x5, x14, x15, x16, x790000, x790001, x790002, x790003 => if x16 < x15 then (if 0 ≤ x16 then (if x16 < (x14.length : Int) then ((slices_Contains_int_int.f k x4 x16).bind fun t798 => (if t798 = true then (impl_Unshadowed.l0 k x4 x5 x14 x15 (wrap64 (x16 + 1)) x790000 x790001 x790002 x790003) else (if x5.length < 2199023255552 then (impl_Unshadowed.l0 k x4 (x5 ++ [(⟨(rd_T53 x14 x16).f0, (rd_T53 x14 x16).f1, (rd_T53 x14 x16).f2, (rd_T53 x14 x16).f3⟩ : S53)]) x14 x15 (wrap64 (x16 + 1)) x790000 x790001 x790002 x790003) else (none)))) else (none)) else (none)) else (some (x790000, x790001, x790002, x5))
def impl_Unshadowed.f (k : Nat) (a0_0 : Int) (a0_1 : Int) (a0_2 : Int) (l0_3 : List (S53)) : Option (Int × Int × Int × (List (S53))) := (impl_copyPolicy.f k a0_0 a0_1 a0_2 l0_3).bind fun bt783 => ((impl_Shadowed.f k a0_0 a0_1 a0_2 l0_3).bind fun t790 => (impl_Unshadowed.l0 k t790 (([] : List (S53))) bt783.2.2.2 (bt783.2.2.2.length : Int) 0 bt783.1 bt783.2.1 bt783.2.2.1 bt783.2.2.2))
theorem impl_Unshadowed.mono_l : ∀ k, (∀ y0 y1 y2 y3 y4 y5 y6 y7 y8, LeO (impl_Unshadowed.l0 k y0 y1 y2 y3 y4 y5 y6 y7 y8) (impl_Unshadowed.l0 (k + 1) y0 y1 y2 y3 y4 y5 y6 y7 y8))
 | 0 => fun _ _ _ _ _ _ _ _ _ r h => by simp [impl_Unshadowed.l0] at h
 | k + 1 => by
  have ih0 := impl_Unshadowed.mono_l k
  ·intro y0 y1 y2 y3 y4 y5 y6 y7 y8
   unfold impl_Unshadowed.l0
   have m0 := @impl_Shadowed.mono
   have m1 := @impl_copyPolicy.mono
   have m2 := @slices_Contains_int_int.mono
   exact mo_
theorem impl_Unshadowed.mono : ∀ a0 a1 a2 a3 k, LeO (impl_Unshadowed.f k a0 a1 a2 a3) (impl_Unshadowed.f (k + 1) a0 a1 a2 a3) := by
 intro a0 a1 a2 a3 k
 have ih0 := impl_Unshadowed.mono_l k
 unfold impl_Unshadowed.f
 have m0 := @impl_Shadowed.mono
 have m1 := @impl_copyPolicy.mono
 have m2 := @slices_Contains_int_int.mono
 exact mo_
theorem impl_Unshadowed.calls (k : Nat) (a0_0 : Int) (a0_1 : Int) (a0_2 : Int) (A0_3 : Option Addr) (c0_3 : Nat) (l0_3 : List (S53)) (r1 : Int) (r2 : Int) (r3 : Int) (r4 : List (S53)) (w : World) (hr0_3 : Kd.C k53 w A0_3 l0_3.length l0_3) (hc0_3 : l0_3.length ≤ c0_3) (h : impl_Unshadowed.f k a0_0 a0_1 a0_2 l0_3 = some (r1, r2, r3, r4)) :
 Calls Try.prog 34 #[.agg #[.int .i64 a0_0, .int .i64 a0_1, .int .i64 a0_2, .slice A0_3 l0_3.length c0_3]] w fun e w' => ∃ v3_ : Value, e = .returned (.agg #[.int .i64 r1, .int .i64 r2, .int .i64 r3, v3_]) ∧ Kd.N k53 53 w' w.heap.size (fun k_ => (w.heap.size ≤ k_)) v3_ r4 ∧ Below w.heap.size w w' := by
 have hu36 := Try.underlying36
 have hu53 := Try.underlying53
 have HR0_3 := Aside0.mk hr0_3
 have HC0_3 := Aside0.mk hc0_3
 clear hr0_3 hc0_3
 have HB := Aside0.mk (Below.refl w.heap.size w)
 have H := h
 unfold impl_Unshadowed.f at H
 clear h
 replace H := bs_ H
 obtain ⟨⟨t783, t784, t785, t786⟩, A2, H⟩ := H
 try dsimp only at H
 replace H := bs_ H
 obtain ⟨t790, A3, H⟩ := H
 try dsimp only at H
 obtain ⟨y793, hy793⟩ : ∃ y_ : List (S53), y_ = (([] : List (S53))) := ⟨_, rfl⟩
 replace H : (impl_Unshadowed.l0 k t790 y793 t786 (t786.length : Int) 0 t783 t784 t785 t786) = some (r1, r2, r3, r4) := rp_ H hy793
 have Ny793 := Aside0.mk hy793
 clear hy793
 have H' := Aside0.mk H
 clear H
 go_enter Try.func34, Try.ntmps34
 go_wp2_with (first | ((with_reducible refine gate_dst (N := 1) rfl ?_); refine bx_ 1 36 #[.int .i64 a0_0, .int .i64 a0_1, .int .i64 a0_2, .slice A0_3 l0_3.length c0_3] ?_; intro gb781 hg w4 hbox hb; have BK781 := Aside0.mk (hbox); have GW781 := Aside0.mk ((hz_ : w.heap.size ≤ gb781)); have GE781 := GW781; replace HB := Aside0.mk (below_step bl_ hb); clear hb hbox hg) | ((with_reducible refine gate_dst (N := 2) rfl ?_); refine bx_ 2 36 #[.int .i64 0, .int .i64 0, .int .i64 0, .slice none 0 0] ?_; intro gb782 hg w5 hbox hb; have BK782 := Aside0.mk (hbox); have GW782 := Aside0.mk ((hz_ : w.heap.size ≤ gb782)); have GE782 := GW782; replace HB := Aside0.mk (below_step bl_ hb); have NB781_782 := Aside0.mk (nl_ BK781.out hg); have NB782_781 := Aside0.mk (ng_ BK781.out hg); replace BK781 := bb0_ BK781.out hb; clear hb hbox hg; have hnb6 := NB781_782.out; have hnc6 := NB782_781.out; obtain ⟨hcz7_0, hcz7_1, hcz7_2, hcz7_3, hfz7_0, hfz7_1, hfz7_2, hfz7_3⟩ := cf4_ BK781.out) | ((with_reducible refine gate_callee (f := 67) rfl ?_); refine gs_ (some 9) Try.func67 #[.agg #[.int .i64 a0_0, .int .i64 a0_1, .int .i64 a0_2, .slice A0_3 l0_3.length c0_3]] ?_; (with_reducible refine (impl_copyPolicy.calls k a0_0 a0_1 a0_2 _ _ l0_3 t783 t784 t785 t786 _ ?side1 ?side2 A2.out).mono ?_); (case side1 => exact cb_ HR0_3.out HB.out); (case side2 => exact HC0_3.out); rintro e w8 ⟨v787, rfl, ho0, hb⟩; refine ⟨_, rfl, ?_⟩; have HO788 := Aside0.mk (Kd.N_lower (Kd.N_mono (ok' := fun k_ => (w.heap.size ≤ k_) ∧ k_ ≠ gb781 ∧ k_ ≠ gb782) (Kd.S_N (Kd.S_bound ho0)) (fun k_ hk_ => ⟨(Nat.le_trans (below_size bl_) hk_.2.1), (fb_ BK781.out k_ hk_.2.1), (fb_ BK782.out k_ hk_.2.1)⟩)) (below_size bl_)); replace BK781 := bb0_ BK781.out hb; replace BK782 := bb0_ BK782.out hb; replace HB := Aside0.mk (below_step bl_ hb); (try clear hb); (try clear ho0)) | ((with_reducible refine gate_dst (N := 3) rfl ?_); refine bx_ 3 36 #[.int .i64 0, .int .i64 0, .int .i64 0, .slice none 0 0] ?_; intro gb789 hg w9 hbox hb; replace HO788 := Aside0.mk (Kd.N_below (Kd.N_elderB (na_ HO788.out) gb789 (Nat.le_of_eq hg.symm)) hb); have BK789 := Aside0.mk (hbox); have GW789 := Aside0.mk ((hz_ : w.heap.size ≤ gb789)); have GE789 := GW789; replace HB := Aside0.mk (below_step bl_ hb); have NB781_789 := Aside0.mk (nl_ BK781.out hg); have NB789_781 := Aside0.mk (ng_ BK781.out hg); replace BK781 := bb0_ BK781.out hb; have NB782_789 := Aside0.mk (nl_ BK782.out hg); have NB789_782 := Aside0.mk (ng_ BK782.out hg); replace BK782 := bb0_ BK782.out hb; clear hb hbox hg; have hnb10 := NB789_781.out; have hnc10 := NB781_789.out; have hnb11 := NB789_782.out; have hnc11 := NB782_789.out; obtain ⟨hcz12_0, hcz12_1, hcz12_2, hcz12_3, hfz12_0, hfz12_1, hfz12_2, hfz12_3⟩ := cf4_ BK789.out; obtain ⟨Ao13, co13, eo13⟩ := Kd.N_slice HO788.out; subst eo13; obtain ⟨hcz14_0, hcz14_1, hcz14_2, hcz14_3, hfz14_0, hfz14_1, hfz14_2, hfz14_3⟩ := cf4_ BK781.out) | ((with_reducible refine gate_callee (f := 31) rfl ?_); refine gs_ (some 11) Try.func31 #[.agg #[.int .i64 a0_0, .int .i64 a0_1, .int .i64 a0_2, .slice A0_3 l0_3.length c0_3]] ?_; (with_reducible refine (impl_Shadowed.calls k a0_0 a0_1 a0_2 _ _ l0_3 t790 _ ?side1 ?side2 A3.out).mono ?_); (case side1 => exact Kd.C_below HR0_3.out bl_); (case side2 => exact HC0_3.out); rintro e w15 ⟨v791, rfl, ho0, hb⟩; refine ⟨_, rfl, ?_⟩; replace HO788 := Aside0.mk (Kd.N_elder' (by (with_reducible repeat (first | apply Kd.N_alloc | apply Kd.N_drewN | apply Kd.N_drew)); exact (Kd.N_mono (Kd.N_far (p := ⟨gb789, 3, none⟩) (Kd.N_far (p := ⟨gb789, 2, none⟩) (Kd.N_far (p := ⟨gb789, 1, none⟩) (Kd.N_far (p := ⟨gb789, 0, none⟩) (Kd.N_mono HO788.out (fun k_ hk => (⟨hk, hk.2⟩ : _ ∧ k_ ≠ gb789))) (fun _ hk => hk.2) (.int .i64 t783)) (fun _ hk => hk.2) (.int .i64 t784)) (fun _ hk => hk.2) (.int .i64 t785)) (fun _ hk => hk.2) (.slice Ao13 t786.length co13)) (fun _ h_ => h_.1))) (Kd.R_base ho0) hb); have HO792 := Aside0.mk (Kd.R_lower (Kd.R_newM (M := fun k_ => (w.heap.size ≤ k_)) ho0 (below_size bl_) (fun k_ h_ => h_)) (below_size bl_)); replace BK781 := bb1_ BK781.out NB781_789.out hb; replace BK782 := bb1_ BK782.out NB782_789.out hb; replace BK789 := Aside0.mk (blk_below (g := gb789) (o := .cells #[.int .i64 t783, .int .i64 t784, .int .i64 t785, .slice Ao13 t786.length co13] 36 (0, 0)) (bp0_ BK789.out) hb); replace HB := Aside0.mk (below_step bl_ hb); (try clear hb); (try clear ho0)) | ((with_reducible refine gate_dst (N := 12) rfl ?_); refine Kd.N_lit k53 _ 53 ?hg (N' := 12) ?hd (xs := ([] : List (S53))) (inner := []) (ok := (fun k_ => (w.heap.size ≤ k_) ∧ some k_ ≠ (.slice Ao13 t786.length co13 : Value).ownBlock ∧ some k_ ≠ (v791 : Value).ownBlock ∧ k_ ≠ gb781 ∧ k_ ≠ gb782 ∧ k_ ≠ gb789)) (okp := (fun k_ => (w.heap.size ≤ k_) ∧ some k_ ≠ (.slice Ao13 t786.length co13 : Value).ownBlock ∧ some k_ ≠ (v791 : Value).ownBlock ∧ k_ ≠ gb781 ∧ k_ ≠ gb782 ∧ k_ ≠ gb789)) ?hr ?hp (fun _ hk => hk) ((show ∀ k_, w15.heap.size ≤ k_ → (fun k_ => (w.heap.size ≤ k_) ∧ some k_ ≠ (.slice Ao13 t786.length co13 : Value).ownBlock ∧ some k_ ≠ (v791 : Value).ownBlock ∧ k_ ≠ gb781 ∧ k_ ≠ gb782 ∧ k_ ≠ gb789) k_ from fun k_ hk => ⟨(Nat.le_trans (below_size bl_) hk), Kd.fresh' (Kd.N_lt (na_ HO788.out)) k_ hk, Kd.fresh' (Kd.R_lt (ra_ HO792.out)) k_ hk, fb_ BK781.out k_ hk, fb_ BK782.out k_ hk, fb_ BK789.out k_ hk⟩) _ (Nat.le_refl _)) (Below.refl _ _) (Nat.le_refl _) (by simp) ?_; (case hd => rfl); (case hg => rfl); (case hr => first | (go_simp; done) | (go_simp; rfl)); (case hp => exact (Reps.none _ _)); intro v794 w16 ho17 hb hg_ hnew_; clear hg_ hnew_; (first | rw [← Ny793.out] at ho17 | (simp only [Int.reduceToNat] at ho17; rw [← Ny793.out] at ho17)); replace HO788 := Aside0.mk (Kd.N_elder' (na_ HO788.out) (Kd.N_base ho17) hb); replace HO792 := Aside0.mk (Kd.R_below (ra_ HO792.out) hb); have HO795 := Aside0.mk (Kd.N_lower ho17 (below_size bl_)); replace BK781 := bb0_ BK781.out hb; replace BK782 := bb0_ BK782.out hb; replace BK789 := bb0_ BK789.out hb; replace HB := Aside0.mk (below_step bl_ hb); clear hb ho17; obtain ⟨hcz18_0, hcz18_1, hcz18_2, hcz18_3, hfz18_0, hfz18_1, hfz18_2, hfz18_3⟩ := cf4_ BK789.out))
 go_loopg [5, 16] k (fun kq v5 v16 w' => ∃ (x5_1 : List (S53)) (x16_1 : Int), v16 = .int .i64 x16_1 ∧ Aside0 (impl_Unshadowed.l0 kq t790 x5_1 t786 (t786.length : Int) x16_1 t783 t784 t785 t786 = some (r1, r2, r3, r4)) ∧ Aside0 (kq ≤ k) ∧ Aside0 (Kd.R (Kd.int .i64) 3 w' w.heap.size (fun k_ => (w.heap.size ≤ k_)) v791 t790) ∧ Aside0 (Kd.N k53 53 w' w.heap.size (fun k_ => (w.heap.size ≤ k_) ∧ some k_ ≠ (v791 : Value).ownBlock ∧ some k_ ≠ ((.slice Ao13 t786.length co13) : Value).ownBlock ∧ k_ ≠ gb781 ∧ k_ ≠ gb782 ∧ k_ ≠ gb789) v5 x5_1) ∧ Aside0 (Kd.N k53 53 w' w.heap.size (fun k_ => (w.heap.size ≤ k_) ∧ some k_ ≠ (v791 : Value).ownBlock ∧ some k_ ≠ (v5 : Value).ownBlock ∧ k_ ≠ gb781 ∧ k_ ≠ gb782 ∧ k_ ≠ gb789) (.slice Ao13 t786.length co13) t786) ∧ Aside0 (Kd.N k53 53 w' w.heap.size (fun k_ => (w.heap.size ≤ k_) ∧ some k_ ≠ (v791 : Value).ownBlock ∧ some k_ ≠ (v5 : Value).ownBlock ∧ k_ ≠ gb781 ∧ k_ ≠ gb782 ∧ k_ ≠ gb789) (.slice Ao13 t786.length co13) t786) ∧ Aside0 (w'.heap[gb781]? = some (.cells #[.int .i64 a0_0, .int .i64 a0_1, .int .i64 a0_2, (.slice A0_3 l0_3.length c0_3)] 36 (0, 0))) ∧ Aside0 (w'.heap[gb782]? = some (.cells #[.int .i64 0, .int .i64 0, .int .i64 0, (.slice none 0 0)] 36 (0, 0))) ∧ Aside0 (w'.heap[gb789]? = some (.cells #[.int .i64 t783, .int .i64 t784, .int .i64 t785, (.slice Ao13 t786.length co13)] 36 (0, 0))) ∧ Aside0 (Below w.heap.size w w'))
 case atStart => exact ⟨(y793), (0), (sr_), H', ⟨Nat.le_refl _⟩, ⟨by (with_reducible repeat (first | apply Kd.R_alloc | apply Kd.R_drewN | apply Kd.R_drew)); exact Kd.R_mono HO792.out (fun _ hk => hk.1)⟩, ⟨by (with_reducible repeat (first | apply Kd.N_alloc | apply Kd.N_drewN | apply Kd.N_drew)); exact Kd.N_mono HO795.out (fun _ hk => ⟨hk.1, ⟨hk.2.2.1, ⟨hk.2.1, ⟨hk.2.2.2.1, ⟨hk.2.2.2.2.1, hk.2.2.2.2.2⟩⟩⟩⟩⟩)⟩, ⟨by (with_reducible repeat (first | apply Kd.N_alloc | apply Kd.N_drewN | apply Kd.N_drew)); exact Kd.N_mono HO788.out (fun _ hk => ⟨hk.1.1.1.1, ⟨hk.1.2, ⟨hk.2, ⟨hk.1.1.1.2.1, ⟨hk.1.1.1.2.2, hk.1.1.2⟩⟩⟩⟩⟩)⟩, ⟨by (with_reducible repeat (first | apply Kd.N_alloc | apply Kd.N_drewN | apply Kd.N_drew)); exact Kd.N_mono HO788.out (fun _ hk => ⟨hk.1.1.1.1, ⟨hk.1.2, ⟨hk.2, ⟨hk.1.1.1.2.1, ⟨hk.1.1.1.2.2, hk.1.1.2⟩⟩⟩⟩⟩)⟩, ⟨bk_ BK781.out⟩, ⟨bk_ BK782.out⟩, ⟨bk_ BK789.out⟩, ⟨bl_⟩⟩
 clear H'
 try clear hcz12_0
 try clear hcz12_1
 try clear hcz12_2
 try clear hcz12_3
 try clear hcz14_0
 try clear hcz14_1
 try clear hcz14_2
 try clear hcz14_3
 try clear hcz18_0
 try clear hcz18_1
 try clear hcz18_2
 try clear hcz18_3
 try clear hcz7_0
 try clear hcz7_1
 try clear hcz7_2
 try clear hcz7_3
 try clear hfz12_0
 try clear hfz12_1
 try clear hfz12_2
 try clear hfz12_3
 try clear hfz14_0
 try clear hfz14_1
 try clear hfz14_2
 try clear hfz14_3
 try clear hfz18_0
 try clear hfz18_1
 try clear hfz18_2
 try clear hfz18_3
 try clear hfz7_0
 try clear hfz7_1
 try clear hfz7_2
 try clear hfz7_3
 obtain ⟨x5_1, x16_1, rfl, HA, HK1, HO_4, HO_5, HO_14, HO_790003, BK781, BK782, BK789, HB⟩ := hrel
 cases gk with
 | zero => exact absurd HA.out (by simp [impl_Unshadowed.l0])
 | succ k1 => ?_
 have H := HA.out
 clear HA
 simp only [impl_Unshadowed.l0] at H
 by_cases c19 : x16_1 < (t786.length : Int)
 rotate_left
 ·rw [if_neg c19] at H
  have c19b0 := decide_eq_false c19
  clear c19
  simp only [Option.some.injEq, Prod.mk.injEq] at H
  obtain ⟨rfl, rfl, rfl, rfl⟩ := H
  obtain ⟨Ao40, co40, eo40⟩ := Kd.N_slice HO_5.out
  subst eo40
  have hnb41 := NB789_781.out
  have hnc41 := NB781_789.out
  have hnb42 := NB789_782.out
  have hnc42 := NB782_789.out
  obtain ⟨hcz43_0, hcz43_1, hcz43_2, hcz43_3, hfz43_0, hfz43_1, hfz43_2, hfz43_3⟩ := cf4_ BK789.out
  have hnb44 := NB782_781.out
  have hnc44 := NB781_782.out
  obtain ⟨hcz45_0, hcz45_1, hcz45_2, hcz45_3, hfz45_0, hfz45_1, hfz45_2, hfz45_3⟩ := cf4_ BK782.out
  go_wp2
  refine bodyPost_ret (results_cell_row rfl _ _ gb782 36 #[.int .i64 t783, .int .i64 t784, .int .i64 t785, .slice Ao40 x5_1.length co40] (0, 0) _ rfl (bp1_ BK782.out NB782_789.out) Try.underlying36 rfl (by kernel_rfl)) rfl ?_
  exact ⟨_, er_, by (with_reducible repeat (first | apply Kd.N_alloc | apply Kd.N_drewN | apply Kd.N_drew)); exact Kd.N_mono (Kd.N_far (p := ⟨gb782, 3, none⟩) (Kd.N_far (p := ⟨gb782, 2, none⟩) (Kd.N_far (p := ⟨gb782, 1, none⟩) (Kd.N_far (p := ⟨gb782, 0, none⟩) (Kd.N_far (p := ⟨gb789, 3, none⟩) (Kd.N_mono (Kd.N_mono HO_5.out (fun k_ hk => (⟨hk, hk.2.2.2.2.2⟩ : _ ∧ k_ ≠ gb789))) (fun k_ hk => (⟨hk, hk.1.2.2.2.2.1⟩ : _ ∧ k_ ≠ gb782))) (fun _ hk => hk.1.2) (.slice Ao40 x5_1.length co40)) (fun _ hk => hk.2) (.int .i64 t783)) (fun _ hk => hk.2) (.int .i64 t784)) (fun _ hk => hk.2) (.int .i64 t785)) (fun _ hk => hk.2) (.slice Ao40 x5_1.length co40)) (fun _ hk => hk.1.1.1), bl_⟩
 rw [if_pos c19] at H
 have c19b0 := decide_eq_true c19
 clear c19
 by_cases c20 : 0 ≤ x16_1
 rotate_left
 ·exact nn_ c20 H
 rw [if_pos c20] at H
 have c20b0 := decide_eq_true c20
 clear c20
 by_cases c21 : x16_1 < (t786.length : Int)
 rotate_left
 ·exact nn_ c21 H
 rw [if_pos c21] at H
 have c21b0 := decide_eq_true c21
 clear c21
 replace H := bs_ H
 obtain ⟨t798, A22, H⟩ := H
 try dsimp only at H
 by_cases c23 : t798 = true
 ·subst c23
  rw [if_pos rfl] at H
  have H' := Aside0.mk H
  clear H
  have p796 : 0 ≤ (x16_1 : Int) := of_decide_eq_true as_
  have q796 : x16_1 < (t786.length : Int) := of_decide_eq_true as_
  obtain ⟨ad796, A796_0, c796_0, A796_1, c796_1, e796, hx796_0, hx796_1, hx796_2, hx796_3, hl796_0, hi796_0, hl796_1, hi796_1⟩ := at_T53 (Kd.N_reads' HO_14.out).2.2 x16_1 p796 q796
  cases e796
  obtain ⟨ce796, hce796, hMe796, hcc796⟩ := Kd.N_get HO_14.out z53 x16_1 p796 (by first | exact q796 | exact of_decide_eq_true as_ | (have e_ := (Kd.N_reads' HO_14.out).1; omega))
  obtain ⟨ua796_0, uc796_0, ua796_1, uc796_1, rfl, ul796_0, ge796_0, ul796_1, ge796_1⟩ := k53_openF hMe796
  have hv796_0 := hcc796 0 _ rfl
  rw [Nat.add_zero] at hv796_0
  replace hv796_0 := Option.some.inj (hv796_0.symm.trans hx796_0)
  injection hv796_0 with hva_ hvn_ hvc_
  rw [hva_] at ge796_0
  rw [hvc_] at ul796_0
  have HL796_0 := Aside0.mk (show Kd.V (Kd.int .i64) 3 _ w.heap.size _ _ ((rd_T53 t786 x16_1).f0) from Kd.V_mk ul796_0 ge796_0)
  clear hva_ hvn_ hvc_ ge796_0 ul796_0
  have hv796_1 := hcc796 1 _ rfl
  rw [add_field _ _ 1 (by omega)] at hv796_1
  replace hv796_1 := Option.some.inj (hv796_1.symm.trans hx796_1)
  injection hv796_1 with hva_ hvn_ hvc_
  rw [hva_] at ge796_1
  rw [hvc_] at ul796_1
  have HL796_1 := Aside0.mk (show Kd.V k100 100 _ w.heap.size _ _ ((rd_T53 t786 x16_1).f1) from Kd.V_mk ul796_1 ge796_1)
  clear hva_ hvn_ hvc_ ge796_1 ul796_1
  clear hcc796 hce796
  have HR796_0 := Aside0.mk hi796_0
  have HC796_0 := Aside0.mk hl796_0
  clear hi796_0 hl796_0
  have HR796_1 := Aside0.mk hi796_1
  have HC796_1 := Aside0.mk hl796_1
  clear hi796_1 hl796_1
  replace p796 := eq_true p796
  replace q796 := eq_true q796
  go_wp2_with (first | ((with_reducible refine gate_dst (N := 7) rfl ?_); refine bx_ 7 53 #[.slice none 0 0, .slice none 0 0, .int .i64 0, .int .i64 0] ?_; intro gb797 hg w24 hbox hb; replace HO_4 := Aside0.mk (Kd.R_below (ra_ HO_4.out) hb); replace HO_5 := Aside0.mk (Kd.N_below (Kd.N_elderB (na_ HO_5.out) gb797 (Nat.le_of_eq hg.symm)) hb); replace HO_14 := Aside0.mk (Kd.N_below (Kd.N_elderB (na_ HO_14.out) gb797 (Nat.le_of_eq hg.symm)) hb); replace HO_790003 := Aside0.mk (Kd.N_below (Kd.N_elderB (na_ HO_790003.out) gb797 (Nat.le_of_eq hg.symm)) hb); replace HL796_0 := Aside0.mk (Kd.V_below (Kd.V_elderB (by (with_reducible repeat (first | apply Kd.V_alloc | apply Kd.V_drewN | apply Kd.V_drew)); exact HL796_0.out) gb797 (Nat.le_of_eq hg.symm)) hb); replace HL796_1 := Aside0.mk (Kd.V_below (Kd.V_elderB (by (with_reducible repeat (first | apply Kd.V_alloc | apply Kd.V_drewN | apply Kd.V_drew)); exact HL796_1.out) gb797 (Nat.le_of_eq hg.symm)) hb); replace HR796_0 := Aside0.mk (Kd.C_below (by repeat (first | (with_reducible exact HR796_0.out) | (with_reducible refine Kd.C_alloc ?_ _) | (with_reducible refine Kd.C_drewN ?_ _) | (with_reducible refine Kd.C_drew ?_) | exact HR796_0.out)) hb); replace HR796_1 := Aside0.mk (Kd.C_below (by repeat (first | (with_reducible exact HR796_1.out) | (with_reducible refine Kd.C_alloc ?_ _) | (with_reducible refine Kd.C_drewN ?_ _) | (with_reducible refine Kd.C_drew ?_) | exact HR796_1.out)) hb); have BK797 := Aside0.mk (hbox); have GW797 := Aside0.mk ((hz_ : w.heap.size ≤ gb797)); have GE797 := GW797; replace HB := Aside0.mk (below_step bl_ hb); have NB781_797 := Aside0.mk (nl_ BK781.out hg); have NB797_781 := Aside0.mk (ng_ BK781.out hg); replace BK781 := bb0_ BK781.out hb; have NB782_797 := Aside0.mk (nl_ BK782.out hg); have NB797_782 := Aside0.mk (ng_ BK782.out hg); replace BK782 := bb0_ BK782.out hb; have NB789_797 := Aside0.mk (nl_ BK789.out hg); have NB797_789 := Aside0.mk (ng_ BK789.out hg); replace BK789 := bb0_ BK789.out hb; clear hb hbox hg; have hnb25 := NB797_781.out; have hnc25 := NB781_797.out; have hnb26 := NB797_782.out; have hnc26 := NB782_797.out; have hnb27 := NB797_789.out; have hnc27 := NB789_797.out; obtain ⟨hcz28_0, hcz28_1, hcz28_2, hcz28_3, hfz28_0, hfz28_1, hfz28_2, hfz28_3⟩ := cf4_ BK797.out; obtain ⟨Ao29, co29, eo29⟩ := Kd.R_slice HO_4.out; subst eo29) | ((with_reducible refine gate_callee (f := 70) rfl ?_); refine gs_ (some 23) Try.func70 #[.slice Ao29 t790.length co29, .int .i64 x16_1] ?_; (with_reducible refine (slices_Contains_int_int.calls k1 _ _ t790 x16_1 true _ ?side1 ?side2 A22.out).mono ?_); (case side1 => refine (Kd.R_reads' (e := 3) (base := w.heap.size) (ok := fun k_ => (w.heap.size ≤ k_)) (n := t790.length) (c := co29) ?_).2.2; exact (rfa_ HO_4.out BK797.out)); (case side2 => exact (Kd.R_reads' HO_4.out).2.1); rintro e w' ⟨rfl, ⟨nd, rfl⟩⟩; refine ⟨_, rfl, ?_⟩))
  go_roundg k1
  case measure => have := HK1.out; omega
  case rel => exact ⟨(x5_1), (wrap64 (x16_1 + 1)), (sr_), H', ⟨by have := HK1.out; omega⟩, ⟨by (with_reducible repeat (first | apply Kd.R_alloc | apply Kd.R_drewN | apply Kd.R_drew)); exact Kd.R_mono (Kd.R_far (p := ⟨gb797, 3, none⟩) (Kd.R_far (p := ⟨gb797, 2, none⟩) (Kd.R_far (p := ⟨gb797, 1, none⟩) (Kd.R_far (p := ⟨gb797, 0, none⟩) (Kd.R_types HO_4.out BK797.out (by decide)) (fun _ hk => hk.2) (.slice A796_0 ((rd_T53 t786 x16_1).f0).length c796_0)) (fun _ hk => hk.2) (.slice A796_1 ((rd_T53 t786 x16_1).f1).length c796_1)) (fun _ hk => hk.2) (.int .i64 ((rd_T53 t786 x16_1).f2))) (fun _ hk => hk.2) (.int .i64 ((rd_T53 t786 x16_1).f3))) (fun _ hk => hk.1)⟩, ⟨by (with_reducible repeat (first | apply Kd.N_alloc | apply Kd.N_drewN | apply Kd.N_drew)); exact Kd.N_mono (Kd.N_far (p := ⟨gb797, 3, none⟩) (Kd.N_far (p := ⟨gb797, 2, none⟩) (Kd.N_far (p := ⟨gb797, 1, none⟩) (Kd.N_far (p := ⟨gb797, 0, none⟩) (Kd.N_mono HO_5.out (fun k_ hk => (⟨hk, hk.2⟩ : _ ∧ k_ ≠ gb797))) (fun _ hk => hk.2) (.slice A796_0 ((rd_T53 t786 x16_1).f0).length c796_0)) (fun _ hk => hk.2) (.slice A796_1 ((rd_T53 t786 x16_1).f1).length c796_1)) (fun _ hk => hk.2) (.int .i64 ((rd_T53 t786 x16_1).f2))) (fun _ hk => hk.2) (.int .i64 ((rd_T53 t786 x16_1).f3))) (fun _ hk => ⟨hk.1.1.1, ⟨hk.1.1.2.1, ⟨hk.1.1.2.2.1, ⟨hk.1.1.2.2.2.1, ⟨hk.1.1.2.2.2.2.1, hk.1.1.2.2.2.2.2⟩⟩⟩⟩⟩)⟩, ⟨by (with_reducible repeat (first | apply Kd.N_alloc | apply Kd.N_drewN | apply Kd.N_drew)); exact Kd.N_mono (Kd.N_far (p := ⟨gb797, 3, none⟩) (Kd.N_far (p := ⟨gb797, 2, none⟩) (Kd.N_far (p := ⟨gb797, 1, none⟩) (Kd.N_far (p := ⟨gb797, 0, none⟩) (Kd.N_mono HO_14.out (fun k_ hk => (⟨hk, hk.2⟩ : _ ∧ k_ ≠ gb797))) (fun _ hk => hk.2) (.slice A796_0 ((rd_T53 t786 x16_1).f0).length c796_0)) (fun _ hk => hk.2) (.slice A796_1 ((rd_T53 t786 x16_1).f1).length c796_1)) (fun _ hk => hk.2) (.int .i64 ((rd_T53 t786 x16_1).f2))) (fun _ hk => hk.2) (.int .i64 ((rd_T53 t786 x16_1).f3))) (fun _ hk => ⟨hk.1.1.1, ⟨hk.1.1.2.1, ⟨hk.1.1.2.2.1, ⟨hk.1.1.2.2.2.1, ⟨hk.1.1.2.2.2.2.1, hk.1.1.2.2.2.2.2⟩⟩⟩⟩⟩)⟩, ⟨by (with_reducible repeat (first | apply Kd.N_alloc | apply Kd.N_drewN | apply Kd.N_drew)); exact Kd.N_mono (Kd.N_far (p := ⟨gb797, 3, none⟩) (Kd.N_far (p := ⟨gb797, 2, none⟩) (Kd.N_far (p := ⟨gb797, 1, none⟩) (Kd.N_far (p := ⟨gb797, 0, none⟩) (Kd.N_mono HO_790003.out (fun k_ hk => (⟨hk, hk.2⟩ : _ ∧ k_ ≠ gb797))) (fun _ hk => hk.2) (.slice A796_0 ((rd_T53 t786 x16_1).f0).length c796_0)) (fun _ hk => hk.2) (.slice A796_1 ((rd_T53 t786 x16_1).f1).length c796_1)) (fun _ hk => hk.2) (.int .i64 ((rd_T53 t786 x16_1).f2))) (fun _ hk => hk.2) (.int .i64 ((rd_T53 t786 x16_1).f3))) (fun _ hk => ⟨hk.1.1.1, ⟨hk.1.1.2.1, ⟨hk.1.1.2.2.1, ⟨hk.1.1.2.2.2.1, ⟨hk.1.1.2.2.2.2.1, hk.1.1.2.2.2.2.2⟩⟩⟩⟩⟩)⟩, ⟨bp1_ BK781.out NB781_797.out⟩, ⟨bp1_ BK782.out NB782_797.out⟩, ⟨bp1_ BK789.out NB789_797.out⟩, ⟨bl_⟩⟩
 replace c23 := Bool.eq_false_iff.mpr c23
 subst c23
 rw [nf_] at H
 by_cases c30 : x5_1.length < 2199023255552
 rotate_left
 ·exact nn_ c30 H
 rw [if_pos c30] at H
 have LMc30 := Aside0.mk c30
 clear c30
 obtain ⟨y799, hy799⟩ : ∃ y_ : List (S53), y_ = (x5_1 ++ [(⟨(rd_T53 t786 x16_1).f0, (rd_T53 t786 x16_1).f1, (rd_T53 t786 x16_1).f2, (rd_T53 t786 x16_1).f3⟩ : S53)]) := ⟨_, rfl⟩
 replace H : (impl_Unshadowed.l0 k1 t790 y799 t786 (t786.length : Int) (wrap64 (x16_1 + 1)) t783 t784 t785 t786) = some (r1, r2, r3, r4) := rp_ H hy799
 have Ny799 := Aside0.mk hy799
 clear hy799
 have H' := Aside0.mk H
 clear H
 have p796 : 0 ≤ (x16_1 : Int) := of_decide_eq_true as_
 have q796 : x16_1 < (t786.length : Int) := of_decide_eq_true as_
 obtain ⟨ad796, A796_0, c796_0, A796_1, c796_1, e796, hx796_0, hx796_1, hx796_2, hx796_3, hl796_0, hi796_0, hl796_1, hi796_1⟩ := at_T53 (Kd.N_reads' HO_14.out).2.2 x16_1 p796 q796
 cases e796
 obtain ⟨ce796, hce796, hMe796, hcc796⟩ := Kd.N_get HO_14.out z53 x16_1 p796 (by first | exact q796 | exact of_decide_eq_true as_ | (have e_ := (Kd.N_reads' HO_14.out).1; omega))
 obtain ⟨ua796_0, uc796_0, ua796_1, uc796_1, rfl, ul796_0, ge796_0, ul796_1, ge796_1⟩ := k53_openF hMe796
 have hv796_0 := hcc796 0 _ rfl
 rw [Nat.add_zero] at hv796_0
 replace hv796_0 := Option.some.inj (hv796_0.symm.trans hx796_0)
 injection hv796_0 with hva_ hvn_ hvc_
 rw [hva_] at ge796_0
 rw [hvc_] at ul796_0
 have HL796_0 := Aside0.mk (show Kd.V (Kd.int .i64) 3 _ w.heap.size _ _ ((rd_T53 t786 x16_1).f0) from Kd.V_mk ul796_0 ge796_0)
 clear hva_ hvn_ hvc_ ge796_0 ul796_0
 have hv796_1 := hcc796 1 _ rfl
 rw [add_field _ _ 1 (by omega)] at hv796_1
 replace hv796_1 := Option.some.inj (hv796_1.symm.trans hx796_1)
 injection hv796_1 with hva_ hvn_ hvc_
 rw [hva_] at ge796_1
 rw [hvc_] at ul796_1
 have HL796_1 := Aside0.mk (show Kd.V k100 100 _ w.heap.size _ _ ((rd_T53 t786 x16_1).f1) from Kd.V_mk ul796_1 ge796_1)
 clear hva_ hvn_ hvc_ ge796_1 ul796_1
 clear hcc796 hce796
 have HR796_0 := Aside0.mk hi796_0
 have HC796_0 := Aside0.mk hl796_0
 clear hi796_0 hl796_0
 have HR796_1 := Aside0.mk hi796_1
 have HC796_1 := Aside0.mk hl796_1
 clear hi796_1 hl796_1
 replace p796 := eq_true p796
 replace q796 := eq_true q796
 go_wp2_with (first | ((with_reducible refine gate_dst (N := 7) rfl ?_); refine bx_ 7 53 #[.slice none 0 0, .slice none 0 0, .int .i64 0, .int .i64 0] ?_; intro gb797 hg w31 hbox hb; replace HO_4 := Aside0.mk (Kd.R_below (ra_ HO_4.out) hb); replace HO_5 := Aside0.mk (Kd.N_below (Kd.N_elderB (na_ HO_5.out) gb797 (Nat.le_of_eq hg.symm)) hb); replace HO_14 := Aside0.mk (Kd.N_below (Kd.N_elderB (na_ HO_14.out) gb797 (Nat.le_of_eq hg.symm)) hb); replace HO_790003 := Aside0.mk (Kd.N_below (Kd.N_elderB (na_ HO_790003.out) gb797 (Nat.le_of_eq hg.symm)) hb); replace HL796_0 := Aside0.mk (Kd.V_below (Kd.V_elderB (by (with_reducible repeat (first | apply Kd.V_alloc | apply Kd.V_drewN | apply Kd.V_drew)); exact HL796_0.out) gb797 (Nat.le_of_eq hg.symm)) hb); replace HL796_1 := Aside0.mk (Kd.V_below (Kd.V_elderB (by (with_reducible repeat (first | apply Kd.V_alloc | apply Kd.V_drewN | apply Kd.V_drew)); exact HL796_1.out) gb797 (Nat.le_of_eq hg.symm)) hb); replace HR796_0 := Aside0.mk (Kd.C_below (by repeat (first | (with_reducible exact HR796_0.out) | (with_reducible refine Kd.C_alloc ?_ _) | (with_reducible refine Kd.C_drewN ?_ _) | (with_reducible refine Kd.C_drew ?_) | exact HR796_0.out)) hb); replace HR796_1 := Aside0.mk (Kd.C_below (by repeat (first | (with_reducible exact HR796_1.out) | (with_reducible refine Kd.C_alloc ?_ _) | (with_reducible refine Kd.C_drewN ?_ _) | (with_reducible refine Kd.C_drew ?_) | exact HR796_1.out)) hb); have BK797 := Aside0.mk (hbox); have GW797 := Aside0.mk ((hz_ : w.heap.size ≤ gb797)); have GE797 := GW797; replace HB := Aside0.mk (below_step bl_ hb); have NB781_797 := Aside0.mk (nl_ BK781.out hg); have NB797_781 := Aside0.mk (ng_ BK781.out hg); replace BK781 := bb0_ BK781.out hb; have NB782_797 := Aside0.mk (nl_ BK782.out hg); have NB797_782 := Aside0.mk (ng_ BK782.out hg); replace BK782 := bb0_ BK782.out hb; have NB789_797 := Aside0.mk (nl_ BK789.out hg); have NB797_789 := Aside0.mk (ng_ BK789.out hg); replace BK789 := bb0_ BK789.out hb; clear hb hbox hg; have hnb32 := NB797_781.out; have hnc32 := NB781_797.out; have hnb33 := NB797_782.out; have hnc33 := NB782_797.out; have hnb34 := NB797_789.out; have hnc34 := NB789_797.out; obtain ⟨hcz35_0, hcz35_1, hcz35_2, hcz35_3, hfz35_0, hfz35_1, hfz35_2, hfz35_3⟩ := cf4_ BK797.out) | ((with_reducible refine gate_store (t := 53) (p := 7) rfl ?_); refine store_event (t := 53) (p := 7) (v := ?vo_w36) (w1 := ((((w31.setCell ⟨gb797, 0, none⟩ (.slice A796_0 ((rd_T53 t786 x16_1).f0).length c796_0)).setCell ⟨gb797, 1, none⟩ (.slice A796_1 ((rd_T53 t786 x16_1).f1).length c796_1)).setCell ⟨gb797, 2, none⟩ (.int .i64 ((rd_T53 t786 x16_1).f2))).setCell ⟨gb797, 3, none⟩ (.int .i64 ((rd_T53 t786 x16_1).f3)))) ?hg ?ho ?hn ?hr ?_; (case ho => rfl); (case hg => rfl); (case hn => rfl); (case hr => first | (go_simp; done) | (go_simp; rfl)); intro w36 hw; have n0_ : Aside0 (Kd.R (Kd.int .i64) 3 w36 w.heap.size (fun k_ => (w.heap.size ≤ k_)) v791 t790) := ⟨(by rw [hw]; exact (by (with_reducible repeat (first | apply Kd.R_alloc | apply Kd.R_drewN | apply Kd.R_drew)); exact Kd.R_mono (Kd.R_far (p := ⟨gb797, 3, none⟩) (Kd.R_far (p := ⟨gb797, 2, none⟩) (Kd.R_far (p := ⟨gb797, 1, none⟩) (Kd.R_far (p := ⟨gb797, 0, none⟩) (Kd.R_types HO_4.out BK797.out (by decide)) (fun _ hk => hk.2) (.slice A796_0 ((rd_T53 t786 x16_1).f0).length c796_0)) (fun _ hk => hk.2) (.slice A796_1 ((rd_T53 t786 x16_1).f1).length c796_1)) (fun _ hk => hk.2) (.int .i64 ((rd_T53 t786 x16_1).f2))) (fun _ hk => hk.2) (.int .i64 ((rd_T53 t786 x16_1).f3))) (fun _ hk => hk.1)))⟩; have n1_ : Aside0 (Kd.N k53 53 w36 w.heap.size (fun k_ => (w.heap.size ≤ k_) ∧ some k_ ≠ (v791 : Value).ownBlock ∧ some k_ ≠ (.slice (some ad796) t786.length co13 : Value).ownBlock ∧ k_ ≠ gb781 ∧ k_ ≠ gb782 ∧ k_ ≠ gb789 ∧ k_ ≠ gb797) u5 x5_1) := ⟨(by rw [hw]; exact (by (with_reducible repeat (first | apply Kd.N_alloc | apply Kd.N_drewN | apply Kd.N_drew)); exact Kd.N_mono (Kd.N_far (p := ⟨gb797, 3, none⟩) (Kd.N_far (p := ⟨gb797, 2, none⟩) (Kd.N_far (p := ⟨gb797, 1, none⟩) (Kd.N_far (p := ⟨gb797, 0, none⟩) (Kd.N_mono HO_5.out (fun k_ hk => (⟨hk, hk.2⟩ : _ ∧ k_ ≠ gb797))) (fun _ hk => hk.2) (.slice A796_0 ((rd_T53 t786 x16_1).f0).length c796_0)) (fun _ hk => hk.2) (.slice A796_1 ((rd_T53 t786 x16_1).f1).length c796_1)) (fun _ hk => hk.2) (.int .i64 ((rd_T53 t786 x16_1).f2))) (fun _ hk => hk.2) (.int .i64 ((rd_T53 t786 x16_1).f3))) (fun _ hk => ⟨hk.1.1.1, ⟨hk.1.1.2.1, ⟨hk.1.1.2.2.1, ⟨hk.1.1.2.2.2.1, ⟨hk.1.1.2.2.2.2.1, ⟨hk.1.1.2.2.2.2.2, hk.1.2⟩⟩⟩⟩⟩⟩)))⟩; have n2_ : Aside0 (Kd.N k53 53 w36 w.heap.size (fun k_ => (w.heap.size ≤ k_) ∧ some k_ ≠ (v791 : Value).ownBlock ∧ some k_ ≠ (u5 : Value).ownBlock ∧ k_ ≠ gb781 ∧ k_ ≠ gb782 ∧ k_ ≠ gb789 ∧ k_ ≠ gb797) (.slice (some ad796) t786.length co13) t786) := ⟨(by rw [hw]; exact (by (with_reducible repeat (first | apply Kd.N_alloc | apply Kd.N_drewN | apply Kd.N_drew)); exact Kd.N_mono (Kd.N_far (p := ⟨gb797, 3, none⟩) (Kd.N_far (p := ⟨gb797, 2, none⟩) (Kd.N_far (p := ⟨gb797, 1, none⟩) (Kd.N_far (p := ⟨gb797, 0, none⟩) (Kd.N_mono HO_14.out (fun k_ hk => (⟨hk, hk.2⟩ : _ ∧ k_ ≠ gb797))) (fun _ hk => hk.2) (.slice A796_0 ((rd_T53 t786 x16_1).f0).length c796_0)) (fun _ hk => hk.2) (.slice A796_1 ((rd_T53 t786 x16_1).f1).length c796_1)) (fun _ hk => hk.2) (.int .i64 ((rd_T53 t786 x16_1).f2))) (fun _ hk => hk.2) (.int .i64 ((rd_T53 t786 x16_1).f3))) (fun _ hk => ⟨hk.1.1.1, ⟨hk.1.1.2.1, ⟨hk.1.1.2.2.1, ⟨hk.1.1.2.2.2.1, ⟨hk.1.1.2.2.2.2.1, ⟨hk.1.1.2.2.2.2.2, hk.1.2⟩⟩⟩⟩⟩⟩)))⟩; have n3_ : Aside0 (Kd.N k53 53 w36 w.heap.size (fun k_ => (w.heap.size ≤ k_) ∧ some k_ ≠ (v791 : Value).ownBlock ∧ some k_ ≠ (u5 : Value).ownBlock ∧ k_ ≠ gb781 ∧ k_ ≠ gb782 ∧ k_ ≠ gb789 ∧ k_ ≠ gb797) (.slice (some ad796) t786.length co13) t786) := ⟨(by rw [hw]; exact (by (with_reducible repeat (first | apply Kd.N_alloc | apply Kd.N_drewN | apply Kd.N_drew)); exact Kd.N_mono (Kd.N_far (p := ⟨gb797, 3, none⟩) (Kd.N_far (p := ⟨gb797, 2, none⟩) (Kd.N_far (p := ⟨gb797, 1, none⟩) (Kd.N_far (p := ⟨gb797, 0, none⟩) (Kd.N_mono HO_790003.out (fun k_ hk => (⟨hk, hk.2⟩ : _ ∧ k_ ≠ gb797))) (fun _ hk => hk.2) (.slice A796_0 ((rd_T53 t786 x16_1).f0).length c796_0)) (fun _ hk => hk.2) (.slice A796_1 ((rd_T53 t786 x16_1).f1).length c796_1)) (fun _ hk => hk.2) (.int .i64 ((rd_T53 t786 x16_1).f2))) (fun _ hk => hk.2) (.int .i64 ((rd_T53 t786 x16_1).f3))) (fun _ hk => ⟨hk.1.1.1, ⟨hk.1.1.2.1, ⟨hk.1.1.2.2.1, ⟨hk.1.1.2.2.2.1, ⟨hk.1.1.2.2.2.2.1, ⟨hk.1.1.2.2.2.2.2, hk.1.2⟩⟩⟩⟩⟩⟩)))⟩; have n4_ : Aside0 (Kd.V (Kd.int .i64) 3 w36 w.heap.size (fun k_ => (w.heap.size ≤ k_) ∧ some k_ ≠ (v791 : Value).ownBlock ∧ some k_ ≠ (u5 : Value).ownBlock ∧ some k_ ≠ (.slice (some ad796) t786.length co13 : Value).ownBlock ∧ k_ ≠ gb781 ∧ k_ ≠ gb782 ∧ k_ ≠ gb789 ∧ k_ ≠ gb797) (.slice A796_0 ((rd_T53 t786 x16_1).f0).length c796_0) ((rd_T53 t786 x16_1).f0)) := ⟨(by rw [hw]; exact (by (with_reducible repeat (first | apply Kd.V_alloc | apply Kd.V_drewN | apply Kd.V_drew)); exact Kd.V_mono (Kd.V_far (p := ⟨gb797, 3, none⟩) (Kd.V_far (p := ⟨gb797, 2, none⟩) (Kd.V_far (p := ⟨gb797, 1, none⟩) (Kd.V_far (p := ⟨gb797, 0, none⟩) (Kd.V_mono HL796_0.out (fun k_ hk => (⟨hk, hk.2⟩ : _ ∧ k_ ≠ gb797))) (fun _ hk => hk.2) (.slice A796_0 ((rd_T53 t786 x16_1).f0).length c796_0)) (fun _ hk => hk.2) (.slice A796_1 ((rd_T53 t786 x16_1).f1).length c796_1)) (fun _ hk => hk.2) (.int .i64 ((rd_T53 t786 x16_1).f2))) (fun _ hk => hk.2) (.int .i64 ((rd_T53 t786 x16_1).f3))) (fun _ hk => ⟨hk.1.1.1.1, ⟨hk.1.1.1.2.1, ⟨hk.1.1.1.2.2.1, ⟨hk.1.1.2, ⟨hk.1.1.1.2.2.2.1, ⟨hk.1.1.1.2.2.2.2.1, ⟨hk.1.1.1.2.2.2.2.2, hk.1.2⟩⟩⟩⟩⟩⟩⟩)))⟩; have n5_ : Aside0 (Kd.V k100 100 w36 w.heap.size (fun k_ => (w.heap.size ≤ k_) ∧ some k_ ≠ (v791 : Value).ownBlock ∧ some k_ ≠ (u5 : Value).ownBlock ∧ some k_ ≠ (.slice (some ad796) t786.length co13 : Value).ownBlock ∧ k_ ≠ gb781 ∧ k_ ≠ gb782 ∧ k_ ≠ gb789 ∧ k_ ≠ gb797) (.slice A796_1 ((rd_T53 t786 x16_1).f1).length c796_1) ((rd_T53 t786 x16_1).f1)) := ⟨(by rw [hw]; exact (by (with_reducible repeat (first | apply Kd.V_alloc | apply Kd.V_drewN | apply Kd.V_drew)); exact Kd.V_mono (Kd.V_far (p := ⟨gb797, 3, none⟩) (Kd.V_far (p := ⟨gb797, 2, none⟩) (Kd.V_far (p := ⟨gb797, 1, none⟩) (Kd.V_far (p := ⟨gb797, 0, none⟩) (Kd.V_mono HL796_1.out (fun k_ hk => (⟨hk, hk.2⟩ : _ ∧ k_ ≠ gb797))) (fun _ hk => hk.2) (.slice A796_0 ((rd_T53 t786 x16_1).f0).length c796_0)) (fun _ hk => hk.2) (.slice A796_1 ((rd_T53 t786 x16_1).f1).length c796_1)) (fun _ hk => hk.2) (.int .i64 ((rd_T53 t786 x16_1).f2))) (fun _ hk => hk.2) (.int .i64 ((rd_T53 t786 x16_1).f3))) (fun _ hk => ⟨hk.1.1.1.1, ⟨hk.1.1.1.2.1, ⟨hk.1.1.1.2.2.1, ⟨hk.1.1.2, ⟨hk.1.1.1.2.2.2.1, ⟨hk.1.1.1.2.2.2.2.1, ⟨hk.1.1.1.2.2.2.2.2, hk.1.2⟩⟩⟩⟩⟩⟩⟩)))⟩; have n6_ : Aside0 (w36.heap[gb781]? = some (.cells #[.int .i64 a0_0, .int .i64 a0_1, .int .i64 a0_2, .slice A0_3 l0_3.length c0_3] 36 (0, 0))) := ⟨(by rw [hw]; exact (bp1_ BK781.out NB781_797.out))⟩; have n7_ : Aside0 (w36.heap[gb782]? = some (.cells #[.int .i64 0, .int .i64 0, .int .i64 0, .slice none 0 0] 36 (0, 0))) := ⟨(by rw [hw]; exact (bp1_ BK782.out NB782_797.out))⟩; have n8_ : Aside0 (w36.heap[gb789]? = some (.cells #[.int .i64 t783, .int .i64 t784, .int .i64 t785, .slice (some ad796) t786.length co13] 36 (0, 0))) := ⟨(by rw [hw]; exact (bp1_ BK789.out NB789_797.out))⟩; have n9_ : Aside0 (w36.heap[gb797]? = some (.cells #[.slice A796_0 ((rd_T53 t786 x16_1).f0).length c796_0, .slice A796_1 ((rd_T53 t786 x16_1).f1).length c796_1, .int .i64 ((rd_T53 t786 x16_1).f2), .int .i64 ((rd_T53 t786 x16_1).f3)] 53 (0, 0))) := ⟨(by rw [hw]; exact (bp0_ BK797.out))⟩; have n10_ : Aside0 (Below w.heap.size w w36) := ⟨(by rw [hw]; exact bl_)⟩; clear hw; clear HO_4; clear HO_5; clear HO_14; clear HO_790003; clear HL796_0; clear HL796_1; clear BK781; clear BK782; clear BK789; clear BK797; clear HB; have HO_4 := n0_; have HO_5 := n1_; have HO_14 := n2_; have HO_790003 := n3_; have HL796_0 := n4_; have HL796_1 := n5_; have BK781 := n6_; have BK782 := n7_; have BK789 := n8_; have BK797 := n9_; have HB := n10_; clear n0_ n1_ n2_ n3_ n4_ n5_ n6_ n7_ n8_ n9_ n10_; obtain ⟨Ao37, co37, eo37⟩ := Kd.R_slice HO_4.out; subst eo37) | ((with_reducible refine gate_callee (f := 70) rfl ?_); refine gs_ (some 23) Try.func70 #[.slice Ao37 t790.length co37, .int .i64 x16_1] ?_; (with_reducible refine (slices_Contains_int_int.calls k1 _ _ t790 x16_1 false _ ?side1 ?side2 A22.out).mono ?_); (case side1 => exact cs_ ((Kd.R_reads' HO_4.out).2.2)); (case side2 => exact (Kd.R_reads' HO_4.out).2.1); rintro e w' ⟨rfl, ⟨nd, rfl⟩⟩; refine ⟨_, rfl, ?_⟩; obtain ⟨hcz38_0, hcz38_1, hcz38_2, hcz38_3, hfz38_0, hfz38_1, hfz38_2, hfz38_3⟩ := cf4_ BK797.out) | ((with_reducible refine gate_builtin (b := .append) (xs := #[.tmp 25, .tmp 27]) rfl ?_); at_builtin; refine Kd.N_append k53 (w0 := w) w.heap.size rfl (.tmp 25) (.tmp 27) 34 53 (.agg #[(.slice none 0 0), (.slice none 0 0), (.int .i64 0), (.int .i64 0)]) 64 rfl Try.underlying34 info53 rfl (by decide) (by omega) u5 x5_1 (⟨(rd_T53 t786 x16_1).f0, (rd_T53 t786 x16_1).f1, (rd_T53 t786 x16_1).f2, (rd_T53 t786 x16_1).f3⟩ : S53) [.slice A796_0 ((rd_T53 t786 x16_1).f0).length c796_0, .slice A796_1 ((rd_T53 t786 x16_1).f1).length c796_1, .int .i64 ((rd_T53 t786 x16_1).f2), .int .i64 ((rd_T53 t786 x16_1).f3)] (fun k_ => (w.heap.size ≤ k_) ∧ some k_ ≠ (.slice Ao37 t790.length co37 : Value).ownBlock ∧ some k_ ≠ (.slice (some ad796) t786.length co13 : Value).ownBlock ∧ k_ ≠ gb781 ∧ k_ ≠ gb782 ∧ k_ ≠ gb789 ∧ k_ ≠ gb797) (fun k_ => ((fun k_ => (w.heap.size ≤ k_) ∧ some k_ ≠ (.slice Ao37 t790.length co37 : Value).ownBlock ∧ some k_ ≠ (.slice (some ad796) t786.length co13 : Value).ownBlock ∧ k_ ≠ gb781 ∧ k_ ≠ gb782 ∧ k_ ≠ gb789 ∧ k_ ≠ gb797)) k_ ∧ some k_ ≠ (u5 : Value).ownBlock) rfl rfl ?aP (fun _ hk => hk) ?aF ?aO ?aB ?aS ?aL ?_; (case aP => exact (k53_mkF _ _ (⟨(rd_T53 t786 x16_1).f0, (rd_T53 t786 x16_1).f1, (rd_T53 t786 x16_1).f2, (rd_T53 t786 x16_1).f3⟩ : S53) (Kd.V_reads' (Kd.V_mono (ok' := (fun k_ => ((fun k_ => (w.heap.size ≤ k_) ∧ some k_ ≠ (.slice Ao37 t790.length co37 : Value).ownBlock ∧ some k_ ≠ (.slice (some ad796) t786.length co13 : Value).ownBlock ∧ k_ ≠ gb781 ∧ k_ ≠ gb782 ∧ k_ ≠ gb789 ∧ k_ ≠ gb797)) k_ ∧ some k_ ≠ (u5 : Value).ownBlock)) (HL796_0.out) (fun k_ hk => ⟨⟨hk.1, ⟨hk.2.1, ⟨hk.2.2.2.1, ⟨hk.2.2.2.2.1, ⟨hk.2.2.2.2.2.1, ⟨hk.2.2.2.2.2.2.1, hk.2.2.2.2.2.2.2⟩⟩⟩⟩⟩⟩, hk.2.2.1⟩))).2.1 (Kd.V_F (Kd.V_mono (ok' := (fun k_ => ((fun k_ => (w.heap.size ≤ k_) ∧ some k_ ≠ (.slice Ao37 t790.length co37 : Value).ownBlock ∧ some k_ ≠ (.slice (some ad796) t786.length co13 : Value).ownBlock ∧ k_ ≠ gb781 ∧ k_ ≠ gb782 ∧ k_ ≠ gb789 ∧ k_ ≠ gb797)) k_ ∧ some k_ ≠ (u5 : Value).ownBlock)) (HL796_0.out) (fun k_ hk => ⟨⟨hk.1, ⟨hk.2.1, ⟨hk.2.2.2.1, ⟨hk.2.2.2.2.1, ⟨hk.2.2.2.2.2.1, ⟨hk.2.2.2.2.2.2.1, hk.2.2.2.2.2.2.2⟩⟩⟩⟩⟩⟩, hk.2.2.1⟩))) (Kd.V_reads' (Kd.V_mono (ok' := (fun k_ => ((fun k_ => (w.heap.size ≤ k_) ∧ some k_ ≠ (.slice Ao37 t790.length co37 : Value).ownBlock ∧ some k_ ≠ (.slice (some ad796) t786.length co13 : Value).ownBlock ∧ k_ ≠ gb781 ∧ k_ ≠ gb782 ∧ k_ ≠ gb789 ∧ k_ ≠ gb797)) k_ ∧ some k_ ≠ (u5 : Value).ownBlock)) (HL796_1.out) (fun k_ hk => ⟨⟨hk.1, ⟨hk.2.1, ⟨hk.2.2.2.1, ⟨hk.2.2.2.2.1, ⟨hk.2.2.2.2.2.1, ⟨hk.2.2.2.2.2.2.1, hk.2.2.2.2.2.2.2⟩⟩⟩⟩⟩⟩, hk.2.2.1⟩))).2.1 (Kd.V_F (Kd.V_mono (ok' := (fun k_ => ((fun k_ => (w.heap.size ≤ k_) ∧ some k_ ≠ (.slice Ao37 t790.length co37 : Value).ownBlock ∧ some k_ ≠ (.slice (some ad796) t786.length co13 : Value).ownBlock ∧ k_ ≠ gb781 ∧ k_ ≠ gb782 ∧ k_ ≠ gb789 ∧ k_ ≠ gb797)) k_ ∧ some k_ ≠ (u5 : Value).ownBlock)) (HL796_1.out) (fun k_ hk => ⟨⟨hk.1, ⟨hk.2.1, ⟨hk.2.2.2.1, ⟨hk.2.2.2.2.1, ⟨hk.2.2.2.2.2.1, ⟨hk.2.2.2.2.2.2.1, hk.2.2.2.2.2.2.2⟩⟩⟩⟩⟩⟩, hk.2.2.1⟩))))); (case aB => exact bl_); (case aF => exact (fun k_ hk => ⟨(Nat.le_trans (below_size bl_) hk), Kd.fresh' (Kd.R_lt (ra_ HO_4.out)) k_ hk, Kd.fresh' (Kd.N_lt (na_ HO_14.out)) k_ hk, fb_ BK781.out k_ hk, fb_ BK782.out k_ hk, fb_ BK789.out k_ hk, fb_ BK797.out k_ hk⟩)); (case aO => exact (na_ HO_5.out)); (case aS => exact (below_size bl_)); (case aL => have := LMc30.out; omega); intro v800 w39 ho hb hg hat; rw [← Ny799.out] at ho; replace HO_4 := Aside0.mk (Kd.R_over' (ra_ HO_4.out) (Kd.N_typed (na_ HO_5.out)) (by decide) hg); replace HO_14 := Aside0.mk (Kd.N_afterv (ok := (fun k_ => (w.heap.size ≤ k_) ∧ some k_ ≠ (.slice Ao37 t790.length co37 : Value).ownBlock ∧ k_ ≠ gb781 ∧ k_ ≠ gb782 ∧ k_ ≠ gb789 ∧ k_ ≠ gb797)) (by (with_reducible repeat (first | apply Kd.N_alloc | apply Kd.N_drewN | apply Kd.N_drew)); exact Kd.N_mono HO_14.out (fun _ hk => ⟨⟨hk.1, ⟨hk.2.1, ⟨hk.2.2.2.1, ⟨hk.2.2.2.2.1, ⟨hk.2.2.2.2.2.1, hk.2.2.2.2.2.2⟩⟩⟩⟩⟩, hk.2.2.1⟩)) hg hat); replace HO_790003 := Aside0.mk (Kd.N_afterv (ok := (fun k_ => (w.heap.size ≤ k_) ∧ some k_ ≠ (.slice Ao37 t790.length co37 : Value).ownBlock ∧ k_ ≠ gb781 ∧ k_ ≠ gb782 ∧ k_ ≠ gb789 ∧ k_ ≠ gb797)) (by (with_reducible repeat (first | apply Kd.N_alloc | apply Kd.N_drewN | apply Kd.N_drew)); exact Kd.N_mono HO_790003.out (fun _ hk => ⟨⟨hk.1, ⟨hk.2.1, ⟨hk.2.2.2.1, ⟨hk.2.2.2.2.1, ⟨hk.2.2.2.2.2.1, hk.2.2.2.2.2.2⟩⟩⟩⟩⟩, hk.2.2.1⟩)) hg hat); replace BK781 := Aside0.mk (blk_grown (g := gb781) (o := .cells #[.int .i64 a0_0, .int .i64 a0_1, .int .i64 a0_2, .slice A0_3 l0_3.length c0_3] 36 (0, 0)) (bk_ BK781.out) hg (Kd.N_ne HO_5.out BK781.out (by decide))); replace BK782 := Aside0.mk (blk_grown (g := gb782) (o := .cells #[.int .i64 0, .int .i64 0, .int .i64 0, .slice none 0 0] 36 (0, 0)) (bk_ BK782.out) hg (Kd.N_ne HO_5.out BK782.out (by decide))); replace BK789 := Aside0.mk (blk_grown (g := gb789) (o := .cells #[.int .i64 t783, .int .i64 t784, .int .i64 t785, .slice (some ad796) t786.length co13] 36 (0, 0)) (bk_ BK789.out) hg (Kd.N_ne HO_5.out BK789.out (by decide))); replace HL796_0 := Aside0.mk (Kd.V_afterv (ok := (fun k_ => (w.heap.size ≤ k_) ∧ some k_ ≠ (.slice Ao37 t790.length co37 : Value).ownBlock ∧ some k_ ≠ (.slice (some ad796) t786.length co13 : Value).ownBlock ∧ k_ ≠ gb781 ∧ k_ ≠ gb782 ∧ k_ ≠ gb789 ∧ k_ ≠ gb797)) (by (with_reducible repeat (first | apply Kd.V_alloc | apply Kd.V_drewN | apply Kd.V_drew)); exact Kd.V_mono HL796_0.out (fun _ hk => ⟨⟨hk.1, ⟨hk.2.1, ⟨hk.2.2.2.1, ⟨hk.2.2.2.2.1, ⟨hk.2.2.2.2.2.1, ⟨hk.2.2.2.2.2.2.1, hk.2.2.2.2.2.2.2⟩⟩⟩⟩⟩⟩, hk.2.2.1⟩)) hg hat); replace HL796_1 := Aside0.mk (Kd.V_afterv (ok := (fun k_ => (w.heap.size ≤ k_) ∧ some k_ ≠ (.slice Ao37 t790.length co37 : Value).ownBlock ∧ some k_ ≠ (.slice (some ad796) t786.length co13 : Value).ownBlock ∧ k_ ≠ gb781 ∧ k_ ≠ gb782 ∧ k_ ≠ gb789 ∧ k_ ≠ gb797)) (by (with_reducible repeat (first | apply Kd.V_alloc | apply Kd.V_drewN | apply Kd.V_drew)); exact Kd.V_mono HL796_1.out (fun _ hk => ⟨⟨hk.1, ⟨hk.2.1, ⟨hk.2.2.2.1, ⟨hk.2.2.2.2.1, ⟨hk.2.2.2.2.2.1, ⟨hk.2.2.2.2.2.2.1, hk.2.2.2.2.2.2.2⟩⟩⟩⟩⟩⟩, hk.2.2.1⟩)) hg hat); replace BK797 := Aside0.mk (blk_grown (g := gb797) (o := .cells #[.slice A796_0 ((rd_T53 t786 x16_1).f0).length c796_0, .slice A796_1 ((rd_T53 t786 x16_1).f1).length c796_1, .int .i64 ((rd_T53 t786 x16_1).f2), .int .i64 ((rd_T53 t786 x16_1).f3)] 53 (0, 0)) (bk_ BK797.out) hg (Kd.N_away HO_5.out (fun _ hk => hk.2.2.2.2.2.2))); replace HB := Aside0.mk (hb); have HO801 := Aside0.mk (ho); clear HO_5; clear ho hb hg hat))
 go_roundg k1
 case measure => have := HK1.out; omega
 case rel => exact ⟨(y799), (wrap64 (x16_1 + 1)), (sr_), H', ⟨by have := HK1.out; omega⟩, ⟨ra_ HO_4.out⟩, ⟨by (with_reducible repeat (first | apply Kd.N_alloc | apply Kd.N_drewN | apply Kd.N_drew)); exact Kd.N_mono HO801.out (fun _ hk => ⟨hk.1, ⟨hk.2.1, ⟨hk.2.2.1, ⟨hk.2.2.2.1, ⟨hk.2.2.2.2.1, hk.2.2.2.2.2.1⟩⟩⟩⟩⟩)⟩, ⟨by (with_reducible repeat (first | apply Kd.N_alloc | apply Kd.N_drewN | apply Kd.N_drew)); exact Kd.N_mono HO_14.out (fun _ hk => ⟨hk.1.1, ⟨hk.1.2.1, ⟨hk.2, ⟨hk.1.2.2.1, ⟨hk.1.2.2.2.1, hk.1.2.2.2.2.1⟩⟩⟩⟩⟩)⟩, ⟨by (with_reducible repeat (first | apply Kd.N_alloc | apply Kd.N_drewN | apply Kd.N_drew)); exact Kd.N_mono HO_790003.out (fun _ hk => ⟨hk.1.1, ⟨hk.1.2.1, ⟨hk.2, ⟨hk.1.2.2.1, ⟨hk.1.2.2.2.1, hk.1.2.2.2.2.1⟩⟩⟩⟩⟩)⟩, ⟨bk_ BK781.out⟩, ⟨bk_ BK782.out⟩, ⟨bk_ BK789.out⟩, ⟨bl_⟩⟩


def spec_Unshadowed.l0 : Nat → List Int → List (S53) → Int → Int → Int → Int → List (S53) → Option (Int × Int × Int × (List (S53)))
 | 0, _, _, _, _, _, _, _ => none
 | k + 1, x4, x5, x6, x811000, x811001, x811002, x811003 => if x6 < (x811003.length : Int) then ((spec_l09In.f k x4 x6).bind fun t818 => (if t818 = true then (spec_Unshadowed.l0 k x4 x5 (wrap64 (x6 + 1)) x811000 x811001 x811002 x811003) else (if 0 ≤ x6 then (if x5.length < 2199023255552 then (spec_Unshadowed.l0 k x4 (x5 ++ [(⟨(rd_T53 x811003 x6).f0, (rd_T53 x811003 x6).f1, (rd_T53 x811003 x6).f2, (rd_T53 x811003 x6).f3⟩ : S53)]) (wrap64 (x6 + 1)) x811000 x811001 x811002 x811003) else (none)) else (none)))) else (some (x811000, x811001, x811002, x5))
def spec_Unshadowed.f (k : Nat) (a0_0 : Int) (a0_1 : Int) (a0_2 : Int) (l0_3 : List (S53)) : Option (Int × Int × Int × (List (S53))) := (spec_l09Copy.f k a0_0 a0_1 a0_2 l0_3).bind fun bt804 => ((spec_Shadowed.f k a0_0 a0_1 a0_2 l0_3).bind fun t811 => ((spec_PolicyOk.f k a0_0 a0_1 a0_2 l0_3).bind fun t814 => (if t814 = true then (spec_Unshadowed.l0 k t811 (([] : List (S53))) 0 bt804.1 bt804.2.1 bt804.2.2.1 bt804.2.2.2) else (some (bt804.1, bt804.2.1, bt804.2.2.1, bt804.2.2.2)))))
theorem spec_Unshadowed.mono_l : ∀ k, (∀ y0 y1 y2 y3 y4 y5 y6, LeO (spec_Unshadowed.l0 k y0 y1 y2 y3 y4 y5 y6) (spec_Unshadowed.l0 (k + 1) y0 y1 y2 y3 y4 y5 y6))
 | 0 => fun _ _ _ _ _ _ _ r h => by simp [spec_Unshadowed.l0] at h
 | k + 1 => by
  have ih0 := spec_Unshadowed.mono_l k
  ·intro y0 y1 y2 y3 y4 y5 y6
   unfold spec_Unshadowed.l0
   have m0 := @spec_PolicyOk.mono
   have m1 := @spec_Shadowed.mono
   have m2 := @spec_l09Copy.mono
   have m3 := @spec_l09In.mono
   exact mo_
theorem spec_Unshadowed.mono : ∀ a0 a1 a2 a3 k, LeO (spec_Unshadowed.f k a0 a1 a2 a3) (spec_Unshadowed.f (k + 1) a0 a1 a2 a3) := by
 intro a0 a1 a2 a3 k
 have ih0 := spec_Unshadowed.mono_l k
 unfold spec_Unshadowed.f
 have m0 := @spec_PolicyOk.mono
 have m1 := @spec_Shadowed.mono
 have m2 := @spec_l09Copy.mono
 have m3 := @spec_l09In.mono
 exact mo_
theorem spec_Unshadowed.calls (k : Nat) (a0_0 : Int) (a0_1 : Int) (a0_2 : Int) (A0_3 : Option Addr) (c0_3 : Nat) (l0_3 : List (S53)) (r1 : Int) (r2 : Int) (r3 : Int) (r4 : List (S53)) (w : World) (hr0_3 : Kd.C k53 w A0_3 l0_3.length l0_3) (hc0_3 : l0_3.length ≤ c0_3) (h : spec_Unshadowed.f k a0_0 a0_1 a0_2 l0_3 = some (r1, r2, r3, r4)) :
 Calls Try.prog 35 #[.agg #[.int .i64 a0_0, .int .i64 a0_1, .int .i64 a0_2, .slice A0_3 l0_3.length c0_3]] w fun e w' => ∃ v3_ : Value, e = .returned (.agg #[.int .i64 r1, .int .i64 r2, .int .i64 r3, v3_]) ∧ Kd.N k53 53 w' w.heap.size (fun k_ => (w.heap.size ≤ k_)) v3_ r4 ∧ Below w.heap.size w w' := by
 have hu36 := Try.underlying36
 have hu53 := Try.underlying53
 have HR0_3 := Aside0.mk hr0_3
 have HC0_3 := Aside0.mk hc0_3
 clear hr0_3 hc0_3
 have HB := Aside0.mk (Below.refl w.heap.size w)
 have H := h
 unfold spec_Unshadowed.f at H
 clear h
 replace H := bs_ H
 obtain ⟨⟨t804, t805, t806, t807⟩, A2, H⟩ := H
 try dsimp only at H
 replace H := bs_ H
 obtain ⟨t811, A3, H⟩ := H
 try dsimp only at H
 replace H := bs_ H
 obtain ⟨t814, A4, H⟩ := H
 try dsimp only at H
 by_cases c5 : t814 = true
 rotate_left
 ·replace c5 := Bool.eq_false_iff.mpr c5
  subst c5
  rw [nf_] at H
  simp only [Option.some.injEq, Prod.mk.injEq] at H
  obtain ⟨rfl, rfl, rfl, rfl⟩ := H
  go_enter Try.func35, Try.ntmps35
  go_wp2_with (first | ((with_reducible refine gate_dst (N := 1) rfl ?_); refine bx_ 1 36 #[.int .i64 a0_0, .int .i64 a0_1, .int .i64 a0_2, .slice A0_3 l0_3.length c0_3] ?_; intro gb802 hg w42 hbox hb; have BK802 := Aside0.mk (hbox); have GW802 := Aside0.mk ((hz_ : w.heap.size ≤ gb802)); have GE802 := GW802; replace HB := Aside0.mk (below_step bl_ hb); clear hb hbox hg) | ((with_reducible refine gate_dst (N := 2) rfl ?_); refine bx_ 2 36 #[.int .i64 0, .int .i64 0, .int .i64 0, .slice none 0 0] ?_; intro gb803 hg w43 hbox hb; have BK803 := Aside0.mk (hbox); have GW803 := Aside0.mk ((hz_ : w.heap.size ≤ gb803)); have GE803 := GW803; replace HB := Aside0.mk (below_step bl_ hb); have NB802_803 := Aside0.mk (nl_ BK802.out hg); have NB803_802 := Aside0.mk (ng_ BK802.out hg); replace BK802 := bb0_ BK802.out hb; clear hb hbox hg; have hnb44 := NB802_803.out; have hnc44 := NB803_802.out; obtain ⟨hcz45_0, hcz45_1, hcz45_2, hcz45_3, hfz45_0, hfz45_1, hfz45_2, hfz45_3⟩ := cf4_ BK802.out) | ((with_reducible refine gate_callee (f := 83) rfl ?_); refine gs_ (some 8) Try.func83 #[.agg #[.int .i64 a0_0, .int .i64 a0_1, .int .i64 a0_2, .slice A0_3 l0_3.length c0_3]] ?_; (with_reducible refine (spec_l09Copy.calls k a0_0 a0_1 a0_2 _ _ l0_3 t804 t805 t806 t807 _ ?side1 ?side2 A2.out).mono ?_); (case side1 => exact cb_ HR0_3.out HB.out); (case side2 => exact HC0_3.out); rintro e w46 ⟨v808, rfl, ho0, hb⟩; refine ⟨_, rfl, ?_⟩; have HO809 := Aside0.mk (Kd.N_lower (Kd.N_mono (ok' := fun k_ => (w.heap.size ≤ k_) ∧ k_ ≠ gb802 ∧ k_ ≠ gb803) (Kd.S_N (Kd.S_bound ho0)) (fun k_ hk_ => ⟨(Nat.le_trans (below_size bl_) hk_.2.1), (fb_ BK802.out k_ hk_.2.1), (fb_ BK803.out k_ hk_.2.1)⟩)) (below_size bl_)); replace BK802 := bb0_ BK802.out hb; replace BK803 := bb0_ BK803.out hb; replace HB := Aside0.mk (below_step bl_ hb); (try clear hb); (try clear ho0)) | ((with_reducible refine gate_dst (N := 3) rfl ?_); refine bx_ 3 36 #[.int .i64 0, .int .i64 0, .int .i64 0, .slice none 0 0] ?_; intro gb810 hg w47 hbox hb; replace HO809 := Aside0.mk (Kd.N_below (Kd.N_elderB (na_ HO809.out) gb810 (Nat.le_of_eq hg.symm)) hb); have BK810 := Aside0.mk (hbox); have GW810 := Aside0.mk ((hz_ : w.heap.size ≤ gb810)); have GE810 := GW810; replace HB := Aside0.mk (below_step bl_ hb); have NB802_810 := Aside0.mk (nl_ BK802.out hg); have NB810_802 := Aside0.mk (ng_ BK802.out hg); replace BK802 := bb0_ BK802.out hb; have NB803_810 := Aside0.mk (nl_ BK803.out hg); have NB810_803 := Aside0.mk (ng_ BK803.out hg); replace BK803 := bb0_ BK803.out hb; clear hb hbox hg; have hnb48 := NB810_802.out; have hnc48 := NB802_810.out; have hnb49 := NB810_803.out; have hnc49 := NB803_810.out; obtain ⟨hcz50_0, hcz50_1, hcz50_2, hcz50_3, hfz50_0, hfz50_1, hfz50_2, hfz50_3⟩ := cf4_ BK810.out; obtain ⟨Ao51, co51, eo51⟩ := Kd.N_slice HO809.out; subst eo51; obtain ⟨hcz52_0, hcz52_1, hcz52_2, hcz52_3, hfz52_0, hfz52_1, hfz52_2, hfz52_3⟩ := cf4_ BK802.out) | ((with_reducible refine gate_callee (f := 32) rfl ?_); refine gs_ (some 10) Try.func32 #[.agg #[.int .i64 a0_0, .int .i64 a0_1, .int .i64 a0_2, .slice A0_3 l0_3.length c0_3]] ?_; (with_reducible refine (spec_Shadowed.calls k a0_0 a0_1 a0_2 _ _ l0_3 t811 _ ?side1 ?side2 A3.out).mono ?_); (case side1 => exact Kd.C_below HR0_3.out bl_); (case side2 => exact HC0_3.out); rintro e w53 ⟨v812, rfl, ho0, hb⟩; refine ⟨_, rfl, ?_⟩; replace HO809 := Aside0.mk (Kd.N_elder' (by (with_reducible repeat (first | apply Kd.N_alloc | apply Kd.N_drewN | apply Kd.N_drew)); exact (Kd.N_mono (Kd.N_far (p := ⟨gb810, 3, none⟩) (Kd.N_far (p := ⟨gb810, 2, none⟩) (Kd.N_far (p := ⟨gb810, 1, none⟩) (Kd.N_far (p := ⟨gb810, 0, none⟩) (Kd.N_mono HO809.out (fun k_ hk => (⟨hk, hk.2⟩ : _ ∧ k_ ≠ gb810))) (fun _ hk => hk.2) (.int .i64 t804)) (fun _ hk => hk.2) (.int .i64 t805)) (fun _ hk => hk.2) (.int .i64 t806)) (fun _ hk => hk.2) (.slice Ao51 t807.length co51)) (fun _ h_ => h_.1))) (Kd.R_base ho0) hb); have HO813 := Aside0.mk (Kd.R_lower (Kd.R_newM (M := fun k_ => (w.heap.size ≤ k_)) ho0 (below_size bl_) (fun k_ h_ => h_)) (below_size bl_)); replace BK802 := bb1_ BK802.out NB802_810.out hb; replace BK803 := bb1_ BK803.out NB803_810.out hb; replace BK810 := Aside0.mk (blk_below (g := gb810) (o := .cells #[.int .i64 t804, .int .i64 t805, .int .i64 t806, .slice Ao51 t807.length co51] 36 (0, 0)) (bp0_ BK810.out) hb); replace HB := Aside0.mk (below_step bl_ hb); (try clear hb); (try clear ho0); obtain ⟨hcz54_0, hcz54_1, hcz54_2, hcz54_3, hfz54_0, hfz54_1, hfz54_2, hfz54_3⟩ := cf4_ BK802.out) | ((with_reducible refine gate_callee (f := 27) rfl ?_); refine gs_ (some 12) Try.func27 #[.agg #[.int .i64 a0_0, .int .i64 a0_1, .int .i64 a0_2, .slice A0_3 l0_3.length c0_3]] ?_; (with_reducible refine (spec_PolicyOk.calls k a0_0 a0_1 a0_2 _ _ l0_3 false _ ?side1 ?side2 A4.out).mono ?_); (case side1 => exact cb_ HR0_3.out HB.out); (case side2 => exact HC0_3.out); rintro e w55 ⟨rfl, hb⟩; refine ⟨_, rfl, ?_⟩; replace HO809 := Aside0.mk (Kd.N_below (na_ HO809.out) hb); replace HO813 := Aside0.mk (Kd.R_below (ra_ HO813.out) hb); replace BK802 := bb0_ BK802.out hb; replace BK803 := bb0_ BK803.out hb; replace BK810 := bb0_ BK810.out hb; replace HB := Aside0.mk (below_step bl_ hb); (try clear hb); obtain ⟨hcz56_0, hcz56_1, hcz56_2, hcz56_3, hfz56_0, hfz56_1, hfz56_2, hfz56_3⟩ := cf4_ BK810.out; obtain ⟨hcz57_0, hcz57_1, hcz57_2, hcz57_3, hfz57_0, hfz57_1, hfz57_2, hfz57_3⟩ := cf4_ BK803.out))
  refine bodyPost_ret (results_cell_row rfl _ _ gb803 36 #[.int .i64 t804, .int .i64 t805, .int .i64 t806, .slice Ao51 t807.length co51] (0, 0) _ rfl (bp0_ BK803.out) Try.underlying36 rfl (by kernel_rfl)) rfl ?_
  exact ⟨_, er_, by (with_reducible repeat (first | apply Kd.N_alloc | apply Kd.N_drewN | apply Kd.N_drew)); exact Kd.N_mono (Kd.N_far (p := ⟨gb803, 3, none⟩) (Kd.N_far (p := ⟨gb803, 2, none⟩) (Kd.N_far (p := ⟨gb803, 1, none⟩) (Kd.N_far (p := ⟨gb803, 0, none⟩) (Kd.N_mono HO809.out (fun k_ hk => (⟨hk, hk.1.1.2.2⟩ : _ ∧ k_ ≠ gb803))) (fun _ hk => hk.2) (.int .i64 t804)) (fun _ hk => hk.2) (.int .i64 t805)) (fun _ hk => hk.2) (.int .i64 t806)) (fun _ hk => hk.2) (.slice Ao51 t807.length co51)) (fun _ hk => hk.1.1.1.1), bl_⟩
 subst c5
 rw [if_pos rfl] at H
 obtain ⟨y815, hy815⟩ : ∃ y_ : List (S53), y_ = (([] : List (S53))) := ⟨_, rfl⟩
 replace H : (spec_Unshadowed.l0 k t811 y815 0 t804 t805 t806 t807) = some (r1, r2, r3, r4) := rp_ H hy815
 have Ny815 := Aside0.mk hy815
 clear hy815
 have H' := Aside0.mk H
 clear H
 go_enter Try.func35, Try.ntmps35
 go_wp2_with (first | ((with_reducible refine gate_dst (N := 1) rfl ?_); refine bx_ 1 36 #[.int .i64 a0_0, .int .i64 a0_1, .int .i64 a0_2, .slice A0_3 l0_3.length c0_3] ?_; intro gb802 hg w6 hbox hb; have BK802 := Aside0.mk (hbox); have GW802 := Aside0.mk ((hz_ : w.heap.size ≤ gb802)); have GE802 := GW802; replace HB := Aside0.mk (below_step bl_ hb); clear hb hbox hg) | ((with_reducible refine gate_dst (N := 2) rfl ?_); refine bx_ 2 36 #[.int .i64 0, .int .i64 0, .int .i64 0, .slice none 0 0] ?_; intro gb803 hg w7 hbox hb; have BK803 := Aside0.mk (hbox); have GW803 := Aside0.mk ((hz_ : w.heap.size ≤ gb803)); have GE803 := GW803; replace HB := Aside0.mk (below_step bl_ hb); have NB802_803 := Aside0.mk (nl_ BK802.out hg); have NB803_802 := Aside0.mk (ng_ BK802.out hg); replace BK802 := bb0_ BK802.out hb; clear hb hbox hg; have hnb8 := NB802_803.out; have hnc8 := NB803_802.out; obtain ⟨hcz9_0, hcz9_1, hcz9_2, hcz9_3, hfz9_0, hfz9_1, hfz9_2, hfz9_3⟩ := cf4_ BK802.out) | ((with_reducible refine gate_callee (f := 83) rfl ?_); refine gs_ (some 8) Try.func83 #[.agg #[.int .i64 a0_0, .int .i64 a0_1, .int .i64 a0_2, .slice A0_3 l0_3.length c0_3]] ?_; (with_reducible refine (spec_l09Copy.calls k a0_0 a0_1 a0_2 _ _ l0_3 t804 t805 t806 t807 _ ?side1 ?side2 A2.out).mono ?_); (case side1 => exact cb_ HR0_3.out HB.out); (case side2 => exact HC0_3.out); rintro e w10 ⟨v808, rfl, ho0, hb⟩; refine ⟨_, rfl, ?_⟩; have HO809 := Aside0.mk (Kd.N_lower (Kd.N_mono (ok' := fun k_ => (w.heap.size ≤ k_) ∧ k_ ≠ gb802 ∧ k_ ≠ gb803) (Kd.S_N (Kd.S_bound ho0)) (fun k_ hk_ => ⟨(Nat.le_trans (below_size bl_) hk_.2.1), (fb_ BK802.out k_ hk_.2.1), (fb_ BK803.out k_ hk_.2.1)⟩)) (below_size bl_)); replace BK802 := bb0_ BK802.out hb; replace BK803 := bb0_ BK803.out hb; replace HB := Aside0.mk (below_step bl_ hb); (try clear hb); (try clear ho0)) | ((with_reducible refine gate_dst (N := 3) rfl ?_); refine bx_ 3 36 #[.int .i64 0, .int .i64 0, .int .i64 0, .slice none 0 0] ?_; intro gb810 hg w11 hbox hb; replace HO809 := Aside0.mk (Kd.N_below (Kd.N_elderB (na_ HO809.out) gb810 (Nat.le_of_eq hg.symm)) hb); have BK810 := Aside0.mk (hbox); have GW810 := Aside0.mk ((hz_ : w.heap.size ≤ gb810)); have GE810 := GW810; replace HB := Aside0.mk (below_step bl_ hb); have NB802_810 := Aside0.mk (nl_ BK802.out hg); have NB810_802 := Aside0.mk (ng_ BK802.out hg); replace BK802 := bb0_ BK802.out hb; have NB803_810 := Aside0.mk (nl_ BK803.out hg); have NB810_803 := Aside0.mk (ng_ BK803.out hg); replace BK803 := bb0_ BK803.out hb; clear hb hbox hg; have hnb12 := NB810_802.out; have hnc12 := NB802_810.out; have hnb13 := NB810_803.out; have hnc13 := NB803_810.out; obtain ⟨hcz14_0, hcz14_1, hcz14_2, hcz14_3, hfz14_0, hfz14_1, hfz14_2, hfz14_3⟩ := cf4_ BK810.out; obtain ⟨Ao15, co15, eo15⟩ := Kd.N_slice HO809.out; subst eo15; obtain ⟨hcz16_0, hcz16_1, hcz16_2, hcz16_3, hfz16_0, hfz16_1, hfz16_2, hfz16_3⟩ := cf4_ BK802.out) | ((with_reducible refine gate_callee (f := 32) rfl ?_); refine gs_ (some 10) Try.func32 #[.agg #[.int .i64 a0_0, .int .i64 a0_1, .int .i64 a0_2, .slice A0_3 l0_3.length c0_3]] ?_; (with_reducible refine (spec_Shadowed.calls k a0_0 a0_1 a0_2 _ _ l0_3 t811 _ ?side1 ?side2 A3.out).mono ?_); (case side1 => exact Kd.C_below HR0_3.out bl_); (case side2 => exact HC0_3.out); rintro e w17 ⟨v812, rfl, ho0, hb⟩; refine ⟨_, rfl, ?_⟩; replace HO809 := Aside0.mk (Kd.N_elder' (by (with_reducible repeat (first | apply Kd.N_alloc | apply Kd.N_drewN | apply Kd.N_drew)); exact (Kd.N_mono (Kd.N_far (p := ⟨gb810, 3, none⟩) (Kd.N_far (p := ⟨gb810, 2, none⟩) (Kd.N_far (p := ⟨gb810, 1, none⟩) (Kd.N_far (p := ⟨gb810, 0, none⟩) (Kd.N_mono HO809.out (fun k_ hk => (⟨hk, hk.2⟩ : _ ∧ k_ ≠ gb810))) (fun _ hk => hk.2) (.int .i64 t804)) (fun _ hk => hk.2) (.int .i64 t805)) (fun _ hk => hk.2) (.int .i64 t806)) (fun _ hk => hk.2) (.slice Ao15 t807.length co15)) (fun _ h_ => h_.1))) (Kd.R_base ho0) hb); have HO813 := Aside0.mk (Kd.R_lower (Kd.R_newM (M := fun k_ => (w.heap.size ≤ k_)) ho0 (below_size bl_) (fun k_ h_ => h_)) (below_size bl_)); replace BK802 := bb1_ BK802.out NB802_810.out hb; replace BK803 := bb1_ BK803.out NB803_810.out hb; replace BK810 := Aside0.mk (blk_below (g := gb810) (o := .cells #[.int .i64 t804, .int .i64 t805, .int .i64 t806, .slice Ao15 t807.length co15] 36 (0, 0)) (bp0_ BK810.out) hb); replace HB := Aside0.mk (below_step bl_ hb); (try clear hb); (try clear ho0); obtain ⟨hcz18_0, hcz18_1, hcz18_2, hcz18_3, hfz18_0, hfz18_1, hfz18_2, hfz18_3⟩ := cf4_ BK802.out) | ((with_reducible refine gate_callee (f := 27) rfl ?_); refine gs_ (some 12) Try.func27 #[.agg #[.int .i64 a0_0, .int .i64 a0_1, .int .i64 a0_2, .slice A0_3 l0_3.length c0_3]] ?_; (with_reducible refine (spec_PolicyOk.calls k a0_0 a0_1 a0_2 _ _ l0_3 true _ ?side1 ?side2 A4.out).mono ?_); (case side1 => exact cb_ HR0_3.out HB.out); (case side2 => exact HC0_3.out); rintro e w19 ⟨rfl, hb⟩; refine ⟨_, rfl, ?_⟩; replace HO809 := Aside0.mk (Kd.N_below (na_ HO809.out) hb); replace HO813 := Aside0.mk (Kd.R_below (ra_ HO813.out) hb); replace BK802 := bb0_ BK802.out hb; replace BK803 := bb0_ BK803.out hb; replace BK810 := bb0_ BK810.out hb; replace HB := Aside0.mk (below_step bl_ hb); (try clear hb)) | ((with_reducible refine gate_dst (N := 15) rfl ?_); refine Kd.N_lit k53 _ 53 ?hg (N' := 15) ?hd (xs := ([] : List (S53))) (inner := []) (ok := (fun k_ => (w.heap.size ≤ k_) ∧ some k_ ≠ (.slice Ao15 t807.length co15 : Value).ownBlock ∧ some k_ ≠ (v812 : Value).ownBlock ∧ k_ ≠ gb802 ∧ k_ ≠ gb803 ∧ k_ ≠ gb810)) (okp := (fun k_ => (w.heap.size ≤ k_) ∧ some k_ ≠ (.slice Ao15 t807.length co15 : Value).ownBlock ∧ some k_ ≠ (v812 : Value).ownBlock ∧ k_ ≠ gb802 ∧ k_ ≠ gb803 ∧ k_ ≠ gb810)) ?hr ?hp (fun _ hk => hk) ((show ∀ k_, w19.heap.size ≤ k_ → (fun k_ => (w.heap.size ≤ k_) ∧ some k_ ≠ (.slice Ao15 t807.length co15 : Value).ownBlock ∧ some k_ ≠ (v812 : Value).ownBlock ∧ k_ ≠ gb802 ∧ k_ ≠ gb803 ∧ k_ ≠ gb810) k_ from fun k_ hk => ⟨(Nat.le_trans (below_size bl_) hk), Kd.fresh' (Kd.N_lt (na_ HO809.out)) k_ hk, Kd.fresh' (Kd.R_lt (ra_ HO813.out)) k_ hk, fb_ BK802.out k_ hk, fb_ BK803.out k_ hk, fb_ BK810.out k_ hk⟩) _ (Nat.le_refl _)) (Below.refl _ _) (Nat.le_refl _) (by simp) ?_; (case hd => rfl); (case hg => rfl); (case hr => first | (go_simp; done) | (go_simp; rfl)); (case hp => exact (Reps.none _ _)); intro v816 w20 ho21 hb hg_ hnew_; clear hg_ hnew_; (first | rw [← Ny815.out] at ho21 | (simp only [Int.reduceToNat] at ho21; rw [← Ny815.out] at ho21)); replace HO809 := Aside0.mk (Kd.N_elder' (na_ HO809.out) (Kd.N_base ho21) hb); replace HO813 := Aside0.mk (Kd.R_below (ra_ HO813.out) hb); have HO817 := Aside0.mk (Kd.N_lower ho21 (below_size bl_)); replace BK802 := bb0_ BK802.out hb; replace BK803 := bb0_ BK803.out hb; replace BK810 := bb0_ BK810.out hb; replace HB := Aside0.mk (below_step bl_ hb); clear hb ho21))
 go_loopg [5, 6] k (fun kq v5 v6 w' => ∃ (x5_1 : List (S53)) (x6_1 : Int), v6 = .int .i64 x6_1 ∧ Aside0 (spec_Unshadowed.l0 kq t811 x5_1 x6_1 t804 t805 t806 t807 = some (r1, r2, r3, r4)) ∧ Aside0 (kq ≤ k) ∧ Aside0 (Kd.R (Kd.int .i64) 3 w' w.heap.size (fun k_ => (w.heap.size ≤ k_)) v812 t811) ∧ Aside0 (Kd.N k53 53 w' w.heap.size (fun k_ => (w.heap.size ≤ k_) ∧ some k_ ≠ (v812 : Value).ownBlock ∧ some k_ ≠ ((.slice Ao15 t807.length co15) : Value).ownBlock ∧ k_ ≠ gb802 ∧ k_ ≠ gb803 ∧ k_ ≠ gb810) v5 x5_1) ∧ Aside0 (Kd.N k53 53 w' w.heap.size (fun k_ => (w.heap.size ≤ k_) ∧ some k_ ≠ (v812 : Value).ownBlock ∧ some k_ ≠ (v5 : Value).ownBlock ∧ k_ ≠ gb802 ∧ k_ ≠ gb803 ∧ k_ ≠ gb810) (.slice Ao15 t807.length co15) t807) ∧ Aside0 (w'.heap[gb802]? = some (.cells #[.int .i64 a0_0, .int .i64 a0_1, .int .i64 a0_2, (.slice A0_3 l0_3.length c0_3)] 36 (0, 0))) ∧ Aside0 (w'.heap[gb803]? = some (.cells #[.int .i64 0, .int .i64 0, .int .i64 0, (.slice none 0 0)] 36 (0, 0))) ∧ Aside0 (w'.heap[gb810]? = some (.cells #[.int .i64 t804, .int .i64 t805, .int .i64 t806, (.slice Ao15 t807.length co15)] 36 (0, 0))) ∧ Aside0 (Below w.heap.size w w'))
 case atStart => exact ⟨(y815), (0), (sr_), H', ⟨Nat.le_refl _⟩, ⟨by (with_reducible repeat (first | apply Kd.R_alloc | apply Kd.R_drewN | apply Kd.R_drew)); exact Kd.R_mono HO813.out (fun _ hk => hk.1)⟩, ⟨by (with_reducible repeat (first | apply Kd.N_alloc | apply Kd.N_drewN | apply Kd.N_drew)); exact Kd.N_mono HO817.out (fun _ hk => ⟨hk.1, ⟨hk.2.2.1, ⟨hk.2.1, ⟨hk.2.2.2.1, ⟨hk.2.2.2.2.1, hk.2.2.2.2.2⟩⟩⟩⟩⟩)⟩, ⟨by (with_reducible repeat (first | apply Kd.N_alloc | apply Kd.N_drewN | apply Kd.N_drew)); exact Kd.N_mono HO809.out (fun _ hk => ⟨hk.1.1.1.1, ⟨hk.1.2, ⟨hk.2, ⟨hk.1.1.1.2.1, ⟨hk.1.1.1.2.2, hk.1.1.2⟩⟩⟩⟩⟩)⟩, ⟨bk_ BK802.out⟩, ⟨bk_ BK803.out⟩, ⟨bk_ BK810.out⟩, ⟨bl_⟩⟩
 clear H'
 try clear c5
 try clear hcz14_0
 try clear hcz14_1
 try clear hcz14_2
 try clear hcz14_3
 try clear hcz16_0
 try clear hcz16_1
 try clear hcz16_2
 try clear hcz16_3
 try clear hcz18_0
 try clear hcz18_1
 try clear hcz18_2
 try clear hcz18_3
 try clear hcz9_0
 try clear hcz9_1
 try clear hcz9_2
 try clear hcz9_3
 try clear hfz14_0
 try clear hfz14_1
 try clear hfz14_2
 try clear hfz14_3
 try clear hfz16_0
 try clear hfz16_1
 try clear hfz16_2
 try clear hfz16_3
 try clear hfz18_0
 try clear hfz18_1
 try clear hfz18_2
 try clear hfz18_3
 try clear hfz9_0
 try clear hfz9_1
 try clear hfz9_2
 try clear hfz9_3
 obtain ⟨x5_1, x6_1, rfl, HA, HK1, HO_4, HO_5, HO_811003, BK802, BK803, BK810, HB⟩ := hrel
 cases gk with
 | zero => exact absurd HA.out (by simp [spec_Unshadowed.l0])
 | succ k1 => ?_
 have H := HA.out
 clear HA
 simp only [spec_Unshadowed.l0] at H
 by_cases c22 : x6_1 < (t807.length : Int)
 rotate_left
 ·rw [if_neg c22] at H
  have c22b0 := decide_eq_false c22
  clear c22
  simp only [Option.some.injEq, Prod.mk.injEq] at H
  obtain ⟨rfl, rfl, rfl, rfl⟩ := H
  have hnb36 := NB810_802.out
  have hnc36 := NB802_810.out
  have hnb37 := NB810_803.out
  have hnc37 := NB803_810.out
  obtain ⟨hcz38_0, hcz38_1, hcz38_2, hcz38_3, hfz38_0, hfz38_1, hfz38_2, hfz38_3⟩ := cf4_ BK810.out
  obtain ⟨Ao39, co39, eo39⟩ := Kd.N_slice HO_5.out
  subst eo39
  have hnb40 := NB803_802.out
  have hnc40 := NB802_803.out
  obtain ⟨hcz41_0, hcz41_1, hcz41_2, hcz41_3, hfz41_0, hfz41_1, hfz41_2, hfz41_3⟩ := cf4_ BK803.out
  go_wp2
  refine bodyPost_ret (results_cell_row rfl _ _ gb803 36 #[.int .i64 t804, .int .i64 t805, .int .i64 t806, .slice Ao39 x5_1.length co39] (0, 0) _ rfl (bp1_ BK803.out NB803_810.out) Try.underlying36 rfl (by kernel_rfl)) rfl ?_
  exact ⟨_, er_, by (with_reducible repeat (first | apply Kd.N_alloc | apply Kd.N_drewN | apply Kd.N_drew)); exact Kd.N_mono (Kd.N_far (p := ⟨gb803, 3, none⟩) (Kd.N_far (p := ⟨gb803, 2, none⟩) (Kd.N_far (p := ⟨gb803, 1, none⟩) (Kd.N_far (p := ⟨gb803, 0, none⟩) (Kd.N_far (p := ⟨gb810, 3, none⟩) (Kd.N_mono (Kd.N_mono HO_5.out (fun k_ hk => (⟨hk, hk.2.2.2.2.2⟩ : _ ∧ k_ ≠ gb810))) (fun k_ hk => (⟨hk, hk.1.2.2.2.2.1⟩ : _ ∧ k_ ≠ gb803))) (fun _ hk => hk.1.2) (.slice Ao39 x5_1.length co39)) (fun _ hk => hk.2) (.int .i64 t804)) (fun _ hk => hk.2) (.int .i64 t805)) (fun _ hk => hk.2) (.int .i64 t806)) (fun _ hk => hk.2) (.slice Ao39 x5_1.length co39)) (fun _ hk => hk.1.1.1), bl_⟩
 rw [if_pos c22] at H
 have c22b0 := decide_eq_true c22
 clear c22
 replace H := bs_ H
 obtain ⟨t818, A23, H⟩ := H
 try dsimp only at H
 by_cases c24 : t818 = true
 ·subst c24
  rw [if_pos rfl] at H
  have H' := Aside0.mk H
  clear H
  have hnb25 := NB810_802.out
  have hnc25 := NB802_810.out
  have hnb26 := NB810_803.out
  have hnc26 := NB803_810.out
  obtain ⟨hcz27_0, hcz27_1, hcz27_2, hcz27_3, hfz27_0, hfz27_1, hfz27_2, hfz27_3⟩ := cf4_ BK810.out
  obtain ⟨Ao28, co28, eo28⟩ := Kd.R_slice HO_4.out
  subst eo28
  go_wp2_with (first | ((with_reducible refine gate_callee (f := 53) rfl ?_); refine gs_ (some 25) Try.func53 #[.slice Ao28 t811.length co28, .int .i64 x6_1] ?_; (with_reducible refine (spec_l09In.calls k1 _ _ t811 x6_1 true _ ?side1 ?side2 A23.out).mono ?_); (case side1 => exact cs_ ((Kd.R_reads' HO_4.out).2.2)); (case side2 => exact (Kd.R_reads' HO_4.out).2.1); rintro e w' ⟨rfl, ⟨nd, rfl⟩⟩; refine ⟨_, rfl, ?_⟩))
  go_roundg k1
  case measure => have := HK1.out; omega
  case rel => exact ⟨(x5_1), (wrap64 (x6_1 + 1)), (sr_), H', ⟨by have := HK1.out; omega⟩, ⟨ra_ HO_4.out⟩, ⟨by (with_reducible repeat (first | apply Kd.N_alloc | apply Kd.N_drewN | apply Kd.N_drew)); exact HO_5.out⟩, ⟨by (with_reducible repeat (first | apply Kd.N_alloc | apply Kd.N_drewN | apply Kd.N_drew)); exact HO_811003.out⟩, ⟨bk_ BK802.out⟩, ⟨bk_ BK803.out⟩, ⟨bk_ BK810.out⟩, ⟨bl_⟩⟩
 replace c24 := Bool.eq_false_iff.mpr c24
 subst c24
 rw [nf_] at H
 by_cases c29 : 0 ≤ x6_1
 rotate_left
 ·exact nn_ c29 H
 rw [if_pos c29] at H
 have c29b0 := decide_eq_true c29
 clear c29
 by_cases c30 : x5_1.length < 2199023255552
 rotate_left
 ·exact nn_ c30 H
 rw [if_pos c30] at H
 have LMc30 := Aside0.mk c30
 clear c30
 obtain ⟨y820, hy820⟩ : ∃ y_ : List (S53), y_ = (x5_1 ++ [(⟨(rd_T53 t807 x6_1).f0, (rd_T53 t807 x6_1).f1, (rd_T53 t807 x6_1).f2, (rd_T53 t807 x6_1).f3⟩ : S53)]) := ⟨_, rfl⟩
 replace H : (spec_Unshadowed.l0 k1 t811 y820 (wrap64 (x6_1 + 1)) t804 t805 t806 t807) = some (r1, r2, r3, r4) := rp_ H hy820
 have Ny820 := Aside0.mk hy820
 clear hy820
 have H' := Aside0.mk H
 clear H
 have hnb31 := NB810_802.out
 have hnc31 := NB802_810.out
 have hnb32 := NB810_803.out
 have hnc32 := NB803_810.out
 obtain ⟨hcz33_0, hcz33_1, hcz33_2, hcz33_3, hfz33_0, hfz33_1, hfz33_2, hfz33_3⟩ := cf4_ BK810.out
 obtain ⟨Ao34, co34, eo34⟩ := Kd.R_slice HO_4.out
 subst eo34
 go_wp2_with (first | ((with_reducible refine gate_callee (f := 53) rfl ?_); refine gs_ (some 25) Try.func53 #[.slice Ao34 t811.length co34, .int .i64 x6_1] ?_; (with_reducible refine (spec_l09In.calls k1 _ _ t811 x6_1 false _ ?side1 ?side2 A23.out).mono ?_); (case side1 => exact cs_ ((Kd.R_reads' HO_4.out).2.2)); (case side2 => exact (Kd.R_reads' HO_4.out).2.1); rintro e w' ⟨rfl, ⟨nd, rfl⟩⟩; refine ⟨_, rfl, ?_⟩; have p819 : 0 ≤ (x6_1 : Int) := of_decide_eq_true as_; have q819 : x6_1 < (t807.length : Int) := of_decide_eq_true as_; obtain ⟨ad819, A819_0, c819_0, A819_1, c819_1, e819, hx819_0, hx819_1, hx819_2, hx819_3, hl819_0, hi819_0, hl819_1, hi819_1⟩ := at_T53 (Kd.N_reads' HO_811003.out).2.2 x6_1 p819 q819; cases e819; obtain ⟨ce819, hce819, hMe819, hcc819⟩ := Kd.N_get HO_811003.out z53 x6_1 p819 (by first | exact q819 | exact of_decide_eq_true as_ | (have e_ := (Kd.N_reads' HO_811003.out).1; omega)); obtain ⟨ua819_0, uc819_0, ua819_1, uc819_1, rfl, ul819_0, ge819_0, ul819_1, ge819_1⟩ := k53_openF hMe819; have hv819_0 := hcc819 0 _ rfl; rw [Nat.add_zero] at hv819_0; replace hv819_0 := Option.some.inj (hv819_0.symm.trans hx819_0); injection hv819_0 with hva_ hvn_ hvc_; rw [hva_] at ge819_0; rw [hvc_] at ul819_0; have HL819_0 := Aside0.mk (show Kd.V (Kd.int .i64) 3 _ w.heap.size _ _ ((rd_T53 t807 x6_1).f0) from Kd.V_mk ul819_0 ge819_0); clear hva_ hvn_ hvc_ ge819_0 ul819_0; have hv819_1 := hcc819 1 _ rfl; rw [add_field _ _ 1 (by omega)] at hv819_1; replace hv819_1 := Option.some.inj (hv819_1.symm.trans hx819_1); injection hv819_1 with hva_ hvn_ hvc_; rw [hva_] at ge819_1; rw [hvc_] at ul819_1; have HL819_1 := Aside0.mk (show Kd.V k100 100 _ w.heap.size _ _ ((rd_T53 t807 x6_1).f1) from Kd.V_mk ul819_1 ge819_1); clear hva_ hvn_ hvc_ ge819_1 ul819_1; clear hcc819 hce819; have HR819_0 := Aside0.mk hi819_0; have HC819_0 := Aside0.mk hl819_0; clear hi819_0 hl819_0; have HR819_1 := Aside0.mk hi819_1; have HC819_1 := Aside0.mk hl819_1; clear hi819_1 hl819_1; replace p819 := eq_true p819; replace q819 := eq_true q819) | ((with_reducible refine gate_builtin (b := .append) (xs := #[.tmp 27, .tmp 33]) rfl ?_); at_builtin; refine Kd.N_append k53 (w0 := w) w.heap.size rfl (.tmp 27) (.tmp 33) 34 53 (.agg #[(.slice none 0 0), (.slice none 0 0), (.int .i64 0), (.int .i64 0)]) 64 rfl Try.underlying34 info53 rfl (by decide) (by omega) u5 x5_1 (⟨(rd_T53 t807 x6_1).f0, (rd_T53 t807 x6_1).f1, (rd_T53 t807 x6_1).f2, (rd_T53 t807 x6_1).f3⟩ : S53) [.slice A819_0 ((rd_T53 t807 x6_1).f0).length c819_0, .slice A819_1 ((rd_T53 t807 x6_1).f1).length c819_1, .int .i64 ((rd_T53 t807 x6_1).f2), .int .i64 ((rd_T53 t807 x6_1).f3)] (fun k_ => (w.heap.size ≤ k_) ∧ some k_ ≠ (.slice Ao34 t811.length co34 : Value).ownBlock ∧ some k_ ≠ (.slice (some ad819) t807.length co15 : Value).ownBlock ∧ k_ ≠ gb802 ∧ k_ ≠ gb803 ∧ k_ ≠ gb810) (fun k_ => ((fun k_ => (w.heap.size ≤ k_) ∧ some k_ ≠ (.slice Ao34 t811.length co34 : Value).ownBlock ∧ some k_ ≠ (.slice (some ad819) t807.length co15 : Value).ownBlock ∧ k_ ≠ gb802 ∧ k_ ≠ gb803 ∧ k_ ≠ gb810)) k_ ∧ some k_ ≠ (u5 : Value).ownBlock) rfl rfl ?aP (fun _ hk => hk) ?aF ?aO ?aB ?aS ?aL ?_; (case aP => exact (k53_mkF _ _ (⟨(rd_T53 t807 x6_1).f0, (rd_T53 t807 x6_1).f1, (rd_T53 t807 x6_1).f2, (rd_T53 t807 x6_1).f3⟩ : S53) (Kd.V_reads' (Kd.V_mono (ok' := (fun k_ => ((fun k_ => (w.heap.size ≤ k_) ∧ some k_ ≠ (.slice Ao34 t811.length co34 : Value).ownBlock ∧ some k_ ≠ (.slice (some ad819) t807.length co15 : Value).ownBlock ∧ k_ ≠ gb802 ∧ k_ ≠ gb803 ∧ k_ ≠ gb810)) k_ ∧ some k_ ≠ (u5 : Value).ownBlock)) (HL819_0.out) (fun k_ hk => ⟨⟨hk.1.1, ⟨hk.1.2.1, ⟨hk.2, ⟨hk.1.2.2.2.1, ⟨hk.1.2.2.2.2.1, hk.1.2.2.2.2.2⟩⟩⟩⟩⟩, hk.1.2.2.1⟩))).2.1 (Kd.V_F (Kd.V_mono (ok' := (fun k_ => ((fun k_ => (w.heap.size ≤ k_) ∧ some k_ ≠ (.slice Ao34 t811.length co34 : Value).ownBlock ∧ some k_ ≠ (.slice (some ad819) t807.length co15 : Value).ownBlock ∧ k_ ≠ gb802 ∧ k_ ≠ gb803 ∧ k_ ≠ gb810)) k_ ∧ some k_ ≠ (u5 : Value).ownBlock)) (HL819_0.out) (fun k_ hk => ⟨⟨hk.1.1, ⟨hk.1.2.1, ⟨hk.2, ⟨hk.1.2.2.2.1, ⟨hk.1.2.2.2.2.1, hk.1.2.2.2.2.2⟩⟩⟩⟩⟩, hk.1.2.2.1⟩))) (Kd.V_reads' (Kd.V_mono (ok' := (fun k_ => ((fun k_ => (w.heap.size ≤ k_) ∧ some k_ ≠ (.slice Ao34 t811.length co34 : Value).ownBlock ∧ some k_ ≠ (.slice (some ad819) t807.length co15 : Value).ownBlock ∧ k_ ≠ gb802 ∧ k_ ≠ gb803 ∧ k_ ≠ gb810)) k_ ∧ some k_ ≠ (u5 : Value).ownBlock)) (HL819_1.out) (fun k_ hk => ⟨⟨hk.1.1, ⟨hk.1.2.1, ⟨hk.2, ⟨hk.1.2.2.2.1, ⟨hk.1.2.2.2.2.1, hk.1.2.2.2.2.2⟩⟩⟩⟩⟩, hk.1.2.2.1⟩))).2.1 (Kd.V_F (Kd.V_mono (ok' := (fun k_ => ((fun k_ => (w.heap.size ≤ k_) ∧ some k_ ≠ (.slice Ao34 t811.length co34 : Value).ownBlock ∧ some k_ ≠ (.slice (some ad819) t807.length co15 : Value).ownBlock ∧ k_ ≠ gb802 ∧ k_ ≠ gb803 ∧ k_ ≠ gb810)) k_ ∧ some k_ ≠ (u5 : Value).ownBlock)) (HL819_1.out) (fun k_ hk => ⟨⟨hk.1.1, ⟨hk.1.2.1, ⟨hk.2, ⟨hk.1.2.2.2.1, ⟨hk.1.2.2.2.2.1, hk.1.2.2.2.2.2⟩⟩⟩⟩⟩, hk.1.2.2.1⟩))))); (case aB => exact bl_); (case aF => exact (fun k_ hk => ⟨(Nat.le_trans (below_size bl_) hk), Kd.fresh' (Kd.R_lt (ra_ HO_4.out)) k_ hk, Kd.fresh' (Kd.N_lt (na_ HO_811003.out)) k_ hk, fb_ BK802.out k_ hk, fb_ BK803.out k_ hk, fb_ BK810.out k_ hk⟩)); (case aO => exact (na_ HO_5.out)); (case aS => exact (below_size bl_)); (case aL => have := LMc30.out; omega); intro v821 w35 ho hb hg hat; rw [← Ny820.out] at ho; replace HO_4 := Aside0.mk (Kd.R_over' (ra_ HO_4.out) (Kd.N_typed (na_ HO_5.out)) (by decide) hg); replace HO_811003 := Aside0.mk (Kd.N_afterv (ok := (fun k_ => (w.heap.size ≤ k_) ∧ some k_ ≠ (.slice Ao34 t811.length co34 : Value).ownBlock ∧ k_ ≠ gb802 ∧ k_ ≠ gb803 ∧ k_ ≠ gb810)) (by (with_reducible repeat (first | apply Kd.N_alloc | apply Kd.N_drewN | apply Kd.N_drew)); exact Kd.N_mono HO_811003.out (fun _ hk => ⟨⟨hk.1, ⟨hk.2.1, ⟨hk.2.2.2.1, ⟨hk.2.2.2.2.1, hk.2.2.2.2.2⟩⟩⟩⟩, hk.2.2.1⟩)) hg hat); replace BK802 := Aside0.mk (blk_grown (g := gb802) (o := .cells #[.int .i64 a0_0, .int .i64 a0_1, .int .i64 a0_2, .slice A0_3 l0_3.length c0_3] 36 (0, 0)) (bk_ BK802.out) hg (Kd.N_ne HO_5.out BK802.out (by decide))); replace BK803 := Aside0.mk (blk_grown (g := gb803) (o := .cells #[.int .i64 0, .int .i64 0, .int .i64 0, .slice none 0 0] 36 (0, 0)) (bk_ BK803.out) hg (Kd.N_ne HO_5.out BK803.out (by decide))); replace BK810 := Aside0.mk (blk_grown (g := gb810) (o := .cells #[.int .i64 t804, .int .i64 t805, .int .i64 t806, .slice (some ad819) t807.length co15] 36 (0, 0)) (bk_ BK810.out) hg (Kd.N_ne HO_5.out BK810.out (by decide))); replace HL819_0 := Aside0.mk (Kd.V_afterv (ok := (fun k_ => (w.heap.size ≤ k_) ∧ some k_ ≠ (.slice Ao34 t811.length co34 : Value).ownBlock ∧ some k_ ≠ (.slice (some ad819) t807.length co15 : Value).ownBlock ∧ k_ ≠ gb802 ∧ k_ ≠ gb803 ∧ k_ ≠ gb810)) (by (with_reducible repeat (first | apply Kd.V_alloc | apply Kd.V_drewN | apply Kd.V_drew)); exact Kd.V_mono HL819_0.out (fun _ hk => ⟨⟨hk.1.1, ⟨hk.1.2.1, ⟨hk.2, ⟨hk.1.2.2.2.1, ⟨hk.1.2.2.2.2.1, hk.1.2.2.2.2.2⟩⟩⟩⟩⟩, hk.1.2.2.1⟩)) hg hat); replace HL819_1 := Aside0.mk (Kd.V_afterv (ok := (fun k_ => (w.heap.size ≤ k_) ∧ some k_ ≠ (.slice Ao34 t811.length co34 : Value).ownBlock ∧ some k_ ≠ (.slice (some ad819) t807.length co15 : Value).ownBlock ∧ k_ ≠ gb802 ∧ k_ ≠ gb803 ∧ k_ ≠ gb810)) (by (with_reducible repeat (first | apply Kd.V_alloc | apply Kd.V_drewN | apply Kd.V_drew)); exact Kd.V_mono HL819_1.out (fun _ hk => ⟨⟨hk.1.1, ⟨hk.1.2.1, ⟨hk.2, ⟨hk.1.2.2.2.1, ⟨hk.1.2.2.2.2.1, hk.1.2.2.2.2.2⟩⟩⟩⟩⟩, hk.1.2.2.1⟩)) hg hat); replace HB := Aside0.mk (hb); have HO822 := Aside0.mk (ho); clear HO_5; clear ho hb hg hat))
 go_roundg k1
 case measure => have := HK1.out; omega
 case rel => exact ⟨(y820), (wrap64 (x6_1 + 1)), (sr_), H', ⟨by have := HK1.out; omega⟩, ⟨ra_ HO_4.out⟩, ⟨by (with_reducible repeat (first | apply Kd.N_alloc | apply Kd.N_drewN | apply Kd.N_drew)); exact HO822.out⟩, ⟨by (with_reducible repeat (first | apply Kd.N_alloc | apply Kd.N_drewN | apply Kd.N_drew)); exact Kd.N_mono HO_811003.out (fun _ hk => ⟨hk.1.1, ⟨hk.1.2.1, ⟨hk.2, ⟨hk.1.2.2.1, ⟨hk.1.2.2.2.1, hk.1.2.2.2.2⟩⟩⟩⟩⟩)⟩, ⟨bk_ BK802.out⟩, ⟨bk_ BK803.out⟩, ⟨bk_ BK810.out⟩, ⟨bl_⟩⟩

end Go.Proofs.Ytjfmpodeenidnaa.PC
