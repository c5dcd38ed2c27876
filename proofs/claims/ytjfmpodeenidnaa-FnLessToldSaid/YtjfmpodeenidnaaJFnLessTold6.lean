/- Contracts of functions of the program and of the reference, and plain lemmas on what they compute: a part of the proof of the law FnLessTold. No condition. -/
import Derived.Test.YtjfmpodeenidnaaG90508x0
import Derived.Test.YtjfmpodeenidnaaG90508x1
import Derived.Test.YtjfmpodeenidnaaJFnLessTold5
import Derived.Test.YtjfmpodeenidnaaShortV
set_option maxHeartbeats 8000000
set_option maxRecDepth 100000
namespace Go.Proofs.Ytjfmpodeenidnaa.PC
open Go.RowKit Go.Proofs.Ytjfmpodeenidnaa.Short Go.Proofs.YtjfmpodeenidnaaW.PrintWords Go.Proofs.YtjfmpodeenidnaaW.PrintLast Go.Proofs.YtjfmpodeenidnaaW.PrintMore
attribute [local go_sem] max2_int min2_int max_two min_two max_three min_three max_four min_four   -- for this text's walks alone
set_option linter.unusedVariables false
set_option linter.unusedSimpArgs false

def impl_Lessened.l0 : Nat → Int → Int → Int → Int → List (S53) → Int → Int → Int → List (S53) → Option (Int × Int × Int × (List (S53)))
 | 0, _, _, _, _, _, _, _, _, _ => none
 | k + 1, x4, x824000, x824001, x824002, x824003, x832000, x832001, x832002, x832003 => if x4 > 0 then (if 0 ≤ (wrap64 (x4 - 1)) then (if (wrap64 (x4 - 1)) < (x832003.length : Int) then (if ((rd_T53 x832003 (wrap64 (x4 - 1))).f2) = x824001 then (if ((rd_T53 x832003 (wrap64 (x4 - 1))).f3) = x824002 then (if (wrap64 (x4 - 1)) ≤ (x832003.length : Int) then (impl_Lessened.l0 k (wrap64 (x4 - 1)) x824000 x824001 x824002 x824003 x832000 x832001 x832002 (x832003.take ((wrap64 (x4 - 1)) : Int).toNat)) else (none)) else (some (x832000, x832001, x832002, x832003))) else (some (x832000, x832001, x832002, x832003))) else (none)) else (none)) else (some (x832000, x832001, x832002, x832003))
def impl_Lessened.f (k : Nat) (a0_0 : Int) (a0_1 : Int) (a0_2 : Int) (l0_3 : List (S53)) : Option (Int × Int × Int × (List (S53))) := (impl_Unshadowed.f k a0_0 a0_1 a0_2 l0_3).bind fun bt825 => ((impl_PolicyOk.f k a0_0 a0_1 a0_2 l0_3).bind fun t832 => (if t832 = true then (impl_Lessened.l0 k (bt825.2.2.2.length : Int) a0_0 a0_1 a0_2 l0_3 bt825.1 bt825.2.1 bt825.2.2.1 bt825.2.2.2) else (some (bt825.1, bt825.2.1, bt825.2.2.1, bt825.2.2.2))))
theorem impl_Lessened.mono_l : ∀ k, (∀ y0 y1 y2 y3 y4 y5 y6 y7 y8, LeO (impl_Lessened.l0 k y0 y1 y2 y3 y4 y5 y6 y7 y8) (impl_Lessened.l0 (k + 1) y0 y1 y2 y3 y4 y5 y6 y7 y8))
 | 0 => fun _ _ _ _ _ _ _ _ _ r h => by simp [impl_Lessened.l0] at h
 | k + 1 => by
  have ih0 := impl_Lessened.mono_l k
  ·intro y0 y1 y2 y3 y4 y5 y6 y7 y8
   unfold impl_Lessened.l0
   have m0 := @impl_PolicyOk.mono
   have m1 := @impl_Unshadowed.mono
   exact mo_
theorem impl_Lessened.mono : ∀ a0 a1 a2 a3 k, LeO (impl_Lessened.f k a0 a1 a2 a3) (impl_Lessened.f (k + 1) a0 a1 a2 a3) := by
 intro a0 a1 a2 a3 k
 have ih0 := impl_Lessened.mono_l k
 unfold impl_Lessened.f
 have m0 := @impl_PolicyOk.mono
 have m1 := @impl_Unshadowed.mono
 exact mo_
theorem impl_Lessened.calls (k : Nat) (a0_0 : Int) (a0_1 : Int) (a0_2 : Int) (A0_3 : Option Addr) (c0_3 : Nat) (l0_3 : List (S53)) (r1 : Int) (r2 : Int) (r3 : Int) (r4 : List (S53)) (w : World) (hr0_3 : Kd.C k53 w A0_3 l0_3.length l0_3) (hc0_3 : l0_3.length ≤ c0_3) (h : impl_Lessened.f k a0_0 a0_1 a0_2 l0_3 = some (r1, r2, r3, r4)) :
 Calls Try.prog 36 #[.agg #[.int .i64 a0_0, .int .i64 a0_1, .int .i64 a0_2, .slice A0_3 l0_3.length c0_3]] w fun e w' => ∃ v3_ : Value, e = .returned (.agg #[.int .i64 r1, .int .i64 r2, .int .i64 r3, v3_]) ∧ Kd.N k53 53 w' w.heap.size (fun k_ => (w.heap.size ≤ k_)) v3_ r4 ∧ Below w.heap.size w w' := by
 have hu36 := Try.underlying36
 have HR0_3 := Aside0.mk hr0_3
 have HC0_3 := Aside0.mk hc0_3
 clear hr0_3 hc0_3
 have HB := Aside0.mk (Below.refl w.heap.size w)
 have H := h
 unfold impl_Lessened.f at H
 clear h
 replace H := bs_ H
 obtain ⟨⟨t825, t826, t827, t828⟩, A2, H⟩ := H
 try dsimp only at H
 replace H := bs_ H
 obtain ⟨t832, A3, H⟩ := H
 try dsimp only at H
 by_cases c4 : t832 = true
 rotate_left
 ·replace c4 := Bool.eq_false_iff.mpr c4
  subst c4
  rw [nf_] at H
  simp only [Option.some.injEq, Prod.mk.injEq] at H
  obtain ⟨rfl, rfl, rfl, rfl⟩ := H
  go_enter Try.func36, Try.ntmps36
  go_wp2_with (first | ((with_reducible refine gate_dst (N := 1) rfl ?_); refine bx_ 1 36 #[.int .i64 a0_0, .int .i64 a0_1, .int .i64 a0_2, .slice A0_3 l0_3.length c0_3] ?_; intro gb823 hg w52 hbox hb; have BK823 := Aside0.mk (hbox); have GW823 := Aside0.mk ((hz_ : w.heap.size ≤ gb823)); have GE823 := GW823; replace HB := Aside0.mk (below_step bl_ hb); clear hb hbox hg) | ((with_reducible refine gate_dst (N := 2) rfl ?_); refine bx_ 2 36 #[.int .i64 0, .int .i64 0, .int .i64 0, .slice none 0 0] ?_; intro gb824 hg w53 hbox hb; have BK824 := Aside0.mk (hbox); have GW824 := Aside0.mk ((hz_ : w.heap.size ≤ gb824)); have GE824 := GW824; replace HB := Aside0.mk (below_step bl_ hb); have NB823_824 := Aside0.mk (nl_ BK823.out hg); have NB824_823 := Aside0.mk (ng_ BK823.out hg); replace BK823 := bb0_ BK823.out hb; clear hb hbox hg; have hnb54 := NB823_824.out; have hnc54 := NB824_823.out; obtain ⟨hcz55_0, hcz55_1, hcz55_2, hcz55_3, hfz55_0, hfz55_1, hfz55_2, hfz55_3⟩ := cf4_ BK823.out) | (go_at_call 34; (with_reducible refine (impl_Unshadowed.calls k a0_0 a0_1 a0_2 _ _ l0_3 t825 t826 t827 t828 _ ?side1 ?side2 A2.out).mono ?_); (case side1 => exact cb_ HR0_3.out HB.out); (case side2 => exact HC0_3.out); rintro e w56 ⟨v829, rfl, ho0, hb⟩; have HO830 := Aside0.mk (Kd.N_lower (Kd.N_mono (ok' := fun k_ => (w.heap.size ≤ k_) ∧ k_ ≠ gb823 ∧ k_ ≠ gb824) ho0 (fun k_ hk_ => ⟨(Nat.le_trans (below_size bl_) hk_), (fb_ BK823.out k_ hk_), (fb_ BK824.out k_ hk_)⟩)) (below_size bl_)); replace BK823 := bb0_ BK823.out hb; replace BK824 := bb0_ BK824.out hb; replace HB := Aside0.mk (below_step bl_ hb); (try clear ho0)) | ((with_reducible refine gate_dst (N := 3) rfl ?_); refine bx_ 3 36 #[.int .i64 0, .int .i64 0, .int .i64 0, .slice none 0 0] ?_; intro gb831 hg w57 hbox hb; replace HO830 := Aside0.mk (Kd.N_below (Kd.N_elderB (na_ HO830.out) gb831 (Nat.le_of_eq hg.symm)) hb); have BK831 := Aside0.mk (hbox); have GW831 := Aside0.mk ((hz_ : w.heap.size ≤ gb831)); have GE831 := GW831; replace HB := Aside0.mk (below_step bl_ hb); have NB823_831 := Aside0.mk (nl_ BK823.out hg); have NB831_823 := Aside0.mk (ng_ BK823.out hg); replace BK823 := bb0_ BK823.out hb; have NB824_831 := Aside0.mk (nl_ BK824.out hg); have NB831_824 := Aside0.mk (ng_ BK824.out hg); replace BK824 := bb0_ BK824.out hb; clear hb hbox hg; have hnb58 := NB831_823.out; have hnc58 := NB823_831.out; have hnb59 := NB831_824.out; have hnc59 := NB824_831.out; obtain ⟨hcz60_0, hcz60_1, hcz60_2, hcz60_3, hfz60_0, hfz60_1, hfz60_2, hfz60_3⟩ := cf4_ BK831.out; obtain ⟨Ao61, co61, eo61⟩ := Kd.N_slice HO830.out; subst eo61; obtain ⟨hcz62_0, hcz62_1, hcz62_2, hcz62_3, hfz62_0, hfz62_1, hfz62_2, hfz62_3⟩ := cf4_ BK823.out) | (go_at_call 56; (with_reducible refine (impl_PolicyOk.calls k a0_0 a0_1 a0_2 _ _ l0_3 false _ ?side1 ?side2 A3.out).mono ?_); (case side1 => exact Kd.C_below HR0_3.out bl_); (case side2 => exact HC0_3.out); rintro e w63 ⟨rfl, hb⟩; replace HO830 := Aside0.mk (Kd.N_below (by (with_reducible repeat (first | apply Kd.N_alloc | apply Kd.N_drewN | apply Kd.N_drew)); exact (Kd.N_mono (Kd.N_far (p := ⟨gb831, 3, none⟩) (Kd.N_far (p := ⟨gb831, 2, none⟩) (Kd.N_far (p := ⟨gb831, 1, none⟩) (Kd.N_far (p := ⟨gb831, 0, none⟩) (Kd.N_mono HO830.out (fun k_ hk => (⟨hk, hk.2⟩ : _ ∧ k_ ≠ gb831))) (fun _ hk => hk.2) (.int .i64 t825)) (fun _ hk => hk.2) (.int .i64 t826)) (fun _ hk => hk.2) (.int .i64 t827)) (fun _ hk => hk.2) (.slice Ao61 t828.length co61)) (fun _ h_ => h_.1))) hb); replace BK823 := bb1_ BK823.out NB823_831.out hb; replace BK824 := bb1_ BK824.out NB824_831.out hb; replace BK831 := Aside0.mk (blk_below (g := gb831) (o := .cells #[.int .i64 t825, .int .i64 t826, .int .i64 t827, .slice Ao61 t828.length co61] 36 (0, 0)) (bp0_ BK831.out) hb); replace HB := Aside0.mk (below_step bl_ hb); obtain ⟨hcz64_0, hcz64_1, hcz64_2, hcz64_3, hfz64_0, hfz64_1, hfz64_2, hfz64_3⟩ := cf4_ BK831.out; obtain ⟨hcz65_0, hcz65_1, hcz65_2, hcz65_3, hfz65_0, hfz65_1, hfz65_2, hfz65_3⟩ := cf4_ BK824.out))
  repeat (go_quiet (fail); try go_wp2_with (fail))
  refine bodyPost_ret (results_cell_row rfl _ _ gb824 36 #[.int .i64 t825, .int .i64 t826, .int .i64 t827, .slice Ao61 t828.length co61] (0, 0) _ rfl (bp0_ BK824.out) Try.underlying36 rfl (by kernel_rfl)) rfl ?_
  exact ⟨_, er_, by (with_reducible repeat (first | apply Kd.N_alloc | apply Kd.N_drewN | apply Kd.N_drew)); exact Kd.N_mono (Kd.N_far (p := ⟨gb824, 3, none⟩) (Kd.N_far (p := ⟨gb824, 2, none⟩) (Kd.N_far (p := ⟨gb824, 1, none⟩) (Kd.N_far (p := ⟨gb824, 0, none⟩) (Kd.N_mono HO830.out (fun k_ hk => (⟨hk, hk.1.2.2⟩ : _ ∧ k_ ≠ gb824))) (fun _ hk => hk.2) (.int .i64 t825)) (fun _ hk => hk.2) (.int .i64 t826)) (fun _ hk => hk.2) (.int .i64 t827)) (fun _ hk => hk.2) (.slice Ao61 t828.length co61)) (fun _ hk => hk.1.1.1), bl_⟩
 subst c4
 rw [if_pos rfl] at H
 have H' := Aside0.mk H
 clear H
 go_enter Try.func36, Try.ntmps36
 go_wp2_with (first | ((with_reducible refine gate_dst (N := 1) rfl ?_); refine bx_ 1 36 #[.int .i64 a0_0, .int .i64 a0_1, .int .i64 a0_2, .slice A0_3 l0_3.length c0_3] ?_; intro gb823 hg w5 hbox hb; have BK823 := Aside0.mk (hbox); have GW823 := Aside0.mk ((hz_ : w.heap.size ≤ gb823)); have GE823 := GW823; replace HB := Aside0.mk (below_step bl_ hb); clear hb hbox hg) | ((with_reducible refine gate_dst (N := 2) rfl ?_); refine bx_ 2 36 #[.int .i64 0, .int .i64 0, .int .i64 0, .slice none 0 0] ?_; intro gb824 hg w6 hbox hb; have BK824 := Aside0.mk (hbox); have GW824 := Aside0.mk ((hz_ : w.heap.size ≤ gb824)); have GE824 := GW824; replace HB := Aside0.mk (below_step bl_ hb); have NB823_824 := Aside0.mk (nl_ BK823.out hg); have NB824_823 := Aside0.mk (ng_ BK823.out hg); replace BK823 := bb0_ BK823.out hb; clear hb hbox hg; have hnb7 := NB823_824.out; have hnc7 := NB824_823.out; obtain ⟨hcz8_0, hcz8_1, hcz8_2, hcz8_3, hfz8_0, hfz8_1, hfz8_2, hfz8_3⟩ := cf4_ BK823.out) | (go_at_call 34; (with_reducible refine (impl_Unshadowed.calls k a0_0 a0_1 a0_2 _ _ l0_3 t825 t826 t827 t828 _ ?side1 ?side2 A2.out).mono ?_); (case side1 => exact cb_ HR0_3.out HB.out); (case side2 => exact HC0_3.out); rintro e w9 ⟨v829, rfl, ho0, hb⟩; have HO830 := Aside0.mk (Kd.N_lower (Kd.N_mono (ok' := fun k_ => (w.heap.size ≤ k_) ∧ k_ ≠ gb823 ∧ k_ ≠ gb824) ho0 (fun k_ hk_ => ⟨(Nat.le_trans (below_size bl_) hk_), (fb_ BK823.out k_ hk_), (fb_ BK824.out k_ hk_)⟩)) (below_size bl_)); replace BK823 := bb0_ BK823.out hb; replace BK824 := bb0_ BK824.out hb; replace HB := Aside0.mk (below_step bl_ hb); (try clear ho0)) | ((with_reducible refine gate_dst (N := 3) rfl ?_); refine bx_ 3 36 #[.int .i64 0, .int .i64 0, .int .i64 0, .slice none 0 0] ?_; intro gb831 hg w10 hbox hb; replace HO830 := Aside0.mk (Kd.N_below (Kd.N_elderB (na_ HO830.out) gb831 (Nat.le_of_eq hg.symm)) hb); have BK831 := Aside0.mk (hbox); have GW831 := Aside0.mk ((hz_ : w.heap.size ≤ gb831)); have GE831 := GW831; replace HB := Aside0.mk (below_step bl_ hb); have NB823_831 := Aside0.mk (nl_ BK823.out hg); have NB831_823 := Aside0.mk (ng_ BK823.out hg); replace BK823 := bb0_ BK823.out hb; have NB824_831 := Aside0.mk (nl_ BK824.out hg); have NB831_824 := Aside0.mk (ng_ BK824.out hg); replace BK824 := bb0_ BK824.out hb; clear hb hbox hg; have hnb11 := NB831_823.out; have hnc11 := NB823_831.out; have hnb12 := NB831_824.out; have hnc12 := NB824_831.out; obtain ⟨hcz13_0, hcz13_1, hcz13_2, hcz13_3, hfz13_0, hfz13_1, hfz13_2, hfz13_3⟩ := cf4_ BK831.out; obtain ⟨Ao14, co14, eo14⟩ := Kd.N_slice HO830.out; subst eo14; obtain ⟨hcz15_0, hcz15_1, hcz15_2, hcz15_3, hfz15_0, hfz15_1, hfz15_2, hfz15_3⟩ := cf4_ BK823.out) | (go_at_call 56; (with_reducible refine (impl_PolicyOk.calls k a0_0 a0_1 a0_2 _ _ l0_3 true _ ?side1 ?side2 A3.out).mono ?_); (case side1 => exact Kd.C_below HR0_3.out bl_); (case side2 => exact HC0_3.out); rintro e w16 ⟨rfl, hb⟩; replace HO830 := Aside0.mk (Kd.N_below (by (with_reducible repeat (first | apply Kd.N_alloc | apply Kd.N_drewN | apply Kd.N_drew)); exact (Kd.N_mono (Kd.N_far (p := ⟨gb831, 3, none⟩) (Kd.N_far (p := ⟨gb831, 2, none⟩) (Kd.N_far (p := ⟨gb831, 1, none⟩) (Kd.N_far (p := ⟨gb831, 0, none⟩) (Kd.N_mono HO830.out (fun k_ hk => (⟨hk, hk.2⟩ : _ ∧ k_ ≠ gb831))) (fun _ hk => hk.2) (.int .i64 t825)) (fun _ hk => hk.2) (.int .i64 t826)) (fun _ hk => hk.2) (.int .i64 t827)) (fun _ hk => hk.2) (.slice Ao14 t828.length co14)) (fun _ h_ => h_.1))) hb); replace BK823 := bb1_ BK823.out NB823_831.out hb; replace BK824 := bb1_ BK824.out NB824_831.out hb; replace BK831 := Aside0.mk (blk_below (g := gb831) (o := .cells #[.int .i64 t825, .int .i64 t826, .int .i64 t827, .slice Ao14 t828.length co14] 36 (0, 0)) (bp0_ BK831.out) hb); replace HB := Aside0.mk (below_step bl_ hb); obtain ⟨hcz17_0, hcz17_1, hcz17_2, hcz17_3, hfz17_0, hfz17_1, hfz17_2, hfz17_3⟩ := cf4_ BK831.out))
 repeat (go_quiet (fail); try go_wp2_with (fail))
 go_loopg [4] k (fun kq v4 w' => ∃ (x4_1 : Int) (x832003_1 : List (S53)) (u832003 : Value), v4 = .int .i64 x4_1 ∧ Aside0 (impl_Lessened.l0 kq x4_1 a0_0 a0_1 a0_2 l0_3 t825 t826 t827 x832003_1 = some (r1, r2, r3, r4)) ∧ Aside0 (kq ≤ k) ∧ Aside0 (Kd.N k53 53 w' w.heap.size (fun k_ => (w.heap.size ≤ k_) ∧ k_ ≠ gb823 ∧ k_ ≠ gb824 ∧ k_ ≠ gb831) u832003 x832003_1) ∧ Aside0 (w'.heap[gb823]? = some (.cells #[.int .i64 a0_0, .int .i64 a0_1, .int .i64 a0_2, (.slice A0_3 l0_3.length c0_3)] 36 (0, 0))) ∧ Aside0 (w'.heap[gb824]? = some (.cells #[.int .i64 0, .int .i64 0, .int .i64 0, (.slice none 0 0)] 36 (0, 0))) ∧ Aside0 (w'.heap[gb831]? = some (.cells #[.int .i64 t825, .int .i64 t826, .int .i64 t827, u832003] 36 (0, 0))) ∧ Aside0 (Below w.heap.size w w'))
 case atStart => exact ⟨((t828.length : Int)), (t828), (.slice Ao14 t828.length co14), (sr_), H', ⟨Nat.le_refl _⟩, ⟨by (with_reducible repeat (first | apply Kd.N_alloc | apply Kd.N_drewN | apply Kd.N_drew)); exact Kd.N_mono HO830.out (fun _ hk => ⟨hk.1.1, ⟨hk.1.2.1, ⟨hk.1.2.2, hk.2⟩⟩⟩)⟩, ⟨bk_ BK823.out⟩, ⟨bk_ BK824.out⟩, ⟨bk_ BK831.out⟩, ⟨bl_⟩⟩
 clear H'
 try clear c4
 try clear hcz13_0
 try clear hcz13_1
 try clear hcz13_2
 try clear hcz13_3
 try clear hcz15_0
 try clear hcz15_1
 try clear hcz15_2
 try clear hcz15_3
 try clear hcz17_0
 try clear hcz17_1
 try clear hcz17_2
 try clear hcz17_3
 try clear hcz8_0
 try clear hcz8_1
 try clear hcz8_2
 try clear hcz8_3
 try clear hfz13_0
 try clear hfz13_1
 try clear hfz13_2
 try clear hfz13_3
 try clear hfz15_0
 try clear hfz15_1
 try clear hfz15_2
 try clear hfz15_3
 try clear hfz17_0
 try clear hfz17_1
 try clear hfz17_2
 try clear hfz17_3
 try clear hfz8_0
 try clear hfz8_1
 try clear hfz8_2
 try clear hfz8_3
 obtain ⟨x4_1, x832003_1, u832003, rfl, HA, HK1, HO_832003, BK823, BK824, BK831, HB⟩ := hrel
 cases gk with
 | zero => exact absurd HA.out (by simp [impl_Lessened.l0])
 | succ k1 => ?_
 have H := HA.out
 clear HA
 simp only [impl_Lessened.l0] at H
 by_cases c18 : x4_1 > 0
 rotate_left
 ·rw [if_neg c18] at H
  have c18b0 := decide_eq_false c18
  clear c18
  simp only [Option.some.injEq, Prod.mk.injEq] at H
  obtain ⟨rfl, rfl, rfl, rfl⟩ := H
  have hnb46 := NB831_823.out
  have hnc46 := NB823_831.out
  have hnb47 := NB831_824.out
  have hnc47 := NB824_831.out
  obtain ⟨hcz48_0, hcz48_1, hcz48_2, hcz48_3, hfz48_0, hfz48_1, hfz48_2, hfz48_3⟩ := cf4_ BK831.out
  have hnb49 := NB824_823.out
  have hnc49 := NB823_824.out
  obtain ⟨hcz50_0, hcz50_1, hcz50_2, hcz50_3, hfz50_0, hfz50_1, hfz50_2, hfz50_3⟩ := cf4_ BK824.out
  obtain ⟨Ao51, co51, eo51⟩ := Kd.N_slice HO_832003.out
  subst eo51
  go_wp2
  repeat (go_quiet (fail); try go_wp2)
  refine bodyPost_ret (results_cell_row rfl _ _ gb824 36 #[.int .i64 t825, .int .i64 t826, .int .i64 t827, .slice Ao51 x832003_1.length co51] (0, 0) _ rfl (bp0_ BK824.out) Try.underlying36 rfl (by kernel_rfl)) rfl ?_
  exact ⟨_, er_, by (with_reducible repeat (first | apply Kd.N_alloc | apply Kd.N_drewN | apply Kd.N_drew)); exact Kd.N_mono (Kd.N_far (p := ⟨gb824, 3, none⟩) (Kd.N_far (p := ⟨gb824, 2, none⟩) (Kd.N_far (p := ⟨gb824, 1, none⟩) (Kd.N_far (p := ⟨gb824, 0, none⟩) (Kd.N_mono HO_832003.out (fun k_ hk => (⟨hk, hk.2.2.1⟩ : _ ∧ k_ ≠ gb824))) (fun _ hk => hk.2) (.int .i64 t825)) (fun _ hk => hk.2) (.int .i64 t826)) (fun _ hk => hk.2) (.int .i64 t827)) (fun _ hk => hk.2) (.slice Ao51 x832003_1.length co51)) (fun _ hk => hk.1.1), bl_⟩
 rw [if_pos c18] at H
 have c18b0 := decide_eq_true c18
 clear c18
 obtain ⟨ji19, hji19⟩ : ∃ j_ : Int, (wrap64 (x4_1 - 1)) = j_ := ⟨_, rfl⟩
 replace H : (if 0 ≤ (ji19) then (if (ji19) < (x832003_1.length : Int) then (if ((rd_T53 x832003_1 (ji19)).f2) = a0_1 then (if ((rd_T53 x832003_1 (ji19)).f3) = a0_2 then (if (ji19) ≤ (x832003_1.length : Int) then (impl_Lessened.l0 k1 ji19 a0_0 a0_1 a0_2 l0_3 t825 t826 t827 (x832003_1.take ((ji19) : Int).toNat)) else (none)) else (some (t825, t826, t827, x832003_1))) else (some (t825, t826, t827, x832003_1))) else (none)) else (none)) = some (r1, r2, r3, r4) := by first | (rw [hji19] at H; exact H) | (simp only [hji19] at H ⊢; exact H)
 have hji19w : (IntKind.i64.wrap (x4_1 - 1)) = ji19 := (i64_w _).trans hji19
 by_cases c20 : 0 ≤ (ji19)
 rotate_left
 ·exact nn_ c20 H
 rw [if_pos c20] at H
 have c20b0 := decide_eq_true c20
 clear c20
 by_cases c21 : (ji19) < (x832003_1.length : Int)
 rotate_left
 ·exact nn_ c21 H
 rw [if_pos c21] at H
 have c21b0 := decide_eq_true c21
 clear c21
 by_cases c22 : ((rd_T53 x832003_1 (ji19)).f2) = a0_1
 rotate_left
 ·rw [if_neg c22] at H
  have c22b0 : (((rd_T53 x832003_1 (ji19)).f2) == a0_1) = false := beq_eq_false_iff_ne.mpr c22
  have c22b1 : (((rd_T53 x832003_1 (ji19)).f2) != a0_1) = true := bne_iff_ne.mpr c22
  simp only [Option.some.injEq, Prod.mk.injEq] at H
  obtain ⟨rfl, rfl, rfl, rfl⟩ := H
  have hnb39 := NB831_823.out
  have hnc39 := NB823_831.out
  have hnb40 := NB831_824.out
  have hnc40 := NB824_831.out
  obtain ⟨hcz41_0, hcz41_1, hcz41_2, hcz41_3, hfz41_0, hfz41_1, hfz41_2, hfz41_3⟩ := cf4_ BK831.out
  obtain ⟨Ao42, co42, eo42⟩ := Kd.N_slice HO_832003.out
  subst eo42
  have p833 : 0 ≤ ((ji19) : Int) := of_decide_eq_true as_
  have q833 : (ji19) < (x832003_1.length : Int) := of_decide_eq_true as_
  obtain ⟨ad833, A833_0, c833_0, A833_1, c833_1, e833, hx833_0, hx833_1, hx833_2, hx833_3, hl833_0, hi833_0, hl833_1, hi833_1⟩ := at_T53 (Kd.N_reads' HO_832003.out).2.2 (ji19) p833 q833
  cases e833
  obtain ⟨ce833, hce833, hMe833, hcc833⟩ := Kd.N_get HO_832003.out z53 (ji19) p833 (by first | exact q833 | exact of_decide_eq_true as_ | (have e_ := (Kd.N_reads' HO_832003.out).1; omega))
  obtain ⟨ua833_0, uc833_0, ua833_1, uc833_1, rfl, ul833_0, ge833_0, ul833_1, ge833_1⟩ := k53_openF hMe833
  have hv833_0 := hcc833 0 _ rfl
  rw [Nat.add_zero] at hv833_0
  replace hv833_0 := Option.some.inj (hv833_0.symm.trans hx833_0)
  injection hv833_0 with hva_ hvn_ hvc_
  rw [hva_] at ge833_0
  rw [hvc_] at ul833_0
  have HL833_0 := Aside0.mk (show Kd.V (Kd.int .i64) 3 _ w.heap.size _ _ ((rd_T53 x832003_1 (ji19)).f0) from Kd.V_mk ul833_0 ge833_0)
  clear hva_ hvn_ hvc_ ge833_0 ul833_0
  have hv833_1 := hcc833 1 _ rfl
  rw [add_field _ _ 1 (by omega)] at hv833_1
  replace hv833_1 := Option.some.inj (hv833_1.symm.trans hx833_1)
  injection hv833_1 with hva_ hvn_ hvc_
  rw [hva_] at ge833_1
  rw [hvc_] at ul833_1
  have HL833_1 := Aside0.mk (show Kd.V k100 100 _ w.heap.size _ _ ((rd_T53 x832003_1 (ji19)).f1) from Kd.V_mk ul833_1 ge833_1)
  clear hva_ hvn_ hvc_ ge833_1 ul833_1
  clear hcc833 hce833
  have HR833_0 := Aside0.mk hi833_0
  have HC833_0 := Aside0.mk hl833_0
  clear hi833_0 hl833_0
  have HR833_1 := Aside0.mk hi833_1
  have HC833_1 := Aside0.mk hl833_1
  clear hi833_1 hl833_1
  replace p833 := eq_true p833
  replace q833 := eq_true q833
  have hnb43 := NB823_824.out
  have hnc43 := NB824_823.out
  obtain ⟨hcz44_0, hcz44_1, hcz44_2, hcz44_3, hfz44_0, hfz44_1, hfz44_2, hfz44_3⟩ := cf4_ BK823.out
  obtain ⟨hcz45_0, hcz45_1, hcz45_2, hcz45_3, hfz45_0, hfz45_1, hfz45_2, hfz45_3⟩ := cf4_ BK824.out
  go_wp2
  repeat (go_quiet (fail); try go_wp2)
  refine bodyPost_ret (results_cell_row rfl _ _ gb824 36 #[.int .i64 t825, .int .i64 t826, .int .i64 t827, .slice (some ad833) x832003_1.length co42] (0, 0) _ rfl (bp0_ BK824.out) Try.underlying36 rfl (by kernel_rfl)) rfl ?_
  exact ⟨_, by first | rfl | (simp [errW_none, errW_some] <;> rfl) | (simp only [← hji19]; first | rfl | (simp [errW_none, errW_some] <;> rfl)) | (simp [*, errW_none, errW_some] <;> rfl) | exact False.elim (Bool.noConfusion ((decide_eq_true (of_eq_true (by assumption))).symm.trans (by assumption))), by (with_reducible repeat (first | apply Kd.N_alloc | apply Kd.N_drewN | apply Kd.N_drew)); exact Kd.N_mono (Kd.N_far (p := ⟨gb824, 3, none⟩) (Kd.N_far (p := ⟨gb824, 2, none⟩) (Kd.N_far (p := ⟨gb824, 1, none⟩) (Kd.N_far (p := ⟨gb824, 0, none⟩) (Kd.N_mono HO_832003.out (fun k_ hk => (⟨hk, hk.2.2.1⟩ : _ ∧ k_ ≠ gb824))) (fun _ hk => hk.2) (.int .i64 t825)) (fun _ hk => hk.2) (.int .i64 t826)) (fun _ hk => hk.2) (.int .i64 t827)) (fun _ hk => hk.2) (.slice (some ad833) x832003_1.length co42)) (fun _ hk => hk.1.1), bl_⟩
 rw [if_pos c22] at H
 have c22b0 : (((rd_T53 x832003_1 (ji19)).f2) == a0_1) = true := beq_iff_eq.mpr c22
 have c22b1 : (((rd_T53 x832003_1 (ji19)).f2) != a0_1) = false := bne_eq_false_iff_eq.mpr c22
 clear c22
 by_cases c23 : ((rd_T53 x832003_1 (ji19)).f3) = a0_2
 rotate_left
 ·rw [if_neg c23] at H
  have c23b0 : (((rd_T53 x832003_1 (ji19)).f3) == a0_2) = false := beq_eq_false_iff_ne.mpr c23
  have c23b1 : (((rd_T53 x832003_1 (ji19)).f3) != a0_2) = true := bne_iff_ne.mpr c23
  simp only [Option.some.injEq, Prod.mk.injEq] at H
  obtain ⟨rfl, rfl, rfl, rfl⟩ := H
  have hnb32 := NB831_823.out
  have hnc32 := NB823_831.out
  have hnb33 := NB831_824.out
  have hnc33 := NB824_831.out
  obtain ⟨hcz34_0, hcz34_1, hcz34_2, hcz34_3, hfz34_0, hfz34_1, hfz34_2, hfz34_3⟩ := cf4_ BK831.out
  obtain ⟨Ao35, co35, eo35⟩ := Kd.N_slice HO_832003.out
  subst eo35
  have p833 : 0 ≤ ((ji19) : Int) := of_decide_eq_true as_
  have q833 : (ji19) < (x832003_1.length : Int) := of_decide_eq_true as_
  obtain ⟨ad833, A833_0, c833_0, A833_1, c833_1, e833, hx833_0, hx833_1, hx833_2, hx833_3, hl833_0, hi833_0, hl833_1, hi833_1⟩ := at_T53 (Kd.N_reads' HO_832003.out).2.2 (ji19) p833 q833
  cases e833
  obtain ⟨ce833, hce833, hMe833, hcc833⟩ := Kd.N_get HO_832003.out z53 (ji19) p833 (by first | exact q833 | exact of_decide_eq_true as_ | (have e_ := (Kd.N_reads' HO_832003.out).1; omega))
  obtain ⟨ua833_0, uc833_0, ua833_1, uc833_1, rfl, ul833_0, ge833_0, ul833_1, ge833_1⟩ := k53_openF hMe833
  have hv833_0 := hcc833 0 _ rfl
  rw [Nat.add_zero] at hv833_0
  replace hv833_0 := Option.some.inj (hv833_0.symm.trans hx833_0)
  injection hv833_0 with hva_ hvn_ hvc_
  rw [hva_] at ge833_0
  rw [hvc_] at ul833_0
  have HL833_0 := Aside0.mk (show Kd.V (Kd.int .i64) 3 _ w.heap.size _ _ ((rd_T53 x832003_1 (ji19)).f0) from Kd.V_mk ul833_0 ge833_0)
  clear hva_ hvn_ hvc_ ge833_0 ul833_0
  have hv833_1 := hcc833 1 _ rfl
  rw [add_field _ _ 1 (by omega)] at hv833_1
  replace hv833_1 := Option.some.inj (hv833_1.symm.trans hx833_1)
  injection hv833_1 with hva_ hvn_ hvc_
  rw [hva_] at ge833_1
  rw [hvc_] at ul833_1
  have HL833_1 := Aside0.mk (show Kd.V k100 100 _ w.heap.size _ _ ((rd_T53 x832003_1 (ji19)).f1) from Kd.V_mk ul833_1 ge833_1)
  clear hva_ hvn_ hvc_ ge833_1 ul833_1
  clear hcc833 hce833
  have HR833_0 := Aside0.mk hi833_0
  have HC833_0 := Aside0.mk hl833_0
  clear hi833_0 hl833_0
  have HR833_1 := Aside0.mk hi833_1
  have HC833_1 := Aside0.mk hl833_1
  clear hi833_1 hl833_1
  replace p833 := eq_true p833
  replace q833 := eq_true q833
  have hnb36 := NB823_824.out
  have hnc36 := NB824_823.out
  obtain ⟨hcz37_0, hcz37_1, hcz37_2, hcz37_3, hfz37_0, hfz37_1, hfz37_2, hfz37_3⟩ := cf4_ BK823.out
  have p834 : 0 ≤ ((ji19) : Int) := of_decide_eq_true as_
  have q834 : (ji19) < (x832003_1.length : Int) := of_decide_eq_true as_
  obtain ⟨ad834, A834_0, c834_0, A834_1, c834_1, e834, hx834_0, hx834_1, hx834_2, hx834_3, hl834_0, hi834_0, hl834_1, hi834_1⟩ := at_T53 (Kd.N_reads' HO_832003.out).2.2 (ji19) p834 q834
  obtain rfl : ad833 = ad834 := (by injection e834)
  obtain ⟨ce834, hce834, hMe834, hcc834⟩ := Kd.N_get HO_832003.out z53 (ji19) p834 (by first | exact q834 | exact of_decide_eq_true as_ | (have e_ := (Kd.N_reads' HO_832003.out).1; omega))
  obtain ⟨ua834_0, uc834_0, ua834_1, uc834_1, rfl, ul834_0, ge834_0, ul834_1, ge834_1⟩ := k53_openF hMe834
  have hv834_0 := hcc834 0 _ rfl
  rw [Nat.add_zero] at hv834_0
  replace hv834_0 := Option.some.inj (hv834_0.symm.trans hx834_0)
  injection hv834_0 with hva_ hvn_ hvc_
  rw [hva_] at ge834_0
  rw [hvc_] at ul834_0
  have HL834_0 := Aside0.mk (show Kd.V (Kd.int .i64) 3 _ w.heap.size _ _ ((rd_T53 x832003_1 (ji19)).f0) from Kd.V_mk ul834_0 ge834_0)
  clear hva_ hvn_ hvc_ ge834_0 ul834_0
  have hv834_1 := hcc834 1 _ rfl
  rw [add_field _ _ 1 (by omega)] at hv834_1
  replace hv834_1 := Option.some.inj (hv834_1.symm.trans hx834_1)
  injection hv834_1 with hva_ hvn_ hvc_
  rw [hva_] at ge834_1
  rw [hvc_] at ul834_1
  have HL834_1 := Aside0.mk (show Kd.V k100 100 _ w.heap.size _ _ ((rd_T53 x832003_1 (ji19)).f1) from Kd.V_mk ul834_1 ge834_1)
  clear hva_ hvn_ hvc_ ge834_1 ul834_1
  clear hcc834 hce834
  have HR834_0 := Aside0.mk hi834_0
  have HC834_0 := Aside0.mk hl834_0
  clear hi834_0 hl834_0
  have HR834_1 := Aside0.mk hi834_1
  have HC834_1 := Aside0.mk hl834_1
  clear hi834_1 hl834_1
  replace p834 := eq_true p834
  replace q834 := eq_true q834
  have ea_ := Option.some.inj (hx833_0.symm.trans hx834_0)
  injection ea_ with ea_ en_ ec_
  subst ea_
  subst ec_
  clear en_
  have ea_ := Option.some.inj (hx833_1.symm.trans hx834_1)
  injection ea_ with ea_ en_ ec_
  subst ea_
  subst ec_
  clear en_
  obtain ⟨hcz38_0, hcz38_1, hcz38_2, hcz38_3, hfz38_0, hfz38_1, hfz38_2, hfz38_3⟩ := cf4_ BK824.out
  go_wp2
  repeat (go_quiet (fail); try go_wp2)
  refine bodyPost_ret (results_cell_row rfl _ _ gb824 36 #[.int .i64 t825, .int .i64 t826, .int .i64 t827, .slice (some ad833) x832003_1.length co35] (0, 0) _ rfl (bp0_ BK824.out) Try.underlying36 rfl (by kernel_rfl)) rfl ?_
  exact ⟨_, by first | rfl | (simp [errW_none, errW_some] <;> rfl) | (simp only [← hji19]; first | rfl | (simp [errW_none, errW_some] <;> rfl)) | (simp [*, errW_none, errW_some] <;> rfl) | exact False.elim (Bool.noConfusion ((decide_eq_true (of_eq_true (by assumption))).symm.trans (by assumption))), by (with_reducible repeat (first | apply Kd.N_alloc | apply Kd.N_drewN | apply Kd.N_drew)); exact Kd.N_mono (Kd.N_far (p := ⟨gb824, 3, none⟩) (Kd.N_far (p := ⟨gb824, 2, none⟩) (Kd.N_far (p := ⟨gb824, 1, none⟩) (Kd.N_far (p := ⟨gb824, 0, none⟩) (Kd.N_mono HO_832003.out (fun k_ hk => (⟨hk, hk.2.2.1⟩ : _ ∧ k_ ≠ gb824))) (fun _ hk => hk.2) (.int .i64 t825)) (fun _ hk => hk.2) (.int .i64 t826)) (fun _ hk => hk.2) (.int .i64 t827)) (fun _ hk => hk.2) (.slice (some ad833) x832003_1.length co35)) (fun _ hk => hk.1.1), bl_⟩
 rw [if_pos c23] at H
 have c23b0 : (((rd_T53 x832003_1 (ji19)).f3) == a0_2) = true := beq_iff_eq.mpr c23
 have c23b1 : (((rd_T53 x832003_1 (ji19)).f3) != a0_2) = false := bne_eq_false_iff_eq.mpr c23
 clear c23
 by_cases c24 : (ji19) ≤ (x832003_1.length : Int)
 rotate_left
 ·exact nn_ c24 H
 rw [if_pos c24] at H
 have c24b0 := eq_true c24
 have c24b1 : decide ((ji19) ≤ (x832003_1.length : Int)) = true := decide_eq_true c24
 clear c24
 obtain ⟨y835, hy835⟩ : ∃ y_ : List (S53), y_ = (x832003_1.take ((ji19) : Int).toNat) := ⟨_, rfl⟩
 replace H : (impl_Lessened.l0 k1 ji19 a0_0 a0_1 a0_2 l0_3 t825 t826 t827 y835) = some (r1, r2, r3, r4) := rp_ H hy835
 have Ny835 := Aside0.mk hy835
 clear hy835
 have H' := Aside0.mk H
 clear H
 have hnb25 := NB831_823.out
 have hnc25 := NB823_831.out
 have hnb26 := NB831_824.out
 have hnc26 := NB824_831.out
 obtain ⟨hcz27_0, hcz27_1, hcz27_2, hcz27_3, hfz27_0, hfz27_1, hfz27_2, hfz27_3⟩ := cf4_ BK831.out
 obtain ⟨Ao28, co28, eo28⟩ := Kd.N_slice HO_832003.out
 subst eo28
 have p833 : 0 ≤ ((ji19) : Int) := of_decide_eq_true as_
 have q833 : (ji19) < (x832003_1.length : Int) := of_decide_eq_true as_
 obtain ⟨ad833, A833_0, c833_0, A833_1, c833_1, e833, hx833_0, hx833_1, hx833_2, hx833_3, hl833_0, hi833_0, hl833_1, hi833_1⟩ := at_T53 (Kd.N_reads' HO_832003.out).2.2 (ji19) p833 q833
 cases e833
 obtain ⟨ce833, hce833, hMe833, hcc833⟩ := Kd.N_get HO_832003.out z53 (ji19) p833 (by first | exact q833 | exact of_decide_eq_true as_ | (have e_ := (Kd.N_reads' HO_832003.out).1; omega))
 obtain ⟨ua833_0, uc833_0, ua833_1, uc833_1, rfl, ul833_0, ge833_0, ul833_1, ge833_1⟩ := k53_openF hMe833
 have hv833_0 := hcc833 0 _ rfl
 rw [Nat.add_zero] at hv833_0
 replace hv833_0 := Option.some.inj (hv833_0.symm.trans hx833_0)
 injection hv833_0 with hva_ hvn_ hvc_
 rw [hva_] at ge833_0
 rw [hvc_] at ul833_0
 have HL833_0 := Aside0.mk (show Kd.V (Kd.int .i64) 3 _ w.heap.size _ _ ((rd_T53 x832003_1 (ji19)).f0) from Kd.V_mk ul833_0 ge833_0)
 clear hva_ hvn_ hvc_ ge833_0 ul833_0
 have hv833_1 := hcc833 1 _ rfl
 rw [add_field _ _ 1 (by omega)] at hv833_1
 replace hv833_1 := Option.some.inj (hv833_1.symm.trans hx833_1)
 injection hv833_1 with hva_ hvn_ hvc_
 rw [hva_] at ge833_1
 rw [hvc_] at ul833_1
 have HL833_1 := Aside0.mk (show Kd.V k100 100 _ w.heap.size _ _ ((rd_T53 x832003_1 (ji19)).f1) from Kd.V_mk ul833_1 ge833_1)
 clear hva_ hvn_ hvc_ ge833_1 ul833_1
 clear hcc833 hce833
 have HR833_0 := Aside0.mk hi833_0
 have HC833_0 := Aside0.mk hl833_0
 clear hi833_0 hl833_0
 have HR833_1 := Aside0.mk hi833_1
 have HC833_1 := Aside0.mk hl833_1
 clear hi833_1 hl833_1
 replace p833 := eq_true p833
 replace q833 := eq_true q833
 have hnb29 := NB823_824.out
 have hnc29 := NB824_823.out
 obtain ⟨hcz30_0, hcz30_1, hcz30_2, hcz30_3, hfz30_0, hfz30_1, hfz30_2, hfz30_3⟩ := cf4_ BK823.out
 have p834 : 0 ≤ ((ji19) : Int) := of_decide_eq_true as_
 have q834 : (ji19) < (x832003_1.length : Int) := of_decide_eq_true as_
 obtain ⟨ad834, A834_0, c834_0, A834_1, c834_1, e834, hx834_0, hx834_1, hx834_2, hx834_3, hl834_0, hi834_0, hl834_1, hi834_1⟩ := at_T53 (Kd.N_reads' HO_832003.out).2.2 (ji19) p834 q834
 obtain rfl : ad833 = ad834 := (by injection e834)
 obtain ⟨ce834, hce834, hMe834, hcc834⟩ := Kd.N_get HO_832003.out z53 (ji19) p834 (by first | exact q834 | exact of_decide_eq_true as_ | (have e_ := (Kd.N_reads' HO_832003.out).1; omega))
 obtain ⟨ua834_0, uc834_0, ua834_1, uc834_1, rfl, ul834_0, ge834_0, ul834_1, ge834_1⟩ := k53_openF hMe834
 have hv834_0 := hcc834 0 _ rfl
 rw [Nat.add_zero] at hv834_0
 replace hv834_0 := Option.some.inj (hv834_0.symm.trans hx834_0)
 injection hv834_0 with hva_ hvn_ hvc_
 rw [hva_] at ge834_0
 rw [hvc_] at ul834_0
 have HL834_0 := Aside0.mk (show Kd.V (Kd.int .i64) 3 _ w.heap.size _ _ ((rd_T53 x832003_1 (ji19)).f0) from Kd.V_mk ul834_0 ge834_0)
 clear hva_ hvn_ hvc_ ge834_0 ul834_0
 have hv834_1 := hcc834 1 _ rfl
 rw [add_field _ _ 1 (by omega)] at hv834_1
 replace hv834_1 := Option.some.inj (hv834_1.symm.trans hx834_1)
 injection hv834_1 with hva_ hvn_ hvc_
 rw [hva_] at ge834_1
 rw [hvc_] at ul834_1
 have HL834_1 := Aside0.mk (show Kd.V k100 100 _ w.heap.size _ _ ((rd_T53 x832003_1 (ji19)).f1) from Kd.V_mk ul834_1 ge834_1)
 clear hva_ hvn_ hvc_ ge834_1 ul834_1
 clear hcc834 hce834
 have HR834_0 := Aside0.mk hi834_0
 have HC834_0 := Aside0.mk hl834_0
 clear hi834_0 hl834_0
 have HR834_1 := Aside0.mk hi834_1
 have HC834_1 := Aside0.mk hl834_1
 clear hi834_1 hl834_1
 replace p834 := eq_true p834
 replace q834 := eq_true q834
 have ea_ := Option.some.inj (hx833_0.symm.trans hx834_0)
 injection ea_ with ea_ en_ ec_
 subst ea_
 subst ec_
 clear en_
 have ea_ := Option.some.inj (hx833_1.symm.trans hx834_1)
 injection ea_ with ea_ en_ ec_
 subst ea_
 subst ec_
 clear en_
 have q31 : ((ji19) : Int) ≤ ((x832003_1.length : Int) : Int) := of_decide_eq_true as_
 obtain ⟨i031, hi031, _, hsz31, _⟩ := info_parts info53
 have hcut31 := cut_to (P := Try.prog) 34 53 .i64 Try.underlying34 hi031 (some ad833) x832003_1.length co28 (ji19) (of_decide_eq_true as_) q31 (Kd.N_reads' HO_832003.out).2.1
 have hr31 := Kd.N_take (m := ((ji19) : Int).toNat) HO_832003.out (by omega)
 have hy31 : y835.length = ((ji19) : Int).toNat := (by rw [Ny835.out, List.length_take]; omega)
 rw [← Ny835.out] at hr31
 rw [← hy31] at hr31 hcut31
 clear hy31 hi031 hsz31 HO_832003
 have HO837 := Aside0.mk hr31
 clear hr31
 replace q31 := eq_true q31
 go_wp2
 repeat (go_quiet (fail); try go_wp2)
 go_roundg k1
 case measure => have := HK1.out; omega
 case rel => exact ⟨(ji19), (y835), (.slice (some ad833) y835.length co28), (by first | rfl | (simp; done) | (simp only [← hji19] <;> (first | rfl | simp)) | (simp [*]; done)), H', ⟨by have := HK1.out; omega⟩, ⟨by (with_reducible repeat (first | apply Kd.N_alloc | apply Kd.N_drewN | apply Kd.N_drew)); exact Kd.N_mono (Kd.N_far (p := ⟨gb831, 3, none⟩) (Kd.N_mono HO837.out (fun k_ hk => (⟨hk, hk.2.2.2⟩ : _ ∧ k_ ≠ gb831))) (fun _ hk => hk.2) (.slice (some ad833) y835.length co28)) (fun _ hk => ⟨hk.1.1, ⟨hk.1.2.1, ⟨hk.1.2.2.1, hk.1.2.2.2⟩⟩⟩)⟩, ⟨bp1_ BK823.out NB823_831.out⟩, ⟨bp1_ BK824.out NB824_831.out⟩, ⟨bp0_ BK831.out⟩, ⟨bl_⟩⟩

end Go.Proofs.Ytjfmpodeenidnaa.PC
