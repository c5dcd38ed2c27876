/- Contracts of functions of the program and of the reference, and plain lemmas on what they compute: a part of the proof of the law FnLessTold. No condition. -/
import Derived.Test.YtjfmpodeenidnaaG90508x0
import Derived.Test.YtjfmpodeenidnaaJFnLessTold5
import Derived.Test.YtjfmpodeenidnaaShortV
set_option maxHeartbeats 8000000
set_option maxRecDepth 100000
namespace Go.Proofs.Ytjfmpodeenidnaa.PC
open Go.RowKit Go.Proofs.Ytjfmpodeenidnaa.Short Go.Proofs.YtjfmpodeenidnaaW.PrintWords Go.Proofs.YtjfmpodeenidnaaW.PrintLast Go.Proofs.YtjfmpodeenidnaaW.PrintMore
attribute [local go_sem] max2_int min2_int max_two min_two max_three min_three max_four min_four   -- for this text's walks alone
set_option linter.unusedVariables false
set_option linter.unusedSimpArgs false

def spec_Lessened.l0 : Nat → Int → Int → Int → Int → List (S53) → Int → Int → Int → List (S53) → Option (Int × Int × Int × (List (S53)))
 | 0, _, _, _, _, _, _, _, _, _ => none
 | k + 1, x4, x839000, x839001, x839002, x839003, x847000, x847001, x847002, x847003 => if x4 > 0 then (if 0 ≤ (wrap64 (x4 - 1)) then (if (wrap64 (x4 - 1)) < (x847003.length : Int) then (if ((rd_T53 x847003 (wrap64 (x4 - 1))).f2) = x839001 then (if ((rd_T53 x847003 (wrap64 (x4 - 1))).f3) = x839002 then (spec_Lessened.l0 k (wrap64 (x4 - 1)) x839000 x839001 x839002 x839003 x847000 x847001 x847002 x847003) else ((some (([] : List (S53)) : List (S53))).bind fun y850 => (if 0 ≤ x4 then (if x4 ≤ (x847003.length : Int) then ((some (x847003.take (x4 : Int).toNat : List (S53))).bind fun y853 => (if y850.length + y853.length < 2199023255552 then (some (x847000, x847001, x847002, (y850 ++ y853))) else (none))) else (none)) else (none)))) else ((some (([] : List (S53)) : List (S53))).bind fun y861 => (if 0 ≤ x4 then (if x4 ≤ (x847003.length : Int) then ((some (x847003.take (x4 : Int).toNat : List (S53))).bind fun y864 => (if y861.length + y864.length < 2199023255552 then (some (x847000, x847001, x847002, (y861 ++ y864))) else (none))) else (none)) else (none)))) else (none)) else (none)) else ((some (([] : List (S53)) : List (S53))).bind fun y872 => (if 0 ≤ x4 then (if x4 ≤ (x847003.length : Int) then ((some (x847003.take (x4 : Int).toNat : List (S53))).bind fun y875 => (if y872.length + y875.length < 2199023255552 then (some (x847000, x847001, x847002, (y872 ++ y875))) else (none))) else (none)) else (none)))
def spec_Lessened.f (k : Nat) (a0_0 : Int) (a0_1 : Int) (a0_2 : Int) (l0_3 : List (S53)) : Option (Int × Int × Int × (List (S53))) := (spec_Unshadowed.f k a0_0 a0_1 a0_2 l0_3).bind fun bt840 => ((spec_PolicyOk.f k a0_0 a0_1 a0_2 l0_3).bind fun t847 => (if t847 = true then (spec_Lessened.l0 k (bt840.2.2.2.length : Int) a0_0 a0_1 a0_2 l0_3 bt840.1 bt840.2.1 bt840.2.2.1 bt840.2.2.2) else (some (bt840.1, bt840.2.1, bt840.2.2.1, bt840.2.2.2))))
theorem spec_Lessened.mono_l : ∀ k, (∀ y0 y1 y2 y3 y4 y5 y6 y7 y8, LeO (spec_Lessened.l0 k y0 y1 y2 y3 y4 y5 y6 y7 y8) (spec_Lessened.l0 (k + 1) y0 y1 y2 y3 y4 y5 y6 y7 y8))
 | 0 => fun _ _ _ _ _ _ _ _ _ r h => by simp [spec_Lessened.l0] at h
 | k + 1 => by
  have ih0 := spec_Lessened.mono_l k
  ·intro y0 y1 y2 y3 y4 y5 y6 y7 y8
   unfold spec_Lessened.l0
   have m0 := @spec_PolicyOk.mono
   have m1 := @spec_Unshadowed.mono
   exact mo_
theorem spec_Lessened.mono : ∀ a0 a1 a2 a3 k, LeO (spec_Lessened.f k a0 a1 a2 a3) (spec_Lessened.f (k + 1) a0 a1 a2 a3) := by
 intro a0 a1 a2 a3 k
 have ih0 := spec_Lessened.mono_l k
 unfold spec_Lessened.f
 have m0 := @spec_PolicyOk.mono
 have m1 := @spec_Unshadowed.mono
 exact mo_
theorem spec_Lessened.calls (k : Nat) (a0_0 : Int) (a0_1 : Int) (a0_2 : Int) (A0_3 : Option Addr) (c0_3 : Nat) (l0_3 : List (S53)) (r1 : Int) (r2 : Int) (r3 : Int) (r4 : List (S53)) (w : World) (hr0_3 : Kd.C k53 w A0_3 l0_3.length l0_3) (hc0_3 : l0_3.length ≤ c0_3) (h : spec_Lessened.f k a0_0 a0_1 a0_2 l0_3 = some (r1, r2, r3, r4)) :
 Calls Try.prog 37 #[.agg #[.int .i64 a0_0, .int .i64 a0_1, .int .i64 a0_2, .slice A0_3 l0_3.length c0_3]] w fun e w' => ∃ v3_ : Value, e = .returned (.agg #[.int .i64 r1, .int .i64 r2, .int .i64 r3, v3_]) ∧ Kd.N k53 53 w' w.heap.size (fun k_ => (w.heap.size ≤ k_)) v3_ r4 ∧ Below w.heap.size w w' := by
 have hu36 := Try.underlying36
 have HR0_3 := Aside0.mk hr0_3
 have HC0_3 := Aside0.mk hc0_3
 clear hr0_3 hc0_3
 have HB := Aside0.mk (Below.refl w.heap.size w)
 have H := h
 unfold spec_Lessened.f at H
 clear h
 replace H := bs_ H
 obtain ⟨⟨t840, t841, t842, t843⟩, A2, H⟩ := H
 try dsimp only at H
 replace H := bs_ H
 obtain ⟨t847, A3, H⟩ := H
 try dsimp only at H
 by_cases c4 : t847 = true
 rotate_left
 ·replace c4 := Bool.eq_false_iff.mpr c4
  subst c4
  rw [nf_] at H
  simp only [Option.some.injEq, Prod.mk.injEq] at H
  obtain ⟨rfl, rfl, rfl, rfl⟩ := H
  go_enter Try.func37, Try.ntmps37
  go_wp2_with (first | ((with_reducible refine gate_dst (N := 1) rfl ?_); refine bx_ 1 36 #[.int .i64 a0_0, .int .i64 a0_1, .int .i64 a0_2, .slice A0_3 l0_3.length c0_3] ?_; intro gb838 hg w75 hbox hb; have BK838 := Aside0.mk (hbox); have GW838 := Aside0.mk ((hz_ : w.heap.size ≤ gb838)); have GE838 := GW838; replace HB := Aside0.mk (below_step bl_ hb); clear hb hbox hg) | ((with_reducible refine gate_dst (N := 2) rfl ?_); refine bx_ 2 36 #[.int .i64 0, .int .i64 0, .int .i64 0, .slice none 0 0] ?_; intro gb839 hg w76 hbox hb; have BK839 := Aside0.mk (hbox); have GW839 := Aside0.mk ((hz_ : w.heap.size ≤ gb839)); have GE839 := GW839; replace HB := Aside0.mk (below_step bl_ hb); have NB838_839 := Aside0.mk (nl_ BK838.out hg); have NB839_838 := Aside0.mk (ng_ BK838.out hg); replace BK838 := bb0_ BK838.out hb; clear hb hbox hg; have hnb77 := NB838_839.out; have hnc77 := NB839_838.out; obtain ⟨hcz78_0, hcz78_1, hcz78_2, hcz78_3, hfz78_0, hfz78_1, hfz78_2, hfz78_3⟩ := cf4_ BK838.out) | (go_at_call 35; (with_reducible refine (spec_Unshadowed.calls k a0_0 a0_1 a0_2 _ _ l0_3 t840 t841 t842 t843 _ ?side1 ?side2 A2.out).mono ?_); (case side1 => exact cb_ HR0_3.out HB.out); (case side2 => exact HC0_3.out); rintro e w79 ⟨v844, rfl, ho0, hb⟩; have HO845 := Aside0.mk (Kd.N_lower (Kd.N_mono (ok' := fun k_ => (w.heap.size ≤ k_) ∧ k_ ≠ gb838 ∧ k_ ≠ gb839) ho0 (fun k_ hk_ => ⟨(Nat.le_trans (below_size bl_) hk_), (fb_ BK838.out k_ hk_), (fb_ BK839.out k_ hk_)⟩)) (below_size bl_)); replace BK838 := bb0_ BK838.out hb; replace BK839 := bb0_ BK839.out hb; replace HB := Aside0.mk (below_step bl_ hb); (try clear ho0)) | ((with_reducible refine gate_dst (N := 3) rfl ?_); refine bx_ 3 36 #[.int .i64 0, .int .i64 0, .int .i64 0, .slice none 0 0] ?_; intro gb846 hg w80 hbox hb; replace HO845 := Aside0.mk (Kd.N_below (Kd.N_elderB (na_ HO845.out) gb846 (Nat.le_of_eq hg.symm)) hb); have BK846 := Aside0.mk (hbox); have GW846 := Aside0.mk ((hz_ : w.heap.size ≤ gb846)); have GE846 := GW846; replace HB := Aside0.mk (below_step bl_ hb); have NB838_846 := Aside0.mk (nl_ BK838.out hg); have NB846_838 := Aside0.mk (ng_ BK838.out hg); replace BK838 := bb0_ BK838.out hb; have NB839_846 := Aside0.mk (nl_ BK839.out hg); have NB846_839 := Aside0.mk (ng_ BK839.out hg); replace BK839 := bb0_ BK839.out hb; clear hb hbox hg; have hnb81 := NB846_838.out; have hnc81 := NB838_846.out; have hnb82 := NB846_839.out; have hnc82 := NB839_846.out; obtain ⟨hcz83_0, hcz83_1, hcz83_2, hcz83_3, hfz83_0, hfz83_1, hfz83_2, hfz83_3⟩ := cf4_ BK846.out; obtain ⟨Ao84, co84, eo84⟩ := Kd.N_slice HO845.out; subst eo84; obtain ⟨hcz85_0, hcz85_1, hcz85_2, hcz85_3, hfz85_0, hfz85_1, hfz85_2, hfz85_3⟩ := cf4_ BK838.out) | (go_at_call 27; (with_reducible refine (spec_PolicyOk.calls k a0_0 a0_1 a0_2 _ _ l0_3 false _ ?side1 ?side2 A3.out).mono ?_); (case side1 => exact Kd.C_below HR0_3.out bl_); (case side2 => exact HC0_3.out); rintro e w86 ⟨rfl, hb⟩; replace HO845 := Aside0.mk (Kd.N_below (by (with_reducible repeat (first | apply Kd.N_alloc | apply Kd.N_drewN | apply Kd.N_drew)); exact (Kd.N_mono (Kd.N_far (p := ⟨gb846, 3, none⟩) (Kd.N_far (p := ⟨gb846, 2, none⟩) (Kd.N_far (p := ⟨gb846, 1, none⟩) (Kd.N_far (p := ⟨gb846, 0, none⟩) (Kd.N_mono HO845.out (fun k_ hk => (⟨hk, hk.2⟩ : _ ∧ k_ ≠ gb846))) (fun _ hk => hk.2) (.int .i64 t840)) (fun _ hk => hk.2) (.int .i64 t841)) (fun _ hk => hk.2) (.int .i64 t842)) (fun _ hk => hk.2) (.slice Ao84 t843.length co84)) (fun _ h_ => h_.1))) hb); replace BK838 := bb1_ BK838.out NB838_846.out hb; replace BK839 := bb1_ BK839.out NB839_846.out hb; replace BK846 := Aside0.mk (blk_below (g := gb846) (o := .cells #[.int .i64 t840, .int .i64 t841, .int .i64 t842, .slice Ao84 t843.length co84] 36 (0, 0)) (bp0_ BK846.out) hb); replace HB := Aside0.mk (below_step bl_ hb); obtain ⟨hcz87_0, hcz87_1, hcz87_2, hcz87_3, hfz87_0, hfz87_1, hfz87_2, hfz87_3⟩ := cf4_ BK846.out; obtain ⟨hcz88_0, hcz88_1, hcz88_2, hcz88_3, hfz88_0, hfz88_1, hfz88_2, hfz88_3⟩ := cf4_ BK839.out))
  repeat (go_quiet (fail); try go_wp2_with (fail))
  refine bodyPost_ret (results_cell_row rfl _ _ gb839 36 #[.int .i64 t840, .int .i64 t841, .int .i64 t842, .slice Ao84 t843.length co84] (0, 0) _ rfl (bp0_ BK839.out) Try.underlying36 rfl (by kernel_rfl)) rfl ?_
  exact ⟨_, er_, by (with_reducible repeat (first | apply Kd.N_alloc | apply Kd.N_drewN | apply Kd.N_drew)); exact Kd.N_mono (Kd.N_far (p := ⟨gb839, 3, none⟩) (Kd.N_far (p := ⟨gb839, 2, none⟩) (Kd.N_far (p := ⟨gb839, 1, none⟩) (Kd.N_far (p := ⟨gb839, 0, none⟩) (Kd.N_mono HO845.out (fun k_ hk => (⟨hk, hk.1.2.2⟩ : _ ∧ k_ ≠ gb839))) (fun _ hk => hk.2) (.int .i64 t840)) (fun _ hk => hk.2) (.int .i64 t841)) (fun _ hk => hk.2) (.int .i64 t842)) (fun _ hk => hk.2) (.slice Ao84 t843.length co84)) (fun _ hk => hk.1.1.1), bl_⟩
 subst c4
 rw [if_pos rfl] at H
 have H' := Aside0.mk H
 clear H
 go_enter Try.func37, Try.ntmps37
 go_wp2_with (first | ((with_reducible refine gate_dst (N := 1) rfl ?_); refine bx_ 1 36 #[.int .i64 a0_0, .int .i64 a0_1, .int .i64 a0_2, .slice A0_3 l0_3.length c0_3] ?_; intro gb838 hg w5 hbox hb; have BK838 := Aside0.mk (hbox); have GW838 := Aside0.mk ((hz_ : w.heap.size ≤ gb838)); have GE838 := GW838; replace HB := Aside0.mk (below_step bl_ hb); clear hb hbox hg) | ((with_reducible refine gate_dst (N := 2) rfl ?_); refine bx_ 2 36 #[.int .i64 0, .int .i64 0, .int .i64 0, .slice none 0 0] ?_; intro gb839 hg w6 hbox hb; have BK839 := Aside0.mk (hbox); have GW839 := Aside0.mk ((hz_ : w.heap.size ≤ gb839)); have GE839 := GW839; replace HB := Aside0.mk (below_step bl_ hb); have NB838_839 := Aside0.mk (nl_ BK838.out hg); have NB839_838 := Aside0.mk (ng_ BK838.out hg); replace BK838 := bb0_ BK838.out hb; clear hb hbox hg; have hnb7 := NB838_839.out; have hnc7 := NB839_838.out; obtain ⟨hcz8_0, hcz8_1, hcz8_2, hcz8_3, hfz8_0, hfz8_1, hfz8_2, hfz8_3⟩ := cf4_ BK838.out) | (go_at_call 35; (with_reducible refine (spec_Unshadowed.calls k a0_0 a0_1 a0_2 _ _ l0_3 t840 t841 t842 t843 _ ?side1 ?side2 A2.out).mono ?_); (case side1 => exact cb_ HR0_3.out HB.out); (case side2 => exact HC0_3.out); rintro e w9 ⟨v844, rfl, ho0, hb⟩; have HO845 := Aside0.mk (Kd.N_lower (Kd.N_mono (ok' := fun k_ => (w.heap.size ≤ k_) ∧ k_ ≠ gb838 ∧ k_ ≠ gb839) ho0 (fun k_ hk_ => ⟨(Nat.le_trans (below_size bl_) hk_), (fb_ BK838.out k_ hk_), (fb_ BK839.out k_ hk_)⟩)) (below_size bl_)); replace BK838 := bb0_ BK838.out hb; replace BK839 := bb0_ BK839.out hb; replace HB := Aside0.mk (below_step bl_ hb); (try clear ho0)) | ((with_reducible refine gate_dst (N := 3) rfl ?_); refine bx_ 3 36 #[.int .i64 0, .int .i64 0, .int .i64 0, .slice none 0 0] ?_; intro gb846 hg w10 hbox hb; replace HO845 := Aside0.mk (Kd.N_below (Kd.N_elderB (na_ HO845.out) gb846 (Nat.le_of_eq hg.symm)) hb); have BK846 := Aside0.mk (hbox); have GW846 := Aside0.mk ((hz_ : w.heap.size ≤ gb846)); have GE846 := GW846; replace HB := Aside0.mk (below_step bl_ hb); have NB838_846 := Aside0.mk (nl_ BK838.out hg); have NB846_838 := Aside0.mk (ng_ BK838.out hg); replace BK838 := bb0_ BK838.out hb; have NB839_846 := Aside0.mk (nl_ BK839.out hg); have NB846_839 := Aside0.mk (ng_ BK839.out hg); replace BK839 := bb0_ BK839.out hb; clear hb hbox hg; have hnb11 := NB846_838.out; have hnc11 := NB838_846.out; have hnb12 := NB846_839.out; have hnc12 := NB839_846.out; obtain ⟨hcz13_0, hcz13_1, hcz13_2, hcz13_3, hfz13_0, hfz13_1, hfz13_2, hfz13_3⟩ := cf4_ BK846.out; obtain ⟨Ao14, co14, eo14⟩ := Kd.N_slice HO845.out; subst eo14; obtain ⟨hcz15_0, hcz15_1, hcz15_2, hcz15_3, hfz15_0, hfz15_1, hfz15_2, hfz15_3⟩ := cf4_ BK838.out) | (go_at_call 27; (with_reducible refine (spec_PolicyOk.calls k a0_0 a0_1 a0_2 _ _ l0_3 true _ ?side1 ?side2 A3.out).mono ?_); (case side1 => exact Kd.C_below HR0_3.out bl_); (case side2 => exact HC0_3.out); rintro e w16 ⟨rfl, hb⟩; replace HO845 := Aside0.mk (Kd.N_below (by (with_reducible repeat (first | apply Kd.N_alloc | apply Kd.N_drewN | apply Kd.N_drew)); exact (Kd.N_mono (Kd.N_far (p := ⟨gb846, 3, none⟩) (Kd.N_far (p := ⟨gb846, 2, none⟩) (Kd.N_far (p := ⟨gb846, 1, none⟩) (Kd.N_far (p := ⟨gb846, 0, none⟩) (Kd.N_mono HO845.out (fun k_ hk => (⟨hk, hk.2⟩ : _ ∧ k_ ≠ gb846))) (fun _ hk => hk.2) (.int .i64 t840)) (fun _ hk => hk.2) (.int .i64 t841)) (fun _ hk => hk.2) (.int .i64 t842)) (fun _ hk => hk.2) (.slice Ao14 t843.length co14)) (fun _ h_ => h_.1))) hb); replace BK838 := bb1_ BK838.out NB838_846.out hb; replace BK839 := bb1_ BK839.out NB839_846.out hb; replace BK846 := Aside0.mk (blk_below (g := gb846) (o := .cells #[.int .i64 t840, .int .i64 t841, .int .i64 t842, .slice Ao14 t843.length co14] 36 (0, 0)) (bp0_ BK846.out) hb); replace HB := Aside0.mk (below_step bl_ hb); obtain ⟨hcz17_0, hcz17_1, hcz17_2, hcz17_3, hfz17_0, hfz17_1, hfz17_2, hfz17_3⟩ := cf4_ BK846.out))
 repeat (go_quiet (fail); try go_wp2_with (fail))
 go_loopg [4] k (fun kq v4 w' => ∃ (x4_1 : Int), v4 = .int .i64 x4_1 ∧ Aside0 (spec_Lessened.l0 kq x4_1 a0_0 a0_1 a0_2 l0_3 t840 t841 t842 t843 = some (r1, r2, r3, r4)) ∧ Aside0 (kq ≤ k) ∧ Aside0 (Kd.N k53 53 w' w.heap.size (fun k_ => (w.heap.size ≤ k_) ∧ k_ ≠ gb838 ∧ k_ ≠ gb839 ∧ k_ ≠ gb846) (.slice Ao14 t843.length co14) t843) ∧ Aside0 (w'.heap[gb838]? = some (.cells #[.int .i64 a0_0, .int .i64 a0_1, .int .i64 a0_2, (.slice A0_3 l0_3.length c0_3)] 36 (0, 0))) ∧ Aside0 (w'.heap[gb839]? = some (.cells #[.int .i64 0, .int .i64 0, .int .i64 0, (.slice none 0 0)] 36 (0, 0))) ∧ Aside0 (w'.heap[gb846]? = some (.cells #[.int .i64 t840, .int .i64 t841, .int .i64 t842, (.slice Ao14 t843.length co14)] 36 (0, 0))) ∧ Aside0 (Below w.heap.size w w'))
 case atStart => exact ⟨((t843.length : Int)), (sr_), H', ⟨Nat.le_refl _⟩, ⟨by (with_reducible repeat (first | apply Kd.N_alloc | apply Kd.N_drewN | apply Kd.N_drew)); exact Kd.N_mono HO845.out (fun _ hk => ⟨hk.1.1, ⟨hk.1.2.1, ⟨hk.1.2.2, hk.2⟩⟩⟩)⟩, ⟨bk_ BK838.out⟩, ⟨bk_ BK839.out⟩, ⟨bk_ BK846.out⟩, ⟨bl_⟩⟩
 clear H'
 try clear c4
 try clear hcz13_0
 try clear hcz13_1
 try clear hcz13_2
 try clear hcz13_3
 try clear hcz15_0
 try clear hcz15_1
 try clear hcz15_2
 try clear hcz15_3
 try clear hcz17_0
 try clear hcz17_1
 try clear hcz17_2
 try clear hcz17_3
 try clear hcz8_0
 try clear hcz8_1
 try clear hcz8_2
 try clear hcz8_3
 try clear hfz13_0
 try clear hfz13_1
 try clear hfz13_2
 try clear hfz13_3
 try clear hfz15_0
 try clear hfz15_1
 try clear hfz15_2
 try clear hfz15_3
 try clear hfz17_0
 try clear hfz17_1
 try clear hfz17_2
 try clear hfz17_3
 try clear hfz8_0
 try clear hfz8_1
 try clear hfz8_2
 try clear hfz8_3
 obtain ⟨x4_1, rfl, HA, HK1, HO_847003, BK838, BK839, BK846, HB⟩ := hrel
 cases gk with
 | zero => exact absurd HA.out (by simp [spec_Lessened.l0])
 | succ k1 => ?_
 have H := HA.out
 clear HA
 simp only [spec_Lessened.l0] at H
 by_cases c18 : x4_1 > 0
 rotate_left
 ·rw [if_neg c18] at H
  have c18b0 := decide_eq_false c18
  clear c18
  obtain ⟨y872, hy872⟩ : ∃ y_ : List (S53), y_ = (([] : List (S53))) := ⟨_, rfl⟩
  replace H : (if 0 ≤ x4_1 then (if x4_1 ≤ (t843.length : Int) then ((some (t843.take (x4_1 : Int).toNat : List (S53))).bind fun y875 => (if y872.length + y875.length < 2199023255552 then (some (t840, t841, t842, (y872 ++ y875))) else (none))) else (none)) else (none)) = some (r1, r2, r3, r4) := rp_ H hy872
  have Ny872 := Aside0.mk hy872
  clear hy872
  by_cases c61 : 0 ≤ x4_1
  rotate_left
  ·exact nn_ c61 H
  rw [if_pos c61] at H
  have c61b0 := eq_true c61
  have c61b1 : decide (0 ≤ x4_1) = true := decide_eq_true c61
  clear c61
  by_cases c62 : x4_1 ≤ (t843.length : Int)
  rotate_left
  ·exact nn_ c62 H
  rw [if_pos c62] at H
  have c62b0 := eq_true c62
  have c62b1 : decide (x4_1 ≤ (t843.length : Int)) = true := decide_eq_true c62
  clear c62
  obtain ⟨y875, hy875⟩ : ∃ y_ : List (S53), y_ = (t843.take (x4_1 : Int).toNat) := ⟨_, rfl⟩
  replace H : (if y872.length + y875.length < 2199023255552 then (some (t840, t841, t842, (y872 ++ y875))) else (none)) = some (r1, r2, r3, r4) := rp_ H hy875
  have Ny875 := Aside0.mk hy875
  clear hy875
  by_cases c63 : y872.length + y875.length < 2199023255552
  rotate_left
  ·exact nn_ c63 H
  rw [if_pos c63] at H
  have LMc63 := Aside0.mk c63
  clear c63
  obtain ⟨y880, hy880⟩ : ∃ y_ : List (S53), y_ = (y872 ++ y875) := ⟨_, rfl⟩
  replace H : (some (t840, t841, t842, y880)) = some (r1, r2, r3, r4) := rp_ H hy880
  have Ny880 := Aside0.mk hy880
  clear hy880
  simp only [Option.some.injEq, Prod.mk.injEq] at H
  obtain ⟨rfl, rfl, rfl, rfl⟩ := H
  go_wp2_with (fail)
  repeat (go_quiet (fail); try go_wp2_with (first | ((with_reducible refine gate_dst (N := 42) rfl ?_); refine Kd.N_lit k53 _ 53 ?hg (N' := 42) ?hd (xs := ([] : List (S53))) (inner := []) (ok := (fun k_ => (w.heap.size ≤ k_) ∧ some k_ ≠ (.slice Ao14 t843.length co14 : Value).ownBlock ∧ k_ ≠ gb838 ∧ k_ ≠ gb839 ∧ k_ ≠ gb846)) (okp := (fun k_ => (w.heap.size ≤ k_) ∧ some k_ ≠ (.slice Ao14 t843.length co14 : Value).ownBlock ∧ k_ ≠ gb838 ∧ k_ ≠ gb839 ∧ k_ ≠ gb846)) ?hr ?hp (fun _ hk => hk) ((show ∀ k_, wr.heap.size ≤ k_ → (fun k_ => (w.heap.size ≤ k_) ∧ some k_ ≠ (.slice Ao14 t843.length co14 : Value).ownBlock ∧ k_ ≠ gb838 ∧ k_ ≠ gb839 ∧ k_ ≠ gb846) k_ from fun k_ hk => ⟨(Nat.le_trans (below_size bl_) hk), Kd.fresh' (Kd.N_lt (na_ HO_847003.out)) k_ hk, fb_ BK838.out k_ hk, fb_ BK839.out k_ hk, fb_ BK846.out k_ hk⟩) _ (Nat.le_refl _)) (Below.refl _ _) (Nat.le_refl _) (by simp) ?_; (case hd => rfl); (case hg => rfl); (case hr => first | (go_simp; done) | (go_simp; rfl)); (case hp => exact (Reps.none _ _)); intro v873 w64 ho65 hb hg_ hnew_; clear hg_ hnew_; (first | rw [← Ny872.out] at ho65 | (simp only [Int.reduceToNat] at ho65; rw [← Ny872.out] at ho65)); replace HO_847003 := Aside0.mk (Kd.N_elder' (na_ HO_847003.out) (Kd.N_base ho65) hb); have HO874 := Aside0.mk (Kd.N_lower ho65 (below_size bl_)); replace BK838 := bb0_ BK838.out hb; replace BK839 := bb0_ BK839.out hb; replace BK846 := bb0_ BK846.out hb; replace HB := Aside0.mk (below_step bl_ hb); clear hb ho65; have hnb66 := NB846_838.out; have hnc66 := NB838_846.out; have hnb67 := NB846_839.out; have hnc67 := NB839_846.out; obtain ⟨hcz68_0, hcz68_1, hcz68_2, hcz68_3, hfz68_0, hfz68_1, hfz68_2, hfz68_3⟩ := cf4_ BK846.out; have q69 : (x4_1 : Int) ≤ ((t843.length : Int) : Int) := of_decide_eq_true as_; obtain ⟨i069, hi069, _, hsz69, _⟩ := info_parts info53; have hroom69 : t843.length ≤ co14 := (Kd.N_reads' HO_847003.out).2.1; have hC69 : Kd.F k53 _ _ Ao14 t843.length t843 := (Kd.V_at (base := w.heap.size) (Kd.N_V HO_847003.out)).2.2; have hcut69 := cut_to (P := Try.prog) 34 53 .i64 Try.underlying34 hi069 Ao14 t843.length co14 x4_1 (of_decide_eq_true as_) q69 hroom69; have hr69 := Kd.F_take (m := (x4_1 : Int).toNat) hC69 (by omega); have hy69 : y875.length = (x4_1 : Int).toNat := (by rw [Ny875.out, List.length_take]; omega); rw [← Ny875.out] at hr69; rw [← hy69] at hcut69; have HO879 := Aside0.mk (show Kd.V k53 53 _ w.heap.size _ (.slice Ao14 y875.length co14) y875 from Kd.V_mk (by omega) hr69); have HC879 := Aside0.mk (show y875.length ≤ co14 from by omega); clear hr69 hC69 hroom69 hi069 hsz69; have KY69 := Aside0.mk hy69; clear hy69; replace q69 := eq_true q69) | ((with_reducible refine gate_builtin (b := .append) (xs := #[.tmp 42, .tmp 46]) rfl ?_); at_builtin; refine Kd.N_append_rows k53 (w0 := w) w.heap.size rfl (.tmp 42) (.tmp 46) 34 53 (.agg #[(.slice none 0 0), (.slice none 0 0), (.int .i64 0), (.int .i64 0)]) 64 rfl Try.underlying34 info53 rfl (by decide) (by omega) v873 y872 y875 _ _ _ (fun k_ => (w.heap.size ≤ k_) ∧ k_ ≠ gb838 ∧ k_ ≠ gb839 ∧ k_ ≠ gb846) (fun k_ => ((fun k_ => (w.heap.size ≤ k_) ∧ k_ ≠ gb838 ∧ k_ ≠ gb839 ∧ k_ ≠ gb846)) k_ ∧ some k_ ≠ (v873 : Value).ownBlock) rfl rfl ?aO ?aR (fun _ hk => hk) ?aF ?aB ?aS ?aL ?_; (case aR => exact (by skip; exact Kd.V_F (Kd.V_mono (ok' := (fun k_ => ((fun k_ => (w.heap.size ≤ k_) ∧ k_ ≠ gb838 ∧ k_ ≠ gb839 ∧ k_ ≠ gb846)) k_ ∧ some k_ ≠ (v873 : Value).ownBlock)) (HO879.out) (fun k_ hk => ⟨⟨hk.1.1, ⟨hk.1.2.1, ⟨hk.1.2.2.1, hk.1.2.2.2⟩⟩⟩, hk.2⟩)))); (case aB => exact bl_); (case aF => exact (fun k_ hk => ⟨(Nat.le_trans (below_size bl_) hk), fb_ BK838.out k_ hk, fb_ BK839.out k_ hk, fb_ BK846.out k_ hk⟩)); (case aO => exact (by (with_reducible repeat (first | apply Kd.N_alloc | apply Kd.N_drewN | apply Kd.N_drew)); exact Kd.N_mono HO874.out (fun _ hk => ⟨hk.1, ⟨hk.2.2.1, ⟨hk.2.2.2.1, hk.2.2.2.2⟩⟩⟩))); (case aS => exact (below_size bl_)); (case aL => have := LMc63.out; omega); intro v881 w70 ho hb hg hat; rw [← Ny880.out] at ho; replace HO_847003 := Aside0.mk (Kd.N_afterv (ok := (fun k_ => (w.heap.size ≤ k_) ∧ k_ ≠ gb838 ∧ k_ ≠ gb839 ∧ k_ ≠ gb846)) (na_ HO_847003.out) hg hat); replace BK838 := Aside0.mk (blk_grown (g := gb838) (o := .cells #[.int .i64 a0_0, .int .i64 a0_1, .int .i64 a0_2, .slice A0_3 l0_3.length c0_3] 36 (0, 0)) (bk_ BK838.out) hg (Kd.N_ne HO874.out BK838.out (by decide))); replace BK839 := Aside0.mk (blk_grown (g := gb839) (o := .cells #[.int .i64 0, .int .i64 0, .int .i64 0, .slice none 0 0] 36 (0, 0)) (bk_ BK839.out) hg (Kd.N_ne HO874.out BK839.out (by decide))); replace BK846 := Aside0.mk (blk_grown (g := gb846) (o := .cells #[.int .i64 t840, .int .i64 t841, .int .i64 t842, .slice Ao14 t843.length co14] 36 (0, 0)) (bk_ BK846.out) hg (Kd.N_ne HO874.out BK846.out (by decide))); replace HO879 := Aside0.mk (Kd.V_afterv (ok := (fun k_ => (w.heap.size ≤ k_) ∧ k_ ≠ gb838 ∧ k_ ≠ gb839 ∧ k_ ≠ gb846)) (by (with_reducible repeat (first | apply Kd.V_alloc | apply Kd.V_drewN | apply Kd.V_drew)); exact HO879.out) hg hat); replace HB := Aside0.mk (hb); have HO882 := Aside0.mk (ho); clear HO874; clear ho hb hg hat; obtain ⟨Ao71, co71, eo71⟩ := Kd.N_slice HO882.out; subst eo71; obtain ⟨hcz72_0, hcz72_1, hcz72_2, hcz72_3, hfz72_0, hfz72_1, hfz72_2, hfz72_3⟩ := cf4_ BK846.out; have hnb73 := NB839_838.out; have hnc73 := NB838_839.out; obtain ⟨hcz74_0, hcz74_1, hcz74_2, hcz74_3, hfz74_0, hfz74_1, hfz74_2, hfz74_3⟩ := cf4_ BK839.out)))
  refine bodyPost_ret (results_cell_row rfl _ _ gb839 36 #[.int .i64 t840, .int .i64 t841, .int .i64 t842, .slice Ao71 y880.length co71] (0, 0) _ rfl (bp1_ BK839.out NB839_846.out) Try.underlying36 rfl (by kernel_rfl)) rfl ?_
  exact ⟨_, er_, by (with_reducible repeat (first | apply Kd.N_alloc | apply Kd.N_drewN | apply Kd.N_drew)); exact Kd.N_mono (Kd.N_far (p := ⟨gb839, 3, none⟩) (Kd.N_far (p := ⟨gb839, 2, none⟩) (Kd.N_far (p := ⟨gb839, 1, none⟩) (Kd.N_far (p := ⟨gb839, 0, none⟩) (Kd.N_far (p := ⟨gb846, 3, none⟩) (Kd.N_mono (Kd.N_mono HO882.out (fun k_ hk => (⟨hk, hk.2.2.2⟩ : _ ∧ k_ ≠ gb846))) (fun k_ hk => (⟨hk, hk.1.2.2.1⟩ : _ ∧ k_ ≠ gb839))) (fun _ hk => hk.1.2) (.slice Ao71 y880.length co71)) (fun _ hk => hk.2) (.int .i64 t840)) (fun _ hk => hk.2) (.int .i64 t841)) (fun _ hk => hk.2) (.int .i64 t842)) (fun _ hk => hk.2) (.slice Ao71 y880.length co71)) (fun _ hk => hk.1.1.1), bl_⟩
 rw [if_pos c18] at H
 have c18b0 := decide_eq_true c18
 clear c18
 obtain ⟨ji19, hji19⟩ : ∃ j_ : Int, (wrap64 (x4_1 - 1)) = j_ := ⟨_, rfl⟩
 replace H : (if 0 ≤ (ji19) then (if (ji19) < (t843.length : Int) then (if ((rd_T53 t843 (ji19)).f2) = a0_1 then (if ((rd_T53 t843 (ji19)).f3) = a0_2 then (spec_Lessened.l0 k1 ji19 a0_0 a0_1 a0_2 l0_3 t840 t841 t842 t843) else ((some (([] : List (S53)) : List (S53))).bind fun y850 => (if 0 ≤ x4_1 then (if x4_1 ≤ (t843.length : Int) then ((some (t843.take (x4_1 : Int).toNat : List (S53))).bind fun y853 => (if y850.length + y853.length < 2199023255552 then (some (t840, t841, t842, (y850 ++ y853))) else (none))) else (none)) else (none)))) else ((some (([] : List (S53)) : List (S53))).bind fun y861 => (if 0 ≤ x4_1 then (if x4_1 ≤ (t843.length : Int) then ((some (t843.take (x4_1 : Int).toNat : List (S53))).bind fun y864 => (if y861.length + y864.length < 2199023255552 then (some (t840, t841, t842, (y861 ++ y864))) else (none))) else (none)) else (none)))) else (none)) else (none)) = some (r1, r2, r3, r4) := by first | (rw [hji19] at H; exact H) | (simp only [hji19] at H ⊢; exact H)
 have hji19w : (IntKind.i64.wrap (x4_1 - 1)) = ji19 := (i64_w _).trans hji19
 by_cases c20 : 0 ≤ (ji19)
 rotate_left
 ·exact nn_ c20 H
 rw [if_pos c20] at H
 have c20b0 := decide_eq_true c20
 clear c20
 by_cases c21 : (ji19) < (t843.length : Int)
 rotate_left
 ·exact nn_ c21 H
 rw [if_pos c21] at H
 have c21b0 := decide_eq_true c21
 clear c21
 by_cases c22 : ((rd_T53 t843 (ji19)).f2) = a0_1
 rotate_left
 ·rw [if_neg c22] at H
  have c22b0 : (((rd_T53 t843 (ji19)).f2) == a0_1) = false := beq_eq_false_iff_ne.mpr c22
  have c22b1 : (((rd_T53 t843 (ji19)).f2) != a0_1) = true := bne_iff_ne.mpr c22
  obtain ⟨y861, hy861⟩ : ∃ y_ : List (S53), y_ = (([] : List (S53))) := ⟨_, rfl⟩
  replace H : (if 0 ≤ x4_1 then (if x4_1 ≤ (t843.length : Int) then ((some (t843.take (x4_1 : Int).toNat : List (S53))).bind fun y864 => (if y861.length + y864.length < 2199023255552 then (some (t840, t841, t842, (y861 ++ y864))) else (none))) else (none)) else (none)) = some (r1, r2, r3, r4) := rp_ H hy861
  have Ny861 := Aside0.mk hy861
  clear hy861
  by_cases c45 : 0 ≤ x4_1
  rotate_left
  ·exact nn_ c45 H
  rw [if_pos c45] at H
  have c45b0 := eq_true c45
  have c45b1 : decide (0 ≤ x4_1) = true := decide_eq_true c45
  clear c45
  by_cases c46 : x4_1 ≤ (t843.length : Int)
  rotate_left
  ·exact nn_ c46 H
  rw [if_pos c46] at H
  have c46b0 := eq_true c46
  have c46b1 : decide (x4_1 ≤ (t843.length : Int)) = true := decide_eq_true c46
  clear c46
  obtain ⟨y864, hy864⟩ : ∃ y_ : List (S53), y_ = (t843.take (x4_1 : Int).toNat) := ⟨_, rfl⟩
  replace H : (if y861.length + y864.length < 2199023255552 then (some (t840, t841, t842, (y861 ++ y864))) else (none)) = some (r1, r2, r3, r4) := rp_ H hy864
  have Ny864 := Aside0.mk hy864
  clear hy864
  by_cases c47 : y861.length + y864.length < 2199023255552
  rotate_left
  ·exact nn_ c47 H
  rw [if_pos c47] at H
  have LMc47 := Aside0.mk c47
  clear c47
  obtain ⟨y869, hy869⟩ : ∃ y_ : List (S53), y_ = (y861 ++ y864) := ⟨_, rfl⟩
  replace H : (some (t840, t841, t842, y869)) = some (r1, r2, r3, r4) := rp_ H hy869
  have Ny869 := Aside0.mk hy869
  clear hy869
  simp only [Option.some.injEq, Prod.mk.injEq] at H
  obtain ⟨rfl, rfl, rfl, rfl⟩ := H
  have hnb48 := NB846_838.out
  have hnc48 := NB838_846.out
  have hnb49 := NB846_839.out
  have hnc49 := NB839_846.out
  obtain ⟨hcz50_0, hcz50_1, hcz50_2, hcz50_3, hfz50_0, hfz50_1, hfz50_2, hfz50_3⟩ := cf4_ BK846.out
  have p848 : 0 ≤ ((ji19) : Int) := of_decide_eq_true as_
  have q848 : (ji19) < (t843.length : Int) := of_decide_eq_true as_
  obtain ⟨ad848, A848_0, c848_0, A848_1, c848_1, e848, hx848_0, hx848_1, hx848_2, hx848_3, hl848_0, hi848_0, hl848_1, hi848_1⟩ := at_T53 (Kd.N_reads' HO_847003.out).2.2 (ji19) p848 q848
  cases e848
  obtain ⟨ce848, hce848, hMe848, hcc848⟩ := Kd.N_get HO_847003.out z53 (ji19) p848 (by first | exact q848 | exact of_decide_eq_true as_ | (have e_ := (Kd.N_reads' HO_847003.out).1; omega))
  obtain ⟨ua848_0, uc848_0, ua848_1, uc848_1, rfl, ul848_0, ge848_0, ul848_1, ge848_1⟩ := k53_openF hMe848
  have hv848_0 := hcc848 0 _ rfl
  rw [Nat.add_zero] at hv848_0
  replace hv848_0 := Option.some.inj (hv848_0.symm.trans hx848_0)
  injection hv848_0 with hva_ hvn_ hvc_
  rw [hva_] at ge848_0
  rw [hvc_] at ul848_0
  have HL848_0 := Aside0.mk (show Kd.V (Kd.int .i64) 3 _ w.heap.size _ _ ((rd_T53 t843 (ji19)).f0) from Kd.V_mk ul848_0 ge848_0)
  clear hva_ hvn_ hvc_ ge848_0 ul848_0
  have hv848_1 := hcc848 1 _ rfl
  rw [add_field _ _ 1 (by omega)] at hv848_1
  replace hv848_1 := Option.some.inj (hv848_1.symm.trans hx848_1)
  injection hv848_1 with hva_ hvn_ hvc_
  rw [hva_] at ge848_1
  rw [hvc_] at ul848_1
  have HL848_1 := Aside0.mk (show Kd.V k100 100 _ w.heap.size _ _ ((rd_T53 t843 (ji19)).f1) from Kd.V_mk ul848_1 ge848_1)
  clear hva_ hvn_ hvc_ ge848_1 ul848_1
  clear hcc848 hce848
  have HR848_0 := Aside0.mk hi848_0
  have HC848_0 := Aside0.mk hl848_0
  clear hi848_0 hl848_0
  have HR848_1 := Aside0.mk hi848_1
  have HC848_1 := Aside0.mk hl848_1
  clear hi848_1 hl848_1
  replace p848 := eq_true p848
  replace q848 := eq_true q848
  have hnb51 := NB838_839.out
  have hnc51 := NB839_838.out
  obtain ⟨hcz52_0, hcz52_1, hcz52_2, hcz52_3, hfz52_0, hfz52_1, hfz52_2, hfz52_3⟩ := cf4_ BK838.out
  go_wp2_with (fail)
  repeat (go_quiet (fail); try go_wp2_with (first | ((with_reducible refine gate_dst (N := 42) rfl ?_); refine Kd.N_lit k53 _ 53 ?hg (N' := 42) ?hd (xs := ([] : List (S53))) (inner := []) (ok := (fun k_ => (w.heap.size ≤ k_) ∧ some k_ ≠ (.slice (some ad848) t843.length co14 : Value).ownBlock ∧ k_ ≠ gb838 ∧ k_ ≠ gb839 ∧ k_ ≠ gb846)) (okp := (fun k_ => (w.heap.size ≤ k_) ∧ some k_ ≠ (.slice (some ad848) t843.length co14 : Value).ownBlock ∧ k_ ≠ gb838 ∧ k_ ≠ gb839 ∧ k_ ≠ gb846)) ?hr ?hp (fun _ hk => hk) ((show ∀ k_, wr.heap.size ≤ k_ → (fun k_ => (w.heap.size ≤ k_) ∧ some k_ ≠ (.slice (some ad848) t843.length co14 : Value).ownBlock ∧ k_ ≠ gb838 ∧ k_ ≠ gb839 ∧ k_ ≠ gb846) k_ from fun k_ hk => ⟨(Nat.le_trans (below_size bl_) hk), Kd.fresh' (Kd.N_lt (na_ HO_847003.out)) k_ hk, fb_ BK838.out k_ hk, fb_ BK839.out k_ hk, fb_ BK846.out k_ hk⟩) _ (Nat.le_refl _)) (Below.refl _ _) (Nat.le_refl _) (by simp) ?_; (case hd => rfl); (case hg => rfl); (case hr => first | (go_simp; done) | (go_simp; rfl)); (case hp => exact (Reps.none _ _)); intro v862 w53 ho54 hb hg_ hnew_; clear hg_ hnew_; (first | rw [← Ny861.out] at ho54 | (simp only [Int.reduceToNat] at ho54; rw [← Ny861.out] at ho54)); replace HO_847003 := Aside0.mk (Kd.N_elder' (na_ HO_847003.out) (Kd.N_base ho54) hb); replace HL848_0 := Aside0.mk (Kd.V_elder' (by (with_reducible repeat (first | apply Kd.V_alloc | apply Kd.V_drewN | apply Kd.V_drew)); exact HL848_0.out) (Kd.N_base ho54) hb); replace HL848_1 := Aside0.mk (Kd.V_elder' (by (with_reducible repeat (first | apply Kd.V_alloc | apply Kd.V_drewN | apply Kd.V_drew)); exact HL848_1.out) (Kd.N_base ho54) hb); have HO863 := Aside0.mk (Kd.N_lower ho54 (below_size bl_)); replace BK838 := bb0_ BK838.out hb; replace BK839 := bb0_ BK839.out hb; replace BK846 := bb0_ BK846.out hb; replace HR848_0 := Aside0.mk (Kd.C_below (by repeat (first | (with_reducible exact HR848_0.out) | (with_reducible refine Kd.C_alloc ?_ _) | (with_reducible refine Kd.C_drewN ?_ _) | (with_reducible refine Kd.C_drew ?_) | exact HR848_0.out)) hb); replace HR848_1 := Aside0.mk (Kd.C_below (by repeat (first | (with_reducible exact HR848_1.out) | (with_reducible refine Kd.C_alloc ?_ _) | (with_reducible refine Kd.C_drewN ?_ _) | (with_reducible refine Kd.C_drew ?_) | exact HR848_1.out)) hb); replace HB := Aside0.mk (below_step bl_ hb); clear hb ho54; obtain ⟨hcz55_0, hcz55_1, hcz55_2, hcz55_3, hfz55_0, hfz55_1, hfz55_2, hfz55_3⟩ := cf4_ BK846.out; have q56 : (x4_1 : Int) ≤ ((t843.length : Int) : Int) := of_decide_eq_true as_; obtain ⟨i056, hi056, _, hsz56, _⟩ := info_parts info53; have hroom56 : t843.length ≤ co14 := (Kd.N_reads' HO_847003.out).2.1; have hC56 : Kd.F k53 _ _ (some ad848) t843.length t843 := (Kd.V_at (base := w.heap.size) (Kd.N_V HO_847003.out)).2.2; have hcut56 := cut_to (P := Try.prog) 34 53 .i64 Try.underlying34 hi056 (some ad848) t843.length co14 x4_1 (of_decide_eq_true as_) q56 hroom56; have hr56 := Kd.F_take (m := (x4_1 : Int).toNat) hC56 (by omega); have hy56 : y864.length = (x4_1 : Int).toNat := (by rw [Ny864.out, List.length_take]; omega); rw [← Ny864.out] at hr56; rw [← hy56] at hcut56; have HO868 := Aside0.mk (show Kd.V k53 53 _ w.heap.size _ (.slice (some ad848) y864.length co14) y864 from Kd.V_mk (by omega) hr56); have HC868 := Aside0.mk (show y864.length ≤ co14 from by omega); clear hr56 hC56 hroom56 hi056 hsz56; have KY56 := Aside0.mk hy56; clear hy56; replace q56 := eq_true q56) | ((with_reducible refine gate_builtin (b := .append) (xs := #[.tmp 42, .tmp 46]) rfl ?_); at_builtin; refine Kd.N_append_rows k53 (w0 := w) w.heap.size rfl (.tmp 42) (.tmp 46) 34 53 (.agg #[(.slice none 0 0), (.slice none 0 0), (.int .i64 0), (.int .i64 0)]) 64 rfl Try.underlying34 info53 rfl (by decide) (by omega) v862 y861 y864 _ _ _ (fun k_ => (w.heap.size ≤ k_) ∧ k_ ≠ gb838 ∧ k_ ≠ gb839 ∧ k_ ≠ gb846) (fun k_ => ((fun k_ => (w.heap.size ≤ k_) ∧ k_ ≠ gb838 ∧ k_ ≠ gb839 ∧ k_ ≠ gb846)) k_ ∧ some k_ ≠ (v862 : Value).ownBlock) rfl rfl ?aO ?aR (fun _ hk => hk) ?aF ?aB ?aS ?aL ?_; (case aR => exact (by skip; exact Kd.V_F (Kd.V_mono (ok' := (fun k_ => ((fun k_ => (w.heap.size ≤ k_) ∧ k_ ≠ gb838 ∧ k_ ≠ gb839 ∧ k_ ≠ gb846)) k_ ∧ some k_ ≠ (v862 : Value).ownBlock)) (HO868.out) (fun k_ hk => ⟨⟨hk.1.1, ⟨hk.1.2.1, ⟨hk.1.2.2.1, hk.1.2.2.2⟩⟩⟩, hk.2⟩)))); (case aB => exact bl_); (case aF => exact (fun k_ hk => ⟨(Nat.le_trans (below_size bl_) hk), fb_ BK838.out k_ hk, fb_ BK839.out k_ hk, fb_ BK846.out k_ hk⟩)); (case aO => exact (by (with_reducible repeat (first | apply Kd.N_alloc | apply Kd.N_drewN | apply Kd.N_drew)); exact Kd.N_mono HO863.out (fun _ hk => ⟨hk.1, ⟨hk.2.2.1, ⟨hk.2.2.2.1, hk.2.2.2.2⟩⟩⟩))); (case aS => exact (below_size bl_)); (case aL => have := LMc47.out; omega); intro v870 w57 ho hb hg hat; rw [← Ny869.out] at ho; replace HO_847003 := Aside0.mk (Kd.N_afterv (ok := (fun k_ => (w.heap.size ≤ k_) ∧ k_ ≠ gb838 ∧ k_ ≠ gb839 ∧ k_ ≠ gb846)) (na_ HO_847003.out) hg hat); replace BK838 := Aside0.mk (blk_grown (g := gb838) (o := .cells #[.int .i64 a0_0, .int .i64 a0_1, .int .i64 a0_2, .slice A0_3 l0_3.length c0_3] 36 (0, 0)) (bk_ BK838.out) hg (Kd.N_ne HO863.out BK838.out (by decide))); replace BK839 := Aside0.mk (blk_grown (g := gb839) (o := .cells #[.int .i64 0, .int .i64 0, .int .i64 0, .slice none 0 0] 36 (0, 0)) (bk_ BK839.out) hg (Kd.N_ne HO863.out BK839.out (by decide))); replace BK846 := Aside0.mk (blk_grown (g := gb846) (o := .cells #[.int .i64 t840, .int .i64 t841, .int .i64 t842, .slice (some ad848) t843.length co14] 36 (0, 0)) (bk_ BK846.out) hg (Kd.N_ne HO863.out BK846.out (by decide))); replace HL848_0 := Aside0.mk (Kd.V_afterv (ok := (fun k_ => (w.heap.size ≤ k_) ∧ some k_ ≠ (.slice (some ad848) t843.length co14 : Value).ownBlock ∧ k_ ≠ gb838 ∧ k_ ≠ gb839 ∧ k_ ≠ gb846)) (by (with_reducible repeat (first | apply Kd.V_alloc | apply Kd.V_drewN | apply Kd.V_drew)); exact Kd.V_mono HL848_0.out (fun _ hk => ⟨⟨hk.1.1.1, ⟨hk.1.2, ⟨hk.1.1.2.1, ⟨hk.1.1.2.2.1, hk.1.1.2.2.2⟩⟩⟩⟩, hk.2⟩)) hg hat); replace HL848_1 := Aside0.mk (Kd.V_afterv (ok := (fun k_ => (w.heap.size ≤ k_) ∧ some k_ ≠ (.slice (some ad848) t843.length co14 : Value).ownBlock ∧ k_ ≠ gb838 ∧ k_ ≠ gb839 ∧ k_ ≠ gb846)) (by (with_reducible repeat (first | apply Kd.V_alloc | apply Kd.V_drewN | apply Kd.V_drew)); exact Kd.V_mono HL848_1.out (fun _ hk => ⟨⟨hk.1.1.1, ⟨hk.1.2, ⟨hk.1.1.2.1, ⟨hk.1.1.2.2.1, hk.1.1.2.2.2⟩⟩⟩⟩, hk.2⟩)) hg hat); replace HO868 := Aside0.mk (Kd.V_afterv (ok := (fun k_ => (w.heap.size ≤ k_) ∧ k_ ≠ gb838 ∧ k_ ≠ gb839 ∧ k_ ≠ gb846)) (by (with_reducible repeat (first | apply Kd.V_alloc | apply Kd.V_drewN | apply Kd.V_drew)); exact HO868.out) hg hat); replace HB := Aside0.mk (hb); have HO871 := Aside0.mk (ho); clear HO863; clear ho hb hg hat; obtain ⟨Ao58, co58, eo58⟩ := Kd.N_slice HO871.out; subst eo58; obtain ⟨hcz59_0, hcz59_1, hcz59_2, hcz59_3, hfz59_0, hfz59_1, hfz59_2, hfz59_3⟩ := cf4_ BK846.out; obtain ⟨hcz60_0, hcz60_1, hcz60_2, hcz60_3, hfz60_0, hfz60_1, hfz60_2, hfz60_3⟩ := cf4_ BK839.out)))
  refine bodyPost_ret (results_cell_row rfl _ _ gb839 36 #[.int .i64 t840, .int .i64 t841, .int .i64 t842, .slice Ao58 y869.length co58] (0, 0) _ rfl (bp1_ BK839.out NB839_846.out) Try.underlying36 rfl (by kernel_rfl)) rfl ?_
  exact ⟨_, by first | rfl | (simp [errW_none, errW_some] <;> rfl) | (simp only [← hji19]; first | rfl | (simp [errW_none, errW_some] <;> rfl)) | (simp [*, errW_none, errW_some] <;> rfl) | exact False.elim (Bool.noConfusion ((decide_eq_true (of_eq_true (by assumption))).symm.trans (by assumption))), by (with_reducible repeat (first | apply Kd.N_alloc | apply Kd.N_drewN | apply Kd.N_drew)); exact Kd.N_mono (Kd.N_far (p := ⟨gb839, 3, none⟩) (Kd.N_far (p := ⟨gb839, 2, none⟩) (Kd.N_far (p := ⟨gb839, 1, none⟩) (Kd.N_far (p := ⟨gb839, 0, none⟩) (Kd.N_far (p := ⟨gb846, 3, none⟩) (Kd.N_mono (Kd.N_mono HO871.out (fun k_ hk => (⟨hk, hk.2.2.2⟩ : _ ∧ k_ ≠ gb846))) (fun k_ hk => (⟨hk, hk.1.2.2.1⟩ : _ ∧ k_ ≠ gb839))) (fun _ hk => hk.1.2) (.slice Ao58 y869.length co58)) (fun _ hk => hk.2) (.int .i64 t840)) (fun _ hk => hk.2) (.int .i64 t841)) (fun _ hk => hk.2) (.int .i64 t842)) (fun _ hk => hk.2) (.slice Ao58 y869.length co58)) (fun _ hk => hk.1.1.1), bl_⟩
 rw [if_pos c22] at H
 have c22b0 : (((rd_T53 t843 (ji19)).f2) == a0_1) = true := beq_iff_eq.mpr c22
 have c22b1 : (((rd_T53 t843 (ji19)).f2) != a0_1) = false := bne_eq_false_iff_eq.mpr c22
 clear c22
 by_cases c23 : ((rd_T53 t843 (ji19)).f3) = a0_2
 ·rw [if_pos c23] at H
  have c23b0 : (((rd_T53 t843 (ji19)).f3) == a0_2) = true := beq_iff_eq.mpr c23
  have c23b1 : (((rd_T53 t843 (ji19)).f3) != a0_2) = false := bne_eq_false_iff_eq.mpr c23
  clear c23
  have H' := Aside0.mk H
  clear H
  have hnb24 := NB846_838.out
  have hnc24 := NB838_846.out
  have hnb25 := NB846_839.out
  have hnc25 := NB839_846.out
  obtain ⟨hcz26_0, hcz26_1, hcz26_2, hcz26_3, hfz26_0, hfz26_1, hfz26_2, hfz26_3⟩ := cf4_ BK846.out
  have p848 : 0 ≤ ((ji19) : Int) := of_decide_eq_true as_
  have q848 : (ji19) < (t843.length : Int) := of_decide_eq_true as_
  obtain ⟨ad848, A848_0, c848_0, A848_1, c848_1, e848, hx848_0, hx848_1, hx848_2, hx848_3, hl848_0, hi848_0, hl848_1, hi848_1⟩ := at_T53 (Kd.N_reads' HO_847003.out).2.2 (ji19) p848 q848
  cases e848
  obtain ⟨ce848, hce848, hMe848, hcc848⟩ := Kd.N_get HO_847003.out z53 (ji19) p848 (by first | exact q848 | exact of_decide_eq_true as_ | (have e_ := (Kd.N_reads' HO_847003.out).1; omega))
  obtain ⟨ua848_0, uc848_0, ua848_1, uc848_1, rfl, ul848_0, ge848_0, ul848_1, ge848_1⟩ := k53_openF hMe848
  have hv848_0 := hcc848 0 _ rfl
  rw [Nat.add_zero] at hv848_0
  replace hv848_0 := Option.some.inj (hv848_0.symm.trans hx848_0)
  injection hv848_0 with hva_ hvn_ hvc_
  rw [hva_] at ge848_0
  rw [hvc_] at ul848_0
  have HL848_0 := Aside0.mk (show Kd.V (Kd.int .i64) 3 _ w.heap.size _ _ ((rd_T53 t843 (ji19)).f0) from Kd.V_mk ul848_0 ge848_0)
  clear hva_ hvn_ hvc_ ge848_0 ul848_0
  have hv848_1 := hcc848 1 _ rfl
  rw [add_field _ _ 1 (by omega)] at hv848_1
  replace hv848_1 := Option.some.inj (hv848_1.symm.trans hx848_1)
  injection hv848_1 with hva_ hvn_ hvc_
  rw [hva_] at ge848_1
  rw [hvc_] at ul848_1
  have HL848_1 := Aside0.mk (show Kd.V k100 100 _ w.heap.size _ _ ((rd_T53 t843 (ji19)).f1) from Kd.V_mk ul848_1 ge848_1)
  clear hva_ hvn_ hvc_ ge848_1 ul848_1
  clear hcc848 hce848
  have HR848_0 := Aside0.mk hi848_0
  have HC848_0 := Aside0.mk hl848_0
  clear hi848_0 hl848_0
  have HR848_1 := Aside0.mk hi848_1
  have HC848_1 := Aside0.mk hl848_1
  clear hi848_1 hl848_1
  replace p848 := eq_true p848
  replace q848 := eq_true q848
  have hnb27 := NB838_839.out
  have hnc27 := NB839_838.out
  obtain ⟨hcz28_0, hcz28_1, hcz28_2, hcz28_3, hfz28_0, hfz28_1, hfz28_2, hfz28_3⟩ := cf4_ BK838.out
  have p849 : 0 ≤ ((ji19) : Int) := of_decide_eq_true as_
  have q849 : (ji19) < (t843.length : Int) := of_decide_eq_true as_
  obtain ⟨ad849, A849_0, c849_0, A849_1, c849_1, e849, hx849_0, hx849_1, hx849_2, hx849_3, hl849_0, hi849_0, hl849_1, hi849_1⟩ := at_T53 (Kd.N_reads' HO_847003.out).2.2 (ji19) p849 q849
  obtain rfl : ad848 = ad849 := (by injection e849)
  obtain ⟨ce849, hce849, hMe849, hcc849⟩ := Kd.N_get HO_847003.out z53 (ji19) p849 (by first | exact q849 | exact of_decide_eq_true as_ | (have e_ := (Kd.N_reads' HO_847003.out).1; omega))
  obtain ⟨ua849_0, uc849_0, ua849_1, uc849_1, rfl, ul849_0, ge849_0, ul849_1, ge849_1⟩ := k53_openF hMe849
  have hv849_0 := hcc849 0 _ rfl
  rw [Nat.add_zero] at hv849_0
  replace hv849_0 := Option.some.inj (hv849_0.symm.trans hx849_0)
  injection hv849_0 with hva_ hvn_ hvc_
  rw [hva_] at ge849_0
  rw [hvc_] at ul849_0
  have HL849_0 := Aside0.mk (show Kd.V (Kd.int .i64) 3 _ w.heap.size _ _ ((rd_T53 t843 (ji19)).f0) from Kd.V_mk ul849_0 ge849_0)
  clear hva_ hvn_ hvc_ ge849_0 ul849_0
  have hv849_1 := hcc849 1 _ rfl
  rw [add_field _ _ 1 (by omega)] at hv849_1
  replace hv849_1 := Option.some.inj (hv849_1.symm.trans hx849_1)
  injection hv849_1 with hva_ hvn_ hvc_
  rw [hva_] at ge849_1
  rw [hvc_] at ul849_1
  have HL849_1 := Aside0.mk (show Kd.V k100 100 _ w.heap.size _ _ ((rd_T53 t843 (ji19)).f1) from Kd.V_mk ul849_1 ge849_1)
  clear hva_ hvn_ hvc_ ge849_1 ul849_1
  clear hcc849 hce849
  have HR849_0 := Aside0.mk hi849_0
  have HC849_0 := Aside0.mk hl849_0
  clear hi849_0 hl849_0
  have HR849_1 := Aside0.mk hi849_1
  have HC849_1 := Aside0.mk hl849_1
  clear hi849_1 hl849_1
  replace p849 := eq_true p849
  replace q849 := eq_true q849
  have ea_ := Option.some.inj (hx848_0.symm.trans hx849_0)
  injection ea_ with ea_ en_ ec_
  subst ea_
  subst ec_
  clear en_
  have ea_ := Option.some.inj (hx848_1.symm.trans hx849_1)
  injection ea_ with ea_ en_ ec_
  subst ea_
  subst ec_
  clear en_
  go_wp2
  repeat (go_quiet (fail); try go_wp2)
  go_roundg k1
  case measure => have := HK1.out; omega
  case rel => exact ⟨(ji19), (by first | rfl | (simp; done) | (simp only [← hji19] <;> (first | rfl | simp)) | (simp [*]; done)), H', ⟨by have := HK1.out; omega⟩, ⟨by (with_reducible repeat (first | apply Kd.N_alloc | apply Kd.N_drewN | apply Kd.N_drew)); exact HO_847003.out⟩, ⟨bk_ BK838.out⟩, ⟨bk_ BK839.out⟩, ⟨bk_ BK846.out⟩, ⟨bl_⟩⟩
 rw [if_neg c23] at H
 have c23b0 : (((rd_T53 t843 (ji19)).f3) == a0_2) = false := beq_eq_false_iff_ne.mpr c23
 have c23b1 : (((rd_T53 t843 (ji19)).f3) != a0_2) = true := bne_iff_ne.mpr c23
 obtain ⟨y850, hy850⟩ : ∃ y_ : List (S53), y_ = (([] : List (S53))) := ⟨_, rfl⟩
 replace H : (if 0 ≤ x4_1 then (if x4_1 ≤ (t843.length : Int) then ((some (t843.take (x4_1 : Int).toNat : List (S53))).bind fun y853 => (if y850.length + y853.length < 2199023255552 then (some (t840, t841, t842, (y850 ++ y853))) else (none))) else (none)) else (none)) = some (r1, r2, r3, r4) := rp_ H hy850
 have Ny850 := Aside0.mk hy850
 clear hy850
 by_cases c29 : 0 ≤ x4_1
 rotate_left
 ·exact nn_ c29 H
 rw [if_pos c29] at H
 have c29b0 := eq_true c29
 have c29b1 : decide (0 ≤ x4_1) = true := decide_eq_true c29
 clear c29
 by_cases c30 : x4_1 ≤ (t843.length : Int)
 rotate_left
 ·exact nn_ c30 H
 rw [if_pos c30] at H
 have c30b0 := eq_true c30
 have c30b1 : decide (x4_1 ≤ (t843.length : Int)) = true := decide_eq_true c30
 clear c30
 obtain ⟨y853, hy853⟩ : ∃ y_ : List (S53), y_ = (t843.take (x4_1 : Int).toNat) := ⟨_, rfl⟩
 replace H : (if y850.length + y853.length < 2199023255552 then (some (t840, t841, t842, (y850 ++ y853))) else (none)) = some (r1, r2, r3, r4) := rp_ H hy853
 have Ny853 := Aside0.mk hy853
 clear hy853
 by_cases c31 : y850.length + y853.length < 2199023255552
 rotate_left
 ·exact nn_ c31 H
 rw [if_pos c31] at H
 have LMc31 := Aside0.mk c31
 clear c31
 obtain ⟨y858, hy858⟩ : ∃ y_ : List (S53), y_ = (y850 ++ y853) := ⟨_, rfl⟩
 replace H : (some (t840, t841, t842, y858)) = some (r1, r2, r3, r4) := rp_ H hy858
 have Ny858 := Aside0.mk hy858
 clear hy858
 simp only [Option.some.injEq, Prod.mk.injEq] at H
 obtain ⟨rfl, rfl, rfl, rfl⟩ := H
 have hnb32 := NB846_838.out
 have hnc32 := NB838_846.out
 have hnb33 := NB846_839.out
 have hnc33 := NB839_846.out
 obtain ⟨hcz34_0, hcz34_1, hcz34_2, hcz34_3, hfz34_0, hfz34_1, hfz34_2, hfz34_3⟩ := cf4_ BK846.out
 have p848 : 0 ≤ ((ji19) : Int) := of_decide_eq_true as_
 have q848 : (ji19) < (t843.length : Int) := of_decide_eq_true as_
 obtain ⟨ad848, A848_0, c848_0, A848_1, c848_1, e848, hx848_0, hx848_1, hx848_2, hx848_3, hl848_0, hi848_0, hl848_1, hi848_1⟩ := at_T53 (Kd.N_reads' HO_847003.out).2.2 (ji19) p848 q848
 cases e848
 obtain ⟨ce848, hce848, hMe848, hcc848⟩ := Kd.N_get HO_847003.out z53 (ji19) p848 (by first | exact q848 | exact of_decide_eq_true as_ | (have e_ := (Kd.N_reads' HO_847003.out).1; omega))
 obtain ⟨ua848_0, uc848_0, ua848_1, uc848_1, rfl, ul848_0, ge848_0, ul848_1, ge848_1⟩ := k53_openF hMe848
 have hv848_0 := hcc848 0 _ rfl
 rw [Nat.add_zero] at hv848_0
 replace hv848_0 := Option.some.inj (hv848_0.symm.trans hx848_0)
 injection hv848_0 with hva_ hvn_ hvc_
 rw [hva_] at ge848_0
 rw [hvc_] at ul848_0
 have HL848_0 := Aside0.mk (show Kd.V (Kd.int .i64) 3 _ w.heap.size _ _ ((rd_T53 t843 (ji19)).f0) from Kd.V_mk ul848_0 ge848_0)
 clear hva_ hvn_ hvc_ ge848_0 ul848_0
 have hv848_1 := hcc848 1 _ rfl
 rw [add_field _ _ 1 (by omega)] at hv848_1
 replace hv848_1 := Option.some.inj (hv848_1.symm.trans hx848_1)
 injection hv848_1 with hva_ hvn_ hvc_
 rw [hva_] at ge848_1
 rw [hvc_] at ul848_1
 have HL848_1 := Aside0.mk (show Kd.V k100 100 _ w.heap.size _ _ ((rd_T53 t843 (ji19)).f1) from Kd.V_mk ul848_1 ge848_1)
 clear hva_ hvn_ hvc_ ge848_1 ul848_1
 clear hcc848 hce848
 have HR848_0 := Aside0.mk hi848_0
 have HC848_0 := Aside0.mk hl848_0
 clear hi848_0 hl848_0
 have HR848_1 := Aside0.mk hi848_1
 have HC848_1 := Aside0.mk hl848_1
 clear hi848_1 hl848_1
 replace p848 := eq_true p848
 replace q848 := eq_true q848
 have hnb35 := NB838_839.out
 have hnc35 := NB839_838.out
 obtain ⟨hcz36_0, hcz36_1, hcz36_2, hcz36_3, hfz36_0, hfz36_1, hfz36_2, hfz36_3⟩ := cf4_ BK838.out
 have p849 : 0 ≤ ((ji19) : Int) := of_decide_eq_true as_
 have q849 : (ji19) < (t843.length : Int) := of_decide_eq_true as_
 obtain ⟨ad849, A849_0, c849_0, A849_1, c849_1, e849, hx849_0, hx849_1, hx849_2, hx849_3, hl849_0, hi849_0, hl849_1, hi849_1⟩ := at_T53 (Kd.N_reads' HO_847003.out).2.2 (ji19) p849 q849
 obtain rfl : ad848 = ad849 := (by injection e849)
 obtain ⟨ce849, hce849, hMe849, hcc849⟩ := Kd.N_get HO_847003.out z53 (ji19) p849 (by first | exact q849 | exact of_decide_eq_true as_ | (have e_ := (Kd.N_reads' HO_847003.out).1; omega))
 obtain ⟨ua849_0, uc849_0, ua849_1, uc849_1, rfl, ul849_0, ge849_0, ul849_1, ge849_1⟩ := k53_openF hMe849
 have hv849_0 := hcc849 0 _ rfl
 rw [Nat.add_zero] at hv849_0
 replace hv849_0 := Option.some.inj (hv849_0.symm.trans hx849_0)
 injection hv849_0 with hva_ hvn_ hvc_
 rw [hva_] at ge849_0
 rw [hvc_] at ul849_0
 have HL849_0 := Aside0.mk (show Kd.V (Kd.int .i64) 3 _ w.heap.size _ _ ((rd_T53 t843 (ji19)).f0) from Kd.V_mk ul849_0 ge849_0)
 clear hva_ hvn_ hvc_ ge849_0 ul849_0
 have hv849_1 := hcc849 1 _ rfl
 rw [add_field _ _ 1 (by omega)] at hv849_1
 replace hv849_1 := Option.some.inj (hv849_1.symm.trans hx849_1)
 injection hv849_1 with hva_ hvn_ hvc_
 rw [hva_] at ge849_1
 rw [hvc_] at ul849_1
 have HL849_1 := Aside0.mk (show Kd.V k100 100 _ w.heap.size _ _ ((rd_T53 t843 (ji19)).f1) from Kd.V_mk ul849_1 ge849_1)
 clear hva_ hvn_ hvc_ ge849_1 ul849_1
 clear hcc849 hce849
 have HR849_0 := Aside0.mk hi849_0
 have HC849_0 := Aside0.mk hl849_0
 clear hi849_0 hl849_0
 have HR849_1 := Aside0.mk hi849_1
 have HC849_1 := Aside0.mk hl849_1
 clear hi849_1 hl849_1
 replace p849 := eq_true p849
 replace q849 := eq_true q849
 have ea_ := Option.some.inj (hx848_0.symm.trans hx849_0)
 injection ea_ with ea_ en_ ec_
 subst ea_
 subst ec_
 clear en_
 have ea_ := Option.some.inj (hx848_1.symm.trans hx849_1)
 injection ea_ with ea_ en_ ec_
 subst ea_
 subst ec_
 clear en_
 go_wp2_with (fail)
 repeat (go_quiet (fail); try go_wp2_with (first | ((with_reducible refine gate_dst (N := 42) rfl ?_); refine Kd.N_lit k53 _ 53 ?hg (N' := 42) ?hd (xs := ([] : List (S53))) (inner := []) (ok := (fun k_ => (w.heap.size ≤ k_) ∧ some k_ ≠ (.slice (some ad848) t843.length co14 : Value).ownBlock ∧ k_ ≠ gb838 ∧ k_ ≠ gb839 ∧ k_ ≠ gb846)) (okp := (fun k_ => (w.heap.size ≤ k_) ∧ some k_ ≠ (.slice (some ad848) t843.length co14 : Value).ownBlock ∧ k_ ≠ gb838 ∧ k_ ≠ gb839 ∧ k_ ≠ gb846)) ?hr ?hp (fun _ hk => hk) ((show ∀ k_, wr.heap.size ≤ k_ → (fun k_ => (w.heap.size ≤ k_) ∧ some k_ ≠ (.slice (some ad848) t843.length co14 : Value).ownBlock ∧ k_ ≠ gb838 ∧ k_ ≠ gb839 ∧ k_ ≠ gb846) k_ from fun k_ hk => ⟨(Nat.le_trans (below_size bl_) hk), Kd.fresh' (Kd.N_lt (na_ HO_847003.out)) k_ hk, fb_ BK838.out k_ hk, fb_ BK839.out k_ hk, fb_ BK846.out k_ hk⟩) _ (Nat.le_refl _)) (Below.refl _ _) (Nat.le_refl _) (by simp) ?_; (case hd => rfl); (case hg => rfl); (case hr => first | (go_simp; done) | (go_simp; rfl)); (case hp => exact (Reps.none _ _)); intro v851 w37 ho38 hb hg_ hnew_; clear hg_ hnew_; (first | rw [← Ny850.out] at ho38 | (simp only [Int.reduceToNat] at ho38; rw [← Ny850.out] at ho38)); replace HO_847003 := Aside0.mk (Kd.N_elder' (na_ HO_847003.out) (Kd.N_base ho38) hb); replace HL848_0 := Aside0.mk (Kd.V_elder' (by (with_reducible repeat (first | apply Kd.V_alloc | apply Kd.V_drewN | apply Kd.V_drew)); exact HL848_0.out) (Kd.N_base ho38) hb); replace HL848_1 := Aside0.mk (Kd.V_elder' (by (with_reducible repeat (first | apply Kd.V_alloc | apply Kd.V_drewN | apply Kd.V_drew)); exact HL848_1.out) (Kd.N_base ho38) hb); replace HL849_0 := Aside0.mk (Kd.V_elder' (by (with_reducible repeat (first | apply Kd.V_alloc | apply Kd.V_drewN | apply Kd.V_drew)); exact HL849_0.out) (Kd.N_base ho38) hb); replace HL849_1 := Aside0.mk (Kd.V_elder' (by (with_reducible repeat (first | apply Kd.V_alloc | apply Kd.V_drewN | apply Kd.V_drew)); exact HL849_1.out) (Kd.N_base ho38) hb); have HO852 := Aside0.mk (Kd.N_lower ho38 (below_size bl_)); replace BK838 := bb0_ BK838.out hb; replace BK839 := bb0_ BK839.out hb; replace BK846 := bb0_ BK846.out hb; replace HR848_0 := Aside0.mk (Kd.C_below (by repeat (first | (with_reducible exact HR848_0.out) | (with_reducible refine Kd.C_alloc ?_ _) | (with_reducible refine Kd.C_drewN ?_ _) | (with_reducible refine Kd.C_drew ?_) | exact HR848_0.out)) hb); replace HR848_1 := Aside0.mk (Kd.C_below (by repeat (first | (with_reducible exact HR848_1.out) | (with_reducible refine Kd.C_alloc ?_ _) | (with_reducible refine Kd.C_drewN ?_ _) | (with_reducible refine Kd.C_drew ?_) | exact HR848_1.out)) hb); replace HR849_0 := Aside0.mk (Kd.C_below (by repeat (first | (with_reducible exact HR849_0.out) | (with_reducible refine Kd.C_alloc ?_ _) | (with_reducible refine Kd.C_drewN ?_ _) | (with_reducible refine Kd.C_drew ?_) | exact HR849_0.out)) hb); replace HR849_1 := Aside0.mk (Kd.C_below (by repeat (first | (with_reducible exact HR849_1.out) | (with_reducible refine Kd.C_alloc ?_ _) | (with_reducible refine Kd.C_drewN ?_ _) | (with_reducible refine Kd.C_drew ?_) | exact HR849_1.out)) hb); replace HB := Aside0.mk (below_step bl_ hb); clear hb ho38; obtain ⟨hcz39_0, hcz39_1, hcz39_2, hcz39_3, hfz39_0, hfz39_1, hfz39_2, hfz39_3⟩ := cf4_ BK846.out; have q40 : (x4_1 : Int) ≤ ((t843.length : Int) : Int) := of_decide_eq_true as_; obtain ⟨i040, hi040, _, hsz40, _⟩ := info_parts info53; have hroom40 : t843.length ≤ co14 := (Kd.N_reads' HO_847003.out).2.1; have hC40 : Kd.F k53 _ _ (some ad848) t843.length t843 := (Kd.V_at (base := w.heap.size) (Kd.N_V HO_847003.out)).2.2; have hcut40 := cut_to (P := Try.prog) 34 53 .i64 Try.underlying34 hi040 (some ad848) t843.length co14 x4_1 (of_decide_eq_true as_) q40 hroom40; have hr40 := Kd.F_take (m := (x4_1 : Int).toNat) hC40 (by omega); have hy40 : y853.length = (x4_1 : Int).toNat := (by rw [Ny853.out, List.length_take]; omega); rw [← Ny853.out] at hr40; rw [← hy40] at hcut40; have HO857 := Aside0.mk (show Kd.V k53 53 _ w.heap.size _ (.slice (some ad848) y853.length co14) y853 from Kd.V_mk (by omega) hr40); have HC857 := Aside0.mk (show y853.length ≤ co14 from by omega); clear hr40 hC40 hroom40 hi040 hsz40; have KY40 := Aside0.mk hy40; clear hy40; replace q40 := eq_true q40) | ((with_reducible refine gate_builtin (b := .append) (xs := #[.tmp 42, .tmp 46]) rfl ?_); at_builtin; refine Kd.N_append_rows k53 (w0 := w) w.heap.size rfl (.tmp 42) (.tmp 46) 34 53 (.agg #[(.slice none 0 0), (.slice none 0 0), (.int .i64 0), (.int .i64 0)]) 64 rfl Try.underlying34 info53 rfl (by decide) (by omega) v851 y850 y853 _ _ _ (fun k_ => (w.heap.size ≤ k_) ∧ k_ ≠ gb838 ∧ k_ ≠ gb839 ∧ k_ ≠ gb846) (fun k_ => ((fun k_ => (w.heap.size ≤ k_) ∧ k_ ≠ gb838 ∧ k_ ≠ gb839 ∧ k_ ≠ gb846)) k_ ∧ some k_ ≠ (v851 : Value).ownBlock) rfl rfl ?aO ?aR (fun _ hk => hk) ?aF ?aB ?aS ?aL ?_; (case aR => exact (by skip; exact Kd.V_F (Kd.V_mono (ok' := (fun k_ => ((fun k_ => (w.heap.size ≤ k_) ∧ k_ ≠ gb838 ∧ k_ ≠ gb839 ∧ k_ ≠ gb846)) k_ ∧ some k_ ≠ (v851 : Value).ownBlock)) (HO857.out) (fun k_ hk => ⟨⟨hk.1.1, ⟨hk.1.2.1, ⟨hk.1.2.2.1, hk.1.2.2.2⟩⟩⟩, hk.2⟩)))); (case aB => exact bl_); (case aF => exact (fun k_ hk => ⟨(Nat.le_trans (below_size bl_) hk), fb_ BK838.out k_ hk, fb_ BK839.out k_ hk, fb_ BK846.out k_ hk⟩)); (case aO => exact (by (with_reducible repeat (first | apply Kd.N_alloc | apply Kd.N_drewN | apply Kd.N_drew)); exact Kd.N_mono HO852.out (fun _ hk => ⟨hk.1, ⟨hk.2.2.1, ⟨hk.2.2.2.1, hk.2.2.2.2⟩⟩⟩))); (case aS => exact (below_size bl_)); (case aL => have := LMc31.out; omega); intro v859 w41 ho hb hg hat; rw [← Ny858.out] at ho; replace HO_847003 := Aside0.mk (Kd.N_afterv (ok := (fun k_ => (w.heap.size ≤ k_) ∧ k_ ≠ gb838 ∧ k_ ≠ gb839 ∧ k_ ≠ gb846)) (na_ HO_847003.out) hg hat); replace BK838 := Aside0.mk (blk_grown (g := gb838) (o := .cells #[.int .i64 a0_0, .int .i64 a0_1, .int .i64 a0_2, .slice A0_3 l0_3.length c0_3] 36 (0, 0)) (bk_ BK838.out) hg (Kd.N_ne HO852.out BK838.out (by decide))); replace BK839 := Aside0.mk (blk_grown (g := gb839) (o := .cells #[.int .i64 0, .int .i64 0, .int .i64 0, .slice none 0 0] 36 (0, 0)) (bk_ BK839.out) hg (Kd.N_ne HO852.out BK839.out (by decide))); replace BK846 := Aside0.mk (blk_grown (g := gb846) (o := .cells #[.int .i64 t840, .int .i64 t841, .int .i64 t842, .slice (some ad848) t843.length co14] 36 (0, 0)) (bk_ BK846.out) hg (Kd.N_ne HO852.out BK846.out (by decide))); replace HL848_0 := Aside0.mk (Kd.V_afterv (ok := (fun k_ => (w.heap.size ≤ k_) ∧ some k_ ≠ (.slice (some ad848) t843.length co14 : Value).ownBlock ∧ k_ ≠ gb838 ∧ k_ ≠ gb839 ∧ k_ ≠ gb846)) (by (with_reducible repeat (first | apply Kd.V_alloc | apply Kd.V_drewN | apply Kd.V_drew)); exact Kd.V_mono HL848_0.out (fun _ hk => ⟨⟨hk.1.1.1, ⟨hk.1.2, ⟨hk.1.1.2.1, ⟨hk.1.1.2.2.1, hk.1.1.2.2.2⟩⟩⟩⟩, hk.2⟩)) hg hat); replace HL848_1 := Aside0.mk (Kd.V_afterv (ok := (fun k_ => (w.heap.size ≤ k_) ∧ some k_ ≠ (.slice (some ad848) t843.length co14 : Value).ownBlock ∧ k_ ≠ gb838 ∧ k_ ≠ gb839 ∧ k_ ≠ gb846)) (by (with_reducible repeat (first | apply Kd.V_alloc | apply Kd.V_drewN | apply Kd.V_drew)); exact Kd.V_mono HL848_1.out (fun _ hk => ⟨⟨hk.1.1.1, ⟨hk.1.2, ⟨hk.1.1.2.1, ⟨hk.1.1.2.2.1, hk.1.1.2.2.2⟩⟩⟩⟩, hk.2⟩)) hg hat); replace HL849_0 := Aside0.mk (Kd.V_afterv (ok := (fun k_ => (w.heap.size ≤ k_) ∧ some k_ ≠ (.slice (some ad848) t843.length co14 : Value).ownBlock ∧ k_ ≠ gb838 ∧ k_ ≠ gb839 ∧ k_ ≠ gb846)) (by (with_reducible repeat (first | apply Kd.V_alloc | apply Kd.V_drewN | apply Kd.V_drew)); exact Kd.V_mono HL849_0.out (fun _ hk => ⟨⟨hk.1.1.1, ⟨hk.1.2, ⟨hk.1.1.2.1, ⟨hk.1.1.2.2.1, hk.1.1.2.2.2⟩⟩⟩⟩, hk.2⟩)) hg hat); replace HL849_1 := Aside0.mk (Kd.V_afterv (ok := (fun k_ => (w.heap.size ≤ k_) ∧ some k_ ≠ (.slice (some ad848) t843.length co14 : Value).ownBlock ∧ k_ ≠ gb838 ∧ k_ ≠ gb839 ∧ k_ ≠ gb846)) (by (with_reducible repeat (first | apply Kd.V_alloc | apply Kd.V_drewN | apply Kd.V_drew)); exact Kd.V_mono HL849_1.out (fun _ hk => ⟨⟨hk.1.1.1, ⟨hk.1.2, ⟨hk.1.1.2.1, ⟨hk.1.1.2.2.1, hk.1.1.2.2.2⟩⟩⟩⟩, hk.2⟩)) hg hat); replace HO857 := Aside0.mk (Kd.V_afterv (ok := (fun k_ => (w.heap.size ≤ k_) ∧ k_ ≠ gb838 ∧ k_ ≠ gb839 ∧ k_ ≠ gb846)) (by (with_reducible repeat (first | apply Kd.V_alloc | apply Kd.V_drewN | apply Kd.V_drew)); exact HO857.out) hg hat); replace HB := Aside0.mk (hb); have HO860 := Aside0.mk (ho); clear HO852; clear ho hb hg hat; obtain ⟨Ao42, co42, eo42⟩ := Kd.N_slice HO860.out; subst eo42; obtain ⟨hcz43_0, hcz43_1, hcz43_2, hcz43_3, hfz43_0, hfz43_1, hfz43_2, hfz43_3⟩ := cf4_ BK846.out; obtain ⟨hcz44_0, hcz44_1, hcz44_2, hcz44_3, hfz44_0, hfz44_1, hfz44_2, hfz44_3⟩ := cf4_ BK839.out)))
 refine bodyPost_ret (results_cell_row rfl _ _ gb839 36 #[.int .i64 t840, .int .i64 t841, .int .i64 t842, .slice Ao42 y858.length co42] (0, 0) _ rfl (bp1_ BK839.out NB839_846.out) Try.underlying36 rfl (by kernel_rfl)) rfl ?_
 exact ⟨_, by first | rfl | (simp [errW_none, errW_some] <;> rfl) | (simp only [← hji19]; first | rfl | (simp [errW_none, errW_some] <;> rfl)) | (simp [*, errW_none, errW_some] <;> rfl) | exact False.elim (Bool.noConfusion ((decide_eq_true (of_eq_true (by assumption))).symm.trans (by assumption))), by (with_reducible repeat (first | apply Kd.N_alloc | apply Kd.N_drewN | apply Kd.N_drew)); exact Kd.N_mono (Kd.N_far (p := ⟨gb839, 3, none⟩) (Kd.N_far (p := ⟨gb839, 2, none⟩) (Kd.N_far (p := ⟨gb839, 1, none⟩) (Kd.N_far (p := ⟨gb839, 0, none⟩) (Kd.N_far (p := ⟨gb846, 3, none⟩) (Kd.N_mono (Kd.N_mono HO860.out (fun k_ hk => (⟨hk, hk.2.2.2⟩ : _ ∧ k_ ≠ gb846))) (fun k_ hk => (⟨hk, hk.1.2.2.1⟩ : _ ∧ k_ ≠ gb839))) (fun _ hk => hk.1.2) (.slice Ao42 y858.length co42)) (fun _ hk => hk.2) (.int .i64 t840)) (fun _ hk => hk.2) (.int .i64 t841)) (fun _ hk => hk.2) (.int .i64 t842)) (fun _ hk => hk.2) (.slice Ao42 y858.length co42)) (fun _ hk => hk.1.1.1), bl_⟩

end Go.Proofs.Ytjfmpodeenidnaa.PC
