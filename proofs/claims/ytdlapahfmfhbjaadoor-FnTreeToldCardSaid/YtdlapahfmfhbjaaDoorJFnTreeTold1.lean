/- Contracts of functions of the program and of the reference, and plain lemmas on what they compute: a part of the proof of the law FnTreeTold. No condition. -/
import Derived.Test.YtdlapahfmfhbjaaDoorG523dfx0
import Derived.Test.YtdlapahfmfhbjaaDoorG0cadex0
import Derived.Test.YtdlapahfmfhbjaaDoorG523dfx1
import Derived.Test.YtdlapahfmfhbjaaDoorG523dfx2
import Derived.Test.YtdlapahfmfhbjaaDoorShortV
namespace Go.Proofs.YtdlapahfmfhbjaaDoor.PA
open Go.RowKit Go.Proofs.YtdlapahfmfhbjaaDoor.Short Go.Proofs.YtdlapahfmfhbjaaDoorW.PrintWords Go.Proofs.YtdlapahfmfhbjaaDoorW.PrintLast Go.Proofs.YtdlapahfmfhbjaaDoorW.PrintMore
attribute [local go_sem] max2_int min2_int max_two min_two max_three min_three max_four min_four   -- for this text's walks alone
set_option linter.unusedVariables false
set_option linter.unusedSimpArgs false

/-! ### spec_DrawLeafOf: function 7 -/
def spec_DrawLeafOf.f (k : Nat) (l0 : List Int) : Option (Int × Int × Int × Int × Int × Int) := (spec_l27Draw.f k l0).bind fun bt220 => (if (bt220.1.length : Int) = 0 then (some (0, 0, 0, 0, 0, 0)) else (if 0 < (bt220.1.length : Int) then (some ((rd_T27 bt220.1 0).f0, (rd_T27 bt220.1 0).f1, (rd_T27 bt220.1 0).f2.f0, (rd_T27 bt220.1 0).f2.f1, (rd_T27 bt220.1 0).f2.f2, (rd_T27 bt220.1 0).f2.f3)) else (none)))
theorem spec_DrawLeafOf.mono : ∀ a0 k, LeO (spec_DrawLeafOf.f k a0) (spec_DrawLeafOf.f (k + 1) a0) := by
 intro a0 k
 unfold spec_DrawLeafOf.f
 repeat' first
  | (with_reducible exact spec_l27Draw.mono _ _)
  | (with_reducible exact LeO.refl _)
  | (with_reducible exact LeO.none _)
  | (with_reducible refine LeO.ite ?_ ?_)
  | (with_reducible refine LeO.bind ?_ (fun _ => ?_))
  | exact spec_l27Draw.mono _ _
  | exact LeO.none _
  | refine LeO.ite ?_ ?_
  | refine LeO.bind ?_ (fun _ => ?_)
set_option maxHeartbeats 8000000 in
set_option maxRecDepth 100000 in
theorem spec_DrawLeafOf.calls (k : Nat) (A0 : Option Addr) (c0 : Nat) (l0 : List Int) (r1 : Int) (r2 : Int) (r3 : Int) (r4 : Int) (r5 : Int) (r6 : Int) (w : World) (hr0 : Kd.C (Kd.int .u8) w A0 l0.length l0) (hc0 : l0.length ≤ c0) (h : spec_DrawLeafOf.f k l0 = some (r1, r2, r3, r4, r5, r6)) :
 Calls Tryd.prog 7 #[.slice A0 l0.length c0] w fun e w' => e = .returned (.agg #[.int .i64 r1, .int .i64 r2, .int .i64 r3, .int .i64 r4, .int .i64 r5, .int .i64 r6]) ∧ Below w.heap.size w w' := by
 have hu27 := Tryd.underlying27
 have HR0 := Aside0.mk hr0
 have HC0 := Aside0.mk hc0
 clear hr0 hc0
 have HB := Aside0.mk (Below.refl w.heap.size w)
 have H : ((spec_l27Draw.f k l0).bind fun bt220 => (if (bt220.1.length : Int) = 0 then (some (0, 0, 0, 0, 0, 0)) else (if 0 < (bt220.1.length : Int) then (some ((rd_T27 bt220.1 0).f0, (rd_T27 bt220.1 0).f1, (rd_T27 bt220.1 0).f2.f0, (rd_T27 bt220.1 0).f2.f1, (rd_T27 bt220.1 0).f2.f2, (rd_T27 bt220.1 0).f2.f3)) else (none)))) = some (r1, r2, r3, r4, r5, r6) := h
 clear h
 replace H := Option.bind_eq_some_iff.mp H
 obtain ⟨⟨t220, t221⟩, A20, H⟩ := H
 try dsimp only at H
 have A2 := Aside0.mk A20
 clear A20
 by_cases c3 : (t220.length : Int) = 0
 ·rw [if_pos c3] at H
  have c3b0 : ((t220.length : Int) == 0) = true := beq_iff_eq.mpr c3
  have c3b1 : ((t220.length : Int) != 0) = false := bne_eq_false_iff_eq.mpr c3
  clear c3
  simp only [Option.some.injEq, Prod.mk.injEq] at H
  obtain ⟨rfl, rfl, rfl, rfl, rfl, rfl⟩ := H
  go_enter Tryd.func7, Tryd.ntmps7
  go_wp2_with (first | ((with_reducible refine gate_dst (N := 2) rfl ?_); refine box_event ?hg (N := 2) ?hd (cs := #[.int .i64 0, .int .i64 0, .int .i64 0, .int .i64 0, .int .i64 0, .int .i64 0]) (t := 27) ?hr ?_; (case hd => rfl); (case hg => rfl); (case hr => first | (go_simp; done) | (go_simp; rfl)); intro gb219 hg w4 hbox hb; have n0_ := Aside0.mk (below_step bl_ hb); have n1_ := Aside0.mk (hbox); have n2_ := Aside0.mk ((hz_ : w.heap.size ≤ gb219)); have n3_ := Aside0.mk ((hz_ : w.heap.size ≤ gb219)); clear HB; have HB := n0_; have BK219 := n1_; have GW219 := n2_; have GE219 := n3_; clear n0_ n1_ n2_ n3_; clear hb hbox hg) | ((with_reducible refine gate_callee (f := 57) rfl ?_); refine goesL_ (some 7) rfl rfl Tryd.func57 (by kernel_rfl) rfl #[.slice A0 l0.length c0] rfl lm_ ?_; (with_reducible refine (spec_l27Draw.calls k _ _ l0 t220 t221 _ ?side1 ?side2 A2.out).mono ?_); (case side1 => repeat (first | exact (Kd.C_below HR0.out HB.out) | exact HR0.out | (with_reducible refine Kd.C_alloc ?_ _) | (with_reducible refine Kd.C_drewN ?_ _) | (with_reducible refine Kd.C_drew ?_))); (case side2 => exact HC0.out); rintro e w5 ⟨v222, rfl, ho0, hb⟩; refine ⟨_, rfl, ?_⟩; have n0_ := Aside0.mk (Kd.R_lower (Kd.R_newB ho0 (g := gb219) (o := .cells #[.int .i64 0, .int .i64 0, .int .i64 0, .int .i64 0, .int .i64 0, .int .i64 0] 27 (0, 0)) (bk_ BK219.out)) (below_size bl_)); have n1_ := Aside0.mk (blk_below (g := gb219) (o := .cells #[.int .i64 0, .int .i64 0, .int .i64 0, .int .i64 0, .int .i64 0, .int .i64 0] 27 (0, 0)) (bk_ BK219.out) hb); have n2_ := Aside0.mk (below_step bl_ hb); clear BK219; clear HB; have HO223 := n0_; have BK219 := n1_; have HB := n2_; clear n0_ n1_ n2_; (try clear hb); (try clear hb2); (try clear hk); (try clear hi); (try clear ho0); obtain ⟨Ao6, co6, eo6⟩ := Kd.R_slice HO223.out; subst eo6; have hcz7_0 : w5.cell? ⟨gb219, 0, none⟩ = some (.int .i64 0) := (blk_cell BK219.out 0).trans rfl; have hcz7_1 : w5.cell? ⟨gb219, 1, none⟩ = some (.int .i64 0) := (blk_cell BK219.out 1).trans rfl; have hcz7_2 : w5.cell? ⟨gb219, 2, none⟩ = some (.int .i64 0) := (blk_cell BK219.out 2).trans rfl; have hcz7_3 : w5.cell? ⟨gb219, 3, none⟩ = some (.int .i64 0) := (blk_cell BK219.out 3).trans rfl; have hcz7_4 : w5.cell? ⟨gb219, 4, none⟩ = some (.int .i64 0) := (blk_cell BK219.out 4).trans rfl; have hcz7_5 : w5.cell? ⟨gb219, 5, none⟩ = some (.int .i64 0) := (blk_cell BK219.out 5).trans rfl; have hfz7_0 := blk_frozen BK219.out 0; have hfz7_1 := blk_frozen BK219.out 1; have hfz7_2 := blk_frozen BK219.out 2; have hfz7_3 := blk_frozen BK219.out 3; have hfz7_4 := blk_frozen BK219.out 4; have hfz7_5 := blk_frozen BK219.out 5))
  refine bodyPost_ret (results_cell_row rfl _ _ gb219 27 #[.int .i64 0, .int .i64 0, .int .i64 0, .int .i64 0, .int .i64 0, .int .i64 0] (0, 0) _ rfl (by (with_reducible repeat (first | refine blk_drewN ?_ _ | refine blk_drew ?_ | refine blk_alloc ?_ _)); refine blk_put (cs := #[.int .i64 0, .int .i64 0, .int .i64 0, .int .i64 0, .int .i64 0, .int .i64 0]) ?_ 5 _ rfl; (with_reducible repeat (first | refine blk_drewN ?_ _ | refine blk_drew ?_ | refine blk_alloc ?_ _)); refine blk_put (cs := #[.int .i64 0, .int .i64 0, .int .i64 0, .int .i64 0, .int .i64 0, .int .i64 0]) ?_ 4 _ rfl; (with_reducible repeat (first | refine blk_drewN ?_ _ | refine blk_drew ?_ | refine blk_alloc ?_ _)); refine blk_put (cs := #[.int .i64 0, .int .i64 0, .int .i64 0, .int .i64 0, .int .i64 0, .int .i64 0]) ?_ 3 _ rfl; (with_reducible repeat (first | refine blk_drewN ?_ _ | refine blk_drew ?_ | refine blk_alloc ?_ _)); refine blk_put (cs := #[.int .i64 0, .int .i64 0, .int .i64 0, .int .i64 0, .int .i64 0, .int .i64 0]) ?_ 2 _ rfl; (with_reducible repeat (first | refine blk_drewN ?_ _ | refine blk_drew ?_ | refine blk_alloc ?_ _)); refine blk_put (cs := #[.int .i64 0, .int .i64 0, .int .i64 0, .int .i64 0, .int .i64 0, .int .i64 0]) ?_ 1 _ rfl; (with_reducible repeat (first | refine blk_drewN ?_ _ | refine blk_drew ?_ | refine blk_alloc ?_ _)); refine blk_put (cs := #[.int .i64 0, .int .i64 0, .int .i64 0, .int .i64 0, .int .i64 0, .int .i64 0]) ?_ 0 _ rfl; (with_reducible repeat (first | refine blk_drewN ?_ _ | refine blk_drew ?_ | refine blk_alloc ?_ _)); exact BK219.out) Tryd.underlying27 rfl (by kernel_rfl)) rfl ?_
  exact ⟨by first | rfl | (simp [errW_none, errW_some] <;> rfl) | (simp [*, errW_none, errW_some] <;> rfl) | exact False.elim (Bool.noConfusion ((decide_eq_true (of_eq_true (by assumption))).symm.trans (by assumption))), bl_⟩
 ·rw [if_neg c3] at H
  have c3b0 : ((t220.length : Int) == 0) = false := beq_eq_false_iff_ne.mpr c3
  have c3b1 : ((t220.length : Int) != 0) = true := bne_iff_ne.mpr c3
  have c3b2 : ¬ (t220 = []) := fun h_ => c3 (by rw [h_]; rfl)
  by_cases c8 : 0 < (t220.length : Int)
  ·rw [if_pos c8] at H
   have c8b0 : decide (0 < (t220.length : Int)) = true := decide_eq_true c8
   have c8b1 : decide (0 < t220.length) = true := decide_eq_true (by omega)
   clear c8
   simp only [Option.some.injEq, Prod.mk.injEq] at H
   obtain ⟨rfl, rfl, rfl, rfl, rfl, rfl⟩ := H
   go_enter Tryd.func7, Tryd.ntmps7
   go_wp2_with (first | ((with_reducible refine gate_dst (N := 2) rfl ?_); refine box_event ?hg (N := 2) ?hd (cs := #[.int .i64 0, .int .i64 0, .int .i64 0, .int .i64 0, .int .i64 0, .int .i64 0]) (t := 27) ?hr ?_; (case hd => rfl); (case hg => rfl); (case hr => first | (go_simp; done) | (go_simp; rfl)); intro gb219 hg w9 hbox hb; have n0_ := Aside0.mk (below_step bl_ hb); have n1_ := Aside0.mk (hbox); have n2_ := Aside0.mk ((hz_ : w.heap.size ≤ gb219)); have n3_ := Aside0.mk ((hz_ : w.heap.size ≤ gb219)); clear HB; have HB := n0_; have BK219 := n1_; have GW219 := n2_; have GE219 := n3_; clear n0_ n1_ n2_ n3_; clear hb hbox hg) | ((with_reducible refine gate_callee (f := 57) rfl ?_); refine goesL_ (some 7) rfl rfl Tryd.func57 (by kernel_rfl) rfl #[.slice A0 l0.length c0] rfl lm_ ?_; (with_reducible refine (spec_l27Draw.calls k _ _ l0 t220 t221 _ ?side1 ?side2 A2.out).mono ?_); (case side1 => repeat (first | exact (Kd.C_below HR0.out HB.out) | exact HR0.out | (with_reducible refine Kd.C_alloc ?_ _) | (with_reducible refine Kd.C_drewN ?_ _) | (with_reducible refine Kd.C_drew ?_))); (case side2 => exact HC0.out); rintro e w10 ⟨v222, rfl, ho0, hb⟩; refine ⟨_, rfl, ?_⟩; have n0_ := Aside0.mk (Kd.R_lower (Kd.R_newB ho0 (g := gb219) (o := .cells #[.int .i64 0, .int .i64 0, .int .i64 0, .int .i64 0, .int .i64 0, .int .i64 0] 27 (0, 0)) (bk_ BK219.out)) (below_size bl_)); have n1_ := Aside0.mk (blk_below (g := gb219) (o := .cells #[.int .i64 0, .int .i64 0, .int .i64 0, .int .i64 0, .int .i64 0, .int .i64 0] 27 (0, 0)) (bk_ BK219.out) hb); have n2_ := Aside0.mk (below_step bl_ hb); clear BK219; clear HB; have HO223 := n0_; have BK219 := n1_; have HB := n2_; clear n0_ n1_ n2_; (try clear hb); (try clear hb2); (try clear hk); (try clear hi); (try clear ho0); obtain ⟨Ao11, co11, eo11⟩ := Kd.R_slice HO223.out; subst eo11; have p224 : 0 ≤ (0 : Int) := (by omega); have q224 : 0 < (t220.length : Int) := of_decide_eq_true as_; obtain ⟨ad224, e224, hx224_0, hx224_1, hx224_2, hx224_3, hx224_4, hx224_5⟩ := at_T27 (Kd.R_reads' HO223.out).2.2 0 p224 q224; cases e224; have qi224 : (0 < t220.length) = True := eq_true (by omega); (try rw [show ((0 : Int)).toNat = 0 from rfl] at hx224_0); (try rw [show 0 * 6 = 0 from rfl] at hx224_0); (try rw [Addr.add_zero'] at hx224_0); (try rw [show ((0 : Int)).toNat = 0 from rfl] at hx224_1); (try rw [show 0 * 6 = 0 from rfl] at hx224_1); (try rw [Addr.add_zero'] at hx224_1); (try rw [show ((0 : Int)).toNat = 0 from rfl] at hx224_2); (try rw [show 0 * 6 = 0 from rfl] at hx224_2); (try rw [Addr.add_zero'] at hx224_2); (try rw [show ((0 : Int)).toNat = 0 from rfl] at hx224_3); (try rw [show 0 * 6 = 0 from rfl] at hx224_3); (try rw [Addr.add_zero'] at hx224_3); (try rw [show ((0 : Int)).toNat = 0 from rfl] at hx224_4); (try rw [show 0 * 6 = 0 from rfl] at hx224_4); (try rw [Addr.add_zero'] at hx224_4); (try rw [show ((0 : Int)).toNat = 0 from rfl] at hx224_5); (try rw [show 0 * 6 = 0 from rfl] at hx224_5); (try rw [Addr.add_zero'] at hx224_5); replace p224 := eq_true p224; replace q224 := eq_true q224; have hcz12_0 : w10.cell? ⟨gb219, 0, none⟩ = some (.int .i64 0) := (blk_cell BK219.out 0).trans rfl; have hcz12_1 : w10.cell? ⟨gb219, 1, none⟩ = some (.int .i64 0) := (blk_cell BK219.out 1).trans rfl; have hcz12_2 : w10.cell? ⟨gb219, 2, none⟩ = some (.int .i64 0) := (blk_cell BK219.out 2).trans rfl; have hcz12_3 : w10.cell? ⟨gb219, 3, none⟩ = some (.int .i64 0) := (blk_cell BK219.out 3).trans rfl; have hcz12_4 : w10.cell? ⟨gb219, 4, none⟩ = some (.int .i64 0) := (blk_cell BK219.out 4).trans rfl; have hcz12_5 : w10.cell? ⟨gb219, 5, none⟩ = some (.int .i64 0) := (blk_cell BK219.out 5).trans rfl; have hfz12_0 := blk_frozen BK219.out 0; have hfz12_1 := blk_frozen BK219.out 1; have hfz12_2 := blk_frozen BK219.out 2; have hfz12_3 := blk_frozen BK219.out 3; have hfz12_4 := blk_frozen BK219.out 4; have hfz12_5 := blk_frozen BK219.out 5))
   refine bodyPost_ret (results_cell_row rfl _ _ gb219 27 #[.int .i64 ((rd_T27 t220 0).f0), .int .i64 ((rd_T27 t220 0).f1), .int .i64 ((rd_T27 t220 0).f2.f0), .int .i64 ((rd_T27 t220 0).f2.f1), .int .i64 ((rd_T27 t220 0).f2.f2), .int .i64 ((rd_T27 t220 0).f2.f3)] (0, 0) _ rfl (by (with_reducible repeat (first | refine blk_drewN ?_ _ | refine blk_drew ?_ | refine blk_alloc ?_ _)); refine blk_put (cs := #[.int .i64 ((rd_T27 t220 0).f0), .int .i64 ((rd_T27 t220 0).f1), .int .i64 ((rd_T27 t220 0).f2.f0), .int .i64 ((rd_T27 t220 0).f2.f1), .int .i64 ((rd_T27 t220 0).f2.f2), .int .i64 0]) ?_ 5 _ rfl; (with_reducible repeat (first | refine blk_drewN ?_ _ | refine blk_drew ?_ | refine blk_alloc ?_ _)); refine blk_put (cs := #[.int .i64 ((rd_T27 t220 0).f0), .int .i64 ((rd_T27 t220 0).f1), .int .i64 ((rd_T27 t220 0).f2.f0), .int .i64 ((rd_T27 t220 0).f2.f1), .int .i64 0, .int .i64 0]) ?_ 4 _ rfl; (with_reducible repeat (first | refine blk_drewN ?_ _ | refine blk_drew ?_ | refine blk_alloc ?_ _)); refine blk_put (cs := #[.int .i64 ((rd_T27 t220 0).f0), .int .i64 ((rd_T27 t220 0).f1), .int .i64 ((rd_T27 t220 0).f2.f0), .int .i64 0, .int .i64 0, .int .i64 0]) ?_ 3 _ rfl; (with_reducible repeat (first | refine blk_drewN ?_ _ | refine blk_drew ?_ | refine blk_alloc ?_ _)); refine blk_put (cs := #[.int .i64 ((rd_T27 t220 0).f0), .int .i64 ((rd_T27 t220 0).f1), .int .i64 0, .int .i64 0, .int .i64 0, .int .i64 0]) ?_ 2 _ rfl; (with_reducible repeat (first | refine blk_drewN ?_ _ | refine blk_drew ?_ | refine blk_alloc ?_ _)); refine blk_put (cs := #[.int .i64 ((rd_T27 t220 0).f0), .int .i64 0, .int .i64 0, .int .i64 0, .int .i64 0, .int .i64 0]) ?_ 1 _ rfl; (with_reducible repeat (first | refine blk_drewN ?_ _ | refine blk_drew ?_ | refine blk_alloc ?_ _)); refine blk_put (cs := #[.int .i64 0, .int .i64 0, .int .i64 0, .int .i64 0, .int .i64 0, .int .i64 0]) ?_ 0 _ rfl; (with_reducible repeat (first | refine blk_drewN ?_ _ | refine blk_drew ?_ | refine blk_alloc ?_ _)); exact BK219.out) Tryd.underlying27 rfl (by kernel_rfl)) rfl ?_
   exact ⟨by first | rfl | (simp [errW_none, errW_some] <;> rfl) | (simp [*, errW_none, errW_some] <;> rfl) | exact False.elim (Bool.noConfusion ((decide_eq_true (of_eq_true (by assumption))).symm.trans (by assumption))), bl_⟩
  ·rw [if_neg c8] at H
   exact absurd H (by simp)


/-! ### spec_DrawNodeOf: function 8 -/
def spec_DrawNodeOf.f (k : Nat) (l0 : List Int) : Option (ByteArray × ByteArray) := (spec_l01New.f k l0).bind fun bt229 => ((spec_l01Pick.f bt229.1 bt229.2.1 bt229.2.2 (([(⟨#[]⟩ : ByteArray), (⟨#[97]⟩ : ByteArray), (⟨#[115, 111, 109, 101, 32, 116, 101, 120, 116]⟩ : ByteArray)] : List ByteArray))).bind fun bt236 => ((spec_l01Pick.f bt229.1 bt236.2.1 bt236.2.2 (([(⟨#[]⟩ : ByteArray), (⟨#[98]⟩ : ByteArray)] : List ByteArray))).bind fun bt242 => (some (bt236.1, bt242.1))))
theorem spec_DrawNodeOf.mono : ∀ a0 k, LeO (spec_DrawNodeOf.f k a0) (spec_DrawNodeOf.f (k + 1) a0) := by
 intro a0 k
 unfold spec_DrawNodeOf.f
 repeat' first
  | (with_reducible exact spec_l01New.mono _ _)
  | (with_reducible exact LeO.refl _)
  | (with_reducible exact LeO.none _)
  | (with_reducible refine LeO.ite ?_ ?_)
  | (with_reducible refine LeO.bind ?_ (fun _ => ?_))
  | exact spec_l01New.mono _ _
  | exact LeO.none _
  | refine LeO.ite ?_ ?_
  | refine LeO.bind ?_ (fun _ => ?_)
set_option maxHeartbeats 8000000 in
set_option maxRecDepth 100000 in
theorem spec_DrawNodeOf.calls (k : Nat) (A0 : Option Addr) (c0 : Nat) (l0 : List Int) (r1 : ByteArray) (r2 : ByteArray) (w : World) (hr0 : Kd.C (Kd.int .u8) w A0 l0.length l0) (hc0 : l0.length ≤ c0) (h : spec_DrawNodeOf.f k l0 = some (r1, r2)) :
 Calls Tryd.prog 8 #[.slice A0 l0.length c0] w fun e w' => e = .returned (.tuple #[.string r1, .string r2]) ∧ Below w.heap.size w w' := by
 have HR0 := Aside0.mk hr0
 have HC0 := Aside0.mk hc0
 clear hr0 hc0
 have HB := Aside0.mk (Below.refl w.heap.size w)
 have H : ((spec_l01New.f k l0).bind fun bt229 => ((spec_l01Pick.f bt229.1 bt229.2.1 bt229.2.2 (([(⟨#[]⟩ : ByteArray), (⟨#[97]⟩ : ByteArray), (⟨#[115, 111, 109, 101, 32, 116, 101, 120, 116]⟩ : ByteArray)] : List ByteArray))).bind fun bt236 => ((spec_l01Pick.f bt229.1 bt236.2.1 bt236.2.2 (([(⟨#[]⟩ : ByteArray), (⟨#[98]⟩ : ByteArray)] : List ByteArray))).bind fun bt242 => (some (bt236.1, bt242.1))))) = some (r1, r2) := h
 clear h
 replace H := Option.bind_eq_some_iff.mp H
 obtain ⟨⟨t229, t230, t231⟩, A20, H⟩ := H
 try dsimp only at H
 have A2 := Aside0.mk A20
 clear A20
 obtain ⟨y233, hy233⟩ : ∃ y_ : List ByteArray, y_ = (([(⟨#[]⟩ : ByteArray), (⟨#[97]⟩ : ByteArray), (⟨#[115, 111, 109, 101, 32, 116, 101, 120, 116]⟩ : ByteArray)] : List ByteArray)) := ⟨_, rfl⟩
 replace H : ((spec_l01Pick.f t229 t230 t231 y233).bind fun bt236 => ((spec_l01Pick.f t229 bt236.2.1 bt236.2.2 (([(⟨#[]⟩ : ByteArray), (⟨#[98]⟩ : ByteArray)] : List ByteArray))).bind fun bt242 => (some (bt236.1, bt242.1)))) = some (r1, r2) := by first | (rw [hy233]; with_reducible exact H) | (have H2_ := (Option.bind_some _ _).symm.trans H; rw [hy233]; with_reducible exact H2_) | (have H2_ := (Option.bind_some _ _).symm.trans H; with_reducible exact H2_) | with_reducible exact H | (rw [hy233]; exact H) | exact H
 have Ny233 := Aside0.mk hy233
 clear hy233
 replace H := Option.bind_eq_some_iff.mp H
 obtain ⟨⟨t236, t237, t238⟩, A30, H⟩ := H
 try dsimp only at H
 have A3 := Aside0.mk A30
 clear A30
 obtain ⟨y239, hy239⟩ : ∃ y_ : List ByteArray, y_ = (([(⟨#[]⟩ : ByteArray), (⟨#[98]⟩ : ByteArray)] : List ByteArray)) := ⟨_, rfl⟩
 replace H : ((spec_l01Pick.f t229 t237 t238 y239).bind fun bt242 => (some (t236, bt242.1))) = some (r1, r2) := by first | (rw [hy239]; with_reducible exact H) | (have H2_ := (Option.bind_some _ _).symm.trans H; rw [hy239]; with_reducible exact H2_) | (have H2_ := (Option.bind_some _ _).symm.trans H; with_reducible exact H2_) | with_reducible exact H | (rw [hy239]; exact H) | exact H
 have Ny239 := Aside0.mk hy239
 clear hy239
 replace H := Option.bind_eq_some_iff.mp H
 obtain ⟨⟨t242, t243, t244⟩, A40, H⟩ := H
 try dsimp only at H
 have A4 := Aside0.mk A40
 clear A40
 simp only [Option.some.injEq, Prod.mk.injEq] at H
 obtain ⟨rfl, rfl⟩ := H
 go_enter Tryd.func8, Tryd.ntmps8
 go_wp2_with (first | ((with_reducible refine gate_callee (f := 58) rfl ?_); refine goesL_ (some 6) rfl rfl Tryd.func58 (by kernel_rfl) rfl #[.slice A0 l0.length c0] rfl lm_ ?_; (with_reducible refine (spec_l01New.calls k _ _ l0 t229 t230 t231 w _ ?side1 ?side2 ?side3 A2.out).mono ?_); (case side1 => repeat (first | (with_reducible first | exact HB.out | apply below_alloc | apply pw_below_drewN | apply below_drew1) | exact HB.out)); (case side2 => exact HR0.out); (case side3 => exact HC0.out); rintro e w5 ⟨g232, rfl, hi, hb, hb2⟩; refine ⟨_, rfl, ?_⟩; have n0_ := Aside0.mk (hb); have n1_ := Aside0.mk (hi); clear HB; have HB := n0_; have HI232 := n1_; clear n0_ n1_; (try clear hb); (try clear hb2); (try clear hk); (try clear hi)) | ((with_reducible refine gate_dst (N := 8) rfl ?_); refine Kd.R_lit Kd.string _ 9 ?hg (N := 8) ?hd (xs := ([(⟨#[]⟩ : ByteArray), (⟨#[97]⟩ : ByteArray), (⟨#[115, 111, 109, 101, 32, 116, 101, 120, 116]⟩ : ByteArray)] : List ByteArray)) (inner := [.string (⟨#[]⟩ : ByteArray), .string (⟨#[97]⟩ : ByteArray), .string (⟨#[115, 111, 109, 101, 32, 116, 101, 120, 116]⟩ : ByteArray)]) (ok := fun _ => True) (okp := fun _ => True) ?hr ?hp (fun _ hk => hk) trivial (Below.refl _ _) (Nat.le_refl _) (by simp) ?_; (case hd => rfl); (case hg => rfl); (case hr => first | (go_simp; done) | (go_simp; rfl)); (case hp => exact (Reps.one (show Kd.M Kd.string _ _ _ (⟨#[]⟩ : ByteArray) [.string (⟨#[]⟩ : ByteArray)] from rfl) (Reps.one (show Kd.M Kd.string _ _ _ (⟨#[97]⟩ : ByteArray) [.string (⟨#[97]⟩ : ByteArray)] from rfl) (Reps.one (show Kd.M Kd.string _ _ _ (⟨#[115, 111, 109, 101, 32, 116, 101, 120, 116]⟩ : ByteArray) [.string (⟨#[115, 111, 109, 101, 32, 116, 101, 120, 116]⟩ : ByteArray)] from rfl) (Reps.none _ _))))); intro v234 w6 ho7 hb hg_ hnew_; clear hg_ hnew_; (first | rw [← Ny233.out] at ho7 | (simp only [Int.reduceToNat] at ho7; rw [← Ny233.out] at ho7)); have n0_ := Aside0.mk (Kd.R_lower ho7 (below_size bi5_)); have n1_ := Aside0.mk (IsS100.below is5_ hb); have n2_ := Aside0.mk (below_step bi5_ hb); clear HI232; clear HB; have HO235 := n0_; have HI232 := n1_; have HB := n2_; clear n0_ n1_ n2_; clear hb ho7; obtain ⟨Ao8, co8, eo8⟩ := Kd.R_slice HO235.out; subst eo8) | ((with_reducible refine gate_callee (f := 59) rfl ?_); refine goesL_ (some 9) rfl rfl Tryd.func59 (by kernel_rfl) rfl #[.pointer (some ⟨g232, 0, none⟩), .slice Ao8 y233.length co8] rfl lm_ ?_; (with_reducible refine (spec_l01Pick.calls g232 t229 t230 t231 _ _ y233 t236 t237 t238 w _ ?side1 ?side2 ?side3 ?side4 ?side5 A3.out).mono ?_); (case side1 => exact is5_); (case side2 => exact bi5_); (case side3 => repeat (first | exact (Kd.R_reads' HO235.out).2.2 | (with_reducible refine Kd.C_alloc ?_ _) | (with_reducible refine Kd.C_drewN ?_ _) | (with_reducible refine Kd.C_drew ?_))); (case side4 => exact (Kd.R_reads' HO235.out).2.1); (case side5 => exact far_slice (IsS100.own_ne HI232.out HO235.out (by decide))); rintro e w9 ⟨rfl, hi, hb, hk⟩; refine ⟨_, rfl, ?_⟩; have n0_ := Aside0.mk (Kd.R_mono (Kd.R_keep (IsS100.apart (show IsS100 w _ g232 t229 t230 t231 from is5_) (ra_ HO235.out) (by decide)) hk (fun _ h => h.2)) (fun _ h => h.1)); have n1_ := Aside0.mk (hb); have n2_ := Aside0.mk (hi); clear HO235; clear HB; clear HI232; have HO235 := n0_; have HB := n1_; have HI232 := n2_; clear n0_ n1_ n2_; (try clear hb); (try clear hb2); (try clear hk); (try clear hi)) | ((with_reducible refine gate_dst (N := 11) rfl ?_); refine Kd.R_lit Kd.string _ 9 ?hg (N := 11) ?hd (xs := ([(⟨#[]⟩ : ByteArray), (⟨#[98]⟩ : ByteArray)] : List ByteArray)) (inner := [.string (⟨#[]⟩ : ByteArray), .string (⟨#[98]⟩ : ByteArray)]) (ok := fun _ => True) (okp := fun _ => True) ?hr ?hp (fun _ hk => hk) trivial (Below.refl _ _) (Nat.le_refl _) (by simp) ?_; (case hd => rfl); (case hg => rfl); (case hr => first | (go_simp; done) | (go_simp; rfl)); (case hp => exact (Reps.one (show Kd.M Kd.string _ _ _ (⟨#[]⟩ : ByteArray) [.string (⟨#[]⟩ : ByteArray)] from rfl) (Reps.one (show Kd.M Kd.string _ _ _ (⟨#[98]⟩ : ByteArray) [.string (⟨#[98]⟩ : ByteArray)] from rfl) (Reps.none _ _)))); intro v240 w10 ho11 hb hg_ hnew_; clear hg_ hnew_; (first | rw [← Ny239.out] at ho11 | (simp only [Int.reduceToNat] at ho11; rw [← Ny239.out] at ho11)); have n0_ := Aside0.mk (Kd.R_elder' (ra_ HO235.out) (Kd.R_base ho11) hb); have n1_ := Aside0.mk (Kd.R_lower (Kd.R_new' ho11 (Kd.R_lt (ra_ HO235.out))) (below_size bi5_)); have n2_ := Aside0.mk (IsS100.below is5_ hb); have n3_ := Aside0.mk (below_step bi5_ hb); clear HO235; clear HI232; clear HB; have HO235 := n0_; have HO241 := n1_; have HI232 := n2_; have HB := n3_; clear n0_ n1_ n2_ n3_; clear hb ho11; obtain ⟨Ao12, co12, eo12⟩ := Kd.R_slice HO241.out; subst eo12) | ((with_reducible refine gate_callee (f := 59) rfl ?_); refine goesL_ (some 12) rfl rfl Tryd.func59 (by kernel_rfl) rfl #[.pointer (some ⟨g232, 0, none⟩), .slice Ao12 y239.length co12] rfl lm_ ?_; (with_reducible refine (spec_l01Pick.calls g232 t229 t237 t238 _ _ y239 t242 t243 t244 w _ ?side1 ?side2 ?side3 ?side4 ?side5 A4.out).mono ?_); (case side1 => exact is5_); (case side2 => exact bi5_); (case side3 => repeat (first | exact (Kd.R_reads' HO241.out).2.2 | (with_reducible refine Kd.C_alloc ?_ _) | (with_reducible refine Kd.C_drewN ?_ _) | (with_reducible refine Kd.C_drew ?_))); (case side4 => exact (Kd.R_reads' HO241.out).2.1); (case side5 => exact far_slice (IsS100.own_ne HI232.out HO241.out (by decide))); rintro e w13 ⟨rfl, hi, hb, hk⟩; refine ⟨_, rfl, ?_⟩; have n0_ := Aside0.mk (Kd.R_mono (Kd.R_keep (IsS100.apart (show IsS100 w _ g232 t229 t237 t238 from is5_) (ra_ HO235.out) (by decide)) hk (fun _ h => h.2)) (fun _ h => h.1)); have n1_ := Aside0.mk (Kd.R_mono (Kd.R_keep (IsS100.apart (show IsS100 w _ g232 t229 t237 t238 from is5_) (ra_ HO241.out) (by decide)) hk (fun _ h => h.2)) (fun _ h => h.1)); have n2_ := Aside0.mk (hb); have n3_ := Aside0.mk (hi); clear HO235; clear HO241; clear HB; clear HI232; have HO235 := n0_; have HO241 := n1_; have HB := n2_; have HI232 := n3_; clear n0_ n1_ n2_ n3_; (try clear hb); (try clear hb2); (try clear hk); (try clear hi)))
 go_ret2
 exact ⟨by first | rfl | (simp [errW_none, errW_some] <;> rfl) | (simp [*, errW_none, errW_some] <;> rfl) | exact False.elim (Bool.noConfusion ((decide_eq_true (of_eq_true (by assumption))).symm.trans (by assumption))), bi5_⟩


/-! ### spec_DrawPathOf: function 9 -/
def spec_DrawPathOf.f (k : Nat) (l0 : List Int) : Option ((List (S27)) × Int) := (spec_l27Draw.f k l0).bind fun bt245 => (some (bt245.1, bt245.2))
theorem spec_DrawPathOf.mono : ∀ a0 k, LeO (spec_DrawPathOf.f k a0) (spec_DrawPathOf.f (k + 1) a0) := by
 intro a0 k
 unfold spec_DrawPathOf.f
 repeat' first
  | (with_reducible exact spec_l27Draw.mono _ _)
  | (with_reducible exact LeO.refl _)
  | (with_reducible exact LeO.none _)
  | (with_reducible refine LeO.ite ?_ ?_)
  | (with_reducible refine LeO.bind ?_ (fun _ => ?_))
  | exact spec_l27Draw.mono _ _
  | exact LeO.none _
  | refine LeO.ite ?_ ?_
  | refine LeO.bind ?_ (fun _ => ?_)
set_option maxHeartbeats 8000000 in
set_option maxRecDepth 100000 in
theorem spec_DrawPathOf.calls (k : Nat) (A0 : Option Addr) (c0 : Nat) (l0 : List Int) (r1 : List (S27)) (r2 : Int) (w : World) (hr0 : Kd.C (Kd.int .u8) w A0 l0.length l0) (hc0 : l0.length ≤ c0) (h : spec_DrawPathOf.f k l0 = some (r1, r2)) :
 Calls Tryd.prog 9 #[.slice A0 l0.length c0] w fun e w' => ∃ v0_ : Value, e = .returned (.tuple #[v0_, .int .i64 r2]) ∧ Kd.R k27 27 w' w.heap.size (fun _ => True) v0_ r1 ∧ Below w.heap.size w w' := by
 have HR0 := Aside0.mk hr0
 have HC0 := Aside0.mk hc0
 clear hr0 hc0
 have HB := Aside0.mk (Below.refl w.heap.size w)
 have H : ((spec_l27Draw.f k l0).bind fun bt245 => (some (bt245.1, bt245.2))) = some (r1, r2) := h
 clear h
 replace H := Option.bind_eq_some_iff.mp H
 obtain ⟨⟨t245, t246⟩, A20, H⟩ := H
 try dsimp only at H
 have A2 := Aside0.mk A20
 clear A20
 simp only [Option.some.injEq, Prod.mk.injEq] at H
 obtain ⟨rfl, rfl⟩ := H
 go_enter Tryd.func9, Tryd.ntmps9
 go_wp2_with (first | ((with_reducible refine gate_callee (f := 57) rfl ?_); refine goesL_ (some 5) rfl rfl Tryd.func57 (by kernel_rfl) rfl #[.slice A0 l0.length c0] rfl lm_ ?_; (with_reducible refine (spec_l27Draw.calls k _ _ l0 t245 t246 _ ?side1 ?side2 A2.out).mono ?_); (case side1 => repeat (first | exact HR0.out | (with_reducible refine Kd.C_alloc ?_ _) | (with_reducible refine Kd.C_drewN ?_ _) | (with_reducible refine Kd.C_drew ?_))); (case side2 => exact HC0.out); rintro e w3 ⟨v247, rfl, ho0, hb⟩; refine ⟨_, rfl, ?_⟩; have n0_ := Aside0.mk (Kd.R_lower ho0 (below_size bl_)); have n1_ := Aside0.mk (below_step bl_ hb); clear HB; have HO248 := n0_; have HB := n1_; clear n0_ n1_; (try clear hb); (try clear hb2); (try clear hk); (try clear hi); (try clear ho0)))
 go_ret2
 exact ⟨_, by first | rfl | (simp [errW_none, errW_some] <;> rfl) | (simp [*, errW_none, errW_some] <;> rfl) | exact False.elim (Bool.noConfusion ((decide_eq_true (of_eq_true (by assumption))).symm.trans (by assumption))), ra_ HO248.out, bl_⟩


/-! ### impl_LeafOf: function 13 -/
def impl_LeafOf.f (k : Nat) (a0_0 : Int) (a0_1 : Int) (a0_2 : Int) (a0_3 : Int) (a0_4 : Int) (a0_5 : Int) : Option (ByteArray) := (impl_EntryText.f k a0_0 a0_1 a0_2 a0_3 a0_4 a0_5).bind fun t312 => (if 1 + t312.size ≤ 9223372036854775807 then ((impl_Digest.f k ((⟨#[48]⟩ : ByteArray) ++ t312)).bind fun t313 => (some t313)) else (none))
theorem impl_LeafOf.mono : ∀ a0 a1 a2 a3 a4 a5 k, LeO (impl_LeafOf.f k a0 a1 a2 a3 a4 a5) (impl_LeafOf.f (k + 1) a0 a1 a2 a3 a4 a5) := by
 intro a0 a1 a2 a3 a4 a5 k
 unfold impl_LeafOf.f
 repeat' first
  | (with_reducible exact impl_Digest.mono _ _)
  | (with_reducible exact impl_EntryText.mono _ _ _ _ _ _ _)
  | (with_reducible exact LeO.refl _)
  | (with_reducible exact LeO.none _)
  | (with_reducible refine LeO.ite ?_ ?_)
  | (with_reducible refine LeO.bind ?_ (fun _ => ?_))
  | exact impl_Digest.mono _ _
  | exact impl_EntryText.mono _ _ _ _ _ _ _
  | exact LeO.none _
  | refine LeO.ite ?_ ?_
  | refine LeO.bind ?_ (fun _ => ?_)
set_option maxHeartbeats 8000000 in
set_option maxRecDepth 100000 in
theorem impl_LeafOf.calls (k : Nat) (a0_0 : Int) (a0_1 : Int) (a0_2 : Int) (a0_3 : Int) (a0_4 : Int) (a0_5 : Int) (r : ByteArray) (w : World) (hT : Tab w) (h : impl_LeafOf.f k a0_0 a0_1 a0_2 a0_3 a0_4 a0_5 = some r) :
 Calls Tryd.prog 13 #[.agg #[.int .i64 a0_0, .int .i64 a0_1, .int .i64 a0_2, .int .i64 a0_3, .int .i64 a0_4, .int .i64 a0_5]] w fun e w' => e = .returned (.string r) ∧ Below w.heap.size w w' := by
 have hu27 := Tryd.underlying27
 have HT := Aside0.mk hT
 clear hT
 have HB := Aside0.mk (Below.refl w.heap.size w)
 have H : ((impl_EntryText.f k a0_0 a0_1 a0_2 a0_3 a0_4 a0_5).bind fun t312 => (if 1 + t312.size ≤ 9223372036854775807 then ((impl_Digest.f k ((⟨#[48]⟩ : ByteArray) ++ t312)).bind fun t313 => (some t313)) else (none))) = some r := h
 clear h
 replace H := Option.bind_eq_some_iff.mp H
 obtain ⟨t312, A20, H⟩ := H
 try dsimp only at H
 have A2 := Aside0.mk A20
 clear A20
 by_cases c3 : 1 + t312.size ≤ 9223372036854775807
 ·rw [if_pos c3] at H
  have c3b0 := eq_true c3
  have c3b1 : decide (1 + t312.size ≤ 9223372036854775807) = true := decide_eq_true c3
  try have c3b2 : (9223372036854775807 < 1 + t312.size) = False := eq_false (Nat.not_lt.2 c3)
  replace H := Option.bind_eq_some_iff.mp H
  obtain ⟨t313, A40, H⟩ := H
  try dsimp only at H
  have A4 := Aside0.mk A40
  clear A40
  obtain rfl := Option.some.inj H
  go_enter Tryd.func13, Tryd.ntmps13
  go_wp2_with (first | ((with_reducible refine gate_dst (N := 1) rfl ?_); refine box_event ?hg (N := 1) ?hd (cs := #[.int .i64 a0_0, .int .i64 a0_1, .int .i64 a0_2, .int .i64 a0_3, .int .i64 a0_4, .int .i64 a0_5]) (t := 27) ?hr ?_; (case hd => rfl); (case hg => rfl); (case hr => first | (go_simp; done) | (go_simp; rfl)); intro gb311 hg w5 hbox hb; have n0_ := Aside0.mk (below_step bl_ hb); have n1_ := Aside0.mk (hbox); have n2_ := Aside0.mk ((hz_ : w.heap.size ≤ gb311)); have n3_ := Aside0.mk ((hz_ : w.heap.size ≤ gb311)); clear HB; have HB := n0_; have BK311 := n1_; have GW311 := n2_; have GE311 := n3_; clear n0_ n1_ n2_ n3_; clear hb hbox hg; have hcz6_0 : w5.cell? ⟨gb311, 0, none⟩ = some (.int .i64 a0_0) := (blk_cell BK311.out 0).trans rfl; have hcz6_1 : w5.cell? ⟨gb311, 1, none⟩ = some (.int .i64 a0_1) := (blk_cell BK311.out 1).trans rfl; have hcz6_2 : w5.cell? ⟨gb311, 2, none⟩ = some (.int .i64 a0_2) := (blk_cell BK311.out 2).trans rfl; have hcz6_3 : w5.cell? ⟨gb311, 3, none⟩ = some (.int .i64 a0_3) := (blk_cell BK311.out 3).trans rfl; have hcz6_4 : w5.cell? ⟨gb311, 4, none⟩ = some (.int .i64 a0_4) := (blk_cell BK311.out 4).trans rfl; have hcz6_5 : w5.cell? ⟨gb311, 5, none⟩ = some (.int .i64 a0_5) := (blk_cell BK311.out 5).trans rfl; have hfz6_0 := blk_frozen BK311.out 0; have hfz6_1 := blk_frozen BK311.out 1; have hfz6_2 := blk_frozen BK311.out 2; have hfz6_3 := blk_frozen BK311.out 3; have hfz6_4 := blk_frozen BK311.out 4; have hfz6_5 := blk_frozen BK311.out 5) | ((with_reducible refine gate_callee (f := 31) rfl ?_); refine goesL_ (some 4) rfl rfl Tryd.func31 (by kernel_rfl) rfl #[.agg #[.int .i64 a0_0, .int .i64 a0_1, .int .i64 a0_2, .int .i64 a0_3, .int .i64 a0_4, .int .i64 a0_5]] rfl lm_ ?_; (with_reducible refine (impl_EntryText.calls k a0_0 a0_1 a0_2 a0_3 a0_4 a0_5 t312 _ A2.out).mono ?_); rintro e w7 ⟨rfl, hb⟩; refine ⟨_, rfl, ?_⟩; have n0_ := Aside0.mk (blk_below (g := gb311) (o := .cells #[.int .i64 a0_0, .int .i64 a0_1, .int .i64 a0_2, .int .i64 a0_3, .int .i64 a0_4, .int .i64 a0_5] 27 (0, 0)) (bk_ BK311.out) hb); have n1_ := Aside0.mk (below_step bl_ hb); clear BK311; clear HB; have BK311 := n0_; have HB := n1_; clear n0_ n1_; (try clear hb); (try clear hb2); (try clear hk); (try clear hi)) | ((with_reducible refine gate_callee (f := 66) rfl ?_); refine goesL_ (some 6) rfl rfl Tryd.func66 (by kernel_rfl) rfl #[.string ((⟨#[48]⟩ : ByteArray) ++ t312)] rfl lm_ ?_; (with_reducible refine (impl_Digest.calls k ((⟨#[48]⟩ : ByteArray) ++ t312) t313 _ ?side1 A4.out).mono ?_); (case side1 => exact tab_of HT.out bl_); rintro e w8 ⟨rfl, hb⟩; refine ⟨_, rfl, ?_⟩; have n0_ := Aside0.mk (blk_below (g := gb311) (o := .cells #[.int .i64 a0_0, .int .i64 a0_1, .int .i64 a0_2, .int .i64 a0_3, .int .i64 a0_4, .int .i64 a0_5] 27 (0, 0)) (bk_ BK311.out) hb); have n1_ := Aside0.mk (below_step bl_ hb); clear BK311; clear HB; have BK311 := n0_; have HB := n1_; clear n0_ n1_; (try clear hb); (try clear hb2); (try clear hk); (try clear hi)))
  go_ret
  exact ⟨by first | rfl | (simp [errW_none, errW_some] <;> rfl) | (simp [*, errW_none, errW_some] <;> rfl) | exact False.elim (Bool.noConfusion ((decide_eq_true (of_eq_true (by assumption))).symm.trans (by assumption))), bl_⟩
 ·rw [if_neg c3] at H
  exact absurd H (by simp)


/-! ### impl_NodeOf: function 15 -/
def impl_NodeOf.f (k : Nat) (a0 : ByteArray) (a1 : ByteArray) : Option (ByteArray) := if 1 + a0.size ≤ 9223372036854775807 then (if ((⟨#[49]⟩ : ByteArray) ++ a0).size + a1.size ≤ 9223372036854775807 then ((impl_Digest.f k (((⟨#[49]⟩ : ByteArray) ++ a0) ++ a1)).bind fun t314 => (some t314)) else (none)) else (none)
theorem impl_NodeOf.mono : ∀ a0 a1 k, LeO (impl_NodeOf.f k a0 a1) (impl_NodeOf.f (k + 1) a0 a1) := by
 intro a0 a1 k
 unfold impl_NodeOf.f
 repeat' first
  | (with_reducible exact impl_Digest.mono _ _)
  | (with_reducible exact LeO.refl _)
  | (with_reducible exact LeO.none _)
  | (with_reducible refine LeO.ite ?_ ?_)
  | (with_reducible refine LeO.bind ?_ (fun _ => ?_))
  | exact impl_Digest.mono _ _
  | exact LeO.none _
  | refine LeO.ite ?_ ?_
  | refine LeO.bind ?_ (fun _ => ?_)
set_option maxHeartbeats 8000000 in
set_option maxRecDepth 100000 in
theorem impl_NodeOf.calls (k : Nat) (a0 : ByteArray) (a1 : ByteArray) (r : ByteArray) (w : World) (hT : Tab w) (h : impl_NodeOf.f k a0 a1 = some r) :
 Calls Tryd.prog 15 #[.string a0, .string a1] w fun e w' => e = .returned (.string r) ∧ Below w.heap.size w w' := by
 have HT := Aside0.mk hT
 clear hT
 have HB := Aside0.mk (Below.refl w.heap.size w)
 have H : (if 1 + a0.size ≤ 9223372036854775807 then (if ((⟨#[49]⟩ : ByteArray) ++ a0).size + a1.size ≤ 9223372036854775807 then ((impl_Digest.f k (((⟨#[49]⟩ : ByteArray) ++ a0) ++ a1)).bind fun t314 => (some t314)) else (none)) else (none)) = some r := h
 clear h
 by_cases c3 : 1 + a0.size ≤ 9223372036854775807
 ·rw [if_pos c3] at H
  have c3b0 := eq_true c3
  have c3b1 : decide (1 + a0.size ≤ 9223372036854775807) = true := decide_eq_true c3
  try have c3b2 : (9223372036854775807 < 1 + a0.size) = False := eq_false (Nat.not_lt.2 c3)
  by_cases c4 : ((⟨#[49]⟩ : ByteArray) ++ a0).size + a1.size ≤ 9223372036854775807
  ·rw [if_pos c4] at H
   have c4b0 := eq_true c4
   have c4b1 : decide (((⟨#[49]⟩ : ByteArray) ++ a0).size + a1.size ≤ 9223372036854775807) = true := decide_eq_true c4
   try have c4b2 : (9223372036854775807 < ((⟨#[49]⟩ : ByteArray) ++ a0).size + a1.size) = False := eq_false (Nat.not_lt.2 c4)
   try have c4b3 : (9223372036854775807 < 1 + a0.size + a1.size) = False := eq_false (by have h_ := c4; (repeat rw [ByteArray.size_append] at h_); exact Nat.not_lt.2 h_)
   replace H := Option.bind_eq_some_iff.mp H
   obtain ⟨t314, A50, H⟩ := H
   try dsimp only at H
   have A5 := Aside0.mk A50
   clear A50
   obtain rfl := Option.some.inj H
   go_enter Tryd.func15, Tryd.ntmps15
   go_wp2_with (first | ((with_reducible refine gate_callee (f := 66) rfl ?_); refine goesL_ (some 9) rfl rfl Tryd.func66 (by kernel_rfl) rfl #[.string (((⟨#[49]⟩ : ByteArray) ++ a0) ++ a1)] rfl lm_ ?_; (with_reducible refine (impl_Digest.calls k (((⟨#[49]⟩ : ByteArray) ++ a0) ++ a1) t314 _ ?side1 A5.out).mono ?_); (case side1 => exact tab_of HT.out bl_); rintro e w6 ⟨rfl, hb⟩; refine ⟨_, rfl, ?_⟩; have n0_ := Aside0.mk (below_step bl_ hb); clear HB; have HB := n0_; clear n0_; (try clear hb); (try clear hb2); (try clear hk); (try clear hi)))
   go_ret
   exact ⟨by first | rfl | (simp [errW_none, errW_some] <;> rfl) | (simp [*, errW_none, errW_some] <;> rfl) | exact False.elim (Bool.noConfusion ((decide_eq_true (of_eq_true (by assumption))).symm.trans (by assumption))), bl_⟩
  ·rw [if_neg c4] at H
   exact absurd H (by simp)
 ·rw [if_neg c3] at H
  exact absurd H (by simp)

end Go.Proofs.YtdlapahfmfhbjaaDoor.PA

namespace Go.Proofs.YtdlapahfmfhbjaaDoor.PA
open Go.RowKit Go.Proofs.YtdlapahfmfhbjaaDoorW.PrintWords Go.Proofs.YtdlapahfmfhbjaaDoorW.PrintLast Go.Proofs.YtdlapahfmfhbjaaDoorW.PrintMore
attribute [local go_sem] max2_int min2_int max_two min_two max_three min_three max_four min_four   -- for this text's walks alone
set_option linter.unusedVariables false
set_option linter.unusedSimpArgs false

/-! ### impl_firsts: function 67 -/
def impl_firsts.l0 : Nat → Int → Int → Option (Int)
 | 0, _, _ => none
 | k + 1, x0, x3 => if (wrap64 (2 * x3)) < x0 then (impl_firsts.l0 k x0 (wrap64 (2 * x3))) else (some x3)
def impl_firsts.f (k : Nat) (a0 : Int) : Option (Int) := impl_firsts.l0 k a0 1
theorem impl_firsts.mono_l : ∀ k, (∀ y0 y1, LeO (impl_firsts.l0 k y0 y1) (impl_firsts.l0 (k + 1) y0 y1))
 | 0 => fun _ _ r h => by simp [impl_firsts.l0] at h
 | k + 1 => by
  have ih0 := impl_firsts.mono_l k
  ·intro y0 y1
   unfold impl_firsts.l0
   repeat' first
   | (with_reducible exact ih0 _ _)
   | (with_reducible exact LeO.refl _)
   | (with_reducible exact LeO.none _)
   | (with_reducible refine LeO.ite ?_ ?_)
   | (with_reducible refine LeO.bind ?_ (fun _ => ?_))
   | exact ih0 _ _
   | exact LeO.none _
   | refine LeO.ite ?_ ?_
   | refine LeO.bind ?_ (fun _ => ?_)
theorem impl_firsts.mono : ∀ a0 k, LeO (impl_firsts.f k a0) (impl_firsts.f (k + 1) a0) := by
 intro a0 k
 have ih0 := impl_firsts.mono_l k
 unfold impl_firsts.f
 repeat' first
  | (with_reducible exact ih0 _ _)
  | (with_reducible exact LeO.refl _)
  | (with_reducible exact LeO.none _)
  | (with_reducible refine LeO.ite ?_ ?_)
  | (with_reducible refine LeO.bind ?_ (fun _ => ?_))
  | exact ih0 _ _
  | exact LeO.none _
  | refine LeO.ite ?_ ?_
  | refine LeO.bind ?_ (fun _ => ?_)
set_option maxHeartbeats 8000000 in
set_option maxRecDepth 100000 in
theorem impl_firsts.calls (k : Nat) (a0 : Int) (r : Int) (w : World) (h : impl_firsts.f k a0 = some r) :
 Calls Tryd.prog 67 #[.int .i64 a0] w fun e w' => e = .returned (.int .i64 r) ∧ Drawn0 w w' := by
 have H : (impl_firsts.l0 k a0 1) = some r := h
 clear h
 have H' := Aside0.mk H
 clear H
 go_enter Tryd.func67, Tryd.ntmps67
 go_wp2
 go_loopg [3] k (fun kq v3 w' => ∃ (x3_1 : Int), v3 = .int .i64 x3_1 ∧ Aside0 (impl_firsts.l0 kq a0 x3_1 = some r) ∧ Aside0 (kq ≤ k) ∧ Drawn0 w w')
 case atStart => exact ⟨(1), (by first | rfl | (simp; done) | (simp [*]; done)), H', ⟨Nat.le_refl _⟩, by repeat (first | exact Drawn0.refl _ | apply Drawn0.step)⟩
 case round =>
  clear H'
  obtain ⟨x3_1, rfl, HA, HK1, ⟨m1, rfl⟩⟩ := hrel
  cases gk with
  | zero => exact absurd HA.out (by simp [impl_firsts.l0])
  | succ k1 =>
   have H := HA.out
   clear HA
   simp only [impl_firsts.l0] at H
   by_cases c2 : (wrap64 (2 * x3_1)) < a0
   ·rw [if_pos c2] at H
    have c2b0 : decide ((wrap64 (2 * x3_1)) < a0) = true := decide_eq_true c2
    clear c2
    have H' := Aside0.mk H
    clear H
    go_wp2
    go_roundg k1
    case measure => have := HK1.out; omega
    case rel => exact ⟨(wrap64 (2 * x3_1)), (by first | rfl | (simp; done) | (simp [*]; done)), H', ⟨by have := HK1.out; omega⟩, by repeat (first | exact Drawn0.refl _ | apply Drawn0.step)⟩
   ·rw [if_neg c2] at H
    have c2b0 : decide ((wrap64 (2 * x3_1)) < a0) = false := decide_eq_false c2
    clear c2
    obtain rfl := Option.some.inj H
    go_wp2
    go_ret
    exact ⟨by first | rfl | (simp; done) | (simp [*]; done), by repeat (first | exact Drawn0.refl _ | apply Drawn0.step)⟩

end Go.Proofs.YtdlapahfmfhbjaaDoor.PA

namespace Go.Proofs.YtdlapahfmfhbjaaDoor.PA
open Go.RowKit Go.Proofs.YtdlapahfmfhbjaaDoor.Short Go.Proofs.YtdlapahfmfhbjaaDoorW.PrintWords Go.Proofs.YtdlapahfmfhbjaaDoorW.PrintLast Go.Proofs.YtdlapahfmfhbjaaDoorW.PrintMore
attribute [local go_sem] max2_int min2_int max_two min_two max_three min_three max_four min_four   -- for this text's walks alone
set_option linter.unusedVariables false
set_option linter.unusedSimpArgs false

/-! ### impl_RootOf: function 17 -/
def impl_RootOf.f : Nat → List (S27) → Option (ByteArray)
 | 0, _ => none
 | k + 1, l0 => if (l0.length : Int) = 0 then ((impl_Digest.f k (⟨#[]⟩ : ByteArray)).bind fun t315 => (some t315)) else (if (l0.length : Int) = 1 then (if 0 < (l0.length : Int) then ((impl_LeafOf.f k ((rd_T27 l0 0).f0) ((rd_T27 l0 0).f1) ((rd_T27 l0 0).f2.f0) ((rd_T27 l0 0).f2.f1) ((rd_T27 l0 0).f2.f2) ((rd_T27 l0 0).f2.f3)).bind fun t317 => (some t317)) else (none)) else ((impl_firsts.f k (l0.length : Int)).bind fun t318 => (if 0 ≤ t318 then (if t318 ≤ (l0.length : Int) then ((impl_RootOf.f k (l0.take (t318 : Int).toNat)).bind fun t323 => ((impl_RootOf.f k (l0.drop (t318 : Int).toNat)).bind fun t328 => ((impl_NodeOf.f k t323 t328).bind fun t329 => (some t329)))) else (none)) else (none))))
theorem impl_RootOf.mono_l : ∀ k, (∀ y0, LeO (impl_RootOf.f k y0) (impl_RootOf.f (k + 1) y0))
 | 0 => fun _ r h => by simp [impl_RootOf.f] at h
 | k + 1 => by
  have ih0 := impl_RootOf.mono_l k
  ·intro y0
   unfold impl_RootOf.f
   repeat' first
   | (with_reducible exact ih0 _)
   | (with_reducible exact impl_Digest.mono _ _)
   | (with_reducible exact impl_LeafOf.mono _ _ _ _ _ _ _)
   | (with_reducible exact impl_NodeOf.mono _ _ _)
   | (with_reducible exact impl_firsts.mono _ _)
   | (with_reducible exact LeO.refl _)
   | (with_reducible exact LeO.none _)
   | (with_reducible refine LeO.ite ?_ ?_)
   | (with_reducible refine LeO.bind ?_ (fun _ => ?_))
   | exact ih0 _
   | exact impl_Digest.mono _ _
   | exact impl_LeafOf.mono _ _ _ _ _ _ _
   | exact impl_NodeOf.mono _ _ _
   | exact impl_firsts.mono _ _
   | exact LeO.none _
   | refine LeO.ite ?_ ?_
   | refine LeO.bind ?_ (fun _ => ?_)
theorem impl_RootOf.mono : ∀ a0 k, LeO (impl_RootOf.f k a0) (impl_RootOf.f (k + 1) a0) := by
 intro a0 k
 have ih0 := impl_RootOf.mono_l k
 exact ih0 a0
def impl_RootOf.T7 : Bool × List (List Nat × List Nat) := (true, [([], []), ([], []), ([0, 1], [0, 1]), ([2], [2]), ([], []), ([], []), ([4, 5], [4, 5]), ([6, 3], [6]), ([3, 7, 7], [3, 7]), ([8, 8, 0, 1, 2, 3, 4, 5, 6, 7, 8], [8])])
def impl_RootOf.B7 : List Nat := [0, 0, 3, 7, 0, 0, 48, 127, 255, 511]
theorem impl_RootOf.tab7 : rtab .any (opsOf Tryd.f17 7) = impl_RootOf.T7 := by kernel_rfl
theorem impl_RootOf.bits7 : waitsOk impl_RootOf.T7.2 impl_RootOf.B7 = true := by kernel_rfl
set_option maxHeartbeats 8000000 in
set_option maxRecDepth 100000 in
theorem impl_RootOf.calls (k : Nat) : ∀ (A0 : Option Addr) (c0 : Nat) (l0 : List (S27)) (r : ByteArray) (w : World) (hr0 : Kd.C k27 w A0 l0.length l0) (hc0 : l0.length ≤ c0) (hT : Tab w) (h : impl_RootOf.f k l0 = some r),
 Calls Tryd.prog 17 #[.slice A0 l0.length c0] w fun e w' => e = .returned (.string r) ∧ Below w.heap.size w w' := by
 induction k using Nat.strongRecOn with
 | _ k ih =>
 intro A0 c0 l0 r w hr0 hc0 hT h
 cases k with
 | zero => exact absurd h (by simp [impl_RootOf.f])
 | succ k =>
 simp only [impl_RootOf.f] at h
 have hu27 := Tryd.underlying27
 have HR0 := Aside0.mk hr0
 have HC0 := Aside0.mk hc0
 clear hr0 hc0
 have HT := Aside0.mk hT
 clear hT
 have HB := Aside0.mk (Below.refl w.heap.size w)
 have H : (if (l0.length : Int) = 0 then ((impl_Digest.f k (⟨#[]⟩ : ByteArray)).bind fun t315 => (some t315)) else (if (l0.length : Int) = 1 then (if 0 < (l0.length : Int) then ((impl_LeafOf.f k ((rd_T27 l0 0).f0) ((rd_T27 l0 0).f1) ((rd_T27 l0 0).f2.f0) ((rd_T27 l0 0).f2.f1) ((rd_T27 l0 0).f2.f2) ((rd_T27 l0 0).f2.f3)).bind fun t317 => (some t317)) else (none)) else ((impl_firsts.f k (l0.length : Int)).bind fun t318 => (if 0 ≤ t318 then (if t318 ≤ (l0.length : Int) then ((impl_RootOf.f k (l0.take (t318 : Int).toNat)).bind fun t323 => ((impl_RootOf.f k (l0.drop (t318 : Int).toNat)).bind fun t328 => ((impl_NodeOf.f k t323 t328).bind fun t329 => (some t329)))) else (none)) else (none))))) = some r := h
 clear h
 by_cases c2 : (l0.length : Int) = 0
 ·rw [if_pos c2] at H
  have c2b0 : ((l0.length : Int) == 0) = true := beq_iff_eq.mpr c2
  have c2b1 : ((l0.length : Int) != 0) = false := bne_eq_false_iff_eq.mpr c2
  clear c2
  replace H := Option.bind_eq_some_iff.mp H
  obtain ⟨t315, A30, H⟩ := H
  try dsimp only at H
  have A3 := Aside0.mk A30
  clear A30
  obtain rfl := Option.some.inj H
  go_enter Tryd.func17, Tryd.ntmps17
  go_wp2_with (first | ((with_reducible refine gate_callee (f := 66) rfl ?_); refine goesL_ (some 8) rfl rfl Tryd.func66 (by kernel_rfl) rfl #[.string (⟨#[]⟩ : ByteArray)] rfl lm_ ?_; (with_reducible refine (impl_Digest.calls k (⟨#[]⟩ : ByteArray) t315 _ ?side1 A3.out).mono ?_); (case side1 => exact tab_of HT.out bl_); rintro e w4 ⟨rfl, hb⟩; refine ⟨_, rfl, ?_⟩; have n0_ := Aside0.mk (below_step bl_ hb); clear HB; have HB := n0_; clear n0_; (try clear hb); (try clear hb2); (try clear hk); (try clear hi)))
  go_ret
  exact ⟨by first | rfl | (simp [errW_none, errW_some] <;> rfl) | (simp [*, errW_none, errW_some] <;> rfl) | exact False.elim (Bool.noConfusion ((decide_eq_true (of_eq_true (by assumption))).symm.trans (by assumption))), bl_⟩
 ·rw [if_neg c2] at H
  have c2b0 : ((l0.length : Int) == 0) = false := beq_eq_false_iff_ne.mpr c2
  have c2b1 : ((l0.length : Int) != 0) = true := bne_iff_ne.mpr c2
  have c2b2 : ¬ (l0 = []) := fun h_ => c2 (by rw [h_]; rfl)
  by_cases c5 : (l0.length : Int) = 1
  ·rw [if_pos c5] at H
   have c5b0 : ((l0.length : Int) == 1) = true := beq_iff_eq.mpr c5
   have c5b1 : ((l0.length : Int) != 1) = false := bne_eq_false_iff_eq.mpr c5
   clear c5
   by_cases c6 : 0 < (l0.length : Int)
   ·rw [if_pos c6] at H
    have c6b0 : decide (0 < (l0.length : Int)) = true := decide_eq_true c6
    have c6b1 : decide (0 < l0.length) = true := decide_eq_true (by omega)
    clear c6
    replace H := Option.bind_eq_some_iff.mp H
    obtain ⟨t317, A70, H⟩ := H
    try dsimp only at H
    have A7 := Aside0.mk A70
    clear A70
    obtain rfl := Option.some.inj H
    have p316 : 0 ≤ (0 : Int) := (by omega)
    have q316 : 0 < (l0.length : Int) := of_decide_eq_true as_
    obtain ⟨ad316, e316, hx316_0, hx316_1, hx316_2, hx316_3, hx316_4, hx316_5⟩ := at_T27 HR0.out 0 p316 q316
    cases e316
    have qi316 : (0 < l0.length) = True := eq_true (by omega)
    (try rw [show ((0 : Int)).toNat = 0 from rfl] at hx316_0)
    (try rw [show 0 * 6 = 0 from rfl] at hx316_0)
    (try rw [Addr.add_zero'] at hx316_0)
    (try rw [show ((0 : Int)).toNat = 0 from rfl] at hx316_1)
    (try rw [show 0 * 6 = 0 from rfl] at hx316_1)
    (try rw [Addr.add_zero'] at hx316_1)
    (try rw [show ((0 : Int)).toNat = 0 from rfl] at hx316_2)
    (try rw [show 0 * 6 = 0 from rfl] at hx316_2)
    (try rw [Addr.add_zero'] at hx316_2)
    (try rw [show ((0 : Int)).toNat = 0 from rfl] at hx316_3)
    (try rw [show 0 * 6 = 0 from rfl] at hx316_3)
    (try rw [Addr.add_zero'] at hx316_3)
    (try rw [show ((0 : Int)).toNat = 0 from rfl] at hx316_4)
    (try rw [show 0 * 6 = 0 from rfl] at hx316_4)
    (try rw [Addr.add_zero'] at hx316_4)
    (try rw [show ((0 : Int)).toNat = 0 from rfl] at hx316_5)
    (try rw [show 0 * 6 = 0 from rfl] at hx316_5)
    (try rw [Addr.add_zero'] at hx316_5)
    replace p316 := eq_true p316
    replace q316 := eq_true q316
    go_enter Tryd.func17, Tryd.ntmps17
    go_wp2_with (first | ((with_reducible refine gate_callee (f := 13) rfl ?_); refine goesL_ (some 14) rfl rfl Tryd.func13 (by kernel_rfl) rfl #[.agg #[.int .i64 ((rd_T27 l0 0).f0), .int .i64 ((rd_T27 l0 0).f1), .int .i64 ((rd_T27 l0 0).f2.f0), .int .i64 ((rd_T27 l0 0).f2.f1), .int .i64 ((rd_T27 l0 0).f2.f2), .int .i64 ((rd_T27 l0 0).f2.f3)]] rfl lm_ ?_; (with_reducible refine (impl_LeafOf.calls k ((rd_T27 l0 0).f0) ((rd_T27 l0 0).f1) ((rd_T27 l0 0).f2.f0) ((rd_T27 l0 0).f2.f1) ((rd_T27 l0 0).f2.f2) ((rd_T27 l0 0).f2.f3) t317 _ ?side1 A7.out).mono ?_); (case side1 => exact tab_of HT.out bl_); rintro e w8 ⟨rfl, hb⟩; refine ⟨_, rfl, ?_⟩; have n0_ := Aside0.mk (below_step bl_ hb); clear HB; have HB := n0_; clear n0_; (try clear hb); (try clear hb2); (try clear hk); (try clear hi)))
    go_ret
    exact ⟨by first | rfl | (simp [errW_none, errW_some] <;> rfl) | (simp [*, errW_none, errW_some] <;> rfl) | exact False.elim (Bool.noConfusion ((decide_eq_true (of_eq_true (by assumption))).symm.trans (by assumption))), bl_⟩
   ·rw [if_neg c6] at H
    exact absurd H (by simp)
  ·rw [if_neg c5] at H
   have c5b0 : ((l0.length : Int) == 1) = false := beq_eq_false_iff_ne.mpr c5
   have c5b1 : ((l0.length : Int) != 1) = true := bne_iff_ne.mpr c5
   replace H := Option.bind_eq_some_iff.mp H
   obtain ⟨t318, A90, H⟩ := H
   try dsimp only at H
   have A9 := Aside0.mk A90
   clear A90
   by_cases c10 : 0 ≤ t318
   ·rw [if_pos c10] at H
    have c10b0 := eq_true c10
    have c10b1 : decide (0 ≤ t318) = true := decide_eq_true c10
    clear c10
    by_cases c11 : t318 ≤ (l0.length : Int)
    ·rw [if_pos c11] at H
     have c11b0 := eq_true c11
     have c11b1 : decide (t318 ≤ (l0.length : Int)) = true := decide_eq_true c11
     clear c11
     obtain ⟨y319, hy319⟩ : ∃ y_ : List (S27), y_ = (l0.take (t318 : Int).toNat) := ⟨_, rfl⟩
     replace H : ((impl_RootOf.f k y319).bind fun t323 => ((impl_RootOf.f k (l0.drop (t318 : Int).toNat)).bind fun t328 => ((impl_NodeOf.f k t323 t328).bind fun t329 => (some t329)))) = some r := by first | (rw [hy319]; with_reducible exact H) | (have H2_ := (Option.bind_some _ _).symm.trans H; rw [hy319]; with_reducible exact H2_) | (have H2_ := (Option.bind_some _ _).symm.trans H; with_reducible exact H2_) | with_reducible exact H | (rw [hy319]; exact H) | exact H
     have Ny319 := Aside0.mk hy319
     clear hy319
     replace H := Option.bind_eq_some_iff.mp H
     obtain ⟨t323, A120, H⟩ := H
     try dsimp only at H
     have A12 := Aside0.mk A120
     clear A120
     have c13b0 := eq_true (of_decide_eq_true as_ : 0 ≤ t318)
     have c14b0 := eq_true (of_decide_eq_true as_ : t318 ≤ (l0.length : Int))
     obtain ⟨y324, hy324⟩ : ∃ y_ : List (S27), y_ = (l0.drop (t318 : Int).toNat) := ⟨_, rfl⟩
     replace H : ((impl_RootOf.f k y324).bind fun t328 => ((impl_NodeOf.f k t323 t328).bind fun t329 => (some t329))) = some r := by first | (rw [hy324]; with_reducible exact H) | (have H2_ := (Option.bind_some _ _).symm.trans H; rw [hy324]; with_reducible exact H2_) | (have H2_ := (Option.bind_some _ _).symm.trans H; with_reducible exact H2_) | with_reducible exact H | (rw [hy324]; exact H) | exact H
     have Ny324 := Aside0.mk hy324
     clear hy324
     replace H := Option.bind_eq_some_iff.mp H
     obtain ⟨t328, A150, H⟩ := H
     try dsimp only at H
     have A15 := Aside0.mk A150
     clear A150
     replace H := Option.bind_eq_some_iff.mp H
     obtain ⟨t329, A160, H⟩ := H
     try dsimp only at H
     have A16 := Aside0.mk A160
     clear A160
     obtain rfl := Option.some.inj H
     go_enter Tryd.func17, Tryd.ntmps17
     try go_wp2_with (first | ((with_reducible refine gate_callee (f := 67) rfl ?_); refine goesL_ (some 17) rfl rfl Tryd.func67 (by kernel_rfl) rfl #[.int .i64 (l0.length : Int)] rfl lm_ ?_; (with_reducible refine (impl_firsts.calls k (l0.length : Int) t318 _ A9.out).mono ?_); rintro e w' ⟨rfl, ⟨nd, rfl⟩⟩; refine ⟨_, rfl, ?_⟩))
     generalize hq_ : World.drewN w _ = w17
     have n0_ := Aside0.mk (below_at hq_ HB.out)
     clear HB
     have HB := n0_
     clear n0_
     clear hq_
     have n0_ := Aside0.mk (below_drew1 HB.out)
     clear HB
     have HB := n0_
     clear n0_
     have q19 : (t318 : Int) ≤ ((l0.length : Int) : Int) := of_decide_eq_true as_
     obtain ⟨i019, hi019, _, hsz19, _⟩ := info_parts info27
     have hroom19 : l0.length ≤ c0 := HC0.out
     have hC19 : Kd.C k27 _ A0 l0.length l0 := HR0.out
     have hcut19 := cut_to (P := Tryd.prog) 31 27 .i64 Tryd.underlying31 hi019 A0 l0.length c0 t318 (of_decide_eq_true as_) q19 hroom19
     have hr19 := Kd.C_take (m := (t318 : Int).toNat) hC19 (by omega)
     have hy19 : y319.length = (t318 : Int).toNat := (by rw [Ny319.out, List.length_take]; omega)
     rw [← Ny319.out] at hr19
     rw [← hy19] at hcut19
     have HR322 := Aside0.mk hr19
     have HC322 := Aside0.mk (show y319.length ≤ c0 from by omega)
     clear hr19 hC19 hroom19 hi019 hsz19
     have KY19 := Aside0.mk hy19
     clear hy19
     replace q19 := eq_true q19
     have q20 : (t318 : Int) ≤ ((l0.length : Int) : Int) := of_decide_eq_true as_
     obtain ⟨i020, hi020, _, hsz20, _⟩ := info_parts info27
     have hroom20 : l0.length ≤ c0 := HC0.out
     have hC20 : Kd.C k27 _ A0 l0.length l0 := HR0.out
     have q020 : (0 : Int) ≤ (t318 : Int) := of_decide_eq_true as_
     have hcut20 := cut_from (P := Tryd.prog) 31 27 .i64 Tryd.underlying31 hi020 6 hsz20 A0 l0.length c0 t318 q020 q20
     have hr20 := Kd.C_drop (m := (t318 : Int).toNat) (c := c0) hC20 (by omega) hroom20
     obtain ⟨A20, hA20⟩ : ∃ A1, A1 = (if c0 = (t318 : Int).toNat then A0 else (A0 : Option Addr).map (·.add ((t318 : Int).toNat * 6))) := ⟨_, rfl⟩
     obtain ⟨c20, hc20⟩ : ∃ c1, c1 = c0 - (t318 : Int).toNat := ⟨_, rfl⟩
     have hy20 : y324.length = l0.length - (t318 : Int).toNat := (by rw [Ny324.out, List.length_drop] <;> omega)
     rw [show (l0).drop (t318 : Int).toNat = y324 from Ny324.out.symm] at hr20
     replace hr20 : Kd.C k27 _ A20 y324.length y324 := (by rw [hA20]; exact hr20)
     rw [← hy20, ← hA20, ← hc20] at hcut20
     have HR327 := Aside0.mk hr20
     have HC327 := Aside0.mk (show y324.length ≤ c20 from by rw [hy20, hc20]; exact Nat.sub_le_sub_right hroom20 _)
     clear hr20 hC20 hroom20 hi020 hsz20 hc20
     have KY20 := Aside0.mk hy20
     have KA20 := Aside0.mk hA20
     clear hy20 hA20
     replace q20 := eq_true q20
     refine start_ (n := 10) (S := fun w' => True) (ds := []) #[false, false, false, false, false, false, false, false, false, false] (by kernel_rfl) rfl rfl trivial (fun hHeld => ?_); refine with_tabW impl_RootOf.tab7 impl_RootOf.bits7 (fun HT_ HW_ => ?_)
     generalize w17.drew = w18 at HB HR322 HR327 hHeld ⊢
     refine pure_ (i := 0) (N := some 18) (v := ?_) (a' := ?_) #[true, false, false, false, false, false, false, false, false, false] rfl rfl (any_of HT_.out (by kernel_rfl)) (fun _ _ _ h => h) (Or.inl ⟨by rfl, ?_⟩) ?_ ?_
     rotate_left
     ·intro w'
      go_simp
      with_reducible rfl
     rotate_left
     ·simp only [Act.put, List.setIfInBounds_toArray, List.set_cons_zero, List.set_cons_succ, i64_w, i32_w]
      rfl
     refine pure_ (i := 1) (N := some 19) (v := ?_) (a' := ?_) #[true, true, false, false, false, false, false, false, false, false] rfl rfl (any_of HT_.out (by kernel_rfl)) (fun _ _ _ h => h) (Or.inl ⟨by rfl, ?_⟩) ?_ ?_
     rotate_left
     ·intro w'
      go_simp
      with_reducible rfl
     rotate_left
     ·simp only [Act.put, List.setIfInBounds_toArray, List.set_cons_zero, List.set_cons_succ, i64_w, i32_w]
      rfl
     refine pure_ (i := 2) (N := some 20) (v := ?_) (a' := ?_) #[true, true, true, false, false, false, false, false, false, false] rfl rfl (any_of HT_.out (by kernel_rfl)) (fun _ _ _ h => h) (Or.inl ⟨by rfl, ?_⟩) ?_ ?_
     rotate_left
     ·intro w'
      go_simp
      with_reducible rfl
     rotate_left
     ·simp only [Act.put, List.setIfInBounds_toArray, List.set_cons_zero, List.set_cons_succ, i64_w, i32_w]
      rfl
     refine pure_ (i := 4) (N := some 22) (v := ?_) (a' := ?_) #[true, true, true, false, true, false, false, false, false, false] rfl rfl (any_of HT_.out (by kernel_rfl)) (fun _ _ _ h => h) (Or.inl ⟨by rfl, ?_⟩) ?_ ?_
     rotate_left
     ·intro w'
      go_simp
      with_reducible rfl
     rotate_left
     ·simp only [Act.put, List.setIfInBounds_toArray, List.set_cons_zero, List.set_cons_succ, i64_w, i32_w]
      rfl
     refine pure_ (i := 5) (N := some 23) (v := ?_) (a' := ?_) #[true, true, true, false, true, true, false, false, false, false] rfl rfl (any_of HT_.out (by kernel_rfl)) (fun _ _ _ h => h) (Or.inl ⟨by rfl, ?_⟩) ?_ ?_
     rotate_left
     ·intro w'
      go_simp
      with_reducible rfl
     rotate_left
     ·simp only [Act.put, List.setIfInBounds_toArray, List.set_cons_zero, List.set_cons_succ, i64_w, i32_w]
      rfl
     refine pure_ (i := 6) (N := some 24) (v := ?_) (a' := ?_) #[true, true, true, false, true, true, true, false, false, false] rfl rfl (any_of HT_.out (by kernel_rfl)) (fun _ _ _ h => h) (Or.inl ⟨by rfl, ?_⟩) ?_ ?_
     rotate_left
     ·intro w'
      go_simp
      with_reducible rfl
     rotate_left
     ·simp only [Act.put, List.setIfInBounds_toArray, List.set_cons_zero, List.set_cons_succ, i64_w, i32_w]
      rfl
     refine one_ (i := 3) (N := some 21) #[true, true, true, true, true, true, true, false, false, false] rfl rfl (one_of HT_.out (by kernel_rfl)) (by decide) (fun K hK => ?_)
     refine goes_ Tryd.func17 (by kernel_rfl) rfl #[.slice A0 y319.length c0] (by rfl) rfl rfl lm_ ?_
     with_reducible refine (ih k (by omega) _ _ y319 t323 _ ?side1 ?side2 ?side3 A12.out).mono ?_
     (case side1 => repeat (first | exact (Kd.C_below HR322.out HB.out) | exact HR322.out | (with_reducible refine Kd.C_alloc ?_ _) | (with_reducible refine Kd.C_drewN ?_ _) | (with_reducible refine Kd.C_drew ?_)))
     (case side2 => exact HC322.out)
     (case side3 => exact tab_of HT.out bl_)
     rintro e w21 ⟨rfl, hb⟩
     refine ⟨_, rfl, ?_⟩
     have n0_ := Aside0.mk (below_step bl_ hb)
     clear HB
     have HB := n0_
     clear n0_
     (try clear hb)
     (try clear hb2)
     (try clear hk)
     (try clear hi)
     refine hK.out _ _ trivial (fun hHeld => ?_)
     clear hK K
     refine norm_ (a' := ?_) ?_ ?_
     rotate_left
     ·show Act.put _ (some 21) _ = _
      simp only [Act.put, List.setIfInBounds_toArray, List.set_cons_zero, List.set_cons_succ, i64_w, i32_w]
      rfl
     refine one_ (i := 7) (N := some 25) #[true, true, true, true, true, true, true, true, false, false] rfl rfl (one_of HT_.out (by kernel_rfl)) (by decide) (fun K hK => ?_)
     refine goes_ Tryd.func17 (by kernel_rfl) rfl #[.slice A20 y324.length c20] (by rfl) rfl rfl lm_ ?_
     with_reducible refine (ih k (by omega) _ _ y324 t328 _ ?side1 ?side2 ?side3 A15.out).mono ?_
     (case side1 => repeat (first | exact (Kd.C_below HR327.out HB.out) | exact HR327.out | (with_reducible refine Kd.C_alloc ?_ _) | (with_reducible refine Kd.C_drewN ?_ _) | (with_reducible refine Kd.C_drew ?_)))
     (case side2 => exact HC327.out)
     (case side3 => exact tab_of HT.out bl_)
     rintro e w22 ⟨rfl, hb⟩
     refine ⟨_, rfl, ?_⟩
     have n0_ := Aside0.mk (below_step bl_ hb)
     clear HB
     have HB := n0_
     clear n0_
     (try clear hb)
     (try clear hb2)
     (try clear hk)
     (try clear hi)
     refine hK.out _ _ trivial (fun hHeld => ?_)
     clear hK K
     refine norm_ (a' := ?_) ?_ ?_
     rotate_left
     ·show Act.put _ (some 25) _ = _
      simp only [Act.put, List.setIfInBounds_toArray, List.set_cons_zero, List.set_cons_succ, i64_w, i32_w]
      rfl
     refine one_ (i := 8) (N := some 26) #[true, true, true, true, true, true, true, true, true, false] rfl rfl (one_of HT_.out (by kernel_rfl)) (by decide) (fun K hK => ?_)
     refine goes_ Tryd.func15 (by kernel_rfl) rfl #[.string t323, .string t328] (by rfl) rfl rfl lm_ ?_
     with_reducible refine (impl_NodeOf.calls k t323 t328 t329 _ ?side1 A16.out).mono ?_
     (case side1 => exact tab_of HT.out bl_)
     rintro e w23 ⟨rfl, hb⟩
     refine ⟨_, rfl, ?_⟩
     have n0_ := Aside0.mk (below_step bl_ hb)
     clear HB
     have HB := n0_
     clear n0_
     (try clear hb)
     (try clear hb2)
     (try clear hk)
     (try clear hi)
     refine hK.out _ _ trivial (fun hHeld => ?_)
     clear hK K
     refine norm_ (a' := ?_) ?_ ?_
     rotate_left
     ·show Act.put _ (some 26) _ = _
      simp only [Act.put, List.setIfInBounds_toArray, List.set_cons_zero, List.set_cons_succ, i64_w, i32_w]
      rfl
     refine pure_ (i := 9) (N := some 2) (v := ?_) (a' := ?_) #[true, true, true, true, true, true, true, true, true, true] rfl rfl (any_of HT_.out (by kernel_rfl)) (fun _ _ _ h => h) (Or.inl ⟨by rfl, ?_⟩) ?_ ?_
     rotate_left
     ·intro w'
      go_simp
      with_reducible rfl
     rotate_left
     ·simp only [Act.put, List.setIfInBounds_toArray, List.set_cons_zero, List.set_cons_succ, i64_w, i32_w]
      rfl
     refine done_ (done_of HT_.out (by kernel_rfl)) ?_
     try go_wp2
     go_ret
     exact ⟨by first | rfl | (simp [errW_none, errW_some] <;> rfl) | (simp [*, errW_none, errW_some] <;> rfl) | exact False.elim (Bool.noConfusion ((decide_eq_true (of_eq_true (by assumption))).symm.trans (by assumption))), bl_⟩
    ·rw [if_neg c11] at H
     exact absurd H (by simp)
   ·rw [if_neg c10] at H
    exact absurd H (by simp)


/-! ### impl_path: function 61 -/
def impl_path.f : Nat → List (S27) → Int → Option (List ByteArray)
 | 0, _, _ => none
 | k + 1, l0, a1 => if (l0.length : Int) = 1 then (some (([] : List ByteArray))) else ((impl_firsts.f k (l0.length : Int)).bind fun t333 => (if a1 < t333 then (if 0 ≤ t333 then (if t333 ≤ (l0.length : Int) then ((impl_path.f k (l0.take (t333 : Int).toNat) a1).bind fun t338 => ((impl_RootOf.f k (l0.drop (t333 : Int).toNat)).bind fun t345 => (if t338.length < 8796093022208 then (some (t338 ++ [t345])) else (none)))) else (none)) else (none)) else (if 0 ≤ t333 then (if t333 ≤ (l0.length : Int) then ((impl_path.f k (l0.drop (t333 : Int).toNat) (wrap64 (a1 - t333))).bind fun t353 => ((impl_RootOf.f k (l0.take (t333 : Int).toNat)).bind fun t360 => (if t353.length < 8796093022208 then (some (t353 ++ [t360])) else (none)))) else (none)) else (none))))
theorem impl_path.mono_l : ∀ k, (∀ y0 y1, LeO (impl_path.f k y0 y1) (impl_path.f (k + 1) y0 y1))
 | 0 => fun _ _ r h => by simp [impl_path.f] at h
 | k + 1 => by
  have ih0 := impl_path.mono_l k
  ·intro y0 y1
   unfold impl_path.f
   repeat' first
   | (with_reducible exact ih0 _ _)
   | (with_reducible exact impl_RootOf.mono _ _)
   | (with_reducible exact impl_firsts.mono _ _)
   | (with_reducible exact LeO.refl _)
   | (with_reducible exact LeO.none _)
   | (with_reducible refine LeO.ite ?_ ?_)
   | (with_reducible refine LeO.bind ?_ (fun _ => ?_))
   | exact ih0 _ _
   | exact impl_RootOf.mono _ _
   | exact impl_firsts.mono _ _
   | exact LeO.none _
   | refine LeO.ite ?_ ?_
   | refine LeO.bind ?_ (fun _ => ?_)
theorem impl_path.mono : ∀ a0 a1 k, LeO (impl_path.f k a0 a1) (impl_path.f (k + 1) a0 a1) := by
 intro a0 a1 k
 have ih0 := impl_path.mono_l k
 exact ih0 a0 a1
def impl_path.T5 : Bool × List (List Nat × List Nat) := (true, [([], []), ([], []), ([0, 1], [0, 1]), ([], []), ([2, 3], [2, 3]), ([], []), ([], []), ([5, 6], [5, 6]), ([7, 4], [7]), ([8], [8]), ([4, 9, 8], [4, 9]), ([10, 10, 0, 1, 2, 3, 4, 5, 6, 7, 8, 9, 10], [10])])
def impl_path.B5 : List Nat := [0, 0, 3, 0, 15, 0, 0, 96, 255, 511, 1023, 2047]
theorem impl_path.tab5 : rtab .any (opsOf Tryd.f61 5) = impl_path.T5 := by kernel_rfl
theorem impl_path.bits5 : waitsOk impl_path.T5.2 impl_path.B5 = true := by kernel_rfl
def impl_path.T6 : Bool × List (List Nat × List Nat) := (true, [([], []), ([], []), ([0, 1], [0, 1]), ([], []), ([], []), ([3, 4], [3, 4]), ([2, 5], [2, 5]), ([], []), ([], []), ([7, 8], [7, 8]), ([9, 6], [9]), ([10], [10]), ([6, 11, 10], [6, 11]), ([12, 12, 0, 1, 2, 3, 4, 5, 6, 7, 8, 9, 10, 11, 12], [12])])
def impl_path.B6 : List Nat := [0, 0, 3, 0, 0, 24, 63, 0, 0, 384, 1023, 2047, 4095, 8191]
theorem impl_path.tab6 : rtab .any (opsOf Tryd.f61 6) = impl_path.T6 := by kernel_rfl
theorem impl_path.bits6 : waitsOk impl_path.T6.2 impl_path.B6 = true := by kernel_rfl
set_option maxHeartbeats 8000000 in
set_option maxRecDepth 100000 in
theorem impl_path.calls (k : Nat) : ∀ (A0 : Option Addr) (c0 : Nat) (l0 : List (S27)) (a1 : Int) (r : List ByteArray) (w : World) (hr0 : Kd.C k27 w A0 l0.length l0) (hc0 : l0.length ≤ c0) (hT : Tab w) (h : impl_path.f k l0 a1 = some r),
 Calls Tryd.prog 61 #[.slice A0 l0.length c0, .int .i64 a1] w fun e w' => ∃ v0_ : Value, e = .returned (v0_) ∧ Kd.R Kd.string 9 w' w.heap.size (fun _ => True) v0_ r ∧ Below w.heap.size w w' := by
 induction k using Nat.strongRecOn with
 | _ k ih =>
 intro A0 c0 l0 a1 r w hr0 hc0 hT h
 cases k with
 | zero => exact absurd h (by simp [impl_path.f])
 | succ k =>
 simp only [impl_path.f] at h
 have HR0 := Aside0.mk hr0
 have HC0 := Aside0.mk hc0
 clear hr0 hc0
 have HT := Aside0.mk hT
 clear hT
 have HB := Aside0.mk (Below.refl w.heap.size w)
 have H : (if (l0.length : Int) = 1 then (some (([] : List ByteArray))) else ((impl_firsts.f k (l0.length : Int)).bind fun t333 => (if a1 < t333 then (if 0 ≤ t333 then (if t333 ≤ (l0.length : Int) then ((impl_path.f k (l0.take (t333 : Int).toNat) a1).bind fun t338 => ((impl_RootOf.f k (l0.drop (t333 : Int).toNat)).bind fun t345 => (if t338.length < 8796093022208 then (some (t338 ++ [t345])) else (none)))) else (none)) else (none)) else (if 0 ≤ t333 then (if t333 ≤ (l0.length : Int) then ((impl_path.f k (l0.drop (t333 : Int).toNat) (wrap64 (a1 - t333))).bind fun t353 => ((impl_RootOf.f k (l0.take (t333 : Int).toNat)).bind fun t360 => (if t353.length < 8796093022208 then (some (t353 ++ [t360])) else (none)))) else (none)) else (none))))) = some r := h
 clear h
 by_cases c3 : (l0.length : Int) = 1
 ·rw [if_pos c3] at H
  have c3b0 : ((l0.length : Int) == 1) = true := beq_iff_eq.mpr c3
  have c3b1 : ((l0.length : Int) != 1) = false := bne_eq_false_iff_eq.mpr c3
  clear c3
  obtain ⟨y330, hy330⟩ : ∃ y_ : List ByteArray, y_ = (([] : List ByteArray)) := ⟨_, rfl⟩
  replace H : (some y330) = some r := by first | (rw [hy330]; with_reducible exact H) | (have H2_ := (Option.bind_some _ _).symm.trans H; rw [hy330]; with_reducible exact H2_) | (have H2_ := (Option.bind_some _ _).symm.trans H; with_reducible exact H2_) | with_reducible exact H | (rw [hy330]; exact H) | exact H
  have Ny330 := Aside0.mk hy330
  clear hy330
  obtain rfl := Option.some.inj H
  go_enter Tryd.func61, Tryd.ntmps61
  go_wp2_with (first | ((with_reducible refine gate_dst (N := 9) rfl ?_); refine Kd.R_lit Kd.string _ 9 ?hg (N := 9) ?hd (xs := ([] : List ByteArray)) (inner := []) (ok := fun _ => True) (okp := fun _ => True) ?hr ?hp (fun _ hk => hk) trivial (Below.refl _ _) (Nat.le_refl _) (by simp) ?_; (case hd => rfl); (case hg => rfl); (case hr => first | (go_simp; done) | (go_simp; rfl)); (case hp => exact (Reps.none _ _)); intro v331 w4 ho5 hb hg_ hnew_; clear hg_ hnew_; (first | rw [← Ny330.out] at ho5 | (simp only [Int.reduceToNat] at ho5; rw [← Ny330.out] at ho5)); have n0_ := Aside0.mk (Kd.R_lower ho5 (below_size bl_)); have n1_ := Aside0.mk (below_step bl_ hb); clear HB; have HO332 := n0_; have HB := n1_; clear n0_ n1_; clear hb ho5))
  go_ret
  exact ⟨_, by first | rfl | (simp [errW_none, errW_some] <;> rfl) | (simp [*, errW_none, errW_some] <;> rfl) | exact False.elim (Bool.noConfusion ((decide_eq_true (of_eq_true (by assumption))).symm.trans (by assumption))), ra_ HO332.out, bl_⟩
 ·rw [if_neg c3] at H
  have c3b0 : ((l0.length : Int) == 1) = false := beq_eq_false_iff_ne.mpr c3
  have c3b1 : ((l0.length : Int) != 1) = true := bne_iff_ne.mpr c3
  replace H := Option.bind_eq_some_iff.mp H
  obtain ⟨t333, A60, H⟩ := H
  try dsimp only at H
  have A6 := Aside0.mk A60
  clear A60
  by_cases c7 : a1 < t333
  ·rw [if_pos c7] at H
   have c7b0 : decide (a1 < t333) = true := decide_eq_true c7
   clear c7
   by_cases c8 : 0 ≤ t333
   ·rw [if_pos c8] at H
    have c8b0 := eq_true c8
    have c8b1 : decide (0 ≤ t333) = true := decide_eq_true c8
    clear c8
    by_cases c9 : t333 ≤ (l0.length : Int)
    ·rw [if_pos c9] at H
     have c9b0 := eq_true c9
     have c9b1 : decide (t333 ≤ (l0.length : Int)) = true := decide_eq_true c9
     clear c9
     obtain ⟨y334, hy334⟩ : ∃ y_ : List (S27), y_ = (l0.take (t333 : Int).toNat) := ⟨_, rfl⟩
     replace H : ((impl_path.f k y334 a1).bind fun t338 => ((impl_RootOf.f k (l0.drop (t333 : Int).toNat)).bind fun t345 => (if t338.length < 8796093022208 then (some (t338 ++ [t345])) else (none)))) = some r := by first | (rw [hy334]; with_reducible exact H) | (have H2_ := (Option.bind_some _ _).symm.trans H; rw [hy334]; with_reducible exact H2_) | (have H2_ := (Option.bind_some _ _).symm.trans H; with_reducible exact H2_) | with_reducible exact H | (rw [hy334]; exact H) | exact H
     have Ny334 := Aside0.mk hy334
     clear hy334
     replace H := Option.bind_eq_some_iff.mp H
     obtain ⟨t338, A100, H⟩ := H
     try dsimp only at H
     have A10 := Aside0.mk A100
     clear A100
     have c11b0 := eq_true (of_decide_eq_true as_ : 0 ≤ t333)
     have c12b0 := eq_true (of_decide_eq_true as_ : t333 ≤ (l0.length : Int))
     obtain ⟨y341, hy341⟩ : ∃ y_ : List (S27), y_ = (l0.drop (t333 : Int).toNat) := ⟨_, rfl⟩
     replace H : ((impl_RootOf.f k y341).bind fun t345 => (if t338.length < 8796093022208 then (some (t338 ++ [t345])) else (none))) = some r := by first | (rw [hy341]; with_reducible exact H) | (have H2_ := (Option.bind_some _ _).symm.trans H; rw [hy341]; with_reducible exact H2_) | (have H2_ := (Option.bind_some _ _).symm.trans H; with_reducible exact H2_) | with_reducible exact H | (rw [hy341]; exact H) | exact H
     have Ny341 := Aside0.mk hy341
     clear hy341
     replace H := Option.bind_eq_some_iff.mp H
     obtain ⟨t345, A130, H⟩ := H
     try dsimp only at H
     have A13 := Aside0.mk A130
     clear A130
     by_cases c14 : t338.length < 8796093022208
     ·rw [if_pos c14] at H
      have LMc14 := Aside0.mk c14
      clear c14
      obtain ⟨y346, hy346⟩ : ∃ y_ : List ByteArray, y_ = (t338 ++ [t345]) := ⟨_, rfl⟩
      replace H : (some y346) = some r := by first | (rw [hy346]; with_reducible exact H) | (have H2_ := (Option.bind_some _ _).symm.trans H; rw [hy346]; with_reducible exact H2_) | (have H2_ := (Option.bind_some _ _).symm.trans H; with_reducible exact H2_) | with_reducible exact H | (rw [hy346]; exact H) | exact H
      have Ny346 := Aside0.mk hy346
      clear hy346
      obtain rfl := Option.some.inj H
      go_enter Tryd.func61, Tryd.ntmps61
      try go_wp2_with (first | ((with_reducible refine gate_callee (f := 67) rfl ?_); refine goesL_ (some 12) rfl rfl Tryd.func67 (by kernel_rfl) rfl #[.int .i64 (l0.length : Int)] rfl lm_ ?_; (with_reducible refine (impl_firsts.calls k (l0.length : Int) t333 _ A6.out).mono ?_); rintro e w' ⟨rfl, ⟨nd, rfl⟩⟩; refine ⟨_, rfl, ?_⟩))
      generalize hq_ : World.drewN w _ = w15
      have n0_ := Aside0.mk (below_at hq_ HB.out)
      clear HB
      have HB := n0_
      clear n0_
      clear hq_
      have n0_ := Aside0.mk (below_drew1 HB.out)
      clear HB
      have HB := n0_
      clear n0_
      have q17 : (t333 : Int) ≤ ((l0.length : Int) : Int) := of_decide_eq_true as_
      obtain ⟨i017, hi017, _, hsz17, _⟩ := info_parts info27
      have hroom17 : l0.length ≤ c0 := HC0.out
      have hC17 : Kd.C k27 _ A0 l0.length l0 := HR0.out
      have hcut17 := cut_to (P := Tryd.prog) 31 27 .i64 Tryd.underlying31 hi017 A0 l0.length c0 t333 (of_decide_eq_true as_) q17 hroom17
      have hr17 := Kd.C_take (m := (t333 : Int).toNat) hC17 (by omega)
      have hy17 : y334.length = (t333 : Int).toNat := (by rw [Ny334.out, List.length_take]; omega)
      rw [← Ny334.out] at hr17
      rw [← hy17] at hcut17
      have HR337 := Aside0.mk hr17
      have HC337 := Aside0.mk (show y334.length ≤ c0 from by omega)
      clear hr17 hC17 hroom17 hi017 hsz17
      have KY17 := Aside0.mk hy17
      clear hy17
      replace q17 := eq_true q17
      have q18 : (t333 : Int) ≤ ((l0.length : Int) : Int) := of_decide_eq_true as_
      obtain ⟨i018, hi018, _, hsz18, _⟩ := info_parts info27
      have hroom18 : l0.length ≤ c0 := HC0.out
      have hC18 : Kd.C k27 _ A0 l0.length l0 := HR0.out
      have q018 : (0 : Int) ≤ (t333 : Int) := of_decide_eq_true as_
      have hcut18 := cut_from (P := Tryd.prog) 31 27 .i64 Tryd.underlying31 hi018 6 hsz18 A0 l0.length c0 t333 q018 q18
      have hr18 := Kd.C_drop (m := (t333 : Int).toNat) (c := c0) hC18 (by omega) hroom18
      obtain ⟨A18, hA18⟩ : ∃ A1, A1 = (if c0 = (t333 : Int).toNat then A0 else (A0 : Option Addr).map (·.add ((t333 : Int).toNat * 6))) := ⟨_, rfl⟩
      obtain ⟨c18, hc18⟩ : ∃ c1, c1 = c0 - (t333 : Int).toNat := ⟨_, rfl⟩
      have hy18 : y341.length = l0.length - (t333 : Int).toNat := (by rw [Ny341.out, List.length_drop] <;> omega)
      rw [show (l0).drop (t333 : Int).toNat = y341 from Ny341.out.symm] at hr18
      replace hr18 : Kd.C k27 _ A18 y341.length y341 := (by rw [hA18]; exact hr18)
      rw [← hy18, ← hA18, ← hc18] at hcut18
      have HR344 := Aside0.mk hr18
      have HC344 := Aside0.mk (show y341.length ≤ c18 from by rw [hy18, hc18]; exact Nat.sub_le_sub_right hroom18 _)
      clear hr18 hC18 hroom18 hi018 hsz18 hc18
      have KY18 := Aside0.mk hy18
      have KA18 := Aside0.mk hA18
      clear hy18 hA18
      replace q18 := eq_true q18
      refine start_ (n := 12) (S := fun w' => True) (ds := []) #[false, false, false, false, false, false, false, false, false, false, false, false] (by kernel_rfl) rfl rfl trivial (fun hHeld => ?_); refine with_tabW impl_path.tab5 impl_path.bits5 (fun HT_ HW_ => ?_)
      generalize w15.drew = w16 at HB HR337 HR344 hHeld ⊢
      refine pure_ (i := 0) (N := some 16) (v := ?_) (a' := ?_) #[true, false, false, false, false, false, false, false, false, false, false, false] rfl rfl (any_of HT_.out (by kernel_rfl)) (fun _ _ _ h => h) (Or.inl ⟨by rfl, ?_⟩) ?_ ?_
      rotate_left
      ·intro w'
       go_simp
       with_reducible rfl
      rotate_left
      ·simp only [Act.put, List.setIfInBounds_toArray, List.set_cons_zero, List.set_cons_succ, i64_w, i32_w]
       rfl
      refine pure_ (i := 1) (N := some 17) (v := ?_) (a' := ?_) #[true, true, false, false, false, false, false, false, false, false, false, false] rfl rfl (any_of HT_.out (by kernel_rfl)) (fun _ _ _ h => h) (Or.inl ⟨by rfl, ?_⟩) ?_ ?_
      rotate_left
      ·intro w'
       go_simp
       with_reducible rfl
      rotate_left
      ·simp only [Act.put, List.setIfInBounds_toArray, List.set_cons_zero, List.set_cons_succ, i64_w, i32_w]
       rfl
      refine pure_ (i := 2) (N := some 18) (v := ?_) (a' := ?_) #[true, true, true, false, false, false, false, false, false, false, false, false] rfl rfl (any_of HT_.out (by kernel_rfl)) (fun _ _ _ h => h) (Or.inl ⟨by rfl, ?_⟩) ?_ ?_
      rotate_left
      ·intro w'
       go_simp
       with_reducible rfl
      rotate_left
      ·simp only [Act.put, List.setIfInBounds_toArray, List.set_cons_zero, List.set_cons_succ, i64_w, i32_w]
       rfl
      refine pure_ (i := 3) (N := some 19) (v := ?_) (a' := ?_) #[true, true, true, true, false, false, false, false, false, false, false, false] rfl rfl (any_of HT_.out (by kernel_rfl)) (fun _ _ _ h => h) (Or.inl ⟨by rfl, ?_⟩) ?_ ?_
      rotate_left
      ·intro w'
       go_simp
       with_reducible rfl
      rotate_left
      ·simp only [Act.put, List.setIfInBounds_toArray, List.set_cons_zero, List.set_cons_succ, i64_w, i32_w]
       rfl
      refine pure_ (i := 5) (N := some 21) (v := ?_) (a' := ?_) #[true, true, true, true, false, true, false, false, false, false, false, false] rfl rfl (any_of HT_.out (by kernel_rfl)) (fun _ _ _ h => h) (Or.inl ⟨by rfl, ?_⟩) ?_ ?_
      rotate_left
      ·intro w'
       go_simp
       with_reducible rfl
      rotate_left
      ·simp only [Act.put, List.setIfInBounds_toArray, List.set_cons_zero, List.set_cons_succ, i64_w, i32_w]
       rfl
      refine pure_ (i := 6) (N := some 22) (v := ?_) (a' := ?_) #[true, true, true, true, false, true, true, false, false, false, false, false] rfl rfl (any_of HT_.out (by kernel_rfl)) (fun _ _ _ h => h) (Or.inl ⟨by rfl, ?_⟩) ?_ ?_
      rotate_left
      ·intro w'
       go_simp
       with_reducible rfl
      rotate_left
      ·simp only [Act.put, List.setIfInBounds_toArray, List.set_cons_zero, List.set_cons_succ, i64_w, i32_w]
       rfl
      refine pure_ (i := 7) (N := some 23) (v := ?_) (a' := ?_) #[true, true, true, true, false, true, true, true, false, false, false, false] rfl rfl (any_of HT_.out (by kernel_rfl)) (fun _ _ _ h => h) (Or.inl ⟨by rfl, ?_⟩) ?_ ?_
      rotate_left
      ·intro w'
       go_simp
       with_reducible rfl
      rotate_left
      ·simp only [Act.put, List.setIfInBounds_toArray, List.set_cons_zero, List.set_cons_succ, i64_w, i32_w]
       rfl
      refine one_ (i := 4) (N := some 20) #[true, true, true, true, true, true, true, true, false, false, false, false] rfl rfl (one_of HT_.out (by kernel_rfl)) (by decide) (fun K hK => ?_)
      refine goes_ Tryd.func61 (by kernel_rfl) rfl #[.slice A0 y334.length c0, .int .i64 a1] (by rfl) rfl rfl lm_ ?_
      with_reducible refine (ih k (by omega) _ _ y334 a1 t338 _ ?side1 ?side2 ?side3 A10.out).mono ?_
      (case side1 => repeat (first | exact (Kd.C_below HR337.out HB.out) | exact HR337.out | (with_reducible refine Kd.C_alloc ?_ _) | (with_reducible refine Kd.C_drewN ?_ _) | (with_reducible refine Kd.C_drew ?_)))
      (case side2 => exact HC337.out)
      (case side3 => exact tab_of HT.out bl_)
      rintro e w19 ⟨v339, rfl, ho0, hb⟩
      refine ⟨_, rfl, ?_⟩
      have n0_ := Aside0.mk (Kd.R_lower ho0 (below_size bl_))
      have n1_ := Aside0.mk (below_step bl_ hb)
      clear HB
      have HO340 := n0_
      have HB := n1_
      clear n0_ n1_
      (try clear hb)
      (try clear hb2)
      (try clear hk)
      (try clear hi)
      (try clear ho0)
      refine hK.out _ _ trivial (fun hHeld => ?_)
      clear hK K
      refine norm_ (a' := ?_) ?_ ?_
      rotate_left
      ·show Act.put _ (some 20) _ = _
       simp only [Act.put, List.setIfInBounds_toArray, List.set_cons_zero, List.set_cons_succ, i64_w, i32_w]
       rfl
      refine one_ (i := 8) (N := some 24) #[true, true, true, true, true, true, true, true, true, false, false, false] rfl rfl (one_of HT_.out (by kernel_rfl)) (by decide) (fun K hK => ?_)
      refine goes_ Tryd.func17 (by kernel_rfl) rfl #[.slice A18 y341.length c18] (by rfl) rfl rfl lm_ ?_
      with_reducible refine (impl_RootOf.calls k _ _ y341 t345 _ ?side1 ?side2 ?side3 A13.out).mono ?_
      (case side1 => repeat (first | exact (Kd.C_below HR344.out HB.out) | exact HR344.out | (with_reducible refine Kd.C_alloc ?_ _) | (with_reducible refine Kd.C_drewN ?_ _) | (with_reducible refine Kd.C_drew ?_)))
      (case side2 => exact HC344.out)
      (case side3 => exact tab_of HT.out bl_)
      rintro e w20 ⟨rfl, hb⟩
      refine ⟨_, rfl, ?_⟩
      have n0_ := Aside0.mk (Kd.R_below (ra_ HO340.out) hb)
      have n1_ := Aside0.mk (below_step bl_ hb)
      clear HO340
      clear HB
      have HO340 := n0_
      have HB := n1_
      clear n0_ n1_
      (try clear hb)
      (try clear hb2)
      (try clear hk)
      (try clear hi)
      refine hK.out _ _ trivial (fun hHeld => ?_)
      clear hK K
      refine norm_ (a' := ?_) ?_ ?_
      rotate_left
      ·show Act.put _ (some 24) _ = _
       simp only [Act.put, List.setIfInBounds_toArray, List.set_cons_zero, List.set_cons_succ, i64_w, i32_w]
       rfl
      refine one_ (i := 9) (N := some 25) #[true, true, true, true, true, true, true, true, true, true, false, false] rfl rfl (one_of HT_.out (by kernel_rfl)) (by decide) (fun K hK => ?_)
      refine value_ (w1 := ?_) (v := ?_) (by rfl) rfl ?_ ?_
      rotate_left 2
      ·go_simp
       constructor
       ·rfl
       ·rfl
      refine hK.out _ _ trivial (fun hHeld => ?_)
      clear hK K
      refine norm_ (a' := ?_) ?_ ?_
      rotate_left
      ·show Act.put _ (some 25) _ = _
       simp only [Act.put, List.setIfInBounds_toArray, List.set_cons_zero, List.set_cons_succ, i64_w, i32_w]
       rfl
      refine one_ (i := 10) (N := some 26) #[true, true, true, true, true, true, true, true, true, true, true, false] rfl rfl (one_of HT_.out (by kernel_rfl)) (by decide) (fun K hK => ?_)
      refine Kd.R_append_step Kd.string (w0 := w) w.heap.size (by rfl) (.tmp 20) (.tmp 25) 34 9 (.string ⟨#[]⟩) 16 rfl Tryd.underlying34 info9 rfl (by decide) (by omega) v339 t338 t345 [.string t345] (fun _ => True) (fun _ => False) rfl rfl ?aP (fun _ hk => hk.elim) ?aF ?aO ?aB ?aS ?aL ?_
      (case aP => exact rfl)
      (case aB => exact bl_)
      (case aF => exact (fun _ _ => trivial))
      (case aO => exact (ra_ HO340.out))
      (case aS => exact (below_size bl_))
      (case aL => have := LMc14.out; omega)
      intro v347 w21 ho hb hg hat
      rw [← Ny346.out] at ho
      have n0_ := Aside0.mk (hb)
      have n1_ := Aside0.mk (ho)
      clear HB
      clear HO340
      have HB := n0_
      have HO348 := n1_
      clear n0_ n1_
      clear ho hb hg hat
      refine hK.out _ _ trivial (fun hHeld => ?_)
      clear hK K
      refine norm_ (a' := ?_) ?_ ?_
      rotate_left
      ·show Act.put _ (some 26) _ = _
       simp only [Act.put, List.setIfInBounds_toArray, List.set_cons_zero, List.set_cons_succ, i64_w, i32_w]
       rfl
      refine pure_ (i := 11) (N := some 4) (v := ?_) (a' := ?_) #[true, true, true, true, true, true, true, true, true, true, true, true] rfl rfl (any_of HT_.out (by kernel_rfl)) (fun _ _ _ h => h) (Or.inl ⟨by rfl, ?_⟩) ?_ ?_
      rotate_left
      ·intro w'
       go_simp
       with_reducible rfl
      rotate_left
      ·simp only [Act.put, List.setIfInBounds_toArray, List.set_cons_zero, List.set_cons_succ, i64_w, i32_w]
       rfl
      refine done_ (done_of HT_.out (by kernel_rfl)) ?_
      try go_wp2
      go_ret
      exact ⟨_, by first | rfl | (simp [errW_none, errW_some] <;> rfl) | (simp [*, errW_none, errW_some] <;> rfl) | exact False.elim (Bool.noConfusion ((decide_eq_true (of_eq_true (by assumption))).symm.trans (by assumption))), ra_ HO348.out, bl_⟩
     ·rw [if_neg c14] at H
      exact absurd H (by simp)
    ·rw [if_neg c9] at H
     exact absurd H (by simp)
   ·rw [if_neg c8] at H
    exact absurd H (by simp)
  ·rw [if_neg c7] at H
   have c7b0 : decide (a1 < t333) = false := decide_eq_false c7
   clear c7
   by_cases c22 : 0 ≤ t333
   ·rw [if_pos c22] at H
    have c22b0 := eq_true c22
    have c22b1 : decide (0 ≤ t333) = true := decide_eq_true c22
    clear c22
    by_cases c23 : t333 ≤ (l0.length : Int)
    ·rw [if_pos c23] at H
     have c23b0 := eq_true c23
     have c23b1 : decide (t333 ≤ (l0.length : Int)) = true := decide_eq_true c23
     clear c23
     obtain ⟨y349, hy349⟩ : ∃ y_ : List (S27), y_ = (l0.drop (t333 : Int).toNat) := ⟨_, rfl⟩
     replace H : ((impl_path.f k y349 (wrap64 (a1 - t333))).bind fun t353 => ((impl_RootOf.f k (l0.take (t333 : Int).toNat)).bind fun t360 => (if t353.length < 8796093022208 then (some (t353 ++ [t360])) else (none)))) = some r := by first | (rw [hy349]; with_reducible exact H) | (have H2_ := (Option.bind_some _ _).symm.trans H; rw [hy349]; with_reducible exact H2_) | (have H2_ := (Option.bind_some _ _).symm.trans H; with_reducible exact H2_) | with_reducible exact H | (rw [hy349]; exact H) | exact H
     have Ny349 := Aside0.mk hy349
     clear hy349
     replace H := Option.bind_eq_some_iff.mp H
     obtain ⟨t353, A240, H⟩ := H
     try dsimp only at H
     have A24 := Aside0.mk A240
     clear A240
     have c25b0 := eq_true (of_decide_eq_true as_ : 0 ≤ t333)
     have c26b0 := eq_true (of_decide_eq_true as_ : t333 ≤ (l0.length : Int))
     obtain ⟨y356, hy356⟩ : ∃ y_ : List (S27), y_ = (l0.take (t333 : Int).toNat) := ⟨_, rfl⟩
     replace H : ((impl_RootOf.f k y356).bind fun t360 => (if t353.length < 8796093022208 then (some (t353 ++ [t360])) else (none))) = some r := by first | (rw [hy356]; with_reducible exact H) | (have H2_ := (Option.bind_some _ _).symm.trans H; rw [hy356]; with_reducible exact H2_) | (have H2_ := (Option.bind_some _ _).symm.trans H; with_reducible exact H2_) | with_reducible exact H | (rw [hy356]; exact H) | exact H
     have Ny356 := Aside0.mk hy356
     clear hy356
     replace H := Option.bind_eq_some_iff.mp H
     obtain ⟨t360, A270, H⟩ := H
     try dsimp only at H
     have A27 := Aside0.mk A270
     clear A270
     by_cases c28 : t353.length < 8796093022208
     ·rw [if_pos c28] at H
      have LMc28 := Aside0.mk c28
      clear c28
      obtain ⟨y361, hy361⟩ : ∃ y_ : List ByteArray, y_ = (t353 ++ [t360]) := ⟨_, rfl⟩
      replace H : (some y361) = some r := by first | (rw [hy361]; with_reducible exact H) | (have H2_ := (Option.bind_some _ _).symm.trans H; rw [hy361]; with_reducible exact H2_) | (have H2_ := (Option.bind_some _ _).symm.trans H; with_reducible exact H2_) | with_reducible exact H | (rw [hy361]; exact H) | exact H
      have Ny361 := Aside0.mk hy361
      clear hy361
      obtain rfl := Option.some.inj H
      go_enter Tryd.func61, Tryd.ntmps61
      try go_wp2_with (first | ((with_reducible refine gate_callee (f := 67) rfl ?_); refine goesL_ (some 12) rfl rfl Tryd.func67 (by kernel_rfl) rfl #[.int .i64 (l0.length : Int)] rfl lm_ ?_; (with_reducible refine (impl_firsts.calls k (l0.length : Int) t333 _ A6.out).mono ?_); rintro e w' ⟨rfl, ⟨nd, rfl⟩⟩; refine ⟨_, rfl, ?_⟩))
      generalize hq_ : World.drewN w _ = w29
      have n0_ := Aside0.mk (below_at hq_ HB.out)
      clear HB
      have HB := n0_
      clear n0_
      clear hq_
      have n0_ := Aside0.mk (below_drew1 HB.out)
      clear HB
      have HB := n0_
      clear n0_
      have q31 : (t333 : Int) ≤ ((l0.length : Int) : Int) := of_decide_eq_true as_
      obtain ⟨i031, hi031, _, hsz31, _⟩ := info_parts info27
      have hroom31 : l0.length ≤ c0 := HC0.out
      have hC31 : Kd.C k27 _ A0 l0.length l0 := HR0.out
      have q031 : (0 : Int) ≤ (t333 : Int) := of_decide_eq_true as_
      have hcut31 := cut_from (P := Tryd.prog) 31 27 .i64 Tryd.underlying31 hi031 6 hsz31 A0 l0.length c0 t333 q031 q31
      have hr31 := Kd.C_drop (m := (t333 : Int).toNat) (c := c0) hC31 (by omega) hroom31
      obtain ⟨A31, hA31⟩ : ∃ A1, A1 = (if c0 = (t333 : Int).toNat then A0 else (A0 : Option Addr).map (·.add ((t333 : Int).toNat * 6))) := ⟨_, rfl⟩
      obtain ⟨c31, hc31⟩ : ∃ c1, c1 = c0 - (t333 : Int).toNat := ⟨_, rfl⟩
      have hy31 : y349.length = l0.length - (t333 : Int).toNat := (by rw [Ny349.out, List.length_drop] <;> omega)
      rw [show (l0).drop (t333 : Int).toNat = y349 from Ny349.out.symm] at hr31
      replace hr31 : Kd.C k27 _ A31 y349.length y349 := (by rw [hA31]; exact hr31)
      rw [← hy31, ← hA31, ← hc31] at hcut31
      have HR352 := Aside0.mk hr31
      have HC352 := Aside0.mk (show y349.length ≤ c31 from by rw [hy31, hc31]; exact Nat.sub_le_sub_right hroom31 _)
      clear hr31 hC31 hroom31 hi031 hsz31 hc31
      have KY31 := Aside0.mk hy31
      have KA31 := Aside0.mk hA31
      clear hy31 hA31
      replace q31 := eq_true q31
      have q32 : (t333 : Int) ≤ ((l0.length : Int) : Int) := of_decide_eq_true as_
      obtain ⟨i032, hi032, _, hsz32, _⟩ := info_parts info27
      have hroom32 : l0.length ≤ c0 := HC0.out
      have hC32 : Kd.C k27 _ A0 l0.length l0 := HR0.out
      have hcut32 := cut_to (P := Tryd.prog) 31 27 .i64 Tryd.underlying31 hi032 A0 l0.length c0 t333 (of_decide_eq_true as_) q32 hroom32
      have hr32 := Kd.C_take (m := (t333 : Int).toNat) hC32 (by omega)
      have hy32 : y356.length = (t333 : Int).toNat := (by rw [Ny356.out, List.length_take]; omega)
      rw [← Ny356.out] at hr32
      rw [← hy32] at hcut32
      have HR359 := Aside0.mk hr32
      have HC359 := Aside0.mk (show y356.length ≤ c0 from by omega)
      clear hr32 hC32 hroom32 hi032 hsz32
      have KY32 := Aside0.mk hy32
      clear hy32
      replace q32 := eq_true q32
      refine start_ (n := 14) (S := fun w' => True) (ds := []) #[false, false, false, false, false, false, false, false, false, false, false, false, false, false] (by kernel_rfl) rfl rfl trivial (fun hHeld => ?_); refine with_tabW impl_path.tab6 impl_path.bits6 (fun HT_ HW_ => ?_)
      generalize w29.drew = w30 at HB HR352 HR359 hHeld ⊢
      refine pure_ (i := 0) (N := some 27) (v := ?_) (a' := ?_) #[true, false, false, false, false, false, false, false, false, false, false, false, false, false] rfl rfl (any_of HT_.out (by kernel_rfl)) (fun _ _ _ h => h) (Or.inl ⟨by rfl, ?_⟩) ?_ ?_
      rotate_left
      ·intro w'
       go_simp
       with_reducible rfl
      rotate_left
      ·simp only [Act.put, List.setIfInBounds_toArray, List.set_cons_zero, List.set_cons_succ, i64_w, i32_w]
       rfl
      refine pure_ (i := 1) (N := some 28) (v := ?_) (a' := ?_) #[true, true, false, false, false, false, false, false, false, false, false, false, false, false] rfl rfl (any_of HT_.out (by kernel_rfl)) (fun _ _ _ h => h) (Or.inl ⟨by rfl, ?_⟩) ?_ ?_
      rotate_left
      ·intro w'
       go_simp
       with_reducible rfl
      rotate_left
      ·simp only [Act.put, List.setIfInBounds_toArray, List.set_cons_zero, List.set_cons_succ, i64_w, i32_w]
       rfl
      refine pure_ (i := 2) (N := some 29) (v := ?_) (a' := ?_) #[true, true, true, false, false, false, false, false, false, false, false, false, false, false] rfl rfl (any_of HT_.out (by kernel_rfl)) (fun _ _ _ h => h) (Or.inl ⟨by rfl, ?_⟩) ?_ ?_
      rotate_left
      ·intro w'
       go_simp
       with_reducible rfl
      rotate_left
      ·simp only [Act.put, List.setIfInBounds_toArray, List.set_cons_zero, List.set_cons_succ, i64_w, i32_w]
       rfl
      refine pure_ (i := 3) (N := some 30) (v := ?_) (a' := ?_) #[true, true, true, true, false, false, false, false, false, false, false, false, false, false] rfl rfl (any_of HT_.out (by kernel_rfl)) (fun _ _ _ h => h) (Or.inl ⟨by rfl, ?_⟩) ?_ ?_
      rotate_left
      ·intro w'
       go_simp
       with_reducible rfl
      rotate_left
      ·simp only [Act.put, List.setIfInBounds_toArray, List.set_cons_zero, List.set_cons_succ, i64_w, i32_w]
       rfl
      refine pure_ (i := 4) (N := some 31) (v := ?_) (a' := ?_) #[true, true, true, true, true, false, false, false, false, false, false, false, false, false] rfl rfl (any_of HT_.out (by kernel_rfl)) (fun _ _ _ h => h) (Or.inl ⟨by rfl, ?_⟩) ?_ ?_
      rotate_left
      ·intro w'
       go_simp
       with_reducible rfl
      rotate_left
      ·simp only [Act.put, List.setIfInBounds_toArray, List.set_cons_zero, List.set_cons_succ, i64_w, i32_w]
       rfl
      refine pure_ (i := 5) (N := some 32) (v := ?_) (a' := ?_) #[true, true, true, true, true, true, false, false, false, false, false, false, false, false] rfl rfl (any_of HT_.out (by kernel_rfl)) (fun _ _ _ h => h) (Or.inl ⟨by rfl, ?_⟩) ?_ ?_
      rotate_left
      ·intro w'
       go_simp
       with_reducible rfl
      rotate_left
      ·simp only [Act.put, List.setIfInBounds_toArray, List.set_cons_zero, List.set_cons_succ, i64_w, i32_w]
       rfl
      refine pure_ (i := 7) (N := some 34) (v := ?_) (a' := ?_) #[true, true, true, true, true, true, false, true, false, false, false, false, false, false] rfl rfl (any_of HT_.out (by kernel_rfl)) (fun _ _ _ h => h) (Or.inl ⟨by rfl, ?_⟩) ?_ ?_
      rotate_left
      ·intro w'
       go_simp
       with_reducible rfl
      rotate_left
      ·simp only [Act.put, List.setIfInBounds_toArray, List.set_cons_zero, List.set_cons_succ, i64_w, i32_w]
       rfl
      refine pure_ (i := 8) (N := some 35) (v := ?_) (a' := ?_) #[true, true, true, true, true, true, false, true, true, false, false, false, false, false] rfl rfl (any_of HT_.out (by kernel_rfl)) (fun _ _ _ h => h) (Or.inl ⟨by rfl, ?_⟩) ?_ ?_
      rotate_left
      ·intro w'
       go_simp
       with_reducible rfl
      rotate_left
      ·simp only [Act.put, List.setIfInBounds_toArray, List.set_cons_zero, List.set_cons_succ, i64_w, i32_w]
       rfl
      refine pure_ (i := 9) (N := some 36) (v := ?_) (a' := ?_) #[true, true, true, true, true, true, false, true, true, true, false, false, false, false] rfl rfl (any_of HT_.out (by kernel_rfl)) (fun _ _ _ h => h) (Or.inl ⟨by rfl, ?_⟩) ?_ ?_
      rotate_left
      ·intro w'
       go_simp
       with_reducible rfl
      rotate_left
      ·simp only [Act.put, List.setIfInBounds_toArray, List.set_cons_zero, List.set_cons_succ, i64_w, i32_w]
       rfl
      refine one_ (i := 6) (N := some 33) #[true, true, true, true, true, true, true, true, true, true, false, false, false, false] rfl rfl (one_of HT_.out (by kernel_rfl)) (by decide) (fun K hK => ?_)
      refine goes_ Tryd.func61 (by kernel_rfl) rfl #[.slice A31 y349.length c31, .int .i64 (wrap64 (a1 - t333))] (by rfl) rfl rfl lm_ ?_
      with_reducible refine (ih k (by omega) _ _ y349 (wrap64 (a1 - t333)) t353 _ ?side1 ?side2 ?side3 A24.out).mono ?_
      (case side1 => repeat (first | exact (Kd.C_below HR352.out HB.out) | exact HR352.out | (with_reducible refine Kd.C_alloc ?_ _) | (with_reducible refine Kd.C_drewN ?_ _) | (with_reducible refine Kd.C_drew ?_)))
      (case side2 => exact HC352.out)
      (case side3 => exact tab_of HT.out bl_)
      rintro e w33 ⟨v354, rfl, ho0, hb⟩
      refine ⟨_, rfl, ?_⟩
      have n0_ := Aside0.mk (Kd.R_lower ho0 (below_size bl_))
      have n1_ := Aside0.mk (below_step bl_ hb)
      clear HB
      have HO355 := n0_
      have HB := n1_
      clear n0_ n1_
      (try clear hb)
      (try clear hb2)
      (try clear hk)
      (try clear hi)
      (try clear ho0)
      refine hK.out _ _ trivial (fun hHeld => ?_)
      clear hK K
      refine norm_ (a' := ?_) ?_ ?_
      rotate_left
      ·show Act.put _ (some 33) _ = _
       simp only [Act.put, List.setIfInBounds_toArray, List.set_cons_zero, List.set_cons_succ, i64_w, i32_w]
       rfl
      refine one_ (i := 10) (N := some 37) #[true, true, true, true, true, true, true, true, true, true, true, false, false, false] rfl rfl (one_of HT_.out (by kernel_rfl)) (by decide) (fun K hK => ?_)
      refine goes_ Tryd.func17 (by kernel_rfl) rfl #[.slice A0 y356.length c0] (by rfl) rfl rfl lm_ ?_
      with_reducible refine (impl_RootOf.calls k _ _ y356 t360 _ ?side1 ?side2 ?side3 A27.out).mono ?_
      (case side1 => repeat (first | exact (Kd.C_below HR359.out HB.out) | exact HR359.out | (with_reducible refine Kd.C_alloc ?_ _) | (with_reducible refine Kd.C_drewN ?_ _) | (with_reducible refine Kd.C_drew ?_)))
      (case side2 => exact HC359.out)
      (case side3 => exact tab_of HT.out bl_)
      rintro e w34 ⟨rfl, hb⟩
      refine ⟨_, rfl, ?_⟩
      have n0_ := Aside0.mk (Kd.R_below (ra_ HO355.out) hb)
      have n1_ := Aside0.mk (below_step bl_ hb)
      clear HO355
      clear HB
      have HO355 := n0_
      have HB := n1_
      clear n0_ n1_
      (try clear hb)
      (try clear hb2)
      (try clear hk)
      (try clear hi)
      refine hK.out _ _ trivial (fun hHeld => ?_)
      clear hK K
      refine norm_ (a' := ?_) ?_ ?_
      rotate_left
      ·show Act.put _ (some 37) _ = _
       simp only [Act.put, List.setIfInBounds_toArray, List.set_cons_zero, List.set_cons_succ, i64_w, i32_w]
       rfl
      refine one_ (i := 11) (N := some 38) #[true, true, true, true, true, true, true, true, true, true, true, true, false, false] rfl rfl (one_of HT_.out (by kernel_rfl)) (by decide) (fun K hK => ?_)
      refine value_ (w1 := ?_) (v := ?_) (by rfl) rfl ?_ ?_
      rotate_left 2
      ·go_simp
       constructor
       ·rfl
       ·rfl
      refine hK.out _ _ trivial (fun hHeld => ?_)
      clear hK K
      refine norm_ (a' := ?_) ?_ ?_
      rotate_left
      ·show Act.put _ (some 38) _ = _
       simp only [Act.put, List.setIfInBounds_toArray, List.set_cons_zero, List.set_cons_succ, i64_w, i32_w]
       rfl
      refine one_ (i := 12) (N := some 39) #[true, true, true, true, true, true, true, true, true, true, true, true, true, false] rfl rfl (one_of HT_.out (by kernel_rfl)) (by decide) (fun K hK => ?_)
      refine Kd.R_append_step Kd.string (w0 := w) w.heap.size (by rfl) (.tmp 33) (.tmp 38) 34 9 (.string ⟨#[]⟩) 16 rfl Tryd.underlying34 info9 rfl (by decide) (by omega) v354 t353 t360 [.string t360] (fun _ => True) (fun _ => False) rfl rfl ?aP (fun _ hk => hk.elim) ?aF ?aO ?aB ?aS ?aL ?_
      (case aP => exact rfl)
      (case aB => exact bl_)
      (case aF => exact (fun _ _ => trivial))
      (case aO => exact (ra_ HO355.out))
      (case aS => exact (below_size bl_))
      (case aL => have := LMc28.out; omega)
      intro v362 w35 ho hb hg hat
      rw [← Ny361.out] at ho
      have n0_ := Aside0.mk (hb)
      have n1_ := Aside0.mk (ho)
      clear HB
      clear HO355
      have HB := n0_
      have HO363 := n1_
      clear n0_ n1_
      clear ho hb hg hat
      refine hK.out _ _ trivial (fun hHeld => ?_)
      clear hK K
      refine norm_ (a' := ?_) ?_ ?_
      rotate_left
      ·show Act.put _ (some 39) _ = _
       simp only [Act.put, List.setIfInBounds_toArray, List.set_cons_zero, List.set_cons_succ, i64_w, i32_w]
       rfl
      refine pure_ (i := 13) (N := some 4) (v := ?_) (a' := ?_) #[true, true, true, true, true, true, true, true, true, true, true, true, true, true] rfl rfl (any_of HT_.out (by kernel_rfl)) (fun _ _ _ h => h) (Or.inl ⟨by rfl, ?_⟩) ?_ ?_
      rotate_left
      ·intro w'
       go_simp
       with_reducible rfl
      rotate_left
      ·simp only [Act.put, List.setIfInBounds_toArray, List.set_cons_zero, List.set_cons_succ, i64_w, i32_w]
       rfl
      refine done_ (done_of HT_.out (by kernel_rfl)) ?_
      try go_wp2
      go_ret
      exact ⟨_, by first | rfl | (simp [errW_none, errW_some] <;> rfl) | (simp [*, errW_none, errW_some] <;> rfl) | exact False.elim (Bool.noConfusion ((decide_eq_true (of_eq_true (by assumption))).symm.trans (by assumption))), ra_ HO363.out, bl_⟩
     ·rw [if_neg c28] at H
      exact absurd H (by simp)
    ·rw [if_neg c23] at H
     exact absurd H (by simp)
   ·rw [if_neg c22] at H
    exact absurd H (by simp)


/-! ### impl_PathOf: function 10 -/
def impl_PathOf.f (k : Nat) (l0 : List (S27)) (a1 : Int) : Option (List ByteArray × Bool) := if (l0.length : Int) > 200 then (some ((([] : List ByteArray)), false)) else ((impl_within.f a1 0 (wrap64 ((l0.length : Int) - 1))).bind fun t367 => (if t367 = true then ((impl_path.f k l0 a1).bind fun t368 => (some (t368, true))) else (some ((([] : List ByteArray)), false))))
theorem impl_PathOf.mono : ∀ a0 a1 k, LeO (impl_PathOf.f k a0 a1) (impl_PathOf.f (k + 1) a0 a1) := by
 intro a0 a1 k
 unfold impl_PathOf.f
 repeat' first
  | (with_reducible exact impl_path.mono _ _ _)
  | (with_reducible exact LeO.refl _)
  | (with_reducible exact LeO.none _)
  | (with_reducible refine LeO.ite ?_ ?_)
  | (with_reducible refine LeO.bind ?_ (fun _ => ?_))
  | exact impl_path.mono _ _ _
  | exact LeO.none _
  | refine LeO.ite ?_ ?_
  | refine LeO.bind ?_ (fun _ => ?_)
set_option maxHeartbeats 8000000 in
set_option maxRecDepth 100000 in
theorem impl_PathOf.calls (k : Nat) (A0 : Option Addr) (c0 : Nat) (l0 : List (S27)) (a1 : Int) (r1 : List ByteArray) (r2 : Bool) (w : World) (hr0 : Kd.C k27 w A0 l0.length l0) (hc0 : l0.length ≤ c0) (hT : Tab w) (h : impl_PathOf.f k l0 a1 = some (r1, r2)) :
 Calls Tryd.prog 10 #[.slice A0 l0.length c0, .int .i64 a1] w fun e w' => ∃ v0_ : Value, e = .returned (.tuple #[v0_, .bool r2]) ∧ Kd.R Kd.string 9 w' w.heap.size (fun _ => True) v0_ r1 ∧ Below w.heap.size w w' := by
 have HR0 := Aside0.mk hr0
 have HC0 := Aside0.mk hc0
 clear hr0 hc0
 have HT := Aside0.mk hT
 clear hT
 have HB := Aside0.mk (Below.refl w.heap.size w)
 have H : (if (l0.length : Int) > 200 then (some ((([] : List ByteArray)), false)) else ((impl_within.f a1 0 (wrap64 ((l0.length : Int) - 1))).bind fun t367 => (if t367 = true then ((impl_path.f k l0 a1).bind fun t368 => (some (t368, true))) else (some ((([] : List ByteArray)), false))))) = some (r1, r2) := h
 clear h
 by_cases c3 : (l0.length : Int) > 200
 ·rw [if_pos c3] at H
  have c3b0 : decide (200 < (l0.length : Int)) = true := decide_eq_true c3
  have c3b1 : decide (200 < l0.length) = true := decide_eq_true (by omega)
  clear c3
  obtain ⟨y364, hy364⟩ : ∃ y_ : List ByteArray, y_ = (([] : List ByteArray)) := ⟨_, rfl⟩
  replace H : (some (y364, false)) = some (r1, r2) := by first | (rw [hy364]; with_reducible exact H) | (have H2_ := (Option.bind_some _ _).symm.trans H; rw [hy364]; with_reducible exact H2_) | (have H2_ := (Option.bind_some _ _).symm.trans H; with_reducible exact H2_) | with_reducible exact H | (rw [hy364]; exact H) | exact H
  have Ny364 := Aside0.mk hy364
  clear hy364
  simp only [Option.some.injEq, Prod.mk.injEq] at H
  obtain ⟨rfl, rfl⟩ := H
  go_enter Tryd.func10, Tryd.ntmps10
  go_wp2_with (first | ((with_reducible refine gate_dst (N := 17) rfl ?_); (try (refine gate_guard (by rfl) ?_; dsimp only)); refine Kd.R_lit Kd.string _ 9 ?hg (N := 17) ?hd (xs := ([] : List ByteArray)) (inner := []) (ok := fun _ => True) (okp := fun _ => True) ?hr ?hp (fun _ hk => hk) trivial (Below.refl _ _) (Nat.le_refl _) (by simp) ?_; (case hd => rfl); (case hg => rfl); (case hr => first | (go_simp; done) | (go_simp; rfl)); (case hp => exact (Reps.none _ _)); intro v365 w4 ho5 hb hg_ hnew_; clear hg_ hnew_; (first | rw [← Ny364.out] at ho5 | (simp only [Int.reduceToNat] at ho5; rw [← Ny364.out] at ho5)); have n0_ := Aside0.mk (Kd.R_lower ho5 (below_size bl_)); have n1_ := Aside0.mk (below_step bl_ hb); clear HB; have HO366 := n0_; have HB := n1_; clear n0_ n1_; clear hb ho5))
  go_ret2
  exact ⟨_, by first | rfl | (simp [errW_none, errW_some] <;> rfl) | (simp [*, errW_none, errW_some] <;> rfl) | exact False.elim (Bool.noConfusion ((decide_eq_true (of_eq_true (by assumption))).symm.trans (by assumption))), ra_ HO366.out, bl_⟩
 ·rw [if_neg c3] at H
  have c3b0 : decide (200 < (l0.length : Int)) = false := decide_eq_false c3
  have c3b1 : decide (200 < l0.length) = false := decide_eq_false (by omega)
  clear c3
  replace H := Option.bind_eq_some_iff.mp H
  obtain ⟨t367, A60, H⟩ := H
  try dsimp only at H
  have A6 := Aside0.mk A60
  clear A60
  by_cases c7 : t367 = true
  ·subst c7
   rw [if_pos rfl] at H
   replace H := Option.bind_eq_some_iff.mp H
   obtain ⟨t368, A80, H⟩ := H
   try dsimp only at H
   have A8 := Aside0.mk A80
   clear A80
   simp only [Option.some.injEq, Prod.mk.injEq] at H
   obtain ⟨rfl, rfl⟩ := H
   go_enter Tryd.func10, Tryd.ntmps10
   go_wp2_with (first | (go_at_call 60; (with_reducible refine (impl_within.calls a1 0 (wrap64 ((l0.length : Int) - 1)) true _ A6.out).mono ?_); rintro e w' ⟨rfl, ⟨nd, rfl⟩⟩) | ((with_reducible refine gate_callee (f := 61) rfl ?_); refine goesL_ (some 20) rfl rfl Tryd.func61 (by kernel_rfl) rfl #[.slice A0 l0.length c0, .int .i64 a1] rfl lm_ ?_; (with_reducible refine (impl_path.calls k _ _ l0 a1 t368 _ ?side1 ?side2 ?side3 A8.out).mono ?_); (case side1 => repeat (first | exact HR0.out | (with_reducible refine Kd.C_alloc ?_ _) | (with_reducible refine Kd.C_drewN ?_ _) | (with_reducible refine Kd.C_drew ?_))); (case side2 => exact HC0.out); (case side3 => exact tab_of HT.out bl_); rintro e w9 ⟨v369, rfl, ho0, hb⟩; refine ⟨_, rfl, ?_⟩; have n0_ := Aside0.mk (Kd.R_lower ho0 (below_size bl_)); have n1_ := Aside0.mk (below_step bl_ hb); clear HB; have HO370 := n0_; have HB := n1_; clear n0_ n1_; (try clear hb); (try clear hb2); (try clear hk); (try clear hi); (try clear ho0)))
   go_ret2
   exact ⟨_, by first | rfl | (simp [errW_none, errW_some] <;> rfl) | (simp [*, errW_none, errW_some] <;> rfl) | exact False.elim (Bool.noConfusion ((decide_eq_true (of_eq_true (by assumption))).symm.trans (by assumption))), ra_ HO370.out, bl_⟩
  ·replace c7 := Bool.eq_false_iff.mpr c7
   subst c7
   rw [if_neg (show ¬ (false = true) by decide)] at H
   obtain ⟨y371, hy371⟩ : ∃ y_ : List ByteArray, y_ = (([] : List ByteArray)) := ⟨_, rfl⟩
   replace H : (some (y371, false)) = some (r1, r2) := by first | (rw [hy371]; with_reducible exact H) | (have H2_ := (Option.bind_some _ _).symm.trans H; rw [hy371]; with_reducible exact H2_) | (have H2_ := (Option.bind_some _ _).symm.trans H; with_reducible exact H2_) | with_reducible exact H | (rw [hy371]; exact H) | exact H
   have Ny371 := Aside0.mk hy371
   clear hy371
   simp only [Option.some.injEq, Prod.mk.injEq] at H
   obtain ⟨rfl, rfl⟩ := H
   go_enter Tryd.func10, Tryd.ntmps10
   go_wp2_with (first | (go_at_call 60; (with_reducible refine (impl_within.calls a1 0 (wrap64 ((l0.length : Int) - 1)) false _ A6.out).mono ?_); rintro e w' ⟨rfl, ⟨nd, rfl⟩⟩) | ((with_reducible refine gate_dst (N := 17) rfl ?_); (try (refine gate_guard (by rfl) ?_; dsimp only)); refine Kd.R_lit Kd.string _ 9 ?hg (N := 17) ?hd (xs := ([] : List ByteArray)) (inner := []) (ok := fun _ => True) (okp := fun _ => True) ?hr ?hp (fun _ hk => hk) trivial (Below.refl _ _) (Nat.le_refl _) (by simp) ?_; (case hd => rfl); (case hg => rfl); (case hr => first | (go_simp; done) | (go_simp; rfl)); (case hp => exact (Reps.none _ _)); intro v372 w10 ho11 hb hg_ hnew_; clear hg_ hnew_; (first | rw [← Ny371.out] at ho11 | (simp only [Int.reduceToNat] at ho11; rw [← Ny371.out] at ho11)); have n0_ := Aside0.mk (Kd.R_lower ho11 (below_size bl_)); have n1_ := Aside0.mk (below_step bl_ hb); clear HB; have HO373 := n0_; have HB := n1_; clear n0_ n1_; clear hb ho11))
   go_ret2
   exact ⟨_, by first | rfl | (simp [errW_none, errW_some] <;> rfl) | (simp [*, errW_none, errW_some] <;> rfl) | exact False.elim (Bool.noConfusion ((decide_eq_true (of_eq_true (by assumption))).symm.trans (by assumption))), ra_ HO373.out, bl_⟩


/-! ### spec_LeafOf: function 14 -/
def spec_LeafOf.f (k : Nat) (a0_0 : Int) (a0_1 : Int) (a0_2 : Int) (a0_3 : Int) (a0_4 : Int) (a0_5 : Int) : Option (ByteArray) := (spec_EntryText.f k a0_0 a0_1 a0_2 a0_3 a0_4 a0_5).bind fun t420 => (if 1 + t420.size ≤ 9223372036854775807 then ((spec_Digest.f ((⟨#[48]⟩ : ByteArray) ++ t420)).bind fun t421 => (some t421)) else (none))
theorem spec_LeafOf.mono : ∀ a0 a1 a2 a3 a4 a5 k, LeO (spec_LeafOf.f k a0 a1 a2 a3 a4 a5) (spec_LeafOf.f (k + 1) a0 a1 a2 a3 a4 a5) := by
 intro a0 a1 a2 a3 a4 a5 k
 unfold spec_LeafOf.f
 repeat' first
  | (with_reducible exact spec_EntryText.mono _ _ _ _ _ _ _)
  | (with_reducible exact LeO.refl _)
  | (with_reducible exact LeO.none _)
  | (with_reducible refine LeO.ite ?_ ?_)
  | (with_reducible refine LeO.bind ?_ (fun _ => ?_))
  | exact spec_EntryText.mono _ _ _ _ _ _ _
  | exact LeO.none _
  | refine LeO.ite ?_ ?_
  | refine LeO.bind ?_ (fun _ => ?_)
set_option maxHeartbeats 8000000 in
set_option maxRecDepth 100000 in
theorem spec_LeafOf.calls (k : Nat) (a0_0 : Int) (a0_1 : Int) (a0_2 : Int) (a0_3 : Int) (a0_4 : Int) (a0_5 : Int) (r : ByteArray) (w : World) (h : spec_LeafOf.f k a0_0 a0_1 a0_2 a0_3 a0_4 a0_5 = some r) :
 Calls Tryd.prog 14 #[.agg #[.int .i64 a0_0, .int .i64 a0_1, .int .i64 a0_2, .int .i64 a0_3, .int .i64 a0_4, .int .i64 a0_5]] w fun e w' => e = .returned (.string r) ∧ Below w.heap.size w w' := by
 have hu27 := Tryd.underlying27
 have HB := Aside0.mk (Below.refl w.heap.size w)
 have H : ((spec_EntryText.f k a0_0 a0_1 a0_2 a0_3 a0_4 a0_5).bind fun t420 => (if 1 + t420.size ≤ 9223372036854775807 then ((spec_Digest.f ((⟨#[48]⟩ : ByteArray) ++ t420)).bind fun t421 => (some t421)) else (none))) = some r := h
 clear h
 replace H := Option.bind_eq_some_iff.mp H
 obtain ⟨t420, A20, H⟩ := H
 try dsimp only at H
 have A2 := Aside0.mk A20
 clear A20
 by_cases c3 : 1 + t420.size ≤ 9223372036854775807
 ·rw [if_pos c3] at H
  have c3b0 := eq_true c3
  have c3b1 : decide (1 + t420.size ≤ 9223372036854775807) = true := decide_eq_true c3
  try have c3b2 : (9223372036854775807 < 1 + t420.size) = False := eq_false (Nat.not_lt.2 c3)
  replace H := Option.bind_eq_some_iff.mp H
  obtain ⟨t421, A40, H⟩ := H
  try dsimp only at H
  have A4 := Aside0.mk A40
  clear A40
  obtain rfl := Option.some.inj H
  go_enter Tryd.func14, Tryd.ntmps14
  go_wp2_with (first | ((with_reducible refine gate_dst (N := 1) rfl ?_); refine box_event ?hg (N := 1) ?hd (cs := #[.int .i64 a0_0, .int .i64 a0_1, .int .i64 a0_2, .int .i64 a0_3, .int .i64 a0_4, .int .i64 a0_5]) (t := 27) ?hr ?_; (case hd => rfl); (case hg => rfl); (case hr => first | (go_simp; done) | (go_simp; rfl)); intro gb419 hg w5 hbox hb; have n0_ := Aside0.mk (below_step bl_ hb); have n1_ := Aside0.mk (hbox); have n2_ := Aside0.mk ((hz_ : w.heap.size ≤ gb419)); have n3_ := Aside0.mk ((hz_ : w.heap.size ≤ gb419)); clear HB; have HB := n0_; have BK419 := n1_; have GW419 := n2_; have GE419 := n3_; clear n0_ n1_ n2_ n3_; clear hb hbox hg; have hcz6_0 : w5.cell? ⟨gb419, 0, none⟩ = some (.int .i64 a0_0) := (blk_cell BK419.out 0).trans rfl; have hcz6_1 : w5.cell? ⟨gb419, 1, none⟩ = some (.int .i64 a0_1) := (blk_cell BK419.out 1).trans rfl; have hcz6_2 : w5.cell? ⟨gb419, 2, none⟩ = some (.int .i64 a0_2) := (blk_cell BK419.out 2).trans rfl; have hcz6_3 : w5.cell? ⟨gb419, 3, none⟩ = some (.int .i64 a0_3) := (blk_cell BK419.out 3).trans rfl; have hcz6_4 : w5.cell? ⟨gb419, 4, none⟩ = some (.int .i64 a0_4) := (blk_cell BK419.out 4).trans rfl; have hcz6_5 : w5.cell? ⟨gb419, 5, none⟩ = some (.int .i64 a0_5) := (blk_cell BK419.out 5).trans rfl; have hfz6_0 := blk_frozen BK419.out 0; have hfz6_1 := blk_frozen BK419.out 1; have hfz6_2 := blk_frozen BK419.out 2; have hfz6_3 := blk_frozen BK419.out 3; have hfz6_4 := blk_frozen BK419.out 4; have hfz6_5 := blk_frozen BK419.out 5) | ((with_reducible refine gate_callee (f := 32) rfl ?_); refine goesL_ (some 4) rfl rfl Tryd.func32 (by kernel_rfl) rfl #[.agg #[.int .i64 a0_0, .int .i64 a0_1, .int .i64 a0_2, .int .i64 a0_3, .int .i64 a0_4, .int .i64 a0_5]] rfl lm_ ?_; (with_reducible refine (spec_EntryText.calls k a0_0 a0_1 a0_2 a0_3 a0_4 a0_5 t420 _ A2.out).mono ?_); rintro e w7 ⟨rfl, hb⟩; refine ⟨_, rfl, ?_⟩; have n0_ := Aside0.mk (blk_below (g := gb419) (o := .cells #[.int .i64 a0_0, .int .i64 a0_1, .int .i64 a0_2, .int .i64 a0_3, .int .i64 a0_4, .int .i64 a0_5] 27 (0, 0)) (bk_ BK419.out) hb); have n1_ := Aside0.mk (below_step bl_ hb); clear BK419; clear HB; have BK419 := n0_; have HB := n1_; clear n0_ n1_; (try clear hb); (try clear hb2); (try clear hk); (try clear hi)) | ((with_reducible refine gate_callee (f := 65) rfl ?_); refine goesL_ (some 6) rfl rfl Tryd.func65 (by kernel_rfl) rfl #[.string ((⟨#[48]⟩ : ByteArray) ++ t420)] rfl lm_ ?_; (with_reducible refine (spec_Digest.calls ((⟨#[48]⟩ : ByteArray) ++ t420) t421 _ A4.out).mono ?_); rintro e w8 ⟨rfl, hb⟩; refine ⟨_, rfl, ?_⟩; have n0_ := Aside0.mk (blk_below (g := gb419) (o := .cells #[.int .i64 a0_0, .int .i64 a0_1, .int .i64 a0_2, .int .i64 a0_3, .int .i64 a0_4, .int .i64 a0_5] 27 (0, 0)) (bk_ BK419.out) hb); have n1_ := Aside0.mk (below_step bl_ hb); clear BK419; clear HB; have BK419 := n0_; have HB := n1_; clear n0_ n1_; (try clear hb); (try clear hb2); (try clear hk); (try clear hi)))
  go_ret
  exact ⟨by first | rfl | (simp [errW_none, errW_some] <;> rfl) | (simp [*, errW_none, errW_some] <;> rfl) | exact False.elim (Bool.noConfusion ((decide_eq_true (of_eq_true (by assumption))).symm.trans (by assumption))), bl_⟩
 ·rw [if_neg c3] at H
  exact absurd H (by simp)


/-! ### spec_NodeOf: function 16 -/
def spec_NodeOf.f (a0 : ByteArray) (a1 : ByteArray) : Option (ByteArray) := if 1 + a0.size ≤ 9223372036854775807 then (if ((⟨#[49]⟩ : ByteArray) ++ a0).size + a1.size ≤ 9223372036854775807 then ((spec_Digest.f (((⟨#[49]⟩ : ByteArray) ++ a0) ++ a1)).bind fun t422 => (some t422)) else (none)) else (none)
set_option maxHeartbeats 8000000 in
set_option maxRecDepth 100000 in
theorem spec_NodeOf.calls (a0 : ByteArray) (a1 : ByteArray) (r : ByteArray) (w : World) (h : spec_NodeOf.f a0 a1 = some r) :
 Calls Tryd.prog 16 #[.string a0, .string a1] w fun e w' => e = .returned (.string r) ∧ Below w.heap.size w w' := by
 have HB := Aside0.mk (Below.refl w.heap.size w)
 have H : (if 1 + a0.size ≤ 9223372036854775807 then (if ((⟨#[49]⟩ : ByteArray) ++ a0).size + a1.size ≤ 9223372036854775807 then ((spec_Digest.f (((⟨#[49]⟩ : ByteArray) ++ a0) ++ a1)).bind fun t422 => (some t422)) else (none)) else (none)) = some r := h
 clear h
 by_cases c3 : 1 + a0.size ≤ 9223372036854775807
 ·rw [if_pos c3] at H
  have c3b0 := eq_true c3
  have c3b1 : decide (1 + a0.size ≤ 9223372036854775807) = true := decide_eq_true c3
  try have c3b2 : (9223372036854775807 < 1 + a0.size) = False := eq_false (Nat.not_lt.2 c3)
  by_cases c4 : ((⟨#[49]⟩ : ByteArray) ++ a0).size + a1.size ≤ 9223372036854775807
  ·rw [if_pos c4] at H
   have c4b0 := eq_true c4
   have c4b1 : decide (((⟨#[49]⟩ : ByteArray) ++ a0).size + a1.size ≤ 9223372036854775807) = true := decide_eq_true c4
   try have c4b2 : (9223372036854775807 < ((⟨#[49]⟩ : ByteArray) ++ a0).size + a1.size) = False := eq_false (Nat.not_lt.2 c4)
   try have c4b3 : (9223372036854775807 < 1 + a0.size + a1.size) = False := eq_false (by have h_ := c4; (repeat rw [ByteArray.size_append] at h_); exact Nat.not_lt.2 h_)
   replace H := Option.bind_eq_some_iff.mp H
   obtain ⟨t422, A50, H⟩ := H
   try dsimp only at H
   have A5 := Aside0.mk A50
   clear A50
   obtain rfl := Option.some.inj H
   go_enter Tryd.func16, Tryd.ntmps16
   go_wp2_with (first | ((with_reducible refine gate_callee (f := 65) rfl ?_); refine goesL_ (some 9) rfl rfl Tryd.func65 (by kernel_rfl) rfl #[.string (((⟨#[49]⟩ : ByteArray) ++ a0) ++ a1)] rfl lm_ ?_; (with_reducible refine (spec_Digest.calls (((⟨#[49]⟩ : ByteArray) ++ a0) ++ a1) t422 _ A5.out).mono ?_); rintro e w6 ⟨rfl, hb⟩; refine ⟨_, rfl, ?_⟩; have n0_ := Aside0.mk (below_step bl_ hb); clear HB; have HB := n0_; clear n0_; (try clear hb); (try clear hb2); (try clear hk); (try clear hi)))
   go_ret
   exact ⟨by first | rfl | (simp [errW_none, errW_some] <;> rfl) | (simp [*, errW_none, errW_some] <;> rfl) | exact False.elim (Bool.noConfusion ((decide_eq_true (of_eq_true (by assumption))).symm.trans (by assumption))), bl_⟩
  ·rw [if_neg c4] at H
   exact absurd H (by simp)
 ·rw [if_neg c3] at H
  exact absurd H (by simp)

end Go.Proofs.YtdlapahfmfhbjaaDoor.PA

namespace Go.Proofs.YtdlapahfmfhbjaaDoor.PA
open Go.RowKit Go.Proofs.YtdlapahfmfhbjaaDoorW.PrintWords Go.Proofs.YtdlapahfmfhbjaaDoorW.PrintLast Go.Proofs.YtdlapahfmfhbjaaDoorW.PrintMore
attribute [local go_sem] max2_int min2_int max_two min_two max_three min_three max_four min_four   -- for this text's walks alone
set_option linter.unusedVariables false
set_option linter.unusedSimpArgs false

/-! ### spec_l27Half: function 63 -/
def spec_l27Half.l0 : Nat → Int → Int → Option (Int)
 | 0, _, _ => none
 | k + 1, x0, x3 => if (wrap64 (2 * x3)) < x0 then (spec_l27Half.l0 k x0 (wrap64 (2 * x3))) else (some x3)
def spec_l27Half.f (k : Nat) (a0 : Int) : Option (Int) := spec_l27Half.l0 k a0 1
theorem spec_l27Half.mono_l : ∀ k, (∀ y0 y1, LeO (spec_l27Half.l0 k y0 y1) (spec_l27Half.l0 (k + 1) y0 y1))
 | 0 => fun _ _ r h => by simp [spec_l27Half.l0] at h
 | k + 1 => by
  have ih0 := spec_l27Half.mono_l k
  ·intro y0 y1
   unfold spec_l27Half.l0
   repeat' first
   | (with_reducible exact ih0 _ _)
   | (with_reducible exact LeO.refl _)
   | (with_reducible exact LeO.none _)
   | (with_reducible refine LeO.ite ?_ ?_)
   | (with_reducible refine LeO.bind ?_ (fun _ => ?_))
   | exact ih0 _ _
   | exact LeO.none _
   | refine LeO.ite ?_ ?_
   | refine LeO.bind ?_ (fun _ => ?_)
theorem spec_l27Half.mono : ∀ a0 k, LeO (spec_l27Half.f k a0) (spec_l27Half.f (k + 1) a0) := by
 intro a0 k
 have ih0 := spec_l27Half.mono_l k
 unfold spec_l27Half.f
 repeat' first
  | (with_reducible exact ih0 _ _)
  | (with_reducible exact LeO.refl _)
  | (with_reducible exact LeO.none _)
  | (with_reducible refine LeO.ite ?_ ?_)
  | (with_reducible refine LeO.bind ?_ (fun _ => ?_))
  | exact ih0 _ _
  | exact LeO.none _
  | refine LeO.ite ?_ ?_
  | refine LeO.bind ?_ (fun _ => ?_)
set_option maxHeartbeats 8000000 in
set_option maxRecDepth 100000 in
theorem spec_l27Half.calls (k : Nat) (a0 : Int) (r : Int) (w : World) (h : spec_l27Half.f k a0 = some r) :
 Calls Tryd.prog 63 #[.int .i64 a0] w fun e w' => e = .returned (.int .i64 r) ∧ Drawn0 w w' := by
 have H : (spec_l27Half.l0 k a0 1) = some r := h
 clear h
 have H' := Aside0.mk H
 clear H
 go_enter Tryd.func63, Tryd.ntmps63
 go_wp2
 go_loopg [3] k (fun kq v3 w' => ∃ (x3_1 : Int), v3 = .int .i64 x3_1 ∧ Aside0 (spec_l27Half.l0 kq a0 x3_1 = some r) ∧ Aside0 (kq ≤ k) ∧ Drawn0 w w')
 case atStart => exact ⟨(1), (by first | rfl | (simp; done) | (simp [*]; done)), H', ⟨Nat.le_refl _⟩, by repeat (first | exact Drawn0.refl _ | apply Drawn0.step)⟩
 case round =>
  clear H'
  obtain ⟨x3_1, rfl, HA, HK1, ⟨m1, rfl⟩⟩ := hrel
  cases gk with
  | zero => exact absurd HA.out (by simp [spec_l27Half.l0])
  | succ k1 =>
   have H := HA.out
   clear HA
   simp only [spec_l27Half.l0] at H
   by_cases c2 : (wrap64 (2 * x3_1)) < a0
   ·rw [if_pos c2] at H
    have c2b0 : decide ((wrap64 (2 * x3_1)) < a0) = true := decide_eq_true c2
    clear c2
    have H' := Aside0.mk H
    clear H
    go_wp2
    go_roundg k1
    case measure => have := HK1.out; omega
    case rel => exact ⟨(wrap64 (2 * x3_1)), (by first | rfl | (simp; done) | (simp [*]; done)), H', ⟨by have := HK1.out; omega⟩, by repeat (first | exact Drawn0.refl _ | apply Drawn0.step)⟩
   ·rw [if_neg c2] at H
    have c2b0 : decide ((wrap64 (2 * x3_1)) < a0) = false := decide_eq_false c2
    clear c2
    obtain rfl := Option.some.inj H
    go_wp2
    go_ret
    exact ⟨by first | rfl | (simp; done) | (simp [*]; done), by repeat (first | exact Drawn0.refl _ | apply Drawn0.step)⟩

end Go.Proofs.YtdlapahfmfhbjaaDoor.PA

namespace Go.Proofs.YtdlapahfmfhbjaaDoor.PA
open Go.RowKit Go.Proofs.YtdlapahfmfhbjaaDoor.Short Go.Proofs.YtdlapahfmfhbjaaDoorW.PrintWords Go.Proofs.YtdlapahfmfhbjaaDoorW.PrintLast Go.Proofs.YtdlapahfmfhbjaaDoorW.PrintMore
attribute [local go_sem] max2_int min2_int max_two min_two max_three min_three max_four min_four   -- for this text's walks alone
set_option linter.unusedVariables false
set_option linter.unusedSimpArgs false

/-! ### spec_RootOf: function 18 -/
def spec_RootOf.f : Nat → List (S27) → Option (ByteArray)
 | 0, _ => none
 | k + 1, l0 => if (l0.length : Int) = 0 then ((spec_Digest.f (⟨#[]⟩ : ByteArray)).bind fun t423 => (some t423)) else (if (l0.length : Int) = 1 then (if 0 < (l0.length : Int) then ((spec_LeafOf.f k ((rd_T27 l0 0).f0) ((rd_T27 l0 0).f1) ((rd_T27 l0 0).f2.f0) ((rd_T27 l0 0).f2.f1) ((rd_T27 l0 0).f2.f2) ((rd_T27 l0 0).f2.f3)).bind fun t425 => (some t425)) else (none)) else ((spec_l27Half.f k (l0.length : Int)).bind fun t426 => (if 0 ≤ t426 then (if t426 ≤ (l0.length : Int) then ((spec_RootOf.f k (l0.take (t426 : Int).toNat)).bind fun t431 => ((spec_RootOf.f k (l0.drop (t426 : Int).toNat)).bind fun t436 => ((spec_NodeOf.f t431 t436).bind fun t437 => (some t437)))) else (none)) else (none))))
theorem spec_RootOf.mono_l : ∀ k, (∀ y0, LeO (spec_RootOf.f k y0) (spec_RootOf.f (k + 1) y0))
 | 0 => fun _ r h => by simp [spec_RootOf.f] at h
 | k + 1 => by
  have ih0 := spec_RootOf.mono_l k
  ·intro y0
   unfold spec_RootOf.f
   repeat' first
   | (with_reducible exact ih0 _)
   | (with_reducible exact spec_LeafOf.mono _ _ _ _ _ _ _)
   | (with_reducible exact spec_l27Half.mono _ _)
   | (with_reducible exact LeO.refl _)
   | (with_reducible exact LeO.none _)
   | (with_reducible refine LeO.ite ?_ ?_)
   | (with_reducible refine LeO.bind ?_ (fun _ => ?_))
   | exact ih0 _
   | exact spec_LeafOf.mono _ _ _ _ _ _ _
   | exact spec_l27Half.mono _ _
   | exact LeO.none _
   | refine LeO.ite ?_ ?_
   | refine LeO.bind ?_ (fun _ => ?_)
theorem spec_RootOf.mono : ∀ a0 k, LeO (spec_RootOf.f k a0) (spec_RootOf.f (k + 1) a0) := by
 intro a0 k
 have ih0 := spec_RootOf.mono_l k
 exact ih0 a0
def spec_RootOf.T7 : Bool × List (List Nat × List Nat) := (true, [([], []), ([], []), ([0, 1], [0, 1]), ([2], [2]), ([], []), ([], []), ([4, 5], [4, 5]), ([6, 3], [6]), ([3, 7, 7], [3, 7]), ([8, 8, 0, 1, 2, 3, 4, 5, 6, 7, 8], [8])])
def spec_RootOf.B7 : List Nat := [0, 0, 3, 7, 0, 0, 48, 127, 255, 511]
theorem spec_RootOf.tab7 : rtab .any (opsOf Tryd.f18 7) = spec_RootOf.T7 := by kernel_rfl
theorem spec_RootOf.bits7 : waitsOk spec_RootOf.T7.2 spec_RootOf.B7 = true := by kernel_rfl
set_option maxHeartbeats 8000000 in
set_option maxRecDepth 100000 in
theorem spec_RootOf.calls (k : Nat) : ∀ (A0 : Option Addr) (c0 : Nat) (l0 : List (S27)) (r : ByteArray) (w : World) (hr0 : Kd.C k27 w A0 l0.length l0) (hc0 : l0.length ≤ c0) (h : spec_RootOf.f k l0 = some r),
 Calls Tryd.prog 18 #[.slice A0 l0.length c0] w fun e w' => e = .returned (.string r) ∧ Below w.heap.size w w' := by
 induction k using Nat.strongRecOn with
 | _ k ih =>
 intro A0 c0 l0 r w hr0 hc0 h
 cases k with
 | zero => exact absurd h (by simp [spec_RootOf.f])
 | succ k =>
 simp only [spec_RootOf.f] at h
 have hu27 := Tryd.underlying27
 have HR0 := Aside0.mk hr0
 have HC0 := Aside0.mk hc0
 clear hr0 hc0
 have HB := Aside0.mk (Below.refl w.heap.size w)
 have H : (if (l0.length : Int) = 0 then ((spec_Digest.f (⟨#[]⟩ : ByteArray)).bind fun t423 => (some t423)) else (if (l0.length : Int) = 1 then (if 0 < (l0.length : Int) then ((spec_LeafOf.f k ((rd_T27 l0 0).f0) ((rd_T27 l0 0).f1) ((rd_T27 l0 0).f2.f0) ((rd_T27 l0 0).f2.f1) ((rd_T27 l0 0).f2.f2) ((rd_T27 l0 0).f2.f3)).bind fun t425 => (some t425)) else (none)) else ((spec_l27Half.f k (l0.length : Int)).bind fun t426 => (if 0 ≤ t426 then (if t426 ≤ (l0.length : Int) then ((spec_RootOf.f k (l0.take (t426 : Int).toNat)).bind fun t431 => ((spec_RootOf.f k (l0.drop (t426 : Int).toNat)).bind fun t436 => ((spec_NodeOf.f t431 t436).bind fun t437 => (some t437)))) else (none)) else (none))))) = some r := h
 clear h
 by_cases c2 : (l0.length : Int) = 0
 ·rw [if_pos c2] at H
  have c2b0 : ((l0.length : Int) == 0) = true := beq_iff_eq.mpr c2
  have c2b1 : ((l0.length : Int) != 0) = false := bne_eq_false_iff_eq.mpr c2
  clear c2
  replace H := Option.bind_eq_some_iff.mp H
  obtain ⟨t423, A30, H⟩ := H
  try dsimp only at H
  have A3 := Aside0.mk A30
  clear A30
  obtain rfl := Option.some.inj H
  go_enter Tryd.func18, Tryd.ntmps18
  go_wp2_with (first | ((with_reducible refine gate_callee (f := 65) rfl ?_); refine goesL_ (some 8) rfl rfl Tryd.func65 (by kernel_rfl) rfl #[.string (⟨#[]⟩ : ByteArray)] rfl lm_ ?_; (with_reducible refine (spec_Digest.calls (⟨#[]⟩ : ByteArray) t423 _ A3.out).mono ?_); rintro e w4 ⟨rfl, hb⟩; refine ⟨_, rfl, ?_⟩; have n0_ := Aside0.mk (below_step bl_ hb); clear HB; have HB := n0_; clear n0_; (try clear hb); (try clear hb2); (try clear hk); (try clear hi)))
  go_ret
  exact ⟨by first | rfl | (simp [errW_none, errW_some] <;> rfl) | (simp [*, errW_none, errW_some] <;> rfl) | exact False.elim (Bool.noConfusion ((decide_eq_true (of_eq_true (by assumption))).symm.trans (by assumption))), bl_⟩
 ·rw [if_neg c2] at H
  have c2b0 : ((l0.length : Int) == 0) = false := beq_eq_false_iff_ne.mpr c2
  have c2b1 : ((l0.length : Int) != 0) = true := bne_iff_ne.mpr c2
  have c2b2 : ¬ (l0 = []) := fun h_ => c2 (by rw [h_]; rfl)
  by_cases c5 : (l0.length : Int) = 1
  ·rw [if_pos c5] at H
   have c5b0 : ((l0.length : Int) == 1) = true := beq_iff_eq.mpr c5
   have c5b1 : ((l0.length : Int) != 1) = false := bne_eq_false_iff_eq.mpr c5
   clear c5
   by_cases c6 : 0 < (l0.length : Int)
   ·rw [if_pos c6] at H
    have c6b0 : decide (0 < (l0.length : Int)) = true := decide_eq_true c6
    have c6b1 : decide (0 < l0.length) = true := decide_eq_true (by omega)
    clear c6
    replace H := Option.bind_eq_some_iff.mp H
    obtain ⟨t425, A70, H⟩ := H
    try dsimp only at H
    have A7 := Aside0.mk A70
    clear A70
    obtain rfl := Option.some.inj H
    have p424 : 0 ≤ (0 : Int) := (by omega)
    have q424 : 0 < (l0.length : Int) := of_decide_eq_true as_
    obtain ⟨ad424, e424, hx424_0, hx424_1, hx424_2, hx424_3, hx424_4, hx424_5⟩ := at_T27 HR0.out 0 p424 q424
    cases e424
    have qi424 : (0 < l0.length) = True := eq_true (by omega)
    (try rw [show ((0 : Int)).toNat = 0 from rfl] at hx424_0)
    (try rw [show 0 * 6 = 0 from rfl] at hx424_0)
    (try rw [Addr.add_zero'] at hx424_0)
    (try rw [show ((0 : Int)).toNat = 0 from rfl] at hx424_1)
    (try rw [show 0 * 6 = 0 from rfl] at hx424_1)
    (try rw [Addr.add_zero'] at hx424_1)
    (try rw [show ((0 : Int)).toNat = 0 from rfl] at hx424_2)
    (try rw [show 0 * 6 = 0 from rfl] at hx424_2)
    (try rw [Addr.add_zero'] at hx424_2)
    (try rw [show ((0 : Int)).toNat = 0 from rfl] at hx424_3)
    (try rw [show 0 * 6 = 0 from rfl] at hx424_3)
    (try rw [Addr.add_zero'] at hx424_3)
    (try rw [show ((0 : Int)).toNat = 0 from rfl] at hx424_4)
    (try rw [show 0 * 6 = 0 from rfl] at hx424_4)
    (try rw [Addr.add_zero'] at hx424_4)
    (try rw [show ((0 : Int)).toNat = 0 from rfl] at hx424_5)
    (try rw [show 0 * 6 = 0 from rfl] at hx424_5)
    (try rw [Addr.add_zero'] at hx424_5)
    replace p424 := eq_true p424
    replace q424 := eq_true q424
    go_enter Tryd.func18, Tryd.ntmps18
    go_wp2_with (first | ((with_reducible refine gate_callee (f := 14) rfl ?_); refine goesL_ (some 14) rfl rfl Tryd.func14 (by kernel_rfl) rfl #[.agg #[.int .i64 ((rd_T27 l0 0).f0), .int .i64 ((rd_T27 l0 0).f1), .int .i64 ((rd_T27 l0 0).f2.f0), .int .i64 ((rd_T27 l0 0).f2.f1), .int .i64 ((rd_T27 l0 0).f2.f2), .int .i64 ((rd_T27 l0 0).f2.f3)]] rfl lm_ ?_; (with_reducible refine (spec_LeafOf.calls k ((rd_T27 l0 0).f0) ((rd_T27 l0 0).f1) ((rd_T27 l0 0).f2.f0) ((rd_T27 l0 0).f2.f1) ((rd_T27 l0 0).f2.f2) ((rd_T27 l0 0).f2.f3) t425 _ A7.out).mono ?_); rintro e w8 ⟨rfl, hb⟩; refine ⟨_, rfl, ?_⟩; have n0_ := Aside0.mk (below_step bl_ hb); clear HB; have HB := n0_; clear n0_; (try clear hb); (try clear hb2); (try clear hk); (try clear hi)))
    go_ret
    exact ⟨by first | rfl | (simp [errW_none, errW_some] <;> rfl) | (simp [*, errW_none, errW_some] <;> rfl) | exact False.elim (Bool.noConfusion ((decide_eq_true (of_eq_true (by assumption))).symm.trans (by assumption))), bl_⟩
   ·rw [if_neg c6] at H
    exact absurd H (by simp)
  ·rw [if_neg c5] at H
   have c5b0 : ((l0.length : Int) == 1) = false := beq_eq_false_iff_ne.mpr c5
   have c5b1 : ((l0.length : Int) != 1) = true := bne_iff_ne.mpr c5
   replace H := Option.bind_eq_some_iff.mp H
   obtain ⟨t426, A90, H⟩ := H
   try dsimp only at H
   have A9 := Aside0.mk A90
   clear A90
   by_cases c10 : 0 ≤ t426
   ·rw [if_pos c10] at H
    have c10b0 := eq_true c10
    have c10b1 : decide (0 ≤ t426) = true := decide_eq_true c10
    clear c10
    by_cases c11 : t426 ≤ (l0.length : Int)
    ·rw [if_pos c11] at H
     have c11b0 := eq_true c11
     have c11b1 : decide (t426 ≤ (l0.length : Int)) = true := decide_eq_true c11
     clear c11
     obtain ⟨y427, hy427⟩ : ∃ y_ : List (S27), y_ = (l0.take (t426 : Int).toNat) := ⟨_, rfl⟩
     replace H : ((spec_RootOf.f k y427).bind fun t431 => ((spec_RootOf.f k (l0.drop (t426 : Int).toNat)).bind fun t436 => ((spec_NodeOf.f t431 t436).bind fun t437 => (some t437)))) = some r := by first | (rw [hy427]; with_reducible exact H) | (have H2_ := (Option.bind_some _ _).symm.trans H; rw [hy427]; with_reducible exact H2_) | (have H2_ := (Option.bind_some _ _).symm.trans H; with_reducible exact H2_) | with_reducible exact H | (rw [hy427]; exact H) | exact H
     have Ny427 := Aside0.mk hy427
     clear hy427
     replace H := Option.bind_eq_some_iff.mp H
     obtain ⟨t431, A120, H⟩ := H
     try dsimp only at H
     have A12 := Aside0.mk A120
     clear A120
     have c13b0 := eq_true (of_decide_eq_true as_ : 0 ≤ t426)
     have c14b0 := eq_true (of_decide_eq_true as_ : t426 ≤ (l0.length : Int))
     obtain ⟨y432, hy432⟩ : ∃ y_ : List (S27), y_ = (l0.drop (t426 : Int).toNat) := ⟨_, rfl⟩
     replace H : ((spec_RootOf.f k y432).bind fun t436 => ((spec_NodeOf.f t431 t436).bind fun t437 => (some t437))) = some r := by first | (rw [hy432]; with_reducible exact H) | (have H2_ := (Option.bind_some _ _).symm.trans H; rw [hy432]; with_reducible exact H2_) | (have H2_ := (Option.bind_some _ _).symm.trans H; with_reducible exact H2_) | with_reducible exact H | (rw [hy432]; exact H) | exact H
     have Ny432 := Aside0.mk hy432
     clear hy432
     replace H := Option.bind_eq_some_iff.mp H
     obtain ⟨t436, A150, H⟩ := H
     try dsimp only at H
     have A15 := Aside0.mk A150
     clear A150
     replace H := Option.bind_eq_some_iff.mp H
     obtain ⟨t437, A160, H⟩ := H
     try dsimp only at H
     have A16 := Aside0.mk A160
     clear A160
     obtain rfl := Option.some.inj H
     go_enter Tryd.func18, Tryd.ntmps18
     try go_wp2_with (first | ((with_reducible refine gate_callee (f := 63) rfl ?_); refine goesL_ (some 17) rfl rfl Tryd.func63 (by kernel_rfl) rfl #[.int .i64 (l0.length : Int)] rfl lm_ ?_; (with_reducible refine (spec_l27Half.calls k (l0.length : Int) t426 _ A9.out).mono ?_); rintro e w' ⟨rfl, ⟨nd, rfl⟩⟩; refine ⟨_, rfl, ?_⟩))
     generalize hq_ : World.drewN w _ = w17
     have n0_ := Aside0.mk (below_at hq_ HB.out)
     clear HB
     have HB := n0_
     clear n0_
     clear hq_
     have n0_ := Aside0.mk (below_drew1 HB.out)
     clear HB
     have HB := n0_
     clear n0_
     have q19 : (t426 : Int) ≤ ((l0.length : Int) : Int) := of_decide_eq_true as_
     obtain ⟨i019, hi019, _, hsz19, _⟩ := info_parts info27
     have hroom19 : l0.length ≤ c0 := HC0.out
     have hC19 : Kd.C k27 _ A0 l0.length l0 := HR0.out
     have hcut19 := cut_to (P := Tryd.prog) 31 27 .i64 Tryd.underlying31 hi019 A0 l0.length c0 t426 (of_decide_eq_true as_) q19 hroom19
     have hr19 := Kd.C_take (m := (t426 : Int).toNat) hC19 (by omega)
     have hy19 : y427.length = (t426 : Int).toNat := (by rw [Ny427.out, List.length_take]; omega)
     rw [← Ny427.out] at hr19
     rw [← hy19] at hcut19
     have HR430 := Aside0.mk hr19
     have HC430 := Aside0.mk (show y427.length ≤ c0 from by omega)
     clear hr19 hC19 hroom19 hi019 hsz19
     have KY19 := Aside0.mk hy19
     clear hy19
     replace q19 := eq_true q19
     have q20 : (t426 : Int) ≤ ((l0.length : Int) : Int) := of_decide_eq_true as_
     obtain ⟨i020, hi020, _, hsz20, _⟩ := info_parts info27
     have hroom20 : l0.length ≤ c0 := HC0.out
     have hC20 : Kd.C k27 _ A0 l0.length l0 := HR0.out
     have q020 : (0 : Int) ≤ (t426 : Int) := of_decide_eq_true as_
     have hcut20 := cut_from (P := Tryd.prog) 31 27 .i64 Tryd.underlying31 hi020 6 hsz20 A0 l0.length c0 t426 q020 q20
     have hr20 := Kd.C_drop (m := (t426 : Int).toNat) (c := c0) hC20 (by omega) hroom20
     obtain ⟨A20, hA20⟩ : ∃ A1, A1 = (if c0 = (t426 : Int).toNat then A0 else (A0 : Option Addr).map (·.add ((t426 : Int).toNat * 6))) := ⟨_, rfl⟩
     obtain ⟨c20, hc20⟩ : ∃ c1, c1 = c0 - (t426 : Int).toNat := ⟨_, rfl⟩
     have hy20 : y432.length = l0.length - (t426 : Int).toNat := (by rw [Ny432.out, List.length_drop] <;> omega)
     rw [show (l0).drop (t426 : Int).toNat = y432 from Ny432.out.symm] at hr20
     replace hr20 : Kd.C k27 _ A20 y432.length y432 := (by rw [hA20]; exact hr20)
     rw [← hy20, ← hA20, ← hc20] at hcut20
     have HR435 := Aside0.mk hr20
     have HC435 := Aside0.mk (show y432.length ≤ c20 from by rw [hy20, hc20]; exact Nat.sub_le_sub_right hroom20 _)
     clear hr20 hC20 hroom20 hi020 hsz20 hc20
     have KY20 := Aside0.mk hy20
     have KA20 := Aside0.mk hA20
     clear hy20 hA20
     replace q20 := eq_true q20
     refine start_ (n := 10) (S := fun w' => True) (ds := []) #[false, false, false, false, false, false, false, false, false, false] (by kernel_rfl) rfl rfl trivial (fun hHeld => ?_); refine with_tabW spec_RootOf.tab7 spec_RootOf.bits7 (fun HT_ HW_ => ?_)
     generalize w17.drew = w18 at HB HR430 HR435 hHeld ⊢
     refine pure_ (i := 0) (N := some 18) (v := ?_) (a' := ?_) #[true, false, false, false, false, false, false, false, false, false] rfl rfl (any_of HT_.out (by kernel_rfl)) (fun _ _ _ h => h) (Or.inl ⟨by rfl, ?_⟩) ?_ ?_
     rotate_left
     ·intro w'
      go_simp
      with_reducible rfl
     rotate_left
     ·simp only [Act.put, List.setIfInBounds_toArray, List.set_cons_zero, List.set_cons_succ, i64_w, i32_w]
      rfl
     refine pure_ (i := 1) (N := some 19) (v := ?_) (a' := ?_) #[true, true, false, false, false, false, false, false, false, false] rfl rfl (any_of HT_.out (by kernel_rfl)) (fun _ _ _ h => h) (Or.inl ⟨by rfl, ?_⟩) ?_ ?_
     rotate_left
     ·intro w'
      go_simp
      with_reducible rfl
     rotate_left
     ·simp only [Act.put, List.setIfInBounds_toArray, List.set_cons_zero, List.set_cons_succ, i64_w, i32_w]
      rfl
     refine pure_ (i := 2) (N := some 20) (v := ?_) (a' := ?_) #[true, true, true, false, false, false, false, false, false, false] rfl rfl (any_of HT_.out (by kernel_rfl)) (fun _ _ _ h => h) (Or.inl ⟨by rfl, ?_⟩) ?_ ?_
     rotate_left
     ·intro w'
      go_simp
      with_reducible rfl
     rotate_left
     ·simp only [Act.put, List.setIfInBounds_toArray, List.set_cons_zero, List.set_cons_succ, i64_w, i32_w]
      rfl
     refine pure_ (i := 4) (N := some 22) (v := ?_) (a' := ?_) #[true, true, true, false, true, false, false, false, false, false] rfl rfl (any_of HT_.out (by kernel_rfl)) (fun _ _ _ h => h) (Or.inl ⟨by rfl, ?_⟩) ?_ ?_
     rotate_left
     ·intro w'
      go_simp
      with_reducible rfl
     rotate_left
     ·simp only [Act.put, List.setIfInBounds_toArray, List.set_cons_zero, List.set_cons_succ, i64_w, i32_w]
      rfl
     refine pure_ (i := 5) (N := some 23) (v := ?_) (a' := ?_) #[true, true, true, false, true, true, false, false, false, false] rfl rfl (any_of HT_.out (by kernel_rfl)) (fun _ _ _ h => h) (Or.inl ⟨by rfl, ?_⟩) ?_ ?_
     rotate_left
     ·intro w'
      go_simp
      with_reducible rfl
     rotate_left
     ·simp only [Act.put, List.setIfInBounds_toArray, List.set_cons_zero, List.set_cons_succ, i64_w, i32_w]
      rfl
     refine pure_ (i := 6) (N := some 24) (v := ?_) (a' := ?_) #[true, true, true, false, true, true, true, false, false, false] rfl rfl (any_of HT_.out (by kernel_rfl)) (fun _ _ _ h => h) (Or.inl ⟨by rfl, ?_⟩) ?_ ?_
     rotate_left
     ·intro w'
      go_simp
      with_reducible rfl
     rotate_left
     ·simp only [Act.put, List.setIfInBounds_toArray, List.set_cons_zero, List.set_cons_succ, i64_w, i32_w]
      rfl
     refine one_ (i := 3) (N := some 21) #[true, true, true, true, true, true, true, false, false, false] rfl rfl (one_of HT_.out (by kernel_rfl)) (by decide) (fun K hK => ?_)
     refine goes_ Tryd.func18 (by kernel_rfl) rfl #[.slice A0 y427.length c0] (by rfl) rfl rfl lm_ ?_
     with_reducible refine (ih k (by omega) _ _ y427 t431 _ ?side1 ?side2 A12.out).mono ?_
     (case side1 => repeat (first | exact (Kd.C_below HR430.out HB.out) | exact HR430.out | (with_reducible refine Kd.C_alloc ?_ _) | (with_reducible refine Kd.C_drewN ?_ _) | (with_reducible refine Kd.C_drew ?_)))
     (case side2 => exact HC430.out)
     rintro e w21 ⟨rfl, hb⟩
     refine ⟨_, rfl, ?_⟩
     have n0_ := Aside0.mk (below_step bl_ hb)
     clear HB
     have HB := n0_
     clear n0_
     (try clear hb)
     (try clear hb2)
     (try clear hk)
     (try clear hi)
     refine hK.out _ _ trivial (fun hHeld => ?_)
     clear hK K
     refine norm_ (a' := ?_) ?_ ?_
     rotate_left
     ·show Act.put _ (some 21) _ = _
      simp only [Act.put, List.setIfInBounds_toArray, List.set_cons_zero, List.set_cons_succ, i64_w, i32_w]
      rfl
     refine one_ (i := 7) (N := some 25) #[true, true, true, true, true, true, true, true, false, false] rfl rfl (one_of HT_.out (by kernel_rfl)) (by decide) (fun K hK => ?_)
     refine goes_ Tryd.func18 (by kernel_rfl) rfl #[.slice A20 y432.length c20] (by rfl) rfl rfl lm_ ?_
     with_reducible refine (ih k (by omega) _ _ y432 t436 _ ?side1 ?side2 A15.out).mono ?_
     (case side1 => repeat (first | exact (Kd.C_below HR435.out HB.out) | exact HR435.out | (with_reducible refine Kd.C_alloc ?_ _) | (with_reducible refine Kd.C_drewN ?_ _) | (with_reducible refine Kd.C_drew ?_)))
     (case side2 => exact HC435.out)
     rintro e w22 ⟨rfl, hb⟩
     refine ⟨_, rfl, ?_⟩
     have n0_ := Aside0.mk (below_step bl_ hb)
     clear HB
     have HB := n0_
     clear n0_
     (try clear hb)
     (try clear hb2)
     (try clear hk)
     (try clear hi)
     refine hK.out _ _ trivial (fun hHeld => ?_)
     clear hK K
     refine norm_ (a' := ?_) ?_ ?_
     rotate_left
     ·show Act.put _ (some 25) _ = _
      simp only [Act.put, List.setIfInBounds_toArray, List.set_cons_zero, List.set_cons_succ, i64_w, i32_w]
      rfl
     refine one_ (i := 8) (N := some 26) #[true, true, true, true, true, true, true, true, true, false] rfl rfl (one_of HT_.out (by kernel_rfl)) (by decide) (fun K hK => ?_)
     refine goes_ Tryd.func16 (by kernel_rfl) rfl #[.string t431, .string t436] (by rfl) rfl rfl lm_ ?_
     with_reducible refine (spec_NodeOf.calls t431 t436 t437 _ A16.out).mono ?_
     rintro e w23 ⟨rfl, hb⟩
     refine ⟨_, rfl, ?_⟩
     have n0_ := Aside0.mk (below_step bl_ hb)
     clear HB
     have HB := n0_
     clear n0_
     (try clear hb)
     (try clear hb2)
     (try clear hk)
     (try clear hi)
     refine hK.out _ _ trivial (fun hHeld => ?_)
     clear hK K
     refine norm_ (a' := ?_) ?_ ?_
     rotate_left
     ·show Act.put _ (some 26) _ = _
      simp only [Act.put, List.setIfInBounds_toArray, List.set_cons_zero, List.set_cons_succ, i64_w, i32_w]
      rfl
     refine pure_ (i := 9) (N := some 2) (v := ?_) (a' := ?_) #[true, true, true, true, true, true, true, true, true, true] rfl rfl (any_of HT_.out (by kernel_rfl)) (fun _ _ _ h => h) (Or.inl ⟨by rfl, ?_⟩) ?_ ?_
     rotate_left
     ·intro w'
      go_simp
      with_reducible rfl
     rotate_left
     ·simp only [Act.put, List.setIfInBounds_toArray, List.set_cons_zero, List.set_cons_succ, i64_w, i32_w]
      rfl
     refine done_ (done_of HT_.out (by kernel_rfl)) ?_
     try go_wp2
     go_ret
     exact ⟨by first | rfl | (simp [errW_none, errW_some] <;> rfl) | (simp [*, errW_none, errW_some] <;> rfl) | exact False.elim (Bool.noConfusion ((decide_eq_true (of_eq_true (by assumption))).symm.trans (by assumption))), bl_⟩
    ·rw [if_neg c11] at H
     exact absurd H (by simp)
   ·rw [if_neg c10] at H
    exact absurd H (by simp)


/-! ### spec_PathOf: function 11 -/
mutual
def spec_PathOf.j0 : Nat → List (S27) → Int → Bool → Option (List ByteArray × Bool)
 | 0, _, _, _ => none
 | k + 1, x0, x1, x18 => if x18 = true then (some ((([] : List ByteArray)), false)) else (spec_PathOf.l0 k x0 x1 (([] : List ByteArray)))
def spec_PathOf.l0 : Nat → List (S27) → Int → List ByteArray → Option (List ByteArray × Bool)
 | 0, _, _, _ => none
 | k + 1, x0, x1, x6 => if (x0.length : Int) > 1 then ((spec_l27Half.f k (x0.length : Int)).bind fun t445 => (if x1 < t445 then (if 0 ≤ t445 then (if t445 ≤ (x0.length : Int) then ((spec_RootOf.f k (x0.drop (t445 : Int).toNat)).bind fun t451 => ((some (([t451] : List ByteArray) : List ByteArray)).bind fun y452 => (if y452.length + x6.length < 8796093022208 then (spec_PathOf.l0 k (x0.take (t445 : Int).toNat) x1 (y452 ++ x6)) else (none)))) else (none)) else (none)) else (if 0 ≤ t445 then (if t445 ≤ (x0.length : Int) then ((spec_RootOf.f k (x0.take (t445 : Int).toNat)).bind fun t468 => ((some (([t468] : List ByteArray) : List ByteArray)).bind fun y469 => (if y469.length + x6.length < 8796093022208 then (spec_PathOf.l0 k (x0.drop (t445 : Int).toNat) (wrap64 (x1 - t445)) (y469 ++ x6)) else (none)))) else (none)) else (none)))) else (some (x6, true))
end
def spec_PathOf.f (k : Nat) (l0 : List (S27)) (a1 : Int) : Option (List ByteArray × Bool) := (spec_l01In.f a1 0 (wrap64 ((l0.length : Int) - 1))).bind fun t438 => (if t438 = true then (spec_PathOf.j0 k l0 a1 (decide ((l0.length : Int) > 200))) else (spec_PathOf.j0 k l0 a1 true))
theorem spec_PathOf.mono_l : ∀ k, (∀ y0 y1 y2, LeO (spec_PathOf.j0 k y0 y1 y2) (spec_PathOf.j0 (k + 1) y0 y1 y2)) ∧ (∀ y0 y1 y2, LeO (spec_PathOf.l0 k y0 y1 y2) (spec_PathOf.l0 (k + 1) y0 y1 y2))
 | 0 => ⟨fun _ _ _ r h => by simp [spec_PathOf.j0] at h, fun _ _ _ r h => by simp [spec_PathOf.l0] at h⟩
 | k + 1 => by
  obtain ⟨ih0, ih1⟩ := spec_PathOf.mono_l k
  refine ⟨?_, ?_⟩
  ·intro y0 y1 y2
   unfold spec_PathOf.j0
   repeat' first
   | (with_reducible exact ih0 _ _ _)
   | (with_reducible exact ih1 _ _ _)
   | (with_reducible exact spec_RootOf.mono _ _)
   | (with_reducible exact spec_l27Half.mono _ _)
   | (with_reducible exact LeO.refl _)
   | (with_reducible exact LeO.none _)
   | (with_reducible refine LeO.ite ?_ ?_)
   | (with_reducible refine LeO.bind ?_ (fun _ => ?_))
   | exact ih0 _ _ _
   | exact ih1 _ _ _
   | exact spec_RootOf.mono _ _
   | exact spec_l27Half.mono _ _
   | exact LeO.none _
   | refine LeO.ite ?_ ?_
   | refine LeO.bind ?_ (fun _ => ?_)
  ·intro y0 y1 y2
   unfold spec_PathOf.l0
   repeat' first
   | (with_reducible exact ih0 _ _ _)
   | (with_reducible exact ih1 _ _ _)
   | (with_reducible exact spec_RootOf.mono _ _)
   | (with_reducible exact spec_l27Half.mono _ _)
   | (with_reducible exact LeO.refl _)
   | (with_reducible exact LeO.none _)
   | (with_reducible refine LeO.ite ?_ ?_)
   | (with_reducible refine LeO.bind ?_ (fun _ => ?_))
   | exact ih0 _ _ _
   | exact ih1 _ _ _
   | exact spec_RootOf.mono _ _
   | exact spec_l27Half.mono _ _
   | exact LeO.none _
   | refine LeO.ite ?_ ?_
   | refine LeO.bind ?_ (fun _ => ?_)
theorem spec_PathOf.mono : ∀ a0 a1 k, LeO (spec_PathOf.f k a0 a1) (spec_PathOf.f (k + 1) a0 a1) := by
 intro a0 a1 k
 obtain ⟨ih0, ih1⟩ := spec_PathOf.mono_l k
 unfold spec_PathOf.f
 repeat' first
  | (with_reducible exact ih0 _ _ _)
  | (with_reducible exact ih1 _ _ _)
  | (with_reducible exact spec_RootOf.mono _ _)
  | (with_reducible exact spec_l27Half.mono _ _)
  | (with_reducible exact LeO.refl _)
  | (with_reducible exact LeO.none _)
  | (with_reducible refine LeO.ite ?_ ?_)
  | (with_reducible refine LeO.bind ?_ (fun _ => ?_))
  | exact ih0 _ _ _
  | exact ih1 _ _ _
  | exact spec_RootOf.mono _ _
  | exact spec_l27Half.mono _ _
  | exact LeO.none _
  | refine LeO.ite ?_ ?_
  | refine LeO.bind ?_ (fun _ => ?_)
set_option maxHeartbeats 8000000 in
set_option maxRecDepth 100000 in
theorem spec_PathOf.calls (k : Nat) (P0_ : Nat → Prop) (A0 : Option Addr) (c0 : Nat) (l0 : List (S27)) (a1 : Int) (r1 : List ByteArray) (r2 : Bool) (w : World) (hs0 : Kd.V k27 27 w w.heap.size (fun k_ => P0_ k_) (.slice A0 l0.length c0) l0) (h : spec_PathOf.f k l0 a1 = some (r1, r2)) :
 Calls Tryd.prog 11 #[.slice A0 l0.length c0, .int .i64 a1] w fun e w' => ∃ v0_ : Value, e = .returned (.tuple #[v0_, .bool r2]) ∧ Kd.R Kd.string 9 w' w.heap.size (fun k_ => (w.heap.size ≤ k_)) v0_ r1 ∧ Below w.heap.size w w' := by
 have HO0 := Aside0.mk (show Kd.V k27 27 w w.heap.size (fun k_ => (P0_ k_ ∨ w.heap.size ≤ k_)) (.slice A0 l0.length c0) l0 from Kd.V_mono hs0 (fun k_ hk => .inl hk))
 have HB := Aside0.mk (Below.refl w.heap.size w)
 have H : ((spec_l01In.f a1 0 (wrap64 ((l0.length : Int) - 1))).bind fun t438 => (if t438 = true then (spec_PathOf.j0 k l0 a1 (decide ((l0.length : Int) > 200))) else (spec_PathOf.j0 k l0 a1 true))) = some (r1, r2) := h
 clear h
 have HC3 := Aside0.mk H
 clear H
 go_enter Tryd.func11, Tryd.ntmps11
 go_upto_region 1 with (fail)
 go_cut [18] (fun v18 wc => ∃ (kq : Nat) (x18_2 : Bool), v18 = .bool x18_2 ∧ Aside0 (spec_PathOf.j0 kq l0 a1 x18_2 = some (r1, r2)) ∧ Aside0 (kq ≤ k) ∧ Aside0 (Kd.V k27 27 wc w.heap.size (fun k_ => (P0_ k_ ∨ w.heap.size ≤ k_)) (.slice A0 l0.length c0) l0) ∧ Aside0 (Below w.heap.size w wc))
 case first =>
  have H := HC3.out
  clear HC3
  replace H := Option.bind_eq_some_iff.mp H
  obtain ⟨t438, A40, H⟩ := H
  try dsimp only at H
  have A4 := Aside0.mk A40
  clear A40
  by_cases c5 : t438 = true
  ·subst c5
   rw [if_pos rfl] at H
   have H' := Aside0.mk H
   clear H
   go_wp2_with (first | ((with_reducible refine gate_callee (f := 62) rfl ?_); refine goesL_ (some 12) rfl rfl Tryd.func62 (by kernel_rfl) rfl #[.int .i64 a1, .int .i64 0, .int .i64 (wrap64 ((l0.length : Int) - 1))] rfl lm_ ?_; (with_reducible refine (spec_l01In.calls a1 0 (wrap64 ((l0.length : Int) - 1)) true _ A4.out).mono ?_); rintro e w' ⟨rfl, ⟨nd, rfl⟩⟩; refine ⟨_, rfl, ?_⟩))
   go_meet
   case rel => exact ⟨_, (decide ((l0.length : Int) > 200)), (by first | rfl | (simp; done) | (simp [*]; done)), H', ⟨by first | omega | exact Nat.le_refl _⟩, ⟨by (with_reducible repeat (first | apply Kd.V_alloc | apply Kd.V_drewN | apply Kd.V_drew)); exact HO0.out⟩, ⟨bl_⟩⟩
  ·replace c5 := Bool.eq_false_iff.mpr c5
   subst c5
   rw [if_neg (show ¬ (false = true) by decide)] at H
   have H' := Aside0.mk H
   clear H
   go_wp2_with (first | ((with_reducible refine gate_callee (f := 62) rfl ?_); refine goesL_ (some 12) rfl rfl Tryd.func62 (by kernel_rfl) rfl #[.int .i64 a1, .int .i64 0, .int .i64 (wrap64 ((l0.length : Int) - 1))] rfl lm_ ?_; (with_reducible refine (spec_l01In.calls a1 0 (wrap64 ((l0.length : Int) - 1)) false _ A4.out).mono ?_); rintro e w' ⟨rfl, ⟨nd, rfl⟩⟩; refine ⟨_, rfl, ?_⟩))
   go_meet
   case rel => exact ⟨_, (true), (by first | rfl | (simp; done) | (simp [*]; done)), H', ⟨by first | omega | exact Nat.le_refl _⟩, ⟨by (with_reducible repeat (first | apply Kd.V_alloc | apply Kd.V_drewN | apply Kd.V_drew)); exact HO0.out⟩, ⟨bl_⟩⟩
 case rest =>
  clear HC3
  try clear c1
  try clear p2
  try clear c5
  obtain ⟨kq, x18_2, rfl, HA, HJ2, HO_0, HB⟩ := hcut
  cases kq with
  | zero => exact absurd HA.out (by simp [spec_PathOf.j0])
  | succ kj2 =>
   have H := HA.out
   clear HA
   simp only [spec_PathOf.j0] at H
   by_cases c6 : x18_2 = true
   ·subst c6
    rw [if_pos rfl] at H
    obtain ⟨y439, hy439⟩ : ∃ y_ : List ByteArray, y_ = (([] : List ByteArray)) := ⟨_, rfl⟩
    replace H : (some (y439, false)) = some (r1, r2) := by first | (rw [hy439]; with_reducible exact H) | (have H2_ := (Option.bind_some _ _).symm.trans H; rw [hy439]; with_reducible exact H2_) | (have H2_ := (Option.bind_some _ _).symm.trans H; with_reducible exact H2_) | with_reducible exact H | (rw [hy439]; exact H) | exact H
    have Ny439 := Aside0.mk hy439
    clear hy439
    simp only [Option.some.injEq, Prod.mk.injEq] at H
    obtain ⟨rfl, rfl⟩ := H
    go_wp2_with (first | ((with_reducible refine gate_dst (N := 19) rfl ?_); (try (refine gate_guard (by rfl) ?_; dsimp only)); refine Kd.R_lit Kd.string _ 9 ?hg (N := 19) ?hd (xs := ([] : List ByteArray)) (inner := []) (ok := fun _ => True) (okp := fun _ => True) ?hr ?hp (fun _ hk => hk) trivial (Below.refl _ _) (Nat.le_refl _) (by simp) ?_; (case hd => rfl); (case hg => rfl); (case hr => first | (go_simp; done) | (go_simp; rfl)); (case hp => exact (Reps.none _ _)); intro v440 w7 ho8 hb hg_ hnew_; clear hg_ hnew_; (first | rw [← Ny439.out] at ho8 | (simp only [Int.reduceToNat] at ho8; rw [← Ny439.out] at ho8)); have n0_ := Aside0.mk (Kd.V_elder' (by (with_reducible repeat (first | apply Kd.V_alloc | apply Kd.V_drewN | apply Kd.V_drew)); exact HO_0.out) (Kd.R_base ho8) hb); have n1_ := Aside0.mk (Kd.R_lower (Kd.R_newM (M := fun k_ => (w.heap.size ≤ k_)) ho8 (below_size bl_) (fun k_ h_ => h_)) (below_size bl_)); have n2_ := Aside0.mk (below_step bl_ hb); clear HO_0; clear HB; have HO_0 := n0_; have HO441 := n1_; have HB := n2_; clear n0_ n1_ n2_; clear hb ho8))
    go_ret2
    exact ⟨_, by first | rfl | (simp [errW_none, errW_some] <;> rfl) | (simp [*, errW_none, errW_some] <;> rfl) | exact False.elim (Bool.noConfusion ((decide_eq_true (of_eq_true (by assumption))).symm.trans (by assumption))), by (with_reducible repeat (first | apply Kd.R_alloc | apply Kd.R_drewN | apply Kd.R_drew)); exact Kd.R_mono HO441.out (fun _ hk => hk.1), bl_⟩
   ·replace c6 := Bool.eq_false_iff.mpr c6
    subst c6
    rw [if_neg (show ¬ (false = true) by decide)] at H
    obtain ⟨y442, hy442⟩ : ∃ y_ : List ByteArray, y_ = (([] : List ByteArray)) := ⟨_, rfl⟩
    replace H : (spec_PathOf.l0 kj2 l0 a1 y442) = some (r1, r2) := by first | (rw [hy442]; with_reducible exact H) | (have H2_ := (Option.bind_some _ _).symm.trans H; rw [hy442]; with_reducible exact H2_) | (have H2_ := (Option.bind_some _ _).symm.trans H; with_reducible exact H2_) | with_reducible exact H | (rw [hy442]; exact H) | exact H
    have Ny442 := Aside0.mk hy442
    clear hy442
    have H' := Aside0.mk H
    clear H
    go_wp2_with (first | ((with_reducible refine gate_dst (N := 20) rfl ?_); (try (refine gate_guard (by rfl) ?_; dsimp only)); refine Kd.R_lit Kd.string _ 9 ?hg (N := 20) ?hd (xs := ([] : List ByteArray)) (inner := []) (ok := fun _ => True) (okp := fun _ => True) ?hr ?hp (fun _ hk => hk) trivial (Below.refl _ _) (Nat.le_refl _) (by simp) ?_; (case hd => rfl); (case hg => rfl); (case hr => first | (go_simp; done) | (go_simp; rfl)); (case hp => exact (Reps.none _ _)); intro v443 w9 ho10 hb hg_ hnew_; clear hg_ hnew_; (first | rw [← Ny442.out] at ho10 | (simp only [Int.reduceToNat] at ho10; rw [← Ny442.out] at ho10)); have n0_ := Aside0.mk (Kd.V_elder' (by (with_reducible repeat (first | apply Kd.V_alloc | apply Kd.V_drewN | apply Kd.V_drew)); exact HO_0.out) (Kd.R_base ho10) hb); have n1_ := Aside0.mk (Kd.R_lower (Kd.R_newM (M := fun k_ => (w.heap.size ≤ k_)) ho10 (below_size bl_) (fun k_ h_ => h_)) (below_size bl_)); have n2_ := Aside0.mk (below_step bl_ hb); clear HO_0; clear HB; have HO_0 := n0_; have HO444 := n1_; have HB := n2_; clear n0_ n1_ n2_; clear hb ho10))
    go_loopg [0, 1, 6] kj2 (fun kq v0 v1 v6 w' => ∃ (x0_2 : List (S27)) (x1_2 : Int) (x6_2 : List ByteArray), v1 = .int .i64 x1_2 ∧ Aside0 (spec_PathOf.l0 kq x0_2 x1_2 x6_2 = some (r1, r2)) ∧ Aside0 (kq ≤ kj2) ∧ Aside0 (Kd.V k27 27 w' w.heap.size (fun k_ => (P0_ k_ ∨ w.heap.size ≤ k_) ∧ some k_ ≠ (v6 : Value).ownBlock) v0 x0_2) ∧ Aside0 (Kd.R Kd.string 9 w' w.heap.size (fun k_ => (w.heap.size ≤ k_)) v6 x6_2) ∧ Aside0 (Below w.heap.size w w'))
    case atStart => exact ⟨(l0), (a1), (y442), (by first | rfl | (simp; done) | (simp [*]; done)), H', ⟨Nat.le_refl _⟩, ⟨by (with_reducible repeat (first | apply Kd.V_alloc | apply Kd.V_drewN | apply Kd.V_drew)); exact HO_0.out⟩, ⟨by (with_reducible repeat (first | apply Kd.R_alloc | apply Kd.R_drewN | apply Kd.R_drew)); exact Kd.R_mono HO444.out (fun _ hk => hk.1)⟩, ⟨bl_⟩⟩
    case round =>
     clear H'
     try clear c1
     try clear p2
     try clear c5
     try clear c6
     try clear p6
     try clear p2
     obtain ⟨x0_2, x1_2, x6_2, rfl, HA, HK2, HO_0, HO_6, HB⟩ := hrel
     cases gk with
     | zero => exact absurd HA.out (by simp [spec_PathOf.l0])
     | succ k2 =>
      have H := HA.out
      clear HA
      simp only [spec_PathOf.l0] at H
      by_cases c11 : (x0_2.length : Int) > 1
      ·rw [if_pos c11] at H
       have c11b0 : decide (1 < (x0_2.length : Int)) = true := decide_eq_true c11
       have c11b1 : decide (1 < x0_2.length) = true := decide_eq_true (by omega)
       clear c11
       replace H := Option.bind_eq_some_iff.mp H
       obtain ⟨t445, A120, H⟩ := H
       try dsimp only at H
       have A12 := Aside0.mk A120
       clear A120
       by_cases c13 : x1_2 < t445
       ·rw [if_pos c13] at H
        have c13b0 : decide (x1_2 < t445) = true := decide_eq_true c13
        clear c13
        by_cases c14 : 0 ≤ t445
        ·rw [if_pos c14] at H
         have c14b0 := eq_true c14
         have c14b1 : decide (0 ≤ t445) = true := decide_eq_true c14
         clear c14
         by_cases c15 : t445 ≤ (x0_2.length : Int)
         ·rw [if_pos c15] at H
          have c15b0 := eq_true c15
          have c15b1 : decide (t445 ≤ (x0_2.length : Int)) = true := decide_eq_true c15
          clear c15
          obtain ⟨y446, hy446⟩ : ∃ y_ : List (S27), y_ = (x0_2.drop (t445 : Int).toNat) := ⟨_, rfl⟩
          replace H : ((spec_RootOf.f k2 y446).bind fun t451 => ((some (([t451] : List ByteArray) : List ByteArray)).bind fun y452 => (if y452.length + x6_2.length < 8796093022208 then (spec_PathOf.l0 k2 (x0_2.take (t445 : Int).toNat) x1_2 (y452 ++ x6_2)) else (none)))) = some (r1, r2) := by first | (rw [hy446]; with_reducible exact H) | (have H2_ := (Option.bind_some _ _).symm.trans H; rw [hy446]; with_reducible exact H2_) | (have H2_ := (Option.bind_some _ _).symm.trans H; with_reducible exact H2_) | with_reducible exact H | (rw [hy446]; exact H) | exact H
          have Ny446 := Aside0.mk hy446
          clear hy446
          replace H := Option.bind_eq_some_iff.mp H
          obtain ⟨t451, A160, H⟩ := H
          try dsimp only at H
          have A16 := Aside0.mk A160
          clear A160
          obtain ⟨y452, hy452⟩ : ∃ y_ : List ByteArray, y_ = (([t451] : List ByteArray)) := ⟨_, rfl⟩
          replace H : (if y452.length + x6_2.length < 8796093022208 then (spec_PathOf.l0 k2 (x0_2.take (t445 : Int).toNat) x1_2 (y452 ++ x6_2)) else (none)) = some (r1, r2) := by first | (rw [hy452]; with_reducible exact H) | (have H2_ := (Option.bind_some _ _).symm.trans H; rw [hy452]; with_reducible exact H2_) | (have H2_ := (Option.bind_some _ _).symm.trans H; with_reducible exact H2_) | with_reducible exact H | (rw [hy452]; exact H) | exact H
          have Ny452 := Aside0.mk hy452
          clear hy452
          by_cases c17 : y452.length + x6_2.length < 8796093022208
          ·rw [if_pos c17] at H
           have LMc17 := Aside0.mk c17
           clear c17
           obtain ⟨y455, hy455⟩ : ∃ y_ : List ByteArray, y_ = (y452 ++ x6_2) := ⟨_, rfl⟩
           replace H : (spec_PathOf.l0 k2 (x0_2.take (t445 : Int).toNat) x1_2 y455) = some (r1, r2) := by first | (rw [hy455]; with_reducible exact H) | (have H2_ := (Option.bind_some _ _).symm.trans H; rw [hy455]; with_reducible exact H2_) | (have H2_ := (Option.bind_some _ _).symm.trans H; with_reducible exact H2_) | with_reducible exact H | (rw [hy455]; exact H) | exact H
           have Ny455 := Aside0.mk hy455
           clear hy455
           have c18b0 := eq_true (of_decide_eq_true as_ : 0 ≤ t445)
           have c19b0 := eq_true (of_decide_eq_true as_ : t445 ≤ (x0_2.length : Int))
           obtain ⟨y458, hy458⟩ : ∃ y_ : List (S27), y_ = (x0_2.take (t445 : Int).toNat) := ⟨_, rfl⟩
           replace H : (spec_PathOf.l0 k2 y458 x1_2 y455) = some (r1, r2) := by first | (rw [hy458]; with_reducible exact H) | (have H2_ := (Option.bind_some _ _).symm.trans H; rw [hy458]; with_reducible exact H2_) | (have H2_ := (Option.bind_some _ _).symm.trans H; with_reducible exact H2_) | with_reducible exact H | (rw [hy458]; exact H) | exact H
           have Ny458 := Aside0.mk hy458
           clear hy458
           have H' := Aside0.mk H
           clear H
           obtain ⟨Ao20, co20, eo20⟩ := Kd.V_slice HO_0.out
           subst eo20
           go_wp2_with (first | ((with_reducible refine gate_callee (f := 63) rfl ?_); refine goesL_ (some 26) rfl rfl Tryd.func63 (by kernel_rfl) rfl #[.int .i64 (x0_2.length : Int)] rfl lm_ ?_; (with_reducible refine (spec_l27Half.calls k2 (x0_2.length : Int) t445 _ A12.out).mono ?_); rintro e w' ⟨rfl, ⟨nd, rfl⟩⟩; refine ⟨_, rfl, ?_⟩; have q21 : (t445 : Int) ≤ ((x0_2.length : Int) : Int) := of_decide_eq_true as_; obtain ⟨i021, hi021, _, hsz21, _⟩ := info_parts info27; have hroom21 : x0_2.length ≤ co20 := (Kd.V_reads' HO_0.out).2.1; have hC21 : Kd.F k27 _ _ Ao20 x0_2.length x0_2 := (Kd.V_at (base := w.heap.size) HO_0.out).2.2; have q021 : (0 : Int) ≤ (t445 : Int) := of_decide_eq_true as_; have hcut21 := cut_from (P := Tryd.prog) 31 27 .i64 Tryd.underlying31 hi021 6 hsz21 Ao20 x0_2.length co20 t445 q021 q21; have hr21 := Kd.F_cut (m := (t445 : Int).toNat) (c := co20) hC21 (by omega) hroom21; obtain ⟨A21, hA21⟩ : ∃ A1, A1 = (if co20 = (t445 : Int).toNat then Ao20 else (Ao20 : Option Addr).map (·.add ((t445 : Int).toNat * 6))) := ⟨_, rfl⟩; obtain ⟨c21, hc21⟩ : ∃ c1, c1 = co20 - (t445 : Int).toNat := ⟨_, rfl⟩; have hy21 : y446.length = x0_2.length - (t445 : Int).toNat := (by rw [Ny446.out, List.length_drop] <;> omega); rw [show (x0_2).drop (t445 : Int).toNat = y446 from Ny446.out.symm] at hr21; replace hr21 : Kd.F k27 _ _ A21 y446.length y446 := (by rw [hA21]; exact hr21); rw [← hy21, ← hA21, ← hc21] at hcut21; have HO450 := Aside0.mk (show Kd.V k27 27 _ w.heap.size _ (.slice A21 y446.length c21) y446 from Kd.V_mk (by rw [hy21, hc21]; exact Nat.sub_le_sub_right hroom21 _) hr21); have HC450 := Aside0.mk (show y446.length ≤ c21 from by rw [hy21, hc21]; exact Nat.sub_le_sub_right hroom21 _); clear hr21 hC21 hroom21 hi021 hsz21 hc21; have KY21 := Aside0.mk hy21; have KA21 := Aside0.mk hA21; clear hy21 hA21; replace q21 := eq_true q21) | ((with_reducible refine gate_callee (f := 18) rfl ?_); refine goesL_ (some 33) rfl rfl Tryd.func18 (by kernel_rfl) rfl #[.slice A21 y446.length c21] rfl lm_ ?_; (with_reducible refine (spec_RootOf.calls k2 _ _ y446 t451 _ ?side1 ?side2 A16.out).mono ?_); (case side1 => repeat (first | exact (Kd.V_reads' HO450.out).2.2 | (with_reducible refine Kd.C_alloc ?_ _) | (with_reducible refine Kd.C_drewN ?_ _) | (with_reducible refine Kd.C_drew ?_))); (case side2 => exact (Kd.V_reads' HO450.out).2.1); rintro e w22 ⟨rfl, hb⟩; refine ⟨_, rfl, ?_⟩; have n0_ := Aside0.mk (Kd.V_below (by (with_reducible repeat (first | apply Kd.V_alloc | apply Kd.V_drewN | apply Kd.V_drew)); exact HO_0.out) hb); have n1_ := Aside0.mk (Kd.R_below (ra_ HO_6.out) hb); have n2_ := Aside0.mk (Kd.V_below (by (with_reducible repeat (first | apply Kd.V_alloc | apply Kd.V_drewN | apply Kd.V_drew)); exact HO450.out) hb); have n3_ := Aside0.mk (below_step bl_ hb); clear HO_0; clear HO_6; clear HO450; clear HB; have HO_0 := n0_; have HO_6 := n1_; have HO450 := n2_; have HB := n3_; clear n0_ n1_ n2_ n3_; (try clear hb); (try clear hb2); (try clear hk); (try clear hi)) | ((with_reducible refine gate_dst (N := 34) rfl ?_); (try (refine gate_guard (by rfl) ?_; dsimp only)); refine Kd.R_lit Kd.string _ 9 ?hg (N := 34) ?hd (xs := ([t451] : List ByteArray)) (inner := [.string t451]) (ok := fun _ => True) (okp := fun _ => True) ?hr ?hp (fun _ hk => hk) trivial (Below.refl _ _) (Nat.le_refl _) (by simp) ?_; (case hd => rfl); (case hg => rfl); (case hr => first | (go_simp; done) | (go_simp; rfl)); (case hp => exact (Reps.one (show Kd.M Kd.string _ _ _ t451 [.string t451] from rfl) (Reps.none _ _))); intro v453 w23 ho24 hb hg_ hnew_; clear hg_ hnew_; (first | rw [← Ny452.out] at ho24 | (simp only [Int.reduceToNat] at ho24; rw [← Ny452.out] at ho24)); have n0_ := Aside0.mk (Kd.V_elder' (by (with_reducible repeat (first | apply Kd.V_alloc | apply Kd.V_drewN | apply Kd.V_drew)); exact HO_0.out) (Kd.R_base ho24) hb); have n1_ := Aside0.mk (Kd.R_elder' (ra_ HO_6.out) (Kd.R_base ho24) hb); have n2_ := Aside0.mk (Kd.V_elder' (by (with_reducible repeat (first | apply Kd.V_alloc | apply Kd.V_drewN | apply Kd.V_drew)); exact HO450.out) (Kd.R_base ho24) hb); have n3_ := Aside0.mk (Kd.R_lower (Kd.R_new' (Kd.R_newM (M := fun k_ => (w.heap.size ≤ k_)) ho24 (below_size bl_) (fun k_ h_ => h_)) (Kd.R_lt (ra_ HO_6.out))) (below_size bl_)); have n4_ := Aside0.mk (below_step bl_ hb); clear HO_0; clear HO_6; clear HO450; clear HB; have HO_0 := n0_; have HO_6 := n1_; have HO450 := n2_; have HO454 := n3_; have HB := n4_; clear n0_ n1_ n2_ n3_ n4_; clear hb ho24; obtain ⟨Ao26, co26, eo26⟩ := Kd.R_slice HO_6.out; subst eo26) | ((with_reducible refine gate_builtin (b := .append) (xs := #[.tmp 34, .tmp 35]) rfl ?_); (try (refine gate_guard (by rfl) ?_; dsimp only)); at_builtin; refine Kd.R_append_rows Kd.string (w0 := w) w.heap.size rfl (.tmp 34) (.tmp 35) 34 9 (.string ⟨#[]⟩) 16 rfl Tryd.underlying34 info9 rfl (by decide) (by omega) v453 y452 x6_2 _ _ _ (fun k_ => (w.heap.size ≤ k_) ∧ some k_ ≠ (.slice Ao26 x6_2.length co26 : Value).ownBlock) (fun _ => False) rfl rfl ?aO ?aR (fun _ _ h => h) (fun _ h => h.elim) ?aF ?aB ?aS ?aL ?_; (case aR => repeat (first | exact (Kd.R_reads' HO_6.out).2.2 | (with_reducible refine Kd.C_alloc ?_ _) | (with_reducible refine Kd.C_drewN ?_ _) | (with_reducible refine Kd.C_drew ?_))); (case aB => exact bl_); (case aF => exact (fun k_ hk => ⟨(Nat.le_trans (below_size bl_) hk), Kd.fresh' (Kd.R_lt (ra_ HO_6.out)) k_ hk⟩)); (case aO => exact (by (with_reducible repeat (first | apply Kd.R_alloc | apply Kd.R_drewN | apply Kd.R_drew)); exact Kd.R_mono HO454.out (fun _ hk => ⟨hk.1.1, hk.2⟩))); (case aS => exact (below_size bl_)); (case aL => have := LMc17.out; omega); intro v456 w25 ho hb hg hat; rw [← Ny455.out] at ho; have n0_ := Aside0.mk (Kd.V_afterv (ok := (fun k_ => (P0_ k_ ∨ w.heap.size ≤ k_) ∧ some k_ ≠ (.slice Ao26 x6_2.length co26 : Value).ownBlock)) (by (with_reducible repeat (first | apply Kd.V_alloc | apply Kd.V_drewN | apply Kd.V_drew)); exact HO_0.out) hg hat); have n1_ := Aside0.mk (Kd.R_after (ok := (fun k_ => (w.heap.size ≤ k_))) (ra_ HO_6.out) hg hat); have n2_ := Aside0.mk (Kd.V_afterv (ok := (fun k_ => (P0_ k_ ∨ w.heap.size ≤ k_) ∧ some k_ ≠ (.slice Ao26 x6_2.length co26 : Value).ownBlock)) (by (with_reducible repeat (first | apply Kd.V_alloc | apply Kd.V_drewN | apply Kd.V_drew)); exact HO450.out) hg hat); have n3_ := Aside0.mk (hb); have n4_ := Aside0.mk (ho); clear HO_0; clear HO_6; clear HO450; clear HB; clear HO454; have HO_0 := n0_; have HO_6 := n1_; have HO450 := n2_; have HB := n3_; have HO457 := n4_; clear n0_ n1_ n2_ n3_ n4_; clear ho hb hg hat; have q27 : (t445 : Int) ≤ ((x0_2.length : Int) : Int) := of_decide_eq_true as_; obtain ⟨i027, hi027, _, hsz27, _⟩ := info_parts info27; have hroom27 : x0_2.length ≤ co20 := (Kd.V_reads' HO_0.out).2.1; have hC27 : Kd.F k27 _ _ Ao20 x0_2.length x0_2 := (Kd.V_at (base := w.heap.size) HO_0.out).2.2; have hcut27 := cut_to (P := Tryd.prog) 31 27 .i64 Tryd.underlying31 hi027 Ao20 x0_2.length co20 t445 (of_decide_eq_true as_) q27 hroom27; have hr27 := Kd.F_take (m := (t445 : Int).toNat) hC27 (by omega); have hy27 : y458.length = (t445 : Int).toNat := (by rw [Ny458.out, List.length_take]; omega); rw [← Ny458.out] at hr27; rw [← hy27] at hcut27; have HO462 := Aside0.mk (show Kd.V k27 27 _ w.heap.size _ (.slice Ao20 y458.length co20) y458 from Kd.V_mk (by omega) hr27); have HC462 := Aside0.mk (show y458.length ≤ co20 from by omega); clear hr27 hC27 hroom27 hi027 hsz27; have KY27 := Aside0.mk hy27; clear hy27; replace q27 := eq_true q27))
           go_roundg k2
           case measure => have := HJ2.out; have := HK2.out; omega
           case rel => exact ⟨(y458), (x1_2), (y455), (by first | rfl | (simp; done) | (simp [*]; done)), H', ⟨by have := HJ2.out; have := HK2.out; omega⟩, ⟨by (with_reducible repeat (first | apply Kd.V_alloc | apply Kd.V_drewN | apply Kd.V_drew)); exact Kd.V_mono HO462.out (fun _ hk => ⟨hk.1.1, hk.2⟩)⟩, ⟨by (with_reducible repeat (first | apply Kd.R_alloc | apply Kd.R_drewN | apply Kd.R_drew)); exact Kd.R_mono HO457.out (fun _ hk => hk.1)⟩, ⟨bl_⟩⟩
          ·rw [if_neg c17] at H
           exact absurd H (by simp)
         ·rw [if_neg c15] at H
          exact absurd H (by simp)
        ·rw [if_neg c14] at H
         exact absurd H (by simp)
       ·rw [if_neg c13] at H
        have c13b0 : decide (x1_2 < t445) = false := decide_eq_false c13
        clear c13
        by_cases c28 : 0 ≤ t445
        ·rw [if_pos c28] at H
         have c28b0 := eq_true c28
         have c28b1 : decide (0 ≤ t445) = true := decide_eq_true c28
         clear c28
         by_cases c29 : t445 ≤ (x0_2.length : Int)
         ·rw [if_pos c29] at H
          have c29b0 := eq_true c29
          have c29b1 : decide (t445 ≤ (x0_2.length : Int)) = true := decide_eq_true c29
          clear c29
          obtain ⟨y463, hy463⟩ : ∃ y_ : List (S27), y_ = (x0_2.take (t445 : Int).toNat) := ⟨_, rfl⟩
          replace H : ((spec_RootOf.f k2 y463).bind fun t468 => ((some (([t468] : List ByteArray) : List ByteArray)).bind fun y469 => (if y469.length + x6_2.length < 8796093022208 then (spec_PathOf.l0 k2 (x0_2.drop (t445 : Int).toNat) (wrap64 (x1_2 - t445)) (y469 ++ x6_2)) else (none)))) = some (r1, r2) := by first | (rw [hy463]; with_reducible exact H) | (have H2_ := (Option.bind_some _ _).symm.trans H; rw [hy463]; with_reducible exact H2_) | (have H2_ := (Option.bind_some _ _).symm.trans H; with_reducible exact H2_) | with_reducible exact H | (rw [hy463]; exact H) | exact H
          have Ny463 := Aside0.mk hy463
          clear hy463
          replace H := Option.bind_eq_some_iff.mp H
          obtain ⟨t468, A300, H⟩ := H
          try dsimp only at H
          have A30 := Aside0.mk A300
          clear A300
          obtain ⟨y469, hy469⟩ : ∃ y_ : List ByteArray, y_ = (([t468] : List ByteArray)) := ⟨_, rfl⟩
          replace H : (if y469.length + x6_2.length < 8796093022208 then (spec_PathOf.l0 k2 (x0_2.drop (t445 : Int).toNat) (wrap64 (x1_2 - t445)) (y469 ++ x6_2)) else (none)) = some (r1, r2) := by first | (rw [hy469]; with_reducible exact H) | (have H2_ := (Option.bind_some _ _).symm.trans H; rw [hy469]; with_reducible exact H2_) | (have H2_ := (Option.bind_some _ _).symm.trans H; with_reducible exact H2_) | with_reducible exact H | (rw [hy469]; exact H) | exact H
          have Ny469 := Aside0.mk hy469
          clear hy469
          by_cases c31 : y469.length + x6_2.length < 8796093022208
          ·rw [if_pos c31] at H
           have LMc31 := Aside0.mk c31
           clear c31
           obtain ⟨y472, hy472⟩ : ∃ y_ : List ByteArray, y_ = (y469 ++ x6_2) := ⟨_, rfl⟩
           replace H : (spec_PathOf.l0 k2 (x0_2.drop (t445 : Int).toNat) (wrap64 (x1_2 - t445)) y472) = some (r1, r2) := by first | (rw [hy472]; with_reducible exact H) | (have H2_ := (Option.bind_some _ _).symm.trans H; rw [hy472]; with_reducible exact H2_) | (have H2_ := (Option.bind_some _ _).symm.trans H; with_reducible exact H2_) | with_reducible exact H | (rw [hy472]; exact H) | exact H
           have Ny472 := Aside0.mk hy472
           clear hy472
           have c32b0 := eq_true (of_decide_eq_true as_ : 0 ≤ t445)
           have c33b0 := eq_true (of_decide_eq_true as_ : t445 ≤ (x0_2.length : Int))
           obtain ⟨y475, hy475⟩ : ∃ y_ : List (S27), y_ = (x0_2.drop (t445 : Int).toNat) := ⟨_, rfl⟩
           replace H : (spec_PathOf.l0 k2 y475 (wrap64 (x1_2 - t445)) y472) = some (r1, r2) := by first | (rw [hy475]; with_reducible exact H) | (have H2_ := (Option.bind_some _ _).symm.trans H; rw [hy475]; with_reducible exact H2_) | (have H2_ := (Option.bind_some _ _).symm.trans H; with_reducible exact H2_) | with_reducible exact H | (rw [hy475]; exact H) | exact H
           have Ny475 := Aside0.mk hy475
           clear hy475
           have H' := Aside0.mk H
           clear H
           obtain ⟨Ao34, co34, eo34⟩ := Kd.V_slice HO_0.out
           subst eo34
           go_wp2_with (first | ((with_reducible refine gate_callee (f := 63) rfl ?_); refine goesL_ (some 26) rfl rfl Tryd.func63 (by kernel_rfl) rfl #[.int .i64 (x0_2.length : Int)] rfl lm_ ?_; (with_reducible refine (spec_l27Half.calls k2 (x0_2.length : Int) t445 _ A12.out).mono ?_); rintro e w' ⟨rfl, ⟨nd, rfl⟩⟩; refine ⟨_, rfl, ?_⟩; have q35 : (t445 : Int) ≤ ((x0_2.length : Int) : Int) := of_decide_eq_true as_; obtain ⟨i035, hi035, _, hsz35, _⟩ := info_parts info27; have hroom35 : x0_2.length ≤ co34 := (Kd.V_reads' HO_0.out).2.1; have hC35 : Kd.F k27 _ _ Ao34 x0_2.length x0_2 := (Kd.V_at (base := w.heap.size) HO_0.out).2.2; have hcut35 := cut_to (P := Tryd.prog) 31 27 .i64 Tryd.underlying31 hi035 Ao34 x0_2.length co34 t445 (of_decide_eq_true as_) q35 hroom35; have hr35 := Kd.F_take (m := (t445 : Int).toNat) hC35 (by omega); have hy35 : y463.length = (t445 : Int).toNat := (by rw [Ny463.out, List.length_take]; omega); rw [← Ny463.out] at hr35; rw [← hy35] at hcut35; have HO467 := Aside0.mk (show Kd.V k27 27 _ w.heap.size _ (.slice Ao34 y463.length co34) y463 from Kd.V_mk (by omega) hr35); have HC467 := Aside0.mk (show y463.length ≤ co34 from by omega); clear hr35 hC35 hroom35 hi035 hsz35; have KY35 := Aside0.mk hy35; clear hy35; replace q35 := eq_true q35) | ((with_reducible refine gate_callee (f := 18) rfl ?_); refine goesL_ (some 43) rfl rfl Tryd.func18 (by kernel_rfl) rfl #[.slice Ao34 y463.length co34] rfl lm_ ?_; (with_reducible refine (spec_RootOf.calls k2 _ _ y463 t468 _ ?side1 ?side2 A30.out).mono ?_); (case side1 => repeat (first | exact (Kd.V_reads' HO467.out).2.2 | (with_reducible refine Kd.C_alloc ?_ _) | (with_reducible refine Kd.C_drewN ?_ _) | (with_reducible refine Kd.C_drew ?_))); (case side2 => exact (Kd.V_reads' HO467.out).2.1); rintro e w36 ⟨rfl, hb⟩; refine ⟨_, rfl, ?_⟩; have n0_ := Aside0.mk (Kd.V_below (by (with_reducible repeat (first | apply Kd.V_alloc | apply Kd.V_drewN | apply Kd.V_drew)); exact HO_0.out) hb); have n1_ := Aside0.mk (Kd.R_below (ra_ HO_6.out) hb); have n2_ := Aside0.mk (Kd.V_below (by (with_reducible repeat (first | apply Kd.V_alloc | apply Kd.V_drewN | apply Kd.V_drew)); exact HO467.out) hb); have n3_ := Aside0.mk (below_step bl_ hb); clear HO_0; clear HO_6; clear HO467; clear HB; have HO_0 := n0_; have HO_6 := n1_; have HO467 := n2_; have HB := n3_; clear n0_ n1_ n2_ n3_; (try clear hb); (try clear hb2); (try clear hk); (try clear hi)) | ((with_reducible refine gate_dst (N := 44) rfl ?_); (try (refine gate_guard (by rfl) ?_; dsimp only)); refine Kd.R_lit Kd.string _ 9 ?hg (N := 44) ?hd (xs := ([t468] : List ByteArray)) (inner := [.string t468]) (ok := fun _ => True) (okp := fun _ => True) ?hr ?hp (fun _ hk => hk) trivial (Below.refl _ _) (Nat.le_refl _) (by simp) ?_; (case hd => rfl); (case hg => rfl); (case hr => first | (go_simp; done) | (go_simp; rfl)); (case hp => exact (Reps.one (show Kd.M Kd.string _ _ _ t468 [.string t468] from rfl) (Reps.none _ _))); intro v470 w37 ho38 hb hg_ hnew_; clear hg_ hnew_; (first | rw [← Ny469.out] at ho38 | (simp only [Int.reduceToNat] at ho38; rw [← Ny469.out] at ho38)); have n0_ := Aside0.mk (Kd.V_elder' (by (with_reducible repeat (first | apply Kd.V_alloc | apply Kd.V_drewN | apply Kd.V_drew)); exact HO_0.out) (Kd.R_base ho38) hb); have n1_ := Aside0.mk (Kd.R_elder' (ra_ HO_6.out) (Kd.R_base ho38) hb); have n2_ := Aside0.mk (Kd.V_elder' (by (with_reducible repeat (first | apply Kd.V_alloc | apply Kd.V_drewN | apply Kd.V_drew)); exact HO467.out) (Kd.R_base ho38) hb); have n3_ := Aside0.mk (Kd.R_lower (Kd.R_new' (Kd.R_newM (M := fun k_ => (w.heap.size ≤ k_)) ho38 (below_size bl_) (fun k_ h_ => h_)) (Kd.R_lt (ra_ HO_6.out))) (below_size bl_)); have n4_ := Aside0.mk (below_step bl_ hb); clear HO_0; clear HO_6; clear HO467; clear HB; have HO_0 := n0_; have HO_6 := n1_; have HO467 := n2_; have HO471 := n3_; have HB := n4_; clear n0_ n1_ n2_ n3_ n4_; clear hb ho38; obtain ⟨Ao40, co40, eo40⟩ := Kd.R_slice HO_6.out; subst eo40) | ((with_reducible refine gate_builtin (b := .append) (xs := #[.tmp 44, .tmp 45]) rfl ?_); (try (refine gate_guard (by rfl) ?_; dsimp only)); at_builtin; refine Kd.R_append_rows Kd.string (w0 := w) w.heap.size rfl (.tmp 44) (.tmp 45) 34 9 (.string ⟨#[]⟩) 16 rfl Tryd.underlying34 info9 rfl (by decide) (by omega) v470 y469 x6_2 _ _ _ (fun k_ => (w.heap.size ≤ k_) ∧ some k_ ≠ (.slice Ao40 x6_2.length co40 : Value).ownBlock) (fun _ => False) rfl rfl ?aO ?aR (fun _ _ h => h) (fun _ h => h.elim) ?aF ?aB ?aS ?aL ?_; (case aR => repeat (first | exact (Kd.R_reads' HO_6.out).2.2 | (with_reducible refine Kd.C_alloc ?_ _) | (with_reducible refine Kd.C_drewN ?_ _) | (with_reducible refine Kd.C_drew ?_))); (case aB => exact bl_); (case aF => exact (fun k_ hk => ⟨(Nat.le_trans (below_size bl_) hk), Kd.fresh' (Kd.R_lt (ra_ HO_6.out)) k_ hk⟩)); (case aO => exact (by (with_reducible repeat (first | apply Kd.R_alloc | apply Kd.R_drewN | apply Kd.R_drew)); exact Kd.R_mono HO471.out (fun _ hk => ⟨hk.1.1, hk.2⟩))); (case aS => exact (below_size bl_)); (case aL => have := LMc31.out; omega); intro v473 w39 ho hb hg hat; rw [← Ny472.out] at ho; have n0_ := Aside0.mk (Kd.V_afterv (ok := (fun k_ => (P0_ k_ ∨ w.heap.size ≤ k_) ∧ some k_ ≠ (.slice Ao40 x6_2.length co40 : Value).ownBlock)) (by (with_reducible repeat (first | apply Kd.V_alloc | apply Kd.V_drewN | apply Kd.V_drew)); exact HO_0.out) hg hat); have n1_ := Aside0.mk (Kd.R_after (ok := (fun k_ => (w.heap.size ≤ k_))) (ra_ HO_6.out) hg hat); have n2_ := Aside0.mk (Kd.V_afterv (ok := (fun k_ => (P0_ k_ ∨ w.heap.size ≤ k_) ∧ some k_ ≠ (.slice Ao40 x6_2.length co40 : Value).ownBlock)) (by (with_reducible repeat (first | apply Kd.V_alloc | apply Kd.V_drewN | apply Kd.V_drew)); exact HO467.out) hg hat); have n3_ := Aside0.mk (hb); have n4_ := Aside0.mk (ho); clear HO_0; clear HO_6; clear HO467; clear HB; clear HO471; have HO_0 := n0_; have HO_6 := n1_; have HO467 := n2_; have HB := n3_; have HO474 := n4_; clear n0_ n1_ n2_ n3_ n4_; clear ho hb hg hat; have q41 : (t445 : Int) ≤ ((x0_2.length : Int) : Int) := of_decide_eq_true as_; obtain ⟨i041, hi041, _, hsz41, _⟩ := info_parts info27; have hroom41 : x0_2.length ≤ co34 := (Kd.V_reads' HO_0.out).2.1; have hC41 : Kd.F k27 _ _ Ao34 x0_2.length x0_2 := (Kd.V_at (base := w.heap.size) HO_0.out).2.2; have q041 : (0 : Int) ≤ (t445 : Int) := of_decide_eq_true as_; have hcut41 := cut_from (P := Tryd.prog) 31 27 .i64 Tryd.underlying31 hi041 6 hsz41 Ao34 x0_2.length co34 t445 q041 q41; have hr41 := Kd.F_cut (m := (t445 : Int).toNat) (c := co34) hC41 (by omega) hroom41; obtain ⟨A41, hA41⟩ : ∃ A1, A1 = (if co34 = (t445 : Int).toNat then Ao34 else (Ao34 : Option Addr).map (·.add ((t445 : Int).toNat * 6))) := ⟨_, rfl⟩; obtain ⟨c41, hc41⟩ : ∃ c1, c1 = co34 - (t445 : Int).toNat := ⟨_, rfl⟩; have hy41 : y475.length = x0_2.length - (t445 : Int).toNat := (by rw [Ny475.out, List.length_drop] <;> omega); rw [show (x0_2).drop (t445 : Int).toNat = y475 from Ny475.out.symm] at hr41; replace hr41 : Kd.F k27 _ _ A41 y475.length y475 := (by rw [hA41]; exact hr41); rw [← hy41, ← hA41, ← hc41] at hcut41; have HO479 := Aside0.mk (show Kd.V k27 27 _ w.heap.size _ (.slice A41 y475.length c41) y475 from Kd.V_mk (by rw [hy41, hc41]; exact Nat.sub_le_sub_right hroom41 _) hr41); have HC479 := Aside0.mk (show y475.length ≤ c41 from by rw [hy41, hc41]; exact Nat.sub_le_sub_right hroom41 _); clear hr41 hC41 hroom41 hi041 hsz41 hc41; have KY41 := Aside0.mk hy41; have KA41 := Aside0.mk hA41; clear hy41 hA41; replace q41 := eq_true q41))
           go_roundg k2
           case measure => have := HJ2.out; have := HK2.out; omega
           case rel => exact ⟨(y475), (wrap64 (x1_2 - t445)), (y472), (by first | rfl | (simp; done) | (simp [*]; done)), H', ⟨by have := HJ2.out; have := HK2.out; omega⟩, ⟨by (with_reducible repeat (first | apply Kd.V_alloc | apply Kd.V_drewN | apply Kd.V_drew)); exact Kd.V_mono HO479.out (fun _ hk => ⟨hk.1.1, hk.2⟩)⟩, ⟨by (with_reducible repeat (first | apply Kd.R_alloc | apply Kd.R_drewN | apply Kd.R_drew)); exact Kd.R_mono HO474.out (fun _ hk => hk.1)⟩, ⟨bl_⟩⟩
          ·rw [if_neg c31] at H
           exact absurd H (by simp)
         ·rw [if_neg c29] at H
          exact absurd H (by simp)
        ·rw [if_neg c28] at H
         exact absurd H (by simp)
      ·rw [if_neg c11] at H
       have c11b0 : decide (1 < (x0_2.length : Int)) = false := decide_eq_false c11
       have c11b1 : decide (1 < x0_2.length) = false := decide_eq_false (by omega)
       clear c11
       simp only [Option.some.injEq, Prod.mk.injEq] at H
       obtain ⟨rfl, rfl⟩ := H
       obtain ⟨Ao42, co42, eo42⟩ := Kd.V_slice HO_0.out
       subst eo42
       go_wp2
       go_ret2
       exact ⟨_, by first | rfl | (simp [errW_none, errW_some] <;> rfl) | (simp [*, errW_none, errW_some] <;> rfl) | exact False.elim (Bool.noConfusion ((decide_eq_true (of_eq_true (by assumption))).symm.trans (by assumption))), ra_ HO_6.out, bl_⟩

end Go.Proofs.YtdlapahfmfhbjaaDoor.PA
