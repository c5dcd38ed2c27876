/- Contracts of functions of the program and of the reference, and plain lemmas on what they compute. No condition. -/
import Derived.Test.YtdlapahfmfhbjaaDoorG523dfx0
import Derived.Test.YtdlapahfmfhbjaaDoorG523dfx1
import Derived.Test.YtdlapahfmfhbjaaDoorG523dfx2
import Derived.Test.YtdlapahfmfhbjaaDoorShortV
set_option maxHeartbeats 8000000
set_option maxRecDepth 100000
namespace Go.Proofs.YtdlapahfmfhbjaaDoor.PA
open Go.RowKit Go.Proofs.YtdlapahfmfhbjaaDoor.Short Go.Proofs.YtdlapahfmfhbjaaDoorW.PrintWords Go.Proofs.YtdlapahfmfhbjaaDoorW.PrintLast Go.Proofs.YtdlapahfmfhbjaaDoorW.PrintMore
attribute [local go_sem] max2_int min2_int max_two min_two max_three min_three max_four min_four   -- for this text's walks alone
set_option linter.unusedVariables false
set_option linter.unusedSimpArgs false

def impl_HeadFrom.l0 : Nat → ByteArray → List (S27) → Int → Int → Option (ByteArray)
 | 0, _, _, _, _ => none
 | k + 1, x0, x7, x8, x9 => if x9 < x8 then (if 0 ≤ x9 then (if x9 < (x7.length : Int) then ((impl_EntryText.f k ((rd_T27 x7 x9).f0) ((rd_T27 x7 x9).f1) ((rd_T27 x7 x9).f2.f0) ((rd_T27 x7 x9).f2.f1) ((rd_T27 x7 x9).f2.f2) ((rd_T27 x7 x9).f2.f3)).bind fun t835 => (if x0.size + t835.size ≤ 9223372036854775807 then ((impl_Digest.f k (x0 ++ t835)).bind fun t836 => (impl_HeadFrom.l0 k t836 x7 x8 (wrap64 (x9 + 1)))) else (none))) else (none)) else (none)) else (some x0)
def impl_HeadFrom.f (k : Nat) (a0 : ByteArray) (l1 : List (S27)) : Option (ByteArray) := impl_HeadFrom.l0 k a0 l1 (l1.length : Int) 0
theorem impl_HeadFrom.mono_l : ∀ k, (∀ y0 y1 y2 y3, LeO (impl_HeadFrom.l0 k y0 y1 y2 y3) (impl_HeadFrom.l0 (k + 1) y0 y1 y2 y3))
 | 0 => fun _ _ _ _ r h => by simp [impl_HeadFrom.l0] at h
 | k + 1 => by
  have ih0 := impl_HeadFrom.mono_l k
  ·intro y0 y1 y2 y3
   unfold impl_HeadFrom.l0
   have m0 := @impl_Digest.mono
   have m1 := @impl_EntryText.mono
   exact mo_
theorem impl_HeadFrom.mono : ∀ a0 a1 k, LeO (impl_HeadFrom.f k a0 a1) (impl_HeadFrom.f (k + 1) a0 a1) := by
 intro a0 a1 k
 have ih0 := impl_HeadFrom.mono_l k
 unfold impl_HeadFrom.f
 have m0 := @impl_Digest.mono
 have m1 := @impl_EntryText.mono
 exact mo_
theorem impl_HeadFrom.calls (k : Nat) (a0 : ByteArray) (A1 : Option Addr) (c1 : Nat) (l1 : List (S27)) (r : ByteArray) (w : World) (hr1 : Kd.C k27 w A1 l1.length l1) (hc1 : l1.length ≤ c1) (hT : Tab w) (h : impl_HeadFrom.f k a0 l1 = some r) :
 Calls Tryd.prog 51 #[.string a0, .slice A1 l1.length c1] w fun e w' => e = .returned (.string r) ∧ Below w.heap.size w w' := by
 have hu27 := Tryd.underlying27
 have HR1 := Aside0.mk hr1
 have HC1 := Aside0.mk hc1
 clear hr1 hc1
 have HT := Aside0.mk hT
 clear hT
 have HB := Aside0.mk (Below.refl w.heap.size w)
 have H := h
 unfold impl_HeadFrom.f at H
 clear h
 have H' := Aside0.mk H
 clear H
 go_enter Tryd.func51, Tryd.ntmps51
 go_wp2
 go_loopg [0, 9] k (fun kq v0 v9 w' => ∃ (x0_1 : ByteArray) (x9_1 : Int), v0 = .string x0_1 ∧ v9 = .int .i64 x9_1 ∧ Aside0 (impl_HeadFrom.l0 kq x0_1 l1 (l1.length : Int) x9_1 = some r) ∧ Aside0 (kq ≤ k) ∧ Aside0 (Below w.heap.size w w'))
 case atStart => exact ⟨(a0), (0), (sr_), (sr_), H', ⟨Nat.le_refl _⟩, ⟨bl_⟩⟩
 clear H'
 try clear c1
 obtain ⟨x0_1, x9_1, rfl, rfl, HA, HK1, HB⟩ := hrel
 cases gk with
 | zero => exact absurd HA.out (by simp [impl_HeadFrom.l0])
 | succ k1 => ?_
 have H := HA.out
 clear HA
 simp only [impl_HeadFrom.l0] at H
 by_cases c3 : x9_1 < (l1.length : Int)
 rotate_left
 ·rw [if_neg c3] at H
  have c3b0 := decide_eq_false c3
  clear c3
  obtain rfl := Option.some.inj H
  go_wp2
  go_ret
  exact ⟨er_, bl_⟩
 rw [if_pos c3] at H
 have c3b0 := decide_eq_true c3
 clear c3
 by_cases c4 : 0 ≤ x9_1
 rotate_left
 ·exact nn_ c4 H
 rw [if_pos c4] at H
 have c4b0 := decide_eq_true c4
 clear c4
 by_cases c5 : x9_1 < (l1.length : Int)
 rotate_left
 ·exact nn_ c5 H
 rw [if_pos c5] at H
 have c5b0 := decide_eq_true c5
 clear c5
 replace H := bs_ H
 obtain ⟨t835, A6, H⟩ := H
 try dsimp only at H
 by_cases c7 : x0_1.size + t835.size ≤ 9223372036854775807
 rotate_left
 ·exact nn_ c7 H
 rw [if_pos c7] at H
 have c7b0 := eq_true c7
 have c7b1 : decide (x0_1.size + t835.size ≤ 9223372036854775807) = true := decide_eq_true c7
 try have c7b2 : (9223372036854775807 < x0_1.size + t835.size) = False := eq_false (Nat.not_lt.2 c7)
 replace H := bs_ H
 obtain ⟨t836, A8, H⟩ := H
 try dsimp only at H
 have H' := Aside0.mk H
 clear H
 have p833 : 0 ≤ (x9_1 : Int) := of_decide_eq_true as_
 have q833 : x9_1 < (l1.length : Int) := of_decide_eq_true as_
 obtain ⟨ad833, e833, hx833_0, hx833_1, hx833_2, hx833_3, hx833_4, hx833_5⟩ := at_T27 HR1.out x9_1 p833 q833
 cases e833
 replace hx833_0 := (HB.out.cell (World.block_lt_of_cell? w _ hx833_0)).trans hx833_0
 replace hx833_1 := (HB.out.cell (World.block_lt_of_cell? w _ hx833_1)).trans hx833_1
 replace hx833_2 := (HB.out.cell (World.block_lt_of_cell? w _ hx833_2)).trans hx833_2
 replace hx833_3 := (HB.out.cell (World.block_lt_of_cell? w _ hx833_3)).trans hx833_3
 replace hx833_4 := (HB.out.cell (World.block_lt_of_cell? w _ hx833_4)).trans hx833_4
 replace hx833_5 := (HB.out.cell (World.block_lt_of_cell? w _ hx833_5)).trans hx833_5
 replace p833 := eq_true p833
 replace q833 := eq_true q833
 go_wp2_with (first | ((with_reducible refine gate_dst (N := 6) rfl ?_); refine bx_ 6 27 #[.int .i64 0, .int .i64 0, .int .i64 0, .int .i64 0, .int .i64 0, .int .i64 0] ?_; intro gb834 hg w9 hbox hb; have BK834 := Aside0.mk (hbox); have GW834 := Aside0.mk ((hz_ : w.heap.size ≤ gb834)); have GE834 := Aside0.mk ((hz_ : w.heap.size ≤ gb834)); replace HB := Aside0.mk (below_step bl_ hb); clear hb hbox hg; obtain ⟨hcz10_0, hcz10_1, hcz10_2, hcz10_3, hcz10_4, hcz10_5, hfz10_0, hfz10_1, hfz10_2, hfz10_3, hfz10_4, hfz10_5⟩ := cf6_ BK834.out) | ((with_reducible refine gate_callee (f := 31) rfl ?_); refine gs_ (some 15) Tryd.func31 #[.agg #[.int .i64 ((rd_T27 l1 x9_1).f0), .int .i64 ((rd_T27 l1 x9_1).f1), .int .i64 ((rd_T27 l1 x9_1).f2.f0), .int .i64 ((rd_T27 l1 x9_1).f2.f1), .int .i64 ((rd_T27 l1 x9_1).f2.f2), .int .i64 ((rd_T27 l1 x9_1).f2.f3)]] ?_; (with_reducible refine (impl_EntryText.calls k1 ((rd_T27 l1 x9_1).f0) ((rd_T27 l1 x9_1).f1) ((rd_T27 l1 x9_1).f2.f0) ((rd_T27 l1 x9_1).f2.f1) ((rd_T27 l1 x9_1).f2.f2) ((rd_T27 l1 x9_1).f2.f3) t835 _ A6.out).mono ?_); rintro e w11 ⟨rfl, hb⟩; refine ⟨_, rfl, ?_⟩; replace BK834 := Aside0.mk (blk_below (g := gb834) (o := .cells #[.int .i64 ((rd_T27 l1 x9_1).f0), .int .i64 ((rd_T27 l1 x9_1).f1), .int .i64 ((rd_T27 l1 x9_1).f2.f0), .int .i64 ((rd_T27 l1 x9_1).f2.f1), .int .i64 ((rd_T27 l1 x9_1).f2.f2), .int .i64 ((rd_T27 l1 x9_1).f2.f3)] 27 (0, 0)) (bp0_ BK834.out) hb); replace HB := Aside0.mk (below_step bl_ hb); (try clear hb)) | ((with_reducible refine gate_callee (f := 66) rfl ?_); refine gs_ (some 17) Tryd.func66 #[.string (x0_1 ++ t835)] ?_; (with_reducible refine (impl_Digest.calls k1 (x0_1 ++ t835) t836 _ ?side1 A8.out).mono ?_); (case side1 => exact tab_of HT.out bl_); rintro e w12 ⟨rfl, hb⟩; refine ⟨_, rfl, ?_⟩; replace BK834 := Aside0.mk (blk_below (bn0_ BK834.out) hb); replace HB := Aside0.mk (below_step bl_ hb); (try clear hb)))
 go_roundg k1
 case measure => have := HK1.out; omega
 case rel => exact ⟨(t836), (wrap64 (x9_1 + 1)), (sr_), (sr_), H', ⟨by have := HK1.out; omega⟩, ⟨bl_⟩⟩

end Go.Proofs.YtdlapahfmfhbjaaDoor.PA

namespace Go.Proofs.YtdlapahfmfhbjaaDoor.PA
open Go.RowKit Go.Proofs.YtdlapahfmfhbjaaDoorW.PrintWords Go.Proofs.YtdlapahfmfhbjaaDoorW.PrintLast Go.Proofs.YtdlapahfmfhbjaaDoorW.PrintMore
attribute [local go_sem] max2_int min2_int max_two min_two max_three min_three max_four min_four   -- for this text's walks alone
set_option linter.unusedVariables false
set_option linter.unusedSimpArgs false

theorem eqA27 (d : Nat) (w : World) (x0 y0 : Int) (x1 y1 : Int) (x2 y2 : Int) (x3 y3 : Int) (x4 y4 : Int) (x5 y5 : Int) :
 (Op.equalIn (d + 3) 27 (.agg #[.int .i64 x0, .int .i64 x1, .int .i64 x2, .int .i64 x3, .int .i64 x4, .int .i64 x5]) (.agg #[.int .i64 y0, .int .i64 y1, .int .i64 y2, .int .i64 y3, .int .i64 y4, .int .i64 y5])).run Tryd.prog w = .ok (x0 == y0 && (x1 == y1 && ((x2 == y2 && (x3 == y3 && (x4 == y4 && (x5 == y5))))))) w := by
 refine eqA_of Tryd.underlying27 (by kernel_rfl) ?_
 refine eqf_cons (by rfl) (by go_simp; rfl) (by go_simp; rfl) (by go_simp) ?_
 refine eqf_cons (by rfl) (by go_simp; rfl) (by go_simp; rfl) (by go_simp) ?_
 exact eqf_last (by rfl) (by go_simp) (by go_simp) (eqA25 (d + 0) w _ _ _ _ _ _ _ _)
end Go.Proofs.YtdlapahfmfhbjaaDoor.PA

namespace Go.Proofs.YtdlapahfmfhbjaaDoor.PA
open Go.RowKit Go.Proofs.YtdlapahfmfhbjaaDoor.Short Go.Proofs.YtdlapahfmfhbjaaDoorW.PrintWords Go.Proofs.YtdlapahfmfhbjaaDoorW.PrintLast Go.Proofs.YtdlapahfmfhbjaaDoorW.PrintMore
attribute [local go_sem] max2_int min2_int max_two min_two max_three min_three max_four min_four   -- for this text's walks alone
set_option linter.unusedVariables false
set_option linter.unusedSimpArgs false

attribute [local go_sem high] eqA27
def laws_sameEntries.l0 : Nat → List (S27) → List (S27) → Int → Option (Bool)
 | 0, _, _, _ => none
 | k + 1, x0, x1, x5 => if x5 < (x0.length : Int) then (if 0 ≤ x5 then (if x5 < (x1.length : Int) then (if (!(((rd_T27 x0 x5).f0) == ((rd_T27 x1 x5).f0)) || (!(((rd_T27 x0 x5).f1) == ((rd_T27 x1 x5).f1)) || ((!(((rd_T27 x0 x5).f2.f0) == ((rd_T27 x1 x5).f2.f0)) || (!(((rd_T27 x0 x5).f2.f1) == ((rd_T27 x1 x5).f2.f1)) || (!(((rd_T27 x0 x5).f2.f2) == ((rd_T27 x1 x5).f2.f2)) || (!(((rd_T27 x0 x5).f2.f3) == ((rd_T27 x1 x5).f2.f3))))))))) = true then (some false) else (laws_sameEntries.l0 k x0 x1 (wrap64 (x5 + 1)))) else (none)) else (none)) else (some true)
def laws_sameEntries.f (k : Nat) (l0 : List (S27)) (l1 : List (S27)) : Option (Bool) := if (l0.length : Int) = (l1.length : Int) then (laws_sameEntries.l0 k l0 l1 0) else (some false)
theorem laws_sameEntries.mono_l : ∀ k, (∀ y0 y1 y2, LeO (laws_sameEntries.l0 k y0 y1 y2) (laws_sameEntries.l0 (k + 1) y0 y1 y2))
 | 0 => fun _ _ _ r h => by simp [laws_sameEntries.l0] at h
 | k + 1 => by
  have ih0 := laws_sameEntries.mono_l k
  ·intro y0 y1 y2
   unfold laws_sameEntries.l0
   exact mo_
theorem laws_sameEntries.mono : ∀ a0 a1 k, LeO (laws_sameEntries.f k a0 a1) (laws_sameEntries.f (k + 1) a0 a1) := by
 intro a0 a1 k
 have ih0 := laws_sameEntries.mono_l k
 unfold laws_sameEntries.f
 exact mo_
theorem laws_sameEntries.calls (k : Nat) (A0 : Option Addr) (c0 : Nat) (l0 : List (S27)) (A1 : Option Addr) (c1 : Nat) (l1 : List (S27)) (r : Bool) (w : World) (hr0 : Kd.C k27 w A0 l0.length l0) (hc0 : l0.length ≤ c0) (hr1 : Kd.C k27 w A1 l1.length l1) (hc1 : l1.length ≤ c1) (h : laws_sameEntries.f k l0 l1 = some r) :
 Calls Tryd.prog 35 #[.slice A0 l0.length c0, .slice A1 l1.length c1] w fun e w' => e = .returned (.bool r) ∧ Drawn0 w w' := by
 have hu27 := Tryd.underlying27
 have HR0 := Aside0.mk hr0
 have HC0 := Aside0.mk hc0
 clear hr0 hc0
 have HR1 := Aside0.mk hr1
 have HC1 := Aside0.mk hc1
 clear hr1 hc1
 have H := h
 unfold laws_sameEntries.f at H
 clear h
 by_cases c3 : (l0.length : Int) = (l1.length : Int)
 rotate_left
 ·rw [if_neg c3] at H
  have c3b0 : ((l0.length : Int) == (l1.length : Int)) = false := beq_eq_false_iff_ne.mpr c3
  have c3b1 : ((l0.length : Int) != (l1.length : Int)) = true := bne_iff_ne.mpr c3
  have c3b2 : (l0.length == l1.length) = false := by first | simpa using c3 | (simp at c3 ⊢; omega)
  obtain rfl := Option.some.inj H
  go_enter Tryd.func35, Tryd.ntmps35
  go_wp2
  repeat (go_quiet (fail); try go_wp2)
  go_ret
  exact ⟨sr_, by repeat (first | exact Drawn0.refl _ | apply Drawn0.step)⟩
 rw [if_pos c3] at H
 have c3b0 : ((l0.length : Int) == (l1.length : Int)) = true := beq_iff_eq.mpr c3
 have c3b1 : ((l0.length : Int) != (l1.length : Int)) = false := bne_eq_false_iff_eq.mpr c3
 have c3b2 : (l0.length == l1.length) = true := by first | simpa using c3 | (simp at c3 ⊢; omega)
 clear c3
 have H' := Aside0.mk H
 clear H
 go_enter Tryd.func35, Tryd.ntmps35
 go_wp2
 repeat (go_quiet (fail); try go_wp2)
 go_loopg [5] k (fun kq v5 w' => ∃ (x5_1 : Int), v5 = .int .i64 x5_1 ∧ Aside0 (laws_sameEntries.l0 kq l0 l1 x5_1 = some r) ∧ Aside0 (kq ≤ k) ∧ Drawn0 w w')
 case atStart => exact ⟨(0), (sr_), H', ⟨Nat.le_refl _⟩, by repeat (first | exact Drawn0.refl _ | apply Drawn0.step)⟩
 clear H'
 try clear c1
 try clear c3
 try clear c3b0
 try clear c3b1
 try clear c3b2
 obtain ⟨x5_1, rfl, HA, HK1, ⟨m1, rfl⟩⟩ := hrel
 cases gk with
 | zero => exact absurd HA.out (by simp [laws_sameEntries.l0])
 | succ k1 => ?_
 have H := HA.out
 clear HA
 simp only [laws_sameEntries.l0] at H
 by_cases c4 : x5_1 < (l0.length : Int)
 rotate_left
 ·rw [if_neg c4] at H
  have c4b0 := decide_eq_false c4
  clear c4
  obtain rfl := Option.some.inj H
  go_wp2
  repeat (go_quiet (fail); try go_wp2)
  go_ret
  exact ⟨sr_, by repeat (first | exact Drawn0.refl _ | apply Drawn0.step)⟩
 rw [if_pos c4] at H
 have c4b0 := decide_eq_true c4
 clear c4
 by_cases c5 : 0 ≤ x5_1
 rotate_left
 ·exact nn_ c5 H
 rw [if_pos c5] at H
 have c5b0 := decide_eq_true c5
 clear c5
 by_cases c6 : x5_1 < (l1.length : Int)
 rotate_left
 ·exact nn_ c6 H
 rw [if_pos c6] at H
 have c6b0 := decide_eq_true c6
 clear c6
 by_cases c7 : (!(((rd_T27 l0 x5_1).f0) == ((rd_T27 l1 x5_1).f0)) || (!(((rd_T27 l0 x5_1).f1) == ((rd_T27 l1 x5_1).f1)) || ((!(((rd_T27 l0 x5_1).f2.f0) == ((rd_T27 l1 x5_1).f2.f0)) || (!(((rd_T27 l0 x5_1).f2.f1) == ((rd_T27 l1 x5_1).f2.f1)) || (!(((rd_T27 l0 x5_1).f2.f2) == ((rd_T27 l1 x5_1).f2.f2)) || (!(((rd_T27 l0 x5_1).f2.f3) == ((rd_T27 l1 x5_1).f2.f3))))))))) = true
 ·rw [if_pos c7] at H
  have c7b0 : (!(((rd_T27 l0 x5_1).f0) == ((rd_T27 l1 x5_1).f0)) || (!(((rd_T27 l0 x5_1).f1) == ((rd_T27 l1 x5_1).f1)) || ((!(((rd_T27 l0 x5_1).f2.f0) == ((rd_T27 l1 x5_1).f2.f0)) || (!(((rd_T27 l0 x5_1).f2.f1) == ((rd_T27 l1 x5_1).f2.f1)) || (!(((rd_T27 l0 x5_1).f2.f2) == ((rd_T27 l1 x5_1).f2.f2)) || (!(((rd_T27 l0 x5_1).f2.f3) == ((rd_T27 l1 x5_1).f2.f3))))))))) = true := c7
  clear c7
  obtain rfl := Option.some.inj H
  have p839 : 0 ≤ (x5_1 : Int) := of_decide_eq_true as_
  have q839 : x5_1 < (l0.length : Int) := of_decide_eq_true as_
  obtain ⟨ad839, e839, hx839_0, hx839_1, hx839_2, hx839_3, hx839_4, hx839_5⟩ := at_T27 HR0.out x5_1 p839 q839
  cases e839
  replace p839 := eq_true p839
  replace q839 := eq_true q839
  have p840 : 0 ≤ (x5_1 : Int) := of_decide_eq_true as_
  have q840 : x5_1 < (l1.length : Int) := of_decide_eq_true as_
  obtain ⟨ad840, e840, hx840_0, hx840_1, hx840_2, hx840_3, hx840_4, hx840_5⟩ := at_T27 HR1.out x5_1 p840 q840
  cases e840
  replace p840 := eq_true p840
  replace q840 := eq_true q840
  go_wp2
  repeat (go_quiet (fail); try go_wp2)
  go_ret
  exact ⟨sr_, by repeat (first | exact Drawn0.refl _ | apply Drawn0.step)⟩
 rw [if_neg c7] at H
 have c7b0 : (!(((rd_T27 l0 x5_1).f0) == ((rd_T27 l1 x5_1).f0)) || (!(((rd_T27 l0 x5_1).f1) == ((rd_T27 l1 x5_1).f1)) || ((!(((rd_T27 l0 x5_1).f2.f0) == ((rd_T27 l1 x5_1).f2.f0)) || (!(((rd_T27 l0 x5_1).f2.f1) == ((rd_T27 l1 x5_1).f2.f1)) || (!(((rd_T27 l0 x5_1).f2.f2) == ((rd_T27 l1 x5_1).f2.f2)) || (!(((rd_T27 l0 x5_1).f2.f3) == ((rd_T27 l1 x5_1).f2.f3))))))))) = false := by simpa using c7
 clear c7
 have H' := Aside0.mk H
 clear H
 have p839 : 0 ≤ (x5_1 : Int) := of_decide_eq_true as_
 have q839 : x5_1 < (l0.length : Int) := of_decide_eq_true as_
 obtain ⟨ad839, e839, hx839_0, hx839_1, hx839_2, hx839_3, hx839_4, hx839_5⟩ := at_T27 HR0.out x5_1 p839 q839
 cases e839
 replace p839 := eq_true p839
 replace q839 := eq_true q839
 have p840 : 0 ≤ (x5_1 : Int) := of_decide_eq_true as_
 have q840 : x5_1 < (l1.length : Int) := of_decide_eq_true as_
 obtain ⟨ad840, e840, hx840_0, hx840_1, hx840_2, hx840_3, hx840_4, hx840_5⟩ := at_T27 HR1.out x5_1 p840 q840
 cases e840
 replace p840 := eq_true p840
 replace q840 := eq_true q840
 go_wp2
 repeat (go_quiet (fail); try go_wp2)
 go_roundg k1
 case measure => have := HK1.out; omega
 case rel => exact ⟨(wrap64 (x5_1 + 1)), (sr_), H', ⟨by have := HK1.out; omega⟩, by repeat (first | exact Drawn0.refl _ | apply Drawn0.step)⟩


def impl_ShortText.f (k : Nat) (a0 : ByteArray) : Option (ByteArray × Bool) := if (a0.size : Int) > 20000 then (some ((⟨#[]⟩ : ByteArray), false)) else ((impl_VarText.f k (a0.size : Int)).bind fun bt661 => (if bt661.1.size + a0.size ≤ 9223372036854775807 then (some (bt661.1 ++ a0, true)) else (none)))
theorem impl_ShortText.mono : ∀ a0 k, LeO (impl_ShortText.f k a0) (impl_ShortText.f (k + 1) a0) := by
 intro a0 k
 unfold impl_ShortText.f
 have m0 := @impl_VarText.mono
 exact mo_
theorem impl_ShortText.calls (k : Nat) (a0 : ByteArray) (r1 : ByteArray) (r2 : Bool) (w : World) (h : impl_ShortText.f k a0 = some (r1, r2)) :
 Calls Tryd.prog 72 #[.string a0] w fun e w' => e = .returned (.tuple #[.string r1, .bool r2]) ∧ Below w.heap.size w w' := by
 have HB := Aside0.mk (Below.refl w.heap.size w)
 have H := h
 unfold impl_ShortText.f at H
 clear h
 by_cases c2 : (a0.size : Int) > 20000
 ·rw [if_pos c2] at H
  have c2b0 := decide_eq_true c2
  have c2b1 : decide (20000 < a0.size) = true := decide_eq_true (by omega)
  clear c2
  simp only [Option.some.injEq, Prod.mk.injEq] at H
  obtain ⟨rfl, rfl⟩ := H
  go_enter Tryd.func72, Tryd.ntmps72
  go_wp2
  go_ret2
  exact ⟨er_, bl_⟩
 rw [if_neg c2] at H
 have c2b0 := decide_eq_false c2
 have c2b1 : decide (20000 < a0.size) = false := decide_eq_false (by omega)
 clear c2
 replace H := bs_ H
 obtain ⟨⟨t661, t662⟩, A3, H⟩ := H
 try dsimp only at H
 by_cases c4 : t661.size + a0.size ≤ 9223372036854775807
 rotate_left
 ·exact nn_ c4 H
 rw [if_pos c4] at H
 have c4b0 := eq_true c4
 have c4b1 : decide (t661.size + a0.size ≤ 9223372036854775807) = true := decide_eq_true c4
 try have c4b2 : (9223372036854775807 < t661.size + a0.size) = False := eq_false (Nat.not_lt.2 c4)
 simp only [Option.some.injEq, Prod.mk.injEq] at H
 obtain ⟨rfl, rfl⟩ := H
 go_enter Tryd.func72, Tryd.ntmps72
 go_wp2_with (first | ((with_reducible refine gate_callee (f := 84) rfl ?_); refine gs_ (some 12) Tryd.func84 #[.int .i64 (a0.size : Int)] ?_; (with_reducible refine (impl_VarText.calls k (a0.size : Int) t661 t662 _ A3.out).mono ?_); rintro e w5 ⟨rfl, hb⟩; refine ⟨_, rfl, ?_⟩; replace HB := Aside0.mk (below_step bl_ hb); (try clear hb)))
 go_ret2
 exact ⟨er_, bl_⟩


def impl_LogText.l0 : Nat → ByteArray → List (S27) → Int → Int → Option (ByteArray × Bool)
 | 0, _, _, _, _ => none
 | k + 1, x4, x13, x14, x15 => if x15 < x14 then (if 0 ≤ x15 then (if x15 < (x13.length : Int) then ((impl_EntryText.f k ((rd_T27 x13 x15).f0) ((rd_T27 x13 x15).f1) ((rd_T27 x13 x15).f2.f0) ((rd_T27 x13 x15).f2.f1) ((rd_T27 x13 x15).f2.f2) ((rd_T27 x13 x15).f2.f3)).bind fun t665 => (if t665.toList = ([] : List UInt8) then (some ((⟨#[]⟩ : ByteArray), false)) else ((impl_ShortText.f k t665).bind fun bt666 => (if x4.size + bt666.1.size ≤ 9223372036854775807 then (impl_LogText.l0 k (x4 ++ bt666.1) x13 x14 (wrap64 (x15 + 1))) else (none))))) else (none)) else (none)) else (some (x4, true))
def impl_LogText.f (k : Nat) (l0 : List (S27)) : Option (ByteArray × Bool) := if (l0.length : Int) > 200 then (some ((⟨#[]⟩ : ByteArray), false)) else (impl_LogText.l0 k (⟨#[]⟩ : ByteArray) l0 (l0.length : Int) 0)
theorem impl_LogText.mono_l : ∀ k, (∀ y0 y1 y2 y3, LeO (impl_LogText.l0 k y0 y1 y2 y3) (impl_LogText.l0 (k + 1) y0 y1 y2 y3))
 | 0 => fun _ _ _ _ r h => by simp [impl_LogText.l0] at h
 | k + 1 => by
  have ih0 := impl_LogText.mono_l k
  ·intro y0 y1 y2 y3
   unfold impl_LogText.l0
   have m0 := @impl_EntryText.mono
   have m1 := @impl_ShortText.mono
   exact mo_
theorem impl_LogText.mono : ∀ a0 k, LeO (impl_LogText.f k a0) (impl_LogText.f (k + 1) a0) := by
 intro a0 k
 have ih0 := impl_LogText.mono_l k
 unfold impl_LogText.f
 have m0 := @impl_EntryText.mono
 have m1 := @impl_ShortText.mono
 exact mo_
theorem impl_LogText.calls (k : Nat) (A0 : Option Addr) (c0 : Nat) (l0 : List (S27)) (r1 : ByteArray) (r2 : Bool) (w : World) (hr0 : Kd.C k27 w A0 l0.length l0) (hc0 : l0.length ≤ c0) (h : impl_LogText.f k l0 = some (r1, r2)) :
 Calls Tryd.prog 25 #[.slice A0 l0.length c0] w fun e w' => e = .returned (.tuple #[.string r1, .bool r2]) ∧ Below w.heap.size w w' := by
 have hu27 := Tryd.underlying27
 have HR0 := Aside0.mk hr0
 have HC0 := Aside0.mk hc0
 clear hr0 hc0
 have HB := Aside0.mk (Below.refl w.heap.size w)
 have H := h
 unfold impl_LogText.f at H
 clear h
 by_cases c2 : (l0.length : Int) > 200
 ·rw [if_pos c2] at H
  have c2b0 := decide_eq_true c2
  have c2b1 : decide (200 < l0.length) = true := decide_eq_true (by omega)
  clear c2
  simp only [Option.some.injEq, Prod.mk.injEq] at H
  obtain ⟨rfl, rfl⟩ := H
  go_enter Tryd.func25, Tryd.ntmps25
  go_wp2
  go_ret2
  exact ⟨er_, bl_⟩
 rw [if_neg c2] at H
 have c2b0 := decide_eq_false c2
 have c2b1 : decide (200 < l0.length) = false := decide_eq_false (by omega)
 clear c2
 have H' := Aside0.mk H
 clear H
 go_enter Tryd.func25, Tryd.ntmps25
 go_wp2
 go_loopg [4, 15] k (fun kq v4 v15 w' => ∃ (x4_1 : ByteArray) (x15_1 : Int), v4 = .string x4_1 ∧ v15 = .int .i64 x15_1 ∧ Aside0 (impl_LogText.l0 kq x4_1 l0 (l0.length : Int) x15_1 = some (r1, r2)) ∧ Aside0 (kq ≤ k) ∧ Aside0 (Below w.heap.size w w'))
 case atStart => exact ⟨((⟨#[]⟩ : ByteArray)), (0), (sr_), (sr_), H', ⟨Nat.le_refl _⟩, ⟨bl_⟩⟩
 clear H'
 try clear c2
 try clear c2b0
 try clear c2b1
 obtain ⟨x4_1, x15_1, rfl, rfl, HA, HK1, HB⟩ := hrel
 cases gk with
 | zero => exact absurd HA.out (by simp [impl_LogText.l0])
 | succ k1 => ?_
 have H := HA.out
 clear HA
 simp only [impl_LogText.l0] at H
 by_cases c3 : x15_1 < (l0.length : Int)
 rotate_left
 ·rw [if_neg c3] at H
  have c3b0 := decide_eq_false c3
  clear c3
  simp only [Option.some.injEq, Prod.mk.injEq] at H
  obtain ⟨rfl, rfl⟩ := H
  go_wp2
  go_ret2
  exact ⟨er_, bl_⟩
 rw [if_pos c3] at H
 have c3b0 := decide_eq_true c3
 clear c3
 by_cases c4 : 0 ≤ x15_1
 rotate_left
 ·exact nn_ c4 H
 rw [if_pos c4] at H
 have c4b0 := decide_eq_true c4
 clear c4
 by_cases c5 : x15_1 < (l0.length : Int)
 rotate_left
 ·exact nn_ c5 H
 rw [if_pos c5] at H
 have c5b0 := decide_eq_true c5
 clear c5
 replace H := bs_ H
 obtain ⟨t665, A6, H⟩ := H
 try dsimp only at H
 by_cases c7 : t665.toList = ([] : List UInt8)
 ·rw [if_pos c7] at H
  have c7b0 : (t665.toList == ([] : List UInt8)) = true := beq_iff_eq.mpr c7
  have c7b1 : (t665.toList != ([] : List UInt8)) = false := bne_eq_false_iff_eq.mpr c7
  clear c7
  simp only [Option.some.injEq, Prod.mk.injEq] at H
  obtain ⟨rfl, rfl⟩ := H
  have p663 : 0 ≤ (x15_1 : Int) := of_decide_eq_true as_
  have q663 : x15_1 < (l0.length : Int) := of_decide_eq_true as_
  obtain ⟨ad663, e663, hx663_0, hx663_1, hx663_2, hx663_3, hx663_4, hx663_5⟩ := at_T27 HR0.out x15_1 p663 q663
  cases e663
  replace hx663_0 := (HB.out.cell (World.block_lt_of_cell? w _ hx663_0)).trans hx663_0
  replace hx663_1 := (HB.out.cell (World.block_lt_of_cell? w _ hx663_1)).trans hx663_1
  replace hx663_2 := (HB.out.cell (World.block_lt_of_cell? w _ hx663_2)).trans hx663_2
  replace hx663_3 := (HB.out.cell (World.block_lt_of_cell? w _ hx663_3)).trans hx663_3
  replace hx663_4 := (HB.out.cell (World.block_lt_of_cell? w _ hx663_4)).trans hx663_4
  replace hx663_5 := (HB.out.cell (World.block_lt_of_cell? w _ hx663_5)).trans hx663_5
  replace p663 := eq_true p663
  replace q663 := eq_true q663
  go_wp2_with (first | ((with_reducible refine gate_dst (N := 6) rfl ?_); refine bx_ 6 27 #[.int .i64 0, .int .i64 0, .int .i64 0, .int .i64 0, .int .i64 0, .int .i64 0] ?_; intro gb664 hg w8 hbox hb; have BK664 := Aside0.mk (hbox); have GW664 := Aside0.mk ((hz_ : w.heap.size ≤ gb664)); have GE664 := Aside0.mk ((hz_ : w.heap.size ≤ gb664)); replace HB := Aside0.mk (below_step bl_ hb); clear hb hbox hg; obtain ⟨hcz9_0, hcz9_1, hcz9_2, hcz9_3, hcz9_4, hcz9_5, hfz9_0, hfz9_1, hfz9_2, hfz9_3, hfz9_4, hfz9_5⟩ := cf6_ BK664.out) | ((with_reducible refine gate_callee (f := 31) rfl ?_); refine gs_ (some 20) Tryd.func31 #[.agg #[.int .i64 ((rd_T27 l0 x15_1).f0), .int .i64 ((rd_T27 l0 x15_1).f1), .int .i64 ((rd_T27 l0 x15_1).f2.f0), .int .i64 ((rd_T27 l0 x15_1).f2.f1), .int .i64 ((rd_T27 l0 x15_1).f2.f2), .int .i64 ((rd_T27 l0 x15_1).f2.f3)]] ?_; (with_reducible refine (impl_EntryText.calls k1 ((rd_T27 l0 x15_1).f0) ((rd_T27 l0 x15_1).f1) ((rd_T27 l0 x15_1).f2.f0) ((rd_T27 l0 x15_1).f2.f1) ((rd_T27 l0 x15_1).f2.f2) ((rd_T27 l0 x15_1).f2.f3) t665 _ A6.out).mono ?_); rintro e w10 ⟨rfl, hb⟩; refine ⟨_, rfl, ?_⟩; replace BK664 := Aside0.mk (blk_below (g := gb664) (o := .cells #[.int .i64 ((rd_T27 l0 x15_1).f0), .int .i64 ((rd_T27 l0 x15_1).f1), .int .i64 ((rd_T27 l0 x15_1).f2.f0), .int .i64 ((rd_T27 l0 x15_1).f2.f1), .int .i64 ((rd_T27 l0 x15_1).f2.f2), .int .i64 ((rd_T27 l0 x15_1).f2.f3)] 27 (0, 0)) (bp0_ BK664.out) hb); replace HB := Aside0.mk (below_step bl_ hb); (try clear hb)))
  go_ret2
  exact ⟨er_, bl_⟩
 rw [if_neg c7] at H
 have c7b0 : (t665.toList == ([] : List UInt8)) = false := beq_eq_false_iff_ne.mpr c7
 have c7b1 : (t665.toList != ([] : List UInt8)) = true := bne_iff_ne.mpr c7
 replace H := bs_ H
 obtain ⟨⟨t666, t667⟩, A11, H⟩ := H
 try dsimp only at H
 by_cases c12 : x4_1.size + t666.size ≤ 9223372036854775807
 rotate_left
 ·exact nn_ c12 H
 rw [if_pos c12] at H
 have c12b0 := eq_true c12
 have c12b1 : decide (x4_1.size + t666.size ≤ 9223372036854775807) = true := decide_eq_true c12
 try have c12b2 : (9223372036854775807 < x4_1.size + t666.size) = False := eq_false (Nat.not_lt.2 c12)
 have H' := Aside0.mk H
 clear H
 have p663 : 0 ≤ (x15_1 : Int) := of_decide_eq_true as_
 have q663 : x15_1 < (l0.length : Int) := of_decide_eq_true as_
 obtain ⟨ad663, e663, hx663_0, hx663_1, hx663_2, hx663_3, hx663_4, hx663_5⟩ := at_T27 HR0.out x15_1 p663 q663
 cases e663
 replace hx663_0 := (HB.out.cell (World.block_lt_of_cell? w _ hx663_0)).trans hx663_0
 replace hx663_1 := (HB.out.cell (World.block_lt_of_cell? w _ hx663_1)).trans hx663_1
 replace hx663_2 := (HB.out.cell (World.block_lt_of_cell? w _ hx663_2)).trans hx663_2
 replace hx663_3 := (HB.out.cell (World.block_lt_of_cell? w _ hx663_3)).trans hx663_3
 replace hx663_4 := (HB.out.cell (World.block_lt_of_cell? w _ hx663_4)).trans hx663_4
 replace hx663_5 := (HB.out.cell (World.block_lt_of_cell? w _ hx663_5)).trans hx663_5
 replace p663 := eq_true p663
 replace q663 := eq_true q663
 go_wp2_with (first | ((with_reducible refine gate_dst (N := 6) rfl ?_); refine bx_ 6 27 #[.int .i64 0, .int .i64 0, .int .i64 0, .int .i64 0, .int .i64 0, .int .i64 0] ?_; intro gb664 hg w13 hbox hb; have BK664 := Aside0.mk (hbox); have GW664 := Aside0.mk ((hz_ : w.heap.size ≤ gb664)); have GE664 := Aside0.mk ((hz_ : w.heap.size ≤ gb664)); replace HB := Aside0.mk (below_step bl_ hb); clear hb hbox hg; obtain ⟨hcz14_0, hcz14_1, hcz14_2, hcz14_3, hcz14_4, hcz14_5, hfz14_0, hfz14_1, hfz14_2, hfz14_3, hfz14_4, hfz14_5⟩ := cf6_ BK664.out) | ((with_reducible refine gate_callee (f := 31) rfl ?_); refine gs_ (some 20) Tryd.func31 #[.agg #[.int .i64 ((rd_T27 l0 x15_1).f0), .int .i64 ((rd_T27 l0 x15_1).f1), .int .i64 ((rd_T27 l0 x15_1).f2.f0), .int .i64 ((rd_T27 l0 x15_1).f2.f1), .int .i64 ((rd_T27 l0 x15_1).f2.f2), .int .i64 ((rd_T27 l0 x15_1).f2.f3)]] ?_; (with_reducible refine (impl_EntryText.calls k1 ((rd_T27 l0 x15_1).f0) ((rd_T27 l0 x15_1).f1) ((rd_T27 l0 x15_1).f2.f0) ((rd_T27 l0 x15_1).f2.f1) ((rd_T27 l0 x15_1).f2.f2) ((rd_T27 l0 x15_1).f2.f3) t665 _ A6.out).mono ?_); rintro e w15 ⟨rfl, hb⟩; refine ⟨_, rfl, ?_⟩; replace BK664 := Aside0.mk (blk_below (g := gb664) (o := .cells #[.int .i64 ((rd_T27 l0 x15_1).f0), .int .i64 ((rd_T27 l0 x15_1).f1), .int .i64 ((rd_T27 l0 x15_1).f2.f0), .int .i64 ((rd_T27 l0 x15_1).f2.f1), .int .i64 ((rd_T27 l0 x15_1).f2.f2), .int .i64 ((rd_T27 l0 x15_1).f2.f3)] 27 (0, 0)) (bp0_ BK664.out) hb); replace HB := Aside0.mk (below_step bl_ hb); (try clear hb)) | ((with_reducible refine gate_callee (f := 72) rfl ?_); refine gs_ (some 25) Tryd.func72 #[.string t665] ?_; (with_reducible refine (impl_ShortText.calls k1 t665 t666 t667 _ A11.out).mono ?_); rintro e w16 ⟨rfl, hb⟩; refine ⟨_, rfl, ?_⟩; replace BK664 := Aside0.mk (blk_below (bn0_ BK664.out) hb); replace HB := Aside0.mk (below_step bl_ hb); (try clear hb)))
 go_roundg k1
 case measure => have := HK1.out; omega
 case rel => exact ⟨(x4_1 ++ t666), (wrap64 (x15_1 + 1)), (sr_), (sr_), H', ⟨by have := HK1.out; omega⟩, ⟨bl_⟩⟩


def spec_LogText.l0 : Nat → List (S27) → ByteArray → Int → Option (ByteArray × Bool)
 | 0, _, _, _ => none
 | k + 1, x0, x4, x5 => if x5 < (x0.length : Int) then (if 0 ≤ x5 then ((spec_EntryText.f k ((rd_T27 x0 x5).f0) ((rd_T27 x0 x5).f1) ((rd_T27 x0 x5).f2.f0) ((rd_T27 x0 x5).f2.f1) ((rd_T27 x0 x5).f2.f2) ((rd_T27 x0 x5).f2.f3)).bind fun t669 => (if t669.toList = ([] : List UInt8) then (some ((⟨#[]⟩ : ByteArray), false)) else ((spec_l01Var.f k (t669.size : Int)).bind fun t670 => (if x4.size + t670.size ≤ 9223372036854775807 then (if (x4 ++ t670).size + t669.size ≤ 9223372036854775807 then (spec_LogText.l0 k x0 ((x4 ++ t670) ++ t669) (wrap64 (x5 + 1))) else (none)) else (none))))) else (none)) else (some (x4, true))
def spec_LogText.f (k : Nat) (l0 : List (S27)) : Option (ByteArray × Bool) := if (l0.length : Int) > 200 then (some ((⟨#[]⟩ : ByteArray), false)) else (spec_LogText.l0 k l0 (⟨#[]⟩ : ByteArray) 0)
theorem spec_LogText.mono_l : ∀ k, (∀ y0 y1 y2, LeO (spec_LogText.l0 k y0 y1 y2) (spec_LogText.l0 (k + 1) y0 y1 y2))
 | 0 => fun _ _ _ r h => by simp [spec_LogText.l0] at h
 | k + 1 => by
  have ih0 := spec_LogText.mono_l k
  ·intro y0 y1 y2
   unfold spec_LogText.l0
   have m0 := @spec_EntryText.mono
   have m1 := @spec_l01Var.mono
   exact mo_
theorem spec_LogText.mono : ∀ a0 k, LeO (spec_LogText.f k a0) (spec_LogText.f (k + 1) a0) := by
 intro a0 k
 have ih0 := spec_LogText.mono_l k
 unfold spec_LogText.f
 have m0 := @spec_EntryText.mono
 have m1 := @spec_l01Var.mono
 exact mo_
theorem spec_LogText.calls (k : Nat) (A0 : Option Addr) (c0 : Nat) (l0 : List (S27)) (r1 : ByteArray) (r2 : Bool) (w : World) (hr0 : Kd.C k27 w A0 l0.length l0) (hc0 : l0.length ≤ c0) (h : spec_LogText.f k l0 = some (r1, r2)) :
 Calls Tryd.prog 26 #[.slice A0 l0.length c0] w fun e w' => e = .returned (.tuple #[.string r1, .bool r2]) ∧ Below w.heap.size w w' := by
 have hu27 := Tryd.underlying27
 have HR0 := Aside0.mk hr0
 have HC0 := Aside0.mk hc0
 clear hr0 hc0
 have HB := Aside0.mk (Below.refl w.heap.size w)
 have H := h
 unfold spec_LogText.f at H
 clear h
 by_cases c2 : (l0.length : Int) > 200
 ·rw [if_pos c2] at H
  have c2b0 := decide_eq_true c2
  have c2b1 : decide (200 < l0.length) = true := decide_eq_true (by omega)
  clear c2
  simp only [Option.some.injEq, Prod.mk.injEq] at H
  obtain ⟨rfl, rfl⟩ := H
  go_enter Tryd.func26, Tryd.ntmps26
  go_wp2
  go_ret2
  exact ⟨er_, bl_⟩
 rw [if_neg c2] at H
 have c2b0 := decide_eq_false c2
 have c2b1 : decide (200 < l0.length) = false := decide_eq_false (by omega)
 clear c2
 have H' := Aside0.mk H
 clear H
 go_enter Tryd.func26, Tryd.ntmps26
 go_wp2
 go_loopg [4, 5] k (fun kq v4 v5 w' => ∃ (x4_1 : ByteArray) (x5_1 : Int), v4 = .string x4_1 ∧ v5 = .int .i64 x5_1 ∧ Aside0 (spec_LogText.l0 kq l0 x4_1 x5_1 = some (r1, r2)) ∧ Aside0 (kq ≤ k) ∧ Aside0 (Below w.heap.size w w'))
 case atStart => exact ⟨((⟨#[]⟩ : ByteArray)), (0), (sr_), (sr_), H', ⟨Nat.le_refl _⟩, ⟨bl_⟩⟩
 clear H'
 try clear c2
 try clear c2b0
 try clear c2b1
 obtain ⟨x4_1, x5_1, rfl, rfl, HA, HK1, HB⟩ := hrel
 cases gk with
 | zero => exact absurd HA.out (by simp [spec_LogText.l0])
 | succ k1 => ?_
 have H := HA.out
 clear HA
 simp only [spec_LogText.l0] at H
 by_cases c3 : x5_1 < (l0.length : Int)
 rotate_left
 ·rw [if_neg c3] at H
  have c3b0 := decide_eq_false c3
  clear c3
  simp only [Option.some.injEq, Prod.mk.injEq] at H
  obtain ⟨rfl, rfl⟩ := H
  go_wp2
  go_ret2
  exact ⟨er_, bl_⟩
 rw [if_pos c3] at H
 have c3b0 := decide_eq_true c3
 clear c3
 by_cases c4 : 0 ≤ x5_1
 rotate_left
 ·exact nn_ c4 H
 rw [if_pos c4] at H
 have c4b0 := decide_eq_true c4
 clear c4
 replace H := bs_ H
 obtain ⟨t669, A5, H⟩ := H
 try dsimp only at H
 by_cases c6 : t669.toList = ([] : List UInt8)
 ·rw [if_pos c6] at H
  have c6b0 : (t669.toList == ([] : List UInt8)) = true := beq_iff_eq.mpr c6
  have c6b1 : (t669.toList != ([] : List UInt8)) = false := bne_eq_false_iff_eq.mpr c6
  clear c6
  simp only [Option.some.injEq, Prod.mk.injEq] at H
  obtain ⟨rfl, rfl⟩ := H
  have p668 : 0 ≤ (x5_1 : Int) := of_decide_eq_true as_
  have q668 : x5_1 < (l0.length : Int) := of_decide_eq_true as_
  obtain ⟨ad668, e668, hx668_0, hx668_1, hx668_2, hx668_3, hx668_4, hx668_5⟩ := at_T27 HR0.out x5_1 p668 q668
  cases e668
  replace hx668_0 := (HB.out.cell (World.block_lt_of_cell? w _ hx668_0)).trans hx668_0
  replace hx668_1 := (HB.out.cell (World.block_lt_of_cell? w _ hx668_1)).trans hx668_1
  replace hx668_2 := (HB.out.cell (World.block_lt_of_cell? w _ hx668_2)).trans hx668_2
  replace hx668_3 := (HB.out.cell (World.block_lt_of_cell? w _ hx668_3)).trans hx668_3
  replace hx668_4 := (HB.out.cell (World.block_lt_of_cell? w _ hx668_4)).trans hx668_4
  replace hx668_5 := (HB.out.cell (World.block_lt_of_cell? w _ hx668_5)).trans hx668_5
  replace p668 := eq_true p668
  replace q668 := eq_true q668
  go_wp2_with (first | ((with_reducible refine gate_callee (f := 32) rfl ?_); refine gs_ (some 20) Tryd.func32 #[.agg #[.int .i64 ((rd_T27 l0 x5_1).f0), .int .i64 ((rd_T27 l0 x5_1).f1), .int .i64 ((rd_T27 l0 x5_1).f2.f0), .int .i64 ((rd_T27 l0 x5_1).f2.f1), .int .i64 ((rd_T27 l0 x5_1).f2.f2), .int .i64 ((rd_T27 l0 x5_1).f2.f3)]] ?_; (with_reducible refine (spec_EntryText.calls k1 ((rd_T27 l0 x5_1).f0) ((rd_T27 l0 x5_1).f1) ((rd_T27 l0 x5_1).f2.f0) ((rd_T27 l0 x5_1).f2.f1) ((rd_T27 l0 x5_1).f2.f2) ((rd_T27 l0 x5_1).f2.f3) t669 _ A5.out).mono ?_); rintro e w7 ⟨rfl, hb⟩; refine ⟨_, rfl, ?_⟩; replace HB := Aside0.mk (below_step bl_ hb); (try clear hb)))
  go_ret2
  exact ⟨er_, bl_⟩
 rw [if_neg c6] at H
 have c6b0 : (t669.toList == ([] : List UInt8)) = false := beq_eq_false_iff_ne.mpr c6
 have c6b1 : (t669.toList != ([] : List UInt8)) = true := bne_iff_ne.mpr c6
 replace H := bs_ H
 obtain ⟨t670, A8, H⟩ := H
 try dsimp only at H
 by_cases c9 : x4_1.size + t670.size ≤ 9223372036854775807
 rotate_left
 ·exact nn_ c9 H
 rw [if_pos c9] at H
 have c9b0 := eq_true c9
 have c9b1 : decide (x4_1.size + t670.size ≤ 9223372036854775807) = true := decide_eq_true c9
 try have c9b2 : (9223372036854775807 < x4_1.size + t670.size) = False := eq_false (Nat.not_lt.2 c9)
 by_cases c10 : (x4_1 ++ t670).size + t669.size ≤ 9223372036854775807
 rotate_left
 ·exact nn_ c10 H
 rw [if_pos c10] at H
 have c10b0 := eq_true c10
 have c10b1 : decide ((x4_1 ++ t670).size + t669.size ≤ 9223372036854775807) = true := decide_eq_true c10
 try have c10b2 : (9223372036854775807 < (x4_1 ++ t670).size + t669.size) = False := eq_false (Nat.not_lt.2 c10)
 try have c10b3 : (9223372036854775807 < x4_1.size + t670.size + t669.size) = False := eq_false (by have h_ := c10; (repeat rw [ByteArray.size_append] at h_); exact Nat.not_lt.2 h_)
 have H' := Aside0.mk H
 clear H
 have p668 : 0 ≤ (x5_1 : Int) := of_decide_eq_true as_
 have q668 : x5_1 < (l0.length : Int) := of_decide_eq_true as_
 obtain ⟨ad668, e668, hx668_0, hx668_1, hx668_2, hx668_3, hx668_4, hx668_5⟩ := at_T27 HR0.out x5_1 p668 q668
 cases e668
 replace hx668_0 := (HB.out.cell (World.block_lt_of_cell? w _ hx668_0)).trans hx668_0
 replace hx668_1 := (HB.out.cell (World.block_lt_of_cell? w _ hx668_1)).trans hx668_1
 replace hx668_2 := (HB.out.cell (World.block_lt_of_cell? w _ hx668_2)).trans hx668_2
 replace hx668_3 := (HB.out.cell (World.block_lt_of_cell? w _ hx668_3)).trans hx668_3
 replace hx668_4 := (HB.out.cell (World.block_lt_of_cell? w _ hx668_4)).trans hx668_4
 replace hx668_5 := (HB.out.cell (World.block_lt_of_cell? w _ hx668_5)).trans hx668_5
 replace p668 := eq_true p668
 replace q668 := eq_true q668
 go_wp2_with (first | ((with_reducible refine gate_callee (f := 32) rfl ?_); refine gs_ (some 20) Tryd.func32 #[.agg #[.int .i64 ((rd_T27 l0 x5_1).f0), .int .i64 ((rd_T27 l0 x5_1).f1), .int .i64 ((rd_T27 l0 x5_1).f2.f0), .int .i64 ((rd_T27 l0 x5_1).f2.f1), .int .i64 ((rd_T27 l0 x5_1).f2.f2), .int .i64 ((rd_T27 l0 x5_1).f2.f3)]] ?_; (with_reducible refine (spec_EntryText.calls k1 ((rd_T27 l0 x5_1).f0) ((rd_T27 l0 x5_1).f1) ((rd_T27 l0 x5_1).f2.f0) ((rd_T27 l0 x5_1).f2.f1) ((rd_T27 l0 x5_1).f2.f2) ((rd_T27 l0 x5_1).f2.f3) t669 _ A5.out).mono ?_); rintro e w11 ⟨rfl, hb⟩; refine ⟨_, rfl, ?_⟩; replace HB := Aside0.mk (below_step bl_ hb); (try clear hb)) | ((with_reducible refine gate_callee (f := 73) rfl ?_); refine gs_ (some 26) Tryd.func73 #[.int .i64 (t669.size : Int)] ?_; (with_reducible refine (spec_l01Var.calls k1 (t669.size : Int) t670 _ A8.out).mono ?_); rintro e w12 ⟨rfl, hb⟩; refine ⟨_, rfl, ?_⟩; replace HB := Aside0.mk (below_step bl_ hb); (try clear hb)))
 go_roundg k1
 case measure => have := HK1.out; omega
 case rel => exact ⟨((x4_1 ++ t670) ++ t669), (wrap64 (x5_1 + 1)), (sr_), (sr_), H', ⟨by have := HK1.out; omega⟩, ⟨bl_⟩⟩


mutual
def spec_l01Text.j0 : Nat → Int → List Int → Int → Int → Option (ByteArray × Int × Int)
 | 0, _, _, _, _ => none
 | k + 1, x1, x1000, x1001, x1002 => spec_l01Text.l0 k x1 (([] : List Int)) 0 x1000 x1001 x1002
def spec_l01Text.l0 : Nat → Int → List Int → Int → List Int → Int → Int → Option (ByteArray × Int × Int)
 | 0, _, _, _, _, _, _ => none
 | k + 1, x1, x5, x6, x1000, x1001, x1002 => if x6 < x1 then ((spec_l01Byte.f x1000 x1001 x1002).bind fun bt674 => (if x5.length < 140737488355328 then (spec_l01Text.l0 k x1 (x5 ++ [(bt674.1) % 256]) (wrap64 (x6 + 1)) x1000 bt674.2.1 bt674.2.2) else (none))) else (some (strOfNums x5, x1001, x1002))
end
def spec_l01Text.f (k : Nat) (s0_0 : List Int) (s0_1 : Int) (s0_2 : Int) (a1 : Int) : Option (ByteArray × Int × Int) := if a1 > 5000 then (spec_l01Text.j0 k 5000 s0_0 s0_1 s0_2) else (spec_l01Text.j0 k a1 s0_0 s0_1 s0_2)
theorem spec_l01Text.mono_l : ∀ k, (∀ y0 y1 y2 y3, LeO (spec_l01Text.j0 k y0 y1 y2 y3) (spec_l01Text.j0 (k + 1) y0 y1 y2 y3)) ∧ (∀ y0 y1 y2 y3 y4 y5, LeO (spec_l01Text.l0 k y0 y1 y2 y3 y4 y5) (spec_l01Text.l0 (k + 1) y0 y1 y2 y3 y4 y5))
 | 0 => ⟨fun _ _ _ _ r h => by simp [spec_l01Text.j0] at h, fun _ _ _ _ _ _ r h => by simp [spec_l01Text.l0] at h⟩
 | k + 1 => by
  obtain ⟨ih0, ih1⟩ := spec_l01Text.mono_l k
  refine ⟨?_, ?_⟩
  ·intro y0 y1 y2 y3
   unfold spec_l01Text.j0
   exact mo_
  ·intro y0 y1 y2 y3 y4 y5
   unfold spec_l01Text.l0
   exact mo_
theorem spec_l01Text.mono : ∀ a0 a1 a2 a3 k, LeO (spec_l01Text.f k a0 a1 a2 a3) (spec_l01Text.f (k + 1) a0 a1 a2 a3) := by
 intro a0 a1 a2 a3 k
 obtain ⟨ih0, ih1⟩ := spec_l01Text.mono_l k
 unfold spec_l01Text.f
 exact mo_
theorem spec_l01Text.calls (k : Nat) (g : Nat) (s0_0 : List Int) (s0_1 : Int) (s0_2 : Int) (a1 : Int) (r1 : ByteArray) (r2 : Int) (r3 : Int) (w0 w : World) (hI : IsS100 w0 w g s0_0 s0_1 s0_2) (hB : Below w0.heap.size w0 w) (h : spec_l01Text.f k s0_0 s0_1 s0_2 a1 = some (r1, r2, r3)) :
 Calls Tryd.prog 104 #[.pointer (some ⟨g, 0, none⟩), .int .i64 a1] w fun e w' => e = .returned (.string r1) ∧ IsS100 w0 w' g s0_0 r2 r3 ∧ Below w0.heap.size w0 w' ∧ KeepBut w w' g none := by
 have HI0 := Aside0.mk hI
 have HK := Aside0.mk (KeepBut.refl w g none)
 have HL := Aside0.mk hB.size
 clear hI
 have HW0 := Aside0.mk hB.size
 have HB := Aside0.mk hB
 clear hB
 have H := h
 unfold spec_l01Text.f at H
 clear h
 have HC3 := Aside0.mk H
 clear H
 go_enter Tryd.func104, Tryd.ntmps104
 go_upto_if 8 with (fail)
 go_cut [1] (fun v1 wc => ∃ (kq : Nat) (x1_2 : Int), v1 = .int .i64 x1_2 ∧ Aside0 (spec_l01Text.j0 kq x1_2 s0_0 s0_1 s0_2 = some (r1, r2, r3)) ∧ Aside0 (kq ≤ k) ∧ Aside0 (IsS100 w0 wc g s0_0 s0_1 s0_2) ∧ Aside0 (KeepBut w wc g none) ∧ Aside0 (Below w0.heap.size w0 wc))
 case first =>
  have H := HC3.out
  clear HC3
  by_cases c4 : a1 > 5000
  rotate_left
  ·rw [if_neg c4] at H
   have c4b0 := decide_eq_false c4
   clear c4
   (first | rw [c4b0] | (simp only [i64_w, i32_w]; rw [c4b0]) | skip)
   have H' := Aside0.mk H
   clear H
   go_wp2
   go_meet
   case rel => exact ⟨_, (a1), (sr_), H', ⟨by first | omega | exact Nat.le_refl _⟩, ⟨is0_⟩, ⟨hkx_⟩, ⟨bi0_⟩⟩
  rw [if_pos c4] at H
  have c4b0 := decide_eq_true c4
  clear c4
  (first | rw [c4b0] | (simp only [i64_w, i32_w]; rw [c4b0]) | skip)
  have H' := Aside0.mk H
  clear H
  go_wp2
  go_meet
  case rel => exact ⟨_, (5000), (sr_), H', ⟨by first | omega | exact Nat.le_refl _⟩, ⟨is0_⟩, ⟨hkx_⟩, ⟨bi0_⟩⟩
 clear HC3
 obtain ⟨kq, x1_2, rfl, HA, HJ2, HI0, HK, HB⟩ := hcut
 cases kq with
 | zero => exact absurd HA.out (by simp [spec_l01Text.j0])
 | succ kj2 => ?_
 have H := HA.out
 clear HA
 simp only [spec_l01Text.j0] at H
 obtain ⟨y671, hy671⟩ : ∃ y_ : List Int, y_ = (([] : List Int)) := ⟨_, rfl⟩
 replace H : (spec_l01Text.l0 kj2 x1_2 y671 0 s0_0 s0_1 s0_2) = some (r1, r2, r3) := rp_ H hy671
 have Ny671 := Aside0.mk hy671
 clear hy671
 have H' := Aside0.mk H
 clear H
 go_wp2_with (first | ((with_reducible refine gate_dst (N := 9) rfl ?_); refine Kd.R_lit (Kd.int .u8) _ 5 ?hg (N := 9) ?hd (xs := ([] : List Int)) (inner := []) (ok := fun _ => True) (okp := fun _ => True) ?hr ?hp (fun _ hk => hk) trivial (Below.refl _ _) (Nat.le_refl _) (by simp) ?_; (case hd => rfl); (case hg => rfl); (case hr => first | (go_simp; done) | (go_simp; rfl)); (case hp => exact (Reps.none _ _)); intro v672 w5 ho6 hb hg_ hnew_; clear hg_ hnew_; (first | rw [← Ny671.out] at ho6 | (simp only [Int.reduceToNat] at ho6; rw [← Ny671.out] at ho6)); have HO673 := Aside0.mk (Kd.R_lower ho6 (keep_size (w := w) (g := g) (row := none) hkx_)); replace HK := Aside0.mk (KeepBut.trans hkx_ (KeepBut.of_below hb g none) (.inl rfl)); replace HB := Aside0.mk (below_step bi0_ hb); replace HI0 := Aside0.mk (IsS100.below is0_ hb); clear hb ho6))
 go_loopg [5, 6] kj2 (fun kq v5 v6 w' => ∃ (x5_2 : List Int) (x6_2 : Int) (x1001_2 : Int) (x1002_2 : Int), v6 = .int .i64 x6_2 ∧ Aside0 (spec_l01Text.l0 kq x1_2 x5_2 x6_2 s0_0 x1001_2 x1002_2 = some (r1, r2, r3)) ∧ Aside0 (kq ≤ kj2) ∧ Aside0 (Kd.R (Kd.int .u8) 5 w' w.heap.size (fun _ => True) v5 x5_2) ∧ Aside0 (IsS100 w0 w' g s0_0 x1001_2 x1002_2) ∧ Aside0 (KeepBut w w' g none) ∧ Aside0 (Below w0.heap.size w0 w'))
 case atStart => exact ⟨(y671), (0), (s0_1), (s0_2), (sr_), H', ⟨Nat.le_refl _⟩, ⟨ra_ HO673.out⟩, ⟨is0_⟩, ⟨hkx_⟩, ⟨bi0_⟩⟩
 clear H'
 obtain ⟨x5_2, x6_2, x1001_2, x1002_2, rfl, HA, HK2, HO_5, HI0, HK, HB⟩ := hrel
 cases gk with
 | zero => exact absurd HA.out (by simp [spec_l01Text.l0])
 | succ k2 => ?_
 have H := HA.out
 clear HA
 simp only [spec_l01Text.l0] at H
 by_cases c7 : x6_2 < x1_2
 rotate_left
 ·rw [if_neg c7] at H
  have c7b0 := decide_eq_false c7
  clear c7
  simp only [Option.some.injEq, Prod.mk.injEq] at H
  obtain ⟨rfl, rfl, rfl⟩ := H
  have hcv12 := own_string (P := Tryd.prog) Tryd.underlying22 Tryd.underlying5 Tryd.underlying9 (Kd.own_of_R HO_5.out)
  go_wp2
  go_ret
  exact ⟨er_, is0_, bi0_, hkx_⟩
 rw [if_pos c7] at H
 have c7b0 := decide_eq_true c7
 clear c7
 replace H := bs_ H
 obtain ⟨⟨t674, t675, t676⟩, A8, H⟩ := H
 try dsimp only at H
 by_cases c9 : x5_2.length < 140737488355328
 rotate_left
 ·exact nn_ c9 H
 rw [if_pos c9] at H
 have LMc9 := Aside0.mk c9
 clear c9
 obtain ⟨y677, hy677⟩ : ∃ y_ : List Int, y_ = (x5_2 ++ [(t674) % 256]) := ⟨_, rfl⟩
 replace H : (spec_l01Text.l0 k2 x1_2 y677 (wrap64 (x6_2 + 1)) s0_0 t675 t676) = some (r1, r2, r3) := rp_ H hy677
 have Ny677 := Aside0.mk hy677
 clear hy677
 have H' := Aside0.mk H
 clear H
 go_wp2_with (first | ((with_reducible refine gate_callee (f := 94) rfl ?_); refine gs_ (some 17) Tryd.func94 #[.pointer (some ⟨g, 0, none⟩)] ?_; (with_reducible refine (spec_l01Byte.calls g s0_0 x1001_2 x1002_2 t674 t675 t676 w0 _ ?side1 ?side2 A8.out).mono ?_); (case side1 => exact is0_); (case side2 => exact bi0_); rintro e w10 ⟨rfl, hi, hb, hk⟩; refine ⟨_, rfl, ?_⟩; replace HO_5 := Aside0.mk (Kd.R_mono (Kd.R_keep (IsS100.apart (show IsS100 w0 _ g s0_0 x1001_2 x1002_2 from is0_) (ra_ HO_5.out) (by decide)) hk (fun _ h => h.2)) (fun _ h => h.1)); replace HK := Aside0.mk (KeepBut.trans hkx_ hk (.inl rfl)); replace HB := Aside0.mk (hb); replace HI0 := Aside0.mk (hi); (try clear hb); (try clear hk); (try clear hi)) | ((with_reducible refine gate_builtin (b := .append) (xs := #[.tmp 15, .tmp 19]) rfl ?_); at_builtin; refine Kd.R_append (Kd.int .u8) w.heap.size rfl (.tmp 15) (.tmp 19) 22 5 (.int .u8 0) 1 rfl Tryd.underlying22 info5 rfl (by decide) (by omega) u5 x5_2 ((t674) % 256) [.int .u8 ((t674) % 256)] (fun _ => True) (fun _ => False) rfl rfl ?aP (fun _ hk => hk.elim) ?aF ?aO (Below.refl _ _) ?aS ?aL ?_; (case aP => exact rfl); (case aF => exact (fun _ _ => trivial)); (case aO => exact (ra_ HO_5.out)); (case aS => exact (keep_size (w := w) (g := g) (row := none) hkx_)); (case aL => have := LMc9.out; omega); intro v678 w11 ho hb hg hat; rw [← Ny677.out] at ho; replace HB := Aside0.mk (below_weaken bi0_ HL.out hb); replace HI0 := Aside0.mk (IsS100.grown (show IsS100 w0 _ g s0_0 t675 t676 from is0_) hg (IsS100.own_ne HI0.out HO_5.out (by decide))); replace HK := Aside0.mk (KeepBut.trans hkx_ (KeepBut.of_grown hg g) (Kd.R_base2 HO_5.out)); have HO679 := Aside0.mk (ho); clear HO_5; clear ho hb hg hat))
 go_roundg k2
 case measure => have := HJ2.out; have := HK2.out; omega
 case rel => exact ⟨(y677), (wrap64 (x6_2 + 1)), (t675), (t676), (sr_), H', ⟨by have := HJ2.out; have := HK2.out; omega⟩, ⟨ra_ HO679.out⟩, ⟨is0_⟩, ⟨hkx_⟩, ⟨bi0_⟩⟩


def spec_l02Spoilt.j0 : Nat → ByteArray → Bool → List Int → Int → Int → Option (ByteArray × Int × Int)
 | 0, _, _, _, _, _ => none
 | k + 1, x1, x23, x1000, x1001, x1002 => if x23 = true then (if (x1.size : Int) > 0 then ((spec_l01Below.f x1000 x1001 x1002 (x1.size : Int)).bind fun bt689 => (if 0 ≤ bt689.1 then (if bt689.1 ≤ (x1.size : Int) then ((spec_l01Text.f k x1000 bt689.2.1 bt689.2.2 1).bind fun bt692 => (if (x1.extract 0 (bt689.1 : Int).toNat).size + bt692.1.size ≤ 9223372036854775807 then (if 0 ≤ (wrap64 (bt689.1 + 1)) then (if (wrap64 (bt689.1 + 1)) ≤ (x1.size : Int) then (if ((x1.extract 0 (bt689.1 : Int).toNat) ++ bt692.1).size + (x1.extract ((wrap64 (bt689.1 + 1)) : Int).toNat x1.size).size ≤ 9223372036854775807 then (some (((x1.extract 0 (bt689.1 : Int).toNat) ++ bt692.1) ++ (x1.extract ((wrap64 (bt689.1 + 1)) : Int).toNat x1.size), bt692.2.1, bt692.2.2)) else (none)) else (none)) else (none)) else (none))) else (none)) else (none))) else (some (x1, x1001, x1002))) else (some (x1, x1001, x1002))
def spec_l02Spoilt.f (k : Nat) (s0_0 : List Int) (s0_1 : Int) (s0_2 : Int) (a1 : ByteArray) : Option (ByteArray × Int × Int) := (spec_l01Below.f s0_0 s0_1 s0_2 12).bind fun bt680 => (if bt680.1 = 0 then ((spec_l01Text.f k s0_0 bt680.2.1 bt680.2.2 1).bind fun bt683 => (if a1.size + bt683.1.size ≤ 9223372036854775807 then (some (a1 ++ bt683.1, bt683.2.1, bt683.2.2)) else (none))) else (if bt680.1 = 1 then ((spec_l01Below.f s0_0 bt680.2.1 bt680.2.2 (wrap64 ((a1.size : Int) + 1))).bind fun bt686 => (if 0 ≤ bt686.1 then (if bt686.1 ≤ (a1.size : Int) then (some (a1.extract 0 (bt686.1 : Int).toNat, bt686.2.1, bt686.2.2)) else (none)) else (none))) else (if bt680.1 = 2 then (spec_l02Spoilt.j0 k a1 (bt680.1 == 2) s0_0 bt680.2.1 bt680.2.2) else (spec_l02Spoilt.j0 k a1 (bt680.1 == 3) s0_0 bt680.2.1 bt680.2.2))))
theorem spec_l02Spoilt.mono_l : ∀ k, (∀ y0 y1 y2 y3 y4, LeO (spec_l02Spoilt.j0 k y0 y1 y2 y3 y4) (spec_l02Spoilt.j0 (k + 1) y0 y1 y2 y3 y4))
 | 0 => fun _ _ _ _ _ r h => by simp [spec_l02Spoilt.j0] at h
 | k + 1 => by
  have ih0 := spec_l02Spoilt.mono_l k
  ·intro y0 y1 y2 y3 y4
   unfold spec_l02Spoilt.j0
   have m0 := @spec_l01Text.mono
   exact mo_
theorem spec_l02Spoilt.mono : ∀ a0 a1 a2 a3 k, LeO (spec_l02Spoilt.f k a0 a1 a2 a3) (spec_l02Spoilt.f (k + 1) a0 a1 a2 a3) := by
 intro a0 a1 a2 a3 k
 have ih0 := spec_l02Spoilt.mono_l k
 unfold spec_l02Spoilt.f
 have m0 := @spec_l01Text.mono
 exact mo_
def spec_l02Spoilt.T10 : Bool × List (List Nat × List Nat) := (true, [([], []), ([], []), ([0, 1], [0, 1]), ([], []), ([3], [3]), ([2, 4], [2, 4]), ([], []), ([], []), ([7], [7]), ([6, 8], [6, 8]), ([5, 9], [5, 9]), ([10, 4, 0, 1, 2, 3, 4, 5, 6, 7, 8, 9, 10], [10])])
def spec_l02Spoilt.B10 : List Nat := [0, 0, 3, 0, 8, 31, 0, 0, 128, 448, 1023, 2047]
theorem spec_l02Spoilt.tab10 : rtab .any (opsOf Tryd.f74 10) = spec_l02Spoilt.T10 := by kernel_rfl
theorem spec_l02Spoilt.bits10 : waitsOk spec_l02Spoilt.T10.2 spec_l02Spoilt.B10 = true := by kernel_rfl
theorem spec_l02Spoilt.calls (k : Nat) (g : Nat) (s0_0 : List Int) (s0_1 : Int) (s0_2 : Int) (a1 : ByteArray) (r1 : ByteArray) (r2 : Int) (r3 : Int) (w0 w : World) (hI : IsS100 w0 w g s0_0 s0_1 s0_2) (hB : Below w0.heap.size w0 w) (h : spec_l02Spoilt.f k s0_0 s0_1 s0_2 a1 = some (r1, r2, r3)) :
 Calls Tryd.prog 74 #[.pointer (some ⟨g, 0, none⟩), .string a1] w fun e w' => e = .returned (.string r1) ∧ IsS100 w0 w' g s0_0 r2 r3 ∧ Below w0.heap.size w0 w' ∧ KeepBut w w' g none := by
 have HI0 := Aside0.mk hI
 have HK := Aside0.mk (KeepBut.refl w g none)
 have HL := Aside0.mk hB.size
 clear hI
 have HW0 := Aside0.mk hB.size
 have HB := Aside0.mk hB
 clear hB
 have H := h
 unfold spec_l02Spoilt.f at H
 clear h
 replace H := bs_ H
 obtain ⟨⟨t680, t681, t682⟩, A3, H⟩ := H
 try dsimp only at H
 by_cases c4 : t680 = 0
 ·rw [if_pos c4] at H
  have c4b0 : (t680 == 0) = true := beq_iff_eq.mpr c4
  have c4b1 : (t680 != 0) = false := bne_eq_false_iff_eq.mpr c4
  clear c4
  replace H := bs_ H
  obtain ⟨⟨t683, t684, t685⟩, A5, H⟩ := H
  try dsimp only at H
  by_cases c6 : a1.size + t683.size ≤ 9223372036854775807
  rotate_left
  ·exact nn_ c6 H
  rw [if_pos c6] at H
  have c6b0 := eq_true c6
  have c6b1 : decide (a1.size + t683.size ≤ 9223372036854775807) = true := decide_eq_true c6
  try have c6b2 : (9223372036854775807 < a1.size + t683.size) = False := eq_false (Nat.not_lt.2 c6)
  simp only [Option.some.injEq, Prod.mk.injEq] at H
  obtain ⟨rfl, rfl, rfl⟩ := H
  go_enter Tryd.func74, Tryd.ntmps74
  go_wp2_with (first | ((with_reducible refine gate_callee (f := 64) rfl ?_); refine gs_ (some 7) Tryd.func64 #[.pointer (some ⟨g, 0, none⟩), .int .i64 12] ?_; (with_reducible refine (spec_l01Below.calls g s0_0 s0_1 s0_2 12 t680 t681 t682 w0 _ ?side1 ?side2 A3.out).mono ?_); (case side1 => exact is0_); (case side2 => exact bi0_); rintro e w7 ⟨rfl, hi, hb, hk⟩; refine ⟨_, rfl, ?_⟩; replace HK := Aside0.mk (KeepBut.trans hkx_ hk (.inl rfl)); replace HB := Aside0.mk (hb); replace HI0 := Aside0.mk (hi); (try clear hb); (try clear hk); (try clear hi)) | ((with_reducible refine gate_callee (f := 104) rfl ?_); refine gs_ (some 12) Tryd.func104 #[.pointer (some ⟨g, 0, none⟩), .int .i64 1] ?_; (with_reducible refine (spec_l01Text.calls k g s0_0 t681 t682 1 t683 t684 t685 w0 _ ?side1 ?side2 A5.out).mono ?_); (case side1 => exact is0_); (case side2 => exact bi0_); rintro e w8 ⟨rfl, hi, hb, hk⟩; refine ⟨_, rfl, ?_⟩; replace HK := Aside0.mk (KeepBut.trans hkx_ hk (.inl rfl)); replace HB := Aside0.mk (hb); replace HI0 := Aside0.mk (hi); (try clear hb); (try clear hk); (try clear hi)))
  go_ret
  exact ⟨er_, is0_, bi0_, hkx_⟩
 rw [if_neg c4] at H
 have c4b0 : (t680 == 0) = false := beq_eq_false_iff_ne.mpr c4
 have c4b1 : (t680 != 0) = true := bne_iff_ne.mpr c4
 by_cases c9 : t680 = 1
 ·rw [if_pos c9] at H
  have c9b0 : (t680 == 1) = true := beq_iff_eq.mpr c9
  have c9b1 : (t680 != 1) = false := bne_eq_false_iff_eq.mpr c9
  clear c9
  replace H := bs_ H
  obtain ⟨⟨t686, t687, t688⟩, A10, H⟩ := H
  try dsimp only at H
  by_cases c11 : 0 ≤ t686
  rotate_left
  ·exact nn_ c11 H
  rw [if_pos c11] at H
  have c11b0 := eq_true c11
  have c11b1 : decide (0 ≤ t686) = true := decide_eq_true c11
  clear c11
  by_cases c12 : t686 ≤ (a1.size : Int)
  rotate_left
  ·exact nn_ c12 H
  rw [if_pos c12] at H
  have c12b0 := eq_true c12
  have c12b1 : decide (t686 ≤ (a1.size : Int)) = true := decide_eq_true c12
  clear c12
  simp only [Option.some.injEq, Prod.mk.injEq] at H
  obtain ⟨rfl, rfl, rfl⟩ := H
  go_enter Tryd.func74, Tryd.ntmps74
  go_wp2_with (first | ((with_reducible refine gate_callee (f := 64) rfl ?_); refine gs_ (some 7) Tryd.func64 #[.pointer (some ⟨g, 0, none⟩), .int .i64 12] ?_; (with_reducible refine (spec_l01Below.calls g s0_0 s0_1 s0_2 12 t680 t681 t682 w0 _ ?side1 ?side2 A3.out).mono ?_); (case side1 => exact is0_); (case side2 => exact bi0_); rintro e w13 ⟨rfl, hi, hb, hk⟩; refine ⟨_, rfl, ?_⟩; replace HK := Aside0.mk (KeepBut.trans hkx_ hk (.inl rfl)); replace HB := Aside0.mk (hb); replace HI0 := Aside0.mk (hi); (try clear hb); (try clear hk); (try clear hi)) | ((with_reducible refine gate_callee (f := 64) rfl ?_); refine gs_ (some 21) Tryd.func64 #[.pointer (some ⟨g, 0, none⟩), .int .i64 (wrap64 ((a1.size : Int) + 1))] ?_; (with_reducible refine (spec_l01Below.calls g s0_0 t681 t682 (wrap64 ((a1.size : Int) + 1)) t686 t687 t688 w0 _ ?side1 ?side2 A10.out).mono ?_); (case side1 => exact is0_); (case side2 => exact bi0_); rintro e w14 ⟨rfl, hi, hb, hk⟩; refine ⟨_, rfl, ?_⟩; replace HK := Aside0.mk (KeepBut.trans hkx_ hk (.inl rfl)); replace HB := Aside0.mk (hb); replace HI0 := Aside0.mk (hi); (try clear hb); (try clear hk); (try clear hi)))
  go_ret
  exact ⟨er_, is0_, bi0_, hkx_⟩
 rw [if_neg c9] at H
 have c9b0 : (t680 == 1) = false := beq_eq_false_iff_ne.mpr c9
 have c9b1 : (t680 != 1) = true := bne_iff_ne.mpr c9
 have HC15 := Aside0.mk H
 clear H
 go_enter Tryd.func74, Tryd.ntmps74
 go_upto_if 23 with (first | ((with_reducible refine gate_callee (f := 64) rfl ?_); refine gs_ (some 7) Tryd.func64 #[.pointer (some ⟨g, 0, none⟩), .int .i64 12] ?_; (with_reducible refine (spec_l01Below.calls g s0_0 s0_1 s0_2 12 t680 t681 t682 w0 _ ?side1 ?side2 A3.out).mono ?_); (case side1 => exact is0_); (case side2 => exact bi0_); rintro e w16 ⟨rfl, hi, hb, hk⟩; refine ⟨_, rfl, ?_⟩; replace HK := Aside0.mk (KeepBut.trans hkx_ hk (.inl rfl)); replace HB := Aside0.mk (hb); replace HI0 := Aside0.mk (hi); (try clear hb); (try clear hk); (try clear hi)))
 (try simp only [Act.put, List.setIfInBounds_toArray, List.set_cons_zero, List.set_cons_succ])
 go_cut [23] (fun v23 wc => ∃ (kq : Nat) (x23_14 : Bool), v23 = .bool x23_14 ∧ Aside0 (spec_l02Spoilt.j0 kq a1 x23_14 s0_0 t681 t682 = some (r1, r2, r3)) ∧ Aside0 (kq ≤ k) ∧ Aside0 (IsS100 w0 wc g s0_0 t681 t682) ∧ Aside0 (KeepBut w wc g none) ∧ Aside0 (Below w0.heap.size w0 wc))
 case first =>
  have H := HC15.out
  clear HC15
  by_cases c17 : t680 = 2
  rotate_left
  ·rw [if_neg c17] at H
   have c17b0 : (t680 == 2) = false := beq_eq_false_iff_ne.mpr c17
   have c17b1 : (t680 != 2) = true := bne_iff_ne.mpr c17
   (first | rw [c17b0] | (simp only [i64_w, i32_w]; rw [c17b0]) | skip)
   have H' := Aside0.mk H
   clear H
   go_wp2
   go_meet
   case rel => exact ⟨_, ((t680 == 3)), (sr_), H', ⟨by first | omega | exact Nat.le_refl _⟩, ⟨is0_⟩, ⟨hkx_⟩, ⟨bi0_⟩⟩
  rw [if_pos c17] at H
  have c17b0 : (t680 == 2) = true := beq_iff_eq.mpr c17
  have c17b1 : (t680 != 2) = false := bne_eq_false_iff_eq.mpr c17
  clear c17
  (first | rw [c17b0] | (simp only [i64_w, i32_w]; rw [c17b0]) | skip)
  have H' := Aside0.mk H
  clear H
  go_wp2
  go_meet
  case rel => exact ⟨_, ((t680 == 2)), (sr_), H', ⟨by first | omega | exact Nat.le_refl _⟩, ⟨is0_⟩, ⟨hkx_⟩, ⟨bi0_⟩⟩
 clear HC15
 try clear c4
 try clear c4b0
 try clear c4b1
 try clear c9
 try clear c9b0
 try clear c9b1
 obtain ⟨kq, x23_14, rfl, HA, HJ14, HI0, HK, HB⟩ := hcut
 cases kq with
 | zero => exact absurd HA.out (by simp [spec_l02Spoilt.j0])
 | succ kj14 => ?_
 have H := HA.out
 clear HA
 simp only [spec_l02Spoilt.j0] at H
 by_cases c18 : x23_14 = true
 rotate_left
 ·replace c18 := Bool.eq_false_iff.mpr c18
  subst c18
  rw [nf_] at H
  simp only [Option.some.injEq, Prod.mk.injEq] at H
  obtain ⟨rfl, rfl, rfl⟩ := H
  go_wp2
  go_ret
  exact ⟨er_, is0_, bi0_, hkx_⟩
 subst c18
 rw [if_pos rfl] at H
 by_cases c19 : (a1.size : Int) > 0
 rotate_left
 ·rw [if_neg c19] at H
  have c19b0 := decide_eq_false c19
  have c19b1 : decide (0 < a1.size) = false := decide_eq_false (by omega)
  clear c19
  simp only [Option.some.injEq, Prod.mk.injEq] at H
  obtain ⟨rfl, rfl, rfl⟩ := H
  go_wp2
  go_ret
  exact ⟨er_, is0_, bi0_, hkx_⟩
 rw [if_pos c19] at H
 have c19b0 := decide_eq_true c19
 have c19b1 : decide (0 < a1.size) = true := decide_eq_true (by omega)
 clear c19
 replace H := bs_ H
 obtain ⟨⟨t689, t690, t691⟩, A20, H⟩ := H
 try dsimp only at H
 by_cases c21 : 0 ≤ t689
 rotate_left
 ·exact nn_ c21 H
 rw [if_pos c21] at H
 have c21b0 := eq_true c21
 have c21b1 : decide (0 ≤ t689) = true := decide_eq_true c21
 clear c21
 by_cases c22 : t689 ≤ (a1.size : Int)
 rotate_left
 ·exact nn_ c22 H
 rw [if_pos c22] at H
 have c22b0 := eq_true c22
 have c22b1 : decide (t689 ≤ (a1.size : Int)) = true := decide_eq_true c22
 clear c22
 replace H := bs_ H
 obtain ⟨⟨t692, t693, t694⟩, A23, H⟩ := H
 try dsimp only at H
 by_cases c24 : (a1.extract 0 (t689 : Int).toNat).size + t692.size ≤ 9223372036854775807
 rotate_left
 ·exact nn_ c24 H
 rw [if_pos c24] at H
 have c24b0 := eq_true c24
 have c24b1 : decide ((a1.extract 0 (t689 : Int).toNat).size + t692.size ≤ 9223372036854775807) = true := decide_eq_true c24
 try have c24b2 : (9223372036854775807 < (a1.extract 0 (t689 : Int).toNat).size + t692.size) = False := eq_false (Nat.not_lt.2 c24)
 try have c24b4 : (9223372036854775807 < (t689 : Int).toNat + t692.size) = False := eq_false (by have h_ := c24; simp only [ByteArray.size_append, ByteArray.size_extract] at h_; have q0_ : (t689 : Int) ≤ (a1.size : Int) := of_decide_eq_true as_; omega)
 obtain ⟨ji25, hji25⟩ : ∃ j_ : Int, (wrap64 (t689 + 1)) = j_ := ⟨_, rfl⟩
 replace H : (if 0 ≤ (ji25) then (if (ji25) ≤ (a1.size : Int) then (if ((a1.extract 0 (t689 : Int).toNat) ++ t692).size + (a1.extract ((ji25) : Int).toNat a1.size).size ≤ 9223372036854775807 then (some (((a1.extract 0 (t689 : Int).toNat) ++ t692) ++ (a1.extract ((ji25) : Int).toNat a1.size), t693, t694)) else (none)) else (none)) else (none)) = some (r1, r2, r3) := by first | (rw [hji25] at H; exact H) | (simp only [hji25] at H ⊢; exact H)
 (try rw [hji25] at A20)
 (try rw [hji25] at A23)
 have hji25w : (IntKind.i64.wrap (t689 + 1)) = ji25 := (i64_w _).trans hji25
 by_cases c26 : 0 ≤ (ji25)
 rotate_left
 ·exact nn_ c26 H
 rw [if_pos c26] at H
 have c26b0 := eq_true c26
 have c26b1 : decide (0 ≤ (ji25)) = true := decide_eq_true c26
 clear c26
 by_cases c27 : (ji25) ≤ (a1.size : Int)
 rotate_left
 ·exact nn_ c27 H
 rw [if_pos c27] at H
 have c27b0 := eq_true c27
 have c27b1 : decide ((ji25) ≤ (a1.size : Int)) = true := decide_eq_true c27
 clear c27
 by_cases c28 : ((a1.extract 0 (t689 : Int).toNat) ++ t692).size + (a1.extract ((ji25) : Int).toNat a1.size).size ≤ 9223372036854775807
 rotate_left
 ·exact nn_ c28 H
 rw [if_pos c28] at H
 have c28b0 := eq_true c28
 have c28b1 : decide (((a1.extract 0 (t689 : Int).toNat) ++ t692).size + (a1.extract ((ji25) : Int).toNat a1.size).size ≤ 9223372036854775807) = true := decide_eq_true c28
 try have c28b2 : (9223372036854775807 < ((a1.extract 0 (t689 : Int).toNat) ++ t692).size + (a1.extract ((ji25) : Int).toNat a1.size).size) = False := eq_false (Nat.not_lt.2 c28)
 try have c28b3 : (9223372036854775807 < (a1.extract 0 (t689 : Int).toNat).size + t692.size + (a1.extract ((ji25) : Int).toNat a1.size).size) = False := eq_false (by have h_ := c28; (repeat rw [ByteArray.size_append] at h_); exact Nat.not_lt.2 h_)
 try have c28b4 : (9223372036854775807 < (t689 : Int).toNat + t692.size + (a1.size - ((ji25) : Int).toNat)) = False := eq_false (by have h_ := c28; simp only [ByteArray.size_append, ByteArray.size_extract] at h_; have q0_ : (t689 : Int) ≤ (a1.size : Int) := of_decide_eq_true as_; omega)
 simp only [Option.some.injEq, Prod.mk.injEq] at H
 obtain ⟨rfl, rfl, rfl⟩ := H
 try go_wp2_with (first | ((with_reducible refine gate_callee (f := 64) rfl ?_); refine gs_ (some 32) Tryd.func64 #[.pointer (some ⟨g, 0, none⟩), .int .i64 (a1.size : Int)] ?_; (with_reducible refine (spec_l01Below.calls g s0_0 t681 t682 (a1.size : Int) t689 t690 t691 w0 _ ?side1 ?side2 A20.out).mono ?_); (case side1 => exact is0_); (case side2 => exact bi0_); rintro e w29 ⟨rfl, hi, hb, hk⟩; refine ⟨_, rfl, ?_⟩; replace HK := Aside0.mk (KeepBut.trans hkx_ hk (.inl rfl)); replace HB := Aside0.mk (hb); replace HI0 := Aside0.mk (hi); (try clear hb); (try clear hk); (try clear hi)))
 have n0_ := Aside0.mk (IsS100.drew HI0.out)
 have n1_ := Aside0.mk (keep_drew HK.out)
 have n2_ := Aside0.mk (below_drew1 HB.out)
 clear HI0
 clear HK
 clear HB
 have HI0 := n0_
 have HK := n1_
 have HB := n2_
 clear n0_ n1_ n2_
 refine start_ (n := 12) (S := fun w' => True) (ds := []) #[false, false, false, false, false, false, false, false, false, false, false, false] (by kernel_rfl) rfl rfl trivial (fun hHeld => ?_); refine with_tabW spec_l02Spoilt.tab10 spec_l02Spoilt.bits10 (fun HT_ HW_ => ?_)
 generalize w29.drew = w30 at HI0 HK HB hHeld ⊢
 refine pu_ 0 33 HT_ ?_
 refine pu_ 1 34 HT_ ?_
 refine pu_ 2 35 HT_ ?_
 refine pu_ 3 36 HT_ ?_
 refine pu_ 6 39 HT_ ?_
 refine pu_ 7 40 HT_ ?_
 refine pu_ 8 41 HT_ ?_
 refine pu_ 9 42 HT_ ?_
 refine on_ 4 37 HT_ (fun K hK => ?_)
 refine goes_ Tryd.func104 (by kernel_rfl) rfl #[.pointer (some ⟨g, 0, none⟩), .int .i64 1] (by rfl) rfl rfl lm_ ?_
 with_reducible refine (spec_l01Text.calls kj14 g s0_0 t690 t691 1 t692 t693 t694 w0 _ ?side1 ?side2 A23.out).mono ?_
 (case side1 => exact is0_)
 (case side2 => exact bi0_)
 rintro e w31 ⟨rfl, hi, hb, hk⟩
 refine ⟨_, rfl, ?_⟩
 have n0_ := Aside0.mk (KeepBut.trans hkx_ hk (.inl rfl))
 have n1_ := Aside0.mk (hb)
 have n2_ := Aside0.mk (hi)
 clear HK
 clear HB
 clear HI0
 have HK := n0_
 have HB := n1_
 have HI0 := n2_
 clear n0_ n1_ n2_
 (try clear hb)
 (try clear hb2)
 (try clear hk)
 (try clear hi)
 refine hK.out _ _ trivial (fun hHeld => ?_)
 clear hK K
 refine norm_ (a' := ?_) ?_ ?_
 rotate_left
 ·show Act.put _ (some 37) _ = _
  simp only [Act.put, List.setIfInBounds_toArray, List.set_cons_zero, List.set_cons_succ, i64_w, i32_w]
  rfl
 refine pu_ 5 38 HT_ ?_
 refine pu_ 10 43 HT_ ?_
 refine pu_ 11 4 HT_ ?_
 refine done_ (done_of HT_.out (by kernel_rfl)) ?_
 try go_wp2
 go_ret
 exact ⟨by first | rfl | (simp [errW_none, errW_some] <;> rfl) | (simp only [← hji25]; first | rfl | (simp [errW_none, errW_some] <;> rfl)) | (simp [*, errW_none, errW_some] <;> rfl) | exact False.elim (Bool.noConfusion ((decide_eq_true (of_eq_true (by assumption))).symm.trans (by assumption))), is0_, bi0_, hkx_⟩


mutual
def impl_ReadVar.l0 : Nat → ByteArray → Int → Int → Int → Option (Int × Int × Bool)
 | 0, _, _, _, _ => none
 | k + 1, x0, x1, x7, x8 => if x8 < 5 then (impl_ReadVar.j1 k x0 x1 x7 x8 (decide ((wrap64 (x1 + x8)) < (x0.size : Int)))) else (impl_ReadVar.j1 k x0 x1 x7 x8 false)
def impl_ReadVar.j1 : Nat → ByteArray → Int → Int → Int → Bool → Option (Int × Int × Bool)
 | 0, _, _, _, _, _ => none
 | k + 1, x0, x1, x7, x8, x25 => if x25 = true then (if 0 ≤ (wrap64 (x1 + x8)) then (if (wrap64 (x1 + x8)) < (x0.size : Int) then (if 0 ≤ (wrap64 (7 * x8)) then (if (bt x0 (wrap64 (x1 + x8))) > 127 then (impl_ReadVar.l0 k x0 x1 (Go.bits .or .i64 x7 (shl .i64 (wrap64 (Go.bits .and .u8 (bt x0 (wrap64 (x1 + x8))) 127)) (wrap64 (7 * x8)))) (wrap64 (x8 + 1))) else ((impl_VarText.f k (Go.bits .or .i64 x7 (shl .i64 (wrap64 (Go.bits .and .u8 (bt x0 (wrap64 (x1 + x8))) 127)) (wrap64 (7 * x8))))).bind fun bt713 => (if bt713.2 = true then (if 0 ≤ x1 then (if x1 ≤ (wrap64 ((wrap64 (x1 + x8)) + 1)) then (if (wrap64 ((wrap64 (x1 + x8)) + 1)) ≤ (x0.size : Int) then (if bt713.1.toList = (x0.extract (x1 : Int).toNat ((wrap64 ((wrap64 (x1 + x8)) + 1)) : Int).toNat).toList then (some (Go.bits .or .i64 x7 (shl .i64 (wrap64 (Go.bits .and .u8 (bt x0 (wrap64 (x1 + x8))) 127)) (wrap64 (7 * x8))), wrap64 ((wrap64 (x1 + x8)) + 1), true)) else (some (0, 0, false))) else (none)) else (none)) else (none)) else (some (0, 0, false))))) else (none)) else (none)) else (none)) else (some (0, 0, false))
end
def impl_ReadVar.f (k : Nat) (a0 : ByteArray) (a1 : Int) : Option (Int × Int × Bool) := (impl_within.f a1 0 (a0.size : Int)).bind fun t712 => (if t712 = true then (impl_ReadVar.l0 k a0 a1 0 0) else (some (0, 0, false)))
theorem impl_ReadVar.mono_l : ∀ k, (∀ y0 y1 y2 y3, LeO (impl_ReadVar.l0 k y0 y1 y2 y3) (impl_ReadVar.l0 (k + 1) y0 y1 y2 y3)) ∧ (∀ y0 y1 y2 y3 y4, LeO (impl_ReadVar.j1 k y0 y1 y2 y3 y4) (impl_ReadVar.j1 (k + 1) y0 y1 y2 y3 y4))
 | 0 => ⟨fun _ _ _ _ r h => by simp [impl_ReadVar.l0] at h, fun _ _ _ _ _ r h => by simp [impl_ReadVar.j1] at h⟩
 | k + 1 => by
  obtain ⟨ih0, ih1⟩ := impl_ReadVar.mono_l k
  refine ⟨?_, ?_⟩
  ·intro y0 y1 y2 y3
   unfold impl_ReadVar.l0
   have m0 := @impl_VarText.mono
   exact mo_
  ·intro y0 y1 y2 y3 y4
   unfold impl_ReadVar.j1
   have m0 := @impl_VarText.mono
   exact mo_
theorem impl_ReadVar.mono : ∀ a0 a1 k, LeO (impl_ReadVar.f k a0 a1) (impl_ReadVar.f (k + 1) a0 a1) := by
 intro a0 a1 k
 obtain ⟨ih0, ih1⟩ := impl_ReadVar.mono_l k
 unfold impl_ReadVar.f
 have m0 := @impl_VarText.mono
 exact mo_
theorem impl_ReadVar.calls (k : Nat) (a0 : ByteArray) (a1 : Int) (r1 : Int) (r2 : Int) (r3 : Bool) (w : World) (h : impl_ReadVar.f k a0 a1 = some (r1, r2, r3)) :
 Calls Tryd.prog 89 #[.string a0, .int .i64 a1] w fun e w' => e = .returned (.tuple #[.int .i64 r1, .int .i64 r2, .bool r3]) ∧ Below w.heap.size w w' := by
 have HB := Aside0.mk (Below.refl w.heap.size w)
 have H := h
 unfold impl_ReadVar.f at H
 clear h
 replace H := bs_ H
 obtain ⟨t712, A3, H⟩ := H
 try dsimp only at H
 by_cases c4 : t712 = true
 rotate_left
 ·replace c4 := Bool.eq_false_iff.mpr c4
  subst c4
  rw [nf_] at H
  simp only [Option.some.injEq, Prod.mk.injEq] at H
  obtain ⟨rfl, rfl, rfl⟩ := H
  go_enter Tryd.func89, Tryd.ntmps89
  go_wp2_with (first | ((with_reducible refine gate_callee (f := 60) rfl ?_); refine gs_ (some 14) Tryd.func60 #[.int .i64 a1, .int .i64 0, .int .i64 (a0.size : Int)] ?_; (with_reducible refine (impl_within.calls a1 0 (a0.size : Int) false _ A3.out).mono ?_); rintro e w' ⟨rfl, ⟨nd, rfl⟩⟩; refine ⟨_, rfl, ?_⟩))
  go_ret3
  exact ⟨er_, bl_⟩
 subst c4
 rw [if_pos rfl] at H
 have H' := Aside0.mk H
 clear H
 go_enter Tryd.func89, Tryd.ntmps89
 go_wp2_with (first | ((with_reducible refine gate_callee (f := 60) rfl ?_); refine gs_ (some 14) Tryd.func60 #[.int .i64 a1, .int .i64 0, .int .i64 (a0.size : Int)] ?_; (with_reducible refine (impl_within.calls a1 0 (a0.size : Int) true _ A3.out).mono ?_); rintro e w' ⟨rfl, ⟨nd, rfl⟩⟩; refine ⟨_, rfl, ?_⟩))
 go_loopg [7, 8] k (fun kq v7 v8 w' => ∃ (x7_1 : Int) (x8_1 : Int), v7 = .int .i64 x7_1 ∧ v8 = .int .i64 x8_1 ∧ Aside0 (impl_ReadVar.l0 kq a0 a1 x7_1 x8_1 = some (r1, r2, r3)) ∧ Aside0 (kq ≤ k) ∧ Aside0 (Below w.heap.size w w'))
 case atStart => exact ⟨(0), (0), (sr_), (sr_), H', ⟨Nat.le_refl _⟩, ⟨bl_⟩⟩
 clear H'
 try clear c4
 obtain ⟨x7_1, x8_1, rfl, rfl, HA, HK1, HB⟩ := hrel
 cases gk with
 | zero => exact absurd HA.out (by simp [impl_ReadVar.l0])
 | succ k1 => ?_
 have H := HA.out
 clear HA
 simp only [impl_ReadVar.l0] at H
 have HC5 := Aside0.mk H
 clear H
 go_upto_region 5 with (fail)
 go_cut [25] (fun v25 wc => ∃ (kq : Nat) (x25_4 : Bool), v25 = .bool x25_4 ∧ Aside0 (impl_ReadVar.j1 kq a0 a1 x7_1 x8_1 x25_4 = some (r1, r2, r3)) ∧ Aside0 (kq ≤ k1) ∧ Aside0 (Below w.heap.size w wc))
 case first =>
  have H := HC5.out
  clear HC5
  by_cases c6 : x8_1 < 5
  rotate_left
  ·rw [if_neg c6] at H
   have c6b0 := decide_eq_false c6
   clear c6
   (first | rw [c6b0] | (simp only [i64_w, i32_w]; rw [c6b0]) | skip)
   have H' := Aside0.mk H
   clear H
   go_wp2
   go_meet
   case rel => exact ⟨_, (false), (sr_), H', ⟨by have := HK1.out; first | omega | exact Nat.le_refl _⟩, ⟨bl_⟩⟩
  rw [if_pos c6] at H
  have c6b0 := decide_eq_true c6
  clear c6
  (first | rw [c6b0] | (simp only [i64_w, i32_w]; rw [c6b0]) | skip)
  have H' := Aside0.mk H
  clear H
  go_wp2
  go_meet
  case rel => exact ⟨_, (decide ((wrap64 (a1 + x8_1)) < (a0.size : Int))), (sr_), H', ⟨by have := HK1.out; first | omega | exact Nat.le_refl _⟩, ⟨bl_⟩⟩
 clear HC5
 try clear c4
 obtain ⟨kq, x25_4, rfl, HA, HJ4, HB⟩ := hcut
 cases kq with
 | zero => exact absurd HA.out (by simp [impl_ReadVar.j1])
 | succ kj4 => ?_
 have H := HA.out
 clear HA
 simp only [impl_ReadVar.j1] at H
 by_cases c7 : x25_4 = true
 rotate_left
 ·replace c7 := Bool.eq_false_iff.mpr c7
  subst c7
  rw [nf_] at H
  simp only [Option.some.injEq, Prod.mk.injEq] at H
  obtain ⟨rfl, rfl, rfl⟩ := H
  go_wp2
  go_ret3
  exact ⟨er_, bl_⟩
 subst c7
 rw [if_pos rfl] at H
 obtain ⟨ji8, hji8⟩ : ∃ j_ : Int, (wrap64 (a1 + x8_1)) = j_ := ⟨_, rfl⟩
 replace H : (if 0 ≤ (ji8) then (if (ji8) < (a0.size : Int) then (if 0 ≤ (wrap64 (7 * x8_1)) then (if (bt a0 (ji8)) > 127 then (impl_ReadVar.l0 kj4 a0 a1 (Go.bits .or .i64 x7_1 (shl .i64 (wrap64 (Go.bits .and .u8 (bt a0 (ji8)) 127)) (wrap64 (7 * x8_1)))) (wrap64 (x8_1 + 1))) else ((impl_VarText.f kj4 (Go.bits .or .i64 x7_1 (shl .i64 (wrap64 (Go.bits .and .u8 (bt a0 (ji8)) 127)) (wrap64 (7 * x8_1))))).bind fun bt713 => (if bt713.2 = true then (if 0 ≤ a1 then (if a1 ≤ (wrap64 ((ji8) + 1)) then (if (wrap64 ((ji8) + 1)) ≤ (a0.size : Int) then (if bt713.1.toList = (a0.extract (a1 : Int).toNat ((wrap64 ((ji8) + 1)) : Int).toNat).toList then (some (Go.bits .or .i64 x7_1 (shl .i64 (wrap64 (Go.bits .and .u8 (bt a0 (ji8)) 127)) (wrap64 (7 * x8_1))), wrap64 ((ji8) + 1), true)) else (some (0, 0, false))) else (none)) else (none)) else (none)) else (some (0, 0, false))))) else (none)) else (none)) else (none)) = some (r1, r2, r3) := by first | (rw [hji8] at H; exact H) | (simp only [hji8] at H ⊢; exact H)
 have hji8w : (IntKind.i64.wrap (a1 + x8_1)) = ji8 := (i64_w _).trans hji8
 by_cases c9 : 0 ≤ (ji8)
 rotate_left
 ·exact nn_ c9 H
 rw [if_pos c9] at H
 have c9b0 := decide_eq_true c9
 clear c9
 by_cases c10 : (ji8) < (a0.size : Int)
 rotate_left
 ·exact nn_ c10 H
 rw [if_pos c10] at H
 have c10b0 := decide_eq_true c10
 clear c10
 obtain ⟨ji12, hji12⟩ : ∃ j_ : Int, (wrap64 (7 * x8_1)) = j_ := ⟨_, rfl⟩
 replace H : (if 0 ≤ (ji12) then (if (bt a0 (ji8)) > 127 then (impl_ReadVar.l0 kj4 a0 a1 (Go.bits .or .i64 x7_1 (shl .i64 (wrap64 (Go.bits .and .u8 (bt a0 (ji8)) 127)) (ji12))) (wrap64 (x8_1 + 1))) else ((impl_VarText.f kj4 (Go.bits .or .i64 x7_1 (shl .i64 (wrap64 (Go.bits .and .u8 (bt a0 (ji8)) 127)) (ji12)))).bind fun bt713 => (if bt713.2 = true then (if 0 ≤ a1 then (if a1 ≤ (wrap64 ((ji8) + 1)) then (if (wrap64 ((ji8) + 1)) ≤ (a0.size : Int) then (if bt713.1.toList = (a0.extract (a1 : Int).toNat ((wrap64 ((ji8) + 1)) : Int).toNat).toList then (some (Go.bits .or .i64 x7_1 (shl .i64 (wrap64 (Go.bits .and .u8 (bt a0 (ji8)) 127)) (ji12)), wrap64 ((ji8) + 1), true)) else (some (0, 0, false))) else (none)) else (none)) else (none)) else (some (0, 0, false))))) else (none)) = some (r1, r2, r3) := by first | (rw [hji12] at H; exact H) | (simp only [hji12] at H ⊢; exact H)
 have hji12w : (IntKind.i64.wrap (7 * x8_1)) = ji12 := (i64_w _).trans hji12
 by_cases c13 : 0 ≤ (ji12)
 rotate_left
 ·exact nn_ c13 H
 rw [if_pos c13] at H
 have c13b0 := eq_true c13
 have c13b1 : decide (0 ≤ (ji12)) = true := decide_eq_true c13
 clear c13
 obtain ⟨ji14, hji14⟩ : ∃ j_ : Int, (shl .i64 (wrap64 (Go.bits .and .u8 (bt a0 (ji8)) 127)) (ji12)) = j_ := ⟨_, rfl⟩
 replace H : (if (bt a0 (ji8)) > 127 then (impl_ReadVar.l0 kj4 a0 a1 (Go.bits .or .i64 x7_1 (ji14)) (wrap64 (x8_1 + 1))) else ((impl_VarText.f kj4 (Go.bits .or .i64 x7_1 (ji14))).bind fun bt713 => (if bt713.2 = true then (if 0 ≤ a1 then (if a1 ≤ (wrap64 ((ji8) + 1)) then (if (wrap64 ((ji8) + 1)) ≤ (a0.size : Int) then (if bt713.1.toList = (a0.extract (a1 : Int).toNat ((wrap64 ((ji8) + 1)) : Int).toNat).toList then (some (Go.bits .or .i64 x7_1 (ji14), wrap64 ((ji8) + 1), true)) else (some (0, 0, false))) else (none)) else (none)) else (none)) else (some (0, 0, false))))) = some (r1, r2, r3) := by first | (rw [hji14] at H; exact H) | (simp only [hji14] at H ⊢; exact H)
 have hji14_ : (IntKind.i64.wrap ((wrap64 (Go.bits .and .u8 (bt a0 (ji8)) 127)) * 2 ^ min (ji12).toNat 64)) = ji14 := hji14
 have hji14z : (ji12) ≤ 64 → (IntKind.i64.wrap ((wrap64 (Go.bits .and .u8 (bt a0 (ji8)) 127)) * 2 ^ (ji12).toNat)) = ji14 := shl_small hji14
 have hji14y : (wrap64 ((wrap64 (Go.bits .and .u8 (bt a0 (ji8)) 127)) * 2 ^ min (ji12).toNat 64)) = ji14 := (i64_w _).symm.trans hji14_
 have hji14x : (ji12) ≤ 64 → (wrap64 ((wrap64 (Go.bits .and .u8 (bt a0 (ji8)) 127)) * 2 ^ (ji12).toNat)) = ji14 := fun h_ => (i64_w _).symm.trans (hji14z h_)
 by_cases c16 : (bt a0 (ji8)) > 127
 ·rw [if_pos c16] at H
  have c16b0 := decide_eq_true c16
  clear c16
  have H' := Aside0.mk H
  clear H
  have p11 : 0 ≤ ((ji8) : Int) := of_decide_eq_true as_
  have q11 : (ji8) < (a0.size : Int) := of_decide_eq_true as_
  have hx11 := bt_at a0 (ji8)
  replace p11 := eq_true p11
  replace q11 := eq_true q11
  have p15 : 0 ≤ ((ji8) : Int) := of_decide_eq_true as_
  have q15 : (ji8) < (a0.size : Int) := of_decide_eq_true as_
  have hx15 := bt_at a0 (ji8)
  replace p15 := eq_true p15
  replace q15 := eq_true q15
  go_wp2
  go_roundg kj4
  case measure => have := HK1.out; have := HJ4.out; omega
  case rel => exact ⟨(Go.bits .or .i64 x7_1 (ji14)), (wrap64 (x8_1 + 1)), (by first | rfl | (simp; done) | (simp only [← hji14] <;> (first | rfl | simp)) | (simp [*]; done)), (sr_), H', ⟨by have := HK1.out; have := HJ4.out; omega⟩, ⟨bl_⟩⟩
 rw [if_neg c16] at H
 have c16b0 := decide_eq_false c16
 clear c16
 replace H := bs_ H
 obtain ⟨⟨t713, t714⟩, A17, H⟩ := H
 try dsimp only at H
 by_cases c18 : t714 = true
 rotate_left
 ·replace c18 := Bool.eq_false_iff.mpr c18
  subst c18
  rw [nf_] at H
  simp only [Option.some.injEq, Prod.mk.injEq] at H
  obtain ⟨rfl, rfl, rfl⟩ := H
  have p11 : 0 ≤ ((ji8) : Int) := of_decide_eq_true as_
  have q11 : (ji8) < (a0.size : Int) := of_decide_eq_true as_
  have hx11 := bt_at a0 (ji8)
  replace p11 := eq_true p11
  replace q11 := eq_true q11
  have p15 : 0 ≤ ((ji8) : Int) := of_decide_eq_true as_
  have q15 : (ji8) < (a0.size : Int) := of_decide_eq_true as_
  have hx15 := bt_at a0 (ji8)
  replace p15 := eq_true p15
  replace q15 := eq_true q15
  go_wp2_with (first | ((with_reducible refine gate_callee (f := 84) rfl ?_); refine goesL_ (some 48) rfl rfl Tryd.func84 (by kernel_rfl) rfl #[.int .i64 (Go.bits .or .i64 x7_1 (ji14))] rfl (by (try simp only [List.map_toArray, List.map_cons, List.map_nil]); first | done | (simp only [hji14]; rfl) | rfl | (simp only [List.length_drop, List.length_take]; rfl)) ?_; (with_reducible refine (impl_VarText.calls kj4 (Go.bits .or .i64 x7_1 (ji14)) t713 false _ A17.out).mono ?_); rintro e w25 ⟨rfl, hb⟩; refine ⟨_, rfl, ?_⟩; replace HB := Aside0.mk (below_step bl_ hb); (try clear hb)))
  go_ret3
  exact ⟨by first | rfl | (simp [errW_none, errW_some] <;> rfl) | (simp only [← hji8, ← hji12, ← hji14]; first | rfl | (simp [errW_none, errW_some] <;> rfl)) | (simp [*, errW_none, errW_some] <;> rfl) | exact False.elim (Bool.noConfusion ((decide_eq_true (of_eq_true (by assumption))).symm.trans (by assumption))), bl_⟩
 subst c18
 rw [if_pos rfl] at H
 by_cases c19 : 0 ≤ a1
 rotate_left
 ·exact nn_ c19 H
 rw [if_pos c19] at H
 have c19b0 := eq_true c19
 have c19b1 : decide (0 ≤ a1) = true := decide_eq_true c19
 clear c19
 by_cases c20 : a1 ≤ (wrap64 ((ji8) + 1))
 rotate_left
 ·exact nn_ c20 H
 rw [if_pos c20] at H
 have c20b0 := eq_true c20
 have c20b1 : decide (a1 ≤ (wrap64 ((ji8) + 1))) = true := decide_eq_true c20
 by_cases c21 : (wrap64 ((ji8) + 1)) ≤ (a0.size : Int)
 rotate_left
 ·exact nn_ c21 H
 rw [if_pos c21] at H
 have c21b0 := eq_true c21
 have c21b1 : decide ((wrap64 ((ji8) + 1)) ≤ (a0.size : Int)) = true := decide_eq_true c21
 by_cases c22 : t713.toList = (a0.extract (a1 : Int).toNat ((wrap64 ((ji8) + 1)) : Int).toNat).toList
 rotate_left
 ·rw [if_neg c22] at H
  have c22b0 : (t713.toList == (a0.extract (a1 : Int).toNat ((wrap64 ((ji8) + 1)) : Int).toNat).toList) = false := beq_eq_false_iff_ne.mpr c22
  have c22b1 : (t713.toList != (a0.extract (a1 : Int).toNat ((wrap64 ((ji8) + 1)) : Int).toNat).toList) = true := bne_iff_ne.mpr c22
  simp only [Option.some.injEq, Prod.mk.injEq] at H
  obtain ⟨rfl, rfl, rfl⟩ := H
  have p11 : 0 ≤ ((ji8) : Int) := of_decide_eq_true as_
  have q11 : (ji8) < (a0.size : Int) := of_decide_eq_true as_
  have hx11 := bt_at a0 (ji8)
  replace p11 := eq_true p11
  replace q11 := eq_true q11
  have p15 : 0 ≤ ((ji8) : Int) := of_decide_eq_true as_
  have q15 : (ji8) < (a0.size : Int) := of_decide_eq_true as_
  have hx15 := bt_at a0 (ji8)
  replace p15 := eq_true p15
  replace q15 := eq_true q15
  go_wp2_with (first | ((with_reducible refine gate_callee (f := 84) rfl ?_); refine goesL_ (some 48) rfl rfl Tryd.func84 (by kernel_rfl) rfl #[.int .i64 (Go.bits .or .i64 x7_1 (ji14))] rfl (by (try simp only [List.map_toArray, List.map_cons, List.map_nil]); first | done | (simp only [hji14]; rfl) | rfl | (simp only [List.length_drop, List.length_take]; rfl)) ?_; (with_reducible refine (impl_VarText.calls kj4 (Go.bits .or .i64 x7_1 (ji14)) t713 true _ A17.out).mono ?_); rintro e w24 ⟨rfl, hb⟩; refine ⟨_, rfl, ?_⟩; replace HB := Aside0.mk (below_step bl_ hb); (try clear hb)))
  go_ret3
  exact ⟨by first | rfl | (simp [errW_none, errW_some] <;> rfl) | (simp only [← hji8, ← hji12, ← hji14]; first | rfl | (simp [errW_none, errW_some] <;> rfl)) | (simp [*, errW_none, errW_some] <;> rfl) | exact False.elim (Bool.noConfusion ((decide_eq_true (of_eq_true (by assumption))).symm.trans (by assumption))), bl_⟩
 rw [if_pos c22] at H
 have c22b0 : (t713.toList == (a0.extract (a1 : Int).toNat ((wrap64 ((ji8) + 1)) : Int).toNat).toList) = true := beq_iff_eq.mpr c22
 have c22b1 : (t713.toList != (a0.extract (a1 : Int).toNat ((wrap64 ((ji8) + 1)) : Int).toNat).toList) = false := bne_eq_false_iff_eq.mpr c22
 clear c22
 simp only [Option.some.injEq, Prod.mk.injEq] at H
 obtain ⟨rfl, rfl, rfl⟩ := H
 have p11 : 0 ≤ ((ji8) : Int) := of_decide_eq_true as_
 have q11 : (ji8) < (a0.size : Int) := of_decide_eq_true as_
 have hx11 := bt_at a0 (ji8)
 replace p11 := eq_true p11
 replace q11 := eq_true q11
 have p15 : 0 ≤ ((ji8) : Int) := of_decide_eq_true as_
 have q15 : (ji8) < (a0.size : Int) := of_decide_eq_true as_
 have hx15 := bt_at a0 (ji8)
 replace p15 := eq_true p15
 replace q15 := eq_true q15
 go_wp2_with (first | ((with_reducible refine gate_callee (f := 84) rfl ?_); refine goesL_ (some 48) rfl rfl Tryd.func84 (by kernel_rfl) rfl #[.int .i64 (Go.bits .or .i64 x7_1 (ji14))] rfl (by (try simp only [List.map_toArray, List.map_cons, List.map_nil]); first | done | (simp only [hji14]; rfl) | rfl | (simp only [List.length_drop, List.length_take]; rfl)) ?_; (with_reducible refine (impl_VarText.calls kj4 (Go.bits .or .i64 x7_1 (ji14)) t713 true _ A17.out).mono ?_); rintro e w23 ⟨rfl, hb⟩; refine ⟨_, rfl, ?_⟩; replace HB := Aside0.mk (below_step bl_ hb); (try clear hb)))
 go_ret3
 exact ⟨by first | rfl | (simp [errW_none, errW_some] <;> rfl) | (simp only [← hji8, ← hji12, ← hji14]; first | rfl | (simp [errW_none, errW_some] <;> rfl)) | (simp [*, errW_none, errW_some] <;> rfl) | exact False.elim (Bool.noConfusion ((decide_eq_true (of_eq_true (by assumption))).symm.trans (by assumption))), bl_⟩


def impl_ReadShort.f (k : Nat) (a0 : ByteArray) (a1 : Int) : Option (ByteArray × Int × Bool) := (impl_ReadVar.f k a0 a1).bind fun bt715 => (if bt715.2.2 = true then (if bt715.1 > 20000 then (some ((⟨#[]⟩ : ByteArray), 0, false)) else (if bt715.1 > (wrap64 ((a0.size : Int) - bt715.2.1)) then (some ((⟨#[]⟩ : ByteArray), 0, false)) else (if 0 ≤ bt715.2.1 then (if bt715.2.1 ≤ (wrap64 (bt715.2.1 + bt715.1)) then (if (wrap64 (bt715.2.1 + bt715.1)) ≤ (a0.size : Int) then (some (a0.extract (bt715.2.1 : Int).toNat ((wrap64 (bt715.2.1 + bt715.1)) : Int).toNat, wrap64 (bt715.2.1 + bt715.1), true)) else (none)) else (none)) else (none)))) else (some ((⟨#[]⟩ : ByteArray), 0, false)))
theorem impl_ReadShort.mono : ∀ a0 a1 k, LeO (impl_ReadShort.f k a0 a1) (impl_ReadShort.f (k + 1) a0 a1) := by
 intro a0 a1 k
 unfold impl_ReadShort.f
 have m0 := @impl_ReadVar.mono
 exact mo_
theorem impl_ReadShort.calls (k : Nat) (a0 : ByteArray) (a1 : Int) (r1 : ByteArray) (r2 : Int) (r3 : Bool) (w : World) (h : impl_ReadShort.f k a0 a1 = some (r1, r2, r3)) :
 Calls Tryd.prog 75 #[.string a0, .int .i64 a1] w fun e w' => e = .returned (.tuple #[.string r1, .int .i64 r2, .bool r3]) ∧ Below w.heap.size w w' := by
 have HB := Aside0.mk (Below.refl w.heap.size w)
 have H := h
 unfold impl_ReadShort.f at H
 clear h
 replace H := bs_ H
 obtain ⟨⟨t715, t716, t717⟩, A3, H⟩ := H
 try dsimp only at H
 by_cases c4 : t717 = true
 rotate_left
 ·replace c4 := Bool.eq_false_iff.mpr c4
  subst c4
  rw [nf_] at H
  simp only [Option.some.injEq, Prod.mk.injEq] at H
  obtain ⟨rfl, rfl, rfl⟩ := H
  go_enter Tryd.func75, Tryd.ntmps75
  go_wp2_with (first | ((with_reducible refine gate_callee (f := 89) rfl ?_); refine gs_ (some 13) Tryd.func89 #[.string a0, .int .i64 a1] ?_; (with_reducible refine (impl_ReadVar.calls k a0 a1 t715 t716 false _ A3.out).mono ?_); rintro e w13 ⟨rfl, hb⟩; refine ⟨_, rfl, ?_⟩; replace HB := Aside0.mk (below_step bl_ hb); (try clear hb)))
  go_ret3
  exact ⟨er_, bl_⟩
 subst c4
 rw [if_pos rfl] at H
 by_cases c5 : t715 > 20000
 ·rw [if_pos c5] at H
  have c5b0 := decide_eq_true c5
  clear c5
  simp only [Option.some.injEq, Prod.mk.injEq] at H
  obtain ⟨rfl, rfl, rfl⟩ := H
  go_enter Tryd.func75, Tryd.ntmps75
  go_wp2_with (first | ((with_reducible refine gate_callee (f := 89) rfl ?_); refine gs_ (some 13) Tryd.func89 #[.string a0, .int .i64 a1] ?_; (with_reducible refine (impl_ReadVar.calls k a0 a1 t715 t716 true _ A3.out).mono ?_); rintro e w6 ⟨rfl, hb⟩; refine ⟨_, rfl, ?_⟩; replace HB := Aside0.mk (below_step bl_ hb); (try clear hb)))
  go_ret3
  exact ⟨er_, bl_⟩
 rw [if_neg c5] at H
 have c5b0 := decide_eq_false c5
 clear c5
 by_cases c7 : t715 > (wrap64 ((a0.size : Int) - t716))
 ·rw [if_pos c7] at H
  have c7b0 := decide_eq_true c7
  clear c7
  simp only [Option.some.injEq, Prod.mk.injEq] at H
  obtain ⟨rfl, rfl, rfl⟩ := H
  go_enter Tryd.func75, Tryd.ntmps75
  go_wp2_with (first | ((with_reducible refine gate_callee (f := 89) rfl ?_); refine gs_ (some 13) Tryd.func89 #[.string a0, .int .i64 a1] ?_; (with_reducible refine (impl_ReadVar.calls k a0 a1 t715 t716 true _ A3.out).mono ?_); rintro e w8 ⟨rfl, hb⟩; refine ⟨_, rfl, ?_⟩; replace HB := Aside0.mk (below_step bl_ hb); (try clear hb)))
  go_ret3
  exact ⟨er_, bl_⟩
 rw [if_neg c7] at H
 have c7b0 := decide_eq_false c7
 clear c7
 by_cases c9 : 0 ≤ t716
 rotate_left
 ·exact nn_ c9 H
 rw [if_pos c9] at H
 have c9b0 := eq_true c9
 have c9b1 : decide (0 ≤ t716) = true := decide_eq_true c9
 clear c9
 by_cases c10 : t716 ≤ (wrap64 (t716 + t715))
 rotate_left
 ·exact nn_ c10 H
 rw [if_pos c10] at H
 have c10b0 := eq_true c10
 have c10b1 : decide (t716 ≤ (wrap64 (t716 + t715))) = true := decide_eq_true c10
 by_cases c11 : (wrap64 (t716 + t715)) ≤ (a0.size : Int)
 rotate_left
 ·exact nn_ c11 H
 rw [if_pos c11] at H
 have c11b0 := eq_true c11
 have c11b1 : decide ((wrap64 (t716 + t715)) ≤ (a0.size : Int)) = true := decide_eq_true c11
 simp only [Option.some.injEq, Prod.mk.injEq] at H
 obtain ⟨rfl, rfl, rfl⟩ := H
 go_enter Tryd.func75, Tryd.ntmps75
 go_wp2_with (first | ((with_reducible refine gate_callee (f := 89) rfl ?_); refine gs_ (some 13) Tryd.func89 #[.string a0, .int .i64 a1] ?_; (with_reducible refine (impl_ReadVar.calls k a0 a1 t715 t716 true _ A3.out).mono ?_); rintro e w12 ⟨rfl, hb⟩; refine ⟨_, rfl, ?_⟩; replace HB := Aside0.mk (below_step bl_ hb); (try clear hb)))
 go_ret3
 exact ⟨er_, bl_⟩


def impl_fourAt.f (a0 : ByteArray) (a1 : Int) : Option (Int) := if 0 ≤ a1 then (if a1 < (a0.size : Int) then (if 0 ≤ (wrap64 (a1 + 1)) then (if (wrap64 (a1 + 1)) < (a0.size : Int) then (if 0 ≤ (wrap64 (a1 + 2)) then (if (wrap64 (a1 + 2)) < (a0.size : Int) then (if 0 ≤ (wrap64 (a1 + 3)) then (if (wrap64 (a1 + 3)) < (a0.size : Int) then (some (Go.bits .or .i64 (Go.bits .or .i64 (Go.bits .or .i64 (wrap64 ((wrap64 (bt a0 a1)) * 16777216)) (wrap64 ((wrap64 (bt a0 (wrap64 (a1 + 1)))) * 65536))) (wrap64 ((wrap64 (bt a0 (wrap64 (a1 + 2)))) * 256))) (wrap64 (bt a0 (wrap64 (a1 + 3)))))) else (none)) else (none)) else (none)) else (none)) else (none)) else (none)) else (none)) else (none)
theorem impl_fourAt.calls (a0 : ByteArray) (a1 : Int) (r : Int) (w : World) (h : impl_fourAt.f a0 a1 = some r) :
 Calls Tryd.prog 105 #[.string a0, .int .i64 a1] w fun e w' => e = .returned (.int .i64 r) ∧ Drawn0 w w' := by
 have H := h
 unfold impl_fourAt.f at H
 clear h
 by_cases c3 : 0 ≤ a1
 rotate_left
 ·exact nn_ c3 H
 rw [if_pos c3] at H
 have c3b0 := decide_eq_true c3
 clear c3
 by_cases c4 : a1 < (a0.size : Int)
 rotate_left
 ·exact nn_ c4 H
 rw [if_pos c4] at H
 have c4b0 := decide_eq_true c4
 clear c4
 obtain ⟨ji6, hji6⟩ : ∃ j_ : Int, (wrap64 (a1 + 1)) = j_ := ⟨_, rfl⟩
 replace H : (if 0 ≤ (ji6) then (if (ji6) < (a0.size : Int) then (if 0 ≤ (wrap64 (a1 + 2)) then (if (wrap64 (a1 + 2)) < (a0.size : Int) then (if 0 ≤ (wrap64 (a1 + 3)) then (if (wrap64 (a1 + 3)) < (a0.size : Int) then (some (Go.bits .or .i64 (Go.bits .or .i64 (Go.bits .or .i64 (wrap64 ((wrap64 (bt a0 a1)) * 16777216)) (wrap64 ((wrap64 (bt a0 (ji6))) * 65536))) (wrap64 ((wrap64 (bt a0 (wrap64 (a1 + 2)))) * 256))) (wrap64 (bt a0 (wrap64 (a1 + 3)))))) else (none)) else (none)) else (none)) else (none)) else (none)) else (none)) = some r := by first | (rw [hji6] at H; exact H) | (simp only [hji6] at H ⊢; exact H)
 have hji6w : (IntKind.i64.wrap (a1 + 1)) = ji6 := (i64_w _).trans hji6
 by_cases c7 : 0 ≤ (ji6)
 rotate_left
 ·exact nn_ c7 H
 rw [if_pos c7] at H
 have c7b0 := decide_eq_true c7
 clear c7
 by_cases c8 : (ji6) < (a0.size : Int)
 rotate_left
 ·exact nn_ c8 H
 rw [if_pos c8] at H
 have c8b0 := decide_eq_true c8
 clear c8
 obtain ⟨ji10, hji10⟩ : ∃ j_ : Int, (wrap64 (a1 + 2)) = j_ := ⟨_, rfl⟩
 replace H : (if 0 ≤ (ji10) then (if (ji10) < (a0.size : Int) then (if 0 ≤ (wrap64 (a1 + 3)) then (if (wrap64 (a1 + 3)) < (a0.size : Int) then (some (Go.bits .or .i64 (Go.bits .or .i64 (Go.bits .or .i64 (wrap64 ((wrap64 (bt a0 a1)) * 16777216)) (wrap64 ((wrap64 (bt a0 (ji6))) * 65536))) (wrap64 ((wrap64 (bt a0 (ji10))) * 256))) (wrap64 (bt a0 (wrap64 (a1 + 3)))))) else (none)) else (none)) else (none)) else (none)) = some r := by first | (rw [hji10] at H; exact H) | (simp only [hji10] at H ⊢; exact H)
 have hji10w : (IntKind.i64.wrap (a1 + 2)) = ji10 := (i64_w _).trans hji10
 by_cases c11 : 0 ≤ (ji10)
 rotate_left
 ·exact nn_ c11 H
 rw [if_pos c11] at H
 have c11b0 := decide_eq_true c11
 clear c11
 by_cases c12 : (ji10) < (a0.size : Int)
 rotate_left
 ·exact nn_ c12 H
 rw [if_pos c12] at H
 have c12b0 := decide_eq_true c12
 clear c12
 obtain ⟨ji14, hji14⟩ : ∃ j_ : Int, (wrap64 (a1 + 3)) = j_ := ⟨_, rfl⟩
 replace H : (if 0 ≤ (ji14) then (if (ji14) < (a0.size : Int) then (some (Go.bits .or .i64 (Go.bits .or .i64 (Go.bits .or .i64 (wrap64 ((wrap64 (bt a0 a1)) * 16777216)) (wrap64 ((wrap64 (bt a0 (ji6))) * 65536))) (wrap64 ((wrap64 (bt a0 (ji10))) * 256))) (wrap64 (bt a0 (ji14))))) else (none)) else (none)) = some r := by first | (rw [hji14] at H; exact H) | (simp only [hji14] at H ⊢; exact H)
 have hji14w : (IntKind.i64.wrap (a1 + 3)) = ji14 := (i64_w _).trans hji14
 by_cases c15 : 0 ≤ (ji14)
 rotate_left
 ·exact nn_ c15 H
 rw [if_pos c15] at H
 have c15b0 := decide_eq_true c15
 clear c15
 by_cases c16 : (ji14) < (a0.size : Int)
 rotate_left
 ·exact nn_ c16 H
 rw [if_pos c16] at H
 have c16b0 := decide_eq_true c16
 clear c16
 obtain rfl := Option.some.inj H
 have p5 : 0 ≤ (a1 : Int) := of_decide_eq_true as_
 have q5 : a1 < (a0.size : Int) := of_decide_eq_true as_
 have hx5 := bt_at a0 a1
 replace p5 := eq_true p5
 replace q5 := eq_true q5
 have p9 : 0 ≤ ((ji6) : Int) := of_decide_eq_true as_
 have q9 : (ji6) < (a0.size : Int) := of_decide_eq_true as_
 have hx9 := bt_at a0 (ji6)
 replace p9 := eq_true p9
 replace q9 := eq_true q9
 have p13 : 0 ≤ ((ji10) : Int) := of_decide_eq_true as_
 have q13 : (ji10) < (a0.size : Int) := of_decide_eq_true as_
 have hx13 := bt_at a0 (ji10)
 replace p13 := eq_true p13
 replace q13 := eq_true q13
 have p17 : 0 ≤ ((ji14) : Int) := of_decide_eq_true as_
 have q17 : (ji14) < (a0.size : Int) := of_decide_eq_true as_
 have hx17 := bt_at a0 (ji14)
 replace p17 := eq_true p17
 replace q17 := eq_true q17
 go_enter Tryd.func105, Tryd.ntmps105
 go_wp2
 repeat (go_quiet (fail); try go_wp2)
 go_ret
 exact ⟨by first | rfl | (simp; done) | (simp only [← hji6, ← hji10, ← hji14] <;> (first | rfl | simp)) | (simp [*]; done), by repeat (first | exact Drawn0.refl _ | apply Drawn0.step)⟩


def impl_Unsealed.f (k : Nat) (a0 : ByteArray) : Option (ByteArray × Bool) := (impl_within.f (wrap64 ((a0.size : Int) - 4)) 0 20000).bind fun t718 => (if t718 = true then (if 0 ≤ (wrap64 ((a0.size : Int) - 4)) then (if (wrap64 ((a0.size : Int) - 4)) ≤ (a0.size : Int) then ((impl_SumOf.f k (a0.extract 0 ((wrap64 ((a0.size : Int) - 4)) : Int).toNat)).bind fun t719 => ((impl_fourAt.f a0 (wrap64 ((a0.size : Int) - 4))).bind fun t720 => (if (wrap64 (t719)) = t720 then (some (a0.extract 0 ((wrap64 ((a0.size : Int) - 4)) : Int).toNat, true)) else (some ((⟨#[]⟩ : ByteArray), false))))) else (none)) else (none)) else (some ((⟨#[]⟩ : ByteArray), false)))
theorem impl_Unsealed.mono : ∀ a0 k, LeO (impl_Unsealed.f k a0) (impl_Unsealed.f (k + 1) a0) := by
 intro a0 k
 unfold impl_Unsealed.f
 have m0 := @impl_SumOf.mono
 exact mo_
theorem impl_Unsealed.calls (k : Nat) (a0 : ByteArray) (r1 : ByteArray) (r2 : Bool) (w : World) (h : impl_Unsealed.f k a0 = some (r1, r2)) :
 Calls Tryd.prog 88 #[.string a0] w fun e w' => e = .returned (.tuple #[.string r1, .bool r2]) ∧ Drawn0 w w' := by
 have H := h
 unfold impl_Unsealed.f at H
 clear h
 replace H := bs_ H
 obtain ⟨t718, A2, H⟩ := H
 try dsimp only at H
 by_cases c3 : t718 = true
 rotate_left
 ·replace c3 := Bool.eq_false_iff.mpr c3
  subst c3
  rw [nf_] at H
  simp only [Option.some.injEq, Prod.mk.injEq] at H
  obtain ⟨rfl, rfl⟩ := H
  go_enter Tryd.func88, Tryd.ntmps88
  go_wp2_with (first | ((with_reducible refine gate_callee (f := 60) rfl ?_); refine gs_ (some 9) Tryd.func60 #[.int .i64 (wrap64 ((a0.size : Int) - 4)), .int .i64 0, .int .i64 20000] ?_; (with_reducible refine (impl_within.calls (wrap64 ((a0.size : Int) - 4)) 0 20000 false _ A2.out).mono ?_); rintro e w' ⟨rfl, ⟨nd, rfl⟩⟩; refine ⟨_, rfl, ?_⟩))
  go_ret2
  exact ⟨sr_, by repeat (first | exact Drawn0.refl _ | apply Drawn0.step)⟩
 subst c3
 rw [if_pos rfl] at H
 obtain ⟨ji4, hji4⟩ : ∃ j_ : Int, (wrap64 ((a0.size : Int) - 4)) = j_ := ⟨_, rfl⟩
 replace H : (if 0 ≤ (ji4) then (if (ji4) ≤ (a0.size : Int) then ((impl_SumOf.f k (a0.extract 0 ((ji4) : Int).toNat)).bind fun t719 => ((impl_fourAt.f a0 (ji4)).bind fun t720 => (if (wrap64 (t719)) = t720 then (some (a0.extract 0 ((ji4) : Int).toNat, true)) else (some ((⟨#[]⟩ : ByteArray), false))))) else (none)) else (none)) = some (r1, r2) := by first | (rw [hji4] at H; exact H) | (simp only [hji4] at H ⊢; exact H)
 (try rw [hji4] at A2)
 have hji4w : (IntKind.i64.wrap ((a0.size : Int) - 4)) = ji4 := (i64_w _).trans hji4
 by_cases c5 : 0 ≤ (ji4)
 rotate_left
 ·exact nn_ c5 H
 rw [if_pos c5] at H
 have c5b0 := eq_true c5
 have c5b1 : decide (0 ≤ (ji4)) = true := decide_eq_true c5
 clear c5
 by_cases c6 : (ji4) ≤ (a0.size : Int)
 rotate_left
 ·exact nn_ c6 H
 rw [if_pos c6] at H
 have c6b0 := eq_true c6
 have c6b1 : decide ((ji4) ≤ (a0.size : Int)) = true := decide_eq_true c6
 clear c6
 replace H := bs_ H
 obtain ⟨t719, A7, H⟩ := H
 try dsimp only at H
 replace H := bs_ H
 obtain ⟨t720, A8, H⟩ := H
 try dsimp only at H
 by_cases c9 : (wrap64 (t719)) = t720
 rotate_left
 ·rw [if_neg c9] at H
  have c9b0 : ((wrap64 (t719)) == t720) = false := beq_eq_false_iff_ne.mpr c9
  have c9b1 : ((wrap64 (t719)) != t720) = true := bne_iff_ne.mpr c9
  simp only [Option.some.injEq, Prod.mk.injEq] at H
  obtain ⟨rfl, rfl⟩ := H
  go_enter Tryd.func88, Tryd.ntmps88
  go_wp2_with (first | ((with_reducible refine gate_callee (f := 60) rfl ?_); refine goesL_ (some 9) rfl rfl Tryd.func60 (by kernel_rfl) rfl #[.int .i64 ji4, .int .i64 0, .int .i64 20000] rfl (by (try simp only [List.map_toArray, List.map_cons, List.map_nil]); first | done | (simp only [hji4]; rfl) | rfl | (simp only [List.length_drop, List.length_take]; rfl)) ?_; (with_reducible refine (impl_within.calls ji4 0 20000 true _ A2.out).mono ?_); rintro e w' ⟨rfl, ⟨nd, rfl⟩⟩; refine ⟨_, rfl, ?_⟩) | (go_at_call 110; (with_reducible refine (impl_SumOf.calls k (a0.extract 0 ((ji4) : Int).toNat) t719 _ A7.out).mono ?_); rintro e w' ⟨rfl, ⟨nd, rfl⟩⟩) | (go_at_call 105; (with_reducible refine (impl_fourAt.calls a0 ji4 t720 _ A8.out).mono ?_); rintro e w' ⟨rfl, ⟨nd, rfl⟩⟩))
  go_ret2
  exact ⟨by first | rfl | (simp; done) | (simp only [← hji4] <;> (first | rfl | simp)) | (simp [*]; done), by repeat (first | exact Drawn0.refl _ | apply Drawn0.step)⟩
 rw [if_pos c9] at H
 have c9b0 : ((wrap64 (t719)) == t720) = true := beq_iff_eq.mpr c9
 have c9b1 : ((wrap64 (t719)) != t720) = false := bne_eq_false_iff_eq.mpr c9
 clear c9
 have c10b0 := eq_true (of_decide_eq_true as_ : 0 ≤ (ji4))
 have c11b0 := eq_true (of_decide_eq_true as_ : (ji4) ≤ (a0.size : Int))
 simp only [Option.some.injEq, Prod.mk.injEq] at H
 obtain ⟨rfl, rfl⟩ := H
 go_enter Tryd.func88, Tryd.ntmps88
 go_wp2_with (first | ((with_reducible refine gate_callee (f := 60) rfl ?_); refine goesL_ (some 9) rfl rfl Tryd.func60 (by kernel_rfl) rfl #[.int .i64 ji4, .int .i64 0, .int .i64 20000] rfl (by (try simp only [List.map_toArray, List.map_cons, List.map_nil]); first | done | (simp only [hji4]; rfl) | rfl | (simp only [List.length_drop, List.length_take]; rfl)) ?_; (with_reducible refine (impl_within.calls ji4 0 20000 true _ A2.out).mono ?_); rintro e w' ⟨rfl, ⟨nd, rfl⟩⟩; refine ⟨_, rfl, ?_⟩) | (go_at_call 110; (with_reducible refine (impl_SumOf.calls k (a0.extract 0 ((ji4) : Int).toNat) t719 _ A7.out).mono ?_); rintro e w' ⟨rfl, ⟨nd, rfl⟩⟩) | (go_at_call 105; (with_reducible refine (impl_fourAt.calls a0 ji4 t720 _ A8.out).mono ?_); rintro e w' ⟨rfl, ⟨nd, rfl⟩⟩))
 go_ret2
 exact ⟨by first | rfl | (simp; done) | (simp only [← hji4] <;> (first | rfl | simp)) | (simp [*]; done), by repeat (first | exact Drawn0.refl _ | apply Drawn0.step)⟩

end Go.Proofs.YtdlapahfmfhbjaaDoor.PA
