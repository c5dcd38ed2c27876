/- Contracts of functions of the program and of the reference, and plain lemmas on what they compute: a part of the proof of the law FnExactReadScript. No condition. -/
import Derived.Test.YtjfmpodeenidnaaJFnExactReadScript1
import Derived.Test.YtjfmpodeenidnaaJFnExactReadScript5
import Derived.Test.YtjfmpodeenidnaaShortV
set_option maxHeartbeats 8000000
set_option maxRecDepth 100000
namespace Go.Proofs.Ytjfmpodeenidnaa.PA
open Go.RowKit Go.Proofs.Ytjfmpodeenidnaa.Short Go.Proofs.YtjfmpodeenidnaaW.PrintWords Go.Proofs.YtjfmpodeenidnaaW.PrintLast Go.Proofs.YtjfmpodeenidnaaW.PrintMore
attribute [local go_sem] max2_int min2_int max_two min_two max_three min_three max_four min_four   -- for this text's walks alone
set_option linter.unusedVariables false
set_option linter.unusedSimpArgs false

def impl_pushOf.l0 : Nat → Int → Bool → ByteArray → List ByteArray → Int → Int → Option (Int × Int × Int × Int × Int × (List (S98)) × ByteArray × Bool)
 | 0, _, _, _, _, _, _ => none
 | k + 1, x4, x5, x6, x22, x23, x24 => if x24 < x23 then (if 0 ≤ x24 then (if x24 < (x22.length : Int) then (if x24 > 0 then (if x6.size + 1 ≤ 9223372036854775807 then (if (x6 ++ (⟨#[32]⟩ : ByteArray)).size + (rdOf ByteArray.empty x22 x24).size ≤ 9223372036854775807 then (impl_pushOf.l0 k x4 x5 ((x6 ++ (⟨#[32]⟩ : ByteArray)) ++ (rdOf ByteArray.empty x22 x24)) x22 x23 (wrap64 (x24 + 1))) else (none)) else (none)) else (if x6.size + (rdOf ByteArray.empty x22 x24).size ≤ 9223372036854775807 then (impl_pushOf.l0 k x4 x5 (x6 ++ (rdOf ByteArray.empty x22 x24)) x22 x23 (wrap64 (x24 + 1))) else (none))) else (none)) else (none)) else (if x5 = true then ((impl_EventOk.f k 2 x4 0 0 0 ([] : List (S98)) x6).bind fun t300 => (some (2, x4, 0, 0, 0, ([] : List (S98)), x6, t300))) else (some (2, x4, 0, 0, 0, ([] : List (S98)), x6, false)))
def impl_pushOf.f (k : Nat) (l0 : List ByteArray) : Option (Int × Int × Int × Int × Int × (List (S98)) × ByteArray × Bool) := if (l0.length : Int) < 2 then (some (0, 0, 0, 0, 0, ([] : List (S98)), (⟨#[]⟩ : ByteArray), false)) else (if 1 < (l0.length : Int) then ((impl_ReadDecimal.f k (rdOf ByteArray.empty l0 1)).bind fun bt295 => (if 2 ≤ (l0.length : Int) then (impl_pushOf.l0 k bt295.1 bt295.2 (⟨#[]⟩ : ByteArray) (l0.drop 2) ((l0.drop 2).length : Int) 0) else (none))) else (none))
theorem impl_pushOf.mono_l : ∀ k, (∀ y0 y1 y2 y3 y4 y5, LeO (impl_pushOf.l0 k y0 y1 y2 y3 y4 y5) (impl_pushOf.l0 (k + 1) y0 y1 y2 y3 y4 y5))
 | 0 => fun _ _ _ _ _ _ r h => by simp [impl_pushOf.l0] at h
 | k + 1 => by
  have ih0 := impl_pushOf.mono_l k
  ·intro y0 y1 y2 y3 y4 y5
   unfold impl_pushOf.l0
   have m0 := @impl_EventOk.mono
   have m1 := @impl_ReadDecimal.mono
   exact mo_
theorem impl_pushOf.mono : ∀ a0 k, LeO (impl_pushOf.f k a0) (impl_pushOf.f (k + 1) a0) := by
 intro a0 k
 have ih0 := impl_pushOf.mono_l k
 unfold impl_pushOf.f
 have m0 := @impl_EventOk.mono
 have m1 := @impl_ReadDecimal.mono
 exact mo_
def impl_pushOf.T13 : Bool × List (List Nat × List Nat) := (true, [([], []), ([], []), ([1], [1]), ([2], [2]), ([3, 2, 2], [2, 3]), ([2, 4], [2, 4]), ([0, 4, 0], [0]), ([5, 6, 0, 1, 2, 3, 4, 5, 6], [5])])
def impl_pushOf.B13 : List Nat := [0, 0, 2, 6, 14, 30, 31, 127]
theorem impl_pushOf.tab13 : rtab .any (opsOf Try.f91 13) = impl_pushOf.T13 := by kernel_rfl
theorem impl_pushOf.bits13 : waitsOk impl_pushOf.T13.2 impl_pushOf.B13 = true := by kernel_rfl
theorem impl_pushOf.calls (k : Nat) (A0 : Option Addr) (c0 : Nat) (l0 : List ByteArray) (r1 : Int) (r2 : Int) (r3 : Int) (r4 : Int) (r5 : Int) (r6 : List (S98)) (r7 : ByteArray) (r8 : Bool) (w : World) (hr0 : Kd.C Kd.string w A0 l0.length l0) (hc0 : l0.length ≤ c0) (h : impl_pushOf.f k l0 = some (r1, r2, r3, r4, r5, r6, r7, r8)) :
 Calls Try.prog 91 #[.slice A0 l0.length c0] w fun e w' => ∃ v5_ : Value, e = .returned (.tuple #[.agg #[.int .i64 r1, .int .i64 r2, .int .i64 r3, .int .i64 r4, .int .i64 r5, v5_, .string r7], .bool r8]) ∧ Kd.R k98 98 w' w.heap.size (fun _ => True) v5_ r6 ∧ Below w.heap.size w w' := by
 have hu69 := Try.underlying69
 have HR0 := Aside0.mk hr0
 have HC0 := Aside0.mk hc0
 clear hr0 hc0
 have HB := Aside0.mk (Below.refl w.heap.size w)
 have H := h
 unfold impl_pushOf.f at H
 clear h
 by_cases c2 : (l0.length : Int) < 2
 ·rw [if_pos c2] at H
  have c2b0 := decide_eq_true c2
  have c2b1 : decide (l0.length < 2) = true := decide_eq_true (by omega)
  clear c2
  simp only [Option.some.injEq, Prod.mk.injEq] at H
  obtain ⟨rfl, rfl, rfl, rfl, rfl, rfl, rfl, rfl⟩ := H
  go_enter Try.func91, Try.ntmps91
  go_wp2_with (first | ((with_reducible refine gate_dst (N := 2) rfl ?_); refine bx_ 2 69 #[.int .i64 0, .int .i64 0, .int .i64 0, .int .i64 0, .int .i64 0, .slice none 0 0, .string (⟨#[]⟩ : ByteArray)] ?_; intro gb293 hg w3 hbox hb; have BK293 := Aside0.mk (hbox); have GW293 := Aside0.mk ((hz_ : w.heap.size ≤ gb293)); have GE293 := Aside0.mk ((hz_ : w.heap.size ≤ gb293)); replace HB := Aside0.mk (below_step bl_ hb); clear hb hbox hg; obtain ⟨hcz4_0, hcz4_1, hcz4_2, hcz4_3, hcz4_4, hcz4_5, hcz4_6, hfz4_0, hfz4_1, hfz4_2, hfz4_3, hfz4_4, hfz4_5, hfz4_6⟩ := cf7_ BK293.out))
  refine bodyPost_ret (results_ct rfl _ _ gb293 69 #[.int .i64 0, .int .i64 0, .int .i64 0, .int .i64 0, .int .i64 0, .slice none 0 0, .string (⟨#[]⟩ : ByteArray)] (0, 0) _ rfl (bp0_ BK293.out) Try.underlying69 rfl (by kernel_rfl)) rfl ?_
  exact ⟨_, er_, by first | exact Kd.R_nil _ _ _ _ _ | exact Kd.N_nil _ _ _ _ _ | exact Kd.V_nil _ _ _ _ _ | exact Kd.Q_nil _ _ _ _ _ | exact Kd.S_nil _ _ _ _ _, bl_⟩
 rw [if_neg c2] at H
 have c2b0 := decide_eq_false c2
 have c2b1 : decide (l0.length < 2) = false := decide_eq_false (by omega)
 clear c2
 by_cases c5 : 1 < (l0.length : Int)
 rotate_left
 ·exact nn_ c5 H
 rw [if_pos c5] at H
 have c5b0 := decide_eq_true c5
 have c5b1 : decide (1 < l0.length) = true := decide_eq_true (by omega)
 clear c5
 replace H := bs_ H
 obtain ⟨⟨t295, t296⟩, A6, H⟩ := H
 try dsimp only at H
 by_cases c7 : 2 ≤ (l0.length : Int)
 rotate_left
 ·exact nn_ c7 H
 rw [if_pos c7] at H
 have c7b0 := eq_true c7
 have c7b1 : decide (2 ≤ (l0.length : Int)) = true := decide_eq_true c7
 clear c7
 have H' := Aside0.mk H
 clear H
 go_enter Try.func91, Try.ntmps91
 go_wp2_with (first | ((with_reducible refine gate_dst (N := 2) rfl ?_); refine bx_ 2 69 #[.int .i64 0, .int .i64 0, .int .i64 0, .int .i64 0, .int .i64 0, .slice none 0 0, .string (⟨#[]⟩ : ByteArray)] ?_; intro gb293 hg w8 hbox hb; have BK293 := Aside0.mk (hbox); have GW293 := Aside0.mk ((hz_ : w.heap.size ≤ gb293)); have GE293 := Aside0.mk ((hz_ : w.heap.size ≤ gb293)); replace HB := Aside0.mk (below_step bl_ hb); clear hb hbox hg; have p294 : 0 ≤ (1 : Int) := (by omega); have q294 : 1 < (l0.length : Int) := of_decide_eq_true as_; obtain ⟨ad294, e294, hx294_0⟩ := Kd.at_string HR0.out 1 p294 q294; cases e294; (try simp only [show (1 : Int).toNat = 1 from rfl, Nat.reduceMul, Nat.reduceEqDiff, Go.Addr.add, ↓reduceIte] at hx294_0); have qi294 : (1 < l0.length) = True := eq_true (by omega); (try rw [show ((1 : Int)).toNat = 1 from rfl] at hx294_0); replace hx294_0 := (HB.out.cell (World.block_lt_of_cell? w _ hx294_0)).trans hx294_0; replace p294 := eq_true p294; replace q294 := eq_true q294) | ((with_reducible refine gate_callee (f := 90) rfl ?_); refine gs_ (some 18) Try.func90 #[.string (rdOf ByteArray.empty l0 1)] ?_; (with_reducible refine (impl_ReadDecimal.calls k (rdOf ByteArray.empty l0 1) t295 t296 _ A6.out).mono ?_); rintro e w9 ⟨rfl, hb⟩; refine ⟨_, rfl, ?_⟩; replace BK293 := Aside0.mk (blk_below (bn0_ BK293.out) hb); replace HB := Aside0.mk (below_step bl_ hb); (try clear hb); obtain ⟨i010, hi010, _, hsz10, _⟩ := info_parts info9; obtain ⟨A10, hcut10, hA10, hC10⟩ := print_drop_of (P := Try.prog) Value.string (⟨#[]⟩ : ByteArray) 62 9 .i64 Try.underlying62 hi010 hsz10 (some ad294) c0 l0 2 (by omega) (of_decide_eq_true as_) HC0.out; have HR297 := Aside0.mk (Kd.C_of_reads (h1 := fun _ => rfl) (hA10 _ (Kd.reads_of_C HR0.out))); have HC297 := Aside0.mk hC10; clear hA10 hC10 hi010 hsz10))
 go_loopg [6, 24] k (fun kq v6 v24 w' => ∃ (x6_1 : ByteArray) (x24_1 : Int), v6 = .string x6_1 ∧ v24 = .int .i64 x24_1 ∧ Aside0 (impl_pushOf.l0 kq t295 t296 x6_1 (l0.drop 2) ((l0.drop 2).length : Int) x24_1 = some (r1, r2, r3, r4, r5, r6, r7, r8)) ∧ Aside0 (kq ≤ k) ∧ Aside0 (w'.heap[gb293]? = some (.cells #[.int .i64 0, .int .i64 0, .int .i64 0, .int .i64 0, .int .i64 0, (.slice none 0 0), .string (⟨#[]⟩ : ByteArray)] 69 (0, 0))) ∧ Aside0 (Below w.heap.size w w'))
 case atStart => exact ⟨((⟨#[]⟩ : ByteArray)), (0), (sr_), (sr_), H', ⟨Nat.le_refl _⟩, ⟨bk_ BK293.out⟩, ⟨bl_⟩⟩
 clear H'
 try clear c2
 try clear c2b0
 try clear c2b1
 try clear c5
 try clear c5b0
 try clear c5b1
 try clear c7
 try clear c7b0
 try clear c7b1
 try clear hx294_0
 try clear p294
 try clear q294
 obtain ⟨x6_1, x24_1, rfl, rfl, HA, HK1, BK293, HB⟩ := hrel
 cases gk with
 | zero => exact absurd HA.out (by simp [impl_pushOf.l0])
 | succ k1 => ?_
 have H := HA.out
 clear HA
 simp only [impl_pushOf.l0] at H
 by_cases c11 : x24_1 < ((l0.drop 2).length : Int)
 ·rw [if_pos c11] at H
  have c11b0 := decide_eq_true c11
  have c11b0n : decide (x24_1 < ((l0.length - 2 : Nat) : Int)) = true := by rw [← List.length_drop]; exact c11b0
  clear c11
  by_cases c12 : 0 ≤ x24_1
  rotate_left
  ·exact nn_ c12 H
  rw [if_pos c12] at H
  have c12b0 := decide_eq_true c12
  clear c12
  by_cases c13 : x24_1 < ((l0.drop 2).length : Int)
  rotate_left
  ·exact nn_ c13 H
  rw [if_pos c13] at H
  have c13b0 := decide_eq_true c13
  have c13b0n : decide (x24_1 < ((l0.length - 2 : Nat) : Int)) = true := by rw [← List.length_drop]; exact c13b0
  clear c13
  by_cases c14 : x24_1 > 0
  rotate_left
  ·rw [if_neg c14] at H
   have c14b0 := decide_eq_false c14
   clear c14
   by_cases c17 : x6_1.size + (rdOf ByteArray.empty (l0.drop 2) x24_1).size ≤ 9223372036854775807
   rotate_left
   ·exact nn_ c17 H
   rw [if_pos c17] at H
   have c17b0 := eq_true c17
   have c17b1 : decide (x6_1.size + (rdOf ByteArray.empty (l0.drop 2) x24_1).size ≤ 9223372036854775807) = true := decide_eq_true c17
   try have c17b2 : (9223372036854775807 < x6_1.size + (rdOf ByteArray.empty (l0.drop 2) x24_1).size) = False := eq_false (Nat.not_lt.2 c17)
   have H' := Aside0.mk H
   clear H
   have p298 : 0 ≤ (x24_1 : Int) := of_decide_eq_true as_
   have q298 : x24_1 < ((l0.drop 2).length : Int) := of_decide_eq_true as_
   have q298n : (x24_1 < ((l0.length - 2 : Nat) : Int)) = True := eq_true (by rw [← List.length_drop]; exact q298)
   obtain ⟨ad298, e298, hx298_0⟩ := Kd.at_string HR297.out x24_1 p298 q298
   cases e298
   replace hx298_0 := (HB.out.cell (World.block_lt_of_cell? w _ hx298_0)).trans hx298_0
   replace p298 := eq_true p298
   replace q298 := eq_true q298
   go_wp2
   go_roundg k1
   case measure => have := HK1.out; omega
   case rel => exact ⟨(x6_1 ++ (rdOf ByteArray.empty (l0.drop 2) x24_1)), (wrap64 (x24_1 + 1)), (sr_), (sr_), H', ⟨by have := HK1.out; omega⟩, ⟨bk_ BK293.out⟩, ⟨bl_⟩⟩
  rw [if_pos c14] at H
  have c14b0 := decide_eq_true c14
  clear c14
  by_cases c15 : x6_1.size + 1 ≤ 9223372036854775807
  rotate_left
  ·exact nn_ c15 H
  rw [if_pos c15] at H
  have c15b0 := eq_true c15
  have c15b1 : decide (x6_1.size + 1 ≤ 9223372036854775807) = true := decide_eq_true c15
  try have c15b2 : (9223372036854775807 < x6_1.size + 1) = False := eq_false (Nat.not_lt.2 c15)
  by_cases c16 : (x6_1 ++ (⟨#[32]⟩ : ByteArray)).size + (rdOf ByteArray.empty (l0.drop 2) x24_1).size ≤ 9223372036854775807
  rotate_left
  ·exact nn_ c16 H
  rw [if_pos c16] at H
  have c16b0 := eq_true c16
  have c16b1 : decide ((x6_1 ++ (⟨#[32]⟩ : ByteArray)).size + (rdOf ByteArray.empty (l0.drop 2) x24_1).size ≤ 9223372036854775807) = true := decide_eq_true c16
  try have c16b2 : (9223372036854775807 < (x6_1 ++ (⟨#[32]⟩ : ByteArray)).size + (rdOf ByteArray.empty (l0.drop 2) x24_1).size) = False := eq_false (Nat.not_lt.2 c16)
  try have c16b3 : (9223372036854775807 < x6_1.size + 1 + (rdOf ByteArray.empty (l0.drop 2) x24_1).size) = False := eq_false (by have h_ := c16; (repeat rw [ByteArray.size_append] at h_); exact Nat.not_lt.2 h_)
  have H' := Aside0.mk H
  clear H
  have p298 : 0 ≤ (x24_1 : Int) := of_decide_eq_true as_
  have q298 : x24_1 < ((l0.drop 2).length : Int) := of_decide_eq_true as_
  have q298n : (x24_1 < ((l0.length - 2 : Nat) : Int)) = True := eq_true (by rw [← List.length_drop]; exact q298)
  obtain ⟨ad298, e298, hx298_0⟩ := Kd.at_string HR297.out x24_1 p298 q298
  cases e298
  replace hx298_0 := (HB.out.cell (World.block_lt_of_cell? w _ hx298_0)).trans hx298_0
  replace p298 := eq_true p298
  replace q298 := eq_true q298
  go_wp2
  go_roundg k1
  case measure => have := HK1.out; omega
  case rel => exact ⟨((x6_1 ++ (⟨#[32]⟩ : ByteArray)) ++ (rdOf ByteArray.empty (l0.drop 2) x24_1)), (wrap64 (x24_1 + 1)), (sr_), (sr_), H', ⟨by have := HK1.out; omega⟩, ⟨bk_ BK293.out⟩, ⟨bl_⟩⟩
 rw [if_neg c11] at H
 have c11b0 := decide_eq_false c11
 have c11b0n : decide (x24_1 < ((l0.length - 2 : Nat) : Int)) = false := by rw [← List.length_drop]; exact c11b0
 clear c11
 by_cases c18 : t296 = true
 rotate_left
 ·replace c18 := Bool.eq_false_iff.mpr c18
  subst c18
  rw [nf_] at H
  simp only [Option.some.injEq, Prod.mk.injEq] at H
  obtain ⟨rfl, rfl, rfl, rfl, rfl, rfl, rfl, rfl⟩ := H
  try go_wp2_with (first | ((with_reducible refine gate_dst (N := 9) rfl ?_); refine bx_ 9 69 #[.int .i64 0, .int .i64 0, .int .i64 0, .int .i64 0, .int .i64 0, .slice none 0 0, .string (⟨#[]⟩ : ByteArray)] ?_; intro gb299 hg w33 hbox hb; have BK299 := Aside0.mk (hbox); have GW299 := Aside0.mk ((hz_ : w.heap.size ≤ gb299)); have GE299 := Aside0.mk ((hz_ : w.heap.size ≤ gb299)); replace HB := Aside0.mk (below_step bl_ hb); have NB293_299 := Aside0.mk ((by rw [hg]; exact Nat.ne_of_lt (blk_lt (g := gb293) (o := .cells #[.int .i64 0, .int .i64 0, .int .i64 0, .int .i64 0, .int .i64 0, .slice none 0 0, .string (⟨#[]⟩ : ByteArray)] 69 (0, 0)) (bk_ BK293.out)) : gb293 ≠ gb299)); have NB299_293 := Aside0.mk ((by rw [hg]; exact Nat.ne_of_gt (blk_lt (g := gb293) (o := .cells #[.int .i64 0, .int .i64 0, .int .i64 0, .int .i64 0, .int .i64 0, .slice none 0 0, .string (⟨#[]⟩ : ByteArray)] 69 (0, 0)) (bk_ BK293.out)) : gb299 ≠ gb293)); replace BK293 := Aside0.mk (blk_below (bn0_ BK293.out) hb); clear hb hbox hg; have hnb34 := NB299_293.out; have hnc34 := NB293_299.out; obtain ⟨hcz35_0, hcz35_1, hcz35_2, hcz35_3, hcz35_4, hcz35_5, hcz35_6, hfz35_0, hfz35_1, hfz35_2, hfz35_3, hfz35_4, hfz35_5, hfz35_6⟩ := cf7_ BK299.out))
  have n0_ : Aside0 ((((((((w33.setCell ⟨gb299, 0, none⟩ (.int .i64 2)).setCell ⟨gb299, 1, none⟩ (.int .i64 t295)).setCell ⟨gb299, 2, none⟩ (.int .i64 0)).setCell ⟨gb299, 3, none⟩ (.int .i64 0)).setCell ⟨gb299, 4, none⟩ (.int .i64 0)).setCell ⟨gb299, 5, none⟩ (.slice none 0 0)).setCell ⟨gb299, 6, none⟩ (.string x6_1)).heap[gb293]? = some (.cells #[.int .i64 0, .int .i64 0, .int .i64 0, .int .i64 0, .int .i64 0, .slice none 0 0, .string (⟨#[]⟩ : ByteArray)] 69 (0, 0))) := ⟨bp1_ BK293.out NB293_299.out⟩
  have n1_ : Aside0 ((((((((w33.setCell ⟨gb299, 0, none⟩ (.int .i64 2)).setCell ⟨gb299, 1, none⟩ (.int .i64 t295)).setCell ⟨gb299, 2, none⟩ (.int .i64 0)).setCell ⟨gb299, 3, none⟩ (.int .i64 0)).setCell ⟨gb299, 4, none⟩ (.int .i64 0)).setCell ⟨gb299, 5, none⟩ (.slice none 0 0)).setCell ⟨gb299, 6, none⟩ (.string x6_1)).heap[gb299]? = some (.cells #[.int .i64 2, .int .i64 t295, .int .i64 0, .int .i64 0, .int .i64 0, .slice none 0 0, .string x6_1] 69 (0, 0))) := ⟨bp0_ BK299.out⟩
  have n2_ : Aside0 (Below w.heap.size w (((((((w33.setCell ⟨gb299, 0, none⟩ (.int .i64 2)).setCell ⟨gb299, 1, none⟩ (.int .i64 t295)).setCell ⟨gb299, 2, none⟩ (.int .i64 0)).setCell ⟨gb299, 3, none⟩ (.int .i64 0)).setCell ⟨gb299, 4, none⟩ (.int .i64 0)).setCell ⟨gb299, 5, none⟩ (.slice none 0 0)).setCell ⟨gb299, 6, none⟩ (.string x6_1))) := ⟨bl_⟩
  (try clear BK293)
  (try clear BK299)
  (try clear HB)
  generalize (((((((w33.setCell ⟨gb299, 0, none⟩ (.int .i64 2)).setCell ⟨gb299, 1, none⟩ (.int .i64 t295)).setCell ⟨gb299, 2, none⟩ (.int .i64 0)).setCell ⟨gb299, 3, none⟩ (.int .i64 0)).setCell ⟨gb299, 4, none⟩ (.int .i64 0)).setCell ⟨gb299, 5, none⟩ (.slice none 0 0)).setCell ⟨gb299, 6, none⟩ (.string x6_1)) = w36 at n0_ n1_ n2_ ⊢
  have BK293 := n0_
  have BK299 := n1_
  have HB := n2_
  clear n0_ n1_ n2_
  have n0_ := Aside0.mk (blk_drew BK293.out)
  have n1_ := Aside0.mk (blk_drew BK299.out)
  have n2_ := Aside0.mk (below_drew1 HB.out)
  clear BK293
  clear BK299
  clear HB
  have BK293 := n0_
  have BK299 := n1_
  have HB := n2_
  clear n0_ n1_ n2_
  refine start_ (n := 8) (S := fun w' => w'.cell? ⟨gb299, 0, none⟩ = some (.int .i64 2) ∧ w'.cell? ⟨gb299, 1, none⟩ = some (.int .i64 t295) ∧ w'.cell? ⟨gb299, 2, none⟩ = some (.int .i64 0) ∧ w'.cell? ⟨gb299, 3, none⟩ = some (.int .i64 0) ∧ w'.cell? ⟨gb299, 4, none⟩ = some (.int .i64 0) ∧ w'.cell? ⟨gb299, 5, none⟩ = some (.slice none 0 0) ∧ w'.cell? ⟨gb299, 6, none⟩ = some (.string x6_1)) (ds := []) #[false, false, false, false, false, false, false, false] (by kernel_rfl) rfl rfl ⟨(blk_cell BK299.out 0).trans rfl, (blk_cell BK299.out 1).trans rfl, (blk_cell BK299.out 2).trans rfl, (blk_cell BK299.out 3).trans rfl, (blk_cell BK299.out 4).trans rfl, (blk_cell BK299.out 5).trans rfl, (blk_cell BK299.out 6).trans rfl⟩ (fun hHeld => ?_); refine with_tabW impl_pushOf.tab13 impl_pushOf.bits13 (fun HT_ HW_ => ?_)
  generalize w36.drew = w37 at BK293 BK299 HB hHeld ⊢
  refine pu_ 1 41 HT_ ?_
  refine pu_ 2 42 HT_ ?_
  refine pn_ 3 43 HT_ ?_
  refine pn_ 4 44 HT_ ?_
  refine pu_ 5 45 HT_ ?_
  refine ta_ 0 40 HT_ HW_ hHeld ?_ (r := by rintro w' ⟨s0, s1, s2, s3, s4, s5, s6⟩; go_simp; with_reducible rfl)
  refine one_ (i := 6) (N := none) #[true, true, true, true, true, true, true, false] rfl rfl (one_of HT_.out (by kernel_rfl)) (by decide) (fun K hK => ?_)
  have hs38 : w37.cell? ⟨gb293, 0, none⟩ = some (.int .i64 0) := (blk_cell BK293.out 0).trans rfl
  have hfs38 := blk_frozen BK293.out 0
  have hns38_1 := NB299_293.out
  have hms38_1 := NB293_299.out
  have hs39 : w37.cell? ⟨gb293, 1, none⟩ = some (.int .i64 0) := (blk_cell BK293.out 1).trans rfl
  have hfs39 := blk_frozen BK293.out 1
  have hns39_1 := NB299_293.out
  have hms39_1 := NB293_299.out
  have hs40 : w37.cell? ⟨gb293, 2, none⟩ = some (.int .i64 0) := (blk_cell BK293.out 2).trans rfl
  have hfs40 := blk_frozen BK293.out 2
  have hns40_1 := NB299_293.out
  have hms40_1 := NB293_299.out
  have hs41 : w37.cell? ⟨gb293, 3, none⟩ = some (.int .i64 0) := (blk_cell BK293.out 3).trans rfl
  have hfs41 := blk_frozen BK293.out 3
  have hns41_1 := NB299_293.out
  have hms41_1 := NB293_299.out
  have hs42 : w37.cell? ⟨gb293, 4, none⟩ = some (.int .i64 0) := (blk_cell BK293.out 4).trans rfl
  have hfs42 := blk_frozen BK293.out 4
  have hns42_1 := NB299_293.out
  have hms42_1 := NB293_299.out
  have hs43 : w37.cell? ⟨gb293, 5, none⟩ = some (.slice none 0 0) := (blk_cell BK293.out 5).trans rfl
  have hfs43 := blk_frozen BK293.out 5
  have hns43_1 := NB299_293.out
  have hms43_1 := NB293_299.out
  have hs44 : w37.cell? ⟨gb293, 6, none⟩ = some (.string (⟨#[]⟩ : ByteArray)) := (blk_cell BK293.out 6).trans rfl
  have hfs44 := blk_frozen BK293.out 6
  have hns44_1 := NB299_293.out
  have hms44_1 := NB293_299.out
  refine skip_ (w1 := ?_) (by rfl) rfl ?_ ?_
  rotate_left
  ·go_simp
   rfl
  refine hK.out _ _ ⟨((cell_far (p := ⟨gb293, _, none⟩) NB299_293.out _).trans (((cell_far (p := ⟨gb293, _, none⟩) NB299_293.out _).trans (((cell_far (p := ⟨gb293, _, none⟩) NB299_293.out _).trans (((cell_far (p := ⟨gb293, _, none⟩) NB299_293.out _).trans (((cell_far (p := ⟨gb293, _, none⟩) NB299_293.out _).trans (((cell_far (p := ⟨gb293, _, none⟩) NB299_293.out _).trans (((cell_far (p := ⟨gb293, _, none⟩) NB299_293.out _).trans (hHeld.1)))))))))))))), ((cell_far (p := ⟨gb293, _, none⟩) NB299_293.out _).trans (((cell_far (p := ⟨gb293, _, none⟩) NB299_293.out _).trans (((cell_far (p := ⟨gb293, _, none⟩) NB299_293.out _).trans (((cell_far (p := ⟨gb293, _, none⟩) NB299_293.out _).trans (((cell_far (p := ⟨gb293, _, none⟩) NB299_293.out _).trans (((cell_far (p := ⟨gb293, _, none⟩) NB299_293.out _).trans (((cell_far (p := ⟨gb293, _, none⟩) NB299_293.out _).trans (hHeld.2.1)))))))))))))), ((cell_far (p := ⟨gb293, _, none⟩) NB299_293.out _).trans (((cell_far (p := ⟨gb293, _, none⟩) NB299_293.out _).trans (((cell_far (p := ⟨gb293, _, none⟩) NB299_293.out _).trans (((cell_far (p := ⟨gb293, _, none⟩) NB299_293.out _).trans (((cell_far (p := ⟨gb293, _, none⟩) NB299_293.out _).trans (((cell_far (p := ⟨gb293, _, none⟩) NB299_293.out _).trans (((cell_far (p := ⟨gb293, _, none⟩) NB299_293.out _).trans (hHeld.2.2.1)))))))))))))), ((cell_far (p := ⟨gb293, _, none⟩) NB299_293.out _).trans (((cell_far (p := ⟨gb293, _, none⟩) NB299_293.out _).trans (((cell_far (p := ⟨gb293, _, none⟩) NB299_293.out _).trans (((cell_far (p := ⟨gb293, _, none⟩) NB299_293.out _).trans (((cell_far (p := ⟨gb293, _, none⟩) NB299_293.out _).trans (((cell_far (p := ⟨gb293, _, none⟩) NB299_293.out _).trans (((cell_far (p := ⟨gb293, _, none⟩) NB299_293.out _).trans (hHeld.2.2.2.1)))))))))))))), ((cell_far (p := ⟨gb293, _, none⟩) NB299_293.out _).trans (((cell_far (p := ⟨gb293, _, none⟩) NB299_293.out _).trans (((cell_far (p := ⟨gb293, _, none⟩) NB299_293.out _).trans (((cell_far (p := ⟨gb293, _, none⟩) NB299_293.out _).trans (((cell_far (p := ⟨gb293, _, none⟩) NB299_293.out _).trans (((cell_far (p := ⟨gb293, _, none⟩) NB299_293.out _).trans (((cell_far (p := ⟨gb293, _, none⟩) NB299_293.out _).trans (hHeld.2.2.2.2.1)))))))))))))), ((cell_far (p := ⟨gb293, _, none⟩) NB299_293.out _).trans (((cell_far (p := ⟨gb293, _, none⟩) NB299_293.out _).trans (((cell_far (p := ⟨gb293, _, none⟩) NB299_293.out _).trans (((cell_far (p := ⟨gb293, _, none⟩) NB299_293.out _).trans (((cell_far (p := ⟨gb293, _, none⟩) NB299_293.out _).trans (((cell_far (p := ⟨gb293, _, none⟩) NB299_293.out _).trans (((cell_far (p := ⟨gb293, _, none⟩) NB299_293.out _).trans (hHeld.2.2.2.2.2.1)))))))))))))), ((cell_far (p := ⟨gb293, _, none⟩) NB299_293.out _).trans (((cell_far (p := ⟨gb293, _, none⟩) NB299_293.out _).trans (((cell_far (p := ⟨gb293, _, none⟩) NB299_293.out _).trans (((cell_far (p := ⟨gb293, _, none⟩) NB299_293.out _).trans (((cell_far (p := ⟨gb293, _, none⟩) NB299_293.out _).trans (((cell_far (p := ⟨gb293, _, none⟩) NB299_293.out _).trans (((cell_far (p := ⟨gb293, _, none⟩) NB299_293.out _).trans (hHeld.2.2.2.2.2.2))))))))))))))⟩ (fun hHeld => ?_)
  clear hK K
  refine pu_ 7 3 HT_ ?_
  refine done_ (done_of HT_.out (by kernel_rfl)) ?_
  try go_wp2
  refine bodyPost_ret (results_ct rfl _ _ gb293 69 #[.int .i64 2, .int .i64 t295, .int .i64 0, .int .i64 0, .int .i64 0, .slice none 0 0, .string x6_1] (0, 0) _ rfl (bp0_ BK293.out) Try.underlying69 rfl (by kernel_rfl)) rfl ?_
  exact ⟨_, er_, by first | exact Kd.R_nil _ _ _ _ _ | exact Kd.N_nil _ _ _ _ _ | exact Kd.V_nil _ _ _ _ _ | exact Kd.Q_nil _ _ _ _ _ | exact Kd.S_nil _ _ _ _ _, bl_⟩
 subst c18
 rw [if_pos rfl] at H
 replace H := bs_ H
 obtain ⟨t300, A19, H⟩ := H
 try dsimp only at H
 simp only [Option.some.injEq, Prod.mk.injEq] at H
 obtain ⟨rfl, rfl, rfl, rfl, rfl, rfl, rfl, rfl⟩ := H
 try go_wp2_with (first | ((with_reducible refine gate_dst (N := 9) rfl ?_); refine bx_ 9 69 #[.int .i64 0, .int .i64 0, .int .i64 0, .int .i64 0, .int .i64 0, .slice none 0 0, .string (⟨#[]⟩ : ByteArray)] ?_; intro gb299 hg w20 hbox hb; have BK299 := Aside0.mk (hbox); have GW299 := Aside0.mk ((hz_ : w.heap.size ≤ gb299)); have GE299 := Aside0.mk ((hz_ : w.heap.size ≤ gb299)); replace HB := Aside0.mk (below_step bl_ hb); have NB293_299 := Aside0.mk ((by rw [hg]; exact Nat.ne_of_lt (blk_lt (g := gb293) (o := .cells #[.int .i64 0, .int .i64 0, .int .i64 0, .int .i64 0, .int .i64 0, .slice none 0 0, .string (⟨#[]⟩ : ByteArray)] 69 (0, 0)) (bk_ BK293.out)) : gb293 ≠ gb299)); have NB299_293 := Aside0.mk ((by rw [hg]; exact Nat.ne_of_gt (blk_lt (g := gb293) (o := .cells #[.int .i64 0, .int .i64 0, .int .i64 0, .int .i64 0, .int .i64 0, .slice none 0 0, .string (⟨#[]⟩ : ByteArray)] 69 (0, 0)) (bk_ BK293.out)) : gb299 ≠ gb293)); replace BK293 := Aside0.mk (blk_below (bn0_ BK293.out) hb); clear hb hbox hg; have hnb21 := NB299_293.out; have hnc21 := NB293_299.out; obtain ⟨hcz22_0, hcz22_1, hcz22_2, hcz22_3, hcz22_4, hcz22_5, hcz22_6, hfz22_0, hfz22_1, hfz22_2, hfz22_3, hfz22_4, hfz22_5, hfz22_6⟩ := cf7_ BK299.out))
 have n0_ : Aside0 ((((((((w20.setCell ⟨gb299, 0, none⟩ (.int .i64 2)).setCell ⟨gb299, 1, none⟩ (.int .i64 t295)).setCell ⟨gb299, 2, none⟩ (.int .i64 0)).setCell ⟨gb299, 3, none⟩ (.int .i64 0)).setCell ⟨gb299, 4, none⟩ (.int .i64 0)).setCell ⟨gb299, 5, none⟩ (.slice none 0 0)).setCell ⟨gb299, 6, none⟩ (.string x6_1)).heap[gb293]? = some (.cells #[.int .i64 0, .int .i64 0, .int .i64 0, .int .i64 0, .int .i64 0, .slice none 0 0, .string (⟨#[]⟩ : ByteArray)] 69 (0, 0))) := ⟨bp1_ BK293.out NB293_299.out⟩
 have n1_ : Aside0 ((((((((w20.setCell ⟨gb299, 0, none⟩ (.int .i64 2)).setCell ⟨gb299, 1, none⟩ (.int .i64 t295)).setCell ⟨gb299, 2, none⟩ (.int .i64 0)).setCell ⟨gb299, 3, none⟩ (.int .i64 0)).setCell ⟨gb299, 4, none⟩ (.int .i64 0)).setCell ⟨gb299, 5, none⟩ (.slice none 0 0)).setCell ⟨gb299, 6, none⟩ (.string x6_1)).heap[gb299]? = some (.cells #[.int .i64 2, .int .i64 t295, .int .i64 0, .int .i64 0, .int .i64 0, .slice none 0 0, .string x6_1] 69 (0, 0))) := ⟨bp0_ BK299.out⟩
 have n2_ : Aside0 (Below w.heap.size w (((((((w20.setCell ⟨gb299, 0, none⟩ (.int .i64 2)).setCell ⟨gb299, 1, none⟩ (.int .i64 t295)).setCell ⟨gb299, 2, none⟩ (.int .i64 0)).setCell ⟨gb299, 3, none⟩ (.int .i64 0)).setCell ⟨gb299, 4, none⟩ (.int .i64 0)).setCell ⟨gb299, 5, none⟩ (.slice none 0 0)).setCell ⟨gb299, 6, none⟩ (.string x6_1))) := ⟨bl_⟩
 (try clear BK293)
 (try clear BK299)
 (try clear HB)
 generalize (((((((w20.setCell ⟨gb299, 0, none⟩ (.int .i64 2)).setCell ⟨gb299, 1, none⟩ (.int .i64 t295)).setCell ⟨gb299, 2, none⟩ (.int .i64 0)).setCell ⟨gb299, 3, none⟩ (.int .i64 0)).setCell ⟨gb299, 4, none⟩ (.int .i64 0)).setCell ⟨gb299, 5, none⟩ (.slice none 0 0)).setCell ⟨gb299, 6, none⟩ (.string x6_1)) = w23 at n0_ n1_ n2_ ⊢
 have BK293 := n0_
 have BK299 := n1_
 have HB := n2_
 clear n0_ n1_ n2_
 have n0_ := Aside0.mk (blk_drew BK293.out)
 have n1_ := Aside0.mk (blk_drew BK299.out)
 have n2_ := Aside0.mk (below_drew1 HB.out)
 clear BK293
 clear BK299
 clear HB
 have BK293 := n0_
 have BK299 := n1_
 have HB := n2_
 clear n0_ n1_ n2_
 refine start_ (n := 8) (S := fun w' => w'.cell? ⟨gb299, 0, none⟩ = some (.int .i64 2) ∧ w'.cell? ⟨gb299, 1, none⟩ = some (.int .i64 t295) ∧ w'.cell? ⟨gb299, 2, none⟩ = some (.int .i64 0) ∧ w'.cell? ⟨gb299, 3, none⟩ = some (.int .i64 0) ∧ w'.cell? ⟨gb299, 4, none⟩ = some (.int .i64 0) ∧ w'.cell? ⟨gb299, 5, none⟩ = some (.slice none 0 0) ∧ w'.cell? ⟨gb299, 6, none⟩ = some (.string x6_1)) (ds := []) #[false, false, false, false, false, false, false, false] (by kernel_rfl) rfl rfl ⟨(blk_cell BK299.out 0).trans rfl, (blk_cell BK299.out 1).trans rfl, (blk_cell BK299.out 2).trans rfl, (blk_cell BK299.out 3).trans rfl, (blk_cell BK299.out 4).trans rfl, (blk_cell BK299.out 5).trans rfl, (blk_cell BK299.out 6).trans rfl⟩ (fun hHeld => ?_); refine with_tabW impl_pushOf.tab13 impl_pushOf.bits13 (fun HT_ HW_ => ?_)
 generalize w23.drew = w24 at BK293 BK299 HB hHeld ⊢
 refine pu_ 1 41 HT_ ?_
 refine pu_ 2 42 HT_ ?_
 refine ta_ 0 40 HT_ HW_ hHeld ?_ (r := by rintro w' ⟨s0, s1, s2, s3, s4, s5, s6⟩; go_simp; with_reducible rfl)
 refine ta_ 3 43 HT_ HW_ hHeld ?_ (r := by rintro w' ⟨s0, s1, s2, s3, s4, s5, s6⟩; go_simp; with_reducible rfl)
 refine on_ 4 44 HT_ (fun K hK => ?_)
 refine goes_ Try.func93 (by kernel_rfl) rfl #[.agg #[.int .i64 2, .int .i64 t295, .int .i64 0, .int .i64 0, .int .i64 0, .slice none 0 0, .string x6_1]] (by rfl) rfl rfl lm_ ?_
 refine (impl_EventOk.calls k1 2 t295 0 0 0 _ _ ([] : List (S98)) x6_1 t300 _ ?side1 ?side2 A19.out).mono ?_
 (case side1 => exact Kd.C_nil _ _)
 (case side2 => exact Nat.le_refl _)
 rintro e w25 ⟨rfl, hb⟩
 refine ⟨_, rfl, ?_⟩
 have n0_ := Aside0.mk (blk_below (bn0_ BK293.out) hb)
 have n1_ := Aside0.mk (blk_below (bn0_ BK299.out) hb)
 have n2_ := Aside0.mk (below_step bl_ hb)
 clear BK293
 clear BK299
 clear HB
 have BK293 := n0_
 have BK299 := n1_
 have HB := n2_
 clear n0_ n1_ n2_
 (try clear hb)
 (try clear hb2)
 (try clear hk)
 (try clear hi)
 refine hK.out _ _ ⟨(blk_cell BK299.out 0).trans rfl, (blk_cell BK299.out 1).trans rfl, (blk_cell BK299.out 2).trans rfl, (blk_cell BK299.out 3).trans rfl, (blk_cell BK299.out 4).trans rfl, (blk_cell BK299.out 5).trans rfl, (blk_cell BK299.out 6).trans rfl⟩ (fun hHeld => ?_)
 clear hK K
 refine norm_ (a' := ?_) ?_ ?_
 rotate_left
 ·show Act.put _ (some 44) _ = _
  simp only [Act.put, List.setIfInBounds_toArray, List.set_cons_zero, List.set_cons_succ, i64_w, i32_w]
  rfl
 refine pu_ 5 45 HT_ ?_
 refine one_ (i := 6) (N := none) #[true, true, true, true, true, true, true, false] rfl rfl (one_of HT_.out (by kernel_rfl)) (by decide) (fun K hK => ?_)
 have hs26 : w25.cell? ⟨gb293, 0, none⟩ = some (.int .i64 0) := (blk_cell BK293.out 0).trans rfl
 have hfs26 := blk_frozen BK293.out 0
 have hns26_1 := NB299_293.out
 have hms26_1 := NB293_299.out
 have hs27 : w25.cell? ⟨gb293, 1, none⟩ = some (.int .i64 0) := (blk_cell BK293.out 1).trans rfl
 have hfs27 := blk_frozen BK293.out 1
 have hns27_1 := NB299_293.out
 have hms27_1 := NB293_299.out
 have hs28 : w25.cell? ⟨gb293, 2, none⟩ = some (.int .i64 0) := (blk_cell BK293.out 2).trans rfl
 have hfs28 := blk_frozen BK293.out 2
 have hns28_1 := NB299_293.out
 have hms28_1 := NB293_299.out
 have hs29 : w25.cell? ⟨gb293, 3, none⟩ = some (.int .i64 0) := (blk_cell BK293.out 3).trans rfl
 have hfs29 := blk_frozen BK293.out 3
 have hns29_1 := NB299_293.out
 have hms29_1 := NB293_299.out
 have hs30 : w25.cell? ⟨gb293, 4, none⟩ = some (.int .i64 0) := (blk_cell BK293.out 4).trans rfl
 have hfs30 := blk_frozen BK293.out 4
 have hns30_1 := NB299_293.out
 have hms30_1 := NB293_299.out
 have hs31 : w25.cell? ⟨gb293, 5, none⟩ = some (.slice none 0 0) := (blk_cell BK293.out 5).trans rfl
 have hfs31 := blk_frozen BK293.out 5
 have hns31_1 := NB299_293.out
 have hms31_1 := NB293_299.out
 have hs32 : w25.cell? ⟨gb293, 6, none⟩ = some (.string (⟨#[]⟩ : ByteArray)) := (blk_cell BK293.out 6).trans rfl
 have hfs32 := blk_frozen BK293.out 6
 have hns32_1 := NB299_293.out
 have hms32_1 := NB293_299.out
 refine skip_ (w1 := ?_) (by rfl) rfl ?_ ?_
 rotate_left
 ·go_simp
  rfl
 refine hK.out _ _ ⟨((cell_far (p := ⟨gb293, _, none⟩) NB299_293.out _).trans (((cell_far (p := ⟨gb293, _, none⟩) NB299_293.out _).trans (((cell_far (p := ⟨gb293, _, none⟩) NB299_293.out _).trans (((cell_far (p := ⟨gb293, _, none⟩) NB299_293.out _).trans (((cell_far (p := ⟨gb293, _, none⟩) NB299_293.out _).trans (((cell_far (p := ⟨gb293, _, none⟩) NB299_293.out _).trans (((cell_far (p := ⟨gb293, _, none⟩) NB299_293.out _).trans (hHeld.1)))))))))))))), ((cell_far (p := ⟨gb293, _, none⟩) NB299_293.out _).trans (((cell_far (p := ⟨gb293, _, none⟩) NB299_293.out _).trans (((cell_far (p := ⟨gb293, _, none⟩) NB299_293.out _).trans (((cell_far (p := ⟨gb293, _, none⟩) NB299_293.out _).trans (((cell_far (p := ⟨gb293, _, none⟩) NB299_293.out _).trans (((cell_far (p := ⟨gb293, _, none⟩) NB299_293.out _).trans (((cell_far (p := ⟨gb293, _, none⟩) NB299_293.out _).trans (hHeld.2.1)))))))))))))), ((cell_far (p := ⟨gb293, _, none⟩) NB299_293.out _).trans (((cell_far (p := ⟨gb293, _, none⟩) NB299_293.out _).trans (((cell_far (p := ⟨gb293, _, none⟩) NB299_293.out _).trans (((cell_far (p := ⟨gb293, _, none⟩) NB299_293.out _).trans (((cell_far (p := ⟨gb293, _, none⟩) NB299_293.out _).trans (((cell_far (p := ⟨gb293, _, none⟩) NB299_293.out _).trans (((cell_far (p := ⟨gb293, _, none⟩) NB299_293.out _).trans (hHeld.2.2.1)))))))))))))), ((cell_far (p := ⟨gb293, _, none⟩) NB299_293.out _).trans (((cell_far (p := ⟨gb293, _, none⟩) NB299_293.out _).trans (((cell_far (p := ⟨gb293, _, none⟩) NB299_293.out _).trans (((cell_far (p := ⟨gb293, _, none⟩) NB299_293.out _).trans (((cell_far (p := ⟨gb293, _, none⟩) NB299_293.out _).trans (((cell_far (p := ⟨gb293, _, none⟩) NB299_293.out _).trans (((cell_far (p := ⟨gb293, _, none⟩) NB299_293.out _).trans (hHeld.2.2.2.1)))))))))))))), ((cell_far (p := ⟨gb293, _, none⟩) NB299_293.out _).trans (((cell_far (p := ⟨gb293, _, none⟩) NB299_293.out _).trans (((cell_far (p := ⟨gb293, _, none⟩) NB299_293.out _).trans (((cell_far (p := ⟨gb293, _, none⟩) NB299_293.out _).trans (((cell_far (p := ⟨gb293, _, none⟩) NB299_293.out _).trans (((cell_far (p := ⟨gb293, _, none⟩) NB299_293.out _).trans (((cell_far (p := ⟨gb293, _, none⟩) NB299_293.out _).trans (hHeld.2.2.2.2.1)))))))))))))), ((cell_far (p := ⟨gb293, _, none⟩) NB299_293.out _).trans (((cell_far (p := ⟨gb293, _, none⟩) NB299_293.out _).trans (((cell_far (p := ⟨gb293, _, none⟩) NB299_293.out _).trans (((cell_far (p := ⟨gb293, _, none⟩) NB299_293.out _).trans (((cell_far (p := ⟨gb293, _, none⟩) NB299_293.out _).trans (((cell_far (p := ⟨gb293, _, none⟩) NB299_293.out _).trans (((cell_far (p := ⟨gb293, _, none⟩) NB299_293.out _).trans (hHeld.2.2.2.2.2.1)))))))))))))), ((cell_far (p := ⟨gb293, _, none⟩) NB299_293.out _).trans (((cell_far (p := ⟨gb293, _, none⟩) NB299_293.out _).trans (((cell_far (p := ⟨gb293, _, none⟩) NB299_293.out _).trans (((cell_far (p := ⟨gb293, _, none⟩) NB299_293.out _).trans (((cell_far (p := ⟨gb293, _, none⟩) NB299_293.out _).trans (((cell_far (p := ⟨gb293, _, none⟩) NB299_293.out _).trans (((cell_far (p := ⟨gb293, _, none⟩) NB299_293.out _).trans (hHeld.2.2.2.2.2.2))))))))))))))⟩ (fun hHeld => ?_)
 clear hK K
 refine pu_ 7 3 HT_ ?_
 refine done_ (done_of HT_.out (by kernel_rfl)) ?_
 try go_wp2
 refine bodyPost_ret (results_ct rfl _ _ gb293 69 #[.int .i64 2, .int .i64 t295, .int .i64 0, .int .i64 0, .int .i64 0, .slice none 0 0, .string x6_1] (0, 0) _ rfl (bp0_ BK293.out) Try.underlying69 rfl (by kernel_rfl)) rfl ?_
 exact ⟨_, er_, by first | exact Kd.R_nil _ _ _ _ _ | exact Kd.N_nil _ _ _ _ _ | exact Kd.V_nil _ _ _ _ _ | exact Kd.Q_nil _ _ _ _ _ | exact Kd.S_nil _ _ _ _ _, bl_⟩


def impl_single.f (a0 : ByteArray) (a1 : Int) : Option (Int × Int × Int × Int × Int × (List (S98)) × ByteArray) := if a0.toList = ([116, 105, 99, 107] : List UInt8) then (some (3, 0, a1, 0, 0, ([] : List (S98)), (⟨#[]⟩ : ByteArray))) else (if a0.toList = ([100, 114, 97, 105, 110] : List UInt8) then (some (4, a1, 0, 0, 0, ([] : List (S98)), (⟨#[]⟩ : ByteArray))) else (if a0.toList = ([99, 97, 114, 114, 121] : List UInt8) then (some (6, 0, a1, 0, 0, ([] : List (S98)), (⟨#[]⟩ : ByteArray))) else (if a0.toList = ([108, 111, 115, 101] : List UInt8) then (some (7, 0, a1, 0, 0, ([] : List (S98)), (⟨#[]⟩ : ByteArray))) else (if a0.toList = ([116, 119, 105, 99, 101] : List UInt8) then (some (8, 0, a1, 0, 0, ([] : List (S98)), (⟨#[]⟩ : ByteArray))) else (if a0.toList = ([97, 99, 107] : List UInt8) then (some (12, a1, 0, 0, 0, ([] : List (S98)), (⟨#[]⟩ : ByteArray))) else (some (0, 0, 0, 0, 0, ([] : List (S98)), (⟨#[]⟩ : ByteArray))))))))
theorem impl_single.calls (a0 : ByteArray) (a1 : Int) (r1 : Int) (r2 : Int) (r3 : Int) (r4 : Int) (r5 : Int) (r6 : List (S98)) (r7 : ByteArray) (w : World) (h : impl_single.f a0 a1 = some (r1, r2, r3, r4, r5, r6, r7)) :
 Calls Try.prog 92 #[.string a0, .int .i64 a1] w fun e w' => ∃ v5_ : Value, e = .returned (.agg #[.int .i64 r1, .int .i64 r2, .int .i64 r3, .int .i64 r4, .int .i64 r5, v5_, .string r7]) ∧ Kd.R k98 98 w' w.heap.size (fun _ => True) v5_ r6 ∧ Below w.heap.size w w' := by
 have hu69 := Try.underlying69
 have HB := Aside0.mk (Below.refl w.heap.size w)
 have H := h
 unfold impl_single.f at H
 clear h
 by_cases c3 : a0.toList = ([116, 105, 99, 107] : List UInt8)
 ·rw [if_pos c3] at H
  have c3b0 : (a0.toList == ([116, 105, 99, 107] : List UInt8)) = true := beq_iff_eq.mpr c3
  have c3b1 : (a0.toList != ([116, 105, 99, 107] : List UInt8)) = false := bne_eq_false_iff_eq.mpr c3
  clear c3
  simp only [Option.some.injEq, Prod.mk.injEq] at H
  obtain ⟨rfl, rfl, rfl, rfl, rfl, rfl, rfl⟩ := H
  go_enter Try.func92, Try.ntmps92
  go_wp2_with (first | ((with_reducible refine gate_dst (N := 4) rfl ?_); refine bx_ 4 69 #[.int .i64 0, .int .i64 0, .int .i64 0, .int .i64 0, .int .i64 0, .slice none 0 0, .string (⟨#[]⟩ : ByteArray)] ?_; intro gb301 hg w4 hbox hb; have BK301 := Aside0.mk (hbox); have GW301 := Aside0.mk ((hz_ : w.heap.size ≤ gb301)); have GE301 := Aside0.mk ((hz_ : w.heap.size ≤ gb301)); replace HB := Aside0.mk (below_step bl_ hb); clear hb hbox hg; obtain ⟨hcz5_0, hcz5_1, hcz5_2, hcz5_3, hcz5_4, hcz5_5, hcz5_6, hfz5_0, hfz5_1, hfz5_2, hfz5_3, hfz5_4, hfz5_5, hfz5_6⟩ := cf7_ BK301.out))
  refine bodyPost_ret (results_cell_row rfl _ _ gb301 69 #[.int .i64 3, .int .i64 0, .int .i64 a1, .int .i64 0, .int .i64 0, .slice none 0 0, .string (⟨#[]⟩ : ByteArray)] (0, 0) _ rfl (bp0_ BK301.out) Try.underlying69 rfl (by kernel_rfl)) rfl ?_
  exact ⟨_, er_, by first | exact Kd.R_nil _ _ _ _ _ | exact Kd.N_nil _ _ _ _ _ | exact Kd.V_nil _ _ _ _ _ | exact Kd.Q_nil _ _ _ _ _ | exact Kd.S_nil _ _ _ _ _, bl_⟩
 rw [if_neg c3] at H
 have c3b0 : (a0.toList == ([116, 105, 99, 107] : List UInt8)) = false := beq_eq_false_iff_ne.mpr c3
 have c3b1 : (a0.toList != ([116, 105, 99, 107] : List UInt8)) = true := bne_iff_ne.mpr c3
 by_cases c6 : a0.toList = ([100, 114, 97, 105, 110] : List UInt8)
 ·rw [if_pos c6] at H
  have c6b0 : (a0.toList == ([100, 114, 97, 105, 110] : List UInt8)) = true := beq_iff_eq.mpr c6
  have c6b1 : (a0.toList != ([100, 114, 97, 105, 110] : List UInt8)) = false := bne_eq_false_iff_eq.mpr c6
  clear c6
  simp only [Option.some.injEq, Prod.mk.injEq] at H
  obtain ⟨rfl, rfl, rfl, rfl, rfl, rfl, rfl⟩ := H
  go_enter Try.func92, Try.ntmps92
  go_wp2_with (first | ((with_reducible refine gate_dst (N := 4) rfl ?_); refine bx_ 4 69 #[.int .i64 0, .int .i64 0, .int .i64 0, .int .i64 0, .int .i64 0, .slice none 0 0, .string (⟨#[]⟩ : ByteArray)] ?_; intro gb301 hg w7 hbox hb; have BK301 := Aside0.mk (hbox); have GW301 := Aside0.mk ((hz_ : w.heap.size ≤ gb301)); have GE301 := Aside0.mk ((hz_ : w.heap.size ≤ gb301)); replace HB := Aside0.mk (below_step bl_ hb); clear hb hbox hg; obtain ⟨hcz8_0, hcz8_1, hcz8_2, hcz8_3, hcz8_4, hcz8_5, hcz8_6, hfz8_0, hfz8_1, hfz8_2, hfz8_3, hfz8_4, hfz8_5, hfz8_6⟩ := cf7_ BK301.out))
  refine bodyPost_ret (results_cell_row rfl _ _ gb301 69 #[.int .i64 4, .int .i64 a1, .int .i64 0, .int .i64 0, .int .i64 0, .slice none 0 0, .string (⟨#[]⟩ : ByteArray)] (0, 0) _ rfl (bp0_ BK301.out) Try.underlying69 rfl (by kernel_rfl)) rfl ?_
  exact ⟨_, er_, by first | exact Kd.R_nil _ _ _ _ _ | exact Kd.N_nil _ _ _ _ _ | exact Kd.V_nil _ _ _ _ _ | exact Kd.Q_nil _ _ _ _ _ | exact Kd.S_nil _ _ _ _ _, bl_⟩
 rw [if_neg c6] at H
 have c6b0 : (a0.toList == ([100, 114, 97, 105, 110] : List UInt8)) = false := beq_eq_false_iff_ne.mpr c6
 have c6b1 : (a0.toList != ([100, 114, 97, 105, 110] : List UInt8)) = true := bne_iff_ne.mpr c6
 by_cases c9 : a0.toList = ([99, 97, 114, 114, 121] : List UInt8)
 ·rw [if_pos c9] at H
  have c9b0 : (a0.toList == ([99, 97, 114, 114, 121] : List UInt8)) = true := beq_iff_eq.mpr c9
  have c9b1 : (a0.toList != ([99, 97, 114, 114, 121] : List UInt8)) = false := bne_eq_false_iff_eq.mpr c9
  clear c9
  simp only [Option.some.injEq, Prod.mk.injEq] at H
  obtain ⟨rfl, rfl, rfl, rfl, rfl, rfl, rfl⟩ := H
  go_enter Try.func92, Try.ntmps92
  go_wp2_with (first | ((with_reducible refine gate_dst (N := 4) rfl ?_); refine bx_ 4 69 #[.int .i64 0, .int .i64 0, .int .i64 0, .int .i64 0, .int .i64 0, .slice none 0 0, .string (⟨#[]⟩ : ByteArray)] ?_; intro gb301 hg w10 hbox hb; have BK301 := Aside0.mk (hbox); have GW301 := Aside0.mk ((hz_ : w.heap.size ≤ gb301)); have GE301 := Aside0.mk ((hz_ : w.heap.size ≤ gb301)); replace HB := Aside0.mk (below_step bl_ hb); clear hb hbox hg; obtain ⟨hcz11_0, hcz11_1, hcz11_2, hcz11_3, hcz11_4, hcz11_5, hcz11_6, hfz11_0, hfz11_1, hfz11_2, hfz11_3, hfz11_4, hfz11_5, hfz11_6⟩ := cf7_ BK301.out))
  refine bodyPost_ret (results_cell_row rfl _ _ gb301 69 #[.int .i64 6, .int .i64 0, .int .i64 a1, .int .i64 0, .int .i64 0, .slice none 0 0, .string (⟨#[]⟩ : ByteArray)] (0, 0) _ rfl (bp0_ BK301.out) Try.underlying69 rfl (by kernel_rfl)) rfl ?_
  exact ⟨_, er_, by first | exact Kd.R_nil _ _ _ _ _ | exact Kd.N_nil _ _ _ _ _ | exact Kd.V_nil _ _ _ _ _ | exact Kd.Q_nil _ _ _ _ _ | exact Kd.S_nil _ _ _ _ _, bl_⟩
 rw [if_neg c9] at H
 have c9b0 : (a0.toList == ([99, 97, 114, 114, 121] : List UInt8)) = false := beq_eq_false_iff_ne.mpr c9
 have c9b1 : (a0.toList != ([99, 97, 114, 114, 121] : List UInt8)) = true := bne_iff_ne.mpr c9
 by_cases c12 : a0.toList = ([108, 111, 115, 101] : List UInt8)
 ·rw [if_pos c12] at H
  have c12b0 : (a0.toList == ([108, 111, 115, 101] : List UInt8)) = true := beq_iff_eq.mpr c12
  have c12b1 : (a0.toList != ([108, 111, 115, 101] : List UInt8)) = false := bne_eq_false_iff_eq.mpr c12
  clear c12
  simp only [Option.some.injEq, Prod.mk.injEq] at H
  obtain ⟨rfl, rfl, rfl, rfl, rfl, rfl, rfl⟩ := H
  go_enter Try.func92, Try.ntmps92
  go_wp2_with (first | ((with_reducible refine gate_dst (N := 4) rfl ?_); refine bx_ 4 69 #[.int .i64 0, .int .i64 0, .int .i64 0, .int .i64 0, .int .i64 0, .slice none 0 0, .string (⟨#[]⟩ : ByteArray)] ?_; intro gb301 hg w13 hbox hb; have BK301 := Aside0.mk (hbox); have GW301 := Aside0.mk ((hz_ : w.heap.size ≤ gb301)); have GE301 := Aside0.mk ((hz_ : w.heap.size ≤ gb301)); replace HB := Aside0.mk (below_step bl_ hb); clear hb hbox hg; obtain ⟨hcz14_0, hcz14_1, hcz14_2, hcz14_3, hcz14_4, hcz14_5, hcz14_6, hfz14_0, hfz14_1, hfz14_2, hfz14_3, hfz14_4, hfz14_5, hfz14_6⟩ := cf7_ BK301.out))
  refine bodyPost_ret (results_cell_row rfl _ _ gb301 69 #[.int .i64 7, .int .i64 0, .int .i64 a1, .int .i64 0, .int .i64 0, .slice none 0 0, .string (⟨#[]⟩ : ByteArray)] (0, 0) _ rfl (bp0_ BK301.out) Try.underlying69 rfl (by kernel_rfl)) rfl ?_
  exact ⟨_, er_, by first | exact Kd.R_nil _ _ _ _ _ | exact Kd.N_nil _ _ _ _ _ | exact Kd.V_nil _ _ _ _ _ | exact Kd.Q_nil _ _ _ _ _ | exact Kd.S_nil _ _ _ _ _, bl_⟩
 rw [if_neg c12] at H
 have c12b0 : (a0.toList == ([108, 111, 115, 101] : List UInt8)) = false := beq_eq_false_iff_ne.mpr c12
 have c12b1 : (a0.toList != ([108, 111, 115, 101] : List UInt8)) = true := bne_iff_ne.mpr c12
 by_cases c15 : a0.toList = ([116, 119, 105, 99, 101] : List UInt8)
 ·rw [if_pos c15] at H
  have c15b0 : (a0.toList == ([116, 119, 105, 99, 101] : List UInt8)) = true := beq_iff_eq.mpr c15
  have c15b1 : (a0.toList != ([116, 119, 105, 99, 101] : List UInt8)) = false := bne_eq_false_iff_eq.mpr c15
  clear c15
  simp only [Option.some.injEq, Prod.mk.injEq] at H
  obtain ⟨rfl, rfl, rfl, rfl, rfl, rfl, rfl⟩ := H
  go_enter Try.func92, Try.ntmps92
  go_wp2_with (first | ((with_reducible refine gate_dst (N := 4) rfl ?_); refine bx_ 4 69 #[.int .i64 0, .int .i64 0, .int .i64 0, .int .i64 0, .int .i64 0, .slice none 0 0, .string (⟨#[]⟩ : ByteArray)] ?_; intro gb301 hg w16 hbox hb; have BK301 := Aside0.mk (hbox); have GW301 := Aside0.mk ((hz_ : w.heap.size ≤ gb301)); have GE301 := Aside0.mk ((hz_ : w.heap.size ≤ gb301)); replace HB := Aside0.mk (below_step bl_ hb); clear hb hbox hg; obtain ⟨hcz17_0, hcz17_1, hcz17_2, hcz17_3, hcz17_4, hcz17_5, hcz17_6, hfz17_0, hfz17_1, hfz17_2, hfz17_3, hfz17_4, hfz17_5, hfz17_6⟩ := cf7_ BK301.out))
  refine bodyPost_ret (results_cell_row rfl _ _ gb301 69 #[.int .i64 8, .int .i64 0, .int .i64 a1, .int .i64 0, .int .i64 0, .slice none 0 0, .string (⟨#[]⟩ : ByteArray)] (0, 0) _ rfl (bp0_ BK301.out) Try.underlying69 rfl (by kernel_rfl)) rfl ?_
  exact ⟨_, er_, by first | exact Kd.R_nil _ _ _ _ _ | exact Kd.N_nil _ _ _ _ _ | exact Kd.V_nil _ _ _ _ _ | exact Kd.Q_nil _ _ _ _ _ | exact Kd.S_nil _ _ _ _ _, bl_⟩
 rw [if_neg c15] at H
 have c15b0 : (a0.toList == ([116, 119, 105, 99, 101] : List UInt8)) = false := beq_eq_false_iff_ne.mpr c15
 have c15b1 : (a0.toList != ([116, 119, 105, 99, 101] : List UInt8)) = true := bne_iff_ne.mpr c15
 by_cases c18 : a0.toList = ([97, 99, 107] : List UInt8)
 rotate_left
 ·rw [if_neg c18] at H
  have c18b0 : (a0.toList == ([97, 99, 107] : List UInt8)) = false := beq_eq_false_iff_ne.mpr c18
  have c18b1 : (a0.toList != ([97, 99, 107] : List UInt8)) = true := bne_iff_ne.mpr c18
  simp only [Option.some.injEq, Prod.mk.injEq] at H
  obtain ⟨rfl, rfl, rfl, rfl, rfl, rfl, rfl⟩ := H
  go_enter Try.func92, Try.ntmps92
  go_wp2_with (first | ((with_reducible refine gate_dst (N := 4) rfl ?_); refine bx_ 4 69 #[.int .i64 0, .int .i64 0, .int .i64 0, .int .i64 0, .int .i64 0, .slice none 0 0, .string (⟨#[]⟩ : ByteArray)] ?_; intro gb301 hg w21 hbox hb; have BK301 := Aside0.mk (hbox); have GW301 := Aside0.mk ((hz_ : w.heap.size ≤ gb301)); have GE301 := Aside0.mk ((hz_ : w.heap.size ≤ gb301)); replace HB := Aside0.mk (below_step bl_ hb); clear hb hbox hg; obtain ⟨hcz22_0, hcz22_1, hcz22_2, hcz22_3, hcz22_4, hcz22_5, hcz22_6, hfz22_0, hfz22_1, hfz22_2, hfz22_3, hfz22_4, hfz22_5, hfz22_6⟩ := cf7_ BK301.out))
  refine bodyPost_ret (results_cell_row rfl _ _ gb301 69 #[.int .i64 0, .int .i64 0, .int .i64 0, .int .i64 0, .int .i64 0, .slice none 0 0, .string (⟨#[]⟩ : ByteArray)] (0, 0) _ rfl (bp0_ BK301.out) Try.underlying69 rfl (by kernel_rfl)) rfl ?_
  exact ⟨_, er_, by first | exact Kd.R_nil _ _ _ _ _ | exact Kd.N_nil _ _ _ _ _ | exact Kd.V_nil _ _ _ _ _ | exact Kd.Q_nil _ _ _ _ _ | exact Kd.S_nil _ _ _ _ _, bl_⟩
 rw [if_pos c18] at H
 have c18b0 : (a0.toList == ([97, 99, 107] : List UInt8)) = true := beq_iff_eq.mpr c18
 have c18b1 : (a0.toList != ([97, 99, 107] : List UInt8)) = false := bne_eq_false_iff_eq.mpr c18
 clear c18
 simp only [Option.some.injEq, Prod.mk.injEq] at H
 obtain ⟨rfl, rfl, rfl, rfl, rfl, rfl, rfl⟩ := H
 go_enter Try.func92, Try.ntmps92
 go_wp2_with (first | ((with_reducible refine gate_dst (N := 4) rfl ?_); refine bx_ 4 69 #[.int .i64 0, .int .i64 0, .int .i64 0, .int .i64 0, .int .i64 0, .slice none 0 0, .string (⟨#[]⟩ : ByteArray)] ?_; intro gb301 hg w19 hbox hb; have BK301 := Aside0.mk (hbox); have GW301 := Aside0.mk ((hz_ : w.heap.size ≤ gb301)); have GE301 := Aside0.mk ((hz_ : w.heap.size ≤ gb301)); replace HB := Aside0.mk (below_step bl_ hb); clear hb hbox hg; obtain ⟨hcz20_0, hcz20_1, hcz20_2, hcz20_3, hcz20_4, hcz20_5, hcz20_6, hfz20_0, hfz20_1, hfz20_2, hfz20_3, hfz20_4, hfz20_5, hfz20_6⟩ := cf7_ BK301.out))
 refine bodyPost_ret (results_cell_row rfl _ _ gb301 69 #[.int .i64 12, .int .i64 a1, .int .i64 0, .int .i64 0, .int .i64 0, .slice none 0 0, .string (⟨#[]⟩ : ByteArray)] (0, 0) _ rfl (bp0_ BK301.out) Try.underlying69 rfl (by kernel_rfl)) rfl ?_
 exact ⟨_, er_, by first | exact Kd.R_nil _ _ _ _ _ | exact Kd.N_nil _ _ _ _ _ | exact Kd.V_nil _ _ _ _ _ | exact Kd.Q_nil _ _ _ _ _ | exact Kd.S_nil _ _ _ _ _, bl_⟩

end Go.Proofs.Ytjfmpodeenidnaa.PA
