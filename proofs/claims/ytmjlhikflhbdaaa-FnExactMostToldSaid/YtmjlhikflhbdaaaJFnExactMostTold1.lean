/- Contracts of functions of the program and of the reference, and plain lemmas on what they compute: a part of the proof of the law FnExactMostTold. No condition. -/
import Derived.Test.YtmjlhikflhbdaaaGabbbex0
import Derived.Test.YtmjlhikflhbdaaaG26642x0
import Derived.Test.YtmjlhikflhbdaaaG518b3x0
import Derived.Test.YtmjlhikflhbdaaaGe4ebax0
import Derived.Test.YtmjlhikflhbdaaaV0
import Derived.ChangeArms
import Derived.ChangeOld
import Derived.WideShapes
import Derived.OpenShut
import Derived.DataElems
import Derived.Test.YtmjlhikflhbdaaaRows
import Derived.WalkKit
import Derived.ProofKit
import Derived.ShutString
import Derived.Below
import Derived.SizedLaws
import Derived.Carry
import Derived.Test.YtmjlhikflhbdaaaShortV
namespace Go.Proofs.Ytmjlhikflhbdaaa.PA
open Go.RowKit Go.Proofs.Ytmjlhikflhbdaaa.Short Go.Proofs.YtmjlhikflhbdaaaW.PrintWords Go.Proofs.YtmjlhikflhbdaaaW.PrintLast Go.Proofs.YtmjlhikflhbdaaaW.PrintMore
attribute [local go_sem] max2_int min2_int max_two min_two max_three min_three max_four min_four   -- for this text's walks alone
set_option linter.unusedVariables false
set_option linter.unusedSimpArgs false

/-! ### laws_FnExactMostTold: function 7 -/
def laws_FnExactMostTold.f (k : Nat) (l0 : List (S135)) : Option (Bool) := (laws_szEntryS.f l0 1048576).bind fun t1002 => (if t1002 < 0 then (some true) else ((laws_toEntryS.f k l0).bind fun t1003 => ((spec_MostTold.f k t1003).bind fun t1006 => ((laws_toEntryS.f k l0).bind fun t1007 => ((impl_MostTold.f k t1007).bind fun t1010 => (if t1010 = t1006 then ((laws_toEntryS.f k l0).bind fun t1011 => ((laws_eqEntryS.f k t1007 t1011).bind fun t1014 => (if t1014 = true then (some true) else (some false)))) else (some false)))))))
theorem laws_FnExactMostTold.mono : ∀ a0 k, LeO (laws_FnExactMostTold.f k a0) (laws_FnExactMostTold.f (k + 1) a0) := by
 intro a0 k
 unfold laws_FnExactMostTold.f
 repeat' first
  | (with_reducible exact impl_MostTold.mono _ _)
  | (with_reducible exact laws_eqEntryS.mono _ _ _)
  | (with_reducible exact laws_toEntryS.mono _ _)
  | (with_reducible exact spec_MostTold.mono _ _)
  | (with_reducible exact LeO.refl _)
  | (with_reducible exact LeO.none _)
  | (with_reducible refine LeO.ite ?_ ?_)
  | (with_reducible refine LeO.bind ?_ (fun _ => ?_))
  | exact impl_MostTold.mono _ _
  | exact laws_eqEntryS.mono _ _ _
  | exact laws_toEntryS.mono _ _
  | exact spec_MostTold.mono _ _
  | exact LeO.none _
  | refine LeO.ite ?_ ?_
  | refine LeO.bind ?_ (fun _ => ?_)
set_option maxHeartbeats 8000000 in
set_option maxRecDepth 100000 in
theorem laws_FnExactMostTold.calls (k : Nat) (A0 : Option Addr) (c0 : Nat) (l0 : List (S135)) (r : Bool) (w : World) (hr0 : Kd.C k135 w A0 l0.length l0) (hc0 : l0.length ≤ c0) (hr1 : r = true) (h : laws_FnExactMostTold.f k l0 = some r) :
 Calls Try.prog 7 #[.slice A0 l0.length c0] w fun e w' => e = .returned (.bool r) ∧ Below w.heap.size w w' := by
 have HR0 := Aside0.mk hr0
 have HC0 := Aside0.mk hc0
 clear hr0 hc0
 have HR1 := Aside0.mk hr1
 clear hr1
 have HB := Aside0.mk (Below.refl w.heap.size w)
 have H : ((laws_szEntryS.f l0 1048576).bind fun t1002 => (if t1002 < 0 then (some true) else ((laws_toEntryS.f k l0).bind fun t1003 => ((spec_MostTold.f k t1003).bind fun t1006 => ((laws_toEntryS.f k l0).bind fun t1007 => ((impl_MostTold.f k t1007).bind fun t1010 => (if t1010 = t1006 then ((laws_toEntryS.f k l0).bind fun t1011 => ((laws_eqEntryS.f k t1007 t1011).bind fun t1014 => (if t1014 = true then (some true) else (some false)))) else (some false)))))))) = some r := h
 clear h
 replace H := Option.bind_eq_some_iff.mp H
 obtain ⟨t1002, A20, H⟩ := H
 try dsimp only at H
 have A2 := Aside0.mk A20
 clear A20
 by_cases c3 : t1002 < 0
 ·rw [if_pos c3] at H
  have c3b0 : decide (t1002 < 0) = true := decide_eq_true c3
  clear c3
  obtain rfl := Option.some.inj H
  go_enter Try.func7, Try.ntmps7
  go_wp2_with (first | ((with_reducible refine gate_callee (f := 38) rfl ?_); refine goesL_ (some 9) rfl rfl Try.func38 (by kernel_rfl) rfl #[.slice A0 l0.length c0, .int .i64 1048576] rfl lm_ ?_; (with_reducible refine (laws_szEntryS.calls _ _ l0 1048576 t1002 _ ?side1 ?side2 A2.out).mono ?_); (case side1 => repeat (first | exact HR0.out | (with_reducible refine Kd.C_alloc ?_ _) | (with_reducible refine Kd.C_drewN ?_ _) | (with_reducible refine Kd.C_drew ?_))); (case side2 => exact HC0.out); rintro e w' ⟨rfl, ⟨nd, rfl⟩⟩; refine ⟨_, rfl, ?_⟩))
  go_ret
  exact ⟨by first | rfl | (simp [errW_none, errW_some] <;> rfl) | (simp [*, errW_none, errW_some] <;> rfl) | exact False.elim (Bool.noConfusion ((decide_eq_true (of_eq_true (by assumption))).symm.trans (by assumption))), bl_⟩
 ·rw [if_neg c3] at H
  have c3b0 : decide (t1002 < 0) = false := decide_eq_false c3
  clear c3
  replace H := Option.bind_eq_some_iff.mp H
  obtain ⟨t1003, A40, H⟩ := H
  try dsimp only at H
  have A4 := Aside0.mk A40
  clear A40
  replace H := Option.bind_eq_some_iff.mp H
  obtain ⟨t1006, A50, H⟩ := H
  try dsimp only at H
  have A5 := Aside0.mk A50
  clear A50
  replace H := Option.bind_eq_some_iff.mp H
  obtain ⟨t1007, A60, H⟩ := H
  try dsimp only at H
  have A6 := Aside0.mk A60
  clear A60
  replace H := Option.bind_eq_some_iff.mp H
  obtain ⟨t1010, A70, H⟩ := H
  try dsimp only at H
  have A7 := Aside0.mk A70
  clear A70
  by_cases c8 : t1010 = t1006
  ·rw [if_pos c8] at H
   have c8b0 : (t1010 == t1006) = true := beq_iff_eq.mpr c8
   have c8b1 : (t1010 != t1006) = false := bne_eq_false_iff_eq.mpr c8
   clear c8
   replace H := Option.bind_eq_some_iff.mp H
   obtain ⟨t1011, A90, H⟩ := H
   try dsimp only at H
   have A9 := Aside0.mk A90
   clear A90
   replace H := Option.bind_eq_some_iff.mp H
   obtain ⟨t1014, A100, H⟩ := H
   try dsimp only at H
   have A10 := Aside0.mk A100
   clear A100
   by_cases c11 : t1014 = true
   ·subst c11
    rw [if_pos rfl] at H
    obtain rfl := Option.some.inj H
    go_enter Try.func7, Try.ntmps7
    go_wp2_with (first | ((with_reducible refine gate_callee (f := 38) rfl ?_); refine goesL_ (some 9) rfl rfl Try.func38 (by kernel_rfl) rfl #[.slice A0 l0.length c0, .int .i64 1048576] rfl lm_ ?_; (with_reducible refine (laws_szEntryS.calls _ _ l0 1048576 t1002 _ ?side1 ?side2 A2.out).mono ?_); (case side1 => repeat (first | exact HR0.out | (with_reducible refine Kd.C_alloc ?_ _) | (with_reducible refine Kd.C_drewN ?_ _) | (with_reducible refine Kd.C_drew ?_))); (case side2 => exact HC0.out); rintro e w' ⟨rfl, ⟨nd, rfl⟩⟩; refine ⟨_, rfl, ?_⟩) | ((with_reducible refine gate_callee (f := 40) rfl ?_); refine goesL_ (some 13) rfl rfl Try.func40 (by kernel_rfl) rfl #[.slice A0 l0.length c0] rfl lm_ ?_; (with_reducible refine (laws_toEntryS.calls k _ _ l0 t1003 _ ?side1 ?side2 A4.out).mono ?_); (case side1 => repeat (first | exact HR0.out | (with_reducible refine Kd.C_alloc ?_ _) | (with_reducible refine Kd.C_drewN ?_ _) | (with_reducible refine Kd.C_drew ?_))); (case side2 => exact HC0.out); rintro e w12 ⟨v1004, rfl, ho0, hb⟩; refine ⟨_, rfl, ?_⟩; have n0_ := Aside0.mk (Kd.R_lower ho0 (below_size bl_)); have n1_ := Aside0.mk (below_step bl_ hb); clear HB; have HO1005 := n0_; have HB := n1_; clear n0_ n1_; (try clear hb); (try clear hb2); (try clear hk); (try clear hi); (try clear ho0); obtain ⟨Ao13, co13, eo13⟩ := Kd.R_slice HO1005.out; subst eo13) | ((with_reducible refine gate_callee (f := 39) rfl ?_); refine goesL_ (some 14) rfl rfl Try.func39 (by kernel_rfl) rfl #[.slice Ao13 t1003.length co13] rfl lm_ ?_; (with_reducible refine (spec_MostTold.calls k _ _ t1003 t1006 _ ?side1 ?side2 A5.out).mono ?_); (case side1 => repeat (first | exact (Kd.R_reads' HO1005.out).2.2 | (with_reducible refine Kd.C_alloc ?_ _) | (with_reducible refine Kd.C_drewN ?_ _) | (with_reducible refine Kd.C_drew ?_))); (case side2 => exact (Kd.R_reads' HO1005.out).2.1); rintro e w14 ⟨rfl, hb⟩; refine ⟨_, rfl, ?_⟩; have n0_ := Aside0.mk (Kd.R_below (ra_ HO1005.out) hb); have n1_ := Aside0.mk (below_step bl_ hb); clear HO1005; clear HB; have HO1005 := n0_; have HB := n1_; clear n0_ n1_; (try clear hb); (try clear hb2); (try clear hk); (try clear hi)) | ((with_reducible refine gate_callee (f := 40) rfl ?_); refine goesL_ (some 16) rfl rfl Try.func40 (by kernel_rfl) rfl #[.slice A0 l0.length c0] rfl lm_ ?_; (with_reducible refine (laws_toEntryS.calls k _ _ l0 t1007 _ ?side1 ?side2 A6.out).mono ?_); (case side1 => repeat (first | exact (Kd.C_below HR0.out HB.out) | exact HR0.out | (with_reducible refine Kd.C_alloc ?_ _) | (with_reducible refine Kd.C_drewN ?_ _) | (with_reducible refine Kd.C_drew ?_))); (case side2 => exact HC0.out); rintro e w15 ⟨v1008, rfl, ho0, hb⟩; refine ⟨_, rfl, ?_⟩; have n0_ := Aside0.mk (Kd.R_elder' (ra_ HO1005.out) (Kd.R_base ho0) hb); have n1_ := Aside0.mk (Kd.R_lower (Kd.R_new' ho0 (Kd.R_lt (ra_ HO1005.out))) (below_size bl_)); have n2_ := Aside0.mk (below_step bl_ hb); clear HO1005; clear HB; have HO1005 := n0_; have HO1009 := n1_; have HB := n2_; clear n0_ n1_ n2_; (try clear hb); (try clear hb2); (try clear hk); (try clear hi); (try clear ho0); obtain ⟨Ao16, co16, eo16⟩ := Kd.R_slice HO1009.out; subst eo16) | ((with_reducible refine gate_callee (f := 41) rfl ?_); refine goesL_ (some 18) rfl rfl Try.func41 (by kernel_rfl) rfl #[.slice Ao16 t1007.length co16] rfl lm_ ?_; (with_reducible refine (impl_MostTold.calls k _ _ t1007 t1010 _ ?side1 ?side2 A7.out).mono ?_); (case side1 => repeat (first | exact (Kd.R_reads' HO1009.out).2.2 | (with_reducible refine Kd.C_alloc ?_ _) | (with_reducible refine Kd.C_drewN ?_ _) | (with_reducible refine Kd.C_drew ?_))); (case side2 => exact (Kd.R_reads' HO1009.out).2.1); rintro e w17 ⟨rfl, hb⟩; refine ⟨_, rfl, ?_⟩; have n0_ := Aside0.mk (Kd.R_below (ra_ HO1005.out) hb); have n1_ := Aside0.mk (Kd.R_below (ra_ HO1009.out) hb); have n2_ := Aside0.mk (below_step bl_ hb); clear HO1005; clear HO1009; clear HB; have HO1005 := n0_; have HO1009 := n1_; have HB := n2_; clear n0_ n1_ n2_; (try clear hb); (try clear hb2); (try clear hk); (try clear hi)) | ((with_reducible refine gate_callee (f := 40) rfl ?_); refine goesL_ (some 24) rfl rfl Try.func40 (by kernel_rfl) rfl #[.slice A0 l0.length c0] rfl lm_ ?_; (with_reducible refine (laws_toEntryS.calls k _ _ l0 t1011 _ ?side1 ?side2 A9.out).mono ?_); (case side1 => repeat (first | exact (Kd.C_below HR0.out HB.out) | exact HR0.out | (with_reducible refine Kd.C_alloc ?_ _) | (with_reducible refine Kd.C_drewN ?_ _) | (with_reducible refine Kd.C_drew ?_))); (case side2 => exact HC0.out); rintro e w18 ⟨v1012, rfl, ho0, hb⟩; refine ⟨_, rfl, ?_⟩; have n0_ := Aside0.mk (Kd.R_elder' (ra_ HO1005.out) (Kd.R_base ho0) hb); have n1_ := Aside0.mk (Kd.R_elder' (ra_ HO1009.out) (Kd.R_base ho0) hb); have n2_ := Aside0.mk (Kd.R_lower (Kd.R_new' (Kd.R_new' ho0 (Kd.R_lt (ra_ HO1005.out))) (Kd.R_lt (ra_ HO1009.out))) (below_size bl_)); have n3_ := Aside0.mk (below_step bl_ hb); clear HO1005; clear HO1009; clear HB; have HO1005 := n0_; have HO1009 := n1_; have HO1013 := n2_; have HB := n3_; clear n0_ n1_ n2_ n3_; (try clear hb); (try clear hb2); (try clear hk); (try clear hi); (try clear ho0); obtain ⟨Ao19, co19, eo19⟩ := Kd.R_slice HO1013.out; subst eo19) | ((with_reducible refine gate_callee (f := 42) rfl ?_); refine goesL_ (some 25) rfl rfl Try.func42 (by kernel_rfl) rfl #[.slice Ao16 t1007.length co16, .slice Ao19 t1011.length co19] rfl lm_ ?_; (with_reducible refine (laws_eqEntryS.calls k _ _ t1007 _ _ t1011 true _ ?side1 ?side2 ?side3 ?side4 A10.out).mono ?_); (case side1 => repeat (first | exact (Kd.R_reads' HO1009.out).2.2 | (with_reducible refine Kd.C_alloc ?_ _) | (with_reducible refine Kd.C_drewN ?_ _) | (with_reducible refine Kd.C_drew ?_))); (case side2 => exact (Kd.R_reads' HO1009.out).2.1); (case side3 => repeat (first | exact (Kd.R_reads' HO1013.out).2.2 | (with_reducible refine Kd.C_alloc ?_ _) | (with_reducible refine Kd.C_drewN ?_ _) | (with_reducible refine Kd.C_drew ?_))); (case side4 => exact (Kd.R_reads' HO1013.out).2.1); rintro e w20 ⟨rfl, hb⟩; refine ⟨_, rfl, ?_⟩; have n0_ := Aside0.mk (Kd.R_below (ra_ HO1005.out) hb); have n1_ := Aside0.mk (Kd.R_below (ra_ HO1009.out) hb); have n2_ := Aside0.mk (Kd.R_below (ra_ HO1013.out) hb); have n3_ := Aside0.mk (below_step bl_ hb); clear HO1005; clear HO1009; clear HO1013; clear HB; have HO1005 := n0_; have HO1009 := n1_; have HO1013 := n2_; have HB := n3_; clear n0_ n1_ n2_ n3_; (try clear hb); (try clear hb2); (try clear hk); (try clear hi)))
    go_ret
    exact ⟨by first | rfl | (simp [errW_none, errW_some] <;> rfl) | (simp [*, errW_none, errW_some] <;> rfl) | exact False.elim (Bool.noConfusion ((decide_eq_true (of_eq_true (by assumption))).symm.trans (by assumption))), bl_⟩
   ·replace c11 := Bool.eq_false_iff.mpr c11
    subst c11
    rw [if_neg (show ¬ (false = true) by decide)] at H
    exact absurd ((Option.some.inj H).trans HR1.out) (by decide)
  ·rw [if_neg c8] at H
   have c8b0 : (t1010 == t1006) = false := beq_eq_false_iff_ne.mpr c8
   have c8b1 : (t1010 != t1006) = true := bne_iff_ne.mpr c8
   exact absurd ((Option.some.inj H).trans HR1.out) (by decide)

end Go.Proofs.Ytmjlhikflhbdaaa.PA

namespace Go.Proofs.Ytmjlhikflhbdaaa.Op
open Go.RowKit Go.Proofs.YtmjlhikflhbdaaaW.PrintWords
set_option linter.unusedVariables false
set_option linter.unusedSimpArgs false

/-- A whole number is one of its kind. -/
abbrev OkInt (k : IntKind) (n : Int) : Prop := (Lit.int k n).wf = true

/-- A value of type t, read as data, is one of the kind d, with G. -/
structure Opens (P : Program) {α : Type} (d : Kd α) (t : TypeId) (G : α → Prop) : Prop where
 sz : d.sz = P.cellsOf t
 op : ∀ {H : Type} {enc : TypeId × Value → H} {w : World} {n : Nat} {cs : List Value} {x : DataW H × List MemPlace},
  DataW.trod enc P w 0 (fun _ => true) true n t cs = some x → ∃ a, d.K w a cs ∧ G a

theorem opInt {P : Program} {t : TypeId} {k : IntKind} (hu : P.underlying t = some (.int k)) (hc : P.cellsOf t = 1) : Opens P (Kd.int k) t (fun n => (Lit.int k n).wf = true) where
 sz := by rw [hc]; rfl
 op := fun h => by
  obtain ⟨n, rfl, _, hw⟩ := DataW.trod_int hu h
  exact ⟨n, rfl, hw⟩

theorem opBool {P : Program} {t : TypeId} (hu : P.underlying t = some .bool) (hc : P.cellsOf t = 1) : Opens P Kd.bool t (fun _ => True) where
 sz := by rw [hc]; rfl
 op := fun h => by
  obtain ⟨n, rfl, _⟩ := DataW.trod_bool hu h
  exact ⟨n, rfl, trivial⟩

theorem opStr {P : Program} {t : TypeId} (hu : P.underlying t = some .string) (hc : P.cellsOf t = 1) : Opens P Kd.string t (fun s => s.size ≤ 9223372036854775807) where
 sz := by rw [hc]; rfl
 op := fun h => by
  obtain ⟨s, rfl, _, hs⟩ := DataW.trod_string hu h
  exact ⟨s, rfl, hs⟩

theorem chooseList {α : Type} {Q : Nat → α → Prop} : ∀ (n : Nat), (∀ i, i < n → ∃ a, Q i a) → ∃ xs : List α, xs.length = n ∧ ∀ i a, xs[i]? = some a → Q i a
 | 0, _ => ⟨[], rfl, fun i a h => by simp at h⟩
 | n + 1, h => by
  obtain ⟨xs, hl, hx⟩ := chooseList n (fun i hi => h i (by omega))
  obtain ⟨a, ha⟩ := h n (by omega)
  refine ⟨xs ++ [a], by simp [hl], fun i b hb => ?_⟩
  by_cases hi : i < n
  ·rw [List.getElem?_append_left (by omega)] at hb
   exact hx i b hb
  ·rw [List.getElem?_append_right (by omega), hl] at hb
   have : i - n = 0 := by
    rcases Nat.eq_zero_or_pos (i - n) with h0 | h0
    ·exact h0
    ·rw [List.getElem?_eq_none (by simp; omega)] at hb
     simp at hb
   rw [this] at hb
   have hin : i = n := by omega
   simp at hb
   rw [hin, ← hb]
   exact ha

theorem cellsAt {w : World} {a : Addr} {n : Nat} {cs : List Value} (h : w.cells? 0 a n = some cs) : cs.length = n ∧ ∀ i u, cs[i]? = some u → w.cell? (a.add i) = some u := by
 unfold World.cells? at h
 rw [if_pos (Nat.zero_le _)] at h
 have hl : cs.length = n := by simpa using mapM_some_length h
 refine ⟨hl, fun i u hu => ?_⟩
 have hi : i < n := by
  rcases Nat.lt_or_ge i n with h1 | h1
  ·exact h1
  ·rw [List.getElem?_eq_none (by omega)] at hu
   simp at hu
 have := mapM_some_get h i i (by simp [hi])
 rw [this, hu]

theorem opSlice {P : Program} {α : Type} {d : Kd α} {t e : TypeId} {G : α → Prop} (hu : P.underlying t = some (.slice e)) (hc : P.cellsOf t = 1) (E : Nat) (o : Opens P d e G) :
 Opens P (Kd.slice E d) t (fun l => (∀ a ∈ l, G a) ∧ l.length ≤ 9223372036854775807) where
 sz := by rw [hc]; rfl
 op := fun {H enc w n cs x} h => by
  rcases DataW.trod_slice hu h with ⟨rfl, _⟩ | ⟨a, len, cap, elems, rest, m, _, rfl, _, _, hl, hcap, hlen, hel, _⟩
  ·exact ⟨[], ⟨none, 0, rfl, Nat.le_refl _, rfl, by simp, fun h0 => by simp at h0⟩, fun a ha => by simp at ha, by simp⟩
  ·have hcap' : cap ≤ 9223372036854775807 := hcap
   have key : ∀ i, i < len → ∃ b, ∃ c, d.K w b c ∧ G b ∧ c.length = d.sz ∧ ∀ j u, c[j]? = some u → w.cell? ((a.add (i * d.sz)).add j) = some u := by
    intro i hi
    have h1 := hel i hi
    rw [List.getElem?_eq_getElem (by omega)] at h1
    obtain ⟨cs', h2, h3⟩ := Option.bind_eq_some_iff.1 h1
    obtain ⟨b, hK, hG⟩ := o.op h3
    obtain ⟨h4, h5⟩ := cellsAt h2
    rw [← o.sz] at h5
    exact ⟨b, cs', hK, hG, d.K_len hK, h5⟩
   obtain ⟨xs, hx, hall⟩ := chooseList len key
   refine ⟨xs, ⟨some a, cap, by rw [hx], by omega, rfl, by omega, fun _ => ⟨a, rfl, fun j p hp => ?_⟩⟩, fun b hb => ?_, by omega⟩
   ·obtain ⟨c, hK, _, hs, hcell⟩ := hall j p hp
    exact ⟨c, hs, hK, fun i u hiu => by rw [← Addr.add_add]; exact hcell i u hiu⟩
   ·obtain ⟨i, hi, rfl⟩ := List.getElem_of_mem hb
    obtain ⟨_, _, hG, _⟩ := hall i _ (List.getElem?_eq_getElem hi)
    exact hG

/-- A struct's fields from one on, one behind the other. -/
structure Fields (P : Program) (off : Nat) (fs : List Field) {α : Type} (d : Kd α) (G : α → Prop) : Prop where
 op : ∀ {H : Type} {enc : TypeId × Value → H} {w : World} {n : Nat} {cs : List Value}, cs.length = off + d.sz →
  (∀ f ∈ fs, ∃ y, DataW.trod enc P w 0 (fun _ => true) true n f.type ((cs.drop f.offset).take (P.cellsOf f.type)) = some y) → ∃ a, d.K w a (cs.drop off) ∧ G a

theorem fieldsOne {P : Program} {off : Nat} {f : Field} {α : Type} {d : Kd α} {G : α → Prop} (o : Opens P d f.type G) (hf : f.offset = off) : Fields P off [f] d G where
 op := fun {H enc w n cs} hl h => by
  obtain ⟨y, hy⟩ := h f (by simp)
  rw [hf, List.take_of_length_le (by rw [← o.sz]; simp; omega)] at hy
  exact o.op hy

theorem fieldsCons {P : Program} {off : Nat} {f : Field} {fs : List Field} {α β : Type} {d : Kd α} {d' : Kd β} {G : α → Prop} {G' : β → Prop} (o : Opens P d f.type G) (hf : f.offset = off) (r : Fields P (off + d.sz) fs d' G') :
 Fields P off (f :: fs) (Kd.pair d d') (fun x => G x.1 ∧ G' x.2) where
 op := fun {H enc w n cs} hl h => by
  have hl' : cs.length = off + (d.sz + d'.sz) := hl
  obtain ⟨y, hy⟩ := h f (by simp)
  rw [hf] at hy
  obtain ⟨a, ha, hg⟩ := o.op hy
  obtain ⟨b, hb, hg'⟩ := r.op (by omega) (fun g hg => h g (by simp [hg]))
  refine ⟨(a, b), ⟨_, _, ?_, ha, hb⟩, hg, hg'⟩
  rw [← o.sz, show cs.drop (off + d.sz) = (cs.drop off).drop d.sz from (List.drop_drop ..).symm]
  exact (List.take_append_drop _ _).symm

theorem opStruct {P : Program} {t : TypeId} {fs : Array Field} {α β : Type} {d : Kd α} {f : β → α} {G : α → Prop} {G' : β → Prop} (hu : P.underlying t = some (.struct fs)) (hc : P.cellsOf t = d.sz)
 (r : Fields P 0 fs.toList d G) (g : α → β) (hfg : ∀ a, f (g a) = a) (hG : ∀ a, G a → G' (g a)) : Opens P (Kd.iso d f) t G' where
 sz := by rw [hc]; rfl
 op := fun {H enc w n cs x} h => by
  obtain ⟨xs, m, rfl, _, hl, hxs, hall⟩ := DataW.trod_struct hu h
  obtain ⟨a, ha, hGa⟩ := r.op (w := w) (n := m) (cs := cs) (by omega) (fun f' hf' => by
   obtain ⟨i, hi, rfl⟩ := List.getElem_of_mem hf'
   have hi' : i < fs.size := by simpa using hi
   have h1 := hall i fs.toList[i] (by simp [hi'])
   rw [List.getElem?_eq_getElem (by omega)] at h1
   exact ⟨_, h1⟩)
  rw [List.drop_zero] at ha
  refine ⟨g a, ?_, hG a hGa⟩
  show d.K w (f (g a)) cs
  rw [hfg]
  exact ha
end Go.Proofs.Ytmjlhikflhbdaaa.Op

namespace Go.Proofs.Ytmjlhikflhbdaaa.PureFnExactMostTold
open Go.RowKit Go.Proofs.Ytmjlhikflhbdaaa.PA
def ok133 (x : S133) : Prop := (Op.OkInt .i64 x.f0) ∧ (Op.OkInt .i64 x.f1) ∧ (Op.OkInt .i64 x.f2) ∧ (Op.OkInt .i64 x.f3)
def ok135 (x : S135) : Prop := (Op.OkInt .i64 x.f0) ∧ (Op.OkInt .i64 x.f1) ∧ (ok133 x.f2)
def Stated : Prop := ∀ (x0 : List S135), ((∀ e_ ∈ x0, ok135 e_) ∧ x0.length ≤ 9223372036854775807) → ∃ k, laws_FnExactMostTold.f k x0 = some true
end Go.Proofs.Ytmjlhikflhbdaaa.PureFnExactMostTold

namespace Go.Proofs.Ytmjlhikflhbdaaa.Kit
open Go.RowKit Go.Proofs.YtmjlhikflhbdaaaW.PrintWords Go.Proofs.YtmjlhikflhbdaaaW.PrintLast Go.Proofs.YtmjlhikflhbdaaaW.PrintMore
set_option linter.unusedVariables false
set_option linter.unusedSimpArgs false

theorem w64 {x : Int} (h0 : -9223372036854775808 ≤ x) (h1 : x ≤ 9223372036854775807) : wrap64 x = x := by unfold wrap64; omega

section
variable {α β : Type}
theorem evSucc {g : Nat → Option α} {r : α} (h : Ev (fun k => g (k + 1)) r) : Ev g r := Ev.step (fun _ => rfl) h
theorem evPos {c : Prop} [Decidable c] {g f : Nat → Option α} {r : α} (hc : c) (h : Ev g r) : Ev (fun k => if c then g k else f k) r := Ev.congr (fun k => if_pos hc) h
theorem evNeg {c : Prop} [Decidable c] {g f : Nat → Option α} {r : α} (hc : ¬ c) (h : Ev f r) : Ev (fun k => if c then g k else f k) r := Ev.congr (fun k => if_neg hc) h
theorem evIte {c : Prop} [Decidable c] {g f : Nat → Option α} {r s : α} (h : c → Ev g r) (h' : ¬ c → Ev f s) : Ev (fun k => if c then g k else f k) (if c then r else s) := by
 by_cases hc : c
 ·rw [if_pos hc]; exact evPos hc (h hc)
 ·rw [if_neg hc]; exact evNeg hc (h' hc)
theorem evSome (r : α) : Ev (fun _ => some r) r := Ev.now r
theorem evEq {g : Nat → Option α} {r s : α} (h : Ev g r) (e : r = s) : Ev g s := e ▸ h
/-- A value that needs no rounds. -/
theorem evBindS {x : Option α} {f : Nat → α → Option β} {a : α} {r : β} (h : x = some a) (k : Ev (fun n => f n a) r) : Ev (fun n => x.bind (f n)) r := by subst h; exact k
theorem evConst {x : Option α} {r : α} (h : x = some r) : Ev (fun _ => x) r := by subst h; exact Ev.now r
end

section
variable {α β : Type}
/-- A loop that counts up: from the last place back to the first. -/
theorem evUp {r : α} (n : Nat) (g : Nat → Nat → Option α) (step : ∀ i, i < n → Ev (g (i + 1)) r → Ev (g i) r) (last : Ev (g n) r) : Ev (g 0) r := by
 have key : ∀ d i, i + d = n → Ev (g i) r := by
  intro d
  induction d with
  | zero => intro i hi; rw [show i = n by omega]; exact last
  | succ d ih => intro i hi; exact step i (by omega) (ih (i + 1) (by omega))
 exact key n 0 (by omega)
theorem fillStep (f : α → β) (z : β) (l : List α) (i : Nat) (hi : i < l.length) :
 ((l.take i).map f ++ List.replicate (l.length - i) z).set i (f l[i]) = (l.take (i + 1)).map f ++ List.replicate (l.length - (i + 1)) z := by
 have h1 : ((l.take i).map f).length = i := by simp; omega
 rw [show l.length - i = (l.length - (i + 1)) + 1 by omega, List.replicate_succ, List.set_append_right _ _ (by omega), h1, Nat.sub_self, List.set_cons_zero,
  List.take_succ_eq_append_getElem hi, List.map_append, List.append_assoc]
 rfl
theorem takeSnoc (l : List α) (i : Nat) (hi : i < l.length) : l.take (i + 1) = l.take i ++ [l[i]] := List.take_succ_eq_append_getElem hi
theorem ci (i : Nat) : (i : Int) + 1 = ((i + 1 : Nat) : Int) := by omega
theorem sizeApp (a b : ByteArray) : (a ++ b).size = a.size + b.size := ByteArray.size_append
end

theorem okI64 {n : Int} (h : (Lit.int .i64 n).wf = true) : -9223372036854775808 ≤ n ∧ n ≤ 9223372036854775807 := by
 simp [Lit.wf, IntKind.min, IntKind.max, IntKind.signed, IntKind.bits] at h
 omega
end Go.Proofs.Ytmjlhikflhbdaaa.Kit

namespace Go.Proofs.Ytmjlhikflhbdaaa.Pure
open Go.RowKit Go.Proofs.Ytmjlhikflhbdaaa.PA Go.Proofs.YtmjlhikflhbdaaaW.PrintWords Go.Proofs.YtmjlhikflhbdaaaW.PrintLast Go.Proofs.YtmjlhikflhbdaaaW.PrintMore Go.Proofs.Ytmjlhikflhbdaaa.Kit Go.Proofs.Ytmjlhikflhbdaaa.PureFnExactMostTold
set_option linter.unusedVariables false
set_option linter.unusedSimpArgs false
def cvEntry (x : S135) : S131 := ⟨x.f0, x.f1, ⟨x.f2.f0, x.f2.f1, x.f2.f2, x.f2.f3⟩⟩
theorem rdLE (l : List S135) (i : Nat) (hi : i < l.length) : rd_T135 l (i : Int) = l[i] := by simp [rd_T135, hi]
theorem rdE (l : List S131) (i : Nat) (hi : i < l.length) : rd_T131 l (i : Int) = l[i] := by simp [rd_T131, hi]
theorem ev_toEntryS (l : List S135) (hl : l.length ≤ 1048576) : Ev (fun k => laws_toEntryS.f k l) (l.map cvEntry) := by
 have key := evUp (r := l.map cvEntry) l.length (fun i k => laws_toEntryS.l0 k l ((l.take i).map cvEntry ++ List.replicate (l.length - i) z131) (i : Int)) ?_ ?_
 ·refine Ev.congr (fun k => ?_) key
  unfold laws_toEntryS.f
  rw [if_pos (by omega), if_pos (by omega)]
  simp
 ·intro i hi ih
  refine evSucc ?_
  simp only [laws_toEntryS.l0]
  refine evPos (by omega) (evPos (by omega) ?_)
  simp only [laws_toEntry.f, laws_toItem.f, Option.bind_some, rdLE l i hi]
  refine evPos (by simp; omega) ?_
  rw [w64 (by omega) (by omega), ci, Int.toNat_natCast]
  rw [show (⟨l[i].f0, l[i].f1, ⟨l[i].f2.f0, l[i].f2.f1, l[i].f2.f2, l[i].f2.f3⟩⟩ : S131) = cvEntry l[i] from rfl, fillStep cvEntry _ l i hi]
  exact ih
 ·refine evSucc ?_
  simp only [laws_toEntryS.l0]
  refine evNeg (by omega) ?_
  simp
  exact Ev.now _
theorem eqEntryRefl (a b c d e f : Int) : laws_eqEntry.f a b c d e f a b c d e f = some true := by simp [laws_eqEntry.f, laws_eqItem.f]
theorem ev_eqEntryS (l : List S131) (hl : l.length ≤ 1048576) : Ev (fun k => laws_eqEntryS.f k l l) true := by
 have key := evUp (r := true) l.length (fun i k => laws_eqEntryS.l0 k l l (i : Int)) ?_ ?_
 ·refine Ev.congr (fun k => ?_) key
  unfold laws_eqEntryS.f
  rw [if_pos rfl]
  rfl
 ·intro i hi ih
  refine evSucc ?_
  simp only [laws_eqEntryS.l0]
  refine evPos (by omega) (evPos (by omega) (evPos (by omega) ?_))
  simp only [eqEntryRefl, Option.bind_some, if_true]
  rw [w64 (by omega) (by omega), ci]
  exact ih
 ·refine evSucc ?_
  simp only [laws_eqEntryS.l0]
  exact evNeg (by omega) (Ev.now _)
theorem szEntryS_small (l : List S135) (h : l.length ≤ 1048576) : laws_szEntryS.f l 1048576 = some (1048576 - (l.length : Int)) := by
 unfold laws_szEntryS.f
 rw [w64 (by omega) (by omega), if_neg (by omega)]
theorem szEntryS_big (l : List S135) (h : 1048576 < l.length) (hb : l.length ≤ 9223372036854775807) : laws_szEntryS.f l 1048576 = some (-1) := by
 unfold laws_szEntryS.f
 rw [w64 (by omega) (by omega), if_pos (by omega)]
def StrictS (l : List Int) : Prop := l.Pairwise (· < ·)
theorem strict_eq : ∀ (a b : List Int), StrictS a → StrictS b → (∀ x, x ∈ a ↔ x ∈ b) → a = b := by
 intro a
 induction a with
 | nil =>
  intro b _ _ h
  cases b with
  | nil => rfl
  | cons y b => exact absurd ((h y).2 (List.mem_cons_self ..)) (List.not_mem_nil)
 | cons x a ih =>
  intro b ha hb h
  cases b with
  | nil => exact absurd ((h x).1 (List.mem_cons_self ..)) (List.not_mem_nil)
  | cons y b =>
   have ha' := List.pairwise_cons.1 ha
   have hb' := List.pairwise_cons.1 hb
   have hxy : x = y := by
    rcases List.mem_cons.1 ((h x).1 (List.mem_cons_self ..)) with e | e
    ·exact e
    ·rcases List.mem_cons.1 ((h y).2 (List.mem_cons_self ..)) with e2 | e2
     ·exact e2.symm
     ·have h1 := hb'.1 x e
      have h2 := ha'.1 y e2
      omega
   subst hxy
   rw [ih b ha'.2 hb'.2 (fun z => ?_)]
   constructor
   ·intro hz
    rcases List.mem_cons.1 ((h z).1 (List.mem_cons_of_mem _ hz)) with e | e
    ·have := ha'.1 z hz; omega
    ·exact e
   ·intro hz
    rcases List.mem_cons.1 ((h z).2 (List.mem_cons_of_mem _ hz)) with e | e
    ·have := hb'.1 z hz; omega
    ·exact e
def insS (x : Int) : List Int → List Int
 | [] => [x]
 | y :: l => if x < y then x :: y :: l else y :: insS x l
theorem insS_mem (x : Int) : ∀ l z, z ∈ insS x l ↔ z = x ∨ z ∈ l := by
 intro l
 induction l with
 | nil => intro z; simp [insS]
 | cons y l ih =>
  intro z
  unfold insS
  split
  ·rw [List.mem_cons]
  ·rw [List.mem_cons, ih z, List.mem_cons]
   constructor
   ·rintro (e | e | e)
    ·exact Or.inr (Or.inl e)
    ·exact Or.inl e
    ·exact Or.inr (Or.inr e)
   ·rintro (e | e | e)
    ·exact Or.inr (Or.inl e)
    ·exact Or.inl e
    ·exact Or.inr (Or.inr e)
theorem insS_strict (x : Int) : ∀ l, StrictS l → x ∉ l → StrictS (insS x l) := by
 intro l
 induction l with
 | nil => intro _ _; exact List.pairwise_singleton _ _
 | cons y l ih =>
  intro h hx
  have h' := List.pairwise_cons.1 h
  unfold insS
  split
  ·rename_i hlt
   refine List.pairwise_cons.2 ⟨fun z hz => ?_, h⟩
   rcases List.mem_cons.1 hz with e | e
   ·omega
   ·have := h'.1 z e; omega
  ·rename_i hlt
   refine List.pairwise_cons.2 ⟨fun z hz => ?_, ih h'.2 (fun e => hx (List.mem_cons_of_mem _ e))⟩
   rcases (insS_mem x l z).1 hz with e | e
   ·have : x ≠ y := fun e2 => hx (by rw [e2]; exact List.mem_cons_self ..)
    omega
   ·exact h'.1 z e
theorem insS_len (x : Int) : ∀ l, (insS x l).length = l.length + 1 := by
 intro l
 induction l with
 | nil => rfl
 | cons y l ih =>
  unfold insS
  split
  ·rfl
  ·rw [List.length_cons, ih, List.length_cons]
def putAll : List Int → List Int → List Int
 | [], acc => acc
 | x :: l, acc => putAll l (if x ∈ acc then acc else insS x acc)
theorem putAll_law : ∀ l acc, StrictS acc → StrictS (putAll l acc) ∧ ∀ z, z ∈ putAll l acc ↔ z ∈ acc ∨ z ∈ l := by
 intro l
 induction l with
 | nil => intro acc h; exact ⟨h, fun z => by simp [putAll]⟩
 | cons x l ih =>
  intro acc h
  unfold putAll
  by_cases hx : x ∈ acc
  ·rw [if_pos hx]
   obtain ⟨h1, h2⟩ := ih acc h
   refine ⟨h1, fun z => ?_⟩
   rw [h2 z, List.mem_cons]
   constructor
   ·rintro (e | e)
    ·exact Or.inl e
    ·exact Or.inr (Or.inr e)
   ·rintro (e | e | e)
    ·exact Or.inl e
    ·rw [e]; exact Or.inl hx
    ·exact Or.inr e
  ·rw [if_neg hx]
   obtain ⟨h1, h2⟩ := ih (insS x acc) (insS_strict x acc h hx)
   refine ⟨h1, fun z => ?_⟩
   rw [h2 z, insS_mem, List.mem_cons]
   constructor
   ·rintro ((e | e) | e)
    ·exact Or.inr (Or.inl e)
    ·exact Or.inl e
    ·exact Or.inr (Or.inr e)
   ·rintro (e | e | e)
    ·exact Or.inl (Or.inr e)
    ·exact Or.inl (Or.inl e)
    ·exact Or.inr e
theorem putAll_len : ∀ l acc, (putAll l acc).length ≤ acc.length + l.length := by
 intro l
 induction l with
 | nil => intro acc; exact Nat.le_refl _
 | cons x l ih =>
  intro acc
  unfold putAll
  split
  ·have := ih acc; rw [List.length_cons]; omega
  ·have := ih (insS x acc); rw [insS_len] at this; rw [List.length_cons]; omega
def srtS (l : List Int) : List Int := l.mergeSort fun x y => decide (x ≤ y)
theorem srtS_len (l : List Int) : (srtS l).length = l.length := List.length_mergeSort _
theorem srtS_mem (l : List Int) (z : Int) : z ∈ srtS l ↔ z ∈ l := (List.mergeSort_perm l _).mem_iff
theorem srtS_sorted (l : List Int) : (srtS l).Pairwise (· ≤ ·) := by
 have := List.pairwise_mergeSort (le := fun x y : Int => decide (x ≤ y)) (fun a b c h1 h2 => by simp at *; omega) (fun a b => by simp; omega) l
 exact this.imp (fun h => by simpa using h)
theorem sorted_at (d : List Int) (h : d.Pairwise (· ≤ ·)) (i j : Nat) (hij : i ≤ j) (hj : j < d.length) : d.toArray[i]! ≤ d.toArray[j]! := by
 rcases Nat.lt_or_eq_of_le hij with hlt | rfl
 ·have := (List.pairwise_iff_getElem.1 h) i j (by omega) hj hlt
  simp [hj, show i < d.length by omega]
  exact this
 ·exact Int.le_refl _
theorem upTo_law (d : List Int) (h : d.Pairwise (· ≤ ·)) : ∀ m, m ≤ d.length → StrictS (Go.Lib.compactUpTo d.toArray m) ∧ (∀ z, z ∈ Go.Lib.compactUpTo d.toArray m ↔ ∃ j, j < m ∧ d.toArray[j]! = z) := by
 intro m
 induction m with
 | zero =>
  intro _
  refine ⟨List.Pairwise.nil, fun z => ?_⟩
  constructor
  ·intro hz; exact absurd hz (by simp [Go.Lib.compactUpTo])
  ·rintro ⟨j, hj, _⟩; omega
 | succ m ih =>
  intro hm
  obtain ⟨h1, h2⟩ := ih (by omega)
  rw [Go.Lib.compactUpTo_succ]
  by_cases hk : Go.Lib.keeps d.toArray m = true
  ·rw [if_pos hk]
   refine ⟨?_, fun z => ?_⟩
   ·refine List.pairwise_append.2 ⟨h1, List.pairwise_singleton _ _, fun x hx y hy => ?_⟩
    rw [List.mem_singleton] at hy
    subst hy
    obtain ⟨j, hj, rfl⟩ := (h2 x).1 hx
    have hne : d.toArray[m]! ≠ d.toArray[m - 1]! := by
     unfold Go.Lib.keeps at hk
     rw [decide_eq_true_eq] at hk
     rcases hk with e | e
     ·omega
     ·exact e
    have a1 := sorted_at d h j (m - 1) (by omega) (by omega)
    have a2 := sorted_at d h (m - 1) m (by omega) (by omega)
    omega
   ·rw [List.mem_append, h2 z, List.mem_singleton]
    constructor
    ·rintro (⟨j, hj, e⟩ | e)
     ·exact ⟨j, by omega, e⟩
     ·exact ⟨m, by omega, e.symm⟩
    ·rintro ⟨j, hj, e⟩
     by_cases hjm : j = m
     ·subst hjm; exact Or.inr e.symm
     ·exact Or.inl ⟨j, by omega, e⟩
  ·rw [if_neg hk, List.append_nil]
   refine ⟨h1, fun z => ?_⟩
   rw [h2 z]
   have hk' : ¬ (m = 0 ∨ d.toArray[m]! ≠ d.toArray[m - 1]!) := by
    intro c; apply hk; unfold Go.Lib.keeps; exact decide_eq_true c
   constructor
   ·rintro ⟨j, hj, e⟩; exact ⟨j, by omega, e⟩
   ·rintro ⟨j, hj, e⟩
    by_cases hjm : j = m
    ·subst hjm
     refine ⟨j - 1, by omega, ?_⟩
     rw [← e]
     apply Classical.byContradiction
     intro hn
     exact hk' (Or.inr (fun z => hn z.symm))
    ·exact ⟨j, by omega, e⟩
theorem compact_putAll (l : List Int) : Go.Lib.compact (srtS l) = putAll l [] := by
 obtain ⟨h1, h2⟩ := upTo_law (srtS l) (srtS_sorted l) (srtS l).length (Nat.le_refl _)
 obtain ⟨h3, h4⟩ := putAll_law l [] List.Pairwise.nil
 refine strict_eq _ _ h1 h3 (fun z => ?_)
 rw [h4 z]
 show z ∈ Go.Lib.compactUpTo (srtS l).toArray (srtS l).length ↔ _
 rw [h2 z]
 constructor
 ·rintro ⟨j, hj, e⟩
  refine Or.inr ((srtS_mem l z).1 ?_)
  rw [← e]
  simp [hj]
 ·rintro (e | e)
  ·cases e
  ·obtain ⟨j, hj, e2⟩ := List.getElem_of_mem ((srtS_mem l z).2 e)
   exact ⟨j, hj, by simp [hj]; exact e2⟩
theorem rdI (l : List Int) (i : Nat) (hi : i < l.length) : rd l (i : Int) = l[i] := by simp [rd, hi]
theorem ev_l09In (l : List Int) (x : Int) (hl : l.length ≤ 4194304) : Ev (fun k => spec_l09In.f k l x) (decide (x ∈ l)) := by
 have key : ∀ d i, i + d = l.length → Ev (fun k => spec_l09In.l0 k l x (i : Int)) (decide (x ∈ l.drop i)) := by
  intro d
  induction d with
  | zero =>
   intro i hi
   refine evSucc ?_
   simp only [spec_l09In.l0]
   rw [List.drop_of_length_le (by omega)]
   exact evNeg (by omega) (evEq (Ev.now _) (by simp))
  | succ d ih =>
   intro i hi
   have hlt : i < l.length := by omega
   refine evSucc ?_
   simp only [spec_l09In.l0]
   refine evPos (by omega) (evPos (by omega) ?_)
   rw [rdI l i hlt, w64 (by omega) (by omega), ci, List.drop_eq_getElem_cons hlt]
   by_cases hc : l[i] = x
   ·exact evPos hc (evEq (Ev.now _) (by rw [hc]; simp))
   ·refine evNeg hc (evEq (ih (i + 1) (by omega)) ?_)
    rw [Bool.eq_iff_iff, decide_eq_true_eq, decide_eq_true_eq, List.mem_cons]
    exact ⟨fun h => Or.inr h, fun h => h.elim (fun e => absurd e.symm hc) id⟩
 exact key l.length 0 (by omega)
theorem ev_l23Put (l : List Int) (x : Int) (hl : l.length ≤ 4194304) : Ev (fun k => spec_l23Put.f k l x) (insS x l) := by
 have put : ∀ d i out, i + d = l.length → out.length ≤ i + 1 → Ev (fun k => spec_l23Put.l0 k l x out true (i : Int)) (out ++ l.drop i) := by
  intro d
  induction d with
  | zero =>
   intro i out hi ho
   refine evSucc ?_
   simp only [spec_l23Put.l0]
   rw [List.drop_of_length_le (by omega), List.append_nil]
   exact evNeg (by omega) (evPos trivial (Ev.now _))
  | succ d ih =>
   intro i out hi ho
   have hlt : i < l.length := by omega
   refine evSucc ?_
   simp only [spec_l23Put.l0]
   refine evPos (by omega) (evPos trivial (evPos (by omega) (evPos (by omega) ?_)))
   rw [rdI l i hlt, w64 (by omega) (by omega), ci]
   refine evEq (ih (i + 1) (out ++ [l[i]]) (by omega) (by rw [List.length_append, List.length_singleton]; omega)) ?_
   rw [List.drop_eq_getElem_cons hlt, List.append_assoc]
   rfl
 have key : ∀ d i out, i + d = l.length → out.length ≤ i → Ev (fun k => spec_l23Put.l0 k l x out false (i : Int)) (out ++ insS x (l.drop i)) := by
  intro d
  induction d with
  | zero =>
   intro i out hi ho
   refine evSucc ?_
   simp only [spec_l23Put.l0]
   rw [List.drop_of_length_le (by omega)]
   exact evNeg (by omega) (evNeg (by simp) (evPos (by omega) (Ev.now _)))
  | succ d ih =>
   intro i out hi ho
   have hlt : i < l.length := by omega
   refine evSucc ?_
   simp only [spec_l23Put.l0]
   refine evPos (by omega) (evNeg (by simp) (evPos (by omega) ?_))
   rw [rdI l i hlt, w64 (by omega) (by omega), ci, List.drop_eq_getElem_cons hlt]
   unfold insS
   by_cases hc : x < l[i]
   ·rw [if_pos hc]
    refine evPos hc (evPos (by omega) ?_)
    simp only [Option.bind_some]
    refine evPos (by rw [List.length_append, List.length_singleton]; omega) ?_
    refine evEq (put d (i + 1) ((out ++ [x]) ++ [l[i]]) (by omega) (by rw [List.length_append, List.length_append, List.length_singleton, List.length_singleton]; omega)) ?_
    rw [List.append_assoc, List.append_assoc]
    rfl
   ·rw [if_neg hc]
    refine evNeg hc (evPos (by omega) ?_)
    refine evEq (ih (i + 1) (out ++ [l[i]]) (by omega) (by rw [List.length_append, List.length_singleton]; omega)) ?_
    rw [List.append_assoc]
    rfl
 exact key l.length 0 [] (by omega) (Nat.le_refl _)
theorem sort_f (l : List Int) (h : l.length ≤ 4194304) : slices_Sort_int_int.f l = some (srtS l) := if_pos (by omega)
def evB (e : S131) : Bool := e.f2.f0 == 1
def evN (e : S131) : Int := e.f2.f1
def evsL (L : List S131) : List Int := (L.filter evB).map evN
def cntI (x : Int) : List Int → Nat
 | [] => 0
 | y :: l => (if y = x then 1 else 0) + cntI x l
theorem cntI_append (x : Int) : ∀ a b, cntI x (a ++ b) = cntI x a + cntI x b := by
 intro a
 induction a with
 | nil => intro b; simp [cntI]
 | cons y a ih =>
  intro b
  show (if y = x then 1 else 0) + cntI x (a ++ b) = ((if y = x then 1 else 0) + cntI x a) + cntI x b
  rw [ih b, Nat.add_assoc]
theorem cntI_perm (x : Int) {a b : List Int} (h : a.Perm b) : cntI x a = cntI x b := by
 induction h with
 | nil => rfl
 | cons y _ ih => unfold cntI; rw [ih]
 | swap y z l => unfold cntI cntI; omega
 | trans _ _ i1 i2 => rw [i1, i2]
theorem cntI_none (x : Int) : ∀ l, x ∉ l → cntI x l = 0 := by
 intro l
 induction l with
 | nil => intro _; rfl
 | cons y l ih =>
  intro h
  unfold cntI
  rw [if_neg (fun e => h (by rw [e]; exact List.mem_cons_self ..)), ih (fun e => h (List.mem_cons_of_mem _ e))]
theorem cntI_pos (x : Int) : ∀ l, x ∈ l → 0 < cntI x l := by
 intro l
 induction l with
 | nil => intro h; cases h
 | cons y l ih =>
  intro h
  unfold cntI
  rcases List.mem_cons.1 h with e | e
  ·rw [if_pos e.symm]; omega
  ·have := ih e; omega
theorem cntI_le (x : Int) : ∀ l, cntI x l ≤ l.length := by
 intro l
 induction l with
 | nil => exact Nat.le_refl _
 | cons y l ih => unfold cntI; rw [List.length_cons]; split <;> omega
def talOf (ns : List Int) (L : List Int) : List S65 := ns.map (fun n => ⟨n, (cntI n L : Int)⟩)
def tallies (L : List S131) : List S65 := talOf (putAll (evsL L) []) (evsL L)
theorem rdT (l : List S65) (i : Nat) (hi : i < l.length) : rd_T65 l (i : Int) = l[i] := by simp [rd_T65, hi]
theorem evsL_len (L : List S131) : (evsL L).length ≤ L.length := by
 unfold evsL
 rw [List.length_map]
 exact List.length_filter_le _ _
theorem tallies_len (L : List S131) : (tallies L).length ≤ L.length := by
 unfold tallies talOf
 have := putAll_len (evsL L) []
 have := evsL_len L
 rw [List.length_map]
 rw [List.length_nil] at *
 omega
theorem ev_spec_TalliesOf (L : List S131) (hL : L.length ≤ 1048576) : Ev (fun k => spec_TalliesOf.f k L) (tallies L) := by
 have third : ∀ (ns : List Int) (hns : ns.length ≤ 1048576) (out : List S65) (j : Nat) (hj : j < ns.length) (ho : out.length ≤ 1048576) (r : List S65),
  Ev (fun k => spec_TalliesOf.l1 k L ns (out ++ [⟨ns[j], (cntI ns[j] (evsL L) : Int)⟩]) ((j + 1 : Nat) : Int)) r → Ev (fun k => spec_TalliesOf.l2 k L ns out (j : Int) 0 0) r := by
  intro ns hns out j hj ho r hr
  have key : ∀ d i, i + d = L.length → Ev (fun k => spec_TalliesOf.l2 k L ns out (j : Int) (cntI ns[j] (evsL (L.take i)) : Int) (i : Int)) r := by
   intro d
   induction d with
   | zero =>
    intro i hi
    obtain rfl : i = L.length := by omega
    refine evSucc ?_
    simp only [spec_TalliesOf.l2]
    rw [List.take_length]
    refine evNeg (by omega) (evPos (by omega) (evPos (by omega) (evPos (by omega) ?_)))
    rw [rdI ns j hj, w64 (by omega) (by omega), ci]
    exact hr
   | succ d ih =>
    intro i hi
    have hlt : i < L.length := by omega
    have hc := cntI_le ns[j] (evsL (L.take i))
    have hc2 := evsL_len (L.take i)
    rw [List.length_take] at hc2
    refine evSucc ?_
    simp only [spec_TalliesOf.l2]
    refine evPos (by omega) (evPos (by omega) ?_)
    rw [rdE L i hlt, w64 (x := (i : Int) + 1) (by omega) (by omega), w64 (x := (cntI ns[j] (evsL (L.take i)) : Int) + 1) (by omega) (by omega), ci i]
    have nxt := ih (i + 1) (by omega)
    have hs : evsL (L.take (i + 1)) = evsL (L.take i) ++ (if evB L[i] = true then [evN L[i]] else []) := by
     rw [takeSnoc L i hlt]
     unfold evsL
     rw [List.filter_append, List.map_append]
     congr 1
     cases h : evB L[i] <;> simp [List.filter, h]
    by_cases h1 : L[i].f2.f0 = 1
    ·have hb : evB L[i] = true := beq_iff_eq.2 h1
     rw [hs, if_pos hb, cntI_append] at nxt
     refine evPos h1 (evPos (by omega) (evPos (by omega) ?_))
     rw [rdI ns j hj]
     by_cases h2 : L[i].f2.f1 = ns[j]
     ·refine evPos h2 ?_
      have e : cntI ns[j] [evN L[i]] = 1 := by unfold cntI cntI; rw [if_pos (show evN L[i] = ns[j] from h2)]
      rw [e, show ((cntI ns[j] (evsL (L.take i)) + 1 : Nat) : Int) = (cntI ns[j] (evsL (L.take i)) : Int) + 1 by omega] at nxt
      exact nxt
     ·refine evNeg h2 ?_
      have e : cntI ns[j] [evN L[i]] = 0 := by unfold cntI cntI; rw [if_neg (show ¬ evN L[i] = ns[j] from h2)]
      rw [e, Nat.add_zero] at nxt
      exact nxt
    ·have hb : evB L[i] = false := beq_eq_false_iff_ne.2 h1
     rw [hs, if_neg (by rw [hb]; decide), List.append_nil] at nxt
     exact evNeg h1 nxt
  exact key L.length 0 (by omega)
 have second : ∀ (ns : List Int) (hns : ns.length ≤ 1048576), Ev (fun k => spec_TalliesOf.l1 k L ns [] 0) (talOf ns (evsL L)) := by
  intro ns hns
  have key : ∀ d j, j + d = ns.length → Ev (fun k => spec_TalliesOf.l1 k L ns (talOf (ns.take j) (evsL L)) (j : Int)) (talOf ns (evsL L)) := by
   intro d
   induction d with
   | zero =>
    intro j hj
    obtain rfl : j = ns.length := by omega
    refine evSucc ?_
    simp only [spec_TalliesOf.l1]
    rw [List.take_length]
    exact evNeg (by omega) (Ev.now _)
   | succ d ih =>
    intro j hj
    have hlt : j < ns.length := by omega
    refine evSucc ?_
    simp only [spec_TalliesOf.l1]
    refine evPos (by omega) (third ns hns _ j hlt (by unfold talOf; rw [List.length_map, List.length_take]; omega) _ ?_)
    have := ih (j + 1) (by omega)
    rw [takeSnoc ns j hlt] at this
    unfold talOf at this ⊢
    rw [List.map_append] at this
    exact this
  exact key ns.length 0 (by omega)
 have key : ∀ d i acc, i + d = L.length → acc.length ≤ i → Ev (fun k => spec_TalliesOf.l0 k L acc (i : Int)) (talOf (putAll (evsL (L.drop i)) acc) (evsL L)) := by
  intro d
  induction d with
  | zero =>
   intro i acc hi ha
   refine evSucc ?_
   simp only [spec_TalliesOf.l0]
   rw [List.drop_of_length_le (by omega)]
   exact evNeg (by omega) (second acc (by omega))
  | succ d ih =>
   intro i acc hi ha
   have hlt : i < L.length := by omega
   refine evSucc ?_
   simp only [spec_TalliesOf.l0]
   refine evPos (by omega) (evPos (by omega) ?_)
   rw [rdE L i hlt, w64 (by omega) (by omega), ci, List.drop_eq_getElem_cons hlt]
   by_cases h1 : L[i].f2.f0 = 1
   ·have hb : evB L[i] = true := beq_iff_eq.2 h1
    have he : evsL (L[i] :: L.drop (i + 1)) = evN L[i] :: evsL (L.drop (i + 1)) := by unfold evsL; rw [List.filter_cons_of_pos hb]; rfl
    rw [he]
    refine evPos h1 (Ev.bind (ev_l09In acc L[i].f2.f1 (by omega)) ?_)
    unfold putAll
    by_cases hc : L[i].f2.f1 ∈ acc
    ·refine evPos (decide_eq_true hc) ?_
     rw [show evN L[i] = L[i].f2.f1 from rfl, if_pos hc]
     exact ih (i + 1) acc (by omega) (by omega)
    ·refine evNeg (by rw [decide_eq_true_eq]; exact hc) ?_
     rw [show evN L[i] = L[i].f2.f1 from rfl, if_neg hc]
     exact Ev.bind (ev_l23Put acc L[i].f2.f1 (by omega)) (ih (i + 1) _ (by omega) (by rw [insS_len]; omega))
   ·have hb : evB L[i] = false := beq_eq_false_iff_ne.2 h1
    have he : evsL (L[i] :: L.drop (i + 1)) = evsL (L.drop (i + 1)) := by unfold evsL; rw [List.filter_cons_of_neg (by rw [hb]; decide)]
    rw [he]
    exact evNeg h1 (ih (i + 1) acc (by omega) (by omega))
 exact key L.length 0 [] (by omega) (Nat.le_refl _)
theorem talOf_snoc (p : List Int) (x : Int) (T : List Int) : talOf (p ++ [x]) T = talOf p T ++ [⟨x, (cntI x T : Int)⟩] := by unfold talOf; rw [List.map_append]; rfl
theorem talOf_same (x : Int) (T : List Int) : ∀ p : List Int, (∀ n ∈ p, n ≠ x) → talOf p (T ++ [x]) = talOf p T := by
 intro p h
 unfold talOf
 refine List.map_congr_left (fun n hn => ?_)
 rw [cntI_append]
 have e : cntI n [x] = 0 := by unfold cntI cntI; rw [if_neg (fun z => h n hn z.symm)]
 rw [e, Nat.add_zero]
theorem talOf_len (p T : List Int) : (talOf p T).length = p.length := by unfold talOf; rw [List.length_map]
theorem bang_at (S : List Int) (i : Nat) (h : i < S.length) : S.toArray[i]! = S[i] := by simp [h]
theorem upTo_last (S : List Int) : ∀ m, m < S.length → ∃ p, Go.Lib.compactUpTo S.toArray (m + 1) = p ++ [S.toArray[m]!] := by
 intro m
 induction m with
 | zero =>
  intro h
  refine ⟨[], ?_⟩
  rw [Go.Lib.compactUpTo_succ, if_pos (show Go.Lib.keeps S.toArray 0 = true by unfold Go.Lib.keeps; exact decide_eq_true (Or.inl rfl))]
  rfl
 | succ m ih =>
  intro h
  rw [Go.Lib.compactUpTo_succ]
  by_cases hk : Go.Lib.keeps S.toArray (m + 1) = true
  ·rw [if_pos hk]
   exact ⟨_, rfl⟩
  ·rw [if_neg hk, List.append_nil]
   obtain ⟨p, hp⟩ := ih (by omega)
   refine ⟨p, ?_⟩
   have he : S.toArray[m + 1]! = S.toArray[m]! := by
    apply Classical.byContradiction
    intro hn
    exact hk (by unfold Go.Lib.keeps; exact decide_eq_true (Or.inr (by rw [Nat.add_sub_cancel]; exact hn)))
   rw [he]
   exact hp
theorem upTo_le (d : Array Int) : ∀ m, (Go.Lib.compactUpTo d m).length ≤ m := by
 intro m
 induction m with
 | zero => simp [Go.Lib.compactUpTo]
 | succ m ih =>
  rw [Go.Lib.compactUpTo_succ, List.length_append]
  split
  ·rw [List.length_singleton]; omega
  ·rw [List.length_nil]; omega
theorem ev_impl_runs (S : List Int) (hS : S.Pairwise (· ≤ ·)) (hl : S.length ≤ 1048576) : Ev (fun k => impl_TalliesOf.l1 k [] S (S.length : Int) 0) (talOf (Go.Lib.compact S) S) := by
 have key := evUp (r := talOf (Go.Lib.compact S) S) S.length (fun m k => impl_TalliesOf.l1 k (talOf (Go.Lib.compactUpTo S.toArray m) (S.take m)) S (S.length : Int) (m : Int)) ?_ ?_
 ·refine Ev.congr (fun k => ?_) key
  rfl
 ·intro m hm ih
  have hle := upTo_le S.toArray m
  obtain ⟨hst, hmem⟩ := upTo_law S hS m (by omega)
  have hst1 := (upTo_law S hS (m + 1) (by omega)).1
  have htake : S.take (m + 1) = S.take m ++ [S[m]] := takeSnoc S m hm
  refine evSucc ?_
  simp only [impl_TalliesOf.l1]
  refine evPos (by omega) (evPos (by omega) (evPos (by omega) ?_))
  rw [rdI S m hm, w64 (x := (m : Int) + 1) (by omega) (by omega), ci m, talOf_len]
  rw [Go.Lib.compactUpTo_succ, bang_at S m hm] at hst1 ih
  have fresh : Go.Lib.keeps S.toArray m = true → Ev (fun k => impl_TalliesOf.l1 k (talOf (Go.Lib.compactUpTo S.toArray m) (S.take m) ++ [⟨S[m], 1⟩]) S (S.length : Int) ((m + 1 : Nat) : Int)) (talOf (Go.Lib.compact S) S) := by
   intro hk
   rw [if_pos hk] at hst1 ih
   have hne : ∀ n ∈ Go.Lib.compactUpTo S.toArray m, n ≠ S[m] := by
    intro n hn e
    have := (List.pairwise_append.1 hst1).2.2 n hn S[m] (List.mem_singleton.2 rfl)
    omega
   have hno : S[m] ∉ S.take m := by
    intro hin
    obtain ⟨j, hj, e⟩ := List.getElem_of_mem hin
    rw [List.length_take] at hj
    rw [List.getElem_take] at e
    exact hne S[m] ((hmem S[m]).2 ⟨j, by omega, by rw [bang_at S j (by omega)]; exact e⟩) rfl
   rw [talOf_snoc, htake, talOf_same _ _ _ hne, cntI_append, cntI_none _ _ hno, show cntI S[m] [S[m]] = 1 by unfold cntI cntI; rw [if_pos rfl]] at ih
   exact ih
  cases m with
  | zero =>
   rw [show (Go.Lib.compactUpTo S.toArray 0).length = 0 by simp [Go.Lib.compactUpTo]]
   refine evNeg (by omega) (evPos (by omega) ?_)
   exact fresh (by unfold Go.Lib.keeps; exact decide_eq_true (Or.inl rfl))
  | succ q =>
   obtain ⟨p, hp⟩ := upTo_last S q (by omega)
   rw [bang_at S q (by omega)] at hp
   have hpl : (Go.Lib.compactUpTo S.toArray (q + 1)).length = p.length + 1 := by rw [hp, List.length_append, List.length_singleton]
   have hlast : wrap64 (((Go.Lib.compactUpTo S.toArray (q + 1)).length : Int) - 1) = (p.length : Int) := by rw [w64 (by omega) (by omega)]; omega
   rw [hlast]
   have hout : talOf (Go.Lib.compactUpTo S.toArray (q + 1)) (S.take (q + 1)) = talOf p (S.take (q + 1)) ++ [⟨S[q], (cntI S[q] (S.take (q + 1)) : Int)⟩] := by rw [hp, talOf_snoc]
   have hrd : rd_T65 (talOf (Go.Lib.compactUpTo S.toArray (q + 1)) (S.take (q + 1))) (p.length : Int) = ⟨S[q], (cntI S[q] (S.take (q + 1)) : Int)⟩ := by
    have hl2 : p.length < (talOf (Go.Lib.compactUpTo S.toArray (q + 1)) (S.take (q + 1))).length := by rw [talOf_len]; omega
    rw [rdT _ _ hl2]
    simp only [hout]
    rw [List.getElem_append_right (by rw [talOf_len]; exact Nat.le_refl _)]
    simp [talOf_len]
   rw [hrd]
   have hcl := cntI_le S[q] (S.take (q + 1))
   rw [List.length_take] at hcl
   refine evPos (by omega) (evPos (by omega) (evPos (by omega) ?_))
   by_cases hc : S[q] = S[q + 1]
   ·have hk : ¬ Go.Lib.keeps S.toArray (q + 1) = true := by
     unfold Go.Lib.keeps
     rw [decide_eq_true_eq, bang_at S (q + 1) hm, Nat.add_sub_cancel, bang_at S q (by omega), hc]
     rintro (z | z)
     ·omega
     ·exact z rfl
    rw [if_neg hk, List.append_nil] at ih
    refine evPos hc ?_
    have hne : ∀ n ∈ p, n ≠ S[q + 1] := by
     intro n hn e
     rw [hp] at hst
     have := (List.pairwise_append.1 hst).2.2 n hn S[q] (List.mem_singleton.2 rfl)
     omega
    rw [hp, talOf_snoc, htake, talOf_same _ _ _ hne, cntI_append, hc, show cntI S[q + 1] [S[q + 1]] = 1 by unfold cntI cntI; rw [if_pos rfl]] at ih
    rw [w64 (x := (cntI S[q] (S.take (q + 1)) : Int) + 1) (by omega) (by omega), Int.toNat_natCast, hout, List.set_append_right _ _ (by rw [talOf_len]; exact Nat.le_refl _), talOf_len, Nat.sub_self, List.set_cons_zero, hc]
    exact ih
   ·refine evNeg hc (evPos (by omega) ?_)
    refine fresh ?_
    unfold Go.Lib.keeps
    refine decide_eq_true (Or.inr ?_)
    rw [bang_at S (q + 1) hm, Nat.add_sub_cancel, bang_at S q (by omega)]
    exact fun z => hc z.symm
 ·refine evSucc ?_
  simp only [impl_TalliesOf.l1]
  refine evNeg (by omega) ?_
  rw [List.take_length]
  exact Ev.now _
theorem ev_impl_TalliesOf (L : List S131) (hL : L.length ≤ 1048576) : Ev (fun k => impl_TalliesOf.f k L) (tallies L) := by
 have hn := evsL_len L
 have fin : Ev (fun k => impl_TalliesOf.l1 k [] (srtS (evsL L)) ((evsL L).length : Int) 0) (tallies L) := by
  have h := ev_impl_runs (srtS (evsL L)) (srtS_sorted _) (by rw [srtS_len]; omega)
  rw [srtS_len, compact_putAll] at h
  refine evEq h ?_
  unfold tallies talOf
  refine List.map_congr_left (fun n _ => ?_)
  rw [show cntI n (srtS (evsL L)) = cntI n (evsL L) from cntI_perm n (List.mergeSort_perm _ _)]
 have key := evUp (r := tallies L) L.length (fun i k => impl_TalliesOf.l0 k (evsL (L.take i)) L (L.length : Int) (i : Int)) ?_ ?_
 ·exact key
 ·intro i hi ih
  have hs : evsL (L.take (i + 1)) = evsL (L.take i) ++ (if evB L[i] = true then [evN L[i]] else []) := by
   rw [takeSnoc L i hi]
   unfold evsL
   rw [List.filter_append, List.map_append]
   congr 1
   cases h : evB L[i] <;> simp [List.filter, h]
  have hc2 := evsL_len (L.take i)
  rw [List.length_take] at hc2
  rw [hs] at ih
  refine evSucc ?_
  simp only [impl_TalliesOf.l0]
  refine evPos (by omega) (evPos (by omega) (evPos (by omega) ?_))
  rw [rdE L i hi, w64 (x := (i : Int) + 1) (by omega) (by omega), ci i]
  by_cases h1 : L[i].f2.f0 = 1
  ·rw [if_pos (show evB L[i] = true from beq_iff_eq.2 h1)] at ih
   exact evPos h1 (evPos (by omega) ih)
  ·rw [if_neg (show ¬ evB L[i] = true from fun z => h1 (beq_iff_eq.1 z)), List.append_nil] at ih
   exact evNeg h1 ih
 ·refine evSucc ?_
  simp only [impl_TalliesOf.l0]
  refine evNeg (by omega) ?_
  rw [List.take_length]
  exact evBindS (sort_f _ (by omega)) fin
def mostB (l : List S65) (b : Nat) : List S65 → Nat → Nat
 | [], _ => b
 | t :: r, i => mostB l (if t.f1 > (rd_T65 l (b : Int)).f1 then i else b) r (i + 1)
def mostV (l : List S65) : Int := match l with
 | [] => -1
 | t :: r => (rd_T65 l (mostB l 0 r 1 : Int)).f0
theorem ev_spec_most (l : List S65) (hl : l.length ≤ 1048576) : Ev (fun k => spec_MostTold.l0 k l (-1) 0) (mostV l) := by
 have key : ∀ d (b i : Nat), i + d = l.length → b < i → Ev (fun k => spec_MostTold.l0 k l (b : Int) (i : Int)) (rd_T65 l (mostB l b (l.drop i) i : Int)).f0 := by
  intro d
  induction d with
  | zero =>
   intro b i hi hb
   refine evSucc ?_
   simp only [spec_MostTold.l0]
   rw [List.drop_of_length_le (by omega)]
   exact evNeg (by omega) (evNeg (by omega) (evPos (by omega) (evPos (by omega) (Ev.now _))))
  | succ d ih =>
   intro b i hi hb
   have hlt : i < l.length := by omega
   refine evSucc ?_
   simp only [spec_MostTold.l0]
   refine evPos (by omega) (evNeg (by omega) (evPos (by omega) (evPos (by omega) (evPos (by omega) ?_))))
   rw [w64 (by omega) (by omega), ci, List.drop_eq_getElem_cons hlt]
   unfold mostB
   rw [rdT l i hlt]
   by_cases hc : l[i].f1 > (rd_T65 l (b : Int)).f1
   ·rw [if_pos hc]
    exact evPos hc (ih i (i + 1) (by omega) (by omega))
   ·rw [if_neg hc]
    exact evNeg hc (ih b (i + 1) (by omega) (by omega))
 cases l with
 | nil =>
  refine evSucc ?_
  simp only [spec_MostTold.l0]
  exact evNeg (by simp) (evPos (by omega) (Ev.now _))
 | cons t r =>
  refine evSucc ?_
  simp only [spec_MostTold.l0]
  refine evPos (by rw [List.length_cons]; omega) (evPos (by omega) ?_)
  rw [show wrap64 (0 + 1) = ((1 : Nat) : Int) by rw [w64 (by omega) (by omega)]; rfl]
  exact key r.length 0 1 (by rw [List.length_cons]; omega) (by omega)
theorem ev_impl_most (l : List S65) (hl : l.length ≤ 1048576) (hpos : ∀ t ∈ l, 0 < t.f1) : Ev (fun k => impl_MostTold.l0 k l (l.length : Int) 0 (-1) 0) (mostV l) := by
 have key : ∀ d (b i : Nat), i + d = l.length → b < i → Ev (fun k => impl_MostTold.l0 k l (l.length : Int) (i : Int) (rd_T65 l (b : Int)).f0 (rd_T65 l (b : Int)).f1) (rd_T65 l (mostB l b (l.drop i) i : Int)).f0 := by
  intro d
  induction d with
  | zero =>
   intro b i hi hb
   refine evSucc ?_
   simp only [impl_MostTold.l0]
   rw [List.drop_of_length_le (by omega)]
   exact evNeg (by omega) (Ev.now _)
  | succ d ih =>
   intro b i hi hb
   have hlt : i < l.length := by omega
   refine evSucc ?_
   simp only [impl_MostTold.l0]
   refine evPos (by omega) (evPos (by omega) (evPos (by omega) ?_))
   rw [w64 (by omega) (by omega), ci, List.drop_eq_getElem_cons hlt]
   unfold mostB
   rw [rdT l i hlt]
   by_cases hc : l[i].f1 > (rd_T65 l (b : Int)).f1
   ·rw [if_pos hc]
    have := ih i (i + 1) (by omega) (by omega)
    rw [rdT l i hlt] at this
    exact evPos hc this
   ·rw [if_neg hc]
    exact evNeg hc (ih b (i + 1) (by omega) (by omega))
 cases l with
 | nil =>
  refine evSucc ?_
  simp only [impl_MostTold.l0]
  exact evNeg (by simp) (Ev.now _)
 | cons t r =>
  have h0 : (0 : Nat) < (t :: r).length := by rw [List.length_cons]; omega
  have e0 : rd_T65 (t :: r) 0 = t := rdT (t :: r) 0 h0
  refine evSucc ?_
  simp only [impl_MostTold.l0]
  refine evPos (by omega) (evPos (by omega) (evPos (by omega) (evPos ?_ ?_)))
  ·rw [e0]; exact hpos t (List.mem_cons_self ..)
  ·rw [show wrap64 (0 + 1) = ((1 : Nat) : Int) by rw [w64 (by omega) (by omega)]; rfl]
   exact key r.length 0 1 (by rw [List.length_cons]; omega) (by omega)
theorem tallies_pos (L : List S131) : ∀ t ∈ tallies L, 0 < t.f1 := by
 intro t ht
 unfold tallies talOf at ht
 obtain ⟨n, hn, rfl⟩ := List.mem_map.1 ht
 have hm := ((putAll_law (evsL L) [] List.Pairwise.nil).2 n).1 hn
 have := cntI_pos n (evsL L) (hm.elim (fun e => by cases e) id)
 show (0 : Int) < (cntI n (evsL L) : Int)
 omega
theorem ev_spec_MostTold (L : List S131) (hL : L.length ≤ 1048576) : Ev (fun k => spec_MostTold.f k L) (mostV (tallies L)) := by
 have := tallies_len L
 simp only [spec_MostTold.f]
 exact Ev.bind (ev_spec_TalliesOf L hL) (ev_spec_most _ (by omega))
theorem ev_impl_MostTold (L : List S131) (hL : L.length ≤ 1048576) : Ev (fun k => impl_MostTold.f k L) (mostV (tallies L)) := by
 have := tallies_len L
 simp only [impl_MostTold.f]
 exact Ev.bind (ev_impl_TalliesOf L hL) (ev_impl_most _ (by omega) (tallies_pos L))
theorem FnExactMostTold : PureFnExactMostTold.Stated := by
 intro l ⟨_, hb⟩
 refine Ev.rounds ?_
 simp only [laws_FnExactMostTold.f]
 by_cases h2 : l.length ≤ 1048576
 ·rw [szEntryS_small l h2]
  simp only [Option.bind_some]
  have hm : (l.map cvEntry).length ≤ 1048576 := by simpa using h2
  refine evNeg (by omega) (Ev.bind (ev_toEntryS l h2) (Ev.bind (ev_spec_MostTold _ hm) (Ev.bind (ev_toEntryS l h2) (Ev.bind (ev_impl_MostTold _ hm) (evPos rfl (Ev.bind (ev_toEntryS l h2) (Ev.bind (ev_eqEntryS _ hm) (evPos rfl (Ev.now _)))))))))
 ·rw [szEntryS_big l (by omega) hb]
  simp only [Option.bind_some]
  exact evPos (by omega) (Ev.now _)

end Go.Proofs.Ytmjlhikflhbdaaa.Pure

namespace Go.Proofs.Ytmjlhikflhbdaaa.fnExactMostTold
open Go.ChangeShapes Go.WideShapes Go.ChangeAt Go.RowKit Go.Proofs.Ytmjlhikflhbdaaa.PA Go.Proofs.Ytmjlhikflhbdaaa.PureFnExactMostTold Go.Proofs.YtmjlhikflhbdaaaW.PrintWords
open Go.ChangeMaps (open_string shut_string)
set_option linter.unusedVariables false
set_option linter.unusedSimpArgs false
theorem own : ownKnob Try.prog.godebug = none := by kernel_rfl
theorem laidOut : laidOutB Try.prog = true := by kernel_rfl
theorem op133 : Op.Opens Try.prog k133 133 ok133 := Op.opStruct Try.underlying133 (by kernel_rfl) (Op.fieldsCons (Op.opInt Try.underlying3 (by kernel_rfl)) rfl (Op.fieldsCons (Op.opInt Try.underlying3 (by kernel_rfl)) rfl (Op.fieldsCons (Op.opInt Try.underlying3 (by kernel_rfl)) rfl (Op.fieldsOne (Op.opInt Try.underlying3 (by kernel_rfl)) rfl)))) (fun a => ⟨a.1, a.2.1, a.2.2.1, a.2.2.2⟩) (fun a => rfl) (fun a h => h)
theorem op135 : Op.Opens Try.prog k135 135 ok135 := Op.opStruct Try.underlying135 (by kernel_rfl) (Op.fieldsCons (Op.opInt Try.underlying3 (by kernel_rfl)) rfl (Op.fieldsCons (Op.opInt Try.underlying3 (by kernel_rfl)) rfl (Op.fieldsOne op133 rfl))) (fun a => ⟨a.1, a.2.1, a.2.2⟩) (fun a => rfl) (fun a h => h)
set_option maxRecDepth 100000 in
theorem lifted (os : Os) (started : os.Started) (H : Type) (enc : TypeId × Value → H) :
 ReturnsInHanded {} Try.checked os 7 .any (Rows.fnExactMostToldSpec.pre6 enc Try.prog Try.f7 Rows.fnExactMostToldRow.domain false) (Rows.fnExactMostToldSpec.post enc Try.prog Try.f7 false true false false) := by
 refine returnsInHanded_of_change_sized (C := Try.checked) own started (by kernel_rfl) Try.func7
  (ChangeSpec.witness6 (enc := enc) (C := Try.checked) false ⟨#[], #[.slice none 0 0], []⟩ 8 (by kernel_rfl) (by kernel_rfl) (by kernel_rfl) (by kernel_rfl)) ?_
 intro W base args ds gs before hval0 hW hcnd hsz0 _
 have hval : ∀ (j : Nat) t v, Try.f7.params[j]? = some t → args[j]? = some v → Value.okWide Try.prog W .any base t v := hval0
 have hW' := hW
 obtain ⟨p, q, hA0, hV, rfl, hfz, hnd⟩ := hW
 have hA : DataW.TrodAll enc Try.prog W 0 (fun _ => true) true Try.f7.params.toList args.toList ds p := hA0
 rw [Try.params7] at hA hval
 obtain ⟨v0, vs0, d0, ds0, p0, q0, hargs, rfl, rfl, h0, r0⟩ := trodAll_cons hA
 obtain ⟨rfl, rfl, rfl⟩ := trodAll_nil r0
 obtain rfl : args = #[v0] := by cases args; simp_all
 obtain ⟨rfl, rfl⟩ := trodVars_none hV
 have k0 := h0
 have lt0 : ∀ x ∈ p0, x.block < W.heap.size := by obtain ⟨m, hm⟩ := k0; exact DataW.trod_lt m _ _ _ hm
 obtain ⟨m0, hm0⟩ := h0
 obtain ⟨A0, n0, c0, rfl⟩ := okWide_slice Try.underlying47 (hval 0 47 v0 rfl rfl)
 obtain ⟨x0, ⟨A0', c0', hs0, hc0, hr0⟩, hG0⟩ := (Op.opSlice Try.underlying47 (by kernel_rfl) 135 op135).op hm0
 obtain ⟨rfl, rfl, rfl⟩ : A0 = A0' ∧ n0 = x0.length ∧ c0 = c0' := by simpa [Value.cells] using hs0
 obtain ⟨k, h⟩ := Pure.FnExactMostTold x0 hG0
 refine (laws_FnExactMostTold.calls k A0 c0 x0 true W hr0 hc0 rfl h).mono fun e W' ⟨he, bel⟩ => ?_
 subst he
 exact ⟨_, rfl, _, _, _, [], _, [], hW', trodAll_mk1 (shut_bool Try.underlying4 _), (trodAll_cons_mk (Below.trod laidOut (by kernel_rfl) (of_decide_eq_true (by kernel_rfl)) k0 bel lt0) trodAll_mk0), rfl, bel.frame _, fun h => by cases h⟩
theorem over : Rows.fnExactMostToldRow.holds Try.pinned (OpenSpec.ofChange Rows.fnExactMostToldSpec) :=
 OpenClaim.holds_of_wide 7 Try.f7 rfl rfl rfl rfl rfl rfl rfl ⟨rfl, rfl, rfl, rfl, rfl⟩ rfl rfl rfl rfl rfl (by kernel_rfl) Try.func7 (by kernel_rfl)
  (of_decide_eq_true (by kernel_rfl)) (by unfold Func.isWrapper; first | (rw [if_pos (by decide +kernel)]; kernel_rfl) | (rw [if_neg (by decide +kernel)]; exact ⟨rfl, rfl⟩))
  (fun os started H enc _ => lifted os started H enc)
theorem proved : Rows.FnExactMostToldSaid := over
#print axioms proved
end Go.Proofs.Ytmjlhikflhbdaaa.fnExactMostTold
namespace Go.Proofs.Ytmjlhikflhbdaaa
/-- The row, under a short name, for the claim. -/
theorem fnExactMostTold_holds : Rows.FnExactMostToldSaid := fnExactMostTold.proved
end Go.Proofs.Ytmjlhikflhbdaaa
